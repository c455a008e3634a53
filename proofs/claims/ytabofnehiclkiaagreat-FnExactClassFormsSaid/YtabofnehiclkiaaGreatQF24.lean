/- Walks of functions: each computes its pure function, if that gives a value. -/
import Derived.Test.YtabofnehiclkiaaGreatQF23
namespace Go.Proofs.YtabofnehiclkiaaGreat
open Go Go.Proofs.Tryz
set_option linter.unusedSimpArgs false
set_option linter.unusedVariables false
set_option maxRecDepth 100000
set_option maxHeartbeats 8000000
variable {K : Nat} {H : FH} {w : World} {L : OL} {s0 s1 s2 s3 s4 s5 s6 : Value}
theorem Xh2 (M : List A8) : ∀ k, Srt (Ya3 M k)
 | 0 => List.Pairwise.nil
 | k + 1 => Yl1 (Xh2 M k) _ _
theorem Xj7 {M : List A8} {i : Nat} (h : i < M.length) : rd M (i : Int) = M[i] := by unfold rd; rw [Int.toNat_natCast, Q8 h]
theorem Xh3 {M : List A8} (hM : M.Nodup) : ∀ k, k ≤ M.length → ∀ i, i < k → (rd M (i : Int), (i : Int)) ∈ Ya3 M k
 | 0, _, i, hi => by omega
 | k + 1, hk, i, hi => by
  rw [Ya3]
  by_cases e : i = k
  subst e; exact Yb2.2 (.inl rfl)
  refine Yb2.2 (.inr ⟨Xh3 hM k (by omega) i (by omega), fun h => ?_⟩)
  replace h : rd M (i : Int) = rd M (k : Int) := h
  rw [Xj7 (by omega), Xj7 (by omega)] at h
  exact e ((List.getElem_inj hM).1 h)
theorem Wo7 {M : List A8} (hM : M.Nodup) {i : Nat} (hi : i < M.length) : N7 (Ya3 M M.length) (rd M (i : Int)) = (i : Int) :=
 Ym0 (Zt0 (Xh2 M _)) (Xh3 hM _ (Nat.le_refl _) i hi)
def Ze8 (M : List A8) (ds : MpT) : List Int := M.map fun p => N7 ds p
theorem Yx4 (z : A8 × Int) (ds : MpT) (p : A8) : N7 (z :: ds) p = if p = z.1 then z.2 else N7 ds p := by
 unfold N7
 rw [List.find?_cons]
 cases he : eq8 p z.1 with
 | true => rw [if_pos (Zd5.1 he)]; rfl
 | false => rw [if_neg (fun e => by rw [Zd5.2 e] at he; cases he)]
theorem Ws8 {M : List A8} (hM : M.Nodup) (ds : MpT) (z : A8 × Int) {i : Nat} (hi : i < M.length) (hz : rd M (i : Int) = z.1) : (Ze8 M ds).set i z.2 = Ze8 M (z :: ds) := by
 apply List.ext_getElem
 unfold Ze8; simp
 intro j h1 h2
 have hj : j < M.length := by simpa [Ze8] using h2
 rw [List.getElem_set]
 have e1 : (Ze8 M ds)[j]'(by simpa [Ze8] using hj) = N7 ds M[j] := List.getElem_map ..
 have e2 : (Ze8 M (z :: ds))[j] = N7 (z :: ds) M[j] := List.getElem_map ..
 rw [e1, e2, Yx4]
 rw [Xj7 hi] at hz
 by_cases e : i = j
 subst e; rw [if_pos rfl, if_pos hz]
 rw [if_neg e, if_neg (fun h => e ((List.getElem_inj hM).1 (hz.trans h.symm)))]
def Ws7 (M : List A8) (s : MpT) : Bool := decide (M.Nodup ∧ M.length ≤ 1099511627776 ∧ ∀ z, z ∈ s → z.1 ∈ M)
def Zn6 (K : Nat) (M : List A8) (s : MpT) : Option (List Int) := if Ws7 M s = true then some (Ze8 M s) else none
theorem Vh2 {K : Nat} {M : List A8} {a1 : MpT} {r : List Int} (q0 : Zn6 K M a1 = some r) {H : FH} {w : World} {L : OL} {bl : Nat} {cs : Array Value} {v0 v1 s1 : Value} (hb : (bl, Obj.cells cs 102) ∈ L) (h0 : cs[0]? = some v0) (h1 : cs[1]? = some v1)
 (hv0 : Y3 (P0 .i64) H v0 M) (hv1 : N1 .i64 H v1 (Ya3 M M.length)) (hs1 : N1 .i64 H s1 a1) (hS : St H w L) :
 Calls prog 191 #[vP bl, s1] w (Yg2 (Y4 .i64) 2 r H L) := by
 unfold Zn6 at q0
 by_cases hok : Ws7 M a1 = true
 case neg => rw [if_neg hok] at q0; cases q0
 rw [if_pos hok] at q0
 obtain rfl := oi q0
 obtain ⟨ok1, ok2, ok3⟩ := of_decide_eq_true hok
 have hsrt := hs1.srt
 refine X0 func191 rfl ntmps191 rfl ?_
 repeat refine Z1 ?_
 refine Z0 (Z5 (vN) rfl rfl (Z2 ?_))
 repeat refine Z1 ?_
 refine Z0 (Z3 (vP bl) rfl rfl (V4 rfl rfl (Y2 Ye0 rfl rfl ?_)))
 refine Y0 v0 Yz0 rfl (hS.own _ hb) h0 rfl ?_
 refine X9 Yb1 rfl hv0 rfl ?_
 refine Yh1 (τ := Y4 .i64) (0 : Int) Yb8 rfl rfl rfl (fun _ => rfl) (by omega) (by omega) hS rfl ?_
 intro vr w2 C2 ho hS
 refine Z5 vr rfl rfl (Z2 ?_)
 rw [Int.toNat_natCast, show List.replicate M.length (0 : Int) = Ze8 M [] from by unfold Ze8; rw [show (fun p => N7 ([] : MpT) p) = fun _ => 0 from rfl, List.map_const']] at ho
 repeat refine Z1 ?_
 refine Z0 (Z3 s1 rfl rfl ?_)
 refine Yi9 Zr1 rfl hs1 hS rfl ?_
 intro it w3 Ci hit hS
 refine Z2 (Y7 ?_)
 refine W0 (id := 0) (fun k f w => ∃ (zs ds : MpT) (H1 : FH) (Ci Cr : OL), (zs ++ ds).Perm a1 ∧ zs.length < k ∧ Sub H H1 ∧ St H1 w (Ci ++ (Cr ++ L)) ∧ Zg4 .i64 H1 it zs none Ci ∧ X8 (Y4 .i64) 2 H1 vr (Ze8 M ds) Cr ∧ tv f 0 = vP bl ∧ tv f 5 = vr ∧ tv f 15 = it)
  (fun f w => ∃ (H1 : FH) (Cr : OL), Sub H H1 ∧ St H1 w (Cr ++ L) ∧ X8 (Y4 .i64) 2 H1 vr (Ze8 M a1) Cr ∧ tv f 5 = vr) rfl ?_ ?_ (a1.length + 1) ?_ ?_
 rintro f w ⟨zs, ds, H1, Ci, Cr, _, h2, _⟩; omega
 rintro k f w ih hx ⟨zs, ds, H1, Ci, Cr, hp, hk, Z4, hS, hit, ho, t0, t5, t15⟩
 repeat refine Z1 ?_
 refine Z0 ?_
 refine Yo9 (by exact t15) hit hS rfl ?_ ?_
 intro hz; subst hz
 refine V3 (vB false) rfl rfl rfl (Z2 ?_)
 repeat refine Z1 ?_
 refine Z7 rfl (X7 rfl ?_)
 have e : Ze8 M ds = Ze8 M a1 := by
  unfold Ze8
  refine List.map_congr_left fun p _ => ?_
  exact Yv2 hp ((hp.map Prod.fst).nodup_iff.2 (Zt0 hsrt)) p
 rw [e] at ho
 exact hx _ _ ⟨H1, Cr, Z4, hS.dropA, ho, t5⟩
 intro z zs' w4 Ci' hzp hit hS
 refine V3 (vB true) rfl rfl rfl (Z2 ?_)
 repeat refine Z1 ?_
 refine Z8 rfl (Y6 ?_)
 repeat refine Z1 ?_
 refine Y7 ?_
 repeat refine Z1 ?_
 refine Z0 ?_
 have hzM : z.1 ∈ M := ok3 z (hp.mem_iff.1 (List.mem_append_left _ (hzp.mem_iff.2 (List.mem_cons_self ..))))
 obtain ⟨i, hi, hMi⟩ := List.getElem_of_mem hzM
 have hrd : rd M (i : Int) = z.1 := by rw [Xj7 hi]; exact hMi
 refine Yj3 (by exact t15) hit hS rfl (V3 (vA (Z6 .i64 z.1)) rfl rfl rfl (V3 (vI z.2) rfl rfl rfl ?_))
 refine U4 (z := vA (Z6 .i64 (fun _ => 0))) (Z6 .i64 (fun _ => 0)).toArray Zl5.zero rfl hS rfl ?_
 intro bq w5 hS
 refine W4 (v := vA (Z6 .i64 z.1)) (vs := (Z6 .i64 z.1).toArray) (cs := (Z6 .i64 (fun _ => 0)).toArray) Q6 rfl rfl rfl hS rfl (R3 .i64 z.1) rfl ?_
 intro w6 hS
 refine Z5 (vI z.2) rfl rfl (Z2 ?_)
 repeat refine Z1 ?_
 refine Zk4 fun f2 hf2 => ?_
 have t0 : tv f2 0 = vP bl := by rw [hf2]; exact t0
 have t5 : tv f2 5 = vr := by rw [hf2]; exact t5
 have t6 : tv f2 6 = vP bq := by rw [hf2]; rfl
 have t7 : tv f2 7 = vI z.2 := by rw [hf2]; rfl
 have t15 : tv f2 15 = it := by rw [hf2]; exact t15
 clear hf2
 have hv0 := hv0.mono Z4
 have hv1 := hv1.mono Z4
 refine W6 8 (S8 [mE 21 vr, mE 22 (vP bl), mE 23 (vP bl), mE 24 (vQ bl 1), mE 25 v1, mE 26 (vA (Z6 .i64 z.1)), mE 27 (vI (N7 (Ya3 M M.length) z.1)), mE 28 (vI z.2)]) [] mixed rfl rfl rfl hS (V6 ?_ ?_ ?_ ?_ ?_ ?_ ?_ ?_ V1) ?_
 exact X4 fun S B => Z3 _ (evT (B 5 rfl) t5) rfl (qz S)
 exact X4 fun S B => Z3 _ (evT (B 0 rfl) t0) rfl (qz S)
 exact Y8 fun S V => V4 (eM (V 1 22 rfl rfl)) rfl (qz S)
 exact Y8 fun S V => Y2 Xy8 (eM (V 2 23 rfl rfl)) rfl (qz S)
 exact Y8 fun S V => Y0 v1 Wx6 (eM (V 3 24 rfl rfl)) (S.own _ (mR (mR (mR (mR hb))))) h1 rfl (qz S)
 exact X4 fun S B => W1 Q6 (evT (B 6 rfl) t6) (S.get (mR mL)) rfl rfl (qz S)
 exact Q9 fun s S V => Xp8 (a := z.1) Wx4 (eM (V 4 25 rfl rfl)) (eM (V 5 26 rfl rfl)) (hv1.mono s) S rfl (qz S)
 exact X4 fun S B => Z3 _ (evT (B 7 rfl) t7) rfl (qz S)
 intro f3 w7 H5 s5 hS hB hV hcq
 have t21 : f3 21 = vr := eM (hV 0 21 (by decide) rfl)
 have t27 : f3 27 = vI (i : Int) := (eM (hV 6 27 (by decide) rfl)).trans (by rw [← hrd, Wo7 ok1 hi])
 have t28 : f3 28 = vI z.2 := eM (hV 7 28 (by decide) rfl)
 have hS : St H5 w7 (Cr ++ (Ci' ++ L)) := hS.dropA.dropA.swap
 have ho := ho.mono s5
 have hlen : (Ze8 M ds).length = M.length := by unfold Ze8; simp
 have hil : (i : Int) < ((Ze8 M ds).length : Int) := by rw [hlen]; omega
 obtain ⟨rb, rc, hvr⟩ := ho.some (i := (i : Int)) (by omega) hil
 refine P2 U5 (Eq.trans (by exact t21) hvr) (by exact t27) (by omega) hil rfl ?_
 refine Zd0 (τ := Y4 .i64) (v := vr) (u := vI z.2) z.2 (i := (i : Int)) rfl ty2 hvr ho hS rfl (by exact t28) (by omega) hil rfl ?_
 intro w8 C8 ho hS
 rw [Int.toNat_natCast, Ws8 ok1 ds z hi hrd] at ho
 refine Z2 (X1 ?_)
 refine ih _ _ ⟨zs', z :: ds, H5, Ci', C8, ?_, ?_, Z4.trans s5, hS.swap, (hit.mono s5).drop, ho, (evT (hB 0 rfl) t0), (evT (hB 5 rfl) t5), (evT (hB 15 rfl) t15)⟩
 refine List.Perm.trans ?_ hp
 exact List.perm_middle.trans (List.Perm.append_right ds hzp.symm)
 have := hzp.length_eq; simp at this; omega
 exact ⟨a1, [], H, Ci, C2, by simp, by omega, .refl _, hS, hit, ho, rfl, rfl, rfl⟩
 rintro f w ⟨H1, Cr, Z4, hS, ho, t5⟩
 repeat refine Z1 ?_
 refine Z0 (Z3 vr (by exact t5) rfl (Z5 vr rfl rfl (Z2 ?_)))
 exact Y9 (vs := [vr]) func191 ⟨rfl, trivial⟩ ⟨_, _, _, rfl, Z4, hS, ho⟩
def Zf2 (K : Nat) (a0 : ((List Int) × (List MpT))) (a1 : Int) : Option (List MpT) := ((Zk2 K (a0.1, a0.2) a1).bind fun a5 => ((P7 K a0.1 a1).bind fun a6 => ((Zj2 K a5 a6).bind fun a4 => some a4)))
theorem Ym2 {a0 : ((List Int) × (List MpT))} {a1 : Int} {r : (List MpT)} (q0 : Zf2 K a0 a1 = some r) (a3 : Y3 (Y4 .i64) H s0 a0.1) (a7 : Y3 (X2 yT) H s1 a0.2) (hS : St H w L) :
 Calls prog 75 #[vA ([s0] ++ [s1]), vI a1] w (U6 (fun v G => (R.sl (X2 yT)).p G v r) H L) := by
 have Z4 := Sub.refl H
 refine X0 func75 rfl ntmps75 rfl ?_
 unfold Zf2 at q0
 refine Z1 (Z0 ?_)
 refine T5 (v := vA ([s0] ++ [s1])) ([s0] ++ [s1]).toArray rfl rfl hS rfl ?_
 intro b1 _ hS
 refine Z5 (vN) rfl rfl (Z2 (Z1 ?_))
 obtain ⟨a5, b6, q0⟩ := bind_some q0
 obtain ⟨a6, b7, q0⟩ := bind_some q0
 obtain ⟨a4, b8, q0⟩ := bind_some q0
 refine W6 9 (S8 [mE 5 (vA ([s0] ++ [s1])), mE 6 (vI a1), (7, MP.rep (R.sl (X2 (Y4 .i64))) (a5)), mE 8 (vP b1), mE 9 (s0), mE 10 (vI a1), (11, MP.rep (R.sl (P0 .u8)) (a6)), (12, MP.rep (R.sl (X2 yT)) (a4)), (4, MP.sl (X2 yT) (a4))]) [] mixed rfl rfl rfl hS (V6 ?_ ?_ ?_ ?_ ?_ ?_ ?_ ?_ (F8 ?_ V1)) ?_
 exact X4 fun S B => W1 Zt4 (evT (B 2 rfl) rfl) (S.get (mR mL)) rfl rfl (qz S)
 exact X4 fun S B => Z3 (vI a1) (evT (B 1 rfl) rfl) rfl (qz S)
 intro _ _ _ _ a8 hS _ a9 hcq
 have a3 := a3.mono a8
 have a7 := a7.mono a8
 refine X3 call137 (W9 (eM (a9 0 5 rfl rfl)) (eM (a9 1 6 rfl rfl))) rfl (Yp9 b6 a3 a7 hS) ?_
 rintro _ _ _ b9 hS c0
 exact qn b9 rfl hS c0
 exact X4 fun S B => Y2 L5 (evT (B 2 rfl) rfl) rfl (qz S)
 exact Y8 fun S V => Y0 (s0) P3 (eM (V 3 8 rfl rfl)) (S.get (mR mL)) rfl rfl (qz S)
 exact X4 fun S B => Z3 (vI a1) (evT (B 1 rfl) rfl) rfl (qz S)
 intro _ _ _ _ c1 hS _ b0 hcq
 have a3 := a3.mono c1
 refine X3 call99 (W9 (eM (b0 4 9 rfl rfl)) (eM (b0 5 10 rfl rfl))) rfl (Zc7 b7 a3 hS) ?_
 rintro _ _ _ c2 hS c3
 exact qn c2 rfl hS c3
 intro _ _ _ _ _ hS _ b2 hcq
 obtain ⟨_, d2, c4⟩ := gvR (b2 2 7 rfl rfl)
 obtain ⟨_, d3, c5⟩ := gvR (b2 6 11 rfl rfl)
 refine X3 call97 (W9 d2 d3) rfl (Yv4 b8 c4 c5 hS) ?_
 rintro _ _ _ c6 hS c7
 exact qn c6 rfl hS c7
 intro _ _ _ _ _ hS _ c8 hcq
 obtain ⟨d4, d5, c9⟩ := gvR (c8 7 12 rfl rfl)
 refine Z5 (d4) d5 rfl ?_
 exact qn (.refl _) rfl hS c9
 intro _ d6 d7 b3 hS _ b4 hcq
 have hS : St d7 d6 ([(b1, cA ([s0] ++ [s1]) 31)] ++ L) := hS
 have Z4 := Z4.trans b3
 obtain ⟨d0, d1, b5⟩ := gvS (b4 8 4 (by decide) rfl)
 refine Z2 ?_
 refine Y9 (vs := [d0]) func75 ⟨(by exact d1), trivial⟩ ?_
 obtain rfl := oi q0
 exact ⟨_, _, rfl, Z4, (St.dropA hS), b5⟩
end Go.Proofs.YtabofnehiclkiaaGreat
