/- Walks of functions: each computes its pure function, if that gives a value. -/
import Derived.Test.YtabofnehiclkiaaGreatYF23
import Derived.Test.YtabofnehiclkiaaGreatYF10
namespace Go.Proofs.YtabofnehiclkiaaGreat
open Go
set_option linter.unusedSimpArgs false
set_option linter.unusedVariables false
set_option maxRecDepth 100000
set_option maxHeartbeats 8000000
variable {K : Nat} {H : FH} {w : World} {L : OL} {s0 s1 s2 s3 s4 s5 s6 : Value}
theorem Xd7 (M : List A8) : ∀ k, Srt (Zy4 M k)
 | 0 => List.Pairwise.nil
 | k + 1 => Yi7 (Xd7 M k) _ _
theorem Xg7 {M : List A8} {i : Nat} (h : i < M.length) : rd M (i : Int) = M[i] := by unfold rd; rw [Int.toNat_natCast, Q7 h]
theorem Xe7 {M : List A8} (hM : M.Nodup) : ∀ k, k ≤ M.length → ∀ i, i < k → (rd M (i : Int), (i : Int)) ∈ Zy4 M k
 | 0, _, i, hi => by omega
 | k + 1, hk, i, hi => by
  rw [Zy4]
  by_cases e : i = k
  subst e; exact Zz1.2 (.inl rfl)
  refine Zz1.2 (.inr ⟨Xe7 hM k (by omega) i (by omega), fun h => ?_⟩)
  replace h : rd M (i : Int) = rd M (k : Int) := h
  rw [Xg7 (by omega), Xg7 (by omega)] at h
  exact e ((List.getElem_inj hM).1 h)
theorem Wi4 {M : List A8} (hM : M.Nodup) {i : Nat} (hi : i < M.length) : N3 (Zy4 M M.length) (rd M (i : Int)) = (i : Int) :=
 Yj7 (Zr4 (Xd7 M _)) (Xe7 hM _ (Nat.le_refl _) i hi)
/-- a sum as a row over the monomials M -/
def Zd7 (M : List A8) (ds : MpT) : List Int := M.map fun p => N3 ds p
theorem Yt2 (z : A8 × Int) (ds : MpT) (p : A8) : N3 (z :: ds) p = if p = z.1 then z.2 else N3 ds p := by
 unfold N3
 rw [List.find?_cons]
 cases he : eq8 p z.1 with
 | true => rw [if_pos (Zc7.1 he)]; rfl
 | false => rw [if_neg (fun e => by rw [Zc7.2 e] at he; cases he)]
theorem Wp5 {M : List A8} (hM : M.Nodup) (ds : MpT) (z : A8 × Int) {i : Nat} (hi : i < M.length) (hz : rd M (i : Int) = z.1) : (Zd7 M ds).set i z.2 = Zd7 M (z :: ds) := by
 apply List.ext_getElem
 unfold Zd7; simp
 intro j h1 h2
 have hj : j < M.length := by simpa [Zd7] using h2
 rw [List.getElem_set]
 have e1 : (Zd7 M ds)[j]'(by simpa [Zd7] using hj) = N3 ds M[j] := List.getElem_map ..
 have e2 : (Zd7 M (z :: ds))[j] = N3 (z :: ds) M[j] := List.getElem_map ..
 rw [e1, e2, Yt2]
 rw [Xg7 hi] at hz
 by_cases e : i = j
 subst e; rw [if_pos rfl, if_pos hz]
 rw [if_neg e, if_neg (fun h => e ((List.getElem_inj hM).1 (hz.trans h.symm)))]
def Wr6 (M : List A8) (s : MpT) : Bool := decide (M.Nodup ∧ M.length ≤ 1099511627776 ∧ ∀ z, z ∈ s → z.1 ∈ M)
def Zk5 (K : Nat) (M : List A8) (s : MpT) : Option (List Int) := if Wr6 M s = true then some (Zd7 M s) else none
theorem Vf1 {K : Nat} {M : List A8} {a1 : MpT} {r : List Int} (q0 : Zk5 K M a1 = some r) {H : FH} {w : World} {L : OL} {bl : Nat} {cs : Array Value} {v0 v1 s1 : Value} (hb : (bl, Obj.cells cs 102) ∈ L) (h0 : cs[0]? = some v0) (h1 : cs[1]? = some v1)
 (hv0 : Y4 (P0 .i64) H v0 M) (hv1 : P9 .i64 H v1 (Zy4 M M.length)) (hs1 : P9 .i64 H s1 a1) (hS : St H w L) :
 Calls Tryz.prog 191 #[vP bl, s1] w (Yx0 (Y9 .i64) 2 r H L) := by
 unfold Zk5 at q0
 by_cases hok : Wr6 M a1 = true
 case neg => rw [if_neg hok] at q0; cases q0
 rw [if_pos hok] at q0
 obtain rfl := oi q0
 obtain ⟨ok1, ok2, ok3⟩ := of_decide_eq_true hok
 have hsrt := hs1.srt
 refine X1 Tryz.func191 rfl Tryz.ntmps191 rfl ?_
 repeat refine Z1 ?_
 refine Z0 (Z5 (vN) rfl rfl (Z2 ?_))
 repeat refine Z1 ?_
 refine Z0 (Z3 (vP bl) rfl rfl (V4 rfl rfl (Y3 Yd1 rfl rfl ?_)))
 refine Y1 v0 Yv9 rfl (hS.own _ hb) h0 rfl ?_
 refine X9 Zz2 rfl hv0 rfl ?_
 refine Ye2 (τ := Y9 .i64) (0 : Int) Yl1 rfl rfl rfl (fun _ => rfl) (by omega) (by omega) hS rfl ?_
 intro vr w2 C2 ho hS
 refine Z5 vr rfl rfl (Z2 ?_)
 rw [Int.toNat_natCast, show List.replicate M.length (0 : Int) = Zd7 M [] from by unfold Zd7; rw [show (fun p => N3 ([] : MpT) p) = fun _ => 0 from rfl, List.map_const']] at ho
 repeat refine Z1 ?_
 refine Z0 (Z3 s1 rfl rfl ?_)
 refine Yg6 Zp8 rfl hs1 hS rfl ?_
 intro it w3 Ci hit hS
 refine Z2 (Y8 ?_)
 refine W1 (id := 0) (fun k f w => ∃ (zs ds : MpT) (H1 : FH) (Ci Cr : OL), (zs ++ ds).Perm a1 ∧ zs.length < k ∧ Sub H H1 ∧ St H1 w (Ci ++ (Cr ++ L)) ∧ Zf2 .i64 H1 it zs none Ci ∧ W0 (Y9 .i64) 2 H1 vr (Zd7 M ds) Cr ∧ tv f 0 = vP bl ∧ tv f 5 = vr ∧ tv f 15 = it)
  (fun f w => ∃ (H1 : FH) (Cr : OL), Sub H H1 ∧ St H1 w (Cr ++ L) ∧ W0 (Y9 .i64) 2 H1 vr (Zd7 M a1) Cr ∧ tv f 5 = vr) rfl ?_ ?_ (a1.length + 1) ?_ ?_
 rintro f w ⟨zs, ds, H1, Ci, Cr, _, h2, _⟩; omega
 rintro k f w ih hx ⟨zs, ds, H1, Ci, Cr, hp, hk, Z4, hS, hit, ho, t0, t5, t15⟩
 repeat refine Z1 ?_
 refine Z0 ?_
 refine Ym2 (by exact t15) hit hS rfl ?_ ?_
 intro hz; subst hz
 refine V3 (vB false) rfl rfl rfl (Z2 ?_)
 repeat refine Z1 ?_
 refine Z8 rfl (X8 rfl ?_)
 have e : Zd7 M ds = Zd7 M a1 := by
  unfold Zd7
  refine List.map_congr_left fun p _ => ?_
  exact Yu0 hp ((hp.map Prod.fst).nodup_iff.2 (Zr4 hsrt)) p
 rw [e] at ho
 exact hx _ _ ⟨H1, Cr, Z4, hS.dropA, ho, t5⟩
 intro z zs' w4 Ci' hzp hit hS
 refine V3 (vB true) rfl rfl rfl (Z2 ?_)
 repeat refine Z1 ?_
 refine Z9 rfl (Y6 ?_)
 repeat refine Z1 ?_
 refine Y8 ?_
 repeat refine Z1 ?_
 refine Z0 ?_
 have hzM : z.1 ∈ M := ok3 z (hp.mem_iff.1 (List.mem_append_left _ (hzp.mem_iff.2 (List.mem_cons_self ..))))
 obtain ⟨i, hi, hMi⟩ := List.getElem_of_mem hzM
 have hrd : rd M (i : Int) = z.1 := by rw [Xg7 hi]; exact hMi
 refine Yh1 (by exact t15) hit hS rfl (V3 (vA (Z7 .i64 z.1)) rfl rfl rfl (V3 (vI z.2) rfl rfl rfl ?_))
 refine U3 (z := vA (Z7 .i64 (fun _ => 0))) (Z7 .i64 (fun _ => 0)).toArray Zj8.zero rfl hS rfl ?_
 intro bq w5 hS
 refine W5 (v := vA (Z7 .i64 z.1)) (vs := (Z7 .i64 z.1).toArray) (cs := (Z7 .i64 (fun _ => 0)).toArray) Q5 rfl rfl rfl hS rfl (S7 .i64 z.1) rfl ?_
 intro w6 hS
 refine Z5 (vI z.2) rfl rfl (Z2 ?_)
 repeat refine Z1 ?_
 refine Zj0 fun f2 hf2 => ?_
 have t0 : tv f2 0 = vP bl := by rw [hf2]; exact t0
 have t5 : tv f2 5 = vr := by rw [hf2]; exact t5
 have t6 : tv f2 6 = vP bq := by rw [hf2]; rfl
 have t7 : tv f2 7 = vI z.2 := by rw [hf2]; rfl
 have t15 : tv f2 15 = it := by rw [hf2]; exact t15
 clear hf2
 have hv0 := hv0.mono Z4
 have hv1 := hv1.mono Z4
 refine W8 8 (S8 [mE 21 vr, mE 22 (vP bl), mE 23 (vP bl), mE 24 (vQ bl 1), mE 25 v1, mE 26 (vA (Z7 .i64 z.1)), mE 27 (vI (N3 (Zy4 M M.length) z.1)), mE 28 (vI z.2)]) [] mixed rfl rfl rfl hS (Z6 rfl ?_ (Z6 rfl ?_ (Z6 rfl ?_ (Z6 rfl ?_ (Z6 rfl ?_ (Z6 rfl ?_ (Z6 rfl ?_ (Z6 rfl ?_ V2)))))))) ?_
 exact X5 fun S B => Z3 _ (evT (B 5 rfl) t5) rfl (qz S)
 exact X5 fun S B => Z3 _ (evT (B 0 rfl) t0) rfl (qz S)
 exact Y7 fun S V => V4 (eM (V 1 22 rfl rfl)) rfl (qz S)
 exact Y7 fun S V => Y3 Xu2 (eM (V 2 23 rfl rfl)) rfl (qz S)
 exact Y7 fun S V => Y1 v1 Wv2 (eM (V 3 24 rfl rfl)) (S.own _ (mR (mR (mR (mR hb))))) h1 rfl (qz S)
 exact X5 fun S B => W3 Q5 (evT (B 6 rfl) t6) (S.get (mR mL)) rfl rfl (qz S)
 exact Q8 fun s S V => Xl6 (a := z.1) Wu5 (eM (V 4 25 rfl rfl)) (eM (V 5 26 rfl rfl)) (hv1.mono s) S rfl (qz S)
 exact X5 fun S B => Z3 _ (evT (B 7 rfl) t7) rfl (qz S)
 intro f3 w7 H5 s5 hS hB hV hcq
 have t21 : f3 21 = vr := eM (hV 0 21 (by decide) rfl)
 have t27 : f3 27 = vI (i : Int) := (eM (hV 6 27 (by decide) rfl)).trans (by rw [← hrd, Wi4 ok1 hi])
 have t28 : f3 28 = vI z.2 := eM (hV 7 28 (by decide) rfl)
 have hS : St H5 w7 (Cr ++ (Ci' ++ L)) := hS.dropA.dropA.swap
 have ho := ho.mono s5
 have hlen : (Zd7 M ds).length = M.length := by unfold Zd7; simp
 have hil : (i : Int) < ((Zd7 M ds).length : Int) := by rw [hlen]; omega
 obtain ⟨rb, rc, hvr⟩ := ho.some (i := (i : Int)) (by omega) hil
 refine P3 U5 (Eq.trans (by exact t21) hvr) (by exact t27) (by omega) hil rfl ?_
 refine Ze3 (τ := Y9 .i64) (v := vr) (u := vI z.2) z.2 (i := (i : Int)) rfl ty2 hvr ho hS rfl (by exact t28) (by omega) hil rfl ?_
 intro w8 C8 ho hS
 rw [Int.toNat_natCast, Wp5 ok1 ds z hi hrd] at ho
 refine Z2 (X2 ?_)
 refine ih _ _ ⟨zs', z :: ds, H5, Ci', C8, ?_, ?_, Z4.trans s5, hS.swap, (hit.mono s5).drop, ho, (evT (hB 0 rfl) t0), (evT (hB 5 rfl) t5), (evT (hB 15 rfl) t15)⟩
 refine List.Perm.trans ?_ hp
 exact List.perm_middle.trans (List.Perm.append_right ds hzp.symm)
 have := hzp.length_eq; simp at this; omega
 exact ⟨a1, [], H, Ci, C2, by simp, by omega, .refl _, hS, hit, ho, rfl, rfl, rfl⟩
 rintro f w ⟨H1, Cr, Z4, hS, ho, t5⟩
 repeat refine Z1 ?_
 refine Z0 (Z3 vr (by exact t5) rfl (Z5 vr rfl rfl (Z2 ?_)))
 exact X0 (vs := [vr]) Tryz.func191 ⟨rfl, trivial⟩ ⟨_, _, _, rfl, Z4, hS, ho⟩
end Go.Proofs.YtabofnehiclkiaaGreat
