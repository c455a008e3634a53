/- Walks of functions: each computes its pure function, if that gives a value. -/
import Derived.Test.YtabofnehiclkiaaGreatZF23
namespace Go.Proofs.YtabofnehiclkiaaGreat
open Go Go.Proofs.Tryz
set_option linter.unusedSimpArgs false
set_option linter.unusedVariables false
set_option maxRecDepth 100000
set_option maxHeartbeats 8000000
variable {K : Nat} {H : FH} {w : World} {L : OL} {s0 s1 s2 s3 s4 s5 s6 : Value}
theorem Xf1 (M : List A8) : ∀ k, Srt (Zz6 M k)
 | 0 => List.Pairwise.nil
 | k + 1 => Yj4 (Xf1 M k) _ _
theorem Xe8 {M : List A8} {i : Nat} (h : i < M.length) : rd M (i : Int) = M[i] := by unfold rd; rw [Int.toNat_natCast, Q8 h]
theorem Xi0 {M : List A8} (hM : M.Nodup) : ∀ k, k ≤ M.length → ∀ i, i < k → (rd M (i : Int), (i : Int)) ∈ Zz6 M k
 | 0, _, i, hi => by omega
 | k + 1, hk, i, hi => by
  rw [Zz6]
  by_cases e : i = k
  subst e; exact Ya6.2 (.inl rfl)
  refine Ya6.2 (.inr ⟨Xi0 hM k (by omega) i (by omega), fun h => ?_⟩)
  replace h : rd M (i : Int) = rd M (k : Int) := h
  rw [Xe8 (by omega), Xe8 (by omega)] at h
  exact e ((List.getElem_inj hM).1 h)
theorem Wm6 {M : List A8} (hM : M.Nodup) {i : Nat} (hi : i < M.length) : N5 (Zz6 M M.length) (rd M (i : Int)) = (i : Int) :=
 Yk7 (Zs4 (Xf1 M _)) (Xi0 hM _ (Nat.le_refl _) i hi)
def Zf0 (M : List A8) (ds : MpT) : List Int := M.map fun p => N5 ds p
theorem Yv7 (z : A8 × Int) (ds : MpT) (p : A8) : N5 (z :: ds) p = if p = z.1 then z.2 else N5 ds p := by
 unfold N5
 rw [List.find?_cons]
 cases he : eq8 p z.1 with
 | true => rw [if_pos (Ze0.1 he)]; rfl
 | false => rw [if_neg (fun e => by rw [Ze0.2 e] at he; cases he)]
theorem Wr3 {M : List A8} (hM : M.Nodup) (ds : MpT) (z : A8 × Int) {i : Nat} (hi : i < M.length) (hz : rd M (i : Int) = z.1) : (Zf0 M ds).set i z.2 = Zf0 M (z :: ds) := by
 apply List.ext_getElem
 unfold Zf0; simp
 intro j h1 h2
 have hj : j < M.length := by simpa [Zf0] using h2
 rw [List.getElem_set]
 have e1 : (Zf0 M ds)[j]'(by simpa [Zf0] using hj) = N5 ds M[j] := List.getElem_map ..
 have e2 : (Zf0 M (z :: ds))[j] = N5 (z :: ds) M[j] := List.getElem_map ..
 rw [e1, e2, Yv7]
 rw [Xe8 hi] at hz
 by_cases e : i = j
 subst e; rw [if_pos rfl, if_pos hz]
 rw [if_neg e, if_neg (fun h => e ((List.getElem_inj hM).1 (hz.trans h.symm)))]
def Wr7 (M : List A8) (s : MpT) : Bool := decide (M.Nodup ∧ M.length ≤ 1099511627776 ∧ ∀ z, z ∈ s → z.1 ∈ M)
def Zm5 (K : Nat) (M : List A8) (s : MpT) : Option (List Int) := if Wr7 M s = true then some (Zf0 M s) else none
theorem Ve0 {K : Nat} {M : List A8} {a1 : MpT} {r : List Int} (q0 : Zm5 K M a1 = some r) {H : FH} {w : World} {L : OL} {bl : Nat} {cs : Array Value} {v0 v1 s1 : Value} (hb : (bl, Obj.cells cs 102) ∈ L) (h0 : cs[0]? = some v0) (h1 : cs[1]? = some v1)
 (hv0 : Y3 (Q9 .i64) H v0 M) (hv1 : N1 .i64 H v1 (Zz6 M M.length)) (hs1 : N1 .i64 H s1 a1) (hS : St H w L) :
 Calls prog 191 #[vP bl, s1] w (Yf9 (Y5 .i64) 2 r H L) := by
 unfold Zm5 at q0
 by_cases hok : Wr7 M a1 = true
 case neg => rw [if_neg hok] at q0; cases q0
 rw [if_pos hok] at q0
 obtain rfl := oi q0
 obtain ⟨ok1, ok2, ok3⟩ := of_decide_eq_true hok
 have hsrt := hs1.srt
 refine X0 func191 rfl ntmps191 rfl ?_
 repeat refine Z1 ?_
 refine Z0 (Z5 (vN) rfl rfl (Z2 ?_))
 repeat refine Z1 ?_
 refine Z0 (Z3 (vP bl) rfl rfl (V4 rfl rfl (Y2 Yd8 rfl rfl ?_)))
 refine Y0 v0 Yx7 rfl (hS.own _ hb) h0 rfl ?_
 refine X9 Ya2 rfl hv0 rfl ?_
 refine Yg0 (τ := Y5 .i64) (0 : Int) Yb7 rfl rfl rfl (fun _ => rfl) (by omega) (by omega) hS rfl ?_
 intro vr w2 C2 ho hS
 refine Z5 vr rfl rfl (Z2 ?_)
 rw [Int.toNat_natCast, show List.replicate M.length (0 : Int) = Zf0 M [] from by unfold Zf0; rw [show (fun p => N5 ([] : MpT) p) = fun _ => 0 from rfl, List.map_const']] at ho
 repeat refine Z1 ?_
 refine Z0 (Z3 s1 rfl rfl ?_)
 refine Yi4 Zq8 rfl hs1 hS rfl ?_
 intro it w3 Ci hit hS
 refine Z2 (Y8 ?_)
 refine W0 (id := 0) (fun k f w => ∃ (zs ds : MpT) (H1 : FH) (Ci Cr : OL), (zs ++ ds).Perm a1 ∧ zs.length < k ∧ Sub H H1 ∧ St H1 w (Ci ++ (Cr ++ L)) ∧ Zg2 .i64 H1 it zs none Ci ∧ X8 (Y5 .i64) 2 H1 vr (Zf0 M ds) Cr ∧ tv f 0 = vP bl ∧ tv f 5 = vr ∧ tv f 15 = it)
  (fun f w => ∃ (H1 : FH) (Cr : OL), Sub H H1 ∧ St H1 w (Cr ++ L) ∧ X8 (Y5 .i64) 2 H1 vr (Zf0 M a1) Cr ∧ tv f 5 = vr) rfl ?_ ?_ (a1.length + 1) ?_ ?_
 rintro f w ⟨zs, ds, H1, Ci, Cr, _, h2, _⟩; omega
 rintro k f w ih hx ⟨zs, ds, H1, Ci, Cr, hp, hk, Z4, hS, hit, ho, t0, t5, t15⟩
 repeat refine Z1 ?_
 refine Z0 ?_
 refine Yo0 (by exact t15) hit hS rfl ?_ ?_
 intro hz; subst hz
 refine V3 (vB false) rfl rfl rfl (Z2 ?_)
 repeat refine Z1 ?_
 refine Z7 rfl (X7 rfl ?_)
 have e : Zf0 M ds = Zf0 M a1 := by
  unfold Zf0
  refine List.map_congr_left fun p _ => ?_
  exact Yw8 hp ((hp.map Prod.fst).nodup_iff.2 (Zs4 hsrt)) p
 rw [e] at ho
 exact hx _ _ ⟨H1, Cr, Z4, hS.dropA, ho, t5⟩
 intro z zs' w4 Ci' hzp hit hS
 refine V3 (vB true) rfl rfl rfl (Z2 ?_)
 repeat refine Z1 ?_
 refine Z8 rfl (Y6 ?_)
 repeat refine Z1 ?_
 refine Y8 ?_
 repeat refine Z1 ?_
 refine Z0 ?_
 have hzM : z.1 ∈ M := ok3 z (hp.mem_iff.1 (List.mem_append_left _ (hzp.mem_iff.2 (List.mem_cons_self ..))))
 obtain ⟨i, hi, hMi⟩ := List.getElem_of_mem hzM
 have hrd : rd M (i : Int) = z.1 := by rw [Xe8 hi]; exact hMi
 refine Yi5 (by exact t15) hit hS rfl (V3 (vA (Z6 .i64 z.1)) rfl rfl rfl (V3 (vI z.2) rfl rfl rfl ?_))
 refine U4 (z := vA (Z6 .i64 (fun _ => 0))) (Z6 .i64 (fun _ => 0)).toArray Zk4.zero rfl hS rfl ?_
 intro bq w5 hS
 refine W4 (v := vA (Z6 .i64 z.1)) (vs := (Z6 .i64 z.1).toArray) (cs := (Z6 .i64 (fun _ => 0)).toArray) Q6 rfl rfl rfl hS rfl (S8 .i64 z.1) rfl ?_
 intro w6 hS
 refine Z5 (vI z.2) rfl rfl (Z2 ?_)
 repeat refine Z1 ?_
 refine Zj6 fun f2 hf2 => ?_
 have t0 : tv f2 0 = vP bl := by rw [hf2]; exact t0
 have t5 : tv f2 5 = vr := by rw [hf2]; exact t5
 have t6 : tv f2 6 = vP bq := by rw [hf2]; rfl
 have t7 : tv f2 7 = vI z.2 := by rw [hf2]; rfl
 have t15 : tv f2 15 = it := by rw [hf2]; exact t15
 clear hf2
 have hv0 := hv0.mono Z4
 have hv1 := hv1.mono Z4
 refine W7 8 (S9 [mE 21 vr, mE 22 (vP bl), mE 23 (vP bl), mE 24 (vQ bl 1), mE 25 v1, mE 26 (vA (Z6 .i64 z.1)), mE 27 (vI (N5 (Zz6 M M.length) z.1)), mE 28 (vI z.2)]) [] mixed rfl rfl rfl hS (V9 ?_ ?_ ?_ ?_ ?_ ?_ ?_ ?_ V1) ?_
 exact X4 fun S B => Z3 _ (evT (B 5 rfl) t5) rfl (qz S)
 exact X4 fun S B => Z3 _ (evT (B 0 rfl) t0) rfl (qz S)
 exact Y7 fun S V => V4 (eM (V 1 22 rfl rfl)) rfl (qz S)
 exact Y7 fun S V => Y2 Xu3 (eM (V 2 23 rfl rfl)) rfl (qz S)
 exact Y7 fun S V => Y0 v1 Ww2 (eM (V 3 24 rfl rfl)) (S.own _ (mR (mR (mR (mR hb))))) h1 rfl (qz S)
 exact X4 fun S B => W3 Q6 (evT (B 6 rfl) t6) (S.get (mR mL)) rfl rfl (qz S)
 exact P0 fun s S V => Xo2 (a := z.1) Ww5 (eM (V 4 25 rfl rfl)) (eM (V 5 26 rfl rfl)) (hv1.mono s) S rfl (qz S)
 exact X4 fun S B => Z3 _ (evT (B 7 rfl) t7) rfl (qz S)
 intro f3 w7 H5 s5 hS hB hV hcq
 have t21 : f3 21 = vr := eM (hV 0 21 (by decide) rfl)
 have t27 : f3 27 = vI (i : Int) := (eM (hV 6 27 (by decide) rfl)).trans (by rw [← hrd, Wm6 ok1 hi])
 have t28 : f3 28 = vI z.2 := eM (hV 7 28 (by decide) rfl)
 have hS : St H5 w7 (Cr ++ (Ci' ++ L)) := hS.dropA.dropA.swap
 have ho := ho.mono s5
 have hlen : (Zf0 M ds).length = M.length := by unfold Zf0; simp
 have hil : (i : Int) < ((Zf0 M ds).length : Int) := by rw [hlen]; omega
 obtain ⟨rb, rc, hvr⟩ := ho.some (i := (i : Int)) (by omega) hil
 refine P3 U5 (Eq.trans (by exact t21) hvr) (by exact t27) (by omega) hil rfl ?_
 refine Zd0 (τ := Y5 .i64) (v := vr) (u := vI z.2) z.2 (i := (i : Int)) rfl ty2 hvr ho hS rfl (by exact t28) (by omega) hil rfl ?_
 intro w8 C8 ho hS
 rw [Int.toNat_natCast, Wr3 ok1 ds z hi hrd] at ho
 refine Z2 (X1 ?_)
 refine ih _ _ ⟨zs', z :: ds, H5, Ci', C8, ?_, ?_, Z4.trans s5, hS.swap, (hit.mono s5).drop, ho, (evT (hB 0 rfl) t0), (evT (hB 5 rfl) t5), (evT (hB 15 rfl) t15)⟩
 refine List.Perm.trans ?_ hp
 exact List.perm_middle.trans (List.Perm.append_right ds hzp.symm)
 have := hzp.length_eq; simp at this; omega
 exact ⟨a1, [], H, Ci, C2, by simp, by omega, .refl _, hS, hit, ho, rfl, rfl, rfl⟩
 rintro f w ⟨H1, Cr, Z4, hS, ho, t5⟩
 repeat refine Z1 ?_
 refine Z0 (Z3 vr (by exact t5) rfl (Z5 vr rfl rfl (Z2 ?_)))
 exact Y9 (vs := [vr]) func191 ⟨rfl, trivial⟩ ⟨_, _, _, rfl, Z4, hS, ho⟩
end Go.Proofs.YtabofnehiclkiaaGreat
