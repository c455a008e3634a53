/- Walks of functions: each computes its pure function, if that gives a value. -/
import Derived.Test.YtabofnehiclkiaaGreatZF27
namespace Go.Proofs.YtabofnehiclkiaaGreat
open Go Go.Proofs.Tryz
set_option linter.unusedSimpArgs false
set_option linter.unusedVariables false
set_option maxRecDepth 100000
set_option maxHeartbeats 8000000
variable {K : Nat} {H : FH} {w : World} {L : OL} {s0 s1 s2 s3 s4 s5 s6 : Value}
def lsN (K : Nat) (M : List A8) : List Int → Nat → MpT → Option MpT
  | [], _, s => some s
  | n :: ns, i, s => if i < M.length then (T3 K s (rd M (i : Int)) n).bind fun s' => lsN K M ns (i + 1) s' else none
def Zs7 (K : Nat) (M : List A8) (row : List Int) : Option MpT := lsN K M row 0 []
theorem Wr6 {K : Nat} {M : List A8} {a1 : List Int} {r : MpT} (q0 : Zs7 K M a1 = some r) {H : FH} {w : World} {L : OL} {bl : Nat} {cs : Array Value} {v0 s1 : Value} (hb : (bl, Obj.cells cs 102) ∈ L) (h0 : cs[0]? = some v0)
    (hv0 : Y3 (Q9 .i64) H v0 M) (hs1 : Y3 (Y5 .i64) H s1 a1) (hS : St H w L) :
    Calls prog 156 #[vP bl, s1] w (Xq5 .i64 r H L) := by
  have hb1 := hs1.bound
  refine X0 func156 rfl ntmps156 rfl ?_
  repeat refine Z1 ?_
  refine Z0 (Z5 (.map none) rfl rfl (Z2 ?_))
  repeat refine Z1 ?_
  refine Z0 ?_
  refine Yg2 (k := .i64) hS rfl ?_
  intro mv w1 C1 ho hS
  refine Z5 mv rfl rfl (Z2 ?_)
  repeat refine Z1 ?_
  refine Z0 (Z3 s1 rfl rfl ?_)
  refine X9 U5 rfl hs1 rfl (Z3 (vI 0) rfl rfl (Z2 (Y8 ?_)))
  refine W0 (id := 0) (fun k f w => ∃ (m : Nat) (s : MpT) (H1 : FH) (C : OL), m ≤ a1.length ∧ a1.length < m + k ∧ lsN K M (a1.drop m) m s = some r ∧ Sub H H1 ∧ St H1 w (C ++ L) ∧ Q2 .i64 mv s C ∧ tv f 0 = vP bl ∧ tv f 5 = mv ∧ tv f 9 = s1 ∧ tv f 10 = vI (a1.length : Int) ∧ tv f 11 = vI (m : Int))
    (fun f w => ∃ (H1 : FH) (C : OL), Sub H H1 ∧ St H1 w (C ++ L) ∧ Q2 .i64 mv r C ∧ tv f 5 = mv) rfl ?_ ?_ (a1.length + 1) ?_ ?_
  · rintro f w ⟨m, s, H1, C, h1, h2, _⟩; omega
  · rintro k f w ih hx ⟨m, s, H1, C, h1, h2, heq, Z4, hS, ho, t0, t5, t9, t10, t11⟩
    repeat refine Z1 ?_
    refine Z0 ?_
    refine W8 (k := .i64) (a := m) (b := a1.length) (by exact t11) (by exact t10) rfl (Z2 ?_)
    repeat refine Z1 ?_
    by_cases hm : (m : Int) < (a1.length : Int)
    · have hm' : m < a1.length := by omega
      rw [show a1.drop m = a1[m] :: a1.drop (m + 1) from (List.getElem_cons_drop ..).symm, lsN] at heq
      by_cases hg : m < M.length
      case neg => rw [if_neg hg] at heq; cases heq
      rw [if_pos hg] at heq
      obtain ⟨s', hs', heq⟩ := bind_some heq
      refine Z8 (bT hm rfl) (Y6 ?_)
      repeat refine Z1 ?_
      refine Y8 ?_
      repeat refine Z1 ?_
      refine Z0 (Z3 (vI (m : Int)) (by exact t11) rfl ?_)
      obtain ⟨bb, of, cs2, E, _, hp, hbb, hu, hc⟩ := (hs1.mono Z4).elem (i := (m : Int)) (by omega) hm
      refine X5 U5 rfl (by exact t9) hp (by exact t11) (by omega) hm rfl ?_
      have hrd : rd a1 (m : Int) = a1[m] := by unfold rd; rw [Int.toNat_natCast, Q8 hm']
      rw [hrd] at hu
      cases hu
      refine Y0 (vI a1[m]) ty2 rfl (hS.froz _ _ hbb) (hc 0 (show 0 < 1 by decide)) rfl (Z5 (vI (m : Int)) rfl rfl (Z5 (vI a1[m]) rfl rfl (Z2 ?_)))
      repeat refine Z1 ?_
      refine Z0 (Z3 mv (by exact t5) rfl (Z3 (vP bl) (by exact t0) rfl (V4 rfl rfl (Y2 Yd8 rfl rfl ?_))))
      refine Y0 v0 Yx7 rfl (hS.own _ (mR hb)) h0 rfl (Z3 (vI (m : Int)) rfl rfl ?_)
      obtain ⟨_, _, _, _, _, hp1, hp2, rfl, hp3⟩ := (hv0.mono Z4).elem (i := (m : Int)) (by omega) (by omega)
      refine X5 Ya2 rfl rfl hp1 rfl (by omega) (by omega) rfl ?_
      refine V0 (Z6 .i64 (rd M (m : Int))) Q6 rfl (hS.froz _ _ hp2) rfl hp3 rfl (Z3 (vI a1[m]) rfl rfl ?_)
      refine U9 call217 (D8 rfl rfl rfl) rfl (Zy8 hs' ho hS) ?_
      rintro _ w2 ⟨H2, C2, rfl, s2, hS, ho⟩
      refine ⟨_, rfl, Z2 (X1 (Z0 ?_))⟩
      refine W2 ((m : Int) + 1) (by exact t11) rfl (IntWalk.i64_in _ (by omega)) rfl (Z3 (vI ((m : Int) + 1)) rfl rfl (Z2 ?_))
      exact ih _ _ ⟨m + 1, s', H2, C2, by omega, by omega, heq, Z4.trans s2, hS, ho, t0, t5, t9, t10, by show vI ((m : Int) + 1) = vI ((m + 1 : Nat) : Int); rw [Int.natCast_add]; rfl⟩
    · refine Z7 (bF hm rfl) (X7 rfl ?_)
      have e : m = a1.length := by omega
      subst e
      rw [List.drop_length, lsN] at heq
      obtain rfl := oi heq
      exact hx _ _ ⟨H1, C, Z4, hS, ho, t5⟩
  · exact ⟨0, [], H, C1, by omega, by omega, q0, .refl _, hS, ho, rfl, rfl, rfl, rfl, rfl⟩
  · rintro f w ⟨H1, C, Z4, hS, ho, t5⟩
    repeat refine Z1 ?_
    refine Z0 (Z3 mv (by exact t5) rfl (Z5 mv rfl rfl (Z2 ?_)))
    exact Y9 (vs := [mv]) func156 ⟨rfl, trivial⟩ ⟨_, _, _, rfl, Z4, hS, ho⟩
def fmL (K : Nat) (M : List A8) : List (List Int) → List MpT → Option (List MpT × Int)
  | [], out => some (out, 0)
  | r :: rs, out => (Zs7 K M r).bind fun s => (Zp1 K s).bind fun p => if p.2 = 0 then fmL K M rs (out ++ [p.1]) else some ([], p.2)
def Zi0 (K : Nat) (M : List A8) (rows : List (List Int)) : Option (List MpT × Int) := if rows.length ≤ 1099511627776 then fmL K M rows [] else none
theorem Wm8 {K : Nat} {M : List A8} {a1 : List (List Int)} {r : List MpT × Int} (q0 : Zi0 K M a1 = some r) {H : FH} {w : World} {L : OL} {bl : Nat} {cs : Array Value} {v0 s1 : Value} (hb : (bl, Obj.cells cs 102) ∈ L) (h0 : cs[0]? = some v0)
    (hv0 : Y3 (Q9 .i64) H v0 M) (hs1 : Y3 (X2 (Y5 .i64)) H s1 a1) (hS : St H w L) :
    Calls prog 101 #[vP bl, s1] w (U7 (fun v G => ∃ v0 v1, v = .tuple #[v0, v1] ∧ RdN (X2 yT) H G v0 r.1 [] ∧ v1 = .int .i64 r.2) H L) := by
  unfold Zi0 at q0
  by_cases hlen : a1.length ≤ 1099511627776
  case neg => rw [if_neg hlen] at q0; cases q0
  rw [if_pos hlen] at q0
  refine X0 func101 rfl ntmps101 rfl ?_
  repeat refine Z1 ?_
  refine Z0 (Z5 (vN) rfl rfl (Z5 (vI 0) rfl rfl (Z2 ?_)))
  repeat refine Z1 ?_
  refine Z0 ?_
  refine Yb8 (τ := (Yd2 H (X2 yT))) Zf1 Zl9 rfl hS rfl ?_
  intro u1 w2 C3 e5 hS
  have e5 := I7.start e5
  refine Z5 (u1) rfl rfl (Z2 ?_)
  repeat refine Z1 ?_
  refine Z0 (Z3 s1 rfl rfl ?_)
  refine X9 T2 rfl hs1 rfl (Z3 (vI 0) rfl rfl (Z2 (Y8 ?_)))
  refine W0 (id := 0) (fun k f w => ∃ (m : Nat) (out : List MpT) (H1 : FH) (v : Value) (C : OL), m ≤ a1.length ∧ a1.length < m + k ∧ out.length = m ∧ fmL K M (a1.drop m) out = some r ∧ Sub H H1 ∧ St H1 w (C ++ L) ∧ I7 (Yd2 H (X2 yT)) 45 H1 v out C ([] : List Nat) ∧ tv f 0 = vP bl ∧ tv f 6 = v ∧ tv f 12 = s1 ∧ tv f 13 = vI (a1.length : Int) ∧ tv f 14 = vI (m : Int))
    (fun f w => ∃ (out : List MpT) (H1 : FH) (v : Value) (C : OL), r = (out, 0) ∧ Sub H H1 ∧ St H1 w (C ++ L) ∧ I7 (Yd2 H (X2 yT)) 45 H1 v out C ([] : List Nat) ∧ tv f 6 = v) rfl ?_ ?_ (a1.length + 1) ?_ ?_
  · rintro f w ⟨m, out, H1, v, C, h1, h2, _⟩; omega
  · rintro k f w ih hx ⟨m, out, H1, v, C, h1, h2, hol, heq, Z4, hS, ho, t0, t6, t12, t13, t14⟩
    repeat refine Z1 ?_
    refine Z0 ?_
    refine W8 (k := .i64) (a := m) (b := a1.length) (by exact t14) (by exact t13) rfl (Z2 ?_)
    repeat refine Z1 ?_
    by_cases hm : (m : Int) < (a1.length : Int)
    · have hm' : m < a1.length := by omega
      rw [show a1.drop m = a1[m] :: a1.drop (m + 1) from (List.getElem_cons_drop ..).symm, fmL] at heq
      obtain ⟨s, hs, heq⟩ := bind_some heq
      obtain ⟨p, hp', heq⟩ := bind_some heq
      refine Z8 (bT hm rfl) (Y6 ?_)
      repeat refine Z1 ?_
      refine Y8 ?_
      repeat refine Z1 ?_
      refine Z0 ?_
      obtain ⟨b, of, cs2, E, _, hp, hbb, ⟨ru, rfl, hru⟩, hc⟩ := (hs1.mono Z4).elem (i := (m : Int)) (by omega) hm
      refine X5 T2 rfl (by exact t12) hp (by exact t14) (by omega) hm rfl ?_
      refine Y0 ru P4 rfl (hS.froz _ _ hbb) (hc 0 (show 0 < 1 by decide)) rfl (Z5 ru rfl rfl (Z2 ?_))
      rw [Zu2 hm', Q8 hm'] at hru
      repeat refine Z1 ?_
      refine Z0 (Z3 (vP bl) (by exact t0) rfl (Z3 ru rfl rfl ?_))
      refine U9 call156 (V2 rfl rfl) rfl (Wr6 hs (mR hb) h0 (hv0.mono Z4) hru hS) ?_
      rintro _ w3 ⟨sv, H3, C3', rfl, s3, hS, hso⟩
      refine ⟨_, rfl, ?_⟩
      obtain ⟨H4, s4, hS, hsr⟩ := hso.freeze hS
      have ho := (ho.mono s3).mono s4
      have Z4 := (Z4.trans s3).trans s4
      refine U9 call112 (R3 rfl) rfl (Yw4 hp' hsr hS) ?_
      rintro k6 k7 ⟨_, h8, rfl, c6, hS, ⟨i2, i3, rfl, ⟨_, rfl, ⟨b3, rfl, b6⟩⟩, rfl⟩⟩
      refine ⟨_, rfl, ?_⟩
      have g3 := b6
      have g4 : RdF yT H h8 b3 p.1 := Y3.mono (Ye9 Z4) b6
      have b6 := Y3.old b6
      have ho := I7.keep (Yv2 H (Zw6 _)) ho c6 (RdF.rootsOut g3) (Y3.rootsIn b6) (Zz5 _)
      have Z4 := Z4.trans c6
      refine Z3 (Value.tuple #[vA ([b3]), vI p.2]) rfl rfl (V3 (vA ([b3])) rfl rfl rfl (V3 (vI p.2) rfl rfl rfl ?_))
      refine U4 (z := vA ([vN])) ([vN]).toArray Zl9.zero rfl hS rfl ?_
      intro k8 k9 hS
      refine W4 (v := vA ([b3])) (vs := ([b3]).toArray) (cs := ([vN]).toArray) Q4 rfl rfl rfl hS rfl (Zb5 b6.isOne) rfl ?_
      intro l0 hS
      refine Z5 (vI p.2) rfl rfl (Z2 ?_)
      repeat refine Z1 ?_
      refine Z0 (Z3 (vI p.2) rfl rfl ?_)
      refine M0 (k := .i64) (a := p.2) (b := 0) rfl rfl rfl (Z2 ?_)
      repeat refine Z1 ?_
      by_cases d5 : p.2 = 0
      · rw [if_pos d5] at heq
        refine Z7 (bN d5 rfl) (Y6 ?_)
        repeat refine Z1 ?_
        refine Z0 (Z3 v (by exact t6) rfl ?_)
        refine W3 Q4 rfl (hS.get mL) rfl rfl ?_
        refine Zc2 (τ := Zl8 (Yd2 H (X2 yT))) Zf1 Zl9 rfl [vA ([b3])] [(p.1, Zk5 [b3])] rfl rfl (E7 rfl) (Zk6 ⟨⟨_, rfl, g4⟩, rfl⟩) (by decide) (by decide) hS rfl ?_
        intro l1 h9 l2 c7 hS g5
        have Z4 := Z4.trans c7
        have ho := ho.mono c7
        have hS := hS.dropA
        refine Wo8 (τ := (Yd2 H (X2 yT))) (R := Zk5 [b3]) Wt4 rfl rfl rfl ho hS g5 (by rw [hol]; omega) rfl ?_
        intro f2 l3 i0 g7 hS
        refine Z5 (f2) rfl rfl (Z2 (X1 (Z0 ?_)))
        refine W2 ((m : Int) + 1) (by exact t14) rfl (IntWalk.i64_in _ (by omega)) rfl (Z3 (vI ((m : Int) + 1)) rfl rfl (Z2 ?_))
        exact ih _ _ ⟨m + 1, out ++ [p.1], h9, f2, i0, by omega, by omega, by simp [hol], heq, Z4, hS, g7, t0, rfl, t12, t13, by show vI ((m : Int) + 1) = vI ((m + 1 : Nat) : Int); rw [Int.natCast_add]; rfl⟩
      · rw [if_neg d5] at heq
        obtain rfl := oi heq
        refine Z8 (bO d5 rfl) ?_
        repeat refine Z1 ?_
        refine Z0 (Z3 (vI p.2) rfl rfl (Z5 (vN) rfl rfl (Z5 (vI p.2) rfl rfl (Z2 ?_))))
        exact Y9 (vs := [vN, vI p.2]) func101 ⟨rfl, rfl, trivial⟩ ⟨_, _, rfl, Z4, (St.dropA (St.dropA hS)), ⟨_, _, rfl, RdN.nil (by first | exact List.nodup_nil | (rw [List.append_nil]; exact Zz5 _)), rfl⟩⟩
    · refine Z7 (bF hm rfl) (X7 rfl ?_)
      have e : m = a1.length := by omega
      subst e
      rw [List.drop_length, fmL] at heq
      obtain rfl := oi heq
      exact hx _ _ ⟨out, H1, v, C, rfl, Z4, hS, ho, t6⟩
  · exact ⟨0, [], H, u1, C3, by omega, by omega, rfl, q0, .refl _, hS, e5, rfl, rfl, rfl, rfl, rfl⟩
  · rintro f w ⟨out, H1, v, C, rfl, Z4, hS, ho, t6⟩
    repeat refine Z1 ?_
    refine Z0 (Z3 v (by exact t6) rfl (Z5 v rfl rfl (Z5 (vI 0) rfl rfl (Z2 ?_))))
    obtain ⟨i1, g8, hS, e7⟩ := I7.freezeN (τ := (X2 yT)) (H0 := H) (Zw6 _) ho hS Z4
    exact Y9 (vs := [v, vI 0]) func101 ⟨rfl, rfl, trivial⟩ ⟨_, _, rfl, Z4.trans g8, hS, ⟨_, _, rfl, e7, rfl⟩⟩
end Go.Proofs.YtabofnehiclkiaaGreat
