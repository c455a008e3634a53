/- Walks of functions: each computes its pure function, if that gives a value. -/
import Derived.Test.YtabofnehiclkiaaGreatXTy
import Derived.Test.YtabofnehiclkiaaGreatXF15
import Derived.Test.YtabofnehiclkiaaGreatXF2
import Derived.Test.YtabofnehiclkiaaGreatXF16
import Derived.Test.YtabofnehiclkiaaGreatXF13
import Derived.Test.YtabofnehiclkiaaGreatXF20
import Derived.Test.YtabofnehiclkiaaGreatXF18
import Derived.Test.YtabofnehiclkiaaGreatXF21
import Derived.Test.YtabofnehiclkiaaGreatXF17
import Derived.Test.YtabofnehiclkiaaGreatXF19
import Derived.Test.YtabofnehiclkiaaGreatXX
namespace Go.Proofs.YtabofnehiclkiaaGreat
open Go
set_option linter.unusedSimpArgs false
set_option linter.unusedVariables false
set_option maxRecDepth 100000
set_option maxHeartbeats 8000000
variable {K : Nat} {H : FH} {w : World} {L : OL} {s0 s1 s2 s3 s4 s5 s6 : Value}
/-! links of reduced's first region -/
def lkA : Lk := ⟨5, 4, 19, 20, fun _ u v => v = vA ([u] ++ [vN]), fun _ h => h⟩
def lkB (H : FH) (e1 : List Ze3) : Lk := ⟨11, 4, 19, 26, fun G u v => RdN Zb9 H G v e1 (P5 [u]), fun hs h => RdN.mono h hs⟩
def lkC : Lk := ⟨14, 11, 26, 6, fun _ u v => u = v, fun _ h => h⟩
theorem nk {j k : Nat} {p : Prop} (h : Nat.beq j k = false) (e : j = k) : p := absurd e (Nat.ne_of_beq_eq_false h)
theorem Yd1 {A B C : Lk} {j : Nat} {G : FH} {f : Fr} {v : Value} (h1 : j = A.k → A.q G (f A.e) v) (h2 : j = B.k → B.q G (f B.e) v) (h3 : j = C.k → C.q G (f C.e) v) : ∀ lk, lk ∈ [A, B, C] → j = lk.k → lk.q G (f lk.e) v := by
  intro lk hl e
  rcases List.mem_cons.1 hl with rfl | hl
  · exact h1 e
  · rcases List.mem_cons.1 hl with rfl | hl
    · exact h2 e
    · cases List.mem_singleton.1 hl
      exact h3 e
theorem Vd4 {H : FH} {e1 : List Ze3} {l : List Oper} {con : Con} (a1 : ((N7 l []).getD 5 0).testBit 4 = true) (a2 : (l[5]?).bind (·.dst) = some 20) (a3 : (l[4]?).bind (·.dst) = some 19) (a4 : con.by_ 5 = none) (a5 : con.by_ 11 = none)
    (b1 : ((N7 l []).getD 11 0).testBit 4 = true) (b2 : (l[11]?).bind (·.dst) = some 26) (b3 : con.by_ 14 = none) (c1 : ((N7 l []).getD 14 0).testBit 11 = true) (c2 : (l[14]?).bind (·.dst) = some 6) : ∀ lk, lk ∈ [lkA, lkB H e1, lkC] → Wn5 lk l 15 con := by
  intro lk hl
  rcases List.mem_cons.1 hl with rfl | hl
  · exact ⟨by decide, by decide, a1, a2, a3, by decide, a4⟩
  · rcases List.mem_cons.1 hl with rfl | hl
    · exact ⟨by show 11 < 15; decide, by show 4 < 15; decide, b1, b2, a3, by show 4 ≠ 11; decide, a5⟩
    · cases List.mem_singleton.1 hl
      exact ⟨by decide, by decide, c1, c2, b2, by decide, b3⟩
theorem Vc2 {G : FH} {f : Fr} {t : Value} (h : tv f 19 = t) : lkA.q G (f lkA.e) (vA ([t] ++ [vN])) := by
  show vA ([t] ++ [vN]) = vA ([f 19] ++ [vN])
  rw [← h]; rfl
theorem Vd0 {H Hc G : FH} {e1 : List Ze3} {f : Fr} {u v : Value} (h : tv f 19 = u) (hg : RdN Zb9 Hc G v e1 []) (hs : Sub H Hc) (hx : ∀ b, b ∈ P5 [u] → Hc b ≠ none) : (lkB H e1).q G (f 19) v := by
  show RdN Zb9 H G v e1 (P5 [f 19])
  have h : f 19 = u := h
  rw [h]
  exact RdN.keepX (G3 yT) hg hs (Zf4 _) hx
theorem Wx7 {H G : FH} {e1 : List Ze3} {f : Fr} {d g : Value} (h1 : tv f 20 = vA ([d] ++ [vN])) (h2 : tv f 6 = g) (a : lkA.q G (f lkA.e) (f lkA.d)) (b : (lkB H e1).q G (f (lkB H e1).e) (f (lkB H e1).d)) (c : lkC.q G (f lkC.e) (f lkC.d)) :
    RdN Zb9 H G g e1 (P5 [d]) := by
  have a : f 20 = vA ([f 19] ++ [vN]) := a
  have b : RdN Zb9 H G (f 26) e1 (P5 [f 19]) := b
  have c : f 26 = f 6 := c
  have h1 : f 20 = vA ([d] ++ [vN]) := h1
  have h2 : f 6 = g := h2
  rw [a] at h1
  have e : f 19 = d := by simpa using h1
  rw [e, c, h2] at b
  exact b
theorem Vg0 {H G : FH} {e1 : List Ze3} {bA : List (List Nat)} {g d : Value} {ds : List Int} (hA : Z9 (M3 Zb9) (G.new H) g (e1.zip bA)) (lA : bA.length = e1.length) (hd : Z9 (Y6 .i64) G d ds) : ∀ b, b ∈ L8 g ++ (bA.flatten ++ P5 [d]) → G b ≠ none := by
  intro b hb
  rw [← List.append_assoc] at hb
  rcases List.mem_append.1 hb with hb | hb
  · have := Yl8 (G3 yT) lA hA b hb
    intro e
    cases hq : (G.new H) b with
    | none => exact this hq
    | some o => have := (M0.1 hq).1; rw [e] at this; cases this
  · exact Z9.rootsIn hd b hb
/-- one new element: its value lies in blocks that an elder heap did not have -/
def MP.nw {α : Type} (τ : Ty α) (H0 : FH) (x : α) : MP := ⟨fun G v => ∃ R : List Nat, Z9 (M3 τ) G v [(x, R)] ∧ R.Nodup ∧ (∀ b, b ∈ R → H0 b = none) ∧ (∀ b, b ∈ R → G b ≠ none), fun {G G' v} hs ⟨R, h, hn, h0, h1⟩ => ⟨R, h.mono hs, hn, h0, fun b hb e => by
  cases hq : G b with
  | none => exact h1 b hb hq
  | some o => rw [hs.1 _ _ hq] at e; cases e⟩, fun _ => []⟩
theorem Zi7.tr2 {Hm G H H' : FH} {v : Value} {x : L4} (h : Zi7 Hm G v x) (hs : Sub (G.new Hm) (H'.new H)) : Zi7 H H' v x := by
  obtain ⟨vd, vi, e, hd, bB, lB, hB, nB⟩ := h
  exact ⟨vd, vi, e, Z9.mono hs hd, bB, lB, hB.mono hs, nB⟩
theorem Yj2 {a0 : ((List Int) × (List MpT))} {r : (((List Int) × (List MpT)) × (List MpT) × Int)} (q0 : Zg9 K a0 = some r) (z8 : Zn2 (Zp1 (Y9 (Y6 .i64)) (Y9 (Y9 yT))) H s0 a0) (hM : ∀ b, H.memo b = none) (hS : St H w L) :
 Calls Tryz.prog 105 #[s0] w (T2 (fun v G => ∃ v0 v1 v2, v = .tuple #[v0, v1, v2] ∧ Yb3 H G v0 v1 r.1 r.2.1 ∧ v2 = .int .i64 r.2.2) H L) := by
 obtain ⟨f7, f8, _, _, _, rfl, e9, ⟨_, _, rfl, ⟨h0, rfl, d4⟩, ⟨i7, rfl, c4⟩⟩, k8⟩ := z8
 have Z3 := Sub.refl H
 refine X3 Tryz.func105 rfl Tryz.ntmps105 rfl ?_
 unfold Zg9 at q0
 refine Z2 (Z0 ?_)
 refine W6 (z := vA ([vN] ++ [vN])) ([vN] ++ [vN]).toArray Zr4.zero rfl hS rfl ?_
 intro b1 _ hS
 refine Z5 (vN) rfl rfl (Z5 (vI 0) rfl rfl (Z1 (Z2 ?_)))
 obtain ⟨f6, t4, q0⟩ := bind_some q0
 have a24 := d4.bound
 obtain ⟨e1, o7, q0⟩ := bind_some q0
 have U5 := Z3
 refine Wh0 15 (P0 [mE 15 (vQ f7 f8), mE 16 (vQ f7 f8), mE 17 (vQ f7 (f8 + 0)), mE 18 (h0), (19, MP.rep (Zi8.fr H (R.sl (Y6 .i64))) (f6)), (20, MP.rep (Zi8.fr H (R.sn (Y6 .i64))) (f6)), mE 21 (vQ f7 f8), mE 22 (vQ f7 f8), mE 23 (vQ f7 (f8 + 0)), mE 24 (h0), mE 25 (vI (a0.1.length : Int)), (26, MP.rep (Zi8.fr H (R.sl (Y9 yT))) (e1)), (5, MP.box (cA ([vN] ++ [vN]) 31)), (6, MP.rep (Zi8.fr H (R.sl (Y9 yT))) (e1))]) [Co.st 12 5 13 5 20 (Yb5 31)] [lkA, lkB H e1, lkC] mixed rfl (Yh3 (ns := [(12, 5, 13, 5, 20)]) rfl rfl) rfl hS (Vd4 rfl rfl rfl rfl rfl rfl rfl rfl rfl rfl) (Zs9 rfl ?_ (Zs9 rfl ?_ (Zs9 rfl ?_ (Zs9 rfl ?_ (Zs9 rfl ?_ (Zs9 rfl ?_ (Zs9 rfl ?_ (Zs9 rfl ?_ (Zs9 rfl ?_ (Zs9 rfl ?_ (Zs9 rfl ?_ (Zs9 rfl ?_ (Zs9 rfl ?_ (Ve1 rfl ?_ (Zs9 rfl ?_ U7))))))))))))))) ?_
 intro f4 _ H6 _ z9 hS hB9 _ hcq
 have Z3 := Sub.refl H6
 have S7 := U5.trans z9
 have q12 : tv f4 0 = vQ f7 f8 := Eq.trans (hB9 0 rfl) rfl
 refine Z4 (vQ f7 f8) q12 rfl ?_
 exact Z1 ⟨15, _, _, rfl, rfl, Z3, hS, rfl, (Yd1 (nk rfl) (nk rfl) (nk rfl))⟩
 intro _ _ H15 _ t5 hS _ t6 hcq
 have Z3 := Sub.refl H15
 have S7 := U5.trans t5
 refine R9 (eM (t6 0 15 rfl rfl)) rfl ?_
 exact Z1 ⟨16, _, _, rfl, rfl, Z3, hS, rfl, (Yd1 (nk rfl) (nk rfl) (nk rfl))⟩
 intro _ _ H24 _ t7 hS _ t8 hcq
 have Z3 := Sub.refl H24
 have S7 := U5.trans t7
 refine Y2 R4 (eM (t8 1 16 rfl rfl)) rfl ?_
 exact Z1 ⟨17, _, _, rfl, rfl, Z3, hS, rfl, (Yd1 (nk rfl) (nk rfl) (nk rfl))⟩
 intro _ _ H33 _ n0 hS _ t9 hcq
 have Z3 := Sub.refl H33
 have S7 := U5.trans n0
 have e9 := n0.1 _ _ e9
 refine Y3 (h0) M9 (eM (t9 2 17 rfl rfl)) (hS.froz _ _ e9) (k8 0 (show 0 < 2 by decide)) rfl ?_
 exact Z1 ⟨18, _, _, rfl, rfl, Z3, hS, rfl, (Yd1 (nk rfl) (nk rfl) (nk rfl))⟩
 intro _ _ H42 _ k9 hS _ u0 hcq
 have Z3 := Sub.refl H42
 have S7 := U5.trans k9
 have d4 := d4.mono k9
 refine X6 Tryz.call183 (S2 (eM (u0 3 18 rfl rfl))) rfl (Ye1 t4 d4 hS) ?_
 rintro _ _ _ u1 hS l0
 have l0 := ((R.sl (Y6 .i64))).mono (Q6 (Sub.trans k9 Z3)) l0
 have Z3 := Z3.trans u1
 exact Z1 ⟨19, _, _, rfl, rfl, Z3, hS, l0, (Yd1 (nk rfl) (nk rfl) (nk rfl))⟩
 intro _ _ t0 _ u2 hS _ u3 hcq
 have Z3 := Sub.refl t0
 have S7 := U5.trans u2
 obtain ⟨t1, q59, i8⟩ := gvR (u3 4 19 rfl rfl)
 have u4 := i8
 have a56 : RdF (Y6 .i64) H t0 t1 f6 := Z9.mono (Q6 U5) i8
 have i8 := Z9.old i8
 refine Zl9 ([t1] ++ [vN]) We6 (K6 q59) (Q5 rfl i8.cellsL rfl (nl rfl) (Zh6 rfl)) rfl ?_
 exact Z1 ⟨20, _, _, rfl, rfl, Z3, hS, ⟨_, rfl, u4⟩, (Yd1 (fun _ => Vc2 q59) (nk rfl) (nk rfl))⟩
 intro f63 _ H65 _ u5 hS u6 _ hcq
 have Z3 := Sub.refl H65
 have S7 := U5.trans u5
 have q71 : tv f63 0 = vQ f7 f8 := Eq.trans (u6 0 rfl) rfl
 refine Z4 (vQ f7 f8) q71 rfl ?_
 exact Z1 ⟨21, _, _, rfl, rfl, Z3, hS, rfl, (Yd1 (nk rfl) (nk rfl) (nk rfl))⟩
 intro _ _ H74 _ u7 hS _ u8 hcq
 have Z3 := Sub.refl H74
 have S7 := U5.trans u7
 refine R9 (eM (u8 6 21 rfl rfl)) rfl ?_
 exact Z1 ⟨22, _, _, rfl, rfl, Z3, hS, rfl, (Yd1 (nk rfl) (nk rfl) (nk rfl))⟩
 intro _ _ H83 _ u9 hS _ v0 hcq
 have Z3 := Sub.refl H83
 have S7 := U5.trans u9
 refine Y2 R4 (eM (v0 7 22 rfl rfl)) rfl ?_
 exact Z1 ⟨23, _, _, rfl, rfl, Z3, hS, rfl, (Yd1 (nk rfl) (nk rfl) (nk rfl))⟩
 intro _ _ H92 _ n1 hS _ v1 hcq
 have Z3 := Sub.refl H92
 have S7 := U5.trans n1
 have e9 := n1.1 _ _ e9
 refine Y3 (h0) M9 (eM (v1 8 23 rfl rfl)) (hS.froz _ _ e9) (k8 0 (show 0 < 2 by decide)) rfl ?_
 exact Z1 ⟨24, _, _, rfl, rfl, Z3, hS, rfl, (Yd1 (nk rfl) (nk rfl) (nk rfl))⟩
 intro _ _ v2 _ l9 hS _ o8 hcq
 have Z3 := Sub.refl v2
 have S7 := U5.trans l9
 have d4 := d4.mono l9
 refine W7 Q0 (eM (o8 9 24 rfl rfl)) d4 rfl ?_
 exact Z1 ⟨25, _, _, rfl, rfl, Z3, hS, rfl, (Yd1 (nk rfl) (nk rfl) (nk rfl))⟩
 intro a63 _ v3 _ m0 hS _ o9 hcq
 have Z3 := Sub.refl v3
 have S7 := U5.trans m0
 obtain ⟨ug, qg, hg⟩ := gvR (o9 4 19 rfl rfl)
 have hg := Z9.old hg
 refine T5 Tryz.call184 (U9 rfl (eM (o9 10 25 rfl rfl))) rfl (Yr1 o7  hS) ?_
 rintro _ _ ⟨v4, a68, rfl, p0, hS, hgn⟩
 have hlk : (lkB H e1).q a68 (a63 19) v4 := Vd0 qg hgn S7 (Z9.rootsIn hg)
 have j8 := RdN.old hgn
 refine ⟨v4, rfl, ?_⟩
 have j8 := ((R.sl (Y9 yT))).mono (Q6 (Sub.trans m0 Z3)) j8
 have Z3 := Z3.trans p0
 exact Z1 ⟨26, _, _, rfl, rfl, Z3, hS, j8, (Yd1 (nk rfl) (fun _ => hlk) (nk rfl))⟩
 intro _ _ v5 _ p1 hS _ _ hcq
 have Z3 := Sub.refl v5
 have S7 := U5.trans p1
 refine W6 (z := vA ([vN] ++ [vN])) ([vN] ++ [vN]).toArray Zr4.zero rfl hS rfl ?_
 intro _ _ hS
 exact Z1 ⟨5, _, _, rfl, rfl, Z3, hS, ⟨_, rfl⟩, (Yd1 (nk rfl) (nk rfl) (nk rfl))⟩
 intro h4 v6 l1 v7 p2 hS _ m1 hcq
 have Z3 := Sub.refl l1
 have S7 := U5.trans p2
 obtain ⟨n2, i9⟩ := m1 12 5 rfl rfl
 have i9 : h4 5 = vP n2 := i9
 have hS : St l1 v6 (Zk9 (cA ([vN] ++ [vN]) 31) (h4 5) ++ (v7 ++ ([(b1, cA ([vN] ++ [vN]) 31)] ++ L))) := hS
 rw [i9] at hS
 have v8 : tv h4 5 = vP n2 := i9
 obtain ⟨_, n3, ⟨j9, rfl, h1⟩⟩ := gvR (m1 5 20 rfl rfl)
 have a30 := h1
 have a31 : RdF (Y6 .i64) H l1 j9 f6 := Z9.mono (Q6 U5) h1
 have h1 := Z9.old h1
 refine X5 (v := vA ([j9] ++ [vN])) (vs := ([j9] ++ [vN]).toArray) (cs := ([vN] ++ [vN]).toArray) S5 v8 n3 rfl hS rfl (R8 (U0 h1.isOne) (U0 rfl)) rfl ?_
 intro _ hS
 have v9 : h4 20 = vA ([j9] ++ [vN]) := n3
 exact Z1 ⟨_, rfl, rfl, Z3, by show St _ _ (Zk9 (Yb5 31 (h4 20)) (h4 5) ++ _); rw [i9, v9]; exact hS, trivial⟩
 intro _ _ n4 _ p3 hS _ p4 hcq
 have Z3 := Sub.refl n4
 have S7 := U5.trans p3
 obtain ⟨n5, w0, i0⟩ := gvR (p4 11 26 rfl rfl)
 have p5 := i0
 have a33 : RdF (Y9 yT) H n4 n5 e1 := Z9.mono (Q6 U5) i0
 have i0 := Z9.old i0
 refine Z5 (n5) w0 rfl ?_
 exact Z1 ⟨6, _, _, rfl, rfl, Z3, hS, p5, (Yd1 (nk rfl) (nk rfl) (fun _ => w0))⟩
 intro g8 w1 j0 k0 hS m2 k1 hcq hll
 have hS : St j0 w1 ((Zk9 (Yb5 31 (g8 20)) (g8 5) ++ ([])) ++ ([(b1, cA ([vN] ++ [vN]) 31)] ++ L)) := hS
 have Z3 := Z3.trans k0
 have c4 := c4.mono k0
 have e9 := k0.1 _ _ e9
 have w3 : tv g8 0 = vQ f7 f8 := Eq.trans (m2 0 rfl) rfl
 have w4 : tv g8 2 = vP b1 := Eq.trans (m2 2 rfl) rfl
 obtain ⟨_, w6, ⟨d8, rfl, c7⟩⟩ := gvR (k1 5 20 (by decide) rfl)
 have a34 := c7
 have d6 : RdF (Y6 .i64) H j0 d8 f6 := Z9.mono (Q6 U5) c7
 have c7 := Z9.old c7
 obtain ⟨g0, w7, c8⟩ := gvR (k1 14 6 (by decide) rfl)
 have a35 := c8
 have d7 : RdF (Y9 yT) H j0 g0 e1 := Z9.mono (Q6 U5) c8
 have c8 := Z9.old c8
 obtain ⟨bA, lA, hA, hnA⟩ : RdN Zb9 H j0 g0 e1 (P5 [d8]) := Wx7 w6 w7 (hll lkA (by simp)) (hll (lkB H e1) (by simp)) (hll lkC (by simp))
 have hxA : ∀ b, b ∈ L8 g0 ++ (bA.flatten ++ P5 [d8]) → j0 b ≠ none := Vg0 hA lA c7
 obtain ⟨e4, h5⟩ := k1 12 5 (by decide) rfl
 have h5 : g8 5 = vP e4 := h5
 rw [h5] at hS
 have h5 : tv g8 5 = _ := h5
 have w8 : g8 20 = vA ([d8] ++ [vN]) := w6
 rw [w8] at hS
 refine Z1 (Z2 (Z2 (Z0 (Z4 (vQ f7 f8) (by exact w3) rfl (R9 rfl rfl (Y2 P2 rfl rfl ?_))))))
 refine Y3 (i7) Zd6 rfl (hS.froz _ _ e9) (k8 1 (show 1 < 2 by decide)) rfl ?_
 have a36 := c4.bound
 refine W7 P6 rfl c4 rfl (Z4 (vI 0) rfl rfl (Z1 (Y7 ?_)))
 have n6 : N1 (Zb7 H (Y9 yT)) 45 j0 (.slice none 0 0) [] [] (L8 g0 ++ (bA.flatten ++ P5 [d8])) := N1.nil _ _ _ hnA hxA
 obtain ⟨n7, d2, n8⟩ := bind_some q0
 refine W1 (id := 0) (fun k f w => ∃ (c0 : Int) (b3 : (List MpT)) (H1 : FH) (c5 : OL) (b4 : Value), L3 K a0 k c0 b3 = some n7 ∧ Sub H H1 ∧ St H1 w (c5 ++ ([(e4, cA ([d8] ++ [b4]) 31)] ++ ([(b1, cA ([vN] ++ [vN]) 31)] ++ L))) ∧ 0 ≤ c0 ∧ N1 (Zb7 H (Y9 yT)) 45 H1 b4 b3 c5 (L8 g0 ++ (bA.flatten ++ P5 [d8])) ∧ RdF (Y6 .i64) H H1 d8 f6 ∧ Z9 (M3 Zb9) (H1.new H) g0 (e1.zip bA) ∧ Z9 (Y6 .i64) H1 d8 f6 ∧ Z9 (Y9 yT) H1 g0 e1 ∧ Z9 (Y9 yT) H1 i7 a0.2 ∧ tv f 2 = vP b1 ∧ tv f 5 = vP e4 ∧ tv f 6 = g0 ∧ tv f 30 = i7 ∧ tv f 31 = vI (a0.2.length : Int) ∧ tv f 32 = vI c0) (fun f w => ∃ (c1 : (List MpT)) (H1 : FH) (e5 : OL) (c9 : Value), n7 = .go c1 ∧ Sub H H1 ∧ St H1 w (e5 ++ ([(e4, cA ([d8] ++ [c9]) 31)] ++ ([(b1, cA ([vN] ++ [vN]) 31)] ++ L))) ∧ N1 (Zb7 H (Y9 yT)) 45 H1 c9 c1 e5 (L8 g0 ++ (bA.flatten ++ P5 [d8])) ∧ RdF (Y6 .i64) H H1 d8 f6 ∧ Z9 (M3 Zb9) (H1.new H) g0 (e1.zip bA) ∧ Z9 (Y6 .i64) H1 d8 f6 ∧ Z9 (Y9 yT) H1 g0 e1 ∧ tv f 2 = vP b1 ∧ tv f 5 = vP e4 ∧ tv f 6 = g0) rfl ?_ ?_ K ?_ ?_
 rintro f w ⟨c0, b3, H1, c5, b4, d2, _⟩
 rw [L3] at d2; cases d2
 rintro k _ _ ih0 hx0 ⟨c0, b3, n9, c5, b4, d2, Z3, hS, _, d3, d6, hA, c7, c8, c4, j4, h6, j5, j1, j2, g9⟩
 rw [L3] at d2
 refine Z2 (Z0 ?_)
 refine V5 (k := .i64) (a := c0) (b := (a0.2.length : Int)) (by exact g9) (by exact j2) rfl (Z1 (Z2 ?_))
 obtain ⟨i1, d2⟩ | ⟨i1, d2⟩ := ic d2
 refine Y0 (bT i1 rfl) (Y8 (Z2 (Y7 (Z2 (Z0 ?_)))))
 obtain ⟨_, _, _, _, _, p6, p7, ⟨g1, rfl, g4⟩, p8⟩ := c4.elem (i := c0) (by omega) (by omega)
 refine X9 P6 rfl (by exact j1) p6 (by exact g9) (by omega) (by omega) rfl ?_
 refine W9 ([g1]) U2 rfl (hS.froz _ _ p7) rfl p8 rfl ?_
 refine W6 (z := vA ([vN])) ([vN]).toArray I0.zero rfl hS rfl ?_
 intro o0 _ hS
 refine X5 (v := vA ([g1])) (vs := ([g1]).toArray) (cs := ([vN]).toArray) U2 rfl rfl rfl hS rfl (U0 g4.isOne) rfl ?_
 intro _ hS
 refine Z1 ?_
 obtain ⟨f9, p9, d2⟩ := bind_some d2
 have U5 := Z3
 refine U1 5 (P0 [mE 36 (vQ e4 1), mE 37 (b4), mE 38 (vA ([g1])), (39, MP.rep (Zi8.fr n9 (R.agg (Y9 yT))) (f9)), (40, MP.nw (Zb7 H (Y9 yT)) n9 f9)]) [] mixed rfl rfl rfl hS (Z6 rfl ?_ (Z6 rfl ?_ (Z6 rfl ?_ (Z6 rfl ?_ (Z6 rfl ?_ U7))))) ?_
 exact W5 fun S B => Y2 P2 (evT (B 5 rfl) h6) rfl (qz S)
 exact X2 fun S V => Y3 (b4) Zd6 (eM (V 0 36 rfl rfl)) (S.get (mR (mR (mR mL)))) rfl rfl (qz S)
 exact W5 fun S B => X7 U2 (evT (B 8 rfl) rfl) (S.get (mR mL)) rfl rfl (qz S)
 intro _ _ x4 _ k2 hS _ q7 hcq
 have Z3 := Sub.refl x4
 have S7 := U5.trans k2
 have g4 := g4.mono k2
 refine X6 Tryz.call185 (U9 (eM (q7 2 38 rfl rfl)) rfl) rfl (Xc3 p9 g4 hS) ?_
 rintro _ _ _ q8 hS k3
 have k3 := ((R.agg (Y9 yT))).mono (Q6 (Sub.trans k2 Z3)) k3
 have Z3 := Z3.trans q8
 exact Z1 ⟨39, _, _, rfl, rfl, Z3, hS, k3⟩
 intro _ _ o1 _ q9 hS _ r0 hcq
 have Z3 := Sub.refl o1
 have S7 := U5.trans q9
 obtain ⟨_, x6, ⟨_, rfl, ⟨k7, rfl, g5⟩⟩⟩ := gvR (r0 3 39 rfl rfl)
 have a43 := g5
 have r1 : RdF yT H o1 k7 f9 := Z9.mono (Q6 U5) g5
 have g5 := Z9.old g5
 refine D9 (τ := M3 (Zb7 H (Y9 yT))) P6 I0 rfl [vA ([k7])] [(f9, P5 [k7])] rfl rfl (K6 x6) (Zi6 ⟨⟨_, rfl, r1⟩, rfl⟩) (by decide) (by decide) hS rfl ?_
 intro _ _ _ r2 hS r3
 have Z3 := Z3.trans r2
 exact Z1 ⟨40, _, _, rfl, rfl, Z3, hS, ⟨_, r3, Zf4 _, RdF.rootsOut a43, Z9.rootsIn (g5.mono r2)⟩⟩
 intro aa8 x7 o2 f0 hS g6 m3 hcq
 have hS : St o2 x7 ([(o0, cA ([g1]) 45)] ++ (c5 ++ ([(e4, cA ([d8] ++ [b4]) 31)] ++ ([(b1, cA ([vN] ++ [vN]) 31)] ++ L)))) := hS
 have Z3 := Z3.trans f0
 have c8 := c8.mono f0
 have hA := hA.mono (Zl8 f0)
 have c4 := c4.mono f0
 have c7 := c7.mono f0
 have d6 := d6.mono f0
 have o3 := evT (g6 5 rfl) h6
 have hq40 : (MP.nw (Zb7 H (Y9 yT)) n9 f9).p o2 (aa8 40) := m3 4 40 (by decide) rfl
 obtain ⟨RR, r4, hRn, hR0, hR1⟩ := hq40
 obtain ⟨aa9, x8⟩ : ∃ u, tv aa8 40 = u := ⟨_, rfl⟩
 have r4 : Z9 (M3 (Zb7 H (Y9 yT))) o2 aa9 [(f9, RR)] := x8 ▸ r4
 have d3 := N1.keep (Zt0 H (G3 _)) d3 f0 hR0 hR1 hRn
 obtain ⟨r5, d2⟩ := gd d2
 have hS := hS.perm V1
 refine Yw3 (τ := (Zb7 H (Y9 yT))) (R := RR) Yl7 rfl (by exact (eM (m3 1 37 (by decide) rfl))) (by exact x8) d3 hS r4 (by simpa using r5) rfl ?_
 intro l2 _ x9 m4 hS
 have hS := hS.perm V1.symm
 refine Y2 P2 (by exact o3) rfl ?_
 have hS := hS.perm Q8
 refine Zb3 (v := l2) (cs := ([d8] ++ [b4]).toArray) (cs' := ([d8] ++ [l2]).toArray) Zd6 rfl rfl hS m4.own.isOne rfl (nl rfl) rfl ?_
 intro _ hS
 have hS := hS.perm Q8.symm
 refine Z1 (X4 (Z0 ?_))
 refine W8 (c0 + 1) (by exact (evT (g6 32 rfl) g9)) rfl (IntWalk.i64_in _ (by omega)) rfl (Z4 (vI (c0 + 1)) rfl rfl (Z1 ?_))
 have hS := St.dropA hS
 exact ih0 _ _ ⟨(c0 + 1), (b3 ++ [f9]), o2, x9, l2, d2, Z3, hS, (by omega), m4, d6, hA, c7, c8, c4, (evT (g6 2 rfl) j4), o3, (evT (g6 6 rfl) j5), (evT (g6 30 rfl) j1), (evT (g6 31 rfl) j2), rfl⟩
 refine Z8 (bF i1 rfl) ?_
 refine W0 rfl ?_
 obtain rfl := oi d2
 exact hx0 _ _ ⟨b3, n9, c5, b4, rfl, Z3, hS, d3, d6, hA, c7, c8, j4, h6, j5⟩
 exact ⟨0, ([] : List MpT), j0, ([]), (vN), d2, Z3, hS, (by omega), n6, d6, hA, c7, c8, c4, w4, h5, w7, rfl, rfl, rfl⟩
 rintro _ _ ⟨c1, _, e5, c9, rfl, Z3, hS, j3, d6, hA, c7, c8, m7, m8, m9⟩
 dsimp only [Ex.elim] at n8
 refine Y7 ?_
 obtain ⟨m5, g2, hS, hiN⟩ := N1.freezeN (G3 _) j3 hS Z3
 have h2 : RdF (Y9 yT) H m5 c9 c1 := RdN.old hiN
 have o4 := Z9.old h2
 have Z3 := Z3.trans g2
 have c8 := c8.mono g2
 have hA := hA.mono (Zl8 g2)
 have c7 := c7.mono g2
 have d6 := d6.mono g2
 have tw : Zv5 H m5 d8 c9 g0 f6 c1 e1 := Zv5.first d6 lA hA hiN
 obtain ⟨y0, b6, h7⟩ := bind_some n8
 refine W1 (id := 2) (fun k f w => ∃ (d1 : (List MpT)) (a4 : (List Int)) (a6 : (List MpT)) (H1 : FH) (c2 : Value) (a1 : Value) (a3 : Value), L1 K k d1 a4 a6 = some y0 ∧ Sub H H1 ∧ St H1 w ([(e4, cA ([a1] ++ [a3]) 31)] ++ ([(b1, cA ([vN] ++ [vN]) 31)] ++ L)) ∧ Z9 (Y9 yT) H1 c2 d1 ∧ Zv5 H H1 a1 a3 c2 a4 a6 d1 ∧ Z9 (Y6 .i64) H1 a1 a4 ∧ Z9 (Y9 yT) H1 a3 a6 ∧ tv f 2 = vP b1 ∧ tv f 5 = vP e4 ∧ tv f 6 = c2) (fun f w => False) rfl ?_ ?_ K ?_ ?_
 rintro f w ⟨d1, a4, a6, H1, c2, a1, a3, b6, _⟩
 rw [L1] at b6; cases b6
 rintro k _ _ ih1 _ ⟨d1, a4, a6, h8, c2, a1, a3, b6, Z3, hS, b8, tw, a5, a7, d5, d9, j6⟩
 rw [L1] at b6
 refine Y7 (Z2 (Z0 ?_))
 have zsub := Z3
 have y1 : Z9 (Y9 yT) h8.noM c2 d1 := b8
 have y3 : Z9 (Y6 .i64) h8.noM a1 a4 := a5
 have y5 : Z9 (Y9 yT) h8.noM a3 a6 := a7
 have tw0 : Zv5 H h8.noM a1 a3 c2 a4 a6 d1 := tw.nom
 obtain ⟨y7, e2, hS, r6, r7⟩ := St.lendBox hS
 have Z3 := Z3.trans e2
 have b8 := b8.mono e2
 have a5 := a5.mono e2
 have a7 := a7.mono e2
 have hlt := Sb.refl y7
 obtain ⟨c6, r8, b6⟩ := bind_some b6
 refine X6 Tryz.call186 (S2 (by exact d9)) rfl (Yp4 r8 ⟨_, _, _, _, _, rfl, r6, ⟨_, _, rfl, ⟨_, rfl, a5⟩, ⟨_, rfl, a7⟩⟩, (Zc3 ([a1] ++ [a3]) 2)⟩ hS) ?_
 rintro _ _ _ i2 hS ⟨_, _, _, rfl, rfl, rfl, rfl⟩
 have Z3 := Z3.trans i2
 have hlt := hlt.trans i2.sb
 have b8 := b8.mono i2
 obtain ⟨h9, f1, _, _, hS⟩ := Yx4.out r7 e2 hlt hS
 have Z3 := Sub.viaM hM zsub f1
 have b8 := y1.mono f1
 have a5 := y3.mono f1
 have a7 := y5.mono f1
 have tw := tw0.mono f1
 refine Z4 (Value.tuple #[vI c6.1, vI c6.2.1, vB c6.2.2]) rfl rfl (W4 (vI c6.1) rfl rfl rfl (W4 (vI c6.2.1) rfl rfl rfl (W4 (vB c6.2.2) rfl rfl rfl (Z5 (vI c6.1) rfl rfl (Z5 (vI c6.2.1) rfl rfl (Z5 (vB c6.2.2) rfl rfl (Z1 (Z2 (Z2 (Z0 (Z4 (vB c6.2.2) rfl rfl (K9 (b := c6.2.2) rfl rfl (Z1 ?_)))))))))))))
 obtain ⟨i3, b6⟩ | ⟨i3, b6⟩ := ic b6
 refine Z8 (Eq.trans rfl (congrArg (fun b => vB (!b)) i3)) (Y8 (Z2 (Z0 (Z4 (vI c6.1) rfl rfl (Z4 (vI c6.2.1) rfl rfl ?_)))))
 have zsub := Z3
 have y8 : Z9 (Y9 yT) h9.noM c2 d1 := b8
 have z0 : Z9 (Y6 .i64) h9.noM a1 a4 := a5
 have z2 : Z9 (Y9 yT) h9.noM a3 a6 := a7
 obtain ⟨e6, e3, hS, k4, r9⟩ := St.lendBox hS
 have Z3 := Z3.trans e3
 have b8 := b8.mono e3
 have a5 := a5.mono e3
 have a7 := a7.mono e3
 have hlt := Sb.refl e6
 obtain ⟨b5, s1, b6⟩ := bind_some b6
 have hS := hS.noM
 have Z3 := Sub.nomT hM Z3
 have b8 : Z9 (Y9 yT) e6.noM c2 d1 := b8
 have hlt : Sb e6 e6.noM := hlt
 have k4 : e6.noM e4 = some (cA ([a1] ++ [a3]) 31) := k4
 have a5 : Z9 (Y6 .i64) e6.noM a1 a4 := a5
 have a7 : Z9 (Y9 yT) e6.noM a3 a6 := a7
 have k5 := hlt.1
 refine T5 Tryz.call187 (G7 (by exact d9) rfl rfl) rfl (Yh1 s1 ⟨_, _, _, _, _, rfl, k4, ⟨_, _, rfl, ⟨_, rfl, a5⟩, ⟨_, rfl, a7⟩⟩, (Zc3 ([a1] ++ [a3]) 2)⟩ (fun _ => rfl) hS) ?_
 rintro _ _ ⟨_, l3, rfl, i4, hS, _, e7, _, rfl, ⟨Hm, hsm, hm2, hls, hAn⟩, rfl⟩
 obtain ⟨b9, c3, rfl, b0, b2⟩ := id hAn.old
 have b0 := b0.mono (Q6 hsm)
 have b2 := b2.mono (Q6 hsm)
 have e0 := RdN.old (RdN.anti (RdN.mono hls hm2) (Sub.refl _))
 refine ⟨_, rfl, ?_⟩
 have s2 := b0
 have f2 : RdF (Y6 .i64) H l3 b9 b5.1.1 := Z9.mono (Q6 Z3) b0
 have b0 := Z9.old b0
 have s3 := b2
 have f3 : RdF (Y9 yT) H l3 c3 b5.1.2 := Z9.mono (Q6 Z3) b2
 have b2 := Z9.old b2
 have s4 := e0
 have m6 : RdF (Y9 yT) H l3 e7 b5.2.1 := Z9.mono (Q6 Z3) e0
 have e0 := Z9.old e0
 have Z3 := Z3.trans i4
 have hlt := hlt.trans i4.sb
 have b8 := b8.mono i4
 obtain ⟨l4, f5, k6, _, hS⟩ := Yx4.out r9 e3 hlt hS
 have Z3 := Sub.viaM hM zsub f5
 have b8 := y8.mono f5
 have f2 : RdF (Y6 .i64) H l4 b9 b5.1.1 := Z9.mono (k6 H _ zsub hM k5) s2
 have b0 := Z9.old f2
 have f3 : RdF (Y9 yT) H l4 c3 b5.1.2 := Z9.mono (k6 H _ zsub hM k5) s3
 have b2 := Z9.old f3
 have m6 : RdF (Y9 yT) H l4 e7 b5.2.1 := Z9.mono (k6 H _ zsub hM k5) s4
 have e0 := Z9.old m6
 have a5 := z0.mono f5
 have a7 := z2.mono f5
 have hAn := hAn.tr2 (k6 H Hm zsub hM (fun b o e => hsm.1 _ _ (k5 _ _ e)))
 refine Z4 (Value.tuple #[vA ([b9] ++ [c3]), e7, vI b5.2.2]) rfl rfl (W4 (vA ([b9] ++ [c3])) rfl rfl rfl (W4 (e7) rfl rfl rfl (W4 (vI b5.2.2) rfl rfl rfl ?_)))
 refine W6 (z := vA ([vN] ++ [vN])) ([vN] ++ [vN]).toArray Zr4.zero rfl hS rfl ?_
 intro _ _ hS
 refine X5 (v := vA ([b9] ++ [c3])) (vs := ([b9] ++ [c3]).toArray) (cs := ([vN] ++ [vN]).toArray) S5 rfl rfl rfl hS rfl (R8 (U0 b0.isOne) (U0 b2.isOne)) rfl ?_
 intro _ hS
 refine Z5 (e7) rfl rfl (Z5 (vI b5.2.2) rfl rfl (Z1 (Z2 (Z2 (Z0 (Z4 (vI b5.2.2) rfl rfl ?_))))))
 refine L7 (k := .i64) (a := b5.2.2) (b := 0) rfl rfl rfl (Z1 ?_)
 obtain ⟨i5, b6⟩ | ⟨i5, b6⟩ := ic b6
 refine Z8 (bN i5 rfl) (Y8 (Z2 (Z0 (Y2 R4 (by exact d9) rfl ?_))))
 refine Y3 (a1) M9 rfl (hS.get (mR mL)) rfl rfl (Y2 R4 rfl rfl ?_)
 refine Y3 (b9) M9 rfl (hS.get mL) rfl rfl (Z4 (e7) rfl rfl ?_)
 obtain ⟨_, s5, b6⟩ := bind_some b6
 refine X6 Tryz.call140 (G7 rfl rfl rfl) rfl (Yw7 s5 a5 b0 e0 hS) ?_
 rintro _ _ _ g7 hS ⟨_, _, _, _, _, rfl, s6, ⟨_, _, _, _, rfl, l5, l6, l7, o5⟩, s7⟩
 have Z3 := Z3.trans g7
 have hAn := hAn.tr2 (Zl8 g7)
 have b8 := b8.mono g7
 have b0 := b0.mono g7
 have f2 := f2.mono g7
 have b2 := b2.mono g7
 have f3 := f3.mono g7
 refine Z4 (c2) (by exact j6) rfl ?_
 obtain ⟨d0, s8, b6⟩ := bind_some b6
 refine T5 Tryz.call188 (U9 rfl rfl) rfl (Yj9 s8 ⟨_, _, _, _, _, rfl, s6, ⟨_, _, _, _, rfl, l5, l6, l7, o5⟩, s7⟩ b8 hS) ?_
 rintro _ _ ⟨_, o6, rfl, h3, hS, ⟨g3, _, rfl, hfn, rfl⟩⟩
 have e8 := RdN.old hfn
 have tw := Zv5.newer hAn hfn Z3 h3
 refine ⟨_, rfl, ?_⟩
 have a48 := e8
 have s9 : RdF (Y9 yT) H o6 g3 d0.1 := Z9.mono (Q6 Z3) e8
 have e8 := Z9.old e8
 have Z3 := Z3.trans h3
 have b0 := b0.mono h3
 have f2 := f2.mono h3
 have b2 := b2.mono h3
 have f3 := f3.mono h3
 refine Z4 (Value.tuple #[g3, vI d0.2]) rfl rfl (W4 (g3) rfl rfl rfl (W4 (vI d0.2) rfl rfl rfl (Z5 (g3) rfl rfl (Z5 (vI d0.2) rfl rfl (Z1 (Z2 (Z2 (Z0 (Z4 (vI d0.2) rfl rfl ?_)))))))))
 refine L7 (k := .i64) (a := d0.2) (b := 0) rfl rfl rfl (Z1 ?_)
 obtain ⟨i6, b6⟩ | ⟨i6, b6⟩ := ic b6
 refine Z8 (bN i6 rfl) (Y8 (Z0 ?_))
 refine X7 S5 rfl (hS.get mL) rfl rfl ?_
 have hS := hS.perm V1
 refine X5 (v := vA ([b9] ++ [c3])) (vs := ([b9] ++ [c3]).toArray) (cs := ([a1] ++ [a3]).toArray) S5 (by exact d9) rfl rfl hS rfl (R8 (U0 b0.isOne) (U0 b2.isOne)) rfl ?_
 intro _ hS
 have hS := hS.perm V1.symm
 refine Z1 (X4 ?_)
 have hS := St.dropA hS
 exact ih1 _ _ ⟨d0.1, b5.1.1, b5.1.2, o6, g3, b9, c3, b6, Z3, hS, e8, tw, b0, b2, d5, d9, rfl⟩
 refine Y0 (bO i6 rfl) (Z2 (Z0 ?_))
 refine R6 (vA ([vN] ++ [vN])) Yl4 rfl (Z4 (vI d0.2) rfl rfl ?_)
 have hS := hS.perm Q8
 refine X5 (v := vA ([vN] ++ [vN])) (vs := ([vN] ++ [vN]).toArray) (cs := ([vN] ++ [vN]).toArray) S5 (by exact d5) rfl rfl hS rfl (R8 (U0 rfl) (U0 rfl)) rfl ?_
 intro _ hS
 have hS := hS.perm Q8.symm
 refine Z5 (vN) rfl rfl (Z5 (vI d0.2) rfl rfl (Z1 ?_))
 refine X0 (vs := [vA ([vN] ++ [vN]), vN, vI d0.2]) Tryz.func105 ⟨⟨_, (by exact d5), V6 S5 (hS.get (mR (mR mL))) rfl⟩, rfl, rfl, trivial⟩ ?_
 obtain rfl := oi b6
 dsimp only [Ex.elim] at h7
 obtain rfl := oi h7
 exact ⟨_, _, rfl, Z3, (St.dropA (St.dropA (St.dropA hS))), ⟨_, _, _, rfl, Yb3.zero Z3, rfl⟩⟩
 refine Y0 (bO i5 rfl) (Z2 (Z0 ?_))
 refine R6 (vA ([vN] ++ [vN])) Yl4 rfl (Z4 (vI b5.2.2) rfl rfl ?_)
 have hS := hS.perm Q8
 refine X5 (v := vA ([vN] ++ [vN])) (vs := ([vN] ++ [vN]).toArray) (cs := ([vN] ++ [vN]).toArray) S5 (by exact d5) rfl rfl hS rfl (R8 (U0 rfl) (U0 rfl)) rfl ?_
 intro _ hS
 have hS := hS.perm Q8.symm
 refine Z5 (vN) rfl rfl (Z5 (vI b5.2.2) rfl rfl (Z1 ?_))
 refine X0 (vs := [vA ([vN] ++ [vN]), vN, vI b5.2.2]) Tryz.func105 ⟨⟨_, (by exact d5), V6 S5 (hS.get (mR (mR mL))) rfl⟩, rfl, rfl, trivial⟩ ?_
 obtain rfl := oi b6
 dsimp only [Ex.elim] at h7
 obtain rfl := oi h7
 exact ⟨_, _, rfl, Z3, (St.dropA (St.dropA (St.dropA hS))), ⟨_, _, _, rfl, Yb3.zero Z3, rfl⟩⟩
 refine Y0 (Eq.trans rfl (congrArg (fun b => vB (!b)) (X8 i3))) (Z2 (Z0 ?_))
 refine X7 S5 (by exact d9) (hS.get mL) rfl rfl (Z4 (c2) (by exact j6) rfl ?_)
 have hS := hS.perm V1
 refine X5 (v := vA ([a1] ++ [a3])) (vs := ([a1] ++ [a3]).toArray) (cs := ([vN] ++ [vN]).toArray) S5 (by exact d5) rfl rfl hS rfl (R8 (U0 a5.isOne) (U0 a7.isOne)) rfl ?_
 intro _ hS
 have hS := hS.perm V1.symm
 refine Z5 (c2) rfl rfl (Z5 (vI 0) rfl rfl (Z1 ?_))
 refine X0 (vs := [vA ([a1] ++ [a3]), c2, vI 0]) Tryz.func105 ⟨⟨_, (by exact d5), V6 S5 (hS.get (mR mL)) rfl⟩, rfl, rfl, trivial⟩ ?_
 obtain rfl := oi b6
 dsimp only [Ex.elim] at h7
 obtain rfl := oi h7
 exact ⟨_, _, rfl, Z3, (St.dropA (St.dropA hS)), ⟨_, _, _, rfl, tw.split hM Z3, rfl⟩⟩
 exact ⟨e1, f6, c1, m5, g0, d8, c9, b6, Z3, hS, c8, tw, c7, o4, m7, m8, m9⟩
 intro _ _ h
 exact h.elim
end Go.Proofs.YtabofnehiclkiaaGreat
