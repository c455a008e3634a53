/- Walks of functions: each computes its pure function, if that gives a value. -/
import Derived.Test.YtabofnehiclkiaaGreatZF25
namespace Go.Proofs.YtabofnehiclkiaaGreat
open Go Go.Proofs.Tryz
set_option linter.unusedSimpArgs false
set_option linter.unusedVariables false
set_option maxRecDepth 100000
set_option maxHeartbeats 8000000
variable {K : Nat} {H : FH} {w : World} {L : OL} {s0 s1 s2 s3 s4 s5 s6 : Value}
theorem Wf6 {n : Int} {H : FH} {w : World} {L : OL} {bp bm : Nat} {ap : Value} {es : Array MapEntry} {clk : Nat} {S : List Lvl} (hbox : H bp = some (.cells #[ap, .map (some bm)] 187)) (hm : (bm, Obj.map es clk) ∈ L) (hes : es.toList.map (fun e => (e.key, e.val)) = S.map (fun (s : Lvl) => (vI s.n, vP s.b))) (hn : Ym3 S n) (hS : St H w L) :
 Calls prog 153 #[vP bp, vI n] w (U7 (fun v _ => ∃ (k : Nat) (t : Lvl), S[k]? = some t ∧ t.n = n ∧ v = vP t.b) H L) := by
 refine X0 func153 rfl ntmps153 rfl ?_
 repeat refine Z1 ?_
 refine Z0 (Z5 (.pointer none) rfl rfl (Z2 ?_))
 repeat refine Z1 ?_
 refine Z0 (Z3 (vP bp) rfl rfl (V4 rfl rfl (Y2 Xe3 rfl rfl ?_)))
 refine Y0 (.map (some bm)) Xv1 rfl (hS.froz _ _ hbox) rfl rfl (Z3 (vI n) rfl rfl ?_)
 refine Xf4 (m := n) rfl rfl (hS.own _ hm) hes rfl ?_ ?_
 intro j s hj hn
 refine Z3 _ rfl rfl (V3 (vP s.b) rfl rfl rfl (V3 (vB true) rfl rfl rfl (Z5 _ rfl rfl (Z5 _ rfl rfl (Z2 ?_)))))
 repeat refine Z1 ?_
 refine Z0 (Z3 (vB true) rfl rfl (Z2 ?_))
 repeat refine Z1 ?_
 refine Z8 rfl ?_
 repeat refine Z1 ?_
 refine Z0 (Z3 (vP s.b) rfl rfl (Z5 (vP s.b) rfl rfl (Z2 ?_)))
 exact Y9 (vs := [vP s.b]) func153 ⟨rfl, trivial⟩ ⟨_, H, rfl, .refl _, hS, j, s, hj, hn, rfl⟩
 intro hno
 obtain ⟨k, t, h1, h2⟩ := hn
 exact absurd h2 (hno t (List.mem_of_getElem? h1))
theorem Wt7 {P : Program} {n : Nat} {ops : Array Oper} {J : Fr → World → Prop} {r : List Oper} {f : Fr} {w : World} {d : Nat} {pos : String} {af : Array Edge} {T X Y E : TypeId} {x y : Operand} {a : Option Addr} {l c s : Nat}
 (t : SlI P X E s) (hx : ev f x = .slice a l c) (hy : ev f y = .slice none 0 0) (hn : Nat.blt d n = true)
 (K : X6 P n ops J r (upd f d (.bool (!a.isNone))) w) : X6 P n ops J (⟨some d, .binOp .neq X x y Y, T, pos, af, none⟩ :: r) f w := by
 refine V6 rfl rfl hn ?_ K
 simp [execOp, hx, hy, eqGuard, binOp, Yw2 P w X E a l c t.under]
def MP.lv (S : List Lvl) (m : Int) (o : Nat) : MP := ⟨fun _ v => ∃ (k : Nat) (t : Lvl), S[k]? = some t ∧ t.n = m ∧ v = vQ t.b o, fun _ h => h, fun _ => []⟩
def bdN (K : Nat) (x : AlX) (n : Int) : Option (List (List Int)) := if 0 < n then (Yq0 K x (n - 1)).bind fun m => Za8 K m else some []
def Ws4 (K : Nat) (x : AlX) (n : Int) : Option (List (List Int)) := (Yq0 K x n).bind fun m => (lv0 K x (n + 1)).bind fun M' => Zt6 K m M'.length
def Yp1 (K : Nat) (bd : List (List Int)) : List (List Int) → Option (List (List Int))
 | [] => some []
 | r :: rs => (Zj1 K r bd).bind fun q => (Yp1 K bd rs).bind fun qs => some (q :: qs)
def Xd2 (K : Nat) (x : AlX) (n : Int) : Option (List (List Int) × List (List Int) × List (List Int)) :=
 if -1099511627776 ≤ n ∧ n ≤ 1099511627776 then (Ws4 K x n).bind fun ker => (bdN K x n).bind fun bd => if ker.length ≤ 1099511627776 then (Yp1 K bd ker).bind fun l => (Za8 K l).bind fun cl => some (ker, bd, cl) else none else none
def Lv3 (K : Nat) (x : AlX) (H : FH) (s : Lvl) : Prop := (s.c3 = vN ∧ s.c4 = vN ∧ s.c5 = vN) ∨ ∃ r, Xd2 K x s.n = some r ∧ Zw9 H s.c3 r.1 ∧ Y3 (X2 (Y5 .i64)) H s.c4 r.2.1 ∧ Y3 (X2 (Y5 .i64)) H s.c5 r.2.2
theorem Lv3.mono {K : Nat} {x : AlX} {H H' : FH} {s : Lvl} (h : Lv3 K x H s) (hs : Sub H H') : Lv3 K x H' s := h.imp id fun ⟨r, h1, h2, h3, h4⟩ => ⟨r, h1, h2.mono hs, h3.mono hs, h4.mono hs⟩
def Yt9 (K : Nat) (x : AlX) (H : FH) (S : List Lvl) : Prop := ∀ (k : Nat) (s : Lvl), S[k]? = some s → Lv3 K x H s
theorem Yt9.mono {K : Nat} {x : AlX} {H H' : FH} {S : List Lvl} (h : Yt9 K x H S) (hs : Sub H H') : Yt9 K x H' S := fun k s e => (h k s e).mono hs
theorem Yt9.ext {K : Nat} {x : AlX} {H : FH} {S S' : List Lvl} (h : Yt9 K x H S) (h' : Ze5 S S') : Yt9 K x H S' := by
 intro k s hk
 rcases Nat.lt_or_ge k S.length with hl | hl
 obtain ⟨c2, h1⟩ := h'.1 k _ (List.getElem?_eq_getElem hl)
 rw [hk] at h1
 cases h1
 have h2 := h k _ (List.getElem?_eq_getElem hl)
 exact h2
 exact .inl (h'.2 k s hl hk)
def Yk6 (S S' : List Lvl) : Prop := ∀ (k : Nat) (s : Lvl), S[k]? = some s → ∃ s', S'[k]? = some s' ∧ s'.n = s.n ∧ s'.b = s.b ∧ s'.v0 = s.v0 ∧ s'.v1 = s.v1 ∧ (s.c3 ≠ vN → s'.c3 = s.c3 ∧ s'.c4 = s.c4 ∧ s'.c5 = s.c5)
theorem Ze5.toA {S S' : List Lvl} (h : Ze5 S S') : Yk6 S S' := fun k s hk => let ⟨c2, h1⟩ := h.1 k s hk; ⟨_, h1, rfl, rfl, rfl, rfl, fun _ => ⟨rfl, rfl, rfl⟩⟩
theorem Yk6.refl (S : List Lvl) : Yk6 S S := (Ze5.refl S).toA
theorem Yk6.trans {S S' S'' : List Lvl} (h : Yk6 S S') (h' : Yk6 S' S'') : Yk6 S S'' := fun k s hk => by
 obtain ⟨s1, h1, a1, a2, a3, a4, a5⟩ := h k s hk
 obtain ⟨s2, h2, b1, b2, b3, b4, b5⟩ := h' k s1 h1
 refine ⟨s2, h2, b1.trans a1, b2.trans a2, b3.trans a3, b4.trans a4, fun hne => ?_⟩
 obtain ⟨c3, c4, c5⟩ := a5 hne
 obtain ⟨d3, d4, d5⟩ := b5 (by rw [c3]; exact hne)
 exact ⟨d3.trans c3, d4.trans c4, d5.trans c5⟩
theorem Yk6.set {S : List Lvl} {i : Nat} {s s' : Lvl} (h : S[i]? = some s) (h1 : s'.n = s.n) (h2 : s'.b = s.b) (h3 : s'.v0 = s.v0) (h4 : s'.v1 = s.v1) (h5 : s.c3 = vN) : Yk6 S (S.set i s') := fun k t hk => by
 rw [List.getElem?_set]
 by_cases e : i = k
 subst e; rw [h] at hk; cases hk
 rw [if_pos rfl, if_pos (List.getElem?_eq_some_iff.1 h).1]
 exact ⟨s', rfl, h1, h2, h3, h4, fun hne => absurd h5 hne⟩
 rw [if_neg e]; exact ⟨t, hk, rfl, rfl, rfl, rfl, fun _ => ⟨rfl, rfl, rfl⟩⟩
def Vh0 (K : Nat) (x : AlX) (n : Int) (p : Value) (S : List Lvl) (r : List (List Int) × List (List Int) × List (List Int)) (H : FH) (L : OL) : Ending → World → Prop := fun e w' => ∃ (i : Nat) (s : Lvl) (S' : List Lvl) (H' : FH) (C : OL), e = .returned (vP s.b) ∧ Sub H H' ∧ St H' w' (C ++ L) ∧ Cx H' p x S' C ∧ S'[i]? = some s ∧ s.n = n ∧
 (Zw9 H' s.c3 r.1 ∧ Y3 (X2 (Y5 .i64)) H' s.c4 r.2.1 ∧ Y3 (X2 (Y5 .i64)) H' s.c5 r.2.2 ∧ ∀ m, Yq0 K x n = some m → Zw9 H' s.c2 m) ∧ Zy6 K x H' S' ∧ Yt9 K x H' S' ∧ Yk6 S S'
def Zz2 (i : Nat) (S S' : List Lvl) : Prop := ∀ (k : Nat) (s : Lvl), S[k]? = some s → ∃ s', S'[k]? = some s' ∧ s'.n = s.n ∧ s'.b = s.b ∧ s'.v0 = s.v0 ∧ s'.v1 = s.v1 ∧ (k ≠ i → s'.c3 = s.c3 ∧ s'.c4 = s.c4 ∧ s'.c5 = s.c5)
theorem Ze5.toB {S S' : List Lvl} (i : Nat) (h : Ze5 S S') : Zz2 i S S' := fun k s hk => let ⟨c2, h1⟩ := h.1 k s hk; ⟨_, h1, rfl, rfl, rfl, rfl, fun _ => ⟨rfl, rfl, rfl⟩⟩
theorem Zz2.trans {i : Nat} {S S' S'' : List Lvl} (h : Zz2 i S S') (h' : Zz2 i S' S'') : Zz2 i S S'' := fun k s hk => by
 obtain ⟨s1, h1, a1, a2, a3, a4, a5⟩ := h k s hk
 obtain ⟨s2, h2, b1, b2, b3, b4, b5⟩ := h' k s1 h1
 exact ⟨s2, h2, b1.trans a1, b2.trans a2, b3.trans a3, b4.trans a4, fun hne => ⟨(b5 hne).1.trans (a5 hne).1, (b5 hne).2.1.trans (a5 hne).2.1, (b5 hne).2.2.trans (a5 hne).2.2⟩⟩
theorem Zz2.set {S : List Lvl} {i : Nat} {s s' : Lvl} (h : S[i]? = some s) (h1 : s'.n = s.n) (h2 : s'.b = s.b) (h3 : s'.v0 = s.v0) (h4 : s'.v1 = s.v1) : Zz2 i S (S.set i s') := fun k t hk => by
 rw [List.getElem?_set]
 by_cases e : i = k
 subst e; rw [h] at hk; cases hk
 rw [if_pos rfl, if_pos (List.getElem?_eq_some_iff.1 h).1]
 exact ⟨s', rfl, h1, h2, h3, h4, fun hne => absurd rfl hne⟩
 rw [if_neg e]; exact ⟨t, hk, rfl, rfl, rfl, rfl, fun _ => ⟨rfl, rfl, rfl⟩⟩
theorem Zz2.toA {S S' : List Lvl} {i : Nat} {s : Lvl} (h : Zz2 i S S') (hi : S[i]? = some s) (hc : s.c3 = vN) : Yk6 S S' := fun k t hk => by
 obtain ⟨s1, h1, a1, a2, a3, a4, a5⟩ := h k t hk
 refine ⟨s1, h1, a1, a2, a3, a4, fun hne => a5 fun e => ?_⟩
 subst e; rw [hi] at hk; cases hk; exact hne hc
theorem Ym3.ofB {S S' : List Lvl} {i : Nat} {m : Int} (h : Ym3 S m) (h' : Zz2 i S S') : Ym3 S' m := by
 obtain ⟨k, t, h1, h2⟩ := h
 obtain ⟨s', h3, h4, _⟩ := h' k t h1
 exact ⟨k, s', h3, h4.trans h2⟩
theorem Zy6.set {K : Nat} {x : AlX} {H : FH} {S : List Lvl} {i : Nat} {s s' : Lvl} (h : Zy6 K x H S) (hi : S[i]? = some s) (h1 : s'.n = s.n) (h2 : s'.b = s.b) (h3 : s'.v0 = s.v0) (h4 : s'.v1 = s.v1) (h5 : s'.c2 = s.c2) : Zy6 K x H (S.set i s') := by
 have hX := Zz2.set hi h1 h2 h3 h4
 intro k t hk
 rw [List.getElem?_set] at hk
 by_cases e : i = k
 subst e
 rw [if_pos rfl, if_pos (List.getElem?_eq_some_iff.1 hi).1] at hk
 cases hk
 obtain ⟨⟨M, a1, a2, a3⟩, b⟩ := h i s hi
 refine ⟨⟨M, by rw [h1]; exact a1, by rw [h3]; exact a2, by rw [h4]; exact a3⟩, ?_⟩
 unfold Lv2
 rw [h1, h5]
 exact b.imp id fun ⟨c, d⟩ => ⟨c, d.ofB hX⟩
 rw [if_neg e] at hk
 exact ⟨(h k t hk).1, (h k t hk).2.imp id fun ⟨c, d⟩ => ⟨c, d.ofB hX⟩⟩
def Yc3 (i K : Nat) (x : AlX) (H : FH) (S : List Lvl) : Prop := ∀ (k : Nat) (s : Lvl), k ≠ i → S[k]? = some s → Lv3 K x H s
theorem Yc3.mono {i K : Nat} {x : AlX} {H H' : FH} {S : List Lvl} (h : Yc3 i K x H S) (hs : Sub H H') : Yc3 i K x H' S := fun k s hk e => (h k s hk e).mono hs
theorem Yc3.ext {i K : Nat} {x : AlX} {H : FH} {S S' : List Lvl} (h : Yc3 i K x H S) (h' : Ze5 S S') : Yc3 i K x H S' := by
 intro k s hki hk
 rcases Nat.lt_or_ge k S.length with hl | hl
 obtain ⟨c2, h1⟩ := h'.1 k _ (List.getElem?_eq_getElem hl)
 rw [hk] at h1
 cases h1
 have h2 := h k _ hki (List.getElem?_eq_getElem hl)
 exact h2
 exact .inl (h'.2 k s hl hk)
theorem Yc3.set {i K : Nat} {x : AlX} {H : FH} {S : List Lvl} {s : Lvl} (h : Yc3 i K x H S) : Yc3 i K x H (S.set i s) := fun k t hki hk => by
 rw [List.getElem?_set, if_neg (fun e => hki e.symm)] at hk
 exact h k t hki hk
def MP.nn (m : List (List Int)) : MP := ⟨fun H v => Zw9 H v m, fun hs h => h.mono hs, fun _ => []⟩
theorem Ww3 {K : Nat} {x : AlX} {n : Int} {r : List (List Int) × List (List Int) × List (List Int)} (q0 : Xd2 K x n = some r) {H : FH} {w : World} {L C : OL} {p : Value} {S : List Lvl} (hC : Cx H p x S C) (hA : Zy6 K x H S) (hA3 : Yt9 K x H S) (hS : St H w (C ++ L)) :
 Calls prog 84 #[p, vI n] w (Vh0 K x n p S r H L) := by
 have q1 := q0
 unfold Xd2 at q1
 by_cases hg : -1099511627776 ≤ n ∧ n ≤ 1099511627776
 case neg => rw [if_neg hg] at q1; cases q1
 rw [if_pos hg] at q1
 obtain ⟨ker, hker, q1⟩ := bind_some q1
 obtain ⟨bd, hbd, q1⟩ := bind_some q1
 by_cases hkl : ker.length ≤ 1099511627776
 case neg => rw [if_neg hkl] at q1; cases q1
 rw [if_pos hkl] at q1
 obtain ⟨left, hleft, q1⟩ := bind_some q1
 obtain ⟨cl, hcl, q1⟩ := bind_some q1
 obtain rfl := oi q1
 obtain ⟨mat, hmat, hker⟩ := bind_some hker
 obtain ⟨M', hM', hker⟩ := bind_some hker
 obtain ⟨g2, g3⟩ := hg
 refine X0 func84 rfl ntmps84 rfl ?_
 repeat refine Z1 ?_
 refine Z0 (Z5 (.pointer none) rfl rfl (Z2 ?_))
 repeat refine Z1 ?_
 refine Z0 (Z3 p rfl rfl (Z3 (vI n) rfl rfl ?_))
 refine U9 call151 (V2 rfl rfl) rfl (Ys5 hmat hC hA hS) ?_
 rintro e1 w1 ⟨i, s, S1, H1, C1, rfl, s1, hS, hC, hi, hsn, hnn, hA1, hX1, _⟩
 refine ⟨_, rfl, ?_⟩
 have hA3 := (hA3.mono s1).ext hX1
 clear hA
 refine Z5 (vP s.b) rfl rfl (Z2 ?_)
 repeat refine Z1 ?_
 have hbl : ∀ {L' : OL}, s.chunk ∈ S1.map Lvl.chunk ++ L' := List.mem_append_left _ (List.mem_map.2 ⟨s, List.mem_of_getElem? hi, rfl⟩)
 obtain ⟨bp, bm, ap, es, clk, rfl, hbox, hap, rfl, hes⟩ := hC
 have hCx : Cx H1 (vP bp) x S1 ((bm, .map es clk) :: S1.map Lvl.chunk) := ⟨bp, bm, ap, es, clk, rfl, hbox, hap, rfl, hes⟩
 refine Z0 (Z3 (vP s.b) rfl rfl (V4 rfl rfl (Y2 Yq8 rfl rfl ?_)))
 refine Y0 s.c3 Zr5 rfl (hS.own s.chunk (List.mem_cons_of_mem _ hbl)) rfl rfl ?_
 have hc3 : ∃ a l c, s.c3 = .slice a l c := by
  rcases hA3 i s hi with ⟨h, _⟩ | ⟨q, _, ⟨⟨b, o, l, c, h⟩, _⟩, _⟩
  exact ⟨none, 0, 0, h⟩
  exact ⟨_, l, c, h⟩
 obtain ⟨ca, cl', cc, hc3⟩ := hc3
 refine Wt7 T2 (a := ca) (l := cl') (c := cc) (show s.c3 = _ from hc3) rfl rfl (Z2 ?_)
 repeat refine Z1 ?_
 rcases hA3 i s hi with ⟨hn3, hn4, hn5⟩ | ⟨q, hq, hq3, hq4, hq5⟩
 case inr =>
  have hca : (!ca.isNone) = true := by
   obtain ⟨⟨b, o, l, c, h⟩, _⟩ := hq3
   rw [hc3] at h; cases h; rfl
  refine Z8 (show _ = vB true from congrArg Value.bool hca) ?_
  rw [hsn, q0] at hq
  cases hq
  repeat refine Z1 ?_
  refine Z0 (Z3 (vP s.b) rfl rfl (Z5 (vP s.b) rfl rfl (Z2 ?_)))
  exact Y9 (vs := [vP s.b]) func84 ⟨rfl, trivial⟩ ⟨i, s, S1, H1, _, rfl, s1, hS, hCx, hi, hsn, ⟨hq3, hq4, hq5, fun m hm => by rw [hmat] at hm; cases hm; exact hnn⟩, hA1, hA3, hX1.toA⟩
 have hca : (!ca.isNone) = false := by rw [hc3] at hn3; cases hn3; rfl
 refine Z7 (show _ = vB false from congrArg Value.bool hca) (Y6 ?_)
 clear hca hc3
 repeat refine Z1 ?_
 refine Zj6 fun f0 hf0 => ?_
 have t0 : tv f0 0 = vP bp := by rw [hf0]; rfl
 have t1 : tv f0 1 = vI n := by rw [hf0]; rfl
 have t5 : tv f0 5 = vP s.b := by rw [hf0]; rfl
 clear hf0
 have hhas : Ym3 S1 (n + 1) := by
  rcases (hA1 i s hi).2 with h | ⟨_, h⟩
  obtain ⟨⟨b, o, l, c, h2⟩, _⟩ := hnn
  rw [h] at h2; cases h2
  rw [hsn] at h; exact h
 have hn1 : IntKind.i64.wrap (n + 1) = n + 1 := IntWalk.i64_in _ (by omega)
 refine W7 14 (S9 [mE 18 (vP s.b), mE 19 (vP s.b), mE 20 (vP s.b), mE 21 (vQ s.b 2), mE 22 s.c2, mE 23 (vP bp), mE 24 (vI n), mE 25 (vI (n + 1)), (26, MP.lv S1 (n + 1) 0), (27, MP.lv S1 (n + 1) 0), (28, MP.lv S1 (n + 1) 0), (29, MP.sl (Q9 .i64) M'), mE 30 (vI M'.length), (31, MP.nn ker)]) [] mixed rfl rfl rfl hS (V9 ?_ ?_ ?_ ?_ ?_ ?_ ?_ ?_ (J9 ?_ ?_ ?_ ?_ (J2 ?_ ?_ V1))) ?_
 exact X4 fun S B => Z3 _ (evT (B 5 rfl) t5) rfl (qz S)
 exact X4 fun S B => Z3 _ (evT (B 5 rfl) t5) rfl (qz S)
 exact Y7 fun S V => V4 (eM (V 1 19 rfl rfl)) rfl (qz S)
 exact Y7 fun S V => Y2 Ye4 (eM (V 2 20 rfl rfl)) rfl (qz S)
 exact Y7 fun S V => Y0 s.c2 Zr5 (eM (V 3 21 rfl rfl)) (S.own s.chunk (mR (List.mem_cons_of_mem _ hbl))) rfl rfl (qz S)
 exact X4 fun S B => Z3 _ (evT (B 0 rfl) t0) rfl (qz S)
 exact X4 fun S B => Z3 _ (evT (B 1 rfl) t1) rfl (qz S)
 exact Y7 fun S V => W2 (n + 1) (eM (V 6 24 rfl rfl)) rfl hn1 rfl (qz S)
 intro f w G X s' S B V hcq
 refine X3 call153 (V2 (eM (V 5 23 rfl rfl)) (eM (V 7 25 rfl rfl))) rfl (Wf6 (s'.1 _ _ hbox) (mR (List.mem_cons_self ..)) hes hhas S) ?_
 rintro v G2 w2 s2 S2 hv
 exact qn s2 rfl S2 hv
 exact Y7 fun S V => by
  obtain ⟨k, t, h1, h2, hv⟩ := V 8 26 rfl rfl
  exact V4 hv rfl (qn (.refl _) rfl S ⟨k, t, h1, h2, rfl⟩)
 exact Y7 fun S V => by
  obtain ⟨k, t, h1, h2, hv⟩ := V 9 27 rfl rfl
  exact Y2 Yd8 hv rfl (qn (.refl _) rfl S ⟨k, t, h1, h2, rfl⟩)
 intro f w G X s' S B V hcq
 obtain ⟨k, t, h1, h2, hv⟩ := V 10 28 rfl rfl
 obtain ⟨Mt, b1, b2, _⟩ := (hA1 k t h1).1
 rw [h2, hM'] at b1
 obtain rfl := oi b1
 exact Y0 t.v0 Yx7 (show ev f (.tmp 28) = vQ t.b 0 from hv) (S.own t.chunk (mR (List.mem_cons_of_mem _ (List.mem_append_left _ (List.mem_map.2 ⟨t, List.mem_of_getElem? h1, rfl⟩))))) rfl rfl (qn (.refl _) rfl S (b2.mono s'))
 intro f w G X s' S B V hcq
 have hg : (MP.sl (Q9 .i64) M').p G (f 29) := V 11 29 rfl rfl
 exact X9 Ya2 (show ev f (.tmp 29) = f 29 from rfl) hg rfl (qz S)
 intro f w G X s' S B V hcq
 refine X3 call152 (V2 (eM (V 4 22 rfl rfl)) (eM (V 12 30 rfl rfl))) rfl (Wf0 hker (hnn.2.mono s') S) ?_
 rintro v G2 w2 s2 S2 ⟨⟨kb, kl, kc, hkv⟩, hkr⟩
 exact qn s2 rfl S2 ⟨⟨kb, 0, kl, kc, hkv⟩, hkr⟩
 intro f2 w2 H2 s2 hS hB hV hcq
 have hnk : Zw9 H2 (f2 31) ker := hV 13 31 (by decide) rfl
 have t0 : tv f2 0 = vP bp := evT (hB 0 rfl) t0
 have t1 : tv f2 1 = vI n := evT (hB 1 rfl) t1
 have t5 : tv f2 5 = vP s.b := evT (hB 5 rfl) t5
 obtain ⟨kv, hkv⟩ : ∃ kv, f2 31 = kv := ⟨_, rfl⟩
 rw [hkv] at hnk
 refine V4 (eM (hV 0 18 (by decide) rfl)) rfl (Y2 Yq8 rfl rfl ?_)
 have hS : St H2 w2 ([s.chunk] ++ ((bm, .map es clk) :: ((S1.eraseIdx i).map Lvl.chunk ++ L))) := Yt8 hS.dropA hi
 have hil := (List.getElem?_eq_some_iff.1 hi).1
 refine Zd3 (v := kv) (cs := s.cs) (cs' := Lvl.cs { s with c3 := kv }) Zr5 rfl (by exact hkv) hS hnk.2.isOne rfl (nl rfl) rfl ?_
 intro w3 hS
 have hS := Xj2 (s := { s with c3 := kv }) hil hS
 have hi2 : (S1.set i { s with c3 := kv })[i]? = some { s with c3 := kv } := by rw [List.getElem?_set, if_pos rfl, if_pos hil]
 have hB2 : Zz2 i S1 (S1.set i { s with c3 := kv }) := Zz2.set hi rfl rfl rfl rfl
 have hA2 : Zy6 K x H2 (S1.set i { s with c3 := kv }) := (hA1.mono s2).set hi rfl rfl rfl rfl rfl
 have hO2 : Yc3 i K x H2 (S1.set i { s with c3 := kv }) := Yc3.set fun k t hk ht => (hA3 k t ht).mono s2
 have hC2 : Cx H2 (vP bp) x (S1.set i { s with c3 := kv }) ((bm, .map es clk) :: (S1.set i { s with c3 := kv }).map Lvl.chunk) := ⟨bp, bm, ap, es, clk, rfl, s2.1 _ _ hbox, hap.mono s2, rfl, hes.trans (Yt7 (s' := { s with c3 := kv }) hi rfl rfl).symm⟩
 have hnn2 := hnn.mono s2
 have s2 := s1.trans s2
 refine Z2 ?_
 repeat refine Z1 ?_
 refine Zj6 fun f1 hf1 => ?_
 have t0 : tv f1 0 = vP bp := by rw [hf1]; exact t0
 have t1 : tv f1 1 = vI n := by rw [hf1]; exact t1
 have t5 : tv f1 5 = vP s.b := by rw [hf1]; exact t5
 clear hf1 hbl hap hbox s1
 refine Z0 (Z3 (vI n) (by exact t1) rfl ?_)
 refine Za9 (k := .i64) (a := n) (b := 0) rfl rfl rfl (Z2 ?_)
 repeat refine Z1 ?_
 generalize hL2 : (bm, Obj.map es clk) :: (S1.set i { s with c3 := kv }).map Lvl.chunk = CC at hC2
 replace hS : St H2 w3 (CC ++ L) := by rw [← hL2]; exact hS
 clear hL2 hes hCx
 refine N4 (fun f w => ∃ (S3 : List Lvl) (u : Lvl) (H3 : FH) (C3 : OL), Sub H H3 ∧ St H3 w (C3 ++ L) ∧ Cx H3 (vP bp) x S3 C3 ∧ S3[i]? = some u ∧ u.n = n ∧ u.b = s.b ∧ u.c3 = kv ∧ (u.c2 = s.c2 ∧ Zw9 H3 s.c2 mat) ∧ Zw9 H3 kv ker ∧ Y3 (X2 (Y5 .i64)) H3 u.c4 bd ∧ Zy6 K x H3 S3 ∧ Yc3 i K x H3 S3 ∧ Zz2 i S1 S3 ∧ tv f 5 = vP s.b) ?_ ?_
 rintro f w ⟨S3, u, H3, C3, Z4, hS, hC3, hu, hun, hub, huc3, ⟨huc2, hnn3⟩, hnk, hbd', hA3', hO3, hB3, t5⟩
 have hkr := hnk.2
 repeat refine Z1 ?_
 refine Z0 ?_
 refine Yo3 (τ := X2 (Y5 .i64)) T2 Zn8 rfl hS rfl ?_
 intro bl w4 ho hS
 refine Z5 (.slice (some ⟨bl, 0, none⟩) 0 0) rfl rfl (Z2 ?_)
 repeat refine Z1 ?_
 obtain ⟨bp', bm', ap', es', clk', he1, hbox', hap', rfl, hes'⟩ := hC3
 cases he1
 have huR : ∀ {L' : OL}, u.chunk ∈ ((bm', Obj.map es' clk') :: S3.map Lvl.chunk) ++ L' := List.mem_append_left _ (List.mem_cons_of_mem _ (List.mem_map.2 ⟨u, List.mem_of_getElem? hu, rfl⟩))
 generalize hCR : (bm', Obj.map es' clk') :: S3.map Lvl.chunk = CR at huR hS
 have huk : u.cs[3]? = some kv := by rw [← huc3]; rfl
 have t5 : tv f 5 = vP u.b := by rw [hub]; exact t5
 refine Z0 (Z3 (vP u.b) (by exact t5) rfl (V4 rfl rfl (Y2 Yq8 rfl rfl ?_)))
 refine Y0 kv Zr5 rfl (hS.own u.chunk (mR huR)) huk rfl ?_
 refine X9 T2 rfl hkr rfl (Z3 (vI 0) rfl rfl (Z2 (Y8 ?_)))
 refine W0 (id := 0) (fun k f w => ∃ (m : Nat) (acc tl : List (List Int)) (H5 : FH) (v : Value) (Cm : OL), m ≤ ker.length ∧ ker.length < m + k ∧ acc.length = m ∧ Yp1 K bd (ker.drop m) = some tl ∧ acc ++ tl = left ∧ Sub H3 H5 ∧ St H5 w (Cm ++ (CR ++ L)) ∧ X8 (X2 (Y5 .i64)) 22 H5 v acc Cm ∧ tv f 5 = vP u.b ∧ tv f 6 = v ∧ tv f 51 = kv ∧ tv f 52 = vI (ker.length : Int) ∧ tv f 53 = vI (m : Int))
  (fun f w => ∃ (H5 : FH) (v : Value) (Cm : OL), Sub H3 H5 ∧ St H5 w (Cm ++ (CR ++ L)) ∧ X8 (X2 (Y5 .i64)) 22 H5 v left Cm ∧ tv f 5 = vP u.b ∧ tv f 6 = v) rfl ?_ ?_ (ker.length + 1) ?_ ?_
 rintro f w ⟨m, acc, tl, H5, v, Cm, h1, h2, _⟩; omega
 rintro k f w ih hx ⟨m, acc, tl, H5, v, Cm, h1, h2, hal, htl, hlf, s5, hS, ho, t5, t6, t51, t52, t53⟩
 repeat refine Z1 ?_
 refine Z0 ?_
 refine W8 (k := .i64) (a := m) (b := ker.length) (by exact t53) (by exact t52) rfl (Z2 ?_)
 repeat refine Z1 ?_
 by_cases hm : (m : Int) < (ker.length : Int)
 have hm' : m < ker.length := by omega
 rw [show ker.drop m = ker[m] :: ker.drop (m + 1) from (List.getElem_cons_drop ..).symm, Yp1] at htl
 obtain ⟨rq, hrq, htl⟩ := bind_some htl
 obtain ⟨tl', htl', htl⟩ := bind_some htl
 obtain rfl := oi htl
 refine Z8 (bT hm rfl) (Y6 ?_)
 repeat refine Z1 ?_
 refine Y8 ?_
 repeat refine Z1 ?_
 refine Z0 ?_
 obtain ⟨b, of, cs, E, _, hp, hb, ⟨ru, rfl, hru⟩, hc⟩ := (hkr.mono s5).elem (i := (m : Int)) (by omega) hm
 refine X5 T2 rfl (by exact t51) hp (by exact t53) (by omega) hm rfl ?_
 refine Y0 ru P4 rfl (hS.froz _ _ hb) (hc 0 (show 0 < 1 by decide)) rfl (Z5 ru rfl rfl (Z2 ?_))
 rw [Zu2 hm', Q8 hm'] at hru
 repeat refine Z1 ?_
 refine Z0 (Z3 v (by exact t6) rfl (Z3 ru rfl rfl (Z3 (vP u.b) (by exact t5) rfl (V4 rfl rfl (Y2 Xs1 rfl rfl ?_)))))
 refine Y0 u.c4 Zr5 rfl (hS.own u.chunk (mR huR)) rfl rfl ?_
 refine X3 call155 (V2 rfl rfl) rfl (Yv3 hrq hru (hbd'.mono s5) hS) ?_
 rintro y H6 w6 s6 hS hy
 have hy : Y3 (Y5 .i64) H6 y rq := hy
 have ho := ho.mono s6
 refine Zc2 (τ := X2 (Y5 .i64)) T2 Zn8 rfl [y] [rq] rfl rfl (E7 rfl) (Zk6 ⟨y, hy.cellsL, hy⟩) (by decide) (by decide) hS rfl ?_
 intro u8 H8 w8 s8 hS hl8
 have ho := ho.mono s8
 refine N6 (τ := X2 (Y5 .i64)) Yb5 rfl rfl rfl ho hS hl8 (by rw [hal]; simp; omega) rfl ?_
 intro v9 w9 C9 ho9 hS
 refine Z5 v9 rfl rfl (Z2 (X1 (Z0 ?_)))
 refine W2 ((m : Int) + 1) (by exact t53) rfl (IntWalk.i64_in _ (by omega)) rfl (Z3 (vI ((m : Int) + 1)) rfl rfl (Z2 ?_))
 exact ih _ _ ⟨m + 1, acc ++ [rq], tl', H8, v9, C9, by omega, by omega, by simp [hal], htl', by rw [List.append_assoc]; exact hlf, (s5.trans s6).trans s8, hS, ho9, t5, rfl, t51, t52, by show vI ((m : Int) + 1) = vI ((m + 1 : Nat) : Int); rw [Int.natCast_add]; rfl⟩
 refine Z7 (bF hm rfl) (X7 rfl ?_)
 have e : m = ker.length := by omega
 subst e
 rw [List.drop_length, Yp1] at htl
 obtain rfl := oi htl
 rw [List.append_nil] at hlf
 subst hlf
 exact hx _ _ ⟨H5, v, Cm, s5, hS, ho, t5, t6⟩
 exact ⟨0, [], left, H3, _, _, by omega, by omega, rfl, hleft, rfl, .refl _, hS, ho, t5, rfl, rfl, rfl, rfl⟩
 rintro f w ⟨H5, v, Cm, s5, hS, ho, t5, t6⟩
 repeat refine Z1 ?_
 obtain ⟨H6, s6, hS, hlr⟩ := ho.freeze hS
 refine Z0 (Z3 (vP u.b) (by exact t5) rfl (Z3 v (by exact t6) rfl ?_))
 refine X3 call154 (R3 rfl) rfl (Yl2 hcl hlr hS) ?_
 rintro y H7 w7 s7 hS hy
 have hy : Y3 (X2 (Y5 .i64)) H7 y cl := hy
 have s7 := (s5.trans s6).trans s7
 refine V4 rfl rfl (Y2 Wu2 rfl rfl ?_)
 subst hCR
 have hS := Yt8 hS hu
 have hil3 := (List.getElem?_eq_some_iff.1 hu).1
 refine Zd3 (v := y) (cs := u.cs) (cs' := Lvl.cs { u with c5 := y }) Zr5 rfl rfl hS hy.isOne rfl (nl rfl) rfl ?_
 intro w8 hS
 have hS := Xj2 (s := { u with c5 := y }) hil3 hS
 refine Z2 ?_
 repeat refine Z1 ?_
 refine Z0 (Z3 (vP u.b) (by exact t5) rfl (Z5 (vP u.b) rfl rfl (Z2 ?_)))
 have hres : Zw9 H7 kv ker ∧ Y3 (X2 (Y5 .i64)) H7 u.c4 bd ∧ Y3 (X2 (Y5 .i64)) H7 y cl := ⟨hnk.mono s7, hbd'.mono s7, hy⟩
 refine Y9 (vs := [vP u.b]) func84 ⟨rfl, trivial⟩ ⟨i, { u with c5 := y }, S3.set i { u with c5 := y }, H7, _, rfl, Z4.trans s7, hS, ⟨bp, bm', ap', es', clk', rfl, s7.1 _ _ hbox', hap'.mono s7, rfl, hes'.trans (Yt7 (s' := { u with c5 := y }) hu rfl rfl).symm⟩, by rw [List.getElem?_set, if_pos rfl, if_pos hil3], hun, ⟨by show Zw9 H7 u.c3 ker; rw [huc3]; exact hres.1, hres.2.1, hres.2.2, fun m hm => by rw [hmat] at hm; cases hm; show Zw9 H7 u.c2 mat; rw [huc2]; exact hnn3.mono s7⟩, (hA3'.mono s7).set hu rfl rfl rfl rfl rfl, ?_, hX1.toA.trans ((hB3.trans (Zz2.set (s' := { u with c5 := y }) hu rfl rfl rfl rfl)).toA hi hn3)⟩
 intro k t ht
 by_cases e : k = i
 subst e
 rw [List.getElem?_set, if_pos rfl, if_pos hil3] at ht
 cases ht
 exact .inr ⟨(ker, bd, cl), by show Xd2 K x u.n = _; rw [hun]; exact q0, by show Zw9 H7 u.c3 ker; rw [huc3]; exact hres.1, hres.2.1, hres.2.2⟩
 exact (Yc3.set (s := { u with c5 := y }) (hO3.mono s7)) k t e ht
 intro hJ
 unfold bdN at hbd
 by_cases hpos : (0 : Int) < n
 case neg =>
  rw [if_neg hpos] at hbd
  obtain rfl := oi hbd
  refine Z7 (bF hpos rfl) (Y6 ?_)
  exact hJ _ _ ⟨_, { s with c3 := kv }, H2, CC, s2, hS, hC2, hi2, hsn, rfl, rfl, ⟨rfl, hnn2⟩, hnk, by show Y3 _ _ s.c4 _; rw [hn4]; exact Y3.nil, hA2, hO2, hB2, t5⟩
 rw [if_pos hpos] at hbd
 obtain ⟨mb, hmb, hbd⟩ := bind_some hbd
 refine Z8 (bT hpos rfl) ?_
 repeat refine Z1 ?_
 have hn2 : IntKind.i64.wrap (n - 1) = n - 1 := IntWalk.i64_in _ (by omega)
 refine Z0 (Z3 (vP s.b) (by exact t5) rfl (Z3 (vP bp) (by exact t0) rfl (Z3 (vI n) (by exact t1) rfl (Zk8 (n - 1) rfl rfl hn2 rfl ?_))))
 refine U9 call151 (V2 rfl rfl) rfl (Ys5 hmb hC2 hA2 hS) ?_
 rintro e4 w4 ⟨j, u', S3, H3, C3, rfl, s3, hS, hC3, hj, hun, hnn', hA3', hX3, hK3⟩
 refine ⟨_, rfl, ?_⟩
 obtain ⟨c2, hi3⟩ := hX3.1 i _ hi2
 have hc2e : c2 = s.c2 := by
  obtain ⟨s', h1, h2⟩ := hK3 i _ hi2 (fun h => by
   obtain ⟨⟨b, o, l, c, h2⟩, _⟩ := hnn
   have h : s.c2 = vN := h
   rw [h] at h2; cases h2)
  rw [hi3] at h1
  cases h1
  exact h2
 have hO3 := (hO2.mono s3).ext hX3
 have hB3 := hB2.trans (hX3.toB i)
 obtain ⟨bp', bm', ap', es', clk', he1, hbox', hap', rfl, hes'⟩ := hC3
 cases he1
 refine V4 rfl rfl (Y2 Ye4 rfl rfl ?_)
 refine Y0 u'.c2 Zr5 rfl (hS.own u'.chunk (List.mem_cons_of_mem _ (List.mem_append_left _ (List.mem_map.2 ⟨u', List.mem_of_getElem? hj, rfl⟩)))) rfl rfl ?_
 refine X3 call154 (R3 rfl) rfl (Yl2 hbd hnn'.2 hS) ?_
 rintro y H5 w5 s5 hS hy
 have hy : Y3 (X2 (Y5 .i64)) H5 y bd := hy
 refine V4 rfl rfl (Y2 Xs1 rfl rfl ?_)
 have hS := Yt8 hS hi3
 have hil3 := (List.getElem?_eq_some_iff.1 hi3).1
 refine Zd3 (v := y) (cs := #[s.v0, s.v1, c2, kv, s.c4, s.c5]) (cs' := #[s.v0, s.v1, c2, kv, y, s.c5]) Zr5 rfl rfl hS hy.isOne rfl (nl rfl) rfl ?_
 intro w6 hS
 have hS := Xj2 (s := { s with c2 := c2, c3 := kv, c4 := y }) hil3 hS
 refine Z2 ?_
 refine hJ _ _ ⟨S3.set i { s with c2 := c2, c3 := kv, c4 := y }, { s with c2 := c2, c3 := kv, c4 := y }, H5, _, (s2.trans s3).trans s5, hS, ⟨bp, bm', ap', es', clk', rfl, s5.1 _ _ hbox', hap'.mono s5, rfl, hes'.trans (Yt7 (s' := { s with c2 := c2, c3 := kv, c4 := y }) hi3 rfl rfl).symm⟩, by rw [List.getElem?_set, if_pos rfl, if_pos hil3], hsn, rfl, rfl, ⟨hc2e, (hnn2.mono s3).mono s5⟩, (hnk.mono s3).mono s5, hy, (hA3'.mono s5).set hi3 rfl rfl rfl rfl rfl, Yc3.set (hO3.mono s5), hB3.trans (Zz2.set (s' := { s with c2 := c2, c3 := kv, c4 := y }) hi3 rfl rfl rfl rfl), t5⟩
end Go.Proofs.YtabofnehiclkiaaGreat
