/- Walks of functions: each computes its pure function, if that gives a value. -/
import Derived.Test.YtabofnehiclkiaaGreatZF24
namespace Go.Proofs.YtabofnehiclkiaaGreat
open Go Go.Proofs.Tryz
set_option linter.unusedSimpArgs false
set_option linter.unusedVariables false
set_option maxRecDepth 100000
set_option maxHeartbeats 8000000
variable {K : Nat} {H : FH} {w : World} {L : OL} {s0 s1 s2 s3 s4 s5 s6 : Value}
theorem Wb2 {α : Type} : ∀ {S : List α} {i : Nat} {s : α}, S[i]? = some s → S.Perm (s :: S.eraseIdx i)
 | [], i, s, h => by simp at h
 | a :: S, 0, s, h => by simp at h; subst h; exact .refl _
 | a :: S, i + 1, s, h => (List.Perm.cons a (Wb2 (S := S) (i := i) (by simpa using h))).trans (List.Perm.swap ..)
theorem Xv4 {α : Type} : ∀ {S : List α} {i : Nat} (s : α), i < S.length → (S.set i s).Perm (s :: S.eraseIdx i)
 | [], i, s, h => by simp at h
 | a :: S, 0, s, h => .refl _
 | a :: S, i + 1, s, h => (List.Perm.cons a (Xv4 (S := S) (i := i) s (by simpa using h))).trans (List.Perm.swap ..)
theorem Yt8 {H : FH} {w : World} {m : Nat × Obj} {S : List Lvl} {L : OL} {i : Nat} {s : Lvl} (hS : St H w ((m :: S.map Lvl.chunk) ++ L)) (h : S[i]? = some s) : St H w ([s.chunk] ++ (m :: ((S.eraseIdx i).map Lvl.chunk ++ L))) := by
 refine hS.perm ?_
 have := (((Wb2 h).map Lvl.chunk).append_right L).cons m
 exact (List.Perm.trans (List.Perm.swap ..) this.symm)
theorem Xj2 {H : FH} {w : World} {m : Nat × Obj} {S : List Lvl} {L : OL} {i : Nat} {s : Lvl} (hi : i < S.length) (hS : St H w ([s.chunk] ++ (m :: ((S.eraseIdx i).map Lvl.chunk ++ L)))) : St H w ((m :: (S.set i s).map Lvl.chunk) ++ L) := by
 refine hS.perm ?_
 have := (((Xv4 s hi).map Lvl.chunk).append_right L).cons m
 exact this.trans (List.Perm.swap ..)
theorem Yt7 {S : List Lvl} {i : Nat} {s s' : Lvl} (h : S[i]? = some s) (hn : s'.n = s.n) (hb : s'.b = s.b) : (S.set i s').map (fun (s : Lvl) => (vI s.n, vP s.b)) = S.map (fun (s : Lvl) => (vI s.n, vP s.b)) := by
 apply List.ext_getElem?
 intro k
 rw [List.getElem?_map, List.getElem?_map, List.getElem?_set]
 by_cases e : i = k
 subst e
 have hi := (List.getElem?_eq_some_iff.1 h).1
 rw [if_pos rfl, if_pos hi, h]; simp [hn, hb]
 rw [if_neg e]
def Yq3 (K : Nat) (x : AlX) (M' : List A8) : List A8 → Option (List (List Int))
 | [] => some []
 | p :: ps => (Za2 K x (Zb4 ([] : MpT) p 1)).bind fun s => (Zm5 K M' s).bind fun r => (Yq3 K x M' ps).bind fun rs => some (r :: rs)
def Yq0 (K : Nat) (x : AlX) (n : Int) : Option (List (List Int)) :=
 (lv0 K x n).bind fun M => (lv0 K x (n + 1)).bind fun M' => if M.length ≤ 1099511627776 ∧ -1099511627776 ≤ n ∧ n ≤ 1099511627776 then Yq3 K x M' M else none
def Zw9 (H : FH) (v : Value) (m : List (List Int)) : Prop := (∃ b o l c, v = .slice (some ⟨b, o, none⟩) l c) ∧ Y3 (X2 (Y5 .i64)) H v m
theorem Zw9.mono {H H' : FH} {v : Value} {m : List (List Int)} (h : Zw9 H v m) (hs : Sub H H') : Zw9 H' v m := ⟨h.1, h.2.mono hs⟩
def Ze5 (S S' : List Lvl) : Prop := (∀ (k : Nat) (s : Lvl), S[k]? = some s → ∃ c2, S'[k]? = some { s with c2 := c2 }) ∧ ∀ (k : Nat) (s : Lvl), S.length ≤ k → S'[k]? = some s → s.c3 = vN ∧ s.c4 = vN ∧ s.c5 = vN
theorem Ze5.refl (S : List Lvl) : Ze5 S S := ⟨fun k s h => ⟨s.c2, h⟩, fun k s hk h => by rw [List.getElem?_eq_none hk] at h; cases h⟩
theorem Ze5.len {S S' : List Lvl} (h : Ze5 S S') : S.length ≤ S'.length := by
 rcases Nat.lt_or_ge S'.length S.length with hl | hl
 obtain ⟨c2, h1⟩ := h.1 S'.length S[S'.length] (List.getElem?_eq_getElem hl)
 rw [List.getElem?_eq_none (Nat.le_refl _)] at h1; cases h1
 exact hl
theorem Ze5.trans {S S' S'' : List Lvl} (h : Ze5 S S') (h' : Ze5 S' S'') : Ze5 S S'' := by
 refine ⟨fun k s hk => ?_, fun k s hk hs => ?_⟩
 obtain ⟨c2, h1⟩ := h.1 k s hk
 obtain ⟨c3, h2⟩ := h'.1 k _ h1
 exact ⟨c3, h2⟩
 rcases Nat.lt_or_ge k S'.length with hl | hl
 obtain ⟨c2, h1⟩ := h'.1 k _ (List.getElem?_eq_getElem hl)
 rw [hs] at h1
 have e := Option.some.inj h1
 have := h.2 k _ hk (List.getElem?_eq_getElem hl)
 rw [e]; exact this
 exact h'.2 k s hl hs
theorem Ze5.app {S : List Lvl} {t : Lvl} (h3 : t.c3 = vN) (h4 : t.c4 = vN) (h5 : t.c5 = vN) : Ze5 S (S ++ [t]) := by
 refine ⟨fun k s hk => ⟨s.c2, ?_⟩, fun k s hk hs => ?_⟩
 rw [List.getElem?_append_left (List.getElem?_eq_some_iff.1 hk).1]; exact hk
 rw [List.getElem?_append_right hk] at hs
 have : k - S.length = 0 := by
  have := (List.getElem?_eq_some_iff.1 hs).1
  simp at this; omega
 rw [this] at hs
 cases hs; exact ⟨h3, h4, h5⟩
theorem Ze5.set {S : List Lvl} {i : Nat} {s : Lvl} {c2 : Value} (h : S[i]? = some s) : Ze5 S (S.set i { s with c2 := c2 }) := by
 refine ⟨fun k t hk => ?_, fun k t hk ht => ?_⟩
 rw [List.getElem?_set]
 by_cases e : i = k
 subst e; rw [h] at hk; cases hk
 rw [if_pos rfl, if_pos (List.getElem?_eq_some_iff.1 h).1]; exact ⟨_, rfl⟩
 rw [if_neg e]; exact ⟨t.c2, hk⟩
 rw [List.getElem?_eq_none (by simpa using hk)] at ht; cases ht
def Ym3 (S : List Lvl) (m : Int) : Prop := ∃ (k : Nat) (t : Lvl), S[k]? = some t ∧ t.n = m
theorem Ym3.ext {S S' : List Lvl} {m : Int} (h : Ym3 S m) (h' : Ze5 S S') : Ym3 S' m := by
 obtain ⟨k, t, h1, h2⟩ := h
 obtain ⟨c2, h3⟩ := h'.1 k t h1
 exact ⟨k, _, h3, h2⟩
def Lv2 (K : Nat) (x : AlX) (H : FH) (S : List Lvl) (s : Lvl) : Prop := s.c2 = vN ∨ (∃ m, Yq0 K x s.n = some m ∧ Zw9 H s.c2 m) ∧ Ym3 S (s.n + 1)
theorem Lv2.mono {K : Nat} {x : AlX} {H H' : FH} {S : List Lvl} {s : Lvl} (h : Lv2 K x H S s) (hs : Sub H H') : Lv2 K x H' S s := h.imp id fun ⟨⟨m, h1, h2⟩, h3⟩ => ⟨⟨m, h1, h2.mono hs⟩, h3⟩
theorem Lv2.ext {K : Nat} {x : AlX} {H : FH} {S S' : List Lvl} {s : Lvl} (h : Lv2 K x H S s) (h' : Ze5 S S') : Lv2 K x H S' s := h.imp id fun ⟨h1, h3⟩ => ⟨h1, h3.ext h'⟩
def Zy6 (K : Nat) (x : AlX) (H : FH) (S : List Lvl) : Prop := ∀ (k : Nat) (s : Lvl), S[k]? = some s → LvB K x H s ∧ Lv2 K x H S s
theorem Zy6.mono {K : Nat} {x : AlX} {H H' : FH} {S : List Lvl} (h : Zy6 K x H S) (hs : Sub H H') : Zy6 K x H' S := fun k s e => ⟨(h k s e).1.mono hs, (h k s e).2.mono hs⟩
def KpS (S S' : List Lvl) : Prop := ∀ (k : Nat) (s : Lvl), S[k]? = some s → s.c2 ≠ vN → ∃ s', S'[k]? = some s' ∧ s'.c2 = s.c2
theorem KpS.refl (S : List Lvl) : KpS S S := fun k s h _ => ⟨s, h, rfl⟩
theorem KpS.trans {S S' S'' : List Lvl} (h : KpS S S') (h' : KpS S' S'') : KpS S S'' := fun k s hk hn => by
 obtain ⟨s1, h1, e1⟩ := h k s hk hn
 obtain ⟨s2, h2, e2⟩ := h' k s1 h1 (by rw [e1]; exact hn)
 exact ⟨s2, h2, e2.trans e1⟩
theorem KpS.app (S : List Lvl) (t : Lvl) : KpS S (S ++ [t]) := fun k s hk _ => ⟨s, by rw [List.getElem?_append_left (List.getElem?_eq_some_iff.1 hk).1]; exact hk, rfl⟩
theorem KpS.set {S : List Lvl} {i : Nat} {s s' : Lvl} (h : S[i]? = some s) (hc : s.c2 = vN ∨ s'.c2 = s.c2) : KpS S (S.set i s') := fun k t hk hn => by
 rw [List.getElem?_set]
 by_cases e : i = k
 subst e; rw [h] at hk; cases hk
 rw [if_pos rfl, if_pos (List.getElem?_eq_some_iff.1 h).1]
 rcases hc with hc | hc
 exact absurd hc hn
 exact ⟨s', rfl, hc⟩
 rw [if_neg e]; exact ⟨t, hk, rfl⟩
theorem KpS.but {S S3 : List Lvl} {i : Nat} {s s' : Lvl} (hi : S[i]? = some s) (hc : s.c2 = vN) (h : KpS S S3) : KpS S (S3.set i s') := fun k t hk hn => by
 by_cases e : i = k
 subst e; rw [hi] at hk; cases hk; exact absurd hc hn
 rw [List.getElem?_set, if_neg e]; exact h k t hk hn
def Vh2 (K : Nat) (x : AlX) (n : Int) (p : Value) (S : List Lvl) (mat : List (List Int)) (H : FH) (L : OL) : Ending → World → Prop := fun e w' => ∃ (i : Nat) (s : Lvl) (S' : List Lvl) (H' : FH) (C : OL), e = .returned (vP s.b) ∧ Sub H H' ∧ St H' w' (C ++ L) ∧ Cx H' p x S' C ∧ S'[i]? = some s ∧ s.n = n ∧
 Zw9 H' s.c2 mat ∧ Zy6 K x H' S' ∧ Ze5 S S' ∧ KpS S S'
theorem Zy6.bare {K : Nat} {x : AlX} {H H' : FH} {S S' : List Lvl} {s : Lvl} (h : Zy6 K x H S) (hs : Sub H H') (h' : S' = S ∨ (S' = S ++ [s] ∧ LvB K x H' s ∧ s.c2 = vN ∧ s.c3 = vN ∧ s.c4 = vN ∧ s.c5 = vN)) : Zy6 K x H' S' ∧ Ze5 S S' := by
 rcases h' with rfl | ⟨rfl, h1, h2, h3, h4, h5⟩
 exact ⟨h.mono hs, .refl _⟩
 have hX : Ze5 S (S ++ [s]) := .app h3 h4 h5
 refine ⟨fun k t hk => ?_, hX⟩
 rcases Nat.lt_or_ge k S.length with hl | hl
 rw [List.getElem?_append_left hl] at hk
 exact ⟨(h k t hk).1.mono hs, ((h k t hk).2.mono hs).ext hX⟩
 rw [List.getElem?_append_right hl] at hk
 have : k - S.length = 0 := by
  have := (List.getElem?_eq_some_iff.1 hk).1
  simp at this; omega
 rw [this] at hk; cases hk
 exact ⟨h1, .inl h2⟩
theorem KpS.bare {K : Nat} {x : AlX} {H' : FH} {S S' : List Lvl} {s : Lvl} (h' : S' = S ∨ (S' = S ++ [s] ∧ LvB K x H' s ∧ s.c2 = vN ∧ s.c3 = vN ∧ s.c4 = vN ∧ s.c5 = vN)) : KpS S S' := by
 rcases h' with rfl | ⟨rfl, _⟩
 exact .refl _
 exact .app _ _
theorem Ys5 {K : Nat} {x : AlX} {n : Int} {mat : List (List Int)} (q0 : Yq0 K x n = some mat) {H : FH} {w : World} {L C : OL} {p : Value} {S : List Lvl} (hC : Cx H p x S C) (hA : Zy6 K x H S) (hS : St H w (C ++ L)) :
 Calls prog 151 #[p, vI n] w (Vh2 K x n p S mat H L) := by
 have q1 := q0
 unfold Yq0 at q1
 obtain ⟨M, hM, q1⟩ := bind_some q1
 obtain ⟨M', hM', q1⟩ := bind_some q1
 by_cases hg : M.length ≤ 1099511627776 ∧ -1099511627776 ≤ n ∧ n ≤ 1099511627776
 case neg => rw [if_neg hg] at q1; cases q1
 rw [if_pos hg] at q1
 obtain ⟨g1, g2, g3⟩ := hg
 refine X0 func151 rfl ntmps151 rfl ?_
 repeat refine Z1 ?_
 refine Z0 (Z5 (.pointer none) rfl rfl (Z2 ?_))
 repeat refine Z1 ?_
 refine Z0 (Z3 p rfl rfl (Z3 (vI n) rfl rfl ?_))
 refine U9 call153 (V2 rfl rfl) rfl (Wa5 hM hC hS) ?_
 rintro e1 w1 ⟨i, s, S1, H1, C1, rfl, s1, hS, hC, hi, hsn, hor⟩
 refine ⟨_, rfl, ?_⟩
 obtain ⟨hA1, hX1⟩ := hA.bare s1 hor
 have hP1 := KpS.bare hor
 clear hor hA
 refine Z5 (vP s.b) rfl rfl (Z2 ?_)
 repeat refine Z1 ?_
 have hbl : ∀ {L' : OL}, s.chunk ∈ S1.map Lvl.chunk ++ L' := List.mem_append_left _ (List.mem_map.2 ⟨s, List.mem_of_getElem? hi, rfl⟩)
 obtain ⟨bp, bm, ap, es, clk, rfl, hbox, hap, rfl, hes⟩ := hC
 refine Z0 (Z3 (vP s.b) rfl rfl (V4 rfl rfl (Y2 Ye4 rfl rfl ?_)))
 refine Y0 s.c2 Zr5 rfl (hS.own s.chunk (List.mem_cons_of_mem _ hbl)) rfl rfl ?_
 have hc2 : ∃ a l c, s.c2 = .slice a l c := by
  rcases (hA1 i s hi).2 with h | ⟨⟨m, _, ⟨b, o, l, c, h⟩, _⟩, _⟩
  exact ⟨none, 0, 0, h⟩
  exact ⟨_, l, c, h⟩
 obtain ⟨ca, cl, cc, hc2⟩ := hc2
 refine Xb3 T2 (a := ca) (l := cl) (c := cc) (show s.c2 = _ from hc2) rfl rfl (Z2 ?_)
 repeat refine Z1 ?_
 refine N4 (fun f w => ∃ (S' : List Lvl) (s' : Lvl) (H' : FH) (C' : OL), s'.b = s.b ∧ s'.n = n ∧ Sub H H' ∧ St H' w (C' ++ L) ∧ Cx H' (vP bp) x S' C' ∧ S'[i]? = some s' ∧ Zw9 H' s'.c2 mat ∧ Zy6 K x H' S' ∧ Ze5 S S' ∧ KpS S S' ∧ tv f 5 = vP s.b) ?_ ?_
 rintro f w ⟨S', s', H', C', hb, hn, Z4, hS, hC, hi, hc, hA, hX, hP, t5⟩
 repeat refine Z1 ?_
 refine Z0 (Z3 (vP s.b) (by exact t5) rfl (Z5 (vP s.b) rfl rfl (Z2 ?_)))
 exact Y9 (vs := [vP s.b]) func151 ⟨rfl, trivial⟩ ⟨i, s', S', H', C', by rw [hb]; rfl, Z4, hS, hC, hi, hn, hc, hA, hX, hP⟩
 intro hJ
 have hCx : Cx H1 (vP bp) x S1 ((bm, .map es clk) :: S1.map Lvl.chunk) := ⟨bp, bm, ap, es, clk, rfl, hbox, hap, rfl, hes⟩
 rcases (hA1 i s hi).2 with hnil | ⟨⟨m, hm, hnn⟩, hhas⟩
 case inr =>
  have hca : ca.isNone = false := by
   obtain ⟨⟨b, o, l, c, h⟩, _⟩ := hnn
   rw [hc2] at h; cases h; rfl
  refine Z7 (show _ = vB false from congrArg Value.bool hca) (Y6 ?_)
  rw [hsn, q0] at hm
  cases hm
  exact hJ _ _ ⟨S1, s, H1, _, rfl, hsn, s1, hS, hCx, hi, hnn, hA1, hX1, hP1, rfl⟩
 have hca : ca.isNone = true := by rw [hc2] at hnil; cases hnil; rfl
 refine Z8 (show _ = vB true from congrArg Value.bool hca) ?_
 clear hca hc2
 repeat refine Z1 ?_
 refine Zj6 fun f0 hf0 => ?_
 have t0 : tv f0 0 = vP bp := by rw [hf0]; rfl
 have t1 : tv f0 1 = vI n := by rw [hf0]; rfl
 have t5 : tv f0 5 = vP s.b := by rw [hf0]; rfl
 clear hf0
 refine Z0 (Z3 (vP s.b) (by exact t5) rfl ?_)
 refine Yo3 (τ := X2 (Y5 .i64)) T2 Zn8 rfl hS rfl ?_
 intro bv w2 hov hS
 refine V4 rfl rfl (Y2 Ye4 rfl rfl ?_)
 have hS : St H1 w2 ([s.chunk] ++ ((bm, .map es clk) :: ((S1.eraseIdx i).map Lvl.chunk ++ ([(bv, .cells #[] 22)] ++ L)))) := Yt8 hS.swap hi
 refine K6 (v := .slice (some ⟨bv, 0, none⟩) 0 0) (cs := s.cs) (cs' := Lvl.cs { s with c2 := .slice (some ⟨bv, 0, none⟩) 0 0 }) Zr5 rfl rfl hS rfl (Zs5 rfl) (nl rfl) rfl ?_
 intro w3 hS
 have hil := (List.getElem?_eq_some_iff.1 hi).1
 have hS := Xj2 (s := { s with c2 := .slice (some ⟨bv, 0, none⟩) 0 0 }) hil hS
 refine Z2 ?_
 repeat refine Z1 ?_
 have hn1 : IntKind.i64.wrap (n + 1) = n + 1 := IntWalk.i64_in _ (by omega)
 refine Z0 (Z3 (vP bp) (by exact t0) rfl (Z3 (vI n) (by exact t1) rfl (W2 (n + 1) rfl rfl hn1 rfl ?_)))
 refine U9 call153 (V2 rfl rfl) rfl (Wa5 hM' (S := S1.set i { s with c2 := .slice (some ⟨bv, 0, none⟩) 0 0 }) ⟨bp, bm, ap, es, clk, rfl, hbox, hap, rfl, hes.trans (Yt7 (s' := { s with c2 := .slice (some ⟨bv, 0, none⟩) 0 0 }) hi rfl rfl).symm⟩ hS) ?_
 rintro e4 w4 ⟨j, t, S3, H4, C4, rfl, s4, hS, hC4, hj, htn, hor4⟩
 refine ⟨_, rfl, ?_⟩
 refine Z5 (vP t.b) rfl rfl (Z2 ?_)
 have hi2 : (S1.set i { s with c2 := .slice (some ⟨bv, 0, none⟩) 0 0 })[i]? = some { s with c2 := .slice (some ⟨bv, 0, none⟩) 0 0 } := by
  rw [List.getElem?_set, if_pos rfl, if_pos hil]
 have hi3 : S3[i]? = some { s with c2 := .slice (some ⟨bv, 0, none⟩) 0 0 } := by
  rcases hor4 with h | ⟨h, _⟩
  rw [h]; exact hi2
  rw [h, List.getElem?_append_left (List.getElem?_eq_some_iff.1 hi2).1]; exact hi2
 have hX13 : Ze5 S1 S3 := by
  refine (Ze5.set (c2 := .slice (some ⟨bv, 0, none⟩) 0 0) hi).trans ?_
  rcases hor4 with h | ⟨h, _, _, h3, h4, h5⟩
  rw [h]; exact .refl _
  rw [h]; exact .app h3 h4 h5
 have hX3 : Ze5 S S3 := hX1.trans hX13
 have hP3 : KpS S1 S3 := (KpS.set hi (.inl hnil)).trans (KpS.bare hor4)
 have hA3 : ∀ (k : Nat) (u : Lvl), k ≠ i → S3[k]? = some u → LvB K x H4 u ∧ Lv2 K x H4 S3 u := by
  intro k u hk hu
  have old : ∀ u, (S1.set i { s with c2 := .slice (some ⟨bv, 0, none⟩) 0 0 })[k]? = some u → LvB K x H4 u ∧ Lv2 K x H4 S3 u := fun u hu => by
   rw [List.getElem?_set, if_neg (fun e => hk e.symm)] at hu
   exact ⟨(hA1 k u hu).1.mono s4, ((hA1 k u hu).2.mono s4).ext hX13⟩
  rcases hor4 with h | ⟨h, h1, h2, _⟩
  rw [h] at hu; exact old u hu
  rw [h] at hu
  rcases Nat.lt_or_ge k (S1.set i { s with c2 := .slice (some ⟨bv, 0, none⟩) 0 0 }).length with hl | hl
  rw [List.getElem?_append_left hl] at hu; exact old u hu
  rw [List.getElem?_append_right hl] at hu
  have := (List.getElem?_eq_some_iff.1 hu).1
  have e : k - (S1.set i { s with c2 := .slice (some ⟨bv, 0, none⟩) 0 0 }).length = 0 := by simp only [List.length_singleton] at this; omega
  rw [e] at hu; cases hu
  exact ⟨h1, .inl h2⟩
 have hji : j ≠ i := by
  rintro rfl
  rw [hi3] at hj; cases hj
  rw [hsn] at htn
  omega
 obtain ⟨Mt, hMt, htv0, htv1⟩ := (hA3 j t hji hj).1
 rw [htn, hM'] at hMt
 obtain rfl := oi hMt
 obtain ⟨Ms, hMs, hsv0, hsv1⟩ := (hA1 i s hi).1
 rw [hsn, hM] at hMs
 obtain rfl := oi hMs
 have hsv0 := hsv0.mono s4
 have hsv1 := hsv1.mono s4
 clear hor4 hA1 hX1 hMt hMs
 obtain ⟨bp', bm', ap', es', clk', he1, hbox', hap', rfl, hes'⟩ := hC4
 cases he1
 have hov := hov.mono s4
 refine Zj6 fun f1 hf1 => ?_
 have t0 : tv f1 0 = vP bp := by rw [hf1]; exact t0
 have t5 : tv f1 5 = vP s.b := by rw [hf1]; exact t5
 have t6 : tv f1 6 = vP t.b := by rw [hf1]; rfl
 clear hf1 t1
 repeat refine Z1 ?_
 have hS : St H4 w4 ([(s.b, .cells #[s.v0, s.v1, .slice (some ⟨bv, 0, none⟩) 0 0, s.c3, s.c4, s.c5] 102)] ++ ((bm', .map es' clk') :: ((S3.eraseIdx i).map Lvl.chunk ++ ([(bv, .cells #[] 22)] ++ L)))) := Yt8 hS hi3
 refine Z0 (Z3 (vP s.b) (by exact t5) rfl (V4 rfl rfl (Y2 Yd8 rfl rfl ?_)))
 refine Y0 s.v0 Yx7 rfl (hS.get mL) rfl rfl ?_
 refine X9 Ya2 rfl hsv0 rfl (Z3 (vI 0) rfl rfl (Z2 (Y8 ?_)))
 have htR : (t.b, Obj.cells t.cs 102) ∈ (bm', Obj.map es' clk') :: (S3.eraseIdx i).map Lvl.chunk := List.mem_cons_of_mem _ (List.mem_map.2 ⟨t, List.mem_eraseIdx_iff_getElem?.2 ⟨j, hji, hj⟩, rfl⟩)
 generalize hR : (bm', Obj.map es' clk') :: (S3.eraseIdx i).map Lvl.chunk = R at htR
 have hS : St H4 w4 ([(s.b, .cells #[s.v0, s.v1, .slice (some ⟨bv, 0, none⟩) 0 0, s.c3, s.c4, s.c5] 102)] ++ (R ++ ([(bv, .cells #[] 22)] ++ L))) := by rw [← hR]; exact hS
 refine W0 (id := 0) (fun k f w => ∃ (m : Nat) (acc tl : List (List Int)) (H5 : FH) (v : Value) (Cm : OL), m ≤ M.length ∧ M.length < m + k ∧ acc.length = m ∧ Yq3 K x M' (M.drop m) = some tl ∧ acc ++ tl = mat ∧ Sub H4 H5 ∧ St H5 w ([(s.b, .cells #[s.v0, s.v1, v, s.c3, s.c4, s.c5] 102)] ++ (R ++ (Cm ++ L))) ∧ X8 (X2 (Y5 .i64)) 22 H5 v acc Cm ∧ (∃ b l c, v = .slice (some ⟨b, 0, none⟩) l c) ∧ tv f 0 = vP bp ∧ tv f 5 = vP s.b ∧ tv f 6 = vP t.b ∧ tv f 28 = s.v0 ∧ tv f 29 = vI (M.length : Int) ∧ tv f 30 = vI (m : Int))
  (fun f w => ∃ (H5 : FH) (v : Value) (Cm : OL), Sub H4 H5 ∧ St H5 w ([(s.b, .cells #[s.v0, s.v1, v, s.c3, s.c4, s.c5] 102)] ++ (R ++ (Cm ++ L))) ∧ X8 (X2 (Y5 .i64)) 22 H5 v mat Cm ∧ (∃ b l c, v = .slice (some ⟨b, 0, none⟩) l c) ∧ tv f 5 = vP s.b) rfl ?_ ?_ (M.length + 1) ?_ ?_
 rintro f w ⟨m, acc, tl, H5, v, Cm, h1, h2, _⟩; omega
 rintro k f w ih hx ⟨m, acc, tl, H5, v, Cm, h1, h2, hal, htl, hmat, s5, hS, ho, hnn, t0, t5, t6, t28, t29, t30⟩
 repeat refine Z1 ?_
 refine Z0 ?_
 refine W8 (k := .i64) (a := m) (b := M.length) (by exact t30) (by exact t29) rfl (Z2 ?_)
 repeat refine Z1 ?_
 by_cases hm : (m : Int) < (M.length : Int)
 have hm' : m < M.length := by omega
 refine Z8 (bT hm rfl) (Y6 ?_)
 repeat refine Z1 ?_
 refine Y8 ?_
 repeat refine Z1 ?_
 have hsv0 := hsv0.mono s5
 have htv0 := htv0.mono s5
 have htv1 := htv1.mono s5
 have hap' := hap'.mono s5
 have hbox' := s5.1 _ _ hbox'
 obtain ⟨ab, ao, rfl⟩ := hap'.val
 refine Z0 ?_
 obtain ⟨_, _, _, _, _, hp1, hp2, rfl, hp3⟩ := hsv0.elem (i := (m : Int)) (by omega) hm
 refine X5 Ya2 rfl (by exact t28) hp1 (by exact t30) (by omega) hm rfl ?_
 refine V0 (Z6 .i64 (rd M (m : Int))) Q6 rfl (hS.froz _ _ hp2) rfl hp3 rfl ?_
 refine U4 (z := vA (Z6 .i64 (fun _ => 0))) (Z6 .i64 (fun _ => 0)).toArray Zk4.zero rfl hS rfl ?_
 intro bq w5 hS
 refine W4 (v := vA (Z6 .i64 (rd M (m : Int)))) (vs := (Z6 .i64 (rd M (m : Int))).toArray) (cs := (Z6 .i64 (fun _ => 0)).toArray) Q6 rfl rfl rfl hS rfl (S8 .i64 (rd M (m : Int))) rfl ?_
 intro w6 hS
 refine Z2 ?_
 repeat refine Z1 ?_
 refine Zj6 fun f2 hf2 => ?_
 have t0 : tv f2 0 = vP bp := by rw [hf2]; exact t0
 have t5 : tv f2 5 = vP s.b := by rw [hf2]; exact t5
 have t6 : tv f2 6 = vP t.b := by rw [hf2]; exact t6
 have t8 : tv f2 8 = vP bq := by rw [hf2]; rfl
 have t28 : tv f2 28 = s.v0 := by rw [hf2]; exact t28
 have t29 : tv f2 29 = vI (M.length : Int) := by rw [hf2]; exact t29
 have t30 : tv f2 30 = vI (m : Int) := by rw [hf2]; exact t30
 clear hf2
 rw [show M.drop m = M[m] :: M.drop (m + 1) from (List.getElem_cons_drop ..).symm, Yq3, ← Xe8 hm'] at htl
 obtain ⟨dr, hdr, htl⟩ := bind_some htl
 obtain ⟨row, hrow, htl⟩ := bind_some htl
 obtain ⟨tl', htl', htl⟩ := bind_some htl
 obtain rfl := oi htl
 generalize hp : rd M (m : Int) = pm at hdr hS
 have hS := hS.perm (Xf2 (B := Cm) (A1 := [(bq, .cells (Z6 .i64 pm).toArray 222)]) (A2 := [(s.b, .cells #[s.v0, s.v1, v, s.c3, s.c4, s.c5] 102)]) (A3 := R) (L := L))
 refine Wp6 17 (S9 [mE 34 (vP s.b), mE 35 (vP s.b), mE 36 (vP s.b), mE 37 (vQ s.b 2), mE 38 v, mE 39 (vP t.b), mE 40 (vP bp), mE 41 (vP bp), mE 42 (vQ bp 0), mE 43 (vQ ab ao), (44, MP.mk0), mE 45 (vA (Z6 .i64 pm)), (46, MP.mp .i64 (Zb4 ([] : MpT) pm 1)), (47, MP.mp .i64 dr), (48, MP.sl (Y5 .i64) row), (49, MP.sl (X2 (Y5 .i64)) [row])])
  [Co.fz 10 44 12 (MP.mp .i64 (Zb4 ([] : MpT) pm 1))] (fun G w v1 => ∃ C', St G w (C' ++ ([(bq, .cells (Z6 .i64 pm).toArray 222)] ++ ([(s.b, .cells #[s.v0, s.v1, v, s.c3, s.c4, s.c5] 102)] ++ (R ++ L)))) ∧ X8 (X2 (Y5 .i64)) 22 G v1 (acc ++ [row]) C') mixed rfl (Yg5 (ns := [(10, 44, 12, 10, 44)]) rfl rfl) rfl (j0 := 0) rfl rfl rfl (fun _ => rfl) rfl rfl rfl rfl rfl (fun _ _ => t5) hS
  (U1 rfl ?_ (U1 rfl ?_ (U1 rfl ?_ (U1 rfl ?_ (U1 rfl ?_ (U1 rfl ?_ (U1 rfl ?_ (U1 rfl ?_ (U1 rfl ?_ (U1 rfl ?_ (U1 rfl ?_ (U1 rfl ?_ (Yp0 rfl ?_ (U1 rfl ?_ (U1 rfl ?_ (U1 rfl ?_ (U1 rfl ?_ V1))))))))))))))))) ?_ ?_
 exact X4 fun S B => Z3 _ (evT (B 5 rfl) t5) rfl (qz S)
 exact X4 fun S B => Z3 _ (evT (B 5 rfl) t5) rfl (qz S)
 exact Y7 fun S V => V4 (eM (V 1 35 rfl rfl)) rfl (qz S)
 exact Y7 fun S V => Y2 Ye4 (eM (V 2 36 rfl rfl)) rfl (qz S)
 exact Y7 fun S V => Y0 v Zr5 (eM (V 3 37 rfl rfl)) (S.get (mR (mR (mR mL)))) rfl rfl (qz S)
 exact X4 fun S B => Z3 _ (evT (B 6 rfl) t6) rfl (qz S)
 exact X4 fun S B => Z3 _ (evT (B 0 rfl) t0) rfl (qz S)
 exact Y7 fun S V => V4 (eM (V 6 40 rfl rfl)) rfl (qz S)
 exact Y7 fun S V => Y2 Xd4 (eM (V 7 41 rfl rfl)) rfl (qz S)
 exact P0 fun s S V => Y0 (vQ ab ao) We8 (eM (V 8 42 rfl rfl)) (S.froz _ _ (s.1 _ _ hbox')) rfl rfl (qz S)
 intro _ _ _ _ _ hS _ _ hcq
 refine Yh7 hS rfl ?_
 intro _ _ hS
 exact qn (.refl _) rfl hS ⟨_, rfl⟩
 exact X4 fun S B => W3 Q6 (evT (B 8 rfl) t8) (S.get (mR (mR mL))) rfl rfl (qz S)
 intro n5 y3 u3 y4 _ hS _ p6 hcq
 obtain ⟨l6, l7⟩ := p6 10 44 rfl rfl
 have l7 : n5 44 = Value.map (some l6) := l7
 replace hS : St u3 y3 (Xi4 (n5 44) ++ (y4 ++ (Cm ++ ([(bq, .cells (Z6 .i64 pm).toArray 222)] ++ ([(s.b, .cells #[s.v0, s.v1, v, s.c3, s.c4, s.c5] 102)] ++ (R ++ L)))))) := hS
 rw [l7] at hS
 have v1 : Q2 .i64 (Value.map (some l6)) [] [(l6, .map #[] 0)] := Q2.new l6
 have y5 : tv n5 44 = Value.map (some l6) := l7
 refine Xb8 (a := pm) (m := 1) Zq8 y5 (eM (p6 11 45 rfl rfl)) rfl v1 hS ?_
 intro _ _ v2 hS
 obtain ⟨_, v3, hS, v4⟩ := v2.freeze hS
 exact Z2 ⟨_, rfl, rfl, v3, hS, by show N1 _ _ (n5 44) _; rw [l7]; exact v4⟩
 intro y6 _ y7 _ _ hS _ _ hcq
 obtain ⟨p7, p8⟩ : ∃ v, tv y6 44 = v := ⟨_, rfl⟩
 have q9 : N1 .i64 y7 p7 (Zb4 ([] : MpT) pm 1) := p8 ▸ (hcq 12 _ rfl rfl)
 refine Z3 (p7) p8 rfl ?_
 exact qn (.refl _) rfl hS q9
 intro f w G X s S B V hcq
 obtain ⟨_, hu, hru⟩ := gvM (V 13 46 rfl rfl)
 refine U9 call116 (V2 (eM (V 9 43 rfl rfl)) hu) rfl (Yc9 hdr (hap'.mono s) hru S) ?_
 rintro _ _ ⟨u, G2, C2, rfl, s2, S, ho⟩
 refine ⟨_, rfl, ?_⟩
 obtain ⟨G3, s3, S, hr⟩ := ho.freeze S
 exact qn (s2.trans s3) rfl S hr
 intro f w G X s S B V hcq
 obtain ⟨_, hu, hru⟩ := gvM (V 14 47 rfl rfl)
 refine U9 call191 (V2 (eM (V 5 39 rfl rfl)) hu) rfl (Ve0 hrow (mR (mR (mR (mR (List.mem_append_left _ htR))))) rfl rfl (htv0.mono s) (htv1.mono s) hru S) ?_
 rintro _ _ ⟨u, G2, C2, rfl, s2, S, ho⟩
 refine ⟨_, rfl, ?_⟩
 obtain ⟨G3, s3, S, hr⟩ := ho.freeze S
 exact qn (s2.trans s3) rfl S hr
 intro f w G X s S B V _
 have hg : (MP.sl (Y5 .i64) row).p G (f 48) := V 15 48 rfl rfl
 have hg : Y3 (Y5 .i64) G (f 48) row := hg
 refine Zc2 (τ := X2 (Y5 .i64)) T2 Zn8 rfl [f 48] [row] rfl rfl (E7 rfl) (Zk6 ⟨_, hg.cellsL, hg⟩) (by decide) (by decide) S rfl ?_
 intro u G2 w2 s2 S hl
 exact qn s2 rfl S hl
 intro f w G s S B V
 have hg : (MP.sl (X2 (Y5 .i64)) [row]).p G (f 49) := V 16 49 (by decide) (by decide) rfl
 refine N6 (τ := X2 (Y5 .i64)) Yb5 rfl (eM (V 4 38 (by decide) (by decide) rfl)) (show ev f (.tmp 49) = f 49 from rfl) (ho.mono s) S hg (by rw [hal]; simp; omega) rfl ?_
 intro v' w' C' ho' S'
 exact Z2 ⟨v', G, rfl, .refl _, C', S', ho'⟩
 rintro f4 w4 H6 s6 ⟨C', hS, ho'⟩ hB hV
 refine V4 (eM (hV 0 34 (by decide) rfl)) rfl (Y2 Ye4 rfl rfl ?_)
 have hS := (St.dropMid hS).perm (Zb1 (B := C') (A1 := [(s.b, .cells #[s.v0, s.v1, v, s.c3, s.c4, s.c5] 102)]) (A2 := R) (L := L)).symm
 refine Zd3 (v := f4 50) (cs := #[s.v0, s.v1, v, s.c3, s.c4, s.c5]) (cs' := #[s.v0, s.v1, f4 50, s.c3, s.c4, s.c5]) Zr5 rfl rfl hS ho'.isOne rfl (nl rfl) rfl ?_
 intro w7 hS
 refine Z2 (X1 (Z0 ?_))
 refine W2 ((m : Int) + 1) (by exact (evT (hB 30 rfl) t30)) rfl (IntWalk.i64_in _ (by omega)) rfl (Z3 (vI ((m : Int) + 1)) rfl rfl (Z2 ?_))
 obtain ⟨nb, nc, hnv⟩ := ho'.some (i := (0 : Int)) (by omega) (by simp)
 exact ih _ _ ⟨m + 1, acc ++ [row], tl', H6, f4 50, C', by omega, by omega, by simp [hal], htl', by rw [List.append_assoc]; exact hmat, s5.trans s6, hS, ho', ⟨nb, _, nc, hnv⟩, (evT (hB 0 rfl) t0), (evT (hB 5 rfl) t5), (evT (hB 6 rfl) t6), (evT (hB 28 rfl) t28), (evT (hB 29 rfl) t29), by show vI ((m : Int) + 1) = vI ((m + 1 : Nat) : Int); rw [Int.natCast_add]; rfl⟩
 refine Z7 (bF hm rfl) (X7 rfl ?_)
 have e : m = M.length := by omega
 subst e
 rw [List.drop_length, Yq3] at htl
 obtain rfl := oi htl
 rw [List.append_nil] at hmat
 subst hmat
 exact hx _ _ ⟨H5, v, Cm, s5, hS, ho, hnn, t5⟩
 exact ⟨0, [], mat, H4, _, _, by omega, by omega, rfl, q1, rfl, .refl _, hS, hov, ⟨_, _, _, rfl⟩, t0, t5, t6, rfl, rfl, rfl⟩
 rintro f w ⟨H5, v, Cm, s5, hS, ho, ⟨vb, vl, vc, hvv⟩, t5⟩
 have hvv : ∃ b o l c, v = .slice (some ⟨b, o, none⟩) l c := ⟨vb, 0, vl, vc, hvv⟩
 have hS := hS.perm (Zb1 (B := Cm) (A1 := [(s.b, .cells #[s.v0, s.v1, v, s.c3, s.c4, s.c5] 102)]) (A2 := R) (L := L))
 obtain ⟨H6, s6, hS, hrd⟩ := ho.freeze hS
 have s6 := s5.trans s6
 subst hR
 have hil3 := (List.getElem?_eq_some_iff.1 hi3).1
 have hS := Xj2 (s := { s with c2 := v }) hil3 hS
 refine hJ _ _ ⟨S3.set i { s with c2 := v }, { s with c2 := v }, H6, _, rfl, hsn, (s1.trans s4).trans s6, hS, ⟨bp, bm', ap', es', clk', rfl, s6.1 _ _ hbox', hap'.mono s6, rfl, hes'.trans (Yt7 (s' := { s with c2 := v }) hi3 rfl rfl).symm⟩, by rw [List.getElem?_set, if_pos rfl, if_pos hil3], ⟨hvv, hrd⟩, ?_, hX3.trans (Ze5.set (s := { s with c2 := .slice (some ⟨bv, 0, none⟩) 0 0 }) (c2 := v) hi3), hP1.trans (hP3.but hi hnil), t5⟩
 have hXs := Ze5.set (s := { s with c2 := .slice (some ⟨bv, 0, none⟩) 0 0 }) (c2 := v) hi3
 intro k u hu
 by_cases e : k = i
 subst e
 rw [List.getElem?_set, if_pos rfl, if_pos hil3] at hu
 cases hu
 exact ⟨⟨M, by rw [hsn]; exact hM, hsv0.mono s6, hsv1.mono s6⟩, .inr ⟨⟨mat, by rw [hsn]; exact q0, hvv, hrd⟩, Ym3.ext ⟨j, t, hj, by rw [htn, hsn]⟩ hXs⟩⟩
 rw [List.getElem?_set, if_neg (fun h => e h.symm)] at hu
 exact ⟨(hA3 k u e hu).1.mono s6, ((hA3 k u e hu).2.mono s6).ext hXs⟩
end Go.Proofs.YtabofnehiclkiaaGreat
