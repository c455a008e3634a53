/- Walks of functions: each computes its pure function, if that gives a value. -/
import Derived.Test.YtabofnehiclkiaaGreatXS3
import Derived.Test.YtabofnehiclkiaaGreatXTy
namespace Go.Proofs.YtabofnehiclkiaaGreat
open Go
set_option linter.unusedSimpArgs false
set_option linter.unusedVariables false
set_option maxRecDepth 100000
set_option maxHeartbeats 8000000
variable {K : Nat} {H : FH} {w : World} {L : OL} {s0 s1 s2 s3 s4 s5 s6 : Value}
/-- what operation k (dst d) proves of its value and of the value of dst e, which operation i has made ahead of it -/
structure Lk where
 k : Nat
 i : Nat
 e : Nat
 d : Nat
 q : FH → Value → Value → Prop
 qm : ∀ {H H' : FH} {u v : Value}, Sub H H' → q H u v → q H' u v
def Wn5 (lk : Lk) (l : List Oper) (m : Nat) (con : Con) : Prop := lk.k < m ∧ lk.i < m ∧ ((N7 l []).getD lk.k 0).testBit lk.i = true ∧ (l[lk.k]?).bind (·.dst) = some lk.d ∧ (l[lk.i]?).bind (·.dst) = some lk.e ∧ lk.i ≠ lk.k ∧ con.by_ lk.k = none
def Wl5 (P : Program) (n : Nat) (l : List Oper) (m : Nat) (tab : Nat → MP) (con : Con) (lks : List Lk) (H : FH) (L : OL) (f0 : Fr) (j : Nat) (o : Oper) : Prop :=
 ∀ (f : Fr) (w : World) (H' : FH) (X : OL), Sub H H' → St H' w (X ++ L) → (∀ t, inD (l.take m) t = false → f t = f0 t) →
  (∀ i d, ((N7 l []).getD j 0).testBit i = true → (l[i]?).bind (·.dst) = some d → (tab d).p H' (f d)) →
  (∀ k c, con.by_ k = some c → ((N7 l []).getD j 0).testBit k = true → c.q H' (f c.d)) →
  W2 P n l.toArray (fun f' w' => ∃ d v H'', o.dst = some d ∧ f' = upd f d v ∧ Sub H' H'' ∧ St H'' w' ((tab d).res v ++ (X ++ L)) ∧ (tab d).p H'' v ∧ (∀ lk, lk ∈ lks → j = lk.k → lk.q H'' (f lk.e) v)) [o] f w
def Yd6 (P : Program) (n : Nat) (l : List Oper) (m : Nat) (tab : Nat → MP) (con : Con) (lks : List Lk) (H : FH) (L : OL) (f0 : Fr) (j : Nat) (o : Oper) : Prop :=
 match con.by_ j with
 | none => Wl5 P n l m tab con lks H L f0 j o
 | some c => Xr1 P n l m tab con H L f0 c.d c.x c.r c.q j o
theorem Zs9 {P : Program} {n : Nat} {l : List Oper} {m : Nat} {tab : Nat → MP} {con : Con} {lks : List Lk} {H : FH} {L : OL} {f0 : Fr} {j : Nat} {o : Oper} {r : List Oper} (hc : con.by_ j = none)
 (h : Wl5 P n l m tab con lks H L f0 j o) (h' : Ze9 (Yd6 P n l m tab con lks H L f0) r (j + 1)) : Ze9 (Yd6 P n l m tab con lks H L f0) (o :: r) j := by
 refine ⟨?_, h'⟩
 unfold Yd6; rw [hc]; exact h
theorem Ve1 {P : Program} {n : Nat} {l : List Oper} {m : Nat} {tab : Nat → MP} {con : Con} {lks : List Lk} {H : FH} {L : OL} {f0 : Fr} {j : Nat} {c : Co} {o : Oper} {r : List Oper} (hc : con.by_ j = some c)
 (h : Xr1 P n l m tab con H L f0 c.d c.x c.r c.q j o) (h' : Ze9 (Yd6 P n l m tab con lks H L f0) r (j + 1)) : Ze9 (Yd6 P n l m tab con lks H L f0) (o :: r) j := by
 refine ⟨?_, h'⟩
 unfold Yd6; rw [hc]; exact h
section
variable {P : Program} {n : Nat} {l : List Oper} {m : Nat} {tab : Nat → MP} {con : Con} {lks : List Lk} {H : FH} {L : OL} {f0 : Fr} {J : Fr → World → Prop}
theorem We0 (hok : Zq5 l m = true) (hco : Yd8 con l m = true) (hml : m ≤ l.length) (hlk : ∀ lk, lk ∈ lks → Wn5 lk l m con) (hq : Ze9 (Yd6 P n l m tab con lks H L f0) (l.take m) 0)
 (ht : ∀ (f : Fr) (w : World) (H' : FH), Sub H H' → St H' w ((List.range m).flatMap (U8 tab con l f fun _ => true) ++ L) → (∀ t, inD (l.take m) t = false → f t = f0 t) →
  (∀ i d, i < m → (l[i]?).bind (·.dst) = some d → (tab d).p H' (f d)) → (∀ k c, con.by_ k = some c → c.q H' (f c.d)) → (∀ lk, lk ∈ lks → lk.q H' (f lk.e) (f lk.d)) → W2 P n l.toArray J (l.drop m) f w) :
 ∀ (fuel : Nat) (listed : Array Bool) (a : Act) (w : World) (f : Fr) (H' : FH), listed.size = l.length → listed.toList.countP id + fuel = l.length →
  (∀ i, listed.getD i false = true → i < m) → Yl9 l listed → Zp3 n a f → Sub H H' → St H' w ((List.range m).flatMap (U8 tab con l f fun i => listed.getD i false) ++ L) → (∀ t, inD (l.take m) t = false → f t = f0 t) →
  (∀ i d, listed.getD i false = true → (l[i]?).bind (·.dst) = some d → (tab d).p H' (f d)) → (∀ k c, con.by_ k = some c → listed.getD k false = true → c.q H' (f c.d)) → (∀ lk, lk ∈ lks → listed.getD lk.k false = true → lk.q H' (f lk.e) (f lk.d)) → wpAny P .any l.toArray (Yj3 n J) fuel listed a w := by
 intro fuel
 induction fuel with
 | zero =>
  intro listed a w f H' hs hcnt hlt hc ha Z3 hS hb hv hqs hlq
  have hall := Ye5 (xs := listed.toList) (by have := Array.length_toList (xs := listed); omega)
  have hget : ∀ i, i < l.length → listed.getD i false = true := fun i hi => by
   have := hall i (by simp; omega)
   rw [List.getD_eq_getElem?_getD] at this
   rw [Array.getD_eq_getD_getElem?]
   simpa using this
  have hme : m = l.length := by
   rcases Nat.lt_or_ge m l.length with h | h
   have := hlt m (hget m h); omega
   omega
  refine ⟨?_, ?_⟩
  cases hr : Region.ready .any l.toArray listed with
  | nil => rfl
  | cons j r =>
   obtain ⟨o, ho, hj, hf, _⟩ := Zp4 hs (by rw [hr]; exact List.mem_cons_self ..)
   rw [hget j (by omega)] at hf; cases hf
  have hS' : St H' w ((List.range m).flatMap (U8 tab con l f fun _ => true) ++ L) := by
   have : (List.range m).flatMap (U8 tab con l f fun i => listed.getD i false) = (List.range m).flatMap (U8 tab con l f fun _ => true) := by
    refine Zm3 _ (fun i hi => ?_)
    have e := hget i (by have := List.mem_range.1 hi; omega)
    have e2 : ∀ c, con.of i = some c → listed.getD c.k false = true := fun c hc => hget _ (by have := (D6 hco hc).2.2.1; omega)
    simp only [U8, e]
    cases hdi : (l[i]?).bind (·.dst) with
    | none => rfl
    | some d =>
     cases hof : con.of i with
     | none => rfl
     | some c => simp only [e2 c hof]
   rw [← this]; exact hS
  have := ht f w H' Z3 hS' hb (fun i d hi hd => hv i d (hget i (by omega)) hd) (fun k c hk => hqs k c hk (hget k (by have := (Zn4 hco hk).2.2.1; omega))) (fun lk hlm => hlq lk hlm (hget lk.k (by have := (hlk lk hlm).1; omega))) a ha
  rw [hme, List.drop_length] at this
  exact this
 | succ fuel ih =>
  intro listed a w f H' hs hcnt hlt hc ha Z3 hS hb hv hqs hlq
  by_cases hall : ∀ i, i < m → listed.getD i false = true
  -- the tail begins
  have hk : ∀ i, listed.getD i false = decide (i < m) := by
   intro i
   by_cases h : i < m
   rw [hall i h]; exact (decide_eq_true h).symm
   cases hg : listed.getD i false with
   | false => exact (decide_eq_false h).symm
   | true => exact absurd (hlt i hg) h
  have hcm : listed.toList.countP id = m := by
   have : ∀ (xs : List Bool) (k : Nat), k ≤ xs.length → (∀ i, xs.getD i false = decide (i < k)) → xs.countP id = k := by
    intro xs
    induction xs with
    | nil => intro k hk _; simp at hk; subst hk; rfl
    | cons x xs ihx =>
     intro k hk h
     have h0 := h 0
     simp at h0
     cases k with
     | zero =>
      have := ihx 0 (by omega) (fun i => by have := h (i + 1); simpa using this)
      have h0 : x = false := by simpa using h0
      subst h0
      simp [List.countP_cons, this]
     | succ k =>
      have := ihx k (by simpa using hk) (fun i => by have := h (i + 1); simpa using this)
      have h0 : x = true := by simpa using h0
      subst h0
      simp [List.countP_cons, this]
   refine this _ m (by simp; omega) (fun i => ?_)
   rw [← hk i, List.getD_eq_getElem?_getD, Array.getD_eq_getD_getElem?]
   simp
  have hS' : St H' w ((List.range m).flatMap (U8 tab con l f fun _ => true) ++ L) := by
   have : (List.range m).flatMap (U8 tab con l f fun i => listed.getD i false) = (List.range m).flatMap (U8 tab con l f fun _ => true) := by
    refine Zm3 _ (fun i hi => ?_)
    have e := hall i (List.mem_range.1 hi)
    have e2 : ∀ c, con.of i = some c → listed.getD c.k false = true := fun c hc => hall _ (D6 hco hc).2.2.1
    simp only [U8, e]
    cases hdi : (l[i]?).bind (·.dst) with
    | none => rfl
    | some d =>
     cases hof : con.of i with
     | none => rfl
     | some c => simp only [e2 c hof]
   rw [← this]; exact hS
  exact Yl3 hok (fuel + 1) m listed a w hs (by omega) (Nat.le_refl _) hk (ht f w H' Z3 hS' hb (fun i d hi hd => hv i d (hall i hi) hd) (fun k c hk => hqs k c hk (hall k (Zn4 hco hk).2.2.1)) (fun lk hlm => hlq lk hlm (hall _ (hlk lk hlm).1)) a ha)
  refine ⟨fun hr => ?_, fun j hj => ?_⟩
  exact absurd (fun i hi => Yh9 hs (Zx7 hok) hr i (by omega)) hall
  obtain ⟨o, ho, hjs, hf, he⟩ := Zp4 hs hj
  obtain ⟨hmk, hc'⟩ := Ye8 ho hc hjs he
  have hjl : j < l.length := by omega
  have hjm : j < m := by
   rcases Nat.lt_or_ge j m with h | h
   exact h
   exact absurd (fun i hi => hmk i (Yb1 hok j h hjl i (by omega))) hall
  have hstep := hq.at (j := j) (o := o) (by rw [List.getElem?_take, if_pos hjm]; exact ho)
  rw [Nat.zero_add] at hstep
  have hset : ∀ i, i ≠ j → (listed.setIfInBounds j true).getD i false = listed.getD i false := fun i hij => by
   rw [Array.getD_eq_getD_getElem?, Array.getD_eq_getD_getElem?, Array.getElem?_setIfInBounds, if_neg (fun h => hij h.symm)]
  have hsj : (listed.setIfInBounds j true).getD j false = true := by rw [Array.getD_eq_getD_getElem?, Array.getElem?_setIfInBounds]; simp [hjs]
  have hx : listed.toList[j]? = some false := by
   rw [Array.getD_eq_getD_getElem?] at hf
   simpa [hjs] using hf
  have hcnt' : (listed.setIfInBounds j true).toList.countP id + fuel = l.length := by
   have := Ye3 listed.toList j hx
   rw [Array.toList_setIfInBounds]; rw [this]; omega
  have hlt' : ∀ i, (listed.setIfInBounds j true).getD i false = true → i < m := by
   intro i hi
   rcases Zj7 hi with rfl | h
   exact hjm
   exact hlt i h
  unfold Yd6 at hstep
  cases hby : con.by_ j with
  | none =>
   rw [hby] at hstep
   refine Zj6 ho ha (hstep f w H' _ Z3 hS hb (fun i d hi hd => hv i d (hmk i hi) hd) (fun k c hk hi => hqs k c hk (hmk k hi))) ?_
   rintro f' a' w' ha' ⟨d, v, H'', hd, rfl, hs2, hS2, hp, hln⟩
   have hupd : ∀ t, upd f d v t = if t = d then v else f t := by
    intro t
    unfold upd
    by_cases e : t = d
    subst e; simp
    rw [if_neg e]
    cases hq : Nat.beq t d with
    | false => rfl
    | true => exact absurd (Nat.eq_of_beq_eq_true hq) e
   refine ih (listed.setIfInBounds j true) a' w' (upd f d v) H'' (by simpa using hs) hcnt' hlt' hc' ha' (Z3.trans hs2) ?_ ?_ ?_ ?_ ?_
   rw [← List.append_assoc] at hS2
   refine hS2.perm (List.Perm.append_right L ?_)
   have hdj : (l[j]?).bind (·.dst) = some d := by rw [ho]; exact hd
   have key := Yh0 (g := U8 tab con l f fun i => listed.getD i false) (g' := U8 tab con l (upd f d v) fun i => (listed.setIfInBounds j true).getD i false) (j := j) (List.range m) List.nodup_range (List.mem_range.2 hjm)
    (by simp only [U8, hf]; rfl)
    (by
     intro i hij
     simp only [U8, hset i hij]
     split
     rename_i hli
     cases hdi : (l[i]?).bind (·.dst) with
     | none => rfl
     | some c =>
      have hne : c ≠ d := by
       have hil := hlt i hli
       refine Ze8 (Za0 hok) (i := i) (j := j) hij ?_ ?_
       rw [List.getElem?_take, if_pos hil]; exact hdi
       rw [List.getElem?_take, if_pos hjm]; exact hdj
      simp only
      rw [hupd, if_neg hne]
      cases hof : con.of i with
      | none => rfl
      | some e =>
       have hne2 : e.k ≠ j := by
        intro he
        have := (D6 hco hof).2.1
        rw [he, hby] at this; cases this
       simp only [hset e.k hne2]
       by_cases hoe : listed.getD e.k false = true
       case neg => rw [if_neg hoe, if_neg hoe]
       case pos =>
        rw [if_pos hoe, if_pos hoe]
        obtain ⟨_, _, _, _, _, _, h1, h2, h3⟩ := D6 hco hof
        have hli2 := hc _ hoe _ h2
        have hxd : e.x ≠ d := by
         refine Ze8 (Za0 hok) (i := e.i) (j := j) (fun he => by rw [he, hf] at hli2; cases hli2) ?_ ?_
         rw [List.getElem?_take, if_pos h1]; exact h3
         rw [List.getElem?_take, if_pos hjm]; exact hdj
        rw [hupd, if_neg hxd]
     rfl)
   have hj' : U8 tab con l (upd f d v) (fun i => (listed.setIfInBounds j true).getD i false) j = (tab d).res v := by
    simp only [U8, hsj, hdj]
    cases hof : con.of j with
    | none => simp [hupd]
    | some e =>
     obtain ⟨_, hb1, _, _, hb2, _, _⟩ := D6 hco hof
     have hej : e.k ≠ j := by
      intro he; rw [he, hby] at hb1; cases hb1
     have hoff : listed.getD e.k false = false := by
      cases hq : listed.getD e.k false with
      | false => rfl
      | true => exact absurd (hc _ hq j hb2) (by rw [hf]; simp)
     simp [hset _ hej, hoff, hupd]
   rw [hj'] at key
   exact key
   intro t ht'
   rw [hupd, if_neg, hb t ht']
   rintro rfl
   have : inD (l.take m) t = true := by
    unfold inD
    refine List.any_eq_true.2 ⟨o, List.mem_of_getElem? (i := j) (by rw [List.getElem?_take, if_pos hjm]; exact ho), ?_⟩
    rw [hd]; simp
   rw [this] at ht'; cases ht'
   intro i d' hi hd'
   rw [hupd]
   by_cases e : d' = d
   subst e; rw [if_pos rfl]; exact hp
   rw [if_neg e]
   rcases Zj7 hi with rfl | h
   rw [ho] at hd'
   simp only [Option.bind_some] at hd'
   rw [hd] at hd'
   exact absurd (Option.some.inj hd').symm e
   exact (tab d').mono hs2 (hv i d' h hd')
   intro k c hk hi
   have hkj : k ≠ j := by
    intro e; rw [e, hby] at hk; cases hk
   rw [hset k hkj] at hi
   obtain ⟨hk0, _, _, him, hbit, hdst⟩ := Zn4 hco hk
   have hli := hc _ hi _ hbit
   have hne : c.d ≠ d := by
    refine Ze8 (Za0 hok) (i := c.mk_) (j := j) (fun he => by rw [he, hf] at hli; cases hli) ?_ ?_
    rw [List.getElem?_take, if_pos him]; exact hdst
    rw [List.getElem?_take, if_pos hjm, ho]; exact hd
   rw [hupd, if_neg hne]
   exact c.qm hs2 (hqs k c hk hi)
   intro lk hlm hi
   obtain ⟨hk1, hi1, hbit, hdk, hde, hne, hbk⟩ := hlk lk hlm
   have hdj : (l[j]?).bind (·.dst) = some d := by rw [ho]; exact hd
   by_cases hjk : j = lk.k
   subst hjk
   have e1 : d = lk.d := by rw [hdk] at hdj; exact (Option.some.inj hdj).symm
   subst e1
   have e2 : lk.e ≠ lk.d := Ze8 (Za0 hok) (i := lk.i) (j := lk.k) hne (by rw [List.getElem?_take, if_pos hi1]; exact hde) (by rw [List.getElem?_take, if_pos hk1]; exact hdk)
   rw [hupd, hupd, if_neg e2, if_pos rfl]
   exact hln lk hlm rfl
   rcases Zj7 hi with h | h
   exact absurd h.symm hjk
   have hli := hc _ h _ hbit
   have n1 : lk.d ≠ d := Ze8 (Za0 hok) (i := lk.k) (j := j) (fun he => hjk he.symm) (by rw [List.getElem?_take, if_pos hk1]; exact hdk) (by rw [List.getElem?_take, if_pos hjm]; exact hdj)
   have n2 : lk.e ≠ d := Ze8 (Za0 hok) (i := lk.i) (j := j) (fun he => by rw [he, hf] at hli; cases hli) (by rw [List.getElem?_take, if_pos hi1]; exact hde) (by rw [List.getElem?_take, if_pos hjm]; exact hdj)
   rw [hupd, hupd, if_neg n1, if_neg n2]
   exact lk.qm hs2 (hlq lk hlm h)
  | some c =>
   rw [hby] at hstep
   obtain ⟨hc1, hof, _, him, hbit, hdst⟩ := Zn4 hco hby
   have hij : c.mk_ ≠ j := by
    intro he
    have := hmk _ hbit
    rw [he, hf] at this; cases this
   have honi := hmk _ hbit
   have hgi : U8 tab con l f (fun i => listed.getD i false) c.mk_ = (tab c.d).res (f c.d) := by
    simp only [U8, honi, hdst, hof, hc1, hf]; rfl
   have hsp := Zw8 (g := U8 tab con l f fun i => listed.getD i false) (j := c.mk_) (List.range m) List.nodup_range (List.mem_range.2 him)
   rw [hgi] at hsp
   have hS1 := hS.perm (List.Perm.append_right L hsp.symm)
   rw [List.append_assoc] at hS1
   refine Zj6 ho ha (hstep f w H' _ Z3 hS1 hb (fun i d hi hd => hv i d (hmk i hi) hd) (fun k c hk hi => hqs k c hk (hmk k hi))) ?_
   rintro f' a' w' ha' ⟨H'', hd, rfl, hs2, hS2, hq2⟩
   refine ih (listed.setIfInBounds j true) a' w' f' H'' (by simpa using hs) hcnt' hlt' hc' ha' (Z3.trans hs2) ?_ hb ?_ ?_ ?_
   rw [← List.append_assoc] at hS2
   refine hS2.perm (List.Perm.append_right L ?_)
   have hsp2 := Zw8 (g := U8 tab con l f' fun i => (listed.setIfInBounds j true).getD i false) (j := c.mk_) (List.range m) List.nodup_range (List.mem_range.2 him)
   have hgi2 : U8 tab con l f' (fun i => (listed.setIfInBounds j true).getD i false) c.mk_ = c.r (f' c.x) (f' c.d) := by
    simp only [U8, hset _ hij, honi, hdst, hof, hc1, hsj]; rfl
   rw [hgi2] at hsp2
   have hrest : ((List.range m).flatMap fun i => if i = c.mk_ then [] else U8 tab con l f' (fun i => (listed.setIfInBounds j true).getD i false) i) = (List.range m).flatMap fun i => if i = c.mk_ then [] else U8 tab con l f' (fun i => listed.getD i false) i := by
    refine Zm3 _ (fun i hi => ?_)
    by_cases e : i = c.mk_
    rw [if_pos e, if_pos e]
    rw [if_neg e, if_neg e]
    by_cases eij : i = j
    subst eij
    have : (l[i]?).bind (·.dst) = none := by rw [ho]; exact hd
    simp only [U8, this, hf, hsj]; rfl
    simp only [U8, hset i eij]
    cases hdi : (l[i]?).bind (·.dst) with
    | none => rfl
    | some d =>
     cases he' : con.of i with
     | none => rfl
     | some e' =>
      have hne2 : e'.k ≠ j := by
       intro hk
       have h1 := (D6 hco he').2.1
       rw [hk, hby] at h1
       have h2 := (D6 hco he').1
       rw [← Option.some.inj h1] at h2
       exact e h2.symm
      simp only [hset e'.k hne2]
   rw [hrest] at hsp2
   exact hsp2
   intro i d' hi hd'
   rcases Zj7 hi with rfl | h
   rw [ho] at hd'
   simp only [Option.bind_some] at hd'
   rw [hd] at hd'; cases hd'
   exact (tab d').mono hs2 (hv i d' h hd')
   intro k e hk hi
   by_cases hkj : k = j
   subst hkj
   rw [hby] at hk; cases hk
   exact hq2
   rw [hset k hkj] at hi
   exact e.qm hs2 (hqs k e hk hi)
   intro lk hlm hi
   rcases Zj7 hi with h | h
   have := (hlk lk hlm).2.2.2.2.2.2
   rw [h, hby] at this; cases this
   exact lk.qm hs2 (hlq lk hlm h)
end
theorem Wh0 {P : Program} {n : Nat} {g : FuncId} {R : Ending → World → Prop} {K : List Item} {l : List Oper} {id : Nat} {H : FH} {L : OL} {f0 : Fr} {w : World}
 (m : Nat) (tab : Nat → MP) (con : Con) (lks : List Lk) (hmix : P.follows .mixedOrders = true) (hok : Zq5 l m = true) (hco : Yd8 con l m = true) (hml : Nat.ble m l.length = true) (hS : St H w L)
 (hlk : ∀ lk, lk ∈ lks → Wn5 lk l m con) (hq : Ze9 (Yd6 P n l m tab con lks H L f0) (l.take m) 0)
 (ht : ∀ (f : Fr) (w : World) (H' : FH), Sub H H' → St H' w ((List.range m).flatMap (U8 tab con l f fun _ => true) ++ L) → (∀ t, inD (l.take m) t = false → f t = f0 t) →
  (∀ i d, i < m → (l[i]?).bind (·.dst) = some d → (tab d).p H' (f d)) → (∀ k c, con.by_ k = some c → c.q H' (f c.d)) → (∀ lk, lk ∈ lks → lk.q H' (f lk.e) (f lk.d)) → W2 P n l.toArray (fun f' w' => Run P n g R K f' w') (l.drop m) f w) :
 Run P n g R (.code (.region id l.toArray true) :: K) f0 w := by
 intro a ha b cs hb hk
 have hml' : m ≤ l.length := by simpa [Nat.ble_eq] using hml
 have hwp : (Code.region id l.toArray true).wp P (Yj3 n (fun f' w' => Run P n g R K f' w')) a w := by
  refine wp_region_any hmix ?_
  have := We0 (P := P) (J := fun f' w' => Run P n g R K f' w') hok hco hml' hlk hq ht l.length (Array.replicate l.length false) a w.drew f0 H (by simp) (by simp [List.countP_replicate]) ?_ ?_ ha (Sub.refl _) ?_ (fun _ _ => rfl) ?_ ?_ ?_
  simpa using this
  intro i hi; rw [Array.getD_eq_getD_getElem?, Array.getElem?_replicate] at hi; split at hi <;> simp at hi
  intro i hi; rw [Array.getD_eq_getD_getElem?, Array.getElem?_replicate] at hi; split at hi <;> simp at hi
  have : (List.range m).flatMap (U8 tab con l f0 fun i => (Array.replicate l.length false).getD i false) = [] := by
   rw [List.flatMap_eq_nil_iff]
   intro i _
   have : (Array.replicate l.length false).getD i false = false := by rw [Array.getD_eq_getD_getElem?, Array.getElem?_replicate]; split <;> rfl
   simp only [U8, this]; rfl
  rw [this]; exact hS.drew
  intro i d hi; rw [Array.getD_eq_getD_getElem?, Array.getElem?_replicate] at hi; split at hi <;> simp at hi
  intro k c _ hi; rw [Array.getD_eq_getD_getElem?, Array.getElem?_replicate] at hi; split at hi <;> simp at hi
  intro lk _ hi; rw [Array.getD_eq_getD_getElem?, Array.getElem?_replicate] at hi; split at hi <;> simp at hi
 obtain ⟨e, a', w', ⟨rfl, f', ha', hJ⟩, harr⟩ := hwp b K cs
 obtain ⟨e, w'', fr, hR, hc, hf, hl⟩ := hJ a' ha' b cs hb hk
 exact ⟨e, w'', fr, hR, .of_steps harr hc, hf, hl⟩
def Zd2 (K : Nat) (a0 : MpT) (a1 : Int) : Nat → Int → MpT → Option (Ex MpT (MpT))
 | 0, _, _ => none
 | k + 1, a3, a4 => (if a3 < (a0.length : Int) then (if a1 = 0 then (if a4.length + ([((rd a0 a3).1, (rd a0 a3).2)]).length ≤ 1099511627776 then Zd2 K a0 a1 k (a3 + 1) (a4 ++ [((rd a0 a3).1, (rd a0 a3).2)]) else none) else none) else some (.go a4))
def Zv1 (K : Nat) (a0 : MpT) (a1 : Int) : Option MpT := ((Zd2 K a0 a1 K 0 ([] : List (A8 × Int))).bind (Ex.elim (fun r => some r) (fun s => (fun (a9 : MpT) => some a9) s)))
theorem Xc3 {a0 : MpT} {a1 : Int} {r : MpT} (q0 : Zv1 K a0 a1 = some r) (b3 : Z9 yT H s0 a0) (hS : St H w L) :
 Calls Tryz.prog 185 #[vA ([s0]), vI a1] w (T2 (fun v G => (R.agg (Y9 yT)).p (G.new H) v r) H L) := by
 have Z3 := Sub.refl H
 refine X3 Tryz.func185 rfl Tryz.ntmps185 rfl ?_
 unfold Zv1 at q0
 refine Z2 (Z0 ?_)
 refine S3 (v := vA ([s0])) ([s0]).toArray rfl rfl hS rfl ?_
 intro b1 _ hS
 refine W6 (z := vA ([vN])) ([vN]).toArray I0.zero rfl hS rfl ?_
 intro b4 _ hS
 refine Z1 (Z2 (Z0 ?_))
 refine R6 (vA ([vN])) Yf8 rfl ?_
 refine W6 (z := vA ([vN])) ([vN]).toArray I0.zero rfl hS rfl ?_
 intro b7 _ hS
 refine X5 (v := vA ([vN])) (vs := ([vN]).toArray) (cs := ([vN]).toArray) U2 rfl rfl rfl hS rfl (U0 rfl) rfl ?_
 intro _ hS
 refine Z1 (Z2 (Z2 (Z0 (Y2 V9 rfl rfl ?_))))
 refine Y3 (s0) Q4 rfl (hS.get (mR (mR mL))) rfl rfl ?_
 have f8 := b3.bound
 refine W7 R7 rfl b3 rfl (Z4 (vI 0) rfl rfl (Z1 (Y7 ?_)))
 have d1 : W3 yT 78 H (.slice none 0 0) [] [] := W3.nil _ _ _
 obtain ⟨d2, b0, d3⟩ := bind_some q0
 refine W1 (id := 0) (fun k f w => ∃ (a3 : Int) (a4 : MpT) (H1 : FH) (a8 : OL) (a5 : Value), Zd2 K a0 a1 k a3 a4 = some d2 ∧ Sub H H1 ∧ St H1 w (a8 ++ ([(b7, cA ([a5]) 45)] ++ ([(b4, cA ([vN]) 45)] ++ ([(b1, cA ([s0]) 45)] ++ L)))) ∧ 0 ≤ a3 ∧ W3 yT 78 H1 a5 a4 a8 ∧ Z9 yT H1 s0 a0 ∧ tv f 1 = vI a1 ∧ tv f 4 = vP b4 ∧ tv f 5 = vP b7 ∧ tv f 11 = s0 ∧ tv f 12 = vI (a0.length : Int) ∧ tv f 13 = vI a3) (fun f w => ∃ (a9 : MpT) (H1 : FH) (b2 : OL) (a6 : Value), d2 = .go a9 ∧ Sub H H1 ∧ St H1 w (b2 ++ ([(b7, cA ([a6]) 45)] ++ ([(b4, cA ([vN]) 45)] ++ ([(b1, cA ([s0]) 45)] ++ L)))) ∧ W3 yT 78 H1 a6 a9 b2 ∧ Z9 yT H1 s0 a0 ∧ tv f 4 = vP b4 ∧ tv f 5 = vP b7) rfl ?_ ?_ K ?_ ?_
 rintro f w ⟨a3, a4, H1, a8, a5, b0, _⟩
 rw [Zd2] at b0; cases b0
 rintro k _ _ e8 e9 ⟨a3, a4, e1, a8, a5, b0, Z3, hS, _, a7, b3, c2, c3, c4, c0, c1, b8⟩
 rw [Zd2] at b0
 refine Z2 (Z0 ?_)
 refine V5 (k := .i64) (a := a3) (b := (a0.length : Int)) (by exact b8) (by exact c1) rfl (Z1 (Z2 ?_))
 obtain ⟨c6, b0⟩ | ⟨c6, b0⟩ := ic b0
 refine Y0 (bT c6 rfl) (Y8 (Z2 (Y7 (Z2 (Z0 ?_)))))
 obtain ⟨_, _, _, _, _, e2, e3, ⟨_, _, rfl, rfl, rfl⟩, e4⟩ := b3.elem (i := a3) (by omega) (by omega)
 refine X9 R7 rfl (by exact c0) e2 (by exact b8) (by omega) (by omega) rfl ?_
 refine W9 (Z7 .u8 ((rd a0 a3).1) ++ [vI ((rd a0 a3).2)]) Zt9 rfl (hS.froz _ _ e3) rfl e4 rfl ?_
 refine W6 (z := vA (Z7 .u8 (fun _ => 0) ++ [vI 0])) (Z7 .u8 (fun _ => 0) ++ [vI 0]).toArray Ya6.zero rfl hS rfl ?_
 intro c9 _ hS
 refine X5 (v := vA (Z7 .u8 ((rd a0 a3).1) ++ [vI ((rd a0 a3).2)])) (vs := (Z7 .u8 ((rd a0 a3).1) ++ [vI ((rd a0 a3).2)]).toArray) (cs := (Z7 .u8 (fun _ => 0) ++ [vI 0]).toArray) Zt9 rfl rfl rfl hS rfl (R8 (S4 .u8 ((rd a0 a3).1)) (U0 rfl)) rfl ?_
 intro _ hS
 refine Z1 (Z2 (Z0 ?_))
 refine R6 (vA (Z7 .u8 (fun _ => 0))) Yx8 rfl ?_
 refine W6 (z := vA (Z7 .u8 (fun _ => 0))) (Z7 .u8 (fun _ => 0)).toArray Yf9.zero rfl hS rfl ?_
 intro d4 _ hS
 refine X5 (v := vA (Z7 .u8 (fun _ => 0))) (vs := (Z7 .u8 (fun _ => 0)).toArray) (cs := (Z7 .u8 (fun _ => 0)).toArray) M2 rfl rfl rfl hS rfl (S4 .u8 (fun _ => 0)) rfl ?_
 intro _ hS
 refine Z1 (Z2 ?_)
 obtain ⟨e5, b0⟩ := gd b0
 have U5 := Z3
 refine U1 4 (P0 [mE 18 (vI a1), mE 19 (Value.slice (some ⟨d4, 0, none⟩) 8 8), mE 20 (vP c9), mE 21 (Value.slice (some ⟨c9, 0, none⟩) 8 8)]) [] mixed rfl rfl rfl hS (Z6 rfl ?_ (Z6 rfl ?_ (Z6 rfl ?_ (Z6 rfl ?_ U7)))) ?_
 exact W5 fun S B => Z4 (vI a1) (evT (B 1 rfl) c2) rfl (qz S)
 exact G4 fun S B V => Wm2 Zd9 (evT (B 8 rfl) rfl) (eM (V 0 18 rfl rfl)) e5 rfl (qz S)
 exact W5 fun S B => Y2 M1 (evT (B 7 rfl) rfl) rfl (qz S)
 exact X2 fun S V => Wr8 Zd9 (eM (V 2 20 rfl rfl)) rfl (qz S)
 intro e0 f0 f1 c7 hS b5 d5 hcq
 have hS : St f1 f0 ([(d4, cA (Z7 .u8 (fun _ => 0)) 72)] ++ ([(c9, cA (Z7 .u8 ((rd a0 a3).1) ++ [vI ((rd a0 a3).2)]) 78)] ++ (a8 ++ ([(b7, cA ([a5]) 45)] ++ ([(b4, cA ([vN]) 45)] ++ ([(b1, cA ([s0]) 45)] ++ L)))))) := hS
 have Z3 := Z3.trans c7
 have b3 := b3.mono c7
 have a7 := a7.mono c7
 have d6 := evT (b5 5 rfl) c4
 have f2 : tv e0 7 = vP c9 := Eq.trans (b5 7 rfl) rfl
 have f3 : tv e0 8 = vP d4 := Eq.trans (b5 8 rfl) rfl
 refine Ww5 (k := .u8) (a := (fun _ => 0)) (c := (rd a0 a3).1) Vi9 (by exact (eM (d5 1 19 (by decide) rfl))) (by exact (eM (d5 3 21 (by decide) rfl))) hS (hS.get (o := cA (Z7 .u8 ((rd a0 a3).1) ++ [vI ((rd a0 a3).2)]) 78) (mR mL)) (fun j hj => Zm0 ([]) (Z7 .u8 ((rd a0 a3).1)) (([vI ((rd a0 a3).2)])) j hj) rfl ?_
 intro _ hS
 refine Z1 (Z0 (Y2 V9 (by exact d6) rfl ?_))
 refine Y3 (a5) Q4 rfl (hS.get (mR (mR (mR mL)))) rfl rfl ?_
 refine X7 M2 (by exact f3) (hS.get mL) rfl rfl (Y2 Ze2 (by exact f2) rfl ?_)
 refine Y3 (vI ((rd a0 a3).2)) ty2 rfl (hS.get (mR mL)) rfl rfl ?_
 refine Zl9 (Z7 .u8 ((rd a0 a3).1) ++ [vI ((rd a0 a3).2)]) Xf8 (Zz1 rfl rfl) (Q5 rfl rfl rfl (nl rfl) (Q5 rfl rfl rfl (nl rfl) (Zh6 rfl))) rfl ?_
 refine D9 (τ := yT) R7 Ya6 rfl [vA (Z7 .u8 ((rd a0 a3).1) ++ [vI ((rd a0 a3).2)])] [((rd a0 a3).1, (rd a0 a3).2)] rfl rfl (K6 rfl) (Zi6 ⟨_, _, rfl, rfl, rfl⟩) (by decide) (by decide) hS rfl ?_
 intro _ f4 _ c8 hS e6
 have Z3 := Z3.trans c8
 have b3 := b3.mono c8
 have a7 := a7.mono c8
 obtain ⟨e7, b0⟩ := gd b0
 have hS := hS.perm Q8
 refine N5 (τ := yT) Yw2 rfl rfl rfl a7 hS e6 e7 rfl ?_
 intro d7 _ f5 d8 hS
 have hS := hS.perm Q8.symm
 refine Y2 V9 (by exact d6) rfl ?_
 have hS := hS.perm Ye9
 refine Zb3 (v := d7) (cs := ([a5]).toArray) (cs' := ([d7]).toArray) Q4 rfl rfl hS d8.isOne rfl (nl rfl) rfl ?_
 intro _ hS
 have hS := hS.perm Ye9.symm
 refine Z1 (X4 (Z0 ?_))
 refine W8 (a3 + 1) (by exact (evT (b5 13 rfl) b8)) rfl (IntWalk.i64_in _ (by omega)) rfl (Z4 (vI (a3 + 1)) rfl rfl (Z1 ?_))
 have hS := St.dropA hS
 have hS := St.dropA hS
 exact e8 _ _ ⟨(a3 + 1), (a4 ++ [((rd a0 a3).1, (rd a0 a3).2)]), f4, f5, d7, b0, Z3, hS, (by omega), d8, b3, (evT (b5 1 rfl) c2), (evT (b5 4 rfl) c3), d6, (evT (b5 11 rfl) c0), (evT (b5 12 rfl) c1), rfl⟩
 refine Z8 (bF c6 rfl) ?_
 refine W0 rfl ?_
 obtain rfl := oi b0
 exact e9 _ _ ⟨a4, e1, a8, a5, rfl, Z3, hS, a7, b3, c3, c4⟩
 exact ⟨0, ([] : List (A8 × Int)), H, ([]), (vN), b0, Z3, hS, (by omega), d1, b3, rfl, rfl, rfl, rfl, rfl, rfl⟩
 rintro _ _ ⟨a9, _, b2, a6, rfl, Z3, hS, b6, b3, c5, d0⟩
 dsimp only [Ex.elim] at d3
 refine Z2 (Z0 ?_)
 refine X7 U2 (by exact d0) (hS.get (mR mL)) rfl rfl ?_
 have hS := hS.perm Q8
 refine X5 (v := vA ([a6])) (vs := ([a6]).toArray) (cs := ([vN]).toArray) U2 (by exact c5) rfl rfl hS rfl (U0 b6.isOne) rfl ?_
 intro _ hS
 have hS := hS.perm Q8.symm
 refine Z1 ?_
 refine X0 (vs := [vA ([a6])]) Tryz.func185 ⟨⟨_, (by exact c5), V6 U2 (hS.get (mR (mR mL))) rfl⟩, trivial⟩ ?_
 obtain ⟨f6, d9, hS, b9⟩ := W3.freezeF (τ := yT) (H0 := H) b6 hS Z3
 have f7 := Z9.old b9
 have b9 : RdF yT H f6 a6 a9 := b9
 have Z3 := Z3.trans d9
 obtain rfl := oi d3
 exact ⟨_, _, rfl, Z3, (St.dropA (St.dropA (St.dropA hS))), ⟨_, rfl, ⟨_, rfl, b9⟩⟩⟩
def B1 (K : Nat) (a0 : (List Int)) (a1 : A8) : Nat → Int → Int → Option (Ex Int (Int))
 | 0, _, _ => none
 | k + 1, a4, a3 => (if a3 < (a0.length : Int) then (if a3 < 8 then B1 K a0 a1 k (IntKind.i64.wrap (a4 + (IntKind.i64.wrap ((rd a0 a3) * (IntKind.i64.wrap (Y5 a1 a3)))))) (a3 + 1) else none) else some (.go a4))
def Zf1 (K : Nat) (a0 : (List Int)) (a1 : A8) : Option Int := ((B1 K a0 a1 K 0 0).bind (Ex.elim (fun r => some r) (fun s => (fun (a6 : Int) => some a6) s)))
theorem Zx8 {a0 : (List Int)} {a1 : A8} {r : Int} (q0 : Zf1 K a0 a1 = some r) (a9 : Z9 (Y6 .i64) H s0 a0) (hS : St H w L) :
 Calls Tryz.prog 207 #[s0, vA (Z7 .u8 a1)] w (T2 (fun v G => (R.int .i64).p G v r) H L) := by
 have Z3 := Sub.refl H
 refine X3 Tryz.func207 rfl Tryz.ntmps207 rfl ?_
 unfold Zf1 at q0
 refine Z2 (Z0 ?_)
 refine S3 (v := vA (Z7 .u8 a1)) (Z7 .u8 a1).toArray rfl rfl hS rfl ?_
 intro b1 _ hS
 refine Z5 (vI 0) rfl rfl (Z1 (Z2 (Z0 (Z5 (vI 0) rfl rfl (Z1 (Z2 (Z2 (Z0 (Z5 (vI 0) rfl rfl (Z1 (Y7 ?_)))))))))))
 obtain ⟨b6, a5, b7⟩ := bind_some q0
 refine W1 (id := 0) (fun k f w => ∃ (a4 : Int) (a3 : Int) (H1 : FH), B1 K a0 a1 k a4 a3 = some b6 ∧ Sub H H1 ∧ St H1 w ([(b1, cA (Z7 .u8 a1) 72)] ++ L) ∧ 0 ≤ a3 ∧ Z9 (Y6 .i64) H1 s0 a0 ∧ tv f 0 = s0 ∧ tv f 3 = vP b1 ∧ tv f 5 = vI a4 ∧ tv f 6 = vI a3) (fun f w => ∃ (a6 : Int) (H1 : FH), b6 = .go a6 ∧ Sub H H1 ∧ St H1 w ([(b1, cA (Z7 .u8 a1) 72)] ++ L) ∧ tv f 5 = vI a6) rfl ?_ ?_ K ?_ ?_
 rintro f w ⟨a4, a3, H1, a5, _⟩
 rw [B1] at a5; cases a5
 rintro k _ _ c6 c7 ⟨a4, a3, c1, a5, Z3, hS, _, a9, a8, b0, b2, a7⟩
 rw [B1] at a5
 refine Z2 (Z2 (Z0 (Z4 (vI a3) (by exact a7) rfl (Z4 (s0) (by exact a8) rfl ?_))))
 have d0 := a9.bound
 refine W7 Q0 rfl a9 rfl ?_
 refine V5 (k := .i64) (a := a3) (b := (a0.length : Int)) rfl rfl rfl (Z1 ?_)
 obtain ⟨b8, a5⟩ | ⟨b8, a5⟩ := ic a5
 refine Y0 (bT b8 rfl) (Y8 (Z2 (Y7 ?_)))
 obtain ⟨c8, c9, _, _, _, c2, c3, rfl, c4⟩ := a9.elem (i := a3) (by omega) (by omega)
 obtain ⟨_, a5⟩ := gd a5
 refine U1 11 (P0 [mE 13 (vI a4), mE 14 (s0), mE 15 (vI a3), mE 16 (vQ c8 c9), mE 17 (vI (rd a0 a3)), mE 18 (vI a3), mE 19 (vQ b1 (0 + (a3).toNat * 1)), mE 20 (Value.int .u8 (Y5 a1 a3)), mE 21 (vI (IntKind.i64.wrap (Y5 a1 a3))), mE 22 (vI (IntKind.i64.wrap ((rd a0 a3) * (IntKind.i64.wrap (Y5 a1 a3))))), mE 23 (vI (IntKind.i64.wrap (a4 + (IntKind.i64.wrap ((rd a0 a3) * (IntKind.i64.wrap (Y5 a1 a3)))))))]) [] mixed rfl rfl rfl hS (Z6 rfl ?_ (Z6 rfl ?_ (Z6 rfl ?_ (Z6 rfl ?_ (Z6 rfl ?_ (Z6 rfl ?_ (Z6 rfl ?_ (Z6 rfl ?_ (Z6 rfl ?_ (Z6 rfl ?_ (Z6 rfl ?_ U7))))))))))) ?_
 exact W5 fun S B => Z4 (vI a4) (evT (B 5 rfl) b2) rfl (qz S)
 exact W5 fun S B => Z4 (s0) (evT (B 0 rfl) a8) rfl (qz S)
 exact W5 fun S B => Z4 (vI a3) (evT (B 6 rfl) a7) rfl (qz S)
 exact X2 fun S V => X9 Q0 rfl (eM (V 1 14 rfl rfl)) c2 (eM (V 2 15 rfl rfl)) (by omega) (by omega) rfl (qz S)
 exact E6 fun s S V => Y3 (vI (rd a0 a3)) ty2 (eM (V 3 16 rfl rfl)) (S.froz _ _ (s.1 _ _ c3)) (c4 0 (show 0 < 1 by decide)) rfl (qz S)
 exact W5 fun S B => Z4 (vI a3) (evT (B 6 rfl) a7) rfl (qz S)
 exact G4 fun S B V => V2 Zd9 (evT (B 3 rfl) b0) (eM (V 5 18 rfl rfl)) (by omega) (by omega) rfl (qz S)
 exact X2 fun S V => Y3 (Value.int .u8 (Y5 a1 a3)) ty5 (eM (V 6 19 rfl rfl)) (S.get (o := cA (Z7 .u8 a1) 72) (mR mL)) (J2 ([]) ([]) (by omega) (by omega)) rfl (qz S)
 exact X2 fun S V => Ym6 (s := .u8) ((IntKind.i64.wrap (Y5 a1 a3))) Wg5 (eM (V 7 20 rfl rfl)) rfl rfl (qz S)
 exact X2 fun S V => Zt1 (IntKind.i64.wrap ((rd a0 a3) * (IntKind.i64.wrap (Y5 a1 a3)))) (eM (V 4 17 rfl rfl)) (eM (V 8 21 rfl rfl)) rfl rfl (qz S)
 exact X2 fun S V => W8 (IntKind.i64.wrap (a4 + (IntKind.i64.wrap ((rd a0 a3) * (IntKind.i64.wrap (Y5 a1 a3)))))) (eM (V 0 13 rfl rfl)) (eM (V 9 22 rfl rfl)) rfl rfl (qz S)
 intro _ c5 b9 b4 hS b3 c0 hcq
 have hS : St b9 c5 ([(b1, cA (Z7 .u8 a1) 72)] ++ L) := hS
 have Z3 := Z3.trans b4
 have a9 := a9.mono b4
 refine Z5 (vI (IntKind.i64.wrap (a4 + (IntKind.i64.wrap ((rd a0 a3) * (IntKind.i64.wrap (Y5 a1 a3))))))) (by exact (eM (c0 10 23 (by decide) rfl))) rfl (Z1 (X4 (Z0 (Z4 (vI a3) (by exact (evT (b3 6 rfl) a7)) rfl ?_))))
 refine W8 (a3 + 1) rfl rfl (IntWalk.i64_in _ (by omega)) rfl (Z5 (vI (a3 + 1)) rfl rfl (Z1 ?_))
 exact c6 _ _ ⟨(IntKind.i64.wrap (a4 + (IntKind.i64.wrap ((rd a0 a3) * (IntKind.i64.wrap (Y5 a1 a3)))))), (a3 + 1), b9, a5, Z3, hS, (by omega), a9, (evT (b3 0 rfl) a8), (evT (b3 3 rfl) b0), rfl, rfl⟩
 refine Z8 (bF b8 rfl) ?_
 refine W0 rfl ?_
 obtain rfl := oi a5
 exact c7 _ _ ⟨a4, c1, rfl, Z3, hS, b2⟩
 exact ⟨0, 0, H, a5, Z3, hS, (by omega), a9, rfl, rfl, rfl, rfl⟩
 rintro _ _ ⟨a6, _, rfl, Z3, hS, b5⟩
 dsimp only [Ex.elim] at b7
 refine Z2 (Z0 (Z4 (vI a6) (by exact b5) rfl (Z5 (vI a6) rfl rfl (Z1 ?_))))
 refine X0 (vs := [vI a6]) Tryz.func207 ⟨rfl, trivial⟩ ?_
 obtain rfl := oi b7
 exact ⟨_, _, rfl, Z3, (St.dropA hS), rfl⟩
def Za9 (K : Nat) (a0 : (List Int)) : Nat → Int → (List Int) → Option (Ex (List Int) ((List Int)))
 | 0, _, _ => none
 | k + 1, a1, a3 => (if a1 < (a0.length : Int) then (if a1 < (a3.length : Int) then Za9 K a0 k (a1 + 1) (a3.set (a1).toNat (rd a0 a1)) else none) else some (.go a3))
def Zs0 (K : Nat) (a0 : (List Int)) : Option (List Int) := (if (a0.length : Int) ≤ 1099511627776 then ((Za9 K a0 K 0 (List.replicate ((a0.length : Int)).toNat (0 : Int))).bind (Ex.elim (fun r => some r) (fun s => (fun (a7 : (List Int)) => some a7) s))) else none)
theorem Yx3 {a0 : (List Int)} {r : (List Int)} (q0 : Zs0 K a0 = some r) (b4 : Z9 (Y6 .i64) H s0 a0) (hS : St H w L) :
 Calls Tryz.prog 77 #[s0] w (T2 (fun v G => (R.sl (Y6 .i64)).p (G.new H) v r) H L) := by
 have Z3 := Sub.refl H
 refine X3 Tryz.func77 rfl Tryz.ntmps77 rfl ?_
 unfold Zs0 at q0
 refine Z2 (Z0 (Z5 (vN) rfl rfl (Z1 (Z2 (Z0 (Z4 (s0) rfl rfl ?_))))))
 have d4 := b4.bound
 refine W7 Q0 rfl b4 rfl ?_
 obtain ⟨_, q0⟩ := gd q0
 refine Xh8 (τ := (Y6 .i64)) (0 : Int) Xd5 rfl rfl rfl (fun _ => rfl) (by omega) (by omega) hS rfl ?_
 intro u3 _ C5 c8 hS
 refine Z5 (u3) rfl rfl (Z1 (Z2 (Z2 (Z0 (Z5 (vI 0) rfl rfl (Z1 (Y7 ?_)))))))
 obtain ⟨b8, a6, b9⟩ := bind_some q0
 refine W1 (id := 0) (fun k f w => ∃ (a1 : Int) (a3 : (List Int)) (H1 : FH) (a8 : OL) (a4 : Value), Za9 K a0 k a1 a3 = some b8 ∧ Sub H H1 ∧ St H1 w (a8 ++ L) ∧ 0 ≤ a1 ∧ W3 (Y6 .i64) 2 H1 a4 a3 a8 ∧ Z9 (Y6 .i64) H1 s0 a0 ∧ tv f 0 = s0 ∧ tv f 3 = a4 ∧ tv f 4 = vI a1) (fun f w => ∃ (a7 : (List Int)) (H1 : FH) (b1 : OL) (a5 : Value), b8 = .go a7 ∧ Sub H H1 ∧ St H1 w (b1 ++ L) ∧ W3 (Y6 .i64) 2 H1 a5 a7 b1 ∧ tv f 3 = a5) rfl ?_ ?_ K ?_ ?_
 rintro f w ⟨a1, a3, H1, a8, a4, a6, _⟩
 rw [Za9] at a6; cases a6
 rintro k _ _ c9 d0 ⟨a1, a3, c0, a8, a4, a6, Z3, hS, _, a9, b4, b2, b3, b0⟩
 rw [Za9] at a6
 refine Z2 (Z2 (Z0 (Z4 (vI a1) (by exact b0) rfl (Z4 (s0) (by exact b2) rfl ?_))))
 have d5 := b4.bound
 refine W7 Q0 rfl b4 rfl ?_
 refine V5 (k := .i64) (a := a1) (b := (a0.length : Int)) rfl rfl rfl (Z1 ?_)
 obtain ⟨c1, a6⟩ | ⟨c1, a6⟩ := ic a6
 refine Y0 (bT c1 rfl) (Y8 (Z2 (Y7 (Z0 (Z4 (a4) (by exact b3) rfl (Z4 (vI a1) (by exact b0) rfl (Z4 (s0) (by exact b2) rfl (Z4 (vI a1) (by exact b0) rfl ?_))))))))
 obtain ⟨_, _, _, _, _, c3, c4, rfl, c5⟩ := b4.elem (i := a1) (by omega) (by omega)
 refine X9 Q0 rfl rfl c3 rfl (by omega) (by omega) rfl ?_
 refine Y3 (vI (rd a0 a1)) ty2 rfl (hS.froz _ _ c4) (c5 0 (show 0 < 1 by decide)) rfl ?_
 obtain ⟨_, a6⟩ := gd a6
 obtain ⟨_, _, c2⟩ := a9.some (i := a1) (by omega) (by omega)
 refine Zw4 Q0 (Eq.trans rfl c2) rfl (by omega) (by omega) rfl ?_
 refine Zw2 (τ := (Y6 .i64)) (v := a4) (u := vI (rd a0 a1)) (rd a0 a1) (i := a1) rfl ty2 c2 a9 hS rfl rfl (by omega) (by omega) rfl ?_
 intro _ d1 c6 hS
 refine Z1 (X4 (Z0 (Z4 (vI a1) (by exact b0) rfl ?_)))
 refine W8 (a1 + 1) rfl rfl (IntWalk.i64_in _ (by omega)) rfl (Z5 (vI (a1 + 1)) rfl rfl (Z1 ?_))
 exact c9 _ _ ⟨(a1 + 1), (a3.set (a1).toNat (rd a0 a1)), c0, d1, a4, a6, Z3, hS, (by omega), c6, b4, b2, b3, rfl⟩
 refine Z8 (bF c1 rfl) ?_
 refine W0 rfl ?_
 obtain rfl := oi a6
 exact d0 _ _ ⟨a3, c0, a8, a4, rfl, Z3, hS, a9, b3⟩
 exact ⟨0, (List.replicate ((a0.length : Int)).toNat (0 : Int)), H, C5, u3, a6, Z3, hS, (by omega), c8, b4, rfl, rfl, rfl⟩
 rintro _ _ ⟨a7, _, b1, a5, rfl, Z3, hS, b6, b7⟩
 dsimp only [Ex.elim] at b9
 refine Z2 (Z0 (Z4 (a5) (by exact b7) rfl (Z5 (a5) rfl rfl (Z1 ?_))))
 refine X0 (vs := [a5]) Tryz.func77 ⟨rfl, trivial⟩ ?_
 obtain ⟨d2, c7, hS, b5⟩ := W3.freezeF (τ := (Y6 .i64)) (H0 := H) b6 hS Z3
 have d3 := Z9.old b5
 have b5 : RdF (Y6 .i64) H d2 a5 a7 := b5
 have Z3 := Z3.trans c7
 obtain rfl := oi b9
 exact ⟨_, _, rfl, Z3, hS, b5⟩
def V3 (K : Nat) (a0 : (List MpT)) (a1 : (MpT → Option Bool)) : Nat → Int → Option (Ex Int (Unit))
 | 0, _ => none
 | k + 1, a3 => (if a3 < (a0.length : Int) then ((a1 (rd a0 a3)).bind fun r4 => (if r4 = true then some (.ret a3) else V3 K a0 a1 k (a3 + 1))) else some (.go ()))
def G6 (K : Nat) (a0 : (List MpT)) (a1 : (MpT → Option Bool)) : Option Int := ((V3 K a0 a1 K 0).bind (Ex.elim (fun r => some r) (fun s => some (-1))))
theorem Zu9 {a0 : (List MpT)} {a1 : (MpT → Option Bool)} {r : Int} (q0 : G6 K a0 a1 = some r) (a6 : Z9 (Y9 yT) H s0 a0) (a7 : FnQ Tryz.prog s1 (R.agg (Y9 yT)) a1 H) (hS : St H w L) :
 Calls Tryz.prog 214 #[s0, s1] w (T2 (fun v G => (R.int .i64).p G v r) H L) := by
 have Z3 := Sub.refl H
 refine X3 Tryz.func214 rfl Tryz.ntmps214 rfl ?_
 unfold G6 at q0
 refine Z2 (Z0 (Z5 (vI 0) rfl rfl (Z1 (Z2 (Z2 (Z0 (Z4 (s0) rfl rfl ?_)))))))
 have c5 := a6.bound
 refine W7 P6 rfl a6 rfl (Z4 (vI 0) rfl rfl (Z1 (Y7 ?_)))
 obtain ⟨b2, a4, b1⟩ := bind_some q0
 refine W1 (id := 0) (fun k f w => ∃ (a3 : Int) (H1 : FH), V3 K a0 a1 k a3 = some b2 ∧ Sub H H1 ∧ St H1 w (L) ∧ 0 ≤ a3 ∧ Z9 (Y9 yT) H1 s0 a0 ∧ FnQ Tryz.prog s1 (R.agg (Y9 yT)) a1 H1 ∧ tv f 0 = s0 ∧ tv f 1 = s1 ∧ tv f 7 = vI (a0.length : Int) ∧ tv f 8 = vI a3) (fun f w => ∃ (H1 : FH), b2 = .go () ∧ Sub H H1 ∧ St H1 w (L)) rfl ?_ ?_ K ?_ ?_
 rintro f w ⟨a3, H1, a4, _⟩
 rw [V3] at a4; cases a4
 rintro k _ _ b9 c0 ⟨a3, b7, a4, Z3, hS, _, a6, a7, a8, a9, b0, a5⟩
 rw [V3] at a4
 refine Z2 (Z0 ?_)
 refine V5 (k := .i64) (a := a3) (b := (a0.length : Int)) (by exact a5) (by exact b0) rfl (Z1 (Z2 ?_))
 obtain ⟨b3, a4⟩ | ⟨b3, a4⟩ := ic a4
 refine Y0 (bT b3 rfl) (Y8 (Z2 (Y7 (Z2 (Z0 (Z4 (vI a3) (by exact a5) rfl (Z5 (vI a3) rfl rfl (Z1 (Z2 (Z0 (Z4 (s1) (by exact a9) rfl (Z4 (s0) (by exact a8) rfl (Z4 (vI a3) rfl rfl ?_)))))))))))))
 obtain ⟨_, _, _, _, _, c1, c2, ⟨b8, rfl, b6⟩, c3⟩ := a6.elem (i := a3) (by omega) (by omega)
 refine X9 P6 rfl rfl c1 rfl (by omega) (by omega) rfl ?_
 refine W9 ([b8]) U2 rfl (hS.froz _ _ c2) rfl c3 rfl ?_
 obtain ⟨_, c4, a4⟩ := bind_some a4
 refine Wc4 a7 rfl rfl hS ⟨_, rfl, ⟨_, rfl, b6⟩⟩ c4 rfl ?_
 intro H4 _ b4 hS
 have Z3 := Z3.trans b4
 have a6 := a6.mono b4
 have a7 := a7.mono b4
 refine Z1 ?_
 obtain ⟨b5, a4⟩ | ⟨b5, a4⟩ := ic a4
 refine Y0 (Eq.trans rfl (congrArg vB b5)) (Z2 (Z0 (Z4 (vI a3) rfl rfl (Z5 (vI a3) rfl rfl (Z1 ?_)))))
 refine X0 (vs := [vI a3]) Tryz.func214 ⟨rfl, trivial⟩ ?_
 obtain rfl := oi a4
 dsimp only [Ex.elim] at b1
 obtain rfl := oi b1
 exact ⟨_, _, rfl, Z3, hS, rfl⟩
 refine Z8 (Eq.trans rfl (congrArg vB (X8 b5))) (Y8 (X4 (Z0 ?_)))
 refine W8 (a3 + 1) (by exact a5) rfl (IntWalk.i64_in _ (by omega)) rfl (Z4 (vI (a3 + 1)) rfl rfl (Z1 ?_))
 exact b9 _ _ ⟨(a3 + 1), H4, a4, Z3, hS, (by omega), a6, a7, a8, a9, b0, rfl⟩
 refine Z8 (bF b3 rfl) ?_
 refine W0 rfl ?_
 obtain rfl := oi a4
 exact c0 _ _ ⟨b7, rfl, Z3, hS⟩
 exact ⟨0, H, a4, Z3, hS, (by omega), a6, a7, rfl, rfl, rfl, rfl⟩
 rintro _ _ ⟨_, rfl, Z3, hS⟩
 dsimp only [Ex.elim] at b1
 refine Z2 (Z0 (Z5 (vI (-1)) rfl rfl (Z1 ?_)))
 refine X0 (vs := [vI (-1)]) Tryz.func214 ⟨rfl, trivial⟩ ?_
 obtain rfl := oi b1
 exact ⟨_, _, rfl, Z3, hS, rfl⟩
def Zd4 (K : Nat) (a0 : A8) : Nat → Int → Int → Option (Ex Int (Int))
 | 0, _, _ => none
 | k + 1, a3, a1 => (if a1 < 8 then Zd4 K a0 k (IntKind.i64.wrap (a3 + (IntKind.i64.wrap (Y5 a0 a1)))) (a1 + 1) else some (.go a3))
def Zu4 (K : Nat) (a0 : A8) : Option Int := ((Zd4 K a0 K 0 0).bind (Ex.elim (fun r => some r) (fun s => (fun (a5 : Int) => some a5) s)))
theorem Xb3 {a0 : A8} {r : Int} (q0 : Zu4 K a0 = some r) (hS : St H w L) :
 Calls Tryz.prog 273 #[vA (Z7 .u8 a0)] w (T2 (fun v G => (R.int .i64).p G v r) H L) := by
 have Z3 := Sub.refl H
 refine X3 Tryz.func273 rfl Tryz.ntmps273 rfl ?_
 unfold Zu4 at q0
 refine Z2 (Z0 ?_)
 refine S3 (v := vA (Z7 .u8 a0)) (Z7 .u8 a0).toArray rfl rfl hS rfl ?_
 intro b1 _ hS
 refine Z5 (vI 0) rfl rfl (Z1 (Z2 (Z0 (Z5 (vI 0) rfl rfl (Z1 (Z2 (Z2 (Z0 (Z5 (vI 0) rfl rfl (Z1 (Y7 ?_)))))))))))
 obtain ⟨b0, a4, b2⟩ := bind_some q0
 refine W1 (id := 0) (fun k f w => ∃ (a3 : Int) (a1 : Int) (H1 : FH), Zd4 K a0 k a3 a1 = some b0 ∧ Sub H H1 ∧ St H1 w ([(b1, cA (Z7 .u8 a0) 72)] ++ L) ∧ 0 ≤ a1 ∧ tv f 1 = vP b1 ∧ tv f 3 = vI a3 ∧ tv f 4 = vI a1) (fun f w => ∃ (a5 : Int) (H1 : FH), b0 = .go a5 ∧ Sub H H1 ∧ St H1 w ([(b1, cA (Z7 .u8 a0) 72)] ++ L) ∧ tv f 3 = vI a5) rfl ?_ ?_ K ?_ ?_
 rintro f w ⟨a3, a1, H1, a4, _⟩
 rw [Zd4] at a4; cases a4
 rintro k _ _ b5 b6 ⟨a3, a1, b3, a4, Z3, hS, _, a7, a8, a6⟩
 rw [Zd4] at a4
 refine Z2 (Z2 (Z0 (Z4 (vI a1) (by exact a6) rfl ?_)))
 refine V5 (k := .i64) (a := a1) (b := 8) rfl rfl rfl (Z1 ?_)
 obtain ⟨b4, a4⟩ | ⟨b4, a4⟩ := ic a4
 refine Y0 (bT b4 rfl) (Y8 (Z2 (Y7 (Z0 (Z4 (vI a3) (by exact a8) rfl (Z4 (vI a1) (by exact a6) rfl ?_))))))
 refine V2 Zd9 (by exact a7) rfl (by omega) (by omega) rfl ?_
 refine Y3 (Value.int .u8 (Y5 a0 a1)) ty5 rfl (hS.get (o := cA (Z7 .u8 a0) 72) mL) (J2 ([]) ([]) (by omega) (by omega)) rfl ?_
 refine Ym6 (s := .u8) ((IntKind.i64.wrap (Y5 a0 a1))) Wg5 rfl rfl rfl ?_
 refine W8 (IntKind.i64.wrap (a3 + (IntKind.i64.wrap (Y5 a0 a1)))) rfl rfl rfl rfl (Z5 (vI (IntKind.i64.wrap (a3 + (IntKind.i64.wrap (Y5 a0 a1))))) rfl rfl (Z1 (X4 (Z0 (Z4 (vI a1) (by exact a6) rfl ?_)))))
 refine W8 (a1 + 1) rfl rfl (IntWalk.i64_in _ (by omega)) rfl (Z5 (vI (a1 + 1)) rfl rfl (Z1 ?_))
 exact b5 _ _ ⟨(IntKind.i64.wrap (a3 + (IntKind.i64.wrap (Y5 a0 a1)))), (a1 + 1), b3, a4, Z3, hS, (by omega), a7, rfl, rfl⟩
 refine Z8 (bF b4 rfl) ?_
 refine W0 rfl ?_
 obtain rfl := oi a4
 exact b6 _ _ ⟨a3, b3, rfl, Z3, hS, a8⟩
 exact ⟨0, 0, H, a4, Z3, hS, (by omega), rfl, rfl, rfl⟩
 rintro _ _ ⟨a5, _, rfl, Z3, hS, a9⟩
 dsimp only [Ex.elim] at b2
 refine Z2 (Z0 (Z4 (vI a5) (by exact a9) rfl (Z5 (vI a5) rfl rfl (Z1 ?_))))
 refine X0 (vs := [vI a5]) Tryz.func273 ⟨rfl, trivial⟩ ?_
 obtain rfl := oi b2
 exact ⟨_, _, rfl, Z3, (St.dropA hS), rfl⟩
-- 
def Zg4 (K : Nat) (a0 : (List Int)) : Option (List Int) := (if ([] : List Int).length + a0.length ≤ 1099511627776 then some (([] : List Int) ++ a0) else none)
theorem Ye1 {a0 : (List Int)} {r : (List Int)} (q0 : Zg4 K a0 = some r) (hs0 : Z9 (Y6 .i64) H s0 a0) (hS : St H w L) :
 Calls Tryz.prog 183 #[s0] w (T2 (fun v G => (R.sl (Y6 .i64)).p (G.new H) v r) H L) := by
 have Z3 := Sub.refl H
 refine X3 Tryz.func183 rfl Tryz.ntmps183 rfl ?_
 unfold Zg4 at q0
 refine Z2 ?_
 refine Z0 ?_
 refine Z5 (Value.slice none 0 0) rfl rfl ?_
 refine Z1 ?_
 refine Z2 ?_
 refine Z2 ?_
 refine Z0 ?_
 refine Z4 (s0) rfl rfl ?_
 obtain ⟨ad, cu, ⟨hv0, _⟩, hx0⟩ := id hs0
 cases ad with
 | none =>
  have ha : a0 = [] := by
   rcases hx0 with h | ⟨b2, o2, cs2, E2, h, _⟩
   exact h
   cases h
  refine Xs0 Q0 hv0 rfl rfl ?_
  refine Z1 ?_
  refine Y0 rfl ?_
  refine Z2 ?_
  refine Z0 ?_
  refine Z5 (Value.slice none 0 0) rfl rfl ?_
  refine Z1 ?_
  refine X0 (vs := [Value.slice none 0 0]) Tryz.func183 ⟨rfl, trivial⟩ ?_
  subst ha
  rw [if_pos (by decide)] at q0
  obtain rfl := oi q0
  exact ⟨_, _, rfl, Z3, hS, Z9.nil⟩
 | some p =>
 refine Xs0 Q0 hv0 rfl rfl ?_
 refine Z1 ?_
 refine Z8 rfl ?_
 refine Y8 ?_
 refine Z2 ?_
 refine Z0 ?_
 refine Zq2 (τ := (Y6 .i64)) Q0 ze2 rfl hS rfl ?_
 intro _ w2 C3 ho4 hS
 have hS : St H w2 (C3 ++ L) := hS
 refine Z4 (s0) rfl rfl ?_
 by_cases hg6 : ([] : List Int).length + a0.length ≤ 1099511627776
 case neg => rw [if_neg hg6] at q0; cases q0
 rw [if_pos hg6] at q0
 refine N5 (τ := (Y6 .i64)) Xd5 rfl rfl rfl ho4 hS hs0 hg6 rfl ?_
 intro u7 w8 C9 ho10 hS
 have hS : St H w8 (C9 ++ L) := hS
 refine Z5 (u7) rfl rfl ?_
 refine Z1 ?_
 refine X0 (vs := [u7]) Tryz.func183 ⟨rfl, trivial⟩ ?_
 obtain ⟨H11, sb12, hS, hF14⟩ := W3.freezeF (τ := (Y6 .i64)) (H0 := H) ho10 hS Z3
 have hf13 := Z9.old hF14
 have hF14 : RdF (Y6 .i64) H H11 u7 (([] : List Int) ++ a0) := hF14
 have Z3 := Z3.trans sb12
 obtain rfl := oi q0
 exact ⟨_, _, rfl, Z3, hS, hF14⟩
def Yb2 (K : Nat) (a0 : (List Int)) : Option (List Int) := (if ([] : List Int).length + a0.length ≤ 1099511627776 then some (([] : List Int) ++ a0) else none)
theorem Xe4 {a0 : (List Int)} {r : (List Int)} (q0 : Yb2 K a0 = some r) (a5 : Z9 (Y6 .i64) H s0 a0) (hS : St H w L) :
 Calls Tryz.prog 240 #[s0] w (T2 (fun v G => (R.sl (Y6 .i64)).p G v r) H L) := by
 have Z3 := Sub.refl H
 refine X3 Tryz.func240 rfl Tryz.ntmps240 rfl ?_
 unfold Yb2 at q0
 refine Z2 (Z0 (Z5 (vN) rfl rfl (Z1 (Z2 (Z0 ?_)))))
 refine Zq2 (τ := (Y6 .i64)) Q0 ze2 rfl hS rfl ?_
 intro _ _ _ a6 hS
 refine Z4 (s0) rfl rfl ?_
 obtain ⟨a7, q0⟩ := gd q0
 refine N5 (τ := (Y6 .i64)) Xd5 rfl rfl rfl a6 hS a5 a7 rfl ?_
 intro u7 _ _ a1 hS
 refine Z5 (u7) rfl rfl (Z1 ?_)
 refine X0 (vs := [u7]) Tryz.func240 ⟨rfl, trivial⟩ ?_
 obtain ⟨_, a3, hS, a4⟩ := a1.freeze hS
 have Z3 := Z3.trans a3
 obtain rfl := oi q0
 exact ⟨_, _, rfl, Z3, hS, a4⟩
def Zm8 (K : Nat) (a0 : Int) : Option Int := some (((IntKind.i64.wrap (((a0).tmod 10007) + 10007))).tmod 10007)
theorem Yc8 {a0 : Int} {r : Int} (q0 : Zm8 K a0 = some r) (hS : St H w L) :
 Calls Tryz.prog 206 #[vI a0] w (T2 (fun v G => (R.int .i64).p G v r) H L) := by
 have Z3 := Sub.refl H
 refine X3 Tryz.func206 rfl Tryz.ntmps206 rfl ?_
 unfold Zm8 at q0
 refine Z2 (Z0 (Z5 (vI 0) rfl rfl (Z1 (Z2 (Z0 (Z4 (vI a0) rfl rfl ?_))))))
 refine Zk7 ((a0).tmod 10007) rfl rfl (by decide) rfl rfl ?_
 refine W8 (IntKind.i64.wrap (((a0).tmod 10007) + 10007)) rfl rfl rfl rfl ?_
 refine Zk7 (((IntKind.i64.wrap (((a0).tmod 10007) + 10007))).tmod 10007) rfl rfl (by decide) rfl rfl (Z5 (vI (((IntKind.i64.wrap (((a0).tmod 10007) + 10007))).tmod 10007)) rfl rfl (Z1 ?_))
 refine X0 (vs := [vI (((IntKind.i64.wrap (((a0).tmod 10007) + 10007))).tmod 10007)]) Tryz.func206 ⟨rfl, trivial⟩ ?_
 obtain rfl := oi q0
 exact ⟨_, _, rfl, Z3, hS, rfl⟩
end Go.Proofs.YtabofnehiclkiaaGreat
