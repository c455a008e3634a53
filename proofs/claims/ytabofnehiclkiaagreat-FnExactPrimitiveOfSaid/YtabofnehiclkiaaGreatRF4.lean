/- Walk, rules and plain laws. -/
import Derived.Test.YtabofnehiclkiaaGreatRTy
namespace Go.Proofs.YtabofnehiclkiaaGreat
open Go Go.Proofs.Tryz IntKind IntWalk List
set_option linter.all false
set_option maxRecDepth 100000
set_option maxHeartbeats 8000000
variable {K : Nat} {H : FH} {w : World} {L : OL} {s0 s1 s2 s3 s4 s5 s6 : Value}
structure Lk where
 k : Nat
 i : Nat
 e : Nat
 d : Nat
 q : FH → Value → Value → Prop
 qm : ∀ {H H' : FH} {u v : Value}, Sub H H' → q H u v → q H' u v
def Vi6 (lk : Lk) (l : List Oper) (m : Nat) (con : Con) : Prop := lk.k < m ∧ lk.i < m ∧ ((Q4 l []).getD lk.k 0).testBit lk.i = true ∧ (l[lk.k]?).bind (·.dst) = some lk.d ∧ (l[lk.i]?).bind (·.dst) = some lk.e ∧ lk.i ≠ lk.k ∧ con.by_ lk.k = none
def Wq6 (P : Program) (n : Nat) (l : List Oper) (m : Nat) (tab : Nat → MP) (con : Con) (lks : List Lk) (H : FH) (L : OL) (f0 : Fr) (j : Nat) (o : Oper) : Prop :=
 ∀ (f : Fr) (w : World) (H' : FH) (X : OL), Sub H H' → St H' w (X ++ L) → (∀ t, inD (l.take m) t = false → f t = f0 t) →
  (∀ i d, ((Q4 l []).getD j 0).testBit i = true → (l[i]?).bind (·.dst) = some d → (tab d).p H' (f d)) →
  (∀ k c, con.by_ k = some c → ((Q4 l []).getD j 0).testBit k = true → c.q H' (f c.d)) →
  X7 P n l.toArray (fun f' w' => ∃ d v H'', o.dst = some d ∧ f' = upd f d v ∧ Sub H' H'' ∧ St H'' w' ((tab d).res v ++ (X ++ L)) ∧ (tab d).p H'' v ∧ (∀ lk, lk ∈ lks → j = lk.k → lk.q H'' (f lk.e) v)) [o] f w
def Yr5 (P : Program) (n : Nat) (l : List Oper) (m : Nat) (tab : Nat → MP) (con : Con) (lks : List Lk) (H : FH) (L : OL) (f0 : Fr) (j : Nat) (o : Oper) : Prop :=
 match con.by_ j with
 | none => Wq6 P n l m tab con lks H L f0 j o
 | some c => Wj7 P n l m tab con H L f0 c.d c.x c.r c.q j o
theorem Ye0 {P : Program} {n : Nat} {l : List Oper} {m : Nat} {tab : Nat → MP} {con : Con} {lks : List Lk} {H : FH} {L : OL} {f0 : Fr} {j : Nat} {o : Oper} {r : List Oper} (hc : con.by_ j = none)
 (h : Wq6 P n l m tab con lks H L f0 j o) (h' : M6 (Yr5 P n l m tab con lks H L f0) r (j + 1)) : M6 (Yr5 P n l m tab con lks H L f0) (o :: r) j := by
 refine ⟨?_, h'⟩
 unfold Yr5; rw [hc]; exact h
section
variable {P : Program} {n : Nat} {l : List Oper} {m : Nat} {tab : Nat → MP} {con : Con} {lks : List Lk} {H : FH} {L : OL} {f0 : Fr} {J : Fr → World → Prop}
theorem Wl0 (hok : Ze8 l m = true) (hco : Zx9 con l m = true) (hml : m ≤ l.length) (hlk : ∀ lk, lk ∈ lks → Vi6 lk l m con) (hq : M6 (Yr5 P n l m tab con lks H L f0) (l.take m) 0)
 (ht : ∀ (f : Fr) (w : World) (H' : FH), Sub H H' → St H' w ((range m).flatMap (V5 tab con l f fun _ => true) ++ L) → (∀ t, inD (l.take m) t = false → f t = f0 t) →
  (∀ i d, i < m → (l[i]?).bind (·.dst) = some d → (tab d).p H' (f d)) → (∀ k c, con.by_ k = some c → c.q H' (f c.d)) → (∀ lk, lk ∈ lks → lk.q H' (f lk.e) (f lk.d)) → X7 P n l.toArray J (l.drop m) f w) :
 ∀ (fuel : Nat) (listed : Array Bool) (a : Act) (w : World) (f : Fr) (H' : FH), listed.size = l.length → listed.toList.countP id + fuel = l.length →
  (∀ i, listed.getD i false = true → i < m) → Yb8 l listed → Zh2 n a f → Sub H H' → St H' w ((range m).flatMap (V5 tab con l f fun i => listed.getD i false) ++ L) → (∀ t, inD (l.take m) t = false → f t = f0 t) →
  (∀ i d, listed.getD i false = true → (l[i]?).bind (·.dst) = some d → (tab d).p H' (f d)) → (∀ k c, con.by_ k = some c → listed.getD k false = true → c.q H' (f c.d)) → (∀ lk, lk ∈ lks → listed.getD lk.k false = true → lk.q H' (f lk.e) (f lk.d)) → wpAny P .any l.toArray (Yb1 n J) fuel listed a w := by
 intro fuel
 induction fuel with
 | zero =>
  intro listed a w f H' hs hcnt hlt hc ha Z4 hS hb hv hqs hlq
  have hall := Zu0 (xs := listed.toList) (by have := Array.length_toList (xs := listed); omega)
  have hget : ∀ i, i < l.length → listed.getD i false = true := fun i hi => by
   have := hall i (by simp; omega)
   rw [getD_eq_getElem?_getD] at this
   rw [Array.getD_eq_getD_getElem?]
   simpa using this
  have hme : m = l.length := by
   rcases Nat.lt_or_ge m l.length with h | h
   have := hlt m (hget m h); omega
   omega
  refine ⟨?_, ?_⟩
  cases hr : Region.ready .any l.toArray listed with
  | nil => rfl
  | cons j r =>
   obtain ⟨o, ho, hj, hf, _⟩ := Zd7 hs (by rw [hr]; exact mem_cons_self ..)
   rw [hget j (by omega)] at hf; cases hf
  have hS' : St H' w ((range m).flatMap (V5 tab con l f fun _ => true) ++ L) := by
   have : (range m).flatMap (V5 tab con l f fun i => listed.getD i false) = (range m).flatMap (V5 tab con l f fun _ => true) := by
    refine Zg9 _ (fun i hi => ?_)
    have e := hget i (by have := mem_range.1 hi; omega)
    have e2 : ∀ c, con.of i = some c → listed.getD c.k false = true := fun c hc => hget _ (by have := (M0 hco hc).2.2.1; omega)
    simp only [V5, e]
    cases hdi : (l[i]?).bind (·.dst) with
    | none => rfl
    | some d =>
     cases hof : con.of i with
     | none => rfl
     | some c => simp only [e2 c hof]
   rw [← this]; exact hS
  have := ht f w H' Z4 hS' hb (fun i d hi hd => hv i d (hget i (by omega)) hd) (fun k c hk => hqs k c hk (hget k (by have := (Zg6 hco hk).2.2.1; omega))) (fun lk hlm => hlq lk hlm (hget lk.k (by have := (hlk lk hlm).1; omega))) a ha
  rw [hme, drop_length] at this
  exact this
 | succ fuel ih =>
  intro listed a w f H' hs hcnt hlt hc ha Z4 hS hb hv hqs hlq
  by_cases hall : ∀ i, i < m → listed.getD i false = true
  have hk : ∀ i, listed.getD i false = decide (i < m) := by
   intro i
   by_cases h : i < m
   rw [hall i h]; exact (decide_eq_true h).symm
   cases hg : listed.getD i false with
   | false => exact (decide_eq_false h).symm
   | true => exact absurd (hlt i hg) h
  have hcm : listed.toList.countP id = m := by
   have : ∀ (xs : List Bool) (k : Nat), k ≤ xs.length → (∀ i, xs.getD i false = decide (i < k)) → xs.countP id = k := by
    intro xs
    induction xs with
    | nil => intro k hk _; simp at hk; subst hk; rfl
    | cons x xs ihx =>
     intro k hk h
     have h0 := h 0
     simp at h0
     cases k with
     | zero =>
      have := ihx 0 (by omega) (fun i => by have := h (i + 1); simpa using this)
      have h0 : x = false := by simpa using h0
      subst h0
      simp [countP_cons, this]
     | succ k =>
      have := ihx k (by simpa using hk) (fun i => by have := h (i + 1); simpa using this)
      have h0 : x = true := by simpa using h0
      subst h0
      simp [countP_cons, this]
   refine this _ m (by simp; omega) (fun i => ?_)
   rw [← hk i, getD_eq_getElem?_getD, Array.getD_eq_getD_getElem?]
   simp
  have hS' : St H' w ((range m).flatMap (V5 tab con l f fun _ => true) ++ L) := by
   have : (range m).flatMap (V5 tab con l f fun i => listed.getD i false) = (range m).flatMap (V5 tab con l f fun _ => true) := by
    refine Zg9 _ (fun i hi => ?_)
    have e := hall i (mem_range.1 hi)
    have e2 : ∀ c, con.of i = some c → listed.getD c.k false = true := fun c hc => hall _ (M0 hco hc).2.2.1
    simp only [V5, e]
    cases hdi : (l[i]?).bind (·.dst) with
    | none => rfl
    | some d =>
     cases hof : con.of i with
     | none => rfl
     | some c => simp only [e2 c hof]
   rw [← this]; exact hS
  exact Yc5 hok (fuel + 1) m listed a w hs (by omega) (Nat.le_refl _) hk (ht f w H' Z4 hS' hb (fun i d hi hd => hv i d (hall i hi) hd) (fun k c hk => hqs k c hk (hall k (Zg6 hco hk).2.2.1)) (fun lk hlm => hlq lk hlm (hall _ (hlk lk hlm).1)) a ha)
  refine ⟨fun hr => ?_, fun j hj => ?_⟩
  exact absurd (fun i hi => Zy2 hs (Zn5 hok) hr i (by omega)) hall
  obtain ⟨o, ho, hjs, hf, he⟩ := Zd7 hs hj
  obtain ⟨hmk, hc'⟩ := Zv0 ho hc hjs he
  have hjl : j < l.length := by omega
  have hjm : j < m := by
   rcases Nat.lt_or_ge j m with h | h
   exact h
   exact absurd (fun i hi => hmk i (Zs3 hok j h hjl i (by omega))) hall
  have hstep := hq.at (j := j) (o := o) (by rw [getElem?_take, if_pos hjm]; exact ho)
  rw [Nat.zero_add] at hstep
  have hset : ∀ i, i ≠ j → (listed.setIfInBounds j true).getD i false = listed.getD i false := fun i hij => by
   rw [Array.getD_eq_getD_getElem?, Array.getD_eq_getD_getElem?, Array.getElem?_setIfInBounds, if_neg (fun h => hij h.symm)]
  have hsj : (listed.setIfInBounds j true).getD j false = true := by rw [Array.getD_eq_getD_getElem?, Array.getElem?_setIfInBounds]; simp [hjs]
  have hx : listed.toList[j]? = some false := by
   rw [Array.getD_eq_getD_getElem?] at hf
   simpa [hjs] using hf
  have hcnt' : (listed.setIfInBounds j true).toList.countP id + fuel = l.length := by
   have := Zu9 listed.toList j hx
   rw [Array.toList_setIfInBounds]; rw [this]; omega
  have hlt' : ∀ i, (listed.setIfInBounds j true).getD i false = true → i < m := by
   intro i hi
   rcases F2 hi with rfl | h
   exact hjm
   exact hlt i h
  unfold Yr5 at hstep
  cases hby : con.by_ j with
  | none =>
   rw [hby] at hstep
   refine L5 ho ha (hstep f w H' _ Z4 hS hb (fun i d hi hd => hv i d (hmk i hi) hd) (fun k c hk hi => hqs k c hk (hmk k hi))) ?_
   rintro f' a' w' ha' ⟨d, v, H'', hd, rfl, hs2, hS2, hp, hln⟩
   have hupd : ∀ t, upd f d v t = if t = d then v else f t := by
    intro t
    unfold upd
    by_cases e : t = d
    subst e; simp
    rw [if_neg e]
    cases hq : Nat.beq t d with
    | false => rfl
    | true => exact absurd (Nat.eq_of_beq_eq_true hq) e
   refine ih (listed.setIfInBounds j true) a' w' (upd f d v) H'' (by simpa using hs) hcnt' hlt' hc' ha' (Z4.trans hs2) ?_ ?_ ?_ ?_ ?_
   rw [← append_assoc] at hS2
   refine hS2.perm (List.Perm.append_right L ?_)
   have hdj : (l[j]?).bind (·.dst) = some d := by rw [ho]; exact hd
   have key := Yb6 (g := V5 tab con l f fun i => listed.getD i false) (g' := V5 tab con l (upd f d v) fun i => (listed.setIfInBounds j true).getD i false) (j := j) (range m) nodup_range (mem_range.2 hjm)
    (by simp only [V5, hf]; rfl)
    (by
     intro i hij
     simp only [V5, hset i hij]
     split
     rename_i hli
     cases hdi : (l[i]?).bind (·.dst) with
     | none => rfl
     | some c =>
      have hne : c ≠ d := by
       have hil := hlt i hli
       refine L8 (P8 hok) (i := i) (j := j) hij ?_ ?_
       rw [getElem?_take, if_pos hil]; exact hdi
       rw [getElem?_take, if_pos hjm]; exact hdj
      simp only
      rw [hupd, if_neg hne]
      cases hof : con.of i with
      | none => rfl
      | some e =>
       have hne2 : e.k ≠ j := by
        intro he
        have := (M0 hco hof).2.1
        rw [he, hby] at this; cases this
       simp only [hset e.k hne2]
       by_cases hoe : listed.getD e.k false = true
       case neg => rw [if_neg hoe, if_neg hoe]
       case pos =>
        rw [if_pos hoe, if_pos hoe]
        obtain ⟨_, _, _, _, _, _, h1, h2, h3⟩ := M0 hco hof
        have hli2 := hc _ hoe _ h2
        have hxd : e.x ≠ d := by
         refine L8 (P8 hok) (i := e.i) (j := j) (fun he => by rw [he, hf] at hli2; cases hli2) ?_ ?_
         rw [getElem?_take, if_pos h1]; exact h3
         rw [getElem?_take, if_pos hjm]; exact hdj
        rw [hupd, if_neg hxd]
     rfl)
   have hj' : V5 tab con l (upd f d v) (fun i => (listed.setIfInBounds j true).getD i false) j = (tab d).res v := by
    simp only [V5, hsj, hdj]
    cases hof : con.of j with
    | none => simp [hupd]
    | some e =>
     obtain ⟨_, hb1, _, _, hb2, _, _⟩ := M0 hco hof
     have hej : e.k ≠ j := by
      intro he; rw [he, hby] at hb1; cases hb1
     have hoff : listed.getD e.k false = false := by
      cases hq : listed.getD e.k false with
      | false => rfl
      | true => exact absurd (hc _ hq j hb2) (by rw [hf]; simp)
     simp [hset _ hej, hoff, hupd]
   rw [hj'] at key
   exact key
   intro t ht'
   rw [hupd, if_neg, hb t ht']
   rintro rfl
   have : inD (l.take m) t = true := by
    unfold inD
    refine any_eq_true.2 ⟨o, mem_of_getElem? (i := j) (by rw [getElem?_take, if_pos hjm]; exact ho), ?_⟩
    rw [hd]; simp
   rw [this] at ht'; cases ht'
   intro i d' hi hd'
   rw [hupd]
   by_cases e : d' = d
   subst e; rw [if_pos rfl]; exact hp
   rw [if_neg e]
   rcases F2 hi with rfl | h
   rw [ho] at hd'
   simp only [Option.bind_some] at hd'
   rw [hd] at hd'
   exact absurd (Option.some.inj hd').symm e
   exact (tab d').mono hs2 (hv i d' h hd')
   intro k c hk hi
   have hkj : k ≠ j := by
    intro e; rw [e, hby] at hk; cases hk
   rw [hset k hkj] at hi
   obtain ⟨hk0, _, _, him, hbit, hdst⟩ := Zg6 hco hk
   have hli := hc _ hi _ hbit
   have hne : c.d ≠ d := by
    refine L8 (P8 hok) (i := c.mk_) (j := j) (fun he => by rw [he, hf] at hli; cases hli) ?_ ?_
    rw [getElem?_take, if_pos him]; exact hdst
    rw [getElem?_take, if_pos hjm, ho]; exact hd
   rw [hupd, if_neg hne]
   exact c.qm hs2 (hqs k c hk hi)
   intro lk hlm hi
   obtain ⟨hk1, hi1, hbit, hdk, hde, hne, hbk⟩ := hlk lk hlm
   have hdj : (l[j]?).bind (·.dst) = some d := by rw [ho]; exact hd
   by_cases hjk : j = lk.k
   subst hjk
   have e1 : d = lk.d := by rw [hdk] at hdj; exact (Option.some.inj hdj).symm
   subst e1
   have e2 : lk.e ≠ lk.d := L8 (P8 hok) (i := lk.i) (j := lk.k) hne (by rw [getElem?_take, if_pos hi1]; exact hde) (by rw [getElem?_take, if_pos hk1]; exact hdk)
   rw [hupd, hupd, if_neg e2, if_pos U]
   exact hln lk hlm U
   rcases F2 hi with h | h
   exact absurd h.symm hjk
   have hli := hc _ h _ hbit
   have n1 : lk.d ≠ d := L8 (P8 hok) (i := lk.k) (j := j) (fun he => hjk he.symm) (by rw [getElem?_take, if_pos hk1]; exact hdk) (by rw [getElem?_take, if_pos hjm]; exact hdj)
   have n2 : lk.e ≠ d := L8 (P8 hok) (i := lk.i) (j := j) (fun he => by rw [he, hf] at hli; cases hli) (by rw [getElem?_take, if_pos hi1]; exact hde) (by rw [getElem?_take, if_pos hjm]; exact hdj)
   rw [hupd, hupd, if_neg n1, if_neg n2]
   exact lk.qm hs2 (hlq lk hlm h)
  | some c =>
   rw [hby] at hstep
   obtain ⟨hc1, hof, _, him, hbit, hdst⟩ := Zg6 hco hby
   have hij : c.mk_ ≠ j := by
    intro he
    have := hmk _ hbit
    rw [he, hf] at this; cases this
   have honi := hmk _ hbit
   have hgi : V5 tab con l f (fun i => listed.getD i false) c.mk_ = (tab c.d).res (f c.d) := by
    simp only [V5, honi, hdst, hof, hc1, hf]; rfl
   have hsp := Zn2 (g := V5 tab con l f fun i => listed.getD i false) (j := c.mk_) (range m) nodup_range (mem_range.2 him)
   rw [hgi] at hsp
   have hS1 := hS.perm (List.Perm.append_right L hsp.symm)
   rw [append_assoc] at hS1
   refine L5 ho ha (hstep f w H' _ Z4 hS1 hb (fun i d hi hd => hv i d (hmk i hi) hd) (fun k c hk hi => hqs k c hk (hmk k hi))) ?_
   rintro f' a' w' ha' ⟨H'', hd, rfl, hs2, hS2, hq2⟩
   refine ih (listed.setIfInBounds j true) a' w' f' H'' (by simpa using hs) hcnt' hlt' hc' ha' (Z4.trans hs2) ?_ hb ?_ ?_ ?_
   rw [← append_assoc] at hS2
   refine hS2.perm (List.Perm.append_right L ?_)
   have hsp2 := Zn2 (g := V5 tab con l f' fun i => (listed.setIfInBounds j true).getD i false) (j := c.mk_) (range m) nodup_range (mem_range.2 him)
   have hgi2 : V5 tab con l f' (fun i => (listed.setIfInBounds j true).getD i false) c.mk_ = c.r (f' c.x) (f' c.d) := by
    simp only [V5, hset _ hij, honi, hdst, hof, hc1, hsj]; rfl
   rw [hgi2] at hsp2
   have hrest : ((range m).flatMap fun i => if i = c.mk_ then [] else V5 tab con l f' (fun i => (listed.setIfInBounds j true).getD i false) i) = (range m).flatMap fun i => if i = c.mk_ then [] else V5 tab con l f' (fun i => listed.getD i false) i := by
    refine Zg9 _ (fun i hi => ?_)
    by_cases e : i = c.mk_
    rw [if_pos e, if_pos e]
    rw [if_neg e, if_neg e]
    by_cases eij : i = j
    subst eij
    have : (l[i]?).bind (·.dst) = none := by rw [ho]; exact hd
    simp only [V5, this, hf, hsj]; rfl
    simp only [V5, hset i eij]
    cases hdi : (l[i]?).bind (·.dst) with
    | none => rfl
    | some d =>
     cases he' : con.of i with
     | none => rfl
     | some e' =>
      have hne2 : e'.k ≠ j := by
       intro hk
       have h1 := (M0 hco he').2.1
       rw [hk, hby] at h1
       have h2 := (M0 hco he').1
       rw [← Option.some.inj h1] at h2
       exact e h2.symm
      simp only [hset e'.k hne2]
   rw [hrest] at hsp2
   exact hsp2
   intro i d' hi hd'
   rcases F2 hi with rfl | h
   rw [ho] at hd'
   simp only [Option.bind_some] at hd'
   rw [hd] at hd'; cases hd'
   exact (tab d').mono hs2 (hv i d' h hd')
   intro k e hk hi
   by_cases hkj : k = j
   subst hkj
   rw [hby] at hk; cases hk
   exact hq2
   rw [hset k hkj] at hi
   exact e.qm hs2 (hqs k e hk hi)
   intro lk hlm hi
   rcases F2 hi with h | h
   have := (hlk lk hlm).2.2.2.2.2.2
   rw [h, hby] at this; cases this
   exact lk.qm hs2 (hlq lk hlm h)
end
theorem Wp2 {P : Program} {n : Nat} {g : FuncId} {R : Ending → World → Prop} {K : List Item} {l : List Oper} {id : Nat} {H : FH} {L : OL} {f0 : Fr} {w : World}
 (m : Nat) (tab : Nat → MP) (con : Con) (lks : List Lk) (hmix : P.follows .mixedOrders = true) (hok : Ze8 l m = true) (hco : Zx9 con l m = true) (hml : Nat.ble m l.length = true) (hS : St H w L)
 (hlk : ∀ lk, lk ∈ lks → Vi6 lk l m con) (hq : M6 (Yr5 P n l m tab con lks H L f0) (l.take m) 0)
 (ht : ∀ (f : Fr) (w : World) (H' : FH), Sub H H' → St H' w ((range m).flatMap (V5 tab con l f fun _ => true) ++ L) → (∀ t, inD (l.take m) t = false → f t = f0 t) →
  (∀ i d, i < m → (l[i]?).bind (·.dst) = some d → (tab d).p H' (f d)) → (∀ k c, con.by_ k = some c → c.q H' (f c.d)) → (∀ lk, lk ∈ lks → lk.q H' (f lk.e) (f lk.d)) → X7 P n l.toArray (fun f' w' => Run P n g R K f' w') (l.drop m) f w) :
 Run P n g R (.code (.region id l.toArray true) :: K) f0 w := by
 intro a ha b cs hb hk
 have hml' : m ≤ l.length := by simpa [Nat.ble_eq] using hml
 have hwp : (Code.region id l.toArray true).wp P (Yb1 n (fun f' w' => Run P n g R K f' w')) a w := by
  refine wp_region_any hmix ?_
  have := Wl0 (P := P) (J := fun f' w' => Run P n g R K f' w') hok hco hml' hlk hq ht l.length (Array.replicate l.length false) a w.drew f0 H (by simp) (by simp [countP_replicate]) ?_ ?_ ha (Sub.refl _) ?_ (fun _ _ => rfl) ?_ ?_ ?_
  simpa using this
  intro i hi; rw [Array.getD_eq_getD_getElem?, Array.getElem?_replicate] at hi; split at hi <;> simp at hi
  intro i hi; rw [Array.getD_eq_getD_getElem?, Array.getElem?_replicate] at hi; split at hi <;> simp at hi
  have : (range m).flatMap (V5 tab con l f0 fun i => (Array.replicate l.length false).getD i false) = [] := by
   rw [flatMap_eq_nil_iff]
   intro i _
   have : (Array.replicate l.length false).getD i false = false := by rw [Array.getD_eq_getD_getElem?, Array.getElem?_replicate]; split <;> rfl
   simp only [V5, this]; rfl
  rw [this]; exact hS.drew
  intro i d hi; rw [Array.getD_eq_getD_getElem?, Array.getElem?_replicate] at hi; split at hi <;> simp at hi
  intro k c _ hi; rw [Array.getD_eq_getD_getElem?, Array.getElem?_replicate] at hi; split at hi <;> simp at hi
  intro lk _ hi; rw [Array.getD_eq_getD_getElem?, Array.getElem?_replicate] at hi; split at hi <;> simp at hi
 obtain ⟨e, a', w', ⟨rfl, f', ha', hJ⟩, harr⟩ := hwp b K cs
 obtain ⟨e, w'', fr, hR, hc, hf, hl⟩ := hJ a' ha' b cs hb hk
 exact ⟨e, w'', fr, hR, .of_steps harr hc, hf, hl⟩
def Zc5 (K : Nat) (g8 : Int → Int → Option (Ex (A8 × Int) Int)) (a4 a6 : Int) (b5 : Bool) : Option (Ex (A8 × Int) Int) := (if b5 = true then g8 (i64.wrap (0 - a6)) (i64.wrap (a4 + 1)) else g8 a6 (i64.wrap (a4 + 1)))
def B0 (K : Nat) (g8 : Int → Int → Option (Ex (A8 × Int) Int)) (a0 : List Int) (a1 : A8) (a4 a6 : Int) (b6 : Bool) : Option (Ex (A8 × Int) Int) := (if b6 = true then (if 0 ≤ a4 then (if a4 < (a0.length : Int) then (if (((rd a0 a4)).tmod 2) = 0 then Zc5 K g8 a4 a6 false else (if a4 < 8 then Zc5 K g8 a4 a6 (decide ((Y5 a1 a4) = 1)) else none)) else none) else none) else some (.go a6))
def R8 (K : Nat) (a0 : List Int) (a1 a2 : A8) (a3 : Int) : Nat → Int → Int → Option (Ex (A8 × Int) Int)
 | 0, _, _ => none
 | k + 1, a6, a4 => (if a4 < (a0.length : Int) then B0 K (R8 K a0 a1 a2 a3 k) a0 a1 a4 a6 (decide ((Y5 a2 a3) = 1)) else B0 K (R8 K a0 a1 a2 a3 k) a0 a1 a4 a6 false)
def Q6 (K : Nat) (a0 : List Int) (a1 a2 : A8) : Nat → Int → A8 → Int → Option (Ex (A8 × Int) (Int × A8))
 | 0, _, _, _ => none
 | k + 1, a3, a5, b8 => (if a3 < (a0.length : Int) then (if a3 < 8 then (if (((rd a0 a3)).tmod 2) = 0 then Q6 K a0 a1 a2 k (a3 + 1) (T3 a5 a3 (u8.wrap ((Y5 a1 a3) + (Y5 a2 a3)))) b8 else (if 1 < (Y5 (T3 a5 a3 (u8.wrap ((Y5 a1 a3) + (Y5 a2 a3)))) a3) then some (.ret ((fun _ => 0), 0)) else ((R8 K a0 a1 a2 a3 K b8 (a3 + 1)).bind (Ex.elim (fun r => some (.ret r)) (fun s => (fun (d1 : Int) => Q6 K a0 a1 a2 k (a3 + 1) (T3 a5 a3 (u8.wrap ((Y5 a1 a3) + (Y5 a2 a3)))) d1) s))))) else none) else some (.go (b8, a5)))
def Zp4 (K : Nat) (a0 : List Int) (a1 a2 : A8) : Option (A8 × Int) := ((Q6 K a0 a1 a2 K 0 (fun _ => 0) 1).bind (Ex.elim (fun r => some r) (fun s => (fun (c5 : Int) (a9 : A8) => some (a9, c5)) s.1 s.2)))
theorem Yw6 {a0 : List Int} {a1 a2 : A8} {r : (A8 × Int)} (q0 : Zp4 K a0 a1 a2 = some r) (b0 : Y3 (Y4 .i64) H s0 a0) (hS : St H w L) :
 Calls prog 278 #[s0, vA (Z7 .u8 a1), vA (Z7 .u8 a2)] w (T4 (fun v G => (R.t2 (R.agg (Q5 .u8)) (R.int .i64)).p G v r) H L) := by
 have Z4 := Sub.refl H
 refine X0 func278 U ntmps278 U ?_
 unfold Zp4 at q0
 refine Z1 (Z0 (T8 (v := vA (Z7 .u8 a1)) (Z7 .u8 a1).toArray U U hS U (fun b1 _ hS => T8 (v := vA (Z7 .u8 a2)) (Z7 .u8 a2).toArray U U hS U (fun b4 _ hS => U5 (z := vA (Z7 .u8 (fun _ => 0))) (Z7 .u8 (fun _ => 0)).toArray Yn9.zero U hS U (fun b7 _ hS => Z5 (vI 0) U U (Z2 (Z1 (Z0 (M4 (vA (Z7 .u8 (fun _ => 0))) Wj8 U (U5 (z := vA (Z7 .u8 (fun _ => 0))) (Z7 .u8 (fun _ => 0)).toArray Yn9.zero U hS U (fun c1 _ hS => W1 (v := vA (Z7 .u8 (fun _ => 0))) (vs := (Z7 .u8 (fun _ => 0)).toArray) (cs := (Z7 .u8 (fun _ => 0)).toArray) P7 U U U hS U (R7 .u8 (fun _ => 0)) U (fun _ hS => Z5 (vI 1) U U (Z2 (Z1 (Z1 (Z0 (Z5 (vI 0) U U (Z2 (Y8 ?_)))))))))))))))))))
 obtain ⟨i5, a7, g1⟩ := bSm q0
 refine W3 (id := 0) (fun k f w => ∃ a3 a5 b8 H1, Q6 K a0 a1 a2 k a3 a5 b8 = some i5 ∧ Sub H H1 ∧ St H1 w ([(c1, cA (Z7 .u8 a5) 72)] ++ ([(b7, cA (Z7 .u8 (fun _ => 0)) 72)] ++ ([(b4, cA (Z7 .u8 a2) 72)] ++ ([(b1, cA (Z7 .u8 a1) 72)] ++ L)))) ∧ 0 ≤ a3 ∧ Y3 (Y4 .i64) H1 s0 a0 ∧ tv f 0 = s0 ∧ tv f 4 = vP b1 ∧ tv f 5 = vP b4 ∧ tv f 6 = vP b7 ∧ tv f 8 = vP c1 ∧ tv f 9 = vI b8 ∧ tv f 10 = vI a3) (fun f w => ∃ c5 a9 H1, i5 = .go (c5, a9) ∧ Sub H H1 ∧ St H1 w ([(c1, cA (Z7 .u8 a9) 72)] ++ ([(b7, cA (Z7 .u8 (fun _ => 0)) 72)] ++ ([(b4, cA (Z7 .u8 a2) 72)] ++ ([(b1, cA (Z7 .u8 a1) 72)] ++ L)))) ∧ tv f 6 = vP b7 ∧ tv f 8 = vP c1 ∧ tv f 9 = vI c5) U ?_ ?_ K ?_ ?_
 rintro f w ⟨a3, a5, b8, H1, a7, _⟩
 rw [Q6] at a7; cases a7
 rintro k _ _ j9 k4 ⟨a3, a5, b8, k1, a7, Z4, hS, _, b0, e5, e6, e7, e8, d2, e9, b9⟩
 rw [Q6] at a7
 refine Z1 (Z1 (Z0 (Z3 (vI a3) (by exact b9) U (Z3 s0 (by exact e5) U ?_))))
 have k7 := b0.bound
 refine X9 T1 U b0 U (V4 (k := .i64) (a := a3) (b := (a0.length : Int)) U U U (Z2 ?_))
 obtain ⟨h0, a7⟩ | ⟨h0, a7⟩ := ic a7
 refine Z8 (bT h0 U) (Y6 (Z1 (Y8 (Z1 ?_))))
 obtain ⟨_, a7⟩ := gd a7
 refine W6 9 (S8 [mE 19 (vI a3), mE 20 (vI a3), mE 21 (vQ b1 (0 + (a3).toNat * 1)), mE 22 (Value.int .u8 (Y5 a1 a3)), mE 23 (vI a3), mE 24 (vQ b4 (0 + (a3).toNat * 1)), mE 25 (Value.int .u8 (Y5 a2 a3)), mE 26 (Value.int .u8 (u8.wrap ((Y5 a1 a3) + (Y5 a2 a3)))), mE 27 (vQ c1 (0 + (a3).toNat * 1))]) [] mixed U U U hS (U1 (X4 fun S B => Z3 (vI a3) (evT (B 10 U) b9) U (qz S)) (X4 fun S B => Z3 (vI a3) (evT (B 10 U) b9) U (qz S)) (K6 fun S B V => U3 Zh5 (evT (B 4 U) e6) (eM (V 1 20 U U)) (by omega) (by omega) U (qz S)) (Y7 fun S V => Y1 (Value.int .u8 (Y5 a1 a3)) ty5 (eM (V 2 21 U U)) (S.get (o := cA (Z7 .u8 a1) 72) (mR (mR (mR (mR mL))))) (I1 [] [] (by omega) (by omega)) U (qz S)) (X4 fun S B => Z3 (vI a3) (evT (B 10 U) b9) U (qz S)) (K6 fun S B V => U3 Zh5 (evT (B 5 U) e7) (eM (V 4 23 U U)) (by omega) (by omega) U (qz S)) (Y7 fun S V => Y1 (Value.int .u8 (Y5 a2 a3)) ty5 (eM (V 5 24 U U)) (S.get (o := cA (Z7 .u8 a2) 72) (mR (mR (mR mL)))) (I1 [] [] (by omega) (by omega)) U (qz S)) (Y7 fun S V => W4 (u8.wrap ((Y5 a1 a3) + (Y5 a2 a3))) (eM (V 3 22 U U)) (eM (V 6 25 U U)) U U (qz S)) (I2 (K6 fun S B V => U3 Zh5 (evT (B 8 U) d2) (eM (V 0 19 U U)) (by omega) (by omega) U (qz S)) W9)) ?_
 intro _ k2 h1 h5 hS c3 h6 hcq
 have hS : St h1 k2 ([(c1, cA (Z7 .u8 a5) 72)] ++ _) := hS
 have Z4 := Z4.trans h5
 have b0 := b0.mono h5
 have h2 := evT (c3 0 U) e5
 have i6 := evT (c3 4 U) e6
 have i7 := evT (c3 5 U) e7
 have g2 := evT (c3 6 U) e8
 have h3 := evT (c3 8 U) d2
 have i8 := evT (c3 9 U) e9
 have d9 := evT (c3 10 U) b9
 refine J7 (v := Value.int .u8 (u8.wrap ((Y5 a1 a3) + (Y5 a2 a3)))) (cs := (Z7 .u8 a5).toArray) (cs' := (Z7 .u8 (T3 a5 a3 (u8.wrap ((Y5 a1 a3) + (Y5 a2 a3))))).toArray) ty5 (by exact (eM (h6 8 27 (by decide) U))) (by exact (eM (h6 7 26 (by decide) U))) hS U (Zv6 U) (by simp [Z7, M5]; omega) (Zj0 (by omega) (by omega)) fun _ hS => Z2 (Z1 (Z1 (Z0 (Z3 s0 (by exact h2) U (Z3 (vI a3) (by exact d9) U ?_)))))
 obtain ⟨_, _, _, _, _, j3, j4, rfl, j5⟩ := b0.elem (i := a3) (by omega) (by omega)
 refine X6 T1 U U j3 U (by omega) (by omega) U (Y1 (vI (rd a0 a3)) ty2 U (hS.froz _ _ j4) (j5 0 (show 0 < 1 by decide)) U (Zd4 (((rd a0 a3)).tmod 2) U U (by decide) U U (Zb2 (k := .i64) (a := (((rd a0 a3)).tmod 2)) (b := 0) U U U (Z2 ?_))))
 obtain ⟨g3, a7⟩ | ⟨g3, a7⟩ := ic a7
 refine Z8 (bT g3 U) (W2 U (Z0 (Z3 (vI a3) (by exact d9) U (W4 (a3 + 1) U U (i64_in _ (by omega)) U (Z5 (vI (a3 + 1)) U U (Z2 (j9 _ _ ⟨(a3 + 1), (T3 a5 a3 (u8.wrap ((Y5 a1 a3) + (Y5 a2 a3)))), b8, h1, a7, Z4, hS, (by omega), b0, h2, i6, i7, g2, h3, i8, U⟩)))))))
 refine Z6 (bF g3 U) (Y6 (Z1 (Z1 (Z0 (Z3 (vI a3) (by exact d9) U (U3 Zh5 (by exact h3) U (by omega) (by omega) U (Y1 (Value.int .u8 (Y5 (T3 a5 a3 (u8.wrap ((Y5 a1 a3) + (Y5 a2 a3)))) a3)) ty5 U (hS.get (o := cA (Z7 .u8 (T3 a5 a3 (u8.wrap ((Y5 a1 a3) + (Y5 a2 a3))))) 72) mL) (I1 [] [] (by omega) (by omega)) U (A0 (k := .u8) (a := (Y5 (T3 a5 a3 (u8.wrap ((Y5 a1 a3) + (Y5 a2 a3)))) a3)) (b := 1) U U U (Z2 ?_)))))))))
 obtain ⟨g4, a7⟩ | ⟨g4, a7⟩ := ic a7
 refine Z8 (bT g4 U) (Z1 (Z0 (M4 (vA (Z7 .u8 (fun _ => 0))) Wj8 U ?_)))
 have hS := hS.perm R5
 refine W1 (v := vA (Z7 .u8 (fun _ => 0))) (vs := (Z7 .u8 (fun _ => 0)).toArray) (cs := (Z7 .u8 (fun _ => 0)).toArray) P7 (by exact g2) U U hS U (R7 .u8 (fun _ => 0)) U ?_
 intro _ hS
 have hS := hS.perm R5.symm
 refine Z5 (vI 0) U U (Z2 (Y9 (vs := [vA (Z7 .u8 (fun _ => 0)), vI 0]) func278 ⟨⟨_, (by exact g2), T9 P7 (hS.get (mR mL)) U⟩, U, trivial⟩ ?_))
 cases a7
 dsimp only [Ex.elim] at g1
 cases g1
 exact ⟨_, _, U, Z4, (St.dA (St.dA (St.dA (St.dA hS)))), ⟨_, _, U, ⟨_, U, U⟩, U⟩⟩
 refine Z6 (bF g4 U) (Y6 (Z1 (Z0 (Z3 (vI a3) (by exact d9) U (W4 (a3 + 1) U U (i64_in _ (by omega)) U (Z5 (vI (a3 + 1)) U U (Z2 (Y8 ?_))))))))
 obtain ⟨g5, c0, i9⟩ := bSm a7
 refine W3 (id := 2) (fun k f w => ∃ a6 a4 H1, R8 K a0 a1 a2 a3 k a6 a4 = some g5 ∧ Sub H H1 ∧ St H1 w ([(c1, cA (Z7 .u8 (T3 a5 a3 (u8.wrap ((Y5 a1 a3) + (Y5 a2 a3))))) 72)] ++ ([(b7, cA (Z7 .u8 (fun _ => 0)) 72)] ++ ([(b4, cA (Z7 .u8 a2) 72)] ++ ([(b1, cA (Z7 .u8 a1) 72)] ++ L)))) ∧ Y3 (Y4 .i64) H1 s0 a0 ∧ tv f 0 = s0 ∧ tv f 4 = vP b1 ∧ tv f 5 = vP b4 ∧ tv f 6 = vP b7 ∧ tv f 8 = vP c1 ∧ tv f 9 = vI a6 ∧ tv f 10 = vI a3 ∧ tv f 11 = vI a4) (fun f w => ∃ d1 H1, g5 = .go d1 ∧ Sub H H1 ∧ St H1 w ([(c1, cA (Z7 .u8 (T3 a5 a3 (u8.wrap ((Y5 a1 a3) + (Y5 a2 a3))))) 72)] ++ ([(b7, cA (Z7 .u8 (fun _ => 0)) 72)] ++ ([(b4, cA (Z7 .u8 a2) 72)] ++ ([(b1, cA (Z7 .u8 a1) 72)] ++ L)))) ∧ Y3 (Y4 .i64) H1 s0 a0 ∧ tv f 0 = s0 ∧ tv f 4 = vP b1 ∧ tv f 5 = vP b4 ∧ tv f 6 = vP b7 ∧ tv f 8 = vP c1 ∧ tv f 9 = vI d1 ∧ tv f 10 = vI a3) U ?_ ?_ K ?_ ?_
 rintro f w ⟨a6, a4, H1, c0, _⟩
 rw [R8] at c0; cases c0
 rintro k _ _ k0 k5 ⟨a6, a4, j0, c0, Z4, hS, b0, d3, f0, d4, f1, f2, f3, c8, c9⟩
 rw [R8] at c0
 refine Z1 (Z1 (N1 (fun f w => ∃ b6 H1, B0 K (R8 K a0 a1 a2 a3 k) a0 a1 a4 a6 b6 = some g5 ∧ Sub H H1 ∧ St H1 w ([(c1, cA (Z7 .u8 (T3 a5 a3 (u8.wrap ((Y5 a1 a3) + (Y5 a2 a3))))) 72)] ++ ([(b7, cA (Z7 .u8 (fun _ => 0)) 72)] ++ ([(b4, cA (Z7 .u8 a2) 72)] ++ ([(b1, cA (Z7 .u8 a1) 72)] ++ L)))) ∧ Y3 (Y4 .i64) H1 s0 a0 ∧ tv f 0 = s0 ∧ tv f 4 = vP b1 ∧ tv f 5 = vP b4 ∧ tv f 6 = vP b7 ∧ tv f 8 = vP c1 ∧ tv f 9 = vI a6 ∧ tv f 10 = vI a3 ∧ tv f 11 = vI a4 ∧ tv f 50 = vB b6) ?_ ?_))
 rintro _ _ ⟨b6, e0, a8, Z4, hS, b0, c6, c7, d5, d6, d7, d8, d0, c4, e1⟩
 unfold B0 at a8
 obtain ⟨g6, a8⟩ | ⟨g6, a8⟩ := ic a8
 refine Z8 (Eq.trans (by exact e1) (congrArg vB g6)) (Y6 (Z1 (Y8 (Z1 (N1 (fun f w => ∃ b5 H1, Zc5 K (R8 K a0 a1 a2 a3 k) a4 a6 b5 = some g5 ∧ Sub H H1 ∧ St H1 w ([(c1, cA (Z7 .u8 (T3 a5 a3 (u8.wrap ((Y5 a1 a3) + (Y5 a2 a3))))) 72)] ++ ([(b7, cA (Z7 .u8 (fun _ => 0)) 72)] ++ ([(b4, cA (Z7 .u8 a2) 72)] ++ ([(b1, cA (Z7 .u8 a1) 72)] ++ L)))) ∧ Y3 (Y4 .i64) H1 s0 a0 ∧ tv f 0 = s0 ∧ tv f 4 = vP b1 ∧ tv f 5 = vP b4 ∧ tv f 6 = vP b7 ∧ tv f 8 = vP c1 ∧ tv f 9 = vI a6 ∧ tv f 10 = vI a3 ∧ tv f 11 = vI a4 ∧ tv f 64 = vB b5) ?_ ?_)))))
 rintro _ _ ⟨b5, g9, c2, Z4, hS, b0, f4, f5, f6, f7, f8, f9, e2, e3, e4⟩
 unfold Zc5 at c2
 obtain ⟨g7, c2⟩ | ⟨g7, c2⟩ := ic c2
 refine Z8 (Eq.trans (by exact e4) (congrArg vB g7)) (Z0 (Z3 (vI a6) (by exact f9) U (Xt0 (i64.wrap (0 - a6)) U U U (Z5 (vI (i64.wrap (0 - a6))) U U (Z2 (X1 (Z0 (Z3 (vI a4) (by exact e3) U (W4 (i64.wrap (a4 + 1)) U U U U (Z5 (vI (i64.wrap (a4 + 1))) U U (Z2 (k0 _ _ ⟨(i64.wrap (0 - a6)), (i64.wrap (a4 + 1)), g9, c2, Z4, hS, b0, f4, f5, f6, f7, f8, U, e2, U⟩))))))))))))
 refine Z6 (Eq.trans (by exact e4) (congrArg vB (X8 g7))) (Y6 (X1 (Z0 (Z3 (vI a4) (by exact e3) U (W4 (i64.wrap (a4 + 1)) U U U U (Z5 (vI (i64.wrap (a4 + 1))) U U (Z2 (k0 _ _ ⟨a6, (i64.wrap (a4 + 1)), g9, c2, Z4, hS, b0, f4, f5, f6, f7, f8, f9, e2, U⟩))))))))
 intro j1
 refine Z0 (Z3 s0 (by exact c6) U (Z3 (vI a4) (by exact c4) U ?_))
 obtain ⟨_, a8⟩ := gd a8
 obtain ⟨_, a8⟩ := gd a8
 obtain ⟨_, _, _, _, _, j6, j7, rfl, j8⟩ := b0.elem (i := a4) (by omega) (by omega)
 refine X6 T1 U U j6 U (by omega) (by omega) U (Y1 (vI (rd a0 a4)) ty2 U (hS.froz _ _ j7) (j8 0 (show 0 < 1 by decide)) U (Zd4 (((rd a0 a4)).tmod 2) U U (by decide) U U (L1 (k := .i64) (a := (((rd a0 a4)).tmod 2)) (b := 0) U U U (Z3 (vB (!decide ((((rd a0 a4)).tmod 2) = 0))) U U ?_))))
 obtain ⟨b2, a8⟩ | ⟨b2, a8⟩ := ic a8
 refine Z9 U U (bN b2 U) U U U (Z9 U U (bN b2 U) U U U (Z9 U U (bN b2 U) U U U (Z9 U U (bN b2 U) U U U (W5 (t := false) (vB false) (bN b2 U) ((if_neg Bool.false_ne_true).trans U) U (Z2 (j1 _ _ ⟨false, e0, a8, Z4, hS, b0, c6, c7, d5, d6, d7, d8, d0, c4, U⟩))))))
 refine Y0 U U (bO b2 U) (Z3 (vI a4) (by exact c4) U (Y0 U U (bO b2 U) ?_))
 obtain ⟨_, a8⟩ := gd a8
 refine U3 Zh5 (by exact c7) U (by omega) (by omega) U (Y0 U U (bO b2 U) (Y1 (Value.int .u8 (Y5 a1 a4)) ty5 U (hS.get (o := cA (Z7 .u8 a1) 72) (mR (mR (mR mL)))) (I1 [] [] (by omega) (by omega)) U (Y0 U U (bO b2 U) (Zb2 (k := .u8) (a := (Y5 a1 a4)) (b := 1) U U U (W5 (t := true) (vB (decide ((Y5 a1 a4) = 1))) (bO b2 U) ((if_pos U).trans U) U (Z2 (j1 _ _ ⟨(decide ((Y5 a1 a4) = 1)), e0, a8, Z4, hS, b0, c6, c7, d5, d6, d7, d8, d0, c4, U⟩)))))))
 refine Z6 (Eq.trans (by exact e1) (congrArg vB (X8 g6))) (W2 U ?_)
 cases a8
 exact k5 _ _ ⟨a6, e0, U, Z4, hS, b0, c6, c7, d5, d6, d7, d8, d0⟩
 intro j2
 refine Z0 (Z3 (vI a4) (by exact c9) U (Z3 s0 (by exact d3) U ?_))
 have k6 := b0.bound
 refine X9 T1 U b0 U (V4 (k := .i64) (a := a4) (b := (a0.length : Int)) U U U (Z3 (vB (decide (a4 < (a0.length : Int)))) U U ?_))
 obtain ⟨b3, c0⟩ | ⟨b3, c0⟩ := ic c0
 refine Y0 U U (bT b3 U) (Z3 (vI a3) (by exact c8) U (Y0 U U (bT b3 U) (U3 Zh5 (by exact d4) U (by omega) (by omega) U (Y0 U U (bT b3 U) (Y1 (Value.int .u8 (Y5 a2 a3)) ty5 U (hS.get (o := cA (Z7 .u8 a2) 72) (mR (mR mL))) (I1 [] [] (by omega) (by omega)) U (Y0 U U (bT b3 U) (Zb2 (k := .u8) (a := (Y5 a2 a3)) (b := 1) U U U (W5 (t := true) (vB (decide ((Y5 a2 a3) = 1))) (bT b3 U) ((if_pos U).trans U) U (Z2 (j2 _ _ ⟨(decide ((Y5 a2 a3) = 1)), j0, c0, Z4, hS, b0, d3, f0, d4, f1, f2, f3, c8, c9, U⟩))))))))))
 refine Z9 U U (bF b3 U) U U U (Z9 U U (bF b3 U) U U U (Z9 U U (bF b3 U) U U U (Z9 U U (bF b3 U) U U U (W5 (t := false) (vB false) (bF b3 U) ((if_neg Bool.false_ne_true).trans U) U (Z2 (j2 _ _ ⟨false, j0, c0, Z4, hS, b0, d3, f0, d4, f1, f2, f3, c8, c9, U⟩))))))
 exact ⟨b8, (a3 + 1), h1, c0, Z4, hS, b0, h2, i6, i7, g2, h3, i8, d9, U⟩
 rintro _ _ ⟨d1, k3, rfl, Z4, hS, b0, h7, h8, h9, i0, i1, i2, h4⟩
 dsimp only [Ex.elim] at i9
 refine X1 (Z0 (Z3 (vI a3) (by exact h4) U (W4 (a3 + 1) U U (i64_in _ (by omega)) U (Z5 (vI (a3 + 1)) U U (Z2 (j9 _ _ ⟨(a3 + 1), (T3 a5 a3 (u8.wrap ((Y5 a1 a3) + (Y5 a2 a3)))), d1, k3, i9, Z4, hS, (by omega), b0, h7, h8, h9, i0, i1, i2, U⟩))))))
 refine Z6 (bF h0 U) (W2 U ?_)
 cases a7
 exact k4 _ _ ⟨b8, a5, k1, U, Z4, hS, e8, d2, e9⟩
 exact ⟨0, (fun _ => 0), 1, H, a7, Z4, hS, (by omega), b0, U, U, U, U, U, U, U⟩
 rintro _ _ ⟨c5, a9, _, rfl, Z4, hS, g0, i3, i4⟩
 dsimp only [Ex.elim] at g1
 refine Z1 (Z0 (X5 P7 (by exact i3) (hS.get mL) U U (Z3 (vI c5) (by exact i4) U ?_)))
 have hS := hS.perm R5
 refine W1 (v := vA (Z7 .u8 a9)) (vs := (Z7 .u8 a9).toArray) (cs := (Z7 .u8 (fun _ => 0)).toArray) P7 (by exact g0) U U hS U (R7 .u8 a9) U ?_
 intro _ hS
 have hS := hS.perm R5.symm
 refine Z5 (vI c5) U U (Z2 (Y9 (vs := [vA (Z7 .u8 a9), vI c5]) func278 ⟨⟨_, (by exact g0), T9 P7 (hS.get (mR mL)) U⟩, U, trivial⟩ ?_))
 cases g1
 exact ⟨_, _, U, Z4, (St.dA (St.dA (St.dA (St.dA hS)))), ⟨_, _, U, ⟨_, U, U⟩, U⟩⟩
def K5 (K : Nat) (a0 a1 : List Int) : Nat → Int → Option (Ex Bool Unit)
 | 0, _ => none
 | k + 1, a3 => (if a3 < (a0.length : Int) then (if a3 < (a1.length : Int) then (if (rd a0 a3) = (rd a1 a3) then K5 K a0 a1 k (a3 + 1) else some (.ret false)) else none) else some (.go ()))
def Zq9 (K : Nat) (a0 a1 : List Int) : Option Bool := (if (a0.length : Int) = (a1.length : Int) then ((K5 K a0 a1 K 0).bind (Ex.elim (fun r => some r) (fun s => some true))) else some false)
theorem Yy8 {a0 a1 : List Int} {r : Bool} (q0 : Zq9 K a0 a1 = some r) (a6 : Y3 (Y4 .i64) H s0 a0) (a8 : Y3 (Y4 .i64) H s1 a1) (hS : St H w L) :
 Calls prog 19 #[s0, s1] w (T4 (fun v G => R.bool.p G v r) H L) := by
 have Z4 := Sub.refl H
 refine X0 func19 U ntmps19 U ?_
 unfold Zq9 at q0
 refine Z1 (Z0 (Z5 (vB false) U U (Z2 (Z1 (Z1 (Z0 (Z3 s0 U U ?_)))))))
 have d5 := a6.bound
 refine X9 T1 U a6 U (Z3 s1 U U ?_)
 have d6 := a8.bound
 refine X9 T1 U a8 U (L1 (k := .i64) (a := (a0.length : Int)) (b := (a1.length : Int)) U U U (Z2 ?_))
 obtain ⟨b4, q0⟩ | ⟨b4, q0⟩ := ic q0
 refine Z6 (bN b4 U) (Y6 (Z1 (Z1 (Z0 (Z5 (vI 0) U U (Z2 (Y8 ?_)))))))
 obtain ⟨b5, a4, b0⟩ := bSm q0
 refine W3 (id := 0) (fun k f w => ∃ a3 H1, K5 K a0 a1 k a3 = some b5 ∧ Sub H H1 ∧ St H1 w L ∧ 0 ≤ a3 ∧ Y3 (Y4 .i64) H1 s0 a0 ∧ Y3 (Y4 .i64) H1 s1 a1 ∧ tv f 0 = s0 ∧ tv f 1 = s1 ∧ tv f 5 = vI a3) (fun f w => ∃ H1, b5 = .go () ∧ Sub H H1 ∧ St H1 w L) U ?_ ?_ K ?_ ?_
 rintro f w ⟨a3, H1, a4, _⟩
 rw [K5] at a4; cases a4
 rintro k _ _ c9 d0 ⟨a3, c0, a4, Z4, hS, _, a6, a8, a7, a9, a5⟩
 rw [K5] at a4
 refine Z1 (Z1 (Z0 (Z3 (vI a3) (by exact a5) U (Z3 s0 (by exact a7) U ?_))))
 have d7 := a6.bound
 refine X9 T1 U a6 U (V4 (k := .i64) (a := a3) (b := (a0.length : Int)) U U U (Z2 ?_))
 obtain ⟨b6, a4⟩ | ⟨b6, a4⟩ := ic a4
 refine Z8 (bT b6 U) (Y6 (Z1 (Y8 (Z1 ?_))))
 obtain ⟨d1, d2, _, _, _, c1, c2, rfl, c3⟩ := a6.elem (i := a3) (by omega) (by omega)
 obtain ⟨_, a4⟩ := gd a4
 obtain ⟨d3, d4, _, _, _, c4, c5, rfl, c6⟩ := a8.elem (i := a3) (by omega) (by omega)
 refine W6 9 (S8 [mE 17 s0, mE 18 (vI a3), mE 19 (vQ d1 d2), mE 20 (vI (rd a0 a3)), mE 21 s1, mE 22 (vI a3), mE 23 (vQ d3 d4), mE 24 (vI (rd a1 a3)), mE 25 (vB (!decide ((rd a0 a3) = (rd a1 a3))))]) [] mixed U U U hS (U1 (X4 fun S B => Z3 s0 (evT (B 0 U) a7) U (qz S)) (X4 fun S B => Z3 (vI a3) (evT (B 5 U) a5) U (qz S)) (Y7 fun S V => X6 T1 U (eM (V 0 17 U U)) c1 (eM (V 1 18 U U)) (by omega) (by omega) U (qz S)) (P0 fun s S V => Y1 (vI (rd a0 a3)) ty2 (eM (V 2 19 U U)) (S.froz _ _ (s.1 _ _ c2)) (c3 0 (show 0 < 1 by decide)) U (qz S)) (X4 fun S B => Z3 s1 (evT (B 1 U) a9) U (qz S)) (X4 fun S B => Z3 (vI a3) (evT (B 5 U) a5) U (qz S)) (Y7 fun S V => X6 T1 U (eM (V 4 21 U U)) c4 (eM (V 5 22 U U)) (by omega) (by omega) U (qz S)) (P0 fun s S V => Y1 (vI (rd a1 a3)) ty2 (eM (V 6 23 U U)) (S.froz _ _ (s.1 _ _ c5)) (c6 0 (show 0 < 1 by decide)) U (qz S)) (I2 (Y7 fun S V => L1 (k := .i64) (a := (rd a0 a3)) (b := (rd a1 a3)) (eM (V 3 20 U U)) (eM (V 7 24 U U)) U (qz S)) W9)) ?_
 intro c7 c8 b7 b1 hS b2 b9 hcq
 have hS : St b7 c8 L := hS
 have Z4 := Z4.trans b1
 have a6 := a6.mono b1
 have a8 := a8.mono b1
 have b8 : tv c7 25 = vB (!decide ((rd a0 a3) = (rd a1 a3))) := b9 8 25 (by decide) U
 refine Z2 ?_
 obtain ⟨b3, a4⟩ | ⟨b3, a4⟩ := ic a4
 refine Z6 (bN b3 (by exact b8)) (Y6 (X1 (Z0 (Z3 (vI a3) (by exact (evT (b2 5 U) a5)) U (W4 (a3 + 1) U U (i64_in _ (by omega)) U (Z5 (vI (a3 + 1)) U U (Z2 (c9 _ _ ⟨(a3 + 1), b7, a4, Z4, hS, (by omega), a6, a8, (evT (b2 0 U) a7), (evT (b2 1 U) a9), U⟩))))))))
 refine Z8 (bO b3 (by exact b8)) (Z1 (Z0 (Z5 (vB false) U U (Z2 (Y9 (vs := [vB false]) func19 Ut ?_)))))
 cases a4
 dsimp only [Ex.elim] at b0
 cases b0
 exact ⟨_, _, U, Z4, hS, U⟩
 refine Z6 (bF b6 U) (W2 U ?_)
 cases a4
 exact d0 _ _ ⟨c0, U, Z4, hS⟩
 exact ⟨0, H, a4, Z4, hS, (by omega), a6, a8, U, U, U⟩
 rintro _ _ ⟨_, rfl, Z4, hS⟩
 dsimp only [Ex.elim] at b0
 refine Z1 (Z0 (Z5 (vB true) U U (Z2 (Y9 (vs := [vB true]) func19 Ut ?_))))
 cases b0
 exact ⟨_, _, U, Z4, hS, U⟩
 refine Z8 (bO b4 U) (Z1 (Z0 (Z5 (vB false) U U (Z2 (Y9 (vs := [vB false]) func19 Ut ?_)))))
 cases q0
 exact ⟨_, _, U, Z4, hS, U⟩
section
variable {P : Program} {n : Nat} {ops : Array Oper} {J : Fr → World → Prop} {r : List Oper} {f : Fr} {w : World} {d : Nat} {T : TypeId} {pos : String} {af : Array Edge} {α : Type} {τ : Ty α} {H : FH} {v : Value} {xs : List α}
theorem Wk7 {X E : TypeId} {s : Nat} {x y : Operand} {a : Option Addr} {m c : Nat} {k : IntKind} {i : Nat} (t : SlI P X E s) (hx : ev f x = .slice a m c) (hy : ev f y = .int k i) (hm : i ≤ m) (hn : Nat.blt d n = true)
 (K : X7 P n ops J r (upd f d (.slice (if c = i then a else a.map (·.add (i * s))) (m - i) (c - i))) w) : X7 P n ops J (⟨some d, .slice X x (some y) none none, T, pos, af, none⟩ :: r) f w :=
 U2 U U hn (by simp [execOp, hx, hy, Instr.sliceAt, Instr.slice, Instr.sureAddr, Instr.sliceBounds, Instr.sliceBound, asIntOf, t.under, t.sizeOf, hm]) K
theorem Wk0 {X E : TypeId} {s : Nat} {x y : Operand} {a : Option Addr} {m c : Nat} {k : IntKind} {j : Nat} (t : SlI P X E s) (hx : ev f x = .slice a m c) (hy : ev f y = .int k j) (hm : j ≤ c) (hn : Nat.blt d n = true)
 (K : X7 P n ops J r (upd f d (.slice (if c = 0 then a else a.map (·.add 0)) j c)) w) : X7 P n ops J (⟨some d, .slice X x none (some y) none, T, pos, af, none⟩ :: r) f w :=
 U2 U U hn (by simp [execOp, hx, hy, Instr.sliceAt, Instr.slice, Instr.sureAddr, Instr.sliceBounds, Instr.sliceBound, asIntOf, t.under, t.sizeOf, hm]) K
theorem Y3.dA {a : Option Addr} {c i s : Nat} (hs : τ.size = s) (h : Y3 τ H (.slice a xs.length c) xs) (hi : i ≤ xs.length) : Y3 τ H (.slice (if c = i then a else a.map (·.add (i * s))) (xs.length - i) (c - i)) (xs.drop i) := by
 subst hs
 obtain ⟨a', c', ⟨hv, hl, hr⟩, h⟩ := h
 cases hv
 refine ⟨_, c - i, ⟨by rw [length_drop], by rw [length_drop]; omega⟩, ?_⟩
 by_cases e : i = xs.length
 exact .inl (by rw [e, drop_length])
 rcases h with rfl | ⟨b, o, cs, E, rfl, h2, h3⟩
 exact .inl (by simp)
 rw [if_neg (by omega)]
 refine .inr ⟨b, o + i * τ.size, cs, E, by simp [Addr.add], h2, fun j x hx => ?_⟩
 rw [getElem?_drop] at hx
 obtain ⟨ecs, hr, hj⟩ := h3 _ x hx
 refine ⟨ecs, hr, fun u hu => ?_⟩
 rw [← hj u hu, Nat.add_mul]
 congr 1; omega
theorem Y3.takeA {a a' : Option Addr} {c j : Nat} (h : Y3 τ H (.slice a xs.length c) xs) (hj : j ≤ xs.length) (ha : a' = a ∨ a' = a.map (·.add 0)) : Y3 τ H (.slice a' j c) (xs.take j) := by
 obtain ⟨a0, c', ⟨hv, hl, hr⟩, h⟩ := h
 cases hv
 have hlen : (xs.take j).length = j := by rw [length_take]; omega
 refine ⟨_, c, ⟨by rw [hlen], by rw [hlen]; omega⟩, ?_⟩
 rcases h with rfl | ⟨b, o, cs, E, rfl, h2, h3⟩
 exact .inl (by simp)
 refine .inr ⟨b, o, cs, E, ?_, h2, fun i x hx => h3 i x ?_⟩
 rcases ha with h | h
 exact h
 rw [h]; simp [Addr.add]
 rw [getElem?_take] at hx
 split at hx
 exact hx
 cases hx
theorem Yq9 {X E : TypeId} {s : Nat} {x y : Operand} {k : IntKind} {i : Int} (t : SlI P X E s) (hs : τ.size = s) (h : Y3 τ H v xs) (hx : ev f x = v) (hy : ev f y = .int k i) (h0 : 0 ≤ i) (hm : i ≤ xs.length) (hn : Nat.blt d n = true)
 (K : ∀ v', Y3 τ H v' (xs.drop i.toNat) → X7 P n ops J r (upd f d v') w) : X7 P n ops J (⟨some d, .slice X x (some y) none none, T, pos, af, none⟩ :: r) f w := by
 obtain ⟨i', rfl⟩ := Int.eq_ofNat_of_zero_le h0
 obtain ⟨a, c, rfl, hr⟩ := h.room
 rw [Int.toNat_natCast] at K
 exact Wk7 t hx hy (by omega) hn (K _ (h.dA hs (by omega)))
theorem Wd2 {X E : TypeId} {s : Nat} {x y : Operand} {k : IntKind} {j : Int} (t : SlI P X E s) (hs : τ.size = s) (h : Y3 τ H v xs) (hx : ev f x = v) (hy : ev f y = .int k j) (h0 : 0 ≤ j) (hm : j ≤ xs.length) (hn : Nat.blt d n = true)
 (K : ∀ v', Y3 τ H v' (xs.take j.toNat) → X7 P n ops J r (upd f d v') w) : X7 P n ops J (⟨some d, .slice X x none (some y) none, T, pos, af, none⟩ :: r) f w := by
 obtain ⟨j', rfl⟩ := Int.eq_ofNat_of_zero_le h0
 obtain ⟨a, c, rfl, hr⟩ := h.room
 rw [Int.toNat_natCast] at K
 refine Wk0 t hx hy (by omega) hn (K _ (h.takeA (by omega) ?_))
 split
 exact .inl U
 exact .inr U
theorem Ye1.done {E : TypeId} {L : OL} {e : Ending} {w' : World} (h : Ye1 τ E xs H L e w') : T4 (fun v G => (R.sl τ).p G v xs) H L e w' := by
 obtain ⟨v, H', C, rfl, Z4, hS, ho⟩ := h
 obtain ⟨H2, s2, hS2, hrd⟩ := ho.freeze hS
 exact ⟨_, _, U, Z4.trans s2, hS2, hrd⟩
end
theorem Wd8 {α : Type} {τ : Ty α} {P : Program} {n : Nat} {ops : Array Oper} {J : Fr → World → Prop} {r : List Oper} {f : Fr} {w : World} {d : Nat} {T : TypeId} {pos : String} {af : Array Edge} {H : FH} {L : OL} {X E : TypeId} {s : Nat} {z : Value} (t : SlI P X E s) (tz : ZeI P E s z) (hs : τ.size = s) (hS : St H w L) (hn : Nat.blt d n = true)
 (K : ∀ b w', W0 τ E H (.slice (some ⟨b, 0, none⟩) 0 0) [] [(b, .cells #[] E)] → St H w' ([(b, .cells #[] E)] ++ L) → X7 P n ops J r (upd f d (.slice (some ⟨b, 0, none⟩) 0 0)) w') : X7 P n ops J (⟨some d, .buildSlice X 0 #[], T, pos, af, none⟩ :: r) f w := by
 have hrun := Zu4 (P := P) (w := w) t tz [] U (by simp) (by simp)
 refine U2 (v := .slice (some ⟨w.heap.size, 0, none⟩) 0 0) (w' := w.alloc (.cells #[] E)) U U hn (by have h := hrun; simp only [execOp]; exact F4 (by simpa using h)) (K _ _ ?_ (hS.alloc _))
 exact .inr ⟨w.heap.size, 0, #[], U, by simp, by simp [maxLen], by simp, U, by simp⟩
def MP.lit0 : MP := ⟨fun _ v => ∃ b, v = .slice (some ⟨b, 0, none⟩) 0 0, fun _ h => h, Wm5 (.cells #[] 22)⟩
def G8 (K : Nat) (a0 : A8) : Nat → Int → A8 → Option (Ex A8 A8)
 | 0, _, _ => none
 | k + 1, a1, a3 => (if a1 < 8 then G8 K a0 k (a1 + 1) (T3 a3 a1 (Y5 a0 a1)) else some (.go a3))
def Zm3 (K : Nat) (a0 : A8) : Option A8 := ((G8 K a0 K 0 (fun _ => 0)).bind (Ex.elim (fun r => some r) (fun s => (fun (a4 : A8) => some a4) s)))
theorem Yv0 {a0 r : A8} (q0 : Zm3 K a0 = some r) (hS : St H w L) :
 Calls prog 238 #[vA (Z7 .u8 a0)] w (T4 (fun v G => (R.agg (Q5 .u8)).p G v r) H L) := by
 have Z4 := Sub.refl H
 refine X0 func238 U ntmps238 U ?_
 unfold Zm3 at q0
 refine Z1 (Z0 (T8 (v := vA (Z7 .u8 a0)) (Z7 .u8 a0).toArray U U hS U (fun b1 _ hS => U5 (z := vA (Z7 .u8 (fun _ => 0))) (Z7 .u8 (fun _ => 0)).toArray Yn9.zero U hS U (fun b4 _ hS => Z2 (Z1 (Z0 (U5 (z := vA (Z7 .u8 (fun _ => 0))) (Z7 .u8 (fun _ => 0)).toArray Yn9.zero U hS U (fun b7 _ hS => Z2 (Z1 (Z1 (Z0 (Z5 (vI 0) U U (Z2 (Y8 ?_))))))))))))))
 obtain ⟨b5, a5, b6⟩ := bSm q0
 refine W3 (id := 0) (fun k f w => ∃ a1 a3 H1, G8 K a0 k a1 a3 = some b5 ∧ Sub H H1 ∧ St H1 w ([(b7, cA (Z7 .u8 a3) 72)] ++ ([(b4, cA (Z7 .u8 (fun _ => 0)) 72)] ++ ([(b1, cA (Z7 .u8 a0) 71)] ++ L))) ∧ 0 ≤ a1 ∧ tv f 1 = vP b1 ∧ tv f 2 = vP b4 ∧ tv f 3 = vP b7 ∧ tv f 4 = vI a1) (fun f w => ∃ a4 H1, b5 = .go a4 ∧ Sub H H1 ∧ St H1 w ([(b7, cA (Z7 .u8 a4) 72)] ++ ([(b4, cA (Z7 .u8 (fun _ => 0)) 72)] ++ ([(b1, cA (Z7 .u8 a0) 71)] ++ L))) ∧ tv f 2 = vP b4 ∧ tv f 3 = vP b7) U ?_ ?_ K ?_ ?_
 rintro f w ⟨a1, a3, H1, a5, _⟩
 rw [G8] at a5; cases a5
 rintro k _ _ b9 c0 ⟨a1, a3, b8, a5, Z4, hS, _, a8, a9, a7, a6⟩
 rw [G8] at a5
 refine Z1 (Z1 (Z0 (Z3 (vI a1) (by exact a6) U (V4 (k := .i64) (a := a1) (b := 8) U U U (Z2 ?_)))))
 obtain ⟨b2, a5⟩ | ⟨b2, a5⟩ := ic a5
 refine Z8 (bT b2 U) (Y6 (Z1 (Y8 (Z0 (Z3 (vI a1) (by exact a6) U (Z3 (vI a1) (by exact a6) U (U3 Vm4 (by exact a8) U (by omega) (by omega) U (Y1 (Value.int .u8 (Y5 a0 a1)) ty5 U (hS.get (o := cA (Z7 .u8 a0) 71) (mR (mR mL))) (I1 [] [] (by omega) (by omega)) U (U3 Zh5 (by exact a7) U (by omega) (by omega) U (J7 (v := Value.int .u8 (Y5 a0 a1)) (cs := (Z7 .u8 a3).toArray) (cs' := (Z7 .u8 (T3 a3 a1 (Y5 a0 a1))).toArray) ty5 U U hS U (Zv6 U) (by simp [Z7, M5]; omega) (Zj0 (by omega) (by omega)) (fun _ hS => Z2 (X1 (Z0 (Z3 (vI a1) (by exact a6) U (W4 (a1 + 1) U U (i64_in _ (by omega)) U (Z5 (vI (a1 + 1)) U U (Z2 (b9 _ _ ⟨(a1 + 1), (T3 a3 a1 (Y5 a0 a1)), b8, a5, Z4, hS, (by omega), a8, a9, a7, U⟩))))))))))))))))))
 refine Z6 (bF b2 U) (W2 U ?_)
 cases a5
 exact c0 _ _ ⟨a3, b8, U, Z4, hS, a9, a7⟩
 exact ⟨0, (fun _ => 0), H, a5, Z4, hS, (by omega), U, U, U, U⟩
 rintro _ _ ⟨a4, _, rfl, Z4, hS, b0, b3⟩
 dsimp only [Ex.elim] at b6
 refine Z1 (Z0 (X5 P7 (by exact b3) (hS.get mL) U U ?_))
 have hS := hS.perm R5
 refine W1 (v := vA (Z7 .u8 a4)) (vs := (Z7 .u8 a4).toArray) (cs := (Z7 .u8 (fun _ => 0)).toArray) P7 (by exact b0) U U hS U (R7 .u8 a4) U ?_
 intro _ hS
 have hS := hS.perm R5.symm
 refine Z2 (Y9 (vs := [vA (Z7 .u8 a4)]) func238 ⟨⟨_, (by exact b0), T9 P7 (hS.get (mR mL)) U⟩, trivial⟩ ?_)
 cases b6
 exact ⟨_, _, U, Z4, (St.dA (St.dA (St.dA hS))), ⟨_, U, U⟩⟩
def Zy0 (K : Nat) (a0 : List Int) (a1 : Int) : Option Int := (if (i64.wrap (a1 - (a0.length : Int))) < 0 then some (-1) else some (i64.wrap (a1 - (a0.length : Int))))
theorem Yz2 {a0 : List Int} {a1 r : Int} (q0 : Zy0 K a0 a1 = some r) (a4 : Y3 (Y4 .i64) H s0 a0) (hS : St H w L) :
 Calls prog 71 #[s0, vI a1] w (T4 (fun v G => (R.int .i64).p G v r) H L) := by
 have Z4 := Sub.refl H
 refine X0 func71 U ntmps71 U ?_
 unfold Zy0 at q0
 refine Z1 (Z0 (Z5 (vI 0) U U (Z2 (Z1 (Z0 (Z3 (vI a1) U U (Z3 s0 U U ?_)))))))
 have a5 := a4.bound
 refine X9 T1 U a4 U (Zg8 (i64.wrap (a1 - (a0.length : Int))) U U U U (Z5 (vI (i64.wrap (a1 - (a0.length : Int)))) U U (Z2 (Z1 (Z1 (Z0 (Z3 (vI (i64.wrap (a1 - (a0.length : Int)))) U U (V4 (k := .i64) (a := (i64.wrap (a1 - (a0.length : Int)))) (b := 0) U U U (Z2 ?_)))))))))
 obtain ⟨a3, q0⟩ | ⟨a3, q0⟩ := ic q0
 refine Z8 (bT a3 U) (Z1 (Z0 (Z5 (vI (-1)) U U (Z2 (Y9 (vs := [vI (-1)]) func71 Ut ?_)))))
 cases q0
 exact ⟨_, _, U, Z4, hS, U⟩
 refine Z6 (bF a3 U) (Y6 (Z1 (Z0 (Z3 (vI (i64.wrap (a1 - (a0.length : Int)))) U U (Z5 (vI (i64.wrap (a1 - (a0.length : Int)))) U U (Z2 (Y9 (vs := [vI (i64.wrap (a1 - (a0.length : Int)))]) func71 Ut ?_)))))))
 cases q0
 exact ⟨_, _, U, Z4, hS, U⟩
def Ya5 (K : Nat) (a0 : MpT) (a1 : Int) : Option Int := (if (i64.wrap (a1 - (a0.length : Int))) < 0 then some (-1) else some (i64.wrap (a1 - (a0.length : Int))))
theorem Xb7 {a0 : MpT} {a1 r : Int} (q0 : Ya5 K a0 a1 = some r) (a4 : Y3 yT H s0 a0) (hS : St H w L) :
 Calls prog 89 #[s0, vI a1] w (T4 (fun v G => (R.int .i64).p G v r) H L) := by
 have Z4 := Sub.refl H
 refine X0 func89 U ntmps89 U ?_
 unfold Ya5 at q0
 refine Z1 (Z0 (Z5 (vI 0) U U (Z2 (Z1 (Z0 (Z3 (vI a1) U U (Z3 s0 U U ?_)))))))
 have a5 := a4.bound
 refine X9 Wi7 U a4 U (Zg8 (i64.wrap (a1 - (a0.length : Int))) U U U U (Z5 (vI (i64.wrap (a1 - (a0.length : Int)))) U U (Z2 (Z1 (Z1 (Z0 (Z3 (vI (i64.wrap (a1 - (a0.length : Int)))) U U (V4 (k := .i64) (a := (i64.wrap (a1 - (a0.length : Int)))) (b := 0) U U U (Z2 ?_)))))))))
 obtain ⟨a3, q0⟩ | ⟨a3, q0⟩ := ic q0
 refine Z8 (bT a3 U) (Z1 (Z0 (Z5 (vI (-1)) U U (Z2 (Y9 (vs := [vI (-1)]) func89 Ut ?_)))))
 cases q0
 exact ⟨_, _, U, Z4, hS, U⟩
 refine Z6 (bF a3 U) (Y6 (Z1 (Z0 (Z3 (vI (i64.wrap (a1 - (a0.length : Int)))) U U (Z5 (vI (i64.wrap (a1 - (a0.length : Int)))) U U (Z2 (Y9 (vs := [vI (i64.wrap (a1 - (a0.length : Int)))]) func89 Ut ?_)))))))
 cases q0
 exact ⟨_, _, U, Z4, hS, U⟩
def E7 (K : Nat) (a0 : Int) : Option Int := some (((i64.wrap (((a0).tmod 10007) + 10007))).tmod 10007)
theorem B3 {a0 r : Int} (q0 : E7 K a0 = some r) (hS : St H w L) :
 Calls prog 209 #[vI a0] w (T4 (fun v G => (R.int .i64).p G v r) H L) := by
 have Z4 := Sub.refl H
 refine X0 func209 U ntmps209 U ?_
 unfold E7 at q0
 refine Z1 (Z0 (Z5 (vI 0) U U (Z2 (Z1 (Z0 (Z3 (vI a0) U U (Zd4 ((a0).tmod 10007) U U (by decide) U U (W4 (i64.wrap (((a0).tmod 10007) + 10007)) U U U U (Zd4 (((i64.wrap (((a0).tmod 10007) + 10007))).tmod 10007) U U (by decide) U U (Z5 (vI (((i64.wrap (((a0).tmod 10007) + 10007))).tmod 10007)) U U (Z2 (Y9 (vs := [vI (((i64.wrap (((a0).tmod 10007) + 10007))).tmod 10007)]) func209 Ut ?_))))))))))))
 cases q0
 exact ⟨_, _, U, Z4, hS, U⟩
def Zd1 (K : Nat) (a0 : List Int) : Option (List Int) := (if ([] : List Int).length + a0.length ≤ 1099511627776 then some (([] : List Int) ++ a0) else none)
end Go.Proofs.YtabofnehiclkiaaGreat
