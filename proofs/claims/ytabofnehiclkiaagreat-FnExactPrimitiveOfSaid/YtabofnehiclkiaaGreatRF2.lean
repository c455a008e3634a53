/- Walk, rules and plain laws. -/
import Derived.Test.YtabofnehiclkiaaGreatRTy
namespace Go.Proofs.YtabofnehiclkiaaGreat
open Go Go.Proofs.Tryz IntKind IntWalk List
set_option linter.all false
set_option maxRecDepth 100000
set_option maxHeartbeats 8000000
variable {K : Nat} {H : FH} {w : World} {L : OL} {s0 s1 s2 s3 s4 s5 s6 : Value}
section
variable {P : Program} {n : Nat} {l : List Oper} {m : Nat} {tab : Nat → MP} {con : Con} {H : FH} {L : OL} {f0 : Fr} {J : Fr → World → Prop} {B : FH → World → Value → Prop} {j0 d0 s dm : Nat} {T0 : TypeId} {pos0 : String} {af0 : Array Edge}
theorem Wi6 {m1 : Nat} (hm1 : m ≤ m1) (hok : Ze8 l m1 = true) (hco : Zx9 con l m = true) (hq : M6 (Ze2 P n l m tab con H L f0) (l.take m) 0) {listed : Array Bool} {w : World} {f : Fr} {H' : FH} (hs : listed.size = l.length)
 (hlt : ∀ i, listed.getD i false = true → i < m) (hc : Yb8 l listed) (Z4 : Sub H H') (hS : St H' w ((range m).flatMap (V5 tab con l f fun i => listed.getD i false) ++ L)) (hb : ∀ t, inD (l.take m) t = false → f t = f0 t)
 (hv : ∀ i d, listed.getD i false = true → (l[i]?).bind (·.dst) = some d → (tab d).p H' (f d)) (hqs : ∀ k c, con.by_ k = some c → listed.getD k false = true → c.q H' (f c.d))
 {j : Nat} {o : Oper} (ho : l[j]? = some o) (hjs : j < listed.size) (hjm : j < m) (hf : listed.getD j false = false) (hmk : ∀ i, ((Q4 l []).getD j 0).testBit i = true → listed.getD i false = true)
 {a : Act} (ha : Zh2 n a f) {K : Act → World → Prop} {Q : Exit → Act → World → Prop}
 (hK : ∀ f' a' w' H'', Zh2 n a' f' → Sub H' H'' → St H'' w' ((range m).flatMap (V5 tab con l f' fun i => (listed.setIfInBounds j true).getD i false) ++ L) → (∀ t, inD (l.take m) t = false → f' t = f0 t) →
  (∀ i d, (listed.setIfInBounds j true).getD i false = true → (l[i]?).bind (·.dst) = some d → (tab d).p H'' (f' d)) → (∀ k c, con.by_ k = some c → (listed.setIfInBounds j true).getD k false = true → c.q H'' (f' c.d)) →
  (∀ t, (∀ d, (l[j]?).bind (·.dst) = some d → t ≠ d) → f' t = f t) → K a' w') : wpOp P l.toArray Q j K a w := by
 have hstep := hq.at (j := j) (o := o) (by rw [getElem?_take, if_pos hjm]; exact ho)
 rw [Nat.zero_add] at hstep
 have hset : ∀ i, i ≠ j → (listed.setIfInBounds j true).getD i false = listed.getD i false := fun i hij => by
  rw [Array.getD_eq_getD_getElem?, Array.getD_eq_getD_getElem?, Array.getElem?_setIfInBounds, if_neg (fun h => hij h.symm)]
 have hsj : (listed.setIfInBounds j true).getD j false = true := by rw [Array.getD_eq_getD_getElem?, Array.getElem?_setIfInBounds]; simp [hjs]
 unfold Ze2 at hstep
 cases hby : con.by_ j with
 | none =>
  rw [hby] at hstep
  refine L5 ho ha (hstep f w H' _ Z4 hS hb (fun i d hi hd => hv i d (hmk i hi) hd) (fun k c hk hi => hqs k c hk (hmk k hi))) ?_
  rintro f' a' w' ha' ⟨d, v, H'', hd, rfl, hs2, hS2, hp⟩
  have hupd : ∀ t, upd f d v t = if t = d then v else f t := by
   intro t
   unfold upd
   by_cases e : t = d
   subst e; simp
   rw [if_neg e]
   cases hq : Nat.beq t d with
   | false => rfl
   | true => exact absurd (Nat.eq_of_beq_eq_true hq) e
  refine hK _ _ _ H'' ha' hs2 ?_ ?_ ?_ ?_ (fun t ht => by rw [hupd, if_neg (ht d (by rw [ho]; exact hd))])
  rw [← append_assoc] at hS2
  refine hS2.perm (List.Perm.append_right L ?_)
  have hdj : (l[j]?).bind (·.dst) = some d := by rw [ho]; exact hd
  have key := Yb6 (g := V5 tab con l f fun i => listed.getD i false) (g' := V5 tab con l (upd f d v) fun i => (listed.setIfInBounds j true).getD i false) (j := j) (range m) nodup_range (mem_range.2 hjm)
   (by simp only [V5, hf]; rfl)
   (by
    intro i hij
    simp only [V5, hset i hij]
    split
    rename_i hli
    cases hdi : (l[i]?).bind (·.dst) with
    | none => rfl
    | some c =>
     have hne : c ≠ d := by
      have hil := hlt i hli
      refine L8 (P8 hok) (i := i) (j := j) hij ?_ ?_
      rw [getElem?_take, if_pos (Nat.lt_of_lt_of_le hil hm1)]; exact hdi
      rw [getElem?_take, if_pos (Nat.lt_of_lt_of_le hjm hm1)]; exact hdj
     simp only
     rw [hupd, if_neg hne]
     cases hof : con.of i with
     | none => rfl
     | some e =>
      have hne2 : e.k ≠ j := by
       intro he
       have := (M0 hco hof).2.1
       rw [he, hby] at this; cases this
      simp only [hset e.k hne2]
      by_cases hoe : listed.getD e.k false = true
      case neg => rw [if_neg hoe, if_neg hoe]
      case pos =>
       rw [if_pos hoe, if_pos hoe]
       obtain ⟨_, _, _, _, _, _, h1, h2, h3⟩ := M0 hco hof
       have hli2 := hc _ hoe _ h2
       have hxd : e.x ≠ d := by
        refine L8 (P8 hok) (i := e.i) (j := j) (fun he => by rw [he, hf] at hli2; cases hli2) ?_ ?_
        rw [getElem?_take, if_pos (Nat.lt_of_lt_of_le h1 hm1)]; exact h3
        rw [getElem?_take, if_pos (Nat.lt_of_lt_of_le hjm hm1)]; exact hdj
       rw [hupd, if_neg hxd]
    rfl)
  have hj' : V5 tab con l (upd f d v) (fun i => (listed.setIfInBounds j true).getD i false) j = (tab d).res v := by
   simp only [V5, hsj, hdj]
   cases hof : con.of j with
   | none => simp [hupd]
   | some e =>
    obtain ⟨_, hb1, _, _, hb2, _, _⟩ := M0 hco hof
    have hej : e.k ≠ j := by
     intro he; rw [he, hby] at hb1; cases hb1
    have hoff : listed.getD e.k false = false := by
     cases hq : listed.getD e.k false with
     | false => rfl
     | true => exact absurd (hc _ hq j hb2) (by rw [hf]; simp)
    simp [hset _ hej, hoff, hupd]
  rw [hj'] at key
  exact key
  intro t ht'
  rw [hupd, if_neg, hb t ht']
  rintro rfl
  have : inD (l.take m) t = true := by
   unfold inD
   refine any_eq_true.2 ⟨o, mem_of_getElem? (i := j) (by rw [getElem?_take, if_pos hjm]; exact ho), ?_⟩
   rw [hd]; simp
  rw [this] at ht'; cases ht'
  intro i d' hi hd'
  rw [hupd]
  by_cases e : d' = d
  subst e; rw [if_pos rfl]; exact hp
  rw [if_neg e]
  rcases F2 hi with rfl | h
  rw [ho] at hd'
  simp only [Option.bind_some] at hd'
  rw [hd] at hd'
  exact absurd (Option.some.inj hd').symm e
  exact (tab d').mono hs2 (hv i d' h hd')
  intro k c hk hi
  have hkj : k ≠ j := by
   intro e; rw [e, hby] at hk; cases hk
  rw [hset k hkj] at hi
  obtain ⟨hk0, _, _, him, hbit, hdst⟩ := Zg6 hco hk
  have hli := hc _ hi _ hbit
  have hne : c.d ≠ d := by
   refine L8 (P8 hok) (i := c.mk_) (j := j) (fun he => by rw [he, hf] at hli; cases hli) ?_ ?_
   rw [getElem?_take, if_pos (Nat.lt_of_lt_of_le him hm1)]; exact hdst
   rw [getElem?_take, if_pos (Nat.lt_of_lt_of_le hjm hm1), ho]; exact hd
  rw [hupd, if_neg hne]
  exact c.qm hs2 (hqs k c hk hi)
 | some c =>
  rw [hby] at hstep
  obtain ⟨hc1, hof, _, him, hbit, hdst⟩ := Zg6 hco hby
  have hij : c.mk_ ≠ j := by
   intro he
   have := hmk _ hbit
   rw [he, hf] at this; cases this
  have honi := hmk _ hbit
  have hgi : V5 tab con l f (fun i => listed.getD i false) c.mk_ = (tab c.d).res (f c.d) := by
   simp only [V5, honi, hdst, hof, hc1, hf]; rfl
  have hsp := Zn2 (g := V5 tab con l f fun i => listed.getD i false) (j := c.mk_) (range m) nodup_range (mem_range.2 him)
  rw [hgi] at hsp
  have hS1 := hS.perm (List.Perm.append_right L hsp.symm)
  rw [append_assoc] at hS1
  refine L5 ho ha (hstep f w H' _ Z4 hS1 hb (fun i d hi hd => hv i d (hmk i hi) hd) (fun k c hk hi => hqs k c hk (hmk k hi))) ?_
  rintro f' a' w' ha' ⟨H'', hd, rfl, hs2, hS2, hq2⟩
  refine hK _ _ _ H'' ha' hs2 ?_ hb ?_ ?_ (fun t ht => rfl)
  rw [← append_assoc] at hS2
  refine hS2.perm (List.Perm.append_right L ?_)
  have hsp2 := Zn2 (g := V5 tab con l f' fun i => (listed.setIfInBounds j true).getD i false) (j := c.mk_) (range m) nodup_range (mem_range.2 him)
  have hgi2 : V5 tab con l f' (fun i => (listed.setIfInBounds j true).getD i false) c.mk_ = c.r (f' c.x) (f' c.d) := by
   simp only [V5, hset _ hij, honi, hdst, hof, hc1, hsj]; rfl
  rw [hgi2] at hsp2
  have hrest : ((range m).flatMap fun i => if i = c.mk_ then [] else V5 tab con l f' (fun i => (listed.setIfInBounds j true).getD i false) i) = (range m).flatMap fun i => if i = c.mk_ then [] else V5 tab con l f' (fun i => listed.getD i false) i := by
   refine Zg9 _ (fun i hi => ?_)
   by_cases e : i = c.mk_
   rw [if_pos e, if_pos e]
   rw [if_neg e, if_neg e]
   by_cases eij : i = j
   subst eij
   have : (l[i]?).bind (·.dst) = none := by rw [ho]; exact hd
   simp only [V5, this, hf, hsj]; rfl
   simp only [V5, hset i eij]
   cases hdi : (l[i]?).bind (·.dst) with
   | none => rfl
   | some d =>
    cases he' : con.of i with
    | none => rfl
    | some e' =>
     have hne2 : e'.k ≠ j := by
      intro hk
      have h1 := (M0 hco he').2.1
      rw [hk, hby] at h1
      have h2 := (M0 hco he').1
      rw [← Option.some.inj h1] at h2
      exact e h2.symm
     simp only [hset e'.k hne2]
  rw [hrest] at hsp2
  exact hsp2
  intro i d' hi hd'
  rcases F2 hi with rfl | h
  rw [ho] at hd'
  simp only [Option.bind_some] at hd'
  rw [hd] at hd'; cases hd'
  exact (tab d').mono hs2 (hv i d' h hd')
  intro k e hk hi
  by_cases hkj : k = j
  subst hkj
  rw [hby] at hk; cases hk
  exact hq2
  rw [hset k hkj] at hi
  exact e.qm hs2 (hqs k e hk hi)
theorem Ww0 (hres : ∀ v, (tab d0).res v = []) (hco : Zx9 con l m = true) (hnc : con.of j0 = none) (hok : Ze8 l (m + 1) = true) (hml : m + 1 ≤ l.length) (h0 : l[j0]? = some ⟨some d0, .move (.tmp s), T0, pos0, af0, none⟩) (hj0 : j0 < m) (hd0 : Nat.blt d0 n = true)
 (hdm : (l[m]?).bind (·.dst) = some dm) (hmid : ∀ i, i < m → i ≠ j0 → ((Q4 l []).getD m 0).testBit i = true) (hs0 : inD (l.take (m + 1)) s = false) (hp0 : ∀ H', Sub H H' → (tab d0).p H' (f0 s))
 (hq : M6 (Ze2 P n l m tab con H L f0) (l.take m) 0)
 (hm : ∀ o f w H', l[m]? = some o → Sub H H' → St H' w L → (∀ t, inD (l.take m) t = false → f t = f0 t) → (∀ i d, i < m → i ≠ j0 → (l[i]?).bind (·.dst) = some d → (tab d).p H' (f d)) →
  X7 P n l.toArray (fun f' w' => ∃ v H'', f' = upd f dm v ∧ Sub H' H'' ∧ B H'' w' v) [o] f w)
 (ht : ∀ f w H', Sub H H' → B H' w (f dm) → (∀ t, inD (l.take (m + 1)) t = false → f t = f0 t) → (∀ i d, i < m → (l[i]?).bind (·.dst) = some d → (tab d).p H' (f d)) → X7 P n l.toArray J (l.drop (m + 1)) f w) :
 ∀ (fuel : Nat) (listed : Array Bool) (a : Act) (w : World) (f : Fr) (H' : FH), listed.size = l.length → listed.toList.countP id + fuel = l.length →
  (∀ i, listed.getD i false = true → i < m + 1) → Yb8 l listed → Zh2 n a f → Sub H H' →
  (listed.getD m false = false → St H' w ((range m).flatMap (V5 tab con l f fun i => listed.getD i false) ++ L) ∧ (∀ t, inD (l.take m) t = false → f t = f0 t) ∧ (∀ k c, con.by_ k = some c → listed.getD k false = true → c.q H' (f c.d))) → (listed.getD m false = true → B H' w (f dm)) → (∀ t, inD (l.take (m + 1)) t = false → f t = f0 t) →
  (∀ i d, i < m → listed.getD i false = true → (l[i]?).bind (·.dst) = some d → (tab d).p H' (f d)) → wpAny P .any l.toArray (Yb1 n J) fuel listed a w := by
 have hne : ∀ i d, i < m → (l[i]?).bind (·.dst) = some d → d ≠ dm := fun i d hi hd =>
  L8 (P8 hok) (i := i) (j := m) (by omega) (by rw [getElem?_take, if_pos (by omega)]; exact hd) (by rw [getElem?_take, if_pos (by omega)]; exact hdm)
 have hdd : ∀ i j d d', i ≠ j → i < m → j < m → (l[i]?).bind (·.dst) = some d → (l[j]?).bind (·.dst) = some d' → d ≠ d' := fun i j d d' hij hi hj hd hd' =>
  L8 (P8 hok) (i := i) (j := j) hij (by rw [getElem?_take, if_pos (by omega)]; exact hd) (by rw [getElem?_take, if_pos (by omega)]; exact hd')
 intro fuel
 induction fuel with
 | zero =>
  intro listed a w f H' hs hcnt hlt hc ha Z4 hA hB hb hv
  have hall := Zu0 (xs := listed.toList) (by have := Array.length_toList (xs := listed); omega)
  have hget : ∀ i, i < l.length → listed.getD i false = true := fun i hi => by
   have := hall i (by simp; omega)
   rw [getD_eq_getElem?_getD] at this
   rw [Array.getD_eq_getD_getElem?]
   simpa using this
  have hme : m + 1 = l.length := by
   rcases Nat.lt_or_ge (m + 1) l.length with h | h
   have := hlt (m + 1) (hget (m + 1) h); omega
   omega
  refine ⟨?_, ?_⟩
  cases hr : Region.ready .any l.toArray listed with
  | nil => rfl
  | cons j r =>
   obtain ⟨o, ho, hj, hf, _⟩ := Zd7 hs (by rw [hr]; exact mem_cons_self ..)
   rw [hget j (by omega)] at hf; cases hf
  have := ht f w H' Z4 (hB (hget m (by omega))) hb (fun i d hi hd => hv i d hi (hget i (by omega)) hd) a ha
  rw [hme, drop_length] at this
  exact this
 | succ fuel ih =>
  intro listed a w f H' hs hcnt hlt hc ha Z4 hA hB hb hv
  by_cases hall : ∀ i, i < m + 1 → listed.getD i false = true
  have hk : ∀ i, listed.getD i false = decide (i < m + 1) := by
   intro i
   by_cases h : i < m + 1
   rw [hall i h]; exact (decide_eq_true h).symm
   cases hg : listed.getD i false with
   | false => exact (decide_eq_false h).symm
   | true => exact absurd (hlt i hg) h
  have hcm : listed.toList.countP id = m + 1 := by
   refine Yy6 _ (m + 1) (by simp; omega) (fun i => ?_)
   rw [← hk i, getD_eq_getElem?_getD, Array.getD_eq_getD_getElem?]
   simp
  exact Yc5 hok (fuel + 1) (m + 1) listed a w hs (by omega) (Nat.le_refl _) hk (ht f w H' Z4 (hB (hall m (by omega))) hb (fun i d hi hd => hv i d hi (hall i (by omega)) hd) a ha)
  refine ⟨fun hr => ?_, fun j hj => ?_⟩
  exact absurd (fun i hi => Zy2 hs (Zn5 hok) hr i (by omega)) hall
  obtain ⟨o, ho, hjs, hf, he⟩ := Zd7 hs hj
  obtain ⟨hmk, hc'⟩ := Zv0 ho hc hjs he
  have hjl : j < l.length := by omega
  have hjm : j < m + 1 := by
   rcases Nat.lt_or_ge j (m + 1) with h | h
   exact h
   exact absurd (fun i hi => hmk i (Zs3 hok j h hjl i (by omega))) hall
  have hset : ∀ i, i ≠ j → (listed.setIfInBounds j true).getD i false = listed.getD i false := fun i hij => by
   rw [Array.getD_eq_getD_getElem?, Array.getD_eq_getD_getElem?, Array.getElem?_setIfInBounds, if_neg (fun h => hij h.symm)]
  have hsj : (listed.setIfInBounds j true).getD j false = true := by rw [Array.getD_eq_getD_getElem?, Array.getElem?_setIfInBounds]; simp [hjs]
  have hx : listed.toList[j]? = some false := by
   rw [Array.getD_eq_getD_getElem?] at hf
   simpa [hjs] using hf
  have hcnt' : (listed.setIfInBounds j true).toList.countP id + fuel = l.length := by
   have := Zu9 listed.toList j hx
   rw [Array.toList_setIfInBounds]; rw [this]; omega
  have hlt' : ∀ i, (listed.setIfInBounds j true).getD i false = true → i < m + 1 := by
   intro i hi
   rcases F2 hi with rfl | h
   exact hjm
   exact hlt i h
  by_cases ejm : j = m
  subst ejm
  obtain ⟨hS, hbA, _⟩ := hA hf
  have hS := hS.dA
  refine L5 ho ha (hm o f w H' ho Z4 hS hbA (fun i d hi hij hd => hv i d hi (hmk i (hmid i hi hij)) hd)) ?_
  rintro f' a' w' ha' ⟨v, H'', rfl, hs2, hB2⟩
  refine ih (listed.setIfInBounds j true) a' w' (upd f dm v) H'' (by simpa using hs) hcnt' hlt' hc' ha' (Z4.trans hs2) (fun h => by rw [hsj] at h; cases h) (fun _ => by rw [Zf0, if_pos rfl]; exact hB2) ?_ ?_
  intro t ht'
  rw [Zf0, if_neg, hb t ht']
  rintro rfl
  rw [ho] at hdm
  rw [Zz9 ho (by omega) hdm] at ht'; cases ht'
  intro i d hi hil hd
  rw [Zf0, if_neg (hne i d hi hd)]
  rw [hset i (by omega)] at hil
  exact (tab d).mono hs2 (hv i d hi hil hd)
  have hjm' : j < m := by omega
  by_cases hlm : listed.getD m false = true
  have ej : j = j0 := by
   by_cases e : j = j0
   exact e
   have := hc m hlm j (hmid j hjm' e)
   rw [hf] at this; cases this
  subst ej
  rw [h0] at ho; cases ho
  have hB1 := hB hlm
  have hd : (l[j]?).bind (·.dst) = some d0 := by rw [h0]; rfl
  have hfs : f s = f0 s := hb s hs0
  refine L5 h0 ha (J1 := fun f' w' => f' = upd f d0 (f0 s) ∧ w' = w) (Z3 (f0 s) hfs hd0 (Z2 ⟨U, U⟩)) ?_
  rintro f' a' w' ha' ⟨rfl, rfl⟩
  refine ih (listed.setIfInBounds j true) a' w' (upd f d0 (f0 s)) H' (by simpa using hs) hcnt' hlt' hc' ha' Z4 (fun h => by rw [hset m (by omega), hlm] at h; cases h) (fun _ => by
   rw [Zf0, if_neg (hne j d0 hjm' hd).symm]; exact hB1) ?_ ?_
  intro t ht'
  rw [Zf0, if_neg, hb t ht']
  rintro rfl
  rw [Zz9 h0 (by omega) rfl] at ht'; cases ht'
  intro i d hi hil hd'
  rw [Zf0]
  by_cases e : d = d0
  subst e; rw [if_pos rfl]; exact hp0 H' Z4
  rw [if_neg e]
  rcases F2 hil with rfl | h
  rw [hd] at hd'; exact absurd (Option.some.inj hd').symm e
  exact hv i d hi h hd'
  have hlm : listed.getD m false = false := by simpa using hlm
  obtain ⟨hS, hbA, hqA⟩ := hA hlm
  have hltm : ∀ i, listed.getD i false = true → i < m := fun i hi => by
   have := hlt i hi
   rcases Nat.lt_or_ge i m with h | h
   exact h
   have : i = m := by omega
   rw [this, hlm] at hi; cases hi
  refine Wi6 (m1 := m + 1) (by omega) hok hco hq hs hltm hc Z4 hS hbA (fun i d hi hd => hv i d (hltm i hi) hi hd) hqA ho hjs hjm' hf hmk ha fun f' a' w' H'' ha' hs2 hS2 hb2 hv2 hq2 hfr => ih (listed.setIfInBounds j true) a' w' f' H'' (by simpa using hs) hcnt' hlt' hc' ha' (Z4.trans hs2) (fun _ => ⟨hS2, hb2, hq2⟩) (fun h => by rw [hset m (by omega), hlm] at h; cases h) ?_ (fun i d _ hi hd => hv2 i d hi hd)
  intro t ht'
  exact hb2 t (Vg6 ht')
end
theorem Wu7 {P : Program} {n : Nat} {g : FuncId} {R : Ending → World → Prop} {K : List Item} {l : List Oper} {id : Nat} {H : FH} {L : OL} {f0 : Fr} {w : World} {j0 d0 s dm : Nat} {T0 : TypeId} {pos0 : String} {af0 : Array Edge}
 (m : Nat) (tab : Nat → MP) (con : Con) (B : FH → World → Value → Prop) (hmix : P.follows .mixedOrders = true) (hok : Ze8 l (m + 1) = true) (hco : Zx9 con l m = true) (hml : Nat.ble (m + 1) l.length = true)
 (h0 : l[j0]? = some ⟨some d0, .move (.tmp s), T0, pos0, af0, none⟩) (hj0 : Nat.blt j0 m = true) (hd0 : Nat.blt d0 n = true) (hres : ∀ v, (tab d0).res v = []) (hnc : con.of j0 = none) {om : Oper} (hom : l[m]? = some om) (hdm : (l[m]?).bind (·.dst) = some dm)
 (hmid : ((range m).all fun i => Nat.beq i j0 || ((Q4 l []).getD m 0).testBit i) = true) (hs0 : inD (l.take (m + 1)) s = false) (hp0 : ∀ H', Sub H H' → (tab d0).p H' (f0 s)) (hS : St H w L)
 (hq : M6 (Ze2 P n l m tab con H L f0) (l.take m) 0)
 (hm : ∀ f w H', Sub H H' → St H' w L → (∀ t, inD (l.take m) t = false → f t = f0 t) → (∀ i d, i < m → i ≠ j0 → (l[i]?).bind (·.dst) = some d → (tab d).p H' (f d)) →
  X7 P n l.toArray (fun f' w' => ∃ v H'', f' = upd f dm v ∧ Sub H' H'' ∧ B H'' w' v) [om] f w)
 (ht : ∀ f w H', Sub H H' → B H' w (f dm) → (∀ t, inD (l.take (m + 1)) t = false → f t = f0 t) → (∀ i d, i < m → (l[i]?).bind (·.dst) = some d → (tab d).p H' (f d)) → X7 P n l.toArray (fun f' w' => Run P n g R K f' w') (l.drop (m + 1)) f w) :
 Run P n g R (.code (.region id l.toArray true) :: K) f0 w := by
 intro a ha b cs hb hk
 have hml' : m + 1 ≤ l.length := by simpa [Nat.ble_eq] using hml
 have hj0' : j0 < m := by simpa [Nat.blt_eq] using hj0
 have hz : ∀ i, (Array.replicate l.length false).getD i false = false := fun i => by rw [Array.getD_eq_getD_getElem?, Array.getElem?_replicate]; split <;> rfl
 have hwp : (Code.region id l.toArray true).wp P (Yb1 n (fun f' w' => Run P n g R K f' w')) a w := by
  refine wp_region_any hmix ?_
  have := Ww0 (P := P) (J := fun f' w' => Run P n g R K f' w') hres hco hnc hok hml' h0 hj0' hd0 hdm (fun i hi hne => by
   have h := all_eq_true.1 hmid i (mem_range.2 hi)
   rcases Bool.or_eq_true .. |>.mp h with h | h
   exact absurd (Nat.eq_of_beq_eq_true h) hne
   exact h) hs0 hp0 hq (fun o f w H' ho => by rw [hom] at ho; cases ho; exact hm f w H') ht l.length (Array.replicate l.length false) a w.drew f0 H (by simp) (by simp [countP_replicate]) (fun i hi => by rw [hz] at hi; cases hi)
   (fun i hi => by rw [hz] at hi; cases hi) ha (Sub.refl _) (fun _ => ⟨by
    have e : (range m).flatMap (V5 tab con l f0 fun i => (Array.replicate l.length false).getD i false) = [] := by
     refine flatMap_eq_nil_iff.2 fun i hi => ?_
     simp only [V5, hz]; rfl
    rw [e]; exact hS.drew, fun _ _ => rfl, fun k c _ hi => by rw [hz] at hi; cases hi⟩) (fun h => by rw [hz] at h; cases h) (fun _ _ => rfl) (fun i d _ hi => by rw [hz] at hi; cases hi)
  simpa using this
 obtain ⟨e, a', w', ⟨rfl, f', ha', hJ⟩, harr⟩ := hwp b K cs
 obtain ⟨e, w'', fr, hR, hc, hf, hl⟩ := hJ a' ha' b cs hb hk
 exact ⟨e, w'', fr, hR, .of_steps harr hc, hf, hl⟩
def Zd8 (K : Nat) (f6 : Int → Int → (List Int) → Option (Ex (List Int) ((List Int)))) (a0 : MpT) (a1 : List A8) (a3 a4 : Int) (a5 : List Int) (b7 : Bool) : Option (Ex (List Int) ((List Int))) := (if b7 = true then (if 0 ≤ a3 then (if a3 < (a0.length : Int) then (if a4 < (a1.length : Int) then (if (eq8 (rd a0 a3).1 (rd a1 a4)) = true then (if a4 < (a5.length : Int) then f6 (i64.wrap (a3 + 1)) (a4 + 1) (a5.set (a4).toNat (rd a0 a3).2) else none) else f6 a3 (a4 + 1) a5) else none) else none) else none) else some (.go a5))
def J4 (K : Nat) (a0 : MpT) (a1 : List A8) : Nat → Int → Int → (List Int) → Option (Ex (List Int) ((List Int)))
 | 0, _, _, _ => none
 | k + 1, a3, a4, a5 => (if a4 < (a1.length : Int) then Zd8 K (J4 K a0 a1 k) a0 a1 a3 a4 a5 (decide (a3 < (a0.length : Int))) else Zd8 K (J4 K a0 a1 k) a0 a1 a3 a4 a5 false)
def Zb5 (K : Nat) (a0 : MpT) (a1 : List A8) : Option (List Int) := (if (a1.length : Int) ≤ 1099511627776 then ((J4 K a0 a1 K 0 0 (replicate ((a1.length : Int)).toNat (0 : Int))).bind (Ex.elim (fun r => some r) (fun s => (fun (b3 : List Int) => some b3) s))) else none)
theorem Yf1 {a0 : MpT} {a1 : List A8} {r : List Int} (q0 : Zb5 K a0 a1 = some r) (b4 : Y3 yT H s0 a0) (b6 : Y3 (Q5 .u8) H s1 a1) (hS : St H w L) :
 Calls prog 189 #[vA [s0], s1] w (Ye1 (Y4 .i64) 2 r H L) := by
 have Z4 := Sub.refl H
 refine X0 func189 U ntmps189 U ?_
 unfold Zb5 at q0
 refine Z1 (Z0 (T8 (v := vA [s0]) [s0].toArray U U hS U (fun b1 _ hS => Z5 vN U U (Z2 (Z1 (Z0 (Z3 s1 U U ?_)))))))
 have h3 := b6.bound
 refine X9 Zv3 U b6 U ?_
 obtain ⟨_, q0⟩ := gd q0
 refine Zz4 (τ := (Y4 .i64)) (0 : Int) Zx1 U U U (fun _ => rfl) (by omega) (by omega) hS U fun u6 _ C8 g9 hS => Z5 u6 U U (Z5 (vI 0) U U (Z2 (Z1 (Z1 (Z0 (Z5 (vI 0) U U (Z2 (Y8 ?_))))))))
 obtain ⟨d4, b5, e3⟩ := bSm q0
 refine W3 (id := 0) (fun k f w => ∃ a3 a4 a5 H1 a9 a6, J4 K a0 a1 k a3 a4 a5 = some d4 ∧ Sub H H1 ∧ St H1 w (a9 ++ ([(b1, cA [s0] 45)] ++ L)) ∧ 0 ≤ a4 ∧ W0 (Y4 .i64) 2 H1 a6 a5 a9 ∧ Y3 yT H1 s0 a0 ∧ Y3 (Q5 .u8) H1 s1 a1 ∧ tv f 1 = s1 ∧ tv f 2 = vP b1 ∧ tv f 5 = a6 ∧ tv f 6 = vI a3 ∧ tv f 7 = vI a4) (fun f w => ∃ b3 H1 b8 b2, d4 = .go b3 ∧ Sub H H1 ∧ St H1 w (b8 ++ ([(b1, cA [s0] 45)] ++ L)) ∧ W0 (Y4 .i64) 2 H1 b2 b3 b8 ∧ Y3 yT H1 s0 a0 ∧ tv f 5 = b2) U ?_ ?_ K ?_ ?_
 rintro f w ⟨a3, a4, a5, H1, a9, a6, b5, _⟩
 rw [J4] at b5; cases b5
 rintro k _ _ f7 h0 ⟨a3, a4, a5, e4, a9, a6, b5, Z4, hS, _, a7, b4, b6, c0, c1, c5, c2, c3⟩
 rw [J4] at b5
 refine Z1 (Z1 (N1 (fun f w => ∃ b7 H1, Zd8 K (J4 K a0 a1 k) a0 a1 a3 a4 a5 b7 = some d4 ∧ Sub H H1 ∧ St H1 w (a9 ++ ([(b1, cA [s0] 45)] ++ L)) ∧ Y3 yT H1 s0 a0 ∧ Y3 (Q5 .u8) H1 s1 a1 ∧ W0 (Y4 .i64) 2 H1 a6 a5 a9 ∧ tv f 1 = s1 ∧ tv f 2 = vP b1 ∧ tv f 5 = a6 ∧ tv f 6 = vI a3 ∧ tv f 7 = vI a4 ∧ tv f 21 = vB b7) ?_ ?_))
 rintro _ _ ⟨b7, e7, a8, Z4, hS, b4, b6, a7, c9, d0, d1, d2, d3, c6⟩
 unfold Zd8 at a8
 obtain ⟨d5, a8⟩ | ⟨d5, a8⟩ := ic a8
 refine Z8 (Eq.trans (by exact c6) (congrArg vB d5)) (Y6 (Z1 (Y8 (Z1 ?_))))
 obtain ⟨_, a8⟩ := gd a8
 obtain ⟨_, a8⟩ := gd a8
 obtain ⟨f8, f9, _, _, _, g1, g2, ⟨_, _, rfl, rfl, rfl⟩, g3⟩ := b4.elem (i := a3) (by omega) (by omega)
 obtain ⟨_, a8⟩ := gd a8
 obtain ⟨g4, g5, _, _, _, e8, e9, rfl, f0⟩ := b6.elem (i := a4) (by omega) (by omega)
 refine W6 11 (S8 [mE 24 (vP b1), mE 25 s0, mE 26 (vI a3), mE 27 (vQ f8 f9), mE 28 (vQ f8 (f9 + 0)), mE 29 (vA (Z7 .u8 (rd a0 a3).1)), mE 30 s1, mE 31 (vI a4), mE 32 (vQ g4 g5), mE 33 (vA (Z7 .u8 (rd a1 a4))), mE 34 (vB (eq8 (rd a0 a3).1 (rd a1 a4)))]) [] mixed U U U hS (U1 (X4 fun S B => Y2 U8 (evT (B 2 U) d0) U (qz S)) (Y7 fun S V => Y1 s0 P1 (eM (V 0 24 U U)) (S.get (mR (mR mL))) U U (qz S)) (X4 fun S B => Z3 (vI a3) (evT (B 6 U) d2) U (qz S)) (Y7 fun S V => X6 Q0 U (eM (V 1 25 U U)) g1 (eM (V 2 26 U U)) (by omega) (by omega) U (qz S)) (Y7 fun S V => Y2 L6 (eM (V 3 27 U U)) U (qz S)) (P0 fun s S V => U0 (Z7 .u8 (rd a0 a3).1) P7 (eM (V 4 28 U U)) (S.froz _ _ (s.1 _ _ g2)) U (Zf9 [] (Z7 .u8 (rd a0 a3).1) ([vI (rd a0 a3).2]) g3 (nl U)) U (qz S)) (X4 fun S B => Z3 s1 (evT (B 1 U) c9) U (qz S)) (X4 fun S B => Z3 (vI a4) (evT (B 7 U) d3) U (qz S)) (L7 (Y7 fun S V => X6 Zv3 U (eM (V 6 30 U U)) e8 (eM (V 7 31 U U)) (by omega) (by omega) U (qz S)) (P0 fun s S V => U0 (Z7 .u8 (rd a1 a4)) P7 (eM (V 8 32 U U)) (S.froz _ _ (s.1 _ _ e9)) U f0 U (qz S)) (I2 (Y7 fun S V => Vj8 (a := (rd a0 a3).1) (b := (rd a1 a4)) Vk8 (eM (V 5 29 U U)) (eM (V 9 33 U U)) U (qz S)) W9))) ?_
 intro g6 g7 d6 c4 hS b9 f1 hcq
 have hS : St d6 g7 (a9 ++ _) := hS
 have Z4 := Z4.trans c4
 have b6 := b6.mono c4
 have b4 := b4.mono c4
 have a7 := a7.mono c4
 have e5 := evT (b9 1 U) c9
 have d7 := evT (b9 2 U) d0
 have d8 := evT (b9 5 U) d1
 have d9 := evT (b9 6 U) d2
 have e0 := evT (b9 7 U) d3
 have e6 : tv g6 34 = vB (eq8 (rd a0 a3).1 (rd a1 a4)) := f1 10 34 (by decide) U
 refine Z2 ?_
 obtain ⟨c7, a8⟩ | ⟨c7, a8⟩ := ic a8
 refine Z8 (Eq.trans (by exact e6) (congrArg vB c7)) (Z1 (Z0 (Z3 a6 (by exact d8) U (Z3 (vI a4) (by exact e0) U (Y2 U8 (by exact d7) U (Y1 s0 P1 U (hS.get (mR mL)) U U (Z3 (vI a3) (by exact d9) U ?_)))))))
 obtain ⟨_, _, _, _, _, f2, f3, ⟨_, _, rfl, rfl, rfl⟩, f4⟩ := b4.elem (i := a3) (by omega) (by omega)
 refine X6 Q0 U U f2 U (by omega) (by omega) U (Y2 Zf7 U U (Y1 (vI (rd a0 a3).2) ty2 U (hS.froz _ _ f3) (f4 8 (show 8 < 9 by decide)) U ?_))
 obtain ⟨_, a8⟩ := gd a8
 obtain ⟨_, _, e1⟩ := a7.some (i := a4) (by omega) (by omega)
 refine Q3 T1 (Eq.trans U e1) U (by omega) (by omega) U (Za9 (τ := (Y4 .i64)) (v := a6) (u := vI (rd a0 a3).2) (rd a0 a3).2 (i := a4) U ty2 e1 a7 hS U U (by omega) (by omega) U (fun _ g8 f5 hS => Z2 (Z0 (Z3 (vI a3) (by exact d9) U (W4 (i64.wrap (a3 + 1)) U U U U (Z5 (vI (i64.wrap (a3 + 1))) U U (Z2 (X1 (Z0 (Z3 (vI a4) (by exact e0) U (W4 (a4 + 1) U U (i64_in _ (by omega)) U (Z5 (vI (a4 + 1)) U U (Z2 (f7 _ _ ⟨(i64.wrap (a3 + 1)), (a4 + 1), (a5.set (a4).toNat (rd a0 a3).2), d6, g8, a6, a8, Z4, hS, (by omega), f5, b4, b6, e5, d7, d8, U, U⟩))))))))))))))
 refine Z6 (Eq.trans (by exact e6) (congrArg vB (X8 c7))) (Y6 (X1 (Z0 (Z3 (vI a4) (by exact e0) U (W4 (a4 + 1) U U (i64_in _ (by omega)) U (Z5 (vI (a4 + 1)) U U (Z2 (f7 _ _ ⟨a3, (a4 + 1), a5, d6, a9, a6, a8, Z4, hS, (by omega), a7, b4, b6, e5, d7, d8, d9, U⟩))))))))
 refine Z6 (Eq.trans (by exact c6) (congrArg vB (X8 d5))) (W2 U ?_)
 cases a8
 exact h0 _ _ ⟨a5, e7, a9, a6, U, Z4, hS, a7, b4, d1⟩
 intro g0
 refine Z0 (Z3 (vI a4) (by exact c3) U (Z3 s1 (by exact c0) U ?_))
 have h1 := b6.bound
 refine X9 Zv3 U b6 U (V4 (k := .i64) (a := a4) (b := (a1.length : Int)) U U U (Z3 (vB (decide (a4 < (a1.length : Int)))) U U ?_))
 obtain ⟨b0, b5⟩ | ⟨b0, b5⟩ := ic b5
 refine Y0 U U (bT b0 U) (Z3 (vI a3) (by exact c2) U (Y0 U U (bT b0 U) (Y2 U8 (by exact c1) U (Y0 U U (bT b0 U) (Y1 s0 P1 U (hS.get (mR mL)) U U ?_)))))
 have h2 := b4.bound
 refine Y0 U U (bT b0 U) (X9 Q0 U b4 U (Y0 U U (bT b0 U) (V4 (k := .i64) (a := a3) (b := (a0.length : Int)) U U U (W5 (t := true) (vB (decide (a3 < (a0.length : Int)))) (bT b0 U) ((if_pos U).trans U) U (Z2 (g0 _ _ ⟨(decide (a3 < (a0.length : Int))), e4, b5, Z4, hS, b4, b6, a7, c0, c1, c5, c2, c3, U⟩))))))
 refine Z9 U U (bF b0 U) U U U (Z9 U U (bF b0 U) U U U (Z9 U U (bF b0 U) U U U (Z9 U U (bF b0 U) U U U (Z9 U U (bF b0 U) U U U (W5 (t := false) (vB false) (bF b0 U) ((if_neg Bool.false_ne_true).trans U) U (Z2 (g0 _ _ ⟨false, e4, b5, Z4, hS, b4, b6, a7, c0, c1, c5, c2, c3, U⟩)))))))
 exact ⟨0, 0, (replicate ((a1.length : Int)).toNat (0 : Int)), H, C8, u6, b5, Z4, hS, (by omega), g9, b4, b6, U, U, U, U, U⟩
 rintro _ _ ⟨b3, _, b8, b2, rfl, Z4, hS, c8, b4, e2⟩
 dsimp only [Ex.elim] at e3
 refine Z1 (Z0 (Z3 b2 (by exact e2) U (Z5 b2 U U (Z2 (Y9 (vs := [b2]) func189 Ut ?_)))))
 have hS := St.dropMid hS
 cases e3
 exact ⟨_, _, _, U, Z4, hS, c8⟩
def E3 (K : Nat) (a0 : MpT) (a3 : Int) : Nat → Int → Int → Option (Ex Int Int)
 | 0, _, _ => none
 | k + 1, a5, a4 => (if a4 < 8 then (if (Y5 (rd a0 a3).1 a4) = (u8.wrap a5) then E3 K a0 a3 k (i64.wrap (a5 + 1)) (a4 + 1) else some (.ret (-1))) else some (.go a5))
def J5 (K : Nat) (a0 : MpT) : Nat → Int → Int → Option (Ex Int Int)
 | 0, _, _ => none
 | k + 1, a9, a3 => (if a3 < (a0.length : Int) then ((E3 K a0 a3 K a9 0).bind (Ex.elim (fun r => some (.ret r)) (fun s => (fun (a7 : Int) => (if (rd a0 a3).2 = a7 then J5 K a0 k (i64.wrap (a7 + 1)) (a3 + 1) else some (.ret (-1)))) s))) else some (.go a9))
def Zn9 (K : Nat) (a0 : MpT) (a1 : Int) : Option Int := ((J5 K a0 K a1 0).bind (Ex.elim (fun r => some r) (fun s => (fun (b1 : Int) => some b1) s)))
theorem Yx0 {a0 : MpT} {a1 r : Int} (q0 : Zn9 K a0 a1 = some r) (b0 : Y3 yT H s0 a0) (hS : St H w L) :
 Calls prog 102 #[s0, vI a1] w (T4 (fun v G => (R.int .i64).p G v r) H L) := by
 have Z4 := Sub.refl H
 refine X0 func102 U ntmps102 U ?_
 unfold Zn9 at q0
 refine Z1 (Z0 (Z5 (vI 0) U U (Z2 (Z1 (Z1 (Z0 (Z5 (vI 0) U U (Z2 (Y8 ?_)))))))))
 obtain ⟨c5, a8, b3⟩ := bSm q0
 refine W3 (id := 0) (fun k f w => ∃ a9 a3 H1, J5 K a0 k a9 a3 = some c5 ∧ Sub H H1 ∧ St H1 w L ∧ 0 ≤ a3 ∧ Y3 yT H1 s0 a0 ∧ tv f 0 = s0 ∧ tv f 1 = vI a9 ∧ tv f 5 = vI a3) (fun f w => ∃ b1 H1, c5 = .go b1 ∧ Sub H H1 ∧ St H1 w L ∧ tv f 1 = vI b1) U ?_ ?_ K ?_ ?_
 rintro f w ⟨a9, a3, H1, a8, _⟩
 rw [J5] at a8; cases a8
 rintro k _ _ d4 d5 ⟨a9, a3, c6, a8, Z4, hS, _, b0, b8, b9, c0⟩
 rw [J5] at a8
 refine Z1 (Z1 (Z0 (Z3 (vI a3) (by exact c0) U (Z3 s0 (by exact b8) U ?_))))
 have e4 := b0.bound
 refine X9 Q0 U b0 U (V4 (k := .i64) (a := a3) (b := (a0.length : Int)) U U U (Z2 ?_))
 obtain ⟨c7, a8⟩ | ⟨c7, a8⟩ := ic a8
 refine Z8 (bT c7 U) (Y6 (Z1 (Y8 (Z1 (Z1 (Z0 (Z5 (vI 0) U U (Z2 (Y8 ?_)))))))))
 obtain ⟨c8, a6, b2⟩ := bSm a8
 refine W3 (id := 2) (fun k f w => ∃ a5 a4 H1, E3 K a0 a3 k a5 a4 = some c8 ∧ Sub H H1 ∧ St H1 w L ∧ 0 ≤ a4 ∧ Y3 yT H1 s0 a0 ∧ tv f 0 = s0 ∧ tv f 1 = vI a5 ∧ tv f 5 = vI a3 ∧ tv f 6 = vI a4) (fun f w => ∃ a7 H1, c8 = .go a7 ∧ Sub H H1 ∧ St H1 w L ∧ Y3 yT H1 s0 a0 ∧ tv f 0 = s0 ∧ tv f 1 = vI a7 ∧ tv f 5 = vI a3) U ?_ ?_ K ?_ ?_
 rintro f w ⟨a5, a4, H1, a6, _⟩
 rw [E3] at a6; cases a6
 rintro k _ _ d6 d7 ⟨a5, a4, c9, a6, Z4, hS, _, b0, b4, b5, b6, b7⟩
 rw [E3] at a6
 refine Z1 (Z1 (Z0 (Z3 (vI a4) (by exact b7) U (V4 (k := .i64) (a := a4) (b := 8) U U U (Z2 ?_)))))
 obtain ⟨d0, a6⟩ | ⟨d0, a6⟩ := ic a6
 refine Z8 (bT d0 U) (Y6 (Z1 (Y8 (Z1 (Z1 (Z0 (Z3 s0 (by exact b4) U (Z3 (vI a3) (by exact b6) U (Z3 (vI a4) (by exact b7) U ?_)))))))))
 obtain ⟨_, _, _, _, _, d8, d9, ⟨_, _, rfl, rfl, rfl⟩, e0⟩ := b0.elem (i := a3) (by omega) (by omega)
 refine X6 Q0 U U d8 U (by omega) (by omega) U (Y2 L6 U U (U3 Zh5 U U (by omega) (by omega) U (Y1 (Value.int .u8 (Y5 (rd a0 a3).1 a4)) ty5 U (hS.froz _ _ d9) (Vi5 [] ([vI (rd a0 a3).2]) e0 (nl U) (by omega) (by omega)) U (Z3 (vI a5) (by exact b5) U (Ym9 (s := .i64) ((u8.wrap a5)) Wk4 U U U (L1 (k := .u8) (a := (Y5 (rd a0 a3).1 a4)) (b := (u8.wrap a5)) U U U (Z2 ?_)))))))
 obtain ⟨d1, a6⟩ | ⟨d1, a6⟩ := ic a6
 refine Z6 (bN d1 U) (Y6 (Z0 (Z3 (vI a5) (by exact b5) U (W4 (i64.wrap (a5 + 1)) U U U U (Z5 (vI (i64.wrap (a5 + 1))) U U (Z2 (X1 (Z0 (Z3 (vI a4) (by exact b7) U (W4 (a4 + 1) U U (i64_in _ (by omega)) U (Z5 (vI (a4 + 1)) U U (Z2 (d6 _ _ ⟨(i64.wrap (a5 + 1)), (a4 + 1), c9, a6, Z4, hS, (by omega), b0, b4, U, b6, U⟩)))))))))))))
 refine Z8 (bO d1 U) (Z1 (Z0 (Z5 (vI (-1)) U U (Z2 (Y9 (vs := [vI (-1)]) func102 Ut ?_)))))
 cases a6
 dsimp only [Ex.elim] at b2
 cases b2
 dsimp only [Ex.elim] at b3
 cases b3
 exact ⟨_, _, U, Z4, hS, U⟩
 refine Z6 (bF d0 U) (W2 U ?_)
 cases a6
 exact d7 _ _ ⟨a5, c9, U, Z4, hS, b0, b4, b5, b6⟩
 exact ⟨a9, 0, c6, a6, Z4, hS, (by omega), b0, b8, b9, c0, U⟩
 rintro _ _ ⟨a7, d3, rfl, Z4, hS, b0, c1, c2, c3⟩
 dsimp only [Ex.elim] at b2
 refine Z1 (Z1 (Z0 (Z3 s0 (by exact c1) U (Z3 (vI a3) (by exact c3) U ?_))))
 obtain ⟨_, _, _, _, _, e1, e2, ⟨_, _, rfl, rfl, rfl⟩, e3⟩ := b0.elem (i := a3) (by omega) (by omega)
 refine X6 Q0 U U e1 U (by omega) (by omega) U (Y2 Zf7 U U (Y1 (vI (rd a0 a3).2) ty2 U (hS.froz _ _ e2) (e3 8 (show 8 < 9 by decide)) U (Z3 (vI a7) (by exact c2) U (L1 (k := .i64) (a := (rd a0 a3).2) (b := a7) U U U (Z2 ?_)))))
 obtain ⟨d2, b2⟩ | ⟨d2, b2⟩ := ic b2
 refine Z6 (bN d2 U) (Y6 (Z0 (Z3 (vI a7) (by exact c2) U (W4 (i64.wrap (a7 + 1)) U U U U (Z5 (vI (i64.wrap (a7 + 1))) U U (Z2 (X1 (Z0 (Z3 (vI a3) (by exact c3) U (W4 (a3 + 1) U U (i64_in _ (by omega)) U (Z5 (vI (a3 + 1)) U U (Z2 (d4 _ _ ⟨(i64.wrap (a7 + 1)), (a3 + 1), d3, b2, Z4, hS, (by omega), b0, c1, U, U⟩)))))))))))))
 refine Z8 (bO d2 U) (Z1 (Z0 (Z5 (vI (-1)) U U (Z2 (Y9 (vs := [vI (-1)]) func102 Ut ?_)))))
 cases b2
 dsimp only [Ex.elim] at b3
 cases b3
 exact ⟨_, _, U, Z4, hS, U⟩
 refine Z6 (bF c7 U) (W2 U ?_)
 cases a8
 exact d5 _ _ ⟨a9, c6, U, Z4, hS, b9⟩
 exact ⟨a1, 0, H, a8, Z4, hS, (by omega), b0, U, U, U⟩
 rintro _ _ ⟨b1, _, rfl, Z4, hS, c4⟩
 dsimp only [Ex.elim] at b3
 refine Z1 (Z0 (Z3 (vI b1) (by exact c4) U (Z5 (vI b1) U U (Z2 (Y9 (vs := [vI b1]) func102 Ut ?_)))))
 cases b3
 exact ⟨_, _, U, Z4, hS, U⟩
def F9 (K : Nat) (a0 a1 : A8) : Nat → Int → Option (Ex Bool Unit)
 | 0, _ => none
 | k + 1, a3 => (if a3 < 8 then (if (Y5 a0 a3) = (Y5 a1 a3) then F9 K a0 a1 k (a3 + 1) else some (.ret (decide ((Y5 a1 a3) < (Y5 a0 a3))))) else some (.go ()))
def Ze5 (K : Nat) (a0 a1 : A8) : Option Bool := ((F9 K a0 a1 K 0).bind (Ex.elim (fun r => some r) (fun s => some false)))
theorem Zx3 {a0 a1 : A8} {r : Bool} (q0 : Ze5 K a0 a1 = some r) (hS : St H w L) :
 Calls prog 229 #[vA (Z7 .u8 a0), vA (Z7 .u8 a1)] w (T4 (fun v G => R.bool.p G v r) H L) := by
 have Z4 := Sub.refl H
 refine X0 func229 U ntmps229 U ?_
 unfold Ze5 at q0
 refine Z1 (Z0 (T8 (v := vA (Z7 .u8 a0)) (Z7 .u8 a0).toArray U U hS U (fun b1 _ hS => T8 (v := vA (Z7 .u8 a1)) (Z7 .u8 a1).toArray U U hS U (fun b4 _ hS => Z5 (vB false) U U (Z2 (Z1 (Z1 (Z0 (Z5 (vI 0) U U (Z2 (Y8 ?_)))))))))))
 obtain ⟨b2, a4, a8⟩ := bSm q0
 refine W3 (id := 0) (fun k f w => ∃ a3 H1, F9 K a0 a1 k a3 = some b2 ∧ Sub H H1 ∧ St H1 w ([(b4, cA (Z7 .u8 a1) 72)] ++ ([(b1, cA (Z7 .u8 a0) 72)] ++ L)) ∧ 0 ≤ a3 ∧ tv f 2 = vP b1 ∧ tv f 3 = vP b4 ∧ tv f 5 = vI a3) (fun f w => ∃ H1, b2 = .go () ∧ Sub H H1 ∧ St H1 w ([(b4, cA (Z7 .u8 a1) 72)] ++ ([(b1, cA (Z7 .u8 a0) 72)] ++ L))) U ?_ ?_ K ?_ ?_
 rintro f w ⟨a3, H1, a4, _⟩
 rw [F9] at a4; cases a4
 rintro k _ _ c7 c8 ⟨a3, c2, a4, Z4, hS, _, a6, a7, a5⟩
 rw [F9] at a4
 refine Z1 (Z1 (Z0 (Z3 (vI a3) (by exact a5) U (V4 (k := .i64) (a := a3) (b := 8) U U U (Z2 ?_)))))
 obtain ⟨b3, a4⟩ | ⟨b3, a4⟩ := ic a4
 refine Z8 (bT b3 U) (Y6 (Z1 (Y8 (Z1 (W6 7 (S8 [mE 10 (vI a3), mE 11 (vQ b1 (0 + (a3).toNat * 1)), mE 12 (Value.int .u8 (Y5 a0 a3)), mE 13 (vI a3), mE 14 (vQ b4 (0 + (a3).toNat * 1)), mE 15 (Value.int .u8 (Y5 a1 a3)), mE 16 (vB (!decide ((Y5 a0 a3) = (Y5 a1 a3))))]) [] mixed U U U hS (K3 (X4 fun S B => Z3 (vI a3) (evT (B 5 U) a5) U (qz S)) (K6 fun S B V => U3 Zh5 (evT (B 2 U) a6) (eM (V 0 10 U U)) (by omega) (by omega) U (qz S)) (Y7 fun S V => Y1 (Value.int .u8 (Y5 a0 a3)) ty5 (eM (V 1 11 U U)) (S.get (o := cA (Z7 .u8 a0) 72) (mR (mR mL))) (I1 [] [] (by omega) (by omega)) U (qz S)) (X4 fun S B => Z3 (vI a3) (evT (B 5 U) a5) U (qz S)) (L7 (K6 fun S B V => U3 Zh5 (evT (B 3 U) a7) (eM (V 3 13 U U)) (by omega) (by omega) U (qz S)) (Y7 fun S V => Y1 (Value.int .u8 (Y5 a1 a3)) ty5 (eM (V 4 14 U U)) (S.get (o := cA (Z7 .u8 a1) 72) (mR mL)) (I1 [] [] (by omega) (by omega)) U (qz S)) (I2 (Y7 fun S V => L1 (k := .u8) (a := (Y5 a0 a3)) (b := (Y5 a1 a3)) (eM (V 2 12 U U)) (eM (V 5 15 U U)) U (qz S)) W9))) ?_)))))
 intro c9 d0 b8 c3 hS a9 c4 hcq
 have hS : St b8 d0 ([(b4, cA (Z7 .u8 a1) 72)] ++ _) := hS
 have Z4 := Z4.trans c3
 have b9 := evT (a9 2 U) a6
 have c0 := evT (a9 3 U) a7
 have b5 := evT (a9 5 U) a5
 have c1 : tv c9 16 = vB (!decide ((Y5 a0 a3) = (Y5 a1 a3))) := c4 6 16 (by decide) U
 refine Z2 ?_
 obtain ⟨b0, a4⟩ | ⟨b0, a4⟩ := ic a4
 refine Z6 (bN b0 (by exact c1)) (Y6 (X1 (Z0 (Z3 (vI a3) (by exact b5) U (W4 (a3 + 1) U U (i64_in _ (by omega)) U (Z5 (vI (a3 + 1)) U U (Z2 (c7 _ _ ⟨(a3 + 1), b8, a4, Z4, hS, (by omega), b9, c0, U⟩))))))))
 refine Z8 (bO b0 (by exact c1)) (Z1 (W6 8 (S8 [mE 17 (vI a3), mE 18 (vQ b1 (0 + (a3).toNat * 1)), mE 19 (Value.int .u8 (Y5 a0 a3)), mE 20 (vI a3), mE 21 (vQ b4 (0 + (a3).toNat * 1)), mE 22 (Value.int .u8 (Y5 a1 a3)), mE 23 (vB (decide ((Y5 a1 a3) < (Y5 a0 a3)))), mE 4 (vB (decide ((Y5 a1 a3) < (Y5 a0 a3))))]) [] mixed U U U hS (U1 (X4 fun S B => Z3 (vI a3) (evT (B 5 U) b5) U (qz S)) (K6 fun S B V => U3 Zh5 (evT (B 2 U) b9) (eM (V 0 17 U U)) (by omega) (by omega) U (qz S)) (Y7 fun S V => Y1 (Value.int .u8 (Y5 a0 a3)) ty5 (eM (V 1 18 U U)) (S.get (o := cA (Z7 .u8 a0) 72) (mR (mR mL))) (I1 [] [] (by omega) (by omega)) U (qz S)) (X4 fun S B => Z3 (vI a3) (evT (B 5 U) b5) U (qz S)) (K6 fun S B V => U3 Zh5 (evT (B 3 U) c0) (eM (V 3 20 U U)) (by omega) (by omega) U (qz S)) (Y7 fun S V => Y1 (Value.int .u8 (Y5 a1 a3)) ty5 (eM (V 4 21 U U)) (S.get (o := cA (Z7 .u8 a1) 72) (mR mL)) (I1 [] [] (by omega) (by omega)) U (qz S)) (Y7 fun S V => A0 (k := .u8) (a := (Y5 a0 a3)) (b := (Y5 a1 a3)) (eM (V 2 19 U U)) (eM (V 5 22 U U)) U (qz S)) (Y7 fun S V => Z5 (vB (decide ((Y5 a1 a3) < (Y5 a0 a3)))) (eM (V 6 23 U U)) U (qz S)) W9) ?_))
 intro _ c5 c6 b6 hS _ b7 hcq
 have hS : St c6 c5 ([(b4, cA (Z7 .u8 a1) 72)] ++ _) := hS
 have Z4 := Z4.trans b6
 refine Z2 (Y9 (vs := [vB (decide ((Y5 a1 a3) < (Y5 a0 a3)))]) func229 ⟨(by exact (eM (b7 7 4 (by decide) U))), trivial⟩ ?_)
 cases a4
 dsimp only [Ex.elim] at a8
 cases a8
 exact ⟨_, _, U, Z4, (St.dA (St.dA hS)), U⟩
 refine Z6 (bF b3 U) (W2 U ?_)
 cases a4
 exact c8 _ _ ⟨c2, U, Z4, hS⟩
 exact ⟨0, H, a4, Z4, hS, (by omega), U, U, U⟩
 rintro _ _ ⟨_, rfl, Z4, hS⟩
 dsimp only [Ex.elim] at a8
 refine Z1 (Z0 (Z5 (vB false) U U (Z2 (Y9 (vs := [vB false]) func229 Ut ?_))))
 cases a8
 exact ⟨_, _, U, Z4, (St.dA (St.dA hS)), U⟩
def Zh3 (K : Nat) (c3 : Int → Int → Int → Option (Ex Int Int)) (a1 a3 a6 : Int) : Option (Ex Int Int) := c3 a6 (((i64.wrap (a1 * a1))).tmod 10007) (i64.wrap ((a3).tdiv 2))
def P6 (K : Nat) : Nat → Int → Int → Int → Option (Ex Int Int)
 | 0, _, _, _ => none
 | k + 1, a4, a1, a3 => (if 0 < a3 then (if ((a3).tmod 2) = 1 then Zh3 K (P6 K k) a1 a3 (((i64.wrap (a4 * a1))).tmod 10007) else Zh3 K (P6 K k) a1 a3 a4) else some (.go a4))
def Zm0 (K : Nat) (a0 : Int) : Option Int := ((P6 K K 1 a0 10005).bind (Ex.elim (fun r => some r) (fun s => (fun (a7 : Int) => some a7) s)))
theorem Yu3 {a0 r : Int} (q0 : Zm0 K a0 = some r) (hS : St H w L) :
 Calls prog 245 #[vI a0] w (T4 (fun v G => (R.int .i64).p G v r) H L) := by
 have Z4 := Sub.refl H
 refine X0 func245 U ntmps245 U ?_
 unfold Zm0 at q0
 refine Z1 (Z0 (Z5 (vI 0) U U (Z2 (Z1 (Z0 (Z3 (vI a0) U U (Z5 (vI 1) U U (Z5 (vI a0) U U (Z2 (Z1 (Z1 (Z0 (Z5 (vI 10005) U U (Z2 (Y8 ?_)))))))))))))))
 obtain ⟨b2, a5, b6⟩ := bSm q0
 refine W3 (id := 0) (fun k f w => ∃ a4 a1 a3 H1, P6 K k a4 a1 a3 = some b2 ∧ Sub H H1 ∧ St H1 w L ∧ tv f 3 = vI a4 ∧ tv f 4 = vI a1 ∧ tv f 5 = vI a3) (fun f w => ∃ a7 H1, b2 = .go a7 ∧ Sub H H1 ∧ St H1 w L ∧ tv f 3 = vI a7) U ?_ ?_ K ?_ ?_
 rintro f w ⟨a4, a1, a3, H1, a5, _⟩
 rw [P6] at a5; cases a5
 rintro k _ _ c4 c5 ⟨a4, a1, a3, b3, a5, Z4, hS, a9, b0, a8⟩
 rw [P6] at a5
 refine Z1 (Z1 (Z0 (Z3 (vI a3) (by exact a8) U (A0 (k := .i64) (a := a3) (b := 0) U U U (Z2 ?_)))))
 obtain ⟨b7, a5⟩ | ⟨b7, a5⟩ := ic a5
 refine Z8 (bT b7 U) (Y6 (Z1 (Y8 (Z1 (Z1 (Z0 (Z3 (vI a3) (by exact a8) U (Zd4 ((a3).tmod 2) U U (by decide) U U (Zb2 (k := .i64) (a := ((a3).tmod 2)) (b := 1) U U U (Z2 (N1 (fun f w => ∃ a6 H1, Zh3 K (P6 K k) a1 a3 a6 = some b2 ∧ Sub H H1 ∧ St H1 w L ∧ tv f 3 = vI a6 ∧ tv f 4 = vI a1 ∧ tv f 5 = vI a3) ?_ ?_)))))))))))
 rintro _ _ ⟨a6, c1, b4, Z4, hS, b8, b1, b9⟩
 unfold Zh3 at b4
 refine Z0 (Z3 (vI a1) (by exact b1) U (Z3 (vI a1) (by exact b1) U (Zi4 (i64.wrap (a1 * a1)) U U U U (Zd4 (((i64.wrap (a1 * a1))).tmod 10007) U U (by decide) U U (Z5 (vI (((i64.wrap (a1 * a1))).tmod 10007)) U U (Z2 (X1 (Z0 (Z3 (vI a3) (by exact b9) U (Xt1 (i64.wrap ((a3).tdiv 2)) U U (by decide) U U (Z5 (vI (i64.wrap ((a3).tdiv 2))) U U (Z2 (c4 _ _ ⟨a6, (((i64.wrap (a1 * a1))).tmod 10007), (i64.wrap ((a3).tdiv 2)), c1, b4, Z4, hS, b8, U, U⟩)))))))))))))
 intro c2
 obtain ⟨c0, a5⟩ | ⟨c0, a5⟩ := ic a5
 refine Z8 (bT c0 U) (Z0 (Z3 (vI a4) (by exact a9) U (Z3 (vI a1) (by exact b0) U (Zi4 (i64.wrap (a4 * a1)) U U U U (Zd4 (((i64.wrap (a4 * a1))).tmod 10007) U U (by decide) U U (Z5 (vI (((i64.wrap (a4 * a1))).tmod 10007)) U U (Z2 (c2 _ _ ⟨(((i64.wrap (a4 * a1))).tmod 10007), b3, a5, Z4, hS, U, b0, a8⟩))))))))
 refine Z6 (bF c0 U) (Y6 (c2 _ _ ⟨a4, b3, a5, Z4, hS, a9, b0, a8⟩))
 refine Z6 (bF b7 U) (W2 U ?_)
 cases a5
 exact c5 _ _ ⟨a4, b3, U, Z4, hS, a9⟩
 exact ⟨1, a0, 10005, H, a5, Z4, hS, U, U, U⟩
 rintro _ _ ⟨a7, _, rfl, Z4, hS, b5⟩
 dsimp only [Ex.elim] at b6
 refine Z1 (Z0 (Z3 (vI a7) (by exact b5) U (Z5 (vI a7) U U (Z2 (Y9 (vs := [vI a7]) func245 Ut ?_)))))
 cases b6
 exact ⟨_, _, U, Z4, hS, U⟩
def L9 (K : Nat) (a0 : A8) (a1 : List Int) : Nat → Int → Int → Option (Ex Int Int)
 | 0, _, _ => none
 | k + 1, a5, a3 => (if a3 < (a1.length : Int) then (if a3 < 8 then L9 K a0 a1 k (i64.wrap (a5 + (i64.wrap ((rd a1 a3) * (Y5 a0 a3))))) (a3 + 1) else none) else some (.go a5))
def Zi5 (K : Nat) (a0 : A8) (a1 : List Int) : Option Int := ((L9 K a0 a1 K 0 0).bind (Ex.elim (fun r => some r) (fun s => (fun (a7 : Int) => some a7) s)))
theorem Yp9 {a0 : A8} {a1 : List Int} {r : Int} (q0 : Zi5 K a0 a1 = some r) (a8 : Y3 (Y4 .i64) H s0 a1) (hS : St H w L) :
 Calls prog 215 #[vA (Z7 .i64 a0), s0] w (T4 (fun v G => (R.int .i64).p G v r) H L) := by
 have Z4 := Sub.refl H
 refine X0 func215 U ntmps215 U ?_
 unfold Zi5 at q0
 refine Z1 (Z0 (T8 (v := vA (Z7 .i64 a0)) (Z7 .i64 a0).toArray U U hS U (fun b1 _ hS => Z5 (vI 0) U U (Z2 (Z1 (Z0 (Z5 (vI 0) U U (Z2 (Z1 (Z1 (Z0 (Z3 s0 U U ?_))))))))))))
 have c4 := a8.bound
 refine X9 T1 U a8 U (Z3 (vI 0) U U (Z2 (Y8 ?_)))
 obtain ⟨b5, a4, b6⟩ := bSm q0
 refine W3 (id := 0) (fun k f w => ∃ a5 a3 H1, L9 K a0 a1 k a5 a3 = some b5 ∧ Sub H H1 ∧ St H1 w ([(b1, cA (Z7 .i64 a0) 222)] ++ L) ∧ 0 ≤ a3 ∧ Y3 (Y4 .i64) H1 s0 a1 ∧ tv f 2 = vP b1 ∧ tv f 5 = vI a5 ∧ tv f 8 = s0 ∧ tv f 9 = vI (a1.length : Int) ∧ tv f 10 = vI a3) (fun f w => ∃ a7 H1, b5 = .go a7 ∧ Sub H H1 ∧ St H1 w ([(b1, cA (Z7 .i64 a0) 222)] ++ L) ∧ tv f 5 = vI a7) U ?_ ?_ K ?_ ?_
 rintro f w ⟨a5, a3, H1, a4, _⟩
 rw [L9] at a4; cases a4
 rintro k _ _ b9 c0 ⟨a5, a3, b7, a4, Z4, hS, _, a8, a9, b0, b2, b3, a6⟩
 rw [L9] at a4
 refine Z1 (Z0 (V4 (k := .i64) (a := a3) (b := (a1.length : Int)) (by exact a6) (by exact b3) U (Z2 (Z1 ?_))))
 obtain ⟨b8, a4⟩ | ⟨b8, a4⟩ := ic a4
 refine Z8 (bT b8 U) (Y6 (Z1 (Y8 (Z1 (Z0 (Z3 (vI a3) (by exact a6) U ?_))))))
 obtain ⟨_, _, _, _, _, c1, c2, rfl, c3⟩ := a8.elem (i := a3) (by omega) (by omega)
 refine X6 T1 U (by exact b2) c1 (by exact a6) (by omega) (by omega) U (Y1 (vI (rd a1 a3)) ty2 U (hS.froz _ _ c2) (c3 0 (show 0 < 1 by decide)) U (Z5 (vI a3) U U (Z5 (vI (rd a1 a3)) U U (Z2 (Z0 (Z3 (vI a5) (by exact b0) U (Z3 (vI (rd a1 a3)) U U (Z3 (vI a3) U U ?_))))))))
 obtain ⟨_, a4⟩ := gd a4
 refine U3 Zm9 (by exact a9) U (by omega) (by omega) U (Y1 (vI (Y5 a0 a3)) ty3 U (hS.get (o := cA (Z7 .i64 a0) 222) mL) (I1 [] [] (by omega) (by omega)) U (Zi4 (i64.wrap ((rd a1 a3) * (Y5 a0 a3))) U U U U (W4 (i64.wrap (a5 + (i64.wrap ((rd a1 a3) * (Y5 a0 a3))))) U U U U (Z5 (vI (i64.wrap (a5 + (i64.wrap ((rd a1 a3) * (Y5 a0 a3)))))) U U (Z2 (X1 (Z0 (W4 (a3 + 1) (by exact a6) U (i64_in _ (by omega)) U (Z3 (vI (a3 + 1)) U U (Z2 (b9 _ _ ⟨(i64.wrap (a5 + (i64.wrap ((rd a1 a3) * (Y5 a0 a3))))), (a3 + 1), b7, a4, Z4, hS, (by omega), a8, a9, U, b2, b3, U⟩)))))))))))
 refine Z6 (bF b8 U) (W2 U ?_)
 cases a4
 exact c0 _ _ ⟨a5, b7, U, Z4, hS, b0⟩
 exact ⟨0, 0, H, a4, Z4, hS, (by omega), a8, U, U, U, U, U⟩
 rintro _ _ ⟨a7, _, rfl, Z4, hS, b4⟩
 dsimp only [Ex.elim] at b6
 refine Z1 (Z0 (Z3 (vI a7) (by exact b4) U (Z5 (vI a7) U U (Z2 (Y9 (vs := [vI a7]) func215 Ut ?_)))))
 cases b6
 exact ⟨_, _, U, Z4, (St.dA hS), U⟩
def V7 (K : Nat) (a0 : List Int) (a1 : (Int → Option Bool)) : Nat → Int → Option (Ex Int Unit)
 | 0, _ => none
 | k + 1, a3 => (if a3 < (a0.length : Int) then ((a1 (rd a0 a3)).bind fun r4 => (if r4 = true then some (.ret a3) else V7 K a0 a1 k (a3 + 1))) else some (.go ()))
def N9 (K : Nat) (a0 : List Int) (a1 : (Int → Option Bool)) : Option Int := ((V7 K a0 a1 K 0).bind (Ex.elim (fun r => some r) (fun s => some (-1))))
theorem Zl7 {a0 : List Int} {a1 : (Int → Option Bool)} {r : Int} (q0 : N9 K a0 a1 = some r) (a6 : Y3 (Y4 .i64) H s0 a0) (a7 : FnQ prog s1 (R.int .i64) a1 H) (hS : St H w L) :
 Calls prog 235 #[s0, s1] w (T4 (fun v G => (R.int .i64).p G v r) H L) := by
 have Z4 := Sub.refl H
 refine X0 func235 U ntmps235 U ?_
 unfold N9 at q0
 refine Z1 (Z0 (Z5 (vI 0) U U (Z2 (Z1 (Z1 (Z0 (Z3 s0 U U ?_)))))))
 have c3 := a6.bound
 refine X9 T1 U a6 U (Z3 (vI 0) U U (Z2 (Y8 ?_)))
 obtain ⟨b2, a4, b1⟩ := bSm q0
 refine W3 (id := 0) (fun k f w => ∃ a3 H1, V7 K a0 a1 k a3 = some b2 ∧ Sub H H1 ∧ St H1 w L ∧ 0 ≤ a3 ∧ Y3 (Y4 .i64) H1 s0 a0 ∧ FnQ prog s1 (R.int .i64) a1 H1 ∧ tv f 0 = s0 ∧ tv f 1 = s1 ∧ tv f 7 = vI (a0.length : Int) ∧ tv f 8 = vI a3) (fun f w => ∃ H1, b2 = .go () ∧ Sub H H1 ∧ St H1 w L) U ?_ ?_ K ?_ ?_
 rintro f w ⟨a3, H1, a4, _⟩
 rw [V7] at a4; cases a4
 rintro k _ _ b7 b8 ⟨a3, b6, a4, Z4, hS, _, a6, a7, a8, a9, b0, a5⟩
 rw [V7] at a4
 refine Z1 (Z0 (V4 (k := .i64) (a := a3) (b := (a0.length : Int)) (by exact a5) (by exact b0) U (Z2 (Z1 ?_))))
 obtain ⟨b3, a4⟩ | ⟨b3, a4⟩ := ic a4
 refine Z8 (bT b3 U) (Y6 (Z1 (Y8 (Z1 (Z0 (Z3 (vI a3) (by exact a5) U (Z5 (vI a3) U U (Z2 (Z1 (Z0 (Z3 s1 (by exact a9) U (Z3 s0 (by exact a8) U (Z3 (vI a3) U U ?_)))))))))))))
 obtain ⟨_, _, _, _, _, b9, c0, rfl, c1⟩ := a6.elem (i := a3) (by omega) (by omega)
 refine X6 T1 U U b9 U (by omega) (by omega) U (Y1 (vI (rd a0 a3)) ty2 U (hS.froz _ _ c0) (c1 0 (show 0 < 1 by decide)) U ?_)
 obtain ⟨_, c2, a4⟩ := bSm a4
 refine Wh7 a7 U U hS U c2 U ?_
 intro H4 _ b4 hS
 have Z4 := Z4.trans b4
 have a6 := a6.mono b4
 have a7 := a7.mono b4
 refine Z2 ?_
 obtain ⟨b5, a4⟩ | ⟨b5, a4⟩ := ic a4
 refine Z8 (Eq.trans U (congrArg vB b5)) (Z1 (Z0 (Z3 (vI a3) U U (Z5 (vI a3) U U (Z2 (Y9 (vs := [vI a3]) func235 Ut ?_))))))
 cases a4
 dsimp only [Ex.elim] at b1
 cases b1
 exact ⟨_, _, U, Z4, hS, U⟩
 refine Z6 (Eq.trans U (congrArg vB (X8 b5))) (Y6 (X1 (Z0 (W4 (a3 + 1) (by exact a5) U (i64_in _ (by omega)) U (Z3 (vI (a3 + 1)) U U (Z2 (b7 _ _ ⟨(a3 + 1), H4, a4, Z4, hS, (by omega), a6, a7, a8, a9, b0, U⟩)))))))
 refine Z6 (bF b3 U) (W2 U ?_)
 cases a4
 exact b8 _ _ ⟨b6, U, Z4, hS⟩
 exact ⟨0, H, a4, Z4, hS, (by omega), a6, a7, U, U, U, U⟩
 rintro _ _ ⟨_, rfl, Z4, hS⟩
 dsimp only [Ex.elim] at b1
 refine Z1 (Z0 (Z5 (vI (-1)) U U (Z2 (Y9 (vs := [vI (-1)]) func235 Ut ?_))))
 cases b1
 exact ⟨_, _, U, Z4, hS, U⟩
def Zu2 (K : Nat) (a0 a1 a2 : Int) : Option Bool := (if a1 ≤ a0 then some (decide (a0 ≤ a2)) else some false)
theorem Zx7 {a0 a1 a2 : Int} {r : Bool} (q0 : Zu2 K a0 a1 a2 = some r) (hS : St H w L) :
 Calls prog 73 #[vI a0, vI a1, vI a2] w (T4 (fun v G => R.bool.p G v r) H L) := by
 have Z4 := Sub.refl H
 refine X0 func73 U ntmps73 U ?_
 unfold Zu2 at q0
 refine Z1 (Z0 (Z5 (vB false) U U (Z2 (Z1 (Z0 (Z3 (vI a0) U U (Z3 (vI a1) U U (Ya4 (k := .i64) (a := a0) (b := a1) U U U (Z3 (vB (decide (a1 ≤ a0))) U U ?_)))))))))
 obtain ⟨a3, q0⟩ | ⟨a3, q0⟩ := ic q0
 refine Y0 U U (bT a3 U) (Z3 (vI a0) U U (Y0 U U (bT a3 U) (Z3 (vI a2) U U (Y0 U U (bT a3 U) (Yj8 (k := .i64) (a := a0) (b := a2) U U U (W5 (t := true) (vB (decide (a0 ≤ a2))) (bT a3 U) ((if_pos U).trans U) U (Z5 (vB (decide (a0 ≤ a2))) U U (Z2 (Y9 (vs := [vB (decide (a0 ≤ a2))]) func73 Ut ?_)))))))))
 cases q0
 exact ⟨_, _, U, Z4, hS, U⟩
 refine Z9 U U (bF a3 U) U U U (Z9 U U (bF a3 U) U U U (Z9 U U (bF a3 U) U U U (W5 (t := false) (vB false) (bF a3 U) ((if_neg Bool.false_ne_true).trans U) U (Z5 (vB false) U U (Z2 (Y9 (vs := [vB false]) func73 Ut ?_))))))
 cases q0
 exact ⟨_, _, U, Z4, hS, U⟩
end Go.Proofs.YtabofnehiclkiaaGreat
