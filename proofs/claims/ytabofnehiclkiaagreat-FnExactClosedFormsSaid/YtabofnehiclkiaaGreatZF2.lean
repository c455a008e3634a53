/- Walks of functions: each computes its pure function, if that gives a value. -/
import Derived.Test.YtabofnehiclkiaaGreatZTy
namespace Go.Proofs.YtabofnehiclkiaaGreat
open Go Go.Proofs.Tryz
set_option linter.unusedSimpArgs false
set_option linter.unusedVariables false
set_option maxRecDepth 100000
set_option maxHeartbeats 8000000
variable {K : Nat} {H : FH} {w : World} {L : OL} {s0 s1 s2 s3 s4 s5 s6 : Value}
section
variable {P : Program} {n : Nat} {l : List Oper} {m : Nat} {tab : Nat → MP} {con : Con} {H : FH} {L : OL} {f0 : Fr} {J : Fr → World → Prop} {B : FH → World → Value → Prop} {j0 d0 s dm : Nat} {T0 : TypeId} {pos0 : String} {af0 : Array Edge}
theorem Wi4 {m1 : Nat} (hm1 : m ≤ m1) (hok : Zg8 l m1 = true) (hco : Zz9 con l m = true) (hq : J0 (Zc9 P n l m tab con H L f0) (l.take m) 0) {listed : Array Bool} {w : World} {f : Fr} {H' : FH} (hs : listed.size = l.length)
 (hlt : ∀ i, listed.getD i false = true → i < m) (hc : Yc1 l listed) (Z4 : Sub H H') (hS : St H' w ((List.range m).flatMap (U6 tab con l f fun i => listed.getD i false) ++ L)) (hb : ∀ t, inD (l.take m) t = false → f t = f0 t)
 (hv : ∀ i d, listed.getD i false = true → (l[i]?).bind (·.dst) = some d → (tab d).p H' (f d)) (hqs : ∀ k c, con.by_ k = some c → listed.getD k false = true → c.q H' (f c.d))
 {j : Nat} {o : Oper} (ho : l[j]? = some o) (hjs : j < listed.size) (hjm : j < m) (hf : listed.getD j false = false) (hmk : ∀ i, ((Q5 l []).getD j 0).testBit i = true → listed.getD i false = true)
 {a : Act} (ha : Zg5 n a f) {K : Act → World → Prop} {Q : Exit → Act → World → Prop}
 (hK : ∀ f' a' w' H'', Zg5 n a' f' → Sub H' H'' → St H'' w' ((List.range m).flatMap (U6 tab con l f' fun i => (listed.setIfInBounds j true).getD i false) ++ L) → (∀ t, inD (l.take m) t = false → f' t = f0 t) →
  (∀ i d, (listed.setIfInBounds j true).getD i false = true → (l[i]?).bind (·.dst) = some d → (tab d).p H'' (f' d)) → (∀ k c, con.by_ k = some c → (listed.setIfInBounds j true).getD k false = true → c.q H'' (f' c.d)) →
  (∀ t, (∀ d, (l[j]?).bind (·.dst) = some d → t ≠ d) → f' t = f t) → K a' w') : wpOp P l.toArray Q j K a w := by
 have hstep := hq.at (j := j) (o := o) (by rw [List.getElem?_take, if_pos hjm]; exact ho)
 rw [Nat.zero_add] at hstep
 have hset : ∀ i, i ≠ j → (listed.setIfInBounds j true).getD i false = listed.getD i false := fun i hij => by
  rw [Array.getD_eq_getD_getElem?, Array.getD_eq_getD_getElem?, Array.getElem?_setIfInBounds, if_neg (fun h => hij h.symm)]
 have hsj : (listed.setIfInBounds j true).getD j false = true := by rw [Array.getD_eq_getD_getElem?, Array.getElem?_setIfInBounds]; simp [hjs]
 unfold Zc9 at hstep
 cases hby : con.by_ j with
 | none =>
  rw [hby] at hstep
  refine J7 ho ha (hstep f w H' _ Z4 hS hb (fun i d hi hd => hv i d (hmk i hi) hd) (fun k c hk hi => hqs k c hk (hmk k hi))) ?_
  rintro f' a' w' ha' ⟨d, v, H'', hd, rfl, hs2, hS2, hp⟩
  have hupd : ∀ t, upd f d v t = if t = d then v else f t := by
   intro t
   unfold upd
   by_cases e : t = d
   subst e; simp
   rw [if_neg e]
   cases hq : Nat.beq t d with
   | false => rfl
   | true => exact absurd (Nat.eq_of_beq_eq_true hq) e
  refine hK _ _ _ H'' ha' hs2 ?_ ?_ ?_ ?_ (fun t ht => by rw [hupd, if_neg (ht d (by rw [ho]; exact hd))])
  rw [← List.append_assoc] at hS2
  refine hS2.perm (List.Perm.append_right L ?_)
  have hdj : (l[j]?).bind (·.dst) = some d := by rw [ho]; exact hd
  have key := Yf6 (g := U6 tab con l f fun i => listed.getD i false) (g' := U6 tab con l (upd f d v) fun i => (listed.setIfInBounds j true).getD i false) (j := j) (List.range m) List.nodup_range (List.mem_range.2 hjm)
   (by simp only [U6, hf]; rfl)
   (by
    intro i hij
    simp only [U6, hset i hij]
    split
    rename_i hli
    cases hdi : (l[i]?).bind (·.dst) with
    | none => rfl
    | some c =>
     have hne : c ≠ d := by
      have hil := hlt i hli
      refine Za5 (E1 hok) (i := i) (j := j) hij ?_ ?_
      rw [List.getElem?_take, if_pos (Nat.lt_of_lt_of_le hil hm1)]; exact hdi
      rw [List.getElem?_take, if_pos (Nat.lt_of_lt_of_le hjm hm1)]; exact hdj
     simp only
     rw [hupd, if_neg hne]
     cases hof : con.of i with
     | none => rfl
     | some e =>
      have hne2 : e.k ≠ j := by
       intro he
       have := (D1 hco hof).2.1
       rw [he, hby] at this; cases this
      simp only [hset e.k hne2]
      by_cases hoe : listed.getD e.k false = true
      case neg => rw [if_neg hoe, if_neg hoe]
      case pos =>
       rw [if_pos hoe, if_pos hoe]
       obtain ⟨_, _, _, _, _, _, h1, h2, h3⟩ := D1 hco hof
       have hli2 := hc _ hoe _ h2
       have hxd : e.x ≠ d := by
        refine Za5 (E1 hok) (i := e.i) (j := j) (fun he => by rw [he, hf] at hli2; cases hli2) ?_ ?_
        rw [List.getElem?_take, if_pos (Nat.lt_of_lt_of_le h1 hm1)]; exact h3
        rw [List.getElem?_take, if_pos (Nat.lt_of_lt_of_le hjm hm1)]; exact hdj
       rw [hupd, if_neg hxd]
    rfl)
  have hj' : U6 tab con l (upd f d v) (fun i => (listed.setIfInBounds j true).getD i false) j = (tab d).res v := by
   simp only [U6, hsj, hdj]
   cases hof : con.of j with
   | none => simp [hupd]
   | some e =>
    obtain ⟨_, hb1, _, _, hb2, _, _⟩ := D1 hco hof
    have hej : e.k ≠ j := by
     intro he; rw [he, hby] at hb1; cases hb1
    have hoff : listed.getD e.k false = false := by
     cases hq : listed.getD e.k false with
     | false => rfl
     | true => exact absurd (hc _ hq j hb2) (by rw [hf]; simp)
    simp [hset _ hej, hoff, hupd]
  rw [hj'] at key
  exact key
  intro t ht'
  rw [hupd, if_neg, hb t ht']
  rintro rfl
  have : inD (l.take m) t = true := by
   unfold inD
   refine List.any_eq_true.2 ⟨o, List.mem_of_getElem? (i := j) (by rw [List.getElem?_take, if_pos hjm]; exact ho), ?_⟩
   rw [hd]; simp
  rw [this] at ht'; cases ht'
  intro i d' hi hd'
  rw [hupd]
  by_cases e : d' = d
  subst e; rw [if_pos rfl]; exact hp
  rw [if_neg e]
  rcases Zb6 hi with rfl | h
  rw [ho] at hd'
  simp only [Option.bind_some] at hd'
  rw [hd] at hd'
  exact absurd (Option.some.inj hd').symm e
  exact (tab d').mono hs2 (hv i d' h hd')
  intro k c hk hi
  have hkj : k ≠ j := by
   intro e; rw [e, hby] at hk; cases hk
  rw [hset k hkj] at hi
  obtain ⟨hk0, _, _, him, hbit, hdst⟩ := Zq2 hco hk
  have hli := hc _ hi _ hbit
  have hne : c.d ≠ d := by
   refine Za5 (E1 hok) (i := c.mk_) (j := j) (fun he => by rw [he, hf] at hli; cases hli) ?_ ?_
   rw [List.getElem?_take, if_pos (Nat.lt_of_lt_of_le him hm1)]; exact hdst
   rw [List.getElem?_take, if_pos (Nat.lt_of_lt_of_le hjm hm1), ho]; exact hd
  rw [hupd, if_neg hne]
  exact c.qm hs2 (hqs k c hk hi)
 | some c =>
  rw [hby] at hstep
  obtain ⟨hc1, hof, _, him, hbit, hdst⟩ := Zq2 hco hby
  have hij : c.mk_ ≠ j := by
   intro he
   have := hmk _ hbit
   rw [he, hf] at this; cases this
  have honi := hmk _ hbit
  have hgi : U6 tab con l f (fun i => listed.getD i false) c.mk_ = (tab c.d).res (f c.d) := by
   simp only [U6, honi, hdst, hof, hc1, hf]; rfl
  have hsp := Zs6 (g := U6 tab con l f fun i => listed.getD i false) (j := c.mk_) (List.range m) List.nodup_range (List.mem_range.2 him)
  rw [hgi] at hsp
  have hS1 := hS.perm (List.Perm.append_right L hsp.symm)
  rw [List.append_assoc] at hS1
  refine J7 ho ha (hstep f w H' _ Z4 hS1 hb (fun i d hi hd => hv i d (hmk i hi) hd) (fun k c hk hi => hqs k c hk (hmk k hi))) ?_
  rintro f' a' w' ha' ⟨H'', hd, rfl, hs2, hS2, hq2⟩
  refine hK _ _ _ H'' ha' hs2 ?_ hb ?_ ?_ (fun t ht => rfl)
  rw [← List.append_assoc] at hS2
  refine hS2.perm (List.Perm.append_right L ?_)
  have hsp2 := Zs6 (g := U6 tab con l f' fun i => (listed.setIfInBounds j true).getD i false) (j := c.mk_) (List.range m) List.nodup_range (List.mem_range.2 him)
  have hgi2 : U6 tab con l f' (fun i => (listed.setIfInBounds j true).getD i false) c.mk_ = c.r (f' c.x) (f' c.d) := by
   simp only [U6, hset _ hij, honi, hdst, hof, hc1, hsj]; rfl
  rw [hgi2] at hsp2
  have hrest : ((List.range m).flatMap fun i => if i = c.mk_ then [] else U6 tab con l f' (fun i => (listed.setIfInBounds j true).getD i false) i) = (List.range m).flatMap fun i => if i = c.mk_ then [] else U6 tab con l f' (fun i => listed.getD i false) i := by
   refine Zp4 _ (fun i hi => ?_)
   by_cases e : i = c.mk_
   rw [if_pos e, if_pos e]
   rw [if_neg e, if_neg e]
   by_cases eij : i = j
   subst eij
   have : (l[i]?).bind (·.dst) = none := by rw [ho]; exact hd
   simp only [U6, this, hf, hsj]; rfl
   simp only [U6, hset i eij]
   cases hdi : (l[i]?).bind (·.dst) with
   | none => rfl
   | some d =>
    cases he' : con.of i with
    | none => rfl
    | some e' =>
     have hne2 : e'.k ≠ j := by
      intro hk
      have h1 := (D1 hco he').2.1
      rw [hk, hby] at h1
      have h2 := (D1 hco he').1
      rw [← Option.some.inj h1] at h2
      exact e h2.symm
     simp only [hset e'.k hne2]
  rw [hrest] at hsp2
  exact hsp2
  intro i d' hi hd'
  rcases Zb6 hi with rfl | h
  rw [ho] at hd'
  simp only [Option.bind_some] at hd'
  rw [hd] at hd'; cases hd'
  exact (tab d').mono hs2 (hv i d' h hd')
  intro k e hk hi
  by_cases hkj : k = j
  subst hkj
  rw [hby] at hk; cases hk
  exact hq2
  rw [hset k hkj] at hi
  exact e.qm hs2 (hqs k e hk hi)
theorem Ws8 (hres : ∀ v, (tab d0).res v = []) (hco : Zz9 con l m = true) (hnc : con.of j0 = none) (hok : Zg8 l (m + 1) = true) (hml : m + 1 ≤ l.length) (h0 : l[j0]? = some ⟨some d0, .move (.tmp s), T0, pos0, af0, none⟩) (hj0 : j0 < m) (hd0 : Nat.blt d0 n = true)
 (hdm : (l[m]?).bind (·.dst) = some dm) (hmid : ∀ i, i < m → i ≠ j0 → ((Q5 l []).getD m 0).testBit i = true) (hs0 : inD (l.take (m + 1)) s = false) (hp0 : ∀ H', Sub H H' → (tab d0).p H' (f0 s))
 (hq : J0 (Zc9 P n l m tab con H L f0) (l.take m) 0)
 (hm : ∀ o f w H', l[m]? = some o → Sub H H' → St H' w L → (∀ t, inD (l.take m) t = false → f t = f0 t) → (∀ i d, i < m → i ≠ j0 → (l[i]?).bind (·.dst) = some d → (tab d).p H' (f d)) →
  X6 P n l.toArray (fun f' w' => ∃ v H'', f' = upd f dm v ∧ Sub H' H'' ∧ B H'' w' v) [o] f w)
 (ht : ∀ f w H', Sub H H' → B H' w (f dm) → (∀ t, inD (l.take (m + 1)) t = false → f t = f0 t) → (∀ i d, i < m → (l[i]?).bind (·.dst) = some d → (tab d).p H' (f d)) → X6 P n l.toArray J (l.drop (m + 1)) f w) :
 ∀ (fuel : Nat) (listed : Array Bool) (a : Act) (w : World) (f : Fr) (H' : FH), listed.size = l.length → listed.toList.countP id + fuel = l.length →
  (∀ i, listed.getD i false = true → i < m + 1) → Yc1 l listed → Zg5 n a f → Sub H H' →
  (listed.getD m false = false → St H' w ((List.range m).flatMap (U6 tab con l f fun i => listed.getD i false) ++ L) ∧ (∀ t, inD (l.take m) t = false → f t = f0 t) ∧ (∀ k c, con.by_ k = some c → listed.getD k false = true → c.q H' (f c.d))) → (listed.getD m false = true → B H' w (f dm)) → (∀ t, inD (l.take (m + 1)) t = false → f t = f0 t) →
  (∀ i d, i < m → listed.getD i false = true → (l[i]?).bind (·.dst) = some d → (tab d).p H' (f d)) → wpAny P .any l.toArray (Yc2 n J) fuel listed a w := by
 have hne : ∀ i d, i < m → (l[i]?).bind (·.dst) = some d → d ≠ dm := fun i d hi hd =>
  Za5 (E1 hok) (i := i) (j := m) (by omega) (by rw [List.getElem?_take, if_pos (by omega)]; exact hd) (by rw [List.getElem?_take, if_pos (by omega)]; exact hdm)
 have hdd : ∀ i j d d', i ≠ j → i < m → j < m → (l[i]?).bind (·.dst) = some d → (l[j]?).bind (·.dst) = some d' → d ≠ d' := fun i j d d' hij hi hj hd hd' =>
  Za5 (E1 hok) (i := i) (j := j) hij (by rw [List.getElem?_take, if_pos (by omega)]; exact hd) (by rw [List.getElem?_take, if_pos (by omega)]; exact hd')
 intro fuel
 induction fuel with
 | zero =>
  intro listed a w f H' hs hcnt hlt hc ha Z4 hA hB hb hv
  have hall := Zw2 (xs := listed.toList) (by have := Array.length_toList (xs := listed); omega)
  have hget : ∀ i, i < l.length → listed.getD i false = true := fun i hi => by
   have := hall i (by simp; omega)
   rw [List.getD_eq_getElem?_getD] at this
   rw [Array.getD_eq_getD_getElem?]
   simpa using this
  have hme : m + 1 = l.length := by
   rcases Nat.lt_or_ge (m + 1) l.length with h | h
   have := hlt (m + 1) (hget (m + 1) h); omega
   omega
  refine ⟨?_, ?_⟩
  cases hr : Region.ready .any l.toArray listed with
  | nil => rfl
  | cons j r =>
   obtain ⟨o, ho, hj, hf, _⟩ := Zg1 hs (by rw [hr]; exact List.mem_cons_self ..)
   rw [hget j (by omega)] at hf; cases hf
  have := ht f w H' Z4 (hB (hget m (by omega))) hb (fun i d hi hd => hv i d hi (hget i (by omega)) hd) a ha
  rw [hme, List.drop_length] at this
  exact this
 | succ fuel ih =>
  intro listed a w f H' hs hcnt hlt hc ha Z4 hA hB hb hv
  by_cases hall : ∀ i, i < m + 1 → listed.getD i false = true
  have hk : ∀ i, listed.getD i false = decide (i < m + 1) := by
   intro i
   by_cases h : i < m + 1
   rw [hall i h]; exact (decide_eq_true h).symm
   cases hg : listed.getD i false with
   | false => exact (decide_eq_false h).symm
   | true => exact absurd (hlt i hg) h
  have hcm : listed.toList.countP id = m + 1 := by
   refine Yw1 _ (m + 1) (by simp; omega) (fun i => ?_)
   rw [← hk i, List.getD_eq_getElem?_getD, Array.getD_eq_getD_getElem?]
   simp
  exact Ye7 hok (fuel + 1) (m + 1) listed a w hs (by omega) (Nat.le_refl _) hk (ht f w H' Z4 (hB (hall m (by omega))) hb (fun i d hi hd => hv i d hi (hall i (by omega)) hd) a ha)
  refine ⟨fun hr => ?_, fun j hj => ?_⟩
  exact absurd (fun i hi => Yb0 hs (Zp7 hok) hr i (by omega)) hall
  obtain ⟨o, ho, hjs, hf, he⟩ := Zg1 hs hj
  obtain ⟨hmk, hc'⟩ := Zy2 ho hc hjs he
  have hjl : j < l.length := by omega
  have hjm : j < m + 1 := by
   rcases Nat.lt_or_ge j (m + 1) with h | h
   exact h
   exact absurd (fun i hi => hmk i (Zu3 hok j h hjl i (by omega))) hall
  have hset : ∀ i, i ≠ j → (listed.setIfInBounds j true).getD i false = listed.getD i false := fun i hij => by
   rw [Array.getD_eq_getD_getElem?, Array.getD_eq_getD_getElem?, Array.getElem?_setIfInBounds, if_neg (fun h => hij h.symm)]
  have hsj : (listed.setIfInBounds j true).getD j false = true := by rw [Array.getD_eq_getD_getElem?, Array.getElem?_setIfInBounds]; simp [hjs]
  have hx : listed.toList[j]? = some false := by
   rw [Array.getD_eq_getD_getElem?] at hf
   simpa [hjs] using hf
  have hcnt' : (listed.setIfInBounds j true).toList.countP id + fuel = l.length := by
   have := Zx4 listed.toList j hx
   rw [Array.toList_setIfInBounds]; rw [this]; omega
  have hlt' : ∀ i, (listed.setIfInBounds j true).getD i false = true → i < m + 1 := by
   intro i hi
   rcases Zb6 hi with rfl | h
   exact hjm
   exact hlt i h
  by_cases ejm : j = m
  subst ejm
  obtain ⟨hS, hbA, _⟩ := hA hf
  have hS := hS.dropA
  refine J7 ho ha (hm o f w H' ho Z4 hS hbA (fun i d hi hij hd => hv i d hi (hmk i (hmid i hi hij)) hd)) ?_
  rintro f' a' w' ha' ⟨v, H'', rfl, hs2, hB2⟩
  refine ih (listed.setIfInBounds j true) a' w' (upd f dm v) H'' (by simpa using hs) hcnt' hlt' hc' ha' (Z4.trans hs2) (fun h => by rw [hsj] at h; cases h) (fun _ => by rw [Zd5, if_pos rfl]; exact hB2) ?_ ?_
  intro t ht'
  rw [Zd5, if_neg, hb t ht']
  rintro rfl
  rw [ho] at hdm
  rw [Zy4 ho (by omega) hdm] at ht'; cases ht'
  intro i d hi hil hd
  rw [Zd5, if_neg (hne i d hi hd)]
  rw [hset i (by omega)] at hil
  exact (tab d).mono hs2 (hv i d hi hil hd)
  have hjm' : j < m := by omega
  by_cases hlm : listed.getD m false = true
  have ej : j = j0 := by
   by_cases e : j = j0
   exact e
   have := hc m hlm j (hmid j hjm' e)
   rw [hf] at this; cases this
  subst ej
  rw [h0] at ho; cases ho
  have hB1 := hB hlm
  have hd : (l[j]?).bind (·.dst) = some d0 := by rw [h0]; rfl
  have hfs : f s = f0 s := hb s hs0
  refine J7 h0 ha (J1 := fun f' w' => f' = upd f d0 (f0 s) ∧ w' = w) (Z3 (f0 s) hfs hd0 (Z2 ⟨rfl, rfl⟩)) ?_
  rintro f' a' w' ha' ⟨rfl, rfl⟩
  refine ih (listed.setIfInBounds j true) a' w' (upd f d0 (f0 s)) H' (by simpa using hs) hcnt' hlt' hc' ha' Z4 (fun h => by rw [hset m (by omega), hlm] at h; cases h) (fun _ => by
   rw [Zd5, if_neg (hne j d0 hjm' hd).symm]; exact hB1) ?_ ?_
  intro t ht'
  rw [Zd5, if_neg, hb t ht']
  rintro rfl
  rw [Zy4 h0 (by omega) rfl] at ht'; cases ht'
  intro i d hi hil hd'
  rw [Zd5]
  by_cases e : d = d0
  subst e; rw [if_pos rfl]; exact hp0 H' Z4
  rw [if_neg e]
  rcases Zb6 hil with rfl | h
  rw [hd] at hd'; exact absurd (Option.some.inj hd').symm e
  exact hv i d hi h hd'
  have hlm : listed.getD m false = false := by simpa using hlm
  obtain ⟨hS, hbA, hqA⟩ := hA hlm
  have hltm : ∀ i, listed.getD i false = true → i < m := fun i hi => by
   have := hlt i hi
   rcases Nat.lt_or_ge i m with h | h
   exact h
   have : i = m := by omega
   rw [this, hlm] at hi; cases hi
  refine Wi4 (m1 := m + 1) (by omega) hok hco hq hs hltm hc Z4 hS hbA (fun i d hi hd => hv i d (hltm i hi) hi hd) hqA ho hjs hjm' hf hmk ha ?_
  intro f' a' w' H'' ha' hs2 hS2 hb2 hv2 hq2 hfr
  refine ih (listed.setIfInBounds j true) a' w' f' H'' (by simpa using hs) hcnt' hlt' hc' ha' (Z4.trans hs2) (fun _ => ⟨hS2, hb2, hq2⟩) (fun h => by rw [hset m (by omega), hlm] at h; cases h) ?_ (fun i d _ hi hd => hv2 i d hi hd)
  intro t ht'
  exact hb2 t (Vd0 ht')
end
theorem Wp6 {P : Program} {n : Nat} {g : FuncId} {R : Ending → World → Prop} {K : List Item} {l : List Oper} {id : Nat} {H : FH} {L : OL} {f0 : Fr} {w : World} {j0 d0 s dm : Nat} {T0 : TypeId} {pos0 : String} {af0 : Array Edge}
 (m : Nat) (tab : Nat → MP) (con : Con) (B : FH → World → Value → Prop) (hmix : P.follows .mixedOrders = true) (hok : Zg8 l (m + 1) = true) (hco : Zz9 con l m = true) (hml : Nat.ble (m + 1) l.length = true)
 (h0 : l[j0]? = some ⟨some d0, .move (.tmp s), T0, pos0, af0, none⟩) (hj0 : Nat.blt j0 m = true) (hd0 : Nat.blt d0 n = true) (hres : ∀ v, (tab d0).res v = []) (hnc : con.of j0 = none) {om : Oper} (hom : l[m]? = some om) (hdm : (l[m]?).bind (·.dst) = some dm)
 (hmid : ((List.range m).all fun i => Nat.beq i j0 || ((Q5 l []).getD m 0).testBit i) = true) (hs0 : inD (l.take (m + 1)) s = false) (hp0 : ∀ H', Sub H H' → (tab d0).p H' (f0 s)) (hS : St H w L)
 (hq : J0 (Zc9 P n l m tab con H L f0) (l.take m) 0)
 (hm : ∀ f w H', Sub H H' → St H' w L → (∀ t, inD (l.take m) t = false → f t = f0 t) → (∀ i d, i < m → i ≠ j0 → (l[i]?).bind (·.dst) = some d → (tab d).p H' (f d)) →
  X6 P n l.toArray (fun f' w' => ∃ v H'', f' = upd f dm v ∧ Sub H' H'' ∧ B H'' w' v) [om] f w)
 (ht : ∀ f w H', Sub H H' → B H' w (f dm) → (∀ t, inD (l.take (m + 1)) t = false → f t = f0 t) → (∀ i d, i < m → (l[i]?).bind (·.dst) = some d → (tab d).p H' (f d)) → X6 P n l.toArray (fun f' w' => Run P n g R K f' w') (l.drop (m + 1)) f w) :
 Run P n g R (.code (.region id l.toArray true) :: K) f0 w := by
 intro a ha b cs hb hk
 have hml' : m + 1 ≤ l.length := by simpa [Nat.ble_eq] using hml
 have hj0' : j0 < m := by simpa [Nat.blt_eq] using hj0
 have hz : ∀ i, (Array.replicate l.length false).getD i false = false := fun i => by rw [Array.getD_eq_getD_getElem?, Array.getElem?_replicate]; split <;> rfl
 have hwp : (Code.region id l.toArray true).wp P (Yc2 n (fun f' w' => Run P n g R K f' w')) a w := by
  refine wp_region_any hmix ?_
  have := Ws8 (P := P) (J := fun f' w' => Run P n g R K f' w') hres hco hnc hok hml' h0 hj0' hd0 hdm (fun i hi hne => by
   have h := List.all_eq_true.1 hmid i (List.mem_range.2 hi)
   rcases Bool.or_eq_true .. |>.mp h with h | h
   exact absurd (Nat.eq_of_beq_eq_true h) hne
   exact h) hs0 hp0 hq (fun o f w H' ho => by rw [hom] at ho; cases ho; exact hm f w H') ht l.length (Array.replicate l.length false) a w.drew f0 H (by simp) (by simp [List.countP_replicate]) (fun i hi => by rw [hz] at hi; cases hi)
   (fun i hi => by rw [hz] at hi; cases hi) ha (Sub.refl _) (fun _ => ⟨by
    have e : (List.range m).flatMap (U6 tab con l f0 fun i => (Array.replicate l.length false).getD i false) = [] := by
     refine List.flatMap_eq_nil_iff.2 fun i hi => ?_
     simp only [U6, hz]; rfl
    rw [e]; exact hS.drew, fun _ _ => rfl, fun k c _ hi => by rw [hz] at hi; cases hi⟩) (fun h => by rw [hz] at h; cases h) (fun _ _ => rfl) (fun i d _ hi => by rw [hz] at hi; cases hi)
  simpa using this
 obtain ⟨e, a', w', ⟨rfl, f', ha', hJ⟩, harr⟩ := hwp b K cs
 obtain ⟨e, w'', fr, hR, hc, hf, hl⟩ := hJ a' ha' b cs hb hk
 exact ⟨e, w'', fr, hR, .of_steps harr hc, hf, hl⟩
def P8 (K : Nat) (a0 : (List Int)) (a1 : A8) : Nat → Int → Option (Ex Bool (Unit))
 | 0, _ => none
 | k + 1, a3 => (if a3 < 8 then (if (a0.length : Int) ≤ a3 then (if (Y4 a1 a3) = 0 then P8 K a0 a1 k (a3 + 1) else some (.ret false)) else (if 20 < (Y4 a1 a3) then some (.ret false) else (if a3 < (a0.length : Int) then (if (((rd a0 a3)).tmod 2) = 0 then P8 K a0 a1 k (a3 + 1) else (if 1 < (Y4 a1 a3) then some (.ret false) else P8 K a0 a1 k (a3 + 1))) else none))) else some (.go ()))
def Zs2 (K : Nat) (a0 : (List Int)) (a1 : A8) : Option Bool := ((P8 K a0 a1 K 0).bind (Ex.elim (fun r => some r) (fun s => some true)))
theorem Zq5 {a0 : (List Int)} {a1 : A8} {r : Bool} (q0 : Zs2 K a0 a1 = some r) (b2 : Y3 (Y5 .i64) H s0 a0) (hS : St H w L) :
 Calls prog 228 #[s0, vA (Z6 .u8 a1)] w (U7 (fun v G => R.bool.p G v r) H L) := by
 have Z4 := Sub.refl H
 refine X0 func228 rfl ntmps228 rfl ?_
 unfold Zs2 at q0
 refine Z1 (Z0 ?_)
 refine T7 (v := vA (Z6 .u8 a1)) (Z6 .u8 a1).toArray rfl rfl hS rfl ?_
 intro b1 _ hS
 refine Z5 (vB false) rfl rfl (Z2 (Z1 (Z1 (Z0 (Z5 (vI 0) rfl rfl (Z2 (Y8 ?_)))))))
 obtain ⟨b5, a4, b0⟩ := bind_some q0
 refine W0 (id := 0) (fun k f w => ∃ (a3 : Int) (H1 : FH), P8 K a0 a1 k a3 = some b5 ∧ Sub H H1 ∧ St H1 w ([(b1, cA (Z6 .u8 a1) 72)] ++ L) ∧ 0 ≤ a3 ∧ Y3 (Y5 .i64) H1 s0 a0 ∧ tv f 0 = s0 ∧ tv f 3 = vP b1 ∧ tv f 5 = vI a3) (fun f w => ∃ (H1 : FH), b5 = .go () ∧ Sub H H1 ∧ St H1 w ([(b1, cA (Z6 .u8 a1) 72)] ++ L)) rfl ?_ ?_ K ?_ ?_
 rintro f w ⟨a3, H1, a4, _⟩
 rw [P8] at a4; cases a4
 rintro k _ _ b6 c3 ⟨a3, b3, a4, Z4, hS, _, b2, a9, a7, a5⟩
 rw [P8] at a4
 refine Z1 (Z1 (Z0 (Z3 (vI a3) (by exact a5) rfl ?_)))
 refine W8 (k := .i64) (a := a3) (b := 8) rfl rfl rfl (Z2 ?_)
 obtain ⟨b7, a4⟩ | ⟨b7, a4⟩ := ic a4
 refine Z8 (bT b7 rfl) (Y6 (Z1 (Y8 (Y8 (Z1 (Z0 (Z3 (vI a3) (by exact a5) rfl (Z3 (s0) (by exact a9) rfl ?_))))))))
 have c4 := b2.bound
 refine X9 U5 rfl b2 rfl ?_
 refine Ya0 (k := .i64) (a := a3) (b := (a0.length : Int)) rfl rfl rfl (Z5 (vB (decide ((a0.length : Int) ≤ a3))) rfl rfl (Z2 ?_))
 obtain ⟨b8, a4⟩ | ⟨b8, a4⟩ := ic a4
 refine Z8 (bT b8 rfl) (Z1 (Z0 (Z3 (vI a3) (by exact a5) rfl ?_)))
 refine V5 Ze8 (by exact a7) rfl (by omega) (by omega) rfl ?_
 refine Y0 (Value.int .u8 (Y4 a1 a3)) ty5 rfl (hS.get (o := cA (Z6 .u8 a1) 72) mL) (J3 ([]) ([]) (by omega) (by omega)) rfl ?_
 refine M0 (k := .u8) (a := (Y4 a1 a3)) (b := 0) rfl rfl rfl (Z2 ?_)
 obtain ⟨b9, a4⟩ | ⟨b9, a4⟩ := ic a4
 refine Z7 (bN b9 rfl) (Y6 (X1 (X1 (Z0 (Z3 (vI a3) (by exact a5) rfl ?_)))))
 refine W2 (a3 + 1) rfl rfl (IntWalk.i64_in _ (by omega)) rfl (Z5 (vI (a3 + 1)) rfl rfl (Z2 ?_))
 exact b6 _ _ ⟨(a3 + 1), b3, a4, Z4, hS, (by omega), b2, a9, a7, rfl⟩
 refine Z8 (bO b9 rfl) (Z1 (Z0 (Z5 (vB false) rfl rfl (Z2 ?_))))
 refine Y9 (vs := [vB false]) func228 ⟨rfl, trivial⟩ ?_
 obtain rfl := oi a4
 dsimp only [Ex.elim] at b0
 obtain rfl := oi b0
 exact ⟨_, _, rfl, Z4, (St.dropA hS), rfl⟩
 refine Z7 (bF b8 rfl) (Z1 (Z0 (Z3 (vI a3) (by exact a5) rfl ?_)))
 refine V5 Ze8 (by exact a7) rfl (by omega) (by omega) rfl ?_
 refine Y0 (Value.int .u8 (Y4 a1 a3)) ty5 rfl (hS.get (o := cA (Z6 .u8 a1) 72) mL) (J3 ([]) ([]) (by omega) (by omega)) rfl ?_
 refine Za9 (k := .u8) (a := (Y4 a1 a3)) (b := 20) rfl rfl rfl (Z3 (vB (decide (20 < (Y4 a1 a3)))) rfl rfl ?_)
 obtain ⟨a6, a4⟩ | ⟨a6, a4⟩ := ic a4
 refine Z9 rfl rfl (bT a6 rfl) rfl rfl rfl (Z9 rfl rfl (bT a6 rfl) rfl rfl rfl (Z9 rfl rfl (bT a6 rfl) rfl rfl rfl (Z9 rfl rfl (bT a6 rfl) rfl rfl rfl (Z9 rfl rfl (bT a6 rfl) rfl rfl rfl (Z9 rfl rfl (bT a6 rfl) rfl rfl rfl (Z9 rfl rfl (bT a6 rfl) rfl rfl rfl ?_))))))
 refine U2 rfl rfl rfl rfl rfl ?_
 refine U2 rfl rfl rfl rfl rfl ?_
 refine U2 rfl rfl rfl rfl rfl ?_
 refine U2 rfl rfl rfl rfl rfl (Z9 rfl rfl (bT a6 rfl) rfl rfl rfl ?_)
 refine W6 (t := true) (vB true) (bT a6 rfl) ((if_pos rfl).trans rfl) rfl (Z5 (vB true) rfl rfl (Z2 (Z8 rfl (Z1 (Z0 (Z5 (vB false) rfl rfl (Z2 ?_)))))))
 refine Y9 (vs := [vB false]) func228 ⟨rfl, trivial⟩ ?_
 obtain rfl := oi a4
 dsimp only [Ex.elim] at b0
 obtain rfl := oi b0
 exact ⟨_, _, rfl, Z4, (St.dropA hS), rfl⟩
 refine Y1 rfl rfl (bF a6 rfl) (Z3 (s0) (by exact a9) rfl ?_)
 refine Y1 rfl rfl (bF a6 rfl) (Z3 (vI a3) (by exact a5) rfl ?_)
 refine Y1 rfl rfl (bF a6 rfl) ?_
 obtain ⟨_, a4⟩ := gd a4
 obtain ⟨_, _, _, _, _, c0, c1, rfl, c2⟩ := b2.elem (i := a3) (by omega) (by omega)
 refine X5 U5 rfl rfl c0 rfl (by omega) (by omega) rfl ?_
 refine Y1 rfl rfl (bF a6 rfl) ?_
 refine Y0 (vI (rd a0 a3)) ty2 rfl (hS.froz _ _ c1) (c2 0 (show 0 < 1 by decide)) rfl ?_
 refine Y1 rfl rfl (bF a6 rfl) ?_
 refine Zc1 (((rd a0 a3)).tmod 2) rfl rfl (by decide) rfl rfl ?_
 refine Y1 rfl rfl (bF a6 rfl) ?_
 refine M0 (k := .i64) (a := (((rd a0 a3)).tmod 2)) (b := 0) rfl rfl rfl ?_
 refine Y1 rfl rfl (bF a6 rfl) (Z3 (vB (!decide ((((rd a0 a3)).tmod 2) = 0))) rfl rfl ?_)
 obtain ⟨a8, a4⟩ | ⟨a8, a4⟩ := ic a4
 refine Z9 rfl rfl (bN a8 rfl) rfl rfl rfl (Z9 rfl rfl (bN a8 rfl) rfl rfl rfl (Z9 rfl rfl (bN a8 rfl) rfl rfl rfl (Z9 rfl rfl (bN a8 rfl) rfl rfl rfl ?_)))
 refine Y1 rfl rfl (bF a6 rfl) ?_
 refine W6 (t := false) (vB false) (bN a8 rfl) ((if_neg Bool.false_ne_true).trans rfl) rfl ?_
 refine W6 (t := false) (vB false) (bF a6 rfl) ((if_neg Bool.false_ne_true).trans rfl) rfl (Z5 (vB false) rfl rfl (Z2 (Z7 rfl (Y6 (X1 (X1 (Z0 (Z3 (vI a3) (by exact a5) rfl ?_))))))))
 refine W2 (a3 + 1) rfl rfl (IntWalk.i64_in _ (by omega)) rfl (Z5 (vI (a3 + 1)) rfl rfl (Z2 ?_))
 exact b6 _ _ ⟨(a3 + 1), b3, a4, Z4, hS, (by omega), b2, a9, a7, rfl⟩
 refine Y1 rfl rfl (bO a8 rfl) (Z3 (vI a3) (by exact a5) rfl ?_)
 refine Y1 rfl rfl (bO a8 rfl) ?_
 refine V5 Ze8 (by exact a7) rfl (by omega) (by omega) rfl ?_
 refine Y1 rfl rfl (bO a8 rfl) ?_
 refine Y0 (Value.int .u8 (Y4 a1 a3)) ty5 rfl (hS.get (o := cA (Z6 .u8 a1) 72) mL) (J3 ([]) ([]) (by omega) (by omega)) rfl ?_
 refine Y1 rfl rfl (bO a8 rfl) ?_
 refine Za9 (k := .u8) (a := (Y4 a1 a3)) (b := 1) rfl rfl rfl ?_
 refine Y1 rfl rfl (bF a6 rfl) ?_
 refine W6 (t := true) (vB (decide (1 < (Y4 a1 a3)))) (bO a8 rfl) ((if_pos rfl).trans rfl) rfl ?_
 refine W6 (t := false) (vB (decide (1 < (Y4 a1 a3)))) (bF a6 rfl) ((if_neg Bool.false_ne_true).trans rfl) rfl (Z5 (vB (decide (1 < (Y4 a1 a3)))) rfl rfl (Z2 ?_))
 obtain ⟨b4, a4⟩ | ⟨b4, a4⟩ := ic a4
 refine Z8 (bT b4 rfl) (Z1 (Z0 (Z5 (vB false) rfl rfl (Z2 ?_))))
 refine Y9 (vs := [vB false]) func228 ⟨rfl, trivial⟩ ?_
 obtain rfl := oi a4
 dsimp only [Ex.elim] at b0
 obtain rfl := oi b0
 exact ⟨_, _, rfl, Z4, (St.dropA hS), rfl⟩
 refine Z7 (bF b4 rfl) (Y6 (X1 (X1 (Z0 (Z3 (vI a3) (by exact a5) rfl ?_)))))
 refine W2 (a3 + 1) rfl rfl (IntWalk.i64_in _ (by omega)) rfl (Z5 (vI (a3 + 1)) rfl rfl (Z2 ?_))
 exact b6 _ _ ⟨(a3 + 1), b3, a4, Z4, hS, (by omega), b2, a9, a7, rfl⟩
 refine Z7 (bF b7 rfl) ?_
 refine X7 rfl ?_
 obtain rfl := oi a4
 exact c3 _ _ ⟨b3, rfl, Z4, hS⟩
 exact ⟨0, H, a4, Z4, hS, (by omega), b2, rfl, rfl, rfl⟩
 rintro _ _ ⟨_, rfl, Z4, hS⟩
 dsimp only [Ex.elim] at b0
 refine Z1 (Z0 (Z5 (vB true) rfl rfl (Z2 ?_)))
 refine Y9 (vs := [vB true]) func228 ⟨rfl, trivial⟩ ?_
 obtain rfl := oi b0
 exact ⟨_, _, rfl, Z4, (St.dropA hS), rfl⟩
def G8 (K : Nat) (a0 : MpT) (a3 : Int) : Nat → Int → Int → Option (Ex Int (Int))
 | 0, _, _ => none
 | k + 1, a5, a4 => (if a4 < 8 then (if (Y4 ((rd a0 a3).1) a4) = (IntKind.u8.wrap a5) then G8 K a0 a3 k (IntKind.i64.wrap (a5 + 1)) (a4 + 1) else some (.ret (-1))) else some (.go a5))
def K4 (K : Nat) (a0 : MpT) : Nat → Int → Int → Option (Ex Int (Int))
 | 0, _, _ => none
 | k + 1, a9, a3 => (if a3 < (a0.length : Int) then ((G8 K a0 a3 K a9 0).bind (Ex.elim (fun r => some (.ret r)) (fun s => (fun (a7 : Int) => (if (rd a0 a3).2 = a7 then K4 K a0 k (IntKind.i64.wrap (a7 + 1)) (a3 + 1) else some (.ret (-1)))) s))) else some (.go a9))
def Zn2 (K : Nat) (a0 : MpT) (a1 : Int) : Option Int := ((K4 K a0 K a1 0).bind (Ex.elim (fun r => some r) (fun s => (fun (b1 : Int) => some b1) s)))
theorem Ys6 {a0 : MpT} {a1 : Int} {r : Int} (q0 : Zn2 K a0 a1 = some r) (b0 : Y3 yT H s0 a0) (hS : St H w L) :
 Calls prog 102 #[s0, vI a1] w (U7 (fun v G => (R.int .i64).p G v r) H L) := by
 have Z4 := Sub.refl H
 refine X0 func102 rfl ntmps102 rfl ?_
 unfold Zn2 at q0
 refine Z1 (Z0 (Z5 (vI 0) rfl rfl (Z2 (Z1 (Z1 (Z0 (Z5 (vI 0) rfl rfl (Z2 (Y8 ?_)))))))))
 obtain ⟨c5, a8, b3⟩ := bind_some q0
 refine W0 (id := 0) (fun k f w => ∃ (a9 : Int) (a3 : Int) (H1 : FH), K4 K a0 k a9 a3 = some c5 ∧ Sub H H1 ∧ St H1 w (L) ∧ 0 ≤ a3 ∧ Y3 yT H1 s0 a0 ∧ tv f 0 = s0 ∧ tv f 1 = vI a9 ∧ tv f 5 = vI a3) (fun f w => ∃ (b1 : Int) (H1 : FH), c5 = .go b1 ∧ Sub H H1 ∧ St H1 w (L) ∧ tv f 1 = vI b1) rfl ?_ ?_ K ?_ ?_
 rintro f w ⟨a9, a3, H1, a8, _⟩
 rw [K4] at a8; cases a8
 rintro k _ _ d4 d5 ⟨a9, a3, c6, a8, Z4, hS, _, b0, b8, b9, c0⟩
 rw [K4] at a8
 refine Z1 (Z1 (Z0 (Z3 (vI a3) (by exact c0) rfl (Z3 (s0) (by exact b8) rfl ?_))))
 have e4 := b0.bound
 refine X9 R9 rfl b0 rfl ?_
 refine W8 (k := .i64) (a := a3) (b := (a0.length : Int)) rfl rfl rfl (Z2 ?_)
 obtain ⟨c7, a8⟩ | ⟨c7, a8⟩ := ic a8
 refine Z8 (bT c7 rfl) (Y6 (Z1 (Y8 (Z1 (Z1 (Z0 (Z5 (vI 0) rfl rfl (Z2 (Y8 ?_)))))))))
 obtain ⟨c8, a6, b2⟩ := bind_some a8
 refine W0 (id := 2) (fun k f w => ∃ (a5 : Int) (a4 : Int) (H1 : FH), G8 K a0 a3 k a5 a4 = some c8 ∧ Sub H H1 ∧ St H1 w (L) ∧ 0 ≤ a4 ∧ Y3 yT H1 s0 a0 ∧ tv f 0 = s0 ∧ tv f 1 = vI a5 ∧ tv f 5 = vI a3 ∧ tv f 6 = vI a4) (fun f w => ∃ (a7 : Int) (H1 : FH), c8 = .go a7 ∧ Sub H H1 ∧ St H1 w (L) ∧ Y3 yT H1 s0 a0 ∧ tv f 0 = s0 ∧ tv f 1 = vI a7 ∧ tv f 5 = vI a3) rfl ?_ ?_ K ?_ ?_
 rintro f w ⟨a5, a4, H1, a6, _⟩
 rw [G8] at a6; cases a6
 rintro k _ _ d6 d7 ⟨a5, a4, c9, a6, Z4, hS, _, b0, b4, b5, b6, b7⟩
 rw [G8] at a6
 refine Z1 (Z1 (Z0 (Z3 (vI a4) (by exact b7) rfl ?_)))
 refine W8 (k := .i64) (a := a4) (b := 8) rfl rfl rfl (Z2 ?_)
 obtain ⟨d0, a6⟩ | ⟨d0, a6⟩ := ic a6
 refine Z8 (bT d0 rfl) (Y6 (Z1 (Y8 (Z1 (Z1 (Z0 (Z3 (s0) (by exact b4) rfl (Z3 (vI a3) (by exact b6) rfl (Z3 (vI a4) (by exact b7) rfl ?_)))))))))
 obtain ⟨_, _, _, _, _, d8, d9, ⟨_, _, rfl, rfl, rfl⟩, e0⟩ := b0.elem (i := a3) (by omega) (by omega)
 refine X5 R9 rfl rfl d8 rfl (by omega) (by omega) rfl (Y2 M9 rfl rfl ?_)
 refine V5 Ze8 rfl rfl (by omega) (by omega) rfl ?_
 refine Y0 (Value.int .u8 (Y4 ((rd a0 a3).1) a4)) ty5 rfl (hS.froz _ _ d9) (Vd7 ([]) (([vI ((rd a0 a3).2)])) e0 (nl rfl) (by omega) (by omega)) rfl (Z3 (vI a5) (by exact b5) rfl ?_)
 refine Yk5 (s := .i64) ((IntKind.u8.wrap a5)) Wh4 rfl rfl rfl ?_
 refine M0 (k := .u8) (a := (Y4 ((rd a0 a3).1) a4)) (b := (IntKind.u8.wrap a5)) rfl rfl rfl (Z2 ?_)
 obtain ⟨d1, a6⟩ | ⟨d1, a6⟩ := ic a6
 refine Z7 (bN d1 rfl) (Y6 (Z0 (Z3 (vI a5) (by exact b5) rfl ?_)))
 refine W2 (IntKind.i64.wrap (a5 + 1)) rfl rfl rfl rfl (Z5 (vI (IntKind.i64.wrap (a5 + 1))) rfl rfl (Z2 (X1 (Z0 (Z3 (vI a4) (by exact b7) rfl ?_)))))
 refine W2 (a4 + 1) rfl rfl (IntWalk.i64_in _ (by omega)) rfl (Z5 (vI (a4 + 1)) rfl rfl (Z2 ?_))
 exact d6 _ _ ⟨(IntKind.i64.wrap (a5 + 1)), (a4 + 1), c9, a6, Z4, hS, (by omega), b0, b4, rfl, b6, rfl⟩
 refine Z8 (bO d1 rfl) (Z1 (Z0 (Z5 (vI (-1)) rfl rfl (Z2 ?_))))
 refine Y9 (vs := [vI (-1)]) func102 ⟨rfl, trivial⟩ ?_
 obtain rfl := oi a6
 dsimp only [Ex.elim] at b2
 obtain rfl := oi b2
 dsimp only [Ex.elim] at b3
 obtain rfl := oi b3
 exact ⟨_, _, rfl, Z4, hS, rfl⟩
 refine Z7 (bF d0 rfl) ?_
 refine X7 rfl ?_
 obtain rfl := oi a6
 exact d7 _ _ ⟨a5, c9, rfl, Z4, hS, b0, b4, b5, b6⟩
 exact ⟨a9, 0, c6, a6, Z4, hS, (by omega), b0, b8, b9, c0, rfl⟩
 rintro _ _ ⟨a7, d3, rfl, Z4, hS, b0, c1, c2, c3⟩
 dsimp only [Ex.elim] at b2
 refine Z1 (Z1 (Z0 (Z3 (s0) (by exact c1) rfl (Z3 (vI a3) (by exact c3) rfl ?_))))
 obtain ⟨_, _, _, _, _, e1, e2, ⟨_, _, rfl, rfl, rfl⟩, e3⟩ := b0.elem (i := a3) (by omega) (by omega)
 refine X5 R9 rfl rfl e1 rfl (by omega) (by omega) rfl (Y2 Ze3 rfl rfl ?_)
 refine Y0 (vI ((rd a0 a3).2)) ty2 rfl (hS.froz _ _ e2) (e3 8 (show 8 < 9 by decide)) rfl (Z3 (vI a7) (by exact c2) rfl ?_)
 refine M0 (k := .i64) (a := (rd a0 a3).2) (b := a7) rfl rfl rfl (Z2 ?_)
 obtain ⟨d2, b2⟩ | ⟨d2, b2⟩ := ic b2
 refine Z7 (bN d2 rfl) (Y6 (Z0 (Z3 (vI a7) (by exact c2) rfl ?_)))
 refine W2 (IntKind.i64.wrap (a7 + 1)) rfl rfl rfl rfl (Z5 (vI (IntKind.i64.wrap (a7 + 1))) rfl rfl (Z2 (X1 (Z0 (Z3 (vI a3) (by exact c3) rfl ?_)))))
 refine W2 (a3 + 1) rfl rfl (IntWalk.i64_in _ (by omega)) rfl (Z5 (vI (a3 + 1)) rfl rfl (Z2 ?_))
 exact d4 _ _ ⟨(IntKind.i64.wrap (a7 + 1)), (a3 + 1), d3, b2, Z4, hS, (by omega), b0, c1, rfl, rfl⟩
 refine Z8 (bO d2 rfl) (Z1 (Z0 (Z5 (vI (-1)) rfl rfl (Z2 ?_))))
 refine Y9 (vs := [vI (-1)]) func102 ⟨rfl, trivial⟩ ?_
 obtain rfl := oi b2
 dsimp only [Ex.elim] at b3
 obtain rfl := oi b3
 exact ⟨_, _, rfl, Z4, hS, rfl⟩
 refine Z7 (bF c7 rfl) ?_
 refine X7 rfl ?_
 obtain rfl := oi a8
 exact d5 _ _ ⟨a9, c6, rfl, Z4, hS, b9⟩
 exact ⟨a1, 0, H, a8, Z4, hS, (by omega), b0, rfl, rfl, rfl⟩
 rintro _ _ ⟨b1, _, rfl, Z4, hS, c4⟩
 dsimp only [Ex.elim] at b3
 refine Z1 (Z0 (Z3 (vI b1) (by exact c4) rfl (Z5 (vI b1) rfl rfl (Z2 ?_))))
 refine Y9 (vs := [vI b1]) func102 ⟨rfl, trivial⟩ ?_
 obtain rfl := oi b3
 exact ⟨_, _, rfl, Z4, hS, rfl⟩
def F1 (K : Nat) (a0 : (List Int)) (a1 : A8) : Nat → Int → Int → Option (Ex Int (Int))
 | 0, _, _ => none
 | k + 1, a4, a3 => (if a3 < (a0.length : Int) then (if a3 < 8 then F1 K a0 a1 k (IntKind.i64.wrap (a4 + (IntKind.i64.wrap ((rd a0 a3) * (IntKind.i64.wrap (Y4 a1 a3)))))) (a3 + 1) else none) else some (.go a4))
def Za1 (K : Nat) (a0 : (List Int)) (a1 : A8) : Option Int := ((F1 K a0 a1 K 0 0).bind (Ex.elim (fun r => some r) (fun s => (fun (a6 : Int) => some a6) s)))
theorem Zu6 {a0 : (List Int)} {a1 : A8} {r : Int} (q0 : Za1 K a0 a1 = some r) (a9 : Y3 (Y5 .i64) H s0 a0) (hS : St H w L) :
 Calls prog 207 #[s0, vA (Z6 .u8 a1)] w (U7 (fun v G => (R.int .i64).p G v r) H L) := by
 have Z4 := Sub.refl H
 refine X0 func207 rfl ntmps207 rfl ?_
 unfold Za1 at q0
 refine Z1 (Z0 ?_)
 refine T7 (v := vA (Z6 .u8 a1)) (Z6 .u8 a1).toArray rfl rfl hS rfl ?_
 intro b1 _ hS
 refine Z5 (vI 0) rfl rfl (Z2 (Z1 (Z0 (Z5 (vI 0) rfl rfl (Z2 (Z1 (Z1 (Z0 (Z5 (vI 0) rfl rfl (Z2 (Y8 ?_)))))))))))
 obtain ⟨b6, a5, b7⟩ := bind_some q0
 refine W0 (id := 0) (fun k f w => ∃ (a4 : Int) (a3 : Int) (H1 : FH), F1 K a0 a1 k a4 a3 = some b6 ∧ Sub H H1 ∧ St H1 w ([(b1, cA (Z6 .u8 a1) 72)] ++ L) ∧ 0 ≤ a3 ∧ Y3 (Y5 .i64) H1 s0 a0 ∧ tv f 0 = s0 ∧ tv f 3 = vP b1 ∧ tv f 5 = vI a4 ∧ tv f 6 = vI a3) (fun f w => ∃ (a6 : Int) (H1 : FH), b6 = .go a6 ∧ Sub H H1 ∧ St H1 w ([(b1, cA (Z6 .u8 a1) 72)] ++ L) ∧ tv f 5 = vI a6) rfl ?_ ?_ K ?_ ?_
 rintro f w ⟨a4, a3, H1, a5, _⟩
 rw [F1] at a5; cases a5
 rintro k _ _ c6 c7 ⟨a4, a3, c1, a5, Z4, hS, _, a9, a8, b0, b2, a7⟩
 rw [F1] at a5
 refine Z1 (Z1 (Z0 (Z3 (vI a3) (by exact a7) rfl (Z3 (s0) (by exact a8) rfl ?_))))
 have d0 := a9.bound
 refine X9 U5 rfl a9 rfl ?_
 refine W8 (k := .i64) (a := a3) (b := (a0.length : Int)) rfl rfl rfl (Z2 ?_)
 obtain ⟨b8, a5⟩ | ⟨b8, a5⟩ := ic a5
 refine Z8 (bT b8 rfl) (Y6 (Z1 (Y8 ?_)))
 obtain ⟨c8, c9, _, _, _, c2, c3, rfl, c4⟩ := a9.elem (i := a3) (by omega) (by omega)
 obtain ⟨_, a5⟩ := gd a5
 refine W7 11 (S9 [mE 13 (vI a4), mE 14 (s0), mE 15 (vI a3), mE 16 (vQ c8 c9), mE 17 (vI (rd a0 a3)), mE 18 (vI a3), mE 19 (vQ b1 (0 + (a3).toNat * 1)), mE 20 (Value.int .u8 (Y4 a1 a3)), mE 21 (vI (IntKind.i64.wrap (Y4 a1 a3))), mE 22 (vI (IntKind.i64.wrap ((rd a0 a3) * (IntKind.i64.wrap (Y4 a1 a3))))), mE 23 (vI (IntKind.i64.wrap (a4 + (IntKind.i64.wrap ((rd a0 a3) * (IntKind.i64.wrap (Y4 a1 a3)))))))]) [] mixed rfl rfl rfl hS (V9 ?_ ?_ ?_ ?_ ?_ ?_ ?_ ?_ (J2 ?_ ?_ (E8 ?_ V1))) ?_
 exact X4 fun S B => Z3 (vI a4) (evT (B 5 rfl) b2) rfl (qz S)
 exact X4 fun S B => Z3 (s0) (evT (B 0 rfl) a8) rfl (qz S)
 exact X4 fun S B => Z3 (vI a3) (evT (B 6 rfl) a7) rfl (qz S)
 exact Y7 fun S V => X5 U5 rfl (eM (V 1 14 rfl rfl)) c2 (eM (V 2 15 rfl rfl)) (by omega) (by omega) rfl (qz S)
 exact P0 fun s S V => Y0 (vI (rd a0 a3)) ty2 (eM (V 3 16 rfl rfl)) (S.froz _ _ (s.1 _ _ c3)) (c4 0 (show 0 < 1 by decide)) rfl (qz S)
 exact X4 fun S B => Z3 (vI a3) (evT (B 6 rfl) a7) rfl (qz S)
 exact L3 fun S B V => V5 Ze8 (evT (B 3 rfl) b0) (eM (V 5 18 rfl rfl)) (by omega) (by omega) rfl (qz S)
 exact Y7 fun S V => Y0 (Value.int .u8 (Y4 a1 a3)) ty5 (eM (V 6 19 rfl rfl)) (S.get (o := cA (Z6 .u8 a1) 72) (mR mL)) (J3 ([]) ([]) (by omega) (by omega)) rfl (qz S)
 exact Y7 fun S V => Yk5 (s := .u8) ((IntKind.i64.wrap (Y4 a1 a3))) Ww6 (eM (V 7 20 rfl rfl)) rfl rfl (qz S)
 exact Y7 fun S V => Zg4 (IntKind.i64.wrap ((rd a0 a3) * (IntKind.i64.wrap (Y4 a1 a3)))) (eM (V 4 17 rfl rfl)) (eM (V 8 21 rfl rfl)) rfl rfl (qz S)
 exact Y7 fun S V => W2 (IntKind.i64.wrap (a4 + (IntKind.i64.wrap ((rd a0 a3) * (IntKind.i64.wrap (Y4 a1 a3)))))) (eM (V 0 13 rfl rfl)) (eM (V 9 22 rfl rfl)) rfl rfl (qz S)
 intro _ c5 b9 b4 hS b3 c0 hcq
 have hS : St b9 c5 ([(b1, cA (Z6 .u8 a1) 72)] ++ L) := hS
 have Z4 := Z4.trans b4
 have a9 := a9.mono b4
 refine Z5 (vI (IntKind.i64.wrap (a4 + (IntKind.i64.wrap ((rd a0 a3) * (IntKind.i64.wrap (Y4 a1 a3))))))) (by exact (eM (c0 10 23 (by decide) rfl))) rfl (Z2 (X1 (Z0 (Z3 (vI a3) (by exact (evT (b3 6 rfl) a7)) rfl ?_))))
 refine W2 (a3 + 1) rfl rfl (IntWalk.i64_in _ (by omega)) rfl (Z5 (vI (a3 + 1)) rfl rfl (Z2 ?_))
 exact c6 _ _ ⟨(IntKind.i64.wrap (a4 + (IntKind.i64.wrap ((rd a0 a3) * (IntKind.i64.wrap (Y4 a1 a3)))))), (a3 + 1), b9, a5, Z4, hS, (by omega), a9, (evT (b3 0 rfl) a8), (evT (b3 3 rfl) b0), rfl, rfl⟩
 refine Z7 (bF b8 rfl) ?_
 refine X7 rfl ?_
 obtain rfl := oi a5
 exact c7 _ _ ⟨a4, c1, rfl, Z4, hS, b2⟩
 exact ⟨0, 0, H, a5, Z4, hS, (by omega), a9, rfl, rfl, rfl, rfl⟩
 rintro _ _ ⟨a6, _, rfl, Z4, hS, b5⟩
 dsimp only [Ex.elim] at b7
 refine Z1 (Z0 (Z3 (vI a6) (by exact b5) rfl (Z5 (vI a6) rfl rfl (Z2 ?_))))
 refine Y9 (vs := [vI a6]) func207 ⟨rfl, trivial⟩ ?_
 obtain rfl := oi b7
 exact ⟨_, _, rfl, Z4, (St.dropA hS), rfl⟩
def L0 (K : Nat) (a0 : A8) (a1 : (List Int)) : Nat → Int → Int → Option (Ex Int (Int))
 | 0, _, _ => none
 | k + 1, a5, a3 => (if a3 < (a1.length : Int) then (if a3 < 8 then L0 K a0 a1 k (IntKind.i64.wrap (a5 + (IntKind.i64.wrap ((rd a1 a3) * (Y4 a0 a3))))) (a3 + 1) else none) else some (.go a5))
def Zg7 (K : Nat) (a0 : A8) (a1 : (List Int)) : Option Int := ((L0 K a0 a1 K 0 0).bind (Ex.elim (fun r => some r) (fun s => (fun (a7 : Int) => some a7) s)))
theorem Ym7 {a0 : A8} {a1 : (List Int)} {r : Int} (q0 : Zg7 K a0 a1 = some r) (a8 : Y3 (Y5 .i64) H s0 a1) (hS : St H w L) :
 Calls prog 215 #[vA (Z6 .i64 a0), s0] w (U7 (fun v G => (R.int .i64).p G v r) H L) := by
 have Z4 := Sub.refl H
 refine X0 func215 rfl ntmps215 rfl ?_
 unfold Zg7 at q0
 refine Z1 (Z0 ?_)
 refine T7 (v := vA (Z6 .i64 a0)) (Z6 .i64 a0).toArray rfl rfl hS rfl ?_
 intro b1 _ hS
 refine Z5 (vI 0) rfl rfl (Z2 (Z1 (Z0 (Z5 (vI 0) rfl rfl (Z2 (Z1 (Z1 (Z0 (Z3 (s0) rfl rfl ?_)))))))))
 have c4 := a8.bound
 refine X9 U5 rfl a8 rfl (Z3 (vI 0) rfl rfl (Z2 (Y8 ?_)))
 obtain ⟨b5, a4, b6⟩ := bind_some q0
 refine W0 (id := 0) (fun k f w => ∃ (a5 : Int) (a3 : Int) (H1 : FH), L0 K a0 a1 k a5 a3 = some b5 ∧ Sub H H1 ∧ St H1 w ([(b1, cA (Z6 .i64 a0) 222)] ++ L) ∧ 0 ≤ a3 ∧ Y3 (Y5 .i64) H1 s0 a1 ∧ tv f 2 = vP b1 ∧ tv f 5 = vI a5 ∧ tv f 8 = s0 ∧ tv f 9 = vI (a1.length : Int) ∧ tv f 10 = vI a3) (fun f w => ∃ (a7 : Int) (H1 : FH), b5 = .go a7 ∧ Sub H H1 ∧ St H1 w ([(b1, cA (Z6 .i64 a0) 222)] ++ L) ∧ tv f 5 = vI a7) rfl ?_ ?_ K ?_ ?_
 rintro f w ⟨a5, a3, H1, a4, _⟩
 rw [L0] at a4; cases a4
 rintro k _ _ b9 c0 ⟨a5, a3, b7, a4, Z4, hS, _, a8, a9, b0, b2, b3, a6⟩
 rw [L0] at a4
 refine Z1 (Z0 ?_)
 refine W8 (k := .i64) (a := a3) (b := (a1.length : Int)) (by exact a6) (by exact b3) rfl (Z2 (Z1 ?_))
 obtain ⟨b8, a4⟩ | ⟨b8, a4⟩ := ic a4
 refine Z8 (bT b8 rfl) (Y6 (Z1 (Y8 (Z1 (Z0 (Z3 (vI a3) (by exact a6) rfl ?_))))))
 obtain ⟨_, _, _, _, _, c1, c2, rfl, c3⟩ := a8.elem (i := a3) (by omega) (by omega)
 refine X5 U5 rfl (by exact b2) c1 (by exact a6) (by omega) (by omega) rfl ?_
 refine Y0 (vI (rd a1 a3)) ty2 rfl (hS.froz _ _ c2) (c3 0 (show 0 < 1 by decide)) rfl (Z5 (vI a3) rfl rfl (Z5 (vI (rd a1 a3)) rfl rfl (Z2 (Z0 (Z3 (vI a5) (by exact b0) rfl (Z3 (vI (rd a1 a3)) rfl rfl (Z3 (vI a3) rfl rfl ?_)))))))
 obtain ⟨_, a4⟩ := gd a4
 refine V5 Zk7 (by exact a9) rfl (by omega) (by omega) rfl ?_
 refine Y0 (vI (Y4 a0 a3)) ty3 rfl (hS.get (o := cA (Z6 .i64 a0) 222) mL) (J3 ([]) ([]) (by omega) (by omega)) rfl ?_
 refine Zg4 (IntKind.i64.wrap ((rd a1 a3) * (Y4 a0 a3))) rfl rfl rfl rfl ?_
 refine W2 (IntKind.i64.wrap (a5 + (IntKind.i64.wrap ((rd a1 a3) * (Y4 a0 a3))))) rfl rfl rfl rfl (Z5 (vI (IntKind.i64.wrap (a5 + (IntKind.i64.wrap ((rd a1 a3) * (Y4 a0 a3)))))) rfl rfl (Z2 (X1 (Z0 ?_))))
 refine W2 (a3 + 1) (by exact a6) rfl (IntWalk.i64_in _ (by omega)) rfl (Z3 (vI (a3 + 1)) rfl rfl (Z2 ?_))
 exact b9 _ _ ⟨(IntKind.i64.wrap (a5 + (IntKind.i64.wrap ((rd a1 a3) * (Y4 a0 a3))))), (a3 + 1), b7, a4, Z4, hS, (by omega), a8, a9, rfl, b2, b3, rfl⟩
 refine Z7 (bF b8 rfl) ?_
 refine X7 rfl ?_
 obtain rfl := oi a4
 exact c0 _ _ ⟨a5, b7, rfl, Z4, hS, b0⟩
 exact ⟨0, 0, H, a4, Z4, hS, (by omega), a8, rfl, rfl, rfl, rfl, rfl⟩
 rintro _ _ ⟨a7, _, rfl, Z4, hS, b4⟩
 dsimp only [Ex.elim] at b6
 refine Z1 (Z0 (Z3 (vI a7) (by exact b4) rfl (Z5 (vI a7) rfl rfl (Z2 ?_))))
 refine Y9 (vs := [vI a7]) func215 ⟨rfl, trivial⟩ ?_
 obtain rfl := oi b6
 exact ⟨_, _, rfl, Z4, (St.dropA hS), rfl⟩
def W9 (K : Nat) (a0 : (List Int)) (a1 : (Int → Option Bool)) : Nat → Int → Option (Ex Int (Unit))
 | 0, _ => none
 | k + 1, a3 => (if a3 < (a0.length : Int) then ((a1 (rd a0 a3)).bind fun r4 => (if r4 = true then some (.ret a3) else W9 K a0 a1 k (a3 + 1))) else some (.go ()))
def N2 (K : Nat) (a0 : (List Int)) (a1 : (Int → Option Bool)) : Option Int := ((W9 K a0 a1 K 0).bind (Ex.elim (fun r => some r) (fun s => some (-1))))
theorem Zj4 {a0 : (List Int)} {a1 : (Int → Option Bool)} {r : Int} (q0 : N2 K a0 a1 = some r) (a6 : Y3 (Y5 .i64) H s0 a0) (a7 : FnQ prog s1 (R.int .i64) a1 H) (hS : St H w L) :
 Calls prog 235 #[s0, s1] w (U7 (fun v G => (R.int .i64).p G v r) H L) := by
 have Z4 := Sub.refl H
 refine X0 func235 rfl ntmps235 rfl ?_
 unfold N2 at q0
 refine Z1 (Z0 (Z5 (vI 0) rfl rfl (Z2 (Z1 (Z1 (Z0 (Z3 (s0) rfl rfl ?_)))))))
 have c3 := a6.bound
 refine X9 U5 rfl a6 rfl (Z3 (vI 0) rfl rfl (Z2 (Y8 ?_)))
 obtain ⟨b2, a4, b1⟩ := bind_some q0
 refine W0 (id := 0) (fun k f w => ∃ (a3 : Int) (H1 : FH), W9 K a0 a1 k a3 = some b2 ∧ Sub H H1 ∧ St H1 w (L) ∧ 0 ≤ a3 ∧ Y3 (Y5 .i64) H1 s0 a0 ∧ FnQ prog s1 (R.int .i64) a1 H1 ∧ tv f 0 = s0 ∧ tv f 1 = s1 ∧ tv f 7 = vI (a0.length : Int) ∧ tv f 8 = vI a3) (fun f w => ∃ (H1 : FH), b2 = .go () ∧ Sub H H1 ∧ St H1 w (L)) rfl ?_ ?_ K ?_ ?_
 rintro f w ⟨a3, H1, a4, _⟩
 rw [W9] at a4; cases a4
 rintro k _ _ b7 b8 ⟨a3, b6, a4, Z4, hS, _, a6, a7, a8, a9, b0, a5⟩
 rw [W9] at a4
 refine Z1 (Z0 ?_)
 refine W8 (k := .i64) (a := a3) (b := (a0.length : Int)) (by exact a5) (by exact b0) rfl (Z2 (Z1 ?_))
 obtain ⟨b3, a4⟩ | ⟨b3, a4⟩ := ic a4
 refine Z8 (bT b3 rfl) (Y6 (Z1 (Y8 (Z1 (Z0 (Z3 (vI a3) (by exact a5) rfl (Z5 (vI a3) rfl rfl (Z2 (Z1 (Z0 (Z3 (s1) (by exact a9) rfl (Z3 (s0) (by exact a8) rfl (Z3 (vI a3) rfl rfl ?_)))))))))))))
 obtain ⟨_, _, _, _, _, b9, c0, rfl, c1⟩ := a6.elem (i := a3) (by omega) (by omega)
 refine X5 U5 rfl rfl b9 rfl (by omega) (by omega) rfl ?_
 refine Y0 (vI (rd a0 a3)) ty2 rfl (hS.froz _ _ c0) (c1 0 (show 0 < 1 by decide)) rfl ?_
 obtain ⟨_, c2, a4⟩ := bind_some a4
 refine Wa2 a7 rfl rfl hS rfl c2 rfl ?_
 intro H4 _ b4 hS
 have Z4 := Z4.trans b4
 have a6 := a6.mono b4
 have a7 := a7.mono b4
 refine Z2 ?_
 obtain ⟨b5, a4⟩ | ⟨b5, a4⟩ := ic a4
 refine Z8 (Eq.trans rfl (congrArg vB b5)) (Z1 (Z0 (Z3 (vI a3) rfl rfl (Z5 (vI a3) rfl rfl (Z2 ?_)))))
 refine Y9 (vs := [vI a3]) func235 ⟨rfl, trivial⟩ ?_
 obtain rfl := oi a4
 dsimp only [Ex.elim] at b1
 obtain rfl := oi b1
 exact ⟨_, _, rfl, Z4, hS, rfl⟩
 refine Z7 (Eq.trans rfl (congrArg vB (W1 b5))) (Y6 (X1 (Z0 ?_)))
 refine W2 (a3 + 1) (by exact a5) rfl (IntWalk.i64_in _ (by omega)) rfl (Z3 (vI (a3 + 1)) rfl rfl (Z2 ?_))
 exact b7 _ _ ⟨(a3 + 1), H4, a4, Z4, hS, (by omega), a6, a7, a8, a9, b0, rfl⟩
 refine Z7 (bF b3 rfl) ?_
 refine X7 rfl ?_
 obtain rfl := oi a4
 exact b8 _ _ ⟨b6, rfl, Z4, hS⟩
 exact ⟨0, H, a4, Z4, hS, (by omega), a6, a7, rfl, rfl, rfl, rfl⟩
 rintro _ _ ⟨_, rfl, Z4, hS⟩
 dsimp only [Ex.elim] at b1
 refine Z1 (Z0 (Z5 (vI (-1)) rfl rfl (Z2 ?_)))
 refine Y9 (vs := [vI (-1)]) func235 ⟨rfl, trivial⟩ ?_
 obtain rfl := oi b1
 exact ⟨_, _, rfl, Z4, hS, rfl⟩
def Zy3 (K : Nat) (a0 : MpT) (a1 : Int) : Option Int := (if (IntKind.i64.wrap (a1 - (a0.length : Int))) < 0 then some (-1) else some (IntKind.i64.wrap (a1 - (a0.length : Int))))
theorem Yy6 {a0 : MpT} {a1 : Int} {r : Int} (q0 : Zy3 K a0 a1 = some r) (a4 : Y3 yT H s0 a0) (hS : St H w L) :
 Calls prog 89 #[s0, vI a1] w (U7 (fun v G => (R.int .i64).p G v r) H L) := by
 have Z4 := Sub.refl H
 refine X0 func89 rfl ntmps89 rfl ?_
 unfold Zy3 at q0
 refine Z1 (Z0 (Z5 (vI 0) rfl rfl (Z2 (Z1 (Z0 (Z3 (vI a1) rfl rfl (Z3 (s0) rfl rfl ?_)))))))
 have a5 := a4.bound
 refine X9 Wg8 rfl a4 rfl ?_
 refine Zk8 (IntKind.i64.wrap (a1 - (a0.length : Int))) rfl rfl rfl rfl (Z5 (vI (IntKind.i64.wrap (a1 - (a0.length : Int)))) rfl rfl (Z2 (Z1 (Z1 (Z0 (Z3 (vI (IntKind.i64.wrap (a1 - (a0.length : Int)))) rfl rfl ?_))))))
 refine W8 (k := .i64) (a := (IntKind.i64.wrap (a1 - (a0.length : Int)))) (b := 0) rfl rfl rfl (Z2 ?_)
 obtain ⟨a3, q0⟩ | ⟨a3, q0⟩ := ic q0
 refine Z8 (bT a3 rfl) (Z1 (Z0 (Z5 (vI (-1)) rfl rfl (Z2 ?_))))
 refine Y9 (vs := [vI (-1)]) func89 ⟨rfl, trivial⟩ ?_
 obtain rfl := oi q0
 exact ⟨_, _, rfl, Z4, hS, rfl⟩
 refine Z7 (bF a3 rfl) (Y6 (Z1 (Z0 (Z3 (vI (IntKind.i64.wrap (a1 - (a0.length : Int)))) rfl rfl (Z5 (vI (IntKind.i64.wrap (a1 - (a0.length : Int)))) rfl rfl (Z2 ?_))))))
 refine Y9 (vs := [vI (IntKind.i64.wrap (a1 - (a0.length : Int)))]) func89 ⟨rfl, trivial⟩ ?_
 obtain rfl := oi q0
 exact ⟨_, _, rfl, Z4, hS, rfl⟩
def Zm7 (K : Nat) (a0 : Int) (a1 : Int) (a2 : Int) : Option Bool := (if a1 ≤ a0 then some (decide (a0 ≤ a2)) else some false)
theorem Zo6 {a0 : Int} {a1 : Int} {a2 : Int} {r : Bool} (q0 : Zm7 K a0 a1 a2 = some r) (hS : St H w L) :
 Calls prog 73 #[vI a0, vI a1, vI a2] w (U7 (fun v G => R.bool.p G v r) H L) := by
 have Z4 := Sub.refl H
 refine X0 func73 rfl ntmps73 rfl ?_
 unfold Zm7 at q0
 refine Z1 (Z0 (Z5 (vB false) rfl rfl (Z2 (Z1 (Z0 (Z3 (vI a0) rfl rfl (Z3 (vI a1) rfl rfl ?_)))))))
 refine Ya0 (k := .i64) (a := a0) (b := a1) rfl rfl rfl (Z3 (vB (decide (a1 ≤ a0))) rfl rfl ?_)
 obtain ⟨a3, q0⟩ | ⟨a3, q0⟩ := ic q0
 refine Y1 rfl rfl (bT a3 rfl) (Z3 (vI a0) rfl rfl ?_)
 refine Y1 rfl rfl (bT a3 rfl) (Z3 (vI a2) rfl rfl ?_)
 refine Y1 rfl rfl (bT a3 rfl) ?_
 refine Yh6 (k := .i64) (a := a0) (b := a2) rfl rfl rfl ?_
 refine W6 (t := true) (vB (decide (a0 ≤ a2))) (bT a3 rfl) ((if_pos rfl).trans rfl) rfl (Z5 (vB (decide (a0 ≤ a2))) rfl rfl (Z2 ?_))
 refine Y9 (vs := [vB (decide (a0 ≤ a2))]) func73 ⟨rfl, trivial⟩ ?_
 obtain rfl := oi q0
 exact ⟨_, _, rfl, Z4, hS, rfl⟩
 refine Z9 rfl rfl (bF a3 rfl) rfl rfl rfl (Z9 rfl rfl (bF a3 rfl) rfl rfl rfl (Z9 rfl rfl (bF a3 rfl) rfl rfl rfl ?_))
 refine W6 (t := false) (vB false) (bF a3 rfl) ((if_neg Bool.false_ne_true).trans rfl) rfl (Z5 (vB false) rfl rfl (Z2 ?_))
 refine Y9 (vs := [vB false]) func73 ⟨rfl, trivial⟩ ?_
 obtain rfl := oi q0
 exact ⟨_, _, rfl, Z4, hS, rfl⟩
def Zr4 (K : Nat) (a0 : Int) : Option Bool := some (!decide (a0 = 0))
theorem Yz2 {a0 : Int} {r : Bool} (q0 : Zr4 K a0 = some r) (hS : St H w L) :
 Calls prog 236 #[vI a0] w (U7 (fun v G => R.bool.p G v r) H L) := by
 have Z4 := Sub.refl H
 refine X0 func236 rfl ntmps236 rfl ?_
 unfold Zr4 at q0
 refine Z1 (Z0 (Z5 (vB false) rfl rfl (Z2 (Z1 (Z0 (Z3 (vI a0) rfl rfl ?_))))))
 refine M0 (k := .i64) (a := a0) (b := 0) rfl rfl rfl (Z5 (vB (!decide (a0 = 0))) rfl rfl (Z2 ?_))
 refine Y9 (vs := [vB (!decide (a0 = 0))]) func236 ⟨rfl, trivial⟩ ?_
 obtain rfl := oi q0
 exact ⟨_, _, rfl, Z4, hS, rfl⟩
end Go.Proofs.YtabofnehiclkiaaGreat
