/- Plain laws on the pure functions. -/
import Derived.Test.YtfodlhkoafhplaaGreatCP1
namespace Go.Proofs.YtfodlhkoafhplaaGreat
open Go
set_option linter.unusedSimpArgs false
set_option linter.unusedVariables false
theorem single_mo {B : Int} {ds : List Int} {p : A8} (h : Mo B ds p) : MoL B ds [(p, 1)] := fun t ht => by cases List.mem_singleton.1 ht; exact h
theorem single_sm (p : A8) : SmF [(p, 1)] := fun t ht => by cases List.mem_singleton.1 ht; simp
theorem single_srt (p : A8) : Srt [(p, 1)] := List.pairwise_singleton _ _
theorem p_single (K : Nat) (p : A8) : g_spec_l01Single K p 1 = some [(p, 1)] := by
 unfold g_spec_l01Single
 rw [mod_eq]; rfl
section
variable {K : Nat} {ds : List Int} {img : MpT} {m : A8} {i : Nat}
theorem dT1_props (hm : Mo 20 ds m) (hi : i < 8) (h1 : 0 < idx8 m i) (hv : VF ds img) : MoL 40 ds (runM (mulT ds [(lfM m i, 1)] img) []) ∧ (runM (mulT ds [(lfM m i, 1)] img) []).length ≤ 400 := by
 refine ⟨runM_mo (mulT_mo (single_mo (lf_mo hm (by decide) hi h1)) hv.mo), ?_⟩
 have h2 := runM_len (mulT ds [(lfM m i, 1)] img) []
 have h3 := mulT_len (ds := ds) [(lfM m i, 1)] img
 have h4 := hv.len
 simp only [List.length_cons, List.length_nil] at h2 h3
 omega
theorem dT_len (hm : Mo 20 ds m) (hi : i < 8) (h1 : 0 < idx8 m i) (hv : VF ds img) : (dT ds img m i).length ≤ 400 := by
 have h0 := (dT1_props hm hi h1 hv).2
 unfold dT
 generalize runM (mulT ds [(lfM m i, 1)] img) [] = T at h0 ⊢
 have h2 := runM_len (mulT ds T [(hiM m i, 1)]) []
 have h3 := mulT_len (ds := ds) T [(hiM m i, 1)]
 simp only [List.length_cons, List.length_nil] at h2 h3
 omega
theorem dT_nfm : nfm (dT ds img m i) = true := nfm_runM _ nfm_nil
theorem dstep_len {z : TermT} {out : MpT} (hm : Mo 20 ds z.1) (hi : i < 8) (h1 : 0 < idx8 z.1 i) (hv : VF ds img) : (dstep ds img z i out).length ≤ out.length + 400 := by
 have h1 := dT_len hm hi h1 hv
 have h2 := runM_len (scl (dF ds z i) (dT ds img z.1 i)) out
 unfold dstep
 have : (scl (dF ds z i) (dT ds img z.1 i)).length = (dT ds img z.1 i).length := by simp [scl]
 omega
theorem l02D_l2_loop (m : A8) (i : Nat) : ∀ (k j : Nat) (front back : A8), 8 < j + k → j ≤ 8 → (∀ t : Fin 8, front t = if t.val < j ∧ i ≤ t.val then 0 else m t) → (∀ t : Fin 8, back t = if t.val < j ∧ t.val ≤ i then 0 else m t) →
 g_spec_l02D_l2 K i k j front back = some (.go (loM m i, hiM m i)) := by
 intro k
 induction k with
 | zero => intro j front back h1 h2; omega
 | succ k ih =>
  intro j front back h1 h2 hf hb
  rw [g_spec_l02D_l2]
  by_cases hj : j < 8
  have key : ∀ fr : A8, (∀ t : Fin 8, fr t = if t.val < j + 1 ∧ i ≤ t.val then 0 else m t) → g_spec_l02D_j98 K (g_spec_l02D_l2 K i k) i j back fr = some (.go (loM m i, hiM m i)) := by
   intro fr hfr
   unfold g_spec_l02D_j98
   by_cases h : j ≤ i
   rw [if_pos (by omega)]
   refine ih (j + 1) _ _ (by omega) (by omega) hfr (fun t => ?_)
   rw [upd_nat _ hj, hb t]
   by_cases e : t.val = j
   rw [if_pos e, if_pos (by omega)]
   rw [if_neg e]
   by_cases h' : t.val < j ∧ t.val ≤ i
   rw [if_pos h', if_pos (by omega)]
   rw [if_neg h', if_neg (by omega)]
   rw [if_neg (by omega)]
   refine ih (j + 1) _ _ (by omega) (by omega) hfr (fun t => ?_)
   rw [hb t]
   by_cases h' : t.val < j ∧ t.val ≤ i
   rw [if_pos h', if_pos (by omega)]
   rw [if_neg h', if_neg (by omega)]
  rw [if_pos (by omega)]
  by_cases h : i ≤ j
  rw [if_pos (by omega)]
  refine key _ (fun t => ?_)
  rw [upd_nat _ hj, hf t]
  by_cases e : t.val = j
  rw [if_pos e, if_pos (by omega)]
  rw [if_neg e]
  by_cases h' : t.val < j ∧ i ≤ t.val
  rw [if_pos h', if_pos (by omega)]
  rw [if_neg h', if_neg (by omega)]
  rw [if_neg (by omega)]
  refine key _ (fun t => ?_)
  rw [hf t]
  by_cases h' : t.val < j ∧ i ≤ t.val
  rw [if_pos h', if_pos (by omega)]
  rw [if_neg h', if_neg (by omega)]
  rw [if_neg (by omega)]
  congr 3
  funext t
  rw [hf t]; unfold loM
  by_cases h : t.val < i
  rw [if_neg (by omega), if_pos h]
  rw [if_pos (by omega), if_neg h]
  funext t
  rw [hb t]; unfold hiM
  by_cases h : i < t.val
  rw [if_neg (by omega), if_pos h]
  rw [if_pos (by omega), if_neg h]
/-- how imgs, the images of an algebra, are -/
structure VI (ds : List Int) (imgs : List MpT) : Prop where
 len : imgs.length = ds.length
 all : ∀ f, f ∈ imgs → VF ds f
theorem dT_spec {out : MpT} {f : Int} (hK : 1073741824 ≤ K) (hd : okD ds = true) (hm : Mo 20 ds m) (hi : i < 8) (h1 : 0 < idx8 m i) {imgs : List MpT} (hv : VI ds imgs) (hil : i < ds.length) (ho : nfm out = true) (hol : out.length ≤ 100000000)
 (lk : Int → MpT → Option (Ex MpT MpT)) (a1 : MpT) (x0 : Int) (hz : (rd a1 x0).1 = m) :
 g_spec_l02D_j99 K lk (ds, imgs) a1 x0 i out (loM m i) (hiM m i) f = lk ((i : Int) + 1) (runM (scl (f % 10007) (dT ds (rd imgs (i : Int)) m i)) out) := by
 have hl := hv.len
 have hv' := hv.all _ (rd_mem (show i < imgs.length by omega))
 have hvl := hv'.len
 have hp := dT1_props hm hi h1 hv'
 have hb := hm.hi ⟨i, hi⟩
 rw [← idx_nat m hi] at hb
 have hw : upd8 (loM m i) i (IntKind.u8.wrap (idx8 m i - 1)) = lfM m i := by rw [wrap8 (by omega)]; rfl
 have hn := dT_len hm hi h1 hv'
 unfold g_spec_l02D_j99
 rw [hz, hw, p_single, Option.bind_some, if_pos (show (i : Int) < imgs.length by omega),
  p_timesS (B := 20) (C := 20) hK hd (by decide) (by decide) (single_mo (lf_mo hm (by decide) hi h1)) (single_sm _) hv'.mo hv'.small (nfm_srt hv'.nf) (by omega) (by simp; omega) (by simp; omega), Option.bind_some, p_single, Option.bind_some,
  p_timesS (B := 40) (C := 20) hK hd (by decide) (by decide) hp.1 (nfm_small (nfm_runM _ nfm_nil)) (single_mo (hi_mo hm (by decide) i)) (single_sm _) (single_srt _) (by simp) (by omega) (by simp; omega), Option.bind_some, mod_eq, Option.bind_some]
 have hT : runM (mulT ds (runM (mulT ds [(lfM m i, 1)] (rd imgs (i : Int))) []) [(hiM m i, 1)]) [] = dT ds (rd imgs (i : Int)) m i := rfl
 rw [hT, p_add (by omega) (by omega) (by omega) (nfm_small ho) (nfm_small dT_nfm) (by omega) (by omega), Option.bind_some, mrg_run ho (nfm_srt dT_nfm)]
theorem sg_mul (x y a : Int) (hx : 0 ≤ x) : sg (x + y * a) = if y % 2 = 1 ∧ a % 2 = 1 then - sg x else sg x := by
 have h : (y * a) % 2 = ((y % 2) * (a % 2)) % 2 := Int.mul_emod y a 2
 have e : sg (y * a) = if y % 2 = 1 ∧ a % 2 = 1 then -1 else 1 := by
  unfold sg
  rw [h]
  rcases Int.emod_two_eq y with h1 | h1 <;> rcases Int.emod_two_eq a with h2 | h2 <;> simp [h1, h2]
 rw [sg_add, e]
 split
 rw [Int.mul_neg, Int.mul_one]
 rw [Int.mul_one]
theorem lo_succ (m : A8) {i : Nat} (hi : i < 8) : upd8 (loM m i) i (idx8 m i) = loM m (i + 1) := by
 funext t
 rw [upd_nat _ hi, idx_nat m hi]
 unfold loM
 by_cases e : t.val = i
 rw [if_pos e, if_pos (by omega)]; congr 1; exact Fin.ext e.symm
 rw [if_neg e]
 by_cases h : t.val < i
 rw [if_pos h, if_pos (by omega)]
 rw [if_neg h, if_neg (by omega)]
theorem fac_bound {z : TermT} (hm : Mo 20 ds z.1) (hz : -10006 ≤ z.2 ∧ z.2 ≤ 10006) (i : Nat) (hi : i < 8) (s : Int) (hs : s = 1 ∨ s = -1) : (-10006 ≤ s * z.2 ∧ s * z.2 ≤ 10006) ∧ -100120036 ≤ s * z.2 * idx8 z.1 i ∧ s * z.2 * idx8 z.1 i ≤ 100120036 := by
 have h2 := hm.hi ⟨i, hi⟩
 have h3 := hm.lo ⟨i, hi⟩
 rw [← idx_nat z.1 hi] at h2 h3
 exact sign_mul (.inr hs) hz (by omega)
theorem l02D_l1_loop {imgs : List MpT} {f : MpT} {x0 : Int} (hK : 1073741824 ≤ K) (hd : okD ds = true) (hv : VI ds imgs) (hm : Mo 20 ds (rd f x0).1) (hz : -10006 ≤ (rd f x0).2 ∧ (rd f x0).2 ≤ 10006) :
 ∀ (k i : Nat) (out : MpT), ds.length < i + k → i ≤ ds.length → nfm out = true → out.length + 400 * (ds.length - i) ≤ 100000000 →
  g_spec_l02D_l1 K (ds, imgs) f x0 k i out = some (.go (dfold ds imgs (rd f x0) (ds.length - i) i out)) := by
 have hl := okD_len hd
 intro k
 induction k with
 | zero => intro i out h1 h2; omega
 | succ k ih =>
  intro i out h1 h2 ho hol
  rw [g_spec_l02D_l1]
  by_cases hi : i < ds.length
  obtain ⟨n, hn⟩ : ∃ n, ds.length - i = n + 1 := ⟨ds.length - i - 1, by omega⟩
  have e2 : ds.length - (i + 1) = n := by omega
  have hi8 : i < 8 := by omega
  have hlo := hm.lo ⟨i, hi8⟩
  have hhi := hm.hi ⟨i, hi8⟩
  rw [← idx_nat (rd f x0).1 hi8] at hlo hhi
  rw [if_pos (show (i : Int) < ds.length by omega), if_pos (by omega), hn, dfold]
  by_cases h0 : idx8 (rd f x0).1 i = 0
  have := ih (i + 1) out (by omega) (by omega) ho (by omega)
  rw [e2] at this
  rw [if_pos h0, if_pos h0]; exact this
  have h1' : 0 < idx8 (rd f x0).1 i := by omega
  have hv' := hv.all _ (rd_mem (show i < imgs.length by rw [hv.len]; exact hi))
  have hl2 := l02D_l2_loop (K := K) (rd f x0).1 i K 0 (rd f x0).1 (rd f x0).1 (by omega) (by omega) (fun t => by simp) (fun t => by simp)
  replace hl2 : g_spec_l02D_l2 K i K 0 (rd f x0).1 (rd f x0).1 = _ := hl2
  have hsl := dstep_len (out := out) hm hi8 h1' hv'
  have := ih (i + 1) (dstep ds (rd imgs (i : Int)) (rd f x0) i out) (by omega) (by omega) (nfm_runM _ ho) (by omega)
  rw [e2] at this
  have hwt := wt_bound hd ((lo_mo hm (by decide) i).byt (by decide))
  rw [wt_lo _ _ (by omega)] at hwt
  have hfb := fac_bound hm hz i hi8 1 (.inl rfl)
  rw [Int.one_mul] at hfb
  rw [if_neg h0, if_neg h0, hl2, Option.bind_some]
  show (g_spec_l01Weight K ds (loM (rd f x0).1 i)).bind _ = _
  rw [p_weight (by omega) hd ((lo_mo hm (by decide) i).byt (by decide)), Option.bind_some, wt_lo _ _ (by omega), tmod2 (by omega), IntWalk.i64_in (idx8 (rd f x0).1 i) (by omega), IntWalk.i64_in ((rd f x0).2 * _) (by omega), IntWalk.i64_in (0 - _) (by omega)]
  have hj := fun g => dT_spec (K := K) (f := g) hK hd hm hi8 h1' hv hi ho (by omega) (g_spec_l02D_l1 K (ds, imgs) f x0 k) f x0 rfl
  rw [hj, hj]
  have hF : dF ds (rd f x0) i = (if wtN ds (rd f x0).1 i % 2 = 0 then (rd f x0).2 * idx8 (rd f x0).1 i else 0 - (rd f x0).2 * idx8 (rd f x0).1 i) % 10007 := by
   unfold dF sg
   by_cases e : wtN ds (rd f x0).1 i % 2 = 0
   rw [if_pos e, if_neg (by omega), Int.one_mul]
   rw [if_neg e, if_pos (by omega), Int.neg_mul, Int.one_mul, Int.neg_mul, Int.zero_sub]
  refine Eq.trans ?_ this
  unfold dstep
  rw [hF]
  split <;> rfl
  rw [if_neg (show ¬ (i : Int) < ds.length by omega), show ds.length - i = 0 by omega]; rfl
end
section
variable {K : Nat} {ds : List Int} {img : MpT} {m : A8} {i : Nat}
theorem dfold_props {imgs : List MpT} {z : TermT} (hd : okD ds = true) (hv : VI ds imgs) (hm : Mo 20 ds z.1) : ∀ (n i : Nat) (out : MpT), i + n ≤ ds.length → nfm out = true →
 nfm (dfold ds imgs z n i out) = true ∧ (dfold ds imgs z n i out).length ≤ out.length + 400 * n
 | 0, _, out, _, h => ⟨h, Nat.le_refl _⟩
 | n + 1, i, out, hi, h => by
  have hl := okD_len hd
  rw [dfold]
  by_cases h0 : idx8 z.1 (i : Int) = 0
  rw [if_pos h0]
  have := dfold_props hd hv hm n (i + 1) out (by omega) h
  exact ⟨this.1, by omega⟩
  rw [if_neg h0]
  have hv' := hv.all _ (rd_mem (show i < imgs.length by rw [hv.len]; omega))
  have hlo := (hm.idx i).1
  have h2 := dstep_len (out := out) (z := z) hm (show i < 8 by omega) (by omega) hv'
  have := dfold_props hd hv hm n (i + 1) (dstep ds (rd imgs (i : Int)) z i out) (by omega) (nfm_runM _ h)
  exact ⟨this.1, by omega⟩
theorem dall_props {imgs : List MpT} (hd : okD ds = true) (hv : VI ds imgs) : ∀ (f out : MpT), MoL 20 ds f → nfm out = true → nfm (dall ds imgs f out) = true ∧ (dall ds imgs f out).length ≤ out.length + 3200 * f.length
 | [], out, _, h => ⟨h, Nat.le_refl _⟩
 | z :: f, out, hf, h => by
  have hl := okD_len hd
  have h1 := dfold_props hd hv (hf z (List.mem_cons_self ..)) ds.length 0 out (by omega) h
  have h2 := dall_props hd hv f _ (fun q hq => hf q (List.mem_cons_of_mem _ hq)) h1.1
  rw [dall, List.length_cons]
  exact ⟨h2.1, by omega⟩
theorem l02D_l0_loop {imgs : List MpT} {f : MpT} (hK : 1073741824 ≤ K) (hd : okD ds = true) (hv : VI ds imgs) (hm : MoL 20 ds f) (hz : SmF f) :
 ∀ (k i : Nat) (out : MpT), f.length < i + k → i ≤ f.length → nfm out = true → out.length + 3200 * (f.length - i) ≤ 90000000 → g_spec_l02D_l0 K (ds, imgs) f k i out = some (.go (dall ds imgs (f.drop i) out)) := by
 have hl := okD_len hd
 intro k
 induction k with
 | zero => intro i out h1 h2; omega
 | succ k ih =>
  intro i out h1 h2 ho hol
  rw [g_spec_l02D_l0]
  by_cases hi : i < f.length
  have h3 := l02D_l1_loop hK hd hv (hm _ (rd_mem hi)) (hz _ (rd_mem hi)) K 0 out (by omega) (by omega) ho (by omega)
  have h4 := dfold_props hd hv (hm _ (rd_mem hi)) ds.length 0 out (by omega) ho
  replace h3 : g_spec_l02D_l1 K (ds, imgs) f i K 0 out = _ := h3
  rw [if_pos (by omega), h3, Option.bind_some, drop_rd hi, dall]
  exact ih (i + 1) _ (by omega) (by omega) h4.1 (by rw [Nat.sub_zero]; omega)
  rw [if_neg (by omega), List.drop_eq_nil_of_le (by omega)]; rfl
theorem p_dS {imgs : List MpT} {f : MpT} (hK : 1073741824 ≤ K) (hd : okD ds = true) (hv : VI ds imgs) (hf : VF ds f) : g_spec_l02D K (ds, imgs) f = some (dall ds imgs f []) := by
 have hl := hf.len
 have := l02D_l0_loop hK hd hv hf.mo hf.small K 0 [] (by omega) (by omega) nfm_nil (by simp; omega)
 unfold g_spec_l02D
 replace this : g_spec_l02D_l0 K (ds, imgs) f K 0 [] = some (.go (dall ds imgs f [])) := this
 rw [this]; rfl
theorem d_l2_loop (m : A8) {i : Nat} (hi : i < 8) : ∀ (k j : Nat) (box : A8), i + 1 < j + k → j ≤ i + 1 → (∀ t : Fin 8, box t = if t.val < j then 0 else m t) → g_impl_Algebra_d_l2 K i k j box = some (.go (hiM m i)) := by
 intro k
 induction k with
 | zero => intro j box h1 h2; omega
 | succ k ih =>
  intro j box h1 h2 hb
  rw [g_impl_Algebra_d_l2]
  by_cases hj : j < i + 1
  rw [if_pos (by omega), if_pos (by omega)]
  refine ih (j + 1) _ (by omega) (by omega) (fun t => ?_)
  rw [upd_nat _ (show j < 8 by omega), hb t]
  by_cases e : t.val = j
  rw [if_pos e, if_pos (by omega)]
  rw [if_neg e]
  by_cases h : t.val < j
  rw [if_pos h, if_pos (by omega)]
  rw [if_neg h, if_neg (by omega)]
  rw [if_neg (by omega)]
  congr 2
  funext t
  rw [hb t]; unfold hiM
  by_cases h : i < t.val
  rw [if_pos h, if_neg (by omega)]
  rw [if_neg h, if_pos (by omega)]
def sgI (ds : List Int) (m : A8) (i : Nat) : Int := sg (wtN ds m (min i ds.length))
theorem j15_eq {imgs : List MpT} {z : TermT} (hd : okD ds = true) (hm : Mo 20 ds z.1) {i : Nat} (hi : i < 8) (lk : Int → Int → A8 → MpT → Option (Ex MpT (A8 × MpT))) (out : MpT) :
 g_impl_Algebra_d_j15 K lk (ds, imgs) (sgI ds z.1 i) i (loM z.1 i) z out = lk (sgI ds z.1 (i + 1)) ((i : Int) + 1) (loM z.1 (i + 1)) out := by
 unfold g_impl_Algebra_d_j15
 dsimp only
 rw [lo_succ _ hi]
 by_cases hl : i < ds.length
 have hp := okD_pos hd _ (rd_mem hl)
 have hlo := (hm.idx i).1
 have hw := wtN_bound hd (hm.byt (by decide)) i (by omega)
 have e : sgI ds z.1 (i + 1) = if rd ds (i : Int) % 2 = 1 ∧ idx8 z.1 i % 2 = 1 then - sgI ds z.1 i else sgI ds z.1 i := by
  unfold sgI
  rw [Nat.min_eq_left (show i + 1 ≤ ds.length by omega), Nat.min_eq_left (show i ≤ ds.length by omega), wtN]
  exact sg_mul _ _ _ hw.1
 rw [if_pos (show (i : Int) < ds.length by omega), tmod2 (by omega), tmod2 (by omega), e]
 have hs : IntKind.i64.wrap (0 - sgI ds z.1 i) = - sgI ds z.1 i := by
  rcases sg_val (wtN ds z.1 (min i ds.length)) with h | h <;> (unfold sgI; rw [h]; rfl)
 by_cases h1 : rd ds (i : Int) % 2 = 1
 by_cases h2 : idx8 z.1 i % 2 = 1
 rw [if_pos h1, if_pos h2, if_pos ⟨h1, h2⟩, hs]
 rw [if_pos h1, if_neg h2, if_neg (fun h => h2 h.2)]
 rw [if_neg h1, if_neg (fun h => h1 h.1)]
 rw [if_neg (show ¬ (i : Int) < ds.length by omega)]
 unfold sgI
 rw [Nat.min_eq_right (show ds.length ≤ i by omega), Nat.min_eq_right (show ds.length ≤ i + 1 by omega)]
theorem d_l1_loop {imgs : List MpT} {z : TermT} {r6 : M8} (hK : 1073741824 ≤ K) (hd : okD ds = true) (hv : VI ds imgs) (hm : Mo 20 ds z.1) (hz : -10006 ≤ z.2 ∧ z.2 ≤ 10006) (hr : ∀ j, j < imgs.length → idxM r6 (j : Int) = rd imgs (j : Int)) :
 ∀ (k i : Nat) (out : MpT), 8 < i + k → i ≤ 8 → nfm out = true → out.length + 400 * (8 - i) ≤ 100000000 →
  ∃ a, g_impl_Algebra_d_l1 K (ds, imgs) r6 z k (sgI ds z.1 i) i (loM z.1 i) out = some (.go (a, dfold ds imgs z (ds.length - i) i out)) := by
 have hl := okD_len hd
 intro k
 induction k with
 | zero => intro i out h1 h2; omega
 | succ k ih =>
  intro i out h1 h2 ho hol
  rw [g_impl_Algebra_d_l1]
  by_cases hi8 : i < 8
  have hlo := hm.lo ⟨i, hi8⟩
  have hhi := hm.hi ⟨i, hi8⟩
  rw [← idx_nat z.1 hi8] at hlo hhi
  rw [if_pos (by omega)]
  by_cases h0 : idx8 z.1 i = 0
  rw [if_neg (by omega), j15_eq hd hm hi8]
  obtain ⟨a, ha⟩ := ih (i + 1) out (by omega) (by omega) ho (by omega)
  refine ⟨a, ?_⟩
  replace ha : g_impl_Algebra_d_l1 K (ds, imgs) r6 z k (sgI ds z.1 (i + 1)) ((i : Int) + 1) (loM z.1 (i + 1)) out = _ := ha
  rw [ha]
  by_cases hi : i < ds.length
  obtain ⟨n, hn⟩ : ∃ n, ds.length - i = n + 1 := ⟨ds.length - i - 1, by omega⟩
  have e2 : ds.length - (i + 1) = n := by omega
  rw [hn, e2, dfold, if_pos h0]
  rw [show ds.length - (i + 1) = 0 by omega, show ds.length - i = 0 by omega]; rfl
  have hi : i < ds.length := by
   rcases Nat.lt_or_ge i ds.length with h | h
   exact h
   exact absurd (by rw [idx_nat z.1 hi8]; exact hm.out ⟨i, hi8⟩ h) h0
  have h1' : 0 < idx8 z.1 i := by omega
  have hil : i < imgs.length := by rw [hv.len]; exact hi
  have hv' := hv.all _ (rd_mem hil)
  have hvl := hv'.len
  have hp := dT1_props hm hi8 h1' hv'
  have hn := dT_len hm hi8 h1' hv'
  have hsl := dstep_len (out := out) hm hi8 h1' hv'
  have hl2 := d_l2_loop (K := K) z.1 hi8 K 0 z.1 (by omega) (by omega) (fun t => by simp)
  replace hl2 : g_impl_Algebra_d_l2 K i K 0 z.1 = _ := hl2
  have hw : upd8 (loM z.1 i) i (IntKind.i64.wrap (idx8 z.1 i - 1)) = lfM z.1 i := by rw [IntWalk.i64_in _ (by omega)]; rfl
  have hfb := fac_bound hm hz i hi8 (sgI ds z.1 i) (sg_val _)
  have hF : (sgI ds z.1 i * z.2 * idx8 z.1 i) % 10007 = dF ds z i := by unfold dF sgI; rw [Nat.min_eq_left (by omega)]
  have hm1 : ∀ p : A8, mput ([] : MpT) p 1 = [(p, 1)] := fun p => rfl
  rw [if_pos h1', hl2, Option.bind_some]
  obtain ⟨a, ha⟩ := ih (i + 1) (dstep ds (rd imgs (i : Int)) z i out) (by omega) (by omega) (nfm_runM _ ho) (by omega)
  refine ⟨a, ?_⟩
  show (g_impl_sum_times K (mput ([] : MpT) (upd8 (loM z.1 i) i (IntKind.i64.wrap (idx8 z.1 i - 1))) 1) ds (idxM r6 i)).bind _ = _
  have hT : runM (mulT ds (runM (mulT ds [(lfM z.1 i, 1)] (rd imgs (i : Int))) []) [(hiM z.1 i, 1)]) [] = dT ds (rd imgs (i : Int)) z.1 i := rfl
  rw [hw, hm1, hm1, hr i hil, p_stimes (B := 20) (C := 20) (by omega) hd (by decide) (by decide) (by decide) (single_mo (lf_mo hm (by decide) hi8 h1')) (single_sm _) hv'.mo hv'.small (by simp; omega) (by omega), Option.bind_some,
   p_stimes (B := 40) (C := 20) (by omega) hd (by decide) (by decide) (by decide) hp.1 (nfm_small (nfm_runM _ nfm_nil)) (single_mo (hi_mo hm (by decide) i)) (single_sm _) (by omega) (by simp; omega), Option.bind_some, hT,
   IntWalk.i64_in (sgI ds z.1 i * z.2) (by omega), IntWalk.i64_in _ (by omega), fld_eq, Option.bind_some, hF, p_addAll (by unfold dF; omega) (by omega) (nfm_small dT_nfm) ho, Option.bind_some, j15_eq hd hm hi8]
  replace ha : g_impl_Algebra_d_l1 K (ds, imgs) r6 z k (sgI ds z.1 (i + 1)) ((i : Int) + 1) (loM z.1 (i + 1)) (runM (scl (dF ds z i) (dT ds (rd imgs (i : Int)) z.1 i)) out) = _ := ha
  rw [ha]
  obtain ⟨n, hn⟩ : ∃ n, ds.length - i = n + 1 := ⟨ds.length - i - 1, by omega⟩
  have e2 : ds.length - (i + 1) = n := by omega
  rw [hn, e2, dfold, if_neg h0]
  rw [if_neg (by omega), show ds.length - i = 0 by omega]; exact ⟨_, rfl⟩
set_option maxRecDepth 100000 in
theorem d_l0_loop {imgs : List MpT} {r6 : M8} (hK : 1073741824 ≤ K) (hd : okD ds = true) (hv : VI ds imgs) (hr : ∀ j, j < imgs.length → idxM r6 (j : Int) = rd imgs (j : Int)) :
 ∀ (k : Nat) (f out : MpT), f.length < k → MoL 20 ds f → SmF f → nfm out = true → out.length + 3200 * f.length ≤ 90000000 → g_impl_Algebra_d_l0 K (ds, imgs) r6 k f out = some (.go (dall ds imgs f out))
 | 0, _, _, h, _, _, _, _ => by omega
 | k + 1, [], out, _, _, _, _, _ => by rw [g_impl_Algebra_d_l0]; rfl
 | k + 1, z :: f, out, h, hm, hz, ho, hol => by
  have hl := okD_len hd
  rw [List.length_cons] at hol h
  have hk8 : 8 < 0 + K := by omega
  have hol' : out.length + 400 * (8 - 0) ≤ 100000000 := by rw [Nat.sub_zero]; omega
  obtain ⟨a, ha⟩ := d_l1_loop hK hd hv (hm z (List.mem_cons_self ..)) (hz z (List.mem_cons_self ..)) hr K 0 out hk8 (Nat.zero_le _) ho hol'
  have h4 := dfold_props hd hv (hm z (List.mem_cons_self ..)) ds.length 0 out (by omega) ho
  have e1 : sgI ds z.1 0 = 1 := by unfold sgI; rw [Nat.zero_min]; rfl
  have e2 : loM z.1 0 = fun _ => 0 := by funext t; unfold loM; rw [if_neg (by omega)]
  rw [e1, e2, Nat.sub_zero] at ha
  replace ha : g_impl_Algebra_d_l1 K (ds, imgs) r6 z K 1 0 (fun _ => 0) out = _ := ha
  rw [g_impl_Algebra_d_l0, ha, Option.bind_some]
  show g_impl_Algebra_d_l0 K (ds, imgs) r6 k f (dfold ds imgs z ds.length 0 out) = _
  exact d_l0_loop hK hd hv hr k f _ (by omega) (fun q hq => hm q (List.mem_cons_of_mem _ hq)) (fun q hq => hz q (List.mem_cons_of_mem _ hq)) h4.1 (by omega)
theorem p_dI {imgs : List MpT} {f : MpT} (hK : 1073741824 ≤ K) (hd : okD ds = true) (hv : VI ds imgs) (hf : VF ds f) : g_impl_Algebra_d K (ds, imgs) f = some (dall ds imgs f []) := by
 have hl := hf.len
 have hdl := okD_len hd
 obtain ⟨r6, h1, h2⟩ := p_images (K := K) (a := (ds, imgs)) (by omega) (show imgs.length ≤ 8 by rw [hv.len]; exact hdl) (fun g hg => ⟨ds, hv.all g hg⟩)
 unfold g_impl_Algebra_d
 rw [show ((ds, imgs) : List Int × List MpT).1 = ds from rfl, show ((ds, imgs) : List Int × List MpT).2 = imgs from rfl, h1, Option.bind_some, d_l0_loop hK hd hv h2 K f [] (by omega) hf.mo hf.small nfm_nil (by simp; omega)]
 rfl
end
theorem cont_form {K : Nat} {xs : List MpT} {p : MpT → Option Bool} {q : MpT → Bool} (hK : xs.length < K) (hp : ∀ x, x ∈ xs → p x = some (q x)) : g_slices_ContainsFunc_Simpl_Form_impl_Form K xs p = some (xs.any q) := by
 unfold g_slices_ContainsFunc_Simpl_Form_impl_Form g_slices_IndexFunc_Simpl_Form_impl_Form
 have := any_loop (fun k i => g_slices_IndexFunc_Simpl_Form_impl_Form_l0 K xs p k i) xs.length (fun j => q (rd xs (j : Int))) id (fun k n hn => ?_) (fun k n hn => ?_) K 0 (by omega) (by omega)
 rw [Nat.sub_zero, ← List.range_eq_range', range_any xs q] at this
 rcases this with ⟨m, h1, h2, _⟩ | ⟨h1, h2⟩
 replace h1 : g_slices_IndexFunc_Simpl_Form_impl_Form_l0 K xs p K 0 = _ := h1
 rw [h1, h2]; simp [Ex.elim]
 replace h1 : g_slices_IndexFunc_Simpl_Form_impl_Form_l0 K xs p K 0 = _ := h1
 rw [h1, h2]; simp [Ex.elim]
 show g_slices_IndexFunc_Simpl_Form_impl_Form_l0 K xs p (k + 1) n = _
 rw [g_slices_IndexFunc_Simpl_Form_impl_Form_l0, if_pos (by omega), hp _ (rd_mem hn)]; rfl
 show g_slices_IndexFunc_Simpl_Form_impl_Form_l0 K xs p (k + 1) n = _
 rw [g_slices_IndexFunc_Simpl_Form_impl_Form_l0, if_neg (by omega)]
/-- what the arguments are like -/
structure Inp (K : Nat) (a : AlgT) : Prop where
 big : 1073741824 ≤ K
 dl : a.1.length ≤ 1048576
 il : a.2.length ≤ 1048576
 fl : ∀ f, f ∈ a.2 → f.length ≤ 1048576
 by_ : ∀ f, f ∈ a.2 → BytF f
def okI (a : AlgT) (j : Nat) : Bool := okF a.1 (rd a.2 (j : Int)) && okG a.1 (rd a.2 (j : Int)) (rd a.1 (j : Int) + 1)
def okB (a : AlgT) : Bool := okD a.1 && (decide (a.2.length = a.1.length) && (List.range a.2.length).all (okI a))
def okC (a : AlgT) : Bool := a.2.all fun f => decide ((dall a.1 a.2 f []).length = 0)
def okA (a : AlgT) : Bool := okB a && okC a
section
variable {K : Nat} {a : AlgT}
theorem okB_deg (h : okB a = true) : okD a.1 = true := by unfold okB at h; rw [Bool.and_eq_true] at h; exact h.1
theorem okB_vi (hi : Inp K a) (h : okB a = true) : VI a.1 a.2 := by
 unfold okB at h
 rw [Bool.and_eq_true, Bool.and_eq_true, decide_eq_true_eq] at h
 refine ⟨h.2.1, fun f hf => ?_⟩
 obtain ⟨j, hj, rfl⟩ := List.getElem_of_mem hf
 have := List.all_eq_true.1 h.2.2 j (List.mem_range.2 hj)
 unfold okI at this
 rw [rd_nat hj, Bool.and_eq_true] at this
 exact okF_vf (hi.by_ _ hf) this.1
theorem p_algS (hi : Inp K a) : g_spec_l02Is K a = some (okA a) := by
 have hK := hi.big
 have hdl := hi.dl
 have hil := hi.il
 unfold g_spec_l02Is okA okB
 rw [p_degS (by omega), Option.bind_some]
 cases hd : okD a.1 with
 | false => rfl
 | true =>
  rw [if_pos rfl]
  unfold g_spec_l02Is_j1
  by_cases hl : a.2.length = a.1.length
  case neg => rw [if_pos (by simp; omega)]; simp [hl]
  rw [if_neg (by simp; omega), all_loop_ge (g := ()) (fun k i => g_spec_l02Is_l0 K a k i) a.2.length (okI a) false (fun k n hn => ?_) (fun k n hn => ?_) (by omega)]
  cases hb : (List.range a.2.length).all (okI a) with
  | false => simp [Ex.elim, hl]
  | true =>
   have hB : okB a = true := by unfold okB; rw [hd, hb]; simp [hl]
   have hv := okB_vi hi hB
   rw [if_pos rfl, Option.bind_some]
   show ((g_spec_l02Is_l1 K a K 0).bind _) = _
   rw [all_loop_ge (g := ()) (fun k i => g_spec_l02Is_l1 K a k i) a.2.length (fun j => decide ((dall a.1 a.2 (rd a.2 (j : Int)) []).length = 0)) false (fun k n hn => ?_) (fun k n hn => ?_) (by omega), range_all a.2 (fun f => decide ((dall a.1 a.2 f []).length = 0))]
   unfold okC
   rw [Bool.true_and, decide_eq_true hl, Bool.true_and, Bool.true_and]
   cases a.2.all fun f => decide ((dall a.1 a.2 f []).length = 0) <;> rfl
   show g_spec_l02Is_l1 K a (k + 1) n = _
   rw [g_spec_l02Is_l1, if_pos (by omega), p_dS hK hd hv (hv.all _ (rd_mem hn)), Option.bind_some]
   by_cases h0 : (dall a.1 a.2 (rd a.2 (n : Int)) []).length = 0
   rw [if_neg (by omega), if_pos (by simpa using h0)]
   rw [if_pos (by omega), if_neg (show ¬ decide ((dall a.1 a.2 (rd a.2 (n : Int)) []).length = 0) = true by simpa using h0)]
   show g_spec_l02Is_l1 K a (k + 1) n = _
   rw [g_spec_l02Is_l1, if_neg (by omega)]
  show g_spec_l02Is_l0 K a (k + 1) n = _
  have hb := hi.by_ _ (rd_mem hn)
  have hfl := hi.fl _ (rd_mem hn)
  have hp := okD_pos hd _ (rd_mem (show n < a.1.length by omega))
  obtain ⟨r, hr, hg⟩ := p_degreeS (K := K) (f := rd a.2 (n : Int)) (by omega) (by omega) hd hb
  rw [g_spec_l02Is_l0, if_pos (by omega), p_isS (by omega) (by omega) (by omega) hd hb, Option.bind_some, hr, Option.bind_some, if_pos (show (n : Int) < a.1.length by omega), IntWalk.i64_in _ (by omega)]
  unfold okI
  rw [← hg]
  cases okF a.1 (rd a.2 (n : Int)) with
  | false => rfl
  | true =>
   rw [if_pos rfl, Bool.true_and]
   cases r.2 with
   | false => rfl
   | true =>
    rw [if_pos rfl, Bool.true_and]
    by_cases h0 : (rd a.2 (n : Int)).length = 0
    rw [if_neg (by omega), if_pos (by simp [h0])]
    rw [if_pos (by omega)]
    by_cases h1 : r.1 = rd a.1 (n : Int) + 1
    rw [if_pos h1, if_pos (by simp [h1])]
    rw [if_neg h1, if_neg (by simp [h0, h1])]
  show g_spec_l02Is_l0 K a (k + 1) n = _
  rw [g_spec_l02Is_l0, if_neg (by omega)]
theorem p_algI (hi : Inp K a) : g_impl_IsAlgebra K a = some (okA a) := by
 have hK := hi.big
 have hdl := hi.dl
 have hil := hi.il
 unfold g_impl_IsAlgebra okA okB
 rw [p_degI (by omega), Option.bind_some]
 cases hd : okD a.1 with
 | false => rfl
 | true =>
  rw [if_pos rfl]
  unfold g_impl_IsAlgebra_j1
  by_cases hl : a.2.length = a.1.length
  case neg => rw [if_pos (by simp; omega)]; simp [hl]
  rw [if_neg (by simp; omega), all_loop_ge (g := ()) (fun k i => g_impl_IsAlgebra_l0 K a k i) a.2.length (okI a) false (fun k n hn => ?_) (fun k n hn => ?_) (by omega)]
  cases hb : (List.range a.2.length).all (okI a) with
  | false => simp [Ex.elim, hl]
  | true =>
   have hB : okB a = true := by unfold okB; rw [hd, hb]; simp [hl]
   have hv := okB_vi hi hB
   rw [if_pos rfl, Option.bind_some]
   show ((g_slices_ContainsFunc_Simpl_Form_impl_Form K a.2 fun x => g_impl_IsAlgebra_c1 K x (a.1, a.2)).bind _) = _
   rw [cont_form (q := fun f => !decide ((dall a.1 a.2 f []).length = 0)) (by omega) (fun f hf => ?_), Option.bind_some, ← List.not_all_eq_any_not]
   unfold okC
   rw [Bool.true_and, decide_eq_true hl, Bool.true_and, Bool.true_and, Bool.not_not]
   have hvf := hv.all f hf
   have hvl := hvf.len
   unfold g_impl_IsAlgebra_c1
   rw [p_sumOf (by omega) (by omega) hvf.byt (nfm_srt hvf.nf), Option.bind_some]
   show (g_impl_Algebra_d K (a.1, a.2) f).bind _ = _
   rw [p_dI hK hd hv hvf, Option.bind_some]
   congr 1
   rw [← decide_not]
   exact decide_eq_decide.2 (by omega)
  show g_impl_IsAlgebra_l0 K a (k + 1) n = _
  have hb := hi.by_ _ (rd_mem hn)
  have hfl := hi.fl _ (rd_mem hn)
  have hp := okD_pos hd _ (rd_mem (show n < a.1.length by omega))
  rw [g_impl_IsAlgebra_l0, if_pos (by omega), p_isI (by omega) hd hb, Option.bind_some, if_pos (show (n : Int) < a.1.length by omega), IntWalk.i64_in _ (by omega), p_degreeI (by omega) (by omega) hd hb (by omega), Option.bind_some]
  unfold okI
  cases okF a.1 (rd a.2 (n : Int)) with
  | false => rfl
  | true => rw [if_pos rfl, Bool.true_and]
  show g_impl_IsAlgebra_l0 K a (k + 1) n = _
  rw [g_impl_IsAlgebra_l0, if_neg (by omega)]
end
theorem rd_eq {α : Type} [Inhabited α] {xs : List α} {n : Nat} {x : α} (h : xs[n]? = some x) : rd xs (n : Int) = x := by
 unfold rd
 rw [Int.toNat_natCast, List.getD_eq_getElem?_getD, h]; rfl
theorem take_rd {α : Type} [Inhabited α] {xs : List α} {j : Nat} (h : j < xs.length) : xs.take (j + 1) = xs.take j ++ [rd xs (j : Int)] := by
 rw [rd_nat h, List.take_add_one, List.getElem?_eq_getElem h]; rfl
/-! lists without one place -/
theorem erase_take {α : Type} [Inhabited α] {xs : List α} {i j : Nat} (hj : j < xs.length) : (xs.take (j + 1)).eraseIdx i = if j = i then (xs.take j).eraseIdx i else (xs.take j).eraseIdx i ++ [rd xs (j : Int)] := by
 have hl : (xs.take j).length = j := by rw [List.length_take]; omega
 rw [take_rd hj]
 by_cases h : i < j
 rw [if_neg (by omega), List.eraseIdx_append_of_lt_length (by omega)]
 rw [List.eraseIdx_append_of_length_le (by omega), List.eraseIdx_of_length_le (by omega : (xs.take j).length ≤ i), hl]
 by_cases e : j = i
 rw [if_pos e, show i - j = 0 by omega]; simp
 rw [if_neg e]
 obtain ⟨d, hd⟩ : ∃ d, i - j = d + 1 := ⟨i - j - 1, by omega⟩
 rw [hd]; rfl
section
variable {K : Nat} {ds : List Int} {i : Nat}
theorem gone_loop {v x : Int} : ∀ {k : Nat}, 1 < k → g_spec_l06Without_l1 K [v] x k false 0 = some (.go (decide (v = x))) := by
 intro k hk
 obtain ⟨k, rfl⟩ : ∃ m, k = m + 2 := ⟨k - 2, by omega⟩
 rw [g_spec_l06Without_l1]
 simp only [List.length_cons, List.length_nil]
 rw [if_pos (by decide), if_neg (by simp), g_spec_l06Without_l1]
 simp only [List.length_cons, List.length_nil]
 rw [if_neg (by decide)]; rfl
theorem without_loop {ds : List Int} (hK : 1 < K) (hl : ds.length ≤ 1048576) : ∀ (k j : Nat), ds.length < j + k → j ≤ ds.length → g_spec_l06Without_l0 K ds [(i : Int)] k j ((ds.take j).eraseIdx i) = some (.go (ds.eraseIdx i)) := by
 intro k
 induction k with
 | zero => intro j h1 h2; omega
 | succ k ih =>
  intro j h1 h2
  rw [g_spec_l06Without_l0]
  by_cases hj : j < ds.length
  have hle : ((ds.take j).eraseIdx i).length ≤ ds.length := Nat.le_trans (List.length_eraseIdx_le _ _) (by rw [List.length_take]; omega)
  have := ih (j + 1) (by omega) (by omega)
  rw [erase_take hj] at this
  rw [if_pos (by omega), gone_loop hK, Option.bind_some]
  by_cases e : j = i
  subst e
  rw [if_pos rfl] at this
  show (if decide ((j : Int) = (j : Int)) = true then _ else _) = _
  rw [if_pos (by simp)]; exact this
  rw [if_neg e] at this
  show (if decide ((i : Int) = (j : Int)) = true then _ else _) = _
  rw [if_neg (by simp; omega), if_pos (by simp; omega)]; exact this
  rw [if_neg (by omega), List.take_of_length_le (by omega)]
theorem p_without {ds : List Int} (hK : 1073741824 ≤ K) (hl : ds.length ≤ 1048576) : g_spec_l06Without K ds [(i : Int)] = some (ds.eraseIdx i) := by
 have := without_loop (K := K) (i := i) (by omega) hl K 0 (by omega) (by omega)
 unfold g_spec_l06Without
 replace this : g_spec_l06Without_l0 K ds [(i : Int)] K 0 [] = some (.go (ds.eraseIdx i)) := this
 rw [this]; rfl
/-- the new place of a generator -/
def ren (i j : Nat) : Nat := if j < i then j else j - 1
def gn (t : Nat) (e : Int) : A8 := upd8 (fun _ => 0) t e
def nmd (n i : Nat) : List MpT := (List.range n).map fun j => if j = i then [] else [(gn (ren i j) 1, 1)]
def tol (n i : Nat) : List Int := (List.range n).map fun j => if j = i then -1 else (ren i j : Int)
theorem nmd_len (n i : Nat) : (nmd n i).length = n := by simp [nmd]
theorem tol_len (n i : Nat) : (tol n i).length = n := by simp [tol]
theorem nmd_rd {n i j : Nat} (h : j < n) : rd (nmd n i) (j : Int) = if j = i then [] else [(gn (ren i j) 1, 1)] := rd_eq (by simp [nmd, h])
theorem tol_rd {n i j : Nat} (h : j < n) : rd (tol n i) (j : Int) = if j = i then -1 else (ren i j : Int) := rd_eq (by simp [tol, h])
theorem p_generator {t : Nat} (ht : t < 8) : g_spec_l04Generator K (t : Int) = some [(gn t 1, 1)] := by
 unfold g_spec_l04Generator
 rw [if_pos (by omega), if_pos (by omega), p_single]; rfl
theorem p_generatorI {t : Nat} (ht : t < 8) : g_impl_generator K (t : Int) = some (gn t 1) := by
 unfold g_impl_generator
 rw [if_pos (by omega), if_pos (by omega)]; rfl
theorem goneN_loop {v x : Int} : ∀ {k : Nat}, 1 < k → g_spec_l06Named_l1 K [v] x k false 0 = some (.go (decide (v = x))) := by
 intro k hk
 obtain ⟨k, rfl⟩ : ∃ m, k = m + 2 := ⟨k - 2, by omega⟩
 rw [g_spec_l06Named_l1]
 simp only [List.length_cons, List.length_nil]
 rw [if_pos (by decide), if_neg (by simp), g_spec_l06Named_l1]
 simp only [List.length_cons, List.length_nil]
 rw [if_neg (by decide)]; rfl
theorem named_loop {n : Nat} (hK : 1 < K) (hn : n ≤ 8) : ∀ (k j : Nat), n < j + k → j ≤ n → g_spec_l06Named_l0 K n [(i : Int)] k j ((nmd n i).take j) (if j ≤ i then (j : Int) else (j : Int) - 1) = some (.go (nmd n i)) := by
 intro k
 induction k with
 | zero => intro j h1 h2; omega
 | succ k ih =>
  intro j h1 h2
  rw [g_spec_l06Named_l0]
  by_cases hj : j < n
  have hle : ((nmd n i).take j).length ≤ n := by rw [List.length_take, nmd_len]; omega
  have := ih (j + 1) (by omega) (by omega)
  rw [take_rd (by rw [nmd_len]; exact hj), nmd_rd hj] at this
  rw [if_pos (by omega), goneN_loop hK, Option.bind_some, IntWalk.i64_in ((j : Int) + 1) (by omega)]
  by_cases e : j = i
  subst e
  rw [if_pos rfl, if_neg (by omega)] at this
  show (if decide ((j : Int) = (j : Int)) = true then _ else _) = _
  rw [if_pos (by simp), if_pos (by simp; omega), if_pos (by omega)]
  refine Eq.trans ?_ this
  rw [show ((j + 1 : Nat) : Int) - 1 = (j : Int) by omega]; rfl
  rw [if_neg e] at this
  show (if decide ((i : Int) = (j : Int)) = true then _ else _) = _
  have er : (if j ≤ i then (j : Int) else (j : Int) - 1) = (ren i j : Int) := by
   unfold ren
   by_cases h : j < i
   rw [if_pos (by omega), if_pos h]
   rw [if_neg (by omega), if_neg h]; omega
  have hr8 : ren i j < 8 := by unfold ren; split <;> omega
  rw [if_neg (by simp; omega), er, p_generator hr8, Option.bind_some, if_pos (by simp; omega), IntWalk.i64_in _ (by omega)]
  refine Eq.trans ?_ this
  have e3 : (ren i j : Int) + 1 = if j + 1 ≤ i then ((j + 1 : Nat) : Int) else ((j + 1 : Nat) : Int) - 1 := by
   rw [← er]
   by_cases h : j < i
   rw [if_pos (by omega), if_pos (by omega)]; omega
   rw [if_neg (by omega), if_neg (by omega)]; omega
  rw [e3]; rfl
  rw [if_neg (by omega), List.take_of_length_le (by rw [nmd_len]; omega)]
theorem p_named {n : Nat} (hK : 1073741824 ≤ K) (hn : n ≤ 8) : g_spec_l06Named K n [(i : Int)] = some (nmd n i) := by
 have := named_loop (K := K) (i := i) (by omega) hn K 0 (by omega) (by omega)
 unfold g_spec_l06Named
 replace this : g_spec_l06Named_l0 K n [(i : Int)] K 0 [] 0 = some (.go (nmd n i)) := this
 rw [this]; rfl
/-! the other side's lists -/
theorem p_contains {v x : Int} (hK : 1 < K) : g_slices_Contains_Sint_int K [v] x = some (decide (x = v)) := by
 unfold g_slices_Contains_Sint_int g_slices_Index_Sint_int
 obtain ⟨k, rfl⟩ : ∃ m, K = m + 2 := ⟨K - 2, by omega⟩
 rw [g_slices_Index_Sint_int_l0]
 simp only [List.length_cons, List.length_nil]
 have e : rd [v] 0 = v := rfl
 rw [if_pos (by decide), e]
 by_cases h : x = v
 rw [if_pos h]; simp [h, Ex.elim]
 rw [if_neg h, g_slices_Index_Sint_int_l0]
 simp only [List.length_cons, List.length_nil]
 rw [if_neg (by decide)]; simp [h, Ex.elim]
theorem withoutI_loop {imgs : List MpT} (hK : 1 < K) (hl : ds.length ≤ 8) : ∀ (k j : Nat), ds.length < j + k → j ≤ ds.length → g_impl_Algebra_without_l0 K (ds, imgs) [(i : Int)] k j ((tol ds.length i).take j) ((ds.take j).eraseIdx i) = some (.go (tol ds.length i, ds.eraseIdx i)) := by
 intro k
 induction k with
 | zero => intro j h1 h2; omega
 | succ k ih =>
  intro j h1 h2
  rw [g_impl_Algebra_without_l0]
  by_cases hj : j < ds.length
  have htl : (ds.take j).length = j := by rw [List.length_take]; omega
  have hle : ((ds.take j).eraseIdx i).length = if i < j then j - 1 else j := by rw [List.length_eraseIdx, htl]
  have hle2 : ((tol ds.length i).take j).length ≤ 8 := by rw [List.length_take, tol_len]; omega
  have := ih (j + 1) (by omega) (by omega)
  rw [erase_take hj, take_rd (by rw [tol_len]; exact hj), tol_rd hj] at this
  rw [if_pos (by exact Int.ofNat_lt.2 hj), p_contains hK, Option.bind_some]
  by_cases e : j = i
  subst e
  rw [if_pos rfl, if_pos rfl] at this
  rw [if_pos (by simp), if_pos (by simp; omega)]; exact this
  rw [if_neg e, if_neg e] at this
  have er : ((((ds.take j).eraseIdx i).length : Nat) : Int) = (ren i j : Int) := by
   rw [hle]; unfold ren
   by_cases h : j < i
   rw [if_neg (by omega), if_pos h]
   rw [if_pos (by omega), if_neg h]
  have hb : ((ds.take j).eraseIdx i).length ≤ 8 := by rw [hle]; split <;> omega
  rw [if_neg (by simp; omega), if_pos (by simp; omega), if_pos (by simp; omega), er]; exact this
  rw [if_neg (show ¬ (j : Int) < ds.length by omega), List.take_of_length_le (show (tol ds.length i).length ≤ j by rw [tol_len]; omega), List.take_of_length_le (show ds.length ≤ j by omega)]
theorem p_withoutI {imgs : List MpT} (hK : 1073741824 ≤ K) (hl : ds.length ≤ 8) : g_impl_Algebra_without K (ds, imgs) [(i : Int)] = some (ds.eraseIdx i, tol ds.length i) := by
 have := withoutI_loop (K := K) (i := i) (imgs := imgs) (by omega) hl K 0 (by omega) (by omega)
 unfold g_impl_Algebra_without
 replace this : g_impl_Algebra_without_l0 K (ds, imgs) [(i : Int)] K 0 [] [] = some (.go (tol ds.length i, ds.eraseIdx i)) := this
 rw [this]; rfl
theorem by_loop {n : Nat} (hK : 1 < K) (hn : n ≤ 8) : ∀ (k j : Nat), n < j + k → j ≤ n → g_impl_renumbered_l0 K (tol n i) k j ((nmd n i).take j) = some (.go (nmd n i)) := by
 intro k
 induction k with
 | zero => intro j h1 h2; omega
 | succ k ih =>
  intro j h1 h2
  rw [g_impl_renumbered_l0, tol_len]
  by_cases hj : j < n
  have hle : ((nmd n i).take j).length ≤ n := by rw [List.length_take, nmd_len]; omega
  have := ih (j + 1) (by omega) (by omega)
  rw [take_rd (by rw [nmd_len]; exact hj), nmd_rd hj] at this
  rw [if_pos (by omega), tol_rd hj]
  by_cases e : j = i
  rw [if_pos e] at this ⊢
  rw [if_pos (by decide), if_pos (by simp; omega)]; exact this
  have hr8 : ren i j < 8 := by unfold ren; split <;> omega
  rw [if_neg e] at this ⊢
  rw [if_neg (by omega), p_generatorI hr8, Option.bind_some, if_pos (by simp; omega)]; exact this
  rw [if_neg (by omega), List.take_of_length_le (by rw [nmd_len]; omega)]
end
section
variable {K : Nat} {ds : List Int} {i : Nat}
/-- a product in which nothing passes anything -/
theorem od_zero {p : A8} : ∀ (n j : Nat), (∀ y : Nat, j ≤ y → idx8 p y = 0) → od ds p n j = 0
 | 0, _, _ => rfl
 | n + 1, j, h => by rw [od, h j (Nat.le_refl _), Int.mul_zero, od_zero n (j + 1) (fun y hy => h y (by omega))]; rfl
theorem tot_zero {p q : A8} : ∀ (n x : Nat), (∀ y : Nat, x ≤ y → rd ds (y : Int) % 2 ≠ 0 → 0 < idx8 q y → ∀ u : Nat, y ≤ u → idx8 p u = 0) → tot ds p q n x = some 0
 | 0, _, _ => rfl
 | n + 1, x, h => by
  have ih := tot_zero (p := p) (q := q) n (x + 1) (fun y hy => h y (by omega))
  rw [tot]
  by_cases he : rd ds (x : Int) % 2 = 0
  rw [if_pos he]; exact ih
  rw [if_neg he]
  by_cases hq : 0 < idx8 q x
  have hz := h x (Nat.le_refl _) he hq
  rw [if_neg (by rw [hz x (Nat.le_refl _)]; omega), ih, if_pos hq, od_zero n (x + 1) (fun y hy => hz y (by omega))]; rfl
  rw [if_neg (fun h => hq h.2), ih, if_neg hq]; rfl
theorem pmul_plain {p q : A8} (h : ∀ y : Nat, rd ds (y : Int) % 2 ≠ 0 → 0 < idx8 q y → ∀ u : Nat, y ≤ u → idx8 p u = 0) : pmul ds p q = (addA p q, 1) := by
 unfold pmul
 rw [tot_zero _ 0 (fun y _ => h y)]; rfl
theorem gn_idx {t : Nat} (ht : t < 8) (e : Int) (n : Nat) : idx8 (gn t e) n = if n = t then e else 0 := by
 by_cases hn : n < 8
 rw [idx_nat _ hn]; unfold gn; rw [upd_nat _ ht]
 rw [if_neg (by omega)]; simp [idx8, hn]
theorem gn_mo {t : Nat} {e : Int} (ht : t < 8) (htl : t < ds.length) (h0 : 0 ≤ e) (h20 : e ≤ 20) (ho : rd ds (t : Int) % 2 = 1 → e ≤ 1) : Mo 20 ds (gn t e) := by
 refine ⟨fun j => ?_, fun j => ?_, fun n hn hod => ?_, fun j hj => ?_⟩
 unfold gn; rw [upd_nat _ ht]; split <;> omega
 unfold gn; rw [upd_nat _ ht]; split <;> omega
 rw [gn_idx ht]; split
 rename_i e; subst e; exact ho hod
 omega
 unfold gn; rw [upd_nat _ ht, if_neg (by omega)]
theorem gn_add {t : Nat} (ht : t < 8) (a b : Int) : addA (gn t a) (gn t b) = gn t (a + b) := by
 funext j
 show gn t a j + gn t b j = _
 unfold gn
 rw [upd_nat _ ht, upd_nat _ ht, upd_nat _ ht]
 split <;> simp
theorem gn_zero {t : Nat} : gn t 0 = fun _ => 0 := by
 funext j
 unfold gn upd8; split <;> rfl
theorem runM_one {p : A8} {c : Int} (hc : 1 ≤ c ∧ c ≤ 10006) : runM [(p, c)] [] = [(p, c)] := by
 refine runM_self (nfm_mk (List.pairwise_singleton _ _) (fun q hq => ?_))
 cases List.mem_singleton.1 hq; exact hc
theorem mulT_one {p q : A8} {c : Int} (h : pmul ds p q = (addA p q, 1)) : mulT ds [(p, c)] [(q, 1)] = [(addA p q, c)] := by
 unfold mulT mulT1
 simp [h]
theorem mulT_nil (s : MpT) : mulT ds s [] = [] := by
 unfold mulT mulT1
 induction s with
 | nil => rfl
 | cons z s ih => rw [List.flatMap_cons, ih]; rfl
theorem one_mo {B : Int} {p : A8} {c : Int} (h : Mo B ds p) : MoL B ds [(p, c)] := fun t ht => by cases List.mem_singleton.1 ht; exact h
theorem one_sm {p : A8} {c : Int} (hc : 1 ≤ c ∧ c ≤ 10006) : SmF [(p, c)] := fun t ht => by cases List.mem_singleton.1 ht; simp; omega
theorem nil_mo {B : Int} : MoL B ds [] := fun t ht => by cases ht
theorem nil_sm : SmF [] := fun t ht => by cases ht
/-- one step of a power -/
theorem pw_mul {t : Nat} {e : Int} (ht : t < 8) (htl : t < ds.length) (h0 : 0 ≤ e) (ho : rd ds (t : Int) % 2 ≠ 0 → e = 0) : pmul ds (gn t e) (gn t 1) = (addA (gn t e) (gn t 1), 1) := by
 refine pmul_plain (fun y hy hq u hu => ?_)
 rw [gn_idx ht] at hq ⊢
 by_cases e1 : y = t
 subst e1
 rw [ho hy]; split <;> rfl
 rw [if_neg e1] at hq; omega
theorem power_loopS {t : Nat} (hK : 1073741824 ≤ K) (hd : okD ds = true) (ht : t < 8) (htl : t < ds.length) : ∀ (k : Nat) (x e : Int), x.toNat < k → 0 ≤ x → x + e ≤ 20 → 0 ≤ e → (rd ds (t : Int) % 2 ≠ 0 → x + e ≤ 1) →
 g_spec_l04Power_l0 K ds [(gn t 1, 1)] k x [(gn t e, 1)] = some (.go [(gn t (e + x), 1)]) := by
 intro k
 induction k with
 | zero => intro x e h; omega
 | succ k ih =>
  intro x e h1 h2 h3 h4 h5
  rw [g_spec_l04Power_l0]
  by_cases hx : 0 < x
  have hm := pw_mul (ds := ds) (e := e) ht htl h4 (fun h => by have := h5 h; omega)
  rw [if_pos hx, p_timesS (B := 20) (C := 20) hK hd (by decide) (by decide) (one_mo (gn_mo ht htl h4 (by omega) (fun h => by have := h5 (by omega); omega))) (one_sm (by decide)) (one_mo (gn_mo ht htl (by decide) (by decide) (fun _ => by decide))) (one_sm (by decide)) (single_srt _) (by simp) (by simp; omega) (by simp),
   Option.bind_some, mulT_one hm, gn_add ht, runM_one (by decide), wrap8 (by omega), ih (x - 1) (e + 1) (by omega) (by omega) (by omega) (by omega) (fun h => by have := h5 h; omega)]
  rw [show e + 1 + (x - 1) = e + x by omega]
  rw [if_neg hx, show x = 0 by omega, Int.add_zero]
theorem p_powerS {t : Nat} {e : Int} (hK : 1073741824 ≤ K) (hd : okD ds = true) (ht : t < 8) (htl : t < ds.length) (h0 : 0 ≤ e) (h20 : e ≤ 20) (ho : rd ds (t : Int) % 2 ≠ 0 → e ≤ 1) : g_spec_l04Power K ds [(gn t 1, 1)] e = some [(gn t e, 1)] := by
 have := power_loopS (K := K) hK hd ht htl K e 0 (by omega) h0 (by omega) (by omega) (fun h => by have := ho h; omega)
 unfold g_spec_l04Power
 rw [p_single, Option.bind_some]
 rw [gn_zero, Int.zero_add] at this
 rw [this]; rfl
theorem p_powerS0 {e : Int} (hK : 1073741824 ≤ K) (hd : okD ds = true) (h0 : 0 < e) (h20 : e ≤ 20) : g_spec_l04Power K ds [] e = some [] := by
 have key : ∀ (k : Nat) (x : Int) (s : MpT), x.toNat < k → 0 ≤ x → x ≤ 20 → (s = [] ∨ s = [((fun _ => 0 : A8), 1)]) → (0 < x ∨ s = []) → g_spec_l04Power_l0 K ds [] k x s = some (.go []) := by
  intro k
  induction k with
  | zero => intro x s h; omega
  | succ k ih =>
   intro x s h1 h2 h3 h4 h5
   rw [g_spec_l04Power_l0]
   by_cases hx : 0 < x
   have hms : MoL 20 ds s := by
    rcases h4 with rfl | rfl
    exact nil_mo
    exact one_mo ⟨fun _ => by decide, fun _ => by decide, fun n _ _ => by simp [idx8], fun _ _ => rfl⟩
   have hss : SmF s := by
    rcases h4 with rfl | rfl
    exact nil_sm
    exact one_sm (by decide)
   have hsl : s.length ≤ 1 := by rcases h4 with rfl | rfl <;> simp
   rw [if_pos hx, p_timesS (B := 20) (C := 20) hK hd (by decide) (by decide) hms hss nil_mo nil_sm List.Pairwise.nil (by simp) (by omega) (by simp), Option.bind_some, mulT_nil, wrap8 (by omega)]
   exact ih (x - 1) [] (by omega) (by omega) (by omega) (.inl rfl) (.inr rfl)
   rw [if_neg hx]
   rcases h5 with h | rfl
   exact absurd h hx
   rfl
 unfold g_spec_l04Power
 rw [p_single, Option.bind_some, key K e _ (by omega) (by omega) h20 (.inr rfl) (.inl h0)]; rfl
/-! the other side's powers -/
theorem pwN_one {fr : List Int} {by_ : List MpT} {j t : Nat} (hK : 1073741824 ≤ K) (hd : okD ds = true) (ht : t < 8) (htl : t < ds.length) (hj : j < by_.length) (hb : rd by_ (j : Int) = [(gn t 1, 1)]) :
 ∀ n : Nat, n ≤ 20 → (rd ds (t : Int) % 2 ≠ 0 → n ≤ 1) → pwN K (fr, ds, by_) j n = some [(gn t n, 1)]
 | 0, _, _ => by
  rw [pwN]
  show some (mput ([] : MpT) (fun _ => 0) 1) = _
  rw [← gn_zero (t := t)]; rfl
 | n + 1, h1, h2 => by
  have ih := pwN_one (fr := fr) hK hd ht htl hj hb n (by omega) (fun h => by have := h2 h; omega)
  have hm := pw_mul (ds := ds) (e := n) ht htl (by omega) (fun h => by have := h2 h; omega)
  rw [pwN, if_pos ⟨by omega, by exact Int.ofNat_lt.2 hj⟩, ih, Option.bind_some]
  show g_impl_sum_times K [(gn t n, 1)] ds (rd by_ (j : Int)) = _
  rw [hb, p_stimes (B := 20) (C := 20) (by omega) hd (by decide) (by decide) (by decide) (one_mo (gn_mo ht htl (by omega) (by omega) (fun h => by have := h2 (by omega); omega))) (one_sm (by decide)) (one_mo (gn_mo ht htl (by decide) (by decide) (fun _ => by decide))) (one_sm (by decide)) (by simp; omega) (by simp; omega),
   mulT_one hm, gn_add ht, runM_one (by decide)]
  rfl
theorem pwN_none {fr : List Int} {by_ : List MpT} {j : Nat} (hK : 1073741824 ≤ K) (hd : okD ds = true) (hj : j < by_.length) (hb : rd by_ (j : Int) = []) :
 ∀ n : Nat, pwN K (fr, ds, by_) j (n + 1) = some []
 | 0 => by
  rw [pwN, if_pos ⟨by omega, by exact Int.ofNat_lt.2 hj⟩, pwN]
  show g_impl_sum_times K (mput ([] : MpT) (fun _ => 0) 1) ds (rd by_ (j : Int)) = _
  rw [hb, show mput ([] : MpT) (fun _ => 0) 1 = [((fun _ => 0 : A8), 1)] from rfl, p_stimes (B := 20) (C := 20) (by omega) hd (by decide) (by decide) (by decide) (one_mo ⟨fun _ => by decide, fun _ => by decide, fun n _ _ => by simp [idx8], fun _ _ => rfl⟩) (one_sm (by decide)) nil_mo nil_sm (by simp; omega) (by simp; omega), mulT_nil]; rfl
 | n + 1 => by
  rw [pwN, if_pos ⟨by omega, by exact Int.ofNat_lt.2 hj⟩, pwN_none hK hd hj hb n, Option.bind_some]
  show g_impl_sum_times K [] ds (rd by_ (j : Int)) = _
  rw [hb, p_stimes (B := 20) (C := 20) (by omega) hd (by decide) (by decide) (by decide) nil_mo nil_sm nil_mo nil_sm (by simp; omega) (by simp; omega), mulT_nil]; rfl
end
/-- a monomial without a generator; what has been led so far -/
def dm (i : Nat) (m : A8) : A8 := fun t => if t.val < i then m t else idx8 m ((t.val + 1 : Nat) : Int)
def pm (i : Nat) (m : A8) (j : Nat) : A8 := fun t => if t.val < i then (if t.val < j then m t else 0) else (if t.val + 1 < j then idx8 m ((t.val + 1 : Nat) : Int) else 0)
def drp1 (i : Nat) (t : TermT) : MpT := if 0 < idx8 t.1 i then [] else [(dm i t.1, t.2)]
def drp (i : Nat) (f : MpT) : MpT := f.flatMap (drp1 i)
def ledT (i : Nat) (m : A8) (c : Int) (j : Nat) : MpT := if i < j ∧ 0 < idx8 m i then [] else [(pm i m j, c)]
theorem erase_rd {ds : List Int} {i x : Nat} (h : x < (ds.eraseIdx i).length) : rd (ds.eraseIdx i) (x : Int) = rd ds ((if x < i then x else x + 1 : Nat) : Int) := by
 unfold rd
 rw [Int.toNat_natCast, Int.toNat_natCast, List.getD_eq_getElem?_getD, List.getD_eq_getElem?_getD, List.getElem?_eraseIdx]
 split <;> rfl
theorem idx_pm {i j : Nat} (hi : i ≤ 8) (hj : j ≤ 8) (m : A8) (u : Nat) : idx8 (pm i m j) u = if u < i then (if u < j then idx8 m u else 0) else if u + 1 < j then idx8 m ((u + 1 : Nat) : Int) else 0 := by
 by_cases hu : u < 8
 rw [idx_nat _ hu, idx_nat m hu]; rfl
 rw [if_neg (by omega), if_neg (by omega)]; simp [idx8, hu]
section
variable {K : Nat} {ds : List Int} {i : Nat}
theorem erase_len (hi : i < ds.length) : (ds.eraseIdx i).length = ds.length - 1 := by rw [List.length_eraseIdx, if_pos hi]
theorem erase_okD (hd : okD ds = true) : okD (ds.eraseIdx i) = true := by
 have hl := okD_len hd
 have hp := okD_pos hd
 unfold okD
 rw [Bool.and_eq_true, List.all_eq_true]
 refine ⟨fun d hdm => ?_, ?_⟩
 simpa using hp d (List.mem_of_mem_eraseIdx hdm)
 have := List.length_eraseIdx_le ds i
 simp; omega
theorem ren_lt {j : Nat} (hi : i < ds.length) (hj : j < ds.length) (hne : j ≠ i) : ren i j < (ds.eraseIdx i).length := by
 rw [erase_len hi]; unfold ren; split <;> omega
theorem ren_rd {j : Nat} (hi : i < ds.length) (hj : j < ds.length) (hne : j ≠ i) : rd (ds.eraseIdx i) (ren i j : Int) = rd ds (j : Int) := by
 rw [erase_rd (ren_lt hi hj hne)]
 unfold ren
 by_cases h : j < i
 rw [if_pos h, if_pos h]
 rw [if_neg h, if_neg (by omega), show j - 1 + 1 = j by omega]
theorem pm_mo {m : A8} (hl : ds.length ≤ 8) (hi : i < ds.length) (hm : Mo 20 ds m) {j : Nat} (hj : j ≤ ds.length) : Mo 20 (ds.eraseIdx i) (pm i m j) := by
 have hx : ∀ n : Nat, 0 ≤ idx8 m n ∧ idx8 m n ≤ 20 := fun n => idx_bnd hm.lo hm.hi (by decide) n
 refine ⟨fun t => ?_, fun t => ?_, fun n hn ho => ?_, fun t ht => ?_⟩
 unfold pm; split <;> split
 exact hm.lo t
 omega
 exact (hx _).1
 omega
 unfold pm; split <;> split
 exact hm.hi t
 omega
 exact (hx _).2
 omega
 rw [erase_rd hn] at ho
 rw [erase_len hi] at hn
 rw [idx_pm (by omega) (by omega)]
 by_cases h : n < i
 rw [if_pos h] at ho ⊢
 split
 exact hm.odd n (by omega) ho
 omega
 rw [if_neg h] at ho ⊢
 split
 exact hm.odd (n + 1) (by omega) ho
 omega
 rw [erase_len hi] at ht
 unfold pm
 rw [if_neg (by omega), if_neg (by omega)]
theorem pm_zero (i : Nat) (m : A8) : pm i m 0 = fun _ => 0 := by funext t; unfold pm; simp
theorem pm_all {m : A8} (hi : i < ds.length) (hm : Mo 20 ds m) : pm i m ds.length = dm i m := by
 funext t
 unfold pm dm
 by_cases h : t.val < i
 rw [if_pos h, if_pos h, if_pos (by omega)]
 rw [if_neg h, if_neg h]
 by_cases h2 : t.val + 1 < ds.length
 rw [if_pos h2]
 rw [if_neg h2]
 by_cases h8 : t.val + 1 < 8
 rw [idx_nat m h8]; exact (hm.out ⟨t.val + 1, h8⟩ (by simp; omega)).symm
 simp only [idx8, Int.toNat_natCast, h8, dite_false]
theorem led_all {m : A8} {c : Int} (hi : i < ds.length) (hm : Mo 20 ds m) : ledT i m c ds.length = drp1 i (m, c) := by
 unfold ledT drp1
 rw [pm_all hi hm]
 by_cases h : 0 < idx8 m i
 rw [if_pos ⟨hi, h⟩, if_pos h]
 rw [if_neg (fun h' => h h'.2), if_neg h]
theorem led_skip {m : A8} {c : Int} {j : Nat} (hl : ds.length ≤ 8) (hi : i < ds.length) (hj : j < ds.length) (h0 : idx8 m j = 0) : ledT i m c (j + 1) = ledT i m c j := by
 have hp : pm i m (j + 1) = pm i m j := by
  funext t
  unfold pm
  by_cases h : t.val < i
  rw [if_pos h, if_pos h]
  by_cases e : t.val = j
  rw [if_pos (by omega), if_neg (by omega), ← h0, idx_nat m (show j < 8 by omega)]; congr 1; exact Fin.ext e
  by_cases h2 : t.val < j
  rw [if_pos h2, if_pos (by omega)]
  rw [if_neg h2, if_neg (by omega)]
  rw [if_neg h, if_neg h]
  by_cases e : t.val + 1 = j
  rw [if_pos (by omega), if_neg (by omega), e, h0]
  by_cases h2 : t.val + 1 < j
  rw [if_pos h2, if_pos (by omega)]
  rw [if_neg h2, if_neg (by omega)]
 unfold ledT
 rw [hp]
 by_cases h : i < j ∧ 0 < idx8 m i
 rw [if_pos h, if_pos ⟨by omega, h.2⟩]
 rw [if_neg h, if_neg]
 rintro ⟨h1, h2⟩
 by_cases e : i = j
 subst e; omega
 exact h ⟨by omega, h2⟩
/-- the power of what a generator is led to -/
def pwT (i j : Nat) (e : Int) : MpT := if j = i then [] else [(gn (ren i j) e, 1)]
theorem led_mul {m : A8} {c : Int} {j : Nat} (hl : ds.length ≤ 8) (hc : 1 ≤ c ∧ c ≤ 10006) (hi : i < ds.length) (hj : j < ds.length) (hm : Mo 20 ds m) (h0 : 0 < idx8 m j) :
 runM (mulT (ds.eraseIdx i) (ledT i m c j) (pwT i j (idx8 m j))) [] = ledT i m c (j + 1) := by
 unfold pwT
 by_cases e : j = i
 subst e
 rw [if_pos rfl, mulT_nil]
 unfold ledT
 rw [if_pos ⟨by omega, h0⟩]; rfl
 rw [if_neg e]
 unfold ledT
 by_cases h : i < j ∧ 0 < idx8 m i
 rw [if_pos h, if_pos ⟨by omega, h.2⟩]; rfl
 have hr8 : ren i j < 8 := by unfold ren; split <;> omega
 have hpl : pmul (ds.eraseIdx i) (pm i m j) (gn (ren i j) (idx8 m j)) = (addA (pm i m j) (gn (ren i j) (idx8 m j)), 1) := by
  refine pmul_plain (fun y _ hq u hu => ?_)
  rw [gn_idx hr8] at hq
  have hy : y = ren i j := by
   by_cases h : y = ren i j
   exact h
   rw [if_neg h] at hq; omega
  subst hy
  rw [idx_pm (by omega) (by omega)]
  unfold ren at hu
  by_cases h3 : u < i
  rw [if_pos h3, if_neg (by split at hu <;> omega)]
  rw [if_neg h3, if_neg (by split at hu <;> omega)]
 have hadd : addA (pm i m j) (gn (ren i j) (idx8 m j)) = pm i m (j + 1) := by
  funext t
  show pm i m j t + gn (ren i j) (idx8 m j) t = _
  unfold gn
  rw [upd_nat _ hr8]
  unfold pm ren
  by_cases h3 : t.val < i
  rw [if_pos h3, if_pos h3]
  by_cases h4 : t.val = j
  rw [if_neg (by omega), if_pos (by rw [if_pos (by omega)]; exact h4), if_pos (by omega), Int.zero_add, idx_nat m (show j < 8 by omega)]; congr 1; exact Fin.ext h4.symm
  rw [if_neg (show ¬ t.val = if j < i then j else j - 1 by split <;> omega), Int.add_zero]
  by_cases h5 : t.val < j
  rw [if_pos h5, if_pos (by omega)]
  rw [if_neg h5, if_neg (by omega)]
  rw [if_neg h3, if_neg h3]
  by_cases h4 : t.val + 1 = j
  rw [if_neg (by omega), if_pos (by rw [if_neg (by omega)]; omega), if_pos (by omega), Int.zero_add, h4]
  rw [if_neg (show ¬ t.val = if j < i then j else j - 1 by split <;> omega), Int.add_zero]
  by_cases h5 : t.val + 1 < j
  rw [if_pos h5, if_pos (by omega)]
  rw [if_neg h5, if_neg (by omega)]
 rw [if_neg h, if_neg (fun h' => h ⟨by omega, h'.2⟩), mulT_one hpl, hadd, runM_one hc]
theorem led_mo {m : A8} {c : Int} (hl : ds.length ≤ 8) (hi : i < ds.length) (hm : Mo 20 ds m) {j : Nat} (hj : j ≤ ds.length) : MoL 20 (ds.eraseIdx i) (ledT i m c j) := by
 unfold ledT; split
 exact nil_mo
 exact one_mo (pm_mo hl hi hm hj)
theorem led_sm {m : A8} {c : Int} {j : Nat} (hc : 1 ≤ c ∧ c ≤ 10006) : SmF (ledT i m c j) := by
 unfold ledT; split
 exact nil_sm
 exact one_sm hc
theorem led_len {m : A8} {c : Int} {j : Nat} : (ledT i m c j).length ≤ 1 := by unfold ledT; split <;> simp
theorem pwT_mo {m : A8} {j : Nat} (hl : ds.length ≤ 8) (hi : i < ds.length) (hj : j < ds.length) (hm : Mo 20 ds m) : MoL 20 (ds.eraseIdx i) (pwT i j (idx8 m j)) := by
 have hx : 0 ≤ idx8 m j ∧ idx8 m j ≤ 20 := idx_bnd hm.lo hm.hi (by decide) j
 unfold pwT
 by_cases e : j = i
 rw [if_pos e]; exact nil_mo
 have hr8 : ren i j < 8 := by unfold ren; split <;> omega
 rw [if_neg e]
 exact one_mo (gn_mo hr8 (ren_lt hi hj e) hx.1 hx.2 (fun h => hm.odd j hj (by rwa [ren_rd hi hj e] at h)))
theorem pwT_sm {e : Int} {j : Nat} : SmF (pwT i j e) := by
 unfold pwT; split
 exact nil_sm
 exact one_sm (by decide)
theorem pwT_srt {e : Int} {j : Nat} : Srt (pwT i j e) := by
 unfold pwT; split
 exact List.Pairwise.nil
 exact single_srt _
theorem pwT_len {e : Int} {j : Nat} : (pwT i j e).length ≤ 1 := by unfold pwT; split <;> simp
theorem apply_l1 {f : MpT} {x0 c : Int} (hK : 1073741824 ≤ K) (hd : okD ds = true) (hi : i < ds.length) (hm : Mo 20 ds (rd f x0).1) (hc : 1 ≤ c ∧ c ≤ 10006) :
 ∀ (k j : Nat), ds.length < j + k → j ≤ ds.length → g_spec_l04Apply_l1 K (ds.eraseIdx i) (nmd ds.length i) f x0 k j (ledT i (rd f x0).1 c j) = some (.go (ledT i (rd f x0).1 c ds.length)) := by
 have hl := okD_len hd
 intro k
 induction k with
 | zero => intro j h1 h2; omega
 | succ k ih =>
  intro j h1 h2
  rw [g_spec_l04Apply_l1, nmd_len]
  by_cases hj : j < ds.length
  have hx : 0 ≤ idx8 (rd f x0).1 j ∧ idx8 (rd f x0).1 j ≤ 20 := idx_bnd hm.lo hm.hi (by decide) j
  have ih' := ih (j + 1) (by omega) (by omega)
  rw [if_pos (by omega), if_pos (by omega)]
  by_cases h0 : 0 < idx8 (rd f x0).1 j
  have hpw : g_spec_l04Power K (ds.eraseIdx i) (rd (nmd ds.length i) (j : Int)) (idx8 (rd f x0).1 j) = some (pwT i j (idx8 (rd f x0).1 j)) := by
   rw [nmd_rd hj]
   unfold pwT
   by_cases e : j = i
   rw [if_pos e, if_pos e]; exact p_powerS0 hK (erase_okD hd) h0 hx.2
   have hr8 : ren i j < 8 := by unfold ren; split <;> omega
   rw [if_neg e, if_neg e]
   exact p_powerS hK (erase_okD hd) hr8 (ren_lt hi hj e) hx.1 hx.2 (fun h => hm.odd j hj (by rw [ren_rd hi hj e] at h; omega))
  have h3 := led_len (i := i) (m := (rd f x0).1) (c := c) (j := j)
  have h4 := pwT_len (i := i) (e := idx8 (rd f x0).1 j) (j := j)
  have h5 : (ledT i (rd f x0).1 c j).length * (pwT i j (idx8 (rd f x0).1 j)).length ≤ 1 * 1 := Nat.mul_le_mul h3 h4
  rw [if_pos h0, hpw, Option.bind_some, p_timesS (B := 20) (C := 20) hK (erase_okD hd) (by decide) (by decide) (led_mo hl hi hm (by omega)) (led_sm hc) (pwT_mo hl hi hj hm) pwT_sm pwT_srt (by omega) (by omega) (by omega), Option.bind_some, led_mul hl hc hi hj hm h0]
  exact ih'
  rw [if_neg h0]
  rw [led_skip hl hi hj (by omega)] at ih'
  exact ih'
  rw [if_neg (by omega), show j = ds.length by omega]
theorem lead_l1 {fr : List Int} {z : TermT} (hfr : fr.length = ds.length) (hK : 1073741824 ≤ K) (hd : okD ds = true) (hi : i < ds.length) (hm : Mo 20 ds z.1) :
 ∀ (k j : Nat), ds.length < j + k → j ≤ ds.length → g_impl_leader_lead_l1 K (fr, ds.eraseIdx i, nmd ds.length i) z k (ledT i z.1 1 j) j = some (.go (ledT i z.1 1 ds.length)) := by
 have hl := okD_len hd
 intro k
 induction k with
 | zero => intro j h1 h2; omega
 | succ k ih =>
  intro j h1 h2
  rw [g_impl_leader_lead_l1]
  dsimp only
  rw [hfr]
  by_cases hj : j < ds.length
  have hx : 0 ≤ idx8 z.1 j ∧ idx8 z.1 j ≤ 20 := idx_bnd hm.lo hm.hi (by decide) j
  have ih' := ih (j + 1) (by omega) (by omega)
  rw [if_pos (by omega), if_pos (by omega)]
  by_cases h0 : 0 < idx8 z.1 j
  have hpw : g_impl_leader_power K (fr, ds.eraseIdx i, nmd ds.length i) j (idx8 z.1 j) = some (pwT i j (idx8 z.1 j)) := by
   unfold g_impl_leader_power
   rw [if_pos (by omega)]
   have hn := nmd_rd (i := i) hj
   unfold pwT
   by_cases e : j = i
   rw [if_pos e] at hn ⊢
   obtain ⟨n, hn2⟩ : ∃ n, (idx8 z.1 j).toNat = n + 1 := ⟨(idx8 z.1 j).toNat - 1, by omega⟩
   rw [hn2]
   exact pwN_none hK (erase_okD hd) (by rw [nmd_len]; exact hj) hn n
   have hr8 : ren i j < 8 := by unfold ren; split <;> omega
   rw [if_neg e] at hn ⊢
   rw [pwN_one hK (erase_okD hd) hr8 (ren_lt hi hj e) (by rw [nmd_len]; exact hj) hn _ (by omega) (fun h => by have := hm.odd j hj (by rw [ren_rd hi hj e] at h; omega); omega), Int.toNat_of_nonneg hx.1]
  have h3 := led_len (i := i) (m := z.1) (c := 1) (j := j)
  have h4 := pwT_len (i := i) (e := idx8 z.1 j) (j := j)
  rw [if_pos h0, hpw, Option.bind_some, p_stimes (B := 20) (C := 20) (by omega) (erase_okD hd) (by decide) (by decide) (by decide) (led_mo hl hi hm (by omega)) (led_sm (by decide)) (pwT_mo hl hi hj hm) pwT_sm (by omega) (by omega), Option.bind_some, led_mul hl (by decide) hi hj hm h0]
  exact ih'
  rw [if_neg h0]
  rw [led_skip hl hi hj (by omega)] at ih'
  exact ih'
  rw [if_neg (by omega), show j = ds.length by omega]
end
theorem befL_snoc (c : Int) : ∀ xs ys : List Int, xs.length = ys.length → befL (xs ++ [c]) (ys ++ [c]) = befL xs ys
 | [], [], _ => by simp [befL]
 | x :: xs, y :: ys, h => by
  simp only [List.cons_append, befL]
  rw [befL_snoc c xs ys (by simpa using h)]
theorem befL_erase : ∀ (xs ys : List Int) (i : Nat), xs.length = ys.length → i < xs.length → xs[i]? = ys[i]? → befL (xs.eraseIdx i) (ys.eraseIdx i) = befL xs ys
 | [], _, _, _, h, _ => by simp at h
 | x :: xs, [], _, h, _, _ => by simp at h
 | x :: xs, y :: ys, 0, h, _, e => by
  simp at e
  simp [befL, e]
 | x :: xs, y :: ys, i + 1, h, hi, e => by
  simp only [List.eraseIdx_cons_succ, befL]
  rw [befL_erase xs ys i (by simpa using h) (by simpa using hi) (by simpa using e)]
theorem l8_dm (m : A8) {i : Nat} (h : i < 8) : l8 (dm i m) = (l8 m).eraseIdx i ++ [0] := by
 match i, h with
 | 0, _ | 1, _ | 2, _ | 3, _ | 4, _ | 5, _ | 6, _ | 7, _ => rfl
theorem l8_get (m : A8) {i : Nat} (h : i < 8) : (l8 m)[i]? = some (idx8 m i) := by
 match i, h with
 | 0, _ | 1, _ | 2, _ | 3, _ | 4, _ | 5, _ | 6, _ | 7, _ => rfl
theorem bef_dm {a b : A8} {i : Nat} (h : i < 8) (e : idx8 a i = idx8 b i) : bef (dm i a) (dm i b) = bef a b := by
 unfold bef
 rw [l8_dm a h, l8_dm b h, befL_snoc 0 _ _ (by rw [List.length_eraseIdx, List.length_eraseIdx]; rfl), befL_erase (l8 a) (l8 b) i rfl h (by rw [l8_get a h, l8_get b h, e])]
section
variable {K : Nat} {ds : List Int} {i : Nat}
theorem drp_mem {f : MpT} {q : TermT} (h : q ∈ drp i f) : ∃ t, t ∈ f ∧ ¬ 0 < idx8 t.1 i ∧ q = (dm i t.1, t.2) := by
 obtain ⟨t, ht, hq⟩ := List.mem_flatMap.1 h
 unfold drp1 at hq
 split at hq
 cases hq
 rename_i hn; exact ⟨t, ht, hn, List.mem_singleton.1 hq⟩
theorem drp_len (f : MpT) : (drp i f).length ≤ f.length := by
 induction f with
 | nil => exact Nat.le_refl _
 | cons t f ih =>
  show (drp1 i t ++ drp i f).length ≤ _
  have : (drp1 i t).length ≤ 1 := by unfold drp1; split <;> simp
  rw [List.length_append, List.length_cons]; omega
theorem drp_srt (hi : i < 8) : ∀ {f : MpT}, MoL 20 ds f → Srt f → Srt (drp i f)
 | [], _, _ => List.Pairwise.nil
 | t :: f, hm, h => by
  have h' := List.pairwise_cons.1 h
  have ih := drp_srt hi (fun q hq => hm q (List.mem_cons_of_mem _ hq)) h'.2
  show Srt (drp1 i t ++ drp i f)
  unfold drp1
  split
  exact ih
  rename_i hn
  refine List.pairwise_cons.2 ⟨fun q hq => ?_, ih⟩
  obtain ⟨u, hu, hn2, rfl⟩ := drp_mem hq
  have h1 := ((hm t (List.mem_cons_self ..)).idx i).1
  have h2 := ((hm u (List.mem_cons_of_mem _ hu)).idx i).1
  rw [bef_dm hi (by omega)]
  exact h'.1 u hu
theorem drp_vf {f : MpT} (hd : okD ds = true) (hi : i < ds.length) (hf : VF ds f) : VF (ds.eraseIdx i) (drp i f) := by
 have hl := okD_len hd
 have hlen := hf.len
 have hdl := drp_len (i := i) f
 refine ⟨nfm_mk (drp_srt (by omega) hf.mo (nfm_srt hf.nf)) (fun q hq => ?_), fun q hq => ?_, by omega⟩
 obtain ⟨t, ht, _, rfl⟩ := drp_mem hq
 exact nfm_val hf.nf t ht
 obtain ⟨t, ht, _, rfl⟩ := drp_mem hq
 have := pm_mo hl hi (hf.mo t ht) (Nat.le_refl _)
 rw [pm_all hi (hf.mo t ht)] at this
 exact this
theorem scl_one (g : MpT) : scl 1 g = g := by
 unfold scl
 conv => rhs; rw [← List.map_id g]
 exact List.map_congr_left (fun t _ => by rw [Int.one_mul]; rfl)
theorem apply_l0 {f : MpT} (hK : 1073741824 ≤ K) (hd : okD ds = true) (hi : i < ds.length) (hf : VF ds f) :
 ∀ (k j : Nat) (out : MpT), f.length < j + k → j ≤ f.length → nfm out = true → out.length + (f.length - j) ≤ 1000 →
  g_spec_l04Apply_l0 K (ds.eraseIdx i) (nmd ds.length i) f k j out = some (.go (runM (drp i (f.drop j)) out)) := by
 have hl := okD_len hd
 intro k
 induction k with
 | zero => intro j out h1 h2; omega
 | succ k ih =>
  intro j out h1 h2 ho hol
  rw [g_spec_l04Apply_l0]
  by_cases hj : j < f.length
  have hm := hf.mo _ (rd_mem hj)
  have hc := nfm_val hf.nf _ (rd_mem hj)
  have hs : g_spec_l01Single K (fun _ => 0) (rd f (j : Int)).2 = some (ledT i (rd f (j : Int)).1 (rd f (j : Int)).2 0) := by
   unfold g_spec_l01Single ledT
   rw [mod_eq, Option.bind_some, if_neg (by omega), if_neg (fun h => by omega), pm_zero, show (rd f (j : Int)).2 % 10007 = (rd f (j : Int)).2 by omega]; rfl
  have hin := apply_l1 (f := f) (x0 := j) hK hd hi hm hc K 0 (by omega) (by omega)
  replace hin : g_spec_l04Apply_l1 K (ds.eraseIdx i) (nmd ds.length i) f j K 0 (ledT i (rd f (j : Int)).1 (rd f (j : Int)).2 0) = _ := hin
  have hdl : (drp1 i (rd f (j : Int))).length ≤ 1 := by unfold drp1; split <;> simp
  have hds : Srt (drp1 i (rd f (j : Int))) := by unfold drp1; split; exact List.Pairwise.nil; exact List.pairwise_singleton _ _
  have hdf : SmF (drp1 i (rd f (j : Int))) := by unfold drp1; split; exact nil_sm; exact one_sm hc
  have hrl := runM_len (drp1 i (rd f (j : Int))) out
  rw [if_pos (by omega), hs, Option.bind_some, hin, Option.bind_some, led_all hi hm]
  show (g_spec_l01Add K out (drp1 i (rd f (j : Int))) 1).bind _ = _
  rw [p_add (by omega) (by omega) (by omega) (nfm_small ho) hdf (by omega) (by omega), Option.bind_some, mrg_run ho hds, scl_one]
  have := ih (j + 1) (runM (drp1 i (rd f (j : Int))) out) (by omega) (by omega) (nfm_runM _ ho) (by omega)
  refine Eq.trans this ?_
  rw [drop_rd hj]
  show _ = some (Ex.go (runM (drp1 i (rd f (j : Int)) ++ drp i (f.drop (j + 1))) out))
  rw [runM_app]
  rw [if_neg (by omega), List.drop_eq_nil_of_le (by omega)]; rfl
theorem p_apply {f : MpT} (hK : 1073741824 ≤ K) (hd : okD ds = true) (hi : i < ds.length) (hf : VF ds f) : g_spec_l04Apply K (ds.eraseIdx i) (nmd ds.length i) f = some (drp i f) := by
 have hl := hf.len
 have := apply_l0 hK hd hi hf K 0 [] (by omega) (by omega) nfm_nil (by simp; omega)
 unfold g_spec_l04Apply
 replace this : g_spec_l04Apply_l0 K (ds.eraseIdx i) (nmd ds.length i) f K 0 [] = some (.go (runM (drp i f) [])) := this
 rw [this, runM_self (drp_vf hd hi hf).nf]; rfl
theorem lead_l0 {fr : List Int} (hfr : fr.length = ds.length) (hK : 1073741824 ≤ K) (hd : okD ds = true) (hi : i < ds.length) :
 ∀ (k : Nat) (f out : MpT), f.length < k → MoL 20 ds f → (∀ t, t ∈ f → 1 ≤ t.2 ∧ t.2 ≤ 10006) → nfm out = true → out.length + f.length ≤ 1000 →
  g_impl_leader_lead_l0 K (fr, ds.eraseIdx i, nmd ds.length i) k f out = some (.go (runM (drp i f) out))
 | 0, _, _, h, _, _, _, _ => by omega
 | k + 1, [], out, _, _, _, _, _ => by rw [g_impl_leader_lead_l0]; rfl
 | k + 1, z :: f, out, h, hm, hz, ho, hol => by
  have hl := okD_len hd
  have hzm := hm z (List.mem_cons_self ..)
  have hzc := hz z (List.mem_cons_self ..)
  have hin := lead_l1 (i := i) hfr hK hd hi hzm K 0 (by omega) (by omega)
  have e0 : ledT i z.1 1 0 = mput ([] : MpT) (fun _ => 0) 1 := by unfold ledT; rw [if_neg (fun h => by omega), pm_zero]; rfl
  rw [e0, led_all hi hzm] at hin
  replace hin : g_impl_leader_lead_l1 K (fr, ds.eraseIdx i, nmd ds.length i) z K (mput ([] : MpT) (fun _ => 0) 1) 0 = _ := hin
  have hdl : (drp1 i (z.1, 1)).length ≤ 1 := by unfold drp1; split <;> simp
  have hdf : SmF (drp1 i (z.1, 1)) := by unfold drp1; split; exact nil_sm; exact one_sm (c := 1) ⟨by decide, by decide⟩
  have e1 : scl z.2 (drp1 i (z.1, 1)) = drp1 i z := by unfold drp1 scl; split <;> simp [Int.mul_one]
  have hrl := runM_len (drp1 i z) out
  have hdl2 : (drp1 i z).length ≤ 1 := by unfold drp1; split <;> simp
  rw [List.length_cons] at hol h
  rw [g_impl_leader_lead_l0]
  show ((g_impl_leader_lead_l1 K (fr, ds.eraseIdx i, nmd ds.length i) z K (mput ([] : MpT) (fun _ => 0) 1) 0).bind _) = _
  rw [hin, Option.bind_some]
  show (g_impl_sum_addAll K out (drp1 i (z.1, 1)) z.2).bind _ = _
  rw [p_addAll (by omega) (by omega) hdf ho, Option.bind_some, e1,
   lead_l0 hfr hK hd hi k f _ (by omega) (fun q hq => hm q (List.mem_cons_of_mem _ hq)) (fun q hq => hz q (List.mem_cons_of_mem _ hq)) (nfm_runM _ ho) (by omega), ← runM_app]
  rfl
theorem p_renumbered {f : MpT} (hK : 1073741824 ≤ K) (hd : okD ds = true) (hi : i < ds.length) (hf : VF ds f) : g_impl_renumbered K ds f (tol ds.length i) (ds.eraseIdx i) = some (drp i f) := by
 have hl := hf.len
 have hdl := okD_len hd
 have h1 := by_loop (K := K) (i := i) (n := ds.length) (by omega) hdl K 0 (by omega) (by omega)
 have h2 := lead_l0 (K := K) (fr := ds) rfl hK hd hi K f [] (by omega) hf.mo (nfm_val hf.nf) nfm_nil (by simp; omega)
 unfold g_impl_renumbered g_impl_leader_lead
 replace h1 : g_impl_renumbered_l0 K (tol ds.length i) K 0 [] = some (.go (nmd ds.length i)) := h1
 rw [h1, Option.bind_some]
 show ((g_impl_leader_lead_l0 K (ds, ds.eraseIdx i, nmd ds.length i) K f []).bind _).bind _ = _
 rw [h2, runM_self (drp_vf hd hi hf).nf]; rfl
/-! sums as forms -/
theorem mo_okM {B : Int} {m : A8} (hB : B ≤ 20) (h : Mo B ds m) : okM ds m = true := by
 unfold okM
 rw [List.all_eq_true]
 intro j hj
 have hj := List.mem_range.1 hj
 have h1 := h.hi ⟨j, hj⟩
 rw [← idx_nat m hj] at h1
 simp only [decide_eq_true_eq]
 unfold mostE
 split
 rename_i hl
 split
 rename_i ho; exact h.odd j hl ho
 omega
 rename_i hl
 rw [idx_nat m hj, h.out ⟨j, hj⟩ (by simp; omega)]; omega
theorem vf_okF {f : MpT} (h : VF ds f) : okF ds f = true := by
 unfold okF
 rw [Bool.and_eq_true, List.all_eq_true]
 refine ⟨fun j hj => ?_, by simpa using h.len⟩
 have hj := List.mem_range.1 hj
 unfold okT
 rw [mo_okM (by decide) (h.mo _ (rd_mem hj)), Bool.true_and, Bool.and_eq_true]
 refine ⟨by simpa using nfm_val h.nf _ (rd_mem hj), ?_⟩
 by_cases h0 : j = 0
 simp [h0]
 obtain ⟨n, rfl⟩ : ∃ n, j = n + 1 := ⟨j - 1, by omega⟩
 have e : ((n + 1 : Nat) : Int) - 1 = (n : Int) := by omega
 have := List.pairwise_iff_getElem.1 (nfm_srt h.nf) n (n + 1) (by omega) hj (by omega)
 rw [e, rd_nat hj, rd_nat (show n < f.length by omega), this]; simp
theorem form_l1 {r10 : List A8} {x : Int} {m : A8} (hr : rd r10 x = m) (hm : ∀ j, 0 ≤ m j ∧ m j ≤ 20) : ∀ (k n : Nat) (box : A8), n ≤ 8 → 8 < n + k → (∀ j : Fin 8, j.val < n → box j = m j) → g_impl_sum_form_l1 K r10 x k n box = some (.go m) := by
 intro k
 induction k with
 | zero => intro n box h1 h2; omega
 | succ k ih =>
  intro n box h1 h2 hb
  rw [g_impl_sum_form_l1, hr]
  by_cases hn : n < 8
  have hmn := hm ⟨n, hn⟩
  rw [if_pos (by omega), idx_nat m hn, if_neg (by omega)]
  refine ih (n + 1) _ (by omega) (by omega) (fun j hj => ?_)
  rw [upd_nat _ hn]
  by_cases e : j.val = n
  rw [if_pos e, wrap8 (by omega)]
  congr 1; exact Fin.ext e.symm
  rw [if_neg e]; exact hb j (by omega)
  rw [if_neg (by omega)]
  congr 2
  funext j; exact hb j (by omega)
theorem form_l0 {f : MpT} (hK : 1073741824 ≤ K) (hf : VF ds f) : ∀ (k j : Nat), f.length < j + k → j ≤ f.length → g_impl_sum_form_l0 K f (f.map Prod.fst) k j (f.take j) = some (.go f) := by
 have hl := hf.len
 intro k
 induction k with
 | zero => intro j h1 h2; omega
 | succ k ih =>
  intro j h1 h2
  rw [g_impl_sum_form_l0, List.length_map]
  by_cases hj : j < f.length
  have er : rd (f.map Prod.fst) (j : Int) = (rd f (j : Int)).1 := rd_eq (by rw [List.getElem?_map, List.getElem?_eq_getElem hj, rd_nat hj]; rfl)
  have hm := hf.mo _ (rd_mem hj)
  have h3 := form_l1 (K := K) er (fun t => ⟨hm.lo t, hm.hi t⟩) K 0 (fun _ => 0) (by omega) (by omega) (fun t ht => by omega)
  replace h3 : g_impl_sum_form_l1 K (f.map Prod.fst) j K 0 (fun _ => 0) = _ := h3
  have hg : mget f (rd f (j : Int)).1 = (rd f (j : Int)).2 := mget_of (nfm_srt hf.nf) (rd_mem hj)
  rw [if_pos (by omega), h3, Option.bind_some]
  show (if _ then _ else none) = _
  rw [er, hg, if_pos (by simp; omega)]
  have := ih (j + 1) (by omega) (by omega)
  rw [take_rd hj] at this
  exact this
  rw [if_neg (by omega), List.take_of_length_le (by omega)]
theorem p_form {f : MpT} (hK : 1073741824 ≤ K) (hf : VF ds f) : g_impl_sum_form K f = some (f, 0) := by
 have hl := hf.len
 have hok : okKeys f = true := by
  unfold okKeys
  rw [List.all_eq_true]
  intro p hp
  rw [List.all_eq_true]
  intro x hx
  have hm := hf.mo p hp
  have : ∃ t, x = p.1 t := by
   unfold l8 at hx
   simp only [List.mem_cons, List.not_mem_nil, or_false] at hx
   rcases hx with h | h | h | h | h | h | h | h <;> exact ⟨_, h⟩
  obtain ⟨t, rfl⟩ := this
  have h1 := hm.lo t
  have h2 := hm.hi t
  simp; omega
 have := form_l0 hK hf K 0 (by omega) (by omega)
 unfold g_impl_sum_form g_impl_sum_powers
 replace this : g_impl_sum_form_l0 K f (f.map Prod.fst) K 0 [] = some (.go f) := this
 rw [if_neg (by omega), if_pos ⟨hok, by omega, by omega⟩, Option.bind_some, this]; rfl
end
def drpI (i : Nat) (imgs : List MpT) : List MpT := (imgs.map (drp i)).eraseIdx i
def dropR (a : AlgT) (i : Int) : AlgT × Int :=
 if okA a = true then (if 0 ≤ i ∧ i ≤ (a.1.length : Int) - 1 then (if 0 < (drp i.toNat (rd a.2 i)).length then (([], []), 5) else ((a.1.eraseIdx i.toNat, drpI i.toNat a.2), 0)) else (([], []), 2)) else (([], []), 1)
section
variable {K : Nat} {ds : List Int} {i : Nat} {imgs : List MpT}
theorem goneI_loop {v x : Int} : ∀ {k : Nat}, 1 < k → g_spec_l06Images_l1 K [v] x k false 0 = some (.go (decide (v = x))) := by
 intro k hk
 obtain ⟨k, rfl⟩ : ∃ m, k = m + 2 := ⟨k - 2, by omega⟩
 rw [g_spec_l06Images_l1]
 simp only [List.length_cons, List.length_nil]
 rw [if_pos (by decide), if_neg (by simp), g_spec_l06Images_l1]
 simp only [List.length_cons, List.length_nil]
 rw [if_neg (by decide)]; rfl
theorem map_rd {j : Nat} (hj : j < imgs.length) : rd (imgs.map (drp i)) (j : Int) = drp i (rd imgs (j : Int)) := rd_eq (by rw [List.getElem?_map, List.getElem?_eq_getElem hj, rd_nat hj]; rfl)
theorem images6_loop (hK : 1073741824 ≤ K) (hd : okD ds = true) (hi : i < ds.length) (hv : VI ds imgs) : ∀ (k j : Nat), ds.length < j + k → j ≤ ds.length →
 g_spec_l06Images_l0 K (ds, imgs) (ds.eraseIdx i) (nmd ds.length i) [(i : Int)] k j (((imgs.map (drp i)).take j).eraseIdx i) = some (.go (drpI i imgs)) := by
 have hl := okD_len hd
 have hvl := hv.len
 intro k
 induction k with
 | zero => intro j h1 h2; omega
 | succ k ih =>
  intro j h1 h2
  rw [g_spec_l06Images_l0]
  dsimp only
  by_cases hj : j < ds.length
  have hle : (((imgs.map (drp i)).take j).eraseIdx i).length ≤ 8 := Nat.le_trans (List.length_eraseIdx_le _ _) (by rw [List.length_take]; omega)
  have hji : j < imgs.length := by omega
  have := ih (j + 1) (by omega) (by omega)
  rw [erase_take (by rw [List.length_map]; exact hji), map_rd hji] at this
  rw [if_pos (by omega), goneI_loop (by omega), Option.bind_some]
  by_cases e : j = i
  subst e
  rw [if_pos rfl] at this
  show (if decide ((j : Int) = (j : Int)) = true then _ else _) = _
  rw [if_pos (by simp)]; exact this
  rw [if_neg e] at this
  show (if decide ((i : Int) = (j : Int)) = true then _ else _) = _
  rw [if_neg (by simp; omega), if_pos (by omega), p_apply hK hd hi (hv.all _ (rd_mem hji)), Option.bind_some, if_pos (by simp; omega)]; exact this
  rw [if_neg (by omega), List.take_of_length_le (by rw [List.length_map]; omega)]; rfl
theorem drpI_vf (hd : okD ds = true) (hi : i < ds.length) (hv : VI ds imgs) : ∀ f, f ∈ drpI i imgs → VF (ds.eraseIdx i) f := by
 intro f hf
 obtain ⟨g, hg, rfl⟩ := List.mem_map.1 (List.mem_of_mem_eraseIdx hf)
 exact drp_vf hd hi (hv.all g hg)
theorem drpI_len (hv : VI ds imgs) (hi : i < ds.length) : (drpI i imgs).length = ds.length - 1 := by
 unfold drpI
 rw [List.length_eraseIdx, List.length_map, hv.len, if_pos hi]
theorem p_images6 (hK : 1073741824 ≤ K) (hd : okD ds = true) (hi : i < ds.length) (hv : VI ds imgs) : g_spec_l06Images K (ds, imgs) (ds.eraseIdx i) (nmd ds.length i) [(i : Int)] = some ((ds.eraseIdx i, drpI i imgs), 0) := by
 have hl := okD_len hd
 have h1 := images6_loop hK hd hi hv K 0 (by omega) (by omega)
 have h2 : g_spec_l04All K (ds.eraseIdx i) (drpI i imgs) = some (drpI i imgs, 0) := by
  unfold g_spec_l04All
  have hlen := drpI_len hv hi
  rw [all_loop_ge (g := ()) (fun k x => g_spec_l04All_l0 K (ds.eraseIdx i) (drpI i imgs) k x) (drpI i imgs).length (fun _ => true) ([], 3) (fun k n hn => ?_) (fun k n hn => ?_) (by omega)]
  rw [if_pos (by simp)]; rfl
  show g_spec_l04All_l0 K (ds.eraseIdx i) (drpI i imgs) (k + 1) n = _
  have hv' := drpI_vf hd hi hv _ (rd_mem hn)
  have hvl := hv'.len
  rw [g_spec_l04All_l0, if_pos (by omega), p_isS (by omega) (by omega) (by omega) (erase_okD hd) hv'.byt, vf_okF hv']; rfl
  show g_spec_l04All_l0 K (ds.eraseIdx i) (drpI i imgs) (k + 1) n = _
  rw [g_spec_l04All_l0, if_neg (by omega)]
 unfold g_spec_l06Images
 replace h1 : g_spec_l06Images_l0 K (ds, imgs) (ds.eraseIdx i) (nmd ds.length i) [(i : Int)] K 0 [] = some (.go (drpI i imgs)) := h1
 rw [h1, Option.bind_some]
 show ((g_spec_l04All K (ds.eraseIdx i) (drpI i imgs)).bind _) = _
 rw [h2]; rfl
theorem dropI_loop (hK : 1073741824 ≤ K) (hd : okD ds = true) (hi : i < ds.length) (hv : VI ds imgs) : ∀ (k j : Nat), ds.length < j + k → j ≤ ds.length →
 g_impl_DropGenerator_l0 K (ds, imgs) i (ds.eraseIdx i, tol ds.length i) k j (((imgs.map (drp i)).take j).eraseIdx i) = some (if j ≤ i ∧ 0 < (drp i (rd imgs (i : Int))).length then .ret (([], []), 5) else .go (drpI i imgs)) := by
 have hl := okD_len hd
 have hvl := hv.len
 intro k
 induction k with
 | zero => intro j h1 h2; omega
 | succ k ih =>
  intro j h1 h2
  rw [g_impl_DropGenerator_l0]
  dsimp only
  by_cases hj : j < ds.length
  have hle : (((imgs.map (drp i)).take j).eraseIdx i).length ≤ 8 := Nat.le_trans (List.length_eraseIdx_le _ _) (by rw [List.length_take]; omega)
  have hji : j < imgs.length := by omega
  have hvf := hv.all _ (rd_mem hji)
  have hvfl := hvf.len
  have := ih (j + 1) (by omega) (by omega)
  rw [erase_take (by rw [List.length_map]; exact hji), map_rd hji] at this
  rw [if_pos (by omega), p_sumOf (by omega) (by omega) hvf.byt (nfm_srt hvf.nf), Option.bind_some, p_renumbered hK hd hi hvf, Option.bind_some, p_form hK (drp_vf hd hi hvf), Option.bind_some]
  dsimp only
  rw [if_pos rfl]
  by_cases e : j = i
  subst e
  rw [if_pos rfl, if_neg (show ¬ (j + 1 ≤ j ∧ _) from fun h => by omega)] at this
  rw [if_pos rfl]
  by_cases h0 : 0 < (drp j (rd imgs (j : Int))).length
  rw [if_pos (by omega), if_pos ⟨by omega, h0⟩]
  rw [if_neg (by omega), if_neg (fun h => h0 h.2)]; exact this
  rw [if_neg e] at this
  rw [if_neg (by omega), if_pos (by simp; omega)]
  refine Eq.trans this ?_
  by_cases h0 : 0 < (drp i (rd imgs (i : Int))).length
  by_cases h3 : j ≤ i
  rw [if_pos ⟨by omega, h0⟩, if_pos ⟨h3, h0⟩]
  rw [if_neg (fun h => by omega), if_neg (fun h => h3 h.1)]
  rw [if_neg (fun h => h0 h.2), if_neg (fun h => h0 h.2)]
  rw [if_neg (by omega), List.take_of_length_le (by rw [List.length_map]; omega), if_neg (fun h => by omega)]; rfl
end
section
variable {K : Nat} {a : AlgT} {i : Int}
theorem p_dropS (hi : Inp K a) : g_spec_DropGenerator K a i = some (dropR a i) := by
 have hK := hi.big
 have hdl := hi.dl
 unfold g_spec_DropGenerator g_spec_l06Place dropR
 rw [show (a.1, a.2) = a from rfl, p_algS hi, Option.bind_some]
 by_cases hA : okA a = true
 case neg =>
  rw [if_neg hA, if_neg hA]; rfl
 have hB : okB a = true := by unfold okA at hA; rw [Bool.and_eq_true] at hA; exact hA.1
 have hd := okB_deg hB
 have hv := okB_vi hi hB
 have hl := okD_len hd
 rw [if_pos hA, if_pos hA, IntWalk.i64_in _ (by omega), in_eq, Option.bind_some]
 by_cases hr : 0 ≤ i ∧ i ≤ (a.1.length : Int) - 1
 case neg => rw [if_neg (by simpa using hr), if_neg hr]; rfl
 rw [if_pos (by simpa using hr), if_pos hr, Option.bind_some, if_pos rfl]
 obtain ⟨n, rfl⟩ := Int.eq_ofNat_of_zero_le hr.1
 have hn : n < a.1.length := by omega
 have hvl := hv.len
 rw [p_without hK (by omega), Option.bind_some, p_named hK hl, Option.bind_some, if_pos hr.1, if_pos (by omega), p_apply hK hd hn (hv.all _ (rd_mem (by omega))), Option.bind_some, Int.toNat_natCast]
 by_cases h0 : 0 < (drp n (rd a.2 (n : Int))).length
 rw [if_pos (by omega), if_pos h0]
 rw [if_neg (by omega), if_neg h0, show a = (a.1, a.2) from rfl, p_images6 hK hd hn hv]; rfl
theorem p_dropI (hi : Inp K a) : g_impl_DropGenerator K a i = some (dropR a i) := by
 have hK := hi.big
 have hdl := hi.dl
 unfold g_impl_DropGenerator g_impl_algebraCode g_impl_Algebra_isGenerator dropR
 rw [show (a.1, a.2) = a from rfl, p_algI hi, Option.bind_some, IntWalk.i64_in _ (by omega), within_eq, Option.bind_some]
 have hfirst : ∀ x y : Int, g_impl_first K [x, y] = some (if x = 0 then y else x) := by
  intro x y
  unfold g_impl_first
  obtain ⟨k, rfl⟩ : ∃ k, K = k + 3 := ⟨K - 3, by omega⟩
  have e0 : rd [x, y] 0 = x := rfl
  have e1 : rd [x, y] (0 + 1) = y := rfl
  rw [g_impl_first_l0]
  simp only [List.length_cons, List.length_nil]
  rw [if_pos (by decide), e0]
  by_cases hx : x = 0
  rw [if_pos hx, if_pos hx, g_impl_first_l0]
  simp only [List.length_cons, List.length_nil]
  rw [if_pos (by decide), e1]
  by_cases hy : y = 0
  rw [if_pos hy, g_impl_first_l0]
  simp only [List.length_cons, List.length_nil]
  rw [if_neg (by decide), hy]; rfl
  rw [if_neg hy]; rfl
  rw [if_neg hx, if_neg hx]; rfl
 have hwhen : ∀ (b : Bool) (c : Int), g_impl_when K b c = some (if b = true then c else 0) := by intro b c; unfold g_impl_when; split <;> rfl
 by_cases hA : okA a = true
 case neg =>
  rw [if_neg hA, if_neg hA, hwhen, Option.bind_some, Option.bind_some, Option.bind_some, hwhen, Option.bind_some, hfirst, Option.bind_some]
  simp only [if_true]
  rw [if_neg (show ¬ (1 : Int) = 0 by decide), if_neg (show ¬ (1 : Int) = 0 by decide)]
 have hB : okB a = true := by unfold okA at hA; rw [Bool.and_eq_true] at hA; exact hA.1
 have hd := okB_deg hB
 have hv := okB_vi hi hB
 have hl := okD_len hd
 have hvl := hv.len
 rw [if_pos hA, if_pos hA, cont_form (q := fun _ => false) (by simp; omega) (fun x hx => by cases hx), Option.bind_some, hwhen, Option.bind_some, Option.bind_some, Option.bind_some, hwhen, Option.bind_some, hfirst, Option.bind_some]
 rw [show (if (([] : List MpT).any fun _ => false) = true then (1 : Int) else 0) = 0 from rfl, if_pos rfl]
 by_cases hr : 0 ≤ i ∧ i ≤ (a.1.length : Int) - 1
 case neg =>
  rw [if_pos (show (!decide (0 ≤ i ∧ i ≤ (a.1.length : Int) - 1)) = true by rw [decide_eq_false hr]; rfl), if_neg (show ¬ (2 : Int) = 0 by decide), if_neg hr]
 rw [if_neg (show ¬ (!decide (0 ≤ i ∧ i ≤ (a.1.length : Int) - 1)) = true by rw [decide_eq_true hr]; simp), if_pos rfl, if_pos hr]
 obtain ⟨n, rfl⟩ := Int.eq_ofNat_of_zero_le hr.1
 have hn : n < a.1.length := by omega
 have h1 := dropI_loop (K := K) (imgs := a.2) hK hd hn hv K 0 (by omega) (by omega)
 replace h1 : g_impl_DropGenerator_l0 K a n (a.1.eraseIdx n, tol a.1.length n) K 0 [] = _ := h1
 have h2 := p_withoutI (K := K) (ds := a.1) (i := n) (imgs := a.2) hK hl
 replace h2 : g_impl_Algebra_without K a [(n : Int)] = _ := h2
 rw [h2, Option.bind_some, h1, Option.bind_some, Int.toNat_natCast]
 by_cases h0 : 0 < (drp n (rd a.2 (n : Int))).length
 rw [if_pos ⟨by omega, h0⟩, if_pos h0]; rfl
 rw [if_neg (fun h => h0 h.2), if_neg h0]; rfl
end
end Go.Proofs.YtfodlhkoafhplaaGreat
