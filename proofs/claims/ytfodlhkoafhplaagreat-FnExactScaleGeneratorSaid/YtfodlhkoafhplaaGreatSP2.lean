/- Plain laws on the pure functions. -/
import Derived.Test.YtfodlhkoafhplaaGreatSP1
import Derived.Test.YtfodlhkoafhplaaGreatSF12
import Derived.Test.YtfodlhkoafhplaaGreatSF9
import Derived.Test.YtfodlhkoafhplaaGreatSF1
import Derived.Test.YtfodlhkoafhplaaGreatSF4
import Derived.Test.YtfodlhkoafhplaaGreatSF3
import Derived.Test.YtfodlhkoafhplaaGreatSF16
import Derived.Test.YtfodlhkoafhplaaGreatSF19
import Derived.Test.YtfodlhkoafhplaaGreatSF8
import Derived.Test.YtfodlhkoafhplaaGreatSF17
import Derived.Test.YtfodlhkoafhplaaGreatSF20
namespace Go.Proofs.YtfodlhkoafhplaaGreat
open Go
set_option linter.unusedSimpArgs false
set_option linter.unusedVariables false
theorem single_mo {B : Int} {ds : List Int} {p : A8} (h : Mo B ds p) : MoL B ds [(p, 1)] := fun t ht => by cases List.mem_singleton.1 ht; exact h
theorem single_sm (p : A8) : SmF [(p, 1)] := fun t ht => by cases List.mem_singleton.1 ht; simp
theorem single_srt (p : A8) : Srt [(p, 1)] := List.pairwise_singleton _ _
theorem p_single (K : Nat) (p : A8) : g_spec_l01Single K p 1 = some [(p, 1)] := by
 unfold g_spec_l01Single
 rw [mod_eq]; rfl
section
variable {K : Nat} {ds : List Int} {img : MpT} {m : A8} {i : Nat}
theorem dT1_props (hm : Mo 20 ds m) (hi : i < 8) (h1 : 0 < idx8 m i) (hv : VF ds img) : MoL 40 ds (runM (mulT ds [(lfM m i, 1)] img) []) ∧ (runM (mulT ds [(lfM m i, 1)] img) []).length ≤ 400 := by
 refine ⟨runM_mo (mulT_mo (single_mo (lf_mo hm (by decide) hi h1)) hv.mo), ?_⟩
 have h2 := runM_len (mulT ds [(lfM m i, 1)] img) []
 have h3 := mulT_len (ds := ds) [(lfM m i, 1)] img
 have h4 := hv.len
 simp only [List.length_cons, List.length_nil] at h2 h3
 omega
theorem dT_len (hm : Mo 20 ds m) (hi : i < 8) (h1 : 0 < idx8 m i) (hv : VF ds img) : (dT ds img m i).length ≤ 400 := by
 have h0 := (dT1_props hm hi h1 hv).2
 unfold dT
 generalize runM (mulT ds [(lfM m i, 1)] img) [] = T at h0 ⊢
 have h2 := runM_len (mulT ds T [(hiM m i, 1)]) []
 have h3 := mulT_len (ds := ds) T [(hiM m i, 1)]
 simp only [List.length_cons, List.length_nil] at h2 h3
 omega
theorem dT_nfm : nfm (dT ds img m i) = true := nfm_runM _ nfm_nil
theorem dstep_len {z : TermT} {out : MpT} (hm : Mo 20 ds z.1) (hi : i < 8) (h1 : 0 < idx8 z.1 i) (hv : VF ds img) : (dstep ds img z i out).length ≤ out.length + 400 := by
 have h1 := dT_len hm hi h1 hv
 have h2 := runM_len (scl (dF ds z i) (dT ds img z.1 i)) out
 unfold dstep
 have : (scl (dF ds z i) (dT ds img z.1 i)).length = (dT ds img z.1 i).length := by simp [scl]
 omega
theorem l02D_l2_loop (m : A8) (i : Nat) : ∀ (k j : Nat) (front back : A8), 8 < j + k → j ≤ 8 → (∀ t : Fin 8, front t = if t.val < j ∧ i ≤ t.val then 0 else m t) → (∀ t : Fin 8, back t = if t.val < j ∧ t.val ≤ i then 0 else m t) →
 g_spec_l02D_l2 K i k j front back = some (.go (loM m i, hiM m i)) := by
 intro k
 induction k with
 | zero => intro j front back h1 h2; omega
 | succ k ih =>
  intro j front back h1 h2 hf hb
  rw [g_spec_l02D_l2]
  by_cases hj : j < 8
  have key : ∀ fr : A8, (∀ t : Fin 8, fr t = if t.val < j + 1 ∧ i ≤ t.val then 0 else m t) → g_spec_l02D_j98 K (g_spec_l02D_l2 K i k) i j back fr = some (.go (loM m i, hiM m i)) := by
   intro fr hfr
   unfold g_spec_l02D_j98
   by_cases h : j ≤ i
   rw [if_pos (by omega)]
   refine ih (j + 1) _ _ (by omega) (by omega) hfr (fun t => ?_)
   rw [upd_nat _ hj, hb t]
   by_cases e : t.val = j
   rw [if_pos e, if_pos (by omega)]
   rw [if_neg e]
   by_cases h' : t.val < j ∧ t.val ≤ i
   rw [if_pos h', if_pos (by omega)]
   rw [if_neg h', if_neg (by omega)]
   rw [if_neg (by omega)]
   refine ih (j + 1) _ _ (by omega) (by omega) hfr (fun t => ?_)
   rw [hb t]
   by_cases h' : t.val < j ∧ t.val ≤ i
   rw [if_pos h', if_pos (by omega)]
   rw [if_neg h', if_neg (by omega)]
  rw [if_pos (by omega)]
  by_cases h : i ≤ j
  rw [if_pos (by omega)]
  refine key _ (fun t => ?_)
  rw [upd_nat _ hj, hf t]
  by_cases e : t.val = j
  rw [if_pos e, if_pos (by omega)]
  rw [if_neg e]
  by_cases h' : t.val < j ∧ i ≤ t.val
  rw [if_pos h', if_pos (by omega)]
  rw [if_neg h', if_neg (by omega)]
  rw [if_neg (by omega)]
  refine key _ (fun t => ?_)
  rw [hf t]
  by_cases h' : t.val < j ∧ i ≤ t.val
  rw [if_pos h', if_pos (by omega)]
  rw [if_neg h', if_neg (by omega)]
  rw [if_neg (by omega)]
  congr 3
  funext t
  rw [hf t]; unfold loM
  by_cases h : t.val < i
  rw [if_neg (by omega), if_pos h]
  rw [if_pos (by omega), if_neg h]
  funext t
  rw [hb t]; unfold hiM
  by_cases h : i < t.val
  rw [if_neg (by omega), if_pos h]
  rw [if_pos (by omega), if_neg h]
/-- how imgs, the images of an algebra, are -/
structure VI (ds : List Int) (imgs : List MpT) : Prop where
 len : imgs.length = ds.length
 all : ∀ f, f ∈ imgs → VF ds f
theorem dT_spec {out : MpT} {f : Int} (hK : 1073741824 ≤ K) (hd : okD ds = true) (hm : Mo 20 ds m) (hi : i < 8) (h1 : 0 < idx8 m i) {imgs : List MpT} (hv : VI ds imgs) (hil : i < ds.length) (ho : nfm out = true) (hol : out.length ≤ 100000000)
 (lk : Int → MpT → Option (Ex MpT MpT)) (a1 : MpT) (x0 : Int) (hz : (rd a1 x0).1 = m) :
 g_spec_l02D_j99 K lk (ds, imgs) a1 x0 i out (loM m i) (hiM m i) f = lk ((i : Int) + 1) (runM (scl (f % 10007) (dT ds (rd imgs (i : Int)) m i)) out) := by
 have hl := hv.len
 have hv' := hv.all _ (rd_mem (show i < imgs.length by omega))
 have hvl := hv'.len
 have hp := dT1_props hm hi h1 hv'
 have hb := hm.hi ⟨i, hi⟩
 rw [← idx_nat m hi] at hb
 have hw : upd8 (loM m i) i (IntKind.u8.wrap (idx8 m i - 1)) = lfM m i := by rw [wrap8 (by omega)]; rfl
 have hn := dT_len hm hi h1 hv'
 unfold g_spec_l02D_j99
 rw [hz, hw, p_single, Option.bind_some, if_pos (show (i : Int) < imgs.length by omega),
  p_timesS (B := 20) (C := 20) hK hd (by decide) (by decide) (single_mo (lf_mo hm (by decide) hi h1)) (single_sm _) hv'.mo hv'.small (nfm_srt hv'.nf) (by omega) (by simp; omega) (by simp; omega), Option.bind_some, p_single, Option.bind_some,
  p_timesS (B := 40) (C := 20) hK hd (by decide) (by decide) hp.1 (nfm_small (nfm_runM _ nfm_nil)) (single_mo (hi_mo hm (by decide) i)) (single_sm _) (single_srt _) (by simp) (by omega) (by simp; omega), Option.bind_some, mod_eq, Option.bind_some]
 have hT : runM (mulT ds (runM (mulT ds [(lfM m i, 1)] (rd imgs (i : Int))) []) [(hiM m i, 1)]) [] = dT ds (rd imgs (i : Int)) m i := rfl
 rw [hT, p_add (by omega) (by omega) (by omega) (nfm_small ho) (nfm_small dT_nfm) (by omega) (by omega), Option.bind_some, mrg_run ho (nfm_srt dT_nfm)]
theorem sg_mul (x y a : Int) (hx : 0 ≤ x) : sg (x + y * a) = if y % 2 = 1 ∧ a % 2 = 1 then - sg x else sg x := by
 have h : (y * a) % 2 = ((y % 2) * (a % 2)) % 2 := Int.mul_emod y a 2
 have e : sg (y * a) = if y % 2 = 1 ∧ a % 2 = 1 then -1 else 1 := by
  unfold sg
  rw [h]
  rcases Int.emod_two_eq y with h1 | h1 <;> rcases Int.emod_two_eq a with h2 | h2 <;> simp [h1, h2]
 rw [sg_add, e]
 split
 rw [Int.mul_neg, Int.mul_one]
 rw [Int.mul_one]
theorem lo_succ (m : A8) {i : Nat} (hi : i < 8) : upd8 (loM m i) i (idx8 m i) = loM m (i + 1) := by
 funext t
 rw [upd_nat _ hi, idx_nat m hi]
 unfold loM
 by_cases e : t.val = i
 rw [if_pos e, if_pos (by omega)]; congr 1; exact Fin.ext e.symm
 rw [if_neg e]
 by_cases h : t.val < i
 rw [if_pos h, if_pos (by omega)]
 rw [if_neg h, if_neg (by omega)]
theorem fac_bound {z : TermT} (hm : Mo 20 ds z.1) (hz : -10006 ≤ z.2 ∧ z.2 ≤ 10006) (i : Nat) (hi : i < 8) (s : Int) (hs : s = 1 ∨ s = -1) : (-10006 ≤ s * z.2 ∧ s * z.2 ≤ 10006) ∧ -100120036 ≤ s * z.2 * idx8 z.1 i ∧ s * z.2 * idx8 z.1 i ≤ 100120036 := by
 have h2 := hm.hi ⟨i, hi⟩
 have h3 := hm.lo ⟨i, hi⟩
 rw [← idx_nat z.1 hi] at h2 h3
 exact sign_mul (.inr hs) hz (by omega)
theorem l02D_l1_loop {imgs : List MpT} {f : MpT} {x0 : Int} (hK : 1073741824 ≤ K) (hd : okD ds = true) (hv : VI ds imgs) (hm : Mo 20 ds (rd f x0).1) (hz : -10006 ≤ (rd f x0).2 ∧ (rd f x0).2 ≤ 10006) :
 ∀ (k i : Nat) (out : MpT), ds.length < i + k → i ≤ ds.length → nfm out = true → out.length + 400 * (ds.length - i) ≤ 100000000 →
  g_spec_l02D_l1 K (ds, imgs) f x0 k i out = some (.go (dfold ds imgs (rd f x0) (ds.length - i) i out)) := by
 have hl := okD_len hd
 intro k
 induction k with
 | zero => intro i out h1 h2; omega
 | succ k ih =>
  intro i out h1 h2 ho hol
  rw [g_spec_l02D_l1]
  by_cases hi : i < ds.length
  obtain ⟨n, hn⟩ : ∃ n, ds.length - i = n + 1 := ⟨ds.length - i - 1, by omega⟩
  have e2 : ds.length - (i + 1) = n := by omega
  have hi8 : i < 8 := by omega
  have hlo := hm.lo ⟨i, hi8⟩
  have hhi := hm.hi ⟨i, hi8⟩
  rw [← idx_nat (rd f x0).1 hi8] at hlo hhi
  rw [if_pos (show (i : Int) < ds.length by omega), if_pos (by omega), hn, dfold]
  by_cases h0 : idx8 (rd f x0).1 i = 0
  have := ih (i + 1) out (by omega) (by omega) ho (by omega)
  rw [e2] at this
  rw [if_pos h0, if_pos h0]; exact this
  have h1' : 0 < idx8 (rd f x0).1 i := by omega
  have hv' := hv.all _ (rd_mem (show i < imgs.length by rw [hv.len]; exact hi))
  have hl2 := l02D_l2_loop (K := K) (rd f x0).1 i K 0 (rd f x0).1 (rd f x0).1 (by omega) (by omega) (fun t => by simp) (fun t => by simp)
  replace hl2 : g_spec_l02D_l2 K i K 0 (rd f x0).1 (rd f x0).1 = _ := hl2
  have hsl := dstep_len (out := out) hm hi8 h1' hv'
  have := ih (i + 1) (dstep ds (rd imgs (i : Int)) (rd f x0) i out) (by omega) (by omega) (nfm_runM _ ho) (by omega)
  rw [e2] at this
  have hwt := wt_bound hd ((lo_mo hm (by decide) i).byt (by decide))
  rw [wt_lo _ _ (by omega)] at hwt
  have hfb := fac_bound hm hz i hi8 1 (.inl rfl)
  rw [Int.one_mul] at hfb
  rw [if_neg h0, if_neg h0, hl2, Option.bind_some]
  show (g_spec_l01Weight K ds (loM (rd f x0).1 i)).bind _ = _
  rw [p_weight (by omega) hd ((lo_mo hm (by decide) i).byt (by decide)), Option.bind_some, wt_lo _ _ (by omega), tmod2 (by omega), IntWalk.i64_in (idx8 (rd f x0).1 i) (by omega), IntWalk.i64_in ((rd f x0).2 * _) (by omega), IntWalk.i64_in (0 - _) (by omega)]
  have hj := fun g => dT_spec (K := K) (f := g) hK hd hm hi8 h1' hv hi ho (by omega) (g_spec_l02D_l1 K (ds, imgs) f x0 k) f x0 rfl
  rw [hj, hj]
  have hF : dF ds (rd f x0) i = (if wtN ds (rd f x0).1 i % 2 = 0 then (rd f x0).2 * idx8 (rd f x0).1 i else 0 - (rd f x0).2 * idx8 (rd f x0).1 i) % 10007 := by
   unfold dF sg
   by_cases e : wtN ds (rd f x0).1 i % 2 = 0
   rw [if_pos e, if_neg (by omega), Int.one_mul]
   rw [if_neg e, if_pos (by omega), Int.neg_mul, Int.one_mul, Int.neg_mul, Int.zero_sub]
  refine Eq.trans ?_ this
  unfold dstep
  rw [hF]
  split <;> rfl
  rw [if_neg (show ¬ (i : Int) < ds.length by omega), show ds.length - i = 0 by omega]; rfl
end
section
variable {K : Nat} {ds : List Int} {img : MpT} {m : A8} {i : Nat}
theorem dfold_props {imgs : List MpT} {z : TermT} (hd : okD ds = true) (hv : VI ds imgs) (hm : Mo 20 ds z.1) : ∀ (n i : Nat) (out : MpT), i + n ≤ ds.length → nfm out = true →
 nfm (dfold ds imgs z n i out) = true ∧ (dfold ds imgs z n i out).length ≤ out.length + 400 * n
 | 0, _, out, _, h => ⟨h, Nat.le_refl _⟩
 | n + 1, i, out, hi, h => by
  have hl := okD_len hd
  rw [dfold]
  by_cases h0 : idx8 z.1 (i : Int) = 0
  rw [if_pos h0]
  have := dfold_props hd hv hm n (i + 1) out (by omega) h
  exact ⟨this.1, by omega⟩
  rw [if_neg h0]
  have hv' := hv.all _ (rd_mem (show i < imgs.length by rw [hv.len]; omega))
  have hlo := (hm.idx i).1
  have h2 := dstep_len (out := out) (z := z) hm (show i < 8 by omega) (by omega) hv'
  have := dfold_props hd hv hm n (i + 1) (dstep ds (rd imgs (i : Int)) z i out) (by omega) (nfm_runM _ h)
  exact ⟨this.1, by omega⟩
theorem dall_props {imgs : List MpT} (hd : okD ds = true) (hv : VI ds imgs) : ∀ (f out : MpT), MoL 20 ds f → nfm out = true → nfm (dall ds imgs f out) = true ∧ (dall ds imgs f out).length ≤ out.length + 3200 * f.length
 | [], out, _, h => ⟨h, Nat.le_refl _⟩
 | z :: f, out, hf, h => by
  have hl := okD_len hd
  have h1 := dfold_props hd hv (hf z (List.mem_cons_self ..)) ds.length 0 out (by omega) h
  have h2 := dall_props hd hv f _ (fun q hq => hf q (List.mem_cons_of_mem _ hq)) h1.1
  rw [dall, List.length_cons]
  exact ⟨h2.1, by omega⟩
theorem l02D_l0_loop {imgs : List MpT} {f : MpT} (hK : 1073741824 ≤ K) (hd : okD ds = true) (hv : VI ds imgs) (hm : MoL 20 ds f) (hz : SmF f) :
 ∀ (k i : Nat) (out : MpT), f.length < i + k → i ≤ f.length → nfm out = true → out.length + 3200 * (f.length - i) ≤ 90000000 → g_spec_l02D_l0 K (ds, imgs) f k i out = some (.go (dall ds imgs (f.drop i) out)) := by
 have hl := okD_len hd
 intro k
 induction k with
 | zero => intro i out h1 h2; omega
 | succ k ih =>
  intro i out h1 h2 ho hol
  rw [g_spec_l02D_l0]
  by_cases hi : i < f.length
  have h3 := l02D_l1_loop hK hd hv (hm _ (rd_mem hi)) (hz _ (rd_mem hi)) K 0 out (by omega) (by omega) ho (by omega)
  have h4 := dfold_props hd hv (hm _ (rd_mem hi)) ds.length 0 out (by omega) ho
  replace h3 : g_spec_l02D_l1 K (ds, imgs) f i K 0 out = _ := h3
  rw [if_pos (by omega), h3, Option.bind_some, drop_rd hi, dall]
  exact ih (i + 1) _ (by omega) (by omega) h4.1 (by rw [Nat.sub_zero]; omega)
  rw [if_neg (by omega), List.drop_eq_nil_of_le (by omega)]; rfl
theorem p_dS {imgs : List MpT} {f : MpT} (hK : 1073741824 ≤ K) (hd : okD ds = true) (hv : VI ds imgs) (hf : VF ds f) : g_spec_l02D K (ds, imgs) f = some (dall ds imgs f []) := by
 have hl := hf.len
 have := l02D_l0_loop hK hd hv hf.mo hf.small K 0 [] (by omega) (by omega) nfm_nil (by simp; omega)
 unfold g_spec_l02D
 replace this : g_spec_l02D_l0 K (ds, imgs) f K 0 [] = some (.go (dall ds imgs f [])) := this
 rw [this]; rfl
theorem d_l2_loop (m : A8) {i : Nat} (hi : i < 8) : ∀ (k j : Nat) (box : A8), i + 1 < j + k → j ≤ i + 1 → (∀ t : Fin 8, box t = if t.val < j then 0 else m t) → g_impl_Algebra_d_l2 K i k j box = some (.go (hiM m i)) := by
 intro k
 induction k with
 | zero => intro j box h1 h2; omega
 | succ k ih =>
  intro j box h1 h2 hb
  rw [g_impl_Algebra_d_l2]
  by_cases hj : j < i + 1
  rw [if_pos (by omega), if_pos (by omega)]
  refine ih (j + 1) _ (by omega) (by omega) (fun t => ?_)
  rw [upd_nat _ (show j < 8 by omega), hb t]
  by_cases e : t.val = j
  rw [if_pos e, if_pos (by omega)]
  rw [if_neg e]
  by_cases h : t.val < j
  rw [if_pos h, if_pos (by omega)]
  rw [if_neg h, if_neg (by omega)]
  rw [if_neg (by omega)]
  congr 2
  funext t
  rw [hb t]; unfold hiM
  by_cases h : i < t.val
  rw [if_pos h, if_neg (by omega)]
  rw [if_neg h, if_pos (by omega)]
def sgI (ds : List Int) (m : A8) (i : Nat) : Int := sg (wtN ds m (min i ds.length))
theorem j15_eq {imgs : List MpT} {z : TermT} (hd : okD ds = true) (hm : Mo 20 ds z.1) {i : Nat} (hi : i < 8) (lk : Int → Int → A8 → MpT → Option (Ex MpT (A8 × MpT))) (out : MpT) :
 g_impl_Algebra_d_j15 K lk (ds, imgs) (sgI ds z.1 i) i (loM z.1 i) z out = lk (sgI ds z.1 (i + 1)) ((i : Int) + 1) (loM z.1 (i + 1)) out := by
 unfold g_impl_Algebra_d_j15
 dsimp only
 rw [lo_succ _ hi]
 by_cases hl : i < ds.length
 have hp := okD_pos hd _ (rd_mem hl)
 have hlo := (hm.idx i).1
 have hw := wtN_bound hd (hm.byt (by decide)) i (by omega)
 have e : sgI ds z.1 (i + 1) = if rd ds (i : Int) % 2 = 1 ∧ idx8 z.1 i % 2 = 1 then - sgI ds z.1 i else sgI ds z.1 i := by
  unfold sgI
  rw [Nat.min_eq_left (show i + 1 ≤ ds.length by omega), Nat.min_eq_left (show i ≤ ds.length by omega), wtN]
  exact sg_mul _ _ _ hw.1
 rw [if_pos (show (i : Int) < ds.length by omega), tmod2 (by omega), tmod2 (by omega), e]
 have hs : IntKind.i64.wrap (0 - sgI ds z.1 i) = - sgI ds z.1 i := by
  rcases sg_val (wtN ds z.1 (min i ds.length)) with h | h <;> (unfold sgI; rw [h]; rfl)
 by_cases h1 : rd ds (i : Int) % 2 = 1
 by_cases h2 : idx8 z.1 i % 2 = 1
 rw [if_pos h1, if_pos h2, if_pos ⟨h1, h2⟩, hs]
 rw [if_pos h1, if_neg h2, if_neg (fun h => h2 h.2)]
 rw [if_neg h1, if_neg (fun h => h1 h.1)]
 rw [if_neg (show ¬ (i : Int) < ds.length by omega)]
 unfold sgI
 rw [Nat.min_eq_right (show ds.length ≤ i by omega), Nat.min_eq_right (show ds.length ≤ i + 1 by omega)]
theorem d_l1_loop {imgs : List MpT} {z : TermT} {r6 : M8} (hK : 1073741824 ≤ K) (hd : okD ds = true) (hv : VI ds imgs) (hm : Mo 20 ds z.1) (hz : -10006 ≤ z.2 ∧ z.2 ≤ 10006) (hr : ∀ j, j < imgs.length → idxM r6 (j : Int) = rd imgs (j : Int)) :
 ∀ (k i : Nat) (out : MpT), 8 < i + k → i ≤ 8 → nfm out = true → out.length + 400 * (8 - i) ≤ 100000000 →
  ∃ a, g_impl_Algebra_d_l1 K (ds, imgs) r6 z k (sgI ds z.1 i) i (loM z.1 i) out = some (.go (a, dfold ds imgs z (ds.length - i) i out)) := by
 have hl := okD_len hd
 intro k
 induction k with
 | zero => intro i out h1 h2; omega
 | succ k ih =>
  intro i out h1 h2 ho hol
  rw [g_impl_Algebra_d_l1]
  by_cases hi8 : i < 8
  have hlo := hm.lo ⟨i, hi8⟩
  have hhi := hm.hi ⟨i, hi8⟩
  rw [← idx_nat z.1 hi8] at hlo hhi
  rw [if_pos (by omega)]
  by_cases h0 : idx8 z.1 i = 0
  rw [if_neg (by omega), j15_eq hd hm hi8]
  obtain ⟨a, ha⟩ := ih (i + 1) out (by omega) (by omega) ho (by omega)
  refine ⟨a, ?_⟩
  replace ha : g_impl_Algebra_d_l1 K (ds, imgs) r6 z k (sgI ds z.1 (i + 1)) ((i : Int) + 1) (loM z.1 (i + 1)) out = _ := ha
  rw [ha]
  by_cases hi : i < ds.length
  obtain ⟨n, hn⟩ : ∃ n, ds.length - i = n + 1 := ⟨ds.length - i - 1, by omega⟩
  have e2 : ds.length - (i + 1) = n := by omega
  rw [hn, e2, dfold, if_pos h0]
  rw [show ds.length - (i + 1) = 0 by omega, show ds.length - i = 0 by omega]; rfl
  have hi : i < ds.length := by
   rcases Nat.lt_or_ge i ds.length with h | h
   exact h
   exact absurd (by rw [idx_nat z.1 hi8]; exact hm.out ⟨i, hi8⟩ h) h0
  have h1' : 0 < idx8 z.1 i := by omega
  have hil : i < imgs.length := by rw [hv.len]; exact hi
  have hv' := hv.all _ (rd_mem hil)
  have hvl := hv'.len
  have hp := dT1_props hm hi8 h1' hv'
  have hn := dT_len hm hi8 h1' hv'
  have hsl := dstep_len (out := out) hm hi8 h1' hv'
  have hl2 := d_l2_loop (K := K) z.1 hi8 K 0 z.1 (by omega) (by omega) (fun t => by simp)
  replace hl2 : g_impl_Algebra_d_l2 K i K 0 z.1 = _ := hl2
  have hw : upd8 (loM z.1 i) i (IntKind.i64.wrap (idx8 z.1 i - 1)) = lfM z.1 i := by rw [IntWalk.i64_in _ (by omega)]; rfl
  have hfb := fac_bound hm hz i hi8 (sgI ds z.1 i) (sg_val _)
  have hF : (sgI ds z.1 i * z.2 * idx8 z.1 i) % 10007 = dF ds z i := by unfold dF sgI; rw [Nat.min_eq_left (by omega)]
  have hm1 : ∀ p : A8, mput ([] : MpT) p 1 = [(p, 1)] := fun p => rfl
  rw [if_pos h1', hl2, Option.bind_some]
  obtain ⟨a, ha⟩ := ih (i + 1) (dstep ds (rd imgs (i : Int)) z i out) (by omega) (by omega) (nfm_runM _ ho) (by omega)
  refine ⟨a, ?_⟩
  show (g_impl_sum_times K (mput ([] : MpT) (upd8 (loM z.1 i) i (IntKind.i64.wrap (idx8 z.1 i - 1))) 1) ds (idxM r6 i)).bind _ = _
  have hT : runM (mulT ds (runM (mulT ds [(lfM z.1 i, 1)] (rd imgs (i : Int))) []) [(hiM z.1 i, 1)]) [] = dT ds (rd imgs (i : Int)) z.1 i := rfl
  rw [hw, hm1, hm1, hr i hil, p_stimes (B := 20) (C := 20) (by omega) hd (by decide) (by decide) (by decide) (single_mo (lf_mo hm (by decide) hi8 h1')) (single_sm _) hv'.mo hv'.small (by simp; omega) (by omega), Option.bind_some,
   p_stimes (B := 40) (C := 20) (by omega) hd (by decide) (by decide) (by decide) hp.1 (nfm_small (nfm_runM _ nfm_nil)) (single_mo (hi_mo hm (by decide) i)) (single_sm _) (by omega) (by simp; omega), Option.bind_some, hT,
   IntWalk.i64_in (sgI ds z.1 i * z.2) (by omega), IntWalk.i64_in _ (by omega), fld_eq, Option.bind_some, hF, p_addAll (by unfold dF; omega) (by omega) (nfm_small dT_nfm) ho, Option.bind_some, j15_eq hd hm hi8]
  replace ha : g_impl_Algebra_d_l1 K (ds, imgs) r6 z k (sgI ds z.1 (i + 1)) ((i : Int) + 1) (loM z.1 (i + 1)) (runM (scl (dF ds z i) (dT ds (rd imgs (i : Int)) z.1 i)) out) = _ := ha
  rw [ha]
  obtain ⟨n, hn⟩ : ∃ n, ds.length - i = n + 1 := ⟨ds.length - i - 1, by omega⟩
  have e2 : ds.length - (i + 1) = n := by omega
  rw [hn, e2, dfold, if_neg h0]
  rw [if_neg (by omega), show ds.length - i = 0 by omega]; exact ⟨_, rfl⟩
set_option maxRecDepth 100000 in
theorem d_l0_loop {imgs : List MpT} {r6 : M8} (hK : 1073741824 ≤ K) (hd : okD ds = true) (hv : VI ds imgs) (hr : ∀ j, j < imgs.length → idxM r6 (j : Int) = rd imgs (j : Int)) :
 ∀ (k : Nat) (f out : MpT), f.length < k → MoL 20 ds f → SmF f → nfm out = true → out.length + 3200 * f.length ≤ 90000000 → g_impl_Algebra_d_l0 K (ds, imgs) r6 k f out = some (.go (dall ds imgs f out))
 | 0, _, _, h, _, _, _, _ => by omega
 | k + 1, [], out, _, _, _, _, _ => by rw [g_impl_Algebra_d_l0]; rfl
 | k + 1, z :: f, out, h, hm, hz, ho, hol => by
  have hl := okD_len hd
  rw [List.length_cons] at hol h
  have hk8 : 8 < 0 + K := by omega
  have hol' : out.length + 400 * (8 - 0) ≤ 100000000 := by rw [Nat.sub_zero]; omega
  obtain ⟨a, ha⟩ := d_l1_loop hK hd hv (hm z (List.mem_cons_self ..)) (hz z (List.mem_cons_self ..)) hr K 0 out hk8 (Nat.zero_le _) ho hol'
  have h4 := dfold_props hd hv (hm z (List.mem_cons_self ..)) ds.length 0 out (by omega) ho
  have e1 : sgI ds z.1 0 = 1 := by unfold sgI; rw [Nat.zero_min]; rfl
  have e2 : loM z.1 0 = fun _ => 0 := by funext t; unfold loM; rw [if_neg (by omega)]
  rw [e1, e2, Nat.sub_zero] at ha
  replace ha : g_impl_Algebra_d_l1 K (ds, imgs) r6 z K 1 0 (fun _ => 0) out = _ := ha
  rw [g_impl_Algebra_d_l0, ha, Option.bind_some]
  show g_impl_Algebra_d_l0 K (ds, imgs) r6 k f (dfold ds imgs z ds.length 0 out) = _
  exact d_l0_loop hK hd hv hr k f _ (by omega) (fun q hq => hm q (List.mem_cons_of_mem _ hq)) (fun q hq => hz q (List.mem_cons_of_mem _ hq)) h4.1 (by omega)
theorem p_dI {imgs : List MpT} {f : MpT} (hK : 1073741824 ≤ K) (hd : okD ds = true) (hv : VI ds imgs) (hf : VF ds f) : g_impl_Algebra_d K (ds, imgs) f = some (dall ds imgs f []) := by
 have hl := hf.len
 have hdl := okD_len hd
 obtain ⟨r6, h1, h2⟩ := p_images (K := K) (a := (ds, imgs)) (by omega) (show imgs.length ≤ 8 by rw [hv.len]; exact hdl) (fun g hg => ⟨ds, hv.all g hg⟩)
 unfold g_impl_Algebra_d
 rw [show ((ds, imgs) : List Int × List MpT).1 = ds from rfl, show ((ds, imgs) : List Int × List MpT).2 = imgs from rfl, h1, Option.bind_some, d_l0_loop hK hd hv h2 K f [] (by omega) hf.mo hf.small nfm_nil (by simp; omega)]
 rfl
end
theorem cont_form {K : Nat} {xs : List MpT} {p : MpT → Option Bool} {q : MpT → Bool} (hK : xs.length < K) (hp : ∀ x, x ∈ xs → p x = some (q x)) : g_slices_ContainsFunc_Simpl_Form_impl_Form K xs p = some (xs.any q) := by
 unfold g_slices_ContainsFunc_Simpl_Form_impl_Form g_slices_IndexFunc_Simpl_Form_impl_Form
 have := any_loop (fun k i => g_slices_IndexFunc_Simpl_Form_impl_Form_l0 K xs p k i) xs.length (fun j => q (rd xs (j : Int))) id (fun k n hn => ?_) (fun k n hn => ?_) K 0 (by omega) (by omega)
 rw [Nat.sub_zero, ← List.range_eq_range', range_any xs q] at this
 rcases this with ⟨m, h1, h2, _⟩ | ⟨h1, h2⟩
 replace h1 : g_slices_IndexFunc_Simpl_Form_impl_Form_l0 K xs p K 0 = _ := h1
 rw [h1, h2]; simp [Ex.elim]
 replace h1 : g_slices_IndexFunc_Simpl_Form_impl_Form_l0 K xs p K 0 = _ := h1
 rw [h1, h2]; simp [Ex.elim]
 show g_slices_IndexFunc_Simpl_Form_impl_Form_l0 K xs p (k + 1) n = _
 rw [g_slices_IndexFunc_Simpl_Form_impl_Form_l0, if_pos (by omega), hp _ (rd_mem hn)]; rfl
 show g_slices_IndexFunc_Simpl_Form_impl_Form_l0 K xs p (k + 1) n = _
 rw [g_slices_IndexFunc_Simpl_Form_impl_Form_l0, if_neg (by omega)]
/-- what the arguments are like -/
structure Inp (K : Nat) (a : AlgT) : Prop where
 big : 1073741824 ≤ K
 dl : a.1.length ≤ 1048576
 il : a.2.length ≤ 1048576
 fl : ∀ f, f ∈ a.2 → f.length ≤ 1048576
 by_ : ∀ f, f ∈ a.2 → BytF f
def okI (a : AlgT) (j : Nat) : Bool := okF a.1 (rd a.2 (j : Int)) && okG a.1 (rd a.2 (j : Int)) (rd a.1 (j : Int) + 1)
def okB (a : AlgT) : Bool := okD a.1 && (decide (a.2.length = a.1.length) && (List.range a.2.length).all (okI a))
def okC (a : AlgT) : Bool := a.2.all fun f => decide ((dall a.1 a.2 f []).length = 0)
def okA (a : AlgT) : Bool := okB a && okC a
section
variable {K : Nat} {a : AlgT}
theorem okB_deg (h : okB a = true) : okD a.1 = true := by unfold okB at h; rw [Bool.and_eq_true] at h; exact h.1
theorem okB_vi (hi : Inp K a) (h : okB a = true) : VI a.1 a.2 := by
 unfold okB at h
 rw [Bool.and_eq_true, Bool.and_eq_true, decide_eq_true_eq] at h
 refine ⟨h.2.1, fun f hf => ?_⟩
 obtain ⟨j, hj, rfl⟩ := List.getElem_of_mem hf
 have := List.all_eq_true.1 h.2.2 j (List.mem_range.2 hj)
 unfold okI at this
 rw [rd_nat hj, Bool.and_eq_true] at this
 exact okF_vf (hi.by_ _ hf) this.1
theorem p_algS (hi : Inp K a) : g_spec_l02Is K a = some (okA a) := by
 have hK := hi.big
 have hdl := hi.dl
 have hil := hi.il
 unfold g_spec_l02Is okA okB
 rw [p_degS (by omega), Option.bind_some]
 cases hd : okD a.1 with
 | false => rfl
 | true =>
  rw [if_pos rfl]
  unfold g_spec_l02Is_j1
  by_cases hl : a.2.length = a.1.length
  case neg => rw [if_pos (by simp; omega)]; simp [hl]
  rw [if_neg (by simp; omega), all_loop_ge (g := ()) (fun k i => g_spec_l02Is_l0 K a k i) a.2.length (okI a) false (fun k n hn => ?_) (fun k n hn => ?_) (by omega)]
  cases hb : (List.range a.2.length).all (okI a) with
  | false => simp [Ex.elim, hl]
  | true =>
   have hB : okB a = true := by unfold okB; rw [hd, hb]; simp [hl]
   have hv := okB_vi hi hB
   rw [if_pos rfl, Option.bind_some]
   show ((g_spec_l02Is_l1 K a K 0).bind _) = _
   rw [all_loop_ge (g := ()) (fun k i => g_spec_l02Is_l1 K a k i) a.2.length (fun j => decide ((dall a.1 a.2 (rd a.2 (j : Int)) []).length = 0)) false (fun k n hn => ?_) (fun k n hn => ?_) (by omega), range_all a.2 (fun f => decide ((dall a.1 a.2 f []).length = 0))]
   unfold okC
   rw [Bool.true_and, decide_eq_true hl, Bool.true_and, Bool.true_and]
   cases a.2.all fun f => decide ((dall a.1 a.2 f []).length = 0) <;> rfl
   show g_spec_l02Is_l1 K a (k + 1) n = _
   rw [g_spec_l02Is_l1, if_pos (by omega), p_dS hK hd hv (hv.all _ (rd_mem hn)), Option.bind_some]
   by_cases h0 : (dall a.1 a.2 (rd a.2 (n : Int)) []).length = 0
   rw [if_neg (by omega), if_pos (by simpa using h0)]
   rw [if_pos (by omega), if_neg (show ¬ decide ((dall a.1 a.2 (rd a.2 (n : Int)) []).length = 0) = true by simpa using h0)]
   show g_spec_l02Is_l1 K a (k + 1) n = _
   rw [g_spec_l02Is_l1, if_neg (by omega)]
  show g_spec_l02Is_l0 K a (k + 1) n = _
  have hb := hi.by_ _ (rd_mem hn)
  have hfl := hi.fl _ (rd_mem hn)
  have hp := okD_pos hd _ (rd_mem (show n < a.1.length by omega))
  obtain ⟨r, hr, hg⟩ := p_degreeS (K := K) (f := rd a.2 (n : Int)) (by omega) (by omega) hd hb
  rw [g_spec_l02Is_l0, if_pos (by omega), p_isS (by omega) (by omega) (by omega) hd hb, Option.bind_some, hr, Option.bind_some, if_pos (show (n : Int) < a.1.length by omega), IntWalk.i64_in _ (by omega)]
  unfold okI
  rw [← hg]
  cases okF a.1 (rd a.2 (n : Int)) with
  | false => rfl
  | true =>
   rw [if_pos rfl, Bool.true_and]
   cases r.2 with
   | false => rfl
   | true =>
    rw [if_pos rfl, Bool.true_and]
    by_cases h0 : (rd a.2 (n : Int)).length = 0
    rw [if_neg (by omega), if_pos (by simp [h0])]
    rw [if_pos (by omega)]
    by_cases h1 : r.1 = rd a.1 (n : Int) + 1
    rw [if_pos h1, if_pos (by simp [h1])]
    rw [if_neg h1, if_neg (by simp [h0, h1])]
  show g_spec_l02Is_l0 K a (k + 1) n = _
  rw [g_spec_l02Is_l0, if_neg (by omega)]
theorem p_algI (hi : Inp K a) : g_impl_IsAlgebra K a = some (okA a) := by
 have hK := hi.big
 have hdl := hi.dl
 have hil := hi.il
 unfold g_impl_IsAlgebra okA okB
 rw [p_degI (by omega), Option.bind_some]
 cases hd : okD a.1 with
 | false => rfl
 | true =>
  rw [if_pos rfl]
  unfold g_impl_IsAlgebra_j1
  by_cases hl : a.2.length = a.1.length
  case neg => rw [if_pos (by simp; omega)]; simp [hl]
  rw [if_neg (by simp; omega), all_loop_ge (g := ()) (fun k i => g_impl_IsAlgebra_l0 K a k i) a.2.length (okI a) false (fun k n hn => ?_) (fun k n hn => ?_) (by omega)]
  cases hb : (List.range a.2.length).all (okI a) with
  | false => simp [Ex.elim, hl]
  | true =>
   have hB : okB a = true := by unfold okB; rw [hd, hb]; simp [hl]
   have hv := okB_vi hi hB
   rw [if_pos rfl, Option.bind_some]
   show ((g_slices_ContainsFunc_Simpl_Form_impl_Form K a.2 fun x => g_impl_IsAlgebra_c1 K x (a.1, a.2)).bind _) = _
   rw [cont_form (q := fun f => !decide ((dall a.1 a.2 f []).length = 0)) (by omega) (fun f hf => ?_), Option.bind_some, ← List.not_all_eq_any_not]
   unfold okC
   rw [Bool.true_and, decide_eq_true hl, Bool.true_and, Bool.true_and, Bool.not_not]
   have hvf := hv.all f hf
   have hvl := hvf.len
   unfold g_impl_IsAlgebra_c1
   rw [p_sumOf (by omega) (by omega) hvf.byt (nfm_srt hvf.nf), Option.bind_some]
   show (g_impl_Algebra_d K (a.1, a.2) f).bind _ = _
   rw [p_dI hK hd hv hvf, Option.bind_some]
   congr 1
   rw [← decide_not]
   exact decide_eq_decide.2 (by omega)
  show g_impl_IsAlgebra_l0 K a (k + 1) n = _
  have hb := hi.by_ _ (rd_mem hn)
  have hfl := hi.fl _ (rd_mem hn)
  have hp := okD_pos hd _ (rd_mem (show n < a.1.length by omega))
  rw [g_impl_IsAlgebra_l0, if_pos (by omega), p_isI (by omega) hd hb, Option.bind_some, if_pos (show (n : Int) < a.1.length by omega), IntWalk.i64_in _ (by omega), p_degreeI (by omega) (by omega) hd hb (by omega), Option.bind_some]
  unfold okI
  cases okF a.1 (rd a.2 (n : Int)) with
  | false => rfl
  | true => rw [if_pos rfl, Bool.true_and]
  show g_impl_IsAlgebra_l0 K a (k + 1) n = _
  rw [g_impl_IsAlgebra_l0, if_neg (by omega)]
end
section
variable {K : Nat} {ds : List Int} {i : Nat}
theorem rd_eq {α : Type} [Inhabited α] {xs : List α} {n : Nat} {x : α} (h : xs[n]? = some x) : rd xs (n : Int) = x := by
 unfold rd
 rw [Int.toNat_natCast, List.getD_eq_getElem?_getD, h]; rfl
theorem take_rd {α : Type} [Inhabited α] {xs : List α} {j : Nat} (h : j < xs.length) : xs.take (j + 1) = xs.take j ++ [rd xs (j : Int)] := by
 rw [rd_nat h, List.take_add_one, List.getElem?_eq_getElem h]; rfl
def gn (t : Nat) (e : Int) : A8 := upd8 (fun _ => 0) t e
theorem p_generator {t : Nat} (ht : t < 8) : g_spec_l04Generator K (t : Int) = some [(gn t 1, 1)] := by
 unfold g_spec_l04Generator
 rw [if_pos (by omega), if_pos (by omega), p_single]; rfl
theorem p_generatorI {t : Nat} (ht : t < 8) : g_impl_generator K (t : Int) = some (gn t 1) := by
 unfold g_impl_generator
 rw [if_pos (by omega), if_pos (by omega)]; rfl
theorem gn_idx {t : Nat} (ht : t < 8) (e : Int) (n : Nat) : idx8 (gn t e) n = if n = t then e else 0 := by
 by_cases hn : n < 8
 rw [idx_nat _ hn]; unfold gn; rw [upd_nat _ ht]
 rw [if_neg (by omega)]; simp [idx8, hn]
theorem gn_mo {t : Nat} {e : Int} (ht : t < 8) (htl : t < ds.length) (h0 : 0 ≤ e) (h20 : e ≤ 20) (ho : rd ds (t : Int) % 2 = 1 → e ≤ 1) : Mo 20 ds (gn t e) := by
 refine ⟨fun j => ?_, fun j => ?_, fun n hn hod => ?_, fun j hj => ?_⟩
 unfold gn; rw [upd_nat _ ht]; split <;> omega
 unfold gn; rw [upd_nat _ ht]; split <;> omega
 rw [gn_idx ht]; split
 rename_i e; subst e; exact ho hod
 omega
 unfold gn; rw [upd_nat _ ht, if_neg (by omega)]
theorem runM_one {p : A8} {c : Int} (hc : 1 ≤ c ∧ c ≤ 10006) : runM [(p, c)] [] = [(p, c)] := by
 refine runM_self (nfm_mk (List.pairwise_singleton _ _) (fun q hq => ?_))
 cases List.mem_singleton.1 hq; exact hc
theorem one_mo {B : Int} {p : A8} {c : Int} (h : Mo B ds p) : MoL B ds [(p, c)] := fun t ht => by cases List.mem_singleton.1 ht; exact h
theorem one_sm {p : A8} {c : Int} (hc : 1 ≤ c ∧ c ≤ 10006) : SmF [(p, c)] := fun t ht => by cases List.mem_singleton.1 ht; simp; omega
theorem nil_mo {B : Int} : MoL B ds [] := fun t ht => by cases ht
theorem nil_sm : SmF [] := fun t ht => by cases ht
theorem scl_one (g : MpT) : scl 1 g = g := by
 unfold scl
 conv => rhs; rw [← List.map_id g]
 exact List.map_congr_left (fun t _ => by rw [Int.one_mul]; rfl)
theorem mo_okM {B : Int} {m : A8} (hB : B ≤ 20) (h : Mo B ds m) : okM ds m = true := by
 unfold okM
 rw [List.all_eq_true]
 intro j hj
 have hj := List.mem_range.1 hj
 have h1 := h.hi ⟨j, hj⟩
 rw [← idx_nat m hj] at h1
 simp only [decide_eq_true_eq]
 unfold mostE
 split
 rename_i hl
 split
 rename_i ho; exact h.odd j hl ho
 omega
 rename_i hl
 rw [idx_nat m hj, h.out ⟨j, hj⟩ (by simp; omega)]; omega
theorem vf_okF {f : MpT} (h : VF ds f) : okF ds f = true := by
 unfold okF
 rw [Bool.and_eq_true, List.all_eq_true]
 refine ⟨fun j hj => ?_, by simpa using h.len⟩
 have hj := List.mem_range.1 hj
 unfold okT
 rw [mo_okM (by decide) (h.mo _ (rd_mem hj)), Bool.true_and, Bool.and_eq_true]
 refine ⟨by simpa using nfm_val h.nf _ (rd_mem hj), ?_⟩
 by_cases h0 : j = 0
 simp [h0]
 obtain ⟨n, rfl⟩ : ∃ n, j = n + 1 := ⟨j - 1, by omega⟩
 have e : ((n + 1 : Nat) : Int) - 1 = (n : Int) := by omega
 have := List.pairwise_iff_getElem.1 (nfm_srt h.nf) n (n + 1) (by omega) hj (by omega)
 rw [e, rd_nat hj, rd_nat (show n < f.length by omega), this]; simp
theorem form_l1 {r10 : List A8} {x : Int} {m : A8} (hr : rd r10 x = m) (hm : ∀ j, 0 ≤ m j ∧ m j ≤ 20) : ∀ (k n : Nat) (box : A8), n ≤ 8 → 8 < n + k → (∀ j : Fin 8, j.val < n → box j = m j) → g_impl_sum_form_l1 K r10 x k n box = some (.go m) := by
 intro k
 induction k with
 | zero => intro n box h1 h2; omega
 | succ k ih =>
  intro n box h1 h2 hb
  rw [g_impl_sum_form_l1, hr]
  by_cases hn : n < 8
  have hmn := hm ⟨n, hn⟩
  rw [if_pos (by omega), idx_nat m hn, if_neg (by omega)]
  refine ih (n + 1) _ (by omega) (by omega) (fun j hj => ?_)
  rw [upd_nat _ hn]
  by_cases e : j.val = n
  rw [if_pos e, wrap8 (by omega)]
  congr 1; exact Fin.ext e.symm
  rw [if_neg e]; exact hb j (by omega)
  rw [if_neg (by omega)]
  congr 2
  funext j; exact hb j (by omega)
theorem form_l0 {f : MpT} (hK : 1073741824 ≤ K) (hf : VF ds f) : ∀ (k j : Nat), f.length < j + k → j ≤ f.length → g_impl_sum_form_l0 K f (f.map Prod.fst) k j (f.take j) = some (.go f) := by
 have hl := hf.len
 intro k
 induction k with
 | zero => intro j h1 h2; omega
 | succ k ih =>
  intro j h1 h2
  rw [g_impl_sum_form_l0, List.length_map]
  by_cases hj : j < f.length
  have er : rd (f.map Prod.fst) (j : Int) = (rd f (j : Int)).1 := rd_eq (by rw [List.getElem?_map, List.getElem?_eq_getElem hj, rd_nat hj]; rfl)
  have hm := hf.mo _ (rd_mem hj)
  have h3 := form_l1 (K := K) er (fun t => ⟨hm.lo t, hm.hi t⟩) K 0 (fun _ => 0) (by omega) (by omega) (fun t ht => by omega)
  replace h3 : g_impl_sum_form_l1 K (f.map Prod.fst) j K 0 (fun _ => 0) = _ := h3
  have hg : mget f (rd f (j : Int)).1 = (rd f (j : Int)).2 := mget_of (nfm_srt hf.nf) (rd_mem hj)
  rw [if_pos (by omega), h3, Option.bind_some]
  show (if _ then _ else none) = _
  rw [er, hg, if_pos (by simp; omega)]
  have := ih (j + 1) (by omega) (by omega)
  rw [take_rd hj] at this
  exact this
  rw [if_neg (by omega), List.take_of_length_le (by omega)]
theorem p_form {f : MpT} (hK : 1073741824 ≤ K) (hf : VF ds f) : g_impl_sum_form K f = some (f, 0) := by
 have hl := hf.len
 have hok : okKeys f = true := by
  unfold okKeys
  rw [List.all_eq_true]
  intro p hp
  rw [List.all_eq_true]
  intro x hx
  have hm := hf.mo p hp
  have : ∃ t, x = p.1 t := by
   unfold l8 at hx
   simp only [List.mem_cons, List.not_mem_nil, or_false] at hx
   rcases hx with h | h | h | h | h | h | h | h <;> exact ⟨_, h⟩
  obtain ⟨t, rfl⟩ := this
  have h1 := hm.lo t
  have h2 := hm.hi t
  simp; omega
 have := form_l0 hK hf K 0 (by omega) (by omega)
 unfold g_impl_sum_form g_impl_sum_powers
 replace this : g_impl_sum_form_l0 K f (f.map Prod.fst) K 0 [] = some (.go f) := this
 rw [if_neg (by omega), if_pos ⟨hok, by omega, by omega⟩, Option.bind_some, this]; rfl
end
/-- a sum over terms -/
def lin (h : A8 → Int) : List (A8 × Int) → Int
 | [] => 0
 | t :: ts => t.2 * h t.1 + lin h ts
theorem lin_app (h : A8 → Int) : ∀ xs ys : List (A8 × Int), lin h (xs ++ ys) = lin h xs + lin h ys
 | [], ys => by simp [lin]
 | x :: xs, ys => by simp only [List.cons_append, lin, lin_app h xs ys]; omega
theorem lin_perm (h : A8 → Int) {xs ys : List (A8 × Int)} (p : xs.Perm ys) : lin h xs = lin h ys := by
 induction p with
 | nil => rfl
 | cons x _ ih => simp only [lin, ih]
 | swap x y l => simp only [lin]; omega
 | trans _ _ h1 h2 => exact h1.trans h2
theorem lin_scl (h : A8 → Int) (c : Int) : ∀ T, lin h (scl c T) = c * lin h T
 | [] => by simp [scl, lin]
 | t :: T => by
  have ih := lin_scl h c T
  unfold scl at ih ⊢
  rw [List.map_cons, lin, lin, ih, Int.mul_add, Int.mul_assoc]
theorem lin_mdel (h : A8 → Int) (p : A8) : ∀ s : MpT, lin h s = lin h (mdel s p) + cf p s * h p
 | [] => by simp [lin, mdel, cf]
 | t :: s => by
  have ih := lin_mdel h p s
  unfold mdel at ih ⊢
  rw [List.filter_cons]
  by_cases e : t.1 = p
  have e8 : eq8 p t.1 = true := eq8_iff.2 e.symm
  rw [e8, cf, if_pos e, Int.add_mul, lin, ih, e]
  simp only [Bool.not_true, Bool.false_eq_true, if_false]
  omega
  have e8 : eq8 p t.1 = false := by
   cases hq : eq8 p t.1 with
   | false => rfl
   | true => exact absurd (eq8_iff.1 hq).symm e
  rw [e8, cf, if_neg e, Int.zero_add]
  simp only [Bool.not_false, if_true, lin]
  rw [ih]; omega
theorem lin_madd {s : MpT} (hs : nfm s = true) (h : A8 → Int) (p : A8) (x : Int) : lin h (madd s p x) % 10007 = (lin h s + x * h p) % 10007 := by
 have h1 := lin_mdel h p s
 have h2 := cf_srt p (nfm_srt hs)
 have h3 : ((mget s p + x) % 10007) * h p = cf p s * h p + x * h p - 10007 * (((mget s p + x) / 10007) * h p) := by
  have e : (mget s p + x) % 10007 = (mget s p + x) - 10007 * ((mget s p + x) / 10007) := by omega
  rw [e, Int.sub_mul, Int.add_mul, h2, Int.mul_assoc]
 unfold madd
 split
 rename_i h0
 rw [h0, Int.zero_mul] at h3
 omega
 unfold mput
 rw [lin_perm h (ins_perm _ _), lin]
 dsimp only
 omega
theorem lin_runM (h : A8 → Int) : ∀ (T : List (A8 × Int)) {s : MpT}, nfm s = true → lin h (runM T s) % 10007 = (lin h s + lin h T) % 10007
 | [], s, _ => by simp [runM, lin]
 | t :: T, s, hs => by
  have h1 := lin_runM h T (nfm_madd hs t.1 t.2)
  have h2 := lin_madd hs h t.1 t.2
  rw [runM, h1, lin]
  omega
theorem lin_run0 (h : A8 → Int) (T : List (A8 × Int)) : lin h (runM T []) % 10007 = lin h T % 10007 := by
 have := lin_runM h T nfm_nil
 rwa [show lin h [] = 0 from rfl, Int.zero_add] at this
theorem cf_run0 (a : A8) (T : List (A8 × Int)) : cf a (runM T []) % 10007 = cf a T % 10007 := by
 rw [← cf_srt a (nfm_srt (nfm_runM T nfm_nil)), mget_runM a T nfm_nil]
 show (0 + cf a T) % 10007 % 10007 = _
 omega
theorem runM_run (T : List (A8 × Int)) {s : MpT} (hs : nfm s = true) : runM (runM T []) s = runM T s := by
 refine runM_ext hs hs (fun a => ?_)
 have := cf_run0 a T
 omega
/-- the product as a normal sum -/
def mulN (ds : List Int) (s t : MpT) : MpT := runM (mulT ds s t) []
theorem mulN_nf (ds : List Int) (s t : MpT) : nfm (mulN ds s t) = true := nfm_runM _ nfm_nil
theorem cf_mulT1 (ds : List Int) (a : A8) (z : TermT) : ∀ G, cf a (mulT1 ds z G) = z.2 * cf a (mulT1 ds (z.1, 1) G)
 | [] => by simp [mulT1, cf]
 | q :: G => by
  have ih := cf_mulT1 ds a z G
  unfold mulT1 at ih ⊢
  rw [List.filterMap_cons, List.filterMap_cons]
  dsimp only
  by_cases e : (pmul ds z.1 q.1).2 = 0
  rw [if_pos e, if_pos e]; exact ih
  rw [if_neg e, if_neg e]
  dsimp only
  rw [cf, cf, ih]
  dsimp only
  by_cases e2 : (pmul ds z.1 q.1).1 = a
  rw [if_pos e2, if_pos e2, Int.mul_add, Int.mul_one, Int.mul_comm (pmul ds z.1 q.1).2 z.2, Int.mul_assoc z.2]
  rw [if_neg e2, if_neg e2, Int.mul_add, Int.mul_zero]
theorem cf_mulT (ds : List Int) (a : A8) (G : MpT) : ∀ S, cf a (mulT ds S G) = lin (fun p => cf a (mulT1 ds (p, 1) G)) S
 | [] => rfl
 | z :: S => by
  show cf a (mulT1 ds z G ++ mulT ds S G) = _
  rw [cf_app, cf_mulT1, cf_mulT ds a G S]; rfl
/-- multiples of a factor -/
theorem mulN_scl (ds : List Int) (c : Int) (S G : MpT) : mulN ds (runM (scl c S) []) G = runM (scl c (mulN ds S G)) [] := by
 refine runM_ext nfm_nil nfm_nil (fun a => ?_)
 have h1 := lin_run0 (fun p => cf a (mulT1 ds (p, 1) G)) (scl c S)
 have h2 := cf_run0 a (mulT ds S G)
 rw [lin_scl] at h1
 rw [cf_mulT] at h2
 rw [cf_mulT, cf_scl]
 show (0 + _) % 10007 = (0 + c * cf a (runM (mulT ds S G) [])) % 10007
 rw [Int.zero_add, Int.zero_add, h1, Int.mul_emod, ← h2, ← Int.mul_emod]
/-! how many monomials there are -/
def cd : List Int → Int
 | [] => 0
 | x :: xs => x * 14 ^ xs.length + cd xs
theorem pow_pos14 (n : Nat) : (0 : Int) < 14 ^ n := Int.pow_pos (by decide)
theorem cd_bound : ∀ xs : List Int, (∀ x, x ∈ xs → 0 ≤ x ∧ x ≤ 13) → 0 ≤ cd xs ∧ cd xs < 14 ^ xs.length
 | [], _ => by simp [cd]
 | x :: xs, h => by
  have hx := h x (List.mem_cons_self ..)
  have ih := cd_bound xs (fun y hy => h y (List.mem_cons_of_mem _ hy))
  have hp := pow_pos14 xs.length
  have h1 : 0 ≤ x * 14 ^ xs.length := Int.mul_nonneg hx.1 (Int.le_of_lt hp)
  have h2 : x * 14 ^ xs.length ≤ 13 * 14 ^ xs.length := Int.mul_le_mul_of_nonneg_right hx.2 (Int.le_of_lt hp)
  rw [cd, List.length_cons, Int.pow_succ]
  omega
theorem cd_lt : ∀ xs ys : List Int, xs.length = ys.length → (∀ x, x ∈ xs → 0 ≤ x ∧ x ≤ 13) → (∀ x, x ∈ ys → 0 ≤ x ∧ x ≤ 13) → befL xs ys = true → cd ys < cd xs
 | [], [], _, _, _, h => by simp [befL] at h
 | x :: xs, y :: ys, hl, hx, hy, h => by
  have hl : xs.length = ys.length := by simpa using hl
  have b1 := cd_bound xs (fun z hz => hx z (List.mem_cons_of_mem _ hz))
  have b2 := cd_bound ys (fun z hz => hy z (List.mem_cons_of_mem _ hz))
  rw [befL] at h
  rw [cd, cd, hl]
  by_cases e : x = y
  rw [if_pos e] at h
  have := cd_lt xs ys hl (fun z hz => hx z (List.mem_cons_of_mem _ hz)) (fun z hz => hy z (List.mem_cons_of_mem _ hz)) h
  rw [e]; omega
  rw [if_neg e] at h
  have h := of_decide_eq_true h
  have hp := pow_pos14 ys.length
  have h1 : (y + 1) * 14 ^ ys.length ≤ x * 14 ^ ys.length := Int.mul_le_mul_of_nonneg_right (by omega) (Int.le_of_lt hp)
  rw [Int.add_mul, Int.one_mul] at h1
  omega
theorem desc_len {α : Type} {g : α → Int} : ∀ (s : List α) (N : Int), s.Pairwise (fun p q => g q < g p) → (∀ t, t ∈ s → 0 ≤ g t ∧ g t < N) → 0 ≤ N → (s.length : Int) ≤ N
 | [], N, _, _, h0 => by simpa using h0
 | t :: s, N, hp, hb, _ => by
  have hp := List.pairwise_cons.1 hp
  have ht := hb t (List.mem_cons_self ..)
  have := desc_len s (g t) hp.2 (fun u hu => ⟨(hb u (List.mem_cons_of_mem _ hu)).1, hp.1 u hu⟩) ht.1
  rw [List.length_cons]; omega
theorem l8_bnd {ds : List Int} {m : A8} (h : Mo 13 ds m) : ∀ x, x ∈ l8 m → 0 ≤ x ∧ x ≤ 13 := by
 intro x hx
 have : ∃ t, x = m t := by
  unfold l8 at hx
  simp only [List.mem_cons, List.not_mem_nil, or_false] at hx
  rcases hx with h | h | h | h | h | h | h | h <;> exact ⟨_, h⟩
 obtain ⟨t, rfl⟩ := this
 exact ⟨h.lo t, h.hi t⟩
theorem mo_len {ds : List Int} {s : MpT} (hs : nfm s = true) (hm : MoL 13 ds s) : s.length ≤ 1475789056 := by
 have h1 : s.Pairwise (fun p q => cd (l8 q.1) < cd (l8 p.1)) := by
  refine List.Pairwise.imp_of_mem (fun {p q} hp hq hb => ?_) (nfm_srt hs)
  exact cd_lt _ _ rfl (l8_bnd (hm p hp)) (l8_bnd (hm q hq)) hb
 have h2 := desc_len (g := fun t : A8 × Int => cd (l8 t.1)) s 1475789056 h1 (fun t ht => ?_) (by decide)
 omega
 have := cd_bound (l8 t.1) (l8_bnd (hm t ht))
 have e : (14 : Int) ^ (l8 t.1).length = 1475789056 := by show (14 : Int) ^ 8 = _; decide
 rw [e] at this; exact this
theorem wtN_add (ds : List Int) (p q : A8) : ∀ n, wtN ds (addA p q) n = wtN ds p n + wtN ds q n
 | 0 => rfl
 | n + 1 => by rw [wtN, wtN, wtN, wtN_add ds p q n, idx_add, Int.mul_add]; omega
theorem wt_zero (ds : List Int) : ∀ n, wtN ds (fun _ => 0) n = 0
 | 0 => rfl
 | n + 1 => by rw [wtN, wt_zero ds n]; simp [idx8]
theorem wtN_part {ds : List Int} {m : A8} (hd : okD ds = true) (lo : ∀ i, 0 ≤ m i) : ∀ n : Nat, n ≤ ds.length → 0 ≤ wtN ds m n ∧ ∀ j, j < n → idx8 m (j : Int) ≤ wtN ds m n
 | 0, _ => ⟨by simp [wtN], fun j hj => by omega⟩
 | n + 1, h => by
  obtain ⟨h1, h2⟩ := wtN_part hd lo n (by omega)
  have hn := okD_pos hd _ (rd_mem (show n < ds.length by omega))
  have hi : 0 ≤ idx8 m (n : Int) := by
   by_cases h8 : n < 8
   rw [idx_nat m h8]; exact lo _
   have := okD_len hd; omega
  have h3 : 1 * idx8 m (n : Int) ≤ rd ds (n : Int) * idx8 m (n : Int) := Int.mul_le_mul_of_nonneg_right hn.1 hi
  rw [Int.one_mul] at h3
  rw [wtN]
  refine ⟨by omega, fun j hj => ?_⟩
  by_cases e : j = n
  subst e; omega
  have := h2 j (by omega); omega
theorem mo_small {ds : List Int} {B : Int} {m : A8} (hd : okD ds = true) (hm : Mo B ds m) (hw : wt ds m ≤ 13) : Mo 13 ds m := by
 refine ⟨hm.lo, fun i => ?_, hm.odd, hm.out⟩
 by_cases h : i.val < ds.length
 have := (wtN_part hd hm.lo ds.length (Nat.le_refl _)).2 i.val h
 rw [idx_nat m i.isLt] at this
 unfold wt at hw
 exact Int.le_trans this hw
 rw [hm.out i (by omega)]; decide
/-- a normal sum, homogeneous of small degree -/
structure Hm (u : Int) (ds : List Int) (s : MpT) : Prop where
 nf : nfm s = true
 mo : MoL 13 ds s
 w : ∀ t, t ∈ s → wt ds t.1 = u
theorem Hm.len {u : Int} {ds : List Int} {s : MpT} (h : Hm u ds s) : s.length ≤ 1475789056 := mo_len h.nf h.mo
theorem Hm.nil (u : Int) (ds : List Int) : Hm u ds [] := ⟨nfm_nil, fun t ht => (by cases ht), fun t ht => (by cases ht)⟩
theorem Hm.vf {u : Int} {ds : List Int} {s : MpT} (h : Hm u ds s) (hl : s.length ≤ 400) : VF ds s :=
 ⟨h.nf, fun t ht => ⟨(h.mo t ht).lo, fun i => Int.le_trans ((h.mo t ht).hi i) (by decide), (h.mo t ht).odd, (h.mo t ht).out⟩, hl⟩
theorem vf_hm {u : Int} {ds : List Int} {f : MpT} (hd : okD ds = true) (hf : VF ds f) (hw : ∀ t, t ∈ f → wt ds t.1 = u) (hu : u ≤ 13) : Hm u ds f :=
 ⟨hf.nf, fun t ht => mo_small hd (hf.mo t ht) (by rw [hw t ht]; exact hu), hw⟩
section
variable {K : Nat} {ds : List Int}
theorem mul_key {u v : Int} {p q : A8} (hd : okD ds = true) (huv : u + v ≤ 13) (hp : Mo 13 ds p) (hq : Mo 13 ds q) (hpw : wt ds p = u) (hqw : wt ds q = v) (hn : (pmul ds p q).2 ≠ 0) :
 Mo 13 ds (pmul ds p q).1 ∧ wt ds (pmul ds p q).1 = u + v := by
 have hw : wt ds (pmul ds p q).1 = u + v := by
  rw [(pmul_nz hn).1]
  unfold wt at hpw hqw ⊢
  rw [wtN_add, hpw, hqw]
 exact ⟨mo_small hd (hp.mul hq hn) (by omega), hw⟩
theorem mulT1_hm {u v : Int} {z : TermT} {G : MpT} (hd : okD ds = true) (huv : u + v ≤ 13) (hz : Mo 13 ds z.1) (hzw : wt ds z.1 = u) (hG : Hm v ds G) : ∀ r, r ∈ mulT1 ds z G → Mo 13 ds r.1 ∧ wt ds r.1 = u + v := by
 intro r hr
 obtain ⟨q, hq, hn, e⟩ := mulT1_keys r hr
 rw [e]
 exact mul_key hd huv hz (hG.mo q hq) hzw (hG.w q hq) hn
theorem mulT_hm {u v : Int} {S G : MpT} (hd : okD ds = true) (huv : u + v ≤ 13) (hS : Hm u ds S) (hG : Hm v ds G) : ∀ r, r ∈ mulT ds S G → Mo 13 ds r.1 ∧ wt ds r.1 = u + v := by
 intro r hr
 obtain ⟨z, hz, hr⟩ := List.mem_flatMap.1 hr
 exact mulT1_hm hd huv (hS.mo z hz) (hS.w z hz) hG r hr
theorem run_hm {u : Int} {T s : MpT} (hT : ∀ r, r ∈ T → Mo 13 ds r.1 ∧ wt ds r.1 = u) (hs : Hm u ds s) : Hm u ds (runM T s) := by
 refine ⟨nfm_runM _ hs.nf, fun q hq => ?_, fun q hq => ?_⟩
 rcases runM_keys hq with ⟨t, ht, e⟩ | ⟨t, ht, e⟩
 rw [← e]; exact (hT t ht).1
 rw [← e]; exact hs.mo t ht
 rcases runM_keys hq with ⟨t, ht, e⟩ | ⟨t, ht, e⟩
 rw [← e]; exact (hT t ht).2
 rw [← e]; exact hs.w t ht
theorem mulN_hm {u v : Int} {S G : MpT} (hd : okD ds = true) (huv : u + v ≤ 13) (hS : Hm u ds S) (hG : Hm v ds G) : Hm (u + v) ds (mulN ds S G) := run_hm (mulT_hm hd huv hS hG) (Hm.nil _ _)
theorem timesH_loop {u v : Int} {f g : MpT} (hK : 1099511627776 ≤ K) (hd : okD ds = true) (huv : u + v ≤ 13) (hf : Hm u ds f) (hg : Hm v ds g) :
 ∀ (k i : Nat) (acc : MpT), f.length < i + k → i ≤ f.length → Hm (u + v) ds acc → g_spec_l01Times_l0 K ds f g k i acc = some (.go (runM (mulT ds (f.drop i) g) acc)) := by
 intro k
 induction k with
 | zero => intro i acc h1 h2; omega
 | succ k ih =>
  intro i acc h1 h2 ha
  rw [g_spec_l01Times_l0]
  by_cases hi : i < f.length
  have hz := hf.mo _ (rd_mem hi)
  have hz2 := nfm_small hf.nf _ (rd_mem hi)
  have hgl := hg.len
  have hal := ha.len
  have hsl : (shf ds ((rd f (i : Int)).1, (rd f (i : Int)).2) g).length ≤ g.length := shf_len _ g
  have ha2 := run_hm (mulT1_hm (z := rd f (i : Int)) hd huv hz (hf.w _ (rd_mem hi)) hg) ha
  rw [if_pos (by omega), p_shift (B := 13) (C := 13) (z := ((rd f (i : Int)).1, (rd f (i : Int)).2)) (by omega) hd hz hz2 (by decide) hg.mo (nfm_small hg.nf) (by omega) (by omega), Option.bind_some,
   p_add (by omega) (by omega) (by omega) (nfm_small ha.nf) shf_small (by omega) (by omega), Option.bind_some, mrg_run ha.nf (shf_srt (nfm_srt hg.nf)), run_shf]
  have := ih (i + 1) (runM (mulT1 ds (rd f (i : Int)) g) acc) (by omega) (by omega) ha2
  refine Eq.trans this ?_
  rw [drop_rd hi]
  show _ = some (Ex.go (runM (mulT1 ds (rd f (i : Int)) g ++ mulT ds (f.drop (i + 1)) g) acc))
  rw [runM_app]
  rw [if_neg (by omega), List.drop_eq_nil_of_le (by omega)]; rfl
theorem p_timesH {u v : Int} {f g : MpT} (hK : 1099511627776 ≤ K) (hd : okD ds = true) (huv : u + v ≤ 13) (hf : Hm u ds f) (hg : Hm v ds g) : g_spec_l01Times K ds f g = some (mulN ds f g) := by
 have hl := hf.len
 have := timesH_loop (K := K) hK hd huv hf hg K 0 [] (by omega) (by omega) (Hm.nil _ _)
 unfold g_spec_l01Times
 replace this : g_spec_l01Times_l0 K ds f g K 0 [] = some (.go (mulN ds f g)) := this
 rw [this]; rfl
theorem p_stimesH {u v : Int} {f g : MpT} (hK : 1099511627776 ≤ K) (hd : okD ds = true) (hf : Hm u ds f) (hg : Hm v ds g) : g_impl_sum_times K f ds g = some (mulN ds f g) := by
 have hl := hf.len
 have hl2 := hg.len
 exact p_stimes (B := 13) (C := 13) (by omega) hd (by decide) (by decide) (by decide) hf.mo (nfm_small hf.nf) hg.mo (nfm_small hg.nf) (by omega) (by omega)
/-! powers -/
def pwL (ds : List Int) (g : MpT) : Nat → MpT
 | 0 => [((fun _ => 0), 1)]
 | n + 1 => mulN ds (pwL ds g n) g
theorem one_hm {c : Int} (hc : 1 ≤ c ∧ c ≤ 10006) : Hm 0 ds [((fun _ => 0), c)] := by
 refine ⟨nfm_mk (List.pairwise_singleton _ _) (fun q hq => ?_), fun t ht => ?_, fun t ht => ?_⟩
 cases List.mem_singleton.1 hq; exact hc
 cases List.mem_singleton.1 ht; exact ⟨fun _ => (show (0 : Int) ≤ 0 by decide), fun _ => (show (0 : Int) ≤ 13 by decide), fun n _ _ => by simp [idx8], fun _ _ => rfl⟩
 cases List.mem_singleton.1 ht; exact wt_zero ds _
theorem pwL_hm {v : Int} {g : MpT} (hd : okD ds = true) (hv : 0 ≤ v) (hg : Hm v ds g) : ∀ n : Nat, (n : Int) * v ≤ 13 → Hm ((n : Int) * v) ds (pwL ds g n)
 | 0, _ => by rw [show ((0 : Nat) : Int) * v = 0 by simp]; exact one_hm (by decide)
 | n + 1, h => by
  have e : ((n + 1 : Nat) : Int) * v = (n : Int) * v + v := by rw [Int.natCast_add, Int.add_mul]; simp
  rw [e] at h ⊢
  exact mulN_hm hd h (pwL_hm hd hv hg n (by omega)) hg
theorem powerH_loop {v : Int} {g : MpT} (hK : 1099511627776 ≤ K) (hd : okD ds = true) (hv : 0 ≤ v) (hg : Hm v ds g) : ∀ (k x e : Nat), x < k → x ≤ 255 → ((e + x : Nat) : Int) * v ≤ 13 →
 g_spec_l04Power_l0 K ds g k x (pwL ds g e) = some (.go (pwL ds g (e + x))) := by
 intro k
 induction k with
 | zero => intro x e h; omega
 | succ k ih =>
  intro x e h1 h2 h3
  rw [g_spec_l04Power_l0]
  by_cases hx : 0 < x
  have h4 : ((e : Nat) : Int) * v ≤ ((e + x : Nat) : Int) * v := Int.mul_le_mul_of_nonneg_right (by omega) hv
  have h5 : ((e + 1 : Nat) : Int) * v ≤ ((e + x : Nat) : Int) * v := Int.mul_le_mul_of_nonneg_right (by omega) hv
  have e1 : ((e + 1 : Nat) : Int) * v = (e : Int) * v + v := by rw [Int.natCast_add, Int.add_mul]; simp
  rw [if_pos (by omega), p_timesH hK hd (by omega) (pwL_hm hd hv hg e (by omega)) hg, Option.bind_some, wrap8 (by omega)]
  have := ih (x - 1) (e + 1) (by omega) (by omega) (by rw [show e + 1 + (x - 1) = e + x by omega]; exact h3)
  rw [show e + 1 + (x - 1) = e + x by omega] at this
  rw [show (x : Int) - 1 = ((x - 1 : Nat) : Int) by omega]
  exact this
  rw [if_neg (by omega), show x = 0 by omega]; rfl
theorem p_powerH {v : Int} {g : MpT} {e : Nat} (hK : 1099511627776 ≤ K) (hd : okD ds = true) (hv : 0 ≤ v) (hg : Hm v ds g) (he : e ≤ 255) (h : (e : Int) * v ≤ 13) : g_spec_l04Power K ds g e = some (pwL ds g e) := by
 have := powerH_loop (K := K) hK hd hv hg K e 0 (by omega) he (by rw [Nat.zero_add]; exact h)
 rw [Nat.zero_add] at this
 unfold g_spec_l04Power
 rw [p_single, Option.bind_some]
 replace this : g_spec_l04Power_l0 K ds g K e [((fun _ => 0), 1)] = _ := this
 rw [this]; rfl
theorem pwN_eq {v : Int} {fr : List Int} {ms : List MpT} {j : Nat} (hK : 1099511627776 ≤ K) (hd : okD ds = true) (hv : 0 ≤ v) (hj : j < ms.length) (hg : Hm v ds (rd ms (j : Int))) :
 ∀ n : Nat, (n : Int) * v ≤ 13 → pwN K (fr, ds, ms) j n = some (pwL ds (rd ms (j : Int)) n)
 | 0, _ => by
  rw [pwN]
  show some (mput ([] : MpT) (fun _ => 0) 1) = _
  rfl
 | n + 1, h => by
  have e : ((n + 1 : Nat) : Int) * v = (n : Int) * v + v := by rw [Int.natCast_add, Int.add_mul]; simp
  rw [e] at h
  rw [pwN, if_pos ⟨by omega, by exact Int.ofNat_lt.2 hj⟩, pwN_eq hK hd hv hj hg n (by omega), Option.bind_some]
  exact p_stimesH hK hd (pwL_hm hd hv hg n (by omega)) hg
/-! where a monomial is led -/
def prT (ds : List Int) (ms : List MpT) (m : A8) (c : Int) : Nat → MpT
 | 0 => [((fun _ => 0), c)]
 | j + 1 => if 0 < idx8 m (j : Int) then mulN ds (prT ds ms m c j) (pwL ds (rd ms (j : Int)) (idx8 m (j : Int)).toNat) else prT ds ms m c j
/-- forms for generators, each of its degree -/
structure Lds (sd ds : List Int) (ms : List MpT) : Prop where
 src : okD sd = true
 dst : okD ds = true
 len : ms.length = sd.length
 hm : ∀ j, j < ms.length → Hm (rd sd (j : Int)) ds (rd ms (j : Int))
variable {sd : List Int} {ms : List MpT}
theorem part_le {m : A8} (hd : okD sd = true) (lo : ∀ i, 0 ≤ m i) (hw : wt sd m ≤ 13) : ∀ n, n ≤ sd.length → wtN sd m n ≤ 13 := by
 have key : ∀ d n, n + d = sd.length → wtN sd m n ≤ wt sd m := by
  intro d
  induction d with
  | zero => intro n h; rw [show n = sd.length by omega]; exact Int.le_refl _
  | succ d ih =>
   intro n h
   have h1 := ih (n + 1) (by omega)
   have hn := okD_pos hd _ (rd_mem (show n < sd.length by omega))
   have hl := okD_len hd
   have hi : 0 ≤ idx8 m (n : Int) := by rw [idx_nat m (show n < 8 by omega)]; exact lo _
   have := Int.mul_nonneg (show 0 ≤ rd sd (n : Int) by omega) hi
   rw [wtN] at h1; omega
 intro n hn
 exact Int.le_trans (key (sd.length - n) n (by omega)) hw
theorem step_w {m : A8} {j : Nat} (hL : Lds sd ds ms) (lo : ∀ i, 0 ≤ m i) (hw : wt sd m ≤ 13) (hj : j < sd.length) :
 0 ≤ rd sd (j : Int) ∧ 0 ≤ idx8 m (j : Int) ∧ idx8 m (j : Int) ≤ 13 ∧ (((idx8 m (j : Int)).toNat : Nat) : Int) * rd sd (j : Int) ≤ 13 ∧ wtN sd m j + (((idx8 m (j : Int)).toNat : Nat) : Int) * rd sd (j : Int) = wtN sd m (j + 1) ∧ wtN sd m (j + 1) ≤ 13 := by
 have hl := okD_len hL.src
 have h1 := part_le hL.src lo hw (j + 1) (by omega)
 have hn := okD_pos hL.src _ (rd_mem hj)
 have hi : 0 ≤ idx8 m (j : Int) := by rw [idx_nat m (show j < 8 by omega)]; exact lo _
 have h2 := wtN_part hL.src lo j (by omega)
 have h3 := (wtN_part hL.src lo (j + 1) (by omega)).2 j (by omega)
 have e : wtN sd m j + (((idx8 m (j : Int)).toNat : Nat) : Int) * rd sd (j : Int) = wtN sd m (j + 1) := by
  rw [wtN, Int.toNat_of_nonneg hi, Int.mul_comm]
 exact ⟨by omega, hi, by omega, by omega, e, h1⟩
theorem prT_hm {m : A8} {c : Int} (hL : Lds sd ds ms) (lo : ∀ i, 0 ≤ m i) (hw : wt sd m ≤ 13) (hc : 1 ≤ c ∧ c ≤ 10006) : ∀ j, j ≤ sd.length → Hm (wtN sd m j) ds (prT ds ms m c j)
 | 0, _ => one_hm hc
 | j + 1, h => by
  obtain ⟨h1, h2, h3, h4, h5, h6⟩ := step_w hL lo hw (show j < sd.length by omega)
  have ih := prT_hm hL lo hw hc j (by omega)
  rw [prT]
  split
  rw [← h5]
  exact mulN_hm hL.dst (by omega) ih (pwL_hm hL.dst h1 (hL.hm j (by rw [hL.len]; omega)) _ h4)
  rename_i h0
  have e : idx8 m (j : Int) = 0 := by omega
  rw [wtN, e, Int.mul_zero, Int.add_zero]; exact ih
theorem prT_scl (m : A8) {c : Int} (hc : 1 ≤ c ∧ c ≤ 10006) : ∀ j, prT ds ms m c j = runM (scl c (prT ds ms m 1 j)) []
 | 0 => by
  show [((fun _ => 0), c)] = runM [((fun _ => 0), c * 1)] []
  rw [Int.mul_one]
  exact (runM_self (nfm_mk (List.pairwise_singleton _ _) (fun q hq => by cases List.mem_singleton.1 hq; exact hc))).symm
 | j + 1 => by
  rw [prT, prT]
  split
  rw [prT_scl m hc j, mulN_scl]
  exact prT_scl m hc j
def leadL (ds : List Int) (ms : List MpT) (n : Nat) (f : MpT) : MpT := f.flatMap fun t => prT ds ms t.1 t.2 n
/-- a form that can be led -/
structure Led (sd : List Int) (f : MpT) : Prop where
 lo : ∀ t, t ∈ f → ∀ i, 0 ≤ t.1 i
 w : ∀ t, t ∈ f → wt sd t.1 ≤ 13
 c : ∀ t, t ∈ f → 1 ≤ t.2 ∧ t.2 ≤ 10006
theorem applyH_l1 {f : MpT} {x0 c : Int} (hK : 1099511627776 ≤ K) (hL : Lds sd ds ms) (lo : ∀ i, 0 ≤ (rd f x0).1 i) (hw : wt sd (rd f x0).1 ≤ 13) (hc : 1 ≤ c ∧ c ≤ 10006) :
 ∀ (k j : Nat), ms.length < j + k → j ≤ ms.length → g_spec_l04Apply_l1 K ds ms f x0 k j (prT ds ms (rd f x0).1 c j) = some (.go (prT ds ms (rd f x0).1 c ms.length)) := by
 have hl := okD_len hL.src
 have hml := hL.len
 intro k
 induction k with
 | zero => intro j h1 h2; omega
 | succ k ih =>
  intro j h1 h2
  rw [g_spec_l04Apply_l1]
  by_cases hj : j < ms.length
  obtain ⟨w1, w2, w3, w4, w5, w6⟩ := step_w hL lo hw (show j < sd.length by omega)
  have ih' := ih (j + 1) (by omega) (by omega)
  rw [prT] at ih'
  rw [if_pos (by omega), if_pos (by omega)]
  by_cases h0 : 0 < idx8 (rd f x0).1 (j : Int)
  rw [if_pos h0] at ih' ⊢
  have hpw := p_powerH (K := K) (e := (idx8 (rd f x0).1 (j : Int)).toNat) hK hL.dst w1 (hL.hm j hj) (by omega) w4
  rw [Int.toNat_of_nonneg w2] at hpw
  rw [hpw, Option.bind_some, p_timesH hK hL.dst (by omega) (prT_hm hL lo hw hc j (by omega)) (pwL_hm hL.dst w1 (hL.hm j hj) _ w4), Option.bind_some]
  exact ih'
  rw [if_neg h0] at ih' ⊢
  exact ih'
  rw [if_neg (by omega), show j = ms.length by omega]
theorem leadH_l1 {z : TermT} (hK : 1099511627776 ≤ K) (hL : Lds sd ds ms) (lo : ∀ i, 0 ≤ z.1 i) (hw : wt sd z.1 ≤ 13) :
 ∀ (k j : Nat), sd.length < j + k → j ≤ sd.length → g_impl_leader_lead_l1 K (sd, ds, ms) z k (prT ds ms z.1 1 j) j = some (.go (prT ds ms z.1 1 sd.length)) := by
 have hl := okD_len hL.src
 have hml := hL.len
 intro k
 induction k with
 | zero => intro j h1 h2; omega
 | succ k ih =>
  intro j h1 h2
  rw [g_impl_leader_lead_l1]
  dsimp only
  by_cases hj : j < sd.length
  obtain ⟨w1, w2, w3, w4, w5, w6⟩ := step_w hL lo hw hj
  have ih' := ih (j + 1) (by omega) (by omega)
  rw [prT] at ih'
  rw [if_pos (by omega), if_pos (by omega)]
  by_cases h0 : 0 < idx8 z.1 (j : Int)
  rw [if_pos h0] at ih' ⊢
  have hpw : g_impl_leader_power K (sd, ds, ms) j (idx8 z.1 (j : Int)) = some (pwL ds (rd ms (j : Int)) (idx8 z.1 (j : Int)).toNat) := by
   unfold g_impl_leader_power
   rw [if_pos (by omega)]
   exact pwN_eq hK hL.dst w1 (by omega) (hL.hm j (by omega)) _ w4
  rw [hpw, Option.bind_some, p_stimesH hK hL.dst (prT_hm hL lo hw (by decide) j (by omega)) (pwL_hm hL.dst w1 (hL.hm j (by omega)) _ w4), Option.bind_some]
  exact ih'
  rw [if_neg h0] at ih' ⊢
  exact ih'
  rw [if_neg (by omega), show j = sd.length by omega]
/-- a sum whose monomials are small -/
theorem run_mo13 {T s : MpT} (hT : MoL 13 ds T) (hs : MoL 13 ds s) : MoL 13 ds (runM T s) := by
 intro q hq
 rcases runM_keys hq with ⟨t, ht, e⟩ | ⟨t, ht, e⟩
 rw [← e]; exact hT t ht
 rw [← e]; exact hs t ht
theorem applyH_l0 {f : MpT} (hK : 1099511627776 ≤ K) (hL : Lds sd ds ms) (hf : Led sd f) (hfl : f.length ≤ 1000000) :
 ∀ (k j : Nat) (out : MpT), f.length < j + k → j ≤ f.length → nfm out = true → MoL 13 ds out →
  g_spec_l04Apply_l0 K ds ms f k j out = some (.go (runM (leadL ds ms ms.length (f.drop j)) out)) := by
 have hl := okD_len hL.src
 have hml := hL.len
 intro k
 induction k with
 | zero => intro j out h1 h2; omega
 | succ k ih =>
  intro j out h1 h2 ho hom
  rw [g_spec_l04Apply_l0]
  by_cases hj : j < f.length
  have hm := rd_mem hj
  have hc := hf.c _ hm
  have hs : g_spec_l01Single K (fun _ => 0) (rd f (j : Int)).2 = some (prT ds ms (rd f (j : Int)).1 (rd f (j : Int)).2 0) := by
   unfold g_spec_l01Single
   rw [mod_eq, Option.bind_some, if_neg (by omega), show (rd f (j : Int)).2 % 10007 = (rd f (j : Int)).2 by omega]; rfl
  have hin := applyH_l1 (K := K) (f := f) (x0 := j) hK hL (hf.lo _ hm) (hf.w _ hm) hc K 0 (by omega) (by omega)
  replace hin : g_spec_l04Apply_l1 K ds ms f j K 0 (prT ds ms (rd f (j : Int)).1 (rd f (j : Int)).2 0) = _ := hin
  have hp := prT_hm hL (hf.lo _ hm) (hf.w _ hm) hc ms.length (by omega)
  have hpl := hp.len
  have hol := mo_len ho hom
  rw [if_pos (by omega), hs, Option.bind_some, hin, Option.bind_some]
  show (g_spec_l01Add K out _ 1).bind _ = _
  rw [p_add (by omega) (by omega) (by omega) (nfm_small ho) (nfm_small hp.nf) (by omega) (by omega), Option.bind_some, mrg_run ho (nfm_srt hp.nf)]
  have e1 : scl 1 (prT ds ms (rd f (j : Int)).1 (rd f (j : Int)).2 ms.length) = prT ds ms (rd f (j : Int)).1 (rd f (j : Int)).2 ms.length := by
   unfold scl
   conv => rhs; rw [← List.map_id (prT ds ms (rd f (j : Int)).1 (rd f (j : Int)).2 ms.length)]
   exact List.map_congr_left (fun t _ => by rw [Int.one_mul]; rfl)
  rw [e1]
  have := ih (j + 1) _ (by omega) (by omega) (nfm_runM _ ho) (run_mo13 hp.mo hom)
  refine Eq.trans this ?_
  rw [drop_rd hj]
  show _ = some (Ex.go (runM (prT ds ms (rd f (j : Int)).1 (rd f (j : Int)).2 ms.length ++ leadL ds ms ms.length (f.drop (j + 1))) out))
  rw [runM_app]
  rw [if_neg (by omega), List.drop_eq_nil_of_le (by omega)]; rfl
/-- where forms lead a form -/
def ledF (ds : List Int) (ms : List MpT) (n : Nat) (f : MpT) : MpT := runM (leadL ds ms n f) []
theorem p_applyH {f : MpT} (hK : 1099511627776 ≤ K) (hL : Lds sd ds ms) (hf : Led sd f) (hfl : f.length ≤ 1000000) : g_spec_l04Apply K ds ms f = some (ledF ds ms sd.length f) := by
 have := applyH_l0 (K := K) hK hL hf hfl K 0 [] (by omega) (by omega) nfm_nil (fun t ht => by cases ht)
 rw [hL.len] at this
 unfold g_spec_l04Apply
 replace this : g_spec_l04Apply_l0 K ds ms f K 0 [] = some (.go (ledF ds ms sd.length f)) := this
 rw [this]; rfl
theorem leadH_l0 (hK : 1099511627776 ≤ K) (hL : Lds sd ds ms) :
 ∀ (k : Nat) (f out : MpT), f.length < k → Led sd f → nfm out = true → MoL 13 ds out → g_impl_leader_lead_l0 K (sd, ds, ms) k f out = some (.go (runM (leadL ds ms sd.length f) out))
 | 0, _, _, h, _, _, _ => by omega
 | k + 1, [], out, _, _, _, _ => by rw [g_impl_leader_lead_l0]; rfl
 | k + 1, z :: f, out, h, hf, ho, hom => by
  have hl := okD_len hL.src
  have hm : z ∈ z :: f := List.mem_cons_self ..
  have hc := hf.c _ hm
  have hin := leadH_l1 (K := K) hK hL (hf.lo _ hm) (hf.w _ hm) K 0 (by omega) (by omega)
  replace hin : g_impl_leader_lead_l1 K (sd, ds, ms) z K (mput ([] : MpT) (fun _ => 0) 1) 0 = _ := hin
  have hp1 := prT_hm hL (hf.lo _ hm) (hf.w _ hm) (show 1 ≤ (1 : Int) ∧ (1 : Int) ≤ 10006 by decide) sd.length (Nat.le_refl _)
  have hp := prT_hm hL (hf.lo _ hm) (hf.w _ hm) hc sd.length (Nat.le_refl _)
  have hpl := hp1.len
  have e1 : runM (scl z.2 (prT ds ms z.1 1 sd.length)) out = runM (prT ds ms z.1 z.2 sd.length) out := by rw [prT_scl z.1 hc, runM_run _ ho]
  rw [List.length_cons] at h
  rw [g_impl_leader_lead_l0]
  show ((g_impl_leader_lead_l1 K (sd, ds, ms) z K (mput ([] : MpT) (fun _ => 0) 1) 0).bind _) = _
  rw [hin, Option.bind_some]
  show (g_impl_sum_addAll K out (prT ds ms z.1 1 sd.length) z.2).bind _ = _
  rw [p_addAll (by omega) (by omega) (nfm_small hp1.nf) ho, Option.bind_some, e1,
   leadH_l0 hK hL k f _ (by omega) ⟨fun t ht => hf.lo t (List.mem_cons_of_mem _ ht), fun t ht => hf.w t (List.mem_cons_of_mem _ ht), fun t ht => hf.c t (List.mem_cons_of_mem _ ht)⟩ (nfm_runM _ ho) (run_mo13 hp.mo hom), ← runM_app]
  rfl
theorem p_leadH {f : MpT} (hK : 1099511627776 ≤ K) (hL : Lds sd ds ms) (hf : Led sd f) (hfl : f.length ≤ 1000000) : g_impl_leader_lead K (sd, ds, ms) f = some (ledF ds ms sd.length f) := by
 have := leadH_l0 (K := K) hK hL K f [] (by omega) hf nfm_nil (fun t ht => by cases ht)
 unfold g_impl_leader_lead
 replace this : g_impl_leader_lead_l0 K (sd, ds, ms) K f [] = some (.go (ledF ds ms sd.length f)) := this
 rw [this]; rfl
theorem hm_led {u : Int} {f : MpT} (h : Hm u sd f) (hu : u ≤ 13) : Led sd f := ⟨fun t ht => (h.mo t ht).lo, fun t ht => by rw [h.w t ht]; exact hu, fun t ht => nfm_val h.nf t ht⟩
theorem ledF_hm {u : Int} {f : MpT} (hL : Lds sd ds ms) (hf : Hm u sd f) (hu : u ≤ 13) : Hm u ds (ledF ds ms sd.length f) := by
 refine run_hm (fun r hr => ?_) (Hm.nil _ _)
 obtain ⟨t, ht, hr⟩ := List.mem_flatMap.1 hr
 have hl := hm_led hf hu
 have hp := prT_hm hL (hl.lo t ht) (hl.w t ht) (hl.c t ht) sd.length (Nat.le_refl _)
 have e : wtN sd t.1 sd.length = u := hf.w t ht
 rw [e] at hp
 exact ⟨hp.mo r hr, hp.w r hr⟩
end
section
variable {K : Nat} {ds : List Int}
theorem p_formH {u : Int} {f : MpT} (hK : 1099511627776 ≤ K) (hf : Hm u ds f) : g_impl_sum_form K f = some (if 400 < f.length then ([], 3) else (f, 0)) := by
 by_cases h : 400 < f.length
 unfold g_impl_sum_form
 rw [if_pos (by omega), if_pos h]
 rw [if_neg h, p_form (by omega) (hf.vf (by omega))]
theorem p_isH {u : Int} {f : MpT} (hK : 1099511627776 ≤ K) (hd : okD ds = true) (hf : Hm u ds f) : g_spec_l01Is K ds f = some (decide (f.length ≤ 400)) := by
 have hl := hf.len
 rw [p_isS (by omega) (by omega) (by omega) hd (fun t ht => (hf.mo t ht).byt (by decide))]
 by_cases h : f.length ≤ 400
 rw [vf_okF (hf.vf h), decide_eq_true h]
 unfold okF
 rw [decide_eq_false h, Bool.and_false]
/-! inverses -/
def ivN : Nat → Nat → Nat → Nat → Nat
 | 0, out, _, _ => out
 | n + 1, out, sq, k => ivN n (if k % 2 = 1 then out * sq % 10007 else out) (sq * sq % 10007) (k / 2)
def inv (c : Int) : Int := (ivN 14 1 c.toNat 10005 : Nat)
set_option maxRecDepth 100000 in
theorem ivN_all : (List.range 10007).all (fun c => decide (c = 0) || (decide (1 ≤ ivN 14 1 c 10005) && decide (ivN 14 1 c 10005 ≤ 10006))) = true := by decide +kernel
theorem inv_val {c : Int} (hc : 1 ≤ c ∧ c ≤ 10006) : 1 ≤ inv c ∧ inv c ≤ 10006 := by
 have h := List.all_eq_true.1 ivN_all c.toNat (List.mem_range.2 (by omega))
 rw [Bool.or_eq_true, Bool.and_eq_true] at h
 rcases h with h | ⟨h1, h2⟩
 have := of_decide_eq_true h; omega
 have h1 := of_decide_eq_true h1
 have h2 := of_decide_eq_true h2
 unfold inv; omega
theorem mul_lt {a b : Nat} (ha : a ≤ 10006) (hb : b ≤ 10006) : a * b ≤ 100120036 := Nat.mul_le_mul ha hb
theorem tm_nat (a b : Nat) : (((a : Int) * (b : Int))).tmod 10007 = ((a * b % 10007 : Nat) : Int) := by
 rw [← Int.natCast_mul, Int.tmod_eq_emod_of_nonneg (by omega)]; rfl
theorem td_nat (x : Nat) (h : x ≤ 1000000) : IntKind.i64.wrap ((x : Int).tdiv 2) = ((x / 2 : Nat) : Int) := by
 rw [Int.tdiv_eq_ediv_of_nonneg (by omega)]
 show IntKind.i64.wrap ((x / 2 : Nat) : Int) = _
 exact IntWalk.i64_in _ (by omega)
theorem t2_nat (x : Nat) : ((x : Int).tmod 2 = 1) ↔ x % 2 = 1 := by
 rw [Int.tmod_eq_emod_of_nonneg (by omega)]; omega
theorem w_mul {a b : Nat} (ha : a ≤ 10006) (hb : b ≤ 10006) : IntKind.i64.wrap ((a : Int) * (b : Int)) = (a : Int) * (b : Int) := by
 have := mul_lt ha hb
 exact IntWalk.i64_in _ (by rw [← Int.natCast_mul]; omega)
theorem ivN_zero : ∀ n out sq, ivN n out sq 0 = out
 | 0, _, _ => rfl
 | n + 1, out, sq => by rw [ivN, if_neg (by omega)]; exact ivN_zero n _ _
theorem inverseS_loop : ∀ (n k out sq x : Nat), n < k → x < 2 ^ n → x ≤ 1000000 → out ≤ 10006 → sq ≤ 10006 → g_spec_l01Inverse_l0 K k out sq x = some (.go (ivN n out sq x : Nat))
 | 0, k + 1, out, sq, x, _, h2, _, _, _ => by
  rw [g_spec_l01Inverse_l0, if_neg (by simp at h2; omega)]; rfl
 | n + 1, k + 1, out, sq, x, h1, h2, hx, h3, h4 => by
  have h5 : out * sq % 10007 ≤ 10006 := by omega
  have h6 : sq * sq % 10007 ≤ 10006 := by omega
  have h7 : x / 2 < 2 ^ n := by rw [Nat.pow_succ] at h2; omega
  rw [g_spec_l01Inverse_l0]
  by_cases h0 : 0 < x
  rw [if_pos (by omega), ivN]
  unfold g_spec_l01Inverse_j5
  rw [w_mul h4 h4, w_mul h3 h4, tm_nat, tm_nat, td_nat x hx]
  by_cases ho : x % 2 = 1
  rw [if_pos ((t2_nat x).2 ho), if_pos ho]
  exact inverseS_loop n k _ _ _ (by omega) h7 (by omega) h5 h6
  rw [if_neg (fun h => ho ((t2_nat x).1 h)), if_neg ho]
  exact inverseS_loop n k _ _ _ (by omega) h7 (by omega) h3 h6
  rw [if_neg (by omega), show x = 0 by omega, ivN_zero]
theorem inverseI_loop : ∀ (n k out sq x : Nat), n < k → x < 2 ^ n → x ≤ 1000000 → out ≤ 10006 → sq ≤ 10006 → g_impl_inverse_l0 K k sq out x = some (.go (ivN n out sq x : Nat))
 | 0, k + 1, out, sq, x, _, h2, _, _, _ => by
  rw [g_impl_inverse_l0, if_neg (by simp at h2; omega)]; rfl
 | n + 1, k + 1, out, sq, x, h1, h2, hx, h3, h4 => by
  have h5 : out * sq % 10007 ≤ 10006 := by omega
  have h6 : sq * sq % 10007 ≤ 10006 := by omega
  have h7 : x / 2 < 2 ^ n := by rw [Nat.pow_succ] at h2; omega
  rw [g_impl_inverse_l0]
  by_cases h0 : 0 < x
  rw [if_pos (by omega), ivN]
  unfold g_impl_inverse_j5
  rw [w_mul h4 h4, w_mul h3 h4, tm_nat, tm_nat, td_nat x hx]
  by_cases ho : x % 2 = 1
  rw [if_pos ((t2_nat x).2 ho), if_pos ho]
  exact inverseI_loop n k _ _ _ (by omega) h7 (by omega) h5 h6
  rw [if_neg (fun h => ho ((t2_nat x).1 h)), if_neg ho]
  exact inverseI_loop n k _ _ _ (by omega) h7 (by omega) h3 h6
  rw [if_neg (by omega), show x = 0 by omega, ivN_zero]
theorem p_inverseS {c : Int} (hK : 1099511627776 ≤ K) (hc : 1 ≤ c ∧ c ≤ 10006) : g_spec_l01Inverse K c = some (inv c) := by
 obtain ⟨n, rfl⟩ := Int.eq_ofNat_of_zero_le (show 0 ≤ c by omega)
 have := inverseS_loop (K := K) 14 K 1 n 10005 (by omega) (by decide) (by decide) (by decide) (by omega)
 unfold g_spec_l01Inverse
 replace this : g_spec_l01Inverse_l0 K K 1 n 10005 = _ := this
 rw [this]; rfl
theorem p_inverseI {c : Int} (hK : 1099511627776 ≤ K) (hc : 1 ≤ c ∧ c ≤ 10006) : g_impl_inverse K c = some (inv c) := by
 obtain ⟨n, rfl⟩ := Int.eq_ofNat_of_zero_le (show 0 ≤ c by omega)
 have := inverseI_loop (K := K) 14 K 1 n 10005 (by omega) (by decide) (by decide) (by decide) (by omega)
 unfold g_impl_inverse
 replace this : g_impl_inverse_l0 K K n 1 10005 = _ := this
 rw [this]; rfl
end
/-! lists without some places -/
def gone (gs : List Int) (x : Int) : Bool := gs.any fun y => decide (y = x)
theorem gone_loop {ρ : Type} {gs : List Int} {x : Int} (L : Nat → Bool → Int → Option (Ex ρ Bool))
 (h : ∀ k b (n : Nat), L (k + 1) b n = if (n : Int) < gs.length then (if b = true then L k true ((n : Int) + 1) else L k (decide (rd gs (n : Int) = x)) ((n : Int) + 1)) else some (.go b)) :
 ∀ (k n : Nat) (b : Bool), gs.length < n + k → n ≤ gs.length → L k b n = some (.go (b || gone (gs.drop n) x))
 | 0, n, b, h1, h2 => by omega
 | k + 1, n, b, h1, h2 => by
  rw [h]
  by_cases hn : n < gs.length
  rw [if_pos (by omega)]
  have e : gone (gs.drop n) x = (decide (rd gs (n : Int) = x) || gone (gs.drop (n + 1)) x) := by
   unfold gone
   rw [List.drop_eq_getElem_cons hn, List.any_cons, rd_nat hn]
  have e1 : (n : Int) + 1 = ((n + 1 : Nat) : Int) := rfl
  rw [e, e1]
  by_cases hb : b = true
  rw [if_pos hb, gone_loop L h k (n + 1) true (by omega) (by omega), hb]; rfl
  rw [if_neg hb, gone_loop L h k (n + 1) _ (by omega) (by omega)]
  cases b with
  | true => exact absurd rfl hb
  | false => rfl
  rw [if_neg (by omega), List.drop_eq_nil_of_le (by omega)]
  show _ = some (Ex.go (b || false))
  rw [Bool.or_false]
section
variable {K : Nat} {ds sd : List Int} {ms imgs : List MpT} {gs : List Int}
theorem goneN {x : Int} (hK : gs.length < K) : g_spec_l06Named_l1 K gs x K false 0 = some (.go (gone gs x)) := by
 have := gone_loop (x := x) (g_spec_l06Named_l1 K gs x) (fun k b n => by rw [g_spec_l06Named_l1]) K 0 false (by omega) (by omega)
 exact this
theorem goneI {x : Int} (hK : gs.length < K) : g_spec_l06Images_l1 K gs x K false 0 = some (.go (gone gs x)) := by
 have := gone_loop (x := x) (g_spec_l06Images_l1 K gs x) (fun k b n => by rw [g_spec_l06Images_l1]) K 0 false (by omega) (by omega)
 exact this
/-- the places that stay, below n -/
def stay (gs : List Int) (n : Nat) : List Nat := (List.range n).filter fun j => !gone gs (j : Int)
theorem stay_succ (gs : List Int) (n : Nat) : stay gs (n + 1) = if gone gs (n : Int) = true then stay gs n else stay gs n ++ [n] := by
 unfold stay
 rw [List.range_succ, List.filter_append, List.filter_cons, List.filter_nil]
 split
 rename_i h; rw [Bool.not_eq_true', ] at h; rw [if_neg (by rw [h]; decide)]
 rename_i h; rw [if_pos (by simpa using h), List.append_nil]
theorem stay_len (gs : List Int) (n : Nat) : (stay gs n).length ≤ n := by
 have := List.length_filter_le (fun j : Nat => !gone gs (j : Int)) (List.range n)
 rw [List.length_range] at this; exact this
theorem stay_nil (n : Nat) : stay [] n = List.range n := by
 unfold stay
 exact List.filter_eq_self.2 (fun _ _ => rfl)
/-- the generators as forms, without some -/
def nmG (gs : List Int) (n : Nat) : List MpT := (List.range n).map fun (j : Nat) => if gone gs (j : Int) = true then [] else [(gn (stay gs j).length 1, 1)]
theorem nmG_len (gs : List Int) (n : Nat) : (nmG gs n).length = n := by simp [nmG]
theorem nmG_rd {n j : Nat} (h : j < n) : rd (nmG gs n) (j : Int) = if gone gs (j : Int) = true then [] else [(gn (stay gs j).length 1, 1)] := rd_eq (by simp [nmG, h])
theorem nmG_succ (gs : List Int) (n : Nat) : nmG gs (n + 1) = nmG gs n ++ [if gone gs (n : Int) = true then [] else [(gn (stay gs n).length 1, 1)]] := by
 unfold nmG; rw [List.range_succ, List.map_append]; rfl
theorem named_loop {n : Nat} (hK : gs.length < K) (hn : n ≤ 8) : ∀ (k j : Nat), n < j + k → j ≤ n → g_spec_l06Named_l0 K n gs k j (nmG gs j) ((stay gs j).length : Int) = some (.go (nmG gs n)) := by
 intro k
 induction k with
 | zero => intro j h1 h2; omega
 | succ k ih =>
  intro j h1 h2
  rw [g_spec_l06Named_l0]
  by_cases hj : j < n
  have hs := stay_len gs j
  have hl := nmG_len gs j
  have := ih (j + 1) (by omega) (by omega)
  rw [nmG_succ, stay_succ] at this
  rw [if_pos (by omega), goneN hK, Option.bind_some, IntWalk.i64_in ((j : Int) + 1) (by omega)]
  by_cases e : gone gs (j : Int) = true
  rw [if_pos e, if_pos e] at this
  show (if gone gs (j : Int) = true then _ else _) = _
  rw [if_pos e, if_pos (by simp; omega)]
  exact this
  rw [if_neg e, if_neg e, List.length_append] at this
  show (if gone gs (j : Int) = true then _ else _) = _
  rw [if_neg e, p_generator (by omega), Option.bind_some, if_pos (by simp; omega), IntWalk.i64_in _ (by omega)]
  exact this
  rw [if_neg (by omega), show j = n by omega]
theorem p_namedG {n : Nat} (hK : 1099511627776 ≤ K) (hg : gs.length ≤ 8) (hn : n ≤ 8) : g_spec_l06Named K n gs = some (nmG gs n) := by
 have := named_loop (K := K) (gs := gs) (by omega) hn K 0 (by omega) (by omega)
 unfold g_spec_l06Named
 replace this : g_spec_l06Named_l0 K n gs K 0 [] 0 = some (.go (nmG gs n)) := this
 rw [this]; rfl
/-- the images of those that stay, led -/
def outs (gs : List Int) (ds : List Int) (ms imgs : List MpT) (n j : Nat) : List MpT := (stay gs j).map fun (i : Nat) => ledF ds ms n (rd imgs (i : Int))
/-- an algebra out of degrees and images, if all of these are forms -/
def resI (ds : List Int) (fs : List MpT) : AlgT × Int := if (fs.all fun f => decide (f.length ≤ 400)) = true then ((ds, fs), 0) else (([], []), 3)
theorem all_rd {fs : List MpT} {c : MpT → Bool} : (List.range fs.length).all (fun j => c (rd fs (j : Int))) = fs.all c := by
 rw [Bool.eq_iff_iff, List.all_eq_true, List.all_eq_true]
 constructor
 intro h x hx
 obtain ⟨n, hn, rfl⟩ := List.getElem_of_mem hx
 have := h n (List.mem_range.2 hn)
 rwa [rd_nat hn] at this
 intro h j hj
 exact h _ (rd_mem (List.mem_range.1 hj))
theorem p_all4 {fs : List MpT} (hK : 1099511627776 ≤ K) (hd : okD ds = true) (hl : fs.length ≤ 8) (hf : ∀ f, f ∈ fs → ∃ u, Hm u ds f) : g_spec_l04All K ds fs = some (if (fs.all fun f => decide (f.length ≤ 400)) = true then (fs, 0) else ([], 3)) := by
 unfold g_spec_l04All
 rw [all_loop_ge (g := ()) (fun k x => g_spec_l04All_l0 K ds fs k x) fs.length (fun j => decide ((rd fs (j : Int)).length ≤ 400)) ([], 3) (fun k n hn => ?_) (fun k n hn => ?_) (by omega), all_rd (c := fun f => decide (f.length ≤ 400))]
 by_cases h : (fs.all fun f => decide (f.length ≤ 400)) = true
 rw [if_pos h, if_pos h]; rfl
 rw [if_neg h, if_neg h]; rfl
 obtain ⟨u, hu⟩ := hf _ (rd_mem hn)
 show g_spec_l04All_l0 K ds fs (k + 1) n = _
 rw [g_spec_l04All_l0, if_pos (by omega), p_isH hK hd hu]; rfl
 show g_spec_l04All_l0 K ds fs (k + 1) n = _
 rw [g_spec_l04All_l0, if_neg (by omega)]
theorem imagesG_loop (hK : 1099511627776 ≤ K) (hL : Lds sd ds ms) (hg : gs.length ≤ 8) (hil : imgs.length = sd.length) (hI : ∀ f, f ∈ imgs → Led sd f ∧ f.length ≤ 1000000) : ∀ (k j : Nat), sd.length < j + k → j ≤ sd.length →
 g_spec_l06Images_l0 K (sd, imgs) ds ms gs k j (outs gs ds ms imgs sd.length j) = some (.go (outs gs ds ms imgs sd.length sd.length)) := by
 have hl := okD_len hL.src
 intro k
 induction k with
 | zero => intro j h1 h2; omega
 | succ k ih =>
  intro j h1 h2
  rw [g_spec_l06Images_l0]
  dsimp only
  by_cases hj : j < sd.length
  have hs := stay_len gs j
  have hle : (outs gs ds ms imgs sd.length j).length ≤ 8 := by unfold outs; rw [List.length_map]; omega
  have := ih (j + 1) (by omega) (by omega)
  have ho : outs gs ds ms imgs sd.length (j + 1) = if gone gs (j : Int) = true then outs gs ds ms imgs sd.length j else outs gs ds ms imgs sd.length j ++ [ledF ds ms sd.length (rd imgs (j : Int))] := by
   unfold outs; rw [stay_succ]; split
   rfl
   rw [List.map_append]; rfl
  rw [ho] at this
  rw [if_pos (by omega), goneI (by omega), Option.bind_some]
  by_cases e : gone gs (j : Int) = true
  rw [if_pos e] at this
  show (if gone gs (j : Int) = true then _ else _) = _
  rw [if_pos e]; exact this
  rw [if_neg e] at this
  obtain ⟨i1, i2⟩ := hI _ (rd_mem (show j < imgs.length by omega))
  show (if gone gs (j : Int) = true then _ else _) = _
  rw [if_neg e, if_pos (by omega), p_applyH hK hL i1 i2, Option.bind_some, if_pos (by simp; omega)]; exact this
  rw [if_neg (by omega), show j = sd.length by omega]
theorem p_imagesG (hK : 1099511627776 ≤ K) (hL : Lds sd ds ms) (hg : gs.length ≤ 8) (hil : imgs.length = sd.length) (hI : ∀ j, j < imgs.length → Hm (rd sd (j : Int) + 1) sd (rd imgs (j : Int)) ∧ (rd imgs (j : Int)).length ≤ 1000000) :
 g_spec_l06Images K (sd, imgs) ds ms gs = some (resI ds (outs gs ds ms imgs sd.length sd.length)) := by
 have hl := okD_len hL.src
 have hpos := okD_pos hL.src
 have hu : ∀ j, j < imgs.length → rd sd (j : Int) + 1 ≤ 13 := fun j hj => by have := hpos _ (rd_mem (show j < sd.length by omega)); omega
 have h1 := imagesG_loop (K := K) (imgs := imgs) hK hL hg hil (fun f hf => by
  obtain ⟨n, hn, rfl⟩ := List.getElem_of_mem hf
  have := hI n hn
  rw [rd_nat hn] at this
  exact ⟨hm_led this.1 (hu n hn), this.2⟩) K 0 (by omega) (by omega)
 replace h1 : g_spec_l06Images_l0 K (sd, imgs) ds ms gs K 0 [] = _ := h1
 have hs := stay_len gs sd.length
 have h2 := p_all4 (K := K) (fs := outs gs ds ms imgs sd.length sd.length) hK hL.dst (by unfold outs; rw [List.length_map]; omega) (fun f hf => by
  unfold outs at hf
  obtain ⟨i, hi, rfl⟩ := List.mem_map.1 hf
  have hi : i < imgs.length := by have := (List.mem_filter.1 hi).1; rw [hil]; exact List.mem_range.1 this
  exact ⟨_, ledF_hm hL (hI i hi).1 (hu i hi)⟩)
 unfold g_spec_l06Images resI
 rw [h1, Option.bind_some]
 show ((g_spec_l04All K ds _).bind _) = _
 rw [h2, Option.bind_some]
 by_cases h : ((outs gs ds ms imgs sd.length sd.length).all fun f => decide (f.length ≤ 400)) = true
 rw [if_pos h, if_pos h]; rfl
 rw [if_neg h, if_neg h]; rfl
end
theorem wtN_gn (ds : List Int) {t : Nat} (ht : t < 8) (e : Int) : ∀ n : Nat, wtN ds (gn t e) n = if t < n then rd ds (t : Int) * e else 0
 | 0 => by rw [if_neg (by omega)]; rfl
 | n + 1 => by
  rw [wtN, wtN_gn ds ht e n, gn_idx ht]
  by_cases h : n = t
  subst h
  rw [if_neg (by omega), if_pos rfl, if_pos (by omega)]; omega
  rw [if_neg h, Int.mul_zero, Int.add_zero]
  by_cases h2 : t < n
  rw [if_pos h2, if_pos (by omega)]
  rw [if_neg h2, if_neg (by omega)]
section
variable {K : Nat} {ds sd : List Int} {ms imgs : List MpT}
theorem gen_hm {t : Nat} {c : Int} (hd : okD ds = true) (ht : t < ds.length) (hc : 1 ≤ c ∧ c ≤ 10006) : Hm (rd ds (t : Int)) ds [(gn t 1, c)] := by
 have hl := okD_len hd
 refine ⟨nfm_mk (List.pairwise_singleton _ _) (fun q hq => by cases List.mem_singleton.1 hq; exact hc), fun q hq => ?_, fun q hq => ?_⟩
 cases List.mem_singleton.1 hq
 have := gn_mo (ds := ds) (e := 1) (show t < 8 by omega) ht (by decide) (by decide) (fun _ => by decide)
 exact ⟨this.lo, fun i => by show gn t 1 i ≤ 13; unfold gn; rw [upd_nat _ (show t < 8 by omega)]; split <;> omega, this.odd, this.out⟩
 cases List.mem_singleton.1 hq
 show wt ds (gn t 1) = _
 unfold wt
 rw [wtN_gn ds (by omega), if_pos ht, Int.mul_one]
theorem nm_rd {n j : Nat} (h : j < n) : rd (nmG [] n) (j : Int) = [(gn j 1, 1)] := by
 rw [nmG_rd h, stay_nil, List.length_range]; rfl
theorem set_rd {α : Type} [Inhabited α] {xs : List α} {i j : Nat} {x : α} (hj : j < xs.length) : rd (xs.set i x) (j : Int) = if j = i then x else rd xs (j : Int) := by
 unfold rd
 rw [Int.toNat_natCast, List.getD_eq_getElem?_getD, List.getD_eq_getElem?_getD, List.getElem?_set]
 by_cases e : i = j
 subst e; rw [if_pos rfl, if_pos rfl, if_pos hj]; rfl
 rw [if_neg e, if_neg (fun h => e h.symm)]
/-- generators, one of them replaced -/
theorem lds_set {i : Nat} {g : MpT} (hd : okD ds = true) (hi : i < ds.length) (hg : Hm (rd ds (i : Int)) ds g) : Lds ds ds ((nmG [] ds.length).set i g) := by
 refine ⟨hd, hd, by rw [List.length_set, nmG_len], fun j hj => ?_⟩
 rw [List.length_set, nmG_len] at hj
 rw [set_rd (by rw [nmG_len]; exact hj)]
 by_cases e : j = i
 subst e; rw [if_pos rfl]; exact hg
 rw [if_neg e, nm_rd hj]; exact gen_hm hd hj (by decide)
theorem ownSums_loop {n : Nat} (hn : n ≤ 8) : ∀ (k j : Nat), n < j + k → j ≤ n → g_impl_ownSums_l0 K n k j (nmG [] j) = some (.go (nmG [] n)) := by
 intro k
 induction k with
 | zero => intro j h1 h2; omega
 | succ k ih =>
  intro j h1 h2
  rw [g_impl_ownSums_l0]
  by_cases hj : j < n
  have hl := nmG_len [] j
  have := ih (j + 1) (by omega) (by omega)
  rw [nmG_succ, stay_nil, List.length_range] at this
  have e : mput ([] : MpT) (gn j 1) 1 = [(gn j 1, 1)] := rfl
  rw [if_pos (by omega), p_generatorI (by omega), Option.bind_some, IntWalk.i64_in ((j : Int) + 1) (by omega), e, if_pos (by simp; omega)]
  exact this
  rw [if_neg (by omega), show j = n by omega]
theorem p_ownSums {n : Nat} (hK : 1099511627776 ≤ K) (hn : n ≤ 8) : g_impl_ownSums K n = some (nmG [] n) := by
 have := ownSums_loop (K := K) hn K 0 (by omega) (by omega)
 unfold g_impl_ownSums
 replace this : g_impl_ownSums_l0 K n K 0 [] = some (.go (nmG [] n)) := this
 rw [this]; rfl
theorem copy_l1 {f : MpT} {x : Int} : ∀ (k j : Nat) (box : A8), 8 < j + k → j ≤ 8 → (∀ t : Fin 8, t.val < j → box t = (rd f x).1 t) → g_spec_l02Copy_l1 K f 0 x k j box = some (.go (rd f x).1) := by
 intro k
 induction k with
 | zero => intro j box h1 h2; omega
 | succ k ih =>
  intro j box h1 h2 hb
  rw [g_spec_l02Copy_l1, Int.add_zero, IntWalk.i64_in (j : Int) (by omega)]
  by_cases hj : j < 8
  rw [if_pos (by omega), if_pos (by omega), if_pos (by omega)]
  refine ih (j + 1) _ (by omega) (by omega) (fun t ht => ?_)
  rw [upd_nat _ hj]
  by_cases e : t.val = j
  rw [if_pos e, idx_nat _ hj]; exact congrArg (rd f x).1 (show (⟨j, hj⟩ : Fin 8) = t from Fin.ext e.symm)
  rw [if_neg e]; exact hb t (by omega)
  rw [if_neg (by omega)]
  congr 2
  funext t; exact hb t (by omega)
theorem copy_l0 {f : MpT} (hK : 1099511627776 ≤ K) (hf : f.length ≤ 1000000) : ∀ (k j : Nat), f.length < j + k → j ≤ f.length → g_spec_l02Copy_l0 K f 0 k j (f.take j) = some (.go f) := by
 intro k
 induction k with
 | zero => intro j h1 h2; omega
 | succ k ih =>
  intro j h1 h2
  rw [g_spec_l02Copy_l0]
  by_cases hj : j < f.length
  have h3 := copy_l1 (K := K) (f := f) (x := j) K 0 (fun _ => 0) (by omega) (by omega) (fun t ht => by omega)
  replace h3 : g_spec_l02Copy_l1 K f 0 j K 0 (fun _ => 0) = _ := h3
  have := ih (j + 1) (by omega) (by omega)
  rw [take_rd hj] at this
  rw [if_pos (by omega), h3, Option.bind_some]
  show (if _ then _ else none) = _
  rw [if_pos (by simp; omega)]
  exact this
  rw [if_neg (by omega), List.take_of_length_le (by omega)]
theorem p_copy {f : MpT} (hK : 1099511627776 ≤ K) (hf : f.length ≤ 1000000) : g_spec_l02Copy K f 0 = some f := by
 have := copy_l0 (K := K) hK hf K 0 (by omega) (by omega)
 unfold g_spec_l02Copy
 replace this : g_spec_l02Copy_l0 K f 0 K 0 [] = some (.go f) := this
 rw [this]; rfl
theorem own_l0 {a : AlgT} (hK : 1099511627776 ≤ K) (hl : a.2.length ≤ 8) (hf : ∀ f, f ∈ a.2 → f.length ≤ 1000000) : ∀ (k j : Nat), a.2.length < j + k → j ≤ a.2.length → g_spec_l02Own_l0 K a k j (a.2.take j) = some (.go a.2) := by
 intro k
 induction k with
 | zero => intro j h1 h2; omega
 | succ k ih =>
  intro j h1 h2
  rw [g_spec_l02Own_l0]
  by_cases hj : j < a.2.length
  have := ih (j + 1) (by omega) (by omega)
  rw [take_rd hj] at this
  rw [if_pos (by omega), p_copy hK (hf _ (rd_mem hj)), Option.bind_some, if_pos (by simp; omega)]
  exact this
  rw [if_neg (by omega), List.take_of_length_le (by omega)]
theorem p_own {a : AlgT} (hK : 1099511627776 ≤ K) (h1 : a.1.length ≤ 8) (hl : a.2.length ≤ 8) (hf : ∀ f, f ∈ a.2 → f.length ≤ 1000000) : g_spec_l02Own K a = some a := by
 have := own_l0 (K := K) hK hl hf K 0 (by omega) (by omega)
 unfold g_spec_l02Own g_spec_l01Own
 replace this : g_spec_l02Own_l0 K a K 0 [] = some (.go a.2) := this
 rw [if_pos (by simp; omega), Option.bind_some, this]; rfl
theorem outs0 (n j : Nat) : outs [] ds ms imgs n j = (List.range j).map fun (i : Nat) => ledF ds ms n (rd imgs (i : Int)) := by unfold outs; rw [stay_nil]
theorem withImages_loop {X : List MpT} {M : M8} (hK : 1099511627776 ≤ K) (hL : Lds ds ds ms) (hM : ∀ j, j < ds.length → idxM M (j : Int) = rd imgs (j : Int))
 (hI : ∀ j, j < ds.length → Hm (rd ds (j : Int) + 1) ds (rd imgs (j : Int)) ∧ (rd imgs (j : Int)).length ≤ 1000000) : ∀ (k j : Nat), ds.length < j + k → j ≤ ds.length →
 g_impl_Algebra_withImages_l0 K (ds, X) M ms k j (outs [] ds ms imgs ds.length j) =
  some (if ((List.range' j (ds.length - j)).all fun i => decide ((ledF ds ms ds.length (rd imgs (i : Int))).length ≤ 400)) = true then .go (outs [] ds ms imgs ds.length ds.length) else .ret (([], []), 3)) := by
 have hl := okD_len hL.src
 have hpos := okD_pos hL.src
 intro k
 induction k with
 | zero => intro j h1 h2; omega
 | succ k ih =>
  intro j h1 h2
  rw [g_impl_Algebra_withImages_l0]
  dsimp only
  by_cases hj : j < ds.length
  have hu : rd ds (j : Int) + 1 ≤ 13 := by have := hpos _ (rd_mem hj); omega
  obtain ⟨i1, i2⟩ := hI j hj
  have hh := ledF_hm hL i1 hu
  have hle : (outs [] ds ms imgs ds.length j).length = j := by rw [outs0, List.length_map, List.length_range]
  have ho : outs [] ds ms imgs ds.length (j + 1) = outs [] ds ms imgs ds.length j ++ [ledF ds ms ds.length (rd imgs (j : Int))] := by
   rw [outs0, outs0, List.range_succ, List.map_append]; rfl
  have := ih (j + 1) (by omega) (by omega)
  have hr : List.range' j (ds.length - j) = j :: List.range' (j + 1) (ds.length - (j + 1)) := by
   rw [show ds.length - j = (ds.length - (j + 1)) + 1 by omega, List.range'_succ]
  have hsub : g_impl_substitute K ds (rd imgs (j : Int)) ms = some (ledF ds ms ds.length (rd imgs (j : Int))) := by
   unfold g_impl_substitute
   rw [p_leadH hK hL (hm_led i1 hu) i2]; rfl
  rw [if_pos (by omega), if_pos (by omega), hM j hj, hsub, Option.bind_some, p_formH hK hh, Option.bind_some, hr, List.all_cons]
  by_cases h4 : 400 < (ledF ds ms ds.length (rd imgs (j : Int))).length
  rw [if_pos h4, decide_eq_false (by omega)]
  rfl
  rw [if_neg h4, decide_eq_true (by omega), Bool.true_and]
  dsimp only
  rw [if_pos rfl, if_pos (by simp; omega), ← ho]
  exact this
  rw [if_neg (by omega), show j = ds.length by omega, Nat.sub_self]; rfl
theorem p_withImages {X : List MpT} {M : M8} (hK : 1099511627776 ≤ K) (hL : Lds ds ds ms) (hM : ∀ j, j < ds.length → idxM M (j : Int) = rd imgs (j : Int))
 (hI : ∀ j, j < ds.length → Hm (rd ds (j : Int) + 1) ds (rd imgs (j : Int)) ∧ (rd imgs (j : Int)).length ≤ 1000000) :
 g_impl_Algebra_withImages K (ds, X) M ms = some (resI ds (outs [] ds ms imgs ds.length ds.length)) := by
 have hl := okD_len hL.src
 have h1 := withImages_loop (K := K) (X := X) hK hL hM hI K 0 (by omega) (by omega)
 rw [Nat.sub_zero, ← List.range_eq_range'] at h1
 have e : ((outs [] ds ms imgs ds.length ds.length).all fun f => decide (f.length ≤ 400)) = (List.range ds.length).all fun i => decide ((ledF ds ms ds.length (rd imgs (i : Int))).length ≤ 400) := by
  rw [outs0, List.all_map]; rfl
 unfold g_impl_Algebra_withImages g_slices_Clone_Sint64_int64 resI
 replace h1 : g_impl_Algebra_withImages_l0 K (ds, X) M ms K 0 [] = _ := h1
 rw [if_pos (by simp; omega), Option.bind_some, h1, Option.bind_some, e]
 by_cases h : ((List.range ds.length).all fun i => decide ((ledF ds ms ds.length (rd imgs (i : Int))).length ≤ 400)) = true
 rw [if_pos h, if_pos h]; rfl
 rw [if_neg h, if_neg h]; rfl
end
theorem p_first2 {K : Nat} (hK : 3 ≤ K) (x y : Int) : g_impl_first K [x, y] = some (if x = 0 then y else x) := by
 unfold g_impl_first
 obtain ⟨k, rfl⟩ : ∃ k, K = k + 3 := ⟨K - 3, by omega⟩
 have e0 : rd [x, y] 0 = x := rfl
 have e1 : rd [x, y] (0 + 1) = y := rfl
 rw [g_impl_first_l0]
 simp only [List.length_cons, List.length_nil]
 rw [if_pos (by decide), e0]
 by_cases hx : x = 0
 rw [if_pos hx, if_pos hx, g_impl_first_l0]
 simp only [List.length_cons, List.length_nil]
 rw [if_pos (by decide), e1]
 by_cases hy : y = 0
 rw [if_pos hy, g_impl_first_l0]
 simp only [List.length_cons, List.length_nil]
 rw [if_neg (by decide), hy]; rfl
 rw [if_neg hy]; rfl
 rw [if_neg hx, if_neg hx]; rfl
theorem p_when (K : Nat) (b : Bool) (c : Int) : g_impl_when K b c = some (if b = true then c else 0) := by unfold g_impl_when; split <;> rfl
section
variable {K : Nat} {a : AlgT} {i c : Int}
theorem p_code (hi : Inp K a) : g_impl_algebraCode K a [] = some (if okA a = true then 0 else 1) := by
 have hK := hi.big
 unfold g_impl_algebraCode
 rw [show (a.1, a.2) = a from rfl, p_algI hi, Option.bind_some]
 by_cases hA : okA a = true
 case neg =>
  rw [if_neg hA, if_neg hA, p_when, Option.bind_some]; rfl
 rw [if_pos hA, if_pos hA, cont_form (q := fun _ => false) (by simp; omega) (fun x hx => by cases hx), Option.bind_some, p_when, Option.bind_some]; rfl
theorem img_hm (hi : Inp K a) (hB : okB a = true) : ∀ j, j < a.2.length → Hm (rd a.1 (j : Int) + 1) a.1 (rd a.2 (j : Int)) := by
 intro j hj
 have hd := okB_deg hB
 have hv := okB_vi hi hB
 have hpos := okD_pos hd _ (rd_mem (show j < a.1.length by have := hv.len; omega))
 unfold okB at hB
 rw [Bool.and_eq_true, Bool.and_eq_true] at hB
 have h := List.all_eq_true.1 hB.2.2 j (List.mem_range.2 hj)
 unfold okI okG at h
 rw [Bool.and_eq_true] at h
 exact vf_hm hd (hv.all _ (rd_mem hj)) (fun t ht => of_decide_eq_true (List.all_eq_true.1 h.2 t ht)) (by omega)
/-- a multiple of a normal sum -/
def sclN (c : Int) (f : MpT) : MpT := runM (scl c f) []
theorem sclN_hm {u : Int} {ds : List Int} {f : MpT} (hf : Hm u ds f) : Hm u ds (sclN c f) := by
 refine run_hm (fun r hr => ?_) (Hm.nil _ _)
 obtain ⟨t, ht, rfl⟩ := List.mem_map.1 hr
 exact ⟨hf.mo t ht, hf.w t ht⟩
theorem sclN_len (f : MpT) : (sclN c f).length ≤ f.length := by
 have := runM_len (scl c f) []
 have e : (scl c f).length = f.length := by unfold scl; rw [List.length_map]
 unfold sclN
 simp only [List.length_nil] at this
 omega
theorem scl_gen {m : A8} {x : Int} (hx : 1 ≤ x ∧ x ≤ 10006) : runM (scl x [(m, 1)]) [] = [(m, x)] := by
 show runM [(m, x * 1)] [] = _
 rw [Int.mul_one]
 exact runM_self (nfm_mk (List.pairwise_singleton _ _) (fun q hq => by cases List.mem_singleton.1 hq; exact hx))
def scaleM (ds : List Int) (n : Nat) (c : Int) : List MpT := (nmG [] ds.length).set n [(gn n 1, inv c)]
def scaleR (a : AlgT) (i c : Int) : AlgT × Int :=
 if okA a = true then (if (0 ≤ i ∧ i ≤ (a.1.length : Int) - 1) ∧ 1 ≤ c ∧ c ≤ 10006 then resI a.1 (outs [] a.1 (scaleM a.1 i.toNat c) (a.2.set i.toNat (sclN c (rd a.2 i))) a.1.length a.1.length) else (([], []), 2)) else (([], []), 1)
theorem scale_imgs (hi : Inp K a) (hB : okB a = true) {n : Nat} (hn : n < a.2.length) : ∀ j, j < a.2.length →
 Hm (rd a.1 (j : Int) + 1) a.1 (rd (a.2.set n (sclN c (rd a.2 (n : Int)))) (j : Int)) ∧ (rd (a.2.set n (sclN c (rd a.2 (n : Int)))) (j : Int)).length ≤ 1000000 := by
 intro j hj
 have hv := okB_vi hi hB
 have hl := fun j (hj : j < a.2.length) => (hv.all _ (rd_mem hj)).len
 rw [set_rd hj]
 by_cases e : j = n
 subst e
 rw [if_pos rfl]
 have h1 := sclN_len (c := c) (rd a.2 (j : Int))
 have h2 := hl j hj
 exact ⟨sclN_hm (img_hm hi hB j hj), by omega⟩
 rw [if_neg e]
 have h2 := hl j hj
 exact ⟨img_hm hi hB j hj, by omega⟩
theorem p_scaleS (hK : 1099511627776 ≤ K) (hi : Inp K a) : g_spec_ScaleGenerator K a i c = some (scaleR a i c) := by
 have hdl := hi.dl
 unfold g_spec_ScaleGenerator g_spec_l06Place scaleR
 rw [show (a.1, a.2) = a from rfl, p_algS hi, Option.bind_some]
 by_cases hA : okA a = true
 case neg =>
  rw [if_neg hA, if_neg hA]; rfl
 have hB : okB a = true := by unfold okA at hA; rw [Bool.and_eq_true] at hA; exact hA.1
 have hd := okB_deg hB
 have hv := okB_vi hi hB
 have hl := okD_len hd
 have hvl := hv.len
 rw [if_pos hA, if_pos hA, IntWalk.i64_in _ (by omega), in_eq, Option.bind_some]
 by_cases hr : 0 ≤ i ∧ i ≤ (a.1.length : Int) - 1
 case neg => rw [if_neg (by simpa using hr), if_neg (fun h => hr h.1)]; rfl
 rw [if_pos (by simpa using hr), Option.bind_some, if_pos rfl, in_eq, Option.bind_some]
 by_cases hc : 1 ≤ c ∧ c ≤ 10006
 case neg =>
  rw [if_neg (fun h => hc h.2), decide_eq_false hc]; rfl
 rw [if_pos ⟨hr, hc⟩, decide_eq_true hc]
 unfold g_spec_ScaleGenerator_j1
 rw [if_neg (by decide)]
 unfold g_spec_ScaleGenerator_j2
 obtain ⟨n, rfl⟩ := Int.eq_ofNat_of_zero_le hr.1
 have hn : n < a.1.length := by omega
 have hiv := inv_val hc
 have hv1 := hv.all _ (rd_mem (show n < a.2.length by omega))
 have hvl1 := hv1.len
 have hLs := lds_set (i := n) (g := [(gn n 1, inv c)]) hd hn (gen_hm hd hn hiv)
 rw [if_pos rfl, show (a.1, a.2) = a from rfl, p_own hK hl (by omega) (fun f hf => by have := (hv.all f hf).len; omega), Option.bind_some, if_pos (by omega), if_pos (by omega),
  p_add (by omega) (by simp; omega) (by omega) nil_sm hv1.small (by simp) (by omega), Option.bind_some, mrg_run nfm_nil (nfm_srt hv1.nf), if_pos (by omega), p_namedG hK (by simp) hl, Option.bind_some, nmG_len, if_pos (by omega),
  p_inverseS hK hc, Option.bind_some, nm_rd hn, p_add (by omega) (by simp; omega) (by omega) nil_sm (one_sm (by decide)) (by simp) (by simp), Option.bind_some, mrg_run nfm_nil (single_srt _), scl_gen hiv, Int.toNat_natCast]
 have h6 := p_imagesG (K := K) (sd := a.1) (ds := a.1) (ms := scaleM a.1 n c) (imgs := a.2.set n (sclN c (rd a.2 (n : Int)))) (gs := []) hK hLs (by simp) (by rw [List.length_set]; exact hvl)
  (fun j hj => scale_imgs hi hB (by omega) j (by rw [List.length_set] at hj; exact hj))
 replace h6 : g_spec_l06Images K (a.1, a.2.set n (runM (scl c (rd a.2 (n : Int))) [])) a.1 ((nmG [] a.1.length).set n [(gn n 1, inv c)]) [] = _ := h6
 rw [h6]; rfl
theorem p_scaleI (hK : 1099511627776 ≤ K) (hi : Inp K a) : g_impl_ScaleGenerator K a i c = some (scaleR a i c) := by
 have hdl := hi.dl
 unfold g_impl_ScaleGenerator g_impl_Algebra_isGenerator g_impl_isFactor scaleR
 rw [show (a.1, a.2) = a from rfl, p_code hi, Option.bind_some, IntWalk.i64_in _ (by omega), within_eq, Option.bind_some]
 rw [within_eq, Option.bind_some, Option.bind_some, Option.bind_some, p_when, Option.bind_some, p_first2 (by omega), Option.bind_some, p_when, Option.bind_some, p_first2 (by omega), Option.bind_some]
 by_cases hA : okA a = true
 case neg =>
  rw [if_neg hA, if_neg hA, if_neg (show ¬ (1 : Int) = 0 by decide), if_neg (show ¬ (1 : Int) = 0 by decide)]
  unfold g_impl_ScaleGenerator_j1
  split <;> rfl
 have hB : okB a = true := by unfold okA at hA; rw [Bool.and_eq_true] at hA; exact hA.1
 have hd := okB_deg hB
 have hv := okB_vi hi hB
 have hl := okD_len hd
 have hvl := hv.len
 rw [if_pos hA, if_pos hA, if_pos rfl, if_pos rfl]
 by_cases hr : 0 ≤ i ∧ i ≤ (a.1.length : Int) - 1
 case neg =>
  rw [decide_eq_false hr, if_neg (show ¬ (false = true) by decide), if_pos (show true = true from rfl), if_neg (show ¬ ((0 ≤ i ∧ i ≤ (a.1.length : Int) - 1) ∧ 1 ≤ c ∧ c ≤ 10006) from fun h => hr h.1)]
  unfold g_impl_ScaleGenerator_j1
  rw [if_neg (show ¬ (2 : Int) = 0 by decide)]
 rw [decide_eq_true hr, if_pos rfl]
 by_cases hc : 1 ≤ c ∧ c ≤ 10006
 case neg =>
  rw [decide_eq_false hc, if_pos (show (!false) = true from rfl), if_neg (show ¬ ((0 ≤ i ∧ i ≤ (a.1.length : Int) - 1) ∧ 1 ≤ c ∧ c ≤ 10006) from fun h => hc h.2)]
  unfold g_impl_ScaleGenerator_j1
  rw [if_neg (show ¬ (2 : Int) = 0 by decide)]
 rw [if_pos (show (0 ≤ i ∧ i ≤ (a.1.length : Int) - 1) ∧ 1 ≤ c ∧ c ≤ 10006 from ⟨hr, hc⟩), decide_eq_true hc, if_neg (show ¬ ((!true) = true) by decide)]
 unfold g_impl_ScaleGenerator_j1
 obtain ⟨n, rfl⟩ := Int.eq_ofNat_of_zero_le hr.1
 have hn : n < a.1.length := by omega
 have hiv := inv_val hc
 have hv1 := hv.all _ (rd_mem (show n < a.2.length by omega))
 have hvl1 := hv1.len
 have hLs := lds_set (i := n) (g := [(gn n 1, inv c)]) hd hn (gen_hm hd hn hiv)
 obtain ⟨M, hM, hMr⟩ := p_images (K := K) (a := a) (by omega) (by omega) (fun f hf => ⟨_, hv.all f hf⟩)
 have hset : ∀ j, j < a.1.length → idxM (updM M (n : Int) (sclN c (rd a.2 (n : Int)))) (j : Int) = rd (a.2.set n (sclN c (rd a.2 (n : Int)))) (j : Int) := by
  intro j hj
  rw [set_rd (by omega), idxM_nat _ (show j < 8 by omega), updM_nat _ (show n < 8 by omega)]
  by_cases e : j = n
  rw [if_pos e, if_pos e]
  rw [if_neg (show ¬ (⟨j, _⟩ : Fin 8).val = n from e), if_neg e, ← hMr j (by omega), idxM_nat _ (show j < 8 by omega)]
 have h6 := p_withImages (K := K) (ds := a.1) (X := a.2) (ms := scaleM a.1 n c) (imgs := a.2.set n (sclN c (rd a.2 (n : Int)))) hK hLs hset
  (fun j hj => scale_imgs hi hB (by omega) j (by omega))
 replace h6 : g_impl_Algebra_withImages K a (updM M (n : Int) (runM (scl c (rd a.2 (n : Int))) [])) ((nmG [] a.1.length).set n [(gn n 1, inv c)]) = _ := h6
 have e : mput ([] : MpT) (gn n 1) (inv c) = [(gn n 1, inv c)] := rfl
 rw [if_pos rfl, show (a.1, a.2) = a from rfl, hM, Option.bind_some, p_ownSums hK hl, Option.bind_some, if_pos (by omega), if_pos (by omega), hMr n (by omega), p_addAll (by omega) (by omega) hv1.small nfm_nil, Option.bind_some,
  p_generatorI (by omega), Option.bind_some, p_inverseI hK hc, Option.bind_some, nmG_len, if_pos (by omega), Int.toNat_natCast, e, h6]; rfl
theorem resI_small {ds : List Int} {fs : List MpT} (hd : ds.length ≤ 8) (hf : fs.length ≤ 8) : (resI ds fs).1.1.length ≤ 8 ∧ (resI ds fs).1.2.length ≤ 8 ∧ ∀ f, f ∈ (resI ds fs).1.2 → f.length ≤ 400 := by
 unfold resI
 split
 rename_i h
 exact ⟨hd, hf, fun f hf => by have := List.all_eq_true.1 h f hf; simpa using this⟩
 exact ⟨by simp, by simp, fun f hf => by cases hf⟩
theorem scaleR_small (hi : Inp K a) : (scaleR a i c).1.1.length ≤ 8 ∧ (scaleR a i c).1.2.length ≤ 8 ∧ ∀ f, f ∈ (scaleR a i c).1.2 → f.length ≤ 400 := by
 unfold scaleR
 split
 rename_i hA
 have hB : okB a = true := by unfold okA at hA; rw [Bool.and_eq_true] at hA; exact hA.1
 have hl := okD_len (okB_deg hB)
 split
 exact resI_small hl (by unfold outs; rw [List.length_map]; exact Nat.le_trans (stay_len _ _) hl)
 exact ⟨by simp, by simp, fun f hf => by cases hf⟩
 exact ⟨by simp, by simp, fun f hf => by cases hf⟩
end
end Go.Proofs.YtfodlhkoafhplaaGreat
