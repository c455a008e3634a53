/- Walks of functions: each computes its pure function, if that gives a value. -/
import Derived.Test.YtabofnehiclkiaaGreatZF22
namespace Go.Proofs.YtabofnehiclkiaaGreat
open Go Go.Proofs.Tryz
set_option linter.unusedSimpArgs false
set_option linter.unusedVariables false
set_option maxRecDepth 100000
set_option maxHeartbeats 8000000
variable {K : Nat} {H : FH} {w : World} {L : OL} {s0 s1 s2 s3 s4 s5 s6 : Value}
theorem Vb3 : BuI prog 187 #[Value.pointer none, Value.map none] #[(0, 1), (1, 1)] := ⟨_, _, zeroValue187, rfl, runUnderlying187, fun w => by kernel_rfl⟩
theorem Va6 : BuI prog 102 #[vN, Value.map none, vN, vN, vN, vN] #[(0, 1), (1, 1), (2, 1), (3, 1), (4, 1), (5, 1)] := ⟨_, _, zeroValue102, rfl, runUnderlying102, fun w => by kernel_rfl⟩
def Vf0 (x : AlX) (S : List Lvl) (H : FH) (L : OL) : Ending → World → Prop := fun e w' => ∃ p H' C, e = .returned p ∧ Sub H H' ∧ St H' w' (C ++ L) ∧ Cx H' p x S C
theorem Zs8.val {α : Type} {τ : Ty α} {H : FH} {v : Value} {x : α} (h : Zs8 τ H v x) : ∃ b o, v = .pointer (some ⟨b, o, none⟩) := let ⟨b, o, _, _, _, h, _⟩ := h; ⟨b, o, h⟩
theorem Xp6 {H : FH} {w : World} {L : OL} {s0 : Value} {x : AlX} (hs0 : Zs8 Yx6 H s0 x) (hS : St H w L) :
 Calls prog 82 #[s0] w (Vf0 x [] H L) := by
 obtain ⟨ab, ao, rfl⟩ := hs0.val
 refine X0 func82 rfl ntmps82 rfl ?_
 repeat refine Z1 ?_
 refine Z0 (Z5 (.pointer none) rfl rfl (Z2 ?_))
 repeat refine Z1 ?_
 refine Z0 (Z3 (.pointer (some ⟨ab, ao, none⟩)) rfl rfl ?_)
 refine Yh7 hS rfl ?_
 intro bm w2 hS
 refine Zu1 ([.pointer (some ⟨ab, ao, none⟩)] ++ [.map (some bm)]) Vb3 (Zz7 rfl rfl) (F2 rfl rfl rfl (nl rfl) (F2 rfl rfl rfl (nl rfl) (Zp8 rfl))) rfl ?_
 refine T7 (v := vA ([.pointer (some ⟨ab, ao, none⟩)] ++ [.map (some bm)])) #[.pointer (some ⟨ab, ao, none⟩), .map (some bm)] rfl rfl hS rfl ?_
 intro bp w3 hS
 refine Z5 (vP bp) rfl rfl (Z2 ?_)
 have hS : St H w3 ((bp, .cells #[.pointer (some ⟨ab, ao, none⟩), .map (some bm)] 187) :: ([(bm, .map #[] 0)] ++ L)) := hS
 have Z4 := Sub.add (o := .cells #[.pointer (some ⟨ab, ao, none⟩), .map (some bm)] 187) hS.none
 exact Y9 (vs := [vP bp]) func82 ⟨rfl, trivial⟩ ⟨_, _, [(bm, .map #[] 0)], rfl, Z4, hS.freeze, bp, bm, _, #[], 0, rfl, FH.add_self .., hs0.mono Z4, rfl, rfl⟩
def lv0 (K : Nat) (x : AlX) (n : Int) : Option (List A8) := (Zh5 K x.1 n 120).map Prod.fst
def Zz6 (M : List A8) : Nat → MpT
 | 0 => []
 | k + 1 => Zb4 (Zz6 M k) (rd M (k : Int)) (k : Int)
def LvB (K : Nat) (x : AlX) (H : FH) (s : Lvl) : Prop := ∃ M, lv0 K x s.n = some M ∧ Y3 (Q9 .i64) H s.v0 M ∧ N1 .i64 H s.v1 (Zz6 M M.length)
theorem LvB.mono {K : Nat} {x : AlX} {H H' : FH} {s : Lvl} (h : LvB K x H s) (hs : Sub H H') : LvB K x H' s := let ⟨M, h1, h2, h3⟩ := h; ⟨M, h1, h2.mono hs, h3.mono hs⟩
def Vi2 (K : Nat) (x : AlX) (n : Int) (p : Value) (S : List Lvl) (H : FH) (L : OL) : Ending → World → Prop := fun e w' => ∃ (i : Nat) (s : Lvl) (S' : List Lvl) (H' : FH) (C : OL), e = .returned (vP s.b) ∧ Sub H H' ∧ St H' w' (C ++ L) ∧ Cx H' p x S' C ∧ S'[i]? = some s ∧ s.n = n ∧
 (S' = S ∨ (S' = S ++ [s] ∧ LvB K x H' s ∧ s.c2 = vN ∧ s.c3 = vN ∧ s.c4 = vN ∧ s.c5 = vN))
theorem Wa5 {K : Nat} {x : AlX} {n : Int} {M : List A8} (q0 : lv0 K x n = some M) {H : FH} {w : World} {L C : OL} {p : Value} {S : List Lvl} (hC : Cx H p x S C) (hS : St H w (C ++ L)) :
 Calls prog 153 #[p, vI n] w (Vi2 K x n p S H L) := by
 obtain ⟨bp, bm, ap, es, clk, rfl, hbox, hap, rfl, hes⟩ := hC
 obtain ⟨ab, ao, rfl⟩ := hap.val
 have hmono := q0
 unfold lv0 at hmono
 obtain ⟨⟨M', mb⟩, hM, hM'⟩ := Option.map_eq_some_iff.1 hmono
 obtain rfl : M' = M := hM'
 refine X0 func153 rfl ntmps153 rfl ?_
 repeat refine Z1 ?_
 refine Z0 (Z5 (.pointer none) rfl rfl (Z2 ?_))
 repeat refine Z1 ?_
 refine Z0 (Z3 (vP bp) rfl rfl (V4 rfl rfl (Y2 Xe3 rfl rfl ?_)))
 refine Y0 (.map (some bm)) Xv1 rfl (hS.froz _ _ hbox) rfl rfl (Z3 (vI n) rfl rfl ?_)
 refine Xf4 (m := n) rfl rfl hS.hd hes rfl ?_ ?_
 intro j s hj hn
 refine Z3 _ rfl rfl (V3 (vP s.b) rfl rfl rfl (V3 (vB true) rfl rfl rfl (Z5 _ rfl rfl (Z5 _ rfl rfl (Z2 ?_)))))
 repeat refine Z1 ?_
 refine Z0 (Z3 (vB true) rfl rfl (Z2 ?_))
 repeat refine Z1 ?_
 refine Z8 rfl ?_
 repeat refine Z1 ?_
 refine Z0 (Z3 (vP s.b) rfl rfl (Z5 (vP s.b) rfl rfl (Z2 ?_)))
 exact Y9 (vs := [vP s.b]) func153 ⟨rfl, trivial⟩ ⟨j, s, S, H, _, rfl, .refl _, hS, ⟨bp, bm, _, es, clk, rfl, hbox, hap, rfl, hes⟩, hj, hn, .inl rfl⟩
 intro hno
 refine Z3 _ rfl rfl (V3 (.pointer none) rfl rfl rfl (V3 (vB false) rfl rfl rfl (Z5 _ rfl rfl (Z5 _ rfl rfl (Z2 ?_)))))
 repeat refine Z1 ?_
 refine Z0 (Z3 (vB false) rfl rfl (Z2 ?_))
 repeat refine Z1 ?_
 refine Z7 rfl (Y6 ?_)
 repeat refine Z1 ?_
 refine Zj6 fun f0 hf0 => ?_
 have t0 : tv f0 0 = vP bp := by rw [hf0]; rfl
 have t1 : tv f0 1 = vI n := by rw [hf0]; rfl
 clear hf0
 refine Z0 ?_
 refine Yg2 (k := .i64) hS rfl ?_
 intro pv w1 Cp hop hS
 obtain ⟨pb, hpv⟩ : ∃ b, pv = .map (some b) := by obtain ⟨_, b, _, _, _, h, _⟩ := hop; exact ⟨b, h⟩
 subst hpv
 refine Zu1 ([vN] ++ ([.map (some pb)] ++ ([vN] ++ ([vN] ++ ([vN] ++ [vN]))))) Va6 (E7 rfl) (F2 rfl rfl rfl (nl rfl) (Zp8 rfl)) rfl ?_
 refine T7 (v := vA ([vN] ++ ([.map (some pb)] ++ ([vN] ++ ([vN] ++ ([vN] ++ [vN])))))) #[vN, .map (some pb), vN, vN, vN, vN] rfl rfl hS rfl ?_
 intro bl w2 hS
 refine Z5 (vP bl) rfl rfl (Z2 ?_)
 repeat refine Z1 ?_
 refine Z0 (Z3 (vP bl) rfl rfl (Z3 (vP bp) (by exact t0) rfl (V4 rfl rfl (Y2 Xd4 rfl rfl ?_))))
 refine Y0 (.pointer (some ⟨ab, ao, none⟩)) We8 rfl (hS.froz _ _ hbox) rfl rfl (V4 rfl rfl (Y2 Wd1 rfl rfl ?_))
 obtain ⟨_, _, acs, aE, _, hap1, hab, ⟨_, _, rfl, ⟨dv, rfl, hdeg⟩, ⟨fv, rfl, hfms⟩⟩, hac⟩ := id hap
 cases hap1
 refine Y0 dv P4 rfl (hS.froz _ _ hab) (hac 0 (by decide)) rfl (Z3 (vI n) (by exact t1) rfl ?_)
 refine U9 call231 (D8 rfl rfl rfl) rfl (Yc5 hM hdeg hS) ?_
 rintro e3 w3 ⟨_, H3, rfl, s3, hS, v0, v1, rfl, hv0, hv1⟩
 refine ⟨_, rfl, ?_⟩
 refine Z3 _ rfl rfl (V3 v0 rfl rfl rfl (V3 v1 rfl rfl rfl (V4 rfl rfl (Y2 Yd8 rfl rfl ?_))))
 obtain ⟨va, vc, ⟨hv0e, hMl⟩, _⟩ := id hv0
 have hMl : M'.length ≤ 9223372036854775807 := hMl.1
 refine K6 (v := v0) (cs := #[vN, .map (some pb), vN, vN, vN, vN]) (cs' := #[v0, .map (some pb), vN, vN, vN, vN]) Yx7 rfl rfl hS (by rw [hv0e]; rfl) (by rw [hv0e]; exact Zs5 rfl) (nl rfl) (by rw [hv0e]; rfl) ?_
 intro w4 hS
 refine Z2 ?_
 repeat refine Z1 ?_
 have hbox := s3.1 _ _ hbox
 have hap := hap.mono s3
 refine Zj6 fun f1 hf1 => ?_
 have t0 : tv f1 0 = vP bp := by rw [hf1]; exact t0
 have t1 : tv f1 1 = vI n := by rw [hf1]; exact t1
 have t7 : tv f1 7 = vP bl := by rw [hf1]; rfl
 clear hf1
 refine Z0 (Z3 (vP bl) (by exact t7) rfl (V4 rfl rfl (Y2 Yd8 rfl rfl ?_)))
 refine Y0 v0 Yx7 rfl hS.hd rfl rfl ?_
 refine X9 Ya2 rfl hv0 rfl (Z3 (vI 0) rfl rfl (Z2 (Y8 ?_)))
 refine W0 (id := 0) (fun k f w => ∃ (m : Nat) (H1 : FH) (Cp : OL), m ≤ M'.length ∧ M'.length < m + k ∧ Sub H3 H1 ∧ Q2 .i64 (.map (some pb)) (Zz6 M' m) Cp ∧ St H1 w ([(bl, .cells #[v0, .map (some pb), vN, vN, vN, vN] 102)] ++ (Cp ++ ((bm, .map es clk) :: (S.map Lvl.chunk ++ L)))) ∧ tv f 0 = vP bp ∧ tv f 1 = vI n ∧ tv f 7 = vP bl ∧ tv f 42 = v0 ∧ tv f 43 = vI (M'.length : Int) ∧ tv f 44 = vI (m : Int))
  (fun f w => ∃ (H1 : FH) (Cp : OL), Sub H3 H1 ∧ Q2 .i64 (.map (some pb)) (Zz6 M' M'.length) Cp ∧ St H1 w ([(bl, .cells #[v0, .map (some pb), vN, vN, vN, vN] 102)] ++ (Cp ++ ((bm, .map es clk) :: (S.map Lvl.chunk ++ L)))) ∧ tv f 0 = vP bp ∧ tv f 1 = vI n ∧ tv f 7 = vP bl) rfl ?_ ?_ (M'.length + 1) ?_ ?_
 rintro f w ⟨m, H1, Cp, h1, h2, _⟩; omega
 rintro k f w ih hx ⟨m, H1, Cp, h1, h2, s1, hop, hS, t0, t1, t7, t42, t43, t44⟩
 have hv0 := hv0.mono s1
 repeat refine Z1 ?_
 refine Z0 ?_
 refine W8 (k := .i64) (a := m) (b := M'.length) (by exact t44) (by exact t43) rfl (Z2 ?_)
 repeat refine Z1 ?_
 by_cases hm : (m : Int) < (M'.length : Int)
 have hm' : m < M'.length := by omega
 refine Z8 (bT hm rfl) (Y6 ?_)
 repeat refine Z1 ?_
 refine Y8 ?_
 repeat refine Z1 ?_
 refine Z0 (Z3 (vI (m : Int)) (by exact t44) rfl ?_)
 obtain ⟨_, _, _, _, _, hp1, hp2, rfl, hp3⟩ := hv0.elem (i := (m : Int)) (by omega) hm
 refine X5 Ya2 rfl (by exact t42) hp1 (by exact t44) (by omega) hm rfl ?_
 refine V0 (Z6 .i64 (rd M' (m : Int))) Q6 rfl (hS.froz _ _ hp2) rfl hp3 rfl ?_
 refine U4 (z := vA (Z6 .i64 (fun _ => 0))) (Z6 .i64 (fun _ => 0)).toArray Zk4.zero rfl hS rfl ?_
 intro bq w5 hS
 refine Z5 (vI (m : Int)) rfl rfl ?_
 refine W4 (v := vA (Z6 .i64 (rd M' (m : Int)))) (vs := (Z6 .i64 (rd M' (m : Int))).toArray) (cs := (Z6 .i64 (fun _ => 0)).toArray) Q6 rfl rfl rfl hS rfl (S8 .i64 (rd M' (m : Int))) rfl ?_
 intro w6 hS
 refine Z2 ?_
 repeat refine Z1 ?_
 refine Zj6 fun f2 hf2 => ?_
 have t0 : tv f2 0 = vP bp := by rw [hf2]; exact t0
 have t1 : tv f2 1 = vI n := by rw [hf2]; exact t1
 have t7 : tv f2 7 = vP bl := by rw [hf2]; exact t7
 have t8 : tv f2 8 = vI (m : Int) := by rw [hf2]; rfl
 have t9 : tv f2 9 = vP bq := by rw [hf2]; rfl
 have t42 : tv f2 42 = v0 := by rw [hf2]; exact t42
 have t43 : tv f2 43 = vI (M'.length : Int) := by rw [hf2]; exact t43
 have t44 : tv f2 44 = vI (m : Int) := by rw [hf2]; exact t44
 clear hf2
 refine W7 6 (S9 [mE 49 (vP bl), mE 50 (vP bl), mE 51 (vQ bl 1), mE 52 (.map (some pb)), mE 53 (vA (Z6 .i64 (rd M' (m : Int)))), mE 54 (vI (m : Int))]) [] mixed rfl rfl rfl hS (J9 ?_ ?_ ?_ ?_ (J2 ?_ ?_ V1)) ?_
 exact X4 fun S B => Z3 _ (evT (B 7 rfl) t7) rfl (qz S)
 exact Y7 fun S V => V4 (eM (V 0 49 rfl rfl)) rfl (qz S)
 exact Y7 fun S V => Y2 Xu3 (eM (V 1 50 rfl rfl)) rfl (qz S)
 exact Y7 fun S V => Y0 (.map (some pb)) Ww2 (eM (V 2 51 rfl rfl)) (S.get (mR (mR mL))) rfl rfl (qz S)
 exact X4 fun S B => W3 Q6 (evT (B 9 rfl) t9) (S.get (mR mL)) rfl rfl (qz S)
 exact X4 fun S B => Z3 _ (evT (B 8 rfl) t8) rfl (qz S)
 intro f3 w7 H5 s5 hS hB hV hcq
 have t52 : f3 52 = .map (some pb) := eM (hV 3 52 (by decide) rfl)
 have t53 : f3 53 = vA (Z6 .i64 (rd M' (m : Int))) := eM (hV 4 53 (by decide) rfl)
 have t54 : f3 54 = vI (m : Int) := eM (hV 5 54 (by decide) rfl)
 have hS : St H5 w7 (Cp ++ ([(bl, .cells #[v0, .map (some pb), vN, vN, vN, vN] 102)] ++ ((bm, .map es clk) :: (S.map Lvl.chunk ++ L)))) := hS.dropA.dropA.swap
 refine Ym8 (a := rd M' (m : Int)) (m := (m : Int)) Ww5 (by exact t52) (by exact t53) (by exact t54) (hop.mono s5) hS ?_
 intro w8 Cp' hop hS
 refine Z2 (X1 (Z0 ?_))
 refine W2 ((m : Int) + 1) (by exact (evT (hB 44 rfl) t44)) rfl (IntWalk.i64_in _ (by omega)) rfl (Z3 (vI ((m : Int) + 1)) rfl rfl (Z2 ?_))
 exact ih _ _ ⟨m + 1, H5, Cp', by omega, by omega, s1.trans s5, hop, hS.swap, (evT (hB 0 rfl) t0), (evT (hB 1 rfl) t1), (evT (hB 7 rfl) t7), (evT (hB 42 rfl) t42), (evT (hB 43 rfl) t43), by show vI ((m : Int) + 1) = vI ((m + 1 : Nat) : Int); rw [Int.natCast_add]; rfl⟩
 refine Z7 (bF hm rfl) (X7 rfl ?_)
 have e : m = M'.length := by omega
 subst e
 exact hx _ _ ⟨H1, Cp, s1, hop, hS, t0, t1, t7⟩
 exact ⟨0, H3, Cp, by omega, by omega, .refl _, hop, hS, t0, t1, t7, rfl, rfl, rfl⟩
 rintro f w ⟨H1, Cp, s1, hop, hS, t0, t1, t7⟩
 have s3 := s3.trans s1
 have hv0 := hv0.mono s1
 have hbox := s1.1 _ _ hbox
 have hap := hap.mono s1
 repeat refine Z1 ?_
 refine Z0 (Z3 (vP bp) (by exact t0) rfl (V4 rfl rfl (Y2 Xe3 rfl rfl ?_)))
 refine Y0 (.map (some bm)) Xv1 rfl (hS.froz _ _ hbox) rfl rfl (Z3 (vI n) (by exact t1) rfl (Z3 (vP bl) (by exact t7) rfl ?_))
 obtain ⟨H4, s4, hS, hrp⟩ := hop.freeze hS.swap
 have hS : St H4 w ((bm, .map es clk) :: ((bl, .cells #[v0, .map (some pb), vN, vN, vN, vN] 102) :: (S.map Lvl.chunk ++ L))) := hS.swap (A := [_]) (B := [_])
 refine Wh7 (m := n) (u := vP bl) rfl rfl rfl hS hes hno ?_
 intro w5 hS
 refine Z2 ?_
 repeat refine Z1 ?_
 refine Z0 (Z3 (vP bl) (by exact t7) rfl (Z5 (vP bl) rfl rfl (Z2 ?_)))
 refine Y9 (vs := [vP bl]) func153 ⟨rfl, trivial⟩ ⟨S.length, ⟨n, bl, v0, .map (some pb), vN, vN, vN, vN⟩, S ++ [⟨n, bl, v0, .map (some pb), vN, vN, vN, vN⟩], H4, _, rfl, s3.trans s4, ?_, ⟨bp, bm, _, es.push { key := vI n, val := vP bl, born := clk }, clk + 1, rfl, s4.1 _ _ hbox, hap.mono s4, rfl, ?_⟩, by simp, rfl, .inr ⟨rfl, ⟨M', q0, hv0.mono s4, hrp⟩, rfl, rfl, rfl, rfl⟩⟩
 refine hS.perm ?_
 refine List.Perm.cons _ ?_
 rw [List.map_append, List.map_singleton]
 show ((S.map Lvl.chunk ++ [_]) ++ L).Perm _
 rw [List.append_assoc]
 exact List.perm_middle
 simp [hes]
def Zh9 (K : Nat) (a0 : ((List Int) × (List MpT))) (a1 : Int) : Option ((List MpT) × Int) := ((Zs1 K (a0.1, a0.2) a1).bind fun r4 => (if r4 = 0 then ((Zm9 K (a0.1, a0.2) a1).bind fun a7 => ((P7 K a0.1 a1).bind fun a8 => ((Zj0 K a7 a8).bind fun a5 => some (a5, 0)))) else some (([] : List MpT), r4)))
theorem Yo1 {a0 : ((List Int) × (List MpT))} {a1 : Int} {r : ((List MpT) × Int)} (q0 : Zh9 K a0 a1 = some r) (a3 : Y3 (Y5 .i64) H s0 a0.1) (a4 : Y3 (X2 yT) H s1 a0.2) (hS : St H w L) :
 Calls prog 35 #[vA ([s0] ++ [s1]), vI a1] w (U7 (fun v G => (R.t2 (R.sl (X2 yT)) (R.int .i64)).p G v r) H L) := by
 have Z4 := Sub.refl H
 refine X0 func35 rfl ntmps35 rfl ?_
 unfold Zh9 at q0
 refine Z1 (Z0 ?_)
 refine T7 (v := vA ([s0] ++ [s1])) ([s0] ++ [s1]).toArray rfl rfl hS rfl ?_
 intro b1 _ hS
 refine Z5 (vN) rfl rfl (Z5 (vI 0) rfl rfl (Z2 (Z1 (Z1 (Z0 ?_)))))
 refine W3 Ya1 rfl (hS.get mL) rfl rfl (Z3 (vI a1) rfl rfl ?_)
 obtain ⟨r4, d6, q0⟩ := bind_some q0
 refine X3 call96 (V2 rfl rfl) rfl (Yz1 d6 a3 a4 hS) ?_
 rintro _ _ _ a9 hS rfl
 have Z4 := Z4.trans a9
 have a3 := a3.mono a9
 have a4 := a4.mono a9
 refine Z5 (vI r4) rfl rfl (Z2 (Z1 (Z0 (Z3 (vI r4) rfl rfl ?_))))
 refine M0 (k := .i64) (a := r4) (b := 0) rfl rfl rfl (Z2 ?_)
 obtain ⟨b0, q0⟩ | ⟨b0, q0⟩ := ic q0
 refine Z7 (bN b0 rfl) (Y6 (Z1 ?_))
 obtain ⟨a7, b8, q0⟩ := bind_some q0
 obtain ⟨a8, b9, q0⟩ := bind_some q0
 obtain ⟨a5, c0, q0⟩ := bind_some q0
 refine W7 10 (S9 [mE 13 (vA ([s0] ++ [s1])), mE 14 (vI a1), (15, MP.rep (R.sl (X2 (Y5 .i64))) (a7)), mE 16 (vP b1), mE 17 (s0), mE 18 (vI a1), (19, MP.rep (R.sl (Q9 .u8)) (a8)), (20, MP.rep (R.sl (X2 yT)) (a5)), (4, MP.sl (X2 yT) (a5)), mE 5 (vI 0)]) [] mixed rfl rfl rfl hS (V9 ?_ ?_ ?_ ?_ ?_ ?_ ?_ ?_ (J2 ?_ ?_ V1)) ?_
 exact X4 fun S B => W3 Ya1 (evT (B 2 rfl) rfl) (S.get (mR mL)) rfl rfl (qz S)
 exact X4 fun S B => Z3 (vI a1) (evT (B 1 rfl) rfl) rfl (qz S)
 intro _ _ _ _ b2 hS _ b3 hcq
 have a3 := a3.mono b2
 have a4 := a4.mono b2
 refine X3 call103 (V2 (eM (b3 0 13 rfl rfl)) (eM (b3 1 14 rfl rfl))) rfl (Yt5 b8 a3 a4 hS) ?_
 rintro _ _ _ c1 hS c2
 exact qn c1 rfl hS c2
 exact X4 fun S B => Y2 L6 (evT (B 2 rfl) rfl) rfl (qz S)
 exact Y7 fun S V => Y0 (s0) P4 (eM (V 3 16 rfl rfl)) (S.get (mR mL)) rfl rfl (qz S)
 exact X4 fun S B => Z3 (vI a1) (evT (B 1 rfl) rfl) rfl (qz S)
 intro _ _ _ _ c3 hS _ b4 hcq
 have a3 := a3.mono c3
 refine X3 call99 (V2 (eM (b4 4 17 rfl rfl)) (eM (b4 5 18 rfl rfl))) rfl (Zc6 b9 a3 hS) ?_
 rintro _ _ _ c4 hS c5
 exact qn c4 rfl hS c5
 intro _ _ _ _ _ hS _ b5 hcq
 obtain ⟨_, d7, c6⟩ := gvR (b5 2 15 rfl rfl)
 obtain ⟨_, d8, c7⟩ := gvR (b5 6 19 rfl rfl)
 refine X3 call97 (V2 d7 d8) rfl (Yw3 c0 c6 c7 hS) ?_
 rintro _ _ _ c8 hS c9
 exact qn c8 rfl hS c9
 intro _ _ _ _ _ hS _ d0 hcq
 obtain ⟨d9, e0, d1⟩ := gvR (d0 7 20 rfl rfl)
 refine Z5 (d9) e0 rfl ?_
 exact qn (.refl _) rfl hS d1
 exact Vj2 fun S => Z5 (vI 0) rfl rfl (qz S)
 intro _ d2 d3 b6 hS _ a6 hcq
 have hS : St d3 d2 ([(b1, cA ([s0] ++ [s1]) 31)] ++ L) := hS
 have Z4 := Z4.trans b6
 obtain ⟨d4, d5, b7⟩ := gvS (a6 8 4 (by decide) rfl)
 refine Z2 ?_
 refine Y9 (vs := [d4, vI 0]) func35 ⟨(by exact d5), (by exact (eM (a6 9 5 (by decide) rfl))), trivial⟩ ?_
 obtain rfl := oi q0
 exact ⟨_, _, rfl, Z4, (St.dropA hS), ⟨_, _, rfl, b7, rfl⟩⟩
 refine Z8 (bO b0 rfl) (Z1 (Z0 (Z3 (vI r4) rfl rfl (Z5 (vN) rfl rfl (Z5 (vI r4) rfl rfl (Z2 ?_))))))
 refine Y9 (vs := [vN, vI r4]) func35 ⟨rfl, rfl, trivial⟩ ?_
 obtain rfl := oi q0
 exact ⟨_, _, rfl, Z4, (St.dropA hS), ⟨_, _, rfl, Y3.nil, rfl⟩⟩
end Go.Proofs.YtabofnehiclkiaaGreat
