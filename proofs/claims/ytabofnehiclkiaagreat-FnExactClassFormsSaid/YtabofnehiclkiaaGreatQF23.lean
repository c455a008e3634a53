/- Walks of functions: each computes its pure function, if that gives a value. -/
import Derived.Test.YtabofnehiclkiaaGreatQF22
namespace Go.Proofs.YtabofnehiclkiaaGreat
open Go Go.Proofs.Tryz
set_option linter.unusedSimpArgs false
set_option linter.unusedVariables false
set_option maxRecDepth 100000
set_option maxHeartbeats 8000000
variable {K : Nat} {H : FH} {w : World} {L : OL} {s0 s1 s2 s3 s4 s5 s6 : Value}
theorem Vd7 : BuI prog 187 #[Value.pointer none, Value.map none] #[(0, 1), (1, 1)] := ⟨_, _, zeroValue187, rfl, runUnderlying187, fun w => by kernel_rfl⟩
theorem Va2 : BuI prog 102 #[vN, Value.map none, vN, vN, vN, vN] #[(0, 1), (1, 1), (2, 1), (3, 1), (4, 1), (5, 1)] := ⟨_, _, zeroValue102, rfl, runUnderlying102, fun w => by kernel_rfl⟩
def Vi1 (x : AlX) (S : List Lvl) (H : FH) (L : OL) : Ending → World → Prop := fun e w' => ∃ p H' C, e = .returned p ∧ Sub H H' ∧ St H' w' (C ++ L) ∧ Cx H' p x S C
theorem Zt5.val {α : Type} {τ : Ty α} {H : FH} {v : Value} {x : α} (h : Zt5 τ H v x) : ∃ b o, v = .pointer (some ⟨b, o, none⟩) := let ⟨b, o, _, _, _, h, _⟩ := h; ⟨b, o, h⟩
theorem Xq9 {H : FH} {w : World} {L : OL} {s0 : Value} {x : AlX} (hs0 : Zt5 Yy9 H s0 x) (hS : St H w L) :
 Calls prog 82 #[s0] w (Vi1 x [] H L) := by
 obtain ⟨ab, ao, rfl⟩ := hs0.val
 refine X0 func82 rfl ntmps82 rfl ?_
 repeat refine Z1 ?_
 refine Z0 (Z5 (.pointer none) rfl rfl (Z2 ?_))
 repeat refine Z1 ?_
 refine Z0 (Z3 (.pointer (some ⟨ab, ao, none⟩)) rfl rfl ?_)
 refine Yi6 hS rfl ?_
 intro bm w2 hS
 refine Zv0 ([.pointer (some ⟨ab, ao, none⟩)] ++ [.map (some bm)]) Vd7 (Ya5 rfl rfl) (G9 rfl rfl rfl (nl rfl) (G9 rfl rfl rfl (nl rfl) (Zq6 rfl))) rfl ?_
 refine T5 (v := vA ([.pointer (some ⟨ab, ao, none⟩)] ++ [.map (some bm)])) #[.pointer (some ⟨ab, ao, none⟩), .map (some bm)] rfl rfl hS rfl ?_
 intro bp w3 hS
 refine Z5 (vP bp) rfl rfl (Z2 ?_)
 have hS : St H w3 ((bp, .cells #[.pointer (some ⟨ab, ao, none⟩), .map (some bm)] 187) :: ([(bm, .map #[] 0)] ++ L)) := hS
 have Z4 := Sub.add (o := .cells #[.pointer (some ⟨ab, ao, none⟩), .map (some bm)] 187) hS.none
 exact Y9 (vs := [vP bp]) func82 ⟨rfl, trivial⟩ ⟨_, _, [(bm, .map #[] 0)], rfl, Z4, hS.freeze, bp, bm, _, #[], 0, rfl, FH.add_self .., hs0.mono Z4, rfl, rfl⟩
def lv0 (K : Nat) (x : AlX) (n : Int) : Option (List A8) := (Zh8 K x.1 n 120).map Prod.fst
def Ya3 (M : List A8) : Nat → MpT
 | 0 => []
 | k + 1 => Zb7 (Ya3 M k) (rd M (k : Int)) (k : Int)
def LvB (K : Nat) (x : AlX) (H : FH) (s : Lvl) : Prop := ∃ M, lv0 K x s.n = some M ∧ Y3 (P0 .i64) H s.v0 M ∧ N1 .i64 H s.v1 (Ya3 M M.length)
theorem LvB.mono {K : Nat} {x : AlX} {H H' : FH} {s : Lvl} (h : LvB K x H s) (hs : Sub H H') : LvB K x H' s := let ⟨M, h1, h2, h3⟩ := h; ⟨M, h1, h2.mono hs, h3.mono hs⟩
def Vi7 (K : Nat) (x : AlX) (n : Int) (p : Value) (S : List Lvl) (H : FH) (L : OL) : Ending → World → Prop := fun e w' => ∃ (i : Nat) (s : Lvl) (S' : List Lvl) (H' : FH) (C : OL), e = .returned (vP s.b) ∧ Sub H H' ∧ St H' w' (C ++ L) ∧ Cx H' p x S' C ∧ S'[i]? = some s ∧ s.n = n ∧
 (S' = S ∨ (S' = S ++ [s] ∧ LvB K x H' s ∧ s.c2 = vN ∧ s.c3 = vN ∧ s.c4 = vN ∧ s.c5 = vN))
theorem Wb7 {K : Nat} {x : AlX} {n : Int} {M : List A8} (q0 : lv0 K x n = some M) {H : FH} {w : World} {L C : OL} {p : Value} {S : List Lvl} (hC : Cx H p x S C) (hS : St H w (C ++ L)) :
 Calls prog 153 #[p, vI n] w (Vi7 K x n p S H L) := by
 obtain ⟨bp, bm, ap, es, clk, rfl, hbox, hap, rfl, hes⟩ := hC
 obtain ⟨ab, ao, rfl⟩ := hap.val
 have hmono := q0
 unfold lv0 at hmono
 obtain ⟨⟨M', mb⟩, hM, hM'⟩ := Option.map_eq_some_iff.1 hmono
 obtain rfl : M' = M := hM'
 refine X0 func153 rfl ntmps153 rfl ?_
 repeat refine Z1 ?_
 refine Z0 (Z5 (.pointer none) rfl rfl (Z2 ?_))
 repeat refine Z1 ?_
 refine Z0 (Z3 (vP bp) rfl rfl (V4 rfl rfl (Y2 Xd1 rfl rfl ?_)))
 refine Y0 (.map (some bm)) Xs2 rfl (hS.froz _ _ hbox) rfl rfl (Z3 (vI n) rfl rfl ?_)
 refine Xi9 (m := n) rfl rfl hS.hd hes rfl ?_ ?_
 intro j s hj hn
 refine Z3 _ rfl rfl (V3 (vP s.b) rfl rfl rfl (V3 (vB true) rfl rfl rfl (Z5 _ rfl rfl (Z5 _ rfl rfl (Z2 ?_)))))
 repeat refine Z1 ?_
 refine Z0 (Z3 (vB true) rfl rfl (Z2 ?_))
 repeat refine Z1 ?_
 refine Z8 rfl ?_
 repeat refine Z1 ?_
 refine Z0 (Z3 (vP s.b) rfl rfl (Z5 (vP s.b) rfl rfl (Z2 ?_)))
 exact Y9 (vs := [vP s.b]) func153 ⟨rfl, trivial⟩ ⟨j, s, S, H, _, rfl, .refl _, hS, ⟨bp, bm, _, es, clk, rfl, hbox, hap, rfl, hes⟩, hj, hn, .inl rfl⟩
 intro hno
 refine Z3 _ rfl rfl (V3 (.pointer none) rfl rfl rfl (V3 (vB false) rfl rfl rfl (Z5 _ rfl rfl (Z5 _ rfl rfl (Z2 ?_)))))
 repeat refine Z1 ?_
 refine Z0 (Z3 (vB false) rfl rfl (Z2 ?_))
 repeat refine Z1 ?_
 refine Z7 rfl (Y6 ?_)
 repeat refine Z1 ?_
 refine Zk4 fun f0 hf0 => ?_
 have t0 : tv f0 0 = vP bp := by rw [hf0]; rfl
 have t1 : tv f0 1 = vI n := by rw [hf0]; rfl
 clear hf0
 refine Z0 ?_
 refine Yh6 (k := .i64) hS rfl ?_
 intro pv w1 Cp hop hS
 obtain ⟨pb, hpv⟩ : ∃ b, pv = .map (some b) := by obtain ⟨_, b, _, _, _, h, _⟩ := hop; exact ⟨b, h⟩
 subst hpv
 refine Zv0 ([vN] ++ ([.map (some pb)] ++ ([vN] ++ ([vN] ++ ([vN] ++ [vN]))))) Va2 (E8 rfl) (G9 rfl rfl rfl (nl rfl) (Zq6 rfl)) rfl ?_
 refine T5 (v := vA ([vN] ++ ([.map (some pb)] ++ ([vN] ++ ([vN] ++ ([vN] ++ [vN])))))) #[vN, .map (some pb), vN, vN, vN, vN] rfl rfl hS rfl ?_
 intro bl w2 hS
 refine Z5 (vP bl) rfl rfl (Z2 ?_)
 repeat refine Z1 ?_
 refine Z0 (Z3 (vP bl) rfl rfl (Z3 (vP bp) (by exact t0) rfl (V4 rfl rfl (Y2 Xc6 rfl rfl ?_))))
 refine Y0 (.pointer (some ⟨ab, ao, none⟩)) Wi4 rfl (hS.froz _ _ hbox) rfl rfl (V4 rfl rfl (Y2 We8 rfl rfl ?_))
 obtain ⟨_, _, acs, aE, _, hap1, hab, ⟨_, _, rfl, ⟨dv, rfl, hdeg⟩, ⟨fv, rfl, hfms⟩⟩, hac⟩ := id hap
 cases hap1
 refine Y0 dv P3 rfl (hS.froz _ _ hab) (hac 0 (by decide)) rfl (Z3 (vI n) (by exact t1) rfl ?_)
 refine T1 call231 (C7 rfl rfl rfl) rfl (Yd3 hM hdeg hS) ?_
 rintro e3 w3 ⟨_, H3, rfl, s3, hS, v0, v1, rfl, hv0, hv1⟩
 refine ⟨_, rfl, ?_⟩
 refine Z3 _ rfl rfl (V3 v0 rfl rfl rfl (V3 v1 rfl rfl rfl (V4 rfl rfl (Y2 Ye0 rfl rfl ?_))))
 obtain ⟨va, vc, ⟨hv0e, hMl⟩, _⟩ := id hv0
 have hMl : M'.length ≤ 9223372036854775807 := hMl.1
 refine K5 (v := v0) (cs := #[vN, .map (some pb), vN, vN, vN, vN]) (cs' := #[v0, .map (some pb), vN, vN, vN, vN]) Yz0 rfl rfl hS (by rw [hv0e]; rfl) (by rw [hv0e]; exact Zt6 rfl) (nl rfl) (by rw [hv0e]; rfl) ?_
 intro w4 hS
 refine Z2 ?_
 repeat refine Z1 ?_
 have hbox := s3.1 _ _ hbox
 have hap := hap.mono s3
 refine Zk4 fun f1 hf1 => ?_
 have t0 : tv f1 0 = vP bp := by rw [hf1]; exact t0
 have t1 : tv f1 1 = vI n := by rw [hf1]; exact t1
 have t7 : tv f1 7 = vP bl := by rw [hf1]; rfl
 clear hf1
 refine Z0 (Z3 (vP bl) (by exact t7) rfl (V4 rfl rfl (Y2 Ye0 rfl rfl ?_)))
 refine Y0 v0 Yz0 rfl hS.hd rfl rfl ?_
 refine X9 Yb1 rfl hv0 rfl (Z3 (vI 0) rfl rfl (Z2 (Y7 ?_)))
 refine W0 (id := 0) (fun k f w => ∃ (m : Nat) (H1 : FH) (Cp : OL), m ≤ M'.length ∧ M'.length < m + k ∧ Sub H3 H1 ∧ Q3 .i64 (.map (some pb)) (Ya3 M' m) Cp ∧ St H1 w ([(bl, .cells #[v0, .map (some pb), vN, vN, vN, vN] 102)] ++ (Cp ++ ((bm, .map es clk) :: (S.map Lvl.chunk ++ L)))) ∧ tv f 0 = vP bp ∧ tv f 1 = vI n ∧ tv f 7 = vP bl ∧ tv f 42 = v0 ∧ tv f 43 = vI (M'.length : Int) ∧ tv f 44 = vI (m : Int))
  (fun f w => ∃ (H1 : FH) (Cp : OL), Sub H3 H1 ∧ Q3 .i64 (.map (some pb)) (Ya3 M' M'.length) Cp ∧ St H1 w ([(bl, .cells #[v0, .map (some pb), vN, vN, vN, vN] 102)] ++ (Cp ++ ((bm, .map es clk) :: (S.map Lvl.chunk ++ L)))) ∧ tv f 0 = vP bp ∧ tv f 1 = vI n ∧ tv f 7 = vP bl) rfl ?_ ?_ (M'.length + 1) ?_ ?_
 rintro f w ⟨m, H1, Cp, h1, h2, _⟩; omega
 rintro k f w ih hx ⟨m, H1, Cp, h1, h2, s1, hop, hS, t0, t1, t7, t42, t43, t44⟩
 have hv0 := hv0.mono s1
 repeat refine Z1 ?_
 refine Z0 ?_
 refine W8 (k := .i64) (a := m) (b := M'.length) (by exact t44) (by exact t43) rfl (Z2 ?_)
 repeat refine Z1 ?_
 by_cases hm : (m : Int) < (M'.length : Int)
 have hm' : m < M'.length := by omega
 refine Z8 (bT hm rfl) (Y6 ?_)
 repeat refine Z1 ?_
 refine Y7 ?_
 repeat refine Z1 ?_
 refine Z0 (Z3 (vI (m : Int)) (by exact t44) rfl ?_)
 obtain ⟨_, _, _, _, _, hp1, hp2, rfl, hp3⟩ := hv0.elem (i := (m : Int)) (by omega) hm
 refine X5 Yb1 rfl (by exact t42) hp1 (by exact t44) (by omega) hm rfl ?_
 refine V2 (Z6 .i64 (rd M' (m : Int))) Q6 rfl (hS.froz _ _ hp2) rfl hp3 rfl ?_
 refine U4 (z := vA (Z6 .i64 (fun _ => 0))) (Z6 .i64 (fun _ => 0)).toArray Zl5.zero rfl hS rfl ?_
 intro bq w5 hS
 refine Z5 (vI (m : Int)) rfl rfl ?_
 refine W4 (v := vA (Z6 .i64 (rd M' (m : Int)))) (vs := (Z6 .i64 (rd M' (m : Int))).toArray) (cs := (Z6 .i64 (fun _ => 0)).toArray) Q6 rfl rfl rfl hS rfl (R3 .i64 (rd M' (m : Int))) rfl ?_
 intro w6 hS
 refine Z2 ?_
 repeat refine Z1 ?_
 refine Zk4 fun f2 hf2 => ?_
 have t0 : tv f2 0 = vP bp := by rw [hf2]; exact t0
 have t1 : tv f2 1 = vI n := by rw [hf2]; exact t1
 have t7 : tv f2 7 = vP bl := by rw [hf2]; exact t7
 have t8 : tv f2 8 = vI (m : Int) := by rw [hf2]; rfl
 have t9 : tv f2 9 = vP bq := by rw [hf2]; rfl
 have t42 : tv f2 42 = v0 := by rw [hf2]; exact t42
 have t43 : tv f2 43 = vI (M'.length : Int) := by rw [hf2]; exact t43
 have t44 : tv f2 44 = vI (m : Int) := by rw [hf2]; exact t44
 clear hf2
 refine W6 6 (S8 [mE 49 (vP bl), mE 50 (vP bl), mE 51 (vQ bl 1), mE 52 (.map (some pb)), mE 53 (vA (Z6 .i64 (rd M' (m : Int)))), mE 54 (vI (m : Int))]) [] mixed rfl rfl rfl hS (I2 ?_ ?_ ?_ ?_ (J3 ?_ ?_ V1)) ?_
 exact X4 fun S B => Z3 _ (evT (B 7 rfl) t7) rfl (qz S)
 exact Y8 fun S V => V4 (eM (V 0 49 rfl rfl)) rfl (qz S)
 exact Y8 fun S V => Y2 Xy8 (eM (V 1 50 rfl rfl)) rfl (qz S)
 exact Y8 fun S V => Y0 (.map (some pb)) Wx6 (eM (V 2 51 rfl rfl)) (S.get (mR (mR mL))) rfl rfl (qz S)
 exact X4 fun S B => W1 Q6 (evT (B 9 rfl) t9) (S.get (mR mL)) rfl rfl (qz S)
 exact X4 fun S B => Z3 _ (evT (B 8 rfl) t8) rfl (qz S)
 intro f3 w7 H5 s5 hS hB hV hcq
 have t52 : f3 52 = .map (some pb) := eM (hV 3 52 (by decide) rfl)
 have t53 : f3 53 = vA (Z6 .i64 (rd M' (m : Int))) := eM (hV 4 53 (by decide) rfl)
 have t54 : f3 54 = vI (m : Int) := eM (hV 5 54 (by decide) rfl)
 have hS : St H5 w7 (Cp ++ ([(bl, .cells #[v0, .map (some pb), vN, vN, vN, vN] 102)] ++ ((bm, .map es clk) :: (S.map Lvl.chunk ++ L)))) := hS.dropA.dropA.swap
 refine Yn3 (a := rd M' (m : Int)) (m := (m : Int)) Wx4 (by exact t52) (by exact t53) (by exact t54) (hop.mono s5) hS ?_
 intro w8 Cp' hop hS
 refine Z2 (X1 (Z0 ?_))
 refine W2 ((m : Int) + 1) (by exact (evT (hB 44 rfl) t44)) rfl (IntWalk.i64_in _ (by omega)) rfl (Z3 (vI ((m : Int) + 1)) rfl rfl (Z2 ?_))
 exact ih _ _ ⟨m + 1, H5, Cp', by omega, by omega, s1.trans s5, hop, hS.swap, (evT (hB 0 rfl) t0), (evT (hB 1 rfl) t1), (evT (hB 7 rfl) t7), (evT (hB 42 rfl) t42), (evT (hB 43 rfl) t43), by show vI ((m : Int) + 1) = vI ((m + 1 : Nat) : Int); rw [Int.natCast_add]; rfl⟩
 refine Z7 (bF hm rfl) (X7 rfl ?_)
 have e : m = M'.length := by omega
 subst e
 exact hx _ _ ⟨H1, Cp, s1, hop, hS, t0, t1, t7⟩
 exact ⟨0, H3, Cp, by omega, by omega, .refl _, hop, hS, t0, t1, t7, rfl, rfl, rfl⟩
 rintro f w ⟨H1, Cp, s1, hop, hS, t0, t1, t7⟩
 have s3 := s3.trans s1
 have hv0 := hv0.mono s1
 have hbox := s1.1 _ _ hbox
 have hap := hap.mono s1
 repeat refine Z1 ?_
 refine Z0 (Z3 (vP bp) (by exact t0) rfl (V4 rfl rfl (Y2 Xd1 rfl rfl ?_)))
 refine Y0 (.map (some bm)) Xs2 rfl (hS.froz _ _ hbox) rfl rfl (Z3 (vI n) (by exact t1) rfl (Z3 (vP bl) (by exact t7) rfl ?_))
 obtain ⟨H4, s4, hS, hrp⟩ := hop.freeze hS.swap
 have hS : St H4 w ((bm, .map es clk) :: ((bl, .cells #[v0, .map (some pb), vN, vN, vN, vN] 102) :: (S.map Lvl.chunk ++ L))) := hS.swap (A := [_]) (B := [_])
 refine Wh5 (m := n) (u := vP bl) rfl rfl rfl hS hes hno ?_
 intro w5 hS
 refine Z2 ?_
 repeat refine Z1 ?_
 refine Z0 (Z3 (vP bl) (by exact t7) rfl (Z5 (vP bl) rfl rfl (Z2 ?_)))
 refine Y9 (vs := [vP bl]) func153 ⟨rfl, trivial⟩ ⟨S.length, ⟨n, bl, v0, .map (some pb), vN, vN, vN, vN⟩, S ++ [⟨n, bl, v0, .map (some pb), vN, vN, vN, vN⟩], H4, _, rfl, s3.trans s4, ?_, ⟨bp, bm, _, es.push { key := vI n, val := vP bl, born := clk }, clk + 1, rfl, s4.1 _ _ hbox, hap.mono s4, rfl, ?_⟩, by simp, rfl, .inr ⟨rfl, ⟨M', q0, hv0.mono s4, hrp⟩, rfl, rfl, rfl, rfl⟩⟩
 refine hS.perm ?_
 refine List.Perm.cons _ ?_
 rw [List.map_append, List.map_singleton]
 show ((S.map Lvl.chunk ++ [_]) ++ L).Perm _
 rw [List.append_assoc]
 exact List.perm_middle
 simp [hes]
def D7 (K : Nat) (a9 : (List (List Int))) (b5 : (List (List Int))) : Nat → (List (List Int)) → Int → Option (Ex (List (List Int)) ((List (List Int))))
 | 0, _, _ => none
 | k + 1, b0, a3 => (if a3 < (a9.length : Int) then ((Zr5 K (rd a9 a3) b5).bind fun f0 => ((Zo7 K b0 f0).bind fun c7 => D7 K a9 b5 k c7 (a3 + 1))) else some (.go b0))
def Zk2 (K : Nat) (a0 : ((List Int) × (List MpT))) (a1 : Int) : Option (List (List Int)) := ((Zn1 K (a0.1, a0.2) a1).bind fun a9 => ((Zn0 K (a0.1, a0.2) a1).bind fun b5 => ((D7 K a9 b5 K ([] : List (List Int)) 0).bind (Ex.elim (fun r => some r) (fun s => (fun (c0 : (List (List Int))) => some c0) s)))))
theorem Yp9 {a0 : ((List Int) × (List MpT))} {a1 : Int} {r : (List (List Int))} (q0 : Zk2 K a0 a1 = some r) (a6 : Y3 (Y4 .i64) H s0 a0.1) (a7 : Y3 (X2 yT) H s1 a0.2) (hS : St H w L) :
 Calls prog 137 #[vA ([s0] ++ [s1]), vI a1] w (U6 (fun v G => (R.sl (X2 (Y4 .i64))).p G v r) H L) := by
 have Z4 := Sub.refl H
 refine X0 func137 rfl ntmps137 rfl ?_
 unfold Zk2 at q0
 refine Z1 (Z0 ?_)
 refine T5 (v := vA ([s0] ++ [s1])) ([s0] ++ [s1]).toArray rfl rfl hS rfl ?_
 intro b1 _ hS
 refine Z5 (vN) rfl rfl (Z2 (Z1 ?_))
 obtain ⟨a9, f1, q0⟩ := bind_some q0
 obtain ⟨b5, f2, q0⟩ := bind_some q0
 refine W6 10 (S8 [mE 9 (vA ([s0] ++ [s1])), mE 10 (vI a1), (11, MP.rep (R.sl (X2 (Y4 .i64))) (a9)), mE 12 (vA ([s0] ++ [s1])), mE 13 (vI a1), (14, MP.rep (R.sl (X2 (Y4 .i64))) (b5)), (15, MP.sl (X2 (Y4 .i64)) (([] : List (List Int)))), (5, MP.sl (X2 (Y4 .i64)) (a9)), (6, MP.sl (X2 (Y4 .i64)) (b5)), (7, MP.sl (X2 (Y4 .i64)) (([] : List (List Int))))]) [] mixed rfl rfl rfl hS (V6 ?_ ?_ ?_ ?_ ?_ ?_ ?_ ?_ (J3 ?_ ?_ V1)) ?_
 exact X4 fun S B => W1 Zt4 (evT (B 2 rfl) rfl) (S.get (mR mL)) rfl rfl (qz S)
 exact X4 fun S B => Z3 (vI a1) (evT (B 1 rfl) rfl) rfl (qz S)
 intro _ _ _ _ d0 hS _ d1 hcq
 have a6 := a6.mono d0
 have a7 := a7.mono d0
 refine X3 call103 (W9 (eM (d1 0 9 rfl rfl)) (eM (d1 1 10 rfl rfl))) rfl (Yu3 f1 a6 a7 hS) ?_
 rintro _ _ _ f3 hS f4
 exact qn f3 rfl hS f4
 exact X4 fun S B => W1 Zt4 (evT (B 2 rfl) rfl) (S.get (mR mL)) rfl rfl (qz S)
 exact X4 fun S B => Z3 (vI a1) (evT (B 1 rfl) rfl) rfl (qz S)
 intro _ _ _ _ d2 hS _ d3 hcq
 have a6 := a6.mono d2
 have a7 := a7.mono d2
 refine X3 call98 (W9 (eM (d3 3 12 rfl rfl)) (eM (d3 4 13 rfl rfl))) rfl (Yt7 f2 a6 a7 hS) ?_
 rintro _ _ _ f5 hS f6
 exact qn f5 rfl hS f6
 intro _ _ _ _ _ hS _ _ hcq
 refine Vb3 (τ := (X2 (Y4 .i64))) U8 Zl2 rfl hS rfl ?_
 intro _ _ _ f7 hS f8
 exact qn f7 rfl hS f8
 intro _ _ _ _ _ hS _ f9 hcq
 obtain ⟨h3, h4, g0⟩ := gvR (f9 2 11 rfl rfl)
 refine Z5 (h3) h4 rfl ?_
 exact qn (.refl _) rfl hS g0
 intro _ _ _ _ _ hS _ g1 hcq
 obtain ⟨h5, h6, g2⟩ := gvR (g1 5 14 rfl rfl)
 refine Z5 (h5) h6 rfl ?_
 exact qn (.refl _) rfl hS g2
 intro _ _ _ _ _ hS _ d8 hcq
 obtain ⟨g3, g4, d9⟩ := gvS (d8 6 15 rfl rfl)
 refine Z5 (g3) g4 rfl ?_
 exact qn (.refl _) rfl hS d9
 intro _ g5 d4 c3 hS _ c4 hcq
 have hS : St d4 g5 ([(b1, cA ([s0] ++ [s1]) 31)] ++ L) := hS
 have Z4 := Z4.trans c3
 have a6 := a6.mono c3
 have a7 := a7.mono c3
 obtain ⟨c5, g6, a5⟩ := gvS (c4 7 5 (by decide) rfl)
 obtain ⟨c8, g7, a8⟩ := gvS (c4 8 6 (by decide) rfl)
 obtain ⟨g8, g9, e0⟩ := gvS (c4 9 7 (by decide) rfl)
 refine Z2 (Z1 (Z1 (Z0 (Z5 (vI 0) rfl rfl (Z2 (Y7 ?_))))))
 obtain ⟨d5, a4, d6⟩ := bind_some q0
 refine W0 (id := 0) (fun k f w => ∃ (b0 : (List (List Int))) (a3 : Int) (H1 : FH) (b2 : Value), D7 K a9 b5 k b0 a3 = some d5 ∧ Sub H H1 ∧ St H1 w ([(b1, cA ([s0] ++ [s1]) 31)] ++ L) ∧ 0 ≤ a3 ∧ Y3 (X2 (Y4 .i64)) H1 b2 b0 ∧ Y3 (Y4 .i64) H1 s0 a0.1 ∧ Y3 (X2 yT) H1 s1 a0.2 ∧ Y3 (X2 (Y4 .i64)) H1 c5 a9 ∧ Y3 (X2 (Y4 .i64)) H1 c8 b5 ∧ tv f 5 = c5 ∧ tv f 6 = c8 ∧ tv f 7 = b2 ∧ tv f 8 = vI a3) (fun f w => ∃ (c0 : (List (List Int))) (H1 : FH) (b3 : Value), d5 = .go c0 ∧ Sub H H1 ∧ St H1 w ([(b1, cA ([s0] ++ [s1]) 31)] ++ L) ∧ Y3 (X2 (Y4 .i64)) H1 b3 c0 ∧ Y3 (Y4 .i64) H1 s0 a0.1 ∧ Y3 (X2 yT) H1 s1 a0.2 ∧ tv f 7 = b3) rfl ?_ ?_ K ?_ ?_
 rintro f w ⟨b0, a3, H1, b2, a4, _⟩
 rw [D7] at a4; cases a4
 rintro k _ _ h7 h8 ⟨b0, a3, h0, b2, a4, Z4, hS, _, b9, a6, a7, a5, a8, b7, c1, c2, b8⟩
 rw [D7] at a4
 refine Z1 (Z1 (Z0 (Z3 (vI a3) (by exact b8) rfl (Z3 (c5) (by exact b7) rfl ?_))))
 have h9 := a5.bound
 refine X9 U8 rfl a5 rfl ?_
 refine W8 (k := .i64) (a := a3) (b := (a9.length : Int)) rfl rfl rfl (Z2 ?_)
 obtain ⟨c6, a4⟩ | ⟨c6, a4⟩ := ic a4
 refine Z8 (bT c6 rfl) (Y6 (Z1 (Y7 (Z0 (Z3 (b2) (by exact c2) rfl (Z3 (c5) (by exact b7) rfl (Z3 (vI a3) (by exact b8) rfl ?_)))))))
 obtain ⟨_, _, _, _, _, e1, e2, ⟨h1, rfl, e3⟩, e4⟩ := a5.elem (i := a3) (by omega) (by omega)
 refine X5 U8 rfl rfl e1 rfl (by omega) (by omega) rfl ?_
 refine Y0 (h1) P3 rfl (hS.froz _ _ e2) (e4 0 (show 0 < 1 by decide)) rfl (Z3 (c8) (by exact c1) rfl ?_)
 obtain ⟨_, e5, a4⟩ := bind_some a4
 refine X3 call164 (W9 rfl rfl) rfl (Ym9 e5 e3 a8 hS) ?_
 rintro _ _ _ b4 hS e6
 have Z4 := Z4.trans b4
 have a5 := a5.mono b4
 have a8 := a8.mono b4
 have b9 := b9.mono b4
 have a6 := a6.mono b4
 have a7 := a7.mono b4
 obtain ⟨c7, e7, a4⟩ := bind_some a4
 refine X3 call224 (W9 rfl rfl) rfl (Yl2 e7 b9 e6 hS) ?_
 rintro d7 h2 _ b6 hS e8
 have Z4 := Z4.trans b6
 have a5 := a5.mono b6
 have a8 := a8.mono b6
 have a6 := a6.mono b6
 have a7 := a7.mono b6
 refine Z5 (d7) rfl rfl (Z2 (X1 (Z0 (Z3 (vI a3) (by exact b8) rfl ?_))))
 refine W2 (a3 + 1) rfl rfl (IntWalk.i64_in _ (by omega)) rfl (Z5 (vI (a3 + 1)) rfl rfl (Z2 ?_))
 exact h7 _ _ ⟨c7, (a3 + 1), h2, d7, a4, Z4, hS, (by omega), e8, a6, a7, a5, a8, b7, c1, rfl, rfl⟩
 refine Z7 (bF c6 rfl) ?_
 refine X7 rfl ?_
 obtain rfl := oi a4
 exact h8 _ _ ⟨b0, h0, b2, rfl, Z4, hS, b9, a6, a7, c2⟩
 exact ⟨([] : List (List Int)), 0, d4, g8, a4, Z4, hS, (by omega), e0, a6, a7, a5, a8, g6, g7, g9, rfl⟩
 rintro _ _ ⟨c0, _, b3, rfl, Z4, hS, e9, a6, a7, c9⟩
 dsimp only [Ex.elim] at d6
 refine Z1 (Z0 (Z3 (b3) (by exact c9) rfl (Z5 (b3) rfl rfl (Z2 ?_))))
 refine Y9 (vs := [b3]) func137 ⟨rfl, trivial⟩ ?_
 obtain rfl := oi d6
 exact ⟨_, _, rfl, Z4, (St.dropA hS), e9⟩
end Go.Proofs.YtabofnehiclkiaaGreat
