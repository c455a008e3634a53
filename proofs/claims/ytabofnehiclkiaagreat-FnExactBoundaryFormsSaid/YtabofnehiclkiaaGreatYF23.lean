/- Walks of functions: each computes its pure function, if that gives a value. -/
import Derived.Test.YtabofnehiclkiaaGreatYF22
import Derived.Test.YtabofnehiclkiaaGreatYF6
namespace Go.Proofs.YtabofnehiclkiaaGreat
open Go
set_option linter.unusedSimpArgs false
set_option linter.unusedVariables false
set_option maxRecDepth 100000
set_option maxHeartbeats 8000000
variable {K : Nat} {H : FH} {w : World} {L : OL} {s0 s1 s2 s3 s4 s5 s6 : Value}
theorem Wx9 : BuI Tryz.prog 187 #[Value.pointer none, Value.map none] #[(0, 1), (1, 1)] := ⟨_, _, Tryz.zeroValue187, rfl, Tryz.runUnderlying187, fun w => by kernel_rfl⟩
theorem Ww3 : BuI Tryz.prog 102 #[vN, Value.map none, vN, vN, vN, vN] #[(0, 1), (1, 1), (2, 1), (3, 1), (4, 1), (5, 1)] := ⟨_, _, Tryz.zeroValue102, rfl, Tryz.runUnderlying102, fun w => by kernel_rfl⟩
def Vc1 (x : AlX) (S : List Lvl) (H : FH) (L : OL) : Ending → World → Prop := fun e w' => ∃ p H' C, e = .returned p ∧ Sub H H' ∧ St H' w' (C ++ L) ∧ Cx H' p x S C
theorem Zs0.val {α : Type} {τ : Ty α} {H : FH} {v : Value} {x : α} (h : Zs0 τ H v x) : ∃ b o, v = .pointer (some ⟨b, o, none⟩) := let ⟨b, o, _, _, _, h, _⟩ := h; ⟨b, o, h⟩
theorem Xo9 {H : FH} {w : World} {L : OL} {s0 : Value} {x : AlX} (hs0 : Zs0 Yw6 H s0 x) (hS : St H w L) :
 Calls Tryz.prog 82 #[s0] w (Vc1 x [] H L) := by
 obtain ⟨ab, ao, rfl⟩ := hs0.val
 refine X1 Tryz.func82 rfl Tryz.ntmps82 rfl ?_
 repeat refine Z1 ?_
 refine Z0 (Z5 (.pointer none) rfl rfl (Z2 ?_))
 repeat refine Z1 ?_
 refine Z0 (Z3 (.pointer (some ⟨ab, ao, none⟩)) rfl rfl ?_)
 refine Yf8 hS rfl ?_
 intro bm w2 hS
 refine Zt2 ([.pointer (some ⟨ab, ao, none⟩)] ++ [.map (some bm)]) Wx9 (Zy6 rfl rfl) (I7 rfl rfl rfl (nl rfl) (I7 rfl rfl rfl (nl rfl) (Zo7 rfl))) rfl ?_
 refine T6 (v := vA ([.pointer (some ⟨ab, ao, none⟩)] ++ [.map (some bm)])) #[.pointer (some ⟨ab, ao, none⟩), .map (some bm)] rfl rfl hS rfl ?_
 intro bp w3 hS
 refine Z5 (vP bp) rfl rfl (Z2 ?_)
 have hS : St H w3 ((bp, .cells #[.pointer (some ⟨ab, ao, none⟩), .map (some bm)] 187) :: ([(bm, .map #[] 0)] ++ L)) := hS
 have Z4 := Sub.add (o := .cells #[.pointer (some ⟨ab, ao, none⟩), .map (some bm)] 187) hS.none
 exact X0 (vs := [vP bp]) Tryz.func82 ⟨rfl, trivial⟩ ⟨_, _, [(bm, .map #[] 0)], rfl, Z4, hS.freeze, bp, bm, _, #[], 0, rfl, FH.add_self .., hs0.mono Z4, rfl, rfl⟩
/-- the monomials of a level, and where they stand -/
def lv0 (K : Nat) (x : AlX) (n : Int) : Option (List A8) := (Zg0 K x.1 n 120).map Prod.fst
def Zy4 (M : List A8) : Nat → MpT
 | 0 => []
 | k + 1 => Za7 (Zy4 M k) (rd M (k : Int)) (k : Int)
def LvB (K : Nat) (x : AlX) (H : FH) (s : Lvl) : Prop := ∃ M, lv0 K x s.n = some M ∧ Y4 (P0 .i64) H s.v0 M ∧ P9 .i64 H s.v1 (Zy4 M M.length)
theorem LvB.mono {K : Nat} {x : AlX} {H H' : FH} {s : Lvl} (h : LvB K x H s) (hs : Sub H H') : LvB K x H' s := let ⟨M, h1, h2, h3⟩ := h; ⟨M, h1, h2.mono hs, h3.mono hs⟩
/-- what bare leaves -/
def Vf3 (K : Nat) (x : AlX) (n : Int) (p : Value) (S : List Lvl) (H : FH) (L : OL) : Ending → World → Prop := fun e w' => ∃ (i : Nat) (s : Lvl) (S' : List Lvl) (H' : FH) (C : OL), e = .returned (vP s.b) ∧ Sub H H' ∧ St H' w' (C ++ L) ∧ Cx H' p x S' C ∧ S'[i]? = some s ∧ s.n = n ∧
 (S' = S ∨ (S' = S ++ [s] ∧ LvB K x H' s ∧ s.c2 = vN ∧ s.c3 = vN ∧ s.c4 = vN ∧ s.c5 = vN))
theorem Xy7 {K : Nat} {x : AlX} {n : Int} {M : List A8} (q0 : lv0 K x n = some M) {H : FH} {w : World} {L C : OL} {p : Value} {S : List Lvl} (hC : Cx H p x S C) (hS : St H w (C ++ L)) :
 Calls Tryz.prog 153 #[p, vI n] w (Vf3 K x n p S H L) := by
 obtain ⟨bp, bm, ap, es, clk, rfl, hbox, hap, rfl, hes⟩ := hC
 obtain ⟨ab, ao, rfl⟩ := hap.val
 have hmono := q0
 unfold lv0 at hmono
 obtain ⟨⟨M', mb⟩, hM, hM'⟩ := Option.map_eq_some_iff.1 hmono
 obtain rfl : M' = M := hM'
 refine X1 Tryz.func153 rfl Tryz.ntmps153 rfl ?_
 repeat refine Z1 ?_
 refine Z0 (Z5 (.pointer none) rfl rfl (Z2 ?_))
 repeat refine Z1 ?_
 refine Z0 (Z3 (vP bp) rfl rfl (V4 rfl rfl (Y3 Xc0 rfl rfl ?_)))
 refine Y1 (.map (some bm)) Xv5 rfl (hS.froz _ _ hbox) rfl rfl (Z3 (vI n) rfl rfl ?_)
 refine Xh4 (m := n) rfl rfl hS.hd hes rfl ?_ ?_
 intro j s hj hn
 refine Z3 _ rfl rfl (V3 (vP s.b) rfl rfl rfl (V3 (vB true) rfl rfl rfl (Z5 _ rfl rfl (Z5 _ rfl rfl (Z2 ?_)))))
 repeat refine Z1 ?_
 refine Z0 (Z3 (vB true) rfl rfl (Z2 ?_))
 repeat refine Z1 ?_
 refine Z9 rfl ?_
 repeat refine Z1 ?_
 refine Z0 (Z3 (vP s.b) rfl rfl (Z5 (vP s.b) rfl rfl (Z2 ?_)))
 exact X0 (vs := [vP s.b]) Tryz.func153 ⟨rfl, trivial⟩ ⟨j, s, S, H, _, rfl, .refl _, hS, ⟨bp, bm, _, es, clk, rfl, hbox, hap, rfl, hes⟩, hj, hn, .inl rfl⟩
 intro hno
 refine Z3 _ rfl rfl (V3 (.pointer none) rfl rfl rfl (V3 (vB false) rfl rfl rfl (Z5 _ rfl rfl (Z5 _ rfl rfl (Z2 ?_)))))
 repeat refine Z1 ?_
 refine Z0 (Z3 (vB false) rfl rfl (Z2 ?_))
 repeat refine Z1 ?_
 refine Z8 rfl (Y6 ?_)
 repeat refine Z1 ?_
 refine Zj0 fun f0 hf0 => ?_
 have t0 : tv f0 0 = vP bp := by rw [hf0]; rfl
 have t1 : tv f0 1 = vI n := by rw [hf0]; rfl
 clear hf0
 refine Z0 ?_
 refine Yf0 (k := .i64) hS rfl ?_
 intro pv w1 Cp hop hS
 obtain ⟨pb, hpv⟩ : ∃ b, pv = .map (some b) := by obtain ⟨_, b, _, _, _, h, _⟩ := hop; exact ⟨b, h⟩
 subst hpv
 refine Zt2 ([vN] ++ ([.map (some pb)] ++ ([vN] ++ ([vN] ++ ([vN] ++ [vN]))))) Ww3 (B0 rfl) (I7 rfl rfl rfl (nl rfl) (Zo7 rfl)) rfl ?_
 refine T6 (v := vA ([vN] ++ ([.map (some pb)] ++ ([vN] ++ ([vN] ++ ([vN] ++ [vN])))))) #[vN, .map (some pb), vN, vN, vN, vN] rfl rfl hS rfl ?_
 intro bl w2 hS
 refine Z5 (vP bl) rfl rfl (Z2 ?_)
 repeat refine Z1 ?_
 refine Z0 (Z3 (vP bl) rfl rfl (Z3 (vP bp) (by exact t0) rfl (V4 rfl rfl (Y3 Xb8 rfl rfl ?_))))
 refine Y1 (.pointer (some ⟨ab, ao, none⟩)) Wd7 rfl (hS.froz _ _ hbox) rfl rfl (V4 rfl rfl (Y3 Wb3 rfl rfl ?_))
 obtain ⟨_, _, acs, aE, _, hap1, hab, ⟨_, _, rfl, ⟨dv, rfl, hdeg⟩, ⟨fv, rfl, hfms⟩⟩, hac⟩ := id hap
 cases hap1
 refine Y1 dv P6 rfl (hS.froz _ _ hab) (hac 0 (by decide)) rfl (Z3 (vI n) (by exact t1) rfl ?_)
 refine U8 Tryz.call231 (D0 rfl rfl rfl) rfl (Yb0 hM hdeg hS) ?_
 rintro e3 w3 ⟨_, H3, rfl, s3, hS, v0, v1, rfl, hv0, hv1⟩
 refine ⟨_, rfl, ?_⟩
 refine Z3 _ rfl rfl (V3 v0 rfl rfl rfl (V3 v1 rfl rfl rfl (V4 rfl rfl (Y3 Yd1 rfl rfl ?_))))
 obtain ⟨va, vc, ⟨hv0e, hMl⟩, _⟩ := id hv0
 have hMl : M'.length ≤ 9223372036854775807 := hMl.1
 refine K3 (v := v0) (cs := #[vN, .map (some pb), vN, vN, vN, vN]) (cs' := #[v0, .map (some pb), vN, vN, vN, vN]) Yv9 rfl rfl hS (by rw [hv0e]; rfl) (by rw [hv0e]; exact Zr7 rfl) (nl rfl) (by rw [hv0e]; rfl) ?_
 intro w4 hS
 refine Z2 ?_
 repeat refine Z1 ?_
 have hbox := s3.1 _ _ hbox
 have hap := hap.mono s3
 refine Zj0 fun f1 hf1 => ?_
 have t0 : tv f1 0 = vP bp := by rw [hf1]; exact t0
 have t1 : tv f1 1 = vI n := by rw [hf1]; exact t1
 have t7 : tv f1 7 = vP bl := by rw [hf1]; rfl
 clear hf1
 refine Z0 (Z3 (vP bl) (by exact t7) rfl (V4 rfl rfl (Y3 Yd1 rfl rfl ?_)))
 refine Y1 v0 Yv9 rfl hS.hd rfl rfl ?_
 refine X9 Zz2 rfl hv0 rfl (Z3 (vI 0) rfl rfl (Z2 (Y8 ?_)))
 refine W1 (id := 0) (fun k f w => ∃ (m : Nat) (H1 : FH) (Cp : OL), m ≤ M'.length ∧ M'.length < m + k ∧ Sub H3 H1 ∧ Q0 .i64 (.map (some pb)) (Zy4 M' m) Cp ∧ St H1 w ([(bl, .cells #[v0, .map (some pb), vN, vN, vN, vN] 102)] ++ (Cp ++ ((bm, .map es clk) :: (S.map Lvl.chunk ++ L)))) ∧ tv f 0 = vP bp ∧ tv f 1 = vI n ∧ tv f 7 = vP bl ∧ tv f 42 = v0 ∧ tv f 43 = vI (M'.length : Int) ∧ tv f 44 = vI (m : Int))
  (fun f w => ∃ (H1 : FH) (Cp : OL), Sub H3 H1 ∧ Q0 .i64 (.map (some pb)) (Zy4 M' M'.length) Cp ∧ St H1 w ([(bl, .cells #[v0, .map (some pb), vN, vN, vN, vN] 102)] ++ (Cp ++ ((bm, .map es clk) :: (S.map Lvl.chunk ++ L)))) ∧ tv f 0 = vP bp ∧ tv f 1 = vI n ∧ tv f 7 = vP bl) rfl ?_ ?_ (M'.length + 1) ?_ ?_
 rintro f w ⟨m, H1, Cp, h1, h2, _⟩; omega
 rintro k f w ih hx ⟨m, H1, Cp, h1, h2, s1, hop, hS, t0, t1, t7, t42, t43, t44⟩
 have hv0 := hv0.mono s1
 repeat refine Z1 ?_
 refine Z0 ?_
 refine W9 (k := .i64) (a := m) (b := M'.length) (by exact t44) (by exact t43) rfl (Z2 ?_)
 repeat refine Z1 ?_
 by_cases hm : (m : Int) < (M'.length : Int)
 have hm' : m < M'.length := by omega
 refine Z9 (bT hm rfl) (Y6 ?_)
 repeat refine Z1 ?_
 refine Y8 ?_
 repeat refine Z1 ?_
 refine Z0 (Z3 (vI (m : Int)) (by exact t44) rfl ?_)
 obtain ⟨_, _, _, _, _, hp1, hp2, rfl, hp3⟩ := hv0.elem (i := (m : Int)) (by omega) hm
 refine X6 Zz2 rfl (by exact t42) hp1 (by exact t44) (by omega) hm rfl ?_
 refine V1 (Z7 .i64 (rd M' (m : Int))) Q5 rfl (hS.froz _ _ hp2) rfl hp3 rfl ?_
 refine U3 (z := vA (Z7 .i64 (fun _ => 0))) (Z7 .i64 (fun _ => 0)).toArray Zj8.zero rfl hS rfl ?_
 intro bq w5 hS
 refine Z5 (vI (m : Int)) rfl rfl ?_
 refine W5 (v := vA (Z7 .i64 (rd M' (m : Int)))) (vs := (Z7 .i64 (rd M' (m : Int))).toArray) (cs := (Z7 .i64 (fun _ => 0)).toArray) Q5 rfl rfl rfl hS rfl (S7 .i64 (rd M' (m : Int))) rfl ?_
 intro w6 hS
 refine Z2 ?_
 repeat refine Z1 ?_
 refine Zj0 fun f2 hf2 => ?_
 have t0 : tv f2 0 = vP bp := by rw [hf2]; exact t0
 have t1 : tv f2 1 = vI n := by rw [hf2]; exact t1
 have t7 : tv f2 7 = vP bl := by rw [hf2]; exact t7
 have t8 : tv f2 8 = vI (m : Int) := by rw [hf2]; rfl
 have t9 : tv f2 9 = vP bq := by rw [hf2]; rfl
 have t42 : tv f2 42 = v0 := by rw [hf2]; exact t42
 have t43 : tv f2 43 = vI (M'.length : Int) := by rw [hf2]; exact t43
 have t44 : tv f2 44 = vI (m : Int) := by rw [hf2]; exact t44
 clear hf2
 refine W8 6 (S8 [mE 49 (vP bl), mE 50 (vP bl), mE 51 (vQ bl 1), mE 52 (.map (some pb)), mE 53 (vA (Z7 .i64 (rd M' (m : Int)))), mE 54 (vI (m : Int))]) [] mixed rfl rfl rfl hS (Z6 rfl ?_ (Z6 rfl ?_ (Z6 rfl ?_ (Z6 rfl ?_ (Z6 rfl ?_ (Z6 rfl ?_ V2)))))) ?_
 exact X5 fun S B => Z3 _ (evT (B 7 rfl) t7) rfl (qz S)
 exact Y7 fun S V => V4 (eM (V 0 49 rfl rfl)) rfl (qz S)
 exact Y7 fun S V => Y3 Xu2 (eM (V 1 50 rfl rfl)) rfl (qz S)
 exact Y7 fun S V => Y1 (.map (some pb)) Wv2 (eM (V 2 51 rfl rfl)) (S.get (mR (mR mL))) rfl rfl (qz S)
 exact X5 fun S B => W3 Q5 (evT (B 9 rfl) t9) (S.get (mR mL)) rfl rfl (qz S)
 exact X5 fun S B => Z3 _ (evT (B 8 rfl) t8) rfl (qz S)
 intro f3 w7 H5 s5 hS hB hV hcq
 have t52 : f3 52 = .map (some pb) := eM (hV 3 52 (by decide) rfl)
 have t53 : f3 53 = vA (Z7 .i64 (rd M' (m : Int))) := eM (hV 4 53 (by decide) rfl)
 have t54 : f3 54 = vI (m : Int) := eM (hV 5 54 (by decide) rfl)
 have hS : St H5 w7 (Cp ++ ([(bl, .cells #[v0, .map (some pb), vN, vN, vN, vN] 102)] ++ ((bm, .map es clk) :: (S.map Lvl.chunk ++ L)))) := hS.dropA.dropA.swap
 refine Ym1 (a := rd M' (m : Int)) (m := (m : Int)) Wu5 (by exact t52) (by exact t53) (by exact t54) (hop.mono s5) hS ?_
 intro w8 Cp' hop hS
 refine Z2 (X2 (Z0 ?_))
 refine W4 ((m : Int) + 1) (by exact (evT (hB 44 rfl) t44)) rfl (IntWalk.i64_in _ (by omega)) rfl (Z3 (vI ((m : Int) + 1)) rfl rfl (Z2 ?_))
 exact ih _ _ ⟨m + 1, H5, Cp', by omega, by omega, s1.trans s5, hop, hS.swap, (evT (hB 0 rfl) t0), (evT (hB 1 rfl) t1), (evT (hB 7 rfl) t7), (evT (hB 42 rfl) t42), (evT (hB 43 rfl) t43), by show vI ((m : Int) + 1) = vI ((m + 1 : Nat) : Int); rw [Int.natCast_add]; rfl⟩
 refine Z8 (bF hm rfl) (X8 rfl ?_)
 have e : m = M'.length := by omega
 subst e
 exact hx _ _ ⟨H1, Cp, s1, hop, hS, t0, t1, t7⟩
 exact ⟨0, H3, Cp, by omega, by omega, .refl _, hop, hS, t0, t1, t7, rfl, rfl, rfl⟩
 rintro f w ⟨H1, Cp, s1, hop, hS, t0, t1, t7⟩
 have s3 := s3.trans s1
 have hv0 := hv0.mono s1
 have hbox := s1.1 _ _ hbox
 have hap := hap.mono s1
 repeat refine Z1 ?_
 refine Z0 (Z3 (vP bp) (by exact t0) rfl (V4 rfl rfl (Y3 Xc0 rfl rfl ?_)))
 refine Y1 (.map (some bm)) Xv5 rfl (hS.froz _ _ hbox) rfl rfl (Z3 (vI n) (by exact t1) rfl (Z3 (vP bl) (by exact t7) rfl ?_))
 obtain ⟨H4, s4, hS, hrp⟩ := hop.freeze hS.swap
 have hS : St H4 w ((bm, .map es clk) :: ((bl, .cells #[v0, .map (some pb), vN, vN, vN, vN] 102) :: (S.map Lvl.chunk ++ L))) := hS.swap (A := [_]) (B := [_])
 refine Wg4 (m := n) (u := vP bl) rfl rfl rfl hS hes hno ?_
 intro w5 hS
 refine Z2 ?_
 repeat refine Z1 ?_
 refine Z0 (Z3 (vP bl) (by exact t7) rfl (Z5 (vP bl) rfl rfl (Z2 ?_)))
 refine X0 (vs := [vP bl]) Tryz.func153 ⟨rfl, trivial⟩ ⟨S.length, ⟨n, bl, v0, .map (some pb), vN, vN, vN, vN⟩, S ++ [⟨n, bl, v0, .map (some pb), vN, vN, vN, vN⟩], H4, _, rfl, s3.trans s4, ?_, ⟨bp, bm, _, es.push { key := vI n, val := vP bl, born := clk }, clk + 1, rfl, s4.1 _ _ hbox, hap.mono s4, rfl, ?_⟩, by simp, rfl, .inr ⟨rfl, ⟨M', q0, hv0.mono s4, hrp⟩, rfl, rfl, rfl, rfl⟩⟩
 refine hS.perm ?_
 refine List.Perm.cons _ ?_
 rw [List.map_append, List.map_singleton]
 show ((S.map Lvl.chunk ++ [_]) ++ L).Perm _
 rw [List.append_assoc]
 exact List.perm_middle
 simp [hes]
end Go.Proofs.YtabofnehiclkiaaGreat
