/- Lemmas for the proof of a law: Contract of the law's wrong. Conditions: none. -/
import Derived.Test.YtaongbhamadlkaaGreatSv12
import Derived.Test.YtaongbhamadlkaaGreatSv11
set_option linter.unusedVariables false
set_option linter.unusedSimpArgs false
set_option linter.unusedSectionVars false
namespace Go.Proofs.YtaongbhamadlkaaGreat
open W Go.RowKit
def IsWr : RPost := fun v B G => ∃ (M : Pm) (vars : Int) (m gn : Nat) (ln : Nat → Nat) (a : Nat → Nat → Rat) (b gq : Nat → Rat) (E : Int), v = .tuple #[pgv M vars, .int .i64 E] ∧ B = [] ∧ G = [fPg M m gn ln a b gq] ∧ vldP vars m gn ln = E ∧ (E = 1 ∨ E = 4)
theorem vld_goal {v m gn : Nat} {ln : Nat → Nat} (hv : v ≤ 48) (hm : m ≤ 128) (h : gn ≠ v) : vldP v m gn ln = 1 := by
  unfold vldP
  rw [if_neg (by omega), if_pos (.inr (.inl (by omega)))]
theorem vld_line {v m gn i : Nat} {ln : Nat → Nat} (hv : v ≤ 48) (hm : m ≤ 128) (hi : i < m) (h : ln i ≠ v) : vldP v m gn ln = 1 := by
  unfold vldP
  rw [if_neg (by omega)]
  refine if_pos (.inr (.inr ?_))
  rcases X.fstT_spec (fun i => decide ((ln i : Int) ≠ v)) m 0 with ⟨h1, h2⟩ | ⟨j, h1, _⟩
  · have := of_decide_eq_false (h2 i (by omega) (by omega))
    omega
  · rw [h1]; rfl
theorem has_pg {F : List Fct} {M : Pm} {m gn : Nat} {ln : Nat → Nat} {a : Nat → Nat → Rat} {b g : Nat → Rat} (h1 : Has F (slC M.lv m 5 (pcell M.av M.mb))) (h2 : ∀ i, i < m → Has F (fF (M.av i) (ln i) (M.ma i) (a i))) (h3 : Has F (mF m M.mb b)) (h4 : Has F (fF M.gv gn M.mg g)) : Has F (fPg M m gn ln a b g) := fun p hp => ⟨h1 p hp, fun i hi => h2 i hi p hp, h3 p hp, h4 p hp⟩
theorem slC_nil {F : List Fct} {f : Nat → Value} {sz : Nat} : Has F (slC (.slice none 0 0) 0 sz f) := fun p hp => ⟨none, 0, rfl, Nat.le_refl _, by unfold maxLen; omega, .inl ⟨rfl, rfl, rfl⟩⟩
namespace U
open Z
attribute [local irreducible] WC WL WD YO LO LoopEnd W.Fin Scalar SliceT FieldAt Row ArrT AllocT KnS Has W.One SrcE IntT
set_option maxHeartbeats 8000000 in
set_option maxRecDepth 60000 in
theorem wrong_c (M : Pm) (vn : Nat) (L : List X.Ln) (gf : Nat → Rat) (how : Int) (hh : I64 how) (hv : vn ≤ 48) (hv0 : 1 ≤ vn) (hm : L.length ≤ 100) : FnB Tryz.prog 14 [pgv M vn, .int .i64 how] [] [fP M (X.lpOf vn L gf)] IsWr := by
  refine fn_of [(0, (pgv M vn)), (1, (.int .i64 how))] 40 Tryz.func14 rfl Tryz.ntmps14 (by kernel_rfl) rfl suA fun h0 => ?_
  have hr := around_lt (n := how) (m := 5) (by decide)
  refine WC.fact (fLn M vn L) (W.Has.pL (g := gf) hmA) ?_
  refine WC.fact (fF M.gv vn M.mg gf) (W.Has.pG (L := L) hmA) ?_
  refine WC.fact (isQ (qv m00) 0) hasQ0 ?_
  refine WC.fact (fF (.slice none 0 0) 0 (fun _ => m00) (fun _ => 0)) (has_nil0F _ _) ?_
  repeat' (first | refine gA ?_ | (refine goG ?_; intro g) | (refine goV ?_; intro v))
  first | refine WL.callV (around_c how 5 hh (by decide)) ?_ | refine WD.callV (around_c how 5 hh (by decide)) ?_
  by_cases c0 : around how 5 = 0
  · repeat' (first | refine gA ?_ | (refine goG ?_; intro g) | (refine goV ?_; intro v))
    refine WC.freezeF v (vn + 1) (upd M.mg vn m00) (upd gf vn 0) (by repeat (first | exact Sel.head | apply Sel.tail)) (W.Has.mFapp (W.Has.fm (v := M.gv) (ms := M.mg) hmA) hmA) ?_
    refine WC.ret ?_
    exact Fin.p [] [fPg (M.wg v (upd M.mg vn m00)) L.length (vn + 1) (fun _ => vn) (X.ca L) (X.cb L) (upd gf vn 0)] (ResE.cT rfl rfl meA T.r26 rfl rfl) meA (List.nil_sublist _)
      (.cons (has_pg (W.Has.lns (M := M) (w := vn) hmA) (fun i hi => W.Has.lna (W.Has.lnq (M := M) (w := vn) hmA) hi) (W.Has.lnbs (W.Has.lnq (M := M) (w := vn) hmA)) (show Has _ (fF v (vn + 1) _ _) from hmA)) .nil) ⟨_, vn, _, _, _, _, _, _, 1, rfl, rfl, rfl, vld_goal hv (by omega) (by omega), .inl rfl⟩
  by_cases c1 : around how 5 = 1
  · repeat' (first | refine gA ?_ | (refine goG ?_; intro g) | (refine goV ?_; intro v))
    refine WC.freezeLs v (M.app L.length (.slice none 0 0) (fun _ => m00) m00) (L.length + 1) (by repeat (first | exact Sel.head | apply Sel.tail)) ?_
    refine WC.ret ?_
    exact Fin.p [] [fPg ((M.app L.length (.slice none 0 0) (fun _ => m00) m00).at v) (L.length + 1) vn (fun i => if i < L.length then vn else 0) (upd (X.ca L) L.length fun _ => 0) (upd (X.cb L) L.length 0) gf] (ResE.cT rfl rfl meA T.r26 rfl rfl) meA (List.nil_sublist _)
      (.cons (has_pg (show Has _ (slC v (L.length + 1) 5 _) from hmA) (fun i hi => by
        by_cases e : i < L.length
        · show Has _ (fF (upd M.av L.length _ i) (if i < L.length then vn else 0) (upd M.ma L.length _ i) (upd (X.ca L) L.length _ i))
          rw [upd_ne (by omega), upd_ne (by omega), upd_ne (by omega), if_pos e]
          exact W.Has.lna (W.Has.lnq (M := M) (w := vn) hmA) e
        · obtain rfl : i = L.length := by omega
          show Has _ (fF (upd M.av L.length _ L.length) (if L.length < L.length then vn else 0) (upd M.ma L.length _ L.length) (upd (X.ca L) L.length _ L.length))
          rw [upd_at, upd_at, upd_at, if_neg e]; exact hmA) (W.Has.mFapp (W.Has.lnbs (W.Has.lnq (M := M) (w := vn) hmA)) hasQ0) (show Has _ (fF M.gv vn M.mg gf) from hmA)) .nil)
      ⟨_, vn, _, _, _, _, _, _, 1, rfl, rfl, rfl, vld_line (i := L.length) hv (by omega) (by omega) (by rw [if_neg (by omega)]; omega), .inl rfl⟩
  by_cases c2 : around how 5 = 2
  · repeat' (first | refine gA ?_ | (refine goG ?_; intro g) | (refine goV ?_; intro v))
    refine WC.ret ?_
    exact Fin.p [] [fPg Pm.no 0 0 (fun _ => 0) (fun _ _ => 0) (fun _ => 0) (fun _ => 0)] (ResE.cT rfl rfl meA T.r26 rfl rfl) meA (List.nil_sublist _) (.cons (has_pg slC_nil (fun i hi => absurd hi (by omega)) (W.Has.mFn _ _) (has_nil0F _ _)) .nil) ⟨Pm.no, -1, 0, 0, _, _, _, _, 1, rfl, rfl, rfl, rfl, .inl rfl⟩
  by_cases c3 : around how 5 = 3
  · repeat' (first | refine gA ?_ | (refine goG ?_; intro g) | (refine goV ?_; intro v))
    refine WC.ret ?_
    exact Fin.p [] [fPg Pm.no 0 0 (fun _ => 0) (fun _ _ => 0) (fun _ => 0) (fun _ => 0)] (ResE.cT rfl rfl meA T.r26 rfl rfl) meA (List.nil_sublist _) (.cons (has_pg slC_nil (fun i hi => absurd hi (by omega)) (W.Has.mFn _ _) (has_nil0F _ _)) .nil) ⟨Pm.no, 49, 0, 0, _, _, _, _, 4, rfl, rfl, rfl, rfl, .inr rfl⟩
  · repeat' (first | refine gA ?_ | (refine goG ?_; intro g) | (refine goV ?_; intro v))
    refine WL.l rfl rfl (LO.makeLn (n := 129) rfl rfl (NatI.cast 129) (by decide) fun v => ?_)
    repeat' (first | refine gA ?_ | (refine goG ?_; intro g) | (refine goV ?_; intro v))
    refine WC.freezeLs v Pm.no 129 (by repeat (first | exact Sel.head | apply Sel.tail)) ?_
    refine WC.ret ?_
    exact Fin.p [] [fPg (Pm.no.at v) 129 0 (fun _ => 0) (fun _ _ => 0) (fun _ => 0) (fun _ => 0)] (ResE.cT rfl rfl meA T.r26 rfl rfl) meA (List.nil_sublist _) (.cons (has_pg (show Has _ (slC v 129 5 _) from hmA) (fun i hi => has_nil0F _ _) (W.Has.mF0 _) (has_nil0F _ _)) .nil) ⟨Pm.no.at v, -3, 129, 0, _, _, _, _, 4, rfl, rfl, rfl, rfl, .inr rfl⟩
end U
end Go.Proofs.YtaongbhamadlkaaGreat
namespace Go.Proofs.YtaongbhamadlkaaGreat
open W Go.RowKit
theorem v3 {P : Nat → Prop} {v : Nat} (h : 1 ≤ v ∧ v ≤ 3) (h1 : P 1) (h2 : P 2) (h3 : P 3) : P v := by
  match v, h with
  | 1, _ => exact h1
  | 2, _ => exact h2
  | 3, _ => exact h3
theorem someFits (l : List Int) : Fits (someV l) 6 1 := v3 (P := fun v => Fits v 6 1) (someV_le l) ⟨by decide +kernel, by decide +kernel, by decide, by decide, by decide⟩ ⟨by decide +kernel, by decide +kernel, by decide, by decide, by decide⟩ ⟨by decide +kernel, by decide +kernel, by decide, by decide, by decide⟩
theorem someDok (l : List Int) : Dok (someV l) (szR (someV l) 6 1) := v3 (P := fun v => Dok v (szR v 6 1)) (someV_le l) (by unfold Dok; decide +kernel) (by unfold Dok; decide +kernel) (by unfold Dok; decide +kernel)
theorem someDok6 (l : List Int) : Dok 6 (szR (someV l) 6 1) := v3 (P := fun v => Dok 6 (szR v 6 1)) (someV_le l) (by unfold Dok; decide +kernel) (by unfold Dok; decide +kernel) (by unfold Dok; decide +kernel)
theorem FMok.le {w n n' K : Nat} (h : FMok w n K) (hn : n' ≤ n) : FMok w n' K := ⟨fun k hk => Nat.le_trans (X.nbs_mono hn k) (h.n k hk), h.k⟩
theorem fin_all {n : Nat} {P : Nat → Prop} (h : ∀ r : Fin (n + 1), P r.1) : ∀ k, k ≤ n → P k := fun k hk => h ⟨k, by omega⟩
theorem someFM (l : List Int) : FMok (someV l) 7 1 := v3 (P := fun v => FMok v 7 1) (someV_le l) ⟨fin_all (by decide +kernel), by decide +kernel⟩ ⟨fin_all (by decide +kernel), by decide +kernel⟩ ⟨fin_all (by decide +kernel), by decide +kernel⟩
theorem szR_1 (v m K0 : Nat) : K0 ≤ szR v m K0 := by unfold szR szL; omega
namespace U
open Z
attribute [local irreducible] WC WL WD YO LO LoopEnd W.Fin Scalar SliceT FieldAt Row ArrT AllocT KnS Has W.One SrcE IntT
set_option maxHeartbeats 16000000 in
set_option maxRecDepth 60000 in
theorem solvesLaw_h (hlv : FnB Tryz.prog 18 [] [] [] (IsV (.bool true))) (v0 : Value) (l : List Int) (how : Int) (hl : ∀ x ∈ l, I64 x) (hh : I64 how) : FnB Tryz.prog 3 [v0, .int .i64 how] [] [sI v0 l] (IsV (.bool true)) := by
  refine fn_of [(0, v0), (1, (.int .i64 how))] 85 Tryz.func3 rfl Tryz.ntmps3 (by kernel_rfl) rfl suA fun h0 => ?_
  have hV := someV_le l
  have hF := someFits l
  have hS := someL_sq l 6
  have hLn := someL_len l 6
  have hG := fun k (_ : k < someV l) => someG_sq l k
  have hR := szR_1 (someV l) 6 1
  repeat' (first | refine gA ?_ | (refine goG ?_; intro g) | (refine goV ?_; intro v))
  refine WL.callK (some_c v0 l 6 hl (by decide)) ?_
  rintro _ _ _ ⟨M, rfl, rfl, rfl⟩
  simp only [List.nil_append, List.cons_append]
  rw [show (someP l 6).v = someV l from rfl, show someP l 6 = X.lpOf (someV l) (someL l 6) (someG l) from rfl]
  have hdv := someDok l
  have hd6 := someDok6 l
  have hFM := (someFM l).le (show (someL l 6).length + 1 ≤ 7 by omega)
  generalize someL l 6 = L at *
  generalize someG l = gf at *
  generalize someV l = vn at *
  refine WL.fact' (fF M.gv vn M.mg gf) (W.Has.pG (L := L) hmA) ?_
  repeat' (first | refine gA ?_ | (refine goG ?_; intro g) | (refine goV ?_; intro v))
  refine WL.callK (solveL_c M hF hS hLn hG) ?_
  rintro _ _ _ ⟨A, k, xn, yn, x, y, z, rfl, rfl, rfl, hA, hx, hy, hz⟩
  simp only [List.nil_append, List.cons_append]
  have hB := best_c M 1 vn L gf hF.v hS hG (by decide) hFM
  rw [X.Sem.best hS.len hA.sem] at hB
  refine WL.fact' (fF A.xv xn A.mx x) (W.Has.ax (M := A) (xn := xn) (yn := yn) (x := x) (y := y) (z := z) hmA) ?_
  refine WL.fact' (fF A.yv yn A.my y) (W.Has.ay (M := A) (xn := xn) (yn := yn) (x := x) (y := y) (z := z) hmA) ?_
  refine WL.fact' (isQ (qv A.mz) z) (W.Has.az (M := A) (xn := xn) (yn := yn) (x := x) (y := y) (z := z) hmA) ?_
  repeat' (first | refine gA ?_ | (refine goG ?_; intro g) | (refine goV ?_; intro v))
  refine WL.callK hB ?_
  rintro _ _ _ ⟨mb, rfl, rfl, rfl⟩
  simp only [List.nil_append, List.cons_append]
  repeat' (first | refine gA ?_ | (refine goG ?_; intro g) | (refine goV ?_; intro v))
  refine WL.callK (wrong_c M vn L gf how hh hF.v hV.1 (by omega)) ?_
  rintro _ _ _ ⟨Mw, vars, mw, gn, ln, aw, bw, gw, E, rfl, rfl, rfl, hE, hE2⟩
  simp only [List.nil_append, List.cons_append]
  refine WL.fact' (fF Mw.gv gn Mw.mg gw) (W.Has.pg (M := Mw) (m := mw) (gn := gn) (ln := ln) (a := aw) (b := bw) (g := gw) hmA) ?_
  repeat' (first | refine gA ?_ | (refine goG ?_; intro g) | (refine goV ?_; intro v))
  refine WL.fact' (fF (.slice none 0 0) 0 (fun _ => m00) (fun _ => 0)) (has_nil0F _ _) ?_
  refine WL.callV (solve0_c Mw vars mw gn ln aw bw gw E hE (by omega)) ?_ (hF := .cons (.f hmA) .nil)
  repeat' (first | refine gA ?_ | (refine goG ?_; intro g) | (refine goV ?_; intro v))
  first | refine WL.callV (check0_c Mw A xn yn x y z (k : Nat) vars mw gn ln aw bw gw E hE (by omega)) ?_ | refine WD.callV (check0_c Mw A xn yn x y z (k : Nat) vars mw gn ln aw bw gw E hE (by omega)) ?_
  repeat' (first | refine gA ?_ | (refine goG ?_; intro g) | (refine goV ?_; intro v))
  first | refine WL.callV (Zn.same A.mz mb z z) ?_ | refine WD.callV (Zn.same A.mz mb z z) ?_
  rw [decide_eq_true (rfl : z = z)]
  repeat' (first | refine gA ?_ | (refine goG ?_; intro g) | (refine goV ?_; intro v))
  have hr := rright_c M vn L gf A (szR vn 6 1) xn yn x y z (k : Nat) hdv (hd6.le hLn) (by have := hF.v; omega) (by omega) (hS.up hR) (fun k hk => (hG k hk).up hR) hx hy
  rw [ans_right hA] at hr
  first | refine WL.callV (hr) ?_ | refine WD.callV (hr) ?_
  repeat' (first | refine gA ?_ | (refine goG ?_; intro g) | (refine goV ?_; intro v))
  have hc := checkL_c M A (kind := (k : Nat)) (z := z) hF hS hLn hG hR hdv hd6 hx hy
  rw [if_pos (ans_right hA)] at hc
  first | refine WL.callV (hc) ?_ | refine WD.callV (hc) ?_
  repeat' (first | refine gA ?_ | (refine goG ?_; intro g) | (refine goV ?_; intro v))
  first | refine WL.callV (hlv) ?_ | refine WD.callV (hlv) ?_
  repeat' (first | refine gA ?_ | (refine goG ?_; intro g) | (refine goV ?_; intro v))
  exact WC.ret (Fin.v (ResE.t1 rfl rfl) meA rfl)
end U
end Go.Proofs.YtaongbhamadlkaaGreat
