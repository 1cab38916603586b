/- Lemmas for the proof of a law: Contracts: the model's integers, dividing. Written in part by a program. Conditions: none. -/
import Derived.Test.YthggloiigkbfeaaGreatBase2
import Derived.Test.YthggloiigkbfeaaGreatProg
import Derived.Test.YthggloiigkbfeaaGreatBase1
set_option linter.unusedVariables false
set_option linter.unusedSimpArgs false
set_option linter.unusedSectionVars false
namespace Go.Proofs.YthggloiigkbfeaaGreat
open W Go.RowKit
theorem WD.freezeI {P : Program} {n : Nat} {L : List Oper} {hs : List Nat} {b0 : List Ow} {F0 : List Fct} {r : Plan} {e : Env} {bx bx' : List Ow} {F : List Fct} {Q : Env → List Ow → List Fct → Prop} {v : Value} {el : Nat} {l : List Int} (hs' : Sel bx (.slice v el 1 (ints l)) (.slice (.slice none 0 0) el 1 []) bx') (h : WD P n L hs b0 F0 r e bx' (sI v l :: F) Q) : WD P n L hs b0 F0 r e bx F Q := fun fr w0 listed a w fuel Q' h1 h2 h3 h4 h5 h6 hk hr ho hf => h fr w0 listed a w fuel Q' h1 h2 h3 h4 h5 h6 hk hr (ho.freeze hs' (by simp) (by decide) _ fun j hj => by
    have hj' : j < l.length := by omega
    simp [hj']) hf
namespace Ro
open Dvz Dvv Adc Rm Rn
attribute [local irreducible] WC WL WD YO LO LoopEnd W.Fin Scalar SliceT FieldAt Row ArrT AllocT KnS Has W.One SrcE IntT
theorem d110 {G G' : Prop} (h : G') (s : Bx G' → G := by
  intro h
  first | (apply WC.draw (id := 7) [0, 1, 2, 3, 4, 5] (.held 0 (.held 1 (.held 2 (.held 3 (.held 4 (.held 5 (.loud 6 (.loud 7 (.loud 8 (.loud 9 (.done))))))))))) mixed (by kernel_rfl)) | (apply WC.drawR (id := 9) [4] [0, 1] (.held 0 (.held 1 (.loud 2 (.loud 3 (.done))))) mixed (by kernel_rfl); (focus ((repeat (first | exact Rems.nil _ | (apply Rems.cons; exact rfl; (repeat (first | exact Rem.head | apply Rem.tail))))); done))) | fail
  exact Bx.h h) : G := s ⟨h⟩
theorem d146 {G G' : Prop} (h : G') (s : Bx G' → G := by
  intro h
  first | (apply WC.draw (id := 4) [0, 1, 2, 3, 4, 5] (.held 0 (.held 1 (.held 2 (.held 3 (.held 4 (.held 5 (.done))))))) mixed (by kernel_rfl)) | fail
  exact Bx.h h) : G := s ⟨h⟩
theorem goB {G G' : Prop} (h : G') (s : Bx G' → G := by
  intro h
  first
    | (apply WL.k_quo; (apply YO.quo; exact rfl; exact rfl; omega; omega; omega); exact rfl; exact rfl)
    | (apply WD.k_neq; exact rfl; (apply Rn.YO.bneq2; exact rfl; exact rfl); exact rfl; exact rfl)
    | (apply WL.k_neq; (apply Rn.YO.bneq2; exact rfl; exact rfl); exact rfl; exact rfl)
  exact Bx.h h) : G := s ⟨h⟩
def IsLL (m n : Nat) : RPost := fun v b G => ∃ a c, v = .tuple #[a, c] ∧ b = [] ∧ G = [sI a (digs m), sI c (digs n)]
set_option maxHeartbeats 4000000 in
set_option maxRecDepth 8000 in
theorem rdivided_c (u w : Value) (m n : Nat) (hm : m < B2) (hn : n < B2) (h0n : n ≠ 0) : FnB Tryz.prog 146 [u, w] [] [sI u (digs m), sI w (digs n)] (IsLL (m / n) (m % n)) := by
  refine fn_of [(0, u), (1, w)] 95 Tryz.func146 rfl Tryz.ntmps146 (by kernel_rfl) rfl suA fun h0 => ?_
  have hm' : m < 1000000000000000000 := hm
  have hn' : n < 1000000000000000000 := hn
  have q1 : m / n ≤ m := Nat.div_le_self _ _
  have q2 : m % n < n := Nat.mod_lt _ (by omega)
  have e1 : (m : Int) / (n : Int) = ((m / n : Nat) : Int) := by simp
  have e2 : (m : Int) % (n : Int) = ((m % n : Nat) : Int) := by simp
  have l1 : (digs m).length ≤ 2 := digs_len_le (k := 2) hm
  have l2 : (digs n).length ≤ 2 := digs_len_le (k := 2) hn
  repeat' (first | refine go ?_ | refine goX ?_ | refine goB ?_ | (refine goG ?_; intro g) | (refine goV ?_; intro v) | refine goD ?_ | refine goXD ?_ | (refine goDG ?_; intro g) | (refine goDV ?_; intro v) | refine d146 ?_ | fail)
  first | refine WL.callV (tiny_c u m hm) ?_ | refine WD.callV (tiny_c u m hm) ?_
  repeat' (first | refine go ?_ | refine goX ?_ | refine goB ?_ | (refine goG ?_; intro g) | (refine goV ?_; intro v) | refine goD ?_ | refine goXD ?_ | (refine goDG ?_; intro g) | (refine goDV ?_; intro v) | refine d146 ?_ | fail)
  first | refine WL.callV (tiny_c w n hn) ?_ | refine WD.callV (tiny_c w n hn) ?_
  repeat' (first | refine go ?_ | refine goX ?_ | refine goB ?_ | (refine goG ?_; intro g) | (refine goV ?_; intro v) | refine goD ?_ | refine goXD ?_ | (refine goDG ?_; intro g) | (refine goDV ?_; intro v) | refine d146 ?_ | fail)
  rw [e1]
  first | refine WL.callK (rof_c ((m / n : Nat) : Int) (by generalize m / n = z at *; omega) (by generalize m / n = z at *; omega)) ?_ | refine WD.callK (rof_c ((m / n : Nat) : Int) (by generalize m / n = z at *; omega) (by generalize m / n = z at *; omega)) ?_ | refine LO.callM (rof_c ((m / n : Nat) : Int) (by generalize m / n = z at *; omega) (by generalize m / n = z at *; omega)) ?_
  rintro _ _ _ ⟨n1, d1, rfl, hb1, rfl, rfl⟩
  simp only [List.nil_append, List.cons_append]
  repeat' (first | refine go ?_ | refine goX ?_ | refine goB ?_ | (refine goG ?_; intro g) | (refine goV ?_; intro v) | refine goD ?_ | refine goXD ?_ | (refine goDG ?_; intro g) | (refine goDV ?_; intro v) | refine d146 ?_ | fail)
  first | refine WL.callV (tiny_c u m hm) ?_ | refine WD.callV (tiny_c u m hm) ?_
  repeat' (first | refine go ?_ | refine goX ?_ | refine goB ?_ | (refine goG ?_; intro g) | (refine goV ?_; intro v) | refine goD ?_ | refine goXD ?_ | (refine goDG ?_; intro g) | (refine goDV ?_; intro v) | refine d146 ?_ | fail)
  first | refine WL.callV (tiny_c w n hn) ?_ | refine WD.callV (tiny_c w n hn) ?_
  repeat' (first | refine go ?_ | refine goX ?_ | refine goB ?_ | (refine goG ?_; intro g) | (refine goV ?_; intro v) | refine goD ?_ | refine goXD ?_ | (refine goDG ?_; intro g) | (refine goDV ?_; intro v) | refine d146 ?_ | fail)
  rw [e2]
  first | refine WL.callK (rof_c ((m % n : Nat) : Int) (by generalize m % n = z at *; omega) (by generalize m % n = z at *; omega)) ?_ | refine WD.callK (rof_c ((m % n : Nat) : Int) (by generalize m % n = z at *; omega) (by generalize m % n = z at *; omega)) ?_ | refine LO.callM (rof_c ((m % n : Nat) : Int) (by generalize m % n = z at *; omega) (by generalize m % n = z at *; omega)) ?_
  rintro _ _ _ ⟨n2, d2, rfl, hb2, rfl, rfl⟩
  simp only [List.nil_append, List.cons_append]
  repeat' (first | refine go ?_ | refine goX ?_ | refine goB ?_ | (refine goG ?_; intro g) | (refine goV ?_; intro v) | refine goD ?_ | refine goXD ?_ | (refine goDG ?_; intro g) | (refine goDV ?_; intro v) | refine d146 ?_ | fail)
  refine WC.fact (sI d1 (digs (m / n))) (hasZ_dn hmA) ?_
  refine WC.fact (sI d2 (digs (m % n))) (hasZ_dn hmA) ?_
  refine WC.ret ?_
  exact Fin.p [] [sI d1 (digs (m / n)), sI d2 (digs (m % n))] (ResE.t2 rfl rfl rfl) meA (List.nil_sublist _) haA ⟨d1, d2, rfl, rfl, rfl⟩
set_option maxHeartbeats 8000000 in
set_option maxRecDepth 8000 in
theorem rdiv_c (v1 v2 : Value) (x y : Int) (h1 : x.natAbs < B2) (h2 : y.natAbs < B2) (hy : y ≠ 0) : FnB Tryz.prog 110 [v1, v2] [] [isZ v1 x, isZ v2 y] (IsZZ (x / y) (x % y)) := by
  refine fn_of [(0, v1), (1, v2)] 58 Tryz.func110 rfl Tryz.ntmps110 (by kernel_rfl) rfl suA fun h0 => ?_
  refine WC.openZ (v := v1) (z := x) hmA fun n1 d1 hv hb1 => ?_
  subst hv
  refine WC.openZ (v := v2) (z := y) hmA fun n2 d2 hv hb2 => ?_
  subst hv
  refine WC.fact (sI d1 (digs x.natAbs)) (hasZ_d hmA) ?_
  refine WC.fact (sI d2 (digs y.natAbs)) (hasZ_d hmA) ?_
  have hny : y.natAbs ≠ 0 := by omega
  have hly := len_pos hny
  have h1' : x.natAbs < 1000000000000000000 := h1
  repeat' (first | refine go ?_ | refine goX ?_ | refine goB ?_ | (refine goG ?_; intro g) | (refine goV ?_; intro v) | refine goD ?_ | refine goXD ?_ | (refine goDG ?_; intro g) | (refine goDV ?_; intro v) | refine d110 ?_ | fail)
  refine WL.callK (rdivided_c d1 d2 x.natAbs y.natAbs h1 h2 hny) ?_
  rintro _ _ _ ⟨d3, d4, rfl, rfl, rfl⟩
  simp only [List.nil_append, List.cons_append]
  have hr := Nat.mod_lt x.natAbs (show 0 < y.natAbs by omega)
  have hq0 : x.natAbs / y.natAbs ≤ x.natAbs := Nat.div_le_self _ _
  have e1 := @ediv_neg1 x y
  have e2 := @ediv_pos1 x y hy
  generalize hR : x.natAbs % y.natAbs = R at *
  generalize hQ : x.natAbs / y.natAbs = Q at *
  cases n1 with
  | true =>
    have hx : x < 0 := of_decide_eq_true hb1.symm
    cases n2 with
    | true =>
      have hy2 : y < 0 := of_decide_eq_true hb2.symm
      repeat' (first | refine go ?_ | refine goX ?_ | refine goB ?_ | (refine goG ?_; intro g) | (refine goV ?_; intro v) | refine goD ?_ | refine goXD ?_ | (refine goDG ?_; intro g) | (refine goDV ?_; intro v) | refine d110 ?_ | fail)
      first | refine WL.callK (normal_c d3 false (digs Q) ((Q : Int)) (digs_Dg _) (by rw [val_digs]; omega) (fun hne => by rw [val_digs] at hne; rw [eq_comm]; simp only [decide_eq_true_eq, decide_eq_false_iff_not]; omega)) ?_ | refine WD.callK (normal_c d3 false (digs Q) ((Q : Int)) (digs_Dg _) (by rw [val_digs]; omega) (fun hne => by rw [val_digs] at hne; rw [eq_comm]; simp only [decide_eq_true_eq, decide_eq_false_iff_not]; omega)) ?_ | refine LO.callM (normal_c d3 false (digs Q) ((Q : Int)) (digs_Dg _) (by rw [val_digs]; omega) (fun hne => by rw [val_digs] at hne; rw [eq_comm]; simp only [decide_eq_true_eq, decide_eq_false_iff_not]; omega)) ?_
      rintro _ _ _ ⟨n5, d5, rfl, hb5, rfl, rfl⟩
      simp only [List.nil_append, List.cons_append]
      repeat' (first | refine go ?_ | refine goX ?_ | refine goB ?_ | (refine goG ?_; intro g) | (refine goV ?_; intro v) | refine goD ?_ | refine goXD ?_ | (refine goDG ?_; intro g) | (refine goDV ?_; intro v) | refine d110 ?_ | fail)
      first | refine WL.callK (normal_c d4 false (digs R) (R : Int) (digs_Dg _) (by rw [val_digs]; omega) (fun _ => nneg_dec _)) ?_ | refine WD.callK (normal_c d4 false (digs R) (R : Int) (digs_Dg _) (by rw [val_digs]; omega) (fun _ => nneg_dec _)) ?_ | refine LO.callM (normal_c d4 false (digs R) (R : Int) (digs_Dg _) (by rw [val_digs]; omega) (fun _ => nneg_dec _)) ?_
      rintro _ _ _ ⟨n6, d6, rfl, hb6, rfl, rfl⟩
      simp only [List.nil_append, List.cons_append]
      refine WL.fact' (sI d6 (digs R)) (hasZ_dn hmA) ?_
      by_cases hr0 : R = 0
      · have hlr0 : (digs R).length = 0 := digs_len0.2 hr0
        obtain ⟨hqa, hra, hsg⟩ := e2 (.inr hr0)
        have hqe : x / y = (Q : Int) := by
          by_cases hq : x / y = 0
          · omega
          · have := hsg hq; omega
        have hbq : n5 = decide (x / y < 0) := by rw [hqe]; exact hb5
        have hbr : n6 = decide (x % y < 0) := by rw [hra]; exact hb6
        rw [← hqe, ← hra]
        repeat' (first | refine go ?_ | refine goX ?_ | refine goB ?_ | (refine goG ?_; intro g) | (refine goV ?_; intro v) | refine goD ?_ | refine goXD ?_ | (refine goDG ?_; intro g) | (refine goDV ?_; intro v) | refine d110 ?_ | fail)
        refine WC.ret ?_
        exact Fin.p [] [isZ (.agg #[.bool n5, d5]) (x / y), isZ (.agg #[.bool n6, d6]) (x % y)] (ResE.cc rfl rfl rfl meA meA T.r35 rfl T.r35 rfl) meA (List.nil_sublist _) haA ⟨n5, d5, n6, d6, rfl, hbq, hbr, rfl, rfl⟩
      · have hlr0 := len_pos hr0
        obtain ⟨hqa, hra, hsg, hqne⟩ := e1 hx hy hr0
        repeat' (first | refine go ?_ | refine goX ?_ | refine goB ?_ | (refine goG ?_; intro g) | (refine goV ?_; intro v) | refine goD ?_ | refine goXD ?_ | (refine goDG ?_; intro g) | (refine goDV ?_; intro v) | refine d110 ?_ | fail)
        revert v; intro v1
        refine WD.freezeI (l := [1]) (v := v1) (el := 3) (by repeat (first | exact Sel.head | apply Sel.tail)) ?_
        first | refine WL.callK (normal_c v1 false [1] (1) .one (by decide) (fun hne => by decide)) ?_ | refine WD.callK (normal_c v1 false [1] (1) .one (by decide) (fun hne => by decide)) ?_ | refine LO.callM (normal_c v1 false [1] (1) .one (by decide) (fun hne => by decide)) ?_
        rintro _ _ _ ⟨n7, d7, rfl, hb7, rfl, rfl⟩
        simp only [List.nil_append, List.cons_append]
        repeat' (first | refine go ?_ | refine goX ?_ | refine goB ?_ | (refine goG ?_; intro g) | (refine goV ?_; intro v) | refine goD ?_ | refine goXD ?_ | (refine goDG ?_; intro g) | (refine goDV ?_; intro v) | refine d110 ?_ | fail)
        first | refine WL.callK (radd_c (.agg #[.bool n5, d5]) (.agg #[.bool n7, d7]) ((Q : Int)) (1) (Nat.le_trans (digs_len_le (k := 2) (by omega)) (by decide)) (Nat.le_trans (digs_len_le (k := 2) (by decide)) (by decide))) ?_ | refine WD.callK (radd_c (.agg #[.bool n5, d5]) (.agg #[.bool n7, d7]) ((Q : Int)) (1) (Nat.le_trans (digs_len_le (k := 2) (by omega)) (by decide)) (Nat.le_trans (digs_len_le (k := 2) (by decide)) (by decide))) ?_ | refine LO.callM (radd_c (.agg #[.bool n5, d5]) (.agg #[.bool n7, d7]) ((Q : Int)) (1) (Nat.le_trans (digs_len_le (k := 2) (by omega)) (by decide)) (Nat.le_trans (digs_len_le (k := 2) (by decide)) (by decide))) ?_
        rintro _ _ _ ⟨n8, d8, rfl, hb8, rfl, rfl⟩
        simp only [List.nil_append, List.cons_append]
        repeat' (first | refine go ?_ | refine goX ?_ | refine goB ?_ | (refine goG ?_; intro g) | (refine goV ?_; intro v) | refine goD ?_ | refine goXD ?_ | (refine goDG ?_; intro g) | (refine goDV ?_; intro v) | refine d110 ?_ | fail)
        have hlen : (digs R).length ≤ (digs y.natAbs).length := Nat.le_of_not_lt fun h => by have := digs_lt_len h; omega
        refine WL.callK (rminus_c d2 d6 (digs y.natAbs) (digs R) (digs_Dg _) (digs_Dg _) (abs_len h2) hlen (by rw [val_digs, val_digs]; omega)) ?_
        rintro v3 _ _ ⟨l3, rfl, rfl, hd3, hv3, hl3⟩
        simp only [List.nil_append, List.cons_append]
        first | refine WL.callK (normal_c v3 false l3 (x % y) hd3 (by rw [hv3, hra, val_digs, val_digs]; omega) (fun _ => by rw [hra]; exact (decide_eq_false (by omega)).symm)) ?_ | refine WD.callK (normal_c v3 false l3 (x % y) hd3 (by rw [hv3, hra, val_digs, val_digs]; omega) (fun _ => by rw [hra]; exact (decide_eq_false (by omega)).symm)) ?_ | refine LO.callM (normal_c v3 false l3 (x % y) hd3 (by rw [hv3, hra, val_digs, val_digs]; omega) (fun _ => by rw [hra]; exact (decide_eq_false (by omega)).symm)) ?_
        rintro _ _ _ ⟨n9, d9, rfl, hbr, rfl, rfl⟩
        simp only [List.nil_append, List.cons_append]
        have hqe : x / y = (Q : Int) + (1) := by omega
        have hbq : n8 = decide (x / y < 0) := by rw [hqe]; exact hb8
        rw [← hqe]
        repeat' (first | refine go ?_ | refine goX ?_ | refine goB ?_ | (refine goG ?_; intro g) | (refine goV ?_; intro v) | refine goD ?_ | refine goXD ?_ | (refine goDG ?_; intro g) | (refine goDV ?_; intro v) | refine d110 ?_ | fail)
        refine WC.ret ?_
        exact Fin.p [] [isZ (.agg #[.bool n8, d8]) (x / y), isZ (.agg #[.bool n9, d9]) (x % y)] (ResE.cc rfl rfl rfl meA meA T.r35 rfl T.r35 rfl) meA (List.nil_sublist _) haA ⟨n8, d8, n9, d9, rfl, hbq, hbr, rfl, rfl⟩
    | false =>
      have hy2 : ¬ y < 0 := of_decide_eq_false hb2.symm
      repeat' (first | refine go ?_ | refine goX ?_ | refine goB ?_ | (refine goG ?_; intro g) | (refine goV ?_; intro v) | refine goD ?_ | refine goXD ?_ | (refine goDG ?_; intro g) | (refine goDV ?_; intro v) | refine d110 ?_ | fail)
      first | refine WL.callK (normal_c d3 true (digs Q) (-(Q : Int)) (digs_Dg _) (by rw [val_digs]; omega) (fun hne => by rw [val_digs] at hne; rw [eq_comm]; simp only [decide_eq_true_eq, decide_eq_false_iff_not]; omega)) ?_ | refine WD.callK (normal_c d3 true (digs Q) (-(Q : Int)) (digs_Dg _) (by rw [val_digs]; omega) (fun hne => by rw [val_digs] at hne; rw [eq_comm]; simp only [decide_eq_true_eq, decide_eq_false_iff_not]; omega)) ?_ | refine LO.callM (normal_c d3 true (digs Q) (-(Q : Int)) (digs_Dg _) (by rw [val_digs]; omega) (fun hne => by rw [val_digs] at hne; rw [eq_comm]; simp only [decide_eq_true_eq, decide_eq_false_iff_not]; omega)) ?_
      rintro _ _ _ ⟨n5, d5, rfl, hb5, rfl, rfl⟩
      simp only [List.nil_append, List.cons_append]
      repeat' (first | refine go ?_ | refine goX ?_ | refine goB ?_ | (refine goG ?_; intro g) | (refine goV ?_; intro v) | refine goD ?_ | refine goXD ?_ | (refine goDG ?_; intro g) | (refine goDV ?_; intro v) | refine d110 ?_ | fail)
      first | refine WL.callK (normal_c d4 false (digs R) (R : Int) (digs_Dg _) (by rw [val_digs]; omega) (fun _ => nneg_dec _)) ?_ | refine WD.callK (normal_c d4 false (digs R) (R : Int) (digs_Dg _) (by rw [val_digs]; omega) (fun _ => nneg_dec _)) ?_ | refine LO.callM (normal_c d4 false (digs R) (R : Int) (digs_Dg _) (by rw [val_digs]; omega) (fun _ => nneg_dec _)) ?_
      rintro _ _ _ ⟨n6, d6, rfl, hb6, rfl, rfl⟩
      simp only [List.nil_append, List.cons_append]
      refine WL.fact' (sI d6 (digs R)) (hasZ_dn hmA) ?_
      by_cases hr0 : R = 0
      · have hlr0 : (digs R).length = 0 := digs_len0.2 hr0
        obtain ⟨hqa, hra, hsg⟩ := e2 (.inr hr0)
        have hqe : x / y = -(Q : Int) := by
          by_cases hq : x / y = 0
          · omega
          · have := hsg hq; omega
        have hbq : n5 = decide (x / y < 0) := by rw [hqe]; exact hb5
        have hbr : n6 = decide (x % y < 0) := by rw [hra]; exact hb6
        rw [← hqe, ← hra]
        repeat' (first | refine go ?_ | refine goX ?_ | refine goB ?_ | (refine goG ?_; intro g) | (refine goV ?_; intro v) | refine goD ?_ | refine goXD ?_ | (refine goDG ?_; intro g) | (refine goDV ?_; intro v) | refine d110 ?_ | fail)
        refine WC.ret ?_
        exact Fin.p [] [isZ (.agg #[.bool n5, d5]) (x / y), isZ (.agg #[.bool n6, d6]) (x % y)] (ResE.cc rfl rfl rfl meA meA T.r35 rfl T.r35 rfl) meA (List.nil_sublist _) haA ⟨n5, d5, n6, d6, rfl, hbq, hbr, rfl, rfl⟩
      · have hlr0 := len_pos hr0
        obtain ⟨hqa, hra, hsg, hqne⟩ := e1 hx hy hr0
        repeat' (first | refine go ?_ | refine goX ?_ | refine goB ?_ | (refine goG ?_; intro g) | (refine goV ?_; intro v) | refine goD ?_ | refine goXD ?_ | (refine goDG ?_; intro g) | (refine goDV ?_; intro v) | refine d110 ?_ | fail)
        revert v; intro v1
        refine WD.freezeI (l := [1]) (v := v1) (el := 3) (by repeat (first | exact Sel.head | apply Sel.tail)) ?_
        first | refine WL.callK (normal_c v1 true [1] (-1) .one (by decide) (fun hne => by decide)) ?_ | refine WD.callK (normal_c v1 true [1] (-1) .one (by decide) (fun hne => by decide)) ?_ | refine LO.callM (normal_c v1 true [1] (-1) .one (by decide) (fun hne => by decide)) ?_
        rintro _ _ _ ⟨n7, d7, rfl, hb7, rfl, rfl⟩
        simp only [List.nil_append, List.cons_append]
        repeat' (first | refine go ?_ | refine goX ?_ | refine goB ?_ | (refine goG ?_; intro g) | (refine goV ?_; intro v) | refine goD ?_ | refine goXD ?_ | (refine goDG ?_; intro g) | (refine goDV ?_; intro v) | refine d110 ?_ | fail)
        first | refine WL.callK (radd_c (.agg #[.bool n5, d5]) (.agg #[.bool n7, d7]) (-(Q : Int)) (-1) (Nat.le_trans (digs_len_le (k := 2) (by omega)) (by decide)) (Nat.le_trans (digs_len_le (k := 2) (by decide)) (by decide))) ?_ | refine WD.callK (radd_c (.agg #[.bool n5, d5]) (.agg #[.bool n7, d7]) (-(Q : Int)) (-1) (Nat.le_trans (digs_len_le (k := 2) (by omega)) (by decide)) (Nat.le_trans (digs_len_le (k := 2) (by decide)) (by decide))) ?_ | refine LO.callM (radd_c (.agg #[.bool n5, d5]) (.agg #[.bool n7, d7]) (-(Q : Int)) (-1) (Nat.le_trans (digs_len_le (k := 2) (by omega)) (by decide)) (Nat.le_trans (digs_len_le (k := 2) (by decide)) (by decide))) ?_
        rintro _ _ _ ⟨n8, d8, rfl, hb8, rfl, rfl⟩
        simp only [List.nil_append, List.cons_append]
        repeat' (first | refine go ?_ | refine goX ?_ | refine goB ?_ | (refine goG ?_; intro g) | (refine goV ?_; intro v) | refine goD ?_ | refine goXD ?_ | (refine goDG ?_; intro g) | (refine goDV ?_; intro v) | refine d110 ?_ | fail)
        have hlen : (digs R).length ≤ (digs y.natAbs).length := Nat.le_of_not_lt fun h => by have := digs_lt_len h; omega
        refine WL.callK (rminus_c d2 d6 (digs y.natAbs) (digs R) (digs_Dg _) (digs_Dg _) (abs_len h2) hlen (by rw [val_digs, val_digs]; omega)) ?_
        rintro v3 _ _ ⟨l3, rfl, rfl, hd3, hv3, hl3⟩
        simp only [List.nil_append, List.cons_append]
        first | refine WL.callK (normal_c v3 false l3 (x % y) hd3 (by rw [hv3, hra, val_digs, val_digs]; omega) (fun _ => by rw [hra]; exact (decide_eq_false (by omega)).symm)) ?_ | refine WD.callK (normal_c v3 false l3 (x % y) hd3 (by rw [hv3, hra, val_digs, val_digs]; omega) (fun _ => by rw [hra]; exact (decide_eq_false (by omega)).symm)) ?_ | refine LO.callM (normal_c v3 false l3 (x % y) hd3 (by rw [hv3, hra, val_digs, val_digs]; omega) (fun _ => by rw [hra]; exact (decide_eq_false (by omega)).symm)) ?_
        rintro _ _ _ ⟨n9, d9, rfl, hbr, rfl, rfl⟩
        simp only [List.nil_append, List.cons_append]
        have hqe : x / y = -(Q : Int) + (-1) := by omega
        have hbq : n8 = decide (x / y < 0) := by rw [hqe]; exact hb8
        rw [← hqe]
        repeat' (first | refine go ?_ | refine goX ?_ | refine goB ?_ | (refine goG ?_; intro g) | (refine goV ?_; intro v) | refine goD ?_ | refine goXD ?_ | (refine goDG ?_; intro g) | (refine goDV ?_; intro v) | refine d110 ?_ | fail)
        refine WC.ret ?_
        exact Fin.p [] [isZ (.agg #[.bool n8, d8]) (x / y), isZ (.agg #[.bool n9, d9]) (x % y)] (ResE.cc rfl rfl rfl meA meA T.r35 rfl T.r35 rfl) meA (List.nil_sublist _) haA ⟨n8, d8, n9, d9, rfl, hbq, hbr, rfl, rfl⟩
  | false =>
    have hx : ¬ x < 0 := of_decide_eq_false hb1.symm
    cases n2 with
    | true =>
      have hy2 : y < 0 := of_decide_eq_true hb2.symm
      repeat' (first | refine go ?_ | refine goX ?_ | refine goB ?_ | (refine goG ?_; intro g) | (refine goV ?_; intro v) | refine goD ?_ | refine goXD ?_ | (refine goDG ?_; intro g) | (refine goDV ?_; intro v) | refine d110 ?_ | fail)
      first | refine WL.callK (normal_c d3 true (digs Q) (-(Q : Int)) (digs_Dg _) (by rw [val_digs]; omega) (fun hne => by rw [val_digs] at hne; rw [eq_comm]; simp only [decide_eq_true_eq, decide_eq_false_iff_not]; omega)) ?_ | refine WD.callK (normal_c d3 true (digs Q) (-(Q : Int)) (digs_Dg _) (by rw [val_digs]; omega) (fun hne => by rw [val_digs] at hne; rw [eq_comm]; simp only [decide_eq_true_eq, decide_eq_false_iff_not]; omega)) ?_ | refine LO.callM (normal_c d3 true (digs Q) (-(Q : Int)) (digs_Dg _) (by rw [val_digs]; omega) (fun hne => by rw [val_digs] at hne; rw [eq_comm]; simp only [decide_eq_true_eq, decide_eq_false_iff_not]; omega)) ?_
      rintro _ _ _ ⟨n5, d5, rfl, hb5, rfl, rfl⟩
      simp only [List.nil_append, List.cons_append]
      repeat' (first | refine go ?_ | refine goX ?_ | refine goB ?_ | (refine goG ?_; intro g) | (refine goV ?_; intro v) | refine goD ?_ | refine goXD ?_ | (refine goDG ?_; intro g) | (refine goDV ?_; intro v) | refine d110 ?_ | fail)
      first | refine WL.callK (normal_c d4 false (digs R) (R : Int) (digs_Dg _) (by rw [val_digs]; omega) (fun _ => nneg_dec _)) ?_ | refine WD.callK (normal_c d4 false (digs R) (R : Int) (digs_Dg _) (by rw [val_digs]; omega) (fun _ => nneg_dec _)) ?_ | refine LO.callM (normal_c d4 false (digs R) (R : Int) (digs_Dg _) (by rw [val_digs]; omega) (fun _ => nneg_dec _)) ?_
      rintro _ _ _ ⟨n6, d6, rfl, hb6, rfl, rfl⟩
      simp only [List.nil_append, List.cons_append]
      refine WL.fact' (sI d6 (digs R)) (hasZ_dn hmA) ?_
      obtain ⟨hqa, hra, hsg⟩ := e2 (.inl (by omega))
      have hqe : x / y = -(Q : Int) := by
        by_cases hq : x / y = 0
        · omega
        · have := hsg hq; omega
      have hbq : n5 = decide (x / y < 0) := by rw [hqe]; exact hb5
      have hbr : n6 = decide (x % y < 0) := by rw [hra]; exact hb6
      rw [← hqe, ← hra]
      repeat' (first | refine go ?_ | refine goX ?_ | refine goB ?_ | (refine goG ?_; intro g) | (refine goV ?_; intro v) | refine goD ?_ | refine goXD ?_ | (refine goDG ?_; intro g) | (refine goDV ?_; intro v) | refine d110 ?_ | fail)
      refine WC.ret ?_
      exact Fin.p [] [isZ (.agg #[.bool n5, d5]) (x / y), isZ (.agg #[.bool n6, d6]) (x % y)] (ResE.cc rfl rfl rfl meA meA T.r35 rfl T.r35 rfl) meA (List.nil_sublist _) haA ⟨n5, d5, n6, d6, rfl, hbq, hbr, rfl, rfl⟩
    | false =>
      have hy2 : ¬ y < 0 := of_decide_eq_false hb2.symm
      repeat' (first | refine go ?_ | refine goX ?_ | refine goB ?_ | (refine goG ?_; intro g) | (refine goV ?_; intro v) | refine goD ?_ | refine goXD ?_ | (refine goDG ?_; intro g) | (refine goDV ?_; intro v) | refine d110 ?_ | fail)
      first | refine WL.callK (normal_c d3 false (digs Q) ((Q : Int)) (digs_Dg _) (by rw [val_digs]; omega) (fun hne => by rw [val_digs] at hne; rw [eq_comm]; simp only [decide_eq_true_eq, decide_eq_false_iff_not]; omega)) ?_ | refine WD.callK (normal_c d3 false (digs Q) ((Q : Int)) (digs_Dg _) (by rw [val_digs]; omega) (fun hne => by rw [val_digs] at hne; rw [eq_comm]; simp only [decide_eq_true_eq, decide_eq_false_iff_not]; omega)) ?_ | refine LO.callM (normal_c d3 false (digs Q) ((Q : Int)) (digs_Dg _) (by rw [val_digs]; omega) (fun hne => by rw [val_digs] at hne; rw [eq_comm]; simp only [decide_eq_true_eq, decide_eq_false_iff_not]; omega)) ?_
      rintro _ _ _ ⟨n5, d5, rfl, hb5, rfl, rfl⟩
      simp only [List.nil_append, List.cons_append]
      repeat' (first | refine go ?_ | refine goX ?_ | refine goB ?_ | (refine goG ?_; intro g) | (refine goV ?_; intro v) | refine goD ?_ | refine goXD ?_ | (refine goDG ?_; intro g) | (refine goDV ?_; intro v) | refine d110 ?_ | fail)
      first | refine WL.callK (normal_c d4 false (digs R) (R : Int) (digs_Dg _) (by rw [val_digs]; omega) (fun _ => nneg_dec _)) ?_ | refine WD.callK (normal_c d4 false (digs R) (R : Int) (digs_Dg _) (by rw [val_digs]; omega) (fun _ => nneg_dec _)) ?_ | refine LO.callM (normal_c d4 false (digs R) (R : Int) (digs_Dg _) (by rw [val_digs]; omega) (fun _ => nneg_dec _)) ?_
      rintro _ _ _ ⟨n6, d6, rfl, hb6, rfl, rfl⟩
      simp only [List.nil_append, List.cons_append]
      refine WL.fact' (sI d6 (digs R)) (hasZ_dn hmA) ?_
      obtain ⟨hqa, hra, hsg⟩ := e2 (.inl (by omega))
      have hqe : x / y = (Q : Int) := by
        by_cases hq : x / y = 0
        · omega
        · have := hsg hq; omega
      have hbq : n5 = decide (x / y < 0) := by rw [hqe]; exact hb5
      have hbr : n6 = decide (x % y < 0) := by rw [hra]; exact hb6
      rw [← hqe, ← hra]
      repeat' (first | refine go ?_ | refine goX ?_ | refine goB ?_ | (refine goG ?_; intro g) | (refine goV ?_; intro v) | refine goD ?_ | refine goXD ?_ | (refine goDG ?_; intro g) | (refine goDV ?_; intro v) | refine d110 ?_ | fail)
      refine WC.ret ?_
      exact Fin.p [] [isZ (.agg #[.bool n5, d5]) (x / y), isZ (.agg #[.bool n6, d6]) (x % y)] (ResE.cc rfl rfl rfl meA meA T.r35 rfl T.r35 rfl) meA (List.nil_sublist _) haA ⟨n5, d5, n6, d6, rfl, hbq, hbr, rfl, rfl⟩
set_option maxHeartbeats 4000000 in
set_option maxRecDepth 8000 in
theorem rgcd_c (v1 v2 : Value) (x y : Int) (h1 : x.natAbs < B2) (h2 : y.natAbs < B2) : FnB Tryz.prog 109 [v1, v2] [] [isZ v1 x, isZ v2 y] (IsZ ((Int.gcd x y : Nat) : Int)) := by
  refine fn_of [(0, v1), (1, v2)] 56 Tryz.func109 rfl Tryz.ntmps109 (by kernel_rfl) rfl suA fun h0 => ?_
  refine WC.openZ (v := v1) (z := x) hmA fun n1 d1 hv hb1 => ?_
  subst hv
  refine WC.openZ (v := v2) (z := y) hmA fun n2 d2 hv hb2 => ?_
  subst hv
  have hg : Int.gcd x y = Nat.gcd x.natAbs y.natAbs := rfl
  refine WC.fact (sI d1 (digs x.natAbs)) (hasZ_d hmA) ?_
  refine WC.fact (sI d2 (digs y.natAbs)) (hasZ_d hmA) ?_
  rw [hg]
  generalize x.natAbs = m at *
  generalize y.natAbs = n at *
  have hm' : m < 1000000000000000000 := h1
  have hn' : n < 1000000000000000000 := h2
  have l1 : (digs m).length ≤ 2 := digs_len_le (k := 2) h1
  have l2 : (digs n).length ≤ 2 := digs_len_le (k := 2) h2
  repeat' (first | refine go ?_ | refine goX ?_ | refine goB ?_ | (refine goG ?_; intro g) | (refine goV ?_; intro v))
  first | refine WL.callK (normal_c d1 false (digs m) (m : Int) (digs_Dg _) (by rw [val_digs]; simp) (fun _ => nneg_dec _)) ?_ | refine WD.callK (normal_c d1 false (digs m) (m : Int) (digs_Dg _) (by rw [val_digs]; simp) (fun _ => nneg_dec _)) ?_ | refine LO.callM (normal_c d1 false (digs m) (m : Int) (digs_Dg _) (by rw [val_digs]; simp) (fun _ => nneg_dec _)) ?_
  rintro _ _ _ ⟨b1, e1, rfl, hbm, rfl, rfl⟩
  simp only [List.nil_append, List.cons_append]
  repeat' (first | refine go ?_ | refine goX ?_ | refine goB ?_ | (refine goG ?_; intro g) | (refine goV ?_; intro v))
  revert g; intro g5
  first | refine WL.callK (normal_c d2 false (digs n) (n : Int) (digs_Dg _) (by rw [val_digs]; simp) (fun _ => nneg_dec _)) ?_ | refine WD.callK (normal_c d2 false (digs n) (n : Int) (digs_Dg _) (by rw [val_digs]; simp) (fun _ => nneg_dec _)) ?_ | refine LO.callM (normal_c d2 false (digs n) (n : Int) (digs_Dg _) (by rw [val_digs]; simp) (fun _ => nneg_dec _)) ?_
  rintro _ _ _ ⟨b2, e2, rfl, hbn, rfl, rfl⟩
  simp only [List.nil_append, List.cons_append]
  refine WL.fact' (sI e1 (digs m)) (hasZ_dn hmA) ?_
  refine WL.fact' (sI e2 (digs n)) (hasZ_dn hmA) ?_
  repeat' (first | refine go ?_ | refine goX ?_ | refine goB ?_ | (refine goG ?_; intro g) | (refine goV ?_; intro v))
  rename_i g2 g3 g4
  revert g; intro g6
  refine WC.lp (σ := Unit) (fun _ => [(5, ptr g5), (6, ptr g6), (4, ptr g4)]) (fun _ => [Ow.cells g6 35 [.bool b2, e2], Ow.cells g5 35 [.bool b1, e1], Ow.cells g4 35 [.bool false, .slice none 0 0]]) (fun _ => [sI e2 (digs n), sI e1 (digs m), ge h0, isZ (.agg #[.bool b1, e1]) m, isZ (.agg #[.bool b2, e2]) n]) (fun _ => True) (fun _ => 0) () trivial ?_
  rintro _ _
  by_cases c : n = 0
  · have hl0 : (digs n).length = 0 := digs_len0.2 c
    repeat' (first | refine go ?_ | refine goX ?_ | refine goB ?_ | (refine goG ?_; intro g) | (refine goV ?_; intro v))
    rw [c, Nat.gcd_zero_right]
    refine WC.ret ?_
    exact Fin.p [] [isZ (.agg #[.bool b1, e1]) m] (ResE.cV rfl rfl meA T.r35 rfl) meA (List.nil_sublist _) haA ⟨b1, e1, rfl, hbm, rfl, rfl⟩
  · have hl0 := len_pos c
    repeat' (first | refine go ?_ | refine goX ?_ | refine goB ?_ | (refine goG ?_; intro g) | (refine goV ?_; intro v))
    first | refine WL.callV (tiny_c e1 m h1) ?_ | refine WD.callV (tiny_c e1 m h1) ?_
    repeat' (first | refine go ?_ | refine goX ?_ | refine goB ?_ | (refine goG ?_; intro g) | (refine goV ?_; intro v))
    first | refine WL.callV (tiny_c e2 n h2) ?_ | refine WD.callV (tiny_c e2 n h2) ?_
    repeat' (first | refine go ?_ | refine goX ?_ | refine goB ?_ | (refine goG ?_; intro g) | (refine goV ?_; intro v))
    refine WC.lp (σ := Nat × Nat) (fun s => [(7, .int .i64 (s.1 : Int)), (8, .int .i64 (s.2 : Int)), (4, ptr g4)]) (fun _ => [Ow.cells g4 35 [.bool false, .slice none 0 0]]) (fun _ => [ge h0]) (fun s => s.1 < B2 ∧ s.2 < B2 ∧ Nat.gcd s.1 s.2 = Nat.gcd m n) (fun s => s.2) (m, n) ⟨h1, h2, rfl⟩ ?_
    rintro ⟨p, q⟩ ⟨hp, hq, hpq⟩
    simp only at hp hq hpq ⊢
    have hp' : p < 1000000000000000000 := hp
    have hq' : q < 1000000000000000000 := hq
    by_cases c2 : 0 < q
    · have hr : p % q < q := Nat.mod_lt _ c2
      repeat' (first | refine go ?_ | refine goX ?_ | refine goB ?_ | (refine goG ?_; intro g) | (refine goV ?_; intro v))
      exact LoopEnd.mk (q, p % q) ⟨hq, Nat.lt_trans hr hq, by rw [gcd_step c2, hpq]⟩ (by show p % q < q; exact hr) (by rw [show ((p % q : Nat) : Int) = (p : Int) % (q : Int) by simp]; exact suA)
    · obtain rfl : q = 0 := by omega
      rw [Nat.gcd_zero_right] at hpq
      rw [← hpq]
      repeat' (first | refine go ?_ | refine goX ?_ | refine goB ?_ | (refine goG ?_; intro g) | (refine goV ?_; intro v))
      first | refine WL.callK (rof_c (p : Int) (by omega) (by omega)) ?_ | refine WD.callK (rof_c (p : Int) (by omega) (by omega)) ?_ | refine LO.callM (rof_c (p : Int) (by omega) (by omega)) ?_
      rintro _ _ _ ⟨nb, d, rfl, hb, rfl, rfl⟩
      simp only [List.nil_append, List.cons_append]
      repeat' (first | refine go ?_ | refine goX ?_ | refine goB ?_ | (refine goG ?_; intro g) | (refine goV ?_; intro v))
      refine WC.ret ?_
      exact Fin.p [] [isZ (.agg #[.bool nb, d]) p] (ResE.cV rfl rfl meA T.r35 rfl) meA (List.nil_sublist _) haA ⟨nb, d, rfl, hb, rfl, rfl⟩
end Ro
end Go.Proofs.YthggloiigkbfeaaGreat
namespace Go.Proofs.YthggloiigkbfeaaGreat
open W Go.RowKit
namespace Rtm
open Dvz Dvv Adc
theorem len_one {n : Nat} : (digs n).length = 1 ∧ (digs n).getD 0 0 = 1 ↔ n = 1 := by
  constructor
  · rintro ⟨h1, h2⟩
    have := digs_len1 h1
    rw [digs_1 this.1 this.2] at h2
    simp at h2; omega
  · rintro rfl; rw [digs_1 (by decide) (by decide)]; exact ⟨rfl, rfl⟩
theorem num_make {p q : Int} (hq : q ≠ 0) (hp : p ≠ 0) : (Rat.divInt p q).num = (if q / (Int.gcd p q : Int) < 0 then -(p / (Int.gcd p q : Int)) else p / (Int.gcd p q : Int)) ∧ ((Rat.divInt p q).den : Int) = ((q / (Int.gcd p q : Int)).natAbs : Int) := by
  have hg : 0 < Int.gcd p q := Int.gcd_pos_of_ne_zero_right _ hq
  have hgi : (0 : Int) < (Int.gcd p q : Int) := by omega
  have d1 : (Int.gcd p q : Int) ∣ p := Int.gcd_dvd_left ..
  have d2 : (Int.gcd p q : Int) ∣ q := Int.gcd_dvd_right ..
  have hs : (q / (Int.gcd p q : Int) < 0) ↔ q < 0 := by
    obtain ⟨k, hk⟩ := d2
    have e : q / (Int.gcd p q : Int) = k := Int.ediv_eq_of_eq_mul_right (by omega) hk
    rw [e]
    constructor
    · intro hkn; rw [hk]; exact Int.mul_neg_of_pos_of_neg hgi hkn
    · intro hqn
      refine Int.not_le.1 fun h => ?_
      have := Int.mul_nonneg (Int.le_of_lt hgi) h
      omega
  rw [Rat.num_divInt, Rat.den_divInt, if_neg hq, Int.gcd_comm q p]
  constructor
  · by_cases h : q < 0
    · rw [if_pos (hs.2 h), Int.sign_eq_neg_one_of_neg h, Int.neg_one_mul, Int.neg_ediv_of_dvd d1]
    · rw [if_neg (fun h2 => h (hs.1 h2)), Int.sign_eq_one_of_pos (by omega), Int.one_mul]
  · congr 1
    rw [Int.natAbs_ediv_of_dvd d2, Int.natAbs_natCast]
attribute [local irreducible] WC WL WD YO LO LoopEnd W.Fin Scalar SliceT FieldAt Row ArrT AllocT KnS Has W.One SrcE IntT
theorem d124 {G G' : Prop} (h : G') (s : Bx G' → G := by
  intro h
  first | (apply WC.draw (id := 2) [0, 2] (.held 0 (.held 2 (.loud 1 (.loud 3 (.loud 4 (.loud 5 (.done))))))) mixed (by kernel_rfl)) | fail
  exact Bx.h h) : G := s ⟨h⟩
set_option maxHeartbeats 4000000 in
set_option maxRecDepth 8000 in
theorem one_c : FnB Tryz.prog 136 [] [] [] (IsZ 1) := by
  refine fn_of [] 2 Tryz.func136 rfl Tryz.ntmps136 (by kernel_rfl) rfl suA fun h0 => ?_
  repeat' (first | refine go ?_ | refine goX ?_ | refine goB ?_ | (refine goG ?_; intro g) | (refine goV ?_; intro v))
  first | refine WL.callK (iof_c 1 (by decide) (by decide)) ?_ | refine WD.callK (iof_c 1 (by decide) (by decide)) ?_ | refine LO.callM (iof_c 1 (by decide) (by decide)) ?_
  rintro _ _ _ ⟨nb, d, rfl, hb, rfl, rfl⟩
  simp only [List.nil_append, List.cons_append]
  repeat' (first | refine go ?_ | refine goX ?_ | refine goB ?_ | (refine goG ?_; intro g) | (refine goV ?_; intro v))
  refine WC.ret ?_
  exact Fin.p [] [isZ (.agg #[.bool nb, d]) 1] (ResE.cV rfl rfl meA T.r35 rfl) meA (List.nil_sublist _) haA ⟨nb, _, rfl, hb, rfl, rfl⟩
set_option maxHeartbeats 4000000 in
set_option maxRecDepth 8000 in
theorem unit_c (v : Value) (z : Int) : FnB Tryz.prog 122 [v] [] [isZ v z] (IsV (.bool (decide (z = 1)))) := by
  refine fn_of [(0, v)] 19 Tryz.func122 rfl Tryz.ntmps122 (by kernel_rfl) rfl suA fun h0 => ?_
  refine WC.openZ (v := v) (z := z) hmA fun n1 d1 hv hb1 => ?_
  subst hv
  refine WC.fact (sI d1 (digs z.natAbs)) (hasZ_d hmA) ?_
  have hl1 := @len_one z.natAbs
  generalize hD : digs z.natAbs = D at *
  cases n1 with
  | true =>
    have hz : z < 0 := of_decide_eq_true hb1.symm
    repeat' (first | refine go ?_ | refine goX ?_ | refine goB ?_ | (refine goG ?_; intro g) | (refine goV ?_; intro v))
    refine WC.ret ?_
    exact Fin.v (ResE.t1 rfl rfl) meA (by rw [decide_eq_false (by omega)])
  | false =>
    have hz : ¬ z < 0 := of_decide_eq_false hb1.symm
    by_cases c : D.length = 1
    · by_cases c2 : D.getD 0 0 = 1
      · have h3 := hl1.1 ⟨c, c2⟩
        have c3 : D.getD (0 : Int).toNat 0 = 1 := c2
        repeat' (first | refine go ?_ | refine goX ?_ | refine goB ?_ | (refine goG ?_; intro g) | (refine goV ?_; intro v))
        refine WC.ret ?_
        exact Fin.v (ResE.t1 rfl rfl) meA (by rw [decide_eq_true (by omega)])
      · have h3 : z ≠ 1 := fun h => c2 (hl1.2 (by omega)).2
        have c3 : D.getD (0 : Int).toNat 0 ≠ 1 := c2
        repeat' (first | refine go ?_ | refine goX ?_ | refine goB ?_ | (refine goG ?_; intro g) | (refine goV ?_; intro v))
        refine WC.ret ?_
        exact Fin.v (ResE.t1 rfl rfl) meA (by rw [decide_eq_false h3])
    · have h3 : z ≠ 1 := fun h => c (hl1.2 (by omega)).1
      repeat' (first | refine go ?_ | refine goX ?_ | refine goB ?_ | (refine goG ?_; intro g) | (refine goV ?_; intro v))
      refine WC.ret ?_
      exact Fin.v (ResE.t1 rfl rfl) meA (by rw [decide_eq_false h3])
set_option maxHeartbeats 4000000 in
set_option maxRecDepth 8000 in
theorem lowest_c (v1 v2 : Value) (p q : Int) (r : Rat) (hq : q ≠ 0) (hn : r.num = if q < 0 then -p else p) (hd : (r.den : Int) = (q.natAbs : Int)) : FnB Tryz.prog 124 [v1, v2] [] [isZ v1 p, isZ v2 q] (IsQ r) := by
  refine fn_of [(0, v1), (1, v2)] 18 Tryz.func124 rfl Tryz.ntmps124 (by kernel_rfl) rfl suA fun h0 => ?_
  refine WC.openZ (v := v1) (z := p) hmA fun n1 d1 hv hb1 => ?_
  subst hv
  refine WC.openZ (v := v2) (z := q) hmA fun n2 d2 hv hb2 => ?_
  subst hv
  have fin : ∀ (F : List Fct) (nb : Bool) (e1 e2 : Value), q.natAbs ≠ 1 → Has F (isZ (.agg #[.bool nb, e1]) r.num) → Has F (isZ (.agg #[.bool false, e2]) (q.natAbs : Int)) → nb = decide (r.num < 0) → Has F (isQ (.agg #[.bool nb, e1, .bool false, e2]) r) := fun F nb e1 e2 h1 h2 h3 hb => hasQ_of hb (hasZ_d h2) (by
    have : qz r = (q.natAbs : Int) := by unfold qz; rw [if_neg (by omega)]; exact hd
    rw [this]; exact hasZ_d h3)
  have fin1 : ∀ (F : List Fct) (nb : Bool) (e1 : Value), q.natAbs = 1 → Has F (isZ (.agg #[.bool nb, e1]) r.num) → nb = decide (r.num < 0) → Has F (isQ (.agg #[.bool nb, e1, .bool false, .slice none 0 0]) r) := fun F nb e1 h1 h2 hb => hasQ_of hb (hasZ_d h2) (by
    have : qz r = 0 := by unfold qz; rw [if_pos (by omega)]
    rw [this]; simpa [digs_0] using nil0)
  cases n2 with
  | true =>
    have hq2 : q < 0 := of_decide_eq_true hb2.symm
    rw [if_pos hq2] at hn
    repeat' (first | refine go ?_ | refine goX ?_ | refine goB ?_ | (refine goG ?_; intro g) | (refine goV ?_; intro v) | refine goD ?_ | refine goXD ?_ | (refine goDG ?_; intro g) | (refine goDV ?_; intro v) | refine d124 ?_ | fail)
    first | refine WL.callK (neg_c (.agg #[.bool n1, d1]) p) ?_ | refine WD.callK (neg_c (.agg #[.bool n1, d1]) p) ?_ | refine LO.callM (neg_c (.agg #[.bool n1, d1]) p) ?_
    rintro _ _ _ ⟨n3, d3, rfl, hb3, rfl, rfl⟩
    simp only [List.nil_append, List.cons_append]
    repeat' (first | refine go ?_ | refine goX ?_ | refine goB ?_ | (refine goG ?_; intro g) | (refine goV ?_; intro v) | refine goD ?_ | refine goXD ?_ | (refine goDG ?_; intro g) | (refine goDV ?_; intro v) | refine d124 ?_ | fail)
    first | refine WL.callK (neg_c (.agg #[.bool true, d2]) q) ?_ | refine WD.callK (neg_c (.agg #[.bool true, d2]) q) ?_ | refine LO.callM (neg_c (.agg #[.bool true, d2]) q) ?_
    rintro _ _ _ ⟨n4, d4, rfl, hb4, rfl, rfl⟩
    simp only [List.nil_append, List.cons_append]
    obtain rfl : false = n4 := by rw [hb4, eq_comm, decide_eq_false_iff_not]; omega
    rw [← hn] at hb3 ⊢
    rw [show -q = (q.natAbs : Int) by omega]
    repeat' (first | refine go ?_ | refine goX ?_ | refine goB ?_ | (refine goG ?_; intro g) | (refine goV ?_; intro v) | refine goD ?_ | refine goXD ?_ | (refine goDG ?_; intro g) | (refine goDV ?_; intro v) | refine d124 ?_ | fail)
    first | refine WL.callV (unit_c (.agg #[.bool false, d4]) (q.natAbs : Int)) ?_ | refine WD.callV (unit_c (.agg #[.bool false, d4]) (q.natAbs : Int)) ?_
    by_cases c : q.natAbs = 1
    · rw [decide_eq_true (by omega)]
      repeat' (first | refine go ?_ | refine goX ?_ | refine goB ?_ | (refine goG ?_; intro g) | (refine goV ?_; intro v) | refine goD ?_ | refine goXD ?_ | (refine goDG ?_; intro g) | (refine goDV ?_; intro v) | refine d124 ?_ | fail)
      refine WC.fact (isQ (.agg #[.bool n3, d3, .bool false, .slice none 0 0]) r) (fin1 _ _ _ c hmA hb3) ?_
      refine WC.ret ?_
      exact Fin.p [] [isQ (.agg #[.bool n3, d3, .bool false, .slice none 0 0]) r] (ResE.cV rfl rfl meA T.r37 rfl) meA (List.nil_sublist _) haA ⟨n3, _, _, rfl, hb3, rfl, rfl⟩
    · rw [decide_eq_false (by omega)]
      repeat' (first | refine go ?_ | refine goX ?_ | refine goB ?_ | (refine goG ?_; intro g) | (refine goV ?_; intro v) | refine goD ?_ | refine goXD ?_ | (refine goDG ?_; intro g) | (refine goDV ?_; intro v) | refine d124 ?_ | fail)
      refine WC.fact (isQ (.agg #[.bool n3, d3, .bool false, d4]) r) (fin _ _ _ _ c hmA hmA hb3) ?_
      refine WC.ret ?_
      exact Fin.p [] [isQ (.agg #[.bool n3, d3, .bool false, d4]) r] (ResE.cV rfl rfl meA T.r37 rfl) meA (List.nil_sublist _) haA ⟨n3, _, _, rfl, hb3, rfl, rfl⟩
  | false =>
    have hq2 : ¬ q < 0 := of_decide_eq_false hb2.symm
    rw [if_neg hq2] at hn
    rw [← hn] at hb1 ⊢
    rw [show q = (q.natAbs : Int) by omega] at hb2 ⊢
    repeat' (first | refine go ?_ | refine goX ?_ | refine goB ?_ | (refine goG ?_; intro g) | (refine goV ?_; intro v) | refine goD ?_ | refine goXD ?_ | (refine goDG ?_; intro g) | (refine goDV ?_; intro v) | refine d124 ?_ | fail)
    first | refine WL.callV (unit_c (.agg #[.bool false, d2]) (q.natAbs : Int)) ?_ | refine WD.callV (unit_c (.agg #[.bool false, d2]) (q.natAbs : Int)) ?_
    by_cases c : q.natAbs = 1
    · rw [decide_eq_true (by omega)]
      repeat' (first | refine go ?_ | refine goX ?_ | refine goB ?_ | (refine goG ?_; intro g) | (refine goV ?_; intro v) | refine goD ?_ | refine goXD ?_ | (refine goDG ?_; intro g) | (refine goDV ?_; intro v) | refine d124 ?_ | fail)
      refine WC.fact (isQ (.agg #[.bool n1, d1, .bool false, .slice none 0 0]) r) (fin1 _ _ _ c hmA hb1) ?_
      refine WC.ret ?_
      exact Fin.p [] [isQ (.agg #[.bool n1, d1, .bool false, .slice none 0 0]) r] (ResE.cV rfl rfl meA T.r37 rfl) meA (List.nil_sublist _) haA ⟨n1, _, _, rfl, hb1, rfl, rfl⟩
    · rw [decide_eq_false (by omega)]
      repeat' (first | refine go ?_ | refine goX ?_ | refine goB ?_ | (refine goG ?_; intro g) | (refine goV ?_; intro v) | refine goD ?_ | refine goXD ?_ | (refine goDG ?_; intro g) | (refine goDV ?_; intro v) | refine d124 ?_ | fail)
      refine WC.fact (isQ (.agg #[.bool n1, d1, .bool false, d2]) r) (fin _ _ _ _ c hmA hmA hb1) ?_
      refine WC.ret ?_
      exact Fin.p [] [isQ (.agg #[.bool n1, d1, .bool false, d2]) r] (ResE.cV rfl rfl meA T.r37 rfl) meA (List.nil_sublist _) haA ⟨n1, _, _, rfl, hb1, rfl, rfl⟩
set_option maxHeartbeats 4000000 in
set_option maxRecDepth 8000 in
theorem make_c (v1 v2 : Value) (p q : Int) (h1 : p.natAbs < B2) (h2 : q.natAbs < B2) : FnB Tryz.prog 69 [v1, v2] [] [isZ v1 p, isZ v2 q] (IsQ (Rat.divInt p q)) := by
  refine fn_of [(0, v1), (1, v2)] 38 Tryz.func69 rfl Tryz.ntmps69 (by kernel_rfl) rfl suA fun h0 => ?_
  refine WC.openZ (v := v1) (z := p) hmA fun n1 d1 hv hb1 => ?_
  subst hv
  refine WC.openZ (v := v2) (z := q) hmA fun n2 d2 hv hb2 => ?_
  subst hv
  have lp := @digs_len0 p.natAbs
  have lq := @digs_len0 q.natAbs
  by_cases c0 : q = 0
  · have hl := lq.2 (by omega)
    repeat' (first | refine go ?_ | refine goX ?_ | refine goB ?_ | (refine goG ?_; intro g) | (refine goV ?_; intro v))
    rw [c0, Rat.divInt_zero]
    refine WC.ret ?_
    exact Fin.p [] [isQ (.agg #[.bool false, .slice none 0 0, .bool false, .slice none 0 0]) 0] (ResE.cV rfl rfl meA T.r37 rfl) meA (List.nil_sublist _) (.cons hasQ_0 .nil) ⟨false, _, _, rfl, rfl, rfl, rfl⟩
  have hlq := len_pos (n := q.natAbs) (by omega)
  by_cases c1 : p = 0
  · have hl := lp.2 (by omega)
    repeat' (first | refine go ?_ | refine goX ?_ | refine goB ?_ | (refine goG ?_; intro g) | (refine goV ?_; intro v))
    rw [c1, Rat.zero_divInt]
    refine WC.ret ?_
    exact Fin.p [] [isQ (.agg #[.bool false, .slice none 0 0, .bool false, .slice none 0 0]) 0] (ResE.cV rfl rfl meA T.r37 rfl) meA (List.nil_sublist _) (.cons hasQ_0 .nil) ⟨false, _, _, rfl, rfl, rfl, rfl⟩
  have hlp := len_pos (n := p.natAbs) (by omega)
  obtain ⟨hn, hd⟩ := num_make (p := p) (q := q) c0 c1
  have hg : 0 < Int.gcd p q := Int.gcd_pos_of_ne_zero_right _ c0
  have hg2 : Int.gcd p q < B2 := by
    have : Int.gcd p q ≤ q.natAbs := Nat.le_of_dvd (by omega) (Nat.gcd_dvd_right ..)
    omega
  have hqne : q / (Int.gcd p q : Int) ≠ 0 := fun h => by
    have := Int.ediv_mul_cancel (Int.gcd_dvd_right (a := p) (b := q))
    rw [h] at this; omega
  repeat' (first | refine go ?_ | refine goX ?_ | refine goB ?_ | (refine goG ?_; intro g) | (refine goV ?_; intro v))
  first | refine WL.callK (gcd_c (.agg #[.bool n1, d1]) (.agg #[.bool n2, d2]) p q h1 h2) ?_ | refine WD.callK (gcd_c (.agg #[.bool n1, d1]) (.agg #[.bool n2, d2]) p q h1 h2) ?_ | refine LO.callM (gcd_c (.agg #[.bool n1, d1]) (.agg #[.bool n2, d2]) p q h1 h2) ?_
  rintro _ _ _ ⟨n3, d3, rfl, hb3, rfl, rfl⟩
  simp only [List.nil_append, List.cons_append]
  repeat' (first | refine go ?_ | refine goX ?_ | refine goB ?_ | (refine goG ?_; intro g) | (refine goV ?_; intro v))
  first | refine WL.callV (unit_c (.agg #[.bool n3, d3]) ((Int.gcd p q : Nat) : Int)) ?_ | refine WD.callV (unit_c (.agg #[.bool n3, d3]) ((Int.gcd p q : Nat) : Int)) ?_
  by_cases c2 : Int.gcd p q = 1
  · rw [decide_eq_true (by omega)]
    rw [c2] at hn hd hqne
    have e1 : ∀ z : Int, z / ((1 : Nat) : Int) = z := fun z => Int.ediv_one z
    rw [e1] at hd hqne
    rw [e1, e1] at hn
    repeat' (first | refine go ?_ | refine goX ?_ | refine goB ?_ | (refine goG ?_; intro g) | (refine goV ?_; intro v))
    first | refine WL.callK (lowest_c (.agg #[.bool n1, d1]) (.agg #[.bool n2, d2]) p q (Rat.divInt p q) c0 hn hd) ?_ | refine WD.callK (lowest_c (.agg #[.bool n1, d1]) (.agg #[.bool n2, d2]) p q (Rat.divInt p q) c0 hn hd) ?_ | refine LO.callM (lowest_c (.agg #[.bool n1, d1]) (.agg #[.bool n2, d2]) p q (Rat.divInt p q) c0 hn hd) ?_
    rintro _ _ _ ⟨nb, e1, e2, rfl, hb, rfl, rfl⟩
    simp only [List.nil_append, List.cons_append]
    repeat' (first | refine go ?_ | refine goX ?_ | refine goB ?_ | (refine goG ?_; intro g) | (refine goV ?_; intro v))
    refine WC.ret ?_
    exact Fin.p [] [isQ (.agg #[.bool nb, e1, .bool false, e2]) (Rat.divInt p q)] (ResE.cV rfl rfl meA T.r37 rfl) meA (List.nil_sublist _) haA ⟨nb, _, _, rfl, hb, rfl, rfl⟩
  · rw [decide_eq_false (by omega)]
    repeat' (first | refine go ?_ | refine goX ?_ | refine goB ?_ | (refine goG ?_; intro g) | (refine goV ?_; intro v))
    first | refine WL.callK (div_c (.agg #[.bool n1, d1]) (.agg #[.bool n3, d3]) p ((Int.gcd p q : Nat) : Int) h1 hg2 (by omega)) ?_ | refine WD.callK (div_c (.agg #[.bool n1, d1]) (.agg #[.bool n3, d3]) p ((Int.gcd p q : Nat) : Int) h1 hg2 (by omega)) ?_ | refine LO.callM (div_c (.agg #[.bool n1, d1]) (.agg #[.bool n3, d3]) p ((Int.gcd p q : Nat) : Int) h1 hg2 (by omega)) ?_
    rintro _ _ _ ⟨n4, d4, n5, d5, rfl, hb4, hb5, rfl, rfl⟩
    simp only [List.nil_append, List.cons_append]
    repeat' (first | refine go ?_ | refine goX ?_ | refine goB ?_ | (refine goG ?_; intro g) | (refine goV ?_; intro v))
    first | refine WL.callK (div_c (.agg #[.bool n2, d2]) (.agg #[.bool n3, d3]) q ((Int.gcd p q : Nat) : Int) h2 hg2 (by omega)) ?_ | refine WD.callK (div_c (.agg #[.bool n2, d2]) (.agg #[.bool n3, d3]) q ((Int.gcd p q : Nat) : Int) h2 hg2 (by omega)) ?_ | refine LO.callM (div_c (.agg #[.bool n2, d2]) (.agg #[.bool n3, d3]) q ((Int.gcd p q : Nat) : Int) h2 hg2 (by omega)) ?_
    rintro _ _ _ ⟨n6, d6, n7, d7, rfl, hb6, hb7, rfl, rfl⟩
    simp only [List.nil_append, List.cons_append]
    repeat' (first | refine go ?_ | refine goX ?_ | refine goB ?_ | (refine goG ?_; intro g) | (refine goV ?_; intro v))
    first | refine WL.callK (lowest_c (.agg #[.bool n4, d4]) (.agg #[.bool n6, d6]) (p / ((Int.gcd p q : Nat) : Int)) (q / ((Int.gcd p q : Nat) : Int)) (Rat.divInt p q) hqne hn hd) ?_ | refine WD.callK (lowest_c (.agg #[.bool n4, d4]) (.agg #[.bool n6, d6]) (p / ((Int.gcd p q : Nat) : Int)) (q / ((Int.gcd p q : Nat) : Int)) (Rat.divInt p q) hqne hn hd) ?_ | refine LO.callM (lowest_c (.agg #[.bool n4, d4]) (.agg #[.bool n6, d6]) (p / ((Int.gcd p q : Nat) : Int)) (q / ((Int.gcd p q : Nat) : Int)) (Rat.divInt p q) hqne hn hd) ?_
    rintro _ _ _ ⟨nb, e1, e2, rfl, hb, rfl, rfl⟩
    simp only [List.nil_append, List.cons_append]
    repeat' (first | refine go ?_ | refine goX ?_ | refine goB ?_ | (refine goG ?_; intro g) | (refine goV ?_; intro v))
    refine WC.ret ?_
    exact Fin.p [] [isQ (.agg #[.bool nb, e1, .bool false, e2]) (Rat.divInt p q)] (ResE.cV rfl rfl meA T.r37 rfl) meA (List.nil_sublist _) haA ⟨nb, _, _, rfl, hb, rfl, rfl⟩
end Rtm
end Go.Proofs.YthggloiigkbfeaaGreat
namespace Go.Proofs.YthggloiigkbfeaaGreat
open W Go.RowKit
/-- a number of small numerator and denominator -/
def Sm (q : Rat) : Prop := q.num.natAbs ≤ 500000000 ∧ q.den ≤ 500000000
def cmpQ (a b : Rat) : Int := cmpI (a.num * b.den) (b.num * a.den)
theorem cmpQ_lt {a b : Rat} : cmpQ a b < 0 ↔ a < b := by
  rw [Rat.lt_iff]; unfold cmpQ cmpI; split
  · simp [*]
  · split <;> (constructor <;> intro h <;> omega)
theorem cmpQ_gt {a b : Rat} : 0 < cmpQ a b ↔ b < a := by
  rw [Rat.lt_iff]; unfold cmpQ cmpI; split
  · constructor <;> intro h <;> omega
  · split <;> (constructor <;> intro h <;> omega)
theorem cmpQ_eq {a b : Rat} : cmpQ a b = 0 ↔ a = b := by
  rw [Rat.eq_iff_mul_eq_mul]; unfold cmpQ cmpI; split
  · constructor <;> intro h <;> omega
  · split <;> (constructor <;> intro h <;> omega)
theorem sgn_mul {z : Int} {d : Nat} (hd : d ≠ 0) : (z * d < 0 ↔ z < 0) ∧ (0 < z * d ↔ 0 < z) := by
  have h0 : (0 : Int) < d := by omega
  rcases Int.lt_trichotomy z 0 with h | h | h
  · have := Int.mul_neg_of_neg_of_pos h h0
    constructor <;> constructor <;> intro h2 <;> omega
  · subst h; simp
  · have := Int.mul_pos h h0
    constructor <;> constructor <;> intro h2 <;> omega
theorem cmp_sgn {a b : Rat} (h : sgn a.num ≠ sgn b.num ∨ sgn a.num = 0) : cmpI (sgn a.num) (sgn b.num) = cmpQ a b := by
  have h1 := @sgn_mul a.num b.den b.den_nz
  have h2 := @sgn_mul b.num a.den a.den_nz
  unfold cmpQ
  generalize a.num * b.den = x at *
  generalize b.num * a.den = y at *
  unfold sgn cmpI at *
  split at h <;> split at h <;> (repeat' split) <;> first | rfl | omega | (split at h <;> omega)
theorem qz_len {q : Rat} : (digs (qz q).natAbs).length = 0 ↔ q.den = 1 := by
  rw [digs_len0]; unfold qz
  have := q.den_nz
  split <;> omega
theorem num_len {q : Rat} : (digs q.num.natAbs).length = 0 ↔ q = 0 := by
  rw [digs_len0, ← Rat.num_eq_zero]; omega
theorem int_rat {q : Rat} (h : q.den = 1) : q = ((q.num : Int) : Rat) := by
  apply Rat.ext
  · simp
  · simpa using h
theorem add_int {a b : Rat} (ha : a.den = 1) (hb : b.den = 1) : (a + b).num = a.num + b.num ∧ (a + b).den = 1 := by
  have e : a + b = ((a.num + b.num : Int) : Rat) := by
    rw [int_rat ha, int_rat hb, Rat.intCast_add]; simp
  rw [e]; exact ⟨Rat.num_intCast _, Rat.den_intCast _⟩
theorem add_div {a b : Rat} : Rat.divInt (a.num * b.den + b.num * a.den) ((a.den : Int) * (b.den : Int)) = a + b := by
  have : ((a.den : Int) * (b.den : Int)) = ((a.den * b.den : Nat) : Int) := by simp
  rw [this, Rat.divInt_ofNat, Rat.add_def']
theorem Sm.mul {x y : Nat} (hx : x ≤ 500000000) (hy : y ≤ 500000000) : x * y ≤ 250000000000000000 := Nat.mul_le_mul hx hy
theorem abs_mulc (z : Int) (d : Nat) : (z * (d : Int)).natAbs = z.natAbs * d := by rw [Int.natAbs_mul, Int.natAbs_natCast]
namespace Rta
open Dvz Dvv Adc Rtm
attribute [local irreducible] WC WL WD YO LO LoopEnd W.Fin Scalar SliceT FieldAt Row ArrT AllocT KnS Has W.One SrcE IntT
theorem d36 {G G' : Prop} (h : G') (s : Bx G' → G := by
  intro h
  first | (apply WC.draw (id := 7) [0, 2] (.held 0 (.held 2 (.more 1 (.more 3 (.more 4 (.loud 5 (.loud 6 (.loud 7 (.done)))) (.loud 5 (.loud 4 (.loud 6 (.loud 7 (.done)))))) (.more 4 (.more 3 (.loud 5 (.loud 6 (.loud 7 (.done)))) (.loud 5 (.loud 3 (.loud 6 (.loud 7 (.done)))))) (.loud 5 (.more 3 (.loud 4 (.loud 6 (.loud 7 (.done)))) (.loud 4 (.loud 3 (.loud 6 (.loud 7 (.done))))))))) (.more 4 (.more 1 (.more 3 (.loud 5 (.loud 6 (.loud 7 (.done)))) (.loud 5 (.loud 3 (.loud 6 (.loud 7 (.done)))))) (.loud 5 (.loud 1 (.loud 3 (.loud 6 (.loud 7 (.done))))))) (.loud 5 (.more 1 (.more 3 (.loud 4 (.loud 6 (.loud 7 (.done)))) (.loud 4 (.loud 3 (.loud 6 (.loud 7 (.done)))))) (.loud 4 (.loud 1 (.loud 3 (.loud 6 (.loud 7 (.done)))))))))))) mixed (by kernel_rfl)) | (apply WC.draw (id := 8) [0, 1, 2, 4, 5, 6, 9, 10] (.held 0 (.held 1 (.held 2 (.held 4 (.held 5 (.held 6 (.held 9 (.held 10 (.loud 3 (.loud 7 (.loud 8 (.loud 11 (.loud 12 (.loud 13 (.done))))))))))))))) mixed (by kernel_rfl)) | fail
  exact Bx.h h) : G := s ⟨h⟩
theorem d97 {G G' : Prop} (h : G') (s : Bx G' → G := by
  intro h
  first | (apply WC.draw (id := 1) [0, 1, 3, 4, 5] (.held 0 (.held 1 (.held 3 (.held 4 (.loud 2 (.held 5 (.loud 6 (.done)))))))) mixed (by kernel_rfl)) | fail
  exact Bx.h h) : G := s ⟨h⟩
set_option maxHeartbeats 4000000 in
set_option maxRecDepth 8000 in
theorem of_c (p q : Int) (h1 : p.natAbs < B2) (h2 : q.natAbs < B2) : FnB Tryz.prog 21 [.int .i64 p, .int .i64 q] [] [] (IsQ (Rat.divInt p q)) := by
  refine fn_of [(0, (.int .i64 p)), (1, (.int .i64 q))] 10 Tryz.func21 rfl Tryz.ntmps21 (by kernel_rfl) rfl suA fun h0 => ?_
  have h1' : p.natAbs < 1000000000000000000 := h1
  have h2' : q.natAbs < 1000000000000000000 := h2
  repeat' (first | refine go ?_ | refine goX ?_ | refine goB ?_ | (refine goG ?_; intro g) | (refine goV ?_; intro v))
  first | refine WL.callK (iof_c p (by omega) (by omega)) ?_ | refine WD.callK (iof_c p (by omega) (by omega)) ?_ | refine LO.callM (iof_c p (by omega) (by omega)) ?_
  rintro _ _ _ ⟨n1, d1, rfl, hb1, rfl, rfl⟩
  simp only [List.nil_append, List.cons_append]
  repeat' (first | refine go ?_ | refine goX ?_ | refine goB ?_ | (refine goG ?_; intro g) | (refine goV ?_; intro v))
  first | refine WL.callK (iof_c q (by omega) (by omega)) ?_ | refine WD.callK (iof_c q (by omega) (by omega)) ?_ | refine LO.callM (iof_c q (by omega) (by omega)) ?_
  rintro _ _ _ ⟨n2, d2, rfl, hb2, rfl, rfl⟩
  simp only [List.nil_append, List.cons_append]
  repeat' (first | refine go ?_ | refine goX ?_ | refine goB ?_ | (refine goG ?_; intro g) | (refine goV ?_; intro v))
  first | refine WL.callK (make_c (.agg #[.bool n1, d1]) (.agg #[.bool n2, d2]) p q h1 h2) ?_ | refine WD.callK (make_c (.agg #[.bool n1, d1]) (.agg #[.bool n2, d2]) p q h1 h2) ?_ | refine LO.callM (make_c (.agg #[.bool n1, d1]) (.agg #[.bool n2, d2]) p q h1 h2) ?_
  rintro _ _ _ ⟨nb, e1, e2, rfl, hb, rfl, rfl⟩
  simp only [List.nil_append, List.cons_append]
  repeat' (first | refine go ?_ | refine goX ?_ | refine goB ?_ | (refine goG ?_; intro g) | (refine goV ?_; intro v))
  refine WC.ret ?_
  exact Fin.p [] [isQ (.agg #[.bool nb, e1, .bool false, e2]) (Rat.divInt p q)] (ResE.cV rfl rfl meA T.r37 rfl) meA (List.nil_sublist _) haA ⟨nb, _, _, rfl, hb, rfl, rfl⟩
set_option maxHeartbeats 4000000 in
set_option maxRecDepth 8000 in
theorem den_c (v : Value) (q : Rat) : FnB Tryz.prog 83 [v] [] [isQ v q] (IsZ (q.den : Int)) := by
  refine fn_of [(0, v)] 11 Tryz.func83 rfl Tryz.ntmps83 (by kernel_rfl) rfl suA fun h0 => ?_
  refine WC.openQ (v := v) (q := q) hmA fun n1 d1 d2 hv hb1 => ?_
  subst hv
  have hl := @qz_len q
  by_cases c : q.den = 1
  · have hl0 := hl.2 c
    repeat' (first | refine go ?_ | refine goX ?_ | refine goB ?_ | (refine goG ?_; intro g) | (refine goV ?_; intro v))
    first | refine WL.callK (one_c) ?_ | refine WD.callK (one_c) ?_ | refine LO.callM (one_c) ?_
    rintro _ _ _ ⟨nb, d, rfl, hb, rfl, rfl⟩
    simp only [List.nil_append, List.cons_append]
    repeat' (first | refine go ?_ | refine goX ?_ | refine goB ?_ | (refine goG ?_; intro g) | (refine goV ?_; intro v))
    rw [show ((q.den : Nat) : Int) = 1 by omega]
    refine WC.ret ?_
    exact Fin.p [] [isZ (.agg #[.bool nb, d]) 1] (ResE.cV rfl rfl meA T.r35 rfl) meA (List.nil_sublist _) haA ⟨nb, _, rfl, hb, rfl, rfl⟩
  · have hl0 : (digs (qz q).natAbs).length ≠ 0 := fun h => c (hl.1 h)
    have hz : qz q = (q.den : Int) := by unfold qz; rw [if_neg c]
    rw [hz] at hl0
    refine WC.fact (isZ (.agg #[.bool false, d2]) (q.den : Int)) (by rw [← hz]; exact hasQ_Q hmA) ?_
    repeat' (first | refine go ?_ | refine goX ?_ | refine goB ?_ | (refine goG ?_; intro g) | (refine goV ?_; intro v))
    refine WC.ret ?_
    exact Fin.p [] [isZ (.agg #[.bool false, d2]) (q.den : Int)] (ResE.cV rfl rfl meA T.r35 rfl) meA (List.nil_sublist _) haA ⟨false, _, rfl, nneg_dec _, rfl, rfl⟩
set_option maxHeartbeats 4000000 in
set_option maxRecDepth 8000 in
theorem sign_c (v : Value) (q : Rat) : FnB Tryz.prog 38 [v] [] [isQ v q] (IsV (.int .i64 (sgn q.num))) := by
  refine fn_of [(0, v)] 6 Tryz.func38 rfl Tryz.ntmps38 (by kernel_rfl) rfl suA fun h0 => ?_
  refine WC.openQ (v := v) (q := q) hmA fun n1 d1 d2 hv hb1 => ?_
  subst hv
  refine WC.fact (isZ (.agg #[.bool n1, d1]) q.num) (hasQ_P hmA) ?_
  repeat' (first | refine go ?_ | refine goX ?_ | refine goB ?_ | (refine goG ?_; intro g) | (refine goV ?_; intro v))
  first | refine WL.callV (isign_c (.agg #[.bool n1, d1]) q.num) ?_ | refine WD.callV (isign_c (.agg #[.bool n1, d1]) q.num) ?_
  repeat' (first | refine go ?_ | refine goX ?_ | refine goB ?_ | (refine goG ?_; intro g) | (refine goV ?_; intro v))
  refine WC.ret ?_
  exact Fin.v (ResE.t1 rfl rfl) meA rfl
set_option maxHeartbeats 4000000 in
set_option maxRecDepth 8000 in
theorem neg_c (v : Value) (q : Rat) : FnB Tryz.prog 97 [v] [] [isQ v q] (IsQ (-q)) := by
  refine fn_of [(0, v)] 9 Tryz.func97 rfl Tryz.ntmps97 (by kernel_rfl) rfl suA fun h0 => ?_
  refine WC.openQ (v := v) (q := q) hmA fun n1 d1 d2 hv hb1 => ?_
  subst hv
  refine WC.fact (isZ (.agg #[.bool n1, d1]) q.num) (hasQ_P hmA) ?_
  repeat' (first | refine go ?_ | refine goX ?_ | refine goB ?_ | (refine goG ?_; intro g) | (refine goV ?_; intro v) | refine goD ?_ | refine goXD ?_ | (refine goDG ?_; intro g) | (refine goDV ?_; intro v) | refine d97 ?_ | fail)
  first | refine WL.callK (Go.Proofs.YthggloiigkbfeaaGreat.neg_c (.agg #[.bool n1, d1]) q.num) ?_ | refine WD.callK (Go.Proofs.YthggloiigkbfeaaGreat.neg_c (.agg #[.bool n1, d1]) q.num) ?_ | refine LO.callM (Go.Proofs.YthggloiigkbfeaaGreat.neg_c (.agg #[.bool n1, d1]) q.num) ?_
  rintro _ _ _ ⟨n3, d3, rfl, hb3, rfl, rfl⟩
  simp only [List.nil_append, List.cons_append]
  repeat' (first | refine go ?_ | refine goX ?_ | refine goB ?_ | (refine goG ?_; intro g) | (refine goV ?_; intro v) | refine goD ?_ | refine goXD ?_ | (refine goDG ?_; intro g) | (refine goDV ?_; intro v) | refine d97 ?_ | fail)
  have hb4 : n3 = decide ((-q).num < 0) := by rw [hb3, Rat.neg_num]
  refine WC.fact (isQ (.agg #[.bool n3, d3, .bool false, d2]) (-q)) (hasQ_of hb4 (by rw [Rat.neg_num]; exact hasZ_d hmA) (by rw [show qz (-q) = qz q by unfold qz; rw [Rat.neg_den]]; exact hasQ_d2 hmA)) ?_
  refine WC.ret ?_
  exact Fin.p [] [isQ (.agg #[.bool n3, d3, .bool false, d2]) (-q)] (ResE.cV rfl rfl meA T.r37 rfl) meA (List.nil_sublist _) haA ⟨n3, _, _, rfl, hb4, rfl, rfl⟩
set_option maxHeartbeats 8000000 in
set_option maxRecDepth 8000 in
theorem add_c (v1 v2 : Value) (a b : Rat) (h1 : Sm a) (h2 : Sm b) : FnB Tryz.prog 36 [v1, v2] [] [isQ v1 a, isQ v2 b] (IsQ (a + b)) := by
  refine fn_of [(0, v1), (1, v2)] 57 Tryz.func36 rfl Tryz.ntmps36 (by kernel_rfl) rfl suA fun h0 => ?_
  refine WC.openQ (v := v1) (q := a) hmA fun n1 d1 d2 hv hb1 => ?_
  subst hv
  refine WC.openQ (v := v2) (q := b) hmA fun n2 d3 d4 hv hb2 => ?_
  subst hv
  have ha := @qz_len a
  have hb := @qz_len b
  have na := @num_len a
  have nb := @num_len b
  obtain ⟨s1, s2⟩ := h1
  obtain ⟨s3, s4⟩ := h2
  by_cases c : a.den = 1 ∧ b.den = 1
  · have l1 := ha.2 c.1
    have l2 := hb.2 c.2
    obtain ⟨e1, e2⟩ := add_int c.1 c.2
    refine WC.fact (isZ (.agg #[.bool n1, d1]) a.num) (hasQ_P hmA) ?_
    refine WC.fact (isZ (.agg #[.bool n2, d3]) b.num) (hasQ_P hmA) ?_
    repeat' (first | refine go ?_ | refine goX ?_ | refine goB ?_ | (refine goG ?_; intro g) | (refine goV ?_; intro v) | refine goD ?_ | refine goXD ?_ | (refine goDG ?_; intro g) | (refine goDV ?_; intro v) | apply WD.more_of | refine WM.more (by exact rfl) (by exact rfl) (by exact rfl) ?_ ?_ | refine WM.one (by exact rfl) (by exact rfl) (by exact rfl) ?_ | refine WM.more0 (by exact rfl) (by exact rfl) ?_ ?_ | refine WM.one0 (by exact rfl) (by exact rfl) ?_ | (refine goLG ?_; intro g) | (refine goLV ?_; intro v) | refine goLS ?_ | refine d36 ?_ | fail)
    first | refine WL.callK (Adc.add_c (.agg #[.bool n1, d1]) (.agg #[.bool n2, d3]) a.num b.num (abs_len (Nat.lt_of_le_of_lt s1 (by decide))) (abs_len (Nat.lt_of_le_of_lt s3 (by decide)))) ?_ | refine WD.callK (Adc.add_c (.agg #[.bool n1, d1]) (.agg #[.bool n2, d3]) a.num b.num (abs_len (Nat.lt_of_le_of_lt s1 (by decide))) (abs_len (Nat.lt_of_le_of_lt s3 (by decide)))) ?_ | refine LO.callM (Adc.add_c (.agg #[.bool n1, d1]) (.agg #[.bool n2, d3]) a.num b.num (abs_len (Nat.lt_of_le_of_lt s1 (by decide))) (abs_len (Nat.lt_of_le_of_lt s3 (by decide)))) ?_
    rintro _ _ _ ⟨n5, d5, rfl, hb5, rfl, rfl⟩
    simp only [List.nil_append, List.cons_append]
    rw [← e1] at hb5 ⊢
    repeat' (first | refine go ?_ | refine goX ?_ | refine goB ?_ | (refine goG ?_; intro g) | (refine goV ?_; intro v) | refine goD ?_ | refine goXD ?_ | (refine goDG ?_; intro g) | (refine goDV ?_; intro v) | apply WD.more_of | refine WM.more (by exact rfl) (by exact rfl) (by exact rfl) ?_ ?_ | refine WM.one (by exact rfl) (by exact rfl) (by exact rfl) ?_ | refine WM.more0 (by exact rfl) (by exact rfl) ?_ ?_ | refine WM.one0 (by exact rfl) (by exact rfl) ?_ | (refine goLG ?_; intro g) | (refine goLV ?_; intro v) | refine goLS ?_ | refine d36 ?_ | fail)
    refine WC.fact (isQ (.agg #[.bool n5, d5, .bool false, .slice none 0 0]) (a + b)) (hasQ_of hb5 (hasZ_d hmA) (by rw [show qz (a + b) = 0 by unfold qz; rw [if_pos e2]]; simpa [digs_0] using nil0)) ?_
    refine WC.ret ?_
    exact Fin.p [] [isQ (.agg #[.bool n5, d5, .bool false, .slice none 0 0]) (a + b)] (ResE.cV rfl rfl meA T.r37 rfl) meA (List.nil_sublist _) haA ⟨n5, _, _, rfl, hb5, rfl, rfl⟩
  have hsp : (digs (qz a).natAbs).length ≠ 0 ∨ ((digs (qz a).natAbs).length = 0 ∧ (digs (qz b).natAbs).length ≠ 0) := by
    by_cases c1 : a.den = 1
    · exact .inr ⟨ha.2 c1, fun h => c ⟨c1, hb.1 h⟩⟩
    · exact .inl fun h => c1 (ha.1 h)
  by_cases c1 : a = 0
  · have l1 := na.2 c1
    have e : a + b = b := by rw [c1, Rat.zero_add]
    rcases hsp with l2 | ⟨l2, l3⟩
    all_goals
      repeat' (first | refine go ?_ | refine goX ?_ | refine goB ?_ | (refine goG ?_; intro g) | (refine goV ?_; intro v) | refine goD ?_ | refine goXD ?_ | (refine goDG ?_; intro g) | (refine goDV ?_; intro v) | apply WD.more_of | refine WM.more (by exact rfl) (by exact rfl) (by exact rfl) ?_ ?_ | refine WM.one (by exact rfl) (by exact rfl) (by exact rfl) ?_ | refine WM.more0 (by exact rfl) (by exact rfl) ?_ ?_ | refine WM.one0 (by exact rfl) (by exact rfl) ?_ | (refine goLG ?_; intro g) | (refine goLV ?_; intro v) | refine goLS ?_ | refine d36 ?_ | fail)
      rw [e]
      refine WC.ret ?_
      exact Fin.p [] [isQ (.agg #[.bool n2, d3, .bool false, d4]) b] (ResE.cV rfl rfl meA T.r37 rfl) meA (List.nil_sublist _) haA ⟨n2, _, _, rfl, hb2, rfl, rfl⟩
  have l1 : (digs a.num.natAbs).length ≠ 0 := fun h => c1 (na.1 h)
  by_cases c2 : b = 0
  · have l2 := nb.2 c2
    have e : a + b = a := by rw [c2, Rat.add_zero]
    rcases hsp with l3 | ⟨l3, l4⟩
    all_goals
      repeat' (first | refine go ?_ | refine goX ?_ | refine goB ?_ | (refine goG ?_; intro g) | (refine goV ?_; intro v) | refine goD ?_ | refine goXD ?_ | (refine goDG ?_; intro g) | (refine goDV ?_; intro v) | apply WD.more_of | refine WM.more (by exact rfl) (by exact rfl) (by exact rfl) ?_ ?_ | refine WM.one (by exact rfl) (by exact rfl) (by exact rfl) ?_ | refine WM.more0 (by exact rfl) (by exact rfl) ?_ ?_ | refine WM.one0 (by exact rfl) (by exact rfl) ?_ | (refine goLG ?_; intro g) | (refine goLV ?_; intro v) | refine goLS ?_ | refine d36 ?_ | fail)
      rw [e]
      refine WC.ret ?_
      exact Fin.p [] [isQ (.agg #[.bool n1, d1, .bool false, d2]) a] (ResE.cV rfl rfl meA T.r37 rfl) meA (List.nil_sublist _) haA ⟨n1, _, _, rfl, hb1, rfl, rfl⟩
  have l2 : (digs b.num.natAbs).length ≠ 0 := fun h => c2 (nb.1 h)
  have q1 := Sm.mul s1 s4
  have q2 := Sm.mul s3 s2
  have q3 := Sm.mul s2 s4
  have k1 : (a.num * (b.den : Int)).natAbs < B2 := by rw [abs_mulc]; exact Nat.lt_of_le_of_lt q1 (by decide)
  have k2 : (b.num * (a.den : Int)).natAbs < B2 := by rw [abs_mulc]; exact Nat.lt_of_le_of_lt q2 (by decide)
  have k3 : ((a.den : Int) * (b.den : Int)).natAbs < B2 := by rw [abs_mulc, Int.natAbs_natCast]; exact Nat.lt_of_le_of_lt q3 (by decide)
  have k4 : (a.num * (b.den : Int) + b.num * (a.den : Int)).natAbs < B2 := by
    rw [← abs_mulc] at q1 q2
    show _ < 1000000000000000000
    generalize a.num * (b.den : Int) = u at *
    generalize b.num * (a.den : Int) = w at *
    omega
  rcases hsp with l3 | ⟨l3, l4⟩
  all_goals
    repeat' (first | refine go ?_ | refine goX ?_ | refine goB ?_ | (refine goG ?_; intro g) | (refine goV ?_; intro v))
    refine WC.cutP (σ := Nat × Nat × Nat × Nat × Nat × Bool × Value × Bool × Value) (fun s => [(5, ptr s.1), (6, ptr s.2.1), (2, ptr s.2.2.1), (3, ptr s.2.2.2.1), (4, ptr s.2.2.2.2.1)])
      (fun s => [Ow.cells s.2.1 35 [.bool s.2.2.2.2.2.2.2.1, s.2.2.2.2.2.2.2.2], Ow.cells s.1 35 [.bool s.2.2.2.2.2.1, s.2.2.2.2.2.2.1], Ow.cells s.2.2.1 37 [.bool n1, d1, .bool false, d2], Ow.cells s.2.2.2.1 37 [.bool n2, d3, .bool false, d4], Ow.cells s.2.2.2.2.1 37 [.bool false, .slice none 0 0, .bool false, .slice none 0 0]])
      (fun s => [ge h0, isZ (.agg #[.bool s.2.2.2.2.2.1, s.2.2.2.2.2.2.1]) (a.den : Int), isZ (.agg #[.bool s.2.2.2.2.2.2.2.1, s.2.2.2.2.2.2.2.2]) (b.den : Int), isQ (.agg #[.bool n1, d1, .bool false, d2]) a, isQ (.agg #[.bool n2, d3, .bool false, d4]) b]) (fun _ => True) ?_ ?_
    · repeat' (first | refine go ?_ | refine goX ?_ | refine goB ?_ | (refine goG ?_; intro g) | (refine goV ?_; intro v) | refine goD ?_ | refine goXD ?_ | (refine goDG ?_; intro g) | (refine goDV ?_; intro v) | apply WD.more_of | refine WM.more (by exact rfl) (by exact rfl) (by exact rfl) ?_ ?_ | refine WM.one (by exact rfl) (by exact rfl) (by exact rfl) ?_ | refine WM.more0 (by exact rfl) (by exact rfl) ?_ ?_ | refine WM.one0 (by exact rfl) (by exact rfl) ?_ | (refine goLG ?_; intro g) | (refine goLV ?_; intro v) | refine goLS ?_ | refine d36 ?_ | fail | ((first | refine WL.callK (hv := ?hvQ) (den_c (.agg #[.bool n1, d1, .bool false, d2]) a) ?_ | refine WD.callK (hv := ?hvQ) (den_c (.agg #[.bool n1, d1, .bool false, d2]) a) ?_ | refine LO.callM (hv := ?hvQ) (den_c (.agg #[.bool n1, d1, .bool false, d2]) a) ?_); (case hvQ => ((repeat (first | exact Evs.nil | (apply Evs.cons; exact rfl))); done)); rintro _ _ _ ⟨zb, zd, rfl, zh, rfl, rfl⟩; simp only [List.nil_append, List.cons_append]) | ((first | refine WL.callK (hv := ?hvQ) (den_c (.agg #[.bool n2, d3, .bool false, d4]) b) ?_ | refine WD.callK (hv := ?hvQ) (den_c (.agg #[.bool n2, d3, .bool false, d4]) b) ?_ | refine LO.callM (hv := ?hvQ) (den_c (.agg #[.bool n2, d3, .bool false, d4]) b) ?_); (case hvQ => ((repeat (first | exact Evs.nil | (apply Evs.cons; exact rfl))); done)); rintro _ _ _ ⟨zb, zd, rfl, zh, rfl, rfl⟩; simp only [List.nil_append, List.cons_append]) | fail)
      all_goals (apply Ex9; refine ⟨trivial, ?_, ?_, ?_⟩; (focus (repeat (first | exact Sub.nil _ | refine Sub.cons rfl ?_))); (focus (repeat (first | exact SubP.nil _ | (apply SubP.cons; (repeat (first | exact Rem.head | apply Rem.tail)))))); (focus (repeat (first | exact HasAll.nil | (apply HasAll.cons; exact hsA)))))
    rintro ⟨g5, g6, g2, g3, g4, b5, e5, b6, e6⟩ _
    simp only
    refine WC.fact (isZ (.agg #[.bool n1, d1]) a.num) (hasQ_P hmA) ?_
    refine WC.fact (isZ (.agg #[.bool n2, d3]) b.num) (hasQ_P hmA) ?_
    repeat' (first | refine go ?_ | refine goX ?_ | refine goB ?_ | (refine goG ?_; intro g) | (refine goV ?_; intro v) | refine goD ?_ | refine goXD ?_ | (refine goDG ?_; intro g) | (refine goDV ?_; intro v) | apply WD.more_of | refine WM.more (by exact rfl) (by exact rfl) (by exact rfl) ?_ ?_ | refine WM.one (by exact rfl) (by exact rfl) (by exact rfl) ?_ | refine WM.more0 (by exact rfl) (by exact rfl) ?_ ?_ | refine WM.one0 (by exact rfl) (by exact rfl) ?_ | (refine goLG ?_; intro g) | (refine goLV ?_; intro v) | refine goLS ?_ | refine d36 ?_ | fail)
    first | refine WL.callK (Mlt.mul_c (.agg #[.bool n1, d1]) (.agg #[.bool b6, e6]) a.num (b.den : Int) (abs_len (Nat.lt_of_le_of_lt s1 (by decide))) (abs_len (Nat.lt_of_le_of_lt s4 (by decide)))) ?_ | refine WD.callK (Mlt.mul_c (.agg #[.bool n1, d1]) (.agg #[.bool b6, e6]) a.num (b.den : Int) (abs_len (Nat.lt_of_le_of_lt s1 (by decide))) (abs_len (Nat.lt_of_le_of_lt s4 (by decide)))) ?_ | refine LO.callM (Mlt.mul_c (.agg #[.bool n1, d1]) (.agg #[.bool b6, e6]) a.num (b.den : Int) (abs_len (Nat.lt_of_le_of_lt s1 (by decide))) (abs_len (Nat.lt_of_le_of_lt s4 (by decide)))) ?_
    rintro _ _ _ ⟨n7, d7, rfl, hb7, rfl, rfl⟩
    simp only [List.nil_append, List.cons_append]
    repeat' (first | refine go ?_ | refine goX ?_ | refine goB ?_ | (refine goG ?_; intro g) | (refine goV ?_; intro v) | refine goD ?_ | refine goXD ?_ | (refine goDG ?_; intro g) | (refine goDV ?_; intro v) | apply WD.more_of | refine WM.more (by exact rfl) (by exact rfl) (by exact rfl) ?_ ?_ | refine WM.one (by exact rfl) (by exact rfl) (by exact rfl) ?_ | refine WM.more0 (by exact rfl) (by exact rfl) ?_ ?_ | refine WM.one0 (by exact rfl) (by exact rfl) ?_ | (refine goLG ?_; intro g) | (refine goLV ?_; intro v) | refine goLS ?_ | refine d36 ?_ | fail)
    first | refine WL.callK (Mlt.mul_c (.agg #[.bool n2, d3]) (.agg #[.bool b5, e5]) b.num (a.den : Int) (abs_len (Nat.lt_of_le_of_lt s3 (by decide))) (abs_len (Nat.lt_of_le_of_lt s2 (by decide)))) ?_ | refine WD.callK (Mlt.mul_c (.agg #[.bool n2, d3]) (.agg #[.bool b5, e5]) b.num (a.den : Int) (abs_len (Nat.lt_of_le_of_lt s3 (by decide))) (abs_len (Nat.lt_of_le_of_lt s2 (by decide)))) ?_ | refine LO.callM (Mlt.mul_c (.agg #[.bool n2, d3]) (.agg #[.bool b5, e5]) b.num (a.den : Int) (abs_len (Nat.lt_of_le_of_lt s3 (by decide))) (abs_len (Nat.lt_of_le_of_lt s2 (by decide)))) ?_
    rintro _ _ _ ⟨n8, d8, rfl, hb8, rfl, rfl⟩
    simp only [List.nil_append, List.cons_append]
    repeat' (first | refine go ?_ | refine goX ?_ | refine goB ?_ | (refine goG ?_; intro g) | (refine goV ?_; intro v) | refine goD ?_ | refine goXD ?_ | (refine goDG ?_; intro g) | (refine goDV ?_; intro v) | apply WD.more_of | refine WM.more (by exact rfl) (by exact rfl) (by exact rfl) ?_ ?_ | refine WM.one (by exact rfl) (by exact rfl) (by exact rfl) ?_ | refine WM.more0 (by exact rfl) (by exact rfl) ?_ ?_ | refine WM.one0 (by exact rfl) (by exact rfl) ?_ | (refine goLG ?_; intro g) | (refine goLV ?_; intro v) | refine goLS ?_ | refine d36 ?_ | fail)
    first | refine WL.callK (Adc.add_c (.agg #[.bool n7, d7]) (.agg #[.bool n8, d8]) (a.num * (b.den : Int)) (b.num * (a.den : Int)) (abs_len k1) (abs_len k2)) ?_ | refine WD.callK (Adc.add_c (.agg #[.bool n7, d7]) (.agg #[.bool n8, d8]) (a.num * (b.den : Int)) (b.num * (a.den : Int)) (abs_len k1) (abs_len k2)) ?_ | refine LO.callM (Adc.add_c (.agg #[.bool n7, d7]) (.agg #[.bool n8, d8]) (a.num * (b.den : Int)) (b.num * (a.den : Int)) (abs_len k1) (abs_len k2)) ?_
    rintro _ _ _ ⟨n9, d9, rfl, hb9, rfl, rfl⟩
    simp only [List.nil_append, List.cons_append]
    repeat' (first | refine go ?_ | refine goX ?_ | refine goB ?_ | (refine goG ?_; intro g) | (refine goV ?_; intro v) | refine goD ?_ | refine goXD ?_ | (refine goDG ?_; intro g) | (refine goDV ?_; intro v) | apply WD.more_of | refine WM.more (by exact rfl) (by exact rfl) (by exact rfl) ?_ ?_ | refine WM.one (by exact rfl) (by exact rfl) (by exact rfl) ?_ | refine WM.more0 (by exact rfl) (by exact rfl) ?_ ?_ | refine WM.one0 (by exact rfl) (by exact rfl) ?_ | (refine goLG ?_; intro g) | (refine goLV ?_; intro v) | refine goLS ?_ | refine d36 ?_ | fail)
    first | refine WL.callK (Mlt.mul_c (.agg #[.bool b5, e5]) (.agg #[.bool b6, e6]) (a.den : Int) (b.den : Int) (abs_len (Nat.lt_of_le_of_lt s2 (by decide))) (abs_len (Nat.lt_of_le_of_lt s4 (by decide)))) ?_ | refine WD.callK (Mlt.mul_c (.agg #[.bool b5, e5]) (.agg #[.bool b6, e6]) (a.den : Int) (b.den : Int) (abs_len (Nat.lt_of_le_of_lt s2 (by decide))) (abs_len (Nat.lt_of_le_of_lt s4 (by decide)))) ?_ | refine LO.callM (Mlt.mul_c (.agg #[.bool b5, e5]) (.agg #[.bool b6, e6]) (a.den : Int) (b.den : Int) (abs_len (Nat.lt_of_le_of_lt s2 (by decide))) (abs_len (Nat.lt_of_le_of_lt s4 (by decide)))) ?_
    rintro _ _ _ ⟨n10, d10, rfl, hb10, rfl, rfl⟩
    simp only [List.nil_append, List.cons_append]
    repeat' (first | refine go ?_ | refine goX ?_ | refine goB ?_ | (refine goG ?_; intro g) | (refine goV ?_; intro v) | refine goD ?_ | refine goXD ?_ | (refine goDG ?_; intro g) | (refine goDV ?_; intro v) | apply WD.more_of | refine WM.more (by exact rfl) (by exact rfl) (by exact rfl) ?_ ?_ | refine WM.one (by exact rfl) (by exact rfl) (by exact rfl) ?_ | refine WM.more0 (by exact rfl) (by exact rfl) ?_ ?_ | refine WM.one0 (by exact rfl) (by exact rfl) ?_ | (refine goLG ?_; intro g) | (refine goLV ?_; intro v) | refine goLS ?_ | refine d36 ?_ | fail)
    first | refine WL.callK (make_c (.agg #[.bool n9, d9]) (.agg #[.bool n10, d10]) (a.num * (b.den : Int) + b.num * (a.den : Int)) ((a.den : Int) * (b.den : Int)) k4 k3) ?_ | refine WD.callK (make_c (.agg #[.bool n9, d9]) (.agg #[.bool n10, d10]) (a.num * (b.den : Int) + b.num * (a.den : Int)) ((a.den : Int) * (b.den : Int)) k4 k3) ?_ | refine LO.callM (make_c (.agg #[.bool n9, d9]) (.agg #[.bool n10, d10]) (a.num * (b.den : Int) + b.num * (a.den : Int)) ((a.den : Int) * (b.den : Int)) k4 k3) ?_
    rintro _ _ _ ⟨n11, d11, d12, rfl, hb11, rfl, rfl⟩
    simp only [List.nil_append, List.cons_append]
    rw [add_div] at hb11 ⊢
    repeat' (first | refine go ?_ | refine goX ?_ | refine goB ?_ | (refine goG ?_; intro g) | (refine goV ?_; intro v) | refine goD ?_ | refine goXD ?_ | (refine goDG ?_; intro g) | (refine goDV ?_; intro v) | apply WD.more_of | refine WM.more (by exact rfl) (by exact rfl) (by exact rfl) ?_ ?_ | refine WM.one (by exact rfl) (by exact rfl) (by exact rfl) ?_ | refine WM.more0 (by exact rfl) (by exact rfl) ?_ ?_ | refine WM.one0 (by exact rfl) (by exact rfl) ?_ | (refine goLG ?_; intro g) | (refine goLV ?_; intro v) | refine goLS ?_ | refine d36 ?_ | fail)
    refine WC.ret ?_
    exact Fin.p [] [isQ (.agg #[.bool n11, d11, .bool false, d12]) (a + b)] (ResE.cV rfl rfl meA T.r37 rfl) meA (List.nil_sublist _) haA ⟨n11, _, _, rfl, hb11, rfl, rfl⟩
end Rta
end Go.Proofs.YthggloiigkbfeaaGreat
namespace Go.Proofs.YthggloiigkbfeaaGreat
open W Go.RowKit
theorem Sm.neg {q : Rat} (h : Sm q) : Sm (-q) := by
  unfold Sm at *; rw [Rat.neg_num, Rat.neg_den, Int.natAbs_neg]; exact h
theorem sgn_bd (z : Int) : -1 ≤ sgn z ∧ sgn z ≤ 1 := by unfold sgn; split <;> (try split) <;> omega
theorem qz_inj {a b : Rat} (h1 : a.num = b.num) (h2 : qz a = qz b) : a = b := by
  have := a.den_nz
  have := b.den_nz
  apply Rat.ext h1
  unfold qz at h2
  split at h2 <;> split at h2 <;> omega
namespace Rtc
open Dvz Dvv Adc Rtm Rta
attribute [local irreducible] WC WL WD YO LO LoopEnd W.Fin Scalar SliceT FieldAt Row ArrT AllocT KnS Has W.One SrcE IntT
theorem d37 {G G' : Prop} (h : G') (s : Bx G' → G := by
  intro h
  first | (apply WC.draw (id := 1) [0, 2, 4, 5] (.held 0 (.held 2 (.loud 1 (.loud 3 (.held 4 (.held 5 (.done))))))) mixed (by kernel_rfl)) | (apply WC.draw (id := 4) [0, 1, 2, 5, 6, 7, 11] (.held 0 (.held 1 (.held 2 (.held 5 (.held 6 (.held 7 (.loud 3 (.loud 4 (.loud 8 (.loud 9 (.loud 10 (.held 11 (.done))))))))))))) mixed (by kernel_rfl)) | fail
  exact Bx.h h) : G := s ⟨h⟩
theorem d44 {G G' : Prop} (h : G') (s : Bx G' → G := by
  intro h
  first | (apply WC.draw (id := 1) [0, 1] (.held 0 (.held 1 (.loud 2 (.loud 3 (.loud 4 (.done)))))) mixed (by kernel_rfl)) | fail
  exact Bx.h h) : G := s ⟨h⟩
theorem d68 {G G' : Prop} (h : G') (s : Bx G' → G := by
  intro h
  first | (apply WC.draw (id := 6) [0, 1, 2, 3, 4, 5, 6, 7, 8] (.held 0 (.held 1 (.held 2 (.held 3 (.held 4 (.held 5 (.held 6 (.held 7 (.held 8 (.done)))))))))) mixed (by kernel_rfl)) | fail
  exact Bx.h h) : G := s ⟨h⟩
set_option maxHeartbeats 4000000 in
set_option maxRecDepth 8000 in
theorem sub_c (v1 v2 : Value) (a b : Rat) (h1 : Sm a) (h2 : Sm b) : FnB Tryz.prog 44 [v1, v2] [] [isQ v1 a, isQ v2 b] (IsQ (a - b)) := by
  refine fn_of [(0, v1), (1, v2)] 9 Tryz.func44 rfl Tryz.ntmps44 (by kernel_rfl) rfl suA fun h0 => ?_
  refine WC.openQ (v := v1) (q := a) hmA fun n1 d1 d2 hv hb1 => ?_
  subst hv
  refine WC.openQ (v := v2) (q := b) hmA fun n2 d3 d4 hv hb2 => ?_
  subst hv
  repeat' (first | refine go ?_ | refine goX ?_ | refine goB ?_ | (refine goG ?_; intro g) | (refine goV ?_; intro v) | refine goD ?_ | refine goXD ?_ | (refine goDG ?_; intro g) | (refine goDV ?_; intro v) | refine d44 ?_ | fail)
  first | refine WL.callK (Rta.neg_c (.agg #[.bool n2, d3, .bool false, d4]) b) ?_ | refine WD.callK (Rta.neg_c (.agg #[.bool n2, d3, .bool false, d4]) b) ?_ | refine LO.callM (Rta.neg_c (.agg #[.bool n2, d3, .bool false, d4]) b) ?_
  rintro _ _ _ ⟨n3, d5, d6, rfl, hb3, rfl, rfl⟩
  simp only [List.nil_append, List.cons_append]
  repeat' (first | refine go ?_ | refine goX ?_ | refine goB ?_ | (refine goG ?_; intro g) | (refine goV ?_; intro v) | refine goD ?_ | refine goXD ?_ | (refine goDG ?_; intro g) | (refine goDV ?_; intro v) | refine d44 ?_ | fail)
  first | refine WL.callK (Rta.add_c (.agg #[.bool n1, d1, .bool false, d2]) (.agg #[.bool n3, d5, .bool false, d6]) a (-b) h1 h2.neg) ?_ | refine WD.callK (Rta.add_c (.agg #[.bool n1, d1, .bool false, d2]) (.agg #[.bool n3, d5, .bool false, d6]) a (-b) h1 h2.neg) ?_ | refine LO.callM (Rta.add_c (.agg #[.bool n1, d1, .bool false, d2]) (.agg #[.bool n3, d5, .bool false, d6]) a (-b) h1 h2.neg) ?_
  rintro _ _ _ ⟨n4, d7, d8, rfl, hb4, rfl, rfl⟩
  simp only [List.nil_append, List.cons_append]
  rw [← Rat.sub_eq_add_neg] at hb4 ⊢
  repeat' (first | refine go ?_ | refine goX ?_ | refine goB ?_ | (refine goG ?_; intro g) | (refine goV ?_; intro v) | refine goD ?_ | refine goXD ?_ | (refine goDG ?_; intro g) | (refine goDV ?_; intro v) | refine d44 ?_ | fail)
  refine WC.ret ?_
  exact Fin.p [] [isQ (.agg #[.bool n4, d7, .bool false, d8]) (a - b)] (ResE.cV rfl rfl meA T.r37 rfl) meA (List.nil_sublist _) haA ⟨n4, _, _, rfl, hb4, rfl, rfl⟩
set_option maxHeartbeats 4000000 in
set_option maxRecDepth 8000 in
theorem qcompare_c (v1 v2 : Value) (a b : Rat) (h1 : Sm a) (h2 : Sm b) : FnB Tryz.prog 37 [v1, v2] [] [isQ v1 a, isQ v2 b] (IsV (.int .i64 (cmpQ a b))) := by
  refine fn_of [(0, v1), (1, v2)] 34 Tryz.func37 rfl Tryz.ntmps37 (by kernel_rfl) rfl suA fun h0 => ?_
  refine WC.openQ (v := v1) (q := a) hmA fun n1 d1 d2 hv hb1 => ?_
  subst hv
  refine WC.openQ (v := v2) (q := b) hmA fun n2 d3 d4 hv hb2 => ?_
  subst hv
  obtain ⟨s1, s2⟩ := h1
  obtain ⟨s3, s4⟩ := h2
  repeat' (first | refine go ?_ | refine goX ?_ | refine goB ?_ | (refine goG ?_; intro g) | (refine goV ?_; intro v) | refine goD ?_ | refine goXD ?_ | (refine goDG ?_; intro g) | (refine goDV ?_; intro v) | refine d37 ?_ | fail)
  first | refine WL.callV (sign_c (.agg #[.bool n1, d1, .bool false, d2]) a) ?_ | refine WD.callV (sign_c (.agg #[.bool n1, d1, .bool false, d2]) a) ?_
  repeat' (first | refine go ?_ | refine goX ?_ | refine goB ?_ | (refine goG ?_; intro g) | (refine goV ?_; intro v) | refine goD ?_ | refine goXD ?_ | (refine goDG ?_; intro g) | (refine goDV ?_; intro v) | refine d37 ?_ | fail)
  first | refine WL.callV (sign_c (.agg #[.bool n2, d3, .bool false, d4]) b) ?_ | refine WD.callV (sign_c (.agg #[.bool n2, d3, .bool false, d4]) b) ?_
  have b1 := sgn_bd a.num
  have b2 := sgn_bd b.num
  have hc := @cmp_sgn a b
  by_cases c : sgn a.num ≠ sgn b.num ∨ sgn a.num = 0
  · have hc := hc c
    have hsp : sgn a.num ≠ sgn b.num ∨ (sgn a.num = sgn b.num ∧ sgn a.num = 0) := by omega
    rcases hsp with c1 | ⟨c1, c2⟩
    all_goals
      repeat' (first | refine go ?_ | refine goX ?_ | refine goB ?_ | (refine goG ?_; intro g) | (refine goV ?_; intro v) | refine goD ?_ | refine goXD ?_ | (refine goDG ?_; intro g) | (refine goDV ?_; intro v) | refine d37 ?_ | fail)
      first | refine WL.callK (iof_c (sgn a.num) (by omega) (by omega)) ?_ | refine WD.callK (iof_c (sgn a.num) (by omega) (by omega)) ?_ | refine LO.callM (iof_c (sgn a.num) (by omega) (by omega)) ?_
      rintro _ _ _ ⟨n5, d5, rfl, hb5, rfl, rfl⟩
      simp only [List.nil_append, List.cons_append]
      repeat' (first | refine go ?_ | refine goX ?_ | refine goB ?_ | (refine goG ?_; intro g) | (refine goV ?_; intro v) | refine goD ?_ | refine goXD ?_ | (refine goDG ?_; intro g) | (refine goDV ?_; intro v) | refine d37 ?_ | fail)
      first | refine WL.callK (iof_c (sgn b.num) (by omega) (by omega)) ?_ | refine WD.callK (iof_c (sgn b.num) (by omega) (by omega)) ?_ | refine LO.callM (iof_c (sgn b.num) (by omega) (by omega)) ?_
      rintro _ _ _ ⟨n6, d6, rfl, hb6, rfl, rfl⟩
      simp only [List.nil_append, List.cons_append]
      repeat' (first | refine go ?_ | refine goX ?_ | refine goB ?_ | (refine goG ?_; intro g) | (refine goV ?_; intro v) | refine goD ?_ | refine goXD ?_ | (refine goDG ?_; intro g) | (refine goDV ?_; intro v) | refine d37 ?_ | fail)
      first | refine WL.callV (icompare_c (.agg #[.bool n5, d5]) (.agg #[.bool n6, d6]) (sgn a.num) (sgn b.num)) ?_ | refine WD.callV (icompare_c (.agg #[.bool n5, d5]) (.agg #[.bool n6, d6]) (sgn a.num) (sgn b.num)) ?_
      rw [hc]
      repeat' (first | refine go ?_ | refine goX ?_ | refine goB ?_ | (refine goG ?_; intro g) | (refine goV ?_; intro v) | refine goD ?_ | refine goXD ?_ | (refine goDG ?_; intro g) | (refine goDV ?_; intro v) | refine d37 ?_ | fail)
      refine WC.ret ?_
      exact Fin.v (ResE.t1 rfl rfl) meA rfl
  · have c1 : sgn a.num = sgn b.num := by omega
    have c2 : sgn a.num ≠ 0 := by omega
    refine WD.fact (isZ (.agg #[.bool n1, d1]) a.num) (hasQ_P hmA) ?_
    refine WD.fact (isZ (.agg #[.bool n2, d3]) b.num) (hasQ_P hmA) ?_
    have q1 := Sm.mul s1 s4
    have q2 := Sm.mul s3 s2
    have k1 : (a.num * (b.den : Int)).natAbs < B2 := by rw [abs_mulc]; exact Nat.lt_of_le_of_lt q1 (by decide)
    have k2 : (b.num * (a.den : Int)).natAbs < B2 := by rw [abs_mulc]; exact Nat.lt_of_le_of_lt q2 (by decide)
    repeat' (first | refine go ?_ | refine goX ?_ | refine goB ?_ | (refine goG ?_; intro g) | (refine goV ?_; intro v) | refine goD ?_ | refine goXD ?_ | (refine goDG ?_; intro g) | (refine goDV ?_; intro v) | refine d37 ?_ | fail)
    first | refine WL.callK (den_c (.agg #[.bool n2, d3, .bool false, d4]) b) ?_ | refine WD.callK (den_c (.agg #[.bool n2, d3, .bool false, d4]) b) ?_ | refine LO.callM (den_c (.agg #[.bool n2, d3, .bool false, d4]) b) ?_
    rintro _ _ _ ⟨n5, d5, rfl, hb5, rfl, rfl⟩
    simp only [List.nil_append, List.cons_append]
    repeat' (first | refine go ?_ | refine goX ?_ | refine goB ?_ | (refine goG ?_; intro g) | (refine goV ?_; intro v) | refine goD ?_ | refine goXD ?_ | (refine goDG ?_; intro g) | (refine goDV ?_; intro v) | refine d37 ?_ | fail)
    first | refine WL.callK (Mlt.mul_c (.agg #[.bool n1, d1]) (.agg #[.bool n5, d5]) a.num (b.den : Int) (abs_len (Nat.lt_of_le_of_lt s1 (by decide))) (abs_len (Nat.lt_of_le_of_lt s4 (by decide)))) ?_ | refine WD.callK (Mlt.mul_c (.agg #[.bool n1, d1]) (.agg #[.bool n5, d5]) a.num (b.den : Int) (abs_len (Nat.lt_of_le_of_lt s1 (by decide))) (abs_len (Nat.lt_of_le_of_lt s4 (by decide)))) ?_ | refine LO.callM (Mlt.mul_c (.agg #[.bool n1, d1]) (.agg #[.bool n5, d5]) a.num (b.den : Int) (abs_len (Nat.lt_of_le_of_lt s1 (by decide))) (abs_len (Nat.lt_of_le_of_lt s4 (by decide)))) ?_
    rintro _ _ _ ⟨n6, d6, rfl, hb6, rfl, rfl⟩
    simp only [List.nil_append, List.cons_append]
    repeat' (first | refine go ?_ | refine goX ?_ | refine goB ?_ | (refine goG ?_; intro g) | (refine goV ?_; intro v) | refine goD ?_ | refine goXD ?_ | (refine goDG ?_; intro g) | (refine goDV ?_; intro v) | refine d37 ?_ | fail)
    first | refine WL.callK (den_c (.agg #[.bool n1, d1, .bool false, d2]) a) ?_ | refine WD.callK (den_c (.agg #[.bool n1, d1, .bool false, d2]) a) ?_ | refine LO.callM (den_c (.agg #[.bool n1, d1, .bool false, d2]) a) ?_
    rintro _ _ _ ⟨n7, d7, rfl, hb7, rfl, rfl⟩
    simp only [List.nil_append, List.cons_append]
    repeat' (first | refine go ?_ | refine goX ?_ | refine goB ?_ | (refine goG ?_; intro g) | (refine goV ?_; intro v) | refine goD ?_ | refine goXD ?_ | (refine goDG ?_; intro g) | (refine goDV ?_; intro v) | refine d37 ?_ | fail)
    first | refine WL.callK (Mlt.mul_c (.agg #[.bool n2, d3]) (.agg #[.bool n7, d7]) b.num (a.den : Int) (abs_len (Nat.lt_of_le_of_lt s3 (by decide))) (abs_len (Nat.lt_of_le_of_lt s2 (by decide)))) ?_ | refine WD.callK (Mlt.mul_c (.agg #[.bool n2, d3]) (.agg #[.bool n7, d7]) b.num (a.den : Int) (abs_len (Nat.lt_of_le_of_lt s3 (by decide))) (abs_len (Nat.lt_of_le_of_lt s2 (by decide)))) ?_ | refine LO.callM (Mlt.mul_c (.agg #[.bool n2, d3]) (.agg #[.bool n7, d7]) b.num (a.den : Int) (abs_len (Nat.lt_of_le_of_lt s3 (by decide))) (abs_len (Nat.lt_of_le_of_lt s2 (by decide)))) ?_
    rintro _ _ _ ⟨n8, d8, rfl, hb8, rfl, rfl⟩
    simp only [List.nil_append, List.cons_append]
    repeat' (first | refine go ?_ | refine goX ?_ | refine goB ?_ | (refine goG ?_; intro g) | (refine goV ?_; intro v) | refine goD ?_ | refine goXD ?_ | (refine goDG ?_; intro g) | (refine goDV ?_; intro v) | refine d37 ?_ | fail)
    first | refine WL.callV (icompare_c (.agg #[.bool n6, d6]) (.agg #[.bool n8, d8]) (a.num * (b.den : Int)) (b.num * (a.den : Int))) ?_ | refine WD.callV (icompare_c (.agg #[.bool n6, d6]) (.agg #[.bool n8, d8]) (a.num * (b.den : Int)) (b.num * (a.den : Int))) ?_
    rw [show cmpI (a.num * (b.den : Int)) (b.num * (a.den : Int)) = cmpQ a b from rfl]
    repeat' (first | refine go ?_ | refine goX ?_ | refine goB ?_ | (refine goG ?_; intro g) | (refine goV ?_; intro v) | refine goD ?_ | refine goXD ?_ | (refine goDG ?_; intro g) | (refine goDV ?_; intro v) | refine d37 ?_ | fail)
    refine WC.ret ?_
    exact Fin.v (ResE.t1 rfl rfl) meA rfl
set_option maxHeartbeats 4000000 in
set_option maxRecDepth 8000 in
theorem equal_c (u w : Value) (l m : List Int) : FnB Tryz.prog 68 [u, w] [] [sI u l, sI w m] (IsV (.bool (decide (l = m)))) := by
  refine fn_of [(0, u), (1, w)] 26 Tryz.func68 rfl Tryz.ntmps68 (by kernel_rfl) rfl suA fun h0 => ?_
  refine WC.lenI u l hmA fun hlen => ?_
  by_cases c : l.length = m.length
  · repeat' (first | refine go ?_ | refine goX ?_ | refine goB ?_ | (refine goG ?_; intro g) | (refine goV ?_; intro v) | refine goD ?_ | refine goXD ?_ | (refine goDG ?_; intro g) | (refine goDV ?_; intro v) | refine d68 ?_ | fail)
    refine WC.lp (σ := Nat) (fun k => [(13, .int .i64 (k : Int)), (12, .int .i64 (l.length : Int)), (0, u), (1, w)]) (fun _ => []) (fun _ => [ge h0, sI u l, sI w m]) (fun k => k ≤ l.length ∧ ∀ j, j < k → l.getD j 0 = m.getD j 0) (fun k => l.length - k) 0 ⟨by simp, fun j hj => by omega⟩ ?_
    rintro k ⟨hk, hs⟩
    by_cases h : k < l.length
    · by_cases c1 : l.getD k 0 = m.getD k 0
      · repeat' (first | refine go ?_ | refine goX ?_ | refine goB ?_ | (refine goG ?_; intro g) | (refine goV ?_; intro v) | refine goD ?_ | refine goXD ?_ | (refine goDG ?_; intro g) | (refine goDV ?_; intro v) | refine d68 ?_ | fail)
        exact LoopEnd.mk (k + 1) ⟨by omega, fun j hj => if hjk : j = k then hjk ▸ c1 else hs j (by omega)⟩ (by omega)
      · repeat' (first | refine go ?_ | refine goX ?_ | refine goB ?_ | (refine goG ?_; intro g) | (refine goV ?_; intro v) | refine goD ?_ | refine goXD ?_ | (refine goDG ?_; intro g) | (refine goDV ?_; intro v) | refine d68 ?_ | fail)
        refine WC.ret ?_
        exact Fin.v (ResE.t1 rfl rfl) meA (by rw [decide_eq_false (fun he => c1 (by rw [he]))])
    · repeat' (first | refine go ?_ | refine goX ?_ | refine goB ?_ | (refine goG ?_; intro g) | (refine goV ?_; intro v) | refine goD ?_ | refine goXD ?_ | (refine goDG ?_; intro g) | (refine goDV ?_; intro v) | refine d68 ?_ | fail)
      refine WC.ret ?_
      exact Fin.v (ResE.t1 rfl rfl) meA (by rw [decide_eq_true (val_eq_all c (fun j hj => hs j (by omega)))])
  · repeat' (first | refine go ?_ | refine goX ?_ | refine goB ?_ | (refine goG ?_; intro g) | (refine goV ?_; intro v) | refine goD ?_ | refine goXD ?_ | (refine goDG ?_; intro g) | (refine goDV ?_; intro v) | refine d68 ?_ | fail)
    refine WC.ret ?_
    exact Fin.v (ResE.t1 rfl rfl) meA (by rw [decide_eq_false (fun he => c (by rw [he]))])
theorem digs_eq {x y : Int} {a b : Bool} (ha : a = decide (x < 0)) (hb : b = decide (y < 0)) : (a = b ∧ digs x.natAbs = digs y.natAbs) ↔ x = y := by
  constructor
  · rintro ⟨h1, h2⟩
    have h3 := digs_inj h2
    rw [ha, hb, decide_eq_decide] at h1
    omega
  · rintro rfl; exact ⟨by rw [ha, hb], rfl⟩
set_option maxHeartbeats 4000000 in
set_option maxRecDepth 8000 in
theorem same1_c (v1 v2 : Value) (x y : Int) : FnB Tryz.prog 67 [v1, v2] [] [isZ v1 x, isZ v2 y] (IsV (.bool (decide (x = y)))) := by
  refine fn_of [(0, v1), (1, v2)] 17 Tryz.func67 rfl Tryz.ntmps67 (by kernel_rfl) rfl suA fun h0 => ?_
  refine WC.openZ (v := v1) (z := x) hmA fun n1 d1 hv hb1 => ?_
  subst hv
  refine WC.openZ (v := v2) (z := y) hmA fun n2 d2 hv hb2 => ?_
  subst hv
  refine WC.fact (sI d1 (digs x.natAbs)) (hasZ_d hmA) ?_
  refine WC.fact (sI d2 (digs y.natAbs)) (hasZ_d hmA) ?_
  have hd := digs_eq hb1 hb2
  have key : n1 = n2 → decide (digs x.natAbs = digs y.natAbs) = decide (x = y) := fun h => by rw [decide_eq_decide]; exact ⟨fun h2 => hd.1 ⟨h, h2⟩, fun h2 => (hd.2 h2).2⟩
  have key2 : n1 ≠ n2 → decide (x = y) = false := fun h => decide_eq_false fun h2 => h (hd.2 h2).1
  cases n1 <;> cases n2
  all_goals
    first
      | have k2 := key2 (by decide)
        repeat' (first | refine go ?_ | refine goX ?_ | refine goB ?_ | (refine goG ?_; intro g) | (refine goV ?_; intro v))
        refine WC.ret ?_
        exact Fin.v (ResE.t1 rfl rfl) meA (by rw [k2])
      | have k1 := key rfl
        repeat' (first | refine go ?_ | refine goX ?_ | refine goB ?_ | (refine goG ?_; intro g) | (refine goV ?_; intro v))
        first | refine WL.callV (equal_c d1 d2 (digs x.natAbs) (digs y.natAbs)) ?_ | refine WD.callV (equal_c d1 d2 (digs x.natAbs) (digs y.natAbs)) ?_
        rw [k1]
        repeat' (first | refine go ?_ | refine goX ?_ | refine goB ?_ | (refine goG ?_; intro g) | (refine goV ?_; intro v))
        refine WC.ret ?_
        exact Fin.v (ResE.t1 rfl rfl) meA rfl
set_option maxHeartbeats 4000000 in
set_option maxRecDepth 8000 in
theorem same_c (v1 v2 : Value) (a b : Rat) : FnB Tryz.prog 20 [v1, v2] [] [isQ v1 a, isQ v2 b] (IsV (.bool (decide (a = b)))) := by
  refine fn_of [(0, v1), (1, v2)] 20 Tryz.func20 rfl Tryz.ntmps20 (by kernel_rfl) rfl suA fun h0 => ?_
  refine WC.openQ (v := v1) (q := a) hmA fun n1 d1 d2 hv hb1 => ?_
  subst hv
  refine WC.openQ (v := v2) (q := b) hmA fun n2 d3 d4 hv hb2 => ?_
  subst hv
  repeat' (first | refine go ?_ | refine goX ?_ | refine goB ?_ | (refine goG ?_; intro g) | (refine goV ?_; intro v))
  first | refine WL.callV (same1_c (.agg #[.bool n1, d1]) (.agg #[.bool n2, d3]) a.num b.num) ?_ | refine WD.callV (same1_c (.agg #[.bool n1, d1]) (.agg #[.bool n2, d3]) a.num b.num) ?_
  by_cases c : a.num = b.num
  · rw [decide_eq_true c]
    repeat' (first | refine go ?_ | refine goX ?_ | refine goB ?_ | (refine goG ?_; intro g) | (refine goV ?_; intro v))
    first | refine WL.callV (same1_c (.agg #[.bool false, d2]) (.agg #[.bool false, d4]) (qz a) (qz b)) ?_ | refine WD.callV (same1_c (.agg #[.bool false, d2]) (.agg #[.bool false, d4]) (qz a) (qz b)) ?_
    rw [show decide (qz a = qz b) = decide (a = b) by rw [decide_eq_decide]; exact ⟨fun h => qz_inj c h, fun h => by rw [h]⟩]
    repeat' (first | refine go ?_ | refine goX ?_ | refine goB ?_ | (refine goG ?_; intro g) | (refine goV ?_; intro v))
    refine WC.ret ?_
    exact Fin.v (ResE.t1 rfl rfl) meA rfl
  · rw [decide_eq_false c]
    repeat' (first | refine go ?_ | refine goX ?_ | refine goB ?_ | (refine goG ?_; intro g) | (refine goV ?_; intro v))
    refine WC.ret ?_
    exact Fin.v (ResE.t1 rfl rfl) meA (by rw [decide_eq_false (fun h => c (by rw [h]))])
end Rtc
end Go.Proofs.YthggloiigkbfeaaGreat
namespace Go.Proofs.YthggloiigkbfeaaGreat
open W Go.RowKit
namespace Rp
open Dvz Dvv Adc Rm Rn Ro Rtm Rtc
attribute [local irreducible] WC WL WD YO LO LoopEnd W.Fin Scalar SliceT FieldAt Row ArrT AllocT KnS Has W.One SrcE IntT
theorem d81 {G G' : Prop} (h : G') (s : Bx G' → G := by
  intro h
  first | (apply WC.draw (id := 6) [0, 1, 2, 3, 4, 5, 6, 7, 8, 9, 10] (.held 0 (.held 1 (.held 2 (.held 3 (.held 4 (.held 5 (.held 6 (.held 7 (.held 8 (.held 9 (.held 10 (.done)))))))))))) mixed (by kernel_rfl)) | fail
  exact Bx.h h) : G := s ⟨h⟩
theorem d127 {G G' : Prop} (h : G') (s : Bx G' → G := by
  intro h
  first | (apply WC.draw (id := 1) [0, 1, 2] (.held 0 (.held 1 (.held 2 (.more 3 (.more 4 (.loud 5 (.loud 6 (.done))) (.loud 5 (.loud 4 (.loud 6 (.done))))) (.loud 5 (.loud 3 (.loud 4 (.loud 6 (.done))))))))) mixed (by kernel_rfl)) | (apply WC.draw (id := 2) [0, 1, 2] (.held 0 (.held 1 (.held 2 (.more 3 (.more 4 (.loud 5 (.loud 6 (.done))) (.loud 5 (.loud 4 (.loud 6 (.done))))) (.loud 5 (.loud 3 (.loud 4 (.loud 6 (.done))))))))) mixed (by kernel_rfl)) | (apply WC.draw (id := 3) [0, 1, 3, 5] (.held 0 (.held 1 (.held 3 (.held 5 (.loud 2 (.loud 4 (.loud 6 (.loud 7 (.loud 8 (.loud 9 (.done))))))))))) mixed (by kernel_rfl)) | fail
  exact Bx.h h) : G := s ⟨h⟩
theorem d128 {G G' : Prop} (h : G') (s : Bx G' → G := by
  intro h
  first | (apply WC.draw (id := 1) [0, 1, 2, 5, 6, 7, 11] (.held 0 (.held 1 (.held 2 (.held 5 (.held 6 (.held 7 (.loud 3 (.loud 4 (.loud 8 (.loud 9 (.loud 10 (.held 11 (.done))))))))))))) mixed (by kernel_rfl)) | fail
  exact Bx.h h) : G := s ⟨h⟩
set_option maxHeartbeats 4000000 in
set_option maxRecDepth 8000 in
theorem isame_c (v1 v2 : Value) (x y : Int) : FnB Tryz.prog 81 [v1, v2] [] [isZ v1 x, isZ v2 y] (IsV (.bool (decide (x = y)))) := by
  refine fn_of [(0, v1), (1, v2)] 38 Tryz.func81 rfl Tryz.ntmps81 (by kernel_rfl) rfl suA fun h0 => ?_
  refine WC.openZ (v := v1) (z := x) hmA fun n1 d1 hv hb1 => ?_
  subst hv
  refine WC.openZ (v := v2) (z := y) hmA fun n2 d2 hv hb2 => ?_
  subst hv
  refine WC.fact (sI d1 (digs x.natAbs)) (hasZ_d hmA) ?_
  refine WC.fact (sI d2 (digs y.natAbs)) (hasZ_d hmA) ?_
  have hd := digs_eq hb1 hb2
  generalize digs x.natAbs = a at *
  generalize digs y.natAbs = b at *
  refine WC.lenI d1 a hmA fun hlen => ?_
  by_cases c1 : n1 = n2
  · subst c1
    by_cases c2 : a.length = b.length
    · repeat' (first | refine go ?_ | refine goX ?_ | refine goB ?_ | (refine goG ?_; intro g) | (refine goV ?_; intro v) | refine goD ?_ | refine goXD ?_ | (refine goDG ?_; intro g) | (refine goDV ?_; intro v) | refine d81 ?_ | fail)
      rename_i g2
      revert g; intro g3
      refine WC.lp (σ := Nat) (fun k => [(5, .int .i64 (k : Int)), (2, ptr g2), (3, ptr g3)]) (fun _ => [Ow.cells g3 35 [.bool n1, d2], Ow.cells g2 35 [.bool n1, d1]]) (fun _ => [ge h0, sI d1 a, sI d2 b]) (fun k => k ≤ a.length ∧ ∀ j, j < k → a.getD j 0 = b.getD j 0) (fun k => a.length - k) 0 ⟨by simp, fun j hj => by omega⟩ ?_
      rintro k ⟨hk, hs⟩
      by_cases h : k < a.length
      · by_cases c3 : a.getD k 0 = b.getD k 0
        · repeat' (first | refine go ?_ | refine goX ?_ | refine goB ?_ | (refine goG ?_; intro g) | (refine goV ?_; intro v) | refine goD ?_ | refine goXD ?_ | (refine goDG ?_; intro g) | (refine goDV ?_; intro v) | refine d81 ?_ | fail)
          exact LoopEnd.mk (k + 1) ⟨by omega, fun j hj => if hjk : j = k then hjk ▸ c3 else hs j (by omega)⟩ (by omega)
        · repeat' (first | refine go ?_ | refine goX ?_ | refine goB ?_ | (refine goG ?_; intro g) | (refine goV ?_; intro v) | refine goD ?_ | refine goXD ?_ | (refine goDG ?_; intro g) | (refine goDV ?_; intro v) | refine d81 ?_ | fail)
          refine WC.ret ?_
          exact Fin.v (ResE.t1 rfl rfl) meA (by rw [decide_eq_false (fun he => c3 (by rw [(hd.2 he).2]))])
      · repeat' (first | refine go ?_ | refine goX ?_ | refine goB ?_ | (refine goG ?_; intro g) | (refine goV ?_; intro v) | refine goD ?_ | refine goXD ?_ | (refine goDG ?_; intro g) | (refine goDV ?_; intro v) | refine d81 ?_ | fail)
        refine WC.ret ?_
        exact Fin.v (ResE.t1 rfl rfl) meA (by rw [decide_eq_true (hd.1 ⟨rfl, val_eq_all c2 (fun j hj => hs j (by omega))⟩)])
    · repeat' (first | refine go ?_ | refine goX ?_ | refine goB ?_ | (refine goG ?_; intro g) | (refine goV ?_; intro v) | refine goD ?_ | refine goXD ?_ | (refine goDG ?_; intro g) | (refine goDV ?_; intro v) | refine d81 ?_ | fail)
      refine WC.ret ?_
      exact Fin.v (ResE.t1 rfl rfl) meA (by rw [decide_eq_false (fun he => c2 (by rw [(hd.2 he).2]))])
  · repeat' (first | refine go ?_ | refine goX ?_ | refine goB ?_ | (refine goG ?_; intro g) | (refine goV ?_; intro v) | refine goD ?_ | refine goXD ?_ | (refine goDG ?_; intro g) | (refine goDV ?_; intro v) | refine d81 ?_ | fail)
    refine WC.ret ?_
    exact Fin.v (ResE.t1 rfl rfl) meA (by rw [decide_eq_false (fun he => c1 (hd.2 he).1)])
set_option maxHeartbeats 4000000 in
set_option maxRecDepth 8000 in
theorem rden_c (v : Value) (q : Rat) : FnB Tryz.prog 153 [v] [] [isQ v q] (IsZ (q.den : Int)) := by
  refine fn_of [(0, v)] 11 Tryz.func153 rfl Tryz.ntmps153 (by kernel_rfl) rfl suA fun h0 => ?_
  refine WC.openQ (v := v) (q := q) hmA fun n1 d1 d2 hv hb1 => ?_
  subst hv
  have hl := @qz_len q
  by_cases c : q.den = 1
  · have hl0 := hl.2 c
    repeat' (first | refine go ?_ | refine goX ?_ | refine goB ?_ | (refine goG ?_; intro g) | (refine goV ?_; intro v))
    first | refine WL.callK (rof_c 1 (by decide) (by decide)) ?_ | refine WD.callK (rof_c 1 (by decide) (by decide)) ?_ | refine LO.callM (rof_c 1 (by decide) (by decide)) ?_
    rintro _ _ _ ⟨nb, d, rfl, hb, rfl, rfl⟩
    simp only [List.nil_append, List.cons_append]
    repeat' (first | refine go ?_ | refine goX ?_ | refine goB ?_ | (refine goG ?_; intro g) | (refine goV ?_; intro v))
    rw [show ((q.den : Nat) : Int) = 1 by omega]
    refine WC.ret ?_
    exact Fin.p [] [isZ (.agg #[.bool nb, d]) 1] (ResE.cV rfl rfl meA T.r35 rfl) meA (List.nil_sublist _) haA ⟨nb, _, rfl, hb, rfl, rfl⟩
  · have hl0 : (digs (qz q).natAbs).length ≠ 0 := fun h => c (hl.1 h)
    have hz : qz q = (q.den : Int) := by unfold qz; rw [if_neg c]
    rw [hz] at hl0
    refine WC.fact (isZ (.agg #[.bool false, d2]) (q.den : Int)) (by rw [← hz]; exact hasQ_Q hmA) ?_
    repeat' (first | refine go ?_ | refine goX ?_ | refine goB ?_ | (refine goG ?_; intro g) | (refine goV ?_; intro v))
    refine WC.ret ?_
    exact Fin.p [] [isZ (.agg #[.bool false, d2]) (q.den : Int)] (ResE.cV rfl rfl meA T.r35 rfl) meA (List.nil_sublist _) haA ⟨false, _, rfl, nneg_dec _, rfl, rfl⟩
set_option maxHeartbeats 4000000 in
set_option maxRecDepth 8000 in
theorem runit_c (v : Value) (z : Int) : FnB Tryz.prog 112 [v] [] [isZ v z] (IsV (.bool (decide (z = 1)))) := by
  refine fn_of [(0, v)] 16 Tryz.func112 rfl Tryz.ntmps112 (by kernel_rfl) rfl suA fun h0 => ?_
  refine WC.openZ (v := v) (z := z) hmA fun n1 d1 hv hb1 => ?_
  subst hv
  refine WC.fact (sI d1 (digs z.natAbs)) (hasZ_d hmA) ?_
  have hl1 := @len_one z.natAbs
  generalize hD : digs z.natAbs = D at *
  cases n1 with
  | true =>
    have hz : z < 0 := of_decide_eq_true hb1.symm
    repeat' (first | refine go ?_ | refine goX ?_ | refine goB ?_ | (refine goG ?_; intro g) | (refine goV ?_; intro v))
    refine WC.ret ?_
    exact Fin.v (ResE.t1 rfl rfl) meA (by rw [decide_eq_false (by omega)])
  | false =>
    have hz : ¬ z < 0 := of_decide_eq_false hb1.symm
    by_cases c : D.length = 1
    · by_cases c2 : D.getD 0 0 = 1
      · have h3 := hl1.1 ⟨c, c2⟩
        have c3 : D.getD (0 : Int).toNat 0 = 1 := c2
        repeat' (first | refine go ?_ | refine goX ?_ | refine goB ?_ | (refine goG ?_; intro g) | (refine goV ?_; intro v))
        refine WC.ret ?_
        exact Fin.v (ResE.t1 rfl rfl) meA (by rw [decide_eq_true (by omega)])
      · have h3 : z ≠ 1 := fun h => c2 (hl1.2 (by omega)).2
        have c3 : D.getD (0 : Int).toNat 0 ≠ 1 := c2
        repeat' (first | refine go ?_ | refine goX ?_ | refine goB ?_ | (refine goG ?_; intro g) | (refine goV ?_; intro v))
        refine WC.ret ?_
        exact Fin.v (ResE.t1 rfl rfl) meA (by rw [decide_eq_false h3])
    · have h3 : z ≠ 1 := fun h => c (hl1.2 (by omega)).1
      repeat' (first | refine go ?_ | refine goX ?_ | refine goB ?_ | (refine goG ?_; intro g) | (refine goV ?_; intro v))
      refine WC.ret ?_
      exact Fin.v (ResE.t1 rfl rfl) meA (by rw [decide_eq_false h3])
set_option maxHeartbeats 8000000 in
set_option maxRecDepth 8000 in
theorem rmake_c (v1 v2 : Value) (p q : Int) (h1 : p.natAbs < B2) (h2 : q.natAbs < B2) : FnB Tryz.prog 58 [v1, v2] [] [isZ v1 p, isZ v2 q] (IsQ (Rat.divInt p q)) := by
  refine fn_of [(0, v1), (1, v2)] 49 Tryz.func58 rfl Tryz.ntmps58 (by kernel_rfl) rfl suA fun h0 => ?_
  refine WC.openZ (v := v1) (z := p) hmA fun n1 d1 hv hb1 => ?_
  subst hv
  refine WC.openZ (v := v2) (z := q) hmA fun n2 d2 hv hb2 => ?_
  subst hv
  have lp := @digs_len0 p.natAbs
  have lq := @digs_len0 q.natAbs
  by_cases c0 : q = 0
  · have hl := lq.2 (by omega)
    repeat' (first | refine go ?_ | refine goX ?_ | refine goB ?_ | (refine goG ?_; intro g) | (refine goV ?_; intro v))
    rw [c0, Rat.divInt_zero]
    refine WC.ret ?_
    exact Fin.p [] [isQ (.agg #[.bool false, .slice none 0 0, .bool false, .slice none 0 0]) 0] (ResE.cV rfl rfl meA T.r37 rfl) meA (List.nil_sublist _) (.cons hasQ_0 .nil) ⟨false, _, _, rfl, rfl, rfl, rfl⟩
  have hlq := len_pos (n := q.natAbs) (by omega)
  by_cases c1 : p = 0
  · have hl := lp.2 (by omega)
    repeat' (first | refine go ?_ | refine goX ?_ | refine goB ?_ | (refine goG ?_; intro g) | (refine goV ?_; intro v))
    rw [c1, Rat.zero_divInt]
    refine WC.ret ?_
    exact Fin.p [] [isQ (.agg #[.bool false, .slice none 0 0, .bool false, .slice none 0 0]) 0] (ResE.cV rfl rfl meA T.r37 rfl) meA (List.nil_sublist _) (.cons hasQ_0 .nil) ⟨false, _, _, rfl, rfl, rfl, rfl⟩
  have hlp := len_pos (n := p.natAbs) (by omega)
  obtain ⟨hn, hd⟩ := num_make (p := p) (q := q) c0 c1
  have hg : 0 < Int.gcd p q := Int.gcd_pos_of_ne_zero_right _ c0
  have hg2 : Int.gcd p q < B2 := by
    have : Int.gcd p q ≤ q.natAbs := Nat.le_of_dvd (by omega) (Nat.gcd_dvd_right ..)
    omega
  generalize hr : Rat.divInt p q = r at *
  have hqne : q / (Int.gcd p q : Int) ≠ 0 := fun h => by
    have := Int.ediv_mul_cancel (Int.gcd_dvd_right (a := p) (b := q))
    rw [h] at this; omega
  have fin : ∀ (F : List Fct) (nb : Bool) (e1 e2 : Value), r.den ≠ 1 → Has F (isZ (.agg #[.bool nb, e1]) r.num) → Has F (isZ (.agg #[.bool false, e2]) (r.den : Int)) → nb = decide (r.num < 0) → Has F (isQ (.agg #[.bool nb, e1, .bool false, e2]) r) := fun F nb e1 e2 h1 h2 h3 hb => hasQ_of hb (hasZ_d h2) (by
    have : qz r = (r.den : Int) := by unfold qz; rw [if_neg h1]
    rw [this]; exact hasZ_d h3)
  have fin1 : ∀ (F : List Fct) (nb : Bool) (e1 : Value), r.den = 1 → Has F (isZ (.agg #[.bool nb, e1]) r.num) → nb = decide (r.num < 0) → Has F (isQ (.agg #[.bool nb, e1, .bool false, .slice none 0 0]) r) := fun F nb e1 h1 h2 hb => hasQ_of hb (hasZ_d h2) (by
    have : qz r = 0 := by unfold qz; rw [if_pos h1]
    rw [this]; simpa [digs_0] using nil0)
  repeat' (first | refine go ?_ | refine goX ?_ | refine goB ?_ | (refine goG ?_; intro g) | (refine goV ?_; intro v))
  first | refine WL.callK (rgcd_c (.agg #[.bool n1, d1]) (.agg #[.bool n2, d2]) p q h1 h2) ?_ | refine WD.callK (rgcd_c (.agg #[.bool n1, d1]) (.agg #[.bool n2, d2]) p q h1 h2) ?_ | refine LO.callM (rgcd_c (.agg #[.bool n1, d1]) (.agg #[.bool n2, d2]) p q h1 h2) ?_
  rintro _ _ _ ⟨n3, d3, rfl, hb3, rfl, rfl⟩
  simp only [List.nil_append, List.cons_append]
  repeat' (first | refine go ?_ | refine goX ?_ | refine goB ?_ | (refine goG ?_; intro g) | (refine goV ?_; intro v))
  revert g; intro g5
  first | refine WL.callK (rdiv_c (.agg #[.bool n1, d1]) (.agg #[.bool n3, d3]) p ((Int.gcd p q : Nat) : Int) h1 hg2 (by omega)) ?_ | refine WD.callK (rdiv_c (.agg #[.bool n1, d1]) (.agg #[.bool n3, d3]) p ((Int.gcd p q : Nat) : Int) h1 hg2 (by omega)) ?_ | refine LO.callM (rdiv_c (.agg #[.bool n1, d1]) (.agg #[.bool n3, d3]) p ((Int.gcd p q : Nat) : Int) h1 hg2 (by omega)) ?_
  rintro _ _ _ ⟨n4, d4, n5, d5, rfl, hb4, hb5, rfl, rfl⟩
  simp only [List.nil_append, List.cons_append]
  repeat' (first | refine go ?_ | refine goX ?_ | refine goB ?_ | (refine goG ?_; intro g) | (refine goV ?_; intro v))
  revert g; intro g7
  first | refine WL.callK (rdiv_c (.agg #[.bool n2, d2]) (.agg #[.bool n3, d3]) q ((Int.gcd p q : Nat) : Int) h2 hg2 (by omega)) ?_ | refine WD.callK (rdiv_c (.agg #[.bool n2, d2]) (.agg #[.bool n3, d3]) q ((Int.gcd p q : Nat) : Int) h2 hg2 (by omega)) ?_ | refine LO.callM (rdiv_c (.agg #[.bool n2, d2]) (.agg #[.bool n3, d3]) q ((Int.gcd p q : Nat) : Int) h2 hg2 (by omega)) ?_
  rintro _ _ _ ⟨n6, d6, n7, d7, rfl, hb6, hb7, rfl, rfl⟩
  simp only [List.nil_append, List.cons_append]
  generalize p / ((Int.gcd p q : Nat) : Int) = P at *
  generalize q / ((Int.gcd p q : Nat) : Int) = Q at *
  cases n6 with
  | true =>
    have hq2 : Q < 0 := of_decide_eq_true hb6.symm
    rw [if_pos hq2] at hn
    repeat' (first | refine go ?_ | refine goX ?_ | refine goB ?_ | (refine goG ?_; intro g) | (refine goV ?_; intro v))
    first | refine WL.callK (rneg_c (.agg #[.bool n4, d4]) P) ?_ | refine WD.callK (rneg_c (.agg #[.bool n4, d4]) P) ?_ | refine LO.callM (rneg_c (.agg #[.bool n4, d4]) P) ?_
    rintro _ _ _ ⟨n8, d8, rfl, hb8, rfl, rfl⟩
    simp only [List.nil_append, List.cons_append]
    repeat' (first | refine go ?_ | refine goX ?_ | refine goB ?_ | (refine goG ?_; intro g) | (refine goV ?_; intro v))
    first | refine WL.callK (rneg_c (.agg #[.bool true, d6]) Q) ?_ | refine WD.callK (rneg_c (.agg #[.bool true, d6]) Q) ?_ | refine LO.callM (rneg_c (.agg #[.bool true, d6]) Q) ?_
    rintro _ _ _ ⟨n9, d9, rfl, hb9, rfl, rfl⟩
    simp only [List.nil_append, List.cons_append]
    obtain rfl : false = n9 := by rw [hb9, eq_comm, decide_eq_false_iff_not]; omega
    rw [← hn] at hb8 ⊢
    rw [show -Q = (r.den : Int) by omega]
    repeat' (first | refine go ?_ | refine goX ?_ | refine goB ?_ | (refine goG ?_; intro g) | (refine goV ?_; intro v))
    first | refine WL.callV (runit_c (.agg #[.bool false, d9]) (r.den : Int)) ?_ | refine WD.callV (runit_c (.agg #[.bool false, d9]) (r.den : Int)) ?_
    by_cases c : r.den = 1
    · rw [decide_eq_true (by omega)]
      repeat' (first | refine go ?_ | refine goX ?_ | refine goB ?_ | (refine goG ?_; intro g) | (refine goV ?_; intro v))
      refine WC.fact (isQ (.agg #[.bool n8, d8, .bool false, .slice none 0 0]) r) (fin1 _ _ _ c hmA hb8) ?_
      refine WC.ret ?_
      exact Fin.p [] [isQ (.agg #[.bool n8, d8, .bool false, .slice none 0 0]) r] (ResE.cV rfl rfl meA T.r37 rfl) meA (List.nil_sublist _) haA ⟨n8, _, _, rfl, hb8, rfl, rfl⟩
    · rw [decide_eq_false (by omega)]
      repeat' (first | refine go ?_ | refine goX ?_ | refine goB ?_ | (refine goG ?_; intro g) | (refine goV ?_; intro v))
      refine WC.fact (isQ (.agg #[.bool n8, d8, .bool false, d9]) r) (fin _ _ _ _ c hmA hmA hb8) ?_
      refine WC.ret ?_
      exact Fin.p [] [isQ (.agg #[.bool n8, d8, .bool false, d9]) r] (ResE.cV rfl rfl meA T.r37 rfl) meA (List.nil_sublist _) haA ⟨n8, _, _, rfl, hb8, rfl, rfl⟩
  | false =>
    have hq2 : ¬ Q < 0 := of_decide_eq_false hb6.symm
    rw [if_neg hq2] at hn
    rw [← hn] at hb4 ⊢
    rw [show Q = (r.den : Int) by omega]
    repeat' (first | refine go ?_ | refine goX ?_ | refine goB ?_ | (refine goG ?_; intro g) | (refine goV ?_; intro v))
    first | refine WL.callV (runit_c (.agg #[.bool false, d6]) (r.den : Int)) ?_ | refine WD.callV (runit_c (.agg #[.bool false, d6]) (r.den : Int)) ?_
    by_cases c : r.den = 1
    · rw [decide_eq_true (by omega)]
      repeat' (first | refine go ?_ | refine goX ?_ | refine goB ?_ | (refine goG ?_; intro g) | (refine goV ?_; intro v))
      refine WC.fact (isQ (.agg #[.bool n4, d4, .bool false, .slice none 0 0]) r) (fin1 _ _ _ c hmA hb4) ?_
      refine WC.ret ?_
      exact Fin.p [] [isQ (.agg #[.bool n4, d4, .bool false, .slice none 0 0]) r] (ResE.cV rfl rfl meA T.r37 rfl) meA (List.nil_sublist _) haA ⟨n4, _, _, rfl, hb4, rfl, rfl⟩
    · rw [decide_eq_false (by omega)]
      repeat' (first | refine go ?_ | refine goX ?_ | refine goB ?_ | (refine goG ?_; intro g) | (refine goV ?_; intro v))
      refine WC.fact (isQ (.agg #[.bool n4, d4, .bool false, d6]) r) (fin _ _ _ _ c hmA hmA hb4) ?_
      refine WC.ret ?_
      exact Fin.p [] [isQ (.agg #[.bool n4, d4, .bool false, d6]) r] (ResE.cV rfl rfl meA T.r37 rfl) meA (List.nil_sublist _) haA ⟨n4, _, _, rfl, hb4, rfl, rfl⟩
set_option maxHeartbeats 4000000 in
set_option maxRecDepth 8000 in
theorem rqof_c (p q : Int) (h1 : p.natAbs < B2) (h2 : q.natAbs < B2) : FnB Tryz.prog 18 [.int .i64 p, .int .i64 q] [] [] (IsQ (Rat.divInt p q)) := by
  refine fn_of [(0, (.int .i64 p)), (1, (.int .i64 q))] 10 Tryz.func18 rfl Tryz.ntmps18 (by kernel_rfl) rfl suA fun h0 => ?_
  have h1' : p.natAbs < 1000000000000000000 := h1
  have h2' : q.natAbs < 1000000000000000000 := h2
  repeat' (first | refine go ?_ | refine goX ?_ | refine goB ?_ | (refine goG ?_; intro g) | (refine goV ?_; intro v))
  first | refine WL.callK (rof_c p (by omega) (by omega)) ?_ | refine WD.callK (rof_c p (by omega) (by omega)) ?_ | refine LO.callM (rof_c p (by omega) (by omega)) ?_
  rintro _ _ _ ⟨n1, d1, rfl, hb1, rfl, rfl⟩
  simp only [List.nil_append, List.cons_append]
  repeat' (first | refine go ?_ | refine goX ?_ | refine goB ?_ | (refine goG ?_; intro g) | (refine goV ?_; intro v))
  first | refine WL.callK (rof_c q (by omega) (by omega)) ?_ | refine WD.callK (rof_c q (by omega) (by omega)) ?_ | refine LO.callM (rof_c q (by omega) (by omega)) ?_
  rintro _ _ _ ⟨n2, d2, rfl, hb2, rfl, rfl⟩
  simp only [List.nil_append, List.cons_append]
  repeat' (first | refine go ?_ | refine goX ?_ | refine goB ?_ | (refine goG ?_; intro g) | (refine goV ?_; intro v))
  first | refine WL.callK (rmake_c (.agg #[.bool n1, d1]) (.agg #[.bool n2, d2]) p q h1 h2) ?_ | refine WD.callK (rmake_c (.agg #[.bool n1, d1]) (.agg #[.bool n2, d2]) p q h1 h2) ?_ | refine LO.callM (rmake_c (.agg #[.bool n1, d1]) (.agg #[.bool n2, d2]) p q h1 h2) ?_
  rintro _ _ _ ⟨nb, e1, e2, rfl, hb, rfl, rfl⟩
  simp only [List.nil_append, List.cons_append]
  repeat' (first | refine go ?_ | refine goX ?_ | refine goB ?_ | (refine goG ?_; intro g) | (refine goV ?_; intro v))
  refine WC.ret ?_
  exact Fin.p [] [isQ (.agg #[.bool nb, e1, .bool false, e2]) (Rat.divInt p q)] (ResE.cV rfl rfl meA T.r37 rfl) meA (List.nil_sublist _) haA ⟨nb, _, _, rfl, hb, rfl, rfl⟩
set_option maxHeartbeats 4000000 in
set_option maxRecDepth 8000 in
theorem rqsign_c (v : Value) (q : Rat) : FnB Tryz.prog 77 [v] [] [isQ v q] (IsV (.int .i64 (sgn q.num))) := by
  refine fn_of [(0, v)] 6 Tryz.func77 rfl Tryz.ntmps77 (by kernel_rfl) rfl suA fun h0 => ?_
  refine WC.openQ (v := v) (q := q) hmA fun n1 d1 d2 hv hb1 => ?_
  subst hv
  refine WC.fact (isZ (.agg #[.bool n1, d1]) q.num) (hasQ_P hmA) ?_
  repeat' (first | refine go ?_ | refine goX ?_ | refine goB ?_ | (refine goG ?_; intro g) | (refine goV ?_; intro v))
  first | refine WL.callV (rsign_c (.agg #[.bool n1, d1]) q.num) ?_ | refine WD.callV (rsign_c (.agg #[.bool n1, d1]) q.num) ?_
  repeat' (first | refine go ?_ | refine goX ?_ | refine goB ?_ | (refine goG ?_; intro g) | (refine goV ?_; intro v))
  refine WC.ret ?_
  exact Fin.v (ResE.t1 rfl rfl) meA rfl
set_option maxHeartbeats 4000000 in
set_option maxRecDepth 8000 in
theorem rqsame_c (v1 v2 : Value) (a b : Rat) : FnB Tryz.prog 34 [v1, v2] [] [isQ v1 a, isQ v2 b] (IsV (.bool (decide (a = b)))) := by
  refine fn_of [(0, v1), (1, v2)] 17 Tryz.func34 rfl Tryz.ntmps34 (by kernel_rfl) rfl suA fun h0 => ?_
  refine WC.openQ (v := v1) (q := a) hmA fun n1 d1 d2 hv hb1 => ?_
  subst hv
  refine WC.openQ (v := v2) (q := b) hmA fun n2 d3 d4 hv hb2 => ?_
  subst hv
  repeat' (first | refine go ?_ | refine goX ?_ | refine goB ?_ | (refine goG ?_; intro g) | (refine goV ?_; intro v))
  first | refine WL.callV (isame_c (.agg #[.bool n1, d1]) (.agg #[.bool n2, d3]) a.num b.num) ?_ | refine WD.callV (isame_c (.agg #[.bool n1, d1]) (.agg #[.bool n2, d3]) a.num b.num) ?_
  by_cases c : a.num = b.num
  · rw [decide_eq_true c]
    repeat' (first | refine go ?_ | refine goX ?_ | refine goB ?_ | (refine goG ?_; intro g) | (refine goV ?_; intro v))
    first | refine WL.callV (isame_c (.agg #[.bool false, d2]) (.agg #[.bool false, d4]) (qz a) (qz b)) ?_ | refine WD.callV (isame_c (.agg #[.bool false, d2]) (.agg #[.bool false, d4]) (qz a) (qz b)) ?_
    rw [show decide (qz a = qz b) = decide (a = b) by rw [decide_eq_decide]; exact ⟨fun h => qz_inj c h, fun h => by rw [h]⟩]
    repeat' (first | refine go ?_ | refine goX ?_ | refine goB ?_ | (refine goG ?_; intro g) | (refine goV ?_; intro v))
    refine WC.ret ?_
    exact Fin.v (ResE.t1 rfl rfl) meA rfl
  · rw [decide_eq_false c]
    repeat' (first | refine go ?_ | refine goX ?_ | refine goB ?_ | (refine goG ?_; intro g) | (refine goV ?_; intro v))
    refine WC.ret ?_
    exact Fin.v (ResE.t1 rfl rfl) meA (by rw [decide_eq_false (fun h => c (by rw [h]))])
set_option maxHeartbeats 4000000 in
set_option maxRecDepth 8000 in
theorem rqcompare_c (v1 v2 : Value) (a b : Rat) (h1 : Sm a) (h2 : Sm b) : FnB Tryz.prog 128 [v1, v2] [] [isQ v1 a, isQ v2 b] (IsV (.int .i64 (cmpQ a b))) := by
  refine fn_of [(0, v1), (1, v2)] 16 Tryz.func128 rfl Tryz.ntmps128 (by kernel_rfl) rfl suA fun h0 => ?_
  refine WC.openQ (v := v1) (q := a) hmA fun n1 d1 d2 hv hb1 => ?_
  subst hv
  refine WC.openQ (v := v2) (q := b) hmA fun n2 d3 d4 hv hb2 => ?_
  subst hv
  obtain ⟨s1, s2⟩ := h1
  obtain ⟨s3, s4⟩ := h2
  refine WC.fact (isZ (.agg #[.bool n1, d1]) a.num) (hasQ_P hmA) ?_
  refine WC.fact (isZ (.agg #[.bool n2, d3]) b.num) (hasQ_P hmA) ?_
  have q1 := Sm.mul s1 s4
  have q2 := Sm.mul s3 s2
  repeat' (first | refine go ?_ | refine goX ?_ | refine goB ?_ | (refine goG ?_; intro g) | (refine goV ?_; intro v) | refine goD ?_ | refine goXD ?_ | (refine goDG ?_; intro g) | (refine goDV ?_; intro v) | refine d128 ?_ | fail)
  first | refine WL.callK (rden_c (.agg #[.bool n2, d3, .bool false, d4]) b) ?_ | refine WD.callK (rden_c (.agg #[.bool n2, d3, .bool false, d4]) b) ?_ | refine LO.callM (rden_c (.agg #[.bool n2, d3, .bool false, d4]) b) ?_
  rintro _ _ _ ⟨n5, d5, rfl, hb5, rfl, rfl⟩
  simp only [List.nil_append, List.cons_append]
  repeat' (first | refine go ?_ | refine goX ?_ | refine goB ?_ | (refine goG ?_; intro g) | (refine goV ?_; intro v) | refine goD ?_ | refine goXD ?_ | (refine goDG ?_; intro g) | (refine goDV ?_; intro v) | refine d128 ?_ | fail)
  first | refine WL.callK (rmul_c (.agg #[.bool n1, d1]) (.agg #[.bool n5, d5]) a.num (b.den : Int) (abs_len (Nat.lt_of_le_of_lt s1 (by decide))) (abs_len (Nat.lt_of_le_of_lt s4 (by decide)))) ?_ | refine WD.callK (rmul_c (.agg #[.bool n1, d1]) (.agg #[.bool n5, d5]) a.num (b.den : Int) (abs_len (Nat.lt_of_le_of_lt s1 (by decide))) (abs_len (Nat.lt_of_le_of_lt s4 (by decide)))) ?_ | refine LO.callM (rmul_c (.agg #[.bool n1, d1]) (.agg #[.bool n5, d5]) a.num (b.den : Int) (abs_len (Nat.lt_of_le_of_lt s1 (by decide))) (abs_len (Nat.lt_of_le_of_lt s4 (by decide)))) ?_
  rintro _ _ _ ⟨n6, d6, rfl, hb6, rfl, rfl⟩
  simp only [List.nil_append, List.cons_append]
  repeat' (first | refine go ?_ | refine goX ?_ | refine goB ?_ | (refine goG ?_; intro g) | (refine goV ?_; intro v) | refine goD ?_ | refine goXD ?_ | (refine goDG ?_; intro g) | (refine goDV ?_; intro v) | refine d128 ?_ | fail)
  first | refine WL.callK (rden_c (.agg #[.bool n1, d1, .bool false, d2]) a) ?_ | refine WD.callK (rden_c (.agg #[.bool n1, d1, .bool false, d2]) a) ?_ | refine LO.callM (rden_c (.agg #[.bool n1, d1, .bool false, d2]) a) ?_
  rintro _ _ _ ⟨n7, d7, rfl, hb7, rfl, rfl⟩
  simp only [List.nil_append, List.cons_append]
  repeat' (first | refine go ?_ | refine goX ?_ | refine goB ?_ | (refine goG ?_; intro g) | (refine goV ?_; intro v) | refine goD ?_ | refine goXD ?_ | (refine goDG ?_; intro g) | (refine goDV ?_; intro v) | refine d128 ?_ | fail)
  first | refine WL.callK (rmul_c (.agg #[.bool n2, d3]) (.agg #[.bool n7, d7]) b.num (a.den : Int) (abs_len (Nat.lt_of_le_of_lt s3 (by decide))) (abs_len (Nat.lt_of_le_of_lt s2 (by decide)))) ?_ | refine WD.callK (rmul_c (.agg #[.bool n2, d3]) (.agg #[.bool n7, d7]) b.num (a.den : Int) (abs_len (Nat.lt_of_le_of_lt s3 (by decide))) (abs_len (Nat.lt_of_le_of_lt s2 (by decide)))) ?_ | refine LO.callM (rmul_c (.agg #[.bool n2, d3]) (.agg #[.bool n7, d7]) b.num (a.den : Int) (abs_len (Nat.lt_of_le_of_lt s3 (by decide))) (abs_len (Nat.lt_of_le_of_lt s2 (by decide)))) ?_
  rintro _ _ _ ⟨n8, d8, rfl, hb8, rfl, rfl⟩
  simp only [List.nil_append, List.cons_append]
  repeat' (first | refine go ?_ | refine goX ?_ | refine goB ?_ | (refine goG ?_; intro g) | (refine goV ?_; intro v) | refine goD ?_ | refine goXD ?_ | (refine goDG ?_; intro g) | (refine goDV ?_; intro v) | refine d128 ?_ | fail)
  first | refine WL.callV (rcompare_c (.agg #[.bool n6, d6]) (.agg #[.bool n8, d8]) (a.num * (b.den : Int)) (b.num * (a.den : Int))) ?_ | refine WD.callV (rcompare_c (.agg #[.bool n6, d6]) (.agg #[.bool n8, d8]) (a.num * (b.den : Int)) (b.num * (a.den : Int))) ?_
  rw [show cmpI (a.num * (b.den : Int)) (b.num * (a.den : Int)) = cmpQ a b from rfl]
  repeat' (first | refine go ?_ | refine goX ?_ | refine goB ?_ | (refine goG ?_; intro g) | (refine goV ?_; intro v) | refine goD ?_ | refine goXD ?_ | (refine goDG ?_; intro g) | (refine goDV ?_; intro v) | refine d128 ?_ | fail)
  refine WC.ret ?_
  exact Fin.v (ResE.t1 rfl rfl) meA rfl
set_option maxHeartbeats 8000000 in
set_option maxRecDepth 8000 in
theorem rqadd_c (v1 v2 : Value) (a b : Rat) (h1 : Sm a) (h2 : Sm b) : FnB Tryz.prog 127 [v1, v2] [] [isQ v1 a, isQ v2 b] (IsQ (a + b)) := by
  refine fn_of [(0, v1), (1, v2)] 26 Tryz.func127 rfl Tryz.ntmps127 (by kernel_rfl) rfl suA fun h0 => ?_
  refine WC.openQ (v := v1) (q := a) hmA fun n1 d1 d2 hv hb1 => ?_
  subst hv
  refine WC.openQ (v := v2) (q := b) hmA fun n2 d3 d4 hv hb2 => ?_
  subst hv
  obtain ⟨s1, s2⟩ := h1
  obtain ⟨s3, s4⟩ := h2
  have q1 := Sm.mul s1 s4
  have q2 := Sm.mul s3 s2
  have q3 := Sm.mul s2 s4
  have k1 : (a.num * (b.den : Int)).natAbs < B2 := by rw [abs_mulc]; exact Nat.lt_of_le_of_lt q1 (by decide)
  have k2 : (b.num * (a.den : Int)).natAbs < B2 := by rw [abs_mulc]; exact Nat.lt_of_le_of_lt q2 (by decide)
  have k3 : ((a.den : Int) * (b.den : Int)).natAbs < B2 := by rw [abs_mulc, Int.natAbs_natCast]; exact Nat.lt_of_le_of_lt q3 (by decide)
  have k4 : (a.num * (b.den : Int) + b.num * (a.den : Int)).natAbs < B2 := by
    rw [← abs_mulc] at q1 q2
    show _ < 1000000000000000000
    generalize a.num * (b.den : Int) = u at *
    generalize b.num * (a.den : Int) = w at *
    omega
  have m1 := fun (n5 : Bool) (d5 : Value) => rmul_c (.agg #[.bool n1, d1]) (.agg #[.bool n5, d5]) a.num (b.den : Int) (abs_len (Nat.lt_of_le_of_lt s1 (by decide))) (abs_len (Nat.lt_of_le_of_lt s4 (by decide)))
  have m2 := fun (n5 : Bool) (d5 : Value) => rmul_c (.agg #[.bool n2, d3]) (.agg #[.bool n5, d5]) b.num (a.den : Int) (abs_len (Nat.lt_of_le_of_lt s3 (by decide))) (abs_len (Nat.lt_of_le_of_lt s2 (by decide)))
  refine WC.fact (isZ (.agg #[.bool n1, d1]) a.num) (hasQ_P hmA) ?_
  refine WC.fact (isZ (.agg #[.bool n2, d3]) b.num) (hasQ_P hmA) ?_
  repeat' (first | refine go ?_ | refine goX ?_ | refine goB ?_ | (refine goG ?_; intro g) | (refine goV ?_; intro v))
  refine WC.cutP (σ := Nat × Nat × Nat × Nat × Bool × Value) (fun s => [(5, ptr s.1), (2, ptr s.2.1), (3, ptr s.2.2.1), (4, ptr s.2.2.2.1)])
    (fun s => [Ow.cells s.1 35 [.bool s.2.2.2.2.1, s.2.2.2.2.2], Ow.cells s.2.1 37 [.bool n1, d1, .bool false, d2], Ow.cells s.2.2.1 37 [.bool n2, d3, .bool false, d4], Ow.cells s.2.2.2.1 37 [.bool false, .slice none 0 0, .bool false, .slice none 0 0]])
    (fun s => [ge h0, isZ (.agg #[.bool s.2.2.2.2.1, s.2.2.2.2.2]) (a.num * (b.den : Int)), isZ (.agg #[.bool n1, d1]) a.num, isZ (.agg #[.bool n2, d3]) b.num, isQ (.agg #[.bool n1, d1, .bool false, d2]) a, isQ (.agg #[.bool n2, d3, .bool false, d4]) b]) (fun _ => True) ?_ ?_
  · repeat' (first | refine go ?_ | refine goX ?_ | refine goB ?_ | (refine goG ?_; intro g) | (refine goV ?_; intro v) | refine goD ?_ | refine goXD ?_ | (refine goDG ?_; intro g) | (refine goDV ?_; intro v) | apply WD.more_of | refine WM.more (by exact rfl) (by exact rfl) (by exact rfl) ?_ ?_ | refine WM.one (by exact rfl) (by exact rfl) (by exact rfl) ?_ | refine WM.more0 (by exact rfl) (by exact rfl) ?_ ?_ | refine WM.one0 (by exact rfl) (by exact rfl) ?_ | (refine goLG ?_; intro g) | (refine goLV ?_; intro v) | refine goLS ?_ | refine d127 ?_ | fail | ((first | refine WL.callK (hv := ?hvQ) (rden_c (.agg #[.bool n2, d3, .bool false, d4]) b) ?_ | refine WD.callK (hv := ?hvQ) (rden_c (.agg #[.bool n2, d3, .bool false, d4]) b) ?_ | refine LO.callM (hv := ?hvQ) (rden_c (.agg #[.bool n2, d3, .bool false, d4]) b) ?_); (case hvQ => ((repeat (first | exact Evs.nil | (apply Evs.cons; exact rfl))); done)); rintro _ _ _ ⟨zb, zd, rfl, zh, rfl, rfl⟩; simp only [List.nil_append, List.cons_append]) | ((first | refine WL.callK (hv := ?hvQ) (m1 zb zd) ?_ | refine WD.callK (hv := ?hvQ) (m1 zb zd) ?_ | refine LO.callM (hv := ?hvQ) (m1 zb zd) ?_); (case hvQ => ((repeat (first | exact Evs.nil | (apply Evs.cons; exact rfl))); done)); rintro _ _ _ ⟨zb, zd, rfl, zh, rfl, rfl⟩; simp only [List.nil_append, List.cons_append]) | fail)
    all_goals (apply Ex6; refine ⟨trivial, ?_, ?_, ?_⟩; (focus (repeat (first | exact Sub.nil _ | refine Sub.cons rfl ?_))); (focus (repeat (first | exact SubP.nil _ | (apply SubP.cons; (repeat (first | exact Rem.head | apply Rem.tail)))))); (focus (repeat (first | exact HasAll.nil | (apply HasAll.cons; exact hsA)))))
  rintro ⟨g5, g2, g3, g4, b5, e5⟩ _
  simp only
  repeat' (first | refine go ?_ | refine goX ?_ | refine goB ?_ | (refine goG ?_; intro g) | (refine goV ?_; intro v))
  refine WC.cutP (σ := Nat × Bool × Value) (fun s => [(6, ptr s.1), (5, ptr g5), (2, ptr g2), (3, ptr g3), (4, ptr g4)])
    (fun s => [Ow.cells s.1 35 [.bool s.2.1, s.2.2], Ow.cells g5 35 [.bool b5, e5], Ow.cells g2 37 [.bool n1, d1, .bool false, d2], Ow.cells g3 37 [.bool n2, d3, .bool false, d4], Ow.cells g4 37 [.bool false, .slice none 0 0, .bool false, .slice none 0 0]])
    (fun s => [ge h0, isZ (.agg #[.bool s.2.1, s.2.2]) (b.num * (a.den : Int)), isZ (.agg #[.bool b5, e5]) (a.num * (b.den : Int)), isQ (.agg #[.bool n1, d1, .bool false, d2]) a, isQ (.agg #[.bool n2, d3, .bool false, d4]) b]) (fun _ => True) ?_ ?_
  · repeat' (first | refine go ?_ | refine goX ?_ | refine goB ?_ | (refine goG ?_; intro g) | (refine goV ?_; intro v) | refine goD ?_ | refine goXD ?_ | (refine goDG ?_; intro g) | (refine goDV ?_; intro v) | apply WD.more_of | refine WM.more (by exact rfl) (by exact rfl) (by exact rfl) ?_ ?_ | refine WM.one (by exact rfl) (by exact rfl) (by exact rfl) ?_ | refine WM.more0 (by exact rfl) (by exact rfl) ?_ ?_ | refine WM.one0 (by exact rfl) (by exact rfl) ?_ | (refine goLG ?_; intro g) | (refine goLV ?_; intro v) | refine goLS ?_ | refine d127 ?_ | fail | ((first | refine WL.callK (hv := ?hvQ) (rden_c (.agg #[.bool n1, d1, .bool false, d2]) a) ?_ | refine WD.callK (hv := ?hvQ) (rden_c (.agg #[.bool n1, d1, .bool false, d2]) a) ?_ | refine LO.callM (hv := ?hvQ) (rden_c (.agg #[.bool n1, d1, .bool false, d2]) a) ?_); (case hvQ => ((repeat (first | exact Evs.nil | (apply Evs.cons; exact rfl))); done)); rintro _ _ _ ⟨zb, zd, rfl, zh, rfl, rfl⟩; simp only [List.nil_append, List.cons_append]) | ((first | refine WL.callK (hv := ?hvQ) (m2 zb zd) ?_ | refine WD.callK (hv := ?hvQ) (m2 zb zd) ?_ | refine LO.callM (hv := ?hvQ) (m2 zb zd) ?_); (case hvQ => ((repeat (first | exact Evs.nil | (apply Evs.cons; exact rfl))); done)); rintro _ _ _ ⟨zb, zd, rfl, zh, rfl, rfl⟩; simp only [List.nil_append, List.cons_append]) | fail)
    all_goals (apply Ex3; refine ⟨trivial, ?_, ?_, ?_⟩; (focus (repeat (first | exact Sub.nil _ | refine Sub.cons rfl ?_))); (focus (repeat (first | exact SubP.nil _ | (apply SubP.cons; (repeat (first | exact Rem.head | apply Rem.tail)))))); (focus (repeat (first | exact HasAll.nil | (apply HasAll.cons; exact hsA)))))
  rintro ⟨g6, b6, e6⟩ _
  simp only
  repeat' (first | refine go ?_ | refine goX ?_ | refine goB ?_ | (refine goG ?_; intro g) | (refine goV ?_; intro v) | refine goD ?_ | refine goXD ?_ | (refine goDG ?_; intro g) | (refine goDV ?_; intro v) | apply WD.more_of | refine WM.more (by exact rfl) (by exact rfl) (by exact rfl) ?_ ?_ | refine WM.one (by exact rfl) (by exact rfl) (by exact rfl) ?_ | refine WM.more0 (by exact rfl) (by exact rfl) ?_ ?_ | refine WM.one0 (by exact rfl) (by exact rfl) ?_ | (refine goLG ?_; intro g) | (refine goLV ?_; intro v) | refine goLS ?_ | refine d127 ?_ | fail)
  first | refine WL.callK (radd_c (.agg #[.bool b5, e5]) (.agg #[.bool b6, e6]) (a.num * (b.den : Int)) (b.num * (a.den : Int)) (abs_len k1) (abs_len k2)) ?_ | refine WD.callK (radd_c (.agg #[.bool b5, e5]) (.agg #[.bool b6, e6]) (a.num * (b.den : Int)) (b.num * (a.den : Int)) (abs_len k1) (abs_len k2)) ?_ | refine LO.callM (radd_c (.agg #[.bool b5, e5]) (.agg #[.bool b6, e6]) (a.num * (b.den : Int)) (b.num * (a.den : Int)) (abs_len k1) (abs_len k2)) ?_
  rintro _ _ _ ⟨n9, d9, rfl, hb9, rfl, rfl⟩
  simp only [List.nil_append, List.cons_append]
  repeat' (first | refine go ?_ | refine goX ?_ | refine goB ?_ | (refine goG ?_; intro g) | (refine goV ?_; intro v) | refine goD ?_ | refine goXD ?_ | (refine goDG ?_; intro g) | (refine goDV ?_; intro v) | apply WD.more_of | refine WM.more (by exact rfl) (by exact rfl) (by exact rfl) ?_ ?_ | refine WM.one (by exact rfl) (by exact rfl) (by exact rfl) ?_ | refine WM.more0 (by exact rfl) (by exact rfl) ?_ ?_ | refine WM.one0 (by exact rfl) (by exact rfl) ?_ | (refine goLG ?_; intro g) | (refine goLV ?_; intro v) | refine goLS ?_ | refine d127 ?_ | fail)
  first | refine WL.callK (rden_c (.agg #[.bool n1, d1, .bool false, d2]) a) ?_ | refine WD.callK (rden_c (.agg #[.bool n1, d1, .bool false, d2]) a) ?_ | refine LO.callM (rden_c (.agg #[.bool n1, d1, .bool false, d2]) a) ?_
  rintro _ _ _ ⟨n7, d7, rfl, hb7, rfl, rfl⟩
  simp only [List.nil_append, List.cons_append]
  repeat' (first | refine go ?_ | refine goX ?_ | refine goB ?_ | (refine goG ?_; intro g) | (refine goV ?_; intro v) | refine goD ?_ | refine goXD ?_ | (refine goDG ?_; intro g) | (refine goDV ?_; intro v) | apply WD.more_of | refine WM.more (by exact rfl) (by exact rfl) (by exact rfl) ?_ ?_ | refine WM.one (by exact rfl) (by exact rfl) (by exact rfl) ?_ | refine WM.more0 (by exact rfl) (by exact rfl) ?_ ?_ | refine WM.one0 (by exact rfl) (by exact rfl) ?_ | (refine goLG ?_; intro g) | (refine goLV ?_; intro v) | refine goLS ?_ | refine d127 ?_ | fail)
  first | refine WL.callK (rden_c (.agg #[.bool n2, d3, .bool false, d4]) b) ?_ | refine WD.callK (rden_c (.agg #[.bool n2, d3, .bool false, d4]) b) ?_ | refine LO.callM (rden_c (.agg #[.bool n2, d3, .bool false, d4]) b) ?_
  rintro _ _ _ ⟨n8, d8, rfl, hb8, rfl, rfl⟩
  simp only [List.nil_append, List.cons_append]
  repeat' (first | refine go ?_ | refine goX ?_ | refine goB ?_ | (refine goG ?_; intro g) | (refine goV ?_; intro v) | refine goD ?_ | refine goXD ?_ | (refine goDG ?_; intro g) | (refine goDV ?_; intro v) | apply WD.more_of | refine WM.more (by exact rfl) (by exact rfl) (by exact rfl) ?_ ?_ | refine WM.one (by exact rfl) (by exact rfl) (by exact rfl) ?_ | refine WM.more0 (by exact rfl) (by exact rfl) ?_ ?_ | refine WM.one0 (by exact rfl) (by exact rfl) ?_ | (refine goLG ?_; intro g) | (refine goLV ?_; intro v) | refine goLS ?_ | refine d127 ?_ | fail)
  first | refine WL.callK (rmul_c (.agg #[.bool n7, d7]) (.agg #[.bool n8, d8]) (a.den : Int) (b.den : Int) (abs_len (Nat.lt_of_le_of_lt s2 (by decide))) (abs_len (Nat.lt_of_le_of_lt s4 (by decide)))) ?_ | refine WD.callK (rmul_c (.agg #[.bool n7, d7]) (.agg #[.bool n8, d8]) (a.den : Int) (b.den : Int) (abs_len (Nat.lt_of_le_of_lt s2 (by decide))) (abs_len (Nat.lt_of_le_of_lt s4 (by decide)))) ?_ | refine LO.callM (rmul_c (.agg #[.bool n7, d7]) (.agg #[.bool n8, d8]) (a.den : Int) (b.den : Int) (abs_len (Nat.lt_of_le_of_lt s2 (by decide))) (abs_len (Nat.lt_of_le_of_lt s4 (by decide)))) ?_
  rintro _ _ _ ⟨n10, d10, rfl, hb10, rfl, rfl⟩
  simp only [List.nil_append, List.cons_append]
  repeat' (first | refine go ?_ | refine goX ?_ | refine goB ?_ | (refine goG ?_; intro g) | (refine goV ?_; intro v) | refine goD ?_ | refine goXD ?_ | (refine goDG ?_; intro g) | (refine goDV ?_; intro v) | apply WD.more_of | refine WM.more (by exact rfl) (by exact rfl) (by exact rfl) ?_ ?_ | refine WM.one (by exact rfl) (by exact rfl) (by exact rfl) ?_ | refine WM.more0 (by exact rfl) (by exact rfl) ?_ ?_ | refine WM.one0 (by exact rfl) (by exact rfl) ?_ | (refine goLG ?_; intro g) | (refine goLV ?_; intro v) | refine goLS ?_ | refine d127 ?_ | fail)
  first | refine WL.callK (rmake_c (.agg #[.bool n9, d9]) (.agg #[.bool n10, d10]) (a.num * (b.den : Int) + b.num * (a.den : Int)) ((a.den : Int) * (b.den : Int)) k4 k3) ?_ | refine WD.callK (rmake_c (.agg #[.bool n9, d9]) (.agg #[.bool n10, d10]) (a.num * (b.den : Int) + b.num * (a.den : Int)) ((a.den : Int) * (b.den : Int)) k4 k3) ?_ | refine LO.callM (rmake_c (.agg #[.bool n9, d9]) (.agg #[.bool n10, d10]) (a.num * (b.den : Int) + b.num * (a.den : Int)) ((a.den : Int) * (b.den : Int)) k4 k3) ?_
  rintro _ _ _ ⟨n11, d11, d12, rfl, hb11, rfl, rfl⟩
  simp only [List.nil_append, List.cons_append]
  rw [add_div] at hb11 ⊢
  repeat' (first | refine go ?_ | refine goX ?_ | refine goB ?_ | (refine goG ?_; intro g) | (refine goV ?_; intro v) | refine goD ?_ | refine goXD ?_ | (refine goDG ?_; intro g) | (refine goDV ?_; intro v) | apply WD.more_of | refine WM.more (by exact rfl) (by exact rfl) (by exact rfl) ?_ ?_ | refine WM.one (by exact rfl) (by exact rfl) (by exact rfl) ?_ | refine WM.more0 (by exact rfl) (by exact rfl) ?_ ?_ | refine WM.one0 (by exact rfl) (by exact rfl) ?_ | (refine goLG ?_; intro g) | (refine goLV ?_; intro v) | refine goLS ?_ | refine d127 ?_ | fail)
  refine WC.ret ?_
  exact Fin.p [] [isQ (.agg #[.bool n11, d11, .bool false, d12]) (a + b)] (ResE.cV rfl rfl meA T.r37 rfl) meA (List.nil_sublist _) haA ⟨n11, _, _, rfl, hb11, rfl, rfl⟩
end Rp
end Go.Proofs.YthggloiigkbfeaaGreat
namespace Go.Proofs.YthggloiigkbfeaaGreat
open W Go.RowKit
/-- a denominator -/
class Den (D : Nat) : Prop where
  pos : 0 < D
  le : D ≤ 500000000
/-- k parts of D -/
def wq (D : Nat) (k : Int) : Rat := Rat.divInt k D
/-- a number that is not too big -/
def Lim (k : Int) : Prop := k.natAbs ≤ 500000000
section
variable {D : Nat} [hD : Den D]
theorem Den.ne : (D : Int) ≠ 0 := by have := hD.pos; omega
theorem wq_add (a b : Int) : wq D a + wq D b = wq D (a + b) := by
  unfold wq
  rw [Rat.divInt_add_divInt _ _ Den.ne Den.ne, ← Int.add_mul, Rat.divInt_mul_right Den.ne]
theorem wq_sub (a b : Int) : wq D a - wq D b = wq D (a - b) := by
  unfold wq
  rw [Rat.divInt_sub_divInt _ _ Den.ne Den.ne, ← Int.sub_mul, Rat.divInt_mul_right Den.ne]
theorem wq_neg (a : Int) : -wq D a = wq D (-a) := Rat.neg_divInt _ _
theorem wq_zero : wq D 0 = 0 := Rat.zero_divInt _
theorem wq_num (a : Int) : (wq D a).num * D = a * (wq D a).den := by
  have h := Rat.num_divInt_den (wq D a)
  have h2 : Rat.divInt (wq D a).num ((wq D a).den : Int) = Rat.divInt a (D : Int) := h
  exact (Rat.divInt_eq_divInt_iff (by have := (wq D a).den_nz; omega) Den.ne).1 h2
theorem wq_cmp (a b : Int) : cmpQ (wq D a) (wq D b) = cmpI a b := by
  have ha := @wq_num D hD a
  have hb := @wq_num D hD b
  have h0 : (0 : Int) < D := by have := hD.pos; omega
  have p1 : (0 : Int) < (wq D a).den := by have := (wq D a).den_nz; omega
  have p2 : (0 : Int) < (wq D b).den := by have := (wq D b).den_nz; omega
  unfold cmpQ
  generalize (wq D a).num = x at *
  generalize (wq D b).num = y at *
  generalize ((wq D a).den : Int) = p at *
  generalize ((wq D b).den : Int) = r at *
  generalize (D : Int) = d at *
  have e1 : (x * r) * d = a * (p * r) := by rw [Int.mul_right_comm, ha, Int.mul_assoc]
  have e2 : (y * p) * d = b * (p * r) := by rw [Int.mul_right_comm, hb, Int.mul_assoc, Int.mul_comm r p]
  have pr : 0 < p * r := Int.mul_pos p1 p2
  have hlt : x * r < y * p ↔ a < b := by
    rw [← Int.mul_lt_mul_right h0, e1, e2, Int.mul_lt_mul_right pr]
  have hgt : y * p < x * r ↔ b < a := by
    rw [← Int.mul_lt_mul_right h0, e1, e2, Int.mul_lt_mul_right pr]
  generalize x * r = u at *
  generalize y * p = v at *
  unfold cmpI
  repeat' split
  all_goals omega
theorem wq_inj {a b : Int} : wq D a = wq D b ↔ a = b := by
  rw [← cmpQ_eq, wq_cmp]; unfold cmpI; split <;> (try split) <;> omega
theorem wq_sgn (a : Int) : sgn (wq D a).num = sgn a := by
  have ha := @wq_num D hD a
  have h0 : (0 : Int) < D := by have := hD.pos; omega
  have p1 : (0 : Int) < (wq D a).den := by have := (wq D a).den_nz; omega
  generalize (wq D a).num = x at *
  generalize ((wq D a).den : Int) = p at *
  generalize (D : Int) = d at *
  have h1 : x < 0 ↔ a < 0 := by
    rw [← Int.mul_lt_mul_right h0, ha, Int.zero_mul]
    constructor
    · intro h; by_cases c : a < 0; exact c; have := Int.mul_nonneg (show 0 ≤ a by omega) (Int.le_of_lt p1); omega
    · intro h; exact Int.mul_neg_of_neg_of_pos h p1
  have h2 : 0 < x ↔ 0 < a := by
    rw [← Int.mul_lt_mul_right h0, ha, Int.zero_mul]
    constructor
    · intro h; by_cases c : 0 < a; exact c; have := Int.mul_nonneg (show 0 ≤ -a by omega) (Int.le_of_lt p1); rw [Int.neg_mul] at this; omega
    · intro h; exact Int.mul_pos h p1
  unfold sgn
  repeat' split
  all_goals omega
theorem wq_Sm {a : Int} (h : Lim a) : Sm (wq D a) := by
  unfold Lim at h
  have hp := hD.pos
  have hl := hD.le
  have e : wq D a = mkRat a D := Rat.divInt_ofNat _ _
  rw [e]
  refine ⟨?_, ?_⟩
  · rw [Rat.num_mkRat, if_neg (by omega)]
    have : (a / ((D.gcd a.natAbs : Nat) : Int)).natAbs ≤ a.natAbs := Int.natAbs_ediv_le_natAbs _ _
    omega
  · rw [Rat.den_mkRat, if_neg (by omega)]
    exact Nat.le_trans (Nat.div_le_self _ _) hl
theorem wq_of {p q : Int} {k : Nat} (h : (D : Int) = q * k) (hq : q ≠ 0) : Rat.divInt p q = wq D (p * k) := by
  have hk : (k : Int) ≠ 0 := fun h0 => by rw [h0, Int.mul_zero] at h; exact (Den.ne (D := D)) h
  unfold wq
  rw [h, Rat.divInt_mul_right hk]
end
/-! ## Bounds -/
structure Bd where
  fr : Int
  to : Int
  w : Int
deriving DecidableEq
def bd0 : Bd := ⟨0, 0, 0⟩
abbrev bg (bs : List Bd) (i : Nat) : Bd := bs.getD i bd0
/-- a bound is of n unknowns -/
def Bd.ok (n : Int) (b : Bd) : Prop := (0 ≤ b.fr ∧ b.fr < n) ∧ 0 ≤ b.to ∧ b.to < n
instance (n : Int) (b : Bd) : Decidable (b.ok n) := by unfold Bd.ok; infer_instance
def validB (n : Int) (bs : List Bd) : Bool := decide ((1 ≤ n ∧ n ≤ 32) ∧ bs.length ≤ 2048 ∧ ∀ i, i < bs.length → (bg bs i).ok n)
abbrev QM := Bool × Value × Value
abbrev qcs (m : QM) : List Value := [.bool m.1, m.2.1, .bool false, m.2.2]
abbrev qv (m : QM) : Value := .agg #[.bool m.1, m.2.1, .bool false, m.2.2]
abbrev bcs (b : Bd) (m : QM) : List Value := [.int .i64 b.fr, .int .i64 b.to, .bool m.1, m.2.1, .bool false, m.2.2]
abbrev bv (b : Bd) (m : QM) : Value := .agg #[.int .i64 b.fr, .int .i64 b.to, .bool m.1, m.2.1, .bool false, m.2.2]
abbrev lcs (o : Option Int) (m : QM) : List Value := [.bool o.isSome, .bool m.1, m.2.1, .bool false, m.2.2]
abbrev lv (o : Option Int) (m : QM) : Value := .agg #[.bool o.isSome, .bool m.1, m.2.1, .bool false, m.2.2]
def m00 : QM := (false, .slice none 0 0, .slice none 0 0)
def qcell (ms : Nat → QM) (j : Nat) : Value := (qcs (ms (j / 4))).getD (j % 4) undef
def bcell (bs : List Bd) (ms : Nat → QM) (j : Nat) : Value := (bcs (bg bs (j / 6)) (ms (j / 6))).getD (j % 6) undef
def lcell (L : List (Option Int)) (ms : Nat → QM) (j : Nat) : Value := (lcs (L.getD (j / 5) none) (ms (j / 5))).getD (j % 5) undef
theorem qcell_at (ms : Nat → QM) (k : Nat) {r : Nat} (hr : r < 4) : qcell ms (k * 4 + r) = (qcs (ms k)).getD r undef := by
  unfold qcell; rw [show (k * 4 + r) / 4 = k by omega, show (k * 4 + r) % 4 = r by omega]
theorem bcell_at (bs : List Bd) (ms : Nat → QM) (k : Nat) {r : Nat} (hr : r < 6) : bcell bs ms (k * 6 + r) = (bcs (bg bs k) (ms k)).getD r undef := by
  unfold bcell; rw [show (k * 6 + r) / 6 = k by omega, show (k * 6 + r) % 6 = r by omega]
theorem lcell_at (L : List (Option Int)) (ms : Nat → QM) (k : Nat) {r : Nat} (hr : r < 5) : lcell L ms (k * 5 + r) = (lcs (L.getD k none) (ms k)).getD r undef := by
  unfold lcell; rw [show (k * 5 + r) / 5 = k by omega, show (k * 5 + r) % 5 = r by omega]
/-- all of these numbers are in memory -/
def mQ (D : Nat) (ms : Nat → QM) (qs : List Int) : Fct where
  p h := ∀ i, i < qs.length → (isQ (qv (ms i)) (wq D (qs.getD i 0))).p h
  mono _ _ hl hp i hi := (isQ _ _).mono _ _ hl (hp i hi)
def mB (D : Nat) (ms : Nat → QM) (bs : List Bd) : Fct where
  p h := ∀ i, i < bs.length → (isQ (qv (ms i)) (wq D (bg bs i).w)).p h
  mono _ _ hl hp i hi := (isQ _ _).mono _ _ hl (hp i hi)
def mL (D : Nat) (ms : Nat → QM) (L : List (Option Int)) : Fct where
  p h := ∀ i, i < L.length → (isQ (qv (ms i)) (wq D ((L.getD i none).getD 0))).p h
  mono _ _ hl hp i hi := (isQ _ _).mono _ _ hl (hp i hi)
/-- v is a slice of these numbers -/
def fR (D : Nat) (v : Value) (ms : Nat → QM) (qs : List Int) : Fct where
  p h := (slC v qs.length 4 (qcell ms)).p h ∧ (mQ D ms qs).p h
  mono _ _ hl hp := ⟨(slC _ _ _ _).mono _ _ hl hp.1, (mQ _ _ _).mono _ _ hl hp.2⟩
def fB (D : Nat) (v : Value) (ms : Nat → QM) (bs : List Bd) : Fct where
  p h := (slC v bs.length 6 (bcell bs ms)).p h ∧ (mB D ms bs).p h
  mono _ _ hl hp := ⟨(slC _ _ _ _).mono _ _ hl hp.1, (mB _ _ _).mono _ _ hl hp.2⟩
def fL (D : Nat) (v : Value) (ms : Nat → QM) (L : List (Option Int)) : Fct where
  p h := (slC v L.length 5 (lcell L ms)).p h ∧ (mL D ms L).p h
  mono _ _ hl hp := ⟨(slC _ _ _ _).mono _ _ hl hp.1, (mL _ _ _).mono _ _ hl hp.2⟩
/-- both -/
def andF (f g : Fct) : Fct where
  p h := f.p h ∧ g.p h
  mono _ _ hl hp := ⟨f.mono _ _ hl hp.1, g.mono _ _ hl hp.2⟩
section
variable {D : Nat} {F : List Fct} {bx : List Ow} {v : Value} {ms : Nat → QM} {qs : List Int} {bs : List Bd} {L : List (Option Int)} {k : Nat} {f g : Fct}
theorem W.Has.l (h : Has F (andF f g)) : Has F f := fun p hf => (h p hf).1
theorem W.Has.r (h : Has F (andF f g)) : Has F g := fun p hf => (h p hf).2
theorem W.Has.and (h : Has F f) (h2 : Has F g) : Has F (andF f g) := fun p hf => ⟨h p hf, h2 p hf⟩
theorem W.HasB.and (h : HasB bx F f) (h2 : HasB bx F g) : HasB bx F (andF f g) := fun fr w ho => ⟨h fr w ho, h2 fr w ho⟩
theorem W.Has.rs (h : Has F (fR D v ms qs)) : Has F (slC v qs.length 4 (qcell ms)) := fun p hf => (h p hf).1
theorem W.Has.rm (h : Has F (fR D v ms qs)) : Has F (mQ D ms qs) := fun p hf => (h p hf).2
theorem W.Has.bsl (h : Has F (fB D v ms bs)) : Has F (slC v bs.length 6 (bcell bs ms)) := fun p hf => (h p hf).1
theorem W.Has.bm (h : Has F (fB D v ms bs)) : Has F (mB D ms bs) := fun p hf => (h p hf).2
theorem W.Has.ls (h : Has F (fL D v ms L)) : Has F (slC v L.length 5 (lcell L ms)) := fun p hf => (h p hf).1
theorem W.Has.lm (h : Has F (fL D v ms L)) : Has F (mL D ms L) := fun p hf => (h p hf).2
theorem W.Has.q (h : Has F (mQ D ms qs)) (hk : k < qs.length) : Has F (isQ (qv (ms k)) (wq D (qs.getD k 0))) := fun p hf => h p hf k hk
theorem W.Has.b (h : Has F (mB D ms bs)) (hk : k < bs.length) : Has F (isQ (qv (ms k)) (wq D (bg bs k).w)) := fun p hf => h p hf k hk
theorem W.Has.lq (h : Has F (mL D ms L)) (hk : k < L.length) : Has F (isQ (qv (ms k)) (wq D ((L.getD k none).getD 0))) := fun p hf => h p hf k hk
theorem KnS.fr (h : Has F (fR D v ms qs)) : KnS bx F v qs.length := KnS.f h.rs
theorem KnS.fb (h : Has F (fB D v ms bs)) : KnS bx F v bs.length := KnS.f h.bsl
theorem KnS.fl (h : Has F (fL D v ms L)) : KnS bx F v L.length := KnS.f h.ls
variable {P : Program} {e : Env} {ty t : TypeId} {x : Operand}
theorem YO.ldR (hs : Row P t 4) (hx : ev e x = some (.pointer (some (eaddr v (k * 4))))) (hf : Has F (fR D v ms qs)) (hk : k < qs.length) : YO P (.load t x) ty e bx F (qv (ms k)) :=
  YO.ldRS (us := qcs (ms k)) hs hx hf.rs (by omega) rfl fun i hi => by
    rw [qcell_at _ _ hi]
    match i, hi with | 0, _ => rfl | 1, _ => rfl | 2, _ => rfl | 3, _ => rfl
theorem YO.ldBd (hs : Row P t 6) (hx : ev e x = some (.pointer (some (eaddr v (k * 6))))) (hf : Has F (fB D v ms bs)) (hk : k < bs.length) : YO P (.load t x) ty e bx F (bv (bg bs k) (ms k)) :=
  YO.ldRS (us := bcs (bg bs k) (ms k)) hs hx hf.bsl (by omega) rfl fun i hi => by
    rw [bcell_at _ _ _ hi]
    match i, hi with | 0, _ => rfl | 1, _ => rfl | 2, _ => rfl | 3, _ => rfl | 4, _ => rfl | 5, _ => rfl
theorem YO.ldBq (hs : Row P t 4) (hx : ev e x = some (.pointer (some (eaddr v (k * 6 + 2))))) (hf : Has F (fB D v ms bs)) (hk : k < bs.length) : YO P (.load t x) ty e bx F (qv (ms k)) :=
  YO.ldRS (us := qcs (ms k)) hs hx hf.bsl (by omega) rfl fun i hi => by
    rw [Nat.add_assoc, bcell_at _ _ _ (by omega)]
    match i, hi with | 0, _ => rfl | 1, _ => rfl | 2, _ => rfl | 3, _ => rfl
theorem YO.ldBf (hs : Scalar P t) (hx : ev e x = some (.pointer (some (eaddr v (k * 6 + 0))))) (hf : Has F (fB D v ms bs)) (hk : k < bs.length) : YO P (.load t x) ty e bx F (.int .i64 (bg bs k).fr) := by
  have := YO.ldS (ty := ty) (bx := bx) hs hx hf.bsl (by omega)
  rwa [bcell_at _ _ _ (by omega)] at this
theorem YO.ldBt (hs : Scalar P t) (hx : ev e x = some (.pointer (some (eaddr v (k * 6 + 1))))) (hf : Has F (fB D v ms bs)) (hk : k < bs.length) : YO P (.load t x) ty e bx F (.int .i64 (bg bs k).to) := by
  have := YO.ldS (ty := ty) (bx := bx) hs hx hf.bsl (by omega)
  rwa [bcell_at _ _ _ (by omega)] at this
theorem YO.ldLn (hs : Row P t 5) (hx : ev e x = some (.pointer (some (eaddr v (k * 5))))) (hf : Has F (fL D v ms L)) (hk : k < L.length) : YO P (.load t x) ty e bx F (lv (L.getD k none) (ms k)) :=
  YO.ldRS (us := lcs (L.getD k none) (ms k)) hs hx hf.ls (by omega) rfl fun i hi => by
    rw [lcell_at _ _ _ hi]
    match i, hi with | 0, _ => rfl | 1, _ => rfl | 2, _ => rfl | 3, _ => rfl | 4, _ => rfl
theorem YO.ldLb (hs : Scalar P t) (hx : ev e x = some (.pointer (some (eaddr v (k * 5 + 0))))) (hf : Has F (fL D v ms L)) (hk : k < L.length) : YO P (.load t x) ty e bx F (.bool (L.getD k none).isSome) := by
  have := YO.ldS (ty := ty) (bx := bx) hs hx hf.ls (by omega)
  rwa [lcell_at _ _ _ (by omega)] at this
theorem YO.ldLq (hs : Row P t 4) (hx : ev e x = some (.pointer (some (eaddr v (k * 5 + 1))))) (hf : Has F (fL D v ms L)) (hk : k < L.length) : YO P (.load t x) ty e bx F (qv (ms k)) :=
  YO.ldRS (us := qcs (ms k)) hs hx hf.ls (by omega) rfl fun i hi => by
    rw [Nat.add_assoc, lcell_at _ _ _ (by omega)]
    match i, hi with | 0, _ => rfl | 1, _ => rfl | 2, _ => rfl | 3, _ => rfl
end
end Go.Proofs.YthggloiigkbfeaaGreat
namespace Go.Proofs.YthggloiigkbfeaaGreat
open W Go.RowKit
def cellsF (n : Nat) (f : Nat → Value) : List Value := (List.range n).map f
theorem cellsF_len (n : Nat) (f : Nat → Value) : (cellsF n f).length = n := by simp [cellsF]
theorem cellsF_get {n : Nat} {f : Nat → Value} {j : Nat} (h : j < n) : (cellsF n f)[j]? = some (f j) := by simp [cellsF, h]
theorem cellsF_ext {n : Nat} {f : Nat → Value} {l : List Value} (hl : l.length = n) (h : ∀ j, j < n → l[j]? = some (f j)) : l = cellsF n f := by
  apply List.ext_getElem?
  intro j
  by_cases hj : j < n
  · rw [h j hj, cellsF_get hj]
  · rw [List.getElem?_eq_none (by omega), List.getElem?_eq_none (by rw [cellsF_len]; omega)]
theorem setMany_get {cs vs : List Value} {q j : Nat} (h : q + vs.length ≤ cs.length) : (setMany cs q vs)[j]? = if q ≤ j ∧ j < q + vs.length then vs[j - q]? else cs[j]? := by
  unfold setMany
  by_cases h1 : j < q
  · rw [if_neg (by omega), List.append_assoc, List.getElem?_append_left (by simp; omega), List.getElem?_take, if_pos h1]
  · by_cases h2 : j < q + vs.length
    · rw [if_pos ⟨by omega, h2⟩, List.getElem?_append_left (by simp; omega), List.getElem?_append_right (by simp; omega)]
      simp only [List.length_take]; rw [Nat.min_eq_left (by omega)]
    · rw [if_neg (by omega), List.getElem?_append_right (by simp; omega), List.getElem?_drop]
      simp only [List.length_append, List.length_take]; rw [Nat.min_eq_left (by omega)]
      congr 1; omega
def upd {α : Type} (ms : Nat → α) (k : Nat) (m : α) : Nat → α := fun i => if i = k then m else ms i
theorem upd_at {α : Type} {ms : Nat → α} {k : Nat} {m : α} : upd ms k m k = m := by simp [upd]
theorem upd_ne {α : Type} {ms : Nat → α} {k i : Nat} {m : α} (h : i ≠ k) : upd ms k m i = ms i := by simp [upd, h]
abbrev qcells (n : Nat) (ms : Nat → QM) : List Value := cellsF (n * 4) (qcell ms)
abbrev bcells (bs : List Bd) (ms : Nat → QM) : List Value := cellsF (bs.length * 6) (bcell bs ms)
abbrev lcells (L : List (Option Int)) (ms : Nat → QM) : List Value := cellsF (L.length * 5) (lcell L ms)
theorem row_get {l : List Value} {n r : Nat} (hl : l.length = n) (hr : r < n) : l[r]? = some (l.getD r undef) := by
  simp [List.getD_eq_getElem?_getD, hl ▸ hr]
section
variable {n k : Nat} {ms : Nat → QM} {m : QM} {bs : List Bd} {b : Bd} {L : List (Option Int)} {o : Option Int}
theorem qcells_set (h : k < n) : setMany (qcells n ms) (k * 4) (qcs m) = qcells n (upd ms k m) := by
  have hle : k * 4 + (qcs m).length ≤ (qcells n ms).length := by rw [cellsF_len]; show k * 4 + 4 ≤ n * 4; omega
  refine cellsF_ext (by rw [setMany_len hle, cellsF_len]) fun j hj => ?_
  rw [setMany_get hle]
  show (if k * 4 ≤ j ∧ j < k * 4 + 4 then _ else _) = _
  split
  · rw [row_get (n := 4) rfl (by omega)]
    unfold qcell
    rw [show j / 4 = k by omega, upd_at, show j % 4 = j - k * 4 by omega]
  · rw [cellsF_get hj]; unfold qcell; rw [upd_ne (by omega)]
theorem qcells_app : qcells n ms ++ qcs m = qcells (n + 1) (upd ms n m) := by
  refine cellsF_ext (by rw [List.length_append, cellsF_len]; show n * 4 + 4 = _; omega) fun j hj => ?_
  by_cases h : j < n * 4
  · rw [List.getElem?_append_left (by rw [cellsF_len]; exact h), cellsF_get h]; unfold qcell; rw [upd_ne (by omega)]
  · rw [List.getElem?_append_right (by rw [cellsF_len]; omega), cellsF_len, row_get (n := 4) rfl (by omega)]
    unfold qcell; rw [show j / 4 = n by omega, upd_at, show j % 4 = j - n * 4 by omega]
theorem lcells_set (h : k < L.length) : setMany (lcells L ms) (k * 5) (lcs o m) = lcells (L.set k o) (upd ms k m) := by
  have hle : k * 5 + (lcs o m).length ≤ (lcells L ms).length := by rw [cellsF_len]; show k * 5 + 5 ≤ L.length * 5; omega
  refine cellsF_ext (by rw [setMany_len hle, cellsF_len, List.length_set]) fun j hj => ?_
  rw [List.length_set] at hj
  rw [setMany_get hle]
  show (if k * 5 ≤ j ∧ j < k * 5 + 5 then _ else _) = _
  split
  · rw [row_get (n := 5) rfl (by omega)]
    unfold lcell
    rw [show j / 5 = k by omega, upd_at, show j % 5 = j - k * 5 by omega]
    simp [List.getD_eq_getElem?_getD, h]
  · rw [cellsF_get hj]; unfold lcell; rw [upd_ne (by omega)]
    simp only [List.getD_eq_getElem?_getD]; rw [List.getElem?_set_ne (by omega)]
theorem bcells_app : bcells bs ms ++ bcs b m = bcells (bs ++ [b]) (upd ms bs.length m) := by
  refine cellsF_ext (by rw [List.length_append, cellsF_len, List.length_append]; show bs.length * 6 + 6 = (bs.length + 1) * 6; omega) fun j hj => ?_
  rw [List.length_append, List.length_singleton] at hj
  by_cases h : j < bs.length * 6
  · rw [List.getElem?_append_left (by rw [cellsF_len]; exact h), cellsF_get h]; unfold bcell bg; rw [upd_ne (by omega)]
    simp only [List.getD_eq_getElem?_getD]; rw [List.getElem?_append_left (by omega)]
  · rw [List.getElem?_append_right (by rw [cellsF_len]; omega), cellsF_len, row_get (n := 6) rfl (by omega)]
    unfold bcell bg; rw [show j / 6 = bs.length by omega, upd_at, show j % 6 = j - bs.length * 6 by omega]
    simp [List.getD_eq_getElem?_getD]
theorem bcells_ext {l : List Value} {bs' : List Bd} {ms' : Nat → QM} (hl : l.length = bs'.length * 6) (h : ∀ i, i < bs'.length → ∀ r, r < 6 → l[i * 6 + r]? = some ((bcs (bg bs' i) (ms' i)).getD r undef)) : l = bcells bs' ms' :=
  cellsF_ext hl fun j hj => by
    have := h (j / 6) (by omega) (j % 6) (by omega)
    rw [show j / 6 * 6 + j % 6 = j by omega] at this
    rw [this]; rfl
theorem bcells_get {i r : Nat} (hi : i < bs.length) (hr : r < 6) : (bcells bs ms)[i * 6 + r]? = some ((bcs (bg bs i) (ms i)).getD r undef) := by
  rw [cellsF_get (by omega), bcell_at _ _ _ hr]
theorem bg_set {i : Nat} (h : k < bs.length) : bg (bs.set k b) i = if i = k then b else bg bs i := by
  unfold bg
  simp only [List.getD_eq_getElem?_getD, List.getElem?_set]
  by_cases c : k = i
  · subst c; simp [h]
  · rw [if_neg c, if_neg (fun h => c h.symm)]
/-- a number of a bound is stored anew -/
theorem bcells_setq (h : k < bs.length) (w : Int) : setMany (bcells bs ms) (k * 6 + 2) (qcs m) = bcells (bs.set k { bg bs k with w := w }) (upd ms k m) := by
  have hle : k * 6 + 2 + (qcs m).length ≤ (bcells bs ms).length := by rw [cellsF_len]; show k * 6 + 2 + 4 ≤ bs.length * 6; omega
  refine bcells_ext (by rw [setMany_len hle, cellsF_len, List.length_set]) fun i hi r hr => ?_
  rw [List.length_set] at hi
  rw [setMany_get hle, bg_set h]
  show (if k * 6 + 2 ≤ i * 6 + r ∧ i * 6 + r < k * 6 + 2 + 4 then _ else _) = _
  by_cases c : i = k
  · subst c
    rw [if_pos rfl, upd_at]
    match r, hr with
    | 0, _ => rw [if_neg (by omega), bcells_get hi (by omega)]; rfl
    | 1, _ => rw [if_neg (by omega), bcells_get hi (by omega)]; rfl
    | 2, _ => rw [if_pos (by omega), show i * 6 + 2 - (i * 6 + 2) = 0 by omega]; rfl
    | 3, _ => rw [if_pos (by omega), show i * 6 + 3 - (i * 6 + 2) = 1 by omega]; rfl
    | 4, _ => rw [if_pos (by omega), show i * 6 + 4 - (i * 6 + 2) = 2 by omega]; rfl
    | 5, _ => rw [if_pos (by omega), show i * 6 + 5 - (i * 6 + 2) = 3 by omega]; rfl
  · rw [if_neg (by omega), bcells_get hi hr, if_neg c, upd_ne c]
theorem bcells_setf (h : k < bs.length) (x : Int) : (bcells bs ms).set (k * 6 + 0) (.int .i64 x) = bcells (bs.set k { bg bs k with fr := x }) ms := by
  refine bcells_ext (by rw [List.length_set, cellsF_len, List.length_set]) fun i hi r hr => ?_
  rw [List.length_set] at hi
  rw [List.getElem?_set, bg_set h, cellsF_len]
  by_cases c : k * 6 + 0 = i * 6 + r
  · obtain rfl : i = k := by omega
    obtain rfl : r = 0 := by omega
    rw [if_pos rfl, if_pos rfl, if_pos (by omega)]; rfl
  · rw [if_neg c, bcells_get hi hr]
    by_cases c2 : i = k
    · subst c2
      rw [if_pos rfl]
      match r, hr with
      | 0, _ => omega
      | 1, _ => rfl
      | 2, _ => rfl
      | 3, _ => rfl
      | 4, _ => rfl
      | 5, _ => rfl
    · rw [if_neg c2]
theorem bcells_sett (h : k < bs.length) (x : Int) : (bcells bs ms).set (k * 6 + 1) (.int .i64 x) = bcells (bs.set k { bg bs k with to := x }) ms := by
  refine bcells_ext (by rw [List.length_set, cellsF_len, List.length_set]) fun i hi r hr => ?_
  rw [List.length_set] at hi
  rw [List.getElem?_set, bg_set h, cellsF_len]
  by_cases c : k * 6 + 1 = i * 6 + r
  · obtain rfl : i = k := by omega
    obtain rfl : r = 1 := by omega
    rw [if_pos rfl, if_pos rfl, if_pos (by omega)]; rfl
  · rw [if_neg c, bcells_get hi hr]
    by_cases c2 : i = k
    · subst c2
      rw [if_pos rfl]
      match r, hr with
      | 0, _ => rfl
      | 1, _ => omega
      | 2, _ => rfl
      | 3, _ => rfl
      | 4, _ => rfl
      | 5, _ => rfl
    · rw [if_neg c2]
theorem lcells_true (h : k < L.length) (x : Int) : (lcells L ms).set (k * 5 + 0) (.bool true) = lcells (L.set k (some x)) ms := by
  refine cellsF_ext (by rw [List.length_set, cellsF_len, List.length_set]) fun j hj => ?_
  rw [List.length_set] at hj
  rw [List.getElem?_set, cellsF_len]
  unfold lcell
  simp only [List.getD_eq_getElem?_getD, List.getElem?_set]
  by_cases c : k * 5 + 0 = j
  · subst c
    rw [if_pos rfl, if_pos hj, show (k * 5 + 0) / 5 = k by omega, show (k * 5 + 0) % 5 = 0 by omega, if_pos rfl, if_pos h]; rfl
  · rw [if_neg c, cellsF_get hj]
    unfold lcell
    simp only [List.getD_eq_getElem?_getD]
    by_cases c2 : k = j / 5
    · rw [if_pos c2, if_pos (by omega)]
      have h1 : j % 5 = 1 ∨ j % 5 = 2 ∨ j % 5 = 3 ∨ j % 5 = 4 := by omega
      rcases h1 with h1 | h1 | h1 | h1 <;> rw [h1] <;> rfl
    · rw [if_neg c2]
end
theorem madeF (n sz : Nat) (z : Value) (f : Nat → Value) (hz : z.cells.size = sz) (h0 : 0 < sz) (h : ∀ j, z.cells[j % sz]? = some (f j)) : (madeCells z.cells (n * sz)).toList = cellsF (n * sz) f := by
  refine cellsF_ext (by simp [madeCells]) fun j hj => ?_
  have hm : j % sz < z.cells.size := by rw [hz]; exact Nat.mod_lt _ h0
  have h2 := h j
  rw [Array.getElem?_eq_getElem hm] at h2
  simp only [Option.some.injEq] at h2
  subst hz
  simp [madeCells, hj, ← h2, getElem!_pos, hm]
theorem made_q (n : Nat) : (madeCells (Value.agg #[.bool false, .slice none 0 0, .bool false, .slice none 0 0]).cells (n * 4)).toList = qcells n (fun _ => m00) :=
  madeF n 4 _ _ rfl (by decide) fun j => by
    unfold qcell
    have h1 : j % 4 = 0 ∨ j % 4 = 1 ∨ j % 4 = 2 ∨ j % 4 = 3 := by omega
    rcases h1 with h1 | h1 | h1 | h1 <;> rw [h1] <;> rfl
theorem made_l (n : Nat) : (madeCells (Value.agg #[.bool false, .bool false, .slice none 0 0, .bool false, .slice none 0 0]).cells (n * 5)).toList = lcells (List.replicate n none) (fun _ => m00) := by
  have := madeF n 5 (Value.agg #[.bool false, .bool false, .slice none 0 0, .bool false, .slice none 0 0]) (lcell (List.replicate n none) (fun _ => m00)) rfl (by decide) fun j => by
    unfold lcell
    rw [show (List.replicate n (none : Option Int)).getD (j / 5) none = none by simp only [List.getD_eq_getElem?_getD, List.getElem?_replicate]; split <;> rfl]
    have h1 : j % 5 = 0 ∨ j % 5 = 1 ∨ j % 5 = 2 ∨ j % 5 = 3 ∨ j % 5 = 4 := by omega
    rcases h1 with h1 | h1 | h1 | h1 | h1 <;> rw [h1] <;> rfl
  rw [this]; unfold lcells; rw [List.length_replicate]
end Go.Proofs.YthggloiigkbfeaaGreat
namespace Go.Proofs.YthggloiigkbfeaaGreat
open W Go.RowKit
variable {P : Program} {e : Env} {bx bx' : List Ow} {F : List Fct} {ty t el : TypeId} {v u : Value} {x y : Operand} {D n k : Nat} {ms : Nat → QM} {m : QM} {bs : List Bd} {b : Bd} {L : List (Option Int)} {o : Option Int} {qs : List Int} {z : Int} {q : Rat} {K : RPost}
theorem KnS.oR (h : Ow.slice v el 4 (qcells n ms) ∈ bx) : KnS bx F v n := KnS.o h (cellsF_len _ _) (by decide)
theorem KnS.oB (h : Ow.slice v el 6 (bcells bs ms) ∈ bx) : KnS bx F v bs.length := KnS.o h (cellsF_len _ _) (by decide)
theorem KnS.oL (h : Ow.slice v el 5 (lcells L ms) ∈ bx) : KnS bx F v L.length := KnS.o h (cellsF_len _ _) (by decide)
theorem YO.ldOR (hs : Row P t 4) (hx : ev e x = some (.pointer (some (eaddr v (k * 4))))) (hb : Ow.slice v el 4 (qcells n ms) ∈ bx) (hk : k < n) : YO P (.load t x) ty e bx F (qv (ms k)) :=
  YO.ldRO (us := qcs (ms k)) hs hx hb rfl fun i hi => by
    rw [cellsF_get (by omega), qcell_at _ _ hi, row_get (n := 4) rfl hi]
theorem YO.ldOBd (hs : Row P t 6) (hx : ev e x = some (.pointer (some (eaddr v (k * 6))))) (hb : Ow.slice v el 6 (bcells bs ms) ∈ bx) (hk : k < bs.length) : YO P (.load t x) ty e bx F (bv (bg bs k) (ms k)) :=
  YO.ldRO (us := bcs (bg bs k) (ms k)) hs hx hb rfl fun i hi => by
    rw [cellsF_get (by omega), bcell_at _ _ _ hi, row_get (n := 6) rfl hi]
theorem YO.ldOBq (hs : Row P t 4) (hx : ev e x = some (.pointer (some (eaddr v (k * 6 + 2))))) (hb : Ow.slice v el 6 (bcells bs ms) ∈ bx) (hk : k < bs.length) : YO P (.load t x) ty e bx F (qv (ms k)) :=
  YO.ldRO (us := qcs (ms k)) hs hx hb rfl fun i hi => by
    rw [Nat.add_assoc, cellsF_get (by omega), bcell_at _ _ _ (by omega)]
    match i, hi with | 0, _ => rfl | 1, _ => rfl | 2, _ => rfl | 3, _ => rfl
theorem YO.ldOL (hs : Row P t 5) (hx : ev e x = some (.pointer (some (eaddr v (k * 5))))) (hb : Ow.slice v el 5 (lcells L ms) ∈ bx) (hk : k < L.length) : YO P (.load t x) ty e bx F (lv (L.getD k none) (ms k)) :=
  YO.ldRO (us := lcs (L.getD k none) (ms k)) hs hx hb rfl fun i hi => by
    rw [cellsF_get (by omega), lcell_at _ _ _ hi, row_get (n := 5) rfl hi]
/-- a whole variable that is a fact -/
theorem YO.ldWf {tg g m : Nat} {cs : List Value} (hs : Row P t m) (hx : ev e x = some (.pointer (some ⟨g, 0, none⟩))) (hb : Has F (ce g tg cs)) (hm : cs.length = m) : YO P (.load t x) ty e bx F (.agg cs.toArray) :=
  YO.ldRow (by subst hm; exact hs) hx rfl fun fr w ho i v hv => by
    rw [ce_cell ho hb]; simpa using hv
/-- the cells of a number -/
theorem one_q (hq : Has F (isQ (qv m) q)) : OneL bx F (qcs m) :=
  .cons (One.lit rfl rfl) (.cons (One.sl (KnS.q1 hq)) (.cons (One.lit rfl rfl) (.cons (One.sl (KnS.q2 hq)) .nil)))
theorem LO.storeQ (hx : ev e x = some (.pointer (some (eaddr v (k * 4))))) (hy : ev e y = some (qv m)) (hr : Row P t 4) (hq : Has F (isQ (qv m) q)) (hs : Sel bx (.slice v el 4 (qcells n ms)) (.slice v el 4 (qcells n (upd ms k m))) bx') (hk : k < n)
    (h : K undef bx' F) : LO P (.store t x y) ty e bx F K :=
  LO.storeOR (vs := qcs m) hx hy hr (one_q hq) hs (by rw [cellsF_len]; show k * 4 + 4 ≤ n * 4; omega) (by simp) (qcells_set hk) h
theorem LO.storeL1 (hx : ev e x = some (.pointer (some (eaddr v (k * 5))))) (hy : ev e y = some (.agg #[.bool true, .bool m.1, m.2.1, .bool false, m.2.2])) (hr : Row P t 5) (hq : Has F (isQ (qv m) (wq D z))) (hs : Sel bx (.slice v el 5 (lcells L ms)) (.slice v el 5 (lcells (L.set k (some z)) (upd ms k m))) bx') (hk : k < L.length)
    (h : K undef bx' F) : LO P (.store t x y) ty e bx F K :=
  LO.storeOR (vs := lcs (some z) m) hx hy hr (.cons (One.lit rfl rfl) (one_q hq)) hs (by rw [cellsF_len]; show k * 5 + 5 ≤ L.length * 5; omega) (by simp) (lcells_set hk) h
theorem LO.storeLt (z : Int) (hx : ev e x = some (.pointer (some (eaddr v (k * 5 + 0))))) (hy : ev e y = some (.bool true)) (hz : (P.info? t).map (·.size) = some 1) (hs : Sel bx (.slice v el 5 (lcells L ms)) (.slice v el 5 (lcells (L.set k (some z)) ms)) bx') (hk : k < L.length)
    (h : K undef bx' F) : LO P (.store t x y) ty e bx F K :=
  LO.storeO1 hx hy hz (One.lit rfl rfl) hs (by rw [cellsF_len]; omega) (lcells_true hk z) h
theorem LO.storeBq (w : Int) (hx : ev e x = some (.pointer (some (eaddr v (k * 6 + 2))))) (hy : ev e y = some (qv m)) (hr : Row P t 4) (hq : Has F (isQ (qv m) (wq D w))) (hs : Sel bx (.slice v el 6 (bcells bs ms)) (.slice v el 6 (bcells (bs.set k { bg bs k with w := w }) (upd ms k m))) bx') (hk : k < bs.length)
    (h : K undef bx' F) : LO P (.store t x y) ty e bx F K :=
  LO.storeOR (vs := qcs m) hx hy hr (one_q hq) hs (by rw [cellsF_len]; show k * 6 + 2 + 4 ≤ bs.length * 6; omega) (by simp) (bcells_setq hk w) h
theorem LO.storeBf (hx : ev e x = some (.pointer (some (eaddr v (k * 6 + 0))))) (hy : ev e y = some (.int .i64 z)) (hz : (P.info? t).map (·.size) = some 1) (hs : Sel bx (.slice v el 6 (bcells bs ms)) (.slice v el 6 (bcells (bs.set k { bg bs k with fr := z }) ms)) bx') (hk : k < bs.length)
    (h : K undef bx' F) : LO P (.store t x y) ty e bx F K :=
  LO.storeO1 hx hy hz (One.lit rfl rfl) hs (by rw [cellsF_len]; omega) (bcells_setf hk z) h
theorem LO.storeBt (hx : ev e x = some (.pointer (some (eaddr v (k * 6 + 1))))) (hy : ev e y = some (.int .i64 z)) (hz : (P.info? t).map (·.size) = some 1) (hs : Sel bx (.slice v el 6 (bcells bs ms)) (.slice v el 6 (bcells (bs.set k { bg bs k with to := z }) ms)) bx') (hk : k < bs.length)
    (h : K undef bx' F) : LO P (.store t x y) ty e bx F K :=
  LO.storeO1 hx hy hz (One.lit rfl rfl) hs (by rw [cellsF_len]; omega) (bcells_sett hk z) h
/-! ## All of the numbers -/
theorem W.Has.mQset (h : Has F (mQ D ms qs)) (hm : Has F (isQ (qv m) (wq D z))) : Has F (mQ D (upd ms k m) (qs.set k z)) := fun p hf i hi => by
  rw [List.length_set] at hi
  by_cases c : i = k
  · subst c; rw [upd_at]; simpa [List.getD_eq_getElem?_getD, hi] using hm p hf
  · rw [upd_ne c]; have := h p hf i hi
    simpa [List.getD_eq_getElem?_getD, List.getElem?_set_ne (Ne.symm c)] using this
theorem W.Has.mQapp (h : Has F (mQ D ms qs)) (hm : Has F (isQ (qv m) (wq D z))) : Has F (mQ D (upd ms qs.length m) (qs ++ [z])) := fun p hf i hi => by
  rw [List.length_append, List.length_singleton] at hi
  by_cases c : i = qs.length
  · subst c; rw [upd_at]; simpa [List.getD_eq_getElem?_getD] using hm p hf
  · rw [upd_ne c]; have := h p hf i (by omega)
    simpa [List.getD_eq_getElem?_getD, List.getElem?_append_left (show i < qs.length by omega)] using this
theorem W.Has.mLset (h : Has F (mL D ms L)) (hm : Has F (isQ (qv m) (wq D z))) : Has F (mL D (upd ms k m) (L.set k (some z))) := fun p hf i hi => by
  rw [List.length_set] at hi
  by_cases c : i = k
  · subst c; rw [upd_at]; simpa [List.getD_eq_getElem?_getD, hi] using hm p hf
  · rw [upd_ne c]; have := h p hf i hi
    simpa [List.getD_eq_getElem?_getD, List.getElem?_set_ne (Ne.symm c)] using this
theorem W.Has.mBapp (h : Has F (mB D ms bs)) (hm : Has F (isQ (qv m) (wq D b.w))) : Has F (mB D (upd ms bs.length m) (bs ++ [b])) := fun p hf i hi => by
  rw [List.length_append, List.length_singleton] at hi
  by_cases c : i = bs.length
  · subst c; rw [upd_at]; simpa [bg, List.getD_eq_getElem?_getD] using hm p hf
  · rw [upd_ne c]; have := h p hf i (by omega)
    simpa [bg, List.getD_eq_getElem?_getD, List.getElem?_append_left (show i < bs.length by omega)] using this
theorem W.Has.mBset (h : Has F (mB D ms bs)) (hm : Has F (isQ (qv m) (wq D b.w))) (hk : k < bs.length) : Has F (mB D (upd ms k m) (bs.set k b)) := fun p hf i hi => by
  rw [List.length_set] at hi
  rw [bg_set hk]
  by_cases c : i = k
  · subst c; rw [upd_at, if_pos rfl]; exact hm p hf
  · rw [upd_ne c, if_neg c]; exact h p hf i hi
theorem W.Has.mBsame {bs' : List Bd} (h : Has F (mB D ms bs)) (hl : bs'.length = bs.length) (hw : ∀ i, i < bs.length → (bg bs' i).w = (bg bs i).w) : Has F (mB D ms bs') := fun p hf i hi => by
  rw [hw i (by omega)]; exact h p hf i (by omega)
theorem hasQ0 : Has F (isQ (qv m00) 0) := hasQ_0
theorem hasQ0w [Den D] : Has F (isQ (qv m00) (wq D 0)) := by rw [wq_zero]; exact hasQ_0
theorem hasmQ0 [Den D] (n : Nat) : Has F (mQ D (fun _ => m00) (List.replicate n 0)) := fun p hf i hi => by
  rw [show (List.replicate n (0 : Int)).getD i 0 = 0 by simp only [List.getD_eq_getElem?_getD, List.getElem?_replicate]; split <;> rfl]
  exact hasQ0w p hf
theorem hasmL0 [Den D] (n : Nat) : Has F (mL D (fun _ => m00) (List.replicate n none)) := fun p hf i hi => by
  rw [show (List.replicate n (none : Option Int)).getD i none = none by simp only [List.getD_eq_getElem?_getD, List.getElem?_replicate]; split <;> rfl]
  exact hasQ0w p hf
theorem hasmQn (ms : Nat → QM) : Has F (mQ D ms []) := fun p hf i hi => absurd hi (by simp)
theorem hasmBn (ms : Nat → QM) : Has F (mB D ms []) := fun p hf i hi => absurd hi (by simp)
/-! ## What is owned, lent and let go -/
theorem HasB.fR (hb : Ow.slice v el 4 (qcells qs.length ms) ∈ bx) (hm : Has F (mQ D ms qs)) : HasB bx F (fR D v ms qs) := fun fr w ho =>
  ⟨HasB.o hb (cellsF_len _ _) (by decide) (fun j hj => cellsF_get hj) fr w ho, HasB.f hm fr w ho⟩
theorem HasB.fB (hb : Ow.slice v el 6 (bcells bs ms) ∈ bx) (hm : Has F (mB D ms bs)) : HasB bx F (fB D v ms bs) := fun fr w ho =>
  ⟨HasB.o hb (cellsF_len _ _) (by decide) (fun j hj => cellsF_get hj) fr w ho, HasB.f hm fr w ho⟩
theorem HasB.fL (hb : Ow.slice v el 5 (lcells L ms) ∈ bx) (hm : Has F (mL D ms L)) : HasB bx F (fL D v ms L) := fun fr w ho =>
  ⟨HasB.o hb (cellsF_len _ _) (by decide) (fun j hj => cellsF_get hj) fr w ho, HasB.f hm fr w ho⟩
section
variable {c : Code} {Q : Post} {n' : Nat} {rest Lo : List Oper} {Q2 : Env → List Ow → List Fct → Prop}
theorem okR {fr : PH} {w : World} (ho : OK fr bx F w) (hs : Sel bx (.slice v el 4 (qcells qs.length ms)) (.slice (.slice none 0 0) el 4 []) bx') (hm : Has F (mQ D ms qs)) : OK fr bx' (fR D v ms qs :: F) w := by
  have h := ho.freeze hs (cellsF_len _ _) (by decide) (qcell ms) fun j hj => cellsF_get hj
  refine (h.add (f := fR D v ms qs) ⟨h.facts _ (List.mem_cons_self ..), ?_⟩).less fun f hf => ?_
  · exact (show Has (slC v qs.length 4 (qcell ms) :: F) (mQ D ms qs) from fun p hp => hm p fun g hg => hp g (List.mem_cons_of_mem _ hg)) _ h.facts
  · rcases List.mem_cons.1 hf with rfl | hf
    · exact List.mem_cons_self ..
    · exact List.mem_cons_of_mem _ (List.mem_cons_of_mem _ hf)
theorem okB {fr : PH} {w : World} (ho : OK fr bx F w) (hs : Sel bx (.slice v el 6 (bcells bs ms)) (.slice (.slice none 0 0) el 6 []) bx') (hm : Has F (mB D ms bs)) : OK fr bx' (fB D v ms bs :: F) w := by
  have h := ho.freeze hs (cellsF_len _ _) (by decide) (bcell bs ms) fun j hj => cellsF_get hj
  refine (h.add (f := fB D v ms bs) ⟨h.facts _ (List.mem_cons_self ..), ?_⟩).less fun f hf => ?_
  · exact (show Has (slC v bs.length 6 (bcell bs ms) :: F) (mB D ms bs) from fun p hp => hm p fun g hg => hp g (List.mem_cons_of_mem _ hg)) _ h.facts
  · rcases List.mem_cons.1 hf with rfl | hf
    · exact List.mem_cons_self ..
    · exact List.mem_cons_of_mem _ (List.mem_cons_of_mem _ hf)
theorem okL {fr : PH} {w : World} (ho : OK fr bx F w) (hs : Sel bx (.slice v el 5 (lcells L ms)) (.slice (.slice none 0 0) el 5 []) bx') (hm : Has F (mL D ms L)) : OK fr bx' (fL D v ms L :: F) w := by
  have h := ho.freeze hs (cellsF_len _ _) (by decide) (lcell L ms) fun j hj => cellsF_get hj
  refine (h.add (f := fL D v ms L) ⟨h.facts _ (List.mem_cons_self ..), ?_⟩).less fun f hf => ?_
  · exact (show Has (slC v L.length 5 (lcell L ms) :: F) (mL D ms L) from fun p hp => hm p fun g hg => hp g (List.mem_cons_of_mem _ hg)) _ h.facts
  · rcases List.mem_cons.1 hf with rfl | hf
    · exact List.mem_cons_self ..
    · exact List.mem_cons_of_mem _ (List.mem_cons_of_mem _ hf)
theorem WC.freezeR (v : Value) (ms : Nat → QM) (qs : List Int) (hs : Sel bx (.slice v el 4 (qcells qs.length ms)) (.slice (.slice none 0 0) el 4 []) bx') (hm : Has F (mQ D ms qs)) (h : WC P n c e bx' (fR D v ms qs :: F) Q) : WC P n c e bx F Q := fun fr w0 a w hk hr ho => h fr w0 a w hk hr (okR ho hs hm)
theorem WL.freezeR (v : Value) (ms : Nat → QM) (qs : List Int) (hs : Sel bx (.slice v el 4 (qcells qs.length ms)) (.slice (.slice none 0 0) el 4 []) bx') (hm : Has F (mQ D ms qs)) (h : WL P n Lo rest e bx' (fR D v ms qs :: F) Q2) : WL P n Lo rest e bx F Q2 := fun fr w0 a w Q' hQ hk hr ho => h fr w0 a w Q' hQ hk hr (okR ho hs hm)
theorem WC.freezeB (v : Value) (ms : Nat → QM) (bs : List Bd) (hs : Sel bx (.slice v el 6 (bcells bs ms)) (.slice (.slice none 0 0) el 6 []) bx') (hm : Has F (mB D ms bs)) (h : WC P n c e bx' (fB D v ms bs :: F) Q) : WC P n c e bx F Q := fun fr w0 a w hk hr ho => h fr w0 a w hk hr (okB ho hs hm)
theorem WL.freezeB (v : Value) (ms : Nat → QM) (bs : List Bd) (hs : Sel bx (.slice v el 6 (bcells bs ms)) (.slice (.slice none 0 0) el 6 []) bx') (hm : Has F (mB D ms bs)) (h : WL P n Lo rest e bx' (fB D v ms bs :: F) Q2) : WL P n Lo rest e bx F Q2 := fun fr w0 a w Q' hQ hk hr ho => h fr w0 a w Q' hQ hk hr (okB ho hs hm)
theorem WC.freezeL (v : Value) (ms : Nat → QM) (L : List (Option Int)) (hs : Sel bx (.slice v el 5 (lcells L ms)) (.slice (.slice none 0 0) el 5 []) bx') (hm : Has F (mL D ms L)) (h : WC P n c e bx' (fL D v ms L :: F) Q) : WC P n c e bx F Q := fun fr w0 a w hk hr ho => h fr w0 a w hk hr (okL ho hs hm)
theorem WL.freezeL (v : Value) (ms : Nat → QM) (L : List (Option Int)) (hs : Sel bx (.slice v el 5 (lcells L ms)) (.slice (.slice none 0 0) el 5 []) bx') (hm : Has F (mL D ms L)) (h : WL P n Lo rest e bx' (fL D v ms L :: F) Q2) : WL P n Lo rest e bx F Q2 := fun fr w0 a w Q' hQ hk hr ho => h fr w0 a w Q' hQ hk hr (okL ho hs hm)
end
/-! ## What the program makes -/
theorem LO.makeR {i : Int} (hx : ev e x = some (.int .i64 i)) (hy : ev e y = some (.int .i64 i)) (hi : NatI i n) (hb : n ≤ 1000000) (h : ∀ v, K v (Ow.slice v 37 4 (qcells n (fun _ => m00)) :: bx) F) : LO Tryz.prog (.makeSlice 38 x y) ty e bx F K := by
  obtain rfl := hi.eq
  exact LO.make T.e38 hx hy (by omega) (by omega) (made_q n) h
theorem LO.makeLn {i : Int} (hx : ev e x = some (.int .i64 i)) (hy : ev e y = some (.int .i64 i)) (hi : NatI i n) (hb : n ≤ 1000000) (h : ∀ v, K v (Ow.slice v 114 5 (lcells (List.replicate n none) (fun _ => m00)) :: bx) F) : LO Tryz.prog (.makeSlice 111 x y) ty e bx F K := by
  obtain rfl := hi.eq
  exact LO.make T.e111 hx hy (by omega) (by omega) (made_l n) h
theorem YO.buildLn {a : Bool} (h1 : ev e x = some (.bool a)) (h2 : ev e y = some (qv m)) : YO Tryz.prog (.build 114 #[(0, x), (1, y)]) ty e bx F (.agg #[.bool a, .bool m.1, m.2.1, .bool false, m.2.2]) := YO.build (parts := [(0, x), (1, y)]) (.cons h1 (.cons h2 .nil)) fun w => run_build w 114 _ _ (by kernel_rfl)
theorem YO.buildSy {i : Int} {a : Option Addr} {l c : Nat} (h1 : ev e x = some (.int .i64 i)) (h2 : ev e y = some (.slice a l c)) : YO Tryz.prog (.build 103 #[(0, x), (1, y)]) ty e bx F (.agg #[.int .i64 i, .slice a l c]) := YO.build (parts := [(0, x), (1, y)]) (.cons h1 (.cons h2 .nil)) fun w => run_build w 103 _ _ (by kernel_rfl)
theorem YO.buildSys {i : Int} (h1 : ev e x = some (.int .i64 i)) (h2 : ev e y = some v) (kd : KnS bx F v n) : YO Tryz.prog (.build 103 #[(0, x), (1, y)]) ty e bx F (.agg #[.int .i64 i, v]) := fun k fr ac w o hop hty hk ho => by
  obtain ⟨p1, q1, rfl, _⟩ := (kd fr w ho).is
  exact (YO.buildSy (bx := bx) (F := F) (ty := ty) h1 h2) k fr ac w o hop hty hk ho
/-! ## Literals and appends -/
theorem LO.byP {op : Op} {p : Prop} (hp : ∀ fr w, OK fr bx F w → p) (h : p → LO P op ty e bx F K) : LO P op ty e bx F K := fun n fr a w o next Q' h1 h2 h3 h4 h5 =>
  h (hp fr w h4) n fr a w o next Q' h1 h2 h3 h4 h5
theorem one_cells {l : List Value} {fr : PH} {w : World} (ho : OK fr bx F w) (h : OneL bx F l) : ∀ c ∈ l, c.oneCell' = true := h.all ho
theorem one_qcells {fr : PH} {w : World} (ho : OK fr bx F w) (hm : Has F (mQ D ms qs)) : ∀ c ∈ qcells qs.length ms, c.oneCell' = true := fun c hc => by
  simp only [qcells, cellsF, List.mem_map, List.mem_range] at hc
  obtain ⟨j, hj, rfl⟩ := hc
  have := (one_q (m := ms (j / 4)) (bx := bx) (W.Has.q hm (k := j / 4) (by omega))).all ho
  unfold qcell
  have hr := row_get (l := qcs (ms (j / 4))) (r := j % 4) (n := 4) rfl (by omega)
  exact this _ (List.mem_of_getElem? hr)
theorem one_bcells {fr : PH} {w : World} (ho : OK fr bx F w) (hm : Has F (mB D ms bs)) : ∀ c ∈ bcells bs ms, c.oneCell' = true := fun c hc => by
  simp only [bcells, cellsF, List.mem_map, List.mem_range] at hc
  obtain ⟨j, hj, rfl⟩ := hc
  have := (OneL.cons (One.lit rfl rfl) (.cons (One.lit rfl rfl) (one_q (m := ms (j / 6)) (bx := bx) (W.Has.b hm (k := j / 6) (by omega)))) : OneL bx F (bcs (bg bs (j / 6)) (ms (j / 6)))).all ho
  unfold bcell
  have hr := row_get (l := bcs (bg bs (j / 6)) (ms (j / 6))) (r := j % 6) (n := 6) rfl (by omega)
  exact this _ (List.mem_of_getElem? hr)
theorem LO.bsR0 (h : ∀ v, K v (Ow.slice v 37 4 [] :: bx) F) : LO Tryz.prog (.buildSlice 38 0 #[]) ty e bx F K := LO.buildSlice (parts := []) (us := []) (cs := []) .nil (fun _ => by kernel_rfl) rfl (by decide) h
theorem LO.bsB0 (h : ∀ v, K v (Ow.slice v 59 6 [] :: bx) F) : LO Tryz.prog (.buildSlice 32 0 #[]) ty e bx F K := LO.buildSlice (parts := []) (us := []) (cs := []) .nil (fun _ => by kernel_rfl) rfl (by decide) h
theorem LO.bsR1 (hx : ev e x = some (qv m)) (h : ∀ v, K v (Ow.slice v 37 4 (qcs m) :: bx) F) : LO Tryz.prog (.buildSlice 38 1 #[(0, x)]) ty e bx F K := LO.buildSlice (parts := [(0, x)]) (us := [qv m]) (cs := qcs m) (.cons hx .nil) (fun _ => by kernel_rfl) rfl (by decide) h
theorem LO.bsB1 (hx : ev e x = some (bv b m)) (h : ∀ v, K v (Ow.slice v 59 6 (bcs b m) :: bx) F) : LO Tryz.prog (.buildSlice 32 1 #[(0, x)]) ty e bx F K := LO.buildSlice (parts := [(0, x)]) (us := [bv b m]) (cs := bcs b m) (.cons hx .nil) (fun _ => by kernel_rfl) rfl (by decide) h
/-- a literal of one slice -/
theorem LO.bsT1 {w : Value} {n : Nat} (hx : ev e x = some w) (kd : KnS bx F w n) (h : ∀ v, K v (Ow.slice v 111 1 [w] :: bx) F) : LO Tryz.prog (.buildSlice 109 1 #[(0, x)]) ty e bx F K := by
  refine LO.byP (p := ∃ a c, w = .slice a n c) (fun fr w ho => by obtain ⟨a, c, h1, _⟩ := (kd fr w ho).is; exact ⟨a, c, h1⟩) ?_
  rintro ⟨a, c, rfl⟩
  exact LO.buildSlice (parts := [(0, x)]) (us := [.slice a n c]) (cs := [.slice a n c]) (.cons hx .nil) (fun _ => by kernel_rfl) rfl (by decide) h
section
variable {el' : TypeId} {bx2 : Value → List Ow}
theorem LO.appRo (hx : ev e x = some v) (hy : ev e y = some u) (hu : Ow.slice u el' 4 (qcells n ms) ∈ bx) (hm : Has F (mQ D ms qs)) (hn : n = qs.length) (hs : ∀ v', Sel bx (.slice v 37 4 []) (.slice v' 37 4 (qcells n ms)) (bx2 v')) (hl : n ≤ 1000000) (h : ∀ v', K v' (bx2 v') F) :
    LO Tryz.prog (.call { callee := .builtin .append, args := #[x, y], argTypes := #[38, 38] }) ty e bx F K := by
  subst hn
  refine LO.byP (fun fr w ho => one_qcells ho hm) fun h1 => ?_
  exact LO.append T.e38 hx hy (cs := []) (news := qcells qs.length ms) hs (SrcE.own hu (cellsF_len _ _) (by decide)) h1 (by rw [cellsF_len, List.length_nil]; omega) (by rw [cellsF_len, List.length_nil]; omega) h
theorem LO.appBf (hx : ev e x = some v) (hy : ev e y = some u) (hu : Has F (fB D u ms bs)) (hs : ∀ v', Sel bx (.slice v 59 6 []) (.slice v' 59 6 (bcells bs ms)) (bx2 v')) (hl : bs.length ≤ 1000000) (h : ∀ v', K v' (bx2 v') F) :
    LO Tryz.prog (.call { callee := .builtin .append, args := #[x, y], argTypes := #[32, 32] }) ty e bx F K := by
  refine LO.byP (fun fr w ho => one_bcells ho hu.bm) fun h1 => ?_
  exact LO.append T.e32 hx hy (cs := []) (news := bcells bs ms) hs (SrcE.fact hu.bsl) h1 (by rw [cellsF_len, List.length_nil]; omega) (by rw [cellsF_len, List.length_nil]; omega) h
theorem LO.appR1 (hx : ev e x = some v) (hy : ev e y = some u) (hu : Ow.slice u el' 4 (qcs m) ∈ bx) (hm : Has F (isQ (qv m) q)) (hs : ∀ v', Sel bx (.slice v 37 4 (qcells n ms)) (.slice v' 37 4 (qcells (n + 1) (upd ms n m))) (bx2 v')) (hl : n ≤ 1000000) (h : ∀ v', K v' (bx2 v') F) :
    LO Tryz.prog (.call { callee := .builtin .append, args := #[x, y], argTypes := #[38, 38] }) ty e bx F K := by
  refine LO.byP (fun fr w ho => (one_q (bx := bx) hm).all ho) fun h1 => ?_
  exact LO.append T.e38 hx hy (news := qcs m) (by rw [qcells_app]; exact hs) (SrcE.one hu rfl (by decide)) h1 (by rw [cellsF_len]; show (n * 4 + 4) * 64 ≤ _; omega) (by rw [cellsF_len]; show n * 4 + 4 ≤ _; omega) h
theorem LO.appB1 (hx : ev e x = some v) (hy : ev e y = some u) (hu : Ow.slice u el' 6 (bcs b m) ∈ bx) (hm : Has F (isQ (qv m) q)) (hs : ∀ v', Sel bx (.slice v 59 6 (bcells bs ms)) (.slice v' 59 6 (bcells (bs ++ [b]) (upd ms bs.length m))) (bx2 v')) (hl : bs.length ≤ 1000000) (h : ∀ v', K v' (bx2 v') F) :
    LO Tryz.prog (.call { callee := .builtin .append, args := #[x, y], argTypes := #[32, 32] }) ty e bx F K := by
  refine LO.byP (fun fr w ho => (OneL.cons (One.lit rfl rfl) (.cons (One.lit rfl rfl) (one_q (m := m) (bx := bx) hm)) : OneL bx F (bcs b m)).all ho) fun h1 => ?_
  exact LO.append T.e32 hx hy (news := bcs b m) (by rw [bcells_app]; exact hs) (SrcE.one hu rfl (by decide)) h1 (by rw [cellsF_len]; show (bs.length * 6 + 6) * 80 ≤ _; omega) (by rw [cellsF_len]; show bs.length * 6 + 6 ≤ _; omega) h
/-- one slice more in a table -/
theorem LO.appT1 {cs : List Value} {w : Value} (hx : ev e x = some v) (hy : ev e y = some u) (hu : Ow.slice u el' 1 [w] ∈ bx) (hm : One bx F w) (hs : ∀ v', Sel bx (.slice v 111 1 cs) (.slice v' 111 1 (cs ++ [w])) (bx2 v')) (hl : cs.length ≤ 1000000) (h : ∀ v', K v' (bx2 v') F) :
    LO Tryz.prog (.call { callee := .builtin .append, args := #[x, y], argTypes := #[109, 109] }) ty e bx F K := by
  refine LO.byP (fun fr w ho => (hm fr w ho).2) fun h1 => ?_
  exact LO.append T.e109 hx hy (news := [w]) hs (SrcE.one hu rfl (by decide)) (by simpa using h1) (by show (cs.length + 1) * 24 ≤ _; omega) (by show cs.length + 1 ≤ _; omega) h
end
namespace W
/-- results of which the first lies in a variable -/
theorem ResE.c2 {fn : Func} {t s : Tmp} {ty : TypeId} {g tg m : Nat} {cs : List Value} (h : fn.results = #[.cell t ty, .tmp s]) (hl : look e t = some (.pointer (some ⟨g, 0, none⟩))) (hb : Ow.cells g tg cs ∈ bx) (hr : Row P ty m) (hm : cs.length = m) (hl2 : look e s = some u) : ResE P fn e bx F (.tuple #[.agg cs.toArray, u]) := fun n fr a w hk ho => by
  obtain ⟨⟨d, hu, hd⟩, hi⟩ := hr
  have h1 : a.tmps[t]?.getD undef = .pointer (some ⟨g, 0, none⟩) := by rw [hk.at' _ _ hl]; rfl
  have h2 := run_loadVar_mid (P := P) w g 0 ty cs d (fun i v hv => by rw [Nat.zero_add, own_cell (ho.owns _ hb)]; exact hv) hu hd (by rw [hi]; simp [hm])
  have h3 : a.tmps[s]?.getD undef = u := by rw [hk.at' _ _ hl2]; rfl
  simp only [results, h]
  simp [h1, asAddr, h2, h3]
theorem ResE.c3 {fn : Func} {t s r : Tmp} {ty : TypeId} {g tg m : Nat} {cs : List Value} {u2 : Value} (h : fn.results = #[.cell t ty, .tmp s, .tmp r]) (hl : look e t = some (.pointer (some ⟨g, 0, none⟩))) (hb : Ow.cells g tg cs ∈ bx) (hr : Row P ty m) (hm : cs.length = m) (hl2 : look e s = some u) (hl3 : look e r = some u2) : ResE P fn e bx F (.tuple #[.agg cs.toArray, u, u2]) := fun n fr a w hk ho => by
  obtain ⟨⟨d, hu, hd⟩, hi⟩ := hr
  have h1 : a.tmps[t]?.getD undef = .pointer (some ⟨g, 0, none⟩) := by rw [hk.at' _ _ hl]; rfl
  have h2 := run_loadVar_mid (P := P) w g 0 ty cs d (fun i v hv => by rw [Nat.zero_add, own_cell (ho.owns _ hb)]; exact hv) hu hd (by rw [hi]; simp [hm])
  have h3 : a.tmps[s]?.getD undef = u := by rw [hk.at' _ _ hl2]; rfl
  have h4 : a.tmps[r]?.getD undef = u2 := by rw [hk.at' _ _ hl3]; rfl
  simp only [results, h]
  simp [h1, asAddr, h2, h3, h4]
end W
end Go.Proofs.YthggloiigkbfeaaGreat
namespace Go.Proofs.YthggloiigkbfeaaGreat
namespace T
open W
theorem sc94 : Scalar Tryz.prog 94 := Scalar.of (by kernel_rfl)
theorem al94 : AllocT Tryz.prog 94 [.nilFunc] := AllocT.of (z := .nilFunc) (by kernel_rfl) (by kernel_rfl)
theorem z94 : (Tryz.prog.info? 94).map (·.size) = some 1 := by kernel_rfl
theorem sc116 : Scalar Tryz.prog 116 := Scalar.of (by kernel_rfl)
theorem al116 : AllocT Tryz.prog 116 [.nilFunc] := AllocT.of (z := .nilFunc) (by kernel_rfl) (by kernel_rfl)
theorem z116 : (Tryz.prog.info? 116).map (·.size) = some 1 := by kernel_rfl
theorem sc159 : Scalar Tryz.prog 159 := Scalar.of (by kernel_rfl)
theorem al159 : AllocT Tryz.prog 159 [.nilFunc] := AllocT.of (z := .nilFunc) (by kernel_rfl) (by kernel_rfl)
theorem z159 : (Tryz.prog.info? 159).map (·.size) = some 1 := by kernel_rfl
end T
end Go.Proofs.YthggloiigkbfeaaGreat
namespace Go.Proofs.YthggloiigkbfeaaGreat
open W Go.RowKit
attribute [local irreducible] WC WL WD YO LO LoopEnd W.Fin Scalar SliceT FieldAt Row ArrT AllocT KnS Has W.One SrcE IntT
namespace G
set_option maxRecDepth 60000
theorem t0A {G : Prop} (h : G := by first | (((first | exact T.al3 | exact T.al4 | exact T.al22 | exact T.al26 | exact T.al32 | exact T.al35 | exact T.al37 | exact T.al38 | exact T.al59 | exact T.al103 | exact T.al109 | exact T.al111 | exact T.al114 | exact T.al161 | exact T.al164 | exact T.al94 | exact T.al116 | exact T.al159)); done) | fail) : G := h
theorem t1A {G : Prop} (h : G := by first | (((first | exact T.sc3 | exact T.sc4 | exact T.sc22 | exact T.sc26 | exact T.sc32 | exact T.sc38 | exact T.sc109 | exact T.sc111 | exact T.sc161 | exact T.sc164 | exact T.sc94 | exact T.sc116 | exact T.sc159)); done) | fail) : G := h
theorem t2A {G : Prop} (h : G := by first | (((first | exact T.z3 | exact T.z4 | exact T.z22 | exact T.z26 | exact T.z32 | exact T.z38 | exact T.z109 | exact T.z111 | exact T.z161 | exact T.z164 | exact T.z94 | exact T.z116 | exact T.z159)); done) | fail) : G := h
theorem t3A {G : Prop} (h : G := by first | (((first | exact T.f35_0 | exact T.f35_1 | exact T.f37_0 | exact T.f37_1 | exact T.f59_0 | exact T.f59_1 | exact T.f59_2 | exact T.f103_0 | exact T.f103_1 | exact T.f114_0 | exact T.f114_1)); done) | fail) : G := h
theorem t4A {G : Prop} (h : G := by first | (((first | exact T.e22 | exact T.e32 | exact T.e38 | exact T.e109 | exact T.e111 | exact T.e161)); done) | fail) : G := h
theorem t5A {G : Prop} (h : G := by first | (((first | exact T.s22 | exact T.s32 | exact T.s38 | exact T.s109 | exact T.s111 | exact T.s161)); done) | fail) : G := h
theorem t6A {G : Prop} (h : G := by first | (((first | exact T.r35 | exact T.r37 | exact T.r59 | exact T.r103 | exact T.r114)); done) | fail) : G := h
theorem t7A {G : Prop} (h : G := by first | (((first | exact T.u3 | exact T.u26 | exact T.u164)); done) | fail) : G := h
theorem knA {G : Prop} (h : G := by first | (((first | (focus (apply KnS.f; exact hmA; done)) | (focus (apply KnS.oI; exact meA; done)) | (focus (apply KnS.o1; exact meA; done)) | (focus (apply KnS.zd; exact hmA; done)) | (focus (apply KnS.q1; exact hmA; done)) | (focus (apply KnS.q2; exact hmA; done)) | (focus (apply KnS.fr; exact hmA; done)) | (focus (apply KnS.fb; exact hmA; done)) | (focus (apply KnS.fl; exact hmA; done)) | (focus (apply KnS.oR; exact meA; done)) | (focus (apply KnS.oB; exact meA; done)) | (focus (apply KnS.oL; exact meA; done)))); done) | fail) : G := h
theorem hsA {G : Prop} (h : G := by first | (((first | exact hmA | (focus (apply hasQ_P; exact hmA; done)) | (focus (apply hasQ_Q; exact hmA; done)) | exact hasZ_0 | exact hasQ_0 | (focus (apply hasZ_d; exact hmA; done)) | (focus (apply hasQ_d1; exact hmA; done)) | (focus (apply hasQ_d2; exact hmA; done)) | exact hasQ0w)); done) | fail) : G := h
theorem haA {G : Prop} (h : G := by first | ((repeat (first | exact HasAll.nil | (apply HasAll.cons; exact hsA))); done) | fail) : G := h
theorem hbA {G : Prop} (h : G := by first | ((repeat (first | exact HasAllB.nil | (apply HasAllB.cons; (first | (focus (apply HasB.oI; exact meA; done)) | (focus (apply HasB.c; exact meA; done)) | (focus (apply HasB.f; exact hsA; done)) | (focus (apply HasB.fR; exact meA; exact hmA; done)) | (focus (apply HasB.fB; exact meA; exact hmA; done)) | (focus (apply HasB.fL; exact meA; exact hmA; done)) | (focus (apply HasB.and; (focus (apply HasB.c; exact meA; done)); (focus (apply HasB.c; exact meA; done)); done)))))); done) | fail) : G := h
theorem ltA {G : Prop} (h : G := by first | (((first | (focus (apply Or.inr; constructor; (repeat (first | exact List.Sublist.refl _ | exact List.nil_sublist _ | apply List.Sublist.cons_cons | apply List.Sublist.cons)); (first | exact fun _ h => h | (intro f hf; (repeat (first | exact hf | apply List.Mem.tail)))); done)) | (apply Or.inl; kernel_rfl))); done) | fail) : G := h
theorem onA {G : Prop} (h : G := by first | (((first | exact ints_one _ | (intro u hu; simp only [List.mem_cons, List.not_mem_nil, or_false] at hu; first | (subst hu; rfl) | (rcases hu with rfl | rfl | rfl <;> rfl)))); done) | fail) : G := h
theorem leA {G : Prop} (h : G := by first | (((simp only [List.length_map, List.length_append, List.length_cons, List.length_nil, List.length_replicate, List.length_take]; omega)); done) | fail) : G := h
theorem y_indexAddr {G : Prop} (h : G := by first | (((first | (first | (apply YO.ix1; exact t5A; exact rfl; exact rfl; exact knA; omega) | (apply YO.ix; exact t5A; exact rfl; exact rfl; exact knA; omega) | (apply YO.ix1'; exact t5A; exact rfl; exact rfl; exact knA; omega; omega) | (apply YO.ix'; exact t5A; exact rfl; exact rfl; exact knA; omega; omega)) | (apply YO.ix1; exact t5A; exact rfl; exact rfl; exact knA; (first | omega | (simp only [List.length_set, List.length_replicate]; omega))) | (apply YO.ix; exact t5A; exact rfl; exact rfl; exact knA; (first | omega | (simp only [List.length_set, List.length_replicate]; omega))) | (apply YO.ix1'; exact t5A; exact rfl; exact rfl; exact knA; omega; (first | omega | (simp only [List.length_set, List.length_replicate]; omega))))); done) | fail) : G := h
theorem y_load {G : Prop} (h : G := by first | (((first | (apply YO.ldW; exact t6A; exact rfl; exact meA; exact rfl) | (apply YO.ld42; exact t6A; exact rfl; exact meA) | (apply YO.ld40; exact t6A; exact rfl; exact meA) | (apply YO.ld62; exact t6A; exact rfl; exact meA) | (apply YO.ld51; exact t6A; exact rfl; exact meA) | (apply YO.ldR; exact t6A; exact rfl; exact hmA; omega) | (apply YO.ldBd; exact t6A; exact rfl; exact hmA; omega) | (apply YO.ldBq; exact t6A; exact rfl; exact hmA; omega) | (apply YO.ldBf; exact t1A; exact rfl; exact hmA; omega) | (apply YO.ldBt; exact t1A; exact rfl; exact hmA; omega) | (apply YO.ldLn; exact t6A; exact rfl; exact hmA; omega) | (apply YO.ldLb; exact t1A; exact rfl; exact hmA; omega) | (apply YO.ldLq; exact t6A; exact rfl; exact hmA; omega) | (apply YO.ldWf; exact t6A; exact rfl; exact hmA; exact rfl) | (apply YO.ldOR; exact t6A; exact rfl; exact meA; omega) | (apply YO.ldOBd; exact t6A; exact rfl; exact meA; omega) | (apply YO.ldOBq; exact t6A; exact rfl; exact meA; omega) | (apply YO.ldOL; exact t6A; exact rfl; exact meA; omega) | (apply YO.ldWI0; exact t6A; exact rfl; exact meA; (first | omega | (simp only [List.length_set, List.length_replicate]; omega))) | (apply YO.ldWF0; exact t6A; exact rfl; exact hmA; (first | omega | (simp only [List.length_set, List.length_replicate]; omega))) | (apply YO.ldCI; exact t1A; exact rfl; exact meA; (first | omega | (simp only [List.length_set, List.length_replicate]; omega))) | (apply YO.ldFI; exact t1A; exact rfl; exact hmA; (first | omega | (simp only [List.length_set, List.length_replicate]; omega))) | (apply YO.ldF; exact t1A; exact rfl; exact hmA; exact rfl) | (apply YO.ldS; exact t1A; exact rfl; exact hsA; omega) | (apply YO.ldB; exact t1A; exact rfl; exact meA; exact rfl) | (apply YO.ldOI; exact t1A; exact rfl; exact meA; (first | omega | (simp only [List.length_set, List.length_replicate]; omega))))); done) | fail) : G := h
theorem y_slice {G : Prop} (h : G := by first | (((first | (first | (apply YO.slice; exact t5A; exact rfl; exact knA; exact Or.inl ⟨rfl, rfl⟩; exact Or.inr ⟨_, rfl, rfl⟩; omega; omega) | (apply YO.slice; exact t5A; exact rfl; exact knA; exact Or.inr ⟨_, rfl, rfl⟩; exact Or.inl ⟨rfl, rfl⟩; omega; omega)) | (apply YO.slice3; exact t5A; exact rfl; exact knA; exact rfl; exact rfl; omega; omega))); done) | fail) : G := h
theorem y_eql {G : Prop} (h : G := by first | (((first | (first | (first | (apply YO.eql_t; exact rfl; exact rfl; omega) | (apply YO.eql_f; exact rfl; exact rfl; omega)) | (apply YO.eqNil_t; exact t5A; exact rfl; exact knA; assumption) | (apply YO.eqNil_f; exact t5A; exact rfl; exact knA; assumption)) | (apply YO.beq_t; exact bool_t; exact rfl; exact rfl; (first | rfl | assumption | decide)) | (apply YO.beq_f; exact bool_t; exact rfl; exact rfl; (first | rfl | assumption | decide)))); done) | fail) : G := h
theorem y_build {G : Prop} (h : G := by first | (((first | (apply YO.buildZ; exact rfl; exact rfl; exact knA) | exact YO.buildZ0 | exact YO.buildQ0 | (apply YO.buildQ1; exact rfl) | (apply YO.buildQ2; exact rfl; exact rfl) | (apply YO.buildLn; exact rfl; exact rfl) | (apply YO.buildSys; exact rfl; exact rfl; exact knA))); done) | fail) : G := h
theorem y_len {G : Prop} (h : G := by first | (((apply YO.len; exact t5A; exact rfl; exact knA)); done) | fail) : G := h
theorem y_fieldAddr {G : Prop} (h : G := by first | (((first | (apply YO.fieldE; exact t3A; exact rfl) | (apply YO.fieldN; exact t3A; exact rfl; ((try simp only [Nat.zero_add, Nat.mul_one, Nat.reduceAdd, Nat.reduceMul]); exact rfl)))); done) | fail) : G := h
theorem y_conv {G : Prop} (h : G := by first | (((first | (first | (apply YO.convU; exact t7A; exact t7A; exact rfl; omega; omega) | (apply YO.convI; exact t7A; exact t7A; exact rfl; omega; omega)) | (apply YO.convN; exact t7A; exact t7A; exact rfl; omega; omega))); done) | fail) : G := h
theorem y_neq {G : Prop} (h : G := by first | (((first | (first | (apply YO.neq_t; exact rfl; exact rfl; omega) | (apply YO.neq_f; exact rfl; exact rfl; omega)) | (apply YO.bne_t; exact bool_t; exact rfl; exact rfl; (first | rfl | assumption | decide)) | (apply YO.bne_f; exact bool_t; exact rfl; exact rfl; (first | rfl | assumption | decide)))); done) | fail) : G := h
theorem y_makeFunc {G : Prop} (h : G := by first | (((apply YO.makeFunc; (repeat (first | exact Evs.nil | (apply Evs.cons; exact rfl))); (repeat (first | exact Evs.nil | (apply Evs.cons; exact rfl))))); done) | fail) : G := h
theorem y_quo {G : Prop} (h : G := by first | (((first | (apply YO.quo; exact rfl; exact rfl; omega; omega; omega) | (apply YO.uquo; exact rfl; exact rfl; omega; omega; omega))); done) | fail) : G := h
theorem y_and {G : Prop} (h : G := by first | (((first | (apply YO.and1; exact rfl; exact rfl; omega; omega) | (apply YO.and; exact rfl; exact rfl; omega; omega; omega; omega))); done) | fail) : G := h
theorem y_mul {G : Prop} (h : G := by first | (((first | (apply YO.mul; exact rfl; exact rfl; omega; omega) | (apply YO.umul; exact rfl; exact rfl; omega; omega))); done) | fail) : G := h
theorem y_rem {G : Prop} (h : G := by first | (((first | (apply YO.rem; exact rfl; exact rfl; omega; omega) | (apply YO.urem; exact rfl; exact rfl; omega; omega))); done) | fail) : G := h
theorem y_add {G : Prop} (h : G := by first | (((first | (apply YO.inc; exact rfl; exact rfl; omega) | (apply YO.add; exact rfl; exact rfl; omega; omega))); done) | fail) : G := h
theorem y_lss {G : Prop} (h : G := by first | (((first | (apply YO.lss_t; exact rfl; exact rfl; omega) | (apply YO.lss_f; exact rfl; exact rfl; omega))); done) | fail) : G := h
theorem y_gtr {G : Prop} (h : G := by first | (((first | (apply YO.gtr_t; exact rfl; exact rfl; omega) | (apply YO.gtr_f; exact rfl; exact rfl; omega))); done) | fail) : G := h
theorem y_geq {G : Prop} (h : G := by first | (((first | (apply YO.geq_t; exact rfl; exact rfl; omega) | (apply YO.geq_f; exact rfl; exact rfl; omega))); done) | fail) : G := h
theorem y_leq {G : Prop} (h : G := by first | (((first | (apply YO.leq_t; exact rfl; exact rfl; omega) | (apply YO.leq_f; exact rfl; exact rfl; omega))); done) | fail) : G := h
theorem y_shl {G : Prop} (h : G := by first | (((apply YO.shl'; exact rfl; exact rfl; omega; omega; (first | omega | decide); (first | omega | decide))); done) | fail) : G := h
theorem y_uneg {G : Prop} (h : G := by first | (((first | (apply YO.neg; exact rfl; omega; omega) | (apply YO.uneg; exact rfl; omega; omega))); done) | fail) : G := h
theorem y_pick {G : Prop} (h : G := by first | (((first | (apply YO.pick_t; exact rfl; exact rfl) | (apply YO.pick_f; exact rfl; exact rfl))); done) | fail) : G := h
theorem y_unot {G : Prop} (h : G := by first | (((first | (apply YO.not_t; exact rfl) | (apply YO.not_f; exact rfl))); done) | fail) : G := h
theorem y_or {G : Prop} (h : G := by first | (((apply YO.or; exact rfl; exact rfl; omega; omega; omega; omega)); done) | fail) : G := h
theorem go {G G' : Prop} (h : G') (s : Bx G' → G := by
  intro h
  (first
    | apply WL.nil
    | (apply WL.skg; exact rfl; exact rfl)
    | (apply WL.skg0; exact rfl)
    | (apply WL.k_move; (apply YO.move; exact rfl); exact rfl; exact rfl)
    | (apply WL.k_assign; (apply YO.assign; exact rfl); exact rfl; exact rfl)
    | (apply WL.k_lss; exact y_lss; exact rfl; exact rfl)
    | (apply WL.k_add; exact y_add; exact rfl; exact rfl)
    | (apply WL.k_len; exact y_len; exact rfl; exact rfl)
    | (apply WL.k_indexAddr; exact y_indexAddr; exact rfl; exact rfl)
    | (apply WL.k_load; exact y_load; exact rfl; exact rfl)
    | (apply WL.k_pick; exact y_pick; exact rfl; exact rfl)
    | (apply WL.k_fieldAddr; exact y_fieldAddr; exact rfl; exact rfl)
    | (apply WL.k_eql; exact y_eql; exact rfl; exact rfl)
    | (apply WL.k_neq; exact y_neq; exact rfl; exact rfl)
    | (apply WL.k_nil; (apply YO.nil; exact rfl); exact rfl; exact rfl)
    | (apply WL.k_extract; (apply YO.extract; exact rfl; exact rfl); exact rfl; exact rfl)
    | (apply WL.k_gtr; exact y_gtr; exact rfl; exact rfl)
    | (apply WL.k_geq; exact y_geq; exact rfl; exact rfl)
    | (apply WL.k_leq; exact y_leq; exact rfl; exact rfl)
    | (apply WL.k_sub; (apply YO.sub; exact rfl; exact rfl; omega; omega); exact rfl; exact rfl)
    | (apply WL.k_mul; exact y_mul; exact rfl; exact rfl)
    | (apply WL.k_rem; exact y_rem; exact rfl; exact rfl)
    | (apply WL.k_quo; exact y_quo; exact rfl; exact rfl)
    | (apply WL.k_unot; exact y_unot; exact rfl; exact rfl)
    | (apply WL.k_uneg; exact y_uneg; exact rfl; exact rfl)
    | (apply WL.k_max; (apply YO.max; exact rfl; exact rfl); exact rfl; exact rfl)
    | (apply WL.k_min; (apply YO.min; exact rfl; exact rfl); exact rfl; exact rfl)
    | (apply WL.k_makeFunc; exact y_makeFunc; exact rfl; exact rfl)
    | (apply WL.k_conv; exact y_conv; exact rfl; exact rfl)
    | (apply WL.k_shl; exact y_shl; exact rfl; exact rfl)
    | (apply WL.k_shr; (apply YO.shr'; exact rfl; exact rfl; omega; omega); exact rfl; exact rfl)
    | (apply WL.k_and; exact y_and; exact rfl; exact rfl)
    | (apply WL.k_or; exact y_or; exact rfl; exact rfl)
    | (apply WL.k_andNot; (apply YO.anot; exact rfl; exact rfl); exact rfl; exact rfl)
    | (apply WL.k_slice; exact y_slice; exact rfl; exact rfl)
    | (apply WL.k_build; exact y_build; exact rfl; exact rfl)
    | apply WC.seq
    | apply WC.region
    | apply WC.block
    | (apply WC.cond_t; exact rfl)
    | (apply WC.cond_f; exact rfl)
    | apply WC.exit
    | apply WC.skip
    | apply WC.label
    | (apply WL.kl_store; rotate_left; exact rfl; (first | (apply LO.storeOI; exact rfl; exact rfl; exact t2A; exact seA; (first | omega | (simp only [List.length_set]; omega))) | (apply LO.storeQ; exact rfl; exact rfl; exact t6A; exact hmA; exact seA; omega) | (apply LO.storeL1; exact rfl; exact rfl; exact t6A; exact hmA; exact seA; omega) | (apply LO.storeI; exact rfl; exact rfl; exact t2A; exact seA; (first | omega | (simp only [List.length_set, List.length_replicate]; omega))) | (apply LO.storeWI; exact rfl; exact rfl; exact seA; exact t6A; (first | omega | (simp only [List.length_set, List.length_replicate]; omega)); (first | (simp only [List.length_map, List.length_set, List.length_replicate, ints]; omega) | rfl)) | (apply LO.store1; exact rfl; exact rfl; exact t2A; (first | exact One.lit rfl rfl | (apply One.sl; exact knA)); exact seA; (first | (simp only [List.length_cons, List.length_nil]; omega) | (simp; omega)); (first | (simp only [List.set_cons_succ, List.set_cons_zero]; exact rfl) | exact rfl)) | (apply LO.storeO1; exact rfl; exact rfl; exact t2A; (first | exact One.lit rfl rfl | (apply One.sl; exact knA)); exact seA; (first | (simp only [List.length_cons, List.length_nil]; omega) | (simp; omega)); (first | (simp only [List.set_cons_succ, List.set_cons_zero]; exact rfl) | exact rfl)) | (apply LO.storeL; exact rfl; exact rfl; exact seA; exact t6A; exact rfl; exact rfl; (repeat (first | exact OneL.nil | (apply OneL.cons; (first | exact One.lit rfl rfl | (apply One.sl; exact knA)))))))))
  repeat (first
    | apply WL.nil
    | (apply WL.skg; exact rfl; exact rfl)
    | (apply WL.skg0; exact rfl)
    | (apply WL.k_move; (apply YO.move; exact rfl); exact rfl; exact rfl)
    | (apply WL.k_assign; (apply YO.assign; exact rfl); exact rfl; exact rfl)
    | (apply WL.k_lss; exact y_lss; exact rfl; exact rfl)
    | (apply WL.k_add; exact y_add; exact rfl; exact rfl)
    | (apply WL.k_len; exact y_len; exact rfl; exact rfl)
    | (apply WL.k_indexAddr; exact y_indexAddr; exact rfl; exact rfl)
    | (apply WL.k_load; exact y_load; exact rfl; exact rfl)
    | (apply WL.k_pick; exact y_pick; exact rfl; exact rfl)
    | (apply WL.k_fieldAddr; exact y_fieldAddr; exact rfl; exact rfl)
    | (apply WL.k_eql; exact y_eql; exact rfl; exact rfl)
    | (apply WL.k_neq; exact y_neq; exact rfl; exact rfl)
    | (apply WL.k_nil; (apply YO.nil; exact rfl); exact rfl; exact rfl)
    | (apply WL.k_extract; (apply YO.extract; exact rfl; exact rfl); exact rfl; exact rfl)
    | (apply WL.k_gtr; exact y_gtr; exact rfl; exact rfl)
    | (apply WL.k_geq; exact y_geq; exact rfl; exact rfl)
    | (apply WL.k_leq; exact y_leq; exact rfl; exact rfl)
    | (apply WL.k_sub; (apply YO.sub; exact rfl; exact rfl; omega; omega); exact rfl; exact rfl)
    | (apply WL.k_mul; exact y_mul; exact rfl; exact rfl)
    | (apply WL.k_rem; exact y_rem; exact rfl; exact rfl)
    | (apply WL.k_quo; exact y_quo; exact rfl; exact rfl)
    | (apply WL.k_unot; exact y_unot; exact rfl; exact rfl)
    | (apply WL.k_uneg; exact y_uneg; exact rfl; exact rfl)
    | (apply WL.k_max; (apply YO.max; exact rfl; exact rfl); exact rfl; exact rfl)
    | (apply WL.k_min; (apply YO.min; exact rfl; exact rfl); exact rfl; exact rfl)
    | (apply WL.k_makeFunc; exact y_makeFunc; exact rfl; exact rfl)
    | (apply WL.k_conv; exact y_conv; exact rfl; exact rfl)
    | (apply WL.k_shl; exact y_shl; exact rfl; exact rfl)
    | (apply WL.k_shr; (apply YO.shr'; exact rfl; exact rfl; omega; omega); exact rfl; exact rfl)
    | (apply WL.k_and; exact y_and; exact rfl; exact rfl)
    | (apply WL.k_or; exact y_or; exact rfl; exact rfl)
    | (apply WL.k_andNot; (apply YO.anot; exact rfl; exact rfl); exact rfl; exact rfl)
    | (apply WL.k_slice; exact y_slice; exact rfl; exact rfl)
    | (apply WL.k_build; exact y_build; exact rfl; exact rfl)
    | apply WC.seq
    | apply WC.region
    | apply WC.block
    | (apply WC.cond_t; exact rfl)
    | (apply WC.cond_f; exact rfl)
    | apply WC.exit
    | apply WC.skip
    | apply WC.label
    | (apply WL.kl_store; rotate_left; exact rfl; (first | (apply LO.storeOI; exact rfl; exact rfl; exact t2A; exact seA; (first | omega | (simp only [List.length_set]; omega))) | (apply LO.storeQ; exact rfl; exact rfl; exact t6A; exact hmA; exact seA; omega) | (apply LO.storeL1; exact rfl; exact rfl; exact t6A; exact hmA; exact seA; omega) | (apply LO.storeI; exact rfl; exact rfl; exact t2A; exact seA; (first | omega | (simp only [List.length_set, List.length_replicate]; omega))) | (apply LO.storeWI; exact rfl; exact rfl; exact seA; exact t6A; (first | omega | (simp only [List.length_set, List.length_replicate]; omega)); (first | (simp only [List.length_map, List.length_set, List.length_replicate, ints]; omega) | rfl)) | (apply LO.store1; exact rfl; exact rfl; exact t2A; (first | exact One.lit rfl rfl | (apply One.sl; exact knA)); exact seA; (first | (simp only [List.length_cons, List.length_nil]; omega) | (simp; omega)); (first | (simp only [List.set_cons_succ, List.set_cons_zero]; exact rfl) | exact rfl)) | (apply LO.storeO1; exact rfl; exact rfl; exact t2A; (first | exact One.lit rfl rfl | (apply One.sl; exact knA)); exact seA; (first | (simp only [List.length_cons, List.length_nil]; omega) | (simp; omega)); (first | (simp only [List.set_cons_succ, List.set_cons_zero]; exact rfl) | exact rfl)) | (apply LO.storeL; exact rfl; exact rfl; exact seA; exact t6A; exact rfl; exact rfl; (repeat (first | exact OneL.nil | (apply OneL.cons; (first | exact One.lit rfl rfl | (apply One.sl; exact knA)))))))))
  exact Bx.h h) : G := s ⟨h⟩
theorem goD {G G' : Prop} (h : G') (s : Bx G' → G := by
  intro h
  (first
    | apply WD.nil
    | (apply WD.skg; exact rfl; exact rfl; exact rfl)
    | (apply WD.skgl; exact rfl; exact rfl; exact rfl)
    | (apply WD.skgl0; exact rfl; exact rfl)
    | (apply WD.k_move; exact rfl; (apply YO.move; exact rfl); exact rfl; exact rfl)
    | (apply WD.k_assign; exact rfl; (apply YO.assign; exact rfl); exact rfl; exact rfl)
    | (apply WD.k_lss; exact rfl; exact y_lss; exact rfl; exact rfl)
    | (apply WD.k_add; exact rfl; exact y_add; exact rfl; exact rfl)
    | (apply WD.k_len; exact rfl; exact y_len; exact rfl; exact rfl)
    | (apply WD.k_indexAddr; exact rfl; exact y_indexAddr; exact rfl; exact rfl)
    | (apply WD.k_load; exact rfl; exact y_load; exact rfl; exact rfl)
    | (apply WD.k_pick; exact rfl; exact y_pick; exact rfl; exact rfl)
    | (apply WD.k_fieldAddr; exact rfl; exact y_fieldAddr; exact rfl; exact rfl)
    | (apply WD.k_eql; exact rfl; exact y_eql; exact rfl; exact rfl)
    | (apply WD.k_neq; exact rfl; exact y_neq; exact rfl; exact rfl)
    | (apply WD.k_nil; exact rfl; (apply YO.nil; exact rfl); exact rfl; exact rfl)
    | (apply WD.k_extract; exact rfl; (apply YO.extract; exact rfl; exact rfl); exact rfl; exact rfl)
    | (apply WD.k_gtr; exact rfl; exact y_gtr; exact rfl; exact rfl)
    | (apply WD.k_geq; exact rfl; exact y_geq; exact rfl; exact rfl)
    | (apply WD.k_leq; exact rfl; exact y_leq; exact rfl; exact rfl)
    | (apply WD.k_sub; exact rfl; (apply YO.sub; exact rfl; exact rfl; omega; omega); exact rfl; exact rfl)
    | (apply WD.k_mul; exact rfl; exact y_mul; exact rfl; exact rfl)
    | (apply WD.k_rem; exact rfl; exact y_rem; exact rfl; exact rfl)
    | (apply WD.k_quo; exact rfl; exact y_quo; exact rfl; exact rfl)
    | (apply WD.k_unot; exact rfl; exact y_unot; exact rfl; exact rfl)
    | (apply WD.k_uneg; exact rfl; exact y_uneg; exact rfl; exact rfl)
    | (apply WD.k_max; exact rfl; (apply YO.max; exact rfl; exact rfl); exact rfl; exact rfl)
    | (apply WD.k_min; exact rfl; (apply YO.min; exact rfl; exact rfl); exact rfl; exact rfl)
    | (apply WD.k_makeFunc; exact rfl; exact y_makeFunc; exact rfl; exact rfl)
    | (apply WD.k_conv; exact rfl; exact y_conv; exact rfl; exact rfl)
    | (apply WD.k_shl; exact rfl; exact y_shl; exact rfl; exact rfl)
    | (apply WD.k_shr; exact rfl; (apply YO.shr'; exact rfl; exact rfl; omega; omega); exact rfl; exact rfl)
    | (apply WD.k_and; exact rfl; exact y_and; exact rfl; exact rfl)
    | (apply WD.k_or; exact rfl; exact y_or; exact rfl; exact rfl)
    | (apply WD.k_andNot; exact rfl; (apply YO.anot; exact rfl; exact rfl); exact rfl; exact rfl)
    | (apply WD.k_slice; exact rfl; exact y_slice; exact rfl; exact rfl)
    | (apply WD.k_build; exact rfl; exact y_build; exact rfl; exact rfl)
    | (apply WD.kl_store; exact rfl; rotate_left; exact rfl; (first | (apply LO.storeOI; exact rfl; exact rfl; exact t2A; exact seA; (first | omega | (simp only [List.length_set]; omega))) | (apply LO.storeQ; exact rfl; exact rfl; exact t6A; exact hmA; exact seA; omega) | (apply LO.storeL1; exact rfl; exact rfl; exact t6A; exact hmA; exact seA; omega) | (apply LO.storeI; exact rfl; exact rfl; exact t2A; exact seA; (first | omega | (simp only [List.length_set, List.length_replicate]; omega))) | (apply LO.storeWI; exact rfl; exact rfl; exact seA; exact t6A; (first | omega | (simp only [List.length_set, List.length_replicate]; omega)); (first | (simp only [List.length_map, List.length_set, List.length_replicate, ints]; omega) | rfl)) | (apply LO.store1; exact rfl; exact rfl; exact t2A; (first | exact One.lit rfl rfl | (apply One.sl; exact knA)); exact seA; (first | (simp only [List.length_cons, List.length_nil]; omega) | (simp; omega)); (first | (simp only [List.set_cons_succ, List.set_cons_zero]; exact rfl) | exact rfl)) | (apply LO.storeO1; exact rfl; exact rfl; exact t2A; (first | exact One.lit rfl rfl | (apply One.sl; exact knA)); exact seA; (first | (simp only [List.length_cons, List.length_nil]; omega) | (simp; omega)); (first | (simp only [List.set_cons_succ, List.set_cons_zero]; exact rfl) | exact rfl)) | (apply LO.storeL; exact rfl; exact rfl; exact seA; exact t6A; exact rfl; exact rfl; (repeat (first | exact OneL.nil | (apply OneL.cons; (first | exact One.lit rfl rfl | (apply One.sl; exact knA))))))); constructor; exact ltA))
  repeat (first
    | apply WD.nil
    | (apply WD.skg; exact rfl; exact rfl; exact rfl)
    | (apply WD.skgl; exact rfl; exact rfl; exact rfl)
    | (apply WD.skgl0; exact rfl; exact rfl)
    | (apply WD.k_move; exact rfl; (apply YO.move; exact rfl); exact rfl; exact rfl)
    | (apply WD.k_assign; exact rfl; (apply YO.assign; exact rfl); exact rfl; exact rfl)
    | (apply WD.k_lss; exact rfl; exact y_lss; exact rfl; exact rfl)
    | (apply WD.k_add; exact rfl; exact y_add; exact rfl; exact rfl)
    | (apply WD.k_len; exact rfl; exact y_len; exact rfl; exact rfl)
    | (apply WD.k_indexAddr; exact rfl; exact y_indexAddr; exact rfl; exact rfl)
    | (apply WD.k_load; exact rfl; exact y_load; exact rfl; exact rfl)
    | (apply WD.k_pick; exact rfl; exact y_pick; exact rfl; exact rfl)
    | (apply WD.k_fieldAddr; exact rfl; exact y_fieldAddr; exact rfl; exact rfl)
    | (apply WD.k_eql; exact rfl; exact y_eql; exact rfl; exact rfl)
    | (apply WD.k_neq; exact rfl; exact y_neq; exact rfl; exact rfl)
    | (apply WD.k_nil; exact rfl; (apply YO.nil; exact rfl); exact rfl; exact rfl)
    | (apply WD.k_extract; exact rfl; (apply YO.extract; exact rfl; exact rfl); exact rfl; exact rfl)
    | (apply WD.k_gtr; exact rfl; exact y_gtr; exact rfl; exact rfl)
    | (apply WD.k_geq; exact rfl; exact y_geq; exact rfl; exact rfl)
    | (apply WD.k_leq; exact rfl; exact y_leq; exact rfl; exact rfl)
    | (apply WD.k_sub; exact rfl; (apply YO.sub; exact rfl; exact rfl; omega; omega); exact rfl; exact rfl)
    | (apply WD.k_mul; exact rfl; exact y_mul; exact rfl; exact rfl)
    | (apply WD.k_rem; exact rfl; exact y_rem; exact rfl; exact rfl)
    | (apply WD.k_quo; exact rfl; exact y_quo; exact rfl; exact rfl)
    | (apply WD.k_unot; exact rfl; exact y_unot; exact rfl; exact rfl)
    | (apply WD.k_uneg; exact rfl; exact y_uneg; exact rfl; exact rfl)
    | (apply WD.k_max; exact rfl; (apply YO.max; exact rfl; exact rfl); exact rfl; exact rfl)
    | (apply WD.k_min; exact rfl; (apply YO.min; exact rfl; exact rfl); exact rfl; exact rfl)
    | (apply WD.k_makeFunc; exact rfl; exact y_makeFunc; exact rfl; exact rfl)
    | (apply WD.k_conv; exact rfl; exact y_conv; exact rfl; exact rfl)
    | (apply WD.k_shl; exact rfl; exact y_shl; exact rfl; exact rfl)
    | (apply WD.k_shr; exact rfl; (apply YO.shr'; exact rfl; exact rfl; omega; omega); exact rfl; exact rfl)
    | (apply WD.k_and; exact rfl; exact y_and; exact rfl; exact rfl)
    | (apply WD.k_or; exact rfl; exact y_or; exact rfl; exact rfl)
    | (apply WD.k_andNot; exact rfl; (apply YO.anot; exact rfl; exact rfl); exact rfl; exact rfl)
    | (apply WD.k_slice; exact rfl; exact y_slice; exact rfl; exact rfl)
    | (apply WD.k_build; exact rfl; exact y_build; exact rfl; exact rfl)
    | (apply WD.kl_store; exact rfl; rotate_left; exact rfl; (first | (apply LO.storeOI; exact rfl; exact rfl; exact t2A; exact seA; (first | omega | (simp only [List.length_set]; omega))) | (apply LO.storeQ; exact rfl; exact rfl; exact t6A; exact hmA; exact seA; omega) | (apply LO.storeL1; exact rfl; exact rfl; exact t6A; exact hmA; exact seA; omega) | (apply LO.storeI; exact rfl; exact rfl; exact t2A; exact seA; (first | omega | (simp only [List.length_set, List.length_replicate]; omega))) | (apply LO.storeWI; exact rfl; exact rfl; exact seA; exact t6A; (first | omega | (simp only [List.length_set, List.length_replicate]; omega)); (first | (simp only [List.length_map, List.length_set, List.length_replicate, ints]; omega) | rfl)) | (apply LO.store1; exact rfl; exact rfl; exact t2A; (first | exact One.lit rfl rfl | (apply One.sl; exact knA)); exact seA; (first | (simp only [List.length_cons, List.length_nil]; omega) | (simp; omega)); (first | (simp only [List.set_cons_succ, List.set_cons_zero]; exact rfl) | exact rfl)) | (apply LO.storeO1; exact rfl; exact rfl; exact t2A; (first | exact One.lit rfl rfl | (apply One.sl; exact knA)); exact seA; (first | (simp only [List.length_cons, List.length_nil]; omega) | (simp; omega)); (first | (simp only [List.set_cons_succ, List.set_cons_zero]; exact rfl) | exact rfl)) | (apply LO.storeL; exact rfl; exact rfl; exact seA; exact t6A; exact rfl; exact rfl; (repeat (first | exact OneL.nil | (apply OneL.cons; (first | exact One.lit rfl rfl | (apply One.sl; exact knA))))))); constructor; exact ltA))
  exact Bx.h h) : G := s ⟨h⟩
theorem goG {G G' : Prop} (h : G') (s : Bx G' → G := by
  intro h
  (first
    | (apply WL.kl_alloc; rotate_left; exact rfl; exact rfl; apply LO.alloc'; (first | exact t0A))
    | (apply WL.kl_box; rotate_left; exact rfl; exact rfl; (first | (apply LO.boxA; exact rfl) | (apply LO.box1; exact rfl; (first | exact One.lit rfl rfl | (apply One.sl; exact knA))))))
  exact Bx.h h) : G := s ⟨h⟩
theorem goV {G G' : Prop} (h : G') (s : Bx G' → G := by
  intro h
  (first
    | (apply WL.kl_ms; rotate_left; exact rfl; exact rfl; (apply LO.makeI; exact rfl; exact rfl; (repeat (first | (with_reducible apply NatI.add) | (with_reducible exact NatI.one) | exact NatI.cast _)); omega))
    | (apply WL.kl_ms; rotate_left; exact rfl; exact rfl; (apply LO.makeR; exact rfl; exact rfl; (repeat (first | (with_reducible apply NatI.add) | (with_reducible exact NatI.one) | exact NatI.cast _)); omega))
    | (apply WL.kl_ms; rotate_left; exact rfl; exact rfl; (apply LO.makeLn; exact rfl; exact rfl; (repeat (first | (with_reducible apply NatI.add) | (with_reducible exact NatI.one) | exact NatI.cast _)); omega))
    | (apply WL.kl_bs; rotate_left; exact rfl; exact rfl; (apply LO.bsR0))
    | (apply WL.kl_bs; rotate_left; exact rfl; exact rfl; (apply LO.bsB0))
    | (apply WL.kl_bs; rotate_left; exact rfl; exact rfl; (apply LO.bsR1; exact rfl))
    | (apply WL.kl_bs; rotate_left; exact rfl; exact rfl; (apply LO.bsB1; exact rfl))
    | (apply WL.kl_bs; rotate_left; exact rfl; exact rfl; (apply LO.bsT1; exact rfl; exact knA))
    | (apply WL.kl_app; rotate_left; exact rfl; exact rfl; (apply LO.appRo; exact rfl; exact rfl; exact meA; exact hmA; omega; (intro _; exact seA); omega))
    | (apply WL.kl_app; rotate_left; exact rfl; exact rfl; (apply LO.appBf; exact rfl; exact rfl; exact hmA; (intro _; exact seA); omega))
    | (apply WL.kl_app; rotate_left; exact rfl; exact rfl; (apply LO.appR1; exact rfl; exact rfl; exact meA; exact hmA; (intro _; exact seA); omega))
    | (apply WL.kl_app; rotate_left; exact rfl; exact rfl; (apply LO.appB1; exact rfl; exact rfl; exact meA; exact hmA; (intro _; exact seA); omega))
    | (apply WL.kl_app; rotate_left; exact rfl; exact rfl; (apply LO.appT1; exact rfl; exact rfl; exact meA; (first | exact One.lit rfl rfl | (apply One.sl; exact knA)); (intro _; exact seA); (simp only [List.length_append, List.length_cons, List.length_nil, List.length_map, List.length_range]; omega)))
    | (apply WL.kl_bs; rotate_left; exact rfl; exact rfl; apply LO.bs1; exact t5A; (repeat (first | exact EvP.nil | (apply EvP.cons; exact rfl))); (intro _; kernel_rfl); exact rfl; omega)
    | (apply WL.kl_app; rotate_left; exact rfl; exact rfl; apply LO.app; exact t4A; exact rfl; exact rfl; (first | (focus (apply SrcE.ints; exact hmA; done)) | (focus (apply SrcE.own1; exact meA; done)) | (focus (apply SrcE.one; exact meA; exact rfl; decide; done))); (intro v; exact seA); exact onA; exact leA; exact leA))
  exact Bx.h h) : G := s ⟨h⟩
theorem goDG {G G' : Prop} (h : G') (s : Bx G' → G := by
  intro h
  (first
    | (apply WD.kl_alloc; exact rfl; rotate_left; exact rfl; exact rfl; apply LO.alloc'; (first | exact t0A); apply allAnd; (intro _; exact ltA))
    | (apply WD.kl_box; exact rfl; rotate_left; exact rfl; exact rfl; (first | (apply LO.boxA; exact rfl) | (apply LO.box1; exact rfl; (first | exact One.lit rfl rfl | (apply One.sl; exact knA)))); apply allAnd; (intro _; exact ltA)))
  exact Bx.h h) : G := s ⟨h⟩
theorem goDV {G G' : Prop} (h : G') (s : Bx G' → G := by
  intro h
  (first
    | (apply WD.kl_ms; exact rfl; rotate_left; exact rfl; exact rfl; (apply LO.makeI; exact rfl; exact rfl; (repeat (first | (with_reducible apply NatI.add) | (with_reducible exact NatI.one) | exact NatI.cast _)); omega); apply allAnd; (intro _; exact ltA))
    | (apply WD.kl_ms; exact rfl; rotate_left; exact rfl; exact rfl; (apply LO.makeR; exact rfl; exact rfl; (repeat (first | (with_reducible apply NatI.add) | (with_reducible exact NatI.one) | exact NatI.cast _)); omega); apply allAnd; (intro _; exact ltA))
    | (apply WD.kl_ms; exact rfl; rotate_left; exact rfl; exact rfl; (apply LO.makeLn; exact rfl; exact rfl; (repeat (first | (with_reducible apply NatI.add) | (with_reducible exact NatI.one) | exact NatI.cast _)); omega); apply allAnd; (intro _; exact ltA))
    | (apply WD.kl_bs; exact rfl; rotate_left; exact rfl; exact rfl; (apply LO.bsR0); apply allAnd; (intro _; exact ltA))
    | (apply WD.kl_bs; exact rfl; rotate_left; exact rfl; exact rfl; (apply LO.bsB0); apply allAnd; (intro _; exact ltA))
    | (apply WD.kl_bs; exact rfl; rotate_left; exact rfl; exact rfl; (apply LO.bsR1; exact rfl); apply allAnd; (intro _; exact ltA))
    | (apply WD.kl_bs; exact rfl; rotate_left; exact rfl; exact rfl; (apply LO.bsB1; exact rfl); apply allAnd; (intro _; exact ltA))
    | (apply WD.kl_bs; exact rfl; rotate_left; exact rfl; exact rfl; (apply LO.bsT1; exact rfl; exact knA); apply allAnd; (intro _; exact ltA))
    | (apply WD.kl_app; exact rfl; rotate_left; exact rfl; exact rfl; (apply LO.appRo; exact rfl; exact rfl; exact meA; exact hmA; omega; (intro _; exact seA); omega); apply allAnd; (intro _; exact ltA))
    | (apply WD.kl_app; exact rfl; rotate_left; exact rfl; exact rfl; (apply LO.appBf; exact rfl; exact rfl; exact hmA; (intro _; exact seA); omega); apply allAnd; (intro _; exact ltA))
    | (apply WD.kl_app; exact rfl; rotate_left; exact rfl; exact rfl; (apply LO.appR1; exact rfl; exact rfl; exact meA; exact hmA; (intro _; exact seA); omega); apply allAnd; (intro _; exact ltA))
    | (apply WD.kl_app; exact rfl; rotate_left; exact rfl; exact rfl; (apply LO.appB1; exact rfl; exact rfl; exact meA; exact hmA; (intro _; exact seA); omega); apply allAnd; (intro _; exact ltA))
    | (apply WD.kl_app; exact rfl; rotate_left; exact rfl; exact rfl; (apply LO.appT1; exact rfl; exact rfl; exact meA; (first | exact One.lit rfl rfl | (apply One.sl; exact knA)); (intro _; exact seA); (simp only [List.length_append, List.length_cons, List.length_nil, List.length_map, List.length_range]; omega)); apply allAnd; (intro _; exact ltA))
    | (apply WD.kl_bs; exact rfl; rotate_left; exact rfl; exact rfl; apply LO.bs1; exact t5A; (repeat (first | exact EvP.nil | (apply EvP.cons; exact rfl))); (intro _; kernel_rfl); exact rfl; omega; apply allAnd; (intro _; exact ltA))
    | (apply WD.kl_app; exact rfl; rotate_left; exact rfl; exact rfl; apply LO.app; exact t4A; exact rfl; exact rfl; (first | (focus (apply SrcE.ints; exact hmA; done)) | (focus (apply SrcE.own1; exact meA; done)) | (focus (apply SrcE.one; exact meA; exact rfl; decide; done))); (intro v; exact seA); exact onA; exact leA; exact leA; apply allAnd; (intro _; exact ltA)))
  exact Bx.h h) : G := s ⟨h⟩
theorem goLG {G G' : Prop} (h : G') (s : Bx G' → G := by
  intro h
  (first
    | (apply LO.alloc'; (first | exact t0A); apply allAnd; (intro _; exact ltA))
    | ((first | (apply LO.boxA; exact rfl) | (apply LO.box1; exact rfl; (first | exact One.lit rfl rfl | (apply One.sl; exact knA)))); apply allAnd; (intro _; exact ltA)))
  exact Bx.h h) : G := s ⟨h⟩
theorem goLV {G G' : Prop} (h : G') (s : Bx G' → G := by
  intro h
  (first
    | (apply LO.bs1; exact t5A; (repeat (first | exact EvP.nil | (apply EvP.cons; exact rfl))); (intro _; kernel_rfl); exact rfl; omega; apply allAnd; (intro _; exact ltA))
    | (apply LO.app; exact t4A; exact rfl; exact rfl; (first | (focus (apply SrcE.ints; exact hmA; done)) | (focus (apply SrcE.own1; exact meA; done)) | (focus (apply SrcE.one; exact meA; exact rfl; decide; done))); (intro v; exact seA); exact onA; exact leA; exact leA; apply allAnd; (intro _; exact ltA))
    | ((apply LO.makeI; exact rfl; exact rfl; (repeat (first | (with_reducible apply NatI.add) | (with_reducible exact NatI.one) | exact NatI.cast _)); omega); apply allAnd; (intro _; exact ltA))
    | ((apply LO.makeR; exact rfl; exact rfl; (repeat (first | (with_reducible apply NatI.add) | (with_reducible exact NatI.one) | exact NatI.cast _)); omega); apply allAnd; (intro _; exact ltA))
    | ((apply LO.makeLn; exact rfl; exact rfl; (repeat (first | (with_reducible apply NatI.add) | (with_reducible exact NatI.one) | exact NatI.cast _)); omega); apply allAnd; (intro _; exact ltA))
    | ((apply LO.bsR0); apply allAnd; (intro _; exact ltA))
    | ((apply LO.bsB0); apply allAnd; (intro _; exact ltA))
    | ((apply LO.bsR1; exact rfl); apply allAnd; (intro _; exact ltA))
    | ((apply LO.bsB1; exact rfl); apply allAnd; (intro _; exact ltA))
    | ((apply LO.bsT1; exact rfl; exact knA); apply allAnd; (intro _; exact ltA))
    | ((apply LO.appRo; exact rfl; exact rfl; exact meA; exact hmA; omega; (intro _; exact seA); omega); apply allAnd; (intro _; exact ltA))
    | ((apply LO.appBf; exact rfl; exact rfl; exact hmA; (intro _; exact seA); omega); apply allAnd; (intro _; exact ltA))
    | ((apply LO.appR1; exact rfl; exact rfl; exact meA; exact hmA; (intro _; exact seA); omega); apply allAnd; (intro _; exact ltA))
    | ((apply LO.appB1; exact rfl; exact rfl; exact meA; exact hmA; (intro _; exact seA); omega); apply allAnd; (intro _; exact ltA))
    | ((apply LO.appT1; exact rfl; exact rfl; exact meA; (first | exact One.lit rfl rfl | (apply One.sl; exact knA)); (intro _; exact seA); (simp only [List.length_append, List.length_cons, List.length_nil, List.length_map, List.length_range]; omega)); apply allAnd; (intro _; exact ltA)))
  exact Bx.h h) : G := s ⟨h⟩
theorem goLS {G G' : Prop} (h : G') (s : Bx G' → G := by
  intro h
  (first
    | ((first | (apply LO.storeOI; exact rfl; exact rfl; exact t2A; exact seA; (first | omega | (simp only [List.length_set]; omega))) | (apply LO.storeQ; exact rfl; exact rfl; exact t6A; exact hmA; exact seA; omega) | (apply LO.storeL1; exact rfl; exact rfl; exact t6A; exact hmA; exact seA; omega) | (apply LO.storeI; exact rfl; exact rfl; exact t2A; exact seA; (first | omega | (simp only [List.length_set, List.length_replicate]; omega))) | (apply LO.storeWI; exact rfl; exact rfl; exact seA; exact t6A; (first | omega | (simp only [List.length_set, List.length_replicate]; omega)); (first | (simp only [List.length_map, List.length_set, List.length_replicate, ints]; omega) | rfl)) | (apply LO.store1; exact rfl; exact rfl; exact t2A; (first | exact One.lit rfl rfl | (apply One.sl; exact knA)); exact seA; (first | (simp only [List.length_cons, List.length_nil]; omega) | (simp; omega)); (first | (simp only [List.set_cons_succ, List.set_cons_zero]; exact rfl) | exact rfl)) | (apply LO.storeO1; exact rfl; exact rfl; exact t2A; (first | exact One.lit rfl rfl | (apply One.sl; exact knA)); exact seA; (first | (simp only [List.length_cons, List.length_nil]; omega) | (simp; omega)); (first | (simp only [List.set_cons_succ, List.set_cons_zero]; exact rfl) | exact rfl)) | (apply LO.storeL; exact rfl; exact rfl; exact seA; exact t6A; exact rfl; exact rfl; (repeat (first | exact OneL.nil | (apply OneL.cons; (first | exact One.lit rfl rfl | (apply One.sl; exact knA))))))); constructor; exact ltA))
  exact Bx.h h) : G := s ⟨h⟩
section
variable {P : Program} {n : Nat} {L rest : List Oper} {e : Env} {bx b0 : List Ow} {F F0 : List Fct} {Q : Env → List Ow → List Fct → Prop} {d i : Nat} {ty : TypeId} {pos : String} {af : Array Edge} {g : Option (Nat × Bool)} {hs : List Nat} {r : Plan}
  {f : FuncId} {x : Operand} {args : List Operand} {ats : Array TypeId} {vs cs : List Value} {F' : List Fct} {u : Value} {el sz : Nat}
theorem WL.callV (hf : FnB P f vs [] F' (IsV u)) (hK : WL P n L rest ((d, u) :: e) bx F Q) (hx : ev e x = some (.func (.func f) #[] #[]) := by exact rfl) (hv : Evs e args vs := by repeat (first | exact Evs.nil | (apply Evs.cons; exact rfl))) (hF : HasAllB bx F F' := by repeat (first | exact HasAllB.nil | (apply HasAllB.cons; (first | (focus (apply HasB.oI; exact meA; done)) | (focus (apply HasB.c; exact meA; done)) | (focus (apply HasB.f; exact hsA; done)) | (focus (apply HasB.fR; exact meA; exact hmA; done)) | (focus (apply HasB.fB; exact meA; exact hmA; done)) | (focus (apply HasB.fL; exact meA; exact hmA; done)) | (focus (apply HasB.and; (focus (apply HasB.c; exact meA; done)); (focus (apply HasB.c; exact meA; done)); done))))))
    (hd : Nat.blt d n = true := by exact rfl) (hg : gok L e g = some true := by exact rfl) : WL P n L (⟨some d, .call { callee := .value x, args := args.toArray, argTypes := ats }, ty, pos, af, g⟩ :: rest) e bx F Q :=
  WL.l hd hg (LO.callRV hx hv hf hF hK)
theorem WL.callO (hf : FnB P f vs [] F' (IsO el sz cs)) (hK : ∀ v, WL P n L rest ((d, v) :: e) (Ow.slice v el sz cs :: bx) F Q) (hx : ev e x = some (.func (.func f) #[] #[]) := by exact rfl) (hv : Evs e args vs := by repeat (first | exact Evs.nil | (apply Evs.cons; exact rfl))) (hF : HasAllB bx F F' := by repeat (first | exact HasAllB.nil | (apply HasAllB.cons; (first | (focus (apply HasB.oI; exact meA; done)) | (focus (apply HasB.c; exact meA; done)) | (focus (apply HasB.f; exact hsA; done)) | (focus (apply HasB.fR; exact meA; exact hmA; done)) | (focus (apply HasB.fB; exact meA; exact hmA; done)) | (focus (apply HasB.fL; exact meA; exact hmA; done)) | (focus (apply HasB.and; (focus (apply HasB.c; exact meA; done)); (focus (apply HasB.c; exact meA; done)); done))))))
    (hd : Nat.blt d n = true := by exact rfl) (hg : gok L e g = some true := by exact rfl) : WL P n L (⟨some d, .call { callee := .value x, args := args.toArray, argTypes := ats }, ty, pos, af, g⟩ :: rest) e bx F Q :=
  WL.l hd hg (LO.callRO hx hv hf hF hK)
theorem WL.callF {R : RPost} (first cap : List Value) (hf : FnB P f (first ++ vs ++ cap) [] F' R) (hK : ∀ v b G, R v b G → WL P n L rest ((d, v) :: e) (b ++ bx) F Q) (hx : ev e x = some (.func (.func f) first.toArray cap.toArray) := by exact rfl) (hv : Evs e args vs := by repeat (first | exact Evs.nil | (apply Evs.cons; exact rfl))) (hF : HasAllB bx F F' := by repeat (first | exact HasAllB.nil | (apply HasAllB.cons; (first | (focus (apply HasB.oI; exact meA; done)) | (focus (apply HasB.c; exact meA; done)) | (focus (apply HasB.f; exact hsA; done)) | (focus (apply HasB.fR; exact meA; exact hmA; done)) | (focus (apply HasB.fB; exact meA; exact hmA; done)) | (focus (apply HasB.fL; exact meA; exact hmA; done)) | (focus (apply HasB.and; (focus (apply HasB.c; exact meA; done)); (focus (apply HasB.c; exact meA; done)); done))))))
    (hd : Nat.blt d n = true := by exact rfl) (hg : gok L e g = some true := by exact rfl) : WL P n L (⟨some d, .call { callee := .value x, args := args.toArray, argTypes := ats }, ty, pos, af, g⟩ :: rest) e bx F Q :=
  WL.l hd hg (LO.callR hx hv hf hF hK)
theorem WL.callP {R : RPost} (hf : FnB P f vs [] F' R) (hK : ∀ v b G, R v b G → WL P n L rest ((d, v) :: e) (b ++ bx) F Q) (hx : ev e x = some (.func (.func f) #[] #[]) := by exact rfl) (hv : Evs e args vs := by repeat (first | exact Evs.nil | (apply Evs.cons; exact rfl))) (hF : HasAllB bx F F' := by repeat (first | exact HasAllB.nil | (apply HasAllB.cons; (first | (focus (apply HasB.oI; exact meA; done)) | (focus (apply HasB.c; exact meA; done)) | (focus (apply HasB.f; exact hsA; done)) | (focus (apply HasB.fR; exact meA; exact hmA; done)) | (focus (apply HasB.fB; exact meA; exact hmA; done)) | (focus (apply HasB.fL; exact meA; exact hmA; done)) | (focus (apply HasB.and; (focus (apply HasB.c; exact meA; done)); (focus (apply HasB.c; exact meA; done)); done))))))
    (hd : Nat.blt d n = true := by exact rfl) (hg : gok L e g = some true := by exact rfl) : WL P n L (⟨some d, .call { callee := .value x, args := args.toArray, argTypes := ats }, ty, pos, af, g⟩ :: rest) e bx F Q :=
  WL.l hd hg (LO.callR (first := []) (cap := []) hx hv (by simpa using hf) hF hK)
theorem WD.callP {R : RPost} (hf : FnB P f vs [] F' R) (hK : ∀ v b G, R v b G → WD P n L hs b0 F0 r ((d, v) :: e) (b ++ bx) F Q) (hL : L[i]? = some ⟨some d, .call { callee := .value x, args := args.toArray, argTypes := ats }, ty, pos, af, g⟩ := by exact rfl) (hx : ev e x = some (.func (.func f) #[] #[]) := by exact rfl) (hv : Evs e args vs := by repeat (first | exact Evs.nil | (apply Evs.cons; exact rfl))) (hF : HasAllB bx F F' := by repeat (first | exact HasAllB.nil | (apply HasAllB.cons; (first | (focus (apply HasB.oI; exact meA; done)) | (focus (apply HasB.c; exact meA; done)) | (focus (apply HasB.f; exact hsA; done)) | (focus (apply HasB.fR; exact meA; exact hmA; done)) | (focus (apply HasB.fB; exact meA; exact hmA; done)) | (focus (apply HasB.fL; exact meA; exact hmA; done)) | (focus (apply HasB.and; (focus (apply HasB.c; exact meA; done)); (focus (apply HasB.c; exact meA; done)); done))))))
    (hd : Nat.blt d n = true := by exact rfl) (hg : gok L e g = some true := by exact rfl) (lt : lateB L hs i = true ∨ (b0.Sublist bx ∧ ∀ f ∈ F0, f ∈ F) := by exact ltA) : WD P n L hs b0 F0 (.loud i r) e bx F Q :=
  WD.l hL hd hg (LO.callR (first := []) (cap := []) hx hv (by simpa using hf) hF fun v b G hR => ⟨lt.imp id fun h => ⟨h.1.trans (List.sublist_append_right _ _), h.2⟩, hK v b G hR⟩)
theorem WD.callV (hf : FnB P f vs [] F' (IsV u)) (hK : WD P n L hs b0 F0 r ((d, u) :: e) bx F Q) (hL : L[i]? = some ⟨some d, .call { callee := .value x, args := args.toArray, argTypes := ats }, ty, pos, af, g⟩ := by exact rfl) (hx : ev e x = some (.func (.func f) #[] #[]) := by exact rfl) (hv : Evs e args vs := by repeat (first | exact Evs.nil | (apply Evs.cons; exact rfl))) (hF : HasAllB bx F F' := by repeat (first | exact HasAllB.nil | (apply HasAllB.cons; (first | (focus (apply HasB.oI; exact meA; done)) | (focus (apply HasB.c; exact meA; done)) | (focus (apply HasB.f; exact hsA; done)) | (focus (apply HasB.fR; exact meA; exact hmA; done)) | (focus (apply HasB.fB; exact meA; exact hmA; done)) | (focus (apply HasB.fL; exact meA; exact hmA; done)) | (focus (apply HasB.and; (focus (apply HasB.c; exact meA; done)); (focus (apply HasB.c; exact meA; done)); done))))))
    (hd : Nat.blt d n = true := by exact rfl) (hg : gok L e g = some true := by exact rfl) (lt : lateB L hs i = true ∨ (b0.Sublist bx ∧ ∀ f ∈ F0, f ∈ F) := by exact ltA) : WD P n L hs b0 F0 (.loud i r) e bx F Q :=
  WD.l hL hd hg (LO.callRV hx hv hf hF ⟨lt, hK⟩)
theorem WD.callO (hf : FnB P f vs [] F' (IsO el sz cs)) (hK : ∀ v, WD P n L hs b0 F0 r ((d, v) :: e) (Ow.slice v el sz cs :: bx) F Q) (hL : L[i]? = some ⟨some d, .call { callee := .value x, args := args.toArray, argTypes := ats }, ty, pos, af, g⟩ := by exact rfl) (hx : ev e x = some (.func (.func f) #[] #[]) := by exact rfl) (hv : Evs e args vs := by repeat (first | exact Evs.nil | (apply Evs.cons; exact rfl))) (hF : HasAllB bx F F' := by repeat (first | exact HasAllB.nil | (apply HasAllB.cons; (first | (focus (apply HasB.oI; exact meA; done)) | (focus (apply HasB.c; exact meA; done)) | (focus (apply HasB.f; exact hsA; done)) | (focus (apply HasB.fR; exact meA; exact hmA; done)) | (focus (apply HasB.fB; exact meA; exact hmA; done)) | (focus (apply HasB.fL; exact meA; exact hmA; done)) | (focus (apply HasB.and; (focus (apply HasB.c; exact meA; done)); (focus (apply HasB.c; exact meA; done)); done))))))
    (hd : Nat.blt d n = true := by exact rfl) (hg : gok L e g = some true := by exact rfl) (lt : lateB L hs i = true ∨ (b0.Sublist bx ∧ ∀ f ∈ F0, f ∈ F) := by exact ltA) : WD P n L hs b0 F0 (.loud i r) e bx F Q :=
  WD.l hL hd hg (LO.callRO hx hv hf hF fun v => ⟨lt.imp id fun h => ⟨h.1.trans (List.sublist_cons_self _ _), h.2⟩, hK v⟩)
end
end G
end Go.Proofs.YthggloiigkbfeaaGreat
namespace Go.Proofs.YthggloiigkbfeaaGreat
open W Go.RowKit
/-- answers k parts of D -/
def IsW (D : Nat) (k : Int) : RPost := fun v b G => ∃ m : QM, v = qv m ∧ b = [] ∧ G = [isQ (qv m) (wq D k)]
theorem isW_of {P : Program} {f : FuncId} {ag : List Value} {bx : List Ow} {F : List Fct} {D : Nat} {k : Int} {q : Rat} (h : FnB P f ag bx F (IsQ q)) (hq : q = wq D k) : FnB P f ag bx F (IsW D k) :=
  h.mono fun v b G ⟨nb, d1, d2, h1, h2, h3, h4⟩ => ⟨(nb, d1, d2), h1, h3, by rw [h4, hq]⟩
section
variable (D : Nat) [Den D] (m1 m2 : QM) (a b : Int)
theorem addw_c (ha : Lim a) (hb : Lim b) : FnB Tryz.prog 36 [qv m1, qv m2] [] [isQ (qv m1) (wq D a), isQ (qv m2) (wq D b)] (IsW D (a + b)) := isW_of (Rta.add_c _ _ _ _ (wq_Sm ha) (wq_Sm hb)) (wq_add a b)
theorem subw_c (ha : Lim a) (hb : Lim b) : FnB Tryz.prog 44 [qv m1, qv m2] [] [isQ (qv m1) (wq D a), isQ (qv m2) (wq D b)] (IsW D (a - b)) := isW_of (Rtc.sub_c _ _ _ _ (wq_Sm ha) (wq_Sm hb)) (wq_sub a b)
theorem negw_c : FnB Tryz.prog 97 [qv m1] [] [isQ (qv m1) (wq D a)] (IsW D (-a)) := isW_of (Rta.neg_c _ _) (wq_neg a)
theorem cmpw_c (ha : Lim a) (hb : Lim b) : FnB Tryz.prog 37 [qv m1, qv m2] [] [isQ (qv m1) (wq D a), isQ (qv m2) (wq D b)] (IsV (.int .i64 (cmpI a b))) := by
  rw [← wq_cmp (D := D)]; exact Rtc.qcompare_c _ _ _ _ (wq_Sm ha) (wq_Sm hb)
theorem signw_c : FnB Tryz.prog 38 [qv m1] [] [isQ (qv m1) (wq D a)] (IsV (.int .i64 (sgn a))) := by
  rw [← wq_sgn (D := D)]; exact Rta.sign_c _ _
theorem samew_c : FnB Tryz.prog 20 [qv m1, qv m2] [] [isQ (qv m1) (wq D a), isQ (qv m2) (wq D b)] (IsV (.bool (decide (a = b)))) := by
  have := Rtc.same_c (qv m1) (qv m2) (wq D a) (wq D b)
  rwa [show decide (wq D a = wq D b) = decide (a = b) from decide_eq_decide.2 wq_inj] at this
theorem raddw_c (ha : Lim a) (hb : Lim b) : FnB Tryz.prog 127 [qv m1, qv m2] [] [isQ (qv m1) (wq D a), isQ (qv m2) (wq D b)] (IsW D (a + b)) := isW_of (Rp.rqadd_c _ _ _ _ (wq_Sm ha) (wq_Sm hb)) (wq_add a b)
theorem rcmpw_c (ha : Lim a) (hb : Lim b) : FnB Tryz.prog 128 [qv m1, qv m2] [] [isQ (qv m1) (wq D a), isQ (qv m2) (wq D b)] (IsV (.int .i64 (cmpI a b))) := by
  rw [← wq_cmp (D := D)]; exact Rp.rqcompare_c _ _ _ _ (wq_Sm ha) (wq_Sm hb)
theorem rsignw_c : FnB Tryz.prog 77 [qv m1] [] [isQ (qv m1) (wq D a)] (IsV (.int .i64 (sgn a))) := by
  rw [← wq_sgn (D := D)]; exact Rp.rqsign_c _ _
theorem rsamew_c : FnB Tryz.prog 34 [qv m1, qv m2] [] [isQ (qv m1) (wq D a), isQ (qv m2) (wq D b)] (IsV (.bool (decide (a = b)))) := by
  have := Rp.rqsame_c (qv m1) (qv m2) (wq D a) (wq D b)
  rwa [show decide (wq D a = wq D b) = decide (a = b) from decide_eq_decide.2 wq_inj] at this
theorem ofw_c (p q : Int) (k : Nat) (h : (D : Int) = q * k) (hq : q ≠ 0) (h1 : p.natAbs < B2) (h2 : q.natAbs < B2) : FnB Tryz.prog 21 [.int .i64 p, .int .i64 q] [] [] (IsW D (p * k)) := isW_of (Rta.of_c p q h1 h2) (wq_of h hq)
theorem rofw_c (p q : Int) (k : Nat) (h : (D : Int) = q * k) (hq : q ≠ 0) (h1 : p.natAbs < B2) (h2 : q.natAbs < B2) : FnB Tryz.prog 18 [.int .i64 p, .int .i64 q] [] [] (IsW D (p * k)) := isW_of (Rp.rqof_c p q h1 h2) (wq_of h hq)
end
end Go.Proofs.YthggloiigkbfeaaGreat
namespace Go.Proofs.YthggloiigkbfeaaGreat
open W Go.RowKit
theorem validB_t {n : Int} {bs : List Bd} (h1 : 1 ≤ n) (h2 : n ≤ 32) (h3 : bs.length ≤ 2048) (h : ∀ i, i < bs.length → (bg bs i).ok n) : validB n bs = true := decide_eq_true ⟨⟨h1, h2⟩, h3, h⟩
theorem validB_f {n : Int} {bs : List Bd} (h : ¬ ((1 ≤ n ∧ n ≤ 32) ∧ bs.length ≤ 2048)) : validB n bs = false := decide_eq_false fun c => h ⟨c.1, c.2.1⟩
theorem validB_fi {n : Int} {bs : List Bd} {i : Nat} (hi : i < bs.length) (h : ¬ (bg bs i).ok n) : validB n bs = false := decide_eq_false fun c => h (c.2.2 i hi)
/-- a valid system of n unknowns -/
structure Vld (n : Nat) (bs : List Bd) : Prop where
  n1 : 1 ≤ n
  n2 : n ≤ 32
  l : bs.length ≤ 2048
  ok : ∀ i, i < bs.length → (bg bs i).ok n
theorem Vld.of {n : Int} {bs : List Bd} (h : validB n bs = true) : ∃ m : Nat, n = m ∧ Vld m bs := by
  obtain ⟨⟨h1, h2⟩, h3, h4⟩ := of_decide_eq_true h
  refine ⟨n.toNat, by omega, ⟨by omega, by omega, h3, fun i hi => ?_⟩⟩
  rw [show ((n.toNat : Nat) : Int) = n by omega]; exact h4 i hi
/-- the length of a path -/
def lenP (bs : List Bd) (l : List Int) : Int := (l.map fun i => (bg bs i.toNat).w).sum
theorem lenP_snoc (bs : List Bd) (l : List Int) (i : Int) : lenP bs (l ++ [i]) = lenP bs l + (bg bs i.toNat).w := by simp [lenP]
/-- the sum of all that bounds may add -/
def absS (bs : List Bd) : Nat := (bs.map fun b => b.w.natAbs).sum
theorem absS_le {bs : List Bd} {i : Nat} : (bg bs i).w.natAbs ≤ absS bs := by
  unfold absS bg
  induction bs generalizing i with
  | nil => simp [bd0]
  | cons b bs ih =>
    cases i with
    | zero => simp
    | succ i => have := @ih i; simp at this ⊢; omega
theorem lenP_le {bs : List Bd} (l : List Int) : (lenP bs l).natAbs ≤ l.length * absS bs := by
  induction l with
  | nil => simp [lenP]
  | cons i l ih =>
    have h1 := @absS_le bs i.toNat
    have h2 : lenP bs (i :: l) = (bg bs i.toNat).w + lenP bs l := by simp [lenP]
    rw [h2, List.length_cons, Nat.add_mul]
    omega
/-- x solves the bounds -/
def Sol (bs : List Bd) (x : List Int) : Prop := ∀ i, i < bs.length → x.getD (bg bs i).to.toNat 0 ≤ x.getD (bg bs i).fr.toNat 0 + (bg bs i).w
instance (bs : List Bd) (x : List Int) : Decidable (Sol bs x) := by unfold Sol; infer_instance
namespace G
attribute [local irreducible] WC WL WD YO LO LoopEnd W.Fin Scalar SliceT FieldAt Row ArrT AllocT KnS Has W.One SrcE IntT
set_option maxHeartbeats 2000000 in
set_option maxRecDepth 60000 in
theorem valid_c (D : Nat) (v : Value) (ms : Nat → QM) (bs : List Bd) (n : Int) : FnB Tryz.prog 73 [.int .i64 n, v] [] [fB D v ms bs] (IsV (.bool (validB n bs))) := by
  refine fn_of [(0, (.int .i64 n)), (1, v)] 55 Tryz.func73 rfl Tryz.ntmps73 (by kernel_rfl) rfl suA fun h0 => ?_
  by_cases c1 : n < 1
  · repeat' (first | refine go ?_ | refine goX ?_ | refine goB ?_ | (refine goG ?_; intro g) | (refine goV ?_; intro v))
    exact WC.ret (Fin.v (ResE.t1 rfl rfl) meA (by rw [validB_f (by omega)]))
  by_cases c2 : 32 < n
  · repeat' (first | refine go ?_ | refine goX ?_ | refine goB ?_ | (refine goG ?_; intro g) | (refine goV ?_; intro v))
    exact WC.ret (Fin.v (ResE.t1 rfl rfl) meA (by rw [validB_f (by omega)]))
  by_cases c3 : 2048 < bs.length
  · repeat' (first | refine go ?_ | refine goX ?_ | refine goB ?_ | (refine goG ?_; intro g) | (refine goV ?_; intro v))
    exact WC.ret (Fin.v (ResE.t1 rfl rfl) meA (by rw [validB_f (by omega)]))
  repeat' (first | refine go ?_ | refine goX ?_ | refine goB ?_ | (refine goG ?_; intro g) | (refine goV ?_; intro v))
  refine WC.lp (σ := Nat) (fun i => [(5, .int .i64 (i : Int)), (0, .int .i64 n), (1, v)]) (fun _ => []) (fun _ => [ge h0, fB D v ms bs]) (fun i => i ≤ bs.length ∧ ∀ j, j < i → (bg bs j).ok n) (fun i => bs.length - i) 0 ⟨by omega, fun j h => by omega⟩ ?_
  rintro i ⟨hi, hok⟩
  by_cases hl : i < bs.length
  · by_cases d1 : (bg bs i).fr < 0
    · repeat' (first | refine go ?_ | refine goX ?_ | refine goB ?_ | (refine goG ?_; intro g) | (refine goV ?_; intro v))
      exact WC.ret (Fin.v (ResE.t1 rfl rfl) meA (by rw [validB_fi hl (fun h => by unfold Bd.ok at h; omega)]))
    by_cases d2 : n ≤ (bg bs i).fr
    · repeat' (first | refine go ?_ | refine goX ?_ | refine goB ?_ | (refine goG ?_; intro g) | (refine goV ?_; intro v))
      exact WC.ret (Fin.v (ResE.t1 rfl rfl) meA (by rw [validB_fi hl (fun h => by unfold Bd.ok at h; omega)]))
    by_cases d3 : (bg bs i).to < 0
    · repeat' (first | refine go ?_ | refine goX ?_ | refine goB ?_ | (refine goG ?_; intro g) | (refine goV ?_; intro v))
      exact WC.ret (Fin.v (ResE.t1 rfl rfl) meA (by rw [validB_fi hl (fun h => by unfold Bd.ok at h; omega)]))
    by_cases d4 : n ≤ (bg bs i).to
    · repeat' (first | refine go ?_ | refine goX ?_ | refine goB ?_ | (refine goG ?_; intro g) | (refine goV ?_; intro v))
      exact WC.ret (Fin.v (ResE.t1 rfl rfl) meA (by rw [validB_fi hl (fun h => by unfold Bd.ok at h; omega)]))
    repeat' (first | refine go ?_ | refine goX ?_ | refine goB ?_ | (refine goG ?_; intro g) | (refine goV ?_; intro v))
    refine LoopEnd.mk (i + 1) ⟨by omega, fun j hj => ?_⟩ (by show bs.length - (i + 1) < bs.length - i; omega)
    by_cases hj2 : j = i
    · subst hj2; unfold Bd.ok; omega
    · exact hok j (by omega)
  · repeat' (first | refine go ?_ | refine goX ?_ | refine goB ?_ | (refine goG ?_; intro g) | (refine goV ?_; intro v))
    exact WC.ret (Fin.v (ResE.t1 rfl rfl) meA (by rw [validB_t (by omega) (by omega) (by omega) (fun j hj => hok j (by omega))]))
end G
end Go.Proofs.YthggloiigkbfeaaGreat
namespace Go.Proofs.YthggloiigkbfeaaGreat
open W Go.RowKit
/-- the numbers of a system are small -/
def Fit (bs : List Bd) : Prop := absS bs ≤ 14000000
/-- the numbers of a list are small -/
def FitX (x : List Int) : Prop := ∀ i, (x.getD i 0).natAbs ≤ 400000000
/-- indices of bounds -/
def Idx (bs : List Bd) (l : List Int) : Prop := ∀ i, i < l.length → 0 ≤ l.getD i 0 ∧ l.getD i 0 < bs.length
theorem lenP_take {bs : List Bd} {l : List Int} {i : Nat} (h : i < l.length) : lenP bs (l.take (i + 1)) = lenP bs (l.take i) + (bg bs (l.getD i 0).toNat).w := by
  rw [List.take_add_one, ← lenP_snoc]; simp [h, List.getD_eq_getElem?_getD]
theorem lenP_take_le {bs : List Bd} (l : List Int) (i : Nat) : (lenP bs (l.take i)).natAbs ≤ l.length * absS bs := by
  refine Nat.le_trans (lenP_le _) (Nat.mul_le_mul_right _ ?_)
  simp; omega
namespace G
attribute [local irreducible] WC WL WD YO LO LoopEnd W.Fin Scalar SliceT FieldAt Row ArrT AllocT KnS Has W.One SrcE IntT
theorem d75 {G G' : Prop} (h : G') (s : Bx G' → G := by
  intro h
  first | (apply WC.draw (id := 6) [0, 1, 2, 3, 4, 5, 6, 7, 8, 9, 10, 11, 12, 13, 14, 15, 16, 17, 18, 19, 20, 23] (.held 0 (.held 1 (.held 2 (.held 3 (.held 4 (.held 5 (.held 6 (.held 7 (.held 8 (.held 9 (.held 10 (.held 11 (.held 12 (.held 13 (.held 14 (.held 15 (.held 16 (.held 17 (.held 18 (.held 19 (.held 20 (.loud 21 (.loud 22 (.held 23 (.done))))))))))))))))))))))))) mixed (by kernel_rfl)) | fail
  exact Bx.h h) : G := s ⟨h⟩
theorem d78 {G G' : Prop} (h : G') (s : Bx G' → G := by
  intro h
  first | (apply WC.draw (id := 5) [0, 1, 2, 3, 4, 5, 6, 7, 8] (.held 0 (.held 1 (.held 2 (.held 3 (.held 4 (.held 5 (.held 6 (.held 7 (.held 8 (.loud 9 (.loud 10 (.done)))))))))))) mixed (by kernel_rfl)) | fail
  exact Bx.h h) : G := s ⟨h⟩
set_option maxHeartbeats 2000000 in
set_option maxRecDepth 60000 in
theorem length_c (D : Nat) [Den D] (v u : Value) (ms : Nat → QM) (bs : List Bd) (l : List Int) (hl : Idx bs l) (hb : l.length * absS bs ≤ 400000000) (hf : Fit bs) : FnB Tryz.prog 78 [v, u] [] [fB D v ms bs, sI u l] (IsW D (lenP bs l)) := by
  refine fn_of [(0, v), (1, u)] 25 Tryz.func78 rfl Tryz.ntmps78 (by kernel_rfl) rfl suA fun h0 => ?_
  unfold Fit at hf
  refine WC.lenI u l hmA fun hlen => ?_
  refine WC.fact (isQ (qv m00) (wq D 0)) hasQ0w ?_
  repeat' (first | refine go ?_ | refine goX ?_ | refine goB ?_ | (refine goG ?_; intro g) | (refine goV ?_; intro v) | refine goD ?_ | refine goXD ?_ | (refine goDG ?_; intro g) | (refine goDV ?_; intro v) | refine d78 ?_ | fail)
  revert g; intro g5; revert g; intro g4
  refine WC.lp (σ := Nat × Int × QM) (fun s => [(6, .int .i64 (s.1 : Int)), (5, ptr g5), (4, ptr g4), (0, v), (1, u)]) (fun s => [Ow.cells g5 37 (qcs s.2.2), Ow.cells g4 37 [.bool false, .slice none 0 0, .bool false, .slice none 0 0]])
    (fun s => [isQ (qv s.2.2) (wq D s.2.1), ge h0, fB D v ms bs, sI u l]) (fun s => s.1 ≤ l.length ∧ s.2.1 = lenP bs (l.take s.1)) (fun s => l.length - s.1) (0, 0, m00) ⟨by omega, by simp [lenP]⟩ ?_
  rintro ⟨i, k, m⟩ ⟨hi, hk⟩
  simp only at hi hk ⊢
  have hkb := @lenP_take_le bs l i
  rw [← hk] at hkb
  by_cases c : i < l.length
  · obtain ⟨x1, x2⟩ := hl i c
    have hw := @absS_le bs (l.getD i 0).toNat
    refine WC.fact (isQ (qv (ms (l.getD i 0).toNat)) (wq D (bg bs (l.getD i 0).toNat).w)) (W.Has.b (W.Has.bm (v := v) hmA) (by omega)) ?_
    repeat' (first | refine go ?_ | refine goX ?_ | refine goB ?_ | (refine goG ?_; intro g) | (refine goV ?_; intro v) | refine goD ?_ | refine goXD ?_ | (refine goDG ?_; intro g) | (refine goDV ?_; intro v) | refine d78 ?_ | fail)
    first | refine WL.callK (raddw_c D m (ms (l.getD i 0).toNat) k (bg bs (l.getD i 0).toNat).w (by unfold Lim; omega) (by unfold Lim; omega)) ?_ | refine WD.callK (raddw_c D m (ms (l.getD i 0).toNat) k (bg bs (l.getD i 0).toNat).w (by unfold Lim; omega) (by unfold Lim; omega)) ?_ | refine LO.callM (raddw_c D m (ms (l.getD i 0).toNat) k (bg bs (l.getD i 0).toNat).w (by unfold Lim; omega) (by unfold Lim; omega)) ?_
    rintro _ _ _ ⟨m2, rfl, rfl, rfl⟩
    simp only [List.nil_append, List.cons_append]
    repeat' (first | refine go ?_ | refine goX ?_ | refine goB ?_ | (refine goG ?_; intro g) | (refine goV ?_; intro v) | refine goD ?_ | refine goXD ?_ | (refine goDG ?_; intro g) | (refine goDV ?_; intro v) | refine d78 ?_ | fail)
    exact LoopEnd.mk (i + 1, k + (bg bs (l.getD i 0).toNat).w, m2) ⟨by show i + 1 ≤ _; omega, by show _ = lenP bs (l.take (i + 1)); rw [lenP_take c, ← hk]⟩ (by show l.length - (i + 1) < l.length - i; omega)
  · repeat' (first | refine go ?_ | refine goX ?_ | refine goB ?_ | (refine goG ?_; intro g) | (refine goV ?_; intro v) | refine goD ?_ | refine goXD ?_ | (refine goDG ?_; intro g) | (refine goDV ?_; intro v) | refine d78 ?_ | fail)
    refine WC.ret ?_
    refine Fin.p [] [isQ (qv m) (wq D k)] (ResE.cV rfl rfl meA T.r37 rfl) meA (List.nil_sublist _) haA ⟨m, rfl, rfl, ?_⟩
    rw [hk, List.take_of_length_le (by omega)]
set_option maxHeartbeats 2000000 in
set_option maxRecDepth 60000 in
theorem solves_c (D : Nat) [Den D] (v u : Value) (ms mx : Nat → QM) (bs : List Bd) (x : List Int) (n : Nat) (hv : Vld n bs) (hx : FitX x) (hf : Fit bs) : FnB Tryz.prog 75 [.int .i64 n, v, u] [] [fB D v ms bs, fR D u mx x] (IsV (.bool (decide (x.length = n ∧ Sol bs x)))) := by
  refine fn_of [(0, (.int .i64 n)), (1, v), (2, u)] 42 Tryz.func75 rfl Tryz.ntmps75 (by kernel_rfl) rfl suA fun h0 => ?_
  unfold Fit at hf
  have hvl := hv.l
  by_cases c0 : x.length = n
  · repeat' (first | refine go ?_ | refine goX ?_ | refine goB ?_ | (refine goG ?_; intro g) | (refine goV ?_; intro v) | refine goD ?_ | refine goXD ?_ | (refine goDG ?_; intro g) | (refine goDV ?_; intro v) | refine d75 ?_ | fail)
    refine WC.lp (σ := Nat) (fun i => [(7, .int .i64 (i : Int)), (0, .int .i64 n), (1, v), (2, u)]) (fun _ => []) (fun _ => [ge h0, fB D v ms bs, fR D u mx x]) (fun i => i ≤ bs.length ∧ ∀ j, j < i → x.getD (bg bs j).to.toNat 0 ≤ x.getD (bg bs j).fr.toNat 0 + (bg bs j).w) (fun i => bs.length - i) 0 ⟨by omega, fun j h => by omega⟩ ?_
    rintro i ⟨hi, hs⟩
    by_cases c : i < bs.length
    · obtain ⟨⟨a1, a2⟩, a3, a4⟩ := hv.ok i c
      have hw := @absS_le bs i
      have x1 := hx (bg bs i).fr.toNat
      have x2 := hx (bg bs i).to.toNat
      refine WC.fact (isQ (qv (ms i)) (wq D (bg bs i).w)) (W.Has.b (W.Has.bm (v := v) hmA) (by omega)) ?_
      refine WC.fact (isQ (qv (mx (bg bs i).fr.toNat)) (wq D (x.getD (bg bs i).fr.toNat 0))) (W.Has.q (W.Has.rm (v := u) hmA) (by omega)) ?_
      refine WC.fact (isQ (qv (mx (bg bs i).to.toNat)) (wq D (x.getD (bg bs i).to.toNat 0))) (W.Has.q (W.Has.rm (v := u) hmA) (by omega)) ?_
      repeat' (first | refine go ?_ | refine goX ?_ | refine goB ?_ | (refine goG ?_; intro g) | (refine goV ?_; intro v) | refine goD ?_ | refine goXD ?_ | (refine goDG ?_; intro g) | (refine goDV ?_; intro v) | refine d75 ?_ | fail)
      first | refine WL.callK (raddw_c D (mx (bg bs i).fr.toNat) (ms i) (x.getD (bg bs i).fr.toNat 0) (bg bs i).w (by unfold Lim; omega) (by unfold Lim; omega)) ?_ | refine WD.callK (raddw_c D (mx (bg bs i).fr.toNat) (ms i) (x.getD (bg bs i).fr.toNat 0) (bg bs i).w (by unfold Lim; omega) (by unfold Lim; omega)) ?_ | refine LO.callM (raddw_c D (mx (bg bs i).fr.toNat) (ms i) (x.getD (bg bs i).fr.toNat 0) (bg bs i).w (by unfold Lim; omega) (by unfold Lim; omega)) ?_
      rintro _ _ _ ⟨m2, rfl, rfl, rfl⟩
      simp only [List.nil_append, List.cons_append]
      repeat' (first | refine go ?_ | refine goX ?_ | refine goB ?_ | (refine goG ?_; intro g) | (refine goV ?_; intro v) | refine goD ?_ | refine goXD ?_ | (refine goDG ?_; intro g) | (refine goDV ?_; intro v) | refine d75 ?_ | fail)
      first | refine WL.callV (rcmpw_c D (mx (bg bs i).to.toNat) m2 (x.getD (bg bs i).to.toNat 0) (x.getD (bg bs i).fr.toNat 0 + (bg bs i).w) (by unfold Lim; omega) (by unfold Lim; omega)) ?_ | refine WD.callV (rcmpw_c D (mx (bg bs i).to.toNat) m2 (x.getD (bg bs i).to.toNat 0) (x.getD (bg bs i).fr.toNat 0 + (bg bs i).w) (by unfold Lim; omega) (by unfold Lim; omega)) ?_
      rcases Int.lt_trichotomy (x.getD (bg bs i).to.toNat 0) (x.getD (bg bs i).fr.toNat 0 + (bg bs i).w) with h | h | h
      · rw [cmpI_lt h]
        repeat' (first | refine go ?_ | refine goX ?_ | refine goB ?_ | (refine goG ?_; intro g) | (refine goV ?_; intro v) | refine goD ?_ | refine goXD ?_ | (refine goDG ?_; intro g) | (refine goDV ?_; intro v) | refine d75 ?_ | fail)
        refine LoopEnd.mk (i + 1) ⟨by omega, fun j hj => ?_⟩ (by show bs.length - (i + 1) < bs.length - i; omega)
        by_cases hj2 : j = i
        · subst hj2; omega
        · exact hs j (by omega)
      · rw [h, show cmpI (x.getD (bg bs i).fr.toNat 0 + (bg bs i).w) (x.getD (bg bs i).fr.toNat 0 + (bg bs i).w) = 0 by unfold cmpI; simp]
        repeat' (first | refine go ?_ | refine goX ?_ | refine goB ?_ | (refine goG ?_; intro g) | (refine goV ?_; intro v) | refine goD ?_ | refine goXD ?_ | (refine goDG ?_; intro g) | (refine goDV ?_; intro v) | refine d75 ?_ | fail)
        refine LoopEnd.mk (i + 1) ⟨by omega, fun j hj => ?_⟩ (by show bs.length - (i + 1) < bs.length - i; omega)
        by_cases hj2 : j = i
        · subst hj2; omega
        · exact hs j (by omega)
      · rw [cmpI_gt h]
        repeat' (first | refine go ?_ | refine goX ?_ | refine goB ?_ | (refine goG ?_; intro g) | (refine goV ?_; intro v) | refine goD ?_ | refine goXD ?_ | (refine goDG ?_; intro g) | (refine goDV ?_; intro v) | refine d75 ?_ | fail)
        exact WC.ret (Fin.v (ResE.t1 rfl rfl) meA (by rw [decide_eq_false (fun hc => by have := hc.2 i c; omega)]))
    · repeat' (first | refine go ?_ | refine goX ?_ | refine goB ?_ | (refine goG ?_; intro g) | (refine goV ?_; intro v) | refine goD ?_ | refine goXD ?_ | (refine goDG ?_; intro g) | (refine goDV ?_; intro v) | refine d75 ?_ | fail)
      exact WC.ret (Fin.v (ResE.t1 rfl rfl) meA (by rw [decide_eq_true ⟨c0, fun j hj => hs j (by omega)⟩]))
  · repeat' (first | refine go ?_ | refine goX ?_ | refine goB ?_ | (refine goG ?_; intro g) | (refine goV ?_; intro v) | refine goD ?_ | refine goXD ?_ | (refine goDG ?_; intro g) | (refine goDV ?_; intro v) | refine d75 ?_ | fail)
    exact WC.ret (Fin.v (ResE.t1 rfl rfl) meA (by rw [decide_eq_false (fun hc => c0 hc.1)]))
end G
end Go.Proofs.YthggloiigkbfeaaGreat
