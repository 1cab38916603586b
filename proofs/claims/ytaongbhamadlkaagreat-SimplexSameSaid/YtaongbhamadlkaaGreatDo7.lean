/- Lemmas for the proof of a law: Contracts: the model's rational numbers. Conditions: none. -/
import Derived.Test.YtaongbhamadlkaaGreatDo6
import Derived.Test.YtaongbhamadlkaaGreatDo5
import Derived.Test.YtaongbhamadlkaaGreatDo3
set_option linter.unusedVariables false
set_option linter.unusedSimpArgs false
set_option linter.unusedSectionVars false
namespace Go.Proofs.YtaongbhamadlkaaGreat
open W Go.RowKit
namespace Rp
open Dvz Dvv Adc Rm Rn Ro Rtm Rtc
attribute [local irreducible] WC WL WD YO LO LoopEnd W.Fin Scalar SliceT FieldAt Row ArrT AllocT KnS Has W.One SrcE IntT
set_option maxHeartbeats 4000000 in
set_option maxRecDepth 8000 in
theorem rden_c (v : Value) (q : Rat) : FnB Tryz.prog 127 [v] [] [isQ v q] (IsZ (q.den : Int)) := by
  refine fn_of [(0, v)] 11 Tryz.func127 rfl Tryz.ntmps127 (by kernel_rfl) rfl suA fun h0 => ?_
  refine WC.openQ (v := v) (q := q) hmA fun n1 d1 d2 hv hb1 => ?_
  subst hv
  have hl := @qz_len q
  by_cases c : q.den = 1
  · have hl0 := hl.2 c
    repeat' (first | refine gA ?_ | (refine goG ?_; intro g) | (refine goV ?_; intro v))
    first | refine WL.callK (rof_c 1 (by decide) (by decide)) ?_ | refine WD.callK (rof_c 1 (by decide) (by decide)) ?_ | refine LO.callM (rof_c 1 (by decide) (by decide)) ?_
    rintro _ _ _ ⟨nb, d, rfl, hb, rfl, rfl⟩
    simp only [List.nil_append, List.cons_append]
    repeat' (first | refine gA ?_ | (refine goG ?_; intro g) | (refine goV ?_; intro v))
    rw [show ((q.den : Nat) : Int) = 1 by omega]
    refine WC.ret ?_
    exact Fin.p [] [isZ (.agg #[.bool nb, d]) 1] (ResE.cV rfl rfl meA T.r29 rfl) meA (List.nil_sublist _) haA ⟨nb, _, rfl, hb, rfl, rfl⟩
  · have hl0 : (digs (qz q).natAbs).length ≠ 0 := fun h => c (hl.1 h)
    have hz : qz q = (q.den : Int) := by unfold qz; rw [if_neg c]
    rw [hz] at hl0
    refine WC.fact (isZ (.agg #[.bool false, d2]) (q.den : Int)) (by rw [← hz]; exact hasQ_Q hmA) ?_
    repeat' (first | refine gA ?_ | (refine goG ?_; intro g) | (refine goV ?_; intro v))
    refine WC.ret ?_
    exact Fin.p [] [isZ (.agg #[.bool false, d2]) (q.den : Int)] (ResE.cV rfl rfl meA T.r29 rfl) meA (List.nil_sublist _) haA ⟨false, _, rfl, nneg_dec _, rfl, rfl⟩
set_option maxHeartbeats 4000000 in
set_option maxRecDepth 8000 in
theorem runit_c (v : Value) (z : Int) : FnB Tryz.prog 145 [v] [] [isZ v z] (IsV (.bool (decide (z = 1)))) := by
  refine fn_of [(0, v)] 16 Tryz.func145 rfl Tryz.ntmps145 (by kernel_rfl) rfl suA fun h0 => ?_
  refine WC.openZ (v := v) (z := z) hmA fun n1 d1 hv hb1 => ?_
  subst hv
  refine WC.fact (sI d1 (digs z.natAbs)) (hasZ_d hmA) ?_
  have hl1 := @len_one z.natAbs
  generalize hD : digs z.natAbs = D at *
  cases n1 with
  | true =>
    have hz : z < 0 := of_decide_eq_true hb1.symm
    repeat' (first | refine gA ?_ | (refine goG ?_; intro g) | (refine goV ?_; intro v))
    refine WC.ret ?_
    exact Fin.v (ResE.t1 rfl rfl) meA (by rw [decide_eq_false (by omega)])
  | false =>
    have hz : ¬ z < 0 := of_decide_eq_false hb1.symm
    by_cases c : D.length = 1
    · by_cases c2 : D.getD 0 0 = 1
      · have h3 := hl1.1 ⟨c, c2⟩
        have c3 : D.getD (0 : Int).toNat 0 = 1 := c2
        repeat' (first | refine gA ?_ | (refine goG ?_; intro g) | (refine goV ?_; intro v))
        refine WC.ret ?_
        exact Fin.v (ResE.t1 rfl rfl) meA (by rw [decide_eq_true (by omega)])
      · have h3 : z ≠ 1 := fun h => c2 (hl1.2 (by omega)).2
        have c3 : D.getD (0 : Int).toNat 0 ≠ 1 := c2
        repeat' (first | refine gA ?_ | (refine goG ?_; intro g) | (refine goV ?_; intro v))
        refine WC.ret ?_
        exact Fin.v (ResE.t1 rfl rfl) meA (by rw [decide_eq_false h3])
    · have h3 : z ≠ 1 := fun h => c (hl1.2 (by omega)).1
      repeat' (first | refine gA ?_ | (refine goG ?_; intro g) | (refine goV ?_; intro v))
      refine WC.ret ?_
      exact Fin.v (ResE.t1 rfl rfl) meA (by rw [decide_eq_false h3])
set_option maxHeartbeats 8000000 in
set_option maxRecDepth 8000 in
theorem rmake_c (v1 v2 : Value) (p q : Int) (h1 : Lz p.natAbs) (h2 : Lz q.natAbs) : FnB Tryz.prog 90 [v1, v2] [] [isZ v1 p, isZ v2 q] (IsQ (Rat.divInt p q)) := by
  refine fn_of [(0, v1), (1, v2)] 49 Tryz.func90 rfl Tryz.ntmps90 (by kernel_rfl) rfl suA fun h0 => ?_
  refine WC.openZ (v := v1) (z := p) hmA fun n1 d1 hv hb1 => ?_
  subst hv
  refine WC.openZ (v := v2) (z := q) hmA fun n2 d2 hv hb2 => ?_
  subst hv
  have lp := @digs_len0 p.natAbs
  have lq := @digs_len0 q.natAbs
  by_cases c0 : q = 0
  · have hl := lq.2 (by omega)
    repeat' (first | refine gA ?_ | (refine goG ?_; intro g) | (refine goV ?_; intro v))
    rw [c0, Rat.divInt_zero]
    refine WC.ret ?_
    exact Fin.p [] [isQ (.agg #[.bool false, .slice none 0 0, .bool false, .slice none 0 0]) 0] (ResE.cV rfl rfl meA T.r31 rfl) meA (List.nil_sublist _) (.cons hasQ_0 .nil) ⟨false, _, _, rfl, rfl, rfl, rfl⟩
  have hlq := len_pos (n := q.natAbs) (by omega)
  by_cases c1 : p = 0
  · have hl := lp.2 (by omega)
    repeat' (first | refine gA ?_ | (refine goG ?_; intro g) | (refine goV ?_; intro v))
    rw [c1, Rat.zero_divInt]
    refine WC.ret ?_
    exact Fin.p [] [isQ (.agg #[.bool false, .slice none 0 0, .bool false, .slice none 0 0]) 0] (ResE.cV rfl rfl meA T.r31 rfl) meA (List.nil_sublist _) (.cons hasQ_0 .nil) ⟨false, _, _, rfl, rfl, rfl, rfl⟩
  have hlp := len_pos (n := p.natAbs) (by omega)
  obtain ⟨hn, hd⟩ := num_make (p := p) (q := q) c0 c1
  have hg : 0 < Int.gcd p q := Int.gcd_pos_of_ne_zero_right _ c0
  have hg2 : Lz (Int.gcd p q) := h2.le (Nat.le_of_dvd (by omega) (Nat.gcd_dvd_right ..))
  generalize hr : Rat.divInt p q = r at *
  have hqne : q / (Int.gcd p q : Int) ≠ 0 := fun h => by
    have := Int.ediv_mul_cancel (Int.gcd_dvd_right (a := p) (b := q))
    rw [h] at this; omega
  have fin : ∀ (F : List Fct) (nb : Bool) (e1 e2 : Value), r.den ≠ 1 → Has F (isZ (.agg #[.bool nb, e1]) r.num) → Has F (isZ (.agg #[.bool false, e2]) (r.den : Int)) → nb = decide (r.num < 0) → Has F (isQ (.agg #[.bool nb, e1, .bool false, e2]) r) := fun F nb e1 e2 h1 h2 h3 hb => hasQ_of hb (hasZ_d h2) (by
    have : qz r = (r.den : Int) := by unfold qz; rw [if_neg h1]
    rw [this]; exact hasZ_d h3)
  have fin1 : ∀ (F : List Fct) (nb : Bool) (e1 : Value), r.den = 1 → Has F (isZ (.agg #[.bool nb, e1]) r.num) → nb = decide (r.num < 0) → Has F (isQ (.agg #[.bool nb, e1, .bool false, .slice none 0 0]) r) := fun F nb e1 h1 h2 hb => hasQ_of hb (hasZ_d h2) (by
    have : qz r = 0 := by unfold qz; rw [if_pos h1]
    rw [this]; simpa [digs_0] using nil0)
  repeat' (first | refine gA ?_ | (refine goG ?_; intro g) | (refine goV ?_; intro v))
  first | refine WL.callK (rgcd_c (.agg #[.bool n1, d1]) (.agg #[.bool n2, d2]) p q h1 h2) ?_ | refine WD.callK (rgcd_c (.agg #[.bool n1, d1]) (.agg #[.bool n2, d2]) p q h1 h2) ?_ | refine LO.callM (rgcd_c (.agg #[.bool n1, d1]) (.agg #[.bool n2, d2]) p q h1 h2) ?_
  rintro _ _ _ ⟨n3, d3, rfl, hb3, rfl, rfl⟩
  simp only [List.nil_append, List.cons_append]
  repeat' (first | refine gA ?_ | (refine goG ?_; intro g) | (refine goV ?_; intro v))
  revert g; intro g5
  first | refine WL.callK (rdiv_c (.agg #[.bool n1, d1]) (.agg #[.bool n3, d3]) p ((Int.gcd p q : Nat) : Int) h1 hg2 (by omega)) ?_ | refine WD.callK (rdiv_c (.agg #[.bool n1, d1]) (.agg #[.bool n3, d3]) p ((Int.gcd p q : Nat) : Int) h1 hg2 (by omega)) ?_ | refine LO.callM (rdiv_c (.agg #[.bool n1, d1]) (.agg #[.bool n3, d3]) p ((Int.gcd p q : Nat) : Int) h1 hg2 (by omega)) ?_
  rintro _ _ _ ⟨n4, d4, n5, d5, rfl, hb4, hb5, rfl, rfl⟩
  simp only [List.nil_append, List.cons_append]
  repeat' (first | refine gA ?_ | (refine goG ?_; intro g) | (refine goV ?_; intro v))
  revert g; intro g7
  first | refine WL.callK (rdiv_c (.agg #[.bool n2, d2]) (.agg #[.bool n3, d3]) q ((Int.gcd p q : Nat) : Int) h2 hg2 (by omega)) ?_ | refine WD.callK (rdiv_c (.agg #[.bool n2, d2]) (.agg #[.bool n3, d3]) q ((Int.gcd p q : Nat) : Int) h2 hg2 (by omega)) ?_ | refine LO.callM (rdiv_c (.agg #[.bool n2, d2]) (.agg #[.bool n3, d3]) q ((Int.gcd p q : Nat) : Int) h2 hg2 (by omega)) ?_
  rintro _ _ _ ⟨n6, d6, n7, d7, rfl, hb6, hb7, rfl, rfl⟩
  simp only [List.nil_append, List.cons_append]
  generalize p / ((Int.gcd p q : Nat) : Int) = P at *
  generalize q / ((Int.gcd p q : Nat) : Int) = Q at *
  cases n6 with
  | true =>
    have hq2 : Q < 0 := of_decide_eq_true hb6.symm
    rw [if_pos hq2] at hn
    repeat' (first | refine gA ?_ | (refine goG ?_; intro g) | (refine goV ?_; intro v))
    first | refine WL.callK (rneg_c (.agg #[.bool n4, d4]) P) ?_ | refine WD.callK (rneg_c (.agg #[.bool n4, d4]) P) ?_ | refine LO.callM (rneg_c (.agg #[.bool n4, d4]) P) ?_
    rintro _ _ _ ⟨n8, d8, rfl, hb8, rfl, rfl⟩
    simp only [List.nil_append, List.cons_append]
    repeat' (first | refine gA ?_ | (refine goG ?_; intro g) | (refine goV ?_; intro v))
    first | refine WL.callK (rneg_c (.agg #[.bool true, d6]) Q) ?_ | refine WD.callK (rneg_c (.agg #[.bool true, d6]) Q) ?_ | refine LO.callM (rneg_c (.agg #[.bool true, d6]) Q) ?_
    rintro _ _ _ ⟨n9, d9, rfl, hb9, rfl, rfl⟩
    simp only [List.nil_append, List.cons_append]
    obtain rfl : false = n9 := by rw [hb9, eq_comm, decide_eq_false_iff_not]; omega
    rw [← hn] at hb8 ⊢
    rw [show -Q = (r.den : Int) by omega]
    repeat' (first | refine gA ?_ | (refine goG ?_; intro g) | (refine goV ?_; intro v))
    first | refine WL.callV (runit_c (.agg #[.bool false, d9]) (r.den : Int)) ?_ | refine WD.callV (runit_c (.agg #[.bool false, d9]) (r.den : Int)) ?_
    by_cases c : r.den = 1
    · rw [decide_eq_true (by omega)]
      repeat' (first | refine gA ?_ | (refine goG ?_; intro g) | (refine goV ?_; intro v))
      refine WC.fact (isQ (.agg #[.bool n8, d8, .bool false, .slice none 0 0]) r) (fin1 _ _ _ c hmA hb8) ?_
      refine WC.ret ?_
      exact Fin.p [] [isQ (.agg #[.bool n8, d8, .bool false, .slice none 0 0]) r] (ResE.cV rfl rfl meA T.r31 rfl) meA (List.nil_sublist _) haA ⟨n8, _, _, rfl, hb8, rfl, rfl⟩
    · rw [decide_eq_false (by omega)]
      repeat' (first | refine gA ?_ | (refine goG ?_; intro g) | (refine goV ?_; intro v))
      refine WC.fact (isQ (.agg #[.bool n8, d8, .bool false, d9]) r) (fin _ _ _ _ c hmA hmA hb8) ?_
      refine WC.ret ?_
      exact Fin.p [] [isQ (.agg #[.bool n8, d8, .bool false, d9]) r] (ResE.cV rfl rfl meA T.r31 rfl) meA (List.nil_sublist _) haA ⟨n8, _, _, rfl, hb8, rfl, rfl⟩
  | false =>
    have hq2 : ¬ Q < 0 := of_decide_eq_false hb6.symm
    rw [if_neg hq2] at hn
    rw [← hn] at hb4 ⊢
    rw [show Q = (r.den : Int) by omega]
    repeat' (first | refine gA ?_ | (refine goG ?_; intro g) | (refine goV ?_; intro v))
    first | refine WL.callV (runit_c (.agg #[.bool false, d6]) (r.den : Int)) ?_ | refine WD.callV (runit_c (.agg #[.bool false, d6]) (r.den : Int)) ?_
    by_cases c : r.den = 1
    · rw [decide_eq_true (by omega)]
      repeat' (first | refine gA ?_ | (refine goG ?_; intro g) | (refine goV ?_; intro v))
      refine WC.fact (isQ (.agg #[.bool n4, d4, .bool false, .slice none 0 0]) r) (fin1 _ _ _ c hmA hb4) ?_
      refine WC.ret ?_
      exact Fin.p [] [isQ (.agg #[.bool n4, d4, .bool false, .slice none 0 0]) r] (ResE.cV rfl rfl meA T.r31 rfl) meA (List.nil_sublist _) haA ⟨n4, _, _, rfl, hb4, rfl, rfl⟩
    · rw [decide_eq_false (by omega)]
      repeat' (first | refine gA ?_ | (refine goG ?_; intro g) | (refine goV ?_; intro v))
      refine WC.fact (isQ (.agg #[.bool n4, d4, .bool false, d6]) r) (fin _ _ _ _ c hmA hmA hb4) ?_
      refine WC.ret ?_
      exact Fin.p [] [isQ (.agg #[.bool n4, d4, .bool false, d6]) r] (ResE.cV rfl rfl meA T.r31 rfl) meA (List.nil_sublist _) haA ⟨n4, _, _, rfl, hb4, rfl, rfl⟩
set_option maxHeartbeats 4000000 in
set_option maxRecDepth 8000 in
theorem rqof_c (p q : Int) (h1 : p.natAbs < B2) (h2 : q.natAbs < B2) : FnB Tryz.prog 30 [.int .i64 p, .int .i64 q] [] [] (IsQ (Rat.divInt p q)) := by
  refine fn_of [(0, (.int .i64 p)), (1, (.int .i64 q))] 10 Tryz.func30 rfl Tryz.ntmps30 (by kernel_rfl) rfl suA fun h0 => ?_
  have h1' : p.natAbs < 1000000000000000000 := h1
  have h2' : q.natAbs < 1000000000000000000 := h2
  repeat' (first | refine gA ?_ | (refine goG ?_; intro g) | (refine goV ?_; intro v))
  first | refine WL.callK (rof_c p (by omega) (by omega)) ?_ | refine WD.callK (rof_c p (by omega) (by omega)) ?_ | refine LO.callM (rof_c p (by omega) (by omega)) ?_
  rintro _ _ _ ⟨n1, d1, rfl, hb1, rfl, rfl⟩
  simp only [List.nil_append, List.cons_append]
  repeat' (first | refine gA ?_ | (refine goG ?_; intro g) | (refine goV ?_; intro v))
  first | refine WL.callK (rof_c q (by omega) (by omega)) ?_ | refine WD.callK (rof_c q (by omega) (by omega)) ?_ | refine LO.callM (rof_c q (by omega) (by omega)) ?_
  rintro _ _ _ ⟨n2, d2, rfl, hb2, rfl, rfl⟩
  simp only [List.nil_append, List.cons_append]
  repeat' (first | refine gA ?_ | (refine goG ?_; intro g) | (refine goV ?_; intro v))
  first | refine WL.callK (rmake_c (.agg #[.bool n1, d1]) (.agg #[.bool n2, d2]) p q (Lz.of h1) (Lz.of h2)) ?_ | refine WD.callK (rmake_c (.agg #[.bool n1, d1]) (.agg #[.bool n2, d2]) p q (Lz.of h1) (Lz.of h2)) ?_ | refine LO.callM (rmake_c (.agg #[.bool n1, d1]) (.agg #[.bool n2, d2]) p q (Lz.of h1) (Lz.of h2)) ?_
  rintro _ _ _ ⟨nb, e1, e2, rfl, hb, rfl, rfl⟩
  simp only [List.nil_append, List.cons_append]
  repeat' (first | refine gA ?_ | (refine goG ?_; intro g) | (refine goV ?_; intro v))
  refine WC.ret ?_
  exact Fin.p [] [isQ (.agg #[.bool nb, e1, .bool false, e2]) (Rat.divInt p q)] (ResE.cV rfl rfl meA T.r31 rfl) meA (List.nil_sublist _) haA ⟨nb, _, _, rfl, hb, rfl, rfl⟩
end Rp
end Go.Proofs.YtaongbhamadlkaaGreat
namespace Go.Proofs.YtaongbhamadlkaaGreat
open W Go.RowKit
theorem mul_di (a b : Rat) : Rat.divInt (a.num * b.num) ((a.den : Int) * (b.den : Int)) = a * b := by
  rw [← Rat.divInt_mul_divInt, Rat.num_divInt_den, Rat.num_divInt_den]
theorem Lz.mul {x y : Int} (hx : (digs x.natAbs).length ≤ 400000000) (hy : (digs y.natAbs).length ≤ 400000000) : Lz (x * y).natAbs := by
  rw [Int.natAbs_mul]; exact Sm.w2 (Sm.mul hx hy)
namespace Rp
open Dvz Dvv Adc Rtm Rta Rm Rn Ro
attribute [local irreducible] WC WL WD YO LO LoopEnd W.Fin Scalar SliceT FieldAt Row ArrT AllocT KnS Has W.One SrcE IntT
theorem d77 {G G' : Prop} (h : G') (s : Bx G' → G := by
  intro h
  first | (apply WC.draw (id := 1) [0, 1, 2, 3, 5, 7] (.held 0 (.held 1 (.held 2 (.held 3 (.held 5 (.held 7 (.loud 4 (.loud 6 (.loud 8 (.loud 9 (.loud 10 (.loud 11 (.done))))))))))))) mixed (by kernel_rfl)) | fail
  exact Bx.h h) : G := s ⟨h⟩
set_option maxHeartbeats 4000000 in
set_option maxRecDepth 8000 in
theorem rqmul_c (v1 v2 : Value) (a b : Rat) (h1 : Sm a) (h2 : Sm b) : FnB Tryz.prog 77 [v1, v2] [] [isQ v1 a, isQ v2 b] (IsQ (a * b)) := by
  refine fn_of [(0, v1), (1, v2)] 16 Tryz.func77 rfl Tryz.ntmps77 (by kernel_rfl) rfl suA fun h0 => ?_
  refine WC.openQ (v := v1) (q := a) hmA fun n1 d1 d2 hv hb1 => ?_
  subst hv
  refine WC.openQ (v := v2) (q := b) hmA fun n2 d3 d4 hv hb2 => ?_
  subst hv
  refine WC.fact (isZ (.agg #[.bool n1, d1]) a.num) (hasQ_P hmA) ?_
  refine WC.fact (isZ (.agg #[.bool n2, d3]) b.num) (hasQ_P hmA) ?_
  repeat' (first | refine gB ?_ | (refine gH ?_; intro g) | (refine gW ?_; intro v) | refine d77 ?_ | fail)
  first | refine WL.callK (rmul_c (.agg #[.bool n1, d1]) (.agg #[.bool n2, d3]) a.num b.num (Sm.w h1.1) (Sm.w h2.1)) ?_ | refine WD.callK (rmul_c (.agg #[.bool n1, d1]) (.agg #[.bool n2, d3]) a.num b.num (Sm.w h1.1) (Sm.w h2.1)) ?_ | refine LO.callM (rmul_c (.agg #[.bool n1, d1]) (.agg #[.bool n2, d3]) a.num b.num (Sm.w h1.1) (Sm.w h2.1)) ?_
  rintro _ _ _ ⟨n5, d5, rfl, hb5, rfl, rfl⟩
  simp only [List.nil_append, List.cons_append]
  repeat' (first | refine gB ?_ | (refine gH ?_; intro g) | (refine gW ?_; intro v) | refine d77 ?_ | fail)
  first | refine WL.callK (rden_c (.agg #[.bool n1, d1, .bool false, d2]) a) ?_ | refine WD.callK (rden_c (.agg #[.bool n1, d1, .bool false, d2]) a) ?_ | refine LO.callM (rden_c (.agg #[.bool n1, d1, .bool false, d2]) a) ?_
  rintro _ _ _ ⟨n6, d6, rfl, hb6, rfl, rfl⟩
  simp only [List.nil_append, List.cons_append]
  repeat' (first | refine gB ?_ | (refine gH ?_; intro g) | (refine gW ?_; intro v) | refine d77 ?_ | fail)
  first | refine WL.callK (rden_c (.agg #[.bool n2, d3, .bool false, d4]) b) ?_ | refine WD.callK (rden_c (.agg #[.bool n2, d3, .bool false, d4]) b) ?_ | refine LO.callM (rden_c (.agg #[.bool n2, d3, .bool false, d4]) b) ?_
  rintro _ _ _ ⟨n7, d7, rfl, hb7, rfl, rfl⟩
  simp only [List.nil_append, List.cons_append]
  repeat' (first | refine gB ?_ | (refine gH ?_; intro g) | (refine gW ?_; intro v) | refine d77 ?_ | fail)
  first | refine WL.callK (rmul_c (.agg #[.bool n6, d6]) (.agg #[.bool n7, d7]) (a.den : Int) (b.den : Int) (Sm.w h1.2) (Sm.w h2.2)) ?_ | refine WD.callK (rmul_c (.agg #[.bool n6, d6]) (.agg #[.bool n7, d7]) (a.den : Int) (b.den : Int) (Sm.w h1.2) (Sm.w h2.2)) ?_ | refine LO.callM (rmul_c (.agg #[.bool n6, d6]) (.agg #[.bool n7, d7]) (a.den : Int) (b.den : Int) (Sm.w h1.2) (Sm.w h2.2)) ?_
  rintro _ _ _ ⟨n8, d8, rfl, hb8, rfl, rfl⟩
  simp only [List.nil_append, List.cons_append]
  repeat' (first | refine gB ?_ | (refine gH ?_; intro g) | (refine gW ?_; intro v) | refine d77 ?_ | fail)
  first | refine WL.callK (rmake_c (.agg #[.bool n5, d5]) (.agg #[.bool n8, d8]) (a.num * b.num) ((a.den : Int) * (b.den : Int)) (Lz.mul h1.1 h2.1) (Lz.mul h1.2 h2.2)) ?_ | refine WD.callK (rmake_c (.agg #[.bool n5, d5]) (.agg #[.bool n8, d8]) (a.num * b.num) ((a.den : Int) * (b.den : Int)) (Lz.mul h1.1 h2.1) (Lz.mul h1.2 h2.2)) ?_ | refine LO.callM (rmake_c (.agg #[.bool n5, d5]) (.agg #[.bool n8, d8]) (a.num * b.num) ((a.den : Int) * (b.den : Int)) (Lz.mul h1.1 h2.1) (Lz.mul h1.2 h2.2)) ?_
  rintro _ _ _ ⟨n11, d11, d12, rfl, hb11, rfl, rfl⟩
  simp only [List.nil_append, List.cons_append]
  rw [mul_di] at hb11 ⊢
  repeat' (first | refine gB ?_ | (refine gH ?_; intro g) | (refine gW ?_; intro v) | refine d77 ?_ | fail)
  refine WC.ret ?_
  exact Fin.p [] [isQ (.agg #[.bool n11, d11, .bool false, d12]) (a * b)] (ResE.cV rfl rfl meA T.r31 rfl) meA (List.nil_sublist _) haA ⟨n11, _, _, rfl, hb11, rfl, rfl⟩
end Rp
end Go.Proofs.YtaongbhamadlkaaGreat
namespace Go.Proofs.YtaongbhamadlkaaGreat
open W Go.RowKit
attribute [local irreducible] WC WL WD YO LO LoopEnd W.Fin Scalar SliceT FieldAt Row ArrT AllocT KnS Has W.One SrcE IntT
namespace Z
set_option maxRecDepth 60000
theorem t0A {G : Prop} (h : G := by first | (((first | exact T.f26_0 | exact T.f26_1 | exact T.f26_2 | exact T.f29_0 | exact T.f29_1 | exact T.f31_0 | exact T.f31_1 | exact T.f33_0 | exact T.f33_1 | exact T.f33_2 | exact T.f33_3 | exact T.f60_0 | exact T.f60_1 | exact T.f77_0 | exact T.f77_1 | exact T.f77_2 | exact T.f88_0 | exact T.f88_1 | exact T.f88_2 | exact T.f88_3 | exact T.f88_4 | exact T.f88_5 | exact T.f107_0 | exact T.f107_1 | exact T.f107_2 | exact T.f123_0 | exact T.f123_1 | exact T.f134_0 | exact T.f134_1)); done) | fail) : G := h
theorem t1A {G : Prop} (h : G := by first | (((first | exact T.al3 | exact T.al4 | exact T.al22 | exact T.al23 | exact T.al24 | exact T.al26 | exact T.al29 | exact T.al31 | exact T.al33 | exact T.al34 | exact T.al48 | exact T.al60 | exact T.al72 | exact T.al77 | exact T.al84 | exact T.al86 | exact T.al88 | exact T.al103 | exact T.al107 | exact T.al123 | exact T.al129 | exact T.al131 | exact T.al134 | exact T.al162)); done) | fail) : G := h
theorem t2A {G : Prop} (h : G := by first | (((first | exact T.sc3 | exact T.sc4 | exact T.sc22 | exact T.sc23 | exact T.sc24 | exact T.sc34 | exact T.sc48 | exact T.sc72 | exact T.sc84 | exact T.sc86 | exact T.sc103 | exact T.sc129 | exact T.sc131 | exact T.sc162)); done) | fail) : G := h
theorem t3A {G : Prop} (h : G := by first | (((first | exact T.z3 | exact T.z4 | exact T.z22 | exact T.z23 | exact T.z24 | exact T.z34 | exact T.z48 | exact T.z72 | exact T.z84 | exact T.z86 | exact T.z103 | exact T.z129 | exact T.z131 | exact T.z162)); done) | fail) : G := h
theorem t4A {G : Prop} (h : G := by first | (((first | exact T.r26 | exact T.r29 | exact T.r31 | exact T.r33 | exact T.r60 | exact T.r77 | exact T.r88 | exact T.r107 | exact T.r123 | exact T.r134)); done) | fail) : G := h
theorem t5A {G : Prop} (h : G := by first | (((first | exact T.e22 | exact T.e23 | exact T.e24 | exact T.e48 | exact T.e72 | exact T.e86 | exact T.e129 | exact T.e131)); done) | fail) : G := h
theorem t6A {G : Prop} (h : G := by first | (((first | exact T.s22 | exact T.s23 | exact T.s24 | exact T.s48 | exact T.s72 | exact T.s86 | exact T.s129 | exact T.s131)); done) | fail) : G := h
theorem t7A {G : Prop} (h : G := by first | (((first | exact T.u3 | exact T.u34 | exact T.u162)); done) | fail) : G := h
theorem knA {G : Prop} (h : G := by first | (((first | (focus (apply KnS.oN; exact meA; done)) | (focus (apply KnS.oV; exact meA; done)) | (focus (apply KnS.f; exact hmA; done)) | (focus (apply KnS.oI; exact meA; done)) | (focus (apply KnS.o1; exact meA; done)) | (focus (apply KnS.zd; exact hmA; done)) | (focus (apply KnS.q1; exact hmA; done)) | (focus (apply KnS.q2; exact hmA; done)) | (focus (apply KnS.ff; exact hmA; done)) | (focus (apply KnS.oR; exact meA; done)) | (focus (apply KnS.rf; exact hmA; omega; done)) | (focus (apply KnS.pl; exact hmA; done)))); done) | fail) : G := h
theorem hsA {G : Prop} (h : G := by first | (((first | exact hmA | (focus (apply hasQ_P; exact hmA; done)) | (focus (apply hasQ_Q; exact hmA; done)) | exact hasZ_0 | exact hasQ_0 | (focus (apply hasZ_d; exact hmA; done)) | (focus (apply hasQ_d1; exact hmA; done)) | (focus (apply hasQ_d2; exact hmA; done)) | (focus (apply W.Has.q; exact hmA; omega; done)) | (focus (apply W.Has.qt; exact hmA; omega; omega; done)) | (focus (apply W.Has.pbq; exact hmA; omega; done)))); done) | fail) : G := h
theorem haA {G : Prop} (h : G := by first | ((repeat (first | exact HasAll.nil | (apply HasAll.cons; exact hsA))); done) | fail) : G := h
theorem ltA {G : Prop} (h : G := by first | (((first | (focus (apply Or.inr; constructor; (repeat (first | exact List.Sublist.refl _ | exact List.nil_sublist _ | apply List.Sublist.cons_cons | apply List.Sublist.cons)); (first | exact fun _ h => h | (intro f hf; (repeat (first | exact hf | apply List.Mem.tail)))); done)) | (apply Or.inl; kernel_rfl))); done) | fail) : G := h
theorem onA {G : Prop} (h : G := by first | (((first | exact ints_one _ | (intro u hu; simp only [List.mem_cons, List.not_mem_nil, or_false] at hu; first | (subst hu; rfl) | (rcases hu with rfl | rfl | rfl <;> rfl)))); done) | fail) : G := h
theorem leA {G : Prop} (h : G := by first | (((simp only [List.length_map, List.length_append, List.length_cons, List.length_nil, List.length_replicate, List.length_take]; omega)); done) | fail) : G := h
theorem y_indexAddr {G : Prop} (h : G := by first | (((first | (first | (apply YO.ix1; exact t6A; exact rfl; exact rfl; exact knA; omega) | (apply YO.ix; exact t6A; exact rfl; exact rfl; exact knA; omega) | (apply YO.ix1'; exact t6A; exact rfl; exact rfl; exact knA; omega; omega) | (apply YO.ix'; exact t6A; exact rfl; exact rfl; exact knA; omega; omega)) | (apply YO.ix1; exact t6A; exact rfl; exact rfl; exact knA; (first | omega | (simp only [List.length_set, List.length_replicate]; omega))) | (apply YO.ix; exact t6A; exact rfl; exact rfl; exact knA; (first | omega | (simp only [List.length_set, List.length_replicate]; omega))) | (apply YO.ix1'; exact t6A; exact rfl; exact rfl; exact knA; omega; (first | omega | (simp only [List.length_set, List.length_replicate]; omega))))); done) | fail) : G := h
theorem y_build {G : Prop} (h : G := by first | (((first | (apply YO.buildZ; exact rfl; exact rfl; exact knA) | exact YO.buildZ0 | exact YO.buildQ0 | (apply YO.buildQ1; exact rfl) | (apply YO.buildQ2; exact rfl; exact rfl) | (apply YO.buildTb; exact rfl; exact rfl; exact rfl) | exact YO.buildA0 | (apply YO.buildA1; exact rfl; exact rfl; exact knA) | (apply YO.buildA2; exact rfl; exact rfl; exact rfl; exact knA; exact knA) | (apply YO.buildA3; exact rfl; exact rfl; exact rfl; exact rfl; exact knA; exact knA))); done) | fail) : G := h
theorem y_load {G : Prop} (h : G := by first | (((first | (apply YO.ldON; exact t2A; exact rfl; exact meA; omega) | (apply YO.ldOV; exact t2A; exact rfl; exact meA; omega) | (apply YO.ldW; exact t4A; exact rfl; exact meA; exact rfl) | (apply YO.ld42; exact t4A; exact rfl; exact meA) | (apply YO.ld40; exact t4A; exact rfl; exact meA) | (apply YO.ld62; exact t4A; exact rfl; exact meA) | (apply YO.ld51; exact t4A; exact rfl; exact meA) | (apply YO.ldFf; exact t4A; exact rfl; exact hmA; omega) | (apply YO.ldOR; exact t4A; exact rfl; exact meA; omega) | (apply YO.ldRf; exact t4A; exact rfl; exact hmA; omega; omega) | (apply YO.ldPl; exact t4A; exact rfl; exact hmA; omega) | (apply YO.ld73; exact t4A; exact rfl; exact meA) | (apply YO.ldWI0; exact t4A; exact rfl; exact meA; (first | omega | (simp only [List.length_set, List.length_replicate]; omega))) | (apply YO.ldWF0; exact t4A; exact rfl; exact hmA; (first | omega | (simp only [List.length_set, List.length_replicate]; omega))) | (apply YO.ldCI; exact t2A; exact rfl; exact meA; (first | omega | (simp only [List.length_set, List.length_replicate]; omega))) | (apply YO.ldFI; exact t2A; exact rfl; exact hmA; (first | omega | (simp only [List.length_set, List.length_replicate]; omega))) | (apply YO.ldF; exact t2A; exact rfl; exact hmA; exact rfl) | (apply YO.ldS; exact t2A; exact rfl; exact hsA; omega) | (apply YO.ldB; exact t2A; exact rfl; exact meA; exact rfl) | (apply YO.ldOI; exact t2A; exact rfl; exact meA; (first | omega | (simp only [List.length_set, List.length_replicate]; omega))))); done) | fail) : G := h
theorem y_eql {G : Prop} (h : G := by first | (((first | (first | (first | (apply YO.eql_t; exact rfl; exact rfl; omega) | (apply YO.eql_f; exact rfl; exact rfl; omega)) | (apply YO.eqNil_t; exact t6A; exact rfl; exact knA; assumption) | (apply YO.eqNil_f; exact t6A; exact rfl; exact knA; assumption)) | (apply YO.beq_t; exact bool_t; exact rfl; exact rfl; (first | rfl | assumption | decide)) | (apply YO.beq_f; exact bool_t; exact rfl; exact rfl; (first | rfl | assumption | decide)) | (apply YO.eqNz_t; exact t6A; exact rfl; exact knA; assumption) | (apply YO.eqNz_f; exact t6A; exact rfl; exact knA; assumption))); done) | fail) : G := h
theorem y_slice {G : Prop} (h : G := by first | (((first | (first | (apply YO.slice; exact t6A; exact rfl; exact knA; exact Or.inl ⟨rfl, rfl⟩; exact Or.inr ⟨_, rfl, rfl⟩; omega; omega) | (apply YO.slice; exact t6A; exact rfl; exact knA; exact Or.inr ⟨_, rfl, rfl⟩; exact Or.inl ⟨rfl, rfl⟩; omega; omega)) | (apply YO.slice3; exact t6A; exact rfl; exact knA; exact rfl; exact rfl; omega; omega) | (apply YO.slice; exact t6A; exact rfl; exact knA; exact Or.inr ⟨_, rfl, rfl⟩; exact Or.inr ⟨_, rfl, rfl⟩; omega; omega))); done) | fail) : G := h
theorem y_len {G : Prop} (h : G := by first | (((apply YO.len; exact t6A; exact rfl; exact knA)); done) | fail) : G := h
theorem y_fieldAddr {G : Prop} (h : G := by first | (((first | (apply YO.fieldE; exact t0A; exact rfl) | (apply YO.fieldN; exact t0A; exact rfl; ((try simp only [Nat.zero_add, Nat.mul_one, Nat.reduceAdd, Nat.reduceMul]); exact rfl)))); done) | fail) : G := h
theorem y_conv {G : Prop} (h : G := by first | (((first | (first | (apply YO.convU; exact t7A; exact t7A; exact rfl; omega; omega) | (apply YO.convI; exact t7A; exact t7A; exact rfl; omega; omega)) | (apply YO.convN; exact t7A; exact t7A; exact rfl; omega; omega))); done) | fail) : G := h
theorem y_neq {G : Prop} (h : G := by first | (((first | (first | (apply YO.neq_t; exact rfl; exact rfl; omega) | (apply YO.neq_f; exact rfl; exact rfl; omega)) | (apply YO.bne_t; exact bool_t; exact rfl; exact rfl; (first | rfl | assumption | decide)) | (apply YO.bne_f; exact bool_t; exact rfl; exact rfl; (first | rfl | assumption | decide)))); done) | fail) : G := h
theorem y_makeFunc {G : Prop} (h : G := by first | (((apply YO.makeFunc; (repeat (first | exact Evs.nil | (apply Evs.cons; exact rfl))); (repeat (first | exact Evs.nil | (apply Evs.cons; exact rfl))))); done) | fail) : G := h
theorem y_quo {G : Prop} (h : G := by first | (((first | (apply YO.quo; exact rfl; exact rfl; omega; omega; omega) | (apply YO.uquo; exact rfl; exact rfl; omega; omega; omega))); done) | fail) : G := h
theorem y_and {G : Prop} (h : G := by first | (((first | (apply YO.and1; exact rfl; exact rfl; omega; omega) | (apply YO.and; exact rfl; exact rfl; omega; omega; omega; omega))); done) | fail) : G := h
theorem y_mul {G : Prop} (h : G := by first | (((first | (apply YO.mul; exact rfl; exact rfl; omega; omega) | (apply YO.umul; exact rfl; exact rfl; omega; omega))); done) | fail) : G := h
theorem y_rem {G : Prop} (h : G := by first | (((first | (apply YO.rem; exact rfl; exact rfl; omega; omega) | (apply YO.urem; exact rfl; exact rfl; omega; omega))); done) | fail) : G := h
theorem y_add {G : Prop} (h : G := by first | (((first | (apply YO.inc; exact rfl; exact rfl; omega) | (apply YO.add; exact rfl; exact rfl; omega; omega))); done) | fail) : G := h
theorem y_lss {G : Prop} (h : G := by first | (((first | (apply YO.lss_t; exact rfl; exact rfl; omega) | (apply YO.lss_f; exact rfl; exact rfl; omega))); done) | fail) : G := h
theorem y_gtr {G : Prop} (h : G := by first | (((first | (apply YO.gtr_t; exact rfl; exact rfl; omega) | (apply YO.gtr_f; exact rfl; exact rfl; omega))); done) | fail) : G := h
theorem y_geq {G : Prop} (h : G := by first | (((first | (apply YO.geq_t; exact rfl; exact rfl; omega) | (apply YO.geq_f; exact rfl; exact rfl; omega))); done) | fail) : G := h
theorem y_leq {G : Prop} (h : G := by first | (((first | (apply YO.leq_t; exact rfl; exact rfl; omega) | (apply YO.leq_f; exact rfl; exact rfl; omega))); done) | fail) : G := h
theorem y_shl {G : Prop} (h : G := by first | (((apply YO.shl'; exact rfl; exact rfl; omega; omega; (first | omega | decide); (first | omega | decide))); done) | fail) : G := h
theorem y_uneg {G : Prop} (h : G := by first | (((first | (apply YO.neg; exact rfl; omega; omega) | (apply YO.uneg; exact rfl; omega; omega))); done) | fail) : G := h
theorem y_pick {G : Prop} (h : G := by first | (((first | (apply YO.pick_t; exact rfl; exact rfl) | (apply YO.pick_f; exact rfl; exact rfl))); done) | fail) : G := h
theorem y_unot {G : Prop} (h : G := by first | (((first | (apply YO.not_t; exact rfl) | (apply YO.not_f; exact rfl))); done) | fail) : G := h
theorem y_or {G : Prop} (h : G := by first | (((apply YO.or; exact rfl; exact rfl; omega; omega; omega; omega)); done) | fail) : G := h
theorem go {G G' : Prop} (h : G') (s : Bx G' → G := by
  intro h
  (first
    | apply WL.nil
    | (apply WL.skg; exact rfl; exact rfl)
    | (apply WL.skg0; exact rfl)
    | (apply WL.k_move; (apply YO.move; exact rfl); exact rfl; exact rfl)
    | (apply WL.k_assign; (apply YO.assign; exact rfl); exact rfl; exact rfl)
    | (apply WL.k_lss; exact y_lss; exact rfl; exact rfl)
    | (apply WL.k_add; exact y_add; exact rfl; exact rfl)
    | (apply WL.k_len; exact y_len; exact rfl; exact rfl)
    | (apply WL.k_indexAddr; exact y_indexAddr; exact rfl; exact rfl)
    | (apply WL.k_load; exact y_load; exact rfl; exact rfl)
    | (apply WL.k_pick; exact y_pick; exact rfl; exact rfl)
    | (apply WL.k_fieldAddr; exact y_fieldAddr; exact rfl; exact rfl)
    | (apply WL.k_eql; exact y_eql; exact rfl; exact rfl)
    | (apply WL.k_neq; exact y_neq; exact rfl; exact rfl)
    | (apply WL.k_nil; (apply YO.nil; exact rfl); exact rfl; exact rfl)
    | (apply WL.k_extract; (apply YO.extract; exact rfl; exact rfl); exact rfl; exact rfl)
    | (apply WL.k_gtr; exact y_gtr; exact rfl; exact rfl)
    | (apply WL.k_geq; exact y_geq; exact rfl; exact rfl)
    | (apply WL.k_leq; exact y_leq; exact rfl; exact rfl)
    | (apply WL.k_sub; (apply YO.sub; exact rfl; exact rfl; omega; omega); exact rfl; exact rfl)
    | (apply WL.k_mul; exact y_mul; exact rfl; exact rfl)
    | (apply WL.k_rem; exact y_rem; exact rfl; exact rfl)
    | (apply WL.k_quo; exact y_quo; exact rfl; exact rfl)
    | (apply WL.k_unot; exact y_unot; exact rfl; exact rfl)
    | (apply WL.k_uneg; exact y_uneg; exact rfl; exact rfl)
    | (apply WL.k_max; (apply YO.max; exact rfl; exact rfl); exact rfl; exact rfl)
    | (apply WL.k_min; (apply YO.min; exact rfl; exact rfl); exact rfl; exact rfl)
    | (apply WL.k_makeFunc; exact y_makeFunc; exact rfl; exact rfl)
    | (apply WL.k_conv; exact y_conv; exact rfl; exact rfl)
    | (apply WL.k_shl; exact y_shl; exact rfl; exact rfl)
    | (apply WL.k_shr; (apply YO.shr'; exact rfl; exact rfl; omega; omega); exact rfl; exact rfl)
    | (apply WL.k_and; exact y_and; exact rfl; exact rfl)
    | (apply WL.k_or; exact y_or; exact rfl; exact rfl)
    | (apply WL.k_andNot; (apply YO.anot; exact rfl; exact rfl); exact rfl; exact rfl)
    | (apply WL.k_slice; exact y_slice; exact rfl; exact rfl)
    | (apply WL.k_build; exact y_build; exact rfl; exact rfl)
    | apply WC.seq
    | apply WC.region
    | apply WC.block
    | (apply WC.cond_t; exact rfl)
    | (apply WC.cond_f; exact rfl)
    | apply WC.exit
    | apply WC.skip
    | apply WC.label
    | (apply WL.kl_store; rotate_left; exact rfl; (first | (apply LO.storeOI; exact rfl; exact rfl; exact t3A; exact seA; (first | omega | (simp only [List.length_set]; omega))) | (apply LO.storeQ; exact rfl; exact rfl; exact t4A; exact hmA; exact seA; omega) | (apply LO.storeI; exact rfl; exact rfl; exact t3A; exact seA; (first | omega | (simp only [List.length_set, List.length_replicate]; omega))) | (apply LO.storeWI; exact rfl; exact rfl; exact seA; exact t4A; (first | omega | (simp only [List.length_set, List.length_replicate]; omega)); (first | (simp only [List.length_map, List.length_set, List.length_replicate, ints]; omega) | rfl)) | (apply LO.store1; exact rfl; exact rfl; exact t3A; (first | exact One.lit rfl rfl | (apply One.sl; exact knA)); exact seA; (first | (simp only [List.length_cons, List.length_nil]; omega) | (simp; omega)); (first | (simp only [List.set_cons_succ, List.set_cons_zero]; exact rfl) | exact rfl)) | (apply LO.storeO1; exact rfl; exact rfl; exact t3A; (first | exact One.lit rfl rfl | (apply One.sl; exact knA)); exact seA; (first | (simp only [List.length_cons, List.length_nil]; omega) | (simp; omega)); (first | (simp only [List.set_cons_succ, List.set_cons_zero]; exact rfl) | exact rfl)) | (apply LO.storeL; exact rfl; exact rfl; exact seA; exact t4A; exact rfl; exact rfl; (repeat (first | exact OneL.nil | (apply OneL.cons; (first | exact One.lit rfl rfl | (apply One.sl; exact knA)))))))))
  repeat (first
    | apply WL.nil
    | (apply WL.skg; exact rfl; exact rfl)
    | (apply WL.skg0; exact rfl)
    | (apply WL.k_move; (apply YO.move; exact rfl); exact rfl; exact rfl)
    | (apply WL.k_assign; (apply YO.assign; exact rfl); exact rfl; exact rfl)
    | (apply WL.k_lss; exact y_lss; exact rfl; exact rfl)
    | (apply WL.k_add; exact y_add; exact rfl; exact rfl)
    | (apply WL.k_len; exact y_len; exact rfl; exact rfl)
    | (apply WL.k_indexAddr; exact y_indexAddr; exact rfl; exact rfl)
    | (apply WL.k_load; exact y_load; exact rfl; exact rfl)
    | (apply WL.k_pick; exact y_pick; exact rfl; exact rfl)
    | (apply WL.k_fieldAddr; exact y_fieldAddr; exact rfl; exact rfl)
    | (apply WL.k_eql; exact y_eql; exact rfl; exact rfl)
    | (apply WL.k_neq; exact y_neq; exact rfl; exact rfl)
    | (apply WL.k_nil; (apply YO.nil; exact rfl); exact rfl; exact rfl)
    | (apply WL.k_extract; (apply YO.extract; exact rfl; exact rfl); exact rfl; exact rfl)
    | (apply WL.k_gtr; exact y_gtr; exact rfl; exact rfl)
    | (apply WL.k_geq; exact y_geq; exact rfl; exact rfl)
    | (apply WL.k_leq; exact y_leq; exact rfl; exact rfl)
    | (apply WL.k_sub; (apply YO.sub; exact rfl; exact rfl; omega; omega); exact rfl; exact rfl)
    | (apply WL.k_mul; exact y_mul; exact rfl; exact rfl)
    | (apply WL.k_rem; exact y_rem; exact rfl; exact rfl)
    | (apply WL.k_quo; exact y_quo; exact rfl; exact rfl)
    | (apply WL.k_unot; exact y_unot; exact rfl; exact rfl)
    | (apply WL.k_uneg; exact y_uneg; exact rfl; exact rfl)
    | (apply WL.k_max; (apply YO.max; exact rfl; exact rfl); exact rfl; exact rfl)
    | (apply WL.k_min; (apply YO.min; exact rfl; exact rfl); exact rfl; exact rfl)
    | (apply WL.k_makeFunc; exact y_makeFunc; exact rfl; exact rfl)
    | (apply WL.k_conv; exact y_conv; exact rfl; exact rfl)
    | (apply WL.k_shl; exact y_shl; exact rfl; exact rfl)
    | (apply WL.k_shr; (apply YO.shr'; exact rfl; exact rfl; omega; omega); exact rfl; exact rfl)
    | (apply WL.k_and; exact y_and; exact rfl; exact rfl)
    | (apply WL.k_or; exact y_or; exact rfl; exact rfl)
    | (apply WL.k_andNot; (apply YO.anot; exact rfl; exact rfl); exact rfl; exact rfl)
    | (apply WL.k_slice; exact y_slice; exact rfl; exact rfl)
    | (apply WL.k_build; exact y_build; exact rfl; exact rfl)
    | apply WC.seq
    | apply WC.region
    | apply WC.block
    | (apply WC.cond_t; exact rfl)
    | (apply WC.cond_f; exact rfl)
    | apply WC.exit
    | apply WC.skip
    | apply WC.label
    | (apply WL.kl_store; rotate_left; exact rfl; (first | (apply LO.storeOI; exact rfl; exact rfl; exact t3A; exact seA; (first | omega | (simp only [List.length_set]; omega))) | (apply LO.storeQ; exact rfl; exact rfl; exact t4A; exact hmA; exact seA; omega) | (apply LO.storeI; exact rfl; exact rfl; exact t3A; exact seA; (first | omega | (simp only [List.length_set, List.length_replicate]; omega))) | (apply LO.storeWI; exact rfl; exact rfl; exact seA; exact t4A; (first | omega | (simp only [List.length_set, List.length_replicate]; omega)); (first | (simp only [List.length_map, List.length_set, List.length_replicate, ints]; omega) | rfl)) | (apply LO.store1; exact rfl; exact rfl; exact t3A; (first | exact One.lit rfl rfl | (apply One.sl; exact knA)); exact seA; (first | (simp only [List.length_cons, List.length_nil]; omega) | (simp; omega)); (first | (simp only [List.set_cons_succ, List.set_cons_zero]; exact rfl) | exact rfl)) | (apply LO.storeO1; exact rfl; exact rfl; exact t3A; (first | exact One.lit rfl rfl | (apply One.sl; exact knA)); exact seA; (first | (simp only [List.length_cons, List.length_nil]; omega) | (simp; omega)); (first | (simp only [List.set_cons_succ, List.set_cons_zero]; exact rfl) | exact rfl)) | (apply LO.storeL; exact rfl; exact rfl; exact seA; exact t4A; exact rfl; exact rfl; (repeat (first | exact OneL.nil | (apply OneL.cons; (first | exact One.lit rfl rfl | (apply One.sl; exact knA)))))))))
  exact Bx.h h) : G := s ⟨h⟩
theorem goD {G G' : Prop} (h : G') (s : Bx G' → G := by
  intro h
  (first
    | apply WD.nil
    | (apply WD.skg; exact rfl; exact rfl; exact rfl)
    | (apply WD.skgl; exact rfl; exact rfl; exact rfl)
    | (apply WD.skgl0; exact rfl; exact rfl)
    | (apply WD.k_move; exact rfl; (apply YO.move; exact rfl); exact rfl; exact rfl)
    | (apply WD.k_assign; exact rfl; (apply YO.assign; exact rfl); exact rfl; exact rfl)
    | (apply WD.k_lss; exact rfl; exact y_lss; exact rfl; exact rfl)
    | (apply WD.k_add; exact rfl; exact y_add; exact rfl; exact rfl)
    | (apply WD.k_len; exact rfl; exact y_len; exact rfl; exact rfl)
    | (apply WD.k_indexAddr; exact rfl; exact y_indexAddr; exact rfl; exact rfl)
    | (apply WD.k_load; exact rfl; exact y_load; exact rfl; exact rfl)
    | (apply WD.k_pick; exact rfl; exact y_pick; exact rfl; exact rfl)
    | (apply WD.k_fieldAddr; exact rfl; exact y_fieldAddr; exact rfl; exact rfl)
    | (apply WD.k_eql; exact rfl; exact y_eql; exact rfl; exact rfl)
    | (apply WD.k_neq; exact rfl; exact y_neq; exact rfl; exact rfl)
    | (apply WD.k_nil; exact rfl; (apply YO.nil; exact rfl); exact rfl; exact rfl)
    | (apply WD.k_extract; exact rfl; (apply YO.extract; exact rfl; exact rfl); exact rfl; exact rfl)
    | (apply WD.k_gtr; exact rfl; exact y_gtr; exact rfl; exact rfl)
    | (apply WD.k_geq; exact rfl; exact y_geq; exact rfl; exact rfl)
    | (apply WD.k_leq; exact rfl; exact y_leq; exact rfl; exact rfl)
    | (apply WD.k_sub; exact rfl; (apply YO.sub; exact rfl; exact rfl; omega; omega); exact rfl; exact rfl)
    | (apply WD.k_mul; exact rfl; exact y_mul; exact rfl; exact rfl)
    | (apply WD.k_rem; exact rfl; exact y_rem; exact rfl; exact rfl)
    | (apply WD.k_quo; exact rfl; exact y_quo; exact rfl; exact rfl)
    | (apply WD.k_unot; exact rfl; exact y_unot; exact rfl; exact rfl)
    | (apply WD.k_uneg; exact rfl; exact y_uneg; exact rfl; exact rfl)
    | (apply WD.k_max; exact rfl; (apply YO.max; exact rfl; exact rfl); exact rfl; exact rfl)
    | (apply WD.k_min; exact rfl; (apply YO.min; exact rfl; exact rfl); exact rfl; exact rfl)
    | (apply WD.k_makeFunc; exact rfl; exact y_makeFunc; exact rfl; exact rfl)
    | (apply WD.k_conv; exact rfl; exact y_conv; exact rfl; exact rfl)
    | (apply WD.k_shl; exact rfl; exact y_shl; exact rfl; exact rfl)
    | (apply WD.k_shr; exact rfl; (apply YO.shr'; exact rfl; exact rfl; omega; omega); exact rfl; exact rfl)
    | (apply WD.k_and; exact rfl; exact y_and; exact rfl; exact rfl)
    | (apply WD.k_or; exact rfl; exact y_or; exact rfl; exact rfl)
    | (apply WD.k_andNot; exact rfl; (apply YO.anot; exact rfl; exact rfl); exact rfl; exact rfl)
    | (apply WD.k_slice; exact rfl; exact y_slice; exact rfl; exact rfl)
    | (apply WD.k_build; exact rfl; exact y_build; exact rfl; exact rfl)
    | (apply WD.kl_store; exact rfl; rotate_left; exact rfl; (first | (apply LO.storeOI; exact rfl; exact rfl; exact t3A; exact seA; (first | omega | (simp only [List.length_set]; omega))) | (apply LO.storeQ; exact rfl; exact rfl; exact t4A; exact hmA; exact seA; omega) | (apply LO.storeI; exact rfl; exact rfl; exact t3A; exact seA; (first | omega | (simp only [List.length_set, List.length_replicate]; omega))) | (apply LO.storeWI; exact rfl; exact rfl; exact seA; exact t4A; (first | omega | (simp only [List.length_set, List.length_replicate]; omega)); (first | (simp only [List.length_map, List.length_set, List.length_replicate, ints]; omega) | rfl)) | (apply LO.store1; exact rfl; exact rfl; exact t3A; (first | exact One.lit rfl rfl | (apply One.sl; exact knA)); exact seA; (first | (simp only [List.length_cons, List.length_nil]; omega) | (simp; omega)); (first | (simp only [List.set_cons_succ, List.set_cons_zero]; exact rfl) | exact rfl)) | (apply LO.storeO1; exact rfl; exact rfl; exact t3A; (first | exact One.lit rfl rfl | (apply One.sl; exact knA)); exact seA; (first | (simp only [List.length_cons, List.length_nil]; omega) | (simp; omega)); (first | (simp only [List.set_cons_succ, List.set_cons_zero]; exact rfl) | exact rfl)) | (apply LO.storeL; exact rfl; exact rfl; exact seA; exact t4A; exact rfl; exact rfl; (repeat (first | exact OneL.nil | (apply OneL.cons; (first | exact One.lit rfl rfl | (apply One.sl; exact knA))))))); constructor; exact ltA))
  repeat (first
    | apply WD.nil
    | (apply WD.skg; exact rfl; exact rfl; exact rfl)
    | (apply WD.skgl; exact rfl; exact rfl; exact rfl)
    | (apply WD.skgl0; exact rfl; exact rfl)
    | (apply WD.k_move; exact rfl; (apply YO.move; exact rfl); exact rfl; exact rfl)
    | (apply WD.k_assign; exact rfl; (apply YO.assign; exact rfl); exact rfl; exact rfl)
    | (apply WD.k_lss; exact rfl; exact y_lss; exact rfl; exact rfl)
    | (apply WD.k_add; exact rfl; exact y_add; exact rfl; exact rfl)
    | (apply WD.k_len; exact rfl; exact y_len; exact rfl; exact rfl)
    | (apply WD.k_indexAddr; exact rfl; exact y_indexAddr; exact rfl; exact rfl)
    | (apply WD.k_load; exact rfl; exact y_load; exact rfl; exact rfl)
    | (apply WD.k_pick; exact rfl; exact y_pick; exact rfl; exact rfl)
    | (apply WD.k_fieldAddr; exact rfl; exact y_fieldAddr; exact rfl; exact rfl)
    | (apply WD.k_eql; exact rfl; exact y_eql; exact rfl; exact rfl)
    | (apply WD.k_neq; exact rfl; exact y_neq; exact rfl; exact rfl)
    | (apply WD.k_nil; exact rfl; (apply YO.nil; exact rfl); exact rfl; exact rfl)
    | (apply WD.k_extract; exact rfl; (apply YO.extract; exact rfl; exact rfl); exact rfl; exact rfl)
    | (apply WD.k_gtr; exact rfl; exact y_gtr; exact rfl; exact rfl)
    | (apply WD.k_geq; exact rfl; exact y_geq; exact rfl; exact rfl)
    | (apply WD.k_leq; exact rfl; exact y_leq; exact rfl; exact rfl)
    | (apply WD.k_sub; exact rfl; (apply YO.sub; exact rfl; exact rfl; omega; omega); exact rfl; exact rfl)
    | (apply WD.k_mul; exact rfl; exact y_mul; exact rfl; exact rfl)
    | (apply WD.k_rem; exact rfl; exact y_rem; exact rfl; exact rfl)
    | (apply WD.k_quo; exact rfl; exact y_quo; exact rfl; exact rfl)
    | (apply WD.k_unot; exact rfl; exact y_unot; exact rfl; exact rfl)
    | (apply WD.k_uneg; exact rfl; exact y_uneg; exact rfl; exact rfl)
    | (apply WD.k_max; exact rfl; (apply YO.max; exact rfl; exact rfl); exact rfl; exact rfl)
    | (apply WD.k_min; exact rfl; (apply YO.min; exact rfl; exact rfl); exact rfl; exact rfl)
    | (apply WD.k_makeFunc; exact rfl; exact y_makeFunc; exact rfl; exact rfl)
    | (apply WD.k_conv; exact rfl; exact y_conv; exact rfl; exact rfl)
    | (apply WD.k_shl; exact rfl; exact y_shl; exact rfl; exact rfl)
    | (apply WD.k_shr; exact rfl; (apply YO.shr'; exact rfl; exact rfl; omega; omega); exact rfl; exact rfl)
    | (apply WD.k_and; exact rfl; exact y_and; exact rfl; exact rfl)
    | (apply WD.k_or; exact rfl; exact y_or; exact rfl; exact rfl)
    | (apply WD.k_andNot; exact rfl; (apply YO.anot; exact rfl; exact rfl); exact rfl; exact rfl)
    | (apply WD.k_slice; exact rfl; exact y_slice; exact rfl; exact rfl)
    | (apply WD.k_build; exact rfl; exact y_build; exact rfl; exact rfl)
    | (apply WD.kl_store; exact rfl; rotate_left; exact rfl; (first | (apply LO.storeOI; exact rfl; exact rfl; exact t3A; exact seA; (first | omega | (simp only [List.length_set]; omega))) | (apply LO.storeQ; exact rfl; exact rfl; exact t4A; exact hmA; exact seA; omega) | (apply LO.storeI; exact rfl; exact rfl; exact t3A; exact seA; (first | omega | (simp only [List.length_set, List.length_replicate]; omega))) | (apply LO.storeWI; exact rfl; exact rfl; exact seA; exact t4A; (first | omega | (simp only [List.length_set, List.length_replicate]; omega)); (first | (simp only [List.length_map, List.length_set, List.length_replicate, ints]; omega) | rfl)) | (apply LO.store1; exact rfl; exact rfl; exact t3A; (first | exact One.lit rfl rfl | (apply One.sl; exact knA)); exact seA; (first | (simp only [List.length_cons, List.length_nil]; omega) | (simp; omega)); (first | (simp only [List.set_cons_succ, List.set_cons_zero]; exact rfl) | exact rfl)) | (apply LO.storeO1; exact rfl; exact rfl; exact t3A; (first | exact One.lit rfl rfl | (apply One.sl; exact knA)); exact seA; (first | (simp only [List.length_cons, List.length_nil]; omega) | (simp; omega)); (first | (simp only [List.set_cons_succ, List.set_cons_zero]; exact rfl) | exact rfl)) | (apply LO.storeL; exact rfl; exact rfl; exact seA; exact t4A; exact rfl; exact rfl; (repeat (first | exact OneL.nil | (apply OneL.cons; (first | exact One.lit rfl rfl | (apply One.sl; exact knA))))))); constructor; exact ltA))
  exact Bx.h h) : G := s ⟨h⟩
theorem goG {G G' : Prop} (h : G') (s : Bx G' → G := by
  intro h
  (first
    | (apply WL.kl_alloc; rotate_left; exact rfl; exact rfl; apply LO.alloc'; (first | exact t1A))
    | (apply WL.kl_box; rotate_left; exact rfl; exact rfl; (first | (apply LO.boxA; exact rfl) | (apply LO.box1; exact rfl; (first | exact One.lit rfl rfl | (apply One.sl; exact knA))))))
  exact Bx.h h) : G := s ⟨h⟩
theorem goV {G G' : Prop} (h : G') (s : Bx G' → G := by
  intro h
  (first
    | (apply WL.kl_ms; rotate_left; exact rfl; exact rfl; (apply LO.makeI; exact rfl; exact rfl; (repeat (first | (with_reducible apply NatI.add) | (with_reducible exact NatI.one) | exact NatI.cast _)); omega))
    | (apply WL.kl_ms; rotate_left; exact rfl; exact rfl; (apply LO.makeR; exact rfl; exact rfl; (repeat (first | (with_reducible apply NatI.add) | (with_reducible exact NatI.one) | exact NatI.cast _)); omega))
    | (apply WL.kl_bs; rotate_left; exact rfl; exact rfl; (apply LO.bsR0))
    | (apply WL.kl_bs; rotate_left; exact rfl; exact rfl; (apply LO.bsR1; exact rfl))
    | (apply WL.kl_bs; rotate_left; exact rfl; exact rfl; (apply LO.bsV1; exact rfl; exact knA))
    | (apply WL.kl_app; rotate_left; exact rfl; exact rfl; (apply LO.appR1; exact rfl; exact rfl; exact meA; exact hmA; (intro _; exact seA); omega))
    | (apply WL.kl_app; rotate_left; exact rfl; exact rfl; (apply LO.appFf; exact rfl; exact rfl; exact hmA; (intro _; exact seA); omega))
    | (apply WL.kl_app; rotate_left; exact rfl; exact rfl; (apply LO.appVV; exact rfl; exact rfl; exact meA; (apply One.sl; exact knA); (intro _; exact seA); omega))
    | (apply WL.kl_app; rotate_left; exact rfl; exact rfl; (apply LO.appNN; exact rfl; exact rfl; exact meA; (intro _; exact seA); omega))
    | (apply WL.kl_bs; rotate_left; exact rfl; exact rfl; apply LO.bs1; exact t6A; (repeat (first | exact EvP.nil | (apply EvP.cons; exact rfl))); (intro _; kernel_rfl); exact rfl; omega)
    | (apply WL.kl_app; rotate_left; exact rfl; exact rfl; apply LO.app; exact t5A; exact rfl; exact rfl; (first | (focus (apply SrcE.ints; exact hmA; done)) | (focus (apply SrcE.own1; exact meA; done)) | (focus (apply SrcE.one; exact meA; exact rfl; decide; done))); (intro v; exact seA); exact onA; exact leA; exact leA))
  exact Bx.h h) : G := s ⟨h⟩
theorem goDG {G G' : Prop} (h : G') (s : Bx G' → G := by
  intro h
  (first
    | (apply WD.kl_alloc; exact rfl; rotate_left; exact rfl; exact rfl; apply LO.alloc'; (first | exact t1A); apply allAnd; (intro _; exact ltA))
    | (apply WD.kl_box; exact rfl; rotate_left; exact rfl; exact rfl; (first | (apply LO.boxA; exact rfl) | (apply LO.box1; exact rfl; (first | exact One.lit rfl rfl | (apply One.sl; exact knA)))); apply allAnd; (intro _; exact ltA)))
  exact Bx.h h) : G := s ⟨h⟩
theorem goDV {G G' : Prop} (h : G') (s : Bx G' → G := by
  intro h
  (first
    | (apply WD.kl_ms; exact rfl; rotate_left; exact rfl; exact rfl; (apply LO.makeI; exact rfl; exact rfl; (repeat (first | (with_reducible apply NatI.add) | (with_reducible exact NatI.one) | exact NatI.cast _)); omega); apply allAnd; (intro _; exact ltA))
    | (apply WD.kl_ms; exact rfl; rotate_left; exact rfl; exact rfl; (apply LO.makeR; exact rfl; exact rfl; (repeat (first | (with_reducible apply NatI.add) | (with_reducible exact NatI.one) | exact NatI.cast _)); omega); apply allAnd; (intro _; exact ltA))
    | (apply WD.kl_bs; exact rfl; rotate_left; exact rfl; exact rfl; (apply LO.bsR0); apply allAnd; (intro _; exact ltA))
    | (apply WD.kl_bs; exact rfl; rotate_left; exact rfl; exact rfl; (apply LO.bsR1; exact rfl); apply allAnd; (intro _; exact ltA))
    | (apply WD.kl_bs; exact rfl; rotate_left; exact rfl; exact rfl; (apply LO.bsV1; exact rfl; exact knA); apply allAnd; (intro _; exact ltA))
    | (apply WD.kl_app; exact rfl; rotate_left; exact rfl; exact rfl; (apply LO.appR1; exact rfl; exact rfl; exact meA; exact hmA; (intro _; exact seA); omega); apply allAnd; (intro _; exact ltA))
    | (apply WD.kl_app; exact rfl; rotate_left; exact rfl; exact rfl; (apply LO.appFf; exact rfl; exact rfl; exact hmA; (intro _; exact seA); omega); apply allAnd; (intro _; exact ltA))
    | (apply WD.kl_app; exact rfl; rotate_left; exact rfl; exact rfl; (apply LO.appVV; exact rfl; exact rfl; exact meA; (apply One.sl; exact knA); (intro _; exact seA); omega); apply allAnd; (intro _; exact ltA))
    | (apply WD.kl_app; exact rfl; rotate_left; exact rfl; exact rfl; (apply LO.appNN; exact rfl; exact rfl; exact meA; (intro _; exact seA); omega); apply allAnd; (intro _; exact ltA))
    | (apply WD.kl_bs; exact rfl; rotate_left; exact rfl; exact rfl; apply LO.bs1; exact t6A; (repeat (first | exact EvP.nil | (apply EvP.cons; exact rfl))); (intro _; kernel_rfl); exact rfl; omega; apply allAnd; (intro _; exact ltA))
    | (apply WD.kl_app; exact rfl; rotate_left; exact rfl; exact rfl; apply LO.app; exact t5A; exact rfl; exact rfl; (first | (focus (apply SrcE.ints; exact hmA; done)) | (focus (apply SrcE.own1; exact meA; done)) | (focus (apply SrcE.one; exact meA; exact rfl; decide; done))); (intro v; exact seA); exact onA; exact leA; exact leA; apply allAnd; (intro _; exact ltA)))
  exact Bx.h h) : G := s ⟨h⟩
theorem goLG {G G' : Prop} (h : G') (s : Bx G' → G := by
  intro h
  (first
    | (apply LO.alloc'; (first | exact t1A); apply allAnd; (intro _; exact ltA))
    | ((first | (apply LO.boxA; exact rfl) | (apply LO.box1; exact rfl; (first | exact One.lit rfl rfl | (apply One.sl; exact knA)))); apply allAnd; (intro _; exact ltA)))
  exact Bx.h h) : G := s ⟨h⟩
theorem goLV {G G' : Prop} (h : G') (s : Bx G' → G := by
  intro h
  (first
    | (apply LO.bs1; exact t6A; (repeat (first | exact EvP.nil | (apply EvP.cons; exact rfl))); (intro _; kernel_rfl); exact rfl; omega; apply allAnd; (intro _; exact ltA))
    | (apply LO.app; exact t5A; exact rfl; exact rfl; (first | (focus (apply SrcE.ints; exact hmA; done)) | (focus (apply SrcE.own1; exact meA; done)) | (focus (apply SrcE.one; exact meA; exact rfl; decide; done))); (intro v; exact seA); exact onA; exact leA; exact leA; apply allAnd; (intro _; exact ltA))
    | ((apply LO.makeI; exact rfl; exact rfl; (repeat (first | (with_reducible apply NatI.add) | (with_reducible exact NatI.one) | exact NatI.cast _)); omega); apply allAnd; (intro _; exact ltA))
    | ((apply LO.makeR; exact rfl; exact rfl; (repeat (first | (with_reducible apply NatI.add) | (with_reducible exact NatI.one) | exact NatI.cast _)); omega); apply allAnd; (intro _; exact ltA))
    | ((apply LO.bsR0); apply allAnd; (intro _; exact ltA))
    | ((apply LO.bsR1; exact rfl); apply allAnd; (intro _; exact ltA))
    | ((apply LO.bsV1; exact rfl; exact knA); apply allAnd; (intro _; exact ltA))
    | ((apply LO.appR1; exact rfl; exact rfl; exact meA; exact hmA; (intro _; exact seA); omega); apply allAnd; (intro _; exact ltA))
    | ((apply LO.appFf; exact rfl; exact rfl; exact hmA; (intro _; exact seA); omega); apply allAnd; (intro _; exact ltA))
    | ((apply LO.appVV; exact rfl; exact rfl; exact meA; (apply One.sl; exact knA); (intro _; exact seA); omega); apply allAnd; (intro _; exact ltA))
    | ((apply LO.appNN; exact rfl; exact rfl; exact meA; (intro _; exact seA); omega); apply allAnd; (intro _; exact ltA)))
  exact Bx.h h) : G := s ⟨h⟩
theorem goLS {G G' : Prop} (h : G') (s : Bx G' → G := by
  intro h
  (first
    | ((first | (apply LO.storeOI; exact rfl; exact rfl; exact t3A; exact seA; (first | omega | (simp only [List.length_set]; omega))) | (apply LO.storeQ; exact rfl; exact rfl; exact t4A; exact hmA; exact seA; omega) | (apply LO.storeI; exact rfl; exact rfl; exact t3A; exact seA; (first | omega | (simp only [List.length_set, List.length_replicate]; omega))) | (apply LO.storeWI; exact rfl; exact rfl; exact seA; exact t4A; (first | omega | (simp only [List.length_set, List.length_replicate]; omega)); (first | (simp only [List.length_map, List.length_set, List.length_replicate, ints]; omega) | rfl)) | (apply LO.store1; exact rfl; exact rfl; exact t3A; (first | exact One.lit rfl rfl | (apply One.sl; exact knA)); exact seA; (first | (simp only [List.length_cons, List.length_nil]; omega) | (simp; omega)); (first | (simp only [List.set_cons_succ, List.set_cons_zero]; exact rfl) | exact rfl)) | (apply LO.storeO1; exact rfl; exact rfl; exact t3A; (first | exact One.lit rfl rfl | (apply One.sl; exact knA)); exact seA; (first | (simp only [List.length_cons, List.length_nil]; omega) | (simp; omega)); (first | (simp only [List.set_cons_succ, List.set_cons_zero]; exact rfl) | exact rfl)) | (apply LO.storeL; exact rfl; exact rfl; exact seA; exact t4A; exact rfl; exact rfl; (repeat (first | exact OneL.nil | (apply OneL.cons; (first | exact One.lit rfl rfl | (apply One.sl; exact knA))))))); constructor; exact ltA))
  exact Bx.h h) : G := s ⟨h⟩
theorem goYT {G G' : Prop} (h : G') (s : Bx G' → G := by
  intro h
  (apply WD.yl; exact rfl; (first | (apply YO.move; exact rfl) | (apply YO.assign; exact rfl) | exact y_lss | exact y_add | exact y_len | exact y_indexAddr | exact y_load | exact y_pick | exact y_fieldAddr | exact y_eql | exact y_neq | (apply YO.nil; exact rfl) | (apply YO.extract; exact rfl; exact rfl) | exact y_gtr | exact y_geq | exact y_leq | (apply YO.sub; exact rfl; exact rfl; omega; omega) | exact y_mul | exact y_rem | exact y_quo | exact y_unot | exact y_uneg | (apply YO.max; exact rfl; exact rfl) | (apply YO.min; exact rfl; exact rfl) | exact y_makeFunc | exact y_conv | exact y_shl | (apply YO.shr'; exact rfl; exact rfl; omega; omega) | exact y_and | exact y_or | (apply YO.anot; exact rfl; exact rfl) | exact y_slice); exact rfl; exact rfl)
  exact Bx.h h) : G := s ⟨h⟩
section
variable {P : Program} {n : Nat} {L rest : List Oper} {e : Env} {bx b0 : List Ow} {F F0 : List Fct} {Q : Env → List Ow → List Fct → Prop} {d i : Nat} {ty : TypeId} {pos : String} {af : Array Edge} {g : Option (Nat × Bool)} {hs : List Nat} {r : Plan}
  {f : FuncId} {x : Operand} {args : List Operand} {ats : Array TypeId} {vs cs : List Value} {F' : List Fct} {u : Value} {el sz : Nat}
theorem WL.callV (hf : FnB P f vs [] F' (IsV u)) (hK : WL P n L rest ((d, u) :: e) bx F Q) (hx : ev e x = some (.func (.func f) #[] #[]) := by exact rfl) (hv : Evs e args vs := by repeat (first | exact Evs.nil | (apply Evs.cons; exact rfl))) (hF : HasAllB bx F F' := by repeat (first | exact HasAllB.nil | (apply HasAllB.cons; (first | (focus (apply HasB.oI; exact meA; done)) | (focus (apply HasB.c; exact meA; done)) | (focus (apply HasB.f; exact hsA; done)) | (focus (apply HasB.fF; exact meA; exact hmA; done)) | (focus (apply HasB.rows; (repeat (first | exact List.Sublist.refl _ | apply List.Sublist.cons)); exact hmA; done)) | (focus (apply HasB.sV; exact meA; done)) | (focus (apply HasB.sN; exact meA; done))))))
    (hd : Nat.blt d n = true := by exact rfl) (hg : gok L e g = some true := by exact rfl) : WL P n L (⟨some d, .call { callee := .value x, args := args.toArray, argTypes := ats }, ty, pos, af, g⟩ :: rest) e bx F Q :=
  WL.l hd hg (LO.callRV hx hv hf hF hK)
theorem WL.callO (hf : FnB P f vs [] F' (IsO el sz cs)) (hK : ∀ v, WL P n L rest ((d, v) :: e) (Ow.slice v el sz cs :: bx) F Q) (hx : ev e x = some (.func (.func f) #[] #[]) := by exact rfl) (hv : Evs e args vs := by repeat (first | exact Evs.nil | (apply Evs.cons; exact rfl))) (hF : HasAllB bx F F' := by repeat (first | exact HasAllB.nil | (apply HasAllB.cons; (first | (focus (apply HasB.oI; exact meA; done)) | (focus (apply HasB.c; exact meA; done)) | (focus (apply HasB.f; exact hsA; done)) | (focus (apply HasB.fF; exact meA; exact hmA; done)) | (focus (apply HasB.rows; (repeat (first | exact List.Sublist.refl _ | apply List.Sublist.cons)); exact hmA; done)) | (focus (apply HasB.sV; exact meA; done)) | (focus (apply HasB.sN; exact meA; done))))))
    (hd : Nat.blt d n = true := by exact rfl) (hg : gok L e g = some true := by exact rfl) : WL P n L (⟨some d, .call { callee := .value x, args := args.toArray, argTypes := ats }, ty, pos, af, g⟩ :: rest) e bx F Q :=
  WL.l hd hg (LO.callRO hx hv hf hF hK)
theorem WD.callV (hf : FnB P f vs [] F' (IsV u)) (hK : WD P n L hs b0 F0 r ((d, u) :: e) bx F Q) (hL : L[i]? = some ⟨some d, .call { callee := .value x, args := args.toArray, argTypes := ats }, ty, pos, af, g⟩ := by exact rfl) (hx : ev e x = some (.func (.func f) #[] #[]) := by exact rfl) (hv : Evs e args vs := by repeat (first | exact Evs.nil | (apply Evs.cons; exact rfl))) (hF : HasAllB bx F F' := by repeat (first | exact HasAllB.nil | (apply HasAllB.cons; (first | (focus (apply HasB.oI; exact meA; done)) | (focus (apply HasB.c; exact meA; done)) | (focus (apply HasB.f; exact hsA; done)) | (focus (apply HasB.fF; exact meA; exact hmA; done)) | (focus (apply HasB.rows; (repeat (first | exact List.Sublist.refl _ | apply List.Sublist.cons)); exact hmA; done)) | (focus (apply HasB.sV; exact meA; done)) | (focus (apply HasB.sN; exact meA; done))))))
    (hd : Nat.blt d n = true := by exact rfl) (hg : gok L e g = some true := by exact rfl) (lt : lateB L hs i = true ∨ (b0.Sublist bx ∧ ∀ f ∈ F0, f ∈ F) := by exact ltA) : WD P n L hs b0 F0 (.loud i r) e bx F Q :=
  WD.l hL hd hg (LO.callRV hx hv hf hF ⟨lt, hK⟩)
theorem WD.callO (hf : FnB P f vs [] F' (IsO el sz cs)) (hK : ∀ v, WD P n L hs b0 F0 r ((d, v) :: e) (Ow.slice v el sz cs :: bx) F Q) (hL : L[i]? = some ⟨some d, .call { callee := .value x, args := args.toArray, argTypes := ats }, ty, pos, af, g⟩ := by exact rfl) (hx : ev e x = some (.func (.func f) #[] #[]) := by exact rfl) (hv : Evs e args vs := by repeat (first | exact Evs.nil | (apply Evs.cons; exact rfl))) (hF : HasAllB bx F F' := by repeat (first | exact HasAllB.nil | (apply HasAllB.cons; (first | (focus (apply HasB.oI; exact meA; done)) | (focus (apply HasB.c; exact meA; done)) | (focus (apply HasB.f; exact hsA; done)) | (focus (apply HasB.fF; exact meA; exact hmA; done)) | (focus (apply HasB.rows; (repeat (first | exact List.Sublist.refl _ | apply List.Sublist.cons)); exact hmA; done)) | (focus (apply HasB.sV; exact meA; done)) | (focus (apply HasB.sN; exact meA; done))))))
    (hd : Nat.blt d n = true := by exact rfl) (hg : gok L e g = some true := by exact rfl) (lt : lateB L hs i = true ∨ (b0.Sublist bx ∧ ∀ f ∈ F0, f ∈ F) := by exact ltA) : WD P n L hs b0 F0 (.loud i r) e bx F Q :=
  WD.l hL hd hg (LO.callRO hx hv hf hF fun v => ⟨lt.imp id fun h => ⟨h.1.trans (List.sublist_cons_self _ _), h.2⟩, hK v⟩)
end
end Z
end Go.Proofs.YtaongbhamadlkaaGreat
namespace Go.Proofs.YtaongbhamadlkaaGreat
namespace X
theorem pige : ∀ (n : Nat) (p : Nat → Nat), (∀ i, i ≤ n → p i < n) → ∃ i j, i < j ∧ j ≤ n ∧ p i = p j := by
  intro n
  induction n with
  | zero => intro p h; have := h 0 (Nat.le_refl _); omega
  | succ n ih =>
    intro p h
    by_cases c : ∃ i, i ≤ n ∧ p i = p (n + 1)
    · obtain ⟨i, h1, h2⟩ := c; exact ⟨i, n + 1, by omega, Nat.le_refl _, h2⟩
    · have hc : ∀ i, i ≤ n → p i ≠ p (n + 1) := fun i h1 h2 => c ⟨i, h1, h2⟩
      obtain ⟨i, j, h1, h2, h3⟩ := ih (fun i => if p i = n then p (n + 1) else p i) (fun i hi => by
        have h4 := h i (by omega)
        have h5 := h (n + 1) (by omega)
        have h6 := hc i hi
        split <;> omega)
      refine ⟨i, j, h1, by omega, ?_⟩
      have h6 := hc i (by omega)
      have h7 := hc j (by omega)
      split at h3 <;> split at h3 <;> omega
def cod (n : Nat) (b : Nat → Nat) : Nat → Nat
  | 0 => 0
  | i + 1 => cod n b i * n + b i
theorem cod_lt {n : Nat} {b : Nat → Nat} : ∀ m, (∀ i, i < m → b i < n) → cod n b m < n ^ m
  | 0, _ => by simp [cod]
  | m + 1, h => by
    have h1 := cod_lt m (fun i hi => h i (by omega))
    have h2 := h m (by omega)
    have h3 : (cod n b m + 1) * n ≤ n ^ m * n := Nat.mul_le_mul_right _ h1
    rw [Nat.add_mul] at h3
    rw [cod, Nat.pow_succ]; omega
theorem cod_inj {n : Nat} {b b' : Nat → Nat} : ∀ m, (∀ i, i < m → b i < n) → (∀ i, i < m → b' i < n) → cod n b m = cod n b' m → ∀ i, i < m → b i = b' i
  | 0, _, _, _ => fun i hi => by omega
  | m + 1, h, h', he => fun i hi => by
    have h1 := h m (by omega)
    have h2 := h' m (by omega)
    rw [cod, cod] at he
    have e1 : (cod n b m * n + b m) % n = b m := by rw [Nat.mul_comm, Nat.mul_add_mod, Nat.mod_eq_of_lt h1]
    have e2 : (cod n b' m * n + b' m) % n = b' m := by rw [Nat.mul_comm, Nat.mul_add_mod, Nat.mod_eq_of_lt h2]
    have e3 : b m = b' m := by rw [← e1, ← e2, he]
    by_cases e : i = m
    · rw [e]; exact e3
    · have e4 : cod n b m * n = cod n b' m * n := by omega
      exact cod_inj m (fun i hi => h i (by omega)) (fun i hi => h' i (by omega)) (Nat.eq_of_mul_eq_mul_right (by omega) e4) i (by omega)
theorem max_of {P : Nat → Prop} : ∀ n, (∃ v, P v) → (∀ v, P v → v < n) → ∃ t, P t ∧ ∀ v, P v → v ≤ t
  | 0, ⟨v, hv⟩, h => by have := h v hv; omega
  | n + 1, hx, h => by
    by_cases c : P n
    · exact ⟨n, c, fun v hv => by have := h v hv; omega⟩
    · exact max_of n hx fun v hv => by
        have := h v hv
        have : v ≠ n := fun e => c (e ▸ hv)
        omega
section
variable {m n e : Nat} {A : Nat → Nat → Rat} {c0 : Nat → Rat}
theorem Stp.inv {s s' : St} (h : Stp m n e s s') : ∃ r k, s' = pv s r k ∧ k < e ∧ s.c k < 0 ∧ (∀ j, j < k → 0 ≤ s.c j) ∧ r < m ∧ 0 < s.t r k ∧ ∀ i, i < m → 0 < s.t i k → s.t r n / s.t r k ≤ s.t i n / s.t i k ∧ (s.t i n / s.t i k = s.t r n / s.t r k → s.b r ≤ s.b i) := by
  obtain ⟨r, k, h1, h2⟩ := h
  rcases ent_spec s e with ⟨g, _⟩ | ⟨k', g1, g2, g3, g4⟩
  · rw [h1] at g; cases g
  obtain rfl : k = k' := by rw [h1] at g1; cases g1; rfl
  rcases lev_spec n s k m with ⟨g, _⟩ | ⟨r', f1, f2, f3, f4⟩
  · rw [h2] at g; cases g
  obtain rfl : r = r' := by rw [h2] at f1; cases f1; rfl
  exact ⟨r, k, rfl, g2, g3, g4, f2, f3, f4⟩
theorem Inv.inj {s : St} (h : Inv m n A c0 s) {i k : Nat} (hi : i < m) (hk : k < m) (he : s.b i = s.b k) : i = k := by
  have h1 := h.u i hi k hk
  have h2 := h.u i hi i hi
  rw [if_pos rfl, he, h1] at h2
  by_cases e : i = k
  · exact e
  · rw [if_neg e] at h2; exact absurd h2 (by decide)
theorem Inv.non {s : St} (h : Inv m n A c0 s) {k : Nat} (hk : s.c k < 0) : ¬ Bas m s k := by
  rintro ⟨r, hr, rfl⟩
  have := h.z r hr
  grind
theorem no_forever {S : Nat → St} (h0 : Ok m n e A c0 (S 0)) (he : e ≤ n) (hS : ∀ i, Stp m n e (S i) (S (i + 1))) : False := by
  have hok : ∀ i, Ok m n e A c0 (S i) := fun i => by
    induction i with
    | zero => exact h0
    | succ i ih => exact ih.stp he (hS i)
  obtain ⟨R, hR⟩ := Classical.axiomOfChoice (fun p => (hS p).inv)
  obtain ⟨K, hK⟩ := Classical.axiomOfChoice hR
  clear hR
  -- a basis comes again
  obtain ⟨i, j, hij, _, hcod⟩ := pige (n ^ m) (fun p => cod n (S p).b m) (fun p _ => cod_lt m (hok p).i.bd)
  have hb : ∀ r, r < m → (S i).b r = (S j).b r := cod_inj m (hok i).i.bd (hok j).i.bd hcod
  obtain ⟨_, huc⟩ := (hok i).i.uniq (hok j).i hb
  have hcn := huc n (Nat.le_refl _)
  -- costs do not fall
  have hstep : ∀ p, (S (p + 1)).c n = (S p).c n - (S p).c (K p) * ((S p).t (R p) n / (S p).t (R p) (K p)) := fun p => by
    rw [(hK p).1]; rfl
  have hq : ∀ p, 0 ≤ (S p).t (R p) n / (S p).t (R p) (K p) := fun p => ratio_nonneg ((hok p).f _ (hK p).2.2.2.2.1) (hK p).2.2.2.2.2.1
  have hmon1 : ∀ p, (S p).c n ≤ (S (p + 1)).c n := fun p => by
    have h1 := Rat.mul_nonneg (show 0 ≤ -(S p).c (K p) by have := (hK p).2.2.1; grind) (hq p)
    rw [hstep p]; grind
  have hmon : ∀ d p, (S p).c n ≤ (S (p + d)).c n := fun d => by
    induction d with
    | zero => intro p; exact Rat.le_refl
    | succ d ih => intro p; have h1 := ih p; have h2 := hmon1 (p + d); rw [show p + (d + 1) = p + d + 1 by omega]; grind
  have hz : ∀ p, i ≤ p → p < j → (S p).t (R p) n = 0 := fun p h1 h2 => by
    have g1 := hmon (p - i) i
    have g2 := hmon (j - (p + 1)) (p + 1)
    rw [show i + (p - i) = p by omega] at g1
    rw [show p + 1 + (j - (p + 1)) = j by omega] at g2
    have g3 := hmon1 p
    have g4 := hstep p
    have g5 : (S p).c (K p) * ((S p).t (R p) n / (S p).t (R p) (K p)) = 0 := by grind
    have g6 := (hK p).2.2.1
    have g7 := (hK p).2.2.2.2.2.1
    have g8 : (S p).t (R p) n / (S p).t (R p) (K p) = 0 := by
      rcases Rat.mul_eq_zero.1 g5 with g | g
      · grind
      · exact g
    have g9 : (S p).t (R p) n = (S p).t (R p) n / (S p).t (R p) (K p) * (S p).t (R p) (K p) := (div_mul_self' (by grind)).symm
    rw [g9, g8]; grind
  -- the values of all columns stay
  have hval : ∀ p v, i ≤ p → p < j → (sm m fun r => if (S (p + 1)).b r = v then (S (p + 1)).t r n else 0) = sm m fun r => if (S p).b r = v then (S p).t r n else 0 := fun p v h1 h2 => by
    have g1 := hz p h1 h2
    rw [(hK p).1]
    refine sm_congr fun r hr => ?_
    show (if (if r = R p then K p else (S p).b r) = v then (if r = R p then (S p).t (R p) n / (S p).t (R p) (K p) else (S p).t r n - (S p).t r (K p) * ((S p).t (R p) n / (S p).t (R p) (K p))) else 0) = _
    by_cases e : r = R p
    · subst e
      rw [if_pos rfl, if_pos rfl, g1]
      split <;> split <;> grind
    · rw [if_neg e, if_neg e, g1]
      split <;> grind
  have hval2 : ∀ d p v, i ≤ p → p + d ≤ j → (sm m fun r => if (S (p + d)).b r = v then (S (p + d)).t r n else 0) = sm m fun r => if (S p).b r = v then (S p).t r n else 0 := fun d => by
    induction d with
    | zero => intro p v _ _; rfl
    | succ d ih => intro p v h1 h2; rw [show p + (d + 1) = p + d + 1 by omega, hval (p + d) v (by omega) (by omega), ih p v h1 (by omega)]
  have hval3 : ∀ p q v, i ≤ p → p ≤ j → i ≤ q → q ≤ j → (sm m fun r => if (S p).b r = v then (S p).t r n else 0) = sm m fun r => if (S q).b r = v then (S q).t r n else 0 := fun p q v h1 h2 h3 h4 => by
    have g1 := hval2 (p - i) i v (Nat.le_refl _) (by omega)
    have g2 := hval2 (q - i) i v (Nat.le_refl _) (by omega)
    rw [show i + (p - i) = p by omega] at g1
    rw [show i + (q - i) = q by omega] at g2
    rw [g1, g2]
  -- what enters and leaves
  have hent : ∀ d a v, ¬ Bas m (S a) v → Bas m (S (a + d)) v → ∃ p, a ≤ p ∧ p < a + d ∧ K p = v := fun d => by
    induction d with
    | zero => intro a v h1 h2; exact absurd h2 h1
    | succ d ih =>
      intro a v h1 h2
      by_cases c : Bas m (S (a + d)) v
      · obtain ⟨p, p1, p2, p3⟩ := ih a v h1 c
        exact ⟨p, p1, by omega, p3⟩
      · refine ⟨a + d, by omega, by omega, ?_⟩
        rw [show a + (d + 1) = a + d + 1 by omega, (hK (a + d)).1] at h2
        obtain ⟨r, r1, r2⟩ := h2
        have r2' : (if r = R (a + d) then K (a + d) else (S (a + d)).b r) = v := r2
        by_cases e : r = R (a + d)
        · rw [if_pos e] at r2'; exact r2'
        · rw [if_neg e] at r2'; exact absurd ⟨r, r1, r2'⟩ c
  have hlev : ∀ d a v, Bas m (S a) v → ¬ Bas m (S (a + d)) v → ∃ p, a ≤ p ∧ p < a + d ∧ (S p).b (R p) = v := fun d => by
    induction d with
    | zero => intro a v h1 h2; exact absurd h1 h2
    | succ d ih =>
      intro a v h1 h2
      by_cases c : Bas m (S (a + d)) v
      · refine ⟨a + d, by omega, by omega, ?_⟩
        obtain ⟨r, r1, r2⟩ := c
        by_cases e : r = R (a + d)
        · rw [← e]; exact r2
        · refine absurd ⟨r, r1, ?_⟩ h2
          rw [show a + (d + 1) = a + d + 1 by omega, (hK (a + d)).1]
          show (if r = R (a + d) then K (a + d) else (S (a + d)).b r) = v
          rw [if_neg e]; exact r2
      · obtain ⟨p, p1, p2, p3⟩ := ih a v h1 c
        exact ⟨p, p1, by omega, p3⟩
  have hsame : ∀ v, Bas m (S i) v ↔ Bas m (S j) v := fun v => by
    constructor
    · rintro ⟨r, r1, r2⟩; exact ⟨r, r1, by rw [← hb r r1]; exact r2⟩
    · rintro ⟨r, r1, r2⟩; exact ⟨r, r1, by rw [hb r r1]; exact r2⟩
  have hfick : ∀ a b v, i ≤ a → a ≤ j → i ≤ b → b ≤ j → Bas m (S a) v → ¬ Bas m (S b) v → ∃ p, i ≤ p ∧ p < j ∧ K p = v := fun a b v h1 h2 h3 h4 h5 h6 => by
    by_cases c : b < a
    · obtain ⟨p, p1, p2, p3⟩ := hent (a - b) b v h6 (by rw [show b + (a - b) = a by omega]; exact h5)
      exact ⟨p, by omega, by omega, p3⟩
    · by_cases d : Bas m (S i) v
      · obtain ⟨p, p1, p2, p3⟩ := hent (j - b) b v h6 (by rw [show b + (j - b) = j by omega]; exact (hsame v).1 d)
        exact ⟨p, by omega, by omega, p3⟩
      · obtain ⟨p, p1, p2, p3⟩ := hent (a - i) i v d (by rw [show i + (a - i) = a by omega]; exact h5)
        exact ⟨p, by omega, by omega, p3⟩
  -- the greatest one that enters
  obtain ⟨t, ⟨p1, a1, a2, rfl⟩, htm⟩ := max_of (P := fun v => ∃ p, i ≤ p ∧ p < j ∧ K p = v) n ⟨_, i, Nat.le_refl _, hij, rfl⟩ (fun v ⟨p, _, _, h⟩ => by have := (hK p).2.1; omega)
  have hn1 : ¬ Bas m (S p1) (K p1) := (hok p1).i.non (hK p1).2.2.1
  have hy1 : Bas m (S (p1 + 1)) (K p1) := by
    refine ⟨R p1, (hK p1).2.2.2.2.1, ?_⟩
    rw [(hK p1).1]; exact if_pos rfl
  obtain ⟨p2, b1, b2, b3⟩ : ∃ p, i ≤ p ∧ p < j ∧ (S p).b (R p) = K p1 := by
    by_cases d : Bas m (S i) (K p1)
    · obtain ⟨p, q1, q2, q3⟩ := hlev (p1 - i) i _ d (by rw [show i + (p1 - i) = p1 by omega]; exact hn1)
      exact ⟨p, by omega, by omega, q3⟩
    · obtain ⟨p, q1, q2, q3⟩ := hlev (j - (p1 + 1)) (p1 + 1) _ hy1 (by rw [show p1 + 1 + (j - (p1 + 1)) = j by omega]; exact fun h => d ((hsame _).2 h))
      exact ⟨p, by omega, by omega, q3⟩
  obtain ⟨_, k2, k3, k4, k5, k6, k7⟩ := hK p2
  obtain ⟨_, l2, l3, l4, _⟩ := hK p1
  have hlt : K p2 < K p1 := by
    have h1 := htm (K p2) ⟨p2, b1, b2, rfl⟩
    have h2 : K p2 ≠ K p1 := fun h => (hok p2).i.non k3 ⟨R p2, k5, by rw [b3, h]⟩
    omega
  have hcr := (hok p2).i.cross (hok p1).i (j := K p2) (by omega)
  have hpos := l4 _ hlt
  -- some basic column has a cost there
  have hex : ∃ r, r < m ∧ 0 < (S p1).c ((S p2).b r) * (S p2).t r (K p2) := Classical.byContradiction fun hno => by
    have : (sm m fun r => (S p1).c ((S p2).b r) * (S p2).t r (K p2)) ≤ sm m fun _ => 0 := sm_le fun r hr => by
      have h1 : ¬ 0 < (S p1).c ((S p2).b r) * (S p2).t r (K p2) := fun h => hno ⟨r, hr, h⟩
      grind
    rw [sm_zero (fun _ _ => rfl)] at this
    grind
  obtain ⟨r, r1, r2⟩ := hex
  have hne : r ≠ R p2 := fun h => by
    subst h
    rw [b3] at r2
    have := Rat.mul_pos (show 0 < -(S p1).c (K p1) by grind) k6
    grind
  have hnz : (S p1).c ((S p2).b r) ≠ 0 := fun h => by rw [h] at r2; grind
  have hnb : ¬ Bas m (S p1) ((S p2).b r) := by
    rintro ⟨x, x1, x2⟩
    exact hnz (by rw [← x2]; exact (hok p1).i.z x x1)
  have hby : Bas m (S p2) ((S p2).b r) := ⟨r, r1, rfl⟩
  have hvt := htm _ (hfick p2 p1 _ b1 (by omega) a1 (by omega) hby hnb)
  have hvt2 : (S p2).b r ≠ K p1 := fun h => hne ((hok p2).i.inj r1 k5 (by rw [h, b3]))
  have hcp := l4 ((S p2).b r) (by omega)
  have htp : 0 < (S p2).t r (K p2) := by
    refine Classical.byContradiction fun h => ?_
    have := Rat.mul_nonneg hcp (show 0 ≤ -(S p2).t r (K p2) by grind)
    grind
  -- its value is 0
  have hv0 : (S p2).t r n = 0 := by
    have h1 := hval3 p2 p1 ((S p2).b r) b1 (by omega) a1 (by omega)
    rw [sm_zero (f := fun x => if (S p1).b x = (S p2).b r then (S p1).t x n else 0) (fun x hx => if_neg fun h => hnb ⟨x, hx, h⟩)] at h1
    rw [sm_one r1 (fun x hx hxr => if_neg fun h => hxr ((hok p2).i.inj hx r1 h)), if_pos rfl] at h1
    exact h1
  have hq0 := hz p2 b1 b2
  have := (k7 r r1 htp).2 (by rw [hv0, hq0]; grind)
  rw [b3] at this
  omega
end
end X
end Go.Proofs.YtaongbhamadlkaaGreat
namespace Go.Proofs.YtaongbhamadlkaaGreat
namespace X
section
variable {m n e : Nat} {A : Nat → Nat → Rat} {c0 : Nat → Rat} {s : St}
def prc (m : Nat) (c1 : Nat → Rat) (s : St) : St := { s with c := fun j => c1 j - sm m fun i => c1 (s.b i) * s.t i j }
theorem Inv.prc (h : Inv m n A c0 s) (c1 : Nat → Rat) : Inv m n A c1 (prc m c1 s) := by
  obtain ⟨M, hM⟩ := h.l
  refine ⟨h.bd, h.u, h.l, h.r, ⟨fun r => sm m fun i => c1 (s.b i) * M i r, fun j hj => ?_⟩, fun i hi => ?_⟩
  · show c1 j - (sm m fun i => c1 (s.b i) * s.t i j) = _
    congr 1
    rw [show (sm m fun i => c1 (s.b i) * s.t i j) = sm m fun i => sm m fun r => (c1 (s.b i) * M i r) * A r j from sm_congr fun i hi => by
      rw [hM i hi j hj, ← sm_mul]; exact sm_congr fun r _ => by grind]
    rw [sm_comm]
    exact sm_congr fun r _ => by rw [sm_mulr]
  · show c1 (s.b i) - (sm m fun k => c1 (s.b k) * s.t k (s.b i)) = 0
    rw [sm_one hi (fun k hk hki => by rw [h.u k hk i hi, if_neg hki]; grind), h.u i hi i hi, if_pos rfl]; grind
def runP (m n e : Nat) : Nat → St → Option (St × Option Nat)
  | 0, _ => none
  | F + 1, s => match ent s e with
    | none => some (s, none)
    | some k => match lev n s k m with
      | none => some (s, some k)
      | some r => runP m n e F (pv s r k)
def stp (m n e : Nat) (s : St) : St := match ent s e with
  | none => s
  | some k => match lev n s k m with
    | none => s
    | some r => pv s r k
def its (m n e : Nat) (s : St) : Nat → St
  | 0 => s
  | i + 1 => stp m n e (its m n e s i)
theorem its_stp (s : St) : ∀ i, its m n e s (i + 1) = its m n e (stp m n e s) i
  | 0 => rfl
  | i + 1 => by
    show stp m n e (its m n e s (i + 1)) = stp m n e (its m n e (stp m n e s) i)
    rw [its_stp s i]
theorem run_none : ∀ (F : Nat) (s : St), runP m n e F s = none → ∀ i, i < F → Stp m n e (its m n e s i) (its m n e s (i + 1)) := by
  intro F
  induction F with
  | zero => intro s _ i hi; omega
  | succ F ih =>
    intro s h i hi
    unfold runP at h
    split at h
    · cases h
    · rename_i k h1
      split at h
      · cases h
      · rename_i r h2
        have hs : stp m n e s = pv s r k := by unfold stp; rw [h1]; simp only; rw [h2]
        cases i with
        | zero => show Stp m n e s (stp m n e s); rw [hs]; exact .mk r k h1 h2
        | succ i =>
          rw [its_stp, its_stp, hs]
          exact ih _ h i (by omega)
theorem run_ends (h : Ok m n e A c0 s) (he : e ≤ n) : ∃ F x, runP m n e F s = some x := Classical.byContradiction fun hno => by
  refine no_forever (S := its m n e s) h he fun i => ?_
  refine run_none (i + 1) s ?_ i (by omega)
  cases hr : runP m n e (i + 1) s with
  | none => rfl
  | some x => exact absurd ⟨_, _, hr⟩ hno
theorem run_ind {P : St → Prop} (hp : ∀ s s', P s → Stp m n e s s' → P s') : ∀ (F : Nat) (s : St) (x : St × Option Nat), P s → runP m n e F s = some x → P x.1 := by
  intro F
  induction F with
  | zero => intro s x _ h; cases h
  | succ F ih =>
    intro s x h1 h
    unfold runP at h
    split at h
    · cases h; exact h1
    · rename_i k g1
      split at h
      · cases h; exact h1
      · rename_i r g2; exact ih _ x (hp _ _ h1 (.mk r k g1 g2)) h
theorem run_end : ∀ (F : Nat) (s : St) (x : St × Option Nat), runP m n e F s = some x → (x.2 = none ∧ ∀ k, k < e → 0 ≤ x.1.c k) ∨ ∃ k, x.2 = some k ∧ k < e ∧ x.1.c k < 0 ∧ ∀ i, i < m → x.1.t i k ≤ 0 := by
  intro F
  induction F with
  | zero => intro s x h; cases h
  | succ F ih =>
    intro s x h
    unfold runP at h
    split at h
    · rename_i g
      cases h
      rcases ent_spec s e with ⟨_, g2⟩ | ⟨k, g2, _⟩
      · exact .inl ⟨rfl, g2⟩
      · rw [g] at g2; cases g2
    · rename_i k g1
      split at h
      · rename_i g2
        cases h
        rcases ent_spec s e with ⟨g, _⟩ | ⟨k', g, g3, g4, _⟩
        · rw [g1] at g; cases g
        obtain rfl : k = k' := by rw [g1] at g; cases g; rfl
        rcases lev_spec n s k m with ⟨_, f2⟩ | ⟨r, f1, _⟩
        · exact .inr ⟨k, rfl, g3, g4, f2⟩
        · rw [g2] at f1; cases f1
      · rename_i r g2; exact ih _ x h
theorem run_ok (h : Ok m n e A c0 s) (he : e ≤ n) {F : Nat} {x : St × Option Nat} (hx : runP m n e F s = some x) : Ok m n e A c0 x.1 := run_ind (fun _ _ h1 h2 => Ok.stp h1 he h2) F s x h hx
def drS (last : Nat) (s : St) (i : Nat) : St := if s.b i < last then s else match fstT (fun k => decide (s.t i k ≠ 0)) last 0 with
  | none => s
  | some k => pv s i k
def drP (last : Nat) (s : St) : Nat → St
  | 0 => s
  | i + 1 => drS last (drP last s i) i
def Emp (m n last : Nat) (s : St) (q : Nat) : Prop := ∀ i, i < m → last ≤ s.b i → s.t i n = 0 ∧ (i < q → ∀ k, k < last → s.t i k = 0)
theorem emp_step {last q : Nat} (hl : last ≤ n) (h : Ok m n e A c0 s) (hq : q < m) (he : Emp m n last s q) : Ok m n e A c0 (drS last s q) ∧ Emp m n last (drS last s q) (q + 1) := by
  unfold drS
  by_cases c : s.b q < last
  · rw [if_pos c]
    refine ⟨h, fun i hi hb => ⟨(he i hi hb).1, fun hiq => ?_⟩⟩
    by_cases e1 : i = q
    · subst e1; omega
    · exact (he i hi hb).2 (by omega)
  · rw [if_neg c]
    rcases fstT_spec (fun k => decide (s.t q k ≠ 0)) last 0 with ⟨h1, h2⟩ | ⟨k, h1, _, h3, h4, _⟩
    · rw [h1]
      refine ⟨h, fun i hi hb => ⟨(he i hi hb).1, fun hiq k hk => ?_⟩⟩
      by_cases e1 : i = q
      · subst e1
        have := of_decide_eq_false (h2 k (by omega) (by omega))
        exact Classical.byContradiction fun h => this h
      · exact (he i hi hb).2 (by omega) k hk
    · rw [h1]
      have hk := of_decide_eq_true h4
      have hq0 := (he q hq (by omega)).1
      have hn : ∀ i, (pv s q k).t i n = s.t i n := fun i => by
        show (if i = q then s.t q n / s.t q k else s.t i n - s.t i k * (s.t q n / s.t q k)) = _
        by_cases e1 : i = q
        · rw [if_pos e1, e1, hq0]; grind
        · rw [if_neg e1, hq0]; grind
      refine ⟨⟨h.i.pv hq (by omega) hk, fun i hi => by rw [hn]; exact h.f i hi⟩, fun i hi hb => ?_⟩
      have hb' : last ≤ (if i = q then k else s.b i) := hb
      have e1 : i ≠ q := fun e1 => by rw [if_pos e1] at hb'; omega
      rw [if_neg e1] at hb'
      refine ⟨by rw [hn]; exact (he i hi hb').1, fun hiq j hj => ?_⟩
      have g := (he i hi hb').2 (by omega)
      show (if i = q then s.t q j / s.t q k else s.t i j - s.t i k * (s.t q j / s.t q k)) = 0
      rw [if_neg e1, g j hj, g k (by omega)]; grind
theorem emp_all {last : Nat} (hl : last ≤ n) (h : Ok m n e A c0 s) (he : Emp m n last s 0) : ∀ q, q ≤ m → Ok m n e A c0 (drP last s q) ∧ Emp m n last (drP last s q) q
  | 0, _ => ⟨h, he⟩
  | q + 1, hq => by
    obtain ⟨h1, h2⟩ := emp_all hl h he q (by omega)
    exact emp_step hl h1 (by omega) h2
theorem emp_stp {last : Nat} {s' : St} (he : e ≤ last) (h : Ok m n e A c0 s) (hn : e ≤ n) (hm : Emp m n last s m) (hs : Stp m n e s s') : Emp m n last s' m := by
  obtain ⟨r, k, rfl, g2, g3, g4, f2, f3, f4⟩ := hs.inv
  have hr : s.b r < last := Classical.byContradiction fun c => by
    have := (hm r f2 (by omega)).2 f2 k (by omega)
    grind
  intro i hi hb
  have hb' : last ≤ (if i = r then k else s.b i) := hb
  have e1 : i ≠ r := fun e1 => by rw [if_pos e1] at hb'; omega
  rw [if_neg e1] at hb'
  have g := (hm i hi hb').2 hi
  have g0 := (hm i hi hb').1
  refine ⟨?_, fun _ j hj => ?_⟩
  · show (if i = r then s.t r n / s.t r k else s.t i n - s.t i k * (s.t r n / s.t r k)) = 0
    rw [if_neg e1, g0, g k (by omega)]; grind
  · show (if i = r then s.t r j / s.t r k else s.t i j - s.t i k * (s.t r j / s.t r k)) = 0
    rw [if_neg e1, g j hj, g k (by omega)]; grind
end
end X
end Go.Proofs.YtaongbhamadlkaaGreat
namespace Go.Proofs.YtaongbhamadlkaaGreat
namespace X
structure Lp where
  v : Nat
  m : Nat
  a : Nat → Nat → Rat
  b : Nat → Rat
  g : Nat → Rat
def Lp.sg (p : Lp) (r : Nat) : Rat := if p.b r < 0 then -1 else 1
def Lp.la (p : Lp) : Nat := 2 * p.v + p.m
def Lp.n (p : Lp) : Nat := 2 * p.v + 2 * p.m
def Lp.A (p : Lp) (r j : Nat) : Rat :=
  if j < p.v then p.sg r * p.a r j else if j < 2 * p.v then -(p.sg r * p.a r (j - p.v)) else if j < p.la then (if j = 2 * p.v + r then p.sg r else 0)
  else if j < p.n then (if j = p.la + r ∧ p.b r < 0 then 1 else 0) else p.sg r * p.b r
def Lp.s0 (p : Lp) : St where
  t := p.A
  c _ := 0
  b i := if p.b i < 0 then p.la + i else 2 * p.v + i
section
variable {p : Lp}
theorem sg_sq (r : Nat) : p.sg r * p.sg r = 1 := by unfold Lp.sg; split <;> grind
theorem A_art {r i : Nat} (hi : i < p.m) : p.A r (p.s0.b i) = if r = i then 1 else 0 := by
  show p.A r (if p.b i < 0 then p.la + i else 2 * p.v + i) = _
  unfold Lp.A Lp.la Lp.n
  by_cases c : p.b i < 0
  · rw [if_pos c, if_neg (by omega), if_neg (by omega), if_neg (by omega), if_pos (by omega)]
    by_cases e : r = i
    · subst e; rw [if_pos ⟨rfl, c⟩, if_pos rfl]
    · rw [if_neg (by omega), if_neg e]
  · rw [if_neg c, if_neg (by omega), if_neg (by omega), if_pos (by omega)]
    by_cases e : r = i
    · subst e; rw [if_pos rfl, if_pos rfl]; unfold Lp.sg; rw [if_neg c]
    · rw [if_neg (by omega), if_neg e]
theorem inv0 : Inv p.m p.n p.A (fun _ => 0) p.s0 := by
  refine ⟨fun i hi => ?_, fun i hi k hk => ?_, ⟨fun i r => if i = r then 1 else 0, fun i hi j hj => ?_⟩, fun r hr j hj => ?_, ⟨fun _ => 0, fun j hj => ?_⟩, fun _ _ => rfl⟩
  · show (if p.b i < 0 then p.la + i else 2 * p.v + i) < p.n
    unfold Lp.la Lp.n
    split <;> omega
  · exact A_art hk
  · show p.A i j = sm p.m fun r => (if i = r then (1 : Rat) else 0) * p.A r j
    rw [sm_one hi (fun r _ hr => by rw [if_neg (fun e => hr e.symm)]; grind), if_pos rfl]
    grind
  · rw [sm_one hr (fun i hi hir => by rw [A_art hi, if_neg (fun e => hir e.symm)]; grind), A_art hr, if_pos rfl]
    show _ = 1 * p.A r j
    grind
  · rw [sm_zero (fun _ _ => by grind)]
    show (0 : Rat) = 0 - 0
    grind
theorem A_n (r : Nat) : p.A r p.n = p.sg r * p.b r := by
  unfold Lp.A Lp.la Lp.n
  rw [if_neg (by omega), if_neg (by omega), if_neg (by omega), if_neg (by omega)]
theorem ok0 (e : Nat) : Ok p.m p.n e p.A (fun _ => 0) p.s0 := ⟨inv0, fun i _ => by
  show 0 ≤ p.A i p.n
  rw [A_n]; unfold Lp.sg; split <;> grind⟩
theorem Ok.prc {m n e e' : Nat} {A : Nat → Nat → Rat} {c0 : Nat → Rat} {s : St} (h : Ok m n e A c0 s) (c1 : Nat → Rat) : Ok m n e' A c1 (prc m c1 s) := ⟨h.i.prc c1, h.f⟩
theorem Ok.any {m n e e' : Nat} {A : Nat → Nat → Rat} {c0 : Nat → Rat} {s : St} (h : Ok m n e A c0 s) : Ok m n e' A c0 s := ⟨h.i, h.f⟩
def Lp.c1 (p : Lp) (j : Nat) : Rat := if p.la ≤ j ∧ j < p.n then 1 else 0
def Lp.c2 (p : Lp) (j : Nat) : Rat := if j < p.v then -p.g j else if j < 2 * p.v then p.g (j - p.v) else 0
theorem sm_null {n : Nat} {f : Nat → Rat} : (∀ i, i < n → 0 ≤ f i) → sm n f ≤ 0 → ∀ i, i < n → f i = 0 := fun h h2 i hi => by
  rw [sm_split hi] at h2
  have h3 : 0 ≤ sm n (fun k => if k = i then 0 else f k) := sm_nonneg fun k hk => by
    by_cases e : k = i
    · rw [if_pos e]; exact Rat.le_refl
    · rw [if_neg e]; exact h k hk
  have := h i hi
  grind
theorem phase1 {F : Nat} {x : St × Option Nat} (hx : runP p.m p.n p.n F (prc p.m p.c1 p.s0) = some x) : x.2 = none ∧ Ok p.m p.n p.n p.A p.c1 x.1 ∧ (∀ k, k < p.n → 0 ≤ x.1.c k) ∧ (¬ x.1.c p.n < 0 → Emp p.m p.n p.la x.1 0) := by
  have hok := run_ok ((ok0 (p := p) p.n).prc (e' := p.n) p.c1) (Nat.le_refl _) hx
  have hc1 : ∀ j, 0 ≤ p.c1 j := fun j => by unfold Lp.c1; split <;> decide
  have hend : x.2 = none ∧ ∀ k, k < p.n → 0 ≤ x.1.c k := by
    rcases run_end F _ x hx with h | ⟨k, h1, h2, h3, h4⟩
    · exact h
    · have h5 := hok.i.cost (j := k) (by omega)
      have h6 : sm p.m (fun i => p.c1 (x.1.b i) * x.1.t i k) ≤ sm p.m fun _ => 0 := sm_le fun i hi => by
        have := Rat.mul_nonneg (hc1 (x.1.b i)) (show 0 ≤ -x.1.t i k by have := h4 i hi; grind)
        grind
      rw [sm_zero (fun _ _ => rfl)] at h6
      have := hc1 k
      grind
  refine ⟨hend.1, hok, hend.2, fun hn i hi hb => ⟨?_, fun h => by omega⟩⟩
  have h5 := hok.i.cost (j := p.n) (Nat.le_refl _)
  have h7 : p.c1 p.n = 0 := by unfold Lp.c1; rw [if_neg (by omega)]
  have h6 := sm_null (n := p.m) (f := fun i => p.c1 (x.1.b i) * x.1.t i p.n) (fun i hi => Rat.mul_nonneg (hc1 _) (hok.f i hi)) (by grind) i hi
  have h8 : p.c1 (x.1.b i) = 1 := by unfold Lp.c1; rw [if_pos ⟨hb, hok.i.bd i hi⟩]
  simp only [h8] at h6
  grind
def wt (m : Nat) (s : St) (q : Nat → Rat) (j : Nat) : Rat := sm m fun i => if s.b i = j then q i else 0
theorem A_eq {r j : Nat} (hj : j < p.la) (q : Rat) : p.A r j * q = p.sg r * (sm p.v (fun k => p.a r k * ((if j = k then q else 0) - (if j = p.v + k then q else 0))) + (if j = 2 * p.v + r then q else 0)) := by
  unfold Lp.A Lp.la at *
  by_cases c1 : j < p.v
  · rw [if_pos c1, sm_one c1 (fun k hk hkj => by rw [if_neg (fun e => hkj e.symm), if_neg (by omega)]; grind), if_pos rfl, if_neg (by omega), if_neg (by omega)]; grind
  · rw [if_neg c1]
    by_cases c2 : j < 2 * p.v
    · rw [if_pos c2, sm_one (r := j - p.v) (by omega) (fun k hk hkj => by rw [if_neg (by omega), if_neg (by omega)]; grind), if_neg (by omega), if_pos (by omega), if_neg (by omega)]; grind
    · rw [if_neg c2, if_pos hj, sm_zero (fun k hk => by rw [if_neg (by omega), if_neg (by omega)]; grind)]
      split <;> grind
theorem row_sum {s : St} {q : Nat → Rat} (hq : ∀ i, i < p.m → p.la ≤ s.b i → q i = 0) (r : Nat) : (sm p.m fun i => p.A r (s.b i) * q i) = p.sg r * (sm p.v (fun k => p.a r k * (wt p.m s q k - wt p.m s q (p.v + k))) + wt p.m s q (2 * p.v + r)) := by
  rw [show (sm p.m fun i => p.A r (s.b i) * q i) = sm p.m fun i => p.sg r * (sm p.v (fun k => p.a r k * ((if s.b i = k then q i else 0) - (if s.b i = p.v + k then q i else 0))) + (if s.b i = 2 * p.v + r then q i else 0)) from sm_congr fun i hi => by
    by_cases c : s.b i < p.la
    · exact A_eq c (q i)
    · rw [hq i hi (by omega), sm_zero (fun k _ => by split <;> split <;> grind)]
      split <;> grind]
  rw [sm_mul, sm_add, sm_comm]
  congr 1
  rw [show (sm p.v fun k => sm p.m fun i => p.a r k * ((if s.b i = k then q i else 0) - (if s.b i = p.v + k then q i else 0))) = sm p.v fun k => p.a r k * (wt p.m s q k - wt p.m s q (p.v + k)) from sm_congr fun k _ => by
    rw [sm_mul, sm_sub]; rfl]
  rfl
theorem c2_eq (j : Nat) (q : Rat) : p.c2 j * q = -sm p.v (fun k => p.g k * ((if j = k then q else 0) - (if j = p.v + k then q else 0))) := by
  unfold Lp.c2
  by_cases c1 : j < p.v
  · rw [if_pos c1, sm_one c1 (fun k hk hkj => by rw [if_neg (fun e => hkj e.symm), if_neg (by omega)]; grind), if_pos rfl, if_neg (by omega)]; grind
  · rw [if_neg c1]
    by_cases c2 : j < 2 * p.v
    · rw [if_pos c2, sm_one (r := j - p.v) (by omega) (fun k hk hkj => by rw [if_neg (by omega), if_neg (by omega)]; grind), if_neg (by omega), if_pos (by omega)]; grind
    · rw [if_neg c2, sm_zero (fun k hk => by rw [if_neg (by omega), if_neg (by omega)]; grind)]; grind
theorem c2_sum {s : St} {q : Nat → Rat} : (sm p.m fun i => p.c2 (s.b i) * q i) = -sm p.v (fun k => p.g k * (wt p.m s q k - wt p.m s q (p.v + k))) := by
  rw [show (sm p.m fun i => p.c2 (s.b i) * q i) = sm p.m fun i => (-1) * sm p.v (fun k => p.g k * ((if s.b i = k then q i else 0) - (if s.b i = p.v + k then q i else 0))) from sm_congr fun i _ => by rw [c2_eq]; grind]
  rw [sm_mul, sm_comm]
  rw [show (sm p.v fun k => sm p.m fun i => p.g k * ((if s.b i = k then q i else 0) - (if s.b i = p.v + k then q i else 0))) = sm p.v fun k => p.g k * (wt p.m s q k - wt p.m s q (p.v + k)) from sm_congr fun k _ => by
    rw [sm_mul, sm_sub]; rfl]
  grind
end
end X
end Go.Proofs.YtaongbhamadlkaaGreat
namespace Go.Proofs.YtaongbhamadlkaaGreat
namespace X
section
variable {p : Lp} {c0 : Nat → Rat} {s : St}
theorem dual (h : Inv p.m p.n p.A c0 s) (hc : ∀ j, 2 * p.v ≤ j → j < p.la → c0 j = 0) :
    (∀ k, k < p.v → s.c k = c0 k + sm p.m fun r => s.c (2 * p.v + r) * p.a r k) ∧ (∀ k, k < p.v → s.c (p.v + k) = c0 (p.v + k) - sm p.m fun r => s.c (2 * p.v + r) * p.a r k) ∧ s.c p.n = c0 p.n + sm p.m fun r => s.c (2 * p.v + r) * p.b r := by
  obtain ⟨w, hw⟩ := h.w
  have hy : ∀ r, r < p.m → s.c (2 * p.v + r) = -(w r * p.sg r) := fun r hr => by
    rw [hw _ (by unfold Lp.n; omega), hc _ (by omega) (by unfold Lp.la; omega)]
    rw [sm_one hr (fun i hi hir => by
      unfold Lp.A Lp.la
      rw [if_neg (by omega), if_neg (by omega), if_pos (by omega), if_neg (by omega)]; grind)]
    unfold Lp.A Lp.la
    rw [if_neg (by omega), if_neg (by omega), if_pos (by omega), if_pos rfl]; grind
  refine ⟨fun k hk => ?_, fun k hk => ?_, ?_⟩
  · rw [hw k (by unfold Lp.n; omega)]
    rw [show (sm p.m fun r => w r * p.A r k) = sm p.m fun r => (-1) * (s.c (2 * p.v + r) * p.a r k) from sm_congr fun r hr => by
      rw [hy r hr]; unfold Lp.A; rw [if_pos hk]; grind]
    rw [sm_mul]; grind
  · rw [hw _ (by unfold Lp.n; omega)]
    congr 1
    exact sm_congr fun r hr => by
      rw [hy r hr]; unfold Lp.A; rw [if_neg (by omega), if_pos (by omega), show p.v + k - p.v = k by omega]; grind
  · rw [hw _ (Nat.le_refl _)]
    rw [show (sm p.m fun r => w r * p.A r p.n) = sm p.m fun r => (-1) * (s.c (2 * p.v + r) * p.b r) from sm_congr fun r hr => by
      rw [hy r hr, A_n]; grind]
    rw [sm_mul]; grind
def xs (p : Lp) (s : St) (k : Nat) : Rat := wt p.m s (fun i => s.t i p.n) k - wt p.m s (fun i => s.t i p.n) (p.v + k)
theorem wt_nonneg {m : Nat} {q : Nat → Rat} (h : ∀ i, i < m → 0 ≤ q i) (j : Nat) : 0 ≤ wt m s q j := sm_nonneg fun i hi => by
  by_cases e : s.b i = j
  · rw [if_pos e]; exact h i hi
  · rw [if_neg e]; exact Rat.le_refl
theorem sg_cancel {r : Nat} {x y : Rat} (h : p.sg r * x = p.sg r * y) : x = y := by
  have h1 := @sg_sq p r
  have h2 : p.sg r * (p.sg r * x) = p.sg r * (p.sg r * y) := by rw [h]
  grind
theorem primal {e : Nat} (h : Ok p.m p.n e p.A c0 s) (he : ∀ i, i < p.m → p.la ≤ s.b i → s.t i p.n = 0) {r : Nat} (hr : r < p.m) : sm p.v (fun k => p.a r k * xs p s k) ≤ p.b r := by
  have h1 := h.i.r r hr p.n (Nat.le_refl _)
  rw [A_n, row_sum he] at h1
  have h2 := sg_cancel h1
  have h3 := wt_nonneg (s := s) h.f (2 * p.v + r)
  unfold xs
  grind
theorem value (h : Inv p.m p.n p.A p.c2 s) : s.c p.n = sm p.v fun k => p.g k * xs p s k := by
  rw [h.cost (Nat.le_refl _), c2_sum]
  have : p.c2 p.n = 0 := by unfold Lp.c2 Lp.n; rw [if_neg (by omega), if_neg (by omega)]
  rw [this]; unfold xs; grind
theorem ite_sym (a b : Nat) : (if a = b then (1 : Rat) else 0) = if b = a then 1 else 0 := by
  by_cases e : a = b
  · rw [if_pos e, if_pos e.symm]
  · rw [if_neg e, if_neg (fun h => e h.symm)]
def rv (p : Lp) (s : St) (col j : Nat) : Rat := (if j = col then 1 else 0) - wt p.m s (fun i => s.t i col) j
def dr (p : Lp) (s : St) (col k : Nat) : Rat := rv p s col k - rv p s col (p.v + k)
theorem ray_line (h : Inv p.m p.n p.A c0 s) {col : Nat} (hc : col < p.la) (he : ∀ i, i < p.m → p.la ≤ s.b i → s.t i col = 0) (hn : ∀ i, i < p.m → s.t i col ≤ 0) {r : Nat} (hr : r < p.m) : sm p.v (fun k => p.a r k * dr p s col k) ≤ 0 := by
  have hcn : col ≤ p.n := by unfold Lp.la Lp.n at *; omega
  have h1 := h.r r hr col hcn
  rw [row_sum he] at h1
  have h2 := A_eq (p := p) (r := r) hc 1
  have h3 : 0 ≤ wt p.m s (fun i => -s.t i col) (2 * p.v + r) := wt_nonneg (fun i hi => by have := hn i hi; grind) _
  have h4 : wt p.m s (fun i => -s.t i col) (2 * p.v + r) = (-1) * wt p.m s (fun i => s.t i col) (2 * p.v + r) := by
    unfold wt; rw [← sm_mul]; exact sm_congr fun i _ => by split <;> grind
  have h5 : p.A r col * 1 = p.A r col := by grind
  rw [h5, h1] at h2
  have h6 := sg_cancel h2
  have h7 : (sm p.v fun k => p.a r k * dr p s col k) = sm p.v (fun k => p.a r k * ((if col = k then 1 else 0) - (if col = p.v + k then 1 else 0))) - sm p.v (fun k => p.a r k * (wt p.m s (fun i => s.t i col) k - wt p.m s (fun i => s.t i col) (p.v + k))) := by
    rw [← sm_sub]
    exact sm_congr fun k _ => by
      unfold dr rv
      have e1 := ite_sym k col
      have e2 := ite_sym (p.v + k) col
      rw [e1, e2]; grind
  rw [h7]
  by_cases e : col = 2 * p.v + r
  · rw [if_pos e] at h6; grind
  · rw [if_neg e] at h6; grind
theorem ray_goal (h : Inv p.m p.n p.A p.c2 s) {col : Nat} (hc : col < p.la) (hn : s.c col < 0) : 0 < sm p.v fun k => p.g k * dr p s col k := by
  have hcn : col ≤ p.n := by unfold Lp.la Lp.n at *; omega
  have h1 := h.cost hcn
  rw [c2_sum] at h1
  have h2 := c2_eq (p := p) col 1
  have h7 : (sm p.v fun k => p.g k * dr p s col k) = sm p.v (fun k => p.g k * ((if col = k then 1 else 0) - (if col = p.v + k then 1 else 0))) - sm p.v (fun k => p.g k * (wt p.m s (fun i => s.t i col) k - wt p.m s (fun i => s.t i col) (p.v + k))) := by
    rw [← sm_sub]
    exact sm_congr fun k _ => by
      unfold dr rv
      have e1 := ite_sym k col
      have e2 := ite_sym (p.v + k) col
      rw [e1, e2]; grind
  rw [h7]; grind
def IsInf (p : Lp) (y : Nat → Rat) : Prop := (∀ r, r < p.m → 0 ≤ y r) ∧ (∀ k, k < p.v → sm p.m (fun r => y r * p.a r k) = 0) ∧ sm p.m (fun r => y r * p.b r) < 0
def IsPt (p : Lp) (x : Nat → Rat) : Prop := ∀ r, r < p.m → sm p.v (fun k => p.a r k * x k) ≤ p.b r
def IsOpt (p : Lp) (x y : Nat → Rat) (z : Rat) : Prop := IsPt p x ∧ (∀ r, r < p.m → 0 ≤ y r) ∧ (∀ k, k < p.v → sm p.m (fun r => y r * p.a r k) = p.g k) ∧ sm p.m (fun r => y r * p.b r) = z ∧ sm p.v (fun k => p.g k * x k) = z
def IsUnb (p : Lp) (x d : Nat → Rat) : Prop := IsPt p x ∧ (∀ r, r < p.m → sm p.v (fun k => p.a r k * d k) ≤ 0) ∧ 0 < sm p.v fun k => p.g k * d k
theorem first_inf {F : Nat} {x : St × Option Nat} (hx : runP p.m p.n p.n F (prc p.m p.c1 p.s0) = some x) (hn : x.1.c p.n < 0) : IsInf p (fun r => x.1.c (2 * p.v + r)) := by
  obtain ⟨_, h2, h3, _⟩ := phase1 hx
  obtain ⟨d1, d2, d3⟩ := dual h2.i (fun j h1 h2 => by unfold Lp.c1; rw [if_neg (by omega)])
  have z : ∀ j, j < p.la → p.c1 j = 0 := fun j h => by unfold Lp.c1; rw [if_neg (by omega)]
  have zn : p.c1 p.n = 0 := by unfold Lp.c1; rw [if_neg (by omega)]
  refine ⟨fun r hr => h3 _ (by unfold Lp.n; omega), fun k hk => ?_, ?_⟩
  · have e1 := d1 k hk
    have e2 := d2 k hk
    have e3 := h3 k (by unfold Lp.n; omega)
    have e4 := h3 (p.v + k) (by unfold Lp.n; omega)
    rw [z _ (by unfold Lp.la; omega)] at e1 e2
    grind
  · rw [zn] at d3; grind
theorem second {F G : Nat} {x y : St × Option Nat} (hx : runP p.m p.n p.n F (prc p.m p.c1 p.s0) = some x) (hn : ¬ x.1.c p.n < 0) (hy : runP p.m p.n p.la G (prc p.m p.c2 (drP p.la x.1 p.m)) = some y) :
    (y.2 = none ∧ IsOpt p (xs p y.1) (fun r => y.1.c (2 * p.v + r)) (sm p.v fun k => p.g k * xs p y.1 k)) ∨ ∃ col, y.2 = some col ∧ IsUnb p (xs p y.1) (dr p y.1 col) := by
  obtain ⟨_, h2, _, h4⟩ := phase1 hx
  have hl : p.la ≤ p.n := by unfold Lp.la Lp.n; omega
  obtain ⟨k1, k2⟩ := emp_all (e := p.n) hl h2 (h4 hn) p.m (Nat.le_refl _)
  have hk : Ok p.m p.n p.la p.A p.c2 (prc p.m p.c2 (drP p.la x.1 p.m)) := k1.prc p.c2
  obtain ⟨hok, hem⟩ := run_ind (P := fun s => Ok p.m p.n p.la p.A p.c2 s ∧ Emp p.m p.n p.la s p.m) (fun s s' h hs => ⟨h.1.stp hl hs, emp_stp (Nat.le_refl _) h.1 hl h.2 hs⟩) G _ y ⟨hk, k2⟩ hy
  have hpt : IsPt p (xs p y.1) := fun r hr => primal hok (fun i hi hb => (hem i hi hb).1) hr
  rcases run_end G _ y hy with ⟨g1, g2⟩ | ⟨col, g1, g2, g3, g4⟩
  · refine .inl ⟨g1, hpt, fun r hr => g2 _ (by unfold Lp.la; omega), fun k hk => ?_, ?_, rfl⟩
    · obtain ⟨d1, d2, _⟩ := dual hok.i (fun j h1 h2 => by unfold Lp.c2 Lp.la at *; rw [if_neg (by omega), if_neg (by omega)])
      have e1 := d1 k hk
      have e2 := d2 k hk
      have e3 := g2 k (by unfold Lp.la; omega)
      have e4 := g2 (p.v + k) (by unfold Lp.la; omega)
      have z1 : p.c2 k = -p.g k := by unfold Lp.c2; rw [if_pos hk]
      have z2 : p.c2 (p.v + k) = p.g k := by unfold Lp.c2; rw [if_neg (by omega), if_pos (by omega), show p.v + k - p.v = k by omega]
      rw [z1] at e1
      rw [z2] at e2
      grind
    · obtain ⟨_, _, d3⟩ := dual hok.i (fun j h1 h2 => by unfold Lp.c2 Lp.la at *; rw [if_neg (by omega), if_neg (by omega)])
      have z : p.c2 p.n = 0 := by unfold Lp.c2 Lp.n; rw [if_neg (by omega), if_neg (by omega)]
      rw [z, value hok.i] at d3
      grind
  · exact .inr ⟨col, g1, hpt, fun r hr => ray_line hok.i g2 (fun i hi hb => (hem i hi hb).2 hi col g2) g4 hr, ray_goal hok.i g2 g3⟩
end
end X
end Go.Proofs.YtaongbhamadlkaaGreat
namespace Go.Proofs.YtaongbhamadlkaaGreat
namespace X
section
variable {p : Lp}
theorem sm_swap {y x : Nat → Rat} : (sm p.v fun k => (sm p.m fun r => y r * p.a r k) * x k) = sm p.m fun r => y r * sm p.v fun k => p.a r k * x k := by
  rw [show (sm p.v fun k => (sm p.m fun r => y r * p.a r k) * x k) = sm p.v fun k => sm p.m fun r => y r * (p.a r k * x k) from sm_congr fun k _ => by
    rw [← sm_mulr]; exact sm_congr fun r _ => by grind]
  rw [sm_comm]
  exact sm_congr fun r _ => sm_mul _ _
theorem pt_le {x y : Nat → Rat} {h : Nat → Rat} (hx : IsPt p x) (hy : ∀ r, r < p.m → 0 ≤ y r) (hg : ∀ k, k < p.v → sm p.m (fun r => y r * p.a r k) = h k) : sm p.v (fun k => h k * x k) ≤ sm p.m fun r => y r * p.b r := by
  rw [show (sm p.v fun k => h k * x k) = sm p.v fun k => (sm p.m fun r => y r * p.a r k) * x k from sm_congr fun k hk => by rw [hg k hk], sm_swap]
  refine sm_le fun r hr => ?_
  have h1 := Rat.mul_nonneg (hy r hr) (show 0 ≤ p.b r - sm p.v (fun k => p.a r k * x k) by have := hx r hr; grind)
  grind
theorem inf_no {x y : Nat → Rat} (h : IsInf p y) : ¬ IsPt p x := fun hx => by
  have h1 := pt_le hx h.1 (h := fun _ => 0) h.2.1
  rw [sm_zero (fun _ _ => by grind)] at h1
  have := h.2.2
  grind
theorem opt_max {x y x' : Nat → Rat} {z : Rat} (h : IsOpt p x y z) (hx : IsPt p x') : sm p.v (fun k => p.g k * x' k) ≤ z := by
  have h1 := pt_le hx h.2.1 (h := p.g) h.2.2.1
  have := h.2.2.2.1
  grind
theorem unb_far {x d : Nat → Rat} (h : IsUnb p x d) (z : Rat) : ∃ x', IsPt p x' ∧ z ≤ sm p.v fun k => p.g k * x' k := by
  obtain ⟨h1, h2, h3⟩ := h
  have key : ∀ (c : Nat → Rat) (t : Rat), (sm p.v fun k => c k * (x k + t * d k)) = sm p.v (fun k => c k * x k) + t * sm p.v (fun k => c k * d k) := fun c t => by
    rw [← sm_mul, ← sm_add]; exact sm_congr fun k _ => by grind
  by_cases c : z ≤ sm p.v fun k => p.g k * x k
  · exact ⟨x, h1, c⟩
  · have ht : 0 ≤ (z - sm p.v fun k => p.g k * x k) / sm p.v fun k => p.g k * d k := ratio_nonneg (by grind) h3
    refine ⟨fun k => x k + ((z - sm p.v fun k => p.g k * x k) / sm p.v fun k => p.g k * d k) * d k, fun r hr => ?_, ?_⟩
    · rw [key (p.a r)]
      have g1 := Rat.mul_nonneg ht (show 0 ≤ -sm p.v (fun k => p.a r k * d k) by have := h2 r hr; grind)
      have g2 := h1 r hr
      grind
    · rw [key p.g, div_mul_self' (by grind)]; grind
end
end X
end Go.Proofs.YtaongbhamadlkaaGreat
namespace Go.Proofs.YtaongbhamadlkaaGreat
namespace X
abbrev Ln := List Rat × Rat
def co (l : Ln) (k : Nat) : Rat := l.1.getD k 0
def Sat (n : Nat) (x : Nat → Rat) (l : Ln) : Prop := sm n (fun k => co l k * x k) ≤ l.2
def cmb (a : Ln) (f : Rat) (b : Ln) (g : Rat) : Ln := (List.zipWith (fun u w => u * f + w * g) a.1 b.1, a.2 * f + b.2 * g)
theorem co_cmb {a b : Ln} {f g : Rat} (h : a.1.length = b.1.length) (k : Nat) : co (cmb a f b g) k = co a k * f + co b k * g := by
  unfold co cmb
  simp only [List.getD_eq_getElem?_getD, List.getElem?_zipWith]
  by_cases c : k < a.1.length
  · simp [c, h ▸ c]
  · have c' : ¬ k < b.1.length := by omega
    rw [List.getElem?_eq_none (by omega), List.getElem?_eq_none (by omega)]
    simp; grind
def wo (l : List Ln) (k : Nat) : List Ln := l.filter (fun a => decide (co a k = 0)) ++ l.flatMap fun a => (l.filter fun b => decide (0 < co a k ∧ co b k < 0)).map fun b => cmb a (-co b k) b (co a k)
theorem wo_mem {l : List Ln} {k : Nat} {c : Ln} : c ∈ wo l k ↔ (c ∈ l ∧ co c k = 0) ∨ ∃ a, a ∈ l ∧ ∃ b, b ∈ l ∧ 0 < co a k ∧ co b k < 0 ∧ c = cmb a (-co b k) b (co a k) := by
  unfold wo
  rw [List.mem_append, List.mem_filter, List.mem_flatMap, decide_eq_true_iff]
  constructor
  · rintro (h | ⟨a, h1, h2⟩)
    · exact .inl h
    · obtain ⟨b, h3, rfl⟩ := List.mem_map.1 h2
      have h4 := List.mem_filter.1 h3
      exact .inr ⟨a, h1, b, h4.1, (of_decide_eq_true h4.2).1, (of_decide_eq_true h4.2).2, rfl⟩
  · rintro (h | ⟨a, h1, b, h2, h3, h4, rfl⟩)
    · exact .inl h
    · exact .inr ⟨a, h1, List.mem_map.2 ⟨b, List.mem_filter.2 ⟨h2, decide_eq_true ⟨h3, h4⟩⟩, rfl⟩⟩
theorem between : ∀ L U : List Rat, (∀ l ∈ L, ∀ u ∈ U, l ≤ u) → ∃ t, (∀ l ∈ L, l ≤ t) ∧ ∀ u ∈ U, t ≤ u
  | [], U, _ => by
    have : ∃ t, ∀ u ∈ U, t ≤ u := by
      induction U with
      | nil => exact ⟨0, by simp⟩
      | cons a U ih =>
        obtain ⟨t, ht⟩ := ih (by simp)
        by_cases c : t ≤ a
        · exact ⟨t, fun u hu => by
          rcases List.mem_cons.1 hu with rfl | h
          · exact c
          · exact ht u h⟩
        · exact ⟨a, fun u hu => by
          rcases List.mem_cons.1 hu with rfl | h
          · exact Rat.le_refl
          · have := ht u h; grind⟩
    obtain ⟨t, ht⟩ := this
    exact ⟨t, by simp, ht⟩
  | a :: L, U, h => by
    obtain ⟨t, h1, h2⟩ := between L U (fun l hl => h l (List.mem_cons_of_mem _ hl))
    by_cases c : a ≤ t
    · exact ⟨t, fun l hl => by
      rcases List.mem_cons.1 hl with rfl | g
      · exact c
      · exact h1 l g, h2⟩
    · exact ⟨a, fun l hl => by
      rcases List.mem_cons.1 hl with rfl | g
      · exact Rat.le_refl
      · have := h1 l g; grind, h a (List.mem_cons_self)⟩
end X
end Go.Proofs.YtaongbhamadlkaaGreat
namespace Go.Proofs.YtaongbhamadlkaaGreat
namespace X
theorem mul_le_iff {a b q : Rat} (hq : 0 < q) : a * q ≤ b * q ↔ a ≤ b := by
  constructor
  · intro h
    refine Classical.byContradiction fun c => ?_
    have := (Rat.mul_lt_mul_right hq).2 (show b < a by grind)
    grind
  · intro h
    refine Classical.byContradiction fun c => ?_
    have := (Rat.mul_lt_mul_right hq).1 (show b * q < a * q by grind)
    grind
theorem le_div {t w q : Rat} (hq : 0 < q) : t ≤ w / q ↔ t * q ≤ w := by
  rw [← mul_le_iff hq, div_mul_self' (by grind)]
theorem le_div_mul {u v q : Rat} {r : Rat} (hq : 0 < q) : u ≤ v / q * r ↔ u * q ≤ v * r := by
  rw [← mul_le_iff hq]
  have : v / q * r * q = v * r := by grind
  rw [this]
theorem div_le {t w q : Rat} (hq : 0 < q) : w / q ≤ t ↔ w ≤ t * q := by
  rw [← mul_le_iff hq, div_mul_self' (by grind)]
def rst (n k : Nat) (x : Nat → Rat) (c : Ln) : Rat := sm n fun j => if j = k then 0 else co c j * x j
theorem sat_at {n k : Nat} (hk : k < n) (x : Nat → Rat) (t : Rat) (c : Ln) : Sat n (fun j => if j = k then t else x j) c ↔ co c k * t + rst n k x c ≤ c.2 := by
  unfold Sat
  rw [sm_split hk]
  simp only [if_pos]
  rw [show (sm n fun i => if i = k then 0 else co c i * (if i = k then t else x i)) = rst n k x c from sm_congr fun i _ => by
    by_cases e : i = k
    · rw [if_pos e, if_pos e]
    · rw [if_neg e, if_neg e, if_neg e]]
theorem sat_in {n k : Nat} (hk : k < n) (x : Nat → Rat) (c : Ln) : Sat n x c ↔ co c k * x k + rst n k x c ≤ c.2 := by
  unfold Sat
  rw [sm_split hk]; rfl
theorem rst_cmb {n k : Nat} {x : Nat → Rat} {a b : Ln} {f g : Rat} (h : a.1.length = b.1.length) : rst n k x (cmb a f b g) = rst n k x a * f + rst n k x b * g := by
  unfold rst
  rw [← sm_mulr, ← sm_mulr, ← sm_add]
  exact sm_congr fun j _ => by
    by_cases e : j = k
    · rw [if_pos e, if_pos e, if_pos e]; grind
    · rw [if_neg e, if_neg e, if_neg e, co_cmb h]; grind
theorem wo_iff {n k : Nat} (hk : k < n) {l : List Ln} {w : Nat} (hw : ∀ c ∈ l, c.1.length = w) (x : Nat → Rat) : (∀ c ∈ wo l k, Sat n x c) ↔ ∃ t, ∀ c ∈ l, Sat n (fun j => if j = k then t else x j) c := by
  constructor
  · intro h
    have hc : ∀ a ∈ l, ∀ b ∈ l, 0 < co a k → co b k < 0 → (rst n k x b - b.2) / (-co b k) ≤ (a.2 - rst n k x a) / co a k := fun a ha b hb h1 h2 => by
      have h3 := (sat_in hk x _).1 (h _ (wo_mem.2 (.inr ⟨a, ha, b, hb, h1, h2, rfl⟩)))
      have hl : a.1.length = b.1.length := by rw [hw a ha, hw b hb]
      rw [rst_cmb hl, co_cmb hl] at h3
      have h3' : (co a k * -co b k + co b k * co a k) * x k + (rst n k x a * -co b k + rst n k x b * co a k) ≤ a.2 * -co b k + b.2 * co a k := h3
      rw [div_le (show 0 < -co b k by grind), le_div_mul h1]
      grind
    obtain ⟨t, t1, t2⟩ := between ((l.filter fun b => decide (co b k < 0)).map fun b => (rst n k x b - b.2) / (-co b k)) ((l.filter fun a => decide (0 < co a k)).map fun a => (a.2 - rst n k x a) / co a k) (fun p hp q hq => by
      obtain ⟨b, hb, rfl⟩ := List.mem_map.1 hp
      obtain ⟨a, ha, rfl⟩ := List.mem_map.1 hq
      have hb' := List.mem_filter.1 hb
      have ha' := List.mem_filter.1 ha
      exact hc a ha'.1 b hb'.1 (of_decide_eq_true ha'.2) (of_decide_eq_true hb'.2))
    refine ⟨t, fun c hc' => (sat_at hk x t c).2 ?_⟩
    rcases (show co c k < 0 ∨ co c k = 0 ∨ 0 < co c k by grind) with g | g | g
    · have h1 := t1 _ (List.mem_map.2 ⟨c, List.mem_filter.2 ⟨hc', decide_eq_true g⟩, rfl⟩)
      rw [div_le (show 0 < -co c k by grind)] at h1
      grind
    · have h1 := (sat_in hk x c).1 (h c (wo_mem.2 (.inl ⟨hc', g⟩)))
      rw [g] at h1 ⊢; grind
    · have h1 := t2 _ (List.mem_map.2 ⟨c, List.mem_filter.2 ⟨hc', decide_eq_true g⟩, rfl⟩)
      rw [le_div g] at h1
      grind
  · rintro ⟨t, ht⟩ c hc
    rw [sat_in hk]
    rcases wo_mem.1 hc with ⟨h1, h2⟩ | ⟨a, ha, b, hb, h1, h2, rfl⟩
    · have h3 := (sat_at hk x t c).1 (ht c h1)
      rw [h2] at h3 ⊢; grind
    · have h3 := (sat_at hk x t a).1 (ht a ha)
      have h4 := (sat_at hk x t b).1 (ht b hb)
      have hl : a.1.length = b.1.length := by rw [hw a ha, hw b hb]
      rw [rst_cmb hl, co_cmb hl]
      show (co a k * -co b k + co b k * co a k) * x k + (rst n k x a * -co b k + rst n k x b * co a k) ≤ a.2 * -co b k + b.2 * co a k
      have h5 := Rat.mul_nonneg (show 0 ≤ a.2 - (co a k * t + rst n k x a) by grind) (show 0 ≤ -co b k by grind)
      have h6 := Rat.mul_nonneg (show 0 ≤ b.2 - (co b k * t + rst n k x b) by grind) (show 0 ≤ co a k by grind)
      grind
end X
end Go.Proofs.YtaongbhamadlkaaGreat
namespace Go.Proofs.YtaongbhamadlkaaGreat
namespace X
def wos (l : List Ln) : Nat → List Ln
  | 0 => l
  | k + 1 => wo (wos l k) k
theorem cmb_len {a b : Ln} {f g : Rat} (h : a.1.length = b.1.length) : (cmb a f b g).1.length = a.1.length := by
  unfold cmb; simp [h]
theorem wo_len {l : List Ln} {k w : Nat} (h : ∀ c ∈ l, c.1.length = w) : ∀ c ∈ wo l k, c.1.length = w := fun c hc => by
  rcases wo_mem.1 hc with ⟨h1, _⟩ | ⟨a, ha, b, hb, _, _, rfl⟩
  · exact h c h1
  · rw [cmb_len (by rw [h a ha, h b hb]), h a ha]
theorem wos_len {l : List Ln} {w : Nat} (h : ∀ c ∈ l, c.1.length = w) : ∀ k, ∀ c ∈ wos l k, c.1.length = w
  | 0 => h
  | k + 1 => wo_len (wos_len h k)
theorem wos_zero {l : List Ln} {w : Nat} (h : ∀ c ∈ l, c.1.length = w) : ∀ k, ∀ c ∈ wos l k, ∀ i, i < k → co c i = 0
  | 0, _, _, i, hi => by omega
  | k + 1, c, hc, i, hi => by
    rcases wo_mem.1 hc with ⟨h1, h2⟩ | ⟨a, ha, b, hb, _, _, rfl⟩
    · by_cases e : i = k
      · rw [e]; exact h2
      · exact wos_zero h k c h1 i (by omega)
    · rw [co_cmb (by rw [wos_len h k a ha, wos_len h k b hb])]
      by_cases e : i = k
      · rw [e]; grind
      · rw [wos_zero h k a ha i (by omega), wos_zero h k b hb i (by omega)]; grind
theorem wos_iff {l : List Ln} {w n : Nat} (h : ∀ c ∈ l, c.1.length = w) : ∀ k, k ≤ n → ∀ x : Nat → Rat, (∀ c ∈ wos l k, Sat n x c) ↔ ∃ x' : Nat → Rat, (∀ i, k ≤ i → x' i = x i) ∧ ∀ c ∈ l, Sat n x' c
  | 0, _, x => ⟨fun hc => ⟨x, fun _ _ => rfl, hc⟩, fun ⟨x', h1, h2⟩ c hc => by
      have : x' = x := funext fun i => h1 i (by omega)
      rw [← this]; exact h2 c hc⟩
  | k + 1, hk, x => by
    show (∀ c ∈ wo (wos l k) k, Sat n x c) ↔ _
    rw [wo_iff (by omega) (wos_len h k)]
    constructor
    · rintro ⟨t, ht⟩
      obtain ⟨x', h1, h2⟩ := (wos_iff h k (by omega) _).1 ht
      exact ⟨x', fun i hi => by rw [h1 i (by omega), if_neg (by omega)], h2⟩
    · rintro ⟨x', h1, h2⟩
      refine ⟨x' k, (wos_iff h k (by omega) _).2 ⟨x', fun i hi => ?_, h2⟩⟩
      by_cases e : i = k
      · rw [if_pos e, e]
      · rw [if_neg e, h1 i (by omega)]
def feasP (l : List Ln) (v : Nat) : Bool := (wos l v).all fun c => decide (0 ≤ c.2)
theorem feas_iff {l : List Ln} {v : Nat} (h : ∀ c ∈ l, c.1.length = v) : feasP l v = true ↔ ∃ x, ∀ c ∈ l, Sat v x c := by
  unfold feasP
  rw [List.all_eq_true]
  have hz := wos_zero h v
  constructor
  · intro hc
    obtain ⟨x, _, hx⟩ := (wos_iff h v (Nat.le_refl _) (fun _ => 0)).1 fun c hc' => by
      unfold Sat
      rw [sm_zero (fun i hi => by grind)]
      exact of_decide_eq_true (hc c hc')
    exact ⟨x, hx⟩
  · rintro ⟨x, hx⟩ c hc
    have h1 := (wos_iff h v (Nat.le_refl _) x).2 ⟨x, fun _ _ => rfl, hx⟩ c hc
    unfold Sat at h1
    rw [sm_zero (fun i hi => by rw [hz c hc i hi]; grind)] at h1
    exact decide_eq_true h1
end X
end Go.Proofs.YtaongbhamadlkaaGreat
namespace Go.Proofs.YtaongbhamadlkaaGreat
def Sq (k : Nat) (q : Rat) : Prop := (digs q.num.natAbs).length ≤ k ∧ (digs q.den).length ≤ k
section
variable {a b : Rat} {k l : Nat}
theorem Sq.sm (h : Sq k a) (hk : k ≤ 400000000) : Sm a := ⟨Nat.le_trans h.1 hk, Nat.le_trans h.2 hk⟩
theorem Sq.up (h : Sq k a) (hk : k ≤ l) : Sq l a := ⟨Nat.le_trans h.1 hk, Nat.le_trans h.2 hk⟩
theorem di_num (n : Int) (d : Nat) (hd : d ≠ 0) (h1 : (digs n.natAbs).length ≤ k) (h2 : (digs d).length ≤ k) : Sq k (mkRat n d) := by
  constructor
  · rw [Rat.num_mkRat, if_neg hd]; exact Nat.le_trans (digs_mono (Int.natAbs_ediv_le_natAbs _ _)) h1
  · rw [Rat.den_mkRat, if_neg hd]; exact Nat.le_trans (digs_mono (Nat.div_le_self _ _)) h2
theorem Sq.zero : Sq 1 0 := by
  constructor
  · show (digs 0).length ≤ 1; rw [digs_0]; decide
  · show (digs 1).length ≤ 1; rw [digs_1 (by decide) (by decide)]; decide
theorem Sq.add (h1 : Sq k a) (h2 : Sq l b) : Sq (k + l + 1) (a + b) := by
  rw [Rat.add_def']
  refine di_num _ _ (Nat.mul_ne_zero a.den_nz b.den_nz) ?_ ?_
  · have e1 := digs_mono (Int.natAbs_add_le (a.num * b.den) (b.num * a.den))
    have e2 := digs_len_add (a.num * b.den).natAbs (b.num * a.den).natAbs
    have e3 := digs_len_mul a.num.natAbs b.den
    have e4 := digs_len_mul b.num.natAbs a.den
    rw [abs_mulc, abs_mulc] at e1 e2
    have := h1.1; have := h1.2; have := h2.1; have := h2.2
    omega
  · have e3 := digs_len_mul a.den b.den
    have := h1.2; have := h2.2
    omega
theorem Sq.neg (h : Sq k a) : Sq k (-a) := by
  unfold Sq at *; rw [Rat.neg_num, Rat.neg_den, Int.natAbs_neg]; exact h
theorem Sq.sub (h1 : Sq k a) (h2 : Sq l b) : Sq (k + l + 1) (a - b) := by
  rw [Rat.sub_eq_add_neg]; exact h1.add h2.neg
theorem Sq.mul (h1 : Sq k a) (h2 : Sq l b) : Sq (k + l) (a * b) := by
  rw [Rat.mul_def']
  refine di_num _ _ (Nat.mul_ne_zero a.den_nz b.den_nz) ?_ ?_
  · rw [Int.natAbs_mul]
    have e3 := digs_len_mul a.num.natAbs b.num.natAbs
    have := h1.1; have := h2.1
    omega
  · have e3 := digs_len_mul a.den b.den
    have := h1.2; have := h2.2
    omega
theorem Sq.inv (h0 : 0 < k) (h : Sq k b) : Sq k b⁻¹ := by
  obtain ⟨h1, h2⟩ := h
  constructor
  · rw [Rat.num_inv, Int.natAbs_mul, Int.natAbs_natCast]
    by_cases c : b.num = 0
    · rw [c]; simp [digs_0]
    · rw [Int.natAbs_sign_of_ne_zero c, Nat.one_mul]; exact h2
  · rw [Rat.den_inv]
    split
    · rw [digs_1 (by decide) (by decide)]; exact h0
    · exact h1
theorem Sq.div (h0 : 0 < l) (h1 : Sq k a) (h2 : Sq l b) : Sq (k + l) (a / b) := by
  rw [Rat.div_def]; exact h1.mul (h2.inv h0)
theorem Sq.int {n : Int} (h : (digs n.natAbs).length ≤ k) (h0 : 0 < k) : Sq k (n : Rat) := by
  constructor
  · rw [Rat.num_intCast]; exact h
  · rw [Rat.den_intCast, digs_1 (by decide) (by decide)]; exact h0
end
namespace X
theorem sq_sm {k : Nat} {f : Nat → Rat} : ∀ {m : Nat}, (∀ i, i < m → Sq k (f i)) → Sq (m * (k + 1) + 1) (sm m f)
  | 0, _ => by rw [Nat.zero_mul]; exact Sq.zero
  | m + 1, h => by
    have h1 := (sq_sm (m := m) fun i hi => h i (by omega)).add (h m (by omega))
    exact h1.up (by rw [Nat.succ_mul]; omega)
section
variable {m n : Nat} {A : Nat → Nat → Rat} {c0 c1 : Nat → Rat} {s u : St} {k : Nat}
theorem Inv.conv (h : Inv m n A c0 u) (h' : Inv m n A c1 s) {r j : Nat} (hr : r < m) (hj : j ≤ n) : u.t r j = sm m fun i => u.t r (s.b i) * s.t i j := by
  obtain ⟨M, hM⟩ := h.l
  rw [hM r hr j hj, show (sm m fun q => M r q * A q j) = sm m fun q => sm m fun i => (M r q * A q (s.b i)) * s.t i j from sm_congr fun q hq => by
    rw [h'.r q hq j hj, ← sm_mul]; exact sm_congr fun i _ => by grind]
  rw [sm_comm]
  exact sm_congr fun i hi => by
    rw [sm_mulr, hM r hr (s.b i) (Nat.le_of_lt (h'.bd i hi))]
theorem sm_ne {f : Nat → Rat} : ∀ {m : Nat}, sm m f ≠ 0 → ∃ i, i < m ∧ f i ≠ 0
  | m, h => Classical.byContradiction fun hno => h (sm_zero fun i hi => Classical.byContradiction fun hx => hno ⟨i, hi, hx⟩)
def cnt (p : Nat → Bool) : Nat → Nat
  | 0 => 0
  | m + 1 => cnt p m + if p m then 1 else 0
theorem cnt_le {p : Nat → Bool} : ∀ m, cnt p m ≤ m
  | 0 => Nat.le_refl _
  | m + 1 => by have := cnt_le (p := p) m; rw [cnt]; split <;> omega
theorem cnt_mono {p q : Nat → Bool} : ∀ {m : Nat}, (∀ i, i < m → q i = true → p i = true) → cnt q m ≤ cnt p m
  | 0, _ => Nat.le_refl _
  | m + 1, h => by
    have h1 := cnt_mono (m := m) fun i hi => h i (by omega)
    have h2 := h m (by omega)
    rw [cnt, cnt]
    by_cases c : q m = true
    · rw [if_pos c, if_pos (h2 c)]; omega
    · rw [if_neg c]; omega
theorem cnt_lt {p q : Nat → Bool} : ∀ {m : Nat}, (∀ i, i < m → q i = true → p i = true) → (∃ i, i < m ∧ p i = true ∧ q i = false) → cnt q m < cnt p m
  | 0, _, ⟨i, h, _⟩ => by omega
  | m + 1, h, ⟨i, h1, h2, h3⟩ => by
    rw [cnt, cnt]
    by_cases e : i = m
    · subst e
      have h4 := cnt_mono (m := i) fun j hj => h j (by omega)
      rw [if_pos h2, if_neg (by rw [h3]; decide)]; omega
    · have h4 := cnt_lt (m := m) (fun j hj => h j (by omega)) ⟨i, by omega, h2, h3⟩
      have h5 := h m (by omega)
      by_cases c : q m = true
      · rw [if_pos c, if_pos (h5 c)]; omega
      · rw [if_neg c]; omega
def mis (m : Nat) (s u : St) (i : Nat) : Bool := decide (∀ r, r < m → u.b r ≠ s.b i)
theorem exch (h : Inv m n A c1 s) {K : Nat} (hK : 0 < K) : ∀ (d : Nat) (u : St), cnt (mis m s u) m ≤ d → Inv m n A c0 u → (∀ i, i < m → ∀ j, j ≤ n → Sq K (u.t i j)) → ∀ i, i < m → ∀ j, j ≤ n → Sq (5 ^ d * K) (s.t i j) := by
  intro d
  induction d generalizing K with
  | zero =>
    intro u hc hu hs i hi j hj
    rw [Nat.pow_zero, Nat.one_mul]
    have hno : mis m s u i = false := by
      cases hx : mis m s u i with
      | false => rfl
      | true =>
        exfalso
        have := cnt_lt (p := mis m s u) (q := fun _ => false) (m := m) (fun _ _ h => by simp at h) ⟨i, hi, hx, rfl⟩
        omega
    obtain ⟨r, hr, hb⟩ : ∃ r, r < m ∧ u.b r = s.b i := Classical.byContradiction fun hx => by
      have := of_decide_eq_false hno
      exact this fun r hr hb => hx ⟨r, hr, hb⟩
    have e := Inv.conv hu h hr hj
    rw [sm_one hi (fun k hk hki => by
      have h1 : u.t r (s.b k) = 0 := by
        have hnk : mis m s u k = false := by
          cases hx : mis m s u k with
          | false => rfl
          | true =>
            exfalso
            have := cnt_lt (p := mis m s u) (q := fun _ => false) (m := m) (fun _ _ h => by simp at h) ⟨k, hk, hx, rfl⟩
            omega
        obtain ⟨q, hq, hbq⟩ : ∃ q, q < m ∧ u.b q = s.b k := Classical.byContradiction fun hx => by
          have := of_decide_eq_false hnk
          exact this fun r hr hb => hx ⟨r, hr, hb⟩
        rw [← hbq, hu.u r hr q hq, if_neg]
        rintro rfl
        exact hki (h.inj hk hi (by rw [← hbq, hb]))
      rw [h1]; grind)] at e
    have h1 : u.t r (s.b i) = 1 := by rw [← hb, hu.u r hr r hr, if_pos rfl]
    have : s.t i j = u.t r j := by rw [e, h1]; grind
    rw [this]; exact hs r hr j hj
  | succ d ih =>
    intro u hc hu hs
    by_cases hz : ∃ i, i < m ∧ mis m s u i = true
    · obtain ⟨i, hi, hmi⟩ := hz
      have hno := of_decide_eq_true hmi
      have e := Inv.conv h hu hi (j := s.b i) (Nat.le_of_lt (h.bd i hi))
      rw [h.u i hi i hi, if_pos rfl] at e
      obtain ⟨r, hr, hne⟩ := sm_ne (m := m) (f := fun r => s.t i (u.b r) * u.t r (s.b i)) (by rw [← e]; decide)
      have n1 : u.t r (s.b i) ≠ 0 := fun hx => hne (by show s.t i (u.b r) * u.t r (s.b i) = 0; rw [hx]; grind)
      have n2 : s.t i (u.b r) ≠ 0 := fun hx => hne (by show s.t i (u.b r) * u.t r (s.b i) = 0; rw [hx]; grind)
      have n3 : ∀ k, k < m → s.b k ≠ u.b r := fun k hk hb => by
        rw [← hb, h.u i hi k hk] at n2
        by_cases c : i = k
        · subst c; exact hno r hr hb.symm
        · rw [if_neg c] at n2; exact n2 rfl
      have hp := Inv.pv hu hr (h.bd i hi) n1
      have hlt : cnt (mis m s (pv u r (s.b i))) m < cnt (mis m s u) m := by
        refine cnt_lt (fun k hk hq => ?_) ⟨i, hi, hmi, ?_⟩
        · have hq := of_decide_eq_true hq
          refine decide_eq_true fun q hqm hb => ?_
          by_cases c : q = r
          · subst c; exact n3 k hk hb.symm
          · refine hq q hqm ?_
            show (if q = r then s.b i else u.b q) = _
            rw [if_neg c]; exact hb
        · refine decide_eq_false fun hx => hx r hr ?_
          show (if r = r then s.b i else u.b r) = _
          rw [if_pos rfl]
      have := ih (K := 5 * K) (by omega) (pv u r (s.b i)) (by omega) hp (fun a ha j hj => by
        have d1 := Sq.div hK (hs r hr j hj) (hs r hr (s.b i) (Nat.le_of_lt (h.bd i hi)))
        show Sq (5 * K) (if a = r then _ else _)
        split
        · exact d1.up (by omega)
        · exact ((hs a ha j hj).sub ((hs a ha _ (Nat.le_of_lt (h.bd i hi))).mul d1)).up (by omega))
      intro a ha j hj
      have h5 := this a ha j hj
      rw [Nat.pow_succ, Nat.mul_assoc]; exact h5
    · have h0 : cnt (mis m s u) m ≤ d := by
        have : cnt (mis m s u) m ≤ cnt (fun _ => false) m := cnt_mono fun i hi hx => absurd ⟨i, hi, hx⟩ hz
        have h1 : ∀ m, cnt (fun _ => false) m = 0 := fun m => by
          induction m with
          | zero => rfl
          | succ m ih => rw [cnt, ih]; rfl
        rw [h1] at this; omega
      intro a ha j hj
      exact (ih hK u h0 hu hs a ha j hj).up (Nat.mul_le_mul_right _ (Nat.pow_le_pow_right (by decide) (by omega)))
end
end X
end Go.Proofs.YtaongbhamadlkaaGreat
namespace Go.Proofs.YtaongbhamadlkaaGreat
open W Go.RowKit
def IsR (q : Rat) : RPost := fun v b G => ∃ m : QM, v = qv m ∧ b = [] ∧ G = [isQ (qv m) q]
theorem isR_of {P : Program} {f : FuncId} {ag : List Value} {bx : List Ow} {F : List Fct} {q : Rat} (h : FnB P f ag bx F (IsQ q)) : FnB P f ag bx F (IsR q) :=
  h.mono fun v b G ⟨nb, d1, d2, h1, h2, h3, h4⟩ => ⟨(nb, d1, d2), h1, h3, h4⟩
namespace Zn
section
variable (m1 m2 : QM) (a b : Rat)
theorem add (ha : Sm a) (hb : Sm b) : FnB Tryz.prog 32 [qv m1, qv m2] [] [isQ (qv m1) a, isQ (qv m2) b] (IsR (a + b)) := isR_of (Rta.add_c _ _ _ _ ha hb)
theorem sub (ha : Sm a) (hb : Sm b) : FnB Tryz.prog 39 [qv m1, qv m2] [] [isQ (qv m1) a, isQ (qv m2) b] (IsR (a - b)) := isR_of (Rtc.sub_c _ _ _ _ ha hb)
theorem mul (ha : Sm a) (hb : Sm b) : FnB Tryz.prog 31 [qv m1, qv m2] [] [isQ (qv m1) a, isQ (qv m2) b] (IsR (a * b)) := isR_of (Rmu.mul_c _ _ _ _ ha hb)
theorem div (ha : Sm a) (hb : Sm b) : FnB Tryz.prog 173 [qv m1, qv m2] [] [isQ (qv m1) a, isQ (qv m2) b] (IsR (a / b)) := isR_of (Rmu.div_c _ _ _ _ ha hb)
theorem neg : FnB Tryz.prog 36 [qv m1] [] [isQ (qv m1) a] (IsR (-a)) := isR_of (Rta.neg_c _ _)
theorem cmp (ha : Sm a) (hb : Sm b) : FnB Tryz.prog 33 [qv m1, qv m2] [] [isQ (qv m1) a, isQ (qv m2) b] (IsV (.int .i64 (cmpQ a b))) := Rtc.qcompare_c _ _ _ _ ha hb
theorem sign : FnB Tryz.prog 49 [qv m1] [] [isQ (qv m1) a] (IsV (.int .i64 (sgn a.num))) := Rta.sign_c _ _
theorem same : FnB Tryz.prog 16 [qv m1, qv m2] [] [isQ (qv m1) a, isQ (qv m2) b] (IsV (.bool (decide (a = b)))) := Rtc.same_c _ _ _ _
theorem of (p q : Int) (h1 : p.natAbs < B2) (h2 : q.natAbs < B2) : FnB Tryz.prog 47 [.int .i64 p, .int .i64 q] [] [] (IsR (Rat.divInt p q)) := isR_of (Rta.of_c p q h1 h2)
theorem rmul (ha : Sm a) (hb : Sm b) : FnB Tryz.prog 77 [qv m1, qv m2] [] [isQ (qv m1) a, isQ (qv m2) b] (IsR (a * b)) := isR_of (Rp.rqmul_c _ _ _ _ ha hb)
theorem rof (p q : Int) (h1 : p.natAbs < B2) (h2 : q.natAbs < B2) : FnB Tryz.prog 30 [.int .i64 p, .int .i64 q] [] [] (IsR (Rat.divInt p q)) := isR_of (Rp.rqof_c p q h1 h2)
end
end Zn
theorem sgn_zero {q : Rat} : sgn q.num = 0 ↔ q = 0 := by
  rw [← Rat.num_eq_zero]; unfold sgn; split <;> (try split) <;> omega
theorem num_neg' {q : Rat} : q.num < 0 ↔ q < 0 := by
  rw [Rat.lt_iff]; simp
theorem num_pos' {q : Rat} : 0 < q.num ↔ 0 < q := by
  rw [Rat.lt_iff]; simp
theorem sgn_neg {q : Rat} : sgn q.num < 0 ↔ q < 0 := by
  rw [← num_neg']; unfold sgn; split <;> (try split) <;> omega
theorem sgn_pos {q : Rat} : 0 < sgn q.num ↔ 0 < q := by
  rw [← num_pos']; unfold sgn; split <;> (try split) <;> omega
end Go.Proofs.YtaongbhamadlkaaGreat
