/- The law ScheduleMore returns true for every input and leaves its arguments as they were. Conditions: none. -/
import Derived.Test.YtgacbfckaglhbaaMo5
import Derived.Test.YtgacbfckaglhbaaMo4
import Derived.Test.YtgacbfckaglhbaaMo3
import Derived.Test.YtgacbfckaglhbaaRows
import Derived.ProofKit
import Derived.ChangeSlices
namespace Go.Proofs.Ytgacbfckaglhbaa
open W Go.RowKit

theorem three_best : bestP three 2 = ([0, 3, 3], [0, 0, 1], 5, 0) := by decide +kernel
theorem three_bound : boundP three 2 = ([0, 2], 0, 5) := by decide +kernel
theorem three_l1 : lstN three 2 [1, 0, 2] 3 = ([0, 0, 3], [1, 0, 0], 5) := by decide +kernel
theorem three_l2 : lstN three 2 [0, 2, 1] 3 = ([0, 5, 3], [0, 0, 0], 7) := by decide +kernel
theorem three_good : AllGood 2 three := fun i hi => by
  match i, hi with
  | 0, _ => exact ⟨by decide, by decide, by decide, by decide, fun k hk => by simp [three] at hk⟩
  | 1, _ => exact ⟨by decide, by decide, by decide, by decide, fun k hk => by simp [three] at hk⟩
  | 2, _ => exact ⟨by decide, by decide, by decide, by decide, fun k hk => by
      have : k = 0 := by simp [three] at hk; omega
      subst this; exact ⟨by decide, by decide, fun h => by omega⟩⟩
theorem three_valid : validE three 2 = 0 := validE_ok (by decide) (by decide) (by decide) three_good
theorem three_i64 : TI64 three := fun i => by
  match i with
  | 0 => unfold I64; simp [three]
  | 1 => unfold I64; simp [three]
  | 2 => unfold I64; simp [three]
  | (_ + 3) => unfold I64; simp [three, tk0]
theorem three_check : checkP three 2 [0, 3, 3] [0, 0, 1] = (5, 0) :=
  (checkP_ok (m := 2) three_valid (by decide) (by decide) (by unfold Feas okTask pairOK; decide +kernel)).trans (by decide +kernel)
theorem three_list1 : listP three 2 [1, 0, 2] = ([0, 0, 3], [1, 0, 0], 5, 0) := by
  have h := listP_ok (m := 2) (o := [1, 0, 2]) three_valid (by decide) (by unfold okOrder okAt; decide +kernel)
  rw [show three.length = 3 from rfl, three_l1] at h; exact h
theorem three_list2 : listP three 2 [0, 2, 1] = ([0, 5, 3], [0, 0, 0], 7, 0) := by
  have h := listP_ok (m := 2) (o := [0, 2, 1]) three_valid (by decide) (by unfold okOrder okAt; decide +kernel)
  rw [show three.length = 3 from rfl, three_l2] at h; exact h
attribute [local irreducible] WC WL WD YO LO LoopEnd W.Fin Scalar SliceT FieldAt Row ArrT AllocT KnS Has W.One SrcE IntT

set_option maxHeartbeats 4000000 in
set_option maxRecDepth 8000 in
theorem lives_c : FnB Try.prog 17 [] [] [] (IsV (.bool true)) := by
  refine fn_of [] 112 Try.func17 rfl Try.ntmps17 (by kernel_rfl) rfl (by repeat (first | exact Sub.nil _ | refine Sub.cons rfl ?_)) fun h0 => ?_
  repeat' (first | refine go ?_ | refine goX ?_ | refine goB ?_ | (refine goG ?_; intro g) | (refine goV ?_; intro v))
  refine WL.callG [] _ (.refl _) three_c ?_
  rintro v1 _ _ ⟨avs1, rfl, rfl⟩
  simp only [List.nil_append, List.cons_append]
  have h1 := best_c v1 avs1 three 2 three_i64
  rw [if_pos three_valid, three_best] at h1
  first | refine WL.callP (h1) ?_ | refine WD.callP (h1) ?_
  rintro _ _ _ ⟨a1, c1, rfl, rfl, rfl⟩
  simp only [List.cons_append, List.nil_append]
  repeat' (first | refine go ?_ | refine goX ?_ | refine goB ?_ | (refine goG ?_; intro g) | (refine goV ?_; intro v))
  refine WL.callG [] _ (.refl _) three_c ?_
  rintro v2 _ _ ⟨avs2, rfl, rfl⟩
  simp only [List.nil_append, List.cons_append]
  have h2 := check_c v2 a1 c1 avs2 three 2 [0, 3, 3] [0, 0, 1] three_i64
  rw [three_check] at h2
  repeat' (first | refine go ?_ | refine goX ?_ | refine goB ?_ | (refine goG ?_; intro g) | (refine goV ?_; intro v))
  first | refine WL.callV (h2) ?_ | refine WD.callV (h2) ?_
  repeat' (first | refine go ?_ | refine goX ?_ | refine goB ?_ | (refine goG ?_; intro g) | (refine goV ?_; intro v))
  refine WL.callG [] _ (.refl _) three_c ?_
  rintro v3 _ _ ⟨avs3, rfl, rfl⟩
  simp only [List.nil_append, List.cons_append]
  have h3 := bound_c v3 avs3 three 2 three_i64
  rw [if_pos three_valid, three_valid, show (2 : Int).toNat = 2 from rfl, three_bound] at h3
  first | refine WL.callP (h3) ?_ | refine WD.callP (h3) ?_
  rintro _ _ _ ⟨c3, rfl, rfl, rfl⟩
  simp only [List.cons_append, List.nil_append]
  repeat' (first | refine go ?_ | refine goX ?_ | refine goB ?_ | (refine goG ?_; intro g) | (refine goV ?_; intro v))
  refine WL.callG [] _ (.refl _) three_c ?_
  rintro v4 _ _ ⟨avs4, rfl, rfl⟩
  simp only [List.nil_append, List.cons_append]
  repeat' (first | refine go ?_ | refine goX ?_ | refine goB ?_ | (refine goG ?_; intro g) | (refine goV ?_; intro v))
  revert v; intro u4
  have h4 := list_c v4 u4 avs4 three 2 [1, 0, 2] three_i64
  rw [three_list1] at h4
  first | refine WL.callP (h4) ?_ | refine WD.callP (h4) ?_
  rintro _ _ _ ⟨a4, c4, rfl, rfl, rfl⟩
  simp only [List.cons_append, List.nil_append]
  repeat' (first | refine go ?_ | refine goX ?_ | refine goB ?_ | (refine goG ?_; intro g) | (refine goV ?_; intro v))
  refine WL.callG [] _ (.refl _) three_c ?_
  rintro v5 _ _ ⟨avs5, rfl, rfl⟩
  simp only [List.nil_append, List.cons_append]
  repeat' (first | refine go ?_ | refine goX ?_ | refine goB ?_ | (refine goG ?_; intro g) | (refine goV ?_; intro v))
  revert v; intro u5
  have h5 := list_c v5 u5 avs5 three 2 [0, 2, 1] three_i64
  rw [three_list2] at h5
  first | refine WL.callP (h5) ?_ | refine WD.callP (h5) ?_
  rintro _ _ _ ⟨a5, c5, rfl, rfl, rfl⟩
  simp only [List.cons_append, List.nil_append]
  repeat' (first | refine go ?_ | refine goX ?_ | refine goB ?_ | (refine goG ?_; intro g) | (refine goV ?_; intro v))
  first | refine WL.callV (sameInts_c c3 v [0, 2] [0, 2]) ?_ | refine WD.callV (sameInts_c c3 v [0, 2] [0, 2]) ?_
  rw [decide_eq_true rfl]
  repeat' (first | refine go ?_ | refine goX ?_ | refine goB ?_ | (refine goG ?_; intro g) | (refine goV ?_; intro v))
  first | refine WL.callV (sameInts_c a4 v [0, 0, 3] [0, 0, 3]) ?_ | refine WD.callV (sameInts_c a4 v [0, 0, 3] [0, 0, 3]) ?_
  rw [decide_eq_true rfl]
  repeat' (first | refine go ?_ | refine goX ?_ | refine goB ?_ | (refine goG ?_; intro g) | (refine goV ?_; intro v))
  first | refine WL.callV (sameInts_c c4 v [1, 0, 0] [1, 0, 0]) ?_ | refine WD.callV (sameInts_c c4 v [1, 0, 0] [1, 0, 0]) ?_
  rw [decide_eq_true rfl]
  repeat' (first | refine go ?_ | refine goX ?_ | refine goB ?_ | (refine goG ?_; intro g) | (refine goV ?_; intro v))
  refine WC.ret ?_
  exact Fin.v (ResE.t1 rfl rfl) (by (repeat (first | exact List.Mem.head _ | apply List.Mem.tail)); done) rfl
end Go.Proofs.Ytgacbfckaglhbaa
namespace Go.Proofs.Ytgacbfckaglhbaa
open W Go.RowKit

section
variable {e : Env} {bx : List Ow} {F : List Fct} {ty : TypeId} {x y x1 x2 x3 x4 : Operand} {a b c d a1 a2 b1 b2 c1 c2 d1 d2 : Value} {na nb nc n1 n2 n3 n4 n5 n6 n7 n8 : Nat} {K : RPost}
theorem YO.build43 (h1 : ev e x = some a) (h2 : ev e y = some b) (ka : KnS bx F a na) (kb : KnS bx F b nb) : YO Try.prog (.build 43 #[(0, x), (1, y)]) ty e bx F (.agg [a, b].toArray) := fun k fr ac w o hop hty hk ho => by
  obtain ⟨p1, q1, rfl, _⟩ := (ka fr w ho).is
  obtain ⟨p2, q2, rfl, _⟩ := (kb fr w ho).is
  exact (YO.build (P := Try.prog) (bx := bx) (F := F) (ty := ty) (parts := [(0, x), (1, y)]) (.cons h1 (.cons h2 .nil)) fun w => run_build w 43 _ _ (by kernel_rfl)) k fr ac w o hop hty hk ho
theorem LO.bs39 (h1 : ev e x1 = some a) (h2 : ev e x2 = some b) (h3 : ev e x3 = some c) (k1 : KnS bx F a na) (k2 : KnS bx F b nb) (k3 : KnS bx F c nc) (h : ∀ v, K v (Ow.slice v 22 1 [a, b, c] :: bx) F) : LO Try.prog (.buildSlice 39 3 #[(0, x1), (1, x2), (2, x3)]) ty e bx F K := fun k fr ac w o next Q' hop hty hk ho hn => by
  obtain ⟨p1, q1, rfl, _⟩ := (k1 fr w ho).is
  obtain ⟨p2, q2, rfl, _⟩ := (k2 fr w ho).is
  obtain ⟨p3, q3, rfl, _⟩ := (k3 fr w ho).is
  exact LO.buildSlice (P := Try.prog) (t := 39) (el := 22) (sz := 1) (len := 3) (parts := [(0, x1), (1, x2), (2, x3)]) (.cons h1 (.cons h2 (.cons h3 .nil))) (fun w => by kernel_rfl) rfl (by decide) h k fr ac w o next Q' hop hty hk ho hn
theorem LO.bs44 (h1 : ev e x1 = some (.agg [a1, a2].toArray)) (h2 : ev e x2 = some (.agg [b1, b2].toArray)) (h3 : ev e x3 = some (.agg [c1, c2].toArray)) (h4 : ev e x4 = some (.agg [d1, d2].toArray))
    (k1 : KnS bx F a1 n1) (k2 : KnS bx F a2 n2) (k3 : KnS bx F b1 n3) (k4 : KnS bx F b2 n4) (k5 : KnS bx F c1 n5) (k6 : KnS bx F c2 n6) (k7 : KnS bx F d1 n7) (k8 : KnS bx F d2 n8)
    (h : ∀ v, K v (Ow.slice v 43 2 [a1, a2, b1, b2, c1, c2, d1, d2] :: bx) F) : LO Try.prog (.buildSlice 44 4 #[(0, x1), (1, x2), (2, x3), (3, x4)]) ty e bx F K := fun k fr ac w o next Q' hop hty hk ho hn => by
  obtain ⟨p1, q1, rfl, _⟩ := (k1 fr w ho).is
  obtain ⟨p2, q2, rfl, _⟩ := (k2 fr w ho).is
  obtain ⟨p3, q3, rfl, _⟩ := (k3 fr w ho).is
  obtain ⟨p4, q4, rfl, _⟩ := (k4 fr w ho).is
  obtain ⟨p5, q5, rfl, _⟩ := (k5 fr w ho).is
  obtain ⟨p6, q6, rfl, _⟩ := (k6 fr w ho).is
  obtain ⟨p7, q7, rfl, _⟩ := (k7 fr w ho).is
  obtain ⟨p8, q8, rfl, _⟩ := (k8 fr w ho).is
  exact LO.buildSlice (P := Try.prog) (t := 44) (el := 43) (sz := 2) (len := 4) (parts := [(0, x1), (1, x2), (2, x3), (3, x4)]) (.cons h1 (.cons h2 (.cons h3 (.cons h4 .nil)))) (fun w => by kernel_rfl) rfl (by decide) h k fr ac w o next Q' hop hty hk ho hn
variable {P : Program} {t el len sz j k : Nat} {v : Value}
theorem YO.ixE (ht : ArrT P t el len sz) (hx : ev e x = some (.pointer (some (eaddr v j)))) (hy : ev e y = some (.int .i64 (k : Int))) (hk' : k < len) : YO P (.indexAddr t x y) ty e bx F (.pointer (some (eaddr v (j + k * sz)))) := by
  have := YO.ixB (P := P) (ty := ty) (bx := bx) (F := F) (b := (eaddr v j).block) (q := (eaddr v j).off) ht (by rw [hx]; congr 2; exact congrArg some (by rw [show (⟨(eaddr v j).block, (eaddr v j).off, none⟩ : Addr) = eaddr v (j + 0) from eaddr_add v j 0]; rfl)) hy hk'
  rwa [eaddr_add] at this
end

theorem listP_len {ts : List Tk} {m : Int} {o : List Int} : (listP ts m o).1.length ≤ 10 ∧ (listP ts m o).2.1.length ≤ 10 ∧ (listP ts m o).2.1.length = (listP ts m o).1.length := by
  by_cases h : validE ts m = 0
  · by_cases h1 : o.length = ts.length
    · obtain ⟨hl, M, rfl, hM1, hM4, hg⟩ := validE_0 h
      by_cases h2 : okOrder ts M o ts.length
      · rw [listP_ok h h1 h2]
        have hk := lst_ok hg o ts.length
        have h3 := hk.l1
        have h4 := hk.l2
        simp only; omega
      · have : ∃ j, j < ts.length ∧ ¬ okAt ts M o j := Classical.byContradiction fun hc => h2 fun j hj => Classical.byContradiction fun hn => hc ⟨j, hj, hn⟩
        obtain ⟨j, hj, hn⟩ := this
        rw [listP_no h h1 hj hn]; simp
    · rw [listP_l h h1]; simp
  · rw [listP_e h]; simp
theorem tk0_i64 : I64 tk0.time ∧ I64 tk0.on ∧ ∀ x ∈ tk0.after, I64 x := by unfold I64; simp [tk0]
theorem TI64.set {ts : List Tk} (h : TI64 ts) {i : Nat} {t : Tk} (ht : I64 t.time ∧ I64 t.on ∧ ∀ x ∈ t.after, I64 x) : TI64 (ts.set i t) := fun j => by
  rw [tg_set]; split
  · exact ht
  · exact h j
theorem bent_i64 {ts : List Tk} {m how byv : Int} (h : TI64 ts) (hn : ts.length ≤ 10) (hb : I64 byv) : TI64 (bentP ts m how byv).1 := by
  have hA := around_bd (n := byv) (m := max (ts.length : Int) 1) (by omega)
  obtain ⟨t1, t2, t3⟩ := h (around byv (max (ts.length : Int) 1)).toNat
  unfold bentP
  simp only
  split
  · exact h
  split
  · intro i
    rw [show tg (List.replicate 11 tk0) i = tk0 from by simp only [tg, List.getD_eq_getElem?_getD, List.getElem?_replicate]; split <;> rfl]
    exact tk0_i64
  split
  · exact h
  split
  · exact h.set ⟨hb, t2, t3⟩
  split
  · exact h.set ⟨t1, hb, t3⟩
  split
  · refine h.set ⟨t1, t2, fun x hx => ?_⟩
    rcases List.mem_append.1 hx with hx | hx
    · exact t3 x hx
    · simp at hx; subst hx; unfold I64; omega
  split
  · exact h.set ⟨t1, t2, fun x hx => by simp at hx; subst hx; unfold I64; omega⟩
  split
  · exact h.set ⟨t1, t2, fun x hx => by simp at hx; subst hx; unfold I64; omega⟩
  · exact h
end Go.Proofs.Ytgacbfckaglhbaa
namespace Go.Proofs.Ytgacbfckaglhbaa

/-- the plan q can be reached from p -/
inductive Rch (ts : List Tk) (M : Nat) : List Int → List Int → Prop where
  | refl (p : List Int) : Rch ts M p p
  | step {p q : List Int} (i k : Nat) : i < ts.length → k < M → readyQ ts p i = true → bitI (tg ts i).on (k : Int) = 1 → Rch ts M (withP ts p i k) q → Rch ts M p q
abbrev Full (ts : List Tk) (p : List Int) : Prop := p.getD 24 0 = 2 ^ ts.length - 1
def LB (ts : List Tk) (M : Nat) (b : Int) (p : List Int) : Prop := ∀ q, Rch ts M p q → Full ts q → b ≤ q.getD 25 0
theorem LB.mono {ts : List Tk} {M : Nat} {b b' : Int} {p : List Int} (h : LB ts M b p) (hb : b' ≤ b) : LB ts M b' p := fun q h1 h2 => Int.le_trans hb (h q h1 h2)

def mx4 (L : List Int) : Int := max (max (L.getD 20 0) (L.getD 21 0)) (max (L.getD 22 0) (L.getD 23 0))
theorem mx4_ge {L : List Int} {k : Nat} (hk : k < 4) : L.getD (20 + k) 0 ≤ mx4 L := by
  unfold mx4
  match k, hk with
  | 0, _ => show L.getD 20 0 ≤ _; omega
  | 1, _ => show L.getD 21 0 ≤ _; omega
  | 2, _ => show L.getD 22 0 ≤ _; omega
  | 3, _ => show L.getD 23 0 ≤ _; omega
theorem mx4_le {L : List Int} {B : Int} (h : ∀ k, k < 4 → L.getD (20 + k) 0 ≤ B) : mx4 L ≤ B := by
  have h0 := h 0 (by decide); have h1 := h 1 (by decide); have h2 := h 2 (by decide); have h3 := h 3 (by decide)
  unfold mx4; simp only [Nat.add_zero, Nat.reduceAdd] at *; omega

/-- what holds of each plan that the search meets -/
structure Rp (ts : List Tk) (p : List Int) : Prop where
  pi : PI ts p
  len : p.getD 25 0 = mx4 p
  rel : ∃ st on, Rel ts p st on (p.getD 25 0)

section
variable {ts : List Tk} {M : Nat} {p : List Int} {i k : Nat}
theorem with_free (hl : p.length = 26) (hk : k < 4) (j : Nat) (hj : j < 4) : (withP ts p i k).getD (20 + j) 0 = if j = k then earlP ts p i k + (tg ts i).time else if i = 20 + j ∨ 10 + i = 20 + j then (withP ts p i k).getD (20 + j) 0 else p.getD (20 + j) 0 := by
  unfold withP; simp only [getD_set]
  rw [if_neg (by omega), if_neg (by omega)]
  by_cases hjk : j = k
  · subst hjk; rw [if_pos ⟨rfl, by simp [hl] <;> omega⟩]; simp
  · rw [if_neg (by omega), if_neg hjk]
    by_cases h : i = 20 + j ∨ 10 + i = 20 + j
    · rw [if_pos h]
    · rw [if_neg h, if_neg (by omega), if_neg (by omega)]
theorem with_fr (hl : p.length = 26) (hi : i < 10) (hk : k < 4) (j : Nat) (hj : j < 4) : (withP ts p i k).getD (20 + j) 0 = if j = k then earlP ts p i k + (tg ts i).time else p.getD (20 + j) 0 := by
  rw [with_free hl hk j hj]
  by_cases hjk : j = k
  · simp [hjk]
  · rw [if_neg hjk, if_neg hjk, if_neg (by omega)]
theorem with_st (hl : p.length = 26) (hi : i < 10) (hk : k < 4) (j : Nat) (hj : j < 10) : (withP ts p i k).getD j 0 = if i = j then earlP ts p i k else p.getD j 0 := by
  unfold withP; simp only [getD_set]
  rw [if_neg (by omega), if_neg (by omega), if_neg (by omega), if_neg (by omega)]
  by_cases hij : i = j
  · subst hij; rw [if_pos (by simp [hl]; omega), if_pos rfl]
  · rw [if_neg (by omega), if_neg hij]
theorem with_len (hl : p.length = 26) : (withP ts p i k).getD 25 0 = max (p.getD 25 0) (earlP ts p i k + (tg ts i).time) := by
  unfold withP; simp only [getD_set]
  rw [if_pos (by simp [hl])]

theorem und_st {st on : List Int} {ln : Int} (h : Rel ts p st on ln) {i : Nat} (hi : i < ts.length) : undB p (i : Int) = true ↔ st.getD i 0 < 0 := by
  rw [undB_test h.done.1, h.bit]
  simp [hi]
theorem ready_iff {st on : List Int} {ln : Int} (hg : AllGood M ts) (h : Rel ts p st on ln) (hi : i < ts.length) : readyQ ts p i = true ↔ readyP ts st i := by
  unfold readyQ readyP
  simp only [Bool.and_eq_true, Bool.not_eq_true', List.any_eq_false]
  rw [und_st h hi]
  refine and_congr Iff.rfl ⟨fun h1 q hq => ?_, fun h1 x hx => ?_⟩
  · have ha := good_after hg hi q hq
    have hm := h1 _ (mem_after hq)
    have hu := und_st h (i := ((tg ts i).after.getD q 0).toNat) (by omega)
    rw [Int.toNat_of_nonneg ha.1] at hu
    have := mt hu.2 hm; omega
  · obtain ⟨q, hq, rfl⟩ := after_mem hx
    have ha := good_after hg hi q hq
    have hu := und_st h (i := ((tg ts i).after.getD q 0).toNat) (by omega)
    rw [Int.toNat_of_nonneg ha.1] at hu
    have := h1 q hq
    intro hc; have := hu.1 hc; omega
theorem earl_free (p : List Int) (i k : Nat) : p.getD (20 + k) 0 ≤ earlP ts p i k := earlN_ub0 _

theorem Rp.step (hg : AllGood M ts) (hn : ts.length ≤ 10) (hM : M ≤ 4) (h : Rp ts p) (hi : i < ts.length) (hk : k < M) (hr : readyQ ts p i = true) : Rp ts (withP ts p i k) ∧ und (withP ts p i k) ts.length + 1 = und p ts.length := by
  obtain ⟨st, on, hrel⟩ := h.rel
  have hs := h.pi.step hg hn hi (k := k) (by omega) (ready_und hr)
  have hl := h.pi.ok.len
  have ht := good_time hg i
  have hrp := (ready_iff hg hrel hi).1 hr
  have hwl := with_len (ts := ts) (p := p) (i := i) (k := k) hl
  have he := hrel.earl hg hi (k := k) (by omega) hrp.2
  refine ⟨⟨hs.1, ?_, ⟨st.set i (placeP ts st on i k), on.set i k, ?_⟩⟩, hs.2⟩
  · rw [hwl, h.len]
    have hf := earl_free (ts := ts) p i k
    apply Int.le_antisymm
    · have h1 : mx4 p ≤ mx4 (withP ts p i k) := by
        refine mx4_le fun j hj => ?_
        have h2 := mx4_ge (L := withP ts p i k) hj
        rw [with_fr hl (by omega) (by omega) j hj] at h2
        split at h2
        · rename_i hjk; subst hjk; omega
        · exact h2
      have h3 := mx4_ge (L := withP ts p i k) (show k < 4 by omega)
      rw [with_fr hl (by omega) (by omega) k (by omega), if_pos rfl] at h3
      omega
    · refine mx4_le fun j hj => ?_
      rw [with_fr hl (by omega) (by omega) j hj]
      have h2 := mx4_ge (L := p) hj
      split <;> omega
  · have := hrel.step hg hn hi (k := k) (by omega) hrp
    rw [hwl, he]; exact this
theorem Rch.rp (hg : AllGood M ts) (hn : ts.length ≤ 10) (hM : M ≤ 4) {q : List Int} (h : Rch ts M p q) : Rp ts p → Rp ts q := by
  induction h with
  | refl => exact id
  | step i k hi hk hr _ _ ih => exact fun hp => ih (hp.step hg hn hM hi hk hr).1
theorem Rch.trans {q r : List Int} (h : Rch ts M p q) (h2 : Rch ts M q r) : Rch ts M p r := by
  induction h with
  | refl => exact h2
  | step i k hi hk hr hb _ ih => exact .step i k hi hk hr hb (ih h2)
theorem Rp_zer (hn : ts.length ≤ 10) : Rp ts (List.replicate 26 0) := ⟨PI_zer hn, rfl, _, _, rel_none (M := 0) hn⟩
end
end Go.Proofs.Ytgacbfckaglhbaa
namespace Go.Proofs.Ytgacbfckaglhbaa

/-- machines change places, those that may run the same tasks -/
structure PA (ts : List Tk) (M : Nat) (f g : Nat → Nat) : Prop where
  gf : ∀ k, g (f k) = k
  fg : ∀ k, f (g k) = k
  fix : ∀ k, M ≤ k → f k = k
  al : ∀ i, i < ts.length → ∀ k : Nat, bitI (tg ts i).on (f k : Int) = bitI (tg ts i).on (k : Int)
theorem PA.id (ts : List Tk) (M : Nat) : PA ts M (fun k => k) (fun k => k) := ⟨fun _ => rfl, fun _ => rfl, fun _ _ => rfl, fun _ _ _ => rfl⟩
theorem PA.lt {ts : List Tk} {M : Nat} {f g : Nat → Nat} (h : PA ts M f g) {k : Nat} (hk : k < M) : f k < M := by
  apply Classical.byContradiction
  intro hc
  have h1 := h.fix (f k) (by omega)
  have h2 := congrArg g h1
  rw [h.gf, h.gf] at h2; omega
theorem PA.inv {ts : List Tk} {M : Nat} {f g : Nat → Nat} (h : PA ts M f g) : PA ts M g f := ⟨h.fg, h.gf, fun k hk => by
  have := h.gf k; rw [h.fix k hk] at this; exact this, fun i hi k => by
  have := h.al i hi (g k); rw [h.fg] at this; exact this.symm⟩
theorem PA.comp {ts : List Tk} {M : Nat} {f g f' g' : Nat → Nat} (h : PA ts M f g) (h' : PA ts M f' g') : PA ts M (fun k => f (f' k)) (fun k => g' (g k)) :=
  ⟨fun k => by show g' (g (f (f' k))) = k; rw [h.gf, h'.gf], fun k => by show f (f' (g' (g k))) = k; rw [h'.fg, h.fg], fun k hk => by show f (f' k) = k; rw [h'.fix k hk, h.fix k hk], fun i hi k => by
    show bitI _ ((f (f' k) : Nat) : Int) = _
    rw [h.al i hi, h'.al i hi]⟩
def swp (a b k : Nat) : Nat := if k = a then b else if k = b then a else k
theorem swp_swp (a b k : Nat) : swp a b (swp a b k) = k := by unfold swp; split <;> split <;> (try split) <;> omega
theorem PA.sw {ts : List Tk} {M a b : Nat} (hb : b < M) (ha : a < M) (hal : alikeP ts a b = true) : PA ts M (swp a b) (swp a b) :=
  ⟨swp_swp a b, swp_swp a b, fun k hk => by unfold swp; rw [if_neg (by omega), if_neg (by omega)], fun i hi k => by
    have h1 : bitI (tg ts i).on (a : Int) = bitI (tg ts i).on (b : Int) := by
      unfold alikeP at hal
      rw [Bool.not_eq_true', List.any_eq_false] at hal
      have := hal i (List.mem_range.2 hi)
      unfold difB at this
      simpa using this
    unfold swp
    by_cases hka : k = a
    · rw [if_pos hka, hka, h1]
    · rw [if_neg hka]
      by_cases hkb : k = b
      · rw [if_pos hkb, hkb, h1]
      · rw [if_neg hkb]⟩

/-- the plans p and q say the same of what follows, if the machines of p are renamed -/
structure Sim (ts : List Tk) (M : Nat) (p q : List Int) (f g : Nat → Nat) : Prop where
  pa : PA ts M f g
  done : q.getD 24 0 = p.getD 24 0
  free : ∀ k, k < 4 → q.getD (20 + f k) 0 = p.getD (20 + k) 0
  ends : ∀ i, i < ts.length → undB p (i : Int) = true → ∀ a ∈ (tg ts i).after, undB p a = false → q.getD a.toNat 0 = p.getD a.toNat 0

section
variable {ts : List Tk} {M : Nat} {p q : List Int} {f g : Nat → Nat}
theorem Sim.und (h : Sim ts M p q f g) (a : Int) : undB q a = undB p a := by unfold undB; rw [h.done]
theorem Sim.ready (h : Sim ts M p q f g) (i : Nat) : readyQ ts q i = readyQ ts p i := by
  unfold readyQ
  rw [h.und, show undB q = undB p from funext h.und]
theorem Sim.earl (hg : AllGood M ts) (h : Sim ts M p q f g) {i k : Nat} (hi : i < ts.length) (hk : k < 4) (hr : readyQ ts p i = true) : earlP ts q i (f k) = earlP ts p i k := by
  have hu := ready_und hr
  have hd : ∀ a ∈ (tg ts i).after, undB p a = false := fun a ha => by
    unfold readyQ at hr
    simp only [Bool.and_eq_true, Bool.not_eq_true', List.any_eq_false] at hr
    simpa using hr.2 a ha
  have : ∀ n, n ≤ (tg ts i).after.length → earlN ts q i (f k) n = earlN ts p i k n := fun n => by
    induction n with
    | zero => intro _; simp only [earlN]; exact h.free k hk
    | succ n ih =>
      intro hn
      have hm := mem_after (show n < (tg ts i).after.length by omega)
      simp only [earlN]
      rw [ih (by omega), h.ends i hi hu _ hm (hd _ hm)]
  exact this _ (Nat.le_refl _)
theorem Sim.step (hg : AllGood M ts) (hn : ts.length ≤ 10) (hM : M ≤ 4) (hp : Rp ts p) (hq : Rp ts q) (h : Sim ts M p q f g) {i k : Nat} (hi : i < ts.length) (hk : k < M) (hr : readyQ ts p i = true) : Sim ts M (withP ts p i k) (withP ts q i (f k)) f g := by
  have hfk := h.pa.lt hk
  have he := h.earl (k := k) hg hi (by omega) hr
  have hlp := hp.pi.ok.len
  have hlq := hq.pi.ok.len
  refine ⟨h.pa, by rw [with_done hlp, with_done hlq, h.done], fun j hj => ?_, fun i' hi' hu a ha hua => ?_⟩
  · have hfj : f j < 4 := by
      by_cases hjM : j < M
      · have := h.pa.lt hjM; omega
      · rw [h.pa.fix j (by omega)]; exact hj
    rw [with_fr (i := i) (k := f k) hlq (by omega) (by omega) (f j) hfj, with_fr (i := i) (k := k) hlp (by omega) (by omega) j hj, he, h.free j hj]
    by_cases hjk : j = k
    · rw [if_pos hjk, if_pos (by rw [hjk])]
    · rw [if_neg hjk, if_neg (fun hc => hjk (by have := congrArg g hc; rwa [h.pa.gf, h.pa.gf] at this))]
  · obtain ⟨x, hx, rfl⟩ := after_mem ha
    have hb := good_after hg hi' x hx
    obtain ⟨A, hA⟩ := Int.eq_ofNat_of_zero_le hb.1
    have hA' : (tg ts i').after.getD x 0 = (A : Int) := hA
    rw [hA'] at hua ha ⊢
    rw [show ((A : Int)).toNat = A from rfl, with_st hlq (by omega) (by omega) A (by omega), with_st hlp (by omega) (by omega) A (by omega), he]
    rw [undB_with hlp hp.pi.done.1] at hu hua
    simp only [Bool.and_eq_true, decide_eq_true_eq] at hu
    by_cases hiA : i = A
    · rw [if_pos hiA, if_pos hiA]
    · rw [if_neg hiA, if_neg hiA]
      have : undB p (A : Int) = false := by simpa [hiA] using hua
      exact h.ends i' hi' hu.1 _ ha this
theorem Sim.len (hM : M ≤ 4) (hp : Rp ts p) (hq : Rp ts q) (h : Sim ts M p q f g) : q.getD 25 0 = p.getD 25 0 := by
  have hb : ∀ {f g : Nat → Nat}, PA ts M f g → ∀ k, k < 4 → f k < 4 := fun {f g} ha k hk => by
    by_cases hkM : k < M
    · have := ha.lt hkM; omega
    · rw [ha.fix k (by omega)]; exact hk
  rw [hp.len, hq.len]
  apply Int.le_antisymm
  · refine mx4_le fun k hk => ?_
    have h1 := h.free (g k) (hb h.pa.inv k hk)
    rw [h.pa.fg] at h1
    rw [h1]; exact mx4_ge (hb h.pa.inv k hk)
  · refine mx4_le fun k hk => ?_
    rw [← h.free k hk]; exact mx4_ge (hb h.pa k hk)
/-- each plan that can be reached from q has one of the same length that can be reached from p -/
theorem Sim.reach (hg : AllGood M ts) (hn : ts.length ≤ 10) (hM : M ≤ 4) {q r : List Int} (hr : Rch ts M q r) : ∀ {p : List Int} {f g : Nat → Nat}, Rp ts p → Rp ts q → Sim ts M q p f g → ∃ s, Rch ts M p s ∧ s.getD 24 0 = r.getD 24 0 ∧ s.getD 25 0 = r.getD 25 0 := by
  induction hr with
  | refl q => intro p f g hp hq h; exact ⟨p, .refl p, h.done, h.len hM hq hp⟩
  | step i k hi hk hrd hb _ ih =>
    intro p f g hp hq h
    have hrd' : readyQ ts p i = true := by rw [h.ready]; exact hrd
    have hfk := h.pa.lt hk
    obtain ⟨s, h1, h2⟩ := ih (hp.step hg hn hM hi hfk hrd').1 (hq.step hg hn hM hi hk hrd).1 (h.step hg hn hM hq hp hi hk hrd)
    exact ⟨s, .step i (f k) hi hfk hrd' (by rw [h.pa.al i hi]; exact hb) h1, h2⟩
theorem LB.sim (hg : AllGood M ts) (hn : ts.length ≤ 10) (hM : M ≤ 4) {b : Int} {f g : Nat → Nat} (hp : Rp ts p) (hq : Rp ts q) (h : Sim ts M q p f g) (hb : LB ts M b p) : LB ts M b q := fun r hr hf => by
  obtain ⟨s, h1, h2, h3⟩ := Sim.reach hg hn hM hr hp hq h
  rw [← h3]
  exact hb s h1 (by unfold Full; rw [h2]; exact hf)
end

/-! ## equal states -/
structure SwI (ts : List Tk) (M : Nat) (p X : List Int) (f g : Nat → Nat) : Prop where
  pa : PA ts M f g
  l : X.length = 15
  d : X.getD 0 0 = p.getD 24 0
  fr : ∀ k, k < 4 → X.getD (1 + k) 0 = p.getD (20 + f k) 0
section
variable {ts : List Tk} {M : Nat} {p : List Int}
theorem SwI.start (h : p.length = 26) : SwI ts M p (st0 p) (fun k => k) (fun k => k) := ⟨PA.id ts M, st0_len h, rfl, fun k hk => by
  unfold st0
  rw [Nat.add_comm 1 k]
  simp only [List.getD_eq_getElem?_getD, List.getElem?_cons_succ]
  rw [List.getElem?_append_left (by simp [h]; omega), List.getElem?_take, if_pos hk, List.getElem?_drop]⟩
theorem SwI.swap (hM : M ≤ 4) {X : List Int} {f g : Nat → Nat} (h : SwI ts M p X f g) {a b : Nat} (hab : a < b) (hb : b < M) : ∃ f' g', SwI ts M p (swapX ts a b X) f' g' := by
  unfold swapX
  split
  · rename_i hc
    refine ⟨fun k => f (swp a b k), fun k => swp a b (g k), h.pa.comp (PA.sw hb (by omega) hc.2), by simp [h.l], ?_, fun k hk => ?_⟩
    · rw [getD_set, if_neg (by omega), getD_set, if_neg (by omega)]; exact h.d
    · rw [getD_set, getD_set]
      show _ = p.getD (20 + f (swp a b k)) 0
      unfold swp
      by_cases hkb : k = b
      · rw [if_pos ⟨by omega, by simp [h.l]; omega⟩, if_neg (by omega), if_pos hkb, h.fr a (by omega)]
      · rw [if_neg (by omega)]
        by_cases hka : k = a
        · rw [if_pos ⟨by omega, by rw [h.l]; omega⟩, if_pos hka, h.fr b (by omega)]
        · rw [if_neg (by omega), if_neg hka, if_neg hkb, h.fr k hk]
  · exact ⟨f, g, h⟩
theorem SwI.swIn (hM : M ≤ 4) {X : List Int} {a : Nat} (h : ∃ f g, SwI ts M p X f g) : ∀ j, a + j < M → ∃ f g, SwI ts M p (swIn ts a X j) f g
  | 0, _ => h
  | j + 1, hj => by
    obtain ⟨f, g, h1⟩ := SwI.swIn hM (a := a) h j (by omega)
    exact h1.swap hM (a := a) (b := a + 1 + j) (by omega) (by omega)
theorem SwI.swOut (hM : M ≤ 4) {X : List Int} (h : ∃ f g, SwI ts M p X f g) : ∀ a, a ≤ M → ∃ f g, SwI ts M p (swOut ts M X a) f g
  | 0, _ => h
  | a + 1, ha => SwI.swIn hM (SwI.swOut hM h a (by omega)) _ (by omega)
theorem endIn_low {L : List Int} {i : Nat} {X : List Int} {j : Nat} (hj : j < 5) : ∀ n, (endIn ts L i X n).getD j 0 = X.getD j 0
  | 0 => rfl
  | n + 1 => by
    rw [endIn]; split
    · rw [getD_set, if_neg (by omega)]; exact endIn_low hj n
    · exact endIn_low hj n
theorem endOut_low {L : List Int} {X : List Int} {j : Nat} (hj : j < 5) : ∀ n, (endOut ts L X n).getD j 0 = X.getD j 0
  | 0 => rfl
  | n + 1 => by
    rw [endOut]; split
    · rw [endIn_low hj]; exact endOut_low hj n
    · exact endOut_low hj n
theorem endIn_keep {L : List Int} {i : Nat} {X : List Int} {a : Nat} (h : X.getD (5 + a) 0 = L.getD a 0 + (tg ts a).time) : ∀ n, (endIn ts L i X n).getD (5 + a) 0 = L.getD a 0 + (tg ts a).time
  | 0 => h
  | n + 1 => by
    rw [endIn]; split
    · rw [getD_set]; split
      · rename_i hc
        rw [show ((tg ts i).after.getD n 0).toNat = a by omega]
      · exact endIn_keep h n
    · exact endIn_keep h n
theorem endIn_get {L : List Int} {i : Nat} {X : List Int} {a : Nat} (hX : X.length = 15) (ha : a < 10) (hb : bitI (L.getD 24 0) (a : Int) = 1) : ∀ n x, x < n → (tg ts i).after.getD x 0 = (a : Int) → (endIn ts L i X n).getD (5 + a) 0 = L.getD a 0 + (tg ts a).time
  | n + 1, x, hx, he => by
    by_cases hxn : x < n
    · have ih := endIn_get hX ha hb n x hxn he
      rw [endIn]; split
      · rw [getD_set]; split
        · rename_i hc
          rw [show ((tg ts i).after.getD n 0).toNat = a by omega]
        · exact ih
      · exact ih
    · obtain rfl : x = n := by omega
      rw [endIn, he, if_pos hb, getD_set, if_pos ⟨rfl, by rw [endIn_len, hX]; show 5 + a < 15; omega⟩]
      rfl
theorem endOut_get (hg : AllGood M ts) (hn : ts.length ≤ 10) {L : List Int} {X : List Int} {a i x : Nat} (hX : X.length = 15) (ha : a < 10) (hb : bitI (L.getD 24 0) (a : Int) = 1) (hu : bitI (L.getD 24 0) (i : Int) = 0) (hx : x < (tg ts i).after.length) (he : (tg ts i).after.getD x 0 = (a : Int)) : ∀ n, i < n → (endOut ts L X n).getD (5 + a) 0 = L.getD a 0 + (tg ts a).time
  | n + 1, hin => by
    rw [endOut]
    by_cases hi : i < n
    · have ih := endOut_get hg hn hX ha hb hu hx he n hi
      split
      · exact endIn_keep ih _
      · exact ih
    · obtain rfl : i = n := by omega
      rw [if_pos hu]
      exact endIn_get (by rw [endOut_len]; exact hX) ha hb _ x hx he
theorem state_sim (hg : AllGood M ts) (hn : ts.length ≤ 10) (hM : M ≤ 4) {q : List Int} (hp : Rp ts p) (hq : Rp ts q) (h : stateP ts M p = stateP ts M q) : ∃ f g, Sim ts M p q f g := by
  have hlp := hp.pi.ok.len
  have hlq := hq.pi.ok.len
  obtain ⟨f1, g1, s1⟩ := SwI.swOut (ts := ts) (p := p) hM ⟨_, _, SwI.start hlp⟩ M (Nat.le_refl _)
  obtain ⟨f2, g2, s2⟩ := SwI.swOut (ts := ts) (p := q) hM ⟨_, _, SwI.start hlq⟩ M (Nat.le_refl _)
  have hget : ∀ j, (stateP ts M p).getD j 0 = (stateP ts M q).getD j 0 := fun j => by rw [h]
  unfold stateP at hget
  have hd : q.getD 24 0 = p.getD 24 0 := by
    have := hget 0
    rw [endOut_low (by decide), endOut_low (by decide), s1.d, s2.d] at this
    exact this.symm
  have hb : ∀ {f g : Nat → Nat}, PA ts M f g → ∀ k, k < 4 → f k < 4 := fun {f g} ha k hk => by
    by_cases hkM : k < M
    · have := ha.lt hkM; omega
    · rw [ha.fix k (by omega)]; exact hk
  refine ⟨fun k => f2 (g1 k), fun k => f1 (g2 k), s2.pa.comp s1.pa.inv, hd, fun k hk => ?_, fun i hi hu a ha hua => ?_⟩
  · have hk1 := hb s1.pa.inv k hk
    have := hget (1 + g1 k)
    rw [endOut_low (by omega), endOut_low (by omega), s1.fr _ hk1, s2.fr _ hk1, s1.pa.fg] at this
    exact this.symm
  · obtain ⟨x, hx, rfl⟩ := after_mem ha
    have hba := good_after hg hi x hx
    obtain ⟨A, hA⟩ := Int.eq_ofNat_of_zero_le hba.1
    have hA' : (tg ts i).after.getD x 0 = (A : Int) := hA
    rw [hA'] at hua ⊢
    have hu1 : bitI (p.getD 24 0) (i : Int) = 0 := by unfold undB at hu; simpa using hu
    have hb1 : bitI (p.getD 24 0) (A : Int) = 1 := by
      have h1 : ¬ bitI (p.getD 24 0) (A : Int) = 0 := by unfold undB at hua; simpa using hua
      have := bit_01 (p.getD 24 0) (A : Int); omega
    have e1 := endOut_get hg hn (L := p) s1.l (show A < 10 by omega) hb1 hu1 hx hA' ts.length hi
    have e2 := endOut_get hg hn (L := q) s2.l (show A < 10 by omega) (by rw [hd]; exact hb1) (by rw [hd]; exact hu1) hx hA' ts.length hi
    have := hget (5 + A)
    rw [e1, e2] at this
    show q.getD A 0 = p.getD A 0
    omega
end
end Go.Proofs.Ytgacbfckaglhbaa
namespace Go.Proofs.Ytgacbfckaglhbaa

theorem anot_sub (a : Nat) (ha : a < 16) (b : Nat) (hb : b < 16) (k : Nat) (hk : k < 4) (h : W.anot a b = 0) (h1 : bitI a (k : Int) = 1) : bitI b (k : Int) = 1 := by
  have : ∀ a : Nat, a < 16 → ∀ b : Nat, b < 16 → ∀ k : Nat, k < 4 → W.anot a b = 0 → bitI a (k : Int) = 1 → bitI b (k : Int) = 1 := by decide +kernel
  exact this a ha b hb k hk h h1

section
variable {ts : List Tk} {M : Nat} {p q L L' : List Int} {on : Nat}
theorem freeS_mono : ∀ {n : Nat}, (∀ j, j < n → L.getD (20 + j) 0 ≤ L'.getD (20 + j) 0) → freeS L on n ≤ freeS L' on n
  | 0, _ => Int.le_refl _
  | n + 1, h => by
    have ih := freeS_mono (n := n) fun j hj => h j (by omega)
    have := h n (by omega)
    rw [freeS, freeS]; split <;> omega
theorem freeS_add {k : Nat} {t : Int} (hb : bitI on (k : Int) = 1) (ht : L.getD (20 + k) 0 + t ≤ L'.getD (20 + k) 0) : ∀ {n : Nat}, k < n → (∀ j, j < n → L.getD (20 + j) 0 ≤ L'.getD (20 + j) 0) → freeS L on n + t ≤ freeS L' on n
  | n + 1, hk, h => by
    by_cases hkn : k < n
    · have ih := freeS_add hb ht hkn fun j hj => h j (by omega)
      have := h n (by omega)
      rw [freeS, freeS]; split <;> omega
    · obtain rfl : k = n := by omega
      have ih := freeS_mono (on := on) (n := k) fun j hj => h j (by omega)
      rw [freeS, freeS, if_pos hb, if_pos hb]; omega
theorem timeS_step {i : Nat} (ht : 0 ≤ (tg ts i).time) (hu : ∀ j : Nat, bitI (L'.getD 24 0) (j : Int) = 0 ↔ bitI (L.getD 24 0) (j : Int) = 0 ∧ i ≠ j) : ∀ n, timeS ts L on n ≤ timeS ts L' on n + (if i < n ∧ W.anot (tg ts i).on on = 0 then (tg ts i).time else 0)
  | 0 => by simp [timeS]
  | n + 1 => by
    have ih := timeS_step ht hu n
    rw [timeS, timeS]
    by_cases hin : i = n
    · subst hin
      rw [if_neg (by omega)] at ih
      rw [if_neg (c := bitI (L'.getD 24 0) (i : Int) = 0 ∧ _) (fun hc => ((hu i).1 hc.1).2 rfl)]
      by_cases ha : W.anot (tg ts i).on on = 0
      · rw [if_pos (show i < i + 1 ∧ _ from ⟨by omega, ha⟩)]
        split <;> omega
      · rw [if_neg (fun hc => ha hc.2), if_neg (fun hc => ha hc.2)]; omega
    · have e : (i < n + 1 ∧ W.anot (tg ts i).on on = 0) ↔ (i < n ∧ W.anot (tg ts i).on on = 0) := by omega
      have e2 : (bitI (L'.getD 24 0) (n : Int) = 0 ∧ W.anot (tg ts n).on on = 0) ↔ (bitI (L.getD 24 0) (n : Int) = 0 ∧ W.anot (tg ts n).on on = 0) := by
        rw [hu n]; simp [hin]
      simp only [e, e2]
      split <;> omega
/-- the sum of a set of machines -/
theorem load_step (hg : AllGood M ts) (hn : ts.length ≤ 10) (hM : M ≤ 4) (hon : on < 16) (hp : Rp ts p) {i k : Nat} (hi : i < ts.length) (hk : k < M) (hr : readyQ ts p i = true) (hb : bitI (tg ts i).on (k : Int) = 1) :
    freeS p on M + timeS ts p on ts.length ≤ freeS (withP ts p i k) on M + timeS ts (withP ts p i k) on ts.length := by
  have hl := hp.pi.ok.len
  have ht := good_time hg i
  have ho := good_on hg hM i
  have hf := earl_free (ts := ts) p i k
  have hmono : ∀ j, j < M → p.getD (20 + j) 0 ≤ (withP ts p i k).getD (20 + j) 0 := fun j hj => by
    rw [with_fr hl (by omega) (by omega) j (by omega)]
    split
    · rename_i h; subst h; omega
    · omega
  have h1 := timeS_step (ts := ts) (L := p) (L' := withP ts p i k) (on := on) (i := i) ht.1 (fun j => by
    have := undB_with (ts := ts) (p := p) (i := i) (k := k) hl hp.pi.done.1 j
    unfold undB at this
    have h2 : (bitI ((withP ts p i k).getD 24 0) (j : Int) = 0) ↔ decide (bitI ((withP ts p i k).getD 24 0) (j : Int) = 0) = true := by simp
    rw [h2, this]; simp) ts.length
  split at h1
  · rename_i hc
    have hbo := anot_sub (tg ts i).on.toNat (by omega) on hon k (by omega) (by rw [Int.toNat_of_nonneg ho.1]; exact hc.2) (by rw [Int.toNat_of_nonneg ho.1]; exact hb)
    have h2 := freeS_add (on := on) (L := p) (L' := withP ts p i k) (t := (tg ts i).time) hbo (by rw [with_fr hl (by omega) (by omega) k (by omega), if_pos rfl]; omega) hk hmono
    omega
  · have h2 := freeS_mono (on := on) hmono
    omega
theorem load_reach (hg : AllGood M ts) (hn : ts.length ≤ 10) (hM : M ≤ 4) (hon : on < 16) (h : Rch ts M p q) : Rp ts p → freeS p on M + timeS ts p on ts.length ≤ freeS q on M + timeS ts q on ts.length := by
  induction h with
  | refl => exact fun _ => Int.le_refl _
  | step i k hi hk hr hb _ ih => exact fun hp => Int.le_trans (load_step hg hn hM hon hp hi hk hr hb) (ih (hp.step hg hn hM hi hk hr).1)
def cnt (on : Nat) : Nat → Int
  | 0 => 0
  | k + 1 => cnt on k + bitI on (k : Int)
theorem cnt_pop (hon : on < 16) (hM : M ≤ 4) : cnt on M ≤ popP on :=
  (by decide +kernel : ∀ x : Nat, x < 16 → ∀ m : Nat, m < 5 → cnt x m ≤ popP x) on hon M (by omega)
theorem freeS_le {B : Int} : ∀ {n : Nat}, (∀ j, j < n → L.getD (20 + j) 0 ≤ B) → freeS L on n ≤ cnt on n * B
  | 0, _ => by simp [freeS, cnt]
  | n + 1, h => by
    have ih := freeS_le (n := n) fun j hj => h j (by omega)
    have := h n (by omega)
    rw [freeS, cnt, Int.add_mul]
    rcases bit_01 on (n : Int) with hb | hb
    · rw [hb, if_neg (by omega)]; omega
    · rw [hb, if_pos rfl]; omega
theorem full_und (h : Full ts q) {j : Nat} (hj : j < ts.length) : bitI (q.getD 24 0) (j : Int) = 1 := by
  have hc : ((2 : Int) ^ ts.length) = ((2 ^ ts.length : Nat) : Int) := by simp
  have hp : 0 < 2 ^ ts.length := Nat.pow_pos (by decide)
  have h0 : 0 ≤ q.getD 24 0 := by rw [h]; omega
  rw [bitI_test h0]
  have h1 : (q.getD 24 0).toNat = 2 ^ ts.length - 1 := by rw [h]; omega
  rw [h1, Nat.testBit_two_pow_sub_one]; simp [hj]
theorem timeS_full (h : Full ts q) : ∀ n, n ≤ ts.length → timeS ts q on n = 0
  | 0, _ => rfl
  | n + 1, hn => by
    rw [timeS, if_neg (fun hc => by have := full_und h (j := n) (by omega); omega), timeS_full h n (by omega)]
theorem Rp.free_le (h : Rp ts p) {k : Nat} (hk : k < 4) : p.getD (20 + k) 0 ≤ p.getD 25 0 := by rw [h.len]; exact mx4_ge hk
theorem Rp.len0 (h : Rp ts p) : 0 ≤ p.getD 25 0 := (h.pi.ok.bd 25).1
theorem load_LB (hg : AllGood M ts) (hn : ts.length ≤ 10) (hM : M ≤ 4) (h1 : 1 ≤ on) (h2 : on < 16) (hp : Rp ts p) : LB ts M (loadP ts M p on) p := fun q hr hf => by
  have h3 := load_reach hg hn hM h2 hr hp
  have hq := hr.rp hg hn hM hp
  rw [timeS_full hf _ (Nat.le_refl _)] at h3
  have h4 := freeS_le (on := on) (L := q) (n := M) fun j hj => hq.free_le (k := j) (by omega)
  have h5 := Int.mul_le_mul_of_nonneg_right (cnt_pop h2 hM) hq.len0
  have h6 := popP_bd h1 h2
  have h7 : (freeS p on M + timeS ts p on ts.length + popP on - 1) / popP on < q.getD 25 0 + 1 := Int.ediv_lt_of_lt_mul (by omega) (by
    rw [Int.add_mul, Int.one_mul, Int.mul_comm (q.getD 25 0)]; omega)
  unfold loadP; omega
theorem rch_len (hn : ts.length ≤ 10) (h : Rch ts M p q) : p.length = 26 → p.getD 25 0 ≤ q.getD 25 0 := by
  induction h with
  | refl => exact fun _ => Int.le_refl _
  | step i k hi hk hr hb _ ih => exact fun hl => Int.le_trans (by rw [with_len hl]; omega) (ih (by simp [withP, hl]))
theorem setsF_hop {bl : Int} : ∀ {c n : Nat} {b : Bool}, setsF (hopStep ts M L bl) c n b = true → b = true ∨ ∃ x, n ≤ x ∧ x < n + c ∧ bl ≤ loadP ts M L x
  | 0, n, b, h => .inl h
  | c + 1, n, b, h => by
    rw [setsF] at h
    have h1 : (hopStep ts M L bl b n).1 = true → b = true ∨ ∃ x, n ≤ x ∧ x < n + (c + 1) ∧ bl ≤ loadP ts M L x := fun h => by
      simp only [hopStep, Bool.or_eq_true, decide_eq_true_eq] at h
      exact h.imp id fun h => ⟨n, by omega, by omega, h⟩
    split at h
    · rcases setsF_hop h with h | ⟨x, h2, h3, h4⟩
      · exact h1 h
      · exact .inr ⟨x, by omega, by omega, h4⟩
    · exact h1 h
theorem hop_LB (hg : AllGood M ts) (hn : ts.length ≤ 10) (hM : M ≤ 4) (hp : Rp ts p) {bl : Int} (h : hopP ts M p bl = true) : LB ts M bl p := by
  rcases setsF_hop h with h | ⟨x, h2, h3, h4⟩
  · exact fun q hr _ => Int.le_trans (of_decide_eq_true h) (rch_len hn hr hp.pi.ok.len)
  · have hp4 := pow_16 hM
    have : 2 ^ M ≤ 16 := by have := Nat.pow_le_pow_right (show 0 < 2 by decide) hM; omega
    exact (load_LB hg hn hM h2 (by omega) hp).mono h4
end
end Go.Proofs.Ytgacbfckaglhbaa
namespace Go.Proofs.Ytgacbfckaglhbaa

section
variable {ts : List Tk} {M : Nat} {goal : Int} {p q : List Int}

/-- what was met before, of plans with at most u tasks left, has nothing better than the best -/
def Clo (ts : List Tk) (M : Nat) (s : RS) (u : Nat) : Prop := ∀ q, Rp ts q → stateP ts M q ∈ s.2 → und q ts.length ≤ u → LB ts M (s.1.getD 25 0) q
/-- what a search leaves, of plans with at most u tasks left -/
structure Fnd (ts : List Tk) (M : Nat) (p : List Int) (u : Nat) (s s' : RS) : Prop where
  le : s'.1.getD 25 0 ≤ s.1.getD 25 0
  cl : Clo ts M s' u
  new : ∀ X ∈ s'.2, X ∈ s.2 ∨ ∃ q, Rp ts q ∧ und q ts.length ≤ u ∧ X = stateP ts M q
  best : s'.1 = s.1 ∨ (Rch ts M p s'.1 ∧ Full ts s'.1)
theorem Fnd.refl {u : Nat} {s : RS} (h : Clo ts M s u) : Fnd ts M p u s s := ⟨Int.le_refl _, h, fun X hX => .inl hX, .inl rfl⟩
theorem Fnd.trans {u : Nat} {s s' s'' : RS} (h : Fnd ts M p u s s') (h' : Fnd ts M p u s' s'') : Fnd ts M p u s s'' :=
  ⟨Int.le_trans h'.le h.le, h'.cl, fun X hX => by
    rcases h'.new X hX with hX | hX
    · exact h.new X hX
    · exact .inr hX, by
    rcases h'.best with h1 | h1
    · rcases h.best with h2 | h2
      · exact .inl (h1.trans h2)
      · exact .inr (by rw [h1]; exact h2)
    · exact .inr h1⟩
theorem und_done (h : q.getD 24 0 = p.getD 24 0) : ∀ n, und q n = und p n
  | 0 => rfl
  | n + 1 => by rw [und, und, und_done h n]; unfold undB; rw [h]

/-- one task on all machines -/
theorem innP_find {rec : List Int → RS → RS} {i u : Nat} (hr : ∀ k s, k < M → bitI (tg ts i).on (k : Int) = 1 → Clo ts M s u → Fnd ts M (withP ts p i k) u s (rec (withP ts p i k) s) ∧ LB ts M ((rec (withP ts p i k) s).1.getD 25 0) (withP ts p i k)) (hi : i < ts.length) (hrd : readyQ ts p i = true) {s : RS} (hs : Clo ts M s u) : ∀ n, n ≤ M → Fnd ts M p u s (innP rec ts p i s n) ∧ ∀ k, k < n → bitI (tg ts i).on (k : Int) = 1 → LB ts M ((innP rec ts p i s n).1.getD 25 0) (withP ts p i k)
  | 0, _ => ⟨.refl hs, fun k hk => by omega⟩
  | n + 1, hn => by
    obtain ⟨h1, h2⟩ := innP_find hr hi hrd hs n (by omega)
    rw [innP]
    split
    · rename_i hb
      obtain ⟨h3, h4⟩ := hr n _ (by omega) hb h1.cl
      have h5 : Fnd ts M p u (innP rec ts p i s n) (rec (withP ts p i n) (innP rec ts p i s n)) := ⟨h3.le, h3.cl, h3.new, h3.best.imp id fun h => ⟨.step i n hi (by omega) hrd hb h.1, h.2⟩⟩
      refine ⟨h1.trans h5, fun k hk hb' => ?_⟩
      by_cases hkn : k < n
      · exact (h2 k hkn hb').mono h3.le
      · obtain rfl : k = n := by omega
        exact h4
    · rename_i hb
      refine ⟨h1, fun k hk hb' => ?_⟩
      by_cases hkn : k < n
      · exact h2 k hkn hb'
      · obtain rfl : k = n := by omega
        exact absurd hb' hb
theorem outP_find {rec : List Int → RS → RS} {u : Nat} (hr : ∀ i k s, i < ts.length → readyQ ts p i = true → k < M → bitI (tg ts i).on (k : Int) = 1 → Clo ts M s u → Fnd ts M (withP ts p i k) u s (rec (withP ts p i k) s) ∧ LB ts M ((rec (withP ts p i k) s).1.getD 25 0) (withP ts p i k)) {s : RS} (hs : Clo ts M s u) : ∀ n, n ≤ ts.length → Fnd ts M p u s (outP rec ts M p s n) ∧ ∀ i k, i < n → readyQ ts p i = true → k < M → bitI (tg ts i).on (k : Int) = 1 → LB ts M ((outP rec ts M p s n).1.getD 25 0) (withP ts p i k)
  | 0, _ => ⟨.refl hs, fun i k hk => by omega⟩
  | n + 1, hn => by
    obtain ⟨h1, h2⟩ := outP_find hr hs n (by omega)
    rw [outP]
    split
    · rename_i hrd
      obtain ⟨h3, h4⟩ := innP_find (hr n · · (by omega) hrd) (by omega) hrd h1.cl M (Nat.le_refl _)
      refine ⟨h1.trans h3, fun i k hi hrd' hk hb => ?_⟩
      by_cases hin : i < n
      · exact (h2 i k hin hrd' hk hb).mono h3.le
      · obtain rfl : i = n := by omega
        exact h4 k hk hb
    · rename_i hrd
      refine ⟨h1, fun i k hi hrd' hk hb => ?_⟩
      by_cases hin : i < n
      · exact h2 i k hin hrd' hk hb
      · obtain rfl : i = n := by omega
        exact absurd hrd' hrd

/-- the search -/
theorem run_find (hg : AllGood M ts) (hn : ts.length ≤ 10) (hM : M ≤ 4) : ∀ f p s, Rp ts p → und p ts.length < f → LB ts M goal p → Clo ts M s (und p ts.length) →
    Fnd ts M p (und p ts.length) s (runP ts M goal f p s) ∧ LB ts M ((runP ts M goal f p s).1.getD 25 0) p
  | 0, p, s, _, hf, _, _ => by omega
  | f + 1, p, s, hp, hf, hgo, hs => by
    have hst : ∀ {q}, Rp ts q → stateP ts M q = stateP ts M p → und q ts.length = und p ts.length := fun hq h => by
      obtain ⟨_, _, h1⟩ := state_sim hg hn hM hq hp h
      exact und_done h1.done.symm _
    rw [runP]
    split
    · rename_i hfull
      have hle : ∀ q, Rch ts M p q → p.getD 25 0 ≤ q.getD 25 0 := fun q h => rch_len hn h hp.pi.ok.len
      split
      · rename_i hlt
        refine ⟨⟨Int.le_of_lt hlt, fun q h1 h2 h3 => (hs q h1 h2 h3).mono (Int.le_of_lt hlt), fun X hX => .inl hX, .inr ⟨.refl p, hfull⟩⟩, fun q h1 h2 => hle q h1⟩
      · rename_i hlt
        exact ⟨.refl hs, fun q h1 h2 => Int.le_trans (Int.not_lt.1 hlt) (hle q h1)⟩
    · rename_i hnf
      split
      · rename_i hc
        refine ⟨.refl hs, ?_⟩
        rcases hc with hc | hc
        · rw [hc]; exact hgo
        · exact hop_LB hg hn hM hp hc
      · split
        · rename_i hmem
          exact ⟨.refl hs, hs p hp hmem (Nat.le_refl _)⟩
        · have hu : 0 < und p ts.length := Nat.pos_of_ne_zero fun hz => hnf (und_zero hp.pi.done.1 hp.pi.d hz)
          have hs1 : Clo ts M (s.1, s.2 ++ [stateP ts M p]) (und p ts.length - 1) := fun q h1 h2 h3 => by
            rcases List.mem_append.1 h2 with h2 | h2
            · exact hs q h1 h2 (by omega)
            · have := hst h1 (by simpa using h2)
              omega
          obtain ⟨h1, h2⟩ := outP_find (ts := ts) (M := M) (p := p) (rec := runP ts M goal f) (u := und p ts.length - 1) (fun i k s hi hr hk hb hs => by
            have hw := hp.step hg hn hM hi hk hr
            have := run_find hg hn hM f (withP ts p i k) s hw.1 (by omega) (fun q hq hqf => hgo q (.step i k hi hk hr hb hq) hqf)
            rw [show und (withP ts p i k) ts.length = und p ts.length - 1 by omega] at this
            exact this hs) hs1 ts.length (Nat.le_refl _)
          generalize outP (runP ts M goal f) ts M p (s.1, s.2 ++ [stateP ts M p]) ts.length = s' at h1 h2
          have hlb : LB ts M (s'.1.getD 25 0) p := fun q hq hqf => by
            cases hq with
            | refl => exact absurd hqf hnf
            | step i k hi hk hr hb hq => exact h2 i k hi hr hk hb q hq hqf
          refine ⟨⟨h1.le, fun q h3 h4 h5 => ?_, fun X hX => ?_, h1.best⟩, hlb⟩
          · by_cases h6 : und q ts.length ≤ und p ts.length - 1
            · exact h1.cl q h3 h4 h6
            · rcases h1.new _ h4 with h7 | ⟨q', h7, h8, h9⟩
              · rcases List.mem_append.1 h7 with h7 | h7
                · exact (hs q h3 h7 h5).mono h1.le
                · obtain ⟨f', g', h8⟩ := state_sim hg hn hM h3 hp (by simpa using h7)
                  exact LB.sim hg hn hM hp h3 h8 hlb
              · obtain ⟨_, _, h10⟩ := state_sim hg hn hM h3 h7 h9
                have := und_done h10.done ts.length
                omega
          · rcases h1.new X hX with h3 | ⟨q, h3, h4, h5⟩
            · rcases List.mem_append.1 h3 with h3 | h3
              · exact .inl h3
              · exact .inr ⟨p, hp, Nat.le_refl _, by simpa using h3⟩
            · exact .inr ⟨q, h3, by omega, h5⟩
end
end Go.Proofs.Ytgacbfckaglhbaa
namespace Go.Proofs.Ytgacbfckaglhbaa

/-- the tasks that have starts go together -/
structure Pf (ts : List Tk) (M : Nat) (st on : List Int) : Prop where
  ok : ∀ i, i < ts.length → 0 ≤ st.getD i 0 → may (tg ts i).on (on.getD i 0) ∧ on.getD i 0 < M
  dep : ∀ i, i < ts.length → 0 ≤ st.getD i 0 → ∀ k : Nat, (k : Int) ∈ (tg ts i).after → 0 ≤ st.getD k 0
  pair : ∀ i, i < ts.length → 0 ≤ st.getD i 0 → ∀ k, k < ts.length → 0 ≤ st.getD k 0 → pairOK ts st on i k

section
variable {ts : List Tk} {M : Nat} {p q st on : List Int}
theorem ready_nat (hg : AllGood M ts) {i : Nat} (hi : i < ts.length) : readyP ts st i ↔ st.getD i 0 < 0 ∧ ∀ k : Nat, (k : Int) ∈ (tg ts i).after → 0 ≤ st.getD k 0 := by
  unfold readyP
  refine and_congr Iff.rfl ⟨fun h k hk => ?_, fun h x hx => ?_⟩
  · obtain ⟨x, hx, he⟩ := after_mem hk
    have := h x hx
    rw [he] at this; exact this
  · have ha := good_after hg hi x hx
    exact h _ (by rw [Int.toNat_of_nonneg ha.1]; exact mem_after hx)
theorem after_lt (hg : AllGood M ts) {i k : Nat} (hi : i < ts.length) (h : (k : Int) ∈ (tg ts i).after) : k < i := by
  obtain ⟨x, hx, he⟩ := after_mem h
  have := good_after hg hi x hx
  omega
theorem Pf.step (hg : AllGood M ts) (hM : M ≤ 4) (hs : st.length = ts.length) (ho : on.length = ts.length) (h : Pf ts M st on) {i k : Nat} (hi : i < ts.length) (hk : k < M) (hr : readyP ts st i) (hb : bitI (tg ts i).on (k : Int) = 1) {e : Int} (he : e = placeP ts st on i k) : Pf ts M (st.set i e) (on.set i (k : Int)) := by
  have g1 : ∀ j, (st.set i e).getD j 0 = if i = j then e else st.getD j 0 := fun j => by rw [getD_set]; by_cases h : i = j <;> simp [h]; omega
  have g2 : ∀ j, (on.set i (k : Int)).getD j 0 = if i = j then (k : Int) else on.getD j 0 := fun j => by rw [getD_set]; by_cases h : i = j <;> simp [h]; omega
  have hr := (ready_nat hg hi).1 hr
  have hgo := good_on hg hM i
  have he0 : 0 ≤ e := by rw [he]; exact placeN_nonneg _
  have ht : ∀ j, j < ts.length → 1 ≤ (tg ts j).time := fun j hj => (hg j hj).t1
  have hub : ∀ j, j < ts.length → 0 ≤ st.getD j 0 → (on.getD j 0 = k ∨ (j : Int) ∈ (tg ts i).after) → st.getD j 0 + (tg ts j).time ≤ e := fun j hj h1 h2 => by rw [he]; exact placeN_ub h1 h2 hj
  refine ⟨fun j hj hp => ?_, fun j hj hp x hx => ?_, fun j hj hp x hx hpx => ?_⟩
  · rw [g1] at hp; rw [g2]
    by_cases hij : i = j
    · subst hij; rw [if_pos rfl]
      exact ⟨⟨by omega, by omega, by rw [Int.toNat_natCast]; exact (may_bit _ _ hgo.1).1 (by unfold bitI at hb; simpa using hb)⟩, by omega⟩
    · rw [if_neg hij] at hp ⊢; exact h.ok j hj hp
  · rw [g1] at hp ⊢
    by_cases hix : i = x
    · rw [if_pos hix]; exact he0
    · rw [if_neg hix]
      by_cases hij : i = j
      · subst hij; exact hr.2 x hx
      · rw [if_neg hij] at hp; exact h.dep j hj hp x hx
  · rw [g1] at hp hpx
    unfold pairOK
    rw [g1, g1, g2, g2]
    by_cases hij : i = j
    · subst hij
      by_cases hix : i = x
      · subst hix
        refine ⟨fun hc => ?_, fun hc => hc.1 rfl⟩
        have := after_lt hg hi hc.1; omega
      · rw [if_pos rfl, if_pos rfl, if_neg hix, if_neg hix]
        rw [if_neg hix] at hpx
        refine ⟨fun hc => ?_, fun hc => ?_⟩
        · have := hub x hx hpx (.inr hc.1); omega
        · have := hub x hx hpx (.inl hc.2.1.symm); omega
    · by_cases hix : i = x
      · subst hix
        rw [if_neg hij, if_neg hij, if_pos rfl, if_pos rfl]
        rw [if_neg hij] at hp
        refine ⟨fun hc => ?_, fun hc => ?_⟩
        · have := h.dep j hj hp i hc.1; omega
        · have := hub j hj hp (.inl hc.2.1)
          have := ht j hj; omega
      · rw [if_neg hij, if_neg hij, if_neg hix, if_neg hix]
        rw [if_neg hij] at hp; rw [if_neg hix] at hpx
        exact h.pair j hj hp x hx hpx

/-- a plan whose tasks go together -/
def Rf (ts : List Tk) (M : Nat) (p st on : List Int) : Prop := Rel ts p st on (p.getD 25 0) ∧ Pf ts M st on
theorem Rf.step (hg : AllGood M ts) (hn : ts.length ≤ 10) (hM : M ≤ 4) (h : Rf ts M p st on) {i k : Nat} (hi : i < ts.length) (hk : k < M) (hr : readyQ ts p i = true) (hb : bitI (tg ts i).on (k : Int) = 1) : Rf ts M (withP ts p i k) (st.set i (placeP ts st on i k)) (on.set i (k : Int)) := by
  have hrp := (ready_iff hg h.1 hi).1 hr
  have h1 := h.1.step hg hn hi (k := k) (by omega) hrp
  exact ⟨by rw [h1.len]; exact h1, h.2.step hg hM h.1.l1 h.1.l2 hi hk hrp hb rfl⟩
theorem Rf_zer (hn : ts.length ≤ 10) : Rf ts M zer (List.replicate ts.length (-1)) (List.replicate ts.length (-1)) := by
  have hm : ∀ j, j < ts.length → (List.replicate ts.length (-1 : Int)).getD j 0 = -1 := fun j hj => by simp [hj]
  exact ⟨rel_none (M := 0) hn, fun i hi h => by rw [hm i hi] at h; omega, fun i hi h => by rw [hm i hi] at h; omega, fun i hi h => by rw [hm i hi] at h; omega⟩
theorem Rch.rf (hg : AllGood M ts) (hn : ts.length ≤ 10) (hM : M ≤ 4) (h : Rch ts M p q) : (∃ st on, Rf ts M p st on) → ∃ st on, Rf ts M q st on := by
  induction h with
  | refl => exact id
  | step i k hi hk hr hb _ ih => exact fun ⟨_, _, hp⟩ => ih ⟨_, _, hp.step hg hn hM hi hk hr hb⟩
theorem Rel.full {ln : Int} (h : Rel ts p st on ln) : Full ts p ↔ ∀ i, i < ts.length → 0 ≤ st.getD i 0 := by
  refine ⟨fun hf i hi => ?_, fun ha => ?_⟩
  · have h1 := full_und hf hi
    rw [bitI_test h.done.1, h.bit] at h1
    simp only [hi, true_and, decide_eq_true_eq] at h1
    split at h1
    · assumption
    · omega
  · have h1 : (p.getD 24 0).toNat = 2 ^ ts.length - 1 := by
      refine Nat.eq_of_testBit_eq fun i => ?_
      rw [h.bit, Nat.testBit_two_pow_sub_one]
      by_cases hi : i < ts.length
      · simp only [hi, ha i hi, and_self, decide_true]
      · simp [hi]
    have hc : ((2 : Int) ^ ts.length) = ((2 ^ ts.length : Nat) : Int) := by simp
    have : 0 < 2 ^ ts.length := Nat.pow_pos (by decide)
    have := h.done.1
    unfold Full; omega
theorem lenN_ub {j : Nat} : ∀ {n : Nat}, j < n → st.getD j 0 + (tg ts j).time ≤ lenN ts st n
  | n + 1, h => by
    by_cases hj : j < n
    · have := lenN_ub hj; rw [lenN]; omega
    · obtain rfl : j = n := by omega
      rw [lenN]; omega
theorem lenN_lub {B : Int} (hB : 0 ≤ B) : ∀ {n : Nat}, (∀ j, j < n → st.getD j 0 + (tg ts j).time ≤ B) → lenN ts st n ≤ B
  | 0, _ => hB
  | n + 1, h => by have := lenN_lub hB (n := n) fun j hj => h j (by omega); have := h n (by omega); rw [lenN]; omega
theorem lenN_nonneg : ∀ n, 0 ≤ lenN ts st n
  | 0 => Int.le_refl _
  | n + 1 => by have := lenN_nonneg n; rw [lenN]; omega
/-- a complete plan is a schedule -/
theorem Rf.feas (hg : AllGood M ts) (hn : ts.length ≤ 10) (hM : M ≤ 4) (hp : Rp ts p) (h : Rf ts M p st on) (hf : Full ts p) : Feas ts M st on ∧ p.getD 25 0 = lenP ts st := by
  have ha := h.1.full.1 hf
  have hmay : ∀ i, i < ts.length → ∃ k : Nat, k < M ∧ on.getD i 0 = k := fun i hi => by
    obtain ⟨⟨h1, h2, h3⟩, h4⟩ := h.2.ok i hi (ha i hi)
    exact ⟨(on.getD i 0).toNat, by omega, by omega⟩
  refine ⟨⟨fun i hi => ⟨⟨ha i hi, ?_⟩, h.2.ok i hi (ha i hi)⟩, fun i hi k hk => h.2.pair i hi (ha i hi) k hk (ha k hk)⟩, ?_⟩
  · have := (h.1.sq i hi (ha i hi)).1
    have := (hp.pi.ok.bd i).2
    omega
  · rw [hp.len]
    apply Int.le_antisymm
    · refine mx4_le fun k hk => ?_
      rw [h.1.free k hk]
      exact freeN_lub (lenN_nonneg _) fun j hj _ _ => lenN_ub hj
    · refine lenN_lub (by rw [← hp.len]; exact hp.len0) fun j hj => ?_
      obtain ⟨k, hk, hk2⟩ := hmay j hj
      have h1 := freeN_ub (ts := ts) (ha j hj) hk2 hj
      rw [← h.1.free k (by omega)] at h1
      exact Int.le_trans h1 (mx4_ge (by omega))
end
end Go.Proofs.Ytgacbfckaglhbaa
namespace Go.Proofs.Ytgacbfckaglhbaa

/-- n is the least length of a schedule -/
structure Opt (ts : List Tk) (M : Nat) (n : Int) : Prop where
  ex : ∃ st on : List Int, st.length = ts.length ∧ on.length = ts.length ∧ Feas ts M st on ∧ lenP ts st = n
  lb : ∀ st on : List Int, Feas ts M st on → n ≤ lenP ts st
theorem Opt.uniq {ts : List Tk} {M : Nat} {n n' : Int} (h : Opt ts M n) (h' : Opt ts M n') : n = n' := by
  obtain ⟨s, o, _, _, h1, h2⟩ := h.ex
  obtain ⟨s', o', _, _, h3, h4⟩ := h'.ex
  have := h.lb _ _ h3
  have := h'.lb _ _ h1
  omega

theorem argmin (P : Nat → Prop) [DecidablePred P] (f : Nat → Int) : ∀ n, (∃ j, j < n ∧ P j) → ∃ j, j < n ∧ P j ∧ ∀ i, i < n → P i → f j ≤ f i
  | 0, h => by obtain ⟨j, h, _⟩ := h; omega
  | n + 1, h => by
    by_cases h1 : ∃ j, j < n ∧ P j
    · obtain ⟨j, hj, hp, hm⟩ := argmin P f n h1
      by_cases hn : P n ∧ f n < f j
      · refine ⟨n, by omega, hn.1, fun i hi hpi => ?_⟩
        by_cases hin : i < n
        · have := hm i hin hpi; omega
        · obtain rfl : i = n := by omega
          exact Int.le_refl _
      · refine ⟨j, by omega, hp, fun i hi hpi => ?_⟩
        by_cases hin : i < n
        · exact hm i hin hpi
        · obtain rfl : i = n := by omega
          exact Int.not_lt.1 fun h => hn ⟨hpi, h⟩
    · obtain ⟨j, hj, hp⟩ := h
      obtain rfl : j = n := by
        apply Classical.byContradiction; intro hc
        exact h1 ⟨j, by omega, hp⟩
      refine ⟨j, by omega, hp, fun i hi hpi => ?_⟩
      by_cases hin : i < j
      · exact absurd ⟨i, hin, hpi⟩ h1
      · obtain rfl : i = j := by omega
        exact Int.le_refl _

section
variable {ts : List Tk} {M : Nat} {p q st on sp op : List Int}
/-- a plan that holds back no task of a schedule -/
structure Dm (ts : List Tk) (st on sp op : List Int) : Prop where
  le : ∀ i, i < ts.length → 0 ≤ sp.getD i 0 → sp.getD i 0 ≤ st.getD i 0 ∧ op.getD i 0 = on.getD i 0
  lo : ∀ i, i < ts.length → 0 ≤ sp.getD i 0 → ∀ j, j < ts.length → sp.getD j 0 < 0 → st.getD i 0 ≤ st.getD j 0
theorem dom (hg : AllGood M ts) (hn : ts.length ≤ 10) (hM : M ≤ 4) (hf : Feas ts M st on) : ∀ u p sp op, und p ts.length = u → Rp ts p → Rf ts M p sp op → Dm ts st on sp op → ∃ q sq oq, Rch ts M p q ∧ Full ts q ∧ Rf ts M q sq oq ∧ Dm ts st on sq oq := by
  intro u
  induction u with
  | zero => exact fun p sp op hu hp hr hd => ⟨p, sp, op, .refl p, und_zero hp.pi.done.1 hp.pi.d hu, hr, hd⟩
  | succ u ih =>
    intro p sp op hu hp hr hd
    by_cases hall : ∃ j, j < ts.length ∧ sp.getD j 0 < 0
    · obtain ⟨i, hi, hs, hmin⟩ := argmin (fun j => sp.getD j 0 < 0) (fun j => st.getD j 0) _ hall
      have hl1 := hr.1.l1
      have hl2 := hr.1.l2
      have ht := (hg i hi).t1
      obtain ⟨⟨hst0, _⟩, ⟨ho1, ho2, ho3⟩, ho4⟩ := hf.1 i hi
      obtain ⟨k, hk⟩ := Int.eq_ofNat_of_zero_le ho1
      have hk' : on.getD i 0 = (k : Int) := hk
      have hgo := good_on hg hM i
      have hb : bitI (tg ts i).on (k : Int) = 1 := by
        unfold bitI; rw [Int.toNat_natCast]
        refine (may_bit _ _ hgo.1).2 ?_
        rw [hk', Int.toNat_natCast] at ho3; exact ho3
      have hrd : readyP ts sp i := (ready_nat hg hi).2 ⟨hs, fun a ha => by
        have hai := after_lt hg hi ha
        have := (hf.2 i hi a (by omega)).1
        have hta := (hg a (by omega)).t1
        apply Classical.byContradiction; intro hc
        have := hmin a (by omega) (by omega)
        have : st.getD i 0 < st.getD a 0 + (tg ts a).time := by omega
        exact (hf.2 i hi a (by omega)).1 ⟨ha, this⟩⟩
      have hrq := (ready_iff hg hr.1 hi).2 hrd
      have hkM : k < M := by omega
      have hw := hp.step hg hn hM hi hkM hrq
      have hr' := hr.step hg hn hM hi hkM hrq hb
      have hle : placeP ts sp op i k ≤ st.getD i 0 := placeN_lub hst0 fun j hj h1 h2 => by
        have hdj := hd.le j hj h1
        have hij : i ≠ j := by rintro rfl; omega
        have hpr := hf.2 i hi j hj
        rcases h2 with h2 | h2
        · have := hd.lo j hj h1 i hi hs
          have := Int.not_lt.1 fun h => hpr.2 ⟨hij, by rw [hk', ← hdj.2, h2], this, h⟩
          omega
        · have := Int.not_lt.1 fun h => hpr.1 ⟨h2, h⟩
          omega
      have hp0 : 0 ≤ placeP ts sp op i k := placeN_nonneg _
      have g1 : ∀ j, (sp.set i (placeP ts sp op i k)).getD j 0 = if i = j then placeP ts sp op i k else sp.getD j 0 := fun j => by rw [getD_set]; by_cases h : i = j <;> simp [h]; omega
      have g2 : ∀ j, (op.set i (k : Int)).getD j 0 = if i = j then (k : Int) else op.getD j 0 := fun j => by rw [getD_set]; by_cases h : i = j <;> simp [h]; omega
      have hd' : Dm ts st on (sp.set i (placeP ts sp op i k)) (op.set i (k : Int)) := ⟨fun j hj h1 => by
          rw [g1] at h1 ⊢; rw [g2]
          by_cases hij : i = j
          · subst hij; rw [if_pos rfl, if_pos rfl]; exact ⟨hle, hk'.symm⟩
          · rw [if_neg hij] at h1 ⊢; rw [if_neg hij]; exact hd.le j hj h1, fun j hj h1 x hx h2 => by
          rw [g1] at h1 h2
          have hix : i ≠ x := by rintro rfl; rw [if_pos rfl] at h2; omega
          rw [if_neg hix] at h2
          by_cases hij : i = j
          · subst hij; exact hmin x hx h2
          · rw [if_neg hij] at h1; exact hd.lo j hj h1 x hx h2⟩
      obtain ⟨q, sq, oq, h1, h2⟩ := ih _ _ _ (by omega) hw.1 hr' hd'
      exact ⟨q, sq, oq, .step i k hi hkM hrq hb h1, h2⟩
    · exact ⟨p, sp, op, .refl p, hr.1.full.2 fun i hi => by
        apply Classical.byContradiction; intro hc
        exact hall ⟨i, hi, by omega⟩, hr, hd⟩
/-- what bounds the complete plans bounds the schedules -/
theorem LB.feas (hg : AllGood M ts) (hn : ts.length ≤ 10) (hM : M ≤ 4) {b : Int} (h : LB ts M b zer) (hf : Feas ts M st on) : b ≤ lenP ts st := by
  have hm : ∀ j, j < ts.length → (List.replicate ts.length (-1 : Int)).getD j 0 = -1 := fun j hj => by simp [hj]
  obtain ⟨q, sq, oq, h1, h2, h3, h4⟩ := dom hg hn hM hf _ zer _ _ rfl (Rp_zer hn) (Rf_zer hn) ⟨fun i hi h => by rw [hm i hi] at h; omega, fun i hi h => by rw [hm i hi] at h; omega⟩
  have h5 := h q h1 h2
  have h6 := h3.feas hg hn hM (h1.rp hg hn hM (Rp_zer hn)) h2
  rw [h6.2] at h5
  refine Int.le_trans h5 (lenN_lub (lenN_nonneg _) fun j hj => ?_)
  have := (h4.le j hj (h3.1.full.1 h2 j hj)).1
  have := lenN_ub (ts := ts) (st := st) hj
  omega
/-- a complete plan that none is shorter than is the optimum -/
theorem opt_of (hg : AllGood M ts) (hn : ts.length ≤ 10) (hM : M ≤ 4) (h1 : Rch ts M zer q) (h2 : Full ts q) (h3 : LB ts M (q.getD 25 0) zer) : Opt ts M (q.getD 25 0) := by
  obtain ⟨sq, oq, h4⟩ := h1.rf hg hn hM ⟨_, _, Rf_zer hn⟩
  have h5 := h4.feas hg hn hM (h1.rp hg hn hM (Rp_zer hn)) h2
  exact ⟨⟨sq, oq, h4.1.l1, h4.1.l2, h5.1, h5.2.symm⟩, fun st on hf => LB.feas hg hn hM h3 hf⟩

/-! ## the plan of an order -/
theorem bestQ_may {i : Nat} : ∀ {n : Nat}, 0 ≤ bestQ ts p i n → may (tg ts i).on (bestQ ts p i n)
  | 0, h => by simp [bestQ] at h
  | n + 1, h => by
    rw [bestQ] at h ⊢
    split
    · rename_i hc; exact hc.1
    · rename_i hc; rw [if_neg hc] at h; exact bestQ_may h
theorem lis_rch (hg : AllGood M ts) (hn : ts.length ≤ 10) (hM : M ≤ 4) {o : List Int} : ∀ j, okOrder ts M o j → Rch ts M zer (lisN ts M o j)
  | 0, _ => .refl _
  | j + 1, h => by
    have hj : okOrder ts M o j := fun q hq => h q (by omega)
    have ih := lis_rch hg hn hM j hj
    obtain ⟨h1, h2, h3⟩ := h j (by omega)
    have hr := lis_lst hg hM hn j hj
    have hi : (o.getD j 0).toNat < ts.length := by omega
    have gi := hg _ hi
    have hgo := good_on hg hM (o.getD j 0).toNat
    have hb0 := bestQ_pos (ts := ts) (L := lisN ts M o j) (i := (o.getD j 0).toNat) (n := M) (good_may hM gi.o1 gi.o2)
    have hbb := bestQ_bd (ts := ts) (L := lisN ts M o j) (i := (o.getD j 0).toNat) M
    have hbm := (bestQ_may hb0).2.2
    refine ih.trans (.step _ _ hi ?_ ((ready_iff hg hr hi).2 h3) ?_ (.refl _))
    · omega
    · unfold bitI; rw [Int.toNat_natCast]; exact (may_bit _ _ hgo.1).2 hbm
theorem fill_take {n j : Nat} (hj : j ≤ n) (a : Nat) : (a : Int) ∈ (fillN n n).take j ↔ a < j := by
  have hl := fillN_len (n := n) n
  constructor
  · intro h
    obtain ⟨x, hx, he⟩ := List.mem_iff_getElem.1 h
    have hx' : x < j := by simp at hx; omega
    rw [List.getElem_take] at he
    have := fillN_get (n := n) n x (by omega) (Nat.le_refl _)
    rw [List.getD_eq_getElem?_getD, List.getElem?_eq_getElem (by omega)] at this
    simp only [Option.getD_some] at this
    rw [he, if_pos (by omega)] at this
    omega
  · intro h
    have := fillN_get (n := n) n a (by omega) (Nat.le_refl _)
    rw [List.getD_eq_getElem?_getD, List.getElem?_eq_getElem (by omega), if_pos (by omega)] at this
    simp only [Option.getD_some] at this
    refine List.mem_iff_getElem.2 ⟨a, by simp; omega, ?_⟩
    rw [List.getElem_take, this]
theorem fill_ok (hg : AllGood M ts) : ∀ n, n ≤ ts.length → okOrder ts M (fillN ts.length ts.length) n
  | 0, _ => fun j hj => by omega
  | n + 1, hn => fun j hj => by
    have ih := fill_ok hg n (by omega)
    by_cases hjn : j < n
    · exact ih j hjn
    · obtain rfl : j = n := by omega
      have hl := fillN_len (n := ts.length) ts.length
      have e := fillN_get (n := ts.length) ts.length j (by omega) (Nat.le_refl _)
      rw [if_pos (by omega)] at e
      have hp := lst_placed (M := M) (ts := ts) (o := fillN ts.length ts.length) j (by omega) ih
      unfold okAt
      rw [e]
      refine ⟨by omega, by omega, (ready_nat hg (by omega)).2 ⟨?_, fun k hk => ?_⟩⟩
      · show (lstN ts M _ j).1.getD j 0 < 0
        have := mt (hp j (by omega)).1 (mt (fill_take (n := ts.length) (by omega) j).1 (by omega))
        omega
      · have := after_lt hg (show j < ts.length by omega) hk
        exact (hp k (by omega)).2 ((fill_take (by omega) k).2 this)
theorem lis_full (hg : AllGood M ts) (hn : ts.length ≤ 10) (hM : M ≤ 4) {o : List Int} (hl : o.length = ts.length) (h : okOrder ts M o ts.length) : Full ts (lisN ts M o ts.length) :=
  (lis_lst hg hM hn _ h).full.2 (ok_all hl h)
end
end Go.Proofs.Ytgacbfckaglhbaa
namespace Go.Proofs.Ytgacbfckaglhbaa

section
variable {ts : List Tk} {M : Nat} {p q st on : List Int}
theorem nextP_mem {T : List Int} {i : Nat} : ∀ {j : Nat}, 0 ≤ nextP ts T i j → (i : Int) ∈ (tg ts (nextP ts T i j).toNat).after
  | 0, h => by simp [nextP] at h
  | j + 1, h => by
    rw [nextP] at h ⊢
    split
    · rename_i hc; rw [Int.toNat_natCast]; exact hc.1
    · rename_i hc; rw [if_neg hc] at h; exact nextP_mem h
theorem chS_le (hg : AllGood M ts) (hf : Feas ts M st on) : ∀ d, d ≤ ts.length → (∀ j, ts.length - d ≤ j → j < ts.length → st.getD j 0 + (chS ts d).t.getD j 0 ≤ lenP ts st) ∧ (chS ts d).most ≤ lenP ts st
  | 0, _ => ⟨fun j h1 h2 => by omega, lenN_nonneg _⟩
  | d + 1, hd => by
    obtain ⟨h1, h2⟩ := chS_le hg hf d (by omega)
    have hl := (chS_ok (good_time hg) d).lt
    have hi : ts.length - 1 - d < ts.length := by omega
    have e1 : (chS ts (d + 1)).t = (chS ts d).t.set (ts.length - 1 - d) (if nextP ts (chS ts d).t (ts.length - 1 - d) d < 0 then (tg ts (ts.length - 1 - d)).time else (tg ts (ts.length - 1 - d)).time + (chS ts d).t.getD (nextP ts (chS ts d).t (ts.length - 1 - d) d).toNat 0) := rfl
    have e2 : (chS ts (d + 1)).most = if (chS ts d).most ≤ (if nextP ts (chS ts d).t (ts.length - 1 - d) d < 0 then (tg ts (ts.length - 1 - d)).time else (tg ts (ts.length - 1 - d)).time + (chS ts d).t.getD (nextP ts (chS ts d).t (ts.length - 1 - d) d).toNat 0) then (if nextP ts (chS ts d).t (ts.length - 1 - d) d < 0 then (tg ts (ts.length - 1 - d)).time else (tg ts (ts.length - 1 - d)).time + (chS ts d).t.getD (nextP ts (chS ts d).t (ts.length - 1 - d) d).toNat 0) else (chS ts d).most := rfl
    have hst := (hf.1 _ hi).1.1
    have hv : st.getD (ts.length - 1 - d) 0 + (if nextP ts (chS ts d).t (ts.length - 1 - d) d < 0 then (tg ts (ts.length - 1 - d)).time else (tg ts (ts.length - 1 - d)).time + (chS ts d).t.getD (nextP ts (chS ts d).t (ts.length - 1 - d) d).toNat 0) ≤ lenP ts st := by
      split
      · exact lenN_ub hi
      · rename_i hc
        have hm := nextP_mem (Int.not_lt.1 hc)
        have hb := nextP_bd (ts := ts) (T := (chS ts d).t) (i := ts.length - 1 - d) d
        have h3 := h1 (nextP ts (chS ts d).t (ts.length - 1 - d) d).toNat (by omega) (by omega)
        have h4 := Int.not_lt.1 fun h => (hf.2 (nextP ts (chS ts d).t (ts.length - 1 - d) d).toNat (by omega) _ hi).1 ⟨hm, h⟩
        omega
    generalize (if nextP ts (chS ts d).t (ts.length - 1 - d) d < 0 then (tg ts (ts.length - 1 - d)).time else (tg ts (ts.length - 1 - d)).time + (chS ts d).t.getD (nextP ts (chS ts d).t (ts.length - 1 - d) d).toNat 0) = x at *
    refine ⟨fun j h3 h4 => ?_, ?_⟩
    · rw [e1, getD_set]
      split
      · rename_i hc; rw [← hc.1]; exact hv
      · rename_i hc; exact h1 j (by omega) h4
    · rw [e2]; split <;> omega
theorem chain_feas (hg : AllGood M ts) (hf : Feas ts M st on) : (chainP ts).2 ≤ lenP ts st := (chS_le hg hf _ (Nat.le_refl _)).2
theorem setsF_bd {B : Int} : ∀ {c n : Nat} {s : Bool × Int × Int}, (∀ x, n ≤ x → x < n + c → loadP ts M zer x ≤ B) → s.2.2 ≤ B → (setsF (bStep ts M) c n s).2.2 ≤ B
  | 0, n, s, _, h => h
  | c + 1, n, s, hl, h => by
    rw [setsF]
    have h1 : (bStep ts M s n).1.2.2 ≤ B := by
      unfold bStep; split
      · exact hl n (by omega) (by omega)
      · exact h
    split
    · exact setsF_bd (fun x h2 h3 => hl x (by omega) (by omega)) h1
    · exact h1
theorem bound_feas (hg : AllGood M ts) (hn : ts.length ≤ 10) (hM : M ≤ 4) (hf : Feas ts M st on) : (boundP ts M).2.2 ≤ lenP ts st := by
  refine setsF_bd (fun x h1 h2 => ?_) (chain_feas hg hf)
  have : 2 ^ M ≤ 16 := by have := Nat.pow_le_pow_right (show 0 < 2 by decide) hM; omega
  exact LB.feas hg hn hM (load_LB hg hn hM h1 (by omega) (Rp_zer hn)) hf
theorem bound_LB (hg : AllGood M ts) (hn : ts.length ≤ 10) (hM : M ≤ 4) : LB ts M (boundP ts M).2.2 zer := fun q h1 h2 => by
  obtain ⟨sq, oq, h4⟩ := h1.rf hg hn hM ⟨_, _, Rf_zer hn⟩
  have h5 := h4.feas hg hn hM (h1.rp hg hn hM (Rp_zer hn)) h2
  rw [h5.2]; exact bound_feas hg hn hM h5.1

/-- Best: a complete plan, and none is shorter -/
theorem best_opt (hg : AllGood M ts) (hn : ts.length ≤ 10) (hM : M ≤ 4) : Rch ts M zer (bestS ts M).1 ∧ Full ts (bestS ts M).1 ∧ Opt ts M ((bestS ts M).1.getD 25 0) := by
  have hl := fillN_len (n := ts.length) ts.length
  have hok := fill_ok (M := M) hg ts.length (Nat.le_refl _)
  obtain ⟨h1, h2⟩ := run_find hg hn hM (ts.length + 1) zer (lisN ts M (fillN ts.length ts.length) ts.length, []) (Rp_zer hn) (by rw [und_zer]; omega) (bound_LB hg hn hM) (fun q _ h => by cases h)
  have h3 : Rch ts M zer (bestS ts M).1 ∧ Full ts (bestS ts M).1 := by
    rcases h1.best with h3 | h3
    · unfold bestS; rw [h3]
      exact ⟨lis_rch hg hn hM _ hok, lis_full hg hn hM hl hok⟩
    · exact h3
  exact ⟨h3.1, h3.2, opt_of hg hn hM h3.1 h3.2 h2⟩
/-- the lists of Best -/
theorem best_lists (hg : AllGood M ts) (hn : ts.length ≤ 10) (hM : M ≤ 4) : ∃ st on n, bestP ts M = (st, on, n, 0) ∧ st.length = ts.length ∧ on.length = ts.length ∧ Feas ts M st on ∧ lenP ts st = n ∧ Opt ts M n := by
  obtain ⟨h1, h2, h3⟩ := best_opt hg hn hM
  obtain ⟨sq, oq, h4⟩ := h1.rf hg hn hM ⟨_, _, Rf_zer hn⟩
  have h5 := h4.feas hg hn hM (h1.rp hg hn hM (Rp_zer hn)) h2
  have h6 := h4.1.lists hn (h4.1.full.1 h2)
  refine ⟨sq, oq, _, ?_, h4.1.l1, h4.1.l2, h5.1, h5.2.symm, h3⟩
  unfold bestP
  rw [show (M : Int).toNat = M from rfl, h6.1, h6.2]
end
end Go.Proofs.Ytgacbfckaglhbaa
namespace Go.Proofs.Ytgacbfckaglhbaa

section
variable {ts ts' : List Tk} {M : Nat}
/-- the tasks of ts are no harder than the first ones of ts' -/
structure Les (ts ts' : List Tk) : Prop where
  n : ts.length ≤ ts'.length
  t : ∀ i, i < ts.length → (tg ts i).time ≤ (tg ts' i).time
  a : ∀ i, i < ts.length → ∀ k : Int, k ∈ (tg ts i).after → k ∈ (tg ts' i).after
  o : ∀ i, i < ts.length → ∀ k : Int, may (tg ts' i).on k → may (tg ts i).on k
theorem Les.feas (h : Les ts ts') {st on : List Int} (hf : Feas ts' M st on) : Feas ts M st on ∧ lenP ts st ≤ lenP ts' st := by
  have hn := h.n
  refine ⟨⟨fun i hi => ?_, fun i hi k hk => ⟨fun hc => ?_, fun hc => ?_⟩⟩, ?_⟩
  · have h1 := hf.1 i (by omega)
    exact ⟨h1.1, h.o i hi _ h1.2.1, h1.2.2⟩
  · have := h.t k hk
    exact (hf.2 i (by omega) k (by omega)).1 ⟨h.a i hi _ hc.1, by omega⟩
  · have := h.t k hk
    exact (hf.2 i (by omega) k (by omega)).2 ⟨hc.1, hc.2.1, hc.2.2.1, by omega⟩
  · refine lenN_lub (lenN_nonneg _) fun j hj => ?_
    have h1 := lenN_ub (ts := ts') (st := st) (show j < ts'.length by omega)
    have := h.t j hj
    omega
theorem Les.opt (h : Les ts ts') {n n' : Int} (h1 : Opt ts M n) (h2 : Opt ts' M n') : n ≤ n' := by
  obtain ⟨st, on, _, _, hf, hl⟩ := h2.ex
  have h3 := h.feas hf
  have := h1.lb st on h3.1
  omega

/-- the tasks with doubled times -/
structure Dbl (ts ts' : List Tk) : Prop where
  n : ts'.length = ts.length
  t : ∀ i, i < ts.length → (tg ts' i).time = 2 * (tg ts i).time
  a : ∀ i, i < ts.length → (tg ts' i).after = (tg ts i).after
  o : ∀ i, i < ts.length → (tg ts' i).on = (tg ts i).on
theorem getD_mapI {l : List Int} {f : Int → Int} (hf : f 0 = 0) (j : Nat) : (l.map f).getD j 0 = f (l.getD j 0) := by
  simp only [List.getD_eq_getElem?_getD, List.getElem?_map]
  cases l[j]? <;> simp [hf]
theorem Dbl.up (h : Dbl ts ts') {st on : List Int} (hf : Feas ts M st on) (hb : ∀ i, i < ts.length → st.getD i 0 ≤ 524288) : Feas ts' M (st.map (2 * ·)) on ∧ lenP ts' (st.map (2 * ·)) ≤ 2 * lenP ts st := by
  have hn := h.n
  have g := getD_mapI (l := st) (f := (2 * ·)) rfl
  refine ⟨⟨fun i hi => ?_, fun i hi k hk => ?_⟩, ?_⟩
  · have h1 := hf.1 i (by omega)
    have := hb i (by omega)
    unfold okTask
    rw [g, h.o i (by omega)]
    exact ⟨⟨by have := h1.1; omega, by omega⟩, h1.2⟩
  · have h1 := hf.2 i (by omega) k (by omega)
    unfold pairOK at h1 ⊢
    rw [g, g, h.t k (by omega), h.a i (by omega)]
    exact ⟨fun hc => h1.1 ⟨hc.1, by have := hc.2; omega⟩, fun hc => h1.2 ⟨hc.1, hc.2.1, by have := hc.2.2; omega⟩⟩
  · refine lenN_lub (by have := lenN_nonneg (ts := ts) (st := st) ts.length; show 0 ≤ 2 * lenN ts st ts.length; omega) fun j hj => ?_
    have h1 := lenN_ub (ts := ts) (st := st) (show j < ts.length by omega)
    rw [g, h.t j (by omega)]
    show 2 * st.getD j 0 + _ ≤ 2 * lenN ts st ts.length
    omega
theorem Dbl.down (hg : AllGood M ts) (h : Dbl ts ts') {st on : List Int} (hf : Feas ts' M st on) : Feas ts M (st.map (· / 2)) on ∧ 2 * lenP ts (st.map (· / 2)) ≤ lenP ts' st := by
  have hn := h.n
  have g := getD_mapI (l := st) (f := (· / 2)) rfl
  refine ⟨⟨fun i hi => ?_, fun i hi k hk => ?_⟩, ?_⟩
  · have h1 := hf.1 i (by omega)
    unfold okTask at h1 ⊢
    rw [h.o i (by omega)] at h1
    rw [g]
    exact ⟨by have := h1.1; omega, h1.2⟩
  · have h1 := hf.2 i (by omega) k (by omega)
    have h2 := hf.2 k (by omega) i (by omega)
    have ti := (hg i hi).t1
    have tk := (hg k hk).t1
    unfold pairOK at h1 h2 ⊢
    rw [g, g]
    rw [h.t k hk, h.a i hi] at h1
    rw [h.t i hi, h.a k hk] at h2
    refine ⟨fun hc => h1.1 ⟨hc.1, by have := hc.2; omega⟩, fun hc => ?_⟩
    by_cases hle : st.getD k 0 ≤ st.getD i 0
    · exact h1.2 ⟨hc.1, hc.2.1, hle, by have := hc.2.2; omega⟩
    · exact h2.2 ⟨Ne.symm hc.1, hc.2.1.symm, by omega, by have := hc.2.2; omega⟩
  · have : lenP ts (st.map (· / 2)) ≤ lenP ts' st / 2 := by
      refine lenN_lub (by have := lenN_nonneg (ts := ts') (st := st) ts'.length; show 0 ≤ lenN ts' st ts'.length / 2; omega) fun j hj => ?_
      have h1 := lenN_ub (ts := ts') (st := st) (show j < ts'.length by omega)
      rw [h.t j hj] at h1
      rw [g]
      show st.getD j 0 / 2 + _ ≤ lenN ts' st ts'.length / 2
      omega
    omega
theorem Dbl.opt (hg : AllGood M ts) (hn : ts.length ≤ 10) (hM : M ≤ 4) (h : Dbl ts ts') {n n' : Int} (h1 : Opt ts M n) (h2 : Opt ts' M n') : n' = 2 * n := by
  apply Int.le_antisymm
  · obtain ⟨b1, b2, b3⟩ := best_opt hg hn hM
    have he := b3.uniq h1
    have hp := b1.rp hg hn hM (Rp_zer hn)
    obtain ⟨B, hB1, hB2, hB3⟩ := hp.pi.b
    obtain ⟨sq, oq, h4⟩ := b1.rf hg hn hM ⟨_, _, Rf_zer hn⟩
    have h5 := h4.feas hg hn hM hp b2
    have hbd := hB1.bd
    have h6 := h.up h5.1 fun i hi => by
      have := lenN_ub (ts := ts) (st := sq) hi
      have ht := (hg i hi).t1
      have : lenN ts sq ts.length ≤ B := by show lenP ts sq ≤ B; rw [← h5.2]; exact (hbd 25 (by decide)).2
      omega
    have := h2.lb _ _ h6.1
    rw [← he, h5.2]
    omega
  · obtain ⟨st, on, _, _, hf, hl⟩ := h2.ex
    have h3 := h.down hg hf
    have := h1.lb _ _ h3.1
    omega
end
end Go.Proofs.Ytgacbfckaglhbaa
namespace Go.Proofs.Ytgacbfckaglhbaa
structure Gen (ts : List Tk) (M : Nat) (most : Nat) : Prop where
  g : AllGood M ts
  M1 : 1 ≤ M
  M3 : M ≤ 3
  n : ts.length ≤ most
  i : TI64 ts
  a : ∀ i, (tg ts i).after.length ≤ 100
  t : ∀ i, i < ts.length → (tg ts i).time ≤ 9
theorem gen_tasks (l : List Int) (most : Nat) (hm : most ≤ 10) : ∃ M : Nat, machP l = M ∧ Gen (tasksP l most) M most := by
  have hg : AllGood (machP l).toNat (tasksP l most) := tasks_good l (cntP l most)
  have hmb := mach_bd l
  have htl : (tasksP l most).length ≤ most := by rw [tasksN_len, cntP]; omega
  refine ⟨(machP l).toNat, by omega, hg, by omega, by omega, htl, good_i64 hg (by omega) (by omega), fun i => ?_, fun i hi => ?_⟩
  rotate_left
  · rw [tasksN_get (by rw [tasksN_len] at hi; exact hi)]
    have := atP_bd (l := l) (i := 3 * (i : Int) + 1) (m := 9) (by decide)
    show 1 + atP l (3 * (i : Int) + 1) 9 ≤ 9
    omega
  by_cases hi : i < cntP l most
  · rw [tasksN_get hi]
    have := aft_len (y := tyP l i) i
    have : cntP l most ≤ most := by rw [cntP]; omega
    show (aftP (tyP l i) i).length ≤ 100
    omega
  · have : tg (tasksP l most) i = tk0 := by simp [tg, List.getD_eq_getElem?_getD, tasksN_len, List.getElem?_eq_none, hi]
    rw [this]; simp [tk0]
end Go.Proofs.Ytgacbfckaglhbaa
namespace Go.Proofs.Ytgacbfckaglhbaa
open W Go.RowKit
/-- the first k tasks with doubled times -/
def dblN (ts : List Tk) : Nat → List Tk
  | 0 => []
  | k + 1 => dblN ts k ++ [{ tg ts k with time := 2 * (tg ts k).time }]
theorem dblN_len {ts : List Tk} : ∀ k, (dblN ts k).length = k
  | 0 => rfl
  | k + 1 => by simp [dblN, dblN_len k]
theorem dblN_get {ts : List Tk} {i : Nat} : ∀ {k : Nat}, i < k → tg (dblN ts k) i = { tg ts i with time := 2 * (tg ts i).time }
  | k + 1, h => by
    by_cases hk : i < k
    · have ih := dblN_get (ts := ts) hk
      rw [← ih]
      simp [dblN, tg, List.getD_eq_getElem?_getD, List.getElem?_append_left (show i < (dblN ts k).length by rw [dblN_len]; exact hk)]
    · obtain rfl : i = k := by omega
      simp [dblN, tg, List.getD_eq_getElem?_getD, List.getElem?_append_right, dblN_len]
theorem dbl_dbl (ts : List Tk) : Dbl ts (dblN ts ts.length) := ⟨dblN_len _, fun i hi => by rw [dblN_get hi], fun i hi => by rw [dblN_get hi], fun i hi => by rw [dblN_get hi]⟩
theorem dbl_good {M : Nat} {ts : List Tk} (hg : AllGood M ts) (ht : ∀ i, i < ts.length → (tg ts i).time ≤ 9) : AllGood M (dblN ts ts.length) := fun i hi => by
  rw [dblN_len] at hi
  have h := hg i hi
  have := ht i hi
  have := h.t1
  rw [dblN_get hi]
  exact ⟨by show 1 ≤ 2 * (tg ts i).time; omega, by show 2 * (tg ts i).time ≤ 20; omega, h.o1, h.o2, h.a⟩
def andJ (i j : Int) : Int := IntKind.i64.wrap (BitVec.ofInt 64 i &&& BitVec.ofInt 64 j).toNat
theorem YO.andI {P : Program} {e : Env} {bx : List Ow} {F : List Fct} {ty t t' : TypeId} {x y : Operand} {i j : Int} (hx : ev e x = some (.int .i64 i)) (hy : ev e y = some (.int .i64 j)) : YO P (.binOp .and t x y t') ty e bx F (.int .i64 (andJ i j)) :=
  YO.bits hx hy fun w => by
    simp only [binOp, Op.intBits]
    simp [andJ]
    rfl
theorem andI_bd {i j : Int} (h0 : 0 ≤ i) (h1 : i < 16) : 0 ≤ andJ i j ∧ andJ i j ≤ i ∧ ∀ k : Int, may (andJ i j) k → may i k := by
  have e : (BitVec.ofInt 64 i &&& BitVec.ofInt 64 j).toNat = i.toNat &&& (BitVec.ofInt 64 j).toNat := by rw [BitVec.toNat_and, bv_toNat h0 (by omega)]
  have hle : i.toNat &&& (BitVec.ofInt 64 j).toNat ≤ i.toNat := Nat.and_le_left
  have e2 : andJ i j = ((i.toNat &&& (BitVec.ofInt 64 j).toNat : Nat) : Int) := by
    unfold andJ; rw [e, IntKind.wrap_i64]; omega
  refine ⟨by omega, by omega, fun k hk => ?_⟩
  rw [e2] at hk
  unfold may at hk ⊢
  refine ⟨hk.1, hk.2.1, ?_⟩
  have := hk.2.2
  rw [Int.toNat_natCast, Nat.testBit_and] at this
  simp only [Bool.and_eq_true] at this
  exact this.1
theorem les_set {ts : List Tk} {A : Nat} {t : Tk} (h1 : (tg ts A).time ≤ t.time) (h2 : ∀ k : Int, k ∈ (tg ts A).after → k ∈ t.after) (h3 : ∀ k : Int, may t.on k → may (tg ts A).on k) : Les ts (ts.set A t) := ⟨by simp, fun i hi => by
    rw [tg_set]; split
    · rename_i hc; rw [← hc.1]; exact h1
    · exact Int.le_refl _, fun i hi k hk => by
    rw [tg_set]; split
    · rename_i hc; rw [← hc.1] at hk; exact h2 k hk
    · exact hk, fun i hi k hk => by
    rw [tg_set] at hk; split at hk
    · rename_i hc; rw [← hc.1]; exact h3 k hk
    · exact hk⟩
theorem good_set {M : Nat} {ts : List Tk} {A : Nat} {t : Tk} (hg : AllGood M ts) (h : Good M A t) : AllGood M (ts.set A t) := fun i hi => by
  rw [tg_set]; split
  · rename_i hc; rw [← hc.1]; exact h
  · exact hg i (by simpa using hi)
theorem tg_snoc {ts : List Tk} {t : Tk} {i : Nat} (hi : i < ts.length) : tg (ts ++ [t]) i = tg ts i := by simp [tg, List.getD_eq_getElem?_getD, List.getElem?_append_left hi]
theorem les_snoc {ts : List Tk} {t : Tk} : Les ts (ts ++ [t]) := ⟨by simp, fun i hi => by rw [tg_snoc hi]; exact Int.le_refl _, fun i hi k hk => by rw [tg_snoc hi]; exact hk, fun i hi k hk => by rw [tg_snoc hi] at hk; exact hk⟩
theorem good_snoc {M : Nat} {ts : List Tk} {t : Tk} (hg : AllGood M ts) (h : Good M ts.length t) : AllGood M (ts ++ [t]) := fun i hi => by
  by_cases hl : i < ts.length
  · rw [tg_snoc hl]; exact hg i hl
  · have hi' : i = ts.length := by simp at hi; omega
    subst hi'
    have : tg (ts ++ [t]) ts.length = t := by simp [tg, List.getD_eq_getElem?_getD]
    rw [this]; exact h
namespace Mor
attribute [local irreducible] WC WL WD YO LO LoopEnd W.Fin Scalar SliceT FieldAt Row ArrT AllocT KnS Has W.One SrcE IntT
theorem goB {G G' : Prop} (h : G') (s : Bx G' → G := by
  intro h
  first
    | (apply WL.k_len; (apply YO.len; exact T.s23; exact rfl; (apply KnS.oT; (repeat (first | exact List.Mem.head _ | apply List.Mem.tail)); omega)); exact rfl; exact rfl)
    | (apply WL.k_indexAddr; (apply YO.ix; exact T.s23; exact rfl; exact rfl; (apply KnS.oT; (repeat (first | exact List.Mem.head _ | apply List.Mem.tail)); omega); omega); exact rfl; exact rfl)
    | (apply WD.k_indexAddr; exact rfl; (apply YO.ix; exact T.s23; exact rfl; exact rfl; (apply KnS.oT; (repeat (first | exact List.Mem.head _ | apply List.Mem.tail)); omega); omega); exact rfl; exact rfl)
    | (apply WL.kl_store; rotate_left; exact rfl; (apply LO.storeO1; exact rfl; exact rfl; (first | exact T.z3 | exact T.z4 | exact T.z5 | exact T.z9 | exact T.z22 | exact T.z23 | exact T.z28 | exact T.z39 | exact T.z44 | exact T.z46 | exact T.z51 | exact T.z60 | exact T.z66 | exact T.z72 | exact T.z84 | exact T.z90 | exact T.z91 | exact T.z106 | exact T.z108 | exact T.z110); (first | exact One.lit rfl rfl | (apply One.sl; (first | (focus (apply KnS.f; (focus (apply Has.mem; (repeat (first | exact List.Mem.head _ | apply List.Mem.tail)); done)); done)) | (focus (apply KnS.oI; (repeat (first | exact List.Mem.head _ | apply List.Mem.tail)); done)) | (focus (apply KnS.o1; (repeat (first | exact List.Mem.head _ | apply List.Mem.tail)); done)) | (focus (apply KnS.f; apply hasA; (focus (apply Has.mem; (repeat (first | exact List.Mem.head _ | apply List.Mem.tail)); done)); omega; done))))); (repeat (first | exact Sel.head | apply Sel.tail)); omega; exact rfl))
    | (apply WL.k_and; (apply YO.andI; exact rfl; exact rfl); exact rfl; exact rfl)
    | (apply WL.k_mul; (apply YO.mul; exact rfl; exact rfl; omega; omega); exact rfl; exact rfl)
    | (apply WD.k_mul; exact rfl; (apply YO.mul; exact rfl; exact rfl; omega; omega); exact rfl; exact rfl)
    | (apply WL.k_build; (first | (apply YO.build48; exact rfl; exact rfl) | (apply YO.build48a; exact rfl; exact rfl; exact rfl; (first | (focus (apply KnS.f; (focus (apply Has.mem; (repeat (first | exact List.Mem.head _ | apply List.Mem.tail)); done)); done)) | (focus (apply KnS.oI; (repeat (first | exact List.Mem.head _ | apply List.Mem.tail)); done)) | (focus (apply KnS.o1; (repeat (first | exact List.Mem.head _ | apply List.Mem.tail)); done)) | (focus (apply KnS.f; apply hasA; (focus (apply Has.mem; (repeat (first | exact List.Mem.head _ | apply List.Mem.tail)); done)); omega; done))))); exact rfl; exact rfl)
    | (apply WD.k_build; exact rfl; (first | (apply YO.build48; exact rfl; exact rfl) | (apply YO.build48a; exact rfl; exact rfl; exact rfl; (first | (focus (apply KnS.f; (focus (apply Has.mem; (repeat (first | exact List.Mem.head _ | apply List.Mem.tail)); done)); done)) | (focus (apply KnS.oI; (repeat (first | exact List.Mem.head _ | apply List.Mem.tail)); done)) | (focus (apply KnS.o1; (repeat (first | exact List.Mem.head _ | apply List.Mem.tail)); done)) | (focus (apply KnS.f; apply hasA; (focus (apply Has.mem; (repeat (first | exact List.Mem.head _ | apply List.Mem.tail)); done)); omega; done))))); exact rfl; exact rfl)
  exact Bx.h h) : G := s ⟨h⟩
set_option maxHeartbeats 4000000 in
set_option maxRecDepth 8000 in
theorem lmore_c (v0 : Value) (l : List Int) (a byv how : Int) (h0l : ∀ x ∈ l, I64 x) (ha : I64 a) (hb : I64 byv) (hh : I64 how) :
    FnB Try.prog 5 [v0, .int .i64 a, .int .i64 byv, .int .i64 how] [] [sI v0 l] (IsV (.bool true)) := by
  refine fn_of [(0, v0), (1, .int .i64 a), (2, .int .i64 byv), (3, .int .i64 how)] 191 Try.func5 rfl Try.ntmps5 (by kernel_rfl) rfl (by repeat (first | exact Sub.nil _ | refine Sub.cons rfl ?_)) fun h0 => ?_
  repeat' (first | refine go ?_ | refine goX ?_ | refine goB ?_ | (refine goG ?_; intro g) | (refine goV ?_; intro v) | refine goD ?_ | refine goXD ?_ | (refine goDG ?_; intro g) | (refine goDV ?_; intro v) | refine goYL ?_ | (apply WC.draw (id := 9) [0, 1, 2, 3, 4, 5, 6, 7, 8, 9, 10, 11, 12, 13, 14, 15, 16, 17] (.held 0 (.held 1 (.held 2 (.held 3 (.held 4 (.held 5 (.held 6 (.held 7 (.held 8 (.held 9 (.held 10 (.held 11 (.held 12 (.held 13 (.held 14 (.held 15 (.held 16 (.held 17 (.loud 18 (.loud 19 (.free 20 (.done)))))))))))))))))))))) mixed (by kernel_rfl)) | (apply WC.draw (id := 15) [0, 1, 2, 3, 4, 5, 6, 7, 9, 10, 11] (.held 0 (.held 1 (.held 2 (.held 3 (.held 4 (.held 5 (.held 6 (.held 7 (.loud 8 (.held 9 (.held 10 (.held 11 (.loud 12 (.done)))))))))))))) mixed (by kernel_rfl)))
  refine WL.callG [] _ (.refl _) (tasks_c v0 l 6 (by decide) h0l) ?_
  rintro u0 _ _ ⟨avs0, rfl, rfl⟩
  simp only [List.nil_append, List.cons_append]
  obtain ⟨M, hM, hgen⟩ := gen_tasks l 6 (by decide)
  generalize hts : tasksP l 6 = ts at *
  have htl := hgen.n
  have hg := hgen.g
  have hl10 : ts.length ≤ 10 := by omega
  have hM1 := hgen.M1
  have hM3 := hgen.M3
  have hM4 : M ≤ 4 := by omega
  have hv := validE_ok hl10 hM1 hM4 hg
  repeat' (first | refine go ?_ | refine goX ?_ | refine goB ?_ | (refine goG ?_; intro g) | (refine goV ?_; intro v) | refine goD ?_ | refine goXD ?_ | (refine goDG ?_; intro g) | (refine goDV ?_; intro v) | refine goYL ?_ | (apply WC.draw (id := 9) [0, 1, 2, 3, 4, 5, 6, 7, 8, 9, 10, 11, 12, 13, 14, 15, 16, 17] (.held 0 (.held 1 (.held 2 (.held 3 (.held 4 (.held 5 (.held 6 (.held 7 (.held 8 (.held 9 (.held 10 (.held 11 (.held 12 (.held 13 (.held 14 (.held 15 (.held 16 (.held 17 (.loud 18 (.loud 19 (.free 20 (.done)))))))))))))))))))))) mixed (by kernel_rfl)) | (apply WC.draw (id := 15) [0, 1, 2, 3, 4, 5, 6, 7, 9, 10, 11] (.held 0 (.held 1 (.held 2 (.held 3 (.held 4 (.held 5 (.held 6 (.held 7 (.loud 8 (.held 9 (.held 10 (.held 11 (.loud 12 (.done)))))))))))))) mixed (by kernel_rfl)))
  first | refine WL.callV (machines_c v0 l h0l) ?_ | refine WD.callV (machines_c v0 l h0l) ?_
  rw [show 1 + atP l 0 3 = machP l from rfl, hM]
  obtain ⟨st, os, nn, hbst, hs1, hs2, hf, hlen, hopt⟩ := best_lists hg hl10 hM4
  have hbc := best_c u0 avs0 ts M hgen.i
  rw [if_pos hv, hbst] at hbc
  repeat' (first | refine go ?_ | refine goX ?_ | refine goB ?_ | (refine goG ?_; intro g) | (refine goV ?_; intro v) | refine goD ?_ | refine goXD ?_ | (refine goDG ?_; intro g) | (refine goDV ?_; intro v) | refine goYL ?_ | (apply WC.draw (id := 9) [0, 1, 2, 3, 4, 5, 6, 7, 8, 9, 10, 11, 12, 13, 14, 15, 16, 17] (.held 0 (.held 1 (.held 2 (.held 3 (.held 4 (.held 5 (.held 6 (.held 7 (.held 8 (.held 9 (.held 10 (.held 11 (.held 12 (.held 13 (.held 14 (.held 15 (.held 16 (.held 17 (.loud 18 (.loud 19 (.free 20 (.done)))))))))))))))))))))) mixed (by kernel_rfl)) | (apply WC.draw (id := 15) [0, 1, 2, 3, 4, 5, 6, 7, 9, 10, 11] (.held 0 (.held 1 (.held 2 (.held 3 (.held 4 (.held 5 (.held 6 (.held 7 (.loud 8 (.held 9 (.held 10 (.held 11 (.loud 12 (.done)))))))))))))) mixed (by kernel_rfl)))
  first | refine WL.callP (hbc) ?_ | refine WD.callP (hbc) ?_
  rintro _ _ _ ⟨a1, b1, rfl, rfl, rfl⟩
  simp only [List.cons_append, List.nil_append]
  refine WL.freezeI (el := 3) (v := a1) (l := st) (by repeat (first | exact Sel.head | apply Sel.tail)) ?_
  refine WL.freezeI (el := 3) (v := b1) (l := os) (by repeat (first | exact Sel.head | apply Sel.tail)) ?_
  obtain ⟨avs, hav⟩ : ∃ avs, avs = norm ts avs0 := ⟨_, rfl⟩
  have hal : avs.length = ts.length := by rw [hav, norm_len]
  have hcl := cellsT_len hal
  refine WL.fact (sA avs ts) (by rw [hav]; exact sA_norm (Has.mem (by (repeat (first | exact List.Mem.head _ | apply List.Mem.tail)); done))) ?_
  repeat' (first | refine go ?_ | refine goX ?_ | refine goB ?_ | (refine goG ?_; intro g) | (refine goV ?_; intro v) | refine goD ?_ | refine goXD ?_ | (refine goDG ?_; intro g) | (refine goDV ?_; intro v) | refine goYL ?_ | (apply WC.draw (id := 9) [0, 1, 2, 3, 4, 5, 6, 7, 8, 9, 10, 11, 12, 13, 14, 15, 16, 17] (.held 0 (.held 1 (.held 2 (.held 3 (.held 4 (.held 5 (.held 6 (.held 7 (.held 8 (.held 9 (.held 10 (.held 11 (.held 12 (.held 13 (.held 14 (.held 15 (.held 16 (.held 17 (.loud 18 (.loud 19 (.free 20 (.done)))))))))))))))))))))) mixed (by kernel_rfl)) | (apply WC.draw (id := 15) [0, 1, 2, 3, 4, 5, 6, 7, 9, 10, 11] (.held 0 (.held 1 (.held 2 (.held 3 (.held 4 (.held 5 (.held 6 (.held 7 (.loud 8 (.held 9 (.held 10 (.held 11 (.loud 12 (.done)))))))))))))) mixed (by kernel_rfl)))
  (apply WL.l; exact rfl; exact rfl; apply LO.bs0T; intro w0)
  repeat' (first | refine go ?_ | refine goX ?_ | refine goB ?_ | (refine goG ?_; intro g) | (refine goV ?_; intro v) | refine goD ?_ | refine goXD ?_ | (refine goDG ?_; intro g) | (refine goDV ?_; intro v) | refine goYL ?_ | (apply WC.draw (id := 9) [0, 1, 2, 3, 4, 5, 6, 7, 8, 9, 10, 11, 12, 13, 14, 15, 16, 17] (.held 0 (.held 1 (.held 2 (.held 3 (.held 4 (.held 5 (.held 6 (.held 7 (.held 8 (.held 9 (.held 10 (.held 11 (.held 12 (.held 13 (.held 14 (.held 15 (.held 16 (.held 17 (.loud 18 (.loud 19 (.free 20 (.done)))))))))))))))))))))) mixed (by kernel_rfl)) | (apply WC.draw (id := 15) [0, 1, 2, 3, 4, 5, 6, 7, 9, 10, 11] (.held 0 (.held 1 (.held 2 (.held 3 (.held 4 (.held 5 (.held 6 (.held 7 (.loud 8 (.held 9 (.held 10 (.held 11 (.loud 12 (.done)))))))))))))) mixed (by kernel_rfl)))
  (apply WL.l; exact rfl; exact rfl; apply LO.appTs (avs := avs0) (ts := ts); exact rfl; exact rfl; exact (Has.mem (by (repeat (first | exact List.Mem.head _ | apply List.Mem.tail)); done)); exact (Has.mem (by (repeat (first | exact List.Mem.head _ | apply List.Mem.tail)); done)); (intro v; (repeat (first | exact Sel.head | apply Sel.tail))); omega; intro w)
  rw [← hav]
  repeat' (first | refine go ?_ | refine goX ?_ | refine goB ?_ | (refine goG ?_; intro g) | (refine goV ?_; intro v) | refine goD ?_ | refine goXD ?_ | (refine goDG ?_; intro g) | (refine goDV ?_; intro v) | refine goYL ?_ | (apply WC.draw (id := 9) [0, 1, 2, 3, 4, 5, 6, 7, 8, 9, 10, 11, 12, 13, 14, 15, 16, 17] (.held 0 (.held 1 (.held 2 (.held 3 (.held 4 (.held 5 (.held 6 (.held 7 (.held 8 (.held 9 (.held 10 (.held 11 (.held 12 (.held 13 (.held 14 (.held 15 (.held 16 (.held 17 (.loud 18 (.loud 19 (.free 20 (.done)))))))))))))))))))))) mixed (by kernel_rfl)) | (apply WC.draw (id := 15) [0, 1, 2, 3, 4, 5, 6, 7, 9, 10, 11] (.held 0 (.held 1 (.held 2 (.held 3 (.held 4 (.held 5 (.held 6 (.held 7 (.loud 8 (.held 9 (.held 10 (.held 11 (.loud 12 (.done)))))))))))))) mixed (by kernel_rfl)))
  refine WC.addNil 48 3 ?_
  refine WC.fact (sA [] []) sA_nil ?_
  refine WC.lp (σ := Nat × Value × List Value) (fun s => [(17, .int .i64 (s.1 : Int)), (16, s.2.1), (15, w), (9, u0), (10, .int .i64 M), (13, .int .i64 nn), (14, .int .i64 0), (1, .int .i64 a), (2, .int .i64 byv), (3, .int .i64 how)]) (fun s => [Ow.slice s.2.1 48 3 (cellsT (dblN ts s.1) s.2.2), Ow.slice w 48 3 (cellsT ts avs)]) (fun s => [ge h0, sT u0 avs0 ts, sA avs0 ts, sA avs ts, sA s.2.2 (dblN ts s.1)]) (fun s => s.1 ≤ ts.length ∧ s.2.2.length = s.1) (fun s => ts.length - s.1) (0, .slice none 0 0, []) ⟨by simp, rfl⟩ ?_
  rintro ⟨i, ov, avd⟩ ⟨hi, hdl⟩
  simp only at hi hdl ⊢
  have hdn := dblN_len (ts := ts) i
  have hcl2 := cellsT_len (ts := dblN ts i) (avs := avd) (by omega)
  by_cases hlt : i < ts.length
  · have hti := good_time hg i
    refine WC.fact (sA (avd ++ [avs0.getD i undef]) (dblN ts (i + 1))) (sA_snoc (t := { tg ts i with time := 2 * (tg ts i).time }) (Has.mem (by (repeat (first | exact List.Mem.head _ | apply List.Mem.tail)); done)) (hasA (ts := ts) (avs := avs0) (i := i) (Has.mem (by (repeat (first | exact List.Mem.head _ | apply List.Mem.tail)); done)) hlt) (by omega)) ?_
    repeat' (first | refine go ?_ | refine goX ?_ | refine goB ?_ | (refine goG ?_; intro g) | (refine goV ?_; intro v) | refine goD ?_ | refine goXD ?_ | (refine goDG ?_; intro g) | (refine goDV ?_; intro v) | refine goYL ?_ | (apply WC.draw (id := 9) [0, 1, 2, 3, 4, 5, 6, 7, 8, 9, 10, 11, 12, 13, 14, 15, 16, 17] (.held 0 (.held 1 (.held 2 (.held 3 (.held 4 (.held 5 (.held 6 (.held 7 (.held 8 (.held 9 (.held 10 (.held 11 (.held 12 (.held 13 (.held 14 (.held 15 (.held 16 (.held 17 (.loud 18 (.loud 19 (.free 20 (.done)))))))))))))))))))))) mixed (by kernel_rfl)) | (apply WC.draw (id := 15) [0, 1, 2, 3, 4, 5, 6, 7, 9, 10, 11] (.held 0 (.held 1 (.held 2 (.held 3 (.held 4 (.held 5 (.held 6 (.held 7 (.loud 8 (.held 9 (.held 10 (.held 11 (.loud 12 (.done)))))))))))))) mixed (by kernel_rfl)))
    (apply WD.l; exact rfl; exact rfl; exact rfl; refine LO.bs1T rfl (by (first | (focus (apply KnS.f; (focus (apply Has.mem; (repeat (first | exact List.Mem.head _ | apply List.Mem.tail)); done)); done)) | (focus (apply KnS.oI; (repeat (first | exact List.Mem.head _ | apply List.Mem.tail)); done)) | (focus (apply KnS.o1; (repeat (first | exact List.Mem.head _ | apply List.Mem.tail)); done)) | (focus (apply KnS.f; apply hasA; (focus (apply Has.mem; (repeat (first | exact List.Mem.head _ | apply List.Mem.tail)); done)); omega; done)))) (fun tv => ⟨.inr ⟨(by repeat (first | exact List.Sublist.refl _ | exact List.nil_sublist _ | apply List.Sublist.cons_cons | apply List.Sublist.cons)), fun _ h => h⟩, ?_⟩))
    (apply WD.l; exact rfl; exact rfl; exact rfl; refine LO.appT rfl rfl (by (repeat (first | exact List.Mem.head _ | apply List.Mem.tail)); done) (fun v => by repeat (first | exact Sel.head | apply Sel.tail)) (by (first | (focus (apply KnS.f; (focus (apply Has.mem; (repeat (first | exact List.Mem.head _ | apply List.Mem.tail)); done)); done)) | (focus (apply KnS.oI; (repeat (first | exact List.Mem.head _ | apply List.Mem.tail)); done)) | (focus (apply KnS.o1; (repeat (first | exact List.Mem.head _ | apply List.Mem.tail)); done)) | (focus (apply KnS.f; apply hasA; (focus (apply Has.mem; (repeat (first | exact List.Mem.head _ | apply List.Mem.tail)); done)); omega; done)))) (by omega) (fun nv => ⟨.inl (by kernel_rfl), ?_⟩))
    have ec : cellsT (dblN ts (i + 1)) (avd ++ [avs0.getD i undef]) = cellsT (dblN ts i) avd ++ [.int .i64 (2 * (tg ts i).time), .int .i64 (tg ts i).on, avs0.getD i undef] := by
      show cellsT (dblN ts i ++ [_]) _ = _
      rw [cellsT_snoc (by omega)]
    repeat' (first | refine go ?_ | refine goX ?_ | refine goB ?_ | (refine goG ?_; intro g) | (refine goV ?_; intro v) | refine goD ?_ | refine goXD ?_ | (refine goDG ?_; intro g) | (refine goDV ?_; intro v) | refine goYL ?_ | (apply WC.draw (id := 9) [0, 1, 2, 3, 4, 5, 6, 7, 8, 9, 10, 11, 12, 13, 14, 15, 16, 17] (.held 0 (.held 1 (.held 2 (.held 3 (.held 4 (.held 5 (.held 6 (.held 7 (.held 8 (.held 9 (.held 10 (.held 11 (.held 12 (.held 13 (.held 14 (.held 15 (.held 16 (.held 17 (.loud 18 (.loud 19 (.free 20 (.done)))))))))))))))))))))) mixed (by kernel_rfl)) | (apply WC.draw (id := 15) [0, 1, 2, 3, 4, 5, 6, 7, 9, 10, 11] (.held 0 (.held 1 (.held 2 (.held 3 (.held 4 (.held 5 (.held 6 (.held 7 (.loud 8 (.held 9 (.held 10 (.held 11 (.loud 12 (.done)))))))))))))) mixed (by kernel_rfl)))
    exact LoopEnd.mk (i + 1, nv, avd ++ [avs0.getD i undef]) ⟨by show i + 1 ≤ ts.length; omega, by simp [hdl]⟩ (by show ts.length - (i + 1) < ts.length - i; omega) (by repeat (first | exact Sub.nil _ | refine Sub.cons rfl ?_)) (by simp only [ec]; exact (by repeat (first | exact List.Sublist.refl _ | exact List.nil_sublist _ | apply List.Sublist.cons_cons | apply List.Sublist.cons)))
  · obtain rfl : i = ts.length := by omega
    repeat' (first | refine go ?_ | refine goX ?_ | refine goB ?_ | (refine goG ?_; intro g) | (refine goV ?_; intro v) | refine goD ?_ | refine goXD ?_ | (refine goDG ?_; intro g) | (refine goDV ?_; intro v) | refine goYL ?_ | (apply WC.draw (id := 9) [0, 1, 2, 3, 4, 5, 6, 7, 8, 9, 10, 11, 12, 13, 14, 15, 16, 17] (.held 0 (.held 1 (.held 2 (.held 3 (.held 4 (.held 5 (.held 6 (.held 7 (.held 8 (.held 9 (.held 10 (.held 11 (.held 12 (.held 13 (.held 14 (.held 15 (.held 16 (.held 17 (.loud 18 (.loud 19 (.free 20 (.done)))))))))))))))))))))) mixed (by kernel_rfl)) | (apply WC.draw (id := 15) [0, 1, 2, 3, 4, 5, 6, 7, 9, 10, 11] (.held 0 (.held 1 (.held 2 (.held 3 (.held 4 (.held 5 (.held 6 (.held 7 (.loud 8 (.held 9 (.held 10 (.held 11 (.loud 12 (.done)))))))))))))) mixed (by kernel_rfl)))
    have hmax : 0 < max (ts.length : Int) 1 := by omega
    first | refine WL.callV (around_c a (max (ts.length : Int) 1) ha hmax) ?_ | refine WD.callV (around_c a (max (ts.length : Int) 1) ha hmax) ?_
    have hA := around_bd (n := a) hmax
    obtain ⟨A, hAe⟩ : ∃ A : Nat, around a (max (ts.length : Int) 1) = (A : Int) := ⟨(around a (max (ts.length : Int) 1)).toNat, by omega⟩
    rw [hAe] at hA ⊢
    repeat' (first | refine go ?_ | refine goX ?_ | refine goB ?_ | (refine goG ?_; intro g) | (refine goV ?_; intro v) | refine goD ?_ | refine goXD ?_ | (refine goDG ?_; intro g) | (refine goDV ?_; intro v) | refine goYL ?_ | (apply WC.draw (id := 9) [0, 1, 2, 3, 4, 5, 6, 7, 8, 9, 10, 11, 12, 13, 14, 15, 16, 17] (.held 0 (.held 1 (.held 2 (.held 3 (.held 4 (.held 5 (.held 6 (.held 7 (.held 8 (.held 9 (.held 10 (.held 11 (.held 12 (.held 13 (.held 14 (.held 15 (.held 16 (.held 17 (.loud 18 (.loud 19 (.free 20 (.done)))))))))))))))))))))) mixed (by kernel_rfl)) | (apply WC.draw (id := 15) [0, 1, 2, 3, 4, 5, 6, 7, 9, 10, 11] (.held 0 (.held 1 (.held 2 (.held 3 (.held 4 (.held 5 (.held 6 (.held 7 (.loud 8 (.held 9 (.held 10 (.held 11 (.loud 12 (.done)))))))))))))) mixed (by kernel_rfl)))
    first | refine WL.callV (around_c how 4 hh (by decide)) ?_ | refine WD.callV (around_c how 4 hh (by decide)) ?_
    have hk4 := around_bd (n := how) (m := 4) (by decide)
    generalize hk : around how 4 = k at *
    refine WL.freezeT (dblN ts ts.length) avd (by repeat (first | exact Sel.head | apply Sel.tail)) hcl2 (fun j hj => cellsT_get j (by omega) hj) ?_
    refine WL.nil ?_
    change WC Try.prog 191 _ _ _ _ _
    have hgi : TI64 ts := hgen.i
    refine WC.cutT (σ := Value × List Value × List Tk) (fun s => [(15, s.1), (16, ov), (10, .int .i64 M), (13, .int .i64 nn), (14, .int .i64 0)]) (fun s => [Ow.slice s.1 48 3 (cellsT s.2.2 s.2.1)]) (fun s => [ge h0, sA s.2.1 s.2.2, sT ov avd (dblN ts ts.length), sA avd (dblN ts ts.length)]) (fun s => (Les ts s.2.2 ∧ AllGood M s.2.2 ∧ s.2.2.length ≤ 7) ∧ s.2.1.length = s.2.2.length) ?_ ?_
    · have hsame : Les ts ts := ⟨Nat.le_refl _, fun _ _ => Int.le_refl _, fun _ _ _ h => h, fun _ _ _ h => h⟩
      have hAl : 0 < ts.length → A < ts.length := fun h => by omega
      by_cases k0 : k = 0
      · by_cases hz : 0 < ts.length
        · have hAl := hAl hz
          have hr6 := around_bd (n := byv) (m := 6) (by decide)
          have htA := hgen.t A hAl
          have htA1 := (hg A hAl).t1
          refine WC.fact (sA avs (ts.set A { tg ts A with time := (tg ts A).time + around byv 6 })) (sA_set0 (Has.mem (by (repeat (first | exact List.Mem.head _ | apply List.Mem.tail)); done)) rfl) ?_
          repeat' (first | refine go ?_ | refine goX ?_ | refine goB ?_ | (refine goG ?_; intro g) | (refine goV ?_; intro v) | refine goD ?_ | refine goXD ?_ | (refine goDG ?_; intro g) | (refine goDV ?_; intro v) | refine goYL ?_ | (apply WC.draw (id := 9) [0, 1, 2, 3, 4, 5, 6, 7, 8, 9, 10, 11, 12, 13, 14, 15, 16, 17] (.held 0 (.held 1 (.held 2 (.held 3 (.held 4 (.held 5 (.held 6 (.held 7 (.held 8 (.held 9 (.held 10 (.held 11 (.held 12 (.held 13 (.held 14 (.held 15 (.held 16 (.held 17 (.loud 18 (.loud 19 (.free 20 (.done)))))))))))))))))))))) mixed (by kernel_rfl)) | (apply WC.draw (id := 15) [0, 1, 2, 3, 4, 5, 6, 7, 9, 10, 11] (.held 0 (.held 1 (.held 2 (.held 3 (.held 4 (.held 5 (.held 6 (.held 7 (.loud 8 (.held 9 (.held 10 (.held 11 (.loud 12 (.done)))))))))))))) mixed (by kernel_rfl)))
          first | refine WL.callV (around_c byv 6 hb (by decide)) ?_ | refine WD.callV (around_c byv 6 hb (by decide)) ?_
          repeat' (first | refine go ?_ | refine goX ?_ | refine goB ?_ | (refine goG ?_; intro g) | (refine goV ?_; intro v) | refine goD ?_ | refine goXD ?_ | (refine goDG ?_; intro g) | (refine goDV ?_; intro v) | refine goYL ?_ | (apply WC.draw (id := 9) [0, 1, 2, 3, 4, 5, 6, 7, 8, 9, 10, 11, 12, 13, 14, 15, 16, 17] (.held 0 (.held 1 (.held 2 (.held 3 (.held 4 (.held 5 (.held 6 (.held 7 (.held 8 (.held 9 (.held 10 (.held 11 (.held 12 (.held 13 (.held 14 (.held 15 (.held 16 (.held 17 (.loud 18 (.loud 19 (.free 20 (.done)))))))))))))))))))))) mixed (by kernel_rfl)) | (apply WC.draw (id := 15) [0, 1, 2, 3, 4, 5, 6, 7, 9, 10, 11] (.held 0 (.held 1 (.held 2 (.held 3 (.held 4 (.held 5 (.held 6 (.held 7 (.loud 8 (.held 9 (.held 10 (.held 11 (.loud 12 (.done)))))))))))))) mixed (by kernel_rfl)))
          rw [cellsT_set0 hal hAl]
          exact ⟨(w, avs, ts.set A { tg ts A with time := (tg ts A).time + around byv 6 }), ⟨⟨les_set (by show (tg ts A).time ≤ (tg ts A).time + around byv 6; omega) (fun _ h => h) (fun _ h => h), good_set hg ⟨by show 1 ≤ (tg ts A).time + around byv 6; omega, by show (tg ts A).time + around byv 6 ≤ 20; omega, (hg A hAl).o1, (hg A hAl).o2, (hg A hAl).a⟩, by simp; omega⟩, by simp [hal]⟩, (by repeat (first | exact Sub.nil _ | refine Sub.cons rfl ?_)), (by repeat (first | exact List.Sublist.refl _ | exact List.nil_sublist _ | apply List.Sublist.cons_cons | apply List.Sublist.cons)), (by repeat (first | exact HasAll.nil | (apply HasAll.cons; (focus (apply Has.mem; (repeat (first | exact List.Mem.head _ | apply List.Mem.tail)); done)))))⟩
        · repeat' (first | refine go ?_ | refine goX ?_ | refine goB ?_ | (refine goG ?_; intro g) | (refine goV ?_; intro v) | refine goD ?_ | refine goXD ?_ | (refine goDG ?_; intro g) | (refine goDV ?_; intro v) | refine goYL ?_ | (apply WC.draw (id := 9) [0, 1, 2, 3, 4, 5, 6, 7, 8, 9, 10, 11, 12, 13, 14, 15, 16, 17] (.held 0 (.held 1 (.held 2 (.held 3 (.held 4 (.held 5 (.held 6 (.held 7 (.held 8 (.held 9 (.held 10 (.held 11 (.held 12 (.held 13 (.held 14 (.held 15 (.held 16 (.held 17 (.loud 18 (.loud 19 (.free 20 (.done)))))))))))))))))))))) mixed (by kernel_rfl)) | (apply WC.draw (id := 15) [0, 1, 2, 3, 4, 5, 6, 7, 9, 10, 11] (.held 0 (.held 1 (.held 2 (.held 3 (.held 4 (.held 5 (.held 6 (.held 7 (.loud 8 (.held 9 (.held 10 (.held 11 (.loud 12 (.done)))))))))))))) mixed (by kernel_rfl)))
          exact ⟨(w, avs, ts), ⟨⟨hsame, hg, by show ts.length ≤ 7; omega⟩, hal⟩, (by repeat (first | exact Sub.nil _ | refine Sub.cons rfl ?_)), (by repeat (first | exact List.Sublist.refl _ | exact List.nil_sublist _ | apply List.Sublist.cons_cons | apply List.Sublist.cons)), (by repeat (first | exact HasAll.nil | (apply HasAll.cons; (focus (apply Has.mem; (repeat (first | exact List.Mem.head _ | apply List.Mem.tail)); done)))))⟩
      by_cases k1 : k = 1
      · by_cases hz : 0 < ts.length
        · have hAl := hAl hz
          have hoA := good_on hg hM4 A
          have hbj := andI_bd (j := byv) hoA.1 hoA.2
          by_cases hp : 0 < andJ (tg ts A).on byv
          · refine WC.fact (sA avs (ts.set A { tg ts A with on := andJ (tg ts A).on byv })) (sA_set0 (Has.mem (by (repeat (first | exact List.Mem.head _ | apply List.Mem.tail)); done)) rfl) ?_
            repeat' (first | refine go ?_ | refine goX ?_ | refine goB ?_ | (refine goG ?_; intro g) | (refine goV ?_; intro v) | refine goD ?_ | refine goXD ?_ | (refine goDG ?_; intro g) | (refine goDV ?_; intro v) | refine goYL ?_ | (apply WC.draw (id := 9) [0, 1, 2, 3, 4, 5, 6, 7, 8, 9, 10, 11, 12, 13, 14, 15, 16, 17] (.held 0 (.held 1 (.held 2 (.held 3 (.held 4 (.held 5 (.held 6 (.held 7 (.held 8 (.held 9 (.held 10 (.held 11 (.held 12 (.held 13 (.held 14 (.held 15 (.held 16 (.held 17 (.loud 18 (.loud 19 (.free 20 (.done)))))))))))))))))))))) mixed (by kernel_rfl)) | (apply WC.draw (id := 15) [0, 1, 2, 3, 4, 5, 6, 7, 9, 10, 11] (.held 0 (.held 1 (.held 2 (.held 3 (.held 4 (.held 5 (.held 6 (.held 7 (.loud 8 (.held 9 (.held 10 (.held 11 (.loud 12 (.done)))))))))))))) mixed (by kernel_rfl)))
            rw [cellsT_set1 hal hAl]
            exact ⟨(w, avs, ts.set A { tg ts A with on := andJ (tg ts A).on byv }), ⟨⟨les_set (Int.le_refl _) (fun _ h => h) hbj.2.2, good_set hg ⟨(hg A hAl).t1, (hg A hAl).t2, by show 1 ≤ andJ (tg ts A).on byv; omega, by show andJ (tg ts A).on byv < 2 ^ M; have := (hg A hAl).o2; omega, (hg A hAl).a⟩, by simp; omega⟩, by simp [hal]⟩, (by repeat (first | exact Sub.nil _ | refine Sub.cons rfl ?_)), (by repeat (first | exact List.Sublist.refl _ | exact List.nil_sublist _ | apply List.Sublist.cons_cons | apply List.Sublist.cons)), (by repeat (first | exact HasAll.nil | (apply HasAll.cons; (focus (apply Has.mem; (repeat (first | exact List.Mem.head _ | apply List.Mem.tail)); done)))))⟩
          · repeat' (first | refine go ?_ | refine goX ?_ | refine goB ?_ | (refine goG ?_; intro g) | (refine goV ?_; intro v) | refine goD ?_ | refine goXD ?_ | (refine goDG ?_; intro g) | (refine goDV ?_; intro v) | refine goYL ?_ | (apply WC.draw (id := 9) [0, 1, 2, 3, 4, 5, 6, 7, 8, 9, 10, 11, 12, 13, 14, 15, 16, 17] (.held 0 (.held 1 (.held 2 (.held 3 (.held 4 (.held 5 (.held 6 (.held 7 (.held 8 (.held 9 (.held 10 (.held 11 (.held 12 (.held 13 (.held 14 (.held 15 (.held 16 (.held 17 (.loud 18 (.loud 19 (.free 20 (.done)))))))))))))))))))))) mixed (by kernel_rfl)) | (apply WC.draw (id := 15) [0, 1, 2, 3, 4, 5, 6, 7, 9, 10, 11] (.held 0 (.held 1 (.held 2 (.held 3 (.held 4 (.held 5 (.held 6 (.held 7 (.loud 8 (.held 9 (.held 10 (.held 11 (.loud 12 (.done)))))))))))))) mixed (by kernel_rfl)))
            exact ⟨(w, avs, ts), ⟨⟨hsame, hg, by show ts.length ≤ 7; omega⟩, hal⟩, (by repeat (first | exact Sub.nil _ | refine Sub.cons rfl ?_)), (by repeat (first | exact List.Sublist.refl _ | exact List.nil_sublist _ | apply List.Sublist.cons_cons | apply List.Sublist.cons)), (by repeat (first | exact HasAll.nil | (apply HasAll.cons; (focus (apply Has.mem; (repeat (first | exact List.Mem.head _ | apply List.Mem.tail)); done)))))⟩
        · repeat' (first | refine go ?_ | refine goX ?_ | refine goB ?_ | (refine goG ?_; intro g) | (refine goV ?_; intro v) | refine goD ?_ | refine goXD ?_ | (refine goDG ?_; intro g) | (refine goDV ?_; intro v) | refine goYL ?_ | (apply WC.draw (id := 9) [0, 1, 2, 3, 4, 5, 6, 7, 8, 9, 10, 11, 12, 13, 14, 15, 16, 17] (.held 0 (.held 1 (.held 2 (.held 3 (.held 4 (.held 5 (.held 6 (.held 7 (.held 8 (.held 9 (.held 10 (.held 11 (.held 12 (.held 13 (.held 14 (.held 15 (.held 16 (.held 17 (.loud 18 (.loud 19 (.free 20 (.done)))))))))))))))))))))) mixed (by kernel_rfl)) | (apply WC.draw (id := 15) [0, 1, 2, 3, 4, 5, 6, 7, 9, 10, 11] (.held 0 (.held 1 (.held 2 (.held 3 (.held 4 (.held 5 (.held 6 (.held 7 (.loud 8 (.held 9 (.held 10 (.held 11 (.loud 12 (.done)))))))))))))) mixed (by kernel_rfl)))
          exact ⟨(w, avs, ts), ⟨⟨hsame, hg, by show ts.length ≤ 7; omega⟩, hal⟩, (by repeat (first | exact Sub.nil _ | refine Sub.cons rfl ?_)), (by repeat (first | exact List.Sublist.refl _ | exact List.nil_sublist _ | apply List.Sublist.cons_cons | apply List.Sublist.cons)), (by repeat (first | exact HasAll.nil | (apply HasAll.cons; (focus (apply Has.mem; (repeat (first | exact List.Mem.head _ | apply List.Mem.tail)); done)))))⟩
      by_cases k2 : k = 2
      · by_cases hz : 0 < ts.length
        · have hAl := hAl hz
          by_cases hA0 : 0 < A
          · by_cases ha0 : (tg ts A).after.length = 0
            · have hrA := around_bd (n := byv) (m := (A : Int)) (by omega)
              repeat' (first | refine go ?_ | refine goX ?_ | refine goB ?_ | (refine goG ?_; intro g) | (refine goV ?_; intro v) | refine goD ?_ | refine goXD ?_ | (refine goDG ?_; intro g) | (refine goDV ?_; intro v) | refine goYL ?_ | (apply WC.draw (id := 9) [0, 1, 2, 3, 4, 5, 6, 7, 8, 9, 10, 11, 12, 13, 14, 15, 16, 17] (.held 0 (.held 1 (.held 2 (.held 3 (.held 4 (.held 5 (.held 6 (.held 7 (.held 8 (.held 9 (.held 10 (.held 11 (.held 12 (.held 13 (.held 14 (.held 15 (.held 16 (.held 17 (.loud 18 (.loud 19 (.free 20 (.done)))))))))))))))))))))) mixed (by kernel_rfl)) | (apply WC.draw (id := 15) [0, 1, 2, 3, 4, 5, 6, 7, 9, 10, 11] (.held 0 (.held 1 (.held 2 (.held 3 (.held 4 (.held 5 (.held 6 (.held 7 (.loud 8 (.held 9 (.held 10 (.held 11 (.loud 12 (.done)))))))))))))) mixed (by kernel_rfl)))
              first | refine WL.callV (around_c byv A hb (by omega)) ?_ | refine WD.callV (around_c byv A hb (by omega)) ?_
              generalize around byv A = x at *
              refine goV ?_
              intro nv
              refine WL.freezeI (el := 3) (v := nv) (l := [x]) (by repeat (first | exact Sel.head | apply Sel.tail)) ?_
              refine WL.fact (sA (avs.set A nv) (ts.set A { tg ts A with after := [x] })) (sA_set2 (Has.mem (by (repeat (first | exact List.Mem.head _ | apply List.Mem.tail)); done)) (Has.mem (by (repeat (first | exact List.Mem.head _ | apply List.Mem.tail)); done)) hal hAl) ?_
              repeat' (first | refine go ?_ | refine goX ?_ | refine goB ?_ | (refine goG ?_; intro g) | (refine goV ?_; intro v) | refine goD ?_ | refine goXD ?_ | (refine goDG ?_; intro g) | (refine goDV ?_; intro v) | refine goYL ?_ | (apply WC.draw (id := 9) [0, 1, 2, 3, 4, 5, 6, 7, 8, 9, 10, 11, 12, 13, 14, 15, 16, 17] (.held 0 (.held 1 (.held 2 (.held 3 (.held 4 (.held 5 (.held 6 (.held 7 (.held 8 (.held 9 (.held 10 (.held 11 (.held 12 (.held 13 (.held 14 (.held 15 (.held 16 (.held 17 (.loud 18 (.loud 19 (.free 20 (.done)))))))))))))))))))))) mixed (by kernel_rfl)) | (apply WC.draw (id := 15) [0, 1, 2, 3, 4, 5, 6, 7, 9, 10, 11] (.held 0 (.held 1 (.held 2 (.held 3 (.held 4 (.held 5 (.held 6 (.held 7 (.loud 8 (.held 9 (.held 10 (.held 11 (.loud 12 (.done)))))))))))))) mixed (by kernel_rfl)))
              rw [cellsT_set2 (l := [x]) hal hAl]
              exact ⟨(w, avs.set A nv, ts.set A { tg ts A with after := [x] }), ⟨⟨les_set (Int.le_refl _) (fun k h => by rw [List.length_eq_zero_iff.1 ha0] at h; cases h) (fun _ h => h), good_set hg ⟨(hg A hAl).t1, (hg A hAl).t2, (hg A hAl).o1, (hg A hAl).o2, fun j hj => by
                obtain rfl : j = 0 := by simpa using hj
                exact ⟨hrA.1, hrA.2, fun h => by omega⟩⟩, by simp; omega⟩, by simp [hal]⟩, (by repeat (first | exact Sub.nil _ | refine Sub.cons rfl ?_)), (by repeat (first | exact List.Sublist.refl _ | exact List.nil_sublist _ | apply List.Sublist.cons_cons | apply List.Sublist.cons)), (by repeat (first | exact HasAll.nil | (apply HasAll.cons; (focus (apply Has.mem; (repeat (first | exact List.Mem.head _ | apply List.Mem.tail)); done)))))⟩
            · have ha0' : ((tg ts A).after.length : Int) ≠ 0 := by omega
              repeat' (first | refine go ?_ | refine goX ?_ | refine goB ?_ | (refine goG ?_; intro g) | (refine goV ?_; intro v) | refine goD ?_ | refine goXD ?_ | (refine goDG ?_; intro g) | (refine goDV ?_; intro v) | refine goYL ?_ | (apply WC.draw (id := 9) [0, 1, 2, 3, 4, 5, 6, 7, 8, 9, 10, 11, 12, 13, 14, 15, 16, 17] (.held 0 (.held 1 (.held 2 (.held 3 (.held 4 (.held 5 (.held 6 (.held 7 (.held 8 (.held 9 (.held 10 (.held 11 (.held 12 (.held 13 (.held 14 (.held 15 (.held 16 (.held 17 (.loud 18 (.loud 19 (.free 20 (.done)))))))))))))))))))))) mixed (by kernel_rfl)) | (apply WC.draw (id := 15) [0, 1, 2, 3, 4, 5, 6, 7, 9, 10, 11] (.held 0 (.held 1 (.held 2 (.held 3 (.held 4 (.held 5 (.held 6 (.held 7 (.loud 8 (.held 9 (.held 10 (.held 11 (.loud 12 (.done)))))))))))))) mixed (by kernel_rfl)))
              exact ⟨(w, avs, ts), ⟨⟨hsame, hg, by show ts.length ≤ 7; omega⟩, hal⟩, (by repeat (first | exact Sub.nil _ | refine Sub.cons rfl ?_)), (by repeat (first | exact List.Sublist.refl _ | exact List.nil_sublist _ | apply List.Sublist.cons_cons | apply List.Sublist.cons)), (by repeat (first | exact HasAll.nil | (apply HasAll.cons; (focus (apply Has.mem; (repeat (first | exact List.Mem.head _ | apply List.Mem.tail)); done)))))⟩
          · repeat' (first | refine go ?_ | refine goX ?_ | refine goB ?_ | (refine goG ?_; intro g) | (refine goV ?_; intro v) | refine goD ?_ | refine goXD ?_ | (refine goDG ?_; intro g) | (refine goDV ?_; intro v) | refine goYL ?_ | (apply WC.draw (id := 9) [0, 1, 2, 3, 4, 5, 6, 7, 8, 9, 10, 11, 12, 13, 14, 15, 16, 17] (.held 0 (.held 1 (.held 2 (.held 3 (.held 4 (.held 5 (.held 6 (.held 7 (.held 8 (.held 9 (.held 10 (.held 11 (.held 12 (.held 13 (.held 14 (.held 15 (.held 16 (.held 17 (.loud 18 (.loud 19 (.free 20 (.done)))))))))))))))))))))) mixed (by kernel_rfl)) | (apply WC.draw (id := 15) [0, 1, 2, 3, 4, 5, 6, 7, 9, 10, 11] (.held 0 (.held 1 (.held 2 (.held 3 (.held 4 (.held 5 (.held 6 (.held 7 (.loud 8 (.held 9 (.held 10 (.held 11 (.loud 12 (.done)))))))))))))) mixed (by kernel_rfl)))
            exact ⟨(w, avs, ts), ⟨⟨hsame, hg, by show ts.length ≤ 7; omega⟩, hal⟩, (by repeat (first | exact Sub.nil _ | refine Sub.cons rfl ?_)), (by repeat (first | exact List.Sublist.refl _ | exact List.nil_sublist _ | apply List.Sublist.cons_cons | apply List.Sublist.cons)), (by repeat (first | exact HasAll.nil | (apply HasAll.cons; (focus (apply Has.mem; (repeat (first | exact List.Mem.head _ | apply List.Mem.tail)); done)))))⟩
        · repeat' (first | refine go ?_ | refine goX ?_ | refine goB ?_ | (refine goG ?_; intro g) | (refine goV ?_; intro v) | refine goD ?_ | refine goXD ?_ | (refine goDG ?_; intro g) | (refine goDV ?_; intro v) | refine goYL ?_ | (apply WC.draw (id := 9) [0, 1, 2, 3, 4, 5, 6, 7, 8, 9, 10, 11, 12, 13, 14, 15, 16, 17] (.held 0 (.held 1 (.held 2 (.held 3 (.held 4 (.held 5 (.held 6 (.held 7 (.held 8 (.held 9 (.held 10 (.held 11 (.held 12 (.held 13 (.held 14 (.held 15 (.held 16 (.held 17 (.loud 18 (.loud 19 (.free 20 (.done)))))))))))))))))))))) mixed (by kernel_rfl)) | (apply WC.draw (id := 15) [0, 1, 2, 3, 4, 5, 6, 7, 9, 10, 11] (.held 0 (.held 1 (.held 2 (.held 3 (.held 4 (.held 5 (.held 6 (.held 7 (.loud 8 (.held 9 (.held 10 (.held 11 (.loud 12 (.done)))))))))))))) mixed (by kernel_rfl)))
          exact ⟨(w, avs, ts), ⟨⟨hsame, hg, by show ts.length ≤ 7; omega⟩, hal⟩, (by repeat (first | exact Sub.nil _ | refine Sub.cons rfl ?_)), (by repeat (first | exact List.Sublist.refl _ | exact List.nil_sublist _ | apply List.Sublist.cons_cons | apply List.Sublist.cons)), (by repeat (first | exact HasAll.nil | (apply HasAll.cons; (focus (apply Has.mem; (repeat (first | exact List.Mem.head _ | apply List.Mem.tail)); done)))))⟩
      have hr9 := around_bd (n := byv) (m := 9) (by decide)
      repeat' (first | refine go ?_ | refine goX ?_ | refine goB ?_ | (refine goG ?_; intro g) | (refine goV ?_; intro v) | refine goD ?_ | refine goXD ?_ | (refine goDG ?_; intro g) | (refine goDV ?_; intro v) | refine goYL ?_ | (apply WC.draw (id := 9) [0, 1, 2, 3, 4, 5, 6, 7, 8, 9, 10, 11, 12, 13, 14, 15, 16, 17] (.held 0 (.held 1 (.held 2 (.held 3 (.held 4 (.held 5 (.held 6 (.held 7 (.held 8 (.held 9 (.held 10 (.held 11 (.held 12 (.held 13 (.held 14 (.held 15 (.held 16 (.held 17 (.loud 18 (.loud 19 (.free 20 (.done)))))))))))))))))))))) mixed (by kernel_rfl)) | (apply WC.draw (id := 15) [0, 1, 2, 3, 4, 5, 6, 7, 9, 10, 11] (.held 0 (.held 1 (.held 2 (.held 3 (.held 4 (.held 5 (.held 6 (.held 7 (.loud 8 (.held 9 (.held 10 (.held 11 (.loud 12 (.done)))))))))))))) mixed (by kernel_rfl)))
      first | refine WL.callV (around_c byv 9 hb (by decide)) ?_ | refine WD.callV (around_c byv 9 hb (by decide)) ?_
      repeat' (first | refine go ?_ | refine goX ?_ | refine goB ?_ | (refine goG ?_; intro g) | (refine goV ?_; intro v) | refine goD ?_ | refine goXD ?_ | (refine goDG ?_; intro g) | (refine goDV ?_; intro v) | refine goYL ?_ | (apply WC.draw (id := 9) [0, 1, 2, 3, 4, 5, 6, 7, 8, 9, 10, 11, 12, 13, 14, 15, 16, 17] (.held 0 (.held 1 (.held 2 (.held 3 (.held 4 (.held 5 (.held 6 (.held 7 (.held 8 (.held 9 (.held 10 (.held 11 (.held 12 (.held 13 (.held 14 (.held 15 (.held 16 (.held 17 (.loud 18 (.loud 19 (.free 20 (.done)))))))))))))))))))))) mixed (by kernel_rfl)) | (apply WC.draw (id := 15) [0, 1, 2, 3, 4, 5, 6, 7, 9, 10, 11] (.held 0 (.held 1 (.held 2 (.held 3 (.held 4 (.held 5 (.held 6 (.held 7 (.loud 8 (.held 9 (.held 10 (.held 11 (.loud 12 (.done)))))))))))))) mixed (by kernel_rfl)))
      (apply WL.l; exact rfl; exact rfl; apply LO.bs1T; exact rfl; exact KnS.f sI_nil; intro tv)
      (apply WL.l; exact rfl; exact rfl; apply LO.appT; exact rfl; exact rfl; (repeat (first | exact List.Mem.head _ | apply List.Mem.tail)); (intro v; (repeat (first | exact Sel.head | apply Sel.tail))); exact KnS.f sI_nil; omega; intro nv)
      have ec : cellsT (ts ++ [⟨1 + around byv 9, 1, []⟩]) (avs ++ [.slice none 0 0]) = cellsT ts avs ++ [.int .i64 (1 + around byv 9), .int .i64 1, .slice none 0 0] := by rw [cellsT_snoc (by omega)]
      refine WL.fact (sA (avs ++ [.slice none 0 0]) (ts ++ [⟨1 + around byv 9, 1, []⟩])) (sA_snoc (t := ⟨1 + around byv 9, 1, []⟩) (Has.mem (by (repeat (first | exact List.Mem.head _ | apply List.Mem.tail)); done)) sI_nil (by omega)) ?_
      repeat' (first | refine go ?_ | refine goX ?_ | refine goB ?_ | (refine goG ?_; intro g) | (refine goV ?_; intro v) | refine goD ?_ | refine goXD ?_ | (refine goDG ?_; intro g) | (refine goDV ?_; intro v) | refine goYL ?_ | (apply WC.draw (id := 9) [0, 1, 2, 3, 4, 5, 6, 7, 8, 9, 10, 11, 12, 13, 14, 15, 16, 17] (.held 0 (.held 1 (.held 2 (.held 3 (.held 4 (.held 5 (.held 6 (.held 7 (.held 8 (.held 9 (.held 10 (.held 11 (.held 12 (.held 13 (.held 14 (.held 15 (.held 16 (.held 17 (.loud 18 (.loud 19 (.free 20 (.done)))))))))))))))))))))) mixed (by kernel_rfl)) | (apply WC.draw (id := 15) [0, 1, 2, 3, 4, 5, 6, 7, 9, 10, 11] (.held 0 (.held 1 (.held 2 (.held 3 (.held 4 (.held 5 (.held 6 (.held 7 (.loud 8 (.held 9 (.held 10 (.held 11 (.loud 12 (.done)))))))))))))) mixed (by kernel_rfl)))
      rw [← ec]
      have h2M : (2 : Int) ≤ 2 ^ M := by
        have h1 : 2 ^ 1 ≤ 2 ^ M := Nat.pow_le_pow_right (by decide) hM1
        have h2 : ((2 : Int) ^ M) = ((2 ^ M : Nat) : Int) := by simp
        omega
      exact ⟨(nv, avs ++ [.slice none 0 0], ts ++ [⟨1 + around byv 9, 1, []⟩]), ⟨⟨les_snoc, good_snoc hg ⟨by show 1 ≤ 1 + around byv 9; omega, by show 1 + around byv 9 ≤ 20; omega, by show (1 : Int) ≤ 1; omega, by show (1 : Int) < 2 ^ M; omega, fun j hj => by simp at hj⟩, by simp; omega⟩, by simp [hal]⟩, (by repeat (first | exact Sub.nil _ | refine Sub.cons rfl ?_)), (by repeat (first | exact List.Sublist.refl _ | exact List.nil_sublist _ | apply List.Sublist.cons_cons | apply List.Sublist.cons)), (by repeat (first | exact HasAll.nil | (apply HasAll.cons; (focus (apply Has.mem; (repeat (first | exact List.Mem.head _ | apply List.Mem.tail)); done)))))⟩
    · rintro ⟨w', avs', ts'⟩ ⟨⟨hle, hg', hn'⟩, hal'⟩
      simp only at hle hg' hn' hal' ⊢
      refine WC.freezeT ts' avs' (by repeat (first | exact Sel.head | apply Sel.tail)) (cellsT_len hal') (fun j hj => cellsT_get j hal' hj) ?_
      have hnb := lenN_bd (good_time hg) ts.length (fun j hj => hf.1 j hj)
      rw [show lenN ts st ts.length = nn from hlen] at hnb
      have hv' := validE_ok (by omega) hM1 hM4 hg'
      obtain ⟨st2, os2, n2, hb2, _, _, _, _, hopt2⟩ := best_lists hg' (by omega) hM4
      have hbc2 := best_c w' avs' ts' M (good_i64 hg' hM4 (by omega))
      rw [if_pos hv', hb2] at hbc2
      have hg3 := dbl_good hg hgen.t
      have hn3 := dblN_len (ts := ts) ts.length
      have hv3 := validE_ok (by omega) hM1 hM4 hg3
      obtain ⟨st3, os3, n3, hb3, _, _, _, _, hopt3⟩ := best_lists hg3 (by omega) hM4
      have hbc3 := best_c ov avd (dblN ts ts.length) M (good_i64 hg3 hM4 (by omega))
      rw [if_pos hv3, hb3] at hbc3
      have hle2 := hle.opt hopt hopt2
      have heq : n3 = 2 * nn := (dbl_dbl ts).opt hg hl10 hM4 hopt hopt3
      repeat' (first | refine go ?_ | refine goX ?_ | refine goB ?_ | (refine goG ?_; intro g) | (refine goV ?_; intro v) | refine goD ?_ | refine goXD ?_ | (refine goDG ?_; intro g) | (refine goDV ?_; intro v) | refine goYL ?_ | (apply WC.draw (id := 9) [0, 1, 2, 3, 4, 5, 6, 7, 8, 9, 10, 11, 12, 13, 14, 15, 16, 17] (.held 0 (.held 1 (.held 2 (.held 3 (.held 4 (.held 5 (.held 6 (.held 7 (.held 8 (.held 9 (.held 10 (.held 11 (.held 12 (.held 13 (.held 14 (.held 15 (.held 16 (.held 17 (.loud 18 (.loud 19 (.free 20 (.done)))))))))))))))))))))) mixed (by kernel_rfl)) | (apply WC.draw (id := 15) [0, 1, 2, 3, 4, 5, 6, 7, 9, 10, 11] (.held 0 (.held 1 (.held 2 (.held 3 (.held 4 (.held 5 (.held 6 (.held 7 (.loud 8 (.held 9 (.held 10 (.held 11 (.loud 12 (.done)))))))))))))) mixed (by kernel_rfl)))
      first | refine WL.callP (hbc2) ?_ | refine WD.callP (hbc2) ?_
      rintro _ _ _ ⟨a2, b2, rfl, rfl, rfl⟩
      simp only [List.cons_append, List.nil_append]
      repeat' (first | refine go ?_ | refine goX ?_ | refine goB ?_ | (refine goG ?_; intro g) | (refine goV ?_; intro v) | refine goD ?_ | refine goXD ?_ | (refine goDG ?_; intro g) | (refine goDV ?_; intro v) | refine goYL ?_ | (apply WC.draw (id := 9) [0, 1, 2, 3, 4, 5, 6, 7, 8, 9, 10, 11, 12, 13, 14, 15, 16, 17] (.held 0 (.held 1 (.held 2 (.held 3 (.held 4 (.held 5 (.held 6 (.held 7 (.held 8 (.held 9 (.held 10 (.held 11 (.held 12 (.held 13 (.held 14 (.held 15 (.held 16 (.held 17 (.loud 18 (.loud 19 (.free 20 (.done)))))))))))))))))))))) mixed (by kernel_rfl)) | (apply WC.draw (id := 15) [0, 1, 2, 3, 4, 5, 6, 7, 9, 10, 11] (.held 0 (.held 1 (.held 2 (.held 3 (.held 4 (.held 5 (.held 6 (.held 7 (.loud 8 (.held 9 (.held 10 (.held 11 (.loud 12 (.done)))))))))))))) mixed (by kernel_rfl)))
      first | refine WL.callP (hbc3) ?_ | refine WD.callP (hbc3) ?_
      rintro _ _ _ ⟨a3, b3, rfl, rfl, rfl⟩
      simp only [List.cons_append, List.nil_append]
      repeat' (first | refine go ?_ | refine goX ?_ | refine goB ?_ | (refine goG ?_; intro g) | (refine goV ?_; intro v) | refine goD ?_ | refine goXD ?_ | (refine goDG ?_; intro g) | (refine goDV ?_; intro v) | refine goYL ?_ | (apply WC.draw (id := 9) [0, 1, 2, 3, 4, 5, 6, 7, 8, 9, 10, 11, 12, 13, 14, 15, 16, 17] (.held 0 (.held 1 (.held 2 (.held 3 (.held 4 (.held 5 (.held 6 (.held 7 (.held 8 (.held 9 (.held 10 (.held 11 (.held 12 (.held 13 (.held 14 (.held 15 (.held 16 (.held 17 (.loud 18 (.loud 19 (.free 20 (.done)))))))))))))))))))))) mixed (by kernel_rfl)) | (apply WC.draw (id := 15) [0, 1, 2, 3, 4, 5, 6, 7, 9, 10, 11] (.held 0 (.held 1 (.held 2 (.held 3 (.held 4 (.held 5 (.held 6 (.held 7 (.loud 8 (.held 9 (.held 10 (.held 11 (.loud 12 (.done)))))))))))))) mixed (by kernel_rfl)))
      first | refine WL.callV (lives_c) ?_ | refine WD.callV (lives_c) ?_
      repeat' (first | refine go ?_ | refine goX ?_ | refine goB ?_ | (refine goG ?_; intro g) | (refine goV ?_; intro v) | refine goD ?_ | refine goXD ?_ | (refine goDG ?_; intro g) | (refine goDV ?_; intro v) | refine goYL ?_ | (apply WC.draw (id := 9) [0, 1, 2, 3, 4, 5, 6, 7, 8, 9, 10, 11, 12, 13, 14, 15, 16, 17] (.held 0 (.held 1 (.held 2 (.held 3 (.held 4 (.held 5 (.held 6 (.held 7 (.held 8 (.held 9 (.held 10 (.held 11 (.held 12 (.held 13 (.held 14 (.held 15 (.held 16 (.held 17 (.loud 18 (.loud 19 (.free 20 (.done)))))))))))))))))))))) mixed (by kernel_rfl)) | (apply WC.draw (id := 15) [0, 1, 2, 3, 4, 5, 6, 7, 9, 10, 11] (.held 0 (.held 1 (.held 2 (.held 3 (.held 4 (.held 5 (.held 6 (.held 7 (.loud 8 (.held 9 (.held 10 (.held 11 (.loud 12 (.done)))))))))))))) mixed (by kernel_rfl)))
      refine WC.ret ?_
      exact Fin.v (ResE.t1 rfl rfl) (by (repeat (first | exact List.Mem.head _ | apply List.Mem.tail)); done) rfl
end Mor
end Go.Proofs.Ytgacbfckaglhbaa
namespace Go.Proofs.Ytgacbfckaglhbaa
open Go.ChangeShapes Go.WideShapes Go.ChangeAt Go.RowKit
open W

/-- what stood in V1 stands in V2 -/
def Ext (V1 V2 : World) : Prop := ∀ (k : Nat) (o : Obj), V1.heap[k]? = some o → V2.heap[k]? = some o
def Again {H : Type} (enc : TypeId × Value → H) (P : Program) (V1 : World) (t : TypeId) (v : Value) (d : DataW H) (p : List MemPlace) : Prop :=
  ∀ (V2 : World) (sp : Nat → Bool), Ext V1 V2 → (∀ q ∈ p, sp q.block = true) → DataW.Trod enc P V2 0 sp true t v d p
def AgainAll {H : Type} (enc : TypeId × Value → H) (P : Program) (V1 : World) (ts : List TypeId) (vs : List Value) (ds : List (DataW H)) (p : List MemPlace) : Prop :=
  ∀ (V2 : World) (sp : Nat → Bool), Ext V1 V2 → (∀ q ∈ p, sp q.block = true) → DataW.TrodAll enc P V2 0 sp true ts vs ds p
section
variable {H : Type} {enc : TypeId × Value → H} {P : Program} {V1 : World}
theorem AgainAll.nil : AgainAll enc P V1 [] [] [] [] := fun _ _ _ _ => rfl
theorem AgainAll.cons {t : TypeId} {ts : List TypeId} {v : Value} {vs : List Value} {d : DataW H} {ds : List (DataW H)} {p q : List MemPlace} (h : Again enc P V1 t v d p) (h2 : AgainAll enc P V1 ts vs ds q) : AgainAll enc P V1 (t :: ts) (v :: vs) (d :: ds) (p ++ q) := fun V2 sp he hs =>
  ⟨p, q, h V2 sp he fun x hx => hs x (List.mem_append_left _ hx), h2 V2 sp he fun x hx => hs x (List.mem_append_right _ hx), rfl⟩
theorem Ext.cell {V2 : World} (h : Ext V1 V2) {a : Addr} {v : Value} (hc : V1.cell? a = some v) : V2.cell? a = some v := by
  unfold World.cell? at hc ⊢
  cases ho : V1.heap[a.block]? with
  | none => rw [ho] at hc; cases hc
  | some o => rw [h _ _ ho]; rw [ho] at hc; exact hc

theorem arg_int {t : TypeId} {b0 : Nat} {v : Value} {d : DataW H} {p : List MemPlace} (ht : P.underlying t = some (.int .i64)) (hv : Value.okWide P V1 .any b0 t v) (h : DataW.Trod enc P V1 0 (fun _ => true) true t v d p) : ∃ n, v = .int .i64 n ∧ I64 n ∧ Again enc P V1 t v d p := by
  obtain ⟨n, rfl, rfl, rfl, wa⟩ := open_int ht hv h
  refine ⟨n, rfl, ?_, fun V2 sp _ _ => shut_int ht wa⟩
  simp [Lit.wf, IntKind.min, IntKind.max, IntKind.signed, IntKind.bits] at wa
  unfold I64; omega
theorem arg_ints {t e : TypeId} {b0 : Nat} {v : Value} {d : DataW H} {p : List MemPlace} (ht : P.underlying t = some (.slice e)) (he : P.underlying e = some (.int .i64)) (hc : P.cellsOf e = 1) (hv : Value.okWide P V1 .any b0 t v) (h : DataW.Trod enc P V1 0 (fun _ => true) true t v d p) :
    ∃ l : List Int, (∀ x ∈ l, I64 x) ∧ (sI v l).p (fun k => V1.heap[k]?) ∧ Again enc P V1 t v d p := by
  obtain ⟨fuel, hf⟩ := h
  have hval := hv
  obtain ⟨a0, len, cap, rfl⟩ := okWide_slice ht hv
  rcases open_ints ht he hc hf with ⟨hcs, hx⟩ | ⟨a, len', cap', zs, hcs, _, hl, hm, hz, hx, hcell, hwz⟩
  · simp [Value.cells] at hcs
    obtain ⟨rfl, rfl, rfl⟩ := hcs
    simp only [Prod.mk.injEq] at hx
    obtain ⟨rfl, rfl⟩ := hx
    exact ⟨[], by simp, ⟨none, 0, rfl, Nat.le_refl _, by simp [maxLen], .inl ⟨rfl, rfl, rfl⟩⟩, fun V2 sp _ _ => shut_slice_nil ht⟩
  · simp [Value.cells] at hcs
    obtain ⟨rfl, rfl, rfl⟩ := hcs
    simp only [Prod.mk.injEq] at hx
    obtain ⟨rfl, rfl⟩ := hx
    simp only [if_true] at hz
    simp only [Value.okWide, ht, Cell.okWide, Cell.ok] at hval
    obtain ⟨_, _, _, hsp, row, cells, hsh, _⟩ := hval
    obtain ⟨b, off, spot⟩ := a
    simp only at hsp; subst hsp
    have hblk : ∃ c el fz, V1.heap[b]? = some (.cells c el fz) := by
      unfold World.shape? at hsh
      simp only at hsh
      split at hsh
      · rename_i c el fz hh; exact ⟨c, el, fz, hh⟩
      · cases hsh
    obtain ⟨c, el, fz, hh⟩ := hblk
    have hlz : (zs.take len).length = len := by simp; omega
    refine ⟨zs.take len, fun x hx => ?_, ?_, fun V2 sp hE hs => ?_⟩
    · have wa := hwz x (List.mem_of_mem_take hx)
      simp [Lit.wf, IntKind.min, IntKind.max, IntKind.signed, IntKind.bits] at wa
      unfold I64; omega
    · show (slC _ (zs.take len).length 1 _).p _
      rw [hlz]
      refine ⟨_, cap, rfl, hl, hm, .inr ⟨b, off, rfl, c, el, fz, hh, fun j hj => ?_⟩⟩
      have hcj := hcell j (by omega)
      simp only [World.cell?, Addr.add_lit, hh] at hcj
      simp only [Option.isSome_none, Bool.false_eq_true, if_false] at hcj
      rw [hcj]
      simp only [List.getD_eq_getElem?_getD, List.getElem?_take]
      rw [if_pos (by omega)]
    · by_cases hz0 : zs.length = 0
      · have hc0 : cap = 0 := by omega
        have hl0 : len = 0 := by omega
        subst hc0; subst hl0
        have t0 := shut_ints (enc := enc) (w := V2) (base := 0) (spare := sp) (held := true) (a := ⟨b, off, none⟩) (len := 0) (cap := 0) (zs := zs) 0 ht he hc (Nat.zero_le _) (Nat.le_refl _) hm (by simp [hz0]) (fun i hi => by omega) hwz
        exact ⟨2, by simpa [Value.cells] using t0⟩
      · have hspb : sp b = true := hs (.cell b off) (MemPlace.mem_row.2 ⟨0, by omega, by simp⟩)
        have t0 := shut_ints (enc := enc) (w := V2) (base := 0) (spare := sp) (held := true) (a := ⟨b, off, none⟩) (len := len) (cap := cap) (zs := zs) 0 ht he hc (Nat.zero_le _) hl hm (by simp [hspb, hz]) (fun i hi => hE.cell (hcell i hi)) hwz
        exact ⟨2, by simpa [Value.cells] using t0⟩

theorem law_calls {f : FuncId} {args : List Value} {F : List Fct} (hf : FnB P f args [] F (IsV (.bool true))) (hF : ∀ g ∈ F, g.p (fun k => V1.heap[k]?)) : Calls P f args.toArray V1 fun e V2 => e = .returned (.bool true) ∧ W.Rest V1 V2 ∧ Ext V1 V2 := by
  have him : ∀ H : Array Obj, imm (fun _ => none) [] H = fun k => H[k]? := fun H => by funext k; simp [imm, ids]
  have ho : OK (fun _ => none) [] F V1 := ⟨fun _ _ h => (by cases h), fun _ _ => rfl, by simp [ids], by simp, fun g hg => by rw [him]; exact hF g hg⟩
  refine (hf.2 _ _ ho).mono fun e V2 hh => ?_
  obtain ⟨v, b, G, h1, h2, h3, h4, h5⟩ := hh
  obtain ⟨h6, h7, h8⟩ := h2
  subst h6 h7
  refine ⟨h1, h3, fun k o hk => ?_⟩
  rw [him, him] at h4
  exact h4 k o hk

theorem post_law {f : Func} {s : ChangeSpec} {V2 : World} {args : Array Value} {ds gs : List (DataW H)} {before : List MemPlace} {v : Value}
    (hW : DataW.Whole enc P f.params.toList s.vars false V1 args.toList ds gs before)
    (hres : ∀ (b : Nat) (sp : Nat → Bool) (hd : Bool), DataW.TrodAll enc P V2 b sp hd f.resultTypes.toList (v.resultList f.resultTypes.size) (s.fn H (ds ++ gs)).results [])
    (hargs : ∀ sp : Nat → Bool, (∀ p ∈ before, sp p.block = true) → DataW.TrodAll enc P V2 0 sp true f.params.toList args.toList (s.fn H (ds ++ gs)).args before)
    (hvars : ∀ sp : Nat → Bool, DataW.TrodVars enc P V2 sp s.vars (s.fn H (ds ++ gs)).vars [])
    (hr : W.Rest V1 V2) (hE : Ext V1 V2)
    (hok : ∀ (j : Nat) (t : TypeId) (r : Value), f.resultTypes[j]? = some t → (v.resultList f.resultTypes.size)[j]? = some r → Value.okWide P V2 .any 0 t r) :
    s.post enc P f false true false false V1 args v V2 := by
  have hold : ∀ p ∈ before, (fun b => decide (b < V1.heap.size)) p.block = true := fun p hp => by simpa using hW.lt p hp
  refine ⟨ds, gs, before, [], before, [], hW, hres _ _ _, hargs _ hold, hvars _, ⟨hr.os, hr.output, fun i hi => ?_⟩, fun h => by cases h⟩
  have hk := hE i V1.heap[i] (Array.getElem?_eq_getElem hi)
  rw [hk, Array.getElem?_eq_getElem hi]
  cases V1.heap[i] <;> simp
end
theorem Try.own : ownKnob Try.prog.godebug = none := by kernel_rfl
end Go.Proofs.Ytgacbfckaglhbaa
namespace Go.Proofs.Ytgacbfckaglhbaa
open Go.ChangeShapes Go.WideShapes Go.ChangeAt Go.RowKit
open W

theorem Try.int3 : Try.prog.underlying 3 = some (.int .i64) := by kernel_rfl
theorem Try.sl22 : Try.prog.underlying 22 = some (.slice 3) := by kernel_rfl
theorem Try.bool4 : Try.prog.underlying 4 = some .bool := by kernel_rfl
theorem Try.one3 : Try.prog.cellsOf 3 = 1 := by kernel_rfl

set_option maxRecDepth 100000 in
theorem scheduleMore_lifted (os : Os) (started : os.Started) (H : Type) (enc : TypeId × Value → H) :
    ReturnsInHanded {} Try.checked os 5 .any (Rows.scheduleMoreSpec.pre6 enc Try.prog Try.f5 Rows.scheduleMoreRow.domain false) (Rows.scheduleMoreSpec.post enc Try.prog Try.f5 false true false false) := by
  refine returnsInHanded_of_change (C := Try.checked) Try.own started (by kernel_rfl) Try.func5
    (ChangeSpec.witness6 (enc := enc) (C := Try.checked) false ⟨#[], #[.slice none 0 0, .int .i64 0, .int .i64 0, .int .i64 0], []⟩ 8 (by kernel_rfl) (by kernel_rfl) (by kernel_rfl) (by kernel_rfl)) ?_
  intro V1 base args ds gs before hval0 hW hcnd _
  have hval : ∀ (j : Nat) t v, Try.f5.params[j]? = some t → args[j]? = some v → Value.okWide Try.prog V1 .any base t v := hval0
  have hW' := hW
  obtain ⟨p, q, hA0, hV, rfl, hfz, hnd⟩ := hW
  have hA : DataW.TrodAll enc Try.prog V1 0 (fun _ => true) true Try.f5.params.toList args.toList ds p := hA0
  rw [Try.params5] at hA hval
  obtain ⟨args⟩ := args
  obtain ⟨v0, a1, d0, e1, p0, q1, rfl, rfl, rfl, h0, hA⟩ := trodAll_cons hA
  obtain ⟨v1, a2, d1, e2, p1, q2, rfl, rfl, rfl, h1, hA⟩ := trodAll_cons hA
  obtain ⟨v2, a3, d2, e3, p2, q3, rfl, rfl, rfl, h2, hA⟩ := trodAll_cons hA
  obtain ⟨v3, a4, d3, e4, p3, q4, rfl, rfl, rfl, h3, hA⟩ := trodAll_cons hA
  obtain ⟨rfl, rfl, rfl⟩ := trodAll_nil hA
  obtain ⟨rfl, rfl⟩ := trodVars_none hV
  obtain ⟨l0, hl0, f0, g0⟩ := arg_ints Try.sl22 Try.int3 Try.one3 (hval 0 22 v0 rfl rfl) h0
  obtain ⟨n1, rfl, hl1, g1⟩ := arg_int Try.int3 (hval 1 3 v1 rfl rfl) h1
  obtain ⟨n2, rfl, hl2, g2⟩ := arg_int Try.int3 (hval 2 3 v2 rfl rfl) h2
  obtain ⟨n3, rfl, hl3, g3⟩ := arg_int Try.int3 (hval 3 3 v3 rfl rfl) h3
  simp only [List.append_nil] at hW'
  refine (law_calls (Mor.lmore_c v0 l0 n1 n2 n3 hl0 hl1 hl2 hl3) (fun g hg => ?_)).mono fun e V2 hh2 => ?_
  · simp only [List.mem_cons, List.not_mem_nil, or_false] at hg
    subst hg
    exact f0
  · obtain ⟨he, hr, hE⟩ := hh2
    refine ⟨_, he, post_law hW' (fun _ _ _ => trodAll_mk1 (shut_bool Try.bool4 _)) (fun sp hsp => ?_) (fun _ => rfl) hr hE (ok_one (by kernel_rfl) rfl (okWide_bool_mk Try.bool4 _))⟩
    have := (AgainAll.cons g0 (AgainAll.cons g1 (AgainAll.cons g2 (AgainAll.cons g3 AgainAll.nil)))) V2 sp hE (by simpa using hsp)
    simp only [List.append_nil] at this
    show DataW.TrodAll enc Try.prog V2 0 sp true Try.f5.params.toList _ _ _
    rw [Try.params5]
    exact this

theorem scheduleMore_holds : Rows.ScheduleMoreSaid :=
  OpenClaim.holds_of_wide 5 Try.f5 rfl rfl rfl rfl rfl rfl rfl ⟨rfl, rfl, rfl, rfl, rfl⟩ rfl rfl rfl rfl rfl (by kernel_rfl) Try.func5 (by kernel_rfl)
    (of_decide_eq_true (by kernel_rfl)) (by unfold Func.isWrapper; first | (rw [if_pos (by decide +kernel)]; kernel_rfl) | (rw [if_neg (by decide +kernel)]; exact ⟨rfl, rfl⟩))
    (fun os started H enc _ => scheduleMore_lifted os started H enc)
#print axioms scheduleMore_holds
end Go.Proofs.Ytgacbfckaglhbaa
