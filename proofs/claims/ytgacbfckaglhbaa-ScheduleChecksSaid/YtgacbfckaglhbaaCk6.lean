/- The law ScheduleChecks returns true for every input and leaves its arguments as they were. Conditions: none. -/
import Derived.Test.YtgacbfckaglhbaaCk5
import Derived.Test.YtgacbfckaglhbaaRows
import Derived.ProofKit
import Derived.ChangeSlices
namespace Go.Proofs.Ytgacbfckaglhbaa
open W Go.RowKit

theorem three_best : bestP three 2 = ([0, 3, 3], [0, 0, 1], 5, 0) := by decide +kernel
theorem three_bound : boundP three 2 = ([0, 2], 0, 5) := by decide +kernel
theorem three_l1 : lstN three 2 [1, 0, 2] 3 = ([0, 0, 3], [1, 0, 0], 5) := by decide +kernel
theorem three_l2 : lstN three 2 [0, 2, 1] 3 = ([0, 5, 3], [0, 0, 0], 7) := by decide +kernel
theorem three_good : AllGood 2 three := fun i hi => by
  match i, hi with
  | 0, _ => exact ⟨by decide, by decide, by decide, by decide, fun k hk => by simp [three] at hk⟩
  | 1, _ => exact ⟨by decide, by decide, by decide, by decide, fun k hk => by simp [three] at hk⟩
  | 2, _ => exact ⟨by decide, by decide, by decide, by decide, fun k hk => by
      have : k = 0 := by simp [three] at hk; omega
      subst this; exact ⟨by decide, by decide, fun h => by omega⟩⟩
theorem three_valid : validE three 2 = 0 := validE_ok (by decide) (by decide) (by decide) three_good
theorem three_i64 : TI64 three := fun i => by
  match i with
  | 0 => unfold I64; simp [three]
  | 1 => unfold I64; simp [three]
  | 2 => unfold I64; simp [three]
  | (_ + 3) => unfold I64; simp [three, tk0]
theorem three_check : checkP three 2 [0, 3, 3] [0, 0, 1] = (5, 0) :=
  (checkP_ok (m := 2) three_valid (by decide) (by decide) (by unfold Feas okTask pairOK; decide +kernel)).trans (by decide +kernel)
theorem three_list1 : listP three 2 [1, 0, 2] = ([0, 0, 3], [1, 0, 0], 5, 0) := by
  have h := listP_ok (m := 2) (o := [1, 0, 2]) three_valid (by decide) (by unfold okOrder okAt; decide +kernel)
  rw [show three.length = 3 from rfl, three_l1] at h; exact h
theorem three_list2 : listP three 2 [0, 2, 1] = ([0, 5, 3], [0, 0, 0], 7, 0) := by
  have h := listP_ok (m := 2) (o := [0, 2, 1]) three_valid (by decide) (by unfold okOrder okAt; decide +kernel)
  rw [show three.length = 3 from rfl, three_l2] at h; exact h
attribute [local irreducible] WC WL WD YO LO LoopEnd W.Fin Scalar SliceT FieldAt Row ArrT AllocT KnS Has W.One SrcE IntT

set_option maxHeartbeats 4000000 in
set_option maxRecDepth 8000 in
theorem lives_c : FnB Try.prog 17 [] [] [] (IsV (.bool true)) := by
  refine fn_of [] 112 Try.func17 rfl Try.ntmps17 (by kernel_rfl) rfl (by repeat (first | exact Sub.nil _ | refine Sub.cons rfl ?_)) fun h0 => ?_
  repeat' (first | refine go ?_ | refine goX ?_ | refine goB ?_ | (refine goG ?_; intro g) | (refine goV ?_; intro v))
  refine WL.callG [] _ (.refl _) three_c ?_
  rintro v1 _ _ ⟨avs1, rfl, rfl⟩
  simp only [List.nil_append, List.cons_append]
  have h1 := best_c v1 avs1 three 2 three_i64
  rw [if_pos three_valid, three_best] at h1
  first | refine WL.callP (h1) ?_ | refine WD.callP (h1) ?_
  rintro _ _ _ ⟨a1, c1, rfl, rfl, rfl⟩
  simp only [List.cons_append, List.nil_append]
  repeat' (first | refine go ?_ | refine goX ?_ | refine goB ?_ | (refine goG ?_; intro g) | (refine goV ?_; intro v))
  refine WL.callG [] _ (.refl _) three_c ?_
  rintro v2 _ _ ⟨avs2, rfl, rfl⟩
  simp only [List.nil_append, List.cons_append]
  have h2 := check_c v2 a1 c1 avs2 three 2 [0, 3, 3] [0, 0, 1] three_i64
  rw [three_check] at h2
  repeat' (first | refine go ?_ | refine goX ?_ | refine goB ?_ | (refine goG ?_; intro g) | (refine goV ?_; intro v))
  first | refine WL.callV (h2) ?_ | refine WD.callV (h2) ?_
  repeat' (first | refine go ?_ | refine goX ?_ | refine goB ?_ | (refine goG ?_; intro g) | (refine goV ?_; intro v))
  refine WL.callG [] _ (.refl _) three_c ?_
  rintro v3 _ _ ⟨avs3, rfl, rfl⟩
  simp only [List.nil_append, List.cons_append]
  have h3 := bound_c v3 avs3 three 2 three_i64
  rw [if_pos three_valid, three_valid, show (2 : Int).toNat = 2 from rfl, three_bound] at h3
  first | refine WL.callP (h3) ?_ | refine WD.callP (h3) ?_
  rintro _ _ _ ⟨c3, rfl, rfl, rfl⟩
  simp only [List.cons_append, List.nil_append]
  repeat' (first | refine go ?_ | refine goX ?_ | refine goB ?_ | (refine goG ?_; intro g) | (refine goV ?_; intro v))
  refine WL.callG [] _ (.refl _) three_c ?_
  rintro v4 _ _ ⟨avs4, rfl, rfl⟩
  simp only [List.nil_append, List.cons_append]
  repeat' (first | refine go ?_ | refine goX ?_ | refine goB ?_ | (refine goG ?_; intro g) | (refine goV ?_; intro v))
  revert v; intro u4
  have h4 := list_c v4 u4 avs4 three 2 [1, 0, 2] three_i64
  rw [three_list1] at h4
  first | refine WL.callP (h4) ?_ | refine WD.callP (h4) ?_
  rintro _ _ _ ⟨a4, c4, rfl, rfl, rfl⟩
  simp only [List.cons_append, List.nil_append]
  repeat' (first | refine go ?_ | refine goX ?_ | refine goB ?_ | (refine goG ?_; intro g) | (refine goV ?_; intro v))
  refine WL.callG [] _ (.refl _) three_c ?_
  rintro v5 _ _ ⟨avs5, rfl, rfl⟩
  simp only [List.nil_append, List.cons_append]
  repeat' (first | refine go ?_ | refine goX ?_ | refine goB ?_ | (refine goG ?_; intro g) | (refine goV ?_; intro v))
  revert v; intro u5
  have h5 := list_c v5 u5 avs5 three 2 [0, 2, 1] three_i64
  rw [three_list2] at h5
  first | refine WL.callP (h5) ?_ | refine WD.callP (h5) ?_
  rintro _ _ _ ⟨a5, c5, rfl, rfl, rfl⟩
  simp only [List.cons_append, List.nil_append]
  repeat' (first | refine go ?_ | refine goX ?_ | refine goB ?_ | (refine goG ?_; intro g) | (refine goV ?_; intro v))
  first | refine WL.callV (sameInts_c c3 v [0, 2] [0, 2]) ?_ | refine WD.callV (sameInts_c c3 v [0, 2] [0, 2]) ?_
  rw [decide_eq_true rfl]
  repeat' (first | refine go ?_ | refine goX ?_ | refine goB ?_ | (refine goG ?_; intro g) | (refine goV ?_; intro v))
  first | refine WL.callV (sameInts_c a4 v [0, 0, 3] [0, 0, 3]) ?_ | refine WD.callV (sameInts_c a4 v [0, 0, 3] [0, 0, 3]) ?_
  rw [decide_eq_true rfl]
  repeat' (first | refine go ?_ | refine goX ?_ | refine goB ?_ | (refine goG ?_; intro g) | (refine goV ?_; intro v))
  first | refine WL.callV (sameInts_c c4 v [1, 0, 0] [1, 0, 0]) ?_ | refine WD.callV (sameInts_c c4 v [1, 0, 0] [1, 0, 0]) ?_
  rw [decide_eq_true rfl]
  repeat' (first | refine go ?_ | refine goX ?_ | refine goB ?_ | (refine goG ?_; intro g) | (refine goV ?_; intro v))
  refine WC.ret ?_
  exact Fin.v (ResE.t1 rfl rfl) (by (repeat (first | exact List.Mem.head _ | apply List.Mem.tail)); done) rfl
end Go.Proofs.Ytgacbfckaglhbaa
namespace Go.Proofs.Ytgacbfckaglhbaa
open W Go.RowKit

section
variable {e : Env} {bx : List Ow} {F : List Fct} {ty : TypeId} {x y x1 x2 x3 x4 : Operand} {a b c d a1 a2 b1 b2 c1 c2 d1 d2 : Value} {na nb nc n1 n2 n3 n4 n5 n6 n7 n8 : Nat} {K : RPost}
theorem YO.build43 (h1 : ev e x = some a) (h2 : ev e y = some b) (ka : KnS bx F a na) (kb : KnS bx F b nb) : YO Try.prog (.build 43 #[(0, x), (1, y)]) ty e bx F (.agg [a, b].toArray) := fun k fr ac w o hop hty hk ho => by
  obtain ⟨p1, q1, rfl, _⟩ := (ka fr w ho).is
  obtain ⟨p2, q2, rfl, _⟩ := (kb fr w ho).is
  exact (YO.build (P := Try.prog) (bx := bx) (F := F) (ty := ty) (parts := [(0, x), (1, y)]) (.cons h1 (.cons h2 .nil)) fun w => run_build w 43 _ _ (by kernel_rfl)) k fr ac w o hop hty hk ho
theorem LO.bs39 (h1 : ev e x1 = some a) (h2 : ev e x2 = some b) (h3 : ev e x3 = some c) (k1 : KnS bx F a na) (k2 : KnS bx F b nb) (k3 : KnS bx F c nc) (h : ∀ v, K v (Ow.slice v 22 1 [a, b, c] :: bx) F) : LO Try.prog (.buildSlice 39 3 #[(0, x1), (1, x2), (2, x3)]) ty e bx F K := fun k fr ac w o next Q' hop hty hk ho hn => by
  obtain ⟨p1, q1, rfl, _⟩ := (k1 fr w ho).is
  obtain ⟨p2, q2, rfl, _⟩ := (k2 fr w ho).is
  obtain ⟨p3, q3, rfl, _⟩ := (k3 fr w ho).is
  exact LO.buildSlice (P := Try.prog) (t := 39) (el := 22) (sz := 1) (len := 3) (parts := [(0, x1), (1, x2), (2, x3)]) (.cons h1 (.cons h2 (.cons h3 .nil))) (fun w => by kernel_rfl) rfl (by decide) h k fr ac w o next Q' hop hty hk ho hn
theorem LO.bs44 (h1 : ev e x1 = some (.agg [a1, a2].toArray)) (h2 : ev e x2 = some (.agg [b1, b2].toArray)) (h3 : ev e x3 = some (.agg [c1, c2].toArray)) (h4 : ev e x4 = some (.agg [d1, d2].toArray))
    (k1 : KnS bx F a1 n1) (k2 : KnS bx F a2 n2) (k3 : KnS bx F b1 n3) (k4 : KnS bx F b2 n4) (k5 : KnS bx F c1 n5) (k6 : KnS bx F c2 n6) (k7 : KnS bx F d1 n7) (k8 : KnS bx F d2 n8)
    (h : ∀ v, K v (Ow.slice v 43 2 [a1, a2, b1, b2, c1, c2, d1, d2] :: bx) F) : LO Try.prog (.buildSlice 44 4 #[(0, x1), (1, x2), (2, x3), (3, x4)]) ty e bx F K := fun k fr ac w o next Q' hop hty hk ho hn => by
  obtain ⟨p1, q1, rfl, _⟩ := (k1 fr w ho).is
  obtain ⟨p2, q2, rfl, _⟩ := (k2 fr w ho).is
  obtain ⟨p3, q3, rfl, _⟩ := (k3 fr w ho).is
  obtain ⟨p4, q4, rfl, _⟩ := (k4 fr w ho).is
  obtain ⟨p5, q5, rfl, _⟩ := (k5 fr w ho).is
  obtain ⟨p6, q6, rfl, _⟩ := (k6 fr w ho).is
  obtain ⟨p7, q7, rfl, _⟩ := (k7 fr w ho).is
  obtain ⟨p8, q8, rfl, _⟩ := (k8 fr w ho).is
  exact LO.buildSlice (P := Try.prog) (t := 44) (el := 43) (sz := 2) (len := 4) (parts := [(0, x1), (1, x2), (2, x3), (3, x4)]) (.cons h1 (.cons h2 (.cons h3 (.cons h4 .nil)))) (fun w => by kernel_rfl) rfl (by decide) h k fr ac w o next Q' hop hty hk ho hn
variable {P : Program} {t el len sz j k : Nat} {v : Value}
theorem YO.ixE (ht : ArrT P t el len sz) (hx : ev e x = some (.pointer (some (eaddr v j)))) (hy : ev e y = some (.int .i64 (k : Int))) (hk' : k < len) : YO P (.indexAddr t x y) ty e bx F (.pointer (some (eaddr v (j + k * sz)))) := by
  have := YO.ixB (P := P) (ty := ty) (bx := bx) (F := F) (b := (eaddr v j).block) (q := (eaddr v j).off) ht (by rw [hx]; congr 2; exact congrArg some (by rw [show (⟨(eaddr v j).block, (eaddr v j).off, none⟩ : Addr) = eaddr v (j + 0) from eaddr_add v j 0]; rfl)) hy hk'
  rwa [eaddr_add] at this
end

theorem listP_len {ts : List Tk} {m : Int} {o : List Int} : (listP ts m o).1.length ≤ 10 ∧ (listP ts m o).2.1.length ≤ 10 ∧ (listP ts m o).2.1.length = (listP ts m o).1.length := by
  by_cases h : validE ts m = 0
  · by_cases h1 : o.length = ts.length
    · obtain ⟨hl, M, rfl, hM1, hM4, hg⟩ := validE_0 h
      by_cases h2 : okOrder ts M o ts.length
      · rw [listP_ok h h1 h2]
        have hk := lst_ok hg o ts.length
        have h3 := hk.l1
        have h4 := hk.l2
        simp only; omega
      · have : ∃ j, j < ts.length ∧ ¬ okAt ts M o j := Classical.byContradiction fun hc => h2 fun j hj => Classical.byContradiction fun hn => hc ⟨j, hj, hn⟩
        obtain ⟨j, hj, hn⟩ := this
        rw [listP_no h h1 hj hn]; simp
    · rw [listP_l h h1]; simp
  · rw [listP_e h]; simp
theorem tk0_i64 : I64 tk0.time ∧ I64 tk0.on ∧ ∀ x ∈ tk0.after, I64 x := by unfold I64; simp [tk0]
theorem TI64.set {ts : List Tk} (h : TI64 ts) {i : Nat} {t : Tk} (ht : I64 t.time ∧ I64 t.on ∧ ∀ x ∈ t.after, I64 x) : TI64 (ts.set i t) := fun j => by
  rw [tg_set]; split
  · exact ht
  · exact h j
theorem bent_i64 {ts : List Tk} {m how byv : Int} (h : TI64 ts) (hn : ts.length ≤ 10) (hb : I64 byv) : TI64 (bentP ts m how byv).1 := by
  have hA := around_bd (n := byv) (m := max (ts.length : Int) 1) (by omega)
  obtain ⟨t1, t2, t3⟩ := h (around byv (max (ts.length : Int) 1)).toNat
  unfold bentP
  simp only
  split
  · exact h
  split
  · intro i
    rw [show tg (List.replicate 11 tk0) i = tk0 from by simp only [tg, List.getD_eq_getElem?_getD, List.getElem?_replicate]; split <;> rfl]
    exact tk0_i64
  split
  · exact h
  split
  · exact h.set ⟨hb, t2, t3⟩
  split
  · exact h.set ⟨t1, hb, t3⟩
  split
  · refine h.set ⟨t1, t2, fun x hx => ?_⟩
    rcases List.mem_append.1 hx with hx | hx
    · exact t3 x hx
    · simp at hx; subst hx; unfold I64; omega
  split
  · exact h.set ⟨t1, t2, fun x hx => by simp at hx; subst hx; unfold I64; omega⟩
  split
  · exact h.set ⟨t1, t2, fun x hx => by simp at hx; subst hx; unfold I64; omega⟩
  · exact h
end Go.Proofs.Ytgacbfckaglhbaa
namespace Go.Proofs.Ytgacbfckaglhbaa
open W Go.RowKit
theorem sC_of3 {F : List Fct} {a b c : Value} {A B C : List Int} (h1 : Has F (sI a A)) (h2 : Has F (sI b B)) (h3 : Has F (sI c C)) : Has F (sC [a, b, c] [A, B, C] 0) := fun ph hf j _ hj => by
  match j, hj with
  | 0, _ => exact h1 ph hf
  | 1, _ => exact h2 ph hf
  | 2, _ => exact h3 ph hf
theorem pick8 {a b mv ot a1 : Value} {z : Nat} (hz : z < 4) : [a, b, mv, b, a, ot, a1, b][z * 2 + 0 * 1]? = some ([a, mv, a, a1].getD z undef) ∧ [a, b, mv, b, a, ot, a1, b][z * 2 + 1 * 1]? = some ([b, b, ot, b].getD z undef) := by
  match z, hz with
  | 0, _ | 1, _ | 2, _ | 3, _ => exact ⟨rfl, rfl⟩
theorem sC_of4 {F : List Fct} {a b c d : Value} {A B C D : List Int} (h1 : Has F (sI a A)) (h2 : Has F (sI b B)) (h3 : Has F (sI c C)) (h4 : Has F (sI d D)) : Has F (sC [a, b, c, d] [A, B, C, D] 0) := fun ph hf j _ hj => by
  match j, hj with
  | 0, _ => exact h1 ph hf
  | 1, _ => exact h2 ph hf
  | 2, _ => exact h3 ph hf
  | 3, _ => exact h4 ph hf
attribute [local irreducible] WC WL WD YO LO LoopEnd W.Fin Scalar SliceT FieldAt Row ArrT AllocT KnS Has W.One SrcE IntT
set_option maxHeartbeats 8000000 in
set_option maxRecDepth 8000 in
theorem checks_c (v0 v3 v4 v5 : Value) (l order start on : List Int) (how byv : Int) (h0l : ∀ x ∈ l, I64 x) (h3l : ∀ x ∈ order, I64 x) (h5l : ∀ x ∈ on, I64 x) (hh : I64 how) (hb : I64 byv) :
    FnB Try.prog 4 [v0, .int .i64 how, .int .i64 byv, v3, v4, v5] [] [sI v0 l, sI v3 order, sI v4 start, sI v5 on] (IsV (.bool true)) := by
  refine fn_of [(0, v0), (1, .int .i64 how), (2, .int .i64 byv), (3, v3), (4, v4), (5, v5)] 239 Try.func4 rfl Try.ntmps4 (by kernel_rfl) rfl (by repeat (first | exact Sub.nil _ | refine Sub.cons rfl ?_)) fun h0 => ?_
  repeat' (first | refine go ?_ | refine goX ?_ | refine goB ?_ | (refine goG ?_; intro g) | (refine goV ?_; intro v) | refine goD ?_ | refine goXD ?_ | (refine goDG ?_; intro g) | (refine goDV ?_; intro v) | (apply WC.draw (id := 27) [0, 1, 2, 3, 4, 5, 6, 7, 8, 9, 10, 11, 13, 14, 15, 16, 17] (.held 0 (.held 1 (.held 2 (.held 3 (.held 4 (.held 5 (.held 6 (.held 7 (.held 8 (.held 9 (.held 10 (.held 11 (.loud 12 (.held 13 (.held 14 (.held 15 (.held 16 (.held 17 (.done))))))))))))))))))) mixed (by kernel_rfl)) | (apply WC.draw (id := 28) [0, 1, 2, 3, 4, 5, 6, 7, 8, 9, 10, 11, 13, 14, 15, 16, 17] (.held 0 (.held 1 (.held 2 (.held 3 (.held 4 (.held 5 (.held 6 (.held 7 (.held 8 (.held 9 (.held 10 (.held 11 (.loud 12 (.held 13 (.held 14 (.held 15 (.held 16 (.held 17 (.done))))))))))))))))))) mixed (by kernel_rfl)))
  refine WL.callG [] _ (.refl _) (tasks_c v0 l 7 (by decide) h0l) ?_
  rintro u0 _ _ ⟨avs0, rfl, rfl⟩
  simp only [List.nil_append, List.cons_append]
  have hg : AllGood (machP l).toNat (tasksP l 7) := tasks_good l (cntP l 7)
  have hmb := mach_bd l
  have htl : (tasksP l 7).length ≤ 7 := by rw [tasksN_len, cntP]; omega
  have hti := good_i64 hg (by omega) (by omega)
  have hta : ∀ i, (tg (tasksP l 7) i).after.length ≤ 100 := fun i => by
    by_cases hi : i < cntP l 7
    · rw [tasksN_get hi]
      have := aft_len (y := tyP l i) i
      have : cntP l 7 ≤ 7 := by rw [cntP]; omega
      show (aftP (tyP l i) i).length ≤ 100
      omega
    · have : tg (tasksP l 7) i = tk0 := by simp [tg, List.getD_eq_getElem?_getD, tasksN_len, List.getElem?_eq_none, hi]
      rw [this]; simp [tk0]
  have hol : (ordP (tasksP l 7) order).length ≤ 7 := by
    have h := ord_ok hg order (tasksP l 7).length (Nat.le_refl _)
    have := h.out
    show (ordN _ _ _).2.length ≤ 7
    omega
  generalize hts : tasksP l 7 = ts at *
  repeat' (first | refine go ?_ | refine goX ?_ | refine goB ?_ | (refine goG ?_; intro g) | (refine goV ?_; intro v) | refine goD ?_ | refine goXD ?_ | (refine goDG ?_; intro g) | (refine goDV ?_; intro v) | (apply WC.draw (id := 27) [0, 1, 2, 3, 4, 5, 6, 7, 8, 9, 10, 11, 13, 14, 15, 16, 17] (.held 0 (.held 1 (.held 2 (.held 3 (.held 4 (.held 5 (.held 6 (.held 7 (.held 8 (.held 9 (.held 10 (.held 11 (.loud 12 (.held 13 (.held 14 (.held 15 (.held 16 (.held 17 (.done))))))))))))))))))) mixed (by kernel_rfl)) | (apply WC.draw (id := 28) [0, 1, 2, 3, 4, 5, 6, 7, 8, 9, 10, 11, 13, 14, 15, 16, 17] (.held 0 (.held 1 (.held 2 (.held 3 (.held 4 (.held 5 (.held 6 (.held 7 (.held 8 (.held 9 (.held 10 (.held 11 (.loud 12 (.held 13 (.held 14 (.held 15 (.held 16 (.held 17 (.done))))))))))))))))))) mixed (by kernel_rfl)))
  first | refine WL.callV (machines_c v0 l h0l) ?_ | refine WD.callV (machines_c v0 l h0l) ?_
  rw [show 1 + atP l 0 3 = machP l from rfl]
  repeat' (first | refine go ?_ | refine goX ?_ | refine goB ?_ | (refine goG ?_; intro g) | (refine goV ?_; intro v) | refine goD ?_ | refine goXD ?_ | (refine goDG ?_; intro g) | (refine goDV ?_; intro v) | (apply WC.draw (id := 27) [0, 1, 2, 3, 4, 5, 6, 7, 8, 9, 10, 11, 13, 14, 15, 16, 17] (.held 0 (.held 1 (.held 2 (.held 3 (.held 4 (.held 5 (.held 6 (.held 7 (.held 8 (.held 9 (.held 10 (.held 11 (.loud 12 (.held 13 (.held 14 (.held 15 (.held 16 (.held 17 (.done))))))))))))))))))) mixed (by kernel_rfl)) | (apply WC.draw (id := 28) [0, 1, 2, 3, 4, 5, 6, 7, 8, 9, 10, 11, 13, 14, 15, 16, 17] (.held 0 (.held 1 (.held 2 (.held 3 (.held 4 (.held 5 (.held 6 (.held 7 (.held 8 (.held 9 (.held 10 (.held 11 (.loud 12 (.held 13 (.held 14 (.held 15 (.held 16 (.held 17 (.done))))))))))))))))))) mixed (by kernel_rfl)))
  refine WL.callG [] _ (.refl _) (Bnt.bent_c u0 avs0 ts (machP l) how byv (by omega) hta hh hb) ?_
  rintro _ _ _ ⟨u1, avs1, rfl, rfl, rfl⟩
  simp only [List.nil_append, List.cons_append]
  have hti1 := bent_i64 (m := machP l) (how := how) (byv := byv) hti (by omega) hb
  generalize hbp : bentP ts (machP l) how byv = bp at *
  obtain ⟨ts1, m1⟩ := bp
  repeat' (first | refine go ?_ | refine goX ?_ | refine goB ?_ | (refine goG ?_; intro g) | (refine goV ?_; intro v) | refine goD ?_ | refine goXD ?_ | (refine goDG ?_; intro g) | (refine goDV ?_; intro v) | (apply WC.draw (id := 27) [0, 1, 2, 3, 4, 5, 6, 7, 8, 9, 10, 11, 13, 14, 15, 16, 17] (.held 0 (.held 1 (.held 2 (.held 3 (.held 4 (.held 5 (.held 6 (.held 7 (.held 8 (.held 9 (.held 10 (.held 11 (.loud 12 (.held 13 (.held 14 (.held 15 (.held 16 (.held 17 (.done))))))))))))))))))) mixed (by kernel_rfl)) | (apply WC.draw (id := 28) [0, 1, 2, 3, 4, 5, 6, 7, 8, 9, 10, 11, 13, 14, 15, 16, 17] (.held 0 (.held 1 (.held 2 (.held 3 (.held 4 (.held 5 (.held 6 (.held 7 (.held 8 (.held 9 (.held 10 (.held 11 (.loud 12 (.held 13 (.held 14 (.held 15 (.held 16 (.held 17 (.done))))))))))))))))))) mixed (by kernel_rfl)))
  first | refine WL.callO (order_c u0 v3 avs0 ts order (machP l).toNat hg (by omega) h3l) (fun rv => ?_) | refine WD.callO (order_c u0 v3 avs0 ts order (machP l).toNat hg (by omega) h3l) (fun rv => ?_)
  revert rv; intro og
  refine WL.freezeI (el := 3) (l := ordP ts order) (by repeat (first | exact Sel.head | apply Sel.tail)) ?_
  generalize hO : ordP ts order = O at *
  repeat' (first | refine go ?_ | refine goX ?_ | refine goB ?_ | (refine goG ?_; intro g) | (refine goV ?_; intro v) | refine goD ?_ | refine goXD ?_ | (refine goDG ?_; intro g) | (refine goDV ?_; intro v) | (apply WC.draw (id := 27) [0, 1, 2, 3, 4, 5, 6, 7, 8, 9, 10, 11, 13, 14, 15, 16, 17] (.held 0 (.held 1 (.held 2 (.held 3 (.held 4 (.held 5 (.held 6 (.held 7 (.held 8 (.held 9 (.held 10 (.held 11 (.loud 12 (.held 13 (.held 14 (.held 15 (.held 16 (.held 17 (.done))))))))))))))))))) mixed (by kernel_rfl)) | (apply WC.draw (id := 28) [0, 1, 2, 3, 4, 5, 6, 7, 8, 9, 10, 11, 13, 14, 15, 16, 17] (.held 0 (.held 1 (.held 2 (.held 3 (.held 4 (.held 5 (.held 6 (.held 7 (.held 8 (.held 9 (.held 10 (.held 11 (.loud 12 (.held 13 (.held 14 (.held 15 (.held 16 (.held 17 (.done))))))))))))))))))) mixed (by kernel_rfl)))
  first | refine WL.callO (take_c v3 order 8 (by decide)) (fun rv => ?_) | refine WD.callO (take_c v3 order 8 (by decide)) (fun rv => ?_)
  revert rv; intro tk
  refine WL.freezeI (el := 3) (l := order.take 8) (by repeat (first | exact Sel.head | apply Sel.tail)) ?_
  refine goV ?_; intro w1
  refine go ?_
  refine goV ?_; intro w2
  refine goV ?_; intro w3
  refine goV ?_; intro th
  rw [show ([] ++ ints O) ++ [Value.int .i64 0] = ints (O ++ [0]) from by simp [ints]]
  refine WL.freezeI (el := 3) (l := O ++ [0]) (by repeat (first | exact Sel.head | apply Sel.tail)) ?_
  (apply WL.l; exact rfl; exact rfl; apply LO.bs39; exact rfl; exact rfl; exact rfl; (first | (focus (apply KnS.f; (focus (apply Has.mem; (repeat (first | exact List.Mem.head _ | apply List.Mem.tail)); done)); done)) | (focus (apply KnS.oI; (repeat (first | exact List.Mem.head _ | apply List.Mem.tail)); done)) | (focus (apply KnS.o1; (repeat (first | exact List.Mem.head _ | apply List.Mem.tail)); done)) | (focus (apply KnS.f; apply hasA; (focus (apply Has.mem; (repeat (first | exact List.Mem.head _ | apply List.Mem.tail)); done)); omega; done))); (first | (focus (apply KnS.f; (focus (apply Has.mem; (repeat (first | exact List.Mem.head _ | apply List.Mem.tail)); done)); done)) | (focus (apply KnS.oI; (repeat (first | exact List.Mem.head _ | apply List.Mem.tail)); done)) | (focus (apply KnS.o1; (repeat (first | exact List.Mem.head _ | apply List.Mem.tail)); done)) | (focus (apply KnS.f; apply hasA; (focus (apply Has.mem; (repeat (first | exact List.Mem.head _ | apply List.Mem.tail)); done)); omega; done))); (first | (focus (apply KnS.f; (focus (apply Has.mem; (repeat (first | exact List.Mem.head _ | apply List.Mem.tail)); done)); done)) | (focus (apply KnS.oI; (repeat (first | exact List.Mem.head _ | apply List.Mem.tail)); done)) | (focus (apply KnS.o1; (repeat (first | exact List.Mem.head _ | apply List.Mem.tail)); done)) | (focus (apply KnS.f; apply hasA; (focus (apply Has.mem; (repeat (first | exact List.Mem.head _ | apply List.Mem.tail)); done)); omega; done))); intro ov)
  refine WL.fact (sC [og, tk, th] [O, order.take 8, O ++ [0]] 0) (sC_of3 (Has.mem (by (repeat (first | exact List.Mem.head _ | apply List.Mem.tail)); done)) (Has.mem (by (repeat (first | exact List.Mem.head _ | apply List.Mem.tail)); done)) (Has.mem (by (repeat (first | exact List.Mem.head _ | apply List.Mem.tail)); done))) ?_
  generalize hOL : [O, order.take 8, O ++ [0]] = OL
  have hOLl : OL.length = 3 := by rw [← hOL]; rfl
  clear hOL
  repeat' (first | refine go ?_ | refine goX ?_ | refine goB ?_ | (refine goG ?_; intro g) | (refine goV ?_; intro v) | refine goD ?_ | refine goXD ?_ | (refine goDG ?_; intro g) | (refine goDV ?_; intro v) | (apply WC.draw (id := 27) [0, 1, 2, 3, 4, 5, 6, 7, 8, 9, 10, 11, 13, 14, 15, 16, 17] (.held 0 (.held 1 (.held 2 (.held 3 (.held 4 (.held 5 (.held 6 (.held 7 (.held 8 (.held 9 (.held 10 (.held 11 (.loud 12 (.held 13 (.held 14 (.held 15 (.held 16 (.held 17 (.done))))))))))))))))))) mixed (by kernel_rfl)) | (apply WC.draw (id := 28) [0, 1, 2, 3, 4, 5, 6, 7, 8, 9, 10, 11, 13, 14, 15, 16, 17] (.held 0 (.held 1 (.held 2 (.held 3 (.held 4 (.held 5 (.held 6 (.held 7 (.held 8 (.held 9 (.held 10 (.held 11 (.loud 12 (.held 13 (.held 14 (.held 15 (.held 16 (.held 17 (.done))))))))))))))))))) mixed (by kernel_rfl)))
  refine WC.lp (σ := Nat × Value × List Value × List Tk × Int) (fun s => [(19, .int .i64 (s.1 : Int)), (13, s.2.1), (14, .int .i64 s.2.2.2.2), (15, u1), (16, .int .i64 m1), (18, ov), (2, .int .i64 byv), (4, v4), (5, v5)]) (fun _ => [Ow.slice ov 22 1 [og, tk, th]])
    (fun s => [ge h0, sT s.2.1 s.2.2.1 s.2.2.2.1, sA s.2.2.1 s.2.2.2.1, sT u1 avs1 ts1, sA avs1 ts1, sC [og, tk, th] OL 0, sI v4 start, sI v5 on]) (fun s => s.1 ≤ 2 ∧ TI64 s.2.2.2.1) (fun s => 2 - s.1) (0, u0, avs0, ts, machP l) ⟨by simp, hti⟩ ?_
  rintro ⟨i, u, av, t, mm⟩ ⟨hi, ht⟩
  simp only at hi ht ⊢
  clear hti hta hol htl hg hts hbp hO
  by_cases hi2 : i < 2
  · repeat' (first | refine go ?_ | refine goX ?_ | refine goB ?_ | (refine goG ?_; intro g) | (refine goV ?_; intro v) | refine goD ?_ | refine goXD ?_ | (refine goDG ?_; intro g) | (refine goDV ?_; intro v) | (apply WC.draw (id := 27) [0, 1, 2, 3, 4, 5, 6, 7, 8, 9, 10, 11, 13, 14, 15, 16, 17] (.held 0 (.held 1 (.held 2 (.held 3 (.held 4 (.held 5 (.held 6 (.held 7 (.held 8 (.held 9 (.held 10 (.held 11 (.loud 12 (.held 13 (.held 14 (.held 15 (.held 16 (.held 17 (.done))))))))))))))))))) mixed (by kernel_rfl)) | (apply WC.draw (id := 28) [0, 1, 2, 3, 4, 5, 6, 7, 8, 9, 10, 11, 13, 14, 15, 16, 17] (.held 0 (.held 1 (.held 2 (.held 3 (.held 4 (.held 5 (.held 6 (.held 7 (.held 8 (.held 9 (.held 10 (.held 11 (.loud 12 (.held 13 (.held 14 (.held 15 (.held 16 (.held 17 (.done))))))))))))))))))) mixed (by kernel_rfl)))
    refine WC.lp (σ := Nat) (fun j => [(20, .int .i64 (j : Int)), (19, .int .i64 (i : Int)), (13, u), (14, .int .i64 mm), (15, u1), (16, .int .i64 m1), (18, ov), (2, .int .i64 byv), (4, v4), (5, v5)]) (fun _ => [Ow.slice ov 22 1 [og, tk, th]])
      (fun _ => [ge h0, sT u av t, sA av t, sT u1 avs1 ts1, sA avs1 ts1, sC [og, tk, th] OL 0, sI v4 start, sI v5 on]) (fun j => j ≤ 3) (fun j => 3 - j) 0 (by decide) ?_
    rintro j hj
    by_cases hj3 : j < 3
    · repeat' (first | refine go ?_ | refine goX ?_ | refine goB ?_ | (refine goG ?_; intro g) | (refine goV ?_; intro v) | refine goD ?_ | refine goXD ?_ | (refine goDG ?_; intro g) | (refine goDV ?_; intro v) | (apply WC.draw (id := 27) [0, 1, 2, 3, 4, 5, 6, 7, 8, 9, 10, 11, 13, 14, 15, 16, 17] (.held 0 (.held 1 (.held 2 (.held 3 (.held 4 (.held 5 (.held 6 (.held 7 (.held 8 (.held 9 (.held 10 (.held 11 (.loud 12 (.held 13 (.held 14 (.held 15 (.held 16 (.held 17 (.done))))))))))))))))))) mixed (by kernel_rfl)) | (apply WC.draw (id := 28) [0, 1, 2, 3, 4, 5, 6, 7, 8, 9, 10, 11, 13, 14, 15, 16, 17] (.held 0 (.held 1 (.held 2 (.held 3 (.held 4 (.held 5 (.held 6 (.held 7 (.held 8 (.held 9 (.held 10 (.held 11 (.loud 12 (.held 13 (.held 14 (.held 15 (.held 16 (.held 17 (.done))))))))))))))))))) mixed (by kernel_rfl)))
      refine WL.fact (sI ([og, tk, th].getD j undef) (OL.getD j [])) (hasC (Has.mem (by (repeat (first | exact List.Mem.head _ | apply List.Mem.tail)); done)) (Nat.zero_le _) (by omega)) ?_
      generalize hw : [og, tk, th].getD j undef = w
      have hl := list_c u w av t mm (OL.getD j []) ht
      have hr := rlist_c u w av t mm (OL.getD j [])
      have hlen := listP_len (ts := t) (m := mm) (o := OL.getD j [])
      generalize listP t mm (OL.getD j []) = r at *
      obtain ⟨A, B, nn, er⟩ := r
      simp only at hlen
      (apply WL.k_load; (apply YO.ldOv (u := w); (first | exact T.sc3 | exact T.sc4 | exact T.sc5 | exact T.sc9 | exact T.sc22 | exact T.sc23 | exact T.sc28 | exact T.sc39 | exact T.sc44 | exact T.sc46 | exact T.sc51 | exact T.sc60 | exact T.sc66 | exact T.sc72 | exact T.sc84 | exact T.sc90 | exact T.sc91 | exact T.sc106 | exact T.sc108 | exact T.sc110); exact rfl; (repeat (first | exact List.Mem.head _ | apply List.Mem.tail)); exact hw; (simp; omega)); exact rfl; exact rfl)
      repeat' (first | refine go ?_ | refine goX ?_ | refine goB ?_ | (refine goG ?_; intro g) | (refine goV ?_; intro v) | refine goD ?_ | refine goXD ?_ | (refine goDG ?_; intro g) | (refine goDV ?_; intro v) | (apply WC.draw (id := 27) [0, 1, 2, 3, 4, 5, 6, 7, 8, 9, 10, 11, 13, 14, 15, 16, 17] (.held 0 (.held 1 (.held 2 (.held 3 (.held 4 (.held 5 (.held 6 (.held 7 (.held 8 (.held 9 (.held 10 (.held 11 (.loud 12 (.held 13 (.held 14 (.held 15 (.held 16 (.held 17 (.done))))))))))))))))))) mixed (by kernel_rfl)) | (apply WC.draw (id := 28) [0, 1, 2, 3, 4, 5, 6, 7, 8, 9, 10, 11, 13, 14, 15, 16, 17] (.held 0 (.held 1 (.held 2 (.held 3 (.held 4 (.held 5 (.held 6 (.held 7 (.held 8 (.held 9 (.held 10 (.held 11 (.loud 12 (.held 13 (.held 14 (.held 15 (.held 16 (.held 17 (.done))))))))))))))))))) mixed (by kernel_rfl)))
      first | refine WL.callP (hl) ?_ | refine WD.callP (hl) ?_
      rintro _ _ _ ⟨a, b, rfl, rfl, rfl⟩
      simp only [List.cons_append, List.nil_append]
      repeat' (first | refine go ?_ | refine goX ?_ | refine goB ?_ | (refine goG ?_; intro g) | (refine goV ?_; intro v) | refine goD ?_ | refine goXD ?_ | (refine goDG ?_; intro g) | (refine goDV ?_; intro v) | (apply WC.draw (id := 27) [0, 1, 2, 3, 4, 5, 6, 7, 8, 9, 10, 11, 13, 14, 15, 16, 17] (.held 0 (.held 1 (.held 2 (.held 3 (.held 4 (.held 5 (.held 6 (.held 7 (.held 8 (.held 9 (.held 10 (.held 11 (.loud 12 (.held 13 (.held 14 (.held 15 (.held 16 (.held 17 (.done))))))))))))))))))) mixed (by kernel_rfl)) | (apply WC.draw (id := 28) [0, 1, 2, 3, 4, 5, 6, 7, 8, 9, 10, 11, 13, 14, 15, 16, 17] (.held 0 (.held 1 (.held 2 (.held 3 (.held 4 (.held 5 (.held 6 (.held 7 (.held 8 (.held 9 (.held 10 (.held 11 (.loud 12 (.held 13 (.held 14 (.held 15 (.held 16 (.held 17 (.done))))))))))))))))))) mixed (by kernel_rfl)))
      (apply WL.k_load; (apply YO.ldOv (u := w); (first | exact T.sc3 | exact T.sc4 | exact T.sc5 | exact T.sc9 | exact T.sc22 | exact T.sc23 | exact T.sc28 | exact T.sc39 | exact T.sc44 | exact T.sc46 | exact T.sc51 | exact T.sc60 | exact T.sc66 | exact T.sc72 | exact T.sc84 | exact T.sc90 | exact T.sc91 | exact T.sc106 | exact T.sc108 | exact T.sc110); exact rfl; (repeat (first | exact List.Mem.head _ | apply List.Mem.tail)); exact hw; (simp; omega)); exact rfl; exact rfl)
      repeat' (first | refine go ?_ | refine goX ?_ | refine goB ?_ | (refine goG ?_; intro g) | (refine goV ?_; intro v) | refine goD ?_ | refine goXD ?_ | (refine goDG ?_; intro g) | (refine goDV ?_; intro v) | (apply WC.draw (id := 27) [0, 1, 2, 3, 4, 5, 6, 7, 8, 9, 10, 11, 13, 14, 15, 16, 17] (.held 0 (.held 1 (.held 2 (.held 3 (.held 4 (.held 5 (.held 6 (.held 7 (.held 8 (.held 9 (.held 10 (.held 11 (.loud 12 (.held 13 (.held 14 (.held 15 (.held 16 (.held 17 (.done))))))))))))))))))) mixed (by kernel_rfl)) | (apply WC.draw (id := 28) [0, 1, 2, 3, 4, 5, 6, 7, 8, 9, 10, 11, 13, 14, 15, 16, 17] (.held 0 (.held 1 (.held 2 (.held 3 (.held 4 (.held 5 (.held 6 (.held 7 (.held 8 (.held 9 (.held 10 (.held 11 (.loud 12 (.held 13 (.held 14 (.held 15 (.held 16 (.held 17 (.done))))))))))))))))))) mixed (by kernel_rfl)))
      first | refine WL.callP (hr) ?_ | refine WD.callP (hr) ?_
      rintro _ _ _ ⟨a', b', rfl, rfl, rfl⟩
      simp only [List.cons_append, List.nil_append]
      repeat' (first | refine go ?_ | refine goX ?_ | refine goB ?_ | (refine goG ?_; intro g) | (refine goV ?_; intro v) | refine goD ?_ | refine goXD ?_ | (refine goDG ?_; intro g) | (refine goDV ?_; intro v) | (apply WC.draw (id := 27) [0, 1, 2, 3, 4, 5, 6, 7, 8, 9, 10, 11, 13, 14, 15, 16, 17] (.held 0 (.held 1 (.held 2 (.held 3 (.held 4 (.held 5 (.held 6 (.held 7 (.held 8 (.held 9 (.held 10 (.held 11 (.loud 12 (.held 13 (.held 14 (.held 15 (.held 16 (.held 17 (.done))))))))))))))))))) mixed (by kernel_rfl)) | (apply WC.draw (id := 28) [0, 1, 2, 3, 4, 5, 6, 7, 8, 9, 10, 11, 13, 14, 15, 16, 17] (.held 0 (.held 1 (.held 2 (.held 3 (.held 4 (.held 5 (.held 6 (.held 7 (.held 8 (.held 9 (.held 10 (.held 11 (.loud 12 (.held 13 (.held 14 (.held 15 (.held 16 (.held 17 (.done))))))))))))))))))) mixed (by kernel_rfl)))
      first | refine WL.callV (sameInts_c a a' A A) ?_ | refine WD.callV (sameInts_c a a' A A) ?_
      rw [decide_eq_true rfl]
      repeat' (first | refine go ?_ | refine goX ?_ | refine goB ?_ | (refine goG ?_; intro g) | (refine goV ?_; intro v) | refine goD ?_ | refine goXD ?_ | (refine goDG ?_; intro g) | (refine goDV ?_; intro v) | (apply WC.draw (id := 27) [0, 1, 2, 3, 4, 5, 6, 7, 8, 9, 10, 11, 13, 14, 15, 16, 17] (.held 0 (.held 1 (.held 2 (.held 3 (.held 4 (.held 5 (.held 6 (.held 7 (.held 8 (.held 9 (.held 10 (.held 11 (.loud 12 (.held 13 (.held 14 (.held 15 (.held 16 (.held 17 (.done))))))))))))))))))) mixed (by kernel_rfl)) | (apply WC.draw (id := 28) [0, 1, 2, 3, 4, 5, 6, 7, 8, 9, 10, 11, 13, 14, 15, 16, 17] (.held 0 (.held 1 (.held 2 (.held 3 (.held 4 (.held 5 (.held 6 (.held 7 (.held 8 (.held 9 (.held 10 (.held 11 (.loud 12 (.held 13 (.held 14 (.held 15 (.held 16 (.held 17 (.done))))))))))))))))))) mixed (by kernel_rfl)))
      first | refine WL.callV (sameInts_c b b' B B) ?_ | refine WD.callV (sameInts_c b b' B B) ?_
      rw [decide_eq_true rfl]
      refine WL.freezeI (el := 3) (v := a) (l := A) (by repeat (first | exact Sel.head | apply Sel.tail)) ?_
      refine WL.freezeI (el := 3) (v := b) (l := B) (by repeat (first | exact Sel.head | apply Sel.tail)) ?_
      repeat' (first | refine go ?_ | refine goX ?_ | refine goB ?_ | (refine goG ?_; intro g) | (refine goV ?_; intro v) | refine goD ?_ | refine goXD ?_ | (refine goDG ?_; intro g) | (refine goDV ?_; intro v) | (apply WC.draw (id := 27) [0, 1, 2, 3, 4, 5, 6, 7, 8, 9, 10, 11, 13, 14, 15, 16, 17] (.held 0 (.held 1 (.held 2 (.held 3 (.held 4 (.held 5 (.held 6 (.held 7 (.held 8 (.held 9 (.held 10 (.held 11 (.loud 12 (.held 13 (.held 14 (.held 15 (.held 16 (.held 17 (.done))))))))))))))))))) mixed (by kernel_rfl)) | (apply WC.draw (id := 28) [0, 1, 2, 3, 4, 5, 6, 7, 8, 9, 10, 11, 13, 14, 15, 16, 17] (.held 0 (.held 1 (.held 2 (.held 3 (.held 4 (.held 5 (.held 6 (.held 7 (.held 8 (.held 9 (.held 10 (.held 11 (.loud 12 (.held 13 (.held 14 (.held 15 (.held 16 (.held 17 (.done))))))))))))))))))) mixed (by kernel_rfl)))
      refine WC.lp (σ := Nat) (fun q => [(29, .int .i64 (q : Int)), (21, a), (22, b), (20, .int .i64 (j : Int)), (19, .int .i64 (i : Int)), (13, u), (14, .int .i64 mm), (15, u1), (16, .int .i64 m1), (18, ov), (2, .int .i64 byv), (4, v4), (5, v5)]) (fun _ => [Ow.slice ov 22 1 [og, tk, th]])
        (fun _ => [ge h0, sI a A, sI b B, sT u av t, sA av t, sT u1 avs1 ts1, sA avs1 ts1, sC [og, tk, th] OL 0, sI v4 start, sI v5 on]) (fun q => q ≤ A.length) (fun q => A.length - q) 0 (by simp) ?_
      rintro q hq
      by_cases hqA : q < A.length
      · by_cases hj0 : j = 0
        · repeat' (first | refine go ?_ | refine goX ?_ | refine goB ?_ | (refine goG ?_; intro g) | (refine goV ?_; intro v) | refine goD ?_ | refine goXD ?_ | (refine goDG ?_; intro g) | (refine goDV ?_; intro v) | (apply WC.draw (id := 27) [0, 1, 2, 3, 4, 5, 6, 7, 8, 9, 10, 11, 13, 14, 15, 16, 17] (.held 0 (.held 1 (.held 2 (.held 3 (.held 4 (.held 5 (.held 6 (.held 7 (.held 8 (.held 9 (.held 10 (.held 11 (.loud 12 (.held 13 (.held 14 (.held 15 (.held 16 (.held 17 (.done))))))))))))))))))) mixed (by kernel_rfl)) | (apply WC.draw (id := 28) [0, 1, 2, 3, 4, 5, 6, 7, 8, 9, 10, 11, 13, 14, 15, 16, 17] (.held 0 (.held 1 (.held 2 (.held 3 (.held 4 (.held 5 (.held 6 (.held 7 (.held 8 (.held 9 (.held 10 (.held 11 (.loud 12 (.held 13 (.held 14 (.held 15 (.held 16 (.held 17 (.done))))))))))))))))))) mixed (by kernel_rfl)))
          (apply WL.k_add; (apply YO.wadd; exact rfl; exact rfl); exact rfl; exact rfl)
          generalize IntKind.i64.wrap (A.getD q 0 + byv) = nw
          revert v; intro mv
          refine go ?_
          simp only [List.nil_append, ints_set]
          refine WL.freezeI (el := 3) (v := mv) (l := A.set q nw) (by repeat (first | exact Sel.head | apply Sel.tail)) ?_
          repeat' (first | refine go ?_ | refine goX ?_ | refine goB ?_ | (refine goG ?_; intro g) | (refine goV ?_; intro v) | refine goD ?_ | refine goXD ?_ | (refine goDG ?_; intro g) | (refine goDV ?_; intro v) | (apply WC.draw (id := 27) [0, 1, 2, 3, 4, 5, 6, 7, 8, 9, 10, 11, 13, 14, 15, 16, 17] (.held 0 (.held 1 (.held 2 (.held 3 (.held 4 (.held 5 (.held 6 (.held 7 (.held 8 (.held 9 (.held 10 (.held 11 (.loud 12 (.held 13 (.held 14 (.held 15 (.held 16 (.held 17 (.done))))))))))))))))))) mixed (by kernel_rfl)) | (apply WC.draw (id := 28) [0, 1, 2, 3, 4, 5, 6, 7, 8, 9, 10, 11, 13, 14, 15, 16, 17] (.held 0 (.held 1 (.held 2 (.held 3 (.held 4 (.held 5 (.held 6 (.held 7 (.held 8 (.held 9 (.held 10 (.held 11 (.loud 12 (.held 13 (.held 14 (.held 15 (.held 16 (.held 17 (.done))))))))))))))))))) mixed (by kernel_rfl)))
          revert v; intro ot
          have hat := atP_bd (l := on) (i := q) (m := 6) (by decide)
          first | refine WL.callV (at_c v5 on q 6 h5l (by decide)) ?_ | refine WD.callV (at_c v5 on q 6 h5l (by decide)) ?_
          repeat' (first | refine go ?_ | refine goX ?_ | refine goB ?_ | (refine goG ?_; intro g) | (refine goV ?_; intro v) | refine goD ?_ | refine goXD ?_ | (refine goDG ?_; intro g) | (refine goDV ?_; intro v) | (apply WC.draw (id := 27) [0, 1, 2, 3, 4, 5, 6, 7, 8, 9, 10, 11, 13, 14, 15, 16, 17] (.held 0 (.held 1 (.held 2 (.held 3 (.held 4 (.held 5 (.held 6 (.held 7 (.held 8 (.held 9 (.held 10 (.held 11 (.loud 12 (.held 13 (.held 14 (.held 15 (.held 16 (.held 17 (.done))))))))))))))))))) mixed (by kernel_rfl)) | (apply WC.draw (id := 28) [0, 1, 2, 3, 4, 5, 6, 7, 8, 9, 10, 11, 13, 14, 15, 16, 17] (.held 0 (.held 1 (.held 2 (.held 3 (.held 4 (.held 5 (.held 6 (.held 7 (.held 8 (.held 9 (.held 10 (.held 11 (.loud 12 (.held 13 (.held 14 (.held 15 (.held 16 (.held 17 (.done))))))))))))))))))) mixed (by kernel_rfl)))
          simp only [List.nil_append, ints_set]
          refine WL.freezeI (el := 3) (v := ot) (l := B.set q (atP on q 6 - 1)) (by repeat (first | exact Sel.head | apply Sel.tail)) ?_
          generalize B.set q (atP on q 6 - 1) = ON
          generalize A.set q nw = MV
          (apply WL.k_build; (apply YO.build43; exact rfl; exact rfl; (first | (focus (apply KnS.f; (focus (apply Has.mem; (repeat (first | exact List.Mem.head _ | apply List.Mem.tail)); done)); done)) | (focus (apply KnS.oI; (repeat (first | exact List.Mem.head _ | apply List.Mem.tail)); done)) | (focus (apply KnS.o1; (repeat (first | exact List.Mem.head _ | apply List.Mem.tail)); done)) | (focus (apply KnS.f; apply hasA; (focus (apply Has.mem; (repeat (first | exact List.Mem.head _ | apply List.Mem.tail)); done)); omega; done))); (first | (focus (apply KnS.f; (focus (apply Has.mem; (repeat (first | exact List.Mem.head _ | apply List.Mem.tail)); done)); done)) | (focus (apply KnS.oI; (repeat (first | exact List.Mem.head _ | apply List.Mem.tail)); done)) | (focus (apply KnS.o1; (repeat (first | exact List.Mem.head _ | apply List.Mem.tail)); done)) | (focus (apply KnS.f; apply hasA; (focus (apply Has.mem; (repeat (first | exact List.Mem.head _ | apply List.Mem.tail)); done)); omega; done)))); exact rfl; exact rfl)
          repeat' (first | refine go ?_ | refine goX ?_ | refine goB ?_ | (refine goG ?_; intro g) | (refine goV ?_; intro v) | refine goD ?_ | refine goXD ?_ | (refine goDG ?_; intro g) | (refine goDV ?_; intro v) | (apply WC.draw (id := 27) [0, 1, 2, 3, 4, 5, 6, 7, 8, 9, 10, 11, 13, 14, 15, 16, 17] (.held 0 (.held 1 (.held 2 (.held 3 (.held 4 (.held 5 (.held 6 (.held 7 (.held 8 (.held 9 (.held 10 (.held 11 (.loud 12 (.held 13 (.held 14 (.held 15 (.held 16 (.held 17 (.done))))))))))))))))))) mixed (by kernel_rfl)) | (apply WC.draw (id := 28) [0, 1, 2, 3, 4, 5, 6, 7, 8, 9, 10, 11, 13, 14, 15, 16, 17] (.held 0 (.held 1 (.held 2 (.held 3 (.held 4 (.held 5 (.held 6 (.held 7 (.held 8 (.held 9 (.held 10 (.held 11 (.loud 12 (.held 13 (.held 14 (.held 15 (.held 16 (.held 17 (.done))))))))))))))))))) mixed (by kernel_rfl)))
          (apply WL.k_build; (apply YO.build43; exact rfl; exact rfl; (first | (focus (apply KnS.f; (focus (apply Has.mem; (repeat (first | exact List.Mem.head _ | apply List.Mem.tail)); done)); done)) | (focus (apply KnS.oI; (repeat (first | exact List.Mem.head _ | apply List.Mem.tail)); done)) | (focus (apply KnS.o1; (repeat (first | exact List.Mem.head _ | apply List.Mem.tail)); done)) | (focus (apply KnS.f; apply hasA; (focus (apply Has.mem; (repeat (first | exact List.Mem.head _ | apply List.Mem.tail)); done)); omega; done))); (first | (focus (apply KnS.f; (focus (apply Has.mem; (repeat (first | exact List.Mem.head _ | apply List.Mem.tail)); done)); done)) | (focus (apply KnS.oI; (repeat (first | exact List.Mem.head _ | apply List.Mem.tail)); done)) | (focus (apply KnS.o1; (repeat (first | exact List.Mem.head _ | apply List.Mem.tail)); done)) | (focus (apply KnS.f; apply hasA; (focus (apply Has.mem; (repeat (first | exact List.Mem.head _ | apply List.Mem.tail)); done)); omega; done)))); exact rfl; exact rfl)
          repeat' (first | refine go ?_ | refine goX ?_ | refine goB ?_ | (refine goG ?_; intro g) | (refine goV ?_; intro v) | refine goD ?_ | refine goXD ?_ | (refine goDG ?_; intro g) | (refine goDV ?_; intro v) | (apply WC.draw (id := 27) [0, 1, 2, 3, 4, 5, 6, 7, 8, 9, 10, 11, 13, 14, 15, 16, 17] (.held 0 (.held 1 (.held 2 (.held 3 (.held 4 (.held 5 (.held 6 (.held 7 (.held 8 (.held 9 (.held 10 (.held 11 (.loud 12 (.held 13 (.held 14 (.held 15 (.held 16 (.held 17 (.done))))))))))))))))))) mixed (by kernel_rfl)) | (apply WC.draw (id := 28) [0, 1, 2, 3, 4, 5, 6, 7, 8, 9, 10, 11, 13, 14, 15, 16, 17] (.held 0 (.held 1 (.held 2 (.held 3 (.held 4 (.held 5 (.held 6 (.held 7 (.held 8 (.held 9 (.held 10 (.held 11 (.loud 12 (.held 13 (.held 14 (.held 15 (.held 16 (.held 17 (.done))))))))))))))))))) mixed (by kernel_rfl)))
          (apply WL.k_build; (apply YO.build43; exact rfl; exact rfl; (first | (focus (apply KnS.f; (focus (apply Has.mem; (repeat (first | exact List.Mem.head _ | apply List.Mem.tail)); done)); done)) | (focus (apply KnS.oI; (repeat (first | exact List.Mem.head _ | apply List.Mem.tail)); done)) | (focus (apply KnS.o1; (repeat (first | exact List.Mem.head _ | apply List.Mem.tail)); done)) | (focus (apply KnS.f; apply hasA; (focus (apply Has.mem; (repeat (first | exact List.Mem.head _ | apply List.Mem.tail)); done)); omega; done))); (first | (focus (apply KnS.f; (focus (apply Has.mem; (repeat (first | exact List.Mem.head _ | apply List.Mem.tail)); done)); done)) | (focus (apply KnS.oI; (repeat (first | exact List.Mem.head _ | apply List.Mem.tail)); done)) | (focus (apply KnS.o1; (repeat (first | exact List.Mem.head _ | apply List.Mem.tail)); done)) | (focus (apply KnS.f; apply hasA; (focus (apply Has.mem; (repeat (first | exact List.Mem.head _ | apply List.Mem.tail)); done)); omega; done)))); exact rfl; exact rfl)
          repeat' (first | refine go ?_ | refine goX ?_ | refine goB ?_ | (refine goG ?_; intro g) | (refine goV ?_; intro v) | refine goD ?_ | refine goXD ?_ | (refine goDG ?_; intro g) | (refine goDV ?_; intro v) | (apply WC.draw (id := 27) [0, 1, 2, 3, 4, 5, 6, 7, 8, 9, 10, 11, 13, 14, 15, 16, 17] (.held 0 (.held 1 (.held 2 (.held 3 (.held 4 (.held 5 (.held 6 (.held 7 (.held 8 (.held 9 (.held 10 (.held 11 (.loud 12 (.held 13 (.held 14 (.held 15 (.held 16 (.held 17 (.done))))))))))))))))))) mixed (by kernel_rfl)) | (apply WC.draw (id := 28) [0, 1, 2, 3, 4, 5, 6, 7, 8, 9, 10, 11, 13, 14, 15, 16, 17] (.held 0 (.held 1 (.held 2 (.held 3 (.held 4 (.held 5 (.held 6 (.held 7 (.held 8 (.held 9 (.held 10 (.held 11 (.loud 12 (.held 13 (.held 14 (.held 15 (.held 16 (.held 17 (.done))))))))))))))))))) mixed (by kernel_rfl)))
          (apply WL.k_slice; (apply YO.slice (a := 1); exact T.s22; exact rfl; (first | (focus (apply KnS.f; (focus (apply Has.mem; (repeat (first | exact List.Mem.head _ | apply List.Mem.tail)); done)); done)) | (focus (apply KnS.oI; (repeat (first | exact List.Mem.head _ | apply List.Mem.tail)); done)) | (focus (apply KnS.o1; (repeat (first | exact List.Mem.head _ | apply List.Mem.tail)); done)) | (focus (apply KnS.f; apply hasA; (focus (apply Has.mem; (repeat (first | exact List.Mem.head _ | apply List.Mem.tail)); done)); omega; done))); exact Or.inr ⟨_, rfl, rfl⟩; exact Or.inl ⟨rfl, rfl⟩; omega; omega); exact rfl; exact rfl)
          refine WL.fact (sI (resl a 1 A.length 1) (A.drop 1)) (Has.dropI (Has.mem (by (repeat (first | exact List.Mem.head _ | apply List.Mem.tail)); done)) (by omega)) ?_
          generalize resl a 1 A.length 1 = a1
          repeat' (first | refine go ?_ | refine goX ?_ | refine goB ?_ | (refine goG ?_; intro g) | (refine goV ?_; intro v) | refine goD ?_ | refine goXD ?_ | (refine goDG ?_; intro g) | (refine goDV ?_; intro v) | (apply WC.draw (id := 27) [0, 1, 2, 3, 4, 5, 6, 7, 8, 9, 10, 11, 13, 14, 15, 16, 17] (.held 0 (.held 1 (.held 2 (.held 3 (.held 4 (.held 5 (.held 6 (.held 7 (.held 8 (.held 9 (.held 10 (.held 11 (.loud 12 (.held 13 (.held 14 (.held 15 (.held 16 (.held 17 (.done))))))))))))))))))) mixed (by kernel_rfl)) | (apply WC.draw (id := 28) [0, 1, 2, 3, 4, 5, 6, 7, 8, 9, 10, 11, 13, 14, 15, 16, 17] (.held 0 (.held 1 (.held 2 (.held 3 (.held 4 (.held 5 (.held 6 (.held 7 (.held 8 (.held 9 (.held 10 (.held 11 (.loud 12 (.held 13 (.held 14 (.held 15 (.held 16 (.held 17 (.done))))))))))))))))))) mixed (by kernel_rfl)))
          (apply WL.k_build; (apply YO.build43; exact rfl; exact rfl; (first | (focus (apply KnS.f; (focus (apply Has.mem; (repeat (first | exact List.Mem.head _ | apply List.Mem.tail)); done)); done)) | (focus (apply KnS.oI; (repeat (first | exact List.Mem.head _ | apply List.Mem.tail)); done)) | (focus (apply KnS.o1; (repeat (first | exact List.Mem.head _ | apply List.Mem.tail)); done)) | (focus (apply KnS.f; apply hasA; (focus (apply Has.mem; (repeat (first | exact List.Mem.head _ | apply List.Mem.tail)); done)); omega; done))); (first | (focus (apply KnS.f; (focus (apply Has.mem; (repeat (first | exact List.Mem.head _ | apply List.Mem.tail)); done)); done)) | (focus (apply KnS.oI; (repeat (first | exact List.Mem.head _ | apply List.Mem.tail)); done)) | (focus (apply KnS.o1; (repeat (first | exact List.Mem.head _ | apply List.Mem.tail)); done)) | (focus (apply KnS.f; apply hasA; (focus (apply Has.mem; (repeat (first | exact List.Mem.head _ | apply List.Mem.tail)); done)); omega; done)))); exact rfl; exact rfl)
          (apply WL.l; exact rfl; exact rfl; apply LO.bs44; exact rfl; exact rfl; exact rfl; exact rfl; (first | (focus (apply KnS.f; (focus (apply Has.mem; (repeat (first | exact List.Mem.head _ | apply List.Mem.tail)); done)); done)) | (focus (apply KnS.oI; (repeat (first | exact List.Mem.head _ | apply List.Mem.tail)); done)) | (focus (apply KnS.o1; (repeat (first | exact List.Mem.head _ | apply List.Mem.tail)); done)) | (focus (apply KnS.f; apply hasA; (focus (apply Has.mem; (repeat (first | exact List.Mem.head _ | apply List.Mem.tail)); done)); omega; done))); (first | (focus (apply KnS.f; (focus (apply Has.mem; (repeat (first | exact List.Mem.head _ | apply List.Mem.tail)); done)); done)) | (focus (apply KnS.oI; (repeat (first | exact List.Mem.head _ | apply List.Mem.tail)); done)) | (focus (apply KnS.o1; (repeat (first | exact List.Mem.head _ | apply List.Mem.tail)); done)) | (focus (apply KnS.f; apply hasA; (focus (apply Has.mem; (repeat (first | exact List.Mem.head _ | apply List.Mem.tail)); done)); omega; done))); (first | (focus (apply KnS.f; (focus (apply Has.mem; (repeat (first | exact List.Mem.head _ | apply List.Mem.tail)); done)); done)) | (focus (apply KnS.oI; (repeat (first | exact List.Mem.head _ | apply List.Mem.tail)); done)) | (focus (apply KnS.o1; (repeat (first | exact List.Mem.head _ | apply List.Mem.tail)); done)) | (focus (apply KnS.f; apply hasA; (focus (apply Has.mem; (repeat (first | exact List.Mem.head _ | apply List.Mem.tail)); done)); omega; done))); (first | (focus (apply KnS.f; (focus (apply Has.mem; (repeat (first | exact List.Mem.head _ | apply List.Mem.tail)); done)); done)) | (focus (apply KnS.oI; (repeat (first | exact List.Mem.head _ | apply List.Mem.tail)); done)) | (focus (apply KnS.o1; (repeat (first | exact List.Mem.head _ | apply List.Mem.tail)); done)) | (focus (apply KnS.f; apply hasA; (focus (apply Has.mem; (repeat (first | exact List.Mem.head _ | apply List.Mem.tail)); done)); omega; done))); (first | (focus (apply KnS.f; (focus (apply Has.mem; (repeat (first | exact List.Mem.head _ | apply List.Mem.tail)); done)); done)) | (focus (apply KnS.oI; (repeat (first | exact List.Mem.head _ | apply List.Mem.tail)); done)) | (focus (apply KnS.o1; (repeat (first | exact List.Mem.head _ | apply List.Mem.tail)); done)) | (focus (apply KnS.f; apply hasA; (focus (apply Has.mem; (repeat (first | exact List.Mem.head _ | apply List.Mem.tail)); done)); omega; done))); (first | (focus (apply KnS.f; (focus (apply Has.mem; (repeat (first | exact List.Mem.head _ | apply List.Mem.tail)); done)); done)) | (focus (apply KnS.oI; (repeat (first | exact List.Mem.head _ | apply List.Mem.tail)); done)) | (focus (apply KnS.o1; (repeat (first | exact List.Mem.head _ | apply List.Mem.tail)); done)) | (focus (apply KnS.f; apply hasA; (focus (apply Has.mem; (repeat (first | exact List.Mem.head _ | apply List.Mem.tail)); done)); omega; done))); (first | (focus (apply KnS.f; (focus (apply Has.mem; (repeat (first | exact List.Mem.head _ | apply List.Mem.tail)); done)); done)) | (focus (apply KnS.oI; (repeat (first | exact List.Mem.head _ | apply List.Mem.tail)); done)) | (focus (apply KnS.o1; (repeat (first | exact List.Mem.head _ | apply List.Mem.tail)); done)) | (focus (apply KnS.f; apply hasA; (focus (apply Has.mem; (repeat (first | exact List.Mem.head _ | apply List.Mem.tail)); done)); omega; done))); (first | (focus (apply KnS.f; (focus (apply Has.mem; (repeat (first | exact List.Mem.head _ | apply List.Mem.tail)); done)); done)) | (focus (apply KnS.oI; (repeat (first | exact List.Mem.head _ | apply List.Mem.tail)); done)) | (focus (apply KnS.o1; (repeat (first | exact List.Mem.head _ | apply List.Mem.tail)); done)) | (focus (apply KnS.f; apply hasA; (focus (apply Has.mem; (repeat (first | exact List.Mem.head _ | apply List.Mem.tail)); done)); omega; done))); intro lv)
          refine WL.fact (sC [a, mv, a, a1] [A, MV, A, A.drop 1] 0) (sC_of4 (Has.mem (by (repeat (first | exact List.Mem.head _ | apply List.Mem.tail)); done)) (Has.mem (by (repeat (first | exact List.Mem.head _ | apply List.Mem.tail)); done)) (Has.mem (by (repeat (first | exact List.Mem.head _ | apply List.Mem.tail)); done)) (Has.mem (by (repeat (first | exact List.Mem.head _ | apply List.Mem.tail)); done))) ?_
          refine WL.fact (sC [b, b, ot, b] [B, B, ON, B] 0) (sC_of4 (Has.mem (by (repeat (first | exact List.Mem.head _ | apply List.Mem.tail)); done)) (Has.mem (by (repeat (first | exact List.Mem.head _ | apply List.Mem.tail)); done)) (Has.mem (by (repeat (first | exact List.Mem.head _ | apply List.Mem.tail)); done)) (Has.mem (by (repeat (first | exact List.Mem.head _ | apply List.Mem.tail)); done))) ?_
          generalize hS4 : [A, MV, A, A.drop 1] = S4
          generalize hN4 : [B, B, ON, B] = N4
          have hS4l : S4.length = 4 := by rw [← hS4]; rfl
          have hN4l : N4.length = 4 := by rw [← hN4]; rfl
          clear hS4 hN4
          repeat' (first | refine go ?_ | refine goX ?_ | refine goB ?_ | (refine goG ?_; intro g) | (refine goV ?_; intro v) | refine goD ?_ | refine goXD ?_ | (refine goDG ?_; intro g) | (refine goDV ?_; intro v) | (apply WC.draw (id := 27) [0, 1, 2, 3, 4, 5, 6, 7, 8, 9, 10, 11, 13, 14, 15, 16, 17] (.held 0 (.held 1 (.held 2 (.held 3 (.held 4 (.held 5 (.held 6 (.held 7 (.held 8 (.held 9 (.held 10 (.held 11 (.loud 12 (.held 13 (.held 14 (.held 15 (.held 16 (.held 17 (.done))))))))))))))))))) mixed (by kernel_rfl)) | (apply WC.draw (id := 28) [0, 1, 2, 3, 4, 5, 6, 7, 8, 9, 10, 11, 13, 14, 15, 16, 17] (.held 0 (.held 1 (.held 2 (.held 3 (.held 4 (.held 5 (.held 6 (.held 7 (.held 8 (.held 9 (.held 10 (.held 11 (.loud 12 (.held 13 (.held 14 (.held 15 (.held 16 (.held 17 (.done))))))))))))))))))) mixed (by kernel_rfl)))
          refine WC.lp (σ := Nat) (fun z => [(33, .int .i64 (z : Int)), (32, lv), (29, .int .i64 (q : Int)), (21, a), (22, b), (20, .int .i64 (j : Int)), (19, .int .i64 (i : Int)), (13, u), (14, .int .i64 mm), (15, u1), (16, .int .i64 m1), (18, ov), (2, .int .i64 byv), (4, v4), (5, v5)]) (fun _ => [Ow.slice lv 43 2 [a, b, mv, b, a, ot, a1, b], Ow.slice ov 22 1 [og, tk, th]])
            (fun _ => [ge h0, sC [a, mv, a, a1] S4 0, sC [b, b, ot, b] N4 0, sI a A, sI b B, sT u av t, sA av t, sT u1 avs1 ts1, sA avs1 ts1, sC [og, tk, th] OL 0, sI v4 start, sI v5 on]) (fun z => z ≤ 4) (fun z => 4 - z) 0 (by decide) ?_
          rintro z hz
          by_cases hz4 : z < 4
          · obtain ⟨hw1, hw2⟩ := pick8 (a := a) (b := b) (mv := mv) (ot := ot) (a1 := a1) hz4
            refine WC.fact (sI ([a, mv, a, a1].getD z undef) (S4.getD z [])) (hasC (Has.mem (by (repeat (first | exact List.Mem.head _ | apply List.Mem.tail)); done)) (Nat.zero_le _) (by omega)) ?_
            refine WC.fact (sI ([b, b, ot, b].getD z undef) (N4.getD z [])) (hasC (Has.mem (by (repeat (first | exact List.Mem.head _ | apply List.Mem.tail)); done)) (Nat.zero_le _) (by omega)) ?_
            generalize [a, mv, a, a1].getD z undef = w1 at *
            generalize [b, b, ot, b].getD z undef = w2 at *
            have hc1 := check_c u w1 w2 av t mm (S4.getD z []) (N4.getD z []) ht
            have hc2 := rcheck_c u w1 w2 av t mm (S4.getD z []) (N4.getD z [])
            generalize checkP t mm (S4.getD z []) (N4.getD z []) = cp at *
            obtain ⟨cn, ce⟩ := cp
            · skip
              repeat' (first | refine go ?_ | refine goX ?_ | refine goB ?_ | (refine goG ?_; intro g) | (refine goV ?_; intro v) | refine goD ?_ | refine goXD ?_ | (refine goDG ?_; intro g) | (refine goDV ?_; intro v) | (apply WC.draw (id := 27) [0, 1, 2, 3, 4, 5, 6, 7, 8, 9, 10, 11, 13, 14, 15, 16, 17] (.held 0 (.held 1 (.held 2 (.held 3 (.held 4 (.held 5 (.held 6 (.held 7 (.held 8 (.held 9 (.held 10 (.held 11 (.loud 12 (.held 13 (.held 14 (.held 15 (.held 16 (.held 17 (.done))))))))))))))))))) mixed (by kernel_rfl)) | (apply WC.draw (id := 28) [0, 1, 2, 3, 4, 5, 6, 7, 8, 9, 10, 11, 13, 14, 15, 16, 17] (.held 0 (.held 1 (.held 2 (.held 3 (.held 4 (.held 5 (.held 6 (.held 7 (.held 8 (.held 9 (.held 10 (.held 11 (.loud 12 (.held 13 (.held 14 (.held 15 (.held 16 (.held 17 (.done))))))))))))))))))) mixed (by kernel_rfl)))
              (apply WD.k_indexAddr; exact rfl; (apply YO.ix (n := 4); exact T.s44; exact rfl; exact rfl; (apply KnS.o; (repeat (first | exact List.Mem.head _ | apply List.Mem.tail)); exact rfl; decide); omega); exact rfl; exact rfl)
              (apply WD.k_indexAddr; exact rfl; (apply YO.ixE (k := 0); exact T.a43; exact rfl; exact rfl; decide); exact rfl; exact rfl)
              (apply WD.k_load; exact rfl; (apply YO.ldO (el := 43) (sz := 2); (first | exact T.sc3 | exact T.sc4 | exact T.sc5 | exact T.sc9 | exact T.sc22 | exact T.sc23 | exact T.sc28 | exact T.sc39 | exact T.sc44 | exact T.sc46 | exact T.sc51 | exact T.sc60 | exact T.sc66 | exact T.sc72 | exact T.sc84 | exact T.sc90 | exact T.sc91 | exact T.sc106 | exact T.sc108 | exact T.sc110); exact rfl; (repeat (first | exact List.Mem.head _ | apply List.Mem.tail)); exact hw1); exact rfl; exact rfl)
              repeat' (first | refine go ?_ | refine goX ?_ | refine goB ?_ | (refine goG ?_; intro g) | (refine goV ?_; intro v) | refine goD ?_ | refine goXD ?_ | (refine goDG ?_; intro g) | (refine goDV ?_; intro v) | (apply WC.draw (id := 27) [0, 1, 2, 3, 4, 5, 6, 7, 8, 9, 10, 11, 13, 14, 15, 16, 17] (.held 0 (.held 1 (.held 2 (.held 3 (.held 4 (.held 5 (.held 6 (.held 7 (.held 8 (.held 9 (.held 10 (.held 11 (.loud 12 (.held 13 (.held 14 (.held 15 (.held 16 (.held 17 (.done))))))))))))))))))) mixed (by kernel_rfl)) | (apply WC.draw (id := 28) [0, 1, 2, 3, 4, 5, 6, 7, 8, 9, 10, 11, 13, 14, 15, 16, 17] (.held 0 (.held 1 (.held 2 (.held 3 (.held 4 (.held 5 (.held 6 (.held 7 (.held 8 (.held 9 (.held 10 (.held 11 (.loud 12 (.held 13 (.held 14 (.held 15 (.held 16 (.held 17 (.done))))))))))))))))))) mixed (by kernel_rfl)))
              (apply WD.k_indexAddr; exact rfl; (apply YO.ix (n := 4); exact T.s44; exact rfl; exact rfl; (apply KnS.o; (repeat (first | exact List.Mem.head _ | apply List.Mem.tail)); exact rfl; decide); omega); exact rfl; exact rfl)
              (apply WD.k_indexAddr; exact rfl; (apply YO.ixE (k := 1); exact T.a43; exact rfl; exact rfl; decide); exact rfl; exact rfl)
              (apply WD.k_load; exact rfl; (apply YO.ldO (el := 43) (sz := 2); (first | exact T.sc3 | exact T.sc4 | exact T.sc5 | exact T.sc9 | exact T.sc22 | exact T.sc23 | exact T.sc28 | exact T.sc39 | exact T.sc44 | exact T.sc46 | exact T.sc51 | exact T.sc60 | exact T.sc66 | exact T.sc72 | exact T.sc84 | exact T.sc90 | exact T.sc91 | exact T.sc106 | exact T.sc108 | exact T.sc110); exact rfl; (repeat (first | exact List.Mem.head _ | apply List.Mem.tail)); exact hw2); exact rfl; exact rfl)
              repeat' (first | refine go ?_ | refine goX ?_ | refine goB ?_ | (refine goG ?_; intro g) | (refine goV ?_; intro v) | refine goD ?_ | refine goXD ?_ | (refine goDG ?_; intro g) | (refine goDV ?_; intro v) | (apply WC.draw (id := 27) [0, 1, 2, 3, 4, 5, 6, 7, 8, 9, 10, 11, 13, 14, 15, 16, 17] (.held 0 (.held 1 (.held 2 (.held 3 (.held 4 (.held 5 (.held 6 (.held 7 (.held 8 (.held 9 (.held 10 (.held 11 (.loud 12 (.held 13 (.held 14 (.held 15 (.held 16 (.held 17 (.done))))))))))))))))))) mixed (by kernel_rfl)) | (apply WC.draw (id := 28) [0, 1, 2, 3, 4, 5, 6, 7, 8, 9, 10, 11, 13, 14, 15, 16, 17] (.held 0 (.held 1 (.held 2 (.held 3 (.held 4 (.held 5 (.held 6 (.held 7 (.held 8 (.held 9 (.held 10 (.held 11 (.loud 12 (.held 13 (.held 14 (.held 15 (.held 16 (.held 17 (.done))))))))))))))))))) mixed (by kernel_rfl)))
              first | refine WL.callV (hc1) ?_ | refine WD.callV (hc1) ?_
              repeat' (first | refine go ?_ | refine goX ?_ | refine goB ?_ | (refine goG ?_; intro g) | (refine goV ?_; intro v) | refine goD ?_ | refine goXD ?_ | (refine goDG ?_; intro g) | (refine goDV ?_; intro v) | (apply WC.draw (id := 27) [0, 1, 2, 3, 4, 5, 6, 7, 8, 9, 10, 11, 13, 14, 15, 16, 17] (.held 0 (.held 1 (.held 2 (.held 3 (.held 4 (.held 5 (.held 6 (.held 7 (.held 8 (.held 9 (.held 10 (.held 11 (.loud 12 (.held 13 (.held 14 (.held 15 (.held 16 (.held 17 (.done))))))))))))))))))) mixed (by kernel_rfl)) | (apply WC.draw (id := 28) [0, 1, 2, 3, 4, 5, 6, 7, 8, 9, 10, 11, 13, 14, 15, 16, 17] (.held 0 (.held 1 (.held 2 (.held 3 (.held 4 (.held 5 (.held 6 (.held 7 (.held 8 (.held 9 (.held 10 (.held 11 (.loud 12 (.held 13 (.held 14 (.held 15 (.held 16 (.held 17 (.done))))))))))))))))))) mixed (by kernel_rfl)))
              (apply WD.k_indexAddr; exact rfl; (apply YO.ix (n := 4); exact T.s44; exact rfl; exact rfl; (apply KnS.o; (repeat (first | exact List.Mem.head _ | apply List.Mem.tail)); exact rfl; decide); omega); exact rfl; exact rfl)
              (apply WD.k_indexAddr; exact rfl; (apply YO.ixE (k := 0); exact T.a43; exact rfl; exact rfl; decide); exact rfl; exact rfl)
              (apply WD.k_load; exact rfl; (apply YO.ldO (el := 43) (sz := 2); (first | exact T.sc3 | exact T.sc4 | exact T.sc5 | exact T.sc9 | exact T.sc22 | exact T.sc23 | exact T.sc28 | exact T.sc39 | exact T.sc44 | exact T.sc46 | exact T.sc51 | exact T.sc60 | exact T.sc66 | exact T.sc72 | exact T.sc84 | exact T.sc90 | exact T.sc91 | exact T.sc106 | exact T.sc108 | exact T.sc110); exact rfl; (repeat (first | exact List.Mem.head _ | apply List.Mem.tail)); exact hw1); exact rfl; exact rfl)
              repeat' (first | refine go ?_ | refine goX ?_ | refine goB ?_ | (refine goG ?_; intro g) | (refine goV ?_; intro v) | refine goD ?_ | refine goXD ?_ | (refine goDG ?_; intro g) | (refine goDV ?_; intro v) | (apply WC.draw (id := 27) [0, 1, 2, 3, 4, 5, 6, 7, 8, 9, 10, 11, 13, 14, 15, 16, 17] (.held 0 (.held 1 (.held 2 (.held 3 (.held 4 (.held 5 (.held 6 (.held 7 (.held 8 (.held 9 (.held 10 (.held 11 (.loud 12 (.held 13 (.held 14 (.held 15 (.held 16 (.held 17 (.done))))))))))))))))))) mixed (by kernel_rfl)) | (apply WC.draw (id := 28) [0, 1, 2, 3, 4, 5, 6, 7, 8, 9, 10, 11, 13, 14, 15, 16, 17] (.held 0 (.held 1 (.held 2 (.held 3 (.held 4 (.held 5 (.held 6 (.held 7 (.held 8 (.held 9 (.held 10 (.held 11 (.loud 12 (.held 13 (.held 14 (.held 15 (.held 16 (.held 17 (.done))))))))))))))))))) mixed (by kernel_rfl)))
              (apply WD.k_indexAddr; exact rfl; (apply YO.ix (n := 4); exact T.s44; exact rfl; exact rfl; (apply KnS.o; (repeat (first | exact List.Mem.head _ | apply List.Mem.tail)); exact rfl; decide); omega); exact rfl; exact rfl)
              (apply WD.k_indexAddr; exact rfl; (apply YO.ixE (k := 1); exact T.a43; exact rfl; exact rfl; decide); exact rfl; exact rfl)
              (apply WD.k_load; exact rfl; (apply YO.ldO (el := 43) (sz := 2); (first | exact T.sc3 | exact T.sc4 | exact T.sc5 | exact T.sc9 | exact T.sc22 | exact T.sc23 | exact T.sc28 | exact T.sc39 | exact T.sc44 | exact T.sc46 | exact T.sc51 | exact T.sc60 | exact T.sc66 | exact T.sc72 | exact T.sc84 | exact T.sc90 | exact T.sc91 | exact T.sc106 | exact T.sc108 | exact T.sc110); exact rfl; (repeat (first | exact List.Mem.head _ | apply List.Mem.tail)); exact hw2); exact rfl; exact rfl)
              repeat' (first | refine go ?_ | refine goX ?_ | refine goB ?_ | (refine goG ?_; intro g) | (refine goV ?_; intro v) | refine goD ?_ | refine goXD ?_ | (refine goDG ?_; intro g) | (refine goDV ?_; intro v) | (apply WC.draw (id := 27) [0, 1, 2, 3, 4, 5, 6, 7, 8, 9, 10, 11, 13, 14, 15, 16, 17] (.held 0 (.held 1 (.held 2 (.held 3 (.held 4 (.held 5 (.held 6 (.held 7 (.held 8 (.held 9 (.held 10 (.held 11 (.loud 12 (.held 13 (.held 14 (.held 15 (.held 16 (.held 17 (.done))))))))))))))))))) mixed (by kernel_rfl)) | (apply WC.draw (id := 28) [0, 1, 2, 3, 4, 5, 6, 7, 8, 9, 10, 11, 13, 14, 15, 16, 17] (.held 0 (.held 1 (.held 2 (.held 3 (.held 4 (.held 5 (.held 6 (.held 7 (.held 8 (.held 9 (.held 10 (.held 11 (.loud 12 (.held 13 (.held 14 (.held 15 (.held 16 (.held 17 (.done))))))))))))))))))) mixed (by kernel_rfl)))
              first | refine WL.callV (hc2) ?_ | refine WD.callV (hc2) ?_
              repeat' (first | refine go ?_ | refine goX ?_ | refine goB ?_ | (refine goG ?_; intro g) | (refine goV ?_; intro v) | refine goD ?_ | refine goXD ?_ | (refine goDG ?_; intro g) | (refine goDV ?_; intro v) | (apply WC.draw (id := 27) [0, 1, 2, 3, 4, 5, 6, 7, 8, 9, 10, 11, 13, 14, 15, 16, 17] (.held 0 (.held 1 (.held 2 (.held 3 (.held 4 (.held 5 (.held 6 (.held 7 (.held 8 (.held 9 (.held 10 (.held 11 (.loud 12 (.held 13 (.held 14 (.held 15 (.held 16 (.held 17 (.done))))))))))))))))))) mixed (by kernel_rfl)) | (apply WC.draw (id := 28) [0, 1, 2, 3, 4, 5, 6, 7, 8, 9, 10, 11, 13, 14, 15, 16, 17] (.held 0 (.held 1 (.held 2 (.held 3 (.held 4 (.held 5 (.held 6 (.held 7 (.held 8 (.held 9 (.held 10 (.held 11 (.loud 12 (.held 13 (.held 14 (.held 15 (.held 16 (.held 17 (.done))))))))))))))))))) mixed (by kernel_rfl)))
              exact LoopEnd.mk (z + 1) (by omega) (by omega)
          · repeat' (first | refine go ?_ | refine goX ?_ | refine goB ?_ | (refine goG ?_; intro g) | (refine goV ?_; intro v) | refine goD ?_ | refine goXD ?_ | (refine goDG ?_; intro g) | (refine goDV ?_; intro v) | (apply WC.draw (id := 27) [0, 1, 2, 3, 4, 5, 6, 7, 8, 9, 10, 11, 13, 14, 15, 16, 17] (.held 0 (.held 1 (.held 2 (.held 3 (.held 4 (.held 5 (.held 6 (.held 7 (.held 8 (.held 9 (.held 10 (.held 11 (.loud 12 (.held 13 (.held 14 (.held 15 (.held 16 (.held 17 (.done))))))))))))))))))) mixed (by kernel_rfl)) | (apply WC.draw (id := 28) [0, 1, 2, 3, 4, 5, 6, 7, 8, 9, 10, 11, 13, 14, 15, 16, 17] (.held 0 (.held 1 (.held 2 (.held 3 (.held 4 (.held 5 (.held 6 (.held 7 (.held 8 (.held 9 (.held 10 (.held 11 (.loud 12 (.held 13 (.held 14 (.held 15 (.held 16 (.held 17 (.done))))))))))))))))))) mixed (by kernel_rfl)))
            exact LoopEnd.mk (q + 1) (by omega) (by omega)
        · repeat' (first | refine go ?_ | refine goX ?_ | refine goB ?_ | (refine goG ?_; intro g) | (refine goV ?_; intro v) | refine goD ?_ | refine goXD ?_ | (refine goDG ?_; intro g) | (refine goDV ?_; intro v) | (apply WC.draw (id := 27) [0, 1, 2, 3, 4, 5, 6, 7, 8, 9, 10, 11, 13, 14, 15, 16, 17] (.held 0 (.held 1 (.held 2 (.held 3 (.held 4 (.held 5 (.held 6 (.held 7 (.held 8 (.held 9 (.held 10 (.held 11 (.loud 12 (.held 13 (.held 14 (.held 15 (.held 16 (.held 17 (.done))))))))))))))))))) mixed (by kernel_rfl)) | (apply WC.draw (id := 28) [0, 1, 2, 3, 4, 5, 6, 7, 8, 9, 10, 11, 13, 14, 15, 16, 17] (.held 0 (.held 1 (.held 2 (.held 3 (.held 4 (.held 5 (.held 6 (.held 7 (.held 8 (.held 9 (.held 10 (.held 11 (.loud 12 (.held 13 (.held 14 (.held 15 (.held 16 (.held 17 (.done))))))))))))))))))) mixed (by kernel_rfl)))
          exact LoopEnd.mk (j + 1) (by omega) (by omega)
      · repeat' (first | refine go ?_ | refine goX ?_ | refine goB ?_ | (refine goG ?_; intro g) | (refine goV ?_; intro v) | refine goD ?_ | refine goXD ?_ | (refine goDG ?_; intro g) | (refine goDV ?_; intro v) | (apply WC.draw (id := 27) [0, 1, 2, 3, 4, 5, 6, 7, 8, 9, 10, 11, 13, 14, 15, 16, 17] (.held 0 (.held 1 (.held 2 (.held 3 (.held 4 (.held 5 (.held 6 (.held 7 (.held 8 (.held 9 (.held 10 (.held 11 (.loud 12 (.held 13 (.held 14 (.held 15 (.held 16 (.held 17 (.done))))))))))))))))))) mixed (by kernel_rfl)) | (apply WC.draw (id := 28) [0, 1, 2, 3, 4, 5, 6, 7, 8, 9, 10, 11, 13, 14, 15, 16, 17] (.held 0 (.held 1 (.held 2 (.held 3 (.held 4 (.held 5 (.held 6 (.held 7 (.held 8 (.held 9 (.held 10 (.held 11 (.loud 12 (.held 13 (.held 14 (.held 15 (.held 16 (.held 17 (.done))))))))))))))))))) mixed (by kernel_rfl)))
        exact LoopEnd.mk (j + 1) (by omega) (by omega)
    · repeat' (first | refine go ?_ | refine goX ?_ | refine goB ?_ | (refine goG ?_; intro g) | (refine goV ?_; intro v) | refine goD ?_ | refine goXD ?_ | (refine goDG ?_; intro g) | (refine goDV ?_; intro v) | (apply WC.draw (id := 27) [0, 1, 2, 3, 4, 5, 6, 7, 8, 9, 10, 11, 13, 14, 15, 16, 17] (.held 0 (.held 1 (.held 2 (.held 3 (.held 4 (.held 5 (.held 6 (.held 7 (.held 8 (.held 9 (.held 10 (.held 11 (.loud 12 (.held 13 (.held 14 (.held 15 (.held 16 (.held 17 (.done))))))))))))))))))) mixed (by kernel_rfl)) | (apply WC.draw (id := 28) [0, 1, 2, 3, 4, 5, 6, 7, 8, 9, 10, 11, 13, 14, 15, 16, 17] (.held 0 (.held 1 (.held 2 (.held 3 (.held 4 (.held 5 (.held 6 (.held 7 (.held 8 (.held 9 (.held 10 (.held 11 (.loud 12 (.held 13 (.held 14 (.held 15 (.held 16 (.held 17 (.done))))))))))))))))))) mixed (by kernel_rfl)))
      have hc1 := fun w1 w2 => check_c u w1 w2 av t mm (start.take 8) (on.take 8) ht
      have hc2 := fun w1 w2 => rcheck_c u w1 w2 av t mm (start.take 8) (on.take 8)
      generalize checkP t mm (start.take 8) (on.take 8) = cp at *
      obtain ⟨cn, ce⟩ := cp
      first | refine WL.callO (take_c v4 start 8 (by decide)) (fun rv => ?_) | refine WD.callO (take_c v4 start 8 (by decide)) (fun rv => ?_)
      revert rv; intro k1
      repeat' (first | refine go ?_ | refine goX ?_ | refine goB ?_ | (refine goG ?_; intro g) | (refine goV ?_; intro v) | refine goD ?_ | refine goXD ?_ | (refine goDG ?_; intro g) | (refine goDV ?_; intro v) | (apply WC.draw (id := 27) [0, 1, 2, 3, 4, 5, 6, 7, 8, 9, 10, 11, 13, 14, 15, 16, 17] (.held 0 (.held 1 (.held 2 (.held 3 (.held 4 (.held 5 (.held 6 (.held 7 (.held 8 (.held 9 (.held 10 (.held 11 (.loud 12 (.held 13 (.held 14 (.held 15 (.held 16 (.held 17 (.done))))))))))))))))))) mixed (by kernel_rfl)) | (apply WC.draw (id := 28) [0, 1, 2, 3, 4, 5, 6, 7, 8, 9, 10, 11, 13, 14, 15, 16, 17] (.held 0 (.held 1 (.held 2 (.held 3 (.held 4 (.held 5 (.held 6 (.held 7 (.held 8 (.held 9 (.held 10 (.held 11 (.loud 12 (.held 13 (.held 14 (.held 15 (.held 16 (.held 17 (.done))))))))))))))))))) mixed (by kernel_rfl)))
      first | refine WL.callO (take_c v5 on 8 (by decide)) (fun rv => ?_) | refine WD.callO (take_c v5 on 8 (by decide)) (fun rv => ?_)
      revert rv; intro k2
      first | refine WL.callV (hc1 k1 k2) ?_ | refine WD.callV (hc1 k1 k2) ?_
      repeat' (first | refine go ?_ | refine goX ?_ | refine goB ?_ | (refine goG ?_; intro g) | (refine goV ?_; intro v) | refine goD ?_ | refine goXD ?_ | (refine goDG ?_; intro g) | (refine goDV ?_; intro v) | (apply WC.draw (id := 27) [0, 1, 2, 3, 4, 5, 6, 7, 8, 9, 10, 11, 13, 14, 15, 16, 17] (.held 0 (.held 1 (.held 2 (.held 3 (.held 4 (.held 5 (.held 6 (.held 7 (.held 8 (.held 9 (.held 10 (.held 11 (.loud 12 (.held 13 (.held 14 (.held 15 (.held 16 (.held 17 (.done))))))))))))))))))) mixed (by kernel_rfl)) | (apply WC.draw (id := 28) [0, 1, 2, 3, 4, 5, 6, 7, 8, 9, 10, 11, 13, 14, 15, 16, 17] (.held 0 (.held 1 (.held 2 (.held 3 (.held 4 (.held 5 (.held 6 (.held 7 (.held 8 (.held 9 (.held 10 (.held 11 (.loud 12 (.held 13 (.held 14 (.held 15 (.held 16 (.held 17 (.done))))))))))))))))))) mixed (by kernel_rfl)))
      first | refine WL.callO (take_c v4 start 8 (by decide)) (fun rv => ?_) | refine WD.callO (take_c v4 start 8 (by decide)) (fun rv => ?_)
      revert rv; intro k3
      repeat' (first | refine go ?_ | refine goX ?_ | refine goB ?_ | (refine goG ?_; intro g) | (refine goV ?_; intro v) | refine goD ?_ | refine goXD ?_ | (refine goDG ?_; intro g) | (refine goDV ?_; intro v) | (apply WC.draw (id := 27) [0, 1, 2, 3, 4, 5, 6, 7, 8, 9, 10, 11, 13, 14, 15, 16, 17] (.held 0 (.held 1 (.held 2 (.held 3 (.held 4 (.held 5 (.held 6 (.held 7 (.held 8 (.held 9 (.held 10 (.held 11 (.loud 12 (.held 13 (.held 14 (.held 15 (.held 16 (.held 17 (.done))))))))))))))))))) mixed (by kernel_rfl)) | (apply WC.draw (id := 28) [0, 1, 2, 3, 4, 5, 6, 7, 8, 9, 10, 11, 13, 14, 15, 16, 17] (.held 0 (.held 1 (.held 2 (.held 3 (.held 4 (.held 5 (.held 6 (.held 7 (.held 8 (.held 9 (.held 10 (.held 11 (.loud 12 (.held 13 (.held 14 (.held 15 (.held 16 (.held 17 (.done))))))))))))))))))) mixed (by kernel_rfl)))
      first | refine WL.callO (take_c v5 on 8 (by decide)) (fun rv => ?_) | refine WD.callO (take_c v5 on 8 (by decide)) (fun rv => ?_)
      revert rv; intro k4
      first | refine WL.callV (hc2 k3 k4) ?_ | refine WD.callV (hc2 k3 k4) ?_
      repeat' (first | refine go ?_ | refine goX ?_ | refine goB ?_ | (refine goG ?_; intro g) | (refine goV ?_; intro v) | refine goD ?_ | refine goXD ?_ | (refine goDG ?_; intro g) | (refine goDV ?_; intro v) | (apply WC.draw (id := 27) [0, 1, 2, 3, 4, 5, 6, 7, 8, 9, 10, 11, 13, 14, 15, 16, 17] (.held 0 (.held 1 (.held 2 (.held 3 (.held 4 (.held 5 (.held 6 (.held 7 (.held 8 (.held 9 (.held 10 (.held 11 (.loud 12 (.held 13 (.held 14 (.held 15 (.held 16 (.held 17 (.done))))))))))))))))))) mixed (by kernel_rfl)) | (apply WC.draw (id := 28) [0, 1, 2, 3, 4, 5, 6, 7, 8, 9, 10, 11, 13, 14, 15, 16, 17] (.held 0 (.held 1 (.held 2 (.held 3 (.held 4 (.held 5 (.held 6 (.held 7 (.held 8 (.held 9 (.held 10 (.held 11 (.loud 12 (.held 13 (.held 14 (.held 15 (.held 16 (.held 17 (.done))))))))))))))))))) mixed (by kernel_rfl)))
      exact LoopEnd.mk (i + 1, u1, avs1, ts1, m1) ⟨by show i + 1 ≤ 2; omega, hti1⟩ (by show 2 - (i + 1) < 2 - i; omega)
  · repeat' (first | refine go ?_ | refine goX ?_ | refine goB ?_ | (refine goG ?_; intro g) | (refine goV ?_; intro v) | refine goD ?_ | refine goXD ?_ | (refine goDG ?_; intro g) | (refine goDV ?_; intro v) | (apply WC.draw (id := 27) [0, 1, 2, 3, 4, 5, 6, 7, 8, 9, 10, 11, 13, 14, 15, 16, 17] (.held 0 (.held 1 (.held 2 (.held 3 (.held 4 (.held 5 (.held 6 (.held 7 (.held 8 (.held 9 (.held 10 (.held 11 (.loud 12 (.held 13 (.held 14 (.held 15 (.held 16 (.held 17 (.done))))))))))))))))))) mixed (by kernel_rfl)) | (apply WC.draw (id := 28) [0, 1, 2, 3, 4, 5, 6, 7, 8, 9, 10, 11, 13, 14, 15, 16, 17] (.held 0 (.held 1 (.held 2 (.held 3 (.held 4 (.held 5 (.held 6 (.held 7 (.held 8 (.held 9 (.held 10 (.held 11 (.loud 12 (.held 13 (.held 14 (.held 15 (.held 16 (.held 17 (.done))))))))))))))))))) mixed (by kernel_rfl)))
    first | refine WL.callV (lives_c) ?_ | refine WD.callV (lives_c) ?_
    repeat' (first | refine go ?_ | refine goX ?_ | refine goB ?_ | (refine goG ?_; intro g) | (refine goV ?_; intro v) | refine goD ?_ | refine goXD ?_ | (refine goDG ?_; intro g) | (refine goDV ?_; intro v) | (apply WC.draw (id := 27) [0, 1, 2, 3, 4, 5, 6, 7, 8, 9, 10, 11, 13, 14, 15, 16, 17] (.held 0 (.held 1 (.held 2 (.held 3 (.held 4 (.held 5 (.held 6 (.held 7 (.held 8 (.held 9 (.held 10 (.held 11 (.loud 12 (.held 13 (.held 14 (.held 15 (.held 16 (.held 17 (.done))))))))))))))))))) mixed (by kernel_rfl)) | (apply WC.draw (id := 28) [0, 1, 2, 3, 4, 5, 6, 7, 8, 9, 10, 11, 13, 14, 15, 16, 17] (.held 0 (.held 1 (.held 2 (.held 3 (.held 4 (.held 5 (.held 6 (.held 7 (.held 8 (.held 9 (.held 10 (.held 11 (.loud 12 (.held 13 (.held 14 (.held 15 (.held 16 (.held 17 (.done))))))))))))))))))) mixed (by kernel_rfl)))
    refine WC.ret ?_
    exact Fin.v (ResE.t1 rfl rfl) (by (repeat (first | exact List.Mem.head _ | apply List.Mem.tail)); done) rfl
end Go.Proofs.Ytgacbfckaglhbaa
namespace Go.Proofs.Ytgacbfckaglhbaa
open Go.ChangeShapes Go.WideShapes Go.ChangeAt Go.RowKit
open W

/-- what stood in V1 stands in V2 -/
def Ext (V1 V2 : World) : Prop := ∀ (k : Nat) (o : Obj), V1.heap[k]? = some o → V2.heap[k]? = some o
def Again {H : Type} (enc : TypeId × Value → H) (P : Program) (V1 : World) (t : TypeId) (v : Value) (d : DataW H) (p : List MemPlace) : Prop :=
  ∀ (V2 : World) (sp : Nat → Bool), Ext V1 V2 → (∀ q ∈ p, sp q.block = true) → DataW.Trod enc P V2 0 sp true t v d p
def AgainAll {H : Type} (enc : TypeId × Value → H) (P : Program) (V1 : World) (ts : List TypeId) (vs : List Value) (ds : List (DataW H)) (p : List MemPlace) : Prop :=
  ∀ (V2 : World) (sp : Nat → Bool), Ext V1 V2 → (∀ q ∈ p, sp q.block = true) → DataW.TrodAll enc P V2 0 sp true ts vs ds p
section
variable {H : Type} {enc : TypeId × Value → H} {P : Program} {V1 : World}
theorem AgainAll.nil : AgainAll enc P V1 [] [] [] [] := fun _ _ _ _ => rfl
theorem AgainAll.cons {t : TypeId} {ts : List TypeId} {v : Value} {vs : List Value} {d : DataW H} {ds : List (DataW H)} {p q : List MemPlace} (h : Again enc P V1 t v d p) (h2 : AgainAll enc P V1 ts vs ds q) : AgainAll enc P V1 (t :: ts) (v :: vs) (d :: ds) (p ++ q) := fun V2 sp he hs =>
  ⟨p, q, h V2 sp he fun x hx => hs x (List.mem_append_left _ hx), h2 V2 sp he fun x hx => hs x (List.mem_append_right _ hx), rfl⟩
theorem Ext.cell {V2 : World} (h : Ext V1 V2) {a : Addr} {v : Value} (hc : V1.cell? a = some v) : V2.cell? a = some v := by
  unfold World.cell? at hc ⊢
  cases ho : V1.heap[a.block]? with
  | none => rw [ho] at hc; cases hc
  | some o => rw [h _ _ ho]; rw [ho] at hc; exact hc

theorem arg_int {t : TypeId} {b0 : Nat} {v : Value} {d : DataW H} {p : List MemPlace} (ht : P.underlying t = some (.int .i64)) (hv : Value.okWide P V1 .any b0 t v) (h : DataW.Trod enc P V1 0 (fun _ => true) true t v d p) : ∃ n, v = .int .i64 n ∧ I64 n ∧ Again enc P V1 t v d p := by
  obtain ⟨n, rfl, rfl, rfl, wa⟩ := open_int ht hv h
  refine ⟨n, rfl, ?_, fun V2 sp _ _ => shut_int ht wa⟩
  simp [Lit.wf, IntKind.min, IntKind.max, IntKind.signed, IntKind.bits] at wa
  unfold I64; omega
theorem arg_ints {t e : TypeId} {b0 : Nat} {v : Value} {d : DataW H} {p : List MemPlace} (ht : P.underlying t = some (.slice e)) (he : P.underlying e = some (.int .i64)) (hc : P.cellsOf e = 1) (hv : Value.okWide P V1 .any b0 t v) (h : DataW.Trod enc P V1 0 (fun _ => true) true t v d p) :
    ∃ l : List Int, (∀ x ∈ l, I64 x) ∧ (sI v l).p (fun k => V1.heap[k]?) ∧ Again enc P V1 t v d p := by
  obtain ⟨fuel, hf⟩ := h
  have hval := hv
  obtain ⟨a0, len, cap, rfl⟩ := okWide_slice ht hv
  rcases open_ints ht he hc hf with ⟨hcs, hx⟩ | ⟨a, len', cap', zs, hcs, _, hl, hm, hz, hx, hcell, hwz⟩
  · simp [Value.cells] at hcs
    obtain ⟨rfl, rfl, rfl⟩ := hcs
    simp only [Prod.mk.injEq] at hx
    obtain ⟨rfl, rfl⟩ := hx
    exact ⟨[], by simp, ⟨none, 0, rfl, Nat.le_refl _, by simp [maxLen], .inl ⟨rfl, rfl, rfl⟩⟩, fun V2 sp _ _ => shut_slice_nil ht⟩
  · simp [Value.cells] at hcs
    obtain ⟨rfl, rfl, rfl⟩ := hcs
    simp only [Prod.mk.injEq] at hx
    obtain ⟨rfl, rfl⟩ := hx
    simp only [if_true] at hz
    simp only [Value.okWide, ht, Cell.okWide, Cell.ok] at hval
    obtain ⟨_, _, _, hsp, row, cells, hsh, _⟩ := hval
    obtain ⟨b, off, spot⟩ := a
    simp only at hsp; subst hsp
    have hblk : ∃ c el fz, V1.heap[b]? = some (.cells c el fz) := by
      unfold World.shape? at hsh
      simp only at hsh
      split at hsh
      · rename_i c el fz hh; exact ⟨c, el, fz, hh⟩
      · cases hsh
    obtain ⟨c, el, fz, hh⟩ := hblk
    have hlz : (zs.take len).length = len := by simp; omega
    refine ⟨zs.take len, fun x hx => ?_, ?_, fun V2 sp hE hs => ?_⟩
    · have wa := hwz x (List.mem_of_mem_take hx)
      simp [Lit.wf, IntKind.min, IntKind.max, IntKind.signed, IntKind.bits] at wa
      unfold I64; omega
    · show (slC _ (zs.take len).length 1 _).p _
      rw [hlz]
      refine ⟨_, cap, rfl, hl, hm, .inr ⟨b, off, rfl, c, el, fz, hh, fun j hj => ?_⟩⟩
      have hcj := hcell j (by omega)
      simp only [World.cell?, Addr.add_lit, hh] at hcj
      simp only [Option.isSome_none, Bool.false_eq_true, if_false] at hcj
      rw [hcj]
      simp only [List.getD_eq_getElem?_getD, List.getElem?_take]
      rw [if_pos (by omega)]
    · by_cases hz0 : zs.length = 0
      · have hc0 : cap = 0 := by omega
        have hl0 : len = 0 := by omega
        subst hc0; subst hl0
        have t0 := shut_ints (enc := enc) (w := V2) (base := 0) (spare := sp) (held := true) (a := ⟨b, off, none⟩) (len := 0) (cap := 0) (zs := zs) 0 ht he hc (Nat.zero_le _) (Nat.le_refl _) hm (by simp [hz0]) (fun i hi => by omega) hwz
        exact ⟨2, by simpa [Value.cells] using t0⟩
      · have hspb : sp b = true := hs (.cell b off) (MemPlace.mem_row.2 ⟨0, by omega, by simp⟩)
        have t0 := shut_ints (enc := enc) (w := V2) (base := 0) (spare := sp) (held := true) (a := ⟨b, off, none⟩) (len := len) (cap := cap) (zs := zs) 0 ht he hc (Nat.zero_le _) hl hm (by simp [hspb, hz]) (fun i hi => hE.cell (hcell i hi)) hwz
        exact ⟨2, by simpa [Value.cells] using t0⟩

theorem law_calls {f : FuncId} {args : List Value} {F : List Fct} (hf : FnB P f args [] F (IsV (.bool true))) (hF : ∀ g ∈ F, g.p (fun k => V1.heap[k]?)) : Calls P f args.toArray V1 fun e V2 => e = .returned (.bool true) ∧ W.Rest V1 V2 ∧ Ext V1 V2 := by
  have him : ∀ H : Array Obj, imm (fun _ => none) [] H = fun k => H[k]? := fun H => by funext k; simp [imm, ids]
  have ho : OK (fun _ => none) [] F V1 := ⟨fun _ _ h => (by cases h), fun _ _ => rfl, by simp [ids], by simp, fun g hg => by rw [him]; exact hF g hg⟩
  refine (hf.2 _ _ ho).mono fun e V2 hh => ?_
  obtain ⟨v, b, G, h1, h2, h3, h4, h5⟩ := hh
  obtain ⟨h6, h7, h8⟩ := h2
  subst h6 h7
  refine ⟨h1, h3, fun k o hk => ?_⟩
  rw [him, him] at h4
  exact h4 k o hk

theorem post_law {f : Func} {s : ChangeSpec} {V2 : World} {args : Array Value} {ds gs : List (DataW H)} {before : List MemPlace} {v : Value}
    (hW : DataW.Whole enc P f.params.toList s.vars false V1 args.toList ds gs before)
    (hres : ∀ (b : Nat) (sp : Nat → Bool) (hd : Bool), DataW.TrodAll enc P V2 b sp hd f.resultTypes.toList (v.resultList f.resultTypes.size) (s.fn H (ds ++ gs)).results [])
    (hargs : ∀ sp : Nat → Bool, (∀ p ∈ before, sp p.block = true) → DataW.TrodAll enc P V2 0 sp true f.params.toList args.toList (s.fn H (ds ++ gs)).args before)
    (hvars : ∀ sp : Nat → Bool, DataW.TrodVars enc P V2 sp s.vars (s.fn H (ds ++ gs)).vars [])
    (hr : W.Rest V1 V2) (hE : Ext V1 V2)
    (hok : ∀ (j : Nat) (t : TypeId) (r : Value), f.resultTypes[j]? = some t → (v.resultList f.resultTypes.size)[j]? = some r → Value.okWide P V2 .any 0 t r) :
    s.post enc P f false true false false V1 args v V2 := by
  have hold : ∀ p ∈ before, (fun b => decide (b < V1.heap.size)) p.block = true := fun p hp => by simpa using hW.lt p hp
  refine ⟨ds, gs, before, [], before, [], hW, hres _ _ _, hargs _ hold, hvars _, ⟨hr.os, hr.output, fun i hi => ?_⟩, fun h => by cases h⟩
  have hk := hE i V1.heap[i] (Array.getElem?_eq_getElem hi)
  rw [hk, Array.getElem?_eq_getElem hi]
  cases V1.heap[i] <;> simp
end
theorem Try.own : ownKnob Try.prog.godebug = none := by kernel_rfl
end Go.Proofs.Ytgacbfckaglhbaa
namespace Go.Proofs.Ytgacbfckaglhbaa
open Go.ChangeShapes Go.WideShapes Go.ChangeAt Go.RowKit
open W

theorem Try.int3 : Try.prog.underlying 3 = some (.int .i64) := by kernel_rfl
theorem Try.sl22 : Try.prog.underlying 22 = some (.slice 3) := by kernel_rfl
theorem Try.bool4 : Try.prog.underlying 4 = some .bool := by kernel_rfl
theorem Try.one3 : Try.prog.cellsOf 3 = 1 := by kernel_rfl

set_option maxRecDepth 100000 in
theorem checks_lifted (os : Os) (started : os.Started) (H : Type) (enc : TypeId × Value → H) :
    ReturnsInHanded {} Try.checked os 4 .any (Rows.scheduleChecksSpec.pre6 enc Try.prog Try.f4 Rows.scheduleChecksRow.domain false) (Rows.scheduleChecksSpec.post enc Try.prog Try.f4 false true false false) := by
  refine returnsInHanded_of_change (C := Try.checked) Try.own started (by kernel_rfl) Try.func4
    (ChangeSpec.witness6 (enc := enc) (C := Try.checked) false ⟨#[], #[.slice none 0 0, .int .i64 0, .int .i64 0, .slice none 0 0, .slice none 0 0, .slice none 0 0], []⟩ 8 (by kernel_rfl) (by kernel_rfl) (by kernel_rfl) (by kernel_rfl)) ?_
  intro V1 base args ds gs before hval0 hW hcnd _
  have hval : ∀ (j : Nat) t v, Try.f4.params[j]? = some t → args[j]? = some v → Value.okWide Try.prog V1 .any base t v := hval0
  have hW' := hW
  obtain ⟨p, q, hA0, hV, rfl, hfz, hnd⟩ := hW
  have hA : DataW.TrodAll enc Try.prog V1 0 (fun _ => true) true Try.f4.params.toList args.toList ds p := hA0
  rw [Try.params4] at hA hval
  obtain ⟨args⟩ := args
  obtain ⟨v0, a1, d0, e1, p0, q1, rfl, rfl, rfl, h0, hA⟩ := trodAll_cons hA
  obtain ⟨v1, a2, d1, e2, p1, q2, rfl, rfl, rfl, h1, hA⟩ := trodAll_cons hA
  obtain ⟨v2, a3, d2, e3, p2, q3, rfl, rfl, rfl, h2, hA⟩ := trodAll_cons hA
  obtain ⟨v3, a4, d3, e4, p3, q4, rfl, rfl, rfl, h3, hA⟩ := trodAll_cons hA
  obtain ⟨v4, a5, d4, e5, p4, q5, rfl, rfl, rfl, h4, hA⟩ := trodAll_cons hA
  obtain ⟨v5, a6, d5, e6, p5, q6, rfl, rfl, rfl, h5, hA⟩ := trodAll_cons hA
  obtain ⟨rfl, rfl, rfl⟩ := trodAll_nil hA
  obtain ⟨rfl, rfl⟩ := trodVars_none hV
  obtain ⟨l, hl, fl, g0⟩ := arg_ints Try.sl22 Try.int3 Try.one3 (hval 0 22 v0 rfl rfl) h0
  obtain ⟨how, rfl, hh, g1⟩ := arg_int Try.int3 (hval 1 3 v1 rfl rfl) h1
  obtain ⟨byv, rfl, hb, g2⟩ := arg_int Try.int3 (hval 2 3 v2 rfl rfl) h2
  obtain ⟨order, ho, fo, g3⟩ := arg_ints Try.sl22 Try.int3 Try.one3 (hval 3 22 v3 rfl rfl) h3
  obtain ⟨start, hs, fs, g4⟩ := arg_ints Try.sl22 Try.int3 Try.one3 (hval 4 22 v4 rfl rfl) h4
  obtain ⟨on, hon, fon, g5⟩ := arg_ints Try.sl22 Try.int3 Try.one3 (hval 5 22 v5 rfl rfl) h5
  simp only [List.append_nil] at hW'
  refine (law_calls (checks_c v0 v3 v4 v5 l order start on how byv hl ho hon hh hb) (fun g hg => ?_)).mono fun e V2 hh2 => ?_
  · simp only [List.mem_cons, List.not_mem_nil, or_false] at hg
    rcases hg with rfl | rfl | rfl | rfl
    · exact fl
    · exact fo
    · exact fs
    · exact fon
  · obtain ⟨he, hr, hE⟩ := hh2
    refine ⟨_, he, post_law hW' (fun _ _ _ => trodAll_mk1 (shut_bool Try.bool4 _)) (fun sp hsp => ?_) (fun _ => rfl) hr hE (ok_one (by kernel_rfl) rfl (okWide_bool_mk Try.bool4 _))⟩
    have := (AgainAll.cons g0 (AgainAll.cons g1 (AgainAll.cons g2 (AgainAll.cons g3 (AgainAll.cons g4 (AgainAll.cons g5 AgainAll.nil)))))) V2 sp hE (by simpa using hsp)
    simp only [List.append_nil] at this
    show DataW.TrodAll enc Try.prog V2 0 sp true Try.f4.params.toList _ _ _
    rw [Try.params4]
    exact this

theorem scheduleChecks_holds : Rows.ScheduleChecksSaid :=
  OpenClaim.holds_of_wide 4 Try.f4 rfl rfl rfl rfl rfl rfl rfl ⟨rfl, rfl, rfl, rfl, rfl⟩ rfl rfl rfl rfl rfl (by kernel_rfl) Try.func4 (by kernel_rfl)
    (of_decide_eq_true (by kernel_rfl)) (by unfold Func.isWrapper; first | (rw [if_pos (by decide +kernel)]; kernel_rfl) | (rw [if_neg (by decide +kernel)]; exact ⟨rfl, rfl⟩))
    (fun os started H enc _ => checks_lifted os started H enc)
#print axioms scheduleChecks_holds
end Go.Proofs.Ytgacbfckaglhbaa
