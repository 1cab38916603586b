/- Lemmas for the proof of a law: Contracts of the law's package: lives. Conditions: none. -/
import Derived.Test.YtgacbfckaglhbaaBo5
import Derived.Test.YtgacbfckaglhbaaBo2
import Derived.Test.YtgacbfckaglhbaaBo4
import Derived.Test.YtgacbfckaglhbaaBo3
namespace Go.Proofs.Ytgacbfckaglhbaa
open W Go.RowKit

theorem three_best : bestP three 2 = ([0, 3, 3], [0, 0, 1], 5, 0) := by decide +kernel
theorem three_bound : boundP three 2 = ([0, 2], 0, 5) := by decide +kernel
theorem three_l1 : lstN three 2 [1, 0, 2] 3 = ([0, 0, 3], [1, 0, 0], 5) := by decide +kernel
theorem three_l2 : lstN three 2 [0, 2, 1] 3 = ([0, 5, 3], [0, 0, 0], 7) := by decide +kernel
theorem three_good : AllGood 2 three := fun i hi => by
  match i, hi with
  | 0, _ => exact ⟨by decide, by decide, by decide, by decide, fun k hk => by simp [three] at hk⟩
  | 1, _ => exact ⟨by decide, by decide, by decide, by decide, fun k hk => by simp [three] at hk⟩
  | 2, _ => exact ⟨by decide, by decide, by decide, by decide, fun k hk => by
      have : k = 0 := by simp [three] at hk; omega
      subst this; exact ⟨by decide, by decide, fun h => by omega⟩⟩
theorem three_valid : validE three 2 = 0 := validE_ok (by decide) (by decide) (by decide) three_good
theorem three_i64 : TI64 three := fun i => by
  match i with
  | 0 => unfold I64; simp [three]
  | 1 => unfold I64; simp [three]
  | 2 => unfold I64; simp [three]
  | (_ + 3) => unfold I64; simp [three, tk0]
theorem three_check : checkP three 2 [0, 3, 3] [0, 0, 1] = (5, 0) :=
  (checkP_ok (m := 2) three_valid (by decide) (by decide) (by unfold Feas okTask pairOK; decide +kernel)).trans (by decide +kernel)
theorem three_list1 : listP three 2 [1, 0, 2] = ([0, 0, 3], [1, 0, 0], 5, 0) := by
  have h := listP_ok (m := 2) (o := [1, 0, 2]) three_valid (by decide) (by unfold okOrder okAt; decide +kernel)
  rw [show three.length = 3 from rfl, three_l1] at h; exact h
theorem three_list2 : listP three 2 [0, 2, 1] = ([0, 5, 3], [0, 0, 0], 7, 0) := by
  have h := listP_ok (m := 2) (o := [0, 2, 1]) three_valid (by decide) (by unfold okOrder okAt; decide +kernel)
  rw [show three.length = 3 from rfl, three_l2] at h; exact h
attribute [local irreducible] WC WL WD YO LO LoopEnd W.Fin Scalar SliceT FieldAt Row ArrT AllocT KnS Has W.One SrcE IntT

set_option maxHeartbeats 4000000 in
set_option maxRecDepth 8000 in
theorem lives_c : FnB Try.prog 17 [] [] [] (IsV (.bool true)) := by
  refine fn_of [] 112 Try.func17 rfl Try.ntmps17 (by kernel_rfl) rfl (by repeat (first | exact Sub.nil _ | refine Sub.cons rfl ?_)) fun h0 => ?_
  repeat' (first | refine go ?_ | refine goX ?_ | refine goB ?_ | (refine goG ?_; intro g) | (refine goV ?_; intro v))
  refine WL.callG [] _ (.refl _) three_c ?_
  rintro v1 _ _ ⟨avs1, rfl, rfl⟩
  simp only [List.nil_append, List.cons_append]
  have h1 := best_c v1 avs1 three 2 three_i64
  rw [if_pos three_valid, three_best] at h1
  first | refine WL.callP (h1) ?_ | refine WD.callP (h1) ?_
  rintro _ _ _ ⟨a1, c1, rfl, rfl, rfl⟩
  simp only [List.cons_append, List.nil_append]
  repeat' (first | refine go ?_ | refine goX ?_ | refine goB ?_ | (refine goG ?_; intro g) | (refine goV ?_; intro v))
  refine WL.callG [] _ (.refl _) three_c ?_
  rintro v2 _ _ ⟨avs2, rfl, rfl⟩
  simp only [List.nil_append, List.cons_append]
  have h2 := check_c v2 a1 c1 avs2 three 2 [0, 3, 3] [0, 0, 1] three_i64
  rw [three_check] at h2
  repeat' (first | refine go ?_ | refine goX ?_ | refine goB ?_ | (refine goG ?_; intro g) | (refine goV ?_; intro v))
  first | refine WL.callV (h2) ?_ | refine WD.callV (h2) ?_
  repeat' (first | refine go ?_ | refine goX ?_ | refine goB ?_ | (refine goG ?_; intro g) | (refine goV ?_; intro v))
  refine WL.callG [] _ (.refl _) three_c ?_
  rintro v3 _ _ ⟨avs3, rfl, rfl⟩
  simp only [List.nil_append, List.cons_append]
  have h3 := bound_c v3 avs3 three 2 three_i64
  rw [if_pos three_valid, three_valid, show (2 : Int).toNat = 2 from rfl, three_bound] at h3
  first | refine WL.callP (h3) ?_ | refine WD.callP (h3) ?_
  rintro _ _ _ ⟨c3, rfl, rfl, rfl⟩
  simp only [List.cons_append, List.nil_append]
  repeat' (first | refine go ?_ | refine goX ?_ | refine goB ?_ | (refine goG ?_; intro g) | (refine goV ?_; intro v))
  refine WL.callG [] _ (.refl _) three_c ?_
  rintro v4 _ _ ⟨avs4, rfl, rfl⟩
  simp only [List.nil_append, List.cons_append]
  repeat' (first | refine go ?_ | refine goX ?_ | refine goB ?_ | (refine goG ?_; intro g) | (refine goV ?_; intro v))
  revert v; intro u4
  have h4 := list_c v4 u4 avs4 three 2 [1, 0, 2] three_i64
  rw [three_list1] at h4
  first | refine WL.callP (h4) ?_ | refine WD.callP (h4) ?_
  rintro _ _ _ ⟨a4, c4, rfl, rfl, rfl⟩
  simp only [List.cons_append, List.nil_append]
  repeat' (first | refine go ?_ | refine goX ?_ | refine goB ?_ | (refine goG ?_; intro g) | (refine goV ?_; intro v))
  refine WL.callG [] _ (.refl _) three_c ?_
  rintro v5 _ _ ⟨avs5, rfl, rfl⟩
  simp only [List.nil_append, List.cons_append]
  repeat' (first | refine go ?_ | refine goX ?_ | refine goB ?_ | (refine goG ?_; intro g) | (refine goV ?_; intro v))
  revert v; intro u5
  have h5 := list_c v5 u5 avs5 three 2 [0, 2, 1] three_i64
  rw [three_list2] at h5
  first | refine WL.callP (h5) ?_ | refine WD.callP (h5) ?_
  rintro _ _ _ ⟨a5, c5, rfl, rfl, rfl⟩
  simp only [List.cons_append, List.nil_append]
  repeat' (first | refine go ?_ | refine goX ?_ | refine goB ?_ | (refine goG ?_; intro g) | (refine goV ?_; intro v))
  first | refine WL.callV (sameInts_c c3 v [0, 2] [0, 2]) ?_ | refine WD.callV (sameInts_c c3 v [0, 2] [0, 2]) ?_
  rw [decide_eq_true rfl]
  repeat' (first | refine go ?_ | refine goX ?_ | refine goB ?_ | (refine goG ?_; intro g) | (refine goV ?_; intro v))
  first | refine WL.callV (sameInts_c a4 v [0, 0, 3] [0, 0, 3]) ?_ | refine WD.callV (sameInts_c a4 v [0, 0, 3] [0, 0, 3]) ?_
  rw [decide_eq_true rfl]
  repeat' (first | refine go ?_ | refine goX ?_ | refine goB ?_ | (refine goG ?_; intro g) | (refine goV ?_; intro v))
  first | refine WL.callV (sameInts_c c4 v [1, 0, 0] [1, 0, 0]) ?_ | refine WD.callV (sameInts_c c4 v [1, 0, 0] [1, 0, 0]) ?_
  rw [decide_eq_true rfl]
  repeat' (first | refine go ?_ | refine goX ?_ | refine goB ?_ | (refine goG ?_; intro g) | (refine goV ?_; intro v))
  refine WC.ret ?_
  exact Fin.v (ResE.t1 rfl rfl) (by (repeat (first | exact List.Mem.head _ | apply List.Mem.tail)); done) rfl
end Go.Proofs.Ytgacbfckaglhbaa
namespace Go.Proofs.Ytgacbfckaglhbaa
open W Go.RowKit

section
variable {e : Env} {bx : List Ow} {F : List Fct} {ty : TypeId} {x y x1 x2 x3 x4 : Operand} {a b c d a1 a2 b1 b2 c1 c2 d1 d2 : Value} {na nb nc n1 n2 n3 n4 n5 n6 n7 n8 : Nat} {K : RPost}
theorem YO.build43 (h1 : ev e x = some a) (h2 : ev e y = some b) (ka : KnS bx F a na) (kb : KnS bx F b nb) : YO Try.prog (.build 43 #[(0, x), (1, y)]) ty e bx F (.agg [a, b].toArray) := fun k fr ac w o hop hty hk ho => by
  obtain ⟨p1, q1, rfl, _⟩ := (ka fr w ho).is
  obtain ⟨p2, q2, rfl, _⟩ := (kb fr w ho).is
  exact (YO.build (P := Try.prog) (bx := bx) (F := F) (ty := ty) (parts := [(0, x), (1, y)]) (.cons h1 (.cons h2 .nil)) fun w => run_build w 43 _ _ (by kernel_rfl)) k fr ac w o hop hty hk ho
theorem LO.bs39 (h1 : ev e x1 = some a) (h2 : ev e x2 = some b) (h3 : ev e x3 = some c) (k1 : KnS bx F a na) (k2 : KnS bx F b nb) (k3 : KnS bx F c nc) (h : ∀ v, K v (Ow.slice v 22 1 [a, b, c] :: bx) F) : LO Try.prog (.buildSlice 39 3 #[(0, x1), (1, x2), (2, x3)]) ty e bx F K := fun k fr ac w o next Q' hop hty hk ho hn => by
  obtain ⟨p1, q1, rfl, _⟩ := (k1 fr w ho).is
  obtain ⟨p2, q2, rfl, _⟩ := (k2 fr w ho).is
  obtain ⟨p3, q3, rfl, _⟩ := (k3 fr w ho).is
  exact LO.buildSlice (P := Try.prog) (t := 39) (el := 22) (sz := 1) (len := 3) (parts := [(0, x1), (1, x2), (2, x3)]) (.cons h1 (.cons h2 (.cons h3 .nil))) (fun w => by kernel_rfl) rfl (by decide) h k fr ac w o next Q' hop hty hk ho hn
theorem LO.bs44 (h1 : ev e x1 = some (.agg [a1, a2].toArray)) (h2 : ev e x2 = some (.agg [b1, b2].toArray)) (h3 : ev e x3 = some (.agg [c1, c2].toArray)) (h4 : ev e x4 = some (.agg [d1, d2].toArray))
    (k1 : KnS bx F a1 n1) (k2 : KnS bx F a2 n2) (k3 : KnS bx F b1 n3) (k4 : KnS bx F b2 n4) (k5 : KnS bx F c1 n5) (k6 : KnS bx F c2 n6) (k7 : KnS bx F d1 n7) (k8 : KnS bx F d2 n8)
    (h : ∀ v, K v (Ow.slice v 43 2 [a1, a2, b1, b2, c1, c2, d1, d2] :: bx) F) : LO Try.prog (.buildSlice 44 4 #[(0, x1), (1, x2), (2, x3), (3, x4)]) ty e bx F K := fun k fr ac w o next Q' hop hty hk ho hn => by
  obtain ⟨p1, q1, rfl, _⟩ := (k1 fr w ho).is
  obtain ⟨p2, q2, rfl, _⟩ := (k2 fr w ho).is
  obtain ⟨p3, q3, rfl, _⟩ := (k3 fr w ho).is
  obtain ⟨p4, q4, rfl, _⟩ := (k4 fr w ho).is
  obtain ⟨p5, q5, rfl, _⟩ := (k5 fr w ho).is
  obtain ⟨p6, q6, rfl, _⟩ := (k6 fr w ho).is
  obtain ⟨p7, q7, rfl, _⟩ := (k7 fr w ho).is
  obtain ⟨p8, q8, rfl, _⟩ := (k8 fr w ho).is
  exact LO.buildSlice (P := Try.prog) (t := 44) (el := 43) (sz := 2) (len := 4) (parts := [(0, x1), (1, x2), (2, x3), (3, x4)]) (.cons h1 (.cons h2 (.cons h3 (.cons h4 .nil)))) (fun w => by kernel_rfl) rfl (by decide) h k fr ac w o next Q' hop hty hk ho hn
variable {P : Program} {t el len sz j k : Nat} {v : Value}
theorem YO.ixE (ht : ArrT P t el len sz) (hx : ev e x = some (.pointer (some (eaddr v j)))) (hy : ev e y = some (.int .i64 (k : Int))) (hk' : k < len) : YO P (.indexAddr t x y) ty e bx F (.pointer (some (eaddr v (j + k * sz)))) := by
  have := YO.ixB (P := P) (ty := ty) (bx := bx) (F := F) (b := (eaddr v j).block) (q := (eaddr v j).off) ht (by rw [hx]; congr 2; exact congrArg some (by rw [show (⟨(eaddr v j).block, (eaddr v j).off, none⟩ : Addr) = eaddr v (j + 0) from eaddr_add v j 0]; rfl)) hy hk'
  rwa [eaddr_add] at this
end

theorem listP_len {ts : List Tk} {m : Int} {o : List Int} : (listP ts m o).1.length ≤ 10 ∧ (listP ts m o).2.1.length ≤ 10 ∧ (listP ts m o).2.1.length = (listP ts m o).1.length := by
  by_cases h : validE ts m = 0
  · by_cases h1 : o.length = ts.length
    · obtain ⟨hl, M, rfl, hM1, hM4, hg⟩ := validE_0 h
      by_cases h2 : okOrder ts M o ts.length
      · rw [listP_ok h h1 h2]
        have hk := lst_ok hg o ts.length
        have h3 := hk.l1
        have h4 := hk.l2
        simp only; omega
      · have : ∃ j, j < ts.length ∧ ¬ okAt ts M o j := Classical.byContradiction fun hc => h2 fun j hj => Classical.byContradiction fun hn => hc ⟨j, hj, hn⟩
        obtain ⟨j, hj, hn⟩ := this
        rw [listP_no h h1 hj hn]; simp
    · rw [listP_l h h1]; simp
  · rw [listP_e h]; simp
theorem tk0_i64 : I64 tk0.time ∧ I64 tk0.on ∧ ∀ x ∈ tk0.after, I64 x := by unfold I64; simp [tk0]
theorem TI64.set {ts : List Tk} (h : TI64 ts) {i : Nat} {t : Tk} (ht : I64 t.time ∧ I64 t.on ∧ ∀ x ∈ t.after, I64 x) : TI64 (ts.set i t) := fun j => by
  rw [tg_set]; split
  · exact ht
  · exact h j
theorem bent_i64 {ts : List Tk} {m how byv : Int} (h : TI64 ts) (hn : ts.length ≤ 10) (hb : I64 byv) : TI64 (bentP ts m how byv).1 := by
  have hA := around_bd (n := byv) (m := max (ts.length : Int) 1) (by omega)
  obtain ⟨t1, t2, t3⟩ := h (around byv (max (ts.length : Int) 1)).toNat
  unfold bentP
  simp only
  split
  · exact h
  split
  · intro i
    rw [show tg (List.replicate 11 tk0) i = tk0 from by simp only [tg, List.getD_eq_getElem?_getD, List.getElem?_replicate]; split <;> rfl]
    exact tk0_i64
  split
  · exact h
  split
  · exact h.set ⟨hb, t2, t3⟩
  split
  · exact h.set ⟨t1, hb, t3⟩
  split
  · refine h.set ⟨t1, t2, fun x hx => ?_⟩
    rcases List.mem_append.1 hx with hx | hx
    · exact t3 x hx
    · simp at hx; subst hx; unfold I64; omega
  split
  · exact h.set ⟨t1, t2, fun x hx => by simp at hx; subst hx; unfold I64; omega⟩
  split
  · exact h.set ⟨t1, t2, fun x hx => by simp at hx; subst hx; unfold I64; omega⟩
  · exact h
end Go.Proofs.Ytgacbfckaglhbaa
namespace Go.Proofs.Ytgacbfckaglhbaa

/-- the time of the first k tasks of a chain -/
def sumT (ts : List Tk) (c : List Int) : Nat → Int
  | 0 => 0
  | k + 1 => sumT ts c k + (tg ts (c.getD k 0).toNat).time
def lnkAt (ts : List Tk) (c : List Int) (j : Nat) : Prop := 0 ≤ c.getD j 0 ∧ c.getD j 0 < ts.length ∧ (0 < j → c.getD (j - 1) 0 ∈ (tg ts (c.getD j 0).toNat).after)
def lnk (ts : List Tk) (c : List Int) (k : Nat) : Prop := ∀ j, j < k → lnkAt ts c j
open Classical in
noncomputable def showP (ts : List Tk) (m : Int) (c : List Int) (on n : Int) : Int :=
  if validE ts m ≠ 0 then validE ts m
  else if on ≠ 0 then (if c.length = 0 ∧ 0 ≤ on ∧ on < 2 ^ m.toNat ∧ loadP ts m.toNat zer on.toNat = n then 0 else 22)
  else (if lnk ts c c.length ∧ sumT ts c c.length = n then 0 else 22)
theorem sumT_bd {ts : List Tk} {c : List Int} (ht : ∀ j, 0 ≤ (tg ts j).time ∧ (tg ts j).time ≤ 20) : ∀ k, 0 ≤ sumT ts c k ∧ sumT ts c k ≤ 20 * k
  | 0 => by simp [sumT]
  | k + 1 => by have := sumT_bd (c := c) ht k; have := ht (c.getD k 0).toNat; rw [sumT]; omega
section
variable {ts : List Tk} {M : Nat} {m : Int} {c : List Int} {on n : Int}
theorem showP_e (h : validE ts m ≠ 0) : showP ts m c on n = validE ts m := by simp [showP, h]
theorem showP_set (h : validE ts M = 0) (h0 : on ≠ 0) : showP ts M c on n = if c.length = 0 ∧ 0 ≤ on ∧ on < 2 ^ M ∧ loadP ts M zer on.toNat = n then 0 else 22 := by
  rw [showP, if_neg (by simpa using h), if_pos h0, show (M : Int).toNat = M from rfl]
theorem showP_no (h : validE ts m = 0) (h0 : on = 0) (hn : ¬ (lnk ts c c.length ∧ sumT ts c c.length = n)) : showP ts m c on n = 22 := by
  rw [showP, if_neg (by simpa using h), if_neg (by simpa using h0), if_neg hn]
theorem showP_ok (h : validE ts m = 0) (h0 : on = 0) (hn : lnk ts c c.length) (hs : sumT ts c c.length = n) : showP ts m c on n = 0 := by
  rw [showP, if_neg (by simpa using h), if_neg (by simpa using h0), if_pos ⟨hn, hs⟩]
end
end Go.Proofs.Ytgacbfckaglhbaa
namespace Go.Proofs.Ytgacbfckaglhbaa
open W Go.RowKit
attribute [local irreducible] WC WL WD YO LO LoopEnd W.Fin Scalar SliceT FieldAt Row ArrT AllocT KnS Has W.One SrcE IntT

set_option maxHeartbeats 4000000 in
set_option maxRecDepth 8000 in
theorem checkBound_c (v cv : Value) (avs : List Value) (ts : List Tk) (m on n : Int) (c : List Int) (hi64 : TI64 ts) (hcl : c.length ≤ 100) (hon : I64 on) :
    FnB Try.prog 30 [v, .int .i64 m, .agg [cv, .int .i64 on, .int .i64 n].toArray] [] [sT v avs ts, sA avs ts, sI cv c] (IsV (.int .i64 (showP ts m c on n))) := by
  refine fn_of [(0, v), (1, .int .i64 m), (2, .agg [cv, .int .i64 on, .int .i64 n].toArray)] 96 Try.func30 rfl Try.ntmps30 (by kernel_rfl) rfl (by repeat (first | exact Sub.nil _ | refine Sub.cons rfl ?_)) fun h0 => ?_
  repeat' (first | refine go ?_ | refine goX ?_ | refine goB ?_ | (refine goG ?_; intro g) | (refine goV ?_; intro v) | refine goD ?_ | refine goXD ?_ | (refine goDG ?_; intro g) | (refine goDV ?_; intro v) | (apply WC.draw (id := 6) [0, 1, 2, 3, 4, 5, 6, 7, 8, 9, 10, 11, 12, 13, 14, 15, 17, 18, 20, 21, 22, 23] (.held 0 (.held 1 (.held 2 (.held 3 (.held 4 (.held 5 (.held 6 (.held 7 (.held 8 (.held 9 (.held 10 (.held 11 (.held 12 (.held 13 (.held 14 (.held 15 (.held 17 (.held 18 (.held 20 (.held 21 (.loud 16 (.loud 19 (.held 22 (.held 23 (.done))))))))))))))))))))))))) mixed (by kernel_rfl)) | (apply WC.draw (id := 13) [0, 1, 2, 3, 4, 5, 6, 7, 8, 9, 10, 11, 12, 13, 14, 15, 16, 17, 18, 19, 20, 21, 22, 24, 25, 26] (.held 0 (.held 1 (.held 2 (.held 3 (.held 4 (.held 5 (.held 6 (.held 7 (.held 8 (.held 9 (.held 10 (.held 11 (.held 12 (.held 13 (.held 14 (.held 15 (.held 16 (.held 17 (.held 18 (.held 19 (.held 20 (.held 21 (.held 22 (.loud 23 (.held 24 (.held 25 (.held 26 (.done)))))))))))))))))))))))))))) mixed (by kernel_rfl)))
  revert g; intro gp
  first | refine WL.callV (valid_c v avs ts m hi64) ?_ | refine WD.callV (valid_c v avs ts m hi64) ?_
  by_cases h : validE ts m = 0
  · obtain ⟨hl, M, rfl, hM1, hM4, hg⟩ := validE_0 h
    rw [h]
    have hp := pow_16 (M := M) (by omega)
    have hp1 := pow_1 M
    have e5 := pow_e M
    have c5 : (1 : Int) * 2 ^ ((M : Int)).toNat ≤ 9223372036854775807 := by rw [e5]; omega
    have c6 : 0 ≤ (1 : Int) * 2 ^ ((M : Int)).toNat := by rw [e5]; omega
    by_cases ho : on = 0
    · have hti := good_time hg
      have hno : ¬ (lnk ts c c.length ∧ sumT ts c c.length = n) → showP ts M c on n = 22 := showP_no h ho
      repeat' (first | refine go ?_ | refine goX ?_ | refine goB ?_ | (refine goG ?_; intro g) | (refine goV ?_; intro v) | refine goD ?_ | refine goXD ?_ | (refine goDG ?_; intro g) | (refine goDV ?_; intro v) | (apply WC.draw (id := 6) [0, 1, 2, 3, 4, 5, 6, 7, 8, 9, 10, 11, 12, 13, 14, 15, 17, 18, 20, 21, 22, 23] (.held 0 (.held 1 (.held 2 (.held 3 (.held 4 (.held 5 (.held 6 (.held 7 (.held 8 (.held 9 (.held 10 (.held 11 (.held 12 (.held 13 (.held 14 (.held 15 (.held 17 (.held 18 (.held 20 (.held 21 (.loud 16 (.loud 19 (.held 22 (.held 23 (.done))))))))))))))))))))))))) mixed (by kernel_rfl)) | (apply WC.draw (id := 13) [0, 1, 2, 3, 4, 5, 6, 7, 8, 9, 10, 11, 12, 13, 14, 15, 16, 17, 18, 19, 20, 21, 22, 24, 25, 26] (.held 0 (.held 1 (.held 2 (.held 3 (.held 4 (.held 5 (.held 6 (.held 7 (.held 8 (.held 9 (.held 10 (.held 11 (.held 12 (.held 13 (.held 14 (.held 15 (.held 16 (.held 17 (.held 18 (.held 19 (.held 20 (.held 21 (.held 22 (.loud 23 (.held 24 (.held 25 (.held 26 (.done)))))))))))))))))))))))))))) mixed (by kernel_rfl)))
      refine WC.lp (σ := Nat) (fun k => [(52, .int .i64 (k : Int)), (51, .int .i64 (c.length : Int)), (50, cv), (9, .int .i64 (sumT ts c k)), (5, ptr gp), (0, v), (1, .int .i64 M)]) (fun _ => [Ow.cells gp 53 [cv, .int .i64 on, .int .i64 n]]) (fun _ => [ge h0, sT v avs ts, sA avs ts, sI cv c]) (fun k => k ≤ c.length ∧ lnk ts c k) (fun k => c.length - k) 0 ⟨by simp, fun j hj => by omega⟩ ?_
      rintro k ⟨hk, hlk⟩
      have hsb := sumT_bd (c := c) hti k
      have es : sumT ts c (k + 1) = sumT ts c k + (tg ts (c.getD k 0).toNat).time := rfl
      generalize hsk : sumT ts c k = sk at *
      by_cases hlt : k < c.length
      · have hbad : ¬ lnkAt ts c k → showP ts M c on n = 22 := fun hb => hno fun hc => hb (hc.1 k hlt)
        by_cases d1 : c.getD k 0 < 0
        · repeat' (first | refine go ?_ | refine goX ?_ | refine goB ?_ | (refine goG ?_; intro g) | (refine goV ?_; intro v) | refine goD ?_ | refine goXD ?_ | (refine goDG ?_; intro g) | (refine goDV ?_; intro v) | (apply WC.draw (id := 6) [0, 1, 2, 3, 4, 5, 6, 7, 8, 9, 10, 11, 12, 13, 14, 15, 17, 18, 20, 21, 22, 23] (.held 0 (.held 1 (.held 2 (.held 3 (.held 4 (.held 5 (.held 6 (.held 7 (.held 8 (.held 9 (.held 10 (.held 11 (.held 12 (.held 13 (.held 14 (.held 15 (.held 17 (.held 18 (.held 20 (.held 21 (.loud 16 (.loud 19 (.held 22 (.held 23 (.done))))))))))))))))))))))))) mixed (by kernel_rfl)) | (apply WC.draw (id := 13) [0, 1, 2, 3, 4, 5, 6, 7, 8, 9, 10, 11, 12, 13, 14, 15, 16, 17, 18, 19, 20, 21, 22, 24, 25, 26] (.held 0 (.held 1 (.held 2 (.held 3 (.held 4 (.held 5 (.held 6 (.held 7 (.held 8 (.held 9 (.held 10 (.held 11 (.held 12 (.held 13 (.held 14 (.held 15 (.held 16 (.held 17 (.held 18 (.held 19 (.held 20 (.held 21 (.held 22 (.loud 23 (.held 24 (.held 25 (.held 26 (.done)))))))))))))))))))))))))))) mixed (by kernel_rfl)))
          refine WC.ret ?_
          exact Fin.v (ResE.t1 rfl rfl) (by (repeat (first | exact List.Mem.head _ | apply List.Mem.tail)); done) (by rw [hbad]; intro hc; have := hc.1; omega)
        by_cases d2 : ts.length ≤ c.getD k 0
        · repeat' (first | refine go ?_ | refine goX ?_ | refine goB ?_ | (refine goG ?_; intro g) | (refine goV ?_; intro v) | refine goD ?_ | refine goXD ?_ | (refine goDG ?_; intro g) | (refine goDV ?_; intro v) | (apply WC.draw (id := 6) [0, 1, 2, 3, 4, 5, 6, 7, 8, 9, 10, 11, 12, 13, 14, 15, 17, 18, 20, 21, 22, 23] (.held 0 (.held 1 (.held 2 (.held 3 (.held 4 (.held 5 (.held 6 (.held 7 (.held 8 (.held 9 (.held 10 (.held 11 (.held 12 (.held 13 (.held 14 (.held 15 (.held 17 (.held 18 (.held 20 (.held 21 (.loud 16 (.loud 19 (.held 22 (.held 23 (.done))))))))))))))))))))))))) mixed (by kernel_rfl)) | (apply WC.draw (id := 13) [0, 1, 2, 3, 4, 5, 6, 7, 8, 9, 10, 11, 12, 13, 14, 15, 16, 17, 18, 19, 20, 21, 22, 24, 25, 26] (.held 0 (.held 1 (.held 2 (.held 3 (.held 4 (.held 5 (.held 6 (.held 7 (.held 8 (.held 9 (.held 10 (.held 11 (.held 12 (.held 13 (.held 14 (.held 15 (.held 16 (.held 17 (.held 18 (.held 19 (.held 20 (.held 21 (.held 22 (.loud 23 (.held 24 (.held 25 (.held 26 (.done)))))))))))))))))))))))))))) mixed (by kernel_rfl)))
          refine WC.ret ?_
          exact Fin.v (ResE.t1 rfl rfl) (by (repeat (first | exact List.Mem.head _ | apply List.Mem.tail)); done) (by rw [hbad]; intro hc; have := hc.2.1; omega)
        have htx := hti (c.getD k 0).toNat
        have hxl : (c.getD k 0).toNat < ts.length := by omega
        have e6 : ((k : Int) - 1).toNat = k - 1 := by omega
        by_cases d3 : 0 < k
        · by_cases d4 : c.getD (k - 1) 0 ∈ (tg ts (c.getD k 0).toNat).after
          · repeat' (first | refine go ?_ | refine goX ?_ | refine goB ?_ | (refine goG ?_; intro g) | (refine goV ?_; intro v) | refine goD ?_ | refine goXD ?_ | (refine goDG ?_; intro g) | (refine goDV ?_; intro v) | (apply WC.draw (id := 6) [0, 1, 2, 3, 4, 5, 6, 7, 8, 9, 10, 11, 12, 13, 14, 15, 17, 18, 20, 21, 22, 23] (.held 0 (.held 1 (.held 2 (.held 3 (.held 4 (.held 5 (.held 6 (.held 7 (.held 8 (.held 9 (.held 10 (.held 11 (.held 12 (.held 13 (.held 14 (.held 15 (.held 17 (.held 18 (.held 20 (.held 21 (.loud 16 (.loud 19 (.held 22 (.held 23 (.done))))))))))))))))))))))))) mixed (by kernel_rfl)) | (apply WC.draw (id := 13) [0, 1, 2, 3, 4, 5, 6, 7, 8, 9, 10, 11, 12, 13, 14, 15, 16, 17, 18, 19, 20, 21, 22, 24, 25, 26] (.held 0 (.held 1 (.held 2 (.held 3 (.held 4 (.held 5 (.held 6 (.held 7 (.held 8 (.held 9 (.held 10 (.held 11 (.held 12 (.held 13 (.held 14 (.held 15 (.held 16 (.held 17 (.held 18 (.held 19 (.held 20 (.held 21 (.held 22 (.loud 23 (.held 24 (.held 25 (.held 26 (.done)))))))))))))))))))))))))))) mixed (by kernel_rfl)))
            rw [e6]
            first | refine WL.callV (contains_c (avs.getD (c.getD k 0).toNat undef) (tg ts (c.getD k 0).toNat).after (c.getD (k - 1) 0)) ?_ | refine WD.callV (contains_c (avs.getD (c.getD k 0).toNat undef) (tg ts (c.getD k 0).toNat).after (c.getD (k - 1) 0)) ?_
            rw [decide_eq_true d4]
            repeat' (first | refine go ?_ | refine goX ?_ | refine goB ?_ | (refine goG ?_; intro g) | (refine goV ?_; intro v) | refine goD ?_ | refine goXD ?_ | (refine goDG ?_; intro g) | (refine goDV ?_; intro v) | (apply WC.draw (id := 6) [0, 1, 2, 3, 4, 5, 6, 7, 8, 9, 10, 11, 12, 13, 14, 15, 17, 18, 20, 21, 22, 23] (.held 0 (.held 1 (.held 2 (.held 3 (.held 4 (.held 5 (.held 6 (.held 7 (.held 8 (.held 9 (.held 10 (.held 11 (.held 12 (.held 13 (.held 14 (.held 15 (.held 17 (.held 18 (.held 20 (.held 21 (.loud 16 (.loud 19 (.held 22 (.held 23 (.done))))))))))))))))))))))))) mixed (by kernel_rfl)) | (apply WC.draw (id := 13) [0, 1, 2, 3, 4, 5, 6, 7, 8, 9, 10, 11, 12, 13, 14, 15, 16, 17, 18, 19, 20, 21, 22, 24, 25, 26] (.held 0 (.held 1 (.held 2 (.held 3 (.held 4 (.held 5 (.held 6 (.held 7 (.held 8 (.held 9 (.held 10 (.held 11 (.held 12 (.held 13 (.held 14 (.held 15 (.held 16 (.held 17 (.held 18 (.held 19 (.held 20 (.held 21 (.held 22 (.loud 23 (.held 24 (.held 25 (.held 26 (.done)))))))))))))))))))))))))))) mixed (by kernel_rfl)))
            exact LoopEnd.mk (k + 1) ⟨by omega, upto_succ hlk ⟨by omega, by omega, fun _ => d4⟩⟩ (by omega) (by rw [es]; exact (by repeat (first | exact Sub.nil _ | refine Sub.cons rfl ?_)))
          · repeat' (first | refine go ?_ | refine goX ?_ | refine goB ?_ | (refine goG ?_; intro g) | (refine goV ?_; intro v) | refine goD ?_ | refine goXD ?_ | (refine goDG ?_; intro g) | (refine goDV ?_; intro v) | (apply WC.draw (id := 6) [0, 1, 2, 3, 4, 5, 6, 7, 8, 9, 10, 11, 12, 13, 14, 15, 17, 18, 20, 21, 22, 23] (.held 0 (.held 1 (.held 2 (.held 3 (.held 4 (.held 5 (.held 6 (.held 7 (.held 8 (.held 9 (.held 10 (.held 11 (.held 12 (.held 13 (.held 14 (.held 15 (.held 17 (.held 18 (.held 20 (.held 21 (.loud 16 (.loud 19 (.held 22 (.held 23 (.done))))))))))))))))))))))))) mixed (by kernel_rfl)) | (apply WC.draw (id := 13) [0, 1, 2, 3, 4, 5, 6, 7, 8, 9, 10, 11, 12, 13, 14, 15, 16, 17, 18, 19, 20, 21, 22, 24, 25, 26] (.held 0 (.held 1 (.held 2 (.held 3 (.held 4 (.held 5 (.held 6 (.held 7 (.held 8 (.held 9 (.held 10 (.held 11 (.held 12 (.held 13 (.held 14 (.held 15 (.held 16 (.held 17 (.held 18 (.held 19 (.held 20 (.held 21 (.held 22 (.loud 23 (.held 24 (.held 25 (.held 26 (.done)))))))))))))))))))))))))))) mixed (by kernel_rfl)))
            rw [e6]
            first | refine WL.callV (contains_c (avs.getD (c.getD k 0).toNat undef) (tg ts (c.getD k 0).toNat).after (c.getD (k - 1) 0)) ?_ | refine WD.callV (contains_c (avs.getD (c.getD k 0).toNat undef) (tg ts (c.getD k 0).toNat).after (c.getD (k - 1) 0)) ?_
            rw [decide_eq_false d4]
            repeat' (first | refine go ?_ | refine goX ?_ | refine goB ?_ | (refine goG ?_; intro g) | (refine goV ?_; intro v) | refine goD ?_ | refine goXD ?_ | (refine goDG ?_; intro g) | (refine goDV ?_; intro v) | (apply WC.draw (id := 6) [0, 1, 2, 3, 4, 5, 6, 7, 8, 9, 10, 11, 12, 13, 14, 15, 17, 18, 20, 21, 22, 23] (.held 0 (.held 1 (.held 2 (.held 3 (.held 4 (.held 5 (.held 6 (.held 7 (.held 8 (.held 9 (.held 10 (.held 11 (.held 12 (.held 13 (.held 14 (.held 15 (.held 17 (.held 18 (.held 20 (.held 21 (.loud 16 (.loud 19 (.held 22 (.held 23 (.done))))))))))))))))))))))))) mixed (by kernel_rfl)) | (apply WC.draw (id := 13) [0, 1, 2, 3, 4, 5, 6, 7, 8, 9, 10, 11, 12, 13, 14, 15, 16, 17, 18, 19, 20, 21, 22, 24, 25, 26] (.held 0 (.held 1 (.held 2 (.held 3 (.held 4 (.held 5 (.held 6 (.held 7 (.held 8 (.held 9 (.held 10 (.held 11 (.held 12 (.held 13 (.held 14 (.held 15 (.held 16 (.held 17 (.held 18 (.held 19 (.held 20 (.held 21 (.held 22 (.loud 23 (.held 24 (.held 25 (.held 26 (.done)))))))))))))))))))))))))))) mixed (by kernel_rfl)))
            refine WC.ret ?_
            exact Fin.v (ResE.t1 rfl rfl) (by (repeat (first | exact List.Mem.head _ | apply List.Mem.tail)); done) (by rw [hbad]; intro hc; exact d4 (hc.2.2 d3))
        · repeat' (first | refine go ?_ | refine goX ?_ | refine goB ?_ | (refine goG ?_; intro g) | (refine goV ?_; intro v) | refine goD ?_ | refine goXD ?_ | (refine goDG ?_; intro g) | (refine goDV ?_; intro v) | (apply WC.draw (id := 6) [0, 1, 2, 3, 4, 5, 6, 7, 8, 9, 10, 11, 12, 13, 14, 15, 17, 18, 20, 21, 22, 23] (.held 0 (.held 1 (.held 2 (.held 3 (.held 4 (.held 5 (.held 6 (.held 7 (.held 8 (.held 9 (.held 10 (.held 11 (.held 12 (.held 13 (.held 14 (.held 15 (.held 17 (.held 18 (.held 20 (.held 21 (.loud 16 (.loud 19 (.held 22 (.held 23 (.done))))))))))))))))))))))))) mixed (by kernel_rfl)) | (apply WC.draw (id := 13) [0, 1, 2, 3, 4, 5, 6, 7, 8, 9, 10, 11, 12, 13, 14, 15, 16, 17, 18, 19, 20, 21, 22, 24, 25, 26] (.held 0 (.held 1 (.held 2 (.held 3 (.held 4 (.held 5 (.held 6 (.held 7 (.held 8 (.held 9 (.held 10 (.held 11 (.held 12 (.held 13 (.held 14 (.held 15 (.held 16 (.held 17 (.held 18 (.held 19 (.held 20 (.held 21 (.held 22 (.loud 23 (.held 24 (.held 25 (.held 26 (.done)))))))))))))))))))))))))))) mixed (by kernel_rfl)))
          exact LoopEnd.mk (k + 1) ⟨by omega, upto_succ hlk ⟨by omega, by omega, fun h => absurd h d3⟩⟩ (by omega) (by rw [es]; exact (by repeat (first | exact Sub.nil _ | refine Sub.cons rfl ?_)))
      · obtain rfl : k = c.length := by omega
        by_cases hn : sk = n
        · repeat' (first | refine go ?_ | refine goX ?_ | refine goB ?_ | (refine goG ?_; intro g) | (refine goV ?_; intro v) | refine goD ?_ | refine goXD ?_ | (refine goDG ?_; intro g) | (refine goDV ?_; intro v) | (apply WC.draw (id := 6) [0, 1, 2, 3, 4, 5, 6, 7, 8, 9, 10, 11, 12, 13, 14, 15, 17, 18, 20, 21, 22, 23] (.held 0 (.held 1 (.held 2 (.held 3 (.held 4 (.held 5 (.held 6 (.held 7 (.held 8 (.held 9 (.held 10 (.held 11 (.held 12 (.held 13 (.held 14 (.held 15 (.held 17 (.held 18 (.held 20 (.held 21 (.loud 16 (.loud 19 (.held 22 (.held 23 (.done))))))))))))))))))))))))) mixed (by kernel_rfl)) | (apply WC.draw (id := 13) [0, 1, 2, 3, 4, 5, 6, 7, 8, 9, 10, 11, 12, 13, 14, 15, 16, 17, 18, 19, 20, 21, 22, 24, 25, 26] (.held 0 (.held 1 (.held 2 (.held 3 (.held 4 (.held 5 (.held 6 (.held 7 (.held 8 (.held 9 (.held 10 (.held 11 (.held 12 (.held 13 (.held 14 (.held 15 (.held 16 (.held 17 (.held 18 (.held 19 (.held 20 (.held 21 (.held 22 (.loud 23 (.held 24 (.held 25 (.held 26 (.done)))))))))))))))))))))))))))) mixed (by kernel_rfl)))
          refine WC.ret ?_
          exact Fin.v (ResE.t1 rfl rfl) (by (repeat (first | exact List.Mem.head _ | apply List.Mem.tail)); done) (by rw [showP_ok h ho hlk (by rw [hsk, hn])])
        · repeat' (first | refine go ?_ | refine goX ?_ | refine goB ?_ | (refine goG ?_; intro g) | (refine goV ?_; intro v) | refine goD ?_ | refine goXD ?_ | (refine goDG ?_; intro g) | (refine goDV ?_; intro v) | (apply WC.draw (id := 6) [0, 1, 2, 3, 4, 5, 6, 7, 8, 9, 10, 11, 12, 13, 14, 15, 17, 18, 20, 21, 22, 23] (.held 0 (.held 1 (.held 2 (.held 3 (.held 4 (.held 5 (.held 6 (.held 7 (.held 8 (.held 9 (.held 10 (.held 11 (.held 12 (.held 13 (.held 14 (.held 15 (.held 17 (.held 18 (.held 20 (.held 21 (.loud 16 (.loud 19 (.held 22 (.held 23 (.done))))))))))))))))))))))))) mixed (by kernel_rfl)) | (apply WC.draw (id := 13) [0, 1, 2, 3, 4, 5, 6, 7, 8, 9, 10, 11, 12, 13, 14, 15, 16, 17, 18, 19, 20, 21, 22, 24, 25, 26] (.held 0 (.held 1 (.held 2 (.held 3 (.held 4 (.held 5 (.held 6 (.held 7 (.held 8 (.held 9 (.held 10 (.held 11 (.held 12 (.held 13 (.held 14 (.held 15 (.held 16 (.held 17 (.held 18 (.held 19 (.held 20 (.held 21 (.held 22 (.loud 23 (.held 24 (.held 25 (.held 26 (.done)))))))))))))))))))))))))))) mixed (by kernel_rfl)))
          refine WC.ret ?_
          exact Fin.v (ResE.t1 rfl rfl) (by (repeat (first | exact List.Mem.head _ | apply List.Mem.tail)); done) (by rw [hno]; intro hc; exact hn (by rw [← hsk]; exact hc.2))
    · have hsh := showP_set (c := c) (n := n) h ho
      have hz := set_ne (M := M) (by omega) hon.1 hon.2
      by_cases hc : 0 < c.length
      · rw [if_neg (by omega)] at hsh
        repeat' (first | refine go ?_ | refine goX ?_ | refine goB ?_ | (refine goG ?_; intro g) | (refine goV ?_; intro v) | refine goD ?_ | refine goXD ?_ | (refine goDG ?_; intro g) | (refine goDV ?_; intro v) | (apply WC.draw (id := 6) [0, 1, 2, 3, 4, 5, 6, 7, 8, 9, 10, 11, 12, 13, 14, 15, 17, 18, 20, 21, 22, 23] (.held 0 (.held 1 (.held 2 (.held 3 (.held 4 (.held 5 (.held 6 (.held 7 (.held 8 (.held 9 (.held 10 (.held 11 (.held 12 (.held 13 (.held 14 (.held 15 (.held 17 (.held 18 (.held 20 (.held 21 (.loud 16 (.loud 19 (.held 22 (.held 23 (.done))))))))))))))))))))))))) mixed (by kernel_rfl)) | (apply WC.draw (id := 13) [0, 1, 2, 3, 4, 5, 6, 7, 8, 9, 10, 11, 12, 13, 14, 15, 16, 17, 18, 19, 20, 21, 22, 24, 25, 26] (.held 0 (.held 1 (.held 2 (.held 3 (.held 4 (.held 5 (.held 6 (.held 7 (.held 8 (.held 9 (.held 10 (.held 11 (.held 12 (.held 13 (.held 14 (.held 15 (.held 16 (.held 17 (.held 18 (.held 19 (.held 20 (.held 21 (.held 22 (.loud 23 (.held 24 (.held 25 (.held 26 (.done)))))))))))))))))))))))))))) mixed (by kernel_rfl)))
        refine WC.ret ?_
        exact Fin.v (ResE.t1 rfl rfl) (by (repeat (first | exact List.Mem.head _ | apply List.Mem.tail)); done) (by rw [hsh])
      · by_cases ha : anot on (1 * 2 ^ ((M : Int)).toNat - 1) = 0
        · obtain ⟨hz1, hz2⟩ := hz.1 ha
          obtain ⟨o, rfl⟩ : ∃ o : Nat, on = o := ⟨on.toNat, by omega⟩
          rw [show (o : Int).toNat = o from rfl] at hsh
          have hzl : zer.length = 26 := rfl
          have hl1 : 1 ≤ o := by omega
          have hl2 : o < 16 := by omega
          repeat' (first | refine go ?_ | refine goX ?_ | refine goB ?_ | (refine goG ?_; intro g) | (refine goV ?_; intro v) | refine goD ?_ | refine goXD ?_ | (refine goDG ?_; intro g) | (refine goDV ?_; intro v) | (apply WC.draw (id := 6) [0, 1, 2, 3, 4, 5, 6, 7, 8, 9, 10, 11, 12, 13, 14, 15, 17, 18, 20, 21, 22, 23] (.held 0 (.held 1 (.held 2 (.held 3 (.held 4 (.held 5 (.held 6 (.held 7 (.held 8 (.held 9 (.held 10 (.held 11 (.held 12 (.held 13 (.held 14 (.held 15 (.held 17 (.held 18 (.held 20 (.held 21 (.loud 16 (.loud 19 (.held 22 (.held 23 (.done))))))))))))))))))))))))) mixed (by kernel_rfl)) | (apply WC.draw (id := 13) [0, 1, 2, 3, 4, 5, 6, 7, 8, 9, 10, 11, 12, 13, 14, 15, 16, 17, 18, 19, 20, 21, 22, 24, 25, 26] (.held 0 (.held 1 (.held 2 (.held 3 (.held 4 (.held 5 (.held 6 (.held 7 (.held 8 (.held 9 (.held 10 (.held 11 (.held 12 (.held 13 (.held 14 (.held 15 (.held 16 (.held 17 (.held 18 (.held 19 (.held 20 (.held 21 (.held 22 (.loud 23 (.held 24 (.held 25 (.held 26 (.done)))))))))))))))))))))))))))) mixed (by kernel_rfl)))
          revert g; intro gb
          first | refine WL.callV (load_c g gb v (.map none) avs ts M 0 zer zer o hg hl hM4 hzl zer_ok hl1 hl2) ?_ | refine WD.callV (load_c g gb v (.map none) avs ts M 0 zer zer o hg hl hM4 hzl zer_ok hl1 hl2) ?_
          by_cases hn : loadP ts M zer o = n
          · rw [if_pos ⟨by omega, hz1, hz2, hn⟩] at hsh
            repeat' (first | refine go ?_ | refine goX ?_ | refine goB ?_ | (refine goG ?_; intro g) | (refine goV ?_; intro v) | refine goD ?_ | refine goXD ?_ | (refine goDG ?_; intro g) | (refine goDV ?_; intro v) | (apply WC.draw (id := 6) [0, 1, 2, 3, 4, 5, 6, 7, 8, 9, 10, 11, 12, 13, 14, 15, 17, 18, 20, 21, 22, 23] (.held 0 (.held 1 (.held 2 (.held 3 (.held 4 (.held 5 (.held 6 (.held 7 (.held 8 (.held 9 (.held 10 (.held 11 (.held 12 (.held 13 (.held 14 (.held 15 (.held 17 (.held 18 (.held 20 (.held 21 (.loud 16 (.loud 19 (.held 22 (.held 23 (.done))))))))))))))))))))))))) mixed (by kernel_rfl)) | (apply WC.draw (id := 13) [0, 1, 2, 3, 4, 5, 6, 7, 8, 9, 10, 11, 12, 13, 14, 15, 16, 17, 18, 19, 20, 21, 22, 24, 25, 26] (.held 0 (.held 1 (.held 2 (.held 3 (.held 4 (.held 5 (.held 6 (.held 7 (.held 8 (.held 9 (.held 10 (.held 11 (.held 12 (.held 13 (.held 14 (.held 15 (.held 16 (.held 17 (.held 18 (.held 19 (.held 20 (.held 21 (.held 22 (.loud 23 (.held 24 (.held 25 (.held 26 (.done)))))))))))))))))))))))))))) mixed (by kernel_rfl)))
            refine WC.ret ?_
            exact Fin.v (ResE.t1 rfl rfl) (by (repeat (first | exact List.Mem.head _ | apply List.Mem.tail)); done) (by rw [hsh])
          · rw [if_neg (fun hc => hn hc.2.2.2)] at hsh
            repeat' (first | refine go ?_ | refine goX ?_ | refine goB ?_ | (refine goG ?_; intro g) | (refine goV ?_; intro v) | refine goD ?_ | refine goXD ?_ | (refine goDG ?_; intro g) | (refine goDV ?_; intro v) | (apply WC.draw (id := 6) [0, 1, 2, 3, 4, 5, 6, 7, 8, 9, 10, 11, 12, 13, 14, 15, 17, 18, 20, 21, 22, 23] (.held 0 (.held 1 (.held 2 (.held 3 (.held 4 (.held 5 (.held 6 (.held 7 (.held 8 (.held 9 (.held 10 (.held 11 (.held 12 (.held 13 (.held 14 (.held 15 (.held 17 (.held 18 (.held 20 (.held 21 (.loud 16 (.loud 19 (.held 22 (.held 23 (.done))))))))))))))))))))))))) mixed (by kernel_rfl)) | (apply WC.draw (id := 13) [0, 1, 2, 3, 4, 5, 6, 7, 8, 9, 10, 11, 12, 13, 14, 15, 16, 17, 18, 19, 20, 21, 22, 24, 25, 26] (.held 0 (.held 1 (.held 2 (.held 3 (.held 4 (.held 5 (.held 6 (.held 7 (.held 8 (.held 9 (.held 10 (.held 11 (.held 12 (.held 13 (.held 14 (.held 15 (.held 16 (.held 17 (.held 18 (.held 19 (.held 20 (.held 21 (.held 22 (.loud 23 (.held 24 (.held 25 (.held 26 (.done)))))))))))))))))))))))))))) mixed (by kernel_rfl)))
            refine WC.ret ?_
            exact Fin.v (ResE.t1 rfl rfl) (by (repeat (first | exact List.Mem.head _ | apply List.Mem.tail)); done) (by rw [hsh])
        · rw [if_neg (fun hc => ha (hz.2 ⟨hc.2.1, hc.2.2.1⟩))] at hsh
          repeat' (first | refine go ?_ | refine goX ?_ | refine goB ?_ | (refine goG ?_; intro g) | (refine goV ?_; intro v) | refine goD ?_ | refine goXD ?_ | (refine goDG ?_; intro g) | (refine goDV ?_; intro v) | (apply WC.draw (id := 6) [0, 1, 2, 3, 4, 5, 6, 7, 8, 9, 10, 11, 12, 13, 14, 15, 17, 18, 20, 21, 22, 23] (.held 0 (.held 1 (.held 2 (.held 3 (.held 4 (.held 5 (.held 6 (.held 7 (.held 8 (.held 9 (.held 10 (.held 11 (.held 12 (.held 13 (.held 14 (.held 15 (.held 17 (.held 18 (.held 20 (.held 21 (.loud 16 (.loud 19 (.held 22 (.held 23 (.done))))))))))))))))))))))))) mixed (by kernel_rfl)) | (apply WC.draw (id := 13) [0, 1, 2, 3, 4, 5, 6, 7, 8, 9, 10, 11, 12, 13, 14, 15, 16, 17, 18, 19, 20, 21, 22, 24, 25, 26] (.held 0 (.held 1 (.held 2 (.held 3 (.held 4 (.held 5 (.held 6 (.held 7 (.held 8 (.held 9 (.held 10 (.held 11 (.held 12 (.held 13 (.held 14 (.held 15 (.held 16 (.held 17 (.held 18 (.held 19 (.held 20 (.held 21 (.held 22 (.loud 23 (.held 24 (.held 25 (.held 26 (.done)))))))))))))))))))))))))))) mixed (by kernel_rfl)))
          refine WC.ret ?_
          exact Fin.v (ResE.t1 rfl rfl) (by (repeat (first | exact List.Mem.head _ | apply List.Mem.tail)); done) (by rw [hsh])
  · repeat' (first | refine go ?_ | refine goX ?_ | refine goB ?_ | (refine goG ?_; intro g) | (refine goV ?_; intro v) | refine goD ?_ | refine goXD ?_ | (refine goDG ?_; intro g) | (refine goDV ?_; intro v) | (apply WC.draw (id := 6) [0, 1, 2, 3, 4, 5, 6, 7, 8, 9, 10, 11, 12, 13, 14, 15, 17, 18, 20, 21, 22, 23] (.held 0 (.held 1 (.held 2 (.held 3 (.held 4 (.held 5 (.held 6 (.held 7 (.held 8 (.held 9 (.held 10 (.held 11 (.held 12 (.held 13 (.held 14 (.held 15 (.held 17 (.held 18 (.held 20 (.held 21 (.loud 16 (.loud 19 (.held 22 (.held 23 (.done))))))))))))))))))))))))) mixed (by kernel_rfl)) | (apply WC.draw (id := 13) [0, 1, 2, 3, 4, 5, 6, 7, 8, 9, 10, 11, 12, 13, 14, 15, 16, 17, 18, 19, 20, 21, 22, 24, 25, 26] (.held 0 (.held 1 (.held 2 (.held 3 (.held 4 (.held 5 (.held 6 (.held 7 (.held 8 (.held 9 (.held 10 (.held 11 (.held 12 (.held 13 (.held 14 (.held 15 (.held 16 (.held 17 (.held 18 (.held 19 (.held 20 (.held 21 (.held 22 (.loud 23 (.held 24 (.held 25 (.held 26 (.done)))))))))))))))))))))))))))) mixed (by kernel_rfl)))
    refine WC.ret ?_
    exact Fin.v (ResE.t1 rfl rfl) (by (repeat (first | exact List.Mem.head _ | apply List.Mem.tail)); done) (by rw [showP_e h])
end Go.Proofs.Ytgacbfckaglhbaa
namespace Go.Proofs.Ytgacbfckaglhbaa
open W Go.RowKit
/-- what Time answers -/
def IsTime (ts : List Tk) (c : List Int) : RPost := fun u b G => ∃ (z : Int) (q : Bool), u = .tuple #[.int .i64 z, .bool q] ∧ b = [] ∧ G = [] ∧ (q = true ↔ lnk ts c c.length) ∧ (q = false → z = 0) ∧ (q = true → (∀ j, 0 ≤ (tg ts j).time ∧ (tg ts j).time ≤ 20) → c.length ≤ 1000 → z = sumT ts c c.length)
attribute [local irreducible] WC WL WD YO LO LoopEnd W.Fin Scalar SliceT FieldAt Row ArrT AllocT KnS Has W.One SrcE IntT
set_option maxHeartbeats 4000000 in
set_option maxRecDepth 8000 in
theorem time_c (v cv : Value) (avs : List Value) (ts : List Tk) (c : List Int) : FnB Try.prog 28 [v, cv] [] [sT v avs ts, sA avs ts, sI cv c] (IsTime ts c) := by
  refine fn_of [(0, v), (1, cv)] 53 Try.func28 rfl Try.ntmps28 (by kernel_rfl) rfl (by repeat (first | exact Sub.nil _ | refine Sub.cons rfl ?_)) fun h0 => ?_
  refine WC.lenI cv c (Has.mem (by (repeat (first | exact List.Mem.head _ | apply List.Mem.tail)); done)) fun hlen => ?_
  repeat' (first | refine go ?_ | refine goX ?_ | refine goB ?_ | (refine goG ?_; intro g) | (refine goV ?_; intro v) | refine goD ?_ | refine goXD ?_ | (refine goDG ?_; intro g) | (refine goDV ?_; intro v) | (apply WC.draw (id := 6) [0, 1, 2, 3, 4, 5, 6, 7, 8, 9, 10, 11, 12, 13, 14, 15, 16, 17, 18, 19, 20, 21, 23, 24, 25] (.held 0 (.held 1 (.held 2 (.held 3 (.held 4 (.held 5 (.held 6 (.held 7 (.held 8 (.held 9 (.held 10 (.held 11 (.held 12 (.held 13 (.held 14 (.held 15 (.held 16 (.held 17 (.held 18 (.held 19 (.held 20 (.held 21 (.loud 22 (.held 23 (.held 24 (.held 25 (.done))))))))))))))))))))))))))) mixed (by kernel_rfl)))
  refine WC.lp (σ := Nat × Int) (fun s => [(7, .int .i64 (s.1 : Int)), (6, .int .i64 s.2), (0, v), (1, cv)]) (fun _ => []) (fun _ => [ge h0, sT v avs ts, sA avs ts, sI cv c]) (fun s => s.1 ≤ c.length ∧ lnk ts c s.1 ∧ ((∀ j, 0 ≤ (tg ts j).time ∧ (tg ts j).time ≤ 20) → c.length ≤ 1000 → s.2 = sumT ts c s.1)) (fun s => c.length - s.1) (0, 0) ⟨by simp, fun j hj => by simp at hj, fun _ _ => rfl⟩ ?_
  rintro ⟨k, sk⟩ ⟨hk, hlk, hsum⟩
  simp only at hk hlk hsum ⊢
  by_cases hlt : k < c.length
  · have hbad : ¬ lnkAt ts c k → ¬ lnk ts c c.length := fun hb hc => hb (hc k hlt)
    by_cases d1 : c.getD k 0 < 0
    · repeat' (first | refine go ?_ | refine goX ?_ | refine goB ?_ | (refine goG ?_; intro g) | (refine goV ?_; intro v) | refine goD ?_ | refine goXD ?_ | (refine goDG ?_; intro g) | (refine goDV ?_; intro v) | (apply WC.draw (id := 6) [0, 1, 2, 3, 4, 5, 6, 7, 8, 9, 10, 11, 12, 13, 14, 15, 16, 17, 18, 19, 20, 21, 23, 24, 25] (.held 0 (.held 1 (.held 2 (.held 3 (.held 4 (.held 5 (.held 6 (.held 7 (.held 8 (.held 9 (.held 10 (.held 11 (.held 12 (.held 13 (.held 14 (.held 15 (.held 16 (.held 17 (.held 18 (.held 19 (.held 20 (.held 21 (.loud 22 (.held 23 (.held 24 (.held 25 (.done))))))))))))))))))))))))))) mixed (by kernel_rfl)))
      refine WC.ret ?_
      exact Fin.p [] [] (ResE.t2 rfl rfl rfl) (by (repeat (first | exact List.Mem.head _ | apply List.Mem.tail)); done) (List.nil_sublist _) .nil ⟨_, _, rfl, rfl, rfl, ⟨fun h => (by cases h), fun h => absurd h (hbad fun hc => by have := hc.1; omega)⟩, fun _ => rfl, fun h => (by cases h)⟩
    by_cases d2 : ts.length ≤ c.getD k 0
    · repeat' (first | refine go ?_ | refine goX ?_ | refine goB ?_ | (refine goG ?_; intro g) | (refine goV ?_; intro v) | refine goD ?_ | refine goXD ?_ | (refine goDG ?_; intro g) | (refine goDV ?_; intro v) | (apply WC.draw (id := 6) [0, 1, 2, 3, 4, 5, 6, 7, 8, 9, 10, 11, 12, 13, 14, 15, 16, 17, 18, 19, 20, 21, 23, 24, 25] (.held 0 (.held 1 (.held 2 (.held 3 (.held 4 (.held 5 (.held 6 (.held 7 (.held 8 (.held 9 (.held 10 (.held 11 (.held 12 (.held 13 (.held 14 (.held 15 (.held 16 (.held 17 (.held 18 (.held 19 (.held 20 (.held 21 (.loud 22 (.held 23 (.held 24 (.held 25 (.done))))))))))))))))))))))))))) mixed (by kernel_rfl)))
      refine WC.ret ?_
      exact Fin.p [] [] (ResE.t2 rfl rfl rfl) (by (repeat (first | exact List.Mem.head _ | apply List.Mem.tail)); done) (List.nil_sublist _) .nil ⟨_, _, rfl, rfl, rfl, ⟨fun h => (by cases h), fun h => absurd h (hbad fun hc => by have := hc.2.1; omega)⟩, fun _ => rfl, fun h => (by cases h)⟩
    have hxl : (c.getD k 0).toNat < ts.length := by omega
    have e6 : ((k : Int) - 1).toNat = k - 1 := by omega
    have es : sumT ts c (k + 1) = sumT ts c k + (tg ts (c.getD k 0).toNat).time := rfl
    have hnew : ((∀ j, 0 ≤ (tg ts j).time ∧ (tg ts j).time ≤ 20) → c.length ≤ 1000 → IntKind.i64.wrap (sk + (tg ts (c.getD k 0).toNat).time) = sumT ts c (k + 1)) := fun ht hc => by
      have h1 := hsum ht hc
      have h2 := sumT_bd (c := c) ht k
      have h3 := ht (c.getD k 0).toNat
      rw [wrap_i64 (by omega) (by omega)]; omega
    by_cases d3 : 0 < k
    · by_cases d4 : c.getD (k - 1) 0 ∈ (tg ts (c.getD k 0).toNat).after
      · repeat' (first | refine go ?_ | refine goX ?_ | refine goB ?_ | (refine goG ?_; intro g) | (refine goV ?_; intro v) | refine goD ?_ | refine goXD ?_ | (refine goDG ?_; intro g) | (refine goDV ?_; intro v) | (apply WC.draw (id := 6) [0, 1, 2, 3, 4, 5, 6, 7, 8, 9, 10, 11, 12, 13, 14, 15, 16, 17, 18, 19, 20, 21, 23, 24, 25] (.held 0 (.held 1 (.held 2 (.held 3 (.held 4 (.held 5 (.held 6 (.held 7 (.held 8 (.held 9 (.held 10 (.held 11 (.held 12 (.held 13 (.held 14 (.held 15 (.held 16 (.held 17 (.held 18 (.held 19 (.held 20 (.held 21 (.loud 22 (.held 23 (.held 24 (.held 25 (.done))))))))))))))))))))))))))) mixed (by kernel_rfl)))
        rw [e6]
        first | refine WL.callV (has_c (avs.getD (c.getD k 0).toNat undef) (tg ts (c.getD k 0).toNat).after (c.getD (k - 1) 0)) ?_ | refine WD.callV (has_c (avs.getD (c.getD k 0).toNat undef) (tg ts (c.getD k 0).toNat).after (c.getD (k - 1) 0)) ?_
        rw [decide_eq_true d4]
        repeat' (first | refine go ?_ | refine goX ?_ | refine goB ?_ | (refine goG ?_; intro g) | (refine goV ?_; intro v) | refine goD ?_ | refine goXD ?_ | (refine goDG ?_; intro g) | (refine goDV ?_; intro v) | (apply WC.draw (id := 6) [0, 1, 2, 3, 4, 5, 6, 7, 8, 9, 10, 11, 12, 13, 14, 15, 16, 17, 18, 19, 20, 21, 23, 24, 25] (.held 0 (.held 1 (.held 2 (.held 3 (.held 4 (.held 5 (.held 6 (.held 7 (.held 8 (.held 9 (.held 10 (.held 11 (.held 12 (.held 13 (.held 14 (.held 15 (.held 16 (.held 17 (.held 18 (.held 19 (.held 20 (.held 21 (.loud 22 (.held 23 (.held 24 (.held 25 (.done))))))))))))))))))))))))))) mixed (by kernel_rfl)))
        (apply WL.k_add; (apply YO.wadd; exact rfl; exact rfl); exact rfl; exact rfl)
        repeat' (first | refine go ?_ | refine goX ?_ | refine goB ?_ | (refine goG ?_; intro g) | (refine goV ?_; intro v) | refine goD ?_ | refine goXD ?_ | (refine goDG ?_; intro g) | (refine goDV ?_; intro v) | (apply WC.draw (id := 6) [0, 1, 2, 3, 4, 5, 6, 7, 8, 9, 10, 11, 12, 13, 14, 15, 16, 17, 18, 19, 20, 21, 23, 24, 25] (.held 0 (.held 1 (.held 2 (.held 3 (.held 4 (.held 5 (.held 6 (.held 7 (.held 8 (.held 9 (.held 10 (.held 11 (.held 12 (.held 13 (.held 14 (.held 15 (.held 16 (.held 17 (.held 18 (.held 19 (.held 20 (.held 21 (.loud 22 (.held 23 (.held 24 (.held 25 (.done))))))))))))))))))))))))))) mixed (by kernel_rfl)))
        exact LoopEnd.mk (k + 1, _) ⟨by show k + 1 ≤ c.length; omega, upto_succ hlk ⟨by omega, by omega, fun _ => d4⟩, hnew⟩ (by show c.length - (k + 1) < c.length - k; omega)
      · repeat' (first | refine go ?_ | refine goX ?_ | refine goB ?_ | (refine goG ?_; intro g) | (refine goV ?_; intro v) | refine goD ?_ | refine goXD ?_ | (refine goDG ?_; intro g) | (refine goDV ?_; intro v) | (apply WC.draw (id := 6) [0, 1, 2, 3, 4, 5, 6, 7, 8, 9, 10, 11, 12, 13, 14, 15, 16, 17, 18, 19, 20, 21, 23, 24, 25] (.held 0 (.held 1 (.held 2 (.held 3 (.held 4 (.held 5 (.held 6 (.held 7 (.held 8 (.held 9 (.held 10 (.held 11 (.held 12 (.held 13 (.held 14 (.held 15 (.held 16 (.held 17 (.held 18 (.held 19 (.held 20 (.held 21 (.loud 22 (.held 23 (.held 24 (.held 25 (.done))))))))))))))))))))))))))) mixed (by kernel_rfl)))
        rw [e6]
        first | refine WL.callV (has_c (avs.getD (c.getD k 0).toNat undef) (tg ts (c.getD k 0).toNat).after (c.getD (k - 1) 0)) ?_ | refine WD.callV (has_c (avs.getD (c.getD k 0).toNat undef) (tg ts (c.getD k 0).toNat).after (c.getD (k - 1) 0)) ?_
        rw [decide_eq_false d4]
        repeat' (first | refine go ?_ | refine goX ?_ | refine goB ?_ | (refine goG ?_; intro g) | (refine goV ?_; intro v) | refine goD ?_ | refine goXD ?_ | (refine goDG ?_; intro g) | (refine goDV ?_; intro v) | (apply WC.draw (id := 6) [0, 1, 2, 3, 4, 5, 6, 7, 8, 9, 10, 11, 12, 13, 14, 15, 16, 17, 18, 19, 20, 21, 23, 24, 25] (.held 0 (.held 1 (.held 2 (.held 3 (.held 4 (.held 5 (.held 6 (.held 7 (.held 8 (.held 9 (.held 10 (.held 11 (.held 12 (.held 13 (.held 14 (.held 15 (.held 16 (.held 17 (.held 18 (.held 19 (.held 20 (.held 21 (.loud 22 (.held 23 (.held 24 (.held 25 (.done))))))))))))))))))))))))))) mixed (by kernel_rfl)))
        refine WC.ret ?_
        exact Fin.p [] [] (ResE.t2 rfl rfl rfl) (by (repeat (first | exact List.Mem.head _ | apply List.Mem.tail)); done) (List.nil_sublist _) .nil ⟨_, _, rfl, rfl, rfl, ⟨fun h => (by cases h), fun h => absurd h (hbad fun hc => d4 (hc.2.2 d3))⟩, fun _ => rfl, fun h => (by cases h)⟩
    · repeat' (first | refine go ?_ | refine goX ?_ | refine goB ?_ | (refine goG ?_; intro g) | (refine goV ?_; intro v) | refine goD ?_ | refine goXD ?_ | (refine goDG ?_; intro g) | (refine goDV ?_; intro v) | (apply WC.draw (id := 6) [0, 1, 2, 3, 4, 5, 6, 7, 8, 9, 10, 11, 12, 13, 14, 15, 16, 17, 18, 19, 20, 21, 23, 24, 25] (.held 0 (.held 1 (.held 2 (.held 3 (.held 4 (.held 5 (.held 6 (.held 7 (.held 8 (.held 9 (.held 10 (.held 11 (.held 12 (.held 13 (.held 14 (.held 15 (.held 16 (.held 17 (.held 18 (.held 19 (.held 20 (.held 21 (.loud 22 (.held 23 (.held 24 (.held 25 (.done))))))))))))))))))))))))))) mixed (by kernel_rfl)))
      (apply WL.k_add; (apply YO.wadd; exact rfl; exact rfl); exact rfl; exact rfl)
      repeat' (first | refine go ?_ | refine goX ?_ | refine goB ?_ | (refine goG ?_; intro g) | (refine goV ?_; intro v) | refine goD ?_ | refine goXD ?_ | (refine goDG ?_; intro g) | (refine goDV ?_; intro v) | (apply WC.draw (id := 6) [0, 1, 2, 3, 4, 5, 6, 7, 8, 9, 10, 11, 12, 13, 14, 15, 16, 17, 18, 19, 20, 21, 23, 24, 25] (.held 0 (.held 1 (.held 2 (.held 3 (.held 4 (.held 5 (.held 6 (.held 7 (.held 8 (.held 9 (.held 10 (.held 11 (.held 12 (.held 13 (.held 14 (.held 15 (.held 16 (.held 17 (.held 18 (.held 19 (.held 20 (.held 21 (.loud 22 (.held 23 (.held 24 (.held 25 (.done))))))))))))))))))))))))))) mixed (by kernel_rfl)))
      exact LoopEnd.mk (k + 1, _) ⟨by show k + 1 ≤ c.length; omega, upto_succ hlk ⟨by omega, by omega, fun h => absurd h d3⟩, hnew⟩ (by show c.length - (k + 1) < c.length - k; omega)
  · obtain rfl : k = c.length := by omega
    repeat' (first | refine go ?_ | refine goX ?_ | refine goB ?_ | (refine goG ?_; intro g) | (refine goV ?_; intro v) | refine goD ?_ | refine goXD ?_ | (refine goDG ?_; intro g) | (refine goDV ?_; intro v) | (apply WC.draw (id := 6) [0, 1, 2, 3, 4, 5, 6, 7, 8, 9, 10, 11, 12, 13, 14, 15, 16, 17, 18, 19, 20, 21, 23, 24, 25] (.held 0 (.held 1 (.held 2 (.held 3 (.held 4 (.held 5 (.held 6 (.held 7 (.held 8 (.held 9 (.held 10 (.held 11 (.held 12 (.held 13 (.held 14 (.held 15 (.held 16 (.held 17 (.held 18 (.held 19 (.held 20 (.held 21 (.loud 22 (.held 23 (.held 24 (.held 25 (.done))))))))))))))))))))))))))) mixed (by kernel_rfl)))
    refine WC.ret ?_
    exact Fin.p [] [] (ResE.t2 rfl rfl rfl) (by (repeat (first | exact List.Mem.head _ | apply List.Mem.tail)); done) (List.nil_sublist _) .nil ⟨_, _, rfl, rfl, rfl, ⟨fun _ => hlk, fun _ => rfl⟩, fun h => (by cases h), fun _ => hsum⟩
end Go.Proofs.Ytgacbfckaglhbaa
namespace Go.Proofs.Ytgacbfckaglhbaa

/-- the plan q can be reached from p -/
inductive Rch (ts : List Tk) (M : Nat) : List Int → List Int → Prop where
  | refl (p : List Int) : Rch ts M p p
  | step {p q : List Int} (i k : Nat) : i < ts.length → k < M → readyQ ts p i = true → bitI (tg ts i).on (k : Int) = 1 → Rch ts M (withP ts p i k) q → Rch ts M p q
abbrev Full (ts : List Tk) (p : List Int) : Prop := p.getD 24 0 = 2 ^ ts.length - 1
def LB (ts : List Tk) (M : Nat) (b : Int) (p : List Int) : Prop := ∀ q, Rch ts M p q → Full ts q → b ≤ q.getD 25 0
theorem LB.mono {ts : List Tk} {M : Nat} {b b' : Int} {p : List Int} (h : LB ts M b p) (hb : b' ≤ b) : LB ts M b' p := fun q h1 h2 => Int.le_trans hb (h q h1 h2)

def mx4 (L : List Int) : Int := max (max (L.getD 20 0) (L.getD 21 0)) (max (L.getD 22 0) (L.getD 23 0))
theorem mx4_ge {L : List Int} {k : Nat} (hk : k < 4) : L.getD (20 + k) 0 ≤ mx4 L := by
  unfold mx4
  match k, hk with
  | 0, _ => show L.getD 20 0 ≤ _; omega
  | 1, _ => show L.getD 21 0 ≤ _; omega
  | 2, _ => show L.getD 22 0 ≤ _; omega
  | 3, _ => show L.getD 23 0 ≤ _; omega
theorem mx4_le {L : List Int} {B : Int} (h : ∀ k, k < 4 → L.getD (20 + k) 0 ≤ B) : mx4 L ≤ B := by
  have h0 := h 0 (by decide); have h1 := h 1 (by decide); have h2 := h 2 (by decide); have h3 := h 3 (by decide)
  unfold mx4; simp only [Nat.add_zero, Nat.reduceAdd] at *; omega

/-- what holds of each plan that the search meets -/
structure Rp (ts : List Tk) (p : List Int) : Prop where
  pi : PI ts p
  len : p.getD 25 0 = mx4 p
  rel : ∃ st on, Rel ts p st on (p.getD 25 0)

section
variable {ts : List Tk} {M : Nat} {p : List Int} {i k : Nat}
theorem with_free (hl : p.length = 26) (hk : k < 4) (j : Nat) (hj : j < 4) : (withP ts p i k).getD (20 + j) 0 = if j = k then earlP ts p i k + (tg ts i).time else if i = 20 + j ∨ 10 + i = 20 + j then (withP ts p i k).getD (20 + j) 0 else p.getD (20 + j) 0 := by
  unfold withP; simp only [getD_set]
  rw [if_neg (by omega), if_neg (by omega)]
  by_cases hjk : j = k
  · subst hjk; rw [if_pos ⟨rfl, by simp [hl] <;> omega⟩]; simp
  · rw [if_neg (by omega), if_neg hjk]
    by_cases h : i = 20 + j ∨ 10 + i = 20 + j
    · rw [if_pos h]
    · rw [if_neg h, if_neg (by omega), if_neg (by omega)]
theorem with_fr (hl : p.length = 26) (hi : i < 10) (hk : k < 4) (j : Nat) (hj : j < 4) : (withP ts p i k).getD (20 + j) 0 = if j = k then earlP ts p i k + (tg ts i).time else p.getD (20 + j) 0 := by
  rw [with_free hl hk j hj]
  by_cases hjk : j = k
  · simp [hjk]
  · rw [if_neg hjk, if_neg hjk, if_neg (by omega)]
theorem with_st (hl : p.length = 26) (hi : i < 10) (hk : k < 4) (j : Nat) (hj : j < 10) : (withP ts p i k).getD j 0 = if i = j then earlP ts p i k else p.getD j 0 := by
  unfold withP; simp only [getD_set]
  rw [if_neg (by omega), if_neg (by omega), if_neg (by omega), if_neg (by omega)]
  by_cases hij : i = j
  · subst hij; rw [if_pos (by simp [hl]; omega), if_pos rfl]
  · rw [if_neg (by omega), if_neg hij]
theorem with_len (hl : p.length = 26) : (withP ts p i k).getD 25 0 = max (p.getD 25 0) (earlP ts p i k + (tg ts i).time) := by
  unfold withP; simp only [getD_set]
  rw [if_pos (by simp [hl])]

theorem und_st {st on : List Int} {ln : Int} (h : Rel ts p st on ln) {i : Nat} (hi : i < ts.length) : undB p (i : Int) = true ↔ st.getD i 0 < 0 := by
  rw [undB_test h.done.1, h.bit]
  simp [hi]
theorem ready_iff {st on : List Int} {ln : Int} (hg : AllGood M ts) (h : Rel ts p st on ln) (hi : i < ts.length) : readyQ ts p i = true ↔ readyP ts st i := by
  unfold readyQ readyP
  simp only [Bool.and_eq_true, Bool.not_eq_true', List.any_eq_false]
  rw [und_st h hi]
  refine and_congr Iff.rfl ⟨fun h1 q hq => ?_, fun h1 x hx => ?_⟩
  · have ha := good_after hg hi q hq
    have hm := h1 _ (mem_after hq)
    have hu := und_st h (i := ((tg ts i).after.getD q 0).toNat) (by omega)
    rw [Int.toNat_of_nonneg ha.1] at hu
    have := mt hu.2 hm; omega
  · obtain ⟨q, hq, rfl⟩ := after_mem hx
    have ha := good_after hg hi q hq
    have hu := und_st h (i := ((tg ts i).after.getD q 0).toNat) (by omega)
    rw [Int.toNat_of_nonneg ha.1] at hu
    have := h1 q hq
    intro hc; have := hu.1 hc; omega
theorem earl_free (p : List Int) (i k : Nat) : p.getD (20 + k) 0 ≤ earlP ts p i k := earlN_ub0 _

theorem Rp.step (hg : AllGood M ts) (hn : ts.length ≤ 10) (hM : M ≤ 4) (h : Rp ts p) (hi : i < ts.length) (hk : k < M) (hr : readyQ ts p i = true) : Rp ts (withP ts p i k) ∧ und (withP ts p i k) ts.length + 1 = und p ts.length := by
  obtain ⟨st, on, hrel⟩ := h.rel
  have hs := h.pi.step hg hn hi (k := k) (by omega) (ready_und hr)
  have hl := h.pi.ok.len
  have ht := good_time hg i
  have hrp := (ready_iff hg hrel hi).1 hr
  have hwl := with_len (ts := ts) (p := p) (i := i) (k := k) hl
  have he := hrel.earl hg hi (k := k) (by omega) hrp.2
  refine ⟨⟨hs.1, ?_, ⟨st.set i (placeP ts st on i k), on.set i k, ?_⟩⟩, hs.2⟩
  · rw [hwl, h.len]
    have hf := earl_free (ts := ts) p i k
    apply Int.le_antisymm
    · have h1 : mx4 p ≤ mx4 (withP ts p i k) := by
        refine mx4_le fun j hj => ?_
        have h2 := mx4_ge (L := withP ts p i k) hj
        rw [with_fr hl (by omega) (by omega) j hj] at h2
        split at h2
        · rename_i hjk; subst hjk; omega
        · exact h2
      have h3 := mx4_ge (L := withP ts p i k) (show k < 4 by omega)
      rw [with_fr hl (by omega) (by omega) k (by omega), if_pos rfl] at h3
      omega
    · refine mx4_le fun j hj => ?_
      rw [with_fr hl (by omega) (by omega) j hj]
      have h2 := mx4_ge (L := p) hj
      split <;> omega
  · have := hrel.step hg hn hi (k := k) (by omega) hrp
    rw [hwl, he]; exact this
theorem Rch.rp (hg : AllGood M ts) (hn : ts.length ≤ 10) (hM : M ≤ 4) {q : List Int} (h : Rch ts M p q) : Rp ts p → Rp ts q := by
  induction h with
  | refl => exact id
  | step i k hi hk hr _ _ ih => exact fun hp => ih (hp.step hg hn hM hi hk hr).1
theorem Rch.trans {q r : List Int} (h : Rch ts M p q) (h2 : Rch ts M q r) : Rch ts M p r := by
  induction h with
  | refl => exact h2
  | step i k hi hk hr hb _ ih => exact .step i k hi hk hr hb (ih h2)
theorem Rp_zer (hn : ts.length ≤ 10) : Rp ts (List.replicate 26 0) := ⟨PI_zer hn, rfl, _, _, rel_none (M := 0) hn⟩
end
end Go.Proofs.Ytgacbfckaglhbaa
namespace Go.Proofs.Ytgacbfckaglhbaa

/-- machines change places, those that may run the same tasks -/
structure PA (ts : List Tk) (M : Nat) (f g : Nat → Nat) : Prop where
  gf : ∀ k, g (f k) = k
  fg : ∀ k, f (g k) = k
  fix : ∀ k, M ≤ k → f k = k
  al : ∀ i, i < ts.length → ∀ k : Nat, bitI (tg ts i).on (f k : Int) = bitI (tg ts i).on (k : Int)
theorem PA.id (ts : List Tk) (M : Nat) : PA ts M (fun k => k) (fun k => k) := ⟨fun _ => rfl, fun _ => rfl, fun _ _ => rfl, fun _ _ _ => rfl⟩
theorem PA.lt {ts : List Tk} {M : Nat} {f g : Nat → Nat} (h : PA ts M f g) {k : Nat} (hk : k < M) : f k < M := by
  apply Classical.byContradiction
  intro hc
  have h1 := h.fix (f k) (by omega)
  have h2 := congrArg g h1
  rw [h.gf, h.gf] at h2; omega
theorem PA.inv {ts : List Tk} {M : Nat} {f g : Nat → Nat} (h : PA ts M f g) : PA ts M g f := ⟨h.fg, h.gf, fun k hk => by
  have := h.gf k; rw [h.fix k hk] at this; exact this, fun i hi k => by
  have := h.al i hi (g k); rw [h.fg] at this; exact this.symm⟩
theorem PA.comp {ts : List Tk} {M : Nat} {f g f' g' : Nat → Nat} (h : PA ts M f g) (h' : PA ts M f' g') : PA ts M (fun k => f (f' k)) (fun k => g' (g k)) :=
  ⟨fun k => by show g' (g (f (f' k))) = k; rw [h.gf, h'.gf], fun k => by show f (f' (g' (g k))) = k; rw [h'.fg, h.fg], fun k hk => by show f (f' k) = k; rw [h'.fix k hk, h.fix k hk], fun i hi k => by
    show bitI _ ((f (f' k) : Nat) : Int) = _
    rw [h.al i hi, h'.al i hi]⟩
def swp (a b k : Nat) : Nat := if k = a then b else if k = b then a else k
theorem swp_swp (a b k : Nat) : swp a b (swp a b k) = k := by unfold swp; split <;> split <;> (try split) <;> omega
theorem PA.sw {ts : List Tk} {M a b : Nat} (hb : b < M) (ha : a < M) (hal : alikeP ts a b = true) : PA ts M (swp a b) (swp a b) :=
  ⟨swp_swp a b, swp_swp a b, fun k hk => by unfold swp; rw [if_neg (by omega), if_neg (by omega)], fun i hi k => by
    have h1 : bitI (tg ts i).on (a : Int) = bitI (tg ts i).on (b : Int) := by
      unfold alikeP at hal
      rw [Bool.not_eq_true', List.any_eq_false] at hal
      have := hal i (List.mem_range.2 hi)
      unfold difB at this
      simpa using this
    unfold swp
    by_cases hka : k = a
    · rw [if_pos hka, hka, h1]
    · rw [if_neg hka]
      by_cases hkb : k = b
      · rw [if_pos hkb, hkb, h1]
      · rw [if_neg hkb]⟩

/-- the plans p and q say the same of what follows, if the machines of p are renamed -/
structure Sim (ts : List Tk) (M : Nat) (p q : List Int) (f g : Nat → Nat) : Prop where
  pa : PA ts M f g
  done : q.getD 24 0 = p.getD 24 0
  free : ∀ k, k < 4 → q.getD (20 + f k) 0 = p.getD (20 + k) 0
  ends : ∀ i, i < ts.length → undB p (i : Int) = true → ∀ a ∈ (tg ts i).after, undB p a = false → q.getD a.toNat 0 = p.getD a.toNat 0

section
variable {ts : List Tk} {M : Nat} {p q : List Int} {f g : Nat → Nat}
theorem Sim.und (h : Sim ts M p q f g) (a : Int) : undB q a = undB p a := by unfold undB; rw [h.done]
theorem Sim.ready (h : Sim ts M p q f g) (i : Nat) : readyQ ts q i = readyQ ts p i := by
  unfold readyQ
  rw [h.und, show undB q = undB p from funext h.und]
theorem Sim.earl (hg : AllGood M ts) (h : Sim ts M p q f g) {i k : Nat} (hi : i < ts.length) (hk : k < 4) (hr : readyQ ts p i = true) : earlP ts q i (f k) = earlP ts p i k := by
  have hu := ready_und hr
  have hd : ∀ a ∈ (tg ts i).after, undB p a = false := fun a ha => by
    unfold readyQ at hr
    simp only [Bool.and_eq_true, Bool.not_eq_true', List.any_eq_false] at hr
    simpa using hr.2 a ha
  have : ∀ n, n ≤ (tg ts i).after.length → earlN ts q i (f k) n = earlN ts p i k n := fun n => by
    induction n with
    | zero => intro _; simp only [earlN]; exact h.free k hk
    | succ n ih =>
      intro hn
      have hm := mem_after (show n < (tg ts i).after.length by omega)
      simp only [earlN]
      rw [ih (by omega), h.ends i hi hu _ hm (hd _ hm)]
  exact this _ (Nat.le_refl _)
theorem Sim.step (hg : AllGood M ts) (hn : ts.length ≤ 10) (hM : M ≤ 4) (hp : Rp ts p) (hq : Rp ts q) (h : Sim ts M p q f g) {i k : Nat} (hi : i < ts.length) (hk : k < M) (hr : readyQ ts p i = true) : Sim ts M (withP ts p i k) (withP ts q i (f k)) f g := by
  have hfk := h.pa.lt hk
  have he := h.earl (k := k) hg hi (by omega) hr
  have hlp := hp.pi.ok.len
  have hlq := hq.pi.ok.len
  refine ⟨h.pa, by rw [with_done hlp, with_done hlq, h.done], fun j hj => ?_, fun i' hi' hu a ha hua => ?_⟩
  · have hfj : f j < 4 := by
      by_cases hjM : j < M
      · have := h.pa.lt hjM; omega
      · rw [h.pa.fix j (by omega)]; exact hj
    rw [with_fr (i := i) (k := f k) hlq (by omega) (by omega) (f j) hfj, with_fr (i := i) (k := k) hlp (by omega) (by omega) j hj, he, h.free j hj]
    by_cases hjk : j = k
    · rw [if_pos hjk, if_pos (by rw [hjk])]
    · rw [if_neg hjk, if_neg (fun hc => hjk (by have := congrArg g hc; rwa [h.pa.gf, h.pa.gf] at this))]
  · obtain ⟨x, hx, rfl⟩ := after_mem ha
    have hb := good_after hg hi' x hx
    obtain ⟨A, hA⟩ := Int.eq_ofNat_of_zero_le hb.1
    have hA' : (tg ts i').after.getD x 0 = (A : Int) := hA
    rw [hA'] at hua ha ⊢
    rw [show ((A : Int)).toNat = A from rfl, with_st hlq (by omega) (by omega) A (by omega), with_st hlp (by omega) (by omega) A (by omega), he]
    rw [undB_with hlp hp.pi.done.1] at hu hua
    simp only [Bool.and_eq_true, decide_eq_true_eq] at hu
    by_cases hiA : i = A
    · rw [if_pos hiA, if_pos hiA]
    · rw [if_neg hiA, if_neg hiA]
      have : undB p (A : Int) = false := by simpa [hiA] using hua
      exact h.ends i' hi' hu.1 _ ha this
theorem Sim.len (hM : M ≤ 4) (hp : Rp ts p) (hq : Rp ts q) (h : Sim ts M p q f g) : q.getD 25 0 = p.getD 25 0 := by
  have hb : ∀ {f g : Nat → Nat}, PA ts M f g → ∀ k, k < 4 → f k < 4 := fun {f g} ha k hk => by
    by_cases hkM : k < M
    · have := ha.lt hkM; omega
    · rw [ha.fix k (by omega)]; exact hk
  rw [hp.len, hq.len]
  apply Int.le_antisymm
  · refine mx4_le fun k hk => ?_
    have h1 := h.free (g k) (hb h.pa.inv k hk)
    rw [h.pa.fg] at h1
    rw [h1]; exact mx4_ge (hb h.pa.inv k hk)
  · refine mx4_le fun k hk => ?_
    rw [← h.free k hk]; exact mx4_ge (hb h.pa k hk)
/-- each plan that can be reached from q has one of the same length that can be reached from p -/
theorem Sim.reach (hg : AllGood M ts) (hn : ts.length ≤ 10) (hM : M ≤ 4) {q r : List Int} (hr : Rch ts M q r) : ∀ {p : List Int} {f g : Nat → Nat}, Rp ts p → Rp ts q → Sim ts M q p f g → ∃ s, Rch ts M p s ∧ s.getD 24 0 = r.getD 24 0 ∧ s.getD 25 0 = r.getD 25 0 := by
  induction hr with
  | refl q => intro p f g hp hq h; exact ⟨p, .refl p, h.done, h.len hM hq hp⟩
  | step i k hi hk hrd hb _ ih =>
    intro p f g hp hq h
    have hrd' : readyQ ts p i = true := by rw [h.ready]; exact hrd
    have hfk := h.pa.lt hk
    obtain ⟨s, h1, h2⟩ := ih (hp.step hg hn hM hi hfk hrd').1 (hq.step hg hn hM hi hk hrd).1 (h.step hg hn hM hq hp hi hk hrd)
    exact ⟨s, .step i (f k) hi hfk hrd' (by rw [h.pa.al i hi]; exact hb) h1, h2⟩
theorem LB.sim (hg : AllGood M ts) (hn : ts.length ≤ 10) (hM : M ≤ 4) {b : Int} {f g : Nat → Nat} (hp : Rp ts p) (hq : Rp ts q) (h : Sim ts M q p f g) (hb : LB ts M b p) : LB ts M b q := fun r hr hf => by
  obtain ⟨s, h1, h2, h3⟩ := Sim.reach hg hn hM hr hp hq h
  rw [← h3]
  exact hb s h1 (by unfold Full; rw [h2]; exact hf)
end

/-! ## equal states -/
structure SwI (ts : List Tk) (M : Nat) (p X : List Int) (f g : Nat → Nat) : Prop where
  pa : PA ts M f g
  l : X.length = 15
  d : X.getD 0 0 = p.getD 24 0
  fr : ∀ k, k < 4 → X.getD (1 + k) 0 = p.getD (20 + f k) 0
section
variable {ts : List Tk} {M : Nat} {p : List Int}
theorem SwI.start (h : p.length = 26) : SwI ts M p (st0 p) (fun k => k) (fun k => k) := ⟨PA.id ts M, st0_len h, rfl, fun k hk => by
  unfold st0
  rw [Nat.add_comm 1 k]
  simp only [List.getD_eq_getElem?_getD, List.getElem?_cons_succ]
  rw [List.getElem?_append_left (by simp [h]; omega), List.getElem?_take, if_pos hk, List.getElem?_drop]⟩
theorem SwI.swap (hM : M ≤ 4) {X : List Int} {f g : Nat → Nat} (h : SwI ts M p X f g) {a b : Nat} (hab : a < b) (hb : b < M) : ∃ f' g', SwI ts M p (swapX ts a b X) f' g' := by
  unfold swapX
  split
  · rename_i hc
    refine ⟨fun k => f (swp a b k), fun k => swp a b (g k), h.pa.comp (PA.sw hb (by omega) hc.2), by simp [h.l], ?_, fun k hk => ?_⟩
    · rw [getD_set, if_neg (by omega), getD_set, if_neg (by omega)]; exact h.d
    · rw [getD_set, getD_set]
      show _ = p.getD (20 + f (swp a b k)) 0
      unfold swp
      by_cases hkb : k = b
      · rw [if_pos ⟨by omega, by simp [h.l]; omega⟩, if_neg (by omega), if_pos hkb, h.fr a (by omega)]
      · rw [if_neg (by omega)]
        by_cases hka : k = a
        · rw [if_pos ⟨by omega, by rw [h.l]; omega⟩, if_pos hka, h.fr b (by omega)]
        · rw [if_neg (by omega), if_neg hka, if_neg hkb, h.fr k hk]
  · exact ⟨f, g, h⟩
theorem SwI.swIn (hM : M ≤ 4) {X : List Int} {a : Nat} (h : ∃ f g, SwI ts M p X f g) : ∀ j, a + j < M → ∃ f g, SwI ts M p (swIn ts a X j) f g
  | 0, _ => h
  | j + 1, hj => by
    obtain ⟨f, g, h1⟩ := SwI.swIn hM (a := a) h j (by omega)
    exact h1.swap hM (a := a) (b := a + 1 + j) (by omega) (by omega)
theorem SwI.swOut (hM : M ≤ 4) {X : List Int} (h : ∃ f g, SwI ts M p X f g) : ∀ a, a ≤ M → ∃ f g, SwI ts M p (swOut ts M X a) f g
  | 0, _ => h
  | a + 1, ha => SwI.swIn hM (SwI.swOut hM h a (by omega)) _ (by omega)
theorem endIn_low {L : List Int} {i : Nat} {X : List Int} {j : Nat} (hj : j < 5) : ∀ n, (endIn ts L i X n).getD j 0 = X.getD j 0
  | 0 => rfl
  | n + 1 => by
    rw [endIn]; split
    · rw [getD_set, if_neg (by omega)]; exact endIn_low hj n
    · exact endIn_low hj n
theorem endOut_low {L : List Int} {X : List Int} {j : Nat} (hj : j < 5) : ∀ n, (endOut ts L X n).getD j 0 = X.getD j 0
  | 0 => rfl
  | n + 1 => by
    rw [endOut]; split
    · rw [endIn_low hj]; exact endOut_low hj n
    · exact endOut_low hj n
theorem endIn_keep {L : List Int} {i : Nat} {X : List Int} {a : Nat} (h : X.getD (5 + a) 0 = L.getD a 0 + (tg ts a).time) : ∀ n, (endIn ts L i X n).getD (5 + a) 0 = L.getD a 0 + (tg ts a).time
  | 0 => h
  | n + 1 => by
    rw [endIn]; split
    · rw [getD_set]; split
      · rename_i hc
        rw [show ((tg ts i).after.getD n 0).toNat = a by omega]
      · exact endIn_keep h n
    · exact endIn_keep h n
theorem endIn_get {L : List Int} {i : Nat} {X : List Int} {a : Nat} (hX : X.length = 15) (ha : a < 10) (hb : bitI (L.getD 24 0) (a : Int) = 1) : ∀ n x, x < n → (tg ts i).after.getD x 0 = (a : Int) → (endIn ts L i X n).getD (5 + a) 0 = L.getD a 0 + (tg ts a).time
  | n + 1, x, hx, he => by
    by_cases hxn : x < n
    · have ih := endIn_get hX ha hb n x hxn he
      rw [endIn]; split
      · rw [getD_set]; split
        · rename_i hc
          rw [show ((tg ts i).after.getD n 0).toNat = a by omega]
        · exact ih
      · exact ih
    · obtain rfl : x = n := by omega
      rw [endIn, he, if_pos hb, getD_set, if_pos ⟨rfl, by rw [endIn_len, hX]; show 5 + a < 15; omega⟩]
      rfl
theorem endOut_get (hg : AllGood M ts) (hn : ts.length ≤ 10) {L : List Int} {X : List Int} {a i x : Nat} (hX : X.length = 15) (ha : a < 10) (hb : bitI (L.getD 24 0) (a : Int) = 1) (hu : bitI (L.getD 24 0) (i : Int) = 0) (hx : x < (tg ts i).after.length) (he : (tg ts i).after.getD x 0 = (a : Int)) : ∀ n, i < n → (endOut ts L X n).getD (5 + a) 0 = L.getD a 0 + (tg ts a).time
  | n + 1, hin => by
    rw [endOut]
    by_cases hi : i < n
    · have ih := endOut_get hg hn hX ha hb hu hx he n hi
      split
      · exact endIn_keep ih _
      · exact ih
    · obtain rfl : i = n := by omega
      rw [if_pos hu]
      exact endIn_get (by rw [endOut_len]; exact hX) ha hb _ x hx he
theorem state_sim (hg : AllGood M ts) (hn : ts.length ≤ 10) (hM : M ≤ 4) {q : List Int} (hp : Rp ts p) (hq : Rp ts q) (h : stateP ts M p = stateP ts M q) : ∃ f g, Sim ts M p q f g := by
  have hlp := hp.pi.ok.len
  have hlq := hq.pi.ok.len
  obtain ⟨f1, g1, s1⟩ := SwI.swOut (ts := ts) (p := p) hM ⟨_, _, SwI.start hlp⟩ M (Nat.le_refl _)
  obtain ⟨f2, g2, s2⟩ := SwI.swOut (ts := ts) (p := q) hM ⟨_, _, SwI.start hlq⟩ M (Nat.le_refl _)
  have hget : ∀ j, (stateP ts M p).getD j 0 = (stateP ts M q).getD j 0 := fun j => by rw [h]
  unfold stateP at hget
  have hd : q.getD 24 0 = p.getD 24 0 := by
    have := hget 0
    rw [endOut_low (by decide), endOut_low (by decide), s1.d, s2.d] at this
    exact this.symm
  have hb : ∀ {f g : Nat → Nat}, PA ts M f g → ∀ k, k < 4 → f k < 4 := fun {f g} ha k hk => by
    by_cases hkM : k < M
    · have := ha.lt hkM; omega
    · rw [ha.fix k (by omega)]; exact hk
  refine ⟨fun k => f2 (g1 k), fun k => f1 (g2 k), s2.pa.comp s1.pa.inv, hd, fun k hk => ?_, fun i hi hu a ha hua => ?_⟩
  · have hk1 := hb s1.pa.inv k hk
    have := hget (1 + g1 k)
    rw [endOut_low (by omega), endOut_low (by omega), s1.fr _ hk1, s2.fr _ hk1, s1.pa.fg] at this
    exact this.symm
  · obtain ⟨x, hx, rfl⟩ := after_mem ha
    have hba := good_after hg hi x hx
    obtain ⟨A, hA⟩ := Int.eq_ofNat_of_zero_le hba.1
    have hA' : (tg ts i).after.getD x 0 = (A : Int) := hA
    rw [hA'] at hua ⊢
    have hu1 : bitI (p.getD 24 0) (i : Int) = 0 := by unfold undB at hu; simpa using hu
    have hb1 : bitI (p.getD 24 0) (A : Int) = 1 := by
      have h1 : ¬ bitI (p.getD 24 0) (A : Int) = 0 := by unfold undB at hua; simpa using hua
      have := bit_01 (p.getD 24 0) (A : Int); omega
    have e1 := endOut_get hg hn (L := p) s1.l (show A < 10 by omega) hb1 hu1 hx hA' ts.length hi
    have e2 := endOut_get hg hn (L := q) s2.l (show A < 10 by omega) (by rw [hd]; exact hb1) (by rw [hd]; exact hu1) hx hA' ts.length hi
    have := hget (5 + A)
    rw [e1, e2] at this
    show q.getD A 0 = p.getD A 0
    omega
end
end Go.Proofs.Ytgacbfckaglhbaa
namespace Go.Proofs.Ytgacbfckaglhbaa

theorem anot_sub (a : Nat) (ha : a < 16) (b : Nat) (hb : b < 16) (k : Nat) (hk : k < 4) (h : W.anot a b = 0) (h1 : bitI a (k : Int) = 1) : bitI b (k : Int) = 1 := by
  have : ∀ a : Nat, a < 16 → ∀ b : Nat, b < 16 → ∀ k : Nat, k < 4 → W.anot a b = 0 → bitI a (k : Int) = 1 → bitI b (k : Int) = 1 := by decide +kernel
  exact this a ha b hb k hk h h1

section
variable {ts : List Tk} {M : Nat} {p q L L' : List Int} {on : Nat}
theorem freeS_mono : ∀ {n : Nat}, (∀ j, j < n → L.getD (20 + j) 0 ≤ L'.getD (20 + j) 0) → freeS L on n ≤ freeS L' on n
  | 0, _ => Int.le_refl _
  | n + 1, h => by
    have ih := freeS_mono (n := n) fun j hj => h j (by omega)
    have := h n (by omega)
    rw [freeS, freeS]; split <;> omega
theorem freeS_add {k : Nat} {t : Int} (hb : bitI on (k : Int) = 1) (ht : L.getD (20 + k) 0 + t ≤ L'.getD (20 + k) 0) : ∀ {n : Nat}, k < n → (∀ j, j < n → L.getD (20 + j) 0 ≤ L'.getD (20 + j) 0) → freeS L on n + t ≤ freeS L' on n
  | n + 1, hk, h => by
    by_cases hkn : k < n
    · have ih := freeS_add hb ht hkn fun j hj => h j (by omega)
      have := h n (by omega)
      rw [freeS, freeS]; split <;> omega
    · obtain rfl : k = n := by omega
      have ih := freeS_mono (on := on) (n := k) fun j hj => h j (by omega)
      rw [freeS, freeS, if_pos hb, if_pos hb]; omega
theorem timeS_step {i : Nat} (ht : 0 ≤ (tg ts i).time) (hu : ∀ j : Nat, bitI (L'.getD 24 0) (j : Int) = 0 ↔ bitI (L.getD 24 0) (j : Int) = 0 ∧ i ≠ j) : ∀ n, timeS ts L on n ≤ timeS ts L' on n + (if i < n ∧ W.anot (tg ts i).on on = 0 then (tg ts i).time else 0)
  | 0 => by simp [timeS]
  | n + 1 => by
    have ih := timeS_step ht hu n
    rw [timeS, timeS]
    by_cases hin : i = n
    · subst hin
      rw [if_neg (by omega)] at ih
      rw [if_neg (c := bitI (L'.getD 24 0) (i : Int) = 0 ∧ _) (fun hc => ((hu i).1 hc.1).2 rfl)]
      by_cases ha : W.anot (tg ts i).on on = 0
      · rw [if_pos (show i < i + 1 ∧ _ from ⟨by omega, ha⟩)]
        split <;> omega
      · rw [if_neg (fun hc => ha hc.2), if_neg (fun hc => ha hc.2)]; omega
    · have e : (i < n + 1 ∧ W.anot (tg ts i).on on = 0) ↔ (i < n ∧ W.anot (tg ts i).on on = 0) := by omega
      have e2 : (bitI (L'.getD 24 0) (n : Int) = 0 ∧ W.anot (tg ts n).on on = 0) ↔ (bitI (L.getD 24 0) (n : Int) = 0 ∧ W.anot (tg ts n).on on = 0) := by
        rw [hu n]; simp [hin]
      simp only [e, e2]
      split <;> omega
/-- the sum of a set of machines -/
theorem load_step (hg : AllGood M ts) (hn : ts.length ≤ 10) (hM : M ≤ 4) (hon : on < 16) (hp : Rp ts p) {i k : Nat} (hi : i < ts.length) (hk : k < M) (hr : readyQ ts p i = true) (hb : bitI (tg ts i).on (k : Int) = 1) :
    freeS p on M + timeS ts p on ts.length ≤ freeS (withP ts p i k) on M + timeS ts (withP ts p i k) on ts.length := by
  have hl := hp.pi.ok.len
  have ht := good_time hg i
  have ho := good_on hg hM i
  have hf := earl_free (ts := ts) p i k
  have hmono : ∀ j, j < M → p.getD (20 + j) 0 ≤ (withP ts p i k).getD (20 + j) 0 := fun j hj => by
    rw [with_fr hl (by omega) (by omega) j (by omega)]
    split
    · rename_i h; subst h; omega
    · omega
  have h1 := timeS_step (ts := ts) (L := p) (L' := withP ts p i k) (on := on) (i := i) ht.1 (fun j => by
    have := undB_with (ts := ts) (p := p) (i := i) (k := k) hl hp.pi.done.1 j
    unfold undB at this
    have h2 : (bitI ((withP ts p i k).getD 24 0) (j : Int) = 0) ↔ decide (bitI ((withP ts p i k).getD 24 0) (j : Int) = 0) = true := by simp
    rw [h2, this]; simp) ts.length
  split at h1
  · rename_i hc
    have hbo := anot_sub (tg ts i).on.toNat (by omega) on hon k (by omega) (by rw [Int.toNat_of_nonneg ho.1]; exact hc.2) (by rw [Int.toNat_of_nonneg ho.1]; exact hb)
    have h2 := freeS_add (on := on) (L := p) (L' := withP ts p i k) (t := (tg ts i).time) hbo (by rw [with_fr hl (by omega) (by omega) k (by omega), if_pos rfl]; omega) hk hmono
    omega
  · have h2 := freeS_mono (on := on) hmono
    omega
theorem load_reach (hg : AllGood M ts) (hn : ts.length ≤ 10) (hM : M ≤ 4) (hon : on < 16) (h : Rch ts M p q) : Rp ts p → freeS p on M + timeS ts p on ts.length ≤ freeS q on M + timeS ts q on ts.length := by
  induction h with
  | refl => exact fun _ => Int.le_refl _
  | step i k hi hk hr hb _ ih => exact fun hp => Int.le_trans (load_step hg hn hM hon hp hi hk hr hb) (ih (hp.step hg hn hM hi hk hr).1)
def cnt (on : Nat) : Nat → Int
  | 0 => 0
  | k + 1 => cnt on k + bitI on (k : Int)
theorem cnt_pop (hon : on < 16) (hM : M ≤ 4) : cnt on M ≤ popP on :=
  (by decide +kernel : ∀ x : Nat, x < 16 → ∀ m : Nat, m < 5 → cnt x m ≤ popP x) on hon M (by omega)
theorem freeS_le {B : Int} : ∀ {n : Nat}, (∀ j, j < n → L.getD (20 + j) 0 ≤ B) → freeS L on n ≤ cnt on n * B
  | 0, _ => by simp [freeS, cnt]
  | n + 1, h => by
    have ih := freeS_le (n := n) fun j hj => h j (by omega)
    have := h n (by omega)
    rw [freeS, cnt, Int.add_mul]
    rcases bit_01 on (n : Int) with hb | hb
    · rw [hb, if_neg (by omega)]; omega
    · rw [hb, if_pos rfl]; omega
theorem full_und (h : Full ts q) {j : Nat} (hj : j < ts.length) : bitI (q.getD 24 0) (j : Int) = 1 := by
  have hc : ((2 : Int) ^ ts.length) = ((2 ^ ts.length : Nat) : Int) := by simp
  have hp : 0 < 2 ^ ts.length := Nat.pow_pos (by decide)
  have h0 : 0 ≤ q.getD 24 0 := by rw [h]; omega
  rw [bitI_test h0]
  have h1 : (q.getD 24 0).toNat = 2 ^ ts.length - 1 := by rw [h]; omega
  rw [h1, Nat.testBit_two_pow_sub_one]; simp [hj]
theorem timeS_full (h : Full ts q) : ∀ n, n ≤ ts.length → timeS ts q on n = 0
  | 0, _ => rfl
  | n + 1, hn => by
    rw [timeS, if_neg (fun hc => by have := full_und h (j := n) (by omega); omega), timeS_full h n (by omega)]
theorem Rp.free_le (h : Rp ts p) {k : Nat} (hk : k < 4) : p.getD (20 + k) 0 ≤ p.getD 25 0 := by rw [h.len]; exact mx4_ge hk
theorem Rp.len0 (h : Rp ts p) : 0 ≤ p.getD 25 0 := (h.pi.ok.bd 25).1
theorem load_LB (hg : AllGood M ts) (hn : ts.length ≤ 10) (hM : M ≤ 4) (h1 : 1 ≤ on) (h2 : on < 16) (hp : Rp ts p) : LB ts M (loadP ts M p on) p := fun q hr hf => by
  have h3 := load_reach hg hn hM h2 hr hp
  have hq := hr.rp hg hn hM hp
  rw [timeS_full hf _ (Nat.le_refl _)] at h3
  have h4 := freeS_le (on := on) (L := q) (n := M) fun j hj => hq.free_le (k := j) (by omega)
  have h5 := Int.mul_le_mul_of_nonneg_right (cnt_pop h2 hM) hq.len0
  have h6 := popP_bd h1 h2
  have h7 : (freeS p on M + timeS ts p on ts.length + popP on - 1) / popP on < q.getD 25 0 + 1 := Int.ediv_lt_of_lt_mul (by omega) (by
    rw [Int.add_mul, Int.one_mul, Int.mul_comm (q.getD 25 0)]; omega)
  unfold loadP; omega
theorem rch_len (hn : ts.length ≤ 10) (h : Rch ts M p q) : p.length = 26 → p.getD 25 0 ≤ q.getD 25 0 := by
  induction h with
  | refl => exact fun _ => Int.le_refl _
  | step i k hi hk hr hb _ ih => exact fun hl => Int.le_trans (by rw [with_len hl]; omega) (ih (by simp [withP, hl]))
theorem setsF_hop {bl : Int} : ∀ {c n : Nat} {b : Bool}, setsF (hopStep ts M L bl) c n b = true → b = true ∨ ∃ x, n ≤ x ∧ x < n + c ∧ bl ≤ loadP ts M L x
  | 0, n, b, h => .inl h
  | c + 1, n, b, h => by
    rw [setsF] at h
    have h1 : (hopStep ts M L bl b n).1 = true → b = true ∨ ∃ x, n ≤ x ∧ x < n + (c + 1) ∧ bl ≤ loadP ts M L x := fun h => by
      simp only [hopStep, Bool.or_eq_true, decide_eq_true_eq] at h
      exact h.imp id fun h => ⟨n, by omega, by omega, h⟩
    split at h
    · rcases setsF_hop h with h | ⟨x, h2, h3, h4⟩
      · exact h1 h
      · exact .inr ⟨x, by omega, by omega, h4⟩
    · exact h1 h
theorem hop_LB (hg : AllGood M ts) (hn : ts.length ≤ 10) (hM : M ≤ 4) (hp : Rp ts p) {bl : Int} (h : hopP ts M p bl = true) : LB ts M bl p := by
  rcases setsF_hop h with h | ⟨x, h2, h3, h4⟩
  · exact fun q hr _ => Int.le_trans (of_decide_eq_true h) (rch_len hn hr hp.pi.ok.len)
  · have hp4 := pow_16 hM
    have : 2 ^ M ≤ 16 := by have := Nat.pow_le_pow_right (show 0 < 2 by decide) hM; omega
    exact (load_LB hg hn hM h2 (by omega) hp).mono h4
end
end Go.Proofs.Ytgacbfckaglhbaa
namespace Go.Proofs.Ytgacbfckaglhbaa

section
variable {ts : List Tk} {M : Nat} {goal : Int} {p q : List Int}

/-- what was met before, of plans with at most u tasks left, has nothing better than the best -/
def Clo (ts : List Tk) (M : Nat) (s : RS) (u : Nat) : Prop := ∀ q, Rp ts q → stateP ts M q ∈ s.2 → und q ts.length ≤ u → LB ts M (s.1.getD 25 0) q
/-- what a search leaves, of plans with at most u tasks left -/
structure Fnd (ts : List Tk) (M : Nat) (p : List Int) (u : Nat) (s s' : RS) : Prop where
  le : s'.1.getD 25 0 ≤ s.1.getD 25 0
  cl : Clo ts M s' u
  new : ∀ X ∈ s'.2, X ∈ s.2 ∨ ∃ q, Rp ts q ∧ und q ts.length ≤ u ∧ X = stateP ts M q
  best : s'.1 = s.1 ∨ (Rch ts M p s'.1 ∧ Full ts s'.1)
theorem Fnd.refl {u : Nat} {s : RS} (h : Clo ts M s u) : Fnd ts M p u s s := ⟨Int.le_refl _, h, fun X hX => .inl hX, .inl rfl⟩
theorem Fnd.trans {u : Nat} {s s' s'' : RS} (h : Fnd ts M p u s s') (h' : Fnd ts M p u s' s'') : Fnd ts M p u s s'' :=
  ⟨Int.le_trans h'.le h.le, h'.cl, fun X hX => by
    rcases h'.new X hX with hX | hX
    · exact h.new X hX
    · exact .inr hX, by
    rcases h'.best with h1 | h1
    · rcases h.best with h2 | h2
      · exact .inl (h1.trans h2)
      · exact .inr (by rw [h1]; exact h2)
    · exact .inr h1⟩
theorem und_done (h : q.getD 24 0 = p.getD 24 0) : ∀ n, und q n = und p n
  | 0 => rfl
  | n + 1 => by rw [und, und, und_done h n]; unfold undB; rw [h]

/-- one task on all machines -/
theorem innP_find {rec : List Int → RS → RS} {i u : Nat} (hr : ∀ k s, k < M → bitI (tg ts i).on (k : Int) = 1 → Clo ts M s u → Fnd ts M (withP ts p i k) u s (rec (withP ts p i k) s) ∧ LB ts M ((rec (withP ts p i k) s).1.getD 25 0) (withP ts p i k)) (hi : i < ts.length) (hrd : readyQ ts p i = true) {s : RS} (hs : Clo ts M s u) : ∀ n, n ≤ M → Fnd ts M p u s (innP rec ts p i s n) ∧ ∀ k, k < n → bitI (tg ts i).on (k : Int) = 1 → LB ts M ((innP rec ts p i s n).1.getD 25 0) (withP ts p i k)
  | 0, _ => ⟨.refl hs, fun k hk => by omega⟩
  | n + 1, hn => by
    obtain ⟨h1, h2⟩ := innP_find hr hi hrd hs n (by omega)
    rw [innP]
    split
    · rename_i hb
      obtain ⟨h3, h4⟩ := hr n _ (by omega) hb h1.cl
      have h5 : Fnd ts M p u (innP rec ts p i s n) (rec (withP ts p i n) (innP rec ts p i s n)) := ⟨h3.le, h3.cl, h3.new, h3.best.imp id fun h => ⟨.step i n hi (by omega) hrd hb h.1, h.2⟩⟩
      refine ⟨h1.trans h5, fun k hk hb' => ?_⟩
      by_cases hkn : k < n
      · exact (h2 k hkn hb').mono h3.le
      · obtain rfl : k = n := by omega
        exact h4
    · rename_i hb
      refine ⟨h1, fun k hk hb' => ?_⟩
      by_cases hkn : k < n
      · exact h2 k hkn hb'
      · obtain rfl : k = n := by omega
        exact absurd hb' hb
theorem outP_find {rec : List Int → RS → RS} {u : Nat} (hr : ∀ i k s, i < ts.length → readyQ ts p i = true → k < M → bitI (tg ts i).on (k : Int) = 1 → Clo ts M s u → Fnd ts M (withP ts p i k) u s (rec (withP ts p i k) s) ∧ LB ts M ((rec (withP ts p i k) s).1.getD 25 0) (withP ts p i k)) {s : RS} (hs : Clo ts M s u) : ∀ n, n ≤ ts.length → Fnd ts M p u s (outP rec ts M p s n) ∧ ∀ i k, i < n → readyQ ts p i = true → k < M → bitI (tg ts i).on (k : Int) = 1 → LB ts M ((outP rec ts M p s n).1.getD 25 0) (withP ts p i k)
  | 0, _ => ⟨.refl hs, fun i k hk => by omega⟩
  | n + 1, hn => by
    obtain ⟨h1, h2⟩ := outP_find hr hs n (by omega)
    rw [outP]
    split
    · rename_i hrd
      obtain ⟨h3, h4⟩ := innP_find (hr n · · (by omega) hrd) (by omega) hrd h1.cl M (Nat.le_refl _)
      refine ⟨h1.trans h3, fun i k hi hrd' hk hb => ?_⟩
      by_cases hin : i < n
      · exact (h2 i k hin hrd' hk hb).mono h3.le
      · obtain rfl : i = n := by omega
        exact h4 k hk hb
    · rename_i hrd
      refine ⟨h1, fun i k hi hrd' hk hb => ?_⟩
      by_cases hin : i < n
      · exact h2 i k hin hrd' hk hb
      · obtain rfl : i = n := by omega
        exact absurd hrd' hrd

/-- the search -/
theorem run_find (hg : AllGood M ts) (hn : ts.length ≤ 10) (hM : M ≤ 4) : ∀ f p s, Rp ts p → und p ts.length < f → LB ts M goal p → Clo ts M s (und p ts.length) →
    Fnd ts M p (und p ts.length) s (runP ts M goal f p s) ∧ LB ts M ((runP ts M goal f p s).1.getD 25 0) p
  | 0, p, s, _, hf, _, _ => by omega
  | f + 1, p, s, hp, hf, hgo, hs => by
    have hst : ∀ {q}, Rp ts q → stateP ts M q = stateP ts M p → und q ts.length = und p ts.length := fun hq h => by
      obtain ⟨_, _, h1⟩ := state_sim hg hn hM hq hp h
      exact und_done h1.done.symm _
    rw [runP]
    split
    · rename_i hfull
      have hle : ∀ q, Rch ts M p q → p.getD 25 0 ≤ q.getD 25 0 := fun q h => rch_len hn h hp.pi.ok.len
      split
      · rename_i hlt
        refine ⟨⟨Int.le_of_lt hlt, fun q h1 h2 h3 => (hs q h1 h2 h3).mono (Int.le_of_lt hlt), fun X hX => .inl hX, .inr ⟨.refl p, hfull⟩⟩, fun q h1 h2 => hle q h1⟩
      · rename_i hlt
        exact ⟨.refl hs, fun q h1 h2 => Int.le_trans (Int.not_lt.1 hlt) (hle q h1)⟩
    · rename_i hnf
      split
      · rename_i hc
        refine ⟨.refl hs, ?_⟩
        rcases hc with hc | hc
        · rw [hc]; exact hgo
        · exact hop_LB hg hn hM hp hc
      · split
        · rename_i hmem
          exact ⟨.refl hs, hs p hp hmem (Nat.le_refl _)⟩
        · have hu : 0 < und p ts.length := Nat.pos_of_ne_zero fun hz => hnf (und_zero hp.pi.done.1 hp.pi.d hz)
          have hs1 : Clo ts M (s.1, s.2 ++ [stateP ts M p]) (und p ts.length - 1) := fun q h1 h2 h3 => by
            rcases List.mem_append.1 h2 with h2 | h2
            · exact hs q h1 h2 (by omega)
            · have := hst h1 (by simpa using h2)
              omega
          obtain ⟨h1, h2⟩ := outP_find (ts := ts) (M := M) (p := p) (rec := runP ts M goal f) (u := und p ts.length - 1) (fun i k s hi hr hk hb hs => by
            have hw := hp.step hg hn hM hi hk hr
            have := run_find hg hn hM f (withP ts p i k) s hw.1 (by omega) (fun q hq hqf => hgo q (.step i k hi hk hr hb hq) hqf)
            rw [show und (withP ts p i k) ts.length = und p ts.length - 1 by omega] at this
            exact this hs) hs1 ts.length (Nat.le_refl _)
          generalize outP (runP ts M goal f) ts M p (s.1, s.2 ++ [stateP ts M p]) ts.length = s' at h1 h2
          have hlb : LB ts M (s'.1.getD 25 0) p := fun q hq hqf => by
            cases hq with
            | refl => exact absurd hqf hnf
            | step i k hi hk hr hb hq => exact h2 i k hi hr hk hb q hq hqf
          refine ⟨⟨h1.le, fun q h3 h4 h5 => ?_, fun X hX => ?_, h1.best⟩, hlb⟩
          · by_cases h6 : und q ts.length ≤ und p ts.length - 1
            · exact h1.cl q h3 h4 h6
            · rcases h1.new _ h4 with h7 | ⟨q', h7, h8, h9⟩
              · rcases List.mem_append.1 h7 with h7 | h7
                · exact (hs q h3 h7 h5).mono h1.le
                · obtain ⟨f', g', h8⟩ := state_sim hg hn hM h3 hp (by simpa using h7)
                  exact LB.sim hg hn hM hp h3 h8 hlb
              · obtain ⟨_, _, h10⟩ := state_sim hg hn hM h3 h7 h9
                have := und_done h10.done ts.length
                omega
          · rcases h1.new X hX with h3 | ⟨q, h3, h4, h5⟩
            · rcases List.mem_append.1 h3 with h3 | h3
              · exact .inl h3
              · exact .inr ⟨p, hp, Nat.le_refl _, by simpa using h3⟩
            · exact .inr ⟨q, h3, by omega, h5⟩
end
end Go.Proofs.Ytgacbfckaglhbaa
namespace Go.Proofs.Ytgacbfckaglhbaa

/-- the tasks that have starts go together -/
structure Pf (ts : List Tk) (M : Nat) (st on : List Int) : Prop where
  ok : ∀ i, i < ts.length → 0 ≤ st.getD i 0 → may (tg ts i).on (on.getD i 0) ∧ on.getD i 0 < M
  dep : ∀ i, i < ts.length → 0 ≤ st.getD i 0 → ∀ k : Nat, (k : Int) ∈ (tg ts i).after → 0 ≤ st.getD k 0
  pair : ∀ i, i < ts.length → 0 ≤ st.getD i 0 → ∀ k, k < ts.length → 0 ≤ st.getD k 0 → pairOK ts st on i k

section
variable {ts : List Tk} {M : Nat} {p q st on : List Int}
theorem ready_nat (hg : AllGood M ts) {i : Nat} (hi : i < ts.length) : readyP ts st i ↔ st.getD i 0 < 0 ∧ ∀ k : Nat, (k : Int) ∈ (tg ts i).after → 0 ≤ st.getD k 0 := by
  unfold readyP
  refine and_congr Iff.rfl ⟨fun h k hk => ?_, fun h x hx => ?_⟩
  · obtain ⟨x, hx, he⟩ := after_mem hk
    have := h x hx
    rw [he] at this; exact this
  · have ha := good_after hg hi x hx
    exact h _ (by rw [Int.toNat_of_nonneg ha.1]; exact mem_after hx)
theorem after_lt (hg : AllGood M ts) {i k : Nat} (hi : i < ts.length) (h : (k : Int) ∈ (tg ts i).after) : k < i := by
  obtain ⟨x, hx, he⟩ := after_mem h
  have := good_after hg hi x hx
  omega
theorem Pf.step (hg : AllGood M ts) (hM : M ≤ 4) (hs : st.length = ts.length) (ho : on.length = ts.length) (h : Pf ts M st on) {i k : Nat} (hi : i < ts.length) (hk : k < M) (hr : readyP ts st i) (hb : bitI (tg ts i).on (k : Int) = 1) {e : Int} (he : e = placeP ts st on i k) : Pf ts M (st.set i e) (on.set i (k : Int)) := by
  have g1 : ∀ j, (st.set i e).getD j 0 = if i = j then e else st.getD j 0 := fun j => by rw [getD_set]; by_cases h : i = j <;> simp [h]; omega
  have g2 : ∀ j, (on.set i (k : Int)).getD j 0 = if i = j then (k : Int) else on.getD j 0 := fun j => by rw [getD_set]; by_cases h : i = j <;> simp [h]; omega
  have hr := (ready_nat hg hi).1 hr
  have hgo := good_on hg hM i
  have he0 : 0 ≤ e := by rw [he]; exact placeN_nonneg _
  have ht : ∀ j, j < ts.length → 1 ≤ (tg ts j).time := fun j hj => (hg j hj).t1
  have hub : ∀ j, j < ts.length → 0 ≤ st.getD j 0 → (on.getD j 0 = k ∨ (j : Int) ∈ (tg ts i).after) → st.getD j 0 + (tg ts j).time ≤ e := fun j hj h1 h2 => by rw [he]; exact placeN_ub h1 h2 hj
  refine ⟨fun j hj hp => ?_, fun j hj hp x hx => ?_, fun j hj hp x hx hpx => ?_⟩
  · rw [g1] at hp; rw [g2]
    by_cases hij : i = j
    · subst hij; rw [if_pos rfl]
      exact ⟨⟨by omega, by omega, by rw [Int.toNat_natCast]; exact (may_bit _ _ hgo.1).1 (by unfold bitI at hb; simpa using hb)⟩, by omega⟩
    · rw [if_neg hij] at hp ⊢; exact h.ok j hj hp
  · rw [g1] at hp ⊢
    by_cases hix : i = x
    · rw [if_pos hix]; exact he0
    · rw [if_neg hix]
      by_cases hij : i = j
      · subst hij; exact hr.2 x hx
      · rw [if_neg hij] at hp; exact h.dep j hj hp x hx
  · rw [g1] at hp hpx
    unfold pairOK
    rw [g1, g1, g2, g2]
    by_cases hij : i = j
    · subst hij
      by_cases hix : i = x
      · subst hix
        refine ⟨fun hc => ?_, fun hc => hc.1 rfl⟩
        have := after_lt hg hi hc.1; omega
      · rw [if_pos rfl, if_pos rfl, if_neg hix, if_neg hix]
        rw [if_neg hix] at hpx
        refine ⟨fun hc => ?_, fun hc => ?_⟩
        · have := hub x hx hpx (.inr hc.1); omega
        · have := hub x hx hpx (.inl hc.2.1.symm); omega
    · by_cases hix : i = x
      · subst hix
        rw [if_neg hij, if_neg hij, if_pos rfl, if_pos rfl]
        rw [if_neg hij] at hp
        refine ⟨fun hc => ?_, fun hc => ?_⟩
        · have := h.dep j hj hp i hc.1; omega
        · have := hub j hj hp (.inl hc.2.1)
          have := ht j hj; omega
      · rw [if_neg hij, if_neg hij, if_neg hix, if_neg hix]
        rw [if_neg hij] at hp; rw [if_neg hix] at hpx
        exact h.pair j hj hp x hx hpx

/-- a plan whose tasks go together -/
def Rf (ts : List Tk) (M : Nat) (p st on : List Int) : Prop := Rel ts p st on (p.getD 25 0) ∧ Pf ts M st on
theorem Rf.step (hg : AllGood M ts) (hn : ts.length ≤ 10) (hM : M ≤ 4) (h : Rf ts M p st on) {i k : Nat} (hi : i < ts.length) (hk : k < M) (hr : readyQ ts p i = true) (hb : bitI (tg ts i).on (k : Int) = 1) : Rf ts M (withP ts p i k) (st.set i (placeP ts st on i k)) (on.set i (k : Int)) := by
  have hrp := (ready_iff hg h.1 hi).1 hr
  have h1 := h.1.step hg hn hi (k := k) (by omega) hrp
  exact ⟨by rw [h1.len]; exact h1, h.2.step hg hM h.1.l1 h.1.l2 hi hk hrp hb rfl⟩
theorem Rf_zer (hn : ts.length ≤ 10) : Rf ts M zer (List.replicate ts.length (-1)) (List.replicate ts.length (-1)) := by
  have hm : ∀ j, j < ts.length → (List.replicate ts.length (-1 : Int)).getD j 0 = -1 := fun j hj => by simp [hj]
  exact ⟨rel_none (M := 0) hn, fun i hi h => by rw [hm i hi] at h; omega, fun i hi h => by rw [hm i hi] at h; omega, fun i hi h => by rw [hm i hi] at h; omega⟩
theorem Rch.rf (hg : AllGood M ts) (hn : ts.length ≤ 10) (hM : M ≤ 4) (h : Rch ts M p q) : (∃ st on, Rf ts M p st on) → ∃ st on, Rf ts M q st on := by
  induction h with
  | refl => exact id
  | step i k hi hk hr hb _ ih => exact fun ⟨_, _, hp⟩ => ih ⟨_, _, hp.step hg hn hM hi hk hr hb⟩
theorem Rel.full {ln : Int} (h : Rel ts p st on ln) : Full ts p ↔ ∀ i, i < ts.length → 0 ≤ st.getD i 0 := by
  refine ⟨fun hf i hi => ?_, fun ha => ?_⟩
  · have h1 := full_und hf hi
    rw [bitI_test h.done.1, h.bit] at h1
    simp only [hi, true_and, decide_eq_true_eq] at h1
    split at h1
    · assumption
    · omega
  · have h1 : (p.getD 24 0).toNat = 2 ^ ts.length - 1 := by
      refine Nat.eq_of_testBit_eq fun i => ?_
      rw [h.bit, Nat.testBit_two_pow_sub_one]
      by_cases hi : i < ts.length
      · simp only [hi, ha i hi, and_self, decide_true]
      · simp [hi]
    have hc : ((2 : Int) ^ ts.length) = ((2 ^ ts.length : Nat) : Int) := by simp
    have : 0 < 2 ^ ts.length := Nat.pow_pos (by decide)
    have := h.done.1
    unfold Full; omega
theorem lenN_ub {j : Nat} : ∀ {n : Nat}, j < n → st.getD j 0 + (tg ts j).time ≤ lenN ts st n
  | n + 1, h => by
    by_cases hj : j < n
    · have := lenN_ub hj; rw [lenN]; omega
    · obtain rfl : j = n := by omega
      rw [lenN]; omega
theorem lenN_lub {B : Int} (hB : 0 ≤ B) : ∀ {n : Nat}, (∀ j, j < n → st.getD j 0 + (tg ts j).time ≤ B) → lenN ts st n ≤ B
  | 0, _ => hB
  | n + 1, h => by have := lenN_lub hB (n := n) fun j hj => h j (by omega); have := h n (by omega); rw [lenN]; omega
theorem lenN_nonneg : ∀ n, 0 ≤ lenN ts st n
  | 0 => Int.le_refl _
  | n + 1 => by have := lenN_nonneg n; rw [lenN]; omega
/-- a complete plan is a schedule -/
theorem Rf.feas (hg : AllGood M ts) (hn : ts.length ≤ 10) (hM : M ≤ 4) (hp : Rp ts p) (h : Rf ts M p st on) (hf : Full ts p) : Feas ts M st on ∧ p.getD 25 0 = lenP ts st := by
  have ha := h.1.full.1 hf
  have hmay : ∀ i, i < ts.length → ∃ k : Nat, k < M ∧ on.getD i 0 = k := fun i hi => by
    obtain ⟨⟨h1, h2, h3⟩, h4⟩ := h.2.ok i hi (ha i hi)
    exact ⟨(on.getD i 0).toNat, by omega, by omega⟩
  refine ⟨⟨fun i hi => ⟨⟨ha i hi, ?_⟩, h.2.ok i hi (ha i hi)⟩, fun i hi k hk => h.2.pair i hi (ha i hi) k hk (ha k hk)⟩, ?_⟩
  · have := (h.1.sq i hi (ha i hi)).1
    have := (hp.pi.ok.bd i).2
    omega
  · rw [hp.len]
    apply Int.le_antisymm
    · refine mx4_le fun k hk => ?_
      rw [h.1.free k hk]
      exact freeN_lub (lenN_nonneg _) fun j hj _ _ => lenN_ub hj
    · refine lenN_lub (by rw [← hp.len]; exact hp.len0) fun j hj => ?_
      obtain ⟨k, hk, hk2⟩ := hmay j hj
      have h1 := freeN_ub (ts := ts) (ha j hj) hk2 hj
      rw [← h.1.free k (by omega)] at h1
      exact Int.le_trans h1 (mx4_ge (by omega))
end
end Go.Proofs.Ytgacbfckaglhbaa
namespace Go.Proofs.Ytgacbfckaglhbaa

/-- n is the least length of a schedule -/
structure Opt (ts : List Tk) (M : Nat) (n : Int) : Prop where
  ex : ∃ st on : List Int, st.length = ts.length ∧ on.length = ts.length ∧ Feas ts M st on ∧ lenP ts st = n
  lb : ∀ st on : List Int, Feas ts M st on → n ≤ lenP ts st
theorem Opt.uniq {ts : List Tk} {M : Nat} {n n' : Int} (h : Opt ts M n) (h' : Opt ts M n') : n = n' := by
  obtain ⟨s, o, _, _, h1, h2⟩ := h.ex
  obtain ⟨s', o', _, _, h3, h4⟩ := h'.ex
  have := h.lb _ _ h3
  have := h'.lb _ _ h1
  omega

theorem argmin (P : Nat → Prop) [DecidablePred P] (f : Nat → Int) : ∀ n, (∃ j, j < n ∧ P j) → ∃ j, j < n ∧ P j ∧ ∀ i, i < n → P i → f j ≤ f i
  | 0, h => by obtain ⟨j, h, _⟩ := h; omega
  | n + 1, h => by
    by_cases h1 : ∃ j, j < n ∧ P j
    · obtain ⟨j, hj, hp, hm⟩ := argmin P f n h1
      by_cases hn : P n ∧ f n < f j
      · refine ⟨n, by omega, hn.1, fun i hi hpi => ?_⟩
        by_cases hin : i < n
        · have := hm i hin hpi; omega
        · obtain rfl : i = n := by omega
          exact Int.le_refl _
      · refine ⟨j, by omega, hp, fun i hi hpi => ?_⟩
        by_cases hin : i < n
        · exact hm i hin hpi
        · obtain rfl : i = n := by omega
          exact Int.not_lt.1 fun h => hn ⟨hpi, h⟩
    · obtain ⟨j, hj, hp⟩ := h
      obtain rfl : j = n := by
        apply Classical.byContradiction; intro hc
        exact h1 ⟨j, by omega, hp⟩
      refine ⟨j, by omega, hp, fun i hi hpi => ?_⟩
      by_cases hin : i < j
      · exact absurd ⟨i, hin, hpi⟩ h1
      · obtain rfl : i = j := by omega
        exact Int.le_refl _

section
variable {ts : List Tk} {M : Nat} {p q st on sp op : List Int}
/-- a plan that holds back no task of a schedule -/
structure Dm (ts : List Tk) (st on sp op : List Int) : Prop where
  le : ∀ i, i < ts.length → 0 ≤ sp.getD i 0 → sp.getD i 0 ≤ st.getD i 0 ∧ op.getD i 0 = on.getD i 0
  lo : ∀ i, i < ts.length → 0 ≤ sp.getD i 0 → ∀ j, j < ts.length → sp.getD j 0 < 0 → st.getD i 0 ≤ st.getD j 0
theorem dom (hg : AllGood M ts) (hn : ts.length ≤ 10) (hM : M ≤ 4) (hf : Feas ts M st on) : ∀ u p sp op, und p ts.length = u → Rp ts p → Rf ts M p sp op → Dm ts st on sp op → ∃ q sq oq, Rch ts M p q ∧ Full ts q ∧ Rf ts M q sq oq ∧ Dm ts st on sq oq := by
  intro u
  induction u with
  | zero => exact fun p sp op hu hp hr hd => ⟨p, sp, op, .refl p, und_zero hp.pi.done.1 hp.pi.d hu, hr, hd⟩
  | succ u ih =>
    intro p sp op hu hp hr hd
    by_cases hall : ∃ j, j < ts.length ∧ sp.getD j 0 < 0
    · obtain ⟨i, hi, hs, hmin⟩ := argmin (fun j => sp.getD j 0 < 0) (fun j => st.getD j 0) _ hall
      have hl1 := hr.1.l1
      have hl2 := hr.1.l2
      have ht := (hg i hi).t1
      obtain ⟨⟨hst0, _⟩, ⟨ho1, ho2, ho3⟩, ho4⟩ := hf.1 i hi
      obtain ⟨k, hk⟩ := Int.eq_ofNat_of_zero_le ho1
      have hk' : on.getD i 0 = (k : Int) := hk
      have hgo := good_on hg hM i
      have hb : bitI (tg ts i).on (k : Int) = 1 := by
        unfold bitI; rw [Int.toNat_natCast]
        refine (may_bit _ _ hgo.1).2 ?_
        rw [hk', Int.toNat_natCast] at ho3; exact ho3
      have hrd : readyP ts sp i := (ready_nat hg hi).2 ⟨hs, fun a ha => by
        have hai := after_lt hg hi ha
        have := (hf.2 i hi a (by omega)).1
        have hta := (hg a (by omega)).t1
        apply Classical.byContradiction; intro hc
        have := hmin a (by omega) (by omega)
        have : st.getD i 0 < st.getD a 0 + (tg ts a).time := by omega
        exact (hf.2 i hi a (by omega)).1 ⟨ha, this⟩⟩
      have hrq := (ready_iff hg hr.1 hi).2 hrd
      have hkM : k < M := by omega
      have hw := hp.step hg hn hM hi hkM hrq
      have hr' := hr.step hg hn hM hi hkM hrq hb
      have hle : placeP ts sp op i k ≤ st.getD i 0 := placeN_lub hst0 fun j hj h1 h2 => by
        have hdj := hd.le j hj h1
        have hij : i ≠ j := by rintro rfl; omega
        have hpr := hf.2 i hi j hj
        rcases h2 with h2 | h2
        · have := hd.lo j hj h1 i hi hs
          have := Int.not_lt.1 fun h => hpr.2 ⟨hij, by rw [hk', ← hdj.2, h2], this, h⟩
          omega
        · have := Int.not_lt.1 fun h => hpr.1 ⟨h2, h⟩
          omega
      have hp0 : 0 ≤ placeP ts sp op i k := placeN_nonneg _
      have g1 : ∀ j, (sp.set i (placeP ts sp op i k)).getD j 0 = if i = j then placeP ts sp op i k else sp.getD j 0 := fun j => by rw [getD_set]; by_cases h : i = j <;> simp [h]; omega
      have g2 : ∀ j, (op.set i (k : Int)).getD j 0 = if i = j then (k : Int) else op.getD j 0 := fun j => by rw [getD_set]; by_cases h : i = j <;> simp [h]; omega
      have hd' : Dm ts st on (sp.set i (placeP ts sp op i k)) (op.set i (k : Int)) := ⟨fun j hj h1 => by
          rw [g1] at h1 ⊢; rw [g2]
          by_cases hij : i = j
          · subst hij; rw [if_pos rfl, if_pos rfl]; exact ⟨hle, hk'.symm⟩
          · rw [if_neg hij] at h1 ⊢; rw [if_neg hij]; exact hd.le j hj h1, fun j hj h1 x hx h2 => by
          rw [g1] at h1 h2
          have hix : i ≠ x := by rintro rfl; rw [if_pos rfl] at h2; omega
          rw [if_neg hix] at h2
          by_cases hij : i = j
          · subst hij; exact hmin x hx h2
          · rw [if_neg hij] at h1; exact hd.lo j hj h1 x hx h2⟩
      obtain ⟨q, sq, oq, h1, h2⟩ := ih _ _ _ (by omega) hw.1 hr' hd'
      exact ⟨q, sq, oq, .step i k hi hkM hrq hb h1, h2⟩
    · exact ⟨p, sp, op, .refl p, hr.1.full.2 fun i hi => by
        apply Classical.byContradiction; intro hc
        exact hall ⟨i, hi, by omega⟩, hr, hd⟩
/-- what bounds the complete plans bounds the schedules -/
theorem LB.feas (hg : AllGood M ts) (hn : ts.length ≤ 10) (hM : M ≤ 4) {b : Int} (h : LB ts M b zer) (hf : Feas ts M st on) : b ≤ lenP ts st := by
  have hm : ∀ j, j < ts.length → (List.replicate ts.length (-1 : Int)).getD j 0 = -1 := fun j hj => by simp [hj]
  obtain ⟨q, sq, oq, h1, h2, h3, h4⟩ := dom hg hn hM hf _ zer _ _ rfl (Rp_zer hn) (Rf_zer hn) ⟨fun i hi h => by rw [hm i hi] at h; omega, fun i hi h => by rw [hm i hi] at h; omega⟩
  have h5 := h q h1 h2
  have h6 := h3.feas hg hn hM (h1.rp hg hn hM (Rp_zer hn)) h2
  rw [h6.2] at h5
  refine Int.le_trans h5 (lenN_lub (lenN_nonneg _) fun j hj => ?_)
  have := (h4.le j hj (h3.1.full.1 h2 j hj)).1
  have := lenN_ub (ts := ts) (st := st) hj
  omega
/-- a complete plan that none is shorter than is the optimum -/
theorem opt_of (hg : AllGood M ts) (hn : ts.length ≤ 10) (hM : M ≤ 4) (h1 : Rch ts M zer q) (h2 : Full ts q) (h3 : LB ts M (q.getD 25 0) zer) : Opt ts M (q.getD 25 0) := by
  obtain ⟨sq, oq, h4⟩ := h1.rf hg hn hM ⟨_, _, Rf_zer hn⟩
  have h5 := h4.feas hg hn hM (h1.rp hg hn hM (Rp_zer hn)) h2
  exact ⟨⟨sq, oq, h4.1.l1, h4.1.l2, h5.1, h5.2.symm⟩, fun st on hf => LB.feas hg hn hM h3 hf⟩

/-! ## the plan of an order -/
theorem bestQ_may {i : Nat} : ∀ {n : Nat}, 0 ≤ bestQ ts p i n → may (tg ts i).on (bestQ ts p i n)
  | 0, h => by simp [bestQ] at h
  | n + 1, h => by
    rw [bestQ] at h ⊢
    split
    · rename_i hc; exact hc.1
    · rename_i hc; rw [if_neg hc] at h; exact bestQ_may h
theorem lis_rch (hg : AllGood M ts) (hn : ts.length ≤ 10) (hM : M ≤ 4) {o : List Int} : ∀ j, okOrder ts M o j → Rch ts M zer (lisN ts M o j)
  | 0, _ => .refl _
  | j + 1, h => by
    have hj : okOrder ts M o j := fun q hq => h q (by omega)
    have ih := lis_rch hg hn hM j hj
    obtain ⟨h1, h2, h3⟩ := h j (by omega)
    have hr := lis_lst hg hM hn j hj
    have hi : (o.getD j 0).toNat < ts.length := by omega
    have gi := hg _ hi
    have hgo := good_on hg hM (o.getD j 0).toNat
    have hb0 := bestQ_pos (ts := ts) (L := lisN ts M o j) (i := (o.getD j 0).toNat) (n := M) (good_may hM gi.o1 gi.o2)
    have hbb := bestQ_bd (ts := ts) (L := lisN ts M o j) (i := (o.getD j 0).toNat) M
    have hbm := (bestQ_may hb0).2.2
    refine ih.trans (.step _ _ hi ?_ ((ready_iff hg hr hi).2 h3) ?_ (.refl _))
    · omega
    · unfold bitI; rw [Int.toNat_natCast]; exact (may_bit _ _ hgo.1).2 hbm
theorem fill_take {n j : Nat} (hj : j ≤ n) (a : Nat) : (a : Int) ∈ (fillN n n).take j ↔ a < j := by
  have hl := fillN_len (n := n) n
  constructor
  · intro h
    obtain ⟨x, hx, he⟩ := List.mem_iff_getElem.1 h
    have hx' : x < j := by simp at hx; omega
    rw [List.getElem_take] at he
    have := fillN_get (n := n) n x (by omega) (Nat.le_refl _)
    rw [List.getD_eq_getElem?_getD, List.getElem?_eq_getElem (by omega)] at this
    simp only [Option.getD_some] at this
    rw [he, if_pos (by omega)] at this
    omega
  · intro h
    have := fillN_get (n := n) n a (by omega) (Nat.le_refl _)
    rw [List.getD_eq_getElem?_getD, List.getElem?_eq_getElem (by omega), if_pos (by omega)] at this
    simp only [Option.getD_some] at this
    refine List.mem_iff_getElem.2 ⟨a, by simp; omega, ?_⟩
    rw [List.getElem_take, this]
theorem fill_ok (hg : AllGood M ts) : ∀ n, n ≤ ts.length → okOrder ts M (fillN ts.length ts.length) n
  | 0, _ => fun j hj => by omega
  | n + 1, hn => fun j hj => by
    have ih := fill_ok hg n (by omega)
    by_cases hjn : j < n
    · exact ih j hjn
    · obtain rfl : j = n := by omega
      have hl := fillN_len (n := ts.length) ts.length
      have e := fillN_get (n := ts.length) ts.length j (by omega) (Nat.le_refl _)
      rw [if_pos (by omega)] at e
      have hp := lst_placed (M := M) (ts := ts) (o := fillN ts.length ts.length) j (by omega) ih
      unfold okAt
      rw [e]
      refine ⟨by omega, by omega, (ready_nat hg (by omega)).2 ⟨?_, fun k hk => ?_⟩⟩
      · show (lstN ts M _ j).1.getD j 0 < 0
        have := mt (hp j (by omega)).1 (mt (fill_take (n := ts.length) (by omega) j).1 (by omega))
        omega
      · have := after_lt hg (show j < ts.length by omega) hk
        exact (hp k (by omega)).2 ((fill_take (by omega) k).2 this)
theorem lis_full (hg : AllGood M ts) (hn : ts.length ≤ 10) (hM : M ≤ 4) {o : List Int} (hl : o.length = ts.length) (h : okOrder ts M o ts.length) : Full ts (lisN ts M o ts.length) :=
  (lis_lst hg hM hn _ h).full.2 (ok_all hl h)
end
end Go.Proofs.Ytgacbfckaglhbaa
namespace Go.Proofs.Ytgacbfckaglhbaa

section
variable {ts : List Tk} {M : Nat} {p q st on : List Int}
theorem nextP_mem {T : List Int} {i : Nat} : ∀ {j : Nat}, 0 ≤ nextP ts T i j → (i : Int) ∈ (tg ts (nextP ts T i j).toNat).after
  | 0, h => by simp [nextP] at h
  | j + 1, h => by
    rw [nextP] at h ⊢
    split
    · rename_i hc; rw [Int.toNat_natCast]; exact hc.1
    · rename_i hc; rw [if_neg hc] at h; exact nextP_mem h
theorem chS_le (hg : AllGood M ts) (hf : Feas ts M st on) : ∀ d, d ≤ ts.length → (∀ j, ts.length - d ≤ j → j < ts.length → st.getD j 0 + (chS ts d).t.getD j 0 ≤ lenP ts st) ∧ (chS ts d).most ≤ lenP ts st
  | 0, _ => ⟨fun j h1 h2 => by omega, lenN_nonneg _⟩
  | d + 1, hd => by
    obtain ⟨h1, h2⟩ := chS_le hg hf d (by omega)
    have hl := (chS_ok (good_time hg) d).lt
    have hi : ts.length - 1 - d < ts.length := by omega
    have e1 : (chS ts (d + 1)).t = (chS ts d).t.set (ts.length - 1 - d) (if nextP ts (chS ts d).t (ts.length - 1 - d) d < 0 then (tg ts (ts.length - 1 - d)).time else (tg ts (ts.length - 1 - d)).time + (chS ts d).t.getD (nextP ts (chS ts d).t (ts.length - 1 - d) d).toNat 0) := rfl
    have e2 : (chS ts (d + 1)).most = if (chS ts d).most ≤ (if nextP ts (chS ts d).t (ts.length - 1 - d) d < 0 then (tg ts (ts.length - 1 - d)).time else (tg ts (ts.length - 1 - d)).time + (chS ts d).t.getD (nextP ts (chS ts d).t (ts.length - 1 - d) d).toNat 0) then (if nextP ts (chS ts d).t (ts.length - 1 - d) d < 0 then (tg ts (ts.length - 1 - d)).time else (tg ts (ts.length - 1 - d)).time + (chS ts d).t.getD (nextP ts (chS ts d).t (ts.length - 1 - d) d).toNat 0) else (chS ts d).most := rfl
    have hst := (hf.1 _ hi).1.1
    have hv : st.getD (ts.length - 1 - d) 0 + (if nextP ts (chS ts d).t (ts.length - 1 - d) d < 0 then (tg ts (ts.length - 1 - d)).time else (tg ts (ts.length - 1 - d)).time + (chS ts d).t.getD (nextP ts (chS ts d).t (ts.length - 1 - d) d).toNat 0) ≤ lenP ts st := by
      split
      · exact lenN_ub hi
      · rename_i hc
        have hm := nextP_mem (Int.not_lt.1 hc)
        have hb := nextP_bd (ts := ts) (T := (chS ts d).t) (i := ts.length - 1 - d) d
        have h3 := h1 (nextP ts (chS ts d).t (ts.length - 1 - d) d).toNat (by omega) (by omega)
        have h4 := Int.not_lt.1 fun h => (hf.2 (nextP ts (chS ts d).t (ts.length - 1 - d) d).toNat (by omega) _ hi).1 ⟨hm, h⟩
        omega
    generalize (if nextP ts (chS ts d).t (ts.length - 1 - d) d < 0 then (tg ts (ts.length - 1 - d)).time else (tg ts (ts.length - 1 - d)).time + (chS ts d).t.getD (nextP ts (chS ts d).t (ts.length - 1 - d) d).toNat 0) = x at *
    refine ⟨fun j h3 h4 => ?_, ?_⟩
    · rw [e1, getD_set]
      split
      · rename_i hc; rw [← hc.1]; exact hv
      · rename_i hc; exact h1 j (by omega) h4
    · rw [e2]; split <;> omega
theorem chain_feas (hg : AllGood M ts) (hf : Feas ts M st on) : (chainP ts).2 ≤ lenP ts st := (chS_le hg hf _ (Nat.le_refl _)).2
theorem setsF_bd {B : Int} : ∀ {c n : Nat} {s : Bool × Int × Int}, (∀ x, n ≤ x → x < n + c → loadP ts M zer x ≤ B) → s.2.2 ≤ B → (setsF (bStep ts M) c n s).2.2 ≤ B
  | 0, n, s, _, h => h
  | c + 1, n, s, hl, h => by
    rw [setsF]
    have h1 : (bStep ts M s n).1.2.2 ≤ B := by
      unfold bStep; split
      · exact hl n (by omega) (by omega)
      · exact h
    split
    · exact setsF_bd (fun x h2 h3 => hl x (by omega) (by omega)) h1
    · exact h1
theorem bound_feas (hg : AllGood M ts) (hn : ts.length ≤ 10) (hM : M ≤ 4) (hf : Feas ts M st on) : (boundP ts M).2.2 ≤ lenP ts st := by
  refine setsF_bd (fun x h1 h2 => ?_) (chain_feas hg hf)
  have : 2 ^ M ≤ 16 := by have := Nat.pow_le_pow_right (show 0 < 2 by decide) hM; omega
  exact LB.feas hg hn hM (load_LB hg hn hM h1 (by omega) (Rp_zer hn)) hf
theorem bound_LB (hg : AllGood M ts) (hn : ts.length ≤ 10) (hM : M ≤ 4) : LB ts M (boundP ts M).2.2 zer := fun q h1 h2 => by
  obtain ⟨sq, oq, h4⟩ := h1.rf hg hn hM ⟨_, _, Rf_zer hn⟩
  have h5 := h4.feas hg hn hM (h1.rp hg hn hM (Rp_zer hn)) h2
  rw [h5.2]; exact bound_feas hg hn hM h5.1

/-- Best: a complete plan, and none is shorter -/
theorem best_opt (hg : AllGood M ts) (hn : ts.length ≤ 10) (hM : M ≤ 4) : Rch ts M zer (bestS ts M).1 ∧ Full ts (bestS ts M).1 ∧ Opt ts M ((bestS ts M).1.getD 25 0) := by
  have hl := fillN_len (n := ts.length) ts.length
  have hok := fill_ok (M := M) hg ts.length (Nat.le_refl _)
  obtain ⟨h1, h2⟩ := run_find hg hn hM (ts.length + 1) zer (lisN ts M (fillN ts.length ts.length) ts.length, []) (Rp_zer hn) (by rw [und_zer]; omega) (bound_LB hg hn hM) (fun q _ h => by cases h)
  have h3 : Rch ts M zer (bestS ts M).1 ∧ Full ts (bestS ts M).1 := by
    rcases h1.best with h3 | h3
    · unfold bestS; rw [h3]
      exact ⟨lis_rch hg hn hM _ hok, lis_full hg hn hM hl hok⟩
    · exact h3
  exact ⟨h3.1, h3.2, opt_of hg hn hM h3.1 h3.2 h2⟩
/-- the lists of Best -/
theorem best_lists (hg : AllGood M ts) (hn : ts.length ≤ 10) (hM : M ≤ 4) : ∃ st on n, bestP ts M = (st, on, n, 0) ∧ st.length = ts.length ∧ on.length = ts.length ∧ Feas ts M st on ∧ lenP ts st = n ∧ Opt ts M n := by
  obtain ⟨h1, h2, h3⟩ := best_opt hg hn hM
  obtain ⟨sq, oq, h4⟩ := h1.rf hg hn hM ⟨_, _, Rf_zer hn⟩
  have h5 := h4.feas hg hn hM (h1.rp hg hn hM (Rp_zer hn)) h2
  have h6 := h4.1.lists hn (h4.1.full.1 h2)
  refine ⟨sq, oq, _, ?_, h4.1.l1, h4.1.l2, h5.1, h5.2.symm, h3⟩
  unfold bestP
  rw [show (M : Int).toNat = M from rfl, h6.1, h6.2]
end
end Go.Proofs.Ytgacbfckaglhbaa
namespace Go.Proofs.Ytgacbfckaglhbaa

section
variable {ts : List Tk} {M : Nat}
theorem list_spec (hg : AllGood M ts) (hn : ts.length ≤ 10) (hM : M ≤ 4) (hv : validE ts M = 0) {o : List Int} (hl : o.length = ts.length) (hok : okOrder ts M o ts.length) : ∃ st on n, listP ts M o = (st, on, n, 0) ∧ st.length = ts.length ∧ on.length = ts.length ∧ Feas ts M st on ∧ lenP ts st = n ∧ (lstN ts M o ts.length) = (st, on, n) := by
  have h1 := lis_rch hg hn hM ts.length hok
  have h2 := lis_full hg hn hM hl hok
  have h3 := lis_lst hg hM hn ts.length hok
  obtain ⟨sq, oq, h4⟩ := h1.rf hg hn hM ⟨_, _, Rf_zer hn⟩
  have h5 := h4.feas hg hn hM (h1.rp hg hn hM (Rp_zer hn)) h2
  have h6 := h4.1.lists hn (h4.1.full.1 h2)
  have h7 := h3.lists hn (h3.full.1 h2)
  have e1 : sq = (lstN ts M o ts.length).1 := by rw [← h6.1, h7.1]
  have e2 : oq = (lstN ts M o ts.length).2.1 := by rw [← h6.2, h7.2]
  refine ⟨_, _, _, listP_ok hv hl hok, h3.l1, h3.l2, by rw [← e1, ← e2]; exact h5.1, by rw [← h3.len, h5.2, e1], rfl⟩
theorem ord_take (hg : AllGood M ts) {m : List Int} {j : Nat} : ∀ {n : Nat}, j ≤ n → n ≤ ts.length → (ordN ts m n).2.take j = (ordN ts m j).2
  | 0, h, _ => by obtain rfl : j = 0 := by omega
                  rfl
  | n + 1, h, hn => by
    by_cases hj : j ≤ n
    · have ih := ord_take hg (m := m) hj (by omega)
      have hl := (ord_ok hg m n (by omega)).out
      show ((ordN ts m n).2 ++ [_]).take j = _
      rw [List.take_append_of_le_length (by omega), ih]
    · obtain rfl : j = n + 1 := by omega
      have hl := (ord_ok hg m (n + 1) hn).out
      rw [List.take_of_length_le (by omega)]
theorem ord_okOrder (hg : AllGood M ts) {m : List Int} : ∀ n, n ≤ ts.length → okOrder ts M (ordP ts m) n
  | 0, _ => fun j hj => by omega
  | n + 1, hn => fun j hj => by
    have ih := ord_okOrder hg (m := m) n (by omega)
    by_cases hjn : j < n
    · exact ih j hjn
    · obtain rfl : j = n := by omega
      have hoj := ord_ok hg m j (by omega)
      have hof := ord_ok hg m ts.length (Nat.le_refl _)
      obtain ⟨_, _, i, he, hi, hr⟩ := ord_step hg (show j < ts.length by omega) hoj
      have ht := ord_take hg (m := m) (j := j) (n := ts.length) (by omega) (Nat.le_refl _)
      have ht1 := ord_take hg (m := m) (j := j + 1) (n := ts.length) (by omega) (Nat.le_refl _)
      have e : (ordP ts m).getD j 0 = (i : Int) := by
        have h1 : (ordN ts m (j + 1)).2 = (ordN ts m j).2 ++ [(i : Int)] := by
          show _ ++ [_] = _
          rw [he]
        have h2 : ((ordP ts m).take (j + 1)).getD j 0 = (ordP ts m).getD j 0 := by
          simp only [List.getD_eq_getElem?_getD, List.getElem?_take]; rw [if_pos (by omega)]
        rw [← h2, ht1, h1]
        have := hoj.out
        simp [List.getD_eq_getElem?_getD, List.getElem?_append_right, this]
      have hp := lst_placed (M := M) (ts := ts) (o := ordP ts m) j (by rw [hof.out]; omega) ih
      unfold okAt
      rw [e, Int.toNat_natCast]
      rw [ht] at hp
      have hr' := (ready_nat hg hi).1 hr
      refine ⟨by omega, by omega, (ready_nat hg hi).2 ⟨?_, fun k hk => ?_⟩⟩
      · have hf := hoj.free i hi
        have : ¬ (i : Int) ∈ (ordN ts m j).2 := fun hc => by rw [if_pos hc] at hf; omega
        have := mt (hp i hi).1 this
        omega
      · have hki := after_lt hg hi hk
        have hf := hoj.free k (by omega)
        have h0 := hr'.2 k hk
        have : (k : Int) ∈ (ordN ts m j).2 := by
          apply Classical.byContradiction; intro hc
          rw [if_neg hc] at hf; omega
        exact (hp k (by omega)).2 this
theorem ord_list (hg : AllGood M ts) (hn : ts.length ≤ 10) (hM : M ≤ 4) (hv : validE ts M = 0) (m : List Int) : ∃ st on n, listP ts M (ordP ts m) = (st, on, n, 0) ∧ st.length = ts.length ∧ on.length = ts.length ∧ Feas ts M st on ∧ lenP ts st = n ∧ (lstN ts M (ordP ts m) ts.length) = (st, on, n) :=
  list_spec hg hn hM hv (ord_ok hg m ts.length (Nat.le_refl _)).out (ord_okOrder hg ts.length (Nat.le_refl _))
end
end Go.Proofs.Ytgacbfckaglhbaa
namespace Go.Proofs.Ytgacbfckaglhbaa

abbrev LRec := List Int → List Int → Nat → Int → Int → Int
def linP (rec : LRec) (ts : List Tk) (st on : List Int) (i many : Nat) (len best : Int) : Nat → Int
  | 0 => best
  | k + 1 => if may (tg ts i).on (k : Int) then rec (st.set i (placeP ts st on i (k : Int))) (on.set i (k : Int)) (many + 1) (max len (placeP ts st on i (k : Int) + (tg ts i).time)) (linP rec ts st on i many len best k) else linP rec ts st on i many len best k
def loutP (rec : LRec) (ts : List Tk) (M : Nat) (st on : List Int) (many : Nat) (len best : Int) : Nat → Int
  | 0 => best
  | i + 1 => if readyP ts st i then linP rec ts st on i many len (loutP rec ts M st on many len best i) M else loutP rec ts M st on many len best i
def leaF (ts : List Tk) (M : Nat) : Nat → LRec
  | 0, _, _, _, _, best => best
  | f + 1, st, on, many, len, best => if best ≤ len then best else if many = ts.length then len else loutP (leaF ts M f) ts M st on many len best ts.length

structure LsOK (ts : List Tk) (j : Nat) (st on : List Int) (len : Int) : Prop where
  l1 : st.length = ts.length
  l2 : on.length = ts.length
  st : ∀ i, -1 ≤ st.getD i 0 ∧ st.getD i 0 ≤ 20 * j
  n : 0 ≤ len ∧ len ≤ 20 * j + 20
theorem LsOK.step {M : Nat} {ts : List Tk} (hg : AllGood M ts) {j : Nat} {st on : List Int} {len : Int} (h : LsOK ts j st on len) (i : Nat) (k : Int) : LsOK ts (j + 1) (st.set i (placeP ts st on i k)) (on.set i k) (max len (placeP ts st on i k + (tg ts i).time)) ∧ 0 ≤ placeP ts st on i k ∧ placeP ts st on i k ≤ 20 * j + 20 := by
  have ht := fun i => (good_time hg i)
  have hp : placeP ts st on i k ≤ _ := placeN_le (ts := ts) (st := st) (on := on) (i := i) (k := k) (B := 20 * j) (by omega) (fun i => (ht i).2) (fun i => (h.st i).2) ts.length
  have hp0 : 0 ≤ placeP ts st on i k := placeN_nonneg (ts := ts) (st := st) (on := on) (i := i) (k := k) ts.length
  refine ⟨⟨by simp [h.l1], by simp [h.l2], fun x => ?_, ?_⟩, hp0, by omega⟩
  · rw [getD_set]
    have := h.st x
    split <;> omega
  · have h1 := h.n; have := ht i
    omega
theorem LsOK.mod {M : Nat} {ts : List Tk} (hg : AllGood M ts) {j : Nat} {st on : List Int} {len : Int} (h : LsOK ts j st on len) (hj : j ≤ 100) : Mod ts st :=
  ⟨fun i => by have := good_time hg i; omega, fun i => by have := h.st i; omega⟩
theorem LsOK_0 {ts : List Tk} : LsOK ts 0 (List.replicate ts.length (-1)) (List.replicate ts.length (-1)) 0 := ⟨by simp, by simp, fun i => by
  simp only [List.getD_eq_getElem?_getD, List.getElem?_replicate]; split <;> simp, by simp⟩
end Go.Proofs.Ytgacbfckaglhbaa
namespace Go.Proofs.Ytgacbfckaglhbaa

section
variable {ts : List Tk} {M : Nat} {p q st on : List Int}
theorem may_bitI (hg : AllGood M ts) (hM : M ≤ 4) {i k : Nat} (hk : k < 4) : may (tg ts i).on (k : Int) ↔ bitI (tg ts i).on (k : Int) = 1 := by
  have hgo := good_on hg hM i
  unfold bitI may
  rw [Int.toNat_natCast, may_bit _ _ hgo.1]
  exact ⟨fun h => h.2.2, fun h => ⟨by omega, by omega, h⟩⟩
/-- what a search for the least length leaves -/
structure Lst (ts : List Tk) (M : Nat) (p : List Int) (best b : Int) : Prop where
  le : b ≤ best
  ex : b = best ∨ ∃ q, Rch ts M p q ∧ Full ts q ∧ q.getD 25 0 = b
theorem Lst.trans {a b c : Int} (h : Lst ts M p a b) (h2 : Lst ts M p b c) : Lst ts M p a c := ⟨Int.le_trans h2.le h.le, by
  rcases h2.ex with h3 | h3
  · rw [h3]; exact h.ex
  · exact .inr h3⟩
theorem linP_find {rec : LRec} (hg : AllGood M ts) (hM : M ≤ 4) {i many : Nat} {len : Int} (hi : i < ts.length) (hrd : readyQ ts p i = true) (hr : ∀ k best, k < M → may (tg ts i).on (k : Int) → Lst ts M (withP ts p i k) best (rec (st.set i (placeP ts st on i (k : Int))) (on.set i (k : Int)) (many + 1) (max len (placeP ts st on i (k : Int) + (tg ts i).time)) best) ∧ LB ts M (rec (st.set i (placeP ts st on i (k : Int))) (on.set i (k : Int)) (many + 1) (max len (placeP ts st on i (k : Int) + (tg ts i).time)) best) (withP ts p i k)) (best : Int) :
    ∀ n, n ≤ M → Lst ts M p best (linP rec ts st on i many len best n) ∧ ∀ k, k < n → bitI (tg ts i).on (k : Int) = 1 → LB ts M (linP rec ts st on i many len best n) (withP ts p i k)
  | 0, _ => ⟨⟨Int.le_refl _, .inl rfl⟩, fun k hk => by omega⟩
  | n + 1, hn => by
    obtain ⟨h1, h2⟩ := linP_find hg hM hi hrd hr best n (by omega)
    rw [linP]
    split
    · rename_i hm
      obtain ⟨h3, h4⟩ := hr n (linP rec ts st on i many len best n) (by omega) hm
      have hb := (may_bitI hg hM (by omega)).1 hm
      refine ⟨h1.trans ⟨h3.le, h3.ex.imp id fun ⟨q, h5, h6⟩ => ⟨q, .step i n hi (by omega) hrd hb h5, h6⟩⟩, fun k hk hb' => ?_⟩
      by_cases hkn : k < n
      · exact (h2 k hkn hb').mono h3.le
      · obtain rfl : k = n := by omega
        exact h4
    · rename_i hm
      refine ⟨h1, fun k hk hb' => ?_⟩
      by_cases hkn : k < n
      · exact h2 k hkn hb'
      · obtain rfl : k = n := by omega
        exact absurd ((may_bitI hg hM (by omega)).2 hb') hm
theorem loutP_find {rec : LRec} (hg : AllGood M ts) (hM : M ≤ 4) (hrel : Rf ts M p st on) {many : Nat} {len : Int} (hr : ∀ i k best, i < ts.length → readyP ts st i → k < M → may (tg ts i).on (k : Int) → Lst ts M (withP ts p i k) best (rec (st.set i (placeP ts st on i (k : Int))) (on.set i (k : Int)) (many + 1) (max len (placeP ts st on i (k : Int) + (tg ts i).time)) best) ∧ LB ts M (rec (st.set i (placeP ts st on i (k : Int))) (on.set i (k : Int)) (many + 1) (max len (placeP ts st on i (k : Int) + (tg ts i).time)) best) (withP ts p i k)) (best : Int) :
    ∀ n, n ≤ ts.length → Lst ts M p best (loutP rec ts M st on many len best n) ∧ ∀ i k, i < n → readyQ ts p i = true → k < M → bitI (tg ts i).on (k : Int) = 1 → LB ts M (loutP rec ts M st on many len best n) (withP ts p i k)
  | 0, _ => ⟨⟨Int.le_refl _, .inl rfl⟩, fun i k hk => by omega⟩
  | n + 1, hn => by
    obtain ⟨h1, h2⟩ := loutP_find hg hM hrel hr best n (by omega)
    rw [loutP]
    split
    · rename_i hrd
      obtain ⟨h3, h4⟩ := linP_find hg hM (show n < ts.length by omega) ((ready_iff hg hrel.1 (by omega)).2 hrd) (fun k best => hr n k best (by omega) hrd) (loutP rec ts M st on many len best n) M (Nat.le_refl _)
      refine ⟨h1.trans h3, fun i k hi hrd' hk hb => ?_⟩
      by_cases hin : i < n
      · exact (h2 i k hin hrd' hk hb).mono h3.le
      · obtain rfl : i = n := by omega
        exact h4 k hk hb
    · rename_i hrd
      refine ⟨h1, fun i k hi hrd' hk hb => ?_⟩
      by_cases hin : i < n
      · exact h2 i k hin hrd' hk hb
      · obtain rfl : i = n := by omega
        exact absurd ((ready_iff hg hrel.1 (by omega)).1 hrd') hrd
theorem lea_find (hg : AllGood M ts) (hn : ts.length ≤ 10) (hM : M ≤ 4) : ∀ f p st on many len best, Rp ts p → Rf ts M p st on → und p ts.length + many = ts.length → ts.length < f + many → p.getD 25 0 = len →
    Lst ts M p best (leaF ts M f st on many len best) ∧ LB ts M (leaF ts M f st on many len best) p
  | 0, _, _, _, _, _, _, _, _, h1, h2, _ => by omega
  | f + 1, p, st, on, many, len, best, hp, hrf, h1, h2, h3 => by
    have hle : ∀ q, Rch ts M p q → len ≤ q.getD 25 0 := fun q h => by rw [← h3]; exact rch_len hn h hp.pi.ok.len
    rw [leaF]
    split
    · rename_i hc
      exact ⟨⟨Int.le_refl _, .inl rfl⟩, fun q hq _ => Int.le_trans hc (hle q hq)⟩
    · rename_i hc
      split
      · rename_i hm
        have hf : Full ts p := und_zero hp.pi.done.1 hp.pi.d (by omega)
        exact ⟨⟨by omega, .inr ⟨p, .refl p, hf, h3⟩⟩, fun q hq _ => hle q hq⟩
      · rename_i hm
        obtain ⟨h4, h5⟩ := loutP_find (rec := leaF ts M f) (p := p) (st := st) (on := on) (many := many) (len := len) hg hM hrf (fun i k best hi hrd hk hmay => by
          have hrq := (ready_iff hg hrf.1 hi).2 hrd
          have hb := (may_bitI hg hM (by omega)).1 hmay
          have hw := hp.step hg hn hM hi hk hrq
          have he := hrf.1.earl hg hi (k := k) (by omega) hrd.2
          exact lea_find hg hn hM f (withP ts p i k) _ _ _ _ best hw.1 (hrf.step hg hn hM hi hk hrq hb) (by omega) (by omega) (by rw [with_len hp.pi.ok.len, he, h3])) best ts.length (Nat.le_refl _)
        refine ⟨h4, fun q hq hqf => ?_⟩
        cases hq with
        | refl =>
          have hz := hrf.1.full.1 hqf
          have : und p ts.length = 0 := by
            have : ∀ n, n ≤ ts.length → und p n = 0 := fun n => by
              induction n with
              | zero => intro _; rfl
              | succ n ih =>
                intro hnn
                rw [und, ih (by omega), if_neg]
                unfold undB
                rw [full_und hqf (j := n) (by omega)]
                decide
            exact this _ (Nat.le_refl _)
          omega
        | step i k hi hk hr hb hq => exact h5 i k hi hr hk hb q hq hqf
/-- the model's least length -/
theorem least_opt (hg : AllGood M ts) (hn : ts.length ≤ 10) (hM : M ≤ 4) : Opt ts M (leaF ts M (ts.length + 1) (List.replicate ts.length (-1)) (List.replicate ts.length (-1)) 0 0 1048576) := by
  obtain ⟨h1, h2⟩ := lea_find hg hn hM (ts.length + 1) zer _ _ 0 0 1048576 (Rp_zer hn) (Rf_zer hn) (by rw [und_zer]; omega) (by omega) rfl
  obtain ⟨b1, b2, b3⟩ := best_opt hg hn hM
  have h3 := h2 _ b1 b2
  have h4 := (b1.rp hg hn hM (Rp_zer hn)).pi.ok.bd 25
  rcases h1.ex with h5 | ⟨q, h5, h6, h7⟩
  · omega
  · rw [← h7] at h2 ⊢
    exact opt_of hg hn hM h5 h6 h2
end
end Go.Proofs.Ytgacbfckaglhbaa
namespace Go.Proofs.Ytgacbfckaglhbaa

section
variable {ts : List Tk} {M : Nat} {p L L' : List Int}
theorem bit_all {k : Nat} (hM : M ≤ 4) (hk : k < M) : bitI ((2 ^ M - 1 : Nat) : Int) (k : Int) = 1 := by
  have : ∀ M : Nat, M < 5 → ∀ k : Nat, k < 4 → k < M → bitI ((2 ^ M - 1 : Nat) : Int) (k : Int) = 1 := by decide +kernel
  exact this M (by omega) k (by omega) hk
theorem anot_all (hM : M ≤ 4) : W.anot ((2 ^ M - 1 : Nat) : Int) ((2 ^ M - 1 : Nat) : Int) = 0 := by
  have : ∀ M : Nat, M < 5 → W.anot ((2 ^ M - 1 : Nat) : Int) ((2 ^ M - 1 : Nat) : Int) = 0 := by decide +kernel
  exact this M (by omega)
theorem pop_all (hM : M ≤ 4) : popP (2 ^ M - 1) = M := by
  have : ∀ M : Nat, M < 5 → popP (2 ^ M - 1) = M := by decide +kernel
  exact this M (by omega)
/-- tasks that wait for none and may run on all machines -/
def FreeT (ts : List Tk) (M : Nat) : Prop := ∀ i, i < ts.length → (tg ts i).after = [] ∧ (tg ts i).on = ((2 ^ M - 1 : Nat) : Int)
theorem freeS_eq {k : Nat} {t : Int} (hM : M ≤ 4) (h : ∀ j, j < 4 → L'.getD (20 + j) 0 = if j = k then L.getD (20 + k) 0 + t else L.getD (20 + j) 0) : ∀ n, n ≤ M → freeS L' (2 ^ M - 1) n = freeS L (2 ^ M - 1) n + if k < n then t else 0
  | 0, _ => by simp [freeS]
  | n + 1, hn => by
    have ih := freeS_eq hM h n (by omega)
    have hb := bit_all hM (show n < M by omega)
    rw [freeS, freeS, if_pos hb, if_pos hb, ih, h n (by omega)]
    by_cases hnk : n = k
    · subst hnk; rw [if_pos rfl, if_neg (by omega), if_pos (by omega)]; omega
    · rw [if_neg hnk]
      by_cases hk : k < n
      · rw [if_pos hk, if_pos (by omega)]; omega
      · rw [if_neg hk, if_neg (by omega)]; omega
theorem freeS_min {m : Int} (hM : M ≤ 4) (h : ∀ j, j < M → m ≤ L.getD (20 + j) 0) : ∀ n, n ≤ M → n * m ≤ freeS L (2 ^ M - 1) n
  | 0, _ => by simp [freeS]
  | n + 1, hn => by
    have ih := freeS_min hM h n (by omega)
    have := h n (by omega)
    rw [freeS, if_pos (bit_all hM (by omega))]
    have : ((n + 1 : Nat) : Int) * m = n * m + m := by rw [Int.natCast_add, Int.add_mul]; simp
    omega
theorem timeS_eq {i : Nat} {on : Nat} (ha : ∀ j, j < ts.length → W.anot (tg ts j).on on = 0) (hi : bitI (L.getD 24 0) (i : Int) = 0) (hu : ∀ j : Nat, bitI (L'.getD 24 0) (j : Int) = 0 ↔ bitI (L.getD 24 0) (j : Int) = 0 ∧ i ≠ j) : ∀ n, n ≤ ts.length → timeS ts L' on n + (if i < n then (tg ts i).time else 0) = timeS ts L on n
  | 0, _ => by simp [timeS]
  | n + 1, hn => by
    have ih := timeS_eq ha hi hu n (by omega)
    rw [timeS, timeS]
    have han := ha n (by omega)
    by_cases hin : i = n
    · subst hin
      rw [if_neg (by omega)] at ih
      rw [if_neg (fun hc => ((hu i).1 hc.1).2 rfl), if_pos (show bitI (L.getD 24 0) (i : Int) = 0 ∧ W.anot (tg ts i).on on = 0 from ⟨hi, han⟩), if_pos (by omega)]; omega
    · have e2 : (bitI (L'.getD 24 0) (n : Int) = 0 ∧ W.anot (tg ts n).on on = 0) ↔ (bitI (L.getD 24 0) (n : Int) = 0 ∧ W.anot (tg ts n).on on = 0) := by
        rw [hu n]; simp [hin]
      simp only [e2]
      by_cases hl : i < n
      · rw [if_pos hl] at ih; rw [if_pos (show i < n + 1 by omega)]; split <;> omega
      · rw [if_neg hl] at ih; rw [if_neg (show ¬ i < n + 1 by omega)]; split <;> omega
theorem bestQ_min {i : Nat} : ∀ {n : Nat}, ∀ k : Nat, k < n → may (tg ts i).on (k : Int) → earlP ts p i (bestQ ts p i n).toNat ≤ earlP ts p i k
  | n + 1, k, hk, hm => by
    rw [bestQ]
    by_cases hkn : k < n
    · have ih := bestQ_min k hkn hm
      have hp := bestQ_pos (ts := ts) (L := p) (i := i) (n := n) ⟨k, hkn, hm⟩
      split
      · rename_i hc
        rw [Int.toNat_natCast]
        rcases hc.2 with h | h <;> omega
      · exact ih
    · obtain rfl : k = n := by omega
      split
      · rw [Int.toNat_natCast]; exact Int.le_refl _
      · rename_i hc
        apply Int.not_lt.1
        intro h; exact hc ⟨hm, .inr h⟩
structure GrI (ts : List Tk) (M : Nat) (B : Int) (p : List Int) : Prop where
  s : freeS p (2 ^ M - 1) M + timeS ts p (2 ^ M - 1) ts.length = timeS ts zer (2 ^ M - 1) ts.length
  l : M * p.getD 25 0 ≤ freeS p (2 ^ M - 1) M + (M - 1) * B
theorem GrI.step (hg : AllGood M ts) (hn : ts.length ≤ 10) (hM1 : 1 ≤ M) (hM : M ≤ 3) (hft : FreeT ts M) {B : Int} (hB : ∀ i, i < ts.length → (tg ts i).time ≤ B) (hp : Rp ts p) (h : GrI ts M B p) {i k : Nat} (hi : i < ts.length) (hk : k < M) (hr : readyQ ts p i = true) (hmin : ∀ j, j < M → p.getD (20 + k) 0 ≤ p.getD (20 + j) 0) : GrI ts M B (withP ts p i k) := by
  have hl := hp.pi.ok.len
  have ht := hB i hi
  have ht1 := (hg i hi).t1
  have he : earlP ts p i k = p.getD (20 + k) 0 := by rw [earlP, (hft i hi).1]; rfl
  have hu := ready_und hr
  have hub : bitI (p.getD 24 0) (i : Int) = 0 := by unfold undB at hu; simpa using hu
  have hf := freeS_eq (L := p) (L' := withP ts p i k) (k := k) (t := (tg ts i).time) (by omega) (fun j hj => by rw [with_fr hl (by omega) (by omega) j hj, he]) M (Nat.le_refl _)
  rw [if_pos hk] at hf
  have hts := timeS_eq (ts := ts) (L := p) (L' := withP ts p i k) (on := 2 ^ M - 1) (i := i) (fun j hj => by rw [(hft j hj).2]; exact anot_all (by omega)) hub (fun j => by
    have := undB_with (ts := ts) (p := p) (i := i) (k := k) hl hp.pi.done.1 j
    unfold undB at this
    have h2 : (bitI ((withP ts p i k).getD 24 0) (j : Int) = 0) ↔ decide (bitI ((withP ts p i k).getD 24 0) (j : Int) = 0) = true := by simp
    rw [h2, this]; simp) ts.length (Nat.le_refl _)
  rw [if_pos hi] at hts
  have hmn := freeS_min (L := p) (m := p.getD (20 + k) 0) (by omega) hmin M (Nat.le_refl _)
  have h1 := h.s
  have h2 := h.l
  refine ⟨by omega, ?_⟩
  rw [with_len hl, he, hf]
  generalize freeS p (2 ^ M - 1) M = S at *
  generalize p.getD (20 + k) 0 = f at *
  generalize p.getD 25 0 = ln at *
  generalize (tg ts i).time = t at *
  have : M = 1 ∨ M = 2 ∨ M = 3 := by omega
  rcases this with rfl | rfl | rfl <;> simp at h2 hmn ⊢ <;> omega
theorem GrI.list (hg : AllGood M ts) (hn : ts.length ≤ 10) (hM1 : 1 ≤ M) (hM : M ≤ 3) (hft : FreeT ts M) {B : Int} (hB0 : 0 ≤ B) (hB : ∀ i, i < ts.length → (tg ts i).time ≤ B) {o : List Int} : ∀ j, okOrder ts M o j → GrI ts M B (lisN ts M o j)
  | 0, _ => by
    have hz : freeS zer (2 ^ M - 1) M = 0 := by
      have : M = 1 ∨ M = 2 ∨ M = 3 := by omega
      rcases this with rfl | rfl | rfl <;> decide +kernel
    refine ⟨?_, ?_⟩
    · show freeS zer _ M + _ = _
      rw [hz, Int.zero_add]; rfl
    · show (M : Int) * zer.getD 25 0 ≤ freeS zer _ M + _
      rw [hz, show zer.getD 25 0 = 0 from rfl]
      have : M = 1 ∨ M = 2 ∨ M = 3 := by omega
      rcases this with rfl | rfl | rfl <;> simp <;> omega
  | j + 1, h => by
    have hj : okOrder ts M o j := fun q hq => h q (by omega)
    have ih := GrI.list hg hn hM1 hM hft hB0 hB j hj
    obtain ⟨h1, h2, h3⟩ := h j (by omega)
    have hr := lis_lst hg (by omega) hn j hj
    have hi : (o.getD j 0).toNat < ts.length := by omega
    have gi := hg _ hi
    have hp := (lis_rch hg hn (by omega) j hj).rp hg hn (by omega) (Rp_zer hn)
    have hb0 := bestQ_pos (ts := ts) (L := lisN ts M o j) (i := (o.getD j 0).toNat) (n := M) (good_may (by omega) gi.o1 gi.o2)
    have hbb := bestQ_bd (ts := ts) (L := lisN ts M o j) (i := (o.getD j 0).toNat) M
    refine GrI.step hg hn hM1 hM hft hB hp ih hi ?_ ((ready_iff hg hr hi).2 h3) fun k hk => ?_
    · omega
    · have hm := bestQ_min (ts := ts) (p := lisN ts M o j) (i := (o.getD j 0).toNat) (n := M) k hk ((may_bitI hg (by omega) (by omega)).2 (by rw [(hft _ hi).2]; exact bit_all (by omega) hk))
      have e : ∀ k, earlP ts (lisN ts M o j) (o.getD j 0).toNat k = (lisN ts M o j).getD (20 + k) 0 := fun k => by rw [earlP, (hft _ hi).1]; rfl
      rw [e, e] at hm; exact hm
end
end Go.Proofs.Ytgacbfckaglhbaa
namespace Go.Proofs.Ytgacbfckaglhbaa

section
variable {ts : List Tk} {M : Nat} {p st on : List Int}
theorem load_feas (hg : AllGood M ts) (hn : ts.length ≤ 10) (hM : M ≤ 4) {x : Nat} (h1 : 1 ≤ x) (h2 : x < 16) (hf : Feas ts M st on) : loadP ts M zer x ≤ lenP ts st := LB.feas hg hn hM (load_LB hg hn hM h1 h2 (Rp_zer hn)) hf
theorem freeS_zer {x : Nat} : ∀ n, n ≤ 4 → freeS zer x n = 0
  | 0, _ => rfl
  | n + 1, hn => by
    rw [freeS, freeS_zer n (by omega)]
    have : zer.getD (20 + n) 0 = 0 := by simp only [List.getD_eq_getElem?_getD, List.getElem?_replicate]; split <;> simp
    rw [this]; simp
/-- the sum of the first n times -/
def sumA (ts : List Tk) : Nat → Int
  | 0 => 0
  | n + 1 => sumA ts n + (tg ts n).time
theorem timeS_zer {x : Nat} (ha : ∀ j, j < ts.length → W.anot (tg ts j).on x = 0) : ∀ n, n ≤ ts.length → timeS ts zer x n = sumA ts n
  | 0, _ => rfl
  | n + 1, hn => by
    have h0 : bitI (zer.getD 24 0) (n : Int) = 0 := by
      rw [show zer.getD 24 0 = 0 from rfl]; unfold bitI; simp
    rw [timeS, sumA, if_pos ⟨h0, ha n (by omega)⟩, timeS_zer ha n (by omega)]
theorem graham (hg : AllGood M ts) (hn : ts.length ≤ 10) (hM1 : 1 ≤ M) (hM : M ≤ 3) (hft : FreeT ts M) {n x : Int} (hopt : Opt ts M n) {o : List Int} (hl : o.length = ts.length) (hok : okOrder ts M o ts.length) (hx : (lstN ts M o ts.length).2.2 = x) : M * x ≤ (2 * M - 1) * n := by
  obtain ⟨st, on, _, _, hf, hlen⟩ := hopt.ex
  have hB : ∀ i, i < ts.length → (tg ts i).time ≤ n := fun i hi => by
    have := lenN_ub (ts := ts) (st := st) hi
    have h0 := (hf.1 i hi).1.1
    have : lenN ts st ts.length = n := hlen
    omega
  have hn0 : 0 ≤ n := by rw [← hlen]; exact lenN_nonneg _
  have h1 := GrI.list hg hn hM1 hM hft hn0 hB ts.length hok
  have h2 := lis_full hg hn (show M ≤ 4 by omega) hl hok
  have h3 := lis_lst hg (show M ≤ 4 by omega) hn ts.length hok
  have h4 := h1.s
  have h5 := h1.l
  rw [timeS_full h2 _ (Nat.le_refl _)] at h4
  rw [h3.len, hx] at h5
  have h6 : 2 ^ M ≤ 16 := by have := Nat.pow_le_pow_right (show 0 < 2 by decide) (show M ≤ 4 by omega); omega
  have h6' : 2 ^ 1 ≤ 2 ^ M := Nat.pow_le_pow_right (by decide) hM1
  have h7 := load_feas hg hn (show M ≤ 4 by omega) (x := 2 ^ M - 1) (by omega) (by omega) hf
  rw [hlen] at h7
  unfold loadP at h7
  rw [pop_all (by omega), freeS_zer M (by omega), ← h4] at h7
  generalize freeS (lisN ts M o ts.length) (2 ^ M - 1) M = S at *
  have : M = 1 ∨ M = 2 ∨ M = 3 := by omega
  rcases this with rfl | rfl | rfl <;> simp at h5 h7 ⊢ <;> omega

/-! ## one machine -/
theorem sumA_step {i k : Nat} (hg : AllGood M ts) (h : k < i) (hi : i ≤ ts.length) : sumA ts k + (tg ts k).time ≤ sumA ts i := by
  induction i with
  | zero => omega
  | succ i ih =>
    rw [sumA]
    by_cases hk : k < i
    · have := ih hk (by omega); have := good_time hg i; omega
    · obtain rfl : k = i := by omega
      exact Int.le_refl _
theorem sumA_bd (hg : AllGood M ts) : ∀ i, 0 ≤ sumA ts i ∧ sumA ts i ≤ 20 * i
  | 0 => by simp [sumA]
  | i + 1 => by have := sumA_bd hg i; have := good_time hg i; rw [sumA]; omega
theorem getD_mapR {n i : Nat} {f : Nat → Int} (hi : i < n) : ((List.range n).map f).getD i 0 = f i := by simp [List.getD_eq_getElem?_getD, hi]
theorem one_opt (hg : AllGood 1 ts) (hn : ts.length ≤ 10) {n : Int} (hopt : Opt ts 1 n) : n = sumA ts ts.length := by
  have hon : ∀ i, i < ts.length → (tg ts i).on = 1 := fun i hi => by have := (hg i hi).o1; have := (hg i hi).o2; omega
  apply Int.le_antisymm
  · have hf : Feas ts 1 ((List.range ts.length).map fun i => sumA ts i) (List.replicate ts.length 0) := by
      have ho : ∀ i, i < ts.length → (List.replicate ts.length (0 : Int)).getD i 0 = 0 := fun i hi => by simp [hi]
      refine ⟨fun i hi => ?_, fun i hi k hk => ?_⟩
      · unfold okTask
        rw [getD_mapR hi, ho i hi, hon i hi]
        have := sumA_bd hg i
        exact ⟨by omega, by decide, by decide⟩
      · unfold pairOK
        rw [getD_mapR hi, getD_mapR hk]
        have ti := (hg i hi).t1
        refine ⟨fun hc => ?_, fun hc => ?_⟩
        · have := sumA_step hg (after_lt hg hi hc.1) (by omega); omega
        · by_cases hki : k < i
          · have := sumA_step hg hki (by omega); omega
          · have := sumA_step hg (show i < k by omega) (by omega); omega
    have h1 := hopt.lb _ _ hf
    refine Int.le_trans h1 (lenN_lub (sumA_bd hg _).1 fun j hj => ?_)
    rw [getD_mapR hj]; exact sumA_step hg hj (Nat.le_refl _)
  · obtain ⟨st, on, _, _, hf, hlen⟩ := hopt.ex
    have h1 := load_feas hg hn (by decide) (x := 1) (by decide) (by decide) hf
    rw [hlen] at h1
    unfold loadP at h1
    rw [freeS_zer 1 (by decide), timeS_zer (fun j hj => by rw [hon j hj]; decide +kernel) _ (Nat.le_refl _), show popP 1 = 1 from rfl] at h1
    simp at h1; omega

/-! ## machines of their own -/
def atE (E l : List Int) : Nat → Int
  | 0 => 0
  | k + 1 => max (atE E l k) (E.getD (l.getD k 0).toNat 0)
def endE (ts : List Tk) : Nat → List Int
  | 0 => []
  | i + 1 => endE ts i ++ [atE (endE ts i) (tg ts i).after (tg ts i).after.length + (tg ts i).time]
def mostE (ts : List Tk) : Nat → Int
  | 0 => 0
  | i + 1 => max (mostE ts i) (atE (endE ts i) (tg ts i).after (tg ts i).after.length + (tg ts i).time)
theorem endE_len : ∀ i, (endE ts i).length = i
  | 0 => rfl
  | i + 1 => by simp [endE, endE_len i]
theorem endE_get {j : Nat} : ∀ {i : Nat}, j < i → (endE ts i).getD j 0 = atE (endE ts j) (tg ts j).after (tg ts j).after.length + (tg ts j).time
  | i + 1, h => by
    have hl := endE_len (ts := ts) i
    by_cases hj : j < i
    · rw [endE, ← endE_get hj]
      simp [List.getD_eq_getElem?_getD, List.getElem?_append_left (show j < (endE ts i).length by omega)]
    · obtain rfl : j = i := by omega
      simp [endE, List.getD_eq_getElem?_getD, List.getElem?_append_right, hl]
theorem endE_eq {i j : Nat} (h : j < i) : (endE ts i).getD j 0 = (endE ts (j + 1)).getD j 0 := by rw [endE_get h, endE_get (Nat.lt_succ_self j)]
theorem atE_ub {E l : List Int} {q : Nat} : ∀ {k : Nat}, q < k → E.getD (l.getD q 0).toNat 0 ≤ atE E l k
  | k + 1, h => by
    by_cases hq : q < k
    · have := atE_ub (E := E) (l := l) hq; rw [atE]; omega
    · obtain rfl : q = k := by omega
      rw [atE]; omega
theorem atE_lub {E l : List Int} {B : Int} (hB : 0 ≤ B) : ∀ {k : Nat}, (∀ q, q < k → E.getD (l.getD q 0).toNat 0 ≤ B) → atE E l k ≤ B
  | 0, _ => hB
  | k + 1, h => by have := atE_lub hB (k := k) fun q hq => h q (by omega); have := h k (by omega); rw [atE]; omega
theorem atE_0 {E l : List Int} : ∀ k, 0 ≤ atE E l k
  | 0 => Int.le_refl _
  | k + 1 => by have := atE_0 (E := E) (l := l) k; rw [atE]; omega
theorem mostE_ub {j : Nat} : ∀ {i : Nat}, j < i → (endE ts (j + 1)).getD j 0 ≤ mostE ts i
  | i + 1, h => by
    by_cases hj : j < i
    · have := mostE_ub hj; rw [mostE]; omega
    · obtain rfl : j = i := by omega
      rw [endE_get (Nat.lt_succ_self j), mostE]; omega
theorem mostE_lub {B : Int} (hB : 0 ≤ B) : ∀ {i : Nat}, (∀ j, j < i → (endE ts (j + 1)).getD j 0 ≤ B) → mostE ts i ≤ B
  | 0, _ => hB
  | i + 1, h => by
    have h1 := mostE_lub hB (i := i) fun j hj => h j (by omega)
    have h2 := h i (by omega)
    rw [endE_get (Nat.lt_succ_self i)] at h2
    rw [mostE]; omega
theorem mostE_0 : ∀ i, 0 ≤ mostE ts i
  | 0 => Int.le_refl _
  | i + 1 => by have := mostE_0 i; rw [mostE]; omega
theorem own_opt (hg : AllGood 4 ts) (hn : ts.length ≤ 4) (hon : ∀ i, i < ts.length → (tg ts i).on = ((2 ^ i : Nat) : Int)) {n : Int} (hopt : Opt ts 4 n) : n = mostE ts ts.length := by
  have hbd : ∀ i, i ≤ ts.length → ∀ j, j < i → (endE ts (j + 1)).getD j 0 ≤ 20 * (j + 1) := fun i => by
    induction i with
    | zero => intro _ j hj; omega
    | succ i ih =>
      intro hi j hj
      by_cases hji : j < i
      · exact ih (by omega) j hji
      · obtain rfl : j = i := by omega
        rw [endE_get (Nat.lt_succ_self j)]
        have ht := good_time hg j
        have : atE (endE ts j) (tg ts j).after (tg ts j).after.length ≤ 20 * j := atE_lub (by omega) fun q hq => by
          have ha := good_after hg (show j < ts.length by omega) q hq
          rw [endE_eq (by omega)]
          have := ih (by omega) ((tg ts j).after.getD q 0).toNat (by omega)
          omega
        omega
  apply Int.le_antisymm
  · have hmay : ∀ i, i < ts.length → may (tg ts i).on (i : Int) := fun i hi => by
      rw [hon i hi]
      refine ⟨by omega, by omega, ?_⟩
      rw [Int.toNat_natCast, Int.toNat_natCast, Nat.testBit_two_pow]; simp
    have hst : ∀ i, i < ts.length → ((List.range ts.length).map fun i => (endE ts (i + 1)).getD i 0 - (tg ts i).time).getD i 0 = (endE ts (i + 1)).getD i 0 - (tg ts i).time := fun i hi => getD_mapR hi
    have hoi : ∀ i, i < ts.length → ((List.range ts.length).map fun (i : Nat) => (i : Int)).getD i 0 = (i : Int) := fun i hi => getD_mapR hi
    have hf : Feas ts 4 ((List.range ts.length).map fun i => (endE ts (i + 1)).getD i 0 - (tg ts i).time) ((List.range ts.length).map fun (i : Nat) => (i : Int)) := by
      refine ⟨fun i hi => ?_, fun i hi k hk => ⟨fun hc => ?_, fun hc => ?_⟩⟩
      · unfold okTask
        rw [hst i hi, hoi i hi]
        have h1 := hbd ts.length (Nat.le_refl _) i hi
        have h2 := atE_0 (E := endE ts i) (l := (tg ts i).after) (tg ts i).after.length
        have ht := good_time hg i
        rw [endE_get (Nat.lt_succ_self i)] at h1 ⊢
        exact ⟨by omega, hmay i hi, by omega⟩
      · rw [hst i hi, hst k hk] at hc
        obtain ⟨hm, hlt⟩ := hc
        obtain ⟨q, hq, he⟩ := after_mem hm
        have h1 := atE_ub (E := endE ts i) (l := (tg ts i).after) hq
        rw [he, Int.toNat_natCast, endE_eq (after_lt hg hi hm)] at h1
        rw [endE_get (Nat.lt_succ_self i)] at hlt
        omega
      · rw [hoi i hi, hoi k hk] at hc; omega
    have h1 := hopt.lb _ _ hf
    refine Int.le_trans h1 (lenN_lub (mostE_0 _) fun j hj => ?_)
    rw [hst j hj]
    have := mostE_ub (ts := ts) hj
    omega
  · obtain ⟨st, on, _, _, hf, hlen⟩ := hopt.ex
    have hle : ∀ i, i ≤ ts.length → ∀ j, j < i → (endE ts (j + 1)).getD j 0 ≤ st.getD j 0 + (tg ts j).time := fun i => by
      induction i with
      | zero => intro _ j hj; omega
      | succ i ih =>
        intro hi j hj
        by_cases hji : j < i
        · exact ih (by omega) j hji
        · obtain rfl : j = i := by omega
          rw [endE_get (Nat.lt_succ_self j)]
          have : atE (endE ts j) (tg ts j).after (tg ts j).after.length ≤ st.getD j 0 := atE_lub (hf.1 j (by omega)).1.1 fun q hq => by
            have ha := good_after hg (show j < ts.length by omega) q hq
            rw [endE_eq (by omega)]
            have h1 := ih (by omega) ((tg ts j).after.getD q 0).toNat (by omega)
            have h2 := Int.not_lt.1 fun h => (hf.2 j (by omega) ((tg ts j).after.getD q 0).toNat (by omega)).1 ⟨by rw [Int.toNat_of_nonneg ha.1]; exact mem_after hq, h⟩
            omega
          omega
    have hn0 : 0 ≤ n := by rw [← hlen]; exact lenN_nonneg _
    refine mostE_lub hn0 fun j hj => ?_
    have h1 := hle ts.length (Nat.le_refl _) j hj
    have h2 := lenN_ub (ts := ts) (st := st) hj
    have : lenN ts st ts.length = n := hlen
    omega
end
end Go.Proofs.Ytgacbfckaglhbaa
namespace Go.Proofs.Ytgacbfckaglhbaa
open W Go.RowKit
def orJ (i j : Int) : Int := IntKind.i64.wrap (BitVec.ofInt 64 i ||| BitVec.ofInt 64 j).toNat
theorem YO.orJ {P : Program} {e : Env} {bx : List Ow} {F : List Fct} {ty t t' : TypeId} {x y : Operand} {i j : Int} (hx : ev e x = some (.int .i64 i)) (hy : ev e y = some (.int .i64 j)) : YO P (.binOp .or t x y t') ty e bx F (.int .i64 (orJ i j)) :=
  YO.bits hx hy fun w => by
    simp only [binOp, Op.intBits]
    simp [orJ]
    rfl
theorem orJ_anot {i : Int} {x : Nat} (h0 : 0 ≤ i) (h1 : i < 16) (hx : x < 16) : orJ i x = x ↔ anot i x = 0 := by
  have : ∀ a : Nat, a < 16 → ∀ b : Nat, b < 16 → (orJ a b = b ↔ anot a b = 0) := by decide +kernel
  have h := this i.toNat (by omega) x hx
  rwa [Int.toNat_of_nonneg h0] at h
theorem cnt4 {x : Nat} (hx : x < 16) : cnt x 4 = popP x := (by decide +kernel : ∀ x : Nat, x < 16 → cnt x 4 = popP x) x hx
theorem cnt_bd {x : Nat} : ∀ k, 0 ≤ cnt x k ∧ cnt x k ≤ k
  | 0 => by simp [cnt]
  | k + 1 => by have := cnt_bd (x := x) k; have := bit_01 x (k : Int); rw [cnt]; omega
/-- what Load answers -/
def IsLd (ts : List Tk) (x : Nat) : RPost := fun u b G => ∃ z : Int, u = .int .i64 z ∧ b = [] ∧ G = [] ∧ ∀ M : Nat, AllGood M ts → ts.length ≤ 10 → M ≤ 4 → z = loadP ts M zer x
namespace Ldn
attribute [local irreducible] WC WL WD YO LO LoopEnd W.Fin Scalar SliceT FieldAt Row ArrT AllocT KnS Has W.One SrcE IntT
theorem goB {G G' : Prop} (h : G') (s : Bx G' → G := by
  intro h
  first
    | (apply WL.k_or; (apply YO.orJ; exact rfl; exact rfl); exact rfl; exact rfl)
  exact Bx.h h) : G := s ⟨h⟩
set_option maxHeartbeats 4000000 in
set_option maxRecDepth 8000 in
theorem rload_c (v : Value) (avs : List Value) (ts : List Tk) (x : Nat) (h1 : 1 ≤ x) (h2 : x < 16) : FnB Try.prog 29 [v, .int .i64 x] [] [sT v avs ts, sA avs ts] (IsLd ts x) := by
  refine fn_of [(0, v), (1, .int .i64 x)] 48 Try.func29 rfl Try.ntmps29 (by kernel_rfl) rfl (by repeat (first | exact Sub.nil _ | refine Sub.cons rfl ?_)) fun h0 => ?_
  have hpop := popP_bd h1 h2
  have hc4 := cnt4 h2
  refine WC.lenF (v := v) (m := ts.length) (show Has _ (sT v avs ts) from (Has.mem (by (repeat (first | exact List.Mem.head _ | apply List.Mem.tail)); done))) fun hlen => ?_
  repeat' (first | refine go ?_ | refine goX ?_ | refine goB ?_ | (refine goG ?_; intro g) | (refine goV ?_; intro v))
  refine WC.lp (σ := Nat × Int) (fun s => [(6, .int .i64 (s.1 : Int)), (5, .int .i64 s.2), (0, v), (1, .int .i64 x)]) (fun _ => []) (fun _ => [ge h0, sT v avs ts, sA avs ts]) (fun s => s.1 ≤ ts.length ∧ ∀ M : Nat, AllGood M ts → ts.length ≤ 10 → M ≤ 4 → s.2 = timeS ts zer x s.1) (fun s => ts.length - s.1) (0, 0) ⟨by simp, fun _ _ _ _ => rfl⟩ ?_
  rintro ⟨i, si⟩ ⟨hi, hsum⟩
  simp only at hi hsum ⊢
  by_cases hlt : i < ts.length
  · have h0z : bitI (zer.getD 24 0) (i : Int) = 0 := by
      rw [show zer.getD 24 0 = 0 from rfl]; unfold bitI; simp
    have es : timeS ts zer x (i + 1) = if bitI (zer.getD 24 0) (i : Int) = 0 ∧ anot (tg ts i).on x = 0 then timeS ts zer x i + (tg ts i).time else timeS ts zer x i := rfl
    by_cases c : orJ (tg ts i).on x = (x : Int)
    · have hnew : ∀ M : Nat, AllGood M ts → ts.length ≤ 10 → M ≤ 4 → IntKind.i64.wrap (si + (tg ts i).time) = timeS ts zer x (i + 1) := fun M hg hn hM => by
        have ho := good_on hg hM i
        have hb := timeS_bd (L := zer) (on := x) (good_time hg) i
        have ht := good_time hg i
        have hs := hsum M hg hn hM
        rw [es, if_pos ⟨h0z, (orJ_anot ho.1 ho.2 h2).1 c⟩, wrap_i64 (by omega) (by omega)]; omega
      repeat' (first | refine go ?_ | refine goX ?_ | refine goB ?_ | (refine goG ?_; intro g) | (refine goV ?_; intro v))
      (apply WL.k_add; (apply YO.wadd; exact rfl; exact rfl); exact rfl; exact rfl)
      repeat' (first | refine go ?_ | refine goX ?_ | refine goB ?_ | (refine goG ?_; intro g) | (refine goV ?_; intro v))
      exact LoopEnd.mk (i + 1, _) ⟨by show i + 1 ≤ ts.length; omega, hnew⟩ (by show ts.length - (i + 1) < ts.length - i; omega)
    · have hnew : ∀ M : Nat, AllGood M ts → ts.length ≤ 10 → M ≤ 4 → si = timeS ts zer x (i + 1) := fun M hg hn hM => by
        have ho := good_on hg hM i
        rw [es, if_neg fun h => c ((orJ_anot ho.1 ho.2 h2).2 h.2)]; exact hsum M hg hn hM
      repeat' (first | refine go ?_ | refine goX ?_ | refine goB ?_ | (refine goG ?_; intro g) | (refine goV ?_; intro v))
      exact LoopEnd.mk (i + 1, si) ⟨by show i + 1 ≤ ts.length; omega, hnew⟩ (by show ts.length - (i + 1) < ts.length - i; omega)
  · obtain rfl : i = ts.length := by omega
    repeat' (first | refine go ?_ | refine goX ?_ | refine goB ?_ | (refine goG ?_; intro g) | (refine goV ?_; intro v))
    refine WC.lp (σ := Nat) (fun k => [(8, .int .i64 (k : Int)), (7, .int .i64 (cnt x k)), (5, .int .i64 si), (1, .int .i64 x)]) (fun _ => []) (fun _ => [ge h0]) (fun k => k ≤ 4) (fun k => 4 - k) 0 (by simp) ?_
    rintro k hk
    have hcb := cnt_bd (x := x) k
    have ec : cnt x (k + 1) = cnt x k + (x : Int) / 2 ^ ((k : Int)).toNat % 2 := rfl
    by_cases hk4 : k < 4
    · have hd := div_bd (o := (x : Int)) ((k : Int)).toNat (by omega)
      repeat' (first | refine go ?_ | refine goX ?_ | refine goB ?_ | (refine goG ?_; intro g) | (refine goV ?_; intro v))
      exact LoopEnd.mk (k + 1) (by omega) (by omega) (by rw [ec]; exact (by repeat (first | exact Sub.nil _ | refine Sub.cons rfl ?_)))
    · obtain rfl : k = 4 := by omega
      rw [hc4]
      repeat' (first | refine go ?_ | refine goX ?_ | refine goB ?_ | (refine goG ?_; intro g) | (refine goV ?_; intro v))
      (apply WL.k_add; (apply YO.wadd; exact rfl; exact rfl); exact rfl; exact rfl)
      (apply WL.k_sub; (apply YO.wsub; exact rfl; exact rfl); exact rfl; exact rfl)
      repeat' (first | refine go ?_ | refine goX ?_ | refine goB ?_ | (refine goG ?_; intro g) | (refine goV ?_; intro v))
      (apply WL.k_quo; (apply YO.tquo; exact rfl; exact rfl; omega); exact rfl; exact rfl)
      repeat' (first | refine go ?_ | refine goX ?_ | refine goB ?_ | (refine goG ?_; intro g) | (refine goV ?_; intro v))
      refine WC.ret ?_
      exact Fin.p [] [] (ResE.t1 rfl rfl) (by (repeat (first | exact List.Mem.head _ | apply List.Mem.tail)); done) (List.nil_sublist _) .nil ⟨_, rfl, rfl, rfl, fun M hg hn hM => by
        have hb := timeS_bd (L := zer) (on := x) (good_time hg) ts.length
        have hs := hsum M hg hn hM
        unfold loadP
        rw [freeS_zer M hM, Int.zero_add, ← hs]
        rw [← hs] at hb
        generalize popP x = p at *
        rw [wrap_i64 (n := si + p) (by omega) (by omega), wrap_i64 (n := si + p - 1) (by omega) (by omega), Int.tdiv_eq_ediv_of_nonneg (by omega)]
        have h3 : 0 ≤ (si + p - 1) / p := Int.ediv_nonneg (by omega) (by omega)
        have h4 : (si + p - 1) / p ≤ si + p - 1 := Int.ediv_le_self _ (by omega)
        rw [wrap_i64 (by omega) (by omega)]⟩
end Ldn
end Go.Proofs.Ytgacbfckaglhbaa
namespace Go.Proofs.Ytgacbfckaglhbaa
open W Go.RowKit
attribute [local irreducible] WC WL WD YO LO LoopEnd W.Fin Scalar SliceT FieldAt Row ArrT AllocT KnS Has W.One SrcE IntT
set_option maxHeartbeats 4000000 in
set_option maxRecDepth 8000 in
theorem shows_c (v cv : Value) (avs : List Value) (ts : List Tk) (m on n : Int) (c : List Int) (hcl : c.length ≤ 1000) :
    FnB Try.prog 31 [v, .int .i64 m, cv, .int .i64 on, .int .i64 n] [] [sT v avs ts, sA avs ts, sI cv c] (IsV (.int .i64 (showP ts m c on n))) := by
  refine fn_of [(0, v), (1, .int .i64 m), (2, cv), (3, .int .i64 on), (4, .int .i64 n)] 56 Try.func31 rfl Try.ntmps31 (by kernel_rfl) rfl (by repeat (first | exact Sub.nil _ | refine Sub.cons rfl ?_)) fun h0 => ?_
  repeat' (first | refine go ?_ | refine goX ?_ | refine goB ?_ | (refine goG ?_; intro g) | (refine goV ?_; intro v))
  first | refine WL.callV (rvalid_c v avs ts m) ?_ | refine WD.callV (rvalid_c v avs ts m) ?_
  by_cases h : validE ts m = 0
  · obtain ⟨hl, M, rfl, hM1, hM4, hg⟩ := validE_0 h
    rw [h]
    have hp := pow_16 (M := M) (by omega)
    have hp1 := pow_1 M
    have e5 := pow_e M
    have c5 : (1 : Int) * 2 ^ ((M : Int)).toNat ≤ 9223372036854775807 := by rw [e5]; omega
    have c6 : 0 ≤ (1 : Int) * 2 ^ ((M : Int)).toNat := by rw [e5]; omega
    by_cases ho : on = 0
    · have hno : ¬ (lnk ts c c.length ∧ sumT ts c c.length = n) → showP ts M c on n = 22 := showP_no h ho
      repeat' (first | refine go ?_ | refine goX ?_ | refine goB ?_ | (refine goG ?_; intro g) | (refine goV ?_; intro v))
      refine WL.callG [] _ (.refl _) (time_c v cv avs ts c) ?_
      rintro _ _ _ ⟨z, q, rfl, rfl, rfl, hq1, hq2, hq3⟩
      simp only [List.nil_append]
      cases q with
      | false =>
        repeat' (first | refine go ?_ | refine goX ?_ | refine goB ?_ | (refine goG ?_; intro g) | (refine goV ?_; intro v))
        refine WC.ret ?_
        exact Fin.v (ResE.t1 rfl rfl) (by (repeat (first | exact List.Mem.head _ | apply List.Mem.tail)); done) (by rw [hno]; intro hc; have := hq1.2 hc.1; cases this)
      | true =>
        have hz := hq3 rfl (good_time hg) hcl
        by_cases hn : z = n
        · repeat' (first | refine go ?_ | refine goX ?_ | refine goB ?_ | (refine goG ?_; intro g) | (refine goV ?_; intro v))
          refine WC.ret ?_
          exact Fin.v (ResE.t1 rfl rfl) (by (repeat (first | exact List.Mem.head _ | apply List.Mem.tail)); done) (by rw [showP_ok h ho (hq1.1 rfl) (by rw [← hz, hn])])
        · repeat' (first | refine go ?_ | refine goX ?_ | refine goB ?_ | (refine goG ?_; intro g) | (refine goV ?_; intro v))
          refine WC.ret ?_
          exact Fin.v (ResE.t1 rfl rfl) (by (repeat (first | exact List.Mem.head _ | apply List.Mem.tail)); done) (by rw [hno]; intro hc; exact hn (by rw [hz]; exact hc.2))
    · have hsh := showP_set (c := c) (n := n) h ho
      by_cases hc : 0 < c.length
      · rw [if_neg (by omega)] at hsh
        repeat' (first | refine go ?_ | refine goX ?_ | refine goB ?_ | (refine goG ?_; intro g) | (refine goV ?_; intro v))
        refine WC.ret ?_
        exact Fin.v (ResE.t1 rfl rfl) (by (repeat (first | exact List.Mem.head _ | apply List.Mem.tail)); done) (by rw [hsh])
      by_cases h0n : on < 0
      · rw [if_neg (by omega)] at hsh
        repeat' (first | refine go ?_ | refine goX ?_ | refine goB ?_ | (refine goG ?_; intro g) | (refine goV ?_; intro v))
        refine WC.ret ?_
        exact Fin.v (ResE.t1 rfl rfl) (by (repeat (first | exact List.Mem.head _ | apply List.Mem.tail)); done) (by rw [hsh])
      obtain ⟨o, rfl⟩ : ∃ o : Nat, on = o := ⟨on.toNat, by omega⟩
      rw [show (o : Int).toNat = o from rfl] at hsh
      by_cases h1n : 1 * 2 ^ ((M : Int)).toNat ≤ (o : Int)
      · rw [if_neg (fun hc => by rw [e5] at h1n; omega)] at hsh
        repeat' (first | refine go ?_ | refine goX ?_ | refine goB ?_ | (refine goG ?_; intro g) | (refine goV ?_; intro v))
        refine WC.ret ?_
        exact Fin.v (ResE.t1 rfl rfl) (by (repeat (first | exact List.Mem.head _ | apply List.Mem.tail)); done) (by rw [hsh])
      have hl1 : 1 ≤ o := by omega
      have hl2 : o < 16 := by rw [e5] at h1n; omega
      have hl3 : (o : Int) < 2 ^ M := by rw [e5] at h1n; omega
      repeat' (first | refine go ?_ | refine goX ?_ | refine goB ?_ | (refine goG ?_; intro g) | (refine goV ?_; intro v))
      refine WL.callG [] _ (.refl _) (Ldn.rload_c v avs ts o hl1 hl2) ?_
      rintro _ _ _ ⟨z, rfl, rfl, rfl, hz⟩
      simp only [List.nil_append]
      have hz := hz M hg hl hM4
      by_cases hn : z = n
      · rw [if_pos ⟨by omega, by omega, hl3, by rw [← hz, hn]⟩] at hsh
        repeat' (first | refine go ?_ | refine goX ?_ | refine goB ?_ | (refine goG ?_; intro g) | (refine goV ?_; intro v))
        refine WC.ret ?_
        exact Fin.v (ResE.t1 rfl rfl) (by (repeat (first | exact List.Mem.head _ | apply List.Mem.tail)); done) (by rw [hsh])
      · rw [if_neg (fun hc => hn (by rw [hz]; exact hc.2.2.2))] at hsh
        repeat' (first | refine go ?_ | refine goX ?_ | refine goB ?_ | (refine goG ?_; intro g) | (refine goV ?_; intro v))
        refine WC.ret ?_
        exact Fin.v (ResE.t1 rfl rfl) (by (repeat (first | exact List.Mem.head _ | apply List.Mem.tail)); done) (by rw [hsh])
  · repeat' (first | refine go ?_ | refine goX ?_ | refine goB ?_ | (refine goG ?_; intro g) | (refine goV ?_; intro v))
    refine WC.ret ?_
    exact Fin.v (ResE.t1 rfl rfl) (by (repeat (first | exact List.Mem.head _ | apply List.Mem.tail)); done) (by rw [showP_e h])
end Go.Proofs.Ytgacbfckaglhbaa
namespace Go.Proofs.Ytgacbfckaglhbaa
open W Go.RowKit
/-- is a list lexicographically before another one? -/
def befB : List Int → List Int → Bool
  | [], b => decide (0 < b.length)
  | _ :: _, [] => false
  | x :: a, y :: b => if x ≠ y then decide (x < y) else befB a b
theorem drop_getD {l : List Int} {i : Nat} (h : i < l.length) : l.drop i = l.getD i 0 :: l.drop (i + 1) := by
  rw [List.drop_eq_getElem_cons h]; simp [List.getD_eq_getElem?_getD, h]
theorem befB_eq {a b : List Int} {i : Nat} (h1 : i < a.length) (h2 : i < b.length) (h : a.getD i 0 = b.getD i 0) : befB (a.drop i) (b.drop i) = befB (a.drop (i + 1)) (b.drop (i + 1)) := by
  rw [drop_getD h1, drop_getD h2, befB, if_neg (by simpa using h)]
theorem befB_ne {a b : List Int} {i : Nat} (h1 : i < a.length) (h2 : i < b.length) (h : a.getD i 0 ≠ b.getD i 0) : befB (a.drop i) (b.drop i) = decide (a.getD i 0 < b.getD i 0) := by
  rw [drop_getD h1, drop_getD h2, befB, if_pos h]
theorem befB_end {a b : List Int} {i : Nat} (h1 : i ≤ a.length) (h2 : i ≤ b.length) (h : i = a.length ∨ i = b.length) : befB (a.drop i) (b.drop i) = decide (a.length < b.length) := by
  by_cases ha : i = a.length
  · rw [List.drop_of_length_le (by omega), befB, List.length_drop]
    congr 1; simp; omega
  · rw [drop_getD (show i < a.length by omega), List.drop_of_length_le (show b.length ≤ i by omega), befB, decide_eq_false (by omega)]
attribute [local irreducible] WC WL WD YO LO LoopEnd W.Fin Scalar SliceT FieldAt Row ArrT AllocT KnS Has W.One SrcE IntT
set_option maxHeartbeats 4000000 in
set_option maxRecDepth 8000 in
theorem before_c (u w : Value) (a b : List Int) : FnB Try.prog 59 [u, w] [] [sI u a, sI w b] (IsV (.bool (befB a b))) := by
  refine fn_of [(0, u), (1, w)] 41 Try.func59 rfl Try.ntmps59 (by kernel_rfl) rfl (by repeat (first | exact Sub.nil _ | refine Sub.cons rfl ?_)) fun h0 => ?_
  refine WC.lenI u a (Has.mem (by (repeat (first | exact List.Mem.head _ | apply List.Mem.tail)); done)) fun hlen => ?_
  refine WC.lenI w b (Has.mem (by (repeat (first | exact List.Mem.head _ | apply List.Mem.tail)); done)) fun hlen2 => ?_
  repeat' (first | refine go ?_ | refine goX ?_ | refine goB ?_ | (refine goG ?_; intro g) | (refine goV ?_; intro v) | refine goD ?_ | refine goXD ?_ | (refine goDG ?_; intro g) | (refine goDV ?_; intro v) | (apply WC.draw (id := 4) [0, 1, 2, 3, 4, 5, 6, 7, 8] (.held 0 (.held 1 (.held 2 (.held 3 (.held 4 (.held 5 (.held 6 (.held 7 (.held 8 (.done)))))))))) mixed (by kernel_rfl)) | (apply WC.draw (id := 5) [0, 1, 2, 3, 4, 5, 6, 7, 8, 9] (.held 0 (.held 1 (.held 2 (.held 3 (.held 4 (.held 5 (.held 6 (.held 7 (.held 8 (.held 9 (.done))))))))))) mixed (by kernel_rfl)))
  refine WC.lp (σ := Nat) (fun i => [(5, .int .i64 (i : Int)), (0, u), (1, w)]) (fun _ => []) (fun _ => [ge h0, sI u a, sI w b]) (fun i => i ≤ a.length ∧ i ≤ b.length ∧ befB (a.drop i) (b.drop i) = befB a b) (fun i => a.length - i) 0 (by simp) ?_
  rintro i ⟨hi, hj, hb⟩
  by_cases c1 : i < a.length
  · by_cases c2 : i < b.length
    · by_cases c3 : a.getD i 0 = b.getD i 0
      · repeat' (first | refine go ?_ | refine goX ?_ | refine goB ?_ | (refine goG ?_; intro g) | (refine goV ?_; intro v) | refine goD ?_ | refine goXD ?_ | (refine goDG ?_; intro g) | (refine goDV ?_; intro v) | (apply WC.draw (id := 4) [0, 1, 2, 3, 4, 5, 6, 7, 8] (.held 0 (.held 1 (.held 2 (.held 3 (.held 4 (.held 5 (.held 6 (.held 7 (.held 8 (.done)))))))))) mixed (by kernel_rfl)) | (apply WC.draw (id := 5) [0, 1, 2, 3, 4, 5, 6, 7, 8, 9] (.held 0 (.held 1 (.held 2 (.held 3 (.held 4 (.held 5 (.held 6 (.held 7 (.held 8 (.held 9 (.done))))))))))) mixed (by kernel_rfl)))
        exact LoopEnd.mk (i + 1) ⟨by omega, by omega, by rw [← befB_eq c1 c2 c3]; exact hb⟩ (by omega)
      · rw [befB_ne c1 c2 c3] at hb
        by_cases c4 : a.getD i 0 < b.getD i 0
        · repeat' (first | refine go ?_ | refine goX ?_ | refine goB ?_ | (refine goG ?_; intro g) | (refine goV ?_; intro v) | refine goD ?_ | refine goXD ?_ | (refine goDG ?_; intro g) | (refine goDV ?_; intro v) | (apply WC.draw (id := 4) [0, 1, 2, 3, 4, 5, 6, 7, 8] (.held 0 (.held 1 (.held 2 (.held 3 (.held 4 (.held 5 (.held 6 (.held 7 (.held 8 (.done)))))))))) mixed (by kernel_rfl)) | (apply WC.draw (id := 5) [0, 1, 2, 3, 4, 5, 6, 7, 8, 9] (.held 0 (.held 1 (.held 2 (.held 3 (.held 4 (.held 5 (.held 6 (.held 7 (.held 8 (.held 9 (.done))))))))))) mixed (by kernel_rfl)))
          refine WC.ret ?_
          exact Fin.v (ResE.t1 rfl rfl) (by (repeat (first | exact List.Mem.head _ | apply List.Mem.tail)); done) (by rw [← hb, decide_eq_true c4])
        · repeat' (first | refine go ?_ | refine goX ?_ | refine goB ?_ | (refine goG ?_; intro g) | (refine goV ?_; intro v) | refine goD ?_ | refine goXD ?_ | (refine goDG ?_; intro g) | (refine goDV ?_; intro v) | (apply WC.draw (id := 4) [0, 1, 2, 3, 4, 5, 6, 7, 8] (.held 0 (.held 1 (.held 2 (.held 3 (.held 4 (.held 5 (.held 6 (.held 7 (.held 8 (.done)))))))))) mixed (by kernel_rfl)) | (apply WC.draw (id := 5) [0, 1, 2, 3, 4, 5, 6, 7, 8, 9] (.held 0 (.held 1 (.held 2 (.held 3 (.held 4 (.held 5 (.held 6 (.held 7 (.held 8 (.held 9 (.done))))))))))) mixed (by kernel_rfl)))
          refine WC.ret ?_
          exact Fin.v (ResE.t1 rfl rfl) (by (repeat (first | exact List.Mem.head _ | apply List.Mem.tail)); done) (by rw [← hb, decide_eq_false c4])
    · rw [befB_end hi hj (.inr (by omega))] at hb
      have c5 : ¬ (a.length < b.length) := by omega
      repeat' (first | refine go ?_ | refine goX ?_ | refine goB ?_ | (refine goG ?_; intro g) | (refine goV ?_; intro v) | refine goD ?_ | refine goXD ?_ | (refine goDG ?_; intro g) | (refine goDV ?_; intro v) | (apply WC.draw (id := 4) [0, 1, 2, 3, 4, 5, 6, 7, 8] (.held 0 (.held 1 (.held 2 (.held 3 (.held 4 (.held 5 (.held 6 (.held 7 (.held 8 (.done)))))))))) mixed (by kernel_rfl)) | (apply WC.draw (id := 5) [0, 1, 2, 3, 4, 5, 6, 7, 8, 9] (.held 0 (.held 1 (.held 2 (.held 3 (.held 4 (.held 5 (.held 6 (.held 7 (.held 8 (.held 9 (.done))))))))))) mixed (by kernel_rfl)))
      refine WC.ret ?_
      exact Fin.v (ResE.t1 rfl rfl) (by (repeat (first | exact List.Mem.head _ | apply List.Mem.tail)); done) (by rw [← hb, decide_eq_false c5])
  · rw [befB_end hi hj (.inl (by omega))] at hb
    by_cases c5 : a.length < b.length
    · repeat' (first | refine go ?_ | refine goX ?_ | refine goB ?_ | (refine goG ?_; intro g) | (refine goV ?_; intro v) | refine goD ?_ | refine goXD ?_ | (refine goDG ?_; intro g) | (refine goDV ?_; intro v) | (apply WC.draw (id := 4) [0, 1, 2, 3, 4, 5, 6, 7, 8] (.held 0 (.held 1 (.held 2 (.held 3 (.held 4 (.held 5 (.held 6 (.held 7 (.held 8 (.done)))))))))) mixed (by kernel_rfl)) | (apply WC.draw (id := 5) [0, 1, 2, 3, 4, 5, 6, 7, 8, 9] (.held 0 (.held 1 (.held 2 (.held 3 (.held 4 (.held 5 (.held 6 (.held 7 (.held 8 (.held 9 (.done))))))))))) mixed (by kernel_rfl)))
      refine WC.ret ?_
      exact Fin.v (ResE.t1 rfl rfl) (by (repeat (first | exact List.Mem.head _ | apply List.Mem.tail)); done) (by rw [← hb, decide_eq_true c5])
    · repeat' (first | refine go ?_ | refine goX ?_ | refine goB ?_ | (refine goG ?_; intro g) | (refine goV ?_; intro v) | refine goD ?_ | refine goXD ?_ | (refine goDG ?_; intro g) | (refine goDV ?_; intro v) | (apply WC.draw (id := 4) [0, 1, 2, 3, 4, 5, 6, 7, 8] (.held 0 (.held 1 (.held 2 (.held 3 (.held 4 (.held 5 (.held 6 (.held 7 (.held 8 (.done)))))))))) mixed (by kernel_rfl)) | (apply WC.draw (id := 5) [0, 1, 2, 3, 4, 5, 6, 7, 8, 9] (.held 0 (.held 1 (.held 2 (.held 3 (.held 4 (.held 5 (.held 6 (.held 7 (.held 8 (.held 9 (.done))))))))))) mixed (by kernel_rfl)))
      refine WC.ret ?_
      exact Fin.v (ResE.t1 rfl rfl) (by (repeat (first | exact List.Mem.head _ | apply List.Mem.tail)); done) (by rw [← hb, decide_eq_false c5])
end Go.Proofs.Ytgacbfckaglhbaa
namespace Go.Proofs.Ytgacbfckaglhbaa
abbrev tmP (ts : List Tk) (c : List Int) : Int := sumT ts c c.length
def btr (ts : List Tk) (best c : List Int) : List Int := if tmP ts best < tmP ts c ∨ (tmP ts c = tmP ts best ∧ befB c best = true) then c else best
abbrev lastP (c : List Int) : Int := if 0 < c.length then c.getD (c.length - 1) 0 else -1
def chLp (rec : List Int → List Int → List Int) (ts : List Tk) (c best : List Int) : Nat → List Int
  | 0 => best
  | i + 1 => if lastP c < 0 ∨ lastP c ∈ (tg ts i).after then rec (c ++ [(i : Int)]) (chLp rec ts c best i) else chLp rec ts c best i
def chF (ts : List Tk) : Nat → List Int → List Int → List Int
  | 0, _, best => best
  | f + 1, c, best => chLp (chF ts f) ts c (btr ts best c) ts.length

/-- a chain that the search meets -/
structure ChOK (ts : List Tk) (c : List Int) : Prop where
  k : lnk ts c c.length
  l : c.length ≤ (lastP c + 1).toNat
  lo : -1 ≤ lastP c
  hi : lastP c < ts.length
section
variable {ts : List Tk} {M : Nat} {c : List Int}
theorem ChOK_nil : ChOK ts [] := ⟨fun j hj => by simp at hj, by simp, by decide, by show (-1 : Int) < _; omega⟩
theorem snoc_get {j : Nat} {x : Int} : (c ++ [x]).getD j 0 = if j < c.length then c.getD j 0 else if j = c.length then x else 0 := by
  by_cases h : j < c.length
  · rw [if_pos h]; simp [List.getD_eq_getElem?_getD, List.getElem?_append_left h]
  · rw [if_neg h]
    by_cases h2 : j = c.length
    · rw [if_pos h2]; subst h2; simp [List.getD_eq_getElem?_getD]
    · rw [if_neg h2]
      rw [List.getD_eq_getElem?_getD, List.getElem?_eq_none (by simp; omega)]; rfl
theorem last_snoc {x : Int} : lastP (c ++ [x]) = x := by
  unfold lastP
  rw [if_pos (by simp)]
  simp [List.getD_eq_getElem?_getD]
theorem ChOK.snoc (hg : AllGood M ts) (h : ChOK ts c) {i : Nat} (hi : i < ts.length) (hc : lastP c < 0 ∨ lastP c ∈ (tg ts i).after) : ChOK ts (c ++ [(i : Int)]) ∧ lastP c < i := by
  have hlt : lastP c < i := by
    rcases hc with hc | hc
    · omega
    · obtain ⟨x, hx, he⟩ := after_mem hc
      have := good_after hg hi x hx
      omega
  have h1 := h.l
  have h2 := h.lo
  refine ⟨⟨fun j hj => ?_, ?_, ?_, ?_⟩, hlt⟩
  · by_cases hj2 : j < c.length
    · have := h.k j hj2
      unfold lnkAt at this ⊢
      rw [snoc_get, if_pos hj2]
      refine ⟨this.1, this.2.1, fun hp => ?_⟩
      rw [snoc_get, if_pos (by omega)]; exact this.2.2 hp
    · have hj3 : j = c.length := by simp at hj; omega
      unfold lnkAt
      rw [snoc_get, if_neg hj2, if_pos hj3]
      refine ⟨by omega, by omega, fun hp => ?_⟩
      rw [snoc_get, if_pos (by omega), Int.toNat_natCast]
      have hl : lastP c = c.getD (j - 1) 0 := by unfold lastP; rw [if_pos (by omega), hj3]
      rcases hc with hc | hc
      · have := h.k (j - 1) (by omega)
        have := this.1
        omega
      · rw [← hl]; exact hc
  · rw [last_snoc]; simp; omega
  · rw [last_snoc]; omega
  · rw [last_snoc]; omega
theorem btr_ok {best : List Int} (h : ChOK ts best) (h2 : ChOK ts c) : ChOK ts (btr ts best c) := by unfold btr; split <;> assumption
theorem chLp_ok {rec : List Int → List Int → List Int} (hg : AllGood M ts) (hc : ChOK ts c) (hr : ∀ i best, i < ts.length → lastP c < i → ChOK ts (c ++ [(i : Int)]) → ChOK ts best → ChOK ts (rec (c ++ [(i : Int)]) best)) {best : List Int} (hb : ChOK ts best) : ∀ n, n ≤ ts.length → ChOK ts (chLp rec ts c best n)
  | 0, _ => hb
  | n + 1, hn => by
    have ih := chLp_ok hg hc hr hb n (by omega)
    rw [chLp]; split
    · rename_i h
      have := hc.snoc hg (show n < ts.length by omega) h
      exact hr n _ (by omega) this.2 this.1 ih
    · exact ih
theorem chF_ok (hg : AllGood M ts) : ∀ f c best, ChOK ts c → ChOK ts best → ChOK ts (chF ts f c best)
  | 0, _, _, _, hb => hb
  | f + 1, c, best, hc, hb => by
    rw [chF]
    exact chLp_ok hg hc (fun i best hi _ h1 h2 => chF_ok hg f _ best h1 h2) (btr_ok hb hc) _ (Nat.le_refl _)
theorem chLp_start {rec : List Int → List Int → List Int} (hg : AllGood M ts) {best : List Int} : ∀ n, n ≤ ts.length → (n : Int) ≤ lastP c + 1 → chLp rec ts c best n = best
  | 0, _, _ => rfl
  | n + 1, hn, h => by
    have ih := chLp_start hg (rec := rec) (best := best) n (by omega) (by omega)
    rw [chLp, if_neg, ih]
    intro hc
    rcases hc with hc | hc
    · omega
    · obtain ⟨x, hx, he⟩ := after_mem hc
      have := good_after hg (show n < ts.length by omega) x hx
      omega
end
end Go.Proofs.Ytgacbfckaglhbaa
