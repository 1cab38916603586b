/- Lemmas for the proof of a law: The run of the executor, over bounds that are made. Conditions: none. -/
import Derived.Test.YthggloiigkbfeaaGreatBase5
import Derived.Shelf.SlIterI.Sorted
import Derived.Shelf.SlGeneric
import Derived.Shelf.SortM.Plain
import Derived.Shelf.SortM.SortNone
import Derived.Ground.GgzProg
import Derived.Ground.SlgmProg
import Derived.RangeFuncBox
import Derived.OwnWalkIn
import Derived.TacticsInMore
import Derived.LoopNIn
import Derived.LoopIn
import Derived.Sort.OwnSorted
import Derived.RangeFuncBound
import Derived.Shelf.Slices.CompactI
import Derived.Shelf.SlicesE.DeleteFunc
import Derived.Test.YthggloiigkbfeaaGreatRows
import Derived.ProofKit
import Derived.ChangeSlices
set_option linter.unusedVariables false
set_option linter.unusedSimpArgs false
set_option linter.unusedSectionVars false
namespace Go.Proofs.YthggloiigkbfeaaGreat
open W Go.RowKit
attribute [local irreducible] WC WL WD YO LO LoopEnd W.Fin Scalar SliceT FieldAt Row ArrT AllocT KnS Has W.One SrcE IntT
namespace I
set_option maxRecDepth 60000
theorem t0A {G : Prop} (h : G := by first | (((first | exact T.al3 | exact T.al4 | exact T.al22 | exact T.al26 | exact T.al32 | exact T.al35 | exact T.al37 | exact T.al38 | exact T.al59 | exact T.al103 | exact T.al109 | exact T.al111 | exact T.al114 | exact T.al161 | exact T.al164 | exact T.al94 | exact T.al116 | exact T.al159)); done) | fail) : G := h
theorem t1A {G : Prop} (h : G := by first | (((first | exact T.sc3 | exact T.sc4 | exact T.sc22 | exact T.sc26 | exact T.sc32 | exact T.sc38 | exact T.sc109 | exact T.sc111 | exact T.sc161 | exact T.sc164 | exact T.sc94 | exact T.sc116 | exact T.sc159)); done) | fail) : G := h
theorem t2A {G : Prop} (h : G := by first | (((first | exact T.z3 | exact T.z4 | exact T.z22 | exact T.z26 | exact T.z32 | exact T.z38 | exact T.z109 | exact T.z111 | exact T.z161 | exact T.z164 | exact T.z94 | exact T.z116 | exact T.z159)); done) | fail) : G := h
theorem t3A {G : Prop} (h : G := by first | (((first | exact T.f35_0 | exact T.f35_1 | exact T.f37_0 | exact T.f37_1 | exact T.f59_0 | exact T.f59_1 | exact T.f59_2 | exact T.f103_0 | exact T.f103_1 | exact T.f114_0 | exact T.f114_1)); done) | fail) : G := h
theorem t4A {G : Prop} (h : G := by first | (((first | exact T.e22 | exact T.e32 | exact T.e38 | exact T.e109 | exact T.e111 | exact T.e161)); done) | fail) : G := h
theorem t5A {G : Prop} (h : G := by first | (((first | exact T.s22 | exact T.s32 | exact T.s38 | exact T.s109 | exact T.s111 | exact T.s161)); done) | fail) : G := h
theorem t6A {G : Prop} (h : G := by first | (((first | exact T.r35 | exact T.r37 | exact T.r59 | exact T.r103 | exact T.r114)); done) | fail) : G := h
theorem t7A {G : Prop} (h : G := by first | (((first | exact T.u3 | exact T.u26 | exact T.u164)); done) | fail) : G := h
theorem knA {G : Prop} (h : G := by first | (((first | (focus (apply KnS.oT; exact meA; done)) | (focus (apply KnS.f; exact hmA; done)) | (focus (apply KnS.oI; exact meA; done)) | (focus (apply KnS.o1; exact meA; done)) | (focus (apply KnS.zd; exact hmA; done)) | (focus (apply KnS.q1; exact hmA; done)) | (focus (apply KnS.q2; exact hmA; done)) | (focus (apply KnS.fr; exact hmA; done)) | (focus (apply KnS.fb; exact hmA; done)) | (focus (apply KnS.fl; exact hmA; done)) | (focus (apply KnS.oR; exact meA; done)) | (focus (apply KnS.oB; exact meA; done)) | (focus (apply KnS.oL; exact meA; done)))); done) | fail) : G := h
theorem hsA {G : Prop} (h : G := by first | (((first | exact hmA | (focus (apply hasQ_P; exact hmA; done)) | (focus (apply hasQ_Q; exact hmA; done)) | exact hasZ_0 | exact hasQ_0 | (focus (apply hasZ_d; exact hmA; done)) | (focus (apply hasQ_d1; exact hmA; done)) | (focus (apply hasQ_d2; exact hmA; done)) | exact hasQ0w)); done) | fail) : G := h
theorem haA {G : Prop} (h : G := by first | ((repeat (first | exact HasAll.nil | (apply HasAll.cons; exact hsA))); done) | fail) : G := h
theorem hbA {G : Prop} (h : G := by first | ((repeat (first | exact HasAllB.nil | (apply HasAllB.cons; (first | (focus (apply HasB.oI; exact meA; done)) | (focus (apply HasB.c; exact meA; done)) | (focus (apply HasB.f; exact hsA; done)) | (focus (apply HasB.fR; exact meA; exact hmA; done)) | (focus (apply HasB.fB; exact meA; exact hmA; done)) | (focus (apply HasB.fL; exact meA; exact hmA; done)) | (focus (apply HasB.and; (focus (apply HasB.c; exact meA; done)); (focus (apply HasB.c; exact meA; done)); done)) | (focus (apply HasB.oT; exact meA; done)))))); done) | fail) : G := h
theorem ltA {G : Prop} (h : G := by first | (((first | (focus (apply Or.inr; constructor; (repeat (first | exact List.Sublist.refl _ | exact List.nil_sublist _ | apply List.Sublist.cons_cons | apply List.Sublist.cons)); (first | exact fun _ h => h | (intro f hf; (repeat (first | exact hf | apply List.Mem.tail)))); done)) | (apply Or.inl; kernel_rfl))); done) | fail) : G := h
theorem onA {G : Prop} (h : G := by first | (((first | exact ints_one _ | (intro u hu; simp only [List.mem_cons, List.not_mem_nil, or_false] at hu; first | (subst hu; rfl) | (rcases hu with rfl | rfl | rfl <;> rfl)))); done) | fail) : G := h
theorem leA {G : Prop} (h : G := by first | (((simp only [List.length_map, List.length_append, List.length_cons, List.length_nil, List.length_replicate, List.length_take]; omega)); done) | fail) : G := h
theorem y_indexAddr {G : Prop} (h : G := by first | (((first | (first | (apply YO.ix1; exact t5A; exact rfl; exact rfl; exact knA; omega) | (apply YO.ix; exact t5A; exact rfl; exact rfl; exact knA; omega) | (apply YO.ix1'; exact t5A; exact rfl; exact rfl; exact knA; omega; omega) | (apply YO.ix'; exact t5A; exact rfl; exact rfl; exact knA; omega; omega)) | (apply YO.ix1; exact t5A; exact rfl; exact rfl; exact knA; (first | omega | (simp only [List.length_set, List.length_replicate]; omega))) | (apply YO.ix; exact t5A; exact rfl; exact rfl; exact knA; (first | omega | (simp only [List.length_set, List.length_replicate]; omega))) | (apply YO.ix1'; exact t5A; exact rfl; exact rfl; exact knA; omega; (first | omega | (simp only [List.length_set, List.length_replicate]; omega))))); done) | fail) : G := h
theorem y_load {G : Prop} (h : G := by first | (((first | (apply YO.ldW; exact t6A; exact rfl; exact meA; exact rfl) | (apply YO.ld42; exact t6A; exact rfl; exact meA) | (apply YO.ld40; exact t6A; exact rfl; exact meA) | (apply YO.ld62; exact t6A; exact rfl; exact meA) | (apply YO.ld51; exact t6A; exact rfl; exact meA) | (apply YO.ldR; exact t6A; exact rfl; exact hmA; omega) | (apply YO.ldBd; exact t6A; exact rfl; exact hmA; omega) | (apply YO.ldBq; exact t6A; exact rfl; exact hmA; omega) | (apply YO.ldBf; exact t1A; exact rfl; exact hmA; omega) | (apply YO.ldBt; exact t1A; exact rfl; exact hmA; omega) | (apply YO.ldLn; exact t6A; exact rfl; exact hmA; omega) | (apply YO.ldLb; exact t1A; exact rfl; exact hmA; omega) | (apply YO.ldLq; exact t6A; exact rfl; exact hmA; omega) | (apply YO.ldWf; exact t6A; exact rfl; exact hmA; exact rfl) | (apply YO.ldOR; exact t6A; exact rfl; exact meA; omega) | (apply YO.ldOBd; exact t6A; exact rfl; exact meA; omega) | (apply YO.ldOBq; exact t6A; exact rfl; exact meA; omega) | (apply YO.ldOL; exact t6A; exact rfl; exact meA; omega) | (apply YO.ldOT; exact t1A; exact rfl; exact meA; omega) | (apply YO.ldOBf; exact t1A; exact rfl; exact meA; omega) | (apply YO.ldOBt; exact t1A; exact rfl; exact meA; omega) | (apply YO.ldWI0; exact t6A; exact rfl; exact meA; (first | omega | (simp only [List.length_set, List.length_replicate]; omega))) | (apply YO.ldWF0; exact t6A; exact rfl; exact hmA; (first | omega | (simp only [List.length_set, List.length_replicate]; omega))) | (apply YO.ldCI; exact t1A; exact rfl; exact meA; (first | omega | (simp only [List.length_set, List.length_replicate]; omega))) | (apply YO.ldFI; exact t1A; exact rfl; exact hmA; (first | omega | (simp only [List.length_set, List.length_replicate]; omega))) | (apply YO.ldF; exact t1A; exact rfl; exact hmA; exact rfl) | (apply YO.ldS; exact t1A; exact rfl; exact hsA; omega) | (apply YO.ldB; exact t1A; exact rfl; exact meA; exact rfl) | (apply YO.ldOI; exact t1A; exact rfl; exact meA; (first | omega | (simp only [List.length_set, List.length_replicate]; omega))))); done) | fail) : G := h
theorem y_slice {G : Prop} (h : G := by first | (((first | (first | (apply YO.slice; exact t5A; exact rfl; exact knA; exact Or.inl ⟨rfl, rfl⟩; exact Or.inr ⟨_, rfl, rfl⟩; omega; omega) | (apply YO.slice; exact t5A; exact rfl; exact knA; exact Or.inr ⟨_, rfl, rfl⟩; exact Or.inl ⟨rfl, rfl⟩; omega; omega)) | (apply YO.slice3; exact t5A; exact rfl; exact knA; exact rfl; exact rfl; omega; omega))); done) | fail) : G := h
theorem y_eql {G : Prop} (h : G := by first | (((first | (first | (first | (apply YO.eql_t; exact rfl; exact rfl; omega) | (apply YO.eql_f; exact rfl; exact rfl; omega)) | (apply YO.eqNil_t; exact t5A; exact rfl; exact knA; assumption) | (apply YO.eqNil_f; exact t5A; exact rfl; exact knA; assumption)) | (apply YO.beq_t; exact bool_t; exact rfl; exact rfl; (first | rfl | assumption | decide)) | (apply YO.beq_f; exact bool_t; exact rfl; exact rfl; (first | rfl | assumption | decide)))); done) | fail) : G := h
theorem y_build {G : Prop} (h : G := by first | (((first | (apply YO.buildZ; exact rfl; exact rfl; exact knA) | exact YO.buildZ0 | exact YO.buildQ0 | (apply YO.buildQ1; exact rfl) | (apply YO.buildQ2; exact rfl; exact rfl) | (apply YO.buildLn; exact rfl; exact rfl) | (apply YO.buildSys; exact rfl; exact rfl; exact knA) | (apply YO.buildBd; exact rfl; exact rfl) | (apply YO.buildBd3; exact rfl; exact rfl; exact rfl) | (apply YO.buildSy1; exact rfl))); done) | fail) : G := h
theorem y_len {G : Prop} (h : G := by first | (((apply YO.len; exact t5A; exact rfl; exact knA)); done) | fail) : G := h
theorem y_fieldAddr {G : Prop} (h : G := by first | (((first | (apply YO.fieldE; exact t3A; exact rfl) | (apply YO.fieldN; exact t3A; exact rfl; ((try simp only [Nat.zero_add, Nat.mul_one, Nat.reduceAdd, Nat.reduceMul]); exact rfl)))); done) | fail) : G := h
theorem y_conv {G : Prop} (h : G := by first | (((first | (first | (apply YO.convU; exact t7A; exact t7A; exact rfl; omega; omega) | (apply YO.convI; exact t7A; exact t7A; exact rfl; omega; omega)) | (apply YO.convN; exact t7A; exact t7A; exact rfl; omega; omega))); done) | fail) : G := h
theorem y_neq {G : Prop} (h : G := by first | (((first | (first | (apply YO.neq_t; exact rfl; exact rfl; omega) | (apply YO.neq_f; exact rfl; exact rfl; omega)) | (apply YO.bne_t; exact bool_t; exact rfl; exact rfl; (first | rfl | assumption | decide)) | (apply YO.bne_f; exact bool_t; exact rfl; exact rfl; (first | rfl | assumption | decide)))); done) | fail) : G := h
theorem y_makeFunc {G : Prop} (h : G := by first | (((apply YO.makeFunc; (repeat (first | exact Evs.nil | (apply Evs.cons; exact rfl))); (repeat (first | exact Evs.nil | (apply Evs.cons; exact rfl))))); done) | fail) : G := h
theorem y_quo {G : Prop} (h : G := by first | (((first | (apply YO.quo; exact rfl; exact rfl; omega; omega; omega) | (apply YO.uquo; exact rfl; exact rfl; omega; omega; omega))); done) | fail) : G := h
theorem y_and {G : Prop} (h : G := by first | (((first | (apply YO.and1; exact rfl; exact rfl; omega; omega) | (apply YO.and; exact rfl; exact rfl; omega; omega; omega; omega))); done) | fail) : G := h
theorem y_mul {G : Prop} (h : G := by first | (((first | (apply YO.mul; exact rfl; exact rfl; omega; omega) | (apply YO.umul; exact rfl; exact rfl; omega; omega))); done) | fail) : G := h
theorem y_rem {G : Prop} (h : G := by first | (((first | (apply YO.rem; exact rfl; exact rfl; omega; omega) | (apply YO.urem; exact rfl; exact rfl; omega; omega))); done) | fail) : G := h
theorem y_add {G : Prop} (h : G := by first | (((first | (apply YO.inc; exact rfl; exact rfl; omega) | (apply YO.add; exact rfl; exact rfl; omega; omega))); done) | fail) : G := h
theorem y_lss {G : Prop} (h : G := by first | (((first | (apply YO.lss_t; exact rfl; exact rfl; omega) | (apply YO.lss_f; exact rfl; exact rfl; omega))); done) | fail) : G := h
theorem y_gtr {G : Prop} (h : G := by first | (((first | (apply YO.gtr_t; exact rfl; exact rfl; omega) | (apply YO.gtr_f; exact rfl; exact rfl; omega))); done) | fail) : G := h
theorem y_geq {G : Prop} (h : G := by first | (((first | (apply YO.geq_t; exact rfl; exact rfl; omega) | (apply YO.geq_f; exact rfl; exact rfl; omega))); done) | fail) : G := h
theorem y_leq {G : Prop} (h : G := by first | (((first | (apply YO.leq_t; exact rfl; exact rfl; omega) | (apply YO.leq_f; exact rfl; exact rfl; omega))); done) | fail) : G := h
theorem y_shl {G : Prop} (h : G := by first | (((apply YO.shl'; exact rfl; exact rfl; omega; omega; (first | omega | decide); (first | omega | decide))); done) | fail) : G := h
theorem y_uneg {G : Prop} (h : G := by first | (((first | (apply YO.neg; exact rfl; omega; omega) | (apply YO.uneg; exact rfl; omega; omega))); done) | fail) : G := h
theorem y_pick {G : Prop} (h : G := by first | (((first | (apply YO.pick_t; exact rfl; exact rfl) | (apply YO.pick_f; exact rfl; exact rfl))); done) | fail) : G := h
theorem y_unot {G : Prop} (h : G := by first | (((first | (apply YO.not_t; exact rfl) | (apply YO.not_f; exact rfl))); done) | fail) : G := h
theorem y_or {G : Prop} (h : G := by first | (((apply YO.or; exact rfl; exact rfl; omega; omega; omega; omega)); done) | fail) : G := h
theorem go {G G' : Prop} (h : G') (s : Bx G' → G := by
  intro h
  (first
    | apply WL.nil
    | (apply WL.skg; exact rfl; exact rfl)
    | (apply WL.skg0; exact rfl)
    | (apply WL.k_move; (apply YO.move; exact rfl); exact rfl; exact rfl)
    | (apply WL.k_assign; (apply YO.assign; exact rfl); exact rfl; exact rfl)
    | (apply WL.k_lss; exact y_lss; exact rfl; exact rfl)
    | (apply WL.k_add; exact y_add; exact rfl; exact rfl)
    | (apply WL.k_len; exact y_len; exact rfl; exact rfl)
    | (apply WL.k_indexAddr; exact y_indexAddr; exact rfl; exact rfl)
    | (apply WL.k_load; exact y_load; exact rfl; exact rfl)
    | (apply WL.k_pick; exact y_pick; exact rfl; exact rfl)
    | (apply WL.k_fieldAddr; exact y_fieldAddr; exact rfl; exact rfl)
    | (apply WL.k_eql; exact y_eql; exact rfl; exact rfl)
    | (apply WL.k_neq; exact y_neq; exact rfl; exact rfl)
    | (apply WL.k_nil; (apply YO.nil; exact rfl); exact rfl; exact rfl)
    | (apply WL.k_extract; (apply YO.extract; exact rfl; exact rfl); exact rfl; exact rfl)
    | (apply WL.k_gtr; exact y_gtr; exact rfl; exact rfl)
    | (apply WL.k_geq; exact y_geq; exact rfl; exact rfl)
    | (apply WL.k_leq; exact y_leq; exact rfl; exact rfl)
    | (apply WL.k_sub; (apply YO.sub; exact rfl; exact rfl; omega; omega); exact rfl; exact rfl)
    | (apply WL.k_mul; exact y_mul; exact rfl; exact rfl)
    | (apply WL.k_rem; exact y_rem; exact rfl; exact rfl)
    | (apply WL.k_quo; exact y_quo; exact rfl; exact rfl)
    | (apply WL.k_unot; exact y_unot; exact rfl; exact rfl)
    | (apply WL.k_uneg; exact y_uneg; exact rfl; exact rfl)
    | (apply WL.k_max; (apply YO.max; exact rfl; exact rfl); exact rfl; exact rfl)
    | (apply WL.k_min; (apply YO.min; exact rfl; exact rfl); exact rfl; exact rfl)
    | (apply WL.k_makeFunc; exact y_makeFunc; exact rfl; exact rfl)
    | (apply WL.k_conv; exact y_conv; exact rfl; exact rfl)
    | (apply WL.k_shl; exact y_shl; exact rfl; exact rfl)
    | (apply WL.k_shr; (apply YO.shr'; exact rfl; exact rfl; omega; omega); exact rfl; exact rfl)
    | (apply WL.k_and; exact y_and; exact rfl; exact rfl)
    | (apply WL.k_or; exact y_or; exact rfl; exact rfl)
    | (apply WL.k_andNot; (apply YO.anot; exact rfl; exact rfl); exact rfl; exact rfl)
    | (apply WL.k_slice; exact y_slice; exact rfl; exact rfl)
    | (apply WL.k_build; exact y_build; exact rfl; exact rfl)
    | apply WC.seq
    | apply WC.region
    | apply WC.block
    | (apply WC.cond_t; exact rfl)
    | (apply WC.cond_f; exact rfl)
    | apply WC.exit
    | apply WC.skip
    | apply WC.label
    | (apply WL.kl_store; rotate_left; exact rfl; (first | (apply LO.storeOI; exact rfl; exact rfl; exact t2A; exact seA; (first | omega | (simp only [List.length_set]; omega))) | (apply LO.storeQ; exact rfl; exact rfl; exact t6A; exact hmA; exact seA; omega) | (apply LO.storeL1; exact rfl; exact rfl; exact t6A; exact hmA; exact seA; omega) | (apply LO.storeOT; exact rfl; exact rfl; exact t2A; (first | exact One.lit rfl rfl | (apply One.sl; exact knA)); exact seA; omega) | (apply LO.storeB2; exact rfl; exact rfl; exact t6A; exact hmA; exact seA) | (apply LO.storeBf; exact rfl; exact rfl; exact t2A; exact seA; omega) | (apply LO.storeBt; exact rfl; exact rfl; exact t2A; exact seA; omega) | (apply LO.storeBq; exact rfl; exact rfl; exact t6A; exact hmA; exact seA; omega) | (apply LO.storeI; exact rfl; exact rfl; exact t2A; exact seA; (first | omega | (simp only [List.length_set, List.length_replicate]; omega))) | (apply LO.storeWI; exact rfl; exact rfl; exact seA; exact t6A; (first | omega | (simp only [List.length_set, List.length_replicate]; omega)); (first | (simp only [List.length_map, List.length_set, List.length_replicate, ints]; omega) | rfl)) | (apply LO.store1; exact rfl; exact rfl; exact t2A; (first | exact One.lit rfl rfl | (apply One.sl; exact knA)); exact seA; (first | (simp only [List.length_cons, List.length_nil]; omega) | (simp; omega)); (first | (simp only [List.set_cons_succ, List.set_cons_zero]; exact rfl) | exact rfl)) | (apply LO.storeO1; exact rfl; exact rfl; exact t2A; (first | exact One.lit rfl rfl | (apply One.sl; exact knA)); exact seA; (first | (simp only [List.length_cons, List.length_nil]; omega) | (simp; omega)); (first | (simp only [List.set_cons_succ, List.set_cons_zero]; exact rfl) | exact rfl)) | (apply LO.storeL; exact rfl; exact rfl; exact seA; exact t6A; exact rfl; exact rfl; (repeat (first | exact OneL.nil | (apply OneL.cons; (first | exact One.lit rfl rfl | (apply One.sl; exact knA)))))))))
  repeat (first
    | apply WL.nil
    | (apply WL.skg; exact rfl; exact rfl)
    | (apply WL.skg0; exact rfl)
    | (apply WL.k_move; (apply YO.move; exact rfl); exact rfl; exact rfl)
    | (apply WL.k_assign; (apply YO.assign; exact rfl); exact rfl; exact rfl)
    | (apply WL.k_lss; exact y_lss; exact rfl; exact rfl)
    | (apply WL.k_add; exact y_add; exact rfl; exact rfl)
    | (apply WL.k_len; exact y_len; exact rfl; exact rfl)
    | (apply WL.k_indexAddr; exact y_indexAddr; exact rfl; exact rfl)
    | (apply WL.k_load; exact y_load; exact rfl; exact rfl)
    | (apply WL.k_pick; exact y_pick; exact rfl; exact rfl)
    | (apply WL.k_fieldAddr; exact y_fieldAddr; exact rfl; exact rfl)
    | (apply WL.k_eql; exact y_eql; exact rfl; exact rfl)
    | (apply WL.k_neq; exact y_neq; exact rfl; exact rfl)
    | (apply WL.k_nil; (apply YO.nil; exact rfl); exact rfl; exact rfl)
    | (apply WL.k_extract; (apply YO.extract; exact rfl; exact rfl); exact rfl; exact rfl)
    | (apply WL.k_gtr; exact y_gtr; exact rfl; exact rfl)
    | (apply WL.k_geq; exact y_geq; exact rfl; exact rfl)
    | (apply WL.k_leq; exact y_leq; exact rfl; exact rfl)
    | (apply WL.k_sub; (apply YO.sub; exact rfl; exact rfl; omega; omega); exact rfl; exact rfl)
    | (apply WL.k_mul; exact y_mul; exact rfl; exact rfl)
    | (apply WL.k_rem; exact y_rem; exact rfl; exact rfl)
    | (apply WL.k_quo; exact y_quo; exact rfl; exact rfl)
    | (apply WL.k_unot; exact y_unot; exact rfl; exact rfl)
    | (apply WL.k_uneg; exact y_uneg; exact rfl; exact rfl)
    | (apply WL.k_max; (apply YO.max; exact rfl; exact rfl); exact rfl; exact rfl)
    | (apply WL.k_min; (apply YO.min; exact rfl; exact rfl); exact rfl; exact rfl)
    | (apply WL.k_makeFunc; exact y_makeFunc; exact rfl; exact rfl)
    | (apply WL.k_conv; exact y_conv; exact rfl; exact rfl)
    | (apply WL.k_shl; exact y_shl; exact rfl; exact rfl)
    | (apply WL.k_shr; (apply YO.shr'; exact rfl; exact rfl; omega; omega); exact rfl; exact rfl)
    | (apply WL.k_and; exact y_and; exact rfl; exact rfl)
    | (apply WL.k_or; exact y_or; exact rfl; exact rfl)
    | (apply WL.k_andNot; (apply YO.anot; exact rfl; exact rfl); exact rfl; exact rfl)
    | (apply WL.k_slice; exact y_slice; exact rfl; exact rfl)
    | (apply WL.k_build; exact y_build; exact rfl; exact rfl)
    | apply WC.seq
    | apply WC.region
    | apply WC.block
    | (apply WC.cond_t; exact rfl)
    | (apply WC.cond_f; exact rfl)
    | apply WC.exit
    | apply WC.skip
    | apply WC.label
    | (apply WL.kl_store; rotate_left; exact rfl; (first | (apply LO.storeOI; exact rfl; exact rfl; exact t2A; exact seA; (first | omega | (simp only [List.length_set]; omega))) | (apply LO.storeQ; exact rfl; exact rfl; exact t6A; exact hmA; exact seA; omega) | (apply LO.storeL1; exact rfl; exact rfl; exact t6A; exact hmA; exact seA; omega) | (apply LO.storeOT; exact rfl; exact rfl; exact t2A; (first | exact One.lit rfl rfl | (apply One.sl; exact knA)); exact seA; omega) | (apply LO.storeB2; exact rfl; exact rfl; exact t6A; exact hmA; exact seA) | (apply LO.storeBf; exact rfl; exact rfl; exact t2A; exact seA; omega) | (apply LO.storeBt; exact rfl; exact rfl; exact t2A; exact seA; omega) | (apply LO.storeBq; exact rfl; exact rfl; exact t6A; exact hmA; exact seA; omega) | (apply LO.storeI; exact rfl; exact rfl; exact t2A; exact seA; (first | omega | (simp only [List.length_set, List.length_replicate]; omega))) | (apply LO.storeWI; exact rfl; exact rfl; exact seA; exact t6A; (first | omega | (simp only [List.length_set, List.length_replicate]; omega)); (first | (simp only [List.length_map, List.length_set, List.length_replicate, ints]; omega) | rfl)) | (apply LO.store1; exact rfl; exact rfl; exact t2A; (first | exact One.lit rfl rfl | (apply One.sl; exact knA)); exact seA; (first | (simp only [List.length_cons, List.length_nil]; omega) | (simp; omega)); (first | (simp only [List.set_cons_succ, List.set_cons_zero]; exact rfl) | exact rfl)) | (apply LO.storeO1; exact rfl; exact rfl; exact t2A; (first | exact One.lit rfl rfl | (apply One.sl; exact knA)); exact seA; (first | (simp only [List.length_cons, List.length_nil]; omega) | (simp; omega)); (first | (simp only [List.set_cons_succ, List.set_cons_zero]; exact rfl) | exact rfl)) | (apply LO.storeL; exact rfl; exact rfl; exact seA; exact t6A; exact rfl; exact rfl; (repeat (first | exact OneL.nil | (apply OneL.cons; (first | exact One.lit rfl rfl | (apply One.sl; exact knA)))))))))
  exact Bx.h h) : G := s ⟨h⟩
theorem goD {G G' : Prop} (h : G') (s : Bx G' → G := by
  intro h
  (first
    | apply WD.nil
    | (apply WD.skg; exact rfl; exact rfl; exact rfl)
    | (apply WD.skgl; exact rfl; exact rfl; exact rfl)
    | (apply WD.skgl0; exact rfl; exact rfl)
    | (apply WD.k_move; exact rfl; (apply YO.move; exact rfl); exact rfl; exact rfl)
    | (apply WD.k_assign; exact rfl; (apply YO.assign; exact rfl); exact rfl; exact rfl)
    | (apply WD.k_lss; exact rfl; exact y_lss; exact rfl; exact rfl)
    | (apply WD.k_add; exact rfl; exact y_add; exact rfl; exact rfl)
    | (apply WD.k_len; exact rfl; exact y_len; exact rfl; exact rfl)
    | (apply WD.k_indexAddr; exact rfl; exact y_indexAddr; exact rfl; exact rfl)
    | (apply WD.k_load; exact rfl; exact y_load; exact rfl; exact rfl)
    | (apply WD.k_pick; exact rfl; exact y_pick; exact rfl; exact rfl)
    | (apply WD.k_fieldAddr; exact rfl; exact y_fieldAddr; exact rfl; exact rfl)
    | (apply WD.k_eql; exact rfl; exact y_eql; exact rfl; exact rfl)
    | (apply WD.k_neq; exact rfl; exact y_neq; exact rfl; exact rfl)
    | (apply WD.k_nil; exact rfl; (apply YO.nil; exact rfl); exact rfl; exact rfl)
    | (apply WD.k_extract; exact rfl; (apply YO.extract; exact rfl; exact rfl); exact rfl; exact rfl)
    | (apply WD.k_gtr; exact rfl; exact y_gtr; exact rfl; exact rfl)
    | (apply WD.k_geq; exact rfl; exact y_geq; exact rfl; exact rfl)
    | (apply WD.k_leq; exact rfl; exact y_leq; exact rfl; exact rfl)
    | (apply WD.k_sub; exact rfl; (apply YO.sub; exact rfl; exact rfl; omega; omega); exact rfl; exact rfl)
    | (apply WD.k_mul; exact rfl; exact y_mul; exact rfl; exact rfl)
    | (apply WD.k_rem; exact rfl; exact y_rem; exact rfl; exact rfl)
    | (apply WD.k_quo; exact rfl; exact y_quo; exact rfl; exact rfl)
    | (apply WD.k_unot; exact rfl; exact y_unot; exact rfl; exact rfl)
    | (apply WD.k_uneg; exact rfl; exact y_uneg; exact rfl; exact rfl)
    | (apply WD.k_max; exact rfl; (apply YO.max; exact rfl; exact rfl); exact rfl; exact rfl)
    | (apply WD.k_min; exact rfl; (apply YO.min; exact rfl; exact rfl); exact rfl; exact rfl)
    | (apply WD.k_makeFunc; exact rfl; exact y_makeFunc; exact rfl; exact rfl)
    | (apply WD.k_conv; exact rfl; exact y_conv; exact rfl; exact rfl)
    | (apply WD.k_shl; exact rfl; exact y_shl; exact rfl; exact rfl)
    | (apply WD.k_shr; exact rfl; (apply YO.shr'; exact rfl; exact rfl; omega; omega); exact rfl; exact rfl)
    | (apply WD.k_and; exact rfl; exact y_and; exact rfl; exact rfl)
    | (apply WD.k_or; exact rfl; exact y_or; exact rfl; exact rfl)
    | (apply WD.k_andNot; exact rfl; (apply YO.anot; exact rfl; exact rfl); exact rfl; exact rfl)
    | (apply WD.k_slice; exact rfl; exact y_slice; exact rfl; exact rfl)
    | (apply WD.k_build; exact rfl; exact y_build; exact rfl; exact rfl)
    | (apply WD.kl_store; exact rfl; rotate_left; exact rfl; (first | (apply LO.storeOI; exact rfl; exact rfl; exact t2A; exact seA; (first | omega | (simp only [List.length_set]; omega))) | (apply LO.storeQ; exact rfl; exact rfl; exact t6A; exact hmA; exact seA; omega) | (apply LO.storeL1; exact rfl; exact rfl; exact t6A; exact hmA; exact seA; omega) | (apply LO.storeOT; exact rfl; exact rfl; exact t2A; (first | exact One.lit rfl rfl | (apply One.sl; exact knA)); exact seA; omega) | (apply LO.storeB2; exact rfl; exact rfl; exact t6A; exact hmA; exact seA) | (apply LO.storeBf; exact rfl; exact rfl; exact t2A; exact seA; omega) | (apply LO.storeBt; exact rfl; exact rfl; exact t2A; exact seA; omega) | (apply LO.storeBq; exact rfl; exact rfl; exact t6A; exact hmA; exact seA; omega) | (apply LO.storeI; exact rfl; exact rfl; exact t2A; exact seA; (first | omega | (simp only [List.length_set, List.length_replicate]; omega))) | (apply LO.storeWI; exact rfl; exact rfl; exact seA; exact t6A; (first | omega | (simp only [List.length_set, List.length_replicate]; omega)); (first | (simp only [List.length_map, List.length_set, List.length_replicate, ints]; omega) | rfl)) | (apply LO.store1; exact rfl; exact rfl; exact t2A; (first | exact One.lit rfl rfl | (apply One.sl; exact knA)); exact seA; (first | (simp only [List.length_cons, List.length_nil]; omega) | (simp; omega)); (first | (simp only [List.set_cons_succ, List.set_cons_zero]; exact rfl) | exact rfl)) | (apply LO.storeO1; exact rfl; exact rfl; exact t2A; (first | exact One.lit rfl rfl | (apply One.sl; exact knA)); exact seA; (first | (simp only [List.length_cons, List.length_nil]; omega) | (simp; omega)); (first | (simp only [List.set_cons_succ, List.set_cons_zero]; exact rfl) | exact rfl)) | (apply LO.storeL; exact rfl; exact rfl; exact seA; exact t6A; exact rfl; exact rfl; (repeat (first | exact OneL.nil | (apply OneL.cons; (first | exact One.lit rfl rfl | (apply One.sl; exact knA))))))); constructor; exact ltA))
  repeat (first
    | apply WD.nil
    | (apply WD.skg; exact rfl; exact rfl; exact rfl)
    | (apply WD.skgl; exact rfl; exact rfl; exact rfl)
    | (apply WD.skgl0; exact rfl; exact rfl)
    | (apply WD.k_move; exact rfl; (apply YO.move; exact rfl); exact rfl; exact rfl)
    | (apply WD.k_assign; exact rfl; (apply YO.assign; exact rfl); exact rfl; exact rfl)
    | (apply WD.k_lss; exact rfl; exact y_lss; exact rfl; exact rfl)
    | (apply WD.k_add; exact rfl; exact y_add; exact rfl; exact rfl)
    | (apply WD.k_len; exact rfl; exact y_len; exact rfl; exact rfl)
    | (apply WD.k_indexAddr; exact rfl; exact y_indexAddr; exact rfl; exact rfl)
    | (apply WD.k_load; exact rfl; exact y_load; exact rfl; exact rfl)
    | (apply WD.k_pick; exact rfl; exact y_pick; exact rfl; exact rfl)
    | (apply WD.k_fieldAddr; exact rfl; exact y_fieldAddr; exact rfl; exact rfl)
    | (apply WD.k_eql; exact rfl; exact y_eql; exact rfl; exact rfl)
    | (apply WD.k_neq; exact rfl; exact y_neq; exact rfl; exact rfl)
    | (apply WD.k_nil; exact rfl; (apply YO.nil; exact rfl); exact rfl; exact rfl)
    | (apply WD.k_extract; exact rfl; (apply YO.extract; exact rfl; exact rfl); exact rfl; exact rfl)
    | (apply WD.k_gtr; exact rfl; exact y_gtr; exact rfl; exact rfl)
    | (apply WD.k_geq; exact rfl; exact y_geq; exact rfl; exact rfl)
    | (apply WD.k_leq; exact rfl; exact y_leq; exact rfl; exact rfl)
    | (apply WD.k_sub; exact rfl; (apply YO.sub; exact rfl; exact rfl; omega; omega); exact rfl; exact rfl)
    | (apply WD.k_mul; exact rfl; exact y_mul; exact rfl; exact rfl)
    | (apply WD.k_rem; exact rfl; exact y_rem; exact rfl; exact rfl)
    | (apply WD.k_quo; exact rfl; exact y_quo; exact rfl; exact rfl)
    | (apply WD.k_unot; exact rfl; exact y_unot; exact rfl; exact rfl)
    | (apply WD.k_uneg; exact rfl; exact y_uneg; exact rfl; exact rfl)
    | (apply WD.k_max; exact rfl; (apply YO.max; exact rfl; exact rfl); exact rfl; exact rfl)
    | (apply WD.k_min; exact rfl; (apply YO.min; exact rfl; exact rfl); exact rfl; exact rfl)
    | (apply WD.k_makeFunc; exact rfl; exact y_makeFunc; exact rfl; exact rfl)
    | (apply WD.k_conv; exact rfl; exact y_conv; exact rfl; exact rfl)
    | (apply WD.k_shl; exact rfl; exact y_shl; exact rfl; exact rfl)
    | (apply WD.k_shr; exact rfl; (apply YO.shr'; exact rfl; exact rfl; omega; omega); exact rfl; exact rfl)
    | (apply WD.k_and; exact rfl; exact y_and; exact rfl; exact rfl)
    | (apply WD.k_or; exact rfl; exact y_or; exact rfl; exact rfl)
    | (apply WD.k_andNot; exact rfl; (apply YO.anot; exact rfl; exact rfl); exact rfl; exact rfl)
    | (apply WD.k_slice; exact rfl; exact y_slice; exact rfl; exact rfl)
    | (apply WD.k_build; exact rfl; exact y_build; exact rfl; exact rfl)
    | (apply WD.kl_store; exact rfl; rotate_left; exact rfl; (first | (apply LO.storeOI; exact rfl; exact rfl; exact t2A; exact seA; (first | omega | (simp only [List.length_set]; omega))) | (apply LO.storeQ; exact rfl; exact rfl; exact t6A; exact hmA; exact seA; omega) | (apply LO.storeL1; exact rfl; exact rfl; exact t6A; exact hmA; exact seA; omega) | (apply LO.storeOT; exact rfl; exact rfl; exact t2A; (first | exact One.lit rfl rfl | (apply One.sl; exact knA)); exact seA; omega) | (apply LO.storeB2; exact rfl; exact rfl; exact t6A; exact hmA; exact seA) | (apply LO.storeBf; exact rfl; exact rfl; exact t2A; exact seA; omega) | (apply LO.storeBt; exact rfl; exact rfl; exact t2A; exact seA; omega) | (apply LO.storeBq; exact rfl; exact rfl; exact t6A; exact hmA; exact seA; omega) | (apply LO.storeI; exact rfl; exact rfl; exact t2A; exact seA; (first | omega | (simp only [List.length_set, List.length_replicate]; omega))) | (apply LO.storeWI; exact rfl; exact rfl; exact seA; exact t6A; (first | omega | (simp only [List.length_set, List.length_replicate]; omega)); (first | (simp only [List.length_map, List.length_set, List.length_replicate, ints]; omega) | rfl)) | (apply LO.store1; exact rfl; exact rfl; exact t2A; (first | exact One.lit rfl rfl | (apply One.sl; exact knA)); exact seA; (first | (simp only [List.length_cons, List.length_nil]; omega) | (simp; omega)); (first | (simp only [List.set_cons_succ, List.set_cons_zero]; exact rfl) | exact rfl)) | (apply LO.storeO1; exact rfl; exact rfl; exact t2A; (first | exact One.lit rfl rfl | (apply One.sl; exact knA)); exact seA; (first | (simp only [List.length_cons, List.length_nil]; omega) | (simp; omega)); (first | (simp only [List.set_cons_succ, List.set_cons_zero]; exact rfl) | exact rfl)) | (apply LO.storeL; exact rfl; exact rfl; exact seA; exact t6A; exact rfl; exact rfl; (repeat (first | exact OneL.nil | (apply OneL.cons; (first | exact One.lit rfl rfl | (apply One.sl; exact knA))))))); constructor; exact ltA))
  exact Bx.h h) : G := s ⟨h⟩
theorem goG {G G' : Prop} (h : G') (s : Bx G' → G := by
  intro h
  (first
    | (apply WL.kl_alloc; rotate_left; exact rfl; exact rfl; apply LO.alloc'; (first | exact t0A))
    | (apply WL.kl_box; rotate_left; exact rfl; exact rfl; (first | (apply LO.boxA; exact rfl) | (apply LO.box1; exact rfl; (first | exact One.lit rfl rfl | (apply One.sl; exact knA))))))
  exact Bx.h h) : G := s ⟨h⟩
theorem goV {G G' : Prop} (h : G') (s : Bx G' → G := by
  intro h
  (first
    | (apply WL.kl_ms; rotate_left; exact rfl; exact rfl; (apply LO.makeI; exact rfl; exact rfl; (repeat (first | (with_reducible apply NatI.add) | (with_reducible exact NatI.one) | exact NatI.cast _)); omega))
    | (apply WL.kl_ms; rotate_left; exact rfl; exact rfl; (apply LO.makeR; exact rfl; exact rfl; (repeat (first | (with_reducible apply NatI.add) | (with_reducible exact NatI.one) | exact NatI.cast _)); omega))
    | (apply WL.kl_ms; rotate_left; exact rfl; exact rfl; (apply LO.makeLn; exact rfl; exact rfl; (repeat (first | (with_reducible apply NatI.add) | (with_reducible exact NatI.one) | exact NatI.cast _)); omega))
    | (apply WL.kl_ms; rotate_left; exact rfl; exact rfl; (apply LO.makeTT; exact rfl; exact rfl; (repeat (first | (with_reducible apply NatI.add) | (with_reducible exact NatI.one) | exact NatI.cast _)); omega))
    | (apply WL.kl_bs; rotate_left; exact rfl; exact rfl; (apply LO.bsR0))
    | (apply WL.kl_bs; rotate_left; exact rfl; exact rfl; (apply LO.bsB0))
    | (apply WL.kl_bs; rotate_left; exact rfl; exact rfl; (apply LO.bsR1; exact rfl))
    | (apply WL.kl_bs; rotate_left; exact rfl; exact rfl; (apply LO.bsB1; exact rfl))
    | (apply WL.kl_bs; rotate_left; exact rfl; exact rfl; (apply LO.bsT1; exact rfl; exact knA))
    | (apply WL.kl_app; rotate_left; exact rfl; exact rfl; (apply LO.appTT; exact rfl; exact rfl; exact meA; (apply One.sl; exact knA); (intro _; exact seA); omega))
    | (apply WL.kl_app; rotate_left; exact rfl; exact rfl; (apply LO.appRo; exact rfl; exact rfl; exact meA; exact hmA; omega; (intro _; exact seA); omega))
    | (apply WL.kl_app; rotate_left; exact rfl; exact rfl; (apply LO.appBf; exact rfl; exact rfl; exact hmA; (intro _; exact seA); omega))
    | (apply WL.kl_app; rotate_left; exact rfl; exact rfl; (apply LO.appR1; exact rfl; exact rfl; exact meA; exact hmA; (intro _; exact seA); omega))
    | (apply WL.kl_app; rotate_left; exact rfl; exact rfl; (apply LO.appB1; exact rfl; exact rfl; exact meA; exact hmA; (intro _; exact seA); omega))
    | (apply WL.kl_app; rotate_left; exact rfl; exact rfl; (apply LO.appT1; exact rfl; exact rfl; exact meA; (first | exact One.lit rfl rfl | (apply One.sl; exact knA)); (intro _; exact seA); (simp only [List.length_append, List.length_cons, List.length_nil, List.length_map, List.length_range]; omega)))
    | (apply WL.kl_bs; rotate_left; exact rfl; exact rfl; apply LO.bs1; exact t5A; (repeat (first | exact EvP.nil | (apply EvP.cons; exact rfl))); (intro _; kernel_rfl); exact rfl; omega)
    | (apply WL.kl_app; rotate_left; exact rfl; exact rfl; apply LO.app; exact t4A; exact rfl; exact rfl; (first | (focus (apply SrcE.ints; exact hmA; done)) | (focus (apply SrcE.own1; exact meA; done)) | (focus (apply SrcE.one; exact meA; exact rfl; decide; done))); (intro v; exact seA); exact onA; exact leA; exact leA))
  exact Bx.h h) : G := s ⟨h⟩
theorem goDG {G G' : Prop} (h : G') (s : Bx G' → G := by
  intro h
  (first
    | (apply WD.kl_alloc; exact rfl; rotate_left; exact rfl; exact rfl; apply LO.alloc'; (first | exact t0A); apply allAnd; (intro _; exact ltA))
    | (apply WD.kl_box; exact rfl; rotate_left; exact rfl; exact rfl; (first | (apply LO.boxA; exact rfl) | (apply LO.box1; exact rfl; (first | exact One.lit rfl rfl | (apply One.sl; exact knA)))); apply allAnd; (intro _; exact ltA)))
  exact Bx.h h) : G := s ⟨h⟩
theorem goDV {G G' : Prop} (h : G') (s : Bx G' → G := by
  intro h
  (first
    | (apply WD.kl_ms; exact rfl; rotate_left; exact rfl; exact rfl; (apply LO.makeI; exact rfl; exact rfl; (repeat (first | (with_reducible apply NatI.add) | (with_reducible exact NatI.one) | exact NatI.cast _)); omega); apply allAnd; (intro _; exact ltA))
    | (apply WD.kl_ms; exact rfl; rotate_left; exact rfl; exact rfl; (apply LO.makeR; exact rfl; exact rfl; (repeat (first | (with_reducible apply NatI.add) | (with_reducible exact NatI.one) | exact NatI.cast _)); omega); apply allAnd; (intro _; exact ltA))
    | (apply WD.kl_ms; exact rfl; rotate_left; exact rfl; exact rfl; (apply LO.makeLn; exact rfl; exact rfl; (repeat (first | (with_reducible apply NatI.add) | (with_reducible exact NatI.one) | exact NatI.cast _)); omega); apply allAnd; (intro _; exact ltA))
    | (apply WD.kl_ms; exact rfl; rotate_left; exact rfl; exact rfl; (apply LO.makeTT; exact rfl; exact rfl; (repeat (first | (with_reducible apply NatI.add) | (with_reducible exact NatI.one) | exact NatI.cast _)); omega); apply allAnd; (intro _; exact ltA))
    | (apply WD.kl_bs; exact rfl; rotate_left; exact rfl; exact rfl; (apply LO.bsR0); apply allAnd; (intro _; exact ltA))
    | (apply WD.kl_bs; exact rfl; rotate_left; exact rfl; exact rfl; (apply LO.bsB0); apply allAnd; (intro _; exact ltA))
    | (apply WD.kl_bs; exact rfl; rotate_left; exact rfl; exact rfl; (apply LO.bsR1; exact rfl); apply allAnd; (intro _; exact ltA))
    | (apply WD.kl_bs; exact rfl; rotate_left; exact rfl; exact rfl; (apply LO.bsB1; exact rfl); apply allAnd; (intro _; exact ltA))
    | (apply WD.kl_bs; exact rfl; rotate_left; exact rfl; exact rfl; (apply LO.bsT1; exact rfl; exact knA); apply allAnd; (intro _; exact ltA))
    | (apply WD.kl_app; exact rfl; rotate_left; exact rfl; exact rfl; (apply LO.appTT; exact rfl; exact rfl; exact meA; (apply One.sl; exact knA); (intro _; exact seA); omega); apply allAnd; (intro _; exact ltA))
    | (apply WD.kl_app; exact rfl; rotate_left; exact rfl; exact rfl; (apply LO.appRo; exact rfl; exact rfl; exact meA; exact hmA; omega; (intro _; exact seA); omega); apply allAnd; (intro _; exact ltA))
    | (apply WD.kl_app; exact rfl; rotate_left; exact rfl; exact rfl; (apply LO.appBf; exact rfl; exact rfl; exact hmA; (intro _; exact seA); omega); apply allAnd; (intro _; exact ltA))
    | (apply WD.kl_app; exact rfl; rotate_left; exact rfl; exact rfl; (apply LO.appR1; exact rfl; exact rfl; exact meA; exact hmA; (intro _; exact seA); omega); apply allAnd; (intro _; exact ltA))
    | (apply WD.kl_app; exact rfl; rotate_left; exact rfl; exact rfl; (apply LO.appB1; exact rfl; exact rfl; exact meA; exact hmA; (intro _; exact seA); omega); apply allAnd; (intro _; exact ltA))
    | (apply WD.kl_app; exact rfl; rotate_left; exact rfl; exact rfl; (apply LO.appT1; exact rfl; exact rfl; exact meA; (first | exact One.lit rfl rfl | (apply One.sl; exact knA)); (intro _; exact seA); (simp only [List.length_append, List.length_cons, List.length_nil, List.length_map, List.length_range]; omega)); apply allAnd; (intro _; exact ltA))
    | (apply WD.kl_bs; exact rfl; rotate_left; exact rfl; exact rfl; apply LO.bs1; exact t5A; (repeat (first | exact EvP.nil | (apply EvP.cons; exact rfl))); (intro _; kernel_rfl); exact rfl; omega; apply allAnd; (intro _; exact ltA))
    | (apply WD.kl_app; exact rfl; rotate_left; exact rfl; exact rfl; apply LO.app; exact t4A; exact rfl; exact rfl; (first | (focus (apply SrcE.ints; exact hmA; done)) | (focus (apply SrcE.own1; exact meA; done)) | (focus (apply SrcE.one; exact meA; exact rfl; decide; done))); (intro v; exact seA); exact onA; exact leA; exact leA; apply allAnd; (intro _; exact ltA)))
  exact Bx.h h) : G := s ⟨h⟩
theorem goLG {G G' : Prop} (h : G') (s : Bx G' → G := by
  intro h
  (first
    | (apply LO.alloc'; (first | exact t0A); apply allAnd; (intro _; exact ltA))
    | ((first | (apply LO.boxA; exact rfl) | (apply LO.box1; exact rfl; (first | exact One.lit rfl rfl | (apply One.sl; exact knA)))); apply allAnd; (intro _; exact ltA)))
  exact Bx.h h) : G := s ⟨h⟩
theorem goLV {G G' : Prop} (h : G') (s : Bx G' → G := by
  intro h
  (first
    | (apply LO.bs1; exact t5A; (repeat (first | exact EvP.nil | (apply EvP.cons; exact rfl))); (intro _; kernel_rfl); exact rfl; omega; apply allAnd; (intro _; exact ltA))
    | (apply LO.app; exact t4A; exact rfl; exact rfl; (first | (focus (apply SrcE.ints; exact hmA; done)) | (focus (apply SrcE.own1; exact meA; done)) | (focus (apply SrcE.one; exact meA; exact rfl; decide; done))); (intro v; exact seA); exact onA; exact leA; exact leA; apply allAnd; (intro _; exact ltA))
    | ((apply LO.makeI; exact rfl; exact rfl; (repeat (first | (with_reducible apply NatI.add) | (with_reducible exact NatI.one) | exact NatI.cast _)); omega); apply allAnd; (intro _; exact ltA))
    | ((apply LO.makeR; exact rfl; exact rfl; (repeat (first | (with_reducible apply NatI.add) | (with_reducible exact NatI.one) | exact NatI.cast _)); omega); apply allAnd; (intro _; exact ltA))
    | ((apply LO.makeLn; exact rfl; exact rfl; (repeat (first | (with_reducible apply NatI.add) | (with_reducible exact NatI.one) | exact NatI.cast _)); omega); apply allAnd; (intro _; exact ltA))
    | ((apply LO.makeTT; exact rfl; exact rfl; (repeat (first | (with_reducible apply NatI.add) | (with_reducible exact NatI.one) | exact NatI.cast _)); omega); apply allAnd; (intro _; exact ltA))
    | ((apply LO.bsR0); apply allAnd; (intro _; exact ltA))
    | ((apply LO.bsB0); apply allAnd; (intro _; exact ltA))
    | ((apply LO.bsR1; exact rfl); apply allAnd; (intro _; exact ltA))
    | ((apply LO.bsB1; exact rfl); apply allAnd; (intro _; exact ltA))
    | ((apply LO.bsT1; exact rfl; exact knA); apply allAnd; (intro _; exact ltA))
    | ((apply LO.appTT; exact rfl; exact rfl; exact meA; (apply One.sl; exact knA); (intro _; exact seA); omega); apply allAnd; (intro _; exact ltA))
    | ((apply LO.appRo; exact rfl; exact rfl; exact meA; exact hmA; omega; (intro _; exact seA); omega); apply allAnd; (intro _; exact ltA))
    | ((apply LO.appBf; exact rfl; exact rfl; exact hmA; (intro _; exact seA); omega); apply allAnd; (intro _; exact ltA))
    | ((apply LO.appR1; exact rfl; exact rfl; exact meA; exact hmA; (intro _; exact seA); omega); apply allAnd; (intro _; exact ltA))
    | ((apply LO.appB1; exact rfl; exact rfl; exact meA; exact hmA; (intro _; exact seA); omega); apply allAnd; (intro _; exact ltA))
    | ((apply LO.appT1; exact rfl; exact rfl; exact meA; (first | exact One.lit rfl rfl | (apply One.sl; exact knA)); (intro _; exact seA); (simp only [List.length_append, List.length_cons, List.length_nil, List.length_map, List.length_range]; omega)); apply allAnd; (intro _; exact ltA)))
  exact Bx.h h) : G := s ⟨h⟩
theorem goLS {G G' : Prop} (h : G') (s : Bx G' → G := by
  intro h
  (first
    | ((first | (apply LO.storeOI; exact rfl; exact rfl; exact t2A; exact seA; (first | omega | (simp only [List.length_set]; omega))) | (apply LO.storeQ; exact rfl; exact rfl; exact t6A; exact hmA; exact seA; omega) | (apply LO.storeL1; exact rfl; exact rfl; exact t6A; exact hmA; exact seA; omega) | (apply LO.storeOT; exact rfl; exact rfl; exact t2A; (first | exact One.lit rfl rfl | (apply One.sl; exact knA)); exact seA; omega) | (apply LO.storeB2; exact rfl; exact rfl; exact t6A; exact hmA; exact seA) | (apply LO.storeBf; exact rfl; exact rfl; exact t2A; exact seA; omega) | (apply LO.storeBt; exact rfl; exact rfl; exact t2A; exact seA; omega) | (apply LO.storeBq; exact rfl; exact rfl; exact t6A; exact hmA; exact seA; omega) | (apply LO.storeI; exact rfl; exact rfl; exact t2A; exact seA; (first | omega | (simp only [List.length_set, List.length_replicate]; omega))) | (apply LO.storeWI; exact rfl; exact rfl; exact seA; exact t6A; (first | omega | (simp only [List.length_set, List.length_replicate]; omega)); (first | (simp only [List.length_map, List.length_set, List.length_replicate, ints]; omega) | rfl)) | (apply LO.store1; exact rfl; exact rfl; exact t2A; (first | exact One.lit rfl rfl | (apply One.sl; exact knA)); exact seA; (first | (simp only [List.length_cons, List.length_nil]; omega) | (simp; omega)); (first | (simp only [List.set_cons_succ, List.set_cons_zero]; exact rfl) | exact rfl)) | (apply LO.storeO1; exact rfl; exact rfl; exact t2A; (first | exact One.lit rfl rfl | (apply One.sl; exact knA)); exact seA; (first | (simp only [List.length_cons, List.length_nil]; omega) | (simp; omega)); (first | (simp only [List.set_cons_succ, List.set_cons_zero]; exact rfl) | exact rfl)) | (apply LO.storeL; exact rfl; exact rfl; exact seA; exact t6A; exact rfl; exact rfl; (repeat (first | exact OneL.nil | (apply OneL.cons; (first | exact One.lit rfl rfl | (apply One.sl; exact knA))))))); constructor; exact ltA))
  exact Bx.h h) : G := s ⟨h⟩
theorem goYL {G G' : Prop} (h : G') (s : Bx G' → G := by
  intro h
  (apply WD.fy; exact rfl; (first | (apply YO.move; exact rfl) | (apply YO.assign; exact rfl) | exact y_lss | exact y_add | exact y_len | exact y_indexAddr | exact y_load | exact y_pick | exact y_fieldAddr | exact y_eql | exact y_neq | (apply YO.nil; exact rfl) | (apply YO.extract; exact rfl; exact rfl) | exact y_gtr | exact y_geq | exact y_leq | (apply YO.sub; exact rfl; exact rfl; omega; omega) | exact y_mul | exact y_rem | exact y_quo | exact y_unot | exact y_uneg | (apply YO.max; exact rfl; exact rfl) | (apply YO.min; exact rfl; exact rfl) | exact y_makeFunc | exact y_conv | exact y_shl | (apply YO.shr'; exact rfl; exact rfl; omega; omega) | exact y_and | exact y_or | (apply YO.anot; exact rfl; exact rfl) | exact y_slice); exact rfl; exact rfl)
  exact Bx.h h) : G := s ⟨h⟩
theorem goYT {G G' : Prop} (h : G') (s : Bx G' → G := by
  intro h
  (apply WD.yl; exact rfl; (first | (apply YO.move; exact rfl) | (apply YO.assign; exact rfl) | exact y_lss | exact y_add | exact y_len | exact y_indexAddr | exact y_load | exact y_pick | exact y_fieldAddr | exact y_eql | exact y_neq | (apply YO.nil; exact rfl) | (apply YO.extract; exact rfl; exact rfl) | exact y_gtr | exact y_geq | exact y_leq | (apply YO.sub; exact rfl; exact rfl; omega; omega) | exact y_mul | exact y_rem | exact y_quo | exact y_unot | exact y_uneg | (apply YO.max; exact rfl; exact rfl) | (apply YO.min; exact rfl; exact rfl) | exact y_makeFunc | exact y_conv | exact y_shl | (apply YO.shr'; exact rfl; exact rfl; omega; omega) | exact y_and | exact y_or | (apply YO.anot; exact rfl; exact rfl) | exact y_slice); exact rfl; exact rfl)
  exact Bx.h h) : G := s ⟨h⟩
end I
end Go.Proofs.YthggloiigkbfeaaGreat
namespace Go.Proofs.YthggloiigkbfeaaGreat
open W Go.RowKit
def I64 (n : Int) : Prop := -9223372036854775808 ≤ n ∧ n ≤ 9223372036854775807
def around (n m : Int) : Int := (if n < 0 then -(n+1) else n) % m
theorem around_lt {n m : Int} (hm : 0 < m) : 0 ≤ around n m ∧ around n m < m := ⟨Int.emod_nonneg _ (by omega), Int.emod_lt_of_pos _ hm⟩
theorem getD_i64 {l : List Int} (hl : ∀ x ∈ l, I64 x) (k : Nat) : I64 (l.getD k 0) := by
  rw [List.getD_eq_getElem?_getD]
  cases h : l[k]? with
  | none => simp [I64]
  | some x => simpa using hl x (List.mem_of_getElem? h)
def atP (l : List Int) (i m : Int) : Int := if i < 0 ∨ (l.length : Int) ≤ i then 0 else around (l.getD i.toNat 0) m
theorem atP_lt {l : List Int} {i m : Int} (hm : 0 < m) : 0 ≤ atP l i m ∧ atP l i m < m := by
  unfold atP; split
  · omega
  · exact around_lt hm
theorem same_all {l m : List Int} (hl : l.length = m.length) (h : ∀ j, j < l.length → l.getD j 0 = m.getD j 0) : l = m := by
  apply List.ext_getElem hl
  intro i h1 h2
  have := h i h1
  simpa [List.getD_eq_getElem?_getD, h1, h2] using this
namespace I
open G H
attribute [local irreducible] WC WL WD YO LO LoopEnd W.Fin Scalar SliceT FieldAt Row ArrT AllocT KnS Has W.One SrcE IntT
theorem d28 {G G' : Prop} (h : G') (s : Bx G' → G := by
  intro h
  first | (apply WC.draw (id := 6) [0, 1, 2, 3, 4, 5, 6, 7, 8] (.held 0 (.held 1 (.held 2 (.held 3 (.held 4 (.held 5 (.held 6 (.held 7 (.held 8 (.done)))))))))) mixed (by kernel_rfl)) | fail
  exact Bx.h h) : G := s ⟨h⟩
set_option maxHeartbeats 4000000 in
set_option maxRecDepth 60000 in
theorem around_c (n m : Int) (hn : I64 n) (hm : 0 < m) : FnB Tryz.prog 30 [.int .i64 n, .int .i64 m] [] [] (IsV (.int .i64 (around n m))) := by
  obtain ⟨hn, hn2⟩ := hn
  refine fn_of [(0, (.int .i64 n)), (1, (.int .i64 m))] 13 Tryz.func30 rfl Tryz.ntmps30 (by kernel_rfl) rfl suA fun h0 => ?_
  by_cases h : n < 0
  · repeat' (first | refine go ?_ | refine goX ?_ | refine goB ?_ | (refine goG ?_; intro g) | (refine goV ?_; intro v))
    exact WC.ret (Fin.v (ResE.t1 rfl rfl) meA (by simp [around, h]))
  · repeat' (first | refine go ?_ | refine goX ?_ | refine goB ?_ | (refine goG ?_; intro g) | (refine goV ?_; intro v))
    exact WC.ret (Fin.v (ResE.t1 rfl rfl) meA (by simp [around, h]))
set_option maxHeartbeats 4000000 in
set_option maxRecDepth 60000 in
theorem at_c (v : Value) (l : List Int) (i m : Int) (hl : ∀ x ∈ l, I64 x) (hm : 0 < m) : FnB Tryz.prog 35 [v, .int .i64 i, .int .i64 m] [] [sI v l] (IsV (.int .i64 (atP l i m))) := by
  refine fn_of [(0, v), (1, (.int .i64 i)), (2, (.int .i64 m))] 21 Tryz.func35 rfl Tryz.ntmps35 (by kernel_rfl) rfl suA fun h0 => ?_
  refine WC.lenI v l hmA fun hlen => ?_
  by_cases h : i < 0
  · repeat' (first | refine go ?_ | refine goX ?_ | refine goB ?_ | (refine goG ?_; intro g) | (refine goV ?_; intro v))
    exact WC.ret (Fin.v (ResE.t1 rfl rfl) meA (by simp [atP, h]))
  by_cases h2 : (l.length : Int) ≤ i
  · repeat' (first | refine go ?_ | refine goX ?_ | refine goB ?_ | (refine goG ?_; intro g) | (refine goV ?_; intro v))
    exact WC.ret (Fin.v (ResE.t1 rfl rfl) meA (by simp [atP, h2]))
  · repeat' (first | refine go ?_ | refine goX ?_ | refine goB ?_ | (refine goG ?_; intro g) | (refine goV ?_; intro v))
    first | refine WL.callV (around_c _ _ (getD_i64 hl _) hm) ?_ | refine WD.callV (around_c _ _ (getD_i64 hl _) hm) ?_
    repeat' (first | refine go ?_ | refine goX ?_ | refine goB ?_ | (refine goG ?_; intro g) | (refine goV ?_; intro v))
    exact WC.ret (Fin.v (ResE.t1 rfl rfl) meA (by simp [atP, h, h2]))
set_option maxHeartbeats 4000000 in
set_option maxRecDepth 60000 in
theorem take_c (v : Value) (l : List Int) (m : Nat) (hm2 : m ≤ 100) : FnB Tryz.prog 31 [v, .int .i64 m] [] [sI v l] (IsO 3 1 (ints (l.take m))) := by
  refine fn_of [(0, v), (1, (.int .i64 m))] 14 Tryz.func31 rfl Tryz.ntmps31 (by kernel_rfl) rfl suA fun h0 => ?_
  refine WC.addNil 3 1 ?_
  refine WC.lenI v l hmA fun hlen => ?_
  repeat' (first | refine go ?_ | refine goX ?_ | refine goB ?_ | (refine goG ?_; intro g) | (refine goV ?_; intro v))
  have hmin : (min (l.length : Int) (m : Int)) = ((min l.length m : Nat) : Int) := by omega
  rw [hmin]
  refine WL.y (YO.slice (a := 0) (b := min l.length m) T.s22 rfl (KnS.f hmA) (.inl ⟨rfl, rfl⟩) (.inr ⟨_, rfl, rfl⟩) (by omega) (by omega)) rfl rfl ?_
  have hs := fun F (h : Has F (sI v l)) => Has.takeI h (Nat.min_le_left l.length m)
  refine WL.l rfl rfl (LO.app T.e22 rfl rfl (SrcE.ints (hs _ hmA)) (by intro v; repeat (first | exact Sel.head | apply Sel.tail)) (ints_one _) (by simp only [List.length_map, List.length_take, List.length_nil]; omega) (by simp only [List.length_map, List.length_take, List.length_nil]; omega) fun v' => ?_)
  repeat' (first | refine go ?_ | refine goX ?_ | refine goB ?_ | (refine goG ?_; intro g) | (refine goV ?_; intro v))
  exact WC.ret (Fin.o (ResE.t1 rfl rfl) meA meA (by rw [show l.take (min l.length m) = l.take m from by rw [List.take_eq_take_iff]; omega]; rfl))
set_option maxHeartbeats 4000000 in
set_option maxRecDepth 60000 in
theorem sameInts_c (v u : Value) (l m : List Int) : FnB Tryz.prog 28 [v, u] [] [sI v l, sI u m] (IsV (.bool (decide (l = m)))) := by
  refine fn_of [(0, v), (1, u)] 26 Tryz.func28 rfl Tryz.ntmps28 (by kernel_rfl) rfl suA fun h0 => ?_
  refine WC.lenI v l hmA fun hlen => ?_
  by_cases hl : l.length = m.length
  · repeat' (first | refine go ?_ | refine goX ?_ | refine goB ?_ | (refine goG ?_; intro g) | (refine goV ?_; intro v) | refine goD ?_ | refine goXD ?_ | (refine goDG ?_; intro g) | (refine goDV ?_; intro v) | refine d28 ?_ | fail)
    refine WC.lp (σ := Nat) (fun k => [(5, .int .i64 (k : Int)), (0, v), (1, u)]) (fun _ => []) (fun _ => [ge h0, sI v l, sI u m]) (fun k => k ≤ l.length ∧ ∀ j, j < k → l.getD j 0 = m.getD j 0) (fun k => l.length - k) 0 ⟨Nat.zero_le _, fun j h => by omega⟩ ?_
    rintro k ⟨hk, hn⟩
    by_cases hlt : k < l.length
    · by_cases he : l.getD k 0 = m.getD k 0
      · repeat' (first | refine go ?_ | refine goX ?_ | refine goB ?_ | (refine goG ?_; intro g) | (refine goV ?_; intro v) | refine goD ?_ | refine goXD ?_ | (refine goDG ?_; intro g) | (refine goDV ?_; intro v) | refine d28 ?_ | fail)
        refine LoopEnd.mk (k + 1) ⟨by omega, fun j hj => ?_⟩ (by show l.length - (k + 1) < l.length - k; omega)
        by_cases hjk : j = k
        · subst hjk; exact he
        · exact hn j (by omega)
      · repeat' (first | refine go ?_ | refine goX ?_ | refine goB ?_ | (refine goG ?_; intro g) | (refine goV ?_; intro v) | refine goD ?_ | refine goXD ?_ | (refine goDG ?_; intro g) | (refine goDV ?_; intro v) | refine d28 ?_ | fail)
        exact WC.ret (Fin.v (ResE.t1 rfl rfl) meA (by rw [decide_eq_false]; rintro rfl; exact he rfl))
    · repeat' (first | refine go ?_ | refine goX ?_ | refine goB ?_ | (refine goG ?_; intro g) | (refine goV ?_; intro v) | refine goD ?_ | refine goXD ?_ | (refine goDG ?_; intro g) | (refine goDV ?_; intro v) | refine d28 ?_ | fail)
      exact WC.ret (Fin.v (ResE.t1 rfl rfl) meA (by rw [decide_eq_true]; exact same_all hl (fun j hj => hn j (by omega))))
  · have hl' : (l.length : Int) ≠ m.length := by omega
    repeat' (first | refine go ?_ | refine goX ?_ | refine goB ?_ | (refine goG ?_; intro g) | (refine goV ?_; intro v) | refine goD ?_ | refine goXD ?_ | (refine goDG ?_; intro g) | (refine goDV ?_; intro v) | refine d28 ?_ | fail)
    exact WC.ret (Fin.v (ResE.t1 rfl rfl) meA (by rw [decide_eq_false]; rintro rfl; exact hl rfl))
end I
end Go.Proofs.YthggloiigkbfeaaGreat
namespace Go.Proofs.YthggloiigkbfeaaGreat
open Go.RowKit Go.Maps Go.Sort Go.Shelf
def laySorted_ren : Go.Shelf.Ren := ⟨fun | 6 => 89 | 8 => 137 | 9 => 138 | 11 => 155 | 13 => 157 | 12 => 156 | 23 => 178 | 24 => 179 | 14 => 169 | 15 => 170 | 16 => 171 | 17 => 172 | 18 => 173 | 19 => 174 | 20 => 175 | 21 => 176 | 22 => 177 | 25 => 182 | 26 => 183 | 27 => 184 | 28 => 185 | 29 => 186 | 30 => 166 | 31 => 187 | n => n, fun | 26 => 3 | 28 => 135 | 24 => 22 | 0 => 0 | 3 => 3 | 37 => 73 | 48 => 182 | 50 => 164 | 4 => 4 | 40 => 189 | 39 => 188 | 45 => 176 | 5 => 5 | 9 => 9 | 51 => 195 | 55 => 199 | 57 => 201 | 58 => 202 | 33 => 94 | n => n, fun | n => n⟩
theorem laySorted : SlLaysZI.n6 Tryz.prog laySorted_ren := {
  mixed := by kernel_rfl
  f6 := ⟨Tryz.f89.name, by decide, Tryz.func89.trans (congrArg some (by kernel_rfl))⟩
  f8 := ⟨Tryz.f137.name, by decide, Tryz.func137.trans (congrArg some (by kernel_rfl))⟩
  f11 := ⟨Tryz.f155.name, by decide, Tryz.func155.trans (congrArg some (by kernel_rfl))⟩
  t0 := Tryz.underlying0
  a0 := Tryz.isAgg0
  z0 := Tryz.sizeOf0
  v0 := Tryz.zeroValue0
  t24 := Tryz.underlying22
  a24 := Tryz.isAgg22
  z24 := Tryz.sizeOf22
  v24 := Tryz.zeroValue22
  t26 := Tryz.underlying3
  a26 := Tryz.isAgg3
  z26 := Tryz.sizeOf3
  v26 := Tryz.zeroValue3
  t28 := Tryz.underlying135
  a28 := Tryz.isAgg135
  z28 := Tryz.sizeOf135
  v28 := Tryz.zeroValue135
  i26 := by kernel_rfl }
def laySort_ren : Go.Shelf.Ren := ⟨fun | 5 => 138 | 8 => 157 | 7 => 156 | 19 => 178 | 20 => 179 | 10 => 169 | 11 => 170 | 12 => 171 | 13 => 172 | 14 => 173 | 15 => 174 | 16 => 175 | 17 => 176 | 18 => 177 | 30 => 182 | 31 => 183 | 32 => 184 | 33 => 185 | 34 => 186 | 35 => 166 | 40 => 187 | n => n, fun | 23 => 22 | 25 => 3 | 3 => 3 | 32 => 73 | 22 => 22 | 0 => 0 | 44 => 182 | 46 => 164 | 4 => 4 | 36 => 189 | 35 => 188 | 41 => 176 | 5 => 5 | 9 => 9 | 53 => 195 | 57 => 199 | 63 => 201 | 64 => 202 | n => n, fun | n => n⟩
theorem laySort : SlLaysM.n5 Tryz.prog laySort_ren := {
  mixed := by kernel_rfl
  f5 := ⟨Tryz.f138.name, by decide, Tryz.func138.trans (congrArg some (by kernel_rfl))⟩
  f7 := ⟨Tryz.f156.name, by decide, Tryz.func156.trans (congrArg some (by kernel_rfl))⟩
  f8 := Tryz.func157.trans (congrArg some (by kernel_rfl))
  f10 := ⟨Tryz.f169.name, by decide, Tryz.func169.trans (congrArg some (by kernel_rfl))⟩
  f11 := ⟨Tryz.f170.name, by decide, Tryz.func170.trans (congrArg some (by kernel_rfl))⟩
  f12 := ⟨Tryz.f171.name, by decide, Tryz.func171.trans (congrArg some (by kernel_rfl))⟩
  f13 := ⟨Tryz.f172.name, by decide, Tryz.func172.trans (congrArg some (by kernel_rfl))⟩
  f14 := ⟨Tryz.f173.name, by decide, Tryz.func173.trans (congrArg some (by kernel_rfl))⟩
  f15 := ⟨Tryz.f174.name, by decide, Tryz.func174.trans (congrArg some (by kernel_rfl))⟩
  f16 := ⟨Tryz.f175.name, by decide, Tryz.func175.trans (congrArg some (by kernel_rfl))⟩
  f17 := ⟨Tryz.f176.name, by decide, Tryz.func176.trans (congrArg some (by kernel_rfl))⟩
  f18 := ⟨Tryz.f177.name, by decide, Tryz.func177.trans (congrArg some (by kernel_rfl))⟩
  f19 := Tryz.func178.trans (congrArg some (by kernel_rfl))
  f20 := Tryz.func179.trans (congrArg some (by kernel_rfl))
  f30 := ⟨Tryz.f182.name, by decide, Tryz.func182.trans (congrArg some (by kernel_rfl))⟩
  f31 := Tryz.func183.trans (congrArg some (by kernel_rfl))
  f32 := Tryz.func184.trans (congrArg some (by kernel_rfl))
  f33 := ⟨Tryz.f185.name, by decide, Tryz.func185.trans (congrArg some (by kernel_rfl))⟩
  f34 := ⟨Tryz.f186.name, by decide, Tryz.func186.trans (congrArg some (by kernel_rfl))⟩
  f35 := ⟨Tryz.f166.name, by decide, Tryz.func166.trans (congrArg some (by kernel_rfl))⟩
  f40 := ⟨Tryz.f187.name, by decide, Tryz.func187.trans (congrArg some (by kernel_rfl))⟩
  t0 := Tryz.underlying0
  a0 := Tryz.isAgg0
  z0 := Tryz.sizeOf0
  v0 := Tryz.zeroValue0
  t3 := Tryz.underlying3
  a3 := Tryz.isAgg3
  z3 := Tryz.sizeOf3
  v3 := Tryz.zeroValue3
  t4 := Tryz.underlying4
  a4 := Tryz.isAgg4
  z4 := Tryz.sizeOf4
  v4 := Tryz.zeroValue4
  t5 := Tryz.underlying5
  a5 := Tryz.isAgg5
  z5 := Tryz.sizeOf5
  v5 := Tryz.zeroValue5
  t9 := Tryz.underlying9
  a9 := Tryz.isAgg9
  z9 := Tryz.sizeOf9
  v9 := Tryz.zeroValue9
  t22 := Tryz.underlying22
  a22 := Tryz.isAgg22
  z22 := Tryz.sizeOf22
  v22 := Tryz.zeroValue22
  t23 := Tryz.underlying22
  a23 := Tryz.isAgg22
  z23 := Tryz.sizeOf22
  v23 := Tryz.zeroValue22
  t25 := Tryz.underlying3
  a25 := Tryz.isAgg3
  z25 := Tryz.sizeOf3
  v25 := Tryz.zeroValue3
  t32 := Tryz.underlying73
  a32 := Tryz.isAgg73
  z32 := Tryz.sizeOf73
  v32 := Tryz.zeroValue73
  t35 := Tryz.underlying188
  a35 := Tryz.isAgg188
  z35 := Tryz.sizeOf188
  v35 := Tryz.zeroValue188
  t36 := Tryz.underlying189
  a36 := Tryz.isAgg189
  z36 := Tryz.sizeOf189
  v36 := Tryz.zeroValue189
  t41 := Tryz.underlying176
  a41 := Tryz.isAgg176
  z41 := Tryz.sizeOf176
  v41 := Tryz.zeroValue176
  t44 := Tryz.underlying182
  a44 := Tryz.isAgg182
  z44 := Tryz.sizeOf182
  v44 := Tryz.zeroValue182
  t46 := Tryz.underlying164
  a46 := Tryz.isAgg164
  z46 := Tryz.sizeOf164
  v46 := Tryz.zeroValue164
  t53 := Tryz.underlying195
  a53 := Tryz.isAgg195
  z53 := Tryz.sizeOf195
  v53 := Tryz.zeroValue195
  t57 := Tryz.underlying199
  a57 := Tryz.isAgg199
  z57 := Tryz.sizeOf199
  v57 := Tryz.zeroValue199
  t63 := Tryz.underlying201
  a63 := Tryz.isAgg201
  z63 := Tryz.sizeOf201
  v63 := Tryz.zeroValue201
  t64 := Tryz.underlying202
  a64 := Tryz.isAgg202
  z64 := Tryz.sizeOf202
  v64 := Tryz.zeroValue202 }
section
attribute [local go_sem] Oper.semAt_some
variable {P : Program} {ρ : Ren}
set_option maxRecDepth 100000 in
set_option maxHeartbeats 2000000 in
theorem appendValues_in (L : SlLaysZI.n11 P ρ) (F : Fence) (n : Nat) (h11 : F.fn (ρ.f 11)) (hro : F.round = none) (hn : 2 ≤ n) (g : Nat) (lb : Array Value) (hFg : F.fn g) (eg : ∀ args w, (callFunc g args).run P w = .ok (.enter g args) w)
    (zs : List Int) (hN : zs.length ≤ maxLen) (hNb : zs.length * 8 ≤ 140737488355328) (w : World) (hseq : ∀ (l : Nat) (J : List Int → World → Prop) (W : World), (∀ pre W1, J pre W1 → Below w.heap.size w W1) → (∀ pre x W1, J pre W1 → pre.length < zs.length → YieldAt F (n - 1 - 1) P l #[encZ x] W1 fun e W' => e = .returned (.bool true) ∧ J (pre ++ [x]) W') → J [] W → CallsIn F (n - 1) P g (#[.func (.yield l) #[] #[]] ++ lb) W fun e W' => (∃ v, e = .returned v) ∧ J zs W') :
    CallsIn F n P (ρ.f 11) #[.slice none 0 0, .func (.func g) #[] lb] w fun e w' => ∃ (v : Value), e = .returned v ∧ w'.ownsRow w.heap.size (ρ.t 26) 1 v zs.length (zs.map encZ) ∧ Below w.heap.size w w' := by
  have h1 : 1 ≤ n := by omega
  have mixed := L.mixed; have t0 := L.t0; have a0 := L.a0; have z0 := L.z0; have v0 := L.v0; have t24 := L.t24; have a24 := L.a24; have z24 := L.z24; have v24 := L.v24; have t26 := L.t26; have a26 := L.a26; have z26 := L.z26; have v26 := L.v26; have t28 := L.t28; have a28 := L.a28; have z28 := L.z28; have v28 := L.v28
  have hne : ρ.t 24 ≠ ρ.t 26 := fun e => by have h := L.t24; rw [e, L.t26] at h; cases h
  have u0 := run_underlying L.t0; have u24 := run_underlying L.t24; have u26 := run_underlying L.t26; have u28 := run_underlying L.t28
  obtain ⟨_, _, FG⟩ := L.f11
  refine callsIn_of_wp_marks FG rfl h11 ?_ hro
  simp only [SlBodyZ.n11_ntmps ρ, List.size_toArray, List.length_cons, List.length_nil, Nat.reduceAdd, Nat.reduceSub, Array.replicate_succ, Array.replicate_zero, List.push_toArray, List.append_toArray, List.nil_append, List.cons_append]
  gi_wp2
  refine wpIn_rangeFunc ?_
  intro fn hfn
  rw [hro]
  obtain ⟨W0, hW0⟩ : ∃ W0, w.alloc (.cells #[.slice none 0 0] (ρ.t 24)) = W0 := ⟨_, rfl⟩
  have hs0 : W0.heap.size = w.heap.size + 1 := by rw [← hW0]; simp
  have hv0 : W0.heap[w.heap.size]? = some (.cells #[.slice none 0 0] (ρ.t 24) (0, 0)) := by rw [← hW0]; exact World.alloc_heap_new w _
  have hb0 : Below w.heap.size w W0 := by rw [← hW0]; exact (Below.refl _ w).alloc (Nat.le_refl _) _
  rw [hW0]
  obtain ⟨W1, hW1⟩ : ∃ W1, (W0.alloc (.deferred (some []))).alloc (.loop (AnyZI.apRec ρ fn (.func (.func g) #[] lb) w.heap.size W0.heap.size .ready none)) = W1 := ⟨_, rfl⟩
  have hold : ∀ k, k < W0.heap.size → W1.heap[k]? = W0.heap[k]? := fun k hk => by
    rw [← hW1]; exact (Below.heap_alloc _ _ k (by simp; omega)).trans (Below.heap_alloc _ _ k hk)
  have hb1 : Below w.heap.size w W1 := by rw [← hW1]; exact (hb0.alloc hb0.size _).alloc (by have := hb0.size; simp; omega) _
  have hs1 : W1.heap.size = W0.heap.size + 2 := by rw [← hW1]; simp
  have hM : AnyZI.ApAt ρ w fn (.func (.func g) #[] lb) w.heap.size (W0.heap.size + 1) W0.heap.size [] W1 :=
    ⟨⟨_, (hold w.heap.size (by omega)).trans hv0, ⟨rfl, .inl ⟨rfl, rfl⟩⟩, by simp⟩,
     by rw [← hW1]; have := World.alloc_heap_new (W0.alloc (.deferred (some []))) (.loop (AnyZI.apRec ρ fn (.func (.func g) #[] lb) w.heap.size W0.heap.size .ready none)); rwa [World.size_alloc] at this,
     by rw [← hW1]; exact (Below.heap_alloc _ _ _ (by simp)).trans (World.alloc_heap_new W0 _), hb1⟩
  refine ⟨W0.heap.size + 1, [{ target := .collected W0.heap.size, args := #[] }], W1, { target := .fn (.func g) lb, args := #[.func (.yield (W0.heap.size + 1)) #[] #[]] }, W1, g,
    #[.func (.yield (W0.heap.size + 1)) #[] #[]] ++ lb, W1, ?_, ?_, ?_, ?_, fun _ => h1, ?_⟩
  · rw [← hW1]; exact run_enterLoop_outer _ _ _ _ _
  · simp [resolve, go_sem]
  · intro f' hf'; simp [Target.leads] at hf'; subst hf'; exact hFg
  · simp [invoke, go_sem, eg]
  · refine (hseq (W0.heap.size + 1) (AnyZI.ApAt ρ w fn (.func (.func g) #[] lb) w.heap.size (W0.heap.size + 1) W0.heap.size) W1 (fun pre W1 h => h.below)
      (fun pre x W hJ hl => by
        obtain ⟨fn', tmps, assign, body, hy, hR⟩ := AnyZI.apYield { L with } F (n - 1 - 1) w fn hfn (.func (.func g) #[] lb) w.heap.size (W0.heap.size + 1) W0.heap.size (by omega) (by omega) (by omega) (Nat.le_refl _) (by omega) zs.length hN hNb pre x W hJ hl
        exact ⟨fn', tmps, assign, body, hy, hR.mono fun e W' h => ⟨h.1, h.2.1⟩⟩) hM).mono ?_
    rintro e W2 ⟨⟨v0, rfl⟩, h2⟩
    obtain ⟨v, hv, hrow, hnil⟩ := h2.box
    have hend := run_endLoop (P := P) h2.L (by simp [AnyZI.apRec])
    obtain ⟨W3, hW3⟩ : ∃ W3, W2.putObj (W0.heap.size + 1) (.loop { AnyZI.apRec ρ fn (.func (.func g) #[] lb) w.heap.size W0.heap.size .ready none with state := .exhausted }) = W3 := ⟨_, rfl⟩
    rw [hW3] at hend
    have hg3 : W2.grownBy W3 (some (W0.heap.size + 1)) := by rw [← hW3]; exact grownBy_putObj_a _ _ _
    have hv3 : W3.heap[w.heap.size]? = some (.cells #[v] (ρ.t 24) (0, 0)) := by rw [← hW3]; exact (World.putObj_heap_other (by omega)).trans hv
    have hK3 : W3.heap[W0.heap.size]? = some (.deferred (some [])) := by rw [← hW3]; exact (World.putObj_heap_other (by omega)).trans h2.K
    have hrow3 := hrow.kept hg3 (ownsRow_ne_a hrow h2.L (fun cur e => by first | cases e | exact hne (Obj.cells.inj e).2.1))
    have hb3 : Below w.heap.size w W3 := h2.below.grown hg3 h2.below.size (fun k e => by cases e; omega)
    obtain ⟨hc3, hf3⟩ := cell_of_box_a hv3
    clear hW3
    refine ⟨none, W3, hend, ?_⟩
    gi_wp2
    rw [← hs0]
    refine ⟨by simp, .inl ⟨_, _, rfl, run_takeDeferred hK3, ?_⟩⟩
    exact ⟨_, results_tmp rfl _ _ _, v, rfl, hrow3.kept (grownBy_putObj_a _ _ _) (ownsRow_ne_a hrow3 hK3 (fun cur e => by first | cases e | exact hne (Obj.cells.inj e).2.1)), hb3.grown (grownBy_putObj_a _ _ _) hb3.size (fun k e => by cases e; omega)⟩
def upto {α : Type} (f : Nat → α) (k : Nat) : List α := (List.range k).map f
theorem upto_succ {α : Type} (f : Nat → α) (k : Nat) : upto f (k + 1) = upto f k ++ [f k] := by simp [upto, List.range_succ]
theorem upto_length {α : Type} (f : Nat → α) (k : Nat) : (upto f k).length = k := by simp [upto]
theorem upto_all (zs : List Int) : upto (fun j => zs[j]?.getD 0) zs.length = zs := by
  apply List.ext_getElem
  · simp [upto]
  · intro i h1 h2
    simp [upto, h2]
set_option maxRecDepth 100000 in
set_option maxHeartbeats 2000000 in
/-- slices.Values's closure, at whatever invariant of the rounds under which old memory stands -/
theorem values1_in (F : Fence) (n : Nat) (h7 : F.fn 139) (hro : F.round = none) (hn : 1 ≤ n) (w0 : World) (l Bs n₀ b off len cap : Nat) (zs : List Int) (hreach : len * 8 ≤ 140737488351232) (hb : b < n₀) (hBs0 : Bs < n₀) (J : List Int → World → Prop)
    (hJ : ∀ pre W, J pre W → Below n₀ w0 W)
    (hY : ∀ pre x W, J pre W → pre.length < len → YieldAt F (n - 1) Tryz.prog l #[.int .i64 x] W fun e W' => e = .returned (.bool true) ∧ J (pre ++ [x]) W')
    (W : World) (hBs : w0.cell? ⟨Bs, 0, none⟩ = some (.slice (some ⟨b, off, none⟩) len cap)) (hc : ∀ j, j < len → w0.cell? ⟨b, off + j, none⟩ = some (.int .i64 (zs[j]?.getD 0))) (h0 : J [] W) :
    CallsIn F n Tryz.prog 139 #[.func (.yield l) #[] #[], .pointer (some ⟨Bs, 0, none⟩)] W fun e W' => (∃ v, e = .returned v) ∧ J (upto (fun j => zs[j]?.getD 0) len) W' := by
  have hBs' : W.cell? ⟨Bs, 0, none⟩ = some (.slice (some ⟨b, off, none⟩) len cap) := ((hJ [] W h0).cell (p := ⟨Bs, 0, none⟩) hBs0).trans hBs
  refine callsIn_of_wp Tryz.func139 rfl h7 ?_ hro
  simp only [Tryz.ntmps139, List.size_toArray, List.length_cons, List.length_nil, Nat.reduceAdd, Nat.reduceSub, Array.replicate_succ, Array.replicate_zero, List.push_toArray, List.append_toArray, List.nil_append, List.cons_append]
  gi_wp2
  gi_loopw [7] (fun i wr => ∃ k : Nat, k ≤ len ∧ i = .int .i64 k ∧ J (upto (fun j => zs[j]?.getD 0) k) wr)
    (fun i _ => len - (intOf i).toNat)
  case atStart => exact ⟨0, Nat.zero_le _, rfl, h0⟩
  case round =>
    obtain ⟨k, hk, rfl, hJs⟩ := hrel
    have hcx : k < len → wr.cell? ⟨b, off + k, none⟩ = some (.int .i64 (zs[k]?.getD 0)) := fun h => ((hJ _ _ hJs).cell (p := ⟨b, off + k, none⟩) hb).trans (hc k h)
    by_cases hlt : k < len
    · obtain ⟨fn, tmps, assign, body, hy, hR⟩ := hY _ (zs[k]?.getD 0) wr hJs (by rw [upto_length]; exact hlt)
      have hcx' := hcx hlt
      gi_wp2
      refine hR.mono ?_
      rintro e W3 ⟨rfl, hJ3⟩
      gi_wp2
      go_roundw
      case rel => exact ⟨k + 1, by omega, by simp, by rw [upto_succ]; exact hJ3⟩
      case measure => simp [intOf]; omega
    · obtain rfl : k = len := by omega
      gi_wp2
      go_end0
      exact ⟨⟨_, rfl⟩, hJs⟩
set_option maxRecDepth 100000 in
set_option maxHeartbeats 1000000 in
theorem values1_nil_in (F : Fence) (n : Nat) (h7 : F.fn 139) (hro : F.round = none) (l Bs : Nat) (J : List Int → World → Prop) (W : World) (hBs : W.cell? ⟨Bs, 0, none⟩ = some (.slice none 0 0)) (h0 : J [] W) :
    CallsIn F n Tryz.prog 139 #[.func (.yield l) #[] #[], .pointer (some ⟨Bs, 0, none⟩)] W fun e W' => (∃ v, e = .returned v) ∧ J [] W' := by
  refine callsIn_of_wp Tryz.func139 rfl h7 ?_ hro
  simp only [Tryz.ntmps139, List.size_toArray, List.length_cons, List.length_nil, Nat.reduceAdd, Nat.reduceSub, Array.replicate_succ, Array.replicate_zero, List.push_toArray, List.append_toArray, List.nil_append, List.cons_append]
  gi_wp2
  gi_loopw [7] (fun i wr => i = .int .i64 0 ∧ J [] wr) (fun _ _ => 0)
  case atStart => exact ⟨rfl, h0⟩
  case round =>
    obtain ⟨rfl, hJs⟩ := hrel
    gi_wp2
    go_end0
    exact ⟨⟨_, rfl⟩, hJs⟩
end
end Go.Proofs.YthggloiigkbfeaaGreat
namespace Go.Proofs.YthggloiigkbfeaaGreat
open Go.RowKit Go.Maps Go.Sort Go.Shelf
section
variable {P : Program} {ρ : Ren}
set_option maxRecDepth 100000 in
set_option maxHeartbeats 1000000 in
theorem collectValues_in (L : SlLaysZI.n8 P ρ) (F : Fence) (n : Nat) (h8 : F.fn (ρ.f 8)) (h11 : F.fn (ρ.f 11)) (hro : F.round = none) (hn : 3 ≤ n) (g : Nat) (lb : Array Value) (hFg : F.fn g) (eg : ∀ args w, (callFunc g args).run P w = .ok (.enter g args) w)
    (zs : List Int) (hN : zs.length ≤ maxLen) (hNb : zs.length * 8 ≤ 140737488355328) (w : World) (hseq : ∀ (W0 : World), Below w.heap.size w W0 → ∀ (l : Nat) (J : List Int → World → Prop) (W : World), (∀ pre W1, J pre W1 → Below W0.heap.size W0 W1) → (∀ pre x W1, J pre W1 → pre.length < zs.length → YieldAt F (n - 1 - 1 - 1) P l #[encZ x] W1 fun e W' => e = .returned (.bool true) ∧ J (pre ++ [x]) W') → J [] W → CallsIn F (n - 1 - 1) P g (#[.func (.yield l) #[] #[]] ++ lb) W fun e W' => (∃ v, e = .returned v) ∧ J zs W') :
    CallsIn F n P (ρ.f 8) #[.func (.func g) #[] lb] w fun e w' => ∃ (v : Value), e = .returned v ∧ w'.ownsRow w.heap.size (ρ.t 26) 1 v zs.length (zs.map encZ) ∧ Below w.heap.size w w' := by
  have h1 : 1 ≤ n := by omega
  have e11 : ∀ args w, (callFunc (ρ.f 11) args).run P w = .ok (.enter (ρ.f 11) args) w := L.f11.enters rfl
  have mixed := L.mixed; have t0 := L.t0; have a0 := L.a0; have z0 := L.z0; have v0 := L.v0; have t24 := L.t24; have a24 := L.a24; have z24 := L.z24; have v24 := L.v24; have t26 := L.t26; have a26 := L.a26; have z26 := L.z26; have v26 := L.v26; have t28 := L.t28; have a28 := L.a28; have z28 := L.z28; have v28 := L.v28
  have u0 := run_underlying L.t0; have u24 := run_underlying L.t24; have u26 := run_underlying L.t26; have u28 := run_underlying L.t28
  obtain ⟨_, _, FG⟩ := L.f8
  refine callsIn_of_wp FG rfl h8 ?_ hro
  simp only [SlBodyZ.n8_ntmps ρ, List.size_toArray, List.length_cons, List.length_nil, Nat.reduceAdd, Nat.reduceSub, Array.replicate_succ, Array.replicate_zero, List.push_toArray, List.append_toArray, List.nil_append, List.cons_append]
  gi_wp2_with (gi_at_fn (ρ.f 11); refine (appendValues_in { L with } F (n - 1) h11 hro (by omega) g lb hFg eg zs hN hNb _ (fun l J W => hseq w (Below.refl _ w) l J W)).mono ?_; rintro e w' ⟨v, rfl, hrow, hb⟩)
  go_ret
  exact ⟨v, rfl, hrow, hb⟩
set_option maxRecDepth 100000 in
set_option maxHeartbeats 2000000 in
theorem sortedValues_in (L : SlLaysZI.n6 P ρ) (F : Fence) (n : Nat) (h6 : F.fn (ρ.f 6)) (h8 : F.fn (ρ.f 8)) (h9 : F.fn (ρ.f 9)) (h11 : F.fn (ρ.f 11)) (hro : F.round = none) (hn : 4 ≤ n) (hsort : AnyZI.SortsIn P ρ F (n - 1)) (e9 : ∀ args w, (callFunc (ρ.f 9) args).run P w = .ok (.enter (ρ.f 9) args) w) (g : Nat) (lb : Array Value) (hFg : F.fn g) (eg : ∀ args w, (callFunc g args).run P w = .ok (.enter g args) w)
    (zs : List Int) (hN : zs.length ≤ maxLen) (hNb : zs.length * 8 ≤ 140737488355328) (w : World) (hseq : ∀ (W0 : World), Below w.heap.size w W0 → ∀ (l : Nat) (J : List Int → World → Prop) (W : World), (∀ pre W1, J pre W1 → Below W0.heap.size W0 W1) → (∀ pre x W1, J pre W1 → pre.length < zs.length → YieldAt F (n - 1 - 1 - 1 - 1) P l #[encZ x] W1 fun e W' => e = .returned (.bool true) ∧ J (pre ++ [x]) W') → J [] W → CallsIn F (n - 1 - 1 - 1) P g (#[.func (.yield l) #[] #[]] ++ lb) W fun e W' => (∃ v, e = .returned v) ∧ J zs W') :
    CallsIn F n P (ρ.f 6) #[.func (.func g) #[] lb] w fun e w' => ∃ (v : Value), e = .returned v ∧
      w'.ownsRow w.heap.size (ρ.t 26) 1 v zs.length ((zs.mergeSort (fun x y => decide (x ≤ y))).map encZ) ∧ Below w.heap.size w w' := by
  have h1 : 1 ≤ n := by omega
  have e8 : ∀ args w, (callFunc (ρ.f 8) args).run P w = .ok (.enter (ρ.f 8) args) w := L.f8.enters rfl
  have mixed := L.mixed; have t0 := L.t0; have a0 := L.a0; have z0 := L.z0; have v0 := L.v0; have t24 := L.t24; have a24 := L.a24; have z24 := L.z24; have v24 := L.v24; have t26 := L.t26; have a26 := L.a26; have z26 := L.z26; have v26 := L.v26; have t28 := L.t28; have a28 := L.a28; have z28 := L.z28; have v28 := L.v28
  have u0 := run_underlying L.t0; have u24 := run_underlying L.t24; have u26 := run_underlying L.t26; have u28 := run_underlying L.t28
  obtain ⟨_, _, FG⟩ := L.f6
  refine callsIn_of_wp FG rfl h6 ?_ hro
  simp only [SlBodyZ.n6_ntmps ρ, List.size_toArray, List.length_cons, List.length_nil, Nat.reduceAdd, Nat.reduceSub, Array.replicate_succ, Array.replicate_zero, List.push_toArray, List.append_toArray, List.nil_append, List.cons_append]
  gi_wp2_with (gi_at_fn (ρ.f 8); refine (collectValues_in { L with } F (n - 1) h8 h11 hro (by omega) g lb hFg eg zs hN hNb _ hseq).mono ?_; rintro e W ⟨v, rfl, hrow, hb⟩)
  rcases hrow.2 with ⟨rfl, hz⟩ | ⟨gb, cap, cur, rfl, hbase, hgb, r1, r2, r3, r4⟩
  · -- nothing came: the nil slice is sorted and handed back
    have hss : zs = [] := List.eq_nil_of_length_eq_zero hz
    subst hss
    gi_wp2_with (gi_at_fn (ρ.f 9); refine (hsort.2 none 0 W).mono ?_; rintro e w' ⟨rfl, rfl⟩)
    go_ret
    exact ⟨.slice none 0 0, rfl, by simpa using hrow, hb⟩
  · have hH : Holds encZ W gb 0 zs.toArray := holds_of_block_i hgb (by simpa using r4)
    have hgl : gb < W.heap.size := (Array.getElem?_eq_some_iff.1 hgb).1
    have hsz : zs.length < 4611686018427387904 := by omega
    have cS := hsort.1 gb 0 cap zs W hH hgl hsz
    gi_wp2_with (gi_at_fn (ρ.f 9); refine cS.mono ?_; rintro e w' ⟨rfl, nn, os, rfl⟩)
    go_ret
    exact ⟨_, rfl, ownsRow_sorted_i (by simp) hbase hgb r1 r2 r3, hb.grown (grownBy_sorted_i _) hb.size (fun j hj => by cases hj; exact hbase)⟩
end
theorem laySorts (m : Nat) : AnyZI.SortsIn Tryz.prog laySorted_ren Fence.wide m :=
  ⟨fun blk off cap ss W hH hblk hsz => callsIn_wide.2 (AnyM.slices_Sort_int laySort blk off cap ss W hH hblk hsz),
   fun p cap W => callsIn_wide.2 (AnyM.slices_Sort_int_none laySort p cap W)⟩
/-- sorted -/
def srt (l : List Int) : List Int := l.mergeSort fun x y => decide (x ≤ y)
theorem srt_len (l : List Int) : (srt l).length = l.length := by unfold srt; exact List.length_mergeSort l
open W in
theorem sorted_c (g : Nat) (u : Value) (l : List Int) (hl : l.length ≤ 1000000) : FnB Tryz.prog 89 [.func (.func 139) #[] #[.pointer (some ⟨g, 0, none⟩)]] [] [ce g 22 [u], sI u l] (IsO 3 1 (ints (srt l))) := by
  refine ⟨⟨Tryz.f89, Tryz.func89, by kernel_rfl, by kernel_rfl⟩, fun fr w ho => ?_⟩
  have h1 := imm_heap (ho.facts _ (.head _))
  have h2 := ho.facts (sI u l) (.tail _ (.head _))
  have hgl : g < w.heap.size := (Array.getElem?_eq_some_iff.1 h1).1
  have hcg : w.cell? ⟨g, 0, none⟩ = some u := by
    have := ce_cell ho (Has.mem (.head _) : Has _ (ce g 22 [u])) 0
    simpa using this
  have key : CallsIn Fence.wide 5 Tryz.prog 89 #[.func (.func 139) #[] #[.pointer (some ⟨g, 0, none⟩)]] w fun e w' => ∃ (v : Value), e = .returned v ∧ w'.ownsRow w.heap.size 3 1 v l.length ((srt l).map encZ) ∧ RowKit.Below w.heap.size w w' := by
    have := sortedValues_in (ρ := laySorted_ren) laySorted Fence.wide 5 trivial trivial trivial trivial rfl (by omega) (laySorts _) (enters_of Tryz.func138 (by kernel_rfl) rfl) 139 #[.pointer (some ⟨g, 0, none⟩)] trivial (enters_of Tryz.func139 (by kernel_rfl) rfl) l (by unfold maxLen; omega) (by omega) w (fun W0 hW0 lp J W hJ hY h0 => by
      have hgl0 : g < W0.heap.size := Nat.lt_of_lt_of_le hgl hW0.size
      have hcg0 : W0.cell? ⟨g, 0, none⟩ = some u := (hW0.cell (p := ⟨g, 0, none⟩) hgl).trans hcg
      have h3 := h2
      obtain ⟨a, cap, rfl, hcap, hmax, ⟨rfl, hz, rfl⟩ | ⟨b, off, rfl, c, t, fz, hb, hc⟩⟩ := h3
      · have hl0 : l = [] := List.eq_nil_of_length_eq_zero hz
        subst hl0
        exact values1_nil_in Fence.wide _ trivial rfl lp g J W (((hJ [] W h0).cell (p := ⟨g, 0, none⟩) hgl0).trans hcg0) h0
      · have hbh := imm_heap hb
        have hbl : b < w.heap.size := (Array.getElem?_eq_some_iff.1 hbh).1
        have hcell : ∀ j, j < l.length → W0.cell? ⟨b, off + j, none⟩ = some (.int .i64 (l[j]?.getD 0)) := fun j hj => by
          refine (hW0.cell (p := ⟨b, off + j, none⟩) hbl).trans ?_
          have := slC_cell h2 (j := j) (by simpa using hj)
          simpa [eaddr, List.getD_eq_getElem?_getD] using this
        have := values1_in Fence.wide _ trivial rfl (by omega) W0 lp g W0.heap.size b off l.length cap l (by omega) (Nat.lt_of_lt_of_le hbl hW0.size) hgl0 J hJ hY W hcg0 hcell h0
        rw [upto_all] at this; exact this)
    exact this
  refine ((callsIn_wide (n := 5)).1 key).mono ?_
  rintro e w' ⟨v, rfl, hrow, hb⟩
  have hown := owns_slice hrow
  have hmap : (srt l).map encZ = ints (srt l) := rfl
  rw [hmap] at hown
  have hids : ∀ k ∈ ids [Ow.slice v 3 1 (ints (srt l))], k ∈ ids [] ∨ w.heap.size ≤ k := by
    intro k hk
    right
    obtain ⟨_, ⟨rfl, _⟩ | ⟨g', cap, cur, rfl, hbase, _⟩⟩ := hrow
    · simp [ids, Ow.ids] at hk
    · simp [ids, Ow.ids] at hk; omega
  have hkeep : ∀ k, k < w.heap.size → k ∉ ids [] → w'.heap[k]? = w.heap[k]? := fun k hk _ => hb.block k hk
  refine ⟨v, [Ow.slice v 3 1 (ints (srt l))], [], rfl, ⟨rfl, rfl⟩, ⟨hb.os, hb.tape, hb.output⟩, ?_, ?_⟩
  · have := imm_step (ob := []) (bx := []) (nb := [Ow.slice v 3 1 (ints (srt l))]) ho hkeep hids
    simpa using this
  · have := OK.step (ob := []) (bx := []) (nb := [Ow.slice v 3 1 (ints (srt l))]) ho hkeep hids (by
      obtain ⟨_, ⟨rfl, _⟩ | ⟨g', cap, cur, rfl, hbase, _⟩⟩ := hrow
      · simp [ids, Ow.ids]
      · simp [ids, Ow.ids]) (fun b hb2 => by rw [List.mem_singleton] at hb2; subst hb2; exact hown)
    exact this.less (fun f hf => by cases hf)
end Go.Proofs.YthggloiigkbfeaaGreat
namespace Go.Proofs.YthggloiigkbfeaaGreat
open Go.RowKit Go.Sort Go.Shelf
def layCompact_ren : Go.Shelf.Ren := ⟨fun | 20 => 88 | n => n, fun | 22 => 22 | 3 => 3 | 4 => 4 | 0 => 0 | n => n, fun | n => n⟩
theorem layCompact : Lays2.n20 Tryz.prog layCompact_ren := {
  mixed := by kernel_rfl
  f20 := Tryz.func88.trans (congrArg some (by kernel_rfl))
  t0 := Tryz.underlying0
  a0 := Tryz.isAgg0
  z0 := Tryz.sizeOf0
  v0 := Tryz.zeroValue0
  t3 := Tryz.underlying3
  a3 := Tryz.isAgg3
  z3 := Tryz.sizeOf3
  v3 := Tryz.zeroValue3
  t4 := Tryz.underlying4
  a4 := Tryz.isAgg4
  z4 := Tryz.sizeOf4
  v4 := Tryz.zeroValue4
  t22 := Tryz.underlying22
  a22 := Tryz.isAgg22
  z22 := Tryz.sizeOf22
  v22 := Tryz.zeroValue22
  i3 := by kernel_rfl }
def layDelete_ren : Go.Shelf.Ren := ⟨fun | 10 => 91 | 6 => 108 | n => n, fun | 22 => 22 | 23 => 3 | 25 => 94 | 3 => 3 | 4 => 4 | 0 => 0 | n => n, fun | n => n⟩
theorem layDelete : SlLaysH.n10 Tryz.prog layDelete_ren := {
  mixed := by kernel_rfl
  f6 := ⟨Tryz.f108.name, by decide, Tryz.func108.trans (congrArg some (by kernel_rfl))⟩
  f10 := ⟨Tryz.f91.name, by decide, Tryz.func91.trans (congrArg some (by kernel_rfl))⟩
  t0 := Tryz.underlying0
  a0 := Tryz.isAgg0
  z0 := Tryz.sizeOf0
  v0 := Tryz.zeroValue0
  t3 := Tryz.underlying3
  a3 := Tryz.isAgg3
  z3 := Tryz.sizeOf3
  v3 := Tryz.zeroValue3
  t4 := Tryz.underlying4
  a4 := Tryz.isAgg4
  z4 := Tryz.sizeOf4
  v4 := Tryz.zeroValue4
  t22 := Tryz.underlying22
  a22 := Tryz.isAgg22
  z22 := Tryz.sizeOf22
  v22 := Tryz.zeroValue22
  a23 := Tryz.isAgg3
  z23 := Tryz.sizeOf3
  t25 := Tryz.underlying94
  a25 := Tryz.isAgg94
  z25 := Tryz.sizeOf94
  v25 := Tryz.zeroValue94 }
open W
/-- a function that turns an owned slice of integers in its place and hands back a part of it -/
theorem row_fn {f : FuncId} {rest : List Value} {l new : List Int} {v : Value} {F : List Fct} (hc : Callable Tryz.prog f) (hne : l ≠ []) (hlen : new.length ≤ l.length)
    (h : ∀ fr w g cap, v = .slice (some ⟨g, 0, none⟩) l.length cap → l.length ≤ cap → OK fr [Ow.slice v 3 1 (ints l)] F w → Holds (Value.int .i64) w g 0 l.toArray → Calls Tryz.prog f (v :: rest).toArray w fun e w' => e = .returned (.slice (some ⟨g, 0, none⟩) new.length cap) ∧ ∃ q, w' = putRow (Value.int .i64) (Sort.ahead w q) g 0 (new ++ List.replicate (l.length - new.length) 0).toArray) :
    FnB Tryz.prog f (v :: rest) [Ow.slice v 3 1 (ints l)] F (IsO 3 1 (ints new)) := by
  refine ⟨hc, fun fr w ho => ?_⟩
  obtain ⟨n, h1, ⟨_, h2⟩ | ⟨g, cap, sp, rfl, h3, h4, h5, h6⟩⟩ := ho.owns _ (.head _)
  · exfalso; subst h2; simp at h1; exact hne h1
  have hn : n = l.length := by simpa using h1.symm
  subst hn
  have hH : Holds (Value.int .i64) w g 0 l.toArray := fun j hj => by
    have hj' : j < l.length := by simpa using hj
    constructor
    · unfold World.cell?
      rw [h5]
      simp [hj']
      rw [List.getElem?_append_left (by simpa using hj')]
      simp [hj']
    · unfold World.frozen?; rw [h5]; simp
  refine (h fr w g cap rfl h3 ho hH).mono ?_
  rintro e w' ⟨rfl, q, rfl⟩
  have hw' : (putRow (Value.int .i64) (Sort.ahead w q) g 0 (new ++ List.replicate (l.length - new.length) 0).toArray).heap[g]? = some (.cells (ints new ++ (ints (List.replicate (l.length - new.length) 0) ++ sp)).toArray 3 (0, 0)) := by
    unfold putRow mapBlock
    show (w.heap.modify g _)[g]? = _
    rw [Array.getElem?_modify, if_pos rfl, h5]
    simp only [Option.map_some, onCells]
    congr 2
    apply Array.ext_getElem?
    intro k
    unfold putCells
    rw [Array.getElem?_mapIdx]
    simp only [List.getElem?_toArray]
    rw [← List.append_assoc]
    by_cases hk : k < l.length
    · rw [List.getElem?_append_left (by simpa using hk), List.getElem?_append_left (by simp; omega)]
      have e1 : (ints l)[k]? = some (.int .i64 l[k]) := by simp [hk]
      rw [e1, Option.map_some, if_pos (by simp; omega)]
      rw [show ints new ++ ints (List.replicate (l.length - new.length) 0) = ints (new ++ List.replicate (l.length - new.length) 0) by simp [ints]]
      have hk2 : k < (new ++ List.replicate (l.length - new.length) 0).length := by simp; omega
      have e3 : (ints (new ++ List.replicate (l.length - new.length) 0))[k]? = some (.int .i64 (new ++ List.replicate (l.length - new.length) 0)[k]) := by
        unfold ints; rw [List.getElem?_map, List.getElem?_eq_getElem hk2]; rfl
      rw [e3, getElem!_pos _ _ (by simpa using hk2)]
      rfl
    · rw [List.getElem?_append_right (by simp; omega), List.getElem?_append_right (by simp; omega)]
      have e2 : (ints l).length = (ints new ++ ints (List.replicate (l.length - new.length) 0)).length := by simp; omega
      rw [e2]
      cases sp[k - (ints new ++ ints (List.replicate (l.length - new.length) 0)).length]? with
      | none => rfl
      | some x => rw [Option.map_some, if_neg (by simp; omega)]
  have hother : ∀ k, k ≠ g → (putRow (Value.int .i64) (Sort.ahead w q) g 0 (new ++ List.replicate (l.length - new.length) 0).toArray).heap[k]? = w.heap[k]? := fun k hk => by
    unfold putRow mapBlock
    show (w.heap.modify g _)[k]? = _
    rw [Array.getElem?_modify, if_neg (fun h => hk h.symm)]
  have hids : ∀ k ∈ ids [Ow.slice (.slice (some ⟨g, 0, none⟩) new.length cap) 3 1 (ints new)], k ∈ ids [Ow.slice (.slice (some ⟨g, 0, none⟩) l.length cap) 3 1 (ints l)] ∨ w.heap.size ≤ k := fun k hk => .inl (by simpa [ids, Ow.ids] using hk)
  have hkeep : ∀ k, k < w.heap.size → k ∉ ids [Ow.slice (.slice (some ⟨g, 0, none⟩) l.length cap) 3 1 (ints l)] → (putRow (Value.int .i64) (Sort.ahead w q) g 0 (new ++ List.replicate (l.length - new.length) 0).toArray).heap[k]? = w.heap[k]? := fun k _ hk => hother k (by simpa [ids, Ow.ids] using hk)
  refine ⟨_, [Ow.slice (.slice (some ⟨g, 0, none⟩) new.length cap) 3 1 (ints new)], [], rfl, ⟨rfl, rfl⟩, ⟨rfl, rfl, rfl⟩, ?_, ?_⟩
  · have := imm_step (ob := [Ow.slice (.slice (some ⟨g, 0, none⟩) l.length cap) 3 1 (ints l)]) (bx := []) (nb := [Ow.slice (.slice (some ⟨g, 0, none⟩) new.length cap) 3 1 (ints new)]) ho hkeep hids
    simpa using this
  · have := OK.step (ob := [Ow.slice (.slice (some ⟨g, 0, none⟩) l.length cap) 3 1 (ints l)]) (bx := []) (nb := [Ow.slice (.slice (some ⟨g, 0, none⟩) new.length cap) 3 1 (ints new)]) ho hkeep hids (by simp [ids, Ow.ids]) (fun b hb => by
      rw [List.mem_singleton] at hb; subst hb
      refine ⟨new.length, by simp, .inr ⟨g, cap, ints (List.replicate (l.length - new.length) 0) ++ sp, rfl, by omega, h4, hw', ?_⟩⟩
      simp only [List.length_append, List.length_map, List.length_replicate] at h6 ⊢
      omega)
    exact this.less (fun f hf => by cases hf)
theorem compact_le (l : List Int) : (Lib.compact l).length ≤ l.length := by
  unfold Lib.compact Lib.compactUpTo
  rw [List.length_map]
  exact Nat.le_trans (List.length_filter_le _ _) (by simp)
theorem compact_c (v : Value) (l : List Int) (hl : l.length ≤ 1000000) (hne : l ≠ []) : FnB Tryz.prog 88 [v] [Ow.slice v 3 1 (ints l)] [] (IsO 3 1 (ints (Lib.compact l))) :=
  row_fn ⟨Tryz.f88, Tryz.func88, by kernel_rfl, by kernel_rfl⟩ hne (compact_le l) fun fr w g cap hv hcap _ hH => by
    subst hv
    exact Any.slices_Compact_int layCompact g 0 cap l w hH (by omega) hcap
set_option maxHeartbeats 1000000 in
theorem neg_gives (W : World) (x : Int) : FnGives Tryz.prog 92 #[] #[.int .i64 x] (.bool (decide (x < 0))) W := by
  unfold FnGives
  show Calls Tryz.prog 92 #[.int .i64 x] W _
  go_enter Tryz.func92, Tryz.ntmps92
  go_wp2
  go_ret
  exact ⟨rfl, 0, rfl⟩
set_option maxHeartbeats 1000000 in
theorem eq_gives (W : World) (x y : Int) (g : Nat) (hc : W.cell? ⟨g, 0, none⟩ = some (.int .i64 y)) : FnGives Tryz.prog 95 #[.pointer (some ⟨g, 0, none⟩)] #[.int .i64 x] (.bool (decide (x = y))) W := by
  unfold FnGives
  show Calls Tryz.prog 95 #[.int .i64 x, .pointer (some ⟨g, 0, none⟩)] W _
  go_enter Tryz.func95, Tryz.ntmps95
  go_wp2
  go_ret
  exact ⟨rfl, 0, rfl⟩
theorem delete_row {v : Value} {l : List Int} {F : List Fct} (hl : l.length ≤ 1000000) (hne : l ≠ []) (p : Int → Bool) (g : Nat) (lb : Array Value) (eg : ∀ args w, (callFunc g args).run Tryz.prog w = .ok (.enter g args) w)
    (hp : ∀ fr w b cap, v = .slice (some ⟨b, 0, none⟩) l.length cap → OK fr [Ow.slice v 3 1 (ints l)] F w → PredAt Tryz.prog g lb (Value.int .i64) p w ∧ PredOver Tryz.prog g lb (Value.int .i64) p b 0 l.length w) :
    FnB Tryz.prog 91 [v, .func (.func g) #[] lb] [Ow.slice v 3 1 (ints l)] F (IsO 3 1 (ints (l.filter fun x => !p x))) :=
  row_fn ⟨Tryz.f91, Tryz.func91, by kernel_rfl, by kernel_rfl⟩ hne (List.length_filter_le _ _) fun fr w b cap hv hcap ho hH => by
    obtain ⟨h1, h2⟩ := hp fr w b cap hv ho
    subst hv
    have := AnyE.slices_DeleteFunc layDelete (Value.int .i64) (fun _ => rfl) p g lb eg 0 (fun w => Tryz.zeroValue3 w) b 0 cap l.toArray w h1 h2 hH (by simp; omega) (by simpa using hcap)
    exact this
end Go.Proofs.YthggloiigkbfeaaGreat
namespace Go.Proofs.YthggloiigkbfeaaGreat
open W Go.RowKit
theorem fidx_in {l : List Int} {p : Int → Bool} : 0 ≤ fidx (fun i => p (l.getD i 0)) l.length 0 ↔ ∃ x ∈ l, p x = true := by
  rw [fidx_has]
  constructor
  · rintro ⟨j, _, h1, h2⟩
    exact ⟨_, mem_getD.2 ⟨j, by omega, rfl⟩, h2⟩
  · rintro ⟨x, hx, h⟩
    obtain ⟨j, h1, rfl⟩ := mem_getD.1 hx
    exact ⟨j, Nat.zero_le _, by omega, h⟩
/-- answers the iterator of a slice -/
def IsIt (u : Value) : RPost := fun v b G => ∃ g, v = .func (.func 139) #[] #[ptr g] ∧ b = [] ∧ G = [ce g 22 [u]]
namespace I
open G H
attribute [local irreducible] WC WL WD YO LO LoopEnd W.Fin Scalar SliceT FieldAt Row ArrT AllocT KnS Has W.One SrcE IntT
theorem d88 {G G' : Prop} (h : G') (s : Bx G' → G := by
  intro h
  first | (apply WC.draw (id := 6) [0, 1, 2, 3, 4, 5, 6, 7, 8, 9] (.held 0 (.held 1 (.held 2 (.held 3 (.held 4 (.held 5 (.held 6 (.held 7 (.held 8 (.held 9 (.done))))))))))) mixed (by kernel_rfl)) | (apply WC.draw (id := 11) [0, 1, 2, 3, 4, 5, 6, 7, 8, 9] (.held 0 (.held 1 (.held 2 (.held 3 (.held 4 (.held 5 (.held 6 (.held 7 (.held 8 (.held 9 (.done))))))))))) mixed (by kernel_rfl)) | fail
  exact Bx.h h) : G := s ⟨h⟩
set_option maxHeartbeats 4000000 in
set_option maxRecDepth 60000 in
theorem values_c (u : Value) (l : List Int) : FnB Tryz.prog 90 [u] [] [sI u l] (IsIt u) := by
  refine fn_of [(0, u)] 4 Tryz.func90 rfl Tryz.ntmps90 (by kernel_rfl) rfl suA fun h0 => ?_
  repeat' (first | refine go ?_ | refine goX ?_ | refine goB ?_ | (refine goG ?_; intro g) | (refine goV ?_; intro v))
  refine WC.keep (g := g) (t := 22) (cs := [u]) (by repeat (first | exact Rem.head | apply Rem.tail)) ?_
  exact WC.ret (Fin.p [] [ce g 22 [u]] (ResE.t1 rfl rfl) meA (List.nil_sublist _) haA ⟨g, rfl, rfl, rfl⟩)
set_option maxHeartbeats 4000000 in
set_option maxRecDepth 60000 in
theorem indexF_c (u : Value) (l : List Int) (f : FuncId) (cap : List Value) (fG : Fct) (p : Int → Bool) (hp : ∀ x, FnB Tryz.prog f ([.int .i64 x] ++ cap) [] [fG] (IsV (.bool (p x)))) :
    FnB Tryz.prog 108 [u, .func (.func f) #[] cap.toArray] [] [sI u l, fG] (IsV (.int .i64 (fidx (fun i => p (l.getD i 0)) l.length 0))) := by
  refine fn_of [(0, u), (1, (.func (.func f) #[] cap.toArray))] 19 Tryz.func108 rfl Tryz.ntmps108 (by kernel_rfl) rfl suA fun h0 => ?_
  refine WC.lenI u l hmA fun hlen => ?_
  repeat' (first | refine go ?_ | refine goX ?_ | refine goB ?_ | (refine goG ?_; intro g) | (refine goV ?_; intro v))
  refine WC.lp (σ := Nat) (fun i => [(8, .int .i64 (i : Int)), (7, .int .i64 (l.length : Int)), (0, u), (1, .func (.func f) #[] cap.toArray)]) (fun _ => []) (fun _ => [ge h0, sI u l, fG]) (fun i => i ≤ l.length ∧ fidx (fun i => p (l.getD i 0)) (l.length - i) i = fidx (fun i => p (l.getD i 0)) l.length 0) (fun i => l.length - i) 0 ⟨by omega, rfl⟩ ?_
  rintro i ⟨hi, hs⟩
  by_cases c : i < l.length
  · rw [show l.length - i = l.length - (i + 1) + 1 by omega, fidx] at hs
    repeat' (first | refine go ?_ | refine goX ?_ | refine goB ?_ | (refine goG ?_; intro g) | (refine goV ?_; intro v))
    refine WL.callF [] cap (hp (l.getD i 0)) ?_
    rintro _ _ _ ⟨rfl, rfl, rfl⟩
    rw [List.nil_append]
    cases h : p (l.getD i 0) with
    | true =>
      rw [h, if_pos rfl] at hs
      repeat' (first | refine go ?_ | refine goX ?_ | refine goB ?_ | (refine goG ?_; intro g) | (refine goV ?_; intro v))
      exact WC.ret (Fin.v (ResE.t1 rfl rfl) meA (by rw [hs]))
    | false =>
      rw [h, if_neg (by simp)] at hs
      repeat' (first | refine go ?_ | refine goX ?_ | refine goB ?_ | (refine goG ?_; intro g) | (refine goV ?_; intro v))
      exact LoopEnd.mk (i + 1) ⟨by omega, hs⟩ (by show l.length - (i + 1) < l.length - i; omega)
  · rw [show l.length - i = 0 by omega, fidx] at hs
    repeat' (first | refine go ?_ | refine goX ?_ | refine goB ?_ | (refine goG ?_; intro g) | (refine goV ?_; intro v))
    exact WC.ret (Fin.v (ResE.t1 rfl rfl) meA (by rw [← hs]))
set_option maxHeartbeats 4000000 in
set_option maxRecDepth 60000 in
theorem containsF_c (u : Value) (l : List Int) (f : FuncId) (cap : List Value) (fG : Fct) (p : Int → Bool) (hp : ∀ x, FnB Tryz.prog f ([.int .i64 x] ++ cap) [] [fG] (IsV (.bool (p x)))) :
    FnB Tryz.prog 52 [u, .func (.func f) #[] cap.toArray] [] [sI u l, fG] (IsV (.bool (decide (∃ x ∈ l, p x = true)))) := by
  refine fn_of [(0, u), (1, (.func (.func f) #[] cap.toArray))] 9 Tryz.func52 rfl Tryz.ntmps52 (by kernel_rfl) rfl suA fun h0 => ?_
  rw [show decide (∃ x ∈ l, p x = true) = decide (0 ≤ fidx (fun i => p (l.getD i 0)) l.length 0) from decide_eq_decide.2 fidx_in.symm]
  repeat' (first | refine go ?_ | refine goX ?_ | refine goB ?_ | (refine goG ?_; intro g) | (refine goV ?_; intro v))
  first | refine WL.callV (indexF_c u l f cap fG p hp) ?_ | refine WD.callV (indexF_c u l f cap fG p hp) ?_
  by_cases c : 0 ≤ fidx (fun i => p (l.getD i 0)) l.length 0
  · rw [decide_eq_true c]
    repeat' (first | refine go ?_ | refine goX ?_ | refine goB ?_ | (refine goG ?_; intro g) | (refine goV ?_; intro v))
    exact WC.ret (Fin.v (ResE.t1 rfl rfl) meA rfl)
  · rw [decide_eq_false c]
    repeat' (first | refine go ?_ | refine goX ?_ | refine goB ?_ | (refine goG ?_; intro g) | (refine goV ?_; intro v))
    exact WC.ret (Fin.v (ResE.t1 rfl rfl) meA rfl)
set_option maxHeartbeats 4000000 in
set_option maxRecDepth 60000 in
theorem index_c (u : Value) (l : List Int) (x : Int) : FnB Tryz.prog 107 [u, .int .i64 x] [] [sI u l] (IsV (.int .i64 (fidx (fun i => decide (x = l.getD i 0)) l.length 0))) := by
  refine fn_of [(0, u), (1, (.int .i64 x))] 19 Tryz.func107 rfl Tryz.ntmps107 (by kernel_rfl) rfl suA fun h0 => ?_
  refine WC.lenI u l hmA fun hlen => ?_
  repeat' (first | refine go ?_ | refine goX ?_ | refine goB ?_ | (refine goG ?_; intro g) | (refine goV ?_; intro v))
  refine WC.lp (σ := Nat) (fun i => [(8, .int .i64 (i : Int)), (7, .int .i64 (l.length : Int)), (0, u), (1, .int .i64 x)]) (fun _ => []) (fun _ => [ge h0, sI u l]) (fun i => i ≤ l.length ∧ fidx (fun i => decide (x = l.getD i 0)) (l.length - i) i = fidx (fun i => decide (x = l.getD i 0)) l.length 0) (fun i => l.length - i) 0 ⟨by omega, rfl⟩ ?_
  rintro i ⟨hi, hs⟩
  by_cases c : i < l.length
  · rw [show l.length - i = l.length - (i + 1) + 1 by omega, fidx] at hs
    by_cases h : x = l.getD i 0
    · rw [decide_eq_true h, if_pos rfl] at hs
      repeat' (first | refine go ?_ | refine goX ?_ | refine goB ?_ | (refine goG ?_; intro g) | (refine goV ?_; intro v))
      exact WC.ret (Fin.v (ResE.t1 rfl rfl) meA (by rw [hs]))
    · rw [decide_eq_false h, if_neg (by simp)] at hs
      repeat' (first | refine go ?_ | refine goX ?_ | refine goB ?_ | (refine goG ?_; intro g) | (refine goV ?_; intro v))
      exact LoopEnd.mk (i + 1) ⟨by omega, hs⟩ (by show l.length - (i + 1) < l.length - i; omega)
  · rw [show l.length - i = 0 by omega, fidx] at hs
    repeat' (first | refine go ?_ | refine goX ?_ | refine goB ?_ | (refine goG ?_; intro g) | (refine goV ?_; intro v))
    exact WC.ret (Fin.v (ResE.t1 rfl rfl) meA (by rw [← hs]))
set_option maxHeartbeats 4000000 in
set_option maxRecDepth 60000 in
theorem contains_c (u : Value) (l : List Int) (x : Int) : FnB Tryz.prog 51 [u, .int .i64 x] [] [sI u l] (IsV (.bool (decide (x ∈ l)))) := by
  refine fn_of [(0, u), (1, (.int .i64 x))] 9 Tryz.func51 rfl Tryz.ntmps51 (by kernel_rfl) rfl suA fun h0 => ?_
  have hx : (x ∈ l) ↔ 0 ≤ fidx (fun i => decide (x = l.getD i 0)) l.length 0 := by
    have := @fidx_in l (fun y => decide (x = y))
    rw [this]; simp
  rw [show decide (x ∈ l) = decide (0 ≤ fidx (fun i => decide (x = l.getD i 0)) l.length 0) from decide_eq_decide.2 hx]
  repeat' (first | refine go ?_ | refine goX ?_ | refine goB ?_ | (refine goG ?_; intro g) | (refine goV ?_; intro v))
  first | refine WL.callV (index_c u l x) ?_ | refine WD.callV (index_c u l x) ?_
  by_cases c : 0 ≤ fidx (fun i => decide (x = l.getD i 0)) l.length 0
  · rw [decide_eq_true c]
    repeat' (first | refine go ?_ | refine goX ?_ | refine goB ?_ | (refine goG ?_; intro g) | (refine goV ?_; intro v))
    exact WC.ret (Fin.v (ResE.t1 rfl rfl) meA rfl)
  · rw [decide_eq_false c]
    repeat' (first | refine go ?_ | refine goX ?_ | refine goB ?_ | (refine goG ?_; intro g) | (refine goV ?_; intro v))
    exact WC.ret (Fin.v (ResE.t1 rfl rfl) meA rfl)
set_option maxHeartbeats 4000000 in
set_option maxRecDepth 60000 in
theorem clone_c (u : Value) (l : List Int) (hl : l.length ≤ 1000000) : FnB Tryz.prog 94 [u] [] [sI u l] (IsO 3 1 (ints l)) := by
  refine fn_of [(0, u)] 8 Tryz.func94 rfl Tryz.ntmps94 (by kernel_rfl) rfl suA fun h0 => ?_
  cases hn : isNil u with
  | true =>
    refine WC.nil0 (v := u) (l := l) hmA hn fun h => ?_
    subst h
    repeat' (first | refine go ?_ | refine goX ?_ | refine goB ?_ | (refine goG ?_; intro g) | (refine goV ?_; intro v))
    refine WC.addNil 3 1 ?_
    exact WC.ret (Fin.o (v := .slice none 0 0) (cs := ints []) (ResE.t1 rfl rfl) meA (.head _) rfl)
  | false =>
    repeat' (first | refine go ?_ | refine goX ?_ | refine goB ?_ | (refine goG ?_; intro g) | (refine goV ?_; intro v))
    exact WC.ret (Fin.o (ResE.t1 rfl rfl) meA meA (List.nil_append _))
/-! ## Those that turn their argument, at no elements -/
set_option maxHeartbeats 4000000 in
set_option maxRecDepth 60000 in
theorem compact0_c (v : Value) (l : List Int) (hl : l.length = 0) : FnB Tryz.prog 88 [v] [Ow.slice v 3 1 (ints l)] [] (IsO 3 1 (ints l)) := by
  refine fn_of [(0, v)] 61 Tryz.func88 rfl Tryz.ntmps88 (by kernel_rfl) rfl suA fun h0 => ?_
  repeat' (first | refine go ?_ | refine goX ?_ | refine goB ?_ | (refine goG ?_; intro g) | (refine goV ?_; intro v) | refine goD ?_ | refine goXD ?_ | (refine goDG ?_; intro g) | (refine goDV ?_; intro v) | refine d88 ?_ | fail)
  exact WC.ret (Fin.o (ResE.t1 rfl rfl) meA meA rfl)
theorem compactA_c (v : Value) (l : List Int) (hl : l.length ≤ 1000000) : FnB Tryz.prog 88 [v] [Ow.slice v 3 1 (ints l)] [] (IsO 3 1 (ints (Lib.compact l))) := by
  cases l with
  | nil => exact compact0_c v [] rfl
  | cons a l => exact compact_c v (a :: l) hl (by simp)
set_option maxHeartbeats 4000000 in
set_option maxRecDepth 60000 in
theorem delete0_c (v : Value) (f : FuncId) (cap : List Value) (fG : Fct) (p : Int → Bool) (hp : ∀ x, FnB Tryz.prog f ([.int .i64 x] ++ cap) [] [fG] (IsV (.bool (p x)))) :
    FnB Tryz.prog 91 [v, .func (.func f) #[] cap.toArray] [Ow.slice v 3 1 (ints [])] [fG] (IsO 3 1 (ints [])) := by
  refine fn_of [(0, v), (1, (.func (.func f) #[] cap.toArray))] 42 Tryz.func91 rfl Tryz.ntmps91 (by kernel_rfl) rfl suA fun h0 => ?_
  repeat' (first | refine go ?_ | refine goX ?_ | refine goB ?_ | (refine goG ?_; intro g) | (refine goV ?_; intro v))
  first | refine WL.callV (indexF_c v [] f cap fG p hp) ?_ | refine WD.callV (indexF_c v [] f cap fG p hp) ?_
  rw [show fidx (fun i => p (([] : List Int).getD i 0)) ([] : List Int).length 0 = -1 from rfl]
  repeat' (first | refine go ?_ | refine goX ?_ | refine goB ?_ | (refine goG ?_; intro g) | (refine goV ?_; intro v))
  exact WC.ret (Fin.o (ResE.t1 rfl rfl) meA meA rfl)
set_option maxHeartbeats 4000000 in
set_option maxRecDepth 60000 in
theorem core1_c (x : Int) : FnB Tryz.prog 87 ([.int .i64 x] ++ []) [] [ttF] (IsV (.bool (decide (x < -1)))) := by
  refine fn_of [(0, (.int .i64 x))] 5 Tryz.func87 rfl Tryz.ntmps87 (by kernel_rfl) rfl suA fun h0 => ?_
  by_cases c : x < -1
  · repeat' (first | refine go ?_ | refine goX ?_ | refine goB ?_ | (refine goG ?_; intro g) | (refine goV ?_; intro v))
    exact WC.ret (Fin.v (ResE.t1 rfl rfl) meA (by rw [decide_eq_true c]))
  · repeat' (first | refine go ?_ | refine goX ?_ | refine goB ?_ | (refine goG ?_; intro g) | (refine goV ?_; intro v))
    exact WC.ret (Fin.v (ResE.t1 rfl rfl) meA (by rw [decide_eq_false c]))
set_option maxHeartbeats 4000000 in
set_option maxRecDepth 60000 in
theorem core2_c (x : Int) : FnB Tryz.prog 92 ([.int .i64 x] ++ []) [] [ttF] (IsV (.bool (decide (x < 0)))) := by
  refine fn_of [(0, (.int .i64 x))] 5 Tryz.func92 rfl Tryz.ntmps92 (by kernel_rfl) rfl suA fun h0 => ?_
  by_cases c : x < 0
  · repeat' (first | refine go ?_ | refine goX ?_ | refine goB ?_ | (refine goG ?_; intro g) | (refine goV ?_; intro v))
    exact WC.ret (Fin.v (ResE.t1 rfl rfl) meA (by rw [decide_eq_true c]))
  · repeat' (first | refine go ?_ | refine goX ?_ | refine goB ?_ | (refine goG ?_; intro g) | (refine goV ?_; intro v))
    exact WC.ret (Fin.v (ResE.t1 rfl rfl) meA (by rw [decide_eq_false c]))
set_option maxHeartbeats 4000000 in
set_option maxRecDepth 60000 in
theorem core3_c (x y : Int) (g : Nat) : FnB Tryz.prog 95 ([.int .i64 x] ++ [ptr g]) [] [ce g 3 [.int .i64 y]] (IsV (.bool (decide (x = y)))) := by
  refine fn_of [(0, (.int .i64 x)), (1, (ptr g))] 7 Tryz.func95 rfl Tryz.ntmps95 (by kernel_rfl) rfl suA fun h0 => ?_
  by_cases c : x = y
  · repeat' (first | refine go ?_ | refine goX ?_ | refine goB ?_ | (refine goG ?_; intro g) | (refine goV ?_; intro v))
    exact WC.ret (Fin.v (ResE.t1 rfl rfl) meA (by rw [decide_eq_true c]))
  · repeat' (first | refine go ?_ | refine goX ?_ | refine goB ?_ | (refine goG ?_; intro g) | (refine goV ?_; intro v))
    exact WC.ret (Fin.v (ResE.t1 rfl rfl) meA (by rw [decide_eq_false c]))
end I
open Go.Sort in
theorem delNeg_c (v : Value) (l : List Int) (hl : l.length ≤ 1000000) : FnB Tryz.prog 91 [v, .func (.func 92) #[] #[]] [Ow.slice v 3 1 (ints l)] [ttF] (IsO 3 1 (ints (l.filter fun x => !decide (x < 0)))) := by
  cases l with
  | nil => exact I.delete0_c v 92 [] ttF _ I.core2_c
  | cons a l => exact delete_row hl (by simp) (fun x => decide (x < 0)) _ _ (enters_of Tryz.func92 (by kernel_rfl) rfl) fun fr w b cap hv ho => ⟨fun W x _ => neg_gives W x, fun n os dk x _ => neg_gives _ x⟩
open Go.Sort in
theorem delEq_c (v : Value) (l : List Int) (y : Int) (g : Nat) (hl : l.length ≤ 1000000) : FnB Tryz.prog 91 [v, .func (.func 95) #[] #[ptr g]] [Ow.slice v 3 1 (ints l)] [ce g 3 [.int .i64 y]] (IsO 3 1 (ints (l.filter fun x => !decide (x = y)))) := by
  cases l with
  | nil => exact I.delete0_c v 95 [ptr g] _ _ fun x => I.core3_c x y g
  | cons a l =>
      refine delete_row hl (by simp) (fun x => decide (x = y)) _ _ (enters_of Tryz.func95 (by kernel_rfl) rfl) ?_
      intro fr w b cap hv ho
      have hf := ho.facts _ (.head _)
      have hg : w.heap[g]? = some (.cells #[.int .i64 y] 3 (0, 0)) := imm_heap hf
      have hgl : g < w.heap.size := (Array.getElem?_eq_some_iff.1 hg).1
      have hgb : g ≠ b := by
        rintro rfl
        have : imm fr [Ow.slice v 3 1 (ints (a :: l))] w.heap g = none := by
          unfold imm; rw [if_pos]; subst hv; simp [ids, Ow.ids]
        have h2 : imm fr [Ow.slice v 3 1 (ints (a :: l))] w.heap g = some (.cells #[.int .i64 y] 3 (0, 0)) := hf
        rw [this] at h2; cases h2
      have hc : w.cell? ⟨g, 0, none⟩ = some (.int .i64 y) := by unfold World.cell?; rw [hg]; rfl
      refine ⟨fun W x hW => eq_gives W x y g ((hW.cell (p := ⟨g, 0, none⟩) hgl).trans hc), fun n os dk x _ => eq_gives _ x y g ?_⟩
      unfold World.cell? sortWorld
      rw [Sort.heap_grow_old _ os (by simpa using hgl)]
      have : (putRow (Value.int .i64) (Sort.ahead w n) b 0 dk).heap[g]? = w.heap[g]? := by
        unfold putRow mapBlock
        show (w.heap.modify b _)[g]? = _
        rw [Array.getElem?_modify, if_neg (fun h => hgb h.symm)]
      rw [this, hg]; rfl
end Go.Proofs.YthggloiigkbfeaaGreat
namespace Go.Proofs.YthggloiigkbfeaaGreat
open W Go.RowKit
instance : Den 6 := ⟨by decide, by decide⟩
def sure (l : List Int) : Bool := decide (atP l 1 3 = 0)
def sysX (l : List Int) (n : Int) (i : Nat) : Int :=
  if sure l = true then max (atP l (4 * i + 4) 20 - 4) 0 + 3 * (atP l (4 * i + 3) n % 3) - 3 * (atP l (4 * i + 2) n % 3) + 2 * atP l (4 * i + 2) n - 2 * atP l (4 * i + 3) n else atP l (4 * i + 4) 20 - 4
def sysK (l : List Int) (i : Nat) : Nat := if sure l = true then 6 else if atP l (4 * i + 5) 3 = 0 then 6 else if atP l (4 * i + 5) 3 = 1 then 3 else 2
def sysB (l : List Int) (n : Int) (i : Nat) : Bd := ⟨atP l (4 * i + 2) n, atP l (4 * i + 3) n, sysX l n i * sysK l i⟩
def sysT (l : List Int) (n : Int) (k : Nat) : List Bd := (List.range k).map (sysB l n)
theorem sysT_len (l : List Int) (n : Int) (k : Nat) : (sysT l n k).length = k := by simp [sysT]
theorem sysT_succ (l : List Int) (n : Int) (k : Nat) : sysT l n (k + 1) = sysT l n k ++ [sysB l n k] := by simp [sysT, List.range_succ]
theorem sysT_get (l : List Int) (n : Int) {k i : Nat} (h : i < k) : bg (sysT l n k) i = sysB l n i := by
  unfold bg sysT; simp [List.getD_eq_getElem?_getD, h]
def sysN (l : List Int) (most : Int) : Int := 1 + atP l 0 most
def sysC (l : List Int) : Nat := min 14 ((l.length + 1) / 4)
def sysL (l : List Int) (most : Int) : List Bd := sysT l (sysN l most) (sysC l)
theorem sysX_le {l : List Int} {n : Int} (hn : 0 < n) (hn2 : n ≤ 10) (i : Nat) : (sysX l n i).natAbs ≤ 60 := by
  have h1 := @atP_lt l (4 * i + 4) 20 (by decide)
  have h2 := @atP_lt l (4 * i + 3) n hn
  have h3 := @atP_lt l (4 * i + 2) n hn
  unfold sysX
  split <;> omega
theorem sysB_w {l : List Int} {n : Int} (hn : 0 < n) (hn2 : n ≤ 10) (i : Nat) : (sysB l n i).w.natAbs ≤ 360 := by
  have h := @sysX_le l n hn hn2 i
  show (sysX l n i * sysK l i).natAbs ≤ 360
  rw [Int.natAbs_mul]
  have h2 : ((sysK l i : Nat) : Int).natAbs ≤ 6 := by unfold sysK; split <;> (try split) <;> (try split) <;> decide
  exact Nat.mul_le_mul h h2
theorem absS_app (a b : List Bd) : absS (a ++ b) = absS a + absS b := by simp [absS]
theorem sysT_abs {l : List Int} {n : Int} (hn : 0 < n) (hn2 : n ≤ 10) (k : Nat) : absS (sysT l n k) ≤ k * 360 := by
  induction k with
  | zero => simp [sysT, absS]
  | succ k ih =>
    rw [sysT_succ, absS_app, Nat.succ_mul]
    have := @sysB_w l n hn hn2 k
    simp [absS] at *; omega
/-- answers a system -/
def IsSys (D : Nat) (n : Int) (bs : List Bd) : RPost := fun v b G => ∃ vb ms, v = .tuple #[.int .i64 n, vb] ∧ b = [] ∧ G = [fB D vb ms bs]
theorem hasmB0 {D : Nat} {F : List Fct} {ms : Nat → QM} : Has F (mB D ms []) := fun _ _ i hi => by simp at hi
namespace I
open G H
attribute [local irreducible] WC WL WD YO LO LoopEnd W.Fin Scalar SliceT FieldAt Row ArrT AllocT KnS Has W.One SrcE IntT
set_option maxHeartbeats 8000000 in
set_option maxRecDepth 60000 in
theorem system_c (u : Value) (l : List Int) (most : Int) (hl : ∀ x ∈ l, I64 x) (hm : 0 < most) (hm2 : most ≤ 8) : FnB Tryz.prog 23 [u, .int .i64 most] [] [sI u l] (IsSys 6 (sysN l most) (sysL l most)) := by
  refine fn_of [(0, u), (1, (.int .i64 most))] 90 Tryz.func23 rfl Tryz.ntmps23 (by kernel_rfl) rfl suA fun h0 => ?_
  refine WC.lenI u l hmA fun hlen => ?_
  have hN := @atP_lt l 0 most hm
  refine WC.addNil 59 6 ?_
  repeat' (first | refine go ?_ | refine goX ?_ | refine goB ?_ | (refine goG ?_; intro g) | (refine goV ?_; intro v))
  first | refine WL.callV (at_c u l 0 most hl hm) ?_ | refine WD.callV (at_c u l 0 most hl hm) ?_
  repeat' (first | refine go ?_ | refine goX ?_ | refine goB ?_ | (refine goG ?_; intro g) | (refine goV ?_; intro v))
  first | refine WL.callV (at_c u l 1 3 hl (by decide)) ?_ | refine WD.callV (at_c u l 1 3 hl (by decide)) ?_
  repeat' (first | refine go ?_ | refine goX ?_ | refine goB ?_ | (refine goG ?_; intro g) | (refine goV ?_; intro v))
  refine WL.k_eql (v := .bool (sure l)) (YO.cmp rfl rfl (.inr (.inr (.inr (.inr (.inl ⟨rfl, rfl⟩)))))) rfl rfl ?_
  unfold sysL sysN
  generalize hn : 1 + atP l 0 most = n at *
  have hn0 : 0 < n := by omega
  have hn10 : n ≤ 10 := by omega
  repeat' (first | refine go ?_ | refine goX ?_ | refine goB ?_ | (refine goG ?_; intro g) | (refine goV ?_; intro v))
  refine WC.lp (σ := Nat × Value × (Nat → QM)) (fun s => [(9, .int .i64 (s.1 : Int)), (8, s.2.1), (7, .bool (sure l)), (6, .int .i64 n), (0, u)]) (fun s => [Ow.slice s.2.1 59 6 (bcells (sysT l n s.1) s.2.2)])
    (fun s => [mB 6 s.2.2 (sysT l n s.1), ge h0, sI u l]) (fun s => s.1 ≤ sysC l) (fun s => 14 - s.1) (0, .slice none 0 0, fun _ => m00) (Nat.zero_le _) ?_ suA slA (.cons hasmB0 sfA)
  rintro ⟨i, vb, ms⟩ hi
  simp only at hi ⊢
  have hil : i ≤ 14 := by unfold sysC at hi; omega
  have hcl := sysT_len l n i
  by_cases c1 : 4 * (i : Int) + 2 < l.length
  · by_cases c2 : i < 14
    · have hic : i + 1 ≤ sysC l := by unfold sysC; omega
      have a2 := @atP_lt l (4 * i + 2) n hn0
      have a3 := @atP_lt l (4 * i + 3) n hn0
      have a4 := @atP_lt l (4 * i + 4) 20 (by decide)
      have a5 := @atP_lt l (4 * i + 5) 3 (by decide)
      repeat' (first | refine go ?_ | refine goX ?_ | refine goB ?_ | (refine goG ?_; intro g) | (refine goV ?_; intro v))
      first | refine WL.callV (at_c u l (4 * i + 2) n hl hn0) ?_ | refine WD.callV (at_c u l (4 * i + 2) n hl hn0) ?_
      repeat' (first | refine go ?_ | refine goX ?_ | refine goB ?_ | (refine goG ?_; intro g) | (refine goV ?_; intro v))
      first | refine WL.callV (at_c u l (4 * i + 3) n hl hn0) ?_ | refine WD.callV (at_c u l (4 * i + 3) n hl hn0) ?_
      repeat' (first | refine go ?_ | refine goX ?_ | refine goB ?_ | (refine goG ?_; intro g) | (refine goV ?_; intro v))
      first | refine WL.callV (at_c u l (4 * i + 4) 20 hl (by decide)) ?_ | refine WD.callV (at_c u l (4 * i + 4) 20 hl (by decide)) ?_
      repeat' (first | refine go ?_ | refine goX ?_ | refine goB ?_ | (refine goG ?_; intro g) | (refine goV ?_; intro v))
      revert g; intro g10
      have hX := @sysX_le l n hn0 hn10 i
      have hk5 : (6 : Int) = (1 + atP l (4 * i + 5) 3) * ((if atP l (4 * i + 5) 3 = 0 then 6 else if atP l (4 * i + 5) 3 = 1 then 3 else 2 : Nat) : Int) := by
        rcases (show atP l (4 * i + 5) 3 = 0 ∨ atP l (4 * i + 5) 3 = 1 ∨ atP l (4 * i + 5) 3 = 2 by omega) with h | h | h <;> rw [h] <;> rfl
      cases hsu : sure l with
      | true =>
        have hXe : max (atP l (4 * i + 4) 20 - 4) 0 + 3 * (atP l (4 * i + 3) n % 3) - 3 * (atP l (4 * i + 2) n % 3) + 2 * atP l (4 * i + 2) n - 2 * atP l (4 * i + 3) n = sysX l n i := by unfold sysX; rw [if_pos hsu]
        have hK : sysK l i = 6 := by unfold sysK; rw [if_pos hsu]
        repeat' (first | refine go ?_ | refine goX ?_ | refine goB ?_ | (refine goG ?_; intro g) | (refine goV ?_; intro v))
        rw [hXe]
        first | refine WL.callV (at_c u l (4 * i + 5) 3 hl (by decide)) ?_ | refine WD.callV (at_c u l (4 * i + 5) 3 hl (by decide)) ?_
        repeat' (first | refine go ?_ | refine goX ?_ | refine goB ?_ | (refine goG ?_; intro g) | (refine goV ?_; intro v))
        first | refine WL.callK (rofw_c 6 (sysX l n i) (1 + atP l (4 * i + 5) 3) _ hk5 (by omega) (by unfold B2; omega) (by unfold B2; omega)) ?_ | refine WD.callK (rofw_c 6 (sysX l n i) (1 + atP l (4 * i + 5) 3) _ hk5 (by omega) (by unfold B2; omega) (by unfold B2; omega)) ?_ | refine LO.callM (rofw_c 6 (sysX l n i) (1 + atP l (4 * i + 5) 3) _ hk5 (by omega) (by unfold B2; omega) (by unfold B2; omega)) ?_
        rintro _ _ _ ⟨m2, rfl, rfl, rfl⟩
        simp only [List.nil_append, List.cons_append]
        repeat' (first | refine go ?_ | refine goX ?_ | refine goB ?_ | (refine goG ?_; intro g) | (refine goV ?_; intro v))
        first | refine WL.callK (rofw_c 6 (sysX l n i) 1 6 (by decide) (by decide) (by unfold B2; omega) (by decide)) ?_ | refine WD.callK (rofw_c 6 (sysX l n i) 1 6 (by decide) (by decide) (by unfold B2; omega) (by decide)) ?_ | refine LO.callM (rofw_c 6 (sysX l n i) 1 6 (by decide) (by decide) (by unfold B2; omega) (by decide)) ?_
        rintro _ _ _ ⟨m3, rfl, rfl, rfl⟩
        simp only [List.nil_append, List.cons_append]
        repeat' (first | refine go ?_ | refine goX ?_ | refine goB ?_ | (refine goG ?_; intro g) | (refine goV ?_; intro v))
        refine WL.l rfl rfl (LO.bsB1 (b := sysB l n i) (m := m3) rfl (fun v => ?_))
        refine WL.fact' (isQ (qv m3) (wq 6 (sysB l n i).w)) (by show Has _ (isQ (qv m3) (wq 6 (sysX l n i * sysK l i))); rw [hK]; exact hmA) ?_
        repeat' (first | refine go ?_ | refine goX ?_ | refine goB ?_ | (refine goG ?_; intro g) | (refine goV ?_; intro v))
        refine LoopEnd.mk (i + 1, v, upd ms (sysT l n i).length m3) hic (by show 14 - (i + 1) < 14 - i; omega) suA (by show List.Sublist [Ow.slice v 59 6 (bcells (sysT l n (i + 1)) _)] _; rw [sysT_succ]; exact slA) (HasAll.cons ?_ sfA)
        show Has _ (mB 6 _ (sysT l n (i + 1)))
        rw [sysT_succ]
        exact W.Has.mBapp hmA hmA
      | false =>
        have hXe : atP l (4 * i + 4) 20 - 4 = sysX l n i := by unfold sysX; rw [if_neg (by rw [hsu]; simp)]
        rw [hXe]
        repeat' (first | refine go ?_ | refine goX ?_ | refine goB ?_ | (refine goG ?_; intro g) | (refine goV ?_; intro v))
        first | refine WL.callV (at_c u l (4 * i + 5) 3 hl (by decide)) ?_ | refine WD.callV (at_c u l (4 * i + 5) 3 hl (by decide)) ?_
        repeat' (first | refine go ?_ | refine goX ?_ | refine goB ?_ | (refine goG ?_; intro g) | (refine goV ?_; intro v))
        first | refine WL.callK (rofw_c 6 (sysX l n i) (1 + atP l (4 * i + 5) 3) _ hk5 (by omega) (by unfold B2; omega) (by unfold B2; omega)) ?_ | refine WD.callK (rofw_c 6 (sysX l n i) (1 + atP l (4 * i + 5) 3) _ hk5 (by omega) (by unfold B2; omega) (by unfold B2; omega)) ?_ | refine LO.callM (rofw_c 6 (sysX l n i) (1 + atP l (4 * i + 5) 3) _ hk5 (by omega) (by unfold B2; omega) (by unfold B2; omega)) ?_
        rintro _ _ _ ⟨m2, rfl, rfl, rfl⟩
        simp only [List.nil_append, List.cons_append]
        have hK : sysK l i = (if atP l (4 * i + 5) 3 = 0 then 6 else if atP l (4 * i + 5) 3 = 1 then 3 else 2 : Nat) := by unfold sysK; simp [hsu]
        repeat' (first | refine go ?_ | refine goX ?_ | refine goB ?_ | (refine goG ?_; intro g) | (refine goV ?_; intro v))
        refine WL.l rfl rfl (LO.bsB1 (b := sysB l n i) (m := m2) rfl (fun v => ?_))
        refine WL.fact' (isQ (qv m2) (wq 6 (sysB l n i).w)) (by show Has _ (isQ (qv m2) (wq 6 (sysX l n i * sysK l i))); rw [hK]; exact hmA) ?_
        repeat' (first | refine go ?_ | refine goX ?_ | refine goB ?_ | (refine goG ?_; intro g) | (refine goV ?_; intro v))
        refine LoopEnd.mk (i + 1, v, upd ms (sysT l n i).length m2) hic (by show 14 - (i + 1) < 14 - i; omega) suA (by show List.Sublist [Ow.slice v 59 6 (bcells (sysT l n (i + 1)) _)] _; rw [sysT_succ]; exact slA) (HasAll.cons ?_ sfA)
        show Has _ (mB 6 _ (sysT l n (i + 1)))
        rw [sysT_succ]
        exact W.Has.mBapp hmA hmA
    · have hie : i = sysC l := by unfold sysC at hi ⊢; omega
      repeat' (first | refine go ?_ | refine goX ?_ | refine goB ?_ | (refine goG ?_; intro g) | (refine goV ?_; intro v))
      refine WC.freezeB (D := 6) (el := 59) vb ms (sysT l n i) (by repeat (first | exact Sel.head | apply Sel.tail)) hmA ?_
      exact WC.ret (Fin.p [] [fB 6 vb ms (sysT l n i)] (ResE.t2 rfl rfl rfl) meA (List.nil_sublist _) haA ⟨vb, ms, rfl, rfl, by rw [← hie]⟩)
  · have hie : i = sysC l := by unfold sysC at hi ⊢; omega
    repeat' (first | refine go ?_ | refine goX ?_ | refine goB ?_ | (refine goG ?_; intro g) | (refine goV ?_; intro v))
    refine WC.freezeB (D := 6) (el := 59) vb ms (sysT l n i) (by repeat (first | exact Sel.head | apply Sel.tail)) hmA ?_
    exact WC.ret (Fin.p [] [fB 6 vb ms (sysT l n i)] (ResE.t2 rfl rfl rfl) meA (List.nil_sublist _) haA ⟨vb, ms, rfl, rfl, by rw [← hie]⟩)
end I
end Go.Proofs.YthggloiigkbfeaaGreat
namespace Go.Proofs.YthggloiigkbfeaaGreat
open W Go.RowKit
def inG (gs list : List Int) (i : Nat) : Bool := decide (gs.getD i 0 < 0) || decide (gs.getD i 0 ∈ list)
/-- the bounds of some groups -/
def partK (bs : List Bd) (gs list : List Int) (k : Nat) : List Bd := ((List.range k).filter (inG gs list)).map (bg bs)
def part (bs : List Bd) (gs list : List Int) : List Bd := partK bs gs list bs.length
theorem partK_succ (bs : List Bd) (gs list : List Int) (k : Nat) : partK bs gs list (k + 1) = if inG gs list k = true then partK bs gs list k ++ [bg bs k] else partK bs gs list k := by
  unfold partK
  rw [List.range_succ, List.filter_append, List.map_append]
  by_cases h : inG gs list k = true
  · rw [if_pos h]; simp [h]
  · rw [if_neg h]; simp [h]
theorem partK_len (bs : List Bd) (gs list : List Int) (k : Nat) : (partK bs gs list k).length ≤ k := by
  unfold partK
  rw [List.length_map]
  exact Nat.le_trans (List.length_filter_le _ _) (by simp)
theorem part_mem {bs : List Bd} {gs list : List Int} {b : Bd} (h : b ∈ part bs gs list) : b ∈ bs := by
  unfold part partK at h
  obtain ⟨i, hi, rfl⟩ := List.mem_map.1 h
  exact bg_mem (List.mem_range.1 (List.mem_filter.1 hi).1)
theorem part_abs (bs : List Bd) (gs list : List Int) : absS (part bs gs list) ≤ absS bs := by
  have : ∀ k, k ≤ bs.length → absS (partK bs gs list k) ≤ absS (bs.take k) := by
    intro k
    induction k with
    | zero => intro _; simp [partK, absS]
    | succ k ih =>
      intro hk
      rw [partK_succ, absS_take (by omega)]
      have := ih (by omega)
      split
      · rw [absS_app]; simp [absS] at this ⊢; omega
      · omega
  have h := this bs.length (Nat.le_refl _)
  rw [List.take_of_length_le (Nat.le_refl _)] at h
  exact h
theorem Vld.part {n : Nat} {bs : List Bd} (h : Vld n bs) (gs list : List Int) : Vld n (part bs gs list) := by
  have hl := partK_len bs gs list bs.length
  refine ⟨h.n1, h.n2, Nat.le_trans hl h.l, fun i hi => h.mem (part_mem (gs := gs) (list := list) (bg_mem hi))⟩
def sv (n : Nat) (bs : List Bd) (gs list : List Int) : Bool := (greatP n (part bs gs list)).isSome
def coreL (gs : List Int) : List Int := (Lib.compact (srt gs)).filter fun x => !decide (x < 0)
def coreS (n : Nat) (bs : List Bd) (gs list : List Int) (g : Int) : List Int := if sv n bs gs (list.filter fun x => !decide (x = g)) = true then list else list.filter fun x => !decide (x = g)
/-- what the program's Core answers -/
def cor (n : Int) (bs : List Bd) (gs : List Int) : List Int × Int :=
  if validB n bs = true ∧ gs.length = bs.length ∧ ¬ ∃ x ∈ gs, decide (x < -1) = true then (if sv n.toNat bs gs (coreL gs) = true then ([], 6) else ((coreL gs).foldl (coreS n.toNat bs gs) (coreL gs), 0)) else ([], 1)
/-- answers a list of indices and an error -/
def IsCo (s : List Int × Int) : RPost := fun v b G => ∃ uc, v = .tuple #[uc, .int .i64 s.2] ∧ b = [] ∧ G = [sI uc s.1]
theorem coreS_len (n : Nat) (bs : List Bd) (gs : List Int) (l : List Int) : ∀ list : List Int, (l.foldl (coreS n bs gs) list).length ≤ list.length := by
  induction l with
  | nil => intro list; exact Nat.le_refl _
  | cons a l ih =>
    intro list
    rw [List.foldl_cons]
    refine Nat.le_trans (ih _) ?_
    unfold coreS
    split
    · exact Nat.le_refl _
    · exact List.length_filter_le _ _
theorem coreL_len (gs : List Int) : (coreL gs).length ≤ gs.length := Nat.le_trans (List.length_filter_le _ _) (Nat.le_trans (compact_le _) (by rw [srt_len]; exact Nat.le_refl _))
namespace I
open G H
attribute [local irreducible] WC WL WD YO LO LoopEnd W.Fin Scalar SliceT FieldAt Row ArrT AllocT KnS Has W.One SrcE IntT
set_option maxHeartbeats 4000000 in
set_option maxRecDepth 60000 in
theorem solvable_c (D : Nat) [Den D] (vb ug ul : Value) (ms : Nat → QM) (bs : List Bd) (gs list : List Int) (n : Nat) (hv : Vld n bs) (hf : Fit bs) (hg : gs.length = bs.length) :
    FnB Tryz.prog 93 [.agg #[.int .i64 n, vb], ug, ul] [] [fB D vb ms bs, sI ug gs, sI ul list] (IsV (.bool (sv n bs gs list))) := by
  refine fn_of [(0, (.agg #[.int .i64 n, vb])), (1, ug), (2, ul)] 49 Tryz.func93 rfl Tryz.ntmps93 (by kernel_rfl) rfl suA fun h0 => ?_
  have hvl := hv.l
  refine WC.addNil 59 6 ?_
  repeat' (first | refine go ?_ | refine goX ?_ | refine goB ?_ | (refine goG ?_; intro g) | (refine goV ?_; intro v))
  revert g; intro g7; revert g; intro g3
  refine WC.lp (σ := Nat × Value × (Nat → QM)) (fun s => [(18, .int .i64 (s.1 : Int)), (16, vb), (17, .int .i64 (bs.length : Int)), (7, ptr g7), (1, ug), (2, ul)])
    (fun s => [Ow.cells g7 103 [.int .i64 n, s.2.1], Ow.slice s.2.1 59 6 (bcells (partK bs gs list s.1) s.2.2)])
    (fun s => [mB D s.2.2 (partK bs gs list s.1), ge h0, fB D vb ms bs, sI ug gs, sI ul list]) (fun s => s.1 ≤ bs.length) (fun s => bs.length - s.1) (0, .slice none 0 0, fun _ => m00) (Nat.zero_le _) ?_ suA slA (.cons hasmB0 sfA)
  rintro ⟨i, vp, mp⟩ hi
  simp only at hi ⊢
  have hpl := partK_len bs gs list i
  by_cases c : i < bs.length
  · have hps := partK_succ bs gs list i
    refine WC.fact (isQ (qv (ms i)) (wq D (bg bs i).w)) (W.Has.b (W.Has.bm (v := vb) hmA) c) ?_
    by_cases c1 : gs.getD i 0 < 0
    · have hin : inG gs list i = true := by unfold inG; rw [decide_eq_true c1, Bool.true_or]
      rw [if_pos hin] at hps
      repeat' (first | refine go ?_ | refine goX ?_ | refine goB ?_ | (refine goG ?_; intro g) | (refine goV ?_; intro v))
      refine LoopEnd.mk (i + 1, v, upd mp (partK bs gs list i).length (ms i)) (by show i + 1 ≤ bs.length; omega) (by show bs.length - (i + 1) < bs.length - i; omega) suA (by show List.Sublist [_, Ow.slice v 59 6 (bcells (partK bs gs list (i + 1)) _)] _; rw [hps]; exact slA) (HasAll.cons ?_ sfA)
      show Has _ (mB D _ (partK bs gs list (i + 1)))
      rw [hps]
      exact W.Has.mBapp hmA hmA
    · repeat' (first | refine go ?_ | refine goX ?_ | refine goB ?_ | (refine goG ?_; intro g) | (refine goV ?_; intro v))
      first | refine WL.callV (contains_c ul list (gs.getD i 0)) ?_ | refine WD.callV (contains_c ul list (gs.getD i 0)) ?_
      by_cases c2 : gs.getD i 0 ∈ list
      · have hin : inG gs list i = true := by unfold inG; rw [decide_eq_true c2, Bool.or_true]
        rw [if_pos hin] at hps
        rw [decide_eq_true c2]
        repeat' (first | refine go ?_ | refine goX ?_ | refine goB ?_ | (refine goG ?_; intro g) | (refine goV ?_; intro v))
        refine LoopEnd.mk (i + 1, v, upd mp (partK bs gs list i).length (ms i)) (by show i + 1 ≤ bs.length; omega) (by show bs.length - (i + 1) < bs.length - i; omega) suA (by show List.Sublist [_, Ow.slice v 59 6 (bcells (partK bs gs list (i + 1)) _)] _; rw [hps]; exact slA) (HasAll.cons ?_ sfA)
        show Has _ (mB D _ (partK bs gs list (i + 1)))
        rw [hps]
        exact W.Has.mBapp hmA hmA
      · have hin : inG gs list i = false := by unfold inG; rw [decide_eq_false c2, decide_eq_false c1]; rfl
        rw [if_neg (by rw [hin]; simp)] at hps
        rw [decide_eq_false c2]
        repeat' (first | refine go ?_ | refine goX ?_ | refine goB ?_ | (refine goG ?_; intro g) | (refine goV ?_; intro v))
        exact LoopEnd.mk (i + 1, vp, mp) (by show i + 1 ≤ bs.length; omega) (by show bs.length - (i + 1) < bs.length - i; omega) suA (by show List.Sublist [_, Ow.slice vp 59 6 (bcells (partK bs gs list (i + 1)) mp)] _; rw [hps]; exact slA) (HasAll.cons (by rw [hps]; exact hmA) sfA)
  · obtain rfl : i = bs.length := by omega
    repeat' (first | refine go ?_ | refine goX ?_ | refine goB ?_ | (refine goG ?_; intro g) | (refine goV ?_; intro v))
    refine WL.freezeB (D := D) (el := 59) vp mp (partK bs gs list bs.length) (by repeat (first | exact Sel.head | apply Sel.tail)) hmA ?_
    first | refine WL.callK (greatest_c D vp mp (part bs gs list) n (hv.part gs list) (by have := part_abs bs gs list; unfold Fit at *; omega)) ?_ | refine WD.callK (greatest_c D vp mp (part bs gs list) n (hv.part gs list) (by have := part_abs bs gs list; unfold Fit at *; omega)) ?_ | refine LO.callM (greatest_c D vp mp (part bs gs list) n (hv.part gs list) (by have := part_abs bs gs list; unfold Fit at *; omega)) ?_
    rintro rv bb GG hG
    unfold IsGr at hG
    have hsv : sv n bs gs list = (greatP n (part bs gs list)).isSome := rfl
    cases hgr : greatP n (part bs gs list) with
    | some x =>
      rw [hgr] at hG hsv
      obtain ⟨u, mx, rfl, rfl, rfl⟩ := hG
      repeat' (first | refine go ?_ | refine goX ?_ | refine goB ?_ | (refine goG ?_; intro g) | (refine goV ?_; intro v))
      exact WC.ret (Fin.v (ResE.t1 rfl rfl) meA (by rw [hsv]; rfl))
    | none =>
      rw [hgr] at hG hsv
      obtain ⟨rfl, rfl, rfl⟩ := hG
      repeat' (first | refine go ?_ | refine goX ?_ | refine goB ?_ | (refine goG ?_; intro g) | (refine goV ?_; intro v))
      exact WC.ret (Fin.v (ResE.t1 rfl rfl) meA (by rw [hsv]; rfl))
end I
end Go.Proofs.YthggloiigkbfeaaGreat
namespace Go.Proofs.YthggloiigkbfeaaGreat
open W Go.RowKit
namespace I
open G H
attribute [local irreducible] WC WL WD YO LO LoopEnd W.Fin Scalar SliceT FieldAt Row ArrT AllocT KnS Has W.One SrcE IntT
set_option maxHeartbeats 8000000 in
set_option maxRecDepth 60000 in
theorem core_c (D : Nat) [Den D] (vb ug : Value) (ms : Nat → QM) (bs : List Bd) (gs : List Int) (n : Int) (hf : Fit bs) :
    FnB Tryz.prog 40 [.int .i64 n, vb, ug] [] [fB D vb ms bs, sI ug gs] (IsCo (cor n bs gs)) := by
  refine fn_of [(0, (.int .i64 n)), (1, vb), (2, ug)] 62 Tryz.func40 rfl Tryz.ntmps40 (by kernel_rfl) rfl suA fun h0 => ?_
  have bad : ∀ {F : List Fct}, cor n bs gs = ([], 1) → HasAll F [sI (.slice none 0 0) (cor n bs gs).1] := fun h => .cons (by rw [h]; exact nil0) .nil
  repeat' (first | refine go ?_ | refine goX ?_ | refine goB ?_ | (refine goG ?_; intro g) | (refine goV ?_; intro v))
  first | refine WL.callV (made_c D vb ms bs n) ?_ | refine WD.callV (made_c D vb ms bs n) ?_
  cases hvb : validB n bs with
  | false =>
    have hc : cor n bs gs = ([], 1) := if_neg (by rw [hvb]; simp)
    repeat' (first | refine go ?_ | refine goX ?_ | refine goB ?_ | (refine goG ?_; intro g) | (refine goV ?_; intro v))
    exact WC.ret (Fin.p [] [sI (.slice none 0 0) (cor n bs gs).1] (ResE.t2 rfl rfl rfl) meA (List.nil_sublist _) (bad hc) ⟨_, by rw [hc], rfl, rfl⟩)
  | true =>
    obtain ⟨n, rfl, hv⟩ := Vld.of hvb
    have hvl := hv.l
    by_cases c1 : (gs.length : Int) = bs.length
    · repeat' (first | refine go ?_ | refine goX ?_ | refine goB ?_ | (refine goG ?_; intro g) | (refine goV ?_; intro v))
      have hgl : gs.length ≤ 1000000 := by omega
      have hsl : (srt gs).length ≤ 1000000 := by rw [srt_len]; exact hgl
      have hcl : (Lib.compact (srt gs)).length ≤ 1000000 := Nat.le_trans (compact_le _) hsl
      revert g; intro g8
      refine WL.callV (containsF_c ug gs 87 [] ttF (fun x => decide (x < -1)) core1_c) (hF := .cons (HasB.f hmA) (.cons (HasB.f has_tt) .nil)) ?_
      by_cases c2 : ∃ x ∈ gs, decide (x < -1) = true
      · have hc : cor n bs gs = ([], 1) := if_neg (fun h => h.2.2 c2)
        rw [decide_eq_true c2]
        repeat' (first | refine go ?_ | refine goX ?_ | refine goB ?_ | (refine goG ?_; intro g) | (refine goV ?_; intro v))
        exact WC.ret (Fin.p [] [sI (.slice none 0 0) (cor n bs gs).1] (ResE.t2 rfl rfl rfl) meA (List.nil_sublist _) (bad hc) ⟨_, by rw [hc], rfl, rfl⟩)
      · have hcor : cor n bs gs = if sv n bs gs (coreL gs) = true then ([], 6) else ((coreL gs).foldl (coreS n bs gs) (coreL gs), 0) := by
          unfold cor; rw [if_pos ⟨hvb, by omega, c2⟩]; rfl
        rw [decide_eq_false c2]
        repeat' (first | refine go ?_ | refine goX ?_ | refine goB ?_ | (refine goG ?_; intro g) | (refine goV ?_; intro v))
        first | refine WL.callK (values_c ug gs) ?_ | refine WD.callK (values_c ug gs) ?_ | refine LO.callM (values_c ug gs) ?_
        rintro rv bb GG ⟨gi, rfl, rfl, rfl⟩
        simp only [List.nil_append, List.cons_append]
        repeat' (first | refine go ?_ | refine goX ?_ | refine goB ?_ | (refine goG ?_; intro g) | (refine goV ?_; intro v))
        first | refine WL.callO (sorted_c gi ug gs hgl) (fun rv => ?_) | refine WD.callO (sorted_c gi ug gs hgl) (fun rv => ?_)
        refine WL.callG [Ow.slice rv 3 1 (ints (srt gs))] _ (.refl _) (compactA_c rv (srt gs) hsl) ?_
        rintro rc bb GG ⟨rfl, rfl⟩
        simp only [List.nil_append, List.cons_append]
        repeat' (first | refine go ?_ | refine goX ?_ | refine goB ?_ | (refine goG ?_; intro g) | (refine goV ?_; intro v))
        refine WL.callG [Ow.slice rc 3 1 (ints (Lib.compact (srt gs)))] _ (.refl _) (delNeg_c rc (Lib.compact (srt gs)) hcl) ?_ (hF := .cons has_tt .nil)
        rintro rd bb GG ⟨rfl, rfl⟩
        simp only [List.nil_append, List.cons_append]
        rw [show (Lib.compact (srt gs)).filter (fun x => !decide (x < 0)) = coreL gs from rfl]
        refine WL.freezeI (l := coreL gs) (v := rd) (el := 3) (by repeat (first | exact Sel.head | apply Sel.tail)) ?_
        repeat' (first | refine go ?_ | refine goX ?_ | refine goB ?_ | (refine goG ?_; intro g) | (refine goV ?_; intro v))
        have hll := coreL_len gs
        generalize hL : coreL gs = L at *
        first | refine WL.callV (solvable_c D vb ug rd ms bs gs L n hv hf (by omega)) ?_ | refine WD.callV (solvable_c D vb ug rd ms bs gs L n hv hf (by omega)) ?_
        by_cases c3 : sv n bs gs L = true
        · rw [if_pos c3] at hcor
          rw [c3]
          repeat' (first | refine go ?_ | refine goX ?_ | refine goB ?_ | (refine goG ?_; intro g) | (refine goV ?_; intro v))
          exact WC.ret (Fin.p [] [sI (.slice none 0 0) (cor n bs gs).1] (ResE.t2 rfl rfl rfl) meA (List.nil_sublist _) (.cons (by rw [hcor]; exact nil0) .nil) ⟨_, by rw [hcor], rfl, rfl⟩)
        · rw [if_neg c3] at hcor
          rw [Bool.eq_false_iff.2 c3]
          repeat' (first | refine go ?_ | refine goX ?_ | refine goB ?_ | (refine goG ?_; intro g) | (refine goV ?_; intro v))
          first | refine WL.callO (clone_c rd L (by omega)) (fun rv => ?_) | refine WD.callO (clone_c rd L (by omega)) (fun rv => ?_)
          refine WL.freezeI (l := L) (v := rv) (el := 3) (by repeat (first | exact Sel.head | apply Sel.tail)) ?_
          repeat' (first | refine go ?_ | refine goX ?_ | refine goB ?_ | (refine goG ?_; intro g) | (refine goV ?_; intro v))
          refine WC.lp (σ := Nat × Value) (fun s => [(46, .int .i64 (s.1 : Int)), (10, s.2), (44, rv), (45, .int .i64 (L.length : Int)), (8, ptr g8), (2, ug)])
            (fun _ => [Ow.cells g8 103 [.int .i64 n, vb]])
            (fun s => [sI s.2 ((L.take s.1).foldl (coreS n bs gs) L), sI rv L, ge h0, fB D vb ms bs, sI ug gs]) (fun s => s.1 ≤ L.length) (fun s => L.length - s.1) (0, rd) (Nat.zero_le _) ?_ suA slA sfA
          rintro ⟨i, lv⟩ hi
          simp only at hi ⊢
          have hfl := coreS_len n bs gs (L.take i) L
          by_cases c : i < L.length
          · have hst : (L.take (i + 1)).foldl (coreS n bs gs) L = coreS n bs gs ((L.take i).foldl (coreS n bs gs) L) (L.getD i 0) := by
              rw [List.take_succ_eq_append_getElem c, List.foldl_append, List.getD_eq_getElem?_getD, List.getElem?_eq_getElem c]; rfl
            generalize (L.take i).foldl (coreS n bs gs) L = M at *
            repeat' (first | refine go ?_ | refine goX ?_ | refine goB ?_ | (refine goG ?_; intro g) | (refine goV ?_; intro v))
            revert g; intro g12
            refine WL.keep (g := g12) (by repeat (first | exact Rem.head | apply Rem.tail)) ?_
            first | refine WL.callO (clone_c lv M (by omega)) (fun rv => ?_) | refine WD.callO (clone_c lv M (by omega)) (fun rv => ?_)
            repeat' (first | refine go ?_ | refine goX ?_ | refine goB ?_ | (refine goG ?_; intro g) | (refine goV ?_; intro v))
            refine WL.callG [Ow.slice rv 3 1 (ints M)] _ (.refl _) (delEq_c rv M (L.getD i 0) g12 (by omega)) ?_
            rintro rr bb GG ⟨rfl, rfl⟩
            simp only [List.nil_append, List.cons_append]
            have hrl : (M.filter fun x => !decide (x = L.getD i 0)).length ≤ M.length := List.length_filter_le _ _
            have hcs : coreS n bs gs M (L.getD i 0) = if sv n bs gs (M.filter fun x => !decide (x = L.getD i 0)) = true then M else M.filter fun x => !decide (x = L.getD i 0) := rfl
            generalize M.filter (fun x => !decide (x = L.getD i 0)) = M2 at *
            refine WL.freezeI (l := M2) (v := rr) (el := 3) (by repeat (first | exact Sel.head | apply Sel.tail)) ?_
            repeat' (first | refine go ?_ | refine goX ?_ | refine goB ?_ | (refine goG ?_; intro g) | (refine goV ?_; intro v))
            first | refine WL.callV (solvable_c D vb ug rr ms bs gs M2 n hv hf (by omega)) ?_ | refine WD.callV (solvable_c D vb ug rr ms bs gs M2 n hv hf (by omega)) ?_
            by_cases c4 : sv n bs gs M2 = true
            · rw [if_pos c4] at hcs
              rw [c4]
              repeat' (first | refine go ?_ | refine goX ?_ | refine goB ?_ | (refine goG ?_; intro g) | (refine goV ?_; intro v))
              exact LoopEnd.mk (i + 1, lv) (by show i + 1 ≤ L.length; omega) (by show L.length - (i + 1) < L.length - i; omega) suA slA (HasAll.cons (by show Has _ (sI lv ((L.take (i + 1)).foldl (coreS n bs gs) L)); rw [hst, hcs]; exact hmA) sfA)
            · rw [if_neg c4] at hcs
              rw [Bool.eq_false_iff.2 c4]
              repeat' (first | refine go ?_ | refine goX ?_ | refine goB ?_ | (refine goG ?_; intro g) | (refine goV ?_; intro v))
              exact LoopEnd.mk (i + 1, rr) (by show i + 1 ≤ L.length; omega) (by show L.length - (i + 1) < L.length - i; omega) suA slA (HasAll.cons (by show Has _ (sI rr ((L.take (i + 1)).foldl (coreS n bs gs) L)); rw [hst, hcs]; exact hmA) sfA)
          · obtain rfl : i = L.length := by omega
            rw [List.take_of_length_le (Nat.le_refl _)]
            repeat' (first | refine go ?_ | refine goX ?_ | refine goB ?_ | (refine goG ?_; intro g) | (refine goV ?_; intro v))
            exact WC.ret (Fin.p [] [sI lv (cor n bs gs).1] (ResE.t2 rfl rfl rfl) meA (List.nil_sublist _) (by rw [hcor]; exact haA) ⟨_, by rw [hcor], rfl, rfl⟩)
    · have hc : cor n bs gs = ([], 1) := if_neg (by omega)
      repeat' (first | refine go ?_ | refine goX ?_ | refine goB ?_ | (refine goG ?_; intro g) | (refine goV ?_; intro v))
      exact WC.ret (Fin.p [] [sI (.slice none 0 0) (cor n bs gs).1] (ResE.t2 rfl rfl rfl) meA (List.nil_sublist _) (bad hc) ⟨_, by rw [hc], rfl, rfl⟩)
end I
end Go.Proofs.YthggloiigkbfeaaGreat
namespace Go.Proofs.YthggloiigkbfeaaGreat
open W Go.RowKit
variable {P : Program} {e : Env} {bx bx' : List Ow} {F : List Fct} {ty t el : TypeId} {v u : Value} {x y z : Operand} {D n k : Nat} {ms : Nat → QM} {m m1 m2 m3 : QM} {bs : List Bd} {b b1 b2 b3 : Bd} {q : Rat} {K : RPost} {i1 i2 i3 : Int}
theorem LO.bsI2 (h1 : ev e x = some (.int .i64 i1)) (h2 : ev e y = some (.int .i64 i2)) (h : ∀ v, K v (Ow.slice v 3 1 (ints [i1, i2]) :: bx) F) : LO Tryz.prog (.buildSlice 22 2 #[(0, x), (1, y)]) ty e bx F K := LO.buildSlice (parts := [(0, x), (1, y)]) (us := [.int .i64 i1, .int .i64 i2]) (cs := ints [i1, i2]) (.cons h1 (.cons h2 .nil)) (fun _ => by kernel_rfl) rfl (by decide) h
theorem LO.bsI3 (h1 : ev e x = some (.int .i64 i1)) (h2 : ev e y = some (.int .i64 i2)) (h3 : ev e z = some (.int .i64 i3)) (h : ∀ v, K v (Ow.slice v 3 1 (ints [i1, i2, i3]) :: bx) F) : LO Tryz.prog (.buildSlice 22 3 #[(0, x), (1, y), (2, z)]) ty e bx F K := LO.buildSlice (parts := [(0, x), (1, y), (2, z)]) (us := [.int .i64 i1, .int .i64 i2, .int .i64 i3]) (cs := ints [i1, i2, i3]) (.cons h1 (.cons h2 (.cons h3 .nil))) (fun _ => by kernel_rfl) rfl (by decide) h
def up3 (m1 m2 m3 : QM) : Nat → QM := upd (upd (upd (fun _ => m00) 0 m1) 1 m2) 2 m3
theorem bcells3 : bcells [b1, b2, b3] (up3 m1 m2 m3) = bcs b1 m1 ++ (bcs b2 m2 ++ bcs b3 m3) := by
  have h0 : bcells [] (fun _ => m00) = [] := by kernel_rfl
  have h1 := bcells_app (bs := []) (b := b1) (ms := fun _ => m00) (m := m1)
  have h2 := bcells_app (bs := [b1]) (b := b2) (ms := upd (fun _ => m00) 0 m1) (m := m2)
  have h3 := bcells_app (bs := [b1, b2]) (b := b3) (ms := upd (upd (fun _ => m00) 0 m1) 1 m2) (m := m3)
  rw [h0] at h1
  unfold up3
  refine h3.symm.trans ?_
  rw [← List.append_assoc]
  refine congrArg (· ++ bcs b3 m3) (h2.symm.trans ?_)
  exact congrArg (· ++ bcs b2 m2) h1.symm
theorem qcells3 : qcells 3 (up3 m1 m2 m3) = qcs m1 ++ (qcs m2 ++ qcs m3) := by
  have h0 : qcells 0 (fun _ => m00) = [] := by kernel_rfl
  have h1 := qcells_app (n := 0) (ms := fun _ => m00) (m := m1)
  have h2 := qcells_app (n := 1) (ms := upd (fun _ => m00) 0 m1) (m := m2)
  have h3 := qcells_app (n := 2) (ms := upd (upd (fun _ => m00) 0 m1) 1 m2) (m := m3)
  rw [h0] at h1
  unfold up3
  refine h3.symm.trans ?_
  rw [← List.append_assoc]
  refine congrArg (· ++ qcs m3) (h2.symm.trans ?_)
  exact congrArg (· ++ qcs m2) h1.symm
theorem LO.bsB3 (h1 : ev e x = some (bv b1 m1)) (h2 : ev e y = some (bv b2 m2)) (h3 : ev e z = some (bv b3 m3)) (h : ∀ v, K v (Ow.slice v 59 6 (bcells [b1, b2, b3] (up3 m1 m2 m3)) :: bx) F) : LO Tryz.prog (.buildSlice 32 3 #[(0, x), (1, y), (2, z)]) ty e bx F K := LO.buildSlice (parts := [(0, x), (1, y), (2, z)]) (us := [bv b1 m1, bv b2 m2, bv b3 m3]) (cs := bcells [b1, b2, b3] (up3 m1 m2 m3)) (.cons h1 (.cons h2 (.cons h3 .nil))) (fun _ => by rw [bcells3]; kernel_rfl) rfl (by decide) h
theorem LO.bsR3 (h1 : ev e x = some (qv m1)) (h2 : ev e y = some (qv m2)) (h3 : ev e z = some (qv m3)) (h : ∀ v, K v (Ow.slice v 37 4 (qcells 3 (up3 m1 m2 m3)) :: bx) F) : LO Tryz.prog (.buildSlice 38 3 #[(0, x), (1, y), (2, z)]) ty e bx F K := LO.buildSlice (parts := [(0, x), (1, y), (2, z)]) (us := [qv m1, qv m2, qv m3]) (cs := qcells 3 (up3 m1 m2 m3)) (.cons h1 (.cons h2 (.cons h3 .nil))) (fun _ => by rw [qcells3]; kernel_rfl) rfl (by decide) h
theorem W.Has.mB3 (h1 : Has F (isQ (qv m1) (wq D b1.w))) (h2 : Has F (isQ (qv m2) (wq D b2.w))) (h3 : Has F (isQ (qv m3) (wq D b3.w))) : Has F (mB D (up3 m1 m2 m3) [b1, b2, b3]) := fun p hf i hi => by
  match i, hi with
  | 0, _ => exact h1 p hf
  | 1, _ => exact h2 p hf
  | 2, _ => exact h3 p hf
  | i + 3, hi => exact absurd hi (by simp)
theorem W.Has.mQ3 (h1 : Has F (isQ (qv m1) (wq D i1))) (h2 : Has F (isQ (qv m2) (wq D i2))) (h3 : Has F (isQ (qv m3) (wq D i3))) : Has F (mQ D (up3 m1 m2 m3) [i1, i2, i3]) := fun p hf i hi => by
  match i, hi with
  | 0, _ => exact h1 p hf
  | 1, _ => exact h2 p hf
  | 2, _ => exact h3 p hf
  | i + 3, hi => exact absurd hi (by simp)
end Go.Proofs.YthggloiigkbfeaaGreat
namespace Go.Proofs.YthggloiigkbfeaaGreat
open W Go.RowKit
attribute [local irreducible] WC WL WD YO LO LoopEnd W.Fin Scalar SliceT FieldAt Row ArrT AllocT KnS Has W.One SrcE IntT
namespace J
set_option maxRecDepth 60000
theorem t0A {G : Prop} (h : G := by first | (((first | exact T.al3 | exact T.al4 | exact T.al22 | exact T.al26 | exact T.al32 | exact T.al35 | exact T.al37 | exact T.al38 | exact T.al59 | exact T.al103 | exact T.al109 | exact T.al111 | exact T.al114 | exact T.al161 | exact T.al164 | exact T.al94 | exact T.al116 | exact T.al159)); done) | fail) : G := h
theorem t1A {G : Prop} (h : G := by first | (((first | exact T.sc3 | exact T.sc4 | exact T.sc22 | exact T.sc26 | exact T.sc32 | exact T.sc38 | exact T.sc109 | exact T.sc111 | exact T.sc161 | exact T.sc164 | exact T.sc94 | exact T.sc116 | exact T.sc159)); done) | fail) : G := h
theorem t2A {G : Prop} (h : G := by first | (((first | exact T.z3 | exact T.z4 | exact T.z22 | exact T.z26 | exact T.z32 | exact T.z38 | exact T.z109 | exact T.z111 | exact T.z161 | exact T.z164 | exact T.z94 | exact T.z116 | exact T.z159)); done) | fail) : G := h
theorem t3A {G : Prop} (h : G := by first | (((first | exact T.f35_0 | exact T.f35_1 | exact T.f37_0 | exact T.f37_1 | exact T.f59_0 | exact T.f59_1 | exact T.f59_2 | exact T.f103_0 | exact T.f103_1 | exact T.f114_0 | exact T.f114_1)); done) | fail) : G := h
theorem t4A {G : Prop} (h : G := by first | (((first | exact T.e22 | exact T.e32 | exact T.e38 | exact T.e109 | exact T.e111 | exact T.e161)); done) | fail) : G := h
theorem t5A {G : Prop} (h : G := by first | (((first | exact T.s22 | exact T.s32 | exact T.s38 | exact T.s109 | exact T.s111 | exact T.s161)); done) | fail) : G := h
theorem t6A {G : Prop} (h : G := by first | (((first | exact T.r35 | exact T.r37 | exact T.r59 | exact T.r103 | exact T.r114)); done) | fail) : G := h
theorem t7A {G : Prop} (h : G := by first | (((first | exact T.u3 | exact T.u26 | exact T.u164)); done) | fail) : G := h
theorem knA {G : Prop} (h : G := by first | (((first | (focus (apply KnS.oT; exact meA; done)) | (focus (apply KnS.f; exact hmA; done)) | (focus (apply KnS.oI; exact meA; done)) | (focus (apply KnS.o1; exact meA; done)) | (focus (apply KnS.zd; exact hmA; done)) | (focus (apply KnS.q1; exact hmA; done)) | (focus (apply KnS.q2; exact hmA; done)) | (focus (apply KnS.fr; exact hmA; done)) | (focus (apply KnS.fb; exact hmA; done)) | (focus (apply KnS.fl; exact hmA; done)) | (focus (apply KnS.oR; exact meA; done)) | (focus (apply KnS.oB; exact meA; done)) | (focus (apply KnS.oL; exact meA; done)))); done) | fail) : G := h
theorem hsA {G : Prop} (h : G := by first | (((first | exact hmA | (focus (apply hasQ_P; exact hmA; done)) | (focus (apply hasQ_Q; exact hmA; done)) | exact hasZ_0 | exact hasQ_0 | (focus (apply hasZ_d; exact hmA; done)) | (focus (apply hasQ_d1; exact hmA; done)) | (focus (apply hasQ_d2; exact hmA; done)) | exact hasQ0w)); done) | fail) : G := h
theorem haA {G : Prop} (h : G := by first | ((repeat (first | exact HasAll.nil | (apply HasAll.cons; exact hsA))); done) | fail) : G := h
theorem hbA {G : Prop} (h : G := by first | ((repeat (first | exact HasAllB.nil | (apply HasAllB.cons; (first | (focus (apply HasB.oI; exact meA; done)) | (focus (apply HasB.c; exact meA; done)) | (focus (apply HasB.f; exact hsA; done)) | (focus (apply HasB.fR; exact meA; exact hmA; done)) | (focus (apply HasB.fB; exact meA; exact hmA; done)) | (focus (apply HasB.fL; exact meA; exact hmA; done)) | (focus (apply HasB.and; (focus (apply HasB.c; exact meA; done)); (focus (apply HasB.c; exact meA; done)); done)) | (focus (apply HasB.oT; exact meA; done)))))); done) | fail) : G := h
theorem ltA {G : Prop} (h : G := by first | (((first | (focus (apply Or.inr; constructor; (repeat (first | exact List.Sublist.refl _ | exact List.nil_sublist _ | apply List.Sublist.cons_cons | apply List.Sublist.cons)); (first | exact fun _ h => h | (intro f hf; (repeat (first | exact hf | apply List.Mem.tail)))); done)) | (apply Or.inl; kernel_rfl))); done) | fail) : G := h
theorem onA {G : Prop} (h : G := by first | (((first | exact ints_one _ | (intro u hu; simp only [List.mem_cons, List.not_mem_nil, or_false] at hu; first | (subst hu; rfl) | (rcases hu with rfl | rfl | rfl <;> rfl)))); done) | fail) : G := h
theorem leA {G : Prop} (h : G := by first | (((simp only [List.length_map, List.length_append, List.length_cons, List.length_nil, List.length_replicate, List.length_take]; omega)); done) | fail) : G := h
theorem y_indexAddr {G : Prop} (h : G := by first | (((first | (first | (apply YO.ix1; exact t5A; exact rfl; exact rfl; exact knA; omega) | (apply YO.ix; exact t5A; exact rfl; exact rfl; exact knA; omega) | (apply YO.ix1'; exact t5A; exact rfl; exact rfl; exact knA; omega; omega) | (apply YO.ix'; exact t5A; exact rfl; exact rfl; exact knA; omega; omega)) | (apply YO.ix1; exact t5A; exact rfl; exact rfl; exact knA; (first | omega | (simp only [List.length_set, List.length_replicate]; omega))) | (apply YO.ix; exact t5A; exact rfl; exact rfl; exact knA; (first | omega | (simp only [List.length_set, List.length_replicate]; omega))) | (apply YO.ix1'; exact t5A; exact rfl; exact rfl; exact knA; omega; (first | omega | (simp only [List.length_set, List.length_replicate]; omega))))); done) | fail) : G := h
theorem y_load {G : Prop} (h : G := by first | (((first | (apply YO.ldW; exact t6A; exact rfl; exact meA; exact rfl) | (apply YO.ld42; exact t6A; exact rfl; exact meA) | (apply YO.ld40; exact t6A; exact rfl; exact meA) | (apply YO.ld62; exact t6A; exact rfl; exact meA) | (apply YO.ld51; exact t6A; exact rfl; exact meA) | (apply YO.ldR; exact t6A; exact rfl; exact hmA; omega) | (apply YO.ldBd; exact t6A; exact rfl; exact hmA; omega) | (apply YO.ldBq; exact t6A; exact rfl; exact hmA; omega) | (apply YO.ldBf; exact t1A; exact rfl; exact hmA; omega) | (apply YO.ldBt; exact t1A; exact rfl; exact hmA; omega) | (apply YO.ldLn; exact t6A; exact rfl; exact hmA; omega) | (apply YO.ldLb; exact t1A; exact rfl; exact hmA; omega) | (apply YO.ldLq; exact t6A; exact rfl; exact hmA; omega) | (apply YO.ldWf; exact t6A; exact rfl; exact hmA; exact rfl) | (apply YO.ldOR; exact t6A; exact rfl; exact meA; omega) | (apply YO.ldOBd; exact t6A; exact rfl; exact meA; omega) | (apply YO.ldOBq; exact t6A; exact rfl; exact meA; omega) | (apply YO.ldOL; exact t6A; exact rfl; exact meA; omega) | (apply YO.ldOT; exact t1A; exact rfl; exact meA; omega) | (apply YO.ldOBf; exact t1A; exact rfl; exact meA; omega) | (apply YO.ldOBt; exact t1A; exact rfl; exact meA; omega) | (apply YO.ldWI0; exact t6A; exact rfl; exact meA; (first | omega | (simp only [List.length_set, List.length_replicate]; omega))) | (apply YO.ldWF0; exact t6A; exact rfl; exact hmA; (first | omega | (simp only [List.length_set, List.length_replicate]; omega))) | (apply YO.ldCI; exact t1A; exact rfl; exact meA; (first | omega | (simp only [List.length_set, List.length_replicate]; omega))) | (apply YO.ldFI; exact t1A; exact rfl; exact hmA; (first | omega | (simp only [List.length_set, List.length_replicate]; omega))) | (apply YO.ldF; exact t1A; exact rfl; exact hmA; exact rfl) | (apply YO.ldS; exact t1A; exact rfl; exact hsA; omega) | (apply YO.ldB; exact t1A; exact rfl; exact meA; exact rfl) | (apply YO.ldOI; exact t1A; exact rfl; exact meA; (first | omega | (simp only [List.length_set, List.length_replicate]; omega))))); done) | fail) : G := h
theorem y_slice {G : Prop} (h : G := by first | (((first | (first | (apply YO.slice; exact t5A; exact rfl; exact knA; exact Or.inl ⟨rfl, rfl⟩; exact Or.inr ⟨_, rfl, rfl⟩; omega; omega) | (apply YO.slice; exact t5A; exact rfl; exact knA; exact Or.inr ⟨_, rfl, rfl⟩; exact Or.inl ⟨rfl, rfl⟩; omega; omega)) | (apply YO.slice3; exact t5A; exact rfl; exact knA; exact rfl; exact rfl; omega; omega))); done) | fail) : G := h
theorem y_eql {G : Prop} (h : G := by first | (((first | (first | (first | (apply YO.eql_t; exact rfl; exact rfl; omega) | (apply YO.eql_f; exact rfl; exact rfl; omega)) | (apply YO.eqNil_t; exact t5A; exact rfl; exact knA; assumption) | (apply YO.eqNil_f; exact t5A; exact rfl; exact knA; assumption)) | (apply YO.beq_t; exact bool_t; exact rfl; exact rfl; (first | rfl | assumption | decide)) | (apply YO.beq_f; exact bool_t; exact rfl; exact rfl; (first | rfl | assumption | decide)))); done) | fail) : G := h
theorem y_build {G : Prop} (h : G := by first | (((first | (apply YO.buildZ; exact rfl; exact rfl; exact knA) | exact YO.buildZ0 | exact YO.buildQ0 | (apply YO.buildQ1; exact rfl) | (apply YO.buildQ2; exact rfl; exact rfl) | (apply YO.buildLn; exact rfl; exact rfl) | (apply YO.buildSys; exact rfl; exact rfl; exact knA) | (apply YO.buildBd; exact rfl; exact rfl) | (apply YO.buildBd3; exact rfl; exact rfl; exact rfl) | (apply YO.buildSy1; exact rfl))); done) | fail) : G := h
theorem y_len {G : Prop} (h : G := by first | (((apply YO.len; exact t5A; exact rfl; exact knA)); done) | fail) : G := h
theorem y_fieldAddr {G : Prop} (h : G := by first | (((first | (apply YO.fieldE; exact t3A; exact rfl) | (apply YO.fieldN; exact t3A; exact rfl; ((try simp only [Nat.zero_add, Nat.mul_one, Nat.reduceAdd, Nat.reduceMul]); exact rfl)))); done) | fail) : G := h
theorem y_conv {G : Prop} (h : G := by first | (((first | (first | (apply YO.convU; exact t7A; exact t7A; exact rfl; omega; omega) | (apply YO.convI; exact t7A; exact t7A; exact rfl; omega; omega)) | (apply YO.convN; exact t7A; exact t7A; exact rfl; omega; omega))); done) | fail) : G := h
theorem y_neq {G : Prop} (h : G := by first | (((first | (first | (apply YO.neq_t; exact rfl; exact rfl; omega) | (apply YO.neq_f; exact rfl; exact rfl; omega)) | (apply YO.bne_t; exact bool_t; exact rfl; exact rfl; (first | rfl | assumption | decide)) | (apply YO.bne_f; exact bool_t; exact rfl; exact rfl; (first | rfl | assumption | decide)))); done) | fail) : G := h
theorem y_makeFunc {G : Prop} (h : G := by first | (((apply YO.makeFunc; (repeat (first | exact Evs.nil | (apply Evs.cons; exact rfl))); (repeat (first | exact Evs.nil | (apply Evs.cons; exact rfl))))); done) | fail) : G := h
theorem y_quo {G : Prop} (h : G := by first | (((first | (apply YO.quo; exact rfl; exact rfl; omega; omega; omega) | (apply YO.uquo; exact rfl; exact rfl; omega; omega; omega))); done) | fail) : G := h
theorem y_and {G : Prop} (h : G := by first | (((first | (apply YO.and1; exact rfl; exact rfl; omega; omega) | (apply YO.and; exact rfl; exact rfl; omega; omega; omega; omega))); done) | fail) : G := h
theorem y_mul {G : Prop} (h : G := by first | (((first | (apply YO.mul; exact rfl; exact rfl; omega; omega) | (apply YO.umul; exact rfl; exact rfl; omega; omega))); done) | fail) : G := h
theorem y_rem {G : Prop} (h : G := by first | (((first | (apply YO.rem; exact rfl; exact rfl; omega; omega) | (apply YO.urem; exact rfl; exact rfl; omega; omega))); done) | fail) : G := h
theorem y_add {G : Prop} (h : G := by first | (((first | (apply YO.inc; exact rfl; exact rfl; omega) | (apply YO.add; exact rfl; exact rfl; omega; omega))); done) | fail) : G := h
theorem y_lss {G : Prop} (h : G := by first | (((first | (apply YO.lss_t; exact rfl; exact rfl; omega) | (apply YO.lss_f; exact rfl; exact rfl; omega))); done) | fail) : G := h
theorem y_gtr {G : Prop} (h : G := by first | (((first | (apply YO.gtr_t; exact rfl; exact rfl; omega) | (apply YO.gtr_f; exact rfl; exact rfl; omega))); done) | fail) : G := h
theorem y_geq {G : Prop} (h : G := by first | (((first | (apply YO.geq_t; exact rfl; exact rfl; omega) | (apply YO.geq_f; exact rfl; exact rfl; omega))); done) | fail) : G := h
theorem y_leq {G : Prop} (h : G := by first | (((first | (apply YO.leq_t; exact rfl; exact rfl; omega) | (apply YO.leq_f; exact rfl; exact rfl; omega))); done) | fail) : G := h
theorem y_shl {G : Prop} (h : G := by first | (((apply YO.shl'; exact rfl; exact rfl; omega; omega; (first | omega | decide); (first | omega | decide))); done) | fail) : G := h
theorem y_uneg {G : Prop} (h : G := by first | (((first | (apply YO.neg; exact rfl; omega; omega) | (apply YO.uneg; exact rfl; omega; omega))); done) | fail) : G := h
theorem y_pick {G : Prop} (h : G := by first | (((first | (apply YO.pick_t; exact rfl; exact rfl) | (apply YO.pick_f; exact rfl; exact rfl))); done) | fail) : G := h
theorem y_unot {G : Prop} (h : G := by first | (((first | (apply YO.not_t; exact rfl) | (apply YO.not_f; exact rfl))); done) | fail) : G := h
theorem y_or {G : Prop} (h : G := by first | (((apply YO.or; exact rfl; exact rfl; omega; omega; omega; omega)); done) | fail) : G := h
theorem go {G G' : Prop} (h : G') (s : Bx G' → G := by
  intro h
  (first
    | apply WL.nil
    | (apply WL.skg; exact rfl; exact rfl)
    | (apply WL.skg0; exact rfl)
    | (apply WL.k_move; (apply YO.move; exact rfl); exact rfl; exact rfl)
    | (apply WL.k_assign; (apply YO.assign; exact rfl); exact rfl; exact rfl)
    | (apply WL.k_lss; exact y_lss; exact rfl; exact rfl)
    | (apply WL.k_add; exact y_add; exact rfl; exact rfl)
    | (apply WL.k_len; exact y_len; exact rfl; exact rfl)
    | (apply WL.k_indexAddr; exact y_indexAddr; exact rfl; exact rfl)
    | (apply WL.k_load; exact y_load; exact rfl; exact rfl)
    | (apply WL.k_pick; exact y_pick; exact rfl; exact rfl)
    | (apply WL.k_fieldAddr; exact y_fieldAddr; exact rfl; exact rfl)
    | (apply WL.k_eql; exact y_eql; exact rfl; exact rfl)
    | (apply WL.k_neq; exact y_neq; exact rfl; exact rfl)
    | (apply WL.k_nil; (apply YO.nil; exact rfl); exact rfl; exact rfl)
    | (apply WL.k_extract; (apply YO.extract; exact rfl; exact rfl); exact rfl; exact rfl)
    | (apply WL.k_gtr; exact y_gtr; exact rfl; exact rfl)
    | (apply WL.k_geq; exact y_geq; exact rfl; exact rfl)
    | (apply WL.k_leq; exact y_leq; exact rfl; exact rfl)
    | (apply WL.k_sub; (apply YO.sub; exact rfl; exact rfl; omega; omega); exact rfl; exact rfl)
    | (apply WL.k_mul; exact y_mul; exact rfl; exact rfl)
    | (apply WL.k_rem; exact y_rem; exact rfl; exact rfl)
    | (apply WL.k_quo; exact y_quo; exact rfl; exact rfl)
    | (apply WL.k_unot; exact y_unot; exact rfl; exact rfl)
    | (apply WL.k_uneg; exact y_uneg; exact rfl; exact rfl)
    | (apply WL.k_max; (apply YO.max; exact rfl; exact rfl); exact rfl; exact rfl)
    | (apply WL.k_min; (apply YO.min; exact rfl; exact rfl); exact rfl; exact rfl)
    | (apply WL.k_makeFunc; exact y_makeFunc; exact rfl; exact rfl)
    | (apply WL.k_conv; exact y_conv; exact rfl; exact rfl)
    | (apply WL.k_shl; exact y_shl; exact rfl; exact rfl)
    | (apply WL.k_shr; (apply YO.shr'; exact rfl; exact rfl; omega; omega); exact rfl; exact rfl)
    | (apply WL.k_and; exact y_and; exact rfl; exact rfl)
    | (apply WL.k_or; exact y_or; exact rfl; exact rfl)
    | (apply WL.k_andNot; (apply YO.anot; exact rfl; exact rfl); exact rfl; exact rfl)
    | (apply WL.k_slice; exact y_slice; exact rfl; exact rfl)
    | (apply WL.k_build; exact y_build; exact rfl; exact rfl)
    | apply WC.seq
    | apply WC.region
    | apply WC.block
    | (apply WC.cond_t; exact rfl)
    | (apply WC.cond_f; exact rfl)
    | apply WC.exit
    | apply WC.skip
    | apply WC.label
    | (apply WL.kl_store; rotate_left; exact rfl; (first | (apply LO.storeOI; exact rfl; exact rfl; exact t2A; exact seA; (first | omega | (simp only [List.length_set]; omega))) | (apply LO.storeQ; exact rfl; exact rfl; exact t6A; exact hmA; exact seA; omega) | (apply LO.storeL1; exact rfl; exact rfl; exact t6A; exact hmA; exact seA; omega) | (apply LO.storeOT; exact rfl; exact rfl; exact t2A; (first | exact One.lit rfl rfl | (apply One.sl; exact knA)); exact seA; omega) | (apply LO.storeB2; exact rfl; exact rfl; exact t6A; exact hmA; exact seA) | (apply LO.storeBf; exact rfl; exact rfl; exact t2A; exact seA; omega) | (apply LO.storeBt; exact rfl; exact rfl; exact t2A; exact seA; omega) | (apply LO.storeBq; exact rfl; exact rfl; exact t6A; exact hmA; exact seA; omega) | (apply LO.storeI; exact rfl; exact rfl; exact t2A; exact seA; (first | omega | (simp only [List.length_set, List.length_replicate]; omega))) | (apply LO.storeWI; exact rfl; exact rfl; exact seA; exact t6A; (first | omega | (simp only [List.length_set, List.length_replicate]; omega)); (first | (simp only [List.length_map, List.length_set, List.length_replicate, ints]; omega) | rfl)) | (apply LO.store1; exact rfl; exact rfl; exact t2A; (first | exact One.lit rfl rfl | (apply One.sl; exact knA)); exact seA; (first | (simp only [List.length_cons, List.length_nil]; omega) | (simp; omega)); (first | (simp only [List.set_cons_succ, List.set_cons_zero]; exact rfl) | exact rfl)) | (apply LO.storeO1; exact rfl; exact rfl; exact t2A; (first | exact One.lit rfl rfl | (apply One.sl; exact knA)); exact seA; (first | (simp only [List.length_cons, List.length_nil]; omega) | (simp; omega)); (first | (simp only [List.set_cons_succ, List.set_cons_zero]; exact rfl) | exact rfl)) | (apply LO.storeL; exact rfl; exact rfl; exact seA; exact t6A; exact rfl; exact rfl; (repeat (first | exact OneL.nil | (apply OneL.cons; (first | exact One.lit rfl rfl | (apply One.sl; exact knA)))))))))
  repeat (first
    | apply WL.nil
    | (apply WL.skg; exact rfl; exact rfl)
    | (apply WL.skg0; exact rfl)
    | (apply WL.k_move; (apply YO.move; exact rfl); exact rfl; exact rfl)
    | (apply WL.k_assign; (apply YO.assign; exact rfl); exact rfl; exact rfl)
    | (apply WL.k_lss; exact y_lss; exact rfl; exact rfl)
    | (apply WL.k_add; exact y_add; exact rfl; exact rfl)
    | (apply WL.k_len; exact y_len; exact rfl; exact rfl)
    | (apply WL.k_indexAddr; exact y_indexAddr; exact rfl; exact rfl)
    | (apply WL.k_load; exact y_load; exact rfl; exact rfl)
    | (apply WL.k_pick; exact y_pick; exact rfl; exact rfl)
    | (apply WL.k_fieldAddr; exact y_fieldAddr; exact rfl; exact rfl)
    | (apply WL.k_eql; exact y_eql; exact rfl; exact rfl)
    | (apply WL.k_neq; exact y_neq; exact rfl; exact rfl)
    | (apply WL.k_nil; (apply YO.nil; exact rfl); exact rfl; exact rfl)
    | (apply WL.k_extract; (apply YO.extract; exact rfl; exact rfl); exact rfl; exact rfl)
    | (apply WL.k_gtr; exact y_gtr; exact rfl; exact rfl)
    | (apply WL.k_geq; exact y_geq; exact rfl; exact rfl)
    | (apply WL.k_leq; exact y_leq; exact rfl; exact rfl)
    | (apply WL.k_sub; (apply YO.sub; exact rfl; exact rfl; omega; omega); exact rfl; exact rfl)
    | (apply WL.k_mul; exact y_mul; exact rfl; exact rfl)
    | (apply WL.k_rem; exact y_rem; exact rfl; exact rfl)
    | (apply WL.k_quo; exact y_quo; exact rfl; exact rfl)
    | (apply WL.k_unot; exact y_unot; exact rfl; exact rfl)
    | (apply WL.k_uneg; exact y_uneg; exact rfl; exact rfl)
    | (apply WL.k_max; (apply YO.max; exact rfl; exact rfl); exact rfl; exact rfl)
    | (apply WL.k_min; (apply YO.min; exact rfl; exact rfl); exact rfl; exact rfl)
    | (apply WL.k_makeFunc; exact y_makeFunc; exact rfl; exact rfl)
    | (apply WL.k_conv; exact y_conv; exact rfl; exact rfl)
    | (apply WL.k_shl; exact y_shl; exact rfl; exact rfl)
    | (apply WL.k_shr; (apply YO.shr'; exact rfl; exact rfl; omega; omega); exact rfl; exact rfl)
    | (apply WL.k_and; exact y_and; exact rfl; exact rfl)
    | (apply WL.k_or; exact y_or; exact rfl; exact rfl)
    | (apply WL.k_andNot; (apply YO.anot; exact rfl; exact rfl); exact rfl; exact rfl)
    | (apply WL.k_slice; exact y_slice; exact rfl; exact rfl)
    | (apply WL.k_build; exact y_build; exact rfl; exact rfl)
    | apply WC.seq
    | apply WC.region
    | apply WC.block
    | (apply WC.cond_t; exact rfl)
    | (apply WC.cond_f; exact rfl)
    | apply WC.exit
    | apply WC.skip
    | apply WC.label
    | (apply WL.kl_store; rotate_left; exact rfl; (first | (apply LO.storeOI; exact rfl; exact rfl; exact t2A; exact seA; (first | omega | (simp only [List.length_set]; omega))) | (apply LO.storeQ; exact rfl; exact rfl; exact t6A; exact hmA; exact seA; omega) | (apply LO.storeL1; exact rfl; exact rfl; exact t6A; exact hmA; exact seA; omega) | (apply LO.storeOT; exact rfl; exact rfl; exact t2A; (first | exact One.lit rfl rfl | (apply One.sl; exact knA)); exact seA; omega) | (apply LO.storeB2; exact rfl; exact rfl; exact t6A; exact hmA; exact seA) | (apply LO.storeBf; exact rfl; exact rfl; exact t2A; exact seA; omega) | (apply LO.storeBt; exact rfl; exact rfl; exact t2A; exact seA; omega) | (apply LO.storeBq; exact rfl; exact rfl; exact t6A; exact hmA; exact seA; omega) | (apply LO.storeI; exact rfl; exact rfl; exact t2A; exact seA; (first | omega | (simp only [List.length_set, List.length_replicate]; omega))) | (apply LO.storeWI; exact rfl; exact rfl; exact seA; exact t6A; (first | omega | (simp only [List.length_set, List.length_replicate]; omega)); (first | (simp only [List.length_map, List.length_set, List.length_replicate, ints]; omega) | rfl)) | (apply LO.store1; exact rfl; exact rfl; exact t2A; (first | exact One.lit rfl rfl | (apply One.sl; exact knA)); exact seA; (first | (simp only [List.length_cons, List.length_nil]; omega) | (simp; omega)); (first | (simp only [List.set_cons_succ, List.set_cons_zero]; exact rfl) | exact rfl)) | (apply LO.storeO1; exact rfl; exact rfl; exact t2A; (first | exact One.lit rfl rfl | (apply One.sl; exact knA)); exact seA; (first | (simp only [List.length_cons, List.length_nil]; omega) | (simp; omega)); (first | (simp only [List.set_cons_succ, List.set_cons_zero]; exact rfl) | exact rfl)) | (apply LO.storeL; exact rfl; exact rfl; exact seA; exact t6A; exact rfl; exact rfl; (repeat (first | exact OneL.nil | (apply OneL.cons; (first | exact One.lit rfl rfl | (apply One.sl; exact knA)))))))))
  exact Bx.h h) : G := s ⟨h⟩
theorem goD {G G' : Prop} (h : G') (s : Bx G' → G := by
  intro h
  (first
    | apply WD.nil
    | (apply WD.skg; exact rfl; exact rfl; exact rfl)
    | (apply WD.skgl; exact rfl; exact rfl; exact rfl)
    | (apply WD.skgl0; exact rfl; exact rfl)
    | (apply WD.k_move; exact rfl; (apply YO.move; exact rfl); exact rfl; exact rfl)
    | (apply WD.k_assign; exact rfl; (apply YO.assign; exact rfl); exact rfl; exact rfl)
    | (apply WD.k_lss; exact rfl; exact y_lss; exact rfl; exact rfl)
    | (apply WD.k_add; exact rfl; exact y_add; exact rfl; exact rfl)
    | (apply WD.k_len; exact rfl; exact y_len; exact rfl; exact rfl)
    | (apply WD.k_indexAddr; exact rfl; exact y_indexAddr; exact rfl; exact rfl)
    | (apply WD.k_load; exact rfl; exact y_load; exact rfl; exact rfl)
    | (apply WD.k_pick; exact rfl; exact y_pick; exact rfl; exact rfl)
    | (apply WD.k_fieldAddr; exact rfl; exact y_fieldAddr; exact rfl; exact rfl)
    | (apply WD.k_eql; exact rfl; exact y_eql; exact rfl; exact rfl)
    | (apply WD.k_neq; exact rfl; exact y_neq; exact rfl; exact rfl)
    | (apply WD.k_nil; exact rfl; (apply YO.nil; exact rfl); exact rfl; exact rfl)
    | (apply WD.k_extract; exact rfl; (apply YO.extract; exact rfl; exact rfl); exact rfl; exact rfl)
    | (apply WD.k_gtr; exact rfl; exact y_gtr; exact rfl; exact rfl)
    | (apply WD.k_geq; exact rfl; exact y_geq; exact rfl; exact rfl)
    | (apply WD.k_leq; exact rfl; exact y_leq; exact rfl; exact rfl)
    | (apply WD.k_sub; exact rfl; (apply YO.sub; exact rfl; exact rfl; omega; omega); exact rfl; exact rfl)
    | (apply WD.k_mul; exact rfl; exact y_mul; exact rfl; exact rfl)
    | (apply WD.k_rem; exact rfl; exact y_rem; exact rfl; exact rfl)
    | (apply WD.k_quo; exact rfl; exact y_quo; exact rfl; exact rfl)
    | (apply WD.k_unot; exact rfl; exact y_unot; exact rfl; exact rfl)
    | (apply WD.k_uneg; exact rfl; exact y_uneg; exact rfl; exact rfl)
    | (apply WD.k_max; exact rfl; (apply YO.max; exact rfl; exact rfl); exact rfl; exact rfl)
    | (apply WD.k_min; exact rfl; (apply YO.min; exact rfl; exact rfl); exact rfl; exact rfl)
    | (apply WD.k_makeFunc; exact rfl; exact y_makeFunc; exact rfl; exact rfl)
    | (apply WD.k_conv; exact rfl; exact y_conv; exact rfl; exact rfl)
    | (apply WD.k_shl; exact rfl; exact y_shl; exact rfl; exact rfl)
    | (apply WD.k_shr; exact rfl; (apply YO.shr'; exact rfl; exact rfl; omega; omega); exact rfl; exact rfl)
    | (apply WD.k_and; exact rfl; exact y_and; exact rfl; exact rfl)
    | (apply WD.k_or; exact rfl; exact y_or; exact rfl; exact rfl)
    | (apply WD.k_andNot; exact rfl; (apply YO.anot; exact rfl; exact rfl); exact rfl; exact rfl)
    | (apply WD.k_slice; exact rfl; exact y_slice; exact rfl; exact rfl)
    | (apply WD.k_build; exact rfl; exact y_build; exact rfl; exact rfl)
    | (apply WD.kl_store; exact rfl; rotate_left; exact rfl; (first | (apply LO.storeOI; exact rfl; exact rfl; exact t2A; exact seA; (first | omega | (simp only [List.length_set]; omega))) | (apply LO.storeQ; exact rfl; exact rfl; exact t6A; exact hmA; exact seA; omega) | (apply LO.storeL1; exact rfl; exact rfl; exact t6A; exact hmA; exact seA; omega) | (apply LO.storeOT; exact rfl; exact rfl; exact t2A; (first | exact One.lit rfl rfl | (apply One.sl; exact knA)); exact seA; omega) | (apply LO.storeB2; exact rfl; exact rfl; exact t6A; exact hmA; exact seA) | (apply LO.storeBf; exact rfl; exact rfl; exact t2A; exact seA; omega) | (apply LO.storeBt; exact rfl; exact rfl; exact t2A; exact seA; omega) | (apply LO.storeBq; exact rfl; exact rfl; exact t6A; exact hmA; exact seA; omega) | (apply LO.storeI; exact rfl; exact rfl; exact t2A; exact seA; (first | omega | (simp only [List.length_set, List.length_replicate]; omega))) | (apply LO.storeWI; exact rfl; exact rfl; exact seA; exact t6A; (first | omega | (simp only [List.length_set, List.length_replicate]; omega)); (first | (simp only [List.length_map, List.length_set, List.length_replicate, ints]; omega) | rfl)) | (apply LO.store1; exact rfl; exact rfl; exact t2A; (first | exact One.lit rfl rfl | (apply One.sl; exact knA)); exact seA; (first | (simp only [List.length_cons, List.length_nil]; omega) | (simp; omega)); (first | (simp only [List.set_cons_succ, List.set_cons_zero]; exact rfl) | exact rfl)) | (apply LO.storeO1; exact rfl; exact rfl; exact t2A; (first | exact One.lit rfl rfl | (apply One.sl; exact knA)); exact seA; (first | (simp only [List.length_cons, List.length_nil]; omega) | (simp; omega)); (first | (simp only [List.set_cons_succ, List.set_cons_zero]; exact rfl) | exact rfl)) | (apply LO.storeL; exact rfl; exact rfl; exact seA; exact t6A; exact rfl; exact rfl; (repeat (first | exact OneL.nil | (apply OneL.cons; (first | exact One.lit rfl rfl | (apply One.sl; exact knA))))))); constructor; exact ltA))
  repeat (first
    | apply WD.nil
    | (apply WD.skg; exact rfl; exact rfl; exact rfl)
    | (apply WD.skgl; exact rfl; exact rfl; exact rfl)
    | (apply WD.skgl0; exact rfl; exact rfl)
    | (apply WD.k_move; exact rfl; (apply YO.move; exact rfl); exact rfl; exact rfl)
    | (apply WD.k_assign; exact rfl; (apply YO.assign; exact rfl); exact rfl; exact rfl)
    | (apply WD.k_lss; exact rfl; exact y_lss; exact rfl; exact rfl)
    | (apply WD.k_add; exact rfl; exact y_add; exact rfl; exact rfl)
    | (apply WD.k_len; exact rfl; exact y_len; exact rfl; exact rfl)
    | (apply WD.k_indexAddr; exact rfl; exact y_indexAddr; exact rfl; exact rfl)
    | (apply WD.k_load; exact rfl; exact y_load; exact rfl; exact rfl)
    | (apply WD.k_pick; exact rfl; exact y_pick; exact rfl; exact rfl)
    | (apply WD.k_fieldAddr; exact rfl; exact y_fieldAddr; exact rfl; exact rfl)
    | (apply WD.k_eql; exact rfl; exact y_eql; exact rfl; exact rfl)
    | (apply WD.k_neq; exact rfl; exact y_neq; exact rfl; exact rfl)
    | (apply WD.k_nil; exact rfl; (apply YO.nil; exact rfl); exact rfl; exact rfl)
    | (apply WD.k_extract; exact rfl; (apply YO.extract; exact rfl; exact rfl); exact rfl; exact rfl)
    | (apply WD.k_gtr; exact rfl; exact y_gtr; exact rfl; exact rfl)
    | (apply WD.k_geq; exact rfl; exact y_geq; exact rfl; exact rfl)
    | (apply WD.k_leq; exact rfl; exact y_leq; exact rfl; exact rfl)
    | (apply WD.k_sub; exact rfl; (apply YO.sub; exact rfl; exact rfl; omega; omega); exact rfl; exact rfl)
    | (apply WD.k_mul; exact rfl; exact y_mul; exact rfl; exact rfl)
    | (apply WD.k_rem; exact rfl; exact y_rem; exact rfl; exact rfl)
    | (apply WD.k_quo; exact rfl; exact y_quo; exact rfl; exact rfl)
    | (apply WD.k_unot; exact rfl; exact y_unot; exact rfl; exact rfl)
    | (apply WD.k_uneg; exact rfl; exact y_uneg; exact rfl; exact rfl)
    | (apply WD.k_max; exact rfl; (apply YO.max; exact rfl; exact rfl); exact rfl; exact rfl)
    | (apply WD.k_min; exact rfl; (apply YO.min; exact rfl; exact rfl); exact rfl; exact rfl)
    | (apply WD.k_makeFunc; exact rfl; exact y_makeFunc; exact rfl; exact rfl)
    | (apply WD.k_conv; exact rfl; exact y_conv; exact rfl; exact rfl)
    | (apply WD.k_shl; exact rfl; exact y_shl; exact rfl; exact rfl)
    | (apply WD.k_shr; exact rfl; (apply YO.shr'; exact rfl; exact rfl; omega; omega); exact rfl; exact rfl)
    | (apply WD.k_and; exact rfl; exact y_and; exact rfl; exact rfl)
    | (apply WD.k_or; exact rfl; exact y_or; exact rfl; exact rfl)
    | (apply WD.k_andNot; exact rfl; (apply YO.anot; exact rfl; exact rfl); exact rfl; exact rfl)
    | (apply WD.k_slice; exact rfl; exact y_slice; exact rfl; exact rfl)
    | (apply WD.k_build; exact rfl; exact y_build; exact rfl; exact rfl)
    | (apply WD.kl_store; exact rfl; rotate_left; exact rfl; (first | (apply LO.storeOI; exact rfl; exact rfl; exact t2A; exact seA; (first | omega | (simp only [List.length_set]; omega))) | (apply LO.storeQ; exact rfl; exact rfl; exact t6A; exact hmA; exact seA; omega) | (apply LO.storeL1; exact rfl; exact rfl; exact t6A; exact hmA; exact seA; omega) | (apply LO.storeOT; exact rfl; exact rfl; exact t2A; (first | exact One.lit rfl rfl | (apply One.sl; exact knA)); exact seA; omega) | (apply LO.storeB2; exact rfl; exact rfl; exact t6A; exact hmA; exact seA) | (apply LO.storeBf; exact rfl; exact rfl; exact t2A; exact seA; omega) | (apply LO.storeBt; exact rfl; exact rfl; exact t2A; exact seA; omega) | (apply LO.storeBq; exact rfl; exact rfl; exact t6A; exact hmA; exact seA; omega) | (apply LO.storeI; exact rfl; exact rfl; exact t2A; exact seA; (first | omega | (simp only [List.length_set, List.length_replicate]; omega))) | (apply LO.storeWI; exact rfl; exact rfl; exact seA; exact t6A; (first | omega | (simp only [List.length_set, List.length_replicate]; omega)); (first | (simp only [List.length_map, List.length_set, List.length_replicate, ints]; omega) | rfl)) | (apply LO.store1; exact rfl; exact rfl; exact t2A; (first | exact One.lit rfl rfl | (apply One.sl; exact knA)); exact seA; (first | (simp only [List.length_cons, List.length_nil]; omega) | (simp; omega)); (first | (simp only [List.set_cons_succ, List.set_cons_zero]; exact rfl) | exact rfl)) | (apply LO.storeO1; exact rfl; exact rfl; exact t2A; (first | exact One.lit rfl rfl | (apply One.sl; exact knA)); exact seA; (first | (simp only [List.length_cons, List.length_nil]; omega) | (simp; omega)); (first | (simp only [List.set_cons_succ, List.set_cons_zero]; exact rfl) | exact rfl)) | (apply LO.storeL; exact rfl; exact rfl; exact seA; exact t6A; exact rfl; exact rfl; (repeat (first | exact OneL.nil | (apply OneL.cons; (first | exact One.lit rfl rfl | (apply One.sl; exact knA))))))); constructor; exact ltA))
  exact Bx.h h) : G := s ⟨h⟩
theorem goG {G G' : Prop} (h : G') (s : Bx G' → G := by
  intro h
  (first
    | (apply WL.kl_alloc; rotate_left; exact rfl; exact rfl; apply LO.alloc'; (first | exact t0A))
    | (apply WL.kl_box; rotate_left; exact rfl; exact rfl; (first | (apply LO.boxA; exact rfl) | (apply LO.box1; exact rfl; (first | exact One.lit rfl rfl | (apply One.sl; exact knA))))))
  exact Bx.h h) : G := s ⟨h⟩
theorem goV {G G' : Prop} (h : G') (s : Bx G' → G := by
  intro h
  (first
    | (apply WL.kl_ms; rotate_left; exact rfl; exact rfl; (apply LO.makeI; exact rfl; exact rfl; (repeat (first | (with_reducible apply NatI.add) | (with_reducible exact NatI.one) | exact NatI.cast _)); omega))
    | (apply WL.kl_ms; rotate_left; exact rfl; exact rfl; (apply LO.makeR; exact rfl; exact rfl; (repeat (first | (with_reducible apply NatI.add) | (with_reducible exact NatI.one) | exact NatI.cast _)); omega))
    | (apply WL.kl_ms; rotate_left; exact rfl; exact rfl; (apply LO.makeLn; exact rfl; exact rfl; (repeat (first | (with_reducible apply NatI.add) | (with_reducible exact NatI.one) | exact NatI.cast _)); omega))
    | (apply WL.kl_ms; rotate_left; exact rfl; exact rfl; (apply LO.makeTT; exact rfl; exact rfl; (repeat (first | (with_reducible apply NatI.add) | (with_reducible exact NatI.one) | exact NatI.cast _)); omega))
    | (apply WL.kl_bs; rotate_left; exact rfl; exact rfl; (apply LO.bsI3; exact rfl; exact rfl; exact rfl))
    | (apply WL.kl_bs; rotate_left; exact rfl; exact rfl; (apply LO.bsI2; exact rfl; exact rfl))
    | (apply WL.kl_bs; rotate_left; exact rfl; exact rfl; (apply LO.bsR0))
    | (apply WL.kl_bs; rotate_left; exact rfl; exact rfl; (apply LO.bsB0))
    | (apply WL.kl_bs; rotate_left; exact rfl; exact rfl; (apply LO.bsR1; exact rfl))
    | (apply WL.kl_bs; rotate_left; exact rfl; exact rfl; (apply LO.bsB1; exact rfl))
    | (apply WL.kl_bs; rotate_left; exact rfl; exact rfl; (apply LO.bsT1; exact rfl; exact knA))
    | (apply WL.kl_bs; rotate_left; exact rfl; exact rfl; (apply LO.bsB3; exact rfl; exact rfl; exact rfl))
    | (apply WL.kl_bs; rotate_left; exact rfl; exact rfl; (apply LO.bsR3; exact rfl; exact rfl; exact rfl))
    | (apply WL.kl_app; rotate_left; exact rfl; exact rfl; (apply LO.appTT; exact rfl; exact rfl; exact meA; (apply One.sl; exact knA); (intro _; exact seA); omega))
    | (apply WL.kl_app; rotate_left; exact rfl; exact rfl; (apply LO.appRo; exact rfl; exact rfl; exact meA; exact hmA; omega; (intro _; exact seA); omega))
    | (apply WL.kl_app; rotate_left; exact rfl; exact rfl; (apply LO.appBf; exact rfl; exact rfl; exact hmA; (intro _; exact seA); omega))
    | (apply WL.kl_app; rotate_left; exact rfl; exact rfl; (apply LO.appR1; exact rfl; exact rfl; exact meA; exact hmA; (intro _; exact seA); omega))
    | (apply WL.kl_app; rotate_left; exact rfl; exact rfl; (apply LO.appB1; exact rfl; exact rfl; exact meA; exact hmA; (intro _; exact seA); omega))
    | (apply WL.kl_app; rotate_left; exact rfl; exact rfl; (apply LO.appT1; exact rfl; exact rfl; exact meA; (first | exact One.lit rfl rfl | (apply One.sl; exact knA)); (intro _; exact seA); (simp only [List.length_append, List.length_cons, List.length_nil, List.length_map, List.length_range]; omega)))
    | (apply WL.kl_bs; rotate_left; exact rfl; exact rfl; apply LO.bs1; exact t5A; (repeat (first | exact EvP.nil | (apply EvP.cons; exact rfl))); (intro _; kernel_rfl); exact rfl; omega)
    | (apply WL.kl_app; rotate_left; exact rfl; exact rfl; apply LO.app; exact t4A; exact rfl; exact rfl; (first | (focus (apply SrcE.ints; exact hmA; done)) | (focus (apply SrcE.own1; exact meA; done)) | (focus (apply SrcE.one; exact meA; exact rfl; decide; done))); (intro v; exact seA); exact onA; exact leA; exact leA))
  exact Bx.h h) : G := s ⟨h⟩
theorem goDG {G G' : Prop} (h : G') (s : Bx G' → G := by
  intro h
  (first
    | (apply WD.kl_alloc; exact rfl; rotate_left; exact rfl; exact rfl; apply LO.alloc'; (first | exact t0A); apply allAnd; (intro _; exact ltA))
    | (apply WD.kl_box; exact rfl; rotate_left; exact rfl; exact rfl; (first | (apply LO.boxA; exact rfl) | (apply LO.box1; exact rfl; (first | exact One.lit rfl rfl | (apply One.sl; exact knA)))); apply allAnd; (intro _; exact ltA)))
  exact Bx.h h) : G := s ⟨h⟩
theorem goDV {G G' : Prop} (h : G') (s : Bx G' → G := by
  intro h
  (first
    | (apply WD.kl_ms; exact rfl; rotate_left; exact rfl; exact rfl; (apply LO.makeI; exact rfl; exact rfl; (repeat (first | (with_reducible apply NatI.add) | (with_reducible exact NatI.one) | exact NatI.cast _)); omega); apply allAnd; (intro _; exact ltA))
    | (apply WD.kl_ms; exact rfl; rotate_left; exact rfl; exact rfl; (apply LO.makeR; exact rfl; exact rfl; (repeat (first | (with_reducible apply NatI.add) | (with_reducible exact NatI.one) | exact NatI.cast _)); omega); apply allAnd; (intro _; exact ltA))
    | (apply WD.kl_ms; exact rfl; rotate_left; exact rfl; exact rfl; (apply LO.makeLn; exact rfl; exact rfl; (repeat (first | (with_reducible apply NatI.add) | (with_reducible exact NatI.one) | exact NatI.cast _)); omega); apply allAnd; (intro _; exact ltA))
    | (apply WD.kl_ms; exact rfl; rotate_left; exact rfl; exact rfl; (apply LO.makeTT; exact rfl; exact rfl; (repeat (first | (with_reducible apply NatI.add) | (with_reducible exact NatI.one) | exact NatI.cast _)); omega); apply allAnd; (intro _; exact ltA))
    | (apply WD.kl_bs; exact rfl; rotate_left; exact rfl; exact rfl; (apply LO.bsI3; exact rfl; exact rfl; exact rfl); apply allAnd; (intro _; exact ltA))
    | (apply WD.kl_bs; exact rfl; rotate_left; exact rfl; exact rfl; (apply LO.bsI2; exact rfl; exact rfl); apply allAnd; (intro _; exact ltA))
    | (apply WD.kl_bs; exact rfl; rotate_left; exact rfl; exact rfl; (apply LO.bsR0); apply allAnd; (intro _; exact ltA))
    | (apply WD.kl_bs; exact rfl; rotate_left; exact rfl; exact rfl; (apply LO.bsB0); apply allAnd; (intro _; exact ltA))
    | (apply WD.kl_bs; exact rfl; rotate_left; exact rfl; exact rfl; (apply LO.bsR1; exact rfl); apply allAnd; (intro _; exact ltA))
    | (apply WD.kl_bs; exact rfl; rotate_left; exact rfl; exact rfl; (apply LO.bsB1; exact rfl); apply allAnd; (intro _; exact ltA))
    | (apply WD.kl_bs; exact rfl; rotate_left; exact rfl; exact rfl; (apply LO.bsT1; exact rfl; exact knA); apply allAnd; (intro _; exact ltA))
    | (apply WD.kl_bs; exact rfl; rotate_left; exact rfl; exact rfl; (apply LO.bsB3; exact rfl; exact rfl; exact rfl); apply allAnd; (intro _; exact ltA))
    | (apply WD.kl_bs; exact rfl; rotate_left; exact rfl; exact rfl; (apply LO.bsR3; exact rfl; exact rfl; exact rfl); apply allAnd; (intro _; exact ltA))
    | (apply WD.kl_app; exact rfl; rotate_left; exact rfl; exact rfl; (apply LO.appTT; exact rfl; exact rfl; exact meA; (apply One.sl; exact knA); (intro _; exact seA); omega); apply allAnd; (intro _; exact ltA))
    | (apply WD.kl_app; exact rfl; rotate_left; exact rfl; exact rfl; (apply LO.appRo; exact rfl; exact rfl; exact meA; exact hmA; omega; (intro _; exact seA); omega); apply allAnd; (intro _; exact ltA))
    | (apply WD.kl_app; exact rfl; rotate_left; exact rfl; exact rfl; (apply LO.appBf; exact rfl; exact rfl; exact hmA; (intro _; exact seA); omega); apply allAnd; (intro _; exact ltA))
    | (apply WD.kl_app; exact rfl; rotate_left; exact rfl; exact rfl; (apply LO.appR1; exact rfl; exact rfl; exact meA; exact hmA; (intro _; exact seA); omega); apply allAnd; (intro _; exact ltA))
    | (apply WD.kl_app; exact rfl; rotate_left; exact rfl; exact rfl; (apply LO.appB1; exact rfl; exact rfl; exact meA; exact hmA; (intro _; exact seA); omega); apply allAnd; (intro _; exact ltA))
    | (apply WD.kl_app; exact rfl; rotate_left; exact rfl; exact rfl; (apply LO.appT1; exact rfl; exact rfl; exact meA; (first | exact One.lit rfl rfl | (apply One.sl; exact knA)); (intro _; exact seA); (simp only [List.length_append, List.length_cons, List.length_nil, List.length_map, List.length_range]; omega)); apply allAnd; (intro _; exact ltA))
    | (apply WD.kl_bs; exact rfl; rotate_left; exact rfl; exact rfl; apply LO.bs1; exact t5A; (repeat (first | exact EvP.nil | (apply EvP.cons; exact rfl))); (intro _; kernel_rfl); exact rfl; omega; apply allAnd; (intro _; exact ltA))
    | (apply WD.kl_app; exact rfl; rotate_left; exact rfl; exact rfl; apply LO.app; exact t4A; exact rfl; exact rfl; (first | (focus (apply SrcE.ints; exact hmA; done)) | (focus (apply SrcE.own1; exact meA; done)) | (focus (apply SrcE.one; exact meA; exact rfl; decide; done))); (intro v; exact seA); exact onA; exact leA; exact leA; apply allAnd; (intro _; exact ltA)))
  exact Bx.h h) : G := s ⟨h⟩
theorem goLG {G G' : Prop} (h : G') (s : Bx G' → G := by
  intro h
  (first
    | (apply LO.alloc'; (first | exact t0A); apply allAnd; (intro _; exact ltA))
    | ((first | (apply LO.boxA; exact rfl) | (apply LO.box1; exact rfl; (first | exact One.lit rfl rfl | (apply One.sl; exact knA)))); apply allAnd; (intro _; exact ltA)))
  exact Bx.h h) : G := s ⟨h⟩
theorem goLV {G G' : Prop} (h : G') (s : Bx G' → G := by
  intro h
  (first
    | (apply LO.bs1; exact t5A; (repeat (first | exact EvP.nil | (apply EvP.cons; exact rfl))); (intro _; kernel_rfl); exact rfl; omega; apply allAnd; (intro _; exact ltA))
    | (apply LO.app; exact t4A; exact rfl; exact rfl; (first | (focus (apply SrcE.ints; exact hmA; done)) | (focus (apply SrcE.own1; exact meA; done)) | (focus (apply SrcE.one; exact meA; exact rfl; decide; done))); (intro v; exact seA); exact onA; exact leA; exact leA; apply allAnd; (intro _; exact ltA))
    | ((apply LO.makeI; exact rfl; exact rfl; (repeat (first | (with_reducible apply NatI.add) | (with_reducible exact NatI.one) | exact NatI.cast _)); omega); apply allAnd; (intro _; exact ltA))
    | ((apply LO.makeR; exact rfl; exact rfl; (repeat (first | (with_reducible apply NatI.add) | (with_reducible exact NatI.one) | exact NatI.cast _)); omega); apply allAnd; (intro _; exact ltA))
    | ((apply LO.makeLn; exact rfl; exact rfl; (repeat (first | (with_reducible apply NatI.add) | (with_reducible exact NatI.one) | exact NatI.cast _)); omega); apply allAnd; (intro _; exact ltA))
    | ((apply LO.makeTT; exact rfl; exact rfl; (repeat (first | (with_reducible apply NatI.add) | (with_reducible exact NatI.one) | exact NatI.cast _)); omega); apply allAnd; (intro _; exact ltA))
    | ((apply LO.bsI3; exact rfl; exact rfl; exact rfl); apply allAnd; (intro _; exact ltA))
    | ((apply LO.bsI2; exact rfl; exact rfl); apply allAnd; (intro _; exact ltA))
    | ((apply LO.bsR0); apply allAnd; (intro _; exact ltA))
    | ((apply LO.bsB0); apply allAnd; (intro _; exact ltA))
    | ((apply LO.bsR1; exact rfl); apply allAnd; (intro _; exact ltA))
    | ((apply LO.bsB1; exact rfl); apply allAnd; (intro _; exact ltA))
    | ((apply LO.bsT1; exact rfl; exact knA); apply allAnd; (intro _; exact ltA))
    | ((apply LO.bsB3; exact rfl; exact rfl; exact rfl); apply allAnd; (intro _; exact ltA))
    | ((apply LO.bsR3; exact rfl; exact rfl; exact rfl); apply allAnd; (intro _; exact ltA))
    | ((apply LO.appTT; exact rfl; exact rfl; exact meA; (apply One.sl; exact knA); (intro _; exact seA); omega); apply allAnd; (intro _; exact ltA))
    | ((apply LO.appRo; exact rfl; exact rfl; exact meA; exact hmA; omega; (intro _; exact seA); omega); apply allAnd; (intro _; exact ltA))
    | ((apply LO.appBf; exact rfl; exact rfl; exact hmA; (intro _; exact seA); omega); apply allAnd; (intro _; exact ltA))
    | ((apply LO.appR1; exact rfl; exact rfl; exact meA; exact hmA; (intro _; exact seA); omega); apply allAnd; (intro _; exact ltA))
    | ((apply LO.appB1; exact rfl; exact rfl; exact meA; exact hmA; (intro _; exact seA); omega); apply allAnd; (intro _; exact ltA))
    | ((apply LO.appT1; exact rfl; exact rfl; exact meA; (first | exact One.lit rfl rfl | (apply One.sl; exact knA)); (intro _; exact seA); (simp only [List.length_append, List.length_cons, List.length_nil, List.length_map, List.length_range]; omega)); apply allAnd; (intro _; exact ltA)))
  exact Bx.h h) : G := s ⟨h⟩
theorem goLS {G G' : Prop} (h : G') (s : Bx G' → G := by
  intro h
  (first
    | ((first | (apply LO.storeOI; exact rfl; exact rfl; exact t2A; exact seA; (first | omega | (simp only [List.length_set]; omega))) | (apply LO.storeQ; exact rfl; exact rfl; exact t6A; exact hmA; exact seA; omega) | (apply LO.storeL1; exact rfl; exact rfl; exact t6A; exact hmA; exact seA; omega) | (apply LO.storeOT; exact rfl; exact rfl; exact t2A; (first | exact One.lit rfl rfl | (apply One.sl; exact knA)); exact seA; omega) | (apply LO.storeB2; exact rfl; exact rfl; exact t6A; exact hmA; exact seA) | (apply LO.storeBf; exact rfl; exact rfl; exact t2A; exact seA; omega) | (apply LO.storeBt; exact rfl; exact rfl; exact t2A; exact seA; omega) | (apply LO.storeBq; exact rfl; exact rfl; exact t6A; exact hmA; exact seA; omega) | (apply LO.storeI; exact rfl; exact rfl; exact t2A; exact seA; (first | omega | (simp only [List.length_set, List.length_replicate]; omega))) | (apply LO.storeWI; exact rfl; exact rfl; exact seA; exact t6A; (first | omega | (simp only [List.length_set, List.length_replicate]; omega)); (first | (simp only [List.length_map, List.length_set, List.length_replicate, ints]; omega) | rfl)) | (apply LO.store1; exact rfl; exact rfl; exact t2A; (first | exact One.lit rfl rfl | (apply One.sl; exact knA)); exact seA; (first | (simp only [List.length_cons, List.length_nil]; omega) | (simp; omega)); (first | (simp only [List.set_cons_succ, List.set_cons_zero]; exact rfl) | exact rfl)) | (apply LO.storeO1; exact rfl; exact rfl; exact t2A; (first | exact One.lit rfl rfl | (apply One.sl; exact knA)); exact seA; (first | (simp only [List.length_cons, List.length_nil]; omega) | (simp; omega)); (first | (simp only [List.set_cons_succ, List.set_cons_zero]; exact rfl) | exact rfl)) | (apply LO.storeL; exact rfl; exact rfl; exact seA; exact t6A; exact rfl; exact rfl; (repeat (first | exact OneL.nil | (apply OneL.cons; (first | exact One.lit rfl rfl | (apply One.sl; exact knA))))))); constructor; exact ltA))
  exact Bx.h h) : G := s ⟨h⟩
theorem goYL {G G' : Prop} (h : G') (s : Bx G' → G := by
  intro h
  (apply WD.fy; exact rfl; (first | (apply YO.move; exact rfl) | (apply YO.assign; exact rfl) | exact y_lss | exact y_add | exact y_len | exact y_indexAddr | exact y_load | exact y_pick | exact y_fieldAddr | exact y_eql | exact y_neq | (apply YO.nil; exact rfl) | (apply YO.extract; exact rfl; exact rfl) | exact y_gtr | exact y_geq | exact y_leq | (apply YO.sub; exact rfl; exact rfl; omega; omega) | exact y_mul | exact y_rem | exact y_quo | exact y_unot | exact y_uneg | (apply YO.max; exact rfl; exact rfl) | (apply YO.min; exact rfl; exact rfl) | exact y_makeFunc | exact y_conv | exact y_shl | (apply YO.shr'; exact rfl; exact rfl; omega; omega) | exact y_and | exact y_or | (apply YO.anot; exact rfl; exact rfl) | exact y_slice); exact rfl; exact rfl)
  exact Bx.h h) : G := s ⟨h⟩
theorem goYT {G G' : Prop} (h : G') (s : Bx G' → G := by
  intro h
  (apply WD.yl; exact rfl; (first | (apply YO.move; exact rfl) | (apply YO.assign; exact rfl) | exact y_lss | exact y_add | exact y_len | exact y_indexAddr | exact y_load | exact y_pick | exact y_fieldAddr | exact y_eql | exact y_neq | (apply YO.nil; exact rfl) | (apply YO.extract; exact rfl; exact rfl) | exact y_gtr | exact y_geq | exact y_leq | (apply YO.sub; exact rfl; exact rfl; omega; omega) | exact y_mul | exact y_rem | exact y_quo | exact y_unot | exact y_uneg | (apply YO.max; exact rfl; exact rfl) | (apply YO.min; exact rfl; exact rfl) | exact y_makeFunc | exact y_conv | exact y_shl | (apply YO.shr'; exact rfl; exact rfl; omega; omega) | exact y_and | exact y_or | (apply YO.anot; exact rfl; exact rfl) | exact y_slice); exact rfl; exact rfl)
  exact Bx.h h) : G := s ⟨h⟩
end J
end Go.Proofs.YthggloiigkbfeaaGreat
namespace Go.Proofs.YthggloiigkbfeaaGreat
open W Go.RowKit
/-- the example's system, in sixths -/
def exB (k : Int) : List Bd := [⟨0, 1, 12⟩, ⟨1, 2, -30⟩, ⟨2, 0, k * 6⟩]
/-- answers bounds -/
def IsBs (D : Nat) (bs : List Bd) : RPost := fun v b G => ∃ ms, b = [] ∧ G = [fB D v ms bs]
namespace J
open G H I
attribute [local irreducible] WC WL WD YO LO LoopEnd W.Fin Scalar SliceT FieldAt Row ArrT AllocT KnS Has W.One SrcE IntT
theorem d27 {G G' : Prop} (h : G') (s : Bx G' → G := by
  intro h
  first | (apply WC.draw (id := 6) [0, 1, 2, 3, 4, 5, 6, 7, 9] (.held 0 (.held 1 (.held 2 (.held 3 (.held 4 (.held 5 (.held 6 (.held 7 (.loud 8 (.held 9 (.done))))))))))) mixed (by kernel_rfl)) | fail
  exact Bx.h h) : G := s ⟨h⟩
set_option maxHeartbeats 4000000 in
set_option maxRecDepth 60000 in
theorem same_c (D : Nat) [Den D] (u w : Value) (mu mw : Nat → QM) (a b : List Int) : FnB Tryz.prog 27 [u, w] [] [fR D u mu a, fR D w mw b] (IsV (.bool (decide (a = b)))) := by
  refine fn_of [(0, u), (1, w)] 27 Tryz.func27 rfl Tryz.ntmps27 (by kernel_rfl) rfl suA fun h0 => ?_
  refine WC.lenF (v := u) (m := a.length) (sz := 4) (f := qcell mu) (W.Has.rs (D := D) hmA) fun hlen => ?_
  by_cases hl : a.length = b.length
  · repeat' (first | refine go ?_ | refine goX ?_ | refine goB ?_ | (refine goG ?_; intro g) | (refine goV ?_; intro v) | refine goD ?_ | refine goXD ?_ | (refine goDG ?_; intro g) | (refine goDV ?_; intro v) | refine d27 ?_ | fail)
    refine WC.lp (σ := Nat) (fun k => [(5, .int .i64 (k : Int)), (0, u), (1, w)]) (fun _ => []) (fun _ => [ge h0, fR D u mu a, fR D w mw b]) (fun k => k ≤ a.length ∧ ∀ j, j < k → a.getD j 0 = b.getD j 0) (fun k => a.length - k) 0 ⟨Nat.zero_le _, fun j h => by omega⟩ ?_
    rintro k ⟨hk, hn⟩
    by_cases hlt : k < a.length
    · refine WC.fact (isQ (qv (mu k)) (wq D (a.getD k 0))) (W.Has.q (W.Has.rm (v := u) hmA) hlt) ?_
      refine WC.fact (isQ (qv (mw k)) (wq D (b.getD k 0))) (W.Has.q (W.Has.rm (v := w) hmA) (by omega)) ?_
      repeat' (first | refine go ?_ | refine goX ?_ | refine goB ?_ | (refine goG ?_; intro g) | (refine goV ?_; intro v) | refine goD ?_ | refine goXD ?_ | (refine goDG ?_; intro g) | (refine goDV ?_; intro v) | refine d27 ?_ | fail)
      first | refine WL.callV (rsamew_c D (mu k) (mw k) (a.getD k 0) (b.getD k 0)) ?_ | refine WD.callV (rsamew_c D (mu k) (mw k) (a.getD k 0) (b.getD k 0)) ?_
      by_cases he : a.getD k 0 = b.getD k 0
      · rw [decide_eq_true he]
        repeat' (first | refine go ?_ | refine goX ?_ | refine goB ?_ | (refine goG ?_; intro g) | (refine goV ?_; intro v) | refine goD ?_ | refine goXD ?_ | (refine goDG ?_; intro g) | (refine goDV ?_; intro v) | refine d27 ?_ | fail)
        refine LoopEnd.mk (k + 1) ⟨by omega, fun j hj => ?_⟩ (by show a.length - (k + 1) < a.length - k; omega)
        by_cases hjk : j = k
        · subst hjk; exact he
        · exact hn j (by omega)
      · rw [decide_eq_false he]
        repeat' (first | refine go ?_ | refine goX ?_ | refine goB ?_ | (refine goG ?_; intro g) | (refine goV ?_; intro v) | refine goD ?_ | refine goXD ?_ | (refine goDG ?_; intro g) | (refine goDV ?_; intro v) | refine d27 ?_ | fail)
        exact WC.ret (Fin.v (ResE.t1 rfl rfl) meA (by rw [decide_eq_false (fun h => he (by rw [h]))]))
    · repeat' (first | refine go ?_ | refine goX ?_ | refine goB ?_ | (refine goG ?_; intro g) | (refine goV ?_; intro v) | refine goD ?_ | refine goXD ?_ | (refine goDG ?_; intro g) | (refine goDV ?_; intro v) | refine d27 ?_ | fail)
      exact WC.ret (Fin.v (ResE.t1 rfl rfl) meA (by rw [decide_eq_true]; exact same_all hl (fun j hj => hn j (by omega))))
  · repeat' (first | refine go ?_ | refine goX ?_ | refine goB ?_ | (refine goG ?_; intro g) | (refine goV ?_; intro v) | refine goD ?_ | refine goXD ?_ | (refine goDG ?_; intro g) | (refine goDV ?_; intro v) | refine d27 ?_ | fail)
    exact WC.ret (Fin.v (ResE.t1 rfl rfl) meA (by rw [decide_eq_false (fun h => hl (by rw [h]))]))
set_option maxHeartbeats 4000000 in
set_option maxRecDepth 60000 in
theorem three_c (k : Int) (hk : k.natAbs ≤ 1000) : FnB Tryz.prog 79 [.int .i64 k] [] [] (IsBs 6 (exB k)) := by
  refine fn_of [(0, (.int .i64 k))] 11 Tryz.func79 rfl Tryz.ntmps79 (by kernel_rfl) rfl suA fun h0 => ?_
  repeat' (first | refine go ?_ | refine goX ?_ | refine goB ?_ | (refine goG ?_; intro g) | (refine goV ?_; intro v))
  first | refine WL.callK (rofw_c 6 2 1 6 (by decide) (by decide) (by decide) (by decide)) ?_ | refine WD.callK (rofw_c 6 2 1 6 (by decide) (by decide) (by decide) (by decide)) ?_ | refine LO.callM (rofw_c 6 2 1 6 (by decide) (by decide) (by decide) (by decide)) ?_
  rintro _ _ _ ⟨m2, rfl, rfl, rfl⟩
  simp only [List.nil_append, List.cons_append]
  repeat' (first | refine go ?_ | refine goX ?_ | refine goB ?_ | (refine goG ?_; intro g) | (refine goV ?_; intro v))
  first | refine WL.callK (rofw_c 6 (-5) 1 6 (by decide) (by decide) (by decide) (by decide)) ?_ | refine WD.callK (rofw_c 6 (-5) 1 6 (by decide) (by decide) (by decide) (by decide)) ?_ | refine LO.callM (rofw_c 6 (-5) 1 6 (by decide) (by decide) (by decide) (by decide)) ?_
  rintro _ _ _ ⟨m3, rfl, rfl, rfl⟩
  simp only [List.nil_append, List.cons_append]
  repeat' (first | refine go ?_ | refine goX ?_ | refine goB ?_ | (refine goG ?_; intro g) | (refine goV ?_; intro v))
  first | refine WL.callK (rofw_c 6 k 1 6 (by decide) (by decide) (by unfold B2; omega) (by decide)) ?_ | refine WD.callK (rofw_c 6 k 1 6 (by decide) (by decide) (by unfold B2; omega) (by decide)) ?_ | refine LO.callM (rofw_c 6 k 1 6 (by decide) (by decide) (by unfold B2; omega) (by decide)) ?_
  rintro _ _ _ ⟨m4, rfl, rfl, rfl⟩
  simp only [List.nil_append, List.cons_append]
  repeat' (first | refine go ?_ | refine goX ?_ | refine goB ?_ | (refine goG ?_; intro g) | (refine goV ?_; intro v))
  refine WL.l rfl rfl (LO.bsB3 (b1 := ⟨0, 1, 12⟩) (b2 := ⟨1, 2, -30⟩) (b3 := ⟨2, 0, k * 6⟩) (m1 := m2) (m2 := m3) (m3 := m4) rfl rfl rfl fun v => ?_)
  refine WL.freezeB (D := 6) (el := 59) v (up3 m2 m3 m4) (exB k) (by repeat (first | exact Sel.head | apply Sel.tail)) (W.Has.mB3 hmA hmA hmA) ?_
  repeat' (first | refine go ?_ | refine goX ?_ | refine goB ?_ | (refine goG ?_; intro g) | (refine goV ?_; intro v))
  exact WC.ret (Fin.p [] [fB 6 v (up3 m2 m3 m4) (exB k)] (ResE.t1 rfl rfl) meA (List.nil_sublist _) haA ⟨_, rfl, rfl⟩)
end J
end Go.Proofs.YthggloiigkbfeaaGreat
namespace Go.Proofs.YthggloiigkbfeaaGreat
open W Go.RowKit
theorem srt414 : srt [4, 1, 4] = [1, 4, 4] := by
  unfold srt
  simp [List.mergeSort, List.MergeSort.Internal.splitInTwo, List.merge]
theorem coreL414 : coreL [4, 1, 4] = [1, 4] := by
  unfold coreL; rw [srt414]; decide
theorem ex_slv4 : slv 3 (exB 4) = ([-6, 0, -30], [], 0) := by decide +kernel
theorem ex_slv2 : slv 3 (exB 2) = ([], [0, 1, 2], 14) := by decide +kernel
theorem ex_mst : mst 3 (exB 4) 0 2 = (-18, [0, 1], 0) := by decide +kernel
theorem ex_chk : chk 3 (exB 4) [-6, 0, -30] [] = 0 := by decide +kernel
theorem ex_cor : cor 3 (exB 2) [4, 1, 4] = ([1, 4], 0) := by
  unfold cor
  rw [coreL414]
  decide +kernel
end Go.Proofs.YthggloiigkbfeaaGreat
namespace Go.Proofs.YthggloiigkbfeaaGreat
open W Go.RowKit
theorem ex_fit (k : Int) (hk : k.natAbs ≤ 100) : Fit (exB k) := by
  unfold Fit absS exB; simp; omega
theorem ex_small (i : Nat) : (([-6, 0, -30] : List Int).getD i 0).natAbs ≤ 250000000 := by
  match i with
  | 0 => decide
  | 1 => decide
  | 2 => decide
  | i + 3 => simp
namespace J
open G H I
attribute [local irreducible] WC WL WD YO LO LoopEnd W.Fin Scalar SliceT FieldAt Row ArrT AllocT KnS Has W.One SrcE IntT
theorem d32 {G G' : Prop} (h : G') (s : Bx G' → G := by
  intro h
  first | (apply WC.draw (id := 6) [0, 1, 2, 3, 4, 6, 7, 8, 9, 10, 11, 12, 13, 14, 15, 16, 17, 20, 21, 22, 25, 26, 27, 28, 29, 30, 31, 32, 33, 34, 35, 36, 39, 40, 41, 42, 43, 44, 45, 48, 49, 51, 53, 54, 55] (.held 0 (.held 1 (.held 2 (.held 3 (.held 4 (.loud 5 (.held 6 (.held 7 (.held 8 (.held 9 (.held 10 (.held 11 (.held 12 (.held 13 (.held 14 (.held 15 (.held 16 (.held 17 (.loud 18 (.loud 19 (.held 20 (.held 21 (.held 22 (.loud 23 (.loud 24 (.held 25 (.held 26 (.held 27 (.held 28 (.held 29 (.held 30 (.held 31 (.held 32 (.held 33 (.held 34 (.held 35 (.held 36 (.loud 37 (.loud 38 (.held 39 (.held 40 (.held 41 (.held 42 (.held 43 (.held 44 (.held 45 (.loud 46 (.loud 47 (.held 48 (.held 49 (.held 51 (.loud 50 (.loud 52 (.held 53 (.held 54 (.held 55 (.done))))))))))))))))))))))))))))))))))))))))))))))))))))))))) mixed (by kernel_rfl)) | fail
  exact Bx.h h) : G := s ⟨h⟩
set_option maxHeartbeats 16000000 in
set_option maxRecDepth 60000 in
theorem lives_c : FnB Tryz.prog 32 [] [] [] (IsV (.bool true)) := by
  refine fn_of [] 96 Tryz.func32 rfl Tryz.ntmps32 (by kernel_rfl) rfl suA fun h0 => ?_
  have f4 := ex_fit 4 (by decide)
  have hz : ([] : List Int).length = 0 := rfl
  have f2 := ex_fit 2 (by decide)
  repeat' (first | refine go ?_ | refine goX ?_ | refine goB ?_ | (refine goG ?_; intro g) | (refine goV ?_; intro v) | refine goD ?_ | refine goXD ?_ | (refine goDG ?_; intro g) | (refine goDV ?_; intro v) | refine d32 ?_ | fail)
  first | refine WL.callK (three_c 4 (by decide)) ?_ | refine WD.callK (three_c 4 (by decide)) ?_ | refine LO.callM (three_c 4 (by decide)) ?_
  rintro t1 bb GG ⟨ms1, rfl, rfl⟩
  simp only [List.nil_append, List.cons_append]
  first | refine WL.callK (solve_c 6 t1 ms1 (exB 4) 3 f4) ?_ | refine WD.callK (solve_c 6 t1 ms1 (exB 4) 3 f4) ?_ | refine LO.callM (solve_c 6 t1 ms1 (exB 4) 3 f4) ?_
  rintro rv bb GG ⟨ux, mx, uc, rfl, rfl, rfl⟩
  rw [ex_slv4]
  simp only [List.nil_append, List.cons_append]
  repeat' (first | refine go ?_ | refine goX ?_ | refine goB ?_ | (refine goG ?_; intro g) | (refine goV ?_; intro v) | refine goD ?_ | refine goXD ?_ | (refine goDG ?_; intro g) | (refine goDV ?_; intro v) | refine d32 ?_ | fail)
  first | refine WL.callK (three_c 4 (by decide)) ?_ | refine WD.callK (three_c 4 (by decide)) ?_ | refine LO.callM (three_c 4 (by decide)) ?_
  rintro t2 bb GG ⟨ms2, rfl, rfl⟩
  simp only [List.nil_append, List.cons_append]
  repeat' (first | refine go ?_ | refine goX ?_ | refine goB ?_ | (refine goG ?_; intro g) | (refine goV ?_; intro v) | refine goD ?_ | refine goXD ?_ | (refine goDG ?_; intro g) | (refine goDV ?_; intro v) | refine d32 ?_ | fail)
  first | refine WL.callK (most_c 6 t2 ms2 (exB 4) 3 0 2 f4) ?_ | refine WD.callK (most_c 6 t2 ms2 (exB 4) 3 0 2 f4) ?_ | refine LO.callM (most_c 6 t2 ms2 (exB 4) 3 0 2 f4) ?_
  rintro rv bb GG ⟨m, up, rfl, rfl, rfl⟩
  rw [ex_mst]
  simp only [List.nil_append, List.cons_append]
  repeat' (first | refine go ?_ | refine goX ?_ | refine goB ?_ | (refine goG ?_; intro g) | (refine goV ?_; intro v) | refine goD ?_ | refine goXD ?_ | (refine goDG ?_; intro g) | (refine goDV ?_; intro v) | refine d32 ?_ | fail)
  revert g; intro g4
  first | refine WL.callK (three_c 2 (by decide)) ?_ | refine WD.callK (three_c 2 (by decide)) ?_ | refine LO.callM (three_c 2 (by decide)) ?_
  rintro t3 bb GG ⟨ms3, rfl, rfl⟩
  simp only [List.nil_append, List.cons_append]
  first | refine WL.callK (solve_c 6 t3 ms3 (exB 2) 3 f2) ?_ | refine WD.callK (solve_c 6 t3 ms3 (exB 2) 3 f2) ?_ | refine LO.callM (solve_c 6 t3 ms3 (exB 2) 3 f2) ?_
  rintro rv bb GG ⟨uy, my, ud, rfl, rfl, rfl⟩
  rw [ex_slv2]
  simp only [List.nil_append, List.cons_append]
  repeat' (first | refine go ?_ | refine goX ?_ | refine goB ?_ | (refine goG ?_; intro g) | (refine goV ?_; intro v) | refine goD ?_ | refine goXD ?_ | (refine goDG ?_; intro g) | (refine goDV ?_; intro v) | refine d32 ?_ | fail)
  first | refine WL.callK (three_c 2 (by decide)) ?_ | refine WD.callK (three_c 2 (by decide)) ?_ | refine LO.callM (three_c 2 (by decide)) ?_
  rintro t4 bb GG ⟨ms4, rfl, rfl⟩
  simp only [List.nil_append, List.cons_append]
  repeat' (first | refine go ?_ | refine goX ?_ | refine goB ?_ | (refine goG ?_; intro g) | (refine goV ?_; intro v) | refine goD ?_ | refine goXD ?_ | (refine goDG ?_; intro g) | (refine goDV ?_; intro v) | refine d32 ?_ | fail)
  revert v; intro vg
  refine WL.freezeI (l := [4, 1, 4]) (v := vg) (el := 3) (by repeat (first | exact Sel.head | apply Sel.tail)) ?_
  first | refine WL.callK (core_c 6 t4 vg ms4 (exB 2) [4, 1, 4] 3 f2) ?_ | refine WD.callK (core_c 6 t4 vg ms4 (exB 2) [4, 1, 4] 3 f2) ?_ | refine LO.callM (core_c 6 t4 vg ms4 (exB 2) [4, 1, 4] 3 f2) ?_
  rintro rv bb GG ⟨uk, rfl, rfl, rfl⟩
  rw [ex_cor]
  simp only [List.nil_append, List.cons_append]
  repeat' (first | refine go ?_ | refine goX ?_ | refine goB ?_ | (refine goG ?_; intro g) | (refine goV ?_; intro v) | refine goD ?_ | refine goXD ?_ | (refine goDG ?_; intro g) | (refine goDV ?_; intro v) | refine d32 ?_ | fail)
  first | refine WL.callK (rofw_c 6 (-1) 1 6 (by decide) (by decide) (by decide) (by decide)) ?_ | refine WD.callK (rofw_c 6 (-1) 1 6 (by decide) (by decide) (by decide) (by decide)) ?_ | refine LO.callM (rofw_c 6 (-1) 1 6 (by decide) (by decide) (by decide) (by decide)) ?_
  rintro _ _ _ ⟨m5, rfl, rfl, rfl⟩
  simp only [List.nil_append, List.cons_append]
  repeat' (first | refine go ?_ | refine goX ?_ | refine goB ?_ | (refine goG ?_; intro g) | (refine goV ?_; intro v) | refine goD ?_ | refine goXD ?_ | (refine goDG ?_; intro g) | (refine goDV ?_; intro v) | refine d32 ?_ | fail)
  first | refine WL.callK (rofw_c 6 (-5) 1 6 (by decide) (by decide) (by decide) (by decide)) ?_ | refine WD.callK (rofw_c 6 (-5) 1 6 (by decide) (by decide) (by decide) (by decide)) ?_ | refine LO.callM (rofw_c 6 (-5) 1 6 (by decide) (by decide) (by decide) (by decide)) ?_
  rintro _ _ _ ⟨m6, rfl, rfl, rfl⟩
  simp only [List.nil_append, List.cons_append]
  repeat' (first | refine go ?_ | refine goX ?_ | refine goB ?_ | (refine goG ?_; intro g) | (refine goV ?_; intro v) | refine goD ?_ | refine goXD ?_ | (refine goDG ?_; intro g) | (refine goDV ?_; intro v) | refine d32 ?_ | fail)
  refine WL.l rfl rfl (LO.bsR3 (m1 := m5) (m2 := m00) (m3 := m6) rfl rfl rfl fun uw => ?_)
  refine WL.freezeR (D := 6) (el := 37) uw (up3 m5 m00 m6) [-6, 0, -30] (by repeat (first | exact Sel.head | apply Sel.tail)) (W.Has.mQ3 hmA hasQ0w hmA) ?_
  repeat' (first | refine go ?_ | refine goX ?_ | refine goB ?_ | (refine goG ?_; intro g) | (refine goV ?_; intro v) | refine goD ?_ | refine goXD ?_ | (refine goDG ?_; intro g) | (refine goDV ?_; intro v) | refine d32 ?_ | fail)
  first | refine WL.callV (same_c 6 ux uw mx (up3 m5 m00 m6) [-6, 0, -30] [-6, 0, -30]) ?_ | refine WD.callV (same_c 6 ux uw mx (up3 m5 m00 m6) [-6, 0, -30] [-6, 0, -30]) ?_
  rw [decide_eq_true rfl]
  repeat' (first | refine go ?_ | refine goX ?_ | refine goB ?_ | (refine goG ?_; intro g) | (refine goV ?_; intro v) | refine goD ?_ | refine goXD ?_ | (refine goDG ?_; intro g) | (refine goDV ?_; intro v) | refine d32 ?_ | fail)
  first | refine WL.callK (rofw_c 6 (-3) 1 6 (by decide) (by decide) (by decide) (by decide)) ?_ | refine WD.callK (rofw_c 6 (-3) 1 6 (by decide) (by decide) (by decide) (by decide)) ?_ | refine LO.callM (rofw_c 6 (-3) 1 6 (by decide) (by decide) (by decide) (by decide)) ?_
  rintro _ _ _ ⟨m7, rfl, rfl, rfl⟩
  simp only [List.nil_append, List.cons_append]
  repeat' (first | refine go ?_ | refine goX ?_ | refine goB ?_ | (refine goG ?_; intro g) | (refine goV ?_; intro v) | refine goD ?_ | refine goXD ?_ | (refine goDG ?_; intro g) | (refine goDV ?_; intro v) | refine d32 ?_ | fail)
  first | refine WL.callV (rsamew_c 6 m m7 (-18) (-3 * (6 : Nat))) ?_ | refine WD.callV (rsamew_c 6 m m7 (-18) (-3 * (6 : Nat))) ?_
  rw [show decide ((-18 : Int) = -3 * (6 : Nat)) = true from by decide]
  repeat' (first | refine go ?_ | refine goX ?_ | refine goB ?_ | (refine goG ?_; intro g) | (refine goV ?_; intro v) | refine goD ?_ | refine goXD ?_ | (refine goDG ?_; intro g) | (refine goDV ?_; intro v) | refine d32 ?_ | fail)
  first | refine WL.callV (sameInts_c up v [0, 1] [0, 1]) ?_ | refine WD.callV (sameInts_c up v [0, 1] [0, 1]) ?_
  rw [show decide (([0, 1] : List Int) = [0, 1]) = true from by decide]
  repeat' (first | refine go ?_ | refine goX ?_ | refine goB ?_ | (refine goG ?_; intro g) | (refine goV ?_; intro v) | refine goD ?_ | refine goXD ?_ | (refine goDG ?_; intro g) | (refine goDV ?_; intro v) | refine d32 ?_ | fail)
  first | refine WL.callV (sameInts_c ud v [0, 1, 2] [0, 1, 2]) ?_ | refine WD.callV (sameInts_c ud v [0, 1, 2] [0, 1, 2]) ?_
  rw [show decide (([0, 1, 2] : List Int) = [0, 1, 2]) = true from by decide]
  repeat' (first | refine go ?_ | refine goX ?_ | refine goB ?_ | (refine goG ?_; intro g) | (refine goV ?_; intro v) | refine goD ?_ | refine goXD ?_ | (refine goDG ?_; intro g) | (refine goDV ?_; intro v) | refine d32 ?_ | fail)
  first | refine WL.callV (sameInts_c uk v [1, 4] [1, 4]) ?_ | refine WD.callV (sameInts_c uk v [1, 4] [1, 4]) ?_
  rw [show decide (([1, 4] : List Int) = [1, 4]) = true from by decide]
  repeat' (first | refine go ?_ | refine goX ?_ | refine goB ?_ | (refine goG ?_; intro g) | (refine goV ?_; intro v) | refine goD ?_ | refine goXD ?_ | (refine goDG ?_; intro g) | (refine goDV ?_; intro v) | refine d32 ?_ | fail)
  first | refine WL.callK (three_c 4 (by decide)) ?_ | refine WD.callK (three_c 4 (by decide)) ?_ | refine LO.callM (three_c 4 (by decide)) ?_
  rintro t5 bb GG ⟨ms5, rfl, rfl⟩
  simp only [List.nil_append, List.cons_append]
  repeat' (first | refine go ?_ | refine goX ?_ | refine goB ?_ | (refine goG ?_; intro g) | (refine goV ?_; intro v) | refine goD ?_ | refine goXD ?_ | (refine goDG ?_; intro g) | (refine goDV ?_; intro v) | refine d32 ?_ | fail)
  refine WD.callV (check_c 6 t5 ux (.slice none 0 0) ms5 mx (exB 4) [-6, 0, -30] [] 3 f4 (by decide) (by decide) ex_small) (hF := .cons (HasB.f hmA) (.cons (HasB.f hmA) (.cons (HasB.f nil0) .nil))) ?_
  rw [ex_chk]
  repeat' (first | refine go ?_ | refine goX ?_ | refine goB ?_ | (refine goG ?_; intro g) | (refine goV ?_; intro v) | refine goD ?_ | refine goXD ?_ | (refine goDG ?_; intro g) | (refine goDV ?_; intro v) | refine d32 ?_ | fail)
  exact WC.ret (Fin.v (ResE.t1 rfl rfl) meA rfl)
end J
end Go.Proofs.YthggloiigkbfeaaGreat
namespace Go.Proofs.YthggloiigkbfeaaGreat
open W Go.RowKit
def bentK (bs : List Bd) (at_ : Int) : Nat := (around at_ (max (bs.length : Int) 1)).toNat
/-- a system with one thing changed -/
def bentP (n : Int) (bs : List Bd) (how at_ : Int) : Int × List Bd :=
  if around how 6 = 0 then (0, bs) else if around how 6 = 1 then (33, bs) else if around how 6 = 2 then (32, bs)
  else if around how 6 = 3 then (n, if 0 < bs.length then bs.set (bentK bs at_) { bg bs (bentK bs at_) with fr := n } else bs)
  else if around how 6 = 4 then (n, if 0 < bs.length then bs.set (bentK bs at_) { bg bs (bentK bs at_) with to := -1 } else bs)
  else (n, bs)
theorem set_w {bs : List Bd} {k i : Nat} (hi : i < bs.length) (b : Bd) (hb : b.w = (bg bs k).w) : (bg (bs.set k b) i).w = (bg bs i).w := by
  by_cases c : i = k
  · subst c
    rw [← hb]; simp [bg, List.getD_eq_getElem?_getD, hi]
  · simp [bg, List.getD_eq_getElem?_getD, List.getElem?_set, Ne.symm c]
theorem W.Has.mBsetf {D k : Nat} {F : List Fct} {ms : Nat → QM} {bs : List Bd} {z : Int} (h : Has F (mB D ms bs)) : Has F (mB D ms (bs.set k { bg bs k with fr := z })) := fun p hf i hi => by
  rw [List.length_set] at hi
  have e : (bg (bs.set k { bg bs k with fr := z }) i).w = (bg bs i).w := set_w hi { bg bs k with fr := z } rfl
  rw [e]; exact h p hf i hi
theorem W.Has.mBsett {D k : Nat} {F : List Fct} {ms : Nat → QM} {bs : List Bd} {z : Int} (h : Has F (mB D ms bs)) : Has F (mB D ms (bs.set k { bg bs k with to := z })) := fun p hf i hi => by
  rw [List.length_set] at hi
  have e : (bg (bs.set k { bg bs k with to := z }) i).w = (bg bs i).w := set_w hi { bg bs k with to := z } rfl
  rw [e]; exact h p hf i hi
namespace J
open G H I
attribute [local irreducible] WC WL WD YO LO LoopEnd W.Fin Scalar SliceT FieldAt Row ArrT AllocT KnS Has W.One SrcE IntT
set_option maxHeartbeats 4000000 in
set_option maxRecDepth 60000 in
theorem bent_c (D : Nat) [Den D] (vb : Value) (ms : Nat → QM) (bs : List Bd) (n how at_ : Int) (hl : bs.length ≤ 1000) (h1 : I64 how) (h2 : I64 at_) : FnB Tryz.prog 24 [.int .i64 n, vb, .int .i64 how, .int .i64 at_] [] [fB D vb ms bs] (IsSys D (bentP n bs how at_).1 (bentP n bs how at_).2) := by
  refine fn_of [(0, (.int .i64 n)), (1, vb), (2, (.int .i64 how)), (3, (.int .i64 at_))] 52 Tryz.func24 rfl Tryz.ntmps24 (by kernel_rfl) rfl suA fun h0 => ?_
  repeat' (first | refine go ?_ | refine goX ?_ | refine goB ?_ | (refine goG ?_; intro g) | (refine goV ?_; intro v))
  have hk0 := @around_lt at_ (max (bs.length : Int) 1) (by omega)
  first | refine WL.callV (around_c at_ (max (bs.length : Int) 1) h2 (by omega)) ?_ | refine WD.callV (around_c at_ (max (bs.length : Int) 1) h2 (by omega)) ?_
  have hbk : ((bentK bs at_ : Nat) : Int) = around at_ (max (bs.length : Int) 1) := Int.toNat_of_nonneg hk0.1
  unfold bentP
  generalize bentK bs at_ = k at *
  rw [← hbk] at hk0 ⊢
  repeat' (first | refine go ?_ | refine goX ?_ | refine goB ?_ | (refine goG ?_; intro g) | (refine goV ?_; intro v))
  first | refine WL.callV (around_c how 6 h1 (by decide)) ?_ | refine WD.callV (around_c how 6 h1 (by decide)) ?_
  have hq0 := @around_lt how 6 (by decide)
  generalize around how 6 = q at *
  by_cases c0 : q = 0
  · subst c0
    rw [if_pos rfl]
    repeat' (first | refine go ?_ | refine goX ?_ | refine goB ?_ | (refine goG ?_; intro g) | (refine goV ?_; intro v))
    refine WC.freezeB (D := D) (el := 59) v ms bs (by repeat (first | exact Sel.head | apply Sel.tail)) (W.Has.bm (v := vb) hmA) ?_
    exact WC.ret (Fin.p [] [fB D v ms bs] (ResE.t2 rfl rfl rfl) meA (List.nil_sublist _) haA ⟨v, ms, rfl, rfl, rfl⟩)
  rw [if_neg c0]
  by_cases c1 : q = 1
  · subst c1
    rw [if_pos rfl]
    repeat' (first | refine go ?_ | refine goX ?_ | refine goB ?_ | (refine goG ?_; intro g) | (refine goV ?_; intro v))
    refine WC.freezeB (D := D) (el := 59) v ms bs (by repeat (first | exact Sel.head | apply Sel.tail)) (W.Has.bm (v := vb) hmA) ?_
    exact WC.ret (Fin.p [] [fB D v ms bs] (ResE.t2 rfl rfl rfl) meA (List.nil_sublist _) haA ⟨v, ms, rfl, rfl, rfl⟩)
  rw [if_neg c1]
  by_cases c2 : q = 2
  · subst c2
    rw [if_pos rfl]
    repeat' (first | refine go ?_ | refine goX ?_ | refine goB ?_ | (refine goG ?_; intro g) | (refine goV ?_; intro v))
    refine WC.freezeB (D := D) (el := 59) v ms bs (by repeat (first | exact Sel.head | apply Sel.tail)) (W.Has.bm (v := vb) hmA) ?_
    exact WC.ret (Fin.p [] [fB D v ms bs] (ResE.t2 rfl rfl rfl) meA (List.nil_sublist _) haA ⟨v, ms, rfl, rfl, rfl⟩)
  rw [if_neg c2]
  by_cases c3 : q = 3
  · subst c3
    rw [if_pos rfl]
    by_cases hp : 0 < bs.length
    · rw [if_pos hp]
      repeat' (first | refine go ?_ | refine goX ?_ | refine goB ?_ | (refine goG ?_; intro g) | (refine goV ?_; intro v))
      refine WC.freezeB (D := D) (el := 59) v ms (bs.set k { bg bs k with fr := n }) (by repeat (first | exact Sel.head | apply Sel.tail)) (W.Has.mBsetf (W.Has.bm (v := vb) hmA)) ?_
      exact WC.ret (Fin.p [] [fB D v ms (bs.set k { bg bs k with fr := n })] (ResE.t2 rfl rfl rfl) meA (List.nil_sublist _) haA ⟨v, ms, rfl, rfl, rfl⟩)
    · rw [if_neg hp]
      repeat' (first | refine go ?_ | refine goX ?_ | refine goB ?_ | (refine goG ?_; intro g) | (refine goV ?_; intro v))
      refine WC.freezeB (D := D) (el := 59) v ms bs (by repeat (first | exact Sel.head | apply Sel.tail)) (W.Has.bm (v := vb) hmA) ?_
      exact WC.ret (Fin.p [] [fB D v ms bs] (ResE.t2 rfl rfl rfl) meA (List.nil_sublist _) haA ⟨v, ms, rfl, rfl, rfl⟩)
  rw [if_neg c3]
  by_cases c4 : q = 4
  · subst c4
    rw [if_pos rfl]
    by_cases hp : 0 < bs.length
    · rw [if_pos hp]
      repeat' (first | refine go ?_ | refine goX ?_ | refine goB ?_ | (refine goG ?_; intro g) | (refine goV ?_; intro v))
      refine WC.freezeB (D := D) (el := 59) v ms (bs.set k { bg bs k with to := -1 }) (by repeat (first | exact Sel.head | apply Sel.tail)) (W.Has.mBsett (W.Has.bm (v := vb) hmA)) ?_
      exact WC.ret (Fin.p [] [fB D v ms (bs.set k { bg bs k with to := -1 })] (ResE.t2 rfl rfl rfl) meA (List.nil_sublist _) haA ⟨v, ms, rfl, rfl, rfl⟩)
    · rw [if_neg hp]
      repeat' (first | refine go ?_ | refine goX ?_ | refine goB ?_ | (refine goG ?_; intro g) | (refine goV ?_; intro v))
      refine WC.freezeB (D := D) (el := 59) v ms bs (by repeat (first | exact Sel.head | apply Sel.tail)) (W.Has.bm (v := vb) hmA) ?_
      exact WC.ret (Fin.p [] [fB D v ms bs] (ResE.t2 rfl rfl rfl) meA (List.nil_sublist _) haA ⟨v, ms, rfl, rfl, rfl⟩)
  rw [if_neg c4]
  repeat' (first | refine go ?_ | refine goX ?_ | refine goB ?_ | (refine goG ?_; intro g) | (refine goV ?_; intro v))
  refine WC.freezeB (D := D) (el := 59) v ms bs (by repeat (first | exact Sel.head | apply Sel.tail)) (W.Has.bm (v := vb) hmA) ?_
  exact WC.ret (Fin.p [] [fB D v ms bs] (ResE.t2 rfl rfl rfl) meA (List.nil_sublist _) haA ⟨v, ms, rfl, rfl, rfl⟩)
end J
end Go.Proofs.YthggloiigkbfeaaGreat
namespace Go.Proofs.YthggloiigkbfeaaGreat
open W Go.RowKit
/-- small systems -/
def Sml (bs : List Bd) : Prop := absS bs ≤ 12000 ∧ bs.length ≤ 15
theorem Sml.fit {bs : List Bd} (h : Sml bs) : Fit bs := by unfold Fit; have := h.1; omega
theorem sysN_le (l : List Int) {most : Int} (hm : 0 < most) : 0 < sysN l most ∧ sysN l most ≤ most := by
  have := @atP_lt l 0 most hm
  unfold sysN; omega
theorem sysL_len (l : List Int) (most : Int) : (sysL l most).length ≤ 14 := by
  unfold sysL; rw [sysT_len]; unfold sysC; omega
theorem sysL_abs (l : List Int) {most : Int} (hm : 0 < most) (hm2 : most ≤ 8) : absS (sysL l most) ≤ 5040 := by
  have h := sysN_le l hm
  have := @sysT_abs l (sysN l most) h.1 (by omega) (sysC l)
  have h3 : sysC l ≤ 14 := by unfold sysC; omega
  unfold sysL; omega
theorem sysL_sml (l : List Int) {most : Int} (hm : 0 < most) (hm2 : most ≤ 8) : Sml (sysL l most) := ⟨Nat.le_trans (sysL_abs l hm hm2) (by decide), Nat.le_trans (sysL_len l most) (by decide)⟩
theorem absS_set {bs : List Bd} {k : Nat} (b : Bd) (hb : b.w = (bg bs k).w) : absS (bs.set k b) = absS bs := by
  unfold absS
  rw [List.map_set]
  congr 1
  by_cases hk : k < bs.length
  · have : b.w.natAbs = (bs.map fun b => b.w.natAbs)[k]'(by simpa using hk) := by
      rw [List.getElem_map, hb]; simp [bg, List.getD_eq_getElem?_getD, hk]
    rw [this, List.set_getElem_self]
  · rw [List.set_eq_of_length_le (by simp; omega)]
theorem bent_abs (n : Int) (bs : List Bd) (how at_ : Int) : absS (bentP n bs how at_).2 = absS bs ∧ (bentP n bs how at_).2.length = bs.length := by
  unfold bentP
  repeat' split
  all_goals first | exact ⟨rfl, rfl⟩ | exact ⟨absS_set _ rfl, by simp⟩
theorem bent_sml {n : Int} {bs : List Bd} {how at_ : Int} (h : Sml bs) : Sml (bentP n bs how at_).2 := by
  have := bent_abs n bs how at_
  unfold Sml at *; omega
theorem Sml.mul {bs : List Bd} (h : Sml bs) {k : Nat} (hk : k ≤ 33) : k * absS bs ≤ 400000000 := by
  have := Nat.mul_le_mul hk h.1
  omega
/-- the numbers that the law BoundsSolves makes -/
def anyP (xs : List Int) (k : Nat) : List Int := (List.range k).map fun j => (around (xs.getD j 0) 20 - 15) * 6
theorem anyP_len (xs : List Int) (k : Nat) : (anyP xs k).length = k := by simp [anyP]
theorem anyP_succ (xs : List Int) (k : Nat) : anyP xs (k + 1) = anyP xs k ++ [(around (xs.getD k 0) 20 - 15) * 6] := by simp [anyP, List.range_succ]
theorem anyP_has {D : Nat} {F : List Fct} {xs : List Int} {j : Nat} {mu : Nat → QM} {m : QM} (h : Has F (mQ D mu (anyP xs j))) (h2 : Has F (isQ (qv m) (wq D ((around (xs.getD j 0) 20 - 15) * 6)))) : Has F (mQ D (upd mu j m) (anyP xs (j + 1))) := by
  rw [anyP_succ]
  have := W.Has.mQapp h h2
  rwa [anyP_len] at this
theorem anyP_wth (xs : List Int) (k : Nat) : Wth 100 (anyP xs k) := fun i => by
  unfold anyP
  by_cases h : i < k
  · have := @around_lt (xs.getD i 0) 20 (by decide)
    simp only [List.getD_eq_getElem?_getD, List.getElem?_map, List.getElem?_range h, Option.map_some, Option.getD_some] at this ⊢
    omega
  · simp [List.getD_eq_getElem?_getD, h]
theorem Wth.nil {B : Nat} : Wth B [] := fun i => by simp
theorem slv_sml {bs : List Bd} (h : Sml bs) (n : Int) : Wth 400000 (slv n bs).1 ∧ (slv n bs).2.1.length ≤ 32 := by
  rw [slv_same]
  unfold rslv
  by_cases hvb : validB n bs = true
  · rw [if_pos hvb]
    obtain ⟨m, rfl, hv⟩ := Vld.of hvb
    rw [Int.toNat_natCast]
    have hn := hv.n2
    by_cases hs : HasSol bs
    · rw [if_pos ((sol_iff_has hv).2 hs)]
      refine ⟨(jacs_wth hv m).mono ?_, Nat.zero_le _⟩
      have := Nat.mul_le_mul hn h.1
      omega
    · rw [if_neg (fun c => hs ((sol_iff_has hv).1 c)), ← cyc_same hv hs]
      obtain ⟨k, _, h2, h3⟩ := cyc_neg hv hs
      exact ⟨Wth.nil, by have := h3.1; show (cycP m bs).length ≤ 32; omega⟩
  · rw [if_neg hvb]
    exact ⟨Wth.nil, Nat.zero_le _⟩
end Go.Proofs.YthggloiigkbfeaaGreat
namespace Go.Proofs.YthggloiigkbfeaaGreat
open Go.ChangeShapes Go.WideShapes Go.ChangeAt Go.RowKit
open W
/-- what stood in V1 stands in V2 -/
def Ext (V1 V2 : World) : Prop := ∀ (k : Nat) (o : Obj), V1.heap[k]? = some o → V2.heap[k]? = some o
def Again {H : Type} (enc : TypeId × Value → H) (P : Program) (V1 : World) (t : TypeId) (v : Value) (d : DataW H) (p : List MemPlace) : Prop :=
  ∀ (V2 : World) (sp : Nat → Bool), Ext V1 V2 → (∀ q ∈ p, sp q.block = true) → DataW.Trod enc P V2 0 sp true t v d p
def AgainAll {H : Type} (enc : TypeId × Value → H) (P : Program) (V1 : World) (ts : List TypeId) (vs : List Value) (ds : List (DataW H)) (p : List MemPlace) : Prop :=
  ∀ (V2 : World) (sp : Nat → Bool), Ext V1 V2 → (∀ q ∈ p, sp q.block = true) → DataW.TrodAll enc P V2 0 sp true ts vs ds p
section
variable {H : Type} {enc : TypeId × Value → H} {P : Program} {V1 : World}
theorem AgainAll.nil : AgainAll enc P V1 [] [] [] [] := fun _ _ _ _ => rfl
theorem AgainAll.cons {t : TypeId} {ts : List TypeId} {v : Value} {vs : List Value} {d : DataW H} {ds : List (DataW H)} {p q : List MemPlace} (h : Again enc P V1 t v d p) (h2 : AgainAll enc P V1 ts vs ds q) : AgainAll enc P V1 (t :: ts) (v :: vs) (d :: ds) (p ++ q) := fun V2 sp he hs =>
  ⟨p, q, h V2 sp he fun x hx => hs x (List.mem_append_left _ hx), h2 V2 sp he fun x hx => hs x (List.mem_append_right _ hx), rfl⟩
theorem Ext.cell {V2 : World} (h : Ext V1 V2) {a : Addr} {v : Value} (hc : V1.cell? a = some v) : V2.cell? a = some v := by
  unfold World.cell? at hc ⊢
  cases ho : V1.heap[a.block]? with
  | none => rw [ho] at hc; cases hc
  | some o => rw [h _ _ ho]; rw [ho] at hc; exact hc
theorem arg_int {t : TypeId} {b0 : Nat} {v : Value} {d : DataW H} {p : List MemPlace} (ht : P.underlying t = some (.int .i64)) (hv : Value.okWide P V1 .any b0 t v) (h : DataW.Trod enc P V1 0 (fun _ => true) true t v d p) : ∃ n, v = .int .i64 n ∧ I64 n ∧ Again enc P V1 t v d p := by
  obtain ⟨n, rfl, rfl, rfl, wa⟩ := open_int ht hv h
  refine ⟨n, rfl, ?_, fun V2 sp _ _ => shut_int ht wa⟩
  simp [Lit.wf, IntKind.min, IntKind.max, IntKind.signed, IntKind.bits] at wa
  unfold I64; omega
theorem arg_ints {t e : TypeId} {b0 : Nat} {v : Value} {d : DataW H} {p : List MemPlace} (ht : P.underlying t = some (.slice e)) (he : P.underlying e = some (.int .i64)) (hc : P.cellsOf e = 1) (hv : Value.okWide P V1 .any b0 t v) (h : DataW.Trod enc P V1 0 (fun _ => true) true t v d p) :
    ∃ l : List Int, (∀ x ∈ l, I64 x) ∧ (sI v l).p (fun k => V1.heap[k]?) ∧ Again enc P V1 t v d p := by
  obtain ⟨fuel, hf⟩ := h
  have hval := hv
  obtain ⟨a0, len, cap, rfl⟩ := okWide_slice ht hv
  rcases open_ints ht he hc hf with ⟨hcs, hx⟩ | ⟨a, len', cap', zs, hcs, _, hl, hm, hz, hx, hcell, hwz⟩
  · simp [Value.cells] at hcs
    obtain ⟨rfl, rfl, rfl⟩ := hcs
    simp only [Prod.mk.injEq] at hx
    obtain ⟨rfl, rfl⟩ := hx
    exact ⟨[], by simp, ⟨none, 0, rfl, Nat.le_refl _, by simp [maxLen], .inl ⟨rfl, rfl, rfl⟩⟩, fun V2 sp _ _ => shut_slice_nil ht⟩
  · simp [Value.cells] at hcs
    obtain ⟨rfl, rfl, rfl⟩ := hcs
    simp only [Prod.mk.injEq] at hx
    obtain ⟨rfl, rfl⟩ := hx
    simp only [if_true] at hz
    simp only [Value.okWide, ht, Cell.okWide, Cell.ok] at hval
    obtain ⟨_, _, _, hsp, row, cells, hsh, _⟩ := hval
    obtain ⟨b, off, spot⟩ := a
    simp only at hsp; subst hsp
    have hblk : ∃ c el fz, V1.heap[b]? = some (.cells c el fz) := by
      unfold World.shape? at hsh
      simp only at hsh
      split at hsh
      · rename_i c el fz hh; exact ⟨c, el, fz, hh⟩
      · cases hsh
    obtain ⟨c, el, fz, hh⟩ := hblk
    have hlz : (zs.take len).length = len := by simp; omega
    refine ⟨zs.take len, fun x hx => ?_, ?_, fun V2 sp hE hs => ?_⟩
    · have wa := hwz x (List.mem_of_mem_take hx)
      simp [Lit.wf, IntKind.min, IntKind.max, IntKind.signed, IntKind.bits] at wa
      unfold I64; omega
    · show (slC _ (zs.take len).length 1 _).p _
      rw [hlz]
      refine ⟨_, cap, rfl, hl, hm, .inr ⟨b, off, rfl, c, el, fz, hh, fun j hj => ?_⟩⟩
      have hcj := hcell j (by omega)
      simp only [World.cell?, Addr.add_lit, hh] at hcj
      simp only [Option.isSome_none, Bool.false_eq_true, if_false] at hcj
      rw [hcj]
      simp only [List.getD_eq_getElem?_getD, List.getElem?_take]
      rw [if_pos (by omega)]
    · by_cases hz0 : zs.length = 0
      · have hc0 : cap = 0 := by omega
        have hl0 : len = 0 := by omega
        subst hc0; subst hl0
        have t0 := shut_ints (enc := enc) (w := V2) (base := 0) (spare := sp) (held := true) (a := ⟨b, off, none⟩) (len := 0) (cap := 0) (zs := zs) 0 ht he hc (Nat.zero_le _) (Nat.le_refl _) hm (by simp [hz0]) (fun i hi => by omega) hwz
        exact ⟨2, by simpa [Value.cells] using t0⟩
      · have hspb : sp b = true := hs (.cell b off) (MemPlace.mem_row.2 ⟨0, by omega, by simp⟩)
        have t0 := shut_ints (enc := enc) (w := V2) (base := 0) (spare := sp) (held := true) (a := ⟨b, off, none⟩) (len := len) (cap := cap) (zs := zs) 0 ht he hc (Nat.zero_le _) hl hm (by simp [hspb, hz]) (fun i hi => hE.cell (hcell i hi)) hwz
        exact ⟨2, by simpa [Value.cells] using t0⟩
theorem law_calls {f : FuncId} {args : List Value} {F : List Fct} (hf : FnB P f args [] F (IsV (.bool true))) (hF : ∀ g ∈ F, g.p (fun k => V1.heap[k]?)) : Calls P f args.toArray V1 fun e V2 => e = .returned (.bool true) ∧ W.Rest V1 V2 ∧ Ext V1 V2 := by
  have him : ∀ H : Array Obj, imm (fun _ => none) [] H = fun k => H[k]? := fun H => by funext k; simp [imm, ids]
  have ho : OK (fun _ => none) [] F V1 := ⟨fun _ _ h => (by cases h), fun _ _ => rfl, by simp [ids], by simp, fun g hg => by rw [him]; exact hF g hg⟩
  refine (hf.2 _ _ ho).mono fun e V2 hh => ?_
  obtain ⟨v, b, G, h1, h2, h3, h4, h5⟩ := hh
  obtain ⟨h6, h7, h8⟩ := h2
  subst h6 h7
  refine ⟨h1, h3, fun k o hk => ?_⟩
  rw [him, him] at h4
  exact h4 k o hk
theorem post_law {f : Func} {s : ChangeSpec} {V2 : World} {args : Array Value} {ds gs : List (DataW H)} {before : List MemPlace} {v : Value}
    (hW : DataW.Whole enc P f.params.toList s.vars false V1 args.toList ds gs before)
    (hres : ∀ (b : Nat) (sp : Nat → Bool) (hd : Bool), DataW.TrodAll enc P V2 b sp hd f.resultTypes.toList (v.resultList f.resultTypes.size) (s.fn H (ds ++ gs)).results [])
    (hargs : ∀ sp : Nat → Bool, (∀ p ∈ before, sp p.block = true) → DataW.TrodAll enc P V2 0 sp true f.params.toList args.toList (s.fn H (ds ++ gs)).args before)
    (hvars : ∀ sp : Nat → Bool, DataW.TrodVars enc P V2 sp s.vars (s.fn H (ds ++ gs)).vars [])
    (hr : W.Rest V1 V2) (hE : Ext V1 V2)
    (hok : ∀ (j : Nat) (t : TypeId) (r : Value), f.resultTypes[j]? = some t → (v.resultList f.resultTypes.size)[j]? = some r → Value.okWide P V2 .any 0 t r) :
    s.post enc P f false true false false V1 args v V2 := by
  have hold : ∀ p ∈ before, (fun b => decide (b < V1.heap.size)) p.block = true := fun p hp => by simpa using hW.lt p hp
  refine ⟨ds, gs, before, [], before, [], hW, hres _ _ _, hargs _ hold, hvars _, ⟨hr.os, hr.output, fun i hi => ?_⟩, fun h => by cases h⟩
  have hk := hE i V1.heap[i] (Array.getElem?_eq_getElem hi)
  rw [hk, Array.getElem?_eq_getElem hi]
  cases V1.heap[i] <;> simp
end
theorem Tryz.own : ownKnob Tryz.prog.godebug = none := by kernel_rfl
end Go.Proofs.YthggloiigkbfeaaGreat
