/- Lemmas for the proof of a law: The run of the executor, over tables too. Conditions: none. -/
import Derived.Test.YthggloiigkbfeaaGreatCr5
import Derived.Test.YthggloiigkbfeaaGreatCr3
import Derived.Test.YthggloiigkbfeaaGreatCr2
set_option linter.unusedVariables false
set_option linter.unusedSimpArgs false
set_option linter.unusedSectionVars false
namespace Go.Proofs.YthggloiigkbfeaaGreat
open W Go.RowKit
attribute [local irreducible] WC WL WD YO LO LoopEnd W.Fin Scalar SliceT FieldAt Row ArrT AllocT KnS Has W.One SrcE IntT
namespace H
set_option maxRecDepth 60000
theorem t0A {G : Prop} (h : G := by first | (((first | exact T.al3 | exact T.al4 | exact T.al22 | exact T.al26 | exact T.al32 | exact T.al35 | exact T.al37 | exact T.al38 | exact T.al59 | exact T.al103 | exact T.al109 | exact T.al111 | exact T.al114 | exact T.al161 | exact T.al164 | exact T.al94 | exact T.al116 | exact T.al159)); done) | fail) : G := h
theorem t1A {G : Prop} (h : G := by first | (((first | exact T.sc3 | exact T.sc4 | exact T.sc22 | exact T.sc26 | exact T.sc32 | exact T.sc38 | exact T.sc109 | exact T.sc111 | exact T.sc161 | exact T.sc164 | exact T.sc94 | exact T.sc116 | exact T.sc159)); done) | fail) : G := h
theorem t2A {G : Prop} (h : G := by first | (((first | exact T.z3 | exact T.z4 | exact T.z22 | exact T.z26 | exact T.z32 | exact T.z38 | exact T.z109 | exact T.z111 | exact T.z161 | exact T.z164 | exact T.z94 | exact T.z116 | exact T.z159)); done) | fail) : G := h
theorem t3A {G : Prop} (h : G := by first | (((first | exact T.f35_0 | exact T.f35_1 | exact T.f37_0 | exact T.f37_1 | exact T.f59_0 | exact T.f59_1 | exact T.f59_2 | exact T.f103_0 | exact T.f103_1 | exact T.f114_0 | exact T.f114_1)); done) | fail) : G := h
theorem t4A {G : Prop} (h : G := by first | (((first | exact T.e22 | exact T.e32 | exact T.e38 | exact T.e109 | exact T.e111 | exact T.e161)); done) | fail) : G := h
theorem t5A {G : Prop} (h : G := by first | (((first | exact T.s22 | exact T.s32 | exact T.s38 | exact T.s109 | exact T.s111 | exact T.s161)); done) | fail) : G := h
theorem t6A {G : Prop} (h : G := by first | (((first | exact T.r35 | exact T.r37 | exact T.r59 | exact T.r103 | exact T.r114)); done) | fail) : G := h
theorem t7A {G : Prop} (h : G := by first | (((first | exact T.u3 | exact T.u26 | exact T.u164)); done) | fail) : G := h
theorem knA {G : Prop} (h : G := by first | (((first | (focus (apply KnS.oT; exact meA; done)) | (focus (apply KnS.f; exact hmA; done)) | (focus (apply KnS.oI; exact meA; done)) | (focus (apply KnS.o1; exact meA; done)) | (focus (apply KnS.zd; exact hmA; done)) | (focus (apply KnS.q1; exact hmA; done)) | (focus (apply KnS.q2; exact hmA; done)) | (focus (apply KnS.fr; exact hmA; done)) | (focus (apply KnS.fb; exact hmA; done)) | (focus (apply KnS.fl; exact hmA; done)) | (focus (apply KnS.oR; exact meA; done)) | (focus (apply KnS.oB; exact meA; done)) | (focus (apply KnS.oL; exact meA; done)))); done) | fail) : G := h
theorem hsA {G : Prop} (h : G := by first | (((first | exact hmA | (focus (apply hasQ_P; exact hmA; done)) | (focus (apply hasQ_Q; exact hmA; done)) | exact hasZ_0 | exact hasQ_0 | (focus (apply hasZ_d; exact hmA; done)) | (focus (apply hasQ_d1; exact hmA; done)) | (focus (apply hasQ_d2; exact hmA; done)) | exact hasQ0w)); done) | fail) : G := h
theorem haA {G : Prop} (h : G := by first | ((repeat (first | exact HasAll.nil | (apply HasAll.cons; exact hsA))); done) | fail) : G := h
theorem hbA {G : Prop} (h : G := by first | ((repeat (first | exact HasAllB.nil | (apply HasAllB.cons; (first | (focus (apply HasB.oI; exact meA; done)) | (focus (apply HasB.c; exact meA; done)) | (focus (apply HasB.f; exact hsA; done)) | (focus (apply HasB.fR; exact meA; exact hmA; done)) | (focus (apply HasB.fB; exact meA; exact hmA; done)) | (focus (apply HasB.fL; exact meA; exact hmA; done)) | (focus (apply HasB.and; (focus (apply HasB.c; exact meA; done)); (focus (apply HasB.c; exact meA; done)); done)) | (focus (apply HasB.oT; exact meA; done)))))); done) | fail) : G := h
theorem ltA {G : Prop} (h : G := by first | (((first | (focus (apply Or.inr; constructor; (repeat (first | exact List.Sublist.refl _ | exact List.nil_sublist _ | apply List.Sublist.cons_cons | apply List.Sublist.cons)); (first | exact fun _ h => h | (intro f hf; (repeat (first | exact hf | apply List.Mem.tail)))); done)) | (apply Or.inl; kernel_rfl))); done) | fail) : G := h
theorem onA {G : Prop} (h : G := by first | (((first | exact ints_one _ | (intro u hu; simp only [List.mem_cons, List.not_mem_nil, or_false] at hu; first | (subst hu; rfl) | (rcases hu with rfl | rfl | rfl <;> rfl)))); done) | fail) : G := h
theorem leA {G : Prop} (h : G := by first | (((simp only [List.length_map, List.length_append, List.length_cons, List.length_nil, List.length_replicate, List.length_take]; omega)); done) | fail) : G := h
theorem y_indexAddr {G : Prop} (h : G := by first | (((first | (first | (apply YO.ix1; exact t5A; exact rfl; exact rfl; exact knA; omega) | (apply YO.ix; exact t5A; exact rfl; exact rfl; exact knA; omega) | (apply YO.ix1'; exact t5A; exact rfl; exact rfl; exact knA; omega; omega) | (apply YO.ix'; exact t5A; exact rfl; exact rfl; exact knA; omega; omega)) | (apply YO.ix1; exact t5A; exact rfl; exact rfl; exact knA; (first | omega | (simp only [List.length_set, List.length_replicate]; omega))) | (apply YO.ix; exact t5A; exact rfl; exact rfl; exact knA; (first | omega | (simp only [List.length_set, List.length_replicate]; omega))) | (apply YO.ix1'; exact t5A; exact rfl; exact rfl; exact knA; omega; (first | omega | (simp only [List.length_set, List.length_replicate]; omega))))); done) | fail) : G := h
theorem y_load {G : Prop} (h : G := by first | (((first | (apply YO.ldW; exact t6A; exact rfl; exact meA; exact rfl) | (apply YO.ld42; exact t6A; exact rfl; exact meA) | (apply YO.ld40; exact t6A; exact rfl; exact meA) | (apply YO.ld62; exact t6A; exact rfl; exact meA) | (apply YO.ld51; exact t6A; exact rfl; exact meA) | (apply YO.ldR; exact t6A; exact rfl; exact hmA; omega) | (apply YO.ldBd; exact t6A; exact rfl; exact hmA; omega) | (apply YO.ldBq; exact t6A; exact rfl; exact hmA; omega) | (apply YO.ldBf; exact t1A; exact rfl; exact hmA; omega) | (apply YO.ldBt; exact t1A; exact rfl; exact hmA; omega) | (apply YO.ldLn; exact t6A; exact rfl; exact hmA; omega) | (apply YO.ldLb; exact t1A; exact rfl; exact hmA; omega) | (apply YO.ldLq; exact t6A; exact rfl; exact hmA; omega) | (apply YO.ldWf; exact t6A; exact rfl; exact hmA; exact rfl) | (apply YO.ldOR; exact t6A; exact rfl; exact meA; omega) | (apply YO.ldOBd; exact t6A; exact rfl; exact meA; omega) | (apply YO.ldOBq; exact t6A; exact rfl; exact meA; omega) | (apply YO.ldOL; exact t6A; exact rfl; exact meA; omega) | (apply YO.ldOT; exact t1A; exact rfl; exact meA; omega) | (apply YO.ldWI0; exact t6A; exact rfl; exact meA; (first | omega | (simp only [List.length_set, List.length_replicate]; omega))) | (apply YO.ldWF0; exact t6A; exact rfl; exact hmA; (first | omega | (simp only [List.length_set, List.length_replicate]; omega))) | (apply YO.ldCI; exact t1A; exact rfl; exact meA; (first | omega | (simp only [List.length_set, List.length_replicate]; omega))) | (apply YO.ldFI; exact t1A; exact rfl; exact hmA; (first | omega | (simp only [List.length_set, List.length_replicate]; omega))) | (apply YO.ldF; exact t1A; exact rfl; exact hmA; exact rfl) | (apply YO.ldS; exact t1A; exact rfl; exact hsA; omega) | (apply YO.ldB; exact t1A; exact rfl; exact meA; exact rfl) | (apply YO.ldOI; exact t1A; exact rfl; exact meA; (first | omega | (simp only [List.length_set, List.length_replicate]; omega))))); done) | fail) : G := h
theorem y_slice {G : Prop} (h : G := by first | (((first | (first | (apply YO.slice; exact t5A; exact rfl; exact knA; exact Or.inl ⟨rfl, rfl⟩; exact Or.inr ⟨_, rfl, rfl⟩; omega; omega) | (apply YO.slice; exact t5A; exact rfl; exact knA; exact Or.inr ⟨_, rfl, rfl⟩; exact Or.inl ⟨rfl, rfl⟩; omega; omega)) | (apply YO.slice3; exact t5A; exact rfl; exact knA; exact rfl; exact rfl; omega; omega))); done) | fail) : G := h
theorem y_eql {G : Prop} (h : G := by first | (((first | (first | (first | (apply YO.eql_t; exact rfl; exact rfl; omega) | (apply YO.eql_f; exact rfl; exact rfl; omega)) | (apply YO.eqNil_t; exact t5A; exact rfl; exact knA; assumption) | (apply YO.eqNil_f; exact t5A; exact rfl; exact knA; assumption)) | (apply YO.beq_t; exact bool_t; exact rfl; exact rfl; (first | rfl | assumption | decide)) | (apply YO.beq_f; exact bool_t; exact rfl; exact rfl; (first | rfl | assumption | decide)))); done) | fail) : G := h
theorem y_build {G : Prop} (h : G := by first | (((first | (apply YO.buildZ; exact rfl; exact rfl; exact knA) | exact YO.buildZ0 | exact YO.buildQ0 | (apply YO.buildQ1; exact rfl) | (apply YO.buildQ2; exact rfl; exact rfl) | (apply YO.buildLn; exact rfl; exact rfl) | (apply YO.buildSys; exact rfl; exact rfl; exact knA))); done) | fail) : G := h
theorem y_len {G : Prop} (h : G := by first | (((apply YO.len; exact t5A; exact rfl; exact knA)); done) | fail) : G := h
theorem y_fieldAddr {G : Prop} (h : G := by first | (((first | (apply YO.fieldE; exact t3A; exact rfl) | (apply YO.fieldN; exact t3A; exact rfl; ((try simp only [Nat.zero_add, Nat.mul_one, Nat.reduceAdd, Nat.reduceMul]); exact rfl)))); done) | fail) : G := h
theorem y_conv {G : Prop} (h : G := by first | (((first | (first | (apply YO.convU; exact t7A; exact t7A; exact rfl; omega; omega) | (apply YO.convI; exact t7A; exact t7A; exact rfl; omega; omega)) | (apply YO.convN; exact t7A; exact t7A; exact rfl; omega; omega))); done) | fail) : G := h
theorem y_neq {G : Prop} (h : G := by first | (((first | (first | (apply YO.neq_t; exact rfl; exact rfl; omega) | (apply YO.neq_f; exact rfl; exact rfl; omega)) | (apply YO.bne_t; exact bool_t; exact rfl; exact rfl; (first | rfl | assumption | decide)) | (apply YO.bne_f; exact bool_t; exact rfl; exact rfl; (first | rfl | assumption | decide)))); done) | fail) : G := h
theorem y_makeFunc {G : Prop} (h : G := by first | (((apply YO.makeFunc; (repeat (first | exact Evs.nil | (apply Evs.cons; exact rfl))); (repeat (first | exact Evs.nil | (apply Evs.cons; exact rfl))))); done) | fail) : G := h
theorem y_quo {G : Prop} (h : G := by first | (((first | (apply YO.quo; exact rfl; exact rfl; omega; omega; omega) | (apply YO.uquo; exact rfl; exact rfl; omega; omega; omega))); done) | fail) : G := h
theorem y_and {G : Prop} (h : G := by first | (((first | (apply YO.and1; exact rfl; exact rfl; omega; omega) | (apply YO.and; exact rfl; exact rfl; omega; omega; omega; omega))); done) | fail) : G := h
theorem y_mul {G : Prop} (h : G := by first | (((first | (apply YO.mul; exact rfl; exact rfl; omega; omega) | (apply YO.umul; exact rfl; exact rfl; omega; omega))); done) | fail) : G := h
theorem y_rem {G : Prop} (h : G := by first | (((first | (apply YO.rem; exact rfl; exact rfl; omega; omega) | (apply YO.urem; exact rfl; exact rfl; omega; omega))); done) | fail) : G := h
theorem y_add {G : Prop} (h : G := by first | (((first | (apply YO.inc; exact rfl; exact rfl; omega) | (apply YO.add; exact rfl; exact rfl; omega; omega))); done) | fail) : G := h
theorem y_lss {G : Prop} (h : G := by first | (((first | (apply YO.lss_t; exact rfl; exact rfl; omega) | (apply YO.lss_f; exact rfl; exact rfl; omega))); done) | fail) : G := h
theorem y_gtr {G : Prop} (h : G := by first | (((first | (apply YO.gtr_t; exact rfl; exact rfl; omega) | (apply YO.gtr_f; exact rfl; exact rfl; omega))); done) | fail) : G := h
theorem y_geq {G : Prop} (h : G := by first | (((first | (apply YO.geq_t; exact rfl; exact rfl; omega) | (apply YO.geq_f; exact rfl; exact rfl; omega))); done) | fail) : G := h
theorem y_leq {G : Prop} (h : G := by first | (((first | (apply YO.leq_t; exact rfl; exact rfl; omega) | (apply YO.leq_f; exact rfl; exact rfl; omega))); done) | fail) : G := h
theorem y_shl {G : Prop} (h : G := by first | (((apply YO.shl'; exact rfl; exact rfl; omega; omega; (first | omega | decide); (first | omega | decide))); done) | fail) : G := h
theorem y_uneg {G : Prop} (h : G := by first | (((first | (apply YO.neg; exact rfl; omega; omega) | (apply YO.uneg; exact rfl; omega; omega))); done) | fail) : G := h
theorem y_pick {G : Prop} (h : G := by first | (((first | (apply YO.pick_t; exact rfl; exact rfl) | (apply YO.pick_f; exact rfl; exact rfl))); done) | fail) : G := h
theorem y_unot {G : Prop} (h : G := by first | (((first | (apply YO.not_t; exact rfl) | (apply YO.not_f; exact rfl))); done) | fail) : G := h
theorem y_or {G : Prop} (h : G := by first | (((apply YO.or; exact rfl; exact rfl; omega; omega; omega; omega)); done) | fail) : G := h
theorem go {G G' : Prop} (h : G') (s : Bx G' → G := by
  intro h
  (first
    | apply WL.nil
    | (apply WL.skg; exact rfl; exact rfl)
    | (apply WL.skg0; exact rfl)
    | (apply WL.k_move; (apply YO.move; exact rfl); exact rfl; exact rfl)
    | (apply WL.k_assign; (apply YO.assign; exact rfl); exact rfl; exact rfl)
    | (apply WL.k_lss; exact y_lss; exact rfl; exact rfl)
    | (apply WL.k_add; exact y_add; exact rfl; exact rfl)
    | (apply WL.k_len; exact y_len; exact rfl; exact rfl)
    | (apply WL.k_indexAddr; exact y_indexAddr; exact rfl; exact rfl)
    | (apply WL.k_load; exact y_load; exact rfl; exact rfl)
    | (apply WL.k_pick; exact y_pick; exact rfl; exact rfl)
    | (apply WL.k_fieldAddr; exact y_fieldAddr; exact rfl; exact rfl)
    | (apply WL.k_eql; exact y_eql; exact rfl; exact rfl)
    | (apply WL.k_neq; exact y_neq; exact rfl; exact rfl)
    | (apply WL.k_nil; (apply YO.nil; exact rfl); exact rfl; exact rfl)
    | (apply WL.k_extract; (apply YO.extract; exact rfl; exact rfl); exact rfl; exact rfl)
    | (apply WL.k_gtr; exact y_gtr; exact rfl; exact rfl)
    | (apply WL.k_geq; exact y_geq; exact rfl; exact rfl)
    | (apply WL.k_leq; exact y_leq; exact rfl; exact rfl)
    | (apply WL.k_sub; (apply YO.sub; exact rfl; exact rfl; omega; omega); exact rfl; exact rfl)
    | (apply WL.k_mul; exact y_mul; exact rfl; exact rfl)
    | (apply WL.k_rem; exact y_rem; exact rfl; exact rfl)
    | (apply WL.k_quo; exact y_quo; exact rfl; exact rfl)
    | (apply WL.k_unot; exact y_unot; exact rfl; exact rfl)
    | (apply WL.k_uneg; exact y_uneg; exact rfl; exact rfl)
    | (apply WL.k_max; (apply YO.max; exact rfl; exact rfl); exact rfl; exact rfl)
    | (apply WL.k_min; (apply YO.min; exact rfl; exact rfl); exact rfl; exact rfl)
    | (apply WL.k_makeFunc; exact y_makeFunc; exact rfl; exact rfl)
    | (apply WL.k_conv; exact y_conv; exact rfl; exact rfl)
    | (apply WL.k_shl; exact y_shl; exact rfl; exact rfl)
    | (apply WL.k_shr; (apply YO.shr'; exact rfl; exact rfl; omega; omega); exact rfl; exact rfl)
    | (apply WL.k_and; exact y_and; exact rfl; exact rfl)
    | (apply WL.k_or; exact y_or; exact rfl; exact rfl)
    | (apply WL.k_andNot; (apply YO.anot; exact rfl; exact rfl); exact rfl; exact rfl)
    | (apply WL.k_slice; exact y_slice; exact rfl; exact rfl)
    | (apply WL.k_build; exact y_build; exact rfl; exact rfl)
    | apply WC.seq
    | apply WC.region
    | apply WC.block
    | (apply WC.cond_t; exact rfl)
    | (apply WC.cond_f; exact rfl)
    | apply WC.exit
    | apply WC.skip
    | apply WC.label
    | (apply WL.kl_store; rotate_left; exact rfl; (first | (apply LO.storeOI; exact rfl; exact rfl; exact t2A; exact seA; (first | omega | (simp only [List.length_set]; omega))) | (apply LO.storeQ; exact rfl; exact rfl; exact t6A; exact hmA; exact seA; omega) | (apply LO.storeL1; exact rfl; exact rfl; exact t6A; exact hmA; exact seA; omega) | (apply LO.storeOT; exact rfl; exact rfl; exact t2A; (first | exact One.lit rfl rfl | (apply One.sl; exact knA)); exact seA; omega) | (apply LO.storeI; exact rfl; exact rfl; exact t2A; exact seA; (first | omega | (simp only [List.length_set, List.length_replicate]; omega))) | (apply LO.storeWI; exact rfl; exact rfl; exact seA; exact t6A; (first | omega | (simp only [List.length_set, List.length_replicate]; omega)); (first | (simp only [List.length_map, List.length_set, List.length_replicate, ints]; omega) | rfl)) | (apply LO.store1; exact rfl; exact rfl; exact t2A; (first | exact One.lit rfl rfl | (apply One.sl; exact knA)); exact seA; (first | (simp only [List.length_cons, List.length_nil]; omega) | (simp; omega)); (first | (simp only [List.set_cons_succ, List.set_cons_zero]; exact rfl) | exact rfl)) | (apply LO.storeO1; exact rfl; exact rfl; exact t2A; (first | exact One.lit rfl rfl | (apply One.sl; exact knA)); exact seA; (first | (simp only [List.length_cons, List.length_nil]; omega) | (simp; omega)); (first | (simp only [List.set_cons_succ, List.set_cons_zero]; exact rfl) | exact rfl)) | (apply LO.storeL; exact rfl; exact rfl; exact seA; exact t6A; exact rfl; exact rfl; (repeat (first | exact OneL.nil | (apply OneL.cons; (first | exact One.lit rfl rfl | (apply One.sl; exact knA)))))))))
  repeat (first
    | apply WL.nil
    | (apply WL.skg; exact rfl; exact rfl)
    | (apply WL.skg0; exact rfl)
    | (apply WL.k_move; (apply YO.move; exact rfl); exact rfl; exact rfl)
    | (apply WL.k_assign; (apply YO.assign; exact rfl); exact rfl; exact rfl)
    | (apply WL.k_lss; exact y_lss; exact rfl; exact rfl)
    | (apply WL.k_add; exact y_add; exact rfl; exact rfl)
    | (apply WL.k_len; exact y_len; exact rfl; exact rfl)
    | (apply WL.k_indexAddr; exact y_indexAddr; exact rfl; exact rfl)
    | (apply WL.k_load; exact y_load; exact rfl; exact rfl)
    | (apply WL.k_pick; exact y_pick; exact rfl; exact rfl)
    | (apply WL.k_fieldAddr; exact y_fieldAddr; exact rfl; exact rfl)
    | (apply WL.k_eql; exact y_eql; exact rfl; exact rfl)
    | (apply WL.k_neq; exact y_neq; exact rfl; exact rfl)
    | (apply WL.k_nil; (apply YO.nil; exact rfl); exact rfl; exact rfl)
    | (apply WL.k_extract; (apply YO.extract; exact rfl; exact rfl); exact rfl; exact rfl)
    | (apply WL.k_gtr; exact y_gtr; exact rfl; exact rfl)
    | (apply WL.k_geq; exact y_geq; exact rfl; exact rfl)
    | (apply WL.k_leq; exact y_leq; exact rfl; exact rfl)
    | (apply WL.k_sub; (apply YO.sub; exact rfl; exact rfl; omega; omega); exact rfl; exact rfl)
    | (apply WL.k_mul; exact y_mul; exact rfl; exact rfl)
    | (apply WL.k_rem; exact y_rem; exact rfl; exact rfl)
    | (apply WL.k_quo; exact y_quo; exact rfl; exact rfl)
    | (apply WL.k_unot; exact y_unot; exact rfl; exact rfl)
    | (apply WL.k_uneg; exact y_uneg; exact rfl; exact rfl)
    | (apply WL.k_max; (apply YO.max; exact rfl; exact rfl); exact rfl; exact rfl)
    | (apply WL.k_min; (apply YO.min; exact rfl; exact rfl); exact rfl; exact rfl)
    | (apply WL.k_makeFunc; exact y_makeFunc; exact rfl; exact rfl)
    | (apply WL.k_conv; exact y_conv; exact rfl; exact rfl)
    | (apply WL.k_shl; exact y_shl; exact rfl; exact rfl)
    | (apply WL.k_shr; (apply YO.shr'; exact rfl; exact rfl; omega; omega); exact rfl; exact rfl)
    | (apply WL.k_and; exact y_and; exact rfl; exact rfl)
    | (apply WL.k_or; exact y_or; exact rfl; exact rfl)
    | (apply WL.k_andNot; (apply YO.anot; exact rfl; exact rfl); exact rfl; exact rfl)
    | (apply WL.k_slice; exact y_slice; exact rfl; exact rfl)
    | (apply WL.k_build; exact y_build; exact rfl; exact rfl)
    | apply WC.seq
    | apply WC.region
    | apply WC.block
    | (apply WC.cond_t; exact rfl)
    | (apply WC.cond_f; exact rfl)
    | apply WC.exit
    | apply WC.skip
    | apply WC.label
    | (apply WL.kl_store; rotate_left; exact rfl; (first | (apply LO.storeOI; exact rfl; exact rfl; exact t2A; exact seA; (first | omega | (simp only [List.length_set]; omega))) | (apply LO.storeQ; exact rfl; exact rfl; exact t6A; exact hmA; exact seA; omega) | (apply LO.storeL1; exact rfl; exact rfl; exact t6A; exact hmA; exact seA; omega) | (apply LO.storeOT; exact rfl; exact rfl; exact t2A; (first | exact One.lit rfl rfl | (apply One.sl; exact knA)); exact seA; omega) | (apply LO.storeI; exact rfl; exact rfl; exact t2A; exact seA; (first | omega | (simp only [List.length_set, List.length_replicate]; omega))) | (apply LO.storeWI; exact rfl; exact rfl; exact seA; exact t6A; (first | omega | (simp only [List.length_set, List.length_replicate]; omega)); (first | (simp only [List.length_map, List.length_set, List.length_replicate, ints]; omega) | rfl)) | (apply LO.store1; exact rfl; exact rfl; exact t2A; (first | exact One.lit rfl rfl | (apply One.sl; exact knA)); exact seA; (first | (simp only [List.length_cons, List.length_nil]; omega) | (simp; omega)); (first | (simp only [List.set_cons_succ, List.set_cons_zero]; exact rfl) | exact rfl)) | (apply LO.storeO1; exact rfl; exact rfl; exact t2A; (first | exact One.lit rfl rfl | (apply One.sl; exact knA)); exact seA; (first | (simp only [List.length_cons, List.length_nil]; omega) | (simp; omega)); (first | (simp only [List.set_cons_succ, List.set_cons_zero]; exact rfl) | exact rfl)) | (apply LO.storeL; exact rfl; exact rfl; exact seA; exact t6A; exact rfl; exact rfl; (repeat (first | exact OneL.nil | (apply OneL.cons; (first | exact One.lit rfl rfl | (apply One.sl; exact knA)))))))))
  exact Bx.h h) : G := s ⟨h⟩
theorem goD {G G' : Prop} (h : G') (s : Bx G' → G := by
  intro h
  (first
    | apply WD.nil
    | (apply WD.skg; exact rfl; exact rfl; exact rfl)
    | (apply WD.skgl; exact rfl; exact rfl; exact rfl)
    | (apply WD.skgl0; exact rfl; exact rfl)
    | (apply WD.k_move; exact rfl; (apply YO.move; exact rfl); exact rfl; exact rfl)
    | (apply WD.k_assign; exact rfl; (apply YO.assign; exact rfl); exact rfl; exact rfl)
    | (apply WD.k_lss; exact rfl; exact y_lss; exact rfl; exact rfl)
    | (apply WD.k_add; exact rfl; exact y_add; exact rfl; exact rfl)
    | (apply WD.k_len; exact rfl; exact y_len; exact rfl; exact rfl)
    | (apply WD.k_indexAddr; exact rfl; exact y_indexAddr; exact rfl; exact rfl)
    | (apply WD.k_load; exact rfl; exact y_load; exact rfl; exact rfl)
    | (apply WD.k_pick; exact rfl; exact y_pick; exact rfl; exact rfl)
    | (apply WD.k_fieldAddr; exact rfl; exact y_fieldAddr; exact rfl; exact rfl)
    | (apply WD.k_eql; exact rfl; exact y_eql; exact rfl; exact rfl)
    | (apply WD.k_neq; exact rfl; exact y_neq; exact rfl; exact rfl)
    | (apply WD.k_nil; exact rfl; (apply YO.nil; exact rfl); exact rfl; exact rfl)
    | (apply WD.k_extract; exact rfl; (apply YO.extract; exact rfl; exact rfl); exact rfl; exact rfl)
    | (apply WD.k_gtr; exact rfl; exact y_gtr; exact rfl; exact rfl)
    | (apply WD.k_geq; exact rfl; exact y_geq; exact rfl; exact rfl)
    | (apply WD.k_leq; exact rfl; exact y_leq; exact rfl; exact rfl)
    | (apply WD.k_sub; exact rfl; (apply YO.sub; exact rfl; exact rfl; omega; omega); exact rfl; exact rfl)
    | (apply WD.k_mul; exact rfl; exact y_mul; exact rfl; exact rfl)
    | (apply WD.k_rem; exact rfl; exact y_rem; exact rfl; exact rfl)
    | (apply WD.k_quo; exact rfl; exact y_quo; exact rfl; exact rfl)
    | (apply WD.k_unot; exact rfl; exact y_unot; exact rfl; exact rfl)
    | (apply WD.k_uneg; exact rfl; exact y_uneg; exact rfl; exact rfl)
    | (apply WD.k_max; exact rfl; (apply YO.max; exact rfl; exact rfl); exact rfl; exact rfl)
    | (apply WD.k_min; exact rfl; (apply YO.min; exact rfl; exact rfl); exact rfl; exact rfl)
    | (apply WD.k_makeFunc; exact rfl; exact y_makeFunc; exact rfl; exact rfl)
    | (apply WD.k_conv; exact rfl; exact y_conv; exact rfl; exact rfl)
    | (apply WD.k_shl; exact rfl; exact y_shl; exact rfl; exact rfl)
    | (apply WD.k_shr; exact rfl; (apply YO.shr'; exact rfl; exact rfl; omega; omega); exact rfl; exact rfl)
    | (apply WD.k_and; exact rfl; exact y_and; exact rfl; exact rfl)
    | (apply WD.k_or; exact rfl; exact y_or; exact rfl; exact rfl)
    | (apply WD.k_andNot; exact rfl; (apply YO.anot; exact rfl; exact rfl); exact rfl; exact rfl)
    | (apply WD.k_slice; exact rfl; exact y_slice; exact rfl; exact rfl)
    | (apply WD.k_build; exact rfl; exact y_build; exact rfl; exact rfl)
    | (apply WD.kl_store; exact rfl; rotate_left; exact rfl; (first | (apply LO.storeOI; exact rfl; exact rfl; exact t2A; exact seA; (first | omega | (simp only [List.length_set]; omega))) | (apply LO.storeQ; exact rfl; exact rfl; exact t6A; exact hmA; exact seA; omega) | (apply LO.storeL1; exact rfl; exact rfl; exact t6A; exact hmA; exact seA; omega) | (apply LO.storeOT; exact rfl; exact rfl; exact t2A; (first | exact One.lit rfl rfl | (apply One.sl; exact knA)); exact seA; omega) | (apply LO.storeI; exact rfl; exact rfl; exact t2A; exact seA; (first | omega | (simp only [List.length_set, List.length_replicate]; omega))) | (apply LO.storeWI; exact rfl; exact rfl; exact seA; exact t6A; (first | omega | (simp only [List.length_set, List.length_replicate]; omega)); (first | (simp only [List.length_map, List.length_set, List.length_replicate, ints]; omega) | rfl)) | (apply LO.store1; exact rfl; exact rfl; exact t2A; (first | exact One.lit rfl rfl | (apply One.sl; exact knA)); exact seA; (first | (simp only [List.length_cons, List.length_nil]; omega) | (simp; omega)); (first | (simp only [List.set_cons_succ, List.set_cons_zero]; exact rfl) | exact rfl)) | (apply LO.storeO1; exact rfl; exact rfl; exact t2A; (first | exact One.lit rfl rfl | (apply One.sl; exact knA)); exact seA; (first | (simp only [List.length_cons, List.length_nil]; omega) | (simp; omega)); (first | (simp only [List.set_cons_succ, List.set_cons_zero]; exact rfl) | exact rfl)) | (apply LO.storeL; exact rfl; exact rfl; exact seA; exact t6A; exact rfl; exact rfl; (repeat (first | exact OneL.nil | (apply OneL.cons; (first | exact One.lit rfl rfl | (apply One.sl; exact knA))))))); constructor; exact ltA))
  repeat (first
    | apply WD.nil
    | (apply WD.skg; exact rfl; exact rfl; exact rfl)
    | (apply WD.skgl; exact rfl; exact rfl; exact rfl)
    | (apply WD.skgl0; exact rfl; exact rfl)
    | (apply WD.k_move; exact rfl; (apply YO.move; exact rfl); exact rfl; exact rfl)
    | (apply WD.k_assign; exact rfl; (apply YO.assign; exact rfl); exact rfl; exact rfl)
    | (apply WD.k_lss; exact rfl; exact y_lss; exact rfl; exact rfl)
    | (apply WD.k_add; exact rfl; exact y_add; exact rfl; exact rfl)
    | (apply WD.k_len; exact rfl; exact y_len; exact rfl; exact rfl)
    | (apply WD.k_indexAddr; exact rfl; exact y_indexAddr; exact rfl; exact rfl)
    | (apply WD.k_load; exact rfl; exact y_load; exact rfl; exact rfl)
    | (apply WD.k_pick; exact rfl; exact y_pick; exact rfl; exact rfl)
    | (apply WD.k_fieldAddr; exact rfl; exact y_fieldAddr; exact rfl; exact rfl)
    | (apply WD.k_eql; exact rfl; exact y_eql; exact rfl; exact rfl)
    | (apply WD.k_neq; exact rfl; exact y_neq; exact rfl; exact rfl)
    | (apply WD.k_nil; exact rfl; (apply YO.nil; exact rfl); exact rfl; exact rfl)
    | (apply WD.k_extract; exact rfl; (apply YO.extract; exact rfl; exact rfl); exact rfl; exact rfl)
    | (apply WD.k_gtr; exact rfl; exact y_gtr; exact rfl; exact rfl)
    | (apply WD.k_geq; exact rfl; exact y_geq; exact rfl; exact rfl)
    | (apply WD.k_leq; exact rfl; exact y_leq; exact rfl; exact rfl)
    | (apply WD.k_sub; exact rfl; (apply YO.sub; exact rfl; exact rfl; omega; omega); exact rfl; exact rfl)
    | (apply WD.k_mul; exact rfl; exact y_mul; exact rfl; exact rfl)
    | (apply WD.k_rem; exact rfl; exact y_rem; exact rfl; exact rfl)
    | (apply WD.k_quo; exact rfl; exact y_quo; exact rfl; exact rfl)
    | (apply WD.k_unot; exact rfl; exact y_unot; exact rfl; exact rfl)
    | (apply WD.k_uneg; exact rfl; exact y_uneg; exact rfl; exact rfl)
    | (apply WD.k_max; exact rfl; (apply YO.max; exact rfl; exact rfl); exact rfl; exact rfl)
    | (apply WD.k_min; exact rfl; (apply YO.min; exact rfl; exact rfl); exact rfl; exact rfl)
    | (apply WD.k_makeFunc; exact rfl; exact y_makeFunc; exact rfl; exact rfl)
    | (apply WD.k_conv; exact rfl; exact y_conv; exact rfl; exact rfl)
    | (apply WD.k_shl; exact rfl; exact y_shl; exact rfl; exact rfl)
    | (apply WD.k_shr; exact rfl; (apply YO.shr'; exact rfl; exact rfl; omega; omega); exact rfl; exact rfl)
    | (apply WD.k_and; exact rfl; exact y_and; exact rfl; exact rfl)
    | (apply WD.k_or; exact rfl; exact y_or; exact rfl; exact rfl)
    | (apply WD.k_andNot; exact rfl; (apply YO.anot; exact rfl; exact rfl); exact rfl; exact rfl)
    | (apply WD.k_slice; exact rfl; exact y_slice; exact rfl; exact rfl)
    | (apply WD.k_build; exact rfl; exact y_build; exact rfl; exact rfl)
    | (apply WD.kl_store; exact rfl; rotate_left; exact rfl; (first | (apply LO.storeOI; exact rfl; exact rfl; exact t2A; exact seA; (first | omega | (simp only [List.length_set]; omega))) | (apply LO.storeQ; exact rfl; exact rfl; exact t6A; exact hmA; exact seA; omega) | (apply LO.storeL1; exact rfl; exact rfl; exact t6A; exact hmA; exact seA; omega) | (apply LO.storeOT; exact rfl; exact rfl; exact t2A; (first | exact One.lit rfl rfl | (apply One.sl; exact knA)); exact seA; omega) | (apply LO.storeI; exact rfl; exact rfl; exact t2A; exact seA; (first | omega | (simp only [List.length_set, List.length_replicate]; omega))) | (apply LO.storeWI; exact rfl; exact rfl; exact seA; exact t6A; (first | omega | (simp only [List.length_set, List.length_replicate]; omega)); (first | (simp only [List.length_map, List.length_set, List.length_replicate, ints]; omega) | rfl)) | (apply LO.store1; exact rfl; exact rfl; exact t2A; (first | exact One.lit rfl rfl | (apply One.sl; exact knA)); exact seA; (first | (simp only [List.length_cons, List.length_nil]; omega) | (simp; omega)); (first | (simp only [List.set_cons_succ, List.set_cons_zero]; exact rfl) | exact rfl)) | (apply LO.storeO1; exact rfl; exact rfl; exact t2A; (first | exact One.lit rfl rfl | (apply One.sl; exact knA)); exact seA; (first | (simp only [List.length_cons, List.length_nil]; omega) | (simp; omega)); (first | (simp only [List.set_cons_succ, List.set_cons_zero]; exact rfl) | exact rfl)) | (apply LO.storeL; exact rfl; exact rfl; exact seA; exact t6A; exact rfl; exact rfl; (repeat (first | exact OneL.nil | (apply OneL.cons; (first | exact One.lit rfl rfl | (apply One.sl; exact knA))))))); constructor; exact ltA))
  exact Bx.h h) : G := s ⟨h⟩
theorem goG {G G' : Prop} (h : G') (s : Bx G' → G := by
  intro h
  (first
    | (apply WL.kl_alloc; rotate_left; exact rfl; exact rfl; apply LO.alloc'; (first | exact t0A))
    | (apply WL.kl_box; rotate_left; exact rfl; exact rfl; (first | (apply LO.boxA; exact rfl) | (apply LO.box1; exact rfl; (first | exact One.lit rfl rfl | (apply One.sl; exact knA))))))
  exact Bx.h h) : G := s ⟨h⟩
theorem goV {G G' : Prop} (h : G') (s : Bx G' → G := by
  intro h
  (first
    | (apply WL.kl_ms; rotate_left; exact rfl; exact rfl; (apply LO.makeI; exact rfl; exact rfl; (repeat (first | (with_reducible apply NatI.add) | (with_reducible exact NatI.one) | exact NatI.cast _)); omega))
    | (apply WL.kl_ms; rotate_left; exact rfl; exact rfl; (apply LO.makeR; exact rfl; exact rfl; (repeat (first | (with_reducible apply NatI.add) | (with_reducible exact NatI.one) | exact NatI.cast _)); omega))
    | (apply WL.kl_ms; rotate_left; exact rfl; exact rfl; (apply LO.makeLn; exact rfl; exact rfl; (repeat (first | (with_reducible apply NatI.add) | (with_reducible exact NatI.one) | exact NatI.cast _)); omega))
    | (apply WL.kl_ms; rotate_left; exact rfl; exact rfl; (apply LO.makeTT; exact rfl; exact rfl; (repeat (first | (with_reducible apply NatI.add) | (with_reducible exact NatI.one) | exact NatI.cast _)); omega))
    | (apply WL.kl_bs; rotate_left; exact rfl; exact rfl; (apply LO.bsR0))
    | (apply WL.kl_bs; rotate_left; exact rfl; exact rfl; (apply LO.bsB0))
    | (apply WL.kl_bs; rotate_left; exact rfl; exact rfl; (apply LO.bsR1; exact rfl))
    | (apply WL.kl_bs; rotate_left; exact rfl; exact rfl; (apply LO.bsB1; exact rfl))
    | (apply WL.kl_bs; rotate_left; exact rfl; exact rfl; (apply LO.bsT1; exact rfl; exact knA))
    | (apply WL.kl_app; rotate_left; exact rfl; exact rfl; (apply LO.appTT; exact rfl; exact rfl; exact meA; (apply One.sl; exact knA); (intro _; exact seA); omega))
    | (apply WL.kl_app; rotate_left; exact rfl; exact rfl; (apply LO.appRo; exact rfl; exact rfl; exact meA; exact hmA; omega; (intro _; exact seA); omega))
    | (apply WL.kl_app; rotate_left; exact rfl; exact rfl; (apply LO.appBf; exact rfl; exact rfl; exact hmA; (intro _; exact seA); omega))
    | (apply WL.kl_app; rotate_left; exact rfl; exact rfl; (apply LO.appR1; exact rfl; exact rfl; exact meA; exact hmA; (intro _; exact seA); omega))
    | (apply WL.kl_app; rotate_left; exact rfl; exact rfl; (apply LO.appB1; exact rfl; exact rfl; exact meA; exact hmA; (intro _; exact seA); omega))
    | (apply WL.kl_app; rotate_left; exact rfl; exact rfl; (apply LO.appT1; exact rfl; exact rfl; exact meA; (first | exact One.lit rfl rfl | (apply One.sl; exact knA)); (intro _; exact seA); (simp only [List.length_append, List.length_cons, List.length_nil, List.length_map, List.length_range]; omega)))
    | (apply WL.kl_bs; rotate_left; exact rfl; exact rfl; apply LO.bs1; exact t5A; (repeat (first | exact EvP.nil | (apply EvP.cons; exact rfl))); (intro _; kernel_rfl); exact rfl; omega)
    | (apply WL.kl_app; rotate_left; exact rfl; exact rfl; apply LO.app; exact t4A; exact rfl; exact rfl; (first | (focus (apply SrcE.ints; exact hmA; done)) | (focus (apply SrcE.own1; exact meA; done)) | (focus (apply SrcE.one; exact meA; exact rfl; decide; done))); (intro v; exact seA); exact onA; exact leA; exact leA))
  exact Bx.h h) : G := s ⟨h⟩
theorem goDG {G G' : Prop} (h : G') (s : Bx G' → G := by
  intro h
  (first
    | (apply WD.kl_alloc; exact rfl; rotate_left; exact rfl; exact rfl; apply LO.alloc'; (first | exact t0A); apply allAnd; (intro _; exact ltA))
    | (apply WD.kl_box; exact rfl; rotate_left; exact rfl; exact rfl; (first | (apply LO.boxA; exact rfl) | (apply LO.box1; exact rfl; (first | exact One.lit rfl rfl | (apply One.sl; exact knA)))); apply allAnd; (intro _; exact ltA)))
  exact Bx.h h) : G := s ⟨h⟩
theorem goDV {G G' : Prop} (h : G') (s : Bx G' → G := by
  intro h
  (first
    | (apply WD.kl_ms; exact rfl; rotate_left; exact rfl; exact rfl; (apply LO.makeI; exact rfl; exact rfl; (repeat (first | (with_reducible apply NatI.add) | (with_reducible exact NatI.one) | exact NatI.cast _)); omega); apply allAnd; (intro _; exact ltA))
    | (apply WD.kl_ms; exact rfl; rotate_left; exact rfl; exact rfl; (apply LO.makeR; exact rfl; exact rfl; (repeat (first | (with_reducible apply NatI.add) | (with_reducible exact NatI.one) | exact NatI.cast _)); omega); apply allAnd; (intro _; exact ltA))
    | (apply WD.kl_ms; exact rfl; rotate_left; exact rfl; exact rfl; (apply LO.makeLn; exact rfl; exact rfl; (repeat (first | (with_reducible apply NatI.add) | (with_reducible exact NatI.one) | exact NatI.cast _)); omega); apply allAnd; (intro _; exact ltA))
    | (apply WD.kl_ms; exact rfl; rotate_left; exact rfl; exact rfl; (apply LO.makeTT; exact rfl; exact rfl; (repeat (first | (with_reducible apply NatI.add) | (with_reducible exact NatI.one) | exact NatI.cast _)); omega); apply allAnd; (intro _; exact ltA))
    | (apply WD.kl_bs; exact rfl; rotate_left; exact rfl; exact rfl; (apply LO.bsR0); apply allAnd; (intro _; exact ltA))
    | (apply WD.kl_bs; exact rfl; rotate_left; exact rfl; exact rfl; (apply LO.bsB0); apply allAnd; (intro _; exact ltA))
    | (apply WD.kl_bs; exact rfl; rotate_left; exact rfl; exact rfl; (apply LO.bsR1; exact rfl); apply allAnd; (intro _; exact ltA))
    | (apply WD.kl_bs; exact rfl; rotate_left; exact rfl; exact rfl; (apply LO.bsB1; exact rfl); apply allAnd; (intro _; exact ltA))
    | (apply WD.kl_bs; exact rfl; rotate_left; exact rfl; exact rfl; (apply LO.bsT1; exact rfl; exact knA); apply allAnd; (intro _; exact ltA))
    | (apply WD.kl_app; exact rfl; rotate_left; exact rfl; exact rfl; (apply LO.appTT; exact rfl; exact rfl; exact meA; (apply One.sl; exact knA); (intro _; exact seA); omega); apply allAnd; (intro _; exact ltA))
    | (apply WD.kl_app; exact rfl; rotate_left; exact rfl; exact rfl; (apply LO.appRo; exact rfl; exact rfl; exact meA; exact hmA; omega; (intro _; exact seA); omega); apply allAnd; (intro _; exact ltA))
    | (apply WD.kl_app; exact rfl; rotate_left; exact rfl; exact rfl; (apply LO.appBf; exact rfl; exact rfl; exact hmA; (intro _; exact seA); omega); apply allAnd; (intro _; exact ltA))
    | (apply WD.kl_app; exact rfl; rotate_left; exact rfl; exact rfl; (apply LO.appR1; exact rfl; exact rfl; exact meA; exact hmA; (intro _; exact seA); omega); apply allAnd; (intro _; exact ltA))
    | (apply WD.kl_app; exact rfl; rotate_left; exact rfl; exact rfl; (apply LO.appB1; exact rfl; exact rfl; exact meA; exact hmA; (intro _; exact seA); omega); apply allAnd; (intro _; exact ltA))
    | (apply WD.kl_app; exact rfl; rotate_left; exact rfl; exact rfl; (apply LO.appT1; exact rfl; exact rfl; exact meA; (first | exact One.lit rfl rfl | (apply One.sl; exact knA)); (intro _; exact seA); (simp only [List.length_append, List.length_cons, List.length_nil, List.length_map, List.length_range]; omega)); apply allAnd; (intro _; exact ltA))
    | (apply WD.kl_bs; exact rfl; rotate_left; exact rfl; exact rfl; apply LO.bs1; exact t5A; (repeat (first | exact EvP.nil | (apply EvP.cons; exact rfl))); (intro _; kernel_rfl); exact rfl; omega; apply allAnd; (intro _; exact ltA))
    | (apply WD.kl_app; exact rfl; rotate_left; exact rfl; exact rfl; apply LO.app; exact t4A; exact rfl; exact rfl; (first | (focus (apply SrcE.ints; exact hmA; done)) | (focus (apply SrcE.own1; exact meA; done)) | (focus (apply SrcE.one; exact meA; exact rfl; decide; done))); (intro v; exact seA); exact onA; exact leA; exact leA; apply allAnd; (intro _; exact ltA)))
  exact Bx.h h) : G := s ⟨h⟩
theorem goLG {G G' : Prop} (h : G') (s : Bx G' → G := by
  intro h
  (first
    | (apply LO.alloc'; (first | exact t0A); apply allAnd; (intro _; exact ltA))
    | ((first | (apply LO.boxA; exact rfl) | (apply LO.box1; exact rfl; (first | exact One.lit rfl rfl | (apply One.sl; exact knA)))); apply allAnd; (intro _; exact ltA)))
  exact Bx.h h) : G := s ⟨h⟩
theorem goLV {G G' : Prop} (h : G') (s : Bx G' → G := by
  intro h
  (first
    | (apply LO.bs1; exact t5A; (repeat (first | exact EvP.nil | (apply EvP.cons; exact rfl))); (intro _; kernel_rfl); exact rfl; omega; apply allAnd; (intro _; exact ltA))
    | (apply LO.app; exact t4A; exact rfl; exact rfl; (first | (focus (apply SrcE.ints; exact hmA; done)) | (focus (apply SrcE.own1; exact meA; done)) | (focus (apply SrcE.one; exact meA; exact rfl; decide; done))); (intro v; exact seA); exact onA; exact leA; exact leA; apply allAnd; (intro _; exact ltA))
    | ((apply LO.makeI; exact rfl; exact rfl; (repeat (first | (with_reducible apply NatI.add) | (with_reducible exact NatI.one) | exact NatI.cast _)); omega); apply allAnd; (intro _; exact ltA))
    | ((apply LO.makeR; exact rfl; exact rfl; (repeat (first | (with_reducible apply NatI.add) | (with_reducible exact NatI.one) | exact NatI.cast _)); omega); apply allAnd; (intro _; exact ltA))
    | ((apply LO.makeLn; exact rfl; exact rfl; (repeat (first | (with_reducible apply NatI.add) | (with_reducible exact NatI.one) | exact NatI.cast _)); omega); apply allAnd; (intro _; exact ltA))
    | ((apply LO.makeTT; exact rfl; exact rfl; (repeat (first | (with_reducible apply NatI.add) | (with_reducible exact NatI.one) | exact NatI.cast _)); omega); apply allAnd; (intro _; exact ltA))
    | ((apply LO.bsR0); apply allAnd; (intro _; exact ltA))
    | ((apply LO.bsB0); apply allAnd; (intro _; exact ltA))
    | ((apply LO.bsR1; exact rfl); apply allAnd; (intro _; exact ltA))
    | ((apply LO.bsB1; exact rfl); apply allAnd; (intro _; exact ltA))
    | ((apply LO.bsT1; exact rfl; exact knA); apply allAnd; (intro _; exact ltA))
    | ((apply LO.appTT; exact rfl; exact rfl; exact meA; (apply One.sl; exact knA); (intro _; exact seA); omega); apply allAnd; (intro _; exact ltA))
    | ((apply LO.appRo; exact rfl; exact rfl; exact meA; exact hmA; omega; (intro _; exact seA); omega); apply allAnd; (intro _; exact ltA))
    | ((apply LO.appBf; exact rfl; exact rfl; exact hmA; (intro _; exact seA); omega); apply allAnd; (intro _; exact ltA))
    | ((apply LO.appR1; exact rfl; exact rfl; exact meA; exact hmA; (intro _; exact seA); omega); apply allAnd; (intro _; exact ltA))
    | ((apply LO.appB1; exact rfl; exact rfl; exact meA; exact hmA; (intro _; exact seA); omega); apply allAnd; (intro _; exact ltA))
    | ((apply LO.appT1; exact rfl; exact rfl; exact meA; (first | exact One.lit rfl rfl | (apply One.sl; exact knA)); (intro _; exact seA); (simp only [List.length_append, List.length_cons, List.length_nil, List.length_map, List.length_range]; omega)); apply allAnd; (intro _; exact ltA)))
  exact Bx.h h) : G := s ⟨h⟩
theorem goLS {G G' : Prop} (h : G') (s : Bx G' → G := by
  intro h
  (first
    | ((first | (apply LO.storeOI; exact rfl; exact rfl; exact t2A; exact seA; (first | omega | (simp only [List.length_set]; omega))) | (apply LO.storeQ; exact rfl; exact rfl; exact t6A; exact hmA; exact seA; omega) | (apply LO.storeL1; exact rfl; exact rfl; exact t6A; exact hmA; exact seA; omega) | (apply LO.storeOT; exact rfl; exact rfl; exact t2A; (first | exact One.lit rfl rfl | (apply One.sl; exact knA)); exact seA; omega) | (apply LO.storeI; exact rfl; exact rfl; exact t2A; exact seA; (first | omega | (simp only [List.length_set, List.length_replicate]; omega))) | (apply LO.storeWI; exact rfl; exact rfl; exact seA; exact t6A; (first | omega | (simp only [List.length_set, List.length_replicate]; omega)); (first | (simp only [List.length_map, List.length_set, List.length_replicate, ints]; omega) | rfl)) | (apply LO.store1; exact rfl; exact rfl; exact t2A; (first | exact One.lit rfl rfl | (apply One.sl; exact knA)); exact seA; (first | (simp only [List.length_cons, List.length_nil]; omega) | (simp; omega)); (first | (simp only [List.set_cons_succ, List.set_cons_zero]; exact rfl) | exact rfl)) | (apply LO.storeO1; exact rfl; exact rfl; exact t2A; (first | exact One.lit rfl rfl | (apply One.sl; exact knA)); exact seA; (first | (simp only [List.length_cons, List.length_nil]; omega) | (simp; omega)); (first | (simp only [List.set_cons_succ, List.set_cons_zero]; exact rfl) | exact rfl)) | (apply LO.storeL; exact rfl; exact rfl; exact seA; exact t6A; exact rfl; exact rfl; (repeat (first | exact OneL.nil | (apply OneL.cons; (first | exact One.lit rfl rfl | (apply One.sl; exact knA))))))); constructor; exact ltA))
  exact Bx.h h) : G := s ⟨h⟩
theorem goYL {G G' : Prop} (h : G') (s : Bx G' → G := by
  intro h
  (apply WD.fy; exact rfl; (first | (apply YO.move; exact rfl) | (apply YO.assign; exact rfl) | exact y_lss | exact y_add | exact y_len | exact y_indexAddr | exact y_load | exact y_pick | exact y_fieldAddr | exact y_eql | exact y_neq | (apply YO.nil; exact rfl) | (apply YO.extract; exact rfl; exact rfl) | exact y_gtr | exact y_geq | exact y_leq | (apply YO.sub; exact rfl; exact rfl; omega; omega) | exact y_mul | exact y_rem | exact y_quo | exact y_unot | exact y_uneg | (apply YO.max; exact rfl; exact rfl) | (apply YO.min; exact rfl; exact rfl) | exact y_makeFunc | exact y_conv | exact y_shl | (apply YO.shr'; exact rfl; exact rfl; omega; omega) | exact y_and | exact y_or | (apply YO.anot; exact rfl; exact rfl) | exact y_slice); exact rfl; exact rfl)
  exact Bx.h h) : G := s ⟨h⟩
theorem goYT {G G' : Prop} (h : G') (s : Bx G' → G := by
  intro h
  (apply WD.yl; exact rfl; (first | (apply YO.move; exact rfl) | (apply YO.assign; exact rfl) | exact y_lss | exact y_add | exact y_len | exact y_indexAddr | exact y_load | exact y_pick | exact y_fieldAddr | exact y_eql | exact y_neq | (apply YO.nil; exact rfl) | (apply YO.extract; exact rfl; exact rfl) | exact y_gtr | exact y_geq | exact y_leq | (apply YO.sub; exact rfl; exact rfl; omega; omega) | exact y_mul | exact y_rem | exact y_quo | exact y_unot | exact y_uneg | (apply YO.max; exact rfl; exact rfl) | (apply YO.min; exact rfl; exact rfl) | exact y_makeFunc | exact y_conv | exact y_shl | (apply YO.shr'; exact rfl; exact rfl; omega; omega) | exact y_and | exact y_or | (apply YO.anot; exact rfl; exact rfl) | exact y_slice); exact rfl; exact rfl)
  exact Bx.h h) : G := s ⟨h⟩
end H
end Go.Proofs.YthggloiigkbfeaaGreat
namespace Go.Proofs.YthggloiigkbfeaaGreat
open W Go.RowKit
theorem cmpL_drop {l m : List Int} {i : Nat} (h1 : i < l.length) (h2 : i < m.length) : cmpL (l.drop i) (m.drop i) = if cmpI (l.getD i 0) (m.getD i 0) ≠ 0 then cmpI (l.getD i 0) (m.getD i 0) else cmpL (l.drop (i + 1)) (m.drop (i + 1)) := by
  rw [List.drop_eq_getElem_cons h1, List.drop_eq_getElem_cons h2, cmpL, List.getD_eq_getElem?_getD, List.getD_eq_getElem?_getD, List.getElem?_eq_getElem h1, List.getElem?_eq_getElem h2, Option.getD_some, Option.getD_some]
  unfold cmpI
  split
  · rfl
  · split
    · rfl
    · simp
namespace H
attribute [local irreducible] WC WL WD YO LO LoopEnd W.Fin Scalar SliceT FieldAt Row ArrT AllocT KnS Has W.One SrcE IntT
set_option maxHeartbeats 4000000 in
set_option maxRecDepth 60000 in
theorem compare_c (u v : Value) (l m : List Int) : FnB Tryz.prog 118 [u, v] [] [sI u l, sI v m] (IsV (.int .i64 (cmpL l m))) := by
  refine fn_of [(0, u), (1, v)] 36 Tryz.func118 rfl Tryz.ntmps118 (by kernel_rfl) rfl suA fun h0 => ?_
  refine WC.lenI u l hmA fun hl1 => ?_
  refine WC.lenI v m hmA fun hl2 => ?_
  repeat' (first | refine go ?_ | refine goX ?_ | refine goB ?_ | (refine goG ?_; intro g) | (refine goV ?_; intro v))
  refine WC.lp (σ := Nat) (fun s => [(11, .int .i64 (s : Int)), (9, u), (10, .int .i64 (l.length : Int)), (0, u), (1, v)]) (fun _ => []) (fun _ => [ge h0, sI u l, sI v m]) (fun i => i ≤ l.length ∧ i ≤ m.length ∧ cmpL l m = cmpL (l.drop i) (m.drop i)) (fun i => l.length - i) 0 ⟨by omega, by omega, rfl⟩ ?_
  rintro i ⟨h1, h2, h3⟩
  by_cases c1 : i < l.length
  · by_cases c2 : i < m.length
    · rw [cmpL_drop c1 c2] at h3
      repeat' (first | refine go ?_ | refine goX ?_ | refine goB ?_ | (refine goG ?_; intro g) | (refine goV ?_; intro v))
      first | refine WL.callV (cmpc_c (l.getD i 0) (m.getD i 0)) ?_ | refine WD.callV (cmpc_c (l.getD i 0) (m.getD i 0)) ?_
      by_cases c3 : cmpI (l.getD i 0) (m.getD i 0) = 0
      · rw [if_neg (by simpa using c3)] at h3
        repeat' (first | refine go ?_ | refine goX ?_ | refine goB ?_ | (refine goG ?_; intro g) | (refine goV ?_; intro v))
        exact LoopEnd.mk (i + 1) ⟨by omega, by omega, h3⟩ (by show l.length - (i + 1) < l.length - i; omega)
      · rw [if_pos c3] at h3
        repeat' (first | refine go ?_ | refine goX ?_ | refine goB ?_ | (refine goG ?_; intro g) | (refine goV ?_; intro v))
        exact WC.ret (Fin.v (ResE.t1 rfl rfl) meA (by rw [h3]))
    · obtain rfl : i = m.length := by omega
      rw [List.drop_eq_getElem_cons c1, List.drop_length] at h3
      repeat' (first | refine go ?_ | refine goX ?_ | refine goB ?_ | (refine goG ?_; intro g) | (refine goV ?_; intro v))
      exact WC.ret (Fin.v (ResE.t1 rfl rfl) meA (by rw [h3]; rfl))
  · obtain rfl : i = l.length := by omega
    rw [List.drop_length] at h3
    by_cases c2 : l.length < m.length
    · rw [List.drop_eq_getElem_cons c2] at h3
      repeat' (first | refine go ?_ | refine goX ?_ | refine goB ?_ | (refine goG ?_; intro g) | (refine goV ?_; intro v))
      exact WC.ret (Fin.v (ResE.t1 rfl rfl) meA (by rw [h3]; rfl))
    · rw [show l.length = m.length by omega, List.drop_length] at h3
      repeat' (first | refine go ?_ | refine goX ?_ | refine goB ?_ | (refine goG ?_; intro g) | (refine goV ?_; intro v))
      exact WC.ret (Fin.v (ResE.t1 rfl rfl) meA (by rw [h3]; rfl))
end H
end Go.Proofs.YthggloiigkbfeaaGreat
namespace Go.Proofs.YthggloiigkbfeaaGreat
open W Go.RowKit
def mTT (D : Nat) (us : Nat → Nat → Value) (mss : Nat → Nat → Nat → QM) (n : Nat) (bs : List Bd) (ln : Nat → Nat) : Fct where
  p h := ∀ v, v < n → ∀ k, k < ln v → (fL D (us v k) (mss v k) (tabP n bs v k)).p h
  mono _ _ hl hp v hv k hk := (fL _ _ _ _).mono _ _ hl (hp v hv k hk)
def tbR (tv : Nat → Value) (us : Nat → Nat → Value) (ln : Nat → Nat) (v : Nat) : Ow := Ow.slice (tv v) 111 1 (tcells (ln v) (us v))
section
variable {D : Nat} {F : List Fct} {us : Nat → Nat → Value} {mss : Nat → Nat → Nat → QM} {n : Nat} {bs : List Bd} {ln ln' : Nat → Nat} {v k : Nat} {u : Value} {ml : Nat → QM}
theorem W.Has.tt (h : Has F (mTT D us mss n bs ln)) (hv : v < n) (hk : k < ln v) : Has F (fL D (us v k) (mss v k) (tabP n bs v k)) := fun p hf => h p hf v hv k hk
theorem W.Has.tt0 (h : ∀ v, v < n → ln v = 0) : Has F (mTT D us mss n bs ln) := fun p _ v hv k hk => by rw [h v hv] at hk; omega
theorem W.Has.ttC (h : Has F (mTT D us mss n bs ln)) (he : ∀ v, v < n → ln' v ≤ ln v) : Has F (mTT D us mss n bs ln') := fun p hf v hv k hk => h p hf v hv k (by have := he v hv; omega)
theorem W.Has.ttS (h : Has F (mTT D us mss n bs ln)) (hk : ln v = k) (hu : Has F (fL D u ml (tabP n bs v k))) : Has F (mTT D (upd us v (upd (us v) k u)) (upd mss v (upd (mss v) k ml)) n bs (upd ln v (k + 1))) := fun p hf w hw k' hk' => by
  by_cases c : w = v
  · subst c
    rw [upd_at] at hk'
    rw [upd_at, upd_at]
    by_cases c2 : k' = k
    · subst c2; rw [upd_at, upd_at]; exact hu p hf
    · rw [upd_ne c2, upd_ne c2]; exact h p hf w hw k' (by omega)
  · rw [upd_ne c] at hk'
    rw [upd_ne c, upd_ne c]; exact h p hf w hw k' hk'
theorem W.Has.ttT (h : Has F (mTT D us mss n bs ln)) (hv : v < n) (hk : ln v = k) : Has F (mT D (us v) (mss v) (tabL n bs v k)) := fun p hf i hi => by
  rw [tabL_len] at hi
  rw [tabL_get hi]; exact h p hf v hv i (by omega)
end
theorem tabL_ok {n : Nat} {bs : List Bd} (hf : Fit bs) {v k : Nat} (hk : k ≤ 33) : TabOK n (tabL n bs v k) := by
  unfold Fit at hf
  refine ⟨fun r hr => ?_, fun r => ?_⟩
  · rw [tabL_len] at hr; rw [tabL_get hr]; exact tabP_len _ _ _ _
  · by_cases hr : r < k
    · rw [tabL_get hr]
      exact (tabP_wth n bs v r).mono (Nat.le_trans (Nat.mul_le_mul (show r ≤ 32 by omega) hf) (by decide))
    · intro i
      simp [tabL, List.getD_eq_getElem?_getD, hr]
def lnS (v a b : Nat) : Nat → Nat := fun x => if x < v then a else b
theorem lnS_at {v a b : Nat} : lnS v a b v = b := by simp [lnS]
theorem lnS_lt {v a b x : Nat} (h : x < v) : lnS v a b x = a := by simp [lnS, h]
theorem lnS_upd {v k : Nat} : upd (lnS v (k + 1) k) v (k + 1) = lnS (v + 1) (k + 1) k := by
  funext x
  unfold upd lnS
  by_cases c : x = v
  · subst c; simp
  · rw [if_neg c]
    by_cases c2 : x < v
    · rw [if_pos c2, if_pos (by omega)]
    · rw [if_neg c2, if_neg (by omega)]
theorem tbR_upd {tv : Nat → Value} {us : Nat → Nat → Value} {ln : Nat → Nat} {v x : Nat} {tw : Value} {g : Nat → Value} {m : Nat} (h : x ≠ v) : tbR (upd tv v tw) (upd us v g) (upd ln v m) x = tbR tv us ln x := by
  unfold tbR; rw [upd_ne h, upd_ne h, upd_ne h]
def ttF : Fct := ⟨fun _ => True, fun _ _ _ _ => trivial⟩
theorem has_tt {F : List Fct} : Has F ttF := fun _ _ => trivial
theorem lss0_sgn (k : Int) : lss0 k = decide (sgn k < 0) := by
  unfold lss0 sgn
  by_cases h : k < 0
  · simp [h]
  · by_cases h2 : k = 0 <;> simp [h, h2]
theorem HasB.fT {D : Nat} {bx : List Ow} {F : List Fct} {v : Value} {el k : Nat} {us : Nat → Value} {ms : Nat → Nat → QM} {Tb : List (List (Option Int))} (h : Ow.slice v el 1 (tcells k us) ∈ bx) (hk : Tb.length = k) (hm : Has F (mT D us ms Tb)) : HasB bx F (fT D v us ms Tb) := fun fr w ho =>
  ⟨by rw [hk]; exact HasB.oT h fr w ho, HasB.f hm fr w ho⟩
theorem cmany_t {n : Nat} {bs : List Bd} {k : Nat} (hk : k < n) (h : anyNeg n bs (k + 1) = true) : cmany n bs (n - k) k = k + 1 := by
  rw [show n - k = n - (k + 1) + 1 by omega, cmany, if_pos h]
theorem cmany_f {n : Nat} {bs : List Bd} {k : Nat} (hk : k < n) (h : anyNeg n bs (k + 1) = false) : cmany n bs (n - k) k = cmany n bs (n - (k + 1)) (k + 1) := by
  rw [show n - k = n - (k + 1) + 1 by omega, cmany, if_neg (by simp [h])]
namespace H
open G
attribute [local irreducible] WC WL WD YO LO LoopEnd W.Fin Scalar SliceT FieldAt Row ArrT AllocT KnS Has W.One SrcE IntT
theorem d62 {G G' : Prop} (h : G') (s : Bx G' → G := by
  intro h
  first | (apply WC.draw (id := 13) [2, 3, 4, 5, 6, 7, 8] (.free 0 (.free 1 (.held 2 (.held 3 (.held 4 (.held 5 (.held 6 (.held 7 (.held 8 (.loud 9 (.loud 10 (.loud 11 (.loud 12 (.loud 13 (.done))))))))))))))) mixed (by kernel_rfl)) | fail
  exact Bx.h h) : G := s ⟨h⟩
set_option maxHeartbeats 4000000 in
set_option maxRecDepth 60000 in
theorem cycle1_c (D : Nat) [Den D] (m : QM) (k : Int) : FnB Tryz.prog 117 ([qv m] ++ []) [] [isQ (qv m) (wq D k), ttF] (IsV (.bool (lss0 k))) := by
  refine fn_of [(0, (qv m))] 6 Tryz.func117 rfl Tryz.ntmps117 (by kernel_rfl) rfl suA fun h0 => ?_
  repeat' (first | refine go ?_ | refine goX ?_ | refine goB ?_ | (refine goG ?_; intro g) | (refine goV ?_; intro v))
  first | refine WL.callV (signw_c D m k) ?_ | refine WD.callV (signw_c D m k) ?_
  rw [lss0_sgn]
  by_cases h : sgn k < 0
  · repeat' (first | refine go ?_ | refine goX ?_ | refine goB ?_ | (refine goG ?_; intro g) | (refine goV ?_; intro v))
    exact WC.ret (Fin.v (ResE.t1 rfl rfl) meA (by rw [decide_eq_true h]))
  · repeat' (first | refine go ?_ | refine goX ?_ | refine goB ?_ | (refine goG ?_; intro g) | (refine goV ?_; intro v))
    exact WC.ret (Fin.v (ResE.t1 rfl rfl) meA (by rw [decide_eq_false h]))
set_option maxHeartbeats 4000000 in
set_option maxRecDepth 60000 in
theorem cycle_c (D : Nat) [Den D] (vb : Value) (ms : Nat → QM) (bs : List Bd) (n : Nat) (hv : Vld n bs) (hf : Fit bs) : FnB Tryz.prog 62 [.agg #[.int .i64 n, vb]] [] [fB D vb ms bs] (IsO 3 1 (ints (cycP n bs))) := by
  refine fn_of [(0, (.agg #[.int .i64 n, vb]))] 109 Tryz.func62 rfl Tryz.ntmps62 (by kernel_rfl) rfl suA fun h0 => ?_
  have hvl := hv.l
  have hn1 := hv.n1
  have hn2 := hv.n2
  repeat' (first | refine go ?_ | refine goX ?_ | refine goB ?_ | (refine goG ?_; intro g) | (refine goV ?_; intro v) | refine goD ?_ | refine goXD ?_ | (refine goDG ?_; intro g) | (refine goDV ?_; intro v) | refine goYL ?_ | refine goYT ?_ | refine d62 ?_ | fail)
  refine WC.scope ?_
  repeat' (first | refine go ?_ | refine goX ?_ | refine goB ?_ | (refine goG ?_; intro g) | (refine goV ?_; intro v) | refine goD ?_ | refine goXD ?_ | (refine goDG ?_; intro g) | (refine goDV ?_; intro v) | refine goYL ?_ | refine goYT ?_ | refine d62 ?_ | fail)
  refine WC.addNils (tbR (fun _ => .slice none 0 0) (fun _ _ => .bool false) (lnS 0 1 0)) 111 1 n (fun _ => rfl) ?_
  refine WC.perm (bx' := Ow.slice v 109 1 (tcells n (fun _ => .slice none 0 0)) :: Ow.cells g 103 [.int .i64 n, vb] :: tbO (tbR (fun _ => .slice none 0 0) (fun _ _ => .bool false) (lnS 0 1 0)) n) (r := []) (by rw [List.append_nil]; exact List.perm_append_comm) ?_
  revert g; intro g1; revert v; intro tt
  refine WC.lpP (σ := Nat × (Nat → Value) × (Nat → Nat → Value) × (Nat → Nat → Nat → QM)) (fun s => [(20, .int .i64 (s.1 : Int)), (19, .int .i64 (n : Int)), (3, tt), (1, ptr g1)])
    (fun s => Ow.slice tt 109 1 (tcells n s.2.1) :: Ow.cells g1 103 [.int .i64 n, vb] :: tbO (tbR s.2.1 s.2.2.1 (lnS s.1 1 0)) n)
    (fun s => [mTT D s.2.2.1 s.2.2.2 n bs (lnS s.1 1 0), ge h0, fB D vb ms bs]) (fun s => s.1 ≤ n) (fun s => n - s.1) (0, fun _ => .slice none 0 0, fun _ _ => .bool false, fun _ _ _ => m00) (Nat.zero_le _) ?_ suA (List.Sublist.refl _) (.cons (W.Has.tt0 fun v _ => rfl) sfA)
  · rintro ⟨v, tv, us, mss⟩ hvn
    simp only at hvn ⊢
    by_cases c : v < n
    · repeat' (first | refine go ?_ | refine goX ?_ | refine goB ?_ | (refine goG ?_; intro g) | (refine goV ?_; intro v) | refine goD ?_ | refine goXD ?_ | (refine goDG ?_; intro g) | (refine goDV ?_; intro v) | refine goYL ?_ | refine goYT ?_ | refine d62 ?_ | fail)
      first | refine WL.callK (ends_c D vb n v (by omega) c) ?_ | refine WD.callK (ends_c D vb n v (by omega) c) ?_ | refine LO.callM (ends_c D vb n v (by omega) c) ?_
      rintro tw _ _ ⟨u, ml, rfl, rfl⟩
      simp only [List.nil_append, List.cons_append]
      repeat' (first | refine go ?_ | refine goX ?_ | refine goB ?_ | (refine goG ?_; intro g) | (refine goV ?_; intro v) | refine goD ?_ | refine goXD ?_ | (refine goDG ?_; intro g) | (refine goDV ?_; intro v) | refine goYL ?_ | refine goYT ?_ | refine d62 ?_ | fail)
      have hfv : tbR (upd tv v tw) (upd us v (upd (us v) 0 u)) (lnS (v + 1) 1 0) v = Ow.slice tw 111 1 [u] := by
        unfold tbR; rw [upd_at, upd_at, lnS_lt (by omega)]; simp [tcells, upd_at]
      have hfx : ∀ x, x ≠ v → tbR (upd tv v tw) (upd us v (upd (us v) 0 u)) (lnS (v + 1) 1 0) x = tbR tv us (lnS v 1 0) x := fun x hx => by
        rw [← lnS_upd]; exact tbR_upd hx
      refine LoopEndP.mk (v + 1, upd tv v tw, upd us v (upd (us v) 0 u), upd mss v (upd (mss v) 0 ml)) (by show v + 1 ≤ n; omega) (by show n - (v + 1) < n - v; omega) [tbR tv us (lnS v 1 0) v] ?_ suA (.cons ?_ sfA)
      · rw [← hfv]; exact perm_in2 (tb_swap c hfx)
      · show Has _ (mTT D _ _ n bs (lnS (v + 1) 1 0))
        rw [← lnS_upd]; exact W.Has.ttS (ln := lnS v 1 0) hmA lnS_at hmA
    · obtain rfl : n = v := by omega
      generalize hB : Code.block 2 _ = B2
      repeat' (first | refine go ?_ | refine goX ?_ | refine goB ?_ | (refine goG ?_; intro g) | (refine goV ?_; intro v) | refine goD ?_ | refine goXD ?_ | (refine goDG ?_; intro g) | (refine goDV ?_; intro v) | refine goYL ?_ | refine goYT ?_ | refine d62 ?_ | fail)
      rw [← hB]; clear hB B2
      rw [tbO_congr (g := tbR tv us (fun _ => 0 + 1)) (fun x hx => by unfold tbR; rw [lnS_lt hx])]
      refine WC.fact (mTT D us mss n bs (fun _ => 0 + 1)) (W.Has.ttC (ln := lnS n 1 0) hmA (fun x hx => by rw [lnS_lt hx]; exact Nat.le_refl _)) ?_
      refine WC.cutQ (σ := Nat × (Nat → Value) × (Nat → Nat → Value) × (Nat → Nat → Nat → QM)) (fun s => [(5, .int .i64 (s.1 : Int)), (3, tt), (1, ptr g1)])
        (fun s => Ow.slice tt 109 1 (tcells n s.2.1) :: Ow.cells g1 103 [.int .i64 n, vb] :: tbO (tbR s.2.1 s.2.2.1 (fun _ => s.1 + 1)) n)
        (fun s => [mTT D s.2.2.1 s.2.2.2 n bs (fun _ => s.1 + 1), ge h0, fB D vb ms bs]) (fun s => s.1 ≤ n ∧ s.1 = cmany n bs n 0) ?_ ?_
      · repeat' (first | refine go ?_ | refine goX ?_ | refine goB ?_ | (refine goG ?_; intro g) | (refine goV ?_; intro v) | refine goD ?_ | refine goXD ?_ | (refine goDG ?_; intro g) | (refine goDV ?_; intro v) | refine goYL ?_ | refine goYT ?_ | refine d62 ?_ | fail)
        refine WC.lpP (σ := Nat × (Nat → Value) × (Nat → Nat → Value) × (Nat → Nat → Nat → QM)) (fun s => [(5, .int .i64 (s.1 : Int)), (3, tt), (1, ptr g1)])
          (fun s => Ow.slice tt 109 1 (tcells n s.2.1) :: Ow.cells g1 103 [.int .i64 n, vb] :: tbO (tbR s.2.1 s.2.2.1 (fun _ => s.1 + 1)) n)
          (fun s => [mTT D s.2.2.1 s.2.2.2 n bs (fun _ => s.1 + 1), ge h0, fB D vb ms bs]) (fun s => s.1 ≤ n ∧ cmany n bs (n - s.1) s.1 = cmany n bs n 0) (fun s => n - s.1) (0, tv, us, mss) ⟨Nat.zero_le _, rfl⟩ ?_ suA (List.Sublist.refl _) sfA
        clear hvn c tv us mss
        rintro ⟨k, tv, us, mss⟩ ⟨hk, hcm⟩
        simp only at hk hcm ⊢
        by_cases ck : k < n
        · repeat' (first | refine go ?_ | refine goX ?_ | refine goB ?_ | (refine goG ?_; intro g) | (refine goV ?_; intro v) | refine goD ?_ | refine goXD ?_ | (refine goDG ?_; intro g) | (refine goDV ?_; intro v) | refine goYL ?_ | refine goYT ?_ | refine d62 ?_ | fail)
          rw [tbO_congr (g := tbR tv us (lnS 0 (k + 2) (k + 1))) (fun x hx => by unfold tbR; simp [lnS])]
          refine WC.fact (mTT D us mss n bs (lnS 0 (k + 2) (k + 1))) (W.Has.ttC (ln := fun _ => k + 1) hmA (fun x hx => by simp [lnS])) ?_
          refine WC.lpP (σ := Nat × (Nat → Value) × (Nat → Nat → Value) × (Nat → Nat → Nat → QM)) (fun s => [(38, .int .i64 (s.1 : Int)), (37, .int .i64 (n : Int)), (36, tt), (5, .int .i64 ((k : Int) + 1)), (3, tt), (1, ptr g1)])
            (fun s => Ow.slice tt 109 1 (tcells n s.2.1) :: Ow.cells g1 103 [.int .i64 n, vb] :: tbO (tbR s.2.1 s.2.2.1 (lnS s.1 (k + 2) (k + 1))) n)
            (fun s => [mTT D s.2.2.1 s.2.2.2 n bs (lnS s.1 (k + 2) (k + 1)), ge h0, fB D vb ms bs]) (fun s => s.1 ≤ n) (fun s => n - s.1) (0, tv, us, mss) (Nat.zero_le _) ?_ suA (List.Sublist.refl _) sfA
          rintro ⟨i, tv, us, mss⟩ hvn
          simp only at hvn ⊢
          by_cases c : i < n
          · have hkS := tabP_wth n bs i k
            have hkS2 : k * absS bs ≤ 32 * 14000000 := Nat.mul_le_mul (by omega) hf
            refine WC.perm (bx' := Ow.slice tt 109 1 (tcells n tv) :: Ow.cells g1 103 [.int .i64 n, vb] :: Ow.slice (tv i) 111 1 (tcells (k + 1) (us i)) :: tbX (tbR tv us (lnS i (k + 2) (k + 1))) n i) (r := []) (by
              rw [List.append_nil, show Ow.slice (tv i) 111 1 (tcells (k + 1) (us i)) = tbR tv us (lnS i (k + 2) (k + 1)) i from by unfold tbR; rw [lnS_at]]
              exact ((tbO_perm c).cons _).cons _) ?_
            refine WC.fact (fL D (us i k) (mss i k) (tabP n bs i k)) (W.Has.tt (ln := lnS i (k + 2) (k + 1)) hmA c (by rw [lnS_at]; omega)) ?_
            repeat' (first | refine go ?_ | refine goX ?_ | refine goB ?_ | (refine goG ?_; intro g) | (refine goV ?_; intro v) | refine goD ?_ | refine goXD ?_ | (refine goDG ?_; intro g) | (refine goDV ?_; intro v) | refine goYL ?_ | refine goYT ?_ | refine d62 ?_ | fail)
            rw [show ((k : Int) + 1 - 1).toNat = k by omega]
            first | refine WL.callK (longer_c D vb (us i k) ms (mss i k) bs n (tabP n bs i k) hv hf (tabP_len n bs i k) (k * absS bs) (by omega) hkS) ?_ | refine WD.callK (longer_c D vb (us i k) ms (mss i k) bs n (tabP n bs i k) hv hf (tabP_len n bs i k) (k * absS bs) (by omega) hkS) ?_ | refine LO.callM (longer_c D vb (us i k) ms (mss i k) bs n (tabP n bs i k) hv hf (tabP_len n bs i k) (k * absS bs) (by omega) hkS) ?_
            rintro u' _ _ ⟨ml, rfl, rfl⟩
            simp only [List.nil_append, List.cons_append]
            repeat' (first | refine go ?_ | refine goX ?_ | refine goB ?_ | (refine goG ?_; intro g) | (refine goV ?_; intro v) | refine goD ?_ | refine goXD ?_ | (refine goDG ?_; intro g) | (refine goDV ?_; intro v) | refine goYL ?_ | refine goYT ?_ | refine d62 ?_ | fail)
            revert v; intro v2; revert v; intro v1
            have hfv : tbR (upd tv i v2) (upd us i (upd (us i) (k + 1) u')) (lnS (i + 1) (k + 2) (k + 1)) i = Ow.slice v2 111 1 (tcells (k + 1 + 1) (upd (us i) (k + 1) u')) := by
              unfold tbR; rw [upd_at, upd_at, lnS_lt (by omega)]
            have hfx : ∀ x, x ≠ i → tbR (upd tv i v2) (upd us i (upd (us i) (k + 1) u')) (lnS (i + 1) (k + 2) (k + 1)) x = tbR tv us (lnS i (k + 2) (k + 1)) x := fun x hx => by
              rw [← lnS_upd]; exact tbR_upd hx
            refine LoopEndP.mk (i + 1, upd tv i v2, upd us i (upd (us i) (k + 1) u'), upd mss i (upd (mss i) (k + 1) ml)) (by show i + 1 ≤ n; omega) (by show n - (i + 1) < n - i; omega) [Ow.slice v1 111 1 [u']] ?_ suA (.cons ?_ sfA)
            · refine List.Perm.trans ?_ (List.perm_append_singleton _ _).symm
              rw [← hfv]
              exact (((tb_back c hfx).cons _).cons _).cons _
            · show Has _ (mTT D _ _ n bs (lnS (i + 1) (k + 2) (k + 1)))
              rw [← lnS_upd]; exact W.Has.ttS (ln := lnS i (k + 2) (k + 1)) hmA lnS_at hmA
          · obtain rfl : n = i := by omega
            rw [tbO_congr (g := tbR tv us (fun _ => k + 1 + 1)) (fun x hx => by unfold tbR; rw [lnS_lt hx])]
            refine WC.fact (mTT D us mss n bs (fun _ => k + 1 + 1)) (W.Has.ttC (ln := lnS n (k + 2) (k + 1)) hmA (fun x hx => by rw [lnS_lt hx]; exact Nat.le_refl _)) ?_
            repeat' (first | refine go ?_ | refine goX ?_ | refine goB ?_ | (refine goG ?_; intro g) | (refine goV ?_; intro v) | refine goD ?_ | refine goXD ?_ | (refine goDG ?_; intro g) | (refine goDV ?_; intro v) | refine goYL ?_ | refine goYT ?_ | refine d62 ?_ | fail)
            refine WC.lpP (σ := Nat) (fun s => [(59, .int .i64 (s : Int)), (58, .int .i64 (n : Int)), (57, tt), (5, .int .i64 ((k : Int) + 1)), (3, tt), (1, ptr g1)])
              (fun s => Ow.slice tt 109 1 (tcells n tv) :: Ow.cells g1 103 [.int .i64 n, vb] :: tbO (tbR tv us (fun _ => k + 1 + 1)) n)
              (fun s => [mTT D us mss n bs (fun _ => k + 1 + 1), ge h0, fB D vb ms bs]) (fun s => s ≤ n ∧ ∀ x, x < s → negAt n bs (k + 1) x = false) (fun s => n - s) 0 ⟨Nat.zero_le _, fun x hx => by omega⟩ ?_ suA (List.Sublist.refl _) sfA
            clear hvn c
            rintro v ⟨hvn, hneg⟩
            by_cases c : v < n
            · refine WC.perm (bx' := Ow.slice tt 109 1 (tcells n tv) :: Ow.cells g1 103 [.int .i64 n, vb] :: Ow.slice (tv v) 111 1 (tcells (k + 1 + 1) (us v)) :: tbX (tbR tv us (fun _ => k + 1 + 1)) n v) (r := []) (by
                rw [List.append_nil]
                exact ((tbO_perm (f := tbR tv us (fun _ => k + 1 + 1)) c).cons _).cons _) ?_
              refine WC.fact (fL D (us v (k + 1)) (mss v (k + 1)) (tabP n bs v (k + 1))) (W.Has.tt (ln := fun _ => k + 1 + 1) hmA c (by omega)) ?_
              have htl := tabP_len n bs v (k + 1)
              refine WC.fact (isQ (qv (mss v (k + 1) v)) (wq D (((tabP n bs v (k + 1)).getD v none).getD 0))) (W.Has.lq (ms := mss v (k + 1)) (W.Has.lm (v := us v (k + 1)) hmA) (by omega)) ?_
              repeat' (first | refine go ?_ | refine goX ?_ | refine goB ?_ | (refine goG ?_; intro g) | (refine goV ?_; intro v))
              have back : (Ow.slice tt 109 1 (tcells n tv) :: Ow.cells g1 103 [.int .i64 n, vb] :: Ow.slice (tv v) 111 1 (tcells (k + 1 + 1) (us v)) :: tbX (tbR tv us (fun _ => k + 1 + 1)) n v).Perm (Ow.slice tt 109 1 (tcells n tv) :: Ow.cells g1 103 [.int .i64 n, vb] :: tbO (tbR tv us (fun _ => k + 1 + 1)) n) := ((tbO_perm (f := tbR tv us (fun _ => k + 1 + 1)) c).symm.cons _).cons _
              cases he : (tabP n bs v (k + 1)).getD v none with
              | none =>
                rw [show (none : Option Int).isSome = false from rfl]
                have hn0 : negAt n bs (k + 1) v = false := by unfold negAt ol; rw [he]
                repeat' (first | refine go ?_ | refine goX ?_ | refine goB ?_ | (refine goG ?_; intro g) | (refine goV ?_; intro v) | refine goD ?_ | refine goXD ?_ | (refine goDG ?_; intro g) | (refine goDV ?_; intro v) | refine goYL ?_ | refine goYT ?_ | refine d62 ?_ | fail)
                exact LoopEndP.mk (v + 1) ⟨by omega, fun x hx => if h : x = v then by rw [h]; exact hn0 else hneg x (by omega)⟩ (by show n - (v + 1) < n - v; omega) [_] ((back.cons _).trans (List.perm_append_singleton _ _).symm) suA sfA
              | some d =>
                rw [show (some d : Option Int).isSome = true from rfl]
                simp only [Option.getD_some]
                repeat' (first | refine go ?_ | refine goX ?_ | refine goB ?_ | (refine goG ?_; intro g) | (refine goV ?_; intro v) | refine goD ?_ | refine goXD ?_ | (refine goDG ?_; intro g) | (refine goDV ?_; intro v) | refine goYL ?_ | refine goYT ?_ | refine d62 ?_ | fail)
                first | refine WL.callV (signw_c D (mss v (k + 1) v) d) ?_ | refine WD.callV (signw_c D (mss v (k + 1) v) d) ?_
                by_cases hd : sgn d < 0
                · have hn0 : negAt n bs (k + 1) v = true := by unfold negAt ol; rw [he]; show lss0 d = true; rw [lss0_sgn, decide_eq_true hd]
                  have hany : anyNeg n bs (k + 1) = true := List.any_eq_true.2 ⟨v, List.mem_range.2 c, hn0⟩
                  rw [cmany_t ck hany] at hcm
                  repeat' (first | refine go ?_ | refine goX ?_ | refine goB ?_ | (refine goG ?_; intro g) | (refine goV ?_; intro v) | refine goD ?_ | refine goXD ?_ | (refine goDG ?_; intro g) | (refine goDV ?_; intro v) | refine goYL ?_ | refine goYT ?_ | refine d62 ?_ | fail)
                  exact ⟨(k + 1, tv, us, mss), ⟨by show k + 1 ≤ n; omega, hcm⟩, suA, ⟨[_], (back.cons _).trans (List.perm_append_singleton _ _).symm⟩, sfA⟩
                · have hn0 : negAt n bs (k + 1) v = false := by unfold negAt ol; rw [he]; show lss0 d = false; rw [lss0_sgn, decide_eq_false hd]
                  repeat' (first | refine go ?_ | refine goX ?_ | refine goB ?_ | (refine goG ?_; intro g) | (refine goV ?_; intro v) | refine goD ?_ | refine goXD ?_ | (refine goDG ?_; intro g) | (refine goDV ?_; intro v) | refine goYL ?_ | refine goYT ?_ | refine d62 ?_ | fail)
                  exact LoopEndP.mk (v + 1) ⟨by omega, fun x hx => if h : x = v then by rw [h]; exact hn0 else hneg x (by omega)⟩ (by show n - (v + 1) < n - v; omega) [_] ((back.cons _).trans (List.perm_append_singleton _ _).symm) suA sfA
            · obtain rfl : n = v := by omega
              have hany : anyNeg n bs (k + 1) = false := by
                unfold anyNeg
                rw [List.any_eq_false]
                intro x hx
                rw [hneg x (List.mem_range.1 hx)]; simp
              rw [cmany_f ck hany] at hcm
              repeat' (first | refine go ?_ | refine goX ?_ | refine goB ?_ | (refine goG ?_; intro g) | (refine goV ?_; intro v) | refine goD ?_ | refine goXD ?_ | (refine goDG ?_; intro g) | (refine goDV ?_; intro v) | refine goYL ?_ | refine goYT ?_ | refine d62 ?_ | fail)
              exact LoopEndP.mk (k + 1, tv, us, mss) ⟨by show k + 1 ≤ n; omega, hcm⟩ (by show n - (k + 1) < n - k; omega) [] (by rw [List.append_nil]) suA sfA
        · obtain rfl : n = k := by omega
          rw [Nat.sub_self, cmany] at hcm
          repeat' (first | refine go ?_ | refine goX ?_ | refine goB ?_ | (refine goG ?_; intro g) | (refine goV ?_; intro v) | refine goD ?_ | refine goXD ?_ | (refine goDG ?_; intro g) | (refine goDV ?_; intro v) | refine goYL ?_ | refine goYT ?_ | refine d62 ?_ | fail)
          exact ⟨(n, tv, us, mss), ⟨Nat.le_refl _, hcm⟩, suA, ⟨[], by rw [List.append_nil]⟩, sfA⟩
      · clear hvn c tv us mss
        rintro ⟨many, tv, us, mss⟩ ⟨hk, hcm⟩
        simp only at hk hcm ⊢
        refine WC.addNil 3 1 ?_
        repeat' (first | refine go ?_ | refine goX ?_ | refine goB ?_ | (refine goG ?_; intro g) | (refine goV ?_; intro v) | refine goD ?_ | refine goXD ?_ | (refine goDG ?_; intro g) | (refine goDV ?_; intro v) | refine goYL ?_ | refine goYT ?_ | refine d62 ?_ | fail)
        refine WC.lpP (σ := Nat × Value × List Int) (fun s => [(82, .int .i64 (s.1 : Int)), (81, .int .i64 (n : Int)), (80, tt), (11, s.2.1), (5, .int .i64 (many : Int)), (3, tt), (1, ptr g1)])
          (fun s => Ow.slice s.2.1 3 1 (ints s.2.2) :: Ow.slice tt 109 1 (tcells n tv) :: Ow.cells g1 103 [.int .i64 n, vb] :: tbO (tbR tv us (fun _ => many + 1)) n)
          (fun s => [mTT D us mss n bs (fun _ => many + 1), ge h0, fB D vb ms bs]) (fun s => s.1 ≤ n ∧ s.2.2 = (List.range s.1).foldl (cycS (cycV n bs many)) []) (fun s => n - s.1) (0, .slice none 0 0, []) ⟨Nat.zero_le _, rfl⟩ ?_ suA (List.Sublist.refl _) sfA
        rintro ⟨v, uo, out⟩ ⟨hvn, hout⟩
        simp only at hvn hout ⊢
        by_cases c : v < n
        · have hstep : (List.range (v + 1)).foldl (cycS (cycV n bs many)) [] = if 0 < (cycV n bs many v).length ∧ (out.length = 0 ∨ cmpL (cycV n bs many v) out < 0) then cycV n bs many v else out := by rw [List.range_succ, List.foldl_append, ← hout]; rfl
          repeat' (first | refine go ?_ | refine goX ?_ | refine goB ?_ | (refine goG ?_; intro g) | (refine goV ?_; intro v) | refine goD ?_ | refine goXD ?_ | (refine goDG ?_; intro g) | (refine goDV ?_; intro v) | refine goYL ?_ | refine goYT ?_ | refine d62 ?_ | fail)
          refine WL.callO (hF := .cons (.f hmA) (.cons (HasB.fT (k := many + 1) (el := 111) (.tail _ (.tail _ (.tail _ (tbO_mem (f := tbR tv us (fun _ => many + 1)) c)))) (tabL_len n bs v (many + 1)) (W.Has.ttT (ln := fun _ => many + 1) hmA c rfl)) (.cons (.f has_tt) .nil)))
            (first_c D vb (tv v) ms (us v) (mss v) bs (tabL n bs v (many + 1)) n hv hf (tabL_ok hf (by omega)) v many (by rw [tabL_len]; omega) (by omega) 117 [] ttF lss0 (fun m k => cycle1_c D m k)) (fun rv => ?_)
          rw [show fstP bs (tabL n bs v (many + 1)) lss0 many v 0 [] = cycV n bs many v from rfl]
          generalize cycV n bs many v = cv at *
          by_cases c1 : 0 < cv.length
          · by_cases c2 : out.length = 0
            · rw [if_pos ⟨c1, .inl c2⟩] at hstep
              repeat' (first | refine go ?_ | refine goX ?_ | refine goB ?_ | (refine goG ?_; intro g) | (refine goV ?_; intro v) | refine goD ?_ | refine goXD ?_ | (refine goDG ?_; intro g) | (refine goDV ?_; intro v) | refine goYL ?_ | refine goYT ?_ | refine d62 ?_ | fail)
              exact LoopEndP.mk (v + 1, rv, cv) ⟨by show v + 1 ≤ n; omega, hstep.symm⟩ (by show n - (v + 1) < n - v; omega) [Ow.slice uo 3 1 (ints out)] (((List.perm_append_singleton _ _).symm).cons _) suA sfA
            · repeat' (first | refine go ?_ | refine goX ?_ | refine goB ?_ | (refine goG ?_; intro g) | (refine goV ?_; intro v) | refine goD ?_ | refine goXD ?_ | (refine goDG ?_; intro g) | (refine goDV ?_; intro v) | refine goYL ?_ | refine goYT ?_ | refine d62 ?_ | fail)
              first | refine WL.callV (compare_c rv uo cv out) ?_ | refine WD.callV (compare_c rv uo cv out) ?_
              by_cases c3 : cmpL cv out < 0
              · rw [if_pos ⟨c1, .inr c3⟩] at hstep
                repeat' (first | refine go ?_ | refine goX ?_ | refine goB ?_ | (refine goG ?_; intro g) | (refine goV ?_; intro v) | refine goD ?_ | refine goXD ?_ | (refine goDG ?_; intro g) | (refine goDV ?_; intro v) | refine goYL ?_ | refine goYT ?_ | refine d62 ?_ | fail)
                exact LoopEndP.mk (v + 1, rv, cv) ⟨by show v + 1 ≤ n; omega, hstep.symm⟩ (by show n - (v + 1) < n - v; omega) [Ow.slice uo 3 1 (ints out)] (((List.perm_append_singleton _ _).symm).cons _) suA sfA
              · rw [if_neg (fun h => h.2.elim c2 c3)] at hstep
                repeat' (first | refine go ?_ | refine goX ?_ | refine goB ?_ | (refine goG ?_; intro g) | (refine goV ?_; intro v) | refine goD ?_ | refine goXD ?_ | (refine goDG ?_; intro g) | (refine goDV ?_; intro v) | refine goYL ?_ | refine goYT ?_ | refine d62 ?_ | fail)
                exact LoopEndP.mk (v + 1, uo, out) ⟨by show v + 1 ≤ n; omega, hstep.symm⟩ (by show n - (v + 1) < n - v; omega) [Ow.slice rv 3 1 (ints cv)] ((List.perm_append_singleton _ _).symm) suA sfA
          · rw [if_neg (fun h => c1 h.1)] at hstep
            repeat' (first | refine go ?_ | refine goX ?_ | refine goB ?_ | (refine goG ?_; intro g) | (refine goV ?_; intro v) | refine goD ?_ | refine goXD ?_ | (refine goDG ?_; intro g) | (refine goDV ?_; intro v) | refine goYL ?_ | refine goYT ?_ | refine d62 ?_ | fail)
            exact LoopEndP.mk (v + 1, uo, out) ⟨by show v + 1 ≤ n; omega, hstep.symm⟩ (by show n - (v + 1) < n - v; omega) [Ow.slice rv 3 1 (ints cv)] ((List.perm_append_singleton _ _).symm) suA sfA
        · obtain rfl : n = v := by omega
          repeat' (first | refine go ?_ | refine goX ?_ | refine goB ?_ | (refine goG ?_; intro g) | (refine goV ?_; intro v) | refine goD ?_ | refine goXD ?_ | (refine goDG ?_; intro g) | (refine goDV ?_; intro v) | refine goYL ?_ | refine goYT ?_ | refine d62 ?_ | fail)
          exact WC.ret (Fin.o (ResE.t1 rfl rfl) meA meA (by rw [hout, hcm]; rfl))
end H
end Go.Proofs.YthggloiigkbfeaaGreat
namespace Go.Proofs.YthggloiigkbfeaaGreat
open W Go.RowKit
def bfr (l : List Int) (i : Nat) : Int := l.getD ((((i + l.length : Nat) : Int) - 1) % (l.length : Int)).toNat 0
def Cyc (bs : List Bd) (l : List Int) : Prop := ∀ i, i < l.length → (0 ≤ l.getD i 0 ∧ l.getD i 0 < bs.length) ∧ (0 ≤ bfr l i ∧ bfr l i < bs.length) ∧ (bg bs (bfr l i).toNat).to = (bg bs (l.getD i 0).toNat).fr
instance (bs : List Bd) (l : List Int) : Decidable (Cyc bs l) := by unfold Cyc; infer_instance
def negP (bs : List Bd) (l : List Int) : Bool := decide (Cyc bs l ∧ lenP bs l < 0)
def vioB (bs : List Bd) (x : List Int) (i : Nat) : Bool := decide (0 < cmpI (vl x (bg bs i).to.toNat - vl x (bg bs i).fr.toNat) (bg bs i).w)
theorem cmpI_pos {a b : Int} : 0 < cmpI a b ↔ b < a := by
  unfold cmpI; split
  · omega
  · split <;> omega
theorem vio_sol {bs : List Bd} {x : List Int} : Sol bs x ↔ ¬ 0 ≤ fidx (vioB bs x) bs.length 0 := by
  rw [fidx_has]
  unfold vioB
  constructor
  · rintro h ⟨j, _, h2, h3⟩
    have := h j (by omega)
    rw [decide_eq_true_eq, cmpI_pos] at h3
    unfold vl at h3; omega
  · intro h j hj
    refine Classical.byContradiction fun hc => h ⟨j, Nat.zero_le _, by omega, ?_⟩
    rw [decide_eq_true_eq, cmpI_pos]
    unfold vl; omega
namespace H
open G
attribute [local irreducible] WC WL WD YO LO LoopEnd W.Fin Scalar SliceT FieldAt Row ArrT AllocT KnS Has W.One SrcE IntT
theorem d72 {G G' : Prop} (h : G') (s : Bx G' → G := by
  intro h
  first | (apply WC.draw (id := 8) [0, 1, 2, 3, 4, 5, 6, 7, 8, 9, 10, 11, 12, 13, 14, 15, 16, 17, 18, 19, 20, 21, 22, 23] (.held 0 (.held 1 (.held 2 (.held 3 (.held 4 (.held 5 (.held 6 (.held 7 (.held 8 (.held 9 (.held 10 (.held 11 (.held 12 (.held 13 (.held 14 (.held 15 (.held 16 (.held 17 (.held 18 (.held 19 (.held 20 (.held 21 (.held 22 (.held 23 (.done))))))))))))))))))))))))) mixed (by kernel_rfl)) | (apply WC.draw (id := 10) [0, 1, 2, 3, 4, 5, 6] (.held 0 (.held 1 (.held 2 (.held 3 (.held 4 (.held 5 (.held 6 (.loud 7 (.loud 8 (.done)))))))))) mixed (by kernel_rfl)) | fail
  exact Bx.h h) : G := s ⟨h⟩
theorem d126 {G G' : Prop} (h : G') (s : Bx G' → G := by
  intro h
  first | (apply WC.draw (id := 1) [0, 1, 2, 3, 4, 5, 6, 7, 8, 9, 11, 12, 14, 15] (.held 0 (.held 1 (.held 2 (.held 3 (.held 4 (.held 5 (.held 6 (.held 7 (.held 8 (.held 9 (.held 11 (.held 12 (.loud 10 (.loud 13 (.held 14 (.held 15 (.done))))))))))))))))) mixed (by kernel_rfl)) | fail
  exact Bx.h h) : G := s ⟨h⟩
set_option maxHeartbeats 4000000 in
set_option maxRecDepth 60000 in
theorem solves1_c (D : Nat) [Den D] (v : Value) (mx : Nat → QM) (x : List Int) (n : Nat) (g : Nat) (bs : List Bd) (m : QM) (i : Nat) (hb : (bg bs i).ok n) (hl : x.length = n) (hx : FitX x) (hw : (bg bs i).w.natAbs ≤ 14000000) (hxs : (vl x (bg bs i).to.toNat - vl x (bg bs i).fr.toNat).natAbs ≤ 500000000) :
    FnB Tryz.prog 126 ([bv (bg bs i) m] ++ [ptr g]) [] [isQ (qv m) (wq D (bg bs i).w), andF (ce g 38 [v]) (fR D v mx x)] (IsV (.bool (vioB bs x i))) := by
  refine fn_of [(0, (bv (bg bs i) m)), (1, (ptr g))] 19 Tryz.func126 rfl Tryz.ntmps126 (by kernel_rfl) rfl suA fun h0 => ?_
  refine WC.andF (f := ce g 38 [v]) hmA ?_
  obtain ⟨⟨a1, a2⟩, a3, a4⟩ := hb
  have x1 := hx (bg bs i).fr.toNat
  have x2 := hx (bg bs i).to.toNat
  refine WC.fact (isQ (qv (mx (bg bs i).fr.toNat)) (wq D (x.getD (bg bs i).fr.toNat 0))) (W.Has.q (W.Has.rm (v := v) hmA) (by omega)) ?_
  refine WC.fact (isQ (qv (mx (bg bs i).to.toNat)) (wq D (x.getD (bg bs i).to.toNat 0))) (W.Has.q (W.Has.rm (v := v) hmA) (by omega)) ?_
  unfold vioB
  repeat' (first | refine go ?_ | refine goX ?_ | refine goB ?_ | (refine goG ?_; intro g) | (refine goV ?_; intro v) | refine goD ?_ | refine goXD ?_ | (refine goDG ?_; intro g) | (refine goDV ?_; intro v) | refine d126 ?_ | fail)
  first | refine WL.callK (subw_c D (mx (bg bs i).to.toNat) (mx (bg bs i).fr.toNat) (x.getD (bg bs i).to.toNat 0) (x.getD (bg bs i).fr.toNat 0) (by unfold Lim; omega) (by unfold Lim; omega)) ?_ | refine WD.callK (subw_c D (mx (bg bs i).to.toNat) (mx (bg bs i).fr.toNat) (x.getD (bg bs i).to.toNat 0) (x.getD (bg bs i).fr.toNat 0) (by unfold Lim; omega) (by unfold Lim; omega)) ?_ | refine LO.callM (subw_c D (mx (bg bs i).to.toNat) (mx (bg bs i).fr.toNat) (x.getD (bg bs i).to.toNat 0) (x.getD (bg bs i).fr.toNat 0) (by unfold Lim; omega) (by unfold Lim; omega)) ?_
  rintro _ _ _ ⟨m2, rfl, rfl, rfl⟩
  simp only [List.nil_append, List.cons_append]
  repeat' (first | refine go ?_ | refine goX ?_ | refine goB ?_ | (refine goG ?_; intro g) | (refine goV ?_; intro v) | refine goD ?_ | refine goXD ?_ | (refine goDG ?_; intro g) | (refine goDV ?_; intro v) | refine d126 ?_ | fail)
  first | refine WL.callV (cmpw_c D m2 m (x.getD (bg bs i).to.toNat 0 - x.getD (bg bs i).fr.toNat 0) (bg bs i).w (by unfold Lim; exact hxs) (by unfold Lim; omega)) ?_ | refine WD.callV (cmpw_c D m2 m (x.getD (bg bs i).to.toNat 0 - x.getD (bg bs i).fr.toNat 0) (bg bs i).w (by unfold Lim; exact hxs) (by unfold Lim; omega)) ?_
  by_cases c : 0 < cmpI (x.getD (bg bs i).to.toNat 0 - x.getD (bg bs i).fr.toNat 0) (bg bs i).w
  · repeat' (first | refine go ?_ | refine goX ?_ | refine goB ?_ | (refine goG ?_; intro g) | (refine goV ?_; intro v) | refine goD ?_ | refine goXD ?_ | (refine goDG ?_; intro g) | (refine goDV ?_; intro v) | refine d126 ?_ | fail)
    exact WC.ret (Fin.v (ResE.t1 rfl rfl) meA (by rw [decide_eq_true c]))
  · repeat' (first | refine go ?_ | refine goX ?_ | refine goB ?_ | (refine goG ?_; intro g) | (refine goV ?_; intro v) | refine goD ?_ | refine goXD ?_ | (refine goDG ?_; intro g) | (refine goDV ?_; intro v) | refine d126 ?_ | fail)
    exact WC.ret (Fin.v (ResE.t1 rfl rfl) meA (by rw [decide_eq_false c]))
set_option maxHeartbeats 4000000 in
set_option maxRecDepth 60000 in
theorem psolves_c (D : Nat) [Den D] (vb v : Value) (ms mx : Nat → QM) (bs : List Bd) (x : List Int) (n : Nat) (hv : Vld n bs) (hf : Fit bs) (hx : ∀ i, (x.getD i 0).natAbs ≤ 250000000) :
    FnB Tryz.prog 71 [.agg #[.int .i64 n, vb], v] [] [fB D vb ms bs, fR D v mx x] (IsV (.bool (decide (x.length = n ∧ Sol bs x)))) := by
  refine fn_of [(0, (.agg #[.int .i64 n, vb])), (1, v)] 17 Tryz.func71 rfl Tryz.ntmps71 (by kernel_rfl) rfl suA fun h0 => ?_
  have hfx : FitX x := fun i => Nat.le_trans (hx i) (by decide)
  unfold Fit at hf
  refine WC.lenF (W.Has.rs (D := D) (v := v) (ms := mx) (qs := x) hmA) fun hlen => ?_
  by_cases c : x.length = n
  · repeat' (first | refine go ?_ | refine goX ?_ | refine goB ?_ | (refine goG ?_; intro g) | (refine goV ?_; intro v))
    revert g; intro g3; revert g; intro g2
    refine WL.callV (hF := .cons (.f hmA) (.cons (.and (.c meA) (.f hmA)) .nil)) (containsB_c D vb ms bs 126 [ptr g3] (andF (ce g3 38 [v]) (fR D v mx x)) (vioB bs x)
      (fun i hi => solves1_c D v mx x n g3 bs (ms i) i (hv.ok i hi) c hfx (Nat.le_trans absS_le hf) (by have h1 := hx (bg bs i).to.toNat; have h2 := hx (bg bs i).fr.toNat; unfold vl; omega))) ?_
    by_cases c2 : 0 ≤ fidx (vioB bs x) bs.length 0
    · rw [decide_eq_true c2]
      repeat' (first | refine go ?_ | refine goX ?_ | refine goB ?_ | (refine goG ?_; intro g) | (refine goV ?_; intro v))
      exact WC.ret (Fin.v (ResE.t1 rfl rfl) meA (by rw [decide_eq_false (fun h => vio_sol.1 h.2 c2)]))
    · rw [decide_eq_false c2]
      repeat' (first | refine go ?_ | refine goX ?_ | refine goB ?_ | (refine goG ?_; intro g) | (refine goV ?_; intro v))
      exact WC.ret (Fin.v (ResE.t1 rfl rfl) meA (by rw [decide_eq_true ⟨c, vio_sol.2 c2⟩]))
  · repeat' (first | refine go ?_ | refine goX ?_ | refine goB ?_ | (refine goG ?_; intro g) | (refine goV ?_; intro v))
    exact WC.ret (Fin.v (ResE.t1 rfl rfl) meA (by rw [decide_eq_false (fun h => c h.1)]))
set_option maxHeartbeats 4000000 in
set_option maxRecDepth 60000 in
theorem negative_c (D : Nat) [Den D] (vb v : Value) (ms : Nat → QM) (bs : List Bd) (l : List Int) (n : Int) (hl : l.length ≤ 1000000) (hb : l.length * absS bs ≤ 400000000) (hf : Fit bs) (hbl : bs.length ≤ 1000000) :
    FnB Tryz.prog 72 [.agg #[.int .i64 n, vb], v] [] [fB D vb ms bs, sI v l] (IsV (.bool (negP bs l))) := by
  refine fn_of [(0, (.agg #[.int .i64 n, vb])), (1, v)] 73 Tryz.func72 rfl Tryz.ntmps72 (by kernel_rfl) rfl suA fun h0 => ?_
  unfold Fit at hf
  refine WC.fact (isQ (qv m00) (wq D 0)) hasQ0w ?_
  repeat' (first | refine go ?_ | refine goX ?_ | refine goB ?_ | (refine goG ?_; intro g) | (refine goV ?_; intro v) | refine goD ?_ | refine goXD ?_ | (refine goDG ?_; intro g) | (refine goDV ?_; intro v) | refine d72 ?_ | fail)
  revert g; intro g5; revert g; intro g2
  refine WC.lp (σ := Nat × Int × QM) (fun s => [(12, .int .i64 (s.1 : Int)), (11, .int .i64 (l.length : Int)), (10, v), (5, ptr g5), (2, ptr g2), (1, v)]) (fun s => [Ow.cells g5 37 (qcs s.2.2), Ow.cells g2 103 [.int .i64 n, vb]])
    (fun s => [isQ (qv s.2.2) (wq D s.2.1), ge h0, fB D vb ms bs, sI v l]) (fun s => s.1 ≤ l.length ∧ s.2.1 = lenP bs (l.take s.1) ∧ ∀ i, i < s.1 → (0 ≤ l.getD i 0 ∧ l.getD i 0 < bs.length) ∧ (0 ≤ bfr l i ∧ bfr l i < bs.length) ∧ (bg bs (bfr l i).toNat).to = (bg bs (l.getD i 0).toNat).fr) (fun s => l.length - s.1) (0, 0, m00) ⟨by omega, by simp [lenP], fun i h => by omega⟩ ?_
  rintro ⟨i, k, m⟩ ⟨hi, hk, hall⟩
  simp only at hi hk hall ⊢
  have hkb := @lenP_take_le bs l i
  rw [← hk] at hkb
  by_cases c : i < l.length
  · have no : ¬ ((0 ≤ l.getD i 0 ∧ l.getD i 0 < bs.length) ∧ (0 ≤ bfr l i ∧ bfr l i < bs.length) ∧ (bg bs (bfr l i).toNat).to = (bg bs (l.getD i 0).toNat).fr) → negP bs l = false := fun h => decide_eq_false fun hc => h (hc.1 i c)
    have hm1 : 0 ≤ (((i + l.length : Nat) : Int) - 1) % (l.length : Int) := Int.emod_nonneg _ (by omega)
    have hm2 : (((i + l.length : Nat) : Int) - 1) % (l.length : Int) < l.length := Int.emod_lt_of_pos _ (by omega)
    by_cases c1 : l.getD i 0 < 0
    · repeat' (first | refine go ?_ | refine goX ?_ | refine goB ?_ | (refine goG ?_; intro g) | (refine goV ?_; intro v) | refine goD ?_ | refine goXD ?_ | (refine goDG ?_; intro g) | (refine goDV ?_; intro v) | refine d72 ?_ | fail)
      exact WC.ret (Fin.v (ResE.t1 rfl rfl) meA (by rw [no (by omega)]))
    by_cases c2 : (bs.length : Int) ≤ l.getD i 0
    · repeat' (first | refine go ?_ | refine goX ?_ | refine goB ?_ | (refine goG ?_; intro g) | (refine goV ?_; intro v) | refine goD ?_ | refine goXD ?_ | (refine goDG ?_; intro g) | (refine goDV ?_; intro v) | refine d72 ?_ | fail)
      exact WC.ret (Fin.v (ResE.t1 rfl rfl) meA (by rw [no (by omega)]))
    refine WC.fact (isQ (qv (ms (l.getD i 0).toNat)) (wq D (bg bs (l.getD i 0).toNat).w)) (W.Has.b (W.Has.bm (v := vb) hmA) (by omega)) ?_
    have hw := @absS_le bs (l.getD i 0).toNat
    have hbq : bfr l i = l.getD ((((i + l.length : Nat) : Int) - 1) % (l.length : Int)).toNat 0 := rfl
    by_cases c3 : l.getD ((((i + l.length : Nat) : Int) - 1) % (l.length : Int)).toNat 0 < 0
    · repeat' (first | refine go ?_ | refine goX ?_ | refine goB ?_ | (refine goG ?_; intro g) | (refine goV ?_; intro v) | refine goD ?_ | refine goXD ?_ | (refine goDG ?_; intro g) | (refine goDV ?_; intro v) | refine d72 ?_ | fail)
      exact WC.ret (Fin.v (ResE.t1 rfl rfl) meA (by rw [no (by omega)]))
    by_cases c4 : (bs.length : Int) ≤ l.getD ((((i + l.length : Nat) : Int) - 1) % (l.length : Int)).toNat 0
    · repeat' (first | refine go ?_ | refine goX ?_ | refine goB ?_ | (refine goG ?_; intro g) | (refine goV ?_; intro v) | refine goD ?_ | refine goXD ?_ | (refine goDG ?_; intro g) | (refine goDV ?_; intro v) | refine d72 ?_ | fail)
      exact WC.ret (Fin.v (ResE.t1 rfl rfl) meA (by rw [no (by omega)]))
    by_cases c5 : (bg bs (l.getD ((((i + l.length : Nat) : Int) - 1) % (l.length : Int)).toNat 0).toNat).to = (bg bs (l.getD i 0).toNat).fr
    · repeat' (first | refine go ?_ | refine goX ?_ | refine goB ?_ | (refine goG ?_; intro g) | (refine goV ?_; intro v) | refine goD ?_ | refine goXD ?_ | (refine goDG ?_; intro g) | (refine goDV ?_; intro v) | refine d72 ?_ | fail)
      first | refine WL.callK (addw_c D m (ms (l.getD i 0).toNat) k (bg bs (l.getD i 0).toNat).w (by unfold Lim; omega) (by unfold Lim; omega)) ?_ | refine WD.callK (addw_c D m (ms (l.getD i 0).toNat) k (bg bs (l.getD i 0).toNat).w (by unfold Lim; omega) (by unfold Lim; omega)) ?_ | refine LO.callM (addw_c D m (ms (l.getD i 0).toNat) k (bg bs (l.getD i 0).toNat).w (by unfold Lim; omega) (by unfold Lim; omega)) ?_
      rintro _ _ _ ⟨m2, rfl, rfl, rfl⟩
      simp only [List.nil_append, List.cons_append]
      repeat' (first | refine go ?_ | refine goX ?_ | refine goB ?_ | (refine goG ?_; intro g) | (refine goV ?_; intro v) | refine goD ?_ | refine goXD ?_ | (refine goDG ?_; intro g) | (refine goDV ?_; intro v) | refine d72 ?_ | fail)
      refine LoopEnd.mk (i + 1, k + (bg bs (l.getD i 0).toNat).w, m2) ⟨by show i + 1 ≤ _; omega, by show _ = lenP bs (l.take (i + 1)); rw [lenP_take c, ← hk], fun j hj => ?_⟩ (by show l.length - (i + 1) < l.length - i; omega)
      by_cases hji : j = i
      · subst hji; rw [hbq]; exact ⟨⟨by omega, by omega⟩, ⟨by omega, by omega⟩, c5⟩
      · exact hall j (by have : j < i + 1 := hj; omega)
    · repeat' (first | refine go ?_ | refine goX ?_ | refine goB ?_ | (refine goG ?_; intro g) | (refine goV ?_; intro v) | refine goD ?_ | refine goXD ?_ | (refine goDG ?_; intro g) | (refine goDV ?_; intro v) | refine d72 ?_ | fail)
      exact WC.ret (Fin.v (ResE.t1 rfl rfl) meA (by rw [no (fun h => c5 h.2.2)]))
  · repeat' (first | refine go ?_ | refine goX ?_ | refine goB ?_ | (refine goG ?_; intro g) | (refine goV ?_; intro v) | refine goD ?_ | refine goXD ?_ | (refine goDG ?_; intro g) | (refine goDV ?_; intro v) | refine d72 ?_ | fail)
    first | refine WL.callV (signw_c D m k) ?_ | refine WD.callV (signw_c D m k) ?_
    rw [List.take_of_length_le (by omega)] at hk
    have hcy : Cyc bs l := fun j hj => hall j (by omega)
    by_cases h : sgn k < 0
    · have h2 : k < 0 := by have := lss0_sgn k; rw [decide_eq_true h] at this; exact of_decide_eq_true this
      repeat' (first | refine go ?_ | refine goX ?_ | refine goB ?_ | (refine goG ?_; intro g) | (refine goV ?_; intro v) | refine goD ?_ | refine goXD ?_ | (refine goDG ?_; intro g) | (refine goDV ?_; intro v) | refine d72 ?_ | fail)
      exact WC.ret (Fin.v (ResE.t1 rfl rfl) meA (by unfold negP; rw [decide_eq_true ⟨hcy, by omega⟩]))
    · have h2 : ¬ k < 0 := by have := lss0_sgn k; rw [decide_eq_false h] at this; exact of_decide_eq_false this
      repeat' (first | refine go ?_ | refine goX ?_ | refine goB ?_ | (refine goG ?_; intro g) | (refine goV ?_; intro v) | refine goD ?_ | refine goXD ?_ | (refine goDG ?_; intro g) | (refine goDV ?_; intro v) | refine d72 ?_ | fail)
      exact WC.ret (Fin.v (ResE.t1 rfl rfl) meA (by unfold negP; rw [decide_eq_false (fun hc => h2 (by omega))]))
end H
end Go.Proofs.YthggloiigkbfeaaGreat
namespace Go.Proofs.YthggloiigkbfeaaGreat
open W Go.RowKit
def chk (n : Int) (bs : List Bd) (x l : List Int) : Int := if validB n bs = true then (if (l.length = 0 ∧ x.length = n.toNat ∧ Sol bs x) ∨ (x.length = 0 ∧ negP bs l = true) then 0 else 22) else 1
namespace H
open G
attribute [local irreducible] WC WL WD YO LO LoopEnd W.Fin Scalar SliceT FieldAt Row ArrT AllocT KnS Has W.One SrcE IntT
set_option maxHeartbeats 4000000 in
set_option maxRecDepth 60000 in
theorem check_c (D : Nat) [Den D] (vb ux uc : Value) (ms mx : Nat → QM) (bs : List Bd) (x l : List Int) (n : Int) (hf : Fit bs) (hl : l.length ≤ 1000000) (hb : l.length * absS bs ≤ 400000000) (hx : ∀ i, (x.getD i 0).natAbs ≤ 250000000) :
    FnB Tryz.prog 22 [.int .i64 n, vb, ux, uc] [] [fB D vb ms bs, fR D ux mx x, sI uc l] (IsV (.int .i64 (chk n bs x l))) := by
  refine fn_of [(0, (.int .i64 n)), (1, vb), (2, ux), (3, uc)] 37 Tryz.func22 rfl Tryz.ntmps22 (by kernel_rfl) rfl suA fun h0 => ?_
  refine WC.lenF (W.Has.rs (D := D) (v := ux) (ms := mx) (qs := x) hmA) fun hlen => ?_
  repeat' (first | refine go ?_ | refine goX ?_ | refine goB ?_ | (refine goG ?_; intro g) | (refine goV ?_; intro v))
  first | refine WL.callV (made_c D vb ms bs n) ?_ | refine WD.callV (made_c D vb ms bs n) ?_
  repeat' (first | refine go ?_ | refine goX ?_ | refine goB ?_ | (refine goG ?_; intro g) | (refine goV ?_; intro v))
  cases hvb : validB n bs with
  | false =>
    repeat' (first | refine go ?_ | refine goX ?_ | refine goB ?_ | (refine goG ?_; intro g) | (refine goV ?_; intro v))
    exact WC.ret (Fin.v (ResE.t1 rfl rfl) meA (by unfold chk; rw [hvb]; rfl))
  | true =>
    obtain ⟨m, rfl, hv⟩ := Vld.of hvb
    have hvl := hv.l
    have hs : chk (m : Int) bs x l = if (l.length = 0 ∧ x.length = m ∧ Sol bs x) ∨ (x.length = 0 ∧ negP bs l = true) then 0 else 22 := by unfold chk; rw [if_pos hvb]; rfl
    have fin : ∀ r : Int, r = chk (m : Int) bs x l → Value.int .i64 r = .int .i64 (chk (m : Int) bs x l) := fun r hr => by rw [hr]
    by_cases c1 : l.length = 0
    · repeat' (first | refine go ?_ | refine goX ?_ | refine goB ?_ | (refine goG ?_; intro g) | (refine goV ?_; intro v))
      first | refine WL.callV (psolves_c D vb ux ms mx bs x m hv hf hx) ?_ | refine WD.callV (psolves_c D vb ux ms mx bs x m hv hf hx) ?_
      by_cases c2 : x.length = m ∧ Sol bs x
      · rw [if_pos (.inl ⟨c1, c2⟩)] at hs
        rw [decide_eq_true c2]
        repeat' (first | refine go ?_ | refine goX ?_ | refine goB ?_ | (refine goG ?_; intro g) | (refine goV ?_; intro v))
        exact WC.ret (Fin.v (ResE.t1 rfl rfl) meA (fin _ hs.symm))
      · rw [decide_eq_false c2]
        repeat' (first | refine go ?_ | refine goX ?_ | refine goB ?_ | (refine goG ?_; intro g) | (refine goV ?_; intro v))
        by_cases c3 : x.length = 0
        · repeat' (first | refine go ?_ | refine goX ?_ | refine goB ?_ | (refine goG ?_; intro g) | (refine goV ?_; intro v))
          first | refine WL.callV (negative_c D vb uc ms bs l m hl hb hf (by omega)) ?_ | refine WD.callV (negative_c D vb uc ms bs l m hl hb hf (by omega)) ?_
          cases c4 : negP bs l with
          | true =>
            rw [if_pos (.inr ⟨c3, c4⟩)] at hs
            repeat' (first | refine go ?_ | refine goX ?_ | refine goB ?_ | (refine goG ?_; intro g) | (refine goV ?_; intro v))
            exact WC.ret (Fin.v (ResE.t1 rfl rfl) meA (fin _ hs.symm))
          | false =>
            rw [if_neg (fun h => h.elim (fun h => c2 h.2) (fun h => by rw [c4] at h; cases h.2))] at hs
            repeat' (first | refine go ?_ | refine goX ?_ | refine goB ?_ | (refine goG ?_; intro g) | (refine goV ?_; intro v))
            exact WC.ret (Fin.v (ResE.t1 rfl rfl) meA (fin _ hs.symm))
        · rw [if_neg (fun h => h.elim (fun h => c2 h.2) (fun h => c3 h.1))] at hs
          repeat' (first | refine go ?_ | refine goX ?_ | refine goB ?_ | (refine goG ?_; intro g) | (refine goV ?_; intro v))
          exact WC.ret (Fin.v (ResE.t1 rfl rfl) meA (fin _ hs.symm))
    · repeat' (first | refine go ?_ | refine goX ?_ | refine goB ?_ | (refine goG ?_; intro g) | (refine goV ?_; intro v))
      by_cases c3 : x.length = 0
      · repeat' (first | refine go ?_ | refine goX ?_ | refine goB ?_ | (refine goG ?_; intro g) | (refine goV ?_; intro v))
        first | refine WL.callV (negative_c D vb uc ms bs l m hl hb hf (by omega)) ?_ | refine WD.callV (negative_c D vb uc ms bs l m hl hb hf (by omega)) ?_
        cases c4 : negP bs l with
        | true =>
          rw [if_pos (.inr ⟨c3, c4⟩)] at hs
          repeat' (first | refine go ?_ | refine goX ?_ | refine goB ?_ | (refine goG ?_; intro g) | (refine goV ?_; intro v))
          exact WC.ret (Fin.v (ResE.t1 rfl rfl) meA (fin _ hs.symm))
        | false =>
          rw [if_neg (fun h => h.elim (fun h => c1 h.1) (fun h => by rw [c4] at h; cases h.2))] at hs
          repeat' (first | refine go ?_ | refine goX ?_ | refine goB ?_ | (refine goG ?_; intro g) | (refine goV ?_; intro v))
          exact WC.ret (Fin.v (ResE.t1 rfl rfl) meA (fin _ hs.symm))
      · rw [if_neg (fun h => h.elim (fun h => c1 h.1) (fun h => c3 h.1))] at hs
        repeat' (first | refine go ?_ | refine goX ?_ | refine goB ?_ | (refine goG ?_; intro g) | (refine goV ?_; intro v))
        exact WC.ret (Fin.v (ResE.t1 rfl rfl) meA (fin _ hs.symm))
end H
end Go.Proofs.YthggloiigkbfeaaGreat
namespace Go.Proofs.YthggloiigkbfeaaGreat
open W Go.RowKit
def mostS (t : Nat → Option Int) (s : Option Nat) (k : Nat) : Option Nat := match t k with
  | none => s
  | some d => match s with
    | none => some k
    | some j => if d < (t j).getD 0 then some k else s
def mostK (n : Nat) (bs : List Bd) (a b : Nat) : Option Nat := (List.range n).foldl (mostS (fun k => ol (tabP n bs b k) a)) none
def mostD (n : Nat) (bs : List Bd) (a b k : Nat) : Int := (ol (tabP n bs b k) a).getD 0
theorem mostK_spec (n : Nat) (bs : List Bd) (a b : Nat) : (mostK n bs a b = none ∧ ∀ j, j < n → ol (tabP n bs b j) a = none) ∨ ∃ k d, mostK n bs a b = some k ∧ k < n ∧ ol (tabP n bs b k) a = some d ∧ ∀ j e, j < n → ol (tabP n bs b j) a = some e → d ≤ e ∧ (j < k → d < e) := by
  unfold mostK
  have main : ∀ (t : Nat → Option Int) m, ((List.range m).foldl (mostS t) none = none ∧ ∀ j, j < m → t j = none) ∨ ∃ k d, (List.range m).foldl (mostS t) none = some k ∧ k < m ∧ t k = some d ∧ ∀ j e, j < m → t j = some e → d ≤ e ∧ (j < k → d < e) := by
    intro t m
    induction m with
    | zero => exact .inl ⟨rfl, fun j h => by omega⟩
    | succ m ih =>
      rw [List.range_succ, List.foldl_append, List.foldl_cons, List.foldl_nil]
      cases hm : t m with
      | none =>
        rcases ih with ⟨h1, h2⟩ | ⟨k, d, h1, h2, h3, h4⟩
        · rw [h1]
          refine .inl ⟨by unfold mostS; rw [hm], fun j hj => ?_⟩
          by_cases c : j = m
          · rw [c, hm]
          · exact h2 j (by omega)
        · rw [h1]
          refine .inr ⟨k, d, by unfold mostS; rw [hm], by omega, h3, fun j e hj he => ?_⟩
          by_cases c : j = m
          · rw [c, hm] at he; cases he
          · exact h4 j e (by omega) he
      | some f =>
        rcases ih with ⟨h1, h2⟩ | ⟨k, d, h1, h2, h3, h4⟩
        · rw [h1]
          refine .inr ⟨m, f, by unfold mostS; rw [hm], by omega, hm, fun j e hj he => ?_⟩
          by_cases c : j = m
          · subst c; rw [hm] at he; cases he; exact ⟨Int.le_refl _, fun h => by omega⟩
          · rw [h2 j (by omega)] at he; cases he
        · rw [h1]
          by_cases c : f < d
          · refine .inr ⟨m, f, by unfold mostS; rw [hm]; simp only [h3, Option.getD_some]; rw [if_pos c], by omega, hm, fun j e hj he => ?_⟩
            by_cases c2 : j = m
            · subst c2; rw [hm] at he; cases he; exact ⟨Int.le_refl _, fun h => by omega⟩
            · have := h4 j e (by omega) he
              exact ⟨by omega, fun _ => by omega⟩
          · refine .inr ⟨k, d, by unfold mostS; rw [hm]; simp only [h3, Option.getD_some]; rw [if_neg c], by omega, h3, fun j e hj he => ?_⟩
            by_cases c2 : j = m
            · subst c2; rw [hm] at he; cases he; exact ⟨by omega, fun h => by omega⟩
            · exact h4 j e (by omega) he
  exact main (fun k => ol (tabP n bs b k) a) n
def bett (bs : List Bd) (a b : List Int) : Bool := decide (lenP bs a < lenP bs b ∨ (lenP bs a = lenP bs b ∧ (a.length < b.length ∨ (a.length = b.length ∧ cmpL a b < 0))))
theorem cmpL_nlt {a b : List Int} : ¬ cmpL a b < 0 ↔ cmpL b a ≤ 0 := by
  constructor
  · intro h; exact (cmpL_total a b).resolve_left h
  · intro h h2
    have := cmpL_anti (Int.le_of_lt h2) h
    subst this; rw [cmpL_refl] at h2; omega
theorem bett_f {bs : List Bd} {a b : List Int} : bett bs a b = false ↔ lenP bs b ≤ lenP bs a ∧ (lenP bs a = lenP bs b → b.length ≤ a.length ∧ (a.length = b.length → cmpL b a ≤ 0)) := by
  unfold bett
  rw [decide_eq_false_iff_not, ← cmpL_nlt]
  constructor
  · intro h
    refine ⟨Int.not_lt.1 fun h2 => h (.inl h2), fun h2 => ⟨Nat.not_lt.1 fun h3 => h (.inr ⟨h2, .inl h3⟩), fun h3 h4 => h (.inr ⟨h2, .inr ⟨h3, h4⟩⟩)⟩⟩
  · rintro ⟨h1, h2⟩ (h3 | ⟨h3, h4 | ⟨h4, h5⟩⟩)
    · omega
    · have := (h2 h3).1; omega
    · exact (h2 h3).2 h4 h5
theorem bett_trans {bs : List Bd} {a b c : List Int} (h : bett bs a b = false) (h2 : bett bs b c = false) : bett bs a c = false := by
  rw [bett_f] at *
  obtain ⟨h1, h3⟩ := h
  obtain ⟨h4, h5⟩ := h2
  refine ⟨by omega, fun h6 => ?_⟩
  have h7 := h3 (by omega)
  have h8 := h5 (by omega)
  exact ⟨by omega, fun h9 => cmpL_trans (h8.2 (by omega)) (h7.2 (by omega))⟩
theorem bett_refl (bs : List Bd) (a : List Int) : bett bs a a = false := by
  rw [bett_f]; exact ⟨Int.le_refl _, fun _ => ⟨Nat.le_refl _, fun _ => by rw [cmpL_refl]; omega⟩⟩
theorem bett_anti {bs : List Bd} {a b : List Int} (h : bett bs a b = false) (h2 : bett bs b a = false) : a = b := by
  rw [bett_f] at *
  have h3 := h.2 (by omega)
  have h4 := h2.2 (by omega)
  exact cmpL_anti (h4.2 (by omega)) (h3.2 (by omega))
theorem bett_asym {bs : List Bd} {a b : List Int} (h : bett bs a b = true) : bett bs b a = false := by
  cases h2 : bett bs b a with
  | false => rfl
  | true =>
    unfold bett at h h2
    rw [decide_eq_true_eq] at h h2
    rcases h with h | ⟨h3, h⟩ <;> rcases h2 with h2 | ⟨h4, h2⟩
    · omega
    · omega
    · omega
    · rcases h with h | ⟨h5, h⟩ <;> rcases h2 with h2 | ⟨h6, h2⟩
      · omega
      · omega
      · omega
      · exact absurd h (cmpL_nlt.2 (by omega))
def flwE (bs : List Bd) (path : List Int) : Option (List Int) → Option (List Int)
  | none => some path
  | some b => if bett bs path b then some path else some b
abbrev lst (met : List Int) : Int := met.getD (met.length - 1) 0
def flwP (bs : List Bd) (to : Int) : Nat → List Int → List Int → Option (List Int) → Option (List Int)
  | 0, _, _, o => o
  | c + 1, path, met, o => if lst met = to then flwE bs path o else
    (List.range bs.length).foldl (fun o i => if (bg bs i).fr = lst met ∧ (bg bs i).to ∉ met then flwP bs to c (path ++ [(i : Int)]) (met ++ [(bg bs i).to]) o else o) o
def tos (bs : List Bd) (l : List Int) : List Int := l.map fun i => (bg bs i.toNat).to
theorem frs_tos {bs : List Bd} {l : List Int} : ∀ {u v : Int}, Wlk bs u l v → u :: tos bs l = frs bs l ++ [v] := by
  induction l with
  | nil => intro u v h; simp [Wlk] at h; simp [tos, frs, h]
  | cons i l ih =>
    intro u v ⟨h1, h2, h3⟩
    have := ih h3
    show u :: (bg bs i.toNat).to :: tos bs l = ((bg bs i.toNat).fr :: frs bs l) ++ [v]
    rw [this, h2]; rfl
theorem tos_in {n : Nat} {bs : List Bd} (hv : Vld n bs) {l : List Int} : ∀ {u v : Int}, Wlk bs u l v → ∀ x ∈ tos bs l, 0 ≤ x ∧ x < n := by
  induction l with
  | nil => intro u v _ x hx; simp [tos] at hx
  | cons i l ih =>
    intro u v ⟨h1, h2, h3⟩ x hx
    have hx2 : x = (bg bs i.toNat).to ∨ x ∈ tos bs l := List.mem_cons.1 hx
    rcases hx2 with rfl | hx2
    · have := hv.ok i.toNat (by omega); unfold Bd.ok at this; omega
    · exact ih h3 x hx2
def Cmp (bs : List Bd) (to : Int) (met q : List Int) : Prop := Wlk bs (lst met) q to ∧ (tos bs q).Nodup ∧ ∀ x ∈ tos bs q, x ∉ met
theorem lst_mem {met : List Int} (h : met ≠ []) : lst met ∈ met := by
  have : 0 < met.length := List.length_pos_iff.2 h
  unfold lst
  rw [List.getD_eq_getElem?_getD, List.getElem?_eq_getElem (show met.length - 1 < met.length by omega), Option.getD_some]
  exact List.getElem_mem _
theorem lst_snoc (met : List Int) (x : Int) : lst (met ++ [x]) = x := by simp [lst, List.getD_eq_getElem?_getD]
theorem end_mem {bs : List Bd} {q : List Int} : ∀ {u v : Int}, Wlk bs u q v → q ≠ [] → v ∈ tos bs q := by
  intro u v h hq
  have h2 := frs_tos h
  have h3 : v ∈ u :: tos bs q := by rw [h2]; simp
  rcases List.mem_cons.1 h3 with rfl | h4
  · cases q with
    | nil => exact absurd rfl hq
    | cons i q =>
      obtain ⟨h5, h6, h7⟩ := h
      have h8 := frs_tos h7
      have : v ∈ (bg bs i.toNat).to :: tos bs q := by rw [h8]; simp
      exact this
  · exact h4
theorem Cmp.cons {bs : List Bd} {to : Int} {met q : List Int} {i : Nat} (hi : i < bs.length) : Cmp bs to met ((i : Int) :: q) ↔ ((bg bs i).fr = lst met ∧ (bg bs i).to ∉ met) ∧ Cmp bs to (met ++ [(bg bs i).to]) q := by
  have e : tos bs ((i : Int) :: q) = (bg bs i).to :: tos bs q := by simp [tos]
  unfold Cmp
  rw [lst_snoc, e, List.nodup_cons]
  constructor
  · rintro ⟨⟨h1, h2, h3⟩, ⟨h4, h5⟩, h6⟩
    rw [Int.toNat_natCast] at h2 h3
    refine ⟨⟨h2, h6 _ (List.mem_cons_self ..)⟩, h3, h5, fun x hx hm => ?_⟩
    rcases List.mem_append.1 hm with h7 | h7
    · exact h6 x (List.mem_cons_of_mem _ hx) h7
    · rw [List.mem_singleton] at h7; subst h7; exact h4 hx
  · rintro ⟨⟨h1, h2⟩, h3, h4, h5⟩
    refine ⟨⟨by omega, by rw [Int.toNat_natCast]; exact h1, by rw [Int.toNat_natCast]; exact h3⟩, ⟨fun h => h5 _ h (by simp), h4⟩, fun x hx hm => ?_⟩
    rcases List.mem_cons.1 hx with rfl | hx
    · exact h2 hm
    · exact h5 x hx (List.mem_append_left _ hm)
theorem flw_spec {n : Nat} {bs : List Bd} (hv : Vld n bs) (to : Int) : ∀ (c : Nat) (path met : List Int) (o : Option (List Int)), met ≠ [] → met.Nodup → (∀ x ∈ met, 0 ≤ x ∧ x < n) → met.length + c = n + 1 →
    (∀ q, Cmp bs to met q → ∃ b, flwP bs to c path met o = some b ∧ bett bs (path ++ q) b = false) ∧ (∀ b0, o = some b0 → ∃ b, flwP bs to c path met o = some b ∧ bett bs b0 b = false) ∧
    (flwP bs to c path met o = o ∨ ∃ q, Cmp bs to met q ∧ flwP bs to c path met o = some (path ++ q)) := by
  intro c
  induction c with
  | zero => intro path met o h1 h2 h3 h4; have := nodup_le h2 h3; omega
  | succ c ih =>
    intro path met o h1 h2 h3 h4
    rw [flwP]
    by_cases ct : lst met = to
    · rw [if_pos ct]
      have hq : ∀ q, Cmp bs to met q → q = [] := fun q hq => by
        refine Classical.byContradiction fun hn => ?_
        have := end_mem hq.1 hn
        exact hq.2.2 _ this (by rw [← ct]; exact lst_mem h1)
      have h0 : Cmp bs to met [] := ⟨ct, by simp [tos], fun x hx => by simp [tos] at hx⟩
      cases o with
      | none => exact ⟨fun q hc => ⟨path, rfl, by rw [hq q hc, List.append_nil]; exact bett_refl _ _⟩, fun b0 h => (by cases h), .inr ⟨[], h0, by rw [List.append_nil]; rfl⟩⟩
      | some b =>
        rw [show flwE bs path (some b) = if bett bs path b then some path else some b from rfl]
        by_cases cb : bett bs path b = true
        · rw [if_pos cb]
          exact ⟨fun q hc => ⟨path, rfl, by rw [hq q hc, List.append_nil]; exact bett_refl _ _⟩, fun b0 h => by cases h; exact ⟨path, rfl, bett_asym cb⟩, .inr ⟨[], h0, by rw [List.append_nil]⟩⟩
        · rw [if_neg cb]
          exact ⟨fun q hc => ⟨b, rfl, by rw [hq q hc, List.append_nil]; simpa using cb⟩, fun b0 h => by cases h; exact ⟨b, rfl, bett_refl _ _⟩, .inl rfl⟩
    · rw [if_neg ct]
      generalize hg : (fun (o : Option (List Int)) (i : Nat) => if (bg bs i).fr = lst met ∧ (bg bs i).to ∉ met then flwP bs to c (path ++ [(i : Int)]) (met ++ [(bg bs i).to]) o else o) = g
      have main : ∀ k, k ≤ bs.length →
          (∀ (i : Nat) q, i < k → Cmp bs to met ((i : Int) :: q) → ∃ b, (List.range k).foldl g o = some b ∧ bett bs (path ++ (i : Int) :: q) b = false) ∧ (∀ b0, o = some b0 → ∃ b, (List.range k).foldl g o = some b ∧ bett bs b0 b = false) ∧
          ((List.range k).foldl g o = o ∨ ∃ q, Cmp bs to met q ∧ (List.range k).foldl g o = some (path ++ q)) := by
        intro k
        induction k with
        | zero => intro _; exact ⟨fun i q h => by omega, fun b0 h => ⟨b0, h, bett_refl _ _⟩, .inl rfl⟩
        | succ k ihk =>
          intro hk
          obtain ⟨k1, k2, k3⟩ := ihk (by omega)
          rw [List.range_succ, List.foldl_append, List.foldl_cons, List.foldl_nil]
          generalize (List.range k).foldl g o = r at *
          by_cases cc : (bg bs k).fr = lst met ∧ (bg bs k).to ∉ met
          · have hgk : g r k = flwP bs to c (path ++ [(k : Int)]) (met ++ [(bg bs k).to]) r := by rw [← hg]; exact if_pos cc
            have hok := hv.ok k (by omega)
            unfold Bd.ok at hok
            obtain ⟨j1, j2, j3⟩ := ih (path ++ [(k : Int)]) (met ++ [(bg bs k).to]) r (by simp) (by
              rw [List.nodup_append]
              exact ⟨h2, by simp, fun a ha b hb => by rw [List.mem_singleton] at hb; subst hb; rintro rfl; exact cc.2 ha⟩) (fun x hx => by
              rcases List.mem_append.1 hx with h | h
              · exact h3 x h
              · rw [List.mem_singleton] at h; subst h; omega) (by simp; omega)
            rw [hgk]
            have ea : ∀ q, path ++ [(k : Int)] ++ q = path ++ (k : Int) :: q := fun q => by simp
            have keep : ∀ x, (∃ b, r = some b ∧ bett bs x b = false) → ∃ b, flwP bs to c (path ++ [(k : Int)]) (met ++ [(bg bs k).to]) r = some b ∧ bett bs x b = false := by
              rintro x ⟨b, hb1, hb2⟩
              obtain ⟨b', hb3, hb4⟩ := j2 b hb1
              exact ⟨b', hb3, bett_trans hb2 hb4⟩
            refine ⟨fun i q hi hq => ?_, fun b0 h => keep _ (k2 b0 h), ?_⟩
            · by_cases ci : i = k
              · subst ci
                obtain ⟨b, hb1, hb2⟩ := j1 q ((Cmp.cons (by omega)).1 hq).2
                exact ⟨b, hb1, by rw [← ea]; exact hb2⟩
              · exact keep _ (k1 i q (by omega) hq)
            · rcases j3 with j3 | ⟨q, j3, j4⟩
              · rw [j3]; exact k3
              · exact .inr ⟨(k : Int) :: q, (Cmp.cons (by omega)).2 ⟨cc, j3⟩, by rw [j4, ea]⟩
          · have hgk : g r k = r := by rw [← hg]; exact if_neg cc
            rw [hgk]
            refine ⟨fun i q hi hq => ?_, k2, k3⟩
            by_cases ci : i = k
            · subst ci; exact absurd ((Cmp.cons (by omega)).1 hq).1 cc
            · exact k1 i q (by omega) hq
      obtain ⟨m1, m2, m3⟩ := main bs.length (Nat.le_refl _)
      refine ⟨fun q hq => ?_, m2, m3⟩
      cases q with
      | nil => exact absurd hq.1 ct
      | cons i q =>
        obtain ⟨⟨b1, _⟩, _⟩ := id hq
        have hi : ((i.toNat : Nat) : Int) = i := by omega
        rw [← hi] at hq ⊢
        exact m1 i.toNat q (by omega) hq
section
variable {n : Nat} {bs : List Bd} (hv : Vld n bs) {a b : Nat} (ha : a < n) (hb : b < n)
include hv ha hb
theorem Cmp.short {q : List Int} (h : Cmp bs (b : Int) [(a : Int)] q) : Wlk bs a q b ∧ q.length < n := by
  obtain ⟨h1, h2, h3⟩ := h
  refine ⟨h1, ?_⟩
  have h4 : ((a : Int) :: tos bs q).Nodup := List.nodup_cons.2 ⟨fun h => h3 _ h (by simp), h2⟩
  have h5 := nodup_le (n := n) h4 (fun x hx => by
    rcases List.mem_cons.1 hx with rfl | hx
    · omega
    · exact tos_in hv h1 x hx)
  simp [tos] at h5; omega
omit ha in
theorem short_simple (hs : HasSol bs) {k : Nat} {d : Int} {r : List Int} (hr : r.length = k) (hw : Wlk bs a r b) (hd : lenP bs r = d) (hmin : ∀ j e, j < k → ol (tabP n bs b j) a = some e → d < e) : Cmp bs (b : Int) [(a : Int)] r := by
  have cut : ∀ p c s w, r = p ++ c ++ s → c ≠ [] → Wlk bs a p w → Wlk bs w c w → Wlk bs w s b → False := by
    intro p c s w he hc w1 w2 w3
    have hlc : 0 < c.length := List.length_pos_iff.2 hc
    have hnn : ¬ lenP bs c < 0 := fun h => (show Neg bs c.length c from ⟨rfl, h, w, w2⟩).no hs
    obtain ⟨e, e1, e2⟩ := tab_le hv hb (p ++ s).length a (p ++ s) rfl (Wlk.app.2 ⟨w, w1, w3⟩)
    have h5 := hmin _ e (by rw [he] at hr; simp only [List.length_append] at hr ⊢; omega) e1
    rw [he, lenP_app, lenP_app] at hd
    rw [lenP_app] at e2; omega
  have hn : (frs bs r ++ [(b : Int)]).Nodup := by
    rw [List.nodup_append]
    refine ⟨?_, by simp, ?_⟩
    · refine Classical.byContradiction fun h => ?_
      obtain ⟨p, c, s, w, h1, h2, h3, h4, h5, h6⟩ := frs_split h hw
      exact cut p c s w h1 h2 h4 h5 h6
    · intro x hx y hy he
      rw [List.mem_singleton] at hy
      subst he; subst hy
      unfold frs at hx
      obtain ⟨i, hi, he⟩ := List.mem_map.1 hx
      obtain ⟨p, s, rfl⟩ := List.append_of_mem hi
      obtain ⟨w, w1, w2⟩ := Wlk.app.1 hw
      have hwb : w = b := by rw [← w2.2.1]; exact he
      subst hwb
      exact cut p (i :: s) [] b (by simp) (by simp) w1 w2 rfl
  rw [← frs_tos hw, List.nodup_cons] at hn
  exact ⟨hw, hn.2, fun x hx hm => by rw [List.mem_singleton] at hm; subst hm; exact hn.1 hx⟩
theorem most_same (hs : HasSol bs) : (mostK n bs a b = none ∧ flwP bs b n [] [(a : Int)] none = none) ∨
    ∃ k, mostK n bs a b = some k ∧ flwP bs b n [] [(a : Int)] none = some (fstP bs (tabL n bs b n) (fun x => decide (x = mostD n bs a b k)) k a 0 []) ∧ lenP bs (fstP bs (tabL n bs b n) (fun x => decide (x = mostD n bs a b k)) k a 0 []) = mostD n bs a b k ∧
      Cmp bs (b : Int) [(a : Int)] (fstP bs (tabL n bs b n) (fun x => decide (x = mostD n bs a b k)) k a 0 []) ∧ ∀ q, q.length < n → Wlk bs a q b → mostD n bs a b k ≤ lenP bs q := by
  obtain ⟨f1, _, f3⟩ := flw_spec hv (b : Int) n [] [(a : Int)] none (by simp) (by simp) (fun x hx => by rw [List.mem_singleton] at hx; subst hx; omega) (by simp; omega)
  rcases mostK_spec n bs a b with ⟨h1, h2⟩ | ⟨k, d, h1, h2, h3, h4⟩
  · refine .inl ⟨h1, ?_⟩
    rcases f3 with f3 | ⟨q, q1, _⟩
    · exact f3
    · obtain ⟨q2, q3⟩ := q1.short hv ha hb
      obtain ⟨e, e1, _⟩ := tab_le hv hb q.length a q rfl q2
      rw [h2 _ q3] at e1; cases e1
  · have hD : mostD n bs a b k = d := by unfold mostD; rw [h3]; rfl
    have hall : ∀ q, q.length < n → Wlk bs a q b → d ≤ lenP bs q ∧ (q.length < k → d < lenP bs q) := fun q hq hw => by
      obtain ⟨e, e1, e2⟩ := tab_le hv hb q.length a q rfl hw
      have := h4 _ e hq e1
      exact ⟨by omega, fun h => by have := this.2 h; omega⟩
    have hr : ∃ r, fstP bs (tabL n bs b n) (fun x => decide (x = d)) k a 0 [] = r ∧ r.length = k ∧ Wlk bs a r b ∧ lenP bs r = d ∧ ∀ m, m.length = k → Wlk bs a m b → lenP bs m = d → cmpL r m ≤ 0 := by
      by_cases hk : k = 0
      · subst hk
        obtain ⟨l, l1, l2, l3⟩ := tab_some hv hb 0 a d h3
        obtain rfl := List.eq_nil_of_length_eq_zero l1
        refine ⟨[], rfl, rfl, l2, l3, fun m hm _ _ => ?_⟩
        obtain rfl := List.eq_nil_of_length_eq_zero hm
        exact Int.le_refl _
      · have hG : GoodW bs a b k (fun x => decide (x = d)) := fun p q q' u hl hq w1 w2 w3 hle hg => by
          have hg2 : lenP bs p + lenP bs q = d := of_decide_eq_true hg
          have := hall (p ++ q') (by rw [List.length_append]; omega) (Wlk.app.2 ⟨u, w1, w3⟩)
          rw [lenP_app] at this
          exact decide_eq_true (by omega)
        obtain ⟨l, l1, l2, l3⟩ := tab_some hv hb k a d h3
        rcases fst_spec hv hb (Nat.pos_of_ne_zero hk) (T := tabL n bs b n) (fun r hr => tabL_get (by omega)) (good := fun x => decide (x = d)) (fr := a) ⟨by omega, by omega⟩ hG with ⟨_, g1, g2⟩ | ⟨g1, _⟩
        · exact ⟨_, rfl, g1.1, g1.2.1, of_decide_eq_true g1.2.2, fun m m1 m2 m3 => g2 m ⟨m1, m2, decide_eq_true m3⟩⟩
        · exact absurd ⟨l, l1, l2, decide_eq_true l3⟩ g1
    obtain ⟨r, hr0, hr1, hr2, hr3, hr4⟩ := hr
    have hc := short_simple hv hb hs hr1 hr2 hr3 (fun j e hj he => (h4 j e (by omega) he).2 hj)
    refine .inr ⟨k, h1, ?_, ?_, ?_, fun q h5 h6 => ?_⟩
    · rw [hD, hr0]
      obtain ⟨b', b1, b2⟩ := f1 r hc
      rw [List.nil_append] at b2
      rcases f3 with f3 | ⟨q, q1, q2⟩
      · rw [f3] at b1; cases b1
      · rw [q2] at b1
        cases b1
        rw [List.nil_append] at b2 q2
        obtain ⟨q3, q4⟩ := q1.short hv ha hb
        have h5 := hall q q4 q3
        rw [q2]
        congr 1
        refine (bett_anti b2 ?_).symm
        rw [bett_f, hr3]
        refine ⟨h5.1, fun h6 => ⟨Nat.not_lt.1 fun h7 => by have := h5.2 (by omega); omega, fun h7 => hr4 q (by omega) q3 (by omega)⟩⟩
    · rw [hD, hr0]; exact hr3
    · rw [hD, hr0]; exact hc
    · rw [hD]; exact (hall q h5 h6).1
end
end Go.Proofs.YthggloiigkbfeaaGreat
namespace Go.Proofs.YthggloiigkbfeaaGreat
open W Go.RowKit
def mst (n : Int) (bs : List Bd) (a b : Int) : Int × List Int × Int :=
  if validB n bs = true ∧ (0 ≤ a ∧ a < n) ∧ 0 ≤ b ∧ b < n then (match greatP n.toNat bs with
    | none => (0, cycP n.toNat bs, 14)
    | some _ => match mostK n.toNat bs a.toNat b.toNat with
      | none => (0, [], 6)
      | some k => (mostD n.toNat bs a.toNat b.toNat k, fstP bs (tabL n.toNat bs b.toNat n.toNat) (fun x => decide (x = mostD n.toNat bs a.toNat b.toNat k)) k a 0 [], 0))
  else (0, [], 1)
def IsMo (D : Nat) (s : Int × List Int × Int) : RPost := fun v b G => ∃ m uc, v = .tuple #[qv m, uc, .int .i64 s.2.2] ∧ b = [] ∧ G = [isQ (qv m) (wq D s.1), sI uc s.2.1]
def mI : Option Nat → Int
  | none => -1
  | some j => j
theorem W.Has.mTsnoc {D : Nat} {F : List Fct} {us : Nat → Value} {mss : Nat → Nat → QM} {Tb : List (List (Option Int))} {u : Value} {ml : Nat → QM} {L : List (Option Int)} {k : Nat} (hk : Tb.length = k) (h : Has F (mT D us mss Tb)) (hu : Has F (fL D u ml L)) : Has F (mT D (upd us k u) (upd mss k ml) (Tb ++ [L])) := fun p hf i hi => by
  rw [List.length_append, List.length_singleton] at hi
  by_cases c : i = k
  · subst c; rw [upd_at, upd_at]
    have : (Tb ++ [L]).getD i [] = L := by simp [List.getD_eq_getElem?_getD, ← hk]
    rw [this]; exact hu p hf
  · rw [upd_ne c, upd_ne c]
    have : (Tb ++ [L]).getD i [] = Tb.getD i [] := by simp only [List.getD_eq_getElem?_getD]; rw [List.getElem?_append_left (by omega)]
    rw [this]; exact h p hf i (by omega)
section
variable {D : Nat} {F : List Fct} {us : Nat → Value} {mss : Nat → Nat → QM} {n b m k : Nat} {bs : List Bd} {u : Value} {ml : Nat → QM}
theorem W.Has.tabG (h : Has F (mT D us mss (tabL n bs b m))) (hk : k < m) : Has F (fL D (us k) (mss k) (tabP n bs b k)) := by
  have := W.Has.tl h (k := k) (by rw [tabL_len]; exact hk)
  rwa [tabL_get hk] at this
theorem W.Has.tabS (h : Has F (mT D us mss (tabL n bs b m))) (hu : Has F (fL D u ml (tabP n bs b m))) : Has F (mT D (upd us m u) (upd mss m ml) (tabL n bs b (m + 1))) := by
  rw [tabL_succ]; exact W.Has.mTsnoc (tabL_len _ _ _ _) h hu
theorem W.Has.tab1 (hu : Has F (fL D u ml (endP n b))) : Has F (mT D (fun _ => u) (fun _ => ml) (tabL n bs b (0 + 1))) := fun p hf i hi => by
  obtain rfl : i = 0 := by rw [tabL_len] at hi; omega
  rw [tabL_get (by omega)]; exact hu p hf
end
namespace H
open G
attribute [local irreducible] WC WL WD YO LO LoopEnd W.Fin Scalar SliceT FieldAt Row ArrT AllocT KnS Has W.One SrcE IntT
theorem d19 {G G' : Prop} (h : G') (s : Bx G' → G := by
  intro h
  first | (apply WC.draw (id := 11) [0, 1, 2, 3, 4, 5] (.held 0 (.held 1 (.held 2 (.held 3 (.held 4 (.held 5 (.loud 6 (.loud 7 (.loud 8 (.free 9 (.done))))))))))) mixed (by kernel_rfl)) | (apply WC.draw (id := 17) [0, 1, 2, 3, 4, 5, 6, 7, 8, 9, 10, 11, 12, 13, 14, 15, 16, 17, 18, 19, 20, 21, 23, 24, 25] (.held 0 (.held 1 (.held 2 (.held 3 (.held 4 (.held 5 (.held 6 (.held 7 (.held 8 (.held 9 (.held 10 (.held 11 (.held 12 (.held 13 (.held 14 (.held 15 (.held 16 (.held 17 (.held 18 (.held 19 (.held 20 (.held 21 (.loud 22 (.held 23 (.held 24 (.held 25 (.done))))))))))))))))))))))))))) mixed (by kernel_rfl)) | (apply WC.draw (id := 23) [0, 1, 2, 3, 4, 5] (.held 0 (.held 1 (.held 2 (.held 3 (.held 4 (.held 5 (.loud 6 (.loud 7 (.free 8 (.free 9 (.done))))))))))) mixed (by kernel_rfl)) | fail
  exact Bx.h h) : G := s ⟨h⟩
set_option maxHeartbeats 4000000 in
set_option maxRecDepth 60000 in
theorem most1_c (D : Nat) [Den D] (m md : QM) (k d : Int) (g : Nat) : FnB Tryz.prog 66 ([qv m] ++ [ptr g]) [] [isQ (qv m) (wq D k), andF (ce g 37 (qcs md)) (isQ (qv md) (wq D d))] (IsV (.bool (decide (k = d)))) := by
  refine fn_of [(0, (qv m)), (1, (ptr g))] 7 Tryz.func66 rfl Tryz.ntmps66 (by kernel_rfl) rfl suA fun h0 => ?_
  refine WC.andF (f := ce g 37 (qcs md)) hmA ?_
  repeat' (first | refine go ?_ | refine goX ?_ | refine goB ?_ | (refine goG ?_; intro g) | (refine goV ?_; intro v))
  first | refine WL.callV (samew_c D m md k d) ?_ | refine WD.callV (samew_c D m md k d) ?_
  repeat' (first | refine go ?_ | refine goX ?_ | refine goB ?_ | (refine goG ?_; intro g) | (refine goV ?_; intro v))
  exact WC.ret (Fin.v (ResE.t1 rfl rfl) meA rfl)
set_option maxHeartbeats 4000000 in
set_option maxRecDepth 60000 in
theorem most_c (D : Nat) [Den D] (vb : Value) (ms : Nat → QM) (bs : List Bd) (n a b : Int) (hf : Fit bs) : FnB Tryz.prog 19 [.int .i64 n, vb, .int .i64 a, .int .i64 b] [] [fB D vb ms bs] (IsMo D (mst n bs a b)) := by
  refine fn_of [(0, (.int .i64 n)), (1, vb), (2, (.int .i64 a)), (3, (.int .i64 b))] 129 Tryz.func19 rfl Tryz.ntmps19 (by kernel_rfl) rfl suA fun h0 => ?_
  have hq0 : ∀ F : List Fct, Has F (isQ (qv m00) (wq D 0)) := fun F => hasQ0w
  repeat' (first | refine go ?_ | refine goX ?_ | refine goB ?_ | (refine goG ?_; intro g) | (refine goV ?_; intro v) | refine goD ?_ | refine goXD ?_ | (refine goDG ?_; intro g) | (refine goDV ?_; intro v) | refine goYL ?_ | refine d19 ?_ | fail)
  first | refine WL.callV (made_c D vb ms bs n) ?_ | refine WD.callV (made_c D vb ms bs n) ?_
  repeat' (first | refine go ?_ | refine goX ?_ | refine goB ?_ | (refine goG ?_; intro g) | (refine goV ?_; intro v) | refine goD ?_ | refine goXD ?_ | (refine goDG ?_; intro g) | (refine goDV ?_; intro v) | refine goYL ?_ | refine d19 ?_ | fail)
  have bad : ¬ (validB n bs = true ∧ (0 ≤ a ∧ a < n) ∧ 0 ≤ b ∧ b < n) → mst n bs a b = (0, [], 1) := fun h => if_neg h
  cases hvb : validB n bs with
  | false =>
    repeat' (first | refine go ?_ | refine goX ?_ | refine goB ?_ | (refine goG ?_; intro g) | (refine goV ?_; intro v) | refine goD ?_ | refine goXD ?_ | (refine goDG ?_; intro g) | (refine goDV ?_; intro v) | refine goYL ?_ | refine d19 ?_ | fail)
    exact WC.ret (Fin.p [] [isQ (qv m00) (wq D 0), sI (.slice none 0 0) []] (ResE.c3 rfl rfl meA T.r37 rfl rfl rfl) meA (List.nil_sublist _) (.cons (hq0 _) (.cons nil0 .nil)) (by rw [bad (by rw [hvb]; simp)]; exact ⟨m00, _, rfl, rfl, rfl⟩))
  | true =>
    by_cases c1 : a < 0
    · repeat' (first | refine go ?_ | refine goX ?_ | refine goB ?_ | (refine goG ?_; intro g) | (refine goV ?_; intro v) | refine goD ?_ | refine goXD ?_ | (refine goDG ?_; intro g) | (refine goDV ?_; intro v) | refine goYL ?_ | refine d19 ?_ | fail)
      exact WC.ret (Fin.p [] [isQ (qv m00) (wq D 0), sI (.slice none 0 0) []] (ResE.c3 rfl rfl meA T.r37 rfl rfl rfl) meA (List.nil_sublist _) (.cons (hq0 _) (.cons nil0 .nil)) (by rw [bad (by omega)]; exact ⟨m00, _, rfl, rfl, rfl⟩))
    by_cases c2 : n ≤ a
    · repeat' (first | refine go ?_ | refine goX ?_ | refine goB ?_ | (refine goG ?_; intro g) | (refine goV ?_; intro v) | refine goD ?_ | refine goXD ?_ | (refine goDG ?_; intro g) | (refine goDV ?_; intro v) | refine goYL ?_ | refine d19 ?_ | fail)
      exact WC.ret (Fin.p [] [isQ (qv m00) (wq D 0), sI (.slice none 0 0) []] (ResE.c3 rfl rfl meA T.r37 rfl rfl rfl) meA (List.nil_sublist _) (.cons (hq0 _) (.cons nil0 .nil)) (by rw [bad (by omega)]; exact ⟨m00, _, rfl, rfl, rfl⟩))
    by_cases c3 : b < 0
    · repeat' (first | refine go ?_ | refine goX ?_ | refine goB ?_ | (refine goG ?_; intro g) | (refine goV ?_; intro v) | refine goD ?_ | refine goXD ?_ | (refine goDG ?_; intro g) | (refine goDV ?_; intro v) | refine goYL ?_ | refine d19 ?_ | fail)
      exact WC.ret (Fin.p [] [isQ (qv m00) (wq D 0), sI (.slice none 0 0) []] (ResE.c3 rfl rfl meA T.r37 rfl rfl rfl) meA (List.nil_sublist _) (.cons (hq0 _) (.cons nil0 .nil)) (by rw [bad (by omega)]; exact ⟨m00, _, rfl, rfl, rfl⟩))
    by_cases c4 : n ≤ b
    · repeat' (first | refine go ?_ | refine goX ?_ | refine goB ?_ | (refine goG ?_; intro g) | (refine goV ?_; intro v) | refine goD ?_ | refine goXD ?_ | (refine goDG ?_; intro g) | (refine goDV ?_; intro v) | refine goYL ?_ | refine d19 ?_ | fail)
      exact WC.ret (Fin.p [] [isQ (qv m00) (wq D 0), sI (.slice none 0 0) []] (ResE.c3 rfl rfl meA T.r37 rfl rfl rfl) meA (List.nil_sublist _) (.cons (hq0 _) (.cons nil0 .nil)) (by rw [bad (by omega)]; exact ⟨m00, _, rfl, rfl, rfl⟩))
    obtain ⟨n, rfl, hv⟩ := Vld.of hvb
    obtain ⟨a, rfl⟩ : ∃ k : Nat, a = k := ⟨a.toNat, by omega⟩
    obtain ⟨b, rfl⟩ : ∃ k : Nat, b = k := ⟨b.toNat, by omega⟩
    have hn1 := hv.n1
    have hn2 := hv.n2
    have hs : mst (n : Int) bs a b = (match greatP n bs with
      | none => (0, cycP n bs, 14)
      | some _ => match mostK n bs a b with
        | none => (0, [], 6)
        | some k => (mostD n bs a b k, fstP bs (tabL n bs b n) (fun x => decide (x = mostD n bs a b k)) k a 0 [], 0)) := by
      unfold mst; rw [if_pos ⟨hvb, by omega⟩]; rfl
    repeat' (first | refine go ?_ | refine goX ?_ | refine goB ?_ | (refine goG ?_; intro g) | (refine goV ?_; intro v) | refine goD ?_ | refine goXD ?_ | (refine goDG ?_; intro g) | (refine goDV ?_; intro v) | refine goYL ?_ | refine d19 ?_ | fail)
    first | refine WL.callK (greatest_c D vb ms bs n hv hf) ?_ | refine WD.callK (greatest_c D vb ms bs n hv hf) ?_ | refine LO.callM (greatest_c D vb ms bs n hv hf) ?_
    rintro rv bb GG hG
    unfold IsGr at hG
    cases hgr : greatP n bs with
    | none =>
      rw [hgr] at hG hs
      obtain ⟨rfl, rfl, rfl⟩ := hG
      simp only [List.nil_append]
      repeat' (first | refine go ?_ | refine goX ?_ | refine goB ?_ | (refine goG ?_; intro g) | (refine goV ?_; intro v) | refine goD ?_ | refine goXD ?_ | (refine goDG ?_; intro g) | (refine goDV ?_; intro v) | refine goYL ?_ | refine d19 ?_ | fail)
      first | refine WL.callO (cycle_c D vb ms bs n hv hf) (fun rv => ?_) | refine WD.callO (cycle_c D vb ms bs n hv hf) (fun rv => ?_)
      repeat' (first | refine go ?_ | refine goX ?_ | refine goB ?_ | (refine goG ?_; intro g) | (refine goV ?_; intro v) | refine goD ?_ | refine goXD ?_ | (refine goDG ?_; intro g) | (refine goDV ?_; intro v) | refine goYL ?_ | refine d19 ?_ | fail)
      refine WC.freezeI (l := cycP n bs) (v := rv) (el := 3) (by repeat (first | exact Sel.head | apply Sel.tail)) ?_
      exact WC.ret (Fin.p [] [isQ (qv m00) (wq D 0), sI rv (cycP n bs)] (ResE.c3 rfl rfl meA T.r37 rfl rfl rfl) meA (List.nil_sublist _) (.cons (hq0 _) sfA) (by rw [hs]; exact ⟨m00, _, rfl, rfl, rfl⟩))
    | some x =>
      rw [hgr] at hG hs
      obtain ⟨u, mx, rfl, rfl, rfl⟩ := hG
      simp only [List.nil_append, List.cons_append]
      repeat' (first | refine go ?_ | refine goX ?_ | refine goB ?_ | (refine goG ?_; intro g) | (refine goV ?_; intro v) | refine goD ?_ | refine goXD ?_ | (refine goDG ?_; intro g) | (refine goDV ?_; intro v) | refine goYL ?_ | refine d19 ?_ | fail)
      first | refine WL.callK (ends_c D vb n b (by omega) (by omega)) ?_ | refine WD.callK (ends_c D vb n b (by omega) (by omega)) ?_ | refine LO.callM (ends_c D vb n b (by omega) (by omega)) ?_
      rintro tw _ _ ⟨u0, ml0, rfl, rfl⟩
      simp only [List.nil_append, List.cons_append]
      rw [show ([u0] : List Value) = tcells (0 + 1) (fun _ => u0) from rfl]
      repeat' (first | refine go ?_ | refine goX ?_ | refine goB ?_ | (refine goG ?_; intro g) | (refine goV ?_; intro v) | refine goD ?_ | refine goXD ?_ | (refine goDG ?_; intro g) | (refine goDV ?_; intro v) | refine goYL ?_ | refine d19 ?_ | fail)
      revert g; intro g11; revert g; intro g8
      refine WC.lp (σ := Nat × Value × (Nat → Value) × (Nat → Nat → QM)) (fun s => [(63, .int .i64 (s.1 : Int)), (62, .int .i64 ((n : Int) - 1)), (15, s.2.1), (11, ptr g11), (8, ptr g8), (2, .int .i64 a), (3, .int .i64 b)])
        (fun s => [Ow.slice s.2.1 111 1 (tcells (s.1 + 1) s.2.2.1), Ow.cells g11 103 [.int .i64 n, vb], Ow.cells g8 37 [.bool false, .slice none 0 0, .bool false, .slice none 0 0]])
        (fun s => [mT D s.2.2.1 s.2.2.2 (tabL n bs b (s.1 + 1)), ge h0, fB D vb ms bs]) (fun s => s.1 + 1 ≤ n) (fun s => n - s.1) (0, tw, fun _ => u0, fun _ => ml0) hn1 ?_ suA slA (.cons (W.Has.tab1 hmA) sfA)
      rintro ⟨k, tb, us, mss⟩ hk
      simp only at hk ⊢
      by_cases c : k + 1 < n
      · have hkS := tabP_wth n bs b k
        have hkS2 : k * absS bs ≤ 32 * 14000000 := Nat.mul_le_mul (by omega) hf
        refine WC.fact (fL D (us k) (mss k) (tabP n bs b k)) (W.Has.tabG (us := us) (m := k + 1) hmA (by omega)) ?_
        repeat' (first | refine go ?_ | refine goX ?_ | refine goB ?_ | (refine goG ?_; intro g) | (refine goV ?_; intro v) | refine goD ?_ | refine goXD ?_ | (refine goDG ?_; intro g) | (refine goDV ?_; intro v) | refine goYL ?_ | refine d19 ?_ | fail)
        first | refine WL.callK (longer_c D vb (us k) ms (mss k) bs n (tabP n bs b k) hv hf (tabP_len n bs b k) (k * absS bs) (by omega) hkS) ?_ | refine WD.callK (longer_c D vb (us k) ms (mss k) bs n (tabP n bs b k) hv hf (tabP_len n bs b k) (k * absS bs) (by omega) hkS) ?_ | refine LO.callM (longer_c D vb (us k) ms (mss k) bs n (tabP n bs b k) hv hf (tabP_len n bs b k) (k * absS bs) (by omega) hkS) ?_
        rintro u' _ _ ⟨ml, rfl, rfl⟩
        simp only [List.nil_append, List.cons_append]
        repeat' (first | refine go ?_ | refine goX ?_ | refine goB ?_ | (refine goG ?_; intro g) | (refine goV ?_; intro v) | refine goD ?_ | refine goXD ?_ | (refine goDG ?_; intro g) | (refine goDV ?_; intro v) | refine goYL ?_ | refine d19 ?_ | fail)
        exact LoopEnd.mk (k + 1, v, upd us (k + 1) u', upd mss (k + 1) ml) (by show k + 1 + 1 ≤ n; omega) (by show n - (k + 1) < n - k; omega) suA slA (.cons (W.Has.tabS hmA hmA) sfA)
      · obtain rfl : n = k + 1 := by omega
        repeat' (first | refine go ?_ | refine goX ?_ | refine goB ?_ | (refine goG ?_; intro g) | (refine goV ?_; intro v) | refine goD ?_ | refine goXD ?_ | (refine goDG ?_; intro g) | (refine goDV ?_; intro v) | refine goYL ?_ | refine d19 ?_ | fail)
        generalize hN : k + 1 = n at *
        have hwt : ∀ j, j < n → ((ol (tabP n bs b j) a).getD 0).natAbs ≤ 33 * 14000000 := fun j hj => Nat.le_trans (tabP_wth n bs b j a) (Nat.mul_le_mul (by omega) hf)
        have htl : ∀ j, (tabP n bs b j).length = n := fun j => tabP_len n bs b j
        refine WC.lp (σ := Nat × Option Nat) (fun s => [(78, .int .i64 (s.1 : Int)), (77, .int .i64 (n : Int)), (76, tb), (17, .int .i64 (mI s.2)), (15, tb), (11, ptr g11), (8, ptr g8), (2, .int .i64 a)])
          (fun _ => [Ow.slice tb 111 1 (tcells n us), Ow.cells g11 103 [.int .i64 n, vb], Ow.cells g8 37 [.bool false, .slice none 0 0, .bool false, .slice none 0 0]])
          (fun _ => [mT D us mss (tabL n bs b n), ge h0, fB D vb ms bs]) (fun s => s.1 ≤ n ∧ s.2 = (List.range s.1).foldl (mostS (fun k => ol (tabP n bs b k) a)) none ∧ ∀ j, s.2 = some j → j < n) (fun s => n - s.1) (0, none) ⟨Nat.zero_le _, rfl, fun j h => by cases h⟩ ?_
        rintro ⟨i, o⟩ ⟨hi, ho, hoj⟩
        simp only at hi ho hoj ⊢
        by_cases ci : i < n
        · have hstep : (List.range (i + 1)).foldl (mostS (fun k => ol (tabP n bs b k) a)) none = mostS (fun k => ol (tabP n bs b k) a) o i := by rw [List.range_succ, List.foldl_append, ← ho]; rfl
          have hwi := hwt i ci
          have hli := htl i
          refine WC.fact (fL D (us i) (mss i) (tabP n bs b i)) (W.Has.tabG (us := us) (m := n) hmA ci) ?_
          refine WC.fact (isQ (qv (mss i a)) (wq D (((tabP n bs b i).getD a none).getD 0))) (W.Has.lq (ms := mss i) (W.Has.lm (v := us i) hmA) (by omega)) ?_
          cases o with
          | none =>
            rw [show mI none = -1 from rfl]
            repeat' (first | refine go ?_ | refine goX ?_ | refine goB ?_ | (refine goG ?_; intro g) | (refine goV ?_; intro v) | refine goD ?_ | refine goXD ?_ | (refine goDG ?_; intro g) | (refine goDV ?_; intro v) | refine goYL ?_ | refine d19 ?_ | fail)
            cases he : (tabP n bs b i).getD a none with
            | none =>
              have h1 : mostS (fun k => ol (tabP n bs b k) a) (none) i = none := by unfold mostS; simp only [ol]; rw [he]
              rw [h1] at hstep
              rw [show (none : Option Int).isSome = false from rfl]
              repeat' (first | refine go ?_ | refine goX ?_ | refine goB ?_ | (refine goG ?_; intro g) | (refine goV ?_; intro v) | refine goD ?_ | refine goXD ?_ | (refine goDG ?_; intro g) | (refine goDV ?_; intro v) | refine goYL ?_ | refine d19 ?_ | fail)
              exact LoopEnd.mk (i + 1, none) ⟨by show i + 1 ≤ n; omega, hstep.symm, hoj⟩ (by show n - (i + 1) < n - i; omega)
            | some d =>
              rw [show (some d : Option Int).isSome = true from rfl]
              unfold ol at hwi
              rw [he] at hwi
              simp only [Option.getD_some] at hwi ⊢
              have h1 : mostS (fun k => ol (tabP n bs b k) a) none i = some i := by unfold mostS; simp only [ol]; rw [he]
              rw [h1] at hstep
              repeat' (first | refine go ?_ | refine goX ?_ | refine goB ?_ | (refine goG ?_; intro g) | (refine goV ?_; intro v) | refine goD ?_ | refine goXD ?_ | (refine goDG ?_; intro g) | (refine goDV ?_; intro v) | refine goYL ?_ | refine d19 ?_ | fail)
              exact LoopEnd.mk (i + 1, some i) ⟨by show i + 1 ≤ n; omega, hstep.symm, fun j h => by cases h; exact ci⟩ (by show n - (i + 1) < n - i; omega)
          | some j =>
            have hj := hoj j rfl
            have hwj := hwt j hj
            have hlj := htl j
            rw [show mI (some j) = (j : Int) from rfl]
            refine WC.fact (fL D (us j) (mss j) (tabP n bs b j)) (W.Has.tabG (us := us) (m := n) hmA hj) ?_
            refine WC.fact (isQ (qv (mss j a)) (wq D ((ol (tabP n bs b j) a).getD 0))) (W.Has.lq (ms := mss j) (W.Has.lm (v := us j) hmA) (by omega)) ?_
            repeat' (first | refine go ?_ | refine goX ?_ | refine goB ?_ | (refine goG ?_; intro g) | (refine goV ?_; intro v) | refine goD ?_ | refine goXD ?_ | (refine goDG ?_; intro g) | (refine goDV ?_; intro v) | refine goYL ?_ | refine d19 ?_ | fail)
            cases he : (tabP n bs b i).getD a none with
            | none =>
              have h1 : mostS (fun k => ol (tabP n bs b k) a) (some j) i = some j := by unfold mostS; simp only [ol]; rw [he]
              rw [h1] at hstep
              rw [show (none : Option Int).isSome = false from rfl]
              repeat' (first | refine go ?_ | refine goX ?_ | refine goB ?_ | (refine goG ?_; intro g) | (refine goV ?_; intro v) | refine goD ?_ | refine goXD ?_ | (refine goDG ?_; intro g) | (refine goDV ?_; intro v) | refine goYL ?_ | refine d19 ?_ | fail)
              exact LoopEnd.mk (i + 1, some j) ⟨by show i + 1 ≤ n; omega, hstep.symm, hoj⟩ (by show n - (i + 1) < n - i; omega)
            | some d =>
              rw [show (some d : Option Int).isSome = true from rfl]
              unfold ol at hwi
              rw [he] at hwi
              simp only [Option.getD_some] at hwi ⊢
              repeat' (first | refine go ?_ | refine goX ?_ | refine goB ?_ | (refine goG ?_; intro g) | (refine goV ?_; intro v) | refine goD ?_ | refine goXD ?_ | (refine goDG ?_; intro g) | (refine goDV ?_; intro v) | refine goYL ?_ | refine d19 ?_ | fail)
              first | refine WL.callV (cmpw_c D (mss i a) (mss j a) d ((ol (tabP n bs b j) a).getD 0) (by unfold Lim; omega) (by unfold Lim; omega)) ?_ | refine WD.callV (cmpw_c D (mss i a) (mss j a) d ((ol (tabP n bs b j) a).getD 0) (by unfold Lim; omega) (by unfold Lim; omega)) ?_
              by_cases hlt : d < (ol (tabP n bs b j) a).getD 0
              · have h1 : mostS (fun k => ol (tabP n bs b k) a) (some j) i = some i := by unfold mostS; simp only [ol]; rw [he]; exact if_pos hlt
                rw [h1] at hstep
                rw [cmpI_lt hlt]
                repeat' (first | refine go ?_ | refine goX ?_ | refine goB ?_ | (refine goG ?_; intro g) | (refine goV ?_; intro v) | refine goD ?_ | refine goXD ?_ | (refine goDG ?_; intro g) | (refine goDV ?_; intro v) | refine goYL ?_ | refine d19 ?_ | fail)
                exact LoopEnd.mk (i + 1, some i) ⟨by show i + 1 ≤ n; omega, hstep.symm, fun j h => by cases h; exact ci⟩ (by show n - (i + 1) < n - i; omega)
              · have h1 : mostS (fun k => ol (tabP n bs b k) a) (some j) i = some j := by unfold mostS; simp only [ol]; rw [he]; exact if_neg hlt
                rw [h1] at hstep
                have h2 : 0 ≤ cmpI d ((ol (tabP n bs b j) a).getD 0) := by unfold cmpI; rw [if_neg hlt]; split <;> omega
                repeat' (first | refine go ?_ | refine goX ?_ | refine goB ?_ | (refine goG ?_; intro g) | (refine goV ?_; intro v) | refine goD ?_ | refine goXD ?_ | (refine goDG ?_; intro g) | (refine goDV ?_; intro v) | refine goYL ?_ | refine d19 ?_ | fail)
                exact LoopEnd.mk (i + 1, some j) ⟨by show i + 1 ≤ n; omega, hstep.symm, hoj⟩ (by show n - (i + 1) < n - i; omega)
        · obtain rfl : n = i := by omega
          cases o with
          | none =>
            rw [show mI none = -1 from rfl]
            rw [show mostK n bs a b = none from ho.symm] at hs
            repeat' (first | refine go ?_ | refine goX ?_ | refine goB ?_ | (refine goG ?_; intro g) | (refine goV ?_; intro v) | refine goD ?_ | refine goXD ?_ | (refine goDG ?_; intro g) | (refine goDV ?_; intro v) | refine goYL ?_ | refine d19 ?_ | fail)
            exact WC.ret (Fin.p [] [isQ (qv m00) (wq D 0), sI (.slice none 0 0) []] (ResE.c3 rfl rfl meA T.r37 rfl rfl rfl) meA (List.nil_sublist _) (.cons (hq0 _) (.cons nil0 .nil)) (by rw [hs]; exact ⟨m00, _, rfl, rfl, rfl⟩))
          | some j =>
            have hj := hoj j rfl
            have hwj := hwt j hj
            have hlj := htl j
            rw [show mI (some j) = (j : Int) from rfl]
            rw [show mostK n bs a b = some j from ho.symm] at hs
            refine WC.fact (fL D (us j) (mss j) (tabP n bs b j)) (W.Has.tabG (us := us) (m := n) hmA hj) ?_
            refine WC.fact (isQ (qv (mss j a)) (wq D (mostD n bs a b j))) (W.Has.lq (ms := mss j) (W.Has.lm (v := us j) hmA) (by omega)) ?_
            repeat' (first | refine go ?_ | refine goX ?_ | refine goB ?_ | (refine goG ?_; intro g) | (refine goV ?_; intro v) | refine goD ?_ | refine goXD ?_ | (refine goDG ?_; intro g) | (refine goDV ?_; intro v) | refine goYL ?_ | refine d19 ?_ | fail)
            revert g; intro g20
            refine WD.callO (hF := .cons (.f hmA) (.cons (HasB.fT (k := n) (el := 111) meA (tabL_len n bs b n) hmA) (.cons (.and (.c meA) (.f hmA)) .nil)))
              (first_c D vb tb ms us mss bs (tabL n bs b n) n hv hf (tabL_ok hf (by omega)) a j (by rw [tabL_len]; omega) (by omega) 66 [ptr g20] (andF (ce g20 37 (qcs (mss j a))) (isQ (qv (mss j a)) (wq D (mostD n bs a b j)))) (fun x => decide (x = mostD n bs a b j)) (fun m k => most1_c D m (mss j a) k _ g20)) (fun rv => ?_)
            repeat' (first | refine go ?_ | refine goX ?_ | refine goB ?_ | (refine goG ?_; intro g) | (refine goV ?_; intro v) | refine goD ?_ | refine goXD ?_ | (refine goDG ?_; intro g) | (refine goDV ?_; intro v) | refine goYL ?_ | refine d19 ?_ | fail)
            generalize hpp : fstP bs (tabL n bs b n) (fun x => decide (x = mostD n bs a b j)) j a 0 [] = pp at *
            refine WC.freezeI (l := pp) (v := rv) (el := 3) (by repeat (first | exact Sel.head | apply Sel.tail)) ?_
            exact WC.ret (Fin.p [] [isQ (qv (mss j a)) (wq D (mostD n bs a b j)), sI rv pp] (ResE.c3 rfl rfl meA T.r37 rfl rfl rfl) meA (List.nil_sublist _) sfA (by rw [hs]; exact ⟨mss j a, _, rfl, rfl, by rw [← hpp]⟩))
end H
end Go.Proofs.YthggloiigkbfeaaGreat
namespace Go.Proofs.YthggloiigkbfeaaGreat
open W Go.RowKit
theorem Vld.valid {n : Nat} {bs : List Bd} (h : Vld n bs) : validB n bs = true := validB_t (by have := h.n1; omega) (by have := h.n2; omega) h.l h.ok
section
variable {n : Nat} {bs : List Bd} (hv : Vld n bs) {a b : Nat} (ha : a < n) (hb : b < n)
include hv ha hb
theorem short_all (hs : HasSol bs) : ∀ (L : Nat) (q : List Int), q.length ≤ L → Wlk bs a q b → ∃ r, r.length < n ∧ Wlk bs a r b ∧ lenP bs r ≤ lenP bs q := by
  intro L
  induction L with
  | zero =>
    intro q hq hw
    exact ⟨q, by have := hv.n1; omega, hw, Int.le_refl _⟩
  | succ L ih =>
    intro q hq hw
    by_cases c : q.length < n
    · exact ⟨q, c, hw, Int.le_refl _⟩
    have cut : ∀ p c s w, q = p ++ c ++ s → c ≠ [] → Wlk bs a p w → Wlk bs w c w → Wlk bs w s b → ∃ r, r.length < n ∧ Wlk bs a r b ∧ lenP bs r ≤ lenP bs q := by
      intro p c s w he hc w1 w2 w3
      have hlc : 0 < c.length := List.length_pos_iff.2 hc
      have hnn : ¬ lenP bs c < 0 := fun h => (show Neg bs c.length c from ⟨rfl, h, w, w2⟩).no hs
      have hl : (p ++ s).length ≤ L := by rw [he] at hq; simp only [List.length_append] at hq ⊢; omega
      obtain ⟨r, r1, r2, r3⟩ := ih (p ++ s) hl (Wlk.app.2 ⟨w, w1, w3⟩)
      refine ⟨r, r1, r2, ?_⟩
      rw [he, lenP_app, lenP_app]
      rw [lenP_app] at r3; omega
    have hn : ¬ (frs bs q ++ [(b : Int)]).Nodup := by
      intro h
      have := nodup_le (n := n) h (fun x hx => by
        rcases List.mem_append.1 hx with hx | hx
        · exact frs_in hv hw x hx
        · rw [List.mem_singleton] at hx; subst hx; omega)
      simp [frs] at this; omega
    by_cases hd : (frs bs q).Nodup
    · have hm : (b : Int) ∈ frs bs q := Classical.byContradiction fun h => hn (List.nodup_append.2 ⟨hd, by simp, fun x hx y hy he => by
        rw [List.mem_singleton] at hy; subst hy; subst he; exact h hx⟩)
      obtain ⟨i, hi, he⟩ := List.mem_map.1 hm
      obtain ⟨p, s, rfl⟩ := List.append_of_mem hi
      obtain ⟨w, w1, w2⟩ := Wlk.app.1 hw
      have hwb : w = b := by rw [← w2.2.1]; exact he
      subst hwb
      exact cut p (i :: s) [] b (by simp) (by simp) w1 w2 rfl
    · obtain ⟨p, c, s, w, h1, h2, h3, h4, h5, h6⟩ := frs_split hd hw
      exact cut p c s w h1 h2 h4 h5 h6
theorem mst_cases : (¬ HasSol bs ∧ (mst n bs a b).1 = 0 ∧ (mst n bs a b).2.2 = 14) ∨ (HasSol bs ∧ mst n bs a b = (0, [], 6) ∧ ∀ q, ¬ Wlk bs a q b) ∨
    ∃ d p, HasSol bs ∧ mst n bs a b = (d, p, 0) ∧ Wlk bs a p b ∧ p.length < n ∧ lenP bs p = d ∧ ∀ q, Wlk bs a q b → d ≤ lenP bs q := by
  by_cases hs : HasSol bs
  · have hm : mst n bs a b = (match mostK n bs a b with
      | none => (0, [], 6)
      | some k => (mostD n bs a b k, fstP bs (tabL n bs b n) (fun x => decide (x = mostD n bs a b k)) k a 0 [], 0)) := by
      unfold mst
      rw [if_pos ⟨hv.valid, by omega, by omega⟩]
      simp only [Int.toNat_natCast]
      rw [great_some hv hs] <;> rfl
    rcases most_same hv ha hb hs with ⟨h1, h2⟩ | ⟨k, h1, h2, h3, h4, h5⟩
    · refine .inr (.inl ⟨hs, by rw [hm, h1], fun q hq => ?_⟩)
      obtain ⟨r, r1, r2, _⟩ := short_all hv ha hb hs q.length q (Nat.le_refl _) hq
      rcases mostK_spec n bs a b with ⟨_, g2⟩ | ⟨k, d, g1, _⟩
      · obtain ⟨e, e1, _⟩ := tab_le hv hb r.length a r rfl r2
        rw [g2 _ r1] at e1; cases e1
      · rw [h1] at g1; cases g1
    · obtain ⟨w1, w2⟩ := h4.short hv ha hb
      refine .inr (.inr ⟨_, _, hs, by rw [hm, h1], w1, w2, h3, fun q hq => ?_⟩)
      obtain ⟨r, r1, r2, r3⟩ := short_all hv ha hb hs q.length q (Nat.le_refl _) hq
      have := h5 r r1 r2
      omega
  · refine .inl ⟨hs, ?_⟩
    unfold mst
    rw [if_pos ⟨hv.valid, by omega, by omega⟩]
    simp only [Int.toNat_natCast]
    rw [great_none hv hs]
    exact ⟨rfl, rfl⟩
end
end Go.Proofs.YthggloiigkbfeaaGreat
namespace Go.Proofs.YthggloiigkbfeaaGreat
open W Go.RowKit
theorem Vld.of_mem {n : Nat} {bs : List Bd} (h1 : 1 ≤ n) (h2 : n ≤ 32) (h3 : bs.length ≤ 2048) (h : ∀ b ∈ bs, b.ok n) : Vld n bs := ⟨h1, h2, h3, fun _ hi => h _ (bg_mem hi)⟩
theorem absS_len {bs : List Bd} {B : Nat} (h : ∀ b ∈ bs, b.w.natAbs ≤ B) : absS bs ≤ bs.length * B := by
  induction bs with
  | nil => simp [absS]
  | cons b bs ih =>
    have h1 := h b (List.mem_cons_self)
    have h2 := ih (fun c hc => h c (List.mem_cons_of_mem _ hc))
    simp only [absS, List.map_cons, List.sum_cons, List.length_cons, Nat.add_mul] at h2 ⊢
    omega
theorem chk_sol {n : Nat} {bs : List Bd} (hv : Vld n bs) {x : List Int} (hl : x.length = n) (h : Sol bs x) : chk n bs x [] = 0 := by
  unfold chk
  rw [if_pos hv.valid, if_pos (.inl ⟨rfl, by rw [hl]; rfl, h⟩)]
theorem mst_tight {n : Nat} {bs : List Bd} (hv : Vld n bs) {a c : Nat} (ha : a < n) (hc : c < n) {f : Nat → Int} (hf : SolF bs f) {q : List Int} (hq : Wlk bs a q c) (hl : lenP bs q = f c - f a) : ∃ p, mst n bs a c = (f c - f a, p, 0) := by
  rcases mst_cases hv ha hc with ⟨h, _⟩ | ⟨_, _, h⟩ | ⟨d, p, _, h, h2, _, h3, h4⟩
  · exact absurd ⟨f, hf⟩ h
  · exact absurd hq (h q)
  · have h5 := h4 q hq
    have h6 := Wlk.sol hf h2
    simp only [Int.toNat_natCast] at h6
    have : d = f c - f a := by omega
    subst this
    exact ⟨p, h⟩
theorem wlk_in {bs : List Bd} {b : Bd} (hb : b ∈ bs) {q : List Int} {v : Int} (h : Wlk bs b.to q v) : ∃ r, Wlk bs b.fr r v ∧ lenP bs r = b.w + lenP bs q := by
  obtain ⟨i, hi, rfl⟩ := bg_of hb
  exact ⟨(i : Int) :: q, Wlk.app.2 ⟨_, Wlk.one hi, h⟩, by rw [lenP_cons, Int.toNat_natCast]⟩
section
variable (ts : List S.Tk) (st on : List Int)
def edB (i k : Nat) : Bool := decide (on.getD i 0 = on.getD k 0 ∧ st.getD k 0 < st.getD i 0) || decide ((k : Int) ∈ (S.tg ts i).after)
def rowB (i K : Nat) : List Bd := [⟨(i : Int) + 1, 0, 0⟩, ⟨(ts.length : Int) + 1, (i : Int) + 1, -(S.tg ts i).time⟩] ++ ((List.range K).filter (edB ts st on i)).map fun k : Nat => ⟨(i : Int) + 1, (k : Int) + 1, -(S.tg ts k).time⟩
def pthK : Nat → List Bd
  | 0 => []
  | i + 1 => pthK i ++ rowB ts st on i ts.length
def pthP : List Bd := pthK ts st on ts.length
theorem rowB_succ (i K : Nat) : rowB ts st on i (K + 1) = if edB ts st on i K = true then rowB ts st on i K ++ [⟨(i : Int) + 1, (K : Int) + 1, -(S.tg ts K).time⟩] else rowB ts st on i K := by
  unfold rowB
  rw [List.range_succ, List.filter_append, List.map_append]
  by_cases h : edB ts st on i K = true
  · rw [if_pos h]; simp [h]
  · rw [if_neg h]; simp [h]
theorem rowB_len (i K : Nat) : (rowB ts st on i K).length ≤ K + 2 := by
  unfold rowB
  rw [List.length_append, List.length_map]
  have := List.length_filter_le (edB ts st on i) (List.range K)
  simp only [List.length_range] at this
  simp only [List.length_cons, List.length_nil]; omega
theorem pthK_len : ∀ i, (pthK ts st on i).length ≤ i * (ts.length + 2)
  | 0 => by simp [pthK]
  | i + 1 => by
    have h1 := pthK_len i
    have h2 := rowB_len ts st on i ts.length
    rw [pthK, List.length_append, Nat.add_mul]; omega
variable {ts st on}
theorem pthK_mem {b : Bd} : ∀ {m : Nat}, b ∈ pthK ts st on m ↔ ∃ i, i < m ∧ b ∈ rowB ts st on i ts.length
  | 0 => by simp [pthK]
  | m + 1 => by
    rw [pthK, List.mem_append, pthK_mem]
    constructor
    · rintro (⟨i, h1, h2⟩ | h)
      · exact ⟨i, by omega, h2⟩
      · exact ⟨m, by omega, h⟩
    · rintro ⟨i, h1, h2⟩
      by_cases e : i = m
      · subst e; exact .inr h2
      · exact .inl ⟨i, by omega, h2⟩
theorem rowB_mem {i K : Nat} {b : Bd} : b ∈ rowB ts st on i K ↔ b = ⟨(i : Int) + 1, 0, 0⟩ ∨ b = ⟨(ts.length : Int) + 1, (i : Int) + 1, -(S.tg ts i).time⟩ ∨ ∃ k, k < K ∧ edB ts st on i k = true ∧ b = ⟨(i : Int) + 1, (k : Int) + 1, -(S.tg ts k).time⟩ := by
  unfold rowB
  rw [List.mem_append, List.mem_map]
  constructor
  · rintro (h | ⟨k, h1, rfl⟩)
    · rcases List.mem_cons.1 h with h | h
      · exact .inl h
      · exact .inr (.inl (List.mem_singleton.1 h))
    · exact .inr (.inr ⟨k, List.mem_range.1 (List.mem_filter.1 h1).1, (List.mem_filter.1 h1).2, rfl⟩)
  · rintro (rfl | rfl | ⟨k, h1, h2, rfl⟩)
    · exact .inl (List.mem_cons_self)
    · exact .inl (List.mem_cons_of_mem _ (List.mem_cons_self))
    · exact .inr ⟨k, List.mem_filter.2 ⟨List.mem_range.2 h1, h2⟩, rfl⟩
variable {M : Nat}
theorem pth_w (hg : S.AllGood M ts) : ∀ b ∈ pthP ts st on, b.w.natAbs ≤ 20 := fun b hb => by
  obtain ⟨i, hi, h⟩ := pthK_mem.1 hb
  rcases rowB_mem.1 h with rfl | rfl | ⟨k, _, _, rfl⟩
  · show (0 : Int).natAbs ≤ 20; decide
  · have := S.good_time hg i; simp only; omega
  · have := S.good_time hg k; simp only; omega
theorem pth_vld (hn : ts.length ≤ 7) : Vld (ts.length + 2) (pthP ts st on) := by
  have hl : ts.length * (ts.length + 2) ≤ 7 * 9 := Nat.mul_le_mul hn (by omega)
  refine Vld.of_mem (by omega) (by omega) (by have := pthK_len ts st on ts.length; unfold pthP; omega) fun b hb => ?_
  obtain ⟨i, hi, h⟩ := pthK_mem.1 hb
  rcases rowB_mem.1 h with rfl | rfl | ⟨k, hk, _, rfl⟩ <;> refine ⟨⟨?_, ?_⟩, ?_, ?_⟩ <;> simp only <;> omega
theorem pth_abs (hg : S.AllGood M ts) (hn : ts.length ≤ 7) : (pthP ts st on).length ≤ 63 ∧ absS (pthP ts st on) ≤ 1260 := by
  have hl : ts.length * (ts.length + 2) ≤ 7 * 9 := Nat.mul_le_mul hn (by omega)
  have h1 := pthK_len ts st on ts.length
  have h2 := absS_len (pth_w (st := st) (on := on) hg)
  unfold pthP at *
  have h3 : (pthK ts st on ts.length).length * 20 ≤ 63 * 20 := Nat.mul_le_mul_right _ (by omega)
  omega
def posF (n : Nat) (st : List Int) (L : Int) (v : Nat) : Int := if v = 0 then 0 else if v = n + 1 then L else st.getD (v - 1) 0
theorem pth_sol (hf : S.Feas ts M st on) (hg : S.AllGood M ts) {L : Int} (hL : S.lenP ts st = L) : SolF (pthP ts st on) (posF ts.length st L) := by
  have p0 : posF ts.length st L 0 = 0 := rfl
  have pl : posF ts.length st L (ts.length + 1) = L := by unfold posF; rw [if_neg (by omega), if_pos rfl]
  have pi : ∀ i, i < ts.length → posF ts.length st L (i + 1) = st.getD i 0 := fun i hi => by
    unfold posF; rw [if_neg (by omega), if_neg (by omega), show i + 1 - 1 = i by omega]
  have ti : ∀ i : Nat, ((i : Int) + 1).toNat = i + 1 := fun i => by omega
  intro b hb
  obtain ⟨i, hi, h⟩ := pthK_mem.1 hb
  have oi := (hf.1 i hi).1
  rcases rowB_mem.1 h with rfl | rfl | ⟨k, hk, he, rfl⟩
  · simp only [ti]
    show posF ts.length st L (0 : Int).toNat ≤ _
    rw [show (0 : Int).toNat = 0 from rfl, p0, pi i hi]; omega
  · simp only [ti]
    rw [pl, pi i hi]
    have := S.lenN_ub (ts := ts) (st := st) hi
    unfold S.lenP at hL; omega
  · simp only [ti]
    rw [pi i hi, pi k hk]
    have hp := hf.2 i hi k hk
    have ht := (hg k hk).t1
    unfold edB at he
    rw [Bool.or_eq_true, decide_eq_true_iff, decide_eq_true_iff] at he
    rcases he with ⟨h1, h2⟩ | h1
    · have hik : i ≠ k := fun e => by subst e; omega
      have := hp.2
      by_cases hc : st.getD i 0 < st.getD k 0 + (S.tg ts k).time
      · exact absurd ⟨hik, h1, by omega, hc⟩ this
      · omega
    · by_cases hc : st.getD i 0 < st.getD k 0 + (S.tg ts k).time
      · exact absurd ⟨h1, hc⟩ hp.1
      · omega
theorem pth_way (hf : S.Feas ts M st on) (hg : S.AllGood M ts) (ht : S.Tgt ts st on) : ∀ (c : Nat) (i : Nat), i < ts.length → st.getD i 0 ≤ c → ∃ q, Wlk (pthP ts st on) ((i : Int) + 1) q 0 ∧ lenP (pthP ts st on) q = -st.getD i 0 := by
  intro c
  induction c with
  | zero =>
    intro i hi hc
    have oi := (hf.1 i hi).1
    obtain ⟨r, h1, h2⟩ := wlk_in (bs := pthP ts st on) (b := ⟨(i : Int) + 1, 0, 0⟩) (pthK_mem.2 ⟨i, hi, rowB_mem.2 (.inl rfl)⟩) (q := []) (v := 0) rfl
    exact ⟨r, h1, by rw [h2]; simp only [lenP_nil]; omega⟩
  | succ c ih =>
    intro i hi hc
    have oi := (hf.1 i hi).1
    rcases ht i hi oi.1 with h0 | ⟨k, k1, k2, k3, k4⟩
    · obtain ⟨r, h1, h2⟩ := wlk_in (bs := pthP ts st on) (b := ⟨(i : Int) + 1, 0, 0⟩) (pthK_mem.2 ⟨i, hi, rowB_mem.2 (.inl rfl)⟩) (q := []) (v := 0) rfl
      exact ⟨r, h1, by rw [h2]; simp only [lenP_nil]; omega⟩
    · have htk := (hg k k1).t1
      have hed : edB ts st on i k = true := by
        unfold edB
        rw [Bool.or_eq_true, decide_eq_true_iff, decide_eq_true_iff]
        rcases k3 with k3 | k3
        · exact .inl ⟨k3.symm, by omega⟩
        · exact .inr k3
      obtain ⟨q, q1, q2⟩ := ih k k1 (by omega)
      obtain ⟨r, h1, h2⟩ := wlk_in (bs := pthP ts st on) (b := ⟨(i : Int) + 1, (k : Int) + 1, -(S.tg ts k).time⟩) (pthK_mem.2 ⟨i, hi, rowB_mem.2 (.inr (.inr ⟨k, k1, hed, rfl⟩))⟩) q1
      exact ⟨r, h1, by rw [h2, q2]; simp only; omega⟩
theorem pth_task (hf : S.Feas ts M st on) (hg : S.AllGood M ts) (ht : S.Tgt ts st on) (hn : ts.length ≤ 7) {i : Nat} (hi : i < ts.length) : ∃ p, mst ((ts.length : Int) + 2) (pthP ts st on) ((i : Int) + 1) 0 = (-st.getD i 0, p, 0) := by
  have oi := (hf.1 i hi).1
  obtain ⟨q, q1, q2⟩ := pth_way hf hg ht (st.getD i 0).toNat i hi (by omega)
  have hs := pth_sol hf hg rfl
  have e0 : posF ts.length st (S.lenP ts st) 0 - posF ts.length st (S.lenP ts st) (i + 1) = -st.getD i 0 := by
    unfold posF; rw [if_pos rfl, if_neg (by omega), if_neg (by omega), show i + 1 - 1 = i by omega]; omega
  have := mst_tight (pth_vld hn) (a := i + 1) (c := 0) (by omega) (by omega) hs (q := q) (by rw [show ((i + 1 : Nat) : Int) = (i : Int) + 1 by omega]; exact q1) (by rw [q2, e0])
  rw [e0] at this
  rw [show ((ts.length + 2 : Nat) : Int) = (ts.length : Int) + 2 by omega, show ((i + 1 : Nat) : Int) = (i : Int) + 1 by omega] at this
  exact this
theorem pth_last (hf : S.Feas ts M st on) (hg : S.AllGood M ts) (ht : S.Tgt ts st on) (hn : ts.length ≤ 7) (h0 : 0 < ts.length) {L : Int} (hL : S.lenP ts st = L) : ∃ p, mst ((ts.length : Int) + 2) (pthP ts st on) ((ts.length : Int) + 1) 0 = (-L, p, 0) := by
  have hs := pth_sol hf hg hL
  have hatt : ∃ i, i < ts.length ∧ st.getD i 0 + (S.tg ts i).time = L := by
    rcases @S.lenN_att ts st ts.length with h | ⟨j, h1, h2⟩
    · have h1 := S.lenN_ub (ts := ts) (st := st) h0
      have h2 := (hf.1 0 h0).1
      have h3 := (hg 0 h0).t1
      omega
    · exact ⟨j, h1, by rw [← hL]; exact h2⟩
  obtain ⟨i, hi, hie⟩ := hatt
  have oi := (hf.1 i hi).1
  obtain ⟨q, q1, q2⟩ := pth_way hf hg ht (st.getD i 0).toNat i hi (by omega)
  obtain ⟨r, r1, r2⟩ := wlk_in (bs := pthP ts st on) (b := ⟨(ts.length : Int) + 1, (i : Int) + 1, -(S.tg ts i).time⟩) (pthK_mem.2 ⟨i, hi, rowB_mem.2 (.inr (.inl rfl))⟩) q1
  have e0 : posF ts.length st L 0 - posF ts.length st L (ts.length + 1) = -L := by
    unfold posF; rw [if_pos rfl, if_neg (by omega), if_pos rfl]; omega
  have := mst_tight (pth_vld hn) (a := ts.length + 1) (c := 0) (by omega) (by omega) hs (q := r) (by rw [show ((ts.length + 1 : Nat) : Int) = (ts.length : Int) + 1 by omega]; exact r1) (by rw [r2, q2, e0]; simp only; omega)
  rw [e0] at this
  rw [show ((ts.length + 2 : Nat) : Int) = (ts.length : Int) + 2 by omega, show ((ts.length + 1 : Nat) : Int) = (ts.length : Int) + 1 by omega] at this
  exact this
end
end Go.Proofs.YthggloiigkbfeaaGreat
namespace Go.Proofs.YthggloiigkbfeaaGreat
open W Go.RowKit
abbrev I64 (n : Int) : Prop := S.I64 n
def IsPb (D : Nat) (bs : List Bd) : RPost := fun v b G => ∃ ms, b = [] ∧ G = [fB D v ms bs]
variable {P : Program} {e : Env} {bx bx' : List Ow} {bx2 : Value → List Ow} {F : List Fct} {ty t el el' : TypeId} {v u : Value} {x y z : Operand} {K : RPost} {m m1 m2 : QM} {b b1 b2 : Bd} {bs : List Bd} {ms : Nat → QM} {q1 q2 : Rat}
theorem YO.buildBd {i j : Int} (h1 : ev e x = some (.int .i64 i)) (h2 : ev e y = some (.int .i64 j)) : YO Tryz.prog (.build 59 #[(0, x), (1, y)]) ty e bx F (.agg #[.int .i64 i, .int .i64 j, .bool false, .slice none 0 0, .bool false, .slice none 0 0]) := YO.build (parts := [(0, x), (1, y)]) (.cons h1 (.cons h2 .nil)) fun w => run_build w 59 _ _ (by kernel_rfl)
theorem YO.buildBd3 {i j : Int} (h1 : ev e x = some (.int .i64 i)) (h2 : ev e y = some (.int .i64 j)) (h3 : ev e z = some (qv m)) : YO Tryz.prog (.build 59 #[(0, x), (1, y), (2, z)]) ty e bx F (.agg #[.int .i64 i, .int .i64 j, .bool m.1, m.2.1, .bool false, m.2.2]) := YO.build (parts := [(0, x), (1, y), (2, z)]) (.cons h1 (.cons h2 (.cons h3 .nil))) fun w => run_build w 59 _ _ (by kernel_rfl)
theorem LO.bsB2 (h1 : ev e x = some (bv b1 m1)) (h2 : ev e y = some (bv b2 m2)) (h : ∀ v, K v (Ow.slice v 59 6 (bcs b1 m1 ++ bcs b2 m2) :: bx) F) : LO Tryz.prog (.buildSlice 32 2 #[(0, x), (1, y)]) ty e bx F K := LO.buildSlice (parts := [(0, x), (1, y)]) (us := [bv b1 m1, bv b2 m2]) (cs := bcs b1 m1 ++ bcs b2 m2) (.cons h1 (.cons h2 .nil)) (fun _ => by kernel_rfl) rfl (by decide) h
theorem bcells_app2 : bcells bs ms ++ (bcs b1 m1 ++ bcs b2 m2) = bcells (bs ++ [b1, b2]) (upd (upd ms bs.length m1) (bs.length + 1) m2) := by
  have h1 := bcells_app (bs := bs) (b := b1) (ms := ms) (m := m1)
  have h2 := bcells_app (bs := bs ++ [b1]) (b := b2) (ms := upd ms bs.length m1) (m := m2)
  rw [List.length_append, List.length_singleton] at h2
  rw [← List.append_assoc, h1, h2, List.append_assoc]; rfl
theorem LO.appB2 (hx : ev e x = some v) (hy : ev e y = some u) (hu : Ow.slice u el' 6 (bcs b1 m1 ++ bcs b2 m2) ∈ bx) (hm1 : Has F (isQ (qv m1) q1)) (hm2 : Has F (isQ (qv m2) q2)) (hs : ∀ v', Sel bx (.slice v 59 6 (bcells bs ms)) (.slice v' 59 6 (bcells (bs ++ [b1, b2]) (upd (upd ms bs.length m1) (bs.length + 1) m2))) (bx2 v')) (hl : bs.length ≤ 1000000) (h : ∀ v', K v' (bx2 v') F) :
    LO Tryz.prog (.call { callee := .builtin .append, args := #[x, y], argTypes := #[32, 32] }) ty e bx F K := by
  have hone : OneL bx F (bcs b1 m1 ++ bcs b2 m2) := .cons (One.lit rfl rfl) (.cons (One.lit rfl rfl) (.cons (One.lit rfl rfl) (.cons (One.sl (KnS.q1 hm1)) (.cons (One.lit rfl rfl) (.cons (One.sl (KnS.q2 hm1)) (.cons (One.lit rfl rfl) (.cons (One.lit rfl rfl) (one_q (m := m2) (bx := bx) hm2))))))))
  refine LO.byP (fun fr w ho => hone.all ho) fun h1 => ?_
  exact LO.append T.e32 hx hy (news := bcs b1 m1 ++ bcs b2 m2) (by rw [bcells_app2]; exact hs) (SrcE.own (n := 2) hu rfl (by decide)) h1 (by rw [cellsF_len]; show (bs.length * 6 + 12) * 80 ≤ _; omega) (by rw [cellsF_len]; show bs.length * 6 + 12 ≤ _; omega) h
theorem W.Has.mBapp2 {D : Nat} (h : Has F (mB D ms bs)) (h1 : Has F (isQ (qv m1) (wq D b1.w))) (h2 : Has F (isQ (qv m2) (wq D b2.w))) : Has F (mB D (upd (upd ms bs.length m1) (bs.length + 1) m2) (bs ++ [b1, b2])) := by
  have := W.Has.mBapp (W.Has.mBapp h h1) h2
  rw [List.length_append, List.length_singleton, List.append_assoc] at this
  exact this
theorem mem_gE {l : List Int} {x : Int} : x ∈ l ↔ ∃ i, i < l.length ∧ l.getD i 0 = x := by
  constructor
  · intro h
    obtain ⟨i, hi, rfl⟩ := List.getElem_of_mem h
    exact ⟨i, hi, by simp [List.getD_eq_getElem?_getD, hi]⟩
  · rintro ⟨i, hi, rfl⟩
    simp [List.getD_eq_getElem?_getD, hi]
instance : Den 1 := ⟨by decide, by decide⟩
end Go.Proofs.YthggloiigkbfeaaGreat
namespace Go.Proofs.YthggloiigkbfeaaGreat
open W Go.RowKit
attribute [local irreducible] WC WL WD YO LO LoopEnd W.Fin Scalar SliceT FieldAt Row ArrT AllocT KnS Has W.One SrcE IntT
namespace H
set_option maxRecDepth 60000
theorem goE {G G' : Prop} (h : G') (s : Bx G' → G := by
  intro h
  (first
    | (apply WL.k_build; (first | (apply YO.buildBd; exact rfl; exact rfl) | (apply YO.buildBd3; exact rfl; exact rfl; exact rfl)); exact rfl; exact rfl)
    | (apply WL.k_len; (apply YO.len; (first | exact T.s22 | exact T.s32 | exact T.s38 | exact T.s109 | exact T.s111 | exact T.s161 | exact T.s23 | exact T.s171); exact rfl; (first | (focus (apply KnS.f; apply S.hasA; exact hmA; omega; done)) | exact knA)); exact rfl; exact rfl)
    | (apply WL.k_indexAddr; (first | (apply YO.ix1; (first | exact T.s22 | exact T.s32 | exact T.s38 | exact T.s109 | exact T.s111 | exact T.s161 | exact T.s23 | exact T.s171); exact rfl; exact rfl; (first | (focus (apply KnS.f; apply S.hasA; exact hmA; omega; done)) | exact knA); omega) | (apply YO.ix; (first | exact T.s22 | exact T.s32 | exact T.s38 | exact T.s109 | exact T.s111 | exact T.s161 | exact T.s23 | exact T.s171); exact rfl; exact rfl; (first | (focus (apply KnS.f; apply S.hasA; exact hmA; omega; done)) | exact knA); omega) | (apply YO.ix1'; (first | exact T.s22 | exact T.s32 | exact T.s38 | exact T.s109 | exact T.s111 | exact T.s161 | exact T.s23 | exact T.s171); exact rfl; exact rfl; (first | (focus (apply KnS.f; apply S.hasA; exact hmA; omega; done)) | exact knA); omega; omega) | (apply YO.ix'; (first | exact T.s22 | exact T.s32 | exact T.s38 | exact T.s109 | exact T.s111 | exact T.s161 | exact T.s23 | exact T.s171); exact rfl; exact rfl; (first | (focus (apply KnS.f; apply S.hasA; exact hmA; omega; done)) | exact knA); omega; omega)); exact rfl; exact rfl)
    | (apply WL.k_fieldAddr; (first | (apply YO.fieldE; exact T.f76_0; exact rfl) | (apply YO.fieldN; exact T.f76_0; exact rfl; ((try simp only [Nat.zero_add, Nat.mul_one, Nat.reduceAdd, Nat.reduceMul]); exact rfl)) | (apply YO.fieldE; exact T.f76_2; exact rfl) | (apply YO.fieldN; exact T.f76_2; exact rfl; ((try simp only [Nat.zero_add, Nat.mul_one, Nat.reduceAdd, Nat.reduceMul]); exact rfl))); exact rfl; exact rfl)
    | (apply WL.k_load; (first | (apply S.ldT0; (first | exact T.sc3 | exact T.sc4 | exact T.sc22 | exact T.sc26 | exact T.sc32 | exact T.sc38 | exact T.sc109 | exact T.sc111 | exact T.sc161 | exact T.sc164 | exact T.sc94 | exact T.sc116 | exact T.sc159 | exact T.sc5 | exact T.sc9 | exact T.sc23 | exact T.sc73 | exact T.sc74 | exact T.sc81 | exact T.sc87 | exact T.sc143 | exact T.sc144 | exact T.sc171 | exact T.sc182 | exact T.sc185); exact rfl; exact hmA; omega) | (apply S.ldT2; (first | exact T.sc3 | exact T.sc4 | exact T.sc22 | exact T.sc26 | exact T.sc32 | exact T.sc38 | exact T.sc109 | exact T.sc111 | exact T.sc161 | exact T.sc164 | exact T.sc94 | exact T.sc116 | exact T.sc159 | exact T.sc5 | exact T.sc9 | exact T.sc23 | exact T.sc73 | exact T.sc74 | exact T.sc81 | exact T.sc87 | exact T.sc143 | exact T.sc144 | exact T.sc171 | exact T.sc182 | exact T.sc185); exact rfl; exact hmA; omega) | (apply YO.ldS; (first | exact T.sc3 | exact T.sc4 | exact T.sc22 | exact T.sc26 | exact T.sc32 | exact T.sc38 | exact T.sc109 | exact T.sc111 | exact T.sc161 | exact T.sc164 | exact T.sc94 | exact T.sc116 | exact T.sc159 | exact T.sc5 | exact T.sc9 | exact T.sc23 | exact T.sc73 | exact T.sc74 | exact T.sc81 | exact T.sc87 | exact T.sc143 | exact T.sc144 | exact T.sc171 | exact T.sc182 | exact T.sc185); exact rfl; (focus (apply S.hasA; exact hmA; omega; done)); omega)); exact rfl; exact rfl)
    | (apply WL.kl_store; rotate_left; exact rfl; (first | fail | fail))
    | (apply WD.k_build; exact rfl; (first | (apply YO.buildBd; exact rfl; exact rfl) | (apply YO.buildBd3; exact rfl; exact rfl; exact rfl)); exact rfl; exact rfl)
    | (apply WD.k_len; exact rfl; (apply YO.len; (first | exact T.s22 | exact T.s32 | exact T.s38 | exact T.s109 | exact T.s111 | exact T.s161 | exact T.s23 | exact T.s171); exact rfl; (first | (focus (apply KnS.f; apply S.hasA; exact hmA; omega; done)) | exact knA)); exact rfl; exact rfl)
    | (apply WD.k_indexAddr; exact rfl; (first | (apply YO.ix1; (first | exact T.s22 | exact T.s32 | exact T.s38 | exact T.s109 | exact T.s111 | exact T.s161 | exact T.s23 | exact T.s171); exact rfl; exact rfl; (first | (focus (apply KnS.f; apply S.hasA; exact hmA; omega; done)) | exact knA); omega) | (apply YO.ix; (first | exact T.s22 | exact T.s32 | exact T.s38 | exact T.s109 | exact T.s111 | exact T.s161 | exact T.s23 | exact T.s171); exact rfl; exact rfl; (first | (focus (apply KnS.f; apply S.hasA; exact hmA; omega; done)) | exact knA); omega) | (apply YO.ix1'; (first | exact T.s22 | exact T.s32 | exact T.s38 | exact T.s109 | exact T.s111 | exact T.s161 | exact T.s23 | exact T.s171); exact rfl; exact rfl; (first | (focus (apply KnS.f; apply S.hasA; exact hmA; omega; done)) | exact knA); omega; omega) | (apply YO.ix'; (first | exact T.s22 | exact T.s32 | exact T.s38 | exact T.s109 | exact T.s111 | exact T.s161 | exact T.s23 | exact T.s171); exact rfl; exact rfl; (first | (focus (apply KnS.f; apply S.hasA; exact hmA; omega; done)) | exact knA); omega; omega)); exact rfl; exact rfl)
    | (apply WD.k_fieldAddr; exact rfl; (first | (apply YO.fieldE; exact T.f76_0; exact rfl) | (apply YO.fieldN; exact T.f76_0; exact rfl; ((try simp only [Nat.zero_add, Nat.mul_one, Nat.reduceAdd, Nat.reduceMul]); exact rfl)) | (apply YO.fieldE; exact T.f76_2; exact rfl) | (apply YO.fieldN; exact T.f76_2; exact rfl; ((try simp only [Nat.zero_add, Nat.mul_one, Nat.reduceAdd, Nat.reduceMul]); exact rfl))); exact rfl; exact rfl)
    | (apply WD.k_load; exact rfl; (first | (apply S.ldT0; (first | exact T.sc3 | exact T.sc4 | exact T.sc22 | exact T.sc26 | exact T.sc32 | exact T.sc38 | exact T.sc109 | exact T.sc111 | exact T.sc161 | exact T.sc164 | exact T.sc94 | exact T.sc116 | exact T.sc159 | exact T.sc5 | exact T.sc9 | exact T.sc23 | exact T.sc73 | exact T.sc74 | exact T.sc81 | exact T.sc87 | exact T.sc143 | exact T.sc144 | exact T.sc171 | exact T.sc182 | exact T.sc185); exact rfl; exact hmA; omega) | (apply S.ldT2; (first | exact T.sc3 | exact T.sc4 | exact T.sc22 | exact T.sc26 | exact T.sc32 | exact T.sc38 | exact T.sc109 | exact T.sc111 | exact T.sc161 | exact T.sc164 | exact T.sc94 | exact T.sc116 | exact T.sc159 | exact T.sc5 | exact T.sc9 | exact T.sc23 | exact T.sc73 | exact T.sc74 | exact T.sc81 | exact T.sc87 | exact T.sc143 | exact T.sc144 | exact T.sc171 | exact T.sc182 | exact T.sc185); exact rfl; exact hmA; omega) | (apply YO.ldS; (first | exact T.sc3 | exact T.sc4 | exact T.sc22 | exact T.sc26 | exact T.sc32 | exact T.sc38 | exact T.sc109 | exact T.sc111 | exact T.sc161 | exact T.sc164 | exact T.sc94 | exact T.sc116 | exact T.sc159 | exact T.sc5 | exact T.sc9 | exact T.sc23 | exact T.sc73 | exact T.sc74 | exact T.sc81 | exact T.sc87 | exact T.sc143 | exact T.sc144 | exact T.sc171 | exact T.sc182 | exact T.sc185); exact rfl; (focus (apply S.hasA; exact hmA; omega; done)); omega)); exact rfl; exact rfl)
    | (apply WD.kl_store; exact rfl; rotate_left; exact rfl; (first | fail | fail); constructor; (first | (focus (apply Or.inr; constructor; (repeat (first | exact List.Sublist.refl _ | exact List.nil_sublist _ | apply List.Sublist.cons_cons | apply List.Sublist.cons)); (first | exact fun _ h => h | (intro f hf; (repeat (first | exact hf | apply List.Mem.tail)))); done)) | (apply Or.inl; kernel_rfl)))
    | ((first | fail | fail); constructor; (first | (focus (apply Or.inr; constructor; (repeat (first | exact List.Sublist.refl _ | exact List.nil_sublist _ | apply List.Sublist.cons_cons | apply List.Sublist.cons)); (first | exact fun _ h => h | (intro f hf; (repeat (first | exact hf | apply List.Mem.tail)))); done)) | (apply Or.inl; kernel_rfl)))
    | fail)
  exact Bx.h h) : G := s ⟨h⟩
theorem goEG {G G' : Prop} (h : G') (s : Bx G' → G := by
  intro h
  (first
    | (apply WL.kl_alloc; rotate_left; exact rfl; exact rfl; apply LO.alloc'; (first | fail | fail))
    | (apply WD.kl_alloc; exact rfl; rotate_left; exact rfl; exact rfl; apply LO.alloc'; (first | fail | fail); apply allAnd; (intro _; (first | (focus (apply Or.inr; constructor; (repeat (first | exact List.Sublist.refl _ | exact List.nil_sublist _ | apply List.Sublist.cons_cons | apply List.Sublist.cons)); (first | exact fun _ h => h | (intro f hf; (repeat (first | exact hf | apply List.Mem.tail)))); done)) | (apply Or.inl; kernel_rfl))))
    | (apply LO.alloc'; (first | fail | fail); apply allAnd; (intro _; (first | (focus (apply Or.inr; constructor; (repeat (first | exact List.Sublist.refl _ | exact List.nil_sublist _ | apply List.Sublist.cons_cons | apply List.Sublist.cons)); (first | exact fun _ h => h | (intro f hf; (repeat (first | exact hf | apply List.Mem.tail)))); done)) | (apply Or.inl; kernel_rfl))))
    | fail)
  exact Bx.h h) : G := s ⟨h⟩
end H
end Go.Proofs.YthggloiigkbfeaaGreat
namespace Go.Proofs.YthggloiigkbfeaaGreat
open W Go.RowKit
namespace H
open G
attribute [local irreducible] WC WL WD YO LO LoopEnd W.Fin Scalar SliceT FieldAt Row ArrT AllocT KnS Has W.One SrcE IntT
theorem d17Ck {G G' : Prop} (h : G') (s : Bx G' → G := by
  intro h
  first | (apply WC.draw (id := 9) [0, 1, 2, 3, 4, 5, 6, 7, 8, 9, 10, 11, 12, 13, 14, 15, 16, 17, 18, 19, 20] (.held 0 (.held 1 (.held 2 (.held 3 (.held 4 (.held 5 (.held 6 (.held 7 (.held 8 (.held 9 (.held 10 (.held 11 (.held 12 (.held 13 (.held 14 (.held 15 (.held 16 (.held 17 (.held 18 (.held 19 (.held 20 (.done)))))))))))))))))))))) mixed (by kernel_rfl)) | fail
  exact Bx.h h) : G := s ⟨h⟩
set_option maxHeartbeats 8000000 in
set_option maxRecDepth 60000 in
theorem paths_c (vt us uo : Value) (avs : List Value) (ts : List S.Tk) (st on : List Int) {M : Nat} (hg : S.AllGood M ts) (hn : ts.length ≤ 7) (hs : st.length = ts.length) (ho : on.length = ts.length) (ha : ∀ i, (S.tg ts i).after.length ≤ 100) :
    FnB Tryz.prog 17 [vt, us, uo] [] [S.sT vt avs ts, S.sA avs ts, sI us st, sI uo on] (IsPb 1 (pthP ts st on)) := by
  refine fn_of [(0, vt), (1, us), (2, uo)] 103 Tryz.func17 rfl Tryz.ntmps17 (by kernel_rfl) rfl suA fun h0 => ?_
  refine WC.addNil 59 6 ?_
  repeat' (first | refine go ?_ | refine goX ?_ | refine goB ?_ | (refine goG ?_; intro g) | (refine goV ?_; intro v) | refine goE ?_ | (refine goEG ?_; intro g) | refine goD ?_ | refine goXD ?_ | (refine goDG ?_; intro g) | (refine goDV ?_; intro v) | refine d17Ck ?_ | fail)
  refine WC.lp (σ := Nat × Value × (Nat → QM)) (fun s => [(8, .int .i64 (s.1 : Int)), (7, s.2.1), (0, vt), (1, us), (2, uo)]) (fun s => [Ow.slice s.2.1 59 6 (bcells (pthK ts st on s.1) s.2.2)])
    (fun s => [mB 1 s.2.2 (pthK ts st on s.1), ge h0, S.sT vt avs ts, S.sA avs ts, sI us st, sI uo on]) (fun s => s.1 ≤ ts.length) (fun s => ts.length - s.1) (0, .slice none 0 0, fun _ => m00) (Nat.zero_le _) ?_ suA slA (.cons (hasmBn _) sfA)
  rintro ⟨i, u, mm⟩ hi
  simp only at hi ⊢
  by_cases c : i < ts.length
  · have hti := S.good_time hg i
    have hlk : (pthK ts st on i).length ≤ 63 := by
      have h1 := pthK_len ts st on i
      have h2 : i * (ts.length + 2) ≤ 7 * 9 := Nat.mul_le_mul (by omega) (by omega)
      omega
    repeat' (first | refine go ?_ | refine goX ?_ | refine goB ?_ | (refine goG ?_; intro g) | (refine goV ?_; intro v) | refine goE ?_ | (refine goEG ?_; intro g) | refine goD ?_ | refine goXD ?_ | (refine goDG ?_; intro g) | (refine goDV ?_; intro v) | refine d17Ck ?_ | fail)
    simp only [S.tcell0]
    repeat' (first | refine go ?_ | refine goX ?_ | refine goB ?_ | (refine goG ?_; intro g) | (refine goV ?_; intro v) | refine goE ?_ | (refine goEG ?_; intro g) | refine goD ?_ | refine goXD ?_ | (refine goDG ?_; intro g) | (refine goDV ?_; intro v) | refine d17Ck ?_ | fail)
    first | refine WL.callK (ofw_c 1 (-(S.tg ts i).time) 1 1 (by decide) (by decide) (by unfold B2; omega) (by decide)) ?_ | refine WD.callK (ofw_c 1 (-(S.tg ts i).time) 1 1 (by decide) (by decide) (by unfold B2; omega) (by decide)) ?_ | refine LO.callM (ofw_c 1 (-(S.tg ts i).time) 1 1 (by decide) (by decide) (by unfold B2; omega) (by decide)) ?_
    rintro _ _ _ ⟨m2, rfl, rfl, rfl⟩
    simp only [List.nil_append, List.cons_append]
    rw [show -(S.tg ts i).time * ((1 : Nat) : Int) = -(S.tg ts i).time by omega]
    repeat' (first | refine go ?_ | refine goX ?_ | refine goB ?_ | (refine goG ?_; intro g) | (refine goV ?_; intro v) | refine goE ?_ | (refine goEG ?_; intro g) | refine goD ?_ | refine goXD ?_ | (refine goDG ?_; intro g) | (refine goDV ?_; intro v) | refine d17Ck ?_ | fail)
    refine WL.l rfl rfl (LO.bsB2 (b1 := ⟨(i : Int) + 1, 0, 0⟩) (m1 := m00) (b2 := ⟨(ts.length : Int) + 1, (i : Int) + 1, -(S.tg ts i).time⟩) (m2 := m2) rfl rfl (fun w => ?_))
    refine WL.fact' (isQ (qv m00) (wq 1 0)) hasQ0w ?_
    refine WL.l rfl rfl (LO.appB2 (b1 := ⟨(i : Int) + 1, 0, 0⟩) (m1 := m00) (b2 := ⟨(ts.length : Int) + 1, (i : Int) + 1, -(S.tg ts i).time⟩) (m2 := m2) (q1 := wq 1 0) (q2 := wq 1 (-(S.tg ts i).time)) rfl rfl meA hmA hmA (by intro v; repeat (first | exact Sel.head | apply Sel.tail)) (by omega) (fun u2 => ?_))
    have hr0 : pthK ts st on i ++ [⟨(i : Int) + 1, 0, 0⟩, ⟨(ts.length : Int) + 1, (i : Int) + 1, -(S.tg ts i).time⟩] = pthK ts st on i ++ rowB ts st on i 0 := by simp [rowB]
    have hm0 : ∀ {F : List Fct}, Has F (mB 1 mm (pthK ts st on i)) → Has F (isQ (qv m00) (wq 1 0)) → Has F (isQ (qv m2) (wq 1 (-(S.tg ts i).time))) → Has F (mB 1 (upd (upd mm (pthK ts st on i).length m00) ((pthK ts st on i).length + 1) m2) (pthK ts st on i ++ rowB ts st on i 0)) := fun h1 h2 h3 => by
      rw [← hr0]; exact W.Has.mBapp2 h1 h2 h3
    rw [hr0]
    generalize upd (upd mm (pthK ts st on i).length m00) ((pthK ts st on i).length + 1) m2 = mk0 at *
    repeat' (first | refine go ?_ | refine goX ?_ | refine goB ?_ | (refine goG ?_; intro g) | (refine goV ?_; intro v) | refine goE ?_ | (refine goEG ?_; intro g) | refine goD ?_ | refine goXD ?_ | (refine goDG ?_; intro g) | (refine goDV ?_; intro v) | refine d17Ck ?_ | fail)
    refine WC.lp (σ := Nat × Value × (Nat → QM)) (fun s => [(9, .int .i64 (s.1 : Int)), (8, .int .i64 (i : Int)), (7, s.2.1), (0, vt), (1, us), (2, uo)]) (fun s => [Ow.slice s.2.1 59 6 (bcells (pthK ts st on i ++ rowB ts st on i s.1) s.2.2)])
      (fun s => [mB 1 s.2.2 (pthK ts st on i ++ rowB ts st on i s.1), ge h0, S.sT vt avs ts, S.sA avs ts, sI us st, sI uo on]) (fun s => s.1 ≤ ts.length) (fun s => ts.length - s.1) (0, u2, mk0) (Nat.zero_le _) ?_ suA slA (.cons (hm0 hmA hmA hmA) sfA)
    clear hm0 hr0
    rintro ⟨k, w, mk⟩ hk
    simp only at hk ⊢
    by_cases ck : k < ts.length
    · have htk := S.good_time hg k
      have hal := ha i
      have hrs := rowB_succ ts st on i k
      have hrl := rowB_len ts st on i k
      have hll : (pthK ts st on i ++ rowB ts st on i k).length ≤ 100 := by rw [List.length_append]; omega
      have hed : edB ts st on i k = true ↔ (on.getD i 0 = on.getD k 0 ∧ st.getD k 0 < st.getD i 0) ∨ (k : Int) ∈ (S.tg ts i).after := by
        unfold edB; rw [Bool.or_eq_true, decide_eq_true_iff, decide_eq_true_iff]
      by_cases c1 : on.getD i 0 = on.getD k 0
      · by_cases c2 : st.getD k 0 < st.getD i 0
        · have hbase : (on.getD i 0 = on.getD k 0 ∧ st.getD k 0 < st.getD i 0) := ⟨c1, c2⟩
          repeat' (first | refine go ?_ | refine goX ?_ | refine goB ?_ | (refine goG ?_; intro g) | (refine goV ?_; intro v) | refine goE ?_ | (refine goEG ?_; intro g) | refine goD ?_ | refine goXD ?_ | (refine goDG ?_; intro g) | (refine goDV ?_; intro v) | refine d17Ck ?_ | fail)
          refine WC.lp (σ := Nat × Bool) (fun s => [(11, .int .i64 (s.1 : Int)), (10, .bool s.2), (9, .int .i64 (k : Int)), (8, .int .i64 (i : Int)), (7, w), (0, vt), (1, us), (2, uo)]) (fun _ => [Ow.slice w 59 6 (bcells (pthK ts st on i ++ rowB ts st on i k) mk)])
            (fun _ => [mB 1 mk (pthK ts st on i ++ rowB ts st on i k), ge h0, S.sT vt avs ts, S.sA avs ts, sI us st, sI uo on]) (fun s => s.1 ≤ (S.tg ts i).after.length ∧ (s.2 = true ↔ ((on.getD i 0 = on.getD k 0 ∧ st.getD k 0 < st.getD i 0) ∨ ∃ j, j < s.1 ∧ (S.tg ts i).after.getD j 0 = k))) (fun s => (S.tg ts i).after.length - s.1) (0, true) ⟨Nat.zero_le _, ⟨fun _ => .inl hbase, fun _ => rfl⟩⟩ ?_ suA slA sfA
          rintro ⟨j, b⟩ ⟨hj, hb⟩
          simp only at hj hb ⊢
          repeat' (first | refine go ?_ | refine goX ?_ | refine goB ?_ | (refine goG ?_; intro g) | (refine goV ?_; intro v) | refine goE ?_ | (refine goEG ?_; intro g) | refine goD ?_ | refine goXD ?_ | (refine goDG ?_; intro g) | (refine goDV ?_; intro v) | refine d17Ck ?_ | fail)
          simp only [S.tcell2]
          by_cases cj : j < (S.tg ts i).after.length
          · cases b with
            | true =>
              repeat' (first | refine go ?_ | refine goX ?_ | refine goB ?_ | (refine goG ?_; intro g) | (refine goV ?_; intro v) | refine goE ?_ | (refine goEG ?_; intro g) | refine goD ?_ | refine goXD ?_ | (refine goDG ?_; intro g) | (refine goDV ?_; intro v) | refine d17Ck ?_ | fail)
              refine LoopEnd.mk (j + 1, true) ⟨by show j + 1 ≤ (S.tg ts i).after.length; omega, ⟨fun _ => ?_, fun _ => rfl⟩⟩ (by show (S.tg ts i).after.length - (j + 1) < (S.tg ts i).after.length - j; omega) suA slA sfA
              rcases hb.1 rfl with h | ⟨x, h1, h2⟩
              · exact .inl h
              · exact .inr ⟨x, by show x < j + 1; omega, h2⟩
            | false =>
              exact absurd (hb.2 (.inl hbase)) (by simp)
          · obtain rfl : j = (S.tg ts i).after.length := by omega
            have hin : edB ts st on i k = b := by
              rw [Bool.eq_iff_iff, hb, hed, mem_gE]
            rw [hin] at hrs
            cases b with
            | true =>
              clear hrs
              have hrs' : pthK ts st on i ++ rowB ts st on i (k + 1) = (pthK ts st on i ++ rowB ts st on i k) ++ [⟨(i : Int) + 1, (k : Int) + 1, -(S.tg ts k).time⟩] := by rw [rowB_succ, hin, if_pos rfl, List.append_assoc]
              repeat' (first | refine go ?_ | refine goX ?_ | refine goB ?_ | (refine goG ?_; intro g) | (refine goV ?_; intro v) | refine goE ?_ | (refine goEG ?_; intro g) | refine goD ?_ | refine goXD ?_ | (refine goDG ?_; intro g) | (refine goDV ?_; intro v) | refine d17Ck ?_ | fail)
              simp only [S.tcell0]
              repeat' (first | refine go ?_ | refine goX ?_ | refine goB ?_ | (refine goG ?_; intro g) | (refine goV ?_; intro v) | refine goE ?_ | (refine goEG ?_; intro g) | refine goD ?_ | refine goXD ?_ | (refine goDG ?_; intro g) | (refine goDV ?_; intro v) | refine d17Ck ?_ | fail)
              first | refine WL.callK (ofw_c 1 (-(S.tg ts k).time) 1 1 (by decide) (by decide) (by unfold B2; omega) (by decide)) ?_ | refine WD.callK (ofw_c 1 (-(S.tg ts k).time) 1 1 (by decide) (by decide) (by unfold B2; omega) (by decide)) ?_ | refine LO.callM (ofw_c 1 (-(S.tg ts k).time) 1 1 (by decide) (by decide) (by unfold B2; omega) (by decide)) ?_
              rintro _ _ _ ⟨m5, rfl, rfl, rfl⟩
              simp only [List.nil_append, List.cons_append]
              rw [show -(S.tg ts k).time * ((1 : Nat) : Int) = -(S.tg ts k).time by omega]
              repeat' (first | refine go ?_ | refine goX ?_ | refine goB ?_ | (refine goG ?_; intro g) | (refine goV ?_; intro v) | refine goE ?_ | (refine goEG ?_; intro g) | refine goD ?_ | refine goXD ?_ | (refine goDG ?_; intro g) | (refine goDV ?_; intro v) | refine d17Ck ?_ | fail)
              refine WL.l rfl rfl (LO.bsB1 (b := ⟨(i : Int) + 1, (k : Int) + 1, -(S.tg ts k).time⟩) (m := m5) rfl (fun w2 => ?_))
              repeat' (first | refine go ?_ | refine goX ?_ | refine goB ?_ | (refine goG ?_; intro g) | (refine goV ?_; intro v) | refine goE ?_ | (refine goEG ?_; intro g) | refine goD ?_ | refine goXD ?_ | (refine goDG ?_; intro g) | (refine goDV ?_; intro v) | refine d17Ck ?_ | fail)
              have hm5 : ∀ {F : List Fct}, Has F (mB 1 mk (pthK ts st on i ++ rowB ts st on i k)) → Has F (isQ (qv m5) (wq 1 (-(S.tg ts k).time))) → Has F (mB 1 (upd mk (pthK ts st on i ++ rowB ts st on i k).length m5) (pthK ts st on i ++ rowB ts st on i (k + 1))) := fun h1 h2 => by
                rw [hrs']; exact W.Has.mBapp h1 h2
              exact LoopEnd.mk (k + 1, v, upd mk (pthK ts st on i ++ rowB ts st on i k).length m5) (by show k + 1 ≤ ts.length; omega) (by show ts.length - (k + 1) < ts.length - k; omega) suA (by show List.Sublist [Ow.slice v 59 6 (bcells (pthK ts st on i ++ rowB ts st on i (k + 1)) _)] _; rw [hrs']; exact slA) (HasAll.cons (hm5 hmA hmA) sfA)
            | false =>
              rw [if_neg (by simp)] at hrs
              repeat' (first | refine go ?_ | refine goX ?_ | refine goB ?_ | (refine goG ?_; intro g) | (refine goV ?_; intro v) | refine goE ?_ | (refine goEG ?_; intro g) | refine goD ?_ | refine goXD ?_ | (refine goDG ?_; intro g) | (refine goDV ?_; intro v) | refine d17Ck ?_ | fail)
              exact LoopEnd.mk (k + 1, w, mk) (by show k + 1 ≤ ts.length; omega) (by show ts.length - (k + 1) < ts.length - k; omega) suA (by show List.Sublist [Ow.slice w 59 6 (bcells (pthK ts st on i ++ rowB ts st on i (k + 1)) mk)] _; rw [hrs]; exact slA) (HasAll.cons (by rw [hrs]; exact hmA) sfA)
        · have hbase : ¬ (on.getD i 0 = on.getD k 0 ∧ st.getD k 0 < st.getD i 0) := fun h => c2 h.2
          repeat' (first | refine go ?_ | refine goX ?_ | refine goB ?_ | (refine goG ?_; intro g) | (refine goV ?_; intro v) | refine goE ?_ | (refine goEG ?_; intro g) | refine goD ?_ | refine goXD ?_ | (refine goDG ?_; intro g) | (refine goDV ?_; intro v) | refine d17Ck ?_ | fail)
          refine WC.lp (σ := Nat × Bool) (fun s => [(11, .int .i64 (s.1 : Int)), (10, .bool s.2), (9, .int .i64 (k : Int)), (8, .int .i64 (i : Int)), (7, w), (0, vt), (1, us), (2, uo)]) (fun _ => [Ow.slice w 59 6 (bcells (pthK ts st on i ++ rowB ts st on i k) mk)])
            (fun _ => [mB 1 mk (pthK ts st on i ++ rowB ts st on i k), ge h0, S.sT vt avs ts, S.sA avs ts, sI us st, sI uo on]) (fun s => s.1 ≤ (S.tg ts i).after.length ∧ (s.2 = true ↔ ((on.getD i 0 = on.getD k 0 ∧ st.getD k 0 < st.getD i 0) ∨ ∃ j, j < s.1 ∧ (S.tg ts i).after.getD j 0 = k))) (fun s => (S.tg ts i).after.length - s.1) (0, false) ⟨Nat.zero_le _, ⟨fun h => (by cases h), fun h => h.elim (fun h => absurd h hbase) fun ⟨j, h1, _⟩ => absurd h1 (Nat.not_lt_zero j)⟩⟩ ?_ suA slA sfA
          rintro ⟨j, b⟩ ⟨hj, hb⟩
          simp only at hj hb ⊢
          repeat' (first | refine go ?_ | refine goX ?_ | refine goB ?_ | (refine goG ?_; intro g) | (refine goV ?_; intro v) | refine goE ?_ | (refine goEG ?_; intro g) | refine goD ?_ | refine goXD ?_ | (refine goDG ?_; intro g) | (refine goDV ?_; intro v) | refine d17Ck ?_ | fail)
          simp only [S.tcell2]
          by_cases cj : j < (S.tg ts i).after.length
          · cases b with
            | true =>
              repeat' (first | refine go ?_ | refine goX ?_ | refine goB ?_ | (refine goG ?_; intro g) | (refine goV ?_; intro v) | refine goE ?_ | (refine goEG ?_; intro g) | refine goD ?_ | refine goXD ?_ | (refine goDG ?_; intro g) | (refine goDV ?_; intro v) | refine d17Ck ?_ | fail)
              refine LoopEnd.mk (j + 1, true) ⟨by show j + 1 ≤ (S.tg ts i).after.length; omega, ⟨fun _ => ?_, fun _ => rfl⟩⟩ (by show (S.tg ts i).after.length - (j + 1) < (S.tg ts i).after.length - j; omega) suA slA sfA
              rcases hb.1 rfl with h | ⟨x, h1, h2⟩
              · exact .inl h
              · exact .inr ⟨x, by show x < j + 1; omega, h2⟩
            | false =>
              have hno : ¬ ((on.getD i 0 = on.getD k 0 ∧ st.getD k 0 < st.getD i 0) ∨ ∃ x, x < j ∧ (S.tg ts i).after.getD x 0 = k) := fun h => by have := hb.2 h; cases this
              by_cases ce : (S.tg ts i).after.getD j 0 = k
              · repeat' (first | refine go ?_ | refine goX ?_ | refine goB ?_ | (refine goG ?_; intro g) | (refine goV ?_; intro v) | refine goE ?_ | (refine goEG ?_; intro g) | refine goD ?_ | refine goXD ?_ | (refine goDG ?_; intro g) | (refine goDV ?_; intro v) | refine d17Ck ?_ | fail)
                simp only [S.tcell2]
                repeat' (first | refine go ?_ | refine goX ?_ | refine goB ?_ | (refine goG ?_; intro g) | (refine goV ?_; intro v) | refine goE ?_ | (refine goEG ?_; intro g) | refine goD ?_ | refine goXD ?_ | (refine goDG ?_; intro g) | (refine goDV ?_; intro v) | refine d17Ck ?_ | fail)
                exact LoopEnd.mk (j + 1, true) ⟨by show j + 1 ≤ (S.tg ts i).after.length; omega, ⟨fun _ => .inr ⟨j, by show j < j + 1; omega, ce⟩, fun _ => rfl⟩⟩ (by show (S.tg ts i).after.length - (j + 1) < (S.tg ts i).after.length - j; omega) suA slA sfA
              · repeat' (first | refine go ?_ | refine goX ?_ | refine goB ?_ | (refine goG ?_; intro g) | (refine goV ?_; intro v) | refine goE ?_ | (refine goEG ?_; intro g) | refine goD ?_ | refine goXD ?_ | (refine goDG ?_; intro g) | (refine goDV ?_; intro v) | refine d17Ck ?_ | fail)
                simp only [S.tcell2]
                repeat' (first | refine go ?_ | refine goX ?_ | refine goB ?_ | (refine goG ?_; intro g) | (refine goV ?_; intro v) | refine goE ?_ | (refine goEG ?_; intro g) | refine goD ?_ | refine goXD ?_ | (refine goDG ?_; intro g) | (refine goDV ?_; intro v) | refine d17Ck ?_ | fail)
                refine LoopEnd.mk (j + 1, false) ⟨by show j + 1 ≤ (S.tg ts i).after.length; omega, ⟨fun h => (by cases h), fun h => ?_⟩⟩ (by show (S.tg ts i).after.length - (j + 1) < (S.tg ts i).after.length - j; omega) suA slA sfA
                refine absurd ?_ hno
                rcases h with h | ⟨x, h1, h2⟩
                · exact .inl h
                · by_cases e : x = j
                  · subst e; exact absurd h2 ce
                  · exact .inr ⟨x, by have h1 : x < j + 1 := h1; omega, h2⟩
          · obtain rfl : j = (S.tg ts i).after.length := by omega
            have hin : edB ts st on i k = b := by
              rw [Bool.eq_iff_iff, hb, hed, mem_gE]
            rw [hin] at hrs
            cases b with
            | true =>
              clear hrs
              have hrs' : pthK ts st on i ++ rowB ts st on i (k + 1) = (pthK ts st on i ++ rowB ts st on i k) ++ [⟨(i : Int) + 1, (k : Int) + 1, -(S.tg ts k).time⟩] := by rw [rowB_succ, hin, if_pos rfl, List.append_assoc]
              repeat' (first | refine go ?_ | refine goX ?_ | refine goB ?_ | (refine goG ?_; intro g) | (refine goV ?_; intro v) | refine goE ?_ | (refine goEG ?_; intro g) | refine goD ?_ | refine goXD ?_ | (refine goDG ?_; intro g) | (refine goDV ?_; intro v) | refine d17Ck ?_ | fail)
              simp only [S.tcell0]
              repeat' (first | refine go ?_ | refine goX ?_ | refine goB ?_ | (refine goG ?_; intro g) | (refine goV ?_; intro v) | refine goE ?_ | (refine goEG ?_; intro g) | refine goD ?_ | refine goXD ?_ | (refine goDG ?_; intro g) | (refine goDV ?_; intro v) | refine d17Ck ?_ | fail)
              first | refine WL.callK (ofw_c 1 (-(S.tg ts k).time) 1 1 (by decide) (by decide) (by unfold B2; omega) (by decide)) ?_ | refine WD.callK (ofw_c 1 (-(S.tg ts k).time) 1 1 (by decide) (by decide) (by unfold B2; omega) (by decide)) ?_ | refine LO.callM (ofw_c 1 (-(S.tg ts k).time) 1 1 (by decide) (by decide) (by unfold B2; omega) (by decide)) ?_
              rintro _ _ _ ⟨m5, rfl, rfl, rfl⟩
              simp only [List.nil_append, List.cons_append]
              rw [show -(S.tg ts k).time * ((1 : Nat) : Int) = -(S.tg ts k).time by omega]
              repeat' (first | refine go ?_ | refine goX ?_ | refine goB ?_ | (refine goG ?_; intro g) | (refine goV ?_; intro v) | refine goE ?_ | (refine goEG ?_; intro g) | refine goD ?_ | refine goXD ?_ | (refine goDG ?_; intro g) | (refine goDV ?_; intro v) | refine d17Ck ?_ | fail)
              refine WL.l rfl rfl (LO.bsB1 (b := ⟨(i : Int) + 1, (k : Int) + 1, -(S.tg ts k).time⟩) (m := m5) rfl (fun w2 => ?_))
              repeat' (first | refine go ?_ | refine goX ?_ | refine goB ?_ | (refine goG ?_; intro g) | (refine goV ?_; intro v) | refine goE ?_ | (refine goEG ?_; intro g) | refine goD ?_ | refine goXD ?_ | (refine goDG ?_; intro g) | (refine goDV ?_; intro v) | refine d17Ck ?_ | fail)
              have hm5 : ∀ {F : List Fct}, Has F (mB 1 mk (pthK ts st on i ++ rowB ts st on i k)) → Has F (isQ (qv m5) (wq 1 (-(S.tg ts k).time))) → Has F (mB 1 (upd mk (pthK ts st on i ++ rowB ts st on i k).length m5) (pthK ts st on i ++ rowB ts st on i (k + 1))) := fun h1 h2 => by
                rw [hrs']; exact W.Has.mBapp h1 h2
              exact LoopEnd.mk (k + 1, v, upd mk (pthK ts st on i ++ rowB ts st on i k).length m5) (by show k + 1 ≤ ts.length; omega) (by show ts.length - (k + 1) < ts.length - k; omega) suA (by show List.Sublist [Ow.slice v 59 6 (bcells (pthK ts st on i ++ rowB ts st on i (k + 1)) _)] _; rw [hrs']; exact slA) (HasAll.cons (hm5 hmA hmA) sfA)
            | false =>
              rw [if_neg (by simp)] at hrs
              repeat' (first | refine go ?_ | refine goX ?_ | refine goB ?_ | (refine goG ?_; intro g) | (refine goV ?_; intro v) | refine goE ?_ | (refine goEG ?_; intro g) | refine goD ?_ | refine goXD ?_ | (refine goDG ?_; intro g) | (refine goDV ?_; intro v) | refine d17Ck ?_ | fail)
              exact LoopEnd.mk (k + 1, w, mk) (by show k + 1 ≤ ts.length; omega) (by show ts.length - (k + 1) < ts.length - k; omega) suA (by show List.Sublist [Ow.slice w 59 6 (bcells (pthK ts st on i ++ rowB ts st on i (k + 1)) mk)] _; rw [hrs]; exact slA) (HasAll.cons (by rw [hrs]; exact hmA) sfA)
      · have hbase : ¬ (on.getD i 0 = on.getD k 0 ∧ st.getD k 0 < st.getD i 0) := fun h => c1 h.1
        repeat' (first | refine go ?_ | refine goX ?_ | refine goB ?_ | (refine goG ?_; intro g) | (refine goV ?_; intro v) | refine goE ?_ | (refine goEG ?_; intro g) | refine goD ?_ | refine goXD ?_ | (refine goDG ?_; intro g) | (refine goDV ?_; intro v) | refine d17Ck ?_ | fail)
        refine WC.lp (σ := Nat × Bool) (fun s => [(11, .int .i64 (s.1 : Int)), (10, .bool s.2), (9, .int .i64 (k : Int)), (8, .int .i64 (i : Int)), (7, w), (0, vt), (1, us), (2, uo)]) (fun _ => [Ow.slice w 59 6 (bcells (pthK ts st on i ++ rowB ts st on i k) mk)])
          (fun _ => [mB 1 mk (pthK ts st on i ++ rowB ts st on i k), ge h0, S.sT vt avs ts, S.sA avs ts, sI us st, sI uo on]) (fun s => s.1 ≤ (S.tg ts i).after.length ∧ (s.2 = true ↔ ((on.getD i 0 = on.getD k 0 ∧ st.getD k 0 < st.getD i 0) ∨ ∃ j, j < s.1 ∧ (S.tg ts i).after.getD j 0 = k))) (fun s => (S.tg ts i).after.length - s.1) (0, false) ⟨Nat.zero_le _, ⟨fun h => (by cases h), fun h => h.elim (fun h => absurd h hbase) fun ⟨j, h1, _⟩ => absurd h1 (Nat.not_lt_zero j)⟩⟩ ?_ suA slA sfA
        rintro ⟨j, b⟩ ⟨hj, hb⟩
        simp only at hj hb ⊢
        repeat' (first | refine go ?_ | refine goX ?_ | refine goB ?_ | (refine goG ?_; intro g) | (refine goV ?_; intro v) | refine goE ?_ | (refine goEG ?_; intro g) | refine goD ?_ | refine goXD ?_ | (refine goDG ?_; intro g) | (refine goDV ?_; intro v) | refine d17Ck ?_ | fail)
        simp only [S.tcell2]
        by_cases cj : j < (S.tg ts i).after.length
        · cases b with
          | true =>
            repeat' (first | refine go ?_ | refine goX ?_ | refine goB ?_ | (refine goG ?_; intro g) | (refine goV ?_; intro v) | refine goE ?_ | (refine goEG ?_; intro g) | refine goD ?_ | refine goXD ?_ | (refine goDG ?_; intro g) | (refine goDV ?_; intro v) | refine d17Ck ?_ | fail)
            refine LoopEnd.mk (j + 1, true) ⟨by show j + 1 ≤ (S.tg ts i).after.length; omega, ⟨fun _ => ?_, fun _ => rfl⟩⟩ (by show (S.tg ts i).after.length - (j + 1) < (S.tg ts i).after.length - j; omega) suA slA sfA
            rcases hb.1 rfl with h | ⟨x, h1, h2⟩
            · exact .inl h
            · exact .inr ⟨x, by show x < j + 1; omega, h2⟩
          | false =>
            have hno : ¬ ((on.getD i 0 = on.getD k 0 ∧ st.getD k 0 < st.getD i 0) ∨ ∃ x, x < j ∧ (S.tg ts i).after.getD x 0 = k) := fun h => by have := hb.2 h; cases this
            by_cases ce : (S.tg ts i).after.getD j 0 = k
            · repeat' (first | refine go ?_ | refine goX ?_ | refine goB ?_ | (refine goG ?_; intro g) | (refine goV ?_; intro v) | refine goE ?_ | (refine goEG ?_; intro g) | refine goD ?_ | refine goXD ?_ | (refine goDG ?_; intro g) | (refine goDV ?_; intro v) | refine d17Ck ?_ | fail)
              simp only [S.tcell2]
              repeat' (first | refine go ?_ | refine goX ?_ | refine goB ?_ | (refine goG ?_; intro g) | (refine goV ?_; intro v) | refine goE ?_ | (refine goEG ?_; intro g) | refine goD ?_ | refine goXD ?_ | (refine goDG ?_; intro g) | (refine goDV ?_; intro v) | refine d17Ck ?_ | fail)
              exact LoopEnd.mk (j + 1, true) ⟨by show j + 1 ≤ (S.tg ts i).after.length; omega, ⟨fun _ => .inr ⟨j, by show j < j + 1; omega, ce⟩, fun _ => rfl⟩⟩ (by show (S.tg ts i).after.length - (j + 1) < (S.tg ts i).after.length - j; omega) suA slA sfA
            · repeat' (first | refine go ?_ | refine goX ?_ | refine goB ?_ | (refine goG ?_; intro g) | (refine goV ?_; intro v) | refine goE ?_ | (refine goEG ?_; intro g) | refine goD ?_ | refine goXD ?_ | (refine goDG ?_; intro g) | (refine goDV ?_; intro v) | refine d17Ck ?_ | fail)
              simp only [S.tcell2]
              repeat' (first | refine go ?_ | refine goX ?_ | refine goB ?_ | (refine goG ?_; intro g) | (refine goV ?_; intro v) | refine goE ?_ | (refine goEG ?_; intro g) | refine goD ?_ | refine goXD ?_ | (refine goDG ?_; intro g) | (refine goDV ?_; intro v) | refine d17Ck ?_ | fail)
              refine LoopEnd.mk (j + 1, false) ⟨by show j + 1 ≤ (S.tg ts i).after.length; omega, ⟨fun h => (by cases h), fun h => ?_⟩⟩ (by show (S.tg ts i).after.length - (j + 1) < (S.tg ts i).after.length - j; omega) suA slA sfA
              refine absurd ?_ hno
              rcases h with h | ⟨x, h1, h2⟩
              · exact .inl h
              · by_cases e : x = j
                · subst e; exact absurd h2 ce
                · exact .inr ⟨x, by have h1 : x < j + 1 := h1; omega, h2⟩
        · obtain rfl : j = (S.tg ts i).after.length := by omega
          have hin : edB ts st on i k = b := by
            rw [Bool.eq_iff_iff, hb, hed, mem_gE]
          rw [hin] at hrs
          cases b with
          | true =>
            clear hrs
            have hrs' : pthK ts st on i ++ rowB ts st on i (k + 1) = (pthK ts st on i ++ rowB ts st on i k) ++ [⟨(i : Int) + 1, (k : Int) + 1, -(S.tg ts k).time⟩] := by rw [rowB_succ, hin, if_pos rfl, List.append_assoc]
            repeat' (first | refine go ?_ | refine goX ?_ | refine goB ?_ | (refine goG ?_; intro g) | (refine goV ?_; intro v) | refine goE ?_ | (refine goEG ?_; intro g) | refine goD ?_ | refine goXD ?_ | (refine goDG ?_; intro g) | (refine goDV ?_; intro v) | refine d17Ck ?_ | fail)
            simp only [S.tcell0]
            repeat' (first | refine go ?_ | refine goX ?_ | refine goB ?_ | (refine goG ?_; intro g) | (refine goV ?_; intro v) | refine goE ?_ | (refine goEG ?_; intro g) | refine goD ?_ | refine goXD ?_ | (refine goDG ?_; intro g) | (refine goDV ?_; intro v) | refine d17Ck ?_ | fail)
            first | refine WL.callK (ofw_c 1 (-(S.tg ts k).time) 1 1 (by decide) (by decide) (by unfold B2; omega) (by decide)) ?_ | refine WD.callK (ofw_c 1 (-(S.tg ts k).time) 1 1 (by decide) (by decide) (by unfold B2; omega) (by decide)) ?_ | refine LO.callM (ofw_c 1 (-(S.tg ts k).time) 1 1 (by decide) (by decide) (by unfold B2; omega) (by decide)) ?_
            rintro _ _ _ ⟨m5, rfl, rfl, rfl⟩
            simp only [List.nil_append, List.cons_append]
            rw [show -(S.tg ts k).time * ((1 : Nat) : Int) = -(S.tg ts k).time by omega]
            repeat' (first | refine go ?_ | refine goX ?_ | refine goB ?_ | (refine goG ?_; intro g) | (refine goV ?_; intro v) | refine goE ?_ | (refine goEG ?_; intro g) | refine goD ?_ | refine goXD ?_ | (refine goDG ?_; intro g) | (refine goDV ?_; intro v) | refine d17Ck ?_ | fail)
            refine WL.l rfl rfl (LO.bsB1 (b := ⟨(i : Int) + 1, (k : Int) + 1, -(S.tg ts k).time⟩) (m := m5) rfl (fun w2 => ?_))
            repeat' (first | refine go ?_ | refine goX ?_ | refine goB ?_ | (refine goG ?_; intro g) | (refine goV ?_; intro v) | refine goE ?_ | (refine goEG ?_; intro g) | refine goD ?_ | refine goXD ?_ | (refine goDG ?_; intro g) | (refine goDV ?_; intro v) | refine d17Ck ?_ | fail)
            have hm5 : ∀ {F : List Fct}, Has F (mB 1 mk (pthK ts st on i ++ rowB ts st on i k)) → Has F (isQ (qv m5) (wq 1 (-(S.tg ts k).time))) → Has F (mB 1 (upd mk (pthK ts st on i ++ rowB ts st on i k).length m5) (pthK ts st on i ++ rowB ts st on i (k + 1))) := fun h1 h2 => by
              rw [hrs']; exact W.Has.mBapp h1 h2
            exact LoopEnd.mk (k + 1, v, upd mk (pthK ts st on i ++ rowB ts st on i k).length m5) (by show k + 1 ≤ ts.length; omega) (by show ts.length - (k + 1) < ts.length - k; omega) suA (by show List.Sublist [Ow.slice v 59 6 (bcells (pthK ts st on i ++ rowB ts st on i (k + 1)) _)] _; rw [hrs']; exact slA) (HasAll.cons (hm5 hmA hmA) sfA)
          | false =>
            rw [if_neg (by simp)] at hrs
            repeat' (first | refine go ?_ | refine goX ?_ | refine goB ?_ | (refine goG ?_; intro g) | (refine goV ?_; intro v) | refine goE ?_ | (refine goEG ?_; intro g) | refine goD ?_ | refine goXD ?_ | (refine goDG ?_; intro g) | (refine goDV ?_; intro v) | refine d17Ck ?_ | fail)
            exact LoopEnd.mk (k + 1, w, mk) (by show k + 1 ≤ ts.length; omega) (by show ts.length - (k + 1) < ts.length - k; omega) suA (by show List.Sublist [Ow.slice w 59 6 (bcells (pthK ts st on i ++ rowB ts st on i (k + 1)) mk)] _; rw [hrs]; exact slA) (HasAll.cons (by rw [hrs]; exact hmA) sfA)
    · obtain rfl : k = ts.length := by omega
      repeat' (first | refine go ?_ | refine goX ?_ | refine goB ?_ | (refine goG ?_; intro g) | (refine goV ?_; intro v) | refine goE ?_ | (refine goEG ?_; intro g) | refine goD ?_ | refine goXD ?_ | (refine goDG ?_; intro g) | (refine goDV ?_; intro v) | refine d17Ck ?_ | fail)
      exact LoopEnd.mk (i + 1, w, mk) (by show i + 1 ≤ ts.length; omega) (by show ts.length - (i + 1) < ts.length - i; omega) suA slA sfA
  · obtain rfl : i = ts.length := by omega
    repeat' (first | refine go ?_ | refine goX ?_ | refine goB ?_ | (refine goG ?_; intro g) | (refine goV ?_; intro v) | refine goE ?_ | (refine goEG ?_; intro g) | refine goD ?_ | refine goXD ?_ | (refine goDG ?_; intro g) | (refine goDV ?_; intro v) | refine d17Ck ?_ | fail)
    show WC _ _ _ _ _ _ _
    refine WC.freezeB (D := 1) (el := 59) u mm (pthK ts st on ts.length) (by repeat (first | exact Sel.head | apply Sel.tail)) hmA ?_
    exact WC.ret (Fin.p [] [fB 1 u mm (pthP ts st on)] (ResE.t1 rfl rfl) meA (List.nil_sublist _) haA ⟨mm, rfl, rfl⟩)
end H
end Go.Proofs.YthggloiigkbfeaaGreat
namespace Go.Proofs.YthggloiigkbfeaaGreat
namespace S
open W Go.RowKit
section
variable {e : Env} {bx : List Ow} {F : List Fct} {ty : TypeId} {x y z x1 x2 x3 : Operand} {u : Value} {n : Nat} {a b : Int} {K : RPost}
theorem YO.build48 (hx : ev e x = some (.int .i64 a)) (hy : ev e y = some (.int .i64 b)) : YO Tryz.prog (.build 76 #[(0, x), (1, y)]) ty e bx F (.agg [Value.int .i64 a, .int .i64 b, .slice none 0 0].toArray) :=
  YO.build (parts := [(0, x), (1, y)]) (.cons hx (.cons hy .nil)) fun w => run_build w 76 _ _ (by kernel_rfl)
theorem YO.build48a (hx : ev e x = some (.int .i64 a)) (hy : ev e y = some (.int .i64 b)) (hz : ev e z = some u) (hu : KnS bx F u n) : YO Tryz.prog (.build 76 #[(0, x), (1, y), (2, z)]) ty e bx F (.agg [Value.int .i64 a, .int .i64 b, u].toArray) := fun k fr ac w o hop hty hk ho => by
  obtain ⟨a', cap, rfl, _⟩ := (hu fr w ho).is
  exact (YO.build (P := Tryz.prog) (bx := bx) (F := F) (ty := ty) (parts := [(0, x), (1, y), (2, z)]) (.cons hx (.cons hy (.cons hz .nil))) fun w => run_build w 76 _ _ (by kernel_rfl)) k fr ac w o hop hty hk ho
theorem LO.bs3 {t1 o1 t2 o2 t3 o3 : Int} (h1 : ev e x1 = some (.agg [Value.int .i64 t1, .int .i64 o1, .slice none 0 0].toArray)) (h2 : ev e x2 = some (.agg [Value.int .i64 t2, .int .i64 o2, .slice none 0 0].toArray)) (h3 : ev e x3 = some (.agg [Value.int .i64 t3, .int .i64 o3, u].toArray)) (hu : KnS bx F u n)
    (h : ∀ v, K v (Ow.slice v 76 3 [.int .i64 t1, .int .i64 o1, .slice none 0 0, .int .i64 t2, .int .i64 o2, .slice none 0 0, .int .i64 t3, .int .i64 o3, u] :: bx) F) : LO Tryz.prog (.buildSlice 23 3 #[(0, x1), (1, x2), (2, x3)]) ty e bx F K := fun k fr ac w o next Q' hop hty hk ho hn => by
  obtain ⟨a', cap, rfl, _⟩ := (hu fr w ho).is
  exact LO.buildSlice (P := Tryz.prog) (t := 23) (el := 76) (sz := 3) (len := 3) (parts := [(0, x1), (1, x2), (2, x3)]) (.cons h1 (.cons h2 (.cons h3 .nil))) (fun w => by kernel_rfl) rfl (by decide) h k fr ac w o next Q' hop hty hk ho hn
theorem goT {G G' : Prop} (h : G') (s : Bx G' → G := by
  intro h
  (apply WL.k_build; (first | (apply YO.build48; exact rfl; exact rfl) | (apply YO.build48a; exact rfl; exact rfl; exact rfl; exact knA)); exact rfl; exact rfl)
  exact Bx.h h) : G := s ⟨h⟩
end
def three : List Tk := [⟨3, 3, []⟩, ⟨2, 1, []⟩, ⟨2, 3, [0]⟩]
def IsT (ts : List Tk) : RPost := fun v b G => ∃ avs, b = [] ∧ G = [sT v avs ts, sA avs ts]
theorem WL.freezeT {P : Program} {n : Nat} {L rest : List Oper} {e : Env} {bx bx' : List Ow} {F : List Fct} {Q : Env → List Ow → List Fct → Prop} {v : Value} {cs : List Value} (ts : List Tk) (avs : List Value) (hs : Sel bx (.slice v 76 3 cs) (.slice (.slice none 0 0) 76 3 []) bx') (hl : cs.length = ts.length * 3) (hc : ∀ j, j < ts.length * 3 → cs[j]? = some (tcell ts avs j))
    (h : WL P n L rest e bx' (sT v avs ts :: F) Q) : WL P n L rest e bx F Q := fun fr w0 a w Q' hQ hk hr ho => h fr w0 a w Q' hQ hk hr (ho.freeze hs hl (by decide) _ hc)
theorem sA_three {F : List Fct} {u : Value} (h : Has F (sI u [0])) : Has F (sA [.slice none 0 0, .slice none 0 0, u] three) := fun ph hf i hi => by
  have h2 := h ph hf
  have h3 := sI_nil (F := []) ph (by simp)
  match i, hi with
  | 0, _ => exact h3
  | 1, _ => exact h3
  | 2, _ => exact h2
theorem sA_snoc {F : List Fct} {avs : List Value} {ts : List Tk} {v : Value} {t : Tk} (h : Has F (sA avs ts)) (hv : Has F (sI v t.after)) (hl : avs.length = ts.length) : Has F (sA (avs ++ [v]) (ts ++ [t])) := fun ph hf i hi => by
  have h1 := h ph hf
  have h2 := hv ph hf
  by_cases hlt : i < ts.length
  · have e1 : (avs ++ [v]).getD i undef = avs.getD i undef := by simp [List.getD_eq_getElem?_getD, List.getElem?_append_left (show i < avs.length by omega)]
    have e2 : tg (ts ++ [t]) i = tg ts i := by simp [tg, List.getD_eq_getElem?_getD, List.getElem?_append_left hlt]
    rw [e1, e2]; exact h1 i hlt
  · have hi' : i = ts.length := by simp at hi; omega
    have e1 : (avs ++ [v]).getD i undef = v := by subst hi'; rw [← hl]; simp [List.getD_eq_getElem?_getD]
    have e2 : tg (ts ++ [t]) i = t := by subst hi'; simp [tg, List.getD_eq_getElem?_getD]
    rw [e1, e2]; exact h2
attribute [local irreducible] WC WL WD YO LO LoopEnd W.Fin Scalar SliceT FieldAt Row ArrT AllocT KnS Has W.One SrcE IntT
theorem three_c : FnB Tryz.prog 56 [] [] [] (IsT three) := by
  refine fn_of [] 6 Tryz.func56 rfl Tryz.ntmps56 (by kernel_rfl) rfl suA fun h0 => ?_
  repeat' (first | refine go ?_ | refine goT ?_ | (refine goV ?_; intro u))
  (apply WL.l; exact rfl; exact rfl; apply LO.bs3; exact rfl; exact rfl; exact rfl; exact knA; intro v)
  refine WL.freezeT three [.slice none 0 0, .slice none 0 0, u] (by repeat (first | exact Sel.head | apply Sel.tail)) rfl ?_ ?_
  · intro j hj
    match j, hj with
    | 0, _ | 1, _ | 2, _ | 3, _ | 4, _ | 5, _ | 6, _ | 7, _ | 8, _ => rfl
  refine WL.freezeI (l := [0]) (by repeat (first | exact Sel.head | apply Sel.tail)) ?_
  repeat' (first | refine go ?_ | refine goX ?_ | refine goB ?_ | (refine goG ?_; intro g) | (refine goV ?_; intro v))
  refine WC.ret ?_
  exact Fin.p [] [sT v [.slice none 0 0, .slice none 0 0, u] three, sA [.slice none 0 0, .slice none 0 0, u] three] (ResE.t1 rfl rfl) meA (List.nil_sublist _) (.cons hmA (.cons (sA_three hmA) .nil)) ⟨_, rfl, rfl⟩
end S
end Go.Proofs.YthggloiigkbfeaaGreat
namespace Go.Proofs.YthggloiigkbfeaaGreat
namespace S
open W Go.RowKit
def cellsT : List Tk → List Value → List Value
  | t :: ts, v :: avs => .int .i64 t.time :: .int .i64 t.on :: v :: cellsT ts avs
  | _, _ => []
theorem cellsT_len : ∀ {ts : List Tk} {avs : List Value}, avs.length = ts.length → (cellsT ts avs).length = ts.length * 3
  | [], _, _ => by simp [cellsT]
  | t :: ts, [], h => by simp at h
  | t :: ts, v :: avs, h => by
    have := cellsT_len (ts := ts) (avs := avs) (by simpa using h)
    simp [cellsT, this]; omega
theorem cellsT_snoc : ∀ {ts : List Tk} {avs : List Value} {t : Tk} {v : Value}, avs.length = ts.length → cellsT (ts ++ [t]) (avs ++ [v]) = cellsT ts avs ++ [.int .i64 t.time, .int .i64 t.on, v]
  | [], [], _, _, _ => rfl
  | _ :: ts, _ :: avs, t, v, h => by
    have := cellsT_snoc (ts := ts) (avs := avs) (t := t) (v := v) (by simpa using h)
    simp [cellsT, this]
theorem cellsT_get : ∀ {ts : List Tk} {avs : List Value} (j : Nat), avs.length = ts.length → j < ts.length * 3 → (cellsT ts avs)[j]? = some (tcell ts avs j)
  | t :: ts, v :: avs, 0, _, _ => rfl
  | t :: ts, v :: avs, 1, _, _ => rfl
  | t :: ts, v :: avs, 2, _, _ => rfl
  | t :: ts, v :: avs, j + 3, h, hj => by
    have ih := cellsT_get (ts := ts) (avs := avs) j (by simpa using h) (by simp at hj; omega)
    show (cellsT ts avs)[j]? = _
    rw [ih]
    unfold tcell
    rw [show (j + 3) % 3 = j % 3 by omega, show (j + 3) / 3 = j / 3 + 1 by omega]
    rfl
section
variable {e : Env} {bx : List Ow} {bx' : Value → List Ow} {F : List Fct} {ty : TypeId} {x y : Operand} {v yv u : Value} {n : Nat} {a b : Int} {K : RPost} {cs : List Value}
theorem LO.bs1T (h1 : ev e x = some (.agg [Value.int .i64 a, .int .i64 b, u].toArray)) (hu : KnS bx F u n) (h : ∀ v, K v (Ow.slice v 76 3 [.int .i64 a, .int .i64 b, u] :: bx) F) : LO Tryz.prog (.buildSlice 23 1 #[(0, x)]) ty e bx F K := fun k fr ac w o next Q' hop hty hk ho hn => by
  obtain ⟨a', cap, rfl, _⟩ := (hu fr w ho).is
  exact LO.buildSlice (P := Tryz.prog) (t := 23) (el := 76) (sz := 3) (len := 1) (parts := [(0, x)]) (.cons h1 .nil) (fun w => by kernel_rfl) rfl (by decide) h k fr ac w o next Q' hop hty hk ho hn
theorem LO.appT (hx : ev e x = some v) (hy : ev e y = some yv) (hsrc : Ow.slice yv 76 3 [.int .i64 a, .int .i64 b, u] ∈ bx) (hs : ∀ v', Sel bx (.slice v 76 3 cs) (.slice v' 76 3 (cs ++ [.int .i64 a, .int .i64 b, u])) (bx' v')) (hu : KnS bx F u n) (hl : cs.length ≤ 1000) (h : ∀ v', K v' (bx' v') F) :
    LO Tryz.prog (.call { callee := .builtin .append, args := #[x, y], argTypes := #[23, 23] }) ty e bx F K :=
  LO.byOne (One.sl hu) fun _ h1 => LO.append T.e23 hx hy hs (SrcE.one hsrc rfl (by decide)) (fun c hc => by
    simp only [List.mem_cons, List.not_mem_nil, or_false] at hc
    rcases hc with rfl | rfl | rfl
    · rfl
    · rfl
    · exact h1) (by simp; omega) (by simp; omega) h
end
theorem WC.freezeT {P : Program} {n : Nat} {c : Code} {e : Env} {bx bx' : List Ow} {F : List Fct} {Q : Post} {v : Value} {cs : List Value} (ts : List Tk) (avs : List Value) (hs : Sel bx (.slice v 76 3 cs) (.slice (.slice none 0 0) 76 3 []) bx') (hl : cs.length = ts.length * 3) (hc : ∀ j, j < ts.length * 3 → cs[j]? = some (tcell ts avs j))
    (h : WC P n c e bx' (sT v avs ts :: F) Q) : WC P n c e bx F Q := fun fr w0 a w hk hr ho => h fr w0 a w hk hr (ho.freeze hs hl (by decide) _ hc)
theorem sA_nil {F : List Fct} : Has F (sA [] []) := fun _ _ i hi => by simp at hi
theorem pow_mach (l : List Int) : (1 : Int) * 2 ^ (machP l).toNat ≤ 8 ∧ 1 ≤ (1 : Int) * 2 ^ (machP l).toNat := by
  have h := all_bd l
  unfold allP at h; omega
attribute [local irreducible] WC WL WD YO LO LoopEnd W.Fin Scalar SliceT FieldAt Row ArrT AllocT KnS Has W.One SrcE IntT
set_option maxHeartbeats 2000000 in
set_option maxRecDepth 4000 in
theorem tasks_c (lv : Value) (l : List Int) (most : Nat) (hm : most ≤ 10) (hl : ∀ x ∈ l, I64 x) : FnB Tryz.prog 11 [lv, .int .i64 most] [] [sI lv l] (IsT (tasksP l most)) := by
  refine fn_of [(0, lv), (1, .int .i64 most)] 91 Tryz.func11 rfl Tryz.ntmps11 (by kernel_rfl) rfl suA fun h0 => ?_
  refine WC.lenI lv l hmA fun hlen => ?_
  have hmb := mach_bd l
  have hpm := pow_mach l
  have hab := all_bd l
  repeat' (first | refine go ?_ | refine goX ?_ | refine goB ?_ | (refine goG ?_; intro g) | (refine goV ?_; intro v))
  first | refine WL.callV (machines_c lv l hl) ?_ | refine WD.callV (machines_c lv l hl) ?_
  rw [show 1 + atP l 0 3 = machP l from rfl]
  repeat' (first | refine go ?_ | refine goX ?_ | refine goB ?_ | (refine goG ?_; intro g) | (refine goV ?_; intro v))
  refine WC.addNil 76 3 ?_
  refine WC.fact (sA [] []) sA_nil ?_
  refine WC.lp (σ := Nat × Value × List Value) (fun s => [(7, .int .i64 (s.1 : Int)), (6, s.2.1), (5, .int .i64 (allP l)), (0, lv), (1, .int .i64 most)]) (fun s => [Ow.slice s.2.1 76 3 (cellsT (tasksN l s.1) s.2.2)]) (fun s => [ge h0, sI lv l, sA s.2.2 (tasksN l s.1)]) (fun s => (s.1 ≤ most ∧ s.2.2.length = s.1) ∧ s.1 ≤ cntP l most) (fun s => most - s.1) (0, .slice none 0 0, []) ⟨by simp, by simp⟩ ?_
  rintro ⟨i, ov, avs⟩ ⟨⟨hi, hav⟩, hic⟩
  simp only at hi hav hic ⊢
  have hcnt : cntP l most = min most ((l.length + 1) / 3) := rfl
  have htl := tasksN_len (l := l) i
  have hcl := cellsT_len (ts := tasksN l i) (avs := avs) (by omega)
  by_cases c1 : 3 * (i : Int) + 1 < (l.length : Int)
  · by_cases c2 : i < most
    · have b1 := atP_bd (l := l) (i := 3 * (i : Int) + 1) (m := 9) (by decide)
      have b2 := atP_bd (l := l) (i := 3 * (i : Int) + 2) (m := 1024) (by decide)
      have b3 := atP_bd (l := l) (i := 3 * (i : Int) + 3) (m := 1024) (by decide)
      have hcase : (¬ 0 < atP l (3 * (i : Int) + 2) 1024 % 3 ∧ tonP l i = allP l) ∨ (0 < atP l (3 * (i : Int) + 2) 1024 % 3 ∧ ¬ 0 < (((atP l (3 * (i : Int) + 2) 1024 / 3).toNat &&& (allP l).toNat : Nat) : Int) ∧ tonP l i = allP l) ∨
          (0 < atP l (3 * (i : Int) + 2) 1024 % 3 ∧ 0 < (((atP l (3 * (i : Int) + 2) 1024 / 3).toNat &&& (allP l).toNat : Nat) : Int) ∧ tonP l i = (((atP l (3 * (i : Int) + 2) 1024 / 3).toNat &&& (allP l).toNat : Nat) : Int)) := by
        unfold tonP txP
        by_cases d1 : 0 < atP l (3 * (i : Int) + 2) 1024 % 3
        · by_cases d2 : 0 < (((atP l (3 * (i : Int) + 2) 1024 / 3).toNat &&& (allP l).toNat : Nat) : Int)
          · rw [if_pos ⟨d1, d2⟩]; exact .inr (.inr ⟨d1, d2, rfl⟩)
          · rw [if_neg fun h => d2 h.2]; exact .inr (.inl ⟨d1, d2, rfl⟩)
        · rw [if_neg fun h => d1 h.1]; exact .inl ⟨d1, rfl⟩
      have hd3 : 0 ≤ atP l (3 * (i : Int) + 2) 1024 / 3 ∧ atP l (3 * (i : Int) + 2) 1024 / 3 ≤ 1024 := by omega
      obtain ⟨onv, honv⟩ : ∃ o, o = tonP l i := ⟨_, rfl⟩
      repeat' (first | refine go ?_ | refine goX ?_ | refine goB ?_ | (refine goG ?_; intro g) | (refine goV ?_; intro v))
      first | refine WL.callV (at_c lv l (3 * (i : Int) + 1) 9 hl (by decide)) ?_ | refine WD.callV (at_c lv l (3 * (i : Int) + 1) 9 hl (by decide)) ?_
      repeat' (first | refine go ?_ | refine goX ?_ | refine goB ?_ | (refine goG ?_; intro g) | (refine goV ?_; intro v))
      refine goT ?_
      repeat' (first | refine go ?_ | refine goX ?_ | refine goB ?_ | (refine goG ?_; intro g) | (refine goV ?_; intro v))
      first | refine WL.callV (at_c lv l (3 * (i : Int) + 2) 1024 hl (by decide)) ?_ | refine WD.callV (at_c lv l (3 * (i : Int) + 2) 1024 hl (by decide)) ?_
      rcases hcase with ⟨d1, e⟩ | ⟨d1, d2, e⟩ | ⟨d1, d2, e⟩
      all_goals
        repeat' (first | refine go ?_ | refine goX ?_ | refine goB ?_ | (refine goG ?_; intro g) | (refine goV ?_; intro v))
        revert g; intro gt
        first | refine WL.callV (at_c lv l (3 * (i : Int) + 3) 1024 hl (by decide)) ?_ | refine WD.callV (at_c lv l (3 * (i : Int) + 3) 1024 hl (by decide)) ?_
        repeat' (first | refine go ?_ | refine goX ?_ | refine goB ?_ | (refine goG ?_; intro g) | (refine goV ?_; intro v))
        first | refine WL.callV (at_c lv l (3 * (i : Int) + 2) 1024 hl (by decide)) ?_ | refine WD.callV (at_c lv l (3 * (i : Int) + 2) 1024 hl (by decide)) ?_
        repeat' (first | refine go ?_ | refine goX ?_ | refine goB ?_ | (refine goG ?_; intro g) | (refine goV ?_; intro v))
        have hy : 0 ≤ tyP l i ∧ tyP l i ≤ 1024 := by
          unfold tyP
          have : (atP l (3 * (i : Int) + 3) 1024).toNat &&& (atP l (3 * (i : Int) + 2) 1024).toNat ≤ (atP l (3 * (i : Int) + 3) 1024).toNat := Nat.and_le_left
          omega
        refine WC.addNil 3 1 ?_
        refine WC.lp (σ := Nat × Value) (fun s => [(11, .int .i64 (s.1 : Int)), (10, .int .i64 (tyP l i)), (8, ptr gt), (7, .int .i64 (i : Int)), (6, ov), (5, .int .i64 (allP l)), (0, lv), (1, .int .i64 most)]) (fun s => [Ow.slice s.2 3 1 (ints (aftP (tyP l i) s.1)), Ow.cells gt 76 [.int .i64 (1 + atP l (3 * (i : Int) + 1) 9), .int .i64 onv, s.2], Ow.slice ov 76 3 (cellsT (tasksN l i) avs)]) (fun _ => [ge h0, sI lv l, sA avs (tasksN l i)]) (fun s => s.1 ≤ i) (fun s => i - s.1) (0, .slice none 0 0) (by simp) ?_ suA (by rw [honv, e]; exact slA)
        clear e
        rintro ⟨k, av⟩ hk
        simp only at hk ⊢
        have halen := aft_len (y := tyP l i) k
        have ea : aftP (tyP l i) (k + 1) = if tyP l i / 2 ^ ((k : Int)).toNat % 2 = 1 then aftP (tyP l i) k ++ [(k : Int)] else aftP (tyP l i) k := rfl
        by_cases hki : k < i
        · have hdv := div_bd (o := tyP l i) ((k : Int)).toNat hy.1
          by_cases db : tyP l i / 2 ^ ((k : Int)).toNat % 2 = 1
          · rw [if_pos db] at ea
            repeat' (first | refine go ?_ | refine goX ?_ | refine goB ?_ | (refine goG ?_; intro g) | (refine goV ?_; intro v))
            exact LoopEnd.mk (k + 1, v) (by show k + 1 ≤ i; omega) (by show i - (k + 1) < i - k; omega) suA (by simp only [ea, ints_append]; exact slA)
          · rw [if_neg db] at ea
            repeat' (first | refine go ?_ | refine goX ?_ | refine goB ?_ | (refine goG ?_; intro g) | (refine goV ?_; intro v))
            exact LoopEnd.mk (k + 1, av) (by show k + 1 ≤ i; omega) (by show i - (k + 1) < i - k; omega) suA (by simp only [ea]; exact slA)
        · obtain rfl : k = i := by omega
          repeat' (first | refine go ?_ | refine goX ?_ | refine goB ?_ | (refine goG ?_; intro g) | (refine goV ?_; intro v))
          refine WL.freezeI (l := aftP (tyP l k) k) (by repeat (first | exact Sel.head | apply Sel.tail)) ?_
          (apply WL.k_load; (apply YO.ldW0; exact T.r76; exact rfl; exact meA; exact rfl); exact rfl; exact rfl)
          (apply WL.l; exact rfl; exact rfl; apply LO.bs1T; exact rfl; exact knA; intro tv)
          (apply WL.l; exact rfl; exact rfl; apply LO.appT; exact rfl; exact rfl; exact meA; (intro v; exact seA); exact knA; omega; intro nv)
          have et : tasksN l (k + 1) = tasksN l k ++ [tkP l k] := rfl
          have ec : cellsT (tasksN l (k + 1)) (avs ++ [av]) = cellsT (tasksN l k) avs ++ [.int .i64 (1 + atP l (3 * (k : Int) + 1) 9), .int .i64 onv, av] := by rw [et, cellsT_snoc (by omega), honv]; rfl
          refine WL.fact (sA (avs ++ [av]) (tasksN l (k + 1))) (sA_snoc (t := tkP l k) hmA (W.Has.mem meA) (by omega)) ?_
          repeat' (first | refine go ?_ | refine goX ?_ | refine goB ?_ | (refine goG ?_; intro g) | (refine goV ?_; intro v))
          exact LoopEnd.mk (k + 1, nv, avs ++ [av]) ⟨⟨by show k + 1 ≤ most; omega, by simp [hav]⟩, by show k + 1 ≤ cntP l most; omega⟩ (by show most - (k + 1) < most - k; omega) suA (by simp only [ec]; exact slA)
    · have hie : i = cntP l most := by omega
      repeat' (first | refine go ?_ | refine goX ?_ | refine goB ?_ | (refine goG ?_; intro g) | (refine goV ?_; intro v))
      refine WC.freezeT (tasksN l i) avs (by repeat (first | exact Sel.head | apply Sel.tail)) hcl (fun j hj => cellsT_get j (by omega) hj) ?_
      refine WC.ret ?_
      exact Fin.p [] [sT ov avs (tasksN l i), sA avs (tasksN l i)] (ResE.t1 rfl rfl) meA (List.nil_sublist _) haA ⟨avs, rfl, by rw [tasksP, ← hie]⟩
  · have hie : i = cntP l most := by omega
    repeat' (first | refine go ?_ | refine goX ?_ | refine goB ?_ | (refine goG ?_; intro g) | (refine goV ?_; intro v))
    refine WC.freezeT (tasksN l i) avs (by repeat (first | exact Sel.head | apply Sel.tail)) hcl (fun j hj => cellsT_get j (by omega) hj) ?_
    refine WC.ret ?_
    exact Fin.p [] [sT ov avs (tasksN l i), sA avs (tasksN l i)] (ResE.t1 rfl rfl) meA (List.nil_sublist _) haA ⟨avs, rfl, by rw [tasksP, ← hie]⟩
end S
end Go.Proofs.YthggloiigkbfeaaGreat
namespace Go.Proofs.YthggloiigkbfeaaGreat
namespace S
open W Go.RowKit
theorem three_best : bestP three 2 = ([0, 3, 3], [0, 0, 1], 5, 0) := by decide +kernel
theorem three_bound : boundP three 2 = ([0, 2], 0, 5) := by decide +kernel
theorem three_l1 : lstN three 2 [1, 0, 2] 3 = ([0, 0, 3], [1, 0, 0], 5) := by decide +kernel
theorem three_l2 : lstN three 2 [0, 2, 1] 3 = ([0, 5, 3], [0, 0, 0], 7) := by decide +kernel
theorem three_good : AllGood 2 three := fun i hi => by
  match i, hi with
  | 0, _ => exact ⟨by decide, by decide, by decide, by decide, fun k hk => by simp [three] at hk⟩
  | 1, _ => exact ⟨by decide, by decide, by decide, by decide, fun k hk => by simp [three] at hk⟩
  | 2, _ => exact ⟨by decide, by decide, by decide, by decide, fun k hk => by
      have : k = 0 := by simp [three] at hk; omega
      subst this; exact ⟨by decide, by decide, fun h => by omega⟩⟩
theorem three_valid : validE three 2 = 0 := validE_ok (by decide) (by decide) (by decide) three_good
theorem three_i64 : TI64 three := fun i => by
  match i with
  | 0 => unfold I64; simp [three]
  | 1 => unfold I64; simp [three]
  | 2 => unfold I64; simp [three]
  | (_ + 3) => unfold I64; simp [three, tk0]
theorem three_check : checkP three 2 [0, 3, 3] [0, 0, 1] = (5, 0) :=
  (checkP_ok (m := 2) three_valid (by decide) (by decide) (by unfold Feas okTask pairOK; decide +kernel)).trans (by decide +kernel)
theorem three_list1 : listP three 2 [1, 0, 2] = ([0, 0, 3], [1, 0, 0], 5, 0) := by
  have h := listP_ok (m := 2) (o := [1, 0, 2]) three_valid (by decide) (by unfold okOrder okAt; decide +kernel)
  rw [show three.length = 3 from rfl, three_l1] at h; exact h
theorem three_list2 : listP three 2 [0, 2, 1] = ([0, 5, 3], [0, 0, 0], 7, 0) := by
  have h := listP_ok (m := 2) (o := [0, 2, 1]) three_valid (by decide) (by unfold okOrder okAt; decide +kernel)
  rw [show three.length = 3 from rfl, three_l2] at h; exact h
attribute [local irreducible] WC WL WD YO LO LoopEnd W.Fin Scalar SliceT FieldAt Row ArrT AllocT KnS Has W.One SrcE IntT
set_option maxHeartbeats 4000000 in
set_option maxRecDepth 8000 in
theorem lives_c : FnB Tryz.prog 16 [] [] [] (IsV (.bool true)) := by
  refine fn_of [] 112 Tryz.func16 rfl Tryz.ntmps16 (by kernel_rfl) rfl suA fun h0 => ?_
  repeat' (first | refine go ?_ | refine goX ?_ | refine goB ?_ | (refine goG ?_; intro g) | (refine goV ?_; intro v))
  refine WL.callG [] _ (.refl _) three_c ?_
  rintro v1 _ _ ⟨avs1, rfl, rfl⟩
  simp only [List.nil_append, List.cons_append]
  have h1 := best_c v1 avs1 three 2 three_i64
  rw [if_pos three_valid, three_best] at h1
  first | refine WL.callP (h1) ?_ | refine WD.callP (h1) ?_
  rintro _ _ _ ⟨a1, c1, rfl, rfl, rfl⟩
  simp only [List.cons_append, List.nil_append]
  repeat' (first | refine go ?_ | refine goX ?_ | refine goB ?_ | (refine goG ?_; intro g) | (refine goV ?_; intro v))
  refine WL.callG [] _ (.refl _) three_c ?_
  rintro v2 _ _ ⟨avs2, rfl, rfl⟩
  simp only [List.nil_append, List.cons_append]
  have h2 := check_c v2 a1 c1 avs2 three 2 [0, 3, 3] [0, 0, 1] three_i64
  rw [three_check] at h2
  repeat' (first | refine go ?_ | refine goX ?_ | refine goB ?_ | (refine goG ?_; intro g) | (refine goV ?_; intro v))
  first | refine WL.callV (h2) ?_ | refine WD.callV (h2) ?_
  repeat' (first | refine go ?_ | refine goX ?_ | refine goB ?_ | (refine goG ?_; intro g) | (refine goV ?_; intro v))
  refine WL.callG [] _ (.refl _) three_c ?_
  rintro v3 _ _ ⟨avs3, rfl, rfl⟩
  simp only [List.nil_append, List.cons_append]
  have h3 := bound_c v3 avs3 three 2 three_i64
  rw [if_pos three_valid, three_valid, show (2 : Int).toNat = 2 from rfl, three_bound] at h3
  first | refine WL.callP (h3) ?_ | refine WD.callP (h3) ?_
  rintro _ _ _ ⟨c3, rfl, rfl, rfl⟩
  simp only [List.cons_append, List.nil_append]
  repeat' (first | refine go ?_ | refine goX ?_ | refine goB ?_ | (refine goG ?_; intro g) | (refine goV ?_; intro v))
  refine WL.callG [] _ (.refl _) three_c ?_
  rintro v4 _ _ ⟨avs4, rfl, rfl⟩
  simp only [List.nil_append, List.cons_append]
  repeat' (first | refine go ?_ | refine goX ?_ | refine goB ?_ | (refine goG ?_; intro g) | (refine goV ?_; intro v))
  revert v; intro u4
  have h4 := list_c v4 u4 avs4 three 2 [1, 0, 2] three_i64
  rw [three_list1] at h4
  first | refine WL.callP (h4) ?_ | refine WD.callP (h4) ?_
  rintro _ _ _ ⟨a4, c4, rfl, rfl, rfl⟩
  simp only [List.cons_append, List.nil_append]
  repeat' (first | refine go ?_ | refine goX ?_ | refine goB ?_ | (refine goG ?_; intro g) | (refine goV ?_; intro v))
  refine WL.callG [] _ (.refl _) three_c ?_
  rintro v5 _ _ ⟨avs5, rfl, rfl⟩
  simp only [List.nil_append, List.cons_append]
  repeat' (first | refine go ?_ | refine goX ?_ | refine goB ?_ | (refine goG ?_; intro g) | (refine goV ?_; intro v))
  revert v; intro u5
  have h5 := list_c v5 u5 avs5 three 2 [0, 2, 1] three_i64
  rw [three_list2] at h5
  first | refine WL.callP (h5) ?_ | refine WD.callP (h5) ?_
  rintro _ _ _ ⟨a5, c5, rfl, rfl, rfl⟩
  simp only [List.cons_append, List.nil_append]
  repeat' (first | refine go ?_ | refine goX ?_ | refine goB ?_ | (refine goG ?_; intro g) | (refine goV ?_; intro v))
  first | refine WL.callV (sameInts_c c3 v [0, 2] [0, 2]) ?_ | refine WD.callV (sameInts_c c3 v [0, 2] [0, 2]) ?_
  rw [decide_eq_true rfl]
  repeat' (first | refine go ?_ | refine goX ?_ | refine goB ?_ | (refine goG ?_; intro g) | (refine goV ?_; intro v))
  first | refine WL.callV (sameInts_c a4 v [0, 0, 3] [0, 0, 3]) ?_ | refine WD.callV (sameInts_c a4 v [0, 0, 3] [0, 0, 3]) ?_
  rw [decide_eq_true rfl]
  repeat' (first | refine go ?_ | refine goX ?_ | refine goB ?_ | (refine goG ?_; intro g) | (refine goV ?_; intro v))
  first | refine WL.callV (sameInts_c c4 v [1, 0, 0] [1, 0, 0]) ?_ | refine WD.callV (sameInts_c c4 v [1, 0, 0] [1, 0, 0]) ?_
  rw [decide_eq_true rfl]
  repeat' (first | refine go ?_ | refine goX ?_ | refine goB ?_ | (refine goG ?_; intro g) | (refine goV ?_; intro v))
  refine WC.ret ?_
  exact Fin.v (ResE.t1 rfl rfl) meA rfl
end S
end Go.Proofs.YthggloiigkbfeaaGreat
namespace Go.Proofs.YthggloiigkbfeaaGreat
open W Go.RowKit
theorem vl_pos {ts : List S.Tk} {st : List Int} (hs : st.length = ts.length) (L : Int) (v : Nat) : vl ([0] ++ st ++ [L]) v = if v = 0 then 0 else if v = ts.length + 1 then L else if v ≤ ts.length then st.getD (v - 1) 0 else 0 := by
  unfold vl
  cases v with
  | zero => rfl
  | succ v =>
    rw [if_neg (by omega)]
    simp only [List.getD_eq_getElem?_getD, List.cons_append, List.nil_append, List.getElem?_cons_succ]
    by_cases c : v + 1 = ts.length + 1
    · rw [if_pos c, List.getElem?_append_right (by omega), show v - st.length = 0 by omega]; rfl
    · rw [if_neg c]
      by_cases d : v + 1 ≤ ts.length
      · rw [if_pos d, List.getElem?_append_left (by omega), show v + 1 - 1 = v by omega]
      · rw [if_neg d, List.getElem?_eq_none (by rw [List.length_append, List.length_singleton]; omega)]; rfl
theorem pth_chk {ts : List S.Tk} {st on : List Int} {M : Nat} (hf : S.Feas ts M st on) (hg : S.AllGood M ts) (hn : ts.length ≤ 7) (hs : st.length = ts.length) {L : Int} (hL : S.lenP ts st = L) : chk ((ts.length : Int) + 2) (pthP ts st on) ([0] ++ st ++ [L]) [] = 0 := by
  have hv := pth_vld (st := st) (on := on) hn
  have h1 := pth_sol (on := on) hf hg hL
  have := chk_sol hv (x := [0] ++ st ++ [L]) (by simp [hs]) (sol_iff.2 fun b hb => by
    have h2 := h1 b hb
    have h3 := hv.tos b hb
    have h4 := hv.frs b hb
    rw [vl_pos hs, vl_pos hs]
    unfold posF at h2
    have e : ∀ v, v < ts.length + 2 → (if v = 0 then (0 : Int) else if v = ts.length + 1 then L else st.getD (v - 1) 0) = if v = 0 then 0 else if v = ts.length + 1 then L else if v ≤ ts.length then st.getD (v - 1) 0 else 0 := fun v hv => by
      by_cases c : v = 0
      · rw [if_pos c, if_pos c]
      · rw [if_neg c, if_neg c]
        by_cases d : v = ts.length + 1
        · rw [if_pos d, if_pos d]
        · rw [if_neg d, if_neg d, if_pos (by omega)]
    rw [← e _ h3, ← e _ h4]; exact h2)
  rwa [show ((ts.length + 2 : Nat) : Int) = (ts.length : Int) + 2 by omega] at this
theorem st_bd {ts : List S.Tk} {st on : List Int} {M : Nat} (hf : S.Feas ts M st on) (hs : st.length = ts.length) (i : Nat) : 0 ≤ st.getD i 0 ∧ st.getD i 0 ≤ 1048576 := by
  by_cases h : i < ts.length
  · exact (hf.1 i h).1
  · have : st.getD i 0 = 0 := by simp [List.getD_eq_getElem?_getD, List.getElem?_eq_none, hs, h]
    omega
theorem take_pos {s : List Int} {i : Nat} (h : i < s.length) : [0] ++ s.take (i + 1) = ([0] ++ s.take i) ++ [s.getD i 0] := by
  rw [List.take_add_one, List.append_assoc]; simp [List.getD_eq_getElem?_getD, h]
theorem pos_has {D : Nat} {F : List Fct} {s : List Int} {i : Nat} {mu : Nat → QM} {m : QM} (hi : i < s.length) (h : Has F (mQ D mu ([0] ++ s.take i))) (h2 : Has F (isQ (qv m) (wq D (s.getD i 0)))) : Has F (mQ D (upd mu (i + 1) m) ([0] ++ s.take (i + 1))) := by
  rw [take_pos hi]
  have := W.Has.mQapp h h2
  have e : ([0] ++ s.take i).length = i + 1 := by rw [List.length_append, List.length_take]; simp only [List.length_singleton]; omega
  rwa [e] at this
theorem pos_last {D : Nat} {F : List Fct} {s : List Int} {n : Nat} {mu : Nat → QM} {m : QM} {L : Int} (hn : s.length = n) (h : Has F (mQ D mu ([0] ++ s.take n))) (h2 : Has F (isQ (qv m) (wq D L))) : Has F (mQ D (upd mu (n + 1) m) ([0] ++ s ++ [L])) := by
  rw [List.take_of_length_le (by omega)] at h
  have := W.Has.mQapp h h2
  have e : ([0] ++ s).length = n + 1 := by rw [List.length_append]; simp only [List.length_singleton]; omega
  rwa [e] at this
theorem hasmQ01 {D : Nat} [Den D] {F : List Fct} {s : List Int} : Has F (mQ D (fun _ => m00) ([0] ++ s.take 0)) := fun p hf i hi => by
  have h : Has F (isQ (qv m00) (wq D 0)) := hasQ0w
  match i, hi with
  | 0, _ => exact h p hf
  | i + 1, hi => exact absurd hi (by simp)
theorem qcells1 : qcells 1 (fun _ => m00) = qcs m00 := by kernel_rfl
theorem pos_wth {ts : List S.Tk} {st on : List Int} {M : Nat} (hf : S.Feas ts M st on) (hs : st.length = ts.length) {L : Int} (hL : L.natAbs ≤ 1048596) (i : Nat) : (([0] ++ st ++ [L]).getD i 0).natAbs ≤ 250000000 := by
  have h1 := vl_pos hs L i
  have h2 := st_bd hf hs (i - 1)
  unfold vl at h1
  rw [h1]
  repeat' split
  all_goals omega
namespace H
open G
attribute [local irreducible] WC WL WD YO LO LoopEnd W.Fin Scalar SliceT FieldAt Row ArrT AllocT KnS Has W.One SrcE IntT
theorem d3Cl {G G' : Prop} (h : G') (s : Bx G' → G := by
  intro h
  first | (apply WC.draw (id := 20) [0, 1, 2, 3, 4, 5, 6, 7, 8, 11, 12] (.held 0 (.held 1 (.held 2 (.held 3 (.held 4 (.held 5 (.held 6 (.held 7 (.held 8 (.loud 9 (.loud 10 (.held 11 (.held 12 (.done)))))))))))))) mixed (by kernel_rfl)) | (apply WC.draw (id := 25) [0, 1, 2, 3, 4, 5, 8, 9, 10, 11, 12, 13, 15, 16, 17, 18, 19, 20, 21, 23, 24, 25, 27, 28] (.held 0 (.held 1 (.held 2 (.held 3 (.held 4 (.held 5 (.loud 6 (.loud 7 (.held 8 (.held 9 (.held 10 (.held 11 (.held 12 (.held 13 (.loud 14 (.held 15 (.held 16 (.held 17 (.held 18 (.held 19 (.held 20 (.held 21 (.loud 22 (.held 23 (.held 24 (.held 25 (.loud 26 (.held 27 (.held 28 (.done)))))))))))))))))))))))))))))) mixed (by kernel_rfl)) | fail
  exact Bx.h h) : G := s ⟨h⟩
set_option maxHeartbeats 16000000 in
set_option maxRecDepth 60000 in
theorem critical_c (v0 v1 : Value) (l o : List Int) (hl : ∀ x ∈ l, I64 x) (ho : ∀ x ∈ o, I64 x) :
    FnB Tryz.prog 3 [v0, v1] [] [sI v0 l, sI v1 o] (IsV (.bool true)) := by
  refine fn_of [(0, v0), (1, v1)] 203 Tryz.func3 rfl Tryz.ntmps3 (by kernel_rfl) rfl suA fun h0 => ?_
  repeat' (first | refine go ?_ | refine goX ?_ | refine goB ?_ | (refine goG ?_; intro g) | (refine goV ?_; intro v) | refine goE ?_ | (refine goEG ?_; intro g) | refine goD ?_ | refine goXD ?_ | (refine goDG ?_; intro g) | (refine goDV ?_; intro v) | refine d3Cl ?_ | fail)
  first | refine WL.callK (S.tasks_c v0 l 7 (by decide) hl) ?_ | refine WD.callK (S.tasks_c v0 l 7 (by decide) hl) ?_ | refine LO.callM (S.tasks_c v0 l 7 (by decide) hl) ?_
  rintro vt _ _ ⟨avs, rfl, rfl⟩
  simp only [List.nil_append, List.cons_append]
  obtain ⟨M, hM, hgen⟩ := S.gen_tasks l 7 (by decide)
  generalize S.tasksP l 7 = ts at *
  have hn := hgen.n
  have hg := hgen.g
  have hM1 := hgen.M1
  have hM4 : M ≤ 4 := by have := hgen.M3; omega
  have hva := S.validE_ok (show ts.length ≤ 10 by omega) hM1 hM4 hg
  repeat' (first | refine go ?_ | refine goX ?_ | refine goB ?_ | (refine goG ?_; intro g) | (refine goV ?_; intro v) | refine goE ?_ | (refine goEG ?_; intro g) | refine goD ?_ | refine goXD ?_ | (refine goDG ?_; intro g) | (refine goDV ?_; intro v) | refine d3Cl ?_ | fail)
  first | refine WL.callV (S.machines_c v0 l hl) ?_ | refine WD.callV (S.machines_c v0 l hl) ?_
  rw [show 1 + S.atP l 0 3 = S.machP l from rfl, hM]
  obtain ⟨s1, o1, L1, hb1, hb2, hb3, hb4, hb5, hb6⟩ := S.best_tgt hg (show ts.length ≤ 10 by omega) hM4
  obtain ⟨s2, o2, L2, hc1, hc2, hc3, hc4, hc5, hc6⟩ := S.list_tgt hg (show ts.length ≤ 10 by omega) hM4 hva o
  have cB := S.best_c vt avs ts M hgen.i
  rw [if_pos hva, hb1] at cB
  repeat' (first | refine go ?_ | refine goX ?_ | refine goB ?_ | (refine goG ?_; intro g) | (refine goV ?_; intro v) | refine goE ?_ | (refine goEG ?_; intro g) | refine goD ?_ | refine goXD ?_ | (refine goDG ?_; intro g) | (refine goDV ?_; intro v) | refine d3Cl ?_ | fail)
  first | refine WL.callP (cB) ?_ | refine WD.callP (cB) ?_
  rintro _ _ _ ⟨a1, n1, rfl, rfl, rfl⟩
  simp only [List.cons_append, List.nil_append]
  refine WL.freezeI (el := 3) (v := a1) (l := s1) (by repeat (first | exact Sel.head | apply Sel.tail)) ?_
  refine WL.freezeI (el := 3) (v := n1) (l := o1) (by repeat (first | exact Sel.head | apply Sel.tail)) ?_
  repeat' (first | refine go ?_ | refine goX ?_ | refine goB ?_ | (refine goG ?_; intro g) | (refine goV ?_; intro v) | refine goE ?_ | (refine goEG ?_; intro g) | refine goD ?_ | refine goXD ?_ | (refine goDG ?_; intro g) | (refine goDV ?_; intro v) | refine d3Cl ?_ | fail)
  first | refine WL.callO (S.order_c vt v1 avs ts o M hg (by omega) ho) (fun rv => ?_) | refine WD.callO (S.order_c vt v1 avs ts o M hg (by omega) ho) (fun rv => ?_)
  revert rv; intro vo
  refine WL.freezeI (el := 3) (v := vo) (l := S.ordP ts o) (by repeat (first | exact Sel.head | apply Sel.tail)) ?_
  have cL := S.list_c vt vo avs ts M (S.ordP ts o) hgen.i
  rw [hc1] at cL
  first | refine WL.callP (cL) ?_ | refine WD.callP (cL) ?_
  rintro _ _ _ ⟨a2, n2, rfl, rfl, rfl⟩
  simp only [List.cons_append, List.nil_append]
  refine WL.freezeI (el := 3) (v := a2) (l := s2) (by repeat (first | exact Sel.head | apply Sel.tail)) ?_
  refine WL.freezeI (el := 3) (v := n2) (l := o2) (by repeat (first | exact Sel.head | apply Sel.tail)) ?_
  repeat' (first | refine go ?_ | refine goX ?_ | refine goB ?_ | (refine goG ?_; intro g) | (refine goV ?_; intro v) | refine goE ?_ | (refine goEG ?_; intro g) | refine goD ?_ | refine goXD ?_ | (refine goDG ?_; intro g) | (refine goDV ?_; intro v) | refine d3Cl ?_ | fail)
  have bd1 := S.lenN_bd (S.good_time hg) ts.length (fun j hj => hb4.1 j hj)
  have bd2 := S.lenN_bd (S.good_time hg) ts.length (fun j hj => hc4.1 j hj)
  rw [show S.lenN ts s1 ts.length = L1 from hb5] at bd1
  rw [show S.lenN ts s2 ts.length = L2 from hc5] at bd2
  by_cases h0' : ts.length = 0
  · have e1 : L1 = 0 := by rw [← hb5]; unfold S.lenP; rw [h0']; rfl
    have e2 : L2 = 0 := by rw [← hc5]; unfold S.lenP; rw [h0']; rfl
    repeat' (first | refine go ?_ | refine goX ?_ | refine goB ?_ | (refine goG ?_; intro g) | (refine goV ?_; intro v) | refine goE ?_ | (refine goEG ?_; intro g) | refine goD ?_ | refine goXD ?_ | (refine goDG ?_; intro g) | (refine goDV ?_; intro v) | refine d3Cl ?_ | fail)
    first | refine WL.callV (S.lives_c) ?_ | refine WD.callV (S.lives_c) ?_
    repeat' (first | refine go ?_ | refine goX ?_ | refine goB ?_ | (refine goG ?_; intro g) | (refine goV ?_; intro v) | refine goE ?_ | (refine goEG ?_; intro g) | refine goD ?_ | refine goXD ?_ | (refine goDG ?_; intro g) | (refine goDV ?_; intro v) | refine d3Cl ?_ | fail)
    exact WC.ret (Fin.v (ResE.t1 rfl rfl) meA rfl)
  · have hpa1 := pth_abs (st := s1) (on := o1) hg hn
    have hpa2 := pth_abs (st := s2) (on := o2) hg hn
    have hf1 : Fit (pthP ts s1 o1) := by unfold Fit; omega
    have hf2 : Fit (pthP ts s2 o2) := by unfold Fit; omega
    repeat' (first | refine go ?_ | refine goX ?_ | refine goB ?_ | (refine goG ?_; intro g) | (refine goV ?_; intro v) | refine goE ?_ | (refine goEG ?_; intro g) | refine goD ?_ | refine goXD ?_ | (refine goDG ?_; intro g) | (refine goDV ?_; intro v) | refine d3Cl ?_ | fail)
    first | refine WL.callK (paths_c vt a1 n1 avs ts s1 o1 hg hn hb2 hb3 hgen.a) ?_ | refine WD.callK (paths_c vt a1 n1 avs ts s1 o1 hg hn hb2 hb3 hgen.a) ?_ | refine LO.callM (paths_c vt a1 n1 avs ts s1 o1 hg hn hb2 hb3 hgen.a) ?_
    rintro p1 _ _ ⟨m1, rfl, rfl⟩
    simp only [List.nil_append, List.cons_append]
    repeat' (first | refine go ?_ | refine goX ?_ | refine goB ?_ | (refine goG ?_; intro g) | (refine goV ?_; intro v) | refine goE ?_ | (refine goEG ?_; intro g) | refine goD ?_ | refine goXD ?_ | (refine goDG ?_; intro g) | (refine goDV ?_; intro v) | refine d3Cl ?_ | fail)
    first | refine WL.callK (paths_c vt a2 n2 avs ts s2 o2 hg hn hc2 hc3 hgen.a) ?_ | refine WD.callK (paths_c vt a2 n2 avs ts s2 o2 hg hn hc2 hc3 hgen.a) ?_ | refine LO.callM (paths_c vt a2 n2 avs ts s2 o2 hg hn hc2 hc3 hgen.a) ?_
    rintro p2 _ _ ⟨m2, rfl, rfl⟩
    simp only [List.nil_append, List.cons_append]
    repeat' (first | refine go ?_ | refine goX ?_ | refine goB ?_ | (refine goG ?_; intro g) | (refine goV ?_; intro v) | refine goE ?_ | (refine goEG ?_; intro g) | refine goD ?_ | refine goXD ?_ | (refine goDG ?_; intro g) | (refine goDV ?_; intro v) | refine d3Cl ?_ | fail)
    refine WL.l rfl rfl (LO.bsR1 (m := m00) rfl fun w1 => ?_)
    repeat' (first | refine go ?_ | refine goX ?_ | refine goB ?_ | (refine goG ?_; intro g) | (refine goV ?_; intro v) | refine goE ?_ | (refine goEG ?_; intro g) | refine goD ?_ | refine goXD ?_ | (refine goDG ?_; intro g) | (refine goDV ?_; intro v) | refine d3Cl ?_ | fail)
    refine WL.l rfl rfl (LO.bsR1 (m := m00) rfl fun w2 => ?_)
    rw [← qcells1]
    repeat' (first | refine go ?_ | refine goX ?_ | refine goB ?_ | (refine goG ?_; intro g) | (refine goV ?_; intro v) | refine goE ?_ | (refine goEG ?_; intro g) | refine goD ?_ | refine goXD ?_ | (refine goDG ?_; intro g) | (refine goDV ?_; intro v) | refine d3Cl ?_ | fail)
    refine WC.lp (σ := Nat × (Value × (Nat → QM)) × (Value × (Nat → QM))) (fun s => [(20, .int .i64 (s.1 : Int)), (18, s.2.1.1), (19, s.2.2.1), (5, vt), (7, a1), (11, a2), (9, .int .i64 L1), (13, .int .i64 L2), (15, .int .i64 ((ts.length : Int) + 1)), (16, p1), (17, p2)])
      (fun s => [Ow.slice s.2.2.1 37 4 (qcells (s.1 + 1) s.2.2.2), Ow.slice s.2.1.1 37 4 (qcells (s.1 + 1) s.2.1.2)])
      (fun s => [mQ 1 s.2.1.2 ([0] ++ s1.take s.1), mQ 1 s.2.2.2 ([0] ++ s2.take s.1), ge h0, fB 1 p1 m1 (pthP ts s1 o1), fB 1 p2 m2 (pthP ts s2 o2), S.sT vt avs ts, sI a1 s1, sI a2 s2]) (fun s => s.1 ≤ ts.length) (fun s => ts.length - s.1) (0, (w1, fun _ => m00), (w2, fun _ => m00)) (Nat.zero_le _) ?_ suA slA (.cons hasmQ01 (.cons hasmQ01 sfA))
    rintro ⟨i, ⟨u1, k1⟩, ⟨u2, k2⟩⟩ hi
    simp only at hi ⊢
    by_cases c : i < ts.length
    · have x1 := st_bd hb4 hb2 i
      have x2 := st_bd hc4 hc2 i
      obtain ⟨q, hq⟩ := pth_task hc4 hg hc6 hn c
      repeat' (first | refine go ?_ | refine goX ?_ | refine goB ?_ | (refine goG ?_; intro g) | (refine goV ?_; intro v) | refine goE ?_ | (refine goEG ?_; intro g) | refine goD ?_ | refine goXD ?_ | (refine goDG ?_; intro g) | (refine goDV ?_; intro v) | refine d3Cl ?_ | fail)
      first | refine WL.callK (rofw_c 1 (s1.getD i 0) 1 1 (by decide) (by decide) (by unfold B2; omega) (by decide)) ?_ | refine WD.callK (rofw_c 1 (s1.getD i 0) 1 1 (by decide) (by decide) (by unfold B2; omega) (by decide)) ?_ | refine LO.callM (rofw_c 1 (s1.getD i 0) 1 1 (by decide) (by decide) (by unfold B2; omega) (by decide)) ?_
      rintro _ _ _ ⟨m3, rfl, rfl, rfl⟩
      simp only [List.nil_append, List.cons_append]
      rw [show s1.getD i 0 * ((1 : Nat) : Int) = s1.getD i 0 by omega]
      repeat' (first | refine go ?_ | refine goX ?_ | refine goB ?_ | (refine goG ?_; intro g) | (refine goV ?_; intro v) | refine goE ?_ | (refine goEG ?_; intro g) | refine goD ?_ | refine goXD ?_ | (refine goDG ?_; intro g) | (refine goDV ?_; intro v) | refine d3Cl ?_ | fail)
      revert v; intro w3
      first | refine WL.callK (rofw_c 1 (s2.getD i 0) 1 1 (by decide) (by decide) (by unfold B2; omega) (by decide)) ?_ | refine WD.callK (rofw_c 1 (s2.getD i 0) 1 1 (by decide) (by decide) (by unfold B2; omega) (by decide)) ?_ | refine LO.callM (rofw_c 1 (s2.getD i 0) 1 1 (by decide) (by decide) (by unfold B2; omega) (by decide)) ?_
      rintro _ _ _ ⟨m4, rfl, rfl, rfl⟩
      simp only [List.nil_append, List.cons_append]
      rw [show s2.getD i 0 * ((1 : Nat) : Int) = s2.getD i 0 by omega]
      repeat' (first | refine go ?_ | refine goX ?_ | refine goB ?_ | (refine goG ?_; intro g) | (refine goV ?_; intro v) | refine goE ?_ | (refine goEG ?_; intro g) | refine goD ?_ | refine goXD ?_ | (refine goDG ?_; intro g) | (refine goDV ?_; intro v) | refine d3Cl ?_ | fail)
      revert v; intro w4
      rw [show (ts.length : Int) + 1 + 1 = (ts.length : Int) + 2 by omega]
      first | refine WL.callK (most_c 1 p2 m2 (pthP ts s2 o2) ((ts.length : Int) + 2) ((i : Int) + 1) 0 hf2) ?_ | refine WD.callK (most_c 1 p2 m2 (pthP ts s2 o2) ((ts.length : Int) + 2) ((i : Int) + 1) 0 hf2) ?_ | refine LO.callM (most_c 1 p2 m2 (pthP ts s2 o2) ((ts.length : Int) + 2) ((i : Int) + 1) 0 hf2) ?_
      rintro _ _ _ ⟨mq, uq, rfl, rfl, rfl⟩
      simp only [List.cons_append, List.nil_append]
      rw [hq]
      simp only
      repeat' (first | refine go ?_ | refine goX ?_ | refine goB ?_ | (refine goG ?_; intro g) | (refine goV ?_; intro v) | refine goE ?_ | (refine goEG ?_; intro g) | refine goD ?_ | refine goXD ?_ | (refine goDG ?_; intro g) | (refine goDV ?_; intro v) | refine d3Cl ?_ | fail)
      first | refine WL.callK (ofw_c 1 (-s2.getD i 0) 1 1 (by decide) (by decide) (by unfold B2; omega) (by decide)) ?_ | refine WD.callK (ofw_c 1 (-s2.getD i 0) 1 1 (by decide) (by decide) (by unfold B2; omega) (by decide)) ?_ | refine LO.callM (ofw_c 1 (-s2.getD i 0) 1 1 (by decide) (by decide) (by unfold B2; omega) (by decide)) ?_
      rintro _ _ _ ⟨m5, rfl, rfl, rfl⟩
      simp only [List.nil_append, List.cons_append]
      repeat' (first | refine go ?_ | refine goX ?_ | refine goB ?_ | (refine goG ?_; intro g) | (refine goV ?_; intro v) | refine goE ?_ | (refine goEG ?_; intro g) | refine goD ?_ | refine goXD ?_ | (refine goDG ?_; intro g) | (refine goDV ?_; intro v) | refine d3Cl ?_ | fail)
      first | refine WL.callV (samew_c 1 mq m5 (-s2.getD i 0) (-s2.getD i 0 * ((1 : Nat) : Int))) ?_ | refine WD.callV (samew_c 1 mq m5 (-s2.getD i 0) (-s2.getD i 0 * ((1 : Nat) : Int))) ?_
      rw [decide_eq_true (show -s2.getD i 0 = -s2.getD i 0 * ((1 : Nat) : Int) by omega)]
      repeat' (first | refine go ?_ | refine goX ?_ | refine goB ?_ | (refine goG ?_; intro g) | (refine goV ?_; intro v) | refine goE ?_ | (refine goEG ?_; intro g) | refine goD ?_ | refine goXD ?_ | (refine goDG ?_; intro g) | (refine goDV ?_; intro v) | refine d3Cl ?_ | fail)
      exact LoopEnd.mk (i + 1, (w3, upd k1 (i + 1) m3), (w4, upd k2 (i + 1) m4)) (by show i + 1 ≤ ts.length; omega) (by show ts.length - (i + 1) < ts.length - i; omega) suA slA (.cons (pos_has (by omega) hmA hmA) (.cons (pos_has (by omega) hmA hmA) sfA))
    · obtain rfl : i = ts.length := by omega
      obtain ⟨q, hq⟩ := pth_last hb4 hg hb6 hn (by omega) hb5
      repeat' (first | refine go ?_ | refine goX ?_ | refine goB ?_ | (refine goG ?_; intro g) | (refine goV ?_; intro v) | refine goE ?_ | (refine goEG ?_; intro g) | refine goD ?_ | refine goXD ?_ | (refine goDG ?_; intro g) | (refine goDV ?_; intro v) | refine d3Cl ?_ | fail)
      rw [show (ts.length : Int) + 1 + 1 = (ts.length : Int) + 2 by omega]
      first | refine WL.callK (most_c 1 p1 m1 (pthP ts s1 o1) ((ts.length : Int) + 2) ((ts.length : Int) + 1) 0 hf1) ?_ | refine WD.callK (most_c 1 p1 m1 (pthP ts s1 o1) ((ts.length : Int) + 2) ((ts.length : Int) + 1) 0 hf1) ?_ | refine LO.callM (most_c 1 p1 m1 (pthP ts s1 o1) ((ts.length : Int) + 2) ((ts.length : Int) + 1) 0 hf1) ?_
      rintro _ _ _ ⟨mq, uq, rfl, rfl, rfl⟩
      simp only [List.cons_append, List.nil_append]
      rw [hq]
      simp only
      repeat' (first | refine go ?_ | refine goX ?_ | refine goB ?_ | (refine goG ?_; intro g) | (refine goV ?_; intro v) | refine goE ?_ | (refine goEG ?_; intro g) | refine goD ?_ | refine goXD ?_ | (refine goDG ?_; intro g) | (refine goDV ?_; intro v) | refine d3Cl ?_ | fail)
      first | refine WL.callK (ofw_c 1 L1 1 1 (by decide) (by decide) (by unfold B2; omega) (by decide)) ?_ | refine WD.callK (ofw_c 1 L1 1 1 (by decide) (by decide) (by unfold B2; omega) (by decide)) ?_ | refine LO.callM (ofw_c 1 L1 1 1 (by decide) (by decide) (by unfold B2; omega) (by decide)) ?_
      rintro _ _ _ ⟨m3, rfl, rfl, rfl⟩
      simp only [List.nil_append, List.cons_append]
      rw [show L1 * ((1 : Nat) : Int) = L1 by omega]
      repeat' (first | refine go ?_ | refine goX ?_ | refine goB ?_ | (refine goG ?_; intro g) | (refine goV ?_; intro v) | refine goE ?_ | (refine goEG ?_; intro g) | refine goD ?_ | refine goXD ?_ | (refine goDG ?_; intro g) | (refine goDV ?_; intro v) | refine d3Cl ?_ | fail)
      revert v; intro w3
      first | refine WL.callK (ofw_c 1 L2 1 1 (by decide) (by decide) (by unfold B2; omega) (by decide)) ?_ | refine WD.callK (ofw_c 1 L2 1 1 (by decide) (by decide) (by unfold B2; omega) (by decide)) ?_ | refine LO.callM (ofw_c 1 L2 1 1 (by decide) (by decide) (by unfold B2; omega) (by decide)) ?_
      rintro _ _ _ ⟨m4, rfl, rfl, rfl⟩
      simp only [List.nil_append, List.cons_append]
      rw [show L2 * ((1 : Nat) : Int) = L2 by omega]
      repeat' (first | refine go ?_ | refine goX ?_ | refine goB ?_ | (refine goG ?_; intro g) | (refine goV ?_; intro v) | refine goE ?_ | (refine goEG ?_; intro g))
      revert v; intro w4
      have hes1 : ([0] ++ s1 ++ [L1]).length = ts.length + 1 + 1 := by simp [hb2]
      have hes2 : ([0] ++ s2 ++ [L2]).length = ts.length + 1 + 1 := by simp [hc2]
      refine WC.freezeR (D := 1) (el := 37) w3 (upd k1 (ts.length + 1) m3) ([0] ++ s1 ++ [L1]) (by rw [hes1]; repeat (first | exact Sel.head | apply Sel.tail)) (pos_last hb2 hmA hmA) ?_
      refine WC.freezeR (D := 1) (el := 37) w4 (upd k2 (ts.length + 1) m4) ([0] ++ s2 ++ [L2]) (by rw [hes2]; repeat (first | exact Sel.head | apply Sel.tail)) (pos_last hc2 hmA hmA) ?_
      refine WC.fact (sI (.slice none 0 0) []) nil0 ?_
      have hw1 := pos_wth hb4 hb2 (L := L1) (by omega)
      have hw2 := pos_wth hc4 hc2 (L := L2) (by omega)
      have hk1 := pth_chk hb4 hg hn hb2 hb5
      have hk2 := pth_chk hc4 hg hn hc2 hc5
      repeat' (first | refine go ?_ | refine goX ?_ | refine goB ?_ | (refine goG ?_; intro g) | (refine goV ?_; intro v) | refine goE ?_ | (refine goEG ?_; intro g) | refine goD ?_ | refine goXD ?_ | (refine goDG ?_; intro g) | (refine goDV ?_; intro v) | refine d3Cl ?_ | fail)
      first | refine WL.callK (ofw_c 1 (-L1) 1 1 (by decide) (by decide) (by unfold B2; omega) (by decide)) ?_ | refine WD.callK (ofw_c 1 (-L1) 1 1 (by decide) (by decide) (by unfold B2; omega) (by decide)) ?_ | refine LO.callM (ofw_c 1 (-L1) 1 1 (by decide) (by decide) (by unfold B2; omega) (by decide)) ?_
      rintro _ _ _ ⟨m5, rfl, rfl, rfl⟩
      simp only [List.nil_append, List.cons_append]
      repeat' (first | refine go ?_ | refine goX ?_ | refine goB ?_ | (refine goG ?_; intro g) | (refine goV ?_; intro v) | refine goE ?_ | (refine goEG ?_; intro g) | refine goD ?_ | refine goXD ?_ | (refine goDG ?_; intro g) | (refine goDV ?_; intro v) | refine d3Cl ?_ | fail)
      first | refine WL.callV (samew_c 1 mq m5 (-L1) (-L1 * ((1 : Nat) : Int))) ?_ | refine WD.callV (samew_c 1 mq m5 (-L1) (-L1 * ((1 : Nat) : Int))) ?_
      rw [decide_eq_true (show -L1 = -L1 * ((1 : Nat) : Int) by omega)]
      repeat' (first | refine go ?_ | refine goX ?_ | refine goB ?_ | (refine goG ?_; intro g) | (refine goV ?_; intro v) | refine goE ?_ | (refine goEG ?_; intro g) | refine goD ?_ | refine goXD ?_ | (refine goDG ?_; intro g) | (refine goDV ?_; intro v) | refine d3Cl ?_ | fail)
      rw [show (ts.length : Int) + 1 + 1 = (ts.length : Int) + 2 by omega]
      first | refine WL.callV (check_c 1 p1 w3 (.slice none 0 0) m1 (upd k1 (ts.length + 1) m3) (pthP ts s1 o1) ([0] ++ s1 ++ [L1]) [] ((ts.length : Int) + 2) hf1 (by decide) (by rw [List.length_nil, Nat.zero_mul]; decide) hw1) ?_ | refine WD.callV (check_c 1 p1 w3 (.slice none 0 0) m1 (upd k1 (ts.length + 1) m3) (pthP ts s1 o1) ([0] ++ s1 ++ [L1]) [] ((ts.length : Int) + 2) hf1 (by decide) (by rw [List.length_nil, Nat.zero_mul]; decide) hw1) ?_
      rw [hk1]
      repeat' (first | refine go ?_ | refine goX ?_ | refine goB ?_ | (refine goG ?_; intro g) | (refine goV ?_; intro v) | refine goE ?_ | (refine goEG ?_; intro g) | refine goD ?_ | refine goXD ?_ | (refine goDG ?_; intro g) | (refine goDV ?_; intro v) | refine d3Cl ?_ | fail)
      rw [show (ts.length : Int) + 1 + 1 = (ts.length : Int) + 2 by omega]
      first | refine WL.callV (check_c 1 p2 w4 (.slice none 0 0) m2 (upd k2 (ts.length + 1) m4) (pthP ts s2 o2) ([0] ++ s2 ++ [L2]) [] ((ts.length : Int) + 2) hf2 (by decide) (by rw [List.length_nil, Nat.zero_mul]; decide) hw2) ?_ | refine WD.callV (check_c 1 p2 w4 (.slice none 0 0) m2 (upd k2 (ts.length + 1) m4) (pthP ts s2 o2) ([0] ++ s2 ++ [L2]) [] ((ts.length : Int) + 2) hf2 (by decide) (by rw [List.length_nil, Nat.zero_mul]; decide) hw2) ?_
      rw [hk2]
      repeat' (first | refine go ?_ | refine goX ?_ | refine goB ?_ | (refine goG ?_; intro g) | (refine goV ?_; intro v) | refine goE ?_ | (refine goEG ?_; intro g) | refine goD ?_ | refine goXD ?_ | (refine goDG ?_; intro g) | (refine goDV ?_; intro v) | refine d3Cl ?_ | fail)
      first | refine WL.callV (S.lives_c) ?_ | refine WD.callV (S.lives_c) ?_
      repeat' (first | refine go ?_ | refine goX ?_ | refine goB ?_ | (refine goG ?_; intro g) | (refine goV ?_; intro v) | refine goE ?_ | (refine goEG ?_; intro g) | refine goD ?_ | refine goXD ?_ | (refine goDG ?_; intro g) | (refine goDV ?_; intro v) | refine d3Cl ?_ | fail)
      exact WC.ret (Fin.v (ResE.t1 rfl rfl) meA rfl)
end H
end Go.Proofs.YthggloiigkbfeaaGreat
