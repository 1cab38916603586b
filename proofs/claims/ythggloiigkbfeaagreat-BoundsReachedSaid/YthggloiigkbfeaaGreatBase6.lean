/- Lemmas for the proof of a law: The run of the executor, over literals. Conditions: none. -/
import Derived.Test.YthggloiigkbfeaaGreatBase5
import Derived.Test.YthggloiigkbfeaaGreatRows
import Derived.ProofKit
import Derived.ChangeSlices
set_option linter.unusedVariables false
set_option linter.unusedSimpArgs false
set_option linter.unusedSectionVars false
namespace Go.Proofs.YthggloiigkbfeaaGreat
open W Go.RowKit
attribute [local irreducible] WC WL WD YO LO LoopEnd W.Fin Scalar SliceT FieldAt Row ArrT AllocT KnS Has W.One SrcE IntT
namespace J
set_option maxRecDepth 60000
theorem t0A {G : Prop} (h : G := by first | (((first | exact T.al3 | exact T.al4 | exact T.al22 | exact T.al26 | exact T.al32 | exact T.al35 | exact T.al37 | exact T.al38 | exact T.al59 | exact T.al103 | exact T.al109 | exact T.al111 | exact T.al114 | exact T.al161 | exact T.al164 | exact T.al94 | exact T.al116 | exact T.al159)); done) | fail) : G := h
theorem t1A {G : Prop} (h : G := by first | (((first | exact T.sc3 | exact T.sc4 | exact T.sc22 | exact T.sc26 | exact T.sc32 | exact T.sc38 | exact T.sc109 | exact T.sc111 | exact T.sc161 | exact T.sc164 | exact T.sc94 | exact T.sc116 | exact T.sc159)); done) | fail) : G := h
theorem t2A {G : Prop} (h : G := by first | (((first | exact T.z3 | exact T.z4 | exact T.z22 | exact T.z26 | exact T.z32 | exact T.z38 | exact T.z109 | exact T.z111 | exact T.z161 | exact T.z164 | exact T.z94 | exact T.z116 | exact T.z159)); done) | fail) : G := h
theorem t3A {G : Prop} (h : G := by first | (((first | exact T.f35_0 | exact T.f35_1 | exact T.f37_0 | exact T.f37_1 | exact T.f59_0 | exact T.f59_1 | exact T.f59_2 | exact T.f103_0 | exact T.f103_1 | exact T.f114_0 | exact T.f114_1)); done) | fail) : G := h
theorem t4A {G : Prop} (h : G := by first | (((first | exact T.e22 | exact T.e32 | exact T.e38 | exact T.e109 | exact T.e111 | exact T.e161)); done) | fail) : G := h
theorem t5A {G : Prop} (h : G := by first | (((first | exact T.s22 | exact T.s32 | exact T.s38 | exact T.s109 | exact T.s111 | exact T.s161)); done) | fail) : G := h
theorem t6A {G : Prop} (h : G := by first | (((first | exact T.r35 | exact T.r37 | exact T.r59 | exact T.r103 | exact T.r114)); done) | fail) : G := h
theorem t7A {G : Prop} (h : G := by first | (((first | exact T.u3 | exact T.u26 | exact T.u164)); done) | fail) : G := h
theorem knA {G : Prop} (h : G := by first | (((first | (focus (apply KnS.oT; exact meA; done)) | (focus (apply KnS.f; exact hmA; done)) | (focus (apply KnS.oI; exact meA; done)) | (focus (apply KnS.o1; exact meA; done)) | (focus (apply KnS.zd; exact hmA; done)) | (focus (apply KnS.q1; exact hmA; done)) | (focus (apply KnS.q2; exact hmA; done)) | (focus (apply KnS.fr; exact hmA; done)) | (focus (apply KnS.fb; exact hmA; done)) | (focus (apply KnS.fl; exact hmA; done)) | (focus (apply KnS.oR; exact meA; done)) | (focus (apply KnS.oB; exact meA; done)) | (focus (apply KnS.oL; exact meA; done)))); done) | fail) : G := h
theorem hsA {G : Prop} (h : G := by first | (((first | exact hmA | (focus (apply hasQ_P; exact hmA; done)) | (focus (apply hasQ_Q; exact hmA; done)) | exact hasZ_0 | exact hasQ_0 | (focus (apply hasZ_d; exact hmA; done)) | (focus (apply hasQ_d1; exact hmA; done)) | (focus (apply hasQ_d2; exact hmA; done)) | exact hasQ0w)); done) | fail) : G := h
theorem haA {G : Prop} (h : G := by first | ((repeat (first | exact HasAll.nil | (apply HasAll.cons; exact hsA))); done) | fail) : G := h
theorem hbA {G : Prop} (h : G := by first | ((repeat (first | exact HasAllB.nil | (apply HasAllB.cons; (first | (focus (apply HasB.oI; exact meA; done)) | (focus (apply HasB.c; exact meA; done)) | (focus (apply HasB.f; exact hsA; done)) | (focus (apply HasB.fR; exact meA; exact hmA; done)) | (focus (apply HasB.fB; exact meA; exact hmA; done)) | (focus (apply HasB.fL; exact meA; exact hmA; done)) | (focus (apply HasB.and; (focus (apply HasB.c; exact meA; done)); (focus (apply HasB.c; exact meA; done)); done)) | (focus (apply HasB.oT; exact meA; done)))))); done) | fail) : G := h
theorem ltA {G : Prop} (h : G := by first | (((first | (focus (apply Or.inr; constructor; (repeat (first | exact List.Sublist.refl _ | exact List.nil_sublist _ | apply List.Sublist.cons_cons | apply List.Sublist.cons)); (first | exact fun _ h => h | (intro f hf; (repeat (first | exact hf | apply List.Mem.tail)))); done)) | (apply Or.inl; kernel_rfl))); done) | fail) : G := h
theorem onA {G : Prop} (h : G := by first | (((first | exact ints_one _ | (intro u hu; simp only [List.mem_cons, List.not_mem_nil, or_false] at hu; first | (subst hu; rfl) | (rcases hu with rfl | rfl | rfl <;> rfl)))); done) | fail) : G := h
theorem leA {G : Prop} (h : G := by first | (((simp only [List.length_map, List.length_append, List.length_cons, List.length_nil, List.length_replicate, List.length_take]; omega)); done) | fail) : G := h
theorem y_indexAddr {G : Prop} (h : G := by first | (((first | (first | (apply YO.ix1; exact t5A; exact rfl; exact rfl; exact knA; omega) | (apply YO.ix; exact t5A; exact rfl; exact rfl; exact knA; omega) | (apply YO.ix1'; exact t5A; exact rfl; exact rfl; exact knA; omega; omega) | (apply YO.ix'; exact t5A; exact rfl; exact rfl; exact knA; omega; omega)) | (apply YO.ix1; exact t5A; exact rfl; exact rfl; exact knA; (first | omega | (simp only [List.length_set, List.length_replicate]; omega))) | (apply YO.ix; exact t5A; exact rfl; exact rfl; exact knA; (first | omega | (simp only [List.length_set, List.length_replicate]; omega))) | (apply YO.ix1'; exact t5A; exact rfl; exact rfl; exact knA; omega; (first | omega | (simp only [List.length_set, List.length_replicate]; omega))))); done) | fail) : G := h
theorem y_load {G : Prop} (h : G := by first | (((first | (apply YO.ldW; exact t6A; exact rfl; exact meA; exact rfl) | (apply YO.ld42; exact t6A; exact rfl; exact meA) | (apply YO.ld40; exact t6A; exact rfl; exact meA) | (apply YO.ld62; exact t6A; exact rfl; exact meA) | (apply YO.ld51; exact t6A; exact rfl; exact meA) | (apply YO.ldR; exact t6A; exact rfl; exact hmA; omega) | (apply YO.ldBd; exact t6A; exact rfl; exact hmA; omega) | (apply YO.ldBq; exact t6A; exact rfl; exact hmA; omega) | (apply YO.ldBf; exact t1A; exact rfl; exact hmA; omega) | (apply YO.ldBt; exact t1A; exact rfl; exact hmA; omega) | (apply YO.ldLn; exact t6A; exact rfl; exact hmA; omega) | (apply YO.ldLb; exact t1A; exact rfl; exact hmA; omega) | (apply YO.ldLq; exact t6A; exact rfl; exact hmA; omega) | (apply YO.ldWf; exact t6A; exact rfl; exact hmA; exact rfl) | (apply YO.ldOR; exact t6A; exact rfl; exact meA; omega) | (apply YO.ldOBd; exact t6A; exact rfl; exact meA; omega) | (apply YO.ldOBq; exact t6A; exact rfl; exact meA; omega) | (apply YO.ldOL; exact t6A; exact rfl; exact meA; omega) | (apply YO.ldOT; exact t1A; exact rfl; exact meA; omega) | (apply YO.ldOBf; exact t1A; exact rfl; exact meA; omega) | (apply YO.ldOBt; exact t1A; exact rfl; exact meA; omega) | (apply YO.ldWI0; exact t6A; exact rfl; exact meA; (first | omega | (simp only [List.length_set, List.length_replicate]; omega))) | (apply YO.ldWF0; exact t6A; exact rfl; exact hmA; (first | omega | (simp only [List.length_set, List.length_replicate]; omega))) | (apply YO.ldCI; exact t1A; exact rfl; exact meA; (first | omega | (simp only [List.length_set, List.length_replicate]; omega))) | (apply YO.ldFI; exact t1A; exact rfl; exact hmA; (first | omega | (simp only [List.length_set, List.length_replicate]; omega))) | (apply YO.ldF; exact t1A; exact rfl; exact hmA; exact rfl) | (apply YO.ldS; exact t1A; exact rfl; exact hsA; omega) | (apply YO.ldB; exact t1A; exact rfl; exact meA; exact rfl) | (apply YO.ldOI; exact t1A; exact rfl; exact meA; (first | omega | (simp only [List.length_set, List.length_replicate]; omega))))); done) | fail) : G := h
theorem y_slice {G : Prop} (h : G := by first | (((first | (first | (apply YO.slice; exact t5A; exact rfl; exact knA; exact Or.inl ⟨rfl, rfl⟩; exact Or.inr ⟨_, rfl, rfl⟩; omega; omega) | (apply YO.slice; exact t5A; exact rfl; exact knA; exact Or.inr ⟨_, rfl, rfl⟩; exact Or.inl ⟨rfl, rfl⟩; omega; omega)) | (apply YO.slice3; exact t5A; exact rfl; exact knA; exact rfl; exact rfl; omega; omega))); done) | fail) : G := h
theorem y_eql {G : Prop} (h : G := by first | (((first | (first | (first | (apply YO.eql_t; exact rfl; exact rfl; omega) | (apply YO.eql_f; exact rfl; exact rfl; omega)) | (apply YO.eqNil_t; exact t5A; exact rfl; exact knA; assumption) | (apply YO.eqNil_f; exact t5A; exact rfl; exact knA; assumption)) | (apply YO.beq_t; exact bool_t; exact rfl; exact rfl; (first | rfl | assumption | decide)) | (apply YO.beq_f; exact bool_t; exact rfl; exact rfl; (first | rfl | assumption | decide)))); done) | fail) : G := h
theorem y_build {G : Prop} (h : G := by first | (((first | (apply YO.buildZ; exact rfl; exact rfl; exact knA) | exact YO.buildZ0 | exact YO.buildQ0 | (apply YO.buildQ1; exact rfl) | (apply YO.buildQ2; exact rfl; exact rfl) | (apply YO.buildLn; exact rfl; exact rfl) | (apply YO.buildSys; exact rfl; exact rfl; exact knA) | (apply YO.buildBd; exact rfl; exact rfl) | (apply YO.buildBd3; exact rfl; exact rfl; exact rfl) | (apply YO.buildSy1; exact rfl))); done) | fail) : G := h
theorem y_len {G : Prop} (h : G := by first | (((apply YO.len; exact t5A; exact rfl; exact knA)); done) | fail) : G := h
theorem y_fieldAddr {G : Prop} (h : G := by first | (((first | (apply YO.fieldE; exact t3A; exact rfl) | (apply YO.fieldN; exact t3A; exact rfl; ((try simp only [Nat.zero_add, Nat.mul_one, Nat.reduceAdd, Nat.reduceMul]); exact rfl)))); done) | fail) : G := h
theorem y_conv {G : Prop} (h : G := by first | (((first | (first | (apply YO.convU; exact t7A; exact t7A; exact rfl; omega; omega) | (apply YO.convI; exact t7A; exact t7A; exact rfl; omega; omega)) | (apply YO.convN; exact t7A; exact t7A; exact rfl; omega; omega))); done) | fail) : G := h
theorem y_neq {G : Prop} (h : G := by first | (((first | (first | (apply YO.neq_t; exact rfl; exact rfl; omega) | (apply YO.neq_f; exact rfl; exact rfl; omega)) | (apply YO.bne_t; exact bool_t; exact rfl; exact rfl; (first | rfl | assumption | decide)) | (apply YO.bne_f; exact bool_t; exact rfl; exact rfl; (first | rfl | assumption | decide)))); done) | fail) : G := h
theorem y_makeFunc {G : Prop} (h : G := by first | (((apply YO.makeFunc; (repeat (first | exact Evs.nil | (apply Evs.cons; exact rfl))); (repeat (first | exact Evs.nil | (apply Evs.cons; exact rfl))))); done) | fail) : G := h
theorem y_quo {G : Prop} (h : G := by first | (((first | (apply YO.quo; exact rfl; exact rfl; omega; omega; omega) | (apply YO.uquo; exact rfl; exact rfl; omega; omega; omega))); done) | fail) : G := h
theorem y_and {G : Prop} (h : G := by first | (((first | (apply YO.and1; exact rfl; exact rfl; omega; omega) | (apply YO.and; exact rfl; exact rfl; omega; omega; omega; omega))); done) | fail) : G := h
theorem y_mul {G : Prop} (h : G := by first | (((first | (apply YO.mul; exact rfl; exact rfl; omega; omega) | (apply YO.umul; exact rfl; exact rfl; omega; omega))); done) | fail) : G := h
theorem y_rem {G : Prop} (h : G := by first | (((first | (apply YO.rem; exact rfl; exact rfl; omega; omega) | (apply YO.urem; exact rfl; exact rfl; omega; omega))); done) | fail) : G := h
theorem y_add {G : Prop} (h : G := by first | (((first | (apply YO.inc; exact rfl; exact rfl; omega) | (apply YO.add; exact rfl; exact rfl; omega; omega))); done) | fail) : G := h
theorem y_lss {G : Prop} (h : G := by first | (((first | (apply YO.lss_t; exact rfl; exact rfl; omega) | (apply YO.lss_f; exact rfl; exact rfl; omega))); done) | fail) : G := h
theorem y_gtr {G : Prop} (h : G := by first | (((first | (apply YO.gtr_t; exact rfl; exact rfl; omega) | (apply YO.gtr_f; exact rfl; exact rfl; omega))); done) | fail) : G := h
theorem y_geq {G : Prop} (h : G := by first | (((first | (apply YO.geq_t; exact rfl; exact rfl; omega) | (apply YO.geq_f; exact rfl; exact rfl; omega))); done) | fail) : G := h
theorem y_leq {G : Prop} (h : G := by first | (((first | (apply YO.leq_t; exact rfl; exact rfl; omega) | (apply YO.leq_f; exact rfl; exact rfl; omega))); done) | fail) : G := h
theorem y_shl {G : Prop} (h : G := by first | (((apply YO.shl'; exact rfl; exact rfl; omega; omega; (first | omega | decide); (first | omega | decide))); done) | fail) : G := h
theorem y_uneg {G : Prop} (h : G := by first | (((first | (apply YO.neg; exact rfl; omega; omega) | (apply YO.uneg; exact rfl; omega; omega))); done) | fail) : G := h
theorem y_pick {G : Prop} (h : G := by first | (((first | (apply YO.pick_t; exact rfl; exact rfl) | (apply YO.pick_f; exact rfl; exact rfl))); done) | fail) : G := h
theorem y_unot {G : Prop} (h : G := by first | (((first | (apply YO.not_t; exact rfl) | (apply YO.not_f; exact rfl))); done) | fail) : G := h
theorem y_or {G : Prop} (h : G := by first | (((apply YO.or; exact rfl; exact rfl; omega; omega; omega; omega)); done) | fail) : G := h
theorem go {G G' : Prop} (h : G') (s : Bx G' → G := by
  intro h
  (first
    | apply WL.nil
    | (apply WL.skg; exact rfl; exact rfl)
    | (apply WL.skg0; exact rfl)
    | (apply WL.k_move; (apply YO.move; exact rfl); exact rfl; exact rfl)
    | (apply WL.k_assign; (apply YO.assign; exact rfl); exact rfl; exact rfl)
    | (apply WL.k_lss; exact y_lss; exact rfl; exact rfl)
    | (apply WL.k_add; exact y_add; exact rfl; exact rfl)
    | (apply WL.k_len; exact y_len; exact rfl; exact rfl)
    | (apply WL.k_indexAddr; exact y_indexAddr; exact rfl; exact rfl)
    | (apply WL.k_load; exact y_load; exact rfl; exact rfl)
    | (apply WL.k_pick; exact y_pick; exact rfl; exact rfl)
    | (apply WL.k_fieldAddr; exact y_fieldAddr; exact rfl; exact rfl)
    | (apply WL.k_eql; exact y_eql; exact rfl; exact rfl)
    | (apply WL.k_neq; exact y_neq; exact rfl; exact rfl)
    | (apply WL.k_nil; (apply YO.nil; exact rfl); exact rfl; exact rfl)
    | (apply WL.k_extract; (apply YO.extract; exact rfl; exact rfl); exact rfl; exact rfl)
    | (apply WL.k_gtr; exact y_gtr; exact rfl; exact rfl)
    | (apply WL.k_geq; exact y_geq; exact rfl; exact rfl)
    | (apply WL.k_leq; exact y_leq; exact rfl; exact rfl)
    | (apply WL.k_sub; (apply YO.sub; exact rfl; exact rfl; omega; omega); exact rfl; exact rfl)
    | (apply WL.k_mul; exact y_mul; exact rfl; exact rfl)
    | (apply WL.k_rem; exact y_rem; exact rfl; exact rfl)
    | (apply WL.k_quo; exact y_quo; exact rfl; exact rfl)
    | (apply WL.k_unot; exact y_unot; exact rfl; exact rfl)
    | (apply WL.k_uneg; exact y_uneg; exact rfl; exact rfl)
    | (apply WL.k_max; (apply YO.max; exact rfl; exact rfl); exact rfl; exact rfl)
    | (apply WL.k_min; (apply YO.min; exact rfl; exact rfl); exact rfl; exact rfl)
    | (apply WL.k_makeFunc; exact y_makeFunc; exact rfl; exact rfl)
    | (apply WL.k_conv; exact y_conv; exact rfl; exact rfl)
    | (apply WL.k_shl; exact y_shl; exact rfl; exact rfl)
    | (apply WL.k_shr; (apply YO.shr'; exact rfl; exact rfl; omega; omega); exact rfl; exact rfl)
    | (apply WL.k_and; exact y_and; exact rfl; exact rfl)
    | (apply WL.k_or; exact y_or; exact rfl; exact rfl)
    | (apply WL.k_andNot; (apply YO.anot; exact rfl; exact rfl); exact rfl; exact rfl)
    | (apply WL.k_slice; exact y_slice; exact rfl; exact rfl)
    | (apply WL.k_build; exact y_build; exact rfl; exact rfl)
    | apply WC.seq
    | apply WC.region
    | apply WC.block
    | (apply WC.cond_t; exact rfl)
    | (apply WC.cond_f; exact rfl)
    | apply WC.exit
    | apply WC.skip
    | apply WC.label
    | (apply WL.kl_store; rotate_left; exact rfl; (first | (apply LO.storeOI; exact rfl; exact rfl; exact t2A; exact seA; (first | omega | (simp only [List.length_set]; omega))) | (apply LO.storeQ; exact rfl; exact rfl; exact t6A; exact hmA; exact seA; omega) | (apply LO.storeL1; exact rfl; exact rfl; exact t6A; exact hmA; exact seA; omega) | (apply LO.storeOT; exact rfl; exact rfl; exact t2A; (first | exact One.lit rfl rfl | (apply One.sl; exact knA)); exact seA; omega) | (apply LO.storeB2; exact rfl; exact rfl; exact t6A; exact hmA; exact seA) | (apply LO.storeBf; exact rfl; exact rfl; exact t2A; exact seA; omega) | (apply LO.storeBt; exact rfl; exact rfl; exact t2A; exact seA; omega) | (apply LO.storeBq; exact rfl; exact rfl; exact t6A; exact hmA; exact seA; omega) | (apply LO.storeI; exact rfl; exact rfl; exact t2A; exact seA; (first | omega | (simp only [List.length_set, List.length_replicate]; omega))) | (apply LO.storeWI; exact rfl; exact rfl; exact seA; exact t6A; (first | omega | (simp only [List.length_set, List.length_replicate]; omega)); (first | (simp only [List.length_map, List.length_set, List.length_replicate, ints]; omega) | rfl)) | (apply LO.store1; exact rfl; exact rfl; exact t2A; (first | exact One.lit rfl rfl | (apply One.sl; exact knA)); exact seA; (first | (simp only [List.length_cons, List.length_nil]; omega) | (simp; omega)); (first | (simp only [List.set_cons_succ, List.set_cons_zero]; exact rfl) | exact rfl)) | (apply LO.storeO1; exact rfl; exact rfl; exact t2A; (first | exact One.lit rfl rfl | (apply One.sl; exact knA)); exact seA; (first | (simp only [List.length_cons, List.length_nil]; omega) | (simp; omega)); (first | (simp only [List.set_cons_succ, List.set_cons_zero]; exact rfl) | exact rfl)) | (apply LO.storeL; exact rfl; exact rfl; exact seA; exact t6A; exact rfl; exact rfl; (repeat (first | exact OneL.nil | (apply OneL.cons; (first | exact One.lit rfl rfl | (apply One.sl; exact knA)))))))))
  repeat (first
    | apply WL.nil
    | (apply WL.skg; exact rfl; exact rfl)
    | (apply WL.skg0; exact rfl)
    | (apply WL.k_move; (apply YO.move; exact rfl); exact rfl; exact rfl)
    | (apply WL.k_assign; (apply YO.assign; exact rfl); exact rfl; exact rfl)
    | (apply WL.k_lss; exact y_lss; exact rfl; exact rfl)
    | (apply WL.k_add; exact y_add; exact rfl; exact rfl)
    | (apply WL.k_len; exact y_len; exact rfl; exact rfl)
    | (apply WL.k_indexAddr; exact y_indexAddr; exact rfl; exact rfl)
    | (apply WL.k_load; exact y_load; exact rfl; exact rfl)
    | (apply WL.k_pick; exact y_pick; exact rfl; exact rfl)
    | (apply WL.k_fieldAddr; exact y_fieldAddr; exact rfl; exact rfl)
    | (apply WL.k_eql; exact y_eql; exact rfl; exact rfl)
    | (apply WL.k_neq; exact y_neq; exact rfl; exact rfl)
    | (apply WL.k_nil; (apply YO.nil; exact rfl); exact rfl; exact rfl)
    | (apply WL.k_extract; (apply YO.extract; exact rfl; exact rfl); exact rfl; exact rfl)
    | (apply WL.k_gtr; exact y_gtr; exact rfl; exact rfl)
    | (apply WL.k_geq; exact y_geq; exact rfl; exact rfl)
    | (apply WL.k_leq; exact y_leq; exact rfl; exact rfl)
    | (apply WL.k_sub; (apply YO.sub; exact rfl; exact rfl; omega; omega); exact rfl; exact rfl)
    | (apply WL.k_mul; exact y_mul; exact rfl; exact rfl)
    | (apply WL.k_rem; exact y_rem; exact rfl; exact rfl)
    | (apply WL.k_quo; exact y_quo; exact rfl; exact rfl)
    | (apply WL.k_unot; exact y_unot; exact rfl; exact rfl)
    | (apply WL.k_uneg; exact y_uneg; exact rfl; exact rfl)
    | (apply WL.k_max; (apply YO.max; exact rfl; exact rfl); exact rfl; exact rfl)
    | (apply WL.k_min; (apply YO.min; exact rfl; exact rfl); exact rfl; exact rfl)
    | (apply WL.k_makeFunc; exact y_makeFunc; exact rfl; exact rfl)
    | (apply WL.k_conv; exact y_conv; exact rfl; exact rfl)
    | (apply WL.k_shl; exact y_shl; exact rfl; exact rfl)
    | (apply WL.k_shr; (apply YO.shr'; exact rfl; exact rfl; omega; omega); exact rfl; exact rfl)
    | (apply WL.k_and; exact y_and; exact rfl; exact rfl)
    | (apply WL.k_or; exact y_or; exact rfl; exact rfl)
    | (apply WL.k_andNot; (apply YO.anot; exact rfl; exact rfl); exact rfl; exact rfl)
    | (apply WL.k_slice; exact y_slice; exact rfl; exact rfl)
    | (apply WL.k_build; exact y_build; exact rfl; exact rfl)
    | apply WC.seq
    | apply WC.region
    | apply WC.block
    | (apply WC.cond_t; exact rfl)
    | (apply WC.cond_f; exact rfl)
    | apply WC.exit
    | apply WC.skip
    | apply WC.label
    | (apply WL.kl_store; rotate_left; exact rfl; (first | (apply LO.storeOI; exact rfl; exact rfl; exact t2A; exact seA; (first | omega | (simp only [List.length_set]; omega))) | (apply LO.storeQ; exact rfl; exact rfl; exact t6A; exact hmA; exact seA; omega) | (apply LO.storeL1; exact rfl; exact rfl; exact t6A; exact hmA; exact seA; omega) | (apply LO.storeOT; exact rfl; exact rfl; exact t2A; (first | exact One.lit rfl rfl | (apply One.sl; exact knA)); exact seA; omega) | (apply LO.storeB2; exact rfl; exact rfl; exact t6A; exact hmA; exact seA) | (apply LO.storeBf; exact rfl; exact rfl; exact t2A; exact seA; omega) | (apply LO.storeBt; exact rfl; exact rfl; exact t2A; exact seA; omega) | (apply LO.storeBq; exact rfl; exact rfl; exact t6A; exact hmA; exact seA; omega) | (apply LO.storeI; exact rfl; exact rfl; exact t2A; exact seA; (first | omega | (simp only [List.length_set, List.length_replicate]; omega))) | (apply LO.storeWI; exact rfl; exact rfl; exact seA; exact t6A; (first | omega | (simp only [List.length_set, List.length_replicate]; omega)); (first | (simp only [List.length_map, List.length_set, List.length_replicate, ints]; omega) | rfl)) | (apply LO.store1; exact rfl; exact rfl; exact t2A; (first | exact One.lit rfl rfl | (apply One.sl; exact knA)); exact seA; (first | (simp only [List.length_cons, List.length_nil]; omega) | (simp; omega)); (first | (simp only [List.set_cons_succ, List.set_cons_zero]; exact rfl) | exact rfl)) | (apply LO.storeO1; exact rfl; exact rfl; exact t2A; (first | exact One.lit rfl rfl | (apply One.sl; exact knA)); exact seA; (first | (simp only [List.length_cons, List.length_nil]; omega) | (simp; omega)); (first | (simp only [List.set_cons_succ, List.set_cons_zero]; exact rfl) | exact rfl)) | (apply LO.storeL; exact rfl; exact rfl; exact seA; exact t6A; exact rfl; exact rfl; (repeat (first | exact OneL.nil | (apply OneL.cons; (first | exact One.lit rfl rfl | (apply One.sl; exact knA)))))))))
  exact Bx.h h) : G := s ⟨h⟩
theorem goD {G G' : Prop} (h : G') (s : Bx G' → G := by
  intro h
  (first
    | apply WD.nil
    | (apply WD.skg; exact rfl; exact rfl; exact rfl)
    | (apply WD.skgl; exact rfl; exact rfl; exact rfl)
    | (apply WD.skgl0; exact rfl; exact rfl)
    | (apply WD.k_move; exact rfl; (apply YO.move; exact rfl); exact rfl; exact rfl)
    | (apply WD.k_assign; exact rfl; (apply YO.assign; exact rfl); exact rfl; exact rfl)
    | (apply WD.k_lss; exact rfl; exact y_lss; exact rfl; exact rfl)
    | (apply WD.k_add; exact rfl; exact y_add; exact rfl; exact rfl)
    | (apply WD.k_len; exact rfl; exact y_len; exact rfl; exact rfl)
    | (apply WD.k_indexAddr; exact rfl; exact y_indexAddr; exact rfl; exact rfl)
    | (apply WD.k_load; exact rfl; exact y_load; exact rfl; exact rfl)
    | (apply WD.k_pick; exact rfl; exact y_pick; exact rfl; exact rfl)
    | (apply WD.k_fieldAddr; exact rfl; exact y_fieldAddr; exact rfl; exact rfl)
    | (apply WD.k_eql; exact rfl; exact y_eql; exact rfl; exact rfl)
    | (apply WD.k_neq; exact rfl; exact y_neq; exact rfl; exact rfl)
    | (apply WD.k_nil; exact rfl; (apply YO.nil; exact rfl); exact rfl; exact rfl)
    | (apply WD.k_extract; exact rfl; (apply YO.extract; exact rfl; exact rfl); exact rfl; exact rfl)
    | (apply WD.k_gtr; exact rfl; exact y_gtr; exact rfl; exact rfl)
    | (apply WD.k_geq; exact rfl; exact y_geq; exact rfl; exact rfl)
    | (apply WD.k_leq; exact rfl; exact y_leq; exact rfl; exact rfl)
    | (apply WD.k_sub; exact rfl; (apply YO.sub; exact rfl; exact rfl; omega; omega); exact rfl; exact rfl)
    | (apply WD.k_mul; exact rfl; exact y_mul; exact rfl; exact rfl)
    | (apply WD.k_rem; exact rfl; exact y_rem; exact rfl; exact rfl)
    | (apply WD.k_quo; exact rfl; exact y_quo; exact rfl; exact rfl)
    | (apply WD.k_unot; exact rfl; exact y_unot; exact rfl; exact rfl)
    | (apply WD.k_uneg; exact rfl; exact y_uneg; exact rfl; exact rfl)
    | (apply WD.k_max; exact rfl; (apply YO.max; exact rfl; exact rfl); exact rfl; exact rfl)
    | (apply WD.k_min; exact rfl; (apply YO.min; exact rfl; exact rfl); exact rfl; exact rfl)
    | (apply WD.k_makeFunc; exact rfl; exact y_makeFunc; exact rfl; exact rfl)
    | (apply WD.k_conv; exact rfl; exact y_conv; exact rfl; exact rfl)
    | (apply WD.k_shl; exact rfl; exact y_shl; exact rfl; exact rfl)
    | (apply WD.k_shr; exact rfl; (apply YO.shr'; exact rfl; exact rfl; omega; omega); exact rfl; exact rfl)
    | (apply WD.k_and; exact rfl; exact y_and; exact rfl; exact rfl)
    | (apply WD.k_or; exact rfl; exact y_or; exact rfl; exact rfl)
    | (apply WD.k_andNot; exact rfl; (apply YO.anot; exact rfl; exact rfl); exact rfl; exact rfl)
    | (apply WD.k_slice; exact rfl; exact y_slice; exact rfl; exact rfl)
    | (apply WD.k_build; exact rfl; exact y_build; exact rfl; exact rfl)
    | (apply WD.kl_store; exact rfl; rotate_left; exact rfl; (first | (apply LO.storeOI; exact rfl; exact rfl; exact t2A; exact seA; (first | omega | (simp only [List.length_set]; omega))) | (apply LO.storeQ; exact rfl; exact rfl; exact t6A; exact hmA; exact seA; omega) | (apply LO.storeL1; exact rfl; exact rfl; exact t6A; exact hmA; exact seA; omega) | (apply LO.storeOT; exact rfl; exact rfl; exact t2A; (first | exact One.lit rfl rfl | (apply One.sl; exact knA)); exact seA; omega) | (apply LO.storeB2; exact rfl; exact rfl; exact t6A; exact hmA; exact seA) | (apply LO.storeBf; exact rfl; exact rfl; exact t2A; exact seA; omega) | (apply LO.storeBt; exact rfl; exact rfl; exact t2A; exact seA; omega) | (apply LO.storeBq; exact rfl; exact rfl; exact t6A; exact hmA; exact seA; omega) | (apply LO.storeI; exact rfl; exact rfl; exact t2A; exact seA; (first | omega | (simp only [List.length_set, List.length_replicate]; omega))) | (apply LO.storeWI; exact rfl; exact rfl; exact seA; exact t6A; (first | omega | (simp only [List.length_set, List.length_replicate]; omega)); (first | (simp only [List.length_map, List.length_set, List.length_replicate, ints]; omega) | rfl)) | (apply LO.store1; exact rfl; exact rfl; exact t2A; (first | exact One.lit rfl rfl | (apply One.sl; exact knA)); exact seA; (first | (simp only [List.length_cons, List.length_nil]; omega) | (simp; omega)); (first | (simp only [List.set_cons_succ, List.set_cons_zero]; exact rfl) | exact rfl)) | (apply LO.storeO1; exact rfl; exact rfl; exact t2A; (first | exact One.lit rfl rfl | (apply One.sl; exact knA)); exact seA; (first | (simp only [List.length_cons, List.length_nil]; omega) | (simp; omega)); (first | (simp only [List.set_cons_succ, List.set_cons_zero]; exact rfl) | exact rfl)) | (apply LO.storeL; exact rfl; exact rfl; exact seA; exact t6A; exact rfl; exact rfl; (repeat (first | exact OneL.nil | (apply OneL.cons; (first | exact One.lit rfl rfl | (apply One.sl; exact knA))))))); constructor; exact ltA))
  repeat (first
    | apply WD.nil
    | (apply WD.skg; exact rfl; exact rfl; exact rfl)
    | (apply WD.skgl; exact rfl; exact rfl; exact rfl)
    | (apply WD.skgl0; exact rfl; exact rfl)
    | (apply WD.k_move; exact rfl; (apply YO.move; exact rfl); exact rfl; exact rfl)
    | (apply WD.k_assign; exact rfl; (apply YO.assign; exact rfl); exact rfl; exact rfl)
    | (apply WD.k_lss; exact rfl; exact y_lss; exact rfl; exact rfl)
    | (apply WD.k_add; exact rfl; exact y_add; exact rfl; exact rfl)
    | (apply WD.k_len; exact rfl; exact y_len; exact rfl; exact rfl)
    | (apply WD.k_indexAddr; exact rfl; exact y_indexAddr; exact rfl; exact rfl)
    | (apply WD.k_load; exact rfl; exact y_load; exact rfl; exact rfl)
    | (apply WD.k_pick; exact rfl; exact y_pick; exact rfl; exact rfl)
    | (apply WD.k_fieldAddr; exact rfl; exact y_fieldAddr; exact rfl; exact rfl)
    | (apply WD.k_eql; exact rfl; exact y_eql; exact rfl; exact rfl)
    | (apply WD.k_neq; exact rfl; exact y_neq; exact rfl; exact rfl)
    | (apply WD.k_nil; exact rfl; (apply YO.nil; exact rfl); exact rfl; exact rfl)
    | (apply WD.k_extract; exact rfl; (apply YO.extract; exact rfl; exact rfl); exact rfl; exact rfl)
    | (apply WD.k_gtr; exact rfl; exact y_gtr; exact rfl; exact rfl)
    | (apply WD.k_geq; exact rfl; exact y_geq; exact rfl; exact rfl)
    | (apply WD.k_leq; exact rfl; exact y_leq; exact rfl; exact rfl)
    | (apply WD.k_sub; exact rfl; (apply YO.sub; exact rfl; exact rfl; omega; omega); exact rfl; exact rfl)
    | (apply WD.k_mul; exact rfl; exact y_mul; exact rfl; exact rfl)
    | (apply WD.k_rem; exact rfl; exact y_rem; exact rfl; exact rfl)
    | (apply WD.k_quo; exact rfl; exact y_quo; exact rfl; exact rfl)
    | (apply WD.k_unot; exact rfl; exact y_unot; exact rfl; exact rfl)
    | (apply WD.k_uneg; exact rfl; exact y_uneg; exact rfl; exact rfl)
    | (apply WD.k_max; exact rfl; (apply YO.max; exact rfl; exact rfl); exact rfl; exact rfl)
    | (apply WD.k_min; exact rfl; (apply YO.min; exact rfl; exact rfl); exact rfl; exact rfl)
    | (apply WD.k_makeFunc; exact rfl; exact y_makeFunc; exact rfl; exact rfl)
    | (apply WD.k_conv; exact rfl; exact y_conv; exact rfl; exact rfl)
    | (apply WD.k_shl; exact rfl; exact y_shl; exact rfl; exact rfl)
    | (apply WD.k_shr; exact rfl; (apply YO.shr'; exact rfl; exact rfl; omega; omega); exact rfl; exact rfl)
    | (apply WD.k_and; exact rfl; exact y_and; exact rfl; exact rfl)
    | (apply WD.k_or; exact rfl; exact y_or; exact rfl; exact rfl)
    | (apply WD.k_andNot; exact rfl; (apply YO.anot; exact rfl; exact rfl); exact rfl; exact rfl)
    | (apply WD.k_slice; exact rfl; exact y_slice; exact rfl; exact rfl)
    | (apply WD.k_build; exact rfl; exact y_build; exact rfl; exact rfl)
    | (apply WD.kl_store; exact rfl; rotate_left; exact rfl; (first | (apply LO.storeOI; exact rfl; exact rfl; exact t2A; exact seA; (first | omega | (simp only [List.length_set]; omega))) | (apply LO.storeQ; exact rfl; exact rfl; exact t6A; exact hmA; exact seA; omega) | (apply LO.storeL1; exact rfl; exact rfl; exact t6A; exact hmA; exact seA; omega) | (apply LO.storeOT; exact rfl; exact rfl; exact t2A; (first | exact One.lit rfl rfl | (apply One.sl; exact knA)); exact seA; omega) | (apply LO.storeB2; exact rfl; exact rfl; exact t6A; exact hmA; exact seA) | (apply LO.storeBf; exact rfl; exact rfl; exact t2A; exact seA; omega) | (apply LO.storeBt; exact rfl; exact rfl; exact t2A; exact seA; omega) | (apply LO.storeBq; exact rfl; exact rfl; exact t6A; exact hmA; exact seA; omega) | (apply LO.storeI; exact rfl; exact rfl; exact t2A; exact seA; (first | omega | (simp only [List.length_set, List.length_replicate]; omega))) | (apply LO.storeWI; exact rfl; exact rfl; exact seA; exact t6A; (first | omega | (simp only [List.length_set, List.length_replicate]; omega)); (first | (simp only [List.length_map, List.length_set, List.length_replicate, ints]; omega) | rfl)) | (apply LO.store1; exact rfl; exact rfl; exact t2A; (first | exact One.lit rfl rfl | (apply One.sl; exact knA)); exact seA; (first | (simp only [List.length_cons, List.length_nil]; omega) | (simp; omega)); (first | (simp only [List.set_cons_succ, List.set_cons_zero]; exact rfl) | exact rfl)) | (apply LO.storeO1; exact rfl; exact rfl; exact t2A; (first | exact One.lit rfl rfl | (apply One.sl; exact knA)); exact seA; (first | (simp only [List.length_cons, List.length_nil]; omega) | (simp; omega)); (first | (simp only [List.set_cons_succ, List.set_cons_zero]; exact rfl) | exact rfl)) | (apply LO.storeL; exact rfl; exact rfl; exact seA; exact t6A; exact rfl; exact rfl; (repeat (first | exact OneL.nil | (apply OneL.cons; (first | exact One.lit rfl rfl | (apply One.sl; exact knA))))))); constructor; exact ltA))
  exact Bx.h h) : G := s ⟨h⟩
theorem goG {G G' : Prop} (h : G') (s : Bx G' → G := by
  intro h
  (first
    | (apply WL.kl_alloc; rotate_left; exact rfl; exact rfl; apply LO.alloc'; (first | exact t0A))
    | (apply WL.kl_box; rotate_left; exact rfl; exact rfl; (first | (apply LO.boxA; exact rfl) | (apply LO.box1; exact rfl; (first | exact One.lit rfl rfl | (apply One.sl; exact knA))))))
  exact Bx.h h) : G := s ⟨h⟩
theorem goV {G G' : Prop} (h : G') (s : Bx G' → G := by
  intro h
  (first
    | (apply WL.kl_ms; rotate_left; exact rfl; exact rfl; (apply LO.makeI; exact rfl; exact rfl; (repeat (first | (with_reducible apply NatI.add) | (with_reducible exact NatI.one) | exact NatI.cast _)); omega))
    | (apply WL.kl_ms; rotate_left; exact rfl; exact rfl; (apply LO.makeR; exact rfl; exact rfl; (repeat (first | (with_reducible apply NatI.add) | (with_reducible exact NatI.one) | exact NatI.cast _)); omega))
    | (apply WL.kl_ms; rotate_left; exact rfl; exact rfl; (apply LO.makeLn; exact rfl; exact rfl; (repeat (first | (with_reducible apply NatI.add) | (with_reducible exact NatI.one) | exact NatI.cast _)); omega))
    | (apply WL.kl_ms; rotate_left; exact rfl; exact rfl; (apply LO.makeTT; exact rfl; exact rfl; (repeat (first | (with_reducible apply NatI.add) | (with_reducible exact NatI.one) | exact NatI.cast _)); omega))
    | (apply WL.kl_bs; rotate_left; exact rfl; exact rfl; (apply LO.bsI3; exact rfl; exact rfl; exact rfl))
    | (apply WL.kl_bs; rotate_left; exact rfl; exact rfl; (apply LO.bsI2; exact rfl; exact rfl))
    | (apply WL.kl_bs; rotate_left; exact rfl; exact rfl; (apply LO.bsR0))
    | (apply WL.kl_bs; rotate_left; exact rfl; exact rfl; (apply LO.bsB0))
    | (apply WL.kl_bs; rotate_left; exact rfl; exact rfl; (apply LO.bsR1; exact rfl))
    | (apply WL.kl_bs; rotate_left; exact rfl; exact rfl; (apply LO.bsB1; exact rfl))
    | (apply WL.kl_bs; rotate_left; exact rfl; exact rfl; (apply LO.bsT1; exact rfl; exact knA))
    | (apply WL.kl_bs; rotate_left; exact rfl; exact rfl; (apply LO.bsB3; exact rfl; exact rfl; exact rfl))
    | (apply WL.kl_bs; rotate_left; exact rfl; exact rfl; (apply LO.bsR3; exact rfl; exact rfl; exact rfl))
    | (apply WL.kl_app; rotate_left; exact rfl; exact rfl; (apply LO.appTT; exact rfl; exact rfl; exact meA; (apply One.sl; exact knA); (intro _; exact seA); omega))
    | (apply WL.kl_app; rotate_left; exact rfl; exact rfl; (apply LO.appRo; exact rfl; exact rfl; exact meA; exact hmA; omega; (intro _; exact seA); omega))
    | (apply WL.kl_app; rotate_left; exact rfl; exact rfl; (apply LO.appBf; exact rfl; exact rfl; exact hmA; (intro _; exact seA); omega))
    | (apply WL.kl_app; rotate_left; exact rfl; exact rfl; (apply LO.appR1; exact rfl; exact rfl; exact meA; exact hmA; (intro _; exact seA); omega))
    | (apply WL.kl_app; rotate_left; exact rfl; exact rfl; (apply LO.appB1; exact rfl; exact rfl; exact meA; exact hmA; (intro _; exact seA); omega))
    | (apply WL.kl_app; rotate_left; exact rfl; exact rfl; (apply LO.appT1; exact rfl; exact rfl; exact meA; (first | exact One.lit rfl rfl | (apply One.sl; exact knA)); (intro _; exact seA); (simp only [List.length_append, List.length_cons, List.length_nil, List.length_map, List.length_range]; omega)))
    | (apply WL.kl_bs; rotate_left; exact rfl; exact rfl; apply LO.bs1; exact t5A; (repeat (first | exact EvP.nil | (apply EvP.cons; exact rfl))); (intro _; kernel_rfl); exact rfl; omega)
    | (apply WL.kl_app; rotate_left; exact rfl; exact rfl; apply LO.app; exact t4A; exact rfl; exact rfl; (first | (focus (apply SrcE.ints; exact hmA; done)) | (focus (apply SrcE.own1; exact meA; done)) | (focus (apply SrcE.one; exact meA; exact rfl; decide; done))); (intro v; exact seA); exact onA; exact leA; exact leA))
  exact Bx.h h) : G := s ⟨h⟩
theorem goDG {G G' : Prop} (h : G') (s : Bx G' → G := by
  intro h
  (first
    | (apply WD.kl_alloc; exact rfl; rotate_left; exact rfl; exact rfl; apply LO.alloc'; (first | exact t0A); apply allAnd; (intro _; exact ltA))
    | (apply WD.kl_box; exact rfl; rotate_left; exact rfl; exact rfl; (first | (apply LO.boxA; exact rfl) | (apply LO.box1; exact rfl; (first | exact One.lit rfl rfl | (apply One.sl; exact knA)))); apply allAnd; (intro _; exact ltA)))
  exact Bx.h h) : G := s ⟨h⟩
theorem goDV {G G' : Prop} (h : G') (s : Bx G' → G := by
  intro h
  (first
    | (apply WD.kl_ms; exact rfl; rotate_left; exact rfl; exact rfl; (apply LO.makeI; exact rfl; exact rfl; (repeat (first | (with_reducible apply NatI.add) | (with_reducible exact NatI.one) | exact NatI.cast _)); omega); apply allAnd; (intro _; exact ltA))
    | (apply WD.kl_ms; exact rfl; rotate_left; exact rfl; exact rfl; (apply LO.makeR; exact rfl; exact rfl; (repeat (first | (with_reducible apply NatI.add) | (with_reducible exact NatI.one) | exact NatI.cast _)); omega); apply allAnd; (intro _; exact ltA))
    | (apply WD.kl_ms; exact rfl; rotate_left; exact rfl; exact rfl; (apply LO.makeLn; exact rfl; exact rfl; (repeat (first | (with_reducible apply NatI.add) | (with_reducible exact NatI.one) | exact NatI.cast _)); omega); apply allAnd; (intro _; exact ltA))
    | (apply WD.kl_ms; exact rfl; rotate_left; exact rfl; exact rfl; (apply LO.makeTT; exact rfl; exact rfl; (repeat (first | (with_reducible apply NatI.add) | (with_reducible exact NatI.one) | exact NatI.cast _)); omega); apply allAnd; (intro _; exact ltA))
    | (apply WD.kl_bs; exact rfl; rotate_left; exact rfl; exact rfl; (apply LO.bsI3; exact rfl; exact rfl; exact rfl); apply allAnd; (intro _; exact ltA))
    | (apply WD.kl_bs; exact rfl; rotate_left; exact rfl; exact rfl; (apply LO.bsI2; exact rfl; exact rfl); apply allAnd; (intro _; exact ltA))
    | (apply WD.kl_bs; exact rfl; rotate_left; exact rfl; exact rfl; (apply LO.bsR0); apply allAnd; (intro _; exact ltA))
    | (apply WD.kl_bs; exact rfl; rotate_left; exact rfl; exact rfl; (apply LO.bsB0); apply allAnd; (intro _; exact ltA))
    | (apply WD.kl_bs; exact rfl; rotate_left; exact rfl; exact rfl; (apply LO.bsR1; exact rfl); apply allAnd; (intro _; exact ltA))
    | (apply WD.kl_bs; exact rfl; rotate_left; exact rfl; exact rfl; (apply LO.bsB1; exact rfl); apply allAnd; (intro _; exact ltA))
    | (apply WD.kl_bs; exact rfl; rotate_left; exact rfl; exact rfl; (apply LO.bsT1; exact rfl; exact knA); apply allAnd; (intro _; exact ltA))
    | (apply WD.kl_bs; exact rfl; rotate_left; exact rfl; exact rfl; (apply LO.bsB3; exact rfl; exact rfl; exact rfl); apply allAnd; (intro _; exact ltA))
    | (apply WD.kl_bs; exact rfl; rotate_left; exact rfl; exact rfl; (apply LO.bsR3; exact rfl; exact rfl; exact rfl); apply allAnd; (intro _; exact ltA))
    | (apply WD.kl_app; exact rfl; rotate_left; exact rfl; exact rfl; (apply LO.appTT; exact rfl; exact rfl; exact meA; (apply One.sl; exact knA); (intro _; exact seA); omega); apply allAnd; (intro _; exact ltA))
    | (apply WD.kl_app; exact rfl; rotate_left; exact rfl; exact rfl; (apply LO.appRo; exact rfl; exact rfl; exact meA; exact hmA; omega; (intro _; exact seA); omega); apply allAnd; (intro _; exact ltA))
    | (apply WD.kl_app; exact rfl; rotate_left; exact rfl; exact rfl; (apply LO.appBf; exact rfl; exact rfl; exact hmA; (intro _; exact seA); omega); apply allAnd; (intro _; exact ltA))
    | (apply WD.kl_app; exact rfl; rotate_left; exact rfl; exact rfl; (apply LO.appR1; exact rfl; exact rfl; exact meA; exact hmA; (intro _; exact seA); omega); apply allAnd; (intro _; exact ltA))
    | (apply WD.kl_app; exact rfl; rotate_left; exact rfl; exact rfl; (apply LO.appB1; exact rfl; exact rfl; exact meA; exact hmA; (intro _; exact seA); omega); apply allAnd; (intro _; exact ltA))
    | (apply WD.kl_app; exact rfl; rotate_left; exact rfl; exact rfl; (apply LO.appT1; exact rfl; exact rfl; exact meA; (first | exact One.lit rfl rfl | (apply One.sl; exact knA)); (intro _; exact seA); (simp only [List.length_append, List.length_cons, List.length_nil, List.length_map, List.length_range]; omega)); apply allAnd; (intro _; exact ltA))
    | (apply WD.kl_bs; exact rfl; rotate_left; exact rfl; exact rfl; apply LO.bs1; exact t5A; (repeat (first | exact EvP.nil | (apply EvP.cons; exact rfl))); (intro _; kernel_rfl); exact rfl; omega; apply allAnd; (intro _; exact ltA))
    | (apply WD.kl_app; exact rfl; rotate_left; exact rfl; exact rfl; apply LO.app; exact t4A; exact rfl; exact rfl; (first | (focus (apply SrcE.ints; exact hmA; done)) | (focus (apply SrcE.own1; exact meA; done)) | (focus (apply SrcE.one; exact meA; exact rfl; decide; done))); (intro v; exact seA); exact onA; exact leA; exact leA; apply allAnd; (intro _; exact ltA)))
  exact Bx.h h) : G := s ⟨h⟩
theorem goLG {G G' : Prop} (h : G') (s : Bx G' → G := by
  intro h
  (first
    | (apply LO.alloc'; (first | exact t0A); apply allAnd; (intro _; exact ltA))
    | ((first | (apply LO.boxA; exact rfl) | (apply LO.box1; exact rfl; (first | exact One.lit rfl rfl | (apply One.sl; exact knA)))); apply allAnd; (intro _; exact ltA)))
  exact Bx.h h) : G := s ⟨h⟩
theorem goLV {G G' : Prop} (h : G') (s : Bx G' → G := by
  intro h
  (first
    | (apply LO.bs1; exact t5A; (repeat (first | exact EvP.nil | (apply EvP.cons; exact rfl))); (intro _; kernel_rfl); exact rfl; omega; apply allAnd; (intro _; exact ltA))
    | (apply LO.app; exact t4A; exact rfl; exact rfl; (first | (focus (apply SrcE.ints; exact hmA; done)) | (focus (apply SrcE.own1; exact meA; done)) | (focus (apply SrcE.one; exact meA; exact rfl; decide; done))); (intro v; exact seA); exact onA; exact leA; exact leA; apply allAnd; (intro _; exact ltA))
    | ((apply LO.makeI; exact rfl; exact rfl; (repeat (first | (with_reducible apply NatI.add) | (with_reducible exact NatI.one) | exact NatI.cast _)); omega); apply allAnd; (intro _; exact ltA))
    | ((apply LO.makeR; exact rfl; exact rfl; (repeat (first | (with_reducible apply NatI.add) | (with_reducible exact NatI.one) | exact NatI.cast _)); omega); apply allAnd; (intro _; exact ltA))
    | ((apply LO.makeLn; exact rfl; exact rfl; (repeat (first | (with_reducible apply NatI.add) | (with_reducible exact NatI.one) | exact NatI.cast _)); omega); apply allAnd; (intro _; exact ltA))
    | ((apply LO.makeTT; exact rfl; exact rfl; (repeat (first | (with_reducible apply NatI.add) | (with_reducible exact NatI.one) | exact NatI.cast _)); omega); apply allAnd; (intro _; exact ltA))
    | ((apply LO.bsI3; exact rfl; exact rfl; exact rfl); apply allAnd; (intro _; exact ltA))
    | ((apply LO.bsI2; exact rfl; exact rfl); apply allAnd; (intro _; exact ltA))
    | ((apply LO.bsR0); apply allAnd; (intro _; exact ltA))
    | ((apply LO.bsB0); apply allAnd; (intro _; exact ltA))
    | ((apply LO.bsR1; exact rfl); apply allAnd; (intro _; exact ltA))
    | ((apply LO.bsB1; exact rfl); apply allAnd; (intro _; exact ltA))
    | ((apply LO.bsT1; exact rfl; exact knA); apply allAnd; (intro _; exact ltA))
    | ((apply LO.bsB3; exact rfl; exact rfl; exact rfl); apply allAnd; (intro _; exact ltA))
    | ((apply LO.bsR3; exact rfl; exact rfl; exact rfl); apply allAnd; (intro _; exact ltA))
    | ((apply LO.appTT; exact rfl; exact rfl; exact meA; (apply One.sl; exact knA); (intro _; exact seA); omega); apply allAnd; (intro _; exact ltA))
    | ((apply LO.appRo; exact rfl; exact rfl; exact meA; exact hmA; omega; (intro _; exact seA); omega); apply allAnd; (intro _; exact ltA))
    | ((apply LO.appBf; exact rfl; exact rfl; exact hmA; (intro _; exact seA); omega); apply allAnd; (intro _; exact ltA))
    | ((apply LO.appR1; exact rfl; exact rfl; exact meA; exact hmA; (intro _; exact seA); omega); apply allAnd; (intro _; exact ltA))
    | ((apply LO.appB1; exact rfl; exact rfl; exact meA; exact hmA; (intro _; exact seA); omega); apply allAnd; (intro _; exact ltA))
    | ((apply LO.appT1; exact rfl; exact rfl; exact meA; (first | exact One.lit rfl rfl | (apply One.sl; exact knA)); (intro _; exact seA); (simp only [List.length_append, List.length_cons, List.length_nil, List.length_map, List.length_range]; omega)); apply allAnd; (intro _; exact ltA)))
  exact Bx.h h) : G := s ⟨h⟩
theorem goLS {G G' : Prop} (h : G') (s : Bx G' → G := by
  intro h
  (first
    | ((first | (apply LO.storeOI; exact rfl; exact rfl; exact t2A; exact seA; (first | omega | (simp only [List.length_set]; omega))) | (apply LO.storeQ; exact rfl; exact rfl; exact t6A; exact hmA; exact seA; omega) | (apply LO.storeL1; exact rfl; exact rfl; exact t6A; exact hmA; exact seA; omega) | (apply LO.storeOT; exact rfl; exact rfl; exact t2A; (first | exact One.lit rfl rfl | (apply One.sl; exact knA)); exact seA; omega) | (apply LO.storeB2; exact rfl; exact rfl; exact t6A; exact hmA; exact seA) | (apply LO.storeBf; exact rfl; exact rfl; exact t2A; exact seA; omega) | (apply LO.storeBt; exact rfl; exact rfl; exact t2A; exact seA; omega) | (apply LO.storeBq; exact rfl; exact rfl; exact t6A; exact hmA; exact seA; omega) | (apply LO.storeI; exact rfl; exact rfl; exact t2A; exact seA; (first | omega | (simp only [List.length_set, List.length_replicate]; omega))) | (apply LO.storeWI; exact rfl; exact rfl; exact seA; exact t6A; (first | omega | (simp only [List.length_set, List.length_replicate]; omega)); (first | (simp only [List.length_map, List.length_set, List.length_replicate, ints]; omega) | rfl)) | (apply LO.store1; exact rfl; exact rfl; exact t2A; (first | exact One.lit rfl rfl | (apply One.sl; exact knA)); exact seA; (first | (simp only [List.length_cons, List.length_nil]; omega) | (simp; omega)); (first | (simp only [List.set_cons_succ, List.set_cons_zero]; exact rfl) | exact rfl)) | (apply LO.storeO1; exact rfl; exact rfl; exact t2A; (first | exact One.lit rfl rfl | (apply One.sl; exact knA)); exact seA; (first | (simp only [List.length_cons, List.length_nil]; omega) | (simp; omega)); (first | (simp only [List.set_cons_succ, List.set_cons_zero]; exact rfl) | exact rfl)) | (apply LO.storeL; exact rfl; exact rfl; exact seA; exact t6A; exact rfl; exact rfl; (repeat (first | exact OneL.nil | (apply OneL.cons; (first | exact One.lit rfl rfl | (apply One.sl; exact knA))))))); constructor; exact ltA))
  exact Bx.h h) : G := s ⟨h⟩
theorem goYL {G G' : Prop} (h : G') (s : Bx G' → G := by
  intro h
  (apply WD.fy; exact rfl; (first | (apply YO.move; exact rfl) | (apply YO.assign; exact rfl) | exact y_lss | exact y_add | exact y_len | exact y_indexAddr | exact y_load | exact y_pick | exact y_fieldAddr | exact y_eql | exact y_neq | (apply YO.nil; exact rfl) | (apply YO.extract; exact rfl; exact rfl) | exact y_gtr | exact y_geq | exact y_leq | (apply YO.sub; exact rfl; exact rfl; omega; omega) | exact y_mul | exact y_rem | exact y_quo | exact y_unot | exact y_uneg | (apply YO.max; exact rfl; exact rfl) | (apply YO.min; exact rfl; exact rfl) | exact y_makeFunc | exact y_conv | exact y_shl | (apply YO.shr'; exact rfl; exact rfl; omega; omega) | exact y_and | exact y_or | (apply YO.anot; exact rfl; exact rfl) | exact y_slice); exact rfl; exact rfl)
  exact Bx.h h) : G := s ⟨h⟩
theorem goYT {G G' : Prop} (h : G') (s : Bx G' → G := by
  intro h
  (apply WD.yl; exact rfl; (first | (apply YO.move; exact rfl) | (apply YO.assign; exact rfl) | exact y_lss | exact y_add | exact y_len | exact y_indexAddr | exact y_load | exact y_pick | exact y_fieldAddr | exact y_eql | exact y_neq | (apply YO.nil; exact rfl) | (apply YO.extract; exact rfl; exact rfl) | exact y_gtr | exact y_geq | exact y_leq | (apply YO.sub; exact rfl; exact rfl; omega; omega) | exact y_mul | exact y_rem | exact y_quo | exact y_unot | exact y_uneg | (apply YO.max; exact rfl; exact rfl) | (apply YO.min; exact rfl; exact rfl) | exact y_makeFunc | exact y_conv | exact y_shl | (apply YO.shr'; exact rfl; exact rfl; omega; omega) | exact y_and | exact y_or | (apply YO.anot; exact rfl; exact rfl) | exact y_slice); exact rfl; exact rfl)
  exact Bx.h h) : G := s ⟨h⟩
end J
end Go.Proofs.YthggloiigkbfeaaGreat
namespace Go.Proofs.YthggloiigkbfeaaGreat
open W Go.RowKit
/-- the example's system, in sixths -/
def exB (k : Int) : List Bd := [⟨0, 1, 12⟩, ⟨1, 2, -30⟩, ⟨2, 0, k * 6⟩]
/-- answers bounds -/
def IsBs (D : Nat) (bs : List Bd) : RPost := fun v b G => ∃ ms, b = [] ∧ G = [fB D v ms bs]
namespace J
open G H I
attribute [local irreducible] WC WL WD YO LO LoopEnd W.Fin Scalar SliceT FieldAt Row ArrT AllocT KnS Has W.One SrcE IntT
theorem d27 {G G' : Prop} (h : G') (s : Bx G' → G := by
  intro h
  first | (apply WC.draw (id := 6) [0, 1, 2, 3, 4, 5, 6, 7, 9] (.held 0 (.held 1 (.held 2 (.held 3 (.held 4 (.held 5 (.held 6 (.held 7 (.loud 8 (.held 9 (.done))))))))))) mixed (by kernel_rfl)) | fail
  exact Bx.h h) : G := s ⟨h⟩
set_option maxHeartbeats 4000000 in
set_option maxRecDepth 60000 in
theorem same_c (D : Nat) [Den D] (u w : Value) (mu mw : Nat → QM) (a b : List Int) : FnB Tryz.prog 27 [u, w] [] [fR D u mu a, fR D w mw b] (IsV (.bool (decide (a = b)))) := by
  refine fn_of [(0, u), (1, w)] 27 Tryz.func27 rfl Tryz.ntmps27 (by kernel_rfl) rfl suA fun h0 => ?_
  refine WC.lenF (v := u) (m := a.length) (sz := 4) (f := qcell mu) (W.Has.rs (D := D) hmA) fun hlen => ?_
  by_cases hl : a.length = b.length
  · repeat' (first | refine go ?_ | refine goX ?_ | refine goB ?_ | (refine goG ?_; intro g) | (refine goV ?_; intro v) | refine goD ?_ | refine goXD ?_ | (refine goDG ?_; intro g) | (refine goDV ?_; intro v) | refine d27 ?_ | fail)
    refine WC.lp (σ := Nat) (fun k => [(5, .int .i64 (k : Int)), (0, u), (1, w)]) (fun _ => []) (fun _ => [ge h0, fR D u mu a, fR D w mw b]) (fun k => k ≤ a.length ∧ ∀ j, j < k → a.getD j 0 = b.getD j 0) (fun k => a.length - k) 0 ⟨Nat.zero_le _, fun j h => by omega⟩ ?_
    rintro k ⟨hk, hn⟩
    by_cases hlt : k < a.length
    · refine WC.fact (isQ (qv (mu k)) (wq D (a.getD k 0))) (W.Has.q (W.Has.rm (v := u) hmA) hlt) ?_
      refine WC.fact (isQ (qv (mw k)) (wq D (b.getD k 0))) (W.Has.q (W.Has.rm (v := w) hmA) (by omega)) ?_
      repeat' (first | refine go ?_ | refine goX ?_ | refine goB ?_ | (refine goG ?_; intro g) | (refine goV ?_; intro v) | refine goD ?_ | refine goXD ?_ | (refine goDG ?_; intro g) | (refine goDV ?_; intro v) | refine d27 ?_ | fail)
      first | refine WL.callV (rsamew_c D (mu k) (mw k) (a.getD k 0) (b.getD k 0)) ?_ | refine WD.callV (rsamew_c D (mu k) (mw k) (a.getD k 0) (b.getD k 0)) ?_
      by_cases he : a.getD k 0 = b.getD k 0
      · rw [decide_eq_true he]
        repeat' (first | refine go ?_ | refine goX ?_ | refine goB ?_ | (refine goG ?_; intro g) | (refine goV ?_; intro v) | refine goD ?_ | refine goXD ?_ | (refine goDG ?_; intro g) | (refine goDV ?_; intro v) | refine d27 ?_ | fail)
        refine LoopEnd.mk (k + 1) ⟨by omega, fun j hj => ?_⟩ (by show a.length - (k + 1) < a.length - k; omega)
        by_cases hjk : j = k
        · subst hjk; exact he
        · exact hn j (by omega)
      · rw [decide_eq_false he]
        repeat' (first | refine go ?_ | refine goX ?_ | refine goB ?_ | (refine goG ?_; intro g) | (refine goV ?_; intro v) | refine goD ?_ | refine goXD ?_ | (refine goDG ?_; intro g) | (refine goDV ?_; intro v) | refine d27 ?_ | fail)
        exact WC.ret (Fin.v (ResE.t1 rfl rfl) meA (by rw [decide_eq_false (fun h => he (by rw [h]))]))
    · repeat' (first | refine go ?_ | refine goX ?_ | refine goB ?_ | (refine goG ?_; intro g) | (refine goV ?_; intro v) | refine goD ?_ | refine goXD ?_ | (refine goDG ?_; intro g) | (refine goDV ?_; intro v) | refine d27 ?_ | fail)
      exact WC.ret (Fin.v (ResE.t1 rfl rfl) meA (by rw [decide_eq_true]; exact same_all hl (fun j hj => hn j (by omega))))
  · repeat' (first | refine go ?_ | refine goX ?_ | refine goB ?_ | (refine goG ?_; intro g) | (refine goV ?_; intro v) | refine goD ?_ | refine goXD ?_ | (refine goDG ?_; intro g) | (refine goDV ?_; intro v) | refine d27 ?_ | fail)
    exact WC.ret (Fin.v (ResE.t1 rfl rfl) meA (by rw [decide_eq_false (fun h => hl (by rw [h]))]))
set_option maxHeartbeats 4000000 in
set_option maxRecDepth 60000 in
theorem three_c (k : Int) (hk : k.natAbs ≤ 1000) : FnB Tryz.prog 79 [.int .i64 k] [] [] (IsBs 6 (exB k)) := by
  refine fn_of [(0, (.int .i64 k))] 11 Tryz.func79 rfl Tryz.ntmps79 (by kernel_rfl) rfl suA fun h0 => ?_
  repeat' (first | refine go ?_ | refine goX ?_ | refine goB ?_ | (refine goG ?_; intro g) | (refine goV ?_; intro v))
  first | refine WL.callK (rofw_c 6 2 1 6 (by decide) (by decide) (by decide) (by decide)) ?_ | refine WD.callK (rofw_c 6 2 1 6 (by decide) (by decide) (by decide) (by decide)) ?_ | refine LO.callM (rofw_c 6 2 1 6 (by decide) (by decide) (by decide) (by decide)) ?_
  rintro _ _ _ ⟨m2, rfl, rfl, rfl⟩
  simp only [List.nil_append, List.cons_append]
  repeat' (first | refine go ?_ | refine goX ?_ | refine goB ?_ | (refine goG ?_; intro g) | (refine goV ?_; intro v))
  first | refine WL.callK (rofw_c 6 (-5) 1 6 (by decide) (by decide) (by decide) (by decide)) ?_ | refine WD.callK (rofw_c 6 (-5) 1 6 (by decide) (by decide) (by decide) (by decide)) ?_ | refine LO.callM (rofw_c 6 (-5) 1 6 (by decide) (by decide) (by decide) (by decide)) ?_
  rintro _ _ _ ⟨m3, rfl, rfl, rfl⟩
  simp only [List.nil_append, List.cons_append]
  repeat' (first | refine go ?_ | refine goX ?_ | refine goB ?_ | (refine goG ?_; intro g) | (refine goV ?_; intro v))
  first | refine WL.callK (rofw_c 6 k 1 6 (by decide) (by decide) (by unfold B2; omega) (by decide)) ?_ | refine WD.callK (rofw_c 6 k 1 6 (by decide) (by decide) (by unfold B2; omega) (by decide)) ?_ | refine LO.callM (rofw_c 6 k 1 6 (by decide) (by decide) (by unfold B2; omega) (by decide)) ?_
  rintro _ _ _ ⟨m4, rfl, rfl, rfl⟩
  simp only [List.nil_append, List.cons_append]
  repeat' (first | refine go ?_ | refine goX ?_ | refine goB ?_ | (refine goG ?_; intro g) | (refine goV ?_; intro v))
  refine WL.l rfl rfl (LO.bsB3 (b1 := ⟨0, 1, 12⟩) (b2 := ⟨1, 2, -30⟩) (b3 := ⟨2, 0, k * 6⟩) (m1 := m2) (m2 := m3) (m3 := m4) rfl rfl rfl fun v => ?_)
  refine WL.freezeB (D := 6) (el := 59) v (up3 m2 m3 m4) (exB k) (by repeat (first | exact Sel.head | apply Sel.tail)) (W.Has.mB3 hmA hmA hmA) ?_
  repeat' (first | refine go ?_ | refine goX ?_ | refine goB ?_ | (refine goG ?_; intro g) | (refine goV ?_; intro v))
  exact WC.ret (Fin.p [] [fB 6 v (up3 m2 m3 m4) (exB k)] (ResE.t1 rfl rfl) meA (List.nil_sublist _) haA ⟨_, rfl, rfl⟩)
end J
end Go.Proofs.YthggloiigkbfeaaGreat
namespace Go.Proofs.YthggloiigkbfeaaGreat
open W Go.RowKit
theorem srt414 : srt [4, 1, 4] = [1, 4, 4] := by
  unfold srt
  simp [List.mergeSort, List.MergeSort.Internal.splitInTwo, List.merge]
theorem coreL414 : coreL [4, 1, 4] = [1, 4] := by
  unfold coreL; rw [srt414]; decide
theorem ex_slv4 : slv 3 (exB 4) = ([-6, 0, -30], [], 0) := by decide +kernel
theorem ex_slv2 : slv 3 (exB 2) = ([], [0, 1, 2], 14) := by decide +kernel
theorem ex_mst : mst 3 (exB 4) 0 2 = (-18, [0, 1], 0) := by decide +kernel
theorem ex_chk : chk 3 (exB 4) [-6, 0, -30] [] = 0 := by decide +kernel
theorem ex_cor : cor 3 (exB 2) [4, 1, 4] = ([1, 4], 0) := by
  unfold cor
  rw [coreL414]
  decide +kernel
end Go.Proofs.YthggloiigkbfeaaGreat
namespace Go.Proofs.YthggloiigkbfeaaGreat
open W Go.RowKit
theorem ex_fit (k : Int) (hk : k.natAbs ≤ 100) : Fit (exB k) := by
  unfold Fit absS exB; simp; omega
theorem ex_small (i : Nat) : (([-6, 0, -30] : List Int).getD i 0).natAbs ≤ 250000000 := by
  match i with
  | 0 => decide
  | 1 => decide
  | 2 => decide
  | i + 3 => simp
namespace J
open G H I
attribute [local irreducible] WC WL WD YO LO LoopEnd W.Fin Scalar SliceT FieldAt Row ArrT AllocT KnS Has W.One SrcE IntT
theorem d32 {G G' : Prop} (h : G') (s : Bx G' → G := by
  intro h
  first | (apply WC.draw (id := 6) [0, 1, 2, 3, 4, 6, 7, 8, 9, 10, 11, 12, 13, 14, 15, 16, 17, 20, 21, 22, 25, 26, 27, 28, 29, 30, 31, 32, 33, 34, 35, 36, 39, 40, 41, 42, 43, 44, 45, 48, 49, 51, 53, 54, 55] (.held 0 (.held 1 (.held 2 (.held 3 (.held 4 (.loud 5 (.held 6 (.held 7 (.held 8 (.held 9 (.held 10 (.held 11 (.held 12 (.held 13 (.held 14 (.held 15 (.held 16 (.held 17 (.loud 18 (.loud 19 (.held 20 (.held 21 (.held 22 (.loud 23 (.loud 24 (.held 25 (.held 26 (.held 27 (.held 28 (.held 29 (.held 30 (.held 31 (.held 32 (.held 33 (.held 34 (.held 35 (.held 36 (.loud 37 (.loud 38 (.held 39 (.held 40 (.held 41 (.held 42 (.held 43 (.held 44 (.held 45 (.loud 46 (.loud 47 (.held 48 (.held 49 (.held 51 (.loud 50 (.loud 52 (.held 53 (.held 54 (.held 55 (.done))))))))))))))))))))))))))))))))))))))))))))))))))))))))) mixed (by kernel_rfl)) | fail
  exact Bx.h h) : G := s ⟨h⟩
set_option maxHeartbeats 16000000 in
set_option maxRecDepth 60000 in
theorem lives_c : FnB Tryz.prog 32 [] [] [] (IsV (.bool true)) := by
  refine fn_of [] 96 Tryz.func32 rfl Tryz.ntmps32 (by kernel_rfl) rfl suA fun h0 => ?_
  have f4 := ex_fit 4 (by decide)
  have hz : ([] : List Int).length = 0 := rfl
  have f2 := ex_fit 2 (by decide)
  repeat' (first | refine go ?_ | refine goX ?_ | refine goB ?_ | (refine goG ?_; intro g) | (refine goV ?_; intro v) | refine goD ?_ | refine goXD ?_ | (refine goDG ?_; intro g) | (refine goDV ?_; intro v) | refine d32 ?_ | fail)
  first | refine WL.callK (three_c 4 (by decide)) ?_ | refine WD.callK (three_c 4 (by decide)) ?_ | refine LO.callM (three_c 4 (by decide)) ?_
  rintro t1 bb GG ⟨ms1, rfl, rfl⟩
  simp only [List.nil_append, List.cons_append]
  first | refine WL.callK (solve_c 6 t1 ms1 (exB 4) 3 f4) ?_ | refine WD.callK (solve_c 6 t1 ms1 (exB 4) 3 f4) ?_ | refine LO.callM (solve_c 6 t1 ms1 (exB 4) 3 f4) ?_
  rintro rv bb GG ⟨ux, mx, uc, rfl, rfl, rfl⟩
  rw [ex_slv4]
  simp only [List.nil_append, List.cons_append]
  repeat' (first | refine go ?_ | refine goX ?_ | refine goB ?_ | (refine goG ?_; intro g) | (refine goV ?_; intro v) | refine goD ?_ | refine goXD ?_ | (refine goDG ?_; intro g) | (refine goDV ?_; intro v) | refine d32 ?_ | fail)
  first | refine WL.callK (three_c 4 (by decide)) ?_ | refine WD.callK (three_c 4 (by decide)) ?_ | refine LO.callM (three_c 4 (by decide)) ?_
  rintro t2 bb GG ⟨ms2, rfl, rfl⟩
  simp only [List.nil_append, List.cons_append]
  repeat' (first | refine go ?_ | refine goX ?_ | refine goB ?_ | (refine goG ?_; intro g) | (refine goV ?_; intro v) | refine goD ?_ | refine goXD ?_ | (refine goDG ?_; intro g) | (refine goDV ?_; intro v) | refine d32 ?_ | fail)
  first | refine WL.callK (most_c 6 t2 ms2 (exB 4) 3 0 2 f4) ?_ | refine WD.callK (most_c 6 t2 ms2 (exB 4) 3 0 2 f4) ?_ | refine LO.callM (most_c 6 t2 ms2 (exB 4) 3 0 2 f4) ?_
  rintro rv bb GG ⟨m, up, rfl, rfl, rfl⟩
  rw [ex_mst]
  simp only [List.nil_append, List.cons_append]
  repeat' (first | refine go ?_ | refine goX ?_ | refine goB ?_ | (refine goG ?_; intro g) | (refine goV ?_; intro v) | refine goD ?_ | refine goXD ?_ | (refine goDG ?_; intro g) | (refine goDV ?_; intro v) | refine d32 ?_ | fail)
  revert g; intro g4
  first | refine WL.callK (three_c 2 (by decide)) ?_ | refine WD.callK (three_c 2 (by decide)) ?_ | refine LO.callM (three_c 2 (by decide)) ?_
  rintro t3 bb GG ⟨ms3, rfl, rfl⟩
  simp only [List.nil_append, List.cons_append]
  first | refine WL.callK (solve_c 6 t3 ms3 (exB 2) 3 f2) ?_ | refine WD.callK (solve_c 6 t3 ms3 (exB 2) 3 f2) ?_ | refine LO.callM (solve_c 6 t3 ms3 (exB 2) 3 f2) ?_
  rintro rv bb GG ⟨uy, my, ud, rfl, rfl, rfl⟩
  rw [ex_slv2]
  simp only [List.nil_append, List.cons_append]
  repeat' (first | refine go ?_ | refine goX ?_ | refine goB ?_ | (refine goG ?_; intro g) | (refine goV ?_; intro v) | refine goD ?_ | refine goXD ?_ | (refine goDG ?_; intro g) | (refine goDV ?_; intro v) | refine d32 ?_ | fail)
  first | refine WL.callK (three_c 2 (by decide)) ?_ | refine WD.callK (three_c 2 (by decide)) ?_ | refine LO.callM (three_c 2 (by decide)) ?_
  rintro t4 bb GG ⟨ms4, rfl, rfl⟩
  simp only [List.nil_append, List.cons_append]
  repeat' (first | refine go ?_ | refine goX ?_ | refine goB ?_ | (refine goG ?_; intro g) | (refine goV ?_; intro v) | refine goD ?_ | refine goXD ?_ | (refine goDG ?_; intro g) | (refine goDV ?_; intro v) | refine d32 ?_ | fail)
  revert v; intro vg
  refine WL.freezeI (l := [4, 1, 4]) (v := vg) (el := 3) (by repeat (first | exact Sel.head | apply Sel.tail)) ?_
  first | refine WL.callK (core_c 6 t4 vg ms4 (exB 2) [4, 1, 4] 3 f2) ?_ | refine WD.callK (core_c 6 t4 vg ms4 (exB 2) [4, 1, 4] 3 f2) ?_ | refine LO.callM (core_c 6 t4 vg ms4 (exB 2) [4, 1, 4] 3 f2) ?_
  rintro rv bb GG ⟨uk, rfl, rfl, rfl⟩
  rw [ex_cor]
  simp only [List.nil_append, List.cons_append]
  repeat' (first | refine go ?_ | refine goX ?_ | refine goB ?_ | (refine goG ?_; intro g) | (refine goV ?_; intro v) | refine goD ?_ | refine goXD ?_ | (refine goDG ?_; intro g) | (refine goDV ?_; intro v) | refine d32 ?_ | fail)
  first | refine WL.callK (rofw_c 6 (-1) 1 6 (by decide) (by decide) (by decide) (by decide)) ?_ | refine WD.callK (rofw_c 6 (-1) 1 6 (by decide) (by decide) (by decide) (by decide)) ?_ | refine LO.callM (rofw_c 6 (-1) 1 6 (by decide) (by decide) (by decide) (by decide)) ?_
  rintro _ _ _ ⟨m5, rfl, rfl, rfl⟩
  simp only [List.nil_append, List.cons_append]
  repeat' (first | refine go ?_ | refine goX ?_ | refine goB ?_ | (refine goG ?_; intro g) | (refine goV ?_; intro v) | refine goD ?_ | refine goXD ?_ | (refine goDG ?_; intro g) | (refine goDV ?_; intro v) | refine d32 ?_ | fail)
  first | refine WL.callK (rofw_c 6 (-5) 1 6 (by decide) (by decide) (by decide) (by decide)) ?_ | refine WD.callK (rofw_c 6 (-5) 1 6 (by decide) (by decide) (by decide) (by decide)) ?_ | refine LO.callM (rofw_c 6 (-5) 1 6 (by decide) (by decide) (by decide) (by decide)) ?_
  rintro _ _ _ ⟨m6, rfl, rfl, rfl⟩
  simp only [List.nil_append, List.cons_append]
  repeat' (first | refine go ?_ | refine goX ?_ | refine goB ?_ | (refine goG ?_; intro g) | (refine goV ?_; intro v) | refine goD ?_ | refine goXD ?_ | (refine goDG ?_; intro g) | (refine goDV ?_; intro v) | refine d32 ?_ | fail)
  refine WL.l rfl rfl (LO.bsR3 (m1 := m5) (m2 := m00) (m3 := m6) rfl rfl rfl fun uw => ?_)
  refine WL.freezeR (D := 6) (el := 37) uw (up3 m5 m00 m6) [-6, 0, -30] (by repeat (first | exact Sel.head | apply Sel.tail)) (W.Has.mQ3 hmA hasQ0w hmA) ?_
  repeat' (first | refine go ?_ | refine goX ?_ | refine goB ?_ | (refine goG ?_; intro g) | (refine goV ?_; intro v) | refine goD ?_ | refine goXD ?_ | (refine goDG ?_; intro g) | (refine goDV ?_; intro v) | refine d32 ?_ | fail)
  first | refine WL.callV (same_c 6 ux uw mx (up3 m5 m00 m6) [-6, 0, -30] [-6, 0, -30]) ?_ | refine WD.callV (same_c 6 ux uw mx (up3 m5 m00 m6) [-6, 0, -30] [-6, 0, -30]) ?_
  rw [decide_eq_true rfl]
  repeat' (first | refine go ?_ | refine goX ?_ | refine goB ?_ | (refine goG ?_; intro g) | (refine goV ?_; intro v) | refine goD ?_ | refine goXD ?_ | (refine goDG ?_; intro g) | (refine goDV ?_; intro v) | refine d32 ?_ | fail)
  first | refine WL.callK (rofw_c 6 (-3) 1 6 (by decide) (by decide) (by decide) (by decide)) ?_ | refine WD.callK (rofw_c 6 (-3) 1 6 (by decide) (by decide) (by decide) (by decide)) ?_ | refine LO.callM (rofw_c 6 (-3) 1 6 (by decide) (by decide) (by decide) (by decide)) ?_
  rintro _ _ _ ⟨m7, rfl, rfl, rfl⟩
  simp only [List.nil_append, List.cons_append]
  repeat' (first | refine go ?_ | refine goX ?_ | refine goB ?_ | (refine goG ?_; intro g) | (refine goV ?_; intro v) | refine goD ?_ | refine goXD ?_ | (refine goDG ?_; intro g) | (refine goDV ?_; intro v) | refine d32 ?_ | fail)
  first | refine WL.callV (rsamew_c 6 m m7 (-18) (-3 * (6 : Nat))) ?_ | refine WD.callV (rsamew_c 6 m m7 (-18) (-3 * (6 : Nat))) ?_
  rw [show decide ((-18 : Int) = -3 * (6 : Nat)) = true from by decide]
  repeat' (first | refine go ?_ | refine goX ?_ | refine goB ?_ | (refine goG ?_; intro g) | (refine goV ?_; intro v) | refine goD ?_ | refine goXD ?_ | (refine goDG ?_; intro g) | (refine goDV ?_; intro v) | refine d32 ?_ | fail)
  first | refine WL.callV (sameInts_c up v [0, 1] [0, 1]) ?_ | refine WD.callV (sameInts_c up v [0, 1] [0, 1]) ?_
  rw [show decide (([0, 1] : List Int) = [0, 1]) = true from by decide]
  repeat' (first | refine go ?_ | refine goX ?_ | refine goB ?_ | (refine goG ?_; intro g) | (refine goV ?_; intro v) | refine goD ?_ | refine goXD ?_ | (refine goDG ?_; intro g) | (refine goDV ?_; intro v) | refine d32 ?_ | fail)
  first | refine WL.callV (sameInts_c ud v [0, 1, 2] [0, 1, 2]) ?_ | refine WD.callV (sameInts_c ud v [0, 1, 2] [0, 1, 2]) ?_
  rw [show decide (([0, 1, 2] : List Int) = [0, 1, 2]) = true from by decide]
  repeat' (first | refine go ?_ | refine goX ?_ | refine goB ?_ | (refine goG ?_; intro g) | (refine goV ?_; intro v) | refine goD ?_ | refine goXD ?_ | (refine goDG ?_; intro g) | (refine goDV ?_; intro v) | refine d32 ?_ | fail)
  first | refine WL.callV (sameInts_c uk v [1, 4] [1, 4]) ?_ | refine WD.callV (sameInts_c uk v [1, 4] [1, 4]) ?_
  rw [show decide (([1, 4] : List Int) = [1, 4]) = true from by decide]
  repeat' (first | refine go ?_ | refine goX ?_ | refine goB ?_ | (refine goG ?_; intro g) | (refine goV ?_; intro v) | refine goD ?_ | refine goXD ?_ | (refine goDG ?_; intro g) | (refine goDV ?_; intro v) | refine d32 ?_ | fail)
  first | refine WL.callK (three_c 4 (by decide)) ?_ | refine WD.callK (three_c 4 (by decide)) ?_ | refine LO.callM (three_c 4 (by decide)) ?_
  rintro t5 bb GG ⟨ms5, rfl, rfl⟩
  simp only [List.nil_append, List.cons_append]
  repeat' (first | refine go ?_ | refine goX ?_ | refine goB ?_ | (refine goG ?_; intro g) | (refine goV ?_; intro v) | refine goD ?_ | refine goXD ?_ | (refine goDG ?_; intro g) | (refine goDV ?_; intro v) | refine d32 ?_ | fail)
  refine WD.callV (check_c 6 t5 ux (.slice none 0 0) ms5 mx (exB 4) [-6, 0, -30] [] 3 f4 (by decide) (by decide) ex_small) (hF := .cons (HasB.f hmA) (.cons (HasB.f hmA) (.cons (HasB.f nil0) .nil))) ?_
  rw [ex_chk]
  repeat' (first | refine go ?_ | refine goX ?_ | refine goB ?_ | (refine goG ?_; intro g) | (refine goV ?_; intro v) | refine goD ?_ | refine goXD ?_ | (refine goDG ?_; intro g) | (refine goDV ?_; intro v) | refine d32 ?_ | fail)
  exact WC.ret (Fin.v (ResE.t1 rfl rfl) meA rfl)
end J
end Go.Proofs.YthggloiigkbfeaaGreat
namespace Go.Proofs.YthggloiigkbfeaaGreat
open W Go.RowKit
def bentK (bs : List Bd) (at_ : Int) : Nat := (around at_ (max (bs.length : Int) 1)).toNat
/-- a system with one thing changed -/
def bentP (n : Int) (bs : List Bd) (how at_ : Int) : Int × List Bd :=
  if around how 6 = 0 then (0, bs) else if around how 6 = 1 then (33, bs) else if around how 6 = 2 then (32, bs)
  else if around how 6 = 3 then (n, if 0 < bs.length then bs.set (bentK bs at_) { bg bs (bentK bs at_) with fr := n } else bs)
  else if around how 6 = 4 then (n, if 0 < bs.length then bs.set (bentK bs at_) { bg bs (bentK bs at_) with to := -1 } else bs)
  else (n, bs)
theorem set_w {bs : List Bd} {k i : Nat} (hi : i < bs.length) (b : Bd) (hb : b.w = (bg bs k).w) : (bg (bs.set k b) i).w = (bg bs i).w := by
  by_cases c : i = k
  · subst c
    rw [← hb]; simp [bg, List.getD_eq_getElem?_getD, hi]
  · simp [bg, List.getD_eq_getElem?_getD, List.getElem?_set, Ne.symm c]
theorem W.Has.mBsetf {D k : Nat} {F : List Fct} {ms : Nat → QM} {bs : List Bd} {z : Int} (h : Has F (mB D ms bs)) : Has F (mB D ms (bs.set k { bg bs k with fr := z })) := fun p hf i hi => by
  rw [List.length_set] at hi
  have e : (bg (bs.set k { bg bs k with fr := z }) i).w = (bg bs i).w := set_w hi { bg bs k with fr := z } rfl
  rw [e]; exact h p hf i hi
theorem W.Has.mBsett {D k : Nat} {F : List Fct} {ms : Nat → QM} {bs : List Bd} {z : Int} (h : Has F (mB D ms bs)) : Has F (mB D ms (bs.set k { bg bs k with to := z })) := fun p hf i hi => by
  rw [List.length_set] at hi
  have e : (bg (bs.set k { bg bs k with to := z }) i).w = (bg bs i).w := set_w hi { bg bs k with to := z } rfl
  rw [e]; exact h p hf i hi
namespace J
open G H I
attribute [local irreducible] WC WL WD YO LO LoopEnd W.Fin Scalar SliceT FieldAt Row ArrT AllocT KnS Has W.One SrcE IntT
set_option maxHeartbeats 4000000 in
set_option maxRecDepth 60000 in
theorem bent_c (D : Nat) [Den D] (vb : Value) (ms : Nat → QM) (bs : List Bd) (n how at_ : Int) (hl : bs.length ≤ 1000) (h1 : I64 how) (h2 : I64 at_) : FnB Tryz.prog 24 [.int .i64 n, vb, .int .i64 how, .int .i64 at_] [] [fB D vb ms bs] (IsSys D (bentP n bs how at_).1 (bentP n bs how at_).2) := by
  refine fn_of [(0, (.int .i64 n)), (1, vb), (2, (.int .i64 how)), (3, (.int .i64 at_))] 52 Tryz.func24 rfl Tryz.ntmps24 (by kernel_rfl) rfl suA fun h0 => ?_
  repeat' (first | refine go ?_ | refine goX ?_ | refine goB ?_ | (refine goG ?_; intro g) | (refine goV ?_; intro v))
  have hk0 := @around_lt at_ (max (bs.length : Int) 1) (by omega)
  first | refine WL.callV (around_c at_ (max (bs.length : Int) 1) h2 (by omega)) ?_ | refine WD.callV (around_c at_ (max (bs.length : Int) 1) h2 (by omega)) ?_
  have hbk : ((bentK bs at_ : Nat) : Int) = around at_ (max (bs.length : Int) 1) := Int.toNat_of_nonneg hk0.1
  unfold bentP
  generalize bentK bs at_ = k at *
  rw [← hbk] at hk0 ⊢
  repeat' (first | refine go ?_ | refine goX ?_ | refine goB ?_ | (refine goG ?_; intro g) | (refine goV ?_; intro v))
  first | refine WL.callV (around_c how 6 h1 (by decide)) ?_ | refine WD.callV (around_c how 6 h1 (by decide)) ?_
  have hq0 := @around_lt how 6 (by decide)
  generalize around how 6 = q at *
  by_cases c0 : q = 0
  · subst c0
    rw [if_pos rfl]
    repeat' (first | refine go ?_ | refine goX ?_ | refine goB ?_ | (refine goG ?_; intro g) | (refine goV ?_; intro v))
    refine WC.freezeB (D := D) (el := 59) v ms bs (by repeat (first | exact Sel.head | apply Sel.tail)) (W.Has.bm (v := vb) hmA) ?_
    exact WC.ret (Fin.p [] [fB D v ms bs] (ResE.t2 rfl rfl rfl) meA (List.nil_sublist _) haA ⟨v, ms, rfl, rfl, rfl⟩)
  rw [if_neg c0]
  by_cases c1 : q = 1
  · subst c1
    rw [if_pos rfl]
    repeat' (first | refine go ?_ | refine goX ?_ | refine goB ?_ | (refine goG ?_; intro g) | (refine goV ?_; intro v))
    refine WC.freezeB (D := D) (el := 59) v ms bs (by repeat (first | exact Sel.head | apply Sel.tail)) (W.Has.bm (v := vb) hmA) ?_
    exact WC.ret (Fin.p [] [fB D v ms bs] (ResE.t2 rfl rfl rfl) meA (List.nil_sublist _) haA ⟨v, ms, rfl, rfl, rfl⟩)
  rw [if_neg c1]
  by_cases c2 : q = 2
  · subst c2
    rw [if_pos rfl]
    repeat' (first | refine go ?_ | refine goX ?_ | refine goB ?_ | (refine goG ?_; intro g) | (refine goV ?_; intro v))
    refine WC.freezeB (D := D) (el := 59) v ms bs (by repeat (first | exact Sel.head | apply Sel.tail)) (W.Has.bm (v := vb) hmA) ?_
    exact WC.ret (Fin.p [] [fB D v ms bs] (ResE.t2 rfl rfl rfl) meA (List.nil_sublist _) haA ⟨v, ms, rfl, rfl, rfl⟩)
  rw [if_neg c2]
  by_cases c3 : q = 3
  · subst c3
    rw [if_pos rfl]
    by_cases hp : 0 < bs.length
    · rw [if_pos hp]
      repeat' (first | refine go ?_ | refine goX ?_ | refine goB ?_ | (refine goG ?_; intro g) | (refine goV ?_; intro v))
      refine WC.freezeB (D := D) (el := 59) v ms (bs.set k { bg bs k with fr := n }) (by repeat (first | exact Sel.head | apply Sel.tail)) (W.Has.mBsetf (W.Has.bm (v := vb) hmA)) ?_
      exact WC.ret (Fin.p [] [fB D v ms (bs.set k { bg bs k with fr := n })] (ResE.t2 rfl rfl rfl) meA (List.nil_sublist _) haA ⟨v, ms, rfl, rfl, rfl⟩)
    · rw [if_neg hp]
      repeat' (first | refine go ?_ | refine goX ?_ | refine goB ?_ | (refine goG ?_; intro g) | (refine goV ?_; intro v))
      refine WC.freezeB (D := D) (el := 59) v ms bs (by repeat (first | exact Sel.head | apply Sel.tail)) (W.Has.bm (v := vb) hmA) ?_
      exact WC.ret (Fin.p [] [fB D v ms bs] (ResE.t2 rfl rfl rfl) meA (List.nil_sublist _) haA ⟨v, ms, rfl, rfl, rfl⟩)
  rw [if_neg c3]
  by_cases c4 : q = 4
  · subst c4
    rw [if_pos rfl]
    by_cases hp : 0 < bs.length
    · rw [if_pos hp]
      repeat' (first | refine go ?_ | refine goX ?_ | refine goB ?_ | (refine goG ?_; intro g) | (refine goV ?_; intro v))
      refine WC.freezeB (D := D) (el := 59) v ms (bs.set k { bg bs k with to := -1 }) (by repeat (first | exact Sel.head | apply Sel.tail)) (W.Has.mBsett (W.Has.bm (v := vb) hmA)) ?_
      exact WC.ret (Fin.p [] [fB D v ms (bs.set k { bg bs k with to := -1 })] (ResE.t2 rfl rfl rfl) meA (List.nil_sublist _) haA ⟨v, ms, rfl, rfl, rfl⟩)
    · rw [if_neg hp]
      repeat' (first | refine go ?_ | refine goX ?_ | refine goB ?_ | (refine goG ?_; intro g) | (refine goV ?_; intro v))
      refine WC.freezeB (D := D) (el := 59) v ms bs (by repeat (first | exact Sel.head | apply Sel.tail)) (W.Has.bm (v := vb) hmA) ?_
      exact WC.ret (Fin.p [] [fB D v ms bs] (ResE.t2 rfl rfl rfl) meA (List.nil_sublist _) haA ⟨v, ms, rfl, rfl, rfl⟩)
  rw [if_neg c4]
  repeat' (first | refine go ?_ | refine goX ?_ | refine goB ?_ | (refine goG ?_; intro g) | (refine goV ?_; intro v))
  refine WC.freezeB (D := D) (el := 59) v ms bs (by repeat (first | exact Sel.head | apply Sel.tail)) (W.Has.bm (v := vb) hmA) ?_
  exact WC.ret (Fin.p [] [fB D v ms bs] (ResE.t2 rfl rfl rfl) meA (List.nil_sublist _) haA ⟨v, ms, rfl, rfl, rfl⟩)
end J
end Go.Proofs.YthggloiigkbfeaaGreat
namespace Go.Proofs.YthggloiigkbfeaaGreat
open W Go.RowKit
/-- small systems -/
def Sml (bs : List Bd) : Prop := absS bs ≤ 12000 ∧ bs.length ≤ 15
theorem Sml.fit {bs : List Bd} (h : Sml bs) : Fit bs := by unfold Fit; have := h.1; omega
theorem sysN_le (l : List Int) {most : Int} (hm : 0 < most) : 0 < sysN l most ∧ sysN l most ≤ most := by
  have := @atP_lt l 0 most hm
  unfold sysN; omega
theorem sysL_len (l : List Int) (most : Int) : (sysL l most).length ≤ 14 := by
  unfold sysL; rw [sysT_len]; unfold sysC; omega
theorem sysL_abs (l : List Int) {most : Int} (hm : 0 < most) (hm2 : most ≤ 8) : absS (sysL l most) ≤ 5040 := by
  have h := sysN_le l hm
  have := @sysT_abs l (sysN l most) h.1 (by omega) (sysC l)
  have h3 : sysC l ≤ 14 := by unfold sysC; omega
  unfold sysL; omega
theorem sysL_sml (l : List Int) {most : Int} (hm : 0 < most) (hm2 : most ≤ 8) : Sml (sysL l most) := ⟨Nat.le_trans (sysL_abs l hm hm2) (by decide), Nat.le_trans (sysL_len l most) (by decide)⟩
theorem absS_set {bs : List Bd} {k : Nat} (b : Bd) (hb : b.w = (bg bs k).w) : absS (bs.set k b) = absS bs := by
  unfold absS
  rw [List.map_set]
  congr 1
  by_cases hk : k < bs.length
  · have : b.w.natAbs = (bs.map fun b => b.w.natAbs)[k]'(by simpa using hk) := by
      rw [List.getElem_map, hb]; simp [bg, List.getD_eq_getElem?_getD, hk]
    rw [this, List.set_getElem_self]
  · rw [List.set_eq_of_length_le (by simp; omega)]
theorem bent_abs (n : Int) (bs : List Bd) (how at_ : Int) : absS (bentP n bs how at_).2 = absS bs ∧ (bentP n bs how at_).2.length = bs.length := by
  unfold bentP
  repeat' split
  all_goals first | exact ⟨rfl, rfl⟩ | exact ⟨absS_set _ rfl, by simp⟩
theorem bent_sml {n : Int} {bs : List Bd} {how at_ : Int} (h : Sml bs) : Sml (bentP n bs how at_).2 := by
  have := bent_abs n bs how at_
  unfold Sml at *; omega
theorem Sml.mul {bs : List Bd} (h : Sml bs) {k : Nat} (hk : k ≤ 33) : k * absS bs ≤ 400000000 := by
  have := Nat.mul_le_mul hk h.1
  omega
/-- the numbers that the law BoundsSolves makes -/
def anyP (xs : List Int) (k : Nat) : List Int := (List.range k).map fun j => (around (xs.getD j 0) 20 - 15) * 6
theorem anyP_len (xs : List Int) (k : Nat) : (anyP xs k).length = k := by simp [anyP]
theorem anyP_succ (xs : List Int) (k : Nat) : anyP xs (k + 1) = anyP xs k ++ [(around (xs.getD k 0) 20 - 15) * 6] := by simp [anyP, List.range_succ]
theorem anyP_has {D : Nat} {F : List Fct} {xs : List Int} {j : Nat} {mu : Nat → QM} {m : QM} (h : Has F (mQ D mu (anyP xs j))) (h2 : Has F (isQ (qv m) (wq D ((around (xs.getD j 0) 20 - 15) * 6)))) : Has F (mQ D (upd mu j m) (anyP xs (j + 1))) := by
  rw [anyP_succ]
  have := W.Has.mQapp h h2
  rwa [anyP_len] at this
theorem anyP_wth (xs : List Int) (k : Nat) : Wth 100 (anyP xs k) := fun i => by
  unfold anyP
  by_cases h : i < k
  · have := @around_lt (xs.getD i 0) 20 (by decide)
    simp only [List.getD_eq_getElem?_getD, List.getElem?_map, List.getElem?_range h, Option.map_some, Option.getD_some] at this ⊢
    omega
  · simp [List.getD_eq_getElem?_getD, h]
theorem Wth.nil {B : Nat} : Wth B [] := fun i => by simp
theorem slv_sml {bs : List Bd} (h : Sml bs) (n : Int) : Wth 400000 (slv n bs).1 ∧ (slv n bs).2.1.length ≤ 32 := by
  rw [slv_same]
  unfold rslv
  by_cases hvb : validB n bs = true
  · rw [if_pos hvb]
    obtain ⟨m, rfl, hv⟩ := Vld.of hvb
    rw [Int.toNat_natCast]
    have hn := hv.n2
    by_cases hs : HasSol bs
    · rw [if_pos ((sol_iff_has hv).2 hs)]
      refine ⟨(jacs_wth hv m).mono ?_, Nat.zero_le _⟩
      have := Nat.mul_le_mul hn h.1
      omega
    · rw [if_neg (fun c => hs ((sol_iff_has hv).1 c)), ← cyc_same hv hs]
      obtain ⟨k, _, h2, h3⟩ := cyc_neg hv hs
      exact ⟨Wth.nil, by have := h3.1; show (cycP m bs).length ≤ 32; omega⟩
  · rw [if_neg hvb]
    exact ⟨Wth.nil, Nat.zero_le _⟩
end Go.Proofs.YthggloiigkbfeaaGreat
namespace Go.Proofs.YthggloiigkbfeaaGreat
open Go.ChangeShapes Go.WideShapes Go.ChangeAt Go.RowKit
open W
/-- what stood in V1 stands in V2 -/
def Ext (V1 V2 : World) : Prop := ∀ (k : Nat) (o : Obj), V1.heap[k]? = some o → V2.heap[k]? = some o
def Again {H : Type} (enc : TypeId × Value → H) (P : Program) (V1 : World) (t : TypeId) (v : Value) (d : DataW H) (p : List MemPlace) : Prop :=
  ∀ (V2 : World) (sp : Nat → Bool), Ext V1 V2 → (∀ q ∈ p, sp q.block = true) → DataW.Trod enc P V2 0 sp true t v d p
def AgainAll {H : Type} (enc : TypeId × Value → H) (P : Program) (V1 : World) (ts : List TypeId) (vs : List Value) (ds : List (DataW H)) (p : List MemPlace) : Prop :=
  ∀ (V2 : World) (sp : Nat → Bool), Ext V1 V2 → (∀ q ∈ p, sp q.block = true) → DataW.TrodAll enc P V2 0 sp true ts vs ds p
section
variable {H : Type} {enc : TypeId × Value → H} {P : Program} {V1 : World}
theorem AgainAll.nil : AgainAll enc P V1 [] [] [] [] := fun _ _ _ _ => rfl
theorem AgainAll.cons {t : TypeId} {ts : List TypeId} {v : Value} {vs : List Value} {d : DataW H} {ds : List (DataW H)} {p q : List MemPlace} (h : Again enc P V1 t v d p) (h2 : AgainAll enc P V1 ts vs ds q) : AgainAll enc P V1 (t :: ts) (v :: vs) (d :: ds) (p ++ q) := fun V2 sp he hs =>
  ⟨p, q, h V2 sp he fun x hx => hs x (List.mem_append_left _ hx), h2 V2 sp he fun x hx => hs x (List.mem_append_right _ hx), rfl⟩
theorem Ext.cell {V2 : World} (h : Ext V1 V2) {a : Addr} {v : Value} (hc : V1.cell? a = some v) : V2.cell? a = some v := by
  unfold World.cell? at hc ⊢
  cases ho : V1.heap[a.block]? with
  | none => rw [ho] at hc; cases hc
  | some o => rw [h _ _ ho]; rw [ho] at hc; exact hc
theorem arg_int {t : TypeId} {b0 : Nat} {v : Value} {d : DataW H} {p : List MemPlace} (ht : P.underlying t = some (.int .i64)) (hv : Value.okWide P V1 .any b0 t v) (h : DataW.Trod enc P V1 0 (fun _ => true) true t v d p) : ∃ n, v = .int .i64 n ∧ I64 n ∧ Again enc P V1 t v d p := by
  obtain ⟨n, rfl, rfl, rfl, wa⟩ := open_int ht hv h
  refine ⟨n, rfl, ?_, fun V2 sp _ _ => shut_int ht wa⟩
  simp [Lit.wf, IntKind.min, IntKind.max, IntKind.signed, IntKind.bits] at wa
  unfold I64; omega
theorem arg_ints {t e : TypeId} {b0 : Nat} {v : Value} {d : DataW H} {p : List MemPlace} (ht : P.underlying t = some (.slice e)) (he : P.underlying e = some (.int .i64)) (hc : P.cellsOf e = 1) (hv : Value.okWide P V1 .any b0 t v) (h : DataW.Trod enc P V1 0 (fun _ => true) true t v d p) :
    ∃ l : List Int, (∀ x ∈ l, I64 x) ∧ (sI v l).p (fun k => V1.heap[k]?) ∧ Again enc P V1 t v d p := by
  obtain ⟨fuel, hf⟩ := h
  have hval := hv
  obtain ⟨a0, len, cap, rfl⟩ := okWide_slice ht hv
  rcases open_ints ht he hc hf with ⟨hcs, hx⟩ | ⟨a, len', cap', zs, hcs, _, hl, hm, hz, hx, hcell, hwz⟩
  · simp [Value.cells] at hcs
    obtain ⟨rfl, rfl, rfl⟩ := hcs
    simp only [Prod.mk.injEq] at hx
    obtain ⟨rfl, rfl⟩ := hx
    exact ⟨[], by simp, ⟨none, 0, rfl, Nat.le_refl _, by simp [maxLen], .inl ⟨rfl, rfl, rfl⟩⟩, fun V2 sp _ _ => shut_slice_nil ht⟩
  · simp [Value.cells] at hcs
    obtain ⟨rfl, rfl, rfl⟩ := hcs
    simp only [Prod.mk.injEq] at hx
    obtain ⟨rfl, rfl⟩ := hx
    simp only [if_true] at hz
    simp only [Value.okWide, ht, Cell.okWide, Cell.ok] at hval
    obtain ⟨_, _, _, hsp, row, cells, hsh, _⟩ := hval
    obtain ⟨b, off, spot⟩ := a
    simp only at hsp; subst hsp
    have hblk : ∃ c el fz, V1.heap[b]? = some (.cells c el fz) := by
      unfold World.shape? at hsh
      simp only at hsh
      split at hsh
      · rename_i c el fz hh; exact ⟨c, el, fz, hh⟩
      · cases hsh
    obtain ⟨c, el, fz, hh⟩ := hblk
    have hlz : (zs.take len).length = len := by simp; omega
    refine ⟨zs.take len, fun x hx => ?_, ?_, fun V2 sp hE hs => ?_⟩
    · have wa := hwz x (List.mem_of_mem_take hx)
      simp [Lit.wf, IntKind.min, IntKind.max, IntKind.signed, IntKind.bits] at wa
      unfold I64; omega
    · show (slC _ (zs.take len).length 1 _).p _
      rw [hlz]
      refine ⟨_, cap, rfl, hl, hm, .inr ⟨b, off, rfl, c, el, fz, hh, fun j hj => ?_⟩⟩
      have hcj := hcell j (by omega)
      simp only [World.cell?, Addr.add_lit, hh] at hcj
      simp only [Option.isSome_none, Bool.false_eq_true, if_false] at hcj
      rw [hcj]
      simp only [List.getD_eq_getElem?_getD, List.getElem?_take]
      rw [if_pos (by omega)]
    · by_cases hz0 : zs.length = 0
      · have hc0 : cap = 0 := by omega
        have hl0 : len = 0 := by omega
        subst hc0; subst hl0
        have t0 := shut_ints (enc := enc) (w := V2) (base := 0) (spare := sp) (held := true) (a := ⟨b, off, none⟩) (len := 0) (cap := 0) (zs := zs) 0 ht he hc (Nat.zero_le _) (Nat.le_refl _) hm (by simp [hz0]) (fun i hi => by omega) hwz
        exact ⟨2, by simpa [Value.cells] using t0⟩
      · have hspb : sp b = true := hs (.cell b off) (MemPlace.mem_row.2 ⟨0, by omega, by simp⟩)
        have t0 := shut_ints (enc := enc) (w := V2) (base := 0) (spare := sp) (held := true) (a := ⟨b, off, none⟩) (len := len) (cap := cap) (zs := zs) 0 ht he hc (Nat.zero_le _) hl hm (by simp [hspb, hz]) (fun i hi => hE.cell (hcell i hi)) hwz
        exact ⟨2, by simpa [Value.cells] using t0⟩
theorem law_calls {f : FuncId} {args : List Value} {F : List Fct} (hf : FnB P f args [] F (IsV (.bool true))) (hF : ∀ g ∈ F, g.p (fun k => V1.heap[k]?)) : Calls P f args.toArray V1 fun e V2 => e = .returned (.bool true) ∧ W.Rest V1 V2 ∧ Ext V1 V2 := by
  have him : ∀ H : Array Obj, imm (fun _ => none) [] H = fun k => H[k]? := fun H => by funext k; simp [imm, ids]
  have ho : OK (fun _ => none) [] F V1 := ⟨fun _ _ h => (by cases h), fun _ _ => rfl, by simp [ids], by simp, fun g hg => by rw [him]; exact hF g hg⟩
  refine (hf.2 _ _ ho).mono fun e V2 hh => ?_
  obtain ⟨v, b, G, h1, h2, h3, h4, h5⟩ := hh
  obtain ⟨h6, h7, h8⟩ := h2
  subst h6 h7
  refine ⟨h1, h3, fun k o hk => ?_⟩
  rw [him, him] at h4
  exact h4 k o hk
theorem post_law {f : Func} {s : ChangeSpec} {V2 : World} {args : Array Value} {ds gs : List (DataW H)} {before : List MemPlace} {v : Value}
    (hW : DataW.Whole enc P f.params.toList s.vars false V1 args.toList ds gs before)
    (hres : ∀ (b : Nat) (sp : Nat → Bool) (hd : Bool), DataW.TrodAll enc P V2 b sp hd f.resultTypes.toList (v.resultList f.resultTypes.size) (s.fn H (ds ++ gs)).results [])
    (hargs : ∀ sp : Nat → Bool, (∀ p ∈ before, sp p.block = true) → DataW.TrodAll enc P V2 0 sp true f.params.toList args.toList (s.fn H (ds ++ gs)).args before)
    (hvars : ∀ sp : Nat → Bool, DataW.TrodVars enc P V2 sp s.vars (s.fn H (ds ++ gs)).vars [])
    (hr : W.Rest V1 V2) (hE : Ext V1 V2)
    (hok : ∀ (j : Nat) (t : TypeId) (r : Value), f.resultTypes[j]? = some t → (v.resultList f.resultTypes.size)[j]? = some r → Value.okWide P V2 .any 0 t r) :
    s.post enc P f false true false false V1 args v V2 := by
  have hold : ∀ p ∈ before, (fun b => decide (b < V1.heap.size)) p.block = true := fun p hp => by simpa using hW.lt p hp
  refine ⟨ds, gs, before, [], before, [], hW, hres _ _ _, hargs _ hold, hvars _, ⟨hr.os, hr.output, fun i hi => ?_⟩, fun h => by cases h⟩
  have hk := hE i V1.heap[i] (Array.getElem?_eq_getElem hi)
  rw [hk, Array.getElem?_eq_getElem hi]
  cases V1.heap[i] <;> simp
end
theorem Tryz.own : ownKnob Tryz.prog.godebug = none := by kernel_rfl
end Go.Proofs.YthggloiigkbfeaaGreat
