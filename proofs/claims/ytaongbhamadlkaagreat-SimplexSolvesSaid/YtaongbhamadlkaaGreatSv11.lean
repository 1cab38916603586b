/- Lemmas for the proof of a law: The run of the executor, over lists of lines too. Conditions: none. -/
import Derived.Test.YtaongbhamadlkaaGreatSv10
set_option linter.unusedVariables false
set_option linter.unusedSimpArgs false
set_option linter.unusedSectionVars false
namespace Go.Proofs.YtaongbhamadlkaaGreat
open W Go.RowKit
attribute [local irreducible] WC WL WD YO LO LoopEnd W.Fin Scalar SliceT FieldAt Row ArrT AllocT KnS Has W.One SrcE IntT
namespace U
set_option maxRecDepth 60000
theorem t0A {G : Prop} (h : G := by first | (((first | exact T.f26_0 | exact T.f26_1 | exact T.f26_2 | exact T.f29_0 | exact T.f29_1 | exact T.f31_0 | exact T.f31_1 | exact T.f33_0 | exact T.f33_1 | exact T.f33_2 | exact T.f33_3 | exact T.f60_0 | exact T.f60_1 | exact T.f77_0 | exact T.f77_1 | exact T.f77_2 | exact T.f88_0 | exact T.f88_1 | exact T.f88_2 | exact T.f88_3 | exact T.f88_4 | exact T.f88_5 | exact T.f107_0 | exact T.f107_1 | exact T.f107_2 | exact T.f123_0 | exact T.f123_1 | exact T.f134_0 | exact T.f134_1)); done) | fail) : G := h
theorem t1A {G : Prop} (h : G := by first | (((first | exact T.al3 | exact T.al4 | exact T.al22 | exact T.al23 | exact T.al24 | exact T.al26 | exact T.al29 | exact T.al31 | exact T.al33 | exact T.al34 | exact T.al48 | exact T.al60 | exact T.al72 | exact T.al77 | exact T.al84 | exact T.al86 | exact T.al88 | exact T.al103 | exact T.al107 | exact T.al123 | exact T.al129 | exact T.al131 | exact T.al134 | exact T.al162)); done) | fail) : G := h
theorem t2A {G : Prop} (h : G := by first | (((first | exact T.sc3 | exact T.sc4 | exact T.sc22 | exact T.sc23 | exact T.sc24 | exact T.sc34 | exact T.sc48 | exact T.sc72 | exact T.sc84 | exact T.sc86 | exact T.sc103 | exact T.sc129 | exact T.sc131 | exact T.sc162)); done) | fail) : G := h
theorem t3A {G : Prop} (h : G := by first | (((first | exact T.z3 | exact T.z4 | exact T.z22 | exact T.z23 | exact T.z24 | exact T.z34 | exact T.z48 | exact T.z72 | exact T.z84 | exact T.z86 | exact T.z103 | exact T.z129 | exact T.z131 | exact T.z162)); done) | fail) : G := h
theorem t4A {G : Prop} (h : G := by first | (((first | exact T.r26 | exact T.r29 | exact T.r31 | exact T.r33 | exact T.r60 | exact T.r77 | exact T.r88 | exact T.r107 | exact T.r123 | exact T.r134)); done) | fail) : G := h
theorem t5A {G : Prop} (h : G := by first | (((first | exact T.e22 | exact T.e23 | exact T.e24 | exact T.e48 | exact T.e72 | exact T.e86 | exact T.e129 | exact T.e131)); done) | fail) : G := h
theorem t6A {G : Prop} (h : G := by first | (((first | exact T.s22 | exact T.s23 | exact T.s24 | exact T.s48 | exact T.s72 | exact T.s86 | exact T.s129 | exact T.s131)); done) | fail) : G := h
theorem t7A {G : Prop} (h : G := by first | (((first | exact T.u3 | exact T.u34 | exact T.u162)); done) | fail) : G := h
theorem knA {G : Prop} (h : G := by first | (((first | (focus (apply KnS.ln; exact hmA; done)) | (focus (apply KnS.oN; exact meA; done)) | (focus (apply KnS.oV; exact meA; done)) | (focus (apply KnS.f; exact hmA; done)) | (focus (apply KnS.oI; exact meA; done)) | (focus (apply KnS.o1; exact meA; done)) | (focus (apply KnS.zd; exact hmA; done)) | (focus (apply KnS.q1; exact hmA; done)) | (focus (apply KnS.q2; exact hmA; done)) | (focus (apply KnS.ff; exact hmA; done)) | (focus (apply KnS.oR; exact meA; done)) | (focus (apply KnS.rf; exact hmA; omega; done)) | (focus (apply KnS.pl; exact hmA; done)) | (focus (apply KnS.oLn; exact meA; done)) | (focus (apply KnS.oL1; exact meA; done)))); done) | fail) : G := h
theorem hsA {G : Prop} (h : G := by first | (((first | exact hmA | (focus (apply hasQ_P; exact hmA; done)) | (focus (apply hasQ_Q; exact hmA; done)) | exact hasZ_0 | exact hasQ_0 | (focus (apply hasZ_d; exact hmA; done)) | (focus (apply hasQ_d1; exact hmA; done)) | (focus (apply hasQ_d2; exact hmA; done)) | (focus (apply W.Has.q; exact hmA; omega; done)) | (focus (apply W.Has.qt; exact hmA; omega; omega; done)) | (focus (apply W.Has.pbq; exact hmA; omega; done)) | (focus (apply W.Has.lnb; exact hmA; omega; done)) | (focus (apply W.Has.lna; exact hmA; omega; done)))); done) | fail) : G := h
theorem haA {G : Prop} (h : G := by first | ((repeat (first | exact HasAll.nil | (apply HasAll.cons; exact hsA))); done) | fail) : G := h
theorem ltA {G : Prop} (h : G := by first | (((first | (focus (apply Or.inr; constructor; (repeat (first | exact List.Sublist.refl _ | exact List.nil_sublist _ | apply List.Sublist.cons_cons | apply List.Sublist.cons)); (first | exact fun _ h => h | (intro f hf; (repeat (first | exact hf | apply List.Mem.tail)))); done)) | (apply Or.inl; kernel_rfl))); done) | fail) : G := h
theorem onA {G : Prop} (h : G := by first | (((first | exact ints_one _ | (intro u hu; simp only [List.mem_cons, List.not_mem_nil, or_false] at hu; first | (subst hu; rfl) | (rcases hu with rfl | rfl | rfl <;> rfl)))); done) | fail) : G := h
theorem leA {G : Prop} (h : G := by first | (((simp only [List.length_map, List.length_append, List.length_cons, List.length_nil, List.length_replicate, List.length_take]; omega)); done) | fail) : G := h
theorem y_build {G : Prop} (h : G := by first | (((first | (apply YO.buildZ; exact rfl; exact rfl; exact knA) | exact YO.buildZ0 | exact YO.buildQ0 | (apply YO.buildQ1; exact rfl) | (apply YO.buildQ2; exact rfl; exact rfl) | (apply YO.buildTb; exact rfl; exact rfl; exact rfl) | exact YO.buildA0 | (apply YO.buildA1; exact rfl; exact rfl; exact knA) | (apply YO.buildA2; exact rfl; exact rfl; exact rfl; exact knA; exact knA) | (apply YO.buildA3; exact rfl; exact rfl; exact rfl; exact rfl; exact knA; exact knA) | exact YO.buildLn0 | (apply YO.buildLn1; exact rfl; exact knA) | (apply YO.buildLn2; exact rfl; exact rfl; exact knA) | (apply YO.buildPg0; exact rfl) | (apply YO.buildPg01; exact rfl; exact rfl; exact knA) | (apply YO.buildPg02; exact rfl; exact rfl; exact knA) | (apply YO.buildPg3; exact rfl; exact rfl; exact rfl; exact knA; exact knA) | (apply YO.buildLnB; exact rfl))); done) | fail) : G := h
theorem y_indexAddr {G : Prop} (h : G := by first | (((first | (first | (apply YO.ix1; exact t6A; exact rfl; exact rfl; exact knA; omega) | (apply YO.ix; exact t6A; exact rfl; exact rfl; exact knA; omega) | (apply YO.ix1'; exact t6A; exact rfl; exact rfl; exact knA; omega; omega) | (apply YO.ix'; exact t6A; exact rfl; exact rfl; exact knA; omega; omega)) | (apply YO.ix1; exact t6A; exact rfl; exact rfl; exact knA; (first | omega | (simp only [List.length_set, List.length_replicate]; omega))) | (apply YO.ix; exact t6A; exact rfl; exact rfl; exact knA; (first | omega | (simp only [List.length_set, List.length_replicate]; omega))) | (apply YO.ix1'; exact t6A; exact rfl; exact rfl; exact knA; omega; (first | omega | (simp only [List.length_set, List.length_replicate]; omega))))); done) | fail) : G := h
theorem y_load {G : Prop} (h : G := by first | (((first | (apply YO.ldLns; exact t4A; exact rfl; exact hmA; omega) | (apply YO.ldLnA; exact t2A; exact rfl; exact hmA; omega) | (apply YO.ldLnB; exact t4A; exact rfl; exact hmA; omega) | (apply YO.ldON; exact t2A; exact rfl; exact meA; omega) | (apply YO.ldOV; exact t2A; exact rfl; exact meA; omega) | (apply YO.ldW; exact t4A; exact rfl; exact meA; exact rfl) | (apply YO.ld42; exact t4A; exact rfl; exact meA) | (apply YO.ld40; exact t4A; exact rfl; exact meA) | (apply YO.ld62; exact t4A; exact rfl; exact meA) | (apply YO.ld51; exact t4A; exact rfl; exact meA) | (apply YO.ldFf; exact t4A; exact rfl; exact hmA; omega) | (apply YO.ldOR; exact t4A; exact rfl; exact meA; omega) | (apply YO.ldRf; exact t4A; exact rfl; exact hmA; omega; omega) | (apply YO.ldPl; exact t4A; exact rfl; exact hmA; omega) | (apply YO.ld73; exact t4A; exact rfl; exact meA) | (apply YO.ldWI0; exact t4A; exact rfl; exact meA; (first | omega | (simp only [List.length_set, List.length_replicate]; omega))) | (apply YO.ldWF0; exact t4A; exact rfl; exact hmA; (first | omega | (simp only [List.length_set, List.length_replicate]; omega))) | (apply YO.ldCI; exact t2A; exact rfl; exact meA; (first | omega | (simp only [List.length_set, List.length_replicate]; omega))) | (apply YO.ldFI; exact t2A; exact rfl; exact hmA; (first | omega | (simp only [List.length_set, List.length_replicate]; omega))) | (apply YO.ldF; exact t2A; exact rfl; exact hmA; exact rfl) | (apply YO.ldS; exact t2A; exact rfl; exact hsA; omega) | (apply YO.ldB; exact t2A; exact rfl; exact meA; exact rfl) | (apply YO.ldOI; exact t2A; exact rfl; exact meA; (first | omega | (simp only [List.length_set, List.length_replicate]; omega))))); done) | fail) : G := h
theorem y_eql {G : Prop} (h : G := by first | (((first | (first | (first | (apply YO.eql_t; exact rfl; exact rfl; omega) | (apply YO.eql_f; exact rfl; exact rfl; omega)) | (apply YO.eqNil_t; exact t6A; exact rfl; exact knA; assumption) | (apply YO.eqNil_f; exact t6A; exact rfl; exact knA; assumption)) | (apply YO.beq_t; exact bool_t; exact rfl; exact rfl; (first | rfl | assumption | decide)) | (apply YO.beq_f; exact bool_t; exact rfl; exact rfl; (first | rfl | assumption | decide)) | (apply YO.eqNz_t; exact t6A; exact rfl; exact knA; assumption) | (apply YO.eqNz_f; exact t6A; exact rfl; exact knA; assumption))); done) | fail) : G := h
theorem y_slice {G : Prop} (h : G := by first | (((first | (first | (apply YO.slice; exact t6A; exact rfl; exact knA; exact Or.inl ⟨rfl, rfl⟩; exact Or.inr ⟨_, rfl, rfl⟩; omega; omega) | (apply YO.slice; exact t6A; exact rfl; exact knA; exact Or.inr ⟨_, rfl, rfl⟩; exact Or.inl ⟨rfl, rfl⟩; omega; omega)) | (apply YO.slice3; exact t6A; exact rfl; exact knA; exact rfl; exact rfl; omega; omega) | (apply YO.slice; exact t6A; exact rfl; exact knA; exact Or.inr ⟨_, rfl, rfl⟩; exact Or.inr ⟨_, rfl, rfl⟩; omega; omega))); done) | fail) : G := h
theorem y_len {G : Prop} (h : G := by first | (((apply YO.len; exact t6A; exact rfl; exact knA)); done) | fail) : G := h
theorem y_fieldAddr {G : Prop} (h : G := by first | (((first | (apply YO.fieldE; exact t0A; exact rfl) | (apply YO.fieldN; exact t0A; exact rfl; ((try simp only [Nat.zero_add, Nat.mul_one, Nat.reduceAdd, Nat.reduceMul]); exact rfl)))); done) | fail) : G := h
theorem y_conv {G : Prop} (h : G := by first | (((first | (first | (apply YO.convU; exact t7A; exact t7A; exact rfl; omega; omega) | (apply YO.convI; exact t7A; exact t7A; exact rfl; omega; omega)) | (apply YO.convN; exact t7A; exact t7A; exact rfl; omega; omega))); done) | fail) : G := h
theorem y_neq {G : Prop} (h : G := by first | (((first | (first | (apply YO.neq_t; exact rfl; exact rfl; omega) | (apply YO.neq_f; exact rfl; exact rfl; omega)) | (apply YO.bne_t; exact bool_t; exact rfl; exact rfl; (first | rfl | assumption | decide)) | (apply YO.bne_f; exact bool_t; exact rfl; exact rfl; (first | rfl | assumption | decide)))); done) | fail) : G := h
theorem y_makeFunc {G : Prop} (h : G := by first | (((apply YO.makeFunc; (repeat (first | exact Evs.nil | (apply Evs.cons; exact rfl))); (repeat (first | exact Evs.nil | (apply Evs.cons; exact rfl))))); done) | fail) : G := h
theorem y_quo {G : Prop} (h : G := by first | (((first | (apply YO.quo; exact rfl; exact rfl; omega; omega; omega) | (apply YO.uquo; exact rfl; exact rfl; omega; omega; omega))); done) | fail) : G := h
theorem y_and {G : Prop} (h : G := by first | (((first | (apply YO.and1; exact rfl; exact rfl; omega; omega) | (apply YO.and; exact rfl; exact rfl; omega; omega; omega; omega))); done) | fail) : G := h
theorem y_mul {G : Prop} (h : G := by first | (((first | (apply YO.mul; exact rfl; exact rfl; omega; omega) | (apply YO.umul; exact rfl; exact rfl; omega; omega))); done) | fail) : G := h
theorem y_rem {G : Prop} (h : G := by first | (((first | (apply YO.rem; exact rfl; exact rfl; omega; omega) | (apply YO.urem; exact rfl; exact rfl; omega; omega))); done) | fail) : G := h
theorem y_add {G : Prop} (h : G := by first | (((first | (apply YO.inc; exact rfl; exact rfl; omega) | (apply YO.add; exact rfl; exact rfl; omega; omega))); done) | fail) : G := h
theorem y_lss {G : Prop} (h : G := by first | (((first | (apply YO.lss_t; exact rfl; exact rfl; omega) | (apply YO.lss_f; exact rfl; exact rfl; omega))); done) | fail) : G := h
theorem y_gtr {G : Prop} (h : G := by first | (((first | (apply YO.gtr_t; exact rfl; exact rfl; omega) | (apply YO.gtr_f; exact rfl; exact rfl; omega))); done) | fail) : G := h
theorem y_geq {G : Prop} (h : G := by first | (((first | (apply YO.geq_t; exact rfl; exact rfl; omega) | (apply YO.geq_f; exact rfl; exact rfl; omega))); done) | fail) : G := h
theorem y_leq {G : Prop} (h : G := by first | (((first | (apply YO.leq_t; exact rfl; exact rfl; omega) | (apply YO.leq_f; exact rfl; exact rfl; omega))); done) | fail) : G := h
theorem y_shl {G : Prop} (h : G := by first | (((apply YO.shl'; exact rfl; exact rfl; omega; omega; (first | omega | decide); (first | omega | decide))); done) | fail) : G := h
theorem y_uneg {G : Prop} (h : G := by first | (((first | (apply YO.neg; exact rfl; omega; omega) | (apply YO.uneg; exact rfl; omega; omega))); done) | fail) : G := h
theorem y_pick {G : Prop} (h : G := by first | (((first | (apply YO.pick_t; exact rfl; exact rfl) | (apply YO.pick_f; exact rfl; exact rfl))); done) | fail) : G := h
theorem y_unot {G : Prop} (h : G := by first | (((first | (apply YO.not_t; exact rfl) | (apply YO.not_f; exact rfl))); done) | fail) : G := h
theorem y_or {G : Prop} (h : G := by first | (((apply YO.or; exact rfl; exact rfl; omega; omega; omega; omega)); done) | fail) : G := h
theorem go {G G' : Prop} (h : G') (s : Bx G' → G := by
  intro h
  (first
    | apply WL.nil
    | (apply WL.skg; exact rfl; exact rfl)
    | (apply WL.skg0; exact rfl)
    | (apply WL.k_move; (apply YO.move; exact rfl); exact rfl; exact rfl)
    | (apply WL.k_assign; (apply YO.assign; exact rfl); exact rfl; exact rfl)
    | (apply WL.k_lss; exact y_lss; exact rfl; exact rfl)
    | (apply WL.k_add; exact y_add; exact rfl; exact rfl)
    | (apply WL.k_len; exact y_len; exact rfl; exact rfl)
    | (apply WL.k_indexAddr; exact y_indexAddr; exact rfl; exact rfl)
    | (apply WL.k_load; exact y_load; exact rfl; exact rfl)
    | (apply WL.k_pick; exact y_pick; exact rfl; exact rfl)
    | (apply WL.k_fieldAddr; exact y_fieldAddr; exact rfl; exact rfl)
    | (apply WL.k_eql; exact y_eql; exact rfl; exact rfl)
    | (apply WL.k_neq; exact y_neq; exact rfl; exact rfl)
    | (apply WL.k_nil; (apply YO.nil; exact rfl); exact rfl; exact rfl)
    | (apply WL.k_extract; (apply YO.extract; exact rfl; exact rfl); exact rfl; exact rfl)
    | (apply WL.k_gtr; exact y_gtr; exact rfl; exact rfl)
    | (apply WL.k_geq; exact y_geq; exact rfl; exact rfl)
    | (apply WL.k_leq; exact y_leq; exact rfl; exact rfl)
    | (apply WL.k_sub; (apply YO.sub; exact rfl; exact rfl; omega; omega); exact rfl; exact rfl)
    | (apply WL.k_mul; exact y_mul; exact rfl; exact rfl)
    | (apply WL.k_rem; exact y_rem; exact rfl; exact rfl)
    | (apply WL.k_quo; exact y_quo; exact rfl; exact rfl)
    | (apply WL.k_unot; exact y_unot; exact rfl; exact rfl)
    | (apply WL.k_uneg; exact y_uneg; exact rfl; exact rfl)
    | (apply WL.k_max; (apply YO.max; exact rfl; exact rfl); exact rfl; exact rfl)
    | (apply WL.k_min; (apply YO.min; exact rfl; exact rfl); exact rfl; exact rfl)
    | (apply WL.k_makeFunc; exact y_makeFunc; exact rfl; exact rfl)
    | (apply WL.k_conv; exact y_conv; exact rfl; exact rfl)
    | (apply WL.k_shl; exact y_shl; exact rfl; exact rfl)
    | (apply WL.k_shr; (apply YO.shr'; exact rfl; exact rfl; omega; omega); exact rfl; exact rfl)
    | (apply WL.k_and; exact y_and; exact rfl; exact rfl)
    | (apply WL.k_or; exact y_or; exact rfl; exact rfl)
    | (apply WL.k_andNot; (apply YO.anot; exact rfl; exact rfl); exact rfl; exact rfl)
    | (apply WL.k_slice; exact y_slice; exact rfl; exact rfl)
    | (apply WL.k_build; exact y_build; exact rfl; exact rfl)
    | apply WC.seq
    | apply WC.region
    | apply WC.block
    | (apply WC.cond_t; exact rfl)
    | (apply WC.cond_f; exact rfl)
    | apply WC.exit
    | apply WC.skip
    | apply WC.label
    | (apply WL.kl_store; rotate_left; exact rfl; (first | (apply LO.storeOI; exact rfl; exact rfl; exact t3A; exact seA; (first | omega | (simp only [List.length_set]; omega))) | (apply LO.storeQ; exact rfl; exact rfl; exact t4A; exact hmA; exact seA; omega) | (apply LO.storeI; exact rfl; exact rfl; exact t3A; exact seA; (first | omega | (simp only [List.length_set, List.length_replicate]; omega))) | (apply LO.storeWI; exact rfl; exact rfl; exact seA; exact t4A; (first | omega | (simp only [List.length_set, List.length_replicate]; omega)); (first | (simp only [List.length_map, List.length_set, List.length_replicate, ints]; omega) | rfl)) | (apply LO.store1; exact rfl; exact rfl; exact t3A; (first | exact One.lit rfl rfl | (apply One.sl; exact knA)); exact seA; (first | (simp only [List.length_cons, List.length_nil]; omega) | (simp; omega)); (first | (simp only [List.set_cons_succ, List.set_cons_zero]; exact rfl) | exact rfl)) | (apply LO.storeO1; exact rfl; exact rfl; exact t3A; (first | exact One.lit rfl rfl | (apply One.sl; exact knA)); exact seA; (first | (simp only [List.length_cons, List.length_nil]; omega) | (simp; omega)); (first | (simp only [List.set_cons_succ, List.set_cons_zero]; exact rfl) | exact rfl)) | (apply LO.storeL; exact rfl; exact rfl; exact seA; exact t4A; exact rfl; exact rfl; (repeat (first | exact OneL.nil | (apply OneL.cons; (first | exact One.lit rfl rfl | (apply One.sl; exact knA)))))))))
  repeat (first
    | apply WL.nil
    | (apply WL.skg; exact rfl; exact rfl)
    | (apply WL.skg0; exact rfl)
    | (apply WL.k_move; (apply YO.move; exact rfl); exact rfl; exact rfl)
    | (apply WL.k_assign; (apply YO.assign; exact rfl); exact rfl; exact rfl)
    | (apply WL.k_lss; exact y_lss; exact rfl; exact rfl)
    | (apply WL.k_add; exact y_add; exact rfl; exact rfl)
    | (apply WL.k_len; exact y_len; exact rfl; exact rfl)
    | (apply WL.k_indexAddr; exact y_indexAddr; exact rfl; exact rfl)
    | (apply WL.k_load; exact y_load; exact rfl; exact rfl)
    | (apply WL.k_pick; exact y_pick; exact rfl; exact rfl)
    | (apply WL.k_fieldAddr; exact y_fieldAddr; exact rfl; exact rfl)
    | (apply WL.k_eql; exact y_eql; exact rfl; exact rfl)
    | (apply WL.k_neq; exact y_neq; exact rfl; exact rfl)
    | (apply WL.k_nil; (apply YO.nil; exact rfl); exact rfl; exact rfl)
    | (apply WL.k_extract; (apply YO.extract; exact rfl; exact rfl); exact rfl; exact rfl)
    | (apply WL.k_gtr; exact y_gtr; exact rfl; exact rfl)
    | (apply WL.k_geq; exact y_geq; exact rfl; exact rfl)
    | (apply WL.k_leq; exact y_leq; exact rfl; exact rfl)
    | (apply WL.k_sub; (apply YO.sub; exact rfl; exact rfl; omega; omega); exact rfl; exact rfl)
    | (apply WL.k_mul; exact y_mul; exact rfl; exact rfl)
    | (apply WL.k_rem; exact y_rem; exact rfl; exact rfl)
    | (apply WL.k_quo; exact y_quo; exact rfl; exact rfl)
    | (apply WL.k_unot; exact y_unot; exact rfl; exact rfl)
    | (apply WL.k_uneg; exact y_uneg; exact rfl; exact rfl)
    | (apply WL.k_max; (apply YO.max; exact rfl; exact rfl); exact rfl; exact rfl)
    | (apply WL.k_min; (apply YO.min; exact rfl; exact rfl); exact rfl; exact rfl)
    | (apply WL.k_makeFunc; exact y_makeFunc; exact rfl; exact rfl)
    | (apply WL.k_conv; exact y_conv; exact rfl; exact rfl)
    | (apply WL.k_shl; exact y_shl; exact rfl; exact rfl)
    | (apply WL.k_shr; (apply YO.shr'; exact rfl; exact rfl; omega; omega); exact rfl; exact rfl)
    | (apply WL.k_and; exact y_and; exact rfl; exact rfl)
    | (apply WL.k_or; exact y_or; exact rfl; exact rfl)
    | (apply WL.k_andNot; (apply YO.anot; exact rfl; exact rfl); exact rfl; exact rfl)
    | (apply WL.k_slice; exact y_slice; exact rfl; exact rfl)
    | (apply WL.k_build; exact y_build; exact rfl; exact rfl)
    | apply WC.seq
    | apply WC.region
    | apply WC.block
    | (apply WC.cond_t; exact rfl)
    | (apply WC.cond_f; exact rfl)
    | apply WC.exit
    | apply WC.skip
    | apply WC.label
    | (apply WL.kl_store; rotate_left; exact rfl; (first | (apply LO.storeOI; exact rfl; exact rfl; exact t3A; exact seA; (first | omega | (simp only [List.length_set]; omega))) | (apply LO.storeQ; exact rfl; exact rfl; exact t4A; exact hmA; exact seA; omega) | (apply LO.storeI; exact rfl; exact rfl; exact t3A; exact seA; (first | omega | (simp only [List.length_set, List.length_replicate]; omega))) | (apply LO.storeWI; exact rfl; exact rfl; exact seA; exact t4A; (first | omega | (simp only [List.length_set, List.length_replicate]; omega)); (first | (simp only [List.length_map, List.length_set, List.length_replicate, ints]; omega) | rfl)) | (apply LO.store1; exact rfl; exact rfl; exact t3A; (first | exact One.lit rfl rfl | (apply One.sl; exact knA)); exact seA; (first | (simp only [List.length_cons, List.length_nil]; omega) | (simp; omega)); (first | (simp only [List.set_cons_succ, List.set_cons_zero]; exact rfl) | exact rfl)) | (apply LO.storeO1; exact rfl; exact rfl; exact t3A; (first | exact One.lit rfl rfl | (apply One.sl; exact knA)); exact seA; (first | (simp only [List.length_cons, List.length_nil]; omega) | (simp; omega)); (first | (simp only [List.set_cons_succ, List.set_cons_zero]; exact rfl) | exact rfl)) | (apply LO.storeL; exact rfl; exact rfl; exact seA; exact t4A; exact rfl; exact rfl; (repeat (first | exact OneL.nil | (apply OneL.cons; (first | exact One.lit rfl rfl | (apply One.sl; exact knA)))))))))
  exact Bx.h h) : G := s ⟨h⟩
theorem goD {G G' : Prop} (h : G') (s : Bx G' → G := by
  intro h
  (first
    | apply WD.nil
    | (apply WD.skg; exact rfl; exact rfl; exact rfl)
    | (apply WD.skgl; exact rfl; exact rfl; exact rfl)
    | (apply WD.skgl0; exact rfl; exact rfl)
    | (apply WD.k_move; exact rfl; (apply YO.move; exact rfl); exact rfl; exact rfl)
    | (apply WD.k_assign; exact rfl; (apply YO.assign; exact rfl); exact rfl; exact rfl)
    | (apply WD.k_lss; exact rfl; exact y_lss; exact rfl; exact rfl)
    | (apply WD.k_add; exact rfl; exact y_add; exact rfl; exact rfl)
    | (apply WD.k_len; exact rfl; exact y_len; exact rfl; exact rfl)
    | (apply WD.k_indexAddr; exact rfl; exact y_indexAddr; exact rfl; exact rfl)
    | (apply WD.k_load; exact rfl; exact y_load; exact rfl; exact rfl)
    | (apply WD.k_pick; exact rfl; exact y_pick; exact rfl; exact rfl)
    | (apply WD.k_fieldAddr; exact rfl; exact y_fieldAddr; exact rfl; exact rfl)
    | (apply WD.k_eql; exact rfl; exact y_eql; exact rfl; exact rfl)
    | (apply WD.k_neq; exact rfl; exact y_neq; exact rfl; exact rfl)
    | (apply WD.k_nil; exact rfl; (apply YO.nil; exact rfl); exact rfl; exact rfl)
    | (apply WD.k_extract; exact rfl; (apply YO.extract; exact rfl; exact rfl); exact rfl; exact rfl)
    | (apply WD.k_gtr; exact rfl; exact y_gtr; exact rfl; exact rfl)
    | (apply WD.k_geq; exact rfl; exact y_geq; exact rfl; exact rfl)
    | (apply WD.k_leq; exact rfl; exact y_leq; exact rfl; exact rfl)
    | (apply WD.k_sub; exact rfl; (apply YO.sub; exact rfl; exact rfl; omega; omega); exact rfl; exact rfl)
    | (apply WD.k_mul; exact rfl; exact y_mul; exact rfl; exact rfl)
    | (apply WD.k_rem; exact rfl; exact y_rem; exact rfl; exact rfl)
    | (apply WD.k_quo; exact rfl; exact y_quo; exact rfl; exact rfl)
    | (apply WD.k_unot; exact rfl; exact y_unot; exact rfl; exact rfl)
    | (apply WD.k_uneg; exact rfl; exact y_uneg; exact rfl; exact rfl)
    | (apply WD.k_max; exact rfl; (apply YO.max; exact rfl; exact rfl); exact rfl; exact rfl)
    | (apply WD.k_min; exact rfl; (apply YO.min; exact rfl; exact rfl); exact rfl; exact rfl)
    | (apply WD.k_makeFunc; exact rfl; exact y_makeFunc; exact rfl; exact rfl)
    | (apply WD.k_conv; exact rfl; exact y_conv; exact rfl; exact rfl)
    | (apply WD.k_shl; exact rfl; exact y_shl; exact rfl; exact rfl)
    | (apply WD.k_shr; exact rfl; (apply YO.shr'; exact rfl; exact rfl; omega; omega); exact rfl; exact rfl)
    | (apply WD.k_and; exact rfl; exact y_and; exact rfl; exact rfl)
    | (apply WD.k_or; exact rfl; exact y_or; exact rfl; exact rfl)
    | (apply WD.k_andNot; exact rfl; (apply YO.anot; exact rfl; exact rfl); exact rfl; exact rfl)
    | (apply WD.k_slice; exact rfl; exact y_slice; exact rfl; exact rfl)
    | (apply WD.k_build; exact rfl; exact y_build; exact rfl; exact rfl)
    | (apply WD.kl_store; exact rfl; rotate_left; exact rfl; (first | (apply LO.storeOI; exact rfl; exact rfl; exact t3A; exact seA; (first | omega | (simp only [List.length_set]; omega))) | (apply LO.storeQ; exact rfl; exact rfl; exact t4A; exact hmA; exact seA; omega) | (apply LO.storeI; exact rfl; exact rfl; exact t3A; exact seA; (first | omega | (simp only [List.length_set, List.length_replicate]; omega))) | (apply LO.storeWI; exact rfl; exact rfl; exact seA; exact t4A; (first | omega | (simp only [List.length_set, List.length_replicate]; omega)); (first | (simp only [List.length_map, List.length_set, List.length_replicate, ints]; omega) | rfl)) | (apply LO.store1; exact rfl; exact rfl; exact t3A; (first | exact One.lit rfl rfl | (apply One.sl; exact knA)); exact seA; (first | (simp only [List.length_cons, List.length_nil]; omega) | (simp; omega)); (first | (simp only [List.set_cons_succ, List.set_cons_zero]; exact rfl) | exact rfl)) | (apply LO.storeO1; exact rfl; exact rfl; exact t3A; (first | exact One.lit rfl rfl | (apply One.sl; exact knA)); exact seA; (first | (simp only [List.length_cons, List.length_nil]; omega) | (simp; omega)); (first | (simp only [List.set_cons_succ, List.set_cons_zero]; exact rfl) | exact rfl)) | (apply LO.storeL; exact rfl; exact rfl; exact seA; exact t4A; exact rfl; exact rfl; (repeat (first | exact OneL.nil | (apply OneL.cons; (first | exact One.lit rfl rfl | (apply One.sl; exact knA))))))); constructor; exact ltA))
  repeat (first
    | apply WD.nil
    | (apply WD.skg; exact rfl; exact rfl; exact rfl)
    | (apply WD.skgl; exact rfl; exact rfl; exact rfl)
    | (apply WD.skgl0; exact rfl; exact rfl)
    | (apply WD.k_move; exact rfl; (apply YO.move; exact rfl); exact rfl; exact rfl)
    | (apply WD.k_assign; exact rfl; (apply YO.assign; exact rfl); exact rfl; exact rfl)
    | (apply WD.k_lss; exact rfl; exact y_lss; exact rfl; exact rfl)
    | (apply WD.k_add; exact rfl; exact y_add; exact rfl; exact rfl)
    | (apply WD.k_len; exact rfl; exact y_len; exact rfl; exact rfl)
    | (apply WD.k_indexAddr; exact rfl; exact y_indexAddr; exact rfl; exact rfl)
    | (apply WD.k_load; exact rfl; exact y_load; exact rfl; exact rfl)
    | (apply WD.k_pick; exact rfl; exact y_pick; exact rfl; exact rfl)
    | (apply WD.k_fieldAddr; exact rfl; exact y_fieldAddr; exact rfl; exact rfl)
    | (apply WD.k_eql; exact rfl; exact y_eql; exact rfl; exact rfl)
    | (apply WD.k_neq; exact rfl; exact y_neq; exact rfl; exact rfl)
    | (apply WD.k_nil; exact rfl; (apply YO.nil; exact rfl); exact rfl; exact rfl)
    | (apply WD.k_extract; exact rfl; (apply YO.extract; exact rfl; exact rfl); exact rfl; exact rfl)
    | (apply WD.k_gtr; exact rfl; exact y_gtr; exact rfl; exact rfl)
    | (apply WD.k_geq; exact rfl; exact y_geq; exact rfl; exact rfl)
    | (apply WD.k_leq; exact rfl; exact y_leq; exact rfl; exact rfl)
    | (apply WD.k_sub; exact rfl; (apply YO.sub; exact rfl; exact rfl; omega; omega); exact rfl; exact rfl)
    | (apply WD.k_mul; exact rfl; exact y_mul; exact rfl; exact rfl)
    | (apply WD.k_rem; exact rfl; exact y_rem; exact rfl; exact rfl)
    | (apply WD.k_quo; exact rfl; exact y_quo; exact rfl; exact rfl)
    | (apply WD.k_unot; exact rfl; exact y_unot; exact rfl; exact rfl)
    | (apply WD.k_uneg; exact rfl; exact y_uneg; exact rfl; exact rfl)
    | (apply WD.k_max; exact rfl; (apply YO.max; exact rfl; exact rfl); exact rfl; exact rfl)
    | (apply WD.k_min; exact rfl; (apply YO.min; exact rfl; exact rfl); exact rfl; exact rfl)
    | (apply WD.k_makeFunc; exact rfl; exact y_makeFunc; exact rfl; exact rfl)
    | (apply WD.k_conv; exact rfl; exact y_conv; exact rfl; exact rfl)
    | (apply WD.k_shl; exact rfl; exact y_shl; exact rfl; exact rfl)
    | (apply WD.k_shr; exact rfl; (apply YO.shr'; exact rfl; exact rfl; omega; omega); exact rfl; exact rfl)
    | (apply WD.k_and; exact rfl; exact y_and; exact rfl; exact rfl)
    | (apply WD.k_or; exact rfl; exact y_or; exact rfl; exact rfl)
    | (apply WD.k_andNot; exact rfl; (apply YO.anot; exact rfl; exact rfl); exact rfl; exact rfl)
    | (apply WD.k_slice; exact rfl; exact y_slice; exact rfl; exact rfl)
    | (apply WD.k_build; exact rfl; exact y_build; exact rfl; exact rfl)
    | (apply WD.kl_store; exact rfl; rotate_left; exact rfl; (first | (apply LO.storeOI; exact rfl; exact rfl; exact t3A; exact seA; (first | omega | (simp only [List.length_set]; omega))) | (apply LO.storeQ; exact rfl; exact rfl; exact t4A; exact hmA; exact seA; omega) | (apply LO.storeI; exact rfl; exact rfl; exact t3A; exact seA; (first | omega | (simp only [List.length_set, List.length_replicate]; omega))) | (apply LO.storeWI; exact rfl; exact rfl; exact seA; exact t4A; (first | omega | (simp only [List.length_set, List.length_replicate]; omega)); (first | (simp only [List.length_map, List.length_set, List.length_replicate, ints]; omega) | rfl)) | (apply LO.store1; exact rfl; exact rfl; exact t3A; (first | exact One.lit rfl rfl | (apply One.sl; exact knA)); exact seA; (first | (simp only [List.length_cons, List.length_nil]; omega) | (simp; omega)); (first | (simp only [List.set_cons_succ, List.set_cons_zero]; exact rfl) | exact rfl)) | (apply LO.storeO1; exact rfl; exact rfl; exact t3A; (first | exact One.lit rfl rfl | (apply One.sl; exact knA)); exact seA; (first | (simp only [List.length_cons, List.length_nil]; omega) | (simp; omega)); (first | (simp only [List.set_cons_succ, List.set_cons_zero]; exact rfl) | exact rfl)) | (apply LO.storeL; exact rfl; exact rfl; exact seA; exact t4A; exact rfl; exact rfl; (repeat (first | exact OneL.nil | (apply OneL.cons; (first | exact One.lit rfl rfl | (apply One.sl; exact knA))))))); constructor; exact ltA))
  exact Bx.h h) : G := s ⟨h⟩
theorem goG {G G' : Prop} (h : G') (s : Bx G' → G := by
  intro h
  (first
    | (apply WL.kl_alloc; rotate_left; exact rfl; exact rfl; apply LO.alloc'; (first | exact t1A))
    | (apply WL.kl_box; rotate_left; exact rfl; exact rfl; (first | (apply LO.boxA; exact rfl) | (apply LO.box1; exact rfl; (first | exact One.lit rfl rfl | (apply One.sl; exact knA))))))
  exact Bx.h h) : G := s ⟨h⟩
theorem goV {G G' : Prop} (h : G') (s : Bx G' → G := by
  intro h
  (first
    | (apply WL.kl_ms; rotate_left; exact rfl; exact rfl; (apply LO.makeI; exact rfl; exact rfl; (repeat (first | (with_reducible apply NatI.add) | (with_reducible exact NatI.one) | exact NatI.cast _)); omega))
    | (apply WL.kl_ms; rotate_left; exact rfl; exact rfl; (apply LO.makeR; exact rfl; exact rfl; (repeat (first | (with_reducible apply NatI.add) | (with_reducible exact NatI.one) | exact NatI.cast _)); omega))
    | (apply WL.kl_ms; rotate_left; exact rfl; exact rfl; (apply LO.makeLn; exact rfl; exact rfl; (repeat (first | (with_reducible apply NatI.add) | (with_reducible exact NatI.one) | exact NatI.cast _)); omega))
    | (apply WL.kl_bs; rotate_left; exact rfl; exact rfl; (apply LO.bsR10; exact rfl))
    | (apply WL.kl_bs; rotate_left; exact rfl; exact rfl; (apply LO.bsR0))
    | (apply WL.kl_bs; rotate_left; exact rfl; exact rfl; (apply LO.bsR1; exact rfl))
    | (apply WL.kl_bs; rotate_left; exact rfl; exact rfl; (apply LO.bsV1; exact rfl; exact knA))
    | (apply WL.kl_bs; rotate_left; exact rfl; exact rfl; (apply LO.bsLn0))
    | (apply WL.kl_bs; rotate_left; exact rfl; exact rfl; (apply LO.bsLn1; exact rfl; exact hmA))
    | (apply WL.kl_bs; rotate_left; exact rfl; exact rfl; (apply LO.bsR2; exact rfl; exact rfl))
    | (apply WL.kl_bs; rotate_left; exact rfl; exact rfl; (apply LO.bsLn3; exact rfl; exact rfl; exact rfl; exact hmA; exact hmA; exact hmA))
    | (apply WL.kl_app; rotate_left; exact rfl; exact rfl; (apply LO.appR1; exact rfl; exact rfl; exact meA; exact hmA; (intro _; exact seA); omega))
    | (apply WL.kl_app; rotate_left; exact rfl; exact rfl; (apply LO.appFf; exact rfl; exact rfl; exact hmA; (intro _; exact seA); omega))
    | (apply WL.kl_app; rotate_left; exact rfl; exact rfl; (apply LO.appVV; exact rfl; exact rfl; exact meA; (apply One.sl; exact knA); (intro _; exact seA); omega))
    | (apply WL.kl_app; rotate_left; exact rfl; exact rfl; (apply LO.appNN; exact rfl; exact rfl; exact meA; (intro _; exact seA); omega))
    | (apply WL.kl_app; rotate_left; exact rfl; exact rfl; (apply LO.appLn1; exact rfl; exact rfl; exact meA; exact hmA; exact hmA; (intro _; exact seA); omega))
    | (apply WL.kl_app; rotate_left; exact rfl; exact rfl; (apply LO.appLnf; exact rfl; exact rfl; exact hmA; (intro _; exact seA); omega; omega))
    | (apply WL.kl_app; rotate_left; exact rfl; exact rfl; (apply LO.appFg; exact rfl; exact rfl; exact hmA; (intro _; exact seA); omega; omega))
    | (apply WL.kl_app; rotate_left; exact rfl; exact rfl; (apply LO.appLnf0; exact rfl; exact rfl; exact hmA; (intro _; exact seA); omega))
    | (apply WL.kl_bs; rotate_left; exact rfl; exact rfl; apply LO.bs1; exact t6A; (repeat (first | exact EvP.nil | (apply EvP.cons; exact rfl))); (intro _; kernel_rfl); exact rfl; omega)
    | (apply WL.kl_app; rotate_left; exact rfl; exact rfl; apply LO.app; exact t5A; exact rfl; exact rfl; (first | (focus (apply SrcE.ints; exact hmA; done)) | (focus (apply SrcE.own1; exact meA; done)) | (focus (apply SrcE.one; exact meA; exact rfl; decide; done))); (intro v; exact seA); exact onA; exact leA; exact leA))
  exact Bx.h h) : G := s ⟨h⟩
theorem goDG {G G' : Prop} (h : G') (s : Bx G' → G := by
  intro h
  (first
    | (apply WD.kl_alloc; exact rfl; rotate_left; exact rfl; exact rfl; apply LO.alloc'; (first | exact t1A); apply allAnd; (intro _; exact ltA))
    | (apply WD.kl_box; exact rfl; rotate_left; exact rfl; exact rfl; (first | (apply LO.boxA; exact rfl) | (apply LO.box1; exact rfl; (first | exact One.lit rfl rfl | (apply One.sl; exact knA)))); apply allAnd; (intro _; exact ltA)))
  exact Bx.h h) : G := s ⟨h⟩
theorem goDV {G G' : Prop} (h : G') (s : Bx G' → G := by
  intro h
  (first
    | (apply WD.kl_ms; exact rfl; rotate_left; exact rfl; exact rfl; (apply LO.makeI; exact rfl; exact rfl; (repeat (first | (with_reducible apply NatI.add) | (with_reducible exact NatI.one) | exact NatI.cast _)); omega); apply allAnd; (intro _; exact ltA))
    | (apply WD.kl_ms; exact rfl; rotate_left; exact rfl; exact rfl; (apply LO.makeR; exact rfl; exact rfl; (repeat (first | (with_reducible apply NatI.add) | (with_reducible exact NatI.one) | exact NatI.cast _)); omega); apply allAnd; (intro _; exact ltA))
    | (apply WD.kl_ms; exact rfl; rotate_left; exact rfl; exact rfl; (apply LO.makeLn; exact rfl; exact rfl; (repeat (first | (with_reducible apply NatI.add) | (with_reducible exact NatI.one) | exact NatI.cast _)); omega); apply allAnd; (intro _; exact ltA))
    | (apply WD.kl_bs; exact rfl; rotate_left; exact rfl; exact rfl; (apply LO.bsR10; exact rfl); apply allAnd; (intro _; exact ltA))
    | (apply WD.kl_bs; exact rfl; rotate_left; exact rfl; exact rfl; (apply LO.bsR0); apply allAnd; (intro _; exact ltA))
    | (apply WD.kl_bs; exact rfl; rotate_left; exact rfl; exact rfl; (apply LO.bsR1; exact rfl); apply allAnd; (intro _; exact ltA))
    | (apply WD.kl_bs; exact rfl; rotate_left; exact rfl; exact rfl; (apply LO.bsV1; exact rfl; exact knA); apply allAnd; (intro _; exact ltA))
    | (apply WD.kl_bs; exact rfl; rotate_left; exact rfl; exact rfl; (apply LO.bsLn0); apply allAnd; (intro _; exact ltA))
    | (apply WD.kl_bs; exact rfl; rotate_left; exact rfl; exact rfl; (apply LO.bsLn1; exact rfl; exact hmA); apply allAnd; (intro _; exact ltA))
    | (apply WD.kl_bs; exact rfl; rotate_left; exact rfl; exact rfl; (apply LO.bsR2; exact rfl; exact rfl); apply allAnd; (intro _; exact ltA))
    | (apply WD.kl_bs; exact rfl; rotate_left; exact rfl; exact rfl; (apply LO.bsLn3; exact rfl; exact rfl; exact rfl; exact hmA; exact hmA; exact hmA); apply allAnd; (intro _; exact ltA))
    | (apply WD.kl_app; exact rfl; rotate_left; exact rfl; exact rfl; (apply LO.appR1; exact rfl; exact rfl; exact meA; exact hmA; (intro _; exact seA); omega); apply allAnd; (intro _; exact ltA))
    | (apply WD.kl_app; exact rfl; rotate_left; exact rfl; exact rfl; (apply LO.appFf; exact rfl; exact rfl; exact hmA; (intro _; exact seA); omega); apply allAnd; (intro _; exact ltA))
    | (apply WD.kl_app; exact rfl; rotate_left; exact rfl; exact rfl; (apply LO.appVV; exact rfl; exact rfl; exact meA; (apply One.sl; exact knA); (intro _; exact seA); omega); apply allAnd; (intro _; exact ltA))
    | (apply WD.kl_app; exact rfl; rotate_left; exact rfl; exact rfl; (apply LO.appNN; exact rfl; exact rfl; exact meA; (intro _; exact seA); omega); apply allAnd; (intro _; exact ltA))
    | (apply WD.kl_app; exact rfl; rotate_left; exact rfl; exact rfl; (apply LO.appLn1; exact rfl; exact rfl; exact meA; exact hmA; exact hmA; (intro _; exact seA); omega); apply allAnd; (intro _; exact ltA))
    | (apply WD.kl_app; exact rfl; rotate_left; exact rfl; exact rfl; (apply LO.appLnf; exact rfl; exact rfl; exact hmA; (intro _; exact seA); omega; omega); apply allAnd; (intro _; exact ltA))
    | (apply WD.kl_app; exact rfl; rotate_left; exact rfl; exact rfl; (apply LO.appFg; exact rfl; exact rfl; exact hmA; (intro _; exact seA); omega; omega); apply allAnd; (intro _; exact ltA))
    | (apply WD.kl_app; exact rfl; rotate_left; exact rfl; exact rfl; (apply LO.appLnf0; exact rfl; exact rfl; exact hmA; (intro _; exact seA); omega); apply allAnd; (intro _; exact ltA))
    | (apply WD.kl_bs; exact rfl; rotate_left; exact rfl; exact rfl; apply LO.bs1; exact t6A; (repeat (first | exact EvP.nil | (apply EvP.cons; exact rfl))); (intro _; kernel_rfl); exact rfl; omega; apply allAnd; (intro _; exact ltA))
    | (apply WD.kl_app; exact rfl; rotate_left; exact rfl; exact rfl; apply LO.app; exact t5A; exact rfl; exact rfl; (first | (focus (apply SrcE.ints; exact hmA; done)) | (focus (apply SrcE.own1; exact meA; done)) | (focus (apply SrcE.one; exact meA; exact rfl; decide; done))); (intro v; exact seA); exact onA; exact leA; exact leA; apply allAnd; (intro _; exact ltA)))
  exact Bx.h h) : G := s ⟨h⟩
theorem goLG {G G' : Prop} (h : G') (s : Bx G' → G := by
  intro h
  (first
    | (apply LO.alloc'; (first | exact t1A); apply allAnd; (intro _; exact ltA))
    | ((first | (apply LO.boxA; exact rfl) | (apply LO.box1; exact rfl; (first | exact One.lit rfl rfl | (apply One.sl; exact knA)))); apply allAnd; (intro _; exact ltA)))
  exact Bx.h h) : G := s ⟨h⟩
theorem goLV {G G' : Prop} (h : G') (s : Bx G' → G := by
  intro h
  (first
    | (apply LO.bs1; exact t6A; (repeat (first | exact EvP.nil | (apply EvP.cons; exact rfl))); (intro _; kernel_rfl); exact rfl; omega; apply allAnd; (intro _; exact ltA))
    | (apply LO.app; exact t5A; exact rfl; exact rfl; (first | (focus (apply SrcE.ints; exact hmA; done)) | (focus (apply SrcE.own1; exact meA; done)) | (focus (apply SrcE.one; exact meA; exact rfl; decide; done))); (intro v; exact seA); exact onA; exact leA; exact leA; apply allAnd; (intro _; exact ltA))
    | ((apply LO.makeI; exact rfl; exact rfl; (repeat (first | (with_reducible apply NatI.add) | (with_reducible exact NatI.one) | exact NatI.cast _)); omega); apply allAnd; (intro _; exact ltA))
    | ((apply LO.makeR; exact rfl; exact rfl; (repeat (first | (with_reducible apply NatI.add) | (with_reducible exact NatI.one) | exact NatI.cast _)); omega); apply allAnd; (intro _; exact ltA))
    | ((apply LO.makeLn; exact rfl; exact rfl; (repeat (first | (with_reducible apply NatI.add) | (with_reducible exact NatI.one) | exact NatI.cast _)); omega); apply allAnd; (intro _; exact ltA))
    | ((apply LO.bsR10; exact rfl); apply allAnd; (intro _; exact ltA))
    | ((apply LO.bsR0); apply allAnd; (intro _; exact ltA))
    | ((apply LO.bsR1; exact rfl); apply allAnd; (intro _; exact ltA))
    | ((apply LO.bsV1; exact rfl; exact knA); apply allAnd; (intro _; exact ltA))
    | ((apply LO.bsLn0); apply allAnd; (intro _; exact ltA))
    | ((apply LO.bsLn1; exact rfl; exact hmA); apply allAnd; (intro _; exact ltA))
    | ((apply LO.bsR2; exact rfl; exact rfl); apply allAnd; (intro _; exact ltA))
    | ((apply LO.bsLn3; exact rfl; exact rfl; exact rfl; exact hmA; exact hmA; exact hmA); apply allAnd; (intro _; exact ltA))
    | ((apply LO.appR1; exact rfl; exact rfl; exact meA; exact hmA; (intro _; exact seA); omega); apply allAnd; (intro _; exact ltA))
    | ((apply LO.appFf; exact rfl; exact rfl; exact hmA; (intro _; exact seA); omega); apply allAnd; (intro _; exact ltA))
    | ((apply LO.appVV; exact rfl; exact rfl; exact meA; (apply One.sl; exact knA); (intro _; exact seA); omega); apply allAnd; (intro _; exact ltA))
    | ((apply LO.appNN; exact rfl; exact rfl; exact meA; (intro _; exact seA); omega); apply allAnd; (intro _; exact ltA))
    | ((apply LO.appLn1; exact rfl; exact rfl; exact meA; exact hmA; exact hmA; (intro _; exact seA); omega); apply allAnd; (intro _; exact ltA))
    | ((apply LO.appLnf; exact rfl; exact rfl; exact hmA; (intro _; exact seA); omega; omega); apply allAnd; (intro _; exact ltA))
    | ((apply LO.appFg; exact rfl; exact rfl; exact hmA; (intro _; exact seA); omega; omega); apply allAnd; (intro _; exact ltA))
    | ((apply LO.appLnf0; exact rfl; exact rfl; exact hmA; (intro _; exact seA); omega); apply allAnd; (intro _; exact ltA)))
  exact Bx.h h) : G := s ⟨h⟩
theorem goLS {G G' : Prop} (h : G') (s : Bx G' → G := by
  intro h
  (first
    | ((first | (apply LO.storeOI; exact rfl; exact rfl; exact t3A; exact seA; (first | omega | (simp only [List.length_set]; omega))) | (apply LO.storeQ; exact rfl; exact rfl; exact t4A; exact hmA; exact seA; omega) | (apply LO.storeI; exact rfl; exact rfl; exact t3A; exact seA; (first | omega | (simp only [List.length_set, List.length_replicate]; omega))) | (apply LO.storeWI; exact rfl; exact rfl; exact seA; exact t4A; (first | omega | (simp only [List.length_set, List.length_replicate]; omega)); (first | (simp only [List.length_map, List.length_set, List.length_replicate, ints]; omega) | rfl)) | (apply LO.store1; exact rfl; exact rfl; exact t3A; (first | exact One.lit rfl rfl | (apply One.sl; exact knA)); exact seA; (first | (simp only [List.length_cons, List.length_nil]; omega) | (simp; omega)); (first | (simp only [List.set_cons_succ, List.set_cons_zero]; exact rfl) | exact rfl)) | (apply LO.storeO1; exact rfl; exact rfl; exact t3A; (first | exact One.lit rfl rfl | (apply One.sl; exact knA)); exact seA; (first | (simp only [List.length_cons, List.length_nil]; omega) | (simp; omega)); (first | (simp only [List.set_cons_succ, List.set_cons_zero]; exact rfl) | exact rfl)) | (apply LO.storeL; exact rfl; exact rfl; exact seA; exact t4A; exact rfl; exact rfl; (repeat (first | exact OneL.nil | (apply OneL.cons; (first | exact One.lit rfl rfl | (apply One.sl; exact knA))))))); constructor; exact ltA))
  exact Bx.h h) : G := s ⟨h⟩
theorem goYT {G G' : Prop} (h : G') (s : Bx G' → G := by
  intro h
  (apply WD.yl; exact rfl; (first | (apply YO.move; exact rfl) | (apply YO.assign; exact rfl) | exact y_lss | exact y_add | exact y_len | exact y_indexAddr | exact y_load | exact y_pick | exact y_fieldAddr | exact y_eql | exact y_neq | (apply YO.nil; exact rfl) | (apply YO.extract; exact rfl; exact rfl) | exact y_gtr | exact y_geq | exact y_leq | (apply YO.sub; exact rfl; exact rfl; omega; omega) | exact y_mul | exact y_rem | exact y_quo | exact y_unot | exact y_uneg | (apply YO.max; exact rfl; exact rfl) | (apply YO.min; exact rfl; exact rfl) | exact y_makeFunc | exact y_conv | exact y_shl | (apply YO.shr'; exact rfl; exact rfl; omega; omega) | exact y_and | exact y_or | (apply YO.anot; exact rfl; exact rfl) | exact y_slice); exact rfl; exact rfl)
  exact Bx.h h) : G := s ⟨h⟩
theorem goYB {G G' : Prop} (h : G') (s : Bx G' → G := by
  intro h
  (apply WD.yl; exact rfl; (first | exact y_build | exact y_slice | (apply YO.extract; exact rfl; exact rfl) | exact y_fieldAddr | exact y_indexAddr | exact y_load | fail); exact rfl; exact rfl)
  exact Bx.h h) : G := s ⟨h⟩
theorem goLY {G G' : Prop} (h : G') (s : Bx G' → G := by
  intro h
  (apply LO.ofY; (first | exact y_build | exact y_slice | (apply YO.extract; exact rfl; exact rfl) | exact y_fieldAddr | exact y_indexAddr | exact y_load | fail); constructor; exact ltA)
  exact Bx.h h) : G := s ⟨h⟩
section
variable {P : Program} {n : Nat} {L rest : List Oper} {e : Env} {bx b0 : List Ow} {F F0 : List Fct} {Q : Env → List Ow → List Fct → Prop} {d i : Nat} {ty : TypeId} {pos : String} {af : Array Edge} {g : Option (Nat × Bool)} {hs : List Nat} {r : Plan}
  {f : FuncId} {x : Operand} {args : List Operand} {ats : Array TypeId} {vs cs : List Value} {F' : List Fct} {u : Value} {el sz : Nat}
theorem WL.callV (hf : FnB P f vs [] F' (IsV u)) (hK : WL P n L rest ((d, u) :: e) bx F Q) (hx : ev e x = some (.func (.func f) #[] #[]) := by exact rfl) (hv : Evs e args vs := by repeat (first | exact Evs.nil | (apply Evs.cons; exact rfl))) (hF : HasAllB bx F F' := by repeat (first | exact HasAllB.nil | (apply HasAllB.cons; (first | (focus (apply HasB.oI; exact meA; done)) | (focus (apply HasB.c; exact meA; done)) | (focus (apply HasB.f; exact hsA; done)) | (focus (apply HasB.fF; exact meA; exact hmA; done)) | (focus (apply HasB.rows; (repeat (first | exact List.Sublist.refl _ | apply List.Sublist.cons)); exact hmA; done)) | (focus (apply HasB.sV; exact meA; done)) | (focus (apply HasB.sN; exact meA; done)) | (focus (apply HasB.fLn; exact meA; exact hmA; done))))))
    (hd : Nat.blt d n = true := by exact rfl) (hg : gok L e g = some true := by exact rfl) : WL P n L (⟨some d, .call { callee := .value x, args := args.toArray, argTypes := ats }, ty, pos, af, g⟩ :: rest) e bx F Q :=
  WL.l hd hg (LO.callRV hx hv hf hF hK)
theorem WL.callO (hf : FnB P f vs [] F' (IsO el sz cs)) (hK : ∀ v, WL P n L rest ((d, v) :: e) (Ow.slice v el sz cs :: bx) F Q) (hx : ev e x = some (.func (.func f) #[] #[]) := by exact rfl) (hv : Evs e args vs := by repeat (first | exact Evs.nil | (apply Evs.cons; exact rfl))) (hF : HasAllB bx F F' := by repeat (first | exact HasAllB.nil | (apply HasAllB.cons; (first | (focus (apply HasB.oI; exact meA; done)) | (focus (apply HasB.c; exact meA; done)) | (focus (apply HasB.f; exact hsA; done)) | (focus (apply HasB.fF; exact meA; exact hmA; done)) | (focus (apply HasB.rows; (repeat (first | exact List.Sublist.refl _ | apply List.Sublist.cons)); exact hmA; done)) | (focus (apply HasB.sV; exact meA; done)) | (focus (apply HasB.sN; exact meA; done)) | (focus (apply HasB.fLn; exact meA; exact hmA; done))))))
    (hd : Nat.blt d n = true := by exact rfl) (hg : gok L e g = some true := by exact rfl) : WL P n L (⟨some d, .call { callee := .value x, args := args.toArray, argTypes := ats }, ty, pos, af, g⟩ :: rest) e bx F Q :=
  WL.l hd hg (LO.callRO hx hv hf hF hK)
theorem WD.callV (hf : FnB P f vs [] F' (IsV u)) (hK : WD P n L hs b0 F0 r ((d, u) :: e) bx F Q) (hL : L[i]? = some ⟨some d, .call { callee := .value x, args := args.toArray, argTypes := ats }, ty, pos, af, g⟩ := by exact rfl) (hx : ev e x = some (.func (.func f) #[] #[]) := by exact rfl) (hv : Evs e args vs := by repeat (first | exact Evs.nil | (apply Evs.cons; exact rfl))) (hF : HasAllB bx F F' := by repeat (first | exact HasAllB.nil | (apply HasAllB.cons; (first | (focus (apply HasB.oI; exact meA; done)) | (focus (apply HasB.c; exact meA; done)) | (focus (apply HasB.f; exact hsA; done)) | (focus (apply HasB.fF; exact meA; exact hmA; done)) | (focus (apply HasB.rows; (repeat (first | exact List.Sublist.refl _ | apply List.Sublist.cons)); exact hmA; done)) | (focus (apply HasB.sV; exact meA; done)) | (focus (apply HasB.sN; exact meA; done)) | (focus (apply HasB.fLn; exact meA; exact hmA; done))))))
    (hd : Nat.blt d n = true := by exact rfl) (hg : gok L e g = some true := by exact rfl) (lt : lateB L hs i = true ∨ (b0.Sublist bx ∧ ∀ f ∈ F0, f ∈ F) := by exact ltA) : WD P n L hs b0 F0 (.loud i r) e bx F Q :=
  WD.l hL hd hg (LO.callRV hx hv hf hF ⟨lt, hK⟩)
theorem WD.callO (hf : FnB P f vs [] F' (IsO el sz cs)) (hK : ∀ v, WD P n L hs b0 F0 r ((d, v) :: e) (Ow.slice v el sz cs :: bx) F Q) (hL : L[i]? = some ⟨some d, .call { callee := .value x, args := args.toArray, argTypes := ats }, ty, pos, af, g⟩ := by exact rfl) (hx : ev e x = some (.func (.func f) #[] #[]) := by exact rfl) (hv : Evs e args vs := by repeat (first | exact Evs.nil | (apply Evs.cons; exact rfl))) (hF : HasAllB bx F F' := by repeat (first | exact HasAllB.nil | (apply HasAllB.cons; (first | (focus (apply HasB.oI; exact meA; done)) | (focus (apply HasB.c; exact meA; done)) | (focus (apply HasB.f; exact hsA; done)) | (focus (apply HasB.fF; exact meA; exact hmA; done)) | (focus (apply HasB.rows; (repeat (first | exact List.Sublist.refl _ | apply List.Sublist.cons)); exact hmA; done)) | (focus (apply HasB.sV; exact meA; done)) | (focus (apply HasB.sN; exact meA; done)) | (focus (apply HasB.fLn; exact meA; exact hmA; done))))))
    (hd : Nat.blt d n = true := by exact rfl) (hg : gok L e g = some true := by exact rfl) (lt : lateB L hs i = true ∨ (b0.Sublist bx ∧ ∀ f ∈ F0, f ∈ F) := by exact ltA) : WD P n L hs b0 F0 (.loud i r) e bx F Q :=
  WD.l hL hd hg (LO.callRO hx hv hf hF fun v => ⟨lt.imp id fun h => ⟨h.1.trans (List.sublist_cons_self _ _), h.2⟩, hK v⟩)
end
end U
end Go.Proofs.YtaongbhamadlkaaGreat
namespace Go.Proofs.YtaongbhamadlkaaGreat
open W Go.RowKit
abbrev lv5 (a : Value) (b : QM) : Value := .agg #[a, .bool b.1, b.2.1, .bool false, b.2.2]
def IsOF (n : Nat) (q : Nat → Rat) : RPost := fun v B G => ∃ ms, B = [Ow.slice v 31 4 (qcells n ms)] ∧ G = [mF n ms q]
def IsLine (w : Nat) (a : Nat → Rat) (b : Rat) : RPost := fun v B G => ∃ av ma mb, v = lv5 av mb ∧ B = [] ∧ G = [fF av w ma a, isQ (qv mb) b]
def IsLns (w : Nat) (L : List X.Ln) : RPost := fun v B G => ∃ M : Pm, v = M.lv ∧ B = [] ∧ G = [fLn M w L]
theorem Sq.smL {K : Nat} {q : Rat} (h : Sq K q) (hK : 4 * K + 1 ≤ 400000000) : Sm q := h.sm (by omega)
namespace U
open Z
attribute [local irreducible] WC WL WD YO LO LoopEnd W.Fin Scalar SliceT FieldAt Row ArrT AllocT KnS Has W.One SrcE IntT
theorem d58 {G G' : Prop} (h : G') (s : Bx G' → G := by
  intro h
  first | (apply WC.draw (id := 5) [0, 1, 2, 3, 4, 5] (.held 0 (.held 1 (.held 2 (.held 3 (.held 4 (.held 5 (.loud 6 (.loud 7 (.loud 8 (.loud 9 (.done))))))))))) mixed (by kernel_rfl)) | fail
  exact Bx.h h) : G := s ⟨h⟩
theorem d123 {G G' : Prop} (h : G') (s : Bx G' → G := by
  intro h
  first | (apply WC.draw (id := 1) [0, 1, 2, 4, 5, 6, 9, 10, 11, 13, 14, 15] (.held 0 (.held 1 (.held 2 (.held 4 (.held 5 (.held 6 (.held 9 (.held 10 (.held 11 (.held 13 (.held 14 (.held 15 (.loud 3 (.loud 7 (.loud 8 (.loud 12 (.loud 16 (.loud 17 (.loud 18 (.loud 19 (.done))))))))))))))))))))) mixed (by kernel_rfl)) | fail
  exact Bx.h h) : G := s ⟨h⟩
theorem d131 {G G' : Prop} (h : G') (s : Bx G' → G := by
  intro h
  first | (apply WC.draw (id := 5) [0, 1, 2, 3, 4, 5, 6, 7, 8] (.held 0 (.held 1 (.held 2 (.held 3 (.held 4 (.held 5 (.held 6 (.held 7 (.held 8 (.loud 9 (.loud 10 (.loud 11 (.loud 12 (.done)))))))))))))) mixed (by kernel_rfl)) | fail
  exact Bx.h h) : G := s ⟨h⟩
set_option maxHeartbeats 4000000 in
set_option maxRecDepth 60000 in
theorem scaled_c (v : Value) (n : Nat) (ms : Nat → QM) (a : Nat → Rat) (m : QM) (f : Rat) (hn : n ≤ 10000) (ha : ∀ i, i < n → Sm (a i)) (hf : Sm f) : FnB Tryz.prog 58 [v, qv m] [] [fF v n ms a, isQ (qv m) f] (IsOF n fun k => a k * f) := by
  refine fn_of [(0, v), (1, (qv m))] 23 Tryz.func58 rfl Tryz.ntmps58 (by kernel_rfl) rfl suA fun h0 => ?_
  refine WC.addNil 31 4 ?_
  repeat' (first | refine gB ?_ | (refine gH ?_; intro g) | (refine gW ?_; intro v) | refine gY ?_ | refine d58 ?_ | fail)
  revert g; intro g3
  refine WC.lp (σ := Nat × Value × (Nat → QM)) (fun st => [(6, .int .i64 (st.1 : Int)), (0, v), (5, st.2.1), (3, ptr g3)]) (fun st => [Ow.cells g3 31 (qcs m), Ow.slice st.2.1 31 4 (qcells st.1 st.2.2)])
    (fun st => [mF st.1 st.2.2 (clx (fun k => a k * f) st.1), ge h0, fF v n ms a, isQ (qv m) f]) (fun st => st.1 ≤ n) (fun st => n - st.1) (0, .slice none 0 0, fun _ => m00) (Nat.zero_le _) ?_ (hG := .cons (W.Has.mFn _ _) (.cons hmA (.cons hmA (.cons hmA .nil))))
  rintro ⟨k, sv, ms2⟩ hk
  simp only at hk ⊢
  by_cases c : k < n
  · refine WC.fact (isQ (qv (ms k)) (a k)) (W.Has.q (W.Has.fm (v := v) hmA) c) ?_
    repeat' (first | refine gB ?_ | (refine gH ?_; intro g) | (refine gW ?_; intro v) | refine gY ?_ | refine d58 ?_ | fail)
    first | refine WL.callK (Zn.rmul (ms k) m (a k) f (ha k c) hf) ?_ | refine WD.callK (Zn.rmul (ms k) m (a k) f (ha k c) hf) ?_ | refine LO.callM (Zn.rmul (ms k) m (a k) f (ha k c) hf) ?_
    rintro _ _ _ ⟨m3, rfl, rfl, rfl⟩
    simp only [List.nil_append, List.cons_append]
    refine WD.fact (mF (k + 1) (upd ms2 k m3) (clx (fun k => a k * f) (k + 1))) ((W.Has.mFapp (n := k) (ms := ms2) (m := m3) (qf := clx _ k) hmA hmA).mFsame fun j hj => clx_up (c := fun k => a k * f) j) ?_
    repeat' (first | refine gB ?_ | (refine gH ?_; intro g) | (refine gW ?_; intro v) | refine gY ?_ | refine d58 ?_ | fail)
    exact LoopEnd.mk (k + 1, _, _) (by show k + 1 ≤ n; omega) (by show n - (k + 1) < n - k; omega)
  · obtain rfl : n = k := by omega
    repeat' (first | refine gB ?_ | (refine gH ?_; intro g) | (refine gW ?_; intro v) | refine gY ?_ | refine d58 ?_ | fail)
    refine WC.fact (mF n ms2 fun k => a k * f) (W.Has.mFsame (qf := clx (fun k => a k * f) n) hmA fun j hj => by unfold clx; rw [if_pos hj]) ?_
    refine WC.ret ?_
    exact Fin.p [_] [mF n ms2 fun k => a k * f] (ResE.t1 rfl rfl) meA slA haA ⟨ms2, rfl, rfl⟩
set_option maxHeartbeats 4000000 in
set_option maxRecDepth 60000 in
theorem added_c (v u : Value) (n : Nat) (ms mt : Nat → QM) (a b : Nat → Rat) (hn : n ≤ 10000) (ha : ∀ i, i < n → Sm (a i)) (hb : ∀ i, i < n → Sm (b i)) : FnB Tryz.prog 131 [v, u] [] [fF v n ms a, fF u n mt b] (IsF n fun k => a k + b k) := by
  refine fn_of [(0, v), (1, u)] 26 Tryz.func131 rfl Tryz.ntmps131 (by kernel_rfl) rfl suA fun h0 => ?_
  refine WC.addNil 31 4 ?_
  repeat' (first | refine gB ?_ | (refine gH ?_; intro g) | (refine gW ?_; intro v) | refine gY ?_ | refine d131 ?_ | fail)
  refine WC.lp (σ := Nat × Value × (Nat → QM)) (fun st => [(6, .int .i64 (st.1 : Int)), (0, v), (1, u), (5, st.2.1)]) (fun st => [Ow.slice st.2.1 31 4 (qcells st.1 st.2.2)])
    (fun st => [mF st.1 st.2.2 (clx (fun k => a k + b k) st.1), ge h0, fF v n ms a, fF u n mt b]) (fun st => st.1 ≤ n) (fun st => n - st.1) (0, .slice none 0 0, fun _ => m00) (Nat.zero_le _) ?_ (hG := .cons (W.Has.mFn _ _) (.cons hmA (.cons hmA (.cons hmA .nil))))
  rintro ⟨k, sv, ms2⟩ hk
  simp only at hk ⊢
  by_cases c : k < n
  · refine WC.fact (isQ (qv (ms k)) (a k)) (W.Has.q (W.Has.fm (v := v) (ms := ms) hmA) c) ?_
    refine WC.fact (isQ (qv (mt k)) (b k)) (W.Has.q (W.Has.fm (v := u) (ms := mt) hmA) c) ?_
    repeat' (first | refine gB ?_ | (refine gH ?_; intro g) | (refine gW ?_; intro v) | refine gY ?_ | refine d131 ?_ | fail)
    first | refine WL.callK (Zn.radd (ms k) (mt k) (a k) (b k) (ha k c) (hb k c)) ?_ | refine WD.callK (Zn.radd (ms k) (mt k) (a k) (b k) (ha k c) (hb k c)) ?_ | refine LO.callM (Zn.radd (ms k) (mt k) (a k) (b k) (ha k c) (hb k c)) ?_
    rintro _ _ _ ⟨m3, rfl, rfl, rfl⟩
    simp only [List.nil_append, List.cons_append]
    refine WD.fact (mF (k + 1) (upd ms2 k m3) (clx (fun k => a k + b k) (k + 1))) ((W.Has.mFapp (n := k) (ms := ms2) (m := m3) (qf := clx _ k) hmA hmA).mFsame fun j hj => clx_up (c := fun k => a k + b k) j) ?_
    repeat' (first | refine gB ?_ | (refine gH ?_; intro g) | (refine gW ?_; intro v) | refine gY ?_ | refine d131 ?_ | fail)
    exact LoopEnd.mk (k + 1, _, _) (by show k + 1 ≤ n; omega) (by show n - (k + 1) < n - k; omega)
  · obtain rfl : n = k := by omega
    repeat' (first | refine gB ?_ | (refine gH ?_; intro g) | (refine gW ?_; intro v) | refine gY ?_ | refine d131 ?_ | fail)
    refine WC.freezeF sv n ms2 (fun k => a k + b k) (by repeat (first | exact Sel.head | apply Sel.tail)) (W.Has.mFsame (qf := clx (fun k => a k + b k) n) hmA fun j hj => by unfold clx; rw [if_pos hj]) ?_
    refine WC.ret ?_
    exact Fin.p [] [fF sv n ms2 fun k => a k + b k] (ResE.t1 rfl rfl) meA (List.nil_sublist _) haA ⟨ms2, rfl, rfl⟩
set_option maxHeartbeats 4000000 in
set_option maxRecDepth 60000 in
theorem combined_c (v u : Value) (w K : Nat) (ms mt : Nat → QM) (a b : Nat → Rat) (mx my mf mg : QM) (x y f gq : Rat) (hw : w ≤ 10000) (hK : 4 * K + 1 ≤ 400000000) (ha : ∀ i, i < w → Sq K (a i)) (hb : ∀ i, i < w → Sq K (b i)) (hx : Sq K x) (hy : Sq K y) (hf : Sq K f) (hg : Sq K gq) :
    FnB Tryz.prog 123 [lv5 v mx, qv mf, lv5 u my, qv mg] [] [fF v w ms a, isQ (qv mx) x, isQ (qv mf) f, fF u w mt b, isQ (qv my) y, isQ (qv mg) gq] (IsLine w (fun k => a k * f + b k * gq) (x * f + y * gq)) := by
  refine fn_of [(0, (lv5 v mx)), (1, (qv mf)), (2, (lv5 u my)), (3, (qv mg))] 28 Tryz.func123 rfl Tryz.ntmps123 (by kernel_rfl) rfl suA fun h0 => ?_
  repeat' (first | refine gB ?_ | (refine gH ?_; intro g) | (refine gW ?_; intro v) | refine gY ?_ | refine d123 ?_ | fail)
  refine WD.callK (scaled_c v w ms a mf f hw (fun i hi => (ha i hi).smL hK) (hf.smL hK)) ?_
  rintro v1 _ _ ⟨m1, rfl, rfl⟩
  simp only [List.nil_append, List.cons_append]
  refine WD.freezeF v1 w m1 (fun k => a k * f) (by repeat (first | exact Sel.head | apply Sel.tail)) hmA ?_
  repeat' (first | refine gB ?_ | (refine gH ?_; intro g) | (refine gW ?_; intro v) | refine gY ?_ | refine d123 ?_ | fail)
  refine WD.callK (scaled_c u w mt b mg gq hw (fun i hi => (hb i hi).smL hK) (hg.smL hK)) ?_
  rintro v2 _ _ ⟨m2, rfl, rfl⟩
  simp only [List.nil_append, List.cons_append]
  refine WD.freezeF v2 w m2 (fun k => b k * gq) (by repeat (first | exact Sel.head | apply Sel.tail)) hmA ?_
  repeat' (first | refine gB ?_ | (refine gH ?_; intro g) | (refine gW ?_; intro v) | refine gY ?_ | refine d123 ?_ | fail)
  refine WD.callK (added_c v1 v2 w m1 m2 (fun k => a k * f) (fun k => b k * gq) hw (fun i hi => ((ha i hi).mul hf).sm (by omega)) (fun i hi => ((hb i hi).mul hg).sm (by omega))) ?_
  rintro v3 _ _ ⟨m3, rfl, rfl⟩
  simp only [List.nil_append, List.cons_append]
  repeat' (first | refine gB ?_ | (refine gH ?_; intro g) | (refine gW ?_; intro v) | refine gY ?_ | refine d123 ?_ | fail)
  first | refine WL.callK (Zn.rmul mx mf x f (hx.smL hK) (hf.smL hK)) ?_ | refine WD.callK (Zn.rmul mx mf x f (hx.smL hK) (hf.smL hK)) ?_ | refine LO.callM (Zn.rmul mx mf x f (hx.smL hK) (hf.smL hK)) ?_
  rintro _ _ _ ⟨m4, rfl, rfl, rfl⟩
  simp only [List.nil_append, List.cons_append]
  repeat' (first | refine gB ?_ | (refine gH ?_; intro g) | (refine gW ?_; intro v) | refine gY ?_ | refine d123 ?_ | fail)
  first | refine WL.callK (Zn.rmul my mg y gq (hy.smL hK) (hg.smL hK)) ?_ | refine WD.callK (Zn.rmul my mg y gq (hy.smL hK) (hg.smL hK)) ?_ | refine LO.callM (Zn.rmul my mg y gq (hy.smL hK) (hg.smL hK)) ?_
  rintro _ _ _ ⟨m5, rfl, rfl, rfl⟩
  simp only [List.nil_append, List.cons_append]
  repeat' (first | refine gB ?_ | (refine gH ?_; intro g) | (refine gW ?_; intro v) | refine gY ?_ | refine d123 ?_ | fail)
  first | refine WL.callK (Zn.radd m4 m5 (x * f) (y * gq) ((hx.mul hf).sm (by omega)) ((hy.mul hg).sm (by omega))) ?_ | refine WD.callK (Zn.radd m4 m5 (x * f) (y * gq) ((hx.mul hf).sm (by omega)) ((hy.mul hg).sm (by omega))) ?_ | refine LO.callM (Zn.radd m4 m5 (x * f) (y * gq) ((hx.mul hf).sm (by omega)) ((hy.mul hg).sm (by omega))) ?_
  rintro _ _ _ ⟨m6, rfl, rfl, rfl⟩
  simp only [List.nil_append, List.cons_append]
  repeat' (first | refine gB ?_ | (refine gH ?_; intro g) | (refine gW ?_; intro v) | refine gY ?_ | refine d123 ?_ | fail)
  repeat' (first | refine gB ?_ | (refine gH ?_; intro g) | (refine gW ?_; intro v) | refine gY ?_ | refine d123 ?_ | fail)
  refine WC.ret ?_
  exact Fin.p [] [fF v3 w m3 fun k => a k * f + b k * gq, isQ (qv m6) (x * f + y * gq)] (ResE.cV rfl rfl meA T.r60 rfl) meA (List.nil_sublist _) haA ⟨v3, m3, m6, rfl, rfl, rfl⟩
end U
end Go.Proofs.YtaongbhamadlkaaGreat
namespace Go.Proofs.YtaongbhamadlkaaGreat
namespace X
def nb (n : Nat) : Nat := if n ≤ 4 then 4 else n * n / 4
theorem nb_pq (z p q : Nat) : z + p * q ≤ nb (z + p + q) := by
  have key : p * q = 0 ∨ 4 * (z + p * q) ≤ (z + p + q) * (z + p + q) := by
    cases p with
    | zero => left; simp
    | succ p =>
      cases q with
      | zero => left; simp
      | succ q =>
        right
        have e1 : (z + (p + 1) + (q + 1)) * (z + (p + 1) + (q + 1)) = (z + p + q) * (z + p + q) + 4 * (z + p + q) + 4 := by grind
        have e2 : (p + 1) * (q + 1) = p * q + p + q + 1 := by grind
        have e3 : 4 * (p * q) ≤ (p + q) * (p + q) := by
          rcases Nat.le_total p q with h | h
          · obtain ⟨d, rfl⟩ := Nat.le.dest h
            have : (p + (p + d)) * (p + (p + d)) = 4 * (p * (p + d)) + d * d := by grind
            omega
          · obtain ⟨d, rfl⟩ := Nat.le.dest h
            have : (q + d + q) * (q + d + q) = 4 * ((q + d) * q) + d * d := by grind
            omega
        have e4 : (p + q) * (p + q) ≤ (z + p + q) * (z + p + q) := Nat.mul_le_mul (by omega) (by omega)
        omega
  unfold nb
  by_cases c : z + p + q ≤ 4
  · rw [if_pos c]
    rcases key with h | h
    · omega
    · have : (z + p + q) * (z + p + q) ≤ 4 * 4 := Nat.mul_le_mul c c
      omega
  · rw [if_neg c]
    rcases key with h | h
    · have : 4 * (z + p + q) ≤ (z + p + q) * (z + p + q) := Nat.mul_le_mul_right _ (by omega)
      omega
    · omega
theorem cnt3 (k : Nat) : ∀ l : List Ln, (l.filter fun a => decide (co a k = 0)).length + (l.filter fun a => decide (0 < co a k)).length + (l.filter fun a => decide (co a k < 0)).length = l.length
  | [] => rfl
  | c :: l => by
    have ih := cnt3 k l
    simp only [List.filter_cons, List.length_cons]
    rcases (show co c k < 0 ∨ co c k = 0 ∨ 0 < co c k by grind) with g | g | g
    · rw [decide_eq_false (show ¬ co c k = 0 by grind), decide_eq_false (show ¬ 0 < co c k by grind), decide_eq_true g]
      simp only [if_true, Bool.false_eq_true, if_false, List.length_cons]; omega
    · rw [decide_eq_true g, decide_eq_false (show ¬ 0 < co c k by grind), decide_eq_false (show ¬ co c k < 0 by grind)]
      simp only [if_true, Bool.false_eq_true, if_false, List.length_cons]; omega
    · rw [decide_eq_false (show ¬ co c k = 0 by grind), decide_eq_true g, decide_eq_false (show ¬ co c k < 0 by grind)]
      simp only [if_true, Bool.false_eq_true, if_false, List.length_cons]; omega
def wr (l : List Ln) (k : Nat) (a : Ln) (l2 : List Ln) : List Ln := (l2.filter fun b => decide (0 < co a k ∧ co b k < 0)).map fun b => cmb a (-co b k) b (co a k)
theorem wo_eq (l : List Ln) (k : Nat) : wo l k = l.filter (fun a => decide (co a k = 0)) ++ l.flatMap fun a => wr l k a l := rfl
theorem wr_len (l : List Ln) (k : Nat) (a : Ln) : (wr l k a l).length = if 0 < co a k then (l.filter fun a => decide (co a k < 0)).length else 0 := by
  unfold wr
  rw [List.length_map]
  by_cases c : 0 < co a k
  · rw [if_pos c]; congr 2; funext b; simp [c]
  · rw [if_neg c]; simp [c]
theorem fm_len (l : List Ln) (k : Nat) : ∀ l1 : List Ln, (l1.flatMap fun a => wr l k a l).length = (l1.filter fun a => decide (0 < co a k)).length * (l.filter fun a => decide (co a k < 0)).length
  | [] => by simp
  | c :: l1 => by
    rw [List.flatMap_cons, List.length_append, fm_len l k l1, wr_len, List.filter_cons]
    by_cases g : 0 < co c k
    · rw [if_pos g, decide_eq_true g]; simp only [if_true, List.length_cons]; grind
    · rw [if_neg g, decide_eq_false g]; simp
theorem wo_count (l : List Ln) (k : Nat) : (wo l k).length ≤ nb l.length := by
  rw [wo_eq, List.length_append, fm_len, ← cnt3 k l]
  exact nb_pq _ _ _
theorem nb_mono {a b : Nat} (h : a ≤ b) : nb a ≤ nb b := by
  unfold nb
  by_cases c : b ≤ 4
  · rw [if_pos (by omega), if_pos c]; omega
  · rw [if_neg c]
    by_cases c2 : a ≤ 4
    · rw [if_pos c2]
      have : 4 * 4 ≤ b * b := Nat.mul_le_mul (by omega) (by omega)
      omega
    · rw [if_neg c2]
      have : a * a ≤ b * b := Nat.mul_le_mul h h
      omega
def nbs (n : Nat) : Nat → Nat
  | 0 => n
  | k + 1 => nb (nbs n k)
def kbs (K : Nat) : Nat → Nat
  | 0 => K
  | k + 1 => 4 * kbs K k + 1
theorem nbs_mono {a b : Nat} (h : a ≤ b) : ∀ k, nbs a k ≤ nbs b k
  | 0 => h
  | k + 1 => nb_mono (nbs_mono h k)
theorem kbs_le {K : Nat} : ∀ {k j : Nat}, k ≤ j → kbs K k ≤ kbs K j
  | k, 0, h => by rw [show k = 0 by omega]; exact Nat.le_refl _
  | k, j + 1, h => by
    by_cases c : k = j + 1
    · rw [c]; exact Nat.le_refl _
    · have := kbs_le (K := K) (k := k) (j := j) (by omega)
      rw [kbs]; omega
theorem wos_count (l : List Ln) : ∀ k, (wos l k).length ≤ nbs l.length k
  | 0 => Nat.le_refl _
  | k + 1 => Nat.le_trans (wo_count _ _) (nb_mono (wos_count l k))
theorem take_filter {l : List Ln} {p : Ln → Bool} {i : Nat} (h : i < l.length) : (l.take (i + 1)).filter p = (l.take i).filter p ++ if p (l.getD i ([], 0)) = true then [l.getD i ([], 0)] else [] := by
  have e : l.getD i ([], 0) = l[i] := by simp [List.getD_eq_getElem?_getD, h]
  rw [e, List.take_succ_eq_append_getElem h, List.filter_append]
  congr 1
  simp only [List.filter_cons, List.filter_nil]
theorem take_flat {l : List Ln} {f : Ln → List Ln} {i : Nat} (h : i < l.length) : (l.take (i + 1)).flatMap f = (l.take i).flatMap f ++ f (l.getD i ([], 0)) := by
  have e : l.getD i ([], 0) = l[i] := by simp [List.getD_eq_getElem?_getD, h]
  rw [e, List.take_succ_eq_append_getElem h, List.flatMap_append]
  congr 1
  simp
theorem take_wr {l l2 : List Ln} {k i : Nat} {a : Ln} (h : i < l2.length) : wr l k a (l2.take (i + 1)) = wr l k a (l2.take i) ++ if 0 < co a k ∧ co (l2.getD i ([], 0)) k < 0 then [cmb a (-co (l2.getD i ([], 0)) k) (l2.getD i ([], 0)) (co a k)] else [] := by
  unfold wr
  rw [take_filter h, List.map_append]
  congr 1
  by_cases c : 0 < co a k ∧ co (l2.getD i ([], 0)) k < 0
  · rw [if_pos c, if_pos (decide_eq_true c)]; rfl
  · rw [if_neg c, if_neg (by simp only [decide_eq_true_eq]; exact c)]; rfl
end X
end Go.Proofs.YtaongbhamadlkaaGreat
namespace Go.Proofs.YtaongbhamadlkaaGreat
open W Go.RowKit
def LSq (K w : Nat) (L : List X.Ln) : Prop := ∀ c ∈ L, c.1.length = w ∧ (∀ k, k < w → Sq K (X.co c k)) ∧ Sq K c.2
section
variable {K w k i : Nat} {L L2 : List X.Ln}
theorem getD_ln (h : i < L.length) : L.getD i ([], 0) ∈ L := by simp [List.getD_eq_getElem?_getD, h]
theorem LSq.ca (h : LSq K w L) (hi : i < L.length) (hk : k < w) : Sq K (X.ca L i k) := (h _ (getD_ln hi)).2.1 k hk
theorem LSq.cb (h : LSq K w L) (hi : i < L.length) : Sq K (X.cb L i) := (h _ (getD_ln hi)).2.2
theorem LSq.len (h : LSq K w L) : ∀ c ∈ L, c.1.length = w := fun c hc => (h c hc).1
theorem LSq.up {K2 : Nat} (h : LSq K w L) (hk : K ≤ K2) : LSq K2 w L := fun c hc => ⟨(h c hc).1, fun k hk' => ((h c hc).2.1 k hk').up hk, (h c hc).2.2.up hk⟩
theorem LSq.wo (h : LSq K w L) (hk : k < w) : LSq (4 * K + 1) w (X.wo L k) := fun c hc => by
  rcases X.wo_mem.1 hc with ⟨h1, _⟩ | ⟨a, ha, b, hb, _, _, rfl⟩
  · obtain ⟨e1, e2, e3⟩ := h c h1
    exact ⟨e1, fun k hk => (e2 k hk).up (by omega), e3.up (by omega)⟩
  · obtain ⟨a1, a2, a3⟩ := h a ha
    obtain ⟨b1, b2, b3⟩ := h b hb
    have hl : a.1.length = b.1.length := by rw [a1, b1]
    refine ⟨by rw [X.cmb_len hl, a1], fun j hj => ?_, ?_⟩
    · rw [X.co_cmb hl]
      exact (((a2 j hj).mul (b2 k hk).neg).add ((b2 j hj).mul (a2 k hk))).up (by omega)
    · exact ((a3.mul (b2 k hk).neg).add (b3.mul (a2 k hk))).up (by omega)
theorem LSq.wos (h : LSq K w L) : ∀ k, k ≤ w → LSq (X.kbs K k) w (X.wos L k)
  | 0, _ => h
  | k + 1, hk => LSq.wo (LSq.wos h k (by omega)) (by omega)
end
theorem flat_take {α β : Type} (f : α → List β) (L : List α) (j : Nat) : ((L.take j).flatMap f).length ≤ (L.flatMap f).length := by
  have := congrArg (fun l => (l.flatMap f).length) (List.take_append_drop j L)
  simp only [List.flatMap_append, List.length_append] at this
  omega
namespace U
open Z
attribute [local irreducible] WC WL WD YO LO LoopEnd W.Fin Scalar SliceT FieldAt Row ArrT AllocT KnS Has W.One SrcE IntT
theorem d59 {G G' : Prop} (h : G') (s : Bx G' → G := by
  intro h
  first | (apply WC.draw (id := 14) [0, 1, 2, 3, 4, 5, 6, 7, 8, 9, 10, 11, 12, 14, 15, 16, 17, 18, 19, 20, 21, 22, 23, 24, 25] (.held 0 (.held 1 (.held 2 (.held 3 (.held 4 (.held 5 (.held 6 (.held 7 (.held 8 (.held 9 (.held 10 (.held 11 (.held 12 (.held 14 (.held 15 (.held 16 (.held 17 (.held 18 (.held 19 (.held 20 (.held 21 (.held 22 (.held 23 (.held 24 (.held 25 (.loud 13 (.loud 26 (.loud 27 (.loud 28 (.loud 29 (.done))))))))))))))))))))))))))))))) mixed (by kernel_rfl)) | fail
  exact Bx.h h) : G := s ⟨h⟩
structure WS where
  n : Nat
  sv : Value
  M : Pm
  l : List X.Ln
set_option maxHeartbeats 8000000 in
set_option maxRecDepth 60000 in
theorem without_c (M : Pm) (K w k : Nat) (L : List X.Ln) (hw : w ≤ 10000) (hk : k < w) (hL : LSq K w L) (hK : 4 * K + 1 ≤ 400000000) (hn : L.length ≤ 1000) : FnB Tryz.prog 59 [M.lv, .int .i64 (k : Int)] [] [fLn M w L] (IsLns w (X.wo L k)) := by
  refine fn_of [(0, M.lv), (1, (.int .i64 (k : Int)))] 96 Tryz.func59 rfl Tryz.ntmps59 (by kernel_rfl) rfl suA fun h0 => ?_
  refine WC.addNil 60 5 ?_
  have hnb : X.nb L.length ≤ 250000 := Nat.le_trans (X.nb_mono hn) (by decide)
  have hcnt : (X.wo L k).length ≤ 250000 := Nat.le_trans (X.wo_count L k) hnb
  rw [X.wo_eq] at hcnt ⊢
  repeat' (first | refine gB ?_ | (refine gH ?_; intro g) | (refine gW ?_; intro v) | refine gY ?_ | refine d59 ?_ | fail)
  refine WC.lp (σ := Nat × WS) (fun st => [(6, .int .i64 (st.1 : Int)), (0, M.lv), (1, .int .i64 (k : Int)), (5, st.2.sv)]) (fun st => [Ow.slice st.2.sv 60 5 (lncells st.2.n st.2.M)])
    (fun st => [lnQ st.2.M w st.2.l, ge h0, fLn M w L]) (fun st => st.1 ≤ L.length ∧ st.2.n = st.2.l.length ∧ st.2.l = (L.take st.1).filter fun a => decide (X.co a k = 0)) (fun st => L.length - st.1) (0, ⟨0, .slice none 0 0, Pm.no, []⟩) ⟨Nat.zero_le _, rfl, rfl⟩ ?_ (hG := .cons W.Has.lnn (.cons hmA (.cons hmA .nil)))
  rintro ⟨i, n, sv, N, l⟩ ⟨hi, hl, hs⟩
  simp only at hi hl hs ⊢
  by_cases c : i < L.length
  · have hst := X.take_filter (p := fun a => decide (X.co a k = 0)) c
    have hb : l.length ≤ 1000 := by
      rw [hs]; exact Nat.le_trans (List.length_filter_le _ _) (by rw [List.length_take]; omega)
    refine WC.fact (fF (M.av i) w (M.ma i) (X.ca L i)) (W.Has.lna (W.Has.lnq (M := M) hmA) c) ?_
    refine WC.fact (isQ (qv (M.ma i k)) (X.ca L i k)) (W.Has.q (W.Has.fm (v := M.av i) hmA) hk) ?_
    refine WC.fact (isQ (qv (M.mb i)) (X.cb L i)) (W.Has.lnb (W.Has.lnq (M := M) hmA) c) ?_
    have hz := @sgn_zero (X.ca L i k)
    repeat' (first | refine gB ?_ | (refine gH ?_; intro g) | (refine gW ?_; intro v) | refine gY ?_ | refine d59 ?_ | fail)
    first | refine WL.callV (Zn.rsign (M.ma i k) (X.ca L i k)) ?_ | refine WD.callV (Zn.rsign (M.ma i k) (X.ca L i k)) ?_
    by_cases cz : X.ca L i k = 0
    · have hz' := hz.2 cz
      rw [if_pos (decide_eq_true (p := X.co (L.getD i ([], 0)) k = 0) cz), ← hs] at hst
      repeat' (first | refine gB ?_ | (refine gH ?_; intro g) | (refine gW ?_; intro v) | refine gY ?_ | refine d59 ?_ | fail)
      exact LoopEnd.mk (i + 1, ⟨n + 1, _, N.app n (M.av i) (M.ma i) (M.mb i), l ++ [L.getD i ([], 0)]⟩) ⟨c, by rw [List.length_append, hl]; rfl, hst.symm⟩ (by show L.length - (i + 1) < L.length - i; omega)
        (hG := .cons (by subst hl; exact W.Has.lnapp hmA (L.getD i ([], 0)) (show Has _ (fF (M.av i) w (M.ma i) (X.ca L i)) from hmA) (show Has _ (isQ (qv (M.mb i)) (X.cb L i)) from hmA)) (.cons hmA (.cons hmA .nil)))
    · have hz' : ¬ sgn (X.ca L i k).num = 0 := fun h => cz (hz.1 h)
      rw [if_neg (by rw [decide_eq_true_eq]; exact cz), List.append_nil, ← hs] at hst
      repeat' (first | refine gB ?_ | (refine gH ?_; intro g) | (refine gW ?_; intro v) | refine gY ?_ | refine d59 ?_ | fail)
      exact LoopEnd.mk (i + 1, ⟨n, _, _, l⟩) ⟨c, hl, hst.symm⟩ (by show L.length - (i + 1) < L.length - i; omega)
  · obtain rfl : i = L.length := by omega
    rw [List.take_length] at hs
    rw [← hs] at hcnt ⊢
    clear hi c
    repeat' (first | refine gB ?_ | (refine gH ?_; intro g) | (refine gW ?_; intro v) | refine gY ?_ | refine d59 ?_ | fail)
    have hl2 : n = l.length := hl
    refine WC.lp (σ := Nat × WS) (fun st => [(7, .int .i64 (st.1 : Int)), (0, M.lv), (1, .int .i64 (k : Int)), (5, st.2.sv)]) (fun st => [Ow.slice st.2.sv 60 5 (lncells st.2.n st.2.M)])
      (fun st => [lnQ st.2.M w st.2.l, ge h0, fLn M w L]) (fun st => st.1 ≤ L.length ∧ st.2.n = st.2.l.length ∧ st.2.l = l ++ (L.take st.1).flatMap fun a => X.wr L k a L) (fun st => L.length - st.1) (0, ⟨n, sv, N, l⟩) ⟨Nat.zero_le _, hl, by simp⟩ ?_
    rintro ⟨i, n, sv, N, l1⟩ ⟨hi, hl, hs⟩
    simp only at hi hl hs ⊢
    by_cases c : i < L.length
    · have hst := X.take_flat (f := fun a => X.wr L k a L) c
      have hb1 : (l ++ (L.take (i + 1)).flatMap fun a => X.wr L k a L).length ≤ 250000 := by
        refine Nat.le_trans ?_ hcnt
        rw [List.length_append, List.length_append]
        have := flat_take (fun a => X.wr L k a L) L (i + 1)
        omega
      rw [hst, ← List.append_assoc, ← hs] at hb1
      refine WC.fact (fF (M.av i) w (M.ma i) (X.ca L i)) (W.Has.lna (W.Has.lnq (M := M) hmA) c) ?_
      refine WC.fact (isQ (qv (M.ma i k)) (X.ca L i k)) (W.Has.q (W.Has.fm (v := M.av i) hmA) hk) ?_
      refine WC.fact (isQ (qv (M.mb i)) (X.cb L i)) (W.Has.lnb (W.Has.lnq (M := M) hmA) c) ?_
      repeat' (first | refine gB ?_ | (refine gH ?_; intro g) | (refine gW ?_; intro v) | refine gY ?_ | refine d59 ?_ | fail)
      refine WC.lp (σ := Nat × WS) (fun st => [(8, .int .i64 (st.1 : Int)), (7, .int .i64 (i : Int)), (0, M.lv), (1, .int .i64 (k : Int)), (5, st.2.sv)]) (fun st => [Ow.slice st.2.sv 60 5 (lncells st.2.n st.2.M)])
        (fun st => [lnQ st.2.M w st.2.l, isQ (qv (M.mb i)) (X.cb L i), isQ (qv (M.ma i k)) (X.ca L i k), fF (M.av i) w (M.ma i) (X.ca L i), ge h0, fLn M w L]) (fun st => st.1 ≤ L.length ∧ st.2.n = st.2.l.length ∧ st.2.l = l1 ++ X.wr L k (L.getD i ([], 0)) (L.take st.1)) (fun st => L.length - st.1) (0, ⟨n, sv, N, l1⟩) ⟨Nat.zero_le _, hl, by simp [X.wr]⟩ ?_
      rintro ⟨j, n, sv, N, l2⟩ ⟨hj, hl, hs2⟩
      simp only at hj hl hs2 ⊢
      by_cases d : j < L.length
      · have hst2 := X.take_wr (l := L) (l2 := L) (k := k) (a := L.getD i ([], 0)) d
        have hb2 : l2.length ≤ 250000 := by
          refine Nat.le_trans ?_ hb1
          rw [hs2, List.length_append, List.length_append]
          have : (X.wr L k (L.getD i ([], 0)) (L.take j)).length ≤ (X.wr L k (L.getD i ([], 0)) L).length := by
            unfold X.wr
            rw [List.length_map, List.length_map]
            exact (List.Sublist.filter _ (List.take_sublist j L)).length_le
          omega
        refine WC.fact (fF (M.av j) w (M.ma j) (X.ca L j)) (W.Has.lna (W.Has.lnq (M := M) hmA) d) ?_
        refine WC.fact (isQ (qv (M.ma j k)) (X.ca L j k)) (W.Has.q (W.Has.fm (v := M.av j) hmA) hk) ?_
        refine WC.fact (isQ (qv (M.mb j)) (X.cb L j)) (W.Has.lnb (W.Has.lnq (M := M) hmA) d) ?_
        have hp := @sgn_pos (X.ca L i k)
        have hn := @sgn_neg (X.ca L j k)
        repeat' (first | refine gB ?_ | (refine gH ?_; intro g) | (refine gW ?_; intro v) | refine gY ?_ | refine d59 ?_ | fail)
        first | refine WL.callV (Zn.rsign (M.ma i k) (X.ca L i k)) ?_ | refine WD.callV (Zn.rsign (M.ma i k) (X.ca L i k)) ?_
        by_cases cp : 0 < X.ca L i k
        · have cp' := hp.2 cp
          repeat' (first | refine gB ?_ | (refine gH ?_; intro g) | (refine gW ?_; intro v) | refine gY ?_ | refine d59 ?_ | fail)
          first | refine WL.callV (Zn.rsign (M.ma j k) (X.ca L j k)) ?_ | refine WD.callV (Zn.rsign (M.ma j k) (X.ca L j k)) ?_
          by_cases cn : X.ca L j k < 0
          · have cn' := hn.2 cn
            rw [if_pos (show 0 < X.co (L.getD i ([], 0)) k ∧ X.co (L.getD j ([], 0)) k < 0 from ⟨cp, cn⟩)] at hst2
            have hst3 : l2 ++ [X.cmb (L.getD i ([], 0)) (-X.co (L.getD j ([], 0)) k) (L.getD j ([], 0)) (X.co (L.getD i ([], 0)) k)] = l1 ++ X.wr L k (L.getD i ([], 0)) (L.take (j + 1)) := by rw [hst2, ← List.append_assoc, ← hs2]
            have hll : (L.getD i ([], 0)).1.length = (L.getD j ([], 0)).1.length := by rw [hL.len _ (getD_ln c), hL.len _ (getD_ln d)]
            repeat' (first | refine gB ?_ | (refine gH ?_; intro g) | (refine gW ?_; intro v) | refine gY ?_ | refine d59 ?_ | fail)
            first | refine WL.callK (Zn.rneg (M.ma j k) (X.ca L j k)) ?_ | refine WD.callK (Zn.rneg (M.ma j k) (X.ca L j k)) ?_ | refine LO.callM (Zn.rneg (M.ma j k) (X.ca L j k)) ?_
            rintro _ _ _ ⟨mn, rfl, rfl, rfl⟩
            simp only [List.nil_append, List.cons_append]
            repeat' (first | refine gB ?_ | (refine gH ?_; intro g) | (refine gW ?_; intro v) | refine gY ?_ | refine d59 ?_ | fail)
            refine WD.callK (combined_c (M.av i) (M.av j) w K (M.ma i) (M.ma j) (X.ca L i) (X.ca L j) (M.mb i) (M.mb j) mn (M.ma i k) (X.cb L i) (X.cb L j) (-X.ca L j k) (X.ca L i k) hw hK (fun q hq => hL.ca c hq) (fun q hq => hL.ca d hq) (hL.cb c) (hL.cb d) (hL.ca d hk).neg (hL.ca c hk)) ?_
            rintro _ _ _ ⟨av, ma, mb, rfl, rfl, rfl⟩
            simp only [List.nil_append, List.cons_append]
            refine WD.fact (lnQ (N.app n av ma mb) w (l2 ++ [X.cmb (L.getD i ([], 0)) (-X.co (L.getD j ([], 0)) k) (L.getD j ([], 0)) (X.co (L.getD i ([], 0)) k)])) (by
              subst hl
              refine W.Has.lnapp hmA _ ?_ (show Has _ (isQ (qv mb) (X.cb L i * -X.ca L j k + X.cb L j * X.ca L i k)) from hmA)
              rw [show X.co (X.cmb (L.getD i ([], 0)) (-X.co (L.getD j ([], 0)) k) (L.getD j ([], 0)) (X.co (L.getD i ([], 0)) k)) = fun q => X.ca L i q * -X.ca L j k + X.ca L j q * X.ca L i k from funext fun q => X.co_cmb hll q]
              exact hmA) ?_
            repeat' (first | refine gB ?_ | (refine gH ?_; intro g) | (refine gW ?_; intro v) | refine gY ?_ | refine d59 ?_ | fail)
            exact LoopEnd.mk (j + 1, ⟨n + 1, _, _, _⟩) ⟨d, by rw [List.length_append, hl]; rfl, hst3⟩ (by show L.length - (j + 1) < L.length - j; omega)
          · have cn' : ¬ sgn (X.ca L j k).num < 0 := fun h => cn (hn.1 h)
            rw [if_neg (show ¬ (0 < X.co (L.getD i ([], 0)) k ∧ X.co (L.getD j ([], 0)) k < 0) from fun h => cn h.2), List.append_nil] at hst2
            repeat' (first | refine gB ?_ | (refine gH ?_; intro g) | (refine gW ?_; intro v) | refine gY ?_ | refine d59 ?_ | fail)
            exact LoopEnd.mk (j + 1, ⟨n, _, _, _⟩) ⟨d, hl, by rw [hst2]; exact hs2⟩ (by show L.length - (j + 1) < L.length - j; omega)
        · have cp' : ¬ 0 < sgn (X.ca L i k).num := fun h => cp (hp.1 h)
          rw [if_neg (show ¬ (0 < X.co (L.getD i ([], 0)) k ∧ X.co (L.getD j ([], 0)) k < 0) from fun h => cp h.1), List.append_nil] at hst2
          repeat' (first | refine gB ?_ | (refine gH ?_; intro g) | (refine gW ?_; intro v) | refine gY ?_ | refine d59 ?_ | fail)
          exact LoopEnd.mk (j + 1, ⟨n, _, _, _⟩) ⟨d, hl, by rw [hst2]; exact hs2⟩ (by show L.length - (j + 1) < L.length - j; omega)
      · obtain rfl : j = L.length := by omega
        rw [List.take_length] at hs2
        repeat' (first | refine gB ?_ | (refine gH ?_; intro g) | (refine gW ?_; intro v) | refine gY ?_ | refine d59 ?_ | fail)
        exact LoopEnd.mk (i + 1, ⟨n, _, _, l2⟩) ⟨c, hl, by rw [hst, ← List.append_assoc, ← hs]; exact hs2⟩ (by show L.length - (i + 1) < L.length - i; omega)
    · obtain rfl : i = L.length := by omega
      rw [List.take_length] at hs
      rw [← hs]
      subst hl
      repeat' (first | refine gB ?_ | (refine gH ?_; intro g) | (refine gW ?_; intro v) | refine gY ?_ | refine d59 ?_ | fail)
      refine WC.freezeLn sv N w l1 (by repeat (first | exact Sel.head | apply Sel.tail)) hmA ?_
      refine WC.ret ?_
      exact Fin.p [] [fLn (N.at sv) w l1] (ResE.t1 rfl rfl) meA (List.nil_sublist _) haA ⟨N.at sv, rfl, rfl, rfl⟩
end U
end Go.Proofs.YtaongbhamadlkaaGreat
namespace Go.Proofs.YtaongbhamadlkaaGreat
open W Go.RowKit
theorem ResE.tC {P : Program} {e : Env} {bx : List Ow} {F : List Fct} {fn : Func} {t s : Tmp} {ty : TypeId} {g tg m : Nat} {cs : List Value} {u : Value} (h : fn.results = #[.tmp s, .cell t ty]) (hl2 : W.look e s = some u) (hl : W.look e t = some (.pointer (some ⟨g, 0, none⟩))) (hb : Ow.cells g tg cs ∈ bx) (hr : Row P ty m) (hm : cs.length = m) : ResE P fn e bx F (.tuple #[u, .agg cs.toArray]) := fun n fr a w hk ho => by
  obtain ⟨⟨d, hu, hd⟩, hi⟩ := hr
  have h1 : a.tmps[t]?.getD undef = .pointer (some ⟨g, 0, none⟩) := by rw [hk.at' _ _ hl]; rfl
  have h2 := run_loadVar_mid (P := P) w g 0 ty cs d (fun i v hv => by rw [Nat.zero_add, own_cell (ho.owns _ hb)]; exact hv) hu hd (by rw [hi]; simp [hm])
  have h3 : a.tmps[s]?.getD undef = u := by rw [hk.at' _ _ hl2]; rfl
  simp only [results, h]
  simp [h1, asAddr, h2, h3]
theorem all_cb {l : List X.Ln} : (l.all fun c => decide (0 ≤ c.2)) = true ↔ ∀ i, i < l.length → 0 ≤ X.cb l i := by
  rw [List.all_eq_true]
  constructor
  · intro h i hi
    exact of_decide_eq_true (h _ (getD_ln hi))
  · intro h c hc
    obtain ⟨i, hi, rfl⟩ := List.mem_iff_getElem.1 hc
    have := h i hi
    unfold X.cb at this
    rw [List.getD_eq_getElem?_getD, List.getElem?_eq_getElem hi] at this
    exact decide_eq_true this
def IsKV (r : Int × Rat) : RPost := fun v B G => ∃ m, v = .tuple #[.int .i64 r.1, qv m] ∧ B = [] ∧ G = [isQ (qv m) r.2]
structure FMok (w n K : Nat) : Prop where
  n : ∀ k, k ≤ w → X.nbs n k ≤ 1000
  k : 2 * X.kbs K w ≤ 400000000
theorem FMok.at {w n K : Nat} (h : FMok w n K) {k : Nat} (hk : k < w) : 4 * X.kbs K k + 1 ≤ 400000000 := by
  have h1 := X.kbs_le (K := K) (show k + 1 ≤ w by omega)
  have h2 := h.k
  rw [X.kbs] at h1
  omega
namespace U
open Z
attribute [local irreducible] WC WL WD YO LO LoopEnd W.Fin Scalar SliceT FieldAt Row ArrT AllocT KnS Has W.One SrcE IntT
set_option maxHeartbeats 4000000 in
set_option maxRecDepth 60000 in
theorem feasible_c (M : Pm) (K w : Nat) (L : List X.Ln) (hw : w ≤ 10000) (hL : LSq K w L) (hf : FMok w L.length K) : FnB Tryz.prog 57 [M.lv, .int .i64 (w : Int)] [] [fLn M w L] (IsV (.bool (X.feasP L w))) := by
  refine fn_of [(0, M.lv), (1, (.int .i64 (w : Int)))] 28 Tryz.func57 rfl Tryz.ntmps57 (by kernel_rfl) rfl suA fun h0 => ?_
  repeat' (first | refine gA ?_ | (refine goG ?_; intro g) | (refine goV ?_; intro v))
  refine WC.lp (σ := Nat × Pm) (fun st => [(5, .int .i64 (st.1 : Int)), (0, st.2.lv), (1, .int .i64 (w : Int))]) (fun _ => []) (fun st => [ge h0, fLn st.2 w (X.wos L st.1)]) (fun st => st.1 ≤ w) (fun st => w - st.1) (0, M) (Nat.zero_le _) ?_
  rintro ⟨k, N⟩ hk
  simp only at hk ⊢
  have hlen := Nat.le_trans (X.wos_count L k) (hf.n k hk)
  by_cases c : k < w
  · repeat' (first | refine gA ?_ | (refine goG ?_; intro g) | (refine goV ?_; intro v))
    refine WL.callK (without_c N (X.kbs K k) w k (X.wos L k) hw c (hL.wos k hk) (hf.at c) hlen) ?_
    rintro _ _ _ ⟨N2, rfl, rfl, rfl⟩
    simp only [List.nil_append, List.cons_append]
    repeat' (first | refine gA ?_ | (refine goG ?_; intro g) | (refine goV ?_; intro v))
    exact LoopEnd.mk (k + 1, N2) (by show k + 1 ≤ w; omega) (by show w - (k + 1) < w - k; omega) (hG := .cons hmA (.cons (show Has _ (fLn N2 w (X.wo (X.wos L k) k)) from hmA) .nil))
  · obtain rfl : k = w := by omega
    have hfe : X.feasP L k = (X.wos L k).all fun c => decide (0 ≤ c.2) := rfl
    have hW := hL.wos k (Nat.le_refl _)
    rw [hfe]
    generalize X.wos L k = Wl at *
    repeat' (first | refine gA ?_ | (refine goG ?_; intro g) | (refine goV ?_; intro v))
    refine WC.lp (σ := Nat) (fun i => [(6, .int .i64 (i : Int)), (0, N.lv)]) (fun _ => []) (fun _ => [ge h0, fLn N k Wl]) (fun i => i ≤ Wl.length ∧ ∀ j, j < i → 0 ≤ X.cb Wl j) (fun i => Wl.length - i) 0 ⟨Nat.zero_le _, fun j hj => by omega⟩ ?_
    rintro i ⟨hi, ha⟩
    by_cases ci : i < Wl.length
    · refine WC.fact (isQ (qv (N.mb i)) (X.cb Wl i)) (W.Has.lnb (W.Has.lnq (M := N) hmA) ci) ?_
      have hs := @sgn_neg (X.cb Wl i)
      repeat' (first | refine gA ?_ | (refine goG ?_; intro g) | (refine goV ?_; intro v))
      first | refine WL.callV (Zn.rsign (N.mb i) (X.cb Wl i)) ?_ | refine WD.callV (Zn.rsign (N.mb i) (X.cb Wl i)) ?_
      by_cases cn : X.cb Wl i < 0
      · have cn' := hs.2 cn
        repeat' (first | refine gA ?_ | (refine goG ?_; intro g) | (refine goV ?_; intro v))
        refine WC.ret ?_
        exact Fin.v (ResE.t1 rfl rfl) meA (by
          congr 1; symm
          exact Bool.eq_false_iff.2 fun h => by have := all_cb.1 h i ci; grind)
      · have cn' : ¬ sgn (X.cb Wl i).num < 0 := fun h => cn (hs.1 h)
        repeat' (first | refine gA ?_ | (refine goG ?_; intro g) | (refine goV ?_; intro v))
        exact LoopEnd.mk (i + 1) ⟨ci, fun j hj => by
          by_cases e : j = i
          · subst e; grind
          · exact ha j (by omega)⟩ (by show Wl.length - (i + 1) < Wl.length - i; omega)
    · obtain rfl : i = Wl.length := by omega
      repeat' (first | refine gA ?_ | (refine goG ?_; intro g) | (refine goV ?_; intro v))
      refine WC.ret ?_
      exact Fin.v (ResE.t1 rfl rfl) meA (by rw [all_cb.2 ha])
end U
end Go.Proofs.YtaongbhamadlkaaGreat
namespace Go.Proofs.YtaongbhamadlkaaGreat
open W Go.RowKit
theorem co_snoc {c : List Rat} {v : Nat} (h : c.length = v) (q b : Rat) {f : Nat → Rat} (hf : ∀ k, k < v → c.getD k 0 = f k) (j : Nat) (hj : j < v + 1) : upd f v q j = X.co (c ++ [q], b) j := by
  unfold X.co upd
  simp only [List.getD_eq_getElem?_getD] at *
  by_cases e : j = v
  · subst e; subst h; simp
  · rw [if_neg e, List.getElem?_append_left (by omega)]
    exact (hf j (by omega)).symm
def glA (L : List X.Ln) : List X.Ln := L.map fun c => (c.1 ++ [0], c.2)
theorem glA_take {L : List X.Ln} {i : Nat} (h : i < L.length) : glA (L.take (i + 1)) = glA (L.take i) ++ [((L.getD i ([], 0)).1 ++ [0], X.cb L i)] := by
  have e : L.getD i ([], 0) = L[i] := by simp [List.getD_eq_getElem?_getD, h]
  unfold glA X.cb
  rw [e, List.take_succ_eq_append_getElem h, List.map_append]; rfl
theorem gl_eq (L : List X.Ln) (g : List Rat) : X.gl L g = glA L ++ [(g.map (fun q => q * (-1)) ++ [1], 0)] := rfl
theorem gl_sq {K v : Nat} {L : List X.Ln} {g : Nat → Rat} (hL : LSq K v L) (hg : ∀ k, k < v → Sq K (g k)) (hK : 0 < K) : LSq K (v + 1) (X.gl L (X.goalL v g)) := fun c hc => by
  rw [gl_eq] at hc
  rcases List.mem_append.1 hc with h | h
  · obtain ⟨d, hd, rfl⟩ := List.mem_map.1 h
    obtain ⟨h1, h2, h3⟩ := hL d hd
    refine ⟨by simp [h1], fun k hk => ?_, h3⟩
    rw [← co_snoc h1 0 _ (f := X.co d) (fun _ _ => rfl) k hk]
    unfold upd
    split
    · exact Sq.zero.up hK
    · exact h2 k (by omega)
  · rw [List.mem_singleton.1 h]
    have hl : ((X.goalL v g).map fun q => q * (-1)).length = v := by simp [X.goalL]
    refine ⟨by simp [X.goalL], fun k hk => ?_, Sq.zero.up hK⟩
    rw [← co_snoc hl 1 _ (f := fun k => g k * (-1)) (fun k hk => by simp [X.goalL, hk]) k hk]
    unfold upd
    split
    · exact X.sq_one.up hK
    · show Sq K (g k * (-1))
      rw [show g k * (-1) = -g k by grind]; exact (hg k (by omega)).neg
def got : Option Rat → Rat
  | none => 0
  | some q => q
theorem fold_take {v : Nat} {l : List X.Ln} {i : Nat} (h : i < l.length) : (l.take (i + 1)).foldl (X.mnS v) none = X.mnS v ((l.take i).foldl (X.mnS v) none) (l.getD i ([], 0)) := by
  have e : l.getD i ([], 0) = l[i] := by simp [List.getD_eq_getElem?_getD, h]
  rw [e, List.take_succ_eq_append_getElem h, List.foldl_append]; rfl
def bo (v : Nat) (l : List X.Ln) (i : Nat) : Option Rat := (l.take i).foldl (X.mnS v) none
theorem bo_up {v : Nat} {l : List X.Ln} {i : Nat} (h : i < l.length) : bo v l (i + 1) = if X.ca l i v ≤ 0 then bo v l i else match bo v l i with
  | none => some (X.cb l i / X.ca l i v)
  | some q => if X.cb l i / X.ca l i v < q then some (X.cb l i / X.ca l i v) else some q := fold_take h
theorem mnS_k {v K : Nat} {l : List X.Ln} (hl : ∀ i, i < l.length → Sq K (X.ca l i v) ∧ Sq K (X.cb l i)) (hK : 0 < K) : ∀ i, i ≤ l.length → Sq (2 * K) (got (bo v l i))
  | 0, _ => Sq.zero.up (by omega)
  | i + 1, hi => by
    have ih := mnS_k hl hK i (by omega)
    have hd : Sq (2 * K) ((l.getD i ([], 0)).2 / X.co (l.getD i ([], 0)) v) := (Sq.div hK (hl i (by omega)).2 (hl i (by omega)).1).up (by omega)
    rw [bo_up (by omega)]
    have hd' : Sq (2 * K) (X.cb l i / X.ca l i v) := hd
    generalize bo v l i = o at ih ⊢
    split
    · exact ih
    · cases o with
      | none => exact hd'
      | some q =>
        simp only
        split
        · exact hd'
        · exact ih
namespace U
open Z
attribute [local irreducible] WC WL WD YO LO LoopEnd W.Fin Scalar SliceT FieldAt Row ArrT AllocT KnS Has W.One SrcE IntT
theorem d13 {G G' : Prop} (h : G') (s : Bx G' → G := by
  intro h
  first | (apply WC.draw (id := 8) [0, 1, 2, 3, 4, 5, 6, 7, 9, 12, 13, 14, 15, 16, 17] (.held 0 (.held 1 (.held 2 (.held 3 (.held 4 (.held 5 (.held 6 (.held 7 (.held 9 (.held 12 (.held 13 (.held 14 (.held 15 (.held 16 (.held 17 (.more 8 (.loud 10 (.loud 11 (.loud 18 (.loud 19 (.loud 20 (.loud 21 (.done))))))) (.loud 10 (.loud 8 (.loud 11 (.loud 18 (.loud 19 (.loud 20 (.loud 21 (.done)))))))))))))))))))))))) mixed (by kernel_rfl)) | (apply WC.draw (id := 9) [0, 1, 2] (.held 0 (.held 1 (.held 2 (.loud 3 (.loud 4 (.loud 5 (.loud 6 (.loud 7 (.loud 8 (.loud 9 (.loud 10 (.loud 11 (.done))))))))))))) mixed (by kernel_rfl)) | (apply WC.draw (id := 19) [0, 1, 2, 3, 4, 5, 6, 7, 8] (.held 0 (.held 1 (.held 2 (.held 3 (.held 4 (.held 5 (.held 6 (.held 7 (.held 8 (.loud 9 (.loud 10 (.done)))))))))))) mixed (by kernel_rfl)) | (apply WC.draw (id := 21) [0, 1, 2, 3, 4, 5] (.held 0 (.held 1 (.held 2 (.held 3 (.held 4 (.held 5 (.more 6 (.loud 7 (.loud 8 (.done))) (.loud 7 (.loud 6 (.loud 8 (.done))))))))))) mixed (by kernel_rfl)) | (apply WC.draw (id := 27) [0, 1] (.held 0 (.held 1 (.loud 2 (.done)))) mixed (by kernel_rfl)) | fail
  exact Bx.h h) : G := s ⟨h⟩
structure BS where
  n : Nat
  sv : Value
  M : Pm
set_option maxHeartbeats 8000000 in
set_option maxRecDepth 60000 in
theorem best_c (M : Pm) (K vn : Nat) (L : List X.Ln) (gf : Nat → Rat) (hv : vn ≤ 48) (hL : LSq K vn L) (hg : ∀ k, k < vn → Sq K (gf k)) (hK : 0 < K) (hf : FMok vn (L.length + 1) K) : FnB Tryz.prog 13 [pgv M vn] [] [fP M (X.lpOf vn L gf)] (IsKV (X.bestP vn L (X.goalL vn gf))) := by
  refine fn_of [(0, (pgv M vn))] 106 Tryz.func13 rfl Tryz.ntmps13 (by kernel_rfl) rfl suA fun h0 => ?_
  have hLl : L.length ≤ 1000 := by have := hf.n 0 (Nat.zero_le _); rw [X.nbs] at this; omega
  have hf0 : FMok vn L.length K := ⟨fun k hk => Nat.le_trans (X.nbs_mono (by omega) k) (hf.n k hk), hf.k⟩
  have hKb := hf.k
  have hKs : K ≤ X.kbs K vn := X.kbs_le (k := 0) (Nat.zero_le _)
  refine WC.fact (fLn M vn L) (W.Has.pL (g := gf) hmA) ?_
  refine WC.fact (fF M.gv vn M.mg gf) (W.Has.pG (L := L) hmA) ?_
  refine WC.fact (isQ (qv m00) 0) hasQ0 ?_
  refine WC.addNil 60 5 ?_
  repeat' (first | refine gM ?_ | (refine gI ?_; intro g) | (refine gU ?_; intro v) | refine gN ?_ ?_ | refine gY ?_ | refine d13 ?_ | fail)
  rename_i g1
  revert g; intro g3
  first | refine WL.callV (feasible_c M K vn L (by omega) hL hf0) ?_ | refine WD.callV (feasible_c M K vn L (by omega) hL hf0) ?_
  cases hfe : X.feasP L vn with
  | false =>
    have hb : X.bestP vn L (X.goalL vn gf) = (1, 0) := by unfold X.bestP; rw [hfe]; rfl
    rw [hb]
    repeat' (first | refine gM ?_ | (refine gI ?_; intro g) | (refine gU ?_; intro v) | refine gN ?_ ?_ | refine gY ?_ | refine d13 ?_ | fail)
    refine WC.ret ?_
    exact Fin.p [] [isQ (qv m00) 0] (ResE.tC rfl rfl rfl meA T.r31 rfl) meA (List.nil_sublist _) haA ⟨m00, rfl, rfl, rfl⟩
  | true =>
    have hb : X.bestP vn L (X.goalL vn gf) = (match X.bestV L (X.goalL vn gf) vn with | none => (2, 0) | some z => (0, z)) := by unfold X.bestP; rw [hfe]; rfl
    rw [hb]
    repeat' (first | refine gM ?_ | (refine gI ?_; intro g) | (refine gU ?_; intro v) | refine gN ?_ ?_ | refine gY ?_ | refine d13 ?_ | fail)
    refine WC.lp (σ := Nat × BS) (fun st => [(5, .int .i64 (st.1 : Int)), (4, st.2.sv), (1, ptr g1), (3, ptr g3)]) (fun st => [Ow.cells g3 31 (qcs m00), Ow.cells g1 26 (pcs M vn), Ow.slice st.2.sv 60 5 (lncells st.2.n st.2.M)])
      (fun st => [lnQ st.2.M (vn + 1) (glA (L.take st.1)), isQ (qv m00) 0, fF M.gv vn M.mg gf, fLn M vn L, ge h0]) (fun st => st.1 ≤ L.length ∧ st.2.n = st.1) (fun st => L.length - st.1) (0, ⟨0, .slice none 0 0, Pm.no⟩) ⟨Nat.zero_le _, rfl⟩ ?_ (hG := .cons W.Has.lnn sfA)
    rintro ⟨i, n, sv, N⟩ ⟨hi, hn⟩
    simp only at hi hn ⊢
    subst hn
    by_cases c : n < L.length
    · have hst := glA_take c
      have hgl : (glA (L.take n)).length = n := by unfold glA; simp; omega
      have hlv := hL.len _ (getD_ln c)
      refine WC.fact (fF (M.av n) vn (M.ma n) (X.ca L n)) (W.Has.lna (W.Has.lnq (M := M) hmA) c) ?_
      refine WC.fact (isQ (qv (M.mb n)) (X.cb L n)) (W.Has.lnb (W.Has.lnq (M := M) hmA) c) ?_
      repeat' (first | refine gB ?_ | (refine gH ?_; intro g) | (refine gW ?_; intro v) | refine goYB ?_ | refine goYT ?_ | refine d13 ?_ | fail)
      refine WD.addNil 31 4 ?_
      repeat' (first | refine gM ?_ | (refine gI ?_; intro g) | (refine gU ?_; intro v) | refine gN ?_ ?_ | refine gY ?_ | refine d13 ?_ | fail)
      all_goals (
        refine WD.freezeF v (vn + 1) (upd (M.ma n) vn m00) (X.co ((L.getD n ([], 0)).1 ++ [0], X.cb L n)) (by repeat (first | exact Sel.head | apply Sel.tail)) (W.Has.mFsame (W.Has.mFapp (W.Has.fm (v := M.av n) (n := vn) (ms := M.ma n) (qf := X.ca L n) hmA) (z := 0) hmA) fun j hj => co_snoc hlv 0 _ (fun _ _ => rfl) j hj) ?_
        refine WD.fact (lnQ (N.app n v (upd (M.ma n) vn m00) (M.mb n)) (vn + 1) (glA (L.take (n + 1)))) (by
          have h := fun F h1 h2 h3 => W.Has.lnapp (F := F) (M := N) (w := vn + 1) (L := glA (L.take n)) (a := v) (ma := upd (M.ma n) vn m00) (b := M.mb n) h1 ((L.getD n ([], 0)).1 ++ [0], X.cb L n) h2 h3
          rw [hgl] at h
          rw [hst]
          exact h _ hmA hmA hmA) ?_
        repeat' (first | refine gM ?_ | (refine gI ?_; intro g) | (refine gU ?_; intro v) | refine gN ?_ ?_ | refine gY ?_ | refine d13 ?_ | fail)
        exact LoopEnd.mk (n + 1, ⟨n + 1, _, _⟩) ⟨c, rfl⟩ (by show L.length - (n + 1) < L.length - n; omega))
    · obtain rfl : n = L.length := by omega
      clear hi c
      rw [List.take_length]
      have hG := gl_sq hL hg hK
      have hgl : (X.gl L (X.goalL vn gf)).length = L.length + 1 := by unfold X.gl; simp
      have hga : (glA L).length = L.length := by unfold glA; simp
      repeat' (first | refine gM ?_ | (refine gI ?_; intro g) | (refine gU ?_; intro v) | refine gN ?_ ?_ | refine gY ?_ | refine d13 ?_ | fail)
      first | refine WL.callK (Zn.rof (-1) 1 (by decide) (by decide)) ?_ | refine WD.callK (Zn.rof (-1) 1 (by decide) (by decide)) ?_ | refine LO.callM (Zn.rof (-1) 1 (by decide) (by decide)) ?_
      rintro _ _ _ ⟨mm, rfl, rfl, rfl⟩
      simp only [List.nil_append, List.cons_append]
      rw [show Rat.divInt (-1) 1 = -1 by decide +kernel]
      repeat' (first | refine gM ?_ | (refine gI ?_; intro g) | (refine gU ?_; intro v) | refine gN ?_ ?_ | refine gY ?_ | refine d13 ?_ | fail)
      refine WD.callK (scaled_c M.gv vn M.mg gf mm (-1) (by omega) (fun k hk => (hg k hk).sm (by omega)) (X.sq_one.neg.sm (by omega))) ?_
      rintro v2 _ _ ⟨m2, rfl, rfl⟩
      simp only [List.nil_append, List.cons_append]
      repeat' (first | refine gM ?_ | (refine gI ?_; intro g) | (refine gU ?_; intro v) | refine gN ?_ ?_ | refine gY ?_ | refine d13 ?_ | fail)
      first | refine WL.callK (Zn.rof 1 1 (by decide) (by decide)) ?_ | refine WD.callK (Zn.rof 1 1 (by decide) (by decide)) ?_ | refine LO.callM (Zn.rof 1 1 (by decide) (by decide)) ?_
      rintro _ _ _ ⟨m1, rfl, rfl, rfl⟩
      simp only [List.nil_append, List.cons_append]
      rw [show Rat.divInt 1 1 = 1 by decide +kernel]
      repeat' (first | refine gM ?_ | (refine gI ?_; intro g) | (refine gU ?_; intro v) | refine gN ?_ ?_ | refine gY ?_ | refine d13 ?_ | fail)
      revert v; intro va
      refine WD.freezeF va (vn + 1) (upd m2 vn m1) (X.co ((X.goalL vn gf).map (fun q => q * (-1)) ++ [1], 0)) (by repeat (first | exact Sel.head | apply Sel.tail)) (W.Has.mFsame (W.Has.mFapp (n := vn) (ms := m2) (qf := fun k => gf k * (-1)) hmA (z := 1) hmA) fun j hj => co_snoc (by simp [X.goalL]) 1 _ (fun k hk => by simp [X.goalL, hk]) j hj) ?_
      refine WD.fact (lnQ (N.app L.length va (upd m2 vn m1) m00) (vn + 1) (X.gl L (X.goalL vn gf))) (by
        have h := fun F h1 h2 h3 => W.Has.lnapp (F := F) (M := N) (w := vn + 1) (L := glA L) (a := va) (ma := upd m2 vn m1) (b := m00) h1 ((X.goalL vn gf).map (fun q => q * (-1)) ++ [1], 0) h2 h3
        rw [hga] at h
        exact h _ hmA hmA hmA) ?_
      have hbv : X.bestV L (X.goalL vn gf) vn = bo vn (X.wos (X.gl L (X.goalL vn gf)) vn) (X.wos (X.gl L (X.goalL vn gf)) vn).length := by unfold bo; rw [List.take_length]; rfl
      have hfn := hf.n
      rw [← hgl] at hfn
      generalize X.gl L (X.goalL vn gf) = G at *
      repeat' (first | refine gM ?_ | (refine gI ?_; intro g) | (refine gU ?_; intro v) | refine gN ?_ ?_ | refine gY ?_ | refine d13 ?_ | fail)
      refine WC.freezeLn v (N.app L.length va (upd m2 vn m1) m00) (vn + 1) G (by rw [hgl]; repeat (first | exact Sel.head | apply Sel.tail)) hmA ?_
      refine WC.lp (σ := Nat × Pm) (fun st => [(7, .int .i64 (st.1 : Int)), (4, st.2.lv), (1, ptr g1), (3, ptr g3)]) (fun _ => [Ow.cells g3 31 (qcs m00), Ow.cells g1 26 (pcs M vn)])
        (fun st => [fLn st.2 (vn + 1) (X.wos G st.1), isQ (qv m00) 0, ge h0]) (fun st => st.1 ≤ vn) (fun st => vn - st.1) (0, (N.app L.length va (upd m2 vn m1) m00).at v) (Nat.zero_le _) ?_
      rintro ⟨k, Nk⟩ hk
      simp only at hk ⊢
      have hlen := Nat.le_trans (X.wos_count G k) (hfn k hk)
      by_cases ck : k < vn
      · repeat' (first | refine gM ?_ | (refine gI ?_; intro g) | (refine gU ?_; intro v) | refine gN ?_ ?_ | refine gY ?_ | refine d13 ?_ | fail)
        refine WL.callK (without_c Nk (X.kbs K k) (vn + 1) k (X.wos G k) (by omega) (by omega) (hG.wos k (by omega)) (hf.at ck) hlen) ?_
        rintro _ _ _ ⟨N2, rfl, rfl, rfl⟩
        simp only [List.nil_append, List.cons_append]
        repeat' (first | refine gM ?_ | (refine gI ?_; intro g) | (refine gU ?_; intro v) | refine gN ?_ ?_ | refine gY ?_ | refine d13 ?_ | fail)
        exact LoopEnd.mk (k + 1, N2) (by show k + 1 ≤ vn; omega) (by show vn - (k + 1) < vn - k; omega) (hG := .cons (show Has _ (fLn N2 (vn + 1) (X.wo (X.wos G k) k)) from hmA) sfA)
      · obtain rfl : k = vn := by omega
        have hW := hG.wos k (by omega)
        generalize X.wos G k = Wl at *
        have hWk : ∀ i, i < Wl.length → Sq (X.kbs K k) (X.ca Wl i k) ∧ Sq (X.kbs K k) (X.cb Wl i) := fun i hi => ⟨hW.ca hi (by omega), hW.cb hi⟩
        have hbk : ∀ i, i ≤ Wl.length → Sm (got (bo k Wl i)) := fun i hi => (mnS_k hWk (by omega) i hi).sm hKb
        repeat' (first | refine gM ?_ | (refine gI ?_; intro g) | (refine gU ?_; intro v) | refine gN ?_ ?_ | refine gY ?_ | refine d13 ?_ | fail)
        revert g; intro g9
        refine WC.lp (σ := Nat × QM) (fun st => [(10, .int .i64 (st.1 : Int)), (4, Nk.lv), (8, .bool (bo k Wl st.1).isSome), (9, ptr g9), (1, ptr g1), (3, ptr g3)]) (fun st => [Ow.cells g9 31 (qcs st.2), Ow.cells g3 31 (qcs m00), Ow.cells g1 26 (pcs M k)])
          (fun st => [isQ (qv st.2) (got (bo k Wl st.1)), fLn Nk (k + 1) Wl, isQ (qv m00) 0, ge h0]) (fun st => st.1 ≤ Wl.length) (fun st => Wl.length - st.1) (0, m00) (Nat.zero_le _) ?_
        rintro ⟨i, ml⟩ hi
        simp only at hi ⊢
        by_cases c : i < Wl.length
        · have hup := bo_up (v := k) c
          refine WC.fact (fF (Nk.av i) (k + 1) (Nk.ma i) (X.ca Wl i)) (W.Has.lna (W.Has.lnq (M := Nk) hmA) c) ?_
          refine WC.fact (isQ (qv (Nk.ma i k)) (X.ca Wl i k)) (W.Has.q (W.Has.fm (v := Nk.av i) hmA) (by omega)) ?_
          refine WC.fact (isQ (qv (Nk.mb i)) (X.cb Wl i)) (W.Has.lnb (W.Has.lnq (M := Nk) hmA) c) ?_
          repeat' (first | refine gM ?_ | (refine gI ?_; intro g) | (refine gU ?_; intro v) | refine gN ?_ ?_ | refine gY ?_ | refine d13 ?_ | fail)
          first | refine WL.callV (Zn.rsign (Nk.ma i k) (X.ca Wl i k)) ?_ | refine WD.callV (Zn.rsign (Nk.ma i k) (X.ca Wl i k)) ?_
          have hle := @le_iff (X.ca Wl i k)
          by_cases cs : X.ca Wl i k ≤ 0
          · have cs' := hle.2 cs
            rw [if_pos cs] at hup
            repeat' (first | refine gM ?_ | (refine gI ?_; intro g) | (refine gU ?_; intro v) | refine gN ?_ ?_ | refine gY ?_ | refine d13 ?_ | fail)
            exact LoopEnd.mk (i + 1, ml) (by show i + 1 ≤ Wl.length; omega) (by show Wl.length - (i + 1) < Wl.length - i; omega) (hE := by simp only [hup]; exact suA) (hG := by simp only [hup]; exact sfA)
          · have cs' : ¬ sgn (X.ca Wl i k).num ≤ 0 := fun h => cs (hle.1 h)
            rw [if_neg cs] at hup
            have hd : Sq (2 * X.kbs K k) (X.cb Wl i / X.ca Wl i k) := (Sq.div (by omega) (hWk i c).2 (hWk i c).1).up (by omega)
            repeat' (first | refine gA ?_ | (refine goG ?_; intro g) | (refine goV ?_; intro v))
            refine WC.cutP (σ := Nat × QM) (fun st => [(12, ptr st.1), (10, .int .i64 (i : Int)), (4, Nk.lv), (8, .bool (bo k Wl i).isSome), (9, ptr g9), (1, ptr g1), (3, ptr g3)]) (fun st => [Ow.cells st.1 31 (qcs st.2), Ow.cells g9 31 (qcs ml), Ow.cells g3 31 (qcs m00), Ow.cells g1 26 (pcs M k)])
              (fun st => [isQ (qv st.2) (X.cb Wl i / X.ca Wl i k), isQ (qv ml) (got (bo k Wl i)), fLn Nk (k + 1) Wl, isQ (qv m00) 0, ge h0]) (fun _ => True) ?_ ?_
            · repeat' (first | refine gM ?_ | (refine gI ?_; intro g) | (refine gU ?_; intro v) | refine gN ?_ ?_ | refine gY ?_ | refine d13 ?_ | fail | ((first | refine WL.callK (hv := ?hvQ) (Zn.rdiv (Nk.mb i) (Nk.ma i k) (X.cb Wl i) (X.ca Wl i k) ((hWk i c).2.sm (by omega)) ((hWk i c).1.sm (by omega))) ?_ | refine WD.callK (hv := ?hvQ) (Zn.rdiv (Nk.mb i) (Nk.ma i k) (X.cb Wl i) (X.ca Wl i k) ((hWk i c).2.sm (by omega)) ((hWk i c).1.sm (by omega))) ?_ | refine LO.callM (hv := ?hvQ) (Zn.rdiv (Nk.mb i) (Nk.ma i k) (X.cb Wl i) (X.ca Wl i k) ((hWk i c).2.sm (by omega)) ((hWk i c).1.sm (by omega))) ?_); (case hvQ => ((repeat (first | exact Evs.nil | (apply Evs.cons; exact rfl))); done)); rintro _ _ _ ⟨zm, rfl, rfl, rfl⟩; simp only [List.nil_append, List.cons_append]) | fail)
              all_goals (apply Ex2; refine ⟨trivial, ?_, ?_, ?_⟩; (focus (repeat (first | exact Sub.nil _ | refine Sub.cons rfl ?_))); (focus (repeat (first | exact SubP.nil _ | (apply SubP.cons; (repeat (first | exact Rem.head | apply Rem.tail)))))); (focus (repeat (first | exact HasAll.nil | (apply HasAll.cons; exact hsA)))))
            rintro ⟨g12, mq⟩ _
            simp only
            have hml := hbk i (by omega)
            cases ho : bo k Wl i with
            | none =>
              rw [ho] at hup
              simp only at hup
              repeat' (first | refine gM ?_ | (refine gI ?_; intro g) | (refine gU ?_; intro v) | refine gN ?_ ?_ | refine gY ?_ | refine d13 ?_ | fail)
              exact LoopEnd.mk (i + 1, mq) (by show i + 1 ≤ Wl.length; omega) (by show Wl.length - (i + 1) < Wl.length - i; omega) (hE := by simp only [hup]; exact suA) (hG := by simp only [hup]; exact sfA)
            | some q =>
              rw [ho] at hup hml
              simp only at hup
              repeat' (first | refine gM ?_ | (refine gI ?_; intro g) | (refine gU ?_; intro v) | refine gN ?_ ?_ | refine gY ?_ | refine d13 ?_ | fail)
              first | refine WL.callV (Zn.rcmp mq ml (X.cb Wl i / X.ca Wl i k) q (hd.sm (by omega)) hml) ?_ | refine WD.callV (Zn.rcmp mq ml (X.cb Wl i / X.ca Wl i k) q (hd.sm (by omega)) hml) ?_
              have hlt := @cmpQ_lt (X.cb Wl i / X.ca Wl i k) q
              by_cases cl : X.cb Wl i / X.ca Wl i k < q
              · have cl' := hlt.2 cl
                rw [if_pos cl] at hup
                repeat' (first | refine gM ?_ | (refine gI ?_; intro g) | (refine gU ?_; intro v) | refine gN ?_ ?_ | refine gY ?_ | refine d13 ?_ | fail)
                exact LoopEnd.mk (i + 1, mq) (by show i + 1 ≤ Wl.length; omega) (by show Wl.length - (i + 1) < Wl.length - i; omega) (hE := by simp only [hup]; exact suA) (hG := by simp only [hup]; exact sfA)
              · have cl' : ¬ cmpQ (X.cb Wl i / X.ca Wl i k) q < 0 := fun h => cl (hlt.1 h)
                rw [if_neg cl] at hup
                repeat' (first | refine gM ?_ | (refine gI ?_; intro g) | (refine gU ?_; intro v) | refine gN ?_ ?_ | refine gY ?_ | refine d13 ?_ | fail)
                exact LoopEnd.mk (i + 1, ml) (by show i + 1 ≤ Wl.length; omega) (by show Wl.length - (i + 1) < Wl.length - i; omega) (hE := by simp only [hup]; exact suA) (hG := by simp only [hup]; exact sfA)
        · obtain rfl : i = Wl.length := by omega
          cases ho : bo k Wl Wl.length with
          | none =>
            rw [ho] at hbv
            repeat' (first | refine gM ?_ | (refine gI ?_; intro g) | (refine gU ?_; intro v) | refine gN ?_ ?_ | refine gY ?_ | refine d13 ?_ | fail)
            refine WC.ret ?_
            exact Fin.p [] [isQ (qv m00) 0] (ResE.tC rfl rfl rfl meA T.r31 rfl) meA (List.nil_sublist _) haA ⟨m00, by rw [hbv]; rfl, rfl, by rw [hbv]⟩
          | some q =>
            rw [ho] at hbv
            repeat' (first | refine gM ?_ | (refine gI ?_; intro g) | (refine gU ?_; intro v) | refine gN ?_ ?_ | refine gY ?_ | refine d13 ?_ | fail)
            refine WC.ret ?_
            exact Fin.p [] [isQ (qv ml) q] (ResE.tC rfl rfl rfl meA T.r31 rfl) meA (List.nil_sublist _) haA ⟨ml, by rw [hbv], rfl, by rw [hbv]⟩
end U
end Go.Proofs.YtaongbhamadlkaaGreat
