/- Lemmas for the proof of a law: The run of the executor, over lists of lines too. Conditions: none. -/
import Derived.Test.YtaongbhamadlkaaGreatCo10
import Derived.Test.YtaongbhamadlkaaGreatCo2
import Derived.Shelf.SlGeneric
import Derived.Shelf.SortM.Plain
import Derived.Shelf.SortM.SortNone
import Derived.Ground.SlgmProg
import Derived.Shelf.Slices.CompactI
import Derived.Shelf.SlicesE.DeleteFunc
import Derived.RangeFuncBox
import Derived.OwnWalkIn
import Derived.TacticsInMore
import Derived.LoopNIn
import Derived.LoopIn
import Derived.Sort.Grow
set_option linter.unusedVariables false
set_option linter.unusedSimpArgs false
set_option linter.unusedSectionVars false
namespace Go.Proofs.YtaongbhamadlkaaGreat
open W Go.RowKit
attribute [local irreducible] WC WL WD YO LO LoopEnd W.Fin Scalar SliceT FieldAt Row ArrT AllocT KnS Has W.One SrcE IntT
namespace U
set_option maxRecDepth 60000
theorem t0A {G : Prop} (h : G := by first | (((first | exact T.f26_0 | exact T.f26_1 | exact T.f26_2 | exact T.f29_0 | exact T.f29_1 | exact T.f31_0 | exact T.f31_1 | exact T.f33_0 | exact T.f33_1 | exact T.f33_2 | exact T.f33_3 | exact T.f60_0 | exact T.f60_1 | exact T.f77_0 | exact T.f77_1 | exact T.f77_2 | exact T.f88_0 | exact T.f88_1 | exact T.f88_2 | exact T.f88_3 | exact T.f88_4 | exact T.f88_5 | exact T.f107_0 | exact T.f107_1 | exact T.f107_2 | exact T.f123_0 | exact T.f123_1 | exact T.f134_0 | exact T.f134_1)); done) | fail) : G := h
theorem t1A {G : Prop} (h : G := by first | (((first | exact T.al3 | exact T.al4 | exact T.al22 | exact T.al23 | exact T.al24 | exact T.al26 | exact T.al29 | exact T.al31 | exact T.al33 | exact T.al34 | exact T.al48 | exact T.al60 | exact T.al72 | exact T.al77 | exact T.al84 | exact T.al86 | exact T.al88 | exact T.al103 | exact T.al107 | exact T.al123 | exact T.al129 | exact T.al131 | exact T.al134 | exact T.al162)); done) | fail) : G := h
theorem t2A {G : Prop} (h : G := by first | (((first | exact T.sc3 | exact T.sc4 | exact T.sc22 | exact T.sc23 | exact T.sc24 | exact T.sc34 | exact T.sc48 | exact T.sc72 | exact T.sc84 | exact T.sc86 | exact T.sc103 | exact T.sc129 | exact T.sc131 | exact T.sc162)); done) | fail) : G := h
theorem t3A {G : Prop} (h : G := by first | (((first | exact T.z3 | exact T.z4 | exact T.z22 | exact T.z23 | exact T.z24 | exact T.z34 | exact T.z48 | exact T.z72 | exact T.z84 | exact T.z86 | exact T.z103 | exact T.z129 | exact T.z131 | exact T.z162)); done) | fail) : G := h
theorem t4A {G : Prop} (h : G := by first | (((first | exact T.r26 | exact T.r29 | exact T.r31 | exact T.r33 | exact T.r60 | exact T.r77 | exact T.r88 | exact T.r107 | exact T.r123 | exact T.r134)); done) | fail) : G := h
theorem t5A {G : Prop} (h : G := by first | (((first | exact T.e22 | exact T.e23 | exact T.e24 | exact T.e48 | exact T.e72 | exact T.e86 | exact T.e129 | exact T.e131)); done) | fail) : G := h
theorem t6A {G : Prop} (h : G := by first | (((first | exact T.s22 | exact T.s23 | exact T.s24 | exact T.s48 | exact T.s72 | exact T.s86 | exact T.s129 | exact T.s131)); done) | fail) : G := h
theorem t7A {G : Prop} (h : G := by first | (((first | exact T.u3 | exact T.u34 | exact T.u162)); done) | fail) : G := h
theorem knA {G : Prop} (h : G := by first | (((first | (focus (apply KnS.ln; exact hmA; done)) | (focus (apply KnS.oN; exact meA; done)) | (focus (apply KnS.oV; exact meA; done)) | (focus (apply KnS.f; exact hmA; done)) | (focus (apply KnS.oI; exact meA; done)) | (focus (apply KnS.o1; exact meA; done)) | (focus (apply KnS.zd; exact hmA; done)) | (focus (apply KnS.q1; exact hmA; done)) | (focus (apply KnS.q2; exact hmA; done)) | (focus (apply KnS.ff; exact hmA; done)) | (focus (apply KnS.oR; exact meA; done)) | (focus (apply KnS.rf; exact hmA; omega; done)) | (focus (apply KnS.pl; exact hmA; done)) | (focus (apply KnS.oLn; exact meA; done)) | (focus (apply KnS.oL1; exact meA; done)))); done) | fail) : G := h
theorem hsA {G : Prop} (h : G := by first | (((first | exact hmA | (focus (apply hasQ_P; exact hmA; done)) | (focus (apply hasQ_Q; exact hmA; done)) | exact hasZ_0 | exact hasQ_0 | (focus (apply hasZ_d; exact hmA; done)) | (focus (apply hasQ_d1; exact hmA; done)) | (focus (apply hasQ_d2; exact hmA; done)) | (focus (apply W.Has.q; exact hmA; omega; done)) | (focus (apply W.Has.qt; exact hmA; omega; omega; done)) | (focus (apply W.Has.pbq; exact hmA; omega; done)) | (focus (apply W.Has.lnb; exact hmA; omega; done)) | (focus (apply W.Has.lna; exact hmA; omega; done)))); done) | fail) : G := h
theorem haA {G : Prop} (h : G := by first | ((repeat (first | exact HasAll.nil | (apply HasAll.cons; exact hsA))); done) | fail) : G := h
theorem ltA {G : Prop} (h : G := by first | (((first | (focus (apply Or.inr; constructor; (repeat (first | exact List.Sublist.refl _ | exact List.nil_sublist _ | apply List.Sublist.cons_cons | apply List.Sublist.cons)); (first | exact fun _ h => h | (intro f hf; (repeat (first | exact hf | apply List.Mem.tail)))); done)) | (apply Or.inl; kernel_rfl))); done) | fail) : G := h
theorem onA {G : Prop} (h : G := by first | (((first | exact ints_one _ | (intro u hu; simp only [List.mem_cons, List.not_mem_nil, or_false] at hu; first | (subst hu; rfl) | (rcases hu with rfl | rfl | rfl <;> rfl)))); done) | fail) : G := h
theorem leA {G : Prop} (h : G := by first | (((simp only [List.length_map, List.length_append, List.length_cons, List.length_nil, List.length_replicate, List.length_take]; omega)); done) | fail) : G := h
theorem y_build {G : Prop} (h : G := by first | (((first | (apply YO.buildZ; exact rfl; exact rfl; exact knA) | exact YO.buildZ0 | exact YO.buildQ0 | (apply YO.buildQ1; exact rfl) | (apply YO.buildQ2; exact rfl; exact rfl) | (apply YO.buildTb; exact rfl; exact rfl; exact rfl) | exact YO.buildA0 | (apply YO.buildA1; exact rfl; exact rfl; exact knA) | (apply YO.buildA2; exact rfl; exact rfl; exact rfl; exact knA; exact knA) | (apply YO.buildA3; exact rfl; exact rfl; exact rfl; exact rfl; exact knA; exact knA) | exact YO.buildLn0 | (apply YO.buildLn1; exact rfl; exact knA) | (apply YO.buildLn2; exact rfl; exact rfl; exact knA) | (apply YO.buildPg0; exact rfl) | (apply YO.buildPg01; exact rfl; exact rfl; exact knA) | (apply YO.buildPg02; exact rfl; exact rfl; exact knA) | (apply YO.buildPg3; exact rfl; exact rfl; exact rfl; exact knA; exact knA) | (apply YO.buildLnB; exact rfl))); done) | fail) : G := h
theorem y_indexAddr {G : Prop} (h : G := by first | (((first | (first | (apply YO.ix1; exact t6A; exact rfl; exact rfl; exact knA; omega) | (apply YO.ix; exact t6A; exact rfl; exact rfl; exact knA; omega) | (apply YO.ix1'; exact t6A; exact rfl; exact rfl; exact knA; omega; omega) | (apply YO.ix'; exact t6A; exact rfl; exact rfl; exact knA; omega; omega)) | (apply YO.ix1; exact t6A; exact rfl; exact rfl; exact knA; (first | omega | (simp only [List.length_set, List.length_replicate]; omega))) | (apply YO.ix; exact t6A; exact rfl; exact rfl; exact knA; (first | omega | (simp only [List.length_set, List.length_replicate]; omega))) | (apply YO.ix1'; exact t6A; exact rfl; exact rfl; exact knA; omega; (first | omega | (simp only [List.length_set, List.length_replicate]; omega))))); done) | fail) : G := h
theorem y_load {G : Prop} (h : G := by first | (((first | (apply YO.ldLns; exact t4A; exact rfl; exact hmA; omega) | (apply YO.ldLnA; exact t2A; exact rfl; exact hmA; omega) | (apply YO.ldLnB; exact t4A; exact rfl; exact hmA; omega) | (apply YO.ldON; exact t2A; exact rfl; exact meA; omega) | (apply YO.ldOV; exact t2A; exact rfl; exact meA; omega) | (apply YO.ldW; exact t4A; exact rfl; exact meA; exact rfl) | (apply YO.ld42; exact t4A; exact rfl; exact meA) | (apply YO.ld40; exact t4A; exact rfl; exact meA) | (apply YO.ld62; exact t4A; exact rfl; exact meA) | (apply YO.ld51; exact t4A; exact rfl; exact meA) | (apply YO.ldFf; exact t4A; exact rfl; exact hmA; omega) | (apply YO.ldOR; exact t4A; exact rfl; exact meA; omega) | (apply YO.ldRf; exact t4A; exact rfl; exact hmA; omega; omega) | (apply YO.ldPl; exact t4A; exact rfl; exact hmA; omega) | (apply YO.ld73; exact t4A; exact rfl; exact meA) | (apply YO.ldWI0; exact t4A; exact rfl; exact meA; (first | omega | (simp only [List.length_set, List.length_replicate]; omega))) | (apply YO.ldWF0; exact t4A; exact rfl; exact hmA; (first | omega | (simp only [List.length_set, List.length_replicate]; omega))) | (apply YO.ldCI; exact t2A; exact rfl; exact meA; (first | omega | (simp only [List.length_set, List.length_replicate]; omega))) | (apply YO.ldFI; exact t2A; exact rfl; exact hmA; (first | omega | (simp only [List.length_set, List.length_replicate]; omega))) | (apply YO.ldF; exact t2A; exact rfl; exact hmA; exact rfl) | (apply YO.ldS; exact t2A; exact rfl; exact hsA; omega) | (apply YO.ldB; exact t2A; exact rfl; exact meA; exact rfl) | (apply YO.ldOI; exact t2A; exact rfl; exact meA; (first | omega | (simp only [List.length_set, List.length_replicate]; omega))))); done) | fail) : G := h
theorem y_eql {G : Prop} (h : G := by first | (((first | (first | (first | (apply YO.eql_t; exact rfl; exact rfl; omega) | (apply YO.eql_f; exact rfl; exact rfl; omega)) | (apply YO.eqNil_t; exact t6A; exact rfl; exact knA; assumption) | (apply YO.eqNil_f; exact t6A; exact rfl; exact knA; assumption)) | (apply YO.beq_t; exact bool_t; exact rfl; exact rfl; (first | rfl | assumption | decide)) | (apply YO.beq_f; exact bool_t; exact rfl; exact rfl; (first | rfl | assumption | decide)) | (apply YO.eqNz_t; exact t6A; exact rfl; exact knA; assumption) | (apply YO.eqNz_f; exact t6A; exact rfl; exact knA; assumption))); done) | fail) : G := h
theorem y_slice {G : Prop} (h : G := by first | (((first | (first | (apply YO.slice; exact t6A; exact rfl; exact knA; exact Or.inl ⟨rfl, rfl⟩; exact Or.inr ⟨_, rfl, rfl⟩; omega; omega) | (apply YO.slice; exact t6A; exact rfl; exact knA; exact Or.inr ⟨_, rfl, rfl⟩; exact Or.inl ⟨rfl, rfl⟩; omega; omega)) | (apply YO.slice3; exact t6A; exact rfl; exact knA; exact rfl; exact rfl; omega; omega) | (apply YO.slice; exact t6A; exact rfl; exact knA; exact Or.inr ⟨_, rfl, rfl⟩; exact Or.inr ⟨_, rfl, rfl⟩; omega; omega))); done) | fail) : G := h
theorem y_len {G : Prop} (h : G := by first | (((apply YO.len; exact t6A; exact rfl; exact knA)); done) | fail) : G := h
theorem y_fieldAddr {G : Prop} (h : G := by first | (((first | (apply YO.fieldE; exact t0A; exact rfl) | (apply YO.fieldN; exact t0A; exact rfl; ((try simp only [Nat.zero_add, Nat.mul_one, Nat.reduceAdd, Nat.reduceMul]); exact rfl)))); done) | fail) : G := h
theorem y_conv {G : Prop} (h : G := by first | (((first | (first | (apply YO.convU; exact t7A; exact t7A; exact rfl; omega; omega) | (apply YO.convI; exact t7A; exact t7A; exact rfl; omega; omega)) | (apply YO.convN; exact t7A; exact t7A; exact rfl; omega; omega))); done) | fail) : G := h
theorem y_neq {G : Prop} (h : G := by first | (((first | (first | (apply YO.neq_t; exact rfl; exact rfl; omega) | (apply YO.neq_f; exact rfl; exact rfl; omega)) | (apply YO.bne_t; exact bool_t; exact rfl; exact rfl; (first | rfl | assumption | decide)) | (apply YO.bne_f; exact bool_t; exact rfl; exact rfl; (first | rfl | assumption | decide)))); done) | fail) : G := h
theorem y_makeFunc {G : Prop} (h : G := by first | (((apply YO.makeFunc; (repeat (first | exact Evs.nil | (apply Evs.cons; exact rfl))); (repeat (first | exact Evs.nil | (apply Evs.cons; exact rfl))))); done) | fail) : G := h
theorem y_quo {G : Prop} (h : G := by first | (((first | (apply YO.quo; exact rfl; exact rfl; omega; omega; omega) | (apply YO.uquo; exact rfl; exact rfl; omega; omega; omega))); done) | fail) : G := h
theorem y_and {G : Prop} (h : G := by first | (((first | (apply YO.and1; exact rfl; exact rfl; omega; omega) | (apply YO.and; exact rfl; exact rfl; omega; omega; omega; omega))); done) | fail) : G := h
theorem y_mul {G : Prop} (h : G := by first | (((first | (apply YO.mul; exact rfl; exact rfl; omega; omega) | (apply YO.umul; exact rfl; exact rfl; omega; omega))); done) | fail) : G := h
theorem y_rem {G : Prop} (h : G := by first | (((first | (apply YO.rem; exact rfl; exact rfl; omega; omega) | (apply YO.urem; exact rfl; exact rfl; omega; omega))); done) | fail) : G := h
theorem y_add {G : Prop} (h : G := by first | (((first | (apply YO.inc; exact rfl; exact rfl; omega) | (apply YO.add; exact rfl; exact rfl; omega; omega))); done) | fail) : G := h
theorem y_lss {G : Prop} (h : G := by first | (((first | (apply YO.lss_t; exact rfl; exact rfl; omega) | (apply YO.lss_f; exact rfl; exact rfl; omega))); done) | fail) : G := h
theorem y_gtr {G : Prop} (h : G := by first | (((first | (apply YO.gtr_t; exact rfl; exact rfl; omega) | (apply YO.gtr_f; exact rfl; exact rfl; omega))); done) | fail) : G := h
theorem y_geq {G : Prop} (h : G := by first | (((first | (apply YO.geq_t; exact rfl; exact rfl; omega) | (apply YO.geq_f; exact rfl; exact rfl; omega))); done) | fail) : G := h
theorem y_leq {G : Prop} (h : G := by first | (((first | (apply YO.leq_t; exact rfl; exact rfl; omega) | (apply YO.leq_f; exact rfl; exact rfl; omega))); done) | fail) : G := h
theorem y_shl {G : Prop} (h : G := by first | (((apply YO.shl'; exact rfl; exact rfl; omega; omega; (first | omega | decide); (first | omega | decide))); done) | fail) : G := h
theorem y_uneg {G : Prop} (h : G := by first | (((first | (apply YO.neg; exact rfl; omega; omega) | (apply YO.uneg; exact rfl; omega; omega))); done) | fail) : G := h
theorem y_pick {G : Prop} (h : G := by first | (((first | (apply YO.pick_t; exact rfl; exact rfl) | (apply YO.pick_f; exact rfl; exact rfl))); done) | fail) : G := h
theorem y_unot {G : Prop} (h : G := by first | (((first | (apply YO.not_t; exact rfl) | (apply YO.not_f; exact rfl))); done) | fail) : G := h
theorem y_or {G : Prop} (h : G := by first | (((apply YO.or; exact rfl; exact rfl; omega; omega; omega; omega)); done) | fail) : G := h
theorem go {G G' : Prop} (h : G') (s : Bx G' → G := by
  intro h
  (first
    | apply WL.nil
    | (apply WL.skg; exact rfl; exact rfl)
    | (apply WL.skg0; exact rfl)
    | (apply WL.k_move; (apply YO.move; exact rfl); exact rfl; exact rfl)
    | (apply WL.k_assign; (apply YO.assign; exact rfl); exact rfl; exact rfl)
    | (apply WL.k_lss; exact y_lss; exact rfl; exact rfl)
    | (apply WL.k_add; exact y_add; exact rfl; exact rfl)
    | (apply WL.k_len; exact y_len; exact rfl; exact rfl)
    | (apply WL.k_indexAddr; exact y_indexAddr; exact rfl; exact rfl)
    | (apply WL.k_load; exact y_load; exact rfl; exact rfl)
    | (apply WL.k_pick; exact y_pick; exact rfl; exact rfl)
    | (apply WL.k_fieldAddr; exact y_fieldAddr; exact rfl; exact rfl)
    | (apply WL.k_eql; exact y_eql; exact rfl; exact rfl)
    | (apply WL.k_neq; exact y_neq; exact rfl; exact rfl)
    | (apply WL.k_nil; (apply YO.nil; exact rfl); exact rfl; exact rfl)
    | (apply WL.k_extract; (apply YO.extract; exact rfl; exact rfl); exact rfl; exact rfl)
    | (apply WL.k_gtr; exact y_gtr; exact rfl; exact rfl)
    | (apply WL.k_geq; exact y_geq; exact rfl; exact rfl)
    | (apply WL.k_leq; exact y_leq; exact rfl; exact rfl)
    | (apply WL.k_sub; (apply YO.sub; exact rfl; exact rfl; omega; omega); exact rfl; exact rfl)
    | (apply WL.k_mul; exact y_mul; exact rfl; exact rfl)
    | (apply WL.k_rem; exact y_rem; exact rfl; exact rfl)
    | (apply WL.k_quo; exact y_quo; exact rfl; exact rfl)
    | (apply WL.k_unot; exact y_unot; exact rfl; exact rfl)
    | (apply WL.k_uneg; exact y_uneg; exact rfl; exact rfl)
    | (apply WL.k_max; (apply YO.max; exact rfl; exact rfl); exact rfl; exact rfl)
    | (apply WL.k_min; (apply YO.min; exact rfl; exact rfl); exact rfl; exact rfl)
    | (apply WL.k_makeFunc; exact y_makeFunc; exact rfl; exact rfl)
    | (apply WL.k_conv; exact y_conv; exact rfl; exact rfl)
    | (apply WL.k_shl; exact y_shl; exact rfl; exact rfl)
    | (apply WL.k_shr; (apply YO.shr'; exact rfl; exact rfl; omega; omega); exact rfl; exact rfl)
    | (apply WL.k_and; exact y_and; exact rfl; exact rfl)
    | (apply WL.k_or; exact y_or; exact rfl; exact rfl)
    | (apply WL.k_andNot; (apply YO.anot; exact rfl; exact rfl); exact rfl; exact rfl)
    | (apply WL.k_slice; exact y_slice; exact rfl; exact rfl)
    | (apply WL.k_build; exact y_build; exact rfl; exact rfl)
    | apply WC.seq
    | apply WC.region
    | apply WC.block
    | (apply WC.cond_t; exact rfl)
    | (apply WC.cond_f; exact rfl)
    | apply WC.exit
    | apply WC.skip
    | apply WC.label
    | (apply WL.kl_store; rotate_left; exact rfl; (first | (apply LO.storeOI; exact rfl; exact rfl; exact t3A; exact seA; (first | omega | (simp only [List.length_set]; omega))) | (apply LO.storeQ; exact rfl; exact rfl; exact t4A; exact hmA; exact seA; omega) | (apply LO.storeI; exact rfl; exact rfl; exact t3A; exact seA; (first | omega | (simp only [List.length_set, List.length_replicate]; omega))) | (apply LO.storeWI; exact rfl; exact rfl; exact seA; exact t4A; (first | omega | (simp only [List.length_set, List.length_replicate]; omega)); (first | (simp only [List.length_map, List.length_set, List.length_replicate, ints]; omega) | rfl)) | (apply LO.store1; exact rfl; exact rfl; exact t3A; (first | exact One.lit rfl rfl | (apply One.sl; exact knA)); exact seA; (first | (simp only [List.length_cons, List.length_nil]; omega) | (simp; omega)); (first | (simp only [List.set_cons_succ, List.set_cons_zero]; exact rfl) | exact rfl)) | (apply LO.storeO1; exact rfl; exact rfl; exact t3A; (first | exact One.lit rfl rfl | (apply One.sl; exact knA)); exact seA; (first | (simp only [List.length_cons, List.length_nil]; omega) | (simp; omega)); (first | (simp only [List.set_cons_succ, List.set_cons_zero]; exact rfl) | exact rfl)) | (apply LO.storeL; exact rfl; exact rfl; exact seA; exact t4A; exact rfl; exact rfl; (repeat (first | exact OneL.nil | (apply OneL.cons; (first | exact One.lit rfl rfl | (apply One.sl; exact knA)))))))))
  repeat (first
    | apply WL.nil
    | (apply WL.skg; exact rfl; exact rfl)
    | (apply WL.skg0; exact rfl)
    | (apply WL.k_move; (apply YO.move; exact rfl); exact rfl; exact rfl)
    | (apply WL.k_assign; (apply YO.assign; exact rfl); exact rfl; exact rfl)
    | (apply WL.k_lss; exact y_lss; exact rfl; exact rfl)
    | (apply WL.k_add; exact y_add; exact rfl; exact rfl)
    | (apply WL.k_len; exact y_len; exact rfl; exact rfl)
    | (apply WL.k_indexAddr; exact y_indexAddr; exact rfl; exact rfl)
    | (apply WL.k_load; exact y_load; exact rfl; exact rfl)
    | (apply WL.k_pick; exact y_pick; exact rfl; exact rfl)
    | (apply WL.k_fieldAddr; exact y_fieldAddr; exact rfl; exact rfl)
    | (apply WL.k_eql; exact y_eql; exact rfl; exact rfl)
    | (apply WL.k_neq; exact y_neq; exact rfl; exact rfl)
    | (apply WL.k_nil; (apply YO.nil; exact rfl); exact rfl; exact rfl)
    | (apply WL.k_extract; (apply YO.extract; exact rfl; exact rfl); exact rfl; exact rfl)
    | (apply WL.k_gtr; exact y_gtr; exact rfl; exact rfl)
    | (apply WL.k_geq; exact y_geq; exact rfl; exact rfl)
    | (apply WL.k_leq; exact y_leq; exact rfl; exact rfl)
    | (apply WL.k_sub; (apply YO.sub; exact rfl; exact rfl; omega; omega); exact rfl; exact rfl)
    | (apply WL.k_mul; exact y_mul; exact rfl; exact rfl)
    | (apply WL.k_rem; exact y_rem; exact rfl; exact rfl)
    | (apply WL.k_quo; exact y_quo; exact rfl; exact rfl)
    | (apply WL.k_unot; exact y_unot; exact rfl; exact rfl)
    | (apply WL.k_uneg; exact y_uneg; exact rfl; exact rfl)
    | (apply WL.k_max; (apply YO.max; exact rfl; exact rfl); exact rfl; exact rfl)
    | (apply WL.k_min; (apply YO.min; exact rfl; exact rfl); exact rfl; exact rfl)
    | (apply WL.k_makeFunc; exact y_makeFunc; exact rfl; exact rfl)
    | (apply WL.k_conv; exact y_conv; exact rfl; exact rfl)
    | (apply WL.k_shl; exact y_shl; exact rfl; exact rfl)
    | (apply WL.k_shr; (apply YO.shr'; exact rfl; exact rfl; omega; omega); exact rfl; exact rfl)
    | (apply WL.k_and; exact y_and; exact rfl; exact rfl)
    | (apply WL.k_or; exact y_or; exact rfl; exact rfl)
    | (apply WL.k_andNot; (apply YO.anot; exact rfl; exact rfl); exact rfl; exact rfl)
    | (apply WL.k_slice; exact y_slice; exact rfl; exact rfl)
    | (apply WL.k_build; exact y_build; exact rfl; exact rfl)
    | apply WC.seq
    | apply WC.region
    | apply WC.block
    | (apply WC.cond_t; exact rfl)
    | (apply WC.cond_f; exact rfl)
    | apply WC.exit
    | apply WC.skip
    | apply WC.label
    | (apply WL.kl_store; rotate_left; exact rfl; (first | (apply LO.storeOI; exact rfl; exact rfl; exact t3A; exact seA; (first | omega | (simp only [List.length_set]; omega))) | (apply LO.storeQ; exact rfl; exact rfl; exact t4A; exact hmA; exact seA; omega) | (apply LO.storeI; exact rfl; exact rfl; exact t3A; exact seA; (first | omega | (simp only [List.length_set, List.length_replicate]; omega))) | (apply LO.storeWI; exact rfl; exact rfl; exact seA; exact t4A; (first | omega | (simp only [List.length_set, List.length_replicate]; omega)); (first | (simp only [List.length_map, List.length_set, List.length_replicate, ints]; omega) | rfl)) | (apply LO.store1; exact rfl; exact rfl; exact t3A; (first | exact One.lit rfl rfl | (apply One.sl; exact knA)); exact seA; (first | (simp only [List.length_cons, List.length_nil]; omega) | (simp; omega)); (first | (simp only [List.set_cons_succ, List.set_cons_zero]; exact rfl) | exact rfl)) | (apply LO.storeO1; exact rfl; exact rfl; exact t3A; (first | exact One.lit rfl rfl | (apply One.sl; exact knA)); exact seA; (first | (simp only [List.length_cons, List.length_nil]; omega) | (simp; omega)); (first | (simp only [List.set_cons_succ, List.set_cons_zero]; exact rfl) | exact rfl)) | (apply LO.storeL; exact rfl; exact rfl; exact seA; exact t4A; exact rfl; exact rfl; (repeat (first | exact OneL.nil | (apply OneL.cons; (first | exact One.lit rfl rfl | (apply One.sl; exact knA)))))))))
  exact Bx.h h) : G := s ⟨h⟩
theorem goD {G G' : Prop} (h : G') (s : Bx G' → G := by
  intro h
  (first
    | apply WD.nil
    | (apply WD.skg; exact rfl; exact rfl; exact rfl)
    | (apply WD.skgl; exact rfl; exact rfl; exact rfl)
    | (apply WD.skgl0; exact rfl; exact rfl)
    | (apply WD.k_move; exact rfl; (apply YO.move; exact rfl); exact rfl; exact rfl)
    | (apply WD.k_assign; exact rfl; (apply YO.assign; exact rfl); exact rfl; exact rfl)
    | (apply WD.k_lss; exact rfl; exact y_lss; exact rfl; exact rfl)
    | (apply WD.k_add; exact rfl; exact y_add; exact rfl; exact rfl)
    | (apply WD.k_len; exact rfl; exact y_len; exact rfl; exact rfl)
    | (apply WD.k_indexAddr; exact rfl; exact y_indexAddr; exact rfl; exact rfl)
    | (apply WD.k_load; exact rfl; exact y_load; exact rfl; exact rfl)
    | (apply WD.k_pick; exact rfl; exact y_pick; exact rfl; exact rfl)
    | (apply WD.k_fieldAddr; exact rfl; exact y_fieldAddr; exact rfl; exact rfl)
    | (apply WD.k_eql; exact rfl; exact y_eql; exact rfl; exact rfl)
    | (apply WD.k_neq; exact rfl; exact y_neq; exact rfl; exact rfl)
    | (apply WD.k_nil; exact rfl; (apply YO.nil; exact rfl); exact rfl; exact rfl)
    | (apply WD.k_extract; exact rfl; (apply YO.extract; exact rfl; exact rfl); exact rfl; exact rfl)
    | (apply WD.k_gtr; exact rfl; exact y_gtr; exact rfl; exact rfl)
    | (apply WD.k_geq; exact rfl; exact y_geq; exact rfl; exact rfl)
    | (apply WD.k_leq; exact rfl; exact y_leq; exact rfl; exact rfl)
    | (apply WD.k_sub; exact rfl; (apply YO.sub; exact rfl; exact rfl; omega; omega); exact rfl; exact rfl)
    | (apply WD.k_mul; exact rfl; exact y_mul; exact rfl; exact rfl)
    | (apply WD.k_rem; exact rfl; exact y_rem; exact rfl; exact rfl)
    | (apply WD.k_quo; exact rfl; exact y_quo; exact rfl; exact rfl)
    | (apply WD.k_unot; exact rfl; exact y_unot; exact rfl; exact rfl)
    | (apply WD.k_uneg; exact rfl; exact y_uneg; exact rfl; exact rfl)
    | (apply WD.k_max; exact rfl; (apply YO.max; exact rfl; exact rfl); exact rfl; exact rfl)
    | (apply WD.k_min; exact rfl; (apply YO.min; exact rfl; exact rfl); exact rfl; exact rfl)
    | (apply WD.k_makeFunc; exact rfl; exact y_makeFunc; exact rfl; exact rfl)
    | (apply WD.k_conv; exact rfl; exact y_conv; exact rfl; exact rfl)
    | (apply WD.k_shl; exact rfl; exact y_shl; exact rfl; exact rfl)
    | (apply WD.k_shr; exact rfl; (apply YO.shr'; exact rfl; exact rfl; omega; omega); exact rfl; exact rfl)
    | (apply WD.k_and; exact rfl; exact y_and; exact rfl; exact rfl)
    | (apply WD.k_or; exact rfl; exact y_or; exact rfl; exact rfl)
    | (apply WD.k_andNot; exact rfl; (apply YO.anot; exact rfl; exact rfl); exact rfl; exact rfl)
    | (apply WD.k_slice; exact rfl; exact y_slice; exact rfl; exact rfl)
    | (apply WD.k_build; exact rfl; exact y_build; exact rfl; exact rfl)
    | (apply WD.kl_store; exact rfl; rotate_left; exact rfl; (first | (apply LO.storeOI; exact rfl; exact rfl; exact t3A; exact seA; (first | omega | (simp only [List.length_set]; omega))) | (apply LO.storeQ; exact rfl; exact rfl; exact t4A; exact hmA; exact seA; omega) | (apply LO.storeI; exact rfl; exact rfl; exact t3A; exact seA; (first | omega | (simp only [List.length_set, List.length_replicate]; omega))) | (apply LO.storeWI; exact rfl; exact rfl; exact seA; exact t4A; (first | omega | (simp only [List.length_set, List.length_replicate]; omega)); (first | (simp only [List.length_map, List.length_set, List.length_replicate, ints]; omega) | rfl)) | (apply LO.store1; exact rfl; exact rfl; exact t3A; (first | exact One.lit rfl rfl | (apply One.sl; exact knA)); exact seA; (first | (simp only [List.length_cons, List.length_nil]; omega) | (simp; omega)); (first | (simp only [List.set_cons_succ, List.set_cons_zero]; exact rfl) | exact rfl)) | (apply LO.storeO1; exact rfl; exact rfl; exact t3A; (first | exact One.lit rfl rfl | (apply One.sl; exact knA)); exact seA; (first | (simp only [List.length_cons, List.length_nil]; omega) | (simp; omega)); (first | (simp only [List.set_cons_succ, List.set_cons_zero]; exact rfl) | exact rfl)) | (apply LO.storeL; exact rfl; exact rfl; exact seA; exact t4A; exact rfl; exact rfl; (repeat (first | exact OneL.nil | (apply OneL.cons; (first | exact One.lit rfl rfl | (apply One.sl; exact knA))))))); constructor; exact ltA))
  repeat (first
    | apply WD.nil
    | (apply WD.skg; exact rfl; exact rfl; exact rfl)
    | (apply WD.skgl; exact rfl; exact rfl; exact rfl)
    | (apply WD.skgl0; exact rfl; exact rfl)
    | (apply WD.k_move; exact rfl; (apply YO.move; exact rfl); exact rfl; exact rfl)
    | (apply WD.k_assign; exact rfl; (apply YO.assign; exact rfl); exact rfl; exact rfl)
    | (apply WD.k_lss; exact rfl; exact y_lss; exact rfl; exact rfl)
    | (apply WD.k_add; exact rfl; exact y_add; exact rfl; exact rfl)
    | (apply WD.k_len; exact rfl; exact y_len; exact rfl; exact rfl)
    | (apply WD.k_indexAddr; exact rfl; exact y_indexAddr; exact rfl; exact rfl)
    | (apply WD.k_load; exact rfl; exact y_load; exact rfl; exact rfl)
    | (apply WD.k_pick; exact rfl; exact y_pick; exact rfl; exact rfl)
    | (apply WD.k_fieldAddr; exact rfl; exact y_fieldAddr; exact rfl; exact rfl)
    | (apply WD.k_eql; exact rfl; exact y_eql; exact rfl; exact rfl)
    | (apply WD.k_neq; exact rfl; exact y_neq; exact rfl; exact rfl)
    | (apply WD.k_nil; exact rfl; (apply YO.nil; exact rfl); exact rfl; exact rfl)
    | (apply WD.k_extract; exact rfl; (apply YO.extract; exact rfl; exact rfl); exact rfl; exact rfl)
    | (apply WD.k_gtr; exact rfl; exact y_gtr; exact rfl; exact rfl)
    | (apply WD.k_geq; exact rfl; exact y_geq; exact rfl; exact rfl)
    | (apply WD.k_leq; exact rfl; exact y_leq; exact rfl; exact rfl)
    | (apply WD.k_sub; exact rfl; (apply YO.sub; exact rfl; exact rfl; omega; omega); exact rfl; exact rfl)
    | (apply WD.k_mul; exact rfl; exact y_mul; exact rfl; exact rfl)
    | (apply WD.k_rem; exact rfl; exact y_rem; exact rfl; exact rfl)
    | (apply WD.k_quo; exact rfl; exact y_quo; exact rfl; exact rfl)
    | (apply WD.k_unot; exact rfl; exact y_unot; exact rfl; exact rfl)
    | (apply WD.k_uneg; exact rfl; exact y_uneg; exact rfl; exact rfl)
    | (apply WD.k_max; exact rfl; (apply YO.max; exact rfl; exact rfl); exact rfl; exact rfl)
    | (apply WD.k_min; exact rfl; (apply YO.min; exact rfl; exact rfl); exact rfl; exact rfl)
    | (apply WD.k_makeFunc; exact rfl; exact y_makeFunc; exact rfl; exact rfl)
    | (apply WD.k_conv; exact rfl; exact y_conv; exact rfl; exact rfl)
    | (apply WD.k_shl; exact rfl; exact y_shl; exact rfl; exact rfl)
    | (apply WD.k_shr; exact rfl; (apply YO.shr'; exact rfl; exact rfl; omega; omega); exact rfl; exact rfl)
    | (apply WD.k_and; exact rfl; exact y_and; exact rfl; exact rfl)
    | (apply WD.k_or; exact rfl; exact y_or; exact rfl; exact rfl)
    | (apply WD.k_andNot; exact rfl; (apply YO.anot; exact rfl; exact rfl); exact rfl; exact rfl)
    | (apply WD.k_slice; exact rfl; exact y_slice; exact rfl; exact rfl)
    | (apply WD.k_build; exact rfl; exact y_build; exact rfl; exact rfl)
    | (apply WD.kl_store; exact rfl; rotate_left; exact rfl; (first | (apply LO.storeOI; exact rfl; exact rfl; exact t3A; exact seA; (first | omega | (simp only [List.length_set]; omega))) | (apply LO.storeQ; exact rfl; exact rfl; exact t4A; exact hmA; exact seA; omega) | (apply LO.storeI; exact rfl; exact rfl; exact t3A; exact seA; (first | omega | (simp only [List.length_set, List.length_replicate]; omega))) | (apply LO.storeWI; exact rfl; exact rfl; exact seA; exact t4A; (first | omega | (simp only [List.length_set, List.length_replicate]; omega)); (first | (simp only [List.length_map, List.length_set, List.length_replicate, ints]; omega) | rfl)) | (apply LO.store1; exact rfl; exact rfl; exact t3A; (first | exact One.lit rfl rfl | (apply One.sl; exact knA)); exact seA; (first | (simp only [List.length_cons, List.length_nil]; omega) | (simp; omega)); (first | (simp only [List.set_cons_succ, List.set_cons_zero]; exact rfl) | exact rfl)) | (apply LO.storeO1; exact rfl; exact rfl; exact t3A; (first | exact One.lit rfl rfl | (apply One.sl; exact knA)); exact seA; (first | (simp only [List.length_cons, List.length_nil]; omega) | (simp; omega)); (first | (simp only [List.set_cons_succ, List.set_cons_zero]; exact rfl) | exact rfl)) | (apply LO.storeL; exact rfl; exact rfl; exact seA; exact t4A; exact rfl; exact rfl; (repeat (first | exact OneL.nil | (apply OneL.cons; (first | exact One.lit rfl rfl | (apply One.sl; exact knA))))))); constructor; exact ltA))
  exact Bx.h h) : G := s ⟨h⟩
theorem goG {G G' : Prop} (h : G') (s : Bx G' → G := by
  intro h
  (first
    | (apply WL.kl_alloc; rotate_left; exact rfl; exact rfl; apply LO.alloc'; (first | exact t1A))
    | (apply WL.kl_box; rotate_left; exact rfl; exact rfl; (first | (apply LO.boxA; exact rfl) | (apply LO.box1; exact rfl; (first | exact One.lit rfl rfl | (apply One.sl; exact knA))))))
  exact Bx.h h) : G := s ⟨h⟩
theorem goV {G G' : Prop} (h : G') (s : Bx G' → G := by
  intro h
  (first
    | (apply WL.kl_ms; rotate_left; exact rfl; exact rfl; (apply LO.makeI; exact rfl; exact rfl; (repeat (first | (with_reducible apply NatI.add) | (with_reducible exact NatI.one) | exact NatI.cast _)); omega))
    | (apply WL.kl_ms; rotate_left; exact rfl; exact rfl; (apply LO.makeR; exact rfl; exact rfl; (repeat (first | (with_reducible apply NatI.add) | (with_reducible exact NatI.one) | exact NatI.cast _)); omega))
    | (apply WL.kl_ms; rotate_left; exact rfl; exact rfl; (apply LO.makeLn; exact rfl; exact rfl; (repeat (first | (with_reducible apply NatI.add) | (with_reducible exact NatI.one) | exact NatI.cast _)); omega))
    | (apply WL.kl_bs; rotate_left; exact rfl; exact rfl; (apply LO.bsR10; exact rfl))
    | (apply WL.kl_bs; rotate_left; exact rfl; exact rfl; (apply LO.bsR0))
    | (apply WL.kl_bs; rotate_left; exact rfl; exact rfl; (apply LO.bsR1; exact rfl))
    | (apply WL.kl_bs; rotate_left; exact rfl; exact rfl; (apply LO.bsV1; exact rfl; exact knA))
    | (apply WL.kl_bs; rotate_left; exact rfl; exact rfl; (apply LO.bsLn0))
    | (apply WL.kl_bs; rotate_left; exact rfl; exact rfl; (apply LO.bsLn1; exact rfl; exact hmA))
    | (apply WL.kl_bs; rotate_left; exact rfl; exact rfl; (apply LO.bsR2; exact rfl; exact rfl))
    | (apply WL.kl_bs; rotate_left; exact rfl; exact rfl; (apply LO.bsLn3; exact rfl; exact rfl; exact rfl; exact hmA; exact hmA; exact hmA))
    | (apply WL.kl_app; rotate_left; exact rfl; exact rfl; (apply LO.appR1; exact rfl; exact rfl; exact meA; exact hmA; (intro _; exact seA); omega))
    | (apply WL.kl_app; rotate_left; exact rfl; exact rfl; (apply LO.appFf; exact rfl; exact rfl; exact hmA; (intro _; exact seA); omega))
    | (apply WL.kl_app; rotate_left; exact rfl; exact rfl; (apply LO.appVV; exact rfl; exact rfl; exact meA; (apply One.sl; exact knA); (intro _; exact seA); omega))
    | (apply WL.kl_app; rotate_left; exact rfl; exact rfl; (apply LO.appNN; exact rfl; exact rfl; exact meA; (intro _; exact seA); omega))
    | (apply WL.kl_app; rotate_left; exact rfl; exact rfl; (apply LO.appLn1; exact rfl; exact rfl; exact meA; exact hmA; exact hmA; (intro _; exact seA); omega))
    | (apply WL.kl_app; rotate_left; exact rfl; exact rfl; (apply LO.appLnf; exact rfl; exact rfl; exact hmA; (intro _; exact seA); omega; omega))
    | (apply WL.kl_app; rotate_left; exact rfl; exact rfl; (apply LO.appFg; exact rfl; exact rfl; exact hmA; (intro _; exact seA); omega; omega))
    | (apply WL.kl_app; rotate_left; exact rfl; exact rfl; (apply LO.appLnf0; exact rfl; exact rfl; exact hmA; (intro _; exact seA); omega))
    | (apply WL.kl_bs; rotate_left; exact rfl; exact rfl; apply LO.bs1; exact t6A; (repeat (first | exact EvP.nil | (apply EvP.cons; exact rfl))); (intro _; kernel_rfl); exact rfl; omega)
    | (apply WL.kl_app; rotate_left; exact rfl; exact rfl; apply LO.app; exact t5A; exact rfl; exact rfl; (first | (focus (apply SrcE.ints; exact hmA; done)) | (focus (apply SrcE.own1; exact meA; done)) | (focus (apply SrcE.one; exact meA; exact rfl; decide; done))); (intro v; exact seA); exact onA; exact leA; exact leA))
  exact Bx.h h) : G := s ⟨h⟩
theorem goDG {G G' : Prop} (h : G') (s : Bx G' → G := by
  intro h
  (first
    | (apply WD.kl_alloc; exact rfl; rotate_left; exact rfl; exact rfl; apply LO.alloc'; (first | exact t1A); apply allAnd; (intro _; exact ltA))
    | (apply WD.kl_box; exact rfl; rotate_left; exact rfl; exact rfl; (first | (apply LO.boxA; exact rfl) | (apply LO.box1; exact rfl; (first | exact One.lit rfl rfl | (apply One.sl; exact knA)))); apply allAnd; (intro _; exact ltA)))
  exact Bx.h h) : G := s ⟨h⟩
theorem goDV {G G' : Prop} (h : G') (s : Bx G' → G := by
  intro h
  (first
    | (apply WD.kl_ms; exact rfl; rotate_left; exact rfl; exact rfl; (apply LO.makeI; exact rfl; exact rfl; (repeat (first | (with_reducible apply NatI.add) | (with_reducible exact NatI.one) | exact NatI.cast _)); omega); apply allAnd; (intro _; exact ltA))
    | (apply WD.kl_ms; exact rfl; rotate_left; exact rfl; exact rfl; (apply LO.makeR; exact rfl; exact rfl; (repeat (first | (with_reducible apply NatI.add) | (with_reducible exact NatI.one) | exact NatI.cast _)); omega); apply allAnd; (intro _; exact ltA))
    | (apply WD.kl_ms; exact rfl; rotate_left; exact rfl; exact rfl; (apply LO.makeLn; exact rfl; exact rfl; (repeat (first | (with_reducible apply NatI.add) | (with_reducible exact NatI.one) | exact NatI.cast _)); omega); apply allAnd; (intro _; exact ltA))
    | (apply WD.kl_bs; exact rfl; rotate_left; exact rfl; exact rfl; (apply LO.bsR10; exact rfl); apply allAnd; (intro _; exact ltA))
    | (apply WD.kl_bs; exact rfl; rotate_left; exact rfl; exact rfl; (apply LO.bsR0); apply allAnd; (intro _; exact ltA))
    | (apply WD.kl_bs; exact rfl; rotate_left; exact rfl; exact rfl; (apply LO.bsR1; exact rfl); apply allAnd; (intro _; exact ltA))
    | (apply WD.kl_bs; exact rfl; rotate_left; exact rfl; exact rfl; (apply LO.bsV1; exact rfl; exact knA); apply allAnd; (intro _; exact ltA))
    | (apply WD.kl_bs; exact rfl; rotate_left; exact rfl; exact rfl; (apply LO.bsLn0); apply allAnd; (intro _; exact ltA))
    | (apply WD.kl_bs; exact rfl; rotate_left; exact rfl; exact rfl; (apply LO.bsLn1; exact rfl; exact hmA); apply allAnd; (intro _; exact ltA))
    | (apply WD.kl_bs; exact rfl; rotate_left; exact rfl; exact rfl; (apply LO.bsR2; exact rfl; exact rfl); apply allAnd; (intro _; exact ltA))
    | (apply WD.kl_bs; exact rfl; rotate_left; exact rfl; exact rfl; (apply LO.bsLn3; exact rfl; exact rfl; exact rfl; exact hmA; exact hmA; exact hmA); apply allAnd; (intro _; exact ltA))
    | (apply WD.kl_app; exact rfl; rotate_left; exact rfl; exact rfl; (apply LO.appR1; exact rfl; exact rfl; exact meA; exact hmA; (intro _; exact seA); omega); apply allAnd; (intro _; exact ltA))
    | (apply WD.kl_app; exact rfl; rotate_left; exact rfl; exact rfl; (apply LO.appFf; exact rfl; exact rfl; exact hmA; (intro _; exact seA); omega); apply allAnd; (intro _; exact ltA))
    | (apply WD.kl_app; exact rfl; rotate_left; exact rfl; exact rfl; (apply LO.appVV; exact rfl; exact rfl; exact meA; (apply One.sl; exact knA); (intro _; exact seA); omega); apply allAnd; (intro _; exact ltA))
    | (apply WD.kl_app; exact rfl; rotate_left; exact rfl; exact rfl; (apply LO.appNN; exact rfl; exact rfl; exact meA; (intro _; exact seA); omega); apply allAnd; (intro _; exact ltA))
    | (apply WD.kl_app; exact rfl; rotate_left; exact rfl; exact rfl; (apply LO.appLn1; exact rfl; exact rfl; exact meA; exact hmA; exact hmA; (intro _; exact seA); omega); apply allAnd; (intro _; exact ltA))
    | (apply WD.kl_app; exact rfl; rotate_left; exact rfl; exact rfl; (apply LO.appLnf; exact rfl; exact rfl; exact hmA; (intro _; exact seA); omega; omega); apply allAnd; (intro _; exact ltA))
    | (apply WD.kl_app; exact rfl; rotate_left; exact rfl; exact rfl; (apply LO.appFg; exact rfl; exact rfl; exact hmA; (intro _; exact seA); omega; omega); apply allAnd; (intro _; exact ltA))
    | (apply WD.kl_app; exact rfl; rotate_left; exact rfl; exact rfl; (apply LO.appLnf0; exact rfl; exact rfl; exact hmA; (intro _; exact seA); omega); apply allAnd; (intro _; exact ltA))
    | (apply WD.kl_bs; exact rfl; rotate_left; exact rfl; exact rfl; apply LO.bs1; exact t6A; (repeat (first | exact EvP.nil | (apply EvP.cons; exact rfl))); (intro _; kernel_rfl); exact rfl; omega; apply allAnd; (intro _; exact ltA))
    | (apply WD.kl_app; exact rfl; rotate_left; exact rfl; exact rfl; apply LO.app; exact t5A; exact rfl; exact rfl; (first | (focus (apply SrcE.ints; exact hmA; done)) | (focus (apply SrcE.own1; exact meA; done)) | (focus (apply SrcE.one; exact meA; exact rfl; decide; done))); (intro v; exact seA); exact onA; exact leA; exact leA; apply allAnd; (intro _; exact ltA)))
  exact Bx.h h) : G := s ⟨h⟩
theorem goLG {G G' : Prop} (h : G') (s : Bx G' → G := by
  intro h
  (first
    | (apply LO.alloc'; (first | exact t1A); apply allAnd; (intro _; exact ltA))
    | ((first | (apply LO.boxA; exact rfl) | (apply LO.box1; exact rfl; (first | exact One.lit rfl rfl | (apply One.sl; exact knA)))); apply allAnd; (intro _; exact ltA)))
  exact Bx.h h) : G := s ⟨h⟩
theorem goLV {G G' : Prop} (h : G') (s : Bx G' → G := by
  intro h
  (first
    | (apply LO.bs1; exact t6A; (repeat (first | exact EvP.nil | (apply EvP.cons; exact rfl))); (intro _; kernel_rfl); exact rfl; omega; apply allAnd; (intro _; exact ltA))
    | (apply LO.app; exact t5A; exact rfl; exact rfl; (first | (focus (apply SrcE.ints; exact hmA; done)) | (focus (apply SrcE.own1; exact meA; done)) | (focus (apply SrcE.one; exact meA; exact rfl; decide; done))); (intro v; exact seA); exact onA; exact leA; exact leA; apply allAnd; (intro _; exact ltA))
    | ((apply LO.makeI; exact rfl; exact rfl; (repeat (first | (with_reducible apply NatI.add) | (with_reducible exact NatI.one) | exact NatI.cast _)); omega); apply allAnd; (intro _; exact ltA))
    | ((apply LO.makeR; exact rfl; exact rfl; (repeat (first | (with_reducible apply NatI.add) | (with_reducible exact NatI.one) | exact NatI.cast _)); omega); apply allAnd; (intro _; exact ltA))
    | ((apply LO.makeLn; exact rfl; exact rfl; (repeat (first | (with_reducible apply NatI.add) | (with_reducible exact NatI.one) | exact NatI.cast _)); omega); apply allAnd; (intro _; exact ltA))
    | ((apply LO.bsR10; exact rfl); apply allAnd; (intro _; exact ltA))
    | ((apply LO.bsR0); apply allAnd; (intro _; exact ltA))
    | ((apply LO.bsR1; exact rfl); apply allAnd; (intro _; exact ltA))
    | ((apply LO.bsV1; exact rfl; exact knA); apply allAnd; (intro _; exact ltA))
    | ((apply LO.bsLn0); apply allAnd; (intro _; exact ltA))
    | ((apply LO.bsLn1; exact rfl; exact hmA); apply allAnd; (intro _; exact ltA))
    | ((apply LO.bsR2; exact rfl; exact rfl); apply allAnd; (intro _; exact ltA))
    | ((apply LO.bsLn3; exact rfl; exact rfl; exact rfl; exact hmA; exact hmA; exact hmA); apply allAnd; (intro _; exact ltA))
    | ((apply LO.appR1; exact rfl; exact rfl; exact meA; exact hmA; (intro _; exact seA); omega); apply allAnd; (intro _; exact ltA))
    | ((apply LO.appFf; exact rfl; exact rfl; exact hmA; (intro _; exact seA); omega); apply allAnd; (intro _; exact ltA))
    | ((apply LO.appVV; exact rfl; exact rfl; exact meA; (apply One.sl; exact knA); (intro _; exact seA); omega); apply allAnd; (intro _; exact ltA))
    | ((apply LO.appNN; exact rfl; exact rfl; exact meA; (intro _; exact seA); omega); apply allAnd; (intro _; exact ltA))
    | ((apply LO.appLn1; exact rfl; exact rfl; exact meA; exact hmA; exact hmA; (intro _; exact seA); omega); apply allAnd; (intro _; exact ltA))
    | ((apply LO.appLnf; exact rfl; exact rfl; exact hmA; (intro _; exact seA); omega; omega); apply allAnd; (intro _; exact ltA))
    | ((apply LO.appFg; exact rfl; exact rfl; exact hmA; (intro _; exact seA); omega; omega); apply allAnd; (intro _; exact ltA))
    | ((apply LO.appLnf0; exact rfl; exact rfl; exact hmA; (intro _; exact seA); omega); apply allAnd; (intro _; exact ltA)))
  exact Bx.h h) : G := s ⟨h⟩
theorem goLS {G G' : Prop} (h : G') (s : Bx G' → G := by
  intro h
  (first
    | ((first | (apply LO.storeOI; exact rfl; exact rfl; exact t3A; exact seA; (first | omega | (simp only [List.length_set]; omega))) | (apply LO.storeQ; exact rfl; exact rfl; exact t4A; exact hmA; exact seA; omega) | (apply LO.storeI; exact rfl; exact rfl; exact t3A; exact seA; (first | omega | (simp only [List.length_set, List.length_replicate]; omega))) | (apply LO.storeWI; exact rfl; exact rfl; exact seA; exact t4A; (first | omega | (simp only [List.length_set, List.length_replicate]; omega)); (first | (simp only [List.length_map, List.length_set, List.length_replicate, ints]; omega) | rfl)) | (apply LO.store1; exact rfl; exact rfl; exact t3A; (first | exact One.lit rfl rfl | (apply One.sl; exact knA)); exact seA; (first | (simp only [List.length_cons, List.length_nil]; omega) | (simp; omega)); (first | (simp only [List.set_cons_succ, List.set_cons_zero]; exact rfl) | exact rfl)) | (apply LO.storeO1; exact rfl; exact rfl; exact t3A; (first | exact One.lit rfl rfl | (apply One.sl; exact knA)); exact seA; (first | (simp only [List.length_cons, List.length_nil]; omega) | (simp; omega)); (first | (simp only [List.set_cons_succ, List.set_cons_zero]; exact rfl) | exact rfl)) | (apply LO.storeL; exact rfl; exact rfl; exact seA; exact t4A; exact rfl; exact rfl; (repeat (first | exact OneL.nil | (apply OneL.cons; (first | exact One.lit rfl rfl | (apply One.sl; exact knA))))))); constructor; exact ltA))
  exact Bx.h h) : G := s ⟨h⟩
theorem goYT {G G' : Prop} (h : G') (s : Bx G' → G := by
  intro h
  (apply WD.yl; exact rfl; (first | (apply YO.move; exact rfl) | (apply YO.assign; exact rfl) | exact y_lss | exact y_add | exact y_len | exact y_indexAddr | exact y_load | exact y_pick | exact y_fieldAddr | exact y_eql | exact y_neq | (apply YO.nil; exact rfl) | (apply YO.extract; exact rfl; exact rfl) | exact y_gtr | exact y_geq | exact y_leq | (apply YO.sub; exact rfl; exact rfl; omega; omega) | exact y_mul | exact y_rem | exact y_quo | exact y_unot | exact y_uneg | (apply YO.max; exact rfl; exact rfl) | (apply YO.min; exact rfl; exact rfl) | exact y_makeFunc | exact y_conv | exact y_shl | (apply YO.shr'; exact rfl; exact rfl; omega; omega) | exact y_and | exact y_or | (apply YO.anot; exact rfl; exact rfl) | exact y_slice); exact rfl; exact rfl)
  exact Bx.h h) : G := s ⟨h⟩
theorem goYB {G G' : Prop} (h : G') (s : Bx G' → G := by
  intro h
  (apply WD.yl; exact rfl; (first | exact y_build | exact y_slice | (apply YO.extract; exact rfl; exact rfl) | exact y_fieldAddr | exact y_indexAddr | exact y_load | fail); exact rfl; exact rfl)
  exact Bx.h h) : G := s ⟨h⟩
theorem goLY {G G' : Prop} (h : G') (s : Bx G' → G := by
  intro h
  (apply LO.ofY; (first | exact y_build | exact y_slice | (apply YO.extract; exact rfl; exact rfl) | exact y_fieldAddr | exact y_indexAddr | exact y_load | fail); constructor; exact ltA)
  exact Bx.h h) : G := s ⟨h⟩
section
variable {P : Program} {n : Nat} {L rest : List Oper} {e : Env} {bx b0 : List Ow} {F F0 : List Fct} {Q : Env → List Ow → List Fct → Prop} {d i : Nat} {ty : TypeId} {pos : String} {af : Array Edge} {g : Option (Nat × Bool)} {hs : List Nat} {r : Plan}
  {f : FuncId} {x : Operand} {args : List Operand} {ats : Array TypeId} {vs cs : List Value} {F' : List Fct} {u : Value} {el sz : Nat}
theorem WL.callV (hf : FnB P f vs [] F' (IsV u)) (hK : WL P n L rest ((d, u) :: e) bx F Q) (hx : ev e x = some (.func (.func f) #[] #[]) := by exact rfl) (hv : Evs e args vs := by repeat (first | exact Evs.nil | (apply Evs.cons; exact rfl))) (hF : HasAllB bx F F' := by repeat (first | exact HasAllB.nil | (apply HasAllB.cons; (first | (focus (apply HasB.oI; exact meA; done)) | (focus (apply HasB.c; exact meA; done)) | (focus (apply HasB.f; exact hsA; done)) | (focus (apply HasB.fF; exact meA; exact hmA; done)) | (focus (apply HasB.rows; (repeat (first | exact List.Sublist.refl _ | apply List.Sublist.cons)); exact hmA; done)) | (focus (apply HasB.sV; exact meA; done)) | (focus (apply HasB.sN; exact meA; done)) | (focus (apply HasB.fLn; exact meA; exact hmA; done))))))
    (hd : Nat.blt d n = true := by exact rfl) (hg : gok L e g = some true := by exact rfl) : WL P n L (⟨some d, .call { callee := .value x, args := args.toArray, argTypes := ats }, ty, pos, af, g⟩ :: rest) e bx F Q :=
  WL.l hd hg (LO.callRV hx hv hf hF hK)
theorem WL.callO (hf : FnB P f vs [] F' (IsO el sz cs)) (hK : ∀ v, WL P n L rest ((d, v) :: e) (Ow.slice v el sz cs :: bx) F Q) (hx : ev e x = some (.func (.func f) #[] #[]) := by exact rfl) (hv : Evs e args vs := by repeat (first | exact Evs.nil | (apply Evs.cons; exact rfl))) (hF : HasAllB bx F F' := by repeat (first | exact HasAllB.nil | (apply HasAllB.cons; (first | (focus (apply HasB.oI; exact meA; done)) | (focus (apply HasB.c; exact meA; done)) | (focus (apply HasB.f; exact hsA; done)) | (focus (apply HasB.fF; exact meA; exact hmA; done)) | (focus (apply HasB.rows; (repeat (first | exact List.Sublist.refl _ | apply List.Sublist.cons)); exact hmA; done)) | (focus (apply HasB.sV; exact meA; done)) | (focus (apply HasB.sN; exact meA; done)) | (focus (apply HasB.fLn; exact meA; exact hmA; done))))))
    (hd : Nat.blt d n = true := by exact rfl) (hg : gok L e g = some true := by exact rfl) : WL P n L (⟨some d, .call { callee := .value x, args := args.toArray, argTypes := ats }, ty, pos, af, g⟩ :: rest) e bx F Q :=
  WL.l hd hg (LO.callRO hx hv hf hF hK)
theorem WD.callV (hf : FnB P f vs [] F' (IsV u)) (hK : WD P n L hs b0 F0 r ((d, u) :: e) bx F Q) (hL : L[i]? = some ⟨some d, .call { callee := .value x, args := args.toArray, argTypes := ats }, ty, pos, af, g⟩ := by exact rfl) (hx : ev e x = some (.func (.func f) #[] #[]) := by exact rfl) (hv : Evs e args vs := by repeat (first | exact Evs.nil | (apply Evs.cons; exact rfl))) (hF : HasAllB bx F F' := by repeat (first | exact HasAllB.nil | (apply HasAllB.cons; (first | (focus (apply HasB.oI; exact meA; done)) | (focus (apply HasB.c; exact meA; done)) | (focus (apply HasB.f; exact hsA; done)) | (focus (apply HasB.fF; exact meA; exact hmA; done)) | (focus (apply HasB.rows; (repeat (first | exact List.Sublist.refl _ | apply List.Sublist.cons)); exact hmA; done)) | (focus (apply HasB.sV; exact meA; done)) | (focus (apply HasB.sN; exact meA; done)) | (focus (apply HasB.fLn; exact meA; exact hmA; done))))))
    (hd : Nat.blt d n = true := by exact rfl) (hg : gok L e g = some true := by exact rfl) (lt : lateB L hs i = true ∨ (b0.Sublist bx ∧ ∀ f ∈ F0, f ∈ F) := by exact ltA) : WD P n L hs b0 F0 (.loud i r) e bx F Q :=
  WD.l hL hd hg (LO.callRV hx hv hf hF ⟨lt, hK⟩)
theorem WD.callO (hf : FnB P f vs [] F' (IsO el sz cs)) (hK : ∀ v, WD P n L hs b0 F0 r ((d, v) :: e) (Ow.slice v el sz cs :: bx) F Q) (hL : L[i]? = some ⟨some d, .call { callee := .value x, args := args.toArray, argTypes := ats }, ty, pos, af, g⟩ := by exact rfl) (hx : ev e x = some (.func (.func f) #[] #[]) := by exact rfl) (hv : Evs e args vs := by repeat (first | exact Evs.nil | (apply Evs.cons; exact rfl))) (hF : HasAllB bx F F' := by repeat (first | exact HasAllB.nil | (apply HasAllB.cons; (first | (focus (apply HasB.oI; exact meA; done)) | (focus (apply HasB.c; exact meA; done)) | (focus (apply HasB.f; exact hsA; done)) | (focus (apply HasB.fF; exact meA; exact hmA; done)) | (focus (apply HasB.rows; (repeat (first | exact List.Sublist.refl _ | apply List.Sublist.cons)); exact hmA; done)) | (focus (apply HasB.sV; exact meA; done)) | (focus (apply HasB.sN; exact meA; done)) | (focus (apply HasB.fLn; exact meA; exact hmA; done))))))
    (hd : Nat.blt d n = true := by exact rfl) (hg : gok L e g = some true := by exact rfl) (lt : lateB L hs i = true ∨ (b0.Sublist bx ∧ ∀ f ∈ F0, f ∈ F) := by exact ltA) : WD P n L hs b0 F0 (.loud i r) e bx F Q :=
  WD.l hL hd hg (LO.callRO hx hv hf hF fun v => ⟨lt.imp id fun h => ⟨h.1.trans (List.sublist_cons_self _ _), h.2⟩, hK v⟩)
end
end U
end Go.Proofs.YtaongbhamadlkaaGreat
namespace Go.Proofs.YtaongbhamadlkaaGreat
open W Go.RowKit
abbrev lv5 (a : Value) (b : QM) : Value := .agg #[a, .bool b.1, b.2.1, .bool false, b.2.2]
def IsOF (n : Nat) (q : Nat → Rat) : RPost := fun v B G => ∃ ms, B = [Ow.slice v 31 4 (qcells n ms)] ∧ G = [mF n ms q]
def IsLine (w : Nat) (a : Nat → Rat) (b : Rat) : RPost := fun v B G => ∃ av ma mb, v = lv5 av mb ∧ B = [] ∧ G = [fF av w ma a, isQ (qv mb) b]
def IsLns (w : Nat) (L : List X.Ln) : RPost := fun v B G => ∃ M : Pm, v = M.lv ∧ B = [] ∧ G = [fLn M w L]
theorem Sq.smL {K : Nat} {q : Rat} (h : Sq K q) (hK : 4 * K + 1 ≤ 400000000) : Sm q := h.sm (by omega)
namespace U
open Z
attribute [local irreducible] WC WL WD YO LO LoopEnd W.Fin Scalar SliceT FieldAt Row ArrT AllocT KnS Has W.One SrcE IntT
theorem d58 {G G' : Prop} (h : G') (s : Bx G' → G := by
  intro h
  first | (apply WC.draw (id := 5) [0, 1, 2, 3, 4, 5] (.held 0 (.held 1 (.held 2 (.held 3 (.held 4 (.held 5 (.loud 6 (.loud 7 (.loud 8 (.loud 9 (.done))))))))))) mixed (by kernel_rfl)) | fail
  exact Bx.h h) : G := s ⟨h⟩
theorem d123 {G G' : Prop} (h : G') (s : Bx G' → G := by
  intro h
  first | (apply WC.draw (id := 1) [0, 1, 2, 4, 5, 6, 9, 10, 11, 13, 14, 15] (.held 0 (.held 1 (.held 2 (.held 4 (.held 5 (.held 6 (.held 9 (.held 10 (.held 11 (.held 13 (.held 14 (.held 15 (.loud 3 (.loud 7 (.loud 8 (.loud 12 (.loud 16 (.loud 17 (.loud 18 (.loud 19 (.done))))))))))))))))))))) mixed (by kernel_rfl)) | fail
  exact Bx.h h) : G := s ⟨h⟩
theorem d131 {G G' : Prop} (h : G') (s : Bx G' → G := by
  intro h
  first | (apply WC.draw (id := 5) [0, 1, 2, 3, 4, 5, 6, 7, 8] (.held 0 (.held 1 (.held 2 (.held 3 (.held 4 (.held 5 (.held 6 (.held 7 (.held 8 (.loud 9 (.loud 10 (.loud 11 (.loud 12 (.done)))))))))))))) mixed (by kernel_rfl)) | fail
  exact Bx.h h) : G := s ⟨h⟩
set_option maxHeartbeats 4000000 in
set_option maxRecDepth 60000 in
theorem scaled_c (v : Value) (n : Nat) (ms : Nat → QM) (a : Nat → Rat) (m : QM) (f : Rat) (hn : n ≤ 10000) (ha : ∀ i, i < n → Sm (a i)) (hf : Sm f) : FnB Tryz.prog 58 [v, qv m] [] [fF v n ms a, isQ (qv m) f] (IsOF n fun k => a k * f) := by
  refine fn_of [(0, v), (1, (qv m))] 23 Tryz.func58 rfl Tryz.ntmps58 (by kernel_rfl) rfl suA fun h0 => ?_
  refine WC.addNil 31 4 ?_
  repeat' (first | refine gB ?_ | (refine gH ?_; intro g) | (refine gW ?_; intro v) | refine gY ?_ | refine d58 ?_ | fail)
  revert g; intro g3
  refine WC.lp (σ := Nat × Value × (Nat → QM)) (fun st => [(6, .int .i64 (st.1 : Int)), (0, v), (5, st.2.1), (3, ptr g3)]) (fun st => [Ow.cells g3 31 (qcs m), Ow.slice st.2.1 31 4 (qcells st.1 st.2.2)])
    (fun st => [mF st.1 st.2.2 (clx (fun k => a k * f) st.1), ge h0, fF v n ms a, isQ (qv m) f]) (fun st => st.1 ≤ n) (fun st => n - st.1) (0, .slice none 0 0, fun _ => m00) (Nat.zero_le _) ?_ (hG := .cons (W.Has.mFn _ _) (.cons hmA (.cons hmA (.cons hmA .nil))))
  rintro ⟨k, sv, ms2⟩ hk
  simp only at hk ⊢
  by_cases c : k < n
  · refine WC.fact (isQ (qv (ms k)) (a k)) (W.Has.q (W.Has.fm (v := v) hmA) c) ?_
    repeat' (first | refine gB ?_ | (refine gH ?_; intro g) | (refine gW ?_; intro v) | refine gY ?_ | refine d58 ?_ | fail)
    first | refine WL.callK (Zn.rmul (ms k) m (a k) f (ha k c) hf) ?_ | refine WD.callK (Zn.rmul (ms k) m (a k) f (ha k c) hf) ?_ | refine LO.callM (Zn.rmul (ms k) m (a k) f (ha k c) hf) ?_
    rintro _ _ _ ⟨m3, rfl, rfl, rfl⟩
    simp only [List.nil_append, List.cons_append]
    refine WD.fact (mF (k + 1) (upd ms2 k m3) (clx (fun k => a k * f) (k + 1))) ((W.Has.mFapp (n := k) (ms := ms2) (m := m3) (qf := clx _ k) hmA hmA).mFsame fun j hj => clx_up (c := fun k => a k * f) j) ?_
    repeat' (first | refine gB ?_ | (refine gH ?_; intro g) | (refine gW ?_; intro v) | refine gY ?_ | refine d58 ?_ | fail)
    exact LoopEnd.mk (k + 1, _, _) (by show k + 1 ≤ n; omega) (by show n - (k + 1) < n - k; omega)
  · obtain rfl : n = k := by omega
    repeat' (first | refine gB ?_ | (refine gH ?_; intro g) | (refine gW ?_; intro v) | refine gY ?_ | refine d58 ?_ | fail)
    refine WC.fact (mF n ms2 fun k => a k * f) (W.Has.mFsame (qf := clx (fun k => a k * f) n) hmA fun j hj => by unfold clx; rw [if_pos hj]) ?_
    refine WC.ret ?_
    exact Fin.p [_] [mF n ms2 fun k => a k * f] (ResE.t1 rfl rfl) meA slA haA ⟨ms2, rfl, rfl⟩
set_option maxHeartbeats 4000000 in
set_option maxRecDepth 60000 in
theorem added_c (v u : Value) (n : Nat) (ms mt : Nat → QM) (a b : Nat → Rat) (hn : n ≤ 10000) (ha : ∀ i, i < n → Sm (a i)) (hb : ∀ i, i < n → Sm (b i)) : FnB Tryz.prog 131 [v, u] [] [fF v n ms a, fF u n mt b] (IsF n fun k => a k + b k) := by
  refine fn_of [(0, v), (1, u)] 26 Tryz.func131 rfl Tryz.ntmps131 (by kernel_rfl) rfl suA fun h0 => ?_
  refine WC.addNil 31 4 ?_
  repeat' (first | refine gB ?_ | (refine gH ?_; intro g) | (refine gW ?_; intro v) | refine gY ?_ | refine d131 ?_ | fail)
  refine WC.lp (σ := Nat × Value × (Nat → QM)) (fun st => [(6, .int .i64 (st.1 : Int)), (0, v), (1, u), (5, st.2.1)]) (fun st => [Ow.slice st.2.1 31 4 (qcells st.1 st.2.2)])
    (fun st => [mF st.1 st.2.2 (clx (fun k => a k + b k) st.1), ge h0, fF v n ms a, fF u n mt b]) (fun st => st.1 ≤ n) (fun st => n - st.1) (0, .slice none 0 0, fun _ => m00) (Nat.zero_le _) ?_ (hG := .cons (W.Has.mFn _ _) (.cons hmA (.cons hmA (.cons hmA .nil))))
  rintro ⟨k, sv, ms2⟩ hk
  simp only at hk ⊢
  by_cases c : k < n
  · refine WC.fact (isQ (qv (ms k)) (a k)) (W.Has.q (W.Has.fm (v := v) (ms := ms) hmA) c) ?_
    refine WC.fact (isQ (qv (mt k)) (b k)) (W.Has.q (W.Has.fm (v := u) (ms := mt) hmA) c) ?_
    repeat' (first | refine gB ?_ | (refine gH ?_; intro g) | (refine gW ?_; intro v) | refine gY ?_ | refine d131 ?_ | fail)
    first | refine WL.callK (Zn.radd (ms k) (mt k) (a k) (b k) (ha k c) (hb k c)) ?_ | refine WD.callK (Zn.radd (ms k) (mt k) (a k) (b k) (ha k c) (hb k c)) ?_ | refine LO.callM (Zn.radd (ms k) (mt k) (a k) (b k) (ha k c) (hb k c)) ?_
    rintro _ _ _ ⟨m3, rfl, rfl, rfl⟩
    simp only [List.nil_append, List.cons_append]
    refine WD.fact (mF (k + 1) (upd ms2 k m3) (clx (fun k => a k + b k) (k + 1))) ((W.Has.mFapp (n := k) (ms := ms2) (m := m3) (qf := clx _ k) hmA hmA).mFsame fun j hj => clx_up (c := fun k => a k + b k) j) ?_
    repeat' (first | refine gB ?_ | (refine gH ?_; intro g) | (refine gW ?_; intro v) | refine gY ?_ | refine d131 ?_ | fail)
    exact LoopEnd.mk (k + 1, _, _) (by show k + 1 ≤ n; omega) (by show n - (k + 1) < n - k; omega)
  · obtain rfl : n = k := by omega
    repeat' (first | refine gB ?_ | (refine gH ?_; intro g) | (refine gW ?_; intro v) | refine gY ?_ | refine d131 ?_ | fail)
    refine WC.freezeF sv n ms2 (fun k => a k + b k) (by repeat (first | exact Sel.head | apply Sel.tail)) (W.Has.mFsame (qf := clx (fun k => a k + b k) n) hmA fun j hj => by unfold clx; rw [if_pos hj]) ?_
    refine WC.ret ?_
    exact Fin.p [] [fF sv n ms2 fun k => a k + b k] (ResE.t1 rfl rfl) meA (List.nil_sublist _) haA ⟨ms2, rfl, rfl⟩
set_option maxHeartbeats 4000000 in
set_option maxRecDepth 60000 in
theorem combined_c (v u : Value) (w K : Nat) (ms mt : Nat → QM) (a b : Nat → Rat) (mx my mf mg : QM) (x y f gq : Rat) (hw : w ≤ 10000) (hK : 4 * K + 1 ≤ 400000000) (ha : ∀ i, i < w → Sq K (a i)) (hb : ∀ i, i < w → Sq K (b i)) (hx : Sq K x) (hy : Sq K y) (hf : Sq K f) (hg : Sq K gq) :
    FnB Tryz.prog 123 [lv5 v mx, qv mf, lv5 u my, qv mg] [] [fF v w ms a, isQ (qv mx) x, isQ (qv mf) f, fF u w mt b, isQ (qv my) y, isQ (qv mg) gq] (IsLine w (fun k => a k * f + b k * gq) (x * f + y * gq)) := by
  refine fn_of [(0, (lv5 v mx)), (1, (qv mf)), (2, (lv5 u my)), (3, (qv mg))] 28 Tryz.func123 rfl Tryz.ntmps123 (by kernel_rfl) rfl suA fun h0 => ?_
  repeat' (first | refine gB ?_ | (refine gH ?_; intro g) | (refine gW ?_; intro v) | refine gY ?_ | refine d123 ?_ | fail)
  refine WD.callK (scaled_c v w ms a mf f hw (fun i hi => (ha i hi).smL hK) (hf.smL hK)) ?_
  rintro v1 _ _ ⟨m1, rfl, rfl⟩
  simp only [List.nil_append, List.cons_append]
  refine WD.freezeF v1 w m1 (fun k => a k * f) (by repeat (first | exact Sel.head | apply Sel.tail)) hmA ?_
  repeat' (first | refine gB ?_ | (refine gH ?_; intro g) | (refine gW ?_; intro v) | refine gY ?_ | refine d123 ?_ | fail)
  refine WD.callK (scaled_c u w mt b mg gq hw (fun i hi => (hb i hi).smL hK) (hg.smL hK)) ?_
  rintro v2 _ _ ⟨m2, rfl, rfl⟩
  simp only [List.nil_append, List.cons_append]
  refine WD.freezeF v2 w m2 (fun k => b k * gq) (by repeat (first | exact Sel.head | apply Sel.tail)) hmA ?_
  repeat' (first | refine gB ?_ | (refine gH ?_; intro g) | (refine gW ?_; intro v) | refine gY ?_ | refine d123 ?_ | fail)
  refine WD.callK (added_c v1 v2 w m1 m2 (fun k => a k * f) (fun k => b k * gq) hw (fun i hi => ((ha i hi).mul hf).sm (by omega)) (fun i hi => ((hb i hi).mul hg).sm (by omega))) ?_
  rintro v3 _ _ ⟨m3, rfl, rfl⟩
  simp only [List.nil_append, List.cons_append]
  repeat' (first | refine gB ?_ | (refine gH ?_; intro g) | (refine gW ?_; intro v) | refine gY ?_ | refine d123 ?_ | fail)
  first | refine WL.callK (Zn.rmul mx mf x f (hx.smL hK) (hf.smL hK)) ?_ | refine WD.callK (Zn.rmul mx mf x f (hx.smL hK) (hf.smL hK)) ?_ | refine LO.callM (Zn.rmul mx mf x f (hx.smL hK) (hf.smL hK)) ?_
  rintro _ _ _ ⟨m4, rfl, rfl, rfl⟩
  simp only [List.nil_append, List.cons_append]
  repeat' (first | refine gB ?_ | (refine gH ?_; intro g) | (refine gW ?_; intro v) | refine gY ?_ | refine d123 ?_ | fail)
  first | refine WL.callK (Zn.rmul my mg y gq (hy.smL hK) (hg.smL hK)) ?_ | refine WD.callK (Zn.rmul my mg y gq (hy.smL hK) (hg.smL hK)) ?_ | refine LO.callM (Zn.rmul my mg y gq (hy.smL hK) (hg.smL hK)) ?_
  rintro _ _ _ ⟨m5, rfl, rfl, rfl⟩
  simp only [List.nil_append, List.cons_append]
  repeat' (first | refine gB ?_ | (refine gH ?_; intro g) | (refine gW ?_; intro v) | refine gY ?_ | refine d123 ?_ | fail)
  first | refine WL.callK (Zn.radd m4 m5 (x * f) (y * gq) ((hx.mul hf).sm (by omega)) ((hy.mul hg).sm (by omega))) ?_ | refine WD.callK (Zn.radd m4 m5 (x * f) (y * gq) ((hx.mul hf).sm (by omega)) ((hy.mul hg).sm (by omega))) ?_ | refine LO.callM (Zn.radd m4 m5 (x * f) (y * gq) ((hx.mul hf).sm (by omega)) ((hy.mul hg).sm (by omega))) ?_
  rintro _ _ _ ⟨m6, rfl, rfl, rfl⟩
  simp only [List.nil_append, List.cons_append]
  repeat' (first | refine gB ?_ | (refine gH ?_; intro g) | (refine gW ?_; intro v) | refine gY ?_ | refine d123 ?_ | fail)
  repeat' (first | refine gB ?_ | (refine gH ?_; intro g) | (refine gW ?_; intro v) | refine gY ?_ | refine d123 ?_ | fail)
  refine WC.ret ?_
  exact Fin.p [] [fF v3 w m3 fun k => a k * f + b k * gq, isQ (qv m6) (x * f + y * gq)] (ResE.cV rfl rfl meA T.r60 rfl) meA (List.nil_sublist _) haA ⟨v3, m3, m6, rfl, rfl, rfl⟩
end U
end Go.Proofs.YtaongbhamadlkaaGreat
namespace Go.Proofs.YtaongbhamadlkaaGreat
namespace X
def nb (n : Nat) : Nat := if n ≤ 4 then 4 else n * n / 4
theorem nb_pq (z p q : Nat) : z + p * q ≤ nb (z + p + q) := by
  have key : p * q = 0 ∨ 4 * (z + p * q) ≤ (z + p + q) * (z + p + q) := by
    cases p with
    | zero => left; simp
    | succ p =>
      cases q with
      | zero => left; simp
      | succ q =>
        right
        have e1 : (z + (p + 1) + (q + 1)) * (z + (p + 1) + (q + 1)) = (z + p + q) * (z + p + q) + 4 * (z + p + q) + 4 := by grind
        have e2 : (p + 1) * (q + 1) = p * q + p + q + 1 := by grind
        have e3 : 4 * (p * q) ≤ (p + q) * (p + q) := by
          rcases Nat.le_total p q with h | h
          · obtain ⟨d, rfl⟩ := Nat.le.dest h
            have : (p + (p + d)) * (p + (p + d)) = 4 * (p * (p + d)) + d * d := by grind
            omega
          · obtain ⟨d, rfl⟩ := Nat.le.dest h
            have : (q + d + q) * (q + d + q) = 4 * ((q + d) * q) + d * d := by grind
            omega
        have e4 : (p + q) * (p + q) ≤ (z + p + q) * (z + p + q) := Nat.mul_le_mul (by omega) (by omega)
        omega
  unfold nb
  by_cases c : z + p + q ≤ 4
  · rw [if_pos c]
    rcases key with h | h
    · omega
    · have : (z + p + q) * (z + p + q) ≤ 4 * 4 := Nat.mul_le_mul c c
      omega
  · rw [if_neg c]
    rcases key with h | h
    · have : 4 * (z + p + q) ≤ (z + p + q) * (z + p + q) := Nat.mul_le_mul_right _ (by omega)
      omega
    · omega
theorem cnt3 (k : Nat) : ∀ l : List Ln, (l.filter fun a => decide (co a k = 0)).length + (l.filter fun a => decide (0 < co a k)).length + (l.filter fun a => decide (co a k < 0)).length = l.length
  | [] => rfl
  | c :: l => by
    have ih := cnt3 k l
    simp only [List.filter_cons, List.length_cons]
    rcases (show co c k < 0 ∨ co c k = 0 ∨ 0 < co c k by grind) with g | g | g
    · rw [decide_eq_false (show ¬ co c k = 0 by grind), decide_eq_false (show ¬ 0 < co c k by grind), decide_eq_true g]
      simp only [if_true, Bool.false_eq_true, if_false, List.length_cons]; omega
    · rw [decide_eq_true g, decide_eq_false (show ¬ 0 < co c k by grind), decide_eq_false (show ¬ co c k < 0 by grind)]
      simp only [if_true, Bool.false_eq_true, if_false, List.length_cons]; omega
    · rw [decide_eq_false (show ¬ co c k = 0 by grind), decide_eq_true g, decide_eq_false (show ¬ co c k < 0 by grind)]
      simp only [if_true, Bool.false_eq_true, if_false, List.length_cons]; omega
def wr (l : List Ln) (k : Nat) (a : Ln) (l2 : List Ln) : List Ln := (l2.filter fun b => decide (0 < co a k ∧ co b k < 0)).map fun b => cmb a (-co b k) b (co a k)
theorem wo_eq (l : List Ln) (k : Nat) : wo l k = l.filter (fun a => decide (co a k = 0)) ++ l.flatMap fun a => wr l k a l := rfl
theorem wr_len (l : List Ln) (k : Nat) (a : Ln) : (wr l k a l).length = if 0 < co a k then (l.filter fun a => decide (co a k < 0)).length else 0 := by
  unfold wr
  rw [List.length_map]
  by_cases c : 0 < co a k
  · rw [if_pos c]; congr 2; funext b; simp [c]
  · rw [if_neg c]; simp [c]
theorem fm_len (l : List Ln) (k : Nat) : ∀ l1 : List Ln, (l1.flatMap fun a => wr l k a l).length = (l1.filter fun a => decide (0 < co a k)).length * (l.filter fun a => decide (co a k < 0)).length
  | [] => by simp
  | c :: l1 => by
    rw [List.flatMap_cons, List.length_append, fm_len l k l1, wr_len, List.filter_cons]
    by_cases g : 0 < co c k
    · rw [if_pos g, decide_eq_true g]; simp only [if_true, List.length_cons]; grind
    · rw [if_neg g, decide_eq_false g]; simp
theorem wo_count (l : List Ln) (k : Nat) : (wo l k).length ≤ nb l.length := by
  rw [wo_eq, List.length_append, fm_len, ← cnt3 k l]
  exact nb_pq _ _ _
theorem nb_mono {a b : Nat} (h : a ≤ b) : nb a ≤ nb b := by
  unfold nb
  by_cases c : b ≤ 4
  · rw [if_pos (by omega), if_pos c]; omega
  · rw [if_neg c]
    by_cases c2 : a ≤ 4
    · rw [if_pos c2]
      have : 4 * 4 ≤ b * b := Nat.mul_le_mul (by omega) (by omega)
      omega
    · rw [if_neg c2]
      have : a * a ≤ b * b := Nat.mul_le_mul h h
      omega
def nbs (n : Nat) : Nat → Nat
  | 0 => n
  | k + 1 => nb (nbs n k)
def kbs (K : Nat) : Nat → Nat
  | 0 => K
  | k + 1 => 4 * kbs K k + 1
theorem nbs_mono {a b : Nat} (h : a ≤ b) : ∀ k, nbs a k ≤ nbs b k
  | 0 => h
  | k + 1 => nb_mono (nbs_mono h k)
theorem kbs_le {K : Nat} : ∀ {k j : Nat}, k ≤ j → kbs K k ≤ kbs K j
  | k, 0, h => by rw [show k = 0 by omega]; exact Nat.le_refl _
  | k, j + 1, h => by
    by_cases c : k = j + 1
    · rw [c]; exact Nat.le_refl _
    · have := kbs_le (K := K) (k := k) (j := j) (by omega)
      rw [kbs]; omega
theorem wos_count (l : List Ln) : ∀ k, (wos l k).length ≤ nbs l.length k
  | 0 => Nat.le_refl _
  | k + 1 => Nat.le_trans (wo_count _ _) (nb_mono (wos_count l k))
theorem take_filter {l : List Ln} {p : Ln → Bool} {i : Nat} (h : i < l.length) : (l.take (i + 1)).filter p = (l.take i).filter p ++ if p (l.getD i ([], 0)) = true then [l.getD i ([], 0)] else [] := by
  have e : l.getD i ([], 0) = l[i] := by simp [List.getD_eq_getElem?_getD, h]
  rw [e, List.take_succ_eq_append_getElem h, List.filter_append]
  congr 1
  simp only [List.filter_cons, List.filter_nil]
theorem take_flat {l : List Ln} {f : Ln → List Ln} {i : Nat} (h : i < l.length) : (l.take (i + 1)).flatMap f = (l.take i).flatMap f ++ f (l.getD i ([], 0)) := by
  have e : l.getD i ([], 0) = l[i] := by simp [List.getD_eq_getElem?_getD, h]
  rw [e, List.take_succ_eq_append_getElem h, List.flatMap_append]
  congr 1
  simp
theorem take_wr {l l2 : List Ln} {k i : Nat} {a : Ln} (h : i < l2.length) : wr l k a (l2.take (i + 1)) = wr l k a (l2.take i) ++ if 0 < co a k ∧ co (l2.getD i ([], 0)) k < 0 then [cmb a (-co (l2.getD i ([], 0)) k) (l2.getD i ([], 0)) (co a k)] else [] := by
  unfold wr
  rw [take_filter h, List.map_append]
  congr 1
  by_cases c : 0 < co a k ∧ co (l2.getD i ([], 0)) k < 0
  · rw [if_pos c, if_pos (decide_eq_true c)]; rfl
  · rw [if_neg c, if_neg (by simp only [decide_eq_true_eq]; exact c)]; rfl
end X
end Go.Proofs.YtaongbhamadlkaaGreat
namespace Go.Proofs.YtaongbhamadlkaaGreat
open W Go.RowKit
def LSq (K w : Nat) (L : List X.Ln) : Prop := ∀ c ∈ L, c.1.length = w ∧ (∀ k, k < w → Sq K (X.co c k)) ∧ Sq K c.2
section
variable {K w k i : Nat} {L L2 : List X.Ln}
theorem getD_ln (h : i < L.length) : L.getD i ([], 0) ∈ L := by simp [List.getD_eq_getElem?_getD, h]
theorem LSq.ca (h : LSq K w L) (hi : i < L.length) (hk : k < w) : Sq K (X.ca L i k) := (h _ (getD_ln hi)).2.1 k hk
theorem LSq.cb (h : LSq K w L) (hi : i < L.length) : Sq K (X.cb L i) := (h _ (getD_ln hi)).2.2
theorem LSq.len (h : LSq K w L) : ∀ c ∈ L, c.1.length = w := fun c hc => (h c hc).1
theorem LSq.up {K2 : Nat} (h : LSq K w L) (hk : K ≤ K2) : LSq K2 w L := fun c hc => ⟨(h c hc).1, fun k hk' => ((h c hc).2.1 k hk').up hk, (h c hc).2.2.up hk⟩
theorem LSq.wo (h : LSq K w L) (hk : k < w) : LSq (4 * K + 1) w (X.wo L k) := fun c hc => by
  rcases X.wo_mem.1 hc with ⟨h1, _⟩ | ⟨a, ha, b, hb, _, _, rfl⟩
  · obtain ⟨e1, e2, e3⟩ := h c h1
    exact ⟨e1, fun k hk => (e2 k hk).up (by omega), e3.up (by omega)⟩
  · obtain ⟨a1, a2, a3⟩ := h a ha
    obtain ⟨b1, b2, b3⟩ := h b hb
    have hl : a.1.length = b.1.length := by rw [a1, b1]
    refine ⟨by rw [X.cmb_len hl, a1], fun j hj => ?_, ?_⟩
    · rw [X.co_cmb hl]
      exact (((a2 j hj).mul (b2 k hk).neg).add ((b2 j hj).mul (a2 k hk))).up (by omega)
    · exact ((a3.mul (b2 k hk).neg).add (b3.mul (a2 k hk))).up (by omega)
theorem LSq.wos (h : LSq K w L) : ∀ k, k ≤ w → LSq (X.kbs K k) w (X.wos L k)
  | 0, _ => h
  | k + 1, hk => LSq.wo (LSq.wos h k (by omega)) (by omega)
end
theorem flat_take {α β : Type} (f : α → List β) (L : List α) (j : Nat) : ((L.take j).flatMap f).length ≤ (L.flatMap f).length := by
  have := congrArg (fun l => (l.flatMap f).length) (List.take_append_drop j L)
  simp only [List.flatMap_append, List.length_append] at this
  omega
namespace U
open Z
attribute [local irreducible] WC WL WD YO LO LoopEnd W.Fin Scalar SliceT FieldAt Row ArrT AllocT KnS Has W.One SrcE IntT
theorem d59 {G G' : Prop} (h : G') (s : Bx G' → G := by
  intro h
  first | (apply WC.draw (id := 14) [0, 1, 2, 3, 4, 5, 6, 7, 8, 9, 10, 11, 12, 14, 15, 16, 17, 18, 19, 20, 21, 22, 23, 24, 25] (.held 0 (.held 1 (.held 2 (.held 3 (.held 4 (.held 5 (.held 6 (.held 7 (.held 8 (.held 9 (.held 10 (.held 11 (.held 12 (.held 14 (.held 15 (.held 16 (.held 17 (.held 18 (.held 19 (.held 20 (.held 21 (.held 22 (.held 23 (.held 24 (.held 25 (.loud 13 (.loud 26 (.loud 27 (.loud 28 (.loud 29 (.done))))))))))))))))))))))))))))))) mixed (by kernel_rfl)) | fail
  exact Bx.h h) : G := s ⟨h⟩
structure WS where
  n : Nat
  sv : Value
  M : Pm
  l : List X.Ln
set_option maxHeartbeats 8000000 in
set_option maxRecDepth 60000 in
theorem without_c (M : Pm) (K w k : Nat) (L : List X.Ln) (hw : w ≤ 10000) (hk : k < w) (hL : LSq K w L) (hK : 4 * K + 1 ≤ 400000000) (hn : L.length ≤ 1000) : FnB Tryz.prog 59 [M.lv, .int .i64 (k : Int)] [] [fLn M w L] (IsLns w (X.wo L k)) := by
  refine fn_of [(0, M.lv), (1, (.int .i64 (k : Int)))] 96 Tryz.func59 rfl Tryz.ntmps59 (by kernel_rfl) rfl suA fun h0 => ?_
  refine WC.addNil 60 5 ?_
  have hnb : X.nb L.length ≤ 250000 := Nat.le_trans (X.nb_mono hn) (by decide)
  have hcnt : (X.wo L k).length ≤ 250000 := Nat.le_trans (X.wo_count L k) hnb
  rw [X.wo_eq] at hcnt ⊢
  repeat' (first | refine gB ?_ | (refine gH ?_; intro g) | (refine gW ?_; intro v) | refine gY ?_ | refine d59 ?_ | fail)
  refine WC.lp (σ := Nat × WS) (fun st => [(6, .int .i64 (st.1 : Int)), (0, M.lv), (1, .int .i64 (k : Int)), (5, st.2.sv)]) (fun st => [Ow.slice st.2.sv 60 5 (lncells st.2.n st.2.M)])
    (fun st => [lnQ st.2.M w st.2.l, ge h0, fLn M w L]) (fun st => st.1 ≤ L.length ∧ st.2.n = st.2.l.length ∧ st.2.l = (L.take st.1).filter fun a => decide (X.co a k = 0)) (fun st => L.length - st.1) (0, ⟨0, .slice none 0 0, Pm.no, []⟩) ⟨Nat.zero_le _, rfl, rfl⟩ ?_ (hG := .cons W.Has.lnn (.cons hmA (.cons hmA .nil)))
  rintro ⟨i, n, sv, N, l⟩ ⟨hi, hl, hs⟩
  simp only at hi hl hs ⊢
  by_cases c : i < L.length
  · have hst := X.take_filter (p := fun a => decide (X.co a k = 0)) c
    have hb : l.length ≤ 1000 := by
      rw [hs]; exact Nat.le_trans (List.length_filter_le _ _) (by rw [List.length_take]; omega)
    refine WC.fact (fF (M.av i) w (M.ma i) (X.ca L i)) (W.Has.lna (W.Has.lnq (M := M) hmA) c) ?_
    refine WC.fact (isQ (qv (M.ma i k)) (X.ca L i k)) (W.Has.q (W.Has.fm (v := M.av i) hmA) hk) ?_
    refine WC.fact (isQ (qv (M.mb i)) (X.cb L i)) (W.Has.lnb (W.Has.lnq (M := M) hmA) c) ?_
    have hz := @sgn_zero (X.ca L i k)
    repeat' (first | refine gB ?_ | (refine gH ?_; intro g) | (refine gW ?_; intro v) | refine gY ?_ | refine d59 ?_ | fail)
    first | refine WL.callV (Zn.rsign (M.ma i k) (X.ca L i k)) ?_ | refine WD.callV (Zn.rsign (M.ma i k) (X.ca L i k)) ?_
    by_cases cz : X.ca L i k = 0
    · have hz' := hz.2 cz
      rw [if_pos (decide_eq_true (p := X.co (L.getD i ([], 0)) k = 0) cz), ← hs] at hst
      repeat' (first | refine gB ?_ | (refine gH ?_; intro g) | (refine gW ?_; intro v) | refine gY ?_ | refine d59 ?_ | fail)
      exact LoopEnd.mk (i + 1, ⟨n + 1, _, N.app n (M.av i) (M.ma i) (M.mb i), l ++ [L.getD i ([], 0)]⟩) ⟨c, by rw [List.length_append, hl]; rfl, hst.symm⟩ (by show L.length - (i + 1) < L.length - i; omega)
        (hG := .cons (by subst hl; exact W.Has.lnapp hmA (L.getD i ([], 0)) (show Has _ (fF (M.av i) w (M.ma i) (X.ca L i)) from hmA) (show Has _ (isQ (qv (M.mb i)) (X.cb L i)) from hmA)) (.cons hmA (.cons hmA .nil)))
    · have hz' : ¬ sgn (X.ca L i k).num = 0 := fun h => cz (hz.1 h)
      rw [if_neg (by rw [decide_eq_true_eq]; exact cz), List.append_nil, ← hs] at hst
      repeat' (first | refine gB ?_ | (refine gH ?_; intro g) | (refine gW ?_; intro v) | refine gY ?_ | refine d59 ?_ | fail)
      exact LoopEnd.mk (i + 1, ⟨n, _, _, l⟩) ⟨c, hl, hst.symm⟩ (by show L.length - (i + 1) < L.length - i; omega)
  · obtain rfl : i = L.length := by omega
    rw [List.take_length] at hs
    rw [← hs] at hcnt ⊢
    clear hi c
    repeat' (first | refine gB ?_ | (refine gH ?_; intro g) | (refine gW ?_; intro v) | refine gY ?_ | refine d59 ?_ | fail)
    have hl2 : n = l.length := hl
    refine WC.lp (σ := Nat × WS) (fun st => [(7, .int .i64 (st.1 : Int)), (0, M.lv), (1, .int .i64 (k : Int)), (5, st.2.sv)]) (fun st => [Ow.slice st.2.sv 60 5 (lncells st.2.n st.2.M)])
      (fun st => [lnQ st.2.M w st.2.l, ge h0, fLn M w L]) (fun st => st.1 ≤ L.length ∧ st.2.n = st.2.l.length ∧ st.2.l = l ++ (L.take st.1).flatMap fun a => X.wr L k a L) (fun st => L.length - st.1) (0, ⟨n, sv, N, l⟩) ⟨Nat.zero_le _, hl, by simp⟩ ?_
    rintro ⟨i, n, sv, N, l1⟩ ⟨hi, hl, hs⟩
    simp only at hi hl hs ⊢
    by_cases c : i < L.length
    · have hst := X.take_flat (f := fun a => X.wr L k a L) c
      have hb1 : (l ++ (L.take (i + 1)).flatMap fun a => X.wr L k a L).length ≤ 250000 := by
        refine Nat.le_trans ?_ hcnt
        rw [List.length_append, List.length_append]
        have := flat_take (fun a => X.wr L k a L) L (i + 1)
        omega
      rw [hst, ← List.append_assoc, ← hs] at hb1
      refine WC.fact (fF (M.av i) w (M.ma i) (X.ca L i)) (W.Has.lna (W.Has.lnq (M := M) hmA) c) ?_
      refine WC.fact (isQ (qv (M.ma i k)) (X.ca L i k)) (W.Has.q (W.Has.fm (v := M.av i) hmA) hk) ?_
      refine WC.fact (isQ (qv (M.mb i)) (X.cb L i)) (W.Has.lnb (W.Has.lnq (M := M) hmA) c) ?_
      repeat' (first | refine gB ?_ | (refine gH ?_; intro g) | (refine gW ?_; intro v) | refine gY ?_ | refine d59 ?_ | fail)
      refine WC.lp (σ := Nat × WS) (fun st => [(8, .int .i64 (st.1 : Int)), (7, .int .i64 (i : Int)), (0, M.lv), (1, .int .i64 (k : Int)), (5, st.2.sv)]) (fun st => [Ow.slice st.2.sv 60 5 (lncells st.2.n st.2.M)])
        (fun st => [lnQ st.2.M w st.2.l, isQ (qv (M.mb i)) (X.cb L i), isQ (qv (M.ma i k)) (X.ca L i k), fF (M.av i) w (M.ma i) (X.ca L i), ge h0, fLn M w L]) (fun st => st.1 ≤ L.length ∧ st.2.n = st.2.l.length ∧ st.2.l = l1 ++ X.wr L k (L.getD i ([], 0)) (L.take st.1)) (fun st => L.length - st.1) (0, ⟨n, sv, N, l1⟩) ⟨Nat.zero_le _, hl, by simp [X.wr]⟩ ?_
      rintro ⟨j, n, sv, N, l2⟩ ⟨hj, hl, hs2⟩
      simp only at hj hl hs2 ⊢
      by_cases d : j < L.length
      · have hst2 := X.take_wr (l := L) (l2 := L) (k := k) (a := L.getD i ([], 0)) d
        have hb2 : l2.length ≤ 250000 := by
          refine Nat.le_trans ?_ hb1
          rw [hs2, List.length_append, List.length_append]
          have : (X.wr L k (L.getD i ([], 0)) (L.take j)).length ≤ (X.wr L k (L.getD i ([], 0)) L).length := by
            unfold X.wr
            rw [List.length_map, List.length_map]
            exact (List.Sublist.filter _ (List.take_sublist j L)).length_le
          omega
        refine WC.fact (fF (M.av j) w (M.ma j) (X.ca L j)) (W.Has.lna (W.Has.lnq (M := M) hmA) d) ?_
        refine WC.fact (isQ (qv (M.ma j k)) (X.ca L j k)) (W.Has.q (W.Has.fm (v := M.av j) hmA) hk) ?_
        refine WC.fact (isQ (qv (M.mb j)) (X.cb L j)) (W.Has.lnb (W.Has.lnq (M := M) hmA) d) ?_
        have hp := @sgn_pos (X.ca L i k)
        have hn := @sgn_neg (X.ca L j k)
        repeat' (first | refine gB ?_ | (refine gH ?_; intro g) | (refine gW ?_; intro v) | refine gY ?_ | refine d59 ?_ | fail)
        first | refine WL.callV (Zn.rsign (M.ma i k) (X.ca L i k)) ?_ | refine WD.callV (Zn.rsign (M.ma i k) (X.ca L i k)) ?_
        by_cases cp : 0 < X.ca L i k
        · have cp' := hp.2 cp
          repeat' (first | refine gB ?_ | (refine gH ?_; intro g) | (refine gW ?_; intro v) | refine gY ?_ | refine d59 ?_ | fail)
          first | refine WL.callV (Zn.rsign (M.ma j k) (X.ca L j k)) ?_ | refine WD.callV (Zn.rsign (M.ma j k) (X.ca L j k)) ?_
          by_cases cn : X.ca L j k < 0
          · have cn' := hn.2 cn
            rw [if_pos (show 0 < X.co (L.getD i ([], 0)) k ∧ X.co (L.getD j ([], 0)) k < 0 from ⟨cp, cn⟩)] at hst2
            have hst3 : l2 ++ [X.cmb (L.getD i ([], 0)) (-X.co (L.getD j ([], 0)) k) (L.getD j ([], 0)) (X.co (L.getD i ([], 0)) k)] = l1 ++ X.wr L k (L.getD i ([], 0)) (L.take (j + 1)) := by rw [hst2, ← List.append_assoc, ← hs2]
            have hll : (L.getD i ([], 0)).1.length = (L.getD j ([], 0)).1.length := by rw [hL.len _ (getD_ln c), hL.len _ (getD_ln d)]
            repeat' (first | refine gB ?_ | (refine gH ?_; intro g) | (refine gW ?_; intro v) | refine gY ?_ | refine d59 ?_ | fail)
            first | refine WL.callK (Zn.rneg (M.ma j k) (X.ca L j k)) ?_ | refine WD.callK (Zn.rneg (M.ma j k) (X.ca L j k)) ?_ | refine LO.callM (Zn.rneg (M.ma j k) (X.ca L j k)) ?_
            rintro _ _ _ ⟨mn, rfl, rfl, rfl⟩
            simp only [List.nil_append, List.cons_append]
            repeat' (first | refine gB ?_ | (refine gH ?_; intro g) | (refine gW ?_; intro v) | refine gY ?_ | refine d59 ?_ | fail)
            refine WD.callK (combined_c (M.av i) (M.av j) w K (M.ma i) (M.ma j) (X.ca L i) (X.ca L j) (M.mb i) (M.mb j) mn (M.ma i k) (X.cb L i) (X.cb L j) (-X.ca L j k) (X.ca L i k) hw hK (fun q hq => hL.ca c hq) (fun q hq => hL.ca d hq) (hL.cb c) (hL.cb d) (hL.ca d hk).neg (hL.ca c hk)) ?_
            rintro _ _ _ ⟨av, ma, mb, rfl, rfl, rfl⟩
            simp only [List.nil_append, List.cons_append]
            refine WD.fact (lnQ (N.app n av ma mb) w (l2 ++ [X.cmb (L.getD i ([], 0)) (-X.co (L.getD j ([], 0)) k) (L.getD j ([], 0)) (X.co (L.getD i ([], 0)) k)])) (by
              subst hl
              refine W.Has.lnapp hmA _ ?_ (show Has _ (isQ (qv mb) (X.cb L i * -X.ca L j k + X.cb L j * X.ca L i k)) from hmA)
              rw [show X.co (X.cmb (L.getD i ([], 0)) (-X.co (L.getD j ([], 0)) k) (L.getD j ([], 0)) (X.co (L.getD i ([], 0)) k)) = fun q => X.ca L i q * -X.ca L j k + X.ca L j q * X.ca L i k from funext fun q => X.co_cmb hll q]
              exact hmA) ?_
            repeat' (first | refine gB ?_ | (refine gH ?_; intro g) | (refine gW ?_; intro v) | refine gY ?_ | refine d59 ?_ | fail)
            exact LoopEnd.mk (j + 1, ⟨n + 1, _, _, _⟩) ⟨d, by rw [List.length_append, hl]; rfl, hst3⟩ (by show L.length - (j + 1) < L.length - j; omega)
          · have cn' : ¬ sgn (X.ca L j k).num < 0 := fun h => cn (hn.1 h)
            rw [if_neg (show ¬ (0 < X.co (L.getD i ([], 0)) k ∧ X.co (L.getD j ([], 0)) k < 0) from fun h => cn h.2), List.append_nil] at hst2
            repeat' (first | refine gB ?_ | (refine gH ?_; intro g) | (refine gW ?_; intro v) | refine gY ?_ | refine d59 ?_ | fail)
            exact LoopEnd.mk (j + 1, ⟨n, _, _, _⟩) ⟨d, hl, by rw [hst2]; exact hs2⟩ (by show L.length - (j + 1) < L.length - j; omega)
        · have cp' : ¬ 0 < sgn (X.ca L i k).num := fun h => cp (hp.1 h)
          rw [if_neg (show ¬ (0 < X.co (L.getD i ([], 0)) k ∧ X.co (L.getD j ([], 0)) k < 0) from fun h => cp h.1), List.append_nil] at hst2
          repeat' (first | refine gB ?_ | (refine gH ?_; intro g) | (refine gW ?_; intro v) | refine gY ?_ | refine d59 ?_ | fail)
          exact LoopEnd.mk (j + 1, ⟨n, _, _, _⟩) ⟨d, hl, by rw [hst2]; exact hs2⟩ (by show L.length - (j + 1) < L.length - j; omega)
      · obtain rfl : j = L.length := by omega
        rw [List.take_length] at hs2
        repeat' (first | refine gB ?_ | (refine gH ?_; intro g) | (refine gW ?_; intro v) | refine gY ?_ | refine d59 ?_ | fail)
        exact LoopEnd.mk (i + 1, ⟨n, _, _, l2⟩) ⟨c, hl, by rw [hst, ← List.append_assoc, ← hs]; exact hs2⟩ (by show L.length - (i + 1) < L.length - i; omega)
    · obtain rfl : i = L.length := by omega
      rw [List.take_length] at hs
      rw [← hs]
      subst hl
      repeat' (first | refine gB ?_ | (refine gH ?_; intro g) | (refine gW ?_; intro v) | refine gY ?_ | refine d59 ?_ | fail)
      refine WC.freezeLn sv N w l1 (by repeat (first | exact Sel.head | apply Sel.tail)) hmA ?_
      refine WC.ret ?_
      exact Fin.p [] [fLn (N.at sv) w l1] (ResE.t1 rfl rfl) meA (List.nil_sublist _) haA ⟨N.at sv, rfl, rfl, rfl⟩
end U
end Go.Proofs.YtaongbhamadlkaaGreat
namespace Go.Proofs.YtaongbhamadlkaaGreat
open Go.RowKit Go.Sort Go.Shelf
def laySort_ren : Go.Shelf.Ren := ⟨fun | 5 => 83 | 8 => 140 | 7 => 139 | 19 => 192 | 20 => 193 | 10 => 183 | 11 => 184 | 12 => 185 | 13 => 186 | 14 => 187 | 15 => 188 | 16 => 189 | 17 => 190 | 18 => 191 | 30 => 203 | 31 => 204 | 32 => 205 | 33 => 206 | 34 => 207 | 35 => 208 | 40 => 213 | n => n, fun | 23 => 22 | 25 => 3 | 3 => 3 | 32 => 156 | 22 => 22 | 0 => 0 | 44 => 188 | 46 => 162 | 4 => 4 | 36 => 181 | 35 => 180 | 41 => 185 | 5 => 5 | 9 => 9 | 53 => 195 | 57 => 199 | 63 => 204 | 64 => 205 | n => n, fun | n => n⟩
theorem laySort : SlLaysM.n5 Tryz.prog laySort_ren := {
  mixed := by kernel_rfl
  f5 := ⟨Tryz.f83.name, by decide, Tryz.func83.trans (congrArg some (by kernel_rfl))⟩
  f7 := ⟨Tryz.f139.name, by decide, Tryz.func139.trans (congrArg some (by kernel_rfl))⟩
  f8 := Tryz.func140.trans (congrArg some (by kernel_rfl))
  f10 := ⟨Tryz.f183.name, by decide, Tryz.func183.trans (congrArg some (by kernel_rfl))⟩
  f11 := ⟨Tryz.f184.name, by decide, Tryz.func184.trans (congrArg some (by kernel_rfl))⟩
  f12 := ⟨Tryz.f185.name, by decide, Tryz.func185.trans (congrArg some (by kernel_rfl))⟩
  f13 := ⟨Tryz.f186.name, by decide, Tryz.func186.trans (congrArg some (by kernel_rfl))⟩
  f14 := ⟨Tryz.f187.name, by decide, Tryz.func187.trans (congrArg some (by kernel_rfl))⟩
  f15 := ⟨Tryz.f188.name, by decide, Tryz.func188.trans (congrArg some (by kernel_rfl))⟩
  f16 := ⟨Tryz.f189.name, by decide, Tryz.func189.trans (congrArg some (by kernel_rfl))⟩
  f17 := ⟨Tryz.f190.name, by decide, Tryz.func190.trans (congrArg some (by kernel_rfl))⟩
  f18 := ⟨Tryz.f191.name, by decide, Tryz.func191.trans (congrArg some (by kernel_rfl))⟩
  f19 := Tryz.func192.trans (congrArg some (by kernel_rfl))
  f20 := Tryz.func193.trans (congrArg some (by kernel_rfl))
  f30 := ⟨Tryz.f203.name, by decide, Tryz.func203.trans (congrArg some (by kernel_rfl))⟩
  f31 := Tryz.func204.trans (congrArg some (by kernel_rfl))
  f32 := Tryz.func205.trans (congrArg some (by kernel_rfl))
  f33 := ⟨Tryz.f206.name, by decide, Tryz.func206.trans (congrArg some (by kernel_rfl))⟩
  f34 := ⟨Tryz.f207.name, by decide, Tryz.func207.trans (congrArg some (by kernel_rfl))⟩
  f35 := ⟨Tryz.f208.name, by decide, Tryz.func208.trans (congrArg some (by kernel_rfl))⟩
  f40 := ⟨Tryz.f213.name, by decide, Tryz.func213.trans (congrArg some (by kernel_rfl))⟩
  t0 := Tryz.underlying0
  a0 := Tryz.isAgg0
  z0 := Tryz.sizeOf0
  v0 := Tryz.zeroValue0
  t3 := Tryz.underlying3
  a3 := Tryz.isAgg3
  z3 := Tryz.sizeOf3
  v3 := Tryz.zeroValue3
  t4 := Tryz.underlying4
  a4 := Tryz.isAgg4
  z4 := Tryz.sizeOf4
  v4 := Tryz.zeroValue4
  t5 := Tryz.underlying5
  a5 := Tryz.isAgg5
  z5 := Tryz.sizeOf5
  v5 := Tryz.zeroValue5
  t9 := Tryz.underlying9
  a9 := Tryz.isAgg9
  z9 := Tryz.sizeOf9
  v9 := Tryz.zeroValue9
  t22 := Tryz.underlying22
  a22 := Tryz.isAgg22
  z22 := Tryz.sizeOf22
  v22 := Tryz.zeroValue22
  t23 := Tryz.underlying22
  a23 := Tryz.isAgg22
  z23 := Tryz.sizeOf22
  v23 := Tryz.zeroValue22
  t25 := Tryz.underlying3
  a25 := Tryz.isAgg3
  z25 := Tryz.sizeOf3
  v25 := Tryz.zeroValue3
  t32 := Tryz.underlying156
  a32 := Tryz.isAgg156
  z32 := Tryz.sizeOf156
  v32 := Tryz.zeroValue156
  t35 := Tryz.underlying180
  a35 := Tryz.isAgg180
  z35 := Tryz.sizeOf180
  v35 := Tryz.zeroValue180
  t36 := Tryz.underlying181
  a36 := Tryz.isAgg181
  z36 := Tryz.sizeOf181
  v36 := Tryz.zeroValue181
  t41 := Tryz.underlying185
  a41 := Tryz.isAgg185
  z41 := Tryz.sizeOf185
  v41 := Tryz.zeroValue185
  t44 := Tryz.underlying188
  a44 := Tryz.isAgg188
  z44 := Tryz.sizeOf188
  v44 := Tryz.zeroValue188
  t46 := Tryz.underlying162
  a46 := Tryz.isAgg162
  z46 := Tryz.sizeOf162
  v46 := Tryz.zeroValue162
  t53 := Tryz.underlying195
  a53 := Tryz.isAgg195
  z53 := Tryz.sizeOf195
  v53 := Tryz.zeroValue195
  t57 := Tryz.underlying199
  a57 := Tryz.isAgg199
  z57 := Tryz.sizeOf199
  v57 := Tryz.zeroValue199
  t63 := Tryz.underlying204
  a63 := Tryz.isAgg204
  z63 := Tryz.sizeOf204
  v63 := Tryz.zeroValue204
  t64 := Tryz.underlying205
  a64 := Tryz.isAgg205
  z64 := Tryz.sizeOf205
  v64 := Tryz.zeroValue205 }
def layCompact_ren : Go.Shelf.Ren := ⟨fun | 20 => 84 | n => n, fun | 22 => 22 | 3 => 3 | 4 => 4 | 0 => 0 | n => n, fun | n => n⟩
theorem layCompact : Lays2.n20 Tryz.prog layCompact_ren := {
  mixed := by kernel_rfl
  f20 := Tryz.func84.trans (congrArg some (by kernel_rfl))
  t0 := Tryz.underlying0
  a0 := Tryz.isAgg0
  z0 := Tryz.sizeOf0
  v0 := Tryz.zeroValue0
  t3 := Tryz.underlying3
  a3 := Tryz.isAgg3
  z3 := Tryz.sizeOf3
  v3 := Tryz.zeroValue3
  t4 := Tryz.underlying4
  a4 := Tryz.isAgg4
  z4 := Tryz.sizeOf4
  v4 := Tryz.zeroValue4
  t22 := Tryz.underlying22
  a22 := Tryz.isAgg22
  z22 := Tryz.sizeOf22
  v22 := Tryz.zeroValue22
  i3 := by kernel_rfl }
def layDelete_ren : Go.Shelf.Ren := ⟨fun | 10 => 80 | 6 => 138 | n => n, fun | 22 => 22 | 23 => 3 | 25 => 111 | 3 => 3 | 4 => 4 | 0 => 0 | n => n, fun | n => n⟩
theorem layDelete : SlLaysH.n10 Tryz.prog layDelete_ren := {
  mixed := by kernel_rfl
  f6 := ⟨Tryz.f138.name, by decide, Tryz.func138.trans (congrArg some (by kernel_rfl))⟩
  f10 := ⟨Tryz.f80.name, by decide, Tryz.func80.trans (congrArg some (by kernel_rfl))⟩
  t0 := Tryz.underlying0
  a0 := Tryz.isAgg0
  z0 := Tryz.sizeOf0
  v0 := Tryz.zeroValue0
  t3 := Tryz.underlying3
  a3 := Tryz.isAgg3
  z3 := Tryz.sizeOf3
  v3 := Tryz.zeroValue3
  t4 := Tryz.underlying4
  a4 := Tryz.isAgg4
  z4 := Tryz.sizeOf4
  v4 := Tryz.zeroValue4
  t22 := Tryz.underlying22
  a22 := Tryz.isAgg22
  z22 := Tryz.sizeOf22
  v22 := Tryz.zeroValue22
  a23 := Tryz.isAgg3
  z23 := Tryz.sizeOf3
  t25 := Tryz.underlying111
  a25 := Tryz.isAgg111
  z25 := Tryz.sizeOf111
  v25 := Tryz.zeroValue111 }
end Go.Proofs.YtaongbhamadlkaaGreat
namespace Go.Proofs.YtaongbhamadlkaaGreat
open Go.RowKit Go.Sort Go.Shelf W
def srt (l : List Int) : List Int := l.mergeSort fun x y => decide (x ≤ y)
theorem srt_len (l : List Int) : (srt l).length = l.length := by unfold srt; exact List.length_mergeSort l
def IsSrt (v : Value) (new : List Int) : RPost := fun u b G => u = .tuple #[] ∧ b = [Ow.slice v 3 1 (ints new)] ∧ G = []
theorem row_fn {f : FuncId} {rest : List Value} {l new : List Int} {v : Value} {F : List Fct} (hc : Callable Tryz.prog f) (hne : l ≠ []) (hlen : new.length ≤ l.length)
    (h : ∀ fr w g cap, v = .slice (some ⟨g, 0, none⟩) l.length cap → l.length ≤ cap → OK fr [Ow.slice v 3 1 (ints l)] F w → Holds (Value.int .i64) w g 0 l.toArray → Calls Tryz.prog f (v :: rest).toArray w fun e w' => e = .returned (.slice (some ⟨g, 0, none⟩) new.length cap) ∧ ∃ q, w' = putRow (Value.int .i64) (Sort.ahead w q) g 0 (new ++ List.replicate (l.length - new.length) 0).toArray) :
    FnB Tryz.prog f (v :: rest) [Ow.slice v 3 1 (ints l)] F (IsO 3 1 (ints new)) := by
  refine ⟨hc, fun fr w ho => ?_⟩
  obtain ⟨n, h1, ⟨_, h2⟩ | ⟨g, cap, sp, rfl, h3, h4, h5, h6⟩⟩ := ho.owns _ (.head _)
  · exfalso; subst h2; simp at h1; exact hne h1
  have hn : n = l.length := by simpa using h1.symm
  subst hn
  have hH : Holds (Value.int .i64) w g 0 l.toArray := fun j hj => by
    have hj' : j < l.length := by simpa using hj
    constructor
    · unfold World.cell?
      rw [h5]
      simp [hj']
      rw [List.getElem?_append_left (by simpa using hj')]
      simp [hj']
    · unfold World.frozen?; rw [h5]; simp
  refine (h fr w g cap rfl h3 ho hH).mono ?_
  rintro e w' ⟨rfl, q, rfl⟩
  have hw' : (putRow (Value.int .i64) (Sort.ahead w q) g 0 (new ++ List.replicate (l.length - new.length) 0).toArray).heap[g]? = some (.cells (ints new ++ (ints (List.replicate (l.length - new.length) 0) ++ sp)).toArray 3 (0, 0)) := by
    unfold putRow mapBlock
    show (w.heap.modify g _)[g]? = _
    rw [Array.getElem?_modify, if_pos rfl, h5]
    simp only [Option.map_some, onCells]
    congr 2
    apply Array.ext_getElem?
    intro k
    unfold putCells
    rw [Array.getElem?_mapIdx]
    simp only [List.getElem?_toArray]
    rw [← List.append_assoc]
    by_cases hk : k < l.length
    · rw [List.getElem?_append_left (by simpa using hk), List.getElem?_append_left (by simp; omega)]
      have e1 : (ints l)[k]? = some (.int .i64 l[k]) := by simp [hk]
      rw [e1, Option.map_some, if_pos (by simp; omega)]
      rw [show ints new ++ ints (List.replicate (l.length - new.length) 0) = ints (new ++ List.replicate (l.length - new.length) 0) by simp [ints]]
      have hk2 : k < (new ++ List.replicate (l.length - new.length) 0).length := by simp; omega
      have e3 : (ints (new ++ List.replicate (l.length - new.length) 0))[k]? = some (.int .i64 (new ++ List.replicate (l.length - new.length) 0)[k]) := by
        unfold ints; rw [List.getElem?_map, List.getElem?_eq_getElem hk2]; rfl
      rw [e3, getElem!_pos _ _ (by simpa using hk2)]
      rfl
    · rw [List.getElem?_append_right (by simp; omega), List.getElem?_append_right (by simp; omega)]
      have e2 : (ints l).length = (ints new ++ ints (List.replicate (l.length - new.length) 0)).length := by simp; omega
      rw [e2]
      cases sp[k - (ints new ++ ints (List.replicate (l.length - new.length) 0)).length]? with
      | none => rfl
      | some x => rw [Option.map_some, if_neg (by simp; omega)]
  have hother : ∀ k, k ≠ g → (putRow (Value.int .i64) (Sort.ahead w q) g 0 (new ++ List.replicate (l.length - new.length) 0).toArray).heap[k]? = w.heap[k]? := fun k hk => by
    unfold putRow mapBlock
    show (w.heap.modify g _)[k]? = _
    rw [Array.getElem?_modify, if_neg (fun h => hk h.symm)]
  have hids : ∀ k ∈ ids [Ow.slice (.slice (some ⟨g, 0, none⟩) new.length cap) 3 1 (ints new)], k ∈ ids [Ow.slice (.slice (some ⟨g, 0, none⟩) l.length cap) 3 1 (ints l)] ∨ w.heap.size ≤ k := fun k hk => .inl (by simpa [ids, Ow.ids] using hk)
  have hkeep : ∀ k, k < w.heap.size → k ∉ ids [Ow.slice (.slice (some ⟨g, 0, none⟩) l.length cap) 3 1 (ints l)] → (putRow (Value.int .i64) (Sort.ahead w q) g 0 (new ++ List.replicate (l.length - new.length) 0).toArray).heap[k]? = w.heap[k]? := fun k _ hk => hother k (by simpa [ids, Ow.ids] using hk)
  refine ⟨_, [Ow.slice (.slice (some ⟨g, 0, none⟩) new.length cap) 3 1 (ints new)], [], rfl, ⟨rfl, rfl⟩, ⟨rfl, rfl, rfl⟩, ?_, ?_⟩
  · have := imm_step (ob := [Ow.slice (.slice (some ⟨g, 0, none⟩) l.length cap) 3 1 (ints l)]) (bx := []) (nb := [Ow.slice (.slice (some ⟨g, 0, none⟩) new.length cap) 3 1 (ints new)]) ho hkeep hids
    simpa using this
  · have := OK.step (ob := [Ow.slice (.slice (some ⟨g, 0, none⟩) l.length cap) 3 1 (ints l)]) (bx := []) (nb := [Ow.slice (.slice (some ⟨g, 0, none⟩) new.length cap) 3 1 (ints new)]) ho hkeep hids (by simp [ids, Ow.ids]) (fun b hb => by
      rw [List.mem_singleton] at hb; subst hb
      refine ⟨new.length, by simp, .inr ⟨g, cap, ints (List.replicate (l.length - new.length) 0) ++ sp, rfl, by omega, h4, hw', ?_⟩⟩
      simp only [List.length_append, List.length_map, List.length_replicate] at h6 ⊢
      omega)
    exact this.less (fun f hf => by cases hf)
theorem compact_le (l : List Int) : (Lib.compact l).length ≤ l.length := by
  unfold Lib.compact Lib.compactUpTo
  rw [List.length_map]
  exact Nat.le_trans (List.length_filter_le _ _) (by simp)
theorem compact_c (v : Value) (l : List Int) (hl : l.length ≤ 1000000) (hne : l ≠ []) : FnB Tryz.prog 84 [v] [Ow.slice v 3 1 (ints l)] [] (IsO 3 1 (ints (Lib.compact l))) :=
  row_fn ⟨Tryz.f84, Tryz.func84, by kernel_rfl, by kernel_rfl⟩ hne (compact_le l) fun fr w g cap hv hcap _ hH => by
    subst hv
    exact Any.slices_Compact_int layCompact g 0 cap l w hH (by omega) hcap
theorem delete_row {v : Value} {l : List Int} {F : List Fct} (hl : l.length ≤ 1000000) (hne : l ≠ []) (p : Int → Bool) (g : Nat) (lb : Array Value) (eg : ∀ args w, (callFunc g args).run Tryz.prog w = .ok (.enter g args) w)
    (hp : ∀ fr w b cap, v = .slice (some ⟨b, 0, none⟩) l.length cap → OK fr [Ow.slice v 3 1 (ints l)] F w → PredAt Tryz.prog g lb (Value.int .i64) p w ∧ PredOver Tryz.prog g lb (Value.int .i64) p b 0 l.length w) :
    FnB Tryz.prog 80 [v, .func (.func g) #[] lb] [Ow.slice v 3 1 (ints l)] F (IsO 3 1 (ints (l.filter fun x => !p x))) :=
  row_fn ⟨Tryz.f80, Tryz.func80, by kernel_rfl, by kernel_rfl⟩ hne (List.length_filter_le _ _) fun fr w b cap hv hcap ho hH => by
    obtain ⟨h1, h2⟩ := hp fr w b cap hv ho
    subst hv
    have := AnyE.slices_DeleteFunc layDelete (Value.int .i64) (fun _ => rfl) p g lb eg 0 (fun w => Tryz.zeroValue3 w) b 0 cap l.toArray w h1 h2 hH (by simp; omega) (by simpa using hcap)
    exact this
theorem sort_fn {f : FuncId} {l new : List Int} {v : Value} {F : List Fct} (hc : Callable Tryz.prog f) (hne : l ≠ []) (hlen : new.length = l.length)
    (h : ∀ w g cap, g < w.heap.size → Holds (Value.int .i64) w g 0 l.toArray → Calls Tryz.prog f #[.slice (some ⟨g, 0, none⟩) l.length cap] w fun e w' => e = .returned (.tuple #[]) ∧ ∃ q os, w' = Sort.grow (putRow (Value.int .i64) (Sort.ahead w q) g 0 new.toArray) os) :
    FnB Tryz.prog f [v] [Ow.slice v 3 1 (ints l)] F (IsSrt v new) := by
  refine ⟨hc, fun fr w ho => ?_⟩
  obtain ⟨n, h1, ⟨_, h2⟩ | ⟨g, cap, sp, rfl, h3, h4, h5, h6⟩⟩ := ho.owns _ (.head _)
  · exfalso; subst h2; simp at h1; exact hne h1
  have hn : n = l.length := by simpa using h1.symm
  subst hn
  have hH : Holds (Value.int .i64) w g 0 l.toArray := fun j hj => by
    have hj' : j < l.length := by simpa using hj
    constructor
    · unfold World.cell?
      rw [h5]
      simp [hj']
      rw [List.getElem?_append_left (by simpa using hj')]
      simp [hj']
    · unfold World.frozen?; rw [h5]; simp
  have hgl : g < w.heap.size := (Array.getElem?_eq_some_iff.1 h5).1
  refine (h w g cap hgl hH).mono ?_
  rintro e w' ⟨rfl, q, os, rfl⟩
  have hw' : (putRow (Value.int .i64) (Sort.ahead w q) g 0 (new ++ List.replicate (l.length - new.length) 0).toArray).heap[g]? = some (.cells (ints new ++ (ints (List.replicate (l.length - new.length) 0) ++ sp)).toArray 3 (0, 0)) := by
    unfold putRow mapBlock
    show (w.heap.modify g _)[g]? = _
    rw [Array.getElem?_modify, if_pos rfl, h5]
    simp only [Option.map_some, onCells]
    congr 2
    apply Array.ext_getElem?
    intro k
    unfold putCells
    rw [Array.getElem?_mapIdx]
    simp only [List.getElem?_toArray]
    rw [← List.append_assoc]
    by_cases hk : k < l.length
    · rw [List.getElem?_append_left (by simpa using hk), List.getElem?_append_left (by simp; omega)]
      have e1 : (ints l)[k]? = some (.int .i64 l[k]) := by simp [hk]
      rw [e1, Option.map_some, if_pos (by simp; omega)]
      rw [show ints new ++ ints (List.replicate (l.length - new.length) 0) = ints (new ++ List.replicate (l.length - new.length) 0) by simp [ints]]
      have hk2 : k < (new ++ List.replicate (l.length - new.length) 0).length := by simp; omega
      have e3 : (ints (new ++ List.replicate (l.length - new.length) 0))[k]? = some (.int .i64 (new ++ List.replicate (l.length - new.length) 0)[k]) := by
        unfold ints; rw [List.getElem?_map, List.getElem?_eq_getElem hk2]; rfl
      rw [e3, getElem!_pos _ _ (by simpa using hk2)]
      rfl
    · rw [List.getElem?_append_right (by simp; omega), List.getElem?_append_right (by simp; omega)]
      have e2 : (ints l).length = (ints new ++ ints (List.replicate (l.length - new.length) 0)).length := by simp; omega
      rw [e2]
      cases sp[k - (ints new ++ ints (List.replicate (l.length - new.length) 0)).length]? with
      | none => rfl
      | some x => rw [Option.map_some, if_neg (by simp; omega)]
  have hother : ∀ k, k ≠ g → (putRow (Value.int .i64) (Sort.ahead w q) g 0 (new ++ List.replicate (l.length - new.length) 0).toArray).heap[k]? = w.heap[k]? := fun k hk => by
    unfold putRow mapBlock
    show (w.heap.modify g _)[k]? = _
    rw [Array.getElem?_modify, if_neg (fun h => hk h.symm)]
  have hx : new ++ List.replicate (l.length - new.length) 0 = new := by rw [hlen, Nat.sub_self]; simp
  rw [hx] at hw' hother
  have hsz : (putRow (Value.int .i64) (Sort.ahead w q) g 0 new.toArray).heap.size = w.heap.size := by unfold putRow mapBlock; show (w.heap.modify g _).size = _; simp
  have hold : ∀ k, k < w.heap.size → (Sort.grow (putRow (Value.int .i64) (Sort.ahead w q) g 0 new.toArray) os).heap[k]? = (putRow (Value.int .i64) (Sort.ahead w q) g 0 new.toArray).heap[k]? := fun k hk => Sort.heap_grow_old _ os (by rw [hsz]; exact hk)
  rw [← hold g hgl] at hw'
  have hids : ∀ k ∈ ids [Ow.slice (.slice (some ⟨g, 0, none⟩) l.length cap) 3 1 (ints new)], k ∈ ids [Ow.slice (.slice (some ⟨g, 0, none⟩) l.length cap) 3 1 (ints l)] ∨ w.heap.size ≤ k := fun k hk => .inl (by simpa [ids, Ow.ids] using hk)
  have hkeep : ∀ k, k < w.heap.size → k ∉ ids [Ow.slice (.slice (some ⟨g, 0, none⟩) l.length cap) 3 1 (ints l)] → (Sort.grow (putRow (Value.int .i64) (Sort.ahead w q) g 0 new.toArray) os).heap[k]? = w.heap[k]? := fun k hkl hk => by rw [hold k hkl]; exact hother k (by simpa [ids, Ow.ids] using hk)
  refine ⟨_, [Ow.slice (.slice (some ⟨g, 0, none⟩) l.length cap) 3 1 (ints new)], [], rfl, ⟨rfl, rfl, rfl⟩, ⟨rfl, rfl, rfl⟩, ?_, ?_⟩
  · have := imm_step (ob := [Ow.slice (.slice (some ⟨g, 0, none⟩) l.length cap) 3 1 (ints l)]) (bx := []) (nb := [Ow.slice (.slice (some ⟨g, 0, none⟩) l.length cap) 3 1 (ints new)]) ho hkeep hids
    simpa using this
  · have := OK.step (ob := [Ow.slice (.slice (some ⟨g, 0, none⟩) l.length cap) 3 1 (ints l)]) (bx := []) (nb := [Ow.slice (.slice (some ⟨g, 0, none⟩) l.length cap) 3 1 (ints new)]) ho hkeep hids (by simp [ids, Ow.ids]) (fun b hb => by
      rw [List.mem_singleton] at hb; subst hb
      refine ⟨l.length, by simp [hlen], .inr ⟨g, cap, ints (List.replicate (l.length - new.length) 0) ++ sp, rfl, h3, h4, hw', ?_⟩⟩
      simp only [List.length_append, List.length_map, List.length_replicate] at h6 ⊢
      omega)
    exact this.less (fun f hf => by cases hf)
theorem sort0_c (v : Value) : FnB Tryz.prog 83 [v] [Ow.slice v 3 1 (ints [])] [] (IsSrt v []) := by
  refine ⟨⟨Tryz.f83, Tryz.func83, by kernel_rfl, by kernel_rfl⟩, fun fr w ho => ?_⟩
  have hv : ∃ p cap, v = .slice p 0 cap := by
    obtain ⟨n, h1, ⟨h2, h3⟩ | ⟨g, cap, sp, rfl, h3, h4, h5, h6⟩⟩ := ho.owns _ (.head _)
    · exact ⟨_, _, h2⟩
    · have : n = 0 := by simpa using h1.symm
      subst this; exact ⟨_, _, rfl⟩
  obtain ⟨p, cap, rfl⟩ := hv
  refine (AnyM.slices_Sort_int_none laySort p cap w).mono ?_
  rintro e w' ⟨rfl, rfl⟩
  exact ⟨_, [Ow.slice (.slice p 0 cap) 3 1 (ints [])], [], rfl, ⟨rfl, rfl, rfl⟩, W.Rest.refl _, fun _ _ h => h, ho⟩
theorem sort_c (v : Value) (l : List Int) (hl : l.length ≤ 1000000) : FnB Tryz.prog 83 [v] [Ow.slice v 3 1 (ints l)] [] (IsSrt v (srt l)) := by
  by_cases hne : l = []
  · subst hne
    rw [show srt [] = [] by simp [srt]]
    exact sort0_c v
  · exact sort_fn ⟨Tryz.f83, Tryz.func83, by kernel_rfl, by kernel_rfl⟩ hne (srt_len l) fun w g cap hg hH => by
      refine (AnyM.slices_Sort_int laySort g 0 cap l w hH hg (by omega)).mono ?_
      rintro e w' ⟨rfl, q, os, rfl⟩
      exact ⟨rfl, q, os, rfl⟩
end Go.Proofs.YtaongbhamadlkaaGreat
namespace Go.Proofs.YtaongbhamadlkaaGreat
open W Go.RowKit
theorem fst_in {l : List Int} {p : Int → Bool} : (X.fstT (fun i => p (l.getD i 0)) l.length 0).isSome = true ↔ ∃ x ∈ l, p x = true := by
  rcases X.fstT_spec (fun i => p (l.getD i 0)) l.length 0 with ⟨h1, h2⟩ | ⟨j, h1, _, h3, h4, _⟩
  · rw [h1]
    constructor
    · intro h; cases h
    · rintro ⟨x, hx, h⟩
      obtain ⟨j, hj, rfl⟩ := List.mem_iff_getElem.1 hx
      have := h2 j (by omega) (by omega)
      simp [List.getD_eq_getElem?_getD, hj, h] at this
  · rw [h1]
    refine ⟨fun _ => ⟨l.getD j 0, ?_, h4⟩, fun _ => rfl⟩
    have : j < l.length := by omega
    simp [List.getD_eq_getElem?_getD, this]
namespace U
attribute [local irreducible] WC WL WD YO LO LoopEnd W.Fin Scalar SliceT FieldAt Row ArrT AllocT KnS Has W.One SrcE IntT
theorem d84 {G G' : Prop} (h : G') (s : Bx G' → G := by
  intro h
  first | (apply WC.draw (id := 6) [0, 1, 2, 3, 4, 5, 6, 7, 8, 9] (.held 0 (.held 1 (.held 2 (.held 3 (.held 4 (.held 5 (.held 6 (.held 7 (.held 8 (.held 9 (.done))))))))))) mixed (by kernel_rfl)) | (apply WC.draw (id := 11) [0, 1, 2, 3, 4, 5, 6, 7, 8, 9] (.held 0 (.held 1 (.held 2 (.held 3 (.held 4 (.held 5 (.held 6 (.held 7 (.held 8 (.held 9 (.done))))))))))) mixed (by kernel_rfl)) | fail
  exact Bx.h h) : G := s ⟨h⟩
set_option maxHeartbeats 4000000 in
set_option maxRecDepth 60000 in
theorem indexFI_c (u : Value) (l : List Int) (f : FuncId) (cap : List Value) (Fc : List Fct) (p : Int → Bool) (hp : ∀ x, FnB Tryz.prog f ([.int .i64 x] ++ cap) [] Fc (IsV (.bool (p x)))) :
    FnB Tryz.prog 138 [u, .func (.func f) #[] cap.toArray] [] (sI u l :: Fc) (IsV (.int .i64 (optI (X.fstT (fun i => p (l.getD i 0)) l.length 0)))) := by
  refine fn_of [(0, u), (1, (.func (.func f) #[] cap.toArray))] 19 Tryz.func138 rfl Tryz.ntmps138 (by kernel_rfl) rfl suA fun h0 => ?_
  refine WC.lenI u l hmA fun hlen => ?_
  repeat' (first | refine gA ?_ | (refine goG ?_; intro g) | (refine goV ?_; intro v))
  refine WC.lp (σ := Nat) (fun i => [(8, .int .i64 (i : Int)), (7, .int .i64 (l.length : Int)), (0, u), (1, .func (.func f) #[] cap.toArray)]) (fun _ => []) (fun _ => ge h0 :: sI u l :: Fc) (fun i => i ≤ l.length ∧ X.fstT (fun i => p (l.getD i 0)) l.length 0 = X.fstT (fun i => p (l.getD i 0)) (l.length - i) i) (fun i => l.length - i) 0 ⟨Nat.zero_le _, rfl⟩ ?_ (hG := .cons hmA (.cons hmA (HasAll.tail fun _ h => by (repeat (first | exact h | apply List.mem_cons_of_mem)))))
  rintro i ⟨hi, he⟩
  by_cases c : i < l.length
  · rw [fstT_at c] at he
    repeat' (first | refine gA ?_ | (refine goG ?_; intro g) | (refine goV ?_; intro v))
    refine WL.callC [] cap (vs := [.int .i64 (l.getD i 0)]) (hp (l.getD i 0)) ?_ (hF := (HasAll.tail fun _ h => by (repeat (first | exact h | apply List.mem_cons_of_mem))))
    rintro _ _ _ ⟨rfl, rfl, rfl⟩
    simp only [List.nil_append, List.cons_append]
    cases h : p (l.getD i 0) with
    | true =>
      rw [if_pos h] at he
      rw [he]
      repeat' (first | refine gA ?_ | (refine goG ?_; intro g) | (refine goV ?_; intro v))
      exact WC.ret (Fin.v (ResE.t1 rfl rfl) meA rfl)
    | false =>
      rw [if_neg (by rw [h]; decide)] at he
      repeat' (first | refine gA ?_ | (refine goG ?_; intro g) | (refine goV ?_; intro v))
      exact LoopEnd.mk (i + 1) ⟨by omega, he⟩ (by show l.length - (i + 1) < l.length - i; omega) (hG := .cons hmA (.cons hmA (HasAll.tail fun _ h => by (repeat (first | exact h | apply List.mem_cons_of_mem)))))
  · obtain rfl : i = l.length := by omega
    rw [Nat.sub_self, X.fstT] at he
    rw [he]
    repeat' (first | refine gA ?_ | (refine goG ?_; intro g) | (refine goV ?_; intro v))
    exact WC.ret (Fin.v (ResE.t1 rfl rfl) meA rfl)
set_option maxHeartbeats 4000000 in
set_option maxRecDepth 60000 in
theorem containsFI_c (u : Value) (l : List Int) (f : FuncId) (cap : List Value) (Fc : List Fct) (p : Int → Bool) (hp : ∀ x, FnB Tryz.prog f ([.int .i64 x] ++ cap) [] Fc (IsV (.bool (p x)))) :
    FnB Tryz.prog 78 [u, .func (.func f) #[] cap.toArray] [] (sI u l :: Fc) (IsV (.bool (l.any p))) := by
  refine fn_of [(0, u), (1, (.func (.func f) #[] cap.toArray))] 9 Tryz.func78 rfl Tryz.ntmps78 (by kernel_rfl) rfl suA fun h0 => ?_
  have hx := @fst_in l p
  repeat' (first | refine gA ?_ | (refine goG ?_; intro g) | (refine goV ?_; intro v))
  refine WL.callV (indexFI_c u l f cap Fc p hp) ?_ (hF := .cons (.f hmA) (hasB_tail fun _ h => by (repeat (first | exact h | apply List.mem_cons_of_mem))))
  cases hq : X.fstT (fun i => p (l.getD i 0)) l.length 0 with
  | none =>
    have ha : l.any p = false := by
      rw [Bool.eq_false_iff]
      intro h
      rw [List.any_eq_true] at h
      have := hx.2 h
      rw [hq] at this; cases this
    rw [show optI none = -1 from rfl, ha]
    repeat' (first | refine gA ?_ | (refine goG ?_; intro g) | (refine goV ?_; intro v))
    exact WC.ret (Fin.v (ResE.t1 rfl rfl) meA rfl)
  | some k =>
    have ha : l.any p = true := List.any_eq_true.2 (hx.1 (by rw [hq]; rfl))
    rw [show optI (some k) = (k : Int) from rfl, ha]
    repeat' (first | refine gA ?_ | (refine goG ?_; intro g) | (refine goV ?_; intro v))
    exact WC.ret (Fin.v (ResE.t1 rfl rfl) meA rfl)
set_option maxHeartbeats 4000000 in
set_option maxRecDepth 60000 in
theorem indexI_c (u : Value) (l : List Int) (x : Int) : FnB Tryz.prog 122 [u, .int .i64 x] [] [sI u l] (IsV (.int .i64 (optI (X.fstT (fun i => decide (x = l.getD i 0)) l.length 0)))) := by
  refine fn_of [(0, u), (1, (.int .i64 x))] 19 Tryz.func122 rfl Tryz.ntmps122 (by kernel_rfl) rfl suA fun h0 => ?_
  refine WC.lenI u l hmA fun hlen => ?_
  repeat' (first | refine gA ?_ | (refine goG ?_; intro g) | (refine goV ?_; intro v))
  refine WC.lp (σ := Nat) (fun i => [(8, .int .i64 (i : Int)), (7, .int .i64 (l.length : Int)), (0, u), (1, .int .i64 x)]) (fun _ => []) (fun _ => [ge h0, sI u l]) (fun i => i ≤ l.length ∧ X.fstT (fun i => decide (x = l.getD i 0)) l.length 0 = X.fstT (fun i => decide (x = l.getD i 0)) (l.length - i) i) (fun i => l.length - i) 0 ⟨Nat.zero_le _, rfl⟩ ?_
  rintro i ⟨hi, he⟩
  by_cases c : i < l.length
  · rw [fstT_at c] at he
    by_cases h : x = l.getD i 0
    · rw [if_pos (decide_eq_true h)] at he
      rw [he]
      repeat' (first | refine gA ?_ | (refine goG ?_; intro g) | (refine goV ?_; intro v))
      exact WC.ret (Fin.v (ResE.t1 rfl rfl) meA rfl)
    · rw [if_neg (by simpa using h)] at he
      repeat' (first | refine gA ?_ | (refine goG ?_; intro g) | (refine goV ?_; intro v))
      exact LoopEnd.mk (i + 1) ⟨by omega, he⟩ (by show l.length - (i + 1) < l.length - i; omega)
  · obtain rfl : i = l.length := by omega
    rw [Nat.sub_self, X.fstT] at he
    rw [he]
    repeat' (first | refine gA ?_ | (refine goG ?_; intro g) | (refine goV ?_; intro v))
    exact WC.ret (Fin.v (ResE.t1 rfl rfl) meA rfl)
set_option maxHeartbeats 4000000 in
set_option maxRecDepth 60000 in
theorem containsI_c (u : Value) (l : List Int) (x : Int) : FnB Tryz.prog 141 [u, .int .i64 x] [] [sI u l] (IsV (.bool (decide (x ∈ l)))) := by
  refine fn_of [(0, u), (1, (.int .i64 x))] 9 Tryz.func141 rfl Tryz.ntmps141 (by kernel_rfl) rfl suA fun h0 => ?_
  have hx := @fst_in l (fun y => decide (x = y))
  repeat' (first | refine gA ?_ | (refine goG ?_; intro g) | (refine goV ?_; intro v))
  first | refine WL.callV (indexI_c u l x) ?_ | refine WD.callV (indexI_c u l x) ?_
  cases hq : X.fstT (fun i => decide (x = l.getD i 0)) l.length 0 with
  | none =>
    have ha : ¬ x ∈ l := fun h => by
      have := hx.2 ⟨x, h, by simp⟩
      rw [hq] at this; cases this
    rw [show optI none = -1 from rfl, decide_eq_false ha]
    repeat' (first | refine gA ?_ | (refine goG ?_; intro g) | (refine goV ?_; intro v))
    exact WC.ret (Fin.v (ResE.t1 rfl rfl) meA rfl)
  | some k =>
    have ha : x ∈ l := by
      obtain ⟨y, h1, h2⟩ := hx.1 (by rw [hq]; rfl)
      have := of_decide_eq_true h2
      subst this; exact h1
    rw [show optI (some k) = (k : Int) from rfl, decide_eq_true ha]
    repeat' (first | refine gA ?_ | (refine goG ?_; intro g) | (refine goV ?_; intro v))
    exact WC.ret (Fin.v (ResE.t1 rfl rfl) meA rfl)
set_option maxHeartbeats 4000000 in
set_option maxRecDepth 60000 in
theorem cloneI_c (u : Value) (l : List Int) (hl : l.length ≤ 1000000) : FnB Tryz.prog 81 [u] [] [sI u l] (IsO 3 1 (ints l)) := by
  refine fn_of [(0, u)] 8 Tryz.func81 rfl Tryz.ntmps81 (by kernel_rfl) rfl suA fun h0 => ?_
  cases hn : isNil u with
  | true =>
    refine WC.nil0 (v := u) (l := l) hmA hn fun h => ?_
    subst h
    repeat' (first | refine gA ?_ | (refine goG ?_; intro g) | (refine goV ?_; intro v))
    refine WC.addNil 3 1 ?_
    exact WC.ret (Fin.o (v := .slice none 0 0) (cs := ints []) (ResE.t1 rfl rfl) meA (.head _) rfl)
  | false =>
    repeat' (first | refine gA ?_ | (refine goG ?_; intro g) | (refine goV ?_; intro v))
    exact WC.ret (Fin.o (ResE.t1 rfl rfl) meA meA (List.nil_append _))
set_option maxHeartbeats 4000000 in
set_option maxRecDepth 60000 in
theorem compact0_c (v : Value) (l : List Int) (hl : l.length = 0) : FnB Tryz.prog 84 [v] [Ow.slice v 3 1 (ints l)] [] (IsO 3 1 (ints l)) := by
  refine fn_of [(0, v)] 61 Tryz.func84 rfl Tryz.ntmps84 (by kernel_rfl) rfl suA fun h0 => ?_
  repeat' (first | refine gB ?_ | (refine gH ?_; intro g) | (refine gW ?_; intro v) | refine d84 ?_ | fail)
  exact WC.ret (Fin.o (ResE.t1 rfl rfl) meA meA rfl)
theorem compactA_c (v : Value) (l : List Int) (hl : l.length ≤ 1000000) : FnB Tryz.prog 84 [v] [Ow.slice v 3 1 (ints l)] [] (IsO 3 1 (ints (Lib.compact l))) := by
  cases l with
  | nil => exact compact0_c v [] rfl
  | cons a l => exact compact_c v (a :: l) hl (by simp)
set_option maxHeartbeats 4000000 in
set_option maxRecDepth 60000 in
theorem delete0_c (v : Value) (f : FuncId) (cap : List Value) (Fc : List Fct) (p : Int → Bool) (hp : ∀ x, FnB Tryz.prog f ([.int .i64 x] ++ cap) [] Fc (IsV (.bool (p x)))) :
    FnB Tryz.prog 80 [v, .func (.func f) #[] cap.toArray] [Ow.slice v 3 1 (ints [])] Fc (IsO 3 1 (ints [])) := by
  refine fn_of [(0, v), (1, (.func (.func f) #[] cap.toArray))] 42 Tryz.func80 rfl Tryz.ntmps80 (by kernel_rfl) rfl suA fun h0 => ?_
  repeat' (first | refine gA ?_ | (refine goG ?_; intro g) | (refine goV ?_; intro v))
  refine WL.callV (indexFI_c v [] f cap Fc p hp) ?_ (hF := .cons (.oI meA) (hasB_tail fun _ h => by (repeat (first | exact h | apply List.mem_cons_of_mem))))
  rw [show optI (X.fstT (fun i => p (([] : List Int).getD i 0)) ([] : List Int).length 0) = -1 from rfl]
  repeat' (first | refine gA ?_ | (refine goG ?_; intro g) | (refine goV ?_; intro v))
  exact WC.ret (Fin.o (ResE.t1 rfl rfl) meA meA rfl)
set_option maxHeartbeats 4000000 in
set_option maxRecDepth 60000 in
theorem core1_c (x : Int) : FnB Tryz.prog 79 ([.int .i64 x] ++ []) [] [] (IsV (.bool (decide (x < -1)))) := by
  refine fn_of [(0, (.int .i64 x))] 5 Tryz.func79 rfl Tryz.ntmps79 (by kernel_rfl) rfl suA fun h0 => ?_
  by_cases c : x < -1
  · repeat' (first | refine gA ?_ | (refine goG ?_; intro g) | (refine goV ?_; intro v))
    exact WC.ret (Fin.v (ResE.t1 rfl rfl) meA (by rw [decide_eq_true c]))
  · repeat' (first | refine gA ?_ | (refine goG ?_; intro g) | (refine goV ?_; intro v))
    exact WC.ret (Fin.v (ResE.t1 rfl rfl) meA (by rw [decide_eq_false c]))
set_option maxHeartbeats 4000000 in
set_option maxRecDepth 60000 in
theorem core2_c (x : Int) : FnB Tryz.prog 82 ([.int .i64 x] ++ []) [] [] (IsV (.bool (decide (x < 0)))) := by
  refine fn_of [(0, (.int .i64 x))] 5 Tryz.func82 rfl Tryz.ntmps82 (by kernel_rfl) rfl suA fun h0 => ?_
  by_cases c : x < 0
  · repeat' (first | refine gA ?_ | (refine goG ?_; intro g) | (refine goV ?_; intro v))
    exact WC.ret (Fin.v (ResE.t1 rfl rfl) meA (by rw [decide_eq_true c]))
  · repeat' (first | refine gA ?_ | (refine goG ?_; intro g) | (refine goV ?_; intro v))
    exact WC.ret (Fin.v (ResE.t1 rfl rfl) meA (by rw [decide_eq_false c]))
set_option maxHeartbeats 4000000 in
set_option maxRecDepth 60000 in
theorem core3_c (x : Int) (y : Int) (g : Nat): FnB Tryz.prog 86 ([.int .i64 x] ++ [ptr g]) [] [ce g 3 [.int .i64 y]] (IsV (.bool (decide (x = y)))) := by
  refine fn_of [(0, (.int .i64 x)), (1, (ptr g))] 7 Tryz.func86 rfl Tryz.ntmps86 (by kernel_rfl) rfl suA fun h0 => ?_
  by_cases c : x = y
  · repeat' (first | refine gA ?_ | (refine goG ?_; intro g) | (refine goV ?_; intro v))
    exact WC.ret (Fin.v (ResE.t1 rfl rfl) meA (by rw [decide_eq_true c]))
  · repeat' (first | refine gA ?_ | (refine goG ?_; intro g) | (refine goV ?_; intro v))
    exact WC.ret (Fin.v (ResE.t1 rfl rfl) meA (by rw [decide_eq_false c]))
end U
section
open Go.Shelf Go.Sort
set_option maxHeartbeats 1000000 in
theorem sneg_gives (W : World) (x : Int) : FnGives Tryz.prog 82 #[] #[.int .i64 x] (.bool (decide (x < 0))) W := by
  unfold FnGives
  show Calls Tryz.prog 82 #[.int .i64 x] W _
  go_enter Tryz.func82, Tryz.ntmps82
  go_wp2
  go_ret
  exact ⟨rfl, 0, rfl⟩
set_option maxHeartbeats 1000000 in
theorem seq_gives (W : World) (x y : Int) (g : Nat) (hc : W.cell? ⟨g, 0, none⟩ = some (.int .i64 y)) : FnGives Tryz.prog 86 #[.pointer (some ⟨g, 0, none⟩)] #[.int .i64 x] (.bool (decide (x = y))) W := by
  unfold FnGives
  show Calls Tryz.prog 86 #[.int .i64 x, .pointer (some ⟨g, 0, none⟩)] W _
  go_enter Tryz.func86, Tryz.ntmps86
  go_wp2
  go_ret
  exact ⟨rfl, 0, rfl⟩
end
open Go.Sort Go.Shelf in
theorem U.delNeg_c (v : Value) (l : List Int) (hl : l.length ≤ 1000000) : FnB Tryz.prog 80 [v, .func (.func 82) #[] #[]] [Ow.slice v 3 1 (ints l)] [] (IsO 3 1 (ints (l.filter fun x => !decide (x < 0)))) := by
  cases l with
  | nil => exact U.delete0_c v 82 [] [] _ U.core2_c
  | cons a l => exact delete_row hl (by simp) (fun x => decide (x < 0)) _ _ (enters_of Tryz.func82 (by kernel_rfl) rfl) fun fr w b cap hv ho => ⟨fun W x _ => sneg_gives W x, fun n os dk x _ => sneg_gives _ x⟩
open Go.Sort Go.Shelf in
theorem U.delEq_c (v : Value) (l : List Int) (y : Int) (g : Nat) (hl : l.length ≤ 1000000) : FnB Tryz.prog 80 [v, .func (.func 86) #[] #[ptr g]] [Ow.slice v 3 1 (ints l)] [ce g 3 [.int .i64 y]] (IsO 3 1 (ints (l.filter fun x => !decide (x = y)))) := by
  cases l with
  | nil => exact U.delete0_c v 86 [ptr g] _ _ fun x => U.core3_c x y g
  | cons a l =>
      refine delete_row hl (by simp) (fun x => decide (x = y)) _ _ (enters_of Tryz.func86 (by kernel_rfl) rfl) ?_
      intro fr w b cap hv ho
      have hf := ho.facts _ (.head _)
      have hg : w.heap[g]? = some (.cells #[.int .i64 y] 3 (0, 0)) := imm_heap hf
      have hgl : g < w.heap.size := (Array.getElem?_eq_some_iff.1 hg).1
      have hgb : g ≠ b := by
        rintro rfl
        have : imm fr [Ow.slice v 3 1 (ints (a :: l))] w.heap g = none := by
          unfold imm; rw [if_pos]; subst hv; simp [ids, Ow.ids]
        have h2 : imm fr [Ow.slice v 3 1 (ints (a :: l))] w.heap g = some (.cells #[.int .i64 y] 3 (0, 0)) := hf
        rw [this] at h2; cases h2
      have hc : w.cell? ⟨g, 0, none⟩ = some (.int .i64 y) := by unfold World.cell?; rw [hg]; rfl
      refine ⟨fun W x hW => seq_gives W x y g ((hW.cell (p := ⟨g, 0, none⟩) hgl).trans hc), fun n os dk x _ => seq_gives _ x y g ?_⟩
      unfold World.cell? sortWorld
      rw [Sort.heap_grow_old _ os (by simpa using hgl)]
      have : (putRow (Value.int .i64) (Sort.ahead w n) b 0 dk).heap[g]? = w.heap[g]? := by
        unfold putRow mapBlock
        show (w.heap.modify b _)[g]? = _
        rw [Array.getElem?_modify, if_neg (fun h => hgb h.symm)]
      rw [this, hg]; rfl
end Go.Proofs.YtaongbhamadlkaaGreat
