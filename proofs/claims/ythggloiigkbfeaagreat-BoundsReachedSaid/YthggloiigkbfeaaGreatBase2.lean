/- Lemmas for the proof of a law: The run of the executor: each lemma takes the steps that it can take and leaves what follows. Conditions: none. -/
import Derived.Test.YthggloiigkbfeaaGreatBase1
set_option linter.unusedVariables false
set_option linter.unusedSimpArgs false
set_option linter.unusedSectionVars false
namespace Go.Proofs.YthggloiigkbfeaaGreat
open W Go.RowKit
attribute [local irreducible] WC WL WD YO LO LoopEnd W.Fin Scalar SliceT FieldAt Row ArrT AllocT KnS Has W.One SrcE IntT
/-- what is left -/
structure Bx (p : Prop) : Prop where
  h : p
theorem allAnd {α : Type} {p q : α → Prop} (h1 : ∀ a, p a) (h2 : ∀ a, q a) : ∀ a, p a ∧ q a := fun a => ⟨h1 a, h2 a⟩
theorem meA {G : Prop} (h : G := by first | (((repeat (first | exact List.Mem.head _ | apply List.Mem.tail))); done) | fail) : G := h
theorem hmA {G : Prop} (h : G := by first | (((focus (apply Has.mem; (repeat (first | exact List.Mem.head _ | apply List.Mem.tail)); done))); done) | fail) : G := h
theorem sfA {G : Prop} (h : G := by first | ((repeat (first | exact HasAll.nil | (apply HasAll.cons; (focus (apply Has.mem; (repeat (first | exact List.Mem.head _ | apply List.Mem.tail)); done))))); done) | fail) : G := h
theorem suA {G : Prop} (h : G := by first | ((repeat (first | exact Sub.nil _ | refine Sub.cons rfl ?_)); done) | fail) : G := h
theorem slA {G : Prop} (h : G := by first | ((repeat (first | exact List.Sublist.refl _ | exact List.nil_sublist _ | apply List.Sublist.cons_cons | apply List.Sublist.cons)); done) | fail) : G := h
theorem evA {G : Prop} (h : G := by first | ((repeat (first | exact Evs.nil | (apply Evs.cons; exact rfl))); done) | fail) : G := h
theorem seA {G : Prop} (h : G := by first | (((repeat (first | exact Sel.head | apply Sel.tail))); done) | fail) : G := h
theorem t0A {G : Prop} (h : G := by first | (((first | exact T.al3 | exact T.al4 | exact T.al22 | exact T.al26 | exact T.al32 | exact T.al35 | exact T.al37 | exact T.al38 | exact T.al59 | exact T.al103 | exact T.al109 | exact T.al111 | exact T.al114 | exact T.al161 | exact T.al164)); done) | fail) : G := h
theorem t1A {G : Prop} (h : G := by first | (((first | exact T.f35_0 | exact T.f35_1 | exact T.f37_0 | exact T.f37_1 | exact T.f59_0 | exact T.f59_1 | exact T.f59_2 | exact T.f103_0 | exact T.f103_1 | exact T.f114_0 | exact T.f114_1)); done) | fail) : G := h
theorem t2A {G : Prop} (h : G := by first | (((first | exact T.sc3 | exact T.sc4 | exact T.sc22 | exact T.sc26 | exact T.sc32 | exact T.sc38 | exact T.sc109 | exact T.sc111 | exact T.sc161 | exact T.sc164)); done) | fail) : G := h
theorem t3A {G : Prop} (h : G := by first | (((first | exact T.z3 | exact T.z4 | exact T.z22 | exact T.z26 | exact T.z32 | exact T.z38 | exact T.z109 | exact T.z111 | exact T.z161 | exact T.z164)); done) | fail) : G := h
theorem t4A {G : Prop} (h : G := by first | (((first | exact T.e22 | exact T.e32 | exact T.e38 | exact T.e109 | exact T.e111 | exact T.e161)); done) | fail) : G := h
theorem t5A {G : Prop} (h : G := by first | (((first | exact T.s22 | exact T.s32 | exact T.s38 | exact T.s109 | exact T.s111 | exact T.s161)); done) | fail) : G := h
theorem t6A {G : Prop} (h : G := by first | (((first | exact T.r35 | exact T.r37 | exact T.r59 | exact T.r103 | exact T.r114)); done) | fail) : G := h
theorem t7A {G : Prop} (h : G := by first | (((first | exact T.u3 | exact T.u26 | exact T.u164)); done) | fail) : G := h
theorem knA {G : Prop} (h : G := by first | (((first | (focus (apply KnS.f; exact hmA; done)) | (focus (apply KnS.oI; exact meA; done)) | (focus (apply KnS.o1; exact meA; done)) | (focus (apply KnS.zd; exact hmA; done)) | (focus (apply KnS.q1; exact hmA; done)) | (focus (apply KnS.q2; exact hmA; done)))); done) | fail) : G := h
theorem hsA {G : Prop} (h : G := by first | (((first | exact hmA | (focus (apply hasQ_P; exact hmA; done)) | (focus (apply hasQ_Q; exact hmA; done)) | exact hasZ_0 | exact hasQ_0 | (focus (apply hasZ_d; exact hmA; done)) | (focus (apply hasQ_d1; exact hmA; done)) | (focus (apply hasQ_d2; exact hmA; done)))); done) | fail) : G := h
theorem haA {G : Prop} (h : G := by first | ((repeat (first | exact HasAll.nil | (apply HasAll.cons; exact hsA))); done) | fail) : G := h
theorem hbA {G : Prop} (h : G := by first | ((repeat (first | exact HasAllB.nil | (apply HasAllB.cons; (first | (focus (apply HasB.oI; exact meA; done)) | (focus (apply HasB.c; exact meA; done)) | (focus (apply HasB.f; exact hsA; done)))))); done) | fail) : G := h
theorem ltA {G : Prop} (h : G := by first | (((first | (focus (apply Or.inr; constructor; (repeat (first | exact List.Sublist.refl _ | exact List.nil_sublist _ | apply List.Sublist.cons_cons | apply List.Sublist.cons)); (first | exact fun _ h => h | (intro f hf; (repeat (first | exact hf | apply List.Mem.tail)))); done)) | (apply Or.inl; kernel_rfl))); done) | fail) : G := h
theorem onA {G : Prop} (h : G := by first | (((first | exact ints_one _ | (intro u hu; simp only [List.mem_cons, List.not_mem_nil, or_false] at hu; first | (subst hu; rfl) | (rcases hu with rfl | rfl | rfl <;> rfl)))); done) | fail) : G := h
theorem leA {G : Prop} (h : G := by first | (((simp only [List.length_map, List.length_append, List.length_cons, List.length_nil, List.length_replicate, List.length_take]; omega)); done) | fail) : G := h
theorem y_indexAddr {G : Prop} (h : G := by first | (((first | (first | (apply YO.ix1; exact t5A; exact rfl; exact rfl; exact knA; omega) | (apply YO.ix; exact t5A; exact rfl; exact rfl; exact knA; omega) | (apply YO.ix1'; exact t5A; exact rfl; exact rfl; exact knA; omega; omega) | (apply YO.ix'; exact t5A; exact rfl; exact rfl; exact knA; omega; omega)) | (apply YO.ix1; exact t5A; exact rfl; exact rfl; exact knA; (first | omega | (simp only [List.length_set]; omega))) | (apply YO.ix; exact t5A; exact rfl; exact rfl; exact knA; (first | omega | (simp only [List.length_set]; omega))) | (apply YO.ix1'; exact t5A; exact rfl; exact rfl; exact knA; omega; (first | omega | (simp only [List.length_set]; omega))))); done) | fail) : G := h
theorem y_load {G : Prop} (h : G := by first | (((first | (apply YO.ldW; exact t6A; exact rfl; exact meA; exact rfl) | (apply YO.ld42; exact t6A; exact rfl; exact meA) | (apply YO.ld40; exact t6A; exact rfl; exact meA) | (apply YO.ld62; exact t6A; exact rfl; exact meA) | (apply YO.ld51; exact t6A; exact rfl; exact meA) | (apply YO.ldWI0; exact t6A; exact rfl; exact meA; (first | omega | (simp only [List.length_set, List.length_replicate]; omega))) | (apply YO.ldWF0; exact t6A; exact rfl; exact hmA; (first | omega | (simp only [List.length_set, List.length_replicate]; omega))) | (apply YO.ldCI; exact t2A; exact rfl; exact meA; (first | omega | (simp only [List.length_set, List.length_replicate]; omega))) | (apply YO.ldFI; exact t2A; exact rfl; exact hmA; (first | omega | (simp only [List.length_set, List.length_replicate]; omega))) | (apply YO.ldF; exact t2A; exact rfl; exact hmA; exact rfl) | (apply YO.ldS; exact t2A; exact rfl; exact hsA; omega) | (apply YO.ldB; exact t2A; exact rfl; exact meA; exact rfl) | (apply YO.ldOI; exact t2A; exact rfl; exact meA; (first | omega | (simp only [List.length_set]; omega))))); done) | fail) : G := h
theorem y_slice {G : Prop} (h : G := by first | (((first | (first | (apply YO.slice; exact t5A; exact rfl; exact knA; exact Or.inl ⟨rfl, rfl⟩; exact Or.inr ⟨_, rfl, rfl⟩; omega; omega) | (apply YO.slice; exact t5A; exact rfl; exact knA; exact Or.inr ⟨_, rfl, rfl⟩; exact Or.inl ⟨rfl, rfl⟩; omega; omega)) | (apply YO.slice3; exact t5A; exact rfl; exact knA; exact rfl; exact rfl; omega; omega))); done) | fail) : G := h
theorem y_eql {G : Prop} (h : G := by first | (((first | (first | (first | (apply YO.eql_t; exact rfl; exact rfl; omega) | (apply YO.eql_f; exact rfl; exact rfl; omega)) | (apply YO.eqNil_t; exact t5A; exact rfl; exact knA; assumption) | (apply YO.eqNil_f; exact t5A; exact rfl; exact knA; assumption)) | (apply YO.beq_t; exact bool_t; exact rfl; exact rfl; (first | rfl | assumption | decide)) | (apply YO.beq_f; exact bool_t; exact rfl; exact rfl; (first | rfl | assumption | decide)))); done) | fail) : G := h
theorem y_build {G : Prop} (h : G := by first | (((first | (apply YO.buildZ; exact rfl; exact rfl; exact knA) | exact YO.buildZ0 | exact YO.buildQ0 | (apply YO.buildQ1; exact rfl) | (apply YO.buildQ2; exact rfl; exact rfl))); done) | fail) : G := h
theorem y_len {G : Prop} (h : G := by first | (((apply YO.len; exact t5A; exact rfl; exact knA)); done) | fail) : G := h
theorem y_fieldAddr {G : Prop} (h : G := by first | (((first | (apply YO.fieldE; exact t1A; exact rfl) | (apply YO.fieldN; exact t1A; exact rfl; ((try simp only [Nat.zero_add, Nat.mul_one, Nat.reduceAdd, Nat.reduceMul]); exact rfl)))); done) | fail) : G := h
theorem y_conv {G : Prop} (h : G := by first | (((first | (first | (apply YO.convU; exact t7A; exact t7A; exact rfl; omega; omega) | (apply YO.convI; exact t7A; exact t7A; exact rfl; omega; omega)) | (apply YO.convN; exact t7A; exact t7A; exact rfl; omega; omega))); done) | fail) : G := h
theorem y_neq {G : Prop} (h : G := by first | (((first | (first | (apply YO.neq_t; exact rfl; exact rfl; omega) | (apply YO.neq_f; exact rfl; exact rfl; omega)) | (apply YO.bne_t; exact bool_t; exact rfl; exact rfl; (first | rfl | assumption | decide)) | (apply YO.bne_f; exact bool_t; exact rfl; exact rfl; (first | rfl | assumption | decide)))); done) | fail) : G := h
theorem y_makeFunc {G : Prop} (h : G := by first | (((apply YO.makeFunc; (repeat (first | exact Evs.nil | (apply Evs.cons; exact rfl))); (repeat (first | exact Evs.nil | (apply Evs.cons; exact rfl))))); done) | fail) : G := h
theorem y_quo {G : Prop} (h : G := by first | (((first | (apply YO.quo; exact rfl; exact rfl; omega; omega; omega) | (apply YO.uquo; exact rfl; exact rfl; omega; omega; omega))); done) | fail) : G := h
theorem y_and {G : Prop} (h : G := by first | (((first | (apply YO.and1; exact rfl; exact rfl; omega; omega) | (apply YO.and; exact rfl; exact rfl; omega; omega; omega; omega))); done) | fail) : G := h
theorem y_mul {G : Prop} (h : G := by first | (((first | (apply YO.mul; exact rfl; exact rfl; omega; omega) | (apply YO.umul; exact rfl; exact rfl; omega; omega))); done) | fail) : G := h
theorem y_rem {G : Prop} (h : G := by first | (((first | (apply YO.rem; exact rfl; exact rfl; omega; omega) | (apply YO.urem; exact rfl; exact rfl; omega; omega))); done) | fail) : G := h
theorem y_add {G : Prop} (h : G := by first | (((first | (apply YO.inc; exact rfl; exact rfl; omega) | (apply YO.add; exact rfl; exact rfl; omega; omega))); done) | fail) : G := h
theorem y_lss {G : Prop} (h : G := by first | (((first | (apply YO.lss_t; exact rfl; exact rfl; omega) | (apply YO.lss_f; exact rfl; exact rfl; omega))); done) | fail) : G := h
theorem y_gtr {G : Prop} (h : G := by first | (((first | (apply YO.gtr_t; exact rfl; exact rfl; omega) | (apply YO.gtr_f; exact rfl; exact rfl; omega))); done) | fail) : G := h
theorem y_geq {G : Prop} (h : G := by first | (((first | (apply YO.geq_t; exact rfl; exact rfl; omega) | (apply YO.geq_f; exact rfl; exact rfl; omega))); done) | fail) : G := h
theorem y_leq {G : Prop} (h : G := by first | (((first | (apply YO.leq_t; exact rfl; exact rfl; omega) | (apply YO.leq_f; exact rfl; exact rfl; omega))); done) | fail) : G := h
theorem y_shl {G : Prop} (h : G := by first | (((apply YO.shl'; exact rfl; exact rfl; omega; omega; (first | omega | decide); (first | omega | decide))); done) | fail) : G := h
theorem y_uneg {G : Prop} (h : G := by first | (((first | (apply YO.neg; exact rfl; omega; omega) | (apply YO.uneg; exact rfl; omega; omega))); done) | fail) : G := h
theorem y_pick {G : Prop} (h : G := by first | (((first | (apply YO.pick_t; exact rfl; exact rfl) | (apply YO.pick_f; exact rfl; exact rfl))); done) | fail) : G := h
theorem y_unot {G : Prop} (h : G := by first | (((first | (apply YO.not_t; exact rfl) | (apply YO.not_f; exact rfl))); done) | fail) : G := h
theorem y_or {G : Prop} (h : G := by first | (((apply YO.or; exact rfl; exact rfl; omega; omega; omega; omega)); done) | fail) : G := h
theorem go {G G' : Prop} (h : G') (s : Bx G' → G := by
  intro h
  (first
    | apply WL.nil
    | (apply WL.skg; exact rfl; exact rfl)
    | (apply WL.skg0; exact rfl)
    | (apply WL.k_move; (apply YO.move; exact rfl); exact rfl; exact rfl)
    | (apply WL.k_assign; (apply YO.assign; exact rfl); exact rfl; exact rfl)
    | (apply WL.k_lss; exact y_lss; exact rfl; exact rfl)
    | (apply WL.k_add; exact y_add; exact rfl; exact rfl)
    | (apply WL.k_len; exact y_len; exact rfl; exact rfl)
    | (apply WL.k_indexAddr; exact y_indexAddr; exact rfl; exact rfl)
    | (apply WL.k_load; exact y_load; exact rfl; exact rfl)
    | (apply WL.k_pick; exact y_pick; exact rfl; exact rfl)
    | (apply WL.k_fieldAddr; exact y_fieldAddr; exact rfl; exact rfl)
    | (apply WL.k_eql; exact y_eql; exact rfl; exact rfl)
    | (apply WL.k_neq; exact y_neq; exact rfl; exact rfl)
    | (apply WL.k_nil; (apply YO.nil; exact rfl); exact rfl; exact rfl)
    | (apply WL.k_extract; (apply YO.extract; exact rfl; exact rfl); exact rfl; exact rfl)
    | (apply WL.k_gtr; exact y_gtr; exact rfl; exact rfl)
    | (apply WL.k_geq; exact y_geq; exact rfl; exact rfl)
    | (apply WL.k_leq; exact y_leq; exact rfl; exact rfl)
    | (apply WL.k_sub; (apply YO.sub; exact rfl; exact rfl; omega; omega); exact rfl; exact rfl)
    | (apply WL.k_mul; exact y_mul; exact rfl; exact rfl)
    | (apply WL.k_rem; exact y_rem; exact rfl; exact rfl)
    | (apply WL.k_quo; exact y_quo; exact rfl; exact rfl)
    | (apply WL.k_unot; exact y_unot; exact rfl; exact rfl)
    | (apply WL.k_uneg; exact y_uneg; exact rfl; exact rfl)
    | (apply WL.k_max; (apply YO.max; exact rfl; exact rfl); exact rfl; exact rfl)
    | (apply WL.k_min; (apply YO.min; exact rfl; exact rfl); exact rfl; exact rfl)
    | (apply WL.k_makeFunc; exact y_makeFunc; exact rfl; exact rfl)
    | (apply WL.k_conv; exact y_conv; exact rfl; exact rfl)
    | (apply WL.k_shl; exact y_shl; exact rfl; exact rfl)
    | (apply WL.k_shr; (apply YO.shr'; exact rfl; exact rfl; omega; omega); exact rfl; exact rfl)
    | (apply WL.k_and; exact y_and; exact rfl; exact rfl)
    | (apply WL.k_or; exact y_or; exact rfl; exact rfl)
    | (apply WL.k_andNot; (apply YO.anot; exact rfl; exact rfl); exact rfl; exact rfl)
    | (apply WL.k_slice; exact y_slice; exact rfl; exact rfl)
    | (apply WL.k_build; exact y_build; exact rfl; exact rfl)
    | apply WC.seq
    | apply WC.region
    | apply WC.block
    | (apply WC.cond_t; exact rfl)
    | (apply WC.cond_f; exact rfl)
    | apply WC.exit
    | apply WC.skip
    | apply WC.label
    | (apply WL.kl_store; rotate_left; exact rfl; (first | (apply LO.storeOI; exact rfl; exact rfl; exact t3A; exact seA; (first | omega | (simp only [List.length_set]; omega))) | (apply LO.storeI; exact rfl; exact rfl; exact t3A; exact seA; (first | omega | (simp only [List.length_set, List.length_replicate]; omega))) | (apply LO.storeWI; exact rfl; exact rfl; exact seA; exact t6A; (first | omega | (simp only [List.length_set, List.length_replicate]; omega)); (first | (simp only [List.length_map, List.length_set, List.length_replicate, ints]; omega) | rfl)) | (apply LO.store1; exact rfl; exact rfl; exact t3A; (first | exact One.lit rfl rfl | (apply One.sl; exact knA)); exact seA; (first | (simp only [List.length_cons, List.length_nil]; omega) | (simp; omega)); (first | (simp only [List.set_cons_succ, List.set_cons_zero]; exact rfl) | exact rfl)) | (apply LO.storeO1; exact rfl; exact rfl; exact t3A; (first | exact One.lit rfl rfl | (apply One.sl; exact knA)); exact seA; (first | (simp only [List.length_cons, List.length_nil]; omega) | (simp; omega)); (first | (simp only [List.set_cons_succ, List.set_cons_zero]; exact rfl) | exact rfl)) | (apply LO.storeL; exact rfl; exact rfl; exact seA; exact t6A; exact rfl; exact rfl; (repeat (first | exact OneL.nil | (apply OneL.cons; (first | exact One.lit rfl rfl | (apply One.sl; exact knA)))))))))
  repeat (first
    | apply WL.nil
    | (apply WL.skg; exact rfl; exact rfl)
    | (apply WL.skg0; exact rfl)
    | (apply WL.k_move; (apply YO.move; exact rfl); exact rfl; exact rfl)
    | (apply WL.k_assign; (apply YO.assign; exact rfl); exact rfl; exact rfl)
    | (apply WL.k_lss; exact y_lss; exact rfl; exact rfl)
    | (apply WL.k_add; exact y_add; exact rfl; exact rfl)
    | (apply WL.k_len; exact y_len; exact rfl; exact rfl)
    | (apply WL.k_indexAddr; exact y_indexAddr; exact rfl; exact rfl)
    | (apply WL.k_load; exact y_load; exact rfl; exact rfl)
    | (apply WL.k_pick; exact y_pick; exact rfl; exact rfl)
    | (apply WL.k_fieldAddr; exact y_fieldAddr; exact rfl; exact rfl)
    | (apply WL.k_eql; exact y_eql; exact rfl; exact rfl)
    | (apply WL.k_neq; exact y_neq; exact rfl; exact rfl)
    | (apply WL.k_nil; (apply YO.nil; exact rfl); exact rfl; exact rfl)
    | (apply WL.k_extract; (apply YO.extract; exact rfl; exact rfl); exact rfl; exact rfl)
    | (apply WL.k_gtr; exact y_gtr; exact rfl; exact rfl)
    | (apply WL.k_geq; exact y_geq; exact rfl; exact rfl)
    | (apply WL.k_leq; exact y_leq; exact rfl; exact rfl)
    | (apply WL.k_sub; (apply YO.sub; exact rfl; exact rfl; omega; omega); exact rfl; exact rfl)
    | (apply WL.k_mul; exact y_mul; exact rfl; exact rfl)
    | (apply WL.k_rem; exact y_rem; exact rfl; exact rfl)
    | (apply WL.k_quo; exact y_quo; exact rfl; exact rfl)
    | (apply WL.k_unot; exact y_unot; exact rfl; exact rfl)
    | (apply WL.k_uneg; exact y_uneg; exact rfl; exact rfl)
    | (apply WL.k_max; (apply YO.max; exact rfl; exact rfl); exact rfl; exact rfl)
    | (apply WL.k_min; (apply YO.min; exact rfl; exact rfl); exact rfl; exact rfl)
    | (apply WL.k_makeFunc; exact y_makeFunc; exact rfl; exact rfl)
    | (apply WL.k_conv; exact y_conv; exact rfl; exact rfl)
    | (apply WL.k_shl; exact y_shl; exact rfl; exact rfl)
    | (apply WL.k_shr; (apply YO.shr'; exact rfl; exact rfl; omega; omega); exact rfl; exact rfl)
    | (apply WL.k_and; exact y_and; exact rfl; exact rfl)
    | (apply WL.k_or; exact y_or; exact rfl; exact rfl)
    | (apply WL.k_andNot; (apply YO.anot; exact rfl; exact rfl); exact rfl; exact rfl)
    | (apply WL.k_slice; exact y_slice; exact rfl; exact rfl)
    | (apply WL.k_build; exact y_build; exact rfl; exact rfl)
    | apply WC.seq
    | apply WC.region
    | apply WC.block
    | (apply WC.cond_t; exact rfl)
    | (apply WC.cond_f; exact rfl)
    | apply WC.exit
    | apply WC.skip
    | apply WC.label
    | (apply WL.kl_store; rotate_left; exact rfl; (first | (apply LO.storeOI; exact rfl; exact rfl; exact t3A; exact seA; (first | omega | (simp only [List.length_set]; omega))) | (apply LO.storeI; exact rfl; exact rfl; exact t3A; exact seA; (first | omega | (simp only [List.length_set, List.length_replicate]; omega))) | (apply LO.storeWI; exact rfl; exact rfl; exact seA; exact t6A; (first | omega | (simp only [List.length_set, List.length_replicate]; omega)); (first | (simp only [List.length_map, List.length_set, List.length_replicate, ints]; omega) | rfl)) | (apply LO.store1; exact rfl; exact rfl; exact t3A; (first | exact One.lit rfl rfl | (apply One.sl; exact knA)); exact seA; (first | (simp only [List.length_cons, List.length_nil]; omega) | (simp; omega)); (first | (simp only [List.set_cons_succ, List.set_cons_zero]; exact rfl) | exact rfl)) | (apply LO.storeO1; exact rfl; exact rfl; exact t3A; (first | exact One.lit rfl rfl | (apply One.sl; exact knA)); exact seA; (first | (simp only [List.length_cons, List.length_nil]; omega) | (simp; omega)); (first | (simp only [List.set_cons_succ, List.set_cons_zero]; exact rfl) | exact rfl)) | (apply LO.storeL; exact rfl; exact rfl; exact seA; exact t6A; exact rfl; exact rfl; (repeat (first | exact OneL.nil | (apply OneL.cons; (first | exact One.lit rfl rfl | (apply One.sl; exact knA)))))))))
  exact Bx.h h) : G := s ⟨h⟩
theorem goD {G G' : Prop} (h : G') (s : Bx G' → G := by
  intro h
  (first
    | apply WD.nil
    | (apply WD.skg; exact rfl; exact rfl; exact rfl)
    | (apply WD.skgl; exact rfl; exact rfl; exact rfl)
    | (apply WD.skgl0; exact rfl; exact rfl)
    | (apply WD.k_move; exact rfl; (apply YO.move; exact rfl); exact rfl; exact rfl)
    | (apply WD.k_assign; exact rfl; (apply YO.assign; exact rfl); exact rfl; exact rfl)
    | (apply WD.k_lss; exact rfl; exact y_lss; exact rfl; exact rfl)
    | (apply WD.k_add; exact rfl; exact y_add; exact rfl; exact rfl)
    | (apply WD.k_len; exact rfl; exact y_len; exact rfl; exact rfl)
    | (apply WD.k_indexAddr; exact rfl; exact y_indexAddr; exact rfl; exact rfl)
    | (apply WD.k_load; exact rfl; exact y_load; exact rfl; exact rfl)
    | (apply WD.k_pick; exact rfl; exact y_pick; exact rfl; exact rfl)
    | (apply WD.k_fieldAddr; exact rfl; exact y_fieldAddr; exact rfl; exact rfl)
    | (apply WD.k_eql; exact rfl; exact y_eql; exact rfl; exact rfl)
    | (apply WD.k_neq; exact rfl; exact y_neq; exact rfl; exact rfl)
    | (apply WD.k_nil; exact rfl; (apply YO.nil; exact rfl); exact rfl; exact rfl)
    | (apply WD.k_extract; exact rfl; (apply YO.extract; exact rfl; exact rfl); exact rfl; exact rfl)
    | (apply WD.k_gtr; exact rfl; exact y_gtr; exact rfl; exact rfl)
    | (apply WD.k_geq; exact rfl; exact y_geq; exact rfl; exact rfl)
    | (apply WD.k_leq; exact rfl; exact y_leq; exact rfl; exact rfl)
    | (apply WD.k_sub; exact rfl; (apply YO.sub; exact rfl; exact rfl; omega; omega); exact rfl; exact rfl)
    | (apply WD.k_mul; exact rfl; exact y_mul; exact rfl; exact rfl)
    | (apply WD.k_rem; exact rfl; exact y_rem; exact rfl; exact rfl)
    | (apply WD.k_quo; exact rfl; exact y_quo; exact rfl; exact rfl)
    | (apply WD.k_unot; exact rfl; exact y_unot; exact rfl; exact rfl)
    | (apply WD.k_uneg; exact rfl; exact y_uneg; exact rfl; exact rfl)
    | (apply WD.k_max; exact rfl; (apply YO.max; exact rfl; exact rfl); exact rfl; exact rfl)
    | (apply WD.k_min; exact rfl; (apply YO.min; exact rfl; exact rfl); exact rfl; exact rfl)
    | (apply WD.k_makeFunc; exact rfl; exact y_makeFunc; exact rfl; exact rfl)
    | (apply WD.k_conv; exact rfl; exact y_conv; exact rfl; exact rfl)
    | (apply WD.k_shl; exact rfl; exact y_shl; exact rfl; exact rfl)
    | (apply WD.k_shr; exact rfl; (apply YO.shr'; exact rfl; exact rfl; omega; omega); exact rfl; exact rfl)
    | (apply WD.k_and; exact rfl; exact y_and; exact rfl; exact rfl)
    | (apply WD.k_or; exact rfl; exact y_or; exact rfl; exact rfl)
    | (apply WD.k_andNot; exact rfl; (apply YO.anot; exact rfl; exact rfl); exact rfl; exact rfl)
    | (apply WD.k_slice; exact rfl; exact y_slice; exact rfl; exact rfl)
    | (apply WD.k_build; exact rfl; exact y_build; exact rfl; exact rfl)
    | (apply WD.kl_store; exact rfl; rotate_left; exact rfl; (first | (apply LO.storeOI; exact rfl; exact rfl; exact t3A; exact seA; (first | omega | (simp only [List.length_set]; omega))) | (apply LO.storeI; exact rfl; exact rfl; exact t3A; exact seA; (first | omega | (simp only [List.length_set, List.length_replicate]; omega))) | (apply LO.storeWI; exact rfl; exact rfl; exact seA; exact t6A; (first | omega | (simp only [List.length_set, List.length_replicate]; omega)); (first | (simp only [List.length_map, List.length_set, List.length_replicate, ints]; omega) | rfl)) | (apply LO.store1; exact rfl; exact rfl; exact t3A; (first | exact One.lit rfl rfl | (apply One.sl; exact knA)); exact seA; (first | (simp only [List.length_cons, List.length_nil]; omega) | (simp; omega)); (first | (simp only [List.set_cons_succ, List.set_cons_zero]; exact rfl) | exact rfl)) | (apply LO.storeO1; exact rfl; exact rfl; exact t3A; (first | exact One.lit rfl rfl | (apply One.sl; exact knA)); exact seA; (first | (simp only [List.length_cons, List.length_nil]; omega) | (simp; omega)); (first | (simp only [List.set_cons_succ, List.set_cons_zero]; exact rfl) | exact rfl)) | (apply LO.storeL; exact rfl; exact rfl; exact seA; exact t6A; exact rfl; exact rfl; (repeat (first | exact OneL.nil | (apply OneL.cons; (first | exact One.lit rfl rfl | (apply One.sl; exact knA))))))); constructor; exact ltA))
  repeat (first
    | apply WD.nil
    | (apply WD.skg; exact rfl; exact rfl; exact rfl)
    | (apply WD.skgl; exact rfl; exact rfl; exact rfl)
    | (apply WD.skgl0; exact rfl; exact rfl)
    | (apply WD.k_move; exact rfl; (apply YO.move; exact rfl); exact rfl; exact rfl)
    | (apply WD.k_assign; exact rfl; (apply YO.assign; exact rfl); exact rfl; exact rfl)
    | (apply WD.k_lss; exact rfl; exact y_lss; exact rfl; exact rfl)
    | (apply WD.k_add; exact rfl; exact y_add; exact rfl; exact rfl)
    | (apply WD.k_len; exact rfl; exact y_len; exact rfl; exact rfl)
    | (apply WD.k_indexAddr; exact rfl; exact y_indexAddr; exact rfl; exact rfl)
    | (apply WD.k_load; exact rfl; exact y_load; exact rfl; exact rfl)
    | (apply WD.k_pick; exact rfl; exact y_pick; exact rfl; exact rfl)
    | (apply WD.k_fieldAddr; exact rfl; exact y_fieldAddr; exact rfl; exact rfl)
    | (apply WD.k_eql; exact rfl; exact y_eql; exact rfl; exact rfl)
    | (apply WD.k_neq; exact rfl; exact y_neq; exact rfl; exact rfl)
    | (apply WD.k_nil; exact rfl; (apply YO.nil; exact rfl); exact rfl; exact rfl)
    | (apply WD.k_extract; exact rfl; (apply YO.extract; exact rfl; exact rfl); exact rfl; exact rfl)
    | (apply WD.k_gtr; exact rfl; exact y_gtr; exact rfl; exact rfl)
    | (apply WD.k_geq; exact rfl; exact y_geq; exact rfl; exact rfl)
    | (apply WD.k_leq; exact rfl; exact y_leq; exact rfl; exact rfl)
    | (apply WD.k_sub; exact rfl; (apply YO.sub; exact rfl; exact rfl; omega; omega); exact rfl; exact rfl)
    | (apply WD.k_mul; exact rfl; exact y_mul; exact rfl; exact rfl)
    | (apply WD.k_rem; exact rfl; exact y_rem; exact rfl; exact rfl)
    | (apply WD.k_quo; exact rfl; exact y_quo; exact rfl; exact rfl)
    | (apply WD.k_unot; exact rfl; exact y_unot; exact rfl; exact rfl)
    | (apply WD.k_uneg; exact rfl; exact y_uneg; exact rfl; exact rfl)
    | (apply WD.k_max; exact rfl; (apply YO.max; exact rfl; exact rfl); exact rfl; exact rfl)
    | (apply WD.k_min; exact rfl; (apply YO.min; exact rfl; exact rfl); exact rfl; exact rfl)
    | (apply WD.k_makeFunc; exact rfl; exact y_makeFunc; exact rfl; exact rfl)
    | (apply WD.k_conv; exact rfl; exact y_conv; exact rfl; exact rfl)
    | (apply WD.k_shl; exact rfl; exact y_shl; exact rfl; exact rfl)
    | (apply WD.k_shr; exact rfl; (apply YO.shr'; exact rfl; exact rfl; omega; omega); exact rfl; exact rfl)
    | (apply WD.k_and; exact rfl; exact y_and; exact rfl; exact rfl)
    | (apply WD.k_or; exact rfl; exact y_or; exact rfl; exact rfl)
    | (apply WD.k_andNot; exact rfl; (apply YO.anot; exact rfl; exact rfl); exact rfl; exact rfl)
    | (apply WD.k_slice; exact rfl; exact y_slice; exact rfl; exact rfl)
    | (apply WD.k_build; exact rfl; exact y_build; exact rfl; exact rfl)
    | (apply WD.kl_store; exact rfl; rotate_left; exact rfl; (first | (apply LO.storeOI; exact rfl; exact rfl; exact t3A; exact seA; (first | omega | (simp only [List.length_set]; omega))) | (apply LO.storeI; exact rfl; exact rfl; exact t3A; exact seA; (first | omega | (simp only [List.length_set, List.length_replicate]; omega))) | (apply LO.storeWI; exact rfl; exact rfl; exact seA; exact t6A; (first | omega | (simp only [List.length_set, List.length_replicate]; omega)); (first | (simp only [List.length_map, List.length_set, List.length_replicate, ints]; omega) | rfl)) | (apply LO.store1; exact rfl; exact rfl; exact t3A; (first | exact One.lit rfl rfl | (apply One.sl; exact knA)); exact seA; (first | (simp only [List.length_cons, List.length_nil]; omega) | (simp; omega)); (first | (simp only [List.set_cons_succ, List.set_cons_zero]; exact rfl) | exact rfl)) | (apply LO.storeO1; exact rfl; exact rfl; exact t3A; (first | exact One.lit rfl rfl | (apply One.sl; exact knA)); exact seA; (first | (simp only [List.length_cons, List.length_nil]; omega) | (simp; omega)); (first | (simp only [List.set_cons_succ, List.set_cons_zero]; exact rfl) | exact rfl)) | (apply LO.storeL; exact rfl; exact rfl; exact seA; exact t6A; exact rfl; exact rfl; (repeat (first | exact OneL.nil | (apply OneL.cons; (first | exact One.lit rfl rfl | (apply One.sl; exact knA))))))); constructor; exact ltA))
  exact Bx.h h) : G := s ⟨h⟩
theorem goG {G G' : Prop} (h : G') (s : Bx G' → G := by
  intro h
  (first
    | (apply WL.kl_alloc; rotate_left; exact rfl; exact rfl; apply LO.alloc'; (first | exact t0A))
    | (apply WL.kl_box; rotate_left; exact rfl; exact rfl; (first | (apply LO.boxA; exact rfl) | (apply LO.box1; exact rfl; (first | exact One.lit rfl rfl | (apply One.sl; exact knA))))))
  exact Bx.h h) : G := s ⟨h⟩
theorem goV {G G' : Prop} (h : G') (s : Bx G' → G := by
  intro h
  (first
    | (apply WL.kl_ms; rotate_left; exact rfl; exact rfl; (apply LO.makeI; exact rfl; exact rfl; (repeat (first | (with_reducible apply NatI.add) | (with_reducible exact NatI.one) | exact NatI.cast _)); omega))
    | (apply WL.kl_bs; rotate_left; exact rfl; exact rfl; apply LO.bs1; exact t5A; (repeat (first | exact EvP.nil | (apply EvP.cons; exact rfl))); (intro _; kernel_rfl); exact rfl; omega)
    | (apply WL.kl_app; rotate_left; exact rfl; exact rfl; apply LO.app; exact t4A; exact rfl; exact rfl; (first | (focus (apply SrcE.ints; exact hmA; done)) | (focus (apply SrcE.own1; exact meA; done)) | (focus (apply SrcE.one; exact meA; exact rfl; decide; done))); (intro v; exact seA); exact onA; exact leA; exact leA))
  exact Bx.h h) : G := s ⟨h⟩
theorem goDG {G G' : Prop} (h : G') (s : Bx G' → G := by
  intro h
  (first
    | (apply WD.kl_alloc; exact rfl; rotate_left; exact rfl; exact rfl; apply LO.alloc'; (first | exact t0A); apply allAnd; (intro _; exact ltA))
    | (apply WD.kl_box; exact rfl; rotate_left; exact rfl; exact rfl; (first | (apply LO.boxA; exact rfl) | (apply LO.box1; exact rfl; (first | exact One.lit rfl rfl | (apply One.sl; exact knA)))); apply allAnd; (intro _; exact ltA)))
  exact Bx.h h) : G := s ⟨h⟩
theorem goDV {G G' : Prop} (h : G') (s : Bx G' → G := by
  intro h
  (first
    | (apply WD.kl_ms; exact rfl; rotate_left; exact rfl; exact rfl; (apply LO.makeI; exact rfl; exact rfl; (repeat (first | (with_reducible apply NatI.add) | (with_reducible exact NatI.one) | exact NatI.cast _)); omega); apply allAnd; (intro _; exact ltA))
    | (apply WD.kl_bs; exact rfl; rotate_left; exact rfl; exact rfl; apply LO.bs1; exact t5A; (repeat (first | exact EvP.nil | (apply EvP.cons; exact rfl))); (intro _; kernel_rfl); exact rfl; omega; apply allAnd; (intro _; exact ltA))
    | (apply WD.kl_app; exact rfl; rotate_left; exact rfl; exact rfl; apply LO.app; exact t4A; exact rfl; exact rfl; (first | (focus (apply SrcE.ints; exact hmA; done)) | (focus (apply SrcE.own1; exact meA; done)) | (focus (apply SrcE.one; exact meA; exact rfl; decide; done))); (intro v; exact seA); exact onA; exact leA; exact leA; apply allAnd; (intro _; exact ltA)))
  exact Bx.h h) : G := s ⟨h⟩
theorem goLG {G G' : Prop} (h : G') (s : Bx G' → G := by
  intro h
  (first
    | (apply LO.alloc'; (first | exact t0A); apply allAnd; (intro _; exact ltA))
    | ((first | (apply LO.boxA; exact rfl) | (apply LO.box1; exact rfl; (first | exact One.lit rfl rfl | (apply One.sl; exact knA)))); apply allAnd; (intro _; exact ltA)))
  exact Bx.h h) : G := s ⟨h⟩
theorem goLV {G G' : Prop} (h : G') (s : Bx G' → G := by
  intro h
  (first
    | (apply LO.bs1; exact t5A; (repeat (first | exact EvP.nil | (apply EvP.cons; exact rfl))); (intro _; kernel_rfl); exact rfl; omega; apply allAnd; (intro _; exact ltA))
    | (apply LO.app; exact t4A; exact rfl; exact rfl; (first | (focus (apply SrcE.ints; exact hmA; done)) | (focus (apply SrcE.own1; exact meA; done)) | (focus (apply SrcE.one; exact meA; exact rfl; decide; done))); (intro v; exact seA); exact onA; exact leA; exact leA; apply allAnd; (intro _; exact ltA))
    | ((apply LO.makeI; exact rfl; exact rfl; (repeat (first | (with_reducible apply NatI.add) | (with_reducible exact NatI.one) | exact NatI.cast _)); omega); apply allAnd; (intro _; exact ltA)))
  exact Bx.h h) : G := s ⟨h⟩
theorem goLS {G G' : Prop} (h : G') (s : Bx G' → G := by
  intro h
  (first
    | ((first | (apply LO.storeOI; exact rfl; exact rfl; exact t3A; exact seA; (first | omega | (simp only [List.length_set]; omega))) | (apply LO.storeI; exact rfl; exact rfl; exact t3A; exact seA; (first | omega | (simp only [List.length_set, List.length_replicate]; omega))) | (apply LO.storeWI; exact rfl; exact rfl; exact seA; exact t6A; (first | omega | (simp only [List.length_set, List.length_replicate]; omega)); (first | (simp only [List.length_map, List.length_set, List.length_replicate, ints]; omega) | rfl)) | (apply LO.store1; exact rfl; exact rfl; exact t3A; (first | exact One.lit rfl rfl | (apply One.sl; exact knA)); exact seA; (first | (simp only [List.length_cons, List.length_nil]; omega) | (simp; omega)); (first | (simp only [List.set_cons_succ, List.set_cons_zero]; exact rfl) | exact rfl)) | (apply LO.storeO1; exact rfl; exact rfl; exact t3A; (first | exact One.lit rfl rfl | (apply One.sl; exact knA)); exact seA; (first | (simp only [List.length_cons, List.length_nil]; omega) | (simp; omega)); (first | (simp only [List.set_cons_succ, List.set_cons_zero]; exact rfl) | exact rfl)) | (apply LO.storeL; exact rfl; exact rfl; exact seA; exact t6A; exact rfl; exact rfl; (repeat (first | exact OneL.nil | (apply OneL.cons; (first | exact One.lit rfl rfl | (apply One.sl; exact knA))))))); constructor; exact ltA))
  exact Bx.h h) : G := s ⟨h⟩
section
variable {P : Program} {n : Nat} {L rest : List Oper} {e : Env} {bx b0 : List Ow} {F F0 : List Fct} {Q : Env → List Ow → List Fct → Prop} {d i : Nat} {ty : TypeId} {pos : String} {af : Array Edge} {g : Option (Nat × Bool)} {hs : List Nat} {r : Plan}
  {f : FuncId} {x : Operand} {args : List Operand} {ats : Array TypeId} {vs cs : List Value} {F' : List Fct} {u : Value} {el sz : Nat}
theorem WL.callV (hf : FnB P f vs [] F' (IsV u)) (hK : WL P n L rest ((d, u) :: e) bx F Q) (hx : ev e x = some (.func (.func f) #[] #[]) := by exact rfl) (hv : Evs e args vs := by repeat (first | exact Evs.nil | (apply Evs.cons; exact rfl))) (hF : HasAllB bx F F' := by repeat (first | exact HasAllB.nil | (apply HasAllB.cons; (first | (focus (apply HasB.oI; exact meA; done)) | (focus (apply HasB.c; exact meA; done)) | (focus (apply HasB.f; exact hsA; done))))))
    (hd : Nat.blt d n = true := by exact rfl) (hg : gok L e g = some true := by exact rfl) : WL P n L (⟨some d, .call { callee := .value x, args := args.toArray, argTypes := ats }, ty, pos, af, g⟩ :: rest) e bx F Q :=
  WL.l hd hg (LO.callRV hx hv hf hF hK)
theorem WL.callO (hf : FnB P f vs [] F' (IsO el sz cs)) (hK : ∀ v, WL P n L rest ((d, v) :: e) (Ow.slice v el sz cs :: bx) F Q) (hx : ev e x = some (.func (.func f) #[] #[]) := by exact rfl) (hv : Evs e args vs := by repeat (first | exact Evs.nil | (apply Evs.cons; exact rfl))) (hF : HasAllB bx F F' := by repeat (first | exact HasAllB.nil | (apply HasAllB.cons; (first | (focus (apply HasB.oI; exact meA; done)) | (focus (apply HasB.c; exact meA; done)) | (focus (apply HasB.f; exact hsA; done))))))
    (hd : Nat.blt d n = true := by exact rfl) (hg : gok L e g = some true := by exact rfl) : WL P n L (⟨some d, .call { callee := .value x, args := args.toArray, argTypes := ats }, ty, pos, af, g⟩ :: rest) e bx F Q :=
  WL.l hd hg (LO.callRO hx hv hf hF hK)
theorem WL.callF {R : RPost} (first cap : List Value) (hf : FnB P f (first ++ vs ++ cap) [] F' R) (hK : ∀ v b G, R v b G → WL P n L rest ((d, v) :: e) (b ++ bx) F Q) (hx : ev e x = some (.func (.func f) first.toArray cap.toArray) := by exact rfl) (hv : Evs e args vs := by repeat (first | exact Evs.nil | (apply Evs.cons; exact rfl))) (hF : HasAllB bx F F' := by repeat (first | exact HasAllB.nil | (apply HasAllB.cons; (first | (focus (apply HasB.oI; exact meA; done)) | (focus (apply HasB.c; exact meA; done)) | (focus (apply HasB.f; exact hsA; done))))))
    (hd : Nat.blt d n = true := by exact rfl) (hg : gok L e g = some true := by exact rfl) : WL P n L (⟨some d, .call { callee := .value x, args := args.toArray, argTypes := ats }, ty, pos, af, g⟩ :: rest) e bx F Q :=
  WL.l hd hg (LO.callR hx hv hf hF hK)
theorem WL.callP {R : RPost} (hf : FnB P f vs [] F' R) (hK : ∀ v b G, R v b G → WL P n L rest ((d, v) :: e) (b ++ bx) F Q) (hx : ev e x = some (.func (.func f) #[] #[]) := by exact rfl) (hv : Evs e args vs := by repeat (first | exact Evs.nil | (apply Evs.cons; exact rfl))) (hF : HasAllB bx F F' := by repeat (first | exact HasAllB.nil | (apply HasAllB.cons; (first | (focus (apply HasB.oI; exact meA; done)) | (focus (apply HasB.c; exact meA; done)) | (focus (apply HasB.f; exact hsA; done))))))
    (hd : Nat.blt d n = true := by exact rfl) (hg : gok L e g = some true := by exact rfl) : WL P n L (⟨some d, .call { callee := .value x, args := args.toArray, argTypes := ats }, ty, pos, af, g⟩ :: rest) e bx F Q :=
  WL.l hd hg (LO.callR (first := []) (cap := []) hx hv (by simpa using hf) hF hK)
theorem WD.callP {R : RPost} (hf : FnB P f vs [] F' R) (hK : ∀ v b G, R v b G → WD P n L hs b0 F0 r ((d, v) :: e) (b ++ bx) F Q) (hL : L[i]? = some ⟨some d, .call { callee := .value x, args := args.toArray, argTypes := ats }, ty, pos, af, g⟩ := by exact rfl) (hx : ev e x = some (.func (.func f) #[] #[]) := by exact rfl) (hv : Evs e args vs := by repeat (first | exact Evs.nil | (apply Evs.cons; exact rfl))) (hF : HasAllB bx F F' := by repeat (first | exact HasAllB.nil | (apply HasAllB.cons; (first | (focus (apply HasB.oI; exact meA; done)) | (focus (apply HasB.c; exact meA; done)) | (focus (apply HasB.f; exact hsA; done))))))
    (hd : Nat.blt d n = true := by exact rfl) (hg : gok L e g = some true := by exact rfl) (lt : lateB L hs i = true ∨ (b0.Sublist bx ∧ ∀ f ∈ F0, f ∈ F) := by exact ltA) : WD P n L hs b0 F0 (.loud i r) e bx F Q :=
  WD.l hL hd hg (LO.callR (first := []) (cap := []) hx hv (by simpa using hf) hF fun v b G hR => ⟨lt.imp id fun h => ⟨h.1.trans (List.sublist_append_right _ _), h.2⟩, hK v b G hR⟩)
theorem WD.callV (hf : FnB P f vs [] F' (IsV u)) (hK : WD P n L hs b0 F0 r ((d, u) :: e) bx F Q) (hL : L[i]? = some ⟨some d, .call { callee := .value x, args := args.toArray, argTypes := ats }, ty, pos, af, g⟩ := by exact rfl) (hx : ev e x = some (.func (.func f) #[] #[]) := by exact rfl) (hv : Evs e args vs := by repeat (first | exact Evs.nil | (apply Evs.cons; exact rfl))) (hF : HasAllB bx F F' := by repeat (first | exact HasAllB.nil | (apply HasAllB.cons; (first | (focus (apply HasB.oI; exact meA; done)) | (focus (apply HasB.c; exact meA; done)) | (focus (apply HasB.f; exact hsA; done))))))
    (hd : Nat.blt d n = true := by exact rfl) (hg : gok L e g = some true := by exact rfl) (lt : lateB L hs i = true ∨ (b0.Sublist bx ∧ ∀ f ∈ F0, f ∈ F) := by exact ltA) : WD P n L hs b0 F0 (.loud i r) e bx F Q :=
  WD.l hL hd hg (LO.callRV hx hv hf hF ⟨lt, hK⟩)
theorem WD.callO (hf : FnB P f vs [] F' (IsO el sz cs)) (hK : ∀ v, WD P n L hs b0 F0 r ((d, v) :: e) (Ow.slice v el sz cs :: bx) F Q) (hL : L[i]? = some ⟨some d, .call { callee := .value x, args := args.toArray, argTypes := ats }, ty, pos, af, g⟩ := by exact rfl) (hx : ev e x = some (.func (.func f) #[] #[]) := by exact rfl) (hv : Evs e args vs := by repeat (first | exact Evs.nil | (apply Evs.cons; exact rfl))) (hF : HasAllB bx F F' := by repeat (first | exact HasAllB.nil | (apply HasAllB.cons; (first | (focus (apply HasB.oI; exact meA; done)) | (focus (apply HasB.c; exact meA; done)) | (focus (apply HasB.f; exact hsA; done))))))
    (hd : Nat.blt d n = true := by exact rfl) (hg : gok L e g = some true := by exact rfl) (lt : lateB L hs i = true ∨ (b0.Sublist bx ∧ ∀ f ∈ F0, f ∈ F) := by exact ltA) : WD P n L hs b0 F0 (.loud i r) e bx F Q :=
  WD.l hL hd hg (LO.callRO hx hv hf hF fun v => ⟨lt.imp id fun h => ⟨h.1.trans (List.sublist_cons_self _ _), h.2⟩, hK v⟩)
end
end Go.Proofs.YthggloiigkbfeaaGreat
namespace Go.Proofs.YthggloiigkbfeaaGreat
open W Go.RowKit
namespace W
inductive Rem : List Ow → Ow → List Ow → Prop where
  | head {b : Ow} {l : List Ow} : Rem (b :: l) b l
  | tail {b c : Ow} {l l' : List Ow} : Rem l b l' → Rem (c :: l) b (c :: l')
theorem Rem.perm {l l' : List Ow} {b : Ow} (h : Rem l b l') : l.Perm (b :: l') := by
  induction h with
  | head => exact .refl _
  | tail _ ih => exact (ih.cons _).trans (.swap _ _ _)
section
variable {P : Program} {n : Nat} {L rest : List Oper} {e : Env} {bx bx' b0 ba br : List Ow} {F F0 F' : List Fct} {c : Code} {g : Nat} {t : TypeId} {cs : List Value} {hs : List Nat} {r : Plan}
theorem OK.keep {fr : PH} {w : World} (h : OK fr bx F w) (hr : Rem bx (.cells g t cs) bx') : OK fr bx' (ce g t cs :: F) w := by
  have hp := h.perm hr.perm
  have hd : OK fr bx' F w := hp.drop (List.sublist_cons_self _ _)
  refine hd.add (f := ce g t cs) ?_
  have hh := hp.owns _ List.mem_cons_self
  have hnd := hp.nodup
  have hap := hp.apart g (by simp [ids, Ow.ids])
  simp only [ids, List.flatMap_cons, Ow.ids, List.singleton_append, List.nodup_cons] at hnd
  show imm fr bx' w.heap g = _
  unfold imm
  rw [if_neg]
  · exact hh
  · simp only [hap, Option.isSome_none, Bool.false_or, List.contains_iff_mem]; exact hnd.1
theorem WL.keep {Q : Env → List Ow → List Fct → Prop} (hr : Rem bx (.cells g t cs) bx') (h : WL P n L rest e bx' (ce g t cs :: F) Q) : WL P n L rest e bx F Q := fun fr w0 a w Q' hQ hk hrr ho => h fr w0 a w Q' hQ hk hrr (ho.keep hr)
theorem WC.keep {Q : Post} (hr : Rem bx (.cells g t cs) bx') (h : WC P n c e bx' (ce g t cs :: F) Q) : WC P n c e bx F Q := fun fr w0 a w hk hrr ho => h fr w0 a w hk hrr (ho.keep hr)
variable {f : FuncId} {x : Operand} {args : List Operand} {ats : Array TypeId} {vs first cap : List Value} {R : RPost} {Q : Env → List Ow → List Fct → Prop} {d : Nat} {ty : TypeId} {pos : String} {af : Array Edge} {gd : Option (Nat × Bool)}
theorem WL.callG (ba br : List Ow) (hp : bx.Perm (ba ++ br)) (hf : FnB P f vs ba F' R) (hK : ∀ v b G, R v b G → WL P n L rest ((d, v) :: e) (b ++ br) (G ++ F) Q) (hx : ev e x = some (.func (.func f) #[] #[]) := by exact rfl) (hv : Evs e args vs := by repeat (first | exact Evs.nil | (apply Evs.cons; exact rfl))) (hF : HasAll F F' := by repeat (first | exact HasAll.nil | (apply HasAll.cons; (first | (focus (apply Has.mem; (repeat (first | exact List.Mem.head _ | apply List.Mem.tail)); done)) | (focus (apply hasQ_P; (focus (apply Has.mem; (repeat (first | exact List.Mem.head _ | apply List.Mem.tail)); done)); done)) | (focus (apply hasQ_Q; (focus (apply Has.mem; (repeat (first | exact List.Mem.head _ | apply List.Mem.tail)); done)); done)) | exact hasZ_0 | exact hasQ_0 | (focus (apply hasZ_d; (focus (apply Has.mem; (repeat (first | exact List.Mem.head _ | apply List.Mem.tail)); done)); done)) | (focus (apply hasQ_d1; (focus (apply Has.mem; (repeat (first | exact List.Mem.head _ | apply List.Mem.tail)); done)); done)) | (focus (apply hasQ_d2; (focus (apply Has.mem; (repeat (first | exact List.Mem.head _ | apply List.Mem.tail)); done)); done))))))
    (hd : Nat.blt d n = true := by exact rfl) (hg : gok L e gd = some true := by exact rfl) : WL P n L (⟨some d, .call { callee := .value x, args := args.toArray, argTypes := ats }, ty, pos, af, gd⟩ :: rest) e bx F Q :=
  WL.l hd hg (LO.call (first := []) (cap := []) hx hv ba br hp (by simpa using hf) hF.all hK)
/-- a call whose facts are kept -/
theorem WL.callK (hf : FnB P f vs [] F' R) (hK : ∀ v b G, R v b G → WL P n L rest ((d, v) :: e) (b ++ bx) (G ++ F) Q) (hx : ev e x = some (.func (.func f) #[] #[]) := by exact rfl) (hv : Evs e args vs := by repeat (first | exact Evs.nil | (apply Evs.cons; exact rfl))) (hF : HasAll F F' := by repeat (first | exact HasAll.nil | (apply HasAll.cons; (first | (focus (apply Has.mem; (repeat (first | exact List.Mem.head _ | apply List.Mem.tail)); done)) | (focus (apply hasQ_P; (focus (apply Has.mem; (repeat (first | exact List.Mem.head _ | apply List.Mem.tail)); done)); done)) | (focus (apply hasQ_Q; (focus (apply Has.mem; (repeat (first | exact List.Mem.head _ | apply List.Mem.tail)); done)); done)) | exact hasZ_0 | exact hasQ_0 | (focus (apply hasZ_d; (focus (apply Has.mem; (repeat (first | exact List.Mem.head _ | apply List.Mem.tail)); done)); done)) | (focus (apply hasQ_d1; (focus (apply Has.mem; (repeat (first | exact List.Mem.head _ | apply List.Mem.tail)); done)); done)) | (focus (apply hasQ_d2; (focus (apply Has.mem; (repeat (first | exact List.Mem.head _ | apply List.Mem.tail)); done)); done))))))
    (hd : Nat.blt d n = true := by exact rfl) (hg : gok L e gd = some true := by exact rfl) : WL P n L (⟨some d, .call { callee := .value x, args := args.toArray, argTypes := ats }, ty, pos, af, gd⟩ :: rest) e bx F Q :=
  WL.l hd hg (LO.call (first := []) (cap := []) hx hv [] bx (.refl _) (by simpa using hf) hF.all hK)
theorem WD.callK {i : Nat} (hf : FnB P f vs [] F' R) (hK : ∀ v b G, R v b G → WD P n L hs b0 F0 r ((d, v) :: e) (b ++ bx) (G ++ F) Q) (hL : L[i]? = some ⟨some d, .call { callee := .value x, args := args.toArray, argTypes := ats }, ty, pos, af, gd⟩ := by exact rfl) (hx : ev e x = some (.func (.func f) #[] #[]) := by exact rfl) (hv : Evs e args vs := by repeat (first | exact Evs.nil | (apply Evs.cons; exact rfl))) (hF : HasAll F F' := by repeat (first | exact HasAll.nil | (apply HasAll.cons; (first | (focus (apply Has.mem; (repeat (first | exact List.Mem.head _ | apply List.Mem.tail)); done)) | (focus (apply hasQ_P; (focus (apply Has.mem; (repeat (first | exact List.Mem.head _ | apply List.Mem.tail)); done)); done)) | (focus (apply hasQ_Q; (focus (apply Has.mem; (repeat (first | exact List.Mem.head _ | apply List.Mem.tail)); done)); done)) | exact hasZ_0 | exact hasQ_0 | (focus (apply hasZ_d; (focus (apply Has.mem; (repeat (first | exact List.Mem.head _ | apply List.Mem.tail)); done)); done)) | (focus (apply hasQ_d1; (focus (apply Has.mem; (repeat (first | exact List.Mem.head _ | apply List.Mem.tail)); done)); done)) | (focus (apply hasQ_d2; (focus (apply Has.mem; (repeat (first | exact List.Mem.head _ | apply List.Mem.tail)); done)); done))))))
    (hd : Nat.blt d n = true := by exact rfl) (hg : gok L e gd = some true := by exact rfl) (lt : lateB L hs i = true ∨ (b0.Sublist bx ∧ ∀ f ∈ F0, f ∈ F) := by (first | (focus (apply Or.inr; constructor; (repeat (first | exact List.Sublist.refl _ | exact List.nil_sublist _ | apply List.Sublist.cons_cons | apply List.Sublist.cons)); (first | exact fun _ h => h | (intro f hf; (repeat (first | exact hf | apply List.Mem.tail)))); done)) | (apply Or.inl; kernel_rfl))) : WD P n L hs b0 F0 (.loud i r) e bx F Q :=
  WD.l hL hd hg (LO.call (first := []) (cap := []) hx hv [] bx (.refl _) (by simpa using hf) hF.all fun v b G hR => ⟨lt.imp id fun h => ⟨h.1.trans (List.sublist_append_right _ _), fun f hf => List.mem_append_right _ (h.2 f hf)⟩, hK v b G hR⟩)
theorem LO.callM {i : Nat} (hf : FnB P f vs [] F' R) (hK : ∀ v b G, R v b G → WD P n L hs b0 F0 r ((d, v) :: e) (b ++ bx) (G ++ F) Q) (hx : ev e x = some (.func (.func f) #[] #[]) := by exact rfl) (hv : Evs e args vs := by repeat (first | exact Evs.nil | (apply Evs.cons; exact rfl))) (hF : HasAll F F' := by repeat (first | exact HasAll.nil | (apply HasAll.cons; (first | (focus (apply Has.mem; (repeat (first | exact List.Mem.head _ | apply List.Mem.tail)); done)) | (focus (apply hasQ_P; (focus (apply Has.mem; (repeat (first | exact List.Mem.head _ | apply List.Mem.tail)); done)); done)) | (focus (apply hasQ_Q; (focus (apply Has.mem; (repeat (first | exact List.Mem.head _ | apply List.Mem.tail)); done)); done)) | exact hasZ_0 | exact hasQ_0 | (focus (apply hasZ_d; (focus (apply Has.mem; (repeat (first | exact List.Mem.head _ | apply List.Mem.tail)); done)); done)) | (focus (apply hasQ_d1; (focus (apply Has.mem; (repeat (first | exact List.Mem.head _ | apply List.Mem.tail)); done)); done)) | (focus (apply hasQ_d2; (focus (apply Has.mem; (repeat (first | exact List.Mem.head _ | apply List.Mem.tail)); done)); done))))))
    (lt : lateB L hs i = true ∨ (b0.Sublist bx ∧ ∀ f ∈ F0, f ∈ F) := by (first | (focus (apply Or.inr; constructor; (repeat (first | exact List.Sublist.refl _ | exact List.nil_sublist _ | apply List.Sublist.cons_cons | apply List.Sublist.cons)); (first | exact fun _ h => h | (intro f hf; (repeat (first | exact hf | apply List.Mem.tail)))); done)) | (apply Or.inl; kernel_rfl))) : LO P (.call { callee := .value x, args := args.toArray, argTypes := ats }) ty e bx F fun v bx' F' => (lateB L hs i = true ∨ (b0.Sublist bx' ∧ ∀ f ∈ F0, f ∈ F')) ∧ WD P n L hs b0 F0 r ((d, v) :: e) bx' F' Q :=
  LO.call (first := []) (cap := []) hx hv [] bx (.refl _) (by simpa using hf) hF.all fun v b G hR => ⟨lt.imp id fun h => ⟨h.1.trans (List.sublist_append_right _ _), fun f hf => List.mem_append_right _ (h.2 f hf)⟩, hK v b G hR⟩
end
section
variable {P : Program} {n : Nat} {L : List Oper} {e : Env} {bx b0 : List Ow} {F F0 : List Fct} {hs : List Nat} {r s : Plan} {Q : Env → List Ow → List Fct → Prop} {i j : Nat}
/-- an operation that only yields, taken in its turn -/
theorem loud_y {fr : PH} {w0 : World} {listed : Array Bool} {a : Act} {w : World} {f' : Nat} {Q' : Exit → Act → World → Prop} {v : Value} {e' : Env} (o : Oper) (hL : L[i]? = some o)
    (hP : ∀ c a a' w, Q' (.panic c) a w → Q' (.panic c) a' w) (hns : Region.noSelect L.toArray = true) (hc : chk L hs r (listed.setIfInBounds i true) = true) (hd : Down L.toArray listed) (hri : i ∈ Region.ready .any L.toArray listed)
    (hQ : ∀ a' w' e' bx' F', Kn n a' e' → Rest w0 w' → OK fr bx' F' w' → Q e' bx' F' → Q' .normal a' w') (hS : (∃ i ∈ hs, listed.getD i true = false) → OK fr b0 F0 w)
    (hk : Kn n a e) (hr : Rest w0 w) (ho : OK fr bx F w) (hf : r.len ≤ f')
    (hg : gok L e o.guard = some true) (hy : YO P o.op o.type e bx F v) (he' : Kn n (a.put o.dst v) e') (h : WD P n L hs b0 F0 r e' bx F Q) :
    wpOp P L.toArray Q' i (fun a' w' => (lateB L hs i = false → OK fr b0 F0 w → OK fr b0 F0 w') ∧ wpAnyG P L.toArray Q' (fun w => OK fr b0 F0 w) (lateB L hs) f' (listed.setIfInBounds i true) a' w') a w := by
  have hun := (mem_ready.1 hri).1
  have hlist : (∃ j ∈ hs, (listed.setIfInBounds i true).getD j true = false) → ∃ j ∈ hs, listed.getD j true = false := fun ⟨j, hj, hjl⟩ => ⟨j, hj, getD_some hun j hjl⟩
  unfold wpOp
  have hLa : L.toArray[i]? = some o := by simpa using hL
  simp only [hLa]
  rw [if_pos (gok_wanted hk hg)]
  refine .inl ?_
  unfold Oper.wp
  rw [hy n fr a w o rfl rfl hk ho]
  exact ⟨fun _ h => h, h fr w0 _ (a.put o.dst v) w f' Q' hP hns hc (hd.set hri) hQ (fun hx => hS (hlist hx)) he' hr ho hf⟩
variable {d : Nat} {op : Op} {ty : TypeId} {pos : String} {af : Array Edge} {g : Option (Nat × Bool)} {v : Value}
theorem WD.yl (hL : L[i]? = some ⟨some d, op, ty, pos, af, g⟩) (hy : YO P op ty e bx F v) (hd : Nat.blt d n = true) (hg : gok L e g = some true) (h : WD P n L hs b0 F0 r ((d, v) :: e) bx F Q) : WD P n L hs b0 F0 (.loud i r) e bx F Q := fun fr w0 listed a w fuel Q' hP hns hc hdn hQ hS hk hr ho hf => by
  simp only [chk, Bool.and_eq_true, beq_iff_eq] at hc
  obtain ⟨h1, h2⟩ := hc
  obtain ⟨f', rfl⟩ : ∃ f', fuel = f' + 1 := ⟨fuel - 1, by simp [Plan.len] at hf; omega⟩
  refine ⟨fun h0 => (by rw [h0] at h1; cases h1), fun j hj => ?_⟩
  rw [h1] at hj; simp at hj; subst hj
  exact loud_y _ hL hP hns h2 hdn (by rw [h1]; simp) hQ hS hk hr ho (by simp [Plan.len] at hf; exact hf) hg hy (hk.put hd v) h
/-- the held operations need only part of what is owned -/
theorem WC.drawB {id : Nat} {Q : Post} (b0 : List Ow) (hb : b0.Sublist bx) (hs : List Nat) (p : Plan) (hm : P.follows .mixedOrders = true) (hc : (Region.noSelect L.toArray && (chk L hs p (Array.replicate L.length false) && Nat.ble p.len L.length)) = true)
    (h : WD P n L hs b0 F p e bx F (Q .normal)) : WC P n (.region id L.toArray true) e bx F Q := fun fr w0 a w hk hr ho => by
  simp only [Bool.and_eq_true] at hc
  refine wp_region_any hm (wpAny_of_G _ _ _ _ (h fr w0 _ a _ _ _ ?_ hc.1 (by simpa using hc.2.1) ?_ (fun a' w' e' bx' F' h1 h2 h3 h4 => ⟨e', bx', F', h1, h2, h3, h4⟩) (fun _ => (ho.drop hb).drawn _) hk (hr.trans (Rest.drawn w _)) (ho.drawn _) (by simpa using Nat.le_of_ble_eq_true hc.2.2)))
  · intro c a a' w h; exact h
  · intro j o _ hj
    rw [Array.getD_eq_getD_getElem?, Array.getElem?_replicate] at hj
    split at hj <;> simp at hj
/-- a cut behind a first part -/
theorem WC.cutT {x y : Code} {Q : Post} {σ : Type} (E : σ → Env) (B : σ → List Ow) (G : σ → List Fct) (I : σ → Prop)
    (h1 : WC P n x e bx F (thenQ (fun e' bx' F' => ∃ s, I s ∧ Sub (E s) e' ∧ (B s).Sublist bx' ∧ HasAll F' (G s)) Q))
    (h2 : ∀ s, I s → WC P n y (E s) (B s) (G s) Q) : WC P n x e bx F (thenQ (fun e bx F => WC P n y e bx F Q) Q) :=
  h1.mono fun ex e b f h => by
    cases ex <;> first | exact h | skip
    obtain ⟨s, h3, h4, h5, h6⟩ := h
    exact (h2 s h3).weak h4 h5 h6.all
end
/-- what is owned without the variables to which some temporaries point -/
inductive Rems (e : Env) : List Nat → List Ow → List Ow → Prop where
  | nil (bx : List Ow) : Rems e [] bx bx
  | cons {t : Nat} {ts : List Nat} {g : Nat} {ty : TypeId} {cs : List Value} {bx b1 b0 : List Ow} : look e t = some (.pointer (some ⟨g, 0, none⟩)) → Rem bx (.cells g ty cs) b1 → Rems e ts b1 b0 → Rems e (t :: ts) bx b0
theorem Rem.sub {l l' : List Ow} {b : Ow} (h : Rem l b l') : l'.Sublist l := by
  induction h with
  | head => exact List.sublist_cons_self _ _
  | tail _ ih => exact ih.cons_cons _
theorem Rems.sub {e : Env} {ts : List Nat} {bx b0 : List Ow} (h : Rems e ts bx b0) : b0.Sublist bx := by
  induction h with
  | nil => exact List.Sublist.refl _
  | cons _ h2 _ ih => exact ih.trans h2.sub
theorem WC.drawR {P : Program} {n : Nat} {L : List Oper} {e : Env} {bx b0 : List Ow} {F : List Fct} {id : Nat} {Q : Post} (ts : List Nat) (hs : List Nat) (p : Plan) (hm : P.follows .mixedOrders = true) (hc : (Region.noSelect L.toArray && (chk L hs p (Array.replicate L.length false) && Nat.ble p.len L.length)) = true)
    (hr : Rems e ts bx b0) (h : WD P n L hs b0 F p e bx F (Q .normal)) : WC P n (.region id L.toArray true) e bx F Q := WC.drawB b0 hr.sub hs p hm hc h
/-- B is some of l, in whatever order -/
inductive SubP : List Ow → List Ow → Prop where
  | nil (l : List Ow) : SubP [] l
  | cons {b : Ow} {B l l' : List Ow} : Rem l b l' → SubP B l' → SubP (b :: B) l
theorem SubP.ok {B l : List Ow} (h : SubP B l) : ∃ r, l.Perm (B ++ r) := by
  induction h with
  | nil l => exact ⟨l, .refl _⟩
  | cons h1 _ ih =>
    obtain ⟨r, h2⟩ := ih
    exact ⟨r, h1.perm.trans (h2.cons _)⟩
theorem OK.subP {fr : PH} {B l : List Ow} {F : List Fct} {w : World} (h : OK fr l F w) (hs : SubP B l) : OK fr B F w := by
  obtain ⟨r, h1⟩ := hs.ok
  exact (h.perm h1).drop (List.sublist_append_left _ _)
/-- a cut behind a first part; what is owned may stand in whatever order -/
theorem WC.cutP {P : Program} {n : Nat} {e : Env} {bx : List Ow} {F : List Fct} {x y : Code} {Q : Post} {σ : Type} (E : σ → Env) (B : σ → List Ow) (G : σ → List Fct) (I : σ → Prop)
    (h1 : WC P n x e bx F (thenQ (fun e' bx' F' => ∃ s, I s ∧ Sub (E s) e' ∧ SubP (B s) bx' ∧ HasAll F' (G s)) Q))
    (h2 : ∀ s, I s → WC P n y (E s) (B s) (G s) Q) : WC P n x e bx F (thenQ (fun e bx F => WC P n y e bx F Q) Q) :=
  h1.mono fun ex e b f h => by
    cases ex <;> first | exact h | skip
    obtain ⟨s, h3, h4, h5, h6⟩ := h
    exact fun fr w0 a w hk hr ho => h2 s h3 fr w0 a w (hk.sub h4) hr ((ho.subP h5).hasAll h6.all)
theorem Ex1 {α1 : Type} {p : α1 → Prop} (a1 : α1) (h : p (a1)) : ∃ s, p s := ⟨_, h⟩
theorem Ex2 {α1 : Type} {α2 : Type} {p : α1 × α2 → Prop} (a1 : α1) (a2 : α2) (h : p (a1, a2)) : ∃ s, p s := ⟨_, h⟩
theorem Ex3 {α1 : Type} {α2 : Type} {α3 : Type} {p : α1 × α2 × α3 → Prop} (a1 : α1) (a2 : α2) (a3 : α3) (h : p (a1, a2, a3)) : ∃ s, p s := ⟨_, h⟩
theorem Ex4 {α1 : Type} {α2 : Type} {α3 : Type} {α4 : Type} {p : α1 × α2 × α3 × α4 → Prop} (a1 : α1) (a2 : α2) (a3 : α3) (a4 : α4) (h : p (a1, a2, a3, a4)) : ∃ s, p s := ⟨_, h⟩
theorem Ex5 {α1 : Type} {α2 : Type} {α3 : Type} {α4 : Type} {α5 : Type} {p : α1 × α2 × α3 × α4 × α5 → Prop} (a1 : α1) (a2 : α2) (a3 : α3) (a4 : α4) (a5 : α5) (h : p (a1, a2, a3, a4, a5)) : ∃ s, p s := ⟨_, h⟩
theorem Ex6 {α1 : Type} {α2 : Type} {α3 : Type} {α4 : Type} {α5 : Type} {α6 : Type} {p : α1 × α2 × α3 × α4 × α5 × α6 → Prop} (a1 : α1) (a2 : α2) (a3 : α3) (a4 : α4) (a5 : α5) (a6 : α6) (h : p (a1, a2, a3, a4, a5, a6)) : ∃ s, p s := ⟨_, h⟩
theorem Ex7 {α1 : Type} {α2 : Type} {α3 : Type} {α4 : Type} {α5 : Type} {α6 : Type} {α7 : Type} {p : α1 × α2 × α3 × α4 × α5 × α6 × α7 → Prop} (a1 : α1) (a2 : α2) (a3 : α3) (a4 : α4) (a5 : α5) (a6 : α6) (a7 : α7) (h : p (a1, a2, a3, a4, a5, a6, a7)) : ∃ s, p s := ⟨_, h⟩
theorem Ex8 {α1 : Type} {α2 : Type} {α3 : Type} {α4 : Type} {α5 : Type} {α6 : Type} {α7 : Type} {α8 : Type} {p : α1 × α2 × α3 × α4 × α5 × α6 × α7 × α8 → Prop} (a1 : α1) (a2 : α2) (a3 : α3) (a4 : α4) (a5 : α5) (a6 : α6) (a7 : α7) (a8 : α8) (h : p (a1, a2, a3, a4, a5, a6, a7, a8)) : ∃ s, p s := ⟨_, h⟩
theorem Ex9 {α1 : Type} {α2 : Type} {α3 : Type} {α4 : Type} {α5 : Type} {α6 : Type} {α7 : Type} {α8 : Type} {α9 : Type} {p : α1 × α2 × α3 × α4 × α5 × α6 × α7 × α8 × α9 → Prop} (a1 : α1) (a2 : α2) (a3 : α3) (a4 : α4) (a5 : α5) (a6 : α6) (a7 : α7) (a8 : α8) (a9 : α9) (h : p (a1, a2, a3, a4, a5, a6, a7, a8, a9)) : ∃ s, p s := ⟨_, h⟩
theorem Ex10 {α1 : Type} {α2 : Type} {α3 : Type} {α4 : Type} {α5 : Type} {α6 : Type} {α7 : Type} {α8 : Type} {α9 : Type} {α10 : Type} {p : α1 × α2 × α3 × α4 × α5 × α6 × α7 × α8 × α9 × α10 → Prop} (a1 : α1) (a2 : α2) (a3 : α3) (a4 : α4) (a5 : α5) (a6 : α6) (a7 : α7) (a8 : α8) (a9 : α9) (a10 : α10) (h : p (a1, a2, a3, a4, a5, a6, a7, a8, a9, a10)) : ∃ s, p s := ⟨_, h⟩
theorem Ex11 {α1 : Type} {α2 : Type} {α3 : Type} {α4 : Type} {α5 : Type} {α6 : Type} {α7 : Type} {α8 : Type} {α9 : Type} {α10 : Type} {α11 : Type} {p : α1 × α2 × α3 × α4 × α5 × α6 × α7 × α8 × α9 × α10 × α11 → Prop} (a1 : α1) (a2 : α2) (a3 : α3) (a4 : α4) (a5 : α5) (a6 : α6) (a7 : α7) (a8 : α8) (a9 : α9) (a10 : α10) (a11 : α11) (h : p (a1, a2, a3, a4, a5, a6, a7, a8, a9, a10, a11)) : ∃ s, p s := ⟨_, h⟩
theorem Ex12 {α1 : Type} {α2 : Type} {α3 : Type} {α4 : Type} {α5 : Type} {α6 : Type} {α7 : Type} {α8 : Type} {α9 : Type} {α10 : Type} {α11 : Type} {α12 : Type} {p : α1 × α2 × α3 × α4 × α5 × α6 × α7 × α8 × α9 × α10 × α11 × α12 → Prop} (a1 : α1) (a2 : α2) (a3 : α3) (a4 : α4) (a5 : α5) (a6 : α6) (a7 : α7) (a8 : α8) (a9 : α9) (a10 : α10) (a11 : α11) (a12 : α12) (h : p (a1, a2, a3, a4, a5, a6, a7, a8, a9, a10, a11, a12)) : ∃ s, p s := ⟨_, h⟩
end W
end Go.Proofs.YthggloiigkbfeaaGreat
namespace Go.Proofs.YthggloiigkbfeaaGreat
open W Go.RowKit
theorem nrm_take {l : List Int} {n : Nat} (hn : n ≤ l.length) (h : 0 < n → l.getD (n - 1) 0 ≠ 0) : Nrm (l.take n) := fun h0 => by
  have e : (l.take n).length = n := by simp; omega
  rw [e] at h0 ⊢
  rw [getD_take (by omega)]; exact h h0
theorem val_take_zero {l : List Int} {n : Nat} (hn : n ≤ l.length) (hz : ∀ j, n ≤ j → j < l.length → l.getD j 0 = 0) : val (l.take n) = val l := by
  have : ∀ k, n + k ≤ l.length → val (l.take (n + k)) = val (l.take n) := fun k => by
    induction k with
    | zero => intro _; rfl
    | succ k ih =>
      intro hk
      rw [show n + (k + 1) = (n + k) + 1 by omega, val_take_succ (by omega), hz (n + k) (by omega) (by omega), ih (by omega)]; omega
  have := this (l.length - n) (by omega)
  rw [show n + (l.length - n) = l.length by omega, List.take_length] at this
  exact this.symm
/-- the digits of a list without the zeros at its end -/
theorem cut_digs {l : List Int} {n : Nat} (hd : Dg l) (hn : n ≤ l.length) (hz : ∀ j, n ≤ j → j < l.length → l.getD j 0 = 0) (h : 0 < n → l.getD (n - 1) 0 ≠ 0) : l.take n = digs (val l).toNat := by
  rw [← val_take_zero hn hz]; exact digs_val (hd.take n) (nrm_take hn h)
attribute [local irreducible] WC WL WD YO LO LoopEnd W.Fin Scalar SliceT FieldAt Row ArrT AllocT KnS Has W.One SrcE IntT
set_option maxHeartbeats 4000000 in
set_option maxRecDepth 8000 in
theorem of_c (u : Value) (nb : Bool) (l : List Int) (z : Int) (hd : Dg l) (hz : z.natAbs = (val l).toNat) (hb : val l ≠ 0 → nb = decide (z < 0)) : FnB Tryz.prog 132 [.bool nb, u] [] [sI u l] (IsZ z) := by
  refine fn_of [(0, (.bool nb)), (1, u)] 29 Tryz.func132 rfl Tryz.ntmps132 (by kernel_rfl) rfl suA fun h0 => ?_
  refine WC.lenI u l hmA fun hlen => ?_
  have hv0 := val_nonneg hd
  repeat' (first | refine go ?_ | refine goX ?_ | refine goB ?_ | (refine goG ?_; intro g) | (refine goV ?_; intro v))
  refine WC.lp (σ := Nat) (fun n => [(5, .int .i64 (n : Int)), (0, .bool nb), (1, u), (4, ptr g)]) (fun _ => [Ow.cells g 35 [.bool false, .slice none 0 0]]) (fun _ => [ge h0, sI u l]) (fun n => n ≤ l.length ∧ ∀ j, n ≤ j → j < l.length → l.getD j 0 = 0) (fun n => n) l.length ⟨by simp, fun j h1 h2 => by omega⟩ ?_
  rintro n ⟨hn, hzr⟩
  by_cases h : 0 < n
  · have e1 : ((n : Int) - 1).toNat = n - 1 := by omega
    by_cases h2 : l.getD (n - 1) 0 = 0
    · have h3 : l.getD ((n : Int) - 1).toNat 0 = 0 := by rw [e1]; exact h2
      repeat' (first | refine go ?_ | refine goX ?_ | refine goB ?_ | (refine goG ?_; intro g) | (refine goV ?_; intro v))
      exact LoopEnd.mk (n - 1) ⟨by omega, fun j h4 h5 => if hj : j = n - 1 then hj ▸ h2 else hzr j (by omega) h5⟩ (by omega) (by rw [show ((n - 1 : Nat) : Int) = (n : Int) - 1 by omega]; exact suA)
    · have h3 : l.getD ((n : Int) - 1).toNat 0 ≠ 0 := by rw [e1]; exact h2
      have hc := cut_digs hd hn hzr (fun _ => h2)
      have hvne : val l ≠ 0 := fun hv => by
        rw [hv] at hc
        have : (l.take n).length = n := by simp; omega
        rw [hc] at this
        simp [digs_0] at this; omega
      repeat' (first | refine go ?_ | refine goX ?_ | refine goB ?_ | (refine goG ?_; intro g) | (refine goV ?_; intro v))
      refine WL.fact' (sI (resl3 u n n) (l.take n)) (Has.res3 hmA hn) ?_
      rw [hc, ← hz]
      repeat' (first | refine go ?_ | refine goX ?_ | refine goB ?_ | (refine goG ?_; intro g) | (refine goV ?_; intro v))
      refine WC.fact (isZ (.agg #[.bool nb, resl3 u n n]) z) (hasZ_of (hb hvne) hmA) ?_
      refine WC.ret ?_
      exact Fin.p [] [isZ (.agg #[.bool nb, resl3 u n n]) z] (ResE.cV rfl rfl meA T.r35 rfl) meA (List.nil_sublist _) haA ⟨nb, _, rfl, hb hvne, rfl, rfl⟩
  · obtain rfl : n = 0 := by omega
    have hc := cut_digs hd hn hzr (fun h => absurd h (by omega))
    have hv : val l = 0 := by
      have := val_take_zero hn hzr
      simpa [val] using this.symm
    have hz0 : z = 0 := by rw [hv] at hz; simp at hz; exact hz
    subst hz0
    repeat' (first | refine go ?_ | refine goX ?_ | refine goB ?_ | (refine goG ?_; intro g) | (refine goV ?_; intro v))
    refine WC.ret ?_
    exact Fin.p [] [isZ (.agg #[.bool false, .slice none 0 0]) 0] (ResE.cV rfl rfl meA T.r35 rfl) meA (List.nil_sublist _) (.cons hasZ_0 .nil) ⟨false, _, rfl, rfl, rfl, rfl⟩
end Go.Proofs.YthggloiigkbfeaaGreat
namespace Go.Proofs.YthggloiigkbfeaaGreat
open W Go.RowKit
theorem digs_3 {n : Nat} (h : 1000000000 * 1000000000 ≤ n) (h2 : n < 1000000000 * 1000000000 * 1000000000) : digs n = [((n % 1000000000 : Nat) : Int), ((n / 1000000000 % 1000000000 : Nat) : Int), ((n / 1000000000 / 1000000000 : Nat) : Int)] := by
  rw [digs_pos (by omega), digs_2 (by omega) (by omega)]
attribute [local irreducible] WC WL WD YO LO LoopEnd W.Fin Scalar SliceT FieldAt Row ArrT AllocT KnS Has W.One SrcE IntT
set_option maxHeartbeats 4000000 in
set_option maxRecDepth 8000 in
theorem unsigned_c (nb : Bool) (n : Nat) (z : Int) (hn : n < 18446744073709551616) (hz : z.natAbs = n) (hb : n ≠ 0 → nb = decide (z < 0)) : FnB Tryz.prog 125 [.bool nb, .int .u64 n] [] [] (IsZ z) := by
  refine fn_of [(0, (.bool nb)), (1, (.int .u64 n))] 43 Tryz.func125 rfl Tryz.ntmps125 (by kernel_rfl) rfl suA fun h0 => ?_
  by_cases c0 : n = 0
  · subst c0
    have hz0 : z = 0 := by omega
    subst hz0
    repeat' (first | refine go ?_ | refine goX ?_ | refine goB ?_ | (refine goG ?_; intro g) | (refine goV ?_; intro v))
    refine WC.ret ?_
    exact Fin.p [] [isZ (.agg #[.bool false, .slice none 0 0]) 0] (ResE.cV rfl rfl meA T.r35 rfl) meA (List.nil_sublist _) (.cons hasZ_0 .nil) ⟨false, _, rfl, rfl, rfl, rfl⟩
  have hb := hb c0
  by_cases c1 : n < 1000000000
  · have hd := digs_1 c0 c1
    repeat' (first | refine go ?_ | refine goX ?_ | refine goB ?_ | (refine goG ?_; intro g) | (refine goV ?_; intro v))
    refine WC.freezeI (l := digs z.natAbs) (v := v) (el := 3) (by rw [hz, hd]; repeat (first | exact Sel.head | apply Sel.tail)) ?_
    refine WC.fact (isZ (.agg #[.bool nb, v]) z) (hasZ_of hb hmA) ?_
    refine WC.ret ?_
    exact Fin.p [] [isZ (.agg #[.bool nb, v]) z] (ResE.cV rfl rfl meA T.r35 rfl) meA (List.nil_sublist _) haA ⟨nb, _, rfl, hb, rfl, rfl⟩
  by_cases c2 : n < 1000000000 * 1000000000
  · have hd := digs_2 (by omega) c2
    have e1 : (n : Int) % 1000000000 = ((n % 1000000000 : Nat) : Int) := by omega
    have e2 : (n : Int) / 1000000000 = ((n / 1000000000 : Nat) : Int) := by omega
    have c3 : (n : Int) < 1000000000000000000 := by omega
    repeat' (first | refine go ?_ | refine goX ?_ | refine goB ?_ | (refine goG ?_; intro g) | (refine goV ?_; intro v))
    rw [e1, e2]
    refine WC.freezeI (l := digs z.natAbs) (v := v) (el := 3) (by rw [hz, hd]; repeat (first | exact Sel.head | apply Sel.tail)) ?_
    refine WC.fact (isZ (.agg #[.bool nb, v]) z) (hasZ_of hb hmA) ?_
    refine WC.ret ?_
    exact Fin.p [] [isZ (.agg #[.bool nb, v]) z] (ResE.cV rfl rfl meA T.r35 rfl) meA (List.nil_sublist _) haA ⟨nb, _, rfl, hb, rfl, rfl⟩
  · have hd := digs_3 (n := n) (by omega) (by omega)
    have e1 : (n : Int) % 1000000000 = ((n % 1000000000 : Nat) : Int) := by omega
    have e2 : (n : Int) / 1000000000 % 1000000000 = ((n / 1000000000 % 1000000000 : Nat) : Int) := by omega
    have e3 : (n : Int) / 1000000000 / 1000000000 = ((n / 1000000000 / 1000000000 : Nat) : Int) := by omega
    have c3 : ¬ (n : Int) < 1000000000000000000 := by omega
    repeat' (first | refine go ?_ | refine goX ?_ | refine goB ?_ | (refine goG ?_; intro g) | (refine goV ?_; intro v))
    rw [e1, e2, e3]
    refine WC.freezeI (l := digs z.natAbs) (v := v) (el := 3) (by rw [hz, hd]; repeat (first | exact Sel.head | apply Sel.tail)) ?_
    refine WC.fact (isZ (.agg #[.bool nb, v]) z) (hasZ_of hb hmA) ?_
    refine WC.ret ?_
    exact Fin.p [] [isZ (.agg #[.bool nb, v]) z] (ResE.cV rfl rfl meA T.r35 rfl) meA (List.nil_sublist _) haA ⟨nb, _, rfl, hb, rfl, rfl⟩
set_option maxHeartbeats 4000000 in
set_option maxRecDepth 8000 in
theorem iof_c (n : Int) (h1 : -9223372036854775808 ≤ n) (h2 : n ≤ 9223372036854775807) : FnB Tryz.prog 70 [.int .i64 n] [] [] (IsZ n) := by
  refine fn_of [(0, (.int .i64 n))] 14 Tryz.func70 rfl Tryz.ntmps70 (by kernel_rfl) rfl suA fun h0 => ?_
  by_cases c : n < 0
  · have hd := decide_eq_true c
    repeat' (first | refine go ?_ | refine goX ?_ | refine goB ?_ | (refine goG ?_; intro g) | (refine goV ?_; intro v))
    rw [show 18446744073709551616 - (n + 18446744073709551616) = ((n.natAbs : Nat) : Int) by omega]
    first | refine WL.callK (unsigned_c true n.natAbs n (by omega) rfl (fun _ => hd.symm)) ?_ | refine WD.callK (unsigned_c true n.natAbs n (by omega) rfl (fun _ => hd.symm)) ?_ | refine LO.callM (unsigned_c true n.natAbs n (by omega) rfl (fun _ => hd.symm)) ?_
    rintro _ _ _ ⟨nb, d, rfl, hb, rfl, rfl⟩
    simp only [List.nil_append, List.cons_append]
    repeat' (first | refine go ?_ | refine goX ?_ | refine goB ?_ | (refine goG ?_; intro g) | (refine goV ?_; intro v))
    refine WC.ret ?_
    exact Fin.p [] [isZ (.agg #[.bool nb, d]) n] (ResE.cV rfl rfl meA T.r35 rfl) meA (List.nil_sublist _) haA ⟨nb, _, rfl, hb, rfl, rfl⟩
  · have hd := decide_eq_false c
    repeat' (first | refine go ?_ | refine goX ?_ | refine goB ?_ | (refine goG ?_; intro g) | (refine goV ?_; intro v))
    rw [show n = ((n.natAbs : Nat) : Int) by omega]
    first | refine WL.callK (unsigned_c false n.natAbs (n.natAbs : Int) (by omega) rfl (fun _ => by simp)) ?_ | refine WD.callK (unsigned_c false n.natAbs (n.natAbs : Int) (by omega) rfl (fun _ => by simp)) ?_ | refine LO.callM (unsigned_c false n.natAbs (n.natAbs : Int) (by omega) rfl (fun _ => by simp)) ?_
    rintro _ _ _ ⟨nb, d, rfl, hb, rfl, rfl⟩
    simp only [List.nil_append, List.cons_append]
    repeat' (first | refine go ?_ | refine goX ?_ | refine goB ?_ | (refine goG ?_; intro g) | (refine goV ?_; intro v))
    refine WC.ret ?_
    exact Fin.p [] [isZ (.agg #[.bool nb, d]) (n.natAbs : Int)] (ResE.cV rfl rfl meA T.r35 rfl) meA (List.nil_sublist _) haA ⟨nb, _, rfl, hb, rfl, rfl⟩
set_option maxHeartbeats 4000000 in
set_option maxRecDepth 8000 in
theorem neg_c (v : Value) (z : Int) : FnB Tryz.prog 140 [v] [] [isZ v z] (IsZ (-z)) := by
  refine fn_of [(0, v)] 14 Tryz.func140 rfl Tryz.ntmps140 (by kernel_rfl) rfl suA fun h0 => ?_
  refine WC.openZ hmA fun nb d hv hb => ?_
  subst hv
  have hl := digs_len0 (n := z.natAbs)
  have key : ∀ b : Bool, b = decide (-z < 0) → Has [ge h0, isZ (.agg #[.bool nb, d]) z] (isZ (.agg #[.bool b, d]) (-z)) := fun b h => hasZ_of h (by rw [Int.natAbs_neg]; exact hasZ_d hmA)
  cases nb with
  | true =>
    have hz : z < 0 := of_decide_eq_true hb.symm
    have h2 : false = decide (-z < 0) := by simp; omega
    repeat' (first | refine go ?_ | refine goX ?_ | refine goB ?_ | (refine goG ?_; intro g) | (refine goV ?_; intro v))
    refine WC.fact (isZ (.agg #[.bool false, d]) (-z)) (key _ h2) ?_
    refine WC.ret ?_
    exact Fin.p [] [isZ (.agg #[.bool false, d]) (-z)] (ResE.cV rfl rfl meA T.r35 rfl) meA (List.nil_sublist _) haA ⟨_, _, rfl, h2, rfl, rfl⟩
  | false =>
    have hz : ¬ z < 0 := of_decide_eq_false hb.symm
    by_cases c : z = 0
    · have hl0 := hl.2 (by omega : z.natAbs = 0)
      have h2 : false = decide (-z < 0) := by simp; omega
      repeat' (first | refine go ?_ | refine goX ?_ | refine goB ?_ | (refine goG ?_; intro g) | (refine goV ?_; intro v))
      refine WC.fact (isZ (.agg #[.bool false, d]) (-z)) (key _ h2) ?_
      refine WC.ret ?_
      exact Fin.p [] [isZ (.agg #[.bool false, d]) (-z)] (ResE.cV rfl rfl meA T.r35 rfl) meA (List.nil_sublist _) haA ⟨_, _, rfl, h2, rfl, rfl⟩
    · have hl0 : 0 < (digs z.natAbs).length := by
        have : (digs z.natAbs).length ≠ 0 := fun h => by have := hl.1 h; omega
        omega
      have h2 : true = decide (-z < 0) := by simp; omega
      repeat' (first | refine go ?_ | refine goX ?_ | refine goB ?_ | (refine goG ?_; intro g) | (refine goV ?_; intro v))
      refine WC.fact (isZ (.agg #[.bool true, d]) (-z)) (key _ h2) ?_
      refine WC.ret ?_
      exact Fin.p [] [isZ (.agg #[.bool true, d]) (-z)] (ResE.cV rfl rfl meA T.r35 rfl) meA (List.nil_sublist _) haA ⟨_, _, rfl, h2, rfl, rfl⟩
/-- the sign -/
def sgn (z : Int) : Int := if z < 0 then -1 else if z = 0 then 0 else 1
set_option maxHeartbeats 4000000 in
set_option maxRecDepth 8000 in
theorem isign_c (v : Value) (z : Int) : FnB Tryz.prog 86 [v] [] [isZ v z] (IsV (.int .i64 (sgn z))) := by
  refine fn_of [(0, v)] 11 Tryz.func86 rfl Tryz.ntmps86 (by kernel_rfl) rfl suA fun h0 => ?_
  refine WC.openZ hmA fun nb d hv hb => ?_
  subst hv
  have hl := digs_len0 (n := z.natAbs)
  cases nb with
  | true =>
    have hz : z < 0 := of_decide_eq_true hb.symm
    repeat' (first | refine go ?_ | refine goX ?_ | refine goB ?_ | (refine goG ?_; intro g) | (refine goV ?_; intro v))
    refine WC.ret ?_
    exact Fin.v (ResE.t1 rfl rfl) meA (by rw [sgn, if_pos hz])
  | false =>
    have hz : ¬ z < 0 := of_decide_eq_false hb.symm
    by_cases c : z = 0
    · have hl0 := hl.2 (by omega : z.natAbs = 0)
      repeat' (first | refine go ?_ | refine goX ?_ | refine goB ?_ | (refine goG ?_; intro g) | (refine goV ?_; intro v))
      refine WC.ret ?_
      exact Fin.v (ResE.t1 rfl rfl) meA (by rw [sgn, if_neg hz, if_pos c])
    · have hl0 : 0 < (digs z.natAbs).length := by
        have : (digs z.natAbs).length ≠ 0 := fun h => by have := hl.1 h; omega
        omega
      repeat' (first | refine go ?_ | refine goX ?_ | refine goB ?_ | (refine goG ?_; intro g) | (refine goV ?_; intro v))
      refine WC.ret ?_
      exact Fin.v (ResE.t1 rfl rfl) meA (by rw [sgn, if_neg hz, if_neg c])
end Go.Proofs.YthggloiigkbfeaaGreat
namespace Go.Proofs.YthggloiigkbfeaaGreat
theorem getD_over {l : List Int} {k : Nat} (h : l.length ≤ k) : l.getD k 0 = 0 := by
  rw [List.getD_eq_getElem?_getD, List.getElem?_eq_none (by omega)]; rfl
theorem val_take_s (l : List Int) (k : Nat) : val (l.take (k + 1)) = val (l.take k) + BB ^ k * l.getD k 0 := by
  by_cases h : k < l.length
  · exact val_take_succ h
  · rw [getD_over (by omega), List.take_of_length_le (by omega), List.take_of_length_le (by omega)]; omega
theorem val_split {l : List Int} {k : Nat} (h : k < l.length) : val l = val (l.take k) + BB ^ k * (l.getD k 0 + BB * val (l.drop (k + 1))) := by
  have e : l = l.take k ++ (l.getD k 0 :: l.drop (k + 1)) := by
    rw [show l.getD k 0 = l[k] by simp [List.getD_eq_getElem?_getD, h], ← List.drop_eq_getElem_cons h, List.take_append_drop]
  have h2 := congrArg val e
  rw [val_app, val, List.length_take, Nat.min_eq_left (by omega)] at h2
  exact h2
theorem Dg.drop {l : List Int} (h : Dg l) (n : Nat) : Dg (l.drop n) := fun j hj => by
  have := h (n + j) (by simp at hj; omega)
  simpa [List.getD_eq_getElem?_getD, List.getElem?_drop] using this
theorem drop_same {a b : List Int} {k : Nat} (hl : a.length = b.length) (h : ∀ j, k ≤ j → j < a.length → a.getD j 0 = b.getD j 0) : a.drop k = b.drop k := by
  apply List.ext_getElem
  · simp [hl]
  · intro i h1 h2
    have := h (k + i) (by omega) (by simp at h1; omega)
    simp at h1 h2
    simpa [List.getD_eq_getElem?_getD, show k + i < a.length by omega, show k + i < b.length by omega] using this
/-- the first difference from above decides -/
theorem val_lt_at {a b : List Int} {k : Nat} (ha : Dg a) (hb : Dg b) (hl : a.length = b.length) (hk : k < a.length) (h : ∀ j, k < j → j < a.length → a.getD j 0 = b.getD j 0) (hlt : a.getD k 0 < b.getD k 0) : val a < val b := by
  rw [val_split hk, val_split (show k < b.length by omega), drop_same hl (fun j h1 h2 => h j (by omega) h2)]
  have h1 := val_lt (ha.take k)
  have h2 := val_nonneg (hb.take k)
  rw [List.length_take, Nat.min_eq_left (by omega)] at h1
  have hp := BB_pos k
  generalize BB ^ k = p at *
  generalize val (b.drop (k + 1)) = D
  have e : p * (b.getD k 0 + BB * D) = p * (a.getD k 0 + BB * D) + p * (b.getD k 0 - a.getD k 0) := by
    rw [← Int.mul_add]; congr 1; omega
  have e2 : p * 1 ≤ p * (b.getD k 0 - a.getD k 0) := Int.mul_le_mul_of_nonneg_left (by omega) (by omega)
  omega
theorem val_eq_all {a b : List Int} (hl : a.length = b.length) (h : ∀ j, j < a.length → a.getD j 0 = b.getD j 0) : a = b := by
  have := drop_same (k := 0) hl (fun j _ h2 => h j h2)
  simpa using this
theorem digs_lt_len {m n : Nat} (h : (digs m).length < (digs n).length) : m < n := by
  have h1 := @digs_lt m
  have h2 : 1000000000 ^ ((digs n).length - 1) ≤ n := by
    have hk : (digs n).length - 1 < (digs n).length := by omega
    have h3 := val_split hk
    rw [val_digs] at h3
    have h4 := val_nonneg ((digs_Dg n).take ((digs n).length - 1))
    have h5 := val_nonneg ((digs_Dg n).drop ((digs n).length - 1 + 1))
    have h6 := (digs_Dg n) _ hk
    have h7 := digs_Nrm n (by omega)
    have hp := BB_pos ((digs n).length - 1)
    have hc : ((1000000000 ^ ((digs n).length - 1) : Nat) : Int) = BB ^ ((digs n).length - 1) := by simp
    rw [← hc] at h3 hp
    generalize 1000000000 ^ ((digs n).length - 1) = p at *
    generalize (digs n).getD ((digs n).length - 1) 0 = t at *
    have h8 : 1 ≤ t + BB * val ((digs n).drop ((digs n).length - 1 + 1)) := by
      have : 0 ≤ t := h6.1
      have : 0 ≤ BB * val ((digs n).drop ((digs n).length - 1 + 1)) := Int.mul_nonneg (by decide) h5
      omega
    have h9 : (p : Int) * 1 ≤ p * (t + BB * val ((digs n).drop ((digs n).length - 1 + 1))) := Int.mul_le_mul_of_nonneg_left h8 (by omega)
    omega
  have h3 : 1000000000 ^ (digs m).length ≤ 1000000000 ^ ((digs n).length - 1) := Nat.pow_le_pow_right (by decide) (by omega)
  omega
/-- the comparison of two numbers -/
def cmpN (m n : Nat) : Int := if m < n then -1 else if n < m then 1 else 0
def cmpI (m n : Int) : Int := if m < n then -1 else if n < m then 1 else 0
theorem cmpN_lt {m n : Nat} (h : m < n) : cmpN m n = -1 := by rw [cmpN, if_pos h]
theorem cmpN_gt {m n : Nat} (h : n < m) : cmpN m n = 1 := by rw [cmpN, if_neg (by omega), if_pos h]
theorem cmpN_eq (m : Nat) : cmpN m m = 0 := by rw [cmpN, if_neg (by omega), if_neg (by omega)]
theorem digs_inj {m n : Nat} (h : digs m = digs n) : m = n := by
  have := val_digs m
  have h2 := val_digs n
  rw [h] at this; omega
theorem digs_cmp_lt {m n k : Nat} (hl : (digs m).length = (digs n).length) (hk : k < (digs m).length) (h : ∀ j, k < j → j < (digs m).length → (digs m).getD j 0 = (digs n).getD j 0) (hlt : (digs m).getD k 0 < (digs n).getD k 0) : m < n := by
  have := val_lt_at (digs_Dg m) (digs_Dg n) hl hk h hlt
  rw [val_digs, val_digs] at this; omega
theorem digs_cmp_eq {m n : Nat} (hl : (digs m).length = (digs n).length) (h : ∀ j, j < (digs m).length → (digs m).getD j 0 = (digs n).getD j 0) : m = n := digs_inj (val_eq_all hl h)
theorem pow_s (k : Nat) : BB ^ (k + 1) = BB ^ k * BB := Int.pow_succ ..
theorem Dg.snoc {l : List Int} {x : Int} (h : Dg l) (hx : Dgt x) : Dg (l ++ [x]) := h.app (.cons hx .nil)
theorem val_snoc (l : List Int) (x : Int) : val (l ++ [x]) = val l + BB ^ l.length * x := by rw [val_app]; simp [val]
/-- the sum, up to the place k, with a carry -/
theorem plus_step {a b o : List Int} {k : Nat} {c v : Int} (hk : k < o.length) (hd : Dg (o.take k)) (hv : val (o.take k) + BB ^ k * c = val (a.take k) + val (b.take k)) (c' : Int) (hx : Dgt v) (he : v + BB * c' = a.getD k 0 + b.getD k 0 + c) :
    Dg ((o.set k v).take (k + 1)) ∧ val ((o.set k v).take (k + 1)) + BB ^ (k + 1) * c' = val (a.take (k + 1)) + val (b.take (k + 1)) := by
  rw [take_set_succ hk]
  refine ⟨hd.snoc hx, ?_⟩
  rw [val_snoc, List.length_take, Nat.min_eq_left (by omega), val_take_s, val_take_s, pow_s]
  have e := congrArg (BB ^ k * ·) he
  simp only [Int.mul_add] at e
  rw [Int.mul_assoc]
  generalize BB ^ k * (BB * c') = q1 at *
  generalize BB ^ k * v = q2 at *
  generalize BB ^ k * a.getD k 0 = q3 at *
  generalize BB ^ k * b.getD k 0 = q4 at *
  generalize BB ^ k * c = q5 at *
  omega
theorem plus_end {a b o : List Int} {c : Int} (h : o.length = a.length + 1) (hb : b.length ≤ a.length) (hd : Dg (o.take a.length)) (hv : val (o.take a.length) + BB ^ a.length * c = val (a.take a.length) + val (b.take a.length)) (hc : Dgt c) :
    Dg (o.set a.length c) ∧ val (o.set a.length c) = val a + val b := by
  have hk : a.length < o.length := by omega
  have e : o.set a.length c = o.take a.length ++ [c] := by
    rw [← take_set_succ hk, List.take_of_length_le (by simp; omega)]
  rw [e]
  refine ⟨hd.snoc hc, ?_⟩
  rw [val_snoc, List.length_take, Nat.min_eq_left (by omega), hv, List.take_length, List.take_of_length_le hb]
/-- the difference, up to the place k: c is taken from the place k -/
structure Mi (a b o : List Int) (k : Nat) (c : Int) : Prop where
  l : o.length = a.length
  d : Dg (o.take k)
  v : val (o.take k) = val (a.take k) - val (b.take k) + BB ^ k * c
  c0 : c = 0 ∨ c = 1
  at' : k < a.length → o.getD k 0 = a.getD k 0 - c
  r : ∀ j, k < j → j < a.length → o.getD j 0 = a.getD j 0
theorem Mi.z {a b : List Int} : Mi a b a 0 0 := ⟨rfl, by simp [Dg.nil], by simp [val], .inl rfl, fun _ => by omega, fun j _ _ => rfl⟩
theorem Mi.end' {a b o : List Int} {c : Int} (hb : b.length ≤ a.length) (h : Mi a b o a.length c) (hle : val b ≤ val a) : c = 0 ∧ Dg o ∧ val o = val a - val b := by
  have hv := h.v
  have hd := h.d
  rw [← h.l, List.take_length] at hd
  rw [← h.l, List.take_length, h.l, List.take_length, List.take_of_length_le hb] at hv
  have h1 := val_lt hd
  rw [h.l] at h1
  have hp := BB_pos a.length
  rcases h.c0 with hc | hc
  · subst hc; exact ⟨rfl, hd, by rw [hv]; simp⟩
  · subst hc; rw [Int.mul_one] at hv; omega
theorem Mi.last {a b o : List Int} {k : Nat} {c : Int} (ha : Dg a) (hbd : Dg b) (hb : b.length ≤ a.length) (h : Mi a b o k c) (hle : val b ≤ val a) (hk : k + 1 = a.length) : 0 ≤ a.getD k 0 - c - b.getD k 0 := by
  have hv := h.v
  have e1 := val_take_s a k
  have e2 := val_take_s b k
  rw [hk, List.take_length] at e1
  rw [hk, List.take_of_length_le hb] at e2
  have h1 := val_lt h.d
  have h2 := val_nonneg h.d
  rw [List.length_take, h.l, Nat.min_eq_left (by omega)] at h1
  have hp := BB_pos k
  refine Int.not_lt.1 fun hlt => ?_
  have e3 : BB ^ k * (a.getD k 0 - c - b.getD k 0) ≤ BB ^ k * (-1) := Int.mul_le_mul_of_nonneg_left (by omega) (by omega)
  rw [Int.mul_sub, Int.mul_sub] at e3
  omega
theorem Mi.step {a b o : List Int} {k : Nat} {c : Int} (h : Mi a b o k c) (hk : k < a.length) {v c' : Int} (hx : Dgt v) (hc : c' = 0 ∨ c' = 1) (he : v = a.getD k 0 - c - b.getD k 0 + BB * c') {o' : List Int} (hl : o'.length = a.length) (ht : o'.take (k + 1) = o.take k ++ [v]) (hat : k + 1 < a.length → o'.getD (k + 1) 0 = a.getD (k + 1) 0 - c') (hr : ∀ j, k + 1 < j → j < a.length → o'.getD j 0 = a.getD j 0) : Mi a b o' (k + 1) c' := by
  refine ⟨hl, by rw [ht]; exact h.d.snoc hx, ?_, hc, hat, hr⟩
  rw [ht, val_snoc, List.length_take, h.l, Nat.min_eq_left (by omega), h.v, val_take_s, val_take_s, pow_s, he]
  simp only [Int.mul_add, Int.mul_sub, Int.mul_assoc]
  omega
/-- the product: rows below i are done, in row i the places below k -/
structure Mu (a b o : List Int) (i k : Nat) (c : Int) : Prop where
  l : o.length = a.length + b.length
  d : Dg o
  cd : Dgt c
  v : val o + BB ^ (i + k) * c = val (a.take i) * val b + BB ^ i * (a.getD i 0 * val (b.take k))
  r : ∀ j, i + b.length ≤ j → o.getD j 0 = 0
theorem Mu.z {a b : List Int} : Mu a b (List.replicate (a.length + b.length) 0) 0 0 0 := ⟨by simp, Dg.rep _, ⟨by decide, by decide⟩, by rw [val_rep]; simp [val], fun j _ => by
  simp only [List.getD_eq_getElem?_getD, List.getElem?_replicate]; split <;> rfl⟩
theorem mu_bd {x d e c : Int} (hx : Dgt x) (hd : Dgt d) (he : Dgt e) (hc : Dgt c) : 0 ≤ x + d * e + c ∧ x + d * e + c ≤ 999999999999999999 ∧ 0 ≤ d * e ∧ d * e ≤ 999999998000000001 := by
  have hx' : 0 ≤ x ∧ x < 1000000000 := hx
  have hd' : 0 ≤ d ∧ d < 1000000000 := hd
  have he' : 0 ≤ e ∧ e < 1000000000 := he
  have hc' : 0 ≤ c ∧ c < 1000000000 := hc
  have h1 : 0 ≤ d * e := Int.mul_nonneg hd'.1 he'.1
  have h2 : d * e ≤ 999999999 * 999999999 := Int.mul_le_mul (by omega) (by omega) he'.1 (by omega)
  omega
theorem Mu.step {a b o : List Int} {i k : Nat} {c : Int} (h : Mu a b o i k c) (hi : i < a.length) (hk : k < b.length) {w q : Int} (hw : Dgt w) (hq : Dgt q) (he : w + BB * q = o.getD (i + k) 0 + a.getD i 0 * b.getD k 0 + c) : Mu a b (o.set (i + k) w) i (k + 1) q := by
  have hl := h.l
  refine ⟨by simpa using hl, h.d.set hw, hq, ?_, fun j hj => ?_⟩
  · rw [val_set (by omega), val_take_s]
    have hv := h.v
    have e := congrArg (BB ^ (i + k) * ·) he
    simp only [Int.mul_add] at e
    rw [show i + (k + 1) = (i + k) + 1 by omega, pow_s, Int.mul_sub, Int.mul_add, Int.mul_add]
    have e2 : BB ^ i * (a.getD i 0 * (BB ^ k * b.getD k 0)) = BB ^ (i + k) * (a.getD i 0 * b.getD k 0) := by
      rw [Int.pow_add]; simp only [Int.mul_assoc, Int.mul_left_comm]
    rw [e2, Int.mul_assoc]
    omega
  · rw [getD_seti, if_neg (fun hx => by omega)]; exact h.r j hj
theorem Mu.row {a b o : List Int} {i : Nat} {c : Int} (h : Mu a b o i b.length c) (hi : i < a.length) : Mu a b (o.set (i + b.length) c) (i + 1) 0 0 := by
  have hl := h.l
  refine ⟨by simpa using hl, h.d.set h.cd, ⟨by decide, by decide⟩, ?_, fun j hj => ?_⟩
  · rw [val_set (by omega), h.r _ (Nat.le_refl _)]
    have hv := h.v
    rw [List.take_length] at hv
    rw [val_take_s, Int.add_mul, Int.mul_assoc]
    simp only [List.take_zero, val, Int.mul_zero, Int.sub_zero, Int.add_zero]
    omega
  · rw [getD_seti, if_neg (fun hx => by omega)]; exact h.r j (by omega)
theorem Mu.fin {a b o : List Int} (h : Mu a b o a.length 0 0) : Dg o ∧ val o = val a * val b := by
  have hv := h.v
  rw [List.take_length] at hv
  simp only [List.take_zero, val, Int.mul_zero, Int.add_zero] at hv
  exact ⟨h.d, hv⟩
end Go.Proofs.YthggloiigkbfeaaGreat
namespace Go.Proofs.YthggloiigkbfeaaGreat
open W Go.RowKit
attribute [local irreducible] WC WL WD YO LO LoopEnd W.Fin Scalar SliceT FieldAt Row ArrT AllocT KnS Has W.One SrcE IntT
set_option maxHeartbeats 4000000 in
set_option maxRecDepth 8000 in
theorem plus0_c (u w : Value) (a b : List Int) (u' w' : Value) (a' b' : List Int) (ha : Dg a) (hb : Dg b) (hl : a.length ≤ 1000000000) (hl2 : b.length ≤ a.length) (hsw : (u = u' ∧ w = w' ∧ a = a' ∧ b = b' ∧ ¬ a'.length < b'.length) ∨ (w = u' ∧ u = w' ∧ b = a' ∧ a = b' ∧ a'.length < b'.length)) :
    FnB Tryz.prog 133 [u', w'] [] [sI u' a', sI w' b'] (IsDg (val a + val b) (a.length + 1)) := by
  refine fn_of [(0, u'), (1, w')] 56 Tryz.func133 rfl Tryz.ntmps133 (by kernel_rfl) rfl suA fun h0 => ?_
  rcases hsw with ⟨rfl, rfl, rfl, rfl, hc⟩ | ⟨rfl, rfl, rfl, rfl, hc⟩
  all_goals
    repeat' (first | refine go ?_ | refine goX ?_ | refine goB ?_ | (refine goG ?_; intro g) | (refine goV ?_; intro v))
    refine WC.lp (σ := Nat × List Int × Int) (fun s => [(23, .int .i64 (s.1 : Int)), (22, .int .i64 (a.length : Int)), (21, u), (5, v), (6, .int .i64 s.2.2), (0, u), (1, w)]) (fun s => [Ow.slice v 3 1 (ints s.2.1)]) (fun _ => [ge h0, sI u a, sI w b])
      (fun s => s.1 ≤ a.length ∧ s.2.1.length = a.length + 1 ∧ (s.2.2 = 0 ∨ s.2.2 = 1) ∧ Dg (s.2.1.take s.1) ∧ val (s.2.1.take s.1) + BB ^ s.1 * s.2.2 = val (a.take s.1) + val (b.take s.1)) (fun s => a.length - s.1) (0, List.replicate (a.length + 1) 0, 0) ⟨by simp, by simp, .inl rfl, by simp [Dg.nil], by simp [val]⟩ ?_
    rintro ⟨k, o, c⟩ ⟨hk, ho, hc01, hd, hv⟩
    simp only at hk ho hc01 hd hv ⊢
    by_cases hlt : k < a.length
    · have h1 : 0 ≤ a.getD k 0 ∧ a.getD k 0 < 1000000000 := ha.any k
      have h2 : 0 ≤ b.getD k 0 ∧ b.getD k 0 < 1000000000 := hb.any k
      have hst := fun x c' h3 h4 => plus_step (a := a) (b := b) (o := o) (k := k) (c := c) (v := x) (by omega) hd hv c' h3 h4
      by_cases hkb : k < b.length
      · by_cases hcy : 1000000000 ≤ a.getD k 0 + c + b.getD k 0
        · repeat' (first | refine go ?_ | refine goX ?_ | refine goB ?_ | (refine goG ?_; intro g) | (refine goV ?_; intro v))
          obtain ⟨h5, h6⟩ := hst (a.getD k 0 + c + b.getD k 0 - 1000000000) 1 ⟨by omega, by show _ < (1000000000 : Int); omega⟩ (by show _ + (1000000000 : Int) * 1 = _; omega)
          exact LoopEnd.mk (k + 1, o.set k (a.getD k 0 + c + b.getD k 0 - 1000000000), 1) ⟨by show k + 1 ≤ a.length; omega, by simpa using ho, .inr rfl, h5, h6⟩ (by show a.length - (k + 1) < a.length - k; omega)
        · repeat' (first | refine go ?_ | refine goX ?_ | refine goB ?_ | (refine goG ?_; intro g) | (refine goV ?_; intro v))
          obtain ⟨h5, h6⟩ := hst (a.getD k 0 + c + b.getD k 0) 0 ⟨by omega, by show _ < (1000000000 : Int); omega⟩ (by show _ + (1000000000 : Int) * 0 = _; omega)
          exact LoopEnd.mk (k + 1, o.set k (a.getD k 0 + c + b.getD k 0), 0) ⟨by show k + 1 ≤ a.length; omega, by simpa using ho, .inl rfl, h5, h6⟩ (by show a.length - (k + 1) < a.length - k; omega)
      · have hb0 : b.getD k 0 = 0 := getD_over (by omega)
        by_cases hcy : 1000000000 ≤ a.getD k 0 + c
        · repeat' (first | refine go ?_ | refine goX ?_ | refine goB ?_ | (refine goG ?_; intro g) | (refine goV ?_; intro v))
          obtain ⟨h5, h6⟩ := hst (a.getD k 0 + c - 1000000000) 1 ⟨by omega, by show _ < (1000000000 : Int); omega⟩ (by show _ + (1000000000 : Int) * 1 = _; omega)
          exact LoopEnd.mk (k + 1, o.set k (a.getD k 0 + c - 1000000000), 1) ⟨by show k + 1 ≤ a.length; omega, by simpa using ho, .inr rfl, h5, h6⟩ (by show a.length - (k + 1) < a.length - k; omega)
        · repeat' (first | refine go ?_ | refine goX ?_ | refine goB ?_ | (refine goG ?_; intro g) | (refine goV ?_; intro v))
          obtain ⟨h5, h6⟩ := hst (a.getD k 0 + c) 0 ⟨by omega, by show _ < (1000000000 : Int); omega⟩ (by show _ + (1000000000 : Int) * 0 = _; omega)
          exact LoopEnd.mk (k + 1, o.set k (a.getD k 0 + c), 0) ⟨by show k + 1 ≤ a.length; omega, by simpa using ho, .inl rfl, h5, h6⟩ (by show a.length - (k + 1) < a.length - k; omega)
    · obtain rfl : k = a.length := by omega
      obtain ⟨h5, h6⟩ := plus_end ho hl2 hd hv ⟨by omega, by show c < (1000000000 : Int); omega⟩
      repeat' (first | refine go ?_ | refine goX ?_ | refine goB ?_ | (refine goG ?_; intro g) | (refine goV ?_; intro v))
      refine WC.freezeI (l := o.set a.length c) (v := v) (el := 3) (by repeat (first | exact Sel.head | apply Sel.tail)) ?_
      refine WC.ret ?_
      exact Fin.p [] [sI v (o.set a.length c)] (ResE.t1 rfl rfl) meA (List.nil_sublist _) haA ⟨_, rfl, rfl, h5, h6, by simp; omega⟩
theorem plus_c (u w : Value) (a b : List Int) (ha : Dg a) (hb : Dg b) (hl : a.length ≤ 1000000000) (hl2 : b.length ≤ 1000000000) : FnB Tryz.prog 133 [u, w] [] [sI u a, sI w b] (IsDg (val a + val b) (max a.length b.length + 1)) := by
  by_cases c : a.length < b.length
  · have := plus0_c w u b a u w a b hb ha hl2 (by omega) (.inr ⟨rfl, rfl, rfl, rfl, c⟩)
    rwa [Int.add_comm, show b.length + 1 = max a.length b.length + 1 by omega] at this
  · have := plus0_c u w a b u w a b ha hb hl (by omega) (.inl ⟨rfl, rfl, rfl, rfl, c⟩)
    rwa [show a.length + 1 = max a.length b.length + 1 by omega] at this
end Go.Proofs.YthggloiigkbfeaaGreat
namespace Go.Proofs.YthggloiigkbfeaaGreat
open W Go.RowKit
theorem Mi.step0 {a b o : List Int} {k : Nat} {c v : Int} (h : Mi a b o k c) (hk : k < a.length) (hx : Dgt v) (he : v = a.getD k 0 - c - b.getD k 0) : Mi a b (o.set k v) (k + 1) 0 := by
  refine h.step hk hx (.inl rfl) (by rw [he]; simp) (by simpa using h.l) (take_set_succ (by rw [h.l]; exact hk)) (fun h1 => ?_) (fun j h1 h2 => ?_)
  · rw [getD_seti, if_neg (fun hx => by omega), h.r _ (by omega) h1]; omega
  · rw [getD_seti, if_neg (fun hx => by omega), h.r _ (by omega) h2]
theorem Mi.step1 {a b o : List Int} {k : Nat} {c v : Int} (h : Mi a b o k c) (hk : k + 1 < a.length) (hx : Dgt v) (he : v = a.getD k 0 - c - b.getD k 0 + 1000000000) : Mi a b ((o.set k v).set (k + 1) ((o.set k v).getD (k + 1) 0 - 1)) (k + 1) 1 := by
  have e1 : (o.set k v).getD (k + 1) 0 = a.getD (k + 1) 0 := by rw [getD_seti, if_neg (fun hx => by omega), h.r _ (by omega) hk]
  refine h.step (by omega) hx (.inr rfl) (by rw [he]; rfl) (by simpa using h.l) ?_ (fun h1 => ?_) (fun j h1 h2 => ?_)
  · rw [List.take_set_of_le (Nat.le_refl _), take_set_succ (by rw [h.l]; omega)]
  · rw [getD_seti, if_pos ⟨rfl, by simp [h.l]; omega⟩, e1]
  · rw [getD_seti, if_neg (fun hx => by omega), getD_seti, if_neg (fun hx => by omega), h.r _ (by omega) h2]
namespace Mns
attribute [local irreducible] WC WL WD YO LO LoopEnd W.Fin Scalar SliceT FieldAt Row ArrT AllocT KnS Has W.One SrcE IntT
theorem d135 {G G' : Prop} (h : G') (s : Bx G' → G := by
  intro h
  first | (apply WC.draw (id := 7) [0, 1, 2, 3, 4, 5, 6, 7, 8, 9] (.held 0 (.held 1 (.held 2 (.held 3 (.held 4 (.held 5 (.held 6 (.held 7 (.held 8 (.held 9 (.loud 10 (.done)))))))))))) mixed (by kernel_rfl)) | fail
  exact Bx.h h) : G := s ⟨h⟩
theorem goB {G G' : Prop} (h : G') (s : Bx G' → G := by
  intro h
  first
    | (apply WL.l; exact rfl; exact rfl; apply LO.copyI; (first | exact T.s22 | exact T.s32 | exact T.s38 | exact T.s109 | exact T.s111 | exact T.s161); exact rfl; exact rfl; exact seA; exact hmA; (simp only [List.length_replicate]); omega)
  exact Bx.h h) : G := s ⟨h⟩
set_option maxHeartbeats 4000000 in
set_option maxRecDepth 8000 in
theorem minus_c (u w : Value) (a b : List Int) (ha : Dg a) (hb : Dg b) (hl : a.length ≤ 1000000000) (hl2 : b.length ≤ a.length) (h0a : 0 < a.length) (hle : val b ≤ val a) :
    FnB Tryz.prog 135 [u, w] [] [sI u a, sI w b] (IsDg (val a - val b) a.length) := by
  refine fn_of [(0, u), (1, w)] 52 Tryz.func135 rfl Tryz.ntmps135 (by kernel_rfl) rfl suA fun h0 => ?_
  repeat' (first | refine go ?_ | refine goX ?_ | refine goB ?_ | (refine goG ?_; intro g) | (refine goV ?_; intro v) | refine goD ?_ | refine goXD ?_ | (refine goDG ?_; intro g) | (refine goDV ?_; intro v) | refine d135 ?_ | fail)
  refine WC.lp (σ := Nat × List Int × Int) (fun s => [(15, .int .i64 (s.1 : Int)), (14, .int .i64 (a.length : Int)), (5, v), (0, u), (1, w)]) (fun s => [Ow.slice v 3 1 (ints s.2.1)]) (fun _ => [ge h0, sI u a, sI w b])
    (fun s => s.1 ≤ a.length ∧ Mi a b s.2.1 s.1 s.2.2) (fun s => a.length - s.1) (0, a, 0) ⟨by simp, Mi.z⟩ ?_
  rintro ⟨k, o, c⟩ ⟨hk, hm⟩
  simp only at hk hm ⊢
  have hol := hm.l
  by_cases hlt : k < a.length
  · have h1 : 0 ≤ a.getD k 0 ∧ a.getD k 0 < 1000000000 := ha.any k
    have h2 : 0 ≤ b.getD k 0 ∧ b.getD k 0 < 1000000000 := hb.any k
    have hc := hm.c0
    have hok : o.getD k 0 = a.getD k 0 - c := hm.at' hlt
    have hlast := hm.last ha hb hl2 hle
    by_cases hkb : k < b.length
    · have e1 : (o.set k (o.getD k 0 - b.getD k 0)).getD k 0 = o.getD k 0 - b.getD k 0 := by rw [getD_seti, if_pos ⟨rfl, by omega⟩]
      by_cases hneg : o.getD k 0 - b.getD k 0 < 0
      · have hk2 : k + 1 < a.length := by
          refine Nat.lt_of_not_le fun hx => ?_
          have := hlast (by omega); omega
        have hs := hm.step1 hk2 (v := o.getD k 0 - b.getD k 0 + 1000000000) ⟨by omega, by show _ < (1000000000 : Int); omega⟩ (by omega)
        have hx := ha.any (k + 1)
        have hx' : 0 ≤ a.getD (k + 1) 0 ∧ a.getD (k + 1) 0 < 1000000000 := hx
        have e3 : (o.set k (o.getD k 0 - b.getD k 0 + 1000000000)).getD (k + 1) 0 = a.getD (k + 1) 0 := by rw [getD_seti, if_neg (fun hx => by omega), hm.r _ (by omega) hk2]
        have e4 : ((k : Int) + 1).toNat = k + 1 := by omega
        have hng2 : (o.set k (o.getD k 0 - b.getD k 0)).getD k 0 < 0 := by rw [e1]; exact hneg
        repeat' (first | refine go ?_ | refine goX ?_ | refine goB ?_ | (refine goG ?_; intro g) | (refine goV ?_; intro v) | refine goD ?_ | refine goXD ?_ | (refine goDG ?_; intro g) | (refine goDV ?_; intro v) | refine d135 ?_ | fail)
        simp only [e1, List.set_set]
        repeat' (first | refine go ?_ | refine goX ?_ | refine goB ?_ | (refine goG ?_; intro g) | (refine goV ?_; intro v) | refine goD ?_ | refine goXD ?_ | (refine goDG ?_; intro g) | (refine goDV ?_; intro v) | refine d135 ?_ | fail)
        exact LoopEnd.mk (k + 1, _, 1) ⟨by show k + 1 ≤ a.length; omega, hs⟩ (by show a.length - (k + 1) < a.length - k; omega)
      · have hs := hm.step0 hlt (v := o.getD k 0 - b.getD k 0) ⟨by omega, by show _ < (1000000000 : Int); omega⟩ (by omega)
        have hng2 : ¬ (o.set k (o.getD k 0 - b.getD k 0)).getD k 0 < 0 := by rw [e1]; exact hneg
        repeat' (first | refine go ?_ | refine goX ?_ | refine goB ?_ | (refine goG ?_; intro g) | (refine goV ?_; intro v) | refine goD ?_ | refine goXD ?_ | (refine goDG ?_; intro g) | (refine goDV ?_; intro v) | refine d135 ?_ | fail)
        exact LoopEnd.mk (k + 1, _, 0) ⟨by show k + 1 ≤ a.length; omega, hs⟩ (by show a.length - (k + 1) < a.length - k; omega)
    · have hb0 : b.getD k 0 = 0 := getD_over (by omega)
      by_cases hneg : o.getD k 0 < 0
      · have hk2 : k + 1 < a.length := by
          refine Nat.lt_of_not_le fun hx => ?_
          have := hlast (by omega); omega
        have hs := hm.step1 hk2 (v := o.getD k 0 + 1000000000) ⟨by omega, by show _ < (1000000000 : Int); omega⟩ (by omega)
        have hx' : 0 ≤ a.getD (k + 1) 0 ∧ a.getD (k + 1) 0 < 1000000000 := ha.any (k + 1)
        have e3 : (o.set k (o.getD k 0 + 1000000000)).getD (k + 1) 0 = a.getD (k + 1) 0 := by rw [getD_seti, if_neg (fun hx => by omega), hm.r _ (by omega) hk2]
        rw [e3] at hs
        repeat' (first | refine go ?_ | refine goX ?_ | refine goB ?_ | (refine goG ?_; intro g) | (refine goV ?_; intro v) | refine goD ?_ | refine goXD ?_ | (refine goDG ?_; intro g) | (refine goDV ?_; intro v) | refine d135 ?_ | fail)
        rw [e3]
        repeat' (first | refine go ?_ | refine goX ?_ | refine goB ?_ | (refine goG ?_; intro g) | (refine goV ?_; intro v) | refine goD ?_ | refine goXD ?_ | (refine goDG ?_; intro g) | (refine goDV ?_; intro v) | refine d135 ?_ | fail)
        exact LoopEnd.mk (k + 1, _, 1) ⟨by show k + 1 ≤ a.length; omega, hs⟩ (by show a.length - (k + 1) < a.length - k; omega)
      · have hs := hm.step0 hlt (v := o.getD k 0) ⟨by omega, by show _ < (1000000000 : Int); omega⟩ (by omega)
        have e5 : o.set k (o.getD k 0) = o := by
          apply List.ext_getElem?
          intro j
          rw [List.getElem?_set]
          split
          · rename_i hj; subst hj; rw [if_pos (by omega)]; simp [List.getD_eq_getElem?_getD, show k < o.length by omega]
          · rfl
        rw [e5] at hs
        repeat' (first | refine go ?_ | refine goX ?_ | refine goB ?_ | (refine goG ?_; intro g) | (refine goV ?_; intro v) | refine goD ?_ | refine goXD ?_ | (refine goDG ?_; intro g) | (refine goDV ?_; intro v) | refine d135 ?_ | fail)
        exact LoopEnd.mk (k + 1, o, 0) ⟨by show k + 1 ≤ a.length; omega, hs⟩ (by show a.length - (k + 1) < a.length - k; omega)
  · obtain rfl : k = a.length := by omega
    obtain ⟨h4, h5, h6⟩ := hm.end' hl2 hle
    repeat' (first | refine go ?_ | refine goX ?_ | refine goB ?_ | (refine goG ?_; intro g) | (refine goV ?_; intro v) | refine goD ?_ | refine goXD ?_ | (refine goDG ?_; intro g) | (refine goDV ?_; intro v) | refine d135 ?_ | fail)
    refine WC.freezeI (l := o) (v := v) (el := 3) (by repeat (first | exact Sel.head | apply Sel.tail)) ?_
    refine WC.ret ?_
    exact Fin.p [] [sI v o] (ResE.t1 rfl rfl) meA (List.nil_sublist _) haA ⟨_, rfl, rfl, h5, h6, by omega⟩
end Mns
end Go.Proofs.YthggloiigkbfeaaGreat
namespace Go.Proofs.YthggloiigkbfeaaGreat
open W Go.RowKit
theorem digs_len1 {n : Nat} (h : (digs n).length = 1) : n ≠ 0 ∧ n < 1000000000 := by
  have h1 := @digs_lt n
  rw [h] at h1
  exact ⟨fun h2 => by have := digs_len0.2 h2; omega, by simpa using h1⟩
theorem sign_mul {x y : Int} {a b : Bool} (ha : a = decide (x < 0)) (hb : b = decide (y < 0)) (h : x * y ≠ 0) : (!(a == b)) = decide (x * y < 0) := by
  have hx : x ≠ 0 := fun hx => h (by rw [hx]; simp)
  have hy : y ≠ 0 := fun hy => h (by rw [hy]; simp)
  subst ha hb
  rcases Int.lt_or_lt_of_ne hx with h1 | h1 <;> rcases Int.lt_or_lt_of_ne hy with h2 | h2
  · have := Int.mul_pos_of_neg_of_neg h1 h2
    rw [decide_eq_true h1, decide_eq_true h2, decide_eq_false (by omega)]; rfl
  · have := Int.mul_neg_of_neg_of_pos h1 h2
    rw [decide_eq_true h1, decide_eq_false (by omega), decide_eq_true this]; rfl
  · have := Int.mul_neg_of_pos_of_neg h1 h2
    rw [decide_eq_false (by omega), decide_eq_true h2, decide_eq_true this]; rfl
  · have := Int.mul_pos h1 h2
    rw [decide_eq_false (by omega), decide_eq_false (by omega), decide_eq_false (by omega)]; rfl
theorem nabs_mul_val (x y : Int) : (x * y).natAbs = (val (digs x.natAbs) * val (digs y.natAbs)).toNat := by
  rw [val_digs, val_digs, Int.natAbs_mul]
  have : ((x.natAbs : Int) * (y.natAbs : Int)) = ((x.natAbs * y.natAbs : Nat) : Int) := by simp
  rw [this, Int.toNat_natCast]
theorem val_mul_ne {x y : Int} (h : val (digs x.natAbs) * val (digs y.natAbs) ≠ 0) : x * y ≠ 0 := fun hxy => by
  rw [val_digs, val_digs] at h
  rcases Int.mul_eq_zero.1 hxy with rfl | rfl <;> simp at h
attribute [local irreducible] WC WL WD YO LO LoopEnd W.Fin Scalar SliceT FieldAt Row ArrT AllocT KnS Has W.One SrcE IntT
theorem d84 {G G' : Prop} (h : G') (s : Bx G' → G := by
  intro h
  first | (apply WC.draw (id := 1) [0, 1, 2, 3, 4, 5] (.held 0 (.held 1 (.held 2 (.held 3 (.held 4 (.held 5 (.done))))))) mixed (by kernel_rfl)) | (apply WC.draw (id := 3) [0, 1, 2, 3, 4, 5, 6, 7, 8, 9, 10, 11, 12, 13] (.held 0 (.held 1 (.held 2 (.held 3 (.held 4 (.held 5 (.held 6 (.held 7 (.held 8 (.held 9 (.held 10 (.held 11 (.held 12 (.held 13 (.loud 14 (.loud 15 (.done))))))))))))))))) mixed (by kernel_rfl)) | fail
  exact Bx.h h) : G := s ⟨h⟩
theorem YO.bneq {e : Env} {bx : List Ow} {F : List Fct} {ty t' : TypeId} {x y : Operand} {a b : Bool} (hx : ev e x = some (.bool a)) (hy : ev e y = some (.bool b)) : YO Tryz.prog (.binOp .neq 4 x y t') ty e bx F (.bool (!(a == b))) := YO.bne bool_t hx hy
namespace Mlt
theorem goB {G G' : Prop} (h : G') (s : Bx G' → G := by
  intro h
  first
    | (apply WD.k_neq; exact rfl; (apply YO.bneq; exact rfl; exact rfl); exact rfl; exact rfl)
    | (apply WL.k_neq; (apply YO.bneq; exact rfl; exact rfl); exact rfl; exact rfl)
    | (apply WL.k_mul; (apply YO.mul; exact rfl; exact rfl; omega; omega); exact rfl; exact rfl)
  exact Bx.h h) : G := s ⟨h⟩
set_option maxHeartbeats 4000000 in
set_option maxRecDepth 8000 in
theorem mul_c (v1 v2 : Value) (x y : Int) (h1 : (digs x.natAbs).length ≤ 1000000000) (h2 : (digs y.natAbs).length ≤ 1000000000) : FnB Tryz.prog 84 [v1, v2] [] [isZ v1 x, isZ v2 y] (IsZ (x * y)) := by
  refine fn_of [(0, v1), (1, v2)] 100 Tryz.func84 rfl Tryz.ntmps84 (by kernel_rfl) rfl suA fun h0 => ?_
  refine WC.openZ (v := v1) (z := x) hmA fun n1 d1 hv hb1 => ?_
  subst hv
  refine WC.openZ (v := v2) (z := y) hmA fun n2 d2 hv hb2 => ?_
  subst hv
  obtain ⟨a, ha⟩ : ∃ a, digs x.natAbs = a := ⟨_, rfl⟩
  obtain ⟨b, hb⟩ : ∃ b, digs y.natAbs = b := ⟨_, rfl⟩
  have hda : Dg a := ha ▸ digs_Dg _
  have hdb : Dg b := hb ▸ digs_Dg _
  have hab := nabs_mul_val x y
  have hne := @val_mul_ne x y
  have hl1 := @digs_len1 x.natAbs
  have hl2 := @digs_len1 y.natAbs
  have hg1 := fun h => @digs_1 x.natAbs h
  have hg2 := fun h => @digs_1 y.natAbs h
  refine WC.fact (sI d1 (digs x.natAbs)) (hasZ_d hmA) ?_
  refine WC.fact (sI d2 (digs y.natAbs)) (hasZ_d hmA) ?_
  rw [ha] at h1 hab hne hl1 hg1 ⊢
  rw [hb] at h2 hab hne hl2 hg2 ⊢
  by_cases c1 : a.length = 1 ∧ b.length = 1
  · obtain ⟨c1, c2⟩ := c1
    have hx := hl1 c1
    have hy := hl2 c2
    have hg1 := hg1 hx.1 hx.2
    have hg2 := hg2 hy.1 hy.2
    have ea : a.getD 0 0 = (x.natAbs : Int) := by rw [hg1]; rfl
    have eb : b.getD 0 0 = (y.natAbs : Int) := by rw [hg2]; rfl
    have hp : x.natAbs * y.natAbs ≤ 999999999 * 999999999 := Nat.mul_le_mul (by omega) (by omega)
    have hp2 : ((x.natAbs : Int) * (y.natAbs : Int)) = ((x.natAbs * y.natAbs : Nat) : Int) := by simp
    have q1 : 0 ≤ (x.natAbs : Int) * (y.natAbs : Int) := by omega
    have q2 : (x.natAbs : Int) * (y.natAbs : Int) ≤ 18446744073709551615 := by omega
    have ea' : a.getD (0 : Int).toNat 0 = (x.natAbs : Int) := ea
    have eb' : b.getD (0 : Int).toNat 0 = (y.natAbs : Int) := eb
    have h3 : 0 ≤ a.getD (0 : Int).toNat 0 := by omega
    have h4 : 0 ≤ b.getD (0 : Int).toNat 0 := by omega
    have h5 : 0 ≤ a.getD (0 : Int).toNat 0 * b.getD (0 : Int).toNat 0 := by rw [ea', eb']; exact q1
    have h6 : a.getD (0 : Int).toNat 0 * b.getD (0 : Int).toNat 0 ≤ 18446744073709551615 := by rw [ea', eb']; exact q2
    repeat' (first | refine go ?_ | refine goX ?_ | refine goB ?_ | (refine goG ?_; intro g) | (refine goV ?_; intro v) | refine goD ?_ | refine goXD ?_ | (refine goDG ?_; intro g) | (refine goDV ?_; intro v) | refine d84 ?_ | fail)
    rw [show a.getD (0 : Int).toNat 0 * b.getD (0 : Int).toNat 0 = ((x.natAbs * y.natAbs : Nat) : Int) by rw [ea', eb', hp2]]
    first | refine WL.callK (unsigned_c (!(n1 == n2)) (x.natAbs * y.natAbs) (x * y) (by omega) (Int.natAbs_mul x y) (fun hxy => sign_mul hb1 hb2 (by rw [Ne, ← Int.natAbs_eq_zero, Int.natAbs_mul]; exact hxy))) ?_ | refine WD.callK (unsigned_c (!(n1 == n2)) (x.natAbs * y.natAbs) (x * y) (by omega) (Int.natAbs_mul x y) (fun hxy => sign_mul hb1 hb2 (by rw [Ne, ← Int.natAbs_eq_zero, Int.natAbs_mul]; exact hxy))) ?_ | refine LO.callM (unsigned_c (!(n1 == n2)) (x.natAbs * y.natAbs) (x * y) (by omega) (Int.natAbs_mul x y) (fun hxy => sign_mul hb1 hb2 (by rw [Ne, ← Int.natAbs_eq_zero, Int.natAbs_mul]; exact hxy))) ?_
    rintro _ _ _ ⟨nb, d, rfl, hb, rfl, rfl⟩
    simp only [List.nil_append, List.cons_append]
    repeat' (first | refine go ?_ | refine goX ?_ | refine goB ?_ | (refine goG ?_; intro g) | (refine goV ?_; intro v) | refine goD ?_ | refine goXD ?_ | (refine goDG ?_; intro g) | (refine goDV ?_; intro v) | refine d84 ?_ | fail)
    refine WC.ret ?_
    exact Fin.p [] [isZ (.agg #[.bool nb, d]) (x * y)] (ResE.cV rfl rfl meA T.r35 rfl) meA (List.nil_sublist _) haA ⟨nb, _, rfl, hb, rfl, rfl⟩
  · have hmk : (List.replicate (a.length + b.length) (0 : Int)).length = a.length + b.length := by simp
    have key : ¬ (a.length = 1 ∧ b.length = 1) := c1
    have hsplit : (¬ a.length = 1) ∨ (a.length = 1 ∧ ¬ b.length = 1) := by omega
    rcases hsplit with c2 | ⟨c2, c3⟩
    all_goals
      repeat' (first | refine go ?_ | refine goX ?_ | refine goB ?_ | (refine goG ?_; intro g) | (refine goV ?_; intro v) | refine goD ?_ | refine goXD ?_ | (refine goDG ?_; intro g) | (refine goDV ?_; intro v) | refine d84 ?_ | fail)
      rename_i g2 g3
      revert g; intro g4
      refine WC.lp (σ := Nat × List Int) (fun s => [(49, .int .i64 (s.1 : Int)), (48, .int .i64 (a.length : Int)), (47, d1), (5, d1), (6, d2), (7, v), (2, ptr g2), (3, ptr g3), (4, ptr g4)]) (fun s => [Ow.slice v 3 1 (ints s.2), Ow.cells g4 35 [.bool false, .slice none 0 0], Ow.cells g3 35 [.bool n2, d2], Ow.cells g2 35 [.bool n1, d1]]) (fun _ => [ge h0, sI d1 a, sI d2 b])
        (fun s => s.1 ≤ a.length ∧ Mu a b s.2 s.1 0 0) (fun s => a.length - s.1) (0, List.replicate (a.length + b.length) 0) ⟨by simp, Mu.z⟩ ?_
      rintro ⟨i, o⟩ ⟨hi, hm⟩
      simp only at hi hm ⊢
      have hol := hm.l
      by_cases hlt : i < a.length
      · repeat' (first | refine go ?_ | refine goX ?_ | refine goB ?_ | (refine goG ?_; intro g) | (refine goV ?_; intro v) | refine goD ?_ | refine goXD ?_ | (refine goDG ?_; intro g) | (refine goDV ?_; intro v) | refine d84 ?_ | fail)
        refine WC.lp (σ := Nat × List Int × Int) (fun s => [(56, .int .i64 (s.1 : Int)), (55, .int .i64 (b.length : Int)), (54, d2), (10, .int .i64 s.2.2), (8, .int .i64 (i : Int)), (9, .int .i64 (a.getD i 0)), (49, .int .i64 (i : Int)), (48, .int .i64 (a.length : Int)), (47, d1), (5, d1), (6, d2), (7, v), (2, ptr g2), (3, ptr g3), (4, ptr g4)]) (fun s => [Ow.slice v 3 1 (ints s.2.1), Ow.cells g4 35 [.bool false, .slice none 0 0], Ow.cells g3 35 [.bool n2, d2], Ow.cells g2 35 [.bool n1, d1]]) (fun _ => [ge h0, sI d1 a, sI d2 b])
          (fun s => s.1 ≤ b.length ∧ Mu a b s.2.1 i s.1 s.2.2) (fun s => b.length - s.1) (0, o, 0) ⟨by simp, hm⟩ ?_
        rintro ⟨k, o2, c⟩ ⟨hk, hm2⟩
        simp only at hk hm2 ⊢
        have hol2 := hm2.l
        by_cases hkl : k < b.length
        · have hbd := mu_bd (hm2.d.any (i + k)) (hda.any i) (hdb.any k) hm2.cd
          have eik : ((i : Int) + (k : Int)).toNat = i + k := by omega
          have hst := fun w q hw hq he => hm2.step hlt hkl (w := w) (q := q) hw hq he
          have eo : o2.getD ((i : Int) + (k : Int)).toNat 0 = o2.getD (i + k) 0 := by rw [eik]
          have hP1 : 0 ≤ a.getD i 0 * b.getD k 0 := by omega
          have hP2 : a.getD i 0 * b.getD k 0 ≤ 9223372036854775807 := by omega
          have hx : 0 ≤ o2.getD (i + k) 0 ∧ o2.getD (i + k) 0 < 1000000000 := hm2.d.any (i + k)
          have hcd : 0 ≤ c ∧ c < 1000000000 := hm2.cd
          have hst := hst (o2.getD (i + k) 0 + a.getD i 0 * b.getD k 0 + c - (o2.getD (i + k) 0 + a.getD i 0 * b.getD k 0 + c) / 1000000000 * 1000000000) ((o2.getD (i + k) 0 + a.getD i 0 * b.getD k 0 + c) / 1000000000) ⟨by omega, by show _ < (1000000000 : Int); omega⟩ ⟨by omega, by show _ < (1000000000 : Int); omega⟩ (by show _ + (1000000000 : Int) * _ = _; omega)
          repeat' (first | refine go ?_ | refine goX ?_ | refine goB ?_ | (refine goG ?_; intro g) | (refine goV ?_; intro v) | refine goD ?_ | refine goXD ?_ | (refine goDG ?_; intro g) | (refine goDV ?_; intro v) | refine d84 ?_ | fail)
          exact LoopEnd.mk (k + 1, _, _) ⟨by show k + 1 ≤ b.length; omega, hst⟩ (by show b.length - (k + 1) < b.length - k; omega)
        · obtain rfl : k = b.length := by omega
          have eik : ((i : Int) + (b.length : Int)).toNat = i + b.length := by omega
          repeat' (first | refine go ?_ | refine goX ?_ | refine goB ?_ | (refine goG ?_; intro g) | (refine goV ?_; intro v) | refine goD ?_ | refine goXD ?_ | (refine goDG ?_; intro g) | (refine goDV ?_; intro v) | refine d84 ?_ | fail)
          exact LoopEnd.mk (i + 1, _) ⟨by show i + 1 ≤ a.length; omega, hm2.row hlt⟩ (by show a.length - (i + 1) < a.length - i; omega)
      · obtain rfl : i = a.length := by omega
        obtain ⟨h3, h4⟩ := hm.fin
        repeat' (first | refine go ?_ | refine goX ?_ | refine goB ?_ | (refine goG ?_; intro g) | (refine goV ?_; intro v) | refine goD ?_ | refine goXD ?_ | (refine goDG ?_; intro g) | (refine goDV ?_; intro v) | refine d84 ?_ | fail)
        refine WL.freezeI (l := o) (v := v) (el := 3) (by repeat (first | exact Sel.head | apply Sel.tail)) ?_
        first | refine WL.callK (of_c v (!(n1 == n2)) o (x * y) h3 (by rw [hab, h4]) (fun hxy => sign_mul hb1 hb2 (hne (by rw [← h4]; exact hxy)))) ?_ | refine WD.callK (of_c v (!(n1 == n2)) o (x * y) h3 (by rw [hab, h4]) (fun hxy => sign_mul hb1 hb2 (hne (by rw [← h4]; exact hxy)))) ?_ | refine LO.callM (of_c v (!(n1 == n2)) o (x * y) h3 (by rw [hab, h4]) (fun hxy => sign_mul hb1 hb2 (hne (by rw [← h4]; exact hxy)))) ?_
        rintro _ _ _ ⟨nb, d, rfl, hb, rfl, rfl⟩
        simp only [List.nil_append, List.cons_append]
        repeat' (first | refine go ?_ | refine goX ?_ | refine goB ?_ | (refine goG ?_; intro g) | (refine goV ?_; intro v) | refine goD ?_ | refine goXD ?_ | (refine goDG ?_; intro g) | (refine goDV ?_; intro v) | refine d84 ?_ | fail)
        refine WC.ret ?_
        exact Fin.p [] [isZ (.agg #[.bool nb, d]) (x * y)] (ResE.cV rfl rfl meA T.r35 rfl) meA (List.nil_sublist _) haA ⟨nb, _, rfl, hb, rfl, rfl⟩
end Mlt
end Go.Proofs.YthggloiigkbfeaaGreat
namespace Go.Proofs.YthggloiigkbfeaaGreat
open W Go.RowKit
abbrev B2 : Nat := 1000000000000000000
/-- the digits of a number of at most two, by their number -/
theorem two_cases {n : Nat} (h : n < B2) : (n = 0 ∧ digs n = []) ∨ ((digs n).length = 1 ∧ digs n = [(n : Int)] ∧ n ≠ 0 ∧ n < 1000000000) ∨ ((digs n).length = 2 ∧ digs n = [((n % 1000000000 : Nat) : Int), ((n / 1000000000 : Nat) : Int)] ∧ 1000000000 ≤ n) := by
  by_cases h0 : n = 0
  · left; subst h0; exact ⟨rfl, digs_0⟩
  · by_cases h1 : n < 1000000000
    · right; left; have := digs_1 h0 h1; exact ⟨by rw [this]; rfl, this, h0, h1⟩
    · right; right; have := digs_2 (n := n) (by omega) (by unfold B2 at h; omega); exact ⟨by rw [this]; rfl, this, by omega⟩
/-- answers two integers -/
def IsZZ (x y : Int) : RPost := fun v b G => ∃ n1 d1 n2 d2, v = .tuple #[.agg #[.bool n1, d1], .agg #[.bool n2, d2]] ∧ n1 = decide (x < 0) ∧ n2 = decide (y < 0) ∧ b = [] ∧ G = [isZ (.agg #[.bool n1, d1]) x, isZ (.agg #[.bool n2, d2]) y]
theorem ResE.cc {P : Program} {e : Env} {bx : List Ow} {F : List Fct} {fn : Func} {t s : Tmp} {ty ty2 : TypeId} {g g2 tg tg2 m m2 : Nat} {cs cs2 : List Value} (h : fn.results = #[.cell t ty, .cell s ty2]) (hl : W.look e t = some (.pointer (some ⟨g, 0, none⟩))) (hl2 : W.look e s = some (.pointer (some ⟨g2, 0, none⟩)))
    (hb : Ow.cells g tg cs ∈ bx) (hb2 : Ow.cells g2 tg2 cs2 ∈ bx) (hr : Row P ty m) (hm : cs.length = m) (hr2 : Row P ty2 m2) (hm2 : cs2.length = m2) : ResE P fn e bx F (.tuple #[.agg cs.toArray, .agg cs2.toArray]) := fun n fr a w hk ho => by
  obtain ⟨⟨d, hu, hd⟩, hi⟩ := hr
  obtain ⟨⟨d', hu', hd'⟩, hi'⟩ := hr2
  have h1 : a.tmps[t]?.getD undef = .pointer (some ⟨g, 0, none⟩) := by rw [hk.at' _ _ hl]; rfl
  have h3 : a.tmps[s]?.getD undef = .pointer (some ⟨g2, 0, none⟩) := by rw [hk.at' _ _ hl2]; rfl
  have h2 := run_loadVar_mid (P := P) w g 0 ty cs d (fun i v hv => by rw [Nat.zero_add, own_cell (ho.owns _ hb)]; exact hv) hu hd (by rw [hi]; simp [hm])
  have h4 := run_loadVar_mid (P := P) w g2 0 ty2 cs2 d' (fun i v hv => by rw [Nat.zero_add, own_cell (ho.owns _ hb2)]; exact hv) hu' hd' (by rw [hi']; simp [hm2])
  simp only [results, h]
  simp [h1, h3, asAddr, h2, h4]
namespace Dvz
attribute [local irreducible] WC WL WD YO LO LoopEnd W.Fin Scalar SliceT FieldAt Row ArrT AllocT KnS Has W.One SrcE IntT
theorem d121 {G G' : Prop} (h : G') (s : Bx G' → G := by
  intro h
  first | (apply WC.draw (id := 1) [0, 1, 3, 4] (.held 0 (.held 1 (.held 3 (.held 4 (.more 2 (.more 5 (.more 6 (.loud 7 (.loud 8 (.loud 9 (.done)))) (.loud 7 (.loud 6 (.loud 8 (.loud 9 (.done)))))) (.more 6 (.more 5 (.loud 7 (.loud 8 (.loud 9 (.done)))) (.loud 7 (.loud 5 (.loud 8 (.loud 9 (.done)))))) (.loud 7 (.more 5 (.loud 6 (.loud 8 (.loud 9 (.done)))) (.loud 6 (.loud 5 (.loud 8 (.loud 9 (.done))))))))) (.more 6 (.more 2 (.more 5 (.loud 7 (.loud 8 (.loud 9 (.done)))) (.loud 7 (.loud 5 (.loud 8 (.loud 9 (.done)))))) (.loud 7 (.loud 2 (.loud 5 (.loud 8 (.loud 9 (.done))))))) (.loud 7 (.more 2 (.more 5 (.loud 6 (.loud 8 (.loud 9 (.done)))) (.loud 6 (.loud 5 (.loud 8 (.loud 9 (.done)))))) (.loud 6 (.loud 2 (.loud 5 (.loud 8 (.loud 9 (.done)))))))))))))) mixed (by kernel_rfl)) | (apply WC.draw (id := 7) [0, 1, 2, 3, 4, 5] (.held 0 (.held 1 (.held 2 (.held 3 (.held 4 (.held 5 (.done))))))) mixed (by kernel_rfl)) | (apply WC.drawR (id := 10) [5] [0, 1] (.held 0 (.held 1 (.loud 2 (.loud 3 (.done))))) mixed (by kernel_rfl); (focus ((repeat (first | exact Rems.nil _ | (apply Rems.cons; exact rfl; (repeat (first | exact Rem.head | apply Rem.tail))))); done))) | fail
  exact Bx.h h) : G := s ⟨h⟩
theorem d150 {G G' : Prop} (h : G') (s : Bx G' → G := by
  intro h
  first | (apply WC.draw (id := 7) [0, 1, 2, 3, 4, 5, 6, 7, 8, 9] (.held 0 (.held 1 (.held 2 (.held 3 (.held 4 (.held 5 (.held 6 (.held 7 (.held 8 (.held 9 (.done))))))))))) mixed (by kernel_rfl)) | fail
  exact Bx.h h) : G := s ⟨h⟩
theorem d151 {G G' : Prop} (h : G') (s : Bx G' → G := by
  intro h
  first | (apply WC.draw (id := 5) [0, 1, 2, 3, 5, 6, 7, 8] (.held 0 (.held 1 (.held 2 (.held 3 (.held 5 (.held 6 (.held 7 (.held 8 (.loud 4 (.loud 9 (.loud 10 (.loud 11 (.done))))))))))))) mixed (by kernel_rfl)) | fail
  exact Bx.h h) : G := s ⟨h⟩
theorem goB {G G' : Prop} (h : G') (s : Bx G' → G := by
  intro h
  first
    | (apply WL.k_mul; (apply YO.mul; exact rfl; exact rfl; omega; omega); exact rfl; exact rfl)
    | (apply WD.k_quo; exact rfl; (apply YO.quo; exact rfl; exact rfl; omega; omega; omega); exact rfl; exact rfl)
  exact Bx.h h) : G := s ⟨h⟩
set_option maxHeartbeats 4000000 in
set_option maxRecDepth 8000 in
theorem two_c (u : Value) (n : Nat) (hn : n < B2) : FnB Tryz.prog 150 [u] [] [sI u (digs n)] (IsV (.tuple #[.int .i64 n, .bool true])) := by
  refine fn_of [(0, u)] 23 Tryz.func150 rfl Tryz.ntmps150 (by kernel_rfl) rfl suA fun h0 => ?_
  unfold B2 at hn
  rcases two_cases (n := n) hn with ⟨h, e⟩ | ⟨h, e, h2⟩ | ⟨h, e, h2⟩
  · rw [e]
    subst h
    have hl : ([] : List Int).length = 0 := rfl
    repeat' (first | refine go ?_ | refine goX ?_ | refine goB ?_ | (refine goG ?_; intro g) | (refine goV ?_; intro v) | refine goD ?_ | refine goXD ?_ | (refine goDG ?_; intro g) | (refine goDV ?_; intro v) | refine d150 ?_ | fail)
    refine WC.ret ?_
    exact Fin.v (ResE.t2 rfl rfl rfl) meA rfl
  · rw [e] at h ⊢
    have e0 : ([(n : Int)].getD (0 : Int).toNat 0) = (n : Int) := rfl
    repeat' (first | refine go ?_ | refine goX ?_ | refine goB ?_ | (refine goG ?_; intro g) | (refine goV ?_; intro v) | refine goD ?_ | refine goXD ?_ | (refine goDG ?_; intro g) | (refine goDV ?_; intro v) | refine d150 ?_ | fail)
    refine WC.ret ?_
    exact Fin.v (ResE.t2 rfl rfl rfl) meA rfl
  · rw [e] at h ⊢
    have e0 : ([((n % 1000000000 : Nat) : Int), ((n / 1000000000 : Nat) : Int)].getD (0 : Int).toNat 0) = ((n % 1000000000 : Nat) : Int) := rfl
    have e1 : ([((n % 1000000000 : Nat) : Int), ((n / 1000000000 : Nat) : Int)].getD (1 : Int).toNat 0) = ((n / 1000000000 : Nat) : Int) := rfl
    generalize [((n % 1000000000 : Nat) : Int), ((n / 1000000000 : Nat) : Int)] = l at *
    have hv : l.getD (1 : Int).toNat 0 * 1000000000 + l.getD (0 : Int).toNat 0 = (n : Int) := by omega
    repeat' (first | refine go ?_ | refine goX ?_ | refine goB ?_ | (refine goG ?_; intro g) | (refine goV ?_; intro v) | refine goD ?_ | refine goXD ?_ | (refine goDG ?_; intro g) | (refine goDV ?_; intro v) | refine d150 ?_ | fail)
    rw [hv]
    refine WC.ret ?_
    exact Fin.v (ResE.t2 rfl rfl rfl) meA rfl
set_option maxHeartbeats 4000000 in
set_option maxRecDepth 8000 in
theorem divide_c (u w : Value) (m n : Nat) (hm : m < B2) (hn : n < B2) (h0n : n ≠ 0) : FnB Tryz.prog 151 [u, w] [] [sI u (digs m), sI w (digs n)] (IsZZ ((m / n : Nat) : Int) ((m % n : Nat) : Int)) := by
  refine fn_of [(0, u), (1, w)] 69 Tryz.func151 rfl Tryz.ntmps151 (by kernel_rfl) rfl suA fun h0 => ?_
  have hm' : m < 1000000000000000000 := hm
  have hn' : n < 1000000000000000000 := hn
  have q1 : m / n ≤ m := Nat.div_le_self _ _
  have q2 : m % n < n := Nat.mod_lt _ (by omega)
  have e1 : (m : Int) / (n : Int) = ((m / n : Nat) : Int) := by simp
  have e2 : (m : Int) % (n : Int) = ((m % n : Nat) : Int) := by simp
  have e3 : (m : Int) / (n : Int) ≤ (m : Int) := by rw [e1]; exact Int.ofNat_le.2 q1
  have e4 : 0 ≤ (m : Int) / (n : Int) := by rw [e1]; exact Int.natCast_nonneg _
  have e5 : (m : Int) % (n : Int) < (n : Int) := by rw [e2]; exact Int.ofNat_lt.2 q2
  have e6 : 0 ≤ (m : Int) % (n : Int) := by rw [e2]; exact Int.natCast_nonneg _
  repeat' (first | refine go ?_ | refine goX ?_ | refine goB ?_ | (refine goG ?_; intro g) | (refine goV ?_; intro v) | refine goD ?_ | refine goXD ?_ | (refine goDG ?_; intro g) | (refine goDV ?_; intro v) | refine d151 ?_ | fail)
  first | refine WL.callV (two_c u m hm) ?_ | refine WD.callV (two_c u m hm) ?_
  repeat' (first | refine go ?_ | refine goX ?_ | refine goB ?_ | (refine goG ?_; intro g) | (refine goV ?_; intro v) | refine goD ?_ | refine goXD ?_ | (refine goDG ?_; intro g) | (refine goDV ?_; intro v) | refine d151 ?_ | fail)
  first | refine WL.callV (two_c w n hn) ?_ | refine WD.callV (two_c w n hn) ?_
  repeat' (first | refine go ?_ | refine goX ?_ | refine goB ?_ | (refine goG ?_; intro g) | (refine goV ?_; intro v) | refine goD ?_ | refine goXD ?_ | (refine goDG ?_; intro g) | (refine goDV ?_; intro v) | refine d151 ?_ | fail)
  rw [e1, e2]
  first | refine WL.callK (unsigned_c false (m / n) ((m / n : Nat) : Int) (by omega) (Int.natAbs_natCast _) (fun _ => (decide_eq_false (Int.not_lt.2 (Int.natCast_nonneg _))).symm)) ?_ | refine WD.callK (unsigned_c false (m / n) ((m / n : Nat) : Int) (by omega) (Int.natAbs_natCast _) (fun _ => (decide_eq_false (Int.not_lt.2 (Int.natCast_nonneg _))).symm)) ?_ | refine LO.callM (unsigned_c false (m / n) ((m / n : Nat) : Int) (by omega) (Int.natAbs_natCast _) (fun _ => (decide_eq_false (Int.not_lt.2 (Int.natCast_nonneg _))).symm)) ?_
  rintro _ _ _ ⟨n1, d1, rfl, hb1, rfl, rfl⟩
  simp only [List.nil_append, List.cons_append]
  repeat' (first | refine go ?_ | refine goX ?_ | refine goB ?_ | (refine goG ?_; intro g) | (refine goV ?_; intro v) | refine goD ?_ | refine goXD ?_ | (refine goDG ?_; intro g) | (refine goDV ?_; intro v) | refine d151 ?_ | fail)
  first | refine WL.callK (unsigned_c false (m % n) ((m % n : Nat) : Int) (by omega) (Int.natAbs_natCast _) (fun _ => (decide_eq_false (Int.not_lt.2 (Int.natCast_nonneg _))).symm)) ?_ | refine WD.callK (unsigned_c false (m % n) ((m % n : Nat) : Int) (by omega) (Int.natAbs_natCast _) (fun _ => (decide_eq_false (Int.not_lt.2 (Int.natCast_nonneg _))).symm)) ?_ | refine LO.callM (unsigned_c false (m % n) ((m % n : Nat) : Int) (by omega) (Int.natAbs_natCast _) (fun _ => (decide_eq_false (Int.not_lt.2 (Int.natCast_nonneg _))).symm)) ?_
  rintro _ _ _ ⟨n2, d2, rfl, hb2, rfl, rfl⟩
  simp only [List.nil_append, List.cons_append]
  repeat' (first | refine go ?_ | refine goX ?_ | refine goB ?_ | (refine goG ?_; intro g) | (refine goV ?_; intro v) | refine goD ?_ | refine goXD ?_ | (refine goDG ?_; intro g) | (refine goDV ?_; intro v) | refine d151 ?_ | fail)
  refine WC.ret ?_
  exact Fin.p [] [isZ (.agg #[.bool n1, d1]) ((m / n : Nat) : Int), isZ (.agg #[.bool n2, d2]) ((m % n : Nat) : Int)] (ResE.cc rfl rfl rfl meA meA T.r35 rfl T.r35 rfl) meA (List.nil_sublist _) haA ⟨n1, d1, n2, d2, rfl, hb1, hb2, rfl, rfl⟩
theorem abs_len {x : Int} (h : x.natAbs < B2) : (digs x.natAbs).length ≤ 1000000000 := by
  have := digs_len_le (k := 2) (n := x.natAbs) h
  omega
/-- the quotient out of the quotients of the numbers without sign -/
theorem ediv_neg1 {x y : Int} (hx : x < 0) (hy : y ≠ 0) (hr : x.natAbs % y.natAbs ≠ 0) : (x / y).natAbs = x.natAbs / y.natAbs + 1 ∧ x % y = (y.natAbs : Int) - ((x.natAbs % y.natAbs : Nat) : Int) ∧ (x / y < 0 ↔ 0 < y) ∧ x / y ≠ 0 := by
  have h1 := Nat.div_add_mod x.natAbs y.natAbs
  have h2 : x.natAbs % y.natAbs < y.natAbs := Nat.mod_lt _ (by omega)
  generalize x.natAbs / y.natAbs = q at *
  generalize x.natAbs % y.natAbs = r at *
  have hxe : x = -(x.natAbs : Int) := by omega
  have h3 : (x.natAbs : Int) = (y.natAbs : Int) * q + r := by rw [← h1]; simp
  have key : x % y = (y.natAbs : Int) - r ∧ x / y = (if 0 < y then -((q : Int) + 1) else (q : Int) + 1) := by
    by_cases hy2 : 0 < y
    · rw [if_pos hy2]
      have hye : (y.natAbs : Int) = y := by omega
      rw [hye] at h3 ⊢
      have e : x = y * (-((q : Int) + 1)) + (y - r) := by rw [hxe, h3, Int.mul_neg, Int.mul_add]; omega
      have := Int.ediv_emod_unique (a := x) (b := y) (r := y - r) (q := -((q : Int) + 1)) hy2
      have := this.2 ⟨by rw [e]; omega, by omega, by omega⟩
      exact ⟨this.2, this.1⟩
    · rw [if_neg hy2]
      have hye : (y.natAbs : Int) = -y := by omega
      rw [hye] at h3 ⊢
      have e : x = (-y) * (-((q : Int) + 1)) + ((-y) - r) := by rw [hxe, h3, Int.mul_neg, Int.mul_add]; omega
      have := Int.ediv_emod_unique (a := x) (b := -y) (r := -y - r) (q := -((q : Int) + 1)) (by omega)
      have h5 := this.2 ⟨by rw [e]; omega, by omega, by omega⟩
      rw [Int.ediv_neg, Int.emod_neg] at h5
      exact ⟨h5.2, by omega⟩
  obtain ⟨k1, k2⟩ := key
  rw [k1, k2]
  split <;> (refine ⟨?_, rfl, ?_, ?_⟩ <;> omega)
theorem ediv_pos1 {x y : Int} (hy : y ≠ 0) (hr : 0 ≤ x ∨ x.natAbs % y.natAbs = 0) : (x / y).natAbs = x.natAbs / y.natAbs ∧ x % y = ((x.natAbs % y.natAbs : Nat) : Int) ∧ (x / y ≠ 0 → (x / y < 0 ↔ ¬ (x < 0 ↔ y < 0))) := by
  have h1 := Nat.div_add_mod x.natAbs y.natAbs
  have h2 : x.natAbs % y.natAbs < y.natAbs := Nat.mod_lt _ (by omega)
  generalize x.natAbs / y.natAbs = q at *
  generalize x.natAbs % y.natAbs = r at *
  have h3 : (x.natAbs : Int) = (y.natAbs : Int) * q + r := by rw [← h1]; simp
  have key : x % y = r ∧ x / y = (if (x < 0 ↔ y < 0) then (q : Int) else -(q : Int)) := by
    by_cases hx : x < 0
    · have hr0 : r = 0 := by omega
      subst hr0
      have hxe : x = -(x.natAbs : Int) := by omega
      by_cases hy2 : 0 < y
      · rw [if_neg (by omega)]
        have hye : (y.natAbs : Int) = y := by omega
        rw [hye] at h3
        have := (Int.ediv_emod_unique (a := x) (b := y) (r := 0) (q := -(q : Int)) hy2).2 ⟨by rw [Int.mul_neg]; omega, by omega, by omega⟩
        exact ⟨this.2, this.1⟩
      · rw [if_pos (by omega)]
        have hye : (y.natAbs : Int) = -y := by omega
        rw [hye] at h3
        have h5 := (Int.ediv_emod_unique (a := x) (b := -y) (r := 0) (q := -(q : Int)) (by omega)).2 ⟨by rw [Int.mul_neg]; omega, by omega, by omega⟩
        rw [Int.ediv_neg, Int.emod_neg] at h5
        exact ⟨h5.2, by omega⟩
    · have hxe : x = (x.natAbs : Int) := by omega
      by_cases hy2 : 0 < y
      · rw [if_pos (by omega)]
        have hye : (y.natAbs : Int) = y := by omega
        rw [hye] at h3
        have := (Int.ediv_emod_unique (a := x) (b := y) (r := r) (q := (q : Int)) hy2).2 ⟨by omega, by omega, by omega⟩
        exact ⟨this.2, this.1⟩
      · rw [if_neg (by omega)]
        have hye : (y.natAbs : Int) = -y := by omega
        rw [hye] at h3
        have h5 := (Int.ediv_emod_unique (a := x) (b := -y) (r := r) (q := (q : Int)) (by omega)).2 ⟨by omega, by omega, by omega⟩
        rw [Int.ediv_neg, Int.emod_neg] at h5
        exact ⟨h5.2, by omega⟩
  obtain ⟨k1, k2⟩ := key
  rw [k1, k2]
  split
  · rename_i hc; refine ⟨by omega, rfl, fun hq => ?_⟩; omega
  · rename_i hc; refine ⟨by omega, rfl, fun hq => ?_⟩; omega
theorem nabs_gcd (x y : Int) : ((Int.gcd x y : Nat) : Int).natAbs = Int.gcd x y := Int.natAbs_natCast _
theorem nneg_dec (n : Nat) : false = decide ((n : Int) < 0) := (decide_eq_false (Int.not_lt.2 (Int.natCast_nonneg _))).symm
theorem gcd_step {m n : Nat} (h : 0 < n) : Nat.gcd n (m % n) = Nat.gcd m n := by rw [Nat.gcd_comm m n, Nat.gcd_rec n m, Nat.gcd_comm]
set_option maxHeartbeats 4000000 in
set_option maxRecDepth 8000 in
theorem gcd_c (v1 v2 : Value) (x y : Int) (h1 : x.natAbs < B2) (h2 : y.natAbs < B2) : FnB Tryz.prog 121 [v1, v2] [] [isZ v1 x, isZ v2 y] (IsZ ((Int.gcd x y : Nat) : Int)) := by
  refine fn_of [(0, v1), (1, v2)] 59 Tryz.func121 rfl Tryz.ntmps121 (by kernel_rfl) rfl suA fun h0 => ?_
  refine WC.openZ (v := v1) (z := x) hmA fun n1 d1 hv hb1 => ?_
  subst hv
  refine WC.openZ (v := v2) (z := y) hmA fun n2 d2 hv hb2 => ?_
  subst hv
  have hg : Int.gcd x y = Nat.gcd x.natAbs y.natAbs := rfl
  refine WC.fact (sI d1 (digs x.natAbs)) (hasZ_d hmA) ?_
  refine WC.fact (sI d2 (digs y.natAbs)) (hasZ_d hmA) ?_
  have cx := of_c d1 false (digs x.natAbs) (x.natAbs : Int) (digs_Dg _) (by rw [val_digs]; simp) (fun _ => nneg_dec _)
  have cy := of_c d2 false (digs y.natAbs) (y.natAbs : Int) (digs_Dg _) (by rw [val_digs]; simp) (fun _ => nneg_dec _)
  generalize x.natAbs = m at *
  generalize y.natAbs = n at *
  have hm' : m < 1000000000000000000 := h1
  have hn' : n < 1000000000000000000 := h2
  repeat' (first | refine go ?_ | refine goX ?_ | refine goB ?_ | (refine goG ?_; intro g) | (refine goV ?_; intro v))
  refine WC.cutP (σ := Nat × Nat × Nat × Bool × Value × Bool × Value) (fun s => [(5, ptr s.1), (6, ptr s.2.1), (4, ptr s.2.2.1)]) (fun s => [Ow.cells s.2.1 35 [.bool s.2.2.2.2.2.1, s.2.2.2.2.2.2], Ow.cells s.1 35 [.bool s.2.2.2.1, s.2.2.2.2.1], Ow.cells s.2.2.1 35 [.bool false, .slice none 0 0]]) (fun s => [ge h0, isZ (.agg #[.bool s.2.2.2.1, s.2.2.2.2.1]) m, isZ (.agg #[.bool s.2.2.2.2.2.1, s.2.2.2.2.2.2]) n]) (fun _ => True) ?_ ?_
  · repeat' (first | refine go ?_ | refine goX ?_ | refine goB ?_ | (refine goG ?_; intro g) | (refine goV ?_; intro v) | refine goD ?_ | refine goXD ?_ | (refine goDG ?_; intro g) | (refine goDV ?_; intro v) | apply WD.more_of | refine WM.more (by exact rfl) (by exact rfl) (by exact rfl) ?_ ?_ | refine WM.one (by exact rfl) (by exact rfl) (by exact rfl) ?_ | refine WM.more0 (by exact rfl) (by exact rfl) ?_ ?_ | refine WM.one0 (by exact rfl) (by exact rfl) ?_ | (refine goLG ?_; intro g) | (refine goLV ?_; intro v) | refine goLS ?_ | refine d121 ?_ | fail | ((first | refine WL.callK (hv := ?hvQ) (cx) ?_ | refine WD.callK (hv := ?hvQ) (cx) ?_ | refine LO.callM (hv := ?hvQ) (cx) ?_); (case hvQ => ((repeat (first | exact Evs.nil | (apply Evs.cons; exact rfl))); done)); rintro _ _ _ ⟨zb, zd, rfl, zh, rfl, rfl⟩; simp only [List.nil_append, List.cons_append]) | ((first | refine WL.callK (hv := ?hvQ) (cy) ?_ | refine WD.callK (hv := ?hvQ) (cy) ?_ | refine LO.callM (hv := ?hvQ) (cy) ?_); (case hvQ => ((repeat (first | exact Evs.nil | (apply Evs.cons; exact rfl))); done)); rintro _ _ _ ⟨zb, zd, rfl, zh, rfl, rfl⟩; simp only [List.nil_append, List.cons_append]) | fail)
    all_goals (apply Ex7; refine ⟨trivial, ?_, ?_, ?_⟩; (focus (repeat (first | exact Sub.nil _ | refine Sub.cons rfl ?_))); (focus (repeat (first | exact SubP.nil _ | (apply SubP.cons; (repeat (first | exact Rem.head | apply Rem.tail)))))); (focus (repeat (first | exact HasAll.nil | (apply HasAll.cons; exact hsA)))))
  rintro ⟨g5, g6, g4, b1, e1, b2, e2⟩ _
  simp only
  rw [hg]
  refine WC.fact (sI e1 (digs m)) (by simpa using hasZ_d (z := (m : Int)) hmA) ?_
  refine WC.fact (sI e2 (digs n)) (by simpa using hasZ_d (z := (n : Int)) hmA) ?_
  refine WC.openZ (v := .agg #[.bool b1, e1]) (z := (m : Int)) hmA fun b1' e1' hv hbm => ?_
  simp at hv
  obtain ⟨rfl, rfl⟩ := hv
  repeat' (first | refine go ?_ | refine goX ?_ | refine goB ?_ | (refine goG ?_; intro g) | (refine goV ?_; intro v) | refine goD ?_ | refine goXD ?_ | (refine goDG ?_; intro g) | (refine goDV ?_; intro v) | apply WD.more_of | refine WM.more (by exact rfl) (by exact rfl) (by exact rfl) ?_ ?_ | refine WM.one (by exact rfl) (by exact rfl) (by exact rfl) ?_ | refine WM.more0 (by exact rfl) (by exact rfl) ?_ ?_ | refine WM.one0 (by exact rfl) (by exact rfl) ?_ | (refine goLG ?_; intro g) | (refine goLV ?_; intro v) | refine goLS ?_ | refine d121 ?_ | fail)
  refine WC.lp (σ := Unit) (fun _ => [(5, ptr g5), (6, ptr g6), (4, ptr g4)]) (fun _ => [Ow.cells g6 35 [.bool b2, e2], Ow.cells g5 35 [.bool b1, e1], Ow.cells g4 35 [.bool false, .slice none 0 0]]) (fun _ => [sI e2 (digs n), sI e1 (digs m), ge h0, isZ (.agg #[.bool b1, e1]) m, isZ (.agg #[.bool b2, e2]) n]) (fun _ => True) (fun _ => 0) () trivial ?_
  rintro _ _
  by_cases c : n = 0
  · have hl0 : (digs n).length = 0 := digs_len0.2 c
    repeat' (first | refine go ?_ | refine goX ?_ | refine goB ?_ | (refine goG ?_; intro g) | (refine goV ?_; intro v) | refine goD ?_ | refine goXD ?_ | (refine goDG ?_; intro g) | (refine goDV ?_; intro v) | apply WD.more_of | refine WM.more (by exact rfl) (by exact rfl) (by exact rfl) ?_ ?_ | refine WM.one (by exact rfl) (by exact rfl) (by exact rfl) ?_ | refine WM.more0 (by exact rfl) (by exact rfl) ?_ ?_ | refine WM.one0 (by exact rfl) (by exact rfl) ?_ | (refine goLG ?_; intro g) | (refine goLV ?_; intro v) | refine goLS ?_ | refine d121 ?_ | fail)
    rw [c, Nat.gcd_zero_right]
    refine WC.ret ?_
    exact Fin.p [] [isZ (.agg #[.bool b1, e1]) m] (ResE.cV rfl rfl meA T.r35 rfl) meA (List.nil_sublist _) haA ⟨b1, e1, rfl, hbm, rfl, rfl⟩
  · have hl0 : 0 < (digs n).length := by
      have : (digs n).length ≠ 0 := fun h => c (digs_len0.1 h)
      omega
    repeat' (first | refine go ?_ | refine goX ?_ | refine goB ?_ | (refine goG ?_; intro g) | (refine goV ?_; intro v) | refine goD ?_ | refine goXD ?_ | (refine goDG ?_; intro g) | (refine goDV ?_; intro v) | apply WD.more_of | refine WM.more (by exact rfl) (by exact rfl) (by exact rfl) ?_ ?_ | refine WM.one (by exact rfl) (by exact rfl) (by exact rfl) ?_ | refine WM.more0 (by exact rfl) (by exact rfl) ?_ ?_ | refine WM.one0 (by exact rfl) (by exact rfl) ?_ | (refine goLG ?_; intro g) | (refine goLV ?_; intro v) | refine goLS ?_ | refine d121 ?_ | fail)
    first | refine WL.callV (two_c e1 m h1) ?_ | refine WD.callV (two_c e1 m h1) ?_
    repeat' (first | refine go ?_ | refine goX ?_ | refine goB ?_ | (refine goG ?_; intro g) | (refine goV ?_; intro v) | refine goD ?_ | refine goXD ?_ | (refine goDG ?_; intro g) | (refine goDV ?_; intro v) | apply WD.more_of | refine WM.more (by exact rfl) (by exact rfl) (by exact rfl) ?_ ?_ | refine WM.one (by exact rfl) (by exact rfl) (by exact rfl) ?_ | refine WM.more0 (by exact rfl) (by exact rfl) ?_ ?_ | refine WM.one0 (by exact rfl) (by exact rfl) ?_ | (refine goLG ?_; intro g) | (refine goLV ?_; intro v) | refine goLS ?_ | refine d121 ?_ | fail)
    first | refine WL.callV (two_c e2 n h2) ?_ | refine WD.callV (two_c e2 n h2) ?_
    repeat' (first | refine go ?_ | refine goX ?_ | refine goB ?_ | (refine goG ?_; intro g) | (refine goV ?_; intro v) | refine goD ?_ | refine goXD ?_ | (refine goDG ?_; intro g) | (refine goDV ?_; intro v) | apply WD.more_of | refine WM.more (by exact rfl) (by exact rfl) (by exact rfl) ?_ ?_ | refine WM.one (by exact rfl) (by exact rfl) (by exact rfl) ?_ | refine WM.more0 (by exact rfl) (by exact rfl) ?_ ?_ | refine WM.one0 (by exact rfl) (by exact rfl) ?_ | (refine goLG ?_; intro g) | (refine goLV ?_; intro v) | refine goLS ?_ | refine d121 ?_ | fail)
    refine WC.lp (σ := Nat × Nat) (fun s => [(7, .int .i64 (s.1 : Int)), (9, .int .i64 (s.2 : Int)), (4, ptr g4)]) (fun _ => [Ow.cells g4 35 [.bool false, .slice none 0 0]]) (fun _ => [ge h0]) (fun s => s.1 < B2 ∧ s.2 < B2 ∧ Nat.gcd s.1 s.2 = Nat.gcd m n) (fun s => s.2) (m, n) ⟨h1, h2, rfl⟩ ?_
    rintro ⟨p, q⟩ ⟨hp, hq, hpq⟩
    simp only at hp hq hpq ⊢
    have hp' : p < 1000000000000000000 := hp
    have hq' : q < 1000000000000000000 := hq
    by_cases c2 : 0 < q
    · have hr : p % q < q := Nat.mod_lt _ c2
      repeat' (first | refine go ?_ | refine goX ?_ | refine goB ?_ | (refine goG ?_; intro g) | (refine goV ?_; intro v) | refine goD ?_ | refine goXD ?_ | (refine goDG ?_; intro g) | (refine goDV ?_; intro v) | apply WD.more_of | refine WM.more (by exact rfl) (by exact rfl) (by exact rfl) ?_ ?_ | refine WM.one (by exact rfl) (by exact rfl) (by exact rfl) ?_ | refine WM.more0 (by exact rfl) (by exact rfl) ?_ ?_ | refine WM.one0 (by exact rfl) (by exact rfl) ?_ | (refine goLG ?_; intro g) | (refine goLV ?_; intro v) | refine goLS ?_ | refine d121 ?_ | fail)
      exact LoopEnd.mk (q, p % q) ⟨hq, Nat.lt_trans hr hq, by rw [gcd_step c2, hpq]⟩ (by show p % q < q; exact hr) (by rw [show ((p % q : Nat) : Int) = (p : Int) % (q : Int) by simp]; exact suA)
    · obtain rfl : q = 0 := by omega
      rw [Nat.gcd_zero_right] at hpq
      rw [← hpq]
      repeat' (first | refine go ?_ | refine goX ?_ | refine goB ?_ | (refine goG ?_; intro g) | (refine goV ?_; intro v) | refine goD ?_ | refine goXD ?_ | (refine goDG ?_; intro g) | (refine goDV ?_; intro v) | apply WD.more_of | refine WM.more (by exact rfl) (by exact rfl) (by exact rfl) ?_ ?_ | refine WM.one (by exact rfl) (by exact rfl) (by exact rfl) ?_ | refine WM.more0 (by exact rfl) (by exact rfl) ?_ ?_ | refine WM.one0 (by exact rfl) (by exact rfl) ?_ | (refine goLG ?_; intro g) | (refine goLV ?_; intro v) | refine goLS ?_ | refine d121 ?_ | fail)
      first | refine WL.callK (unsigned_c false p (p : Int) (by omega) (Int.natAbs_natCast _) (fun _ => nneg_dec _)) ?_ | refine WD.callK (unsigned_c false p (p : Int) (by omega) (Int.natAbs_natCast _) (fun _ => nneg_dec _)) ?_ | refine LO.callM (unsigned_c false p (p : Int) (by omega) (Int.natAbs_natCast _) (fun _ => nneg_dec _)) ?_
      rintro _ _ _ ⟨nb, d, rfl, hb, rfl, rfl⟩
      simp only [List.nil_append, List.cons_append]
      repeat' (first | refine go ?_ | refine goX ?_ | refine goB ?_ | (refine goG ?_; intro g) | (refine goV ?_; intro v) | refine goD ?_ | refine goXD ?_ | (refine goDG ?_; intro g) | (refine goDV ?_; intro v) | apply WD.more_of | refine WM.more (by exact rfl) (by exact rfl) (by exact rfl) ?_ ?_ | refine WM.one (by exact rfl) (by exact rfl) (by exact rfl) ?_ | refine WM.more0 (by exact rfl) (by exact rfl) ?_ ?_ | refine WM.one0 (by exact rfl) (by exact rfl) ?_ | (refine goLG ?_; intro g) | (refine goLV ?_; intro v) | refine goLS ?_ | refine d121 ?_ | fail)
      refine WC.ret ?_
      exact Fin.p [] [isZ (.agg #[.bool nb, d]) p] (ResE.cV rfl rfl meA T.r35 rfl) meA (List.nil_sublist _) haA ⟨nb, d, rfl, hb, rfl, rfl⟩
end Dvz
end Go.Proofs.YthggloiigkbfeaaGreat
namespace Go.Proofs.YthggloiigkbfeaaGreat
open W Go.RowKit
attribute [local irreducible] WC WL WD YO LO LoopEnd W.Fin Scalar SliceT FieldAt Row ArrT AllocT KnS Has W.One SrcE IntT
theorem d134 {G G' : Prop} (h : G') (s : Bx G' → G := by
  intro h
  first | (apply WC.draw (id := 6) [0, 1, 2, 3, 4, 5, 6, 7, 8] (.held 0 (.held 1 (.held 2 (.held 3 (.held 4 (.held 5 (.held 6 (.held 7 (.held 8 (.done)))))))))) mixed (by kernel_rfl)) | (apply WC.draw (id := 7) [0, 1, 2, 3, 4, 5, 6, 7, 9] (.held 0 (.held 1 (.held 2 (.held 3 (.held 4 (.held 5 (.held 6 (.held 7 (.loud 8 (.held 9 (.done))))))))))) mixed (by kernel_rfl)) | fail
  exact Bx.h h) : G := s ⟨h⟩
set_option maxHeartbeats 4000000 in
set_option maxRecDepth 8000 in
theorem isNaN_c (a : Int) : FnB Tryz.prog 166 [.int .i64 a] [] [] (IsV (.bool false)) := by
  refine fn_of [(0, (.int .i64 a))] 6 Tryz.func166 rfl Tryz.ntmps166 (by kernel_rfl) rfl suA fun h0 => ?_
  repeat' (first | refine go ?_ | refine goX ?_ | refine goB ?_ | (refine goG ?_; intro g) | (refine goV ?_; intro v))
  refine WC.ret ?_
  exact Fin.v (ResE.t1 rfl rfl) meA rfl
set_option maxHeartbeats 4000000 in
set_option maxRecDepth 8000 in
theorem cmpc_c (a b : Int) : FnB Tryz.prog 149 [.int .i64 a, .int .i64 b] [] [] (IsV (.int .i64 (cmpI a b))) := by
  refine fn_of [(0, (.int .i64 a)), (1, (.int .i64 b))] 20 Tryz.func149 rfl Tryz.ntmps149 (by kernel_rfl) rfl suA fun h0 => ?_
  repeat' (first | refine go ?_ | refine goX ?_ | refine goB ?_ | (refine goG ?_; intro g) | (refine goV ?_; intro v))
  first | refine WL.callV (isNaN_c a) ?_ | refine WD.callV (isNaN_c a) ?_
  repeat' (first | refine go ?_ | refine goX ?_ | refine goB ?_ | (refine goG ?_; intro g) | (refine goV ?_; intro v))
  first | refine WL.callV (isNaN_c b) ?_ | refine WD.callV (isNaN_c b) ?_
  by_cases h1 : a < b
  · repeat' (first | refine go ?_ | refine goX ?_ | refine goB ?_ | (refine goG ?_; intro g) | (refine goV ?_; intro v))
    refine WC.ret ?_
    exact Fin.v (ResE.t1 rfl rfl) meA (by rw [cmpI, if_pos h1])
  · by_cases h2 : b < a
    · repeat' (first | refine go ?_ | refine goX ?_ | refine goB ?_ | (refine goG ?_; intro g) | (refine goV ?_; intro v))
      refine WC.ret ?_
      exact Fin.v (ResE.t1 rfl rfl) meA (by rw [cmpI, if_neg h1, if_pos h2])
    · repeat' (first | refine go ?_ | refine goX ?_ | refine goB ?_ | (refine goG ?_; intro g) | (refine goV ?_; intro v))
      refine WC.ret ?_
      exact Fin.v (ResE.t1 rfl rfl) meA (by rw [cmpI, if_neg h1, if_neg h2])
theorem cmpI_lt {m n : Int} (h : m < n) : cmpI m n = -1 := by rw [cmpI, if_pos h]
theorem cmpI_gt {m n : Int} (h : n < m) : cmpI m n = 1 := by rw [cmpI, if_neg (by omega), if_pos h]
set_option maxHeartbeats 4000000 in
set_option maxRecDepth 8000 in
theorem compare_c (u w : Value) (m n : Nat) : FnB Tryz.prog 134 [u, w] [] [sI u (digs m), sI w (digs n)] (IsV (.int .i64 (cmpN m n))) := by
  refine fn_of [(0, u), (1, w)] 41 Tryz.func134 rfl Tryz.ntmps134 (by kernel_rfl) rfl suA fun h0 => ?_
  obtain ⟨a, ha⟩ : ∃ a, digs m = a := ⟨_, rfl⟩
  obtain ⟨b, hb⟩ : ∃ b, digs n = b := ⟨_, rfl⟩
  have hcl := fun hl => @digs_lt_len m n hl
  have hcg := fun hl => @digs_lt_len n m hl
  have hlt := fun k hl => @digs_cmp_lt m n k hl
  have hgt := fun k hl => @digs_cmp_lt n m k hl
  have heq := fun hl => @digs_cmp_eq m n hl
  rw [ha, hb] at *
  refine WC.lenI u a hmA fun hlen => ?_
  refine WC.lenI w b hmA fun hlen2 => ?_
  by_cases c0 : a.length = b.length
  · repeat' (first | refine go ?_ | refine goX ?_ | refine goB ?_ | (refine goG ?_; intro g) | (refine goV ?_; intro v) | refine goD ?_ | refine goXD ?_ | (refine goDG ?_; intro g) | (refine goDV ?_; intro v) | refine d134 ?_ | fail)
    refine WC.lp (σ := Nat) (fun k => [(5, .int .i64 ((k : Int) - 1)), (0, u), (1, w)]) (fun _ => []) (fun _ => [ge h0, sI u a, sI w b]) (fun k => k ≤ a.length ∧ ∀ j, k ≤ j → j < a.length → a.getD j 0 = b.getD j 0) (fun k => k) a.length ⟨Nat.le_refl _, fun j _ _ => by omega⟩ ?_
    rintro k ⟨hk, hs⟩
    by_cases h : 0 < k
    · have e1 : ((k : Int) - 1).toNat = k - 1 := by omega
      by_cases c1 : a.getD (k - 1) 0 = b.getD (k - 1) 0
      · have c1' : a.getD ((k : Int) - 1).toNat 0 = b.getD ((k : Int) - 1).toNat 0 := by rw [e1]; exact c1
        repeat' (first | refine go ?_ | refine goX ?_ | refine goB ?_ | (refine goG ?_; intro g) | (refine goV ?_; intro v) | refine goD ?_ | refine goXD ?_ | (refine goDG ?_; intro g) | (refine goDV ?_; intro v) | refine d134 ?_ | fail)
        exact LoopEnd.mk (k - 1) ⟨by omega, fun j h4 h5 => if hj : j = k - 1 then hj ▸ c1 else hs j (by omega) h5⟩ (by omega) (by rw [show ((k - 1 : Nat) : Int) - 1 = (k : Int) - 1 - 1 by omega]; exact suA)
      · have c1' : a.getD ((k : Int) - 1).toNat 0 ≠ b.getD ((k : Int) - 1).toNat 0 := by rw [e1]; exact c1
        repeat' (first | refine go ?_ | refine goX ?_ | refine goB ?_ | (refine goG ?_; intro g) | (refine goV ?_; intro v) | refine goD ?_ | refine goXD ?_ | (refine goDG ?_; intro g) | (refine goDV ?_; intro v) | refine d134 ?_ | fail)
        first | refine WL.callV (cmpc_c (a.getD ((k : Int) - 1).toNat 0) (b.getD ((k : Int) - 1).toNat 0)) ?_ | refine WD.callV (cmpc_c (a.getD ((k : Int) - 1).toNat 0) (b.getD ((k : Int) - 1).toNat 0)) ?_
        rw [e1]
        have hv : cmpI (a.getD (k - 1) 0) (b.getD (k - 1) 0) = cmpN m n := by
          by_cases c2 : a.getD (k - 1) 0 < b.getD (k - 1) 0
          · rw [cmpI_lt c2, cmpN_lt (hlt (k - 1) c0 (by omega) (fun j h4 h5 => hs j (by omega) h5) c2)]
          · rw [cmpI_gt (by omega), cmpN_gt (hgt (k - 1) c0.symm (by omega) (fun j h4 h5 => (hs j (by omega) (by omega)).symm) (by omega))]
        rw [hv]
        repeat' (first | refine go ?_ | refine goX ?_ | refine goB ?_ | (refine goG ?_; intro g) | (refine goV ?_; intro v) | refine goD ?_ | refine goXD ?_ | (refine goDG ?_; intro g) | (refine goDV ?_; intro v) | refine d134 ?_ | fail)
        refine WC.ret ?_
        exact Fin.v (ResE.t1 rfl rfl) meA rfl
    · obtain rfl : k = 0 := by omega
      have hmn := heq c0 fun j hj => hs j (by omega) hj
      repeat' (first | refine go ?_ | refine goX ?_ | refine goB ?_ | (refine goG ?_; intro g) | (refine goV ?_; intro v) | refine goD ?_ | refine goXD ?_ | (refine goDG ?_; intro g) | (refine goDV ?_; intro v) | refine d134 ?_ | fail)
      refine WC.ret ?_
      exact Fin.v (ResE.t1 rfl rfl) meA (by rw [hmn, cmpN_eq])
  · repeat' (first | refine go ?_ | refine goX ?_ | refine goB ?_ | (refine goG ?_; intro g) | (refine goV ?_; intro v) | refine goD ?_ | refine goXD ?_ | (refine goDG ?_; intro g) | (refine goDV ?_; intro v) | refine d134 ?_ | fail)
    first | refine WL.callV (cmpc_c (a.length : Int) (b.length : Int)) ?_ | refine WD.callV (cmpc_c (a.length : Int) (b.length : Int)) ?_
    have hv : cmpI (a.length : Int) (b.length : Int) = cmpN m n := by
      by_cases c2 : a.length < b.length
      · rw [cmpI_lt (by omega), cmpN_lt (hcl c2)]
      · rw [cmpI_gt (by omega), cmpN_gt (hcg (by omega))]
    rw [hv]
    repeat' (first | refine go ?_ | refine goX ?_ | refine goB ?_ | (refine goG ?_; intro g) | (refine goV ?_; intro v) | refine goD ?_ | refine goXD ?_ | (refine goDG ?_; intro g) | (refine goDV ?_; intro v) | refine d134 ?_ | fail)
    refine WC.ret ?_
    exact Fin.v (ResE.t1 rfl rfl) meA rfl
end Go.Proofs.YthggloiigkbfeaaGreat
namespace Go.Proofs.YthggloiigkbfeaaGreat
open W Go.RowKit
theorem len_pos {n : Nat} (h : n ≠ 0) : 0 < (digs n).length := by
  have : (digs n).length ≠ 0 := fun h2 => h (digs_len0.1 h2)
  omega
theorem Dg.one : Dg [1] := .cons ⟨by decide, by decide⟩ .nil
namespace Dvv
open Dvz
attribute [local irreducible] WC WL WD YO LO LoopEnd W.Fin Scalar SliceT FieldAt Row ArrT AllocT KnS Has W.One SrcE IntT
theorem d123 {G G' : Prop} (h : G') (s : Bx G' → G := by
  intro h
  first | (apply WC.drawR (id := 8) [4] [0, 1] (.held 0 (.held 1 (.loud 2 (.loud 3 (.done))))) mixed (by kernel_rfl); (focus ((repeat (first | exact Rems.nil _ | (apply Rems.cons; exact rfl; (repeat (first | exact Rem.head | apply Rem.tail))))); done))) | fail
  exact Bx.h h) : G := s ⟨h⟩
theorem hasZ_dn {F : List Fct} {a d : Value} {n : Nat} (h : Has F (isZ (.agg #[a, d]) (n : Int))) : Has F (sI d (digs n)) := by simpa using hasZ_d h
set_option maxHeartbeats 8000000 in
set_option maxRecDepth 8000 in
theorem div_c (v1 v2 : Value) (x y : Int) (h1 : x.natAbs < B2) (h2 : y.natAbs < B2) (hy : y ≠ 0) : FnB Tryz.prog 123 [v1, v2] [] [isZ v1 x, isZ v2 y] (IsZZ (x / y) (x % y)) := by
  refine fn_of [(0, v1), (1, v2)] 55 Tryz.func123 rfl Tryz.ntmps123 (by kernel_rfl) rfl suA fun h0 => ?_
  refine WC.openZ (v := v1) (z := x) hmA fun n1 d1 hv hb1 => ?_
  subst hv
  refine WC.openZ (v := v2) (z := y) hmA fun n2 d2 hv hb2 => ?_
  subst hv
  refine WC.fact (sI d1 (digs x.natAbs)) (hasZ_d hmA) ?_
  refine WC.fact (sI d2 (digs y.natAbs)) (hasZ_d hmA) ?_
  have hny : y.natAbs ≠ 0 := by omega
  have h1' : x.natAbs < 1000000000000000000 := h1
  have hly := len_pos hny
  repeat' (first | refine go ?_ | refine goX ?_ | refine goB ?_ | (refine goG ?_; intro g) | (refine goV ?_; intro v) | refine goD ?_ | refine goXD ?_ | (refine goDG ?_; intro g) | (refine goDV ?_; intro v) | refine d123 ?_ | fail)
  refine WL.callK (Dvz.divide_c d1 d2 x.natAbs y.natAbs h1 h2 hny) ?_
  rintro _ _ _ ⟨n3, d3, n4, d4, rfl, hb3, hb4, rfl, rfl⟩
  simp only [List.nil_append, List.cons_append]
  have hr := Nat.mod_lt x.natAbs (show 0 < y.natAbs by omega)
  have hq0 : x.natAbs / y.natAbs ≤ x.natAbs := Nat.div_le_self _ _
  have e1 := @ediv_neg1 x y
  have e2 := @ediv_pos1 x y hy
  generalize hR : x.natAbs % y.natAbs = R at *
  generalize hQ : x.natAbs / y.natAbs = Q at *
  refine WL.fact' (sI d3 (digs Q)) (hasZ_dn hmA) ?_
  refine WL.fact' (sI d4 (digs R)) (hasZ_dn hmA) ?_
  obtain rfl : false = n3 := (hb3.trans (nneg_dec Q).symm).symm
  obtain rfl : false = n4 := (hb4.trans (nneg_dec R).symm).symm
  cases n1 with
  | true =>
    have hx : x < 0 := of_decide_eq_true hb1.symm
    cases n2 with
    | true =>
      have hy2 : y < 0 := of_decide_eq_true hb2.symm
      by_cases hr0 : R = 0
      · have hlr0 : (digs R).length = 0 := digs_len0.2 hr0
        obtain ⟨hqa, hra, hsg⟩ := e2 (.inr hr0)
        have hq1 := fun h => len_pos (n := Q) h
        have hlr : True := trivial
        by_cases hq : Q = 0
        · have hlq : (digs Q).length = 0 := digs_len0.2 hq
          have hz : x / y = 0 := by omega
          repeat' (first | refine go ?_ | refine goX ?_ | refine goB ?_ | (refine goG ?_; intro g) | (refine goV ?_; intro v) | refine goD ?_ | refine goXD ?_ | (refine goDG ?_; intro g) | (refine goDV ?_; intro v) | refine d123 ?_ | fail)
          rw [← hra] at hb4 ⊢
          refine WC.fact (isZ (.agg #[.bool false, d3]) (x / y)) (hasZ_of (by rw [eq_comm]; simp only [decide_eq_true_eq, decide_eq_false_iff_not]; omega) (by rw [hqa]; exact hasZ_dn hmA)) ?_
          refine WC.ret ?_
          exact Fin.p [] [isZ (.agg #[.bool false, d3]) (x / y), isZ (.agg #[.bool false, d4]) (x % y)] (ResE.cc rfl rfl rfl meA meA T.r35 rfl T.r35 rfl) meA (List.nil_sublist _) haA ⟨false, d3, false, d4, rfl, (by rw [eq_comm]; simp only [decide_eq_true_eq, decide_eq_false_iff_not]; omega), hb4, rfl, rfl⟩
        · have hlq := hq1 hq
          have hsg := hsg (by omega)
          repeat' (first | refine go ?_ | refine goX ?_ | refine goB ?_ | (refine goG ?_; intro g) | (refine goV ?_; intro v) | refine goD ?_ | refine goXD ?_ | (refine goDG ?_; intro g) | (refine goDV ?_; intro v) | refine d123 ?_ | fail)
          rw [← hra] at hb4 ⊢
          refine WC.fact (isZ (.agg #[.bool false, d3]) (x / y)) (hasZ_of (by rw [eq_comm]; simp only [decide_eq_true_eq, decide_eq_false_iff_not]; omega) (by rw [hqa]; exact hasZ_dn hmA)) ?_
          refine WC.ret ?_
          exact Fin.p [] [isZ (.agg #[.bool false, d3]) (x / y), isZ (.agg #[.bool false, d4]) (x % y)] (ResE.cc rfl rfl rfl meA meA T.r35 rfl T.r35 rfl) meA (List.nil_sublist _) haA ⟨false, d3, false, d4, rfl, (by rw [eq_comm]; simp only [decide_eq_true_eq, decide_eq_false_iff_not]; omega), hb4, rfl, rfl⟩
      · have hlr0 := len_pos hr0
        obtain ⟨hqa, hra, hsg, hqne⟩ := e1 hx hy hr0
        repeat' (first | refine go ?_ | refine goX ?_ | refine goB ?_ | (refine goG ?_; intro g) | (refine goV ?_; intro v) | refine goD ?_ | refine goXD ?_ | (refine goDG ?_; intro g) | (refine goDV ?_; intro v) | refine d123 ?_ | fail)
        refine WL.freezeI (l := [1]) (v := v) (el := 3) (by repeat (first | exact Sel.head | apply Sel.tail)) ?_
        revert v; intro v1
        refine WL.callK (plus_c d3 v1 (digs Q) [1] (digs_Dg _) .one (Nat.le_trans (digs_len_le (k := 2) (by omega)) (by decide)) (by decide)) ?_
        rintro v2 _ _ ⟨l2, rfl, rfl, hd2, hv2, hl2⟩
        simp only [List.nil_append, List.cons_append]
        first | refine WL.callK (of_c v2 false l2 ((Q + 1 : Nat) : Int) hd2 (by rw [hv2, val_digs]; show ((Q + 1 : Nat) : Int).natAbs = ((Q : Int) + (1 + 1000000000 * 0)).toNat; omega) (fun _ => nneg_dec _)) ?_ | refine WD.callK (of_c v2 false l2 ((Q + 1 : Nat) : Int) hd2 (by rw [hv2, val_digs]; show ((Q + 1 : Nat) : Int).natAbs = ((Q : Int) + (1 + 1000000000 * 0)).toNat; omega) (fun _ => nneg_dec _)) ?_ | refine LO.callM (of_c v2 false l2 ((Q + 1 : Nat) : Int) hd2 (by rw [hv2, val_digs]; show ((Q + 1 : Nat) : Int).natAbs = ((Q : Int) + (1 + 1000000000 * 0)).toNat; omega) (fun _ => nneg_dec _)) ?_
        rintro _ _ _ ⟨n5, d5, rfl, hb5, rfl, rfl⟩
        simp only [List.nil_append, List.cons_append]
        repeat' (first | refine go ?_ | refine goX ?_ | refine goB ?_ | (refine goG ?_; intro g) | (refine goV ?_; intro v) | refine goD ?_ | refine goXD ?_ | (refine goDG ?_; intro g) | (refine goDV ?_; intro v) | refine d123 ?_ | fail)
        have hlen : (digs R).length ≤ (digs y.natAbs).length := Nat.le_of_not_lt fun h => by have := digs_lt_len h; omega
        refine WL.callK (Mns.minus_c d2 d4 (digs y.natAbs) (digs R) (digs_Dg _) (digs_Dg _) (abs_len h2) hlen hly (by rw [val_digs, val_digs]; omega)) ?_
        rintro v3 _ _ ⟨l3, rfl, rfl, hd3, hv3, hl3⟩
        simp only [List.nil_append, List.cons_append]
        first | refine WL.callK (of_c v3 false l3 (x % y) hd3 (by rw [hv3, hra, val_digs, val_digs]; omega) (fun _ => by rw [hra]; exact (decide_eq_false (by omega)).symm)) ?_ | refine WD.callK (of_c v3 false l3 (x % y) hd3 (by rw [hv3, hra, val_digs, val_digs]; omega) (fun _ => by rw [hra]; exact (decide_eq_false (by omega)).symm)) ?_ | refine LO.callM (of_c v3 false l3 (x % y) hd3 (by rw [hv3, hra, val_digs, val_digs]; omega) (fun _ => by rw [hra]; exact (decide_eq_false (by omega)).symm)) ?_
        rintro _ _ _ ⟨n4, d6, rfl, hb4, rfl, rfl⟩
        simp only [List.nil_append, List.cons_append]
        obtain rfl : false = n5 := (hb5.trans (nneg_dec _).symm).symm
        have hlq : 0 < (digs (Q + 1)).length := len_pos (by omega)
        have hlq2 : 0 < (digs ((Q + 1 : Nat) : Int).natAbs).length := hlq
        repeat' (first | refine go ?_ | refine goX ?_ | refine goB ?_ | (refine goG ?_; intro g) | (refine goV ?_; intro v) | refine goD ?_ | refine goXD ?_ | (refine goDG ?_; intro g) | (refine goDV ?_; intro v) | refine d123 ?_ | fail)
        refine WC.fact (isZ (.agg #[.bool false, d5]) (x / y)) (hasZ_of (by rw [eq_comm]; simp only [decide_eq_true_eq, decide_eq_false_iff_not]; omega) (by rw [hqa]; exact hasZ_dn hmA)) ?_
        refine WC.ret ?_
        exact Fin.p [] [isZ (.agg #[.bool false, d5]) (x / y), isZ (.agg #[.bool n4, d6]) (x % y)] (ResE.cc rfl rfl rfl meA meA T.r35 rfl T.r35 rfl) meA (List.nil_sublist _) haA ⟨false, d5, n4, d6, rfl, (by rw [eq_comm]; simp only [decide_eq_true_eq, decide_eq_false_iff_not]; omega), hb4, rfl, rfl⟩
    | false =>
      have hy2 : ¬ y < 0 := of_decide_eq_false hb2.symm
      by_cases hr0 : R = 0
      · have hlr0 : (digs R).length = 0 := digs_len0.2 hr0
        obtain ⟨hqa, hra, hsg⟩ := e2 (.inr hr0)
        have hq1 := fun h => len_pos (n := Q) h
        have hlr : True := trivial
        by_cases hq : Q = 0
        · have hlq : (digs Q).length = 0 := digs_len0.2 hq
          have hz : x / y = 0 := by omega
          repeat' (first | refine go ?_ | refine goX ?_ | refine goB ?_ | (refine goG ?_; intro g) | (refine goV ?_; intro v) | refine goD ?_ | refine goXD ?_ | (refine goDG ?_; intro g) | (refine goDV ?_; intro v) | refine d123 ?_ | fail)
          rw [← hra] at hb4 ⊢
          refine WC.fact (isZ (.agg #[.bool false, d3]) (x / y)) (hasZ_of (by rw [eq_comm]; simp only [decide_eq_true_eq, decide_eq_false_iff_not]; omega) (by rw [hqa]; exact hasZ_dn hmA)) ?_
          refine WC.ret ?_
          exact Fin.p [] [isZ (.agg #[.bool false, d3]) (x / y), isZ (.agg #[.bool false, d4]) (x % y)] (ResE.cc rfl rfl rfl meA meA T.r35 rfl T.r35 rfl) meA (List.nil_sublist _) haA ⟨false, d3, false, d4, rfl, (by rw [eq_comm]; simp only [decide_eq_true_eq, decide_eq_false_iff_not]; omega), hb4, rfl, rfl⟩
        · have hlq := hq1 hq
          have hsg := hsg (by omega)
          repeat' (first | refine go ?_ | refine goX ?_ | refine goB ?_ | (refine goG ?_; intro g) | (refine goV ?_; intro v) | refine goD ?_ | refine goXD ?_ | (refine goDG ?_; intro g) | (refine goDV ?_; intro v) | refine d123 ?_ | fail)
          rw [← hra] at hb4 ⊢
          refine WC.fact (isZ (.agg #[.bool true, d3]) (x / y)) (hasZ_of (by rw [eq_comm]; simp only [decide_eq_true_eq, decide_eq_false_iff_not]; omega) (by rw [hqa]; exact hasZ_dn hmA)) ?_
          refine WC.ret ?_
          exact Fin.p [] [isZ (.agg #[.bool true, d3]) (x / y), isZ (.agg #[.bool false, d4]) (x % y)] (ResE.cc rfl rfl rfl meA meA T.r35 rfl T.r35 rfl) meA (List.nil_sublist _) haA ⟨true, d3, false, d4, rfl, (by rw [eq_comm]; simp only [decide_eq_true_eq, decide_eq_false_iff_not]; omega), hb4, rfl, rfl⟩
      · have hlr0 := len_pos hr0
        obtain ⟨hqa, hra, hsg, hqne⟩ := e1 hx hy hr0
        repeat' (first | refine go ?_ | refine goX ?_ | refine goB ?_ | (refine goG ?_; intro g) | (refine goV ?_; intro v) | refine goD ?_ | refine goXD ?_ | (refine goDG ?_; intro g) | (refine goDV ?_; intro v) | refine d123 ?_ | fail)
        refine WL.freezeI (l := [1]) (v := v) (el := 3) (by repeat (first | exact Sel.head | apply Sel.tail)) ?_
        revert v; intro v1
        refine WL.callK (plus_c d3 v1 (digs Q) [1] (digs_Dg _) .one (Nat.le_trans (digs_len_le (k := 2) (by omega)) (by decide)) (by decide)) ?_
        rintro v2 _ _ ⟨l2, rfl, rfl, hd2, hv2, hl2⟩
        simp only [List.nil_append, List.cons_append]
        first | refine WL.callK (of_c v2 false l2 ((Q + 1 : Nat) : Int) hd2 (by rw [hv2, val_digs]; show ((Q + 1 : Nat) : Int).natAbs = ((Q : Int) + (1 + 1000000000 * 0)).toNat; omega) (fun _ => nneg_dec _)) ?_ | refine WD.callK (of_c v2 false l2 ((Q + 1 : Nat) : Int) hd2 (by rw [hv2, val_digs]; show ((Q + 1 : Nat) : Int).natAbs = ((Q : Int) + (1 + 1000000000 * 0)).toNat; omega) (fun _ => nneg_dec _)) ?_ | refine LO.callM (of_c v2 false l2 ((Q + 1 : Nat) : Int) hd2 (by rw [hv2, val_digs]; show ((Q + 1 : Nat) : Int).natAbs = ((Q : Int) + (1 + 1000000000 * 0)).toNat; omega) (fun _ => nneg_dec _)) ?_
        rintro _ _ _ ⟨n5, d5, rfl, hb5, rfl, rfl⟩
        simp only [List.nil_append, List.cons_append]
        repeat' (first | refine go ?_ | refine goX ?_ | refine goB ?_ | (refine goG ?_; intro g) | (refine goV ?_; intro v) | refine goD ?_ | refine goXD ?_ | (refine goDG ?_; intro g) | (refine goDV ?_; intro v) | refine d123 ?_ | fail)
        have hlen : (digs R).length ≤ (digs y.natAbs).length := Nat.le_of_not_lt fun h => by have := digs_lt_len h; omega
        refine WL.callK (Mns.minus_c d2 d4 (digs y.natAbs) (digs R) (digs_Dg _) (digs_Dg _) (abs_len h2) hlen hly (by rw [val_digs, val_digs]; omega)) ?_
        rintro v3 _ _ ⟨l3, rfl, rfl, hd3, hv3, hl3⟩
        simp only [List.nil_append, List.cons_append]
        first | refine WL.callK (of_c v3 false l3 (x % y) hd3 (by rw [hv3, hra, val_digs, val_digs]; omega) (fun _ => by rw [hra]; exact (decide_eq_false (by omega)).symm)) ?_ | refine WD.callK (of_c v3 false l3 (x % y) hd3 (by rw [hv3, hra, val_digs, val_digs]; omega) (fun _ => by rw [hra]; exact (decide_eq_false (by omega)).symm)) ?_ | refine LO.callM (of_c v3 false l3 (x % y) hd3 (by rw [hv3, hra, val_digs, val_digs]; omega) (fun _ => by rw [hra]; exact (decide_eq_false (by omega)).symm)) ?_
        rintro _ _ _ ⟨n4, d6, rfl, hb4, rfl, rfl⟩
        simp only [List.nil_append, List.cons_append]
        obtain rfl : false = n5 := (hb5.trans (nneg_dec _).symm).symm
        have hlq : 0 < (digs (Q + 1)).length := len_pos (by omega)
        have hlq2 : 0 < (digs ((Q + 1 : Nat) : Int).natAbs).length := hlq
        repeat' (first | refine go ?_ | refine goX ?_ | refine goB ?_ | (refine goG ?_; intro g) | (refine goV ?_; intro v) | refine goD ?_ | refine goXD ?_ | (refine goDG ?_; intro g) | (refine goDV ?_; intro v) | refine d123 ?_ | fail)
        refine WC.fact (isZ (.agg #[.bool true, d5]) (x / y)) (hasZ_of (by rw [eq_comm]; simp only [decide_eq_true_eq, decide_eq_false_iff_not]; omega) (by rw [hqa]; exact hasZ_dn hmA)) ?_
        refine WC.ret ?_
        exact Fin.p [] [isZ (.agg #[.bool true, d5]) (x / y), isZ (.agg #[.bool n4, d6]) (x % y)] (ResE.cc rfl rfl rfl meA meA T.r35 rfl T.r35 rfl) meA (List.nil_sublist _) haA ⟨true, d5, n4, d6, rfl, (by rw [eq_comm]; simp only [decide_eq_true_eq, decide_eq_false_iff_not]; omega), hb4, rfl, rfl⟩
  | false =>
    have hx : ¬ x < 0 := of_decide_eq_false hb1.symm
    cases n2 with
    | true =>
      have hy2 : y < 0 := of_decide_eq_true hb2.symm
      obtain ⟨hqa, hra, hsg⟩ := e2 (.inl (by omega))
      have hq1 := fun h => len_pos (n := Q) h
      have hlr : True := trivial
      by_cases hq : Q = 0
      · have hlq : (digs Q).length = 0 := digs_len0.2 hq
        have hz : x / y = 0 := by omega
        repeat' (first | refine go ?_ | refine goX ?_ | refine goB ?_ | (refine goG ?_; intro g) | (refine goV ?_; intro v) | refine goD ?_ | refine goXD ?_ | (refine goDG ?_; intro g) | (refine goDV ?_; intro v) | refine d123 ?_ | fail)
        rw [← hra] at hb4 ⊢
        refine WC.fact (isZ (.agg #[.bool false, d3]) (x / y)) (hasZ_of (by rw [eq_comm]; simp only [decide_eq_true_eq, decide_eq_false_iff_not]; omega) (by rw [hqa]; exact hasZ_dn hmA)) ?_
        refine WC.ret ?_
        exact Fin.p [] [isZ (.agg #[.bool false, d3]) (x / y), isZ (.agg #[.bool false, d4]) (x % y)] (ResE.cc rfl rfl rfl meA meA T.r35 rfl T.r35 rfl) meA (List.nil_sublist _) haA ⟨false, d3, false, d4, rfl, (by rw [eq_comm]; simp only [decide_eq_true_eq, decide_eq_false_iff_not]; omega), hb4, rfl, rfl⟩
      · have hlq := hq1 hq
        have hsg := hsg (by omega)
        repeat' (first | refine go ?_ | refine goX ?_ | refine goB ?_ | (refine goG ?_; intro g) | (refine goV ?_; intro v) | refine goD ?_ | refine goXD ?_ | (refine goDG ?_; intro g) | (refine goDV ?_; intro v) | refine d123 ?_ | fail)
        rw [← hra] at hb4 ⊢
        refine WC.fact (isZ (.agg #[.bool true, d3]) (x / y)) (hasZ_of (by rw [eq_comm]; simp only [decide_eq_true_eq, decide_eq_false_iff_not]; omega) (by rw [hqa]; exact hasZ_dn hmA)) ?_
        refine WC.ret ?_
        exact Fin.p [] [isZ (.agg #[.bool true, d3]) (x / y), isZ (.agg #[.bool false, d4]) (x % y)] (ResE.cc rfl rfl rfl meA meA T.r35 rfl T.r35 rfl) meA (List.nil_sublist _) haA ⟨true, d3, false, d4, rfl, (by rw [eq_comm]; simp only [decide_eq_true_eq, decide_eq_false_iff_not]; omega), hb4, rfl, rfl⟩
    | false =>
      have hy2 : ¬ y < 0 := of_decide_eq_false hb2.symm
      obtain ⟨hqa, hra, hsg⟩ := e2 (.inl (by omega))
      have hq1 := fun h => len_pos (n := Q) h
      have hlr : True := trivial
      by_cases hq : Q = 0
      · have hlq : (digs Q).length = 0 := digs_len0.2 hq
        have hz : x / y = 0 := by omega
        repeat' (first | refine go ?_ | refine goX ?_ | refine goB ?_ | (refine goG ?_; intro g) | (refine goV ?_; intro v) | refine goD ?_ | refine goXD ?_ | (refine goDG ?_; intro g) | (refine goDV ?_; intro v) | refine d123 ?_ | fail)
        rw [← hra] at hb4 ⊢
        refine WC.fact (isZ (.agg #[.bool false, d3]) (x / y)) (hasZ_of (by rw [eq_comm]; simp only [decide_eq_true_eq, decide_eq_false_iff_not]; omega) (by rw [hqa]; exact hasZ_dn hmA)) ?_
        refine WC.ret ?_
        exact Fin.p [] [isZ (.agg #[.bool false, d3]) (x / y), isZ (.agg #[.bool false, d4]) (x % y)] (ResE.cc rfl rfl rfl meA meA T.r35 rfl T.r35 rfl) meA (List.nil_sublist _) haA ⟨false, d3, false, d4, rfl, (by rw [eq_comm]; simp only [decide_eq_true_eq, decide_eq_false_iff_not]; omega), hb4, rfl, rfl⟩
      · have hlq := hq1 hq
        have hsg := hsg (by omega)
        repeat' (first | refine go ?_ | refine goX ?_ | refine goB ?_ | (refine goG ?_; intro g) | (refine goV ?_; intro v) | refine goD ?_ | refine goXD ?_ | (refine goDG ?_; intro g) | (refine goDV ?_; intro v) | refine d123 ?_ | fail)
        rw [← hra] at hb4 ⊢
        refine WC.fact (isZ (.agg #[.bool false, d3]) (x / y)) (hasZ_of (by rw [eq_comm]; simp only [decide_eq_true_eq, decide_eq_false_iff_not]; omega) (by rw [hqa]; exact hasZ_dn hmA)) ?_
        refine WC.ret ?_
        exact Fin.p [] [isZ (.agg #[.bool false, d3]) (x / y), isZ (.agg #[.bool false, d4]) (x % y)] (ResE.cc rfl rfl rfl meA meA T.r35 rfl T.r35 rfl) meA (List.nil_sublist _) haA ⟨false, d3, false, d4, rfl, (by rw [eq_comm]; simp only [decide_eq_true_eq, decide_eq_false_iff_not]; omega), hb4, rfl, rfl⟩
end Dvv
end Go.Proofs.YthggloiigkbfeaaGreat
namespace Go.Proofs.YthggloiigkbfeaaGreat
open W Go.RowKit
theorem cmpI_pp {x y : Int} (hx : ¬ x < 0) (hy : ¬ y < 0) : cmpN x.natAbs y.natAbs = cmpI x y := by
  unfold cmpN cmpI; split <;> split <;> first | rfl | (split <;> first | rfl | omega) | omega
theorem cmpI_nn {x y : Int} (hx : x < 0) (hy : y < 0) : cmpN y.natAbs x.natAbs = cmpI x y := by
  unfold cmpN cmpI; split <;> split <;> first | rfl | (split <;> first | rfl | omega) | omega
namespace Adc
attribute [local irreducible] WC WL WD YO LO LoopEnd W.Fin Scalar SliceT FieldAt Row ArrT AllocT KnS Has W.One SrcE IntT
theorem d82 {G G' : Prop} (h : G') (s : Bx G' → G := by
  intro h
  first | (apply WC.draw (id := 2) [0, 1, 2, 3, 4, 5] (.held 0 (.held 1 (.held 2 (.held 3 (.held 4 (.held 5 (.loud 6 (.loud 7 (.loud 8 (.done)))))))))) mixed (by kernel_rfl)) | (apply WC.draw (id := 4) [0, 1, 2, 3, 4, 5] (.held 0 (.held 1 (.held 2 (.held 3 (.held 4 (.held 5 (.loud 6 (.loud 7 (.loud 8 (.done)))))))))) mixed (by kernel_rfl)) | (apply WC.draw (id := 5) [0, 1, 2, 3, 4, 5] (.held 0 (.held 1 (.held 2 (.held 3 (.held 4 (.held 5 (.loud 6 (.loud 7 (.loud 8 (.done)))))))))) mixed (by kernel_rfl)) | fail
  exact Bx.h h) : G := s ⟨h⟩
set_option maxHeartbeats 4000000 in
set_option maxRecDepth 8000 in
theorem icompare_c (v1 v2 : Value) (x y : Int) : FnB Tryz.prog 85 [v1, v2] [] [isZ v1 x, isZ v2 y] (IsV (.int .i64 (cmpI x y))) := by
  refine fn_of [(0, v1), (1, v2)] 34 Tryz.func85 rfl Tryz.ntmps85 (by kernel_rfl) rfl suA fun h0 => ?_
  refine WC.openZ (v := v1) (z := x) hmA fun n1 d1 hv hb1 => ?_
  subst hv
  refine WC.openZ (v := v2) (z := y) hmA fun n2 d2 hv hb2 => ?_
  subst hv
  refine WC.fact (sI d1 (digs x.natAbs)) (hasZ_d hmA) ?_
  refine WC.fact (sI d2 (digs y.natAbs)) (hasZ_d hmA) ?_
  cases n1 with
  | true =>
    have hx : x < 0 := of_decide_eq_true hb1.symm
    cases n2 with
    | true =>
      have hy : y < 0 := of_decide_eq_true hb2.symm
      repeat' (first | refine go ?_ | refine goX ?_ | refine goB ?_ | (refine goG ?_; intro g) | (refine goV ?_; intro v))
      first | refine WL.callV (compare_c d2 d1 y.natAbs x.natAbs) ?_ | refine WD.callV (compare_c d2 d1 y.natAbs x.natAbs) ?_
      rw [cmpI_nn hx hy]
      repeat' (first | refine go ?_ | refine goX ?_ | refine goB ?_ | (refine goG ?_; intro g) | (refine goV ?_; intro v))
      refine WC.ret ?_
      exact Fin.v (ResE.t1 rfl rfl) meA rfl
    | false =>
      have hy : ¬ y < 0 := of_decide_eq_false hb2.symm
      repeat' (first | refine go ?_ | refine goX ?_ | refine goB ?_ | (refine goG ?_; intro g) | (refine goV ?_; intro v))
      refine WC.ret ?_
      exact Fin.v (ResE.t1 rfl rfl) meA (by rw [cmpI_lt (by omega)])
  | false =>
    have hx : ¬ x < 0 := of_decide_eq_false hb1.symm
    cases n2 with
    | true =>
      have hy : y < 0 := of_decide_eq_true hb2.symm
      repeat' (first | refine go ?_ | refine goX ?_ | refine goB ?_ | (refine goG ?_; intro g) | (refine goV ?_; intro v))
      refine WC.ret ?_
      exact Fin.v (ResE.t1 rfl rfl) meA (by rw [cmpI_gt (by omega)])
    | false =>
      have hy : ¬ y < 0 := of_decide_eq_false hb2.symm
      repeat' (first | refine go ?_ | refine goX ?_ | refine goB ?_ | (refine goG ?_; intro g) | (refine goV ?_; intro v))
      first | refine WL.callV (compare_c d1 d2 x.natAbs y.natAbs) ?_ | refine WD.callV (compare_c d1 d2 x.natAbs y.natAbs) ?_
      rw [cmpI_pp hx hy]
      repeat' (first | refine go ?_ | refine goX ?_ | refine goB ?_ | (refine goG ?_; intro g) | (refine goV ?_; intro v))
      refine WC.ret ?_
      exact Fin.v (ResE.t1 rfl rfl) meA rfl
set_option maxHeartbeats 4000000 in
set_option maxRecDepth 8000 in
theorem add_c (v1 v2 : Value) (x y : Int) (h1 : (digs x.natAbs).length ≤ 1000000000) (h2 : (digs y.natAbs).length ≤ 1000000000) : FnB Tryz.prog 82 [v1, v2] [] [isZ v1 x, isZ v2 y] (IsZ (x + y)) := by
  refine fn_of [(0, v1), (1, v2)] 42 Tryz.func82 rfl Tryz.ntmps82 (by kernel_rfl) rfl suA fun h0 => ?_
  refine WC.openZ (v := v1) (z := x) hmA fun n1 d1 hv hb1 => ?_
  subst hv
  refine WC.openZ (v := v2) (z := y) hmA fun n2 d2 hv hb2 => ?_
  subst hv
  refine WC.fact (sI d1 (digs x.natAbs)) (hasZ_d hmA) ?_
  refine WC.fact (sI d2 (digs y.natAbs)) (hasZ_d hmA) ?_
  cases n1 with
  | true =>
    have hx : x < 0 := of_decide_eq_true hb1.symm
    cases n2 with
    | true =>
      have hy : y < 0 := of_decide_eq_true hb2.symm
      repeat' (first | refine go ?_ | refine goX ?_ | refine goB ?_ | (refine goG ?_; intro g) | (refine goV ?_; intro v) | refine goD ?_ | refine goXD ?_ | (refine goDG ?_; intro g) | (refine goDV ?_; intro v) | refine d82 ?_ | fail)
      first | refine WL.callK (plus_c d1 d2 (digs x.natAbs) (digs y.natAbs) (digs_Dg _) (digs_Dg _) h1 h2) ?_ | refine WD.callK (plus_c d1 d2 (digs x.natAbs) (digs y.natAbs) (digs_Dg _) (digs_Dg _) h1 h2) ?_ | refine LO.callM (plus_c d1 d2 (digs x.natAbs) (digs y.natAbs) (digs_Dg _) (digs_Dg _) h1 h2) ?_
      rintro u _ _ ⟨l, rfl, rfl, hd, hv, hl⟩
      simp only [List.nil_append, List.cons_append]
      rw [val_digs, val_digs] at hv
      repeat' (first | refine go ?_ | refine goX ?_ | refine goB ?_ | (refine goG ?_; intro g) | (refine goV ?_; intro v) | refine goD ?_ | refine goXD ?_ | (refine goDG ?_; intro g) | (refine goDV ?_; intro v) | refine d82 ?_ | fail)
      first | refine WL.callK (of_c u true l (x + y) hd (by rw [hv]; omega) (fun _ => by rw [eq_comm, decide_eq_true_eq]; omega)) ?_ | refine WD.callK (of_c u true l (x + y) hd (by rw [hv]; omega) (fun _ => by rw [eq_comm, decide_eq_true_eq]; omega)) ?_ | refine LO.callM (of_c u true l (x + y) hd (by rw [hv]; omega) (fun _ => by rw [eq_comm, decide_eq_true_eq]; omega)) ?_
      rintro _ _ _ ⟨nb, d, rfl, hb, rfl, rfl⟩
      simp only [List.nil_append, List.cons_append]
      repeat' (first | refine go ?_ | refine goX ?_ | refine goB ?_ | (refine goG ?_; intro g) | (refine goV ?_; intro v) | refine goD ?_ | refine goXD ?_ | (refine goDG ?_; intro g) | (refine goDV ?_; intro v) | refine d82 ?_ | fail)
      refine WC.ret ?_
      exact Fin.p [] [isZ (.agg #[.bool nb, d]) (x + y)] (ResE.cV rfl rfl meA T.r35 rfl) meA (List.nil_sublist _) haA ⟨nb, _, rfl, hb, rfl, rfl⟩
    | false =>
      have hy : ¬ y < 0 := of_decide_eq_false hb2.symm
      repeat' (first | refine go ?_ | refine goX ?_ | refine goB ?_ | (refine goG ?_; intro g) | (refine goV ?_; intro v) | refine goD ?_ | refine goXD ?_ | (refine goDG ?_; intro g) | (refine goDV ?_; intro v) | refine d82 ?_ | fail)
      first | refine WL.callV (compare_c d1 d2 x.natAbs y.natAbs) ?_ | refine WD.callV (compare_c d1 d2 x.natAbs y.natAbs) ?_
      by_cases c : x.natAbs < y.natAbs
      · rw [cmpN_lt c]
        have hlen : (digs x.natAbs).length ≤ (digs y.natAbs).length := Nat.le_of_not_lt fun h => by have := digs_lt_len h; omega
        repeat' (first | refine go ?_ | refine goX ?_ | refine goB ?_ | (refine goG ?_; intro g) | (refine goV ?_; intro v) | refine goD ?_ | refine goXD ?_ | (refine goDG ?_; intro g) | (refine goDV ?_; intro v) | refine d82 ?_ | fail)
        first | refine WL.callK (Mns.minus_c d2 d1 (digs y.natAbs) (digs x.natAbs) (digs_Dg _) (digs_Dg _) h2 hlen (len_pos (by omega)) (by rw [val_digs, val_digs]; omega)) ?_ | refine WD.callK (Mns.minus_c d2 d1 (digs y.natAbs) (digs x.natAbs) (digs_Dg _) (digs_Dg _) h2 hlen (len_pos (by omega)) (by rw [val_digs, val_digs]; omega)) ?_ | refine LO.callM (Mns.minus_c d2 d1 (digs y.natAbs) (digs x.natAbs) (digs_Dg _) (digs_Dg _) h2 hlen (len_pos (by omega)) (by rw [val_digs, val_digs]; omega)) ?_
        rintro u _ _ ⟨l, rfl, rfl, hd, hv, hl⟩
        simp only [List.nil_append, List.cons_append]
        rw [val_digs, val_digs] at hv
        repeat' (first | refine go ?_ | refine goX ?_ | refine goB ?_ | (refine goG ?_; intro g) | (refine goV ?_; intro v) | refine goD ?_ | refine goXD ?_ | (refine goDG ?_; intro g) | (refine goDV ?_; intro v) | refine d82 ?_ | fail)
        first | refine WL.callK (of_c u false l (x + y) hd (by rw [hv]; omega) (fun _ => by rw [eq_comm, decide_eq_false_iff_not]; omega)) ?_ | refine WD.callK (of_c u false l (x + y) hd (by rw [hv]; omega) (fun _ => by rw [eq_comm, decide_eq_false_iff_not]; omega)) ?_ | refine LO.callM (of_c u false l (x + y) hd (by rw [hv]; omega) (fun _ => by rw [eq_comm, decide_eq_false_iff_not]; omega)) ?_
        rintro _ _ _ ⟨nb, d, rfl, hb, rfl, rfl⟩
        simp only [List.nil_append, List.cons_append]
        repeat' (first | refine go ?_ | refine goX ?_ | refine goB ?_ | (refine goG ?_; intro g) | (refine goV ?_; intro v) | refine goD ?_ | refine goXD ?_ | (refine goDG ?_; intro g) | (refine goDV ?_; intro v) | refine d82 ?_ | fail)
        refine WC.ret ?_
        exact Fin.p [] [isZ (.agg #[.bool nb, d]) (x + y)] (ResE.cV rfl rfl meA T.r35 rfl) meA (List.nil_sublist _) haA ⟨nb, _, rfl, hb, rfl, rfl⟩
      · have hc0 : cmpN x.natAbs y.natAbs = 0 ∨ cmpN x.natAbs y.natAbs = 1 := by
          by_cases c2 : y.natAbs < x.natAbs
          · exact .inr (cmpN_gt c2)
          · rw [show x.natAbs = y.natAbs by omega]; exact .inl (cmpN_eq _)
        have hlen : (digs y.natAbs).length ≤ (digs x.natAbs).length := Nat.le_of_not_lt fun h => by have := digs_lt_len h; omega
        repeat' (first | refine go ?_ | refine goX ?_ | refine goB ?_ | (refine goG ?_; intro g) | (refine goV ?_; intro v) | refine goD ?_ | refine goXD ?_ | (refine goDG ?_; intro g) | (refine goDV ?_; intro v) | refine d82 ?_ | fail)
        first | refine WL.callK (Mns.minus_c d1 d2 (digs x.natAbs) (digs y.natAbs) (digs_Dg _) (digs_Dg _) h1 hlen (len_pos (by omega)) (by rw [val_digs, val_digs]; omega)) ?_ | refine WD.callK (Mns.minus_c d1 d2 (digs x.natAbs) (digs y.natAbs) (digs_Dg _) (digs_Dg _) h1 hlen (len_pos (by omega)) (by rw [val_digs, val_digs]; omega)) ?_ | refine LO.callM (Mns.minus_c d1 d2 (digs x.natAbs) (digs y.natAbs) (digs_Dg _) (digs_Dg _) h1 hlen (len_pos (by omega)) (by rw [val_digs, val_digs]; omega)) ?_
        rintro u _ _ ⟨l, rfl, rfl, hd, hv, hl⟩
        simp only [List.nil_append, List.cons_append]
        rw [val_digs, val_digs] at hv
        repeat' (first | refine go ?_ | refine goX ?_ | refine goB ?_ | (refine goG ?_; intro g) | (refine goV ?_; intro v) | refine goD ?_ | refine goXD ?_ | (refine goDG ?_; intro g) | (refine goDV ?_; intro v) | refine d82 ?_ | fail)
        first | refine WL.callK (of_c u true l (x + y) hd (by rw [hv]; omega) (fun hne => by rw [hv] at hne; rw [eq_comm, decide_eq_true_eq]; omega)) ?_ | refine WD.callK (of_c u true l (x + y) hd (by rw [hv]; omega) (fun hne => by rw [hv] at hne; rw [eq_comm, decide_eq_true_eq]; omega)) ?_ | refine LO.callM (of_c u true l (x + y) hd (by rw [hv]; omega) (fun hne => by rw [hv] at hne; rw [eq_comm, decide_eq_true_eq]; omega)) ?_
        rintro _ _ _ ⟨nb, d, rfl, hb, rfl, rfl⟩
        simp only [List.nil_append, List.cons_append]
        repeat' (first | refine go ?_ | refine goX ?_ | refine goB ?_ | (refine goG ?_; intro g) | (refine goV ?_; intro v) | refine goD ?_ | refine goXD ?_ | (refine goDG ?_; intro g) | (refine goDV ?_; intro v) | refine d82 ?_ | fail)
        refine WC.ret ?_
        exact Fin.p [] [isZ (.agg #[.bool nb, d]) (x + y)] (ResE.cV rfl rfl meA T.r35 rfl) meA (List.nil_sublist _) haA ⟨nb, _, rfl, hb, rfl, rfl⟩
  | false =>
    have hx : ¬ x < 0 := of_decide_eq_false hb1.symm
    cases n2 with
    | true =>
      have hy : y < 0 := of_decide_eq_true hb2.symm
      repeat' (first | refine go ?_ | refine goX ?_ | refine goB ?_ | (refine goG ?_; intro g) | (refine goV ?_; intro v) | refine goD ?_ | refine goXD ?_ | (refine goDG ?_; intro g) | (refine goDV ?_; intro v) | refine d82 ?_ | fail)
      first | refine WL.callV (compare_c d1 d2 x.natAbs y.natAbs) ?_ | refine WD.callV (compare_c d1 d2 x.natAbs y.natAbs) ?_
      by_cases c : x.natAbs < y.natAbs
      · rw [cmpN_lt c]
        have hlen : (digs x.natAbs).length ≤ (digs y.natAbs).length := Nat.le_of_not_lt fun h => by have := digs_lt_len h; omega
        repeat' (first | refine go ?_ | refine goX ?_ | refine goB ?_ | (refine goG ?_; intro g) | (refine goV ?_; intro v) | refine goD ?_ | refine goXD ?_ | (refine goDG ?_; intro g) | (refine goDV ?_; intro v) | refine d82 ?_ | fail)
        first | refine WL.callK (Mns.minus_c d2 d1 (digs y.natAbs) (digs x.natAbs) (digs_Dg _) (digs_Dg _) h2 hlen (len_pos (by omega)) (by rw [val_digs, val_digs]; omega)) ?_ | refine WD.callK (Mns.minus_c d2 d1 (digs y.natAbs) (digs x.natAbs) (digs_Dg _) (digs_Dg _) h2 hlen (len_pos (by omega)) (by rw [val_digs, val_digs]; omega)) ?_ | refine LO.callM (Mns.minus_c d2 d1 (digs y.natAbs) (digs x.natAbs) (digs_Dg _) (digs_Dg _) h2 hlen (len_pos (by omega)) (by rw [val_digs, val_digs]; omega)) ?_
        rintro u _ _ ⟨l, rfl, rfl, hd, hv, hl⟩
        simp only [List.nil_append, List.cons_append]
        rw [val_digs, val_digs] at hv
        repeat' (first | refine go ?_ | refine goX ?_ | refine goB ?_ | (refine goG ?_; intro g) | (refine goV ?_; intro v) | refine goD ?_ | refine goXD ?_ | (refine goDG ?_; intro g) | (refine goDV ?_; intro v) | refine d82 ?_ | fail)
        first | refine WL.callK (of_c u true l (x + y) hd (by rw [hv]; omega) (fun _ => by rw [eq_comm, decide_eq_true_eq]; omega)) ?_ | refine WD.callK (of_c u true l (x + y) hd (by rw [hv]; omega) (fun _ => by rw [eq_comm, decide_eq_true_eq]; omega)) ?_ | refine LO.callM (of_c u true l (x + y) hd (by rw [hv]; omega) (fun _ => by rw [eq_comm, decide_eq_true_eq]; omega)) ?_
        rintro _ _ _ ⟨nb, d, rfl, hb, rfl, rfl⟩
        simp only [List.nil_append, List.cons_append]
        repeat' (first | refine go ?_ | refine goX ?_ | refine goB ?_ | (refine goG ?_; intro g) | (refine goV ?_; intro v) | refine goD ?_ | refine goXD ?_ | (refine goDG ?_; intro g) | (refine goDV ?_; intro v) | refine d82 ?_ | fail)
        refine WC.ret ?_
        exact Fin.p [] [isZ (.agg #[.bool nb, d]) (x + y)] (ResE.cV rfl rfl meA T.r35 rfl) meA (List.nil_sublist _) haA ⟨nb, _, rfl, hb, rfl, rfl⟩
      · have hc0 : cmpN x.natAbs y.natAbs = 0 ∨ cmpN x.natAbs y.natAbs = 1 := by
          by_cases c2 : y.natAbs < x.natAbs
          · exact .inr (cmpN_gt c2)
          · rw [show x.natAbs = y.natAbs by omega]; exact .inl (cmpN_eq _)
        have hlen : (digs y.natAbs).length ≤ (digs x.natAbs).length := Nat.le_of_not_lt fun h => by have := digs_lt_len h; omega
        repeat' (first | refine go ?_ | refine goX ?_ | refine goB ?_ | (refine goG ?_; intro g) | (refine goV ?_; intro v) | refine goD ?_ | refine goXD ?_ | (refine goDG ?_; intro g) | (refine goDV ?_; intro v) | refine d82 ?_ | fail)
        first | refine WL.callK (Mns.minus_c d1 d2 (digs x.natAbs) (digs y.natAbs) (digs_Dg _) (digs_Dg _) h1 hlen (len_pos (by omega)) (by rw [val_digs, val_digs]; omega)) ?_ | refine WD.callK (Mns.minus_c d1 d2 (digs x.natAbs) (digs y.natAbs) (digs_Dg _) (digs_Dg _) h1 hlen (len_pos (by omega)) (by rw [val_digs, val_digs]; omega)) ?_ | refine LO.callM (Mns.minus_c d1 d2 (digs x.natAbs) (digs y.natAbs) (digs_Dg _) (digs_Dg _) h1 hlen (len_pos (by omega)) (by rw [val_digs, val_digs]; omega)) ?_
        rintro u _ _ ⟨l, rfl, rfl, hd, hv, hl⟩
        simp only [List.nil_append, List.cons_append]
        rw [val_digs, val_digs] at hv
        repeat' (first | refine go ?_ | refine goX ?_ | refine goB ?_ | (refine goG ?_; intro g) | (refine goV ?_; intro v) | refine goD ?_ | refine goXD ?_ | (refine goDG ?_; intro g) | (refine goDV ?_; intro v) | refine d82 ?_ | fail)
        first | refine WL.callK (of_c u false l (x + y) hd (by rw [hv]; omega) (fun hne => by rw [hv] at hne; rw [eq_comm, decide_eq_false_iff_not]; omega)) ?_ | refine WD.callK (of_c u false l (x + y) hd (by rw [hv]; omega) (fun hne => by rw [hv] at hne; rw [eq_comm, decide_eq_false_iff_not]; omega)) ?_ | refine LO.callM (of_c u false l (x + y) hd (by rw [hv]; omega) (fun hne => by rw [hv] at hne; rw [eq_comm, decide_eq_false_iff_not]; omega)) ?_
        rintro _ _ _ ⟨nb, d, rfl, hb, rfl, rfl⟩
        simp only [List.nil_append, List.cons_append]
        repeat' (first | refine go ?_ | refine goX ?_ | refine goB ?_ | (refine goG ?_; intro g) | (refine goV ?_; intro v) | refine goD ?_ | refine goXD ?_ | (refine goDG ?_; intro g) | (refine goDV ?_; intro v) | refine d82 ?_ | fail)
        refine WC.ret ?_
        exact Fin.p [] [isZ (.agg #[.bool nb, d]) (x + y)] (ResE.cV rfl rfl meA T.r35 rfl) meA (List.nil_sublist _) haA ⟨nb, _, rfl, hb, rfl, rfl⟩
    | false =>
      have hy : ¬ y < 0 := of_decide_eq_false hb2.symm
      repeat' (first | refine go ?_ | refine goX ?_ | refine goB ?_ | (refine goG ?_; intro g) | (refine goV ?_; intro v) | refine goD ?_ | refine goXD ?_ | (refine goDG ?_; intro g) | (refine goDV ?_; intro v) | refine d82 ?_ | fail)
      first | refine WL.callK (plus_c d1 d2 (digs x.natAbs) (digs y.natAbs) (digs_Dg _) (digs_Dg _) h1 h2) ?_ | refine WD.callK (plus_c d1 d2 (digs x.natAbs) (digs y.natAbs) (digs_Dg _) (digs_Dg _) h1 h2) ?_ | refine LO.callM (plus_c d1 d2 (digs x.natAbs) (digs y.natAbs) (digs_Dg _) (digs_Dg _) h1 h2) ?_
      rintro u _ _ ⟨l, rfl, rfl, hd, hv, hl⟩
      simp only [List.nil_append, List.cons_append]
      rw [val_digs, val_digs] at hv
      repeat' (first | refine go ?_ | refine goX ?_ | refine goB ?_ | (refine goG ?_; intro g) | (refine goV ?_; intro v) | refine goD ?_ | refine goXD ?_ | (refine goDG ?_; intro g) | (refine goDV ?_; intro v) | refine d82 ?_ | fail)
      first | refine WL.callK (of_c u false l (x + y) hd (by rw [hv]; omega) (fun _ => by rw [eq_comm, decide_eq_false_iff_not]; omega)) ?_ | refine WD.callK (of_c u false l (x + y) hd (by rw [hv]; omega) (fun _ => by rw [eq_comm, decide_eq_false_iff_not]; omega)) ?_ | refine LO.callM (of_c u false l (x + y) hd (by rw [hv]; omega) (fun _ => by rw [eq_comm, decide_eq_false_iff_not]; omega)) ?_
      rintro _ _ _ ⟨nb, d, rfl, hb, rfl, rfl⟩
      simp only [List.nil_append, List.cons_append]
      repeat' (first | refine go ?_ | refine goX ?_ | refine goB ?_ | (refine goG ?_; intro g) | (refine goV ?_; intro v) | refine goD ?_ | refine goXD ?_ | (refine goDG ?_; intro g) | (refine goDV ?_; intro v) | refine d82 ?_ | fail)
      refine WC.ret ?_
      exact Fin.p [] [isZ (.agg #[.bool nb, d]) (x + y)] (ResE.cV rfl rfl meA T.r35 rfl) meA (List.nil_sublist _) haA ⟨nb, _, rfl, hb, rfl, rfl⟩
end Adc
end Go.Proofs.YthggloiigkbfeaaGreat
namespace Go.Proofs.YthggloiigkbfeaaGreat
open W Go.RowKit
theorem ints_snoc {l : List Int} {x : Int} : ints l ++ [Value.int .i64 x] = ints (l ++ [x]) := by simp [ints]
theorem YO.nrem {P : Program} {e : Env} {bx : List Ow} {F : List Fct} {ty t t' : TypeId} {x y : Operand} {m : Nat} {j : Int} (hx : ev e x = some (.int .i64 (-(m : Int)))) (hy : ev e y = some (.int .i64 j)) (h2 : 0 < j) : YO P (.binOp .rem t x y t') ty e bx F (.int .i64 (-((m : Int) % j))) := by
  have := YO.trem (P := P) (bx := bx) (F := F) (ty := ty) (t := t) (t' := t') hx hy (by omega)
  rwa [Int.neg_tmod, Int.tmod_eq_emod_of_nonneg (by omega)] at this
theorem YO.nquo {P : Program} {e : Env} {bx : List Ow} {F : List Fct} {ty t t' : TypeId} {x y : Operand} {m : Nat} {j : Int} (hx : ev e x = some (.int .i64 (-(m : Int)))) (hy : ev e y = some (.int .i64 j)) (h2 : 0 < j) (h3 : m ≤ 9223372036854775808) : YO P (.binOp .quo t x y t') ty e bx F (.int .i64 (-((m : Int) / j))) := by
  have := YO.tquo (P := P) (bx := bx) (F := F) (ty := ty) (t := t) (t' := t') hx hy (by omega)
  have h4 : (m : Int) / j ≤ m := Int.ediv_le_self _ (by omega)
  have h5 : 0 ≤ (m : Int) / j := Int.ediv_nonneg (by omega) (by omega)
  rwa [Int.neg_tdiv, Int.tdiv_eq_ediv_of_nonneg (by omega), wrap_i64 (by omega) (by omega)] at this
namespace Rm
open Dvz Dvv Adc
attribute [local irreducible] WC WL WD YO LO LoopEnd W.Fin Scalar SliceT FieldAt Row ArrT AllocT KnS Has W.One SrcE IntT
theorem d163 {G G' : Prop} (h : G') (s : Bx G' → G := by
  intro h
  first | (apply WC.draw (id := 8) [0, 1, 2, 3, 4, 5, 6, 7, 8] (.held 0 (.held 1 (.held 2 (.held 3 (.held 4 (.held 5 (.held 6 (.held 7 (.held 8 (.done)))))))))) mixed (by kernel_rfl)) | (apply WC.draw (id := 10) [0, 1, 2, 3, 4, 5, 6, 7, 8] (.held 0 (.held 1 (.held 2 (.held 3 (.held 4 (.held 5 (.held 6 (.held 7 (.held 8 (.done)))))))))) mixed (by kernel_rfl)) | fail
  exact Bx.h h) : G := s ⟨h⟩
theorem goB {G G' : Prop} (h : G') (s : Bx G' → G := by
  intro h
  first
    | (apply WL.k_rem; (apply YO.nrem; exact rfl; exact rfl; omega); exact rfl; exact rfl)
    | (apply WL.k_quo; (apply YO.nquo; exact rfl; exact rfl; omega; omega); exact rfl; exact rfl)
    | (apply WL.k_slice; (apply YO.slice; (first | exact T.s22 | exact T.s32 | exact T.s38 | exact T.s109 | exact T.s111 | exact T.s161); exact rfl; exact knA; exact Or.inl ⟨rfl, rfl⟩; exact Or.inr ⟨_, rfl, rfl⟩; omega; omega); exact rfl; exact rfl)
    | (apply WL.k_mul; (apply YO.mul; exact rfl; exact rfl; omega; omega); exact rfl; exact rfl)
  exact Bx.h h) : G := s ⟨h⟩
set_option maxHeartbeats 4000000 in
set_option maxRecDepth 8000 in
theorem normal_c (u : Value) (nb : Bool) (l : List Int) (z : Int) (hd : Dg l) (hz : z.natAbs = (val l).toNat) (hb : val l ≠ 0 → nb = decide (z < 0)) : FnB Tryz.prog 113 [.bool nb, u] [] [sI u l] (IsZ z) := by
  refine fn_of [(0, (.bool nb)), (1, u)] 29 Tryz.func113 rfl Tryz.ntmps113 (by kernel_rfl) rfl suA fun h0 => ?_
  refine WC.lenI u l hmA fun hlen => ?_
  have hv0 := val_nonneg hd
  repeat' (first | refine go ?_ | refine goX ?_ | refine goB ?_ | (refine goG ?_; intro g) | (refine goV ?_; intro v))
  refine WC.lp (σ := Nat) (fun n => [(5, .int .i64 (n : Int)), (0, .bool nb), (1, u), (4, ptr g)]) (fun _ => [Ow.cells g 35 [.bool false, .slice none 0 0]]) (fun _ => [ge h0, sI u l]) (fun n => n ≤ l.length ∧ ∀ j, n ≤ j → j < l.length → l.getD j 0 = 0) (fun n => n) l.length ⟨by simp, fun j h1 h2 => by omega⟩ ?_
  rintro n ⟨hn, hzr⟩
  by_cases h : 0 < n
  · have e0 : max ((n : Int) - 1) 0 = (n : Int) - 1 := by omega
    have e1 : (max ((n : Int) - 1) 0).toNat = n - 1 := by omega
    have hm1 : 0 ≤ max ((n : Int) - 1) 0 := by omega
    have hm2 : max ((n : Int) - 1) 0 < l.length := by omega
    by_cases h2 : l.getD (n - 1) 0 = 0
    · have h3 : l.getD (max ((n : Int) - 1) 0).toNat 0 = 0 := by rw [e1]; exact h2
      repeat' (first | refine go ?_ | refine goX ?_ | refine goB ?_ | (refine goG ?_; intro g) | (refine goV ?_; intro v))
      exact LoopEnd.mk (n - 1) ⟨by omega, fun j h4 h5 => if hj : j = n - 1 then hj ▸ h2 else hzr j (by omega) h5⟩ (by omega) (by rw [show ((n - 1 : Nat) : Int) = (n : Int) - 1 by omega]; exact suA)
    · have h3 : l.getD (max ((n : Int) - 1) 0).toNat 0 ≠ 0 := by rw [e1]; exact h2
      have hc := cut_digs hd hn hzr (fun _ => h2)
      have hvne : val l ≠ 0 := fun hv => by
        rw [hv] at hc
        have : (l.take n).length = n := by simp; omega
        rw [hc] at this
        simp [digs_0] at this; omega
      repeat' (first | refine go ?_ | refine goX ?_ | refine goB ?_ | (refine goG ?_; intro g) | (refine goV ?_; intro v))
      refine WL.fact' (sI (resl u 0 n 1) (l.take n)) (Has.takeI hmA hn) ?_
      rw [hc, ← hz]
      repeat' (first | refine go ?_ | refine goX ?_ | refine goB ?_ | (refine goG ?_; intro g) | (refine goV ?_; intro v))
      refine WC.fact (isZ (.agg #[.bool nb, resl u 0 n 1]) z) (hasZ_of (hb hvne) hmA) ?_
      refine WC.ret ?_
      exact Fin.p [] [isZ (.agg #[.bool nb, resl u 0 n 1]) z] (ResE.cV rfl rfl meA T.r35 rfl) meA (List.nil_sublist _) haA ⟨nb, _, rfl, hb hvne, rfl, rfl⟩
  · obtain rfl : n = 0 := by omega
    have hv : val l = 0 := by
      have := val_take_zero hn hzr
      simpa [val] using this.symm
    have hz0 : z = 0 := by rw [hv] at hz; simp at hz; exact hz
    subst hz0
    repeat' (first | refine go ?_ | refine goX ?_ | refine goB ?_ | (refine goG ?_; intro g) | (refine goV ?_; intro v))
    refine WC.ret ?_
    exact Fin.p [] [isZ (.agg #[.bool false, .slice none 0 0]) 0] (ResE.cV rfl rfl meA T.r35 rfl) meA (List.nil_sublist _) (.cons hasZ_0 .nil) ⟨false, _, rfl, rfl, rfl, rfl⟩
theorem of_step {d : List Int} {m n : Nat} (hd : Dg d) (hv : val d + BB ^ d.length * (m : Int) = n) : Dg (d ++ [((m : Int) % 1000000000)]) ∧ val (d ++ [((m : Int) % 1000000000)]) + BB ^ (d ++ [((m : Int) % 1000000000)]).length * ((m / 1000000000 : Nat) : Int) = n := by
  refine ⟨hd.snoc ⟨by omega, by show _ < (1000000000 : Int); omega⟩, ?_⟩
  rw [val_snoc, List.length_append, List.length_singleton, pow_s, ← hv]
  have h : (m : Int) = (m : Int) % 1000000000 + 1000000000 * ((m / 1000000000 : Nat) : Int) := by omega
  conv => rhs; rw [h, Int.mul_add]
  rw [Int.mul_assoc]
  show _ + _ + _ * (1000000000 * _) = _
  omega
set_option maxHeartbeats 4000000 in
set_option maxRecDepth 8000 in
theorem rof_c (n : Int) (h1 : -9223372036854775808 ≤ n) (h2 : n ≤ 9223372036854775807) : FnB Tryz.prog 59 [.int .i64 n] [] [] (IsZ n) := by
  refine fn_of [(0, (.int .i64 n))] 25 Tryz.func59 rfl Tryz.ntmps59 (by kernel_rfl) rfl suA fun h0 => ?_
  by_cases c : n < 0
  · have hdn := decide_eq_true c
    repeat' (first | refine go ?_ | refine goX ?_ | refine goB ?_ | (refine goG ?_; intro g) | (refine goV ?_; intro v))
    refine WC.addNil 3 1 ?_
    refine WC.lp (σ := Nat × List Int × Value) (fun s => [(0, .int .i64 (-(s.1 : Int))), (3, s.2.2), (4, .bool true), (2, ptr g)]) (fun s => [Ow.slice s.2.2 3 1 (ints s.2.1), Ow.cells g 35 [.bool false, .slice none 0 0]]) (fun _ => [ge h0])
      (fun s => s.1 ≤ n.natAbs ∧ Dg s.2.1 ∧ val s.2.1 + BB ^ s.2.1.length * (s.1 : Int) = (n.natAbs : Nat) ∧ s.2.1.length + (digs s.1).length ≤ 3) (fun s => s.1) (n.natAbs, [], .slice none 0 0) ⟨Nat.le_refl _, .nil, by simp [val], by simpa using digs_len_le (k := 3) (n := n.natAbs) (by omega)⟩ ?_ (by rw [show -(((n.natAbs, ([] : List Int), Value.slice none 0 0).1 : Nat) : Int) = n by show -((n.natAbs : Nat) : Int) = n; omega]; exact suA)
    rintro ⟨m, d, w⟩ ⟨hm, hd, hv, hl⟩
    simp only at hm hd hv hl ⊢
    by_cases hm0 : m = 0
    · subst hm0
      have hval : val d = (n.natAbs : Nat) := by simpa using hv
      repeat' (first | refine go ?_ | refine goX ?_ | refine goB ?_ | (refine goG ?_; intro g) | (refine goV ?_; intro v))
      refine WL.freezeI (l := d) (v := w) (el := 3) (by repeat (first | exact Sel.head | apply Sel.tail)) ?_
      first | refine WL.callK (normal_c w true d n hd (by rw [hval]; simp) (fun _ => by rw [eq_comm]; simp only [decide_eq_true_eq, decide_eq_false_iff_not]; exact c)) ?_ | refine WD.callK (normal_c w true d n hd (by rw [hval]; simp) (fun _ => by rw [eq_comm]; simp only [decide_eq_true_eq, decide_eq_false_iff_not]; exact c)) ?_ | refine LO.callM (normal_c w true d n hd (by rw [hval]; simp) (fun _ => by rw [eq_comm]; simp only [decide_eq_true_eq, decide_eq_false_iff_not]; exact c)) ?_
      rintro _ _ _ ⟨nb, e, rfl, hb, rfl, rfl⟩
      simp only [List.nil_append, List.cons_append]
      repeat' (first | refine go ?_ | refine goX ?_ | refine goB ?_ | (refine goG ?_; intro g) | (refine goV ?_; intro v))
      refine WC.ret ?_
      exact Fin.p [] [isZ (.agg #[.bool nb, e]) n] (ResE.cV rfl rfl meA T.r35 rfl) meA (List.nil_sublist _) haA ⟨nb, _, rfl, hb, rfl, rfl⟩
    · have hst := of_step (m := m) hd hv
      have hdl : (digs m).length = (digs (m / 1000000000)).length + 1 := by rw [digs_pos hm0]; rfl
      have hdiv : m / 1000000000 < m := Nat.div_lt_self (by omega) (by decide)
      have eq1 : ((m / 1000000000 : Nat) : Int) = (m : Int) / 1000000000 := by simp
      by_cases hr : (m : Int) % 1000000000 = 0
      · rw [hr] at hst
        have hr2 : -((m : Int) % 1000000000) = 0 := by omega
        repeat' (first | refine go ?_ | refine goX ?_ | refine goB ?_ | (refine goG ?_; intro g) | (refine goV ?_; intro v))
        rw [hr2, ints_snoc]
        exact LoopEnd.mk (m / 1000000000, _, _) ⟨by show m / 1000000000 ≤ _; omega, hst.1, hst.2, by simp only [List.length_append, List.length_singleton]; omega⟩ (by show m / 1000000000 < m; exact hdiv) (by simp only [eq1]; exact suA)
      · have hr2 : - -((m : Int) % 1000000000) = (m : Int) % 1000000000 := by omega
        repeat' (first | refine go ?_ | refine goX ?_ | refine goB ?_ | (refine goG ?_; intro g) | (refine goV ?_; intro v))
        rw [hr2, ints_snoc]
        exact LoopEnd.mk (m / 1000000000, _, _) ⟨by show m / 1000000000 ≤ _; omega, hst.1, hst.2, by simp only [List.length_append, List.length_singleton]; omega⟩ (by show m / 1000000000 < m; exact hdiv) (by simp only [eq1]; exact suA)
  · have hdn := decide_eq_false c
    repeat' (first | refine go ?_ | refine goX ?_ | refine goB ?_ | (refine goG ?_; intro g) | (refine goV ?_; intro v))
    refine WC.addNil 3 1 ?_
    refine WC.lp (σ := Nat × List Int × Value) (fun s => [(0, .int .i64 ((s.1 : Int))), (3, s.2.2), (4, .bool false), (2, ptr g)]) (fun s => [Ow.slice s.2.2 3 1 (ints s.2.1), Ow.cells g 35 [.bool false, .slice none 0 0]]) (fun _ => [ge h0])
      (fun s => s.1 ≤ n.natAbs ∧ Dg s.2.1 ∧ val s.2.1 + BB ^ s.2.1.length * (s.1 : Int) = (n.natAbs : Nat) ∧ s.2.1.length + (digs s.1).length ≤ 3) (fun s => s.1) (n.natAbs, [], .slice none 0 0) ⟨Nat.le_refl _, .nil, by simp [val], by simpa using digs_len_le (k := 3) (n := n.natAbs) (by omega)⟩ ?_ (by rw [show (((n.natAbs, ([] : List Int), Value.slice none 0 0).1 : Nat) : Int) = n by show ((n.natAbs : Nat) : Int) = n; omega]; exact suA)
    rintro ⟨m, d, w⟩ ⟨hm, hd, hv, hl⟩
    simp only at hm hd hv hl ⊢
    by_cases hm0 : m = 0
    · subst hm0
      have hval : val d = (n.natAbs : Nat) := by simpa using hv
      repeat' (first | refine go ?_ | refine goX ?_ | refine goB ?_ | (refine goG ?_; intro g) | (refine goV ?_; intro v))
      refine WL.freezeI (l := d) (v := w) (el := 3) (by repeat (first | exact Sel.head | apply Sel.tail)) ?_
      first | refine WL.callK (normal_c w false d n hd (by rw [hval]; simp) (fun _ => by rw [eq_comm]; simp only [decide_eq_true_eq, decide_eq_false_iff_not]; exact c)) ?_ | refine WD.callK (normal_c w false d n hd (by rw [hval]; simp) (fun _ => by rw [eq_comm]; simp only [decide_eq_true_eq, decide_eq_false_iff_not]; exact c)) ?_ | refine LO.callM (normal_c w false d n hd (by rw [hval]; simp) (fun _ => by rw [eq_comm]; simp only [decide_eq_true_eq, decide_eq_false_iff_not]; exact c)) ?_
      rintro _ _ _ ⟨nb, e, rfl, hb, rfl, rfl⟩
      simp only [List.nil_append, List.cons_append]
      repeat' (first | refine go ?_ | refine goX ?_ | refine goB ?_ | (refine goG ?_; intro g) | (refine goV ?_; intro v))
      refine WC.ret ?_
      exact Fin.p [] [isZ (.agg #[.bool nb, e]) n] (ResE.cV rfl rfl meA T.r35 rfl) meA (List.nil_sublist _) haA ⟨nb, _, rfl, hb, rfl, rfl⟩
    · have hst := of_step (m := m) hd hv
      have hdl : (digs m).length = (digs (m / 1000000000)).length + 1 := by rw [digs_pos hm0]; rfl
      have hdiv : m / 1000000000 < m := Nat.div_lt_self (by omega) (by decide)
      have eq1 : ((m / 1000000000 : Nat) : Int) = (m : Int) / 1000000000 := by simp
      repeat' (first | refine go ?_ | refine goX ?_ | refine goB ?_ | (refine goG ?_; intro g) | (refine goV ?_; intro v))
      rw [ints_snoc]
      exact LoopEnd.mk (m / 1000000000, _, _) ⟨by show m / 1000000000 ≤ _; omega, hst.1, hst.2, by simp only [List.length_append, List.length_singleton]; omega⟩ (by show m / 1000000000 < m; exact hdiv) (by simp only [eq1]; exact suA)
set_option maxHeartbeats 4000000 in
set_option maxRecDepth 8000 in
theorem digit_c (u : Value) (l : List Int) (k : Nat) : FnB Tryz.prog 162 [u, .int .i64 (k : Int)] [] [sI u l] (IsV (.int .i64 (l.getD k 0))) := by
  refine fn_of [(0, u), (1, (.int .i64 (k : Int)))] 13 Tryz.func162 rfl Tryz.ntmps162 (by kernel_rfl) rfl suA fun h0 => ?_
  by_cases c : k < l.length
  · repeat' (first | refine go ?_ | refine goX ?_ | refine goB ?_ | (refine goG ?_; intro g) | (refine goV ?_; intro v))
    refine WC.ret ?_
    exact Fin.v (ResE.t1 rfl rfl) meA rfl
  · repeat' (first | refine go ?_ | refine goX ?_ | refine goB ?_ | (refine goG ?_; intro g) | (refine goV ?_; intro v))
    refine WC.ret ?_
    exact Fin.v (ResE.t1 rfl rfl) meA (by rw [getD_over (by omega)])
set_option maxHeartbeats 4000000 in
set_option maxRecDepth 8000 in
theorem rcompared_c (u w : Value) (m n : Nat) : FnB Tryz.prog 163 [u, w] [] [sI u (digs m), sI w (digs n)] (IsV (.int .i64 (cmpN m n))) := by
  refine fn_of [(0, u), (1, w)] 41 Tryz.func163 rfl Tryz.ntmps163 (by kernel_rfl) rfl suA fun h0 => ?_
  obtain ⟨a, ha⟩ : ∃ a, digs m = a := ⟨_, rfl⟩
  obtain ⟨b, hb⟩ : ∃ b, digs n = b := ⟨_, rfl⟩
  have hcl := fun hl => @digs_lt_len m n hl
  have hcg := fun hl => @digs_lt_len n m hl
  have hlt := fun k hl => @digs_cmp_lt m n k hl
  have hgt := fun k hl => @digs_cmp_lt n m k hl
  have heq := fun hl => @digs_cmp_eq m n hl
  rw [ha] at hcl hcg hlt hgt heq ⊢
  rw [hb] at hcl hcg hlt hgt heq ⊢
  refine WC.lenI u a hmA fun hlen => ?_
  refine WC.lenI w b hmA fun hlen2 => ?_
  by_cases c0 : a.length = b.length
  · repeat' (first | refine go ?_ | refine goX ?_ | refine goB ?_ | (refine goG ?_; intro g) | (refine goV ?_; intro v) | refine goD ?_ | refine goXD ?_ | (refine goDG ?_; intro g) | (refine goDV ?_; intro v) | refine d163 ?_ | fail)
    refine WC.lp (σ := Nat) (fun k => [(5, .int .i64 ((k : Int) - 1)), (0, u), (1, w)]) (fun _ => []) (fun _ => [ge h0, sI u a, sI w b]) (fun k => k ≤ a.length ∧ ∀ j, k ≤ j → j < a.length → a.getD j 0 = b.getD j 0) (fun k => k) a.length ⟨Nat.le_refl _, fun j _ _ => by omega⟩ ?_
    rintro k ⟨hk, hs⟩
    by_cases h : 0 < k
    · have e1 : ((k : Int) - 1).toNat = k - 1 := by omega
      rcases Int.lt_trichotomy (a.getD (k - 1) 0) (b.getD (k - 1) 0) with c1 | c1 | c1
      · have c1' : a.getD ((k : Int) - 1).toNat 0 < b.getD ((k : Int) - 1).toNat 0 := by rw [e1]; exact c1
        have hv := cmpN_lt (hlt (k - 1) c0 (by omega) (fun j h4 h5 => hs j (by omega) h5) c1)
        repeat' (first | refine go ?_ | refine goX ?_ | refine goB ?_ | (refine goG ?_; intro g) | (refine goV ?_; intro v) | refine goD ?_ | refine goXD ?_ | (refine goDG ?_; intro g) | (refine goDV ?_; intro v) | refine d163 ?_ | fail)
        refine WC.ret ?_
        exact Fin.v (ResE.t1 rfl rfl) meA (by rw [hv])
      · have c1' : a.getD ((k : Int) - 1).toNat 0 = b.getD ((k : Int) - 1).toNat 0 := by rw [e1]; exact c1
        repeat' (first | refine go ?_ | refine goX ?_ | refine goB ?_ | (refine goG ?_; intro g) | (refine goV ?_; intro v) | refine goD ?_ | refine goXD ?_ | (refine goDG ?_; intro g) | (refine goDV ?_; intro v) | refine d163 ?_ | fail)
        exact LoopEnd.mk (k - 1) ⟨by omega, fun j h4 h5 => if hj : j = k - 1 then hj ▸ c1 else hs j (by omega) h5⟩ (by omega) (by rw [show ((k - 1 : Nat) : Int) - 1 = (k : Int) - 1 - 1 by omega]; exact suA)
      · have c1' : b.getD ((k : Int) - 1).toNat 0 < a.getD ((k : Int) - 1).toNat 0 := by rw [e1]; exact c1
        have hv := cmpN_gt (hgt (k - 1) c0.symm (by omega) (fun j h4 h5 => (hs j (by omega) (by omega)).symm) c1)
        repeat' (first | refine go ?_ | refine goX ?_ | refine goB ?_ | (refine goG ?_; intro g) | (refine goV ?_; intro v) | refine goD ?_ | refine goXD ?_ | (refine goDG ?_; intro g) | (refine goDV ?_; intro v) | refine d163 ?_ | fail)
        refine WC.ret ?_
        exact Fin.v (ResE.t1 rfl rfl) meA (by rw [hv])
    · obtain rfl : k = 0 := by omega
      have hmn := heq c0 fun j hj => hs j (by omega) hj
      repeat' (first | refine go ?_ | refine goX ?_ | refine goB ?_ | (refine goG ?_; intro g) | (refine goV ?_; intro v) | refine goD ?_ | refine goXD ?_ | (refine goDG ?_; intro g) | (refine goDV ?_; intro v) | refine d163 ?_ | fail)
      refine WC.ret ?_
      exact Fin.v (ResE.t1 rfl rfl) meA (by rw [hmn, cmpN_eq])
  · by_cases c2 : a.length < b.length
    · repeat' (first | refine go ?_ | refine goX ?_ | refine goB ?_ | (refine goG ?_; intro g) | (refine goV ?_; intro v) | refine goD ?_ | refine goXD ?_ | (refine goDG ?_; intro g) | (refine goDV ?_; intro v) | refine d163 ?_ | fail)
      refine WC.ret ?_
      exact Fin.v (ResE.t1 rfl rfl) meA (by rw [cmpN_lt (hcl c2)])
    · have c3 : b.length < a.length := by omega
      repeat' (first | refine go ?_ | refine goX ?_ | refine goB ?_ | (refine goG ?_; intro g) | (refine goV ?_; intro v) | refine goD ?_ | refine goXD ?_ | (refine goDG ?_; intro g) | (refine goDV ?_; intro v) | refine d163 ?_ | fail)
      refine WC.ret ?_
      exact Fin.v (ResE.t1 rfl rfl) meA (by rw [cmpN_gt (hcg c3)])
end Rm
end Go.Proofs.YthggloiigkbfeaaGreat
namespace Go.Proofs.YthggloiigkbfeaaGreat
open W Go.RowKit
theorem rplus_step {a b o : List Int} {k : Nat} {c v : Int} (hk : o.length = k) (hd : Dg o) (hv : val o + BB ^ k * c = val (a.take k) + val (b.take k)) (hx : v = a.getD k 0 + b.getD k 0 + c) (h0 : 0 ≤ v) :
    Dg (o ++ [v % 1000000000]) ∧ val (o ++ [v % 1000000000]) + BB ^ (k + 1) * (v / 1000000000) = val (a.take (k + 1)) + val (b.take (k + 1)) := by
  refine ⟨hd.snoc ⟨by omega, by show _ < (1000000000 : Int); omega⟩, ?_⟩
  rw [val_snoc, hk, val_take_s, val_take_s, pow_s, Int.mul_assoc]
  have e : BB ^ k * v = BB ^ k * (v % 1000000000) + BB ^ k * (BB * (v / 1000000000)) := by
    rw [← Int.mul_add]; congr 1; show v = v % 1000000000 + 1000000000 * (v / 1000000000); omega
  rw [hx, Int.mul_add, Int.mul_add] at e
  rw [← hx] at e
  omega
theorem rminus_step {a b o : List Int} {k : Nat} {c v c' : Int} (hk : o.length = k) (hd : Dg o) (hv : val o = val (a.take k) - val (b.take k) + BB ^ k * c) (hx : Dgt v) (he : v = a.getD k 0 - b.getD k 0 - c + BB * c') :
    Dg (o ++ [v]) ∧ val (o ++ [v]) = val (a.take (k + 1)) - val (b.take (k + 1)) + BB ^ (k + 1) * c' := by
  refine ⟨hd.snoc hx, ?_⟩
  rw [val_snoc, hk, hv, val_take_s, val_take_s, pow_s, he]
  simp only [Int.mul_add, Int.mul_sub, Int.mul_assoc]
  omega
namespace Rn
open Dvz Dvv Adc Rm
attribute [local irreducible] WC WL WD YO LO LoopEnd W.Fin Scalar SliceT FieldAt Row ArrT AllocT KnS Has W.One SrcE IntT
theorem d147 {G G' : Prop} (h : G') (s : Bx G' → G := by
  intro h
  first | (apply WC.draw (id := 2) [0, 1, 2, 3, 4, 5] (.held 0 (.held 1 (.held 2 (.held 3 (.held 4 (.held 5 (.loud 6 (.loud 7 (.loud 8 (.done)))))))))) mixed (by kernel_rfl)) | (apply WC.draw (id := 4) [0, 1, 2, 3, 4, 5] (.held 0 (.held 1 (.held 2 (.held 3 (.held 4 (.held 5 (.loud 6 (.loud 7 (.loud 8 (.done)))))))))) mixed (by kernel_rfl)) | (apply WC.draw (id := 5) [0, 1, 2, 3, 4, 5] (.held 0 (.held 1 (.held 2 (.held 3 (.held 4 (.held 5 (.loud 6 (.loud 7 (.loud 8 (.done)))))))))) mixed (by kernel_rfl)) | fail
  exact Bx.h h) : G := s ⟨h⟩
theorem d148 {G G' : Prop} (h : G') (s : Bx G' → G := by
  intro h
  first | (apply WC.draw (id := 6) [0, 1, 2, 3, 4, 5, 7, 8, 9, 10] (.held 0 (.held 1 (.held 2 (.held 3 (.held 4 (.held 5 (.held 8 (.loud 6 (.held 7 (.held 9 (.held 10 (.done)))))))))))) mixed (by kernel_rfl)) | fail
  exact Bx.h h) : G := s ⟨h⟩
theorem d152 {G G' : Prop} (h : G') (s : Bx G' → G := by
  intro h
  first | (apply WC.draw (id := 9) [0, 1, 2, 3, 4, 5, 6, 7, 8, 9, 10, 11, 12, 13, 14, 15, 16, 17, 18, 19, 20] (.held 0 (.held 1 (.held 2 (.held 3 (.held 4 (.held 5 (.held 6 (.held 7 (.held 8 (.held 9 (.held 10 (.held 11 (.held 12 (.held 13 (.held 14 (.held 15 (.held 16 (.held 17 (.held 18 (.held 19 (.held 20 (.done)))))))))))))))))))))) mixed (by kernel_rfl)) | fail
  exact Bx.h h) : G := s ⟨h⟩
theorem YO.bneq2 {e : Env} {bx : List Ow} {F : List Fct} {ty t' : TypeId} {x y : Operand} {a b : Bool} (hx : ev e x = some (.bool a)) (hy : ev e y = some (.bool b)) : YO Tryz.prog (.binOp .neq 4 x y t') ty e bx F (.bool (!(a == b))) := YO.bne bool_t hx hy
theorem goB {G G' : Prop} (h : G') (s : Bx G' → G := by
  intro h
  first
    | (apply WL.k_mul; (apply YO.mul; exact rfl; exact rfl; omega; omega); exact rfl; exact rfl)
    | (apply WD.k_mul; exact rfl; (apply YO.mul; exact rfl; exact rfl; omega; omega); exact rfl; exact rfl)
    | (apply WD.k_neq; exact rfl; (apply YO.bneq2; exact rfl; exact rfl); exact rfl; exact rfl)
    | (apply WL.k_neq; (apply YO.bneq2; exact rfl; exact rfl); exact rfl; exact rfl)
  exact Bx.h h) : G := s ⟨h⟩
set_option maxHeartbeats 4000000 in
set_option maxRecDepth 8000 in
theorem rplus_c (u w : Value) (a b : List Int) (ha : Dg a) (hb : Dg b) (hl : a.length ≤ 1000000000) (hl2 : b.length ≤ 1000000000) : FnB Tryz.prog 165 [u, w] [] [sI u a, sI w b] (IsDg (val a + val b) (max a.length b.length + 1)) := by
  refine fn_of [(0, u), (1, w)] 42 Tryz.func165 rfl Tryz.ntmps165 (by kernel_rfl) rfl suA fun h0 => ?_
  obtain ⟨M, hM⟩ : ∃ M, max a.length b.length = M := ⟨_, rfl⟩
  rw [hM]
  repeat' (first | refine go ?_ | refine goX ?_ | refine goB ?_ | (refine goG ?_; intro g) | (refine goV ?_; intro v))
  refine WC.addNil 3 1 ?_
  refine WC.lp (σ := Nat × List Int × Int × Value) (fun s => [(7, .int .i64 (s.1 : Int)), (6, .int .i64 s.2.2.1), (5, s.2.2.2), (0, u), (1, w)]) (fun s => [Ow.slice s.2.2.2 3 1 (ints s.2.1)]) (fun _ => [ge h0, sI u a, sI w b])
    (fun s => s.1 ≤ M + 1 ∧ s.2.1.length = s.1 ∧ (s.2.2.1 = 0 ∨ s.2.2.1 = 1) ∧ Dg s.2.1 ∧ val s.2.1 + BB ^ s.1 * s.2.2.1 = val (a.take s.1) + val (b.take s.1) ∧ (s.1 = M + 1 → s.2.2.1 = 0)) (fun s => 2 * (M - s.1) + s.2.2.1.toNat) (0, [], 0, .slice none 0 0) ⟨by simp, rfl, .inl rfl, .nil, by simp [val], fun h => rfl⟩ ?_
  rintro ⟨k, o, c, v⟩ ⟨hk, ho, hc01, hd, hv, hend⟩
  simp only at hk ho hc01 hd hv hend ⊢
  have h1 : 0 ≤ a.getD k 0 ∧ a.getD k 0 < 1000000000 := ha.any k
  have h2 : 0 ≤ b.getD k 0 ∧ b.getD k 0 < 1000000000 := hb.any k
  have hol : o.length ≤ 1000000001 := by omega
  by_cases hgo : k < a.length ∨ k < b.length ∨ 0 < c
  · have hst := rplus_step (a := a) (b := b) (o := o) (k := k) (c := c) (v := a.getD k 0 + b.getD k 0 + c) ho hd hv rfl (by omega)
    have hq : (a.getD k 0 + b.getD k 0 + c) / 1000000000 = 0 ∨ (a.getD k 0 + b.getD k 0 + c) / 1000000000 = 1 := by omega
    have hz1 : a.length ≤ k → a.getD k 0 = 0 := fun h => getD_over h
    have hz2 : b.length ≤ k → b.getD k 0 = 0 := fun h => getD_over h
    have hover : M ≤ k → (a.getD k 0 + b.getD k 0 + c) / 1000000000 = 0 := fun h => by
      have := hz1 (by omega)
      have := hz2 (by omega)
      omega
    have hkM : k ≤ M := by
      by_cases h : k = M + 1
      · have := hend h; omega
      · omega
    have hsp : k < a.length ∨ (¬ k < a.length ∧ k < b.length) ∨ (¬ k < a.length ∧ ¬ k < b.length ∧ 0 < c) := by omega
    rcases hsp with c1 | ⟨c1, c2⟩ | ⟨c1, c2, c3⟩
    all_goals
      repeat' (first | refine go ?_ | refine goX ?_ | refine goB ?_ | (refine goG ?_; intro g) | (refine goV ?_; intro v))
      first | refine WL.callV (digit_c u a k) ?_ | refine WD.callV (digit_c u a k) ?_
      repeat' (first | refine go ?_ | refine goX ?_ | refine goB ?_ | (refine goG ?_; intro g) | (refine goV ?_; intro v))
      first | refine WL.callV (digit_c w b k) ?_ | refine WD.callV (digit_c w b k) ?_
      repeat' (first | refine go ?_ | refine goX ?_ | refine goB ?_ | (refine goG ?_; intro g) | (refine goV ?_; intro v))
      rw [ints_snoc]
      exact LoopEnd.mk (k + 1, _, _, _) ⟨by show k + 1 ≤ M + 1; omega, by simp [ho], hq, hst.1, hst.2, fun h => hover (by have h : k + 1 = M + 1 := h; omega)⟩ (by show 2 * (M - (k + 1)) + ((a.getD k 0 + b.getD k 0 + c) / 1000000000).toNat < 2 * (M - k) + c.toNat; omega)
  · have c1 : ¬ k < a.length := by omega
    have c2 : ¬ k < b.length := by omega
    have c3 : c = 0 := by omega
    subst c3
    have hval : val o = val a + val b := by rw [val_take_over (by omega), val_take_over (by omega)] at hv; simpa using hv
    repeat' (first | refine go ?_ | refine goX ?_ | refine goB ?_ | (refine goG ?_; intro g) | (refine goV ?_; intro v))
    refine WC.freezeI (l := o) (v := v) (el := 3) (by repeat (first | exact Sel.head | apply Sel.tail)) ?_
    refine WC.ret ?_
    exact Fin.p [] [sI v o] (ResE.t1 rfl rfl) meA (List.nil_sublist _) haA ⟨_, rfl, rfl, hd, hval, by omega⟩
set_option maxHeartbeats 4000000 in
set_option maxRecDepth 8000 in
theorem rminus_c (u w : Value) (a b : List Int) (ha : Dg a) (hb : Dg b) (hl : a.length ≤ 1000000000) (hl2 : b.length ≤ a.length) (hle : val b ≤ val a) :
    FnB Tryz.prog 148 [u, w] [] [sI u a, sI w b] (IsDg (val a - val b) a.length) := by
  refine fn_of [(0, u), (1, w)] 34 Tryz.func148 rfl Tryz.ntmps148 (by kernel_rfl) rfl suA fun h0 => ?_
  repeat' (first | refine go ?_ | refine goX ?_ | refine goB ?_ | (refine goG ?_; intro g) | (refine goV ?_; intro v) | refine goD ?_ | refine goXD ?_ | (refine goDG ?_; intro g) | (refine goDV ?_; intro v) | refine d148 ?_ | fail)
  refine WC.addNil 3 1 ?_
  refine WC.lp (σ := Nat × List Int × Int × Value) (fun s => [(7, .int .i64 (s.1 : Int)), (6, .int .i64 s.2.2.1), (5, s.2.2.2), (0, u), (1, w)]) (fun s => [Ow.slice s.2.2.2 3 1 (ints s.2.1)]) (fun _ => [ge h0, sI u a, sI w b])
    (fun s => s.1 ≤ a.length ∧ s.2.1.length = s.1 ∧ (s.2.2.1 = 0 ∨ s.2.2.1 = 1) ∧ Dg s.2.1 ∧ val s.2.1 = val (a.take s.1) - val (b.take s.1) + BB ^ s.1 * s.2.2.1) (fun s => a.length - s.1) (0, [], 0, .slice none 0 0) ⟨by simp, rfl, .inl rfl, .nil, by simp [val]⟩ ?_
  rintro ⟨k, o, c, v⟩ ⟨hk, ho, hc01, hd, hv⟩
  simp only at hk ho hc01 hd hv ⊢
  by_cases hlt : k < a.length
  · have h1 : 0 ≤ a.getD k 0 ∧ a.getD k 0 < 1000000000 := ha.any k
    have h2 : 0 ≤ b.getD k 0 ∧ b.getD k 0 < 1000000000 := hb.any k
    by_cases hneg : a.getD k 0 - b.getD k 0 - c < 0
    · have hst := rminus_step (a := a) (b := b) (o := o) (k := k) (c := c) (c' := 1) (v := a.getD k 0 - b.getD k 0 - c + 1000000000) ho hd hv ⟨by omega, by show _ < (1000000000 : Int); omega⟩ rfl
      repeat' (first | refine go ?_ | refine goX ?_ | refine goB ?_ | (refine goG ?_; intro g) | (refine goV ?_; intro v) | refine goD ?_ | refine goXD ?_ | (refine goDG ?_; intro g) | (refine goDV ?_; intro v) | refine d148 ?_ | fail)
      first | refine WL.callV (digit_c w b k) ?_ | refine WD.callV (digit_c w b k) ?_
      repeat' (first | refine go ?_ | refine goX ?_ | refine goB ?_ | (refine goG ?_; intro g) | (refine goV ?_; intro v) | refine goD ?_ | refine goXD ?_ | (refine goDG ?_; intro g) | (refine goDV ?_; intro v) | refine d148 ?_ | fail)
      rw [ints_snoc]
      exact LoopEnd.mk (k + 1, _, 1, _) ⟨by show k + 1 ≤ a.length; omega, by simp [ho], .inr rfl, hst.1, hst.2⟩ (by show a.length - (k + 1) < a.length - k; omega)
    · have hst := rminus_step (a := a) (b := b) (o := o) (k := k) (c := c) (c' := 0) (v := a.getD k 0 - b.getD k 0 - c) ho hd hv ⟨by omega, by show _ < (1000000000 : Int); omega⟩ (by simp)
      repeat' (first | refine go ?_ | refine goX ?_ | refine goB ?_ | (refine goG ?_; intro g) | (refine goV ?_; intro v) | refine goD ?_ | refine goXD ?_ | (refine goDG ?_; intro g) | (refine goDV ?_; intro v) | refine d148 ?_ | fail)
      first | refine WL.callV (digit_c w b k) ?_ | refine WD.callV (digit_c w b k) ?_
      repeat' (first | refine go ?_ | refine goX ?_ | refine goB ?_ | (refine goG ?_; intro g) | (refine goV ?_; intro v) | refine goD ?_ | refine goXD ?_ | (refine goDG ?_; intro g) | (refine goDV ?_; intro v) | refine d148 ?_ | fail)
      rw [ints_snoc]
      exact LoopEnd.mk (k + 1, _, 0, _) ⟨by show k + 1 ≤ a.length; omega, by simp [ho], .inl rfl, hst.1, hst.2⟩ (by show a.length - (k + 1) < a.length - k; omega)
  · obtain rfl : k = a.length := by omega
    have hval : val o = val a - val b := by
      rw [List.take_length, List.take_of_length_le hl2] at hv
      have h3 := val_lt hd
      rw [ho] at h3
      have hp := BB_pos a.length
      rcases hc01 with rfl | rfl
      · simpa using hv
      · rw [Int.mul_one] at hv; omega
    repeat' (first | refine go ?_ | refine goX ?_ | refine goB ?_ | (refine goG ?_; intro g) | (refine goV ?_; intro v) | refine goD ?_ | refine goXD ?_ | (refine goDG ?_; intro g) | (refine goDV ?_; intro v) | refine d148 ?_ | fail)
    refine WC.freezeI (l := o) (v := v) (el := 3) (by repeat (first | exact Sel.head | apply Sel.tail)) ?_
    refine WC.ret ?_
    exact Fin.p [] [sI v o] (ResE.t1 rfl rfl) meA (List.nil_sublist _) haA ⟨_, rfl, rfl, hd, hval, by omega⟩
theorem tiny_val {n : Nat} (h : n < B2) : (digs n).getD 1 0 * 1000000000 + (digs n).getD 0 0 = n := by
  have h' : n < 1000000000000000000 := h
  rcases two_cases h with ⟨h1, e⟩ | ⟨_, e, h2⟩ | ⟨_, e, h2⟩
  · rw [e, h1]; rfl
  · rw [e]; show (0 : Int) * _ + _ = _; simp
  · rw [e]; show ((n / 1000000000 : Nat) : Int) * 1000000000 + ((n % 1000000000 : Nat) : Int) = n; omega
set_option maxHeartbeats 4000000 in
set_option maxRecDepth 8000 in
theorem tiny_c (u : Value) (n : Nat) (hn : n < B2) : FnB Tryz.prog 145 [u] [] [sI u (digs n)] (IsV (.int .i64 (n : Int))) := by
  refine fn_of [(0, u)] 9 Tryz.func145 rfl Tryz.ntmps145 (by kernel_rfl) rfl suA fun h0 => ?_
  have hv := tiny_val hn
  have h1 : 0 ≤ (digs n).getD 1 0 ∧ (digs n).getD 1 0 < 1000000000 := (digs_Dg n).any 1
  have h2 : 0 ≤ (digs n).getD 0 0 ∧ (digs n).getD 0 0 < 1000000000 := (digs_Dg n).any 0
  repeat' (first | refine go ?_ | refine goX ?_ | refine goB ?_ | (refine goG ?_; intro g) | (refine goV ?_; intro v))
  first | refine WL.callV (digit_c u (digs n) 1) ?_ | refine WD.callV (digit_c u (digs n) 1) ?_
  repeat' (first | refine go ?_ | refine goX ?_ | refine goB ?_ | (refine goG ?_; intro g) | (refine goV ?_; intro v))
  first | refine WL.callV (digit_c u (digs n) 0) ?_ | refine WD.callV (digit_c u (digs n) 0) ?_
  repeat' (first | refine go ?_ | refine goX ?_ | refine goB ?_ | (refine goG ?_; intro g) | (refine goV ?_; intro v))
  rw [hv]
  refine WC.ret ?_
  exact Fin.v (ResE.t1 rfl rfl) meA rfl
set_option maxHeartbeats 4000000 in
set_option maxRecDepth 8000 in
theorem rneg_c (v : Value) (z : Int) : FnB Tryz.prog 111 [v] [] [isZ v z] (IsZ (-z)) := by
  refine fn_of [(0, v)] 9 Tryz.func111 rfl Tryz.ntmps111 (by kernel_rfl) rfl suA fun h0 => ?_
  refine WC.openZ hmA fun n1 d1 hv hb1 => ?_
  subst hv
  refine WC.fact (sI d1 (digs z.natAbs)) (hasZ_d hmA) ?_
  cases n1 with
  | true =>
    have hz : z < 0 := of_decide_eq_true hb1.symm
    repeat' (first | refine go ?_ | refine goX ?_ | refine goB ?_ | (refine goG ?_; intro g) | (refine goV ?_; intro v))
    first | refine WL.callK (normal_c d1 false (digs z.natAbs) (-z) (digs_Dg _) (by rw [val_digs]; omega) (fun hne => by rw [val_digs] at hne; rw [eq_comm]; simp only [decide_eq_true_eq, decide_eq_false_iff_not]; omega)) ?_ | refine WD.callK (normal_c d1 false (digs z.natAbs) (-z) (digs_Dg _) (by rw [val_digs]; omega) (fun hne => by rw [val_digs] at hne; rw [eq_comm]; simp only [decide_eq_true_eq, decide_eq_false_iff_not]; omega)) ?_ | refine LO.callM (normal_c d1 false (digs z.natAbs) (-z) (digs_Dg _) (by rw [val_digs]; omega) (fun hne => by rw [val_digs] at hne; rw [eq_comm]; simp only [decide_eq_true_eq, decide_eq_false_iff_not]; omega)) ?_
    rintro _ _ _ ⟨nb, d, rfl, hb, rfl, rfl⟩
    simp only [List.nil_append, List.cons_append]
    repeat' (first | refine go ?_ | refine goX ?_ | refine goB ?_ | (refine goG ?_; intro g) | (refine goV ?_; intro v))
    refine WC.ret ?_
    exact Fin.p [] [isZ (.agg #[.bool nb, d]) (-z)] (ResE.cV rfl rfl meA T.r35 rfl) meA (List.nil_sublist _) haA ⟨nb, _, rfl, hb, rfl, rfl⟩
  | false =>
    have hz : ¬ z < 0 := of_decide_eq_false hb1.symm
    repeat' (first | refine go ?_ | refine goX ?_ | refine goB ?_ | (refine goG ?_; intro g) | (refine goV ?_; intro v))
    first | refine WL.callK (normal_c d1 true (digs z.natAbs) (-z) (digs_Dg _) (by rw [val_digs]; omega) (fun hne => by rw [val_digs] at hne; rw [eq_comm]; simp only [decide_eq_true_eq, decide_eq_false_iff_not]; omega)) ?_ | refine WD.callK (normal_c d1 true (digs z.natAbs) (-z) (digs_Dg _) (by rw [val_digs]; omega) (fun hne => by rw [val_digs] at hne; rw [eq_comm]; simp only [decide_eq_true_eq, decide_eq_false_iff_not]; omega)) ?_ | refine LO.callM (normal_c d1 true (digs z.natAbs) (-z) (digs_Dg _) (by rw [val_digs]; omega) (fun hne => by rw [val_digs] at hne; rw [eq_comm]; simp only [decide_eq_true_eq, decide_eq_false_iff_not]; omega)) ?_
    rintro _ _ _ ⟨nb, d, rfl, hb, rfl, rfl⟩
    simp only [List.nil_append, List.cons_append]
    repeat' (first | refine go ?_ | refine goX ?_ | refine goB ?_ | (refine goG ?_; intro g) | (refine goV ?_; intro v))
    refine WC.ret ?_
    exact Fin.p [] [isZ (.agg #[.bool nb, d]) (-z)] (ResE.cV rfl rfl meA T.r35 rfl) meA (List.nil_sublist _) haA ⟨nb, _, rfl, hb, rfl, rfl⟩
set_option maxHeartbeats 4000000 in
set_option maxRecDepth 8000 in
theorem rcompare_c (v1 v2 : Value) (x y : Int) : FnB Tryz.prog 154 [v1, v2] [] [isZ v1 x, isZ v2 y] (IsV (.int .i64 (cmpI x y))) := by
  refine fn_of [(0, v1), (1, v2)] 24 Tryz.func154 rfl Tryz.ntmps154 (by kernel_rfl) rfl suA fun h0 => ?_
  refine WC.openZ (v := v1) (z := x) hmA fun n1 d1 hv hb1 => ?_
  subst hv
  refine WC.openZ (v := v2) (z := y) hmA fun n2 d2 hv hb2 => ?_
  subst hv
  refine WC.fact (sI d1 (digs x.natAbs)) (hasZ_d hmA) ?_
  refine WC.fact (sI d2 (digs y.natAbs)) (hasZ_d hmA) ?_
  cases n1 with
  | true =>
    have hx : x < 0 := of_decide_eq_true hb1.symm
    cases n2 with
    | true =>
      have hy : y < 0 := of_decide_eq_true hb2.symm
      repeat' (first | refine go ?_ | refine goX ?_ | refine goB ?_ | (refine goG ?_; intro g) | (refine goV ?_; intro v))
      first | refine WL.callV (rcompared_c d2 d1 y.natAbs x.natAbs) ?_ | refine WD.callV (rcompared_c d2 d1 y.natAbs x.natAbs) ?_
      rw [cmpI_nn hx hy]
      repeat' (first | refine go ?_ | refine goX ?_ | refine goB ?_ | (refine goG ?_; intro g) | (refine goV ?_; intro v))
      refine WC.ret ?_
      exact Fin.v (ResE.t1 rfl rfl) meA rfl
    | false =>
      have hy : ¬ y < 0 := of_decide_eq_false hb2.symm
      repeat' (first | refine go ?_ | refine goX ?_ | refine goB ?_ | (refine goG ?_; intro g) | (refine goV ?_; intro v))
      refine WC.ret ?_
      exact Fin.v (ResE.t1 rfl rfl) meA (by rw [cmpI_lt (by omega)])
  | false =>
    have hx : ¬ x < 0 := of_decide_eq_false hb1.symm
    cases n2 with
    | true =>
      have hy : y < 0 := of_decide_eq_true hb2.symm
      repeat' (first | refine go ?_ | refine goX ?_ | refine goB ?_ | (refine goG ?_; intro g) | (refine goV ?_; intro v))
      refine WC.ret ?_
      exact Fin.v (ResE.t1 rfl rfl) meA (by rw [cmpI_gt (by omega)])
    | false =>
      have hy : ¬ y < 0 := of_decide_eq_false hb2.symm
      repeat' (first | refine go ?_ | refine goX ?_ | refine goB ?_ | (refine goG ?_; intro g) | (refine goV ?_; intro v))
      first | refine WL.callV (rcompared_c d1 d2 x.natAbs y.natAbs) ?_ | refine WD.callV (rcompared_c d1 d2 x.natAbs y.natAbs) ?_
      rw [cmpI_pp hx hy]
      repeat' (first | refine go ?_ | refine goX ?_ | refine goB ?_ | (refine goG ?_; intro g) | (refine goV ?_; intro v))
      refine WC.ret ?_
      exact Fin.v (ResE.t1 rfl rfl) meA rfl
theorem cmp0 (z : Int) : cmpI z 0 = sgn z := by unfold cmpI sgn; split <;> (try split) <;> first | rfl | (split <;> first | rfl | omega) | omega
set_option maxHeartbeats 4000000 in
set_option maxRecDepth 8000 in
theorem rsign_c (v : Value) (z : Int) : FnB Tryz.prog 130 [v] [] [isZ v z] (IsV (.int .i64 (sgn z))) := by
  refine fn_of [(0, v)] 6 Tryz.func130 rfl Tryz.ntmps130 (by kernel_rfl) rfl suA fun h0 => ?_
  refine WC.openZ hmA fun n1 d1 hv hb1 => ?_
  subst hv
  repeat' (first | refine go ?_ | refine goX ?_ | refine goB ?_ | (refine goG ?_; intro g) | (refine goV ?_; intro v))
  refine WL.fact' (isZ (.agg #[.bool false, .slice none 0 0]) 0) hasZ_0 ?_
  first | refine WL.callV (rcompare_c (.agg #[.bool n1, d1]) (.agg #[.bool false, .slice none 0 0]) z 0) ?_ | refine WD.callV (rcompare_c (.agg #[.bool n1, d1]) (.agg #[.bool false, .slice none 0 0]) z 0) ?_
  rw [cmp0]
  repeat' (first | refine go ?_ | refine goX ?_ | refine goB ?_ | (refine goG ?_; intro g) | (refine goV ?_; intro v))
  refine WC.ret ?_
  exact Fin.v (ResE.t1 rfl rfl) meA rfl
set_option maxHeartbeats 4000000 in
set_option maxRecDepth 8000 in
theorem radd_c (v1 v2 : Value) (x y : Int) (h1 : (digs x.natAbs).length ≤ 1000000000) (h2 : (digs y.natAbs).length ≤ 1000000000) : FnB Tryz.prog 147 [v1, v2] [] [isZ v1 x, isZ v2 y] (IsZ (x + y)) := by
  refine fn_of [(0, v1), (1, v2)] 40 Tryz.func147 rfl Tryz.ntmps147 (by kernel_rfl) rfl suA fun h0 => ?_
  refine WC.openZ (v := v1) (z := x) hmA fun n1 d1 hv hb1 => ?_
  subst hv
  refine WC.openZ (v := v2) (z := y) hmA fun n2 d2 hv hb2 => ?_
  subst hv
  refine WC.fact (sI d1 (digs x.natAbs)) (hasZ_d hmA) ?_
  refine WC.fact (sI d2 (digs y.natAbs)) (hasZ_d hmA) ?_
  cases n1 with
  | true =>
    have hx : x < 0 := of_decide_eq_true hb1.symm
    cases n2 with
    | true =>
      have hy : y < 0 := of_decide_eq_true hb2.symm
      repeat' (first | refine go ?_ | refine goX ?_ | refine goB ?_ | (refine goG ?_; intro g) | (refine goV ?_; intro v) | refine goD ?_ | refine goXD ?_ | (refine goDG ?_; intro g) | (refine goDV ?_; intro v) | refine d147 ?_ | fail)
      first | refine WL.callK (rplus_c d1 d2 (digs x.natAbs) (digs y.natAbs) (digs_Dg _) (digs_Dg _) h1 h2) ?_ | refine WD.callK (rplus_c d1 d2 (digs x.natAbs) (digs y.natAbs) (digs_Dg _) (digs_Dg _) h1 h2) ?_ | refine LO.callM (rplus_c d1 d2 (digs x.natAbs) (digs y.natAbs) (digs_Dg _) (digs_Dg _) h1 h2) ?_
      rintro u _ _ ⟨l, rfl, rfl, hd, hv, hl⟩
      simp only [List.nil_append, List.cons_append]
      rw [val_digs, val_digs] at hv
      repeat' (first | refine go ?_ | refine goX ?_ | refine goB ?_ | (refine goG ?_; intro g) | (refine goV ?_; intro v) | refine goD ?_ | refine goXD ?_ | (refine goDG ?_; intro g) | (refine goDV ?_; intro v) | refine d147 ?_ | fail)
      first | refine WL.callK (normal_c u true l (x + y) hd (by rw [hv]; omega) (fun _ => by rw [eq_comm, decide_eq_true_eq]; omega)) ?_ | refine WD.callK (normal_c u true l (x + y) hd (by rw [hv]; omega) (fun _ => by rw [eq_comm, decide_eq_true_eq]; omega)) ?_ | refine LO.callM (normal_c u true l (x + y) hd (by rw [hv]; omega) (fun _ => by rw [eq_comm, decide_eq_true_eq]; omega)) ?_
      rintro _ _ _ ⟨nb, d, rfl, hb, rfl, rfl⟩
      simp only [List.nil_append, List.cons_append]
      repeat' (first | refine go ?_ | refine goX ?_ | refine goB ?_ | (refine goG ?_; intro g) | (refine goV ?_; intro v) | refine goD ?_ | refine goXD ?_ | (refine goDG ?_; intro g) | (refine goDV ?_; intro v) | refine d147 ?_ | fail)
      refine WC.ret ?_
      exact Fin.p [] [isZ (.agg #[.bool nb, d]) (x + y)] (ResE.cV rfl rfl meA T.r35 rfl) meA (List.nil_sublist _) haA ⟨nb, _, rfl, hb, rfl, rfl⟩
    | false =>
      have hy : ¬ y < 0 := of_decide_eq_false hb2.symm
      repeat' (first | refine go ?_ | refine goX ?_ | refine goB ?_ | (refine goG ?_; intro g) | (refine goV ?_; intro v) | refine goD ?_ | refine goXD ?_ | (refine goDG ?_; intro g) | (refine goDV ?_; intro v) | refine d147 ?_ | fail)
      first | refine WL.callV (rcompared_c d1 d2 x.natAbs y.natAbs) ?_ | refine WD.callV (rcompared_c d1 d2 x.natAbs y.natAbs) ?_
      by_cases c : x.natAbs < y.natAbs
      · rw [cmpN_lt c]
        have hlen : (digs x.natAbs).length ≤ (digs y.natAbs).length := Nat.le_of_not_lt fun h => by have := digs_lt_len h; omega
        repeat' (first | refine go ?_ | refine goX ?_ | refine goB ?_ | (refine goG ?_; intro g) | (refine goV ?_; intro v) | refine goD ?_ | refine goXD ?_ | (refine goDG ?_; intro g) | (refine goDV ?_; intro v) | refine d147 ?_ | fail)
        first | refine WL.callK (rminus_c d2 d1 (digs y.natAbs) (digs x.natAbs) (digs_Dg _) (digs_Dg _) h2 hlen (by rw [val_digs, val_digs]; omega)) ?_ | refine WD.callK (rminus_c d2 d1 (digs y.natAbs) (digs x.natAbs) (digs_Dg _) (digs_Dg _) h2 hlen (by rw [val_digs, val_digs]; omega)) ?_ | refine LO.callM (rminus_c d2 d1 (digs y.natAbs) (digs x.natAbs) (digs_Dg _) (digs_Dg _) h2 hlen (by rw [val_digs, val_digs]; omega)) ?_
        rintro u _ _ ⟨l, rfl, rfl, hd, hv, hl⟩
        simp only [List.nil_append, List.cons_append]
        rw [val_digs, val_digs] at hv
        repeat' (first | refine go ?_ | refine goX ?_ | refine goB ?_ | (refine goG ?_; intro g) | (refine goV ?_; intro v) | refine goD ?_ | refine goXD ?_ | (refine goDG ?_; intro g) | (refine goDV ?_; intro v) | refine d147 ?_ | fail)
        first | refine WL.callK (normal_c u false l (x + y) hd (by rw [hv]; omega) (fun _ => by rw [eq_comm, decide_eq_false_iff_not]; omega)) ?_ | refine WD.callK (normal_c u false l (x + y) hd (by rw [hv]; omega) (fun _ => by rw [eq_comm, decide_eq_false_iff_not]; omega)) ?_ | refine LO.callM (normal_c u false l (x + y) hd (by rw [hv]; omega) (fun _ => by rw [eq_comm, decide_eq_false_iff_not]; omega)) ?_
        rintro _ _ _ ⟨nb, d, rfl, hb, rfl, rfl⟩
        simp only [List.nil_append, List.cons_append]
        repeat' (first | refine go ?_ | refine goX ?_ | refine goB ?_ | (refine goG ?_; intro g) | (refine goV ?_; intro v) | refine goD ?_ | refine goXD ?_ | (refine goDG ?_; intro g) | (refine goDV ?_; intro v) | refine d147 ?_ | fail)
        refine WC.ret ?_
        exact Fin.p [] [isZ (.agg #[.bool nb, d]) (x + y)] (ResE.cV rfl rfl meA T.r35 rfl) meA (List.nil_sublist _) haA ⟨nb, _, rfl, hb, rfl, rfl⟩
      · have hc0 : cmpN x.natAbs y.natAbs = 0 ∨ cmpN x.natAbs y.natAbs = 1 := by
          by_cases c2 : y.natAbs < x.natAbs
          · exact .inr (cmpN_gt c2)
          · rw [show x.natAbs = y.natAbs by omega]; exact .inl (cmpN_eq _)
        have hlen : (digs y.natAbs).length ≤ (digs x.natAbs).length := Nat.le_of_not_lt fun h => by have := digs_lt_len h; omega
        repeat' (first | refine go ?_ | refine goX ?_ | refine goB ?_ | (refine goG ?_; intro g) | (refine goV ?_; intro v) | refine goD ?_ | refine goXD ?_ | (refine goDG ?_; intro g) | (refine goDV ?_; intro v) | refine d147 ?_ | fail)
        first | refine WL.callK (rminus_c d1 d2 (digs x.natAbs) (digs y.natAbs) (digs_Dg _) (digs_Dg _) h1 hlen (by rw [val_digs, val_digs]; omega)) ?_ | refine WD.callK (rminus_c d1 d2 (digs x.natAbs) (digs y.natAbs) (digs_Dg _) (digs_Dg _) h1 hlen (by rw [val_digs, val_digs]; omega)) ?_ | refine LO.callM (rminus_c d1 d2 (digs x.natAbs) (digs y.natAbs) (digs_Dg _) (digs_Dg _) h1 hlen (by rw [val_digs, val_digs]; omega)) ?_
        rintro u _ _ ⟨l, rfl, rfl, hd, hv, hl⟩
        simp only [List.nil_append, List.cons_append]
        rw [val_digs, val_digs] at hv
        repeat' (first | refine go ?_ | refine goX ?_ | refine goB ?_ | (refine goG ?_; intro g) | (refine goV ?_; intro v) | refine goD ?_ | refine goXD ?_ | (refine goDG ?_; intro g) | (refine goDV ?_; intro v) | refine d147 ?_ | fail)
        first | refine WL.callK (normal_c u true l (x + y) hd (by rw [hv]; omega) (fun hne => by rw [hv] at hne; rw [eq_comm, decide_eq_true_eq]; omega)) ?_ | refine WD.callK (normal_c u true l (x + y) hd (by rw [hv]; omega) (fun hne => by rw [hv] at hne; rw [eq_comm, decide_eq_true_eq]; omega)) ?_ | refine LO.callM (normal_c u true l (x + y) hd (by rw [hv]; omega) (fun hne => by rw [hv] at hne; rw [eq_comm, decide_eq_true_eq]; omega)) ?_
        rintro _ _ _ ⟨nb, d, rfl, hb, rfl, rfl⟩
        simp only [List.nil_append, List.cons_append]
        repeat' (first | refine go ?_ | refine goX ?_ | refine goB ?_ | (refine goG ?_; intro g) | (refine goV ?_; intro v) | refine goD ?_ | refine goXD ?_ | (refine goDG ?_; intro g) | (refine goDV ?_; intro v) | refine d147 ?_ | fail)
        refine WC.ret ?_
        exact Fin.p [] [isZ (.agg #[.bool nb, d]) (x + y)] (ResE.cV rfl rfl meA T.r35 rfl) meA (List.nil_sublist _) haA ⟨nb, _, rfl, hb, rfl, rfl⟩
  | false =>
    have hx : ¬ x < 0 := of_decide_eq_false hb1.symm
    cases n2 with
    | true =>
      have hy : y < 0 := of_decide_eq_true hb2.symm
      repeat' (first | refine go ?_ | refine goX ?_ | refine goB ?_ | (refine goG ?_; intro g) | (refine goV ?_; intro v) | refine goD ?_ | refine goXD ?_ | (refine goDG ?_; intro g) | (refine goDV ?_; intro v) | refine d147 ?_ | fail)
      first | refine WL.callV (rcompared_c d1 d2 x.natAbs y.natAbs) ?_ | refine WD.callV (rcompared_c d1 d2 x.natAbs y.natAbs) ?_
      by_cases c : x.natAbs < y.natAbs
      · rw [cmpN_lt c]
        have hlen : (digs x.natAbs).length ≤ (digs y.natAbs).length := Nat.le_of_not_lt fun h => by have := digs_lt_len h; omega
        repeat' (first | refine go ?_ | refine goX ?_ | refine goB ?_ | (refine goG ?_; intro g) | (refine goV ?_; intro v) | refine goD ?_ | refine goXD ?_ | (refine goDG ?_; intro g) | (refine goDV ?_; intro v) | refine d147 ?_ | fail)
        first | refine WL.callK (rminus_c d2 d1 (digs y.natAbs) (digs x.natAbs) (digs_Dg _) (digs_Dg _) h2 hlen (by rw [val_digs, val_digs]; omega)) ?_ | refine WD.callK (rminus_c d2 d1 (digs y.natAbs) (digs x.natAbs) (digs_Dg _) (digs_Dg _) h2 hlen (by rw [val_digs, val_digs]; omega)) ?_ | refine LO.callM (rminus_c d2 d1 (digs y.natAbs) (digs x.natAbs) (digs_Dg _) (digs_Dg _) h2 hlen (by rw [val_digs, val_digs]; omega)) ?_
        rintro u _ _ ⟨l, rfl, rfl, hd, hv, hl⟩
        simp only [List.nil_append, List.cons_append]
        rw [val_digs, val_digs] at hv
        repeat' (first | refine go ?_ | refine goX ?_ | refine goB ?_ | (refine goG ?_; intro g) | (refine goV ?_; intro v) | refine goD ?_ | refine goXD ?_ | (refine goDG ?_; intro g) | (refine goDV ?_; intro v) | refine d147 ?_ | fail)
        first | refine WL.callK (normal_c u true l (x + y) hd (by rw [hv]; omega) (fun _ => by rw [eq_comm, decide_eq_true_eq]; omega)) ?_ | refine WD.callK (normal_c u true l (x + y) hd (by rw [hv]; omega) (fun _ => by rw [eq_comm, decide_eq_true_eq]; omega)) ?_ | refine LO.callM (normal_c u true l (x + y) hd (by rw [hv]; omega) (fun _ => by rw [eq_comm, decide_eq_true_eq]; omega)) ?_
        rintro _ _ _ ⟨nb, d, rfl, hb, rfl, rfl⟩
        simp only [List.nil_append, List.cons_append]
        repeat' (first | refine go ?_ | refine goX ?_ | refine goB ?_ | (refine goG ?_; intro g) | (refine goV ?_; intro v) | refine goD ?_ | refine goXD ?_ | (refine goDG ?_; intro g) | (refine goDV ?_; intro v) | refine d147 ?_ | fail)
        refine WC.ret ?_
        exact Fin.p [] [isZ (.agg #[.bool nb, d]) (x + y)] (ResE.cV rfl rfl meA T.r35 rfl) meA (List.nil_sublist _) haA ⟨nb, _, rfl, hb, rfl, rfl⟩
      · have hc0 : cmpN x.natAbs y.natAbs = 0 ∨ cmpN x.natAbs y.natAbs = 1 := by
          by_cases c2 : y.natAbs < x.natAbs
          · exact .inr (cmpN_gt c2)
          · rw [show x.natAbs = y.natAbs by omega]; exact .inl (cmpN_eq _)
        have hlen : (digs y.natAbs).length ≤ (digs x.natAbs).length := Nat.le_of_not_lt fun h => by have := digs_lt_len h; omega
        repeat' (first | refine go ?_ | refine goX ?_ | refine goB ?_ | (refine goG ?_; intro g) | (refine goV ?_; intro v) | refine goD ?_ | refine goXD ?_ | (refine goDG ?_; intro g) | (refine goDV ?_; intro v) | refine d147 ?_ | fail)
        first | refine WL.callK (rminus_c d1 d2 (digs x.natAbs) (digs y.natAbs) (digs_Dg _) (digs_Dg _) h1 hlen (by rw [val_digs, val_digs]; omega)) ?_ | refine WD.callK (rminus_c d1 d2 (digs x.natAbs) (digs y.natAbs) (digs_Dg _) (digs_Dg _) h1 hlen (by rw [val_digs, val_digs]; omega)) ?_ | refine LO.callM (rminus_c d1 d2 (digs x.natAbs) (digs y.natAbs) (digs_Dg _) (digs_Dg _) h1 hlen (by rw [val_digs, val_digs]; omega)) ?_
        rintro u _ _ ⟨l, rfl, rfl, hd, hv, hl⟩
        simp only [List.nil_append, List.cons_append]
        rw [val_digs, val_digs] at hv
        repeat' (first | refine go ?_ | refine goX ?_ | refine goB ?_ | (refine goG ?_; intro g) | (refine goV ?_; intro v) | refine goD ?_ | refine goXD ?_ | (refine goDG ?_; intro g) | (refine goDV ?_; intro v) | refine d147 ?_ | fail)
        first | refine WL.callK (normal_c u false l (x + y) hd (by rw [hv]; omega) (fun hne => by rw [hv] at hne; rw [eq_comm, decide_eq_false_iff_not]; omega)) ?_ | refine WD.callK (normal_c u false l (x + y) hd (by rw [hv]; omega) (fun hne => by rw [hv] at hne; rw [eq_comm, decide_eq_false_iff_not]; omega)) ?_ | refine LO.callM (normal_c u false l (x + y) hd (by rw [hv]; omega) (fun hne => by rw [hv] at hne; rw [eq_comm, decide_eq_false_iff_not]; omega)) ?_
        rintro _ _ _ ⟨nb, d, rfl, hb, rfl, rfl⟩
        simp only [List.nil_append, List.cons_append]
        repeat' (first | refine go ?_ | refine goX ?_ | refine goB ?_ | (refine goG ?_; intro g) | (refine goV ?_; intro v) | refine goD ?_ | refine goXD ?_ | (refine goDG ?_; intro g) | (refine goDV ?_; intro v) | refine d147 ?_ | fail)
        refine WC.ret ?_
        exact Fin.p [] [isZ (.agg #[.bool nb, d]) (x + y)] (ResE.cV rfl rfl meA T.r35 rfl) meA (List.nil_sublist _) haA ⟨nb, _, rfl, hb, rfl, rfl⟩
    | false =>
      have hy : ¬ y < 0 := of_decide_eq_false hb2.symm
      repeat' (first | refine go ?_ | refine goX ?_ | refine goB ?_ | (refine goG ?_; intro g) | (refine goV ?_; intro v) | refine goD ?_ | refine goXD ?_ | (refine goDG ?_; intro g) | (refine goDV ?_; intro v) | refine d147 ?_ | fail)
      first | refine WL.callK (rplus_c d1 d2 (digs x.natAbs) (digs y.natAbs) (digs_Dg _) (digs_Dg _) h1 h2) ?_ | refine WD.callK (rplus_c d1 d2 (digs x.natAbs) (digs y.natAbs) (digs_Dg _) (digs_Dg _) h1 h2) ?_ | refine LO.callM (rplus_c d1 d2 (digs x.natAbs) (digs y.natAbs) (digs_Dg _) (digs_Dg _) h1 h2) ?_
      rintro u _ _ ⟨l, rfl, rfl, hd, hv, hl⟩
      simp only [List.nil_append, List.cons_append]
      rw [val_digs, val_digs] at hv
      repeat' (first | refine go ?_ | refine goX ?_ | refine goB ?_ | (refine goG ?_; intro g) | (refine goV ?_; intro v) | refine goD ?_ | refine goXD ?_ | (refine goDG ?_; intro g) | (refine goDV ?_; intro v) | refine d147 ?_ | fail)
      first | refine WL.callK (normal_c u false l (x + y) hd (by rw [hv]; omega) (fun _ => by rw [eq_comm, decide_eq_false_iff_not]; omega)) ?_ | refine WD.callK (normal_c u false l (x + y) hd (by rw [hv]; omega) (fun _ => by rw [eq_comm, decide_eq_false_iff_not]; omega)) ?_ | refine LO.callM (normal_c u false l (x + y) hd (by rw [hv]; omega) (fun _ => by rw [eq_comm, decide_eq_false_iff_not]; omega)) ?_
      rintro _ _ _ ⟨nb, d, rfl, hb, rfl, rfl⟩
      simp only [List.nil_append, List.cons_append]
      repeat' (first | refine go ?_ | refine goX ?_ | refine goB ?_ | (refine goG ?_; intro g) | (refine goV ?_; intro v) | refine goD ?_ | refine goXD ?_ | (refine goDG ?_; intro g) | (refine goDV ?_; intro v) | refine d147 ?_ | fail)
      refine WC.ret ?_
      exact Fin.p [] [isZ (.agg #[.bool nb, d]) (x + y)] (ResE.cV rfl rfl meA T.r35 rfl) meA (List.nil_sublist _) haA ⟨nb, _, rfl, hb, rfl, rfl⟩
theorem mu_split {o : List Int} {i k : Nat} (hd : Dg o) (v : Int) (hv : 0 ≤ v) (h : v ≤ 999999999999999999) : Dgt (v % 1000000000) ∧ Dgt (v / 1000000000) ∧ v % 1000000000 + BB * (v / 1000000000) = v := ⟨⟨by omega, by show _ < (1000000000 : Int); omega⟩, ⟨by omega, by show _ < (1000000000 : Int); omega⟩, by show _ + 1000000000 * _ = _; omega⟩
set_option maxHeartbeats 4000000 in
set_option maxRecDepth 8000 in
theorem rmul_c (v1 v2 : Value) (x y : Int) (h1 : (digs x.natAbs).length ≤ 1000000000) (h2 : (digs y.natAbs).length ≤ 1000000000) : FnB Tryz.prog 152 [v1, v2] [] [isZ v1 x, isZ v2 y] (IsZ (x * y)) := by
  refine fn_of [(0, v1), (1, v2)] 76 Tryz.func152 rfl Tryz.ntmps152 (by kernel_rfl) rfl suA fun h0 => ?_
  refine WC.openZ (v := v1) (z := x) hmA fun n1 d1 hv hb1 => ?_
  subst hv
  refine WC.openZ (v := v2) (z := y) hmA fun n2 d2 hv hb2 => ?_
  subst hv
  refine WC.fact (sI d1 (digs x.natAbs)) (hasZ_d hmA) ?_
  refine WC.fact (sI d2 (digs y.natAbs)) (hasZ_d hmA) ?_
  obtain ⟨a, ha⟩ : ∃ a, digs x.natAbs = a := ⟨_, rfl⟩
  obtain ⟨b, hb⟩ : ∃ b, digs y.natAbs = b := ⟨_, rfl⟩
  have hda : Dg a := ha ▸ digs_Dg _
  have hdb : Dg b := hb ▸ digs_Dg _
  have hab := nabs_mul_val x y
  have hne := @val_mul_ne x y
  rw [ha] at h1 hab hne ⊢
  rw [hb] at h2 hab hne ⊢
  repeat' (first | refine go ?_ | refine goX ?_ | refine goB ?_ | (refine goG ?_; intro g) | (refine goV ?_; intro v) | refine goD ?_ | refine goXD ?_ | (refine goDG ?_; intro g) | (refine goDV ?_; intro v) | refine d152 ?_ | fail)
  rename_i g2 g3
  revert g; intro g4
  refine WC.lp (σ := Nat × List Int) (fun s => [(6, .int .i64 (s.1 : Int)), (5, v), (2, ptr g2), (3, ptr g3), (4, ptr g4)]) (fun s => [Ow.slice v 3 1 (ints s.2), Ow.cells g4 35 [.bool false, .slice none 0 0], Ow.cells g3 35 [.bool n2, d2], Ow.cells g2 35 [.bool n1, d1]]) (fun _ => [ge h0, sI d1 a, sI d2 b])
    (fun s => s.1 ≤ a.length ∧ Mu a b s.2 s.1 0 0) (fun s => a.length - s.1) (0, List.replicate (a.length + b.length) 0) ⟨by simp, Mu.z⟩ ?_
  rintro ⟨i, o⟩ ⟨hi, hm⟩
  simp only at hi hm ⊢
  have hol := hm.l
  by_cases hlt : i < a.length
  · repeat' (first | refine go ?_ | refine goX ?_ | refine goB ?_ | (refine goG ?_; intro g) | (refine goV ?_; intro v) | refine goD ?_ | refine goXD ?_ | (refine goDG ?_; intro g) | (refine goDV ?_; intro v) | refine d152 ?_ | fail)
    refine WC.lp (σ := Nat × List Int × Int) (fun s => [(8, .int .i64 (s.1 : Int)), (7, .int .i64 s.2.2), (6, .int .i64 (i : Int)), (5, v), (2, ptr g2), (3, ptr g3), (4, ptr g4)]) (fun s => [Ow.slice v 3 1 (ints s.2.1), Ow.cells g4 35 [.bool false, .slice none 0 0], Ow.cells g3 35 [.bool n2, d2], Ow.cells g2 35 [.bool n1, d1]]) (fun _ => [ge h0, sI d1 a, sI d2 b])
      (fun s => s.1 ≤ b.length ∧ Mu a b s.2.1 i s.1 s.2.2) (fun s => b.length - s.1) (0, o, 0) ⟨by simp, hm⟩ ?_
    rintro ⟨k, o2, c⟩ ⟨hk, hm2⟩
    simp only at hk hm2 ⊢
    have hol2 := hm2.l
    by_cases hkl : k < b.length
    · have hbd := mu_bd (hm2.d.any (i + k)) (hda.any i) (hdb.any k) hm2.cd
      obtain ⟨q1, q2, q3⟩ := mu_split (i := i) (k := k) hm2.d (o2.getD (i + k) 0 + a.getD i 0 * b.getD k 0 + c) hbd.1 hbd.2.1
      have hst := hm2.step hlt hkl q1 q2 q3
      have hx : 0 ≤ o2.getD (i + k) 0 ∧ o2.getD (i + k) 0 < 1000000000 := hm2.d.any (i + k)
      have hcd : 0 ≤ c ∧ c < 1000000000 := hm2.cd
      have hP1 : 0 ≤ a.getD i 0 * b.getD k 0 := by omega
      have hP2 : a.getD i 0 * b.getD k 0 ≤ 9223372036854775807 := by omega
      repeat' (first | refine go ?_ | refine goX ?_ | refine goB ?_ | (refine goG ?_; intro g) | (refine goV ?_; intro v) | refine goD ?_ | refine goXD ?_ | (refine goDG ?_; intro g) | (refine goDV ?_; intro v) | refine d152 ?_ | fail)
      exact LoopEnd.mk (k + 1, _, _) ⟨by show k + 1 ≤ b.length; omega, hst⟩ (by show b.length - (k + 1) < b.length - k; omega)
    · obtain rfl : k = b.length := by omega
      repeat' (first | refine go ?_ | refine goX ?_ | refine goB ?_ | (refine goG ?_; intro g) | (refine goV ?_; intro v) | refine goD ?_ | refine goXD ?_ | (refine goDG ?_; intro g) | (refine goDV ?_; intro v) | refine d152 ?_ | fail)
      exact LoopEnd.mk (i + 1, _) ⟨by show i + 1 ≤ a.length; omega, hm2.row hlt⟩ (by show a.length - (i + 1) < a.length - i; omega)
  · obtain rfl : i = a.length := by omega
    obtain ⟨h3, h4⟩ := hm.fin
    repeat' (first | refine go ?_ | refine goX ?_ | refine goB ?_ | (refine goG ?_; intro g) | (refine goV ?_; intro v) | refine goD ?_ | refine goXD ?_ | (refine goDG ?_; intro g) | (refine goDV ?_; intro v) | refine d152 ?_ | fail)
    refine WL.freezeI (l := o) (v := v) (el := 3) (by repeat (first | exact Sel.head | apply Sel.tail)) ?_
    first | refine WL.callK (normal_c v (!(n1 == n2)) o (x * y) h3 (by rw [hab, h4]) (fun hxy => sign_mul hb1 hb2 (hne (by rw [← h4]; exact hxy)))) ?_ | refine WD.callK (normal_c v (!(n1 == n2)) o (x * y) h3 (by rw [hab, h4]) (fun hxy => sign_mul hb1 hb2 (hne (by rw [← h4]; exact hxy)))) ?_ | refine LO.callM (normal_c v (!(n1 == n2)) o (x * y) h3 (by rw [hab, h4]) (fun hxy => sign_mul hb1 hb2 (hne (by rw [← h4]; exact hxy)))) ?_
    rintro _ _ _ ⟨nb, d, rfl, hb, rfl, rfl⟩
    simp only [List.nil_append, List.cons_append]
    repeat' (first | refine go ?_ | refine goX ?_ | refine goB ?_ | (refine goG ?_; intro g) | (refine goV ?_; intro v) | refine goD ?_ | refine goXD ?_ | (refine goDG ?_; intro g) | (refine goDV ?_; intro v) | refine d152 ?_ | fail)
    refine WC.ret ?_
    exact Fin.p [] [isZ (.agg #[.bool nb, d]) (x * y)] (ResE.cV rfl rfl meA T.r35 rfl) meA (List.nil_sublist _) haA ⟨nb, _, rfl, hb, rfl, rfl⟩
end Rn
end Go.Proofs.YthggloiigkbfeaaGreat
