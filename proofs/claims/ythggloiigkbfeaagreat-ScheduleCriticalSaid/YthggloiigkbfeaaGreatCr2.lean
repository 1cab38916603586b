/- Lemmas for the proof of a law: The run of the executor: each lemma takes the steps that it can take and leaves what follows. Conditions: none. -/
import Derived.Test.YthggloiigkbfeaaGreatCr1
set_option linter.unusedVariables false
set_option linter.unusedSimpArgs false
set_option linter.unusedSectionVars false
namespace Go.Proofs.YthggloiigkbfeaaGreat
namespace S
open W Go.RowKit
attribute [local irreducible] WC WL WD YO LO LoopEnd W.Fin Scalar SliceT FieldAt Row ArrT AllocT KnS Has W.One SrcE IntT
structure Bx (p : Prop) : Prop where
  h : p
theorem allAnd {α : Type} {p q : α → Prop} (h1 : ∀ a, p a) (h2 : ∀ a, q a) : ∀ a, p a ∧ q a := fun a => ⟨h1 a, h2 a⟩
theorem meA {G : Prop} (h : G := by first | (((repeat (first | exact List.Mem.head _ | apply List.Mem.tail))); done) | fail) : G := h
theorem hmA {G : Prop} (h : G := by first | (((focus (apply Has.mem; (repeat (first | exact List.Mem.head _ | apply List.Mem.tail)); done))); done) | fail) : G := h
theorem sfA {G : Prop} (h : G := by first | ((repeat (first | exact HasAll.nil | (apply HasAll.cons; (focus (apply Has.mem; (repeat (first | exact List.Mem.head _ | apply List.Mem.tail)); done))))); done) | fail) : G := h
theorem suA {G : Prop} (h : G := by first | ((repeat (first | exact Sub.nil _ | refine Sub.cons rfl ?_)); done) | fail) : G := h
theorem slA {G : Prop} (h : G := by first | ((repeat (first | exact List.Sublist.refl _ | exact List.nil_sublist _ | apply List.Sublist.cons_cons | apply List.Sublist.cons)); done) | fail) : G := h
theorem evA {G : Prop} (h : G := by first | ((repeat (first | exact Evs.nil | (apply Evs.cons; exact rfl))); done) | fail) : G := h
theorem seA {G : Prop} (h : G := by first | (((repeat (first | exact Sel.head | apply Sel.tail))); done) | fail) : G := h
theorem t0A {G : Prop} (h : G := by first | (((first | exact T.al3 | exact T.al4 | exact T.al22 | exact T.al26 | exact T.al32 | exact T.al35 | exact T.al37 | exact T.al38 | exact T.al59 | exact T.al103 | exact T.al109 | exact T.al111 | exact T.al114 | exact T.al161 | exact T.al164 | exact T.al5 | exact T.al23 | exact T.al73 | exact T.al74 | exact T.al76 | exact T.al78 | exact T.al81 | exact T.al82 | exact T.al83 | exact T.al85 | exact T.al87 | exact T.al89 | exact T.al94 | exact T.al143 | exact T.al144 | exact T.al149 | exact T.al171 | exact T.al182 | exact T.al185)); done) | fail) : G := h
theorem t1A {G : Prop} (h : G := by first | (((first | exact T.f35_0 | exact T.f35_1 | exact T.f37_0 | exact T.f37_1 | exact T.f59_0 | exact T.f59_1 | exact T.f59_2 | exact T.f103_0 | exact T.f103_1 | exact T.f114_0 | exact T.f114_1 | exact T.f76_0 | exact T.f76_1 | exact T.f76_2 | exact T.f78_0 | exact T.f78_1 | exact T.f78_2 | exact T.f85_0 | exact T.f85_1 | exact T.f85_2 | exact T.f85_3 | exact T.f85_4 | exact T.f89_0 | exact T.f89_1 | exact T.f89_2 | exact T.f89_3 | exact T.f89_4 | exact T.f149_0 | exact T.f149_1 | exact T.f149_2)); done) | fail) : G := h
theorem t2A {G : Prop} (h : G := by first | (((first | exact T.sc3 | exact T.sc4 | exact T.sc22 | exact T.sc26 | exact T.sc32 | exact T.sc38 | exact T.sc109 | exact T.sc111 | exact T.sc161 | exact T.sc164 | exact T.sc5 | exact T.sc9 | exact T.sc23 | exact T.sc73 | exact T.sc74 | exact T.sc81 | exact T.sc87 | exact T.sc94 | exact T.sc143 | exact T.sc144 | exact T.sc171 | exact T.sc182 | exact T.sc185)); done) | fail) : G := h
theorem t3A {G : Prop} (h : G := by first | (((first | exact T.z3 | exact T.z4 | exact T.z22 | exact T.z26 | exact T.z32 | exact T.z38 | exact T.z109 | exact T.z111 | exact T.z161 | exact T.z164 | exact T.z5 | exact T.z9 | exact T.z23 | exact T.z73 | exact T.z74 | exact T.z81 | exact T.z87 | exact T.z94 | exact T.z143 | exact T.z144 | exact T.z171 | exact T.z182 | exact T.z185)); done) | fail) : G := h
theorem t4A {G : Prop} (h : G := by first | (((first | exact T.r35 | exact T.r37 | exact T.r59 | exact T.r103 | exact T.r114 | exact T.r76 | exact T.r78 | exact T.r82 | exact T.r83 | exact T.r85 | exact T.r89 | exact T.r149)); done) | fail) : G := h
theorem t5A {G : Prop} (h : G := by first | (((first | exact T.e22 | exact T.e32 | exact T.e38 | exact T.e109 | exact T.e111 | exact T.e161 | exact T.e23 | exact T.e171)); done) | fail) : G := h
theorem t6A {G : Prop} (h : G := by first | (((first | exact T.s22 | exact T.s32 | exact T.s38 | exact T.s109 | exact T.s111 | exact T.s161 | exact T.s23 | exact T.s171)); done) | fail) : G := h
theorem t7A {G : Prop} (h : G := by first | (((first | exact T.u3 | exact T.u26 | exact T.u164 | exact T.u5 | exact T.u73 | exact T.u74 | exact T.u182)); done) | fail) : G := h
theorem t8A {G : Prop} (h : G := by first | (((first | exact T.a82 | exact T.a83)); done) | fail) : G := h
theorem knA {G : Prop} (h : G := by first | (((first | (focus (apply KnS.f; exact hmA; done)) | (focus (apply KnS.oI; exact meA; done)) | (focus (apply KnS.o1; exact meA; done)) | (focus (apply KnS.f; apply hasA; exact hmA; omega; done)))); done) | fail) : G := h
theorem hsA {G : Prop} (h : G := by first | (((first | exact hmA | (focus (apply hasA; exact hmA; omega; done)) | (focus (apply Has.sc; exact hmA; omega; omega; omega; done)))); done) | fail) : G := h
theorem haA {G : Prop} (h : G := by first | ((repeat (first | exact HasAll.nil | (apply HasAll.cons; exact hsA))); done) | fail) : G := h
theorem hbA {G : Prop} (h : G := by first | ((repeat (first | exact HasAllB.nil | (apply HasAllB.cons; (first | (focus (apply HasB.oI; exact meA; done)) | (focus (apply HasB.c; exact meA; done)) | (focus (apply HasB.f; exact hsA; done)))))); done) | fail) : G := h
theorem ltA {G : Prop} (h : G := by first | (((first | (focus (apply Or.inr; constructor; (repeat (first | exact List.Sublist.refl _ | exact List.nil_sublist _ | apply List.Sublist.cons_cons | apply List.Sublist.cons)); (first | exact fun _ h => h | (intro f hf; (repeat (first | exact hf | apply List.Mem.tail)))); done)) | (apply Or.inl; kernel_rfl))); done) | fail) : G := h
theorem onA {G : Prop} (h : G := by first | (((first | exact ints_one _ | (intro u hu; simp only [List.mem_cons, List.not_mem_nil, or_false] at hu; first | (subst hu; rfl) | (rcases hu with rfl | rfl | rfl <;> rfl)))); done) | fail) : G := h
theorem leA {G : Prop} (h : G := by first | (((simp only [List.length_map, List.length_append, List.length_cons, List.length_nil, List.length_replicate, List.length_take]; omega)); done) | fail) : G := h
theorem y_load {G : Prop} (h : G := by first | (((first | (apply ldT0; exact t2A; exact rfl; exact hmA; omega) | (apply ldT1; exact t2A; exact rfl; exact hmA; omega) | (apply ldT2; exact t2A; exact rfl; exact hmA; omega) | (apply ldT; exact t4A; exact rfl; exact hmA; omega) | (apply YO.ldWI0; exact t4A; exact rfl; exact meA; (first | omega | (simp only [List.length_set, List.length_replicate]; omega))) | (apply YO.ldWF0; exact t4A; exact rfl; exact hmA; (first | omega | (simp only [List.length_set, List.length_replicate]; omega))) | (apply YO.ldCI; exact t2A; exact rfl; exact meA; (first | omega | (simp only [List.length_set, List.length_replicate]; omega))) | (apply YO.ldFI; exact t2A; exact rfl; exact hmA; (first | omega | (simp only [List.length_set, List.length_replicate]; omega))) | (apply YO.ldF; exact t2A; exact rfl; exact hmA; exact rfl) | (apply YO.ldS; exact t2A; exact rfl; exact hsA; omega) | (apply YO.ldB; exact t2A; exact rfl; exact meA; exact rfl) | (apply YO.ldOI; exact t2A; exact rfl; exact meA; omega))); done) | fail) : G := h
theorem y_indexAddr {G : Prop} (h : G := by first | (((first | (apply YO.ix1; exact t6A; exact rfl; exact rfl; exact knA; omega) | (apply YO.ix; exact t6A; exact rfl; exact rfl; exact knA; omega) | (apply YO.ix1'; exact t6A; exact rfl; exact rfl; exact knA; omega; omega) | (apply YO.ix'; exact t6A; exact rfl; exact rfl; exact knA; omega; omega) | (apply YO.ixN; exact t8A; exact rfl; exact rfl; omega; ((try simp only [Nat.zero_add, Nat.mul_one, Nat.reduceAdd, Nat.reduceMul]); exact rfl)) | (apply YO.ixNI; exact t8A; exact rfl; exact rfl; omega; omega; ((try simp only [Nat.zero_add, Nat.mul_one, Nat.reduceAdd, Nat.reduceMul]); exact rfl)))); done) | fail) : G := h
theorem y_slice {G : Prop} (h : G := by first | (((first | (apply YO.sliceArr; exact t8A; exact rfl; exact rfl; omega; decide) | (apply YO.slice; exact t6A; exact rfl; exact knA; exact Or.inl ⟨rfl, rfl⟩; exact Or.inr ⟨_, rfl, rfl⟩; omega; omega) | (apply YO.slice; exact t6A; exact rfl; exact knA; exact Or.inr ⟨_, rfl, rfl⟩; exact Or.inl ⟨rfl, rfl⟩; omega; omega))); done) | fail) : G := h
theorem y_eql {G : Prop} (h : G := by first | (((first | (first | (apply YO.eql_t; exact rfl; exact rfl; omega) | (apply YO.eql_f; exact rfl; exact rfl; omega)) | (apply YO.eqNil_t; exact t6A; exact rfl; exact knA; assumption) | (apply YO.eqNil_f; exact t6A; exact rfl; exact knA; assumption))); done) | fail) : G := h
theorem y_fieldAddr {G : Prop} (h : G := by first | (((first | (apply YO.fieldE; exact t1A; exact rfl) | (apply YO.fieldN; exact t1A; exact rfl; ((try simp only [Nat.zero_add, Nat.mul_one, Nat.reduceAdd, Nat.reduceMul]); exact rfl)))); done) | fail) : G := h
theorem y_len {G : Prop} (h : G := by first | (((apply YO.len; exact t6A; exact rfl; exact knA)); done) | fail) : G := h
theorem y_conv {G : Prop} (h : G := by first | (((first | (apply YO.convU; exact t7A; exact t7A; exact rfl; omega; omega) | (apply YO.convI; exact t7A; exact t7A; exact rfl; omega; omega))); done) | fail) : G := h
theorem y_makeFunc {G : Prop} (h : G := by first | (((apply YO.makeFunc; (repeat (first | exact Evs.nil | (apply Evs.cons; exact rfl))); (repeat (first | exact Evs.nil | (apply Evs.cons; exact rfl))))); done) | fail) : G := h
theorem y_and {G : Prop} (h : G := by first | (((first | (apply YO.and1; exact rfl; exact rfl; omega; omega) | (apply YO.and; exact rfl; exact rfl; omega; omega; omega; omega))); done) | fail) : G := h
theorem y_add {G : Prop} (h : G := by first | (((first | (apply YO.inc; exact rfl; exact rfl; omega) | (apply YO.add; exact rfl; exact rfl; omega; omega))); done) | fail) : G := h
theorem y_lss {G : Prop} (h : G := by first | (((first | (apply YO.lss_t; exact rfl; exact rfl; omega) | (apply YO.lss_f; exact rfl; exact rfl; omega))); done) | fail) : G := h
theorem y_neq {G : Prop} (h : G := by first | (((first | (apply YO.neq_t; exact rfl; exact rfl; omega) | (apply YO.neq_f; exact rfl; exact rfl; omega))); done) | fail) : G := h
theorem y_gtr {G : Prop} (h : G := by first | (((first | (apply YO.gtr_t; exact rfl; exact rfl; omega) | (apply YO.gtr_f; exact rfl; exact rfl; omega))); done) | fail) : G := h
theorem y_geq {G : Prop} (h : G := by first | (((first | (apply YO.geq_t; exact rfl; exact rfl; omega) | (apply YO.geq_f; exact rfl; exact rfl; omega))); done) | fail) : G := h
theorem y_leq {G : Prop} (h : G := by first | (((first | (apply YO.leq_t; exact rfl; exact rfl; omega) | (apply YO.leq_f; exact rfl; exact rfl; omega))); done) | fail) : G := h
theorem y_shl {G : Prop} (h : G := by first | (((apply YO.shl'; exact rfl; exact rfl; omega; omega; (first | omega | decide); (first | omega | decide))); done) | fail) : G := h
theorem y_pick {G : Prop} (h : G := by first | (((first | (apply YO.pick_t; exact rfl; exact rfl) | (apply YO.pick_f; exact rfl; exact rfl))); done) | fail) : G := h
theorem y_unot {G : Prop} (h : G := by first | (((first | (apply YO.not_t; exact rfl) | (apply YO.not_f; exact rfl))); done) | fail) : G := h
theorem y_or {G : Prop} (h : G := by first | (((apply YO.or; exact rfl; exact rfl; omega; omega; omega; omega)); done) | fail) : G := h
theorem go {G G' : Prop} (h : G') (s : Bx G' → G := by
  intro h
  (first
    | apply WL.nil
    | (apply WL.skg; exact rfl; exact rfl)
    | (apply WL.skg0; exact rfl)
    | (apply WL.k_move; (apply YO.move; exact rfl); exact rfl; exact rfl)
    | (apply WL.k_assign; (apply YO.assign; exact rfl); exact rfl; exact rfl)
    | (apply WL.k_lss; exact y_lss; exact rfl; exact rfl)
    | (apply WL.k_add; exact y_add; exact rfl; exact rfl)
    | (apply WL.k_len; exact y_len; exact rfl; exact rfl)
    | (apply WL.k_indexAddr; exact y_indexAddr; exact rfl; exact rfl)
    | (apply WL.k_load; exact y_load; exact rfl; exact rfl)
    | (apply WL.k_pick; exact y_pick; exact rfl; exact rfl)
    | (apply WL.k_fieldAddr; exact y_fieldAddr; exact rfl; exact rfl)
    | (apply WL.k_eql; exact y_eql; exact rfl; exact rfl)
    | (apply WL.k_neq; exact y_neq; exact rfl; exact rfl)
    | (apply WL.k_nil; (apply YO.nil; exact rfl); exact rfl; exact rfl)
    | (apply WL.k_extract; (apply YO.extract; exact rfl; exact rfl); exact rfl; exact rfl)
    | (apply WL.k_gtr; exact y_gtr; exact rfl; exact rfl)
    | (apply WL.k_geq; exact y_geq; exact rfl; exact rfl)
    | (apply WL.k_leq; exact y_leq; exact rfl; exact rfl)
    | (apply WL.k_sub; (apply YO.sub; exact rfl; exact rfl; omega; omega); exact rfl; exact rfl)
    | (apply WL.k_mul; (apply YO.mul; exact rfl; exact rfl; omega; omega); exact rfl; exact rfl)
    | (apply WL.k_rem; (apply YO.rem; exact rfl; exact rfl; omega; omega); exact rfl; exact rfl)
    | (apply WL.k_quo; (apply YO.quo; exact rfl; exact rfl; omega; omega; omega); exact rfl; exact rfl)
    | (apply WL.k_unot; exact y_unot; exact rfl; exact rfl)
    | (apply WL.k_uneg; (apply YO.neg; exact rfl; omega; omega); exact rfl; exact rfl)
    | (apply WL.k_max; (apply YO.max; exact rfl; exact rfl); exact rfl; exact rfl)
    | (apply WL.k_min; (apply YO.min; exact rfl; exact rfl); exact rfl; exact rfl)
    | (apply WL.k_makeFunc; exact y_makeFunc; exact rfl; exact rfl)
    | (apply WL.k_conv; exact y_conv; exact rfl; exact rfl)
    | (apply WL.k_shl; exact y_shl; exact rfl; exact rfl)
    | (apply WL.k_shr; (apply YO.shr'; exact rfl; exact rfl; omega; omega); exact rfl; exact rfl)
    | (apply WL.k_and; exact y_and; exact rfl; exact rfl)
    | (apply WL.k_or; exact y_or; exact rfl; exact rfl)
    | (apply WL.k_andNot; (apply YO.anot; exact rfl; exact rfl); exact rfl; exact rfl)
    | (apply WL.k_slice; exact y_slice; exact rfl; exact rfl)
    | apply WC.seq
    | apply WC.region
    | apply WC.block
    | (apply WC.cond_t; exact rfl)
    | (apply WC.cond_f; exact rfl)
    | apply WC.exit
    | apply WC.skip
    | apply WC.label
    | (apply WL.kl_store; rotate_left; exact rfl; (first | (apply LO.storeI; exact rfl; exact rfl; exact t3A; exact seA; (first | omega | (simp only [List.length_set, List.length_replicate]; omega))) | (apply LO.storeWI; exact rfl; exact rfl; exact seA; exact t4A; (first | omega | (simp only [List.length_set, List.length_replicate]; omega)); (first | (simp only [List.length_map, List.length_set, List.length_replicate, ints]; omega) | rfl)) | (apply LO.store1; exact rfl; exact rfl; exact t3A; (first | exact One.lit rfl rfl | (apply One.sl; exact knA)); exact seA; (first | (simp only [List.length_cons, List.length_nil]; omega) | (simp; omega)); (first | (simp only [List.set_cons_succ, List.set_cons_zero]; exact rfl) | exact rfl)) | (apply LO.storeO1; exact rfl; exact rfl; exact t3A; (first | exact One.lit rfl rfl | (apply One.sl; exact knA)); exact seA; (first | (simp only [List.length_cons, List.length_nil]; omega) | (simp; omega)); (first | (simp only [List.set_cons_succ, List.set_cons_zero]; exact rfl) | exact rfl)) | (apply LO.storeL; exact rfl; exact rfl; exact seA; exact t4A; exact rfl; exact rfl; (repeat (first | exact OneL.nil | (apply OneL.cons; (first | exact One.lit rfl rfl | (apply One.sl; exact knA)))))))))
  repeat (first
    | apply WL.nil
    | (apply WL.skg; exact rfl; exact rfl)
    | (apply WL.skg0; exact rfl)
    | (apply WL.k_move; (apply YO.move; exact rfl); exact rfl; exact rfl)
    | (apply WL.k_assign; (apply YO.assign; exact rfl); exact rfl; exact rfl)
    | (apply WL.k_lss; exact y_lss; exact rfl; exact rfl)
    | (apply WL.k_add; exact y_add; exact rfl; exact rfl)
    | (apply WL.k_len; exact y_len; exact rfl; exact rfl)
    | (apply WL.k_indexAddr; exact y_indexAddr; exact rfl; exact rfl)
    | (apply WL.k_load; exact y_load; exact rfl; exact rfl)
    | (apply WL.k_pick; exact y_pick; exact rfl; exact rfl)
    | (apply WL.k_fieldAddr; exact y_fieldAddr; exact rfl; exact rfl)
    | (apply WL.k_eql; exact y_eql; exact rfl; exact rfl)
    | (apply WL.k_neq; exact y_neq; exact rfl; exact rfl)
    | (apply WL.k_nil; (apply YO.nil; exact rfl); exact rfl; exact rfl)
    | (apply WL.k_extract; (apply YO.extract; exact rfl; exact rfl); exact rfl; exact rfl)
    | (apply WL.k_gtr; exact y_gtr; exact rfl; exact rfl)
    | (apply WL.k_geq; exact y_geq; exact rfl; exact rfl)
    | (apply WL.k_leq; exact y_leq; exact rfl; exact rfl)
    | (apply WL.k_sub; (apply YO.sub; exact rfl; exact rfl; omega; omega); exact rfl; exact rfl)
    | (apply WL.k_mul; (apply YO.mul; exact rfl; exact rfl; omega; omega); exact rfl; exact rfl)
    | (apply WL.k_rem; (apply YO.rem; exact rfl; exact rfl; omega; omega); exact rfl; exact rfl)
    | (apply WL.k_quo; (apply YO.quo; exact rfl; exact rfl; omega; omega; omega); exact rfl; exact rfl)
    | (apply WL.k_unot; exact y_unot; exact rfl; exact rfl)
    | (apply WL.k_uneg; (apply YO.neg; exact rfl; omega; omega); exact rfl; exact rfl)
    | (apply WL.k_max; (apply YO.max; exact rfl; exact rfl); exact rfl; exact rfl)
    | (apply WL.k_min; (apply YO.min; exact rfl; exact rfl); exact rfl; exact rfl)
    | (apply WL.k_makeFunc; exact y_makeFunc; exact rfl; exact rfl)
    | (apply WL.k_conv; exact y_conv; exact rfl; exact rfl)
    | (apply WL.k_shl; exact y_shl; exact rfl; exact rfl)
    | (apply WL.k_shr; (apply YO.shr'; exact rfl; exact rfl; omega; omega); exact rfl; exact rfl)
    | (apply WL.k_and; exact y_and; exact rfl; exact rfl)
    | (apply WL.k_or; exact y_or; exact rfl; exact rfl)
    | (apply WL.k_andNot; (apply YO.anot; exact rfl; exact rfl); exact rfl; exact rfl)
    | (apply WL.k_slice; exact y_slice; exact rfl; exact rfl)
    | apply WC.seq
    | apply WC.region
    | apply WC.block
    | (apply WC.cond_t; exact rfl)
    | (apply WC.cond_f; exact rfl)
    | apply WC.exit
    | apply WC.skip
    | apply WC.label
    | (apply WL.kl_store; rotate_left; exact rfl; (first | (apply LO.storeI; exact rfl; exact rfl; exact t3A; exact seA; (first | omega | (simp only [List.length_set, List.length_replicate]; omega))) | (apply LO.storeWI; exact rfl; exact rfl; exact seA; exact t4A; (first | omega | (simp only [List.length_set, List.length_replicate]; omega)); (first | (simp only [List.length_map, List.length_set, List.length_replicate, ints]; omega) | rfl)) | (apply LO.store1; exact rfl; exact rfl; exact t3A; (first | exact One.lit rfl rfl | (apply One.sl; exact knA)); exact seA; (first | (simp only [List.length_cons, List.length_nil]; omega) | (simp; omega)); (first | (simp only [List.set_cons_succ, List.set_cons_zero]; exact rfl) | exact rfl)) | (apply LO.storeO1; exact rfl; exact rfl; exact t3A; (first | exact One.lit rfl rfl | (apply One.sl; exact knA)); exact seA; (first | (simp only [List.length_cons, List.length_nil]; omega) | (simp; omega)); (first | (simp only [List.set_cons_succ, List.set_cons_zero]; exact rfl) | exact rfl)) | (apply LO.storeL; exact rfl; exact rfl; exact seA; exact t4A; exact rfl; exact rfl; (repeat (first | exact OneL.nil | (apply OneL.cons; (first | exact One.lit rfl rfl | (apply One.sl; exact knA)))))))))
  exact Bx.h h) : G := s ⟨h⟩
theorem goD {G G' : Prop} (h : G') (s : Bx G' → G := by
  intro h
  (first
    | apply WD.nil
    | (apply WD.skg; exact rfl; exact rfl; exact rfl)
    | (apply WD.skgl; exact rfl; exact rfl; exact rfl)
    | (apply WD.skgl0; exact rfl; exact rfl)
    | (apply WD.k_move; exact rfl; (apply YO.move; exact rfl); exact rfl; exact rfl)
    | (apply WD.k_assign; exact rfl; (apply YO.assign; exact rfl); exact rfl; exact rfl)
    | (apply WD.k_lss; exact rfl; exact y_lss; exact rfl; exact rfl)
    | (apply WD.k_add; exact rfl; exact y_add; exact rfl; exact rfl)
    | (apply WD.k_len; exact rfl; exact y_len; exact rfl; exact rfl)
    | (apply WD.k_indexAddr; exact rfl; exact y_indexAddr; exact rfl; exact rfl)
    | (apply WD.k_load; exact rfl; exact y_load; exact rfl; exact rfl)
    | (apply WD.k_pick; exact rfl; exact y_pick; exact rfl; exact rfl)
    | (apply WD.k_fieldAddr; exact rfl; exact y_fieldAddr; exact rfl; exact rfl)
    | (apply WD.k_eql; exact rfl; exact y_eql; exact rfl; exact rfl)
    | (apply WD.k_neq; exact rfl; exact y_neq; exact rfl; exact rfl)
    | (apply WD.k_nil; exact rfl; (apply YO.nil; exact rfl); exact rfl; exact rfl)
    | (apply WD.k_extract; exact rfl; (apply YO.extract; exact rfl; exact rfl); exact rfl; exact rfl)
    | (apply WD.k_gtr; exact rfl; exact y_gtr; exact rfl; exact rfl)
    | (apply WD.k_geq; exact rfl; exact y_geq; exact rfl; exact rfl)
    | (apply WD.k_leq; exact rfl; exact y_leq; exact rfl; exact rfl)
    | (apply WD.k_sub; exact rfl; (apply YO.sub; exact rfl; exact rfl; omega; omega); exact rfl; exact rfl)
    | (apply WD.k_mul; exact rfl; (apply YO.mul; exact rfl; exact rfl; omega; omega); exact rfl; exact rfl)
    | (apply WD.k_rem; exact rfl; (apply YO.rem; exact rfl; exact rfl; omega; omega); exact rfl; exact rfl)
    | (apply WD.k_quo; exact rfl; (apply YO.quo; exact rfl; exact rfl; omega; omega; omega); exact rfl; exact rfl)
    | (apply WD.k_unot; exact rfl; exact y_unot; exact rfl; exact rfl)
    | (apply WD.k_uneg; exact rfl; (apply YO.neg; exact rfl; omega; omega); exact rfl; exact rfl)
    | (apply WD.k_max; exact rfl; (apply YO.max; exact rfl; exact rfl); exact rfl; exact rfl)
    | (apply WD.k_min; exact rfl; (apply YO.min; exact rfl; exact rfl); exact rfl; exact rfl)
    | (apply WD.k_makeFunc; exact rfl; exact y_makeFunc; exact rfl; exact rfl)
    | (apply WD.k_conv; exact rfl; exact y_conv; exact rfl; exact rfl)
    | (apply WD.k_shl; exact rfl; exact y_shl; exact rfl; exact rfl)
    | (apply WD.k_shr; exact rfl; (apply YO.shr'; exact rfl; exact rfl; omega; omega); exact rfl; exact rfl)
    | (apply WD.k_and; exact rfl; exact y_and; exact rfl; exact rfl)
    | (apply WD.k_or; exact rfl; exact y_or; exact rfl; exact rfl)
    | (apply WD.k_andNot; exact rfl; (apply YO.anot; exact rfl; exact rfl); exact rfl; exact rfl)
    | (apply WD.k_slice; exact rfl; exact y_slice; exact rfl; exact rfl)
    | (apply WD.kl_store; exact rfl; rotate_left; exact rfl; (first | (apply LO.storeI; exact rfl; exact rfl; exact t3A; exact seA; (first | omega | (simp only [List.length_set, List.length_replicate]; omega))) | (apply LO.storeWI; exact rfl; exact rfl; exact seA; exact t4A; (first | omega | (simp only [List.length_set, List.length_replicate]; omega)); (first | (simp only [List.length_map, List.length_set, List.length_replicate, ints]; omega) | rfl)) | (apply LO.store1; exact rfl; exact rfl; exact t3A; (first | exact One.lit rfl rfl | (apply One.sl; exact knA)); exact seA; (first | (simp only [List.length_cons, List.length_nil]; omega) | (simp; omega)); (first | (simp only [List.set_cons_succ, List.set_cons_zero]; exact rfl) | exact rfl)) | (apply LO.storeO1; exact rfl; exact rfl; exact t3A; (first | exact One.lit rfl rfl | (apply One.sl; exact knA)); exact seA; (first | (simp only [List.length_cons, List.length_nil]; omega) | (simp; omega)); (first | (simp only [List.set_cons_succ, List.set_cons_zero]; exact rfl) | exact rfl)) | (apply LO.storeL; exact rfl; exact rfl; exact seA; exact t4A; exact rfl; exact rfl; (repeat (first | exact OneL.nil | (apply OneL.cons; (first | exact One.lit rfl rfl | (apply One.sl; exact knA))))))); constructor; exact ltA))
  repeat (first
    | apply WD.nil
    | (apply WD.skg; exact rfl; exact rfl; exact rfl)
    | (apply WD.skgl; exact rfl; exact rfl; exact rfl)
    | (apply WD.skgl0; exact rfl; exact rfl)
    | (apply WD.k_move; exact rfl; (apply YO.move; exact rfl); exact rfl; exact rfl)
    | (apply WD.k_assign; exact rfl; (apply YO.assign; exact rfl); exact rfl; exact rfl)
    | (apply WD.k_lss; exact rfl; exact y_lss; exact rfl; exact rfl)
    | (apply WD.k_add; exact rfl; exact y_add; exact rfl; exact rfl)
    | (apply WD.k_len; exact rfl; exact y_len; exact rfl; exact rfl)
    | (apply WD.k_indexAddr; exact rfl; exact y_indexAddr; exact rfl; exact rfl)
    | (apply WD.k_load; exact rfl; exact y_load; exact rfl; exact rfl)
    | (apply WD.k_pick; exact rfl; exact y_pick; exact rfl; exact rfl)
    | (apply WD.k_fieldAddr; exact rfl; exact y_fieldAddr; exact rfl; exact rfl)
    | (apply WD.k_eql; exact rfl; exact y_eql; exact rfl; exact rfl)
    | (apply WD.k_neq; exact rfl; exact y_neq; exact rfl; exact rfl)
    | (apply WD.k_nil; exact rfl; (apply YO.nil; exact rfl); exact rfl; exact rfl)
    | (apply WD.k_extract; exact rfl; (apply YO.extract; exact rfl; exact rfl); exact rfl; exact rfl)
    | (apply WD.k_gtr; exact rfl; exact y_gtr; exact rfl; exact rfl)
    | (apply WD.k_geq; exact rfl; exact y_geq; exact rfl; exact rfl)
    | (apply WD.k_leq; exact rfl; exact y_leq; exact rfl; exact rfl)
    | (apply WD.k_sub; exact rfl; (apply YO.sub; exact rfl; exact rfl; omega; omega); exact rfl; exact rfl)
    | (apply WD.k_mul; exact rfl; (apply YO.mul; exact rfl; exact rfl; omega; omega); exact rfl; exact rfl)
    | (apply WD.k_rem; exact rfl; (apply YO.rem; exact rfl; exact rfl; omega; omega); exact rfl; exact rfl)
    | (apply WD.k_quo; exact rfl; (apply YO.quo; exact rfl; exact rfl; omega; omega; omega); exact rfl; exact rfl)
    | (apply WD.k_unot; exact rfl; exact y_unot; exact rfl; exact rfl)
    | (apply WD.k_uneg; exact rfl; (apply YO.neg; exact rfl; omega; omega); exact rfl; exact rfl)
    | (apply WD.k_max; exact rfl; (apply YO.max; exact rfl; exact rfl); exact rfl; exact rfl)
    | (apply WD.k_min; exact rfl; (apply YO.min; exact rfl; exact rfl); exact rfl; exact rfl)
    | (apply WD.k_makeFunc; exact rfl; exact y_makeFunc; exact rfl; exact rfl)
    | (apply WD.k_conv; exact rfl; exact y_conv; exact rfl; exact rfl)
    | (apply WD.k_shl; exact rfl; exact y_shl; exact rfl; exact rfl)
    | (apply WD.k_shr; exact rfl; (apply YO.shr'; exact rfl; exact rfl; omega; omega); exact rfl; exact rfl)
    | (apply WD.k_and; exact rfl; exact y_and; exact rfl; exact rfl)
    | (apply WD.k_or; exact rfl; exact y_or; exact rfl; exact rfl)
    | (apply WD.k_andNot; exact rfl; (apply YO.anot; exact rfl; exact rfl); exact rfl; exact rfl)
    | (apply WD.k_slice; exact rfl; exact y_slice; exact rfl; exact rfl)
    | (apply WD.kl_store; exact rfl; rotate_left; exact rfl; (first | (apply LO.storeI; exact rfl; exact rfl; exact t3A; exact seA; (first | omega | (simp only [List.length_set, List.length_replicate]; omega))) | (apply LO.storeWI; exact rfl; exact rfl; exact seA; exact t4A; (first | omega | (simp only [List.length_set, List.length_replicate]; omega)); (first | (simp only [List.length_map, List.length_set, List.length_replicate, ints]; omega) | rfl)) | (apply LO.store1; exact rfl; exact rfl; exact t3A; (first | exact One.lit rfl rfl | (apply One.sl; exact knA)); exact seA; (first | (simp only [List.length_cons, List.length_nil]; omega) | (simp; omega)); (first | (simp only [List.set_cons_succ, List.set_cons_zero]; exact rfl) | exact rfl)) | (apply LO.storeO1; exact rfl; exact rfl; exact t3A; (first | exact One.lit rfl rfl | (apply One.sl; exact knA)); exact seA; (first | (simp only [List.length_cons, List.length_nil]; omega) | (simp; omega)); (first | (simp only [List.set_cons_succ, List.set_cons_zero]; exact rfl) | exact rfl)) | (apply LO.storeL; exact rfl; exact rfl; exact seA; exact t4A; exact rfl; exact rfl; (repeat (first | exact OneL.nil | (apply OneL.cons; (first | exact One.lit rfl rfl | (apply One.sl; exact knA))))))); constructor; exact ltA))
  exact Bx.h h) : G := s ⟨h⟩
theorem goG {G G' : Prop} (h : G') (s : Bx G' → G := by
  intro h
  (first
    | (apply WL.kl_alloc; rotate_left; exact rfl; exact rfl; apply LO.alloc'; (first | exact al70I | exact t0A))
    | (apply WL.kl_box; rotate_left; exact rfl; exact rfl; (first | (apply LO.boxA; exact rfl) | (apply LO.box1; exact rfl; (first | exact One.lit rfl rfl | (apply One.sl; exact knA))))))
  exact Bx.h h) : G := s ⟨h⟩
theorem goV {G G' : Prop} (h : G') (s : Bx G' → G := by
  intro h
  (first
    | (apply WL.kl_bs; rotate_left; exact rfl; exact rfl; apply LO.bs1; exact t6A; (repeat (first | exact EvP.nil | (apply EvP.cons; exact rfl))); (intro _; kernel_rfl); exact rfl; omega)
    | (apply WL.kl_app; rotate_left; exact rfl; exact rfl; apply LO.app; exact t5A; exact rfl; exact rfl; (first | (focus (apply SrcE.ints; exact hmA; done)) | (focus (apply SrcE.own1; exact meA; done)) | (focus (apply SrcE.one; exact meA; exact rfl; decide; done))); (intro v; exact seA); exact onA; exact leA; exact leA))
  exact Bx.h h) : G := s ⟨h⟩
theorem goDG {G G' : Prop} (h : G') (s : Bx G' → G := by
  intro h
  (first
    | (apply WD.kl_alloc; exact rfl; rotate_left; exact rfl; exact rfl; apply LO.alloc'; (first | exact al70I | exact t0A); apply allAnd; (intro _; exact ltA))
    | (apply WD.kl_box; exact rfl; rotate_left; exact rfl; exact rfl; (first | (apply LO.boxA; exact rfl) | (apply LO.box1; exact rfl; (first | exact One.lit rfl rfl | (apply One.sl; exact knA)))); apply allAnd; (intro _; exact ltA)))
  exact Bx.h h) : G := s ⟨h⟩
theorem goDV {G G' : Prop} (h : G') (s : Bx G' → G := by
  intro h
  (first
    | (apply WD.kl_bs; exact rfl; rotate_left; exact rfl; exact rfl; apply LO.bs1; exact t6A; (repeat (first | exact EvP.nil | (apply EvP.cons; exact rfl))); (intro _; kernel_rfl); exact rfl; omega; apply allAnd; (intro _; exact ltA))
    | (apply WD.kl_app; exact rfl; rotate_left; exact rfl; exact rfl; apply LO.app; exact t5A; exact rfl; exact rfl; (first | (focus (apply SrcE.ints; exact hmA; done)) | (focus (apply SrcE.own1; exact meA; done)) | (focus (apply SrcE.one; exact meA; exact rfl; decide; done))); (intro v; exact seA); exact onA; exact leA; exact leA; apply allAnd; (intro _; exact ltA)))
  exact Bx.h h) : G := s ⟨h⟩
section
variable {P : Program} {n : Nat} {L rest : List Oper} {e : Env} {bx b0 : List Ow} {F F0 : List Fct} {Q : Env → List Ow → List Fct → Prop} {d i : Nat} {ty : TypeId} {pos : String} {af : Array Edge} {g : Option (Nat × Bool)} {hs : List Nat} {r : Plan}
  {f : FuncId} {x : Operand} {args : List Operand} {ats : Array TypeId} {vs cs : List Value} {F' : List Fct} {u : Value} {el sz : Nat}
theorem WL.callV (hf : FnB P f vs [] F' (IsV u)) (hK : WL P n L rest ((d, u) :: e) bx F Q) (hx : ev e x = some (.func (.func f) #[] #[]) := by exact rfl) (hv : Evs e args vs := by repeat (first | exact Evs.nil | (apply Evs.cons; exact rfl))) (hF : HasAllB bx F F' := by repeat (first | exact HasAllB.nil | (apply HasAllB.cons; (first | (focus (apply HasB.oI; exact meA; done)) | (focus (apply HasB.c; exact meA; done)) | (focus (apply HasB.f; exact hsA; done))))))
    (hd : Nat.blt d n = true := by exact rfl) (hg : gok L e g = some true := by exact rfl) : WL P n L (⟨some d, .call { callee := .value x, args := args.toArray, argTypes := ats }, ty, pos, af, g⟩ :: rest) e bx F Q :=
  WL.l hd hg (LO.callRV hx hv hf hF hK)
theorem WL.callO (hf : FnB P f vs [] F' (IsO el sz cs)) (hK : ∀ v, WL P n L rest ((d, v) :: e) (Ow.slice v el sz cs :: bx) F Q) (hx : ev e x = some (.func (.func f) #[] #[]) := by exact rfl) (hv : Evs e args vs := by repeat (first | exact Evs.nil | (apply Evs.cons; exact rfl))) (hF : HasAllB bx F F' := by repeat (first | exact HasAllB.nil | (apply HasAllB.cons; (first | (focus (apply HasB.oI; exact meA; done)) | (focus (apply HasB.c; exact meA; done)) | (focus (apply HasB.f; exact hsA; done))))))
    (hd : Nat.blt d n = true := by exact rfl) (hg : gok L e g = some true := by exact rfl) : WL P n L (⟨some d, .call { callee := .value x, args := args.toArray, argTypes := ats }, ty, pos, af, g⟩ :: rest) e bx F Q :=
  WL.l hd hg (LO.callRO hx hv hf hF hK)
theorem WL.callF {R : RPost} (first cap : List Value) (hf : FnB P f (first ++ vs ++ cap) [] F' R) (hK : ∀ v b G, R v b G → WL P n L rest ((d, v) :: e) (b ++ bx) F Q) (hx : ev e x = some (.func (.func f) first.toArray cap.toArray) := by exact rfl) (hv : Evs e args vs := by repeat (first | exact Evs.nil | (apply Evs.cons; exact rfl))) (hF : HasAllB bx F F' := by repeat (first | exact HasAllB.nil | (apply HasAllB.cons; (first | (focus (apply HasB.oI; exact meA; done)) | (focus (apply HasB.c; exact meA; done)) | (focus (apply HasB.f; exact hsA; done))))))
    (hd : Nat.blt d n = true := by exact rfl) (hg : gok L e g = some true := by exact rfl) : WL P n L (⟨some d, .call { callee := .value x, args := args.toArray, argTypes := ats }, ty, pos, af, g⟩ :: rest) e bx F Q :=
  WL.l hd hg (LO.callR hx hv hf hF hK)
theorem WL.callP {R : RPost} (hf : FnB P f vs [] F' R) (hK : ∀ v b G, R v b G → WL P n L rest ((d, v) :: e) (b ++ bx) F Q) (hx : ev e x = some (.func (.func f) #[] #[]) := by exact rfl) (hv : Evs e args vs := by repeat (first | exact Evs.nil | (apply Evs.cons; exact rfl))) (hF : HasAllB bx F F' := by repeat (first | exact HasAllB.nil | (apply HasAllB.cons; (first | (focus (apply HasB.oI; exact meA; done)) | (focus (apply HasB.c; exact meA; done)) | (focus (apply HasB.f; exact hsA; done))))))
    (hd : Nat.blt d n = true := by exact rfl) (hg : gok L e g = some true := by exact rfl) : WL P n L (⟨some d, .call { callee := .value x, args := args.toArray, argTypes := ats }, ty, pos, af, g⟩ :: rest) e bx F Q :=
  WL.l hd hg (LO.callR (first := []) (cap := []) hx hv (by simpa using hf) hF hK)
theorem WD.callP {R : RPost} (hf : FnB P f vs [] F' R) (hK : ∀ v b G, R v b G → WD P n L hs b0 F0 r ((d, v) :: e) (b ++ bx) F Q) (hL : L[i]? = some ⟨some d, .call { callee := .value x, args := args.toArray, argTypes := ats }, ty, pos, af, g⟩ := by exact rfl) (hx : ev e x = some (.func (.func f) #[] #[]) := by exact rfl) (hv : Evs e args vs := by repeat (first | exact Evs.nil | (apply Evs.cons; exact rfl))) (hF : HasAllB bx F F' := by repeat (first | exact HasAllB.nil | (apply HasAllB.cons; (first | (focus (apply HasB.oI; exact meA; done)) | (focus (apply HasB.c; exact meA; done)) | (focus (apply HasB.f; exact hsA; done))))))
    (hd : Nat.blt d n = true := by exact rfl) (hg : gok L e g = some true := by exact rfl) (lt : lateB L hs i = true ∨ (b0.Sublist bx ∧ ∀ f ∈ F0, f ∈ F) := by exact ltA) : WD P n L hs b0 F0 (.loud i r) e bx F Q :=
  WD.l hL hd hg (LO.callR (first := []) (cap := []) hx hv (by simpa using hf) hF fun v b G hR => ⟨lt.imp id fun h => ⟨h.1.trans (List.sublist_append_right _ _), h.2⟩, hK v b G hR⟩)
theorem WD.callV (hf : FnB P f vs [] F' (IsV u)) (hK : WD P n L hs b0 F0 r ((d, u) :: e) bx F Q) (hL : L[i]? = some ⟨some d, .call { callee := .value x, args := args.toArray, argTypes := ats }, ty, pos, af, g⟩ := by exact rfl) (hx : ev e x = some (.func (.func f) #[] #[]) := by exact rfl) (hv : Evs e args vs := by repeat (first | exact Evs.nil | (apply Evs.cons; exact rfl))) (hF : HasAllB bx F F' := by repeat (first | exact HasAllB.nil | (apply HasAllB.cons; (first | (focus (apply HasB.oI; exact meA; done)) | (focus (apply HasB.c; exact meA; done)) | (focus (apply HasB.f; exact hsA; done))))))
    (hd : Nat.blt d n = true := by exact rfl) (hg : gok L e g = some true := by exact rfl) (lt : lateB L hs i = true ∨ (b0.Sublist bx ∧ ∀ f ∈ F0, f ∈ F) := by exact ltA) : WD P n L hs b0 F0 (.loud i r) e bx F Q :=
  WD.l hL hd hg (LO.callRV hx hv hf hF ⟨lt, hK⟩)
theorem WD.callO (hf : FnB P f vs [] F' (IsO el sz cs)) (hK : ∀ v, WD P n L hs b0 F0 r ((d, v) :: e) (Ow.slice v el sz cs :: bx) F Q) (hL : L[i]? = some ⟨some d, .call { callee := .value x, args := args.toArray, argTypes := ats }, ty, pos, af, g⟩ := by exact rfl) (hx : ev e x = some (.func (.func f) #[] #[]) := by exact rfl) (hv : Evs e args vs := by repeat (first | exact Evs.nil | (apply Evs.cons; exact rfl))) (hF : HasAllB bx F F' := by repeat (first | exact HasAllB.nil | (apply HasAllB.cons; (first | (focus (apply HasB.oI; exact meA; done)) | (focus (apply HasB.c; exact meA; done)) | (focus (apply HasB.f; exact hsA; done))))))
    (hd : Nat.blt d n = true := by exact rfl) (hg : gok L e g = some true := by exact rfl) (lt : lateB L hs i = true ∨ (b0.Sublist bx ∧ ∀ f ∈ F0, f ∈ F) := by exact ltA) : WD P n L hs b0 F0 (.loud i r) e bx F Q :=
  WD.l hL hd hg (LO.callRO hx hv hf hF fun v => ⟨lt.imp id fun h => ⟨h.1.trans (List.sublist_cons_self _ _), h.2⟩, hK v⟩)
end
end S
end Go.Proofs.YthggloiigkbfeaaGreat
namespace Go.Proofs.YthggloiigkbfeaaGreat
namespace S
open W Go.RowKit
attribute [local irreducible] WC WL WD YO LO LoopEnd W.Fin Scalar SliceT FieldAt Row ArrT AllocT KnS Has W.One SrcE IntT
def around (n m : Int) : Int := (if n < 0 then -(n+1) else n) % m
theorem around_c (n m : Int) (hn : I64 n) (hm : 0 < m) :
    FnB Tryz.prog 30 [.int .i64 n, .int .i64 m] [] [] (IsV (.int .i64 (around n m))) := by
  obtain ⟨hn, hn2⟩ := hn
  by_cases h : n < 0
  · refine fn_of [(0, .int .i64 n), (1, .int .i64 m)] 13 Tryz.func30 rfl Tryz.ntmps30 (by kernel_rfl) rfl (.cons rfl (.cons rfl (.nil _))) fun h0 => ?_
    repeat' (first | refine go ?_ | refine goX ?_ | refine goB ?_ | (refine goG ?_; intro g) | (refine goV ?_; intro v))
    refine WC.ret ?_
    exact Fin.v (ResE.t1 rfl rfl) meA (by simp [around, h])
  · refine fn_of [(0, .int .i64 n), (1, .int .i64 m)] 13 Tryz.func30 rfl Tryz.ntmps30 (by kernel_rfl) rfl (.cons rfl (.cons rfl (.nil _))) fun h0 => ?_
    repeat' (first | refine go ?_ | refine goX ?_ | refine goB ?_ | (refine goG ?_; intro g) | (refine goV ?_; intro v))
    refine WC.ret ?_
    exact Fin.v (ResE.t1 rfl rfl) meA (by simp [around, h])
theorem getD_i64 {l : List Int} (hl : ∀ x ∈ l, I64 x) (k : Nat) : I64 (l.getD k 0) := by
  rw [List.getD_eq_getElem?_getD]
  cases h : l[k]? with
  | none => simp [I64]
  | some x => simpa using hl x (List.mem_of_getElem? h)
def atP (l : List Int) (i m : Int) : Int := if i < 0 ∨ (l.length : Int) ≤ i then 0 else around (l.getD i.toNat 0) m
theorem at_c (v : Value) (l : List Int) (i m : Int) (hl : ∀ x ∈ l, I64 x) (hm : 0 < m) :
    FnB Tryz.prog 35 [v, .int .i64 i, .int .i64 m] [] [sI v l] (IsV (.int .i64 (atP l i m))) := by
  by_cases h : i < 0
  · refine fn_of [(0, v), (1, .int .i64 i), (2, .int .i64 m)] 21 Tryz.func35 rfl Tryz.ntmps35 (by kernel_rfl) rfl suA fun h0 => ?_
    repeat' (first | refine go ?_ | refine goX ?_ | refine goB ?_ | (refine goG ?_; intro g) | (refine goV ?_; intro v))
    refine WC.ret ?_
    exact Fin.v (ResE.t1 rfl rfl) meA (by simp [atP, h])
  by_cases h2 : (l.length : Int) ≤ i
  · refine fn_of [(0, v), (1, .int .i64 i), (2, .int .i64 m)] 21 Tryz.func35 rfl Tryz.ntmps35 (by kernel_rfl) rfl suA fun h0 => ?_
    repeat' (first | refine go ?_ | refine goX ?_ | refine goB ?_ | (refine goG ?_; intro g) | (refine goV ?_; intro v))
    refine WC.ret ?_
    exact Fin.v (ResE.t1 rfl rfl) meA (by simp [atP, h2])
  · refine fn_of [(0, v), (1, .int .i64 i), (2, .int .i64 m)] 21 Tryz.func35 rfl Tryz.ntmps35 (by kernel_rfl) rfl suA fun h0 => ?_
    repeat' (first | refine go ?_ | refine goX ?_ | refine goB ?_ | (refine goG ?_; intro g) | (refine goV ?_; intro v))
    refine WL.l rfl rfl (LO.callV rfl evA (around_c _ _ (getD_i64 hl _) hm) .nil ?_)
    repeat' (first | refine go ?_ | refine goX ?_ | refine goB ?_ | (refine goG ?_; intro g) | (refine goV ?_; intro v))
    refine WC.ret ?_
    exact Fin.v (ResE.t1 rfl rfl) meA (by simp [atP, h, h2])
theorem not_mem_take_succ {l : List Int} {k : Nat} {n : Int} (h : n ∉ l.take k) (h2 : ¬ l.getD k 0 = n) : n ∉ l.take (k + 1) := by
  by_cases hk : k < l.length
  · rw [List.take_succ_eq_append_getElem hk]
    simp [hk] at h2
    intro h3
    rcases List.mem_append.1 h3 with h3 | h3
    · exact h h3
    · simp at h3; exact h2 h3.symm
  · rw [List.take_of_length_le (by omega)] at h ⊢; exact h
theorem may_bit (o : Int) (k : Nat) (ho : 0 ≤ o) : (o / 2 ^ k % 2 = 1) ↔ o.toNat.testBit k = true := by
  rw [Nat.testBit_eq_decide_div_mod_eq]
  obtain ⟨m, rfl⟩ := Int.eq_ofNat_of_zero_le ho
  have : ((m : Int) / 2 ^ k) = ((m / 2 ^ k : Nat) : Int) := by simp
  rw [this]; simp only [decide_eq_true_eq, Int.toNat_natCast]
  generalize m / 2 ^ k = q; omega
theorem none_c (n : Nat) (hn : n ≤ 100) : FnB Tryz.prog 54 [.int .i64 n] [] [] (IsO 3 1 (ints (List.replicate n (-1)))) := by
  refine fn_of [(0, .int .i64 n)] 14 Tryz.func54 rfl Tryz.ntmps54 (by kernel_rfl) rfl suA fun h0 => ?_
  refine WC.addNil 3 1 ?_
  repeat' (first | refine go ?_ | refine goX ?_ | refine goB ?_ | (refine goG ?_; intro g) | (refine goV ?_; intro v))
  refine WC.lp (σ := Nat × Value) (fun s => [(4, .int .i64 (s.1 : Int)), (3, s.2), (0, .int .i64 n)]) (fun s => [Ow.slice s.2 3 1 (ints (List.replicate s.1 (-1)))]) (fun _ => [ge h0]) (fun s => s.1 ≤ n) (fun s => n - s.1) (0, .slice none 0 0) (by simp) ?_
  rintro ⟨k, u⟩ hk
  simp only at hk ⊢
  by_cases hlt : k < n
  · repeat' (first | refine go ?_ | refine goX ?_ | refine goB ?_ | (refine goG ?_; intro g) | (refine goV ?_; intro v))
    exact LoopEnd.mk (k + 1, _) (by show k + 1 ≤ n; omega) (by show n - (k + 1) < n - k; omega) suA (by simp only [List.replicate_succ', ints, List.map_append]; exact slA) sfA
  · obtain rfl : k = n := by omega
    repeat' (first | refine go ?_ | refine goX ?_ | refine goB ?_ | (refine goG ?_; intro g) | (refine goV ?_; intro v))
    refine WC.ret ?_
    exact Fin.o (ResE.t1 rfl rfl) meA meA rfl
end S
end Go.Proofs.YthggloiigkbfeaaGreat
namespace Go.Proofs.YthggloiigkbfeaaGreat
namespace S
def mayN (ts : List Tk) (st : List Int) : Nat → List Int
  | 0 => []
  | k + 1 => if readyP ts st k then mayN ts st k ++ [(k : Int)] else mayN ts st k
abbrev mayP (ts : List Tk) (st : List Int) : List Int := mayN ts st ts.length
theorem mem_mayN {ts : List Tk} {st : List Int} {x : Int} : ∀ {k : Nat}, x ∈ mayN ts st k ↔ ∃ i : Nat, i < k ∧ x = i ∧ readyP ts st i
  | 0 => by simp [mayN]
  | k + 1 => by
    have ih := @mem_mayN ts st x k
    unfold mayN
    split
    · rename_i h
      rw [List.mem_append, ih]; simp only [List.mem_singleton]
      constructor
      · rintro (⟨i, h1, h2, h3⟩ | rfl)
        · exact ⟨i, by omega, h2, h3⟩
        · exact ⟨k, by omega, rfl, h⟩
      · rintro ⟨i, h1, h2, h3⟩
        by_cases hk : i = k
        · subst hk; exact .inr h2
        · exact .inl ⟨i, by omega, h2, h3⟩
    · rename_i h
      rw [ih]
      constructor
      · rintro ⟨i, h1, h2, h3⟩; exact ⟨i, by omega, h2, h3⟩
      · rintro ⟨i, h1, h2, h3⟩
        refine ⟨i, ?_, h2, h3⟩
        by_cases hk : i = k
        · subst hk; exact absurd h3 h
        · omega
theorem mayN_len {ts : List Tk} {st : List Int} : ∀ k, (mayN ts st k).length ≤ k
  | 0 => by simp [mayN]
  | k + 1 => by
    have := @mayN_len ts st k
    unfold mayN; split <;> simp <;> omega
def ordN (ts : List Tk) (m : List Int) : Nat → List Int × List Int
  | 0 => (List.replicate ts.length (-1), [])
  | j + 1 =>
    let s := ordN ts m j
    let may := mayP ts s.1
    let i := may.getD (atP m j may.length).toNat 0
    (s.1.set i.toNat 0, s.2 ++ [i])
abbrev ordP (ts : List Tk) (m : List Int) : List Int := (ordN ts m ts.length).2
theorem around_bd {n m : Int} (hm : 0 < m) : 0 ≤ around n m ∧ around n m < m := by
  unfold around
  exact ⟨Int.emod_nonneg _ (by omega), Int.emod_lt_of_pos _ hm⟩
theorem atP_bd {l : List Int} {i m : Int} (hm : 0 < m) : 0 ≤ atP l i m ∧ atP l i m < m := by
  unfold atP; split
  · omega
  · exact around_bd hm
theorem may_pos {M : Nat} {ts : List Tk} (hg : AllGood M ts) {st : List Int} (h : ∃ i, i < ts.length ∧ st.getD i 0 < 0) : 0 < (mayP ts st).length := by
  have : ∃ i, (i < ts.length ∧ st.getD i 0 < 0) ∧ ∀ j, j < i → ¬ (j < ts.length ∧ st.getD j 0 < 0) := by
    obtain ⟨i, hi⟩ := h
    induction i using Nat.strongRecOn with
    | _ i ih =>
      by_cases hm : ∃ j, j < i ∧ (j < ts.length ∧ st.getD j 0 < 0)
      · obtain ⟨j, h1, h2⟩ := hm; exact ih j h1 h2
      · exact ⟨i, hi, fun j hj hc => hm ⟨j, hj, hc⟩⟩
  obtain ⟨i, ⟨hi, hs⟩, hmin⟩ := this
  have hr : readyP ts st i := ⟨hs, fun k hk => by
    have ha := good_after hg hi k hk
    have := hmin ((tg ts i).after.getD k 0).toNat (by omega)
    have : ¬ st.getD ((tg ts i).after.getD k 0).toNat 0 < 0 := fun hc => this ⟨by omega, hc⟩
    omega⟩
  have hmem : (i : Int) ∈ mayP ts st := mem_mayN.2 ⟨i, hi, rfl, hr⟩
  exact List.length_pos_of_mem hmem
structure OrdOK (ts : List Tk) (j : Nat) (s : List Int × List Int) : Prop where
  len : s.1.length = ts.length
  out : s.2.length = j
  free : ∀ i, i < ts.length → (s.1.getD i 0 = if (i : Int) ∈ s.2 then 0 else -1)
  mem : ∀ x ∈ s.2, 0 ≤ x ∧ x < ts.length
  nodup : s.2.Nodup
theorem nodup_lt {n : Nat} : ∀ {l : List Int}, l.Nodup → (∀ x ∈ l, 0 ≤ x ∧ x < n) → l.length ≤ n := by
  intro l hl hm
  have h1 : (l.map Int.toNat).Nodup := by
    rw [List.nodup_iff_pairwise_ne, List.pairwise_map]
    refine List.Pairwise.imp_of_mem (fun {a b} ha hb hab => ?_) hl
    have := hm a ha; have := hm b hb; omega
  have h2 : ∀ x ∈ l.map Int.toNat, x ∈ List.range n := by
    intro x hx
    obtain ⟨y, hy, rfl⟩ := List.mem_map.1 hx
    have := hm y hy; simp; omega
  have := h1.length_le_of_subset h2
  simpa using this
theorem ord_step {M : Nat} {ts : List Tk} (hg : AllGood M ts) {m : List Int} {j : Nat} (hj : j < ts.length) (h : OrdOK ts j (ordN ts m j)) :
    0 < (mayP ts (ordN ts m j).1).length ∧ OrdOK ts (j + 1) (ordN ts m (j + 1)) ∧
    ∃ i : Nat, (mayP ts (ordN ts m j).1).getD (atP m j (mayP ts (ordN ts m j).1).length).toNat 0 = i ∧ i < ts.length ∧ readyP ts (ordN ts m j).1 i := by
  have hpos : 0 < (mayP ts (ordN ts m j).1).length := by
    refine may_pos hg ?_
    apply Classical.byContradiction
    intro hn
    have hall : ∀ i, i < ts.length → (i : Int) ∈ (ordN ts m j).2 := fun i hi => by
      have h1 := h.free i hi
      apply Classical.byContradiction
      intro hc
      rw [if_neg hc] at h1
      exact hn ⟨i, hi, by omega⟩
    have h2 : (List.range ts.length).length ≤ ((ordN ts m j).2.map Int.toNat).length := by
      refine List.nodup_range.length_le_of_subset fun x hx => ?_
      rw [List.mem_range] at hx
      exact List.mem_map.2 ⟨x, hall x hx, by simp⟩
    simp [h.out] at h2; omega
  have hb := atP_bd (l := m) (i := j) (m := ((mayP ts (ordN ts m j).1).length : Int)) (by omega)
  have hmem : (mayP ts (ordN ts m j).1).getD (atP m j (mayP ts (ordN ts m j).1).length).toNat 0 ∈ mayP ts (ordN ts m j).1 := by
    rw [List.getD_eq_getElem?_getD, List.getElem?_eq_getElem (by omega)]
    exact List.getElem_mem _
  obtain ⟨i, hi, he, hr⟩ := mem_mayN.1 hmem
  refine ⟨hpos, ?_, i, he, hi, hr⟩
  have hni : ((i : Int)) ∉ (ordN ts m j).2 := fun hc => by
    have h1 := h.free i hi
    rw [if_pos hc] at h1
    have := hr.1; omega
  have e1 : ordN ts m (j + 1) = ((ordN ts m j).1.set i 0, (ordN ts m j).2 ++ [(i : Int)]) := by
    show (_, _) = _
    rw [he]; simp
  rw [e1]
  refine ⟨by simpa using h.len, by simp [h.out], fun k hk => ?_, fun x hx => ?_, ?_⟩
  · have hl := h.len
    have h1 := h.free k hk
    simp only [List.getD_eq_getElem?_getD, List.getElem?_set, List.mem_append, List.mem_singleton] at h1 ⊢
    by_cases hik : i = k
    · subst hik; simp [hl, hi]
    · rw [if_neg hik, h1]
      have : ¬ (k : Int) = (i : Int) := by omega
      simp [this]
  · rcases List.mem_append.1 hx with hx | hx
    · exact h.mem x hx
    · simp at hx; omega
  · rw [List.nodup_append]
    exact ⟨h.nodup, by simp, fun a ha b hb => by simp at hb; subst hb; rintro rfl; exact hni ha⟩
theorem ord_ok {M : Nat} {ts : List Tk} (hg : AllGood M ts) (m : List Int) : ∀ j, j ≤ ts.length → OrdOK ts j (ordN ts m j)
  | 0, _ => ⟨by simp [ordN], rfl, fun i hi => by simp [ordN, hi], by simp [ordN], by simp [ordN]⟩
  | j + 1, hj => (ord_step hg (by omega) (ord_ok hg m j (by omega))).2.1
end S
end Go.Proofs.YthggloiigkbfeaaGreat
namespace Go.Proofs.YthggloiigkbfeaaGreat
namespace S
def bestN (ts : List Tk) (st on : List Int) (i : Nat) : Nat → Int
  | 0 => -1
  | k + 1 => if may (tg ts i).on k ∧ (bestN ts st on i k < 0 ∨ placeP ts st on i k < placeP ts st on i (bestN ts st on i k)) then k else bestN ts st on i k
theorem bestN_bd {ts : List Tk} {st on : List Int} {i : Nat} : ∀ n : Nat, -1 ≤ bestN ts st on i n ∧ bestN ts st on i n < n
  | 0 => by simp [bestN]
  | n + 1 => by
    have := @bestN_bd ts st on i n
    unfold bestN; split <;> omega
theorem bestN_pos {ts : List Tk} {st on : List Int} {i : Nat} : ∀ {n : Nat}, (∃ k : Nat, k < n ∧ may (tg ts i).on k) → 0 ≤ bestN ts st on i n ∧ may (tg ts i).on (bestN ts st on i n)
  | 0, h => by obtain ⟨k, h, _⟩ := h; omega
  | n + 1, h => by
    unfold bestN
    split
    · rename_i hc; exact ⟨by omega, hc.1⟩
    · rename_i hc
      by_cases hb : bestN ts st on i n < 0
      · obtain ⟨k, hk, hm⟩ := h
        have hkn : k ≠ n := by rintro rfl; exact hc ⟨hm, .inl hb⟩
        exact bestN_pos ⟨k, by omega, hm⟩
      · by_cases hm : ∃ k : Nat, k < n ∧ may (tg ts i).on k
        · exact bestN_pos hm
        · exfalso
          have hnone : ∀ n' : Nat, n' ≤ n → bestN ts st on i n' = -1 := fun n' => by
            induction n' with
            | zero => intro _; rfl
            | succ q ih =>
              intro hq
              rw [bestN, if_neg, ih (by omega)]
              intro hc2; exact hm ⟨q, by omega, hc2.1⟩
          have := hnone n (Nat.le_refl _); omega
def lstN (ts : List Tk) (M : Nat) (order : List Int) : Nat → List Int × List Int × Int
  | 0 => (List.replicate ts.length (-1), List.replicate ts.length (-1), 0)
  | j + 1 =>
    let s := lstN ts M order j
    let i := (order.getD j 0).toNat
    let k := bestN ts s.1 s.2.1 i M
    let at' := placeP ts s.1 s.2.1 i k
    (s.1.set i at', s.2.1.set i k, max s.2.2 (at' + (tg ts i).time))
def okAt (ts : List Tk) (M : Nat) (order : List Int) (j : Nat) : Prop := 0 ≤ order.getD j 0 ∧ order.getD j 0 < ts.length ∧ readyP ts (lstN ts M order j).1 (order.getD j 0).toNat
def okOrder (ts : List Tk) (M : Nat) (order : List Int) (n : Nat) : Prop := ∀ j, j < n → okAt ts M order j
open Classical in
noncomputable def listP (ts : List Tk) (m : Int) (order : List Int) : List Int × List Int × Int × Int :=
  if validE ts m ≠ 0 then ([], [], 0, validE ts m) else if order.length ≠ ts.length then ([], [], 0, 1) else
  if okOrder ts m.toNat order ts.length then ((lstN ts m.toNat order ts.length).1, (lstN ts m.toNat order ts.length).2.1, (lstN ts m.toNat order ts.length).2.2, 0) else ([], [], 0, 1)
theorem listP_e {ts : List Tk} {m : Int} {o : List Int} (h : validE ts m ≠ 0) : listP ts m o = ([], [], 0, validE ts m) := by simp [listP, h]
theorem listP_l {ts : List Tk} {m : Int} {o : List Int} (h : validE ts m = 0) (h2 : o.length ≠ ts.length) : listP ts m o = ([], [], 0, 1) := by
  rw [listP, if_neg (by simpa using h), if_pos h2]
theorem listP_no {ts : List Tk} {m : Nat} {o : List Int} (h : validE ts m = 0) (h2 : o.length = ts.length) {j : Nat} (hj : j < ts.length) (h3 : ¬ okAt ts m o j) : listP ts m o = ([], [], 0, 1) := by
  rw [listP, if_neg (by simpa using h), if_neg (by omega), if_neg (fun hc => h3 (by simpa using hc j hj))]
theorem listP_ok {ts : List Tk} {m : Nat} {o : List Int} (h : validE ts m = 0) (h2 : o.length = ts.length) (h3 : okOrder ts m o ts.length) : listP ts m o = ((lstN ts m o ts.length).1, (lstN ts m o ts.length).2.1, (lstN ts m o ts.length).2.2, 0) := by
  rw [listP, if_neg (by simpa using h), if_neg (by omega), if_pos (by simpa using h3)]; simp
theorem placeN_nonneg {ts : List Tk} {st on : List Int} {i : Nat} {k : Int} : ∀ n, 0 ≤ placeN ts st on i k n
  | 0 => by simp [placeN]
  | n + 1 => by
    have := @placeN_nonneg ts st on i k n
    unfold placeN; split <;> omega
theorem getD_set {l : List Int} {i j : Nat} {x : Int} : (l.set i x).getD j 0 = if i = j ∧ i < l.length then x else l.getD j 0 := by
  simp only [List.getD_eq_getElem?_getD, List.getElem?_set]
  by_cases h : i = j
  · subst h
    by_cases h2 : i < l.length
    · simp [h2]
    · simp [h2]
  · simp [h]
theorem good_may {M : Nat} (hM : M ≤ 4) {o : Int} (h1 : 1 ≤ o) (h2 : o < 2 ^ M) : ∃ k : Nat, k < M ∧ may o k := by
  have hne : o.toNat ≠ 0 := by omega
  obtain ⟨k, hk⟩ := Nat.exists_testBit_of_ne_zero hne
  have hk2 : k < M := by
    apply Classical.byContradiction
    intro hc
    have h3 : ((2 : Int) ^ M) = ((2 ^ M : Nat) : Int) := by simp
    have h4 : o.toNat < 2 ^ M := by omega
    have this : o.toNat < 2 ^ k := Nat.lt_of_lt_of_le h4 (Nat.pow_le_pow_right (by decide) (by omega))
    rw [Nat.testBit_lt_two_pow this] at hk; cases hk
  exact ⟨k, hk2, by omega, by omega, by simpa using hk⟩
end S
end Go.Proofs.YthggloiigkbfeaaGreat
namespace Go.Proofs.YthggloiigkbfeaaGreat
namespace S
def nextP (ts : List Tk) (T : List Int) (i : Nat) : Nat → Int
  | 0 => -1
  | j + 1 => if (i : Int) ∈ (tg ts (i + 1 + j)).after ∧ (nextP ts T i j < 0 ∨ T.getD (nextP ts T i j).toNat 0 < T.getD (i + 1 + j) 0) then ((i + 1 + j : Nat) : Int) else nextP ts T i j
theorem nextP_bd {ts : List Tk} {T : List Int} {i : Nat} : ∀ j, nextP ts T i j = -1 ∨ ((i + 1 : Nat) : Int) ≤ nextP ts T i j ∧ nextP ts T i j < ((i + 1 + j : Nat) : Int)
  | 0 => by simp [nextP]
  | j + 1 => by
    have := @nextP_bd ts T i j
    rw [nextP]; split <;> omega
structure CS where
  c : List (List Int)
  t : List Int
  out : List Int
  most : Int
def chStep (ts : List Tk) (s : CS) (i : Nat) (j : Nat) : CS :=
  let nx := nextP ts s.t i j
  let ch := if nx < 0 then [(i : Int)] else (i : Int) :: s.c.getD nx.toNat []
  let t := if nx < 0 then (tg ts i).time else (tg ts i).time + s.t.getD nx.toNat 0
  ⟨s.c.set i ch, s.t.set i t, if s.most ≤ t then ch else s.out, if s.most ≤ t then t else s.most⟩
def chS (ts : List Tk) : Nat → CS
  | 0 => ⟨List.replicate ts.length [], List.replicate ts.length 0, [], 0⟩
  | d + 1 => chStep ts (chS ts d) (ts.length - 1 - d) d
abbrev chainP (ts : List Tk) : List Int × Int := ((chS ts ts.length).out, (chS ts ts.length).most)
structure CSOK (ts : List Tk) (d : Nat) (s : CS) : Prop where
  lc : s.c.length = ts.length
  lt : s.t.length = ts.length
  tb : ∀ j, 0 ≤ s.t.getD j 0 ∧ s.t.getD j 0 ≤ 20 * d
  cl : ∀ j, (s.c.getD j []).length ≤ d
  mb : 0 ≤ s.most ∧ s.most ≤ 20 * d
  ol : s.out.length ≤ d
theorem getD_setL {l : List (List Int)} {i j : Nat} {x : List Int} : (l.set i x).getD j [] = if i = j ∧ i < l.length then x else l.getD j [] := by
  simp only [List.getD_eq_getElem?_getD, List.getElem?_set]
  by_cases h : i = j
  · subst h
    by_cases h2 : i < l.length
    · simp [h2]
    · simp [h2]
  · simp [h]
theorem chS_ok {ts : List Tk} (ht : ∀ j, 0 ≤ (tg ts j).time ∧ (tg ts j).time ≤ 20) : ∀ d, CSOK ts d (chS ts d)
  | 0 => by
    refine ⟨by simp [chS], by simp [chS], fun j => ?_, fun j => ?_, by simp [chS], by simp [chS]⟩
    · simp only [chS, List.getD_eq_getElem?_getD, List.getElem?_replicate]; split <;> simp
    · simp only [chS, List.getD_eq_getElem?_getD, List.getElem?_replicate]; split <;> simp
  | d + 1 => by
    have h := chS_ok ht d
    have ht' := ht (ts.length - 1 - d)
    generalize hnx : nextP ts (chS ts d).t (ts.length - 1 - d) d = nx
    have h1 := h.tb nx.toNat
    have h2 := h.cl nx.toNat
    have hm := h.mb
    have ho := h.ol
    have e : chS ts (d + 1) = ⟨(chS ts d).c.set (ts.length - 1 - d) (if nx < 0 then [((ts.length - 1 - d : Nat) : Int)] else ((ts.length - 1 - d : Nat) : Int) :: (chS ts d).c.getD nx.toNat []), (chS ts d).t.set (ts.length - 1 - d) (if nx < 0 then (tg ts (ts.length - 1 - d)).time else (tg ts (ts.length - 1 - d)).time + (chS ts d).t.getD nx.toNat 0),
      if (chS ts d).most ≤ (if nx < 0 then (tg ts (ts.length - 1 - d)).time else (tg ts (ts.length - 1 - d)).time + (chS ts d).t.getD nx.toNat 0) then (if nx < 0 then [((ts.length - 1 - d : Nat) : Int)] else ((ts.length - 1 - d : Nat) : Int) :: (chS ts d).c.getD nx.toNat []) else (chS ts d).out,
      if (chS ts d).most ≤ (if nx < 0 then (tg ts (ts.length - 1 - d)).time else (tg ts (ts.length - 1 - d)).time + (chS ts d).t.getD nx.toNat 0) then (if nx < 0 then (tg ts (ts.length - 1 - d)).time else (tg ts (ts.length - 1 - d)).time + (chS ts d).t.getD nx.toNat 0) else (chS ts d).most⟩ := by
      subst hnx; rfl
    rw [e]
    have b1 : 0 ≤ (if nx < 0 then (tg ts (ts.length - 1 - d)).time else (tg ts (ts.length - 1 - d)).time + (chS ts d).t.getD nx.toNat 0) ∧ (if nx < 0 then (tg ts (ts.length - 1 - d)).time else (tg ts (ts.length - 1 - d)).time + (chS ts d).t.getD nx.toNat 0) ≤ 20 * ((d + 1 : Nat) : Int) := by split <;> omega
    have b2 : (if nx < 0 then [((ts.length - 1 - d : Nat) : Int)] else ((ts.length - 1 - d : Nat) : Int) :: (chS ts d).c.getD nx.toNat []).length ≤ d + 1 := by split <;> (simp only [List.length_cons, List.length_nil]; omega)
    generalize (if nx < 0 then (tg ts (ts.length - 1 - d)).time else (tg ts (ts.length - 1 - d)).time + (chS ts d).t.getD nx.toNat 0) = t at b1 ⊢
    generalize (if nx < 0 then [((ts.length - 1 - d : Nat) : Int)] else ((ts.length - 1 - d : Nat) : Int) :: (chS ts d).c.getD nx.toNat []) = c at b2 ⊢
    refine ⟨by simp [h.lc], by simp [h.lt], fun j => ?_, fun j => ?_, ?_, ?_⟩
    · have h3 := h.tb j
      simp only [getD_set]
      split <;> omega
    · have h3 := h.cl j
      simp only [getD_setL]
      split <;> omega
    · simp only []
      split <;> omega
    · simp only []
      split <;> omega
end S
end Go.Proofs.YthggloiigkbfeaaGreat
namespace Go.Proofs.YthggloiigkbfeaaGreat
namespace S
open W Go.RowKit
theorem YO.convT {P : Program} {e : Env} {bx : List Ow} {F : List Fct} {ty s d : TypeId} {x : Operand} {k k' ks : IntKind} {i : Int} (hd : IntT P d k') (hs : IntT P s ks) (hx : ev e x = some (.int k i)) : YO P (.convert s d x) ty e bx F (.int k' (k'.wrap i)) := YO.conv hd hs hx
attribute [local irreducible] WC WL WD YO LO LoopEnd W.Fin Scalar SliceT FieldAt Row ArrT AllocT KnS Has W.One SrcE IntT
def popP (x : Nat) : Int := ((x % 2 + x / 2 % 2 + x / 4 % 2 + x / 8 % 2 : Nat) : Int)
namespace Oc
def u (i : Int) : Int := IntKind.u64.wrap i
def sh (i j : Int) : Int := i.fdiv (2 ^ (min j.toNat 64))
def an (i j : Int) : Int := u (((i % 18446744073709551616).toNat &&& (j % 18446744073709551616).toNat : Nat) : Int)
def s1 (x : Int) : Int := u (an (sh x 1) 6148914691236517205 + an x 6148914691236517205)
def s2 (x : Int) : Int := u (an (sh x 2) 3689348814741910323 + an x 3689348814741910323)
def s3 (x : Int) : Int := an (u (sh x 4 + x)) 1085102592571150095
def s4 (x k : Int) : Int := u (x + sh x k)
def s5 (x : Int) : Int := IntKind.i64.wrap (((IntKind.i64.wrap x % 18446744073709551616).toNat &&& 127 : Nat) : Int)
def all (x : Int) : Int := s5 (s4 (s4 (s4 (s3 (s2 (s1 x))) 8) 16) 32)
theorem all_pop : ∀ x : Nat, x < 16 → all x = popP x := by decide +kernel
end Oc
section
variable {P : Program} {e : Env} {bx : List Ow} {F : List Fct} {ty t t' : TypeId} {x y : Operand} {i j : Int} {k : IntKind}
theorem YO.uadd (hx : ev e x = some (.int .u64 i)) (hy : ev e y = some (.int .u64 j)) : YO P (.binOp .add t x y t') ty e bx F (.int .u64 (Oc.u (i + j))) := YO.wadd hx hy
theorem YO.uand (hx : ev e x = some (.int .u64 i)) (hy : ev e y = some (.int .u64 j)) : YO P (.binOp .and t x y t') ty e bx F (.int .u64 (Oc.an i j)) := YO.bits hx hy fun w => by
  simp only [binOp, Op.intBits]
  simp [Oc.an, Oc.u, IntKind.bits]
  exact congrArg (fun m : Nat => IntKind.u64.wrap (m : Int)) (by show (BitVec.ofInt 64 i &&& BitVec.ofInt 64 j).toNat = _; rw [BitVec.toNat_and, BitVec.toNat_ofInt, BitVec.toNat_ofInt]; rfl)
theorem YO.ushr {kj : IntKind} (hx : ev e x = some (.int .u64 i)) (hy : ev e y = some (.int kj j)) (h : 0 ≤ j) : YO P (.binOp .shr t x y t') ty e bx F (.int .u64 (Oc.sh i j)) := YO.shr hx hy h
theorem YO.iand (hx : ev e x = some (.int .i64 (IntKind.i64.wrap i))) (hy : ev e y = some (.int .i64 127)) : YO P (.binOp .and t x y t') ty e bx F (.int .i64 (Oc.s5 i)) := YO.bits hx hy fun w => by
  simp only [binOp, Op.intBits]
  simp [Oc.s5, IntKind.bits]
  exact congrArg (fun m : Nat => IntKind.i64.wrap (m : Int)) (by show (BitVec.ofInt 64 (IntKind.i64.wrap i) &&& 127#64).toNat = _; rw [BitVec.toNat_and, BitVec.toNat_ofInt]; rfl)
end
theorem ones64_c (x : Nat) (h : x < 16) : FnB Tryz.prog 159 [.int .u64 x] [] [] (IsV (.int .i64 (popP x))) := by
  refine fn_of [(0, .int .u64 x)] 35 Tryz.func159 rfl Tryz.ntmps159 (by kernel_rfl) rfl suA fun h0 => ?_
  rw [← Oc.all_pop x h]
  repeat' (first | refine go ?_ | (apply WL.k_shr; (apply YO.ushr; exact rfl; exact rfl; decide); exact rfl; exact rfl) | (apply WL.k_and; (apply YO.uand; exact rfl; exact rfl); exact rfl; exact rfl) | (apply WL.k_add; (apply YO.uadd; exact rfl; exact rfl); exact rfl; exact rfl))
  (apply WL.k_conv; (apply YO.convT; exact T.u3; exact T.u164; exact rfl); exact rfl; exact rfl)
  (apply WL.k_and; (apply YO.iand; exact rfl; exact rfl); exact rfl; exact rfl)
  refine go ?_
  refine WC.ret ?_
  exact Fin.v (ResE.t1 rfl rfl) meA rfl
theorem ones_c (x : Nat) (h : x < 16) : FnB Tryz.prog 141 [.int .u64 x] [] [] (IsV (.int .i64 (popP x))) := by
  refine fn_of [(0, .int .u64 x)] 8 Tryz.func141 rfl Tryz.ntmps141 (by kernel_rfl) rfl suA fun h0 => ?_
  repeat' (first | refine go ?_ | refine goX ?_ | refine goB ?_ | (refine goG ?_; intro g) | (refine goV ?_; intro v))
  first | refine WL.callV (ones64_c x h) ?_ | refine WD.callV (ones64_c x h) ?_
  repeat' (first | refine go ?_ | refine goX ?_ | refine goB ?_ | (refine goG ?_; intro g) | (refine goV ?_; intro v))
  refine WC.ret ?_
  exact Fin.v (ResE.t1 rfl rfl) meA rfl
end S
end Go.Proofs.YthggloiigkbfeaaGreat
namespace Go.Proofs.YthggloiigkbfeaaGreat
namespace S
structure PlOK (L : List Int) : Prop where
  len : L.length = 26
  bd : ∀ j, 0 ≤ L.getD j 0 ∧ L.getD j 0 ≤ 1000000
def earlN (ts : List Tk) (L : List Int) (i k : Nat) : Nat → Int
  | 0 => L.getD (20 + k) 0
  | n + 1 => max (earlN ts L i k n) (L.getD ((tg ts i).after.getD n 0).toNat 0 + (tg ts ((tg ts i).after.getD n 0).toNat).time)
abbrev earlP (ts : List Tk) (L : List Int) (i k : Nat) : Int := earlN ts L i k (tg ts i).after.length
theorem earlN_bd {ts : List Tk} {L : List Int} (h : PlOK L) (ht : ∀ j, 0 ≤ (tg ts j).time ∧ (tg ts j).time ≤ 20) (i k : Nat) : ∀ n, 0 ≤ earlN ts L i k n ∧ earlN ts L i k n ≤ 1000020
  | 0 => by have := h.bd (20 + k); simp only [earlN]; omega
  | n + 1 => by
    have h1 := earlN_bd h ht i k n
    have h2 := h.bd ((tg ts i).after.getD n 0).toNat
    have h3 := ht ((tg ts i).after.getD n 0).toNat
    simp only [earlN]; omega
theorem earlP_bd {ts : List Tk} {L : List Int} (h : PlOK L) (ht : ∀ j, 0 ≤ (tg ts j).time ∧ (tg ts j).time ≤ 20) (i k : Nat) : 0 ≤ earlP ts L i k ∧ earlP ts L i k ≤ 1000020 := earlN_bd h ht i k _
def orInt (a b : Int) : Int := ((a.toNat ||| b.toNat : Nat) : Int)
def withP (ts : List Tk) (L : List Int) (i k : Nat) : List Int :=
  let e := earlP ts L i k
  let L1 := (L.set i e).set (10 + i) k
  let L2 := L1.set (20 + k) (e + (tg ts i).time)
  let L3 := L2.set 24 (orInt (L.getD 24 0) (2 ^ i))
  L3.set 25 (max (L.getD 25 0) (e + (tg ts i).time))
def bestQ (ts : List Tk) (L : List Int) (i : Nat) : Nat → Int
  | 0 => -1
  | k + 1 => if may (tg ts i).on k ∧ (bestQ ts L i k < 0 ∨ earlP ts L i k < earlP ts L i (bestQ ts L i k).toNat) then k else bestQ ts L i k
theorem bestQ_bd {ts : List Tk} {L : List Int} {i : Nat} : ∀ n : Nat, -1 ≤ bestQ ts L i n ∧ bestQ ts L i n < n
  | 0 => by simp [bestQ]
  | n + 1 => by
    have := @bestQ_bd ts L i n
    unfold bestQ; split <;> omega
theorem bestQ_pos {ts : List Tk} {L : List Int} {i : Nat} : ∀ {n : Nat}, (∃ k : Nat, k < n ∧ may (tg ts i).on k) → 0 ≤ bestQ ts L i n
  | 0, h => by obtain ⟨k, h, _⟩ := h; omega
  | n + 1, h => by
    unfold bestQ
    split
    · omega
    · rename_i hc
      by_cases hb : bestQ ts L i n < 0
      · obtain ⟨k, hk, hm⟩ := h
        have hkn : k ≠ n := by rintro rfl; exact hc ⟨hm, .inl hb⟩
        exact bestQ_pos ⟨k, by omega, hm⟩
      · omega
def lisN (ts : List Tk) (M : Nat) (order : List Int) : Nat → List Int
  | 0 => List.replicate 26 0
  | j + 1 => withP ts (lisN ts M order j) (order.getD j 0).toNat (bestQ ts (lisN ts M order j) (order.getD j 0).toNat M).toNat
theorem orInt_bd {a : Int} {i : Nat} (ha : 0 ≤ a) (ha2 : a < 1024) (hi : i < 10) : 0 ≤ orInt a (2 ^ i) ∧ orInt a (2 ^ i) < 1024 := by
  unfold orInt
  have h1 : a.toNat < 2 ^ 10 := by omega
  have h2 : ((2 : Int) ^ i).toNat < 2 ^ 10 := by
    have : ((2 : Int) ^ i) = ((2 ^ i : Nat) : Int) := by simp
    rw [this, Int.toNat_natCast]
    exact Nat.pow_lt_pow_right (by decide) hi
  have := Nat.or_lt_two_pow h1 h2
  omega
structure PlB (L : List Int) (B : Int) : Prop where
  len : L.length = 26
  bd : ∀ j, j ≠ 24 → 0 ≤ L.getD j 0 ∧ L.getD j 0 ≤ B
  done : 0 ≤ L.getD 24 0 ∧ L.getD 24 0 < 1024
theorem PlB.ok {L : List Int} {B : Int} (h : PlB L B) (hB : B ≤ 1000000) : PlOK L := ⟨h.len, fun j => by
  by_cases hj : j = 24
  · subst hj; have := h.done; omega
  · have := h.bd j hj; omega⟩
theorem earlN_B {ts : List Tk} {L : List Int} {B : Int} (h : PlB L B) (hB : 0 ≤ B) (ht : ∀ j, 0 ≤ (tg ts j).time ∧ (tg ts j).time ≤ 20) {i k : Nat} (hk : k < 4) : ∀ n, (∀ q, q < n → ((tg ts i).after.getD q 0).toNat < 10) → 0 ≤ earlN ts L i k n ∧ earlN ts L i k n ≤ B + 20
  | 0, _ => by have := h.bd (20 + k) (by omega); simp only [earlN]; omega
  | n + 1, ha => by
    have h1 := earlN_B h hB ht (i := i) hk n (fun q hq => ha q (by omega))
    have h2 := h.bd ((tg ts i).after.getD n 0).toNat (by have := ha n (by omega); omega)
    have h3 := ht ((tg ts i).after.getD n 0).toNat
    simp only [earlN]; omega
theorem withP_B {ts : List Tk} {M : Nat} (hg : AllGood M ts) (hn : ts.length ≤ 10) {L : List Int} {B : Int} (h : PlB L B) (hB : 0 ≤ B) {i k : Nat} (hi : i < ts.length) (hk : k < 4) : PlB (withP ts L i k) (B + 40) := by
  have ht := good_time hg
  have he : 0 ≤ earlP ts L i k ∧ earlP ts L i k ≤ B + 20 := earlN_B h hB ht (i := i) hk (tg ts i).after.length (fun q hq => by have := good_after hg hi q hq; omega)
  have hti := ht i
  have hd := orInt_bd h.done.1 h.done.2 (i := i) (by omega)
  have hl := h.bd 25 (by omega)
  refine ⟨by simp [withP, h.len], fun j hj => ?_, ?_⟩
  · have hb := h.bd j hj
    unfold withP
    simp only [getD_set]
    repeat' split
    all_goals omega
  · unfold withP
    simp only [getD_set]
    rw [if_neg (by omega), if_pos (by simp [h.len])]
    exact hd
end S
end Go.Proofs.YthggloiigkbfeaaGreat
namespace Go.Proofs.YthggloiigkbfeaaGreat
namespace S
abbrev bitI (o : Int) (k : Int) : Int := o / 2 ^ k.toNat % 2
def freeS (L : List Int) (on : Nat) : Nat → Int
  | 0 => 0
  | k + 1 => if bitI on (k : Int) = 1 then freeS L on k + L.getD (20 + k) 0 else freeS L on k
def timeS (ts : List Tk) (L : List Int) (on : Nat) : Nat → Int
  | 0 => 0
  | i + 1 => if bitI (L.getD 24 0) (i : Int) = 0 ∧ W.anot (tg ts i).on on = 0 then timeS ts L on i + (tg ts i).time else timeS ts L on i
def loadP (ts : List Tk) (M : Nat) (L : List Int) (on : Nat) : Int := (freeS L on M + timeS ts L on ts.length + popP on - 1) / popP on
theorem freeS_bd {L : List Int} {on : Nat} (h : PlOK L) : ∀ k, 0 ≤ freeS L on k ∧ freeS L on k ≤ 1000000 * k
  | 0 => by simp [freeS]
  | k + 1 => by
    have h1 := freeS_bd (on := on) h k
    have h2 := h.bd (20 + k)
    unfold freeS; split <;> omega
theorem timeS_bd {ts : List Tk} {L : List Int} {on : Nat} (ht : ∀ j, 0 ≤ (tg ts j).time ∧ (tg ts j).time ≤ 20) : ∀ k, 0 ≤ timeS ts L on k ∧ timeS ts L on k ≤ 20 * k
  | 0 => by simp [timeS]
  | k + 1 => by
    have h1 := timeS_bd (L := L) (on := on) ht k
    have h2 := ht k
    unfold timeS; split <;> omega
theorem popP_bd {on : Nat} (h1 : 1 ≤ on) (h2 : on < 16) : 1 ≤ popP on ∧ popP on ≤ 4 := (by decide : ∀ x : Nat, x < 16 → 1 ≤ x → 1 ≤ popP x ∧ popP x ≤ 4) on h2 h1
theorem bit_01 (o : Int) (k : Int) : bitI o k = 0 ∨ bitI o k = 1 := by unfold bitI; omega
theorem div_bd {o : Int} (k : Nat) (h : 0 ≤ o) : 0 ≤ o / 2 ^ k ∧ o / 2 ^ k ≤ o := ⟨Int.ediv_nonneg h (Int.le_of_lt (Int.pow_pos (by decide))), Int.ediv_le_self _ h⟩
end S
end Go.Proofs.YthggloiigkbfeaaGreat
namespace Go.Proofs.YthggloiigkbfeaaGreat
namespace S
open W Go.RowKit
abbrev srch (v : Value) (M : Nat) (goal : Int) (B : List Int) (mp : Value) : List Value := v :: .int .i64 (M : Int) :: .int .i64 goal :: (ints B ++ [mp])
theorem srch_b {v mp : Value} {M : Nat} {goal : Int} {B : List Int} {q : Nat} (hB : B.length = 26) (hq : q < 26) : (srch v M goal B mp)[3 + q]? = some (.int .i64 (B.getD q 0)) := by
  rw [show 3 + q = q + 1 + 1 + 1 by omega]
  simp only [List.getElem?_cons_succ]
  rw [List.getElem?_append_left (by simp; omega)]
  exact ints_at (by omega)
theorem srch_m {v mp : Value} {M : Nat} {goal : Int} {B : List Int} (hB : B.length = 26) : (srch v M goal B mp)[29]? = some mp := by
  rw [show 29 = 26 + 1 + 1 + 1 by omega]
  simp only [List.getElem?_cons_succ]
  rw [List.getElem?_append_right (by simp; omega)]
  simp [hB]
section
variable {P : Program} {e : Env} {bx : List Ow} {F : List Fct} {ty t tg : TypeId} {x : Operand} {v mp : Value} {M g : Nat} {goal : Int} {B : List Int}
theorem YO.ldSF (hs : Scalar P t) (hx : ev e x = some (.pointer (some ⟨g, 28, none⟩))) (hb : Has F (ce g tg (srch v M goal B mp))) (hB : B.length = 26) : YO P (.load t x) ty e bx F (.int .i64 (B.getD 25 0)) := YO.ldF hs hx hb (srch_b (q := 25) hB (by decide))
theorem YO.ldSO (hs : Scalar P t) (hx : ev e x = some (.pointer (some ⟨g, 28, none⟩))) (hb : Ow.cells g tg (srch v M goal B mp) ∈ bx) (hB : B.length = 26) : YO P (.load t x) ty e bx F (.int .i64 (B.getD 25 0)) := YO.ldB hs hx hb (srch_b (q := 25) hB (by decide))
theorem YO.ldSMO (hs : Scalar P t) (hx : ev e x = some (.pointer (some ⟨g, 29, none⟩))) (hb : Ow.cells g tg (srch v M goal B mp) ∈ bx) (hB : B.length = 26) : YO P (.load t x) ty e bx F mp := YO.ldB hs hx hb (srch_m hB)
end
attribute [local irreducible] WC WL WD YO LO LoopEnd W.Fin Scalar SliceT FieldAt Row ArrT AllocT KnS Has W.One SrcE IntT
theorem goX {G G' : Prop} (h : G') (s : Bx G' → G := by
  intro h
  (apply WL.k_load; (first | (apply YO.ldSF; (first | exact T.sc3 | exact T.sc4 | exact T.sc22 | exact T.sc26 | exact T.sc32 | exact T.sc38 | exact T.sc109 | exact T.sc111 | exact T.sc161 | exact T.sc164 | exact T.sc5 | exact T.sc9 | exact T.sc23 | exact T.sc73 | exact T.sc74 | exact T.sc81 | exact T.sc87 | exact T.sc94 | exact T.sc143 | exact T.sc144 | exact T.sc171 | exact T.sc182 | exact T.sc185); exact rfl; exact hmA; omega) | (apply YO.ldSO; (first | exact T.sc3 | exact T.sc4 | exact T.sc22 | exact T.sc26 | exact T.sc32 | exact T.sc38 | exact T.sc109 | exact T.sc111 | exact T.sc161 | exact T.sc164 | exact T.sc5 | exact T.sc9 | exact T.sc23 | exact T.sc73 | exact T.sc74 | exact T.sc81 | exact T.sc87 | exact T.sc94 | exact T.sc143 | exact T.sc144 | exact T.sc171 | exact T.sc182 | exact T.sc185); exact rfl; exact meA; omega) | (apply YO.ldSMO; (first | exact T.sc3 | exact T.sc4 | exact T.sc22 | exact T.sc26 | exact T.sc32 | exact T.sc38 | exact T.sc109 | exact T.sc111 | exact T.sc161 | exact T.sc164 | exact T.sc5 | exact T.sc9 | exact T.sc23 | exact T.sc73 | exact T.sc74 | exact T.sc81 | exact T.sc87 | exact T.sc94 | exact T.sc143 | exact T.sc144 | exact T.sc171 | exact T.sc182 | exact T.sc185); exact rfl; exact meA; omega)); exact rfl; exact rfl)
  exact Bx.h h) : G := s ⟨h⟩
theorem goXD {G G' : Prop} (h : G') (s : Bx G' → G := by
  intro h
  (apply WD.k_load; exact rfl; (first | (apply YO.ldSF; (first | exact T.sc3 | exact T.sc4 | exact T.sc22 | exact T.sc26 | exact T.sc32 | exact T.sc38 | exact T.sc109 | exact T.sc111 | exact T.sc161 | exact T.sc164 | exact T.sc5 | exact T.sc9 | exact T.sc23 | exact T.sc73 | exact T.sc74 | exact T.sc81 | exact T.sc87 | exact T.sc94 | exact T.sc143 | exact T.sc144 | exact T.sc171 | exact T.sc182 | exact T.sc185); exact rfl; exact hmA; omega) | (apply YO.ldSO; (first | exact T.sc3 | exact T.sc4 | exact T.sc22 | exact T.sc26 | exact T.sc32 | exact T.sc38 | exact T.sc109 | exact T.sc111 | exact T.sc161 | exact T.sc164 | exact T.sc5 | exact T.sc9 | exact T.sc23 | exact T.sc73 | exact T.sc74 | exact T.sc81 | exact T.sc87 | exact T.sc94 | exact T.sc143 | exact T.sc144 | exact T.sc171 | exact T.sc182 | exact T.sc185); exact rfl; exact meA; omega) | (apply YO.ldSMO; (first | exact T.sc3 | exact T.sc4 | exact T.sc22 | exact T.sc26 | exact T.sc32 | exact T.sc38 | exact T.sc109 | exact T.sc111 | exact T.sc161 | exact T.sc164 | exact T.sc5 | exact T.sc9 | exact T.sc23 | exact T.sc73 | exact T.sc74 | exact T.sc81 | exact T.sc87 | exact T.sc94 | exact T.sc143 | exact T.sc144 | exact T.sc171 | exact T.sc182 | exact T.sc185); exact rfl; exact meA; omega)); exact rfl; exact rfl)
  exact Bx.h h) : G := s ⟨h⟩
end S
end Go.Proofs.YthggloiigkbfeaaGreat
namespace Go.Proofs.YthggloiigkbfeaaGreat
namespace S
open W Go.RowKit
attribute [local irreducible] WC WL WD YO LO LoopEnd W.Fin Scalar SliceT FieldAt Row ArrT AllocT KnS Has W.One SrcE IntT
theorem d28XC {G G' : Prop} (h : G') (s : Bx G' → G := by
  intro h
  first | (apply WC.draw (id := 6) [0, 1, 2, 3, 4, 5, 6, 7, 8] (.held 0 (.held 1 (.held 2 (.held 3 (.held 4 (.held 5 (.held 6 (.held 7 (.held 8 (.done)))))))))) mixed (by kernel_rfl)) | fail
  exact Bx.h h) : G := s ⟨h⟩
theorem sameInts_c (v u : Value) (l m : List Int) : FnB Tryz.prog 28 [v, u] [] [sI v l, sI u m] (IsV (.bool (decide (l = m)))) := by
  refine fn_of [(0, v), (1, u)] 26 Tryz.func28 rfl Tryz.ntmps28 (by kernel_rfl) rfl suA fun h0 => ?_
  refine WC.lenI v l hmA fun hlen => ?_
  by_cases hl : l.length = m.length
  · repeat' (first | refine go ?_ | refine goX ?_ | refine goB ?_ | (refine goG ?_; intro g) | (refine goV ?_; intro v) | refine goD ?_ | refine goXD ?_ | (refine goDG ?_; intro g) | (refine goDV ?_; intro v) | refine d28XC ?_ | fail)
    refine WC.lp (σ := Nat) (fun k => [(5, .int .i64 (k : Int)), (0, v), (1, u)]) (fun _ => []) (fun _ => [ge h0, sI v l, sI u m]) (fun k => k ≤ l.length ∧ ∀ j, j < k → l.getD j 0 = m.getD j 0) (fun k => l.length - k) 0 (by simp) ?_
    rintro k ⟨hk, hn⟩
    by_cases hlt : k < l.length
    · by_cases he : l.getD k 0 = m.getD k 0
      · repeat' (first | refine go ?_ | refine goX ?_ | refine goB ?_ | (refine goG ?_; intro g) | (refine goV ?_; intro v) | refine goD ?_ | refine goXD ?_ | (refine goDG ?_; intro g) | (refine goDV ?_; intro v) | refine d28XC ?_ | fail)
        exact LoopEnd.mk (k + 1) ⟨by omega, same_step hn he⟩ (by omega)
      · repeat' (first | refine go ?_ | refine goX ?_ | refine goB ?_ | (refine goG ?_; intro g) | (refine goV ?_; intro v) | refine goD ?_ | refine goXD ?_ | (refine goDG ?_; intro g) | (refine goDV ?_; intro v) | refine d28XC ?_ | fail)
        refine WC.ret ?_
        exact Fin.v (ResE.t1 rfl rfl) meA (by rw [decide_eq_false]; rintro rfl; exact he rfl)
    · repeat' (first | refine go ?_ | refine goX ?_ | refine goB ?_ | (refine goG ?_; intro g) | (refine goV ?_; intro v) | refine goD ?_ | refine goXD ?_ | (refine goDG ?_; intro g) | (refine goDV ?_; intro v) | refine d28XC ?_ | fail)
      refine WC.ret ?_
      exact Fin.v (ResE.t1 rfl rfl) meA (by rw [decide_eq_true]; exact same_all hl (fun j hj => hn j (by omega)))
  · have hl' : (l.length : Int) ≠ m.length := by omega
    repeat' (first | refine go ?_ | refine goX ?_ | refine goB ?_ | (refine goG ?_; intro g) | (refine goV ?_; intro v) | refine goD ?_ | refine goXD ?_ | (refine goDG ?_; intro g) | (refine goDV ?_; intro v) | refine d28XC ?_ | fail)
    refine WC.ret ?_
    exact Fin.v (ResE.t1 rfl rfl) meA (by rw [decide_eq_false]; rintro rfl; exact hl rfl)
theorem index_c (v : Value) (l : List Int) (n : Int) : FnB Tryz.prog 107 [v, .int .i64 n] [] [sI v l] (IsV (.int .i64 (idxP l n))) := by
  refine fn_of [(0, v), (1, .int .i64 n)] 19 Tryz.func107 rfl Tryz.ntmps107 (by kernel_rfl) rfl suA fun h0 => ?_
  refine WC.lenI v l hmA fun hlen => ?_
  repeat' (first | refine go ?_ | refine goX ?_ | refine goB ?_ | (refine goG ?_; intro g) | (refine goV ?_; intro v))
  refine WC.lp (σ := Nat) (fun k => [(8, .int .i64 (k : Int)), (7, .int .i64 (l.length : Int)), (0, v), (1, .int .i64 n)]) (fun _ => []) (fun _ => [ge h0, sI v l]) (fun k => k ≤ l.length ∧ n ∉ l.take k) (fun k => l.length - k) 0 (by simp) ?_
  rintro k ⟨hk, hn⟩
  by_cases hlt : k < l.length
  · by_cases he : l.getD k 0 = n
    · have he' : n = l.getD k 0 := he.symm
      repeat' (first | refine go ?_ | refine goX ?_ | refine goB ?_ | (refine goG ?_; intro g) | (refine goV ?_; intro v))
      refine WC.ret ?_
      exact Fin.v (ResE.t1 rfl rfl) meA (by rw [idxP_at hn hlt he])
    · have he' : n ≠ l.getD k 0 := fun h => he h.symm
      repeat' (first | refine go ?_ | refine goX ?_ | refine goB ?_ | (refine goG ?_; intro g) | (refine goV ?_; intro v))
      exact LoopEnd.mk (k + 1) ⟨by omega, not_mem_take_succ hn he⟩ (by omega)
  · repeat' (first | refine go ?_ | refine goX ?_ | refine goB ?_ | (refine goG ?_; intro g) | (refine goV ?_; intro v))
    refine WC.ret ?_
    exact Fin.v (ResE.t1 rfl rfl) meA (by rw [List.take_of_length_le (by omega)] at hn; rw [idxP_no hn])
theorem contains_c (v : Value) (l : List Int) (n : Int) : FnB Tryz.prog 51 [v, .int .i64 n] [] [sI v l] (IsV (.bool (decide (n ∈ l)))) := by
  refine fn_of [(0, v), (1, .int .i64 n)] 9 Tryz.func51 rfl Tryz.ntmps51 (by kernel_rfl) rfl suA fun h0 => ?_
  repeat' (first | refine go ?_ | refine goX ?_ | refine goB ?_ | (refine goG ?_; intro g) | (refine goV ?_; intro v))
  refine WL.l rfl rfl (LO.callV rfl evA (index_c v l n) haA ?_)
  by_cases h : n ∈ l
  · have h1 := idxP_nonneg.2 h
    repeat' (first | refine go ?_ | refine goX ?_ | refine goB ?_ | (refine goG ?_; intro g) | (refine goV ?_; intro v))
    refine WC.ret ?_
    exact Fin.v (ResE.t1 rfl rfl) meA (by simp [h])
  · have h1 : idxP l n < 0 := by have := mt idxP_nonneg.1 h; omega
    repeat' (first | refine go ?_ | refine goX ?_ | refine goB ?_ | (refine goG ?_; intro g) | (refine goV ?_; intro v))
    refine WC.ret ?_
    exact Fin.v (ResE.t1 rfl rfl) meA (by simp [h])
theorem ready_c (v sv : Value) (avs : List Value) (ts : List Tk) (st : List Int) (i : Nat) (hi : i < ts.length) (hs : st.length = ts.length) (ha : AfterIn ts i) :
    FnB Tryz.prog 55 [v, sv, .int .i64 i] [] [sT v avs ts, sA avs ts, sI sv st] (IsV (.bool (decide (readyP ts st i)))) := by
  refine fn_of [(0, v), (1, sv), (2, .int .i64 i)] 35 Tryz.func55 rfl Tryz.ntmps55 (by kernel_rfl) rfl suA fun h0 => ?_
  refine WC.lenI (avs.getD i undef) (tg ts i).after (hasA hmA hi) fun hlen => ?_
  by_cases h : 0 ≤ st.getD i 0
  · repeat' (first | refine go ?_ | refine goX ?_ | refine goB ?_ | (refine goG ?_; intro g) | (refine goV ?_; intro v))
    refine WC.ret ?_
    exact Fin.v (ResE.t1 rfl rfl) meA (by rw [decide_eq_false]; intro hr; have := hr.1; omega)
  · repeat' (first | refine go ?_ | refine goX ?_ | refine goB ?_ | (refine goG ?_; intro g) | (refine goV ?_; intro v))
    refine WC.lp (σ := Nat) (fun k => [(7, .int .i64 (k : Int)), (0, v), (1, sv), (2, .int .i64 i)]) (fun _ => []) (fun _ => [ge h0, sT v avs ts, sA avs ts, sI sv st]) (fun k => k ≤ (tg ts i).after.length ∧ ∀ j, j < k → 0 ≤ st.getD ((tg ts i).after.getD j 0).toNat 0) (fun k => (tg ts i).after.length - k) 0 (by simp) ?_
    rintro k ⟨hk, hn⟩
    by_cases hlt : k < (tg ts i).after.length
    · obtain ⟨a1, a2⟩ := ha k hlt
      by_cases he : 0 ≤ st.getD ((tg ts i).after.getD k 0).toNat 0
      · repeat' (first | refine go ?_ | refine goX ?_ | refine goB ?_ | (refine goG ?_; intro g) | (refine goV ?_; intro v))
        exact LoopEnd.mk (k + 1) ⟨by omega, fun j hj => by
          by_cases hjk : j < k
          · exact hn j hjk
          · obtain rfl : j = k := by omega
            exact he⟩ (by omega)
      · repeat' (first | refine go ?_ | refine goX ?_ | refine goB ?_ | (refine goG ?_; intro g) | (refine goV ?_; intro v))
        refine WC.ret ?_
        exact Fin.v (ResE.t1 rfl rfl) meA (by rw [decide_eq_false]; intro hr; exact he (hr.2 k hlt))
    · repeat' (first | refine go ?_ | refine goX ?_ | refine goB ?_ | (refine goG ?_; intro g) | (refine goV ?_; intro v))
      refine WC.ret ?_
      exact Fin.v (ResE.t1 rfl rfl) meA (by rw [decide_eq_true]; exact ⟨by omega, fun j hj => hn j (by omega)⟩)
end S
end Go.Proofs.YthggloiigkbfeaaGreat
namespace Go.Proofs.YthggloiigkbfeaaGreat
namespace S
open W Go.RowKit
attribute [local irreducible] WC WL WD YO LO LoopEnd W.Fin Scalar SliceT FieldAt Row ArrT AllocT KnS Has W.One SrcE IntT
abbrev two (r : Int × Int) : Value := .tuple #[.int .i64 r.1, .int .i64 r.2]
end S
end Go.Proofs.YthggloiigkbfeaaGreat
namespace Go.Proofs.YthggloiigkbfeaaGreat
namespace S
open W Go.RowKit
attribute [local irreducible] WC WL WD YO LO LoopEnd W.Fin Scalar SliceT FieldAt Row ArrT AllocT KnS Has W.One SrcE IntT
theorem ints_append (l m : List Int) : ints (l ++ m) = ints l ++ ints m := by simp [ints]
theorem ints_set (l : List Int) (i : Nat) (x : Int) : (ints l).set i (.int .i64 x) = ints (l.set i x) := by simp [ints, List.map_set]
theorem machines_c (v : Value) (l : List Int) (hl : ∀ x ∈ l, I64 x) : FnB Tryz.prog 12 [v] [] [sI v l] (IsV (.int .i64 (1 + atP l 0 3))) := by
  refine fn_of [(0, v)] 6 Tryz.func12 rfl Tryz.ntmps12 (by kernel_rfl) rfl suA fun h0 => ?_
  have hb := atP_bd (l := l) (i := 0) (m := 3) (by omega)
  repeat' (first | refine go ?_ | refine goX ?_ | refine goB ?_ | (refine goG ?_; intro g) | (refine goV ?_; intro v))
  first | refine WL.callV (at_c v l 0 3 hl (by omega)) ?_ | refine WD.callV (at_c v l 0 3 hl (by omega)) ?_
  repeat' (first | refine go ?_ | refine goX ?_ | refine goB ?_ | (refine goG ?_; intro g) | (refine goV ?_; intro v))
  refine WC.ret ?_
  exact Fin.v (ResE.t1 rfl rfl) meA rfl
theorem order_c (v u : Value) (avs : List Value) (ts : List Tk) (m : List Int) (M : Nat) (hg : AllGood M ts) (hn : ts.length ≤ 10) (hm : ∀ x ∈ m, I64 x) :
    FnB Tryz.prog 15 [v, u] [] [sT v avs ts, sA avs ts, sI u m] (IsO 3 1 (ints (ordP ts m))) := by
  refine fn_of [(0, v), (1, u)] 50 Tryz.func15 rfl Tryz.ntmps15 (by kernel_rfl) rfl suA fun h0 => ?_
  refine WC.addNil 3 1 ?_
  repeat' (first | refine go ?_ | refine goX ?_ | refine goB ?_ | (refine goG ?_; intro g) | (refine goV ?_; intro v))
  first | refine WL.callO (none_c ts.length (by omega)) (fun rv => ?_) | refine WD.callO (none_c ts.length (by omega)) (fun rv => ?_)
  repeat' (first | refine go ?_ | refine goX ?_ | refine goB ?_ | (refine goG ?_; intro g) | (refine goV ?_; intro v))
  refine WC.lp (σ := Nat × Value × Value) (fun s => [(7, .int .i64 (s.1 : Int)), (5, s.2.1), (6, s.2.2), (0, v), (1, u)]) (fun s => [Ow.slice s.2.1 3 1 (ints (ordN ts m s.1).1), Ow.slice s.2.2 3 1 (ints (ordN ts m s.1).2)]) (fun _ => [ge h0, sT v avs ts, sA avs ts, sI u m]) (fun s => s.1 ≤ ts.length) (fun s => ts.length - s.1) (0, _, .slice none 0 0) (by simp) ?_
  rintro ⟨j, sv, ov⟩ hj
  simp only at hj ⊢
  have ho := ord_ok hg m j hj
  have hlen := ho.len
  have hout := ho.out
  by_cases hlt : j < ts.length
  · obtain ⟨hpos, -, i, hi, hit, hr⟩ := ord_step hg hlt ho
    refine WC.addNil 3 1 ?_
    repeat' (first | refine go ?_ | refine goX ?_ | refine goB ?_ | (refine goG ?_; intro g) | (refine goV ?_; intro v))
    refine WC.lp (σ := Nat × Value) (fun s => [(9, .int .i64 (s.1 : Int)), (8, s.2), (7, .int .i64 (j : Int)), (5, sv), (6, ov), (0, v), (1, u)]) (fun s => [Ow.slice s.2 3 1 (ints (mayN ts (ordN ts m j).1 s.1)), Ow.slice sv 3 1 (ints (ordN ts m j).1), Ow.slice ov 3 1 (ints (ordN ts m j).2)]) (fun _ => [ge h0, sT v avs ts, sA avs ts, sI u m]) (fun s => s.1 ≤ ts.length) (fun s => ts.length - s.1) (0, .slice none 0 0) (by simp) ?_
    rintro ⟨k, yv⟩ hk
    simp only at hk ⊢
    have hml := mayN_len (ts := ts) (st := (ordN ts m j).1) k
    by_cases hkl : k < ts.length
    · repeat' (first | refine go ?_ | refine goX ?_ | refine goB ?_ | (refine goG ?_; intro g) | (refine goV ?_; intro v))
      first | refine WL.callV (ready_c v sv avs ts (ordN ts m j).1 k hkl hlen (good_afterIn hg hkl)) ?_ | refine WD.callV (ready_c v sv avs ts (ordN ts m j).1 k hkl hlen (good_afterIn hg hkl)) ?_
      by_cases hrk : readyP ts (ordN ts m j).1 k
      · rw [decide_eq_true hrk]
        have e : mayN ts (ordN ts m j).1 (k + 1) = mayN ts (ordN ts m j).1 k ++ [(k : Int)] := by rw [mayN, if_pos hrk]
        repeat' (first | refine go ?_ | refine goX ?_ | refine goB ?_ | (refine goG ?_; intro g) | (refine goV ?_; intro v))
        exact LoopEnd.mk (k + 1, _) (by show k + 1 ≤ ts.length; omega) (by show ts.length - (k + 1) < ts.length - k; omega) suA (by simp only [e, ints_append]; exact slA) sfA
      · rw [decide_eq_false hrk]
        have e : mayN ts (ordN ts m j).1 (k + 1) = mayN ts (ordN ts m j).1 k := by rw [mayN, if_neg hrk]
        repeat' (first | refine go ?_ | refine goX ?_ | refine goB ?_ | (refine goG ?_; intro g) | (refine goV ?_; intro v))
        exact LoopEnd.mk (k + 1, yv) (by show k + 1 ≤ ts.length; omega) (by show ts.length - (k + 1) < ts.length - k; omega) suA (by simp only [e]; exact slA) sfA
    · obtain rfl : k = ts.length := by omega
      have hb := atP_bd (l := m) (i := j) (m := ((mayP ts (ordN ts m j).1).length : Int)) (by omega)
      repeat' (first | refine go ?_ | refine goX ?_ | refine goB ?_ | (refine goG ?_; intro g) | (refine goV ?_; intro v))
      first | refine WL.callV (at_c u m j ((mayP ts (ordN ts m j).1).length : Int) hm (by omega)) ?_ | refine WD.callV (at_c u m j ((mayP ts (ordN ts m j).1).length : Int) hm (by omega)) ?_
      generalize hA : atP m j ((mayP ts (ordN ts m j).1).length : Int) = A at *
      obtain ⟨a, rfl⟩ := Int.eq_ofNat_of_zero_le hb.1
      have hb' : a < (mayN ts (ordN ts m j).1 ts.length).length := by have := hb.2; exact_mod_cast this
      have hi' : (mayN ts (ordN ts m j).1 ts.length).getD a 0 = i := by simpa using hi
      repeat' (first | refine go ?_ | refine goX ?_ | refine goB ?_ | (refine goG ?_; intro g) | (refine goV ?_; intro v))
      rw [hi']
      repeat' (first | refine go ?_ | refine goX ?_ | refine goB ?_ | (refine goG ?_; intro g) | (refine goV ?_; intro v))
      have e : ordN ts m (j + 1) = ((ordN ts m j).1.set i 0, (ordN ts m j).2 ++ [(i : Int)]) := by
        show (_, _) = _
        simp only [hA, hi]; simp
      exact LoopEnd.mk (j + 1, sv, _) (by show j + 1 ≤ ts.length; omega) (by show ts.length - (j + 1) < ts.length - j; omega) suA (by simp only [e, ints_append, ← ints_set]; exact slA) sfA
  · obtain rfl : j = ts.length := by omega
    repeat' (first | refine go ?_ | refine goX ?_ | refine goB ?_ | (refine goG ?_; intro g) | (refine goV ?_; intro v))
    refine WC.ret ?_
    exact Fin.o (ResE.t1 rfl rfl) meA meA rfl
end S
end Go.Proofs.YthggloiigkbfeaaGreat
namespace Go.Proofs.YthggloiigkbfeaaGreat
namespace S
open W Go.RowKit
attribute [local irreducible] WC WL WD YO LO LoopEnd W.Fin Scalar SliceT FieldAt Row ArrT AllocT KnS Has W.One SrcE IntT
def IsL (r : List Int × List Int × Int × Int) : RPost := fun v b G => ∃ a c, v = .tuple #[a, c, .int .i64 r.2.2.1, .int .i64 r.2.2.2] ∧ b = [Ow.slice c 3 1 (ints r.2.1), Ow.slice a 3 1 (ints r.1)] ∧ G = []
theorem Fin.l {P : Program} {e : Env} {bx : List Ow} {F : List Fct} {fn : Func} {h0 : PH} {a c : Value} {n er : Int} {x y : List Value} {r : List Int × List Int × Int × Int}
    (hr : ResE P fn e bx F (.tuple #[a, c, .int .i64 n, .int .i64 er])) (hg : ge h0 ∈ F) (hb : [Ow.slice c 3 1 y, Ow.slice a 3 1 x].Sublist bx) (l1 l2 : List Int) (hx : x = ints l1) (hy : y = ints l2) (h : r = (l1, l2, n, er)) : W.Fin P fn h0 (IsL r) e bx F := by
  subst hx hy h
  exact Fin.p _ [] hr hg hb .nil ⟨_, _, rfl, rfl, rfl⟩
end S
end Go.Proofs.YthggloiigkbfeaaGreat
namespace Go.Proofs.YthggloiigkbfeaaGreat
namespace S
open W Go.RowKit
attribute [local irreducible] WC WL WD YO LO LoopEnd W.Fin Scalar SliceT FieldAt Row ArrT AllocT KnS Has W.One SrcE IntT
theorem set_ne {on : Int} {M : Nat} (hM : M ≤ 4) (h1 : -9223372036854775808 ≤ on) (h2 : on ≤ 9223372036854775807) : anot on (1 * 2 ^ ((M : Int)).toNat - 1) = 0 ↔ 0 ≤ on ∧ on < 2 ^ M := by
  rw [pow_e M]; exact anot_zero (by omega) rfl h1 h2
set_option maxRecDepth 2000 in
theorem valid_c (v : Value) (avs : List Value) (ts : List Tk) (m : Int) (hi : TI64 ts) :
    FnB Tryz.prog 50 [v, .int .i64 m] [] [sT v avs ts, sA avs ts] (IsV (.int .i64 (validE ts m))) := by
  refine fn_of [(0, v), (1, .int .i64 m)] 80 Tryz.func50 rfl Tryz.ntmps50 (by kernel_rfl) rfl suA fun h0 => ?_
  by_cases hl : 10 < ts.length
  · repeat' (first | refine go ?_ | refine goX ?_ | refine goB ?_ | (refine goG ?_; intro g) | (refine goV ?_; intro v))
    refine WC.ret ?_
    exact Fin.v (ResE.t1 rfl rfl) meA (by rw [validE_limit hl])
  by_cases h1 : m < 1
  · repeat' (first | refine go ?_ | refine goX ?_ | refine goB ?_ | (refine goG ?_; intro g) | (refine goV ?_; intro v))
    refine WC.ret ?_
    exact Fin.v (ResE.t1 rfl rfl) meA (by rw [validE_m (by omega) (.inl h1)])
  by_cases h2 : 4 < m
  · repeat' (first | refine go ?_ | refine goX ?_ | refine goB ?_ | (refine goG ?_; intro g) | (refine goV ?_; intro v))
    refine WC.ret ?_
    exact Fin.v (ResE.t1 rfl rfl) meA (by rw [validE_m (by omega) (.inr h2)])
  obtain ⟨M, rfl⟩ : ∃ M : Nat, m = M := ⟨m.toNat, by omega⟩
  have hp := pow_16 (M := M) (by omega)
  have hp1 := pow_1 M
  have e5 := pow_e M
  have c5 : (1 : Int) * 2 ^ ((M : Int)).toNat ≤ 9223372036854775807 := by rw [e5]; omega
  have c6 : 0 ≤ (1 : Int) * 2 ^ ((M : Int)).toNat := by rw [e5]; omega
  repeat' (first | refine go ?_ | refine goX ?_ | refine goB ?_ | (refine goG ?_; intro g) | (refine goV ?_; intro v))
  refine WC.lp (σ := Nat) (fun k => [(24, .int .i64 (k : Int)), (23, .int .i64 (ts.length : Int)), (22, v), (5, .int .i64 (1 * 2 ^ ((M : Int)).toNat - 1)), (0, v), (1, .int .i64 M)]) (fun _ => []) (fun _ => [ge h0, sT v avs ts, sA avs ts]) (fun k => k ≤ ts.length ∧ ∀ j, j < k → Good M j (tg ts j)) (fun k => ts.length - k) 0 (by simp) ?_
  rintro k ⟨hk, hg⟩
  clear c5 c6
  by_cases hlt : k < ts.length
  · have hbad : ¬ Good M k (tg ts k) → validE ts M = 1 := validE_bad (by omega) k hlt
    obtain ⟨ii1, ii2, ii3⟩ := hi k
    have hz := set_ne (M := M) (by omega) ii2.1 ii2.2
    by_cases c1 : (tg ts k).time < 1
    · repeat' (first | refine go ?_ | refine goX ?_ | refine goB ?_ | (refine goG ?_; intro g) | (refine goV ?_; intro v))
      refine WC.ret ?_
      exact Fin.v (ResE.t1 rfl rfl) meA (by rw [hbad]; intro g; have := g.t1; omega)
    by_cases c2 : 20 < (tg ts k).time
    · repeat' (first | refine go ?_ | refine goX ?_ | refine goB ?_ | (refine goG ?_; intro g) | (refine goV ?_; intro v))
      refine WC.ret ?_
      exact Fin.v (ResE.t1 rfl rfl) meA (by rw [hbad]; intro g; have := g.t2; omega)
    by_cases c3 : (tg ts k).on = 0
    · repeat' (first | refine go ?_ | refine goX ?_ | refine goB ?_ | (refine goG ?_; intro g) | (refine goV ?_; intro v))
      refine WC.ret ?_
      exact Fin.v (ResE.t1 rfl rfl) meA (by rw [hbad]; intro g; have := g.o1; omega)
    by_cases c4 : anot (tg ts k).on (1 * 2 ^ ((M : Int)).toNat - 1) = 0
    · have c3' := (hz.1 c4).1
      have c4' := (hz.1 c4).2
      repeat' (first | refine go ?_ | refine goX ?_ | refine goB ?_ | (refine goG ?_; intro g) | (refine goV ?_; intro v))
      refine WC.lenI (avs.getD k undef) (tg ts k).after ?_ fun hlen => ?_
      · exact hasA hmA hlt
      refine WC.lp (σ := Nat) (fun j => [(52, .int .i64 (j : Int)), (51, .int .i64 ((tg ts k).after.length : Int)), (50, avs.getD k undef), (7, .pointer (some ⟨g, 0, none⟩)), (6, .int .i64 (k : Int)), (24, .int .i64 (k : Int)), (23, .int .i64 (ts.length : Int)), (22, v), (5, .int .i64 (1 * 2 ^ ((M : Int)).toNat - 1)), (0, v), (1, .int .i64 M)]) (fun _ => [Ow.cells g 76 [.int .i64 (tg ts k).time, .int .i64 (tg ts k).on, avs.getD k undef]]) (fun _ => [ge h0, sT v avs ts, sA avs ts]) (fun j => j ≤ (tg ts k).after.length ∧ GoodAfter k (tg ts k).after j) (fun j => (tg ts k).after.length - j) 0 (by simp [GoodAfter]) ?_
      rintro j ⟨hj, hga⟩
      by_cases hjl : j < (tg ts k).after.length
      · by_cases d1 : (tg ts k).after.getD j 0 < 0
        · repeat' (first | refine go ?_ | refine goX ?_ | refine goB ?_ | (refine goG ?_; intro g) | (refine goV ?_; intro v))
          refine WC.ret ?_
          exact Fin.v (ResE.t1 rfl rfl) meA (by rw [hbad]; intro g; have := (g.a j hjl).1; omega)
        by_cases d2 : (k : Int) ≤ (tg ts k).after.getD j 0
        · repeat' (first | refine go ?_ | refine goX ?_ | refine goB ?_ | (refine goG ?_; intro g) | (refine goV ?_; intro v))
          refine WC.ret ?_
          exact Fin.v (ResE.t1 rfl rfl) meA (by rw [hbad]; intro g; have := (g.a j hjl).2.1; omega)
        have e6 : ((j : Int) - 1).toNat = j - 1 := by omega
        by_cases d3 : 0 < j
        · by_cases d4 : (tg ts k).after.getD j 0 ≤ (tg ts k).after.getD ((j : Int) - 1).toNat 0
          · repeat' (first | refine go ?_ | refine goX ?_ | refine goB ?_ | (refine goG ?_; intro g) | (refine goV ?_; intro v))
            refine WC.ret ?_
            exact Fin.v (ResE.t1 rfl rfl) meA (by rw [hbad]; intro g; have := (g.a j hjl).2.2 d3; rw [e6] at d4; omega)
          · repeat' (first | refine go ?_ | refine goX ?_ | refine goB ?_ | (refine goG ?_; intro g) | (refine goV ?_; intro v))
            exact LoopEnd.mk (j + 1) ⟨by omega, goodAfter_succ hga d1 d2 (.inr (by rw [e6] at d4; exact d4))⟩ (by omega)
        · repeat' (first | refine go ?_ | refine goX ?_ | refine goB ?_ | (refine goG ?_; intro g) | (refine goV ?_; intro v))
          exact LoopEnd.mk (j + 1) ⟨by omega, goodAfter_succ hga d1 d2 (.inl d3)⟩ (by omega)
      · repeat' (first | refine go ?_ | refine goX ?_ | refine goB ?_ | (refine goG ?_; intro g) | (refine goV ?_; intro v))
        obtain rfl : j = (tg ts k).after.length := by omega
        exact LoopEnd.mk (k + 1) ⟨by omega, good_upto hg (good_of c1 c2 (by omega) (by omega) hga)⟩ (by omega)
    · repeat' (first | refine go ?_ | refine goX ?_ | refine goB ?_ | (refine goG ?_; intro g) | (refine goV ?_; intro v))
      refine WC.ret ?_
      exact Fin.v (ResE.t1 rfl rfl) meA (by rw [hbad]; intro g; have g1 := g.o1; have g2 := g.o2; exact c4 (hz.2 ⟨by omega, g2⟩))
  · obtain rfl : k = ts.length := by omega
    repeat' (first | refine go ?_ | refine goX ?_ | refine goB ?_ | (refine goG ?_; intro g) | (refine goV ?_; intro v))
    refine WC.ret ?_
    exact Fin.v (ResE.t1 rfl rfl) meA (by rw [validE_ok (by omega) (by omega) (by omega) hg])
end S
end Go.Proofs.YthggloiigkbfeaaGreat
namespace Go.Proofs.YthggloiigkbfeaaGreat
namespace S
open W Go.RowKit
attribute [local irreducible] WC WL WD YO LO LoopEnd W.Fin Scalar SliceT FieldAt Row ArrT AllocT KnS Has W.One SrcE IntT
theorem d57XGc {G G' : Prop} (h : G') (s : Bx G' → G := by
  intro h
  first | (apply WC.draw (id := 10) [0, 1, 2, 3, 4, 5, 6, 7, 8, 9, 10, 11, 12, 13, 14, 15, 16, 17, 18, 19, 20, 21, 22, 23, 24, 25, 26, 27, 28, 29, 30, 31, 32, 33, 34, 35, 36, 37] (.held 0 (.held 1 (.held 2 (.held 3 (.held 4 (.held 5 (.held 6 (.held 7 (.held 8 (.held 9 (.held 10 (.held 11 (.held 12 (.held 13 (.held 14 (.held 15 (.held 16 (.held 17 (.held 18 (.held 19 (.held 20 (.held 21 (.held 22 (.held 23 (.held 24 (.held 25 (.held 26 (.held 27 (.held 28 (.held 29 (.held 30 (.held 31 (.held 32 (.held 33 (.held 34 (.held 35 (.held 36 (.held 37 (.done))))))))))))))))))))))))))))))))))))))) mixed (by kernel_rfl)) | (apply WC.draw (id := 12) [0, 1, 2, 3, 4, 5, 6, 7] (.held 0 (.held 1 (.held 2 (.held 3 (.held 4 (.held 5 (.held 6 (.held 7 (.done))))))))) mixed (by kernel_rfl)) | (apply WC.draw (id := 16) [0, 1, 2, 3, 4, 5, 6, 7, 8, 9, 10] (.held 0 (.held 1 (.held 2 (.held 3 (.held 4 (.held 5 (.held 6 (.held 7 (.held 8 (.held 9 (.held 10 (.done)))))))))))) mixed (by kernel_rfl)) | (apply WC.draw (id := 17) [0, 1, 2, 4, 5, 6, 7, 8, 9, 10, 11, 12, 13, 14, 15, 16, 17, 18, 19, 20, 21, 22, 23, 24, 25, 26, 27, 28, 29, 30, 31, 32, 33, 34, 35, 36, 37, 38] (.held 0 (.held 1 (.held 2 (.loud 3 (.held 4 (.held 5 (.held 6 (.held 7 (.held 8 (.held 9 (.held 10 (.held 11 (.held 12 (.held 13 (.held 14 (.held 15 (.held 16 (.held 17 (.held 18 (.held 19 (.held 20 (.held 21 (.held 22 (.held 23 (.held 24 (.held 25 (.held 26 (.held 27 (.held 28 (.held 29 (.held 30 (.held 31 (.held 32 (.held 33 (.held 34 (.held 35 (.held 36 (.held 37 (.held 38 (.done)))))))))))))))))))))))))))))))))))))))) mixed (by kernel_rfl)) | fail
  exact Bx.h h) : G := s ⟨h⟩
def pairG (ts : List Tk) (st on : List Int) (i k : Nat) : Prop :=
  ¬ ((k : Int) ∈ (tg ts i).after ∧ st.getD i 0 < st.getD k 0 + (tg ts k).time) ∧ ¬ (on.getD i 0 = on.getD k 0 ∧ st.getD i 0 < st.getD k 0 + (tg ts k).time ∧ st.getD k 0 < st.getD i 0 + (tg ts i).time)
theorem not_feas3 {ts : List Tk} {m : Nat} {st on : List Int} {i k : Nat} (hi : i < ts.length) (hk : k < i) (ht : ∀ j, j < ts.length → 1 ≤ (tg ts j).time) (h : ¬ pairG ts st on i k) : ¬ Feas ts m st on := fun hf => h (by
  have h1 := hf.2 i hi k (by omega)
  have h2 := hf.2 k (by omega) i hi
  have t1 := ht i hi
  have t2 := ht k (by omega)
  refine ⟨h1.1, fun hc => ?_⟩
  have a := h1.2; have b := h2.2
  omega)
theorem feas_of {M : Nat} {ts : List Tk} (hg : AllGood M ts) {m : Nat} {st on : List Int} (h : ∀ i, i < ts.length → okTask ts m st on i ∧ ∀ k, k < i → pairG ts st on i k) : Feas ts m st on :=
  ⟨fun i hi => (h i hi).1, fun i hi k hk => by
    have ti := (hg i hi).t1
    have tk := (hg k hk).t1
    rcases Nat.lt_trichotomy k i with hlt | rfl | hlt
    · have h1 := (h i hi).2 k hlt
      refine ⟨h1.1, fun hc => ?_⟩
      have := h1.2; omega
    · refine ⟨fun hc => ?_, fun hc => hc.1 rfl⟩
      obtain ⟨j, hj, he⟩ := List.mem_iff_getElem.1 hc.1
      have := good_after hg hi j hj
      rw [List.getD_eq_getElem?_getD, List.getElem?_eq_getElem hj, he] at this
      simp at this
    · have h1 := (h k hk).2 i hlt
      refine ⟨fun hc => ?_, fun hc => ?_⟩
      · obtain ⟨j, hj, he⟩ := List.mem_iff_getElem.1 hc.1
        have := good_after hg hi j hj
        rw [List.getD_eq_getElem?_getD, List.getElem?_eq_getElem hj, he] at this
        simp at this; omega
      · have := h1.2; omega⟩
theorem may_iff {o : Int} {k : Nat} (ho : 0 ≤ o) (hk : k < 4) : may o k ↔ o / 2 ^ ((k : Int)).toNat % 2 = 1 := by
  have := may_bit o k ho
  unfold may; simp only [Int.toNat_natCast]; rw [this]
  constructor
  · intro h; exact h.2.2
  · intro h; exact ⟨by omega, by omega, h⟩
theorem shr_bd {o : Int} (k : Nat) (ho : 0 ≤ o) : 0 ≤ o / 2 ^ k ∧ o / 2 ^ k ≤ o :=
  ⟨Int.ediv_nonneg ho (Int.le_of_lt (Int.pow_pos (by decide))), Int.ediv_le_self _ ho⟩
set_option maxHeartbeats 2000000 in
set_option maxRecDepth 2000 in
theorem check_c (v sv ov : Value) (avs : List Value) (ts : List Tk) (m : Int) (st on : List Int) (hi64 : TI64 ts) :
    FnB Tryz.prog 57 [v, .int .i64 m, sv, ov] [] [sT v avs ts, sA avs ts, sI sv st, sI ov on] (IsV (two (checkP ts m st on))) := by
  refine fn_of [(0, v), (1, .int .i64 m), (2, sv), (3, ov)] 146 Tryz.func57 rfl Tryz.ntmps57 (by kernel_rfl) rfl suA fun h0 => ?_
  refine WC.lenI sv st hmA fun hlen1 => ?_
  refine WC.lenI ov on hmA fun hlen2 => ?_
  repeat' (first | refine go ?_ | refine goX ?_ | refine goB ?_ | (refine goG ?_; intro g) | (refine goV ?_; intro v) | refine goD ?_ | refine goXD ?_ | (refine goDG ?_; intro g) | (refine goDV ?_; intro v) | refine d57XGc ?_ | fail)
  first | refine WL.callV (valid_c v avs ts m hi64) ?_ | refine WD.callV (valid_c v avs ts m hi64) ?_
  by_cases h : validE ts m = 0
  · rw [h]
    by_cases h1 : st.length = ts.length
    · by_cases h2 : on.length = ts.length
      · obtain ⟨hl, M, rfl, hM1, hM4, hg⟩ := validE_0 h
        have hno : ¬ Feas ts M st on → checkP ts M st on = (0, 22) := checkP_no h h1 h2
        have hok : Feas ts M st on → checkP ts M st on = (lenP ts st, 0) := checkP_ok h h1 h2
        have ht := good_time hg
        have ht1 : ∀ j, j < ts.length → 1 ≤ (tg ts j).time := fun j hj => (hg j hj).t1
        have hbo := good_on hg hM4
        repeat' (first | refine go ?_ | refine goX ?_ | refine goB ?_ | (refine goG ?_; intro g) | (refine goV ?_; intro v) | refine goD ?_ | refine goXD ?_ | (refine goDG ?_; intro g) | (refine goDV ?_; intro v) | refine d57XGc ?_ | fail)
        refine WC.lp (σ := Nat) (fun i => [(37, .int .i64 (i : Int)), (36, .int .i64 (ts.length : Int)), (35, v), (11, .int .i64 (lenN ts st i)), (0, v), (1, .int .i64 M), (2, sv), (3, ov)]) (fun _ => []) (fun _ => [ge h0, sT v avs ts, sA avs ts, sI sv st, sI ov on]) (fun i => i ≤ ts.length ∧ ∀ j, j < i → okTask ts M st on j ∧ ∀ k, k < j → pairG ts st on j k) (fun i => ts.length - i) 0 (by simp) ?_
        rintro i ⟨hi, hi2⟩
        have hb := lenN_bd (m := M) (on := on) ht i fun j hj => (hi2 j hj).1
        have hti := ht i
        have hoi := hbo i
        by_cases hlt : i < ts.length
        · by_cases c1 : st.getD i 0 < 0
          · repeat' (first | refine go ?_ | refine goX ?_ | refine goB ?_ | (refine goG ?_; intro g) | (refine goV ?_; intro v) | refine goD ?_ | refine goXD ?_ | (refine goDG ?_; intro g) | (refine goDV ?_; intro v) | refine d57XGc ?_ | fail)
            refine WC.ret ?_
            exact Fin.v (ResE.t2 rfl rfl rfl) meA (by rw [hno (not_feas1 hlt fun h => by have := h.1; omega)])
          by_cases c2 : 1048576 < st.getD i 0
          · repeat' (first | refine go ?_ | refine goX ?_ | refine goB ?_ | (refine goG ?_; intro g) | (refine goV ?_; intro v) | refine goD ?_ | refine goXD ?_ | (refine goDG ?_; intro g) | (refine goDV ?_; intro v) | refine d57XGc ?_ | fail)
            refine WC.ret ?_
            exact Fin.v (ResE.t2 rfl rfl rfl) meA (by rw [hno (not_feas1 hlt fun h => by have := h.1; omega)])
          by_cases c3 : on.getD i 0 < 0
          · repeat' (first | refine go ?_ | refine goX ?_ | refine goB ?_ | (refine goG ?_; intro g) | (refine goV ?_; intro v) | refine goD ?_ | refine goXD ?_ | (refine goDG ?_; intro g) | (refine goDV ?_; intro v) | refine d57XGc ?_ | fail)
            refine WC.ret ?_
            exact Fin.v (ResE.t2 rfl rfl rfl) meA (by rw [hno (not_feas1 hlt fun h => by have := h.2.1.1; omega)])
          by_cases c4 : (M : Int) ≤ on.getD i 0
          · repeat' (first | refine go ?_ | refine goX ?_ | refine goB ?_ | (refine goG ?_; intro g) | (refine goV ?_; intro v) | refine goD ?_ | refine goXD ?_ | (refine goDG ?_; intro g) | (refine goDV ?_; intro v) | refine d57XGc ?_ | fail)
            refine WC.ret ?_
            exact Fin.v (ResE.t2 rfl rfl rfl) meA (by rw [hno (not_feas1 hlt fun h => by have := h.2.2; omega)])
          obtain ⟨o', ho'⟩ := Int.eq_ofNat_of_zero_le (show 0 ≤ on.getD i 0 by omega)
          have hmi := may_iff (o := (tg ts i).on) (k := o') hoi.1 (by omega)
          have hsb := shr_bd (o := (tg ts i).on) (on.getD i 0).toNat hoi.1
          rw [← ho'] at hmi
          by_cases c5 : (tg ts i).on / 2 ^ (on.getD i 0).toNat % 2 = 1
          · have hoki : okTask ts M st on i := ⟨by omega, hmi.2 c5, by omega⟩
            repeat' (first | refine go ?_ | refine goX ?_ | refine goB ?_ | (refine goG ?_; intro g) | (refine goV ?_; intro v) | refine goD ?_ | refine goXD ?_ | (refine goDG ?_; intro g) | (refine goDV ?_; intro v) | refine d57XGc ?_ | fail)
            refine WC.lp (σ := Nat) (fun k => [(88, .int .i64 (k : Int)), (87, .int .i64 (i : Int)), (14, .int .i64 (st.getD i 0 + (tg ts i).time)), (13, .pointer (some ⟨g, 0, none⟩)), (12, .int .i64 (i : Int)), (37, .int .i64 (i : Int)), (36, .int .i64 (ts.length : Int)), (35, v), (11, .int .i64 (lenN ts st i)), (0, v), (1, .int .i64 M), (2, sv), (3, ov)]) (fun _ => [Ow.cells g 76 [.int .i64 (tg ts i).time, .int .i64 (tg ts i).on, avs.getD i undef]]) (fun _ => [ge h0, sT v avs ts, sA avs ts, sI sv st, sI ov on]) (fun k => k ≤ i ∧ ∀ j, j < k → pairG ts st on i j) (fun k => i - k) 0 (by simp) ?_
            rintro k ⟨hk, hk3⟩
            by_cases hlk : k < i
            · have htk := ht k
              have hsk := (hi2 k hlk).1.1
              repeat' (first | refine go ?_ | refine goX ?_ | refine goB ?_ | (refine goG ?_; intro g) | (refine goV ?_; intro v) | refine goD ?_ | refine goXD ?_ | (refine goDG ?_; intro g) | (refine goDV ?_; intro v) | refine d57XGc ?_ | fail)
              first | refine WL.callV (contains_c (avs.getD i undef) (tg ts i).after k) ?_ | refine WD.callV (contains_c (avs.getD i undef) (tg ts i).after k) ?_
              have hbad : ¬ pairG ts st on i k → checkP ts M st on = (0, 22) := fun h => hno (not_feas3 hlt hlk ht1 h)
              by_cases d2 : st.getD i 0 < st.getD k 0 + (tg ts k).time
              · by_cases d1 : (k : Int) ∈ (tg ts i).after
                · rw [decide_eq_true d1]
                  repeat' (first | refine go ?_ | refine goX ?_ | refine goB ?_ | (refine goG ?_; intro g) | (refine goV ?_; intro v) | refine goD ?_ | refine goXD ?_ | (refine goDG ?_; intro g) | (refine goDV ?_; intro v) | refine d57XGc ?_ | fail)
                  refine WC.ret ?_
                  exact Fin.v (ResE.t2 rfl rfl rfl) meA (by rw [hbad fun h => h.1 ⟨d1, d2⟩])
                · rw [decide_eq_false d1]
                  by_cases d3 : on.getD i 0 = on.getD k 0
                  · by_cases d4 : st.getD k 0 < st.getD i 0 + (tg ts i).time
                    · repeat' (first | refine go ?_ | refine goX ?_ | refine goB ?_ | (refine goG ?_; intro g) | (refine goV ?_; intro v) | refine goD ?_ | refine goXD ?_ | (refine goDG ?_; intro g) | (refine goDV ?_; intro v) | refine d57XGc ?_ | fail)
                      refine WC.ret ?_
                      exact Fin.v (ResE.t2 rfl rfl rfl) meA (by rw [hbad fun h => h.2 ⟨d3, d2, d4⟩])
                    · repeat' (first | refine go ?_ | refine goX ?_ | refine goB ?_ | (refine goG ?_; intro g) | (refine goV ?_; intro v) | refine goD ?_ | refine goXD ?_ | (refine goDG ?_; intro g) | (refine goDV ?_; intro v) | refine d57XGc ?_ | fail)
                      exact LoopEnd.mk (k + 1) ⟨by omega, upto_succ hk3 (by constructor <;> (intro h; first | exact absurd h.1 d1 | exact absurd h.2 d2 | omega))⟩ (by omega)
                  · repeat' (first | refine go ?_ | refine goX ?_ | refine goB ?_ | (refine goG ?_; intro g) | (refine goV ?_; intro v) | refine goD ?_ | refine goXD ?_ | (refine goDG ?_; intro g) | (refine goDV ?_; intro v) | refine d57XGc ?_ | fail)
                    exact LoopEnd.mk (k + 1) ⟨by omega, upto_succ hk3 (by constructor <;> (intro h; first | exact absurd h.1 d1 | exact absurd h.2 d2 | omega))⟩ (by omega)
              · by_cases d1 : (k : Int) ∈ (tg ts i).after
                all_goals
                  first | rw [decide_eq_true d1] | rw [decide_eq_false d1]
                  by_cases d3 : on.getD i 0 = on.getD k 0
                  all_goals
                    repeat' (first | refine go ?_ | refine goX ?_ | refine goB ?_ | (refine goG ?_; intro g) | (refine goV ?_; intro v) | refine goD ?_ | refine goXD ?_ | (refine goDG ?_; intro g) | (refine goDV ?_; intro v) | refine d57XGc ?_ | fail)
                    exact LoopEnd.mk (k + 1) ⟨by omega, upto_succ hk3 (by constructor <;> (intro h; first | exact absurd h.1 d1 | exact absurd h.2 d2 | omega))⟩ (by omega)
            · obtain rfl : k = i := by omega
              repeat' (first | refine go ?_ | refine goX ?_ | refine goB ?_ | (refine goG ?_; intro g) | (refine goV ?_; intro v) | refine goD ?_ | refine goXD ?_ | (refine goDG ?_; intro g) | (refine goDV ?_; intro v) | refine d57XGc ?_ | fail)
              exact LoopEnd.mk (k + 1) ⟨by omega, upto_succ hi2 ⟨hoki, hk3⟩⟩ (by omega)
          · repeat' (first | refine go ?_ | refine goX ?_ | refine goB ?_ | (refine goG ?_; intro g) | (refine goV ?_; intro v) | refine goD ?_ | refine goXD ?_ | (refine goDG ?_; intro g) | (refine goDV ?_; intro v) | refine d57XGc ?_ | fail)
            refine WC.ret ?_
            exact Fin.v (ResE.t2 rfl rfl rfl) meA (by rw [hno (not_feas1 hlt fun h => c5 (hmi.1 h.2.1))])
        · obtain rfl : i = ts.length := by omega
          repeat' (first | refine go ?_ | refine goX ?_ | refine goB ?_ | (refine goG ?_; intro g) | (refine goV ?_; intro v) | refine goD ?_ | refine goXD ?_ | (refine goDG ?_; intro g) | (refine goDV ?_; intro v) | refine d57XGc ?_ | fail)
          refine WC.ret ?_
          exact Fin.v (ResE.t2 rfl rfl rfl) meA (by rw [hok (feas_of hg hi2)])
      · have h2' : (on.length : Int) ≠ ts.length := by omega
        repeat' (first | refine go ?_ | refine goX ?_ | refine goB ?_ | (refine goG ?_; intro g) | (refine goV ?_; intro v) | refine goD ?_ | refine goXD ?_ | (refine goDG ?_; intro g) | (refine goDV ?_; intro v) | refine d57XGc ?_ | fail)
        refine WC.ret ?_
        exact Fin.v (ResE.t2 rfl rfl rfl) meA (by rw [checkP_l h (.inr h2)])
    · have h1' : (st.length : Int) ≠ ts.length := by omega
      repeat' (first | refine go ?_ | refine goX ?_ | refine goB ?_ | (refine goG ?_; intro g) | (refine goV ?_; intro v) | refine goD ?_ | refine goXD ?_ | (refine goDG ?_; intro g) | (refine goDV ?_; intro v) | refine d57XGc ?_ | fail)
      refine WC.ret ?_
      exact Fin.v (ResE.t2 rfl rfl rfl) meA (by rw [checkP_l h (.inl h1)])
  · repeat' (first | refine go ?_ | refine goX ?_ | refine goB ?_ | (refine goG ?_; intro g) | (refine goV ?_; intro v) | refine goD ?_ | refine goXD ?_ | (refine goDG ?_; intro g) | (refine goDV ?_; intro v) | refine d57XGc ?_ | fail)
    refine WC.ret ?_
    exact Fin.v (ResE.t2 rfl rfl rfl) meA (by rw [checkP_e h])
end S
end Go.Proofs.YthggloiigkbfeaaGreat
namespace Go.Proofs.YthggloiigkbfeaaGreat
namespace S
open W Go.RowKit
attribute [local irreducible] WC WL WD YO LO LoopEnd W.Fin Scalar SliceT FieldAt Row ArrT AllocT KnS Has W.One SrcE IntT
theorem d102XHp {G G' : Prop} (h : G') (s : Bx G' → G := by
  intro h
  first | (apply WC.draw (id := 5) [0, 1, 2, 3, 4, 5, 6, 7, 8, 9, 10, 11, 12, 13, 14] (.held 0 (.held 1 (.held 2 (.held 3 (.held 4 (.held 5 (.held 6 (.held 7 (.held 8 (.held 9 (.held 10 (.held 11 (.held 12 (.held 13 (.held 14 (.done)))))))))))))))) mixed (by kernel_rfl)) | fail
  exact Bx.h h) : G := s ⟨h⟩
theorem d103XHp {G G' : Prop} (h : G') (s : Bx G' → G := by
  intro h
  first | (apply WC.draw (id := 3) [0, 1, 2, 3, 4, 5, 6, 7, 8, 9, 10, 11, 12] (.held 0 (.held 1 (.held 2 (.held 3 (.held 4 (.held 5 (.held 6 (.held 7 (.held 8 (.held 9 (.held 10 (.held 11 (.held 12 (.loud 13 (.done))))))))))))))) mixed (by kernel_rfl)) | (apply WC.draw (id := 4) [0, 1, 2, 3, 4, 5] (.held 0 (.held 1 (.held 2 (.held 3 (.held 4 (.held 5 (.loud 6 (.done)))))))) mixed (by kernel_rfl)) | (apply WC.draw (id := 5) [0, 1, 2, 3, 4, 5, 6, 7] (.held 0 (.held 1 (.held 2 (.held 3 (.held 4 (.held 5 (.held 6 (.held 7 (.loud 8 (.done)))))))))) mixed (by kernel_rfl)) | fail
  exact Bx.h h) : G := s ⟨h⟩
abbrev ptr (g : Nat) : Value := .pointer (some ⟨g, 0, none⟩)
theorem earliest_c (g : Nat) (L : List Int) (v : Value) (avs : List Value) (ts : List Tk) (M : Nat) (i k : Nat) (hg : AllGood M ts) (hn : ts.length ≤ 10) (hi : i < ts.length) (hk : k < 4) (hL : PlOK L) :
    FnB Tryz.prog 102 [ptr g, v, .int .i64 i, .int .i64 k] [] [ce g 85 (ints L), sT v avs ts, sA avs ts] (IsV (.int .i64 (earlP ts L i k))) := by
  refine fn_of [(0, ptr g), (1, v), (2, .int .i64 i), (3, .int .i64 k)] 44 Tryz.func102 rfl Tryz.ntmps102 (by kernel_rfl) rfl suA fun h0 => ?_
  have hlen := hL.len
  have ht := good_time hg
  refine WC.lenI (avs.getD i undef) (tg ts i).after ?_ fun hal => ?_
  · exact hasA hmA hi
  repeat' (first | refine go ?_ | refine goX ?_ | refine goB ?_ | (refine goG ?_; intro g) | (refine goV ?_; intro v) | refine goD ?_ | refine goXD ?_ | (refine goDG ?_; intro g) | (refine goDV ?_; intro v) | refine d102XHp ?_ | fail)
  refine WC.lp (σ := Nat) (fun n => [(24, .int .i64 (n : Int)), (23, .int .i64 ((tg ts i).after.length : Int)), (22, avs.getD i undef), (9, .int .i64 (earlN ts L i k n)), (0, ptr g), (1, v)]) (fun _ => []) (fun _ => [ge h0, ce g 85 (ints L), sT v avs ts, sA avs ts]) (fun n => n ≤ (tg ts i).after.length) (fun n => (tg ts i).after.length - n) 0 (by simp) ?_
  rintro n hn'
  have hb := earlN_bd hL ht i k n
  by_cases hlt : n < (tg ts i).after.length
  · obtain ⟨a1, a2⟩ := good_after hg hi n hlt
    obtain ⟨a, ha⟩ := Int.eq_ofNat_of_zero_le a1
    have ha' : (tg ts i).after.getD n 0 = (a : Int) := ha
    have hb1 := hL.bd a
    have hta := ht a
    have e : earlN ts L i k (n + 1) = max (earlN ts L i k n) (L.getD a 0 + (tg ts a).time) := by simp only [earlN, ha', Int.toNat_natCast]
    repeat' (first | refine go ?_ | refine goX ?_ | refine goB ?_ | (refine goG ?_; intro g) | (refine goV ?_; intro v) | refine goD ?_ | refine goXD ?_ | (refine goDG ?_; intro g) | (refine goDV ?_; intro v) | refine d102XHp ?_ | fail)
    rw [ha', show ((a : Int)).toNat = a from rfl]
    repeat' (first | refine go ?_ | refine goX ?_ | refine goB ?_ | (refine goG ?_; intro g) | (refine goV ?_; intro v) | refine goD ?_ | refine goXD ?_ | (refine goDG ?_; intro g) | (refine goDV ?_; intro v) | refine d102XHp ?_ | fail)
    exact LoopEnd.mk (n + 1) (by omega) (by omega) (by rw [e]; exact suA) slA sfA
  · obtain rfl : n = (tg ts i).after.length := by omega
    repeat' (first | refine go ?_ | refine goX ?_ | refine goB ?_ | (refine goG ?_; intro g) | (refine goV ?_; intro v) | refine goD ?_ | refine goXD ?_ | (refine goDG ?_; intro g) | (refine goDV ?_; intro v) | refine d102XHp ?_ | fail)
    refine WC.ret ?_
    exact Fin.v (ResE.t1 rfl rfl) meA rfl
theorem pow_512 {i : Nat} (h : i < 10) : 0 ≤ (1 : Int) * 2 ^ ((i : Int)).toNat ∧ (1 : Int) * 2 ^ ((i : Int)).toNat ≤ 512 := by
  have : i = 0 ∨ i = 1 ∨ i = 2 ∨ i = 3 ∨ i = 4 ∨ i = 5 ∨ i = 6 ∨ i = 7 ∨ i = 8 ∨ i = 9 := by omega
  rcases this with rfl | rfl | rfl | rfl | rfl | rfl | rfl | rfl | rfl | rfl <;> decide
set_option maxRecDepth 4000 in
theorem with_c (p0 : Nat) (L : List Int) (v : Value) (avs : List Value) (ts : List Tk) (M : Nat) (i k : Nat) (hg : AllGood M ts) (hn : ts.length ≤ 10) (hi : i < ts.length) (hk : k < 4) (hL : PlOK L) :
    FnB Tryz.prog 103 [ptr p0, v, .int .i64 i, .int .i64 k] [] [ce p0 85 (ints L), sT v avs ts, sA avs ts] (IsV (.agg (ints (withP ts L i k)).toArray)) := by
  refine fn_of [(0, ptr p0), (1, v), (2, .int .i64 i), (3, .int .i64 k)] 53 Tryz.func103 rfl Tryz.ntmps103 (by kernel_rfl) rfl suA fun h0 => ?_
  have hlen := hL.len
  have ht := good_time hg
  have hb := earlP_bd hL ht i k
  repeat' (first | refine go ?_ | refine goX ?_ | refine goB ?_ | (refine goG ?_; intro g) | (refine goV ?_; intro v) | refine goD ?_ | refine goXD ?_ | (refine goDG ?_; intro g) | (refine goDV ?_; intro v) | refine d103XHp ?_ | fail)
  first | refine WL.callV (earliest_c p0 L v avs ts M i k hg hn hi hk hL) ?_ | refine WD.callV (earliest_c p0 L v avs ts M i k hg hn hi hk hL) ?_
  have hti := ht i
  have hpw := pow_512 (i := i) (by omega)
  have hdone := hL.bd 24
  have hll := hL.bd 25
  generalize hE : earlP ts L i k = E at *
  repeat' (first | refine go ?_ | refine goX ?_ | refine goB ?_ | (refine goG ?_; intro g) | (refine goV ?_; intro v) | refine goD ?_ | refine goXD ?_ | (refine goDG ?_; intro g) | (refine goDV ?_; intro v) | refine d103XHp ?_ | fail)
  have e1 : ((L.set (i) E).set (10 + i) (k : Int)).getD (i) 0 = E := by
    rw [getD_set, if_neg (by omega), getD_set, if_pos (by omega)]
  rw [e1]
  repeat' (first | refine go ?_ | refine goX ?_ | refine goB ?_ | (refine goG ?_; intro g) | (refine goV ?_; intro v) | refine goD ?_ | refine goXD ?_ | (refine goDG ?_; intro g) | (refine goDV ?_; intro v) | refine d103XHp ?_ | fail)
  have e2 : (((L.set (i) E).set (10 + i) (k : Int)).set (20 + k) (E + (tg ts i).time)).getD 24 0 = L.getD 24 0 := by
    rw [getD_set, if_neg (by omega), getD_set, if_neg (by omega), getD_set, if_neg (by omega)]
  rw [e2]
  repeat' (first | refine go ?_ | refine goX ?_ | refine goB ?_ | (refine goG ?_; intro g) | (refine goV ?_; intro v) | refine goD ?_ | refine goXD ?_ | (refine goDG ?_; intro g) | (refine goDV ?_; intro v) | refine d103XHp ?_ | fail)
  have e3 : ((((L.set (i) E).set (10 + i) (k : Int)).set (20 + k) (E + (tg ts i).time)).set 24 (((L.getD 24 0).toNat ||| ((1 : Int) * 2 ^ ((i : Int)).toNat).toNat : Nat) : Int)).getD 25 0 = L.getD 25 0 := by
    rw [getD_set, if_neg (by omega), getD_set, if_neg (by omega), getD_set, if_neg (by omega), getD_set, if_neg (by omega)]
  have e4 : ((((L.set (i) E).set (10 + i) (k : Int)).set (20 + k) (E + (tg ts i).time)).set 24 (((L.getD 24 0).toNat ||| ((1 : Int) * 2 ^ ((i : Int)).toNat).toNat : Nat) : Int)).getD (20 + k) 0 = E + (tg ts i).time := by
    rw [getD_set, if_neg (by omega), getD_set, if_pos ⟨rfl, by rw [List.length_set, List.length_set]; omega⟩]
  rw [e3, e4]
  repeat' (first | refine go ?_ | refine goX ?_ | refine goB ?_ | (refine goG ?_; intro g) | (refine goV ?_; intro v) | refine goD ?_ | refine goXD ?_ | (refine goDG ?_; intro g) | (refine goDV ?_; intro v) | refine d103XHp ?_ | fail)
  refine WC.ret ?_
  refine Fin.v (ResE.cI rfl rfl meA T.r85 (by simp only [List.length_set]; omega)) meA ?_
  unfold withP
  simp only [hE, orInt]
  simp
end S
end Go.Proofs.YthggloiigkbfeaaGreat
namespace Go.Proofs.YthggloiigkbfeaaGreat
namespace S
open W Go.RowKit
attribute [local irreducible] WC WL WD YO LO LoopEnd W.Fin Scalar SliceT FieldAt Row ArrT AllocT KnS Has W.One SrcE IntT
theorem clone_c (v : Value) (l : List Int) (hl : l.length ≤ 100) : FnB Tryz.prog 94 [v] [] [sI v l] (IsO 3 1 (ints l)) := by
  refine fn_of [(0, v)] 8 Tryz.func94 rfl Tryz.ntmps94 (by kernel_rfl) rfl suA fun h0 => ?_
  by_cases hn : isNil v = true
  · refine WC.nil0 (l := l) hmA hn fun hl0 => ?_
    refine WC.addNil 3 1 ?_
    repeat' (first | refine go ?_ | refine goX ?_ | refine goB ?_ | (refine goG ?_; intro g) | (refine goV ?_; intro v))
    refine WC.ret ?_
    exact Fin.o (ResE.t1 rfl rfl) meA meA (by rw [hl0]; rfl)
  · have hn' : isNil v = false := by simpa using hn
    repeat' (first | refine go ?_ | refine goX ?_ | refine goB ?_ | (refine goG ?_; intro g) | (refine goV ?_; intro v))
    refine WC.ret ?_
    exact Fin.o (ResE.t1 rfl rfl) meA meA (by simp)
def FnAt (f : FuncId) (cap : List Value) (F : List Fct) (l : List Int) (p : Int → Bool) : Prop := ∀ x ∈ l, FnB Tryz.prog f ([.int .i64 x] ++ cap) [] F (IsV (.bool (p x)))
theorem HasAllB.tail {bx : List Ow} {F G : List Fct} (h : ∀ g ∈ G, g ∈ F) : HasAllB bx F G := by
  induction G with
  | nil => exact .nil
  | cons g G ih => exact .cons (HasB.f (Has.mem (h g List.mem_cons_self))) (ih fun x hx => h x (List.mem_cons_of_mem _ hx))
theorem HasAll.tail {F G : List Fct} (h : ∀ g ∈ G, g ∈ F) : HasAll F G := by
  induction G with
  | nil => exact .nil
  | cons g G ih => exact .cons (Has.mem (h g List.mem_cons_self)) (ih fun x hx => h x (List.mem_cons_of_mem _ hx))
def optI : Option Nat → Int
  | some i => i
  | none => -1
theorem indexF_c (v : Value) (l : List Int) (f : FuncId) (cap : List Value) (F : List Fct) (p : Int → Bool) (hf : FnAt f cap F l p) :
    FnB Tryz.prog 108 [v, .func (.func f) #[] cap.toArray] [] (sI v l :: F) (IsV (.int .i64 (optI (l.findIdx? p)))) := by
  refine fn_of [(0, v), (1, .func (.func f) #[] cap.toArray)] 19 Tryz.func108 rfl Tryz.ntmps108 (by kernel_rfl) rfl suA fun h0 => ?_
  refine WC.lenI v l hmA fun hlen => ?_
  repeat' (first | refine go ?_ | refine goX ?_ | refine goB ?_ | (refine goG ?_; intro g) | (refine goV ?_; intro v))
  refine WC.lp (σ := Nat) (fun k => [(8, .int .i64 (k : Int)), (7, .int .i64 (l.length : Int)), (0, v), (1, .func (.func f) #[] cap.toArray)]) (fun _ => []) (fun _ => ge h0 :: sI v l :: F) (fun k => k ≤ l.length ∧ ∀ j, j < k → p (l.getD j 0) = false) (fun k => l.length - k) 0 (by simp) ?_ suA slA (HasAll.tail fun _ h => h)
  rintro k ⟨hk, hn⟩
  by_cases hlt : k < l.length
  · repeat' (first | refine go ?_ | refine goX ?_ | refine goB ?_ | (refine goG ?_; intro g) | (refine goV ?_; intro v))
    have hx : l.getD k 0 ∈ l := by rw [List.getD_eq_getElem?_getD, List.getElem?_eq_getElem hlt]; exact List.getElem_mem _
    refine WL.l rfl rfl (LO.callR (first := []) (cap := cap) rfl evA (hf _ hx) (HasAllB.tail fun _ h => List.mem_cons_of_mem _ (List.mem_cons_of_mem _ h)) ?_)
    rintro _ _ _ ⟨rfl, rfl, rfl⟩
    cases hp : p (l.getD k 0) with
    | true =>
      repeat' (first | refine go ?_ | refine goX ?_ | refine goB ?_ | (refine goG ?_; intro g) | (refine goV ?_; intro v))
      refine WC.ret ?_
      refine Fin.v (ResE.t1 rfl rfl) meA ?_
      have : l.findIdx? p = some k := by
        rw [List.findIdx?_eq_some_iff_getElem]
        refine ⟨hlt, ?_, fun j hj => ?_⟩
        · rw [List.getD_eq_getElem?_getD, List.getElem?_eq_getElem hlt] at hp; simpa using hp
        · have h1 := hn j hj
          rw [List.getD_eq_getElem?_getD, List.getElem?_eq_getElem (by omega)] at h1; simpa using h1
      rw [this]; rfl
    | false =>
      repeat' (first | refine go ?_ | refine goX ?_ | refine goB ?_ | (refine goG ?_; intro g) | (refine goV ?_; intro v))
      exact LoopEnd.mk (k + 1) ⟨by omega, upto_succ hn hp⟩ (by omega) suA slA (HasAll.tail fun _ h => h)
  · repeat' (first | refine go ?_ | refine goX ?_ | refine goB ?_ | (refine goG ?_; intro g) | (refine goV ?_; intro v))
    refine WC.ret ?_
    refine Fin.v (ResE.t1 rfl rfl) meA ?_
    have : l.findIdx? p = none := by
      rw [List.findIdx?_eq_none_iff]
      intro x hx
      obtain ⟨j, hj, he⟩ := List.mem_iff_getElem.1 hx
      have := hn j (by omega)
      rw [List.getD_eq_getElem?_getD, List.getElem?_eq_getElem hj, he] at this
      simpa using this
    rw [this]; rfl
theorem containsF_c (v : Value) (l : List Int) (f : FuncId) (cap : List Value) (F : List Fct) (p : Int → Bool) (hf : FnAt f cap F l p) :
    FnB Tryz.prog 52 [v, .func (.func f) #[] cap.toArray] [] (sI v l :: F) (IsV (.bool (l.any p))) := by
  refine fn_of [(0, v), (1, .func (.func f) #[] cap.toArray)] 9 Tryz.func52 rfl Tryz.ntmps52 (by kernel_rfl) rfl suA fun h0 => ?_
  repeat' (first | refine go ?_ | refine goX ?_ | refine goB ?_ | (refine goG ?_; intro g) | (refine goV ?_; intro v))
  refine WL.l rfl rfl (LO.callRV rfl evA (indexF_c v l f cap F p hf) (HasAllB.tail fun _ h => List.mem_cons_of_mem _ h) ?_)
  cases hi : l.findIdx? p with
  | some i =>
    have h1 : l.any p = true := by
      obtain ⟨h2, h3, _⟩ := List.findIdx?_eq_some_iff_getElem.1 hi
      exact List.any_eq_true.2 ⟨_, List.getElem_mem h2, h3⟩
    rw [show optI (some i) = (i : Int) from rfl]
    repeat' (first | refine go ?_ | refine goX ?_ | refine goB ?_ | (refine goG ?_; intro g) | (refine goV ?_; intro v))
    refine WC.ret ?_
    exact Fin.v (ResE.t1 rfl rfl) meA (by rw [h1])
  | none =>
    have h1 : l.any p = false := by
      rw [List.findIdx?_eq_none_iff] at hi
      rw [List.any_eq_false]; intro x hx; simp [hi x hx]
    rw [show optI none = (-1 : Int) from rfl]
    repeat' (first | refine go ?_ | refine goX ?_ | refine goB ?_ | (refine goG ?_; intro g) | (refine goV ?_; intro v))
    refine WC.ret ?_
    exact Fin.v (ResE.t1 rfl rfl) meA (by rw [h1])
end S
end Go.Proofs.YthggloiigkbfeaaGreat
namespace Go.Proofs.YthggloiigkbfeaaGreat
namespace S
open W Go.RowKit
attribute [local irreducible] WC WL WD YO LO LoopEnd W.Fin Scalar SliceT FieldAt Row ArrT AllocT KnS Has W.One SrcE IntT
theorem d49XHr {G G' : Prop} (h : G') (s : Bx G' → G := by
  intro h
  first | (apply WC.draw (id := 1) [0, 1, 2, 3, 4, 6, 7, 8, 9, 10, 12, 13, 14, 15, 16, 17, 18, 19] (.held 0 (.held 1 (.held 2 (.held 3 (.held 4 (.held 6 (.held 7 (.held 8 (.held 9 (.held 10 (.held 12 (.held 13 (.held 14 (.held 15 (.loud 5 (.loud 11 (.held 16 (.held 17 (.held 18 (.held 19 (.done))))))))))))))))))))) mixed (by kernel_rfl)) | fail
  exact Bx.h h) : G := s ⟨h⟩
theorem lists_c (p0 : Nat) (L : List Int) (n : Nat) (hn : n ≤ 10) (hL : L.length = 26) :
    FnB Tryz.prog 49 [ptr p0, .int .i64 n] [] [ce p0 85 (ints L)] (IsL ((L.drop 0).take n, (L.drop 10).take n, L.getD 25 0, 0)) := by
  refine fn_of [(0, ptr p0), (1, .int .i64 n)] 24 Tryz.func49 rfl Tryz.ntmps49 (by kernel_rfl) rfl suA fun h0 => ?_
  have l1 : ((L.drop 0).take n).length ≤ 100 := by simp only [List.length_take]; omega
  have l2 : ((L.drop 10).take n).length ≤ 100 := by simp only [List.length_take]; omega
  repeat' (first | refine go ?_ | refine goX ?_ | refine goB ?_ | (refine goG ?_; intro g) | (refine goV ?_; intro v) | refine goD ?_ | refine goXD ?_ | (refine goDG ?_; intro g) | (refine goDV ?_; intro v) | refine d49XHr ?_ | fail)
  first | refine WL.callO (clone_c _ ((L.drop 0).take n) l1) (fun rv => ?_) | refine WD.callO (clone_c _ ((L.drop 0).take n) l1) (fun rv => ?_)
  repeat' (first | refine go ?_ | refine goX ?_ | refine goB ?_ | (refine goG ?_; intro g) | (refine goV ?_; intro v) | refine goD ?_ | refine goXD ?_ | (refine goDG ?_; intro g) | (refine goDV ?_; intro v) | refine d49XHr ?_ | fail)
  first | refine WL.callO (clone_c _ ((L.drop 10).take n) l2) (fun rv => ?_) | refine WD.callO (clone_c _ ((L.drop 10).take n) l2) (fun rv => ?_)
  repeat' (first | refine go ?_ | refine goX ?_ | refine goB ?_ | (refine goG ?_; intro g) | (refine goV ?_; intro v) | refine goD ?_ | refine goXD ?_ | (refine goDG ?_; intro g) | (refine goDV ?_; intro v) | refine d49XHr ?_ | fail)
  refine WC.ret ?_
  exact Fin.l (ResE.t4 rfl rfl rfl rfl rfl) meA slA _ _ rfl rfl rfl
end S
end Go.Proofs.YthggloiigkbfeaaGreat
namespace Go.Proofs.YthggloiigkbfeaaGreat
namespace S
open W Go.RowKit
attribute [local irreducible] WC WL WD YO LO LoopEnd W.Fin Scalar SliceT FieldAt Row ArrT AllocT KnS Has W.One SrcE IntT
theorem list1_c (g1 g2 : Nat) (o : List Int) (u : Value) (k : Nat) (hk : k ≤ o.length) (x : Int) :
    FnB Tryz.prog 53 ([.int .i64 x] ++ [ptr g1, ptr g2]) [] [ce g1 22 [u], ce g2 3 [.int .i64 k], sI u o] (IsV (.bool (!decide (x ∈ o.take k)))) := by
  refine fn_of [(0, .int .i64 x), (1, ptr g1), (2, ptr g2)] 11 Tryz.func53 rfl Tryz.ntmps53 (by kernel_rfl) rfl suA fun h0 => ?_
  repeat' (first | refine go ?_ | refine goX ?_ | refine goB ?_ | (refine goG ?_; intro g) | (refine goV ?_; intro v))
  have hs : HasAll [ge h0, ce g1 22 [u], ce g2 3 [.int .i64 k], sI u o] [sI (resl u 0 k 1) (o.take k)] := .cons (Has.takeI hmA hk) .nil
  refine WL.l rfl rfl (LO.callV rfl evA (contains_c (resl u 0 k 1) (o.take k) x) hs ?_)
  by_cases h : x ∈ o.take k
  · rw [decide_eq_true h]
    repeat' (first | refine go ?_ | refine goX ?_ | refine goB ?_ | (refine goG ?_; intro g) | (refine goV ?_; intro v))
    refine WC.ret ?_
    exact Fin.v (ResE.t1 rfl rfl) meA rfl
  · rw [decide_eq_false h]
    repeat' (first | refine go ?_ | refine goX ?_ | refine goB ?_ | (refine goG ?_; intro g) | (refine goV ?_; intro v))
    refine WC.ret ?_
    exact Fin.v (ResE.t1 rfl rfl) meA rfl
end S
end Go.Proofs.YthggloiigkbfeaaGreat
namespace Go.Proofs.YthggloiigkbfeaaGreat
namespace S
open W Go.RowKit
attribute [local irreducible] WC WL WD YO LO LoopEnd W.Fin Scalar SliceT FieldAt Row ArrT AllocT KnS Has W.One SrcE IntT
theorem lis_B {ts : List Tk} {M : Nat} (hg : AllGood M ts) (hM : M ≤ 4) (hn : ts.length ≤ 10) {o : List Int} (ho : ∀ j, j < o.length → 0 ≤ o.getD j 0 ∧ o.getD j 0 < ts.length) : ∀ j, j ≤ o.length → PlB (lisN ts M o j) (40 * j)
  | 0, _ => ⟨by simp [lisN], fun j _ => by simp only [lisN, List.getD_eq_getElem?_getD, List.getElem?_replicate]; split <;> simp, by simp [lisN]⟩
  | j + 1, hj => by
    have h := lis_B hg hM hn ho j (by omega)
    have h1 := ho j (by omega)
    have hi : (o.getD j 0).toNat < ts.length := by omega
    have hb := bestQ_bd (ts := ts) (L := lisN ts M o j) (i := (o.getD j 0).toNat) M
    have gi := hg _ hi
    have hbp := bestQ_pos (ts := ts) (L := lisN ts M o j) (i := (o.getD j 0).toNat) (n := M) (good_may hM gi.o1 gi.o2)
    have := withP_B hg hn h (by omega) hi (k := (bestQ ts (lisN ts M o j) (o.getD j 0).toNat M).toNat) (by omega)
    rw [show (40 * ((j + 1 : Nat) : Int)) = 40 * (j : Int) + 40 by omega]
    exact this
set_option maxRecDepth 4000 in
theorem listed_c (v u : Value) (avs : List Value) (ts : List Tk) (M : Nat) (o : List Int) (hg : AllGood M ts) (hM : M ≤ 4) (hn : ts.length ≤ 10) (hol : o.length ≤ 10) (ho : ∀ j, j < o.length → 0 ≤ o.getD j 0 ∧ o.getD j 0 < ts.length) :
    FnB Tryz.prog 47 [v, .int .i64 M, u] [] [sT v avs ts, sA avs ts, sI u o] (IsV (.agg (ints (lisN ts M o o.length)).toArray)) := by
  refine fn_of [(0, v), (1, .int .i64 M), (2, u)] 54 Tryz.func47 rfl Tryz.ntmps47 (by kernel_rfl) rfl suA fun h0 => ?_
  have hbo := good_on hg hM
  repeat' (first | refine go ?_ | refine goX ?_ | refine goB ?_ | (refine goG ?_; intro g) | (refine goV ?_; intro v))
  rename_i p0
  refine WC.lp (σ := Nat) (fun j => [(14, .int .i64 (j : Int)), (13, .int .i64 (o.length : Int)), (12, u), (7, ptr g), (6, ptr p0), (0, v), (1, .int .i64 M)]) (fun j => [Ow.cells g 85 (ints (lisN ts M o j)), Ow.cells p0 85 (ints (List.replicate 26 0))]) (fun _ => [ge h0, sT v avs ts, sA avs ts, sI u o]) (fun j => j ≤ o.length) (fun j => o.length - j) 0 (by simp) ?_ suA slA sfA
  rintro j hj
  have hB := lis_B hg hM hn ho j hj
  have hP := hB.ok (by omega)
  have hPl := hP.len
  by_cases hlt : j < o.length
  · obtain ⟨o1, o2⟩ := ho j hlt
    obtain ⟨i, hi⟩ := Int.eq_ofNat_of_zero_le o1
    have hi' : o.getD j 0 = (i : Int) := hi
    have hit : i < ts.length := by omega
    have gi := hg i hit
    have hoi := hbo i
    have e0 : lisN ts M o (j + 1) = withP ts (lisN ts M o j) i (bestQ ts (lisN ts M o j) i M).toNat := by simp only [lisN, hi', Int.toNat_natCast]
    generalize hLd : lisN ts M o j = L at *
    have hbp := bestQ_pos (ts := ts) (L := L) (i := i) (n := M) (good_may hM gi.o1 gi.o2)
    have hbm := bestQ_bd (ts := ts) (L := L) (i := i) M
    repeat' (first | refine go ?_ | refine goX ?_ | refine goB ?_ | (refine goG ?_; intro g) | (refine goV ?_; intro v))
    rw [hi']
    refine WC.lp (σ := Nat) (fun k => [(19, .int .i64 (k : Int)), (18, .int .i64 (M : Int)), (10, .int .i64 (bestQ ts L i k)), (9, .int .i64 (i : Int)), (14, .int .i64 (j : Int)), (13, .int .i64 (o.length : Int)), (12, u), (7, ptr g), (6, ptr p0), (0, v), (1, .int .i64 M)]) (fun _ => [Ow.cells g 85 (ints L), Ow.cells p0 85 (ints (List.replicate 26 0))]) (fun _ => [ge h0, sT v avs ts, sA avs ts, sI u o]) (fun k => k ≤ M) (fun k => M - k) 0 (by simp) ?_ suA slA sfA
    rintro k hk
    by_cases hkM : k < M
    · have e : bestQ ts L i (k + 1) = _ := rfl
      conv at e => rhs; unfold bestQ
      have hbk := bestQ_bd (ts := ts) (L := L) (i := i) k
      have hmi := may_iff (o := (tg ts i).on) (k := k) hoi.1 (by omega)
      have hsb := shr_bd (o := (tg ts i).on) ((k : Int)).toNat hoi.1
      by_cases d1 : (tg ts i).on / 2 ^ ((k : Int)).toNat % 2 = 1
      · by_cases d2 : bestQ ts L i k < 0
        · rw [if_pos ⟨hmi.2 d1, .inl d2⟩] at e
          repeat' (first | refine go ?_ | refine goX ?_ | refine goB ?_ | (refine goG ?_; intro g) | (refine goV ?_; intro v))
          exact LoopEnd.mk (k + 1) (by omega) (by omega) (by rw [e]; exact suA) slA sfA
        · repeat' (first | refine go ?_ | refine goX ?_ | refine goB ?_ | (refine goG ?_; intro g) | (refine goV ?_; intro v))
          first | refine WL.callV (earliest_c g L v avs ts M i k hg hn hit (by omega) hP) ?_ | refine WD.callV (earliest_c g L v avs ts M i k hg hn hit (by omega) hP) ?_
          obtain ⟨b, hb⟩ := Int.eq_ofNat_of_zero_le (show 0 ≤ bestQ ts L i k by omega)
          have hb' : bestQ ts L i k = (b : Int) := hb
          rw [hb'] at e ⊢
          repeat' (first | refine go ?_ | refine goX ?_ | refine goB ?_ | (refine goG ?_; intro g) | (refine goV ?_; intro v))
          first | refine WL.callV (earliest_c g L v avs ts M i b hg hn hit (by omega) hP) ?_ | refine WD.callV (earliest_c g L v avs ts M i b hg hn hit (by omega) hP) ?_
          by_cases d3 : earlP ts L i k < earlP ts L i b
          · rw [if_pos ⟨hmi.2 d1, .inr (by simpa using d3)⟩] at e
            repeat' (first | refine go ?_ | refine goX ?_ | refine goB ?_ | (refine goG ?_; intro g) | (refine goV ?_; intro v))
            exact LoopEnd.mk (k + 1) (by omega) (by omega) (by rw [e]; exact suA) slA sfA
          · rw [if_neg (fun h => by rcases h.2 with h | h; omega; exact d3 (by simpa using h))] at e
            repeat' (first | refine go ?_ | refine goX ?_ | refine goB ?_ | (refine goG ?_; intro g) | (refine goV ?_; intro v))
            exact LoopEnd.mk (k + 1) (by omega) (by omega) (by rw [e]; exact suA) slA sfA
      · rw [if_neg (fun h => d1 (hmi.1 h.1))] at e
        repeat' (first | refine go ?_ | refine goX ?_ | refine goB ?_ | (refine goG ?_; intro g) | (refine goV ?_; intro v))
        exact LoopEnd.mk (k + 1) (by omega) (by omega) (by rw [e]; exact suA) slA sfA
    · obtain rfl : k = M := by omega
      obtain ⟨b, hb⟩ := Int.eq_ofNat_of_zero_le hbp
      have hb' : bestQ ts L i k = (b : Int) := hb
      rw [hb'] at e0 ⊢
      rw [show ((b : Int)).toNat = b from rfl] at e0
      have hwl : (withP ts L i b).length = 26 := by simp [withP, hPl]
      repeat' (first | refine go ?_ | refine goX ?_ | refine goB ?_ | (refine goG ?_; intro g) | (refine goV ?_; intro v))
      first | refine WL.callV (with_c g L v avs ts k i b hg hn hit (by omega) hP) ?_ | refine WD.callV (with_c g L v avs ts k i b hg hn hit (by omega) hP) ?_
      repeat' (first | refine go ?_ | refine goX ?_ | refine goB ?_ | (refine goG ?_; intro g) | (refine goV ?_; intro v))
      exact LoopEnd.mk (j + 1) (by omega) (by omega) suA (by rw [e0]; exact slA) sfA
  · obtain rfl : j = o.length := by omega
    repeat' (first | refine go ?_ | refine goX ?_ | refine goB ?_ | (refine goG ?_; intro g) | (refine goV ?_; intro v))
    refine WC.ret ?_
    exact Fin.v (ResE.cI rfl rfl meA T.r85 hPl) meA rfl
end S
end Go.Proofs.YthggloiigkbfeaaGreat
namespace Go.Proofs.YthggloiigkbfeaaGreat
namespace S
def freeN (ts : List Tk) (st on : List Int) (k : Int) : Nat → Int
  | 0 => 0
  | j + 1 => if 0 ≤ st.getD j 0 ∧ on.getD j 0 = k then max (freeN ts st on k j) (st.getD j 0 + (tg ts j).time) else freeN ts st on k j
theorem freeN_ub {ts : List Tk} {st on : List Int} {k : Int} {j : Nat} (h : 0 ≤ st.getD j 0) (h2 : on.getD j 0 = k) : ∀ {n : Nat}, j < n → st.getD j 0 + (tg ts j).time ≤ freeN ts st on k n
  | 0, hj => by omega
  | n + 1, hj => by
    by_cases hjn : j = n
    · subst hjn; rw [freeN, if_pos ⟨h, h2⟩]; omega
    · have := @freeN_ub ts st on k j h h2 n (by omega)
      rw [freeN]; split <;> omega
theorem freeN_lub {ts : List Tk} {st on : List Int} {k B : Int} (hB : 0 ≤ B) : ∀ {n : Nat}, (∀ j, j < n → 0 ≤ st.getD j 0 → on.getD j 0 = k → st.getD j 0 + (tg ts j).time ≤ B) → freeN ts st on k n ≤ B
  | 0, _ => by simpa [freeN] using hB
  | n + 1, h => by
    have h1 := @freeN_lub ts st on k B hB n fun j hj => h j (by omega)
    rw [freeN]; split
    · rename_i hc; have := h n (by omega) hc.1 hc.2; omega
    · exact h1
theorem freeN_nonneg {ts : List Tk} {st on : List Int} {k : Int} : ∀ n, 0 ≤ freeN ts st on k n
  | 0 => by simp [freeN]
  | n + 1 => by have := @freeN_nonneg ts st on k n; rw [freeN]; split <;> omega
theorem placeN_ub {ts : List Tk} {st on : List Int} {i : Nat} {k : Int} {j : Nat} (h : 0 ≤ st.getD j 0) (h2 : on.getD j 0 = k ∨ (j : Int) ∈ (tg ts i).after) : ∀ {n : Nat}, j < n → st.getD j 0 + (tg ts j).time ≤ placeN ts st on i k n
  | 0, hj => by omega
  | n + 1, hj => by
    by_cases hjn : j = n
    · subst hjn; rw [placeN, if_pos ⟨h, h2⟩]; omega
    · have := @placeN_ub ts st on i k j h h2 n (by omega)
      rw [placeN]; split <;> omega
theorem placeN_lub {ts : List Tk} {st on : List Int} {i : Nat} {k B : Int} (hB : 0 ≤ B) : ∀ {n : Nat}, (∀ j, j < n → 0 ≤ st.getD j 0 → (on.getD j 0 = k ∨ (j : Int) ∈ (tg ts i).after) → st.getD j 0 + (tg ts j).time ≤ B) → placeN ts st on i k n ≤ B
  | 0, _ => by simpa [placeN] using hB
  | n + 1, h => by
    have h1 := @placeN_lub ts st on i k B hB n fun j hj => h j (by omega)
    rw [placeN]; split
    · rename_i hc; have := h n (by omega) hc.1 hc.2; omega
    · exact h1
theorem earlN_ub0 {ts : List Tk} {L : List Int} {i k : Nat} : ∀ n, L.getD (20 + k) 0 ≤ earlN ts L i k n
  | 0 => by simp [earlN]
  | n + 1 => by have := @earlN_ub0 ts L i k n; rw [earlN]; omega
theorem earlN_ub {ts : List Tk} {L : List Int} {i k q : Nat} : ∀ {n : Nat}, q < n → L.getD ((tg ts i).after.getD q 0).toNat 0 + (tg ts ((tg ts i).after.getD q 0).toNat).time ≤ earlN ts L i k n
  | 0, h => by omega
  | n + 1, h => by
    by_cases hq : q = n
    · subst hq; rw [earlN]; omega
    · have := @earlN_ub ts L i k q n (by omega); rw [earlN]; omega
theorem earlN_lub {ts : List Tk} {L : List Int} {i k : Nat} {B : Int} (h0 : L.getD (20 + k) 0 ≤ B) : ∀ {n : Nat}, (∀ q, q < n → L.getD ((tg ts i).after.getD q 0).toNat 0 + (tg ts ((tg ts i).after.getD q 0).toNat).time ≤ B) → earlN ts L i k n ≤ B
  | 0, _ => by simpa [earlN] using h0
  | n + 1, h => by
    have h1 := @earlN_lub ts L i k B h0 n fun q hq => h q (by omega)
    have := h n (by omega)
    rw [earlN]; omega
structure Rel (ts : List Tk) (L st on : List Int) (ln : Int) : Prop where
  l0 : L.length = 26
  l1 : st.length = ts.length
  l2 : on.length = ts.length
  done : 0 ≤ L.getD 24 0 ∧ L.getD 24 0 < 1024
  bit : ∀ i, (L.getD 24 0).toNat.testBit i = decide (i < ts.length ∧ 0 ≤ st.getD i 0)
  sq : ∀ i, i < ts.length → 0 ≤ st.getD i 0 → L.getD i 0 = st.getD i 0 ∧ L.getD (10 + i) 0 = on.getD i 0
  free : ∀ k : Nat, k < 4 → L.getD (20 + k) 0 = freeN ts st on k ts.length
  len : L.getD 25 0 = ln
theorem after_mem {l : List Int} {x : Int} (h : x ∈ l) : ∃ q, q < l.length ∧ l.getD q 0 = x := by
  obtain ⟨q, hq, he⟩ := List.mem_iff_getElem.1 h
  exact ⟨q, hq, by rw [List.getD_eq_getElem?_getD, List.getElem?_eq_getElem hq]; simpa using he⟩
theorem mem_after {l : List Int} {q : Nat} (h : q < l.length) : l.getD q 0 ∈ l := by
  rw [List.getD_eq_getElem?_getD, List.getElem?_eq_getElem h]; exact List.getElem_mem _
theorem Rel.earl {M : Nat} {ts : List Tk} (hg : AllGood M ts) {L st on : List Int} {ln : Int} (h : Rel ts L st on ln) {i k : Nat} (hi : i < ts.length) (hk : k < 4) (hr : ∀ q, q < (tg ts i).after.length → 0 ≤ st.getD ((tg ts i).after.getD q 0).toNat 0) : earlP ts L i k = placeP ts st on i k := by
  have hf := h.free k hk
  apply Int.le_antisymm
  · refine earlN_lub (by rw [hf]; exact freeN_lub (placeN_nonneg _) fun j hj h1 h2 => placeN_ub h1 (.inl h2) hj) fun q hq => ?_
    have ha := good_after hg hi q hq
    have hs := hr q hq
    have he := (h.sq ((tg ts i).after.getD q 0).toNat (by omega) hs).1
    rw [he]
    exact placeN_ub hs (.inr (by rw [Int.toNat_of_nonneg ha.1]; exact mem_after hq)) (by omega)
  · refine placeN_lub (Int.le_trans (by rw [hf]; exact freeN_nonneg _) (earlN_ub0 _)) fun j hj h1 h2 => ?_
    rcases h2 with h2 | h2
    · exact Int.le_trans (freeN_ub h1 h2 hj) (by rw [← hf]; exact earlN_ub0 _)
    · obtain ⟨q, hq, he⟩ := after_mem h2
      have h3 := @earlN_ub ts L i k q _ hq
      rw [he, Int.toNat_natCast, (h.sq j hj h1).1] at h3
      exact h3
theorem orInt_bit {a : Int} {i j : Nat} : (orInt a (2 ^ i)).toNat.testBit j = (a.toNat.testBit j || decide (i = j)) := by
  unfold orInt
  have : ((2 : Int) ^ i).toNat = 2 ^ i := by
    have : ((2 : Int) ^ i) = ((2 ^ i : Nat) : Int) := by simp
    rw [this, Int.toNat_natCast]
  rw [Int.toNat_natCast, this, Nat.testBit_or, Nat.testBit_two_pow]
theorem freeN_set {ts : List Tk} {st on : List Int} {i : Nat} {e k k' : Int} (hi : i < ts.length) (hs : st.length = ts.length) (ho : on.length = ts.length) (hni : st.getD i 0 < 0) (he : 0 ≤ e) (hfe : freeN ts st on k ts.length ≤ e) (ht : 0 ≤ (tg ts i).time) :
    freeN ts (st.set i e) (on.set i k) k' ts.length = if k' = k then e + (tg ts i).time else freeN ts st on k' ts.length := by
  have g1 : ∀ j, (st.set i e).getD j 0 = if i = j then e else st.getD j 0 := fun j => by rw [getD_set]; by_cases h : i = j <;> simp [h]; omega
  have g2 : ∀ j, (on.set i k).getD j 0 = if i = j then k else on.getD j 0 := fun j => by rw [getD_set]; by_cases h : i = j <;> simp [h]; omega
  split
  · rename_i hk; subst hk
    apply Int.le_antisymm
    · refine freeN_lub (by omega) fun j hj h1 h2 => ?_
      rw [g1] at h1 ⊢; rw [g2] at h2
      by_cases hij : i = j
      · subst hij; simp
      · rw [if_neg hij] at h1 h2 ⊢
        have := freeN_ub (ts := ts) h1 h2 hj; omega
    · have := freeN_ub (ts := ts) (st := st.set i e) (on := on.set i k') (k := k') (j := i) (by rw [g1]; simpa using he) (by rw [g2]; simp) hi
      rw [g1] at this; simpa using this
  · rename_i hk
    apply Int.le_antisymm
    · refine freeN_lub (freeN_nonneg _) fun j hj h1 h2 => ?_
      rw [g1] at h1 ⊢; rw [g2] at h2
      by_cases hij : i = j
      · rw [if_pos hij] at h2; exact absurd h2.symm hk
      · rw [if_neg hij] at h1 h2 ⊢
        exact freeN_ub h1 h2 hj
    · refine freeN_lub (freeN_nonneg _) fun j hj h1 h2 => ?_
      have hij : i ≠ j := by rintro rfl; omega
      have := freeN_ub (ts := ts) (st := st.set i e) (on := on.set i k) (k := k') (j := j) (by rw [g1, if_neg hij]; exact h1) (by rw [g2, if_neg hij]; exact h2) hj
      rw [g1, if_neg hij] at this; exact this
theorem free_le_place {ts : List Tk} {st on : List Int} {i : Nat} {k : Int} : freeN ts st on k ts.length ≤ placeP ts st on i k :=
  freeN_lub (placeN_nonneg _) fun _ hj h1 h2 => placeN_ub h1 (.inl h2) hj
theorem Rel.step {M : Nat} {ts : List Tk} (hg : AllGood M ts) (hn : ts.length ≤ 10) {L st on : List Int} {ln : Int} (h : Rel ts L st on ln) {i k : Nat} (hi : i < ts.length) (hk : k < 4) (hr : readyP ts st i) :
    Rel ts (withP ts L i k) (st.set i (placeP ts st on i k)) (on.set i k) (max ln (placeP ts st on i k + (tg ts i).time)) := by
  have he := h.earl hg hi hk hr.2
  have hl := h.l0
  have ht := good_time hg i
  have hp0 : 0 ≤ placeP ts st on i k := placeN_nonneg _
  have h1 := h.l1
  have h2 := h.l2
  have hd := orInt_bd h.done.1 h.done.2 (i := i) (by omega)
  have e24 : (withP ts L i k).getD 24 0 = orInt (L.getD 24 0) (2 ^ i) := by
    unfold withP; simp only [getD_set]
    rw [if_neg (by omega), if_pos (by simp [hl])]
  have e25 : (withP ts L i k).getD 25 0 = max (L.getD 25 0) (placeP ts st on i k + (tg ts i).time) := by
    unfold withP; simp only [getD_set]
    rw [if_pos (by simp [hl]), he]
  have efr : ∀ k' : Nat, k' < 4 → (withP ts L i k).getD (20 + k') 0 = if k' = k then placeP ts st on i k + (tg ts i).time else L.getD (20 + k') 0 := fun k' hk' => by
    unfold withP; simp only [getD_set]
    rw [if_neg (by omega), if_neg (by omega)]
    by_cases hkk : k' = k
    · subst hkk; rw [if_pos (by simp [hl]; omega), if_pos rfl, he]
    · rw [if_neg (by omega), if_neg hkk, if_neg (by omega), if_neg (by omega)]
  have est : ∀ j : Nat, j < 10 → (withP ts L i k).getD j 0 = if i = j then placeP ts st on i k else L.getD j 0 := fun j hj => by
    unfold withP; simp only [getD_set]
    rw [if_neg (by omega), if_neg (by omega), if_neg (by omega), if_neg (by omega)]
    by_cases hij : i = j
    · subst hij; rw [if_pos (by simp [hl]; omega), if_pos rfl, he]
    · rw [if_neg (by omega), if_neg hij]
  have eon : ∀ j : Nat, j < 10 → (withP ts L i k).getD (10 + j) 0 = if i = j then (k : Int) else L.getD (10 + j) 0 := fun j hj => by
    unfold withP; simp only [getD_set]
    rw [if_neg (by omega), if_neg (by omega), if_neg (by omega)]
    by_cases hij : i = j
    · subst hij; rw [if_pos (by simp [hl]; omega), if_pos rfl]
    · rw [if_neg (by omega), if_neg hij, if_neg (by omega)]
  refine ⟨by simp [withP, hl], by simpa using h1, by simpa using h2, by rw [e24]; exact hd, fun j => ?_, fun j hj hs => ?_, fun k' hk' => ?_, by rw [e25, h.len]⟩
  · rw [e24, orInt_bit, h.bit, getD_set]
    by_cases hij : i = j
    · subst hij; simp [hi, h1, hp0]
    · simp [hij]
  · rw [est j (by omega), eon j (by omega)]
    rw [getD_set] at hs ⊢
    rw [getD_set]
    by_cases hij : i = j
    · subst hij; simp [h1, h2, hi]
    · simp only [hij, false_and, if_false] at hs ⊢
      exact h.sq j hj hs
  · rw [efr k' hk', freeN_set hi h1 h2 hr.1 hp0 free_le_place ht.1]
    by_cases hkk : k' = k
    · subst hkk; simp
    · rw [if_neg hkk, if_neg (by omega), h.free k' hk']
theorem Rel.best {M : Nat} {ts : List Tk} (hg : AllGood M ts) {L st on : List Int} {ln : Int} (h : Rel ts L st on ln) {i : Nat} (hi : i < ts.length) (hr : readyP ts st i) : ∀ {n : Nat}, n ≤ 4 → bestQ ts L i n = bestN ts st on i n
  | 0, _ => rfl
  | n + 1, hn => by
    have ih := h.best hg hi hr (n := n) (by omega)
    have hb := bestQ_bd (ts := ts) (L := L) (i := i) n
    unfold bestQ bestN
    rw [ih] at hb ⊢
    by_cases hneg : bestN ts st on i n < 0
    · simp [hneg]
    · have e1 := h.earl hg hi (k := n) (by omega) hr.2
      have e2 := h.earl hg hi (k := (bestN ts st on i n).toNat) (by omega) hr.2
      rw [Int.toNat_of_nonneg (by omega)] at e2
      simp only [e1, e2]
theorem rel_none {M : Nat} {ts : List Tk} (hn : ts.length ≤ 10) : Rel ts (List.replicate 26 0) (List.replicate ts.length (-1)) (List.replicate ts.length (-1)) 0 := by
  have hz : ∀ j, (List.replicate 26 (0 : Int)).getD j 0 = 0 := fun j => by
    simp only [List.getD_eq_getElem?_getD, List.getElem?_replicate]; split <;> simp
  have hm : ∀ j, j < ts.length → (List.replicate ts.length (-1 : Int)).getD j 0 = -1 := fun j hj => by simp [hj]
  refine ⟨by simp, by simp, by simp, by simp, fun i => ?_, fun i hi hs => ?_, fun k hk => ?_, by simp⟩
  · rw [hz]
    by_cases hi : i < ts.length
    · rw [hm i hi]; simp
    · simp [hi]
  · rw [hm i hi] at hs; omega
  · rw [hz]
    apply Int.le_antisymm (freeN_nonneg _)
    refine freeN_lub (Int.le_refl _) fun j hj hs _ => ?_
    rw [hm j hj] at hs; omega
theorem lis_lst {M : Nat} {ts : List Tk} (hg : AllGood M ts) (hM : M ≤ 4) (hn : ts.length ≤ 10) {o : List Int} : ∀ j, okOrder ts M o j → Rel ts (lisN ts M o j) (lstN ts M o j).1 (lstN ts M o j).2.1 (lstN ts M o j).2.2
  | 0, _ => rel_none (M := M) hn
  | j + 1, h => by
    have ih := lis_lst hg hM hn (o := o) j fun q hq => h q (by omega)
    obtain ⟨h1, h2, h3⟩ := h j (by omega)
    have hi : (o.getD j 0).toNat < ts.length := by omega
    have gi := hg _ hi
    have hb := ih.best hg hi h3 hM
    have hbp := bestN_pos (ts := ts) (st := (lstN ts M o j).1) (on := (lstN ts M o j).2.1) (i := (o.getD j 0).toNat) (n := M) (good_may hM gi.o1 gi.o2)
    have hbb := bestN_bd (ts := ts) (st := (lstN ts M o j).1) (on := (lstN ts M o j).2.1) (i := (o.getD j 0).toNat) M
    have := ih.step hg hn hi (k := (bestQ ts (lisN ts M o j) (o.getD j 0).toNat M).toNat) (by omega) h3
    rw [hb, Int.toNat_of_nonneg hbp.1] at this
    unfold lisN lstN
    rw [hb]
    exact this
theorem Rel.lists {ts : List Tk} (hn : ts.length ≤ 10) {L st on : List Int} {ln : Int} (h : Rel ts L st on ln) (hall : ∀ i, i < ts.length → 0 ≤ st.getD i 0) : (L.drop 0).take ts.length = st ∧ (L.drop 10).take ts.length = on := by
  have hl := h.l0
  have h1 := h.l1
  have h2 := h.l2
  constructor
  · refine same_all (by simp; omega) fun j hj => ?_
    have hj' : j < ts.length := by simp at hj; omega
    have := (h.sq j hj' (hall j hj')).1
    rw [← this]
    simp only [List.getD_eq_getElem?_getD, List.getElem?_take, List.getElem?_drop, hj', if_true, Nat.zero_add]
  · refine same_all (by simp; omega) fun j hj => ?_
    have hj' : j < ts.length := by simp at hj; omega
    have := (h.sq j hj' (hall j hj')).2
    rw [← this]
    simp only [List.getD_eq_getElem?_getD, List.getElem?_take, List.getElem?_drop, hj', if_true]
end S
end Go.Proofs.YthggloiigkbfeaaGreat
namespace Go.Proofs.YthggloiigkbfeaaGreat
namespace S
theorem getD_lt {l : List Int} {q : Nat} (h : q < l.length) : l.getD q 0 = l[q] := by simp [h]
theorem take_succ_mem {l : List Int} {j : Nat} {x : Int} (h : j < l.length) : x ∈ l.take (j + 1) ↔ x ∈ l.take j ∨ x = l.getD j 0 := by
  rw [List.take_succ_eq_append_getElem h, List.mem_append, List.mem_singleton, getD_lt h]
theorem lst_placed {M : Nat} {ts : List Tk} {o : List Int} : ∀ j, j ≤ o.length → okOrder ts M o j → ∀ a : Nat, a < ts.length → (0 ≤ (lstN ts M o j).1.getD a 0 ↔ (a : Int) ∈ o.take j)
  | 0, _, _, a, ha => by simp [lstN, ha]
  | j + 1, hj, h, a, ha => by
    have ih := lst_placed (M := M) (ts := ts) (o := o) j (by omega) (fun q hq => h q (by omega)) a ha
    obtain ⟨h1, h2, h3⟩ := h j (by omega)
    have hlen : (lstN ts M o j).1.length = ts.length := by
      clear ih h1 h2 h3 h hj
      induction j with
      | zero => simp [lstN]
      | succ j ih => simpa [lstN] using ih
    rw [take_succ_mem (by omega), ← ih]
    simp only [lstN]
    rw [getD_set]
    have hp := placeN_nonneg (ts := ts) (st := (lstN ts M o j).1) (on := (lstN ts M o j).2.1) (i := (o.getD j 0).toNat) (k := bestN ts (lstN ts M o j).1 (lstN ts M o j).2.1 (o.getD j 0).toNat M) ts.length
    split
    · rename_i hc
      constructor
      · intro _; right; omega
      · intro _; exact hp
    · rename_i hc
      constructor
      · intro h; exact .inl h
      · rintro (h | h)
        · exact h
        · exfalso; apply hc; omega
theorem okAt_iff {M : Nat} {ts : List Tk} {o : List Int} {j : Nat} (hg : AllGood M ts) (hj : j < o.length) (h : okOrder ts M o j) {i : Nat} (he : o.getD j 0 = i) (hi : i < ts.length) :
    okAt ts M o j ↔ (i : Int) ∉ o.take j ∧ ((tg ts i).after.any fun a => !decide (a ∈ o.take j)) = false := by
  have hp := lst_placed (M := M) (ts := ts) (o := o) j (by omega) h
  unfold okAt readyP
  rw [he, Int.toNat_natCast]
  constructor
  · rintro ⟨_, _, h1, h2⟩
    refine ⟨fun hc => by have := (hp i hi).2 hc; omega, ?_⟩
    rw [List.any_eq_false]
    intro a ha
    obtain ⟨q, hq, rfl⟩ := after_mem ha
    have hb := good_after hg hi q hq
    have := (hp ((tg ts i).after.getD q 0).toNat (by omega)).1 (h2 q hq)
    rw [Int.toNat_of_nonneg hb.1] at this
    simpa using this
  · rintro ⟨h1, h2⟩
    refine ⟨by omega, by omega, ?_, fun q hq => ?_⟩
    · have := mt (hp i hi).1 h1; omega
    · have hb := good_after hg hi q hq
      rw [List.any_eq_false] at h2
      have := h2 _ (mem_after hq)
      rw [hp _ (by omega), Int.toNat_of_nonneg hb.1]
      simpa using this
theorem ok_nodup {M : Nat} {ts : List Tk} {o : List Int} : ∀ j, j ≤ o.length → okOrder ts M o j → (o.take j).Nodup ∧ ∀ x ∈ o.take j, 0 ≤ x ∧ x < ts.length
  | 0, _, _ => by simp
  | j + 1, hj, h => by
    have ih := ok_nodup (M := M) (ts := ts) (o := o) j (by omega) fun q hq => h q (by omega)
    obtain ⟨h1, h2, h3⟩ := h j (by omega)
    have hp := lst_placed (M := M) (ts := ts) (o := o) j (by omega) (fun q hq => h q (by omega)) (o.getD j 0).toNat (by omega)
    rw [Int.toNat_of_nonneg h1] at hp
    have hni : o.getD j 0 ∉ o.take j := fun hc => by have := hp.2 hc; have := h3.1; omega
    rw [List.take_succ_eq_append_getElem (by omega), ← getD_lt (by omega)]
    refine ⟨?_, fun x hx => ?_⟩
    · rw [List.nodup_append]
      exact ⟨ih.1, by simp, fun a ha b hb => by simp at hb; subst hb; rintro rfl; exact hni ha⟩
    · rcases List.mem_append.1 hx with hx | hx
      · exact ih.2 x hx
      · simp at hx; subst hx; simpa using ⟨h1, h2⟩
theorem ok_all {M : Nat} {ts : List Tk} {o : List Int} (hl : o.length = ts.length) (h : okOrder ts M o ts.length) (i : Nat) (hi : i < ts.length) : 0 ≤ (lstN ts M o ts.length).1.getD i 0 := by
  rw [lst_placed ts.length (by omega) h i hi]
  obtain ⟨h1, h2⟩ := ok_nodup (M := M) (ts := ts) (o := o) ts.length (by omega) h
  apply Classical.byContradiction
  intro hc
  have := nodup_lt (n := ts.length) (l := (i : Int) :: o.take ts.length) (List.nodup_cons.2 ⟨hc, h1⟩) (by
    intro x hx
    rcases List.mem_cons.1 hx with rfl | hx
    · omega
    · exact h2 x hx)
  simp at this; omega
end S
end Go.Proofs.YthggloiigkbfeaaGreat
namespace Go.Proofs.YthggloiigkbfeaaGreat
namespace S
open W Go.RowKit
attribute [local irreducible] WC WL WD YO LO LoopEnd W.Fin Scalar SliceT FieldAt Row ArrT AllocT KnS Has W.One SrcE IntT
set_option maxHeartbeats 2000000 in
set_option maxRecDepth 4000 in
theorem list_c (v u : Value) (avs : List Value) (ts : List Tk) (m : Int) (o : List Int) (hi64 : TI64 ts) :
    FnB Tryz.prog 14 [v, .int .i64 m, u] [] [sT v avs ts, sA avs ts, sI u o] (IsL (listP ts m o)) := by
  refine fn_of [(0, v), (1, .int .i64 m), (2, u)] 68 Tryz.func14 rfl Tryz.ntmps14 (by kernel_rfl) rfl suA fun h0 => ?_
  refine WC.lenI u o hmA fun hlo => ?_
  repeat' (first | refine go ?_ | refine goX ?_ | refine goB ?_ | (refine goG ?_; intro g) | (refine goV ?_; intro v))
  revert g; intro p0
  first | refine WL.callV (valid_c v avs ts m hi64) ?_ | refine WD.callV (valid_c v avs ts m hi64) ?_
  by_cases h : validE ts m = 0
  · rw [h]
    by_cases h1 : o.length = ts.length
    · obtain ⟨hl, M, rfl, hM1, hM4, hg⟩ := validE_0 h
      repeat' (first | refine go ?_ | refine goX ?_ | refine goB ?_ | (refine goG ?_; intro g) | (refine goV ?_; intro v))
      refine WC.lp (σ := Nat) (fun k => [(27, .int .i64 (k : Int)), (26, .int .i64 (o.length : Int)), (25, u), (5, ptr p0), (0, v), (1, .int .i64 M)]) (fun _ => [Ow.cells p0 22 [u]]) (fun _ => [ge h0, sT v avs ts, sA avs ts, sI u o]) (fun k => k ≤ o.length ∧ okOrder ts M o k) (fun k => o.length - k) 0 ⟨by simp, by simp [okOrder]⟩ ?_
      rintro k ⟨hk, hok⟩
      by_cases hlt : k < o.length
      · by_cases c1 : o.getD k 0 < 0
        · repeat' (first | refine go ?_ | refine goX ?_ | refine goB ?_ | (refine goG ?_; intro g) | (refine goV ?_; intro v))
          refine WC.addNil 3 1 (WC.addNil 3 1 (WC.ret ?_))
          exact Fin.l (ResE.t4 rfl rfl rfl rfl rfl) meA slA [] [] rfl rfl (by rw [listP_no h h1 (by omega : k < ts.length)]; intro hc; have := hc.1; omega)
        by_cases c2 : ts.length ≤ o.getD k 0
        · repeat' (first | refine go ?_ | refine goX ?_ | refine goB ?_ | (refine goG ?_; intro g) | (refine goV ?_; intro v))
          refine WC.addNil 3 1 (WC.addNil 3 1 (WC.ret ?_))
          exact Fin.l (ResE.t4 rfl rfl rfl rfl rfl) meA slA [] [] rfl rfl (by rw [listP_no h h1 (by omega : k < ts.length)]; intro hc; have := hc.2.1; omega)
        obtain ⟨i, hi⟩ := Int.eq_ofNat_of_zero_le (show 0 ≤ o.getD k 0 by omega)
        have hi' : o.getD k 0 = (i : Int) := hi
        have hit : i < ts.length := by omega
        have hiff := okAt_iff hg hlt hok hi' hit
        have hno : ¬ okAt ts M o k → listP ts M o = ([], [], 0, 1) := listP_no h h1 (by omega : k < ts.length)
        repeat' (first | refine go ?_ | refine goX ?_ | refine goB ?_ | (refine goG ?_; intro g) | (refine goV ?_; intro v))
        rw [hi']
        refine WL.callV (contains_c (resl u 0 k 1) (o.take k) i) ?_ (hF := .cons (HasB.f (Has.takeI hmA hk)) .nil)
        by_cases d1 : (i : Int) ∈ o.take k
        · rw [decide_eq_true d1]
          repeat' (first | refine go ?_ | refine goX ?_ | refine goB ?_ | (refine goG ?_; intro g) | (refine goV ?_; intro v))
          refine WC.addNil 3 1 (WC.addNil 3 1 (WC.ret ?_))
          exact Fin.l (ResE.t4 rfl rfl rfl rfl rfl) meA slA [] [] rfl rfl (by rw [hno]; intro hc; exact (hiff.1 hc).1 d1)
        · rw [decide_eq_false d1]
          repeat' (first | refine go ?_ | refine goX ?_ | refine goB ?_ | (refine goG ?_; intro g) | (refine goV ?_; intro v))
          have hF : FnAt 53 [ptr p0, ptr g] [ce p0 22 [u], ce g 3 [.int .i64 k], sI u o] (tg ts i).after (fun a => !decide (a ∈ o.take k)) := fun x _ => list1_c p0 g o u k hk x
          first | refine WL.callV (containsF_c (avs.getD i undef) (tg ts i).after 53 [ptr p0, ptr g] _ _ hF) ?_ | refine WD.callV (containsF_c (avs.getD i undef) (tg ts i).after 53 [ptr p0, ptr g] _ _ hF) ?_
          cases d2 : ((tg ts i).after.any fun a => !decide (a ∈ o.take k)) with
          | true =>
            repeat' (first | refine go ?_ | refine goX ?_ | refine goB ?_ | (refine goG ?_; intro g) | (refine goV ?_; intro v))
            refine WC.addNil 3 1 (WC.addNil 3 1 (WC.ret ?_))
            exact Fin.l (ResE.t4 rfl rfl rfl rfl rfl) meA slA [] [] rfl rfl (by rw [hno]; intro hc; have := (hiff.1 hc).2; rw [d2] at this; cases this)
          | false =>
            repeat' (first | refine go ?_ | refine goX ?_ | refine goB ?_ | (refine goG ?_; intro g) | (refine goV ?_; intro v))
            exact LoopEnd.mk (k + 1) ⟨by omega, upto_succ hok (hiff.2 ⟨d1, d2⟩)⟩ (by omega)
      · obtain rfl : k = o.length := by omega
        have hbd : ∀ j, j < o.length → 0 ≤ o.getD j 0 ∧ o.getD j 0 < ts.length := fun j hj => ⟨(hok j hj).1, (hok j hj).2.1⟩
        have hB := lis_B hg hM4 hl hbd o.length (Nat.le_refl _)
        have hLl := hB.len
        have hR := lis_lst hg hM4 hl o.length hok
        rw [h1] at hR hok
        have hR2 := hR.lists hl (ok_all h1 hok)
        have e1 : lisN ts M o o.length = lisN ts M o ts.length := by rw [h1]
        repeat' (first | refine go ?_ | refine goX ?_ | refine goB ?_ | (refine goG ?_; intro g) | (refine goV ?_; intro v))
        first | refine WL.callV (listed_c v u avs ts M o hg hM4 hl (by omega) hbd) ?_ | refine WD.callV (listed_c v u avs ts M o hg hM4 hl (by omega) hbd) ?_
        repeat' (first | refine go ?_ | refine goX ?_ | refine goB ?_ | (refine goG ?_; intro g) | (refine goV ?_; intro v))
        first | refine WL.callP (lists_c g (lisN ts M o o.length) ts.length hl hLl) ?_ | refine WD.callP (lists_c g (lisN ts M o o.length) ts.length hl hLl) ?_
        rintro _ _ _ ⟨a, c, rfl, rfl, rfl⟩
        repeat' (first | refine go ?_ | refine goX ?_ | refine goB ?_ | (refine goG ?_; intro g) | (refine goV ?_; intro v))
        refine WC.ret ?_
        exact Fin.l (ResE.t4 rfl rfl rfl rfl rfl) meA slA _ _ rfl rfl (by rw [listP_ok h h1 hok, e1, hR2.1, hR2.2, hR.len])
    · have h1' : (o.length : Int) ≠ ts.length := by omega
      repeat' (first | refine go ?_ | refine goX ?_ | refine goB ?_ | (refine goG ?_; intro g) | (refine goV ?_; intro v))
      refine WC.addNil 3 1 (WC.addNil 3 1 (WC.ret ?_))
      exact Fin.l (ResE.t4 rfl rfl rfl rfl rfl) meA slA [] [] rfl rfl (by rw [listP_l h h1])
  · repeat' (first | refine go ?_ | refine goX ?_ | refine goB ?_ | (refine goG ?_; intro g) | (refine goV ?_; intro v))
    refine WC.addNil 3 1 (WC.addNil 3 1 (WC.ret ?_))
    exact Fin.l (ResE.t4 rfl rfl rfl rfl rfl) meA slA [] [] rfl rfl (by rw [listP_e h])
end S
end Go.Proofs.YthggloiigkbfeaaGreat
namespace Go.Proofs.YthggloiigkbfeaaGreat
namespace S
open W Go.RowKit
attribute [local irreducible] WC WL WD YO LO LoopEnd W.Fin Scalar SliceT FieldAt Row ArrT AllocT KnS Has W.One SrcE IntT
set_option maxHeartbeats 1000000 in
set_option maxRecDepth 4000 in
theorem load_c (s p : Nat) (v mp : Value) (avs : List Value) (ts : List Tk) (M : Nat) (goal : Int) (B L : List Int) (on : Nat) (hg : AllGood M ts) (hn : ts.length ≤ 10) (hM : M ≤ 4) (hB : B.length = 26) (hL : PlOK L) (h1 : 1 ≤ on) (h2 : on < 16) :
    FnB Tryz.prog 101 [ptr s, ptr p, .int .i64 on] [] [ce s 89 (srch v M goal B mp), ce p 85 (ints L), sT v avs ts, sA avs ts] (IsV (.int .i64 (loadP ts M L on))) := by
  refine fn_of [(0, ptr s), (1, ptr p), (2, .int .i64 on)] 72 Tryz.func101 rfl Tryz.ntmps101 (by kernel_rfl) rfl suA fun h0 => ?_
  have hlen := hL.len
  have ht := good_time hg
  have hbo := good_on hg hM
  have hdone := hL.bd 24
  have hpop := popP_bd h1 h2
  repeat' (first | refine go ?_ | refine goX ?_ | refine goB ?_ | (refine goG ?_; intro g) | (refine goV ?_; intro v))
  refine WC.lp (σ := Nat) (fun k => [(16, .int .i64 (k : Int)), (15, .int .i64 (M : Int)), (7, .int .i64 (freeS L on k)), (0, ptr s), (1, ptr p), (2, .int .i64 on)]) (fun _ => []) (fun _ => [ge h0, ce s 89 (srch v M goal B mp), ce p 85 (ints L), sT v avs ts, sA avs ts]) (fun k => k ≤ M) (fun k => M - k) 0 (by simp) ?_
  rintro k hk
  have hf := freeS_bd (on := on) hL k
  by_cases hlt : k < M
  · have hd := div_bd (o := (on : Int)) ((k : Int)).toNat (by omega)
    have hfk := hL.bd (20 + k)
    have e : freeS L on (k + 1) = if bitI on (k : Int) = 1 then freeS L on k + L.getD (20 + k) 0 else freeS L on k := rfl
    by_cases c : (on : Int) / 2 ^ ((k : Int)).toNat % 2 = 1
    · rw [if_pos c] at e
      repeat' (first | refine go ?_ | refine goX ?_ | refine goB ?_ | (refine goG ?_; intro g) | (refine goV ?_; intro v))
      exact LoopEnd.mk (k + 1) (by omega) (by omega) (by rw [e]; exact suA)
    · rw [if_neg c] at e
      repeat' (first | refine go ?_ | refine goX ?_ | refine goB ?_ | (refine goG ?_; intro g) | (refine goV ?_; intro v))
      exact LoopEnd.mk (k + 1) (by omega) (by omega) (by rw [e]; exact suA)
  · obtain rfl : k = M := by omega
    repeat' (first | refine go ?_ | refine goX ?_ | refine goB ?_ | (refine goG ?_; intro g) | (refine goV ?_; intro v))
    refine WC.lp (σ := Nat) (fun i => [(38, .int .i64 (i : Int)), (37, .int .i64 (ts.length : Int)), (36, v), (7, .int .i64 (freeS L on k + timeS ts L on i)), (1, ptr p), (2, .int .i64 on)]) (fun _ => []) (fun _ => [ge h0, ce s 89 (srch v k goal B mp), ce p 85 (ints L), sT v avs ts, sA avs ts]) (fun i => i ≤ ts.length) (fun i => ts.length - i) 0 (by simp) ?_ (by simp only [timeS, Int.add_zero]; exact suA)
    rintro i hi
    have htb := timeS_bd (L := L) (on := on) ht i
    by_cases hlt : i < ts.length
    · have hd := div_bd (o := L.getD 24 0) ((i : Int)).toNat (by omega)
      have hti := ht i
      have hoi := hbo i
      have e : timeS ts L on (i + 1) = if bitI (L.getD 24 0) (i : Int) = 0 ∧ anot (tg ts i).on on = 0 then timeS ts L on i + (tg ts i).time else timeS ts L on i := rfl
      by_cases c : L.getD 24 0 / 2 ^ ((i : Int)).toNat % 2 = 0
      · by_cases c2 : anot (tg ts i).on on = 0
        · rw [if_pos ⟨c, c2⟩] at e
          repeat' (first | refine go ?_ | refine goX ?_ | refine goB ?_ | (refine goG ?_; intro g) | (refine goV ?_; intro v))
          exact LoopEnd.mk (i + 1) (by omega) (by omega) (by rw [e, ← Int.add_assoc]; exact suA)
        · rw [if_neg fun h => c2 h.2] at e
          repeat' (first | refine go ?_ | refine goX ?_ | refine goB ?_ | (refine goG ?_; intro g) | (refine goV ?_; intro v))
          exact LoopEnd.mk (i + 1) (by omega) (by omega) (by rw [e]; exact suA)
      · rw [if_neg fun h => c h.1] at e
        repeat' (first | refine go ?_ | refine goX ?_ | refine goB ?_ | (refine goG ?_; intro g) | (refine goV ?_; intro v))
        exact LoopEnd.mk (i + 1) (by omega) (by omega) (by rw [e]; exact suA)
    · obtain rfl : i = ts.length := by omega
      repeat' (first | refine go ?_ | refine goX ?_ | refine goB ?_ | (refine goG ?_; intro g) | (refine goV ?_; intro v))
      first | refine WL.callV (ones_c on h2) ?_ | refine WD.callV (ones_c on h2) ?_
      repeat' (first | refine go ?_ | refine goX ?_ | refine goB ?_ | (refine goG ?_; intro g) | (refine goV ?_; intro v))
      refine WC.ret ?_
      exact Fin.v (ResE.t1 rfl rfl) meA rfl
end S
end Go.Proofs.YthggloiigkbfeaaGreat
namespace Go.Proofs.YthggloiigkbfeaaGreat
namespace S
open W Go.RowKit
attribute [local irreducible] WC WL WD YO LO LoopEnd W.Fin Scalar SliceT FieldAt Row ArrT AllocT KnS Has W.One SrcE IntT
def setsF {σ : Type} (step : σ → Nat → σ × Bool) : Nat → Nat → σ → σ
  | 0, _, s => s
  | c + 1, n, s => if (step s n).2 then setsF step c (n + 1) (step s n).1 else (step s n).1
def IsB (v : Value) (B : List Ow) : RPost := fun u b G => u = v ∧ b = B ∧ G = []
theorem pow_nat (M : Nat) : ((2 : Int) ^ M) = ((2 ^ M : Nat) : Int) := by simp
set_option maxHeartbeats 1000000 in
theorem sets_c {σ : Type} (M : Nat) (hM : M ≤ 4) (f : FuncId) (cap : List Value) (F : List Fct) (B : σ → List Ow) (I : σ → Prop) (step : σ → Nat → σ × Bool)
    (hI : ∀ s n, I s → 1 ≤ n → n < 2 ^ M → I (step s n).1)
    (hf : ∀ (s : σ) (n : Nat), I s → 1 ≤ n → n < 2 ^ M → FnB Tryz.prog f ([.int .i64 n] ++ cap) (B s) F (IsB (.bool (step s n).2) (B (step s n).1))) (s0 : σ) (h0 : I s0) :
    FnB Tryz.prog 99 [.int .i64 M, .func (.func f) #[] cap.toArray] (B s0) F (IsB (.tuple #[]) (B (setsF step (2 ^ M - 1) 1 s0))) := by
  refine fn_of [(0, .int .i64 M), (1, .func (.func f) #[] cap.toArray)] 15 Tryz.func99 rfl Tryz.ntmps99 (by kernel_rfl) rfl suA fun h00 => ?_
  have hp := pow_16 hM
  have hp1 := pow_1 M
  have e5 := pow_e M
  have hpn := pow_nat M
  have c5 : (1 : Int) * 2 ^ ((M : Int)).toNat ≤ 9223372036854775807 := by rw [e5]; omega
  have c6 : -9223372036854775808 ≤ (1 : Int) * 2 ^ ((M : Int)).toNat := by rw [e5]; omega
  repeat' (first | refine go ?_ | refine goX ?_ | refine goB ?_ | (refine goG ?_; intro g) | (refine goV ?_; intro v))
  refine WC.lp (σ := Nat × σ) (fun s => [(4, .int .i64 (s.1 : Int)), (0, .int .i64 M), (1, .func (.func f) #[] cap.toArray)]) (fun s => B s.2) (fun _ => ge h00 :: F) (fun s => (1 ≤ s.1 ∧ s.1 ≤ 2 ^ M) ∧ I s.2 ∧ setsF step (2 ^ M - s.1) s.1 s.2 = setsF step (2 ^ M - 1) 1 s0) (fun s => 2 ^ M - s.1) (1, s0) ⟨⟨by simp, by show 1 ≤ 2 ^ M; omega⟩, h0, rfl⟩ ?_ suA slA (HasAll.tail fun _ h => h)
  rintro ⟨n, s⟩ ⟨⟨hn1, hn2⟩, hs, hset⟩
  simp only at hn1 hn2 hs hset ⊢
  by_cases hlt : n < 2 ^ M
  · have c7 : (n : Int) < (1 : Int) * 2 ^ ((M : Int)).toNat := by rw [e5]; omega
    rw [show 2 ^ M - n = (2 ^ M - (n + 1)) + 1 by omega, setsF] at hset
    repeat' (first | refine go ?_ | refine goX ?_ | refine goB ?_ | (refine goG ?_; intro g) | (refine goV ?_; intro v))
    refine WL.l rfl rfl (LO.call (first := []) (cap := cap) rfl evA (B s) [] (by rw [List.append_nil]) (hf s n hs hn1 hlt) (fun g hg => Has.mem (List.mem_cons_of_mem _ hg)) ?_)
    rintro _ _ _ ⟨rfl, rfl, rfl⟩
    rw [List.append_nil, List.nil_append]
    cases hb : (step s n).2 with
    | true =>
      rw [hb, if_pos rfl] at hset
      repeat' (first | refine go ?_ | refine goX ?_ | refine goB ?_ | (refine goG ?_; intro g) | (refine goV ?_; intro v))
      exact LoopEnd.mk (n + 1, (step s n).1) ⟨⟨by show 1 ≤ n + 1; omega, by show n + 1 ≤ 2 ^ M; omega⟩, hI s n hs hn1 hlt, hset⟩ (by show 2 ^ M - (n + 1) < 2 ^ M - n; omega) suA slA (HasAll.tail fun _ h => h)
    | false =>
      rw [hb, if_neg (by simp)] at hset
      repeat' (first | refine go ?_ | refine goX ?_ | refine goB ?_ | (refine goG ?_; intro g) | (refine goV ?_; intro v))
      refine WC.ret ?_
      exact Fin.p (B (step s n).1) [] (ResE.t0 rfl) meA (List.Sublist.refl _) .nil ⟨rfl, by rw [hset], rfl⟩
  · have c7 : (1 : Int) * 2 ^ ((M : Int)).toNat ≤ (n : Int) := by rw [e5]; omega
    obtain rfl : n = 2 ^ M := by omega
    rw [Nat.sub_self, setsF] at hset
    repeat' (first | refine go ?_ | refine goX ?_ | refine goB ?_ | (refine goG ?_; intro g) | (refine goV ?_; intro v))
    exact Fin.p (B s) [] (ResE.t0 rfl) meA (List.Sublist.refl _) .nil ⟨rfl, by rw [hset], rfl⟩
end S
end Go.Proofs.YthggloiigkbfeaaGreat
namespace Go.Proofs.YthggloiigkbfeaaGreat
abbrev BB : Int := 1000000000
def val : List Int → Int
  | [] => 0
  | d :: r => d + BB * val r
abbrev Dgt (x : Int) : Prop := 0 ≤ x ∧ x < BB
def Dg (l : List Int) : Prop := ∀ j, j < l.length → Dgt (l.getD j 0)
def digs (n : Nat) : List Int := if h : n = 0 then [] else ((n % 1000000000 : Nat) : Int) :: digs (n / 1000000000)
decreasing_by omega
def Nrm (l : List Int) : Prop := 0 < l.length → l.getD (l.length - 1) 0 ≠ 0
theorem digs_0 : digs 0 = [] := by rw [digs]; simp
theorem digs_pos {n : Nat} (h : n ≠ 0) : digs n = ((n % 1000000000 : Nat) : Int) :: digs (n / 1000000000) := by rw [digs]; simp [h]
theorem Dg.nil : Dg [] := fun j hj => by simp at hj
theorem Dg.cons {x : Int} {l : List Int} (h1 : Dgt x) (h2 : Dg l) : Dg (x :: l) := fun j hj => by
  match j with
  | 0 => exact h1
  | j + 1 => rw [List.getD_cons_succ]; exact h2 j (by simpa using hj)
theorem Dg.head {x : Int} {l : List Int} (h : Dg (x :: l)) : Dgt x := h 0 (by simp)
theorem Dg.tail {x : Int} {l : List Int} (h : Dg (x :: l)) : Dg l := fun j hj => by
  have := h (j + 1) (by simpa using hj)
  rwa [List.getD_cons_succ] at this
theorem getD_app1 {a b : List Int} {j : Nat} (h : j < a.length) : (a ++ b).getD j 0 = a.getD j 0 := by
  simp [List.getD_eq_getElem?_getD, List.getElem?_append_left h]
theorem getD_app2 {a b : List Int} {j : Nat} (h : a.length ≤ j) : (a ++ b).getD j 0 = b.getD (j - a.length) 0 := by
  simp [List.getD_eq_getElem?_getD, List.getElem?_append_right h]
theorem Dg.app {a b : List Int} (h1 : Dg a) (h2 : Dg b) : Dg (a ++ b) := fun j hj => by
  by_cases h : j < a.length
  · rw [getD_app1 h]; exact h1 j h
  · rw [getD_app2 (by omega)]; exact h2 _ (by simp at hj; omega)
theorem getD_take {l : List Int} {j n : Nat} (h : j < n) : (l.take n).getD j 0 = l.getD j 0 := by
  simp [List.getD_eq_getElem?_getD, List.getElem?_take, h]
theorem Dg.take {l : List Int} (h : Dg l) (n : Nat) : Dg (l.take n) := fun j hj => by
  rw [List.length_take] at hj
  rw [getD_take (by omega)]; exact h j (by omega)
theorem Dg.any {l : List Int} (h : Dg l) (j : Nat) : Dgt (l.getD j 0) := by
  by_cases hj : j < l.length
  · exact h j hj
  · rw [List.getD_eq_getElem?_getD, List.getElem?_eq_none (by omega)]; exact ⟨by simp, by show (0 : Int) < 1000000000; decide⟩
theorem digs_Dg : ∀ n, Dg (digs n) := fun n => by
  induction n using Nat.strongRecOn with
  | _ n ih =>
    by_cases h : n = 0
    · subst h; rw [digs_0]; exact .nil
    · rw [digs_pos h]; exact .cons ⟨by omega, by unfold BB; omega⟩ (ih _ (by omega))
theorem val_digs : ∀ n : Nat, val (digs n) = n := fun n => by
  induction n using Nat.strongRecOn with
  | _ n ih =>
    by_cases h : n = 0
    · subst h; rw [digs_0]; rfl
    · rw [digs_pos h, val, ih _ (by omega)]; unfold BB; omega
theorem digs_Nrm : ∀ n, Nrm (digs n) := fun n => by
  induction n using Nat.strongRecOn with
  | _ n ih =>
    by_cases h : n = 0
    · subst h; rw [digs_0]; intro h; simp at h
    · rw [digs_pos h]
      intro _
      by_cases h2 : n / 1000000000 = 0
      · rw [h2, digs_0]; show ((n % 1000000000 : Nat) : Int) ≠ 0; omega
      · have := ih (n / 1000000000) (by omega)
        have hl : 0 < (digs (n / 1000000000)).length := by rw [digs_pos h2]; simp
        rw [List.length_cons, Nat.add_sub_cancel]
        rw [show (digs (n / 1000000000)).length = ((digs (n / 1000000000)).length - 1) + 1 by omega, List.getD_cons_succ]
        exact this hl
theorem val_nonneg : ∀ {l : List Int}, Dg l → 0 ≤ val l
  | [], _ => Int.le_refl _
  | x :: l, h => by have := val_nonneg h.tail; have := h.head; rw [val]; unfold BB at *; omega
theorem val_inj : ∀ {a b : List Int}, Dg a → Dg b → Nrm a → Nrm b → val a = val b → a = b
  | [], [], _, _, _, _, _ => rfl
  | [], y :: b, _, h2, _, n2, hv => by
    exfalso
    have h0 := val_nonneg h2.tail
    have h1 := h2.head
    rw [val, val] at hv
    by_cases hb : b = []
    · subst hb; have := n2 (by simp); simp at this; rw [val] at hv; unfold BB at *; omega
    · have hv0 : val b = 0 := by unfold BB at *; omega
      have hbn : b = [] := by
        have := val_inj (a := []) .nil h2.tail (fun h => by simp at h) (fun hl => by
          have := n2 (by simp)
          rw [List.length_cons, Nat.add_sub_cancel, show b.length = (b.length - 1) + 1 by omega, List.getD_cons_succ] at this
          exact this) (by rw [hv0]; rfl)
        exact this.symm
      exact hb hbn
  | x :: a, [], h1, _, n1, _, hv => by
    exfalso
    have h0 := val_nonneg h1.tail
    have h2 := h1.head
    rw [val, val] at hv
    by_cases hb : a = []
    · subst hb; have := n1 (by simp); simp at this; rw [val] at hv; unfold BB at *; omega
    · have hv0 : val a = 0 := by unfold BB at *; omega
      have hbn : a = [] := val_inj (b := []) h1.tail .nil (fun hl => by
          have := n1 (by simp)
          rw [List.length_cons, Nat.add_sub_cancel, show a.length = (a.length - 1) + 1 by omega, List.getD_cons_succ] at this
          exact this) (fun h => by simp at h) (by rw [hv0]; rfl)
      exact hb hbn
  | x :: a, y :: b, h1, h2, n1, n2, hv => by
    have hx := h1.head
    have hy := h2.head
    rw [val, val] at hv
    have hx' : 0 ≤ x ∧ x < 1000000000 := hx
    have hy' : 0 ≤ y ∧ y < 1000000000 := hy
    have hv' : x + 1000000000 * val a = y + 1000000000 * val b := hv
    have hxy : x = y ∧ val a = val b := by omega
    have nt : ∀ {z : Int} {l : List Int}, Nrm (z :: l) → Nrm l := fun {z l} hn hl => by
      have := hn (by simp)
      rw [List.length_cons, Nat.add_sub_cancel, show l.length = (l.length - 1) + 1 by omega, List.getD_cons_succ] at this
      exact this
    rw [hxy.1, val_inj h1.tail h2.tail (nt n1) (nt n2) hxy.2]
theorem digs_val {l : List Int} (h : Dg l) (hn : Nrm l) : l = digs (val l).toNat := by
  refine val_inj h (digs_Dg _) hn (digs_Nrm _) ?_
  rw [val_digs, Int.toNat_of_nonneg (val_nonneg h)]
theorem val_app : ∀ {a b : List Int}, val (a ++ b) = val a + BB ^ a.length * val b
  | [], b => by simp [val]
  | x :: a, b => by
    rw [List.cons_append, val, val, val_app, List.length_cons, Int.pow_succ, Int.mul_add, ← Int.mul_assoc, Int.mul_comm BB (BB ^ a.length)]; omega
theorem BB_pos (n : Nat) : (0 : Int) < BB ^ n := Int.pow_pos (by decide)
theorem val_lt : ∀ {l : List Int}, Dg l → val l < BB ^ l.length
  | [], _ => by simp [val]
  | x :: l, h => by
    have h1 := val_lt h.tail
    have h2 : 0 ≤ x ∧ x < 1000000000 := h.head
    rw [val, List.length_cons, Int.pow_succ]
    have : BB ^ l.length * BB = BB * BB ^ l.length := Int.mul_comm _ _
    rw [this]
    generalize BB ^ l.length = p at *
    show x + 1000000000 * val l < 1000000000 * p
    omega
theorem val_rep : ∀ n, val (List.replicate n 0) = 0
  | 0 => rfl
  | n + 1 => by rw [List.replicate_succ, val, val_rep n]; rfl
theorem Dg.rep (n : Nat) : Dg (List.replicate n 0) := fun j hj => by
  rw [List.length_replicate] at hj
  simp only [List.getD_eq_getElem?_getD, List.getElem?_replicate, hj, if_true, Option.getD_some]; exact ⟨by decide, by decide⟩
theorem take_succ' {l : List Int} {k : Nat} (h : k < l.length) : l.take (k + 1) = l.take k ++ [l.getD k 0] := by
  rw [List.take_succ_eq_append_getElem h]; simp [List.getD_eq_getElem?_getD, h]
theorem val_take_succ {l : List Int} {k : Nat} (h : k < l.length) : val (l.take (k + 1)) = val (l.take k) + BB ^ k * l.getD k 0 := by
  rw [take_succ' h, val_app, List.length_take, Nat.min_eq_left (by omega)]
  simp [val]
theorem val_take_over {l : List Int} {k : Nat} (h : l.length ≤ k) : val (l.take k) = val l := by rw [List.take_of_length_le h]
theorem take_set_succ {l : List Int} {k : Nat} {x : Int} (h : k < l.length) : (l.set k x).take (k + 1) = l.take k ++ [x] := by
  rw [take_succ' (by simpa using h)]
  congr 1
  · rw [List.take_set_of_le (Nat.le_refl _)]
  · simp [List.getD_eq_getElem?_getD, h]
theorem getD_seti {l : List Int} {i j : Nat} {x : Int} : (l.set i x).getD j 0 = if i = j ∧ i < l.length then x else l.getD j 0 := by
  simp only [List.getD_eq_getElem?_getD, List.getElem?_set]
  by_cases h : i = j
  · subst h
    by_cases h2 : i < l.length
    · simp [h2]
    · simp [h2]
  · simp [h]
theorem Dg.set {l : List Int} (h : Dg l) {k : Nat} {x : Int} (hx : Dgt x) : Dg (l.set k x) := fun j hj => by
  rw [getD_seti]; split
  · exact hx
  · exact h j (by simpa using hj)
theorem val_set : ∀ {l : List Int} {k : Nat} {x : Int}, k < l.length → val (l.set k x) = val l + BB ^ k * (x - l.getD k 0)
  | [], k, x, h => by simp at h
  | y :: l, 0, x, _ => by simp [val]; omega
  | y :: l, k + 1, x, h => by
    have ih := val_set (l := l) (k := k) (x := x) (by simpa using h)
    rw [List.set_cons_succ, val, val, ih, List.getD_cons_succ, Int.pow_succ, Int.mul_add, Int.mul_comm (BB ^ k) BB, Int.mul_assoc]; omega
theorem digs_len0 {n : Nat} : (digs n).length = 0 ↔ n = 0 := by
  constructor
  · intro h
    by_cases h2 : n = 0
    · exact h2
    · rw [digs_pos h2] at h; simp at h
  · rintro rfl; rw [digs_0]; rfl
theorem digs_len_le : ∀ {k n : Nat}, n < 1000000000 ^ k → (digs n).length ≤ k
  | 0, n, h => by simp at h; subst h; rw [digs_0]; simp
  | k + 1, n, h => by
    by_cases h2 : n = 0
    · subst h2; rw [digs_0]; simp
    · rw [digs_pos h2, List.length_cons]
      have := digs_len_le (k := k) (n := n / 1000000000) (by rw [Nat.pow_succ] at h; omega)
      omega
theorem digs_lt {n : Nat} : n < 1000000000 ^ (digs n).length := by
  have h := val_lt (digs_Dg n)
  rw [val_digs] at h
  have : ((1000000000 ^ (digs n).length : Nat) : Int) = BB ^ (digs n).length := by simp
  omega
theorem digs_1 {n : Nat} (h : n ≠ 0) (h2 : n < 1000000000) : digs n = [(n : Int)] := by
  rw [digs_pos h, show n / 1000000000 = 0 by omega, digs_0, show n % 1000000000 = n by omega]
theorem digs_2 {n : Nat} (h : 1000000000 ≤ n) (h2 : n < 1000000000 * 1000000000) : digs n = [((n % 1000000000 : Nat) : Int), ((n / 1000000000 : Nat) : Int)] := by
  rw [digs_pos (by omega), digs_1 (by omega) (by omega)]
end Go.Proofs.YthggloiigkbfeaaGreat
namespace Go.Proofs.YthggloiigkbfeaaGreat
open W Go.RowKit
abbrev ptr (g : Nat) : Value := .pointer (some ⟨g, 0, none⟩)
def isZ (v : Value) (z : Int) : Fct where
  p h := ∃ b d, v = .agg #[.bool b, d] ∧ b = decide (z < 0) ∧ (sI d (digs z.natAbs)).p h
  mono h h' hl := by
    rintro ⟨b, d, h1, h2, h3⟩
    exact ⟨b, d, h1, h2, (sI _ _).mono _ _ hl h3⟩
def qz (q : Rat) : Int := if q.den = 1 then 0 else q.den
def isQ (v : Value) (q : Rat) : Fct where
  p h := ∃ b d1 d2, v = .agg #[.bool b, d1, .bool false, d2] ∧ b = decide (q.num < 0) ∧ (sI d1 (digs q.num.natAbs)).p h ∧ (sI d2 (digs (qz q).natAbs)).p h
  mono h h' hl := by
    rintro ⟨b, d1, d2, h1, h2, h3, h4⟩
    exact ⟨b, d1, d2, h1, h2, (sI _ _).mono _ _ hl h3, (sI _ _).mono _ _ hl h4⟩
theorem qz_nonneg (q : Rat) : 0 ≤ qz q := by unfold qz; split <;> omega
section
variable {F : List Fct} {bx : List Ow} {v d a b c : Value} {z : Int} {q : Rat}
theorem hasZ_d (h : Has F (isZ (.agg #[a, d]) z)) : Has F (sI d (digs z.natAbs)) := fun ph hf => by
  obtain ⟨b, d', h1, _, h3⟩ := h ph hf
  simp at h1; obtain ⟨rfl, rfl⟩ := h1; exact h3
theorem hasQ_d1 (h : Has F (isQ (.agg #[a, d, b, c]) q)) : Has F (sI d (digs q.num.natAbs)) := fun ph hf => by
  obtain ⟨_, d', _, h1, _, h3, _⟩ := h ph hf
  simp at h1; obtain ⟨rfl, rfl, rfl, rfl⟩ := h1; exact h3
theorem hasQ_d2 (h : Has F (isQ (.agg #[a, b, c, d]) q)) : Has F (sI d (digs (qz q).natAbs)) := fun ph hf => by
  obtain ⟨_, d', _, h1, _, _, h3⟩ := h ph hf
  simp at h1; obtain ⟨rfl, rfl, rfl, rfl⟩ := h1; exact h3
theorem hasQ_P (h : Has F (isQ (.agg #[a, d, b, c]) q)) : Has F (isZ (.agg #[a, d]) q.num) := fun ph hf => by
  obtain ⟨x, d', _, h1, h2, h3, _⟩ := h ph hf
  simp at h1; obtain ⟨rfl, rfl, rfl, rfl⟩ := h1; exact ⟨x, d, rfl, h2, h3⟩
theorem hasQ_Q (h : Has F (isQ (.agg #[a, b, c, d]) q)) : Has F (isZ (.agg #[c, d]) (qz q)) := fun ph hf => by
  obtain ⟨x, d', _, h1, h2, _, h3⟩ := h ph hf
  simp at h1; obtain ⟨rfl, rfl, rfl, rfl⟩ := h1
  exact ⟨false, d, rfl, by have := qz_nonneg q; simp; omega, h3⟩
theorem hasZ_of {nb : Bool} (hb : nb = decide (z < 0)) (h : Has F (sI d (digs z.natAbs))) : Has F (isZ (.agg #[.bool nb, d]) z) := fun ph hf => ⟨nb, d, rfl, hb, h ph hf⟩
theorem hasQ_of {nb : Bool} {d1 d2 : Value} (hb : nb = decide (q.num < 0)) (h : Has F (sI d1 (digs q.num.natAbs))) (h2 : Has F (sI d2 (digs (qz q).natAbs))) : Has F (isQ (.agg #[.bool nb, d1, .bool false, d2]) q) := fun ph hf => ⟨nb, d1, d2, rfl, hb, h ph hf, h2 ph hf⟩
theorem KnS.zd (h : Has F (isZ (.agg #[a, d]) z)) : KnS bx F d (digs z.natAbs).length := KnS.f (hasZ_d h)
theorem KnS.q1 (h : Has F (isQ (.agg #[a, d, b, c]) q)) : KnS bx F d (digs q.num.natAbs).length := KnS.f (hasQ_d1 h)
theorem KnS.q2 (h : Has F (isQ (.agg #[a, b, c, d]) q)) : KnS bx F d (digs (qz q).natAbs).length := KnS.f (hasQ_d2 h)
theorem nil0 : Has F (sI (.slice none 0 0) []) := fun _ _ => ⟨none, 0, rfl, Nat.le_refl _, by simp [maxLen], .inl ⟨rfl, rfl, rfl⟩⟩
theorem hasZ_0 : Has F (isZ (.agg #[.bool false, .slice none 0 0]) 0) := hasZ_of rfl (by simpa [digs_0] using nil0)
theorem hasQ_0 : Has F (isQ (.agg #[.bool false, .slice none 0 0, .bool false, .slice none 0 0]) 0) := hasQ_of rfl (by simpa [digs_0] using nil0) (by simpa [digs_0, qz] using nil0)
section
variable {P : Program} {n : Nat} {L rest : List Oper} {e : Env} {Q : Env → List Ow → List Fct → Prop} {c' : Code} {Q2 : Post} {hs : List Nat} {r : Plan} {b0 : List Ow} {F0 : List Fct}
theorem opZ {fr : PH} {w : World} (ho : OK fr bx F w) (h : Has F (isZ v z)) : ∃ nb d, v = .agg #[.bool nb, d] ∧ nb = decide (z < 0) := by
  obtain ⟨b, d, h1, h2, _⟩ := ho.has h
  exact ⟨b, d, h1, h2⟩
theorem opQ {fr : PH} {w : World} (ho : OK fr bx F w) (h : Has F (isQ v q)) : ∃ nb d1 d2, v = .agg #[.bool nb, d1, .bool false, d2] ∧ nb = decide (q.num < 0) := by
  obtain ⟨b, d1, d2, h1, h2, _⟩ := ho.has h
  exact ⟨b, d1, d2, h1, h2⟩
theorem WC.openZ (hz : Has F (isZ v z)) (h : ∀ nb d, v = .agg #[.bool nb, d] → nb = decide (z < 0) → WC P n c' e bx F Q2) : WC P n c' e bx F Q2 := fun fr w0 a w hk hr ho => by
  obtain ⟨nb, d, h1, h2⟩ := opZ ho hz
  exact h nb d h1 h2 fr w0 a w hk hr ho
theorem WC.openQ (hz : Has F (isQ v q)) (h : ∀ nb d1 d2, v = .agg #[.bool nb, d1, .bool false, d2] → nb = decide (q.num < 0) → WC P n c' e bx F Q2) : WC P n c' e bx F Q2 := fun fr w0 a w hk hr ho => by
  obtain ⟨nb, d1, d2, h1, h2⟩ := opQ ho hz
  exact h nb d1 d2 h1 h2 fr w0 a w hk hr ho
theorem WL.openZ (hz : Has F (isZ v z)) (h : ∀ nb d, v = .agg #[.bool nb, d] → nb = decide (z < 0) → WL P n L rest e bx F Q) : WL P n L rest e bx F Q := fun fr w0 a w Q' hQ hk hr ho => by
  obtain ⟨nb, d, h1, h2⟩ := opZ ho hz
  exact h nb d h1 h2 fr w0 a w Q' hQ hk hr ho
theorem WL.openQ (hz : Has F (isQ v q)) (h : ∀ nb d1 d2, v = .agg #[.bool nb, d1, .bool false, d2] → nb = decide (q.num < 0) → WL P n L rest e bx F Q) : WL P n L rest e bx F Q := fun fr w0 a w Q' hQ hk hr ho => by
  obtain ⟨nb, d1, d2, h1, h2⟩ := opQ ho hz
  exact h nb d1 d2 h1 h2 fr w0 a w Q' hQ hk hr ho
theorem WD.fact (f : Fct) (hf : Has F f) (h : WD P n L hs b0 F0 r e bx (f :: F) Q) : WD P n L hs b0 F0 r e bx F Q := WD.facts (fun _ _ ho => ho.add (ho.has hf)) h
theorem WL.fact' (f : Fct) (hf : Has F f) (h : WL P n L rest e bx (f :: F) Q) : WL P n L rest e bx F Q := fun fr w0 a w Q' hQ hk hr ho => h fr w0 a w Q' hQ hk hr (ho.add (ho.has hf))
end
end
def IsZ (z : Int) : RPost := fun v b G => ∃ nb d, v = .agg #[.bool nb, d] ∧ nb = decide (z < 0) ∧ b = [] ∧ G = [isZ (.agg #[.bool nb, d]) z]
def IsQ (q : Rat) : RPost := fun v b G => ∃ nb d1 d2, v = .agg #[.bool nb, d1, .bool false, d2] ∧ nb = decide (q.num < 0) ∧ b = [] ∧ G = [isQ (.agg #[.bool nb, d1, .bool false, d2]) q]
def IsDg (z : Int) (m : Nat) : RPost := fun v b G => ∃ l, b = [] ∧ G = [sI v l] ∧ Dg l ∧ val l = z ∧ l.length ≤ m
theorem mixed : Tryz.prog.follows .mixedOrders = true := by kernel_rfl
theorem bool_t : BoolT Tryz.prog 4 := by unfold BoolT; kernel_rfl
section
variable {e : Env} {bx : List Ow} {F : List Fct} {ty : TypeId} {x y : Operand} {a b c d : Value} {n m : Nat} {nb : Bool} {K : RPost}
theorem YO.buildZ0 : YO Tryz.prog (.build 35 #[]) ty e bx F (.agg #[.bool false, .slice none 0 0]) := YO.build (parts := []) .nil fun w => run_build w 35 _ _ (by kernel_rfl)
theorem YO.buildZ (h1 : ev e x = some (.bool nb)) (h2 : ev e y = some d) (kd : KnS bx F d n) : YO Tryz.prog (.build 35 #[(0, x), (1, y)]) ty e bx F (.agg #[.bool nb, d]) := fun k fr ac w o hop hty hk ho => by
  obtain ⟨p1, q1, rfl, _⟩ := (kd fr w ho).is
  exact (YO.build (P := Tryz.prog) (bx := bx) (F := F) (ty := ty) (parts := [(0, x), (1, y)]) (.cons h1 (.cons h2 .nil)) fun w => run_build w 35 _ _ (by kernel_rfl)) k fr ac w o hop hty hk ho
theorem YO.buildQ0 : YO Tryz.prog (.build 37 #[]) ty e bx F (.agg #[.bool false, .slice none 0 0, .bool false, .slice none 0 0]) := YO.build (parts := []) .nil fun w => run_build w 37 _ _ (by kernel_rfl)
theorem YO.buildQ1 (h1 : ev e x = some (.agg #[a, b])) : YO Tryz.prog (.build 37 #[(0, x)]) ty e bx F (.agg #[a, b, .bool false, .slice none 0 0]) := YO.build (parts := [(0, x)]) (.cons h1 .nil) fun w => run_build w 37 _ _ (by kernel_rfl)
theorem YO.buildQ2 (h1 : ev e x = some (.agg #[a, b])) (h2 : ev e y = some (.agg #[c, d])) : YO Tryz.prog (.build 37 #[(0, x), (1, y)]) ty e bx F (.agg #[a, b, c, d]) := YO.build (parts := [(0, x), (1, y)]) (.cons h1 (.cons h2 .nil)) fun w => run_build w 37 _ _ (by kernel_rfl)
inductive NatI : Int → Nat → Prop where
  | cast (n : Nat) : NatI n n
  | one : NatI 1 1
  | add {i j : Int} {m n : Nat} : NatI i m → NatI j n → NatI (i + j) (m + n)
theorem NatI.eq {i : Int} {n : Nat} (h : NatI i n) : i = n := by
  induction h with
  | cast n => rfl
  | one => rfl
  | add _ _ h1 h2 => rw [h1, h2]; simp
theorem made1 (z : Value) (hz : z.cells = #[z]) (n : Nat) : (madeCells z.cells (n * 1)).toList = List.replicate n z := by
  rw [hz, Nat.mul_one]
  apply List.ext_getElem
  · simp [madeCells]
  · intro i h1 h2
    simp [madeCells, Nat.mod_one]
theorem LO.makeI {i : Int} (hx : ev e x = some (.int .i64 i)) (hy : ev e y = some (.int .i64 i)) (hi : NatI i n) (hb : n ≤ 10000000000000) (h : ∀ v, K v (Ow.slice v 3 1 (ints (List.replicate n 0)) :: bx) F) : LO Tryz.prog (.makeSlice 22 x y) ty e bx F K := by
  obtain rfl := hi.eq
  exact LO.make T.e22 hx hy (by omega) (by omega) (by rw [made1 _ rfl n, ints, List.map_replicate]) h
end
section
variable {P : Program} {n : Nat} {L rest : List Oper} {c : Code} {e : Env} {bx bx' : List Ow} {F : List Fct} {Q : Post} {Q2 : Env → List Ow → List Fct → Prop} {v : Value} {el : Nat} {l : List Int}
theorem WC.freezeI (hs : Sel bx (.slice v el 1 (ints l)) (.slice (.slice none 0 0) el 1 []) bx') (h : WC P n c e bx' (sI v l :: F) Q) : WC P n c e bx F Q := fun fr w0 a w hk hr ho => h fr w0 a w hk hr (ho.freeze hs (by simp) (by decide) _ fun j hj => by
    have hj' : j < l.length := by omega
    simp [hj'])
theorem WL.freezeI (hs : Sel bx (.slice v el 1 (ints l)) (.slice (.slice none 0 0) el 1 []) bx') (h : WL P n L rest e bx' (sI v l :: F) Q2) : WL P n L rest e bx F Q2 := fun fr w0 a w Q' hQ hk hr ho => h fr w0 a w Q' hQ hk hr (ho.freeze hs (by simp) (by decide) _ fun j hj => by
    have hj' : j < l.length := by omega
    simp [hj'])
end
end Go.Proofs.YthggloiigkbfeaaGreat
namespace Go.Proofs.YthggloiigkbfeaaGreat
open W Go.RowKit
attribute [local irreducible] WC WL WD YO LO LoopEnd W.Fin Scalar SliceT FieldAt Row ArrT AllocT KnS Has W.One SrcE IntT
structure Bx (p : Prop) : Prop where
  h : p
theorem allAnd {α : Type} {p q : α → Prop} (h1 : ∀ a, p a) (h2 : ∀ a, q a) : ∀ a, p a ∧ q a := fun a => ⟨h1 a, h2 a⟩
theorem meA {G : Prop} (h : G := by first | (((repeat (first | exact List.Mem.head _ | apply List.Mem.tail))); done) | fail) : G := h
theorem hmA {G : Prop} (h : G := by first | (((focus (apply Has.mem; (repeat (first | exact List.Mem.head _ | apply List.Mem.tail)); done))); done) | fail) : G := h
theorem sfA {G : Prop} (h : G := by first | ((repeat (first | exact HasAll.nil | (apply HasAll.cons; (focus (apply Has.mem; (repeat (first | exact List.Mem.head _ | apply List.Mem.tail)); done))))); done) | fail) : G := h
theorem suA {G : Prop} (h : G := by first | ((repeat (first | exact Sub.nil _ | refine Sub.cons rfl ?_)); done) | fail) : G := h
theorem slA {G : Prop} (h : G := by first | ((repeat (first | exact List.Sublist.refl _ | exact List.nil_sublist _ | apply List.Sublist.cons_cons | apply List.Sublist.cons)); done) | fail) : G := h
theorem evA {G : Prop} (h : G := by first | ((repeat (first | exact Evs.nil | (apply Evs.cons; exact rfl))); done) | fail) : G := h
theorem seA {G : Prop} (h : G := by first | (((repeat (first | exact Sel.head | apply Sel.tail))); done) | fail) : G := h
theorem t0A {G : Prop} (h : G := by first | (((first | exact T.al3 | exact T.al4 | exact T.al22 | exact T.al26 | exact T.al32 | exact T.al35 | exact T.al37 | exact T.al38 | exact T.al59 | exact T.al103 | exact T.al109 | exact T.al111 | exact T.al114 | exact T.al161 | exact T.al164)); done) | fail) : G := h
theorem t1A {G : Prop} (h : G := by first | (((first | exact T.f35_0 | exact T.f35_1 | exact T.f37_0 | exact T.f37_1 | exact T.f59_0 | exact T.f59_1 | exact T.f59_2 | exact T.f103_0 | exact T.f103_1 | exact T.f114_0 | exact T.f114_1)); done) | fail) : G := h
theorem t2A {G : Prop} (h : G := by first | (((first | exact T.sc3 | exact T.sc4 | exact T.sc22 | exact T.sc26 | exact T.sc32 | exact T.sc38 | exact T.sc109 | exact T.sc111 | exact T.sc161 | exact T.sc164)); done) | fail) : G := h
theorem t3A {G : Prop} (h : G := by first | (((first | exact T.z3 | exact T.z4 | exact T.z22 | exact T.z26 | exact T.z32 | exact T.z38 | exact T.z109 | exact T.z111 | exact T.z161 | exact T.z164)); done) | fail) : G := h
theorem t4A {G : Prop} (h : G := by first | (((first | exact T.e22 | exact T.e32 | exact T.e38 | exact T.e109 | exact T.e111 | exact T.e161)); done) | fail) : G := h
theorem t5A {G : Prop} (h : G := by first | (((first | exact T.s22 | exact T.s32 | exact T.s38 | exact T.s109 | exact T.s111 | exact T.s161)); done) | fail) : G := h
theorem t6A {G : Prop} (h : G := by first | (((first | exact T.r35 | exact T.r37 | exact T.r59 | exact T.r103 | exact T.r114)); done) | fail) : G := h
theorem t7A {G : Prop} (h : G := by first | (((first | exact T.u3 | exact T.u26 | exact T.u164)); done) | fail) : G := h
theorem knA {G : Prop} (h : G := by first | (((first | (focus (apply KnS.f; exact hmA; done)) | (focus (apply KnS.oI; exact meA; done)) | (focus (apply KnS.o1; exact meA; done)) | (focus (apply KnS.zd; exact hmA; done)) | (focus (apply KnS.q1; exact hmA; done)) | (focus (apply KnS.q2; exact hmA; done)))); done) | fail) : G := h
theorem hsA {G : Prop} (h : G := by first | (((first | exact hmA | (focus (apply hasQ_P; exact hmA; done)) | (focus (apply hasQ_Q; exact hmA; done)) | exact hasZ_0 | exact hasQ_0 | (focus (apply hasZ_d; exact hmA; done)) | (focus (apply hasQ_d1; exact hmA; done)) | (focus (apply hasQ_d2; exact hmA; done)))); done) | fail) : G := h
theorem haA {G : Prop} (h : G := by first | ((repeat (first | exact HasAll.nil | (apply HasAll.cons; exact hsA))); done) | fail) : G := h
theorem hbA {G : Prop} (h : G := by first | ((repeat (first | exact HasAllB.nil | (apply HasAllB.cons; (first | (focus (apply HasB.oI; exact meA; done)) | (focus (apply HasB.c; exact meA; done)) | (focus (apply HasB.f; exact hsA; done)))))); done) | fail) : G := h
theorem ltA {G : Prop} (h : G := by first | (((first | (focus (apply Or.inr; constructor; (repeat (first | exact List.Sublist.refl _ | exact List.nil_sublist _ | apply List.Sublist.cons_cons | apply List.Sublist.cons)); (first | exact fun _ h => h | (intro f hf; (repeat (first | exact hf | apply List.Mem.tail)))); done)) | (apply Or.inl; kernel_rfl))); done) | fail) : G := h
theorem onA {G : Prop} (h : G := by first | (((first | exact ints_one _ | (intro u hu; simp only [List.mem_cons, List.not_mem_nil, or_false] at hu; first | (subst hu; rfl) | (rcases hu with rfl | rfl | rfl <;> rfl)))); done) | fail) : G := h
theorem leA {G : Prop} (h : G := by first | (((simp only [List.length_map, List.length_append, List.length_cons, List.length_nil, List.length_replicate, List.length_take]; omega)); done) | fail) : G := h
theorem y_indexAddr {G : Prop} (h : G := by first | (((first | (first | (apply YO.ix1; exact t5A; exact rfl; exact rfl; exact knA; omega) | (apply YO.ix; exact t5A; exact rfl; exact rfl; exact knA; omega) | (apply YO.ix1'; exact t5A; exact rfl; exact rfl; exact knA; omega; omega) | (apply YO.ix'; exact t5A; exact rfl; exact rfl; exact knA; omega; omega)) | (apply YO.ix1; exact t5A; exact rfl; exact rfl; exact knA; (first | omega | (simp only [List.length_set]; omega))) | (apply YO.ix; exact t5A; exact rfl; exact rfl; exact knA; (first | omega | (simp only [List.length_set]; omega))) | (apply YO.ix1'; exact t5A; exact rfl; exact rfl; exact knA; omega; (first | omega | (simp only [List.length_set]; omega))))); done) | fail) : G := h
theorem y_load {G : Prop} (h : G := by first | (((first | (apply YO.ldW; exact t6A; exact rfl; exact meA; exact rfl) | (apply YO.ld42; exact t6A; exact rfl; exact meA) | (apply YO.ld40; exact t6A; exact rfl; exact meA) | (apply YO.ld62; exact t6A; exact rfl; exact meA) | (apply YO.ld51; exact t6A; exact rfl; exact meA) | (apply YO.ldWI0; exact t6A; exact rfl; exact meA; (first | omega | (simp only [List.length_set, List.length_replicate]; omega))) | (apply YO.ldWF0; exact t6A; exact rfl; exact hmA; (first | omega | (simp only [List.length_set, List.length_replicate]; omega))) | (apply YO.ldCI; exact t2A; exact rfl; exact meA; (first | omega | (simp only [List.length_set, List.length_replicate]; omega))) | (apply YO.ldFI; exact t2A; exact rfl; exact hmA; (first | omega | (simp only [List.length_set, List.length_replicate]; omega))) | (apply YO.ldF; exact t2A; exact rfl; exact hmA; exact rfl) | (apply YO.ldS; exact t2A; exact rfl; exact hsA; omega) | (apply YO.ldB; exact t2A; exact rfl; exact meA; exact rfl) | (apply YO.ldOI; exact t2A; exact rfl; exact meA; (first | omega | (simp only [List.length_set]; omega))))); done) | fail) : G := h
theorem y_slice {G : Prop} (h : G := by first | (((first | (first | (apply YO.slice; exact t5A; exact rfl; exact knA; exact Or.inl ⟨rfl, rfl⟩; exact Or.inr ⟨_, rfl, rfl⟩; omega; omega) | (apply YO.slice; exact t5A; exact rfl; exact knA; exact Or.inr ⟨_, rfl, rfl⟩; exact Or.inl ⟨rfl, rfl⟩; omega; omega)) | (apply YO.slice3; exact t5A; exact rfl; exact knA; exact rfl; exact rfl; omega; omega))); done) | fail) : G := h
theorem y_eql {G : Prop} (h : G := by first | (((first | (first | (first | (apply YO.eql_t; exact rfl; exact rfl; omega) | (apply YO.eql_f; exact rfl; exact rfl; omega)) | (apply YO.eqNil_t; exact t5A; exact rfl; exact knA; assumption) | (apply YO.eqNil_f; exact t5A; exact rfl; exact knA; assumption)) | (apply YO.beq_t; exact bool_t; exact rfl; exact rfl; (first | rfl | assumption | decide)) | (apply YO.beq_f; exact bool_t; exact rfl; exact rfl; (first | rfl | assumption | decide)))); done) | fail) : G := h
theorem y_build {G : Prop} (h : G := by first | (((first | (apply YO.buildZ; exact rfl; exact rfl; exact knA) | exact YO.buildZ0 | exact YO.buildQ0 | (apply YO.buildQ1; exact rfl) | (apply YO.buildQ2; exact rfl; exact rfl))); done) | fail) : G := h
theorem y_len {G : Prop} (h : G := by first | (((apply YO.len; exact t5A; exact rfl; exact knA)); done) | fail) : G := h
theorem y_fieldAddr {G : Prop} (h : G := by first | (((first | (apply YO.fieldE; exact t1A; exact rfl) | (apply YO.fieldN; exact t1A; exact rfl; ((try simp only [Nat.zero_add, Nat.mul_one, Nat.reduceAdd, Nat.reduceMul]); exact rfl)))); done) | fail) : G := h
theorem y_conv {G : Prop} (h : G := by first | (((first | (first | (apply YO.convU; exact t7A; exact t7A; exact rfl; omega; omega) | (apply YO.convI; exact t7A; exact t7A; exact rfl; omega; omega)) | (apply YO.convN; exact t7A; exact t7A; exact rfl; omega; omega))); done) | fail) : G := h
theorem y_neq {G : Prop} (h : G := by first | (((first | (first | (apply YO.neq_t; exact rfl; exact rfl; omega) | (apply YO.neq_f; exact rfl; exact rfl; omega)) | (apply YO.bne_t; exact bool_t; exact rfl; exact rfl; (first | rfl | assumption | decide)) | (apply YO.bne_f; exact bool_t; exact rfl; exact rfl; (first | rfl | assumption | decide)))); done) | fail) : G := h
theorem y_makeFunc {G : Prop} (h : G := by first | (((apply YO.makeFunc; (repeat (first | exact Evs.nil | (apply Evs.cons; exact rfl))); (repeat (first | exact Evs.nil | (apply Evs.cons; exact rfl))))); done) | fail) : G := h
theorem y_quo {G : Prop} (h : G := by first | (((first | (apply YO.quo; exact rfl; exact rfl; omega; omega; omega) | (apply YO.uquo; exact rfl; exact rfl; omega; omega; omega))); done) | fail) : G := h
theorem y_and {G : Prop} (h : G := by first | (((first | (apply YO.and1; exact rfl; exact rfl; omega; omega) | (apply YO.and; exact rfl; exact rfl; omega; omega; omega; omega))); done) | fail) : G := h
theorem y_mul {G : Prop} (h : G := by first | (((first | (apply YO.mul; exact rfl; exact rfl; omega; omega) | (apply YO.umul; exact rfl; exact rfl; omega; omega))); done) | fail) : G := h
theorem y_rem {G : Prop} (h : G := by first | (((first | (apply YO.rem; exact rfl; exact rfl; omega; omega) | (apply YO.urem; exact rfl; exact rfl; omega; omega))); done) | fail) : G := h
theorem y_add {G : Prop} (h : G := by first | (((first | (apply YO.inc; exact rfl; exact rfl; omega) | (apply YO.add; exact rfl; exact rfl; omega; omega))); done) | fail) : G := h
theorem y_lss {G : Prop} (h : G := by first | (((first | (apply YO.lss_t; exact rfl; exact rfl; omega) | (apply YO.lss_f; exact rfl; exact rfl; omega))); done) | fail) : G := h
theorem y_gtr {G : Prop} (h : G := by first | (((first | (apply YO.gtr_t; exact rfl; exact rfl; omega) | (apply YO.gtr_f; exact rfl; exact rfl; omega))); done) | fail) : G := h
theorem y_geq {G : Prop} (h : G := by first | (((first | (apply YO.geq_t; exact rfl; exact rfl; omega) | (apply YO.geq_f; exact rfl; exact rfl; omega))); done) | fail) : G := h
theorem y_leq {G : Prop} (h : G := by first | (((first | (apply YO.leq_t; exact rfl; exact rfl; omega) | (apply YO.leq_f; exact rfl; exact rfl; omega))); done) | fail) : G := h
theorem y_shl {G : Prop} (h : G := by first | (((apply YO.shl'; exact rfl; exact rfl; omega; omega; (first | omega | decide); (first | omega | decide))); done) | fail) : G := h
theorem y_uneg {G : Prop} (h : G := by first | (((first | (apply YO.neg; exact rfl; omega; omega) | (apply YO.uneg; exact rfl; omega; omega))); done) | fail) : G := h
theorem y_pick {G : Prop} (h : G := by first | (((first | (apply YO.pick_t; exact rfl; exact rfl) | (apply YO.pick_f; exact rfl; exact rfl))); done) | fail) : G := h
theorem y_unot {G : Prop} (h : G := by first | (((first | (apply YO.not_t; exact rfl) | (apply YO.not_f; exact rfl))); done) | fail) : G := h
theorem y_or {G : Prop} (h : G := by first | (((apply YO.or; exact rfl; exact rfl; omega; omega; omega; omega)); done) | fail) : G := h
theorem go {G G' : Prop} (h : G') (s : Bx G' → G := by
  intro h
  (first
    | apply WL.nil
    | (apply WL.skg; exact rfl; exact rfl)
    | (apply WL.skg0; exact rfl)
    | (apply WL.k_move; (apply YO.move; exact rfl); exact rfl; exact rfl)
    | (apply WL.k_assign; (apply YO.assign; exact rfl); exact rfl; exact rfl)
    | (apply WL.k_lss; exact y_lss; exact rfl; exact rfl)
    | (apply WL.k_add; exact y_add; exact rfl; exact rfl)
    | (apply WL.k_len; exact y_len; exact rfl; exact rfl)
    | (apply WL.k_indexAddr; exact y_indexAddr; exact rfl; exact rfl)
    | (apply WL.k_load; exact y_load; exact rfl; exact rfl)
    | (apply WL.k_pick; exact y_pick; exact rfl; exact rfl)
    | (apply WL.k_fieldAddr; exact y_fieldAddr; exact rfl; exact rfl)
    | (apply WL.k_eql; exact y_eql; exact rfl; exact rfl)
    | (apply WL.k_neq; exact y_neq; exact rfl; exact rfl)
    | (apply WL.k_nil; (apply YO.nil; exact rfl); exact rfl; exact rfl)
    | (apply WL.k_extract; (apply YO.extract; exact rfl; exact rfl); exact rfl; exact rfl)
    | (apply WL.k_gtr; exact y_gtr; exact rfl; exact rfl)
    | (apply WL.k_geq; exact y_geq; exact rfl; exact rfl)
    | (apply WL.k_leq; exact y_leq; exact rfl; exact rfl)
    | (apply WL.k_sub; (apply YO.sub; exact rfl; exact rfl; omega; omega); exact rfl; exact rfl)
    | (apply WL.k_mul; exact y_mul; exact rfl; exact rfl)
    | (apply WL.k_rem; exact y_rem; exact rfl; exact rfl)
    | (apply WL.k_quo; exact y_quo; exact rfl; exact rfl)
    | (apply WL.k_unot; exact y_unot; exact rfl; exact rfl)
    | (apply WL.k_uneg; exact y_uneg; exact rfl; exact rfl)
    | (apply WL.k_max; (apply YO.max; exact rfl; exact rfl); exact rfl; exact rfl)
    | (apply WL.k_min; (apply YO.min; exact rfl; exact rfl); exact rfl; exact rfl)
    | (apply WL.k_makeFunc; exact y_makeFunc; exact rfl; exact rfl)
    | (apply WL.k_conv; exact y_conv; exact rfl; exact rfl)
    | (apply WL.k_shl; exact y_shl; exact rfl; exact rfl)
    | (apply WL.k_shr; (apply YO.shr'; exact rfl; exact rfl; omega; omega); exact rfl; exact rfl)
    | (apply WL.k_and; exact y_and; exact rfl; exact rfl)
    | (apply WL.k_or; exact y_or; exact rfl; exact rfl)
    | (apply WL.k_andNot; (apply YO.anot; exact rfl; exact rfl); exact rfl; exact rfl)
    | (apply WL.k_slice; exact y_slice; exact rfl; exact rfl)
    | (apply WL.k_build; exact y_build; exact rfl; exact rfl)
    | apply WC.seq
    | apply WC.region
    | apply WC.block
    | (apply WC.cond_t; exact rfl)
    | (apply WC.cond_f; exact rfl)
    | apply WC.exit
    | apply WC.skip
    | apply WC.label
    | (apply WL.kl_store; rotate_left; exact rfl; (first | (apply LO.storeOI; exact rfl; exact rfl; exact t3A; exact seA; (first | omega | (simp only [List.length_set]; omega))) | (apply LO.storeI; exact rfl; exact rfl; exact t3A; exact seA; (first | omega | (simp only [List.length_set, List.length_replicate]; omega))) | (apply LO.storeWI; exact rfl; exact rfl; exact seA; exact t6A; (first | omega | (simp only [List.length_set, List.length_replicate]; omega)); (first | (simp only [List.length_map, List.length_set, List.length_replicate, ints]; omega) | rfl)) | (apply LO.store1; exact rfl; exact rfl; exact t3A; (first | exact One.lit rfl rfl | (apply One.sl; exact knA)); exact seA; (first | (simp only [List.length_cons, List.length_nil]; omega) | (simp; omega)); (first | (simp only [List.set_cons_succ, List.set_cons_zero]; exact rfl) | exact rfl)) | (apply LO.storeO1; exact rfl; exact rfl; exact t3A; (first | exact One.lit rfl rfl | (apply One.sl; exact knA)); exact seA; (first | (simp only [List.length_cons, List.length_nil]; omega) | (simp; omega)); (first | (simp only [List.set_cons_succ, List.set_cons_zero]; exact rfl) | exact rfl)) | (apply LO.storeL; exact rfl; exact rfl; exact seA; exact t6A; exact rfl; exact rfl; (repeat (first | exact OneL.nil | (apply OneL.cons; (first | exact One.lit rfl rfl | (apply One.sl; exact knA)))))))))
  repeat (first
    | apply WL.nil
    | (apply WL.skg; exact rfl; exact rfl)
    | (apply WL.skg0; exact rfl)
    | (apply WL.k_move; (apply YO.move; exact rfl); exact rfl; exact rfl)
    | (apply WL.k_assign; (apply YO.assign; exact rfl); exact rfl; exact rfl)
    | (apply WL.k_lss; exact y_lss; exact rfl; exact rfl)
    | (apply WL.k_add; exact y_add; exact rfl; exact rfl)
    | (apply WL.k_len; exact y_len; exact rfl; exact rfl)
    | (apply WL.k_indexAddr; exact y_indexAddr; exact rfl; exact rfl)
    | (apply WL.k_load; exact y_load; exact rfl; exact rfl)
    | (apply WL.k_pick; exact y_pick; exact rfl; exact rfl)
    | (apply WL.k_fieldAddr; exact y_fieldAddr; exact rfl; exact rfl)
    | (apply WL.k_eql; exact y_eql; exact rfl; exact rfl)
    | (apply WL.k_neq; exact y_neq; exact rfl; exact rfl)
    | (apply WL.k_nil; (apply YO.nil; exact rfl); exact rfl; exact rfl)
    | (apply WL.k_extract; (apply YO.extract; exact rfl; exact rfl); exact rfl; exact rfl)
    | (apply WL.k_gtr; exact y_gtr; exact rfl; exact rfl)
    | (apply WL.k_geq; exact y_geq; exact rfl; exact rfl)
    | (apply WL.k_leq; exact y_leq; exact rfl; exact rfl)
    | (apply WL.k_sub; (apply YO.sub; exact rfl; exact rfl; omega; omega); exact rfl; exact rfl)
    | (apply WL.k_mul; exact y_mul; exact rfl; exact rfl)
    | (apply WL.k_rem; exact y_rem; exact rfl; exact rfl)
    | (apply WL.k_quo; exact y_quo; exact rfl; exact rfl)
    | (apply WL.k_unot; exact y_unot; exact rfl; exact rfl)
    | (apply WL.k_uneg; exact y_uneg; exact rfl; exact rfl)
    | (apply WL.k_max; (apply YO.max; exact rfl; exact rfl); exact rfl; exact rfl)
    | (apply WL.k_min; (apply YO.min; exact rfl; exact rfl); exact rfl; exact rfl)
    | (apply WL.k_makeFunc; exact y_makeFunc; exact rfl; exact rfl)
    | (apply WL.k_conv; exact y_conv; exact rfl; exact rfl)
    | (apply WL.k_shl; exact y_shl; exact rfl; exact rfl)
    | (apply WL.k_shr; (apply YO.shr'; exact rfl; exact rfl; omega; omega); exact rfl; exact rfl)
    | (apply WL.k_and; exact y_and; exact rfl; exact rfl)
    | (apply WL.k_or; exact y_or; exact rfl; exact rfl)
    | (apply WL.k_andNot; (apply YO.anot; exact rfl; exact rfl); exact rfl; exact rfl)
    | (apply WL.k_slice; exact y_slice; exact rfl; exact rfl)
    | (apply WL.k_build; exact y_build; exact rfl; exact rfl)
    | apply WC.seq
    | apply WC.region
    | apply WC.block
    | (apply WC.cond_t; exact rfl)
    | (apply WC.cond_f; exact rfl)
    | apply WC.exit
    | apply WC.skip
    | apply WC.label
    | (apply WL.kl_store; rotate_left; exact rfl; (first | (apply LO.storeOI; exact rfl; exact rfl; exact t3A; exact seA; (first | omega | (simp only [List.length_set]; omega))) | (apply LO.storeI; exact rfl; exact rfl; exact t3A; exact seA; (first | omega | (simp only [List.length_set, List.length_replicate]; omega))) | (apply LO.storeWI; exact rfl; exact rfl; exact seA; exact t6A; (first | omega | (simp only [List.length_set, List.length_replicate]; omega)); (first | (simp only [List.length_map, List.length_set, List.length_replicate, ints]; omega) | rfl)) | (apply LO.store1; exact rfl; exact rfl; exact t3A; (first | exact One.lit rfl rfl | (apply One.sl; exact knA)); exact seA; (first | (simp only [List.length_cons, List.length_nil]; omega) | (simp; omega)); (first | (simp only [List.set_cons_succ, List.set_cons_zero]; exact rfl) | exact rfl)) | (apply LO.storeO1; exact rfl; exact rfl; exact t3A; (first | exact One.lit rfl rfl | (apply One.sl; exact knA)); exact seA; (first | (simp only [List.length_cons, List.length_nil]; omega) | (simp; omega)); (first | (simp only [List.set_cons_succ, List.set_cons_zero]; exact rfl) | exact rfl)) | (apply LO.storeL; exact rfl; exact rfl; exact seA; exact t6A; exact rfl; exact rfl; (repeat (first | exact OneL.nil | (apply OneL.cons; (first | exact One.lit rfl rfl | (apply One.sl; exact knA)))))))))
  exact Bx.h h) : G := s ⟨h⟩
theorem goD {G G' : Prop} (h : G') (s : Bx G' → G := by
  intro h
  (first
    | apply WD.nil
    | (apply WD.skg; exact rfl; exact rfl; exact rfl)
    | (apply WD.skgl; exact rfl; exact rfl; exact rfl)
    | (apply WD.skgl0; exact rfl; exact rfl)
    | (apply WD.k_move; exact rfl; (apply YO.move; exact rfl); exact rfl; exact rfl)
    | (apply WD.k_assign; exact rfl; (apply YO.assign; exact rfl); exact rfl; exact rfl)
    | (apply WD.k_lss; exact rfl; exact y_lss; exact rfl; exact rfl)
    | (apply WD.k_add; exact rfl; exact y_add; exact rfl; exact rfl)
    | (apply WD.k_len; exact rfl; exact y_len; exact rfl; exact rfl)
    | (apply WD.k_indexAddr; exact rfl; exact y_indexAddr; exact rfl; exact rfl)
    | (apply WD.k_load; exact rfl; exact y_load; exact rfl; exact rfl)
    | (apply WD.k_pick; exact rfl; exact y_pick; exact rfl; exact rfl)
    | (apply WD.k_fieldAddr; exact rfl; exact y_fieldAddr; exact rfl; exact rfl)
    | (apply WD.k_eql; exact rfl; exact y_eql; exact rfl; exact rfl)
    | (apply WD.k_neq; exact rfl; exact y_neq; exact rfl; exact rfl)
    | (apply WD.k_nil; exact rfl; (apply YO.nil; exact rfl); exact rfl; exact rfl)
    | (apply WD.k_extract; exact rfl; (apply YO.extract; exact rfl; exact rfl); exact rfl; exact rfl)
    | (apply WD.k_gtr; exact rfl; exact y_gtr; exact rfl; exact rfl)
    | (apply WD.k_geq; exact rfl; exact y_geq; exact rfl; exact rfl)
    | (apply WD.k_leq; exact rfl; exact y_leq; exact rfl; exact rfl)
    | (apply WD.k_sub; exact rfl; (apply YO.sub; exact rfl; exact rfl; omega; omega); exact rfl; exact rfl)
    | (apply WD.k_mul; exact rfl; exact y_mul; exact rfl; exact rfl)
    | (apply WD.k_rem; exact rfl; exact y_rem; exact rfl; exact rfl)
    | (apply WD.k_quo; exact rfl; exact y_quo; exact rfl; exact rfl)
    | (apply WD.k_unot; exact rfl; exact y_unot; exact rfl; exact rfl)
    | (apply WD.k_uneg; exact rfl; exact y_uneg; exact rfl; exact rfl)
    | (apply WD.k_max; exact rfl; (apply YO.max; exact rfl; exact rfl); exact rfl; exact rfl)
    | (apply WD.k_min; exact rfl; (apply YO.min; exact rfl; exact rfl); exact rfl; exact rfl)
    | (apply WD.k_makeFunc; exact rfl; exact y_makeFunc; exact rfl; exact rfl)
    | (apply WD.k_conv; exact rfl; exact y_conv; exact rfl; exact rfl)
    | (apply WD.k_shl; exact rfl; exact y_shl; exact rfl; exact rfl)
    | (apply WD.k_shr; exact rfl; (apply YO.shr'; exact rfl; exact rfl; omega; omega); exact rfl; exact rfl)
    | (apply WD.k_and; exact rfl; exact y_and; exact rfl; exact rfl)
    | (apply WD.k_or; exact rfl; exact y_or; exact rfl; exact rfl)
    | (apply WD.k_andNot; exact rfl; (apply YO.anot; exact rfl; exact rfl); exact rfl; exact rfl)
    | (apply WD.k_slice; exact rfl; exact y_slice; exact rfl; exact rfl)
    | (apply WD.k_build; exact rfl; exact y_build; exact rfl; exact rfl)
    | (apply WD.kl_store; exact rfl; rotate_left; exact rfl; (first | (apply LO.storeOI; exact rfl; exact rfl; exact t3A; exact seA; (first | omega | (simp only [List.length_set]; omega))) | (apply LO.storeI; exact rfl; exact rfl; exact t3A; exact seA; (first | omega | (simp only [List.length_set, List.length_replicate]; omega))) | (apply LO.storeWI; exact rfl; exact rfl; exact seA; exact t6A; (first | omega | (simp only [List.length_set, List.length_replicate]; omega)); (first | (simp only [List.length_map, List.length_set, List.length_replicate, ints]; omega) | rfl)) | (apply LO.store1; exact rfl; exact rfl; exact t3A; (first | exact One.lit rfl rfl | (apply One.sl; exact knA)); exact seA; (first | (simp only [List.length_cons, List.length_nil]; omega) | (simp; omega)); (first | (simp only [List.set_cons_succ, List.set_cons_zero]; exact rfl) | exact rfl)) | (apply LO.storeO1; exact rfl; exact rfl; exact t3A; (first | exact One.lit rfl rfl | (apply One.sl; exact knA)); exact seA; (first | (simp only [List.length_cons, List.length_nil]; omega) | (simp; omega)); (first | (simp only [List.set_cons_succ, List.set_cons_zero]; exact rfl) | exact rfl)) | (apply LO.storeL; exact rfl; exact rfl; exact seA; exact t6A; exact rfl; exact rfl; (repeat (first | exact OneL.nil | (apply OneL.cons; (first | exact One.lit rfl rfl | (apply One.sl; exact knA))))))); constructor; exact ltA))
  repeat (first
    | apply WD.nil
    | (apply WD.skg; exact rfl; exact rfl; exact rfl)
    | (apply WD.skgl; exact rfl; exact rfl; exact rfl)
    | (apply WD.skgl0; exact rfl; exact rfl)
    | (apply WD.k_move; exact rfl; (apply YO.move; exact rfl); exact rfl; exact rfl)
    | (apply WD.k_assign; exact rfl; (apply YO.assign; exact rfl); exact rfl; exact rfl)
    | (apply WD.k_lss; exact rfl; exact y_lss; exact rfl; exact rfl)
    | (apply WD.k_add; exact rfl; exact y_add; exact rfl; exact rfl)
    | (apply WD.k_len; exact rfl; exact y_len; exact rfl; exact rfl)
    | (apply WD.k_indexAddr; exact rfl; exact y_indexAddr; exact rfl; exact rfl)
    | (apply WD.k_load; exact rfl; exact y_load; exact rfl; exact rfl)
    | (apply WD.k_pick; exact rfl; exact y_pick; exact rfl; exact rfl)
    | (apply WD.k_fieldAddr; exact rfl; exact y_fieldAddr; exact rfl; exact rfl)
    | (apply WD.k_eql; exact rfl; exact y_eql; exact rfl; exact rfl)
    | (apply WD.k_neq; exact rfl; exact y_neq; exact rfl; exact rfl)
    | (apply WD.k_nil; exact rfl; (apply YO.nil; exact rfl); exact rfl; exact rfl)
    | (apply WD.k_extract; exact rfl; (apply YO.extract; exact rfl; exact rfl); exact rfl; exact rfl)
    | (apply WD.k_gtr; exact rfl; exact y_gtr; exact rfl; exact rfl)
    | (apply WD.k_geq; exact rfl; exact y_geq; exact rfl; exact rfl)
    | (apply WD.k_leq; exact rfl; exact y_leq; exact rfl; exact rfl)
    | (apply WD.k_sub; exact rfl; (apply YO.sub; exact rfl; exact rfl; omega; omega); exact rfl; exact rfl)
    | (apply WD.k_mul; exact rfl; exact y_mul; exact rfl; exact rfl)
    | (apply WD.k_rem; exact rfl; exact y_rem; exact rfl; exact rfl)
    | (apply WD.k_quo; exact rfl; exact y_quo; exact rfl; exact rfl)
    | (apply WD.k_unot; exact rfl; exact y_unot; exact rfl; exact rfl)
    | (apply WD.k_uneg; exact rfl; exact y_uneg; exact rfl; exact rfl)
    | (apply WD.k_max; exact rfl; (apply YO.max; exact rfl; exact rfl); exact rfl; exact rfl)
    | (apply WD.k_min; exact rfl; (apply YO.min; exact rfl; exact rfl); exact rfl; exact rfl)
    | (apply WD.k_makeFunc; exact rfl; exact y_makeFunc; exact rfl; exact rfl)
    | (apply WD.k_conv; exact rfl; exact y_conv; exact rfl; exact rfl)
    | (apply WD.k_shl; exact rfl; exact y_shl; exact rfl; exact rfl)
    | (apply WD.k_shr; exact rfl; (apply YO.shr'; exact rfl; exact rfl; omega; omega); exact rfl; exact rfl)
    | (apply WD.k_and; exact rfl; exact y_and; exact rfl; exact rfl)
    | (apply WD.k_or; exact rfl; exact y_or; exact rfl; exact rfl)
    | (apply WD.k_andNot; exact rfl; (apply YO.anot; exact rfl; exact rfl); exact rfl; exact rfl)
    | (apply WD.k_slice; exact rfl; exact y_slice; exact rfl; exact rfl)
    | (apply WD.k_build; exact rfl; exact y_build; exact rfl; exact rfl)
    | (apply WD.kl_store; exact rfl; rotate_left; exact rfl; (first | (apply LO.storeOI; exact rfl; exact rfl; exact t3A; exact seA; (first | omega | (simp only [List.length_set]; omega))) | (apply LO.storeI; exact rfl; exact rfl; exact t3A; exact seA; (first | omega | (simp only [List.length_set, List.length_replicate]; omega))) | (apply LO.storeWI; exact rfl; exact rfl; exact seA; exact t6A; (first | omega | (simp only [List.length_set, List.length_replicate]; omega)); (first | (simp only [List.length_map, List.length_set, List.length_replicate, ints]; omega) | rfl)) | (apply LO.store1; exact rfl; exact rfl; exact t3A; (first | exact One.lit rfl rfl | (apply One.sl; exact knA)); exact seA; (first | (simp only [List.length_cons, List.length_nil]; omega) | (simp; omega)); (first | (simp only [List.set_cons_succ, List.set_cons_zero]; exact rfl) | exact rfl)) | (apply LO.storeO1; exact rfl; exact rfl; exact t3A; (first | exact One.lit rfl rfl | (apply One.sl; exact knA)); exact seA; (first | (simp only [List.length_cons, List.length_nil]; omega) | (simp; omega)); (first | (simp only [List.set_cons_succ, List.set_cons_zero]; exact rfl) | exact rfl)) | (apply LO.storeL; exact rfl; exact rfl; exact seA; exact t6A; exact rfl; exact rfl; (repeat (first | exact OneL.nil | (apply OneL.cons; (first | exact One.lit rfl rfl | (apply One.sl; exact knA))))))); constructor; exact ltA))
  exact Bx.h h) : G := s ⟨h⟩
theorem goG {G G' : Prop} (h : G') (s : Bx G' → G := by
  intro h
  (first
    | (apply WL.kl_alloc; rotate_left; exact rfl; exact rfl; apply LO.alloc'; (first | exact t0A))
    | (apply WL.kl_box; rotate_left; exact rfl; exact rfl; (first | (apply LO.boxA; exact rfl) | (apply LO.box1; exact rfl; (first | exact One.lit rfl rfl | (apply One.sl; exact knA))))))
  exact Bx.h h) : G := s ⟨h⟩
theorem goV {G G' : Prop} (h : G') (s : Bx G' → G := by
  intro h
  (first
    | (apply WL.kl_ms; rotate_left; exact rfl; exact rfl; (apply LO.makeI; exact rfl; exact rfl; (repeat (first | (with_reducible apply NatI.add) | (with_reducible exact NatI.one) | exact NatI.cast _)); omega))
    | (apply WL.kl_bs; rotate_left; exact rfl; exact rfl; apply LO.bs1; exact t5A; (repeat (first | exact EvP.nil | (apply EvP.cons; exact rfl))); (intro _; kernel_rfl); exact rfl; omega)
    | (apply WL.kl_app; rotate_left; exact rfl; exact rfl; apply LO.app; exact t4A; exact rfl; exact rfl; (first | (focus (apply SrcE.ints; exact hmA; done)) | (focus (apply SrcE.own1; exact meA; done)) | (focus (apply SrcE.one; exact meA; exact rfl; decide; done))); (intro v; exact seA); exact onA; exact leA; exact leA))
  exact Bx.h h) : G := s ⟨h⟩
theorem goDG {G G' : Prop} (h : G') (s : Bx G' → G := by
  intro h
  (first
    | (apply WD.kl_alloc; exact rfl; rotate_left; exact rfl; exact rfl; apply LO.alloc'; (first | exact t0A); apply allAnd; (intro _; exact ltA))
    | (apply WD.kl_box; exact rfl; rotate_left; exact rfl; exact rfl; (first | (apply LO.boxA; exact rfl) | (apply LO.box1; exact rfl; (first | exact One.lit rfl rfl | (apply One.sl; exact knA)))); apply allAnd; (intro _; exact ltA)))
  exact Bx.h h) : G := s ⟨h⟩
theorem goDV {G G' : Prop} (h : G') (s : Bx G' → G := by
  intro h
  (first
    | (apply WD.kl_ms; exact rfl; rotate_left; exact rfl; exact rfl; (apply LO.makeI; exact rfl; exact rfl; (repeat (first | (with_reducible apply NatI.add) | (with_reducible exact NatI.one) | exact NatI.cast _)); omega); apply allAnd; (intro _; exact ltA))
    | (apply WD.kl_bs; exact rfl; rotate_left; exact rfl; exact rfl; apply LO.bs1; exact t5A; (repeat (first | exact EvP.nil | (apply EvP.cons; exact rfl))); (intro _; kernel_rfl); exact rfl; omega; apply allAnd; (intro _; exact ltA))
    | (apply WD.kl_app; exact rfl; rotate_left; exact rfl; exact rfl; apply LO.app; exact t4A; exact rfl; exact rfl; (first | (focus (apply SrcE.ints; exact hmA; done)) | (focus (apply SrcE.own1; exact meA; done)) | (focus (apply SrcE.one; exact meA; exact rfl; decide; done))); (intro v; exact seA); exact onA; exact leA; exact leA; apply allAnd; (intro _; exact ltA)))
  exact Bx.h h) : G := s ⟨h⟩
theorem goLG {G G' : Prop} (h : G') (s : Bx G' → G := by
  intro h
  (first
    | (apply LO.alloc'; (first | exact t0A); apply allAnd; (intro _; exact ltA))
    | ((first | (apply LO.boxA; exact rfl) | (apply LO.box1; exact rfl; (first | exact One.lit rfl rfl | (apply One.sl; exact knA)))); apply allAnd; (intro _; exact ltA)))
  exact Bx.h h) : G := s ⟨h⟩
theorem goLV {G G' : Prop} (h : G') (s : Bx G' → G := by
  intro h
  (first
    | (apply LO.bs1; exact t5A; (repeat (first | exact EvP.nil | (apply EvP.cons; exact rfl))); (intro _; kernel_rfl); exact rfl; omega; apply allAnd; (intro _; exact ltA))
    | (apply LO.app; exact t4A; exact rfl; exact rfl; (first | (focus (apply SrcE.ints; exact hmA; done)) | (focus (apply SrcE.own1; exact meA; done)) | (focus (apply SrcE.one; exact meA; exact rfl; decide; done))); (intro v; exact seA); exact onA; exact leA; exact leA; apply allAnd; (intro _; exact ltA))
    | ((apply LO.makeI; exact rfl; exact rfl; (repeat (first | (with_reducible apply NatI.add) | (with_reducible exact NatI.one) | exact NatI.cast _)); omega); apply allAnd; (intro _; exact ltA)))
  exact Bx.h h) : G := s ⟨h⟩
theorem goLS {G G' : Prop} (h : G') (s : Bx G' → G := by
  intro h
  (first
    | ((first | (apply LO.storeOI; exact rfl; exact rfl; exact t3A; exact seA; (first | omega | (simp only [List.length_set]; omega))) | (apply LO.storeI; exact rfl; exact rfl; exact t3A; exact seA; (first | omega | (simp only [List.length_set, List.length_replicate]; omega))) | (apply LO.storeWI; exact rfl; exact rfl; exact seA; exact t6A; (first | omega | (simp only [List.length_set, List.length_replicate]; omega)); (first | (simp only [List.length_map, List.length_set, List.length_replicate, ints]; omega) | rfl)) | (apply LO.store1; exact rfl; exact rfl; exact t3A; (first | exact One.lit rfl rfl | (apply One.sl; exact knA)); exact seA; (first | (simp only [List.length_cons, List.length_nil]; omega) | (simp; omega)); (first | (simp only [List.set_cons_succ, List.set_cons_zero]; exact rfl) | exact rfl)) | (apply LO.storeO1; exact rfl; exact rfl; exact t3A; (first | exact One.lit rfl rfl | (apply One.sl; exact knA)); exact seA; (first | (simp only [List.length_cons, List.length_nil]; omega) | (simp; omega)); (first | (simp only [List.set_cons_succ, List.set_cons_zero]; exact rfl) | exact rfl)) | (apply LO.storeL; exact rfl; exact rfl; exact seA; exact t6A; exact rfl; exact rfl; (repeat (first | exact OneL.nil | (apply OneL.cons; (first | exact One.lit rfl rfl | (apply One.sl; exact knA))))))); constructor; exact ltA))
  exact Bx.h h) : G := s ⟨h⟩
section
variable {P : Program} {n : Nat} {L rest : List Oper} {e : Env} {bx b0 : List Ow} {F F0 : List Fct} {Q : Env → List Ow → List Fct → Prop} {d i : Nat} {ty : TypeId} {pos : String} {af : Array Edge} {g : Option (Nat × Bool)} {hs : List Nat} {r : Plan}
  {f : FuncId} {x : Operand} {args : List Operand} {ats : Array TypeId} {vs cs : List Value} {F' : List Fct} {u : Value} {el sz : Nat}
theorem WL.callV (hf : FnB P f vs [] F' (IsV u)) (hK : WL P n L rest ((d, u) :: e) bx F Q) (hx : ev e x = some (.func (.func f) #[] #[]) := by exact rfl) (hv : Evs e args vs := by repeat (first | exact Evs.nil | (apply Evs.cons; exact rfl))) (hF : HasAllB bx F F' := by repeat (first | exact HasAllB.nil | (apply HasAllB.cons; (first | (focus (apply HasB.oI; exact meA; done)) | (focus (apply HasB.c; exact meA; done)) | (focus (apply HasB.f; exact hsA; done))))))
    (hd : Nat.blt d n = true := by exact rfl) (hg : gok L e g = some true := by exact rfl) : WL P n L (⟨some d, .call { callee := .value x, args := args.toArray, argTypes := ats }, ty, pos, af, g⟩ :: rest) e bx F Q :=
  WL.l hd hg (LO.callRV hx hv hf hF hK)
theorem WL.callO (hf : FnB P f vs [] F' (IsO el sz cs)) (hK : ∀ v, WL P n L rest ((d, v) :: e) (Ow.slice v el sz cs :: bx) F Q) (hx : ev e x = some (.func (.func f) #[] #[]) := by exact rfl) (hv : Evs e args vs := by repeat (first | exact Evs.nil | (apply Evs.cons; exact rfl))) (hF : HasAllB bx F F' := by repeat (first | exact HasAllB.nil | (apply HasAllB.cons; (first | (focus (apply HasB.oI; exact meA; done)) | (focus (apply HasB.c; exact meA; done)) | (focus (apply HasB.f; exact hsA; done))))))
    (hd : Nat.blt d n = true := by exact rfl) (hg : gok L e g = some true := by exact rfl) : WL P n L (⟨some d, .call { callee := .value x, args := args.toArray, argTypes := ats }, ty, pos, af, g⟩ :: rest) e bx F Q :=
  WL.l hd hg (LO.callRO hx hv hf hF hK)
theorem WL.callF {R : RPost} (first cap : List Value) (hf : FnB P f (first ++ vs ++ cap) [] F' R) (hK : ∀ v b G, R v b G → WL P n L rest ((d, v) :: e) (b ++ bx) F Q) (hx : ev e x = some (.func (.func f) first.toArray cap.toArray) := by exact rfl) (hv : Evs e args vs := by repeat (first | exact Evs.nil | (apply Evs.cons; exact rfl))) (hF : HasAllB bx F F' := by repeat (first | exact HasAllB.nil | (apply HasAllB.cons; (first | (focus (apply HasB.oI; exact meA; done)) | (focus (apply HasB.c; exact meA; done)) | (focus (apply HasB.f; exact hsA; done))))))
    (hd : Nat.blt d n = true := by exact rfl) (hg : gok L e g = some true := by exact rfl) : WL P n L (⟨some d, .call { callee := .value x, args := args.toArray, argTypes := ats }, ty, pos, af, g⟩ :: rest) e bx F Q :=
  WL.l hd hg (LO.callR hx hv hf hF hK)
theorem WL.callP {R : RPost} (hf : FnB P f vs [] F' R) (hK : ∀ v b G, R v b G → WL P n L rest ((d, v) :: e) (b ++ bx) F Q) (hx : ev e x = some (.func (.func f) #[] #[]) := by exact rfl) (hv : Evs e args vs := by repeat (first | exact Evs.nil | (apply Evs.cons; exact rfl))) (hF : HasAllB bx F F' := by repeat (first | exact HasAllB.nil | (apply HasAllB.cons; (first | (focus (apply HasB.oI; exact meA; done)) | (focus (apply HasB.c; exact meA; done)) | (focus (apply HasB.f; exact hsA; done))))))
    (hd : Nat.blt d n = true := by exact rfl) (hg : gok L e g = some true := by exact rfl) : WL P n L (⟨some d, .call { callee := .value x, args := args.toArray, argTypes := ats }, ty, pos, af, g⟩ :: rest) e bx F Q :=
  WL.l hd hg (LO.callR (first := []) (cap := []) hx hv (by simpa using hf) hF hK)
theorem WD.callP {R : RPost} (hf : FnB P f vs [] F' R) (hK : ∀ v b G, R v b G → WD P n L hs b0 F0 r ((d, v) :: e) (b ++ bx) F Q) (hL : L[i]? = some ⟨some d, .call { callee := .value x, args := args.toArray, argTypes := ats }, ty, pos, af, g⟩ := by exact rfl) (hx : ev e x = some (.func (.func f) #[] #[]) := by exact rfl) (hv : Evs e args vs := by repeat (first | exact Evs.nil | (apply Evs.cons; exact rfl))) (hF : HasAllB bx F F' := by repeat (first | exact HasAllB.nil | (apply HasAllB.cons; (first | (focus (apply HasB.oI; exact meA; done)) | (focus (apply HasB.c; exact meA; done)) | (focus (apply HasB.f; exact hsA; done))))))
    (hd : Nat.blt d n = true := by exact rfl) (hg : gok L e g = some true := by exact rfl) (lt : lateB L hs i = true ∨ (b0.Sublist bx ∧ ∀ f ∈ F0, f ∈ F) := by exact ltA) : WD P n L hs b0 F0 (.loud i r) e bx F Q :=
  WD.l hL hd hg (LO.callR (first := []) (cap := []) hx hv (by simpa using hf) hF fun v b G hR => ⟨lt.imp id fun h => ⟨h.1.trans (List.sublist_append_right _ _), h.2⟩, hK v b G hR⟩)
theorem WD.callV (hf : FnB P f vs [] F' (IsV u)) (hK : WD P n L hs b0 F0 r ((d, u) :: e) bx F Q) (hL : L[i]? = some ⟨some d, .call { callee := .value x, args := args.toArray, argTypes := ats }, ty, pos, af, g⟩ := by exact rfl) (hx : ev e x = some (.func (.func f) #[] #[]) := by exact rfl) (hv : Evs e args vs := by repeat (first | exact Evs.nil | (apply Evs.cons; exact rfl))) (hF : HasAllB bx F F' := by repeat (first | exact HasAllB.nil | (apply HasAllB.cons; (first | (focus (apply HasB.oI; exact meA; done)) | (focus (apply HasB.c; exact meA; done)) | (focus (apply HasB.f; exact hsA; done))))))
    (hd : Nat.blt d n = true := by exact rfl) (hg : gok L e g = some true := by exact rfl) (lt : lateB L hs i = true ∨ (b0.Sublist bx ∧ ∀ f ∈ F0, f ∈ F) := by exact ltA) : WD P n L hs b0 F0 (.loud i r) e bx F Q :=
  WD.l hL hd hg (LO.callRV hx hv hf hF ⟨lt, hK⟩)
theorem WD.callO (hf : FnB P f vs [] F' (IsO el sz cs)) (hK : ∀ v, WD P n L hs b0 F0 r ((d, v) :: e) (Ow.slice v el sz cs :: bx) F Q) (hL : L[i]? = some ⟨some d, .call { callee := .value x, args := args.toArray, argTypes := ats }, ty, pos, af, g⟩ := by exact rfl) (hx : ev e x = some (.func (.func f) #[] #[]) := by exact rfl) (hv : Evs e args vs := by repeat (first | exact Evs.nil | (apply Evs.cons; exact rfl))) (hF : HasAllB bx F F' := by repeat (first | exact HasAllB.nil | (apply HasAllB.cons; (first | (focus (apply HasB.oI; exact meA; done)) | (focus (apply HasB.c; exact meA; done)) | (focus (apply HasB.f; exact hsA; done))))))
    (hd : Nat.blt d n = true := by exact rfl) (hg : gok L e g = some true := by exact rfl) (lt : lateB L hs i = true ∨ (b0.Sublist bx ∧ ∀ f ∈ F0, f ∈ F) := by exact ltA) : WD P n L hs b0 F0 (.loud i r) e bx F Q :=
  WD.l hL hd hg (LO.callRO hx hv hf hF fun v => ⟨lt.imp id fun h => ⟨h.1.trans (List.sublist_cons_self _ _), h.2⟩, hK v⟩)
end
end Go.Proofs.YthggloiigkbfeaaGreat
namespace Go.Proofs.YthggloiigkbfeaaGreat
open W Go.RowKit
namespace W
inductive Rem : List Ow → Ow → List Ow → Prop where
  | head {b : Ow} {l : List Ow} : Rem (b :: l) b l
  | tail {b c : Ow} {l l' : List Ow} : Rem l b l' → Rem (c :: l) b (c :: l')
theorem Rem.perm {l l' : List Ow} {b : Ow} (h : Rem l b l') : l.Perm (b :: l') := by
  induction h with
  | head => exact .refl _
  | tail _ ih => exact (ih.cons _).trans (.swap _ _ _)
section
variable {P : Program} {n : Nat} {L rest : List Oper} {e : Env} {bx bx' b0 ba br : List Ow} {F F0 F' : List Fct} {c : Code} {g : Nat} {t : TypeId} {cs : List Value} {hs : List Nat} {r : Plan}
theorem OK.keep {fr : PH} {w : World} (h : OK fr bx F w) (hr : Rem bx (.cells g t cs) bx') : OK fr bx' (ce g t cs :: F) w := by
  have hp := h.perm hr.perm
  have hd : OK fr bx' F w := hp.drop (List.sublist_cons_self _ _)
  refine hd.add (f := ce g t cs) ?_
  have hh := hp.owns _ List.mem_cons_self
  have hnd := hp.nodup
  have hap := hp.apart g (by simp [ids, Ow.ids])
  simp only [ids, List.flatMap_cons, Ow.ids, List.singleton_append, List.nodup_cons] at hnd
  show imm fr bx' w.heap g = _
  unfold imm
  rw [if_neg]
  · exact hh
  · simp only [hap, Option.isSome_none, Bool.false_or, List.contains_iff_mem]; exact hnd.1
theorem WL.keep {Q : Env → List Ow → List Fct → Prop} (hr : Rem bx (.cells g t cs) bx') (h : WL P n L rest e bx' (ce g t cs :: F) Q) : WL P n L rest e bx F Q := fun fr w0 a w Q' hQ hk hrr ho => h fr w0 a w Q' hQ hk hrr (ho.keep hr)
theorem WC.keep {Q : Post} (hr : Rem bx (.cells g t cs) bx') (h : WC P n c e bx' (ce g t cs :: F) Q) : WC P n c e bx F Q := fun fr w0 a w hk hrr ho => h fr w0 a w hk hrr (ho.keep hr)
variable {f : FuncId} {x : Operand} {args : List Operand} {ats : Array TypeId} {vs first cap : List Value} {R : RPost} {Q : Env → List Ow → List Fct → Prop} {d : Nat} {ty : TypeId} {pos : String} {af : Array Edge} {gd : Option (Nat × Bool)}
theorem WL.callG (ba br : List Ow) (hp : bx.Perm (ba ++ br)) (hf : FnB P f vs ba F' R) (hK : ∀ v b G, R v b G → WL P n L rest ((d, v) :: e) (b ++ br) (G ++ F) Q) (hx : ev e x = some (.func (.func f) #[] #[]) := by exact rfl) (hv : Evs e args vs := by repeat (first | exact Evs.nil | (apply Evs.cons; exact rfl))) (hF : HasAll F F' := by repeat (first | exact HasAll.nil | (apply HasAll.cons; (first | (focus (apply Has.mem; (repeat (first | exact List.Mem.head _ | apply List.Mem.tail)); done)) | (focus (apply hasQ_P; (focus (apply Has.mem; (repeat (first | exact List.Mem.head _ | apply List.Mem.tail)); done)); done)) | (focus (apply hasQ_Q; (focus (apply Has.mem; (repeat (first | exact List.Mem.head _ | apply List.Mem.tail)); done)); done)) | exact hasZ_0 | exact hasQ_0 | (focus (apply hasZ_d; (focus (apply Has.mem; (repeat (first | exact List.Mem.head _ | apply List.Mem.tail)); done)); done)) | (focus (apply hasQ_d1; (focus (apply Has.mem; (repeat (first | exact List.Mem.head _ | apply List.Mem.tail)); done)); done)) | (focus (apply hasQ_d2; (focus (apply Has.mem; (repeat (first | exact List.Mem.head _ | apply List.Mem.tail)); done)); done))))))
    (hd : Nat.blt d n = true := by exact rfl) (hg : gok L e gd = some true := by exact rfl) : WL P n L (⟨some d, .call { callee := .value x, args := args.toArray, argTypes := ats }, ty, pos, af, gd⟩ :: rest) e bx F Q :=
  WL.l hd hg (LO.call (first := []) (cap := []) hx hv ba br hp (by simpa using hf) hF.all hK)
theorem WL.callK (hf : FnB P f vs [] F' R) (hK : ∀ v b G, R v b G → WL P n L rest ((d, v) :: e) (b ++ bx) (G ++ F) Q) (hx : ev e x = some (.func (.func f) #[] #[]) := by exact rfl) (hv : Evs e args vs := by repeat (first | exact Evs.nil | (apply Evs.cons; exact rfl))) (hF : HasAll F F' := by repeat (first | exact HasAll.nil | (apply HasAll.cons; (first | (focus (apply Has.mem; (repeat (first | exact List.Mem.head _ | apply List.Mem.tail)); done)) | (focus (apply hasQ_P; (focus (apply Has.mem; (repeat (first | exact List.Mem.head _ | apply List.Mem.tail)); done)); done)) | (focus (apply hasQ_Q; (focus (apply Has.mem; (repeat (first | exact List.Mem.head _ | apply List.Mem.tail)); done)); done)) | exact hasZ_0 | exact hasQ_0 | (focus (apply hasZ_d; (focus (apply Has.mem; (repeat (first | exact List.Mem.head _ | apply List.Mem.tail)); done)); done)) | (focus (apply hasQ_d1; (focus (apply Has.mem; (repeat (first | exact List.Mem.head _ | apply List.Mem.tail)); done)); done)) | (focus (apply hasQ_d2; (focus (apply Has.mem; (repeat (first | exact List.Mem.head _ | apply List.Mem.tail)); done)); done))))))
    (hd : Nat.blt d n = true := by exact rfl) (hg : gok L e gd = some true := by exact rfl) : WL P n L (⟨some d, .call { callee := .value x, args := args.toArray, argTypes := ats }, ty, pos, af, gd⟩ :: rest) e bx F Q :=
  WL.l hd hg (LO.call (first := []) (cap := []) hx hv [] bx (.refl _) (by simpa using hf) hF.all hK)
theorem WD.callK {i : Nat} (hf : FnB P f vs [] F' R) (hK : ∀ v b G, R v b G → WD P n L hs b0 F0 r ((d, v) :: e) (b ++ bx) (G ++ F) Q) (hL : L[i]? = some ⟨some d, .call { callee := .value x, args := args.toArray, argTypes := ats }, ty, pos, af, gd⟩ := by exact rfl) (hx : ev e x = some (.func (.func f) #[] #[]) := by exact rfl) (hv : Evs e args vs := by repeat (first | exact Evs.nil | (apply Evs.cons; exact rfl))) (hF : HasAll F F' := by repeat (first | exact HasAll.nil | (apply HasAll.cons; (first | (focus (apply Has.mem; (repeat (first | exact List.Mem.head _ | apply List.Mem.tail)); done)) | (focus (apply hasQ_P; (focus (apply Has.mem; (repeat (first | exact List.Mem.head _ | apply List.Mem.tail)); done)); done)) | (focus (apply hasQ_Q; (focus (apply Has.mem; (repeat (first | exact List.Mem.head _ | apply List.Mem.tail)); done)); done)) | exact hasZ_0 | exact hasQ_0 | (focus (apply hasZ_d; (focus (apply Has.mem; (repeat (first | exact List.Mem.head _ | apply List.Mem.tail)); done)); done)) | (focus (apply hasQ_d1; (focus (apply Has.mem; (repeat (first | exact List.Mem.head _ | apply List.Mem.tail)); done)); done)) | (focus (apply hasQ_d2; (focus (apply Has.mem; (repeat (first | exact List.Mem.head _ | apply List.Mem.tail)); done)); done))))))
    (hd : Nat.blt d n = true := by exact rfl) (hg : gok L e gd = some true := by exact rfl) (lt : lateB L hs i = true ∨ (b0.Sublist bx ∧ ∀ f ∈ F0, f ∈ F) := by (first | (focus (apply Or.inr; constructor; (repeat (first | exact List.Sublist.refl _ | exact List.nil_sublist _ | apply List.Sublist.cons_cons | apply List.Sublist.cons)); (first | exact fun _ h => h | (intro f hf; (repeat (first | exact hf | apply List.Mem.tail)))); done)) | (apply Or.inl; kernel_rfl))) : WD P n L hs b0 F0 (.loud i r) e bx F Q :=
  WD.l hL hd hg (LO.call (first := []) (cap := []) hx hv [] bx (.refl _) (by simpa using hf) hF.all fun v b G hR => ⟨lt.imp id fun h => ⟨h.1.trans (List.sublist_append_right _ _), fun f hf => List.mem_append_right _ (h.2 f hf)⟩, hK v b G hR⟩)
theorem LO.callM {i : Nat} (hf : FnB P f vs [] F' R) (hK : ∀ v b G, R v b G → WD P n L hs b0 F0 r ((d, v) :: e) (b ++ bx) (G ++ F) Q) (hx : ev e x = some (.func (.func f) #[] #[]) := by exact rfl) (hv : Evs e args vs := by repeat (first | exact Evs.nil | (apply Evs.cons; exact rfl))) (hF : HasAll F F' := by repeat (first | exact HasAll.nil | (apply HasAll.cons; (first | (focus (apply Has.mem; (repeat (first | exact List.Mem.head _ | apply List.Mem.tail)); done)) | (focus (apply hasQ_P; (focus (apply Has.mem; (repeat (first | exact List.Mem.head _ | apply List.Mem.tail)); done)); done)) | (focus (apply hasQ_Q; (focus (apply Has.mem; (repeat (first | exact List.Mem.head _ | apply List.Mem.tail)); done)); done)) | exact hasZ_0 | exact hasQ_0 | (focus (apply hasZ_d; (focus (apply Has.mem; (repeat (first | exact List.Mem.head _ | apply List.Mem.tail)); done)); done)) | (focus (apply hasQ_d1; (focus (apply Has.mem; (repeat (first | exact List.Mem.head _ | apply List.Mem.tail)); done)); done)) | (focus (apply hasQ_d2; (focus (apply Has.mem; (repeat (first | exact List.Mem.head _ | apply List.Mem.tail)); done)); done))))))
    (lt : lateB L hs i = true ∨ (b0.Sublist bx ∧ ∀ f ∈ F0, f ∈ F) := by (first | (focus (apply Or.inr; constructor; (repeat (first | exact List.Sublist.refl _ | exact List.nil_sublist _ | apply List.Sublist.cons_cons | apply List.Sublist.cons)); (first | exact fun _ h => h | (intro f hf; (repeat (first | exact hf | apply List.Mem.tail)))); done)) | (apply Or.inl; kernel_rfl))) : LO P (.call { callee := .value x, args := args.toArray, argTypes := ats }) ty e bx F fun v bx' F' => (lateB L hs i = true ∨ (b0.Sublist bx' ∧ ∀ f ∈ F0, f ∈ F')) ∧ WD P n L hs b0 F0 r ((d, v) :: e) bx' F' Q :=
  LO.call (first := []) (cap := []) hx hv [] bx (.refl _) (by simpa using hf) hF.all fun v b G hR => ⟨lt.imp id fun h => ⟨h.1.trans (List.sublist_append_right _ _), fun f hf => List.mem_append_right _ (h.2 f hf)⟩, hK v b G hR⟩
end
section
variable {P : Program} {n : Nat} {L : List Oper} {e : Env} {bx b0 : List Ow} {F F0 : List Fct} {hs : List Nat} {r s : Plan} {Q : Env → List Ow → List Fct → Prop} {i j : Nat}
theorem loud_y {fr : PH} {w0 : World} {listed : Array Bool} {a : Act} {w : World} {f' : Nat} {Q' : Exit → Act → World → Prop} {v : Value} {e' : Env} (o : Oper) (hL : L[i]? = some o)
    (hP : ∀ c a a' w, Q' (.panic c) a w → Q' (.panic c) a' w) (hns : Region.noSelect L.toArray = true) (hc : chk L hs r (listed.setIfInBounds i true) = true) (hd : Down L.toArray listed) (hri : i ∈ Region.ready .any L.toArray listed)
    (hQ : ∀ a' w' e' bx' F', Kn n a' e' → Rest w0 w' → OK fr bx' F' w' → Q e' bx' F' → Q' .normal a' w') (hS : (∃ i ∈ hs, listed.getD i true = false) → OK fr b0 F0 w)
    (hk : Kn n a e) (hr : Rest w0 w) (ho : OK fr bx F w) (hf : r.len ≤ f')
    (hg : gok L e o.guard = some true) (hy : YO P o.op o.type e bx F v) (he' : Kn n (a.put o.dst v) e') (h : WD P n L hs b0 F0 r e' bx F Q) :
    wpOp P L.toArray Q' i (fun a' w' => (lateB L hs i = false → OK fr b0 F0 w → OK fr b0 F0 w') ∧ wpAnyG P L.toArray Q' (fun w => OK fr b0 F0 w) (lateB L hs) f' (listed.setIfInBounds i true) a' w') a w := by
  have hun := (mem_ready.1 hri).1
  have hlist : (∃ j ∈ hs, (listed.setIfInBounds i true).getD j true = false) → ∃ j ∈ hs, listed.getD j true = false := fun ⟨j, hj, hjl⟩ => ⟨j, hj, getD_some hun j hjl⟩
  unfold wpOp
  have hLa : L.toArray[i]? = some o := by simpa using hL
  simp only [hLa]
  rw [if_pos (gok_wanted hk hg)]
  refine .inl ?_
  unfold Oper.wp
  rw [hy n fr a w o rfl rfl hk ho]
  exact ⟨fun _ h => h, h fr w0 _ (a.put o.dst v) w f' Q' hP hns hc (hd.set hri) hQ (fun hx => hS (hlist hx)) he' hr ho hf⟩
variable {d : Nat} {op : Op} {ty : TypeId} {pos : String} {af : Array Edge} {g : Option (Nat × Bool)} {v : Value}
theorem WD.yl (hL : L[i]? = some ⟨some d, op, ty, pos, af, g⟩) (hy : YO P op ty e bx F v) (hd : Nat.blt d n = true) (hg : gok L e g = some true) (h : WD P n L hs b0 F0 r ((d, v) :: e) bx F Q) : WD P n L hs b0 F0 (.loud i r) e bx F Q := fun fr w0 listed a w fuel Q' hP hns hc hdn hQ hS hk hr ho hf => by
  simp only [chk, Bool.and_eq_true, beq_iff_eq] at hc
  obtain ⟨h1, h2⟩ := hc
  obtain ⟨f', rfl⟩ : ∃ f', fuel = f' + 1 := ⟨fuel - 1, by simp [Plan.len] at hf; omega⟩
  refine ⟨fun h0 => (by rw [h0] at h1; cases h1), fun j hj => ?_⟩
  rw [h1] at hj; simp at hj; subst hj
  exact loud_y _ hL hP hns h2 hdn (by rw [h1]; simp) hQ hS hk hr ho (by simp [Plan.len] at hf; exact hf) hg hy (hk.put hd v) h
theorem WC.drawB {id : Nat} {Q : Post} (b0 : List Ow) (hb : b0.Sublist bx) (hs : List Nat) (p : Plan) (hm : P.follows .mixedOrders = true) (hc : (Region.noSelect L.toArray && (chk L hs p (Array.replicate L.length false) && Nat.ble p.len L.length)) = true)
    (h : WD P n L hs b0 F p e bx F (Q .normal)) : WC P n (.region id L.toArray true) e bx F Q := fun fr w0 a w hk hr ho => by
  simp only [Bool.and_eq_true] at hc
  refine wp_region_any hm (wpAny_of_G _ _ _ _ (h fr w0 _ a _ _ _ ?_ hc.1 (by simpa using hc.2.1) ?_ (fun a' w' e' bx' F' h1 h2 h3 h4 => ⟨e', bx', F', h1, h2, h3, h4⟩) (fun _ => (ho.drop hb).drawn _) hk (hr.trans (Rest.drawn w _)) (ho.drawn _) (by simpa using Nat.le_of_ble_eq_true hc.2.2)))
  · intro c a a' w h; exact h
  · intro j o _ hj
    rw [Array.getD_eq_getD_getElem?, Array.getElem?_replicate] at hj
    split at hj <;> simp at hj
theorem WC.cutT {x y : Code} {Q : Post} {σ : Type} (E : σ → Env) (B : σ → List Ow) (G : σ → List Fct) (I : σ → Prop)
    (h1 : WC P n x e bx F (thenQ (fun e' bx' F' => ∃ s, I s ∧ Sub (E s) e' ∧ (B s).Sublist bx' ∧ HasAll F' (G s)) Q))
    (h2 : ∀ s, I s → WC P n y (E s) (B s) (G s) Q) : WC P n x e bx F (thenQ (fun e bx F => WC P n y e bx F Q) Q) :=
  h1.mono fun ex e b f h => by
    cases ex <;> first | exact h | skip
    obtain ⟨s, h3, h4, h5, h6⟩ := h
    exact (h2 s h3).weak h4 h5 h6.all
end
inductive Rems (e : Env) : List Nat → List Ow → List Ow → Prop where
  | nil (bx : List Ow) : Rems e [] bx bx
  | cons {t : Nat} {ts : List Nat} {g : Nat} {ty : TypeId} {cs : List Value} {bx b1 b0 : List Ow} : look e t = some (.pointer (some ⟨g, 0, none⟩)) → Rem bx (.cells g ty cs) b1 → Rems e ts b1 b0 → Rems e (t :: ts) bx b0
theorem Rem.sub {l l' : List Ow} {b : Ow} (h : Rem l b l') : l'.Sublist l := by
  induction h with
  | head => exact List.sublist_cons_self _ _
  | tail _ ih => exact ih.cons_cons _
theorem Rems.sub {e : Env} {ts : List Nat} {bx b0 : List Ow} (h : Rems e ts bx b0) : b0.Sublist bx := by
  induction h with
  | nil => exact List.Sublist.refl _
  | cons _ h2 _ ih => exact ih.trans h2.sub
theorem WC.drawR {P : Program} {n : Nat} {L : List Oper} {e : Env} {bx b0 : List Ow} {F : List Fct} {id : Nat} {Q : Post} (ts : List Nat) (hs : List Nat) (p : Plan) (hm : P.follows .mixedOrders = true) (hc : (Region.noSelect L.toArray && (chk L hs p (Array.replicate L.length false) && Nat.ble p.len L.length)) = true)
    (hr : Rems e ts bx b0) (h : WD P n L hs b0 F p e bx F (Q .normal)) : WC P n (.region id L.toArray true) e bx F Q := WC.drawB b0 hr.sub hs p hm hc h
inductive SubP : List Ow → List Ow → Prop where
  | nil (l : List Ow) : SubP [] l
  | cons {b : Ow} {B l l' : List Ow} : Rem l b l' → SubP B l' → SubP (b :: B) l
theorem SubP.ok {B l : List Ow} (h : SubP B l) : ∃ r, l.Perm (B ++ r) := by
  induction h with
  | nil l => exact ⟨l, .refl _⟩
  | cons h1 _ ih =>
    obtain ⟨r, h2⟩ := ih
    exact ⟨r, h1.perm.trans (h2.cons _)⟩
theorem OK.subP {fr : PH} {B l : List Ow} {F : List Fct} {w : World} (h : OK fr l F w) (hs : SubP B l) : OK fr B F w := by
  obtain ⟨r, h1⟩ := hs.ok
  exact (h.perm h1).drop (List.sublist_append_left _ _)
theorem WC.cutP {P : Program} {n : Nat} {e : Env} {bx : List Ow} {F : List Fct} {x y : Code} {Q : Post} {σ : Type} (E : σ → Env) (B : σ → List Ow) (G : σ → List Fct) (I : σ → Prop)
    (h1 : WC P n x e bx F (thenQ (fun e' bx' F' => ∃ s, I s ∧ Sub (E s) e' ∧ SubP (B s) bx' ∧ HasAll F' (G s)) Q))
    (h2 : ∀ s, I s → WC P n y (E s) (B s) (G s) Q) : WC P n x e bx F (thenQ (fun e bx F => WC P n y e bx F Q) Q) :=
  h1.mono fun ex e b f h => by
    cases ex <;> first | exact h | skip
    obtain ⟨s, h3, h4, h5, h6⟩ := h
    exact fun fr w0 a w hk hr ho => h2 s h3 fr w0 a w (hk.sub h4) hr ((ho.subP h5).hasAll h6.all)
theorem Ex2 {α1 : Type} {α2 : Type} {p : α1 × α2 → Prop} (a1 : α1) (a2 : α2) (h : p (a1, a2)) : ∃ s, p s := ⟨_, h⟩
theorem Ex7 {α1 : Type} {α2 : Type} {α3 : Type} {α4 : Type} {α5 : Type} {α6 : Type} {α7 : Type} {p : α1 × α2 × α3 × α4 × α5 × α6 × α7 → Prop} (a1 : α1) (a2 : α2) (a3 : α3) (a4 : α4) (a5 : α5) (a6 : α6) (a7 : α7) (h : p (a1, a2, a3, a4, a5, a6, a7)) : ∃ s, p s := ⟨_, h⟩
theorem Ex9 {α1 : Type} {α2 : Type} {α3 : Type} {α4 : Type} {α5 : Type} {α6 : Type} {α7 : Type} {α8 : Type} {α9 : Type} {p : α1 × α2 × α3 × α4 × α5 × α6 × α7 × α8 × α9 → Prop} (a1 : α1) (a2 : α2) (a3 : α3) (a4 : α4) (a5 : α5) (a6 : α6) (a7 : α7) (a8 : α8) (a9 : α9) (h : p (a1, a2, a3, a4, a5, a6, a7, a8, a9)) : ∃ s, p s := ⟨_, h⟩
end W
end Go.Proofs.YthggloiigkbfeaaGreat
namespace Go.Proofs.YthggloiigkbfeaaGreat
namespace S
open W Go.RowKit
attribute [local irreducible] WC WL WD YO LO LoopEnd W.Fin Scalar SliceT FieldAt Row ArrT AllocT KnS Has W.One SrcE IntT
theorem d104XHo {G G' : Prop} (h : G') (s : Bx G' → G := by
  intro h
  first | (apply WC.draw (id := 1) [0, 1, 2, 3, 4, 5, 6, 7, 8, 9] (.held 0 (.held 1 (.held 2 (.held 3 (.held 4 (.held 5 (.held 6 (.held 7 (.held 8 (.held 9 (.loud 10 (.loud 11 (.done))))))))))))) mixed (by kernel_rfl)) | fail
  exact Bx.h h) : G := s ⟨h⟩
theorem d142XHo {G G' : Prop} (h : G') (s : Bx G' → G := by
  intro h
  first | (apply WC.draw (id := 1) [0, 1, 2, 3, 4, 6, 7, 8, 9, 10, 11, 12] (.held 0 (.held 1 (.held 2 (.held 3 (.held 4 (.held 6 (.held 7 (.held 8 (.held 9 (.held 10 (.loud 5 (.held 11 (.held 12 (.loud 13 (.done))))))))))))))) mixed (by kernel_rfl)) | fail
  exact Bx.h h) : G := s ⟨h⟩
def hopStep (ts : List Tk) (M : Nat) (L : List Int) (bl : Int) (b : Bool) (n : Nat) : Bool × Bool := (b || decide (bl ≤ loadP ts M L n), !(b || decide (bl ≤ loadP ts M L n)))
def hopP (ts : List Tk) (M : Nat) (L : List Int) (bl : Int) : Bool := setsF (hopStep ts M L bl) (2 ^ M - 1) 1 (decide (bl ≤ L.getD 25 0))
set_option maxHeartbeats 1000000 in
set_option maxRecDepth 4000 in
theorem hop1_c (s p g1 g2 g3 : Nat) (v mp : Value) (avs : List Value) (ts : List Tk) (M : Nat) (goal : Int) (B L : List Int) (hg : AllGood M ts) (hn : ts.length ≤ 10) (hM : M ≤ 4) (hB : B.length = 26) (hL : PlOK L) (b : Bool) (on : Nat) (h1 : 1 ≤ on) (h2 : on < 16) :
    FnB Tryz.prog 142 ([.int .i64 on] ++ [ptr g1, ptr g2, ptr g3]) [Ow.cells g1 4 [.bool b]] [ce g2 81 [ptr s], ce g3 143 [ptr p], ce s 89 (srch v M goal B mp), ce p 85 (ints L), sT v avs ts, sA avs ts]
      (IsB (.bool (hopStep ts M L (B.getD 25 0) b on).2) [Ow.cells g1 4 [.bool (hopStep ts M L (B.getD 25 0) b on).1]]) := by
  refine fn_of [(0, .int .i64 on), (1, ptr g1), (2, ptr g2), (3, ptr g3)] 21 Tryz.func142 rfl Tryz.ntmps142 (by kernel_rfl) rfl suA fun h0 => ?_
  cases b with
  | true =>
    repeat' (first | refine go ?_ | refine goX ?_ | refine goB ?_ | (refine goG ?_; intro g) | (refine goV ?_; intro v) | refine goD ?_ | refine goXD ?_ | (refine goDG ?_; intro g) | (refine goDV ?_; intro v) | refine d142XHo ?_ | fail)
    refine WC.ret ?_
    exact Fin.p _ [] (ResE.t1 rfl rfl) meA slA .nil ⟨rfl, rfl, rfl⟩
  | false =>
    by_cases h : B.getD 25 0 ≤ loadP ts M L on
    · repeat' (first | refine go ?_ | refine goX ?_ | refine goB ?_ | (refine goG ?_; intro g) | (refine goV ?_; intro v) | refine goD ?_ | refine goXD ?_ | (refine goDG ?_; intro g) | (refine goDV ?_; intro v) | refine d142XHo ?_ | fail)
      first | refine WL.callV (load_c s p v mp avs ts M goal B L on hg hn hM hB hL h1 h2) ?_ | refine WD.callV (load_c s p v mp avs ts M goal B L on hg hn hM hB hL h1 h2) ?_
      repeat' (first | refine go ?_ | refine goX ?_ | refine goB ?_ | (refine goG ?_; intro g) | (refine goV ?_; intro v) | refine goD ?_ | refine goXD ?_ | (refine goDG ?_; intro g) | (refine goDV ?_; intro v) | refine d142XHo ?_ | fail)
      refine WC.ret ?_
      exact Fin.p _ [] (ResE.t1 rfl rfl) meA slA .nil ⟨by rw [hopStep, decide_eq_true h]; rfl, by rw [hopStep, decide_eq_true h]; rfl, rfl⟩
    · repeat' (first | refine go ?_ | refine goX ?_ | refine goB ?_ | (refine goG ?_; intro g) | (refine goV ?_; intro v) | refine goD ?_ | refine goXD ?_ | (refine goDG ?_; intro g) | (refine goDV ?_; intro v) | refine d142XHo ?_ | fail)
      first | refine WL.callV (load_c s p v mp avs ts M goal B L on hg hn hM hB hL h1 h2) ?_ | refine WD.callV (load_c s p v mp avs ts M goal B L on hg hn hM hB hL h1 h2) ?_
      repeat' (first | refine go ?_ | refine goX ?_ | refine goB ?_ | (refine goG ?_; intro g) | (refine goV ?_; intro v) | refine goD ?_ | refine goXD ?_ | (refine goDG ?_; intro g) | (refine goDV ?_; intro v) | refine d142XHo ?_ | fail)
      refine WC.ret ?_
      exact Fin.p _ [] (ResE.t1 rfl rfl) meA slA .nil ⟨by rw [hopStep, decide_eq_false h]; rfl, by rw [hopStep, decide_eq_false h]; rfl, rfl⟩
set_option maxHeartbeats 1000000 in
set_option maxRecDepth 4000 in
theorem hopeless_c (s p : Nat) (v mp : Value) (avs : List Value) (ts : List Tk) (M : Nat) (goal : Int) (B L : List Int) (hg : AllGood M ts) (hn : ts.length ≤ 10) (hM : M ≤ 4) (hB : B.length = 26) (hL : PlOK L) :
    FnB Tryz.prog 104 [ptr s, ptr p] [] [ce s 89 (srch v M goal B mp), ce p 85 (ints L), sT v avs ts, sA avs ts] (IsV (.bool (hopP ts M L (B.getD 25 0)))) := by
  refine fn_of [(0, ptr s), (1, ptr p)] 23 Tryz.func104 rfl Tryz.ntmps104 (by kernel_rfl) rfl suA fun h0 => ?_
  have hLl := hL.len
  have hpw : 2 ^ M ≤ 16 := by
    have : M = 0 ∨ M = 1 ∨ M = 2 ∨ M = 3 ∨ M = 4 := by omega
    rcases this with rfl | rfl | rfl | rfl | rfl <;> decide
  by_cases c : B.getD 25 0 ≤ L.getD 25 0
  all_goals
    repeat' (first | refine go ?_ | refine goX ?_ | refine goB ?_ | (refine goG ?_; intro g) | (refine goV ?_; intro v) | refine goD ?_ | refine goXD ?_ | (refine goDG ?_; intro g) | (refine goDV ?_; intro v) | refine d104XHo ?_ | fail)
    rename_i g2 g3
    refine WL.keep (t := 81) (by repeat (first | exact Rem.head | apply Rem.tail)) ?_
    refine WL.keep (t := 143) (by repeat (first | exact Rem.head | apply Rem.tail)) ?_
    have hs := sets_c M hM 142 [ptr g, ptr g2, ptr g3] [ce g2 81 [ptr s], ce g3 143 [ptr p], ce s 89 (srch v M goal B mp), ce p 85 (ints L), sT v avs ts, sA avs ts] (fun b : Bool => [Ow.cells g 4 [.bool b]]) (fun _ => True) (hopStep ts M L (B.getD 25 0)) (fun _ _ _ _ _ => trivial)
      (fun b on _ h1 h2 => hop1_c s p g g2 g3 v mp avs ts M goal B L hg hn hM hB hL b on h1 (by omega)) (decide (B.getD 25 0 ≤ L.getD 25 0)) trivial
    first | rw [decide_eq_true c] at hs | rw [decide_eq_false c] at hs
    refine WL.callG _ [] (.refl _) hs ?_
    rintro _ _ _ ⟨rfl, rfl, rfl⟩
    simp only [List.nil_append, List.append_nil]
    repeat' (first | refine go ?_ | refine goX ?_ | refine goB ?_ | (refine goG ?_; intro g) | (refine goV ?_; intro v) | refine goD ?_ | refine goXD ?_ | (refine goDG ?_; intro g) | (refine goDV ?_; intro v) | refine d104XHo ?_ | fail)
    refine WC.ret ?_
    exact Fin.v (ResE.t1 rfl rfl) meA (by first | rw [hopP, decide_eq_true c] | rw [hopP, decide_eq_false c])
end S
end Go.Proofs.YthggloiigkbfeaaGreat
