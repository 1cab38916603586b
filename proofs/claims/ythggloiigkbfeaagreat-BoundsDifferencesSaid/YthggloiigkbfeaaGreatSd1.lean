/- The law BoundsDifferences returns true for every input and leaves its arguments as they were. Conditions: none. -/
import Derived.Test.YthggloiigkbfeaaGreatProg
import Derived.Test.YthggloiigkbfeaaGreatBase1
import Derived.Test.YthggloiigkbfeaaGreatBase6
set_option linter.unusedVariables false
set_option linter.unusedSimpArgs false
set_option linter.unusedSectionVars false
namespace Go.Proofs.YthggloiigkbfeaaGreat
namespace T
open W
theorem s55 : SliceT Tryz.prog 55 54 2 := SliceT.of (by kernel_rfl)
theorem a54 : ArrT Tryz.prog 54 3 2 1 := ArrT.of (by kernel_rfl)
end T
end Go.Proofs.YthggloiigkbfeaaGreat
namespace Go.Proofs.YthggloiigkbfeaaGreat
open W Go.RowKit
variable {P : Program} {e : Env} {bx : List Ow} {F : List Fct} {ty t el len sz : TypeId} {v : Value} {x y : Operand} {K : RPost} {a b c d : Int} {j k : Nat}
theorem YO.buildP (h1 : ev e x = some (.int .i64 a)) (h2 : ev e y = some (.int .i64 b)) : YO Tryz.prog (.build 54 #[(0, x), (1, y)]) ty e bx F (.agg [Value.int .i64 a, .int .i64 b].toArray) := YO.build (parts := [(0, x), (1, y)]) (.cons h1 (.cons h2 .nil)) fun w => run_build w 54 _ _ (by kernel_rfl)
theorem LO.bsP2 (h1 : ev e x = some (.agg [Value.int .i64 a, .int .i64 b].toArray)) (h2 : ev e y = some (.agg [Value.int .i64 c, .int .i64 d].toArray)) (h : ∀ v, K v (Ow.slice v 54 2 (ints [a, b, c, d]) :: bx) F) : LO Tryz.prog (.buildSlice 55 2 #[(0, x), (1, y)]) ty e bx F K := LO.buildSlice (parts := [(0, x), (1, y)]) (us := [.agg [Value.int .i64 a, .int .i64 b].toArray, .agg [Value.int .i64 c, .int .i64 d].toArray]) (cs := ints [a, b, c, d]) (.cons h1 (.cons h2 .nil)) (fun _ => by kernel_rfl) rfl (by decide) h
theorem YO.ixEI {i : Int} (ht : ArrT P t el len sz) (hx : ev e x = some (.pointer (some (eaddr v j)))) (hy : ev e y = some (.int .i64 i)) (h0 : 0 ≤ i) (hk' : i < len) : YO P (.indexAddr t x y) ty e bx F (.pointer (some (eaddr v (j + i.toNat * sz)))) := by
  have := YO.ixB (P := P) (ty := ty) (bx := bx) (F := F) (b := (eaddr v j).block) (q := (eaddr v j).off) (k := i.toNat) ht (by rw [hx]; congr 2; exact congrArg some (by rw [show (⟨(eaddr v j).block, (eaddr v j).off, none⟩ : Addr) = eaddr v (j + 0) from eaddr_add v j 0]; rfl)) (by rw [hy]; congr 2; omega) (by omega)
  rwa [eaddr_add] at this
theorem KnS.oP (h : Ow.slice v el 2 (ints [a, b, c, d]) ∈ bx) : KnS bx F v 2 := KnS.o h rfl (by decide)
theorem YO.ldP {i : Int} (hs : Scalar P t) (hx : ev e x = some (.pointer (some (eaddr v (k * 2 + i.toNat * 1))))) (hb : Ow.slice v el 2 (ints [a, b, c, d]) ∈ bx) (hk : k < 2) (hi : i < 2) : YO P (.load t x) ty e bx F (.int .i64 ([a, b, c, d].getD (k * 2 + i.toNat * 1) 0)) :=
  YO.ldO hs hx hb (by
    have : k * 2 + i.toNat * 1 < [a, b, c, d].length := by show _ < 4; omega
    simp only [List.getElem?_map, List.getElem?_eq_getElem this, Option.map_some, List.getD_eq_getElem?_getD, Option.getD_some])
end Go.Proofs.YthggloiigkbfeaaGreat
namespace Go.Proofs.YthggloiigkbfeaaGreat
open W Go.RowKit
attribute [local irreducible] WC WL WD YO LO LoopEnd W.Fin Scalar SliceT FieldAt Row ArrT AllocT KnS Has W.One SrcE IntT
namespace L
set_option maxRecDepth 60000
theorem t0A {G : Prop} (h : G := by first | (((first | exact T.al3 | exact T.al4 | exact T.al22 | exact T.al26 | exact T.al32 | exact T.al35 | exact T.al37 | exact T.al38 | exact T.al59 | exact T.al103 | exact T.al109 | exact T.al111 | exact T.al114 | exact T.al161 | exact T.al164 | exact T.al94 | exact T.al116 | exact T.al159)); done) | fail) : G := h
theorem t1A {G : Prop} (h : G := by first | (((first | exact T.sc3 | exact T.sc4 | exact T.sc22 | exact T.sc26 | exact T.sc32 | exact T.sc38 | exact T.sc109 | exact T.sc111 | exact T.sc161 | exact T.sc164 | exact T.sc94 | exact T.sc116 | exact T.sc159)); done) | fail) : G := h
theorem t2A {G : Prop} (h : G := by first | (((first | exact T.z3 | exact T.z4 | exact T.z22 | exact T.z26 | exact T.z32 | exact T.z38 | exact T.z109 | exact T.z111 | exact T.z161 | exact T.z164 | exact T.z94 | exact T.z116 | exact T.z159)); done) | fail) : G := h
theorem t3A {G : Prop} (h : G := by first | (((first | exact T.f35_0 | exact T.f35_1 | exact T.f37_0 | exact T.f37_1 | exact T.f59_0 | exact T.f59_1 | exact T.f59_2 | exact T.f103_0 | exact T.f103_1 | exact T.f114_0 | exact T.f114_1)); done) | fail) : G := h
theorem t4A {G : Prop} (h : G := by first | (((first | exact T.s22 | exact T.s32 | exact T.s38 | exact T.s109 | exact T.s111 | exact T.s161 | exact T.s55)); done) | fail) : G := h
theorem t5A {G : Prop} (h : G := by first | (((first | exact T.e22 | exact T.e32 | exact T.e38 | exact T.e109 | exact T.e111 | exact T.e161)); done) | fail) : G := h
theorem t6A {G : Prop} (h : G := by first | (((first | exact T.r35 | exact T.r37 | exact T.r59 | exact T.r103 | exact T.r114)); done) | fail) : G := h
theorem t7A {G : Prop} (h : G := by first | (((first | exact T.u3 | exact T.u26 | exact T.u164)); done) | fail) : G := h
theorem t8A {G : Prop} (h : G := by first | (((first | exact T.a54)); done) | fail) : G := h
theorem knA {G : Prop} (h : G := by first | (((first | (focus (apply KnS.oT; exact meA; done)) | (focus (apply KnS.f; exact hmA; done)) | (focus (apply KnS.oI; exact meA; done)) | (focus (apply KnS.o1; exact meA; done)) | (focus (apply KnS.zd; exact hmA; done)) | (focus (apply KnS.q1; exact hmA; done)) | (focus (apply KnS.q2; exact hmA; done)) | (focus (apply KnS.fr; exact hmA; done)) | (focus (apply KnS.fb; exact hmA; done)) | (focus (apply KnS.fl; exact hmA; done)) | (focus (apply KnS.oR; exact meA; done)) | (focus (apply KnS.oB; exact meA; done)) | (focus (apply KnS.oL; exact meA; done)) | (focus (apply KnS.oP; exact meA; done)))); done) | fail) : G := h
theorem hsA {G : Prop} (h : G := by first | (((first | exact hmA | (focus (apply hasQ_P; exact hmA; done)) | (focus (apply hasQ_Q; exact hmA; done)) | exact hasZ_0 | exact hasQ_0 | (focus (apply hasZ_d; exact hmA; done)) | (focus (apply hasQ_d1; exact hmA; done)) | (focus (apply hasQ_d2; exact hmA; done)) | exact hasQ0w)); done) | fail) : G := h
theorem haA {G : Prop} (h : G := by first | ((repeat (first | exact HasAll.nil | (apply HasAll.cons; exact hsA))); done) | fail) : G := h
theorem hbA {G : Prop} (h : G := by first | ((repeat (first | exact HasAllB.nil | (apply HasAllB.cons; (first | (focus (apply HasB.oI; exact meA; done)) | (focus (apply HasB.c; exact meA; done)) | (focus (apply HasB.f; exact hsA; done)) | (focus (apply HasB.fR; exact meA; exact hmA; done)) | (focus (apply HasB.fB; exact meA; exact hmA; done)) | (focus (apply HasB.fL; exact meA; exact hmA; done)) | (focus (apply HasB.and; (focus (apply HasB.c; exact meA; done)); (focus (apply HasB.c; exact meA; done)); done)) | (focus (apply HasB.oT; exact meA; done)))))); done) | fail) : G := h
theorem ltA {G : Prop} (h : G := by first | (((first | (focus (apply Or.inr; constructor; (repeat (first | exact List.Sublist.refl _ | exact List.nil_sublist _ | apply List.Sublist.cons_cons | apply List.Sublist.cons)); (first | exact fun _ h => h | (intro f hf; (repeat (first | exact hf | apply List.Mem.tail)))); done)) | (apply Or.inl; kernel_rfl))); done) | fail) : G := h
theorem onA {G : Prop} (h : G := by first | (((first | exact ints_one _ | (intro u hu; simp only [List.mem_cons, List.not_mem_nil, or_false] at hu; first | (subst hu; rfl) | (rcases hu with rfl | rfl | rfl <;> rfl)))); done) | fail) : G := h
theorem leA {G : Prop} (h : G := by first | (((simp only [List.length_map, List.length_append, List.length_cons, List.length_nil, List.length_replicate, List.length_take]; omega)); done) | fail) : G := h
theorem y_indexAddr {G : Prop} (h : G := by first | (((first | (first | (first | (apply YO.ix1; exact t4A; exact rfl; exact rfl; exact knA; omega) | (apply YO.ix; exact t4A; exact rfl; exact rfl; exact knA; omega) | (apply YO.ix1'; exact t4A; exact rfl; exact rfl; exact knA; omega; omega) | (apply YO.ix'; exact t4A; exact rfl; exact rfl; exact knA; omega; omega) | (apply YO.ixN; exact t8A; exact rfl; exact rfl; omega; ((try simp only [Nat.zero_add, Nat.mul_one, Nat.reduceAdd, Nat.reduceMul]); exact rfl)) | (apply YO.ixNI; exact t8A; exact rfl; exact rfl; omega; omega; ((try simp only [Nat.zero_add, Nat.mul_one, Nat.reduceAdd, Nat.reduceMul]); exact rfl))) | (apply YO.ix1; exact t4A; exact rfl; exact rfl; exact knA; (first | omega | (simp only [List.length_set, List.length_replicate]; omega))) | (apply YO.ix; exact t4A; exact rfl; exact rfl; exact knA; (first | omega | (simp only [List.length_set, List.length_replicate]; omega))) | (apply YO.ix1'; exact t4A; exact rfl; exact rfl; exact knA; omega; (first | omega | (simp only [List.length_set, List.length_replicate]; omega)))) | (apply YO.ixEI; exact T.a54; exact rfl; exact rfl; decide; decide))); done) | fail) : G := h
theorem y_load {G : Prop} (h : G := by first | (((first | (apply YO.ldW; exact t6A; exact rfl; exact meA; exact rfl) | (apply YO.ld42; exact t6A; exact rfl; exact meA) | (apply YO.ld40; exact t6A; exact rfl; exact meA) | (apply YO.ld62; exact t6A; exact rfl; exact meA) | (apply YO.ld51; exact t6A; exact rfl; exact meA) | (apply YO.ldR; exact t6A; exact rfl; exact hmA; omega) | (apply YO.ldBd; exact t6A; exact rfl; exact hmA; omega) | (apply YO.ldBq; exact t6A; exact rfl; exact hmA; omega) | (apply YO.ldBf; exact t1A; exact rfl; exact hmA; omega) | (apply YO.ldBt; exact t1A; exact rfl; exact hmA; omega) | (apply YO.ldLn; exact t6A; exact rfl; exact hmA; omega) | (apply YO.ldLb; exact t1A; exact rfl; exact hmA; omega) | (apply YO.ldLq; exact t6A; exact rfl; exact hmA; omega) | (apply YO.ldWf; exact t6A; exact rfl; exact hmA; exact rfl) | (apply YO.ldOR; exact t6A; exact rfl; exact meA; omega) | (apply YO.ldOBd; exact t6A; exact rfl; exact meA; omega) | (apply YO.ldOBq; exact t6A; exact rfl; exact meA; omega) | (apply YO.ldOL; exact t6A; exact rfl; exact meA; omega) | (apply YO.ldOT; exact t1A; exact rfl; exact meA; omega) | (apply YO.ldOBf; exact t1A; exact rfl; exact meA; omega) | (apply YO.ldOBt; exact t1A; exact rfl; exact meA; omega) | (apply YO.ldP; exact t1A; exact rfl; exact meA; omega; decide) | (apply YO.ldWI0; exact t6A; exact rfl; exact meA; (first | omega | (simp only [List.length_set, List.length_replicate]; omega))) | (apply YO.ldWF0; exact t6A; exact rfl; exact hmA; (first | omega | (simp only [List.length_set, List.length_replicate]; omega))) | (apply YO.ldCI; exact t1A; exact rfl; exact meA; (first | omega | (simp only [List.length_set, List.length_replicate]; omega))) | (apply YO.ldFI; exact t1A; exact rfl; exact hmA; (first | omega | (simp only [List.length_set, List.length_replicate]; omega))) | (apply YO.ldF; exact t1A; exact rfl; exact hmA; exact rfl) | (apply YO.ldS; exact t1A; exact rfl; exact hsA; omega) | (apply YO.ldB; exact t1A; exact rfl; exact meA; exact rfl) | (apply YO.ldOI; exact t1A; exact rfl; exact meA; (first | omega | (simp only [List.length_set, List.length_replicate]; omega))))); done) | fail) : G := h
theorem y_slice {G : Prop} (h : G := by first | (((first | (first | (apply YO.sliceArr; exact t8A; exact rfl; exact rfl; omega; decide) | (apply YO.slice; exact t4A; exact rfl; exact knA; exact Or.inl ⟨rfl, rfl⟩; exact Or.inr ⟨_, rfl, rfl⟩; omega; omega) | (apply YO.slice; exact t4A; exact rfl; exact knA; exact Or.inr ⟨_, rfl, rfl⟩; exact Or.inl ⟨rfl, rfl⟩; omega; omega)) | (apply YO.slice3; exact t4A; exact rfl; exact knA; exact rfl; exact rfl; omega; omega))); done) | fail) : G := h
theorem y_eql {G : Prop} (h : G := by first | (((first | (first | (first | (apply YO.eql_t; exact rfl; exact rfl; omega) | (apply YO.eql_f; exact rfl; exact rfl; omega)) | (apply YO.eqNil_t; exact t4A; exact rfl; exact knA; assumption) | (apply YO.eqNil_f; exact t4A; exact rfl; exact knA; assumption)) | (apply YO.beq_t; exact bool_t; exact rfl; exact rfl; (first | rfl | assumption | decide)) | (apply YO.beq_f; exact bool_t; exact rfl; exact rfl; (first | rfl | assumption | decide)))); done) | fail) : G := h
theorem y_build {G : Prop} (h : G := by first | (((first | (apply YO.buildZ; exact rfl; exact rfl; exact knA) | exact YO.buildZ0 | exact YO.buildQ0 | (apply YO.buildQ1; exact rfl) | (apply YO.buildQ2; exact rfl; exact rfl) | (apply YO.buildLn; exact rfl; exact rfl) | (apply YO.buildSys; exact rfl; exact rfl; exact knA) | (apply YO.buildBd; exact rfl; exact rfl) | (apply YO.buildBd3; exact rfl; exact rfl; exact rfl) | (apply YO.buildSy1; exact rfl) | (apply YO.buildP; exact rfl; exact rfl))); done) | fail) : G := h
theorem y_len {G : Prop} (h : G := by first | (((apply YO.len; exact t4A; exact rfl; exact knA)); done) | fail) : G := h
theorem y_fieldAddr {G : Prop} (h : G := by first | (((first | (apply YO.fieldE; exact t3A; exact rfl) | (apply YO.fieldN; exact t3A; exact rfl; ((try simp only [Nat.zero_add, Nat.mul_one, Nat.reduceAdd, Nat.reduceMul]); exact rfl)))); done) | fail) : G := h
theorem y_conv {G : Prop} (h : G := by first | (((first | (first | (apply YO.convU; exact t7A; exact t7A; exact rfl; omega; omega) | (apply YO.convI; exact t7A; exact t7A; exact rfl; omega; omega)) | (apply YO.convN; exact t7A; exact t7A; exact rfl; omega; omega))); done) | fail) : G := h
theorem y_neq {G : Prop} (h : G := by first | (((first | (first | (apply YO.neq_t; exact rfl; exact rfl; omega) | (apply YO.neq_f; exact rfl; exact rfl; omega)) | (apply YO.bne_t; exact bool_t; exact rfl; exact rfl; (first | rfl | assumption | decide)) | (apply YO.bne_f; exact bool_t; exact rfl; exact rfl; (first | rfl | assumption | decide)))); done) | fail) : G := h
theorem y_makeFunc {G : Prop} (h : G := by first | (((apply YO.makeFunc; (repeat (first | exact Evs.nil | (apply Evs.cons; exact rfl))); (repeat (first | exact Evs.nil | (apply Evs.cons; exact rfl))))); done) | fail) : G := h
theorem y_quo {G : Prop} (h : G := by first | (((first | (apply YO.quo; exact rfl; exact rfl; omega; omega; omega) | (apply YO.uquo; exact rfl; exact rfl; omega; omega; omega))); done) | fail) : G := h
theorem y_and {G : Prop} (h : G := by first | (((first | (apply YO.and1; exact rfl; exact rfl; omega; omega) | (apply YO.and; exact rfl; exact rfl; omega; omega; omega; omega))); done) | fail) : G := h
theorem y_mul {G : Prop} (h : G := by first | (((first | (apply YO.mul; exact rfl; exact rfl; omega; omega) | (apply YO.umul; exact rfl; exact rfl; omega; omega))); done) | fail) : G := h
theorem y_rem {G : Prop} (h : G := by first | (((first | (apply YO.rem; exact rfl; exact rfl; omega; omega) | (apply YO.urem; exact rfl; exact rfl; omega; omega))); done) | fail) : G := h
theorem y_add {G : Prop} (h : G := by first | (((first | (apply YO.inc; exact rfl; exact rfl; omega) | (apply YO.add; exact rfl; exact rfl; omega; omega))); done) | fail) : G := h
theorem y_lss {G : Prop} (h : G := by first | (((first | (apply YO.lss_t; exact rfl; exact rfl; omega) | (apply YO.lss_f; exact rfl; exact rfl; omega))); done) | fail) : G := h
theorem y_gtr {G : Prop} (h : G := by first | (((first | (apply YO.gtr_t; exact rfl; exact rfl; omega) | (apply YO.gtr_f; exact rfl; exact rfl; omega))); done) | fail) : G := h
theorem y_geq {G : Prop} (h : G := by first | (((first | (apply YO.geq_t; exact rfl; exact rfl; omega) | (apply YO.geq_f; exact rfl; exact rfl; omega))); done) | fail) : G := h
theorem y_leq {G : Prop} (h : G := by first | (((first | (apply YO.leq_t; exact rfl; exact rfl; omega) | (apply YO.leq_f; exact rfl; exact rfl; omega))); done) | fail) : G := h
theorem y_shl {G : Prop} (h : G := by first | (((apply YO.shl'; exact rfl; exact rfl; omega; omega; (first | omega | decide); (first | omega | decide))); done) | fail) : G := h
theorem y_uneg {G : Prop} (h : G := by first | (((first | (apply YO.neg; exact rfl; omega; omega) | (apply YO.uneg; exact rfl; omega; omega))); done) | fail) : G := h
theorem y_pick {G : Prop} (h : G := by first | (((first | (apply YO.pick_t; exact rfl; exact rfl) | (apply YO.pick_f; exact rfl; exact rfl))); done) | fail) : G := h
theorem y_unot {G : Prop} (h : G := by first | (((first | (apply YO.not_t; exact rfl) | (apply YO.not_f; exact rfl))); done) | fail) : G := h
theorem y_or {G : Prop} (h : G := by first | (((apply YO.or; exact rfl; exact rfl; omega; omega; omega; omega)); done) | fail) : G := h
theorem go {G G' : Prop} (h : G') (s : Bx G' → G := by
  intro h
  (first
    | apply WL.nil
    | (apply WL.skg; exact rfl; exact rfl)
    | (apply WL.skg0; exact rfl)
    | (apply WL.k_move; (apply YO.move; exact rfl); exact rfl; exact rfl)
    | (apply WL.k_assign; (apply YO.assign; exact rfl); exact rfl; exact rfl)
    | (apply WL.k_lss; exact y_lss; exact rfl; exact rfl)
    | (apply WL.k_add; exact y_add; exact rfl; exact rfl)
    | (apply WL.k_len; exact y_len; exact rfl; exact rfl)
    | (apply WL.k_indexAddr; exact y_indexAddr; exact rfl; exact rfl)
    | (apply WL.k_load; exact y_load; exact rfl; exact rfl)
    | (apply WL.k_pick; exact y_pick; exact rfl; exact rfl)
    | (apply WL.k_fieldAddr; exact y_fieldAddr; exact rfl; exact rfl)
    | (apply WL.k_eql; exact y_eql; exact rfl; exact rfl)
    | (apply WL.k_neq; exact y_neq; exact rfl; exact rfl)
    | (apply WL.k_nil; (apply YO.nil; exact rfl); exact rfl; exact rfl)
    | (apply WL.k_extract; (apply YO.extract; exact rfl; exact rfl); exact rfl; exact rfl)
    | (apply WL.k_gtr; exact y_gtr; exact rfl; exact rfl)
    | (apply WL.k_geq; exact y_geq; exact rfl; exact rfl)
    | (apply WL.k_leq; exact y_leq; exact rfl; exact rfl)
    | (apply WL.k_sub; (apply YO.sub; exact rfl; exact rfl; omega; omega); exact rfl; exact rfl)
    | (apply WL.k_mul; exact y_mul; exact rfl; exact rfl)
    | (apply WL.k_rem; exact y_rem; exact rfl; exact rfl)
    | (apply WL.k_quo; exact y_quo; exact rfl; exact rfl)
    | (apply WL.k_unot; exact y_unot; exact rfl; exact rfl)
    | (apply WL.k_uneg; exact y_uneg; exact rfl; exact rfl)
    | (apply WL.k_max; (apply YO.max; exact rfl; exact rfl); exact rfl; exact rfl)
    | (apply WL.k_min; (apply YO.min; exact rfl; exact rfl); exact rfl; exact rfl)
    | (apply WL.k_makeFunc; exact y_makeFunc; exact rfl; exact rfl)
    | (apply WL.k_conv; exact y_conv; exact rfl; exact rfl)
    | (apply WL.k_shl; exact y_shl; exact rfl; exact rfl)
    | (apply WL.k_shr; (apply YO.shr'; exact rfl; exact rfl; omega; omega); exact rfl; exact rfl)
    | (apply WL.k_and; exact y_and; exact rfl; exact rfl)
    | (apply WL.k_or; exact y_or; exact rfl; exact rfl)
    | (apply WL.k_andNot; (apply YO.anot; exact rfl; exact rfl); exact rfl; exact rfl)
    | (apply WL.k_slice; exact y_slice; exact rfl; exact rfl)
    | (apply WL.k_build; exact y_build; exact rfl; exact rfl)
    | apply WC.seq
    | apply WC.region
    | apply WC.block
    | (apply WC.cond_t; exact rfl)
    | (apply WC.cond_f; exact rfl)
    | apply WC.exit
    | apply WC.skip
    | apply WC.label
    | (apply WL.kl_store; rotate_left; exact rfl; (first | (apply LO.storeOI; exact rfl; exact rfl; exact t2A; exact seA; (first | omega | (simp only [List.length_set]; omega))) | (apply LO.storeQ; exact rfl; exact rfl; exact t6A; exact hmA; exact seA; omega) | (apply LO.storeL1; exact rfl; exact rfl; exact t6A; exact hmA; exact seA; omega) | (apply LO.storeOT; exact rfl; exact rfl; exact t2A; (first | exact One.lit rfl rfl | (apply One.sl; exact knA)); exact seA; omega) | (apply LO.storeB2; exact rfl; exact rfl; exact t6A; exact hmA; exact seA) | (apply LO.storeBf; exact rfl; exact rfl; exact t2A; exact seA; omega) | (apply LO.storeBt; exact rfl; exact rfl; exact t2A; exact seA; omega) | (apply LO.storeBq; exact rfl; exact rfl; exact t6A; exact hmA; exact seA; omega) | (apply LO.storeI; exact rfl; exact rfl; exact t2A; exact seA; (first | omega | (simp only [List.length_set, List.length_replicate]; omega))) | (apply LO.storeWI; exact rfl; exact rfl; exact seA; exact t6A; (first | omega | (simp only [List.length_set, List.length_replicate]; omega)); (first | (simp only [List.length_map, List.length_set, List.length_replicate, ints]; omega) | rfl)) | (apply LO.store1; exact rfl; exact rfl; exact t2A; (first | exact One.lit rfl rfl | (apply One.sl; exact knA)); exact seA; (first | (simp only [List.length_cons, List.length_nil]; omega) | (simp; omega)); (first | (simp only [List.set_cons_succ, List.set_cons_zero]; exact rfl) | exact rfl)) | (apply LO.storeO1; exact rfl; exact rfl; exact t2A; (first | exact One.lit rfl rfl | (apply One.sl; exact knA)); exact seA; (first | (simp only [List.length_cons, List.length_nil]; omega) | (simp; omega)); (first | (simp only [List.set_cons_succ, List.set_cons_zero]; exact rfl) | exact rfl)) | (apply LO.storeL; exact rfl; exact rfl; exact seA; exact t6A; exact rfl; exact rfl; (repeat (first | exact OneL.nil | (apply OneL.cons; (first | exact One.lit rfl rfl | (apply One.sl; exact knA)))))))))
  repeat (first
    | apply WL.nil
    | (apply WL.skg; exact rfl; exact rfl)
    | (apply WL.skg0; exact rfl)
    | (apply WL.k_move; (apply YO.move; exact rfl); exact rfl; exact rfl)
    | (apply WL.k_assign; (apply YO.assign; exact rfl); exact rfl; exact rfl)
    | (apply WL.k_lss; exact y_lss; exact rfl; exact rfl)
    | (apply WL.k_add; exact y_add; exact rfl; exact rfl)
    | (apply WL.k_len; exact y_len; exact rfl; exact rfl)
    | (apply WL.k_indexAddr; exact y_indexAddr; exact rfl; exact rfl)
    | (apply WL.k_load; exact y_load; exact rfl; exact rfl)
    | (apply WL.k_pick; exact y_pick; exact rfl; exact rfl)
    | (apply WL.k_fieldAddr; exact y_fieldAddr; exact rfl; exact rfl)
    | (apply WL.k_eql; exact y_eql; exact rfl; exact rfl)
    | (apply WL.k_neq; exact y_neq; exact rfl; exact rfl)
    | (apply WL.k_nil; (apply YO.nil; exact rfl); exact rfl; exact rfl)
    | (apply WL.k_extract; (apply YO.extract; exact rfl; exact rfl); exact rfl; exact rfl)
    | (apply WL.k_gtr; exact y_gtr; exact rfl; exact rfl)
    | (apply WL.k_geq; exact y_geq; exact rfl; exact rfl)
    | (apply WL.k_leq; exact y_leq; exact rfl; exact rfl)
    | (apply WL.k_sub; (apply YO.sub; exact rfl; exact rfl; omega; omega); exact rfl; exact rfl)
    | (apply WL.k_mul; exact y_mul; exact rfl; exact rfl)
    | (apply WL.k_rem; exact y_rem; exact rfl; exact rfl)
    | (apply WL.k_quo; exact y_quo; exact rfl; exact rfl)
    | (apply WL.k_unot; exact y_unot; exact rfl; exact rfl)
    | (apply WL.k_uneg; exact y_uneg; exact rfl; exact rfl)
    | (apply WL.k_max; (apply YO.max; exact rfl; exact rfl); exact rfl; exact rfl)
    | (apply WL.k_min; (apply YO.min; exact rfl; exact rfl); exact rfl; exact rfl)
    | (apply WL.k_makeFunc; exact y_makeFunc; exact rfl; exact rfl)
    | (apply WL.k_conv; exact y_conv; exact rfl; exact rfl)
    | (apply WL.k_shl; exact y_shl; exact rfl; exact rfl)
    | (apply WL.k_shr; (apply YO.shr'; exact rfl; exact rfl; omega; omega); exact rfl; exact rfl)
    | (apply WL.k_and; exact y_and; exact rfl; exact rfl)
    | (apply WL.k_or; exact y_or; exact rfl; exact rfl)
    | (apply WL.k_andNot; (apply YO.anot; exact rfl; exact rfl); exact rfl; exact rfl)
    | (apply WL.k_slice; exact y_slice; exact rfl; exact rfl)
    | (apply WL.k_build; exact y_build; exact rfl; exact rfl)
    | apply WC.seq
    | apply WC.region
    | apply WC.block
    | (apply WC.cond_t; exact rfl)
    | (apply WC.cond_f; exact rfl)
    | apply WC.exit
    | apply WC.skip
    | apply WC.label
    | (apply WL.kl_store; rotate_left; exact rfl; (first | (apply LO.storeOI; exact rfl; exact rfl; exact t2A; exact seA; (first | omega | (simp only [List.length_set]; omega))) | (apply LO.storeQ; exact rfl; exact rfl; exact t6A; exact hmA; exact seA; omega) | (apply LO.storeL1; exact rfl; exact rfl; exact t6A; exact hmA; exact seA; omega) | (apply LO.storeOT; exact rfl; exact rfl; exact t2A; (first | exact One.lit rfl rfl | (apply One.sl; exact knA)); exact seA; omega) | (apply LO.storeB2; exact rfl; exact rfl; exact t6A; exact hmA; exact seA) | (apply LO.storeBf; exact rfl; exact rfl; exact t2A; exact seA; omega) | (apply LO.storeBt; exact rfl; exact rfl; exact t2A; exact seA; omega) | (apply LO.storeBq; exact rfl; exact rfl; exact t6A; exact hmA; exact seA; omega) | (apply LO.storeI; exact rfl; exact rfl; exact t2A; exact seA; (first | omega | (simp only [List.length_set, List.length_replicate]; omega))) | (apply LO.storeWI; exact rfl; exact rfl; exact seA; exact t6A; (first | omega | (simp only [List.length_set, List.length_replicate]; omega)); (first | (simp only [List.length_map, List.length_set, List.length_replicate, ints]; omega) | rfl)) | (apply LO.store1; exact rfl; exact rfl; exact t2A; (first | exact One.lit rfl rfl | (apply One.sl; exact knA)); exact seA; (first | (simp only [List.length_cons, List.length_nil]; omega) | (simp; omega)); (first | (simp only [List.set_cons_succ, List.set_cons_zero]; exact rfl) | exact rfl)) | (apply LO.storeO1; exact rfl; exact rfl; exact t2A; (first | exact One.lit rfl rfl | (apply One.sl; exact knA)); exact seA; (first | (simp only [List.length_cons, List.length_nil]; omega) | (simp; omega)); (first | (simp only [List.set_cons_succ, List.set_cons_zero]; exact rfl) | exact rfl)) | (apply LO.storeL; exact rfl; exact rfl; exact seA; exact t6A; exact rfl; exact rfl; (repeat (first | exact OneL.nil | (apply OneL.cons; (first | exact One.lit rfl rfl | (apply One.sl; exact knA)))))))))
  exact Bx.h h) : G := s ⟨h⟩
theorem goD {G G' : Prop} (h : G') (s : Bx G' → G := by
  intro h
  (first
    | apply WD.nil
    | (apply WD.skg; exact rfl; exact rfl; exact rfl)
    | (apply WD.skgl; exact rfl; exact rfl; exact rfl)
    | (apply WD.skgl0; exact rfl; exact rfl)
    | (apply WD.k_move; exact rfl; (apply YO.move; exact rfl); exact rfl; exact rfl)
    | (apply WD.k_assign; exact rfl; (apply YO.assign; exact rfl); exact rfl; exact rfl)
    | (apply WD.k_lss; exact rfl; exact y_lss; exact rfl; exact rfl)
    | (apply WD.k_add; exact rfl; exact y_add; exact rfl; exact rfl)
    | (apply WD.k_len; exact rfl; exact y_len; exact rfl; exact rfl)
    | (apply WD.k_indexAddr; exact rfl; exact y_indexAddr; exact rfl; exact rfl)
    | (apply WD.k_load; exact rfl; exact y_load; exact rfl; exact rfl)
    | (apply WD.k_pick; exact rfl; exact y_pick; exact rfl; exact rfl)
    | (apply WD.k_fieldAddr; exact rfl; exact y_fieldAddr; exact rfl; exact rfl)
    | (apply WD.k_eql; exact rfl; exact y_eql; exact rfl; exact rfl)
    | (apply WD.k_neq; exact rfl; exact y_neq; exact rfl; exact rfl)
    | (apply WD.k_nil; exact rfl; (apply YO.nil; exact rfl); exact rfl; exact rfl)
    | (apply WD.k_extract; exact rfl; (apply YO.extract; exact rfl; exact rfl); exact rfl; exact rfl)
    | (apply WD.k_gtr; exact rfl; exact y_gtr; exact rfl; exact rfl)
    | (apply WD.k_geq; exact rfl; exact y_geq; exact rfl; exact rfl)
    | (apply WD.k_leq; exact rfl; exact y_leq; exact rfl; exact rfl)
    | (apply WD.k_sub; exact rfl; (apply YO.sub; exact rfl; exact rfl; omega; omega); exact rfl; exact rfl)
    | (apply WD.k_mul; exact rfl; exact y_mul; exact rfl; exact rfl)
    | (apply WD.k_rem; exact rfl; exact y_rem; exact rfl; exact rfl)
    | (apply WD.k_quo; exact rfl; exact y_quo; exact rfl; exact rfl)
    | (apply WD.k_unot; exact rfl; exact y_unot; exact rfl; exact rfl)
    | (apply WD.k_uneg; exact rfl; exact y_uneg; exact rfl; exact rfl)
    | (apply WD.k_max; exact rfl; (apply YO.max; exact rfl; exact rfl); exact rfl; exact rfl)
    | (apply WD.k_min; exact rfl; (apply YO.min; exact rfl; exact rfl); exact rfl; exact rfl)
    | (apply WD.k_makeFunc; exact rfl; exact y_makeFunc; exact rfl; exact rfl)
    | (apply WD.k_conv; exact rfl; exact y_conv; exact rfl; exact rfl)
    | (apply WD.k_shl; exact rfl; exact y_shl; exact rfl; exact rfl)
    | (apply WD.k_shr; exact rfl; (apply YO.shr'; exact rfl; exact rfl; omega; omega); exact rfl; exact rfl)
    | (apply WD.k_and; exact rfl; exact y_and; exact rfl; exact rfl)
    | (apply WD.k_or; exact rfl; exact y_or; exact rfl; exact rfl)
    | (apply WD.k_andNot; exact rfl; (apply YO.anot; exact rfl; exact rfl); exact rfl; exact rfl)
    | (apply WD.k_slice; exact rfl; exact y_slice; exact rfl; exact rfl)
    | (apply WD.k_build; exact rfl; exact y_build; exact rfl; exact rfl)
    | (apply WD.kl_store; exact rfl; rotate_left; exact rfl; (first | (apply LO.storeOI; exact rfl; exact rfl; exact t2A; exact seA; (first | omega | (simp only [List.length_set]; omega))) | (apply LO.storeQ; exact rfl; exact rfl; exact t6A; exact hmA; exact seA; omega) | (apply LO.storeL1; exact rfl; exact rfl; exact t6A; exact hmA; exact seA; omega) | (apply LO.storeOT; exact rfl; exact rfl; exact t2A; (first | exact One.lit rfl rfl | (apply One.sl; exact knA)); exact seA; omega) | (apply LO.storeB2; exact rfl; exact rfl; exact t6A; exact hmA; exact seA) | (apply LO.storeBf; exact rfl; exact rfl; exact t2A; exact seA; omega) | (apply LO.storeBt; exact rfl; exact rfl; exact t2A; exact seA; omega) | (apply LO.storeBq; exact rfl; exact rfl; exact t6A; exact hmA; exact seA; omega) | (apply LO.storeI; exact rfl; exact rfl; exact t2A; exact seA; (first | omega | (simp only [List.length_set, List.length_replicate]; omega))) | (apply LO.storeWI; exact rfl; exact rfl; exact seA; exact t6A; (first | omega | (simp only [List.length_set, List.length_replicate]; omega)); (first | (simp only [List.length_map, List.length_set, List.length_replicate, ints]; omega) | rfl)) | (apply LO.store1; exact rfl; exact rfl; exact t2A; (first | exact One.lit rfl rfl | (apply One.sl; exact knA)); exact seA; (first | (simp only [List.length_cons, List.length_nil]; omega) | (simp; omega)); (first | (simp only [List.set_cons_succ, List.set_cons_zero]; exact rfl) | exact rfl)) | (apply LO.storeO1; exact rfl; exact rfl; exact t2A; (first | exact One.lit rfl rfl | (apply One.sl; exact knA)); exact seA; (first | (simp only [List.length_cons, List.length_nil]; omega) | (simp; omega)); (first | (simp only [List.set_cons_succ, List.set_cons_zero]; exact rfl) | exact rfl)) | (apply LO.storeL; exact rfl; exact rfl; exact seA; exact t6A; exact rfl; exact rfl; (repeat (first | exact OneL.nil | (apply OneL.cons; (first | exact One.lit rfl rfl | (apply One.sl; exact knA))))))); constructor; exact ltA))
  repeat (first
    | apply WD.nil
    | (apply WD.skg; exact rfl; exact rfl; exact rfl)
    | (apply WD.skgl; exact rfl; exact rfl; exact rfl)
    | (apply WD.skgl0; exact rfl; exact rfl)
    | (apply WD.k_move; exact rfl; (apply YO.move; exact rfl); exact rfl; exact rfl)
    | (apply WD.k_assign; exact rfl; (apply YO.assign; exact rfl); exact rfl; exact rfl)
    | (apply WD.k_lss; exact rfl; exact y_lss; exact rfl; exact rfl)
    | (apply WD.k_add; exact rfl; exact y_add; exact rfl; exact rfl)
    | (apply WD.k_len; exact rfl; exact y_len; exact rfl; exact rfl)
    | (apply WD.k_indexAddr; exact rfl; exact y_indexAddr; exact rfl; exact rfl)
    | (apply WD.k_load; exact rfl; exact y_load; exact rfl; exact rfl)
    | (apply WD.k_pick; exact rfl; exact y_pick; exact rfl; exact rfl)
    | (apply WD.k_fieldAddr; exact rfl; exact y_fieldAddr; exact rfl; exact rfl)
    | (apply WD.k_eql; exact rfl; exact y_eql; exact rfl; exact rfl)
    | (apply WD.k_neq; exact rfl; exact y_neq; exact rfl; exact rfl)
    | (apply WD.k_nil; exact rfl; (apply YO.nil; exact rfl); exact rfl; exact rfl)
    | (apply WD.k_extract; exact rfl; (apply YO.extract; exact rfl; exact rfl); exact rfl; exact rfl)
    | (apply WD.k_gtr; exact rfl; exact y_gtr; exact rfl; exact rfl)
    | (apply WD.k_geq; exact rfl; exact y_geq; exact rfl; exact rfl)
    | (apply WD.k_leq; exact rfl; exact y_leq; exact rfl; exact rfl)
    | (apply WD.k_sub; exact rfl; (apply YO.sub; exact rfl; exact rfl; omega; omega); exact rfl; exact rfl)
    | (apply WD.k_mul; exact rfl; exact y_mul; exact rfl; exact rfl)
    | (apply WD.k_rem; exact rfl; exact y_rem; exact rfl; exact rfl)
    | (apply WD.k_quo; exact rfl; exact y_quo; exact rfl; exact rfl)
    | (apply WD.k_unot; exact rfl; exact y_unot; exact rfl; exact rfl)
    | (apply WD.k_uneg; exact rfl; exact y_uneg; exact rfl; exact rfl)
    | (apply WD.k_max; exact rfl; (apply YO.max; exact rfl; exact rfl); exact rfl; exact rfl)
    | (apply WD.k_min; exact rfl; (apply YO.min; exact rfl; exact rfl); exact rfl; exact rfl)
    | (apply WD.k_makeFunc; exact rfl; exact y_makeFunc; exact rfl; exact rfl)
    | (apply WD.k_conv; exact rfl; exact y_conv; exact rfl; exact rfl)
    | (apply WD.k_shl; exact rfl; exact y_shl; exact rfl; exact rfl)
    | (apply WD.k_shr; exact rfl; (apply YO.shr'; exact rfl; exact rfl; omega; omega); exact rfl; exact rfl)
    | (apply WD.k_and; exact rfl; exact y_and; exact rfl; exact rfl)
    | (apply WD.k_or; exact rfl; exact y_or; exact rfl; exact rfl)
    | (apply WD.k_andNot; exact rfl; (apply YO.anot; exact rfl; exact rfl); exact rfl; exact rfl)
    | (apply WD.k_slice; exact rfl; exact y_slice; exact rfl; exact rfl)
    | (apply WD.k_build; exact rfl; exact y_build; exact rfl; exact rfl)
    | (apply WD.kl_store; exact rfl; rotate_left; exact rfl; (first | (apply LO.storeOI; exact rfl; exact rfl; exact t2A; exact seA; (first | omega | (simp only [List.length_set]; omega))) | (apply LO.storeQ; exact rfl; exact rfl; exact t6A; exact hmA; exact seA; omega) | (apply LO.storeL1; exact rfl; exact rfl; exact t6A; exact hmA; exact seA; omega) | (apply LO.storeOT; exact rfl; exact rfl; exact t2A; (first | exact One.lit rfl rfl | (apply One.sl; exact knA)); exact seA; omega) | (apply LO.storeB2; exact rfl; exact rfl; exact t6A; exact hmA; exact seA) | (apply LO.storeBf; exact rfl; exact rfl; exact t2A; exact seA; omega) | (apply LO.storeBt; exact rfl; exact rfl; exact t2A; exact seA; omega) | (apply LO.storeBq; exact rfl; exact rfl; exact t6A; exact hmA; exact seA; omega) | (apply LO.storeI; exact rfl; exact rfl; exact t2A; exact seA; (first | omega | (simp only [List.length_set, List.length_replicate]; omega))) | (apply LO.storeWI; exact rfl; exact rfl; exact seA; exact t6A; (first | omega | (simp only [List.length_set, List.length_replicate]; omega)); (first | (simp only [List.length_map, List.length_set, List.length_replicate, ints]; omega) | rfl)) | (apply LO.store1; exact rfl; exact rfl; exact t2A; (first | exact One.lit rfl rfl | (apply One.sl; exact knA)); exact seA; (first | (simp only [List.length_cons, List.length_nil]; omega) | (simp; omega)); (first | (simp only [List.set_cons_succ, List.set_cons_zero]; exact rfl) | exact rfl)) | (apply LO.storeO1; exact rfl; exact rfl; exact t2A; (first | exact One.lit rfl rfl | (apply One.sl; exact knA)); exact seA; (first | (simp only [List.length_cons, List.length_nil]; omega) | (simp; omega)); (first | (simp only [List.set_cons_succ, List.set_cons_zero]; exact rfl) | exact rfl)) | (apply LO.storeL; exact rfl; exact rfl; exact seA; exact t6A; exact rfl; exact rfl; (repeat (first | exact OneL.nil | (apply OneL.cons; (first | exact One.lit rfl rfl | (apply One.sl; exact knA))))))); constructor; exact ltA))
  exact Bx.h h) : G := s ⟨h⟩
theorem goG {G G' : Prop} (h : G') (s : Bx G' → G := by
  intro h
  (first
    | (apply WL.kl_alloc; rotate_left; exact rfl; exact rfl; apply LO.alloc'; (first | exact t0A))
    | (apply WL.kl_box; rotate_left; exact rfl; exact rfl; (first | (apply LO.boxA; exact rfl) | (apply LO.box1; exact rfl; (first | exact One.lit rfl rfl | (apply One.sl; exact knA))))))
  exact Bx.h h) : G := s ⟨h⟩
theorem goV {G G' : Prop} (h : G') (s : Bx G' → G := by
  intro h
  (first
    | (apply WL.kl_ms; rotate_left; exact rfl; exact rfl; (apply LO.makeI; exact rfl; exact rfl; (repeat (first | (with_reducible apply NatI.add) | (with_reducible exact NatI.one) | exact NatI.cast _)); omega))
    | (apply WL.kl_ms; rotate_left; exact rfl; exact rfl; (apply LO.makeR; exact rfl; exact rfl; (repeat (first | (with_reducible apply NatI.add) | (with_reducible exact NatI.one) | exact NatI.cast _)); omega))
    | (apply WL.kl_ms; rotate_left; exact rfl; exact rfl; (apply LO.makeLn; exact rfl; exact rfl; (repeat (first | (with_reducible apply NatI.add) | (with_reducible exact NatI.one) | exact NatI.cast _)); omega))
    | (apply WL.kl_ms; rotate_left; exact rfl; exact rfl; (apply LO.makeTT; exact rfl; exact rfl; (repeat (first | (with_reducible apply NatI.add) | (with_reducible exact NatI.one) | exact NatI.cast _)); omega))
    | (apply WL.kl_bs; rotate_left; exact rfl; exact rfl; (apply LO.bsI3; exact rfl; exact rfl; exact rfl))
    | (apply WL.kl_bs; rotate_left; exact rfl; exact rfl; (apply LO.bsI2; exact rfl; exact rfl))
    | (apply WL.kl_bs; rotate_left; exact rfl; exact rfl; (apply LO.bsR0))
    | (apply WL.kl_bs; rotate_left; exact rfl; exact rfl; (apply LO.bsB0))
    | (apply WL.kl_bs; rotate_left; exact rfl; exact rfl; (apply LO.bsR1; exact rfl))
    | (apply WL.kl_bs; rotate_left; exact rfl; exact rfl; (apply LO.bsB1; exact rfl))
    | (apply WL.kl_bs; rotate_left; exact rfl; exact rfl; (apply LO.bsT1; exact rfl; exact knA))
    | (apply WL.kl_bs; rotate_left; exact rfl; exact rfl; (apply LO.bsB3; exact rfl; exact rfl; exact rfl))
    | (apply WL.kl_bs; rotate_left; exact rfl; exact rfl; (apply LO.bsR3; exact rfl; exact rfl; exact rfl))
    | (apply WL.kl_bs; rotate_left; exact rfl; exact rfl; (apply LO.bsP2; exact rfl; exact rfl))
    | (apply WL.kl_app; rotate_left; exact rfl; exact rfl; (apply LO.appTT; exact rfl; exact rfl; exact meA; (apply One.sl; exact knA); (intro _; exact seA); omega))
    | (apply WL.kl_app; rotate_left; exact rfl; exact rfl; (apply LO.appRo; exact rfl; exact rfl; exact meA; exact hmA; omega; (intro _; exact seA); omega))
    | (apply WL.kl_app; rotate_left; exact rfl; exact rfl; (apply LO.appBf; exact rfl; exact rfl; exact hmA; (intro _; exact seA); omega))
    | (apply WL.kl_app; rotate_left; exact rfl; exact rfl; (apply LO.appR1; exact rfl; exact rfl; exact meA; exact hmA; (intro _; exact seA); omega))
    | (apply WL.kl_app; rotate_left; exact rfl; exact rfl; (apply LO.appB1; exact rfl; exact rfl; exact meA; exact hmA; (intro _; exact seA); omega))
    | (apply WL.kl_app; rotate_left; exact rfl; exact rfl; (apply LO.appT1; exact rfl; exact rfl; exact meA; (first | exact One.lit rfl rfl | (apply One.sl; exact knA)); (intro _; exact seA); (simp only [List.length_append, List.length_cons, List.length_nil, List.length_map, List.length_range]; omega)))
    | (apply WL.kl_bs; rotate_left; exact rfl; exact rfl; apply LO.bs1; exact t4A; (repeat (first | exact EvP.nil | (apply EvP.cons; exact rfl))); (intro _; kernel_rfl); exact rfl; omega)
    | (apply WL.kl_app; rotate_left; exact rfl; exact rfl; apply LO.app; exact t5A; exact rfl; exact rfl; (first | (focus (apply SrcE.ints; exact hmA; done)) | (focus (apply SrcE.own1; exact meA; done)) | (focus (apply SrcE.one; exact meA; exact rfl; decide; done))); (intro v; exact seA); exact onA; exact leA; exact leA))
  exact Bx.h h) : G := s ⟨h⟩
theorem goDG {G G' : Prop} (h : G') (s : Bx G' → G := by
  intro h
  (first
    | (apply WD.kl_alloc; exact rfl; rotate_left; exact rfl; exact rfl; apply LO.alloc'; (first | exact t0A); apply allAnd; (intro _; exact ltA))
    | (apply WD.kl_box; exact rfl; rotate_left; exact rfl; exact rfl; (first | (apply LO.boxA; exact rfl) | (apply LO.box1; exact rfl; (first | exact One.lit rfl rfl | (apply One.sl; exact knA)))); apply allAnd; (intro _; exact ltA)))
  exact Bx.h h) : G := s ⟨h⟩
theorem goDV {G G' : Prop} (h : G') (s : Bx G' → G := by
  intro h
  (first
    | (apply WD.kl_ms; exact rfl; rotate_left; exact rfl; exact rfl; (apply LO.makeI; exact rfl; exact rfl; (repeat (first | (with_reducible apply NatI.add) | (with_reducible exact NatI.one) | exact NatI.cast _)); omega); apply allAnd; (intro _; exact ltA))
    | (apply WD.kl_ms; exact rfl; rotate_left; exact rfl; exact rfl; (apply LO.makeR; exact rfl; exact rfl; (repeat (first | (with_reducible apply NatI.add) | (with_reducible exact NatI.one) | exact NatI.cast _)); omega); apply allAnd; (intro _; exact ltA))
    | (apply WD.kl_ms; exact rfl; rotate_left; exact rfl; exact rfl; (apply LO.makeLn; exact rfl; exact rfl; (repeat (first | (with_reducible apply NatI.add) | (with_reducible exact NatI.one) | exact NatI.cast _)); omega); apply allAnd; (intro _; exact ltA))
    | (apply WD.kl_ms; exact rfl; rotate_left; exact rfl; exact rfl; (apply LO.makeTT; exact rfl; exact rfl; (repeat (first | (with_reducible apply NatI.add) | (with_reducible exact NatI.one) | exact NatI.cast _)); omega); apply allAnd; (intro _; exact ltA))
    | (apply WD.kl_bs; exact rfl; rotate_left; exact rfl; exact rfl; (apply LO.bsI3; exact rfl; exact rfl; exact rfl); apply allAnd; (intro _; exact ltA))
    | (apply WD.kl_bs; exact rfl; rotate_left; exact rfl; exact rfl; (apply LO.bsI2; exact rfl; exact rfl); apply allAnd; (intro _; exact ltA))
    | (apply WD.kl_bs; exact rfl; rotate_left; exact rfl; exact rfl; (apply LO.bsR0); apply allAnd; (intro _; exact ltA))
    | (apply WD.kl_bs; exact rfl; rotate_left; exact rfl; exact rfl; (apply LO.bsB0); apply allAnd; (intro _; exact ltA))
    | (apply WD.kl_bs; exact rfl; rotate_left; exact rfl; exact rfl; (apply LO.bsR1; exact rfl); apply allAnd; (intro _; exact ltA))
    | (apply WD.kl_bs; exact rfl; rotate_left; exact rfl; exact rfl; (apply LO.bsB1; exact rfl); apply allAnd; (intro _; exact ltA))
    | (apply WD.kl_bs; exact rfl; rotate_left; exact rfl; exact rfl; (apply LO.bsT1; exact rfl; exact knA); apply allAnd; (intro _; exact ltA))
    | (apply WD.kl_bs; exact rfl; rotate_left; exact rfl; exact rfl; (apply LO.bsB3; exact rfl; exact rfl; exact rfl); apply allAnd; (intro _; exact ltA))
    | (apply WD.kl_bs; exact rfl; rotate_left; exact rfl; exact rfl; (apply LO.bsR3; exact rfl; exact rfl; exact rfl); apply allAnd; (intro _; exact ltA))
    | (apply WD.kl_bs; exact rfl; rotate_left; exact rfl; exact rfl; (apply LO.bsP2; exact rfl; exact rfl); apply allAnd; (intro _; exact ltA))
    | (apply WD.kl_app; exact rfl; rotate_left; exact rfl; exact rfl; (apply LO.appTT; exact rfl; exact rfl; exact meA; (apply One.sl; exact knA); (intro _; exact seA); omega); apply allAnd; (intro _; exact ltA))
    | (apply WD.kl_app; exact rfl; rotate_left; exact rfl; exact rfl; (apply LO.appRo; exact rfl; exact rfl; exact meA; exact hmA; omega; (intro _; exact seA); omega); apply allAnd; (intro _; exact ltA))
    | (apply WD.kl_app; exact rfl; rotate_left; exact rfl; exact rfl; (apply LO.appBf; exact rfl; exact rfl; exact hmA; (intro _; exact seA); omega); apply allAnd; (intro _; exact ltA))
    | (apply WD.kl_app; exact rfl; rotate_left; exact rfl; exact rfl; (apply LO.appR1; exact rfl; exact rfl; exact meA; exact hmA; (intro _; exact seA); omega); apply allAnd; (intro _; exact ltA))
    | (apply WD.kl_app; exact rfl; rotate_left; exact rfl; exact rfl; (apply LO.appB1; exact rfl; exact rfl; exact meA; exact hmA; (intro _; exact seA); omega); apply allAnd; (intro _; exact ltA))
    | (apply WD.kl_app; exact rfl; rotate_left; exact rfl; exact rfl; (apply LO.appT1; exact rfl; exact rfl; exact meA; (first | exact One.lit rfl rfl | (apply One.sl; exact knA)); (intro _; exact seA); (simp only [List.length_append, List.length_cons, List.length_nil, List.length_map, List.length_range]; omega)); apply allAnd; (intro _; exact ltA))
    | (apply WD.kl_bs; exact rfl; rotate_left; exact rfl; exact rfl; apply LO.bs1; exact t4A; (repeat (first | exact EvP.nil | (apply EvP.cons; exact rfl))); (intro _; kernel_rfl); exact rfl; omega; apply allAnd; (intro _; exact ltA))
    | (apply WD.kl_app; exact rfl; rotate_left; exact rfl; exact rfl; apply LO.app; exact t5A; exact rfl; exact rfl; (first | (focus (apply SrcE.ints; exact hmA; done)) | (focus (apply SrcE.own1; exact meA; done)) | (focus (apply SrcE.one; exact meA; exact rfl; decide; done))); (intro v; exact seA); exact onA; exact leA; exact leA; apply allAnd; (intro _; exact ltA)))
  exact Bx.h h) : G := s ⟨h⟩
theorem goLG {G G' : Prop} (h : G') (s : Bx G' → G := by
  intro h
  (first
    | (apply LO.alloc'; (first | exact t0A); apply allAnd; (intro _; exact ltA))
    | ((first | (apply LO.boxA; exact rfl) | (apply LO.box1; exact rfl; (first | exact One.lit rfl rfl | (apply One.sl; exact knA)))); apply allAnd; (intro _; exact ltA)))
  exact Bx.h h) : G := s ⟨h⟩
theorem goLV {G G' : Prop} (h : G') (s : Bx G' → G := by
  intro h
  (first
    | (apply LO.bs1; exact t4A; (repeat (first | exact EvP.nil | (apply EvP.cons; exact rfl))); (intro _; kernel_rfl); exact rfl; omega; apply allAnd; (intro _; exact ltA))
    | (apply LO.app; exact t5A; exact rfl; exact rfl; (first | (focus (apply SrcE.ints; exact hmA; done)) | (focus (apply SrcE.own1; exact meA; done)) | (focus (apply SrcE.one; exact meA; exact rfl; decide; done))); (intro v; exact seA); exact onA; exact leA; exact leA; apply allAnd; (intro _; exact ltA))
    | ((apply LO.makeI; exact rfl; exact rfl; (repeat (first | (with_reducible apply NatI.add) | (with_reducible exact NatI.one) | exact NatI.cast _)); omega); apply allAnd; (intro _; exact ltA))
    | ((apply LO.makeR; exact rfl; exact rfl; (repeat (first | (with_reducible apply NatI.add) | (with_reducible exact NatI.one) | exact NatI.cast _)); omega); apply allAnd; (intro _; exact ltA))
    | ((apply LO.makeLn; exact rfl; exact rfl; (repeat (first | (with_reducible apply NatI.add) | (with_reducible exact NatI.one) | exact NatI.cast _)); omega); apply allAnd; (intro _; exact ltA))
    | ((apply LO.makeTT; exact rfl; exact rfl; (repeat (first | (with_reducible apply NatI.add) | (with_reducible exact NatI.one) | exact NatI.cast _)); omega); apply allAnd; (intro _; exact ltA))
    | ((apply LO.bsI3; exact rfl; exact rfl; exact rfl); apply allAnd; (intro _; exact ltA))
    | ((apply LO.bsI2; exact rfl; exact rfl); apply allAnd; (intro _; exact ltA))
    | ((apply LO.bsR0); apply allAnd; (intro _; exact ltA))
    | ((apply LO.bsB0); apply allAnd; (intro _; exact ltA))
    | ((apply LO.bsR1; exact rfl); apply allAnd; (intro _; exact ltA))
    | ((apply LO.bsB1; exact rfl); apply allAnd; (intro _; exact ltA))
    | ((apply LO.bsT1; exact rfl; exact knA); apply allAnd; (intro _; exact ltA))
    | ((apply LO.bsB3; exact rfl; exact rfl; exact rfl); apply allAnd; (intro _; exact ltA))
    | ((apply LO.bsR3; exact rfl; exact rfl; exact rfl); apply allAnd; (intro _; exact ltA))
    | ((apply LO.bsP2; exact rfl; exact rfl); apply allAnd; (intro _; exact ltA))
    | ((apply LO.appTT; exact rfl; exact rfl; exact meA; (apply One.sl; exact knA); (intro _; exact seA); omega); apply allAnd; (intro _; exact ltA))
    | ((apply LO.appRo; exact rfl; exact rfl; exact meA; exact hmA; omega; (intro _; exact seA); omega); apply allAnd; (intro _; exact ltA))
    | ((apply LO.appBf; exact rfl; exact rfl; exact hmA; (intro _; exact seA); omega); apply allAnd; (intro _; exact ltA))
    | ((apply LO.appR1; exact rfl; exact rfl; exact meA; exact hmA; (intro _; exact seA); omega); apply allAnd; (intro _; exact ltA))
    | ((apply LO.appB1; exact rfl; exact rfl; exact meA; exact hmA; (intro _; exact seA); omega); apply allAnd; (intro _; exact ltA))
    | ((apply LO.appT1; exact rfl; exact rfl; exact meA; (first | exact One.lit rfl rfl | (apply One.sl; exact knA)); (intro _; exact seA); (simp only [List.length_append, List.length_cons, List.length_nil, List.length_map, List.length_range]; omega)); apply allAnd; (intro _; exact ltA)))
  exact Bx.h h) : G := s ⟨h⟩
theorem goLS {G G' : Prop} (h : G') (s : Bx G' → G := by
  intro h
  (first
    | ((first | (apply LO.storeOI; exact rfl; exact rfl; exact t2A; exact seA; (first | omega | (simp only [List.length_set]; omega))) | (apply LO.storeQ; exact rfl; exact rfl; exact t6A; exact hmA; exact seA; omega) | (apply LO.storeL1; exact rfl; exact rfl; exact t6A; exact hmA; exact seA; omega) | (apply LO.storeOT; exact rfl; exact rfl; exact t2A; (first | exact One.lit rfl rfl | (apply One.sl; exact knA)); exact seA; omega) | (apply LO.storeB2; exact rfl; exact rfl; exact t6A; exact hmA; exact seA) | (apply LO.storeBf; exact rfl; exact rfl; exact t2A; exact seA; omega) | (apply LO.storeBt; exact rfl; exact rfl; exact t2A; exact seA; omega) | (apply LO.storeBq; exact rfl; exact rfl; exact t6A; exact hmA; exact seA; omega) | (apply LO.storeI; exact rfl; exact rfl; exact t2A; exact seA; (first | omega | (simp only [List.length_set, List.length_replicate]; omega))) | (apply LO.storeWI; exact rfl; exact rfl; exact seA; exact t6A; (first | omega | (simp only [List.length_set, List.length_replicate]; omega)); (first | (simp only [List.length_map, List.length_set, List.length_replicate, ints]; omega) | rfl)) | (apply LO.store1; exact rfl; exact rfl; exact t2A; (first | exact One.lit rfl rfl | (apply One.sl; exact knA)); exact seA; (first | (simp only [List.length_cons, List.length_nil]; omega) | (simp; omega)); (first | (simp only [List.set_cons_succ, List.set_cons_zero]; exact rfl) | exact rfl)) | (apply LO.storeO1; exact rfl; exact rfl; exact t2A; (first | exact One.lit rfl rfl | (apply One.sl; exact knA)); exact seA; (first | (simp only [List.length_cons, List.length_nil]; omega) | (simp; omega)); (first | (simp only [List.set_cons_succ, List.set_cons_zero]; exact rfl) | exact rfl)) | (apply LO.storeL; exact rfl; exact rfl; exact seA; exact t6A; exact rfl; exact rfl; (repeat (first | exact OneL.nil | (apply OneL.cons; (first | exact One.lit rfl rfl | (apply One.sl; exact knA))))))); constructor; exact ltA))
  exact Bx.h h) : G := s ⟨h⟩
theorem goYL {G G' : Prop} (h : G') (s : Bx G' → G := by
  intro h
  (apply WD.fy; exact rfl; (first | (apply YO.move; exact rfl) | (apply YO.assign; exact rfl) | exact y_lss | exact y_add | exact y_len | exact y_indexAddr | exact y_load | exact y_pick | exact y_fieldAddr | exact y_eql | exact y_neq | (apply YO.nil; exact rfl) | (apply YO.extract; exact rfl; exact rfl) | exact y_gtr | exact y_geq | exact y_leq | (apply YO.sub; exact rfl; exact rfl; omega; omega) | exact y_mul | exact y_rem | exact y_quo | exact y_unot | exact y_uneg | (apply YO.max; exact rfl; exact rfl) | (apply YO.min; exact rfl; exact rfl) | exact y_makeFunc | exact y_conv | exact y_shl | (apply YO.shr'; exact rfl; exact rfl; omega; omega) | exact y_and | exact y_or | (apply YO.anot; exact rfl; exact rfl) | exact y_slice); exact rfl; exact rfl)
  exact Bx.h h) : G := s ⟨h⟩
theorem goYT {G G' : Prop} (h : G') (s : Bx G' → G := by
  intro h
  (apply WD.yl; exact rfl; (first | (apply YO.move; exact rfl) | (apply YO.assign; exact rfl) | exact y_lss | exact y_add | exact y_len | exact y_indexAddr | exact y_load | exact y_pick | exact y_fieldAddr | exact y_eql | exact y_neq | (apply YO.nil; exact rfl) | (apply YO.extract; exact rfl; exact rfl) | exact y_gtr | exact y_geq | exact y_leq | (apply YO.sub; exact rfl; exact rfl; omega; omega) | exact y_mul | exact y_rem | exact y_quo | exact y_unot | exact y_uneg | (apply YO.max; exact rfl; exact rfl) | (apply YO.min; exact rfl; exact rfl) | exact y_makeFunc | exact y_conv | exact y_shl | (apply YO.shr'; exact rfl; exact rfl; omega; omega) | exact y_and | exact y_or | (apply YO.anot; exact rfl; exact rfl) | exact y_slice); exact rfl; exact rfl)
  exact Bx.h h) : G := s ⟨h⟩
end L
end Go.Proofs.YthggloiigkbfeaaGreat
namespace Go.Proofs.YthggloiigkbfeaaGreat
open W Go.RowKit
namespace L
open G H I J
attribute [local irreducible] WC WL WD YO LO LoopEnd W.Fin Scalar SliceT FieldAt Row ArrT AllocT KnS Has W.One SrcE IntT
theorem d5 {G G' : Prop} (h : G') (s : Bx G' → G := by
  intro h
  first | (apply WC.draw (id := 10) [0, 1, 2, 3, 4, 5, 6, 7, 8, 9, 10, 11, 13, 14, 15, 16, 19, 20] (.held 0 (.held 1 (.held 2 (.held 3 (.held 4 (.held 5 (.held 6 (.held 7 (.held 8 (.held 9 (.held 10 (.held 11 (.more 12 (.held 13 (.held 14 (.held 15 (.held 16 (.loud 17 (.loud 18 (.held 19 (.held 20 (.done))))))))) (.loud 17 (.loud 12 (.held 13 (.held 14 (.held 15 (.held 16 (.loud 18 (.held 19 (.held 20 (.done))))))))))))))))))))))) mixed (by kernel_rfl)) | (apply WC.draw (id := 11) [0, 1, 2, 3, 4, 5, 6, 7, 8, 9, 10, 11, 13, 14, 15, 16, 19, 20] (.held 0 (.held 1 (.held 2 (.held 3 (.held 4 (.held 5 (.held 6 (.held 7 (.held 8 (.held 9 (.held 10 (.held 11 (.more 12 (.held 13 (.held 14 (.held 15 (.held 16 (.loud 17 (.loud 18 (.held 19 (.held 20 (.done))))))))) (.loud 17 (.loud 12 (.held 13 (.held 14 (.held 15 (.held 16 (.loud 18 (.held 19 (.held 20 (.done))))))))))))))))))))))) mixed (by kernel_rfl)) | fail
  exact Bx.h h) : G := s ⟨h⟩
set_option maxHeartbeats 16000000 in
set_option maxRecDepth 60000 in
theorem differences_c (v0 : Value) (l : List Int) (how at_ fr to : Int) (hl : ∀ x ∈ l, I64 x) (hh : I64 how) (ha : I64 at_) (hfr : I64 fr) (hto : I64 to) :
    FnB Tryz.prog 5 [v0, .int .i64 how, .int .i64 at_, .int .i64 fr, .int .i64 to] [] [sI v0 l] (IsV (.bool true)) := by
  refine fn_of [(0, v0), (1, (.int .i64 how)), (2, (.int .i64 at_)), (3, (.int .i64 fr)), (4, (.int .i64 to))] 110 Tryz.func5 rfl Tryz.ntmps5 (by kernel_rfl) rfl suA fun h0 => ?_
  have hs0 := sysL_sml l (most := 6) (by decide) (by decide)
  have hsl := sysL_len l 6
  repeat' (first | refine go ?_ | refine goX ?_ | refine goB ?_ | (refine goG ?_; intro g) | (refine goV ?_; intro v) | refine goD ?_ | refine goXD ?_ | (refine goDG ?_; intro g) | (refine goDV ?_; intro v) | apply WD.more_of | refine WM.more (by exact rfl) (by exact rfl) (by exact rfl) ?_ ?_ | refine WM.one (by exact rfl) (by exact rfl) (by exact rfl) ?_ | refine WM.more0 (by exact rfl) (by exact rfl) ?_ ?_ | refine WM.one0 (by exact rfl) (by exact rfl) ?_ | (refine goLG ?_; intro g) | (refine goLV ?_; intro v) | refine goLS ?_ | refine d5 ?_ | fail)
  first | refine WL.callK (system_c v0 l 6 hl (by decide) (by decide)) ?_ | refine WD.callK (system_c v0 l 6 hl (by decide) (by decide)) ?_ | refine LO.callM (system_c v0 l 6 hl (by decide) (by decide)) ?_
  rintro rv bb GG ⟨vb, ms, rfl, rfl, rfl⟩
  simp only [List.nil_append, List.cons_append]
  generalize sysN l 6 = n at *
  generalize sysL l 6 = bs at *
  repeat' (first | refine go ?_ | refine goX ?_ | refine goB ?_ | (refine goG ?_; intro g) | (refine goV ?_; intro v) | refine goD ?_ | refine goXD ?_ | (refine goDG ?_; intro g) | (refine goDV ?_; intro v) | apply WD.more_of | refine WM.more (by exact rfl) (by exact rfl) (by exact rfl) ?_ ?_ | refine WM.one (by exact rfl) (by exact rfl) (by exact rfl) ?_ | refine WM.more0 (by exact rfl) (by exact rfl) ?_ ?_ | refine WM.one0 (by exact rfl) (by exact rfl) ?_ | (refine goLG ?_; intro g) | (refine goLV ?_; intro v) | refine goLS ?_ | refine d5 ?_ | fail)
  first | refine WL.callK (bent_c 6 vb ms bs n how at_ (by omega) hh ha) ?_ | refine WD.callK (bent_c 6 vb ms bs n how at_ (by omega) hh ha) ?_ | refine LO.callM (bent_c 6 vb ms bs n how at_ (by omega) hh ha) ?_
  rintro rv bb GG ⟨vc, mc, rfl, rfl, rfl⟩
  simp only [List.nil_append, List.cons_append]
  have hs1 : Sml (bentP n bs how at_).2 := bent_sml hs0
  generalize hbp : bentP n bs how at_ = bp at *
  obtain ⟨k1, cs⟩ := bp
  simp only at hs1 ⊢
  repeat' (first | refine go ?_ | refine goX ?_ | refine goB ?_ | (refine goG ?_; intro g) | (refine goV ?_; intro v) | refine goD ?_ | refine goXD ?_ | (refine goDG ?_; intro g) | (refine goDV ?_; intro v) | apply WD.more_of | refine WM.more (by exact rfl) (by exact rfl) (by exact rfl) ?_ ?_ | refine WM.one (by exact rfl) (by exact rfl) (by exact rfl) ?_ | refine WM.more0 (by exact rfl) (by exact rfl) ?_ ?_ | refine WM.one0 (by exact rfl) (by exact rfl) ?_ | (refine goLG ?_; intro g) | (refine goLV ?_; intro v) | refine goLS ?_ | refine d5 ?_ | fail)
  refine WC.lp (σ := Nat × Int × Value × (Nat → QM) × List Bd) (fun s => [(15, .int .i64 (s.1 : Int)), (11, .int .i64 s.2.1), (12, s.2.2.1), (13, .int .i64 k1), (14, vc), (3, .int .i64 fr), (4, .int .i64 to)]) (fun _ => [])
    (fun s => [fB 6 s.2.2.1 s.2.2.2.1 s.2.2.2.2, ge h0, fB 6 vc mc cs]) (fun s => s.1 ≤ 2 ∧ Sml s.2.2.2.2) (fun s => 2 - s.1) (0, n, vb, ms, bs) ⟨Nat.zero_le _, hs0⟩ ?_ suA slA sfA
  clear hsl hs0
  rintro ⟨i, n, vb, ms, bs⟩ ⟨hi, hs⟩
  simp only at hi hs ⊢
  by_cases ci : i < 2
  · repeat' (first | refine go ?_ | refine goX ?_ | refine goB ?_ | (refine goG ?_; intro g) | (refine goV ?_; intro v) | refine goD ?_ | refine goXD ?_ | (refine goDG ?_; intro g) | (refine goDV ?_; intro v) | apply WD.more_of | refine WM.more (by exact rfl) (by exact rfl) (by exact rfl) ?_ ?_ | refine WM.one (by exact rfl) (by exact rfl) (by exact rfl) ?_ | refine WM.more0 (by exact rfl) (by exact rfl) ?_ ?_ | refine WM.one0 (by exact rfl) (by exact rfl) ?_ | (refine goLG ?_; intro g) | (refine goLV ?_; intro v) | refine goLS ?_ | refine d5 ?_ | fail)
    first | refine WL.callV (around_c fr (max n 1) hfr (by omega)) ?_ | refine WD.callV (around_c fr (max n 1) hfr (by omega)) ?_
    repeat' (first | refine go ?_ | refine goX ?_ | refine goB ?_ | (refine goG ?_; intro g) | (refine goV ?_; intro v) | refine goD ?_ | refine goXD ?_ | (refine goDG ?_; intro g) | (refine goDV ?_; intro v) | apply WD.more_of | refine WM.more (by exact rfl) (by exact rfl) (by exact rfl) ?_ ?_ | refine WM.one (by exact rfl) (by exact rfl) (by exact rfl) ?_ | refine WM.more0 (by exact rfl) (by exact rfl) ?_ ?_ | refine WM.one0 (by exact rfl) (by exact rfl) ?_ | (refine goLG ?_; intro g) | (refine goLV ?_; intro v) | refine goLS ?_ | refine d5 ?_ | fail)
    first | refine WL.callV (around_c to (max n 1) hto (by omega)) ?_ | refine WD.callV (around_c to (max n 1) hto (by omega)) ?_
    repeat' (first | refine go ?_ | refine goX ?_ | refine goB ?_ | (refine goG ?_; intro g) | (refine goV ?_; intro v) | refine goD ?_ | refine goXD ?_ | (refine goDG ?_; intro g) | (refine goDV ?_; intro v) | apply WD.more_of | refine WM.more (by exact rfl) (by exact rfl) (by exact rfl) ?_ ?_ | refine WM.one (by exact rfl) (by exact rfl) (by exact rfl) ?_ | refine WM.more0 (by exact rfl) (by exact rfl) ?_ ?_ | refine WM.one0 (by exact rfl) (by exact rfl) ?_ | (refine goLG ?_; intro g) | (refine goLV ?_; intro v) | refine goLS ?_ | refine d5 ?_ | fail)
    revert v; intro u
    generalize around fr (max n 1) = a1
    generalize around to (max n 1) = a2
    refine WC.lp (σ := Nat) (fun j => [(17, .int .i64 (j : Int)), (16, u), (15, .int .i64 (i : Int)), (11, .int .i64 n), (12, vb), (13, .int .i64 k1), (14, vc), (3, .int .i64 fr), (4, .int .i64 to)]) (fun _ => [Ow.slice u 54 2 (ints [a1, a2, fr, to])])
      (fun _ => [fB 6 vb ms bs, ge h0, fB 6 vc mc cs]) (fun j => j ≤ 2) (fun j => 2 - j) 0 (Nat.zero_le _) ?_ suA slA sfA
    intro j hj
    by_cases cj : j < 2
    · have mo : ∀ a b : Int, FnB Tryz.prog 19 [.int .i64 n, vb, .int .i64 a, .int .i64 b] [] [fB 6 vb ms bs] (IsMo 6 (mst n bs a b)) := fun a b => most_c 6 vb ms bs n a b hs.fit
      have rm : ∀ a b : Int, FnB Tryz.prog 33 [.int .i64 n, vb, .int .i64 a, .int .i64 b] [] [fB 6 vb ms bs] (IsMo 6 (mst n bs a b)) := fun a b => by rw [mst_same]; exact rmost_c 6 vb ms bs n a b (hs.mul (by decide))
      generalize mst n bs = R at *
      repeat' (first | refine go ?_ | refine goX ?_ | refine goB ?_ | (refine goG ?_; intro g) | (refine goV ?_; intro v) | refine goD ?_ | refine goXD ?_ | (refine goDG ?_; intro g) | (refine goDV ?_; intro v) | apply WD.more_of | refine WM.more (by exact rfl) (by exact rfl) (by exact rfl) ?_ ?_ | refine WM.one (by exact rfl) (by exact rfl) (by exact rfl) ?_ | refine WM.more0 (by exact rfl) (by exact rfl) ?_ ?_ | refine WM.one0 (by exact rfl) (by exact rfl) ?_ | (refine goLG ?_; intro g) | (refine goLV ?_; intro v) | refine goLS ?_ | refine d5 ?_ | fail)
      all_goals first | refine WL.callK (mo _ _) ?_ | refine WD.callK (mo _ _) ?_ | refine LO.callM (mo _ _) ?_
      all_goals rintro rv bb GG ⟨m1, up, rfl, rfl, rfl⟩
      all_goals simp only [List.nil_append, List.cons_append]
      all_goals repeat' (first | refine go ?_ | refine goX ?_ | refine goB ?_ | (refine goG ?_; intro g) | (refine goV ?_; intro v) | refine goD ?_ | refine goXD ?_ | (refine goDG ?_; intro g) | (refine goDV ?_; intro v) | apply WD.more_of | refine WM.more (by exact rfl) (by exact rfl) (by exact rfl) ?_ ?_ | refine WM.one (by exact rfl) (by exact rfl) (by exact rfl) ?_ | refine WM.more0 (by exact rfl) (by exact rfl) ?_ ?_ | refine WM.one0 (by exact rfl) (by exact rfl) ?_ | (refine goLG ?_; intro g) | (refine goLV ?_; intro v) | refine goLS ?_ | refine d5 ?_ | fail)
      all_goals first | refine WL.callK (rm _ _) ?_ | refine WD.callK (rm _ _) ?_ | refine LO.callM (rm _ _) ?_
      all_goals rintro rv bb GG ⟨m2, uq, rfl, rfl, rfl⟩
      all_goals simp only [List.nil_append, List.cons_append]
      all_goals generalize R _ _ = r1 at *
      all_goals repeat' (first | refine go ?_ | refine goX ?_ | refine goB ?_ | (refine goG ?_; intro g) | (refine goV ?_; intro v) | refine goD ?_ | refine goXD ?_ | (refine goDG ?_; intro g) | (refine goDV ?_; intro v) | apply WD.more_of | refine WM.more (by exact rfl) (by exact rfl) (by exact rfl) ?_ ?_ | refine WM.one (by exact rfl) (by exact rfl) (by exact rfl) ?_ | refine WM.more0 (by exact rfl) (by exact rfl) ?_ ?_ | refine WM.one0 (by exact rfl) (by exact rfl) ?_ | (refine goLG ?_; intro g) | (refine goLV ?_; intro v) | refine goLS ?_ | refine d5 ?_ | fail)
      all_goals first | refine WL.callV (rsamew_c 6 m1 m2 r1.1 r1.1) ?_ | refine WD.callV (rsamew_c 6 m1 m2 r1.1 r1.1) ?_
      all_goals rw [decide_eq_true rfl]
      all_goals repeat' (first | refine go ?_ | refine goX ?_ | refine goB ?_ | (refine goG ?_; intro g) | (refine goV ?_; intro v) | refine goD ?_ | refine goXD ?_ | (refine goDG ?_; intro g) | (refine goDV ?_; intro v) | apply WD.more_of | refine WM.more (by exact rfl) (by exact rfl) (by exact rfl) ?_ ?_ | refine WM.one (by exact rfl) (by exact rfl) (by exact rfl) ?_ | refine WM.more0 (by exact rfl) (by exact rfl) ?_ ?_ | refine WM.one0 (by exact rfl) (by exact rfl) ?_ | (refine goLG ?_; intro g) | (refine goLV ?_; intro v) | refine goLS ?_ | refine d5 ?_ | fail)
      all_goals first | refine WL.callV (sameInts_c up uq r1.2.1 r1.2.1) ?_ | refine WD.callV (sameInts_c up uq r1.2.1 r1.2.1) ?_
      all_goals rw [decide_eq_true rfl]
      all_goals repeat' (first | refine go ?_ | refine goX ?_ | refine goB ?_ | (refine goG ?_; intro g) | (refine goV ?_; intro v) | refine goD ?_ | refine goXD ?_ | (refine goDG ?_; intro g) | (refine goDV ?_; intro v) | apply WD.more_of | refine WM.more (by exact rfl) (by exact rfl) (by exact rfl) ?_ ?_ | refine WM.one (by exact rfl) (by exact rfl) (by exact rfl) ?_ | refine WM.more0 (by exact rfl) (by exact rfl) ?_ ?_ | refine WM.one0 (by exact rfl) (by exact rfl) ?_ | (refine goLG ?_; intro g) | (refine goLV ?_; intro v) | refine goLS ?_ | refine d5 ?_ | fail)
      all_goals exact LoopEnd.mk (j + 1) (by omega) (by show 2 - (j + 1) < 2 - j; omega) suA slA sfA
    · obtain rfl : j = 2 := by omega
      repeat' (first | refine go ?_ | refine goX ?_ | refine goB ?_ | (refine goG ?_; intro g) | (refine goV ?_; intro v) | refine goD ?_ | refine goXD ?_ | (refine goDG ?_; intro g) | (refine goDV ?_; intro v) | apply WD.more_of | refine WM.more (by exact rfl) (by exact rfl) (by exact rfl) ?_ ?_ | refine WM.one (by exact rfl) (by exact rfl) (by exact rfl) ?_ | refine WM.more0 (by exact rfl) (by exact rfl) ?_ ?_ | refine WM.one0 (by exact rfl) (by exact rfl) ?_ | (refine goLG ?_; intro g) | (refine goLV ?_; intro v) | refine goLS ?_ | refine d5 ?_ | fail)
      exact LoopEnd.mk (i + 1, k1, vc, mc, cs) ⟨by show i + 1 ≤ 2; omega, hs1⟩ (by show 2 - (i + 1) < 2 - i; omega) suA slA sfA
  · obtain rfl : i = 2 := by omega
    repeat' (first | refine go ?_ | refine goX ?_ | refine goB ?_ | (refine goG ?_; intro g) | (refine goV ?_; intro v) | refine goD ?_ | refine goXD ?_ | (refine goDG ?_; intro g) | (refine goDV ?_; intro v) | apply WD.more_of | refine WM.more (by exact rfl) (by exact rfl) (by exact rfl) ?_ ?_ | refine WM.one (by exact rfl) (by exact rfl) (by exact rfl) ?_ | refine WM.more0 (by exact rfl) (by exact rfl) ?_ ?_ | refine WM.one0 (by exact rfl) (by exact rfl) ?_ | (refine goLG ?_; intro g) | (refine goLV ?_; intro v) | refine goLS ?_ | refine d5 ?_ | fail)
    first | refine WL.callV (lives_c) ?_ | refine WD.callV (lives_c) ?_
    repeat' (first | refine go ?_ | refine goX ?_ | refine goB ?_ | (refine goG ?_; intro g) | (refine goV ?_; intro v) | refine goD ?_ | refine goXD ?_ | (refine goDG ?_; intro g) | (refine goDV ?_; intro v) | apply WD.more_of | refine WM.more (by exact rfl) (by exact rfl) (by exact rfl) ?_ ?_ | refine WM.one (by exact rfl) (by exact rfl) (by exact rfl) ?_ | refine WM.more0 (by exact rfl) (by exact rfl) ?_ ?_ | refine WM.one0 (by exact rfl) (by exact rfl) ?_ | (refine goLG ?_; intro g) | (refine goLV ?_; intro v) | refine goLS ?_ | refine d5 ?_ | fail)
    exact WC.ret (Fin.v (ResE.t1 rfl rfl) meA rfl)
end L
end Go.Proofs.YthggloiigkbfeaaGreat
namespace Go.Proofs.YthggloiigkbfeaaGreat
open Go.ChangeShapes Go.WideShapes Go.ChangeAt Go.RowKit
open W
theorem Tryz.int3 : Tryz.prog.underlying 3 = some (.int .i64) := by kernel_rfl
theorem Tryz.sl22 : Tryz.prog.underlying 22 = some (.slice 3) := by kernel_rfl
theorem Tryz.bool4 : Tryz.prog.underlying 4 = some .bool := by kernel_rfl
theorem Tryz.one3 : Tryz.prog.cellsOf 3 = 1 := by kernel_rfl
set_option maxRecDepth 100000 in
theorem boundsDifferences_lifted (os : Os) (started : os.Started) (H : Type) (enc : TypeId × Value → H) :
    ReturnsInHanded {} Tryz.checked os 5 .any (Rows.boundsDifferencesSpec.pre6 enc Tryz.prog Tryz.f5 Rows.boundsDifferencesRow.domain false) (Rows.boundsDifferencesSpec.post enc Tryz.prog Tryz.f5 false true false false) := by
  refine returnsInHanded_of_change (C := Tryz.checked) Tryz.own started (by kernel_rfl) Tryz.func5
    (ChangeSpec.witness6 (enc := enc) (C := Tryz.checked) false ⟨#[], #[.slice none 0 0, .int .i64 0, .int .i64 0, .int .i64 0, .int .i64 0], []⟩ 8 (by kernel_rfl) (by kernel_rfl) (by kernel_rfl) (by kernel_rfl)) ?_
  intro V1 base args ds gs before hval0 hW hcnd _
  have hval : ∀ (j : Nat) t v, Tryz.f5.params[j]? = some t → args[j]? = some v → Value.okWide Tryz.prog V1 .any base t v := hval0
  have hW' := hW
  obtain ⟨p, q, hA0, hV, rfl, hfz, hnd⟩ := hW
  have hA : DataW.TrodAll enc Tryz.prog V1 0 (fun _ => true) true Tryz.f5.params.toList args.toList ds p := hA0
  rw [Tryz.params5] at hA hval
  obtain ⟨args⟩ := args
  obtain ⟨v0, a1, d0, e1, p0, q1, rfl, rfl, rfl, h0, hA⟩ := trodAll_cons hA
  obtain ⟨v1, a2, d1, e2, p1, q2, rfl, rfl, rfl, h1, hA⟩ := trodAll_cons hA
  obtain ⟨v2, a3, d2, e3, p2, q3, rfl, rfl, rfl, h2, hA⟩ := trodAll_cons hA
  obtain ⟨v3, a4, d3, e4, p3, q4, rfl, rfl, rfl, h3, hA⟩ := trodAll_cons hA
  obtain ⟨v4, a5, d4, e5, p4, q5, rfl, rfl, rfl, h4, hA⟩ := trodAll_cons hA
  obtain ⟨rfl, rfl, rfl⟩ := trodAll_nil hA
  obtain ⟨rfl, rfl⟩ := trodVars_none hV
  obtain ⟨l0, hl0, f0, g0⟩ := arg_ints Tryz.sl22 Tryz.int3 Tryz.one3 (hval 0 22 v0 rfl rfl) h0
  obtain ⟨n1, rfl, hl1, g1⟩ := arg_int Tryz.int3 (hval 1 3 v1 rfl rfl) h1
  obtain ⟨n2, rfl, hl2, g2⟩ := arg_int Tryz.int3 (hval 2 3 v2 rfl rfl) h2
  obtain ⟨n3, rfl, hl3, g3⟩ := arg_int Tryz.int3 (hval 3 3 v3 rfl rfl) h3
  obtain ⟨n4, rfl, hl4, g4⟩ := arg_int Tryz.int3 (hval 4 3 v4 rfl rfl) h4
  simp only [List.append_nil] at hW'
  refine (law_calls (L.differences_c v0 l0 n1 n2 n3 n4 hl0 hl1 hl2 hl3 hl4) (fun g hg => ?_)).mono fun e V2 hh2 => ?_
  · simp only [List.mem_cons, List.not_mem_nil, or_false] at hg
    subst hg
    exact f0
  · obtain ⟨he, hr, hE⟩ := hh2
    refine ⟨_, he, post_law hW' (fun _ _ _ => trodAll_mk1 (shut_bool Tryz.bool4 _)) (fun sp hsp => ?_) (fun _ => rfl) hr hE (ok_one (by kernel_rfl) rfl (okWide_bool_mk Tryz.bool4 _))⟩
    have := (AgainAll.cons g0 (AgainAll.cons g1 (AgainAll.cons g2 (AgainAll.cons g3 (AgainAll.cons g4 AgainAll.nil))))) V2 sp hE (by simpa using hsp)
    simp only [List.append_nil] at this
    show DataW.TrodAll enc Tryz.prog V2 0 sp true Tryz.f5.params.toList _ _ _
    rw [Tryz.params5]
    exact this
theorem boundsDifferences_holds : Rows.BoundsDifferencesSaid :=
  OpenClaim.holds_of_wide 5 Tryz.f5 rfl rfl rfl rfl rfl rfl rfl ⟨rfl, rfl, rfl, rfl, rfl⟩ rfl rfl rfl rfl rfl (by kernel_rfl) Tryz.func5 (by kernel_rfl)
    (of_decide_eq_true (by kernel_rfl)) (by unfold Func.isWrapper; first | (rw [if_pos (by decide +kernel)]; kernel_rfl) | (rw [if_neg (by decide +kernel)]; exact ⟨rfl, rfl⟩))
    (fun os started H enc _ => boundsDifferences_lifted os started H enc)
#print axioms boundsDifferences_holds
end Go.Proofs.YthggloiigkbfeaaGreat
