/- The law BoundsSolves returns true for every input and leaves its arguments as they were. Conditions: none. -/
import Derived.Test.YthggloiigkbfeaaGreatBase6
set_option linter.unusedVariables false
set_option linter.unusedSimpArgs false
set_option linter.unusedSectionVars false
namespace Go.Proofs.YthggloiigkbfeaaGreat
open W Go.RowKit
namespace J
open G H I
attribute [local irreducible] WC WL WD YO LO LoopEnd W.Fin Scalar SliceT FieldAt Row ArrT AllocT KnS Has W.One SrcE IntT
set_option maxHeartbeats 16000000 in
set_option maxRecDepth 60000 in
theorem solvesLaw_c (v0 v3 v4 : Value) (l xs cy : List Int) (how at_ : Int) (hl : ∀ x ∈ l, I64 x) (hx : ∀ x ∈ xs, I64 x) (hcy : ∀ x ∈ cy, I64 x) (hh : I64 how) (ha : I64 at_) :
    FnB Tryz.prog 4 [v0, .int .i64 how, .int .i64 at_, v3, v4] [] [sI v0 l, sI v3 xs, sI v4 cy] (IsV (.bool true)) := by
  refine fn_of [(0, v0), (1, (.int .i64 how)), (2, (.int .i64 at_)), (3, v3), (4, v4)] 142 Tryz.func4 rfl Tryz.ntmps4 (by kernel_rfl) rfl suA fun h0 => ?_
  refine WC.lenI v3 xs hmA fun hxl => ?_
  have hs0 := sysL_sml l (most := 6) (by decide) (by decide)
  have hsl := sysL_len l 6
  repeat' (first | refine go ?_ | refine goX ?_ | refine goB ?_ | (refine goG ?_; intro g) | (refine goV ?_; intro v))
  first | refine WL.callK (system_c v0 l 6 hl (by decide) (by decide)) ?_ | refine WD.callK (system_c v0 l 6 hl (by decide) (by decide)) ?_ | refine LO.callM (system_c v0 l 6 hl (by decide) (by decide)) ?_
  rintro rv bb GG ⟨vb, ms, rfl, rfl, rfl⟩
  simp only [List.nil_append, List.cons_append]
  generalize sysN l 6 = n at *
  generalize sysL l 6 = bs at *
  repeat' (first | refine go ?_ | refine goX ?_ | refine goB ?_ | (refine goG ?_; intro g) | (refine goV ?_; intro v))
  first | refine WL.callK (bent_c 6 vb ms bs n how at_ (by omega) hh ha) ?_ | refine WD.callK (bent_c 6 vb ms bs n how at_ (by omega) hh ha) ?_ | refine LO.callM (bent_c 6 vb ms bs n how at_ (by omega) hh ha) ?_
  rintro rv bb GG ⟨vc, mc, rfl, rfl, rfl⟩
  simp only [List.nil_append, List.cons_append]
  have hs1 : Sml (bentP n bs how at_).2 := bent_sml hs0
  generalize hbp : bentP n bs how at_ = bp at *
  obtain ⟨k1, cs⟩ := bp
  simp only at hs1 ⊢
  repeat' (first | refine go ?_ | refine goX ?_ | refine goB ?_ | (refine goG ?_; intro g) | (refine goV ?_; intro v))
  refine WC.lp (σ := Nat × Int × Value × (Nat → QM) × List Bd) (fun s => [(15, .int .i64 (s.1 : Int)), (11, .int .i64 s.2.1), (12, s.2.2.1), (13, .int .i64 k1), (14, vc), (3, v3), (4, v4)]) (fun _ => [])
    (fun s => [fB 6 s.2.2.1 s.2.2.2.1 s.2.2.2.2, ge h0, fB 6 vc mc cs, sI v3 xs, sI v4 cy]) (fun s => s.1 ≤ 2 ∧ Sml s.2.2.2.2) (fun s => 2 - s.1) (0, n, vb, ms, bs) ⟨Nat.zero_le _, hs0⟩ ?_ suA slA sfA
  clear hsl hs0
  rintro ⟨i, n, vb, ms, bs⟩ ⟨hi, hs⟩
  simp only at hi hs ⊢
  by_cases ci : i < 2
  · repeat' (first | refine go ?_ | refine goX ?_ | refine goB ?_ | (refine goG ?_; intro g) | (refine goV ?_; intro v))
    first | refine WL.callK (solve_c 6 vb ms bs n hs.fit) ?_ | refine WD.callK (solve_c 6 vb ms bs n hs.fit) ?_ | refine LO.callM (solve_c 6 vb ms bs n hs.fit) ?_
    rintro rv bb GG ⟨uy, my, ul, rfl, rfl, rfl⟩
    simp only [List.nil_append, List.cons_append]
    repeat' (first | refine go ?_ | refine goX ?_ | refine goB ?_ | (refine goG ?_; intro g) | (refine goV ?_; intro v))
    first | refine WL.callK (rsolve_c 6 vb ms bs n (hs.mul (by decide))) ?_ | refine WD.callK (rsolve_c 6 vb ms bs n (hs.mul (by decide))) ?_ | refine LO.callM (rsolve_c 6 vb ms bs n (hs.mul (by decide))) ?_
    rintro rv bb GG ⟨uz, mz, uw, rfl, rfl, rfl⟩
    simp only [List.nil_append, List.cons_append]
    rw [← slv_same n bs]
    have hz := slv_sml hs n
    generalize slv n bs = R at *
    obtain ⟨R1, R2, R3⟩ := R
    simp only at hz ⊢
    repeat' (first | refine go ?_ | refine goX ?_ | refine goB ?_ | (refine goG ?_; intro g) | (refine goV ?_; intro v))
    first | refine WL.callV (same_c 6 uy uz my mz R1 R1) ?_ | refine WD.callV (same_c 6 uy uz my mz R1 R1) ?_
    rw [decide_eq_true rfl]
    repeat' (first | refine go ?_ | refine goX ?_ | refine goB ?_ | (refine goG ?_; intro g) | (refine goV ?_; intro v))
    first | refine WL.callV (sameInts_c ul uw R2 R2) ?_ | refine WD.callV (sameInts_c ul uw R2 R2) ?_
    rw [decide_eq_true rfl]
    repeat' (first | refine go ?_ | refine goX ?_ | refine goB ?_ | (refine goG ?_; intro g) | (refine goV ?_; intro v))
    first | refine WL.callV (check_c 6 vb uz uw ms mz bs R1 R2 n hs.fit (by omega) (hs.mul (by omega)) (hz.1.mono (by decide))) ?_ | refine WD.callV (check_c 6 vb uz uw ms mz bs R1 R2 n hs.fit (by omega) (hs.mul (by omega)) (hz.1.mono (by decide))) ?_
    repeat' (first | refine go ?_ | refine goX ?_ | refine goB ?_ | (refine goG ?_; intro g) | (refine goV ?_; intro v))
    first | refine WL.callV (rcheck_c 6 vb uz uw ms mz bs R1 R2 n hs.fit (hs.mul (by omega)) (hz.1.mono (by decide))) ?_ | refine WD.callV (rcheck_c 6 vb uz uw ms mz bs R1 R2 n hs.fit (hs.mul (by omega)) (hz.1.mono (by decide))) ?_
    rw [← chk_same n bs]
    repeat' (first | refine go ?_ | refine goX ?_ | refine goB ?_ | (refine goG ?_; intro g) | (refine goV ?_; intro v))
    refine WC.addNil 37 4 ?_
    refine WC.lp (σ := Nat × Value × (Nat → QM)) (fun s => [(23, .int .i64 (s.1 : Int)), (22, s.2.1), (15, .int .i64 (i : Int)), (11, .int .i64 n), (12, vb), (13, .int .i64 k1), (14, vc), (3, v3), (4, v4)]) (fun s => [Ow.slice s.2.1 37 4 (qcells s.1 s.2.2)])
      (fun s => [mQ 6 s.2.2 (anyP xs s.1), fB 6 vb ms bs, ge h0, fB 6 vc mc cs, sI v3 xs, sI v4 cy]) (fun s => s.1 ≤ min 8 xs.length) (fun s => 8 - s.1) (0, .slice none 0 0, fun _ => m00) (Nat.zero_le _) ?_ suA slA (.cons (hasmQn _) sfA)
    rintro ⟨j, u, mu⟩ hj
    simp only at hj ⊢
    by_cases cc : j < xs.length ∧ j < 8
    · obtain ⟨cj, cj2⟩ := cc
      have har := @around_lt (xs.getD j 0) 20 (by decide)
      repeat' (first | refine go ?_ | refine goX ?_ | refine goB ?_ | (refine goG ?_; intro g) | (refine goV ?_; intro v))
      first | refine WL.callV (around_c (xs.getD j 0) 20 (getD_i64 hx j) (by decide)) ?_ | refine WD.callV (around_c (xs.getD j 0) 20 (getD_i64 hx j) (by decide)) ?_
      repeat' (first | refine go ?_ | refine goX ?_ | refine goB ?_ | (refine goG ?_; intro g) | (refine goV ?_; intro v))
      first | refine WL.callK (rofw_c 6 (around (xs.getD j 0) 20 - 15) 1 6 (by decide) (by decide) (by unfold B2; omega) (by decide)) ?_ | refine WD.callK (rofw_c 6 (around (xs.getD j 0) 20 - 15) 1 6 (by decide) (by decide) (by unfold B2; omega) (by decide)) ?_ | refine LO.callM (rofw_c 6 (around (xs.getD j 0) 20 - 15) 1 6 (by decide) (by decide) (by unfold B2; omega) (by decide)) ?_
      rintro _ _ _ ⟨m2, rfl, rfl, rfl⟩
      simp only [List.nil_append, List.cons_append]
      repeat' (first | refine go ?_ | refine goX ?_ | refine goB ?_ | (refine goG ?_; intro g) | (refine goV ?_; intro v))
      refine LoopEnd.mk (j + 1, v, upd mu j m2) (by show j + 1 ≤ min 8 xs.length; omega) (by show 8 - (j + 1) < 8 - j; omega) suA slA (HasAll.cons (by exact anyP_has hmA hmA) sfA)
    · have hwa := anyP_wth xs j
      have hla := anyP_len xs j
      by_cases cj : j < xs.length
      · have hj8 : j = 8 := by omega
        repeat' (first | refine go ?_ | refine goX ?_ | refine goB ?_ | (refine goG ?_; intro g) | (refine goV ?_; intro v))
        refine WL.freezeR (D := 6) (el := 37) u mu (anyP xs j) (by rw [hla]; repeat (first | exact Sel.head | apply Sel.tail)) hmA ?_
        first | refine WL.callO (take_c v4 cy 8 (by decide)) (fun rv => ?_) | refine WD.callO (take_c v4 cy 8 (by decide)) (fun rv => ?_)
        have htl : (cy.take 8).length ≤ 8 := by rw [List.length_take]; omega
        generalize cy.take 8 = few at *
        refine WL.freezeI (l := few) (v := rv) (el := 3) (by repeat (first | exact Sel.head | apply Sel.tail)) ?_
        refine WL.fact' (sI (.slice none 0 0) []) nil0 ?_
        refine WL.fact' (fR 6 (.slice none 0 0) (fun _ => m00) []) hasfR0 ?_
        repeat' (first | refine go ?_ | refine goX ?_ | refine goB ?_ | (refine goG ?_; intro g) | (refine goV ?_; intro v))
        first | refine WL.callV (check_c 6 vb u (.slice none 0 0) ms mu bs (anyP xs j) [] n hs.fit (by decide) (hs.mul (by decide)) (hwa.mono (by decide))) ?_ | refine WD.callV (check_c 6 vb u (.slice none 0 0) ms mu bs (anyP xs j) [] n hs.fit (by decide) (hs.mul (by decide)) (hwa.mono (by decide))) ?_
        repeat' (first | refine go ?_ | refine goX ?_ | refine goB ?_ | (refine goG ?_; intro g) | (refine goV ?_; intro v))
        first | refine WL.callV (rcheck_c 6 vb u (.slice none 0 0) ms mu bs (anyP xs j) [] n hs.fit (hs.mul (by decide)) (hwa.mono (by decide))) ?_ | refine WD.callV (rcheck_c 6 vb u (.slice none 0 0) ms mu bs (anyP xs j) [] n hs.fit (hs.mul (by decide)) (hwa.mono (by decide))) ?_
        rw [← chk_same n bs]
        repeat' (first | refine go ?_ | refine goX ?_ | refine goB ?_ | (refine goG ?_; intro g) | (refine goV ?_; intro v))
        first | refine WL.callV (check_c 6 vb u rv ms mu bs (anyP xs j) few n hs.fit (by omega) (hs.mul (by omega)) (hwa.mono (by decide))) ?_ | refine WD.callV (check_c 6 vb u rv ms mu bs (anyP xs j) few n hs.fit (by omega) (hs.mul (by omega)) (hwa.mono (by decide))) ?_
        repeat' (first | refine go ?_ | refine goX ?_ | refine goB ?_ | (refine goG ?_; intro g) | (refine goV ?_; intro v))
        first | refine WL.callV (rcheck_c 6 vb u rv ms mu bs (anyP xs j) few n hs.fit (hs.mul (by omega)) (hwa.mono (by decide))) ?_ | refine WD.callV (rcheck_c 6 vb u rv ms mu bs (anyP xs j) few n hs.fit (hs.mul (by omega)) (hwa.mono (by decide))) ?_
        rw [← chk_same n bs]
        repeat' (first | refine go ?_ | refine goX ?_ | refine goB ?_ | (refine goG ?_; intro g) | (refine goV ?_; intro v))
        first | refine WL.callV (check_c 6 vb (.slice none 0 0) rv ms (fun _ => m00) bs [] few n hs.fit (by omega) (hs.mul (by omega)) (Wth.nil)) ?_ | refine WD.callV (check_c 6 vb (.slice none 0 0) rv ms (fun _ => m00) bs [] few n hs.fit (by omega) (hs.mul (by omega)) (Wth.nil)) ?_
        repeat' (first | refine go ?_ | refine goX ?_ | refine goB ?_ | (refine goG ?_; intro g) | (refine goV ?_; intro v))
        first | refine WL.callV (rcheck_c 6 vb (.slice none 0 0) rv ms (fun _ => m00) bs [] few n hs.fit (hs.mul (by omega)) (Wth.nil)) ?_ | refine WD.callV (rcheck_c 6 vb (.slice none 0 0) rv ms (fun _ => m00) bs [] few n hs.fit (hs.mul (by omega)) (Wth.nil)) ?_
        rw [← chk_same n bs]
        repeat' (first | refine go ?_ | refine goX ?_ | refine goB ?_ | (refine goG ?_; intro g) | (refine goV ?_; intro v))
        exact LoopEnd.mk (i + 1, k1, vc, mc, cs) ⟨by show i + 1 ≤ 2; omega, hs1⟩ (by show 2 - (i + 1) < 2 - i; omega) suA slA sfA
      · repeat' (first | refine go ?_ | refine goX ?_ | refine goB ?_ | (refine goG ?_; intro g) | (refine goV ?_; intro v))
        refine WL.freezeR (D := 6) (el := 37) u mu (anyP xs j) (by rw [hla]; repeat (first | exact Sel.head | apply Sel.tail)) hmA ?_
        first | refine WL.callO (take_c v4 cy 8 (by decide)) (fun rv => ?_) | refine WD.callO (take_c v4 cy 8 (by decide)) (fun rv => ?_)
        have htl : (cy.take 8).length ≤ 8 := by rw [List.length_take]; omega
        generalize cy.take 8 = few at *
        refine WL.freezeI (l := few) (v := rv) (el := 3) (by repeat (first | exact Sel.head | apply Sel.tail)) ?_
        refine WL.fact' (sI (.slice none 0 0) []) nil0 ?_
        refine WL.fact' (fR 6 (.slice none 0 0) (fun _ => m00) []) hasfR0 ?_
        repeat' (first | refine go ?_ | refine goX ?_ | refine goB ?_ | (refine goG ?_; intro g) | (refine goV ?_; intro v))
        first | refine WL.callV (check_c 6 vb u (.slice none 0 0) ms mu bs (anyP xs j) [] n hs.fit (by decide) (hs.mul (by decide)) (hwa.mono (by decide))) ?_ | refine WD.callV (check_c 6 vb u (.slice none 0 0) ms mu bs (anyP xs j) [] n hs.fit (by decide) (hs.mul (by decide)) (hwa.mono (by decide))) ?_
        repeat' (first | refine go ?_ | refine goX ?_ | refine goB ?_ | (refine goG ?_; intro g) | (refine goV ?_; intro v))
        first | refine WL.callV (rcheck_c 6 vb u (.slice none 0 0) ms mu bs (anyP xs j) [] n hs.fit (hs.mul (by decide)) (hwa.mono (by decide))) ?_ | refine WD.callV (rcheck_c 6 vb u (.slice none 0 0) ms mu bs (anyP xs j) [] n hs.fit (hs.mul (by decide)) (hwa.mono (by decide))) ?_
        rw [← chk_same n bs]
        repeat' (first | refine go ?_ | refine goX ?_ | refine goB ?_ | (refine goG ?_; intro g) | (refine goV ?_; intro v))
        first | refine WL.callV (check_c 6 vb u rv ms mu bs (anyP xs j) few n hs.fit (by omega) (hs.mul (by omega)) (hwa.mono (by decide))) ?_ | refine WD.callV (check_c 6 vb u rv ms mu bs (anyP xs j) few n hs.fit (by omega) (hs.mul (by omega)) (hwa.mono (by decide))) ?_
        repeat' (first | refine go ?_ | refine goX ?_ | refine goB ?_ | (refine goG ?_; intro g) | (refine goV ?_; intro v))
        first | refine WL.callV (rcheck_c 6 vb u rv ms mu bs (anyP xs j) few n hs.fit (hs.mul (by omega)) (hwa.mono (by decide))) ?_ | refine WD.callV (rcheck_c 6 vb u rv ms mu bs (anyP xs j) few n hs.fit (hs.mul (by omega)) (hwa.mono (by decide))) ?_
        rw [← chk_same n bs]
        repeat' (first | refine go ?_ | refine goX ?_ | refine goB ?_ | (refine goG ?_; intro g) | (refine goV ?_; intro v))
        first | refine WL.callV (check_c 6 vb (.slice none 0 0) rv ms (fun _ => m00) bs [] few n hs.fit (by omega) (hs.mul (by omega)) (Wth.nil)) ?_ | refine WD.callV (check_c 6 vb (.slice none 0 0) rv ms (fun _ => m00) bs [] few n hs.fit (by omega) (hs.mul (by omega)) (Wth.nil)) ?_
        repeat' (first | refine go ?_ | refine goX ?_ | refine goB ?_ | (refine goG ?_; intro g) | (refine goV ?_; intro v))
        first | refine WL.callV (rcheck_c 6 vb (.slice none 0 0) rv ms (fun _ => m00) bs [] few n hs.fit (hs.mul (by omega)) (Wth.nil)) ?_ | refine WD.callV (rcheck_c 6 vb (.slice none 0 0) rv ms (fun _ => m00) bs [] few n hs.fit (hs.mul (by omega)) (Wth.nil)) ?_
        rw [← chk_same n bs]
        repeat' (first | refine go ?_ | refine goX ?_ | refine goB ?_ | (refine goG ?_; intro g) | (refine goV ?_; intro v))
        exact LoopEnd.mk (i + 1, k1, vc, mc, cs) ⟨by show i + 1 ≤ 2; omega, hs1⟩ (by show 2 - (i + 1) < 2 - i; omega) suA slA sfA
  · obtain rfl : i = 2 := by omega
    repeat' (first | refine go ?_ | refine goX ?_ | refine goB ?_ | (refine goG ?_; intro g) | (refine goV ?_; intro v))
    first | refine WL.callV (lives_c) ?_ | refine WD.callV (lives_c) ?_
    repeat' (first | refine go ?_ | refine goX ?_ | refine goB ?_ | (refine goG ?_; intro g) | (refine goV ?_; intro v))
    exact WC.ret (Fin.v (ResE.t1 rfl rfl) meA rfl)
end J
end Go.Proofs.YthggloiigkbfeaaGreat
namespace Go.Proofs.YthggloiigkbfeaaGreat
open Go.ChangeShapes Go.WideShapes Go.ChangeAt Go.RowKit
open W
theorem Tryz.int3 : Tryz.prog.underlying 3 = some (.int .i64) := by kernel_rfl
theorem Tryz.sl22 : Tryz.prog.underlying 22 = some (.slice 3) := by kernel_rfl
theorem Tryz.bool4 : Tryz.prog.underlying 4 = some .bool := by kernel_rfl
theorem Tryz.one3 : Tryz.prog.cellsOf 3 = 1 := by kernel_rfl
set_option maxRecDepth 100000 in
theorem boundsSolves_lifted (os : Os) (started : os.Started) (H : Type) (enc : TypeId × Value → H) :
    ReturnsInHanded {} Tryz.checked os 4 .any (Rows.boundsSolvesSpec.pre6 enc Tryz.prog Tryz.f4 Rows.boundsSolvesRow.domain false) (Rows.boundsSolvesSpec.post enc Tryz.prog Tryz.f4 false true false false) := by
  refine returnsInHanded_of_change (C := Tryz.checked) Tryz.own started (by kernel_rfl) Tryz.func4
    (ChangeSpec.witness6 (enc := enc) (C := Tryz.checked) false ⟨#[], #[.slice none 0 0, .int .i64 0, .int .i64 0, .slice none 0 0, .slice none 0 0], []⟩ 8 (by kernel_rfl) (by kernel_rfl) (by kernel_rfl) (by kernel_rfl)) ?_
  intro V1 base args ds gs before hval0 hW hcnd _
  have hval : ∀ (j : Nat) t v, Tryz.f4.params[j]? = some t → args[j]? = some v → Value.okWide Tryz.prog V1 .any base t v := hval0
  have hW' := hW
  obtain ⟨p, q, hA0, hV, rfl, hfz, hnd⟩ := hW
  have hA : DataW.TrodAll enc Tryz.prog V1 0 (fun _ => true) true Tryz.f4.params.toList args.toList ds p := hA0
  rw [Tryz.params4] at hA hval
  obtain ⟨args⟩ := args
  obtain ⟨v0, a1, d0, e1, p0, q1, rfl, rfl, rfl, h0, hA⟩ := trodAll_cons hA
  obtain ⟨v1, a2, d1, e2, p1, q2, rfl, rfl, rfl, h1, hA⟩ := trodAll_cons hA
  obtain ⟨v2, a3, d2, e3, p2, q3, rfl, rfl, rfl, h2, hA⟩ := trodAll_cons hA
  obtain ⟨v3, a4, d3, e4, p3, q4, rfl, rfl, rfl, h3, hA⟩ := trodAll_cons hA
  obtain ⟨v4, a5, d4, e5, p4, q5, rfl, rfl, rfl, h4, hA⟩ := trodAll_cons hA
  obtain ⟨rfl, rfl, rfl⟩ := trodAll_nil hA
  obtain ⟨rfl, rfl⟩ := trodVars_none hV
  obtain ⟨l0, hl0, f0, g0⟩ := arg_ints Tryz.sl22 Tryz.int3 Tryz.one3 (hval 0 22 v0 rfl rfl) h0
  obtain ⟨n1, rfl, hl1, g1⟩ := arg_int Tryz.int3 (hval 1 3 v1 rfl rfl) h1
  obtain ⟨n2, rfl, hl2, g2⟩ := arg_int Tryz.int3 (hval 2 3 v2 rfl rfl) h2
  obtain ⟨l3, hl3, f3, g3⟩ := arg_ints Tryz.sl22 Tryz.int3 Tryz.one3 (hval 3 22 v3 rfl rfl) h3
  obtain ⟨l4, hl4, f4, g4⟩ := arg_ints Tryz.sl22 Tryz.int3 Tryz.one3 (hval 4 22 v4 rfl rfl) h4
  simp only [List.append_nil] at hW'
  refine (law_calls (J.solvesLaw_c v0 v3 v4 l0 l3 l4 n1 n2 hl0 hl3 hl4 hl1 hl2) (fun g hg => ?_)).mono fun e V2 hh2 => ?_
  · simp only [List.mem_cons, List.not_mem_nil, or_false] at hg
    rcases hg with rfl | rfl | rfl
    · exact f0
    · exact f3
    · exact f4
  · obtain ⟨he, hr, hE⟩ := hh2
    refine ⟨_, he, post_law hW' (fun _ _ _ => trodAll_mk1 (shut_bool Tryz.bool4 _)) (fun sp hsp => ?_) (fun _ => rfl) hr hE (ok_one (by kernel_rfl) rfl (okWide_bool_mk Tryz.bool4 _))⟩
    have := (AgainAll.cons g0 (AgainAll.cons g1 (AgainAll.cons g2 (AgainAll.cons g3 (AgainAll.cons g4 AgainAll.nil))))) V2 sp hE (by simpa using hsp)
    simp only [List.append_nil] at this
    show DataW.TrodAll enc Tryz.prog V2 0 sp true Tryz.f4.params.toList _ _ _
    rw [Tryz.params4]
    exact this
theorem boundsSolves_holds : Rows.BoundsSolvesSaid :=
  OpenClaim.holds_of_wide 4 Tryz.f4 rfl rfl rfl rfl rfl rfl rfl ⟨rfl, rfl, rfl, rfl, rfl⟩ rfl rfl rfl rfl rfl (by kernel_rfl) Tryz.func4 (by kernel_rfl)
    (of_decide_eq_true (by kernel_rfl)) (by unfold Func.isWrapper; first | (rw [if_pos (by decide +kernel)]; kernel_rfl) | (rw [if_neg (by decide +kernel)]; exact ⟨rfl, rfl⟩))
    (fun os started H enc _ => boundsSolves_lifted os started H enc)
#print axioms boundsSolves_holds
end Go.Proofs.YthggloiigkbfeaaGreat
