/- Lemmas for the proof of a law: Plain notions: tasks made from numbers. Conditions: none. -/
import Derived.Test.YtgacbfckaglhbaaBo2
import Derived.Test.YtgacbfckaglhbaaBo1
namespace Go.Proofs.Ytgacbfckaglhbaa

def machP (l : List Int) : Int := 1 + atP l 0 3
def allP (l : List Int) : Int := 1 * 2 ^ (machP l).toNat - 1
def tyP (l : List Int) (i : Nat) : Int := (((atP l ((3 * (i : Int) + 3)) 1024).toNat &&& (atP l ((3 * (i : Int) + 2)) 1024).toNat : Nat) : Int)
def txP (l : List Int) (i : Nat) : Int := atP l (3 * (i : Int) + 2) 1024
def tonP (l : List Int) (i : Nat) : Int := if 0 < txP l i % 3 ∧ 0 < (((txP l i / 3).toNat &&& (allP l).toNat : Nat) : Int) then (((txP l i / 3).toNat &&& (allP l).toNat : Nat) : Int) else allP l
def aftP (y : Int) : Nat → List Int
  | 0 => []
  | k + 1 => if y / 2 ^ ((k : Int)).toNat % 2 = 1 then aftP y k ++ [(k : Int)] else aftP y k
def tkP (l : List Int) (i : Nat) : Tk := ⟨1 + atP l (3 * (i : Int) + 1) 9, tonP l i, aftP (tyP l i) i⟩
def tasksN (l : List Int) : Nat → List Tk
  | 0 => []
  | n + 1 => tasksN l n ++ [tkP l n]
def cntP (l : List Int) (most : Nat) : Nat := min most ((l.length + 1) / 3)
abbrev tasksP (l : List Int) (most : Nat) : List Tk := tasksN l (cntP l most)

theorem tasksN_len {l : List Int} : ∀ n, (tasksN l n).length = n
  | 0 => rfl
  | n + 1 => by simp [tasksN, tasksN_len n]
theorem tasksN_get {l : List Int} : ∀ {n i : Nat}, i < n → tg (tasksN l n) i = tkP l i
  | n + 1, i, hi => by
    by_cases h : i < n
    · rw [tasksN, tg, List.getD_eq_getElem?_getD, List.getElem?_append_left (by rw [tasksN_len]; exact h), ← List.getD_eq_getElem?_getD]
      exact tasksN_get h
    · obtain rfl : i = n := by omega
      simp [tasksN, tg, List.getD_eq_getElem?_getD, tasksN_len]
theorem mach_bd (l : List Int) : 1 ≤ machP l ∧ machP l ≤ 3 := by
  have := atP_bd (l := l) (i := 0) (m := 3) (by decide)
  unfold machP; omega
theorem all_bd (l : List Int) : 1 ≤ allP l ∧ allP l ≤ 7 ∧ allP l = 2 ^ (machP l).toNat - 1 := by
  have h := mach_bd l
  have e : allP l = 2 ^ (machP l).toNat - 1 := by unfold allP; omega
  rw [e]
  have : (machP l).toNat = 1 ∨ (machP l).toNat = 2 ∨ (machP l).toNat = 3 := by omega
  rcases this with h | h | h <;> rw [h] <;> decide
theorem aft_mem {y : Int} : ∀ {k : Nat} {x : Int}, x ∈ aftP y k → 0 ≤ x ∧ x < k
  | k + 1, x, h => by
    rw [aftP] at h
    split at h
    · rcases List.mem_append.1 h with h | h
      · have := aft_mem h; omega
      · simp at h; omega
    · have := aft_mem h; omega
theorem aft_len {y : Int} : ∀ k, (aftP y k).length ≤ k
  | 0 => by simp [aftP]
  | k + 1 => by
    have := aft_len (y := y) k
    rw [aftP]; split <;> simp <;> omega
theorem aft_good {y : Int} : ∀ k, GoodAfter k (aftP y k) (aftP y k).length
  | 0 => fun j hj => by simp [aftP] at hj
  | k + 1 => fun j hj => by
    have ih := aft_good (y := y) k
    have hm : ∀ x ∈ aftP y k, 0 ≤ x ∧ x < k := fun x hx => aft_mem hx
    rw [aftP] at hj ⊢
    split at hj
    · rename_i h
      rw [if_pos h]
      simp only [List.length_append, List.length_cons, List.length_nil] at hj
      have hg : ∀ q, q < (aftP y k).length → (aftP y k ++ [(k : Int)]).getD q 0 = (aftP y k).getD q 0 := fun q hq => by
        simp only [List.getD_eq_getElem?_getD, List.getElem?_append_left hq]
      by_cases hjl : j < (aftP y k).length
      · have h3 := ih j hjl
        rw [hg j hjl]
        refine ⟨h3.1, by omega, fun h0 => ?_⟩
        rw [hg _ (by omega)]; exact h3.2.2 h0
      · have hje : j = (aftP y k).length := by omega
        have hk : (aftP y k ++ [(k : Int)]).getD j 0 = k := by subst hje; simp [List.getD_eq_getElem?_getD]
        rw [hk]
        refine ⟨by omega, by omega, fun h0 => ?_⟩
        rw [hg _ (by omega)]
        have hq : j - 1 < (aftP y k).length := by omega
        have := hm _ (show (aftP y k).getD (j - 1) 0 ∈ aftP y k by rw [List.getD_eq_getElem?_getD, List.getElem?_eq_getElem hq]; exact List.getElem_mem _)
        omega
    · rename_i h
      rw [if_neg h]
      have h3 := ih j hj
      exact ⟨h3.1, by omega, h3.2.2⟩
theorem ton_bd (l : List Int) (i : Nat) : 1 ≤ tonP l i ∧ tonP l i ≤ allP l := by
  have h := all_bd l
  unfold tonP
  split
  · rename_i hc
    have : (txP l i / 3).toNat &&& (allP l).toNat ≤ (allP l).toNat := Nat.and_le_right
    omega
  · omega
theorem tk_good (l : List Int) (i : Nat) : Good (machP l).toNat i (tkP l i) := by
  have h1 := atP_bd (l := l) (i := 3 * (i : Int) + 1) (m := 9) (by decide)
  have h2 := ton_bd l i
  have h3 := all_bd l
  exact ⟨by show 1 ≤ 1 + _; omega, by show 1 + _ ≤ (20 : Int); omega, h2.1, by show tonP l i < _; omega, aft_good i⟩
theorem tasks_good (l : List Int) (n : Nat) : AllGood (machP l).toNat (tasksN l n) := fun i hi => by
  rw [tasksN_len] at hi
  rw [tasksN_get hi]; exact tk_good l i
theorem tasks_valid (l : List Int) (most : Nat) (hm : most ≤ 10) : validE (tasksP l most) (machP l) = 0 := by
  have h := mach_bd l
  have := validE_ok (ts := tasksP l most) (m := (machP l).toNat) (by rw [tasksN_len, cntP]; omega) (by omega) (by omega) (tasks_good l _)
  rwa [Int.toNat_of_nonneg (by omega)] at this
theorem good_i64 {M : Nat} {ts : List Tk} (hg : AllGood M ts) (hM : M ≤ 4) (hn : ts.length ≤ 10) : TI64 ts := fun i => by
  have h1 := good_time hg i
  have h2 := good_on hg hM i
  refine ⟨by unfold I64; omega, by unfold I64; omega, fun x hx => ?_⟩
  by_cases hi : i < ts.length
  · obtain ⟨q, hq, rfl⟩ : ∃ q, q < (tg ts i).after.length ∧ (tg ts i).after.getD q 0 = x := by
      obtain ⟨q, hq, he⟩ := List.mem_iff_getElem.1 hx
      exact ⟨q, hq, by rw [List.getD_eq_getElem?_getD, List.getElem?_eq_getElem hq]; simpa using he⟩
    have := good_after hg hi q hq
    unfold I64; omega
  · simp [hi, tk0] at hx
end Go.Proofs.Ytgacbfckaglhbaa
namespace Go.Proofs.Ytgacbfckaglhbaa
open W Go.RowKit

/-- the cells of a search: the tasks, the machines, the goal, the best plan, the map of what was met -/
abbrev srch (v : Value) (M : Nat) (goal : Int) (B : List Int) (mp : Value) : List Value := v :: .int .i64 (M : Int) :: .int .i64 goal :: (ints B ++ [mp])
theorem srch_b {v mp : Value} {M : Nat} {goal : Int} {B : List Int} {q : Nat} (hB : B.length = 26) (hq : q < 26) : (srch v M goal B mp)[3 + q]? = some (.int .i64 (B.getD q 0)) := by
  rw [show 3 + q = q + 1 + 1 + 1 by omega]
  simp only [List.getElem?_cons_succ]
  rw [List.getElem?_append_left (by simp; omega)]
  exact ints_at (by omega)
theorem srch_m {v mp : Value} {M : Nat} {goal : Int} {B : List Int} (hB : B.length = 26) : (srch v M goal B mp)[29]? = some mp := by
  rw [show 29 = 26 + 1 + 1 + 1 by omega]
  simp only [List.getElem?_cons_succ]
  rw [List.getElem?_append_right (by simp; omega)]
  simp [hB]
section
variable {P : Program} {e : Env} {bx : List Ow} {F : List Fct} {ty t tg : TypeId} {x : Operand} {v mp : Value} {M g : Nat} {goal : Int} {B : List Int}
theorem YO.ldSF (hs : Scalar P t) (hx : ev e x = some (.pointer (some ⟨g, 28, none⟩))) (hb : Has F (ce g tg (srch v M goal B mp))) (hB : B.length = 26) : YO P (.load t x) ty e bx F (.int .i64 (B.getD 25 0)) := YO.ldF hs hx hb (srch_b (q := 25) hB (by decide))
theorem YO.ldSO (hs : Scalar P t) (hx : ev e x = some (.pointer (some ⟨g, 28, none⟩))) (hb : Ow.cells g tg (srch v M goal B mp) ∈ bx) (hB : B.length = 26) : YO P (.load t x) ty e bx F (.int .i64 (B.getD 25 0)) := YO.ldB hs hx hb (srch_b (q := 25) hB (by decide))
theorem YO.ldSMO (hs : Scalar P t) (hx : ev e x = some (.pointer (some ⟨g, 29, none⟩))) (hb : Ow.cells g tg (srch v M goal B mp) ∈ bx) (hB : B.length = 26) : YO P (.load t x) ty e bx F mp := YO.ldB hs hx hb (srch_m hB)
theorem YO.ldP3F {c : Value} {j : Nat} {cs : List Value} (hs : Scalar P t) (hx : ev e x = some (.pointer (some ⟨g, j, none⟩))) (hb : Has F (ce g tg cs)) (hv : cs[j]? = some c) : YO P (.load t x) ty e bx F c := YO.ldF hs hx hb hv
end
attribute [local irreducible] WC WL WD YO LO LoopEnd W.Fin Scalar SliceT FieldAt Row ArrT AllocT KnS Has W.One SrcE IntT
theorem goX {G G' : Prop} (h : G') (s : Bx G' → G := by
  intro h
  (apply WL.k_load; (first | (apply YO.ldSF; (first | exact T.sc3 | exact T.sc4 | exact T.sc5 | exact T.sc9 | exact T.sc22 | exact T.sc23 | exact T.sc28 | exact T.sc39 | exact T.sc44 | exact T.sc46 | exact T.sc51 | exact T.sc60 | exact T.sc66 | exact T.sc72 | exact T.sc84 | exact T.sc90 | exact T.sc91 | exact T.sc106 | exact T.sc108 | exact T.sc110); exact rfl; (focus (apply Has.mem; (repeat (first | exact List.Mem.head _ | apply List.Mem.tail)); done)); omega) | (apply YO.ldSO; (first | exact T.sc3 | exact T.sc4 | exact T.sc5 | exact T.sc9 | exact T.sc22 | exact T.sc23 | exact T.sc28 | exact T.sc39 | exact T.sc44 | exact T.sc46 | exact T.sc51 | exact T.sc60 | exact T.sc66 | exact T.sc72 | exact T.sc84 | exact T.sc90 | exact T.sc91 | exact T.sc106 | exact T.sc108 | exact T.sc110); exact rfl; (repeat (first | exact List.Mem.head _ | apply List.Mem.tail)); omega) | (apply YO.ldSMO; (first | exact T.sc3 | exact T.sc4 | exact T.sc5 | exact T.sc9 | exact T.sc22 | exact T.sc23 | exact T.sc28 | exact T.sc39 | exact T.sc44 | exact T.sc46 | exact T.sc51 | exact T.sc60 | exact T.sc66 | exact T.sc72 | exact T.sc84 | exact T.sc90 | exact T.sc91 | exact T.sc106 | exact T.sc108 | exact T.sc110); exact rfl; (repeat (first | exact List.Mem.head _ | apply List.Mem.tail)); omega)); exact rfl; exact rfl)
  exact Bx.h h) : G := s ⟨h⟩
theorem goXD {G G' : Prop} (h : G') (s : Bx G' → G := by
  intro h
  (apply WD.k_load; exact rfl; (first | (apply YO.ldSF; (first | exact T.sc3 | exact T.sc4 | exact T.sc5 | exact T.sc9 | exact T.sc22 | exact T.sc23 | exact T.sc28 | exact T.sc39 | exact T.sc44 | exact T.sc46 | exact T.sc51 | exact T.sc60 | exact T.sc66 | exact T.sc72 | exact T.sc84 | exact T.sc90 | exact T.sc91 | exact T.sc106 | exact T.sc108 | exact T.sc110); exact rfl; (focus (apply Has.mem; (repeat (first | exact List.Mem.head _ | apply List.Mem.tail)); done)); omega) | (apply YO.ldSO; (first | exact T.sc3 | exact T.sc4 | exact T.sc5 | exact T.sc9 | exact T.sc22 | exact T.sc23 | exact T.sc28 | exact T.sc39 | exact T.sc44 | exact T.sc46 | exact T.sc51 | exact T.sc60 | exact T.sc66 | exact T.sc72 | exact T.sc84 | exact T.sc90 | exact T.sc91 | exact T.sc106 | exact T.sc108 | exact T.sc110); exact rfl; (repeat (first | exact List.Mem.head _ | apply List.Mem.tail)); omega) | (apply YO.ldSMO; (first | exact T.sc3 | exact T.sc4 | exact T.sc5 | exact T.sc9 | exact T.sc22 | exact T.sc23 | exact T.sc28 | exact T.sc39 | exact T.sc44 | exact T.sc46 | exact T.sc51 | exact T.sc60 | exact T.sc66 | exact T.sc72 | exact T.sc84 | exact T.sc90 | exact T.sc91 | exact T.sc106 | exact T.sc108 | exact T.sc110); exact rfl; (repeat (first | exact List.Mem.head _ | apply List.Mem.tail)); omega)); exact rfl; exact rfl)
  exact Bx.h h) : G := s ⟨h⟩
end Go.Proofs.Ytgacbfckaglhbaa
namespace Go.Proofs.Ytgacbfckaglhbaa
open W Go.RowKit
attribute [local irreducible] WC WL WD YO LO LoopEnd W.Fin Scalar SliceT FieldAt Row ArrT AllocT KnS Has W.One SrcE IntT

set_option maxRecDepth 2000 in
theorem rvalid_c (v : Value) (avs : List Value) (ts : List Tk) (m : Int) :
    FnB Try.prog 12 [v, .int .i64 m] [] [sT v avs ts, sA avs ts] (IsV (.int .i64 (validE ts m))) := by
  refine fn_of [(0, v), (1, .int .i64 m)] 98 Try.func12 rfl Try.ntmps12 (by kernel_rfl) rfl (by repeat (first | exact Sub.nil _ | refine Sub.cons rfl ?_)) fun h0 => ?_
  by_cases hl : 10 < ts.length
  · repeat' (first | refine go ?_ | refine goX ?_ | refine goB ?_ | (refine goG ?_; intro g) | (refine goV ?_; intro v))
    refine WC.ret ?_
    exact Fin.v (ResE.t1 rfl rfl) (by (repeat (first | exact List.Mem.head _ | apply List.Mem.tail)); done) (by rw [validE_limit hl])
  by_cases h1 : m < 1
  · repeat' (first | refine go ?_ | refine goX ?_ | refine goB ?_ | (refine goG ?_; intro g) | (refine goV ?_; intro v))
    refine WC.ret ?_
    exact Fin.v (ResE.t1 rfl rfl) (by (repeat (first | exact List.Mem.head _ | apply List.Mem.tail)); done) (by rw [validE_m (by omega) (.inl h1)])
  by_cases h2 : 4 < m
  · repeat' (first | refine go ?_ | refine goX ?_ | refine goB ?_ | (refine goG ?_; intro g) | (refine goV ?_; intro v))
    refine WC.ret ?_
    exact Fin.v (ResE.t1 rfl rfl) (by (repeat (first | exact List.Mem.head _ | apply List.Mem.tail)); done) (by rw [validE_m (by omega) (.inr h2)])
  obtain ⟨M, rfl⟩ : ∃ M : Nat, m = M := ⟨m.toNat, by omega⟩
  have hp := pow_16 (M := M) (by omega)
  have hp1 := pow_1 M
  repeat' (first | refine go ?_ | refine goX ?_ | refine goB ?_ | (refine goG ?_; intro g) | (refine goV ?_; intro v))
  refine WC.lp (σ := Nat) (fun k => [(5, .int .i64 (k : Int)), (0, v), (1, .int .i64 M)]) (fun _ => []) (fun _ => [ge h0, sT v avs ts, sA avs ts]) (fun k => k ≤ ts.length ∧ ∀ j, j < k → Good M j (tg ts j)) (fun k => ts.length - k) 0 (by simp) ?_
  rintro k ⟨hk, hg⟩
  by_cases hlt : k < ts.length
  · have hbad : ¬ Good M k (tg ts k) → validE ts M = 1 := validE_bad (by omega) k hlt
    by_cases c1 : (tg ts k).time < 1
    · repeat' (first | refine go ?_ | refine goX ?_ | refine goB ?_ | (refine goG ?_; intro g) | (refine goV ?_; intro v))
      refine WC.ret ?_
      exact Fin.v (ResE.t1 rfl rfl) (by (repeat (first | exact List.Mem.head _ | apply List.Mem.tail)); done) (by rw [hbad]; intro g; have := g.t1; omega)
    by_cases c2 : 20 < (tg ts k).time
    · repeat' (first | refine go ?_ | refine goX ?_ | refine goB ?_ | (refine goG ?_; intro g) | (refine goV ?_; intro v))
      refine WC.ret ?_
      exact Fin.v (ResE.t1 rfl rfl) (by (repeat (first | exact List.Mem.head _ | apply List.Mem.tail)); done) (by rw [hbad]; intro g; have := g.t2; omega)
    by_cases c3 : (tg ts k).on < 1
    · repeat' (first | refine go ?_ | refine goX ?_ | refine goB ?_ | (refine goG ?_; intro g) | (refine goV ?_; intro v))
      refine WC.ret ?_
      exact Fin.v (ResE.t1 rfl rfl) (by (repeat (first | exact List.Mem.head _ | apply List.Mem.tail)); done) (by rw [hbad]; intro g; have := g.o1; omega)
    by_cases c4 : 2 ^ M ≤ (tg ts k).on
    · have e5 := pow_e M
      have c4' : (1 : Int) * 2 ^ ((M : Int)).toNat ≤ (tg ts k).on := by rw [e5]; exact c4
      have c5 : (1 : Int) * 2 ^ ((M : Int)).toNat ≤ 9223372036854775807 := by rw [e5]; omega
      have c6 : -9223372036854775808 ≤ (1 : Int) * 2 ^ ((M : Int)).toNat := by rw [e5]; omega
      repeat' (first | refine go ?_ | refine goX ?_ | refine goB ?_ | (refine goG ?_; intro g) | (refine goV ?_; intro v))
      refine WC.ret ?_
      exact Fin.v (ResE.t1 rfl rfl) (by (repeat (first | exact List.Mem.head _ | apply List.Mem.tail)); done) (by rw [hbad]; intro g; have := g.o2; omega)
    have e5 := pow_e M
    have c4' : (tg ts k).on < (1 : Int) * 2 ^ ((M : Int)).toNat := by rw [e5]; omega
    have c5 : (1 : Int) * 2 ^ ((M : Int)).toNat ≤ 9223372036854775807 := by rw [e5]; omega
    have c6 : -9223372036854775808 ≤ (1 : Int) * 2 ^ ((M : Int)).toNat := by rw [e5]; omega
    repeat' (first | refine go ?_ | refine goX ?_ | refine goB ?_ | (refine goG ?_; intro g) | (refine goV ?_; intro v))
    clear c4' c5 c6
    refine WC.lenI (avs.getD k undef) (tg ts k).after ?_ fun hlen => ?_
    · exact hasA (Has.mem (by (repeat (first | exact List.Mem.head _ | apply List.Mem.tail)); done)) hlt
    refine WC.lp (σ := Nat) (fun j => [(6, .int .i64 (j : Int)), (5, .int .i64 (k : Int)), (0, v), (1, .int .i64 M)]) (fun _ => []) (fun _ => [ge h0, sT v avs ts, sA avs ts]) (fun j => j ≤ (tg ts k).after.length ∧ GoodAfter k (tg ts k).after j) (fun j => (tg ts k).after.length - j) 0 (by simp [GoodAfter]) ?_
    rintro j ⟨hj, hga⟩
    by_cases hjl : j < (tg ts k).after.length
    · by_cases d1 : (tg ts k).after.getD j 0 < 0
      · repeat' (first | refine go ?_ | refine goX ?_ | refine goB ?_ | (refine goG ?_; intro g) | (refine goV ?_; intro v))
        refine WC.ret ?_
        exact Fin.v (ResE.t1 rfl rfl) (by (repeat (first | exact List.Mem.head _ | apply List.Mem.tail)); done) (by rw [hbad]; intro g; have := (g.a j hjl).1; omega)
      by_cases d2 : (k : Int) ≤ (tg ts k).after.getD j 0
      · repeat' (first | refine go ?_ | refine goX ?_ | refine goB ?_ | (refine goG ?_; intro g) | (refine goV ?_; intro v))
        refine WC.ret ?_
        exact Fin.v (ResE.t1 rfl rfl) (by (repeat (first | exact List.Mem.head _ | apply List.Mem.tail)); done) (by rw [hbad]; intro g; have := (g.a j hjl).2.1; omega)
      have e6 : ((j : Int) - 1).toNat = j - 1 := by omega
      by_cases d3 : 0 < j
      · by_cases d4 : (tg ts k).after.getD j 0 ≤ (tg ts k).after.getD ((j : Int) - 1).toNat 0
        · repeat' (first | refine go ?_ | refine goX ?_ | refine goB ?_ | (refine goG ?_; intro g) | (refine goV ?_; intro v))
          refine WC.ret ?_
          exact Fin.v (ResE.t1 rfl rfl) (by (repeat (first | exact List.Mem.head _ | apply List.Mem.tail)); done) (by rw [hbad]; intro g; have := (g.a j hjl).2.2 d3; rw [e6] at d4; omega)
        · repeat' (first | refine go ?_ | refine goX ?_ | refine goB ?_ | (refine goG ?_; intro g) | (refine goV ?_; intro v))
          exact LoopEnd.mk (j + 1) ⟨by omega, goodAfter_succ hga d1 d2 (.inr (by rw [e6] at d4; exact d4))⟩ (by omega)
      · repeat' (first | refine go ?_ | refine goX ?_ | refine goB ?_ | (refine goG ?_; intro g) | (refine goV ?_; intro v))
        exact LoopEnd.mk (j + 1) ⟨by omega, goodAfter_succ hga d1 d2 (.inl d3)⟩ (by omega)
    · repeat' (first | refine go ?_ | refine goX ?_ | refine goB ?_ | (refine goG ?_; intro g) | (refine goV ?_; intro v))
      obtain rfl : j = (tg ts k).after.length := by omega
      exact LoopEnd.mk (k + 1) ⟨by omega, good_upto hg (good_of c1 c2 c3 c4 hga)⟩ (by omega)
  · obtain rfl : k = ts.length := by omega
    repeat' (first | refine go ?_ | refine goX ?_ | refine goB ?_ | (refine goG ?_; intro g) | (refine goV ?_; intro v))
    refine WC.ret ?_
    exact Fin.v (ResE.t1 rfl rfl) (by (repeat (first | exact List.Mem.head _ | apply List.Mem.tail)); done) (by rw [validE_ok (by omega) (by omega) (by omega) hg])

end Go.Proofs.Ytgacbfckaglhbaa
namespace Go.Proofs.Ytgacbfckaglhbaa
open W Go.RowKit
attribute [local irreducible] WC WL WD YO LO LoopEnd W.Fin Scalar SliceT FieldAt Row ArrT AllocT KnS Has W.One SrcE IntT

theorem sameInts_c (v u : Value) (l m : List Int) : FnB Try.prog 22 [v, u] [] [sI v l, sI u m] (IsV (.bool (decide (l = m)))) := by
  refine fn_of [(0, v), (1, u)] 26 Try.func22 rfl Try.ntmps22 (by kernel_rfl) rfl (by repeat (first | exact Sub.nil _ | refine Sub.cons rfl ?_)) fun h0 => ?_
  refine WC.lenI v l (Has.mem (by (repeat (first | exact List.Mem.head _ | apply List.Mem.tail)); done)) fun hlen => ?_
  by_cases hl : l.length = m.length
  · repeat' (first | refine go ?_ | refine goX ?_ | refine goB ?_ | (refine goG ?_; intro g) | (refine goV ?_; intro v) | refine goD ?_ | refine goXD ?_ | (refine goDG ?_; intro g) | (refine goDV ?_; intro v) | (apply WC.draw (id := 6) [0, 1, 2, 3, 4, 5, 6, 7, 8] (.held 0 (.held 1 (.held 2 (.held 3 (.held 4 (.held 5 (.held 6 (.held 7 (.held 8 (.done)))))))))) mixed (by kernel_rfl)))
    refine WC.lp (σ := Nat) (fun k => [(5, .int .i64 (k : Int)), (0, v), (1, u)]) (fun _ => []) (fun _ => [ge h0, sI v l, sI u m]) (fun k => k ≤ l.length ∧ ∀ j, j < k → l.getD j 0 = m.getD j 0) (fun k => l.length - k) 0 (by simp) ?_
    rintro k ⟨hk, hn⟩
    by_cases hlt : k < l.length
    · by_cases he : l.getD k 0 = m.getD k 0
      · repeat' (first | refine go ?_ | refine goX ?_ | refine goB ?_ | (refine goG ?_; intro g) | (refine goV ?_; intro v) | refine goD ?_ | refine goXD ?_ | (refine goDG ?_; intro g) | (refine goDV ?_; intro v) | (apply WC.draw (id := 6) [0, 1, 2, 3, 4, 5, 6, 7, 8] (.held 0 (.held 1 (.held 2 (.held 3 (.held 4 (.held 5 (.held 6 (.held 7 (.held 8 (.done)))))))))) mixed (by kernel_rfl)))
        exact LoopEnd.mk (k + 1) ⟨by omega, same_step hn he⟩ (by omega)
      · repeat' (first | refine go ?_ | refine goX ?_ | refine goB ?_ | (refine goG ?_; intro g) | (refine goV ?_; intro v) | refine goD ?_ | refine goXD ?_ | (refine goDG ?_; intro g) | (refine goDV ?_; intro v) | (apply WC.draw (id := 6) [0, 1, 2, 3, 4, 5, 6, 7, 8] (.held 0 (.held 1 (.held 2 (.held 3 (.held 4 (.held 5 (.held 6 (.held 7 (.held 8 (.done)))))))))) mixed (by kernel_rfl)))
        refine WC.ret ?_
        exact Fin.v (ResE.t1 rfl rfl) (by (repeat (first | exact List.Mem.head _ | apply List.Mem.tail)); done) (by rw [decide_eq_false]; rintro rfl; exact he rfl)
    · repeat' (first | refine go ?_ | refine goX ?_ | refine goB ?_ | (refine goG ?_; intro g) | (refine goV ?_; intro v) | refine goD ?_ | refine goXD ?_ | (refine goDG ?_; intro g) | (refine goDV ?_; intro v) | (apply WC.draw (id := 6) [0, 1, 2, 3, 4, 5, 6, 7, 8] (.held 0 (.held 1 (.held 2 (.held 3 (.held 4 (.held 5 (.held 6 (.held 7 (.held 8 (.done)))))))))) mixed (by kernel_rfl)))
      refine WC.ret ?_
      exact Fin.v (ResE.t1 rfl rfl) (by (repeat (first | exact List.Mem.head _ | apply List.Mem.tail)); done) (by rw [decide_eq_true]; exact same_all hl (fun j hj => hn j (by omega)))
  · have hl' : (l.length : Int) ≠ m.length := by omega
    repeat' (first | refine go ?_ | refine goX ?_ | refine goB ?_ | (refine goG ?_; intro g) | (refine goV ?_; intro v) | refine goD ?_ | refine goXD ?_ | (refine goDG ?_; intro g) | (refine goDV ?_; intro v) | (apply WC.draw (id := 6) [0, 1, 2, 3, 4, 5, 6, 7, 8] (.held 0 (.held 1 (.held 2 (.held 3 (.held 4 (.held 5 (.held 6 (.held 7 (.held 8 (.done)))))))))) mixed (by kernel_rfl)))
    refine WC.ret ?_
    exact Fin.v (ResE.t1 rfl rfl) (by (repeat (first | exact List.Mem.head _ | apply List.Mem.tail)); done) (by rw [decide_eq_false]; rintro rfl; exact hl rfl)

theorem index_c (v : Value) (l : List Int) (n : Int) : FnB Try.prog 56 [v, .int .i64 n] [] [sI v l] (IsV (.int .i64 (idxP l n))) := by
  refine fn_of [(0, v), (1, .int .i64 n)] 19 Try.func56 rfl Try.ntmps56 (by kernel_rfl) rfl (by repeat (first | exact Sub.nil _ | refine Sub.cons rfl ?_)) fun h0 => ?_
  refine WC.lenI v l (Has.mem (by (repeat (first | exact List.Mem.head _ | apply List.Mem.tail)); done)) fun hlen => ?_
  repeat' (first | refine go ?_ | refine goX ?_ | refine goB ?_ | (refine goG ?_; intro g) | (refine goV ?_; intro v))
  refine WC.lp (σ := Nat) (fun k => [(8, .int .i64 (k : Int)), (7, .int .i64 (l.length : Int)), (0, v), (1, .int .i64 n)]) (fun _ => []) (fun _ => [ge h0, sI v l]) (fun k => k ≤ l.length ∧ n ∉ l.take k) (fun k => l.length - k) 0 (by simp) ?_
  rintro k ⟨hk, hn⟩
  by_cases hlt : k < l.length
  · by_cases he : l.getD k 0 = n
    · have he' : n = l.getD k 0 := he.symm
      repeat' (first | refine go ?_ | refine goX ?_ | refine goB ?_ | (refine goG ?_; intro g) | (refine goV ?_; intro v))
      refine WC.ret ?_
      exact Fin.v (ResE.t1 rfl rfl) (by (repeat (first | exact List.Mem.head _ | apply List.Mem.tail)); done) (by rw [idxP_at hn hlt he])
    · have he' : n ≠ l.getD k 0 := fun h => he h.symm
      repeat' (first | refine go ?_ | refine goX ?_ | refine goB ?_ | (refine goG ?_; intro g) | (refine goV ?_; intro v))
      exact LoopEnd.mk (k + 1) ⟨by omega, not_mem_take_succ hn he⟩ (by omega)
  · repeat' (first | refine go ?_ | refine goX ?_ | refine goB ?_ | (refine goG ?_; intro g) | (refine goV ?_; intro v))
    refine WC.ret ?_
    exact Fin.v (ResE.t1 rfl rfl) (by (repeat (first | exact List.Mem.head _ | apply List.Mem.tail)); done) (by rw [List.take_of_length_le (by omega)] at hn; rw [idxP_no hn])

theorem contains_c (v : Value) (l : List Int) (n : Int) : FnB Try.prog 41 [v, .int .i64 n] [] [sI v l] (IsV (.bool (decide (n ∈ l)))) := by
  refine fn_of [(0, v), (1, .int .i64 n)] 9 Try.func41 rfl Try.ntmps41 (by kernel_rfl) rfl (by repeat (first | exact Sub.nil _ | refine Sub.cons rfl ?_)) fun h0 => ?_
  repeat' (first | refine go ?_ | refine goX ?_ | refine goB ?_ | (refine goG ?_; intro g) | (refine goV ?_; intro v))
  refine WL.l rfl rfl (LO.callV rfl (by repeat (first | exact Evs.nil | (apply Evs.cons; exact rfl))) (index_c v l n) (by repeat (first | exact HasAll.nil | (apply HasAll.cons; (first | (focus (apply Has.mem; (repeat (first | exact List.Mem.head _ | apply List.Mem.tail)); done)) | (focus (apply hasA; (focus (apply Has.mem; (repeat (first | exact List.Mem.head _ | apply List.Mem.tail)); done)); omega; done)) | (focus (apply Has.sc; (focus (apply Has.mem; (repeat (first | exact List.Mem.head _ | apply List.Mem.tail)); done)); omega; omega; omega; done)))))) ?_)
  by_cases h : n ∈ l
  · have h1 := idxP_nonneg.2 h
    repeat' (first | refine go ?_ | refine goX ?_ | refine goB ?_ | (refine goG ?_; intro g) | (refine goV ?_; intro v))
    refine WC.ret ?_
    exact Fin.v (ResE.t1 rfl rfl) (by (repeat (first | exact List.Mem.head _ | apply List.Mem.tail)); done) (by simp [h])
  · have h1 : idxP l n < 0 := by have := mt idxP_nonneg.1 h; omega
    repeat' (first | refine go ?_ | refine goX ?_ | refine goB ?_ | (refine goG ?_; intro g) | (refine goV ?_; intro v))
    refine WC.ret ?_
    exact Fin.v (ResE.t1 rfl rfl) (by (repeat (first | exact List.Mem.head _ | apply List.Mem.tail)); done) (by simp [h])

theorem ready_c (v sv : Value) (avs : List Value) (ts : List Tk) (st : List Int) (i : Nat) (hi : i < ts.length) (hs : st.length = ts.length) (ha : AfterIn ts i) :
    FnB Try.prog 40 [v, sv, .int .i64 i] [] [sT v avs ts, sA avs ts, sI sv st] (IsV (.bool (decide (readyP ts st i)))) := by
  refine fn_of [(0, v), (1, sv), (2, .int .i64 i)] 35 Try.func40 rfl Try.ntmps40 (by kernel_rfl) rfl (by repeat (first | exact Sub.nil _ | refine Sub.cons rfl ?_)) fun h0 => ?_
  refine WC.lenI (avs.getD i undef) (tg ts i).after (hasA (Has.mem (by (repeat (first | exact List.Mem.head _ | apply List.Mem.tail)); done)) hi) fun hlen => ?_
  by_cases h : 0 ≤ st.getD i 0
  · repeat' (first | refine go ?_ | refine goX ?_ | refine goB ?_ | (refine goG ?_; intro g) | (refine goV ?_; intro v))
    refine WC.ret ?_
    exact Fin.v (ResE.t1 rfl rfl) (by (repeat (first | exact List.Mem.head _ | apply List.Mem.tail)); done) (by rw [decide_eq_false]; intro hr; have := hr.1; omega)
  · repeat' (first | refine go ?_ | refine goX ?_ | refine goB ?_ | (refine goG ?_; intro g) | (refine goV ?_; intro v))
    refine WC.lp (σ := Nat) (fun k => [(7, .int .i64 (k : Int)), (0, v), (1, sv), (2, .int .i64 i)]) (fun _ => []) (fun _ => [ge h0, sT v avs ts, sA avs ts, sI sv st]) (fun k => k ≤ (tg ts i).after.length ∧ ∀ j, j < k → 0 ≤ st.getD ((tg ts i).after.getD j 0).toNat 0) (fun k => (tg ts i).after.length - k) 0 (by simp) ?_
    rintro k ⟨hk, hn⟩
    by_cases hlt : k < (tg ts i).after.length
    · obtain ⟨a1, a2⟩ := ha k hlt
      by_cases he : 0 ≤ st.getD ((tg ts i).after.getD k 0).toNat 0
      · repeat' (first | refine go ?_ | refine goX ?_ | refine goB ?_ | (refine goG ?_; intro g) | (refine goV ?_; intro v))
        exact LoopEnd.mk (k + 1) ⟨by omega, fun j hj => by
          by_cases hjk : j < k
          · exact hn j hjk
          · obtain rfl : j = k := by omega
            exact he⟩ (by omega)
      · repeat' (first | refine go ?_ | refine goX ?_ | refine goB ?_ | (refine goG ?_; intro g) | (refine goV ?_; intro v))
        refine WC.ret ?_
        exact Fin.v (ResE.t1 rfl rfl) (by (repeat (first | exact List.Mem.head _ | apply List.Mem.tail)); done) (by rw [decide_eq_false]; intro hr; exact he (hr.2 k hlt))
    · repeat' (first | refine go ?_ | refine goX ?_ | refine goB ?_ | (refine goG ?_; intro g) | (refine goV ?_; intro v))
      refine WC.ret ?_
      exact Fin.v (ResE.t1 rfl rfl) (by (repeat (first | exact List.Mem.head _ | apply List.Mem.tail)); done) (by rw [decide_eq_true]; exact ⟨by omega, fun j hj => hn j (by omega)⟩)

theorem place_c (v sv ov : Value) (avs : List Value) (ts : List Tk) (st on : List Int) (i : Nat) (k : Int) (hi : i < ts.length) (hs : st.length = ts.length) (ho : on.length = ts.length) (hm : Mod ts st) :
    FnB Try.prog 44 [v, sv, ov, .int .i64 i, .int .i64 k] [] [sT v avs ts, sA avs ts, sI sv st, sI ov on] (IsV (.int .i64 (placeP ts st on i k))) := by
  refine fn_of [(0, v), (1, sv), (2, ov), (3, .int .i64 i), (4, .int .i64 k)] 54 Try.func44 rfl Try.ntmps44 (by kernel_rfl) rfl (by repeat (first | exact Sub.nil _ | refine Sub.cons rfl ?_)) fun h0 => ?_
  refine WC.lenI sv st (Has.mem (by (repeat (first | exact List.Mem.head _ | apply List.Mem.tail)); done)) fun hlen => ?_
  repeat' (first | refine go ?_ | refine goX ?_ | refine goB ?_ | (refine goG ?_; intro g) | (refine goV ?_; intro v) | refine goD ?_ | refine goXD ?_ | (refine goDG ?_; intro g) | (refine goDV ?_; intro v) | (apply WC.draw (id := 6) [0, 1, 2, 3, 4, 5, 6, 7, 8, 9, 10, 11, 12] (.held 0 (.held 1 (.held 2 (.held 3 (.held 4 (.held 5 (.held 6 (.held 7 (.held 8 (.held 9 (.held 10 (.held 11 (.held 12 (.done)))))))))))))) mixed (by kernel_rfl)))
  refine WC.lp (σ := Nat) (fun j => [(12, .int .i64 (j : Int)), (11, .int .i64 (placeN ts st on i k j)), (0, v), (1, sv), (2, ov), (3, .int .i64 i), (4, .int .i64 k)]) (fun _ => []) (fun _ => [ge h0, sT v avs ts, sA avs ts, sI sv st, sI ov on]) (fun j => j ≤ ts.length) (fun j => ts.length - j) 0 (by simp) ?_
  rintro j hj
  have hb := placeN_bd (on := on) (i := i) (k := k) hm j
  have hmt := hm.t j
  have hms := hm.s j
  by_cases hlt : j < ts.length
  · have hstep : placeN ts st on i k (j + 1) = if 0 ≤ st.getD j 0 ∧ (on.getD j 0 = k ∨ (j : Int) ∈ (tg ts i).after) then max (placeN ts st on i k j) (st.getD j 0 + (tg ts j).time) else placeN ts st on i k j := rfl
    by_cases c1 : 0 ≤ st.getD j 0
    · by_cases c2 : on.getD j 0 = k
      · rw [if_pos ⟨c1, .inl c2⟩] at hstep
        repeat' (first | refine go ?_ | refine goX ?_ | refine goB ?_ | (refine goG ?_; intro g) | (refine goV ?_; intro v) | refine goD ?_ | refine goXD ?_ | (refine goDG ?_; intro g) | (refine goDV ?_; intro v) | (apply WC.draw (id := 6) [0, 1, 2, 3, 4, 5, 6, 7, 8, 9, 10, 11, 12] (.held 0 (.held 1 (.held 2 (.held 3 (.held 4 (.held 5 (.held 6 (.held 7 (.held 8 (.held 9 (.held 10 (.held 11 (.held 12 (.done)))))))))))))) mixed (by kernel_rfl)))
        exact LoopEnd.mk (j + 1) (by omega) (by omega) (by rw [hstep]; exact (by repeat (first | exact Sub.nil _ | refine Sub.cons rfl ?_))) (by repeat (first | exact List.Sublist.refl _ | exact List.nil_sublist _ | apply List.Sublist.cons_cons | apply List.Sublist.cons)) (by repeat (first | exact HasAll.nil | (apply HasAll.cons; (focus (apply Has.mem; (repeat (first | exact List.Mem.head _ | apply List.Mem.tail)); done)))))
      · repeat' (first | refine go ?_ | refine goX ?_ | refine goB ?_ | (refine goG ?_; intro g) | (refine goV ?_; intro v) | refine goD ?_ | refine goXD ?_ | (refine goDG ?_; intro g) | (refine goDV ?_; intro v) | (apply WC.draw (id := 6) [0, 1, 2, 3, 4, 5, 6, 7, 8, 9, 10, 11, 12] (.held 0 (.held 1 (.held 2 (.held 3 (.held 4 (.held 5 (.held 6 (.held 7 (.held 8 (.held 9 (.held 10 (.held 11 (.held 12 (.done)))))))))))))) mixed (by kernel_rfl)))
        refine WL.l rfl rfl (LO.callV rfl (by repeat (first | exact Evs.nil | (apply Evs.cons; exact rfl))) (has_c (avs.getD i undef) (tg ts i).after j) (by repeat (first | exact HasAll.nil | (apply HasAll.cons; (first | (focus (apply Has.mem; (repeat (first | exact List.Mem.head _ | apply List.Mem.tail)); done)) | (focus (apply hasA; (focus (apply Has.mem; (repeat (first | exact List.Mem.head _ | apply List.Mem.tail)); done)); omega; done)) | (focus (apply Has.sc; (focus (apply Has.mem; (repeat (first | exact List.Mem.head _ | apply List.Mem.tail)); done)); omega; omega; omega; done)))))) ?_)
        by_cases c3 : (j : Int) ∈ (tg ts i).after
        · rw [if_pos ⟨c1, .inr c3⟩] at hstep
          rw [decide_eq_true c3]
          repeat' (first | refine go ?_ | refine goX ?_ | refine goB ?_ | (refine goG ?_; intro g) | (refine goV ?_; intro v) | refine goD ?_ | refine goXD ?_ | (refine goDG ?_; intro g) | (refine goDV ?_; intro v) | (apply WC.draw (id := 6) [0, 1, 2, 3, 4, 5, 6, 7, 8, 9, 10, 11, 12] (.held 0 (.held 1 (.held 2 (.held 3 (.held 4 (.held 5 (.held 6 (.held 7 (.held 8 (.held 9 (.held 10 (.held 11 (.held 12 (.done)))))))))))))) mixed (by kernel_rfl)))
          exact LoopEnd.mk (j + 1) (by omega) (by omega) (by rw [hstep]; exact (by repeat (first | exact Sub.nil _ | refine Sub.cons rfl ?_))) (by repeat (first | exact List.Sublist.refl _ | exact List.nil_sublist _ | apply List.Sublist.cons_cons | apply List.Sublist.cons)) (by repeat (first | exact HasAll.nil | (apply HasAll.cons; (focus (apply Has.mem; (repeat (first | exact List.Mem.head _ | apply List.Mem.tail)); done)))))
        · rw [if_neg (by rintro ⟨_, h | h⟩; exact c2 h; exact c3 h)] at hstep
          rw [decide_eq_false c3]
          repeat' (first | refine go ?_ | refine goX ?_ | refine goB ?_ | (refine goG ?_; intro g) | (refine goV ?_; intro v) | refine goD ?_ | refine goXD ?_ | (refine goDG ?_; intro g) | (refine goDV ?_; intro v) | (apply WC.draw (id := 6) [0, 1, 2, 3, 4, 5, 6, 7, 8, 9, 10, 11, 12] (.held 0 (.held 1 (.held 2 (.held 3 (.held 4 (.held 5 (.held 6 (.held 7 (.held 8 (.held 9 (.held 10 (.held 11 (.held 12 (.done)))))))))))))) mixed (by kernel_rfl)))
          exact LoopEnd.mk (j + 1) (by omega) (by omega) (by rw [hstep]; exact (by repeat (first | exact Sub.nil _ | refine Sub.cons rfl ?_))) (by repeat (first | exact List.Sublist.refl _ | exact List.nil_sublist _ | apply List.Sublist.cons_cons | apply List.Sublist.cons)) (by repeat (first | exact HasAll.nil | (apply HasAll.cons; (focus (apply Has.mem; (repeat (first | exact List.Mem.head _ | apply List.Mem.tail)); done)))))
    · rw [if_neg (by rintro ⟨h, _⟩; exact c1 h)] at hstep
      repeat' (first | refine go ?_ | refine goX ?_ | refine goB ?_ | (refine goG ?_; intro g) | (refine goV ?_; intro v) | refine goD ?_ | refine goXD ?_ | (refine goDG ?_; intro g) | (refine goDV ?_; intro v) | (apply WC.draw (id := 6) [0, 1, 2, 3, 4, 5, 6, 7, 8, 9, 10, 11, 12] (.held 0 (.held 1 (.held 2 (.held 3 (.held 4 (.held 5 (.held 6 (.held 7 (.held 8 (.held 9 (.held 10 (.held 11 (.held 12 (.done)))))))))))))) mixed (by kernel_rfl)))
      exact LoopEnd.mk (j + 1) (by omega) (by omega) (by rw [hstep]; exact (by repeat (first | exact Sub.nil _ | refine Sub.cons rfl ?_))) (by repeat (first | exact List.Sublist.refl _ | exact List.nil_sublist _ | apply List.Sublist.cons_cons | apply List.Sublist.cons)) (by repeat (first | exact HasAll.nil | (apply HasAll.cons; (focus (apply Has.mem; (repeat (first | exact List.Mem.head _ | apply List.Mem.tail)); done)))))
  · obtain rfl : j = ts.length := by omega
    repeat' (first | refine go ?_ | refine goX ?_ | refine goB ?_ | (refine goG ?_; intro g) | (refine goV ?_; intro v) | refine goD ?_ | refine goXD ?_ | (refine goDG ?_; intro g) | (refine goDV ?_; intro v) | (apply WC.draw (id := 6) [0, 1, 2, 3, 4, 5, 6, 7, 8, 9, 10, 11, 12] (.held 0 (.held 1 (.held 2 (.held 3 (.held 4 (.held 5 (.held 6 (.held 7 (.held 8 (.held 9 (.held 10 (.held 11 (.held 12 (.done)))))))))))))) mixed (by kernel_rfl)))
    refine WC.ret ?_
    exact Fin.v (ResE.t1 rfl rfl) (by (repeat (first | exact List.Mem.head _ | apply List.Mem.tail)); done) rfl

end Go.Proofs.Ytgacbfckaglhbaa
namespace Go.Proofs.Ytgacbfckaglhbaa
open W Go.RowKit
attribute [local irreducible] WC WL WD YO LO LoopEnd W.Fin Scalar SliceT FieldAt Row ArrT AllocT KnS Has W.One SrcE IntT

theorem may_c' (t o : Int) (av : Value) (k : Int) (ho : 0 ≤ o) (ho2 : o ≤ 9223372036854775807) :
    FnB Try.prog 35 [.agg #[.int .i64 t, .int .i64 o, av], .int .i64 k] [] [] (IsV (.bool (decide (may o k)))) := by
  have := may_c t o av k ho ho2
  have e : (decide (0 ≤ k ∧ k < 4) && o.toNat.testBit k.toNat) = decide (may o k) := by
    rw [Bool.eq_iff_iff, Bool.and_eq_true, decide_eq_true_eq, decide_eq_true_eq, may, and_assoc]
  rwa [e] at this

abbrev two (r : Int × Int) : Value := .tuple #[.int .i64 r.1, .int .i64 r.2]

set_option maxHeartbeats 1000000 in
theorem rcheck_c (v sv ov : Value) (avs : List Value) (ts : List Tk) (m : Int) (st on : List Int) :
    FnB Try.prog 15 [v, .int .i64 m, sv, ov] [] [sT v avs ts, sA avs ts, sI sv st, sI ov on] (IsV (two (checkP ts m st on))) := by
  refine fn_of [(0, v), (1, .int .i64 m), (2, sv), (3, ov)] 157 Try.func15 rfl Try.ntmps15 (by kernel_rfl) rfl (by repeat (first | exact Sub.nil _ | refine Sub.cons rfl ?_)) fun h0 => ?_
  repeat' (first | refine go ?_ | refine goX ?_ | refine goB ?_ | (refine goG ?_; intro g) | (refine goV ?_; intro v) | refine goD ?_ | refine goXD ?_ | (refine goDG ?_; intro g) | (refine goDV ?_; intro v) | (apply WC.draw (id := 10) [0, 1, 2, 3, 4, 5, 6, 7, 8, 9, 10, 11, 12, 13, 14, 15, 16, 17, 18, 19, 20, 22, 23, 24, 25, 26, 27, 28, 29, 30, 31] (.held 0 (.held 1 (.held 2 (.held 3 (.held 4 (.held 5 (.held 6 (.held 7 (.held 8 (.held 9 (.held 10 (.held 11 (.held 12 (.held 13 (.held 14 (.held 15 (.held 16 (.held 17 (.held 18 (.held 19 (.held 20 (.loud 21 (.held 22 (.held 23 (.held 24 (.held 25 (.held 26 (.held 27 (.held 28 (.held 29 (.held 30 (.held 31 (.done))))))))))))))))))))))))))))))))) mixed (by kernel_rfl)) | (apply WC.draw (id := 12) [0, 1, 2, 3, 4, 5, 6, 7, 8, 9, 10, 11, 12] (.held 0 (.held 1 (.held 2 (.held 3 (.held 4 (.held 5 (.held 6 (.held 7 (.held 8 (.held 9 (.held 10 (.held 11 (.held 12 (.done)))))))))))))) mixed (by kernel_rfl)) | (apply WC.draw (id := 19) [0, 1, 2, 3, 4, 5, 6, 7, 8, 9, 10] (.held 0 (.held 1 (.held 2 (.held 3 (.held 4 (.held 5 (.held 6 (.held 7 (.held 8 (.held 9 (.held 10 (.done)))))))))))) mixed (by kernel_rfl)) | (apply WC.draw (id := 20) [0, 1, 2, 3, 4, 5, 7, 8, 9, 10, 11, 12, 13, 14, 15, 16, 17, 18, 19, 20, 21, 22, 23, 24, 25, 26, 27, 28, 29, 30, 31, 32, 33, 34, 35, 36, 37, 38, 39, 40, 41, 42, 43, 44, 45, 46, 47, 48, 49] (.held 0 (.held 1 (.held 2 (.held 3 (.held 4 (.held 5 (.loud 6 (.held 7 (.held 8 (.held 9 (.held 10 (.held 11 (.held 12 (.held 13 (.held 14 (.held 15 (.held 16 (.held 17 (.held 18 (.held 19 (.held 20 (.held 21 (.held 22 (.held 23 (.held 24 (.held 25 (.held 26 (.held 27 (.held 28 (.held 29 (.held 30 (.held 31 (.held 32 (.held 33 (.held 34 (.held 35 (.held 36 (.held 37 (.held 38 (.held 39 (.held 40 (.held 41 (.held 42 (.held 43 (.held 44 (.held 45 (.held 46 (.held 47 (.held 48 (.held 49 (.done))))))))))))))))))))))))))))))))))))))))))))))))))) mixed (by kernel_rfl)))
  refine WL.l rfl rfl (LO.callV rfl (by repeat (first | exact Evs.nil | (apply Evs.cons; exact rfl))) (rvalid_c v avs ts m) (by repeat (first | exact HasAll.nil | (apply HasAll.cons; (first | (focus (apply Has.mem; (repeat (first | exact List.Mem.head _ | apply List.Mem.tail)); done)) | (focus (apply hasA; (focus (apply Has.mem; (repeat (first | exact List.Mem.head _ | apply List.Mem.tail)); done)); omega; done)) | (focus (apply Has.sc; (focus (apply Has.mem; (repeat (first | exact List.Mem.head _ | apply List.Mem.tail)); done)); omega; omega; omega; done)))))) ?_)
  by_cases h : validE ts m = 0
  · rw [h]
    by_cases h1 : st.length = ts.length
    · by_cases h2 : on.length = ts.length
      · obtain ⟨hl, M, rfl, hM1, hM4, hg⟩ := validE_0 h
        have hno : ¬ Feas ts M st on → checkP ts M st on = (0, 22) := checkP_no h h1 h2
        have hok : Feas ts M st on → checkP ts M st on = (lenP ts st, 0) := checkP_ok h h1 h2
        have ht := good_time hg
        have hbo := good_on hg hM4
        clear hg
        repeat' (first | refine go ?_ | refine goX ?_ | refine goB ?_ | (refine goG ?_; intro g) | (refine goV ?_; intro v) | refine goD ?_ | refine goXD ?_ | (refine goDG ?_; intro g) | (refine goDV ?_; intro v) | (apply WC.draw (id := 10) [0, 1, 2, 3, 4, 5, 6, 7, 8, 9, 10, 11, 12, 13, 14, 15, 16, 17, 18, 19, 20, 22, 23, 24, 25, 26, 27, 28, 29, 30, 31] (.held 0 (.held 1 (.held 2 (.held 3 (.held 4 (.held 5 (.held 6 (.held 7 (.held 8 (.held 9 (.held 10 (.held 11 (.held 12 (.held 13 (.held 14 (.held 15 (.held 16 (.held 17 (.held 18 (.held 19 (.held 20 (.loud 21 (.held 22 (.held 23 (.held 24 (.held 25 (.held 26 (.held 27 (.held 28 (.held 29 (.held 30 (.held 31 (.done))))))))))))))))))))))))))))))))) mixed (by kernel_rfl)) | (apply WC.draw (id := 12) [0, 1, 2, 3, 4, 5, 6, 7, 8, 9, 10, 11, 12] (.held 0 (.held 1 (.held 2 (.held 3 (.held 4 (.held 5 (.held 6 (.held 7 (.held 8 (.held 9 (.held 10 (.held 11 (.held 12 (.done)))))))))))))) mixed (by kernel_rfl)) | (apply WC.draw (id := 19) [0, 1, 2, 3, 4, 5, 6, 7, 8, 9, 10] (.held 0 (.held 1 (.held 2 (.held 3 (.held 4 (.held 5 (.held 6 (.held 7 (.held 8 (.held 9 (.held 10 (.done)))))))))))) mixed (by kernel_rfl)) | (apply WC.draw (id := 20) [0, 1, 2, 3, 4, 5, 7, 8, 9, 10, 11, 12, 13, 14, 15, 16, 17, 18, 19, 20, 21, 22, 23, 24, 25, 26, 27, 28, 29, 30, 31, 32, 33, 34, 35, 36, 37, 38, 39, 40, 41, 42, 43, 44, 45, 46, 47, 48, 49] (.held 0 (.held 1 (.held 2 (.held 3 (.held 4 (.held 5 (.loud 6 (.held 7 (.held 8 (.held 9 (.held 10 (.held 11 (.held 12 (.held 13 (.held 14 (.held 15 (.held 16 (.held 17 (.held 18 (.held 19 (.held 20 (.held 21 (.held 22 (.held 23 (.held 24 (.held 25 (.held 26 (.held 27 (.held 28 (.held 29 (.held 30 (.held 31 (.held 32 (.held 33 (.held 34 (.held 35 (.held 36 (.held 37 (.held 38 (.held 39 (.held 40 (.held 41 (.held 42 (.held 43 (.held 44 (.held 45 (.held 46 (.held 47 (.held 48 (.held 49 (.done))))))))))))))))))))))))))))))))))))))))))))))))))) mixed (by kernel_rfl)))
        refine WC.lp (σ := Nat) (fun i => [(12, .int .i64 (i : Int)), (11, .int .i64 (lenN ts st i)), (0, v), (1, .int .i64 M), (2, sv), (3, ov)]) (fun _ => []) (fun _ => [ge h0, sT v avs ts, sA avs ts, sI sv st, sI ov on]) (fun i => i ≤ ts.length ∧ ∀ j, j < i → okTask ts M st on j) (fun i => ts.length - i) 0 (by simp) ?_
        rintro i ⟨hi, hi2⟩
        have hb := lenN_bd ht i hi2
        have hti := ht i
        have hoi := hbo i
        by_cases hlt : i < ts.length
        · by_cases c1 : st.getD i 0 < 0
          · repeat' (first | refine go ?_ | refine goX ?_ | refine goB ?_ | (refine goG ?_; intro g) | (refine goV ?_; intro v) | refine goD ?_ | refine goXD ?_ | (refine goDG ?_; intro g) | (refine goDV ?_; intro v) | (apply WC.draw (id := 10) [0, 1, 2, 3, 4, 5, 6, 7, 8, 9, 10, 11, 12, 13, 14, 15, 16, 17, 18, 19, 20, 22, 23, 24, 25, 26, 27, 28, 29, 30, 31] (.held 0 (.held 1 (.held 2 (.held 3 (.held 4 (.held 5 (.held 6 (.held 7 (.held 8 (.held 9 (.held 10 (.held 11 (.held 12 (.held 13 (.held 14 (.held 15 (.held 16 (.held 17 (.held 18 (.held 19 (.held 20 (.loud 21 (.held 22 (.held 23 (.held 24 (.held 25 (.held 26 (.held 27 (.held 28 (.held 29 (.held 30 (.held 31 (.done))))))))))))))))))))))))))))))))) mixed (by kernel_rfl)) | (apply WC.draw (id := 12) [0, 1, 2, 3, 4, 5, 6, 7, 8, 9, 10, 11, 12] (.held 0 (.held 1 (.held 2 (.held 3 (.held 4 (.held 5 (.held 6 (.held 7 (.held 8 (.held 9 (.held 10 (.held 11 (.held 12 (.done)))))))))))))) mixed (by kernel_rfl)) | (apply WC.draw (id := 19) [0, 1, 2, 3, 4, 5, 6, 7, 8, 9, 10] (.held 0 (.held 1 (.held 2 (.held 3 (.held 4 (.held 5 (.held 6 (.held 7 (.held 8 (.held 9 (.held 10 (.done)))))))))))) mixed (by kernel_rfl)) | (apply WC.draw (id := 20) [0, 1, 2, 3, 4, 5, 7, 8, 9, 10, 11, 12, 13, 14, 15, 16, 17, 18, 19, 20, 21, 22, 23, 24, 25, 26, 27, 28, 29, 30, 31, 32, 33, 34, 35, 36, 37, 38, 39, 40, 41, 42, 43, 44, 45, 46, 47, 48, 49] (.held 0 (.held 1 (.held 2 (.held 3 (.held 4 (.held 5 (.loud 6 (.held 7 (.held 8 (.held 9 (.held 10 (.held 11 (.held 12 (.held 13 (.held 14 (.held 15 (.held 16 (.held 17 (.held 18 (.held 19 (.held 20 (.held 21 (.held 22 (.held 23 (.held 24 (.held 25 (.held 26 (.held 27 (.held 28 (.held 29 (.held 30 (.held 31 (.held 32 (.held 33 (.held 34 (.held 35 (.held 36 (.held 37 (.held 38 (.held 39 (.held 40 (.held 41 (.held 42 (.held 43 (.held 44 (.held 45 (.held 46 (.held 47 (.held 48 (.held 49 (.done))))))))))))))))))))))))))))))))))))))))))))))))))) mixed (by kernel_rfl)))
            refine WC.ret ?_
            exact Fin.v (ResE.t2 rfl rfl rfl) (by (repeat (first | exact List.Mem.head _ | apply List.Mem.tail)); done) (by rw [hno (not_feas1 hlt fun h => by have := h.1; omega)])
          by_cases c2 : 1048576 < st.getD i 0
          · repeat' (first | refine go ?_ | refine goX ?_ | refine goB ?_ | (refine goG ?_; intro g) | (refine goV ?_; intro v) | refine goD ?_ | refine goXD ?_ | (refine goDG ?_; intro g) | (refine goDV ?_; intro v) | (apply WC.draw (id := 10) [0, 1, 2, 3, 4, 5, 6, 7, 8, 9, 10, 11, 12, 13, 14, 15, 16, 17, 18, 19, 20, 22, 23, 24, 25, 26, 27, 28, 29, 30, 31] (.held 0 (.held 1 (.held 2 (.held 3 (.held 4 (.held 5 (.held 6 (.held 7 (.held 8 (.held 9 (.held 10 (.held 11 (.held 12 (.held 13 (.held 14 (.held 15 (.held 16 (.held 17 (.held 18 (.held 19 (.held 20 (.loud 21 (.held 22 (.held 23 (.held 24 (.held 25 (.held 26 (.held 27 (.held 28 (.held 29 (.held 30 (.held 31 (.done))))))))))))))))))))))))))))))))) mixed (by kernel_rfl)) | (apply WC.draw (id := 12) [0, 1, 2, 3, 4, 5, 6, 7, 8, 9, 10, 11, 12] (.held 0 (.held 1 (.held 2 (.held 3 (.held 4 (.held 5 (.held 6 (.held 7 (.held 8 (.held 9 (.held 10 (.held 11 (.held 12 (.done)))))))))))))) mixed (by kernel_rfl)) | (apply WC.draw (id := 19) [0, 1, 2, 3, 4, 5, 6, 7, 8, 9, 10] (.held 0 (.held 1 (.held 2 (.held 3 (.held 4 (.held 5 (.held 6 (.held 7 (.held 8 (.held 9 (.held 10 (.done)))))))))))) mixed (by kernel_rfl)) | (apply WC.draw (id := 20) [0, 1, 2, 3, 4, 5, 7, 8, 9, 10, 11, 12, 13, 14, 15, 16, 17, 18, 19, 20, 21, 22, 23, 24, 25, 26, 27, 28, 29, 30, 31, 32, 33, 34, 35, 36, 37, 38, 39, 40, 41, 42, 43, 44, 45, 46, 47, 48, 49] (.held 0 (.held 1 (.held 2 (.held 3 (.held 4 (.held 5 (.loud 6 (.held 7 (.held 8 (.held 9 (.held 10 (.held 11 (.held 12 (.held 13 (.held 14 (.held 15 (.held 16 (.held 17 (.held 18 (.held 19 (.held 20 (.held 21 (.held 22 (.held 23 (.held 24 (.held 25 (.held 26 (.held 27 (.held 28 (.held 29 (.held 30 (.held 31 (.held 32 (.held 33 (.held 34 (.held 35 (.held 36 (.held 37 (.held 38 (.held 39 (.held 40 (.held 41 (.held 42 (.held 43 (.held 44 (.held 45 (.held 46 (.held 47 (.held 48 (.held 49 (.done))))))))))))))))))))))))))))))))))))))))))))))))))) mixed (by kernel_rfl)))
            refine WC.ret ?_
            exact Fin.v (ResE.t2 rfl rfl rfl) (by (repeat (first | exact List.Mem.head _ | apply List.Mem.tail)); done) (by rw [hno (not_feas1 hlt fun h => by have := h.1; omega)])
          repeat' (first | refine go ?_ | refine goX ?_ | refine goB ?_ | (refine goG ?_; intro g) | (refine goV ?_; intro v) | refine goD ?_ | refine goXD ?_ | (refine goDG ?_; intro g) | (refine goDV ?_; intro v) | (apply WC.draw (id := 10) [0, 1, 2, 3, 4, 5, 6, 7, 8, 9, 10, 11, 12, 13, 14, 15, 16, 17, 18, 19, 20, 22, 23, 24, 25, 26, 27, 28, 29, 30, 31] (.held 0 (.held 1 (.held 2 (.held 3 (.held 4 (.held 5 (.held 6 (.held 7 (.held 8 (.held 9 (.held 10 (.held 11 (.held 12 (.held 13 (.held 14 (.held 15 (.held 16 (.held 17 (.held 18 (.held 19 (.held 20 (.loud 21 (.held 22 (.held 23 (.held 24 (.held 25 (.held 26 (.held 27 (.held 28 (.held 29 (.held 30 (.held 31 (.done))))))))))))))))))))))))))))))))) mixed (by kernel_rfl)) | (apply WC.draw (id := 12) [0, 1, 2, 3, 4, 5, 6, 7, 8, 9, 10, 11, 12] (.held 0 (.held 1 (.held 2 (.held 3 (.held 4 (.held 5 (.held 6 (.held 7 (.held 8 (.held 9 (.held 10 (.held 11 (.held 12 (.done)))))))))))))) mixed (by kernel_rfl)) | (apply WC.draw (id := 19) [0, 1, 2, 3, 4, 5, 6, 7, 8, 9, 10] (.held 0 (.held 1 (.held 2 (.held 3 (.held 4 (.held 5 (.held 6 (.held 7 (.held 8 (.held 9 (.held 10 (.done)))))))))))) mixed (by kernel_rfl)) | (apply WC.draw (id := 20) [0, 1, 2, 3, 4, 5, 7, 8, 9, 10, 11, 12, 13, 14, 15, 16, 17, 18, 19, 20, 21, 22, 23, 24, 25, 26, 27, 28, 29, 30, 31, 32, 33, 34, 35, 36, 37, 38, 39, 40, 41, 42, 43, 44, 45, 46, 47, 48, 49] (.held 0 (.held 1 (.held 2 (.held 3 (.held 4 (.held 5 (.loud 6 (.held 7 (.held 8 (.held 9 (.held 10 (.held 11 (.held 12 (.held 13 (.held 14 (.held 15 (.held 16 (.held 17 (.held 18 (.held 19 (.held 20 (.held 21 (.held 22 (.held 23 (.held 24 (.held 25 (.held 26 (.held 27 (.held 28 (.held 29 (.held 30 (.held 31 (.held 32 (.held 33 (.held 34 (.held 35 (.held 36 (.held 37 (.held 38 (.held 39 (.held 40 (.held 41 (.held 42 (.held 43 (.held 44 (.held 45 (.held 46 (.held 47 (.held 48 (.held 49 (.done))))))))))))))))))))))))))))))))))))))))))))))))))) mixed (by kernel_rfl)))
          first | refine WL.callV (may_c' (tg ts i).time (tg ts i).on (avs.getD i undef) (on.getD i 0) (by omega) (by omega)) ?_ | refine WD.callV (may_c' (tg ts i).time (tg ts i).on (avs.getD i undef) (on.getD i 0) (by omega) (by omega)) ?_
          by_cases c3 : may (tg ts i).on (on.getD i 0)
          · rw [decide_eq_true c3]
            by_cases c4 : (M : Int) ≤ on.getD i 0
            · repeat' (first | refine go ?_ | refine goX ?_ | refine goB ?_ | (refine goG ?_; intro g) | (refine goV ?_; intro v) | refine goD ?_ | refine goXD ?_ | (refine goDG ?_; intro g) | (refine goDV ?_; intro v) | (apply WC.draw (id := 10) [0, 1, 2, 3, 4, 5, 6, 7, 8, 9, 10, 11, 12, 13, 14, 15, 16, 17, 18, 19, 20, 22, 23, 24, 25, 26, 27, 28, 29, 30, 31] (.held 0 (.held 1 (.held 2 (.held 3 (.held 4 (.held 5 (.held 6 (.held 7 (.held 8 (.held 9 (.held 10 (.held 11 (.held 12 (.held 13 (.held 14 (.held 15 (.held 16 (.held 17 (.held 18 (.held 19 (.held 20 (.loud 21 (.held 22 (.held 23 (.held 24 (.held 25 (.held 26 (.held 27 (.held 28 (.held 29 (.held 30 (.held 31 (.done))))))))))))))))))))))))))))))))) mixed (by kernel_rfl)) | (apply WC.draw (id := 12) [0, 1, 2, 3, 4, 5, 6, 7, 8, 9, 10, 11, 12] (.held 0 (.held 1 (.held 2 (.held 3 (.held 4 (.held 5 (.held 6 (.held 7 (.held 8 (.held 9 (.held 10 (.held 11 (.held 12 (.done)))))))))))))) mixed (by kernel_rfl)) | (apply WC.draw (id := 19) [0, 1, 2, 3, 4, 5, 6, 7, 8, 9, 10] (.held 0 (.held 1 (.held 2 (.held 3 (.held 4 (.held 5 (.held 6 (.held 7 (.held 8 (.held 9 (.held 10 (.done)))))))))))) mixed (by kernel_rfl)) | (apply WC.draw (id := 20) [0, 1, 2, 3, 4, 5, 7, 8, 9, 10, 11, 12, 13, 14, 15, 16, 17, 18, 19, 20, 21, 22, 23, 24, 25, 26, 27, 28, 29, 30, 31, 32, 33, 34, 35, 36, 37, 38, 39, 40, 41, 42, 43, 44, 45, 46, 47, 48, 49] (.held 0 (.held 1 (.held 2 (.held 3 (.held 4 (.held 5 (.loud 6 (.held 7 (.held 8 (.held 9 (.held 10 (.held 11 (.held 12 (.held 13 (.held 14 (.held 15 (.held 16 (.held 17 (.held 18 (.held 19 (.held 20 (.held 21 (.held 22 (.held 23 (.held 24 (.held 25 (.held 26 (.held 27 (.held 28 (.held 29 (.held 30 (.held 31 (.held 32 (.held 33 (.held 34 (.held 35 (.held 36 (.held 37 (.held 38 (.held 39 (.held 40 (.held 41 (.held 42 (.held 43 (.held 44 (.held 45 (.held 46 (.held 47 (.held 48 (.held 49 (.done))))))))))))))))))))))))))))))))))))))))))))))))))) mixed (by kernel_rfl)))
              refine WC.ret ?_
              exact Fin.v (ResE.t2 rfl rfl rfl) (by (repeat (first | exact List.Mem.head _ | apply List.Mem.tail)); done) (by rw [hno (not_feas1 hlt fun h => by have := h.2.2; omega)])
            · repeat' (first | refine go ?_ | refine goX ?_ | refine goB ?_ | (refine goG ?_; intro g) | (refine goV ?_; intro v) | refine goD ?_ | refine goXD ?_ | (refine goDG ?_; intro g) | (refine goDV ?_; intro v) | (apply WC.draw (id := 10) [0, 1, 2, 3, 4, 5, 6, 7, 8, 9, 10, 11, 12, 13, 14, 15, 16, 17, 18, 19, 20, 22, 23, 24, 25, 26, 27, 28, 29, 30, 31] (.held 0 (.held 1 (.held 2 (.held 3 (.held 4 (.held 5 (.held 6 (.held 7 (.held 8 (.held 9 (.held 10 (.held 11 (.held 12 (.held 13 (.held 14 (.held 15 (.held 16 (.held 17 (.held 18 (.held 19 (.held 20 (.loud 21 (.held 22 (.held 23 (.held 24 (.held 25 (.held 26 (.held 27 (.held 28 (.held 29 (.held 30 (.held 31 (.done))))))))))))))))))))))))))))))))) mixed (by kernel_rfl)) | (apply WC.draw (id := 12) [0, 1, 2, 3, 4, 5, 6, 7, 8, 9, 10, 11, 12] (.held 0 (.held 1 (.held 2 (.held 3 (.held 4 (.held 5 (.held 6 (.held 7 (.held 8 (.held 9 (.held 10 (.held 11 (.held 12 (.done)))))))))))))) mixed (by kernel_rfl)) | (apply WC.draw (id := 19) [0, 1, 2, 3, 4, 5, 6, 7, 8, 9, 10] (.held 0 (.held 1 (.held 2 (.held 3 (.held 4 (.held 5 (.held 6 (.held 7 (.held 8 (.held 9 (.held 10 (.done)))))))))))) mixed (by kernel_rfl)) | (apply WC.draw (id := 20) [0, 1, 2, 3, 4, 5, 7, 8, 9, 10, 11, 12, 13, 14, 15, 16, 17, 18, 19, 20, 21, 22, 23, 24, 25, 26, 27, 28, 29, 30, 31, 32, 33, 34, 35, 36, 37, 38, 39, 40, 41, 42, 43, 44, 45, 46, 47, 48, 49] (.held 0 (.held 1 (.held 2 (.held 3 (.held 4 (.held 5 (.loud 6 (.held 7 (.held 8 (.held 9 (.held 10 (.held 11 (.held 12 (.held 13 (.held 14 (.held 15 (.held 16 (.held 17 (.held 18 (.held 19 (.held 20 (.held 21 (.held 22 (.held 23 (.held 24 (.held 25 (.held 26 (.held 27 (.held 28 (.held 29 (.held 30 (.held 31 (.held 32 (.held 33 (.held 34 (.held 35 (.held 36 (.held 37 (.held 38 (.held 39 (.held 40 (.held 41 (.held 42 (.held 43 (.held 44 (.held 45 (.held 46 (.held 47 (.held 48 (.held 49 (.done))))))))))))))))))))))))))))))))))))))))))))))))))) mixed (by kernel_rfl)))
              exact LoopEnd.mk (i + 1) ⟨by omega, upto_succ hi2 ⟨by omega, c3, by omega⟩⟩ (by omega)
          · rw [decide_eq_false c3]
            repeat' (first | refine go ?_ | refine goX ?_ | refine goB ?_ | (refine goG ?_; intro g) | (refine goV ?_; intro v) | refine goD ?_ | refine goXD ?_ | (refine goDG ?_; intro g) | (refine goDV ?_; intro v) | (apply WC.draw (id := 10) [0, 1, 2, 3, 4, 5, 6, 7, 8, 9, 10, 11, 12, 13, 14, 15, 16, 17, 18, 19, 20, 22, 23, 24, 25, 26, 27, 28, 29, 30, 31] (.held 0 (.held 1 (.held 2 (.held 3 (.held 4 (.held 5 (.held 6 (.held 7 (.held 8 (.held 9 (.held 10 (.held 11 (.held 12 (.held 13 (.held 14 (.held 15 (.held 16 (.held 17 (.held 18 (.held 19 (.held 20 (.loud 21 (.held 22 (.held 23 (.held 24 (.held 25 (.held 26 (.held 27 (.held 28 (.held 29 (.held 30 (.held 31 (.done))))))))))))))))))))))))))))))))) mixed (by kernel_rfl)) | (apply WC.draw (id := 12) [0, 1, 2, 3, 4, 5, 6, 7, 8, 9, 10, 11, 12] (.held 0 (.held 1 (.held 2 (.held 3 (.held 4 (.held 5 (.held 6 (.held 7 (.held 8 (.held 9 (.held 10 (.held 11 (.held 12 (.done)))))))))))))) mixed (by kernel_rfl)) | (apply WC.draw (id := 19) [0, 1, 2, 3, 4, 5, 6, 7, 8, 9, 10] (.held 0 (.held 1 (.held 2 (.held 3 (.held 4 (.held 5 (.held 6 (.held 7 (.held 8 (.held 9 (.held 10 (.done)))))))))))) mixed (by kernel_rfl)) | (apply WC.draw (id := 20) [0, 1, 2, 3, 4, 5, 7, 8, 9, 10, 11, 12, 13, 14, 15, 16, 17, 18, 19, 20, 21, 22, 23, 24, 25, 26, 27, 28, 29, 30, 31, 32, 33, 34, 35, 36, 37, 38, 39, 40, 41, 42, 43, 44, 45, 46, 47, 48, 49] (.held 0 (.held 1 (.held 2 (.held 3 (.held 4 (.held 5 (.loud 6 (.held 7 (.held 8 (.held 9 (.held 10 (.held 11 (.held 12 (.held 13 (.held 14 (.held 15 (.held 16 (.held 17 (.held 18 (.held 19 (.held 20 (.held 21 (.held 22 (.held 23 (.held 24 (.held 25 (.held 26 (.held 27 (.held 28 (.held 29 (.held 30 (.held 31 (.held 32 (.held 33 (.held 34 (.held 35 (.held 36 (.held 37 (.held 38 (.held 39 (.held 40 (.held 41 (.held 42 (.held 43 (.held 44 (.held 45 (.held 46 (.held 47 (.held 48 (.held 49 (.done))))))))))))))))))))))))))))))))))))))))))))))))))) mixed (by kernel_rfl)))
            refine WC.ret ?_
            exact Fin.v (ResE.t2 rfl rfl rfl) (by (repeat (first | exact List.Mem.head _ | apply List.Mem.tail)); done) (by rw [hno (not_feas1 hlt fun h => c3 h.2.1)])
        · obtain rfl : i = ts.length := by omega
          repeat' (first | refine go ?_ | refine goX ?_ | refine goB ?_ | (refine goG ?_; intro g) | (refine goV ?_; intro v) | refine goD ?_ | refine goXD ?_ | (refine goDG ?_; intro g) | (refine goDV ?_; intro v) | (apply WC.draw (id := 10) [0, 1, 2, 3, 4, 5, 6, 7, 8, 9, 10, 11, 12, 13, 14, 15, 16, 17, 18, 19, 20, 22, 23, 24, 25, 26, 27, 28, 29, 30, 31] (.held 0 (.held 1 (.held 2 (.held 3 (.held 4 (.held 5 (.held 6 (.held 7 (.held 8 (.held 9 (.held 10 (.held 11 (.held 12 (.held 13 (.held 14 (.held 15 (.held 16 (.held 17 (.held 18 (.held 19 (.held 20 (.loud 21 (.held 22 (.held 23 (.held 24 (.held 25 (.held 26 (.held 27 (.held 28 (.held 29 (.held 30 (.held 31 (.done))))))))))))))))))))))))))))))))) mixed (by kernel_rfl)) | (apply WC.draw (id := 12) [0, 1, 2, 3, 4, 5, 6, 7, 8, 9, 10, 11, 12] (.held 0 (.held 1 (.held 2 (.held 3 (.held 4 (.held 5 (.held 6 (.held 7 (.held 8 (.held 9 (.held 10 (.held 11 (.held 12 (.done)))))))))))))) mixed (by kernel_rfl)) | (apply WC.draw (id := 19) [0, 1, 2, 3, 4, 5, 6, 7, 8, 9, 10] (.held 0 (.held 1 (.held 2 (.held 3 (.held 4 (.held 5 (.held 6 (.held 7 (.held 8 (.held 9 (.held 10 (.done)))))))))))) mixed (by kernel_rfl)) | (apply WC.draw (id := 20) [0, 1, 2, 3, 4, 5, 7, 8, 9, 10, 11, 12, 13, 14, 15, 16, 17, 18, 19, 20, 21, 22, 23, 24, 25, 26, 27, 28, 29, 30, 31, 32, 33, 34, 35, 36, 37, 38, 39, 40, 41, 42, 43, 44, 45, 46, 47, 48, 49] (.held 0 (.held 1 (.held 2 (.held 3 (.held 4 (.held 5 (.loud 6 (.held 7 (.held 8 (.held 9 (.held 10 (.held 11 (.held 12 (.held 13 (.held 14 (.held 15 (.held 16 (.held 17 (.held 18 (.held 19 (.held 20 (.held 21 (.held 22 (.held 23 (.held 24 (.held 25 (.held 26 (.held 27 (.held 28 (.held 29 (.held 30 (.held 31 (.held 32 (.held 33 (.held 34 (.held 35 (.held 36 (.held 37 (.held 38 (.held 39 (.held 40 (.held 41 (.held 42 (.held 43 (.held 44 (.held 45 (.held 46 (.held 47 (.held 48 (.held 49 (.done))))))))))))))))))))))))))))))))))))))))))))))))))) mixed (by kernel_rfl)))
          refine WC.lp (σ := Nat) (fun i => [(13, .int .i64 (i : Int)), (11, .int .i64 (lenP ts st)), (0, v), (1, .int .i64 M), (2, sv), (3, ov)]) (fun _ => []) (fun _ => [ge h0, sT v avs ts, sA avs ts, sI sv st, sI ov on]) (fun i => i ≤ ts.length ∧ ∀ j, j < i → ∀ k, k < ts.length → pairOK ts st on j k) (fun i => ts.length - i) 0 (by simp) ?_
          rintro i ⟨hi, hi3⟩
          by_cases hlt : i < ts.length
          · repeat' (first | refine go ?_ | refine goX ?_ | refine goB ?_ | (refine goG ?_; intro g) | (refine goV ?_; intro v) | refine goD ?_ | refine goXD ?_ | (refine goDG ?_; intro g) | (refine goDV ?_; intro v) | (apply WC.draw (id := 10) [0, 1, 2, 3, 4, 5, 6, 7, 8, 9, 10, 11, 12, 13, 14, 15, 16, 17, 18, 19, 20, 22, 23, 24, 25, 26, 27, 28, 29, 30, 31] (.held 0 (.held 1 (.held 2 (.held 3 (.held 4 (.held 5 (.held 6 (.held 7 (.held 8 (.held 9 (.held 10 (.held 11 (.held 12 (.held 13 (.held 14 (.held 15 (.held 16 (.held 17 (.held 18 (.held 19 (.held 20 (.loud 21 (.held 22 (.held 23 (.held 24 (.held 25 (.held 26 (.held 27 (.held 28 (.held 29 (.held 30 (.held 31 (.done))))))))))))))))))))))))))))))))) mixed (by kernel_rfl)) | (apply WC.draw (id := 12) [0, 1, 2, 3, 4, 5, 6, 7, 8, 9, 10, 11, 12] (.held 0 (.held 1 (.held 2 (.held 3 (.held 4 (.held 5 (.held 6 (.held 7 (.held 8 (.held 9 (.held 10 (.held 11 (.held 12 (.done)))))))))))))) mixed (by kernel_rfl)) | (apply WC.draw (id := 19) [0, 1, 2, 3, 4, 5, 6, 7, 8, 9, 10] (.held 0 (.held 1 (.held 2 (.held 3 (.held 4 (.held 5 (.held 6 (.held 7 (.held 8 (.held 9 (.held 10 (.done)))))))))))) mixed (by kernel_rfl)) | (apply WC.draw (id := 20) [0, 1, 2, 3, 4, 5, 7, 8, 9, 10, 11, 12, 13, 14, 15, 16, 17, 18, 19, 20, 21, 22, 23, 24, 25, 26, 27, 28, 29, 30, 31, 32, 33, 34, 35, 36, 37, 38, 39, 40, 41, 42, 43, 44, 45, 46, 47, 48, 49] (.held 0 (.held 1 (.held 2 (.held 3 (.held 4 (.held 5 (.loud 6 (.held 7 (.held 8 (.held 9 (.held 10 (.held 11 (.held 12 (.held 13 (.held 14 (.held 15 (.held 16 (.held 17 (.held 18 (.held 19 (.held 20 (.held 21 (.held 22 (.held 23 (.held 24 (.held 25 (.held 26 (.held 27 (.held 28 (.held 29 (.held 30 (.held 31 (.held 32 (.held 33 (.held 34 (.held 35 (.held 36 (.held 37 (.held 38 (.held 39 (.held 40 (.held 41 (.held 42 (.held 43 (.held 44 (.held 45 (.held 46 (.held 47 (.held 48 (.held 49 (.done))))))))))))))))))))))))))))))))))))))))))))))))))) mixed (by kernel_rfl)))
            refine WC.lp (σ := Nat) (fun k => [(14, .int .i64 (k : Int)), (13, .int .i64 (i : Int)), (11, .int .i64 (lenP ts st)), (0, v), (1, .int .i64 M), (2, sv), (3, ov)]) (fun _ => []) (fun _ => [ge h0, sT v avs ts, sA avs ts, sI sv st, sI ov on]) (fun k => k ≤ ts.length ∧ ∀ j, j < k → pairOK ts st on i j) (fun k => ts.length - k) 0 (by simp) ?_
            rintro k ⟨hk, hk3⟩
            by_cases hlk : k < ts.length
            · have htk := ht k
              have hsk := (hi2 k hlk).1
              repeat' (first | refine go ?_ | refine goX ?_ | refine goB ?_ | (refine goG ?_; intro g) | (refine goV ?_; intro v) | refine goD ?_ | refine goXD ?_ | (refine goDG ?_; intro g) | (refine goDV ?_; intro v) | (apply WC.draw (id := 10) [0, 1, 2, 3, 4, 5, 6, 7, 8, 9, 10, 11, 12, 13, 14, 15, 16, 17, 18, 19, 20, 22, 23, 24, 25, 26, 27, 28, 29, 30, 31] (.held 0 (.held 1 (.held 2 (.held 3 (.held 4 (.held 5 (.held 6 (.held 7 (.held 8 (.held 9 (.held 10 (.held 11 (.held 12 (.held 13 (.held 14 (.held 15 (.held 16 (.held 17 (.held 18 (.held 19 (.held 20 (.loud 21 (.held 22 (.held 23 (.held 24 (.held 25 (.held 26 (.held 27 (.held 28 (.held 29 (.held 30 (.held 31 (.done))))))))))))))))))))))))))))))))) mixed (by kernel_rfl)) | (apply WC.draw (id := 12) [0, 1, 2, 3, 4, 5, 6, 7, 8, 9, 10, 11, 12] (.held 0 (.held 1 (.held 2 (.held 3 (.held 4 (.held 5 (.held 6 (.held 7 (.held 8 (.held 9 (.held 10 (.held 11 (.held 12 (.done)))))))))))))) mixed (by kernel_rfl)) | (apply WC.draw (id := 19) [0, 1, 2, 3, 4, 5, 6, 7, 8, 9, 10] (.held 0 (.held 1 (.held 2 (.held 3 (.held 4 (.held 5 (.held 6 (.held 7 (.held 8 (.held 9 (.held 10 (.done)))))))))))) mixed (by kernel_rfl)) | (apply WC.draw (id := 20) [0, 1, 2, 3, 4, 5, 7, 8, 9, 10, 11, 12, 13, 14, 15, 16, 17, 18, 19, 20, 21, 22, 23, 24, 25, 26, 27, 28, 29, 30, 31, 32, 33, 34, 35, 36, 37, 38, 39, 40, 41, 42, 43, 44, 45, 46, 47, 48, 49] (.held 0 (.held 1 (.held 2 (.held 3 (.held 4 (.held 5 (.loud 6 (.held 7 (.held 8 (.held 9 (.held 10 (.held 11 (.held 12 (.held 13 (.held 14 (.held 15 (.held 16 (.held 17 (.held 18 (.held 19 (.held 20 (.held 21 (.held 22 (.held 23 (.held 24 (.held 25 (.held 26 (.held 27 (.held 28 (.held 29 (.held 30 (.held 31 (.held 32 (.held 33 (.held 34 (.held 35 (.held 36 (.held 37 (.held 38 (.held 39 (.held 40 (.held 41 (.held 42 (.held 43 (.held 44 (.held 45 (.held 46 (.held 47 (.held 48 (.held 49 (.done))))))))))))))))))))))))))))))))))))))))))))))))))) mixed (by kernel_rfl)))
              first | refine WL.callV (has_c (avs.getD i undef) (tg ts i).after k) ?_ | refine WD.callV (has_c (avs.getD i undef) (tg ts i).after k) ?_
              have hbad : ¬ pairOK ts st on i k → checkP ts M st on = (0, 22) := fun h => hno (not_feas2 hlt hlk h)
              by_cases c1 : (k : Int) ∈ (tg ts i).after
              · by_cases c2 : st.getD i 0 < st.getD k 0 + (tg ts k).time
                · rw [decide_eq_true c1]
                  repeat' (first | refine go ?_ | refine goX ?_ | refine goB ?_ | (refine goG ?_; intro g) | (refine goV ?_; intro v) | refine goD ?_ | refine goXD ?_ | (refine goDG ?_; intro g) | (refine goDV ?_; intro v) | (apply WC.draw (id := 10) [0, 1, 2, 3, 4, 5, 6, 7, 8, 9, 10, 11, 12, 13, 14, 15, 16, 17, 18, 19, 20, 22, 23, 24, 25, 26, 27, 28, 29, 30, 31] (.held 0 (.held 1 (.held 2 (.held 3 (.held 4 (.held 5 (.held 6 (.held 7 (.held 8 (.held 9 (.held 10 (.held 11 (.held 12 (.held 13 (.held 14 (.held 15 (.held 16 (.held 17 (.held 18 (.held 19 (.held 20 (.loud 21 (.held 22 (.held 23 (.held 24 (.held 25 (.held 26 (.held 27 (.held 28 (.held 29 (.held 30 (.held 31 (.done))))))))))))))))))))))))))))))))) mixed (by kernel_rfl)) | (apply WC.draw (id := 12) [0, 1, 2, 3, 4, 5, 6, 7, 8, 9, 10, 11, 12] (.held 0 (.held 1 (.held 2 (.held 3 (.held 4 (.held 5 (.held 6 (.held 7 (.held 8 (.held 9 (.held 10 (.held 11 (.held 12 (.done)))))))))))))) mixed (by kernel_rfl)) | (apply WC.draw (id := 19) [0, 1, 2, 3, 4, 5, 6, 7, 8, 9, 10] (.held 0 (.held 1 (.held 2 (.held 3 (.held 4 (.held 5 (.held 6 (.held 7 (.held 8 (.held 9 (.held 10 (.done)))))))))))) mixed (by kernel_rfl)) | (apply WC.draw (id := 20) [0, 1, 2, 3, 4, 5, 7, 8, 9, 10, 11, 12, 13, 14, 15, 16, 17, 18, 19, 20, 21, 22, 23, 24, 25, 26, 27, 28, 29, 30, 31, 32, 33, 34, 35, 36, 37, 38, 39, 40, 41, 42, 43, 44, 45, 46, 47, 48, 49] (.held 0 (.held 1 (.held 2 (.held 3 (.held 4 (.held 5 (.loud 6 (.held 7 (.held 8 (.held 9 (.held 10 (.held 11 (.held 12 (.held 13 (.held 14 (.held 15 (.held 16 (.held 17 (.held 18 (.held 19 (.held 20 (.held 21 (.held 22 (.held 23 (.held 24 (.held 25 (.held 26 (.held 27 (.held 28 (.held 29 (.held 30 (.held 31 (.held 32 (.held 33 (.held 34 (.held 35 (.held 36 (.held 37 (.held 38 (.held 39 (.held 40 (.held 41 (.held 42 (.held 43 (.held 44 (.held 45 (.held 46 (.held 47 (.held 48 (.held 49 (.done))))))))))))))))))))))))))))))))))))))))))))))))))) mixed (by kernel_rfl)))
                  refine WC.ret ?_
                  exact Fin.v (ResE.t2 rfl rfl rfl) (by (repeat (first | exact List.Mem.head _ | apply List.Mem.tail)); done) (by rw [hbad fun h => h.1 ⟨c1, c2⟩])
                · rw [decide_eq_true c1]
                  rcases (show i = k ∨ i ≠ k ∧ (on.getD i 0 ≠ on.getD k 0 ∨ on.getD i 0 = on.getD k 0 ∧ st.getD k 0 ≤ st.getD i 0) by omega) with c3 | ⟨c3, c4 | ⟨c4, c5⟩⟩
                  all_goals
                    repeat' (first | refine go ?_ | refine goX ?_ | refine goB ?_ | (refine goG ?_; intro g) | (refine goV ?_; intro v) | refine goD ?_ | refine goXD ?_ | (refine goDG ?_; intro g) | (refine goDV ?_; intro v) | (apply WC.draw (id := 10) [0, 1, 2, 3, 4, 5, 6, 7, 8, 9, 10, 11, 12, 13, 14, 15, 16, 17, 18, 19, 20, 22, 23, 24, 25, 26, 27, 28, 29, 30, 31] (.held 0 (.held 1 (.held 2 (.held 3 (.held 4 (.held 5 (.held 6 (.held 7 (.held 8 (.held 9 (.held 10 (.held 11 (.held 12 (.held 13 (.held 14 (.held 15 (.held 16 (.held 17 (.held 18 (.held 19 (.held 20 (.loud 21 (.held 22 (.held 23 (.held 24 (.held 25 (.held 26 (.held 27 (.held 28 (.held 29 (.held 30 (.held 31 (.done))))))))))))))))))))))))))))))))) mixed (by kernel_rfl)) | (apply WC.draw (id := 12) [0, 1, 2, 3, 4, 5, 6, 7, 8, 9, 10, 11, 12] (.held 0 (.held 1 (.held 2 (.held 3 (.held 4 (.held 5 (.held 6 (.held 7 (.held 8 (.held 9 (.held 10 (.held 11 (.held 12 (.done)))))))))))))) mixed (by kernel_rfl)) | (apply WC.draw (id := 19) [0, 1, 2, 3, 4, 5, 6, 7, 8, 9, 10] (.held 0 (.held 1 (.held 2 (.held 3 (.held 4 (.held 5 (.held 6 (.held 7 (.held 8 (.held 9 (.held 10 (.done)))))))))))) mixed (by kernel_rfl)) | (apply WC.draw (id := 20) [0, 1, 2, 3, 4, 5, 7, 8, 9, 10, 11, 12, 13, 14, 15, 16, 17, 18, 19, 20, 21, 22, 23, 24, 25, 26, 27, 28, 29, 30, 31, 32, 33, 34, 35, 36, 37, 38, 39, 40, 41, 42, 43, 44, 45, 46, 47, 48, 49] (.held 0 (.held 1 (.held 2 (.held 3 (.held 4 (.held 5 (.loud 6 (.held 7 (.held 8 (.held 9 (.held 10 (.held 11 (.held 12 (.held 13 (.held 14 (.held 15 (.held 16 (.held 17 (.held 18 (.held 19 (.held 20 (.held 21 (.held 22 (.held 23 (.held 24 (.held 25 (.held 26 (.held 27 (.held 28 (.held 29 (.held 30 (.held 31 (.held 32 (.held 33 (.held 34 (.held 35 (.held 36 (.held 37 (.held 38 (.held 39 (.held 40 (.held 41 (.held 42 (.held 43 (.held 44 (.held 45 (.held 46 (.held 47 (.held 48 (.held 49 (.done))))))))))))))))))))))))))))))))))))))))))))))))))) mixed (by kernel_rfl)))
                    exact LoopEnd.mk (k + 1) ⟨by omega, upto_succ hk3 (by constructor <;> (intro h; first | exact absurd h.1 c1 | exact absurd h.2 c2 | omega))⟩ (by omega)
              · rw [decide_eq_false c1]
                by_cases c2 : st.getD i 0 < st.getD k 0 + (tg ts k).time
                · by_cases c6 : i ≠ k ∧ on.getD i 0 = on.getD k 0 ∧ st.getD k 0 ≤ st.getD i 0
                  · obtain ⟨c3, c4, c5⟩ := c6
                    repeat' (first | refine go ?_ | refine goX ?_ | refine goB ?_ | (refine goG ?_; intro g) | (refine goV ?_; intro v) | refine goD ?_ | refine goXD ?_ | (refine goDG ?_; intro g) | (refine goDV ?_; intro v) | (apply WC.draw (id := 10) [0, 1, 2, 3, 4, 5, 6, 7, 8, 9, 10, 11, 12, 13, 14, 15, 16, 17, 18, 19, 20, 22, 23, 24, 25, 26, 27, 28, 29, 30, 31] (.held 0 (.held 1 (.held 2 (.held 3 (.held 4 (.held 5 (.held 6 (.held 7 (.held 8 (.held 9 (.held 10 (.held 11 (.held 12 (.held 13 (.held 14 (.held 15 (.held 16 (.held 17 (.held 18 (.held 19 (.held 20 (.loud 21 (.held 22 (.held 23 (.held 24 (.held 25 (.held 26 (.held 27 (.held 28 (.held 29 (.held 30 (.held 31 (.done))))))))))))))))))))))))))))))))) mixed (by kernel_rfl)) | (apply WC.draw (id := 12) [0, 1, 2, 3, 4, 5, 6, 7, 8, 9, 10, 11, 12] (.held 0 (.held 1 (.held 2 (.held 3 (.held 4 (.held 5 (.held 6 (.held 7 (.held 8 (.held 9 (.held 10 (.held 11 (.held 12 (.done)))))))))))))) mixed (by kernel_rfl)) | (apply WC.draw (id := 19) [0, 1, 2, 3, 4, 5, 6, 7, 8, 9, 10] (.held 0 (.held 1 (.held 2 (.held 3 (.held 4 (.held 5 (.held 6 (.held 7 (.held 8 (.held 9 (.held 10 (.done)))))))))))) mixed (by kernel_rfl)) | (apply WC.draw (id := 20) [0, 1, 2, 3, 4, 5, 7, 8, 9, 10, 11, 12, 13, 14, 15, 16, 17, 18, 19, 20, 21, 22, 23, 24, 25, 26, 27, 28, 29, 30, 31, 32, 33, 34, 35, 36, 37, 38, 39, 40, 41, 42, 43, 44, 45, 46, 47, 48, 49] (.held 0 (.held 1 (.held 2 (.held 3 (.held 4 (.held 5 (.loud 6 (.held 7 (.held 8 (.held 9 (.held 10 (.held 11 (.held 12 (.held 13 (.held 14 (.held 15 (.held 16 (.held 17 (.held 18 (.held 19 (.held 20 (.held 21 (.held 22 (.held 23 (.held 24 (.held 25 (.held 26 (.held 27 (.held 28 (.held 29 (.held 30 (.held 31 (.held 32 (.held 33 (.held 34 (.held 35 (.held 36 (.held 37 (.held 38 (.held 39 (.held 40 (.held 41 (.held 42 (.held 43 (.held 44 (.held 45 (.held 46 (.held 47 (.held 48 (.held 49 (.done))))))))))))))))))))))))))))))))))))))))))))))))))) mixed (by kernel_rfl)))
                    refine WC.ret ?_
                    exact Fin.v (ResE.t2 rfl rfl rfl) (by (repeat (first | exact List.Mem.head _ | apply List.Mem.tail)); done) (by rw [hbad fun h => h.2 ⟨c3, c4, c5, c2⟩])
                  · rcases (show i = k ∨ i ≠ k ∧ (on.getD i 0 ≠ on.getD k 0 ∨ on.getD i 0 = on.getD k 0 ∧ ¬ st.getD k 0 ≤ st.getD i 0) by omega) with c3 | ⟨c3, c4 | ⟨c4, c5⟩⟩
                    all_goals
                      repeat' (first | refine go ?_ | refine goX ?_ | refine goB ?_ | (refine goG ?_; intro g) | (refine goV ?_; intro v) | refine goD ?_ | refine goXD ?_ | (refine goDG ?_; intro g) | (refine goDV ?_; intro v) | (apply WC.draw (id := 10) [0, 1, 2, 3, 4, 5, 6, 7, 8, 9, 10, 11, 12, 13, 14, 15, 16, 17, 18, 19, 20, 22, 23, 24, 25, 26, 27, 28, 29, 30, 31] (.held 0 (.held 1 (.held 2 (.held 3 (.held 4 (.held 5 (.held 6 (.held 7 (.held 8 (.held 9 (.held 10 (.held 11 (.held 12 (.held 13 (.held 14 (.held 15 (.held 16 (.held 17 (.held 18 (.held 19 (.held 20 (.loud 21 (.held 22 (.held 23 (.held 24 (.held 25 (.held 26 (.held 27 (.held 28 (.held 29 (.held 30 (.held 31 (.done))))))))))))))))))))))))))))))))) mixed (by kernel_rfl)) | (apply WC.draw (id := 12) [0, 1, 2, 3, 4, 5, 6, 7, 8, 9, 10, 11, 12] (.held 0 (.held 1 (.held 2 (.held 3 (.held 4 (.held 5 (.held 6 (.held 7 (.held 8 (.held 9 (.held 10 (.held 11 (.held 12 (.done)))))))))))))) mixed (by kernel_rfl)) | (apply WC.draw (id := 19) [0, 1, 2, 3, 4, 5, 6, 7, 8, 9, 10] (.held 0 (.held 1 (.held 2 (.held 3 (.held 4 (.held 5 (.held 6 (.held 7 (.held 8 (.held 9 (.held 10 (.done)))))))))))) mixed (by kernel_rfl)) | (apply WC.draw (id := 20) [0, 1, 2, 3, 4, 5, 7, 8, 9, 10, 11, 12, 13, 14, 15, 16, 17, 18, 19, 20, 21, 22, 23, 24, 25, 26, 27, 28, 29, 30, 31, 32, 33, 34, 35, 36, 37, 38, 39, 40, 41, 42, 43, 44, 45, 46, 47, 48, 49] (.held 0 (.held 1 (.held 2 (.held 3 (.held 4 (.held 5 (.loud 6 (.held 7 (.held 8 (.held 9 (.held 10 (.held 11 (.held 12 (.held 13 (.held 14 (.held 15 (.held 16 (.held 17 (.held 18 (.held 19 (.held 20 (.held 21 (.held 22 (.held 23 (.held 24 (.held 25 (.held 26 (.held 27 (.held 28 (.held 29 (.held 30 (.held 31 (.held 32 (.held 33 (.held 34 (.held 35 (.held 36 (.held 37 (.held 38 (.held 39 (.held 40 (.held 41 (.held 42 (.held 43 (.held 44 (.held 45 (.held 46 (.held 47 (.held 48 (.held 49 (.done))))))))))))))))))))))))))))))))))))))))))))))))))) mixed (by kernel_rfl)))
                      exact LoopEnd.mk (k + 1) ⟨by omega, upto_succ hk3 (by constructor <;> (intro h; first | exact absurd h.1 c1 | exact absurd h.2 c2 | omega))⟩ (by omega)
                · rcases (show i = k ∨ i ≠ k ∧ (on.getD i 0 ≠ on.getD k 0 ∨ on.getD i 0 = on.getD k 0 ∧ st.getD k 0 ≤ st.getD i 0) by omega) with c3 | ⟨c3, c4 | ⟨c4, c5⟩⟩
                  all_goals
                    repeat' (first | refine go ?_ | refine goX ?_ | refine goB ?_ | (refine goG ?_; intro g) | (refine goV ?_; intro v) | refine goD ?_ | refine goXD ?_ | (refine goDG ?_; intro g) | (refine goDV ?_; intro v) | (apply WC.draw (id := 10) [0, 1, 2, 3, 4, 5, 6, 7, 8, 9, 10, 11, 12, 13, 14, 15, 16, 17, 18, 19, 20, 22, 23, 24, 25, 26, 27, 28, 29, 30, 31] (.held 0 (.held 1 (.held 2 (.held 3 (.held 4 (.held 5 (.held 6 (.held 7 (.held 8 (.held 9 (.held 10 (.held 11 (.held 12 (.held 13 (.held 14 (.held 15 (.held 16 (.held 17 (.held 18 (.held 19 (.held 20 (.loud 21 (.held 22 (.held 23 (.held 24 (.held 25 (.held 26 (.held 27 (.held 28 (.held 29 (.held 30 (.held 31 (.done))))))))))))))))))))))))))))))))) mixed (by kernel_rfl)) | (apply WC.draw (id := 12) [0, 1, 2, 3, 4, 5, 6, 7, 8, 9, 10, 11, 12] (.held 0 (.held 1 (.held 2 (.held 3 (.held 4 (.held 5 (.held 6 (.held 7 (.held 8 (.held 9 (.held 10 (.held 11 (.held 12 (.done)))))))))))))) mixed (by kernel_rfl)) | (apply WC.draw (id := 19) [0, 1, 2, 3, 4, 5, 6, 7, 8, 9, 10] (.held 0 (.held 1 (.held 2 (.held 3 (.held 4 (.held 5 (.held 6 (.held 7 (.held 8 (.held 9 (.held 10 (.done)))))))))))) mixed (by kernel_rfl)) | (apply WC.draw (id := 20) [0, 1, 2, 3, 4, 5, 7, 8, 9, 10, 11, 12, 13, 14, 15, 16, 17, 18, 19, 20, 21, 22, 23, 24, 25, 26, 27, 28, 29, 30, 31, 32, 33, 34, 35, 36, 37, 38, 39, 40, 41, 42, 43, 44, 45, 46, 47, 48, 49] (.held 0 (.held 1 (.held 2 (.held 3 (.held 4 (.held 5 (.loud 6 (.held 7 (.held 8 (.held 9 (.held 10 (.held 11 (.held 12 (.held 13 (.held 14 (.held 15 (.held 16 (.held 17 (.held 18 (.held 19 (.held 20 (.held 21 (.held 22 (.held 23 (.held 24 (.held 25 (.held 26 (.held 27 (.held 28 (.held 29 (.held 30 (.held 31 (.held 32 (.held 33 (.held 34 (.held 35 (.held 36 (.held 37 (.held 38 (.held 39 (.held 40 (.held 41 (.held 42 (.held 43 (.held 44 (.held 45 (.held 46 (.held 47 (.held 48 (.held 49 (.done))))))))))))))))))))))))))))))))))))))))))))))))))) mixed (by kernel_rfl)))
                    exact LoopEnd.mk (k + 1) ⟨by omega, upto_succ hk3 (by constructor <;> (intro h; first | exact absurd h.1 c1 | exact absurd h.2 c2 | omega))⟩ (by omega)
            · obtain rfl : k = ts.length := by omega
              repeat' (first | refine go ?_ | refine goX ?_ | refine goB ?_ | (refine goG ?_; intro g) | (refine goV ?_; intro v) | refine goD ?_ | refine goXD ?_ | (refine goDG ?_; intro g) | (refine goDV ?_; intro v) | (apply WC.draw (id := 10) [0, 1, 2, 3, 4, 5, 6, 7, 8, 9, 10, 11, 12, 13, 14, 15, 16, 17, 18, 19, 20, 22, 23, 24, 25, 26, 27, 28, 29, 30, 31] (.held 0 (.held 1 (.held 2 (.held 3 (.held 4 (.held 5 (.held 6 (.held 7 (.held 8 (.held 9 (.held 10 (.held 11 (.held 12 (.held 13 (.held 14 (.held 15 (.held 16 (.held 17 (.held 18 (.held 19 (.held 20 (.loud 21 (.held 22 (.held 23 (.held 24 (.held 25 (.held 26 (.held 27 (.held 28 (.held 29 (.held 30 (.held 31 (.done))))))))))))))))))))))))))))))))) mixed (by kernel_rfl)) | (apply WC.draw (id := 12) [0, 1, 2, 3, 4, 5, 6, 7, 8, 9, 10, 11, 12] (.held 0 (.held 1 (.held 2 (.held 3 (.held 4 (.held 5 (.held 6 (.held 7 (.held 8 (.held 9 (.held 10 (.held 11 (.held 12 (.done)))))))))))))) mixed (by kernel_rfl)) | (apply WC.draw (id := 19) [0, 1, 2, 3, 4, 5, 6, 7, 8, 9, 10] (.held 0 (.held 1 (.held 2 (.held 3 (.held 4 (.held 5 (.held 6 (.held 7 (.held 8 (.held 9 (.held 10 (.done)))))))))))) mixed (by kernel_rfl)) | (apply WC.draw (id := 20) [0, 1, 2, 3, 4, 5, 7, 8, 9, 10, 11, 12, 13, 14, 15, 16, 17, 18, 19, 20, 21, 22, 23, 24, 25, 26, 27, 28, 29, 30, 31, 32, 33, 34, 35, 36, 37, 38, 39, 40, 41, 42, 43, 44, 45, 46, 47, 48, 49] (.held 0 (.held 1 (.held 2 (.held 3 (.held 4 (.held 5 (.loud 6 (.held 7 (.held 8 (.held 9 (.held 10 (.held 11 (.held 12 (.held 13 (.held 14 (.held 15 (.held 16 (.held 17 (.held 18 (.held 19 (.held 20 (.held 21 (.held 22 (.held 23 (.held 24 (.held 25 (.held 26 (.held 27 (.held 28 (.held 29 (.held 30 (.held 31 (.held 32 (.held 33 (.held 34 (.held 35 (.held 36 (.held 37 (.held 38 (.held 39 (.held 40 (.held 41 (.held 42 (.held 43 (.held 44 (.held 45 (.held 46 (.held 47 (.held 48 (.held 49 (.done))))))))))))))))))))))))))))))))))))))))))))))))))) mixed (by kernel_rfl)))
              exact LoopEnd.mk (i + 1) ⟨by omega, upto_succ hi3 hk3⟩ (by omega)
          · repeat' (first | refine go ?_ | refine goX ?_ | refine goB ?_ | (refine goG ?_; intro g) | (refine goV ?_; intro v) | refine goD ?_ | refine goXD ?_ | (refine goDG ?_; intro g) | (refine goDV ?_; intro v) | (apply WC.draw (id := 10) [0, 1, 2, 3, 4, 5, 6, 7, 8, 9, 10, 11, 12, 13, 14, 15, 16, 17, 18, 19, 20, 22, 23, 24, 25, 26, 27, 28, 29, 30, 31] (.held 0 (.held 1 (.held 2 (.held 3 (.held 4 (.held 5 (.held 6 (.held 7 (.held 8 (.held 9 (.held 10 (.held 11 (.held 12 (.held 13 (.held 14 (.held 15 (.held 16 (.held 17 (.held 18 (.held 19 (.held 20 (.loud 21 (.held 22 (.held 23 (.held 24 (.held 25 (.held 26 (.held 27 (.held 28 (.held 29 (.held 30 (.held 31 (.done))))))))))))))))))))))))))))))))) mixed (by kernel_rfl)) | (apply WC.draw (id := 12) [0, 1, 2, 3, 4, 5, 6, 7, 8, 9, 10, 11, 12] (.held 0 (.held 1 (.held 2 (.held 3 (.held 4 (.held 5 (.held 6 (.held 7 (.held 8 (.held 9 (.held 10 (.held 11 (.held 12 (.done)))))))))))))) mixed (by kernel_rfl)) | (apply WC.draw (id := 19) [0, 1, 2, 3, 4, 5, 6, 7, 8, 9, 10] (.held 0 (.held 1 (.held 2 (.held 3 (.held 4 (.held 5 (.held 6 (.held 7 (.held 8 (.held 9 (.held 10 (.done)))))))))))) mixed (by kernel_rfl)) | (apply WC.draw (id := 20) [0, 1, 2, 3, 4, 5, 7, 8, 9, 10, 11, 12, 13, 14, 15, 16, 17, 18, 19, 20, 21, 22, 23, 24, 25, 26, 27, 28, 29, 30, 31, 32, 33, 34, 35, 36, 37, 38, 39, 40, 41, 42, 43, 44, 45, 46, 47, 48, 49] (.held 0 (.held 1 (.held 2 (.held 3 (.held 4 (.held 5 (.loud 6 (.held 7 (.held 8 (.held 9 (.held 10 (.held 11 (.held 12 (.held 13 (.held 14 (.held 15 (.held 16 (.held 17 (.held 18 (.held 19 (.held 20 (.held 21 (.held 22 (.held 23 (.held 24 (.held 25 (.held 26 (.held 27 (.held 28 (.held 29 (.held 30 (.held 31 (.held 32 (.held 33 (.held 34 (.held 35 (.held 36 (.held 37 (.held 38 (.held 39 (.held 40 (.held 41 (.held 42 (.held 43 (.held 44 (.held 45 (.held 46 (.held 47 (.held 48 (.held 49 (.done))))))))))))))))))))))))))))))))))))))))))))))))))) mixed (by kernel_rfl)))
            refine WC.ret ?_
            exact Fin.v (ResE.t2 rfl rfl rfl) (by (repeat (first | exact List.Mem.head _ | apply List.Mem.tail)); done) (by rw [hok ⟨hi2, fun j hj => hi3 j (by omega)⟩])
      · have h2' : (on.length : Int) ≠ ts.length := by omega
        repeat' (first | refine go ?_ | refine goX ?_ | refine goB ?_ | (refine goG ?_; intro g) | (refine goV ?_; intro v) | refine goD ?_ | refine goXD ?_ | (refine goDG ?_; intro g) | (refine goDV ?_; intro v) | (apply WC.draw (id := 10) [0, 1, 2, 3, 4, 5, 6, 7, 8, 9, 10, 11, 12, 13, 14, 15, 16, 17, 18, 19, 20, 22, 23, 24, 25, 26, 27, 28, 29, 30, 31] (.held 0 (.held 1 (.held 2 (.held 3 (.held 4 (.held 5 (.held 6 (.held 7 (.held 8 (.held 9 (.held 10 (.held 11 (.held 12 (.held 13 (.held 14 (.held 15 (.held 16 (.held 17 (.held 18 (.held 19 (.held 20 (.loud 21 (.held 22 (.held 23 (.held 24 (.held 25 (.held 26 (.held 27 (.held 28 (.held 29 (.held 30 (.held 31 (.done))))))))))))))))))))))))))))))))) mixed (by kernel_rfl)) | (apply WC.draw (id := 12) [0, 1, 2, 3, 4, 5, 6, 7, 8, 9, 10, 11, 12] (.held 0 (.held 1 (.held 2 (.held 3 (.held 4 (.held 5 (.held 6 (.held 7 (.held 8 (.held 9 (.held 10 (.held 11 (.held 12 (.done)))))))))))))) mixed (by kernel_rfl)) | (apply WC.draw (id := 19) [0, 1, 2, 3, 4, 5, 6, 7, 8, 9, 10] (.held 0 (.held 1 (.held 2 (.held 3 (.held 4 (.held 5 (.held 6 (.held 7 (.held 8 (.held 9 (.held 10 (.done)))))))))))) mixed (by kernel_rfl)) | (apply WC.draw (id := 20) [0, 1, 2, 3, 4, 5, 7, 8, 9, 10, 11, 12, 13, 14, 15, 16, 17, 18, 19, 20, 21, 22, 23, 24, 25, 26, 27, 28, 29, 30, 31, 32, 33, 34, 35, 36, 37, 38, 39, 40, 41, 42, 43, 44, 45, 46, 47, 48, 49] (.held 0 (.held 1 (.held 2 (.held 3 (.held 4 (.held 5 (.loud 6 (.held 7 (.held 8 (.held 9 (.held 10 (.held 11 (.held 12 (.held 13 (.held 14 (.held 15 (.held 16 (.held 17 (.held 18 (.held 19 (.held 20 (.held 21 (.held 22 (.held 23 (.held 24 (.held 25 (.held 26 (.held 27 (.held 28 (.held 29 (.held 30 (.held 31 (.held 32 (.held 33 (.held 34 (.held 35 (.held 36 (.held 37 (.held 38 (.held 39 (.held 40 (.held 41 (.held 42 (.held 43 (.held 44 (.held 45 (.held 46 (.held 47 (.held 48 (.held 49 (.done))))))))))))))))))))))))))))))))))))))))))))))))))) mixed (by kernel_rfl)))
        refine WC.ret ?_
        exact Fin.v (ResE.t2 rfl rfl rfl) (by (repeat (first | exact List.Mem.head _ | apply List.Mem.tail)); done) (by rw [checkP_l h (.inr h2)])
    · have h1' : (st.length : Int) ≠ ts.length := by omega
      repeat' (first | refine go ?_ | refine goX ?_ | refine goB ?_ | (refine goG ?_; intro g) | (refine goV ?_; intro v) | refine goD ?_ | refine goXD ?_ | (refine goDG ?_; intro g) | (refine goDV ?_; intro v) | (apply WC.draw (id := 10) [0, 1, 2, 3, 4, 5, 6, 7, 8, 9, 10, 11, 12, 13, 14, 15, 16, 17, 18, 19, 20, 22, 23, 24, 25, 26, 27, 28, 29, 30, 31] (.held 0 (.held 1 (.held 2 (.held 3 (.held 4 (.held 5 (.held 6 (.held 7 (.held 8 (.held 9 (.held 10 (.held 11 (.held 12 (.held 13 (.held 14 (.held 15 (.held 16 (.held 17 (.held 18 (.held 19 (.held 20 (.loud 21 (.held 22 (.held 23 (.held 24 (.held 25 (.held 26 (.held 27 (.held 28 (.held 29 (.held 30 (.held 31 (.done))))))))))))))))))))))))))))))))) mixed (by kernel_rfl)) | (apply WC.draw (id := 12) [0, 1, 2, 3, 4, 5, 6, 7, 8, 9, 10, 11, 12] (.held 0 (.held 1 (.held 2 (.held 3 (.held 4 (.held 5 (.held 6 (.held 7 (.held 8 (.held 9 (.held 10 (.held 11 (.held 12 (.done)))))))))))))) mixed (by kernel_rfl)) | (apply WC.draw (id := 19) [0, 1, 2, 3, 4, 5, 6, 7, 8, 9, 10] (.held 0 (.held 1 (.held 2 (.held 3 (.held 4 (.held 5 (.held 6 (.held 7 (.held 8 (.held 9 (.held 10 (.done)))))))))))) mixed (by kernel_rfl)) | (apply WC.draw (id := 20) [0, 1, 2, 3, 4, 5, 7, 8, 9, 10, 11, 12, 13, 14, 15, 16, 17, 18, 19, 20, 21, 22, 23, 24, 25, 26, 27, 28, 29, 30, 31, 32, 33, 34, 35, 36, 37, 38, 39, 40, 41, 42, 43, 44, 45, 46, 47, 48, 49] (.held 0 (.held 1 (.held 2 (.held 3 (.held 4 (.held 5 (.loud 6 (.held 7 (.held 8 (.held 9 (.held 10 (.held 11 (.held 12 (.held 13 (.held 14 (.held 15 (.held 16 (.held 17 (.held 18 (.held 19 (.held 20 (.held 21 (.held 22 (.held 23 (.held 24 (.held 25 (.held 26 (.held 27 (.held 28 (.held 29 (.held 30 (.held 31 (.held 32 (.held 33 (.held 34 (.held 35 (.held 36 (.held 37 (.held 38 (.held 39 (.held 40 (.held 41 (.held 42 (.held 43 (.held 44 (.held 45 (.held 46 (.held 47 (.held 48 (.held 49 (.done))))))))))))))))))))))))))))))))))))))))))))))))))) mixed (by kernel_rfl)))
      refine WC.ret ?_
      exact Fin.v (ResE.t2 rfl rfl rfl) (by (repeat (first | exact List.Mem.head _ | apply List.Mem.tail)); done) (by rw [checkP_l h (.inl h1)])
  · repeat' (first | refine go ?_ | refine goX ?_ | refine goB ?_ | (refine goG ?_; intro g) | (refine goV ?_; intro v) | refine goD ?_ | refine goXD ?_ | (refine goDG ?_; intro g) | (refine goDV ?_; intro v) | (apply WC.draw (id := 10) [0, 1, 2, 3, 4, 5, 6, 7, 8, 9, 10, 11, 12, 13, 14, 15, 16, 17, 18, 19, 20, 22, 23, 24, 25, 26, 27, 28, 29, 30, 31] (.held 0 (.held 1 (.held 2 (.held 3 (.held 4 (.held 5 (.held 6 (.held 7 (.held 8 (.held 9 (.held 10 (.held 11 (.held 12 (.held 13 (.held 14 (.held 15 (.held 16 (.held 17 (.held 18 (.held 19 (.held 20 (.loud 21 (.held 22 (.held 23 (.held 24 (.held 25 (.held 26 (.held 27 (.held 28 (.held 29 (.held 30 (.held 31 (.done))))))))))))))))))))))))))))))))) mixed (by kernel_rfl)) | (apply WC.draw (id := 12) [0, 1, 2, 3, 4, 5, 6, 7, 8, 9, 10, 11, 12] (.held 0 (.held 1 (.held 2 (.held 3 (.held 4 (.held 5 (.held 6 (.held 7 (.held 8 (.held 9 (.held 10 (.held 11 (.held 12 (.done)))))))))))))) mixed (by kernel_rfl)) | (apply WC.draw (id := 19) [0, 1, 2, 3, 4, 5, 6, 7, 8, 9, 10] (.held 0 (.held 1 (.held 2 (.held 3 (.held 4 (.held 5 (.held 6 (.held 7 (.held 8 (.held 9 (.held 10 (.done)))))))))))) mixed (by kernel_rfl)) | (apply WC.draw (id := 20) [0, 1, 2, 3, 4, 5, 7, 8, 9, 10, 11, 12, 13, 14, 15, 16, 17, 18, 19, 20, 21, 22, 23, 24, 25, 26, 27, 28, 29, 30, 31, 32, 33, 34, 35, 36, 37, 38, 39, 40, 41, 42, 43, 44, 45, 46, 47, 48, 49] (.held 0 (.held 1 (.held 2 (.held 3 (.held 4 (.held 5 (.loud 6 (.held 7 (.held 8 (.held 9 (.held 10 (.held 11 (.held 12 (.held 13 (.held 14 (.held 15 (.held 16 (.held 17 (.held 18 (.held 19 (.held 20 (.held 21 (.held 22 (.held 23 (.held 24 (.held 25 (.held 26 (.held 27 (.held 28 (.held 29 (.held 30 (.held 31 (.held 32 (.held 33 (.held 34 (.held 35 (.held 36 (.held 37 (.held 38 (.held 39 (.held 40 (.held 41 (.held 42 (.held 43 (.held 44 (.held 45 (.held 46 (.held 47 (.held 48 (.held 49 (.done))))))))))))))))))))))))))))))))))))))))))))))))))) mixed (by kernel_rfl)))
    refine WC.ret ?_
    exact Fin.v (ResE.t2 rfl rfl rfl) (by (repeat (first | exact List.Mem.head _ | apply List.Mem.tail)); done) (by rw [checkP_e h])
end Go.Proofs.Ytgacbfckaglhbaa
namespace Go.Proofs.Ytgacbfckaglhbaa
open W Go.RowKit
attribute [local irreducible] WC WL WD YO LO LoopEnd W.Fin Scalar SliceT FieldAt Row ArrT AllocT KnS Has W.One SrcE IntT

theorem ints_append (l m : List Int) : ints (l ++ m) = ints l ++ ints m := by simp [ints]
theorem ints_set (l : List Int) (i : Nat) (x : Int) : (ints l).set i (.int .i64 x) = ints (l.set i x) := by simp [ints, List.map_set]

theorem machines_c (v : Value) (l : List Int) (hl : ∀ x ∈ l, I64 x) : FnB Try.prog 10 [v] [] [sI v l] (IsV (.int .i64 (1 + atP l 0 3))) := by
  refine fn_of [(0, v)] 6 Try.func10 rfl Try.ntmps10 (by kernel_rfl) rfl (by repeat (first | exact Sub.nil _ | refine Sub.cons rfl ?_)) fun h0 => ?_
  have hb := atP_bd (l := l) (i := 0) (m := 3) (by omega)
  repeat' (first | refine go ?_ | refine goX ?_ | refine goB ?_ | (refine goG ?_; intro g) | (refine goV ?_; intro v))
  first | refine WL.callV (at_c v l 0 3 hl (by omega)) ?_ | refine WD.callV (at_c v l 0 3 hl (by omega)) ?_
  repeat' (first | refine go ?_ | refine goX ?_ | refine goB ?_ | (refine goG ?_; intro g) | (refine goV ?_; intro v))
  refine WC.ret ?_
  exact Fin.v (ResE.t1 rfl rfl) (by (repeat (first | exact List.Mem.head _ | apply List.Mem.tail)); done) rfl

theorem order_c (v u : Value) (avs : List Value) (ts : List Tk) (m : List Int) (M : Nat) (hg : AllGood M ts) (hn : ts.length ≤ 10) (hm : ∀ x ∈ m, I64 x) :
    FnB Try.prog 18 [v, u] [] [sT v avs ts, sA avs ts, sI u m] (IsO 3 1 (ints (ordP ts m))) := by
  refine fn_of [(0, v), (1, u)] 50 Try.func18 rfl Try.ntmps18 (by kernel_rfl) rfl (by repeat (first | exact Sub.nil _ | refine Sub.cons rfl ?_)) fun h0 => ?_
  refine WC.addNil 3 1 ?_
  repeat' (first | refine go ?_ | refine goX ?_ | refine goB ?_ | (refine goG ?_; intro g) | (refine goV ?_; intro v))
  first | refine WL.callO (none_c ts.length (by omega)) (fun rv => ?_) | refine WD.callO (none_c ts.length (by omega)) (fun rv => ?_)
  repeat' (first | refine go ?_ | refine goX ?_ | refine goB ?_ | (refine goG ?_; intro g) | (refine goV ?_; intro v))
  refine WC.lp (σ := Nat × Value × Value) (fun s => [(7, .int .i64 (s.1 : Int)), (5, s.2.1), (6, s.2.2), (0, v), (1, u)]) (fun s => [Ow.slice s.2.1 3 1 (ints (ordN ts m s.1).1), Ow.slice s.2.2 3 1 (ints (ordN ts m s.1).2)]) (fun _ => [ge h0, sT v avs ts, sA avs ts, sI u m]) (fun s => s.1 ≤ ts.length) (fun s => ts.length - s.1) (0, _, .slice none 0 0) (by simp) ?_
  rintro ⟨j, sv, ov⟩ hj
  simp only at hj ⊢
  have ho := ord_ok hg m j hj
  have hlen := ho.len
  have hout := ho.out
  by_cases hlt : j < ts.length
  · obtain ⟨hpos, -, i, hi, hit, hr⟩ := ord_step hg hlt ho
    refine WC.addNil 3 1 ?_
    repeat' (first | refine go ?_ | refine goX ?_ | refine goB ?_ | (refine goG ?_; intro g) | (refine goV ?_; intro v))
    refine WC.lp (σ := Nat × Value) (fun s => [(9, .int .i64 (s.1 : Int)), (8, s.2), (7, .int .i64 (j : Int)), (5, sv), (6, ov), (0, v), (1, u)]) (fun s => [Ow.slice s.2 3 1 (ints (mayN ts (ordN ts m j).1 s.1)), Ow.slice sv 3 1 (ints (ordN ts m j).1), Ow.slice ov 3 1 (ints (ordN ts m j).2)]) (fun _ => [ge h0, sT v avs ts, sA avs ts, sI u m]) (fun s => s.1 ≤ ts.length) (fun s => ts.length - s.1) (0, .slice none 0 0) (by simp) ?_
    rintro ⟨k, yv⟩ hk
    simp only at hk ⊢
    have hml := mayN_len (ts := ts) (st := (ordN ts m j).1) k
    by_cases hkl : k < ts.length
    · repeat' (first | refine go ?_ | refine goX ?_ | refine goB ?_ | (refine goG ?_; intro g) | (refine goV ?_; intro v))
      first | refine WL.callV (ready_c v sv avs ts (ordN ts m j).1 k hkl hlen (good_afterIn hg hkl)) ?_ | refine WD.callV (ready_c v sv avs ts (ordN ts m j).1 k hkl hlen (good_afterIn hg hkl)) ?_
      by_cases hrk : readyP ts (ordN ts m j).1 k
      · rw [decide_eq_true hrk]
        have e : mayN ts (ordN ts m j).1 (k + 1) = mayN ts (ordN ts m j).1 k ++ [(k : Int)] := by rw [mayN, if_pos hrk]
        repeat' (first | refine go ?_ | refine goX ?_ | refine goB ?_ | (refine goG ?_; intro g) | (refine goV ?_; intro v))
        exact LoopEnd.mk (k + 1, _) (by show k + 1 ≤ ts.length; omega) (by show ts.length - (k + 1) < ts.length - k; omega) (by repeat (first | exact Sub.nil _ | refine Sub.cons rfl ?_)) (by simp only [e, ints_append]; exact (by repeat (first | exact List.Sublist.refl _ | exact List.nil_sublist _ | apply List.Sublist.cons_cons | apply List.Sublist.cons))) (by repeat (first | exact HasAll.nil | (apply HasAll.cons; (focus (apply Has.mem; (repeat (first | exact List.Mem.head _ | apply List.Mem.tail)); done)))))
      · rw [decide_eq_false hrk]
        have e : mayN ts (ordN ts m j).1 (k + 1) = mayN ts (ordN ts m j).1 k := by rw [mayN, if_neg hrk]
        repeat' (first | refine go ?_ | refine goX ?_ | refine goB ?_ | (refine goG ?_; intro g) | (refine goV ?_; intro v))
        exact LoopEnd.mk (k + 1, yv) (by show k + 1 ≤ ts.length; omega) (by show ts.length - (k + 1) < ts.length - k; omega) (by repeat (first | exact Sub.nil _ | refine Sub.cons rfl ?_)) (by simp only [e]; exact (by repeat (first | exact List.Sublist.refl _ | exact List.nil_sublist _ | apply List.Sublist.cons_cons | apply List.Sublist.cons))) (by repeat (first | exact HasAll.nil | (apply HasAll.cons; (focus (apply Has.mem; (repeat (first | exact List.Mem.head _ | apply List.Mem.tail)); done)))))
    · obtain rfl : k = ts.length := by omega
      have hb := atP_bd (l := m) (i := j) (m := ((mayP ts (ordN ts m j).1).length : Int)) (by omega)
      repeat' (first | refine go ?_ | refine goX ?_ | refine goB ?_ | (refine goG ?_; intro g) | (refine goV ?_; intro v))
      first | refine WL.callV (at_c u m j ((mayP ts (ordN ts m j).1).length : Int) hm (by omega)) ?_ | refine WD.callV (at_c u m j ((mayP ts (ordN ts m j).1).length : Int) hm (by omega)) ?_
      generalize hA : atP m j ((mayP ts (ordN ts m j).1).length : Int) = A at *
      obtain ⟨a, rfl⟩ := Int.eq_ofNat_of_zero_le hb.1
      have hb' : a < (mayN ts (ordN ts m j).1 ts.length).length := by have := hb.2; exact_mod_cast this
      have hi' : (mayN ts (ordN ts m j).1 ts.length).getD a 0 = i := by simpa using hi
      repeat' (first | refine go ?_ | refine goX ?_ | refine goB ?_ | (refine goG ?_; intro g) | (refine goV ?_; intro v))
      rw [hi']
      repeat' (first | refine go ?_ | refine goX ?_ | refine goB ?_ | (refine goG ?_; intro g) | (refine goV ?_; intro v))
      have e : ordN ts m (j + 1) = ((ordN ts m j).1.set i 0, (ordN ts m j).2 ++ [(i : Int)]) := by
        show (_, _) = _
        simp only [hA, hi]; simp
      exact LoopEnd.mk (j + 1, sv, _) (by show j + 1 ≤ ts.length; omega) (by show ts.length - (j + 1) < ts.length - j; omega) (by repeat (first | exact Sub.nil _ | refine Sub.cons rfl ?_)) (by simp only [e, ints_append, ← ints_set]; exact (by repeat (first | exact List.Sublist.refl _ | exact List.nil_sublist _ | apply List.Sublist.cons_cons | apply List.Sublist.cons))) (by repeat (first | exact HasAll.nil | (apply HasAll.cons; (focus (apply Has.mem; (repeat (first | exact List.Mem.head _ | apply List.Mem.tail)); done)))))
  · obtain rfl : j = ts.length := by omega
    repeat' (first | refine go ?_ | refine goX ?_ | refine goB ?_ | (refine goG ?_; intro g) | (refine goV ?_; intro v))
    refine WC.ret ?_
    exact Fin.o (ResE.t1 rfl rfl) (by (repeat (first | exact List.Mem.head _ | apply List.Mem.tail)); done) (by (repeat (first | exact List.Mem.head _ | apply List.Mem.tail)); done) rfl
end Go.Proofs.Ytgacbfckaglhbaa
namespace Go.Proofs.Ytgacbfckaglhbaa
open W Go.RowKit
attribute [local irreducible] WC WL WD YO LO LoopEnd W.Fin Scalar SliceT FieldAt Row ArrT AllocT KnS Has W.One SrcE IntT

/-- two lists, a number and an error -/
def IsL (r : List Int × List Int × Int × Int) : RPost := fun v b G => ∃ a c, v = .tuple #[a, c, .int .i64 r.2.2.1, .int .i64 r.2.2.2] ∧ b = [Ow.slice c 3 1 (ints r.2.1), Ow.slice a 3 1 (ints r.1)] ∧ G = []

theorem Fin.l {P : Program} {e : Env} {bx : List Ow} {F : List Fct} {fn : Func} {h0 : PH} {a c : Value} {n er : Int} {x y : List Value} {r : List Int × List Int × Int × Int}
    (hr : ResE P fn e bx F (.tuple #[a, c, .int .i64 n, .int .i64 er])) (hg : ge h0 ∈ F) (hb : [Ow.slice c 3 1 y, Ow.slice a 3 1 x].Sublist bx) (l1 l2 : List Int) (hx : x = ints l1) (hy : y = ints l2) (h : r = (l1, l2, n, er)) : W.Fin P fn h0 (IsL r) e bx F := by
  subst hx hy h
  exact Fin.p _ [] hr hg hb .nil ⟨_, _, rfl, rfl, rfl⟩

theorem placeP_bd {ts : List Tk} {st : List Int} (h : Mod ts st) (on : List Int) (i : Nat) (k : Int) : 0 ≤ placeP ts st on i k ∧ placeP ts st on i k ≤ 1000001000 := placeN_bd h ts.length

set_option maxHeartbeats 1000000 in
theorem rlist_c (v u : Value) (avs : List Value) (ts : List Tk) (m : Int) (o : List Int) :
    FnB Try.prog 21 [v, .int .i64 m, u] [] [sT v avs ts, sA avs ts, sI u o] (IsL (listP ts m o)) := by
  refine fn_of [(0, v), (1, .int .i64 m), (2, u)] 118 Try.func21 rfl Try.ntmps21 (by kernel_rfl) rfl (by repeat (first | exact Sub.nil _ | refine Sub.cons rfl ?_)) fun h0 => ?_
  refine WC.lenI u o (Has.mem (by (repeat (first | exact List.Mem.head _ | apply List.Mem.tail)); done)) fun hlo => ?_
  repeat' (first | refine go ?_ | refine goX ?_ | refine goB ?_ | (refine goG ?_; intro g) | (refine goV ?_; intro v))
  first | refine WL.callV (rvalid_c v avs ts m) ?_ | refine WD.callV (rvalid_c v avs ts m) ?_
  by_cases h : validE ts m = 0
  · rw [h]
    by_cases h1 : o.length = ts.length
    · obtain ⟨hl, M, rfl, hM1, hM4, hg⟩ := validE_0 h
      have ht := good_time hg
      have hbo := good_on hg hM4
      repeat' (first | refine go ?_ | refine goX ?_ | refine goB ?_ | (refine goG ?_; intro g) | (refine goV ?_; intro v))
      first | refine WL.callO (none_c ts.length (by omega)) (fun rv => ?_) | refine WD.callO (none_c ts.length (by omega)) (fun rv => ?_)
      repeat' (first | refine go ?_ | refine goX ?_ | refine goB ?_ | (refine goG ?_; intro g) | (refine goV ?_; intro v))
      first | refine WL.callO (none_c ts.length (by omega)) (fun rv => ?_) | refine WD.callO (none_c ts.length (by omega)) (fun rv => ?_)
      repeat' (first | refine go ?_ | refine goX ?_ | refine goB ?_ | (refine goG ?_; intro g) | (refine goV ?_; intro v))
      refine WC.lp (σ := Nat × Value × Value) (fun s => [(14, .int .i64 (s.1 : Int)), (11, s.2.1), (12, s.2.2), (13, .int .i64 (lstN ts M o s.1).2.2), (0, v), (1, .int .i64 M), (2, u)]) (fun s => [Ow.slice s.2.2 3 1 (ints (lstN ts M o s.1).2.1), Ow.slice s.2.1 3 1 (ints (lstN ts M o s.1).1)]) (fun _ => [ge h0, sT v avs ts, sA avs ts, sI u o]) (fun s => s.1 ≤ ts.length ∧ okOrder ts M o s.1) (fun s => ts.length - s.1) (0, _, _) ⟨by simp, by simp [okOrder]⟩ ?_
      rintro ⟨j, sv, ov⟩ ⟨hj, hok⟩
      simp only at hj hok ⊢
      have hs := lst_ok hg o j
      have hmod := lst_mod hg hl o hj
      have hs1 := hs.l1
      have hs2 := hs.l2
      have hsn := hs.n
      by_cases hlt : j < ts.length
      · by_cases c1 : o.getD j 0 < 0
        · repeat' (first | refine go ?_ | refine goX ?_ | refine goB ?_ | (refine goG ?_; intro g) | (refine goV ?_; intro v))
          refine WC.addNil 3 1 (WC.addNil 3 1 (WC.ret ?_))
          exact Fin.l (ResE.t4 rfl rfl rfl rfl rfl) (by (repeat (first | exact List.Mem.head _ | apply List.Mem.tail)); done) (by repeat (first | exact List.Sublist.refl _ | exact List.nil_sublist _ | apply List.Sublist.cons_cons | apply List.Sublist.cons)) [] [] rfl rfl (by rw [listP_no h h1 hlt]; intro hc; have := hc.1; omega)
        by_cases c2 : ts.length ≤ o.getD j 0
        · repeat' (first | refine go ?_ | refine goX ?_ | refine goB ?_ | (refine goG ?_; intro g) | (refine goV ?_; intro v))
          refine WC.addNil 3 1 (WC.addNil 3 1 (WC.ret ?_))
          exact Fin.l (ResE.t4 rfl rfl rfl rfl rfl) (by (repeat (first | exact List.Mem.head _ | apply List.Mem.tail)); done) (by repeat (first | exact List.Sublist.refl _ | exact List.nil_sublist _ | apply List.Sublist.cons_cons | apply List.Sublist.cons)) [] [] rfl rfl (by rw [listP_no h h1 hlt]; intro hc; have := hc.2.1; omega)
        obtain ⟨i, hi⟩ := Int.eq_ofNat_of_zero_le (show 0 ≤ o.getD j 0 by omega)
        have hi' : o.getD j 0 = (i : Int) := hi
        have hit : i < ts.length := by omega
        repeat' (first | refine go ?_ | refine goX ?_ | refine goB ?_ | (refine goG ?_; intro g) | (refine goV ?_; intro v))
        rw [hi']
        first | refine WL.callV (ready_c v sv avs ts (lstN ts M o j).1 i hit hs1 (good_afterIn hg hit)) ?_ | refine WD.callV (ready_c v sv avs ts (lstN ts M o j).1 i hit hs1 (good_afterIn hg hit)) ?_
        by_cases hr : readyP ts (lstN ts M o j).1 i
        · rw [decide_eq_true hr]
          have hokj : okAt ts M o j := by unfold okAt; rw [hi']; exact ⟨by omega, by omega, by simpa using hr⟩
          repeat' (first | refine go ?_ | refine goX ?_ | refine goB ?_ | (refine goG ?_; intro g) | (refine goV ?_; intro v))
          refine WC.lp (σ := Nat) (fun k => [(17, .int .i64 (k : Int)), (16, .int .i64 (bestN ts (lstN ts M o j).1 (lstN ts M o j).2.1 i k)), (15, .int .i64 (i : Int)), (14, .int .i64 (j : Int)), (11, sv), (12, ov), (13, .int .i64 (lstN ts M o j).2.2), (0, v), (1, .int .i64 M), (2, u)]) (fun _ => [Ow.slice ov 3 1 (ints (lstN ts M o j).2.1), Ow.slice sv 3 1 (ints (lstN ts M o j).1)]) (fun _ => [ge h0, sT v avs ts, sA avs ts, sI u o]) (fun k => k ≤ M) (fun k => M - k) 0 (by simp) ?_
          rintro k hk
          have hoi := hbo i
          by_cases hkM : k < M
          · have e : bestN ts (lstN ts M o j).1 (lstN ts M o j).2.1 i (k + 1) = _ := rfl
            conv at e => rhs; unfold bestN
            repeat' (first | refine go ?_ | refine goX ?_ | refine goB ?_ | (refine goG ?_; intro g) | (refine goV ?_; intro v))
            first | refine WL.callV (may_c' (tg ts i).time (tg ts i).on (avs.getD i undef) k (by omega) (by omega)) ?_ | refine WD.callV (may_c' (tg ts i).time (tg ts i).on (avs.getD i undef) k (by omega) (by omega)) ?_
            by_cases d1 : may (tg ts i).on k
            · rw [decide_eq_true d1]
              by_cases d2 : bestN ts (lstN ts M o j).1 (lstN ts M o j).2.1 i k < 0
              · rw [if_pos ⟨d1, .inl d2⟩] at e
                repeat' (first | refine go ?_ | refine goX ?_ | refine goB ?_ | (refine goG ?_; intro g) | (refine goV ?_; intro v))
                exact LoopEnd.mk (k + 1) (by omega) (by omega) (by rw [e]; exact (by repeat (first | exact Sub.nil _ | refine Sub.cons rfl ?_))) (by repeat (first | exact List.Sublist.refl _ | exact List.nil_sublist _ | apply List.Sublist.cons_cons | apply List.Sublist.cons)) (by repeat (first | exact HasAll.nil | (apply HasAll.cons; (focus (apply Has.mem; (repeat (first | exact List.Mem.head _ | apply List.Mem.tail)); done)))))
              · repeat' (first | refine go ?_ | refine goX ?_ | refine goB ?_ | (refine goG ?_; intro g) | (refine goV ?_; intro v))
                first | refine WL.callV (place_c v sv ov avs ts (lstN ts M o j).1 (lstN ts M o j).2.1 i k hit hs1 hs2 hmod) ?_ | refine WD.callV (place_c v sv ov avs ts (lstN ts M o j).1 (lstN ts M o j).2.1 i k hit hs1 hs2 hmod) ?_
                repeat' (first | refine go ?_ | refine goX ?_ | refine goB ?_ | (refine goG ?_; intro g) | (refine goV ?_; intro v))
                first | refine WL.callV (place_c v sv ov avs ts (lstN ts M o j).1 (lstN ts M o j).2.1 i (bestN ts (lstN ts M o j).1 (lstN ts M o j).2.1 i k) hit hs1 hs2 hmod) ?_ | refine WD.callV (place_c v sv ov avs ts (lstN ts M o j).1 (lstN ts M o j).2.1 i (bestN ts (lstN ts M o j).1 (lstN ts M o j).2.1 i k) hit hs1 hs2 hmod) ?_
                by_cases d3 : placeP ts (lstN ts M o j).1 (lstN ts M o j).2.1 i k < placeP ts (lstN ts M o j).1 (lstN ts M o j).2.1 i (bestN ts (lstN ts M o j).1 (lstN ts M o j).2.1 i k)
                · rw [if_pos ⟨d1, .inr d3⟩] at e
                  repeat' (first | refine go ?_ | refine goX ?_ | refine goB ?_ | (refine goG ?_; intro g) | (refine goV ?_; intro v))
                  exact LoopEnd.mk (k + 1) (by omega) (by omega) (by rw [e]; exact (by repeat (first | exact Sub.nil _ | refine Sub.cons rfl ?_))) (by repeat (first | exact List.Sublist.refl _ | exact List.nil_sublist _ | apply List.Sublist.cons_cons | apply List.Sublist.cons)) (by repeat (first | exact HasAll.nil | (apply HasAll.cons; (focus (apply Has.mem; (repeat (first | exact List.Mem.head _ | apply List.Mem.tail)); done)))))
                · rw [if_neg (fun h => by rcases h.2 with h | h; exact d2 h; exact d3 h)] at e
                  repeat' (first | refine go ?_ | refine goX ?_ | refine goB ?_ | (refine goG ?_; intro g) | (refine goV ?_; intro v))
                  exact LoopEnd.mk (k + 1) (by omega) (by omega) (by rw [e]; exact (by repeat (first | exact Sub.nil _ | refine Sub.cons rfl ?_))) (by repeat (first | exact List.Sublist.refl _ | exact List.nil_sublist _ | apply List.Sublist.cons_cons | apply List.Sublist.cons)) (by repeat (first | exact HasAll.nil | (apply HasAll.cons; (focus (apply Has.mem; (repeat (first | exact List.Mem.head _ | apply List.Mem.tail)); done)))))
            · rw [decide_eq_false d1]
              rw [if_neg (fun h => d1 h.1)] at e
              repeat' (first | refine go ?_ | refine goX ?_ | refine goB ?_ | (refine goG ?_; intro g) | (refine goV ?_; intro v))
              exact LoopEnd.mk (k + 1) (by omega) (by omega) (by rw [e]; exact (by repeat (first | exact Sub.nil _ | refine Sub.cons rfl ?_))) (by repeat (first | exact List.Sublist.refl _ | exact List.nil_sublist _ | apply List.Sublist.cons_cons | apply List.Sublist.cons)) (by repeat (first | exact HasAll.nil | (apply HasAll.cons; (focus (apply Has.mem; (repeat (first | exact List.Mem.head _ | apply List.Mem.tail)); done)))))
          · obtain rfl : k = M := by omega
            repeat' (first | refine go ?_ | refine goX ?_ | refine goB ?_ | (refine goG ?_; intro g) | (refine goV ?_; intro v))
            first | refine WL.callV (place_c v sv ov avs ts (lstN ts k o j).1 (lstN ts k o j).2.1 i (bestN ts (lstN ts k o j).1 (lstN ts k o j).2.1 i k) hit hs1 hs2 hmod) ?_ | refine WD.callV (place_c v sv ov avs ts (lstN ts k o j).1 (lstN ts k o j).2.1 i (bestN ts (lstN ts k o j).1 (lstN ts k o j).2.1 i k) hit hs1 hs2 hmod) ?_
            have e : lstN ts k o (j + 1) = _ := rfl
            conv at e => rhs; unfold lstN
            simp only [hi', Int.toNat_natCast] at e
            have hpb := placeP_bd hmod (lstN ts k o j).2.1 i (bestN ts (lstN ts k o j).1 (lstN ts k o j).2.1 i k)
            have hti := ht i
            repeat' (first | refine go ?_ | refine goX ?_ | refine goB ?_ | (refine goG ?_; intro g) | (refine goV ?_; intro v))
            exact LoopEnd.mk (j + 1, sv, ov) ⟨by show j + 1 ≤ ts.length; omega, upto_succ hok hokj⟩ (by show ts.length - (j + 1) < ts.length - j; omega) (by simp only [e]; exact (by repeat (first | exact Sub.nil _ | refine Sub.cons rfl ?_))) (by simp only [e, ← ints_set]; exact (by repeat (first | exact List.Sublist.refl _ | exact List.nil_sublist _ | apply List.Sublist.cons_cons | apply List.Sublist.cons))) (by repeat (first | exact HasAll.nil | (apply HasAll.cons; (focus (apply Has.mem; (repeat (first | exact List.Mem.head _ | apply List.Mem.tail)); done)))))
        · rw [decide_eq_false hr]
          repeat' (first | refine go ?_ | refine goX ?_ | refine goB ?_ | (refine goG ?_; intro g) | (refine goV ?_; intro v))
          refine WC.addNil 3 1 (WC.addNil 3 1 (WC.ret ?_))
          exact Fin.l (ResE.t4 rfl rfl rfl rfl rfl) (by (repeat (first | exact List.Mem.head _ | apply List.Mem.tail)); done) (by repeat (first | exact List.Sublist.refl _ | exact List.nil_sublist _ | apply List.Sublist.cons_cons | apply List.Sublist.cons)) [] [] rfl rfl (by rw [listP_no h h1 hlt]; intro hc; have := hc.2.2; rw [hi'] at this; exact hr (by simpa using this))
      · obtain rfl : j = ts.length := by omega
        repeat' (first | refine go ?_ | refine goX ?_ | refine goB ?_ | (refine goG ?_; intro g) | (refine goV ?_; intro v))
        refine WC.ret ?_
        exact Fin.l (ResE.t4 rfl rfl rfl rfl rfl) (by (repeat (first | exact List.Mem.head _ | apply List.Mem.tail)); done) (by repeat (first | exact List.Sublist.refl _ | exact List.nil_sublist _ | apply List.Sublist.cons_cons | apply List.Sublist.cons)) _ _ rfl rfl (by rw [listP_ok h h1 hok])
    · have h1' : (o.length : Int) ≠ ts.length := by omega
      repeat' (first | refine go ?_ | refine goX ?_ | refine goB ?_ | (refine goG ?_; intro g) | (refine goV ?_; intro v))
      refine WC.addNil 3 1 (WC.addNil 3 1 (WC.ret ?_))
      exact Fin.l (ResE.t4 rfl rfl rfl rfl rfl) (by (repeat (first | exact List.Mem.head _ | apply List.Mem.tail)); done) (by repeat (first | exact List.Sublist.refl _ | exact List.nil_sublist _ | apply List.Sublist.cons_cons | apply List.Sublist.cons)) [] [] rfl rfl (by rw [listP_l h h1])
  · repeat' (first | refine go ?_ | refine goX ?_ | refine goB ?_ | (refine goG ?_; intro g) | (refine goV ?_; intro v))
    refine WC.addNil 3 1 (WC.addNil 3 1 (WC.ret ?_))
    exact Fin.l (ResE.t4 rfl rfl rfl rfl rfl) (by (repeat (first | exact List.Mem.head _ | apply List.Mem.tail)); done) (by repeat (first | exact List.Sublist.refl _ | exact List.nil_sublist _ | apply List.Sublist.cons_cons | apply List.Sublist.cons)) [] [] rfl rfl (by rw [listP_e h])
end Go.Proofs.Ytgacbfckaglhbaa
namespace Go.Proofs.Ytgacbfckaglhbaa
open W Go.RowKit
attribute [local irreducible] WC WL WD YO LO LoopEnd W.Fin Scalar SliceT FieldAt Row ArrT AllocT KnS Has W.One SrcE IntT

theorem set_ne {on : Int} {M : Nat} (hM : M ≤ 4) (h1 : -9223372036854775808 ≤ on) (h2 : on ≤ 9223372036854775807) : anot on (1 * 2 ^ ((M : Int)).toNat - 1) = 0 ↔ 0 ≤ on ∧ on < 2 ^ M := by
  rw [pow_e M]; exact anot_zero (by omega) rfl h1 h2

set_option maxRecDepth 2000 in
theorem valid_c (v : Value) (avs : List Value) (ts : List Tk) (m : Int) (hi : TI64 ts) :
    FnB Try.prog 14 [v, .int .i64 m] [] [sT v avs ts, sA avs ts] (IsV (.int .i64 (validE ts m))) := by
  refine fn_of [(0, v), (1, .int .i64 m)] 80 Try.func14 rfl Try.ntmps14 (by kernel_rfl) rfl (by repeat (first | exact Sub.nil _ | refine Sub.cons rfl ?_)) fun h0 => ?_
  by_cases hl : 10 < ts.length
  · repeat' (first | refine go ?_ | refine goX ?_ | refine goB ?_ | (refine goG ?_; intro g) | (refine goV ?_; intro v))
    refine WC.ret ?_
    exact Fin.v (ResE.t1 rfl rfl) (by (repeat (first | exact List.Mem.head _ | apply List.Mem.tail)); done) (by rw [validE_limit hl])
  by_cases h1 : m < 1
  · repeat' (first | refine go ?_ | refine goX ?_ | refine goB ?_ | (refine goG ?_; intro g) | (refine goV ?_; intro v))
    refine WC.ret ?_
    exact Fin.v (ResE.t1 rfl rfl) (by (repeat (first | exact List.Mem.head _ | apply List.Mem.tail)); done) (by rw [validE_m (by omega) (.inl h1)])
  by_cases h2 : 4 < m
  · repeat' (first | refine go ?_ | refine goX ?_ | refine goB ?_ | (refine goG ?_; intro g) | (refine goV ?_; intro v))
    refine WC.ret ?_
    exact Fin.v (ResE.t1 rfl rfl) (by (repeat (first | exact List.Mem.head _ | apply List.Mem.tail)); done) (by rw [validE_m (by omega) (.inr h2)])
  obtain ⟨M, rfl⟩ : ∃ M : Nat, m = M := ⟨m.toNat, by omega⟩
  have hp := pow_16 (M := M) (by omega)
  have hp1 := pow_1 M
  have e5 := pow_e M
  have c5 : (1 : Int) * 2 ^ ((M : Int)).toNat ≤ 9223372036854775807 := by rw [e5]; omega
  have c6 : 0 ≤ (1 : Int) * 2 ^ ((M : Int)).toNat := by rw [e5]; omega
  repeat' (first | refine go ?_ | refine goX ?_ | refine goB ?_ | (refine goG ?_; intro g) | (refine goV ?_; intro v))
  refine WC.lp (σ := Nat) (fun k => [(24, .int .i64 (k : Int)), (23, .int .i64 (ts.length : Int)), (22, v), (5, .int .i64 (1 * 2 ^ ((M : Int)).toNat - 1)), (0, v), (1, .int .i64 M)]) (fun _ => []) (fun _ => [ge h0, sT v avs ts, sA avs ts]) (fun k => k ≤ ts.length ∧ ∀ j, j < k → Good M j (tg ts j)) (fun k => ts.length - k) 0 (by simp) ?_
  rintro k ⟨hk, hg⟩
  clear c5 c6
  by_cases hlt : k < ts.length
  · have hbad : ¬ Good M k (tg ts k) → validE ts M = 1 := validE_bad (by omega) k hlt
    obtain ⟨ii1, ii2, ii3⟩ := hi k
    have hz := set_ne (M := M) (by omega) ii2.1 ii2.2
    by_cases c1 : (tg ts k).time < 1
    · repeat' (first | refine go ?_ | refine goX ?_ | refine goB ?_ | (refine goG ?_; intro g) | (refine goV ?_; intro v))
      refine WC.ret ?_
      exact Fin.v (ResE.t1 rfl rfl) (by (repeat (first | exact List.Mem.head _ | apply List.Mem.tail)); done) (by rw [hbad]; intro g; have := g.t1; omega)
    by_cases c2 : 20 < (tg ts k).time
    · repeat' (first | refine go ?_ | refine goX ?_ | refine goB ?_ | (refine goG ?_; intro g) | (refine goV ?_; intro v))
      refine WC.ret ?_
      exact Fin.v (ResE.t1 rfl rfl) (by (repeat (first | exact List.Mem.head _ | apply List.Mem.tail)); done) (by rw [hbad]; intro g; have := g.t2; omega)
    by_cases c3 : (tg ts k).on = 0
    · repeat' (first | refine go ?_ | refine goX ?_ | refine goB ?_ | (refine goG ?_; intro g) | (refine goV ?_; intro v))
      refine WC.ret ?_
      exact Fin.v (ResE.t1 rfl rfl) (by (repeat (first | exact List.Mem.head _ | apply List.Mem.tail)); done) (by rw [hbad]; intro g; have := g.o1; omega)
    by_cases c4 : anot (tg ts k).on (1 * 2 ^ ((M : Int)).toNat - 1) = 0
    · have c3' := (hz.1 c4).1
      have c4' := (hz.1 c4).2
      repeat' (first | refine go ?_ | refine goX ?_ | refine goB ?_ | (refine goG ?_; intro g) | (refine goV ?_; intro v))
      refine WC.lenI (avs.getD k undef) (tg ts k).after ?_ fun hlen => ?_
      · exact hasA (Has.mem (by (repeat (first | exact List.Mem.head _ | apply List.Mem.tail)); done)) hlt
      refine WC.lp (σ := Nat) (fun j => [(52, .int .i64 (j : Int)), (51, .int .i64 ((tg ts k).after.length : Int)), (50, avs.getD k undef), (7, .pointer (some ⟨g, 0, none⟩)), (6, .int .i64 (k : Int)), (24, .int .i64 (k : Int)), (23, .int .i64 (ts.length : Int)), (22, v), (5, .int .i64 (1 * 2 ^ ((M : Int)).toNat - 1)), (0, v), (1, .int .i64 M)]) (fun _ => [Ow.cells g 48 [.int .i64 (tg ts k).time, .int .i64 (tg ts k).on, avs.getD k undef]]) (fun _ => [ge h0, sT v avs ts, sA avs ts]) (fun j => j ≤ (tg ts k).after.length ∧ GoodAfter k (tg ts k).after j) (fun j => (tg ts k).after.length - j) 0 (by simp [GoodAfter]) ?_
      rintro j ⟨hj, hga⟩
      by_cases hjl : j < (tg ts k).after.length
      · by_cases d1 : (tg ts k).after.getD j 0 < 0
        · repeat' (first | refine go ?_ | refine goX ?_ | refine goB ?_ | (refine goG ?_; intro g) | (refine goV ?_; intro v))
          refine WC.ret ?_
          exact Fin.v (ResE.t1 rfl rfl) (by (repeat (first | exact List.Mem.head _ | apply List.Mem.tail)); done) (by rw [hbad]; intro g; have := (g.a j hjl).1; omega)
        by_cases d2 : (k : Int) ≤ (tg ts k).after.getD j 0
        · repeat' (first | refine go ?_ | refine goX ?_ | refine goB ?_ | (refine goG ?_; intro g) | (refine goV ?_; intro v))
          refine WC.ret ?_
          exact Fin.v (ResE.t1 rfl rfl) (by (repeat (first | exact List.Mem.head _ | apply List.Mem.tail)); done) (by rw [hbad]; intro g; have := (g.a j hjl).2.1; omega)
        have e6 : ((j : Int) - 1).toNat = j - 1 := by omega
        by_cases d3 : 0 < j
        · by_cases d4 : (tg ts k).after.getD j 0 ≤ (tg ts k).after.getD ((j : Int) - 1).toNat 0
          · repeat' (first | refine go ?_ | refine goX ?_ | refine goB ?_ | (refine goG ?_; intro g) | (refine goV ?_; intro v))
            refine WC.ret ?_
            exact Fin.v (ResE.t1 rfl rfl) (by (repeat (first | exact List.Mem.head _ | apply List.Mem.tail)); done) (by rw [hbad]; intro g; have := (g.a j hjl).2.2 d3; rw [e6] at d4; omega)
          · repeat' (first | refine go ?_ | refine goX ?_ | refine goB ?_ | (refine goG ?_; intro g) | (refine goV ?_; intro v))
            exact LoopEnd.mk (j + 1) ⟨by omega, goodAfter_succ hga d1 d2 (.inr (by rw [e6] at d4; exact d4))⟩ (by omega)
        · repeat' (first | refine go ?_ | refine goX ?_ | refine goB ?_ | (refine goG ?_; intro g) | (refine goV ?_; intro v))
          exact LoopEnd.mk (j + 1) ⟨by omega, goodAfter_succ hga d1 d2 (.inl d3)⟩ (by omega)
      · repeat' (first | refine go ?_ | refine goX ?_ | refine goB ?_ | (refine goG ?_; intro g) | (refine goV ?_; intro v))
        obtain rfl : j = (tg ts k).after.length := by omega
        exact LoopEnd.mk (k + 1) ⟨by omega, good_upto hg (good_of c1 c2 (by omega) (by omega) hga)⟩ (by omega)
    · repeat' (first | refine go ?_ | refine goX ?_ | refine goB ?_ | (refine goG ?_; intro g) | (refine goV ?_; intro v))
      refine WC.ret ?_
      exact Fin.v (ResE.t1 rfl rfl) (by (repeat (first | exact List.Mem.head _ | apply List.Mem.tail)); done) (by rw [hbad]; intro g; have g1 := g.o1; have g2 := g.o2; exact c4 (hz.2 ⟨by omega, g2⟩))
  · obtain rfl : k = ts.length := by omega
    repeat' (first | refine go ?_ | refine goX ?_ | refine goB ?_ | (refine goG ?_; intro g) | (refine goV ?_; intro v))
    refine WC.ret ?_
    exact Fin.v (ResE.t1 rfl rfl) (by (repeat (first | exact List.Mem.head _ | apply List.Mem.tail)); done) (by rw [validE_ok (by omega) (by omega) (by omega) hg])
end Go.Proofs.Ytgacbfckaglhbaa
namespace Go.Proofs.Ytgacbfckaglhbaa
open W Go.RowKit
attribute [local irreducible] WC WL WD YO LO LoopEnd W.Fin Scalar SliceT FieldAt Row ArrT AllocT KnS Has W.One SrcE IntT

def pairG (ts : List Tk) (st on : List Int) (i k : Nat) : Prop :=
  ¬ ((k : Int) ∈ (tg ts i).after ∧ st.getD i 0 < st.getD k 0 + (tg ts k).time) ∧ ¬ (on.getD i 0 = on.getD k 0 ∧ st.getD i 0 < st.getD k 0 + (tg ts k).time ∧ st.getD k 0 < st.getD i 0 + (tg ts i).time)

theorem not_feas3 {ts : List Tk} {m : Nat} {st on : List Int} {i k : Nat} (hi : i < ts.length) (hk : k < i) (ht : ∀ j, j < ts.length → 1 ≤ (tg ts j).time) (h : ¬ pairG ts st on i k) : ¬ Feas ts m st on := fun hf => h (by
  have h1 := hf.2 i hi k (by omega)
  have h2 := hf.2 k (by omega) i hi
  have t1 := ht i hi
  have t2 := ht k (by omega)
  refine ⟨h1.1, fun hc => ?_⟩
  have a := h1.2; have b := h2.2
  omega)
theorem feas_of {M : Nat} {ts : List Tk} (hg : AllGood M ts) {m : Nat} {st on : List Int} (h : ∀ i, i < ts.length → okTask ts m st on i ∧ ∀ k, k < i → pairG ts st on i k) : Feas ts m st on :=
  ⟨fun i hi => (h i hi).1, fun i hi k hk => by
    have ti := (hg i hi).t1
    have tk := (hg k hk).t1
    rcases Nat.lt_trichotomy k i with hlt | rfl | hlt
    · have h1 := (h i hi).2 k hlt
      refine ⟨h1.1, fun hc => ?_⟩
      have := h1.2; omega
    · refine ⟨fun hc => ?_, fun hc => hc.1 rfl⟩
      obtain ⟨j, hj, he⟩ := List.mem_iff_getElem.1 hc.1
      have := good_after hg hi j hj
      rw [List.getD_eq_getElem?_getD, List.getElem?_eq_getElem hj, he] at this
      simp at this
    · have h1 := (h k hk).2 i hlt
      refine ⟨fun hc => ?_, fun hc => ?_⟩
      · obtain ⟨j, hj, he⟩ := List.mem_iff_getElem.1 hc.1
        have := good_after hg hi j hj
        rw [List.getD_eq_getElem?_getD, List.getElem?_eq_getElem hj, he] at this
        simp at this; omega
      · have := h1.2; omega⟩

theorem may_iff {o : Int} {k : Nat} (ho : 0 ≤ o) (hk : k < 4) : may o k ↔ o / 2 ^ ((k : Int)).toNat % 2 = 1 := by
  have := may_bit o k ho
  unfold may; simp only [Int.toNat_natCast]; rw [this]
  constructor
  · intro h; exact h.2.2
  · intro h; exact ⟨by omega, by omega, h⟩

theorem shr_bd {o : Int} (k : Nat) (ho : 0 ≤ o) : 0 ≤ o / 2 ^ k ∧ o / 2 ^ k ≤ o :=
  ⟨Int.ediv_nonneg ho (Int.le_of_lt (Int.pow_pos (by decide))), Int.ediv_le_self _ ho⟩

set_option maxHeartbeats 2000000 in
set_option maxRecDepth 2000 in
theorem check_c (v sv ov : Value) (avs : List Value) (ts : List Tk) (m : Int) (st on : List Int) (hi64 : TI64 ts) :
    FnB Try.prog 24 [v, .int .i64 m, sv, ov] [] [sT v avs ts, sA avs ts, sI sv st, sI ov on] (IsV (two (checkP ts m st on))) := by
  refine fn_of [(0, v), (1, .int .i64 m), (2, sv), (3, ov)] 146 Try.func24 rfl Try.ntmps24 (by kernel_rfl) rfl (by repeat (first | exact Sub.nil _ | refine Sub.cons rfl ?_)) fun h0 => ?_
  refine WC.lenI sv st (Has.mem (by (repeat (first | exact List.Mem.head _ | apply List.Mem.tail)); done)) fun hlen1 => ?_
  refine WC.lenI ov on (Has.mem (by (repeat (first | exact List.Mem.head _ | apply List.Mem.tail)); done)) fun hlen2 => ?_
  repeat' (first | refine go ?_ | refine goX ?_ | refine goB ?_ | (refine goG ?_; intro g) | (refine goV ?_; intro v) | refine goD ?_ | refine goXD ?_ | (refine goDG ?_; intro g) | (refine goDV ?_; intro v) | (apply WC.draw (id := 10) [0, 1, 2, 3, 4, 5, 6, 7, 8, 9, 10, 11, 12, 13, 14, 15, 16, 17, 18, 19, 20, 21, 22, 23, 24, 25, 26, 27, 28, 29, 30, 31, 32, 33, 34, 35, 36, 37] (.held 0 (.held 1 (.held 2 (.held 3 (.held 4 (.held 5 (.held 6 (.held 7 (.held 8 (.held 9 (.held 10 (.held 11 (.held 12 (.held 13 (.held 14 (.held 15 (.held 16 (.held 17 (.held 18 (.held 19 (.held 20 (.held 21 (.held 22 (.held 23 (.held 24 (.held 25 (.held 26 (.held 27 (.held 28 (.held 29 (.held 30 (.held 31 (.held 32 (.held 33 (.held 34 (.held 35 (.held 36 (.held 37 (.done))))))))))))))))))))))))))))))))))))))) mixed (by kernel_rfl)) | (apply WC.draw (id := 12) [0, 1, 2, 3, 4, 5, 6, 7] (.held 0 (.held 1 (.held 2 (.held 3 (.held 4 (.held 5 (.held 6 (.held 7 (.done))))))))) mixed (by kernel_rfl)) | (apply WC.draw (id := 16) [0, 1, 2, 3, 4, 5, 6, 7, 8, 9, 10] (.held 0 (.held 1 (.held 2 (.held 3 (.held 4 (.held 5 (.held 6 (.held 7 (.held 8 (.held 9 (.held 10 (.done)))))))))))) mixed (by kernel_rfl)) | (apply WC.draw (id := 17) [0, 1, 2, 4, 5, 6, 7, 8, 9, 10, 11, 12, 13, 14, 15, 16, 17, 18, 19, 20, 21, 22, 23, 24, 25, 26, 27, 28, 29, 30, 31, 32, 33, 34, 35, 36, 37, 38] (.held 0 (.held 1 (.held 2 (.loud 3 (.held 4 (.held 5 (.held 6 (.held 7 (.held 8 (.held 9 (.held 10 (.held 11 (.held 12 (.held 13 (.held 14 (.held 15 (.held 16 (.held 17 (.held 18 (.held 19 (.held 20 (.held 21 (.held 22 (.held 23 (.held 24 (.held 25 (.held 26 (.held 27 (.held 28 (.held 29 (.held 30 (.held 31 (.held 32 (.held 33 (.held 34 (.held 35 (.held 36 (.held 37 (.held 38 (.done)))))))))))))))))))))))))))))))))))))))) mixed (by kernel_rfl)))
  first | refine WL.callV (valid_c v avs ts m hi64) ?_ | refine WD.callV (valid_c v avs ts m hi64) ?_
  by_cases h : validE ts m = 0
  · rw [h]
    by_cases h1 : st.length = ts.length
    · by_cases h2 : on.length = ts.length
      · obtain ⟨hl, M, rfl, hM1, hM4, hg⟩ := validE_0 h
        have hno : ¬ Feas ts M st on → checkP ts M st on = (0, 22) := checkP_no h h1 h2
        have hok : Feas ts M st on → checkP ts M st on = (lenP ts st, 0) := checkP_ok h h1 h2
        have ht := good_time hg
        have ht1 : ∀ j, j < ts.length → 1 ≤ (tg ts j).time := fun j hj => (hg j hj).t1
        have hbo := good_on hg hM4
        repeat' (first | refine go ?_ | refine goX ?_ | refine goB ?_ | (refine goG ?_; intro g) | (refine goV ?_; intro v) | refine goD ?_ | refine goXD ?_ | (refine goDG ?_; intro g) | (refine goDV ?_; intro v) | (apply WC.draw (id := 10) [0, 1, 2, 3, 4, 5, 6, 7, 8, 9, 10, 11, 12, 13, 14, 15, 16, 17, 18, 19, 20, 21, 22, 23, 24, 25, 26, 27, 28, 29, 30, 31, 32, 33, 34, 35, 36, 37] (.held 0 (.held 1 (.held 2 (.held 3 (.held 4 (.held 5 (.held 6 (.held 7 (.held 8 (.held 9 (.held 10 (.held 11 (.held 12 (.held 13 (.held 14 (.held 15 (.held 16 (.held 17 (.held 18 (.held 19 (.held 20 (.held 21 (.held 22 (.held 23 (.held 24 (.held 25 (.held 26 (.held 27 (.held 28 (.held 29 (.held 30 (.held 31 (.held 32 (.held 33 (.held 34 (.held 35 (.held 36 (.held 37 (.done))))))))))))))))))))))))))))))))))))))) mixed (by kernel_rfl)) | (apply WC.draw (id := 12) [0, 1, 2, 3, 4, 5, 6, 7] (.held 0 (.held 1 (.held 2 (.held 3 (.held 4 (.held 5 (.held 6 (.held 7 (.done))))))))) mixed (by kernel_rfl)) | (apply WC.draw (id := 16) [0, 1, 2, 3, 4, 5, 6, 7, 8, 9, 10] (.held 0 (.held 1 (.held 2 (.held 3 (.held 4 (.held 5 (.held 6 (.held 7 (.held 8 (.held 9 (.held 10 (.done)))))))))))) mixed (by kernel_rfl)) | (apply WC.draw (id := 17) [0, 1, 2, 4, 5, 6, 7, 8, 9, 10, 11, 12, 13, 14, 15, 16, 17, 18, 19, 20, 21, 22, 23, 24, 25, 26, 27, 28, 29, 30, 31, 32, 33, 34, 35, 36, 37, 38] (.held 0 (.held 1 (.held 2 (.loud 3 (.held 4 (.held 5 (.held 6 (.held 7 (.held 8 (.held 9 (.held 10 (.held 11 (.held 12 (.held 13 (.held 14 (.held 15 (.held 16 (.held 17 (.held 18 (.held 19 (.held 20 (.held 21 (.held 22 (.held 23 (.held 24 (.held 25 (.held 26 (.held 27 (.held 28 (.held 29 (.held 30 (.held 31 (.held 32 (.held 33 (.held 34 (.held 35 (.held 36 (.held 37 (.held 38 (.done)))))))))))))))))))))))))))))))))))))))) mixed (by kernel_rfl)))
        refine WC.lp (σ := Nat) (fun i => [(37, .int .i64 (i : Int)), (36, .int .i64 (ts.length : Int)), (35, v), (11, .int .i64 (lenN ts st i)), (0, v), (1, .int .i64 M), (2, sv), (3, ov)]) (fun _ => []) (fun _ => [ge h0, sT v avs ts, sA avs ts, sI sv st, sI ov on]) (fun i => i ≤ ts.length ∧ ∀ j, j < i → okTask ts M st on j ∧ ∀ k, k < j → pairG ts st on j k) (fun i => ts.length - i) 0 (by simp) ?_
        rintro i ⟨hi, hi2⟩
        have hb := lenN_bd (m := M) (on := on) ht i fun j hj => (hi2 j hj).1
        have hti := ht i
        have hoi := hbo i
        by_cases hlt : i < ts.length
        · by_cases c1 : st.getD i 0 < 0
          · repeat' (first | refine go ?_ | refine goX ?_ | refine goB ?_ | (refine goG ?_; intro g) | (refine goV ?_; intro v) | refine goD ?_ | refine goXD ?_ | (refine goDG ?_; intro g) | (refine goDV ?_; intro v) | (apply WC.draw (id := 10) [0, 1, 2, 3, 4, 5, 6, 7, 8, 9, 10, 11, 12, 13, 14, 15, 16, 17, 18, 19, 20, 21, 22, 23, 24, 25, 26, 27, 28, 29, 30, 31, 32, 33, 34, 35, 36, 37] (.held 0 (.held 1 (.held 2 (.held 3 (.held 4 (.held 5 (.held 6 (.held 7 (.held 8 (.held 9 (.held 10 (.held 11 (.held 12 (.held 13 (.held 14 (.held 15 (.held 16 (.held 17 (.held 18 (.held 19 (.held 20 (.held 21 (.held 22 (.held 23 (.held 24 (.held 25 (.held 26 (.held 27 (.held 28 (.held 29 (.held 30 (.held 31 (.held 32 (.held 33 (.held 34 (.held 35 (.held 36 (.held 37 (.done))))))))))))))))))))))))))))))))))))))) mixed (by kernel_rfl)) | (apply WC.draw (id := 12) [0, 1, 2, 3, 4, 5, 6, 7] (.held 0 (.held 1 (.held 2 (.held 3 (.held 4 (.held 5 (.held 6 (.held 7 (.done))))))))) mixed (by kernel_rfl)) | (apply WC.draw (id := 16) [0, 1, 2, 3, 4, 5, 6, 7, 8, 9, 10] (.held 0 (.held 1 (.held 2 (.held 3 (.held 4 (.held 5 (.held 6 (.held 7 (.held 8 (.held 9 (.held 10 (.done)))))))))))) mixed (by kernel_rfl)) | (apply WC.draw (id := 17) [0, 1, 2, 4, 5, 6, 7, 8, 9, 10, 11, 12, 13, 14, 15, 16, 17, 18, 19, 20, 21, 22, 23, 24, 25, 26, 27, 28, 29, 30, 31, 32, 33, 34, 35, 36, 37, 38] (.held 0 (.held 1 (.held 2 (.loud 3 (.held 4 (.held 5 (.held 6 (.held 7 (.held 8 (.held 9 (.held 10 (.held 11 (.held 12 (.held 13 (.held 14 (.held 15 (.held 16 (.held 17 (.held 18 (.held 19 (.held 20 (.held 21 (.held 22 (.held 23 (.held 24 (.held 25 (.held 26 (.held 27 (.held 28 (.held 29 (.held 30 (.held 31 (.held 32 (.held 33 (.held 34 (.held 35 (.held 36 (.held 37 (.held 38 (.done)))))))))))))))))))))))))))))))))))))))) mixed (by kernel_rfl)))
            refine WC.ret ?_
            exact Fin.v (ResE.t2 rfl rfl rfl) (by (repeat (first | exact List.Mem.head _ | apply List.Mem.tail)); done) (by rw [hno (not_feas1 hlt fun h => by have := h.1; omega)])
          by_cases c2 : 1048576 < st.getD i 0
          · repeat' (first | refine go ?_ | refine goX ?_ | refine goB ?_ | (refine goG ?_; intro g) | (refine goV ?_; intro v) | refine goD ?_ | refine goXD ?_ | (refine goDG ?_; intro g) | (refine goDV ?_; intro v) | (apply WC.draw (id := 10) [0, 1, 2, 3, 4, 5, 6, 7, 8, 9, 10, 11, 12, 13, 14, 15, 16, 17, 18, 19, 20, 21, 22, 23, 24, 25, 26, 27, 28, 29, 30, 31, 32, 33, 34, 35, 36, 37] (.held 0 (.held 1 (.held 2 (.held 3 (.held 4 (.held 5 (.held 6 (.held 7 (.held 8 (.held 9 (.held 10 (.held 11 (.held 12 (.held 13 (.held 14 (.held 15 (.held 16 (.held 17 (.held 18 (.held 19 (.held 20 (.held 21 (.held 22 (.held 23 (.held 24 (.held 25 (.held 26 (.held 27 (.held 28 (.held 29 (.held 30 (.held 31 (.held 32 (.held 33 (.held 34 (.held 35 (.held 36 (.held 37 (.done))))))))))))))))))))))))))))))))))))))) mixed (by kernel_rfl)) | (apply WC.draw (id := 12) [0, 1, 2, 3, 4, 5, 6, 7] (.held 0 (.held 1 (.held 2 (.held 3 (.held 4 (.held 5 (.held 6 (.held 7 (.done))))))))) mixed (by kernel_rfl)) | (apply WC.draw (id := 16) [0, 1, 2, 3, 4, 5, 6, 7, 8, 9, 10] (.held 0 (.held 1 (.held 2 (.held 3 (.held 4 (.held 5 (.held 6 (.held 7 (.held 8 (.held 9 (.held 10 (.done)))))))))))) mixed (by kernel_rfl)) | (apply WC.draw (id := 17) [0, 1, 2, 4, 5, 6, 7, 8, 9, 10, 11, 12, 13, 14, 15, 16, 17, 18, 19, 20, 21, 22, 23, 24, 25, 26, 27, 28, 29, 30, 31, 32, 33, 34, 35, 36, 37, 38] (.held 0 (.held 1 (.held 2 (.loud 3 (.held 4 (.held 5 (.held 6 (.held 7 (.held 8 (.held 9 (.held 10 (.held 11 (.held 12 (.held 13 (.held 14 (.held 15 (.held 16 (.held 17 (.held 18 (.held 19 (.held 20 (.held 21 (.held 22 (.held 23 (.held 24 (.held 25 (.held 26 (.held 27 (.held 28 (.held 29 (.held 30 (.held 31 (.held 32 (.held 33 (.held 34 (.held 35 (.held 36 (.held 37 (.held 38 (.done)))))))))))))))))))))))))))))))))))))))) mixed (by kernel_rfl)))
            refine WC.ret ?_
            exact Fin.v (ResE.t2 rfl rfl rfl) (by (repeat (first | exact List.Mem.head _ | apply List.Mem.tail)); done) (by rw [hno (not_feas1 hlt fun h => by have := h.1; omega)])
          by_cases c3 : on.getD i 0 < 0
          · repeat' (first | refine go ?_ | refine goX ?_ | refine goB ?_ | (refine goG ?_; intro g) | (refine goV ?_; intro v) | refine goD ?_ | refine goXD ?_ | (refine goDG ?_; intro g) | (refine goDV ?_; intro v) | (apply WC.draw (id := 10) [0, 1, 2, 3, 4, 5, 6, 7, 8, 9, 10, 11, 12, 13, 14, 15, 16, 17, 18, 19, 20, 21, 22, 23, 24, 25, 26, 27, 28, 29, 30, 31, 32, 33, 34, 35, 36, 37] (.held 0 (.held 1 (.held 2 (.held 3 (.held 4 (.held 5 (.held 6 (.held 7 (.held 8 (.held 9 (.held 10 (.held 11 (.held 12 (.held 13 (.held 14 (.held 15 (.held 16 (.held 17 (.held 18 (.held 19 (.held 20 (.held 21 (.held 22 (.held 23 (.held 24 (.held 25 (.held 26 (.held 27 (.held 28 (.held 29 (.held 30 (.held 31 (.held 32 (.held 33 (.held 34 (.held 35 (.held 36 (.held 37 (.done))))))))))))))))))))))))))))))))))))))) mixed (by kernel_rfl)) | (apply WC.draw (id := 12) [0, 1, 2, 3, 4, 5, 6, 7] (.held 0 (.held 1 (.held 2 (.held 3 (.held 4 (.held 5 (.held 6 (.held 7 (.done))))))))) mixed (by kernel_rfl)) | (apply WC.draw (id := 16) [0, 1, 2, 3, 4, 5, 6, 7, 8, 9, 10] (.held 0 (.held 1 (.held 2 (.held 3 (.held 4 (.held 5 (.held 6 (.held 7 (.held 8 (.held 9 (.held 10 (.done)))))))))))) mixed (by kernel_rfl)) | (apply WC.draw (id := 17) [0, 1, 2, 4, 5, 6, 7, 8, 9, 10, 11, 12, 13, 14, 15, 16, 17, 18, 19, 20, 21, 22, 23, 24, 25, 26, 27, 28, 29, 30, 31, 32, 33, 34, 35, 36, 37, 38] (.held 0 (.held 1 (.held 2 (.loud 3 (.held 4 (.held 5 (.held 6 (.held 7 (.held 8 (.held 9 (.held 10 (.held 11 (.held 12 (.held 13 (.held 14 (.held 15 (.held 16 (.held 17 (.held 18 (.held 19 (.held 20 (.held 21 (.held 22 (.held 23 (.held 24 (.held 25 (.held 26 (.held 27 (.held 28 (.held 29 (.held 30 (.held 31 (.held 32 (.held 33 (.held 34 (.held 35 (.held 36 (.held 37 (.held 38 (.done)))))))))))))))))))))))))))))))))))))))) mixed (by kernel_rfl)))
            refine WC.ret ?_
            exact Fin.v (ResE.t2 rfl rfl rfl) (by (repeat (first | exact List.Mem.head _ | apply List.Mem.tail)); done) (by rw [hno (not_feas1 hlt fun h => by have := h.2.1.1; omega)])
          by_cases c4 : (M : Int) ≤ on.getD i 0
          · repeat' (first | refine go ?_ | refine goX ?_ | refine goB ?_ | (refine goG ?_; intro g) | (refine goV ?_; intro v) | refine goD ?_ | refine goXD ?_ | (refine goDG ?_; intro g) | (refine goDV ?_; intro v) | (apply WC.draw (id := 10) [0, 1, 2, 3, 4, 5, 6, 7, 8, 9, 10, 11, 12, 13, 14, 15, 16, 17, 18, 19, 20, 21, 22, 23, 24, 25, 26, 27, 28, 29, 30, 31, 32, 33, 34, 35, 36, 37] (.held 0 (.held 1 (.held 2 (.held 3 (.held 4 (.held 5 (.held 6 (.held 7 (.held 8 (.held 9 (.held 10 (.held 11 (.held 12 (.held 13 (.held 14 (.held 15 (.held 16 (.held 17 (.held 18 (.held 19 (.held 20 (.held 21 (.held 22 (.held 23 (.held 24 (.held 25 (.held 26 (.held 27 (.held 28 (.held 29 (.held 30 (.held 31 (.held 32 (.held 33 (.held 34 (.held 35 (.held 36 (.held 37 (.done))))))))))))))))))))))))))))))))))))))) mixed (by kernel_rfl)) | (apply WC.draw (id := 12) [0, 1, 2, 3, 4, 5, 6, 7] (.held 0 (.held 1 (.held 2 (.held 3 (.held 4 (.held 5 (.held 6 (.held 7 (.done))))))))) mixed (by kernel_rfl)) | (apply WC.draw (id := 16) [0, 1, 2, 3, 4, 5, 6, 7, 8, 9, 10] (.held 0 (.held 1 (.held 2 (.held 3 (.held 4 (.held 5 (.held 6 (.held 7 (.held 8 (.held 9 (.held 10 (.done)))))))))))) mixed (by kernel_rfl)) | (apply WC.draw (id := 17) [0, 1, 2, 4, 5, 6, 7, 8, 9, 10, 11, 12, 13, 14, 15, 16, 17, 18, 19, 20, 21, 22, 23, 24, 25, 26, 27, 28, 29, 30, 31, 32, 33, 34, 35, 36, 37, 38] (.held 0 (.held 1 (.held 2 (.loud 3 (.held 4 (.held 5 (.held 6 (.held 7 (.held 8 (.held 9 (.held 10 (.held 11 (.held 12 (.held 13 (.held 14 (.held 15 (.held 16 (.held 17 (.held 18 (.held 19 (.held 20 (.held 21 (.held 22 (.held 23 (.held 24 (.held 25 (.held 26 (.held 27 (.held 28 (.held 29 (.held 30 (.held 31 (.held 32 (.held 33 (.held 34 (.held 35 (.held 36 (.held 37 (.held 38 (.done)))))))))))))))))))))))))))))))))))))))) mixed (by kernel_rfl)))
            refine WC.ret ?_
            exact Fin.v (ResE.t2 rfl rfl rfl) (by (repeat (first | exact List.Mem.head _ | apply List.Mem.tail)); done) (by rw [hno (not_feas1 hlt fun h => by have := h.2.2; omega)])
          obtain ⟨o', ho'⟩ := Int.eq_ofNat_of_zero_le (show 0 ≤ on.getD i 0 by omega)
          have hmi := may_iff (o := (tg ts i).on) (k := o') hoi.1 (by omega)
          have hsb := shr_bd (o := (tg ts i).on) (on.getD i 0).toNat hoi.1
          rw [← ho'] at hmi
          by_cases c5 : (tg ts i).on / 2 ^ (on.getD i 0).toNat % 2 = 1
          · have hoki : okTask ts M st on i := ⟨by omega, hmi.2 c5, by omega⟩
            repeat' (first | refine go ?_ | refine goX ?_ | refine goB ?_ | (refine goG ?_; intro g) | (refine goV ?_; intro v) | refine goD ?_ | refine goXD ?_ | (refine goDG ?_; intro g) | (refine goDV ?_; intro v) | (apply WC.draw (id := 10) [0, 1, 2, 3, 4, 5, 6, 7, 8, 9, 10, 11, 12, 13, 14, 15, 16, 17, 18, 19, 20, 21, 22, 23, 24, 25, 26, 27, 28, 29, 30, 31, 32, 33, 34, 35, 36, 37] (.held 0 (.held 1 (.held 2 (.held 3 (.held 4 (.held 5 (.held 6 (.held 7 (.held 8 (.held 9 (.held 10 (.held 11 (.held 12 (.held 13 (.held 14 (.held 15 (.held 16 (.held 17 (.held 18 (.held 19 (.held 20 (.held 21 (.held 22 (.held 23 (.held 24 (.held 25 (.held 26 (.held 27 (.held 28 (.held 29 (.held 30 (.held 31 (.held 32 (.held 33 (.held 34 (.held 35 (.held 36 (.held 37 (.done))))))))))))))))))))))))))))))))))))))) mixed (by kernel_rfl)) | (apply WC.draw (id := 12) [0, 1, 2, 3, 4, 5, 6, 7] (.held 0 (.held 1 (.held 2 (.held 3 (.held 4 (.held 5 (.held 6 (.held 7 (.done))))))))) mixed (by kernel_rfl)) | (apply WC.draw (id := 16) [0, 1, 2, 3, 4, 5, 6, 7, 8, 9, 10] (.held 0 (.held 1 (.held 2 (.held 3 (.held 4 (.held 5 (.held 6 (.held 7 (.held 8 (.held 9 (.held 10 (.done)))))))))))) mixed (by kernel_rfl)) | (apply WC.draw (id := 17) [0, 1, 2, 4, 5, 6, 7, 8, 9, 10, 11, 12, 13, 14, 15, 16, 17, 18, 19, 20, 21, 22, 23, 24, 25, 26, 27, 28, 29, 30, 31, 32, 33, 34, 35, 36, 37, 38] (.held 0 (.held 1 (.held 2 (.loud 3 (.held 4 (.held 5 (.held 6 (.held 7 (.held 8 (.held 9 (.held 10 (.held 11 (.held 12 (.held 13 (.held 14 (.held 15 (.held 16 (.held 17 (.held 18 (.held 19 (.held 20 (.held 21 (.held 22 (.held 23 (.held 24 (.held 25 (.held 26 (.held 27 (.held 28 (.held 29 (.held 30 (.held 31 (.held 32 (.held 33 (.held 34 (.held 35 (.held 36 (.held 37 (.held 38 (.done)))))))))))))))))))))))))))))))))))))))) mixed (by kernel_rfl)))
            refine WC.lp (σ := Nat) (fun k => [(88, .int .i64 (k : Int)), (87, .int .i64 (i : Int)), (14, .int .i64 (st.getD i 0 + (tg ts i).time)), (13, .pointer (some ⟨g, 0, none⟩)), (12, .int .i64 (i : Int)), (37, .int .i64 (i : Int)), (36, .int .i64 (ts.length : Int)), (35, v), (11, .int .i64 (lenN ts st i)), (0, v), (1, .int .i64 M), (2, sv), (3, ov)]) (fun _ => [Ow.cells g 48 [.int .i64 (tg ts i).time, .int .i64 (tg ts i).on, avs.getD i undef]]) (fun _ => [ge h0, sT v avs ts, sA avs ts, sI sv st, sI ov on]) (fun k => k ≤ i ∧ ∀ j, j < k → pairG ts st on i j) (fun k => i - k) 0 (by simp) ?_
            rintro k ⟨hk, hk3⟩
            by_cases hlk : k < i
            · have htk := ht k
              have hsk := (hi2 k hlk).1.1
              repeat' (first | refine go ?_ | refine goX ?_ | refine goB ?_ | (refine goG ?_; intro g) | (refine goV ?_; intro v) | refine goD ?_ | refine goXD ?_ | (refine goDG ?_; intro g) | (refine goDV ?_; intro v) | (apply WC.draw (id := 10) [0, 1, 2, 3, 4, 5, 6, 7, 8, 9, 10, 11, 12, 13, 14, 15, 16, 17, 18, 19, 20, 21, 22, 23, 24, 25, 26, 27, 28, 29, 30, 31, 32, 33, 34, 35, 36, 37] (.held 0 (.held 1 (.held 2 (.held 3 (.held 4 (.held 5 (.held 6 (.held 7 (.held 8 (.held 9 (.held 10 (.held 11 (.held 12 (.held 13 (.held 14 (.held 15 (.held 16 (.held 17 (.held 18 (.held 19 (.held 20 (.held 21 (.held 22 (.held 23 (.held 24 (.held 25 (.held 26 (.held 27 (.held 28 (.held 29 (.held 30 (.held 31 (.held 32 (.held 33 (.held 34 (.held 35 (.held 36 (.held 37 (.done))))))))))))))))))))))))))))))))))))))) mixed (by kernel_rfl)) | (apply WC.draw (id := 12) [0, 1, 2, 3, 4, 5, 6, 7] (.held 0 (.held 1 (.held 2 (.held 3 (.held 4 (.held 5 (.held 6 (.held 7 (.done))))))))) mixed (by kernel_rfl)) | (apply WC.draw (id := 16) [0, 1, 2, 3, 4, 5, 6, 7, 8, 9, 10] (.held 0 (.held 1 (.held 2 (.held 3 (.held 4 (.held 5 (.held 6 (.held 7 (.held 8 (.held 9 (.held 10 (.done)))))))))))) mixed (by kernel_rfl)) | (apply WC.draw (id := 17) [0, 1, 2, 4, 5, 6, 7, 8, 9, 10, 11, 12, 13, 14, 15, 16, 17, 18, 19, 20, 21, 22, 23, 24, 25, 26, 27, 28, 29, 30, 31, 32, 33, 34, 35, 36, 37, 38] (.held 0 (.held 1 (.held 2 (.loud 3 (.held 4 (.held 5 (.held 6 (.held 7 (.held 8 (.held 9 (.held 10 (.held 11 (.held 12 (.held 13 (.held 14 (.held 15 (.held 16 (.held 17 (.held 18 (.held 19 (.held 20 (.held 21 (.held 22 (.held 23 (.held 24 (.held 25 (.held 26 (.held 27 (.held 28 (.held 29 (.held 30 (.held 31 (.held 32 (.held 33 (.held 34 (.held 35 (.held 36 (.held 37 (.held 38 (.done)))))))))))))))))))))))))))))))))))))))) mixed (by kernel_rfl)))
              first | refine WL.callV (contains_c (avs.getD i undef) (tg ts i).after k) ?_ | refine WD.callV (contains_c (avs.getD i undef) (tg ts i).after k) ?_
              have hbad : ¬ pairG ts st on i k → checkP ts M st on = (0, 22) := fun h => hno (not_feas3 hlt hlk ht1 h)
              by_cases d2 : st.getD i 0 < st.getD k 0 + (tg ts k).time
              · by_cases d1 : (k : Int) ∈ (tg ts i).after
                · rw [decide_eq_true d1]
                  repeat' (first | refine go ?_ | refine goX ?_ | refine goB ?_ | (refine goG ?_; intro g) | (refine goV ?_; intro v) | refine goD ?_ | refine goXD ?_ | (refine goDG ?_; intro g) | (refine goDV ?_; intro v) | (apply WC.draw (id := 10) [0, 1, 2, 3, 4, 5, 6, 7, 8, 9, 10, 11, 12, 13, 14, 15, 16, 17, 18, 19, 20, 21, 22, 23, 24, 25, 26, 27, 28, 29, 30, 31, 32, 33, 34, 35, 36, 37] (.held 0 (.held 1 (.held 2 (.held 3 (.held 4 (.held 5 (.held 6 (.held 7 (.held 8 (.held 9 (.held 10 (.held 11 (.held 12 (.held 13 (.held 14 (.held 15 (.held 16 (.held 17 (.held 18 (.held 19 (.held 20 (.held 21 (.held 22 (.held 23 (.held 24 (.held 25 (.held 26 (.held 27 (.held 28 (.held 29 (.held 30 (.held 31 (.held 32 (.held 33 (.held 34 (.held 35 (.held 36 (.held 37 (.done))))))))))))))))))))))))))))))))))))))) mixed (by kernel_rfl)) | (apply WC.draw (id := 12) [0, 1, 2, 3, 4, 5, 6, 7] (.held 0 (.held 1 (.held 2 (.held 3 (.held 4 (.held 5 (.held 6 (.held 7 (.done))))))))) mixed (by kernel_rfl)) | (apply WC.draw (id := 16) [0, 1, 2, 3, 4, 5, 6, 7, 8, 9, 10] (.held 0 (.held 1 (.held 2 (.held 3 (.held 4 (.held 5 (.held 6 (.held 7 (.held 8 (.held 9 (.held 10 (.done)))))))))))) mixed (by kernel_rfl)) | (apply WC.draw (id := 17) [0, 1, 2, 4, 5, 6, 7, 8, 9, 10, 11, 12, 13, 14, 15, 16, 17, 18, 19, 20, 21, 22, 23, 24, 25, 26, 27, 28, 29, 30, 31, 32, 33, 34, 35, 36, 37, 38] (.held 0 (.held 1 (.held 2 (.loud 3 (.held 4 (.held 5 (.held 6 (.held 7 (.held 8 (.held 9 (.held 10 (.held 11 (.held 12 (.held 13 (.held 14 (.held 15 (.held 16 (.held 17 (.held 18 (.held 19 (.held 20 (.held 21 (.held 22 (.held 23 (.held 24 (.held 25 (.held 26 (.held 27 (.held 28 (.held 29 (.held 30 (.held 31 (.held 32 (.held 33 (.held 34 (.held 35 (.held 36 (.held 37 (.held 38 (.done)))))))))))))))))))))))))))))))))))))))) mixed (by kernel_rfl)))
                  refine WC.ret ?_
                  exact Fin.v (ResE.t2 rfl rfl rfl) (by (repeat (first | exact List.Mem.head _ | apply List.Mem.tail)); done) (by rw [hbad fun h => h.1 ⟨d1, d2⟩])
                · rw [decide_eq_false d1]
                  by_cases d3 : on.getD i 0 = on.getD k 0
                  · by_cases d4 : st.getD k 0 < st.getD i 0 + (tg ts i).time
                    · repeat' (first | refine go ?_ | refine goX ?_ | refine goB ?_ | (refine goG ?_; intro g) | (refine goV ?_; intro v) | refine goD ?_ | refine goXD ?_ | (refine goDG ?_; intro g) | (refine goDV ?_; intro v) | (apply WC.draw (id := 10) [0, 1, 2, 3, 4, 5, 6, 7, 8, 9, 10, 11, 12, 13, 14, 15, 16, 17, 18, 19, 20, 21, 22, 23, 24, 25, 26, 27, 28, 29, 30, 31, 32, 33, 34, 35, 36, 37] (.held 0 (.held 1 (.held 2 (.held 3 (.held 4 (.held 5 (.held 6 (.held 7 (.held 8 (.held 9 (.held 10 (.held 11 (.held 12 (.held 13 (.held 14 (.held 15 (.held 16 (.held 17 (.held 18 (.held 19 (.held 20 (.held 21 (.held 22 (.held 23 (.held 24 (.held 25 (.held 26 (.held 27 (.held 28 (.held 29 (.held 30 (.held 31 (.held 32 (.held 33 (.held 34 (.held 35 (.held 36 (.held 37 (.done))))))))))))))))))))))))))))))))))))))) mixed (by kernel_rfl)) | (apply WC.draw (id := 12) [0, 1, 2, 3, 4, 5, 6, 7] (.held 0 (.held 1 (.held 2 (.held 3 (.held 4 (.held 5 (.held 6 (.held 7 (.done))))))))) mixed (by kernel_rfl)) | (apply WC.draw (id := 16) [0, 1, 2, 3, 4, 5, 6, 7, 8, 9, 10] (.held 0 (.held 1 (.held 2 (.held 3 (.held 4 (.held 5 (.held 6 (.held 7 (.held 8 (.held 9 (.held 10 (.done)))))))))))) mixed (by kernel_rfl)) | (apply WC.draw (id := 17) [0, 1, 2, 4, 5, 6, 7, 8, 9, 10, 11, 12, 13, 14, 15, 16, 17, 18, 19, 20, 21, 22, 23, 24, 25, 26, 27, 28, 29, 30, 31, 32, 33, 34, 35, 36, 37, 38] (.held 0 (.held 1 (.held 2 (.loud 3 (.held 4 (.held 5 (.held 6 (.held 7 (.held 8 (.held 9 (.held 10 (.held 11 (.held 12 (.held 13 (.held 14 (.held 15 (.held 16 (.held 17 (.held 18 (.held 19 (.held 20 (.held 21 (.held 22 (.held 23 (.held 24 (.held 25 (.held 26 (.held 27 (.held 28 (.held 29 (.held 30 (.held 31 (.held 32 (.held 33 (.held 34 (.held 35 (.held 36 (.held 37 (.held 38 (.done)))))))))))))))))))))))))))))))))))))))) mixed (by kernel_rfl)))
                      refine WC.ret ?_
                      exact Fin.v (ResE.t2 rfl rfl rfl) (by (repeat (first | exact List.Mem.head _ | apply List.Mem.tail)); done) (by rw [hbad fun h => h.2 ⟨d3, d2, d4⟩])
                    · repeat' (first | refine go ?_ | refine goX ?_ | refine goB ?_ | (refine goG ?_; intro g) | (refine goV ?_; intro v) | refine goD ?_ | refine goXD ?_ | (refine goDG ?_; intro g) | (refine goDV ?_; intro v) | (apply WC.draw (id := 10) [0, 1, 2, 3, 4, 5, 6, 7, 8, 9, 10, 11, 12, 13, 14, 15, 16, 17, 18, 19, 20, 21, 22, 23, 24, 25, 26, 27, 28, 29, 30, 31, 32, 33, 34, 35, 36, 37] (.held 0 (.held 1 (.held 2 (.held 3 (.held 4 (.held 5 (.held 6 (.held 7 (.held 8 (.held 9 (.held 10 (.held 11 (.held 12 (.held 13 (.held 14 (.held 15 (.held 16 (.held 17 (.held 18 (.held 19 (.held 20 (.held 21 (.held 22 (.held 23 (.held 24 (.held 25 (.held 26 (.held 27 (.held 28 (.held 29 (.held 30 (.held 31 (.held 32 (.held 33 (.held 34 (.held 35 (.held 36 (.held 37 (.done))))))))))))))))))))))))))))))))))))))) mixed (by kernel_rfl)) | (apply WC.draw (id := 12) [0, 1, 2, 3, 4, 5, 6, 7] (.held 0 (.held 1 (.held 2 (.held 3 (.held 4 (.held 5 (.held 6 (.held 7 (.done))))))))) mixed (by kernel_rfl)) | (apply WC.draw (id := 16) [0, 1, 2, 3, 4, 5, 6, 7, 8, 9, 10] (.held 0 (.held 1 (.held 2 (.held 3 (.held 4 (.held 5 (.held 6 (.held 7 (.held 8 (.held 9 (.held 10 (.done)))))))))))) mixed (by kernel_rfl)) | (apply WC.draw (id := 17) [0, 1, 2, 4, 5, 6, 7, 8, 9, 10, 11, 12, 13, 14, 15, 16, 17, 18, 19, 20, 21, 22, 23, 24, 25, 26, 27, 28, 29, 30, 31, 32, 33, 34, 35, 36, 37, 38] (.held 0 (.held 1 (.held 2 (.loud 3 (.held 4 (.held 5 (.held 6 (.held 7 (.held 8 (.held 9 (.held 10 (.held 11 (.held 12 (.held 13 (.held 14 (.held 15 (.held 16 (.held 17 (.held 18 (.held 19 (.held 20 (.held 21 (.held 22 (.held 23 (.held 24 (.held 25 (.held 26 (.held 27 (.held 28 (.held 29 (.held 30 (.held 31 (.held 32 (.held 33 (.held 34 (.held 35 (.held 36 (.held 37 (.held 38 (.done)))))))))))))))))))))))))))))))))))))))) mixed (by kernel_rfl)))
                      exact LoopEnd.mk (k + 1) ⟨by omega, upto_succ hk3 (by constructor <;> (intro h; first | exact absurd h.1 d1 | exact absurd h.2 d2 | omega))⟩ (by omega)
                  · repeat' (first | refine go ?_ | refine goX ?_ | refine goB ?_ | (refine goG ?_; intro g) | (refine goV ?_; intro v) | refine goD ?_ | refine goXD ?_ | (refine goDG ?_; intro g) | (refine goDV ?_; intro v) | (apply WC.draw (id := 10) [0, 1, 2, 3, 4, 5, 6, 7, 8, 9, 10, 11, 12, 13, 14, 15, 16, 17, 18, 19, 20, 21, 22, 23, 24, 25, 26, 27, 28, 29, 30, 31, 32, 33, 34, 35, 36, 37] (.held 0 (.held 1 (.held 2 (.held 3 (.held 4 (.held 5 (.held 6 (.held 7 (.held 8 (.held 9 (.held 10 (.held 11 (.held 12 (.held 13 (.held 14 (.held 15 (.held 16 (.held 17 (.held 18 (.held 19 (.held 20 (.held 21 (.held 22 (.held 23 (.held 24 (.held 25 (.held 26 (.held 27 (.held 28 (.held 29 (.held 30 (.held 31 (.held 32 (.held 33 (.held 34 (.held 35 (.held 36 (.held 37 (.done))))))))))))))))))))))))))))))))))))))) mixed (by kernel_rfl)) | (apply WC.draw (id := 12) [0, 1, 2, 3, 4, 5, 6, 7] (.held 0 (.held 1 (.held 2 (.held 3 (.held 4 (.held 5 (.held 6 (.held 7 (.done))))))))) mixed (by kernel_rfl)) | (apply WC.draw (id := 16) [0, 1, 2, 3, 4, 5, 6, 7, 8, 9, 10] (.held 0 (.held 1 (.held 2 (.held 3 (.held 4 (.held 5 (.held 6 (.held 7 (.held 8 (.held 9 (.held 10 (.done)))))))))))) mixed (by kernel_rfl)) | (apply WC.draw (id := 17) [0, 1, 2, 4, 5, 6, 7, 8, 9, 10, 11, 12, 13, 14, 15, 16, 17, 18, 19, 20, 21, 22, 23, 24, 25, 26, 27, 28, 29, 30, 31, 32, 33, 34, 35, 36, 37, 38] (.held 0 (.held 1 (.held 2 (.loud 3 (.held 4 (.held 5 (.held 6 (.held 7 (.held 8 (.held 9 (.held 10 (.held 11 (.held 12 (.held 13 (.held 14 (.held 15 (.held 16 (.held 17 (.held 18 (.held 19 (.held 20 (.held 21 (.held 22 (.held 23 (.held 24 (.held 25 (.held 26 (.held 27 (.held 28 (.held 29 (.held 30 (.held 31 (.held 32 (.held 33 (.held 34 (.held 35 (.held 36 (.held 37 (.held 38 (.done)))))))))))))))))))))))))))))))))))))))) mixed (by kernel_rfl)))
                    exact LoopEnd.mk (k + 1) ⟨by omega, upto_succ hk3 (by constructor <;> (intro h; first | exact absurd h.1 d1 | exact absurd h.2 d2 | omega))⟩ (by omega)
              · by_cases d1 : (k : Int) ∈ (tg ts i).after
                all_goals
                  first | rw [decide_eq_true d1] | rw [decide_eq_false d1]
                  by_cases d3 : on.getD i 0 = on.getD k 0
                  all_goals
                    repeat' (first | refine go ?_ | refine goX ?_ | refine goB ?_ | (refine goG ?_; intro g) | (refine goV ?_; intro v) | refine goD ?_ | refine goXD ?_ | (refine goDG ?_; intro g) | (refine goDV ?_; intro v) | (apply WC.draw (id := 10) [0, 1, 2, 3, 4, 5, 6, 7, 8, 9, 10, 11, 12, 13, 14, 15, 16, 17, 18, 19, 20, 21, 22, 23, 24, 25, 26, 27, 28, 29, 30, 31, 32, 33, 34, 35, 36, 37] (.held 0 (.held 1 (.held 2 (.held 3 (.held 4 (.held 5 (.held 6 (.held 7 (.held 8 (.held 9 (.held 10 (.held 11 (.held 12 (.held 13 (.held 14 (.held 15 (.held 16 (.held 17 (.held 18 (.held 19 (.held 20 (.held 21 (.held 22 (.held 23 (.held 24 (.held 25 (.held 26 (.held 27 (.held 28 (.held 29 (.held 30 (.held 31 (.held 32 (.held 33 (.held 34 (.held 35 (.held 36 (.held 37 (.done))))))))))))))))))))))))))))))))))))))) mixed (by kernel_rfl)) | (apply WC.draw (id := 12) [0, 1, 2, 3, 4, 5, 6, 7] (.held 0 (.held 1 (.held 2 (.held 3 (.held 4 (.held 5 (.held 6 (.held 7 (.done))))))))) mixed (by kernel_rfl)) | (apply WC.draw (id := 16) [0, 1, 2, 3, 4, 5, 6, 7, 8, 9, 10] (.held 0 (.held 1 (.held 2 (.held 3 (.held 4 (.held 5 (.held 6 (.held 7 (.held 8 (.held 9 (.held 10 (.done)))))))))))) mixed (by kernel_rfl)) | (apply WC.draw (id := 17) [0, 1, 2, 4, 5, 6, 7, 8, 9, 10, 11, 12, 13, 14, 15, 16, 17, 18, 19, 20, 21, 22, 23, 24, 25, 26, 27, 28, 29, 30, 31, 32, 33, 34, 35, 36, 37, 38] (.held 0 (.held 1 (.held 2 (.loud 3 (.held 4 (.held 5 (.held 6 (.held 7 (.held 8 (.held 9 (.held 10 (.held 11 (.held 12 (.held 13 (.held 14 (.held 15 (.held 16 (.held 17 (.held 18 (.held 19 (.held 20 (.held 21 (.held 22 (.held 23 (.held 24 (.held 25 (.held 26 (.held 27 (.held 28 (.held 29 (.held 30 (.held 31 (.held 32 (.held 33 (.held 34 (.held 35 (.held 36 (.held 37 (.held 38 (.done)))))))))))))))))))))))))))))))))))))))) mixed (by kernel_rfl)))
                    exact LoopEnd.mk (k + 1) ⟨by omega, upto_succ hk3 (by constructor <;> (intro h; first | exact absurd h.1 d1 | exact absurd h.2 d2 | omega))⟩ (by omega)
            · obtain rfl : k = i := by omega
              repeat' (first | refine go ?_ | refine goX ?_ | refine goB ?_ | (refine goG ?_; intro g) | (refine goV ?_; intro v) | refine goD ?_ | refine goXD ?_ | (refine goDG ?_; intro g) | (refine goDV ?_; intro v) | (apply WC.draw (id := 10) [0, 1, 2, 3, 4, 5, 6, 7, 8, 9, 10, 11, 12, 13, 14, 15, 16, 17, 18, 19, 20, 21, 22, 23, 24, 25, 26, 27, 28, 29, 30, 31, 32, 33, 34, 35, 36, 37] (.held 0 (.held 1 (.held 2 (.held 3 (.held 4 (.held 5 (.held 6 (.held 7 (.held 8 (.held 9 (.held 10 (.held 11 (.held 12 (.held 13 (.held 14 (.held 15 (.held 16 (.held 17 (.held 18 (.held 19 (.held 20 (.held 21 (.held 22 (.held 23 (.held 24 (.held 25 (.held 26 (.held 27 (.held 28 (.held 29 (.held 30 (.held 31 (.held 32 (.held 33 (.held 34 (.held 35 (.held 36 (.held 37 (.done))))))))))))))))))))))))))))))))))))))) mixed (by kernel_rfl)) | (apply WC.draw (id := 12) [0, 1, 2, 3, 4, 5, 6, 7] (.held 0 (.held 1 (.held 2 (.held 3 (.held 4 (.held 5 (.held 6 (.held 7 (.done))))))))) mixed (by kernel_rfl)) | (apply WC.draw (id := 16) [0, 1, 2, 3, 4, 5, 6, 7, 8, 9, 10] (.held 0 (.held 1 (.held 2 (.held 3 (.held 4 (.held 5 (.held 6 (.held 7 (.held 8 (.held 9 (.held 10 (.done)))))))))))) mixed (by kernel_rfl)) | (apply WC.draw (id := 17) [0, 1, 2, 4, 5, 6, 7, 8, 9, 10, 11, 12, 13, 14, 15, 16, 17, 18, 19, 20, 21, 22, 23, 24, 25, 26, 27, 28, 29, 30, 31, 32, 33, 34, 35, 36, 37, 38] (.held 0 (.held 1 (.held 2 (.loud 3 (.held 4 (.held 5 (.held 6 (.held 7 (.held 8 (.held 9 (.held 10 (.held 11 (.held 12 (.held 13 (.held 14 (.held 15 (.held 16 (.held 17 (.held 18 (.held 19 (.held 20 (.held 21 (.held 22 (.held 23 (.held 24 (.held 25 (.held 26 (.held 27 (.held 28 (.held 29 (.held 30 (.held 31 (.held 32 (.held 33 (.held 34 (.held 35 (.held 36 (.held 37 (.held 38 (.done)))))))))))))))))))))))))))))))))))))))) mixed (by kernel_rfl)))
              exact LoopEnd.mk (k + 1) ⟨by omega, upto_succ hi2 ⟨hoki, hk3⟩⟩ (by omega)
          · repeat' (first | refine go ?_ | refine goX ?_ | refine goB ?_ | (refine goG ?_; intro g) | (refine goV ?_; intro v) | refine goD ?_ | refine goXD ?_ | (refine goDG ?_; intro g) | (refine goDV ?_; intro v) | (apply WC.draw (id := 10) [0, 1, 2, 3, 4, 5, 6, 7, 8, 9, 10, 11, 12, 13, 14, 15, 16, 17, 18, 19, 20, 21, 22, 23, 24, 25, 26, 27, 28, 29, 30, 31, 32, 33, 34, 35, 36, 37] (.held 0 (.held 1 (.held 2 (.held 3 (.held 4 (.held 5 (.held 6 (.held 7 (.held 8 (.held 9 (.held 10 (.held 11 (.held 12 (.held 13 (.held 14 (.held 15 (.held 16 (.held 17 (.held 18 (.held 19 (.held 20 (.held 21 (.held 22 (.held 23 (.held 24 (.held 25 (.held 26 (.held 27 (.held 28 (.held 29 (.held 30 (.held 31 (.held 32 (.held 33 (.held 34 (.held 35 (.held 36 (.held 37 (.done))))))))))))))))))))))))))))))))))))))) mixed (by kernel_rfl)) | (apply WC.draw (id := 12) [0, 1, 2, 3, 4, 5, 6, 7] (.held 0 (.held 1 (.held 2 (.held 3 (.held 4 (.held 5 (.held 6 (.held 7 (.done))))))))) mixed (by kernel_rfl)) | (apply WC.draw (id := 16) [0, 1, 2, 3, 4, 5, 6, 7, 8, 9, 10] (.held 0 (.held 1 (.held 2 (.held 3 (.held 4 (.held 5 (.held 6 (.held 7 (.held 8 (.held 9 (.held 10 (.done)))))))))))) mixed (by kernel_rfl)) | (apply WC.draw (id := 17) [0, 1, 2, 4, 5, 6, 7, 8, 9, 10, 11, 12, 13, 14, 15, 16, 17, 18, 19, 20, 21, 22, 23, 24, 25, 26, 27, 28, 29, 30, 31, 32, 33, 34, 35, 36, 37, 38] (.held 0 (.held 1 (.held 2 (.loud 3 (.held 4 (.held 5 (.held 6 (.held 7 (.held 8 (.held 9 (.held 10 (.held 11 (.held 12 (.held 13 (.held 14 (.held 15 (.held 16 (.held 17 (.held 18 (.held 19 (.held 20 (.held 21 (.held 22 (.held 23 (.held 24 (.held 25 (.held 26 (.held 27 (.held 28 (.held 29 (.held 30 (.held 31 (.held 32 (.held 33 (.held 34 (.held 35 (.held 36 (.held 37 (.held 38 (.done)))))))))))))))))))))))))))))))))))))))) mixed (by kernel_rfl)))
            refine WC.ret ?_
            exact Fin.v (ResE.t2 rfl rfl rfl) (by (repeat (first | exact List.Mem.head _ | apply List.Mem.tail)); done) (by rw [hno (not_feas1 hlt fun h => c5 (hmi.1 h.2.1))])
        · obtain rfl : i = ts.length := by omega
          repeat' (first | refine go ?_ | refine goX ?_ | refine goB ?_ | (refine goG ?_; intro g) | (refine goV ?_; intro v) | refine goD ?_ | refine goXD ?_ | (refine goDG ?_; intro g) | (refine goDV ?_; intro v) | (apply WC.draw (id := 10) [0, 1, 2, 3, 4, 5, 6, 7, 8, 9, 10, 11, 12, 13, 14, 15, 16, 17, 18, 19, 20, 21, 22, 23, 24, 25, 26, 27, 28, 29, 30, 31, 32, 33, 34, 35, 36, 37] (.held 0 (.held 1 (.held 2 (.held 3 (.held 4 (.held 5 (.held 6 (.held 7 (.held 8 (.held 9 (.held 10 (.held 11 (.held 12 (.held 13 (.held 14 (.held 15 (.held 16 (.held 17 (.held 18 (.held 19 (.held 20 (.held 21 (.held 22 (.held 23 (.held 24 (.held 25 (.held 26 (.held 27 (.held 28 (.held 29 (.held 30 (.held 31 (.held 32 (.held 33 (.held 34 (.held 35 (.held 36 (.held 37 (.done))))))))))))))))))))))))))))))))))))))) mixed (by kernel_rfl)) | (apply WC.draw (id := 12) [0, 1, 2, 3, 4, 5, 6, 7] (.held 0 (.held 1 (.held 2 (.held 3 (.held 4 (.held 5 (.held 6 (.held 7 (.done))))))))) mixed (by kernel_rfl)) | (apply WC.draw (id := 16) [0, 1, 2, 3, 4, 5, 6, 7, 8, 9, 10] (.held 0 (.held 1 (.held 2 (.held 3 (.held 4 (.held 5 (.held 6 (.held 7 (.held 8 (.held 9 (.held 10 (.done)))))))))))) mixed (by kernel_rfl)) | (apply WC.draw (id := 17) [0, 1, 2, 4, 5, 6, 7, 8, 9, 10, 11, 12, 13, 14, 15, 16, 17, 18, 19, 20, 21, 22, 23, 24, 25, 26, 27, 28, 29, 30, 31, 32, 33, 34, 35, 36, 37, 38] (.held 0 (.held 1 (.held 2 (.loud 3 (.held 4 (.held 5 (.held 6 (.held 7 (.held 8 (.held 9 (.held 10 (.held 11 (.held 12 (.held 13 (.held 14 (.held 15 (.held 16 (.held 17 (.held 18 (.held 19 (.held 20 (.held 21 (.held 22 (.held 23 (.held 24 (.held 25 (.held 26 (.held 27 (.held 28 (.held 29 (.held 30 (.held 31 (.held 32 (.held 33 (.held 34 (.held 35 (.held 36 (.held 37 (.held 38 (.done)))))))))))))))))))))))))))))))))))))))) mixed (by kernel_rfl)))
          refine WC.ret ?_
          exact Fin.v (ResE.t2 rfl rfl rfl) (by (repeat (first | exact List.Mem.head _ | apply List.Mem.tail)); done) (by rw [hok (feas_of hg hi2)])
      · have h2' : (on.length : Int) ≠ ts.length := by omega
        repeat' (first | refine go ?_ | refine goX ?_ | refine goB ?_ | (refine goG ?_; intro g) | (refine goV ?_; intro v) | refine goD ?_ | refine goXD ?_ | (refine goDG ?_; intro g) | (refine goDV ?_; intro v) | (apply WC.draw (id := 10) [0, 1, 2, 3, 4, 5, 6, 7, 8, 9, 10, 11, 12, 13, 14, 15, 16, 17, 18, 19, 20, 21, 22, 23, 24, 25, 26, 27, 28, 29, 30, 31, 32, 33, 34, 35, 36, 37] (.held 0 (.held 1 (.held 2 (.held 3 (.held 4 (.held 5 (.held 6 (.held 7 (.held 8 (.held 9 (.held 10 (.held 11 (.held 12 (.held 13 (.held 14 (.held 15 (.held 16 (.held 17 (.held 18 (.held 19 (.held 20 (.held 21 (.held 22 (.held 23 (.held 24 (.held 25 (.held 26 (.held 27 (.held 28 (.held 29 (.held 30 (.held 31 (.held 32 (.held 33 (.held 34 (.held 35 (.held 36 (.held 37 (.done))))))))))))))))))))))))))))))))))))))) mixed (by kernel_rfl)) | (apply WC.draw (id := 12) [0, 1, 2, 3, 4, 5, 6, 7] (.held 0 (.held 1 (.held 2 (.held 3 (.held 4 (.held 5 (.held 6 (.held 7 (.done))))))))) mixed (by kernel_rfl)) | (apply WC.draw (id := 16) [0, 1, 2, 3, 4, 5, 6, 7, 8, 9, 10] (.held 0 (.held 1 (.held 2 (.held 3 (.held 4 (.held 5 (.held 6 (.held 7 (.held 8 (.held 9 (.held 10 (.done)))))))))))) mixed (by kernel_rfl)) | (apply WC.draw (id := 17) [0, 1, 2, 4, 5, 6, 7, 8, 9, 10, 11, 12, 13, 14, 15, 16, 17, 18, 19, 20, 21, 22, 23, 24, 25, 26, 27, 28, 29, 30, 31, 32, 33, 34, 35, 36, 37, 38] (.held 0 (.held 1 (.held 2 (.loud 3 (.held 4 (.held 5 (.held 6 (.held 7 (.held 8 (.held 9 (.held 10 (.held 11 (.held 12 (.held 13 (.held 14 (.held 15 (.held 16 (.held 17 (.held 18 (.held 19 (.held 20 (.held 21 (.held 22 (.held 23 (.held 24 (.held 25 (.held 26 (.held 27 (.held 28 (.held 29 (.held 30 (.held 31 (.held 32 (.held 33 (.held 34 (.held 35 (.held 36 (.held 37 (.held 38 (.done)))))))))))))))))))))))))))))))))))))))) mixed (by kernel_rfl)))
        refine WC.ret ?_
        exact Fin.v (ResE.t2 rfl rfl rfl) (by (repeat (first | exact List.Mem.head _ | apply List.Mem.tail)); done) (by rw [checkP_l h (.inr h2)])
    · have h1' : (st.length : Int) ≠ ts.length := by omega
      repeat' (first | refine go ?_ | refine goX ?_ | refine goB ?_ | (refine goG ?_; intro g) | (refine goV ?_; intro v) | refine goD ?_ | refine goXD ?_ | (refine goDG ?_; intro g) | (refine goDV ?_; intro v) | (apply WC.draw (id := 10) [0, 1, 2, 3, 4, 5, 6, 7, 8, 9, 10, 11, 12, 13, 14, 15, 16, 17, 18, 19, 20, 21, 22, 23, 24, 25, 26, 27, 28, 29, 30, 31, 32, 33, 34, 35, 36, 37] (.held 0 (.held 1 (.held 2 (.held 3 (.held 4 (.held 5 (.held 6 (.held 7 (.held 8 (.held 9 (.held 10 (.held 11 (.held 12 (.held 13 (.held 14 (.held 15 (.held 16 (.held 17 (.held 18 (.held 19 (.held 20 (.held 21 (.held 22 (.held 23 (.held 24 (.held 25 (.held 26 (.held 27 (.held 28 (.held 29 (.held 30 (.held 31 (.held 32 (.held 33 (.held 34 (.held 35 (.held 36 (.held 37 (.done))))))))))))))))))))))))))))))))))))))) mixed (by kernel_rfl)) | (apply WC.draw (id := 12) [0, 1, 2, 3, 4, 5, 6, 7] (.held 0 (.held 1 (.held 2 (.held 3 (.held 4 (.held 5 (.held 6 (.held 7 (.done))))))))) mixed (by kernel_rfl)) | (apply WC.draw (id := 16) [0, 1, 2, 3, 4, 5, 6, 7, 8, 9, 10] (.held 0 (.held 1 (.held 2 (.held 3 (.held 4 (.held 5 (.held 6 (.held 7 (.held 8 (.held 9 (.held 10 (.done)))))))))))) mixed (by kernel_rfl)) | (apply WC.draw (id := 17) [0, 1, 2, 4, 5, 6, 7, 8, 9, 10, 11, 12, 13, 14, 15, 16, 17, 18, 19, 20, 21, 22, 23, 24, 25, 26, 27, 28, 29, 30, 31, 32, 33, 34, 35, 36, 37, 38] (.held 0 (.held 1 (.held 2 (.loud 3 (.held 4 (.held 5 (.held 6 (.held 7 (.held 8 (.held 9 (.held 10 (.held 11 (.held 12 (.held 13 (.held 14 (.held 15 (.held 16 (.held 17 (.held 18 (.held 19 (.held 20 (.held 21 (.held 22 (.held 23 (.held 24 (.held 25 (.held 26 (.held 27 (.held 28 (.held 29 (.held 30 (.held 31 (.held 32 (.held 33 (.held 34 (.held 35 (.held 36 (.held 37 (.held 38 (.done)))))))))))))))))))))))))))))))))))))))) mixed (by kernel_rfl)))
      refine WC.ret ?_
      exact Fin.v (ResE.t2 rfl rfl rfl) (by (repeat (first | exact List.Mem.head _ | apply List.Mem.tail)); done) (by rw [checkP_l h (.inl h1)])
  · repeat' (first | refine go ?_ | refine goX ?_ | refine goB ?_ | (refine goG ?_; intro g) | (refine goV ?_; intro v) | refine goD ?_ | refine goXD ?_ | (refine goDG ?_; intro g) | (refine goDV ?_; intro v) | (apply WC.draw (id := 10) [0, 1, 2, 3, 4, 5, 6, 7, 8, 9, 10, 11, 12, 13, 14, 15, 16, 17, 18, 19, 20, 21, 22, 23, 24, 25, 26, 27, 28, 29, 30, 31, 32, 33, 34, 35, 36, 37] (.held 0 (.held 1 (.held 2 (.held 3 (.held 4 (.held 5 (.held 6 (.held 7 (.held 8 (.held 9 (.held 10 (.held 11 (.held 12 (.held 13 (.held 14 (.held 15 (.held 16 (.held 17 (.held 18 (.held 19 (.held 20 (.held 21 (.held 22 (.held 23 (.held 24 (.held 25 (.held 26 (.held 27 (.held 28 (.held 29 (.held 30 (.held 31 (.held 32 (.held 33 (.held 34 (.held 35 (.held 36 (.held 37 (.done))))))))))))))))))))))))))))))))))))))) mixed (by kernel_rfl)) | (apply WC.draw (id := 12) [0, 1, 2, 3, 4, 5, 6, 7] (.held 0 (.held 1 (.held 2 (.held 3 (.held 4 (.held 5 (.held 6 (.held 7 (.done))))))))) mixed (by kernel_rfl)) | (apply WC.draw (id := 16) [0, 1, 2, 3, 4, 5, 6, 7, 8, 9, 10] (.held 0 (.held 1 (.held 2 (.held 3 (.held 4 (.held 5 (.held 6 (.held 7 (.held 8 (.held 9 (.held 10 (.done)))))))))))) mixed (by kernel_rfl)) | (apply WC.draw (id := 17) [0, 1, 2, 4, 5, 6, 7, 8, 9, 10, 11, 12, 13, 14, 15, 16, 17, 18, 19, 20, 21, 22, 23, 24, 25, 26, 27, 28, 29, 30, 31, 32, 33, 34, 35, 36, 37, 38] (.held 0 (.held 1 (.held 2 (.loud 3 (.held 4 (.held 5 (.held 6 (.held 7 (.held 8 (.held 9 (.held 10 (.held 11 (.held 12 (.held 13 (.held 14 (.held 15 (.held 16 (.held 17 (.held 18 (.held 19 (.held 20 (.held 21 (.held 22 (.held 23 (.held 24 (.held 25 (.held 26 (.held 27 (.held 28 (.held 29 (.held 30 (.held 31 (.held 32 (.held 33 (.held 34 (.held 35 (.held 36 (.held 37 (.held 38 (.done)))))))))))))))))))))))))))))))))))))))) mixed (by kernel_rfl)))
    refine WC.ret ?_
    exact Fin.v (ResE.t2 rfl rfl rfl) (by (repeat (first | exact List.Mem.head _ | apply List.Mem.tail)); done) (by rw [checkP_e h])
end Go.Proofs.Ytgacbfckaglhbaa
namespace Go.Proofs.Ytgacbfckaglhbaa
open W Go.RowKit
attribute [local irreducible] WC WL WD YO LO LoopEnd W.Fin Scalar SliceT FieldAt Row ArrT AllocT KnS Has W.One SrcE IntT

abbrev ptr (g : Nat) : Value := .pointer (some ⟨g, 0, none⟩)

theorem earliest_c (g : Nat) (L : List Int) (v : Value) (avs : List Value) (ts : List Tk) (M : Nat) (i k : Nat) (hg : AllGood M ts) (hn : ts.length ≤ 10) (hi : i < ts.length) (hk : k < 4) (hL : PlOK L) :
    FnB Try.prog 51 [ptr g, v, .int .i64 i, .int .i64 k] [] [ce g 70 (ints L), sT v avs ts, sA avs ts] (IsV (.int .i64 (earlP ts L i k))) := by
  refine fn_of [(0, ptr g), (1, v), (2, .int .i64 i), (3, .int .i64 k)] 44 Try.func51 rfl Try.ntmps51 (by kernel_rfl) rfl (by repeat (first | exact Sub.nil _ | refine Sub.cons rfl ?_)) fun h0 => ?_
  have hlen := hL.len
  have ht := good_time hg
  refine WC.lenI (avs.getD i undef) (tg ts i).after ?_ fun hal => ?_
  · exact hasA (Has.mem (by (repeat (first | exact List.Mem.head _ | apply List.Mem.tail)); done)) hi
  repeat' (first | refine go ?_ | refine goX ?_ | refine goB ?_ | (refine goG ?_; intro g) | (refine goV ?_; intro v) | refine goD ?_ | refine goXD ?_ | (refine goDG ?_; intro g) | (refine goDV ?_; intro v) | (apply WC.draw (id := 5) [0, 1, 2, 3, 4, 5, 6, 7, 8, 9, 10, 11, 12, 13, 14] (.held 0 (.held 1 (.held 2 (.held 3 (.held 4 (.held 5 (.held 6 (.held 7 (.held 8 (.held 9 (.held 10 (.held 11 (.held 12 (.held 13 (.held 14 (.done)))))))))))))))) mixed (by kernel_rfl)))
  refine WC.lp (σ := Nat) (fun n => [(24, .int .i64 (n : Int)), (23, .int .i64 ((tg ts i).after.length : Int)), (22, avs.getD i undef), (9, .int .i64 (earlN ts L i k n)), (0, ptr g), (1, v)]) (fun _ => []) (fun _ => [ge h0, ce g 70 (ints L), sT v avs ts, sA avs ts]) (fun n => n ≤ (tg ts i).after.length) (fun n => (tg ts i).after.length - n) 0 (by simp) ?_
  rintro n hn'
  have hb := earlN_bd hL ht i k n
  by_cases hlt : n < (tg ts i).after.length
  · obtain ⟨a1, a2⟩ := good_after hg hi n hlt
    obtain ⟨a, ha⟩ := Int.eq_ofNat_of_zero_le a1
    have ha' : (tg ts i).after.getD n 0 = (a : Int) := ha
    have hb1 := hL.bd a
    have hta := ht a
    have e : earlN ts L i k (n + 1) = max (earlN ts L i k n) (L.getD a 0 + (tg ts a).time) := by simp only [earlN, ha', Int.toNat_natCast]
    repeat' (first | refine go ?_ | refine goX ?_ | refine goB ?_ | (refine goG ?_; intro g) | (refine goV ?_; intro v) | refine goD ?_ | refine goXD ?_ | (refine goDG ?_; intro g) | (refine goDV ?_; intro v) | (apply WC.draw (id := 5) [0, 1, 2, 3, 4, 5, 6, 7, 8, 9, 10, 11, 12, 13, 14] (.held 0 (.held 1 (.held 2 (.held 3 (.held 4 (.held 5 (.held 6 (.held 7 (.held 8 (.held 9 (.held 10 (.held 11 (.held 12 (.held 13 (.held 14 (.done)))))))))))))))) mixed (by kernel_rfl)))
    rw [ha', show ((a : Int)).toNat = a from rfl]
    repeat' (first | refine go ?_ | refine goX ?_ | refine goB ?_ | (refine goG ?_; intro g) | (refine goV ?_; intro v) | refine goD ?_ | refine goXD ?_ | (refine goDG ?_; intro g) | (refine goDV ?_; intro v) | (apply WC.draw (id := 5) [0, 1, 2, 3, 4, 5, 6, 7, 8, 9, 10, 11, 12, 13, 14] (.held 0 (.held 1 (.held 2 (.held 3 (.held 4 (.held 5 (.held 6 (.held 7 (.held 8 (.held 9 (.held 10 (.held 11 (.held 12 (.held 13 (.held 14 (.done)))))))))))))))) mixed (by kernel_rfl)))
    exact LoopEnd.mk (n + 1) (by omega) (by omega) (by rw [e]; exact (by repeat (first | exact Sub.nil _ | refine Sub.cons rfl ?_))) (by repeat (first | exact List.Sublist.refl _ | exact List.nil_sublist _ | apply List.Sublist.cons_cons | apply List.Sublist.cons)) (by repeat (first | exact HasAll.nil | (apply HasAll.cons; (focus (apply Has.mem; (repeat (first | exact List.Mem.head _ | apply List.Mem.tail)); done)))))
  · obtain rfl : n = (tg ts i).after.length := by omega
    repeat' (first | refine go ?_ | refine goX ?_ | refine goB ?_ | (refine goG ?_; intro g) | (refine goV ?_; intro v) | refine goD ?_ | refine goXD ?_ | (refine goDG ?_; intro g) | (refine goDV ?_; intro v) | (apply WC.draw (id := 5) [0, 1, 2, 3, 4, 5, 6, 7, 8, 9, 10, 11, 12, 13, 14] (.held 0 (.held 1 (.held 2 (.held 3 (.held 4 (.held 5 (.held 6 (.held 7 (.held 8 (.held 9 (.held 10 (.held 11 (.held 12 (.held 13 (.held 14 (.done)))))))))))))))) mixed (by kernel_rfl)))
    refine WC.ret ?_
    exact Fin.v (ResE.t1 rfl rfl) (by (repeat (first | exact List.Mem.head _ | apply List.Mem.tail)); done) rfl

theorem pow_512 {i : Nat} (h : i < 10) : 0 ≤ (1 : Int) * 2 ^ ((i : Int)).toNat ∧ (1 : Int) * 2 ^ ((i : Int)).toNat ≤ 512 := by
  have : i = 0 ∨ i = 1 ∨ i = 2 ∨ i = 3 ∨ i = 4 ∨ i = 5 ∨ i = 6 ∨ i = 7 ∨ i = 8 ∨ i = 9 := by omega
  rcases this with rfl | rfl | rfl | rfl | rfl | rfl | rfl | rfl | rfl | rfl <;> decide

set_option maxRecDepth 4000 in
theorem with_c (p0 : Nat) (L : List Int) (v : Value) (avs : List Value) (ts : List Tk) (M : Nat) (i k : Nat) (hg : AllGood M ts) (hn : ts.length ≤ 10) (hi : i < ts.length) (hk : k < 4) (hL : PlOK L) :
    FnB Try.prog 52 [ptr p0, v, .int .i64 i, .int .i64 k] [] [ce p0 70 (ints L), sT v avs ts, sA avs ts] (IsV (.agg (ints (withP ts L i k)).toArray)) := by
  refine fn_of [(0, ptr p0), (1, v), (2, .int .i64 i), (3, .int .i64 k)] 53 Try.func52 rfl Try.ntmps52 (by kernel_rfl) rfl (by repeat (first | exact Sub.nil _ | refine Sub.cons rfl ?_)) fun h0 => ?_
  have hlen := hL.len
  have ht := good_time hg
  have hb := earlP_bd hL ht i k
  repeat' (first | refine go ?_ | refine goX ?_ | refine goB ?_ | (refine goG ?_; intro g) | (refine goV ?_; intro v) | refine goD ?_ | refine goXD ?_ | (refine goDG ?_; intro g) | (refine goDV ?_; intro v) | (apply WC.draw (id := 3) [0, 1, 2, 3, 4, 5, 6, 7, 8, 9, 10, 11, 12] (.held 0 (.held 1 (.held 2 (.held 3 (.held 4 (.held 5 (.held 6 (.held 7 (.held 8 (.held 9 (.held 10 (.held 11 (.held 12 (.loud 13 (.done))))))))))))))) mixed (by kernel_rfl)) | (apply WC.draw (id := 4) [0, 1, 2, 3, 4, 5] (.held 0 (.held 1 (.held 2 (.held 3 (.held 4 (.held 5 (.loud 6 (.done)))))))) mixed (by kernel_rfl)) | (apply WC.draw (id := 5) [0, 1, 2, 3, 4, 5, 6, 7] (.held 0 (.held 1 (.held 2 (.held 3 (.held 4 (.held 5 (.held 6 (.held 7 (.loud 8 (.done)))))))))) mixed (by kernel_rfl)))
  first | refine WL.callV (earliest_c p0 L v avs ts M i k hg hn hi hk hL) ?_ | refine WD.callV (earliest_c p0 L v avs ts M i k hg hn hi hk hL) ?_
  have hti := ht i
  have hpw := pow_512 (i := i) (by omega)
  have hdone := hL.bd 24
  have hll := hL.bd 25
  generalize hE : earlP ts L i k = E at *
  repeat' (first | refine go ?_ | refine goX ?_ | refine goB ?_ | (refine goG ?_; intro g) | (refine goV ?_; intro v) | refine goD ?_ | refine goXD ?_ | (refine goDG ?_; intro g) | (refine goDV ?_; intro v) | (apply WC.draw (id := 3) [0, 1, 2, 3, 4, 5, 6, 7, 8, 9, 10, 11, 12] (.held 0 (.held 1 (.held 2 (.held 3 (.held 4 (.held 5 (.held 6 (.held 7 (.held 8 (.held 9 (.held 10 (.held 11 (.held 12 (.loud 13 (.done))))))))))))))) mixed (by kernel_rfl)) | (apply WC.draw (id := 4) [0, 1, 2, 3, 4, 5] (.held 0 (.held 1 (.held 2 (.held 3 (.held 4 (.held 5 (.loud 6 (.done)))))))) mixed (by kernel_rfl)) | (apply WC.draw (id := 5) [0, 1, 2, 3, 4, 5, 6, 7] (.held 0 (.held 1 (.held 2 (.held 3 (.held 4 (.held 5 (.held 6 (.held 7 (.loud 8 (.done)))))))))) mixed (by kernel_rfl)))
  have e1 : ((L.set (i) E).set (10 + i) (k : Int)).getD (i) 0 = E := by
    rw [getD_set, if_neg (by omega), getD_set, if_pos (by omega)]
  rw [e1]
  repeat' (first | refine go ?_ | refine goX ?_ | refine goB ?_ | (refine goG ?_; intro g) | (refine goV ?_; intro v) | refine goD ?_ | refine goXD ?_ | (refine goDG ?_; intro g) | (refine goDV ?_; intro v) | (apply WC.draw (id := 3) [0, 1, 2, 3, 4, 5, 6, 7, 8, 9, 10, 11, 12] (.held 0 (.held 1 (.held 2 (.held 3 (.held 4 (.held 5 (.held 6 (.held 7 (.held 8 (.held 9 (.held 10 (.held 11 (.held 12 (.loud 13 (.done))))))))))))))) mixed (by kernel_rfl)) | (apply WC.draw (id := 4) [0, 1, 2, 3, 4, 5] (.held 0 (.held 1 (.held 2 (.held 3 (.held 4 (.held 5 (.loud 6 (.done)))))))) mixed (by kernel_rfl)) | (apply WC.draw (id := 5) [0, 1, 2, 3, 4, 5, 6, 7] (.held 0 (.held 1 (.held 2 (.held 3 (.held 4 (.held 5 (.held 6 (.held 7 (.loud 8 (.done)))))))))) mixed (by kernel_rfl)))
  have e2 : (((L.set (i) E).set (10 + i) (k : Int)).set (20 + k) (E + (tg ts i).time)).getD 24 0 = L.getD 24 0 := by
    rw [getD_set, if_neg (by omega), getD_set, if_neg (by omega), getD_set, if_neg (by omega)]
  rw [e2]
  repeat' (first | refine go ?_ | refine goX ?_ | refine goB ?_ | (refine goG ?_; intro g) | (refine goV ?_; intro v) | refine goD ?_ | refine goXD ?_ | (refine goDG ?_; intro g) | (refine goDV ?_; intro v) | (apply WC.draw (id := 3) [0, 1, 2, 3, 4, 5, 6, 7, 8, 9, 10, 11, 12] (.held 0 (.held 1 (.held 2 (.held 3 (.held 4 (.held 5 (.held 6 (.held 7 (.held 8 (.held 9 (.held 10 (.held 11 (.held 12 (.loud 13 (.done))))))))))))))) mixed (by kernel_rfl)) | (apply WC.draw (id := 4) [0, 1, 2, 3, 4, 5] (.held 0 (.held 1 (.held 2 (.held 3 (.held 4 (.held 5 (.loud 6 (.done)))))))) mixed (by kernel_rfl)) | (apply WC.draw (id := 5) [0, 1, 2, 3, 4, 5, 6, 7] (.held 0 (.held 1 (.held 2 (.held 3 (.held 4 (.held 5 (.held 6 (.held 7 (.loud 8 (.done)))))))))) mixed (by kernel_rfl)))
  have e3 : ((((L.set (i) E).set (10 + i) (k : Int)).set (20 + k) (E + (tg ts i).time)).set 24 (((L.getD 24 0).toNat ||| ((1 : Int) * 2 ^ ((i : Int)).toNat).toNat : Nat) : Int)).getD 25 0 = L.getD 25 0 := by
    rw [getD_set, if_neg (by omega), getD_set, if_neg (by omega), getD_set, if_neg (by omega), getD_set, if_neg (by omega)]
  have e4 : ((((L.set (i) E).set (10 + i) (k : Int)).set (20 + k) (E + (tg ts i).time)).set 24 (((L.getD 24 0).toNat ||| ((1 : Int) * 2 ^ ((i : Int)).toNat).toNat : Nat) : Int)).getD (20 + k) 0 = E + (tg ts i).time := by
    rw [getD_set, if_neg (by omega), getD_set, if_pos ⟨rfl, by rw [List.length_set, List.length_set]; omega⟩]
  rw [e3, e4]
  repeat' (first | refine go ?_ | refine goX ?_ | refine goB ?_ | (refine goG ?_; intro g) | (refine goV ?_; intro v) | refine goD ?_ | refine goXD ?_ | (refine goDG ?_; intro g) | (refine goDV ?_; intro v) | (apply WC.draw (id := 3) [0, 1, 2, 3, 4, 5, 6, 7, 8, 9, 10, 11, 12] (.held 0 (.held 1 (.held 2 (.held 3 (.held 4 (.held 5 (.held 6 (.held 7 (.held 8 (.held 9 (.held 10 (.held 11 (.held 12 (.loud 13 (.done))))))))))))))) mixed (by kernel_rfl)) | (apply WC.draw (id := 4) [0, 1, 2, 3, 4, 5] (.held 0 (.held 1 (.held 2 (.held 3 (.held 4 (.held 5 (.loud 6 (.done)))))))) mixed (by kernel_rfl)) | (apply WC.draw (id := 5) [0, 1, 2, 3, 4, 5, 6, 7] (.held 0 (.held 1 (.held 2 (.held 3 (.held 4 (.held 5 (.held 6 (.held 7 (.loud 8 (.done)))))))))) mixed (by kernel_rfl)))
  refine WC.ret ?_
  refine Fin.v (ResE.cI rfl rfl (by (repeat (first | exact List.Mem.head _ | apply List.Mem.tail)); done) T.r70 (by simp only [List.length_set]; omega)) (by (repeat (first | exact List.Mem.head _ | apply List.Mem.tail)); done) ?_
  unfold withP
  simp only [hE, orInt]
  simp
end Go.Proofs.Ytgacbfckaglhbaa
namespace Go.Proofs.Ytgacbfckaglhbaa
open W Go.RowKit
attribute [local irreducible] WC WL WD YO LO LoopEnd W.Fin Scalar SliceT FieldAt Row ArrT AllocT KnS Has W.One SrcE IntT

theorem clone_c (v : Value) (l : List Int) (hl : l.length ≤ 100) : FnB Try.prog 49 [v] [] [sI v l] (IsO 3 1 (ints l)) := by
  refine fn_of [(0, v)] 8 Try.func49 rfl Try.ntmps49 (by kernel_rfl) rfl (by repeat (first | exact Sub.nil _ | refine Sub.cons rfl ?_)) fun h0 => ?_
  by_cases hn : isNil v = true
  · refine WC.nil0 (l := l) (Has.mem (by (repeat (first | exact List.Mem.head _ | apply List.Mem.tail)); done)) hn fun hl0 => ?_
    refine WC.addNil 3 1 ?_
    repeat' (first | refine go ?_ | refine goX ?_ | refine goB ?_ | (refine goG ?_; intro g) | (refine goV ?_; intro v))
    refine WC.ret ?_
    exact Fin.o (ResE.t1 rfl rfl) (by (repeat (first | exact List.Mem.head _ | apply List.Mem.tail)); done) (by (repeat (first | exact List.Mem.head _ | apply List.Mem.tail)); done) (by rw [hl0]; rfl)
  · have hn' : isNil v = false := by simpa using hn
    repeat' (first | refine go ?_ | refine goX ?_ | refine goB ?_ | (refine goG ?_; intro g) | (refine goV ?_; intro v))
    refine WC.ret ?_
    exact Fin.o (ResE.t1 rfl rfl) (by (repeat (first | exact List.Mem.head _ | apply List.Mem.tail)); done) (by (repeat (first | exact List.Mem.head _ | apply List.Mem.tail)); done) (by simp)

/-- a function value that answers p at each element -/
def FnAt (f : FuncId) (cap : List Value) (F : List Fct) (l : List Int) (p : Int → Bool) : Prop := ∀ x ∈ l, FnB Try.prog f ([.int .i64 x] ++ cap) [] F (IsV (.bool (p x)))

theorem HasAllB.tail {bx : List Ow} {F G : List Fct} (h : ∀ g ∈ G, g ∈ F) : HasAllB bx F G := by
  induction G with
  | nil => exact .nil
  | cons g G ih => exact .cons (HasB.f (Has.mem (h g List.mem_cons_self))) (ih fun x hx => h x (List.mem_cons_of_mem _ hx))

theorem HasAll.tail {F G : List Fct} (h : ∀ g ∈ G, g ∈ F) : HasAll F G := by
  induction G with
  | nil => exact .nil
  | cons g G ih => exact .cons (Has.mem (h g List.mem_cons_self)) (ih fun x hx => h x (List.mem_cons_of_mem _ hx))

def optI : Option Nat → Int
  | some i => i
  | none => -1

theorem indexF_c (v : Value) (l : List Int) (f : FuncId) (cap : List Value) (F : List Fct) (p : Int → Bool) (hf : FnAt f cap F l p) :
    FnB Try.prog 57 [v, .func (.func f) #[] cap.toArray] [] (sI v l :: F) (IsV (.int .i64 (optI (l.findIdx? p)))) := by
  refine fn_of [(0, v), (1, .func (.func f) #[] cap.toArray)] 19 Try.func57 rfl Try.ntmps57 (by kernel_rfl) rfl (by repeat (first | exact Sub.nil _ | refine Sub.cons rfl ?_)) fun h0 => ?_
  refine WC.lenI v l (Has.mem (by (repeat (first | exact List.Mem.head _ | apply List.Mem.tail)); done)) fun hlen => ?_
  repeat' (first | refine go ?_ | refine goX ?_ | refine goB ?_ | (refine goG ?_; intro g) | (refine goV ?_; intro v))
  refine WC.lp (σ := Nat) (fun k => [(8, .int .i64 (k : Int)), (7, .int .i64 (l.length : Int)), (0, v), (1, .func (.func f) #[] cap.toArray)]) (fun _ => []) (fun _ => ge h0 :: sI v l :: F) (fun k => k ≤ l.length ∧ ∀ j, j < k → p (l.getD j 0) = false) (fun k => l.length - k) 0 (by simp) ?_ (by repeat (first | exact Sub.nil _ | refine Sub.cons rfl ?_)) (by repeat (first | exact List.Sublist.refl _ | exact List.nil_sublist _ | apply List.Sublist.cons_cons | apply List.Sublist.cons)) (HasAll.tail fun _ h => h)
  rintro k ⟨hk, hn⟩
  by_cases hlt : k < l.length
  · repeat' (first | refine go ?_ | refine goX ?_ | refine goB ?_ | (refine goG ?_; intro g) | (refine goV ?_; intro v))
    have hx : l.getD k 0 ∈ l := by rw [List.getD_eq_getElem?_getD, List.getElem?_eq_getElem hlt]; exact List.getElem_mem _
    refine WL.l rfl rfl (LO.callR (first := []) (cap := cap) rfl (by repeat (first | exact Evs.nil | (apply Evs.cons; exact rfl))) (hf _ hx) (HasAllB.tail fun _ h => List.mem_cons_of_mem _ (List.mem_cons_of_mem _ h)) ?_)
    rintro _ _ _ ⟨rfl, rfl, rfl⟩
    cases hp : p (l.getD k 0) with
    | true =>
      repeat' (first | refine go ?_ | refine goX ?_ | refine goB ?_ | (refine goG ?_; intro g) | (refine goV ?_; intro v))
      refine WC.ret ?_
      refine Fin.v (ResE.t1 rfl rfl) (by (repeat (first | exact List.Mem.head _ | apply List.Mem.tail)); done) ?_
      have : l.findIdx? p = some k := by
        rw [List.findIdx?_eq_some_iff_getElem]
        refine ⟨hlt, ?_, fun j hj => ?_⟩
        · rw [List.getD_eq_getElem?_getD, List.getElem?_eq_getElem hlt] at hp; simpa using hp
        · have h1 := hn j hj
          rw [List.getD_eq_getElem?_getD, List.getElem?_eq_getElem (by omega)] at h1; simpa using h1
      rw [this]; rfl
    | false =>
      repeat' (first | refine go ?_ | refine goX ?_ | refine goB ?_ | (refine goG ?_; intro g) | (refine goV ?_; intro v))
      exact LoopEnd.mk (k + 1) ⟨by omega, upto_succ hn hp⟩ (by omega) (by repeat (first | exact Sub.nil _ | refine Sub.cons rfl ?_)) (by repeat (first | exact List.Sublist.refl _ | exact List.nil_sublist _ | apply List.Sublist.cons_cons | apply List.Sublist.cons)) (HasAll.tail fun _ h => h)
  · repeat' (first | refine go ?_ | refine goX ?_ | refine goB ?_ | (refine goG ?_; intro g) | (refine goV ?_; intro v))
    refine WC.ret ?_
    refine Fin.v (ResE.t1 rfl rfl) (by (repeat (first | exact List.Mem.head _ | apply List.Mem.tail)); done) ?_
    have : l.findIdx? p = none := by
      rw [List.findIdx?_eq_none_iff]
      intro x hx
      obtain ⟨j, hj, he⟩ := List.mem_iff_getElem.1 hx
      have := hn j (by omega)
      rw [List.getD_eq_getElem?_getD, List.getElem?_eq_getElem hj, he] at this
      simpa using this
    rw [this]; rfl

theorem containsF_c (v : Value) (l : List Int) (f : FuncId) (cap : List Value) (F : List Fct) (p : Int → Bool) (hf : FnAt f cap F l p) :
    FnB Try.prog 42 [v, .func (.func f) #[] cap.toArray] [] (sI v l :: F) (IsV (.bool (l.any p))) := by
  refine fn_of [(0, v), (1, .func (.func f) #[] cap.toArray)] 9 Try.func42 rfl Try.ntmps42 (by kernel_rfl) rfl (by repeat (first | exact Sub.nil _ | refine Sub.cons rfl ?_)) fun h0 => ?_
  repeat' (first | refine go ?_ | refine goX ?_ | refine goB ?_ | (refine goG ?_; intro g) | (refine goV ?_; intro v))
  refine WL.l rfl rfl (LO.callRV rfl (by repeat (first | exact Evs.nil | (apply Evs.cons; exact rfl))) (indexF_c v l f cap F p hf) (HasAllB.tail fun _ h => List.mem_cons_of_mem _ h) ?_)
  cases hi : l.findIdx? p with
  | some i =>
    have h1 : l.any p = true := by
      obtain ⟨h2, h3, _⟩ := List.findIdx?_eq_some_iff_getElem.1 hi
      exact List.any_eq_true.2 ⟨_, List.getElem_mem h2, h3⟩
    rw [show optI (some i) = (i : Int) from rfl]
    repeat' (first | refine go ?_ | refine goX ?_ | refine goB ?_ | (refine goG ?_; intro g) | (refine goV ?_; intro v))
    refine WC.ret ?_
    exact Fin.v (ResE.t1 rfl rfl) (by (repeat (first | exact List.Mem.head _ | apply List.Mem.tail)); done) (by rw [h1])
  | none =>
    have h1 : l.any p = false := by
      rw [List.findIdx?_eq_none_iff] at hi
      rw [List.any_eq_false]; intro x hx; simp [hi x hx]
    rw [show optI none = (-1 : Int) from rfl]
    repeat' (first | refine go ?_ | refine goX ?_ | refine goB ?_ | (refine goG ?_; intro g) | (refine goV ?_; intro v))
    refine WC.ret ?_
    exact Fin.v (ResE.t1 rfl rfl) (by (repeat (first | exact List.Mem.head _ | apply List.Mem.tail)); done) (by rw [h1])
end Go.Proofs.Ytgacbfckaglhbaa
