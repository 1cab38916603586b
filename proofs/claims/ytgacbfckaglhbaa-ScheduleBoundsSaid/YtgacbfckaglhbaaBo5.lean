/- Lemmas for the proof of a law: Contracts of the program: run. Conditions: none. -/
import Derived.Test.YtgacbfckaglhbaaBo4
import Derived.Test.YtgacbfckaglhbaaBo2
import Derived.Test.YtgacbfckaglhbaaBo3
namespace Go.Proofs.Ytgacbfckaglhbaa
open W Go.RowKit

theorem map72 : Try.prog.underlying 72 = some (.map 98 4) := by kernel_rfl
theorem zero4 (w : World) : (zeroValue 4).run Try.prog w = .ok (.bool false) w := by
  obtain ⟨i, h1, h2⟩ := Option.map_eq_some_iff.1 (show (Try.prog.info? 4).map (·.zero) = some (some (.bool false)) by kernel_rfl)
  simp [zeroValue, typeInfo, h1, h2]
theorem st98 : Mp.StT Try.prog 98 4 10 := Mp.stT_of (a := 46) (b := 68) (c := 67) (by kernel_rfl) (by kernel_rfl) (by kernel_rfl) ⟨3, by kernel_rfl, by kernel_rfl, by kernel_rfl⟩ ⟨3, by kernel_rfl, by kernel_rfl, by kernel_rfl⟩ (by kernel_rfl) (by kernel_rfl) (by kernel_rfl) (by kernel_rfl) (by kernel_rfl)

section
variable {P : Program} {e : Env} {bx bx' : List Ow} {F : List Fct} {ty t tg g M n : Nat} {x y : Operand} {B p : List Int} {v mp : Value} {goal : Int} {K : RPost} {L rest : List Oper} {c : Code}
theorem LO.storeBest (hx : ev e x = some (.pointer (some ⟨g, 3, none⟩))) (hy : ev e y = some (.agg (ints p).toArray)) (hs : Sel bx (.cells g tg (srch v M goal B mp)) (.cells g tg (srch v M goal p mp)) bx') (hr : Row P t 26) (hB : B.length = 26) (hp : p.length = 26) (h : K undef bx' F) : LO P (.store t x y) ty e bx F K :=
  LO.store hx hy (vs := ints p) (by simp [Value.cells]) (by rw [hr.2]; simp [hp]) (ints_one p) hs (by simp [hB, hp]) (by
    simp only [setMany, srch, List.take_succ_cons, List.take_zero, List.length_map, hp]
    simp [hB]) h
theorem WL.perm {Q : Env → List Ow → List Fct → Prop} (hp : bx.Perm bx') (h : WL P n L rest e bx' F Q) : WL P n L rest e bx F Q := fun fr w0 a w Q' hQ hk hr ho => h fr w0 a w Q' hQ hk hr (ho.perm hp)
theorem perm22 {a b c d : Ow} : [a, b, c, d].Perm ([c, d] ++ [a, b]) := List.perm_append_comm (l₁ := [a, b])
theorem perm22' {a b c d : Ow} : ([c, d] ++ [a, b]).Perm [a, b, c, d] := List.perm_append_comm (l₁ := [c, d])
end
theorem pow_1024 {n : Nat} (h : n ≤ 10) : (2 : Int) ^ n ≤ 1024 := by
  have : n = 0 ∨ n = 1 ∨ n = 2 ∨ n = 3 ∨ n = 4 ∨ n = 5 ∨ n = 6 ∨ n = 7 ∨ n = 8 ∨ n = 9 ∨ n = 10 := by omega
  rcases this with rfl | rfl | rfl | rfl | rfl | rfl | rfl | rfl | rfl | rfl | rfl <;> decide
attribute [local irreducible] WC WL WD YO LO LoopEnd W.Fin Scalar SliceT FieldAt Row ArrT AllocT KnS Has W.One SrcE IntT

set_option maxHeartbeats 4000000 in
set_option maxRecDepth 4000 in
theorem run_c (sg m : Nat) (v : Value) (avs : List Value) (ts : List Tk) (M : Nat) (goal : Int) (hg : AllGood M ts) (hn : ts.length ≤ 10) (hM : M ≤ 4) : ∀ (f : Nat) (p : List Int) (s : RS), und p ts.length < f → PI ts p → SI s →
    FnB Try.prog 33 [ptr sg, .agg (ints p).toArray] [Ow.cells sg 74 (srch v M goal s.1 (.map (some m))), Ow.obj m (Mp.mobj s.2)] [sT v avs ts, sA avs ts]
      (IsB (.tuple #[]) [Ow.cells sg 74 (srch v M goal (runP ts M goal f p s).1 (.map (some m))), Ow.obj m (Mp.mobj (runP ts M goal f p s).2)])
  | 0, _, _, h, _, _ => by omega
  | f + 1, p, ⟨B, met⟩, hu, hp, hs => by
    have ih := run_c sg m v avs ts M goal hg hn hM f
    show FnB Try.prog 33 [ptr sg, .agg (ints p).toArray] [Ow.cells sg 74 (srch v M goal B (.map (some m))), Ow.obj m (Mp.mobj met)] [sT v avs ts, sA avs ts] _
    refine fn_of [(0, ptr sg), (1, .agg (ints p).toArray)] 99 Try.func33 rfl Try.ntmps33 (by kernel_rfl) rfl (by repeat (first | exact Sub.nil _ | refine Sub.cons rfl ?_)) fun h0 => ?_
    have hP := hp.ok
    have hl := hP.len
    have hB : B.length = 26 := hs.l
    have hb24 := hP.bd 24
    have e5 := pow_e ts.length
    have hpw := pow_1024 hn
    have hp1 := pow_1 ts.length
    have c5 : (1 : Int) * 2 ^ ((ts.length : Int)).toNat ≤ 9223372036854775807 := by rw [e5]; omega
    have c6 : 0 ≤ (1 : Int) * 2 ^ ((ts.length : Int)).toNat := by rw [e5]; omega
    have hrun : runP ts M goal (f + 1) p (B, met) = if p.getD 24 0 = 2 ^ ts.length - 1 then (if p.getD 25 0 < B.getD 25 0 then (p, met) else (B, met))
      else if B.getD 25 0 = goal ∨ hopP ts M p (B.getD 25 0) = true then (B, met) else if stateP ts M p ∈ met then (B, met) else outP (runP ts M goal f) ts M p (B, met ++ [stateP ts M p]) ts.length := rfl
    by_cases c1 : p.getD 24 0 = 1 * 2 ^ ((ts.length : Int)).toNat - 1
    · rw [if_pos (by rw [c1, e5])] at hrun
      by_cases c2 : p.getD 25 0 < B.getD 25 0
      · rw [if_pos c2] at hrun
        repeat' (first | refine go ?_ | refine goX ?_ | refine goB ?_ | (refine goG ?_; intro g) | (refine goV ?_; intro v) | refine goD ?_ | refine goXD ?_ | (refine goDG ?_; intro g) | (refine goDV ?_; intro v) | (apply WC.draw (id := 1) [0, 1, 2, 3, 4, 5, 6, 7, 8, 9] (.held 0 (.held 1 (.held 2 (.held 3 (.held 4 (.held 5 (.held 6 (.held 7 (.held 8 (.held 9 (.done))))))))))) mixed (by kernel_rfl)) | (apply WC.draw (id := 2) [0, 1, 2, 3, 4, 5, 6, 7] (.held 0 (.held 1 (.held 2 (.held 3 (.held 4 (.held 5 (.held 6 (.held 7 (.done))))))))) mixed (by kernel_rfl)) | (apply WC.draw (id := 4) [0, 1, 2, 3, 4, 5, 6, 7, 8, 9, 10, 11, 13] (.held 0 (.held 1 (.held 2 (.held 3 (.held 4 (.held 5 (.held 6 (.held 7 (.held 8 (.held 9 (.held 10 (.held 11 (.loud 12 (.held 13 (.done))))))))))))))) mixed (by kernel_rfl)) | (apply WC.draw (id := 6) [0, 1, 2, 3, 4, 5] (.held 0 (.held 1 (.held 2 (.held 3 (.held 4 (.held 5 (.done))))))) mixed (by kernel_rfl)) | (apply WC.draw (id := 7) [0, 1, 2, 3, 4] (.held 0 (.held 1 (.held 2 (.held 3 (.held 4 (.loud 5 (.done))))))) mixed (by kernel_rfl)))
        refine WL.l0 rfl (LO.storeBest rfl rfl (by repeat (first | exact Sel.head | apply Sel.tail)) T.r70 hB hl ?_)
        repeat' (first | refine go ?_ | refine goX ?_ | refine goB ?_ | (refine goG ?_; intro g) | (refine goV ?_; intro v) | refine goD ?_ | refine goXD ?_ | (refine goDG ?_; intro g) | (refine goDV ?_; intro v) | (apply WC.draw (id := 1) [0, 1, 2, 3, 4, 5, 6, 7, 8, 9] (.held 0 (.held 1 (.held 2 (.held 3 (.held 4 (.held 5 (.held 6 (.held 7 (.held 8 (.held 9 (.done))))))))))) mixed (by kernel_rfl)) | (apply WC.draw (id := 2) [0, 1, 2, 3, 4, 5, 6, 7] (.held 0 (.held 1 (.held 2 (.held 3 (.held 4 (.held 5 (.held 6 (.held 7 (.done))))))))) mixed (by kernel_rfl)) | (apply WC.draw (id := 4) [0, 1, 2, 3, 4, 5, 6, 7, 8, 9, 10, 11, 13] (.held 0 (.held 1 (.held 2 (.held 3 (.held 4 (.held 5 (.held 6 (.held 7 (.held 8 (.held 9 (.held 10 (.held 11 (.loud 12 (.held 13 (.done))))))))))))))) mixed (by kernel_rfl)) | (apply WC.draw (id := 6) [0, 1, 2, 3, 4, 5] (.held 0 (.held 1 (.held 2 (.held 3 (.held 4 (.held 5 (.done))))))) mixed (by kernel_rfl)) | (apply WC.draw (id := 7) [0, 1, 2, 3, 4] (.held 0 (.held 1 (.held 2 (.held 3 (.held 4 (.loud 5 (.done))))))) mixed (by kernel_rfl)))
        refine WC.ret ?_
        exact Fin.p [Ow.cells sg 74 (srch v M goal p (.map (some m))), Ow.obj m (Mp.mobj met)] [] (ResE.t0 rfl) (by (repeat (first | exact List.Mem.head _ | apply List.Mem.tail)); done) (by repeat (first | exact List.Sublist.refl _ | exact List.nil_sublist _ | apply List.Sublist.cons_cons | apply List.Sublist.cons)) .nil ⟨rfl, by rw [hrun], rfl⟩
      · rw [if_neg c2] at hrun
        repeat' (first | refine go ?_ | refine goX ?_ | refine goB ?_ | (refine goG ?_; intro g) | (refine goV ?_; intro v) | refine goD ?_ | refine goXD ?_ | (refine goDG ?_; intro g) | (refine goDV ?_; intro v) | (apply WC.draw (id := 1) [0, 1, 2, 3, 4, 5, 6, 7, 8, 9] (.held 0 (.held 1 (.held 2 (.held 3 (.held 4 (.held 5 (.held 6 (.held 7 (.held 8 (.held 9 (.done))))))))))) mixed (by kernel_rfl)) | (apply WC.draw (id := 2) [0, 1, 2, 3, 4, 5, 6, 7] (.held 0 (.held 1 (.held 2 (.held 3 (.held 4 (.held 5 (.held 6 (.held 7 (.done))))))))) mixed (by kernel_rfl)) | (apply WC.draw (id := 4) [0, 1, 2, 3, 4, 5, 6, 7, 8, 9, 10, 11, 13] (.held 0 (.held 1 (.held 2 (.held 3 (.held 4 (.held 5 (.held 6 (.held 7 (.held 8 (.held 9 (.held 10 (.held 11 (.loud 12 (.held 13 (.done))))))))))))))) mixed (by kernel_rfl)) | (apply WC.draw (id := 6) [0, 1, 2, 3, 4, 5] (.held 0 (.held 1 (.held 2 (.held 3 (.held 4 (.held 5 (.done))))))) mixed (by kernel_rfl)) | (apply WC.draw (id := 7) [0, 1, 2, 3, 4] (.held 0 (.held 1 (.held 2 (.held 3 (.held 4 (.loud 5 (.done))))))) mixed (by kernel_rfl)))
        refine WC.ret ?_
        exact Fin.p [Ow.cells sg 74 (srch v M goal B (.map (some m))), Ow.obj m (Mp.mobj met)] [] (ResE.t0 rfl) (by (repeat (first | exact List.Mem.head _ | apply List.Mem.tail)); done) (by repeat (first | exact List.Sublist.refl _ | exact List.nil_sublist _ | apply List.Sublist.cons_cons | apply List.Sublist.cons)) .nil ⟨rfl, by rw [hrun], rfl⟩
    rw [if_neg (by rw [← e5]; exact c1)] at hrun
    by_cases c3 : B.getD 25 0 = goal
    · rw [if_pos (.inl c3)] at hrun
      repeat' (first | refine go ?_ | refine goX ?_ | refine goB ?_ | (refine goG ?_; intro g) | (refine goV ?_; intro v) | refine goD ?_ | refine goXD ?_ | (refine goDG ?_; intro g) | (refine goDV ?_; intro v) | (apply WC.draw (id := 1) [0, 1, 2, 3, 4, 5, 6, 7, 8, 9] (.held 0 (.held 1 (.held 2 (.held 3 (.held 4 (.held 5 (.held 6 (.held 7 (.held 8 (.held 9 (.done))))))))))) mixed (by kernel_rfl)) | (apply WC.draw (id := 2) [0, 1, 2, 3, 4, 5, 6, 7] (.held 0 (.held 1 (.held 2 (.held 3 (.held 4 (.held 5 (.held 6 (.held 7 (.done))))))))) mixed (by kernel_rfl)) | (apply WC.draw (id := 4) [0, 1, 2, 3, 4, 5, 6, 7, 8, 9, 10, 11, 13] (.held 0 (.held 1 (.held 2 (.held 3 (.held 4 (.held 5 (.held 6 (.held 7 (.held 8 (.held 9 (.held 10 (.held 11 (.loud 12 (.held 13 (.done))))))))))))))) mixed (by kernel_rfl)) | (apply WC.draw (id := 6) [0, 1, 2, 3, 4, 5] (.held 0 (.held 1 (.held 2 (.held 3 (.held 4 (.held 5 (.done))))))) mixed (by kernel_rfl)) | (apply WC.draw (id := 7) [0, 1, 2, 3, 4] (.held 0 (.held 1 (.held 2 (.held 3 (.held 4 (.loud 5 (.done))))))) mixed (by kernel_rfl)))
      refine WC.ret ?_
      exact Fin.p [Ow.cells sg 74 (srch v M goal B (.map (some m))), Ow.obj m (Mp.mobj met)] [] (ResE.t0 rfl) (by (repeat (first | exact List.Mem.head _ | apply List.Mem.tail)); done) (by repeat (first | exact List.Sublist.refl _ | exact List.nil_sublist _ | apply List.Sublist.cons_cons | apply List.Sublist.cons)) .nil ⟨rfl, by rw [hrun], rfl⟩
    repeat' (first | refine go ?_ | refine goX ?_ | refine goB ?_ | (refine goG ?_; intro g) | (refine goV ?_; intro v) | refine goD ?_ | refine goXD ?_ | (refine goDG ?_; intro g) | (refine goDV ?_; intro v) | (apply WC.draw (id := 1) [0, 1, 2, 3, 4, 5, 6, 7, 8, 9] (.held 0 (.held 1 (.held 2 (.held 3 (.held 4 (.held 5 (.held 6 (.held 7 (.held 8 (.held 9 (.done))))))))))) mixed (by kernel_rfl)) | (apply WC.draw (id := 2) [0, 1, 2, 3, 4, 5, 6, 7] (.held 0 (.held 1 (.held 2 (.held 3 (.held 4 (.held 5 (.held 6 (.held 7 (.done))))))))) mixed (by kernel_rfl)) | (apply WC.draw (id := 4) [0, 1, 2, 3, 4, 5, 6, 7, 8, 9, 10, 11, 13] (.held 0 (.held 1 (.held 2 (.held 3 (.held 4 (.held 5 (.held 6 (.held 7 (.held 8 (.held 9 (.held 10 (.held 11 (.loud 12 (.held 13 (.done))))))))))))))) mixed (by kernel_rfl)) | (apply WC.draw (id := 6) [0, 1, 2, 3, 4, 5] (.held 0 (.held 1 (.held 2 (.held 3 (.held 4 (.held 5 (.done))))))) mixed (by kernel_rfl)) | (apply WC.draw (id := 7) [0, 1, 2, 3, 4] (.held 0 (.held 1 (.held 2 (.held 3 (.held 4 (.loud 5 (.done))))))) mixed (by kernel_rfl)))
    first | refine WL.callV (hopeless_c sg g v (.map (some m)) avs ts M goal B p hg hn hM hB hP) ?_ | refine WD.callV (hopeless_c sg g v (.map (some m)) avs ts M goal B p hg hn hM hB hP) ?_
    cases c4 : hopP ts M p (B.getD 25 0) with
    | true =>
      rw [if_pos (.inr c4)] at hrun
      repeat' (first | refine go ?_ | refine goX ?_ | refine goB ?_ | (refine goG ?_; intro g) | (refine goV ?_; intro v) | refine goD ?_ | refine goXD ?_ | (refine goDG ?_; intro g) | (refine goDV ?_; intro v) | (apply WC.draw (id := 1) [0, 1, 2, 3, 4, 5, 6, 7, 8, 9] (.held 0 (.held 1 (.held 2 (.held 3 (.held 4 (.held 5 (.held 6 (.held 7 (.held 8 (.held 9 (.done))))))))))) mixed (by kernel_rfl)) | (apply WC.draw (id := 2) [0, 1, 2, 3, 4, 5, 6, 7] (.held 0 (.held 1 (.held 2 (.held 3 (.held 4 (.held 5 (.held 6 (.held 7 (.done))))))))) mixed (by kernel_rfl)) | (apply WC.draw (id := 4) [0, 1, 2, 3, 4, 5, 6, 7, 8, 9, 10, 11, 13] (.held 0 (.held 1 (.held 2 (.held 3 (.held 4 (.held 5 (.held 6 (.held 7 (.held 8 (.held 9 (.held 10 (.held 11 (.loud 12 (.held 13 (.done))))))))))))))) mixed (by kernel_rfl)) | (apply WC.draw (id := 6) [0, 1, 2, 3, 4, 5] (.held 0 (.held 1 (.held 2 (.held 3 (.held 4 (.held 5 (.done))))))) mixed (by kernel_rfl)) | (apply WC.draw (id := 7) [0, 1, 2, 3, 4] (.held 0 (.held 1 (.held 2 (.held 3 (.held 4 (.loud 5 (.done))))))) mixed (by kernel_rfl)))
      refine WC.ret ?_
      exact Fin.p [Ow.cells sg 74 (srch v M goal B (.map (some m))), Ow.obj m (Mp.mobj met)] [] (ResE.t0 rfl) (by (repeat (first | exact List.Mem.head _ | apply List.Mem.tail)); done) (by repeat (first | exact List.Sublist.refl _ | exact List.nil_sublist _ | apply List.Sublist.cons_cons | apply List.Sublist.cons)) .nil ⟨rfl, by rw [hrun], rfl⟩
    | false =>
      rw [if_neg (fun h => by rcases h with h | h; exact c3 h; rw [c4] at h; cases h)] at hrun
      revert g; intro gp
      have hsr := state_rng (M := M) hg hP
      have hsl := hsr.1
      repeat' (first | refine go ?_ | refine goX ?_ | refine goB ?_ | (refine goG ?_; intro g) | (refine goV ?_; intro v) | refine goD ?_ | refine goXD ?_ | (refine goDG ?_; intro g) | (refine goDV ?_; intro v) | (apply WC.draw (id := 1) [0, 1, 2, 3, 4, 5, 6, 7, 8, 9] (.held 0 (.held 1 (.held 2 (.held 3 (.held 4 (.held 5 (.held 6 (.held 7 (.held 8 (.held 9 (.done))))))))))) mixed (by kernel_rfl)) | (apply WC.draw (id := 2) [0, 1, 2, 3, 4, 5, 6, 7] (.held 0 (.held 1 (.held 2 (.held 3 (.held 4 (.held 5 (.held 6 (.held 7 (.done))))))))) mixed (by kernel_rfl)) | (apply WC.draw (id := 4) [0, 1, 2, 3, 4, 5, 6, 7, 8, 9, 10, 11, 13] (.held 0 (.held 1 (.held 2 (.held 3 (.held 4 (.held 5 (.held 6 (.held 7 (.held 8 (.held 9 (.held 10 (.held 11 (.loud 12 (.held 13 (.done))))))))))))))) mixed (by kernel_rfl)) | (apply WC.draw (id := 6) [0, 1, 2, 3, 4, 5] (.held 0 (.held 1 (.held 2 (.held 3 (.held 4 (.held 5 (.done))))))) mixed (by kernel_rfl)) | (apply WC.draw (id := 7) [0, 1, 2, 3, 4] (.held 0 (.held 1 (.held 2 (.held 3 (.held 4 (.loud 5 (.done))))))) mixed (by kernel_rfl)))
      first | refine WL.callV (state_c sg gp v (.map (some m)) avs ts M goal B p hg hn hM hB hP) ?_ | refine WD.callV (state_c sg gp v (.map (some m)) avs ts M goal B p hg hn hM hB hP) ?_
      repeat' (first | refine go ?_ | refine goX ?_ | refine goB ?_ | (refine goG ?_; intro g) | (refine goV ?_; intro v) | refine goD ?_ | refine goXD ?_ | (refine goDG ?_; intro g) | (refine goDV ?_; intro v) | (apply WC.draw (id := 1) [0, 1, 2, 3, 4, 5, 6, 7, 8, 9] (.held 0 (.held 1 (.held 2 (.held 3 (.held 4 (.held 5 (.held 6 (.held 7 (.held 8 (.held 9 (.done))))))))))) mixed (by kernel_rfl)) | (apply WC.draw (id := 2) [0, 1, 2, 3, 4, 5, 6, 7] (.held 0 (.held 1 (.held 2 (.held 3 (.held 4 (.held 5 (.held 6 (.held 7 (.done))))))))) mixed (by kernel_rfl)) | (apply WC.draw (id := 4) [0, 1, 2, 3, 4, 5, 6, 7, 8, 9, 10, 11, 13] (.held 0 (.held 1 (.held 2 (.held 3 (.held 4 (.held 5 (.held 6 (.held 7 (.held 8 (.held 9 (.held 10 (.held 11 (.loud 12 (.held 13 (.done))))))))))))))) mixed (by kernel_rfl)) | (apply WC.draw (id := 6) [0, 1, 2, 3, 4, 5] (.held 0 (.held 1 (.held 2 (.held 3 (.held 4 (.held 5 (.done))))))) mixed (by kernel_rfl)) | (apply WC.draw (id := 7) [0, 1, 2, 3, 4] (.held 0 (.held 1 (.held 2 (.held 3 (.held 4 (.loud 5 (.done))))))) mixed (by kernel_rfl)))
      (apply WD.k_lookup; exact rfl; (apply YO.lookM (ks := met) st98 map72 zero4; exact rfl; exact rfl; (repeat (first | exact List.Mem.head _ | apply List.Mem.tail)); exact hsr.1; exact hsr.2; exact hs.k); exact rfl; exact rfl)
      by_cases c5' : stateP ts M p ∈ met
      · rw [if_pos c5'] at hrun
        rw [decide_eq_true c5']
        repeat' (first | refine go ?_ | refine goX ?_ | refine goB ?_ | (refine goG ?_; intro g) | (refine goV ?_; intro v) | refine goD ?_ | refine goXD ?_ | (refine goDG ?_; intro g) | (refine goDV ?_; intro v) | (apply WC.draw (id := 1) [0, 1, 2, 3, 4, 5, 6, 7, 8, 9] (.held 0 (.held 1 (.held 2 (.held 3 (.held 4 (.held 5 (.held 6 (.held 7 (.held 8 (.held 9 (.done))))))))))) mixed (by kernel_rfl)) | (apply WC.draw (id := 2) [0, 1, 2, 3, 4, 5, 6, 7] (.held 0 (.held 1 (.held 2 (.held 3 (.held 4 (.held 5 (.held 6 (.held 7 (.done))))))))) mixed (by kernel_rfl)) | (apply WC.draw (id := 4) [0, 1, 2, 3, 4, 5, 6, 7, 8, 9, 10, 11, 13] (.held 0 (.held 1 (.held 2 (.held 3 (.held 4 (.held 5 (.held 6 (.held 7 (.held 8 (.held 9 (.held 10 (.held 11 (.loud 12 (.held 13 (.done))))))))))))))) mixed (by kernel_rfl)) | (apply WC.draw (id := 6) [0, 1, 2, 3, 4, 5] (.held 0 (.held 1 (.held 2 (.held 3 (.held 4 (.held 5 (.done))))))) mixed (by kernel_rfl)) | (apply WC.draw (id := 7) [0, 1, 2, 3, 4] (.held 0 (.held 1 (.held 2 (.held 3 (.held 4 (.loud 5 (.done))))))) mixed (by kernel_rfl)))
        refine WC.ret ?_
        exact Fin.p [Ow.cells sg 74 (srch v M goal B (.map (some m))), Ow.obj m (Mp.mobj met)] [] (ResE.t0 rfl) (by (repeat (first | exact List.Mem.head _ | apply List.Mem.tail)); done) (by repeat (first | exact List.Sublist.refl _ | exact List.nil_sublist _ | apply List.Sublist.cons_cons | apply List.Sublist.cons)) .nil ⟨rfl, by rw [hrun], rfl⟩
      · rw [if_neg c5'] at hrun
        rw [decide_eq_false c5']
        repeat' (first | refine go ?_ | refine goX ?_ | refine goB ?_ | (refine goG ?_; intro g) | (refine goV ?_; intro v) | refine goD ?_ | refine goXD ?_ | (refine goDG ?_; intro g) | (refine goDV ?_; intro v) | (apply WC.draw (id := 1) [0, 1, 2, 3, 4, 5, 6, 7, 8, 9] (.held 0 (.held 1 (.held 2 (.held 3 (.held 4 (.held 5 (.held 6 (.held 7 (.held 8 (.held 9 (.done))))))))))) mixed (by kernel_rfl)) | (apply WC.draw (id := 2) [0, 1, 2, 3, 4, 5, 6, 7] (.held 0 (.held 1 (.held 2 (.held 3 (.held 4 (.held 5 (.held 6 (.held 7 (.done))))))))) mixed (by kernel_rfl)) | (apply WC.draw (id := 4) [0, 1, 2, 3, 4, 5, 6, 7, 8, 9, 10, 11, 13] (.held 0 (.held 1 (.held 2 (.held 3 (.held 4 (.held 5 (.held 6 (.held 7 (.held 8 (.held 9 (.held 10 (.held 11 (.loud 12 (.held 13 (.done))))))))))))))) mixed (by kernel_rfl)) | (apply WC.draw (id := 6) [0, 1, 2, 3, 4, 5] (.held 0 (.held 1 (.held 2 (.held 3 (.held 4 (.held 5 (.done))))))) mixed (by kernel_rfl)) | (apply WC.draw (id := 7) [0, 1, 2, 3, 4] (.held 0 (.held 1 (.held 2 (.held 3 (.held 4 (.loud 5 (.done))))))) mixed (by kernel_rfl)))
        have hs2 : SI (B, met ++ [stateP ts M p]) := SI.add hg hP hs
        refine WD.l0 (by exact rfl) rfl (LO.updM (ks := met) st98 map72 rfl rfl rfl (by repeat (first | exact Sel.head | apply Sel.tail)) hsr.1 hsr.2 hs.k c5' ⟨.inl (by kernel_rfl), ?_⟩)
        repeat' (first | refine go ?_ | refine goX ?_ | refine goB ?_ | (refine goG ?_; intro g) | (refine goV ?_; intro v) | refine goD ?_ | refine goXD ?_ | (refine goDG ?_; intro g) | (refine goDV ?_; intro v) | (apply WC.draw (id := 1) [0, 1, 2, 3, 4, 5, 6, 7, 8, 9] (.held 0 (.held 1 (.held 2 (.held 3 (.held 4 (.held 5 (.held 6 (.held 7 (.held 8 (.held 9 (.done))))))))))) mixed (by kernel_rfl)) | (apply WC.draw (id := 2) [0, 1, 2, 3, 4, 5, 6, 7] (.held 0 (.held 1 (.held 2 (.held 3 (.held 4 (.held 5 (.held 6 (.held 7 (.done))))))))) mixed (by kernel_rfl)) | (apply WC.draw (id := 4) [0, 1, 2, 3, 4, 5, 6, 7, 8, 9, 10, 11, 13] (.held 0 (.held 1 (.held 2 (.held 3 (.held 4 (.held 5 (.held 6 (.held 7 (.held 8 (.held 9 (.held 10 (.held 11 (.loud 12 (.held 13 (.done))))))))))))))) mixed (by kernel_rfl)) | (apply WC.draw (id := 6) [0, 1, 2, 3, 4, 5] (.held 0 (.held 1 (.held 2 (.held 3 (.held 4 (.held 5 (.done))))))) mixed (by kernel_rfl)) | (apply WC.draw (id := 7) [0, 1, 2, 3, 4] (.held 0 (.held 1 (.held 2 (.held 3 (.held 4 (.loud 5 (.done))))))) mixed (by kernel_rfl)))
        obtain ⟨s0, hX⟩ : ∃ s0 : RS, s0 = (B, met ++ [stateP ts M p]) := ⟨_, rfl⟩
        rw [← hX] at hrun hs2
        have hout := outP_SI (rec := runP ts M goal f) hM (p := p) (fun i k s hi hk hr hs => runP_SI hg hn hM f _ s (hp.step hg hn hi hk (ready_und hr)).1 hs) hs2
        refine WC.lp (σ := Nat) (fun i => [(62, .int .i64 (i : Int)), (61, .int .i64 (ts.length : Int)), (60, v), (3, ptr gp), (0, ptr sg)]) (fun i => [Ow.cells gp 70 (ints p), Ow.cells sg 74 (srch v M goal (outP (runP ts M goal f) ts M p s0 i).1 (.map (some m))), Ow.obj m (Mp.mobj (outP (runP ts M goal f) ts M p s0 i).2)]) (fun _ => [ge h0, sT v avs ts, sA avs ts]) (fun i => i ≤ ts.length) (fun i => ts.length - i) 0 (by simp) ?_ (by repeat (first | exact Sub.nil _ | refine Sub.cons rfl ?_)) (by subst hX; exact (by repeat (first | exact List.Sublist.refl _ | exact List.nil_sublist _ | apply List.Sublist.cons_cons | apply List.Sublist.cons)))
        rintro i hi
        have hsi := hout i hi
        have eo : outP (runP ts M goal f) ts M p s0 (i + 1) = if readyQ ts p i = true then innP (runP ts M goal f) ts p i (outP (runP ts M goal f) ts M p s0 i) M else outP (runP ts M goal f) ts M p s0 i := rfl
        generalize hsg : outP (runP ts M goal f) ts M p s0 i = s1 at *
        clear hX hs2 hout
        by_cases hlt : i < ts.length
        · have hoi := good_on hg hM i
          have hu1 : readyQ ts p i = true → ∀ k, k < 4 → PI ts (withP ts p i k) ∧ und (withP ts p i k) ts.length < f := fun hr k hk => by
            have := hp.step hg hn hlt hk (ready_und hr)
            exact ⟨this.1, by omega⟩
          have hinn := fun (hr : readyQ ts p i = true) => innP_SI (rec := runP ts M goal f) (p := p) (ts := ts) (i := i) (fun k s hk hs => runP_SI hg hn hM f _ s (hu1 hr k hk).1 hs) hsi
          repeat' (first | refine go ?_ | refine goX ?_ | refine goB ?_ | (refine goG ?_; intro g) | (refine goV ?_; intro v) | refine goD ?_ | refine goXD ?_ | (refine goDG ?_; intro g) | (refine goDV ?_; intro v) | (apply WC.draw (id := 1) [0, 1, 2, 3, 4, 5, 6, 7, 8, 9] (.held 0 (.held 1 (.held 2 (.held 3 (.held 4 (.held 5 (.held 6 (.held 7 (.held 8 (.held 9 (.done))))))))))) mixed (by kernel_rfl)) | (apply WC.draw (id := 2) [0, 1, 2, 3, 4, 5, 6, 7] (.held 0 (.held 1 (.held 2 (.held 3 (.held 4 (.held 5 (.held 6 (.held 7 (.done))))))))) mixed (by kernel_rfl)) | (apply WC.draw (id := 4) [0, 1, 2, 3, 4, 5, 6, 7, 8, 9, 10, 11, 13] (.held 0 (.held 1 (.held 2 (.held 3 (.held 4 (.held 5 (.held 6 (.held 7 (.held 8 (.held 9 (.held 10 (.held 11 (.loud 12 (.held 13 (.done))))))))))))))) mixed (by kernel_rfl)) | (apply WC.draw (id := 6) [0, 1, 2, 3, 4, 5] (.held 0 (.held 1 (.held 2 (.held 3 (.held 4 (.held 5 (.done))))))) mixed (by kernel_rfl)) | (apply WC.draw (id := 7) [0, 1, 2, 3, 4] (.held 0 (.held 1 (.held 2 (.held 3 (.held 4 (.loud 5 (.done))))))) mixed (by kernel_rfl)))
          revert g; intro gt
          refine WC.lp (σ := Nat) (fun k => [(7, .int .i64 (k : Int)), (6, ptr gt), (5, .int .i64 (i : Int)), (62, .int .i64 (i : Int)), (61, .int .i64 (ts.length : Int)), (60, v), (3, ptr gp), (0, ptr sg)]) (fun k => [Ow.cells gt 48 [.int .i64 (tg ts i).time, .int .i64 (tg ts i).on, avs.getD i undef], Ow.cells gp 70 (ints p), Ow.cells sg 74 (srch v M goal (innP (runP ts M goal f) ts p i s1 k).1 (.map (some m))), Ow.obj m (Mp.mobj (innP (runP ts M goal f) ts p i s1 k).2)]) (fun _ => [ge h0, sT v avs ts, sA avs ts]) (fun k => k ≤ M ∧ (0 < k → readyQ ts p i = true)) (fun k => M - k) 0 (by simp) ?_
          rintro k ⟨hk, hkr⟩
          by_cases hkM : k < M
          · cases hrd : readyQ ts p i with
            | true =>
              have hsk := hinn hrd k (by omega)
              have ei : innP (runP ts M goal f) ts p i s1 (k + 1) = if bitI (tg ts i).on (k : Int) = 1 then runP ts M goal f (withP ts p i k) (innP (runP ts M goal f) ts p i s1 k) else innP (runP ts M goal f) ts p i s1 k := rfl
              generalize hsk2 : innP (runP ts M goal f) ts p i s1 k = s2 at *
              have hsl2 := hsk.l
              have hd := div_bd (o := (tg ts i).on) ((k : Int)).toNat hoi.1
              by_cases cb : (tg ts i).on / 2 ^ ((k : Int)).toNat % 2 = 1
              · rw [if_pos cb] at ei
                repeat' (first | refine go ?_ | refine goX ?_ | refine goB ?_ | (refine goG ?_; intro g) | (refine goV ?_; intro v) | refine goD ?_ | refine goXD ?_ | (refine goDG ?_; intro g) | (refine goDV ?_; intro v) | (apply WC.draw (id := 1) [0, 1, 2, 3, 4, 5, 6, 7, 8, 9] (.held 0 (.held 1 (.held 2 (.held 3 (.held 4 (.held 5 (.held 6 (.held 7 (.held 8 (.held 9 (.done))))))))))) mixed (by kernel_rfl)) | (apply WC.draw (id := 2) [0, 1, 2, 3, 4, 5, 6, 7] (.held 0 (.held 1 (.held 2 (.held 3 (.held 4 (.held 5 (.held 6 (.held 7 (.done))))))))) mixed (by kernel_rfl)) | (apply WC.draw (id := 4) [0, 1, 2, 3, 4, 5, 6, 7, 8, 9, 10, 11, 13] (.held 0 (.held 1 (.held 2 (.held 3 (.held 4 (.held 5 (.held 6 (.held 7 (.held 8 (.held 9 (.held 10 (.held 11 (.loud 12 (.held 13 (.done))))))))))))))) mixed (by kernel_rfl)) | (apply WC.draw (id := 6) [0, 1, 2, 3, 4, 5] (.held 0 (.held 1 (.held 2 (.held 3 (.held 4 (.held 5 (.done))))))) mixed (by kernel_rfl)) | (apply WC.draw (id := 7) [0, 1, 2, 3, 4] (.held 0 (.held 1 (.held 2 (.held 3 (.held 4 (.loud 5 (.done))))))) mixed (by kernel_rfl)))
                first | refine WL.callV (readyQ_c gp p v avs ts M i hg hn hlt hP) ?_ | refine WD.callV (readyQ_c gp p v avs ts M i hg hn hlt hP) ?_
                rw [hrd]
                repeat' (first | refine go ?_ | refine goX ?_ | refine goB ?_ | (refine goG ?_; intro g) | (refine goV ?_; intro v) | refine goD ?_ | refine goXD ?_ | (refine goDG ?_; intro g) | (refine goDV ?_; intro v) | (apply WC.draw (id := 1) [0, 1, 2, 3, 4, 5, 6, 7, 8, 9] (.held 0 (.held 1 (.held 2 (.held 3 (.held 4 (.held 5 (.held 6 (.held 7 (.held 8 (.held 9 (.done))))))))))) mixed (by kernel_rfl)) | (apply WC.draw (id := 2) [0, 1, 2, 3, 4, 5, 6, 7] (.held 0 (.held 1 (.held 2 (.held 3 (.held 4 (.held 5 (.held 6 (.held 7 (.done))))))))) mixed (by kernel_rfl)) | (apply WC.draw (id := 4) [0, 1, 2, 3, 4, 5, 6, 7, 8, 9, 10, 11, 13] (.held 0 (.held 1 (.held 2 (.held 3 (.held 4 (.held 5 (.held 6 (.held 7 (.held 8 (.held 9 (.held 10 (.held 11 (.loud 12 (.held 13 (.done))))))))))))))) mixed (by kernel_rfl)) | (apply WC.draw (id := 6) [0, 1, 2, 3, 4, 5] (.held 0 (.held 1 (.held 2 (.held 3 (.held 4 (.held 5 (.done))))))) mixed (by kernel_rfl)) | (apply WC.draw (id := 7) [0, 1, 2, 3, 4] (.held 0 (.held 1 (.held 2 (.held 3 (.held 4 (.loud 5 (.done))))))) mixed (by kernel_rfl)))
                first | refine WL.callV (with_c gp p v avs ts M i k hg hn hlt (by omega) hP) ?_ | refine WD.callV (with_c gp p v avs ts M i k hg hn hlt (by omega) hP) ?_
                repeat' (first | refine go ?_ | refine goX ?_ | refine goB ?_ | (refine goG ?_; intro g) | (refine goV ?_; intro v) | refine goD ?_ | refine goXD ?_ | (refine goDG ?_; intro g) | (refine goDV ?_; intro v) | (apply WC.draw (id := 1) [0, 1, 2, 3, 4, 5, 6, 7, 8, 9] (.held 0 (.held 1 (.held 2 (.held 3 (.held 4 (.held 5 (.held 6 (.held 7 (.held 8 (.held 9 (.done))))))))))) mixed (by kernel_rfl)) | (apply WC.draw (id := 2) [0, 1, 2, 3, 4, 5, 6, 7] (.held 0 (.held 1 (.held 2 (.held 3 (.held 4 (.held 5 (.held 6 (.held 7 (.done))))))))) mixed (by kernel_rfl)) | (apply WC.draw (id := 4) [0, 1, 2, 3, 4, 5, 6, 7, 8, 9, 10, 11, 13] (.held 0 (.held 1 (.held 2 (.held 3 (.held 4 (.held 5 (.held 6 (.held 7 (.held 8 (.held 9 (.held 10 (.held 11 (.loud 12 (.held 13 (.done))))))))))))))) mixed (by kernel_rfl)) | (apply WC.draw (id := 6) [0, 1, 2, 3, 4, 5] (.held 0 (.held 1 (.held 2 (.held 3 (.held 4 (.held 5 (.done))))))) mixed (by kernel_rfl)) | (apply WC.draw (id := 7) [0, 1, 2, 3, 4] (.held 0 (.held 1 (.held 2 (.held 3 (.held 4 (.loud 5 (.done))))))) mixed (by kernel_rfl)))
                refine WL.callG [Ow.cells sg 74 (srch v M goal s2.1 (.map (some m))), Ow.obj m (Mp.mobj s2.2)] [Ow.cells gt 48 [.int .i64 (tg ts i).time, .int .i64 (tg ts i).on, avs.getD i undef], Ow.cells gp 70 (ints p)] perm22 (ih (withP ts p i k) s2 (hu1 hrd k (by omega)).2 (hu1 hrd k (by omega)).1 hsk) ?_
                rintro _ _ _ ⟨rfl, rfl, rfl⟩
                refine WL.perm perm22' ?_
                rw [List.nil_append]
                repeat' (first | refine go ?_ | refine goX ?_ | refine goB ?_ | (refine goG ?_; intro g) | (refine goV ?_; intro v) | refine goD ?_ | refine goXD ?_ | (refine goDG ?_; intro g) | (refine goDV ?_; intro v) | (apply WC.draw (id := 1) [0, 1, 2, 3, 4, 5, 6, 7, 8, 9] (.held 0 (.held 1 (.held 2 (.held 3 (.held 4 (.held 5 (.held 6 (.held 7 (.held 8 (.held 9 (.done))))))))))) mixed (by kernel_rfl)) | (apply WC.draw (id := 2) [0, 1, 2, 3, 4, 5, 6, 7] (.held 0 (.held 1 (.held 2 (.held 3 (.held 4 (.held 5 (.held 6 (.held 7 (.done))))))))) mixed (by kernel_rfl)) | (apply WC.draw (id := 4) [0, 1, 2, 3, 4, 5, 6, 7, 8, 9, 10, 11, 13] (.held 0 (.held 1 (.held 2 (.held 3 (.held 4 (.held 5 (.held 6 (.held 7 (.held 8 (.held 9 (.held 10 (.held 11 (.loud 12 (.held 13 (.done))))))))))))))) mixed (by kernel_rfl)) | (apply WC.draw (id := 6) [0, 1, 2, 3, 4, 5] (.held 0 (.held 1 (.held 2 (.held 3 (.held 4 (.held 5 (.done))))))) mixed (by kernel_rfl)) | (apply WC.draw (id := 7) [0, 1, 2, 3, 4] (.held 0 (.held 1 (.held 2 (.held 3 (.held 4 (.loud 5 (.done))))))) mixed (by kernel_rfl)))
                exact LoopEnd.mk (k + 1) ⟨by omega, fun _ => by first | exact hrd | rfl⟩ (by omega) (by repeat (first | exact Sub.nil _ | refine Sub.cons rfl ?_)) (by rw [ei]; exact (by repeat (first | exact List.Sublist.refl _ | exact List.nil_sublist _ | apply List.Sublist.cons_cons | apply List.Sublist.cons)))
              · rw [if_neg cb] at ei
                repeat' (first | refine go ?_ | refine goX ?_ | refine goB ?_ | (refine goG ?_; intro g) | (refine goV ?_; intro v) | refine goD ?_ | refine goXD ?_ | (refine goDG ?_; intro g) | (refine goDV ?_; intro v) | (apply WC.draw (id := 1) [0, 1, 2, 3, 4, 5, 6, 7, 8, 9] (.held 0 (.held 1 (.held 2 (.held 3 (.held 4 (.held 5 (.held 6 (.held 7 (.held 8 (.held 9 (.done))))))))))) mixed (by kernel_rfl)) | (apply WC.draw (id := 2) [0, 1, 2, 3, 4, 5, 6, 7] (.held 0 (.held 1 (.held 2 (.held 3 (.held 4 (.held 5 (.held 6 (.held 7 (.done))))))))) mixed (by kernel_rfl)) | (apply WC.draw (id := 4) [0, 1, 2, 3, 4, 5, 6, 7, 8, 9, 10, 11, 13] (.held 0 (.held 1 (.held 2 (.held 3 (.held 4 (.held 5 (.held 6 (.held 7 (.held 8 (.held 9 (.held 10 (.held 11 (.loud 12 (.held 13 (.done))))))))))))))) mixed (by kernel_rfl)) | (apply WC.draw (id := 6) [0, 1, 2, 3, 4, 5] (.held 0 (.held 1 (.held 2 (.held 3 (.held 4 (.held 5 (.done))))))) mixed (by kernel_rfl)) | (apply WC.draw (id := 7) [0, 1, 2, 3, 4] (.held 0 (.held 1 (.held 2 (.held 3 (.held 4 (.loud 5 (.done))))))) mixed (by kernel_rfl)))
                first | refine WL.callV (readyQ_c gp p v avs ts M i hg hn hlt hP) ?_ | refine WD.callV (readyQ_c gp p v avs ts M i hg hn hlt hP) ?_
                rw [hrd]
                repeat' (first | refine go ?_ | refine goX ?_ | refine goB ?_ | (refine goG ?_; intro g) | (refine goV ?_; intro v) | refine goD ?_ | refine goXD ?_ | (refine goDG ?_; intro g) | (refine goDV ?_; intro v) | (apply WC.draw (id := 1) [0, 1, 2, 3, 4, 5, 6, 7, 8, 9] (.held 0 (.held 1 (.held 2 (.held 3 (.held 4 (.held 5 (.held 6 (.held 7 (.held 8 (.held 9 (.done))))))))))) mixed (by kernel_rfl)) | (apply WC.draw (id := 2) [0, 1, 2, 3, 4, 5, 6, 7] (.held 0 (.held 1 (.held 2 (.held 3 (.held 4 (.held 5 (.held 6 (.held 7 (.done))))))))) mixed (by kernel_rfl)) | (apply WC.draw (id := 4) [0, 1, 2, 3, 4, 5, 6, 7, 8, 9, 10, 11, 13] (.held 0 (.held 1 (.held 2 (.held 3 (.held 4 (.held 5 (.held 6 (.held 7 (.held 8 (.held 9 (.held 10 (.held 11 (.loud 12 (.held 13 (.done))))))))))))))) mixed (by kernel_rfl)) | (apply WC.draw (id := 6) [0, 1, 2, 3, 4, 5] (.held 0 (.held 1 (.held 2 (.held 3 (.held 4 (.held 5 (.done))))))) mixed (by kernel_rfl)) | (apply WC.draw (id := 7) [0, 1, 2, 3, 4] (.held 0 (.held 1 (.held 2 (.held 3 (.held 4 (.loud 5 (.done))))))) mixed (by kernel_rfl)))
                exact LoopEnd.mk (k + 1) ⟨by omega, fun _ => by first | exact hrd | rfl⟩ (by omega) (by repeat (first | exact Sub.nil _ | refine Sub.cons rfl ?_)) (by rw [ei]; exact (by repeat (first | exact List.Sublist.refl _ | exact List.nil_sublist _ | apply List.Sublist.cons_cons | apply List.Sublist.cons)))
            | false =>
              obtain rfl : k = 0 := by
                rcases Nat.eq_zero_or_pos k with h | h
                · exact h
                · have := hkr h; rw [hrd] at this; cases this
              rw [hrd, if_neg (by simp)] at eo
              repeat' (first | refine go ?_ | refine goX ?_ | refine goB ?_ | (refine goG ?_; intro g) | (refine goV ?_; intro v) | refine goD ?_ | refine goXD ?_ | (refine goDG ?_; intro g) | (refine goDV ?_; intro v) | (apply WC.draw (id := 1) [0, 1, 2, 3, 4, 5, 6, 7, 8, 9] (.held 0 (.held 1 (.held 2 (.held 3 (.held 4 (.held 5 (.held 6 (.held 7 (.held 8 (.held 9 (.done))))))))))) mixed (by kernel_rfl)) | (apply WC.draw (id := 2) [0, 1, 2, 3, 4, 5, 6, 7] (.held 0 (.held 1 (.held 2 (.held 3 (.held 4 (.held 5 (.held 6 (.held 7 (.done))))))))) mixed (by kernel_rfl)) | (apply WC.draw (id := 4) [0, 1, 2, 3, 4, 5, 6, 7, 8, 9, 10, 11, 13] (.held 0 (.held 1 (.held 2 (.held 3 (.held 4 (.held 5 (.held 6 (.held 7 (.held 8 (.held 9 (.held 10 (.held 11 (.loud 12 (.held 13 (.done))))))))))))))) mixed (by kernel_rfl)) | (apply WC.draw (id := 6) [0, 1, 2, 3, 4, 5] (.held 0 (.held 1 (.held 2 (.held 3 (.held 4 (.held 5 (.done))))))) mixed (by kernel_rfl)) | (apply WC.draw (id := 7) [0, 1, 2, 3, 4] (.held 0 (.held 1 (.held 2 (.held 3 (.held 4 (.loud 5 (.done))))))) mixed (by kernel_rfl)))
              first | refine WL.callV (readyQ_c gp p v avs ts M i hg hn hlt hP) ?_ | refine WD.callV (readyQ_c gp p v avs ts M i hg hn hlt hP) ?_
              rw [hrd]
              repeat' (first | refine go ?_ | refine goX ?_ | refine goB ?_ | (refine goG ?_; intro g) | (refine goV ?_; intro v) | refine goD ?_ | refine goXD ?_ | (refine goDG ?_; intro g) | (refine goDV ?_; intro v) | (apply WC.draw (id := 1) [0, 1, 2, 3, 4, 5, 6, 7, 8, 9] (.held 0 (.held 1 (.held 2 (.held 3 (.held 4 (.held 5 (.held 6 (.held 7 (.held 8 (.held 9 (.done))))))))))) mixed (by kernel_rfl)) | (apply WC.draw (id := 2) [0, 1, 2, 3, 4, 5, 6, 7] (.held 0 (.held 1 (.held 2 (.held 3 (.held 4 (.held 5 (.held 6 (.held 7 (.done))))))))) mixed (by kernel_rfl)) | (apply WC.draw (id := 4) [0, 1, 2, 3, 4, 5, 6, 7, 8, 9, 10, 11, 13] (.held 0 (.held 1 (.held 2 (.held 3 (.held 4 (.held 5 (.held 6 (.held 7 (.held 8 (.held 9 (.held 10 (.held 11 (.loud 12 (.held 13 (.done))))))))))))))) mixed (by kernel_rfl)) | (apply WC.draw (id := 6) [0, 1, 2, 3, 4, 5] (.held 0 (.held 1 (.held 2 (.held 3 (.held 4 (.held 5 (.done))))))) mixed (by kernel_rfl)) | (apply WC.draw (id := 7) [0, 1, 2, 3, 4] (.held 0 (.held 1 (.held 2 (.held 3 (.held 4 (.loud 5 (.done))))))) mixed (by kernel_rfl)))
              exact LoopEnd.mk (i + 1) (by omega) (by omega) (by repeat (first | exact Sub.nil _ | refine Sub.cons rfl ?_)) (by rw [eo]; exact (by repeat (first | exact List.Sublist.refl _ | exact List.nil_sublist _ | apply List.Sublist.cons_cons | apply List.Sublist.cons)))
          · obtain rfl : k = M := by omega
            by_cases hk0 : 0 < k
            · rw [if_pos (hkr hk0)] at eo
              repeat' (first | refine go ?_ | refine goX ?_ | refine goB ?_ | (refine goG ?_; intro g) | (refine goV ?_; intro v) | refine goD ?_ | refine goXD ?_ | (refine goDG ?_; intro g) | (refine goDV ?_; intro v) | (apply WC.draw (id := 1) [0, 1, 2, 3, 4, 5, 6, 7, 8, 9] (.held 0 (.held 1 (.held 2 (.held 3 (.held 4 (.held 5 (.held 6 (.held 7 (.held 8 (.held 9 (.done))))))))))) mixed (by kernel_rfl)) | (apply WC.draw (id := 2) [0, 1, 2, 3, 4, 5, 6, 7] (.held 0 (.held 1 (.held 2 (.held 3 (.held 4 (.held 5 (.held 6 (.held 7 (.done))))))))) mixed (by kernel_rfl)) | (apply WC.draw (id := 4) [0, 1, 2, 3, 4, 5, 6, 7, 8, 9, 10, 11, 13] (.held 0 (.held 1 (.held 2 (.held 3 (.held 4 (.held 5 (.held 6 (.held 7 (.held 8 (.held 9 (.held 10 (.held 11 (.loud 12 (.held 13 (.done))))))))))))))) mixed (by kernel_rfl)) | (apply WC.draw (id := 6) [0, 1, 2, 3, 4, 5] (.held 0 (.held 1 (.held 2 (.held 3 (.held 4 (.held 5 (.done))))))) mixed (by kernel_rfl)) | (apply WC.draw (id := 7) [0, 1, 2, 3, 4] (.held 0 (.held 1 (.held 2 (.held 3 (.held 4 (.loud 5 (.done))))))) mixed (by kernel_rfl)))
              exact LoopEnd.mk (i + 1) (by omega) (by omega) (by repeat (first | exact Sub.nil _ | refine Sub.cons rfl ?_)) (by rw [eo]; exact (by repeat (first | exact List.Sublist.refl _ | exact List.nil_sublist _ | apply List.Sublist.cons_cons | apply List.Sublist.cons)))
            · obtain rfl : k = 0 := by omega
              have eo' : outP (runP ts 0 goal f) ts 0 p s0 (i + 1) = s1 := by rw [eo]; split <;> rfl
              repeat' (first | refine go ?_ | refine goX ?_ | refine goB ?_ | (refine goG ?_; intro g) | (refine goV ?_; intro v) | refine goD ?_ | refine goXD ?_ | (refine goDG ?_; intro g) | (refine goDV ?_; intro v) | (apply WC.draw (id := 1) [0, 1, 2, 3, 4, 5, 6, 7, 8, 9] (.held 0 (.held 1 (.held 2 (.held 3 (.held 4 (.held 5 (.held 6 (.held 7 (.held 8 (.held 9 (.done))))))))))) mixed (by kernel_rfl)) | (apply WC.draw (id := 2) [0, 1, 2, 3, 4, 5, 6, 7] (.held 0 (.held 1 (.held 2 (.held 3 (.held 4 (.held 5 (.held 6 (.held 7 (.done))))))))) mixed (by kernel_rfl)) | (apply WC.draw (id := 4) [0, 1, 2, 3, 4, 5, 6, 7, 8, 9, 10, 11, 13] (.held 0 (.held 1 (.held 2 (.held 3 (.held 4 (.held 5 (.held 6 (.held 7 (.held 8 (.held 9 (.held 10 (.held 11 (.loud 12 (.held 13 (.done))))))))))))))) mixed (by kernel_rfl)) | (apply WC.draw (id := 6) [0, 1, 2, 3, 4, 5] (.held 0 (.held 1 (.held 2 (.held 3 (.held 4 (.held 5 (.done))))))) mixed (by kernel_rfl)) | (apply WC.draw (id := 7) [0, 1, 2, 3, 4] (.held 0 (.held 1 (.held 2 (.held 3 (.held 4 (.loud 5 (.done))))))) mixed (by kernel_rfl)))
              exact LoopEnd.mk (i + 1) (by omega) (by omega) (by repeat (first | exact Sub.nil _ | refine Sub.cons rfl ?_)) (by rw [eo']; exact (by repeat (first | exact List.Sublist.refl _ | exact List.nil_sublist _ | apply List.Sublist.cons_cons | apply List.Sublist.cons)))
        · obtain rfl : i = ts.length := by omega
          repeat' (first | refine go ?_ | refine goX ?_ | refine goB ?_ | (refine goG ?_; intro g) | (refine goV ?_; intro v) | refine goD ?_ | refine goXD ?_ | (refine goDG ?_; intro g) | (refine goDV ?_; intro v) | (apply WC.draw (id := 1) [0, 1, 2, 3, 4, 5, 6, 7, 8, 9] (.held 0 (.held 1 (.held 2 (.held 3 (.held 4 (.held 5 (.held 6 (.held 7 (.held 8 (.held 9 (.done))))))))))) mixed (by kernel_rfl)) | (apply WC.draw (id := 2) [0, 1, 2, 3, 4, 5, 6, 7] (.held 0 (.held 1 (.held 2 (.held 3 (.held 4 (.held 5 (.held 6 (.held 7 (.done))))))))) mixed (by kernel_rfl)) | (apply WC.draw (id := 4) [0, 1, 2, 3, 4, 5, 6, 7, 8, 9, 10, 11, 13] (.held 0 (.held 1 (.held 2 (.held 3 (.held 4 (.held 5 (.held 6 (.held 7 (.held 8 (.held 9 (.held 10 (.held 11 (.loud 12 (.held 13 (.done))))))))))))))) mixed (by kernel_rfl)) | (apply WC.draw (id := 6) [0, 1, 2, 3, 4, 5] (.held 0 (.held 1 (.held 2 (.held 3 (.held 4 (.held 5 (.done))))))) mixed (by kernel_rfl)) | (apply WC.draw (id := 7) [0, 1, 2, 3, 4] (.held 0 (.held 1 (.held 2 (.held 3 (.held 4 (.loud 5 (.done))))))) mixed (by kernel_rfl)))
          exact Fin.p [Ow.cells sg 74 (srch v M goal s1.1 (.map (some m))), Ow.obj m (Mp.mobj s1.2)] [] (ResE.t0 rfl) (by (repeat (first | exact List.Mem.head _ | apply List.Mem.tail)); done) (by repeat (first | exact List.Sublist.refl _ | exact List.nil_sublist _ | apply List.Sublist.cons_cons | apply List.Sublist.cons)) .nil ⟨rfl, by rw [hrun, hsg], rfl⟩
end Go.Proofs.Ytgacbfckaglhbaa
namespace Go.Proofs.Ytgacbfckaglhbaa
open W Go.RowKit

/-- the slices from lo on hold the chains -/
def sC (cs : List Value) (C : List (List Int)) (lo : Nat) : Fct where
  p h := ∀ j, lo ≤ j → j < C.length → (sI (cs.getD j undef) (C.getD j [])).p h
  mono _ _ hl hp j h1 h2 := (sI _ _).mono _ _ hl (hp j h1 h2)
theorem hasC {F : List Fct} {cs : List Value} {C : List (List Int)} {lo j : Nat} (h : Has F (sC cs C lo)) (h1 : lo ≤ j) (h2 : j < C.length) : Has F (sI (cs.getD j undef) (C.getD j [])) := by
  unfold Has at *; exact fun ph hf => h ph hf j h1 h2
theorem getD_setV {l : List Value} {i j : Nat} {x : Value} (h : i < l.length) : (l.set i x).getD j undef = if i = j then x else l.getD j undef := by
  simp only [List.getD_eq_getElem?_getD, List.getElem?_set]
  by_cases h1 : i = j
  · subst h1; simp [h]
  · simp [h1]
theorem sC_step {F : List Fct} {cs : List Value} {C : List (List Int)} {i : Nat} {v : Value} {c : List Int} (h : Has F (sC cs C (i + 1))) (hv : Has F (sI v c)) (hc : i < cs.length) (hC : i < C.length) : Has F (sC (cs.set i v) (C.set i c) i) := by
  unfold Has at *
  intro ph hf j h1 h2
  rw [getD_setV hc, getD_setL]
  by_cases hij : i = j
  · rw [if_pos hij, if_pos ⟨hij, hC⟩]; exact hv ph hf
  · rw [if_neg hij, if_neg (fun h => hij h.1)]
    exact h ph hf j (by omega) (by simpa using h2)
theorem sC_none {F : List Fct} (cs : List Value) (C : List (List Int)) (lo : Nat) (h : C.length ≤ lo) : Has F (sC cs C lo) := fun _ _ j h1 h2 => by omega
theorem sI_nil {F : List Fct} : Has F (sI (.slice none 0 0) []) := fun _ _ => ⟨none, 0, rfl, Nat.le_refl _, by simp [maxLen], .inl ⟨rfl, rfl, rfl⟩⟩
theorem made1 (z : Value) (hz : z.cells = #[z]) (n : Nat) : (madeCells z.cells (n * 1)).toList = List.replicate n z := by
  rw [hz, Nat.mul_one]
  apply List.ext_getElem
  · simp [madeCells]
  · intro i h1 h2
    simp [madeCells, Nat.mod_one]
section
variable {P : Program} {n : Nat} {L rest : List Oper} {e : Env} {bx bx' b0 : List Ow} {F F0 : List Fct} {Q : Env → List Ow → List Fct → Prop} {hs : List Nat} {r : Plan} {c : Code} {Q2 : Post}
theorem WL.fact (f : Fct) (hf : Has F f) (h : WL P n L rest e bx (f :: F) Q) : WL P n L rest e bx F Q := fun fr w0 a w Q' hQ hk hr ho => h fr w0 a w Q' hQ hk hr (ho.add (ho.has hf))
theorem WL.freezeI {v : Value} {el : Nat} {l : List Int} (hs : Sel bx (.slice v el 1 (ints l)) (.slice (.slice none 0 0) el 1 []) bx') (h : WL P n L rest e bx' (sI v l :: F) Q) : WL P n L rest e bx F Q := fun fr w0 a w Q' hQ hk hr ho => h fr w0 a w Q' hQ hk hr (ho.freeze hs (by simp) (by decide) _ fun j hj => by
    have hj' : j < l.length := by omega
    simp [hj'])
theorem WD.perm (hp : bx.Perm bx') (h : WD P n L hs b0 F0 r e bx' F Q) : WD P n L hs b0 F0 r e bx F Q := fun fr w0 listed a w fuel Q' h1 h2 h3 h4 h5 h6 hk hr ho hf => h fr w0 listed a w fuel Q' h1 h2 h3 h4 h5 h6 hk hr (ho.perm hp) hf
theorem YO.ldOv {t el ty : TypeId} {x : Operand} {v u : Value} {j : Nat} {cs : List Value} (hs : Scalar P t) (hx : ev e x = some (.pointer (some (eaddr v j)))) (hb : Ow.slice v el 1 cs ∈ bx) (hu : cs.getD j undef = u) (hj : j < cs.length) : YO P (.load t x) ty e bx F u :=
  YO.ldO hs hx hb (by rw [← hu, List.getD_eq_getElem?_getD, List.getElem?_eq_getElem hj]; rfl)
end
attribute [local irreducible] WC WL WD YO LO LoopEnd W.Fin Scalar SliceT FieldAt Row ArrT AllocT KnS Has W.One SrcE IntT

set_option maxHeartbeats 4000000 in
set_option maxRecDepth 4000 in
theorem chain_c (vt : Value) (avs : List Value) (ts : List Tk) (M : Nat) (hg : AllGood M ts) (hn : ts.length ≤ 10) :
    FnB Try.prog 45 [vt] [] [sT vt avs ts, sA avs ts] (fun u b G => ∃ o, u = .tuple #[o, .int .i64 (chainP ts).2] ∧ b = [] ∧ G = [sI o (chainP ts).1]) := by
  refine fn_of [(0, vt)] 110 Try.func45 rfl Try.ntmps45 (by kernel_rfl) rfl (by repeat (first | exact Sub.nil _ | refine Sub.cons rfl ?_)) fun h0 => ?_
  have ht := good_time hg
  repeat' (first | refine go ?_ | refine goX ?_ | refine goB ?_ | (refine goG ?_; intro g) | (refine goV ?_; intro v))
  refine WC.cutT (σ := Value × Value) (fun s => [(4, s.1), (5, s.2), (0, vt)]) (fun s => [Ow.slice s.2 3 1 (ints (List.replicate ts.length 0)), Ow.slice s.1 22 1 (List.replicate ts.length (.slice none 0 0))]) (fun _ => [ge h0, sT vt avs ts, sA avs ts]) (fun _ => True) ?_ ?_
  · repeat' (first | refine go ?_ | refine goX ?_ | refine goB ?_ | (refine goG ?_; intro g) | (refine goV ?_; intro v) | refine goD ?_ | refine goXD ?_ | (refine goDG ?_; intro g) | (refine goDV ?_; intro v) | (apply WC.draw (id := 1) [0, 1, 3, 4, 6, 7] (.held 0 (.held 1 (.held 3 (.held 4 (.fork 2 (.held 6 (.loud 5 (.held 7 (.done)))) 5 (.loud 2 (.held 6 (.held 7 (.done))))))))) mixed (by kernel_rfl)) | (apply WC.draw (id := 11) [0, 1, 2, 3, 4, 5, 7, 8, 9, 10, 11, 12, 13, 14, 15, 16, 17, 18, 19, 20, 21] (.held 0 (.held 1 (.held 2 (.held 3 (.held 4 (.held 5 (.loud 6 (.held 7 (.held 8 (.held 9 (.held 10 (.held 11 (.held 12 (.held 13 (.held 14 (.held 15 (.held 16 (.held 17 (.held 18 (.held 19 (.held 20 (.held 21 (.done))))))))))))))))))))))) mixed (by kernel_rfl)) | (apply WC.draw (id := 17) [0, 1, 2, 3, 4, 5, 6, 7, 8, 9] (.held 0 (.held 1 (.held 2 (.held 3 (.held 4 (.held 5 (.held 6 (.held 7 (.held 8 (.held 9 (.done))))))))))) mixed (by kernel_rfl)))
    apply WD.fork2
    · exact rfl
    · exact rfl
    · exact rfl
    · exact rfl
    · exact rfl
    · exact rfl
    · refine LO.make T.e39 rfl rfl (by omega) (by omega) (made1 _ rfl _) (fun b => ⟨.inr ⟨(by repeat (first | exact List.Sublist.refl _ | exact List.nil_sublist _ | apply List.Sublist.cons_cons | apply List.Sublist.cons)), fun _ h => h⟩, ?_⟩)
      repeat' (first | refine go ?_ | refine goX ?_ | refine goB ?_ | (refine goG ?_; intro g) | (refine goV ?_; intro v) | refine goD ?_ | refine goXD ?_ | (refine goDG ?_; intro g) | (refine goDV ?_; intro v) | (apply WC.draw (id := 1) [0, 1, 3, 4, 6, 7] (.held 0 (.held 1 (.held 3 (.held 4 (.fork 2 (.held 6 (.loud 5 (.held 7 (.done)))) 5 (.loud 2 (.held 6 (.held 7 (.done))))))))) mixed (by kernel_rfl)) | (apply WC.draw (id := 11) [0, 1, 2, 3, 4, 5, 7, 8, 9, 10, 11, 12, 13, 14, 15, 16, 17, 18, 19, 20, 21] (.held 0 (.held 1 (.held 2 (.held 3 (.held 4 (.held 5 (.loud 6 (.held 7 (.held 8 (.held 9 (.held 10 (.held 11 (.held 12 (.held 13 (.held 14 (.held 15 (.held 16 (.held 17 (.held 18 (.held 19 (.held 20 (.held 21 (.done))))))))))))))))))))))) mixed (by kernel_rfl)) | (apply WC.draw (id := 17) [0, 1, 2, 3, 4, 5, 6, 7, 8, 9] (.held 0 (.held 1 (.held 2 (.held 3 (.held 4 (.held 5 (.held 6 (.held 7 (.held 8 (.held 9 (.done))))))))))) mixed (by kernel_rfl)))
      (apply WD.l; exact rfl; exact rfl; exact rfl; refine LO.make T.e22 rfl rfl (by omega) (by omega) (made1 _ rfl _) (fun t => ⟨.inr ⟨(by repeat (first | exact List.Sublist.refl _ | exact List.nil_sublist _ | apply List.Sublist.cons_cons | apply List.Sublist.cons)), fun _ h => h⟩, ?_⟩))
      (apply WD.k_assign; exact rfl; (apply YO.assign; exact rfl); exact rfl; exact rfl)
      refine WD.nil ?_
      exact ⟨(b, t), trivial, (by repeat (first | exact Sub.nil _ | refine Sub.cons rfl ?_)), by rw [ints, List.map_replicate]; exact (by repeat (first | exact List.Sublist.refl _ | exact List.nil_sublist _ | apply List.Sublist.cons_cons | apply List.Sublist.cons)), (by repeat (first | exact HasAll.nil | (apply HasAll.cons; (focus (apply Has.mem; (repeat (first | exact List.Mem.head _ | apply List.Mem.tail)); done)))))⟩
    · refine LO.make T.e22 rfl rfl (by omega) (by omega) (made1 _ rfl _) (fun t => ⟨.inr ⟨(by repeat (first | exact List.Sublist.refl _ | exact List.nil_sublist _ | apply List.Sublist.cons_cons | apply List.Sublist.cons)), fun _ h => h⟩, ?_⟩)
      repeat' (first | refine go ?_ | refine goX ?_ | refine goB ?_ | (refine goG ?_; intro g) | (refine goV ?_; intro v) | refine goD ?_ | refine goXD ?_ | (refine goDG ?_; intro g) | (refine goDV ?_; intro v) | (apply WC.draw (id := 1) [0, 1, 3, 4, 6, 7] (.held 0 (.held 1 (.held 3 (.held 4 (.fork 2 (.held 6 (.loud 5 (.held 7 (.done)))) 5 (.loud 2 (.held 6 (.held 7 (.done))))))))) mixed (by kernel_rfl)) | (apply WC.draw (id := 11) [0, 1, 2, 3, 4, 5, 7, 8, 9, 10, 11, 12, 13, 14, 15, 16, 17, 18, 19, 20, 21] (.held 0 (.held 1 (.held 2 (.held 3 (.held 4 (.held 5 (.loud 6 (.held 7 (.held 8 (.held 9 (.held 10 (.held 11 (.held 12 (.held 13 (.held 14 (.held 15 (.held 16 (.held 17 (.held 18 (.held 19 (.held 20 (.held 21 (.done))))))))))))))))))))))) mixed (by kernel_rfl)) | (apply WC.draw (id := 17) [0, 1, 2, 3, 4, 5, 6, 7, 8, 9] (.held 0 (.held 1 (.held 2 (.held 3 (.held 4 (.held 5 (.held 6 (.held 7 (.held 8 (.held 9 (.done))))))))))) mixed (by kernel_rfl)))
      (apply WD.l; exact rfl; exact rfl; exact rfl; refine LO.make T.e39 rfl rfl (by omega) (by omega) (made1 _ rfl _) (fun b => ⟨.inr ⟨(by repeat (first | exact List.Sublist.refl _ | exact List.nil_sublist _ | apply List.Sublist.cons_cons | apply List.Sublist.cons)), fun _ h => h⟩, ?_⟩))
      refine WD.perm (List.Perm.swap _ _ _) ?_
      repeat' (first | refine go ?_ | refine goX ?_ | refine goB ?_ | (refine goG ?_; intro g) | (refine goV ?_; intro v) | refine goD ?_ | refine goXD ?_ | (refine goDG ?_; intro g) | (refine goDV ?_; intro v) | (apply WC.draw (id := 1) [0, 1, 3, 4, 6, 7] (.held 0 (.held 1 (.held 3 (.held 4 (.fork 2 (.held 6 (.loud 5 (.held 7 (.done)))) 5 (.loud 2 (.held 6 (.held 7 (.done))))))))) mixed (by kernel_rfl)) | (apply WC.draw (id := 11) [0, 1, 2, 3, 4, 5, 7, 8, 9, 10, 11, 12, 13, 14, 15, 16, 17, 18, 19, 20, 21] (.held 0 (.held 1 (.held 2 (.held 3 (.held 4 (.held 5 (.loud 6 (.held 7 (.held 8 (.held 9 (.held 10 (.held 11 (.held 12 (.held 13 (.held 14 (.held 15 (.held 16 (.held 17 (.held 18 (.held 19 (.held 20 (.held 21 (.done))))))))))))))))))))))) mixed (by kernel_rfl)) | (apply WC.draw (id := 17) [0, 1, 2, 3, 4, 5, 6, 7, 8, 9] (.held 0 (.held 1 (.held 2 (.held 3 (.held 4 (.held 5 (.held 6 (.held 7 (.held 8 (.held 9 (.done))))))))))) mixed (by kernel_rfl)))
      exact ⟨(b, t), trivial, (by repeat (first | exact Sub.nil _ | refine Sub.cons rfl ?_)), by rw [ints, List.map_replicate]; exact (by repeat (first | exact List.Sublist.refl _ | exact List.nil_sublist _ | apply List.Sublist.cons_cons | apply List.Sublist.cons)), (by repeat (first | exact HasAll.nil | (apply HasAll.cons; (focus (apply Has.mem; (repeat (first | exact List.Mem.head _ | apply List.Mem.tail)); done)))))⟩
  rintro ⟨bv, tv⟩ _
  repeat' (first | refine go ?_ | refine goX ?_ | refine goB ?_ | (refine goG ?_; intro g) | (refine goV ?_; intro v) | refine goD ?_ | refine goXD ?_ | (refine goDG ?_; intro g) | (refine goDV ?_; intro v) | (apply WC.draw (id := 1) [0, 1, 3, 4, 6, 7] (.held 0 (.held 1 (.held 3 (.held 4 (.fork 2 (.held 6 (.loud 5 (.held 7 (.done)))) 5 (.loud 2 (.held 6 (.held 7 (.done))))))))) mixed (by kernel_rfl)) | (apply WC.draw (id := 11) [0, 1, 2, 3, 4, 5, 7, 8, 9, 10, 11, 12, 13, 14, 15, 16, 17, 18, 19, 20, 21] (.held 0 (.held 1 (.held 2 (.held 3 (.held 4 (.held 5 (.loud 6 (.held 7 (.held 8 (.held 9 (.held 10 (.held 11 (.held 12 (.held 13 (.held 14 (.held 15 (.held 16 (.held 17 (.held 18 (.held 19 (.held 20 (.held 21 (.done))))))))))))))))))))))) mixed (by kernel_rfl)) | (apply WC.draw (id := 17) [0, 1, 2, 3, 4, 5, 6, 7, 8, 9] (.held 0 (.held 1 (.held 2 (.held 3 (.held 4 (.held 5 (.held 6 (.held 7 (.held 8 (.held 9 (.done))))))))))) mixed (by kernel_rfl)))
  refine WC.fact (sC (List.replicate ts.length (.slice none 0 0)) (List.replicate ts.length []) ts.length) (sC_none _ _ _ (by simp)) ?_
  refine WC.fact (sI (.slice none 0 0) []) sI_nil ?_
  refine WC.lp (σ := Nat × List Value × Value) (fun s => [(8, .int .i64 ((ts.length : Int) - 1 - (s.1 : Int))), (6, s.2.2), (7, .int .i64 (chS ts s.1).most), (4, bv), (5, tv), (0, vt)]) (fun s => [Ow.slice tv 3 1 (ints (chS ts s.1).t), Ow.slice bv 22 1 s.2.1]) (fun s => [ge h0, sT vt avs ts, sA avs ts, sC s.2.1 (chS ts s.1).c (ts.length - s.1), sI s.2.2 (chS ts s.1).out]) (fun s => s.1 ≤ ts.length ∧ s.2.1.length = ts.length) (fun s => ts.length - s.1) (0, List.replicate ts.length (.slice none 0 0), .slice none 0 0) ⟨by simp, by simp⟩ ?_ (by rw [show ((ts.length : Int) - 1 - ((0 : Nat) : Int)) = (ts.length : Int) - 1 by omega]; exact (by repeat (first | exact Sub.nil _ | refine Sub.cons rfl ?_)))
  rintro ⟨d, cs, ov⟩ ⟨hd, hcs⟩
  simp only at hd hcs ⊢
  have hok := chS_ok ht d
  have hlc := hok.lc
  have hlt := hok.lt
  have htb := hok.tb
  have hmb := hok.mb
  have hcl := hok.cl
  have e : chS ts (d + 1) = chStep ts (chS ts d) (ts.length - 1 - d) d := rfl
  generalize hS : chS ts d = S at *
  obtain ⟨C, T', out, most⟩ := S
  simp only at hlc hlt htb hmb hcl ⊢
  by_cases hdl : d < ts.length
  · obtain ⟨i, hi⟩ : ∃ i, i = ts.length - 1 - d := ⟨_, rfl⟩
    rw [← hi] at e
    have hil : i < ts.length := by omega
    have hI : (ts.length : Int) - 1 - (d : Int) = (i : Int) := by omega
    have hni : ts.length - d = i + 1 := by omega
    have hti := ht i
    rw [hI, hni]
    repeat' (first | refine go ?_ | refine goX ?_ | refine goB ?_ | (refine goG ?_; intro g) | (refine goV ?_; intro v) | refine goD ?_ | refine goXD ?_ | (refine goDG ?_; intro g) | (refine goDV ?_; intro v) | (apply WC.draw (id := 1) [0, 1, 3, 4, 6, 7] (.held 0 (.held 1 (.held 3 (.held 4 (.fork 2 (.held 6 (.loud 5 (.held 7 (.done)))) 5 (.loud 2 (.held 6 (.held 7 (.done))))))))) mixed (by kernel_rfl)) | (apply WC.draw (id := 11) [0, 1, 2, 3, 4, 5, 7, 8, 9, 10, 11, 12, 13, 14, 15, 16, 17, 18, 19, 20, 21] (.held 0 (.held 1 (.held 2 (.held 3 (.held 4 (.held 5 (.loud 6 (.held 7 (.held 8 (.held 9 (.held 10 (.held 11 (.held 12 (.held 13 (.held 14 (.held 15 (.held 16 (.held 17 (.held 18 (.held 19 (.held 20 (.held 21 (.done))))))))))))))))))))))) mixed (by kernel_rfl)) | (apply WC.draw (id := 17) [0, 1, 2, 3, 4, 5, 6, 7, 8, 9] (.held 0 (.held 1 (.held 2 (.held 3 (.held 4 (.held 5 (.held 6 (.held 7 (.held 8 (.held 9 (.done))))))))))) mixed (by kernel_rfl)))
    refine WC.lp (σ := Nat) (fun j => [(10, .int .i64 ((i + 1 + j : Nat) : Int)), (9, .int .i64 (nextP ts T' i j)), (8, .int .i64 (i : Int)), (6, ov), (7, .int .i64 most), (4, bv), (5, tv), (0, vt)]) (fun _ => [Ow.slice tv 3 1 (ints T'), Ow.slice bv 22 1 cs]) (fun _ => [ge h0, sT vt avs ts, sA avs ts, sC cs C (i + 1), sI ov out]) (fun j => i + 1 + j ≤ ts.length) (fun j => ts.length - j) 0 (by omega) ?_
    rintro j hj
    have hnb := nextP_bd (ts := ts) (T := T') (i := i) j
    have en : nextP ts T' i (j + 1) = if (i : Int) ∈ (tg ts (i + 1 + j)).after ∧ (nextP ts T' i j < 0 ∨ T'.getD (nextP ts T' i j).toNat 0 < T'.getD (i + 1 + j) 0) then ((i + 1 + j : Nat) : Int) else nextP ts T' i j := rfl
    generalize hnx : nextP ts T' i j = nx at *
    by_cases hjl : i + 1 + j < ts.length
    · by_cases m1 : (i : Int) ∈ (tg ts (i + 1 + j)).after
      · by_cases m2 : nx < 0
        · rw [if_pos ⟨m1, .inl m2⟩] at en
          repeat' (first | refine go ?_ | refine goX ?_ | refine goB ?_ | (refine goG ?_; intro g) | (refine goV ?_; intro v) | refine goD ?_ | refine goXD ?_ | (refine goDG ?_; intro g) | (refine goDV ?_; intro v) | (apply WC.draw (id := 1) [0, 1, 3, 4, 6, 7] (.held 0 (.held 1 (.held 3 (.held 4 (.fork 2 (.held 6 (.loud 5 (.held 7 (.done)))) 5 (.loud 2 (.held 6 (.held 7 (.done))))))))) mixed (by kernel_rfl)) | (apply WC.draw (id := 11) [0, 1, 2, 3, 4, 5, 7, 8, 9, 10, 11, 12, 13, 14, 15, 16, 17, 18, 19, 20, 21] (.held 0 (.held 1 (.held 2 (.held 3 (.held 4 (.held 5 (.loud 6 (.held 7 (.held 8 (.held 9 (.held 10 (.held 11 (.held 12 (.held 13 (.held 14 (.held 15 (.held 16 (.held 17 (.held 18 (.held 19 (.held 20 (.held 21 (.done))))))))))))))))))))))) mixed (by kernel_rfl)) | (apply WC.draw (id := 17) [0, 1, 2, 3, 4, 5, 6, 7, 8, 9] (.held 0 (.held 1 (.held 2 (.held 3 (.held 4 (.held 5 (.held 6 (.held 7 (.held 8 (.held 9 (.done))))))))))) mixed (by kernel_rfl)))
          first | refine WL.callV (contains_c (avs.getD (i + 1 + j) undef) (tg ts (i + 1 + j)).after i) ?_ | refine WD.callV (contains_c (avs.getD (i + 1 + j) undef) (tg ts (i + 1 + j)).after i) ?_
          rw [decide_eq_true m1]
          repeat' (first | refine go ?_ | refine goX ?_ | refine goB ?_ | (refine goG ?_; intro g) | (refine goV ?_; intro v) | refine goD ?_ | refine goXD ?_ | (refine goDG ?_; intro g) | (refine goDV ?_; intro v) | (apply WC.draw (id := 1) [0, 1, 3, 4, 6, 7] (.held 0 (.held 1 (.held 3 (.held 4 (.fork 2 (.held 6 (.loud 5 (.held 7 (.done)))) 5 (.loud 2 (.held 6 (.held 7 (.done))))))))) mixed (by kernel_rfl)) | (apply WC.draw (id := 11) [0, 1, 2, 3, 4, 5, 7, 8, 9, 10, 11, 12, 13, 14, 15, 16, 17, 18, 19, 20, 21] (.held 0 (.held 1 (.held 2 (.held 3 (.held 4 (.held 5 (.loud 6 (.held 7 (.held 8 (.held 9 (.held 10 (.held 11 (.held 12 (.held 13 (.held 14 (.held 15 (.held 16 (.held 17 (.held 18 (.held 19 (.held 20 (.held 21 (.done))))))))))))))))))))))) mixed (by kernel_rfl)) | (apply WC.draw (id := 17) [0, 1, 2, 3, 4, 5, 6, 7, 8, 9] (.held 0 (.held 1 (.held 2 (.held 3 (.held 4 (.held 5 (.held 6 (.held 7 (.held 8 (.held 9 (.done))))))))))) mixed (by kernel_rfl)))
          exact LoopEnd.mk (j + 1) (by omega) (by omega) (by rw [en]; exact (by repeat (first | exact Sub.nil _ | refine Sub.cons rfl ?_)))
        · by_cases m3 : T'.getD nx.toNat 0 < T'.getD (i + 1 + j) 0
          · rw [if_pos ⟨m1, .inr m3⟩] at en
            repeat' (first | refine go ?_ | refine goX ?_ | refine goB ?_ | (refine goG ?_; intro g) | (refine goV ?_; intro v) | refine goD ?_ | refine goXD ?_ | (refine goDG ?_; intro g) | (refine goDV ?_; intro v) | (apply WC.draw (id := 1) [0, 1, 3, 4, 6, 7] (.held 0 (.held 1 (.held 3 (.held 4 (.fork 2 (.held 6 (.loud 5 (.held 7 (.done)))) 5 (.loud 2 (.held 6 (.held 7 (.done))))))))) mixed (by kernel_rfl)) | (apply WC.draw (id := 11) [0, 1, 2, 3, 4, 5, 7, 8, 9, 10, 11, 12, 13, 14, 15, 16, 17, 18, 19, 20, 21] (.held 0 (.held 1 (.held 2 (.held 3 (.held 4 (.held 5 (.loud 6 (.held 7 (.held 8 (.held 9 (.held 10 (.held 11 (.held 12 (.held 13 (.held 14 (.held 15 (.held 16 (.held 17 (.held 18 (.held 19 (.held 20 (.held 21 (.done))))))))))))))))))))))) mixed (by kernel_rfl)) | (apply WC.draw (id := 17) [0, 1, 2, 3, 4, 5, 6, 7, 8, 9] (.held 0 (.held 1 (.held 2 (.held 3 (.held 4 (.held 5 (.held 6 (.held 7 (.held 8 (.held 9 (.done))))))))))) mixed (by kernel_rfl)))
            first | refine WL.callV (contains_c (avs.getD (i + 1 + j) undef) (tg ts (i + 1 + j)).after i) ?_ | refine WD.callV (contains_c (avs.getD (i + 1 + j) undef) (tg ts (i + 1 + j)).after i) ?_
            rw [decide_eq_true m1]
            repeat' (first | refine go ?_ | refine goX ?_ | refine goB ?_ | (refine goG ?_; intro g) | (refine goV ?_; intro v) | refine goD ?_ | refine goXD ?_ | (refine goDG ?_; intro g) | (refine goDV ?_; intro v) | (apply WC.draw (id := 1) [0, 1, 3, 4, 6, 7] (.held 0 (.held 1 (.held 3 (.held 4 (.fork 2 (.held 6 (.loud 5 (.held 7 (.done)))) 5 (.loud 2 (.held 6 (.held 7 (.done))))))))) mixed (by kernel_rfl)) | (apply WC.draw (id := 11) [0, 1, 2, 3, 4, 5, 7, 8, 9, 10, 11, 12, 13, 14, 15, 16, 17, 18, 19, 20, 21] (.held 0 (.held 1 (.held 2 (.held 3 (.held 4 (.held 5 (.loud 6 (.held 7 (.held 8 (.held 9 (.held 10 (.held 11 (.held 12 (.held 13 (.held 14 (.held 15 (.held 16 (.held 17 (.held 18 (.held 19 (.held 20 (.held 21 (.done))))))))))))))))))))))) mixed (by kernel_rfl)) | (apply WC.draw (id := 17) [0, 1, 2, 3, 4, 5, 6, 7, 8, 9] (.held 0 (.held 1 (.held 2 (.held 3 (.held 4 (.held 5 (.held 6 (.held 7 (.held 8 (.held 9 (.done))))))))))) mixed (by kernel_rfl)))
            exact LoopEnd.mk (j + 1) (by omega) (by omega) (by rw [en]; exact (by repeat (first | exact Sub.nil _ | refine Sub.cons rfl ?_)))
          · rw [if_neg (fun h => by rcases h.2 with h | h; exact m2 h; exact m3 h)] at en
            repeat' (first | refine go ?_ | refine goX ?_ | refine goB ?_ | (refine goG ?_; intro g) | (refine goV ?_; intro v) | refine goD ?_ | refine goXD ?_ | (refine goDG ?_; intro g) | (refine goDV ?_; intro v) | (apply WC.draw (id := 1) [0, 1, 3, 4, 6, 7] (.held 0 (.held 1 (.held 3 (.held 4 (.fork 2 (.held 6 (.loud 5 (.held 7 (.done)))) 5 (.loud 2 (.held 6 (.held 7 (.done))))))))) mixed (by kernel_rfl)) | (apply WC.draw (id := 11) [0, 1, 2, 3, 4, 5, 7, 8, 9, 10, 11, 12, 13, 14, 15, 16, 17, 18, 19, 20, 21] (.held 0 (.held 1 (.held 2 (.held 3 (.held 4 (.held 5 (.loud 6 (.held 7 (.held 8 (.held 9 (.held 10 (.held 11 (.held 12 (.held 13 (.held 14 (.held 15 (.held 16 (.held 17 (.held 18 (.held 19 (.held 20 (.held 21 (.done))))))))))))))))))))))) mixed (by kernel_rfl)) | (apply WC.draw (id := 17) [0, 1, 2, 3, 4, 5, 6, 7, 8, 9] (.held 0 (.held 1 (.held 2 (.held 3 (.held 4 (.held 5 (.held 6 (.held 7 (.held 8 (.held 9 (.done))))))))))) mixed (by kernel_rfl)))
            first | refine WL.callV (contains_c (avs.getD (i + 1 + j) undef) (tg ts (i + 1 + j)).after i) ?_ | refine WD.callV (contains_c (avs.getD (i + 1 + j) undef) (tg ts (i + 1 + j)).after i) ?_
            rw [decide_eq_true m1]
            repeat' (first | refine go ?_ | refine goX ?_ | refine goB ?_ | (refine goG ?_; intro g) | (refine goV ?_; intro v) | refine goD ?_ | refine goXD ?_ | (refine goDG ?_; intro g) | (refine goDV ?_; intro v) | (apply WC.draw (id := 1) [0, 1, 3, 4, 6, 7] (.held 0 (.held 1 (.held 3 (.held 4 (.fork 2 (.held 6 (.loud 5 (.held 7 (.done)))) 5 (.loud 2 (.held 6 (.held 7 (.done))))))))) mixed (by kernel_rfl)) | (apply WC.draw (id := 11) [0, 1, 2, 3, 4, 5, 7, 8, 9, 10, 11, 12, 13, 14, 15, 16, 17, 18, 19, 20, 21] (.held 0 (.held 1 (.held 2 (.held 3 (.held 4 (.held 5 (.loud 6 (.held 7 (.held 8 (.held 9 (.held 10 (.held 11 (.held 12 (.held 13 (.held 14 (.held 15 (.held 16 (.held 17 (.held 18 (.held 19 (.held 20 (.held 21 (.done))))))))))))))))))))))) mixed (by kernel_rfl)) | (apply WC.draw (id := 17) [0, 1, 2, 3, 4, 5, 6, 7, 8, 9] (.held 0 (.held 1 (.held 2 (.held 3 (.held 4 (.held 5 (.held 6 (.held 7 (.held 8 (.held 9 (.done))))))))))) mixed (by kernel_rfl)))
            exact LoopEnd.mk (j + 1) (by omega) (by omega) (by rw [en]; exact (by repeat (first | exact Sub.nil _ | refine Sub.cons rfl ?_)))
      · rw [if_neg fun h => m1 h.1] at en
        repeat' (first | refine go ?_ | refine goX ?_ | refine goB ?_ | (refine goG ?_; intro g) | (refine goV ?_; intro v) | refine goD ?_ | refine goXD ?_ | (refine goDG ?_; intro g) | (refine goDV ?_; intro v) | (apply WC.draw (id := 1) [0, 1, 3, 4, 6, 7] (.held 0 (.held 1 (.held 3 (.held 4 (.fork 2 (.held 6 (.loud 5 (.held 7 (.done)))) 5 (.loud 2 (.held 6 (.held 7 (.done))))))))) mixed (by kernel_rfl)) | (apply WC.draw (id := 11) [0, 1, 2, 3, 4, 5, 7, 8, 9, 10, 11, 12, 13, 14, 15, 16, 17, 18, 19, 20, 21] (.held 0 (.held 1 (.held 2 (.held 3 (.held 4 (.held 5 (.loud 6 (.held 7 (.held 8 (.held 9 (.held 10 (.held 11 (.held 12 (.held 13 (.held 14 (.held 15 (.held 16 (.held 17 (.held 18 (.held 19 (.held 20 (.held 21 (.done))))))))))))))))))))))) mixed (by kernel_rfl)) | (apply WC.draw (id := 17) [0, 1, 2, 3, 4, 5, 6, 7, 8, 9] (.held 0 (.held 1 (.held 2 (.held 3 (.held 4 (.held 5 (.held 6 (.held 7 (.held 8 (.held 9 (.done))))))))))) mixed (by kernel_rfl)))
        first | refine WL.callV (contains_c (avs.getD (i + 1 + j) undef) (tg ts (i + 1 + j)).after i) ?_ | refine WD.callV (contains_c (avs.getD (i + 1 + j) undef) (tg ts (i + 1 + j)).after i) ?_
        rw [decide_eq_false m1]
        repeat' (first | refine go ?_ | refine goX ?_ | refine goB ?_ | (refine goG ?_; intro g) | (refine goV ?_; intro v) | refine goD ?_ | refine goXD ?_ | (refine goDG ?_; intro g) | (refine goDV ?_; intro v) | (apply WC.draw (id := 1) [0, 1, 3, 4, 6, 7] (.held 0 (.held 1 (.held 3 (.held 4 (.fork 2 (.held 6 (.loud 5 (.held 7 (.done)))) 5 (.loud 2 (.held 6 (.held 7 (.done))))))))) mixed (by kernel_rfl)) | (apply WC.draw (id := 11) [0, 1, 2, 3, 4, 5, 7, 8, 9, 10, 11, 12, 13, 14, 15, 16, 17, 18, 19, 20, 21] (.held 0 (.held 1 (.held 2 (.held 3 (.held 4 (.held 5 (.loud 6 (.held 7 (.held 8 (.held 9 (.held 10 (.held 11 (.held 12 (.held 13 (.held 14 (.held 15 (.held 16 (.held 17 (.held 18 (.held 19 (.held 20 (.held 21 (.done))))))))))))))))))))))) mixed (by kernel_rfl)) | (apply WC.draw (id := 17) [0, 1, 2, 3, 4, 5, 6, 7, 8, 9] (.held 0 (.held 1 (.held 2 (.held 3 (.held 4 (.held 5 (.held 6 (.held 7 (.held 8 (.held 9 (.done))))))))))) mixed (by kernel_rfl)))
        exact LoopEnd.mk (j + 1) (by omega) (by omega) (by rw [en]; exact (by repeat (first | exact Sub.nil _ | refine Sub.cons rfl ?_)))
    · obtain rfl : j = d := by omega
      rw [hnx.symm] at *
      generalize hnx2 : nextP ts T' i j = nx at *
      repeat' (first | refine go ?_ | refine goX ?_ | refine goB ?_ | (refine goG ?_; intro g) | (refine goV ?_; intro v) | refine goD ?_ | refine goXD ?_ | (refine goDG ?_; intro g) | (refine goDV ?_; intro v) | (apply WC.draw (id := 1) [0, 1, 3, 4, 6, 7] (.held 0 (.held 1 (.held 3 (.held 4 (.fork 2 (.held 6 (.loud 5 (.held 7 (.done)))) 5 (.loud 2 (.held 6 (.held 7 (.done))))))))) mixed (by kernel_rfl)) | (apply WC.draw (id := 11) [0, 1, 2, 3, 4, 5, 7, 8, 9, 10, 11, 12, 13, 14, 15, 16, 17, 18, 19, 20, 21] (.held 0 (.held 1 (.held 2 (.held 3 (.held 4 (.held 5 (.loud 6 (.held 7 (.held 8 (.held 9 (.held 10 (.held 11 (.held 12 (.held 13 (.held 14 (.held 15 (.held 16 (.held 17 (.held 18 (.held 19 (.held 20 (.held 21 (.done))))))))))))))))))))))) mixed (by kernel_rfl)) | (apply WC.draw (id := 17) [0, 1, 2, 3, 4, 5, 6, 7, 8, 9] (.held 0 (.held 1 (.held 2 (.held 3 (.held 4 (.held 5 (.held 6 (.held 7 (.held 8 (.held 9 (.done))))))))))) mixed (by kernel_rfl)))
      revert v; intro w
      refine WL.l0 rfl (LO.storeO1 rfl rfl T.z22 (One.sl (KnS.o1 (by (repeat (first | exact List.Mem.head _ | apply List.Mem.tail)); done))) (by repeat (first | exact Sel.head | apply Sel.tail)) (by omega) rfl ?_)
      have hci : (cs.set i w).getD i undef = w := by rw [getD_setV (by omega), if_pos rfl]
      have hcsl : (cs.set i w).length = ts.length := by simpa using hcs
      by_cases m2 : nx < 0
      · have e2 : chStep ts ⟨C, T', out, most⟩ i j = ⟨C.set i [(i : Int)], T'.set i (tg ts i).time, if most ≤ (tg ts i).time then [(i : Int)] else out, if most ≤ (tg ts i).time then (tg ts i).time else most⟩ := by
          simp only [chStep, hnx2, if_pos m2]
        repeat' (first | refine go ?_ | refine goX ?_ | refine goB ?_ | (refine goG ?_; intro g) | (refine goV ?_; intro v) | refine goD ?_ | refine goXD ?_ | (refine goDG ?_; intro g) | (refine goDV ?_; intro v) | (apply WC.draw (id := 1) [0, 1, 3, 4, 6, 7] (.held 0 (.held 1 (.held 3 (.held 4 (.fork 2 (.held 6 (.loud 5 (.held 7 (.done)))) 5 (.loud 2 (.held 6 (.held 7 (.done))))))))) mixed (by kernel_rfl)) | (apply WC.draw (id := 11) [0, 1, 2, 3, 4, 5, 7, 8, 9, 10, 11, 12, 13, 14, 15, 16, 17, 18, 19, 20, 21] (.held 0 (.held 1 (.held 2 (.held 3 (.held 4 (.held 5 (.loud 6 (.held 7 (.held 8 (.held 9 (.held 10 (.held 11 (.held 12 (.held 13 (.held 14 (.held 15 (.held 16 (.held 17 (.held 18 (.held 19 (.held 20 (.held 21 (.done))))))))))))))))))))))) mixed (by kernel_rfl)) | (apply WC.draw (id := 17) [0, 1, 2, 3, 4, 5, 6, 7, 8, 9] (.held 0 (.held 1 (.held 2 (.held 3 (.held 4 (.held 5 (.held 6 (.held 7 (.held 8 (.held 9 (.done))))))))))) mixed (by kernel_rfl)))
        simp only [ints_set]
        have et : (T'.set i (tg ts i).time).getD i 0 = (tg ts i).time := by rw [getD_set, if_pos ⟨rfl, by omega⟩]
        refine WL.freezeI (l := [(i : Int)]) (by repeat (first | exact Sel.head | apply Sel.tail)) ?_
        refine WL.fact (sC (cs.set i w) (C.set i [(i : Int)]) i) (sC_step (Has.mem (by (repeat (first | exact List.Mem.head _ | apply List.Mem.tail)); done)) (Has.mem (by (repeat (first | exact List.Mem.head _ | apply List.Mem.tail)); done)) (by omega) (by omega)) ?_
        have hT2 : (T'.set i (tg ts i).time).length = ts.length := by simpa using hlt
        generalize htm : (tg ts i).time = tm at *
        repeat' (first | refine go ?_ | refine goX ?_ | refine goB ?_ | (refine goG ?_; intro g) | (refine goV ?_; intro v) | refine goD ?_ | refine goXD ?_ | (refine goDG ?_; intro g) | (refine goDV ?_; intro v) | (apply WC.draw (id := 1) [0, 1, 3, 4, 6, 7] (.held 0 (.held 1 (.held 3 (.held 4 (.fork 2 (.held 6 (.loud 5 (.held 7 (.done)))) 5 (.loud 2 (.held 6 (.held 7 (.done))))))))) mixed (by kernel_rfl)) | (apply WC.draw (id := 11) [0, 1, 2, 3, 4, 5, 7, 8, 9, 10, 11, 12, 13, 14, 15, 16, 17, 18, 19, 20, 21] (.held 0 (.held 1 (.held 2 (.held 3 (.held 4 (.held 5 (.loud 6 (.held 7 (.held 8 (.held 9 (.held 10 (.held 11 (.held 12 (.held 13 (.held 14 (.held 15 (.held 16 (.held 17 (.held 18 (.held 19 (.held 20 (.held 21 (.done))))))))))))))))))))))) mixed (by kernel_rfl)) | (apply WC.draw (id := 17) [0, 1, 2, 3, 4, 5, 6, 7, 8, 9] (.held 0 (.held 1 (.held 2 (.held 3 (.held 4 (.held 5 (.held 6 (.held 7 (.held 8 (.held 9 (.done))))))))))) mixed (by kernel_rfl)))
        rw [et]
        by_cases m4 : most ≤ tm
        · repeat' (first | refine go ?_ | refine goX ?_ | refine goB ?_ | (refine goG ?_; intro g) | (refine goV ?_; intro v) | refine goD ?_ | refine goXD ?_ | (refine goDG ?_; intro g) | (refine goDV ?_; intro v) | (apply WC.draw (id := 1) [0, 1, 3, 4, 6, 7] (.held 0 (.held 1 (.held 3 (.held 4 (.fork 2 (.held 6 (.loud 5 (.held 7 (.done)))) 5 (.loud 2 (.held 6 (.held 7 (.done))))))))) mixed (by kernel_rfl)) | (apply WC.draw (id := 11) [0, 1, 2, 3, 4, 5, 7, 8, 9, 10, 11, 12, 13, 14, 15, 16, 17, 18, 19, 20, 21] (.held 0 (.held 1 (.held 2 (.held 3 (.held 4 (.held 5 (.loud 6 (.held 7 (.held 8 (.held 9 (.held 10 (.held 11 (.held 12 (.held 13 (.held 14 (.held 15 (.held 16 (.held 17 (.held 18 (.held 19 (.held 20 (.held 21 (.done))))))))))))))))))))))) mixed (by kernel_rfl)) | (apply WC.draw (id := 17) [0, 1, 2, 3, 4, 5, 6, 7, 8, 9] (.held 0 (.held 1 (.held 2 (.held 3 (.held 4 (.held 5 (.held 6 (.held 7 (.held 8 (.held 9 (.done))))))))))) mixed (by kernel_rfl)))
          (apply WD.k_load; exact rfl; (apply YO.ldOv; (first | exact T.sc3 | exact T.sc4 | exact T.sc5 | exact T.sc9 | exact T.sc22 | exact T.sc23 | exact T.sc28 | exact T.sc39 | exact T.sc44 | exact T.sc46 | exact T.sc51 | exact T.sc60 | exact T.sc66 | exact T.sc72 | exact T.sc84 | exact T.sc90 | exact T.sc91 | exact T.sc106 | exact T.sc108 | exact T.sc110); exact rfl; (repeat (first | exact List.Mem.head _ | apply List.Mem.tail)); exact hci; (simp only [List.length_set]; omega)); exact rfl; exact rfl)
          repeat' (first | refine go ?_ | refine goX ?_ | refine goB ?_ | (refine goG ?_; intro g) | (refine goV ?_; intro v) | refine goD ?_ | refine goXD ?_ | (refine goDG ?_; intro g) | (refine goDV ?_; intro v) | (apply WC.draw (id := 1) [0, 1, 3, 4, 6, 7] (.held 0 (.held 1 (.held 3 (.held 4 (.fork 2 (.held 6 (.loud 5 (.held 7 (.done)))) 5 (.loud 2 (.held 6 (.held 7 (.done))))))))) mixed (by kernel_rfl)) | (apply WC.draw (id := 11) [0, 1, 2, 3, 4, 5, 7, 8, 9, 10, 11, 12, 13, 14, 15, 16, 17, 18, 19, 20, 21] (.held 0 (.held 1 (.held 2 (.held 3 (.held 4 (.held 5 (.loud 6 (.held 7 (.held 8 (.held 9 (.held 10 (.held 11 (.held 12 (.held 13 (.held 14 (.held 15 (.held 16 (.held 17 (.held 18 (.held 19 (.held 20 (.held 21 (.done))))))))))))))))))))))) mixed (by kernel_rfl)) | (apply WC.draw (id := 17) [0, 1, 2, 3, 4, 5, 6, 7, 8, 9] (.held 0 (.held 1 (.held 2 (.held 3 (.held 4 (.held 5 (.held 6 (.held 7 (.held 8 (.held 9 (.done))))))))))) mixed (by kernel_rfl)))
          rw [et]
          exact LoopEnd.mk (j + 1, cs.set i w, w) ⟨by show j + 1 ≤ ts.length; omega, by simpa using hcs⟩ (by show ts.length - (j + 1) < ts.length - j; omega) (by simp only [e, e2, if_pos m4]; rw [show (ts.length : Int) - 1 - ((j + 1 : Nat) : Int) = (i : Int) - 1 by omega]; exact (by repeat (first | exact Sub.nil _ | refine Sub.cons rfl ?_))) (by simp only [e, e2]; exact (by repeat (first | exact List.Sublist.refl _ | exact List.nil_sublist _ | apply List.Sublist.cons_cons | apply List.Sublist.cons))) (by simp only [e, e2, if_pos m4, show ts.length - (j + 1) = i by omega]; exact (by repeat (first | exact HasAll.nil | (apply HasAll.cons; (focus (apply Has.mem; (repeat (first | exact List.Mem.head _ | apply List.Mem.tail)); done))))))
        · repeat' (first | refine go ?_ | refine goX ?_ | refine goB ?_ | (refine goG ?_; intro g) | (refine goV ?_; intro v) | refine goD ?_ | refine goXD ?_ | (refine goDG ?_; intro g) | (refine goDV ?_; intro v) | (apply WC.draw (id := 1) [0, 1, 3, 4, 6, 7] (.held 0 (.held 1 (.held 3 (.held 4 (.fork 2 (.held 6 (.loud 5 (.held 7 (.done)))) 5 (.loud 2 (.held 6 (.held 7 (.done))))))))) mixed (by kernel_rfl)) | (apply WC.draw (id := 11) [0, 1, 2, 3, 4, 5, 7, 8, 9, 10, 11, 12, 13, 14, 15, 16, 17, 18, 19, 20, 21] (.held 0 (.held 1 (.held 2 (.held 3 (.held 4 (.held 5 (.loud 6 (.held 7 (.held 8 (.held 9 (.held 10 (.held 11 (.held 12 (.held 13 (.held 14 (.held 15 (.held 16 (.held 17 (.held 18 (.held 19 (.held 20 (.held 21 (.done))))))))))))))))))))))) mixed (by kernel_rfl)) | (apply WC.draw (id := 17) [0, 1, 2, 3, 4, 5, 6, 7, 8, 9] (.held 0 (.held 1 (.held 2 (.held 3 (.held 4 (.held 5 (.held 6 (.held 7 (.held 8 (.held 9 (.done))))))))))) mixed (by kernel_rfl)))
          exact LoopEnd.mk (j + 1, cs.set i w, ov) ⟨by show j + 1 ≤ ts.length; omega, by simpa using hcs⟩ (by show ts.length - (j + 1) < ts.length - j; omega) (by simp only [e, e2, if_neg m4]; rw [show (ts.length : Int) - 1 - ((j + 1 : Nat) : Int) = (i : Int) - 1 by omega]; exact (by repeat (first | exact Sub.nil _ | refine Sub.cons rfl ?_))) (by simp only [e, e2]; exact (by repeat (first | exact List.Sublist.refl _ | exact List.nil_sublist _ | apply List.Sublist.cons_cons | apply List.Sublist.cons))) (by simp only [e, e2, if_neg m4, show ts.length - (j + 1) = i by omega]; exact (by repeat (first | exact HasAll.nil | (apply HasAll.cons; (focus (apply Has.mem; (repeat (first | exact List.Mem.head _ | apply List.Mem.tail)); done))))))
      · have hnn : i < nx.toNat ∧ nx.toNat < ts.length := by omega
        have e2 : chStep ts ⟨C, T', out, most⟩ i j = ⟨C.set i ((i : Int) :: C.getD nx.toNat []), T'.set i ((tg ts i).time + T'.getD nx.toNat 0), if most ≤ (tg ts i).time + T'.getD nx.toNat 0 then (i : Int) :: C.getD nx.toNat [] else out, if most ≤ (tg ts i).time + T'.getD nx.toNat 0 then (tg ts i).time + T'.getD nx.toNat 0 else most⟩ := by
          simp only [chStep, hnx2, if_neg m2]
        have hcn : (cs.set i w).getD nx.toNat undef = cs.getD nx.toNat undef := by rw [getD_setV (by omega), if_neg (by omega)]
        have hclx := hcl nx.toNat
        have htbx := htb nx.toNat
        repeat' (first | refine go ?_ | refine goX ?_ | refine goB ?_ | (refine goG ?_; intro g) | (refine goV ?_; intro v) | refine goD ?_ | refine goXD ?_ | (refine goDG ?_; intro g) | (refine goDV ?_; intro v) | (apply WC.draw (id := 1) [0, 1, 3, 4, 6, 7] (.held 0 (.held 1 (.held 3 (.held 4 (.fork 2 (.held 6 (.loud 5 (.held 7 (.done)))) 5 (.loud 2 (.held 6 (.held 7 (.done))))))))) mixed (by kernel_rfl)) | (apply WC.draw (id := 11) [0, 1, 2, 3, 4, 5, 7, 8, 9, 10, 11, 12, 13, 14, 15, 16, 17, 18, 19, 20, 21] (.held 0 (.held 1 (.held 2 (.held 3 (.held 4 (.held 5 (.loud 6 (.held 7 (.held 8 (.held 9 (.held 10 (.held 11 (.held 12 (.held 13 (.held 14 (.held 15 (.held 16 (.held 17 (.held 18 (.held 19 (.held 20 (.held 21 (.done))))))))))))))))))))))) mixed (by kernel_rfl)) | (apply WC.draw (id := 17) [0, 1, 2, 3, 4, 5, 6, 7, 8, 9] (.held 0 (.held 1 (.held 2 (.held 3 (.held 4 (.held 5 (.held 6 (.held 7 (.held 8 (.held 9 (.done))))))))))) mixed (by kernel_rfl)))
        simp only [ints_set]
        have hT1 : (T'.set i (tg ts i).time).length = ts.length := by simpa using hlt
        have ht1 : (T'.set i (tg ts i).time).getD i 0 = (tg ts i).time := by rw [getD_set, if_pos ⟨rfl, by omega⟩]
        have ht2 : (T'.set i (tg ts i).time).getD nx.toNat 0 = T'.getD nx.toNat 0 := by rw [getD_set, if_neg (by omega)]
        have hT3 : (T'.set i (tg ts i).time).set i ((tg ts i).time + T'.getD nx.toNat 0) = T'.set i ((tg ts i).time + T'.getD nx.toNat 0) := by simp
        have hT2 : (T'.set i ((tg ts i).time + T'.getD nx.toNat 0)).length = ts.length := by simpa using hlt
        have et : (T'.set i ((tg ts i).time + T'.getD nx.toNat 0)).getD i 0 = (tg ts i).time + T'.getD nx.toNat 0 := by rw [getD_set, if_pos ⟨rfl, by omega⟩]
        generalize hT1g : T'.set i (tg ts i).time = T1 at *
        refine WC.fact (sI (cs.getD nx.toNat undef) (C.getD nx.toNat [])) (hasC (Has.mem (by (repeat (first | exact List.Mem.head _ | apply List.Mem.tail)); done)) (by omega) (by omega)) ?_
        refine WC.drawB (id := 15) [Ow.slice tv 3 1 (ints T1), Ow.slice bv 22 1 (cs.set i w)] (by repeat (first | exact List.Sublist.refl _ | exact List.nil_sublist _ | apply List.Sublist.cons_cons | apply List.Sublist.cons)) [0, 1, 4, 5, 6, 7, 8, 9, 10, 11, 13, 14, 15, 16, 17, 18, 19, 20, 22] (.free 2 (.free 3 (.held 0 (.held 1 (.held 4 (.held 5 (.held 6 (.held 7 (.held 8 (.held 9 (.held 10 (.held 11 (.held 13 (.held 14 (.held 15 (.held 16 (.held 17 (.held 18 (.held 19 (.held 20 (.free 21 (.loud 12 (.held 22 (.loud 23 (.loud 24 (.loud 25 .done)))))))))))))))))))))))))) mixed (by kernel_rfl) ?_
        (apply WD.fy; exact rfl; (apply YO.move; exact rfl); exact rfl; exact rfl)
        (apply WD.fy; exact rfl; (apply YO.move; exact rfl); exact rfl; exact rfl)
        repeat' (first | refine go ?_ | refine goX ?_ | refine goB ?_ | (refine goG ?_; intro g) | (refine goV ?_; intro v) | refine goD ?_ | refine goXD ?_ | (refine goDG ?_; intro g) | (refine goDV ?_; intro v) | (apply WC.draw (id := 1) [0, 1, 3, 4, 6, 7] (.held 0 (.held 1 (.held 3 (.held 4 (.fork 2 (.held 6 (.loud 5 (.held 7 (.done)))) 5 (.loud 2 (.held 6 (.held 7 (.done))))))))) mixed (by kernel_rfl)) | (apply WC.draw (id := 11) [0, 1, 2, 3, 4, 5, 7, 8, 9, 10, 11, 12, 13, 14, 15, 16, 17, 18, 19, 20, 21] (.held 0 (.held 1 (.held 2 (.held 3 (.held 4 (.held 5 (.loud 6 (.held 7 (.held 8 (.held 9 (.held 10 (.held 11 (.held 12 (.held 13 (.held 14 (.held 15 (.held 16 (.held 17 (.held 18 (.held 19 (.held 20 (.held 21 (.done))))))))))))))))))))))) mixed (by kernel_rfl)) | (apply WC.draw (id := 17) [0, 1, 2, 3, 4, 5, 6, 7, 8, 9] (.held 0 (.held 1 (.held 2 (.held 3 (.held 4 (.held 5 (.held 6 (.held 7 (.held 8 (.held 9 (.done))))))))))) mixed (by kernel_rfl)))
        (apply WD.k_load; exact rfl; (apply YO.ldOv; (first | exact T.sc3 | exact T.sc4 | exact T.sc5 | exact T.sc9 | exact T.sc22 | exact T.sc23 | exact T.sc28 | exact T.sc39 | exact T.sc44 | exact T.sc46 | exact T.sc51 | exact T.sc60 | exact T.sc66 | exact T.sc72 | exact T.sc84 | exact T.sc90 | exact T.sc91 | exact T.sc106 | exact T.sc108 | exact T.sc110); exact rfl; (repeat (first | exact List.Mem.head _ | apply List.Mem.tail)); exact hci; omega); exact rfl; exact rfl)
        repeat' (first | refine go ?_ | refine goX ?_ | refine goB ?_ | (refine goG ?_; intro g) | (refine goV ?_; intro v) | refine goD ?_ | refine goXD ?_ | (refine goDG ?_; intro g) | (refine goDV ?_; intro v) | (apply WC.draw (id := 1) [0, 1, 3, 4, 6, 7] (.held 0 (.held 1 (.held 3 (.held 4 (.fork 2 (.held 6 (.loud 5 (.held 7 (.done)))) 5 (.loud 2 (.held 6 (.held 7 (.done))))))))) mixed (by kernel_rfl)) | (apply WC.draw (id := 11) [0, 1, 2, 3, 4, 5, 7, 8, 9, 10, 11, 12, 13, 14, 15, 16, 17, 18, 19, 20, 21] (.held 0 (.held 1 (.held 2 (.held 3 (.held 4 (.held 5 (.loud 6 (.held 7 (.held 8 (.held 9 (.held 10 (.held 11 (.held 12 (.held 13 (.held 14 (.held 15 (.held 16 (.held 17 (.held 18 (.held 19 (.held 20 (.held 21 (.done))))))))))))))))))))))) mixed (by kernel_rfl)) | (apply WC.draw (id := 17) [0, 1, 2, 3, 4, 5, 6, 7, 8, 9] (.held 0 (.held 1 (.held 2 (.held 3 (.held 4 (.held 5 (.held 6 (.held 7 (.held 8 (.held 9 (.done))))))))))) mixed (by kernel_rfl)))
        (apply WD.k_load; exact rfl; (apply YO.ldOv; (first | exact T.sc3 | exact T.sc4 | exact T.sc5 | exact T.sc9 | exact T.sc22 | exact T.sc23 | exact T.sc28 | exact T.sc39 | exact T.sc44 | exact T.sc46 | exact T.sc51 | exact T.sc60 | exact T.sc66 | exact T.sc72 | exact T.sc84 | exact T.sc90 | exact T.sc91 | exact T.sc106 | exact T.sc108 | exact T.sc110); exact rfl; (repeat (first | exact List.Mem.head _ | apply List.Mem.tail)); exact hcn; omega); exact rfl; exact rfl)
        repeat' (first | refine go ?_ | refine goX ?_ | refine goB ?_ | (refine goG ?_; intro g) | (refine goV ?_; intro v) | refine goD ?_ | refine goXD ?_ | (refine goDG ?_; intro g) | (refine goDV ?_; intro v) | (apply WC.draw (id := 1) [0, 1, 3, 4, 6, 7] (.held 0 (.held 1 (.held 3 (.held 4 (.fork 2 (.held 6 (.loud 5 (.held 7 (.done)))) 5 (.loud 2 (.held 6 (.held 7 (.done))))))))) mixed (by kernel_rfl)) | (apply WC.draw (id := 11) [0, 1, 2, 3, 4, 5, 7, 8, 9, 10, 11, 12, 13, 14, 15, 16, 17, 18, 19, 20, 21] (.held 0 (.held 1 (.held 2 (.held 3 (.held 4 (.held 5 (.loud 6 (.held 7 (.held 8 (.held 9 (.held 10 (.held 11 (.held 12 (.held 13 (.held 14 (.held 15 (.held 16 (.held 17 (.held 18 (.held 19 (.held 20 (.held 21 (.done))))))))))))))))))))))) mixed (by kernel_rfl)) | (apply WC.draw (id := 17) [0, 1, 2, 3, 4, 5, 6, 7, 8, 9] (.held 0 (.held 1 (.held 2 (.held 3 (.held 4 (.held 5 (.held 6 (.held 7 (.held 8 (.held 9 (.done))))))))))) mixed (by kernel_rfl)))
        rw [ht1, ht2]
        (apply WD.fy; exact rfl; (apply YO.add; exact rfl; exact rfl; omega; omega); exact rfl; exact rfl)
        repeat' (first | refine go ?_ | refine goX ?_ | refine goB ?_ | (refine goG ?_; intro g) | (refine goV ?_; intro v) | refine goD ?_ | refine goXD ?_ | (refine goDG ?_; intro g) | (refine goDV ?_; intro v) | (apply WC.draw (id := 1) [0, 1, 3, 4, 6, 7] (.held 0 (.held 1 (.held 3 (.held 4 (.fork 2 (.held 6 (.loud 5 (.held 7 (.done)))) 5 (.loud 2 (.held 6 (.held 7 (.done))))))))) mixed (by kernel_rfl)) | (apply WC.draw (id := 11) [0, 1, 2, 3, 4, 5, 7, 8, 9, 10, 11, 12, 13, 14, 15, 16, 17, 18, 19, 20, 21] (.held 0 (.held 1 (.held 2 (.held 3 (.held 4 (.held 5 (.loud 6 (.held 7 (.held 8 (.held 9 (.held 10 (.held 11 (.held 12 (.held 13 (.held 14 (.held 15 (.held 16 (.held 17 (.held 18 (.held 19 (.held 20 (.held 21 (.done))))))))))))))))))))))) mixed (by kernel_rfl)) | (apply WC.draw (id := 17) [0, 1, 2, 3, 4, 5, 6, 7, 8, 9] (.held 0 (.held 1 (.held 2 (.held 3 (.held 4 (.held 5 (.held 6 (.held 7 (.held 8 (.held 9 (.done))))))))))) mixed (by kernel_rfl)))
        (apply WD.yl; exact rfl; (apply YO.ix1; exact T.s22; exact rfl; exact rfl; (apply KnS.oI; (repeat (first | exact List.Mem.head _ | apply List.Mem.tail))); omega); exact rfl; exact rfl)
        repeat' (first | refine go ?_ | refine goX ?_ | refine goB ?_ | (refine goG ?_; intro g) | (refine goV ?_; intro v) | refine goD ?_ | refine goXD ?_ | (refine goDG ?_; intro g) | (refine goDV ?_; intro v) | (apply WC.draw (id := 1) [0, 1, 3, 4, 6, 7] (.held 0 (.held 1 (.held 3 (.held 4 (.fork 2 (.held 6 (.loud 5 (.held 7 (.done)))) 5 (.loud 2 (.held 6 (.held 7 (.done))))))))) mixed (by kernel_rfl)) | (apply WC.draw (id := 11) [0, 1, 2, 3, 4, 5, 7, 8, 9, 10, 11, 12, 13, 14, 15, 16, 17, 18, 19, 20, 21] (.held 0 (.held 1 (.held 2 (.held 3 (.held 4 (.held 5 (.loud 6 (.held 7 (.held 8 (.held 9 (.held 10 (.held 11 (.held 12 (.held 13 (.held 14 (.held 15 (.held 16 (.held 17 (.held 18 (.held 19 (.held 20 (.held 21 (.done))))))))))))))))))))))) mixed (by kernel_rfl)) | (apply WC.draw (id := 17) [0, 1, 2, 3, 4, 5, 6, 7, 8, 9] (.held 0 (.held 1 (.held 2 (.held 3 (.held 4 (.held 5 (.held 6 (.held 7 (.held 8 (.held 9 (.done))))))))))) mixed (by kernel_rfl)))
        simp only [ints_set, hT3, List.set_set]
        refine WL.freezeI (l := (i : Int) :: C.getD nx.toNat []) (by repeat (first | exact Sel.head | apply Sel.tail)) ?_
        refine WL.fact (sC (cs.set i v) (C.set i ((i : Int) :: C.getD nx.toNat [])) i) (sC_step (Has.mem (by (repeat (first | exact List.Mem.head _ | apply List.Mem.tail)); done)) (Has.mem (by (repeat (first | exact List.Mem.head _ | apply List.Mem.tail)); done)) (by omega) (by omega)) ?_
        have hci2 : (cs.set i v).getD i undef = v := by rw [getD_setV (by omega), if_pos rfl]
        have hcs2 : (cs.set i v).length = ts.length := by simpa using hcs
        generalize htm : (tg ts i).time + T'.getD nx.toNat 0 = tm at *
        repeat' (first | refine go ?_ | refine goX ?_ | refine goB ?_ | (refine goG ?_; intro g) | (refine goV ?_; intro v) | refine goD ?_ | refine goXD ?_ | (refine goDG ?_; intro g) | (refine goDV ?_; intro v) | (apply WC.draw (id := 1) [0, 1, 3, 4, 6, 7] (.held 0 (.held 1 (.held 3 (.held 4 (.fork 2 (.held 6 (.loud 5 (.held 7 (.done)))) 5 (.loud 2 (.held 6 (.held 7 (.done))))))))) mixed (by kernel_rfl)) | (apply WC.draw (id := 11) [0, 1, 2, 3, 4, 5, 7, 8, 9, 10, 11, 12, 13, 14, 15, 16, 17, 18, 19, 20, 21] (.held 0 (.held 1 (.held 2 (.held 3 (.held 4 (.held 5 (.loud 6 (.held 7 (.held 8 (.held 9 (.held 10 (.held 11 (.held 12 (.held 13 (.held 14 (.held 15 (.held 16 (.held 17 (.held 18 (.held 19 (.held 20 (.held 21 (.done))))))))))))))))))))))) mixed (by kernel_rfl)) | (apply WC.draw (id := 17) [0, 1, 2, 3, 4, 5, 6, 7, 8, 9] (.held 0 (.held 1 (.held 2 (.held 3 (.held 4 (.held 5 (.held 6 (.held 7 (.held 8 (.held 9 (.done))))))))))) mixed (by kernel_rfl)))
        rw [et]
        by_cases m4 : most ≤ tm
        · repeat' (first | refine go ?_ | refine goX ?_ | refine goB ?_ | (refine goG ?_; intro g) | (refine goV ?_; intro v) | refine goD ?_ | refine goXD ?_ | (refine goDG ?_; intro g) | (refine goDV ?_; intro v) | (apply WC.draw (id := 1) [0, 1, 3, 4, 6, 7] (.held 0 (.held 1 (.held 3 (.held 4 (.fork 2 (.held 6 (.loud 5 (.held 7 (.done)))) 5 (.loud 2 (.held 6 (.held 7 (.done))))))))) mixed (by kernel_rfl)) | (apply WC.draw (id := 11) [0, 1, 2, 3, 4, 5, 7, 8, 9, 10, 11, 12, 13, 14, 15, 16, 17, 18, 19, 20, 21] (.held 0 (.held 1 (.held 2 (.held 3 (.held 4 (.held 5 (.loud 6 (.held 7 (.held 8 (.held 9 (.held 10 (.held 11 (.held 12 (.held 13 (.held 14 (.held 15 (.held 16 (.held 17 (.held 18 (.held 19 (.held 20 (.held 21 (.done))))))))))))))))))))))) mixed (by kernel_rfl)) | (apply WC.draw (id := 17) [0, 1, 2, 3, 4, 5, 6, 7, 8, 9] (.held 0 (.held 1 (.held 2 (.held 3 (.held 4 (.held 5 (.held 6 (.held 7 (.held 8 (.held 9 (.done))))))))))) mixed (by kernel_rfl)))
          (apply WD.k_load; exact rfl; (apply YO.ldOv; (first | exact T.sc3 | exact T.sc4 | exact T.sc5 | exact T.sc9 | exact T.sc22 | exact T.sc23 | exact T.sc28 | exact T.sc39 | exact T.sc44 | exact T.sc46 | exact T.sc51 | exact T.sc60 | exact T.sc66 | exact T.sc72 | exact T.sc84 | exact T.sc90 | exact T.sc91 | exact T.sc106 | exact T.sc108 | exact T.sc110); exact rfl; (repeat (first | exact List.Mem.head _ | apply List.Mem.tail)); exact hci2; (simp only [List.length_set]; omega)); exact rfl; exact rfl)
          repeat' (first | refine go ?_ | refine goX ?_ | refine goB ?_ | (refine goG ?_; intro g) | (refine goV ?_; intro v) | refine goD ?_ | refine goXD ?_ | (refine goDG ?_; intro g) | (refine goDV ?_; intro v) | (apply WC.draw (id := 1) [0, 1, 3, 4, 6, 7] (.held 0 (.held 1 (.held 3 (.held 4 (.fork 2 (.held 6 (.loud 5 (.held 7 (.done)))) 5 (.loud 2 (.held 6 (.held 7 (.done))))))))) mixed (by kernel_rfl)) | (apply WC.draw (id := 11) [0, 1, 2, 3, 4, 5, 7, 8, 9, 10, 11, 12, 13, 14, 15, 16, 17, 18, 19, 20, 21] (.held 0 (.held 1 (.held 2 (.held 3 (.held 4 (.held 5 (.loud 6 (.held 7 (.held 8 (.held 9 (.held 10 (.held 11 (.held 12 (.held 13 (.held 14 (.held 15 (.held 16 (.held 17 (.held 18 (.held 19 (.held 20 (.held 21 (.done))))))))))))))))))))))) mixed (by kernel_rfl)) | (apply WC.draw (id := 17) [0, 1, 2, 3, 4, 5, 6, 7, 8, 9] (.held 0 (.held 1 (.held 2 (.held 3 (.held 4 (.held 5 (.held 6 (.held 7 (.held 8 (.held 9 (.done))))))))))) mixed (by kernel_rfl)))
          rw [et]
          exact LoopEnd.mk (j + 1, cs.set i v, v) ⟨by show j + 1 ≤ ts.length; omega, by simpa using hcs⟩ (by show ts.length - (j + 1) < ts.length - j; omega) (by simp only [e, e2, if_pos m4]; rw [show (ts.length : Int) - 1 - ((j + 1 : Nat) : Int) = (i : Int) - 1 by omega]; exact (by repeat (first | exact Sub.nil _ | refine Sub.cons rfl ?_))) (by simp only [e, e2]; exact (by repeat (first | exact List.Sublist.refl _ | exact List.nil_sublist _ | apply List.Sublist.cons_cons | apply List.Sublist.cons))) (by simp only [e, e2, if_pos m4, show ts.length - (j + 1) = i by omega]; exact (by repeat (first | exact HasAll.nil | (apply HasAll.cons; (focus (apply Has.mem; (repeat (first | exact List.Mem.head _ | apply List.Mem.tail)); done))))))
        · repeat' (first | refine go ?_ | refine goX ?_ | refine goB ?_ | (refine goG ?_; intro g) | (refine goV ?_; intro v) | refine goD ?_ | refine goXD ?_ | (refine goDG ?_; intro g) | (refine goDV ?_; intro v) | (apply WC.draw (id := 1) [0, 1, 3, 4, 6, 7] (.held 0 (.held 1 (.held 3 (.held 4 (.fork 2 (.held 6 (.loud 5 (.held 7 (.done)))) 5 (.loud 2 (.held 6 (.held 7 (.done))))))))) mixed (by kernel_rfl)) | (apply WC.draw (id := 11) [0, 1, 2, 3, 4, 5, 7, 8, 9, 10, 11, 12, 13, 14, 15, 16, 17, 18, 19, 20, 21] (.held 0 (.held 1 (.held 2 (.held 3 (.held 4 (.held 5 (.loud 6 (.held 7 (.held 8 (.held 9 (.held 10 (.held 11 (.held 12 (.held 13 (.held 14 (.held 15 (.held 16 (.held 17 (.held 18 (.held 19 (.held 20 (.held 21 (.done))))))))))))))))))))))) mixed (by kernel_rfl)) | (apply WC.draw (id := 17) [0, 1, 2, 3, 4, 5, 6, 7, 8, 9] (.held 0 (.held 1 (.held 2 (.held 3 (.held 4 (.held 5 (.held 6 (.held 7 (.held 8 (.held 9 (.done))))))))))) mixed (by kernel_rfl)))
          exact LoopEnd.mk (j + 1, cs.set i v, ov) ⟨by show j + 1 ≤ ts.length; omega, by simpa using hcs⟩ (by show ts.length - (j + 1) < ts.length - j; omega) (by simp only [e, e2, if_neg m4]; rw [show (ts.length : Int) - 1 - ((j + 1 : Nat) : Int) = (i : Int) - 1 by omega]; exact (by repeat (first | exact Sub.nil _ | refine Sub.cons rfl ?_))) (by simp only [e, e2]; exact (by repeat (first | exact List.Sublist.refl _ | exact List.nil_sublist _ | apply List.Sublist.cons_cons | apply List.Sublist.cons))) (by simp only [e, e2, if_neg m4, show ts.length - (j + 1) = i by omega]; exact (by repeat (first | exact HasAll.nil | (apply HasAll.cons; (focus (apply Has.mem; (repeat (first | exact List.Mem.head _ | apply List.Mem.tail)); done))))))
  · obtain rfl : d = ts.length := by omega
    repeat' (first | refine go ?_ | refine goX ?_ | refine goB ?_ | (refine goG ?_; intro g) | (refine goV ?_; intro v) | refine goD ?_ | refine goXD ?_ | (refine goDG ?_; intro g) | (refine goDV ?_; intro v) | (apply WC.draw (id := 1) [0, 1, 3, 4, 6, 7] (.held 0 (.held 1 (.held 3 (.held 4 (.fork 2 (.held 6 (.loud 5 (.held 7 (.done)))) 5 (.loud 2 (.held 6 (.held 7 (.done))))))))) mixed (by kernel_rfl)) | (apply WC.draw (id := 11) [0, 1, 2, 3, 4, 5, 7, 8, 9, 10, 11, 12, 13, 14, 15, 16, 17, 18, 19, 20, 21] (.held 0 (.held 1 (.held 2 (.held 3 (.held 4 (.held 5 (.loud 6 (.held 7 (.held 8 (.held 9 (.held 10 (.held 11 (.held 12 (.held 13 (.held 14 (.held 15 (.held 16 (.held 17 (.held 18 (.held 19 (.held 20 (.held 21 (.done))))))))))))))))))))))) mixed (by kernel_rfl)) | (apply WC.draw (id := 17) [0, 1, 2, 3, 4, 5, 6, 7, 8, 9] (.held 0 (.held 1 (.held 2 (.held 3 (.held 4 (.held 5 (.held 6 (.held 7 (.held 8 (.held 9 (.done))))))))))) mixed (by kernel_rfl)))
    refine WC.ret ?_
    exact Fin.p [] [sI ov out] (ResE.t2 rfl rfl rfl) (by (repeat (first | exact List.Mem.head _ | apply List.Mem.tail)); done) (List.nil_sublist _) (by repeat (first | exact HasAll.nil | (apply HasAll.cons; (first | (focus (apply Has.mem; (repeat (first | exact List.Mem.head _ | apply List.Mem.tail)); done)) | (focus (apply hasA; (focus (apply Has.mem; (repeat (first | exact List.Mem.head _ | apply List.Mem.tail)); done)); omega; done)) | (focus (apply Has.sc; (focus (apply Has.mem; (repeat (first | exact List.Mem.head _ | apply List.Mem.tail)); done)); omega; omega; omega; done)))))) ⟨ov, by simp only [hS], rfl, by simp only [hS]⟩
end Go.Proofs.Ytgacbfckaglhbaa
namespace Go.Proofs.Ytgacbfckaglhbaa
open W Go.RowKit

abbrev zer : List Int := List.replicate 26 0
section
variable {e : Env} {bx : List Ow} {F : List Fct} {ty : TypeId} {x y : Operand} {v : Value} {M n : Nat} {a b : Int}
theorem YO.ldW0 {P : Program} {t tg g m : Nat} {cs : List Value} (hs : Row P t m) (hx : ev e x = some (.pointer (some ⟨g, 0, none⟩))) (hb : Ow.cells g tg cs ∈ bx) (hm : cs.length = m) : YO P (.load t x) ty e bx F (.agg cs.toArray) := YO.ldRB hs hx hb hm (by subst hm; simp)
theorem YO.build70 : YO Try.prog (.build 70 #[]) ty e bx F (.agg (ints zer).toArray) := YO.build (parts := []) .nil fun w => run_build w 70 _ _ (by kernel_rfl)
theorem YO.build53 (hx : ev e x = some (.int .i64 a)) (hy : ev e y = some (.int .i64 b)) : YO Try.prog (.build 53 #[(1, x), (2, y)]) ty e bx F (.agg [Value.slice none 0 0, .int .i64 a, .int .i64 b].toArray) :=
  YO.build (parts := [(1, x), (2, y)]) (.cons hx (.cons hy .nil)) fun w => run_build w 53 _ _ (by kernel_rfl)
theorem YO.build530 : YO Try.prog (.build 53 #[]) ty e bx F (.agg [Value.slice none 0 0, .int .i64 0, .int .i64 0].toArray) := YO.build (parts := []) .nil fun w => run_build w 53 _ _ (by kernel_rfl)
theorem YO.build74 (hx : ev e x = some v) (hy : ev e y = some (.int .i64 (M : Int))) (hv : KnS bx F v n) : YO Try.prog (.build 74 #[(0, x), (1, y)]) ty e bx F (.agg (srch v M 0 zer (.map none)).toArray) := fun k fr ac w o hop hty hk ho => by
  obtain ⟨a', cap, rfl, _⟩ := (hv fr w ho).is
  exact (YO.build (P := Try.prog) (bx := bx) (F := F) (ty := ty) (parts := [(0, x), (1, y)]) (.cons hx (.cons hy .nil)) fun w => run_build w 74 _ (srch (.slice a' n cap) M 0 zer (.map none)).toArray (by kernel_rfl)) k fr ac w o hop hty hk ho
variable {P : Program} {fn : Func}
theorem ResE.c2 {t s : Tmp} {tt tg g m : Nat} {u : Value} {cs : List Value} (h : fn.results = #[.cell t tt, .tmp s]) (hl : W.look e t = some (.pointer (some ⟨g, 0, none⟩))) (hb : Ow.cells g tg cs ∈ bx) (hr : Row P tt m) (hm : cs.length = m) (hl2 : W.look e s = some u) : ResE P fn e bx F (.tuple #[.agg cs.toArray, u]) := fun n fr a w hk ho => by
  obtain ⟨⟨d, hu, hd⟩, hi⟩ := hr
  have h1 : a.tmps[t]?.getD undef = .pointer (some ⟨g, 0, none⟩) := by rw [hk.at' _ _ hl]; rfl
  have h3 : a.tmps[s]?.getD undef = u := by rw [hk.at' _ _ hl2]; rfl
  have h2 := run_loadVar_mid (P := P) w g 0 tt cs d (fun i v hv => by rw [Nat.zero_add, own_cell (ho.owns _ hb)]; exact hv) hu hd (by rw [hi]; simp [hm])
  simp only [results, h]
  simp [h1, asAddr, h2, h3]
end

theorem zer_ok : PlOK zer := ⟨rfl, fun j => by simp only [List.getD_eq_getElem?_getD, List.getElem?_replicate]; split <;> simp⟩
def bStep (ts : List Tk) (M : Nat) (s : Bool × Int × Int) (n : Nat) : (Bool × Int × Int) × Bool := if s.2.2 < loadP ts M zer n then ((false, (n : Int), loadP ts M zer n), true) else (s, true)
def boundS (ts : List Tk) (M : Nat) : Bool × Int × Int := setsF (bStep ts M) (2 ^ M - 1) 1 (true, 0, (chainP ts).2)
/-- the chain, the set, the least length -/
def boundP (ts : List Tk) (M : Nat) : List Int × Int × Int := (if (boundS ts M).1 then (chainP ts).1 else [], (boundS ts M).2.1, (boundS ts M).2.2)
def IsBd (r : List Int × Int × Int) (er : Int) : RPost := fun v b G => ∃ c, v = .tuple #[.agg [c, .int .i64 r.2.1, .int .i64 r.2.2].toArray, .int .i64 er] ∧ b = [Ow.slice c 3 1 (ints r.1)] ∧ G = []
abbrev bCell (o : Value) (s : Bool × Int × Int) : List Value := [if s.1 then o else .slice none 0 0, .int .i64 s.2.1, .int .i64 s.2.2]
attribute [local irreducible] WC WL WD YO LO LoopEnd W.Fin Scalar SliceT FieldAt Row ArrT AllocT KnS Has W.One SrcE IntT

theorem goB {G G' : Prop} (h : G') (s : Bx G' → G := by
  intro h
  first
    | (apply WL.k_build; (first | apply YO.build70 | (apply YO.build53; exact rfl; exact rfl) | apply YO.build530 | (apply YO.build74; exact rfl; exact rfl; (first | (focus (apply KnS.f; (focus (apply Has.mem; (repeat (first | exact List.Mem.head _ | apply List.Mem.tail)); done)); done)) | (focus (apply KnS.oI; (repeat (first | exact List.Mem.head _ | apply List.Mem.tail)); done)) | (focus (apply KnS.o1; (repeat (first | exact List.Mem.head _ | apply List.Mem.tail)); done)) | (focus (apply KnS.f; apply hasA; (focus (apply Has.mem; (repeat (first | exact List.Mem.head _ | apply List.Mem.tail)); done)); omega; done))))); exact rfl; exact rfl)
    | (apply WD.k_build; exact rfl; (first | apply YO.build70 | (apply YO.build53; exact rfl; exact rfl) | apply YO.build530 | (apply YO.build74; exact rfl; exact rfl; (first | (focus (apply KnS.f; (focus (apply Has.mem; (repeat (first | exact List.Mem.head _ | apply List.Mem.tail)); done)); done)) | (focus (apply KnS.oI; (repeat (first | exact List.Mem.head _ | apply List.Mem.tail)); done)) | (focus (apply KnS.o1; (repeat (first | exact List.Mem.head _ | apply List.Mem.tail)); done)) | (focus (apply KnS.f; apply hasA; (focus (apply Has.mem; (repeat (first | exact List.Mem.head _ | apply List.Mem.tail)); done)); omega; done))))); exact rfl; exact rfl)
  exact Bx.h h) : G := s ⟨h⟩

set_option maxHeartbeats 1000000 in
set_option maxRecDepth 4000 in
theorem bound1_c (s gs gp : Nat) (v o : Value) (avs : List Value) (ts : List Tk) (M : Nat) (hg : AllGood M ts) (hn : ts.length ≤ 10) (hM : M ≤ 4) (ol : List Int) (st : Bool × Int × Int) (on : Nat) (h1 : 1 ≤ on) (h2 : on < 16) :
    FnB Try.prog 47 ([.int .i64 on] ++ [ptr gs, ptr gp]) [Ow.cells gp 53 (bCell o st)] [ce gs 66 [ptr s], ce s 74 (srch v M 0 zer (.map none)), sT v avs ts, sA avs ts, sI o ol]
      (IsB (.bool (bStep ts M st on).2) [Ow.cells gp 53 (bCell o (bStep ts M st on).1)]) := by
  obtain ⟨b, x, l⟩ := st
  show FnB Try.prog 47 _ [Ow.cells gp 53 [if b then o else .slice none 0 0, .int .i64 x, .int .i64 l]] _ _
  refine fn_of [(0, .int .i64 on), (1, ptr gs), (2, ptr gp)] 18 Try.func47 rfl Try.ntmps47 (by kernel_rfl) rfl (by repeat (first | exact Sub.nil _ | refine Sub.cons rfl ?_)) fun h0 => ?_
  repeat' (first | refine go ?_ | refine goX ?_ | refine goB ?_ | (refine goG ?_; intro g) | (refine goV ?_; intro v))
  have hzl : zer.length = 26 := rfl
  first | refine WL.callV (load_c s g v (.map none) avs ts M 0 zer zer on hg hn hM hzl zer_ok h1 h2) ?_ | refine WD.callV (load_c s g v (.map none) avs ts M 0 zer zer on hg hn hM hzl zer_ok h1 h2) ?_
  by_cases c : l < loadP ts M zer on
  · have e : bStep ts M (b, x, l) on = ((false, (on : Int), loadP ts M zer on), true) := by rw [bStep, if_pos c]
    rw [e]
    repeat' (first | refine go ?_ | refine goX ?_ | refine goB ?_ | (refine goG ?_; intro g) | (refine goV ?_; intro v))
    refine WC.ret ?_
    exact Fin.p [Ow.cells gp 53 (bCell o (false, (on : Int), loadP ts M zer on))] [] (ResE.t1 rfl rfl) (by (repeat (first | exact List.Mem.head _ | apply List.Mem.tail)); done) (by repeat (first | exact List.Sublist.refl _ | exact List.nil_sublist _ | apply List.Sublist.cons_cons | apply List.Sublist.cons)) .nil ⟨rfl, rfl, rfl⟩
  · have e : bStep ts M (b, x, l) on = ((b, x, l), true) := by rw [bStep, if_neg c]
    rw [e]
    repeat' (first | refine go ?_ | refine goX ?_ | refine goB ?_ | (refine goG ?_; intro g) | (refine goV ?_; intro v))
    refine WC.ret ?_
    exact Fin.p [Ow.cells gp 53 (bCell o (b, x, l))] [] (ResE.t1 rfl rfl) (by (repeat (first | exact List.Mem.head _ | apply List.Mem.tail)); done) (by repeat (first | exact List.Sublist.refl _ | exact List.nil_sublist _ | apply List.Sublist.cons_cons | apply List.Sublist.cons)) .nil ⟨rfl, rfl, rfl⟩

set_option maxHeartbeats 2000000 in
set_option maxRecDepth 4000 in
theorem bound_c (v : Value) (avs : List Value) (ts : List Tk) (m : Int) (hi64 : TI64 ts) :
    FnB Try.prog 26 [v, .int .i64 m] [] [sT v avs ts, sA avs ts] (IsBd (if validE ts m = 0 then boundP ts m.toNat else ([], 0, 0)) (validE ts m)) := by
  refine fn_of [(0, v), (1, .int .i64 m)] 35 Try.func26 rfl Try.ntmps26 (by kernel_rfl) rfl (by repeat (first | exact Sub.nil _ | refine Sub.cons rfl ?_)) fun h0 => ?_
  repeat' (first | refine go ?_ | refine goX ?_ | refine goB ?_ | (refine goG ?_; intro g) | (refine goV ?_; intro v))
  first | refine WL.callV (valid_c v avs ts m hi64) ?_ | refine WD.callV (valid_c v avs ts m hi64) ?_
  by_cases h : validE ts m = 0
  · rw [h]
    obtain ⟨hl, M, rfl, hM1, hM4, hg⟩ := validE_0 h
    rw [if_pos rfl, show (M : Int).toNat = M from rfl]
    revert g; intro gr
    repeat' (first | refine go ?_ | refine goX ?_ | refine goB ?_ | (refine goG ?_; intro g) | (refine goV ?_; intro v))
    revert g; intro gp
    refine WL.callG [] _ (List.Perm.refl _) (chain_c v avs ts M hg hl) ?_
    rintro _ _ _ ⟨o, rfl, rfl, rfl⟩
    rw [List.nil_append, List.singleton_append]
    repeat' (first | refine go ?_ | refine goX ?_ | refine goB ?_ | (refine goG ?_; intro g) | (refine goV ?_; intro v))
    rename_i s0
    refine WL.keep (t := 66) (by repeat (first | exact Rem.head | apply Rem.tail)) ?_
    refine WL.keep (t := 74) (by repeat (first | exact Rem.head | apply Rem.tail)) ?_
    have hpw : 2 ^ M ≤ 16 := by
      have : M = 0 ∨ M = 1 ∨ M = 2 ∨ M = 3 ∨ M = 4 := by omega
      rcases this with rfl | rfl | rfl | rfl | rfl <;> decide
    have hs := sets_c M hM4 47 [ptr g, ptr gp] [ce g 66 [ptr s0], ce s0 74 (srch v M 0 zer (.map none)), sT v avs ts, sA avs ts, sI o (chainP ts).1] (fun st : Bool × Int × Int => [Ow.cells gp 53 (bCell o st)]) (fun _ => True) (bStep ts M) (fun _ _ _ _ _ => trivial)
      (fun st on _ h1 h2 => bound1_c s0 g gp v o avs ts M hg hl hM4 (chainP ts).1 st on h1 (by omega)) (true, 0, (chainP ts).2) trivial
    refine WL.callG [Ow.cells gp 53 (bCell o (true, 0, (chainP ts).2))] [Ow.cells gr 53 [.slice none 0 0, .int .i64 0, .int .i64 0]] (.refl _) hs ?_
    rintro _ _ _ ⟨rfl, rfl, rfl⟩
    rw [List.nil_append, List.singleton_append]
    have hbp : boundP ts M = (if (boundS ts M).1 then (chainP ts).1 else [], (boundS ts M).2.1, (boundS ts M).2.2) := rfl
    rw [hbp]
    change WL _ _ _ _ _ [Ow.cells gp 53 (bCell o (boundS ts M)), _] _ _
    have hol : (chainP ts).1.length ≤ 100 := by have := (chS_ok (good_time hg) ts.length).ol; show (chS ts ts.length).out.length ≤ 100; omega
    generalize boundS ts M = r
    obtain ⟨b, x, l⟩ := r
    cases b with
    | true =>
      change WL _ _ _ _ _ [Ow.cells gp 53 [o, .int .i64 x, .int .i64 l], _] _ _
      repeat' (first | refine go ?_ | refine goX ?_ | refine goB ?_ | (refine goG ?_; intro g) | (refine goV ?_; intro v))
      first | refine WL.callO (clone_c o (chainP ts).1 hol) (fun rv => ?_) | refine WD.callO (clone_c o (chainP ts).1 hol) (fun rv => ?_)
      repeat' (first | refine go ?_ | refine goX ?_ | refine goB ?_ | (refine goG ?_; intro g) | (refine goV ?_; intro v))
      (apply WL.k_load; (apply YO.ldW0; exact T.r53; exact rfl; (repeat (first | exact List.Mem.head _ | apply List.Mem.tail)); exact rfl); exact rfl; exact rfl)
      repeat' (first | refine go ?_ | refine goX ?_ | refine goB ?_ | (refine goG ?_; intro g) | (refine goV ?_; intro v))
      refine WC.ret ?_
      exact Fin.p [Ow.slice rv 3 1 (ints (chainP ts).1)] [] (ResE.c2 rfl rfl (by (repeat (first | exact List.Mem.head _ | apply List.Mem.tail)); done) T.r53 rfl rfl) (by (repeat (first | exact List.Mem.head _ | apply List.Mem.tail)); done) (by repeat (first | exact List.Sublist.refl _ | exact List.nil_sublist _ | apply List.Sublist.cons_cons | apply List.Sublist.cons)) .nil ⟨_, rfl, rfl, rfl⟩
    | false =>
      change WL _ _ _ _ _ [Ow.cells gp 53 [.slice none 0 0, .int .i64 x, .int .i64 l], _] _ _
      refine WL.fact (sI (.slice none 0 0) []) sI_nil ?_
      repeat' (first | refine go ?_ | refine goX ?_ | refine goB ?_ | (refine goG ?_; intro g) | (refine goV ?_; intro v))
      first | refine WL.callO (clone_c (.slice none 0 0) [] (by simp)) (fun rv => ?_) | refine WD.callO (clone_c (.slice none 0 0) [] (by simp)) (fun rv => ?_)
      repeat' (first | refine go ?_ | refine goX ?_ | refine goB ?_ | (refine goG ?_; intro g) | (refine goV ?_; intro v))
      (apply WL.k_load; (apply YO.ldW0; exact T.r53; exact rfl; (repeat (first | exact List.Mem.head _ | apply List.Mem.tail)); exact rfl); exact rfl; exact rfl)
      repeat' (first | refine go ?_ | refine goX ?_ | refine goB ?_ | (refine goG ?_; intro g) | (refine goV ?_; intro v))
      refine WC.ret ?_
      exact Fin.p [Ow.slice rv 3 1 (ints [])] [] (ResE.c2 rfl rfl (by (repeat (first | exact List.Mem.head _ | apply List.Mem.tail)); done) T.r53 rfl rfl) (by (repeat (first | exact List.Mem.head _ | apply List.Mem.tail)); done) (by repeat (first | exact List.Sublist.refl _ | exact List.nil_sublist _ | apply List.Sublist.cons_cons | apply List.Sublist.cons)) .nil ⟨_, rfl, rfl, rfl⟩
  · rw [if_neg h]
    repeat' (first | refine go ?_ | refine goX ?_ | refine goB ?_ | (refine goG ?_; intro g) | (refine goV ?_; intro v))
    refine WC.addNil 3 1 (WC.ret ?_)
    exact Fin.p [Ow.slice (.slice none 0 0) 3 1 (ints [])] [] (ResE.c2 rfl rfl (by (repeat (first | exact List.Mem.head _ | apply List.Mem.tail)); done) T.r53 rfl rfl) (by (repeat (first | exact List.Mem.head _ | apply List.Mem.tail)); done) (by repeat (first | exact List.Sublist.refl _ | exact List.nil_sublist _ | apply List.Sublist.cons_cons | apply List.Sublist.cons)) .nil ⟨_, rfl, rfl, rfl⟩
end Go.Proofs.Ytgacbfckaglhbaa
namespace Go.Proofs.Ytgacbfckaglhbaa
open W Go.RowKit

theorem Has.scS {F : List Fct} {s n cap q : Nat} {t : TypeId} {v mp : Value} {M : Nat} {goal : Int} {B : List Int} (hb : Has F (ce s t (srch v M goal B mp))) (hB : B.length = 26) (hq : q + n ≤ 26) (hn : n ≤ cap) (hc : cap ≤ 1000000) : Has F (sI (.slice (some ⟨s, 3 + q, none⟩) n cap) ((B.drop q).take n)) := by
  unfold Has at *
  intro ph hf
  have hp := hb ph hf
  have hl : ((B.drop q).take n).length = n := by simp; omega
  show (slC _ ((B.drop q).take n).length 1 _).p ph
  rw [hl]
  refine ⟨_, cap, rfl, hn, by unfold maxLen; omega, .inr ⟨s, 3 + q, rfl, _, t, _, hp, fun j hj => ?_⟩⟩
  rw [List.getElem?_toArray, Nat.add_assoc, srch_b hB (by omega)]
  simp only [List.getD_eq_getElem?_getD, List.getElem?_take, List.getElem?_drop]
  rw [if_pos (by omega)]
/-- 0, 1, .. in the first k places -/
def fillN (n : Nat) : Nat → List Int
  | 0 => List.replicate n 0
  | k + 1 => (fillN n k).set k (k : Int)
theorem fillN_len {n : Nat} : ∀ k, (fillN n k).length = n
  | 0 => by simp [fillN]
  | k + 1 => by simp [fillN, fillN_len k]
theorem fillN_get {n : Nat} : ∀ k j, j < n → k ≤ n → (fillN n k).getD j 0 = if j < k then (j : Int) else 0
  | 0, j, _, _ => by simp only [fillN, List.getD_eq_getElem?_getD, List.getElem?_replicate]; split <;> simp
  | k + 1, j, hj, hk => by
    rw [fillN, getD_set, fillN_len, fillN_get k j hj (by omega)]
    by_cases h : k = j
    · subst h; simp; omega
    · rw [if_neg (fun h' => h h'.1)]
      by_cases h2 : j < k
      · rw [if_pos h2, if_pos (by omega)]
      · rw [if_neg h2, if_neg (by omega)]

/-- the search's end -/
def bestS (ts : List Tk) (M : Nat) : RS := runP ts M (boundP ts M).2.2 (ts.length + 1) zer (lisN ts M (fillN ts.length ts.length) ts.length, [])
def bestP (ts : List Tk) (m : Int) : List Int × List Int × Int × Int := (((bestS ts m.toNat).1.drop 0).take ts.length, ((bestS ts m.toNat).1.drop 10).take ts.length, (bestS ts m.toNat).1.getD 25 0, 0)
theorem und_zer (n : Nat) : und zer n = n := by
  induction n with
  | zero => rfl
  | succ n ih =>
    have : zer.getD 24 0 = 0 := rfl
    rw [und, ih, if_pos]
    unfold undB bitI; rw [this]; simp
theorem PI_zer {ts : List Tk} (hn : ts.length ≤ 10) : PI ts zer := ⟨⟨0, ⟨rfl, fun j _ => by simp only [List.getD_eq_getElem?_getD, List.getElem?_replicate]; split <;> simp, by decide⟩, by omega, by rw [und_zer]; omega⟩, by
  have : zer.getD 24 0 = 0 := rfl
  rw [this]; exact Int.pow_pos (by decide)⟩
section
variable {e : Env} {bx : List Ow} {F : List Fct} {ty : TypeId} {x1 x2 x3 x4 x5 : Operand} {v : Value} {M n m : Nat} {goal : Int} {B : List Int}
theorem YO.build74s (h1 : ev e x1 = some v) (h2 : ev e x2 = some (.int .i64 (M : Int))) (h3 : ev e x3 = some (.int .i64 goal)) (h4 : ev e x4 = some (.agg (ints B).toArray)) (h5 : ev e x5 = some (.map (some m))) (hv : KnS bx F v n) (hB : B.length = 26) :
    YO Try.prog (.build 74 #[(0, x1), (1, x2), (2, x3), (3, x4), (4, x5)]) ty e bx F (.agg (srch v M goal B (.map (some m))).toArray) := fun k fr ac w o hop hty hk ho => by
  obtain ⟨a', cap, rfl, _⟩ := (hv fr w ho).is
  obtain ⟨b0, b1, b2, b3, b4, b5, b6, b7, b8, b9, b10, b11, b12, b13, b14, b15, b16, b17, b18, b19, b20, b21, b22, b23, b24, b25, rfl⟩ : ∃ b0 b1 b2 b3 b4 b5 b6 b7 b8 b9 b10 b11 b12 b13 b14 b15 b16 b17 b18 b19 b20 b21 b22 b23 b24 b25, B = [b0, b1, b2, b3, b4, b5, b6, b7, b8, b9, b10, b11, b12, b13, b14, b15, b16, b17, b18, b19, b20, b21, b22, b23, b24, b25] := by
    match B, hB with
    | [b0, b1, b2, b3, b4, b5, b6, b7, b8, b9, b10, b11, b12, b13, b14, b15, b16, b17, b18, b19, b20, b21, b22, b23, b24, b25], _ => exact ⟨_, _, _, _, _, _, _, _, _, _, _, _, _, _, _, _, _, _, _, _, _, _, _, _, _, _, rfl⟩
  refine (YO.build (P := Try.prog) (bx := bx) (F := F) (ty := ty) (parts := [(0, x1), (1, x2), (2, x3), (3, x4), (4, x5)]) (.cons h1 (.cons h2 (.cons h3 (.cons h4 (.cons h5 .nil))))) fun w => run_build w 74 _ (srch (.slice a' n cap) M goal _ (.map (some m))).toArray (by kernel_rfl)) k fr ac w o hop hty hk ho
end
attribute [local irreducible] WC WL WD YO LO LoopEnd W.Fin Scalar SliceT FieldAt Row ArrT AllocT KnS Has W.One SrcE IntT
theorem goE {G G' : Prop} (h : G') (s : Bx G' → G := by
  intro h
  (apply WD.k_build; exact rfl; (apply YO.build74s; exact rfl; exact rfl; exact rfl; exact rfl; exact rfl; (first | (focus (apply KnS.f; (focus (apply Has.mem; (repeat (first | exact List.Mem.head _ | apply List.Mem.tail)); done)); done)) | (focus (apply KnS.oI; (repeat (first | exact List.Mem.head _ | apply List.Mem.tail)); done)) | (focus (apply KnS.o1; (repeat (first | exact List.Mem.head _ | apply List.Mem.tail)); done)) | (focus (apply KnS.f; apply hasA; (focus (apply Has.mem; (repeat (first | exact List.Mem.head _ | apply List.Mem.tail)); done)); omega; done))); omega); exact rfl; exact rfl)
  exact Bx.h h) : G := s ⟨h⟩

set_option maxRecDepth 4000 in
theorem lists2_c (s : Nat) (v mp : Value) (M : Nat) (goal : Int) (L : List Int) (n : Nat) (hn : n ≤ 10) (hL : L.length = 26) :
    FnB Try.prog 34 [.pointer (some ⟨s, 3, none⟩), .int .i64 n] [] [ce s 74 (srch v M goal L mp)] (IsL ((L.drop 0).take n, (L.drop 10).take n, L.getD 25 0, 0)) := by
  refine fn_of [(0, .pointer (some ⟨s, 3, none⟩)), (1, .int .i64 n)] 24 Try.func34 rfl Try.ntmps34 (by kernel_rfl) rfl (by repeat (first | exact Sub.nil _ | refine Sub.cons rfl ?_)) fun h0 => ?_
  have l1 : ((L.drop 0).take n).length ≤ 100 := by simp only [List.length_take]; omega
  have l2 : ((L.drop 10).take n).length ≤ 100 := by simp only [List.length_take]; omega
  repeat' (first | refine go ?_ | refine goX ?_ | refine goB ?_ | (refine goG ?_; intro g) | (refine goV ?_; intro v) | refine goD ?_ | refine goXD ?_ | (refine goDG ?_; intro g) | (refine goDV ?_; intro v) | (apply WC.draw (id := 1) [0, 1, 2, 3, 4, 6, 7, 8, 9, 10, 12, 13, 14, 15, 16, 17, 18, 19] (.held 0 (.held 1 (.held 2 (.held 3 (.held 4 (.held 6 (.held 7 (.held 8 (.held 9 (.held 10 (.held 12 (.held 13 (.held 14 (.held 15 (.loud 5 (.loud 11 (.held 16 (.held 17 (.held 18 (.held 19 (.done))))))))))))))))))))) mixed (by kernel_rfl)))
  refine WD.callO (clone_c _ ((L.drop 0).take n) l1) (fun rv => ?_) (hF := .cons (HasB.f (Has.scS (q := 0) (cap := 10) (Has.mem (by (repeat (first | exact List.Mem.head _ | apply List.Mem.tail)); done)) hL (by omega) (by omega) (by omega))) .nil)
  repeat' (first | refine go ?_ | refine goX ?_ | refine goB ?_ | (refine goG ?_; intro g) | (refine goV ?_; intro v) | refine goD ?_ | refine goXD ?_ | (refine goDG ?_; intro g) | (refine goDV ?_; intro v) | (apply WC.draw (id := 1) [0, 1, 2, 3, 4, 6, 7, 8, 9, 10, 12, 13, 14, 15, 16, 17, 18, 19] (.held 0 (.held 1 (.held 2 (.held 3 (.held 4 (.held 6 (.held 7 (.held 8 (.held 9 (.held 10 (.held 12 (.held 13 (.held 14 (.held 15 (.loud 5 (.loud 11 (.held 16 (.held 17 (.held 18 (.held 19 (.done))))))))))))))))))))) mixed (by kernel_rfl)))
  refine WD.callO (clone_c _ ((L.drop 10).take n) l2) (fun rv => ?_) (hF := .cons (HasB.f (Has.scS (q := 10) (cap := 10) (Has.mem (by (repeat (first | exact List.Mem.head _ | apply List.Mem.tail)); done)) hL (by omega) (by omega) (by omega))) .nil)
  repeat' (first | refine go ?_ | refine goX ?_ | refine goB ?_ | (refine goG ?_; intro g) | (refine goV ?_; intro v) | refine goD ?_ | refine goXD ?_ | (refine goDG ?_; intro g) | (refine goDV ?_; intro v) | (apply WC.draw (id := 1) [0, 1, 2, 3, 4, 6, 7, 8, 9, 10, 12, 13, 14, 15, 16, 17, 18, 19] (.held 0 (.held 1 (.held 2 (.held 3 (.held 4 (.held 6 (.held 7 (.held 8 (.held 9 (.held 10 (.held 12 (.held 13 (.held 14 (.held 15 (.loud 5 (.loud 11 (.held 16 (.held 17 (.held 18 (.held 19 (.done))))))))))))))))))))) mixed (by kernel_rfl)))
  refine WC.ret ?_
  exact Fin.l (ResE.t4 rfl rfl rfl rfl rfl) (by (repeat (first | exact List.Mem.head _ | apply List.Mem.tail)); done) (by repeat (first | exact List.Sublist.refl _ | exact List.nil_sublist _ | apply List.Sublist.cons_cons | apply List.Sublist.cons)) _ _ rfl rfl rfl


set_option maxHeartbeats 2000000 in
set_option maxRecDepth 4000 in
theorem best_c (v : Value) (avs : List Value) (ts : List Tk) (m : Int) (hi64 : TI64 ts) :
    FnB Try.prog 13 [v, .int .i64 m] [] [sT v avs ts, sA avs ts] (IsL (if validE ts m = 0 then bestP ts m else ([], [], 0, validE ts m))) := by
  refine fn_of [(0, v), (1, .int .i64 m)] 59 Try.func13 rfl Try.ntmps13 (by kernel_rfl) rfl (by repeat (first | exact Sub.nil _ | refine Sub.cons rfl ?_)) fun h0 => ?_
  repeat' (first | refine go ?_ | refine goX ?_ | refine goB ?_ | (refine goG ?_; intro g) | (refine goV ?_; intro v) | refine goD ?_ | refine goXD ?_ | (refine goDG ?_; intro g) | (refine goDV ?_; intro v) | (apply WC.draw (id := 10) [0, 1, 2, 3, 4, 5, 6, 9, 11] (.held 0 (.held 1 (.held 2 (.held 3 (.held 4 (.held 5 (.held 6 (.fork 7 (.loud 8 (.held 9 (.loud 10 (.held 11 (.done))))) 8 (.loud 7 (.held 9 (.loud 10 (.held 11 (.done))))))))))))) mixed (by kernel_rfl)))
  first | refine WL.callP (bound_c v avs ts m hi64) ?_ | refine WD.callP (bound_c v avs ts m hi64) ?_
  rintro _ _ _ ⟨c, rfl, rfl, rfl⟩
  by_cases h : validE ts m = 0
  · rw [if_pos h, h, if_pos rfl]
    obtain ⟨hl, M, rfl, hM1, hM4, hg⟩ := validE_0 h
    rw [show (M : Int).toNat = M from rfl]
    generalize hbd : boundP ts M = bd
    obtain ⟨bc, bo, bl⟩ := bd
    repeat' (first | refine go ?_ | refine goX ?_ | refine goB ?_ | (refine goG ?_; intro g) | (refine goV ?_; intro v) | refine goD ?_ | refine goXD ?_ | (refine goDG ?_; intro g) | (refine goDV ?_; intro v) | (apply WC.draw (id := 10) [0, 1, 2, 3, 4, 5, 6, 9, 11] (.held 0 (.held 1 (.held 2 (.held 3 (.held 4 (.held 5 (.held 6 (.fork 7 (.loud 8 (.held 9 (.loud 10 (.held 11 (.done))))) 8 (.loud 7 (.held 9 (.loud 10 (.held 11 (.done))))))))))))) mixed (by kernel_rfl)))
    (apply WL.l; exact rfl; exact rfl; refine LO.make T.e22 rfl rfl (by omega) (by omega) (made1 _ rfl _) (fun od => ?_))
    repeat' (first | refine go ?_ | refine goX ?_ | refine goB ?_ | (refine goG ?_; intro g) | (refine goV ?_; intro v) | refine goD ?_ | refine goXD ?_ | (refine goDG ?_; intro g) | (refine goDV ?_; intro v) | (apply WC.draw (id := 10) [0, 1, 2, 3, 4, 5, 6, 9, 11] (.held 0 (.held 1 (.held 2 (.held 3 (.held 4 (.held 5 (.held 6 (.fork 7 (.loud 8 (.held 9 (.loud 10 (.held 11 (.done))))) 8 (.loud 7 (.held 9 (.loud 10 (.held 11 (.done))))))))))))) mixed (by kernel_rfl)))
    refine WC.lp (σ := Nat) (fun k => [(27, .int .i64 (k : Int)), (26, .int .i64 (ts.length : Int)), (10, od), (8, ptr g), (0, v), (1, .int .i64 M)]) (fun k => [Ow.slice od 3 1 (ints (fillN ts.length k)), Ow.cells g 53 [c, .int .i64 bo, .int .i64 bl]]) (fun _ => [ge h0, sT v avs ts, sA avs ts]) (fun k => k ≤ ts.length) (fun k => ts.length - k) 0 (by simp) ?_ (by repeat (first | exact Sub.nil _ | refine Sub.cons rfl ?_)) (by rw [fillN, ints, List.map_replicate]; exact (by repeat (first | exact List.Sublist.refl _ | exact List.nil_sublist _ | apply List.Sublist.cons_cons | apply List.Sublist.cons)))
    rintro k hk
    have hfl := fillN_len (n := ts.length) k
    have ef : fillN ts.length (k + 1) = (fillN ts.length k).set k (k : Int) := rfl
    generalize hfg : fillN ts.length k = O at *
    by_cases hlt : k < ts.length
    · repeat' (first | refine go ?_ | refine goX ?_ | refine goB ?_ | (refine goG ?_; intro g) | (refine goV ?_; intro v) | refine goD ?_ | refine goXD ?_ | (refine goDG ?_; intro g) | (refine goDV ?_; intro v) | (apply WC.draw (id := 10) [0, 1, 2, 3, 4, 5, 6, 9, 11] (.held 0 (.held 1 (.held 2 (.held 3 (.held 4 (.held 5 (.held 6 (.fork 7 (.loud 8 (.held 9 (.loud 10 (.held 11 (.done))))) 8 (.loud 7 (.held 9 (.loud 10 (.held 11 (.done))))))))))))) mixed (by kernel_rfl)))
      exact LoopEnd.mk (k + 1) (by omega) (by omega) (by repeat (first | exact Sub.nil _ | refine Sub.cons rfl ?_)) (by rw [ef, ← ints_set]; exact (by repeat (first | exact List.Sublist.refl _ | exact List.nil_sublist _ | apply List.Sublist.cons_cons | apply List.Sublist.cons)))
    · obtain rfl : k = ts.length := by omega
      have hob : ∀ j, j < O.length → 0 ≤ O.getD j 0 ∧ O.getD j 0 < ts.length := fun j hj => by
        rw [← hfg, fillN_get _ j (by omega) (Nat.le_refl _), if_pos (by omega)]; omega
      have hB := lis_B hg hM4 hl hob O.length (Nat.le_refl _)
      have hBl := hB.len
      rw [hfl] at hBl
      repeat' (first | refine go ?_ | refine goX ?_ | refine goB ?_ | (refine goG ?_; intro g) | (refine goV ?_; intro v))
      refine WC.cutT (σ := Nat × Nat) (fun s => [(12, ptr s.1), (0, v), (1, .int .i64 M)]) (fun s => [Ow.cells s.1 74 (srch v M bl (lisN ts M O ts.length) (.map (some s.2))), Ow.obj s.2 (Mp.mobj [])]) (fun _ => [ge h0, sT v avs ts, sA avs ts]) (fun _ => True) ?_ ?_
      · repeat' (first | refine go ?_ | refine goX ?_ | refine goB ?_ | (refine goG ?_; intro g) | (refine goV ?_; intro v) | refine goD ?_ | refine goXD ?_ | (refine goDG ?_; intro g) | (refine goDV ?_; intro v) | (apply WC.draw (id := 10) [0, 1, 2, 3, 4, 5, 6, 9, 11] (.held 0 (.held 1 (.held 2 (.held 3 (.held 4 (.held 5 (.held 6 (.fork 7 (.loud 8 (.held 9 (.loud 10 (.held 11 (.done))))) 8 (.loud 7 (.held 9 (.loud 10 (.held 11 (.done))))))))))))) mixed (by kernel_rfl)))
        apply WD.fork2
        · exact rfl
        · exact rfl
        · exact rfl
        · exact rfl
        · exact rfl
        · exact rfl
        · refine LO.callRV rfl (by repeat (first | exact Evs.nil | (apply Evs.cons; exact rfl))) (listed_c v od avs ts M O hg hM4 hl (by omega) hob) (by repeat (first | exact HasAllB.nil | (apply HasAllB.cons; (first | (focus (apply HasB.oI; (repeat (first | exact List.Mem.head _ | apply List.Mem.tail)); done)) | (focus (apply HasB.c; (repeat (first | exact List.Mem.head _ | apply List.Mem.tail)); done)) | (focus (apply HasB.f; (first | (focus (apply Has.mem; (repeat (first | exact List.Mem.head _ | apply List.Mem.tail)); done)) | (focus (apply hasA; (focus (apply Has.mem; (repeat (first | exact List.Mem.head _ | apply List.Mem.tail)); done)); omega; done)) | (focus (apply Has.sc; (focus (apply Has.mem; (repeat (first | exact List.Mem.head _ | apply List.Mem.tail)); done)); omega; omega; omega; done))); done)))))) ⟨.inr ⟨(by repeat (first | exact List.Sublist.refl _ | exact List.nil_sublist _ | apply List.Sublist.cons_cons | apply List.Sublist.cons)), fun _ h => h⟩, ?_⟩
          rw [hfl]
          repeat' (first | refine go ?_ | refine goX ?_ | refine goB ?_ | (refine goG ?_; intro g) | (refine goV ?_; intro v) | refine goD ?_ | refine goXD ?_ | (refine goDG ?_; intro g) | (refine goDV ?_; intro v) | (apply WC.draw (id := 10) [0, 1, 2, 3, 4, 5, 6, 9, 11] (.held 0 (.held 1 (.held 2 (.held 3 (.held 4 (.held 5 (.held 6 (.fork 7 (.loud 8 (.held 9 (.loud 10 (.held 11 (.done))))) 8 (.loud 7 (.held 9 (.loud 10 (.held 11 (.done))))))))))))) mixed (by kernel_rfl)))
          (apply WD.l; exact rfl; exact rfl; exact rfl; refine LO.mkM (fun mm => ⟨.inr ⟨(by repeat (first | exact List.Sublist.refl _ | exact List.nil_sublist _ | apply List.Sublist.cons_cons | apply List.Sublist.cons)), fun _ h => h⟩, ?_⟩))
          repeat' (first | refine go ?_ | refine goX ?_ | refine goB ?_ | (refine goG ?_; intro g) | (refine goV ?_; intro v) | refine goD ?_ | refine goXD ?_ | (refine goDG ?_; intro g) | (refine goDV ?_; intro v) | (apply WC.draw (id := 10) [0, 1, 2, 3, 4, 5, 6, 9, 11] (.held 0 (.held 1 (.held 2 (.held 3 (.held 4 (.held 5 (.held 6 (.fork 7 (.loud 8 (.held 9 (.loud 10 (.held 11 (.done))))) 8 (.loud 7 (.held 9 (.loud 10 (.held 11 (.done))))))))))))) mixed (by kernel_rfl)))
          refine goE ?_
          repeat' (first | refine go ?_ | refine goX ?_ | refine goB ?_ | (refine goG ?_; intro g) | (refine goV ?_; intro v) | refine goD ?_ | refine goXD ?_ | (refine goDG ?_; intro g) | (refine goDV ?_; intro v) | (apply WC.draw (id := 10) [0, 1, 2, 3, 4, 5, 6, 9, 11] (.held 0 (.held 1 (.held 2 (.held 3 (.held 4 (.held 5 (.held 6 (.fork 7 (.loud 8 (.held 9 (.loud 10 (.held 11 (.done))))) 8 (.loud 7 (.held 9 (.loud 10 (.held 11 (.done))))))))))))) mixed (by kernel_rfl)))
          exact ⟨(g, mm), trivial, (by repeat (first | exact Sub.nil _ | refine Sub.cons rfl ?_)), (by repeat (first | exact List.Sublist.refl _ | exact List.nil_sublist _ | apply List.Sublist.cons_cons | apply List.Sublist.cons)), (by repeat (first | exact HasAll.nil | (apply HasAll.cons; (focus (apply Has.mem; (repeat (first | exact List.Mem.head _ | apply List.Mem.tail)); done)))))⟩
        · refine LO.mkM (fun mm => ⟨.inr ⟨(by repeat (first | exact List.Sublist.refl _ | exact List.nil_sublist _ | apply List.Sublist.cons_cons | apply List.Sublist.cons)), fun _ h => h⟩, ?_⟩)
          repeat' (first | refine go ?_ | refine goX ?_ | refine goB ?_ | (refine goG ?_; intro g) | (refine goV ?_; intro v) | refine goD ?_ | refine goXD ?_ | (refine goDG ?_; intro g) | (refine goDV ?_; intro v) | (apply WC.draw (id := 10) [0, 1, 2, 3, 4, 5, 6, 9, 11] (.held 0 (.held 1 (.held 2 (.held 3 (.held 4 (.held 5 (.held 6 (.fork 7 (.loud 8 (.held 9 (.loud 10 (.held 11 (.done))))) 8 (.loud 7 (.held 9 (.loud 10 (.held 11 (.done))))))))))))) mixed (by kernel_rfl)))
          (apply WD.l; exact rfl; exact rfl; exact rfl; refine LO.callRV rfl (by repeat (first | exact Evs.nil | (apply Evs.cons; exact rfl))) (listed_c v od avs ts M O hg hM4 hl (by omega) hob) (by repeat (first | exact HasAllB.nil | (apply HasAllB.cons; (first | (focus (apply HasB.oI; (repeat (first | exact List.Mem.head _ | apply List.Mem.tail)); done)) | (focus (apply HasB.c; (repeat (first | exact List.Mem.head _ | apply List.Mem.tail)); done)) | (focus (apply HasB.f; (first | (focus (apply Has.mem; (repeat (first | exact List.Mem.head _ | apply List.Mem.tail)); done)) | (focus (apply hasA; (focus (apply Has.mem; (repeat (first | exact List.Mem.head _ | apply List.Mem.tail)); done)); omega; done)) | (focus (apply Has.sc; (focus (apply Has.mem; (repeat (first | exact List.Mem.head _ | apply List.Mem.tail)); done)); omega; omega; omega; done))); done)))))) ⟨.inr ⟨(by repeat (first | exact List.Sublist.refl _ | exact List.nil_sublist _ | apply List.Sublist.cons_cons | apply List.Sublist.cons)), fun _ h => h⟩, ?_⟩)
          rw [hfl]
          refine goE ?_
          repeat' (first | refine go ?_ | refine goX ?_ | refine goB ?_ | (refine goG ?_; intro g) | (refine goV ?_; intro v) | refine goD ?_ | refine goXD ?_ | (refine goDG ?_; intro g) | (refine goDV ?_; intro v) | (apply WC.draw (id := 10) [0, 1, 2, 3, 4, 5, 6, 9, 11] (.held 0 (.held 1 (.held 2 (.held 3 (.held 4 (.held 5 (.held 6 (.fork 7 (.loud 8 (.held 9 (.loud 10 (.held 11 (.done))))) 8 (.loud 7 (.held 9 (.loud 10 (.held 11 (.done))))))))))))) mixed (by kernel_rfl)))
          exact ⟨(g, mm), trivial, (by repeat (first | exact Sub.nil _ | refine Sub.cons rfl ?_)), (by repeat (first | exact List.Sublist.refl _ | exact List.nil_sublist _ | apply List.Sublist.cons_cons | apply List.Sublist.cons)), (by repeat (first | exact HasAll.nil | (apply HasAll.cons; (focus (apply Has.mem; (repeat (first | exact List.Mem.head _ | apply List.Mem.tail)); done)))))⟩
      rintro ⟨sg, mm⟩ _
      simp only
      have hs0 : SI (lisN ts M O ts.length, []) := ⟨hBl, fun k hk => by simp at hk⟩
      have hPz := PI_zer (ts := ts) hl
      have hrc := run_c sg mm v avs ts M bl hg hl hM4 (ts.length + 1) zer (lisN ts M O ts.length, []) (by rw [und_zer]; omega) hPz hs0
      have hrS := runP_SI hg hl hM4 (goal := bl) (ts.length + 1) zer (lisN ts M O ts.length, []) hPz hs0
      have hbest : bestS ts M = runP ts M bl (ts.length + 1) zer (lisN ts M O ts.length, []) := by rw [bestS, hbd, hfg]
      rw [← hbest] at hrc hrS
      have hrl := hrS.l
      repeat' (first | refine go ?_ | refine goX ?_ | refine goB ?_ | (refine goG ?_; intro g) | (refine goV ?_; intro v) | refine goD ?_ | refine goXD ?_ | (refine goDG ?_; intro g) | (refine goDV ?_; intro v) | (apply WC.draw (id := 10) [0, 1, 2, 3, 4, 5, 6, 9, 11] (.held 0 (.held 1 (.held 2 (.held 3 (.held 4 (.held 5 (.held 6 (.fork 7 (.loud 8 (.held 9 (.loud 10 (.held 11 (.done))))) 8 (.loud 7 (.held 9 (.loud 10 (.held 11 (.done))))))))))))) mixed (by kernel_rfl)))
      refine WL.callG _ [] (.refl _) hrc ?_
      rintro _ _ _ ⟨rfl, rfl, rfl⟩
      rw [List.nil_append, List.append_nil]
      repeat' (first | refine go ?_ | refine goX ?_ | refine goB ?_ | (refine goG ?_; intro g) | (refine goV ?_; intro v) | refine goD ?_ | refine goXD ?_ | (refine goDG ?_; intro g) | (refine goDV ?_; intro v) | (apply WC.draw (id := 10) [0, 1, 2, 3, 4, 5, 6, 9, 11] (.held 0 (.held 1 (.held 2 (.held 3 (.held 4 (.held 5 (.held 6 (.fork 7 (.loud 8 (.held 9 (.loud 10 (.held 11 (.done))))) 8 (.loud 7 (.held 9 (.loud 10 (.held 11 (.done))))))))))))) mixed (by kernel_rfl)))
      refine WL.callP (lists2_c sg v (.map (some mm)) M bl (bestS ts M).1 ts.length hl hrl) ?_
      rintro _ _ _ ⟨a, b, rfl, rfl, rfl⟩
      repeat' (first | refine go ?_ | refine goX ?_ | refine goB ?_ | (refine goG ?_; intro g) | (refine goV ?_; intro v) | refine goD ?_ | refine goXD ?_ | (refine goDG ?_; intro g) | (refine goDV ?_; intro v) | (apply WC.draw (id := 10) [0, 1, 2, 3, 4, 5, 6, 9, 11] (.held 0 (.held 1 (.held 2 (.held 3 (.held 4 (.held 5 (.held 6 (.fork 7 (.loud 8 (.held 9 (.loud 10 (.held 11 (.done))))) 8 (.loud 7 (.held 9 (.loud 10 (.held 11 (.done))))))))))))) mixed (by kernel_rfl)))
      refine WC.ret ?_
      exact Fin.l (ResE.t4 rfl rfl rfl rfl rfl) (by (repeat (first | exact List.Mem.head _ | apply List.Mem.tail)); done) (by repeat (first | exact List.Sublist.refl _ | exact List.nil_sublist _ | apply List.Sublist.cons_cons | apply List.Sublist.cons)) _ _ rfl rfl rfl
  · rw [if_neg h, if_neg h]
    repeat' (first | refine go ?_ | refine goX ?_ | refine goB ?_ | (refine goG ?_; intro g) | (refine goV ?_; intro v) | refine goD ?_ | refine goXD ?_ | (refine goDG ?_; intro g) | (refine goDV ?_; intro v) | (apply WC.draw (id := 10) [0, 1, 2, 3, 4, 5, 6, 9, 11] (.held 0 (.held 1 (.held 2 (.held 3 (.held 4 (.held 5 (.held 6 (.fork 7 (.loud 8 (.held 9 (.loud 10 (.held 11 (.done))))) 8 (.loud 7 (.held 9 (.loud 10 (.held 11 (.done))))))))))))) mixed (by kernel_rfl)))
    refine WC.addNil 3 1 (WC.addNil 3 1 (WC.ret ?_))
    exact Fin.l (ResE.t4 rfl rfl rfl rfl rfl) (by (repeat (first | exact List.Mem.head _ | apply List.Mem.tail)); done) (by repeat (first | exact List.Sublist.refl _ | exact List.nil_sublist _ | apply List.Sublist.cons_cons | apply List.Sublist.cons)) [] [] rfl rfl rfl
end Go.Proofs.Ytgacbfckaglhbaa
namespace Go.Proofs.Ytgacbfckaglhbaa
open W Go.RowKit

section
variable {e : Env} {bx : List Ow} {F : List Fct} {ty : TypeId} {x y z x1 x2 x3 : Operand} {u : Value} {n : Nat} {a b : Int} {K : RPost}
theorem YO.build48 (hx : ev e x = some (.int .i64 a)) (hy : ev e y = some (.int .i64 b)) : YO Try.prog (.build 48 #[(0, x), (1, y)]) ty e bx F (.agg [Value.int .i64 a, .int .i64 b, .slice none 0 0].toArray) :=
  YO.build (parts := [(0, x), (1, y)]) (.cons hx (.cons hy .nil)) fun w => run_build w 48 _ _ (by kernel_rfl)
theorem YO.build48a (hx : ev e x = some (.int .i64 a)) (hy : ev e y = some (.int .i64 b)) (hz : ev e z = some u) (hu : KnS bx F u n) : YO Try.prog (.build 48 #[(0, x), (1, y), (2, z)]) ty e bx F (.agg [Value.int .i64 a, .int .i64 b, u].toArray) := fun k fr ac w o hop hty hk ho => by
  obtain ⟨a', cap, rfl, _⟩ := (hu fr w ho).is
  exact (YO.build (P := Try.prog) (bx := bx) (F := F) (ty := ty) (parts := [(0, x), (1, y), (2, z)]) (.cons hx (.cons hy (.cons hz .nil))) fun w => run_build w 48 _ _ (by kernel_rfl)) k fr ac w o hop hty hk ho
theorem LO.bs3 {t1 o1 t2 o2 t3 o3 : Int} (h1 : ev e x1 = some (.agg [Value.int .i64 t1, .int .i64 o1, .slice none 0 0].toArray)) (h2 : ev e x2 = some (.agg [Value.int .i64 t2, .int .i64 o2, .slice none 0 0].toArray)) (h3 : ev e x3 = some (.agg [Value.int .i64 t3, .int .i64 o3, u].toArray)) (hu : KnS bx F u n)
    (h : ∀ v, K v (Ow.slice v 48 3 [.int .i64 t1, .int .i64 o1, .slice none 0 0, .int .i64 t2, .int .i64 o2, .slice none 0 0, .int .i64 t3, .int .i64 o3, u] :: bx) F) : LO Try.prog (.buildSlice 23 3 #[(0, x1), (1, x2), (2, x3)]) ty e bx F K := fun k fr ac w o next Q' hop hty hk ho hn => by
  obtain ⟨a', cap, rfl, _⟩ := (hu fr w ho).is
  exact LO.buildSlice (P := Try.prog) (t := 23) (el := 48) (sz := 3) (len := 3) (parts := [(0, x1), (1, x2), (2, x3)]) (.cons h1 (.cons h2 (.cons h3 .nil))) (fun w => by kernel_rfl) rfl (by decide) h k fr ac w o next Q' hop hty hk ho hn
theorem goT {G G' : Prop} (h : G') (s : Bx G' → G := by
  intro h
  (apply WL.k_build; (first | (apply YO.build48; exact rfl; exact rfl) | (apply YO.build48a; exact rfl; exact rfl; exact rfl; (first | (focus (apply KnS.f; (focus (apply Has.mem; (repeat (first | exact List.Mem.head _ | apply List.Mem.tail)); done)); done)) | (focus (apply KnS.oI; (repeat (first | exact List.Mem.head _ | apply List.Mem.tail)); done)) | (focus (apply KnS.o1; (repeat (first | exact List.Mem.head _ | apply List.Mem.tail)); done)) | (focus (apply KnS.f; apply hasA; (focus (apply Has.mem; (repeat (first | exact List.Mem.head _ | apply List.Mem.tail)); done)); omega; done))))); exact rfl; exact rfl)
  exact Bx.h h) : G := s ⟨h⟩
end

def three : List Tk := [⟨3, 3, []⟩, ⟨2, 1, []⟩, ⟨2, 3, [0]⟩]
/-- tasks in memory, for good -/
def IsT (ts : List Tk) : RPost := fun v b G => ∃ avs, b = [] ∧ G = [sT v avs ts, sA avs ts]
theorem WL.freezeT {P : Program} {n : Nat} {L rest : List Oper} {e : Env} {bx bx' : List Ow} {F : List Fct} {Q : Env → List Ow → List Fct → Prop} {v : Value} {cs : List Value} (ts : List Tk) (avs : List Value) (hs : Sel bx (.slice v 48 3 cs) (.slice (.slice none 0 0) 48 3 []) bx') (hl : cs.length = ts.length * 3) (hc : ∀ j, j < ts.length * 3 → cs[j]? = some (tcell ts avs j))
    (h : WL P n L rest e bx' (sT v avs ts :: F) Q) : WL P n L rest e bx F Q := fun fr w0 a w Q' hQ hk hr ho => h fr w0 a w Q' hQ hk hr (ho.freeze hs hl (by decide) _ hc)
theorem sA_three {F : List Fct} {u : Value} (h : Has F (sI u [0])) : Has F (sA [.slice none 0 0, .slice none 0 0, u] three) := fun ph hf i hi => by
  have h2 := h ph hf
  have h3 := sI_nil (F := []) ph (by simp)
  match i, hi with
  | 0, _ => exact h3
  | 1, _ => exact h3
  | 2, _ => exact h2
theorem sA_snoc {F : List Fct} {avs : List Value} {ts : List Tk} {v : Value} {t : Tk} (h : Has F (sA avs ts)) (hv : Has F (sI v t.after)) (hl : avs.length = ts.length) : Has F (sA (avs ++ [v]) (ts ++ [t])) := fun ph hf i hi => by
  have h1 := h ph hf
  have h2 := hv ph hf
  by_cases hlt : i < ts.length
  · have e1 : (avs ++ [v]).getD i undef = avs.getD i undef := by simp [List.getD_eq_getElem?_getD, List.getElem?_append_left (show i < avs.length by omega)]
    have e2 : tg (ts ++ [t]) i = tg ts i := by simp [tg, List.getD_eq_getElem?_getD, List.getElem?_append_left hlt]
    rw [e1, e2]; exact h1 i hlt
  · have hi' : i = ts.length := by simp at hi; omega
    have e1 : (avs ++ [v]).getD i undef = v := by subst hi'; rw [← hl]; simp [List.getD_eq_getElem?_getD]
    have e2 : tg (ts ++ [t]) i = t := by subst hi'; simp [tg, List.getD_eq_getElem?_getD]
    rw [e1, e2]; exact h2
attribute [local irreducible] WC WL WD YO LO LoopEnd W.Fin Scalar SliceT FieldAt Row ArrT AllocT KnS Has W.One SrcE IntT
theorem three_c : FnB Try.prog 39 [] [] [] (IsT three) := by
  refine fn_of [] 6 Try.func39 rfl Try.ntmps39 (by kernel_rfl) rfl (by repeat (first | exact Sub.nil _ | refine Sub.cons rfl ?_)) fun h0 => ?_
  repeat' (first | refine go ?_ | refine goT ?_ | (refine goV ?_; intro u))
  (apply WL.l; exact rfl; exact rfl; apply LO.bs3; exact rfl; exact rfl; exact rfl; (first | (focus (apply KnS.f; (focus (apply Has.mem; (repeat (first | exact List.Mem.head _ | apply List.Mem.tail)); done)); done)) | (focus (apply KnS.oI; (repeat (first | exact List.Mem.head _ | apply List.Mem.tail)); done)) | (focus (apply KnS.o1; (repeat (first | exact List.Mem.head _ | apply List.Mem.tail)); done)) | (focus (apply KnS.f; apply hasA; (focus (apply Has.mem; (repeat (first | exact List.Mem.head _ | apply List.Mem.tail)); done)); omega; done))); intro v)
  refine WL.freezeT three [.slice none 0 0, .slice none 0 0, u] (by repeat (first | exact Sel.head | apply Sel.tail)) rfl ?_ ?_
  · intro j hj
    match j, hj with
    | 0, _ | 1, _ | 2, _ | 3, _ | 4, _ | 5, _ | 6, _ | 7, _ | 8, _ => rfl
  refine WL.freezeI (l := [0]) (by repeat (first | exact Sel.head | apply Sel.tail)) ?_
  repeat' (first | refine go ?_ | refine goX ?_ | refine goB ?_ | (refine goG ?_; intro g) | (refine goV ?_; intro v))
  refine WC.ret ?_
  exact Fin.p [] [sT v [.slice none 0 0, .slice none 0 0, u] three, sA [.slice none 0 0, .slice none 0 0, u] three] (ResE.t1 rfl rfl) (by (repeat (first | exact List.Mem.head _ | apply List.Mem.tail)); done) (List.nil_sublist _) (.cons (Has.mem (by (repeat (first | exact List.Mem.head _ | apply List.Mem.tail)); done)) (.cons (sA_three (Has.mem (by (repeat (first | exact List.Mem.head _ | apply List.Mem.tail)); done))) .nil)) ⟨_, rfl, rfl⟩
end Go.Proofs.Ytgacbfckaglhbaa
namespace Go.Proofs.Ytgacbfckaglhbaa
open W Go.RowKit

def cellsT : List Tk → List Value → List Value
  | t :: ts, v :: avs => .int .i64 t.time :: .int .i64 t.on :: v :: cellsT ts avs
  | _, _ => []
theorem cellsT_len : ∀ {ts : List Tk} {avs : List Value}, avs.length = ts.length → (cellsT ts avs).length = ts.length * 3
  | [], _, _ => by simp [cellsT]
  | t :: ts, [], h => by simp at h
  | t :: ts, v :: avs, h => by
    have := cellsT_len (ts := ts) (avs := avs) (by simpa using h)
    simp [cellsT, this]; omega
theorem cellsT_snoc : ∀ {ts : List Tk} {avs : List Value} {t : Tk} {v : Value}, avs.length = ts.length → cellsT (ts ++ [t]) (avs ++ [v]) = cellsT ts avs ++ [.int .i64 t.time, .int .i64 t.on, v]
  | [], [], _, _, _ => rfl
  | _ :: ts, _ :: avs, t, v, h => by
    have := cellsT_snoc (ts := ts) (avs := avs) (t := t) (v := v) (by simpa using h)
    simp [cellsT, this]
theorem cellsT_get : ∀ {ts : List Tk} {avs : List Value} (j : Nat), avs.length = ts.length → j < ts.length * 3 → (cellsT ts avs)[j]? = some (tcell ts avs j)
  | t :: ts, v :: avs, 0, _, _ => rfl
  | t :: ts, v :: avs, 1, _, _ => rfl
  | t :: ts, v :: avs, 2, _, _ => rfl
  | t :: ts, v :: avs, j + 3, h, hj => by
    have ih := cellsT_get (ts := ts) (avs := avs) j (by simpa using h) (by simp at hj; omega)
    show (cellsT ts avs)[j]? = _
    rw [ih]
    unfold tcell
    rw [show (j + 3) % 3 = j % 3 by omega, show (j + 3) / 3 = j / 3 + 1 by omega]
    rfl
section
variable {e : Env} {bx : List Ow} {bx' : Value → List Ow} {F : List Fct} {ty : TypeId} {x y : Operand} {v yv u : Value} {n : Nat} {a b : Int} {K : RPost} {cs : List Value}
theorem LO.bs1T (h1 : ev e x = some (.agg [Value.int .i64 a, .int .i64 b, u].toArray)) (hu : KnS bx F u n) (h : ∀ v, K v (Ow.slice v 48 3 [.int .i64 a, .int .i64 b, u] :: bx) F) : LO Try.prog (.buildSlice 23 1 #[(0, x)]) ty e bx F K := fun k fr ac w o next Q' hop hty hk ho hn => by
  obtain ⟨a', cap, rfl, _⟩ := (hu fr w ho).is
  exact LO.buildSlice (P := Try.prog) (t := 23) (el := 48) (sz := 3) (len := 1) (parts := [(0, x)]) (.cons h1 .nil) (fun w => by kernel_rfl) rfl (by decide) h k fr ac w o next Q' hop hty hk ho hn
theorem LO.appT (hx : ev e x = some v) (hy : ev e y = some yv) (hsrc : Ow.slice yv 48 3 [.int .i64 a, .int .i64 b, u] ∈ bx) (hs : ∀ v', Sel bx (.slice v 48 3 cs) (.slice v' 48 3 (cs ++ [.int .i64 a, .int .i64 b, u])) (bx' v')) (hu : KnS bx F u n) (hl : cs.length ≤ 1000) (h : ∀ v', K v' (bx' v') F) :
    LO Try.prog (.call { callee := .builtin .append, args := #[x, y], argTypes := #[23, 23] }) ty e bx F K :=
  LO.byOne (One.sl hu) fun _ h1 => LO.append T.e23 hx hy hs (SrcE.one hsrc rfl (by decide)) (fun c hc => by
    simp only [List.mem_cons, List.not_mem_nil, or_false] at hc
    rcases hc with rfl | rfl | rfl
    · rfl
    · rfl
    · exact h1) (by simp; omega) (by simp; omega) h
end
theorem WC.freezeT {P : Program} {n : Nat} {c : Code} {e : Env} {bx bx' : List Ow} {F : List Fct} {Q : Post} {v : Value} {cs : List Value} (ts : List Tk) (avs : List Value) (hs : Sel bx (.slice v 48 3 cs) (.slice (.slice none 0 0) 48 3 []) bx') (hl : cs.length = ts.length * 3) (hc : ∀ j, j < ts.length * 3 → cs[j]? = some (tcell ts avs j))
    (h : WC P n c e bx' (sT v avs ts :: F) Q) : WC P n c e bx F Q := fun fr w0 a w hk hr ho => h fr w0 a w hk hr (ho.freeze hs hl (by decide) _ hc)
theorem sA_nil {F : List Fct} : Has F (sA [] []) := fun _ _ i hi => by simp at hi
theorem pow_mach (l : List Int) : (1 : Int) * 2 ^ (machP l).toNat ≤ 8 ∧ 1 ≤ (1 : Int) * 2 ^ (machP l).toNat := by
  have h := all_bd l
  unfold allP at h; omega
attribute [local irreducible] WC WL WD YO LO LoopEnd W.Fin Scalar SliceT FieldAt Row ArrT AllocT KnS Has W.One SrcE IntT
set_option maxHeartbeats 2000000 in
set_option maxRecDepth 4000 in
theorem tasks_c (lv : Value) (l : List Int) (most : Nat) (hm : most ≤ 10) (hl : ∀ x ∈ l, I64 x) : FnB Try.prog 9 [lv, .int .i64 most] [] [sI lv l] (IsT (tasksP l most)) := by
  refine fn_of [(0, lv), (1, .int .i64 most)] 91 Try.func9 rfl Try.ntmps9 (by kernel_rfl) rfl (by repeat (first | exact Sub.nil _ | refine Sub.cons rfl ?_)) fun h0 => ?_
  refine WC.lenI lv l (Has.mem (by (repeat (first | exact List.Mem.head _ | apply List.Mem.tail)); done)) fun hlen => ?_
  have hmb := mach_bd l
  have hpm := pow_mach l
  have hab := all_bd l
  repeat' (first | refine go ?_ | refine goX ?_ | refine goB ?_ | (refine goG ?_; intro g) | (refine goV ?_; intro v))
  first | refine WL.callV (machines_c lv l hl) ?_ | refine WD.callV (machines_c lv l hl) ?_
  rw [show 1 + atP l 0 3 = machP l from rfl]
  repeat' (first | refine go ?_ | refine goX ?_ | refine goB ?_ | (refine goG ?_; intro g) | (refine goV ?_; intro v))
  refine WC.addNil 48 3 ?_
  refine WC.fact (sA [] []) sA_nil ?_
  refine WC.lp (σ := Nat × Value × List Value) (fun s => [(7, .int .i64 (s.1 : Int)), (6, s.2.1), (5, .int .i64 (allP l)), (0, lv), (1, .int .i64 most)]) (fun s => [Ow.slice s.2.1 48 3 (cellsT (tasksN l s.1) s.2.2)]) (fun s => [ge h0, sI lv l, sA s.2.2 (tasksN l s.1)]) (fun s => (s.1 ≤ most ∧ s.2.2.length = s.1) ∧ s.1 ≤ cntP l most) (fun s => most - s.1) (0, .slice none 0 0, []) ⟨by simp, by simp⟩ ?_
  rintro ⟨i, ov, avs⟩ ⟨⟨hi, hav⟩, hic⟩
  simp only at hi hav hic ⊢
  have hcnt : cntP l most = min most ((l.length + 1) / 3) := rfl
  have htl := tasksN_len (l := l) i
  have hcl := cellsT_len (ts := tasksN l i) (avs := avs) (by omega)
  by_cases c1 : 3 * (i : Int) + 1 < (l.length : Int)
  · by_cases c2 : i < most
    · have b1 := atP_bd (l := l) (i := 3 * (i : Int) + 1) (m := 9) (by decide)
      have b2 := atP_bd (l := l) (i := 3 * (i : Int) + 2) (m := 1024) (by decide)
      have b3 := atP_bd (l := l) (i := 3 * (i : Int) + 3) (m := 1024) (by decide)
      have hcase : (¬ 0 < atP l (3 * (i : Int) + 2) 1024 % 3 ∧ tonP l i = allP l) ∨ (0 < atP l (3 * (i : Int) + 2) 1024 % 3 ∧ ¬ 0 < (((atP l (3 * (i : Int) + 2) 1024 / 3).toNat &&& (allP l).toNat : Nat) : Int) ∧ tonP l i = allP l) ∨
          (0 < atP l (3 * (i : Int) + 2) 1024 % 3 ∧ 0 < (((atP l (3 * (i : Int) + 2) 1024 / 3).toNat &&& (allP l).toNat : Nat) : Int) ∧ tonP l i = (((atP l (3 * (i : Int) + 2) 1024 / 3).toNat &&& (allP l).toNat : Nat) : Int)) := by
        unfold tonP txP
        by_cases d1 : 0 < atP l (3 * (i : Int) + 2) 1024 % 3
        · by_cases d2 : 0 < (((atP l (3 * (i : Int) + 2) 1024 / 3).toNat &&& (allP l).toNat : Nat) : Int)
          · rw [if_pos ⟨d1, d2⟩]; exact .inr (.inr ⟨d1, d2, rfl⟩)
          · rw [if_neg fun h => d2 h.2]; exact .inr (.inl ⟨d1, d2, rfl⟩)
        · rw [if_neg fun h => d1 h.1]; exact .inl ⟨d1, rfl⟩
      have hd3 : 0 ≤ atP l (3 * (i : Int) + 2) 1024 / 3 ∧ atP l (3 * (i : Int) + 2) 1024 / 3 ≤ 1024 := by omega
      obtain ⟨onv, honv⟩ : ∃ o, o = tonP l i := ⟨_, rfl⟩
      repeat' (first | refine go ?_ | refine goX ?_ | refine goB ?_ | (refine goG ?_; intro g) | (refine goV ?_; intro v))
      first | refine WL.callV (at_c lv l (3 * (i : Int) + 1) 9 hl (by decide)) ?_ | refine WD.callV (at_c lv l (3 * (i : Int) + 1) 9 hl (by decide)) ?_
      repeat' (first | refine go ?_ | refine goX ?_ | refine goB ?_ | (refine goG ?_; intro g) | (refine goV ?_; intro v))
      refine goT ?_
      repeat' (first | refine go ?_ | refine goX ?_ | refine goB ?_ | (refine goG ?_; intro g) | (refine goV ?_; intro v))
      first | refine WL.callV (at_c lv l (3 * (i : Int) + 2) 1024 hl (by decide)) ?_ | refine WD.callV (at_c lv l (3 * (i : Int) + 2) 1024 hl (by decide)) ?_
      rcases hcase with ⟨d1, e⟩ | ⟨d1, d2, e⟩ | ⟨d1, d2, e⟩
      all_goals
        repeat' (first | refine go ?_ | refine goX ?_ | refine goB ?_ | (refine goG ?_; intro g) | (refine goV ?_; intro v))
        revert g; intro gt
        first | refine WL.callV (at_c lv l (3 * (i : Int) + 3) 1024 hl (by decide)) ?_ | refine WD.callV (at_c lv l (3 * (i : Int) + 3) 1024 hl (by decide)) ?_
        repeat' (first | refine go ?_ | refine goX ?_ | refine goB ?_ | (refine goG ?_; intro g) | (refine goV ?_; intro v))
        first | refine WL.callV (at_c lv l (3 * (i : Int) + 2) 1024 hl (by decide)) ?_ | refine WD.callV (at_c lv l (3 * (i : Int) + 2) 1024 hl (by decide)) ?_
        repeat' (first | refine go ?_ | refine goX ?_ | refine goB ?_ | (refine goG ?_; intro g) | (refine goV ?_; intro v))
        have hy : 0 ≤ tyP l i ∧ tyP l i ≤ 1024 := by
          unfold tyP
          have : (atP l (3 * (i : Int) + 3) 1024).toNat &&& (atP l (3 * (i : Int) + 2) 1024).toNat ≤ (atP l (3 * (i : Int) + 3) 1024).toNat := Nat.and_le_left
          omega
        refine WC.addNil 3 1 ?_
        refine WC.lp (σ := Nat × Value) (fun s => [(11, .int .i64 (s.1 : Int)), (10, .int .i64 (tyP l i)), (8, ptr gt), (7, .int .i64 (i : Int)), (6, ov), (5, .int .i64 (allP l)), (0, lv), (1, .int .i64 most)]) (fun s => [Ow.slice s.2 3 1 (ints (aftP (tyP l i) s.1)), Ow.cells gt 48 [.int .i64 (1 + atP l (3 * (i : Int) + 1) 9), .int .i64 onv, s.2], Ow.slice ov 48 3 (cellsT (tasksN l i) avs)]) (fun _ => [ge h0, sI lv l, sA avs (tasksN l i)]) (fun s => s.1 ≤ i) (fun s => i - s.1) (0, .slice none 0 0) (by simp) ?_ (by repeat (first | exact Sub.nil _ | refine Sub.cons rfl ?_)) (by rw [honv, e]; exact (by repeat (first | exact List.Sublist.refl _ | exact List.nil_sublist _ | apply List.Sublist.cons_cons | apply List.Sublist.cons)))
        clear e
        rintro ⟨k, av⟩ hk
        simp only at hk ⊢
        have halen := aft_len (y := tyP l i) k
        have ea : aftP (tyP l i) (k + 1) = if tyP l i / 2 ^ ((k : Int)).toNat % 2 = 1 then aftP (tyP l i) k ++ [(k : Int)] else aftP (tyP l i) k := rfl
        by_cases hki : k < i
        · have hdv := div_bd (o := tyP l i) ((k : Int)).toNat hy.1
          by_cases db : tyP l i / 2 ^ ((k : Int)).toNat % 2 = 1
          · rw [if_pos db] at ea
            repeat' (first | refine go ?_ | refine goX ?_ | refine goB ?_ | (refine goG ?_; intro g) | (refine goV ?_; intro v))
            exact LoopEnd.mk (k + 1, v) (by show k + 1 ≤ i; omega) (by show i - (k + 1) < i - k; omega) (by repeat (first | exact Sub.nil _ | refine Sub.cons rfl ?_)) (by simp only [ea, ints_append]; exact (by repeat (first | exact List.Sublist.refl _ | exact List.nil_sublist _ | apply List.Sublist.cons_cons | apply List.Sublist.cons)))
          · rw [if_neg db] at ea
            repeat' (first | refine go ?_ | refine goX ?_ | refine goB ?_ | (refine goG ?_; intro g) | (refine goV ?_; intro v))
            exact LoopEnd.mk (k + 1, av) (by show k + 1 ≤ i; omega) (by show i - (k + 1) < i - k; omega) (by repeat (first | exact Sub.nil _ | refine Sub.cons rfl ?_)) (by simp only [ea]; exact (by repeat (first | exact List.Sublist.refl _ | exact List.nil_sublist _ | apply List.Sublist.cons_cons | apply List.Sublist.cons)))
        · obtain rfl : k = i := by omega
          repeat' (first | refine go ?_ | refine goX ?_ | refine goB ?_ | (refine goG ?_; intro g) | (refine goV ?_; intro v))
          refine WL.freezeI (l := aftP (tyP l k) k) (by repeat (first | exact Sel.head | apply Sel.tail)) ?_
          (apply WL.k_load; (apply YO.ldW0; exact T.r48; exact rfl; (repeat (first | exact List.Mem.head _ | apply List.Mem.tail)); exact rfl); exact rfl; exact rfl)
          (apply WL.l; exact rfl; exact rfl; apply LO.bs1T; exact rfl; (first | (focus (apply KnS.f; (focus (apply Has.mem; (repeat (first | exact List.Mem.head _ | apply List.Mem.tail)); done)); done)) | (focus (apply KnS.oI; (repeat (first | exact List.Mem.head _ | apply List.Mem.tail)); done)) | (focus (apply KnS.o1; (repeat (first | exact List.Mem.head _ | apply List.Mem.tail)); done)) | (focus (apply KnS.f; apply hasA; (focus (apply Has.mem; (repeat (first | exact List.Mem.head _ | apply List.Mem.tail)); done)); omega; done))); intro tv)
          (apply WL.l; exact rfl; exact rfl; apply LO.appT; exact rfl; exact rfl; (repeat (first | exact List.Mem.head _ | apply List.Mem.tail)); (intro v; (repeat (first | exact Sel.head | apply Sel.tail))); (first | (focus (apply KnS.f; (focus (apply Has.mem; (repeat (first | exact List.Mem.head _ | apply List.Mem.tail)); done)); done)) | (focus (apply KnS.oI; (repeat (first | exact List.Mem.head _ | apply List.Mem.tail)); done)) | (focus (apply KnS.o1; (repeat (first | exact List.Mem.head _ | apply List.Mem.tail)); done)) | (focus (apply KnS.f; apply hasA; (focus (apply Has.mem; (repeat (first | exact List.Mem.head _ | apply List.Mem.tail)); done)); omega; done))); omega; intro nv)
          have et : tasksN l (k + 1) = tasksN l k ++ [tkP l k] := rfl
          have ec : cellsT (tasksN l (k + 1)) (avs ++ [av]) = cellsT (tasksN l k) avs ++ [.int .i64 (1 + atP l (3 * (k : Int) + 1) 9), .int .i64 onv, av] := by rw [et, cellsT_snoc (by omega), honv]; rfl
          refine WL.fact (sA (avs ++ [av]) (tasksN l (k + 1))) (sA_snoc (t := tkP l k) (Has.mem (by (repeat (first | exact List.Mem.head _ | apply List.Mem.tail)); done)) (W.Has.mem (by (repeat (first | exact List.Mem.head _ | apply List.Mem.tail)); done)) (by omega)) ?_
          repeat' (first | refine go ?_ | refine goX ?_ | refine goB ?_ | (refine goG ?_; intro g) | (refine goV ?_; intro v))
          exact LoopEnd.mk (k + 1, nv, avs ++ [av]) ⟨⟨by show k + 1 ≤ most; omega, by simp [hav]⟩, by show k + 1 ≤ cntP l most; omega⟩ (by show most - (k + 1) < most - k; omega) (by repeat (first | exact Sub.nil _ | refine Sub.cons rfl ?_)) (by simp only [ec]; exact (by repeat (first | exact List.Sublist.refl _ | exact List.nil_sublist _ | apply List.Sublist.cons_cons | apply List.Sublist.cons)))
    · have hie : i = cntP l most := by omega
      repeat' (first | refine go ?_ | refine goX ?_ | refine goB ?_ | (refine goG ?_; intro g) | (refine goV ?_; intro v))
      refine WC.freezeT (tasksN l i) avs (by repeat (first | exact Sel.head | apply Sel.tail)) hcl (fun j hj => cellsT_get j (by omega) hj) ?_
      refine WC.ret ?_
      exact Fin.p [] [sT ov avs (tasksN l i), sA avs (tasksN l i)] (ResE.t1 rfl rfl) (by (repeat (first | exact List.Mem.head _ | apply List.Mem.tail)); done) (List.nil_sublist _) (by repeat (first | exact HasAll.nil | (apply HasAll.cons; (first | (focus (apply Has.mem; (repeat (first | exact List.Mem.head _ | apply List.Mem.tail)); done)) | (focus (apply hasA; (focus (apply Has.mem; (repeat (first | exact List.Mem.head _ | apply List.Mem.tail)); done)); omega; done)) | (focus (apply Has.sc; (focus (apply Has.mem; (repeat (first | exact List.Mem.head _ | apply List.Mem.tail)); done)); omega; omega; omega; done)))))) ⟨avs, rfl, by rw [tasksP, ← hie]⟩
  · have hie : i = cntP l most := by omega
    repeat' (first | refine go ?_ | refine goX ?_ | refine goB ?_ | (refine goG ?_; intro g) | (refine goV ?_; intro v))
    refine WC.freezeT (tasksN l i) avs (by repeat (first | exact Sel.head | apply Sel.tail)) hcl (fun j hj => cellsT_get j (by omega) hj) ?_
    refine WC.ret ?_
    exact Fin.p [] [sT ov avs (tasksN l i), sA avs (tasksN l i)] (ResE.t1 rfl rfl) (by (repeat (first | exact List.Mem.head _ | apply List.Mem.tail)); done) (List.nil_sublist _) (by repeat (first | exact HasAll.nil | (apply HasAll.cons; (first | (focus (apply Has.mem; (repeat (first | exact List.Mem.head _ | apply List.Mem.tail)); done)) | (focus (apply hasA; (focus (apply Has.mem; (repeat (first | exact List.Mem.head _ | apply List.Mem.tail)); done)); omega; done)) | (focus (apply Has.sc; (focus (apply Has.mem; (repeat (first | exact List.Mem.head _ | apply List.Mem.tail)); done)); omega; omega; omega; done)))))) ⟨avs, rfl, by rw [tasksP, ← hie]⟩
end Go.Proofs.Ytgacbfckaglhbaa
namespace Go.Proofs.Ytgacbfckaglhbaa
open W Go.RowKit

noncomputable section
def bentP (ts : List Tk) (m how byv : Int) : List Tk × Int :=
  let k := around how 8
  let a := (around byv (max (ts.length : Int) 1)).toNat
  let t := tg ts a
  if k = 0 then (ts, byv) else if k = 1 then (List.replicate 11 tk0, m)
  else if ts.length = 0 then (ts, m)
  else if k = 2 then (ts.set a { t with time := byv }, m)
  else if k = 3 then (ts.set a { t with on := byv }, m)
  else if k = 4 then (ts.set a { t with after := t.after ++ [(a : Int)] }, m)
  else if k = 5 then (ts.set a { t with after := [-1] }, m)
  else if k = 6 then (ts.set a { t with after := [0, 0] }, m)
  else (ts, m)
end

def IsTm (r : List Tk × Int) : RPost := fun v b G => ∃ u avs, v = .tuple #[u, .int .i64 r.2] ∧ b = [] ∧ G = [sT u avs r.1, sA avs r.1]

theorem cellsT_set0 : ∀ {ts : List Tk} {avs : List Value} {i : Nat} {x : Int}, avs.length = ts.length → i < ts.length → (cellsT ts avs).set (i * 3 + 0) (.int .i64 x) = cellsT (ts.set i { tg ts i with time := x }) avs
  | t :: ts, v :: avs, 0, x, _, _ => rfl
  | t :: ts, v :: avs, i + 1, x, h, hi => by
    have ih := cellsT_set0 (ts := ts) (avs := avs) (i := i) (x := x) (by simpa using h) (by simpa using hi)
    rw [show (i + 1) * 3 + 0 = (i * 3 + 0) + 1 + 1 + 1 by omega]
    show Value.int .i64 t.time :: Value.int .i64 t.on :: v :: (cellsT ts avs).set (i * 3 + 0) _ = _
    rw [ih]; rfl
theorem cellsT_set1 : ∀ {ts : List Tk} {avs : List Value} {i : Nat} {x : Int}, avs.length = ts.length → i < ts.length → (cellsT ts avs).set (i * 3 + 1) (.int .i64 x) = cellsT (ts.set i { tg ts i with on := x }) avs
  | t :: ts, v :: avs, 0, x, _, _ => rfl
  | t :: ts, v :: avs, i + 1, x, h, hi => by
    have ih := cellsT_set1 (ts := ts) (avs := avs) (i := i) (x := x) (by simpa using h) (by simpa using hi)
    rw [show (i + 1) * 3 + 1 = (i * 3 + 1) + 1 + 1 + 1 by omega]
    show Value.int .i64 t.time :: Value.int .i64 t.on :: v :: (cellsT ts avs).set (i * 3 + 1) _ = _
    rw [ih]; rfl
theorem cellsT_set2 : ∀ {ts : List Tk} {avs : List Value} {i : Nat} {w : Value} {l : List Int}, avs.length = ts.length → i < ts.length → (cellsT ts avs).set (i * 3 + 2) w = cellsT (ts.set i { tg ts i with after := l }) (avs.set i w)
  | t :: ts, v :: avs, 0, w, l, _, _ => rfl
  | t :: ts, v :: avs, i + 1, w, l, h, hi => by
    have ih := cellsT_set2 (ts := ts) (avs := avs) (i := i) (w := w) (l := l) (by simpa using h) (by simpa using hi)
    rw [show (i + 1) * 3 + 2 = (i * 3 + 2) + 1 + 1 + 1 by omega]
    show Value.int .i64 t.time :: Value.int .i64 t.on :: v :: (cellsT ts avs).set (i * 3 + 2) _ = _
    rw [ih]; rfl
theorem tg_set {ts : List Tk} {i j : Nat} {t : Tk} : tg (ts.set i t) j = if i = j ∧ i < ts.length then t else tg ts j := by
  simp only [tg, List.getD_eq_getElem?_getD, List.getElem?_set]
  by_cases h : i = j
  · subst h
    by_cases h2 : i < ts.length
    · simp [h2]
    · simp [h2]
  · simp [h]
theorem sA_set0 {F : List Fct} {avs : List Value} {ts : List Tk} {i : Nat} {t : Tk} (h : Has F (sA avs ts)) (ht : t.after = (tg ts i).after) : Has F (sA avs (ts.set i t)) := by
  unfold Has at *
  intro ph hf j hj
  have h1 := h ph hf j (by simpa using hj)
  rw [tg_set]; split
  · rename_i hc; rw [ht, hc.1]; exact h1
  · exact h1
theorem sA_set2 {F : List Fct} {avs : List Value} {ts : List Tk} {i : Nat} {w : Value} {l : List Int} (h : Has F (sA avs ts)) (hw : Has F (sI w l)) (hl : avs.length = ts.length) (hi : i < ts.length) : Has F (sA (avs.set i w) (ts.set i { tg ts i with after := l })) := by
  unfold Has at *
  intro ph hf j hj
  have h1 := h ph hf j (by simpa using hj)
  have h2 := hw ph hf
  rw [tg_set, getD_setV (by omega)]
  by_cases hij : i = j
  · rw [if_pos hij, if_pos ⟨hij, hi⟩]; exact h2
  · rw [if_neg hij, if_neg (fun h => hij h.1)]; exact h1
/-- the slices of the After, as many as there are tasks -/
def norm (ts : List Tk) (avs : List Value) : List Value := (List.range ts.length).map fun i => avs.getD i undef
theorem norm_len {ts : List Tk} {avs : List Value} : (norm ts avs).length = ts.length := by simp [norm]
theorem norm_get {ts : List Tk} {avs : List Value} {i : Nat} (hi : i < ts.length) : (norm ts avs).getD i undef = avs.getD i undef := by
  simp [norm, List.getD_eq_getElem?_getD, hi]
theorem sA_norm {F : List Fct} {avs : List Value} {ts : List Tk} (h : Has F (sA avs ts)) : Has F (sA (norm ts avs) ts) := by
  unfold Has at *
  intro ph hf j hj
  rw [norm_get hj]; exact h ph hf j hj
theorem norm_cells {ts : List Tk} {avs : List Value} : (List.range (ts.length * 3)).map (tcell ts avs) = cellsT ts (norm ts avs) := by
  apply List.ext_getElem?
  intro j
  by_cases hj : j < ts.length * 3
  · rw [cellsT_get j norm_len hj]
    simp only [List.getElem?_map, List.getElem?_range hj, Option.map_some]
    congr 1
    unfold tcell
    rw [norm_get (by omega)]
  · rw [List.getElem?_eq_none (by simp; omega), List.getElem?_eq_none (by rw [cellsT_len norm_len]; omega)]
section
variable {e : Env} {bx : List Ow} {bx' : Value → List Ow} {F : List Fct} {ty : TypeId} {x y : Operand} {v yv : Value} {avs : List Value} {ts : List Tk} {K : RPost}
theorem LO.bs0T (h : ∀ v, K v (Ow.slice v 48 3 [] :: bx) F) : LO Try.prog (.buildSlice 23 0 #[]) ty e bx F K := LO.buildSlice (P := Try.prog) (t := 23) (el := 48) (sz := 3) (len := 0) (parts := []) .nil (fun w => by kernel_rfl) rfl (by decide) h
theorem LO.appTs (hx : ev e x = some v) (hy : ev e y = some yv) (hT : Has F (sT yv avs ts)) (hA : Has F (sA avs ts)) (hs : ∀ v', Sel bx (.slice v 48 3 []) (.slice v' 48 3 (cellsT ts (norm ts avs))) (bx' v')) (hl : ts.length ≤ 100) (h : ∀ v', K v' (bx' v') F) :
    LO Try.prog (.call { callee := .builtin .append, args := #[x, y], argTypes := #[23, 23] }) ty e bx F K := fun k fr ac w o next Q' hop hty hk ho hn => by
  have h1 : ∀ u ∈ (List.range (ts.length * 3)).map (tcell ts avs), u.oneCell' = true := fun u hu => by
    obtain ⟨j, hj, rfl⟩ := List.mem_map.1 hu
    have hj := List.mem_range.1 hj
    unfold tcell
    split
    · rfl
    · split
      · rfl
      · obtain ⟨a, cap, he, _⟩ := (slC_is (ho.has hA (j / 3) (by omega))).is
        rw [he]; rfl
  exact LO.append T.e23 hx hy (cs := []) (news := (List.range (ts.length * 3)).map (tcell ts avs)) (bx' := bx') (by rw [norm_cells]; exact hs) (SrcE.fact hT) h1 (by simp; omega) (by simp; omega) h k fr ac w o next Q' hop hty hk ho hn
end

theorem ten_cells : (madeCells (Value.agg #[.int .i64 0, .int .i64 0, .slice none 0 0]).cells (11 * 3)).toList = cellsT (List.replicate 11 tk0) (List.replicate 11 (.slice none 0 0)) := by kernel_rfl
theorem sA_ten {F : List Fct} : Has F (sA (List.replicate 11 (.slice none 0 0)) (List.replicate 11 tk0)) := by
  have h := sI_nil (F := F)
  unfold Has at *
  intro ph hf i hi
  have h1 : (List.replicate 11 (Value.slice none 0 0)).getD i undef = .slice none 0 0 := by
    have : i < 11 := by simpa using hi
    simp only [List.getD_eq_getElem?_getD, List.getElem?_replicate, if_pos this]; rfl
  have h2 : (tg (List.replicate 11 tk0) i).after = [] := by
    have : i < 11 := by simpa using hi
    simp only [tg, List.getD_eq_getElem?_getD, List.getElem?_replicate, if_pos this]; rfl
  rw [h1, h2]; exact h ph hf
theorem Fin.tm {P : Program} {e : Env} {bx : List Ow} {F : List Fct} {fn : Func} {h0 : PH} {u : Value} {n : Int} {r : List Tk × Int}
    (hr : ResE P fn e bx F (.tuple #[u, .int .i64 n])) (hg : ge h0 ∈ F) (ts : List Tk) (avs : List Value) (hF : HasAll F [sT u avs ts, sA avs ts]) (h : r = (ts, n)) : W.Fin P fn h0 (IsTm r) e bx F := by
  subst h
  exact Fin.p [] _ hr hg (List.nil_sublist _) hF ⟨u, avs, rfl, rfl, rfl⟩
theorem WC.freezeI {P : Program} {n : Nat} {c : Code} {e : Env} {bx bx' : List Ow} {F : List Fct} {Q : Post} {v : Value} {el : Nat} {l : List Int} (hs : Sel bx (.slice v el 1 (ints l)) (.slice (.slice none 0 0) el 1 []) bx') (h : WC P n c e bx' (sI v l :: F) Q) : WC P n c e bx F Q := fun fr w0 a w hk hr ho => h fr w0 a w hk hr (ho.freeze hs (by simp) (by decide) _ fun j hj => by
    have hj' : j < l.length := by omega
    simp [hj'])
theorem YO.ldTa {P : Program} {e : Env} {bx : List Ow} {F : List Fct} {t ty : TypeId} {x : Operand} {v : Value} {ts : List Tk} {avs : List Value} {i : Nat} (hs : Scalar P t) (hx : ev e x = some (.pointer (some (eaddr v (i * 3 + 2))))) (hb : Ow.slice v 48 3 (cellsT ts avs) ∈ bx) (hl : avs.length = ts.length) (hi : i < ts.length) : YO P (.load t x) ty e bx F (avs.getD i undef) :=
  YO.ldO hs hx hb (by rw [cellsT_get _ hl (by omega), tcell2])
theorem KnS.oT {bx : List Ow} {F : List Fct} {v : Value} {ts : List Tk} {avs : List Value} (h : Ow.slice v 48 3 (cellsT ts avs) ∈ bx) (hl : avs.length = ts.length) : KnS bx F v ts.length := KnS.o h (cellsT_len hl) (by decide)
namespace Bnt
attribute [local irreducible] WC WL WD YO LO LoopEnd W.Fin Scalar SliceT FieldAt Row ArrT AllocT KnS Has W.One SrcE IntT
theorem goB {G G' : Prop} (h : G') (s : Bx G' → G := by
  intro h
  first
    | (apply WL.k_len; (apply YO.len; exact T.s23; exact rfl; (apply KnS.oT; (repeat (first | exact List.Mem.head _ | apply List.Mem.tail)); omega)); exact rfl; exact rfl)
    | (apply WL.k_indexAddr; (apply YO.ix; exact T.s23; exact rfl; exact rfl; (apply KnS.oT; (repeat (first | exact List.Mem.head _ | apply List.Mem.tail)); omega); omega); exact rfl; exact rfl)
    | (apply WL.kl_store; rotate_left; exact rfl; (apply LO.storeO1; exact rfl; exact rfl; (first | exact T.z3 | exact T.z4 | exact T.z5 | exact T.z9 | exact T.z22 | exact T.z23 | exact T.z28 | exact T.z39 | exact T.z44 | exact T.z46 | exact T.z51 | exact T.z60 | exact T.z66 | exact T.z72 | exact T.z84 | exact T.z90 | exact T.z91 | exact T.z106 | exact T.z108 | exact T.z110); (first | exact One.lit rfl rfl | (apply One.sl; (first | (focus (apply KnS.f; (focus (apply Has.mem; (repeat (first | exact List.Mem.head _ | apply List.Mem.tail)); done)); done)) | (focus (apply KnS.oI; (repeat (first | exact List.Mem.head _ | apply List.Mem.tail)); done)) | (focus (apply KnS.o1; (repeat (first | exact List.Mem.head _ | apply List.Mem.tail)); done)) | (focus (apply KnS.f; apply hasA; (focus (apply Has.mem; (repeat (first | exact List.Mem.head _ | apply List.Mem.tail)); done)); omega; done))))); (repeat (first | exact Sel.head | apply Sel.tail)); omega; exact rfl))
  exact Bx.h h) : G := s ⟨h⟩
set_option maxHeartbeats 4000000 in
set_option maxRecDepth 4000 in
theorem bent_c (vt : Value) (avs0 : List Value) (ts : List Tk) (m how byv : Int) (hn : ts.length ≤ 10) (ha : ∀ i, (tg ts i).after.length ≤ 100) (hh : I64 how) (hb : I64 byv) :
    FnB Try.prog 11 [vt, .int .i64 m, .int .i64 how, .int .i64 byv] [] [sT vt avs0 ts, sA avs0 ts] (IsTm (bentP ts m how byv)) := by
  refine fn_of [(0, vt), (1, .int .i64 m), (2, .int .i64 how), (3, .int .i64 byv)] 91 Try.func11 rfl Try.ntmps11 (by kernel_rfl) rfl (by repeat (first | exact Sub.nil _ | refine Sub.cons rfl ?_)) fun h0 => ?_
  obtain ⟨avs, hav⟩ : ∃ avs, avs = norm ts avs0 := ⟨_, rfl⟩
  have hal : avs.length = ts.length := by rw [hav, norm_len]
  have hcl := cellsT_len hal
  refine WC.fact (sA avs ts) (by rw [hav]; exact sA_norm (Has.mem (by (repeat (first | exact List.Mem.head _ | apply List.Mem.tail)); done))) ?_
  repeat' (first | refine go ?_ | refine goX ?_ | refine goB ?_ | (refine goG ?_; intro g) | (refine goV ?_; intro v))
  (apply WL.l; exact rfl; exact rfl; apply LO.bs0T; intro w0)
  repeat' (first | refine go ?_ | refine goX ?_ | refine goB ?_ | (refine goG ?_; intro g) | (refine goV ?_; intro v))
  (apply WL.l; exact rfl; exact rfl; apply LO.appTs (avs := avs0) (ts := ts); exact rfl; exact rfl; exact (Has.mem (by (repeat (first | exact List.Mem.head _ | apply List.Mem.tail)); done)); exact (Has.mem (by (repeat (first | exact List.Mem.head _ | apply List.Mem.tail)); done)); (intro v; (repeat (first | exact Sel.head | apply Sel.tail))); omega; intro w)
  rw [← hav]
  repeat' (first | refine go ?_ | refine goX ?_ | refine goB ?_ | (refine goG ?_; intro g) | (refine goV ?_; intro v))
  have hmax : 0 < max (ts.length : Int) 1 := by omega
  first | refine WL.callV (around_c byv (max (ts.length : Int) 1) hb hmax) ?_ | refine WD.callV (around_c byv (max (ts.length : Int) 1) hb hmax) ?_
  have hA := around_bd (n := byv) hmax
  obtain ⟨A, hAe⟩ : ∃ A, A = (around byv (max (ts.length : Int) 1)).toNat := ⟨_, rfl⟩
  have hAi : around byv (max (ts.length : Int) 1) = (A : Int) := by omega
  rw [hAi]
  repeat' (first | refine go ?_ | refine goX ?_ | refine goB ?_ | (refine goG ?_; intro g) | (refine goV ?_; intro v))
  first | refine WL.callV (around_c how 8 hh (by decide)) ?_ | refine WD.callV (around_c how 8 hh (by decide)) ?_
  have hk8 := around_bd (n := how) (m := 8) (by decide)
  have hbe : bentP ts m how byv = (if around how 8 = 0 then (ts, byv) else if around how 8 = 1 then (List.replicate 11 tk0, m) else if ts.length = 0 then (ts, m)
      else if around how 8 = 2 then (ts.set A { tg ts A with time := byv }, m) else if around how 8 = 3 then (ts.set A { tg ts A with on := byv }, m)
      else if around how 8 = 4 then (ts.set A { tg ts A with after := (tg ts A).after ++ [(A : Int)] }, m) else if around how 8 = 5 then (ts.set A { tg ts A with after := [-1] }, m)
      else if around how 8 = 6 then (ts.set A { tg ts A with after := [0, 0] }, m) else (ts, m)) := by rw [hAe]; rfl
  rw [hbe]
  clear hbe
  generalize hk : around how 8 = k at *
  by_cases k0 : k = 0
  · rw [if_pos k0]
    repeat' (first | refine go ?_ | refine goX ?_ | refine goB ?_ | (refine goG ?_; intro g) | (refine goV ?_; intro v))
    refine WC.freezeT ts avs (by repeat (first | exact Sel.head | apply Sel.tail)) (cellsT_len (by simpa using hal)) (fun j hj => cellsT_get j (by simpa using hal) hj) ?_
    refine WC.ret ?_
    exact Fin.tm (ResE.t2 rfl rfl rfl) (by (repeat (first | exact List.Mem.head _ | apply List.Mem.tail)); done) _ _ (by repeat (first | exact HasAll.nil | (apply HasAll.cons; (first | (focus (apply Has.mem; (repeat (first | exact List.Mem.head _ | apply List.Mem.tail)); done)) | (focus (apply hasA; (focus (apply Has.mem; (repeat (first | exact List.Mem.head _ | apply List.Mem.tail)); done)); omega; done)) | (focus (apply Has.sc; (focus (apply Has.mem; (repeat (first | exact List.Mem.head _ | apply List.Mem.tail)); done)); omega; omega; omega; done)))))) rfl
  rw [if_neg k0]
  by_cases k1 : k = 1
  · rw [if_pos k1]
    repeat' (first | refine go ?_ | refine goX ?_ | refine goB ?_ | (refine goG ?_; intro g) | (refine goV ?_; intro v))
    (apply WL.l; exact rfl; exact rfl; apply LO.make T.e23 (n := 11); exact rfl; exact rfl; decide; decide; exact ten_cells; intro w2)
    repeat' (first | refine go ?_ | refine goX ?_ | refine goB ?_ | (refine goG ?_; intro g) | (refine goV ?_; intro v))
    refine WC.freezeT (List.replicate 11 tk0) (List.replicate 11 (.slice none 0 0)) (by repeat (first | exact Sel.head | apply Sel.tail)) (cellsT_len (by simp)) (fun j hj => cellsT_get j (by simp) hj) ?_
    refine WC.fact (sA (List.replicate 11 (.slice none 0 0)) (List.replicate 11 tk0)) sA_ten ?_
    refine WC.ret ?_
    exact Fin.tm (ResE.t2 rfl rfl rfl) (by (repeat (first | exact List.Mem.head _ | apply List.Mem.tail)); done) _ _ (by repeat (first | exact HasAll.nil | (apply HasAll.cons; (first | (focus (apply Has.mem; (repeat (first | exact List.Mem.head _ | apply List.Mem.tail)); done)) | (focus (apply hasA; (focus (apply Has.mem; (repeat (first | exact List.Mem.head _ | apply List.Mem.tail)); done)); omega; done)) | (focus (apply Has.sc; (focus (apply Has.mem; (repeat (first | exact List.Mem.head _ | apply List.Mem.tail)); done)); omega; omega; omega; done)))))) rfl
  rw [if_neg k1]
  by_cases hz : ts.length = 0
  · rw [if_pos hz]
    have hz' : ¬ 0 < ts.length := by omega
    rcases (show k = 2 ∨ k = 3 ∨ k = 4 ∨ k = 5 ∨ k = 6 ∨ k = 7 by omega) with k2 | k2 | k2 | k2 | k2 | k2
    all_goals
      repeat' (first | refine go ?_ | refine goX ?_ | refine goB ?_ | (refine goG ?_; intro g) | (refine goV ?_; intro v))
      refine WC.freezeT ts avs (by repeat (first | exact Sel.head | apply Sel.tail)) (cellsT_len (by simpa using hal)) (fun j hj => cellsT_get j (by simpa using hal) hj) ?_
      refine WC.ret ?_
      exact Fin.tm (ResE.t2 rfl rfl rfl) (by (repeat (first | exact List.Mem.head _ | apply List.Mem.tail)); done) _ _ (by repeat (first | exact HasAll.nil | (apply HasAll.cons; (first | (focus (apply Has.mem; (repeat (first | exact List.Mem.head _ | apply List.Mem.tail)); done)) | (focus (apply hasA; (focus (apply Has.mem; (repeat (first | exact List.Mem.head _ | apply List.Mem.tail)); done)); omega; done)) | (focus (apply Has.sc; (focus (apply Has.mem; (repeat (first | exact List.Mem.head _ | apply List.Mem.tail)); done)); omega; omega; omega; done)))))) rfl
  rw [if_neg hz]
  have hAl : A < ts.length := by omega
  by_cases k2 : k = 2
  · rw [if_pos k2]
    repeat' (first | refine go ?_ | refine goX ?_ | refine goB ?_ | (refine goG ?_; intro g) | (refine goV ?_; intro v))
    rw [cellsT_set0 hal hAl]
    repeat' (first | refine go ?_ | refine goX ?_ | refine goB ?_ | (refine goG ?_; intro g) | (refine goV ?_; intro v))
    refine WC.freezeT (ts.set A { tg ts A with time := byv }) avs (by repeat (first | exact Sel.head | apply Sel.tail)) (cellsT_len (by simpa using hal)) (fun j hj => cellsT_get j (by simpa using hal) hj) ?_
    refine WC.fact (sA avs (ts.set A { tg ts A with time := byv })) (sA_set0 (Has.mem (by (repeat (first | exact List.Mem.head _ | apply List.Mem.tail)); done)) rfl) ?_
    refine WC.ret ?_
    exact Fin.tm (ResE.t2 rfl rfl rfl) (by (repeat (first | exact List.Mem.head _ | apply List.Mem.tail)); done) _ _ (by repeat (first | exact HasAll.nil | (apply HasAll.cons; (first | (focus (apply Has.mem; (repeat (first | exact List.Mem.head _ | apply List.Mem.tail)); done)) | (focus (apply hasA; (focus (apply Has.mem; (repeat (first | exact List.Mem.head _ | apply List.Mem.tail)); done)); omega; done)) | (focus (apply Has.sc; (focus (apply Has.mem; (repeat (first | exact List.Mem.head _ | apply List.Mem.tail)); done)); omega; omega; omega; done)))))) rfl
  rw [if_neg k2]
  by_cases k3 : k = 3
  · rw [if_pos k3]
    repeat' (first | refine go ?_ | refine goX ?_ | refine goB ?_ | (refine goG ?_; intro g) | (refine goV ?_; intro v))
    rw [cellsT_set1 hal hAl]
    repeat' (first | refine go ?_ | refine goX ?_ | refine goB ?_ | (refine goG ?_; intro g) | (refine goV ?_; intro v))
    refine WC.freezeT (ts.set A { tg ts A with on := byv }) avs (by repeat (first | exact Sel.head | apply Sel.tail)) (cellsT_len (by simpa using hal)) (fun j hj => cellsT_get j (by simpa using hal) hj) ?_
    refine WC.fact (sA avs (ts.set A { tg ts A with on := byv })) (sA_set0 (Has.mem (by (repeat (first | exact List.Mem.head _ | apply List.Mem.tail)); done)) rfl) ?_
    refine WC.ret ?_
    exact Fin.tm (ResE.t2 rfl rfl rfl) (by (repeat (first | exact List.Mem.head _ | apply List.Mem.tail)); done) _ _ (by repeat (first | exact HasAll.nil | (apply HasAll.cons; (first | (focus (apply Has.mem; (repeat (first | exact List.Mem.head _ | apply List.Mem.tail)); done)) | (focus (apply hasA; (focus (apply Has.mem; (repeat (first | exact List.Mem.head _ | apply List.Mem.tail)); done)); omega; done)) | (focus (apply Has.sc; (focus (apply Has.mem; (repeat (first | exact List.Mem.head _ | apply List.Mem.tail)); done)); omega; omega; omega; done)))))) rfl
  rw [if_neg k3]
  by_cases k4 : k = 4
  · rw [if_pos k4]
    repeat' (first | refine go ?_ | refine goX ?_ | refine goB ?_ | (refine goG ?_; intro g) | (refine goV ?_; intro v))
    have haA := ha A
    (apply WL.k_load; (apply YO.ldTa; (first | exact T.sc3 | exact T.sc4 | exact T.sc5 | exact T.sc9 | exact T.sc22 | exact T.sc23 | exact T.sc28 | exact T.sc39 | exact T.sc44 | exact T.sc46 | exact T.sc51 | exact T.sc60 | exact T.sc66 | exact T.sc72 | exact T.sc84 | exact T.sc90 | exact T.sc91 | exact T.sc106 | exact T.sc108 | exact T.sc110); exact rfl; (repeat (first | exact List.Mem.head _ | apply List.Mem.tail)); exact hal; exact hAl); exact rfl; exact rfl)
    refine WL.fact (sI (avs.getD A undef) (tg ts A).after) (hasA (Has.mem (by (repeat (first | exact List.Mem.head _ | apply List.Mem.tail)); done)) hAl) ?_
    repeat' (first | refine go ?_ | refine goX ?_ | refine goB ?_ | (refine goG ?_; intro g) | (refine goV ?_; intro v))
    rw [cellsT_set2 (l := (tg ts A).after ++ [(A : Int)]) hal hAl]
    refine WC.freezeI (el := 3) (l := (tg ts A).after ++ [(A : Int)]) (by rw [ints_append]; repeat (first | exact Sel.head | apply Sel.tail)) ?_
    refine WC.freezeT (ts.set A { tg ts A with after := (tg ts A).after ++ [(A : Int)] }) (avs.set A v) (by repeat (first | exact Sel.head | apply Sel.tail)) (cellsT_len (by simpa using hal)) (fun j hj => cellsT_get j (by simpa using hal) hj) ?_
    refine WC.fact (sA (avs.set A v) (ts.set A { tg ts A with after := (tg ts A).after ++ [(A : Int)] })) (sA_set2 (Has.mem (by (repeat (first | exact List.Mem.head _ | apply List.Mem.tail)); done)) (Has.mem (by (repeat (first | exact List.Mem.head _ | apply List.Mem.tail)); done)) hal hAl) ?_
    refine WC.ret ?_
    exact Fin.tm (ResE.t2 rfl rfl rfl) (by (repeat (first | exact List.Mem.head _ | apply List.Mem.tail)); done) _ _ (by repeat (first | exact HasAll.nil | (apply HasAll.cons; (first | (focus (apply Has.mem; (repeat (first | exact List.Mem.head _ | apply List.Mem.tail)); done)) | (focus (apply hasA; (focus (apply Has.mem; (repeat (first | exact List.Mem.head _ | apply List.Mem.tail)); done)); omega; done)) | (focus (apply Has.sc; (focus (apply Has.mem; (repeat (first | exact List.Mem.head _ | apply List.Mem.tail)); done)); omega; omega; omega; done)))))) rfl
  rw [if_neg k4]
  by_cases k5 : k = 5
  · rw [if_pos k5]
    repeat' (first | refine go ?_ | refine goX ?_ | refine goB ?_ | (refine goG ?_; intro g) | (refine goV ?_; intro v))
    rw [cellsT_set2 (l := [-1]) hal hAl]
    refine WC.freezeI (el := 3) (l := [-1]) (by repeat (first | exact Sel.head | apply Sel.tail)) ?_
    refine WC.freezeT (ts.set A { tg ts A with after := [-1] }) (avs.set A v) (by repeat (first | exact Sel.head | apply Sel.tail)) (cellsT_len (by simpa using hal)) (fun j hj => cellsT_get j (by simpa using hal) hj) ?_
    refine WC.fact (sA (avs.set A v) (ts.set A { tg ts A with after := [-1] })) (sA_set2 (Has.mem (by (repeat (first | exact List.Mem.head _ | apply List.Mem.tail)); done)) (Has.mem (by (repeat (first | exact List.Mem.head _ | apply List.Mem.tail)); done)) hal hAl) ?_
    refine WC.ret ?_
    exact Fin.tm (ResE.t2 rfl rfl rfl) (by (repeat (first | exact List.Mem.head _ | apply List.Mem.tail)); done) _ _ (by repeat (first | exact HasAll.nil | (apply HasAll.cons; (first | (focus (apply Has.mem; (repeat (first | exact List.Mem.head _ | apply List.Mem.tail)); done)) | (focus (apply hasA; (focus (apply Has.mem; (repeat (first | exact List.Mem.head _ | apply List.Mem.tail)); done)); omega; done)) | (focus (apply Has.sc; (focus (apply Has.mem; (repeat (first | exact List.Mem.head _ | apply List.Mem.tail)); done)); omega; omega; omega; done)))))) rfl
  rw [if_neg k5]
  by_cases k6 : k = 6
  · rw [if_pos k6]
    repeat' (first | refine go ?_ | refine goX ?_ | refine goB ?_ | (refine goG ?_; intro g) | (refine goV ?_; intro v))
    rw [cellsT_set2 (l := [0, 0]) hal hAl]
    refine WC.freezeI (el := 3) (l := [0, 0]) (by repeat (first | exact Sel.head | apply Sel.tail)) ?_
    refine WC.freezeT (ts.set A { tg ts A with after := [0, 0] }) (avs.set A v) (by repeat (first | exact Sel.head | apply Sel.tail)) (cellsT_len (by simpa using hal)) (fun j hj => cellsT_get j (by simpa using hal) hj) ?_
    refine WC.fact (sA (avs.set A v) (ts.set A { tg ts A with after := [0, 0] })) (sA_set2 (Has.mem (by (repeat (first | exact List.Mem.head _ | apply List.Mem.tail)); done)) (Has.mem (by (repeat (first | exact List.Mem.head _ | apply List.Mem.tail)); done)) hal hAl) ?_
    refine WC.ret ?_
    exact Fin.tm (ResE.t2 rfl rfl rfl) (by (repeat (first | exact List.Mem.head _ | apply List.Mem.tail)); done) _ _ (by repeat (first | exact HasAll.nil | (apply HasAll.cons; (first | (focus (apply Has.mem; (repeat (first | exact List.Mem.head _ | apply List.Mem.tail)); done)) | (focus (apply hasA; (focus (apply Has.mem; (repeat (first | exact List.Mem.head _ | apply List.Mem.tail)); done)); omega; done)) | (focus (apply Has.sc; (focus (apply Has.mem; (repeat (first | exact List.Mem.head _ | apply List.Mem.tail)); done)); omega; omega; omega; done)))))) rfl
  rw [if_neg k6]
  repeat' (first | refine go ?_ | refine goX ?_ | refine goB ?_ | (refine goG ?_; intro g) | (refine goV ?_; intro v))
  refine WC.freezeT ts avs (by repeat (first | exact Sel.head | apply Sel.tail)) hcl (fun j hj => cellsT_get j hal hj) ?_
  refine WC.ret ?_
  exact Fin.tm (ResE.t2 rfl rfl rfl) (by (repeat (first | exact List.Mem.head _ | apply List.Mem.tail)); done) _ _ (by repeat (first | exact HasAll.nil | (apply HasAll.cons; (first | (focus (apply Has.mem; (repeat (first | exact List.Mem.head _ | apply List.Mem.tail)); done)) | (focus (apply hasA; (focus (apply Has.mem; (repeat (first | exact List.Mem.head _ | apply List.Mem.tail)); done)); omega; done)) | (focus (apply Has.sc; (focus (apply Has.mem; (repeat (first | exact List.Mem.head _ | apply List.Mem.tail)); done)); omega; omega; omega; done)))))) rfl
end Bnt
end Go.Proofs.Ytgacbfckaglhbaa
