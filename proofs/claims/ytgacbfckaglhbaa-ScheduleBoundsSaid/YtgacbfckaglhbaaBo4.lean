/- Lemmas for the proof of a law: Contracts of the program: lists of a plan. Conditions: none. -/
import Derived.Test.YtgacbfckaglhbaaBo3
import Derived.Test.YtgacbfckaglhbaaBo2
import Derived.DeepKeys3
import Derived.WideKeyRuns
import Derived.Carry
import Derived.Laws.Tables
namespace Go.Proofs.Ytgacbfckaglhbaa
open W Go.RowKit
attribute [local irreducible] WC WL WD YO LO LoopEnd W.Fin Scalar SliceT FieldAt Row ArrT AllocT KnS Has W.One SrcE IntT

theorem lists_c (p0 : Nat) (L : List Int) (n : Nat) (hn : n ≤ 10) (hL : L.length = 26) :
    FnB Try.prog 34 [ptr p0, .int .i64 n] [] [ce p0 70 (ints L)] (IsL ((L.drop 0).take n, (L.drop 10).take n, L.getD 25 0, 0)) := by
  refine fn_of [(0, ptr p0), (1, .int .i64 n)] 24 Try.func34 rfl Try.ntmps34 (by kernel_rfl) rfl (by repeat (first | exact Sub.nil _ | refine Sub.cons rfl ?_)) fun h0 => ?_
  have l1 : ((L.drop 0).take n).length ≤ 100 := by simp only [List.length_take]; omega
  have l2 : ((L.drop 10).take n).length ≤ 100 := by simp only [List.length_take]; omega
  repeat' (first | refine go ?_ | refine goX ?_ | refine goB ?_ | (refine goG ?_; intro g) | (refine goV ?_; intro v) | refine goD ?_ | refine goXD ?_ | (refine goDG ?_; intro g) | (refine goDV ?_; intro v) | (apply WC.draw (id := 1) [0, 1, 2, 3, 4, 6, 7, 8, 9, 10, 12, 13, 14, 15, 16, 17, 18, 19] (.held 0 (.held 1 (.held 2 (.held 3 (.held 4 (.held 6 (.held 7 (.held 8 (.held 9 (.held 10 (.held 12 (.held 13 (.held 14 (.held 15 (.loud 5 (.loud 11 (.held 16 (.held 17 (.held 18 (.held 19 (.done))))))))))))))))))))) mixed (by kernel_rfl)))
  first | refine WL.callO (clone_c _ ((L.drop 0).take n) l1) (fun rv => ?_) | refine WD.callO (clone_c _ ((L.drop 0).take n) l1) (fun rv => ?_)
  repeat' (first | refine go ?_ | refine goX ?_ | refine goB ?_ | (refine goG ?_; intro g) | (refine goV ?_; intro v) | refine goD ?_ | refine goXD ?_ | (refine goDG ?_; intro g) | (refine goDV ?_; intro v) | (apply WC.draw (id := 1) [0, 1, 2, 3, 4, 6, 7, 8, 9, 10, 12, 13, 14, 15, 16, 17, 18, 19] (.held 0 (.held 1 (.held 2 (.held 3 (.held 4 (.held 6 (.held 7 (.held 8 (.held 9 (.held 10 (.held 12 (.held 13 (.held 14 (.held 15 (.loud 5 (.loud 11 (.held 16 (.held 17 (.held 18 (.held 19 (.done))))))))))))))))))))) mixed (by kernel_rfl)))
  first | refine WL.callO (clone_c _ ((L.drop 10).take n) l2) (fun rv => ?_) | refine WD.callO (clone_c _ ((L.drop 10).take n) l2) (fun rv => ?_)
  repeat' (first | refine go ?_ | refine goX ?_ | refine goB ?_ | (refine goG ?_; intro g) | (refine goV ?_; intro v) | refine goD ?_ | refine goXD ?_ | (refine goDG ?_; intro g) | (refine goDV ?_; intro v) | (apply WC.draw (id := 1) [0, 1, 2, 3, 4, 6, 7, 8, 9, 10, 12, 13, 14, 15, 16, 17, 18, 19] (.held 0 (.held 1 (.held 2 (.held 3 (.held 4 (.held 6 (.held 7 (.held 8 (.held 9 (.held 10 (.held 12 (.held 13 (.held 14 (.held 15 (.loud 5 (.loud 11 (.held 16 (.held 17 (.held 18 (.held 19 (.done))))))))))))))))))))) mixed (by kernel_rfl)))
  refine WC.ret ?_
  exact Fin.l (ResE.t4 rfl rfl rfl rfl rfl) (by (repeat (first | exact List.Mem.head _ | apply List.Mem.tail)); done) (by repeat (first | exact List.Sublist.refl _ | exact List.nil_sublist _ | apply List.Sublist.cons_cons | apply List.Sublist.cons)) _ _ rfl rfl rfl
end Go.Proofs.Ytgacbfckaglhbaa
namespace Go.Proofs.Ytgacbfckaglhbaa
open W Go.RowKit
attribute [local irreducible] WC WL WD YO LO LoopEnd W.Fin Scalar SliceT FieldAt Row ArrT AllocT KnS Has W.One SrcE IntT

theorem list1_c (g1 g2 : Nat) (o : List Int) (u : Value) (k : Nat) (hk : k ≤ o.length) (x : Int) :
    FnB Try.prog 43 ([.int .i64 x] ++ [ptr g1, ptr g2]) [] [ce g1 22 [u], ce g2 3 [.int .i64 k], sI u o] (IsV (.bool (!decide (x ∈ o.take k)))) := by
  refine fn_of [(0, .int .i64 x), (1, ptr g1), (2, ptr g2)] 11 Try.func43 rfl Try.ntmps43 (by kernel_rfl) rfl (by repeat (first | exact Sub.nil _ | refine Sub.cons rfl ?_)) fun h0 => ?_
  repeat' (first | refine go ?_ | refine goX ?_ | refine goB ?_ | (refine goG ?_; intro g) | (refine goV ?_; intro v))
  have hs : HasAll [ge h0, ce g1 22 [u], ce g2 3 [.int .i64 k], sI u o] [sI (resl u 0 k 1) (o.take k)] := .cons (Has.takeI (Has.mem (by (repeat (first | exact List.Mem.head _ | apply List.Mem.tail)); done)) hk) .nil
  refine WL.l rfl rfl (LO.callV rfl (by repeat (first | exact Evs.nil | (apply Evs.cons; exact rfl))) (contains_c (resl u 0 k 1) (o.take k) x) hs ?_)
  by_cases h : x ∈ o.take k
  · rw [decide_eq_true h]
    repeat' (first | refine go ?_ | refine goX ?_ | refine goB ?_ | (refine goG ?_; intro g) | (refine goV ?_; intro v))
    refine WC.ret ?_
    exact Fin.v (ResE.t1 rfl rfl) (by (repeat (first | exact List.Mem.head _ | apply List.Mem.tail)); done) rfl
  · rw [decide_eq_false h]
    repeat' (first | refine go ?_ | refine goX ?_ | refine goB ?_ | (refine goG ?_; intro g) | (refine goV ?_; intro v))
    refine WC.ret ?_
    exact Fin.v (ResE.t1 rfl rfl) (by (repeat (first | exact List.Mem.head _ | apply List.Mem.tail)); done) rfl
end Go.Proofs.Ytgacbfckaglhbaa
namespace Go.Proofs.Ytgacbfckaglhbaa
open W Go.RowKit
attribute [local irreducible] WC WL WD YO LO LoopEnd W.Fin Scalar SliceT FieldAt Row ArrT AllocT KnS Has W.One SrcE IntT

theorem lis_B {ts : List Tk} {M : Nat} (hg : AllGood M ts) (hM : M ≤ 4) (hn : ts.length ≤ 10) {o : List Int} (ho : ∀ j, j < o.length → 0 ≤ o.getD j 0 ∧ o.getD j 0 < ts.length) : ∀ j, j ≤ o.length → PlB (lisN ts M o j) (40 * j)
  | 0, _ => ⟨by simp [lisN], fun j _ => by simp only [lisN, List.getD_eq_getElem?_getD, List.getElem?_replicate]; split <;> simp, by simp [lisN]⟩
  | j + 1, hj => by
    have h := lis_B hg hM hn ho j (by omega)
    have h1 := ho j (by omega)
    have hi : (o.getD j 0).toNat < ts.length := by omega
    have hb := bestQ_bd (ts := ts) (L := lisN ts M o j) (i := (o.getD j 0).toNat) M
    have gi := hg _ hi
    have hbp := bestQ_pos (ts := ts) (L := lisN ts M o j) (i := (o.getD j 0).toNat) (n := M) (good_may hM gi.o1 gi.o2)
    have := withP_B hg hn h (by omega) hi (k := (bestQ ts (lisN ts M o j) (o.getD j 0).toNat M).toNat) (by omega)
    rw [show (40 * ((j + 1 : Nat) : Int)) = 40 * (j : Int) + 40 by omega]
    exact this

set_option maxRecDepth 4000 in
theorem listed_c (v u : Value) (avs : List Value) (ts : List Tk) (M : Nat) (o : List Int) (hg : AllGood M ts) (hM : M ≤ 4) (hn : ts.length ≤ 10) (hol : o.length ≤ 10) (ho : ∀ j, j < o.length → 0 ≤ o.getD j 0 ∧ o.getD j 0 < ts.length) :
    FnB Try.prog 32 [v, .int .i64 M, u] [] [sT v avs ts, sA avs ts, sI u o] (IsV (.agg (ints (lisN ts M o o.length)).toArray)) := by
  refine fn_of [(0, v), (1, .int .i64 M), (2, u)] 54 Try.func32 rfl Try.ntmps32 (by kernel_rfl) rfl (by repeat (first | exact Sub.nil _ | refine Sub.cons rfl ?_)) fun h0 => ?_
  have hbo := good_on hg hM
  repeat' (first | refine go ?_ | refine goX ?_ | refine goB ?_ | (refine goG ?_; intro g) | (refine goV ?_; intro v))
  rename_i p0
  refine WC.lp (σ := Nat) (fun j => [(14, .int .i64 (j : Int)), (13, .int .i64 (o.length : Int)), (12, u), (7, ptr g), (6, ptr p0), (0, v), (1, .int .i64 M)]) (fun j => [Ow.cells g 70 (ints (lisN ts M o j)), Ow.cells p0 70 (ints (List.replicate 26 0))]) (fun _ => [ge h0, sT v avs ts, sA avs ts, sI u o]) (fun j => j ≤ o.length) (fun j => o.length - j) 0 (by simp) ?_ (by repeat (first | exact Sub.nil _ | refine Sub.cons rfl ?_)) (by repeat (first | exact List.Sublist.refl _ | exact List.nil_sublist _ | apply List.Sublist.cons_cons | apply List.Sublist.cons)) (by repeat (first | exact HasAll.nil | (apply HasAll.cons; (focus (apply Has.mem; (repeat (first | exact List.Mem.head _ | apply List.Mem.tail)); done)))))
  rintro j hj
  have hB := lis_B hg hM hn ho j hj
  have hP := hB.ok (by omega)
  have hPl := hP.len
  by_cases hlt : j < o.length
  · obtain ⟨o1, o2⟩ := ho j hlt
    obtain ⟨i, hi⟩ := Int.eq_ofNat_of_zero_le o1
    have hi' : o.getD j 0 = (i : Int) := hi
    have hit : i < ts.length := by omega
    have gi := hg i hit
    have hoi := hbo i
    have e0 : lisN ts M o (j + 1) = withP ts (lisN ts M o j) i (bestQ ts (lisN ts M o j) i M).toNat := by simp only [lisN, hi', Int.toNat_natCast]
    generalize hLd : lisN ts M o j = L at *
    have hbp := bestQ_pos (ts := ts) (L := L) (i := i) (n := M) (good_may hM gi.o1 gi.o2)
    have hbm := bestQ_bd (ts := ts) (L := L) (i := i) M
    repeat' (first | refine go ?_ | refine goX ?_ | refine goB ?_ | (refine goG ?_; intro g) | (refine goV ?_; intro v))
    rw [hi']
    refine WC.lp (σ := Nat) (fun k => [(19, .int .i64 (k : Int)), (18, .int .i64 (M : Int)), (10, .int .i64 (bestQ ts L i k)), (9, .int .i64 (i : Int)), (14, .int .i64 (j : Int)), (13, .int .i64 (o.length : Int)), (12, u), (7, ptr g), (6, ptr p0), (0, v), (1, .int .i64 M)]) (fun _ => [Ow.cells g 70 (ints L), Ow.cells p0 70 (ints (List.replicate 26 0))]) (fun _ => [ge h0, sT v avs ts, sA avs ts, sI u o]) (fun k => k ≤ M) (fun k => M - k) 0 (by simp) ?_ (by repeat (first | exact Sub.nil _ | refine Sub.cons rfl ?_)) (by repeat (first | exact List.Sublist.refl _ | exact List.nil_sublist _ | apply List.Sublist.cons_cons | apply List.Sublist.cons)) (by repeat (first | exact HasAll.nil | (apply HasAll.cons; (focus (apply Has.mem; (repeat (first | exact List.Mem.head _ | apply List.Mem.tail)); done)))))
    rintro k hk
    by_cases hkM : k < M
    · have e : bestQ ts L i (k + 1) = _ := rfl
      conv at e => rhs; unfold bestQ
      have hbk := bestQ_bd (ts := ts) (L := L) (i := i) k
      have hmi := may_iff (o := (tg ts i).on) (k := k) hoi.1 (by omega)
      have hsb := shr_bd (o := (tg ts i).on) ((k : Int)).toNat hoi.1
      by_cases d1 : (tg ts i).on / 2 ^ ((k : Int)).toNat % 2 = 1
      · by_cases d2 : bestQ ts L i k < 0
        · rw [if_pos ⟨hmi.2 d1, .inl d2⟩] at e
          repeat' (first | refine go ?_ | refine goX ?_ | refine goB ?_ | (refine goG ?_; intro g) | (refine goV ?_; intro v))
          exact LoopEnd.mk (k + 1) (by omega) (by omega) (by rw [e]; exact (by repeat (first | exact Sub.nil _ | refine Sub.cons rfl ?_))) (by repeat (first | exact List.Sublist.refl _ | exact List.nil_sublist _ | apply List.Sublist.cons_cons | apply List.Sublist.cons)) (by repeat (first | exact HasAll.nil | (apply HasAll.cons; (focus (apply Has.mem; (repeat (first | exact List.Mem.head _ | apply List.Mem.tail)); done)))))
        · repeat' (first | refine go ?_ | refine goX ?_ | refine goB ?_ | (refine goG ?_; intro g) | (refine goV ?_; intro v))
          first | refine WL.callV (earliest_c g L v avs ts M i k hg hn hit (by omega) hP) ?_ | refine WD.callV (earliest_c g L v avs ts M i k hg hn hit (by omega) hP) ?_
          obtain ⟨b, hb⟩ := Int.eq_ofNat_of_zero_le (show 0 ≤ bestQ ts L i k by omega)
          have hb' : bestQ ts L i k = (b : Int) := hb
          rw [hb'] at e ⊢
          repeat' (first | refine go ?_ | refine goX ?_ | refine goB ?_ | (refine goG ?_; intro g) | (refine goV ?_; intro v))
          first | refine WL.callV (earliest_c g L v avs ts M i b hg hn hit (by omega) hP) ?_ | refine WD.callV (earliest_c g L v avs ts M i b hg hn hit (by omega) hP) ?_
          by_cases d3 : earlP ts L i k < earlP ts L i b
          · rw [if_pos ⟨hmi.2 d1, .inr (by simpa using d3)⟩] at e
            repeat' (first | refine go ?_ | refine goX ?_ | refine goB ?_ | (refine goG ?_; intro g) | (refine goV ?_; intro v))
            exact LoopEnd.mk (k + 1) (by omega) (by omega) (by rw [e]; exact (by repeat (first | exact Sub.nil _ | refine Sub.cons rfl ?_))) (by repeat (first | exact List.Sublist.refl _ | exact List.nil_sublist _ | apply List.Sublist.cons_cons | apply List.Sublist.cons)) (by repeat (first | exact HasAll.nil | (apply HasAll.cons; (focus (apply Has.mem; (repeat (first | exact List.Mem.head _ | apply List.Mem.tail)); done)))))
          · rw [if_neg (fun h => by rcases h.2 with h | h; omega; exact d3 (by simpa using h))] at e
            repeat' (first | refine go ?_ | refine goX ?_ | refine goB ?_ | (refine goG ?_; intro g) | (refine goV ?_; intro v))
            exact LoopEnd.mk (k + 1) (by omega) (by omega) (by rw [e]; exact (by repeat (first | exact Sub.nil _ | refine Sub.cons rfl ?_))) (by repeat (first | exact List.Sublist.refl _ | exact List.nil_sublist _ | apply List.Sublist.cons_cons | apply List.Sublist.cons)) (by repeat (first | exact HasAll.nil | (apply HasAll.cons; (focus (apply Has.mem; (repeat (first | exact List.Mem.head _ | apply List.Mem.tail)); done)))))
      · rw [if_neg (fun h => d1 (hmi.1 h.1))] at e
        repeat' (first | refine go ?_ | refine goX ?_ | refine goB ?_ | (refine goG ?_; intro g) | (refine goV ?_; intro v))
        exact LoopEnd.mk (k + 1) (by omega) (by omega) (by rw [e]; exact (by repeat (first | exact Sub.nil _ | refine Sub.cons rfl ?_))) (by repeat (first | exact List.Sublist.refl _ | exact List.nil_sublist _ | apply List.Sublist.cons_cons | apply List.Sublist.cons)) (by repeat (first | exact HasAll.nil | (apply HasAll.cons; (focus (apply Has.mem; (repeat (first | exact List.Mem.head _ | apply List.Mem.tail)); done)))))
    · obtain rfl : k = M := by omega
      obtain ⟨b, hb⟩ := Int.eq_ofNat_of_zero_le hbp
      have hb' : bestQ ts L i k = (b : Int) := hb
      rw [hb'] at e0 ⊢
      rw [show ((b : Int)).toNat = b from rfl] at e0
      have hwl : (withP ts L i b).length = 26 := by simp [withP, hPl]
      repeat' (first | refine go ?_ | refine goX ?_ | refine goB ?_ | (refine goG ?_; intro g) | (refine goV ?_; intro v))
      first | refine WL.callV (with_c g L v avs ts k i b hg hn hit (by omega) hP) ?_ | refine WD.callV (with_c g L v avs ts k i b hg hn hit (by omega) hP) ?_
      repeat' (first | refine go ?_ | refine goX ?_ | refine goB ?_ | (refine goG ?_; intro g) | (refine goV ?_; intro v))
      exact LoopEnd.mk (j + 1) (by omega) (by omega) (by repeat (first | exact Sub.nil _ | refine Sub.cons rfl ?_)) (by rw [e0]; exact (by repeat (first | exact List.Sublist.refl _ | exact List.nil_sublist _ | apply List.Sublist.cons_cons | apply List.Sublist.cons))) (by repeat (first | exact HasAll.nil | (apply HasAll.cons; (focus (apply Has.mem; (repeat (first | exact List.Mem.head _ | apply List.Mem.tail)); done)))))
  · obtain rfl : j = o.length := by omega
    repeat' (first | refine go ?_ | refine goX ?_ | refine goB ?_ | (refine goG ?_; intro g) | (refine goV ?_; intro v))
    refine WC.ret ?_
    exact Fin.v (ResE.cI rfl rfl (by (repeat (first | exact List.Mem.head _ | apply List.Mem.tail)); done) T.r70 hPl) (by (repeat (first | exact List.Mem.head _ | apply List.Mem.tail)); done) rfl
end Go.Proofs.Ytgacbfckaglhbaa
namespace Go.Proofs.Ytgacbfckaglhbaa

/-- when the last task on a machine ends -/
def freeN (ts : List Tk) (st on : List Int) (k : Int) : Nat → Int
  | 0 => 0
  | j + 1 => if 0 ≤ st.getD j 0 ∧ on.getD j 0 = k then max (freeN ts st on k j) (st.getD j 0 + (tg ts j).time) else freeN ts st on k j

theorem freeN_ub {ts : List Tk} {st on : List Int} {k : Int} {j : Nat} (h : 0 ≤ st.getD j 0) (h2 : on.getD j 0 = k) : ∀ {n : Nat}, j < n → st.getD j 0 + (tg ts j).time ≤ freeN ts st on k n
  | 0, hj => by omega
  | n + 1, hj => by
    by_cases hjn : j = n
    · subst hjn; rw [freeN, if_pos ⟨h, h2⟩]; omega
    · have := @freeN_ub ts st on k j h h2 n (by omega)
      rw [freeN]; split <;> omega
theorem freeN_lub {ts : List Tk} {st on : List Int} {k B : Int} (hB : 0 ≤ B) : ∀ {n : Nat}, (∀ j, j < n → 0 ≤ st.getD j 0 → on.getD j 0 = k → st.getD j 0 + (tg ts j).time ≤ B) → freeN ts st on k n ≤ B
  | 0, _ => by simpa [freeN] using hB
  | n + 1, h => by
    have h1 := @freeN_lub ts st on k B hB n fun j hj => h j (by omega)
    rw [freeN]; split
    · rename_i hc; have := h n (by omega) hc.1 hc.2; omega
    · exact h1
theorem freeN_nonneg {ts : List Tk} {st on : List Int} {k : Int} : ∀ n, 0 ≤ freeN ts st on k n
  | 0 => by simp [freeN]
  | n + 1 => by have := @freeN_nonneg ts st on k n; rw [freeN]; split <;> omega
theorem placeN_ub {ts : List Tk} {st on : List Int} {i : Nat} {k : Int} {j : Nat} (h : 0 ≤ st.getD j 0) (h2 : on.getD j 0 = k ∨ (j : Int) ∈ (tg ts i).after) : ∀ {n : Nat}, j < n → st.getD j 0 + (tg ts j).time ≤ placeN ts st on i k n
  | 0, hj => by omega
  | n + 1, hj => by
    by_cases hjn : j = n
    · subst hjn; rw [placeN, if_pos ⟨h, h2⟩]; omega
    · have := @placeN_ub ts st on i k j h h2 n (by omega)
      rw [placeN]; split <;> omega
theorem placeN_lub {ts : List Tk} {st on : List Int} {i : Nat} {k B : Int} (hB : 0 ≤ B) : ∀ {n : Nat}, (∀ j, j < n → 0 ≤ st.getD j 0 → (on.getD j 0 = k ∨ (j : Int) ∈ (tg ts i).after) → st.getD j 0 + (tg ts j).time ≤ B) → placeN ts st on i k n ≤ B
  | 0, _ => by simpa [placeN] using hB
  | n + 1, h => by
    have h1 := @placeN_lub ts st on i k B hB n fun j hj => h j (by omega)
    rw [placeN]; split
    · rename_i hc; have := h n (by omega) hc.1 hc.2; omega
    · exact h1
theorem earlN_ub0 {ts : List Tk} {L : List Int} {i k : Nat} : ∀ n, L.getD (20 + k) 0 ≤ earlN ts L i k n
  | 0 => by simp [earlN]
  | n + 1 => by have := @earlN_ub0 ts L i k n; rw [earlN]; omega
theorem earlN_ub {ts : List Tk} {L : List Int} {i k q : Nat} : ∀ {n : Nat}, q < n → L.getD ((tg ts i).after.getD q 0).toNat 0 + (tg ts ((tg ts i).after.getD q 0).toNat).time ≤ earlN ts L i k n
  | 0, h => by omega
  | n + 1, h => by
    by_cases hq : q = n
    · subst hq; rw [earlN]; omega
    · have := @earlN_ub ts L i k q n (by omega); rw [earlN]; omega
theorem earlN_lub {ts : List Tk} {L : List Int} {i k : Nat} {B : Int} (h0 : L.getD (20 + k) 0 ≤ B) : ∀ {n : Nat}, (∀ q, q < n → L.getD ((tg ts i).after.getD q 0).toNat 0 + (tg ts ((tg ts i).after.getD q 0).toNat).time ≤ B) → earlN ts L i k n ≤ B
  | 0, _ => by simpa [earlN] using h0
  | n + 1, h => by
    have h1 := @earlN_lub ts L i k B h0 n fun q hq => h q (by omega)
    have := h n (by omega)
    rw [earlN]; omega

/-- a plan and lists of starts and machines that say the same -/
structure Rel (ts : List Tk) (L st on : List Int) (ln : Int) : Prop where
  l0 : L.length = 26
  l1 : st.length = ts.length
  l2 : on.length = ts.length
  done : 0 ≤ L.getD 24 0 ∧ L.getD 24 0 < 1024
  bit : ∀ i, (L.getD 24 0).toNat.testBit i = decide (i < ts.length ∧ 0 ≤ st.getD i 0)
  sq : ∀ i, i < ts.length → 0 ≤ st.getD i 0 → L.getD i 0 = st.getD i 0 ∧ L.getD (10 + i) 0 = on.getD i 0
  free : ∀ k : Nat, k < 4 → L.getD (20 + k) 0 = freeN ts st on k ts.length
  len : L.getD 25 0 = ln

theorem after_mem {l : List Int} {x : Int} (h : x ∈ l) : ∃ q, q < l.length ∧ l.getD q 0 = x := by
  obtain ⟨q, hq, he⟩ := List.mem_iff_getElem.1 h
  exact ⟨q, hq, by rw [List.getD_eq_getElem?_getD, List.getElem?_eq_getElem hq]; simpa using he⟩
theorem mem_after {l : List Int} {q : Nat} (h : q < l.length) : l.getD q 0 ∈ l := by
  rw [List.getD_eq_getElem?_getD, List.getElem?_eq_getElem h]; exact List.getElem_mem _

theorem Rel.earl {M : Nat} {ts : List Tk} (hg : AllGood M ts) {L st on : List Int} {ln : Int} (h : Rel ts L st on ln) {i k : Nat} (hi : i < ts.length) (hk : k < 4) (hr : ∀ q, q < (tg ts i).after.length → 0 ≤ st.getD ((tg ts i).after.getD q 0).toNat 0) : earlP ts L i k = placeP ts st on i k := by
  have hf := h.free k hk
  apply Int.le_antisymm
  · refine earlN_lub (by rw [hf]; exact freeN_lub (placeN_nonneg _) fun j hj h1 h2 => placeN_ub h1 (.inl h2) hj) fun q hq => ?_
    have ha := good_after hg hi q hq
    have hs := hr q hq
    have he := (h.sq ((tg ts i).after.getD q 0).toNat (by omega) hs).1
    rw [he]
    exact placeN_ub hs (.inr (by rw [Int.toNat_of_nonneg ha.1]; exact mem_after hq)) (by omega)
  · refine placeN_lub (Int.le_trans (by rw [hf]; exact freeN_nonneg _) (earlN_ub0 _)) fun j hj h1 h2 => ?_
    rcases h2 with h2 | h2
    · exact Int.le_trans (freeN_ub h1 h2 hj) (by rw [← hf]; exact earlN_ub0 _)
    · obtain ⟨q, hq, he⟩ := after_mem h2
      have h3 := @earlN_ub ts L i k q _ hq
      rw [he, Int.toNat_natCast, (h.sq j hj h1).1] at h3
      exact h3

theorem orInt_bit {a : Int} {i j : Nat} : (orInt a (2 ^ i)).toNat.testBit j = (a.toNat.testBit j || decide (i = j)) := by
  unfold orInt
  have : ((2 : Int) ^ i).toNat = 2 ^ i := by
    have : ((2 : Int) ^ i) = ((2 ^ i : Nat) : Int) := by simp
    rw [this, Int.toNat_natCast]
  rw [Int.toNat_natCast, this, Nat.testBit_or, Nat.testBit_two_pow]

theorem freeN_set {ts : List Tk} {st on : List Int} {i : Nat} {e k k' : Int} (hi : i < ts.length) (hs : st.length = ts.length) (ho : on.length = ts.length) (hni : st.getD i 0 < 0) (he : 0 ≤ e) (hfe : freeN ts st on k ts.length ≤ e) (ht : 0 ≤ (tg ts i).time) :
    freeN ts (st.set i e) (on.set i k) k' ts.length = if k' = k then e + (tg ts i).time else freeN ts st on k' ts.length := by
  have g1 : ∀ j, (st.set i e).getD j 0 = if i = j then e else st.getD j 0 := fun j => by rw [getD_set]; by_cases h : i = j <;> simp [h]; omega
  have g2 : ∀ j, (on.set i k).getD j 0 = if i = j then k else on.getD j 0 := fun j => by rw [getD_set]; by_cases h : i = j <;> simp [h]; omega
  split
  · rename_i hk; subst hk
    apply Int.le_antisymm
    · refine freeN_lub (by omega) fun j hj h1 h2 => ?_
      rw [g1] at h1 ⊢; rw [g2] at h2
      by_cases hij : i = j
      · subst hij; simp
      · rw [if_neg hij] at h1 h2 ⊢
        have := freeN_ub (ts := ts) h1 h2 hj; omega
    · have := freeN_ub (ts := ts) (st := st.set i e) (on := on.set i k') (k := k') (j := i) (by rw [g1]; simpa using he) (by rw [g2]; simp) hi
      rw [g1] at this; simpa using this
  · rename_i hk
    apply Int.le_antisymm
    · refine freeN_lub (freeN_nonneg _) fun j hj h1 h2 => ?_
      rw [g1] at h1 ⊢; rw [g2] at h2
      by_cases hij : i = j
      · rw [if_pos hij] at h2; exact absurd h2.symm hk
      · rw [if_neg hij] at h1 h2 ⊢
        exact freeN_ub h1 h2 hj
    · refine freeN_lub (freeN_nonneg _) fun j hj h1 h2 => ?_
      have hij : i ≠ j := by rintro rfl; omega
      have := freeN_ub (ts := ts) (st := st.set i e) (on := on.set i k) (k := k') (j := j) (by rw [g1, if_neg hij]; exact h1) (by rw [g2, if_neg hij]; exact h2) hj
      rw [g1, if_neg hij] at this; exact this

theorem free_le_place {ts : List Tk} {st on : List Int} {i : Nat} {k : Int} : freeN ts st on k ts.length ≤ placeP ts st on i k :=
  freeN_lub (placeN_nonneg _) fun _ hj h1 h2 => placeN_ub h1 (.inl h2) hj

theorem Rel.step {M : Nat} {ts : List Tk} (hg : AllGood M ts) (hn : ts.length ≤ 10) {L st on : List Int} {ln : Int} (h : Rel ts L st on ln) {i k : Nat} (hi : i < ts.length) (hk : k < 4) (hr : readyP ts st i) :
    Rel ts (withP ts L i k) (st.set i (placeP ts st on i k)) (on.set i k) (max ln (placeP ts st on i k + (tg ts i).time)) := by
  have he := h.earl hg hi hk hr.2
  have hl := h.l0
  have ht := good_time hg i
  have hp0 : 0 ≤ placeP ts st on i k := placeN_nonneg _
  have h1 := h.l1
  have h2 := h.l2
  have hd := orInt_bd h.done.1 h.done.2 (i := i) (by omega)
  have e24 : (withP ts L i k).getD 24 0 = orInt (L.getD 24 0) (2 ^ i) := by
    unfold withP; simp only [getD_set]
    rw [if_neg (by omega), if_pos (by simp [hl])]
  have e25 : (withP ts L i k).getD 25 0 = max (L.getD 25 0) (placeP ts st on i k + (tg ts i).time) := by
    unfold withP; simp only [getD_set]
    rw [if_pos (by simp [hl]), he]
  have efr : ∀ k' : Nat, k' < 4 → (withP ts L i k).getD (20 + k') 0 = if k' = k then placeP ts st on i k + (tg ts i).time else L.getD (20 + k') 0 := fun k' hk' => by
    unfold withP; simp only [getD_set]
    rw [if_neg (by omega), if_neg (by omega)]
    by_cases hkk : k' = k
    · subst hkk; rw [if_pos (by simp [hl]; omega), if_pos rfl, he]
    · rw [if_neg (by omega), if_neg hkk, if_neg (by omega), if_neg (by omega)]
  have est : ∀ j : Nat, j < 10 → (withP ts L i k).getD j 0 = if i = j then placeP ts st on i k else L.getD j 0 := fun j hj => by
    unfold withP; simp only [getD_set]
    rw [if_neg (by omega), if_neg (by omega), if_neg (by omega), if_neg (by omega)]
    by_cases hij : i = j
    · subst hij; rw [if_pos (by simp [hl]; omega), if_pos rfl, he]
    · rw [if_neg (by omega), if_neg hij]
  have eon : ∀ j : Nat, j < 10 → (withP ts L i k).getD (10 + j) 0 = if i = j then (k : Int) else L.getD (10 + j) 0 := fun j hj => by
    unfold withP; simp only [getD_set]
    rw [if_neg (by omega), if_neg (by omega), if_neg (by omega)]
    by_cases hij : i = j
    · subst hij; rw [if_pos (by simp [hl]; omega), if_pos rfl]
    · rw [if_neg (by omega), if_neg hij, if_neg (by omega)]
  refine ⟨by simp [withP, hl], by simpa using h1, by simpa using h2, by rw [e24]; exact hd, fun j => ?_, fun j hj hs => ?_, fun k' hk' => ?_, by rw [e25, h.len]⟩
  · rw [e24, orInt_bit, h.bit, getD_set]
    by_cases hij : i = j
    · subst hij; simp [hi, h1, hp0]
    · simp [hij]
  · rw [est j (by omega), eon j (by omega)]
    rw [getD_set] at hs ⊢
    rw [getD_set]
    by_cases hij : i = j
    · subst hij; simp [h1, h2, hi]
    · simp only [hij, false_and, if_false] at hs ⊢
      exact h.sq j hj hs
  · rw [efr k' hk', freeN_set hi h1 h2 hr.1 hp0 free_le_place ht.1]
    by_cases hkk : k' = k
    · subst hkk; simp
    · rw [if_neg hkk, if_neg (by omega), h.free k' hk']

theorem Rel.best {M : Nat} {ts : List Tk} (hg : AllGood M ts) {L st on : List Int} {ln : Int} (h : Rel ts L st on ln) {i : Nat} (hi : i < ts.length) (hr : readyP ts st i) : ∀ {n : Nat}, n ≤ 4 → bestQ ts L i n = bestN ts st on i n
  | 0, _ => rfl
  | n + 1, hn => by
    have ih := h.best hg hi hr (n := n) (by omega)
    have hb := bestQ_bd (ts := ts) (L := L) (i := i) n
    unfold bestQ bestN
    rw [ih] at hb ⊢
    by_cases hneg : bestN ts st on i n < 0
    · simp [hneg]
    · have e1 := h.earl hg hi (k := n) (by omega) hr.2
      have e2 := h.earl hg hi (k := (bestN ts st on i n).toNat) (by omega) hr.2
      rw [Int.toNat_of_nonneg (by omega)] at e2
      simp only [e1, e2]

theorem rel_none {M : Nat} {ts : List Tk} (hn : ts.length ≤ 10) : Rel ts (List.replicate 26 0) (List.replicate ts.length (-1)) (List.replicate ts.length (-1)) 0 := by
  have hz : ∀ j, (List.replicate 26 (0 : Int)).getD j 0 = 0 := fun j => by
    simp only [List.getD_eq_getElem?_getD, List.getElem?_replicate]; split <;> simp
  have hm : ∀ j, j < ts.length → (List.replicate ts.length (-1 : Int)).getD j 0 = -1 := fun j hj => by simp [hj]
  refine ⟨by simp, by simp, by simp, by simp, fun i => ?_, fun i hi hs => ?_, fun k hk => ?_, by simp⟩
  · rw [hz]
    by_cases hi : i < ts.length
    · rw [hm i hi]; simp
    · simp [hi]
  · rw [hm i hi] at hs; omega
  · rw [hz]
    apply Int.le_antisymm (freeN_nonneg _)
    refine freeN_lub (Int.le_refl _) fun j hj hs _ => ?_
    rw [hm j hj] at hs; omega

theorem lis_lst {M : Nat} {ts : List Tk} (hg : AllGood M ts) (hM : M ≤ 4) (hn : ts.length ≤ 10) {o : List Int} : ∀ j, okOrder ts M o j → Rel ts (lisN ts M o j) (lstN ts M o j).1 (lstN ts M o j).2.1 (lstN ts M o j).2.2
  | 0, _ => rel_none (M := M) hn
  | j + 1, h => by
    have ih := lis_lst hg hM hn (o := o) j fun q hq => h q (by omega)
    obtain ⟨h1, h2, h3⟩ := h j (by omega)
    have hi : (o.getD j 0).toNat < ts.length := by omega
    have gi := hg _ hi
    have hb := ih.best hg hi h3 hM
    have hbp := bestN_pos (ts := ts) (st := (lstN ts M o j).1) (on := (lstN ts M o j).2.1) (i := (o.getD j 0).toNat) (n := M) (good_may hM gi.o1 gi.o2)
    have hbb := bestN_bd (ts := ts) (st := (lstN ts M o j).1) (on := (lstN ts M o j).2.1) (i := (o.getD j 0).toNat) M
    have := ih.step hg hn hi (k := (bestQ ts (lisN ts M o j) (o.getD j 0).toNat M).toNat) (by omega) h3
    rw [hb, Int.toNat_of_nonneg hbp.1] at this
    unfold lisN lstN
    rw [hb]
    exact this

/-- all tasks are placed: the plan's lists are those -/
theorem Rel.lists {ts : List Tk} (hn : ts.length ≤ 10) {L st on : List Int} {ln : Int} (h : Rel ts L st on ln) (hall : ∀ i, i < ts.length → 0 ≤ st.getD i 0) : (L.drop 0).take ts.length = st ∧ (L.drop 10).take ts.length = on := by
  have hl := h.l0
  have h1 := h.l1
  have h2 := h.l2
  constructor
  · refine same_all (by simp; omega) fun j hj => ?_
    have hj' : j < ts.length := by simp at hj; omega
    have := (h.sq j hj' (hall j hj')).1
    rw [← this]
    simp only [List.getD_eq_getElem?_getD, List.getElem?_take, List.getElem?_drop, hj', if_true, Nat.zero_add]
  · refine same_all (by simp; omega) fun j hj => ?_
    have hj' : j < ts.length := by simp at hj; omega
    have := (h.sq j hj' (hall j hj')).2
    rw [← this]
    simp only [List.getD_eq_getElem?_getD, List.getElem?_take, List.getElem?_drop, hj', if_true]
end Go.Proofs.Ytgacbfckaglhbaa
namespace Go.Proofs.Ytgacbfckaglhbaa

theorem getD_lt {l : List Int} {q : Nat} (h : q < l.length) : l.getD q 0 = l[q] := by simp [h]
theorem take_succ_mem {l : List Int} {j : Nat} {x : Int} (h : j < l.length) : x ∈ l.take (j + 1) ↔ x ∈ l.take j ∨ x = l.getD j 0 := by
  rw [List.take_succ_eq_append_getElem h, List.mem_append, List.mem_singleton, getD_lt h]

theorem lst_placed {M : Nat} {ts : List Tk} {o : List Int} : ∀ j, j ≤ o.length → okOrder ts M o j → ∀ a : Nat, a < ts.length → (0 ≤ (lstN ts M o j).1.getD a 0 ↔ (a : Int) ∈ o.take j)
  | 0, _, _, a, ha => by simp [lstN, ha]
  | j + 1, hj, h, a, ha => by
    have ih := lst_placed (M := M) (ts := ts) (o := o) j (by omega) (fun q hq => h q (by omega)) a ha
    obtain ⟨h1, h2, h3⟩ := h j (by omega)
    have hlen : (lstN ts M o j).1.length = ts.length := by
      clear ih h1 h2 h3 h hj
      induction j with
      | zero => simp [lstN]
      | succ j ih => simpa [lstN] using ih
    rw [take_succ_mem (by omega), ← ih]
    simp only [lstN]
    rw [getD_set]
    have hp := placeN_nonneg (ts := ts) (st := (lstN ts M o j).1) (on := (lstN ts M o j).2.1) (i := (o.getD j 0).toNat) (k := bestN ts (lstN ts M o j).1 (lstN ts M o j).2.1 (o.getD j 0).toNat M) ts.length
    split
    · rename_i hc
      constructor
      · intro _; right; omega
      · intro _; exact hp
    · rename_i hc
      constructor
      · intro h; exact .inl h
      · rintro (h | h)
        · exact h
        · exfalso; apply hc; omega

theorem okAt_iff {M : Nat} {ts : List Tk} {o : List Int} {j : Nat} (hg : AllGood M ts) (hj : j < o.length) (h : okOrder ts M o j) {i : Nat} (he : o.getD j 0 = i) (hi : i < ts.length) :
    okAt ts M o j ↔ (i : Int) ∉ o.take j ∧ ((tg ts i).after.any fun a => !decide (a ∈ o.take j)) = false := by
  have hp := lst_placed (M := M) (ts := ts) (o := o) j (by omega) h
  unfold okAt readyP
  rw [he, Int.toNat_natCast]
  constructor
  · rintro ⟨_, _, h1, h2⟩
    refine ⟨fun hc => by have := (hp i hi).2 hc; omega, ?_⟩
    rw [List.any_eq_false]
    intro a ha
    obtain ⟨q, hq, rfl⟩ := after_mem ha
    have hb := good_after hg hi q hq
    have := (hp ((tg ts i).after.getD q 0).toNat (by omega)).1 (h2 q hq)
    rw [Int.toNat_of_nonneg hb.1] at this
    simpa using this
  · rintro ⟨h1, h2⟩
    refine ⟨by omega, by omega, ?_, fun q hq => ?_⟩
    · have := mt (hp i hi).1 h1; omega
    · have hb := good_after hg hi q hq
      rw [List.any_eq_false] at h2
      have := h2 _ (mem_after hq)
      rw [hp _ (by omega), Int.toNat_of_nonneg hb.1]
      simpa using this

theorem ok_nodup {M : Nat} {ts : List Tk} {o : List Int} : ∀ j, j ≤ o.length → okOrder ts M o j → (o.take j).Nodup ∧ ∀ x ∈ o.take j, 0 ≤ x ∧ x < ts.length
  | 0, _, _ => by simp
  | j + 1, hj, h => by
    have ih := ok_nodup (M := M) (ts := ts) (o := o) j (by omega) fun q hq => h q (by omega)
    obtain ⟨h1, h2, h3⟩ := h j (by omega)
    have hp := lst_placed (M := M) (ts := ts) (o := o) j (by omega) (fun q hq => h q (by omega)) (o.getD j 0).toNat (by omega)
    rw [Int.toNat_of_nonneg h1] at hp
    have hni : o.getD j 0 ∉ o.take j := fun hc => by have := hp.2 hc; have := h3.1; omega
    rw [List.take_succ_eq_append_getElem (by omega), ← getD_lt (by omega)]
    refine ⟨?_, fun x hx => ?_⟩
    · rw [List.nodup_append]
      exact ⟨ih.1, by simp, fun a ha b hb => by simp at hb; subst hb; rintro rfl; exact hni ha⟩
    · rcases List.mem_append.1 hx with hx | hx
      · exact ih.2 x hx
      · simp at hx; subst hx; simpa using ⟨h1, h2⟩

/-- a whole order places all tasks -/
theorem ok_all {M : Nat} {ts : List Tk} {o : List Int} (hl : o.length = ts.length) (h : okOrder ts M o ts.length) (i : Nat) (hi : i < ts.length) : 0 ≤ (lstN ts M o ts.length).1.getD i 0 := by
  rw [lst_placed ts.length (by omega) h i hi]
  obtain ⟨h1, h2⟩ := ok_nodup (M := M) (ts := ts) (o := o) ts.length (by omega) h
  apply Classical.byContradiction
  intro hc
  have := nodup_lt (n := ts.length) (l := (i : Int) :: o.take ts.length) (List.nodup_cons.2 ⟨hc, h1⟩) (by
    intro x hx
    rcases List.mem_cons.1 hx with rfl | hx
    · omega
    · exact h2 x hx)
  simp at this; omega
end Go.Proofs.Ytgacbfckaglhbaa
namespace Go.Proofs.Ytgacbfckaglhbaa
open W Go.RowKit
attribute [local irreducible] WC WL WD YO LO LoopEnd W.Fin Scalar SliceT FieldAt Row ArrT AllocT KnS Has W.One SrcE IntT

set_option maxHeartbeats 2000000 in
set_option maxRecDepth 4000 in
theorem list_c (v u : Value) (avs : List Value) (ts : List Tk) (m : Int) (o : List Int) (hi64 : TI64 ts) :
    FnB Try.prog 20 [v, .int .i64 m, u] [] [sT v avs ts, sA avs ts, sI u o] (IsL (listP ts m o)) := by
  refine fn_of [(0, v), (1, .int .i64 m), (2, u)] 68 Try.func20 rfl Try.ntmps20 (by kernel_rfl) rfl (by repeat (first | exact Sub.nil _ | refine Sub.cons rfl ?_)) fun h0 => ?_
  refine WC.lenI u o (Has.mem (by (repeat (first | exact List.Mem.head _ | apply List.Mem.tail)); done)) fun hlo => ?_
  repeat' (first | refine go ?_ | refine goX ?_ | refine goB ?_ | (refine goG ?_; intro g) | (refine goV ?_; intro v))
  revert g; intro p0
  first | refine WL.callV (valid_c v avs ts m hi64) ?_ | refine WD.callV (valid_c v avs ts m hi64) ?_
  by_cases h : validE ts m = 0
  · rw [h]
    by_cases h1 : o.length = ts.length
    · obtain ⟨hl, M, rfl, hM1, hM4, hg⟩ := validE_0 h
      repeat' (first | refine go ?_ | refine goX ?_ | refine goB ?_ | (refine goG ?_; intro g) | (refine goV ?_; intro v))
      refine WC.lp (σ := Nat) (fun k => [(27, .int .i64 (k : Int)), (26, .int .i64 (o.length : Int)), (25, u), (5, ptr p0), (0, v), (1, .int .i64 M)]) (fun _ => [Ow.cells p0 22 [u]]) (fun _ => [ge h0, sT v avs ts, sA avs ts, sI u o]) (fun k => k ≤ o.length ∧ okOrder ts M o k) (fun k => o.length - k) 0 ⟨by simp, by simp [okOrder]⟩ ?_
      rintro k ⟨hk, hok⟩
      by_cases hlt : k < o.length
      · by_cases c1 : o.getD k 0 < 0
        · repeat' (first | refine go ?_ | refine goX ?_ | refine goB ?_ | (refine goG ?_; intro g) | (refine goV ?_; intro v))
          refine WC.addNil 3 1 (WC.addNil 3 1 (WC.ret ?_))
          exact Fin.l (ResE.t4 rfl rfl rfl rfl rfl) (by (repeat (first | exact List.Mem.head _ | apply List.Mem.tail)); done) (by repeat (first | exact List.Sublist.refl _ | exact List.nil_sublist _ | apply List.Sublist.cons_cons | apply List.Sublist.cons)) [] [] rfl rfl (by rw [listP_no h h1 (by omega : k < ts.length)]; intro hc; have := hc.1; omega)
        by_cases c2 : ts.length ≤ o.getD k 0
        · repeat' (first | refine go ?_ | refine goX ?_ | refine goB ?_ | (refine goG ?_; intro g) | (refine goV ?_; intro v))
          refine WC.addNil 3 1 (WC.addNil 3 1 (WC.ret ?_))
          exact Fin.l (ResE.t4 rfl rfl rfl rfl rfl) (by (repeat (first | exact List.Mem.head _ | apply List.Mem.tail)); done) (by repeat (first | exact List.Sublist.refl _ | exact List.nil_sublist _ | apply List.Sublist.cons_cons | apply List.Sublist.cons)) [] [] rfl rfl (by rw [listP_no h h1 (by omega : k < ts.length)]; intro hc; have := hc.2.1; omega)
        obtain ⟨i, hi⟩ := Int.eq_ofNat_of_zero_le (show 0 ≤ o.getD k 0 by omega)
        have hi' : o.getD k 0 = (i : Int) := hi
        have hit : i < ts.length := by omega
        have hiff := okAt_iff hg hlt hok hi' hit
        have hno : ¬ okAt ts M o k → listP ts M o = ([], [], 0, 1) := listP_no h h1 (by omega : k < ts.length)
        repeat' (first | refine go ?_ | refine goX ?_ | refine goB ?_ | (refine goG ?_; intro g) | (refine goV ?_; intro v))
        rw [hi']
        refine WL.callV (contains_c (resl u 0 k 1) (o.take k) i) ?_ (hF := .cons (HasB.f (Has.takeI (Has.mem (by (repeat (first | exact List.Mem.head _ | apply List.Mem.tail)); done)) hk)) .nil)
        by_cases d1 : (i : Int) ∈ o.take k
        · rw [decide_eq_true d1]
          repeat' (first | refine go ?_ | refine goX ?_ | refine goB ?_ | (refine goG ?_; intro g) | (refine goV ?_; intro v))
          refine WC.addNil 3 1 (WC.addNil 3 1 (WC.ret ?_))
          exact Fin.l (ResE.t4 rfl rfl rfl rfl rfl) (by (repeat (first | exact List.Mem.head _ | apply List.Mem.tail)); done) (by repeat (first | exact List.Sublist.refl _ | exact List.nil_sublist _ | apply List.Sublist.cons_cons | apply List.Sublist.cons)) [] [] rfl rfl (by rw [hno]; intro hc; exact (hiff.1 hc).1 d1)
        · rw [decide_eq_false d1]
          repeat' (first | refine go ?_ | refine goX ?_ | refine goB ?_ | (refine goG ?_; intro g) | (refine goV ?_; intro v))
          have hF : FnAt 43 [ptr p0, ptr g] [ce p0 22 [u], ce g 3 [.int .i64 k], sI u o] (tg ts i).after (fun a => !decide (a ∈ o.take k)) := fun x _ => list1_c p0 g o u k hk x
          first | refine WL.callV (containsF_c (avs.getD i undef) (tg ts i).after 43 [ptr p0, ptr g] _ _ hF) ?_ | refine WD.callV (containsF_c (avs.getD i undef) (tg ts i).after 43 [ptr p0, ptr g] _ _ hF) ?_
          cases d2 : ((tg ts i).after.any fun a => !decide (a ∈ o.take k)) with
          | true =>
            repeat' (first | refine go ?_ | refine goX ?_ | refine goB ?_ | (refine goG ?_; intro g) | (refine goV ?_; intro v))
            refine WC.addNil 3 1 (WC.addNil 3 1 (WC.ret ?_))
            exact Fin.l (ResE.t4 rfl rfl rfl rfl rfl) (by (repeat (first | exact List.Mem.head _ | apply List.Mem.tail)); done) (by repeat (first | exact List.Sublist.refl _ | exact List.nil_sublist _ | apply List.Sublist.cons_cons | apply List.Sublist.cons)) [] [] rfl rfl (by rw [hno]; intro hc; have := (hiff.1 hc).2; rw [d2] at this; cases this)
          | false =>
            repeat' (first | refine go ?_ | refine goX ?_ | refine goB ?_ | (refine goG ?_; intro g) | (refine goV ?_; intro v))
            exact LoopEnd.mk (k + 1) ⟨by omega, upto_succ hok (hiff.2 ⟨d1, d2⟩)⟩ (by omega)
      · obtain rfl : k = o.length := by omega
        have hbd : ∀ j, j < o.length → 0 ≤ o.getD j 0 ∧ o.getD j 0 < ts.length := fun j hj => ⟨(hok j hj).1, (hok j hj).2.1⟩
        have hB := lis_B hg hM4 hl hbd o.length (Nat.le_refl _)
        have hLl := hB.len
        have hR := lis_lst hg hM4 hl o.length hok
        rw [h1] at hR hok
        have hR2 := hR.lists hl (ok_all h1 hok)
        have e1 : lisN ts M o o.length = lisN ts M o ts.length := by rw [h1]
        repeat' (first | refine go ?_ | refine goX ?_ | refine goB ?_ | (refine goG ?_; intro g) | (refine goV ?_; intro v))
        first | refine WL.callV (listed_c v u avs ts M o hg hM4 hl (by omega) hbd) ?_ | refine WD.callV (listed_c v u avs ts M o hg hM4 hl (by omega) hbd) ?_
        repeat' (first | refine go ?_ | refine goX ?_ | refine goB ?_ | (refine goG ?_; intro g) | (refine goV ?_; intro v))
        first | refine WL.callP (lists_c g (lisN ts M o o.length) ts.length hl hLl) ?_ | refine WD.callP (lists_c g (lisN ts M o o.length) ts.length hl hLl) ?_
        rintro _ _ _ ⟨a, c, rfl, rfl, rfl⟩
        repeat' (first | refine go ?_ | refine goX ?_ | refine goB ?_ | (refine goG ?_; intro g) | (refine goV ?_; intro v))
        refine WC.ret ?_
        exact Fin.l (ResE.t4 rfl rfl rfl rfl rfl) (by (repeat (first | exact List.Mem.head _ | apply List.Mem.tail)); done) (by repeat (first | exact List.Sublist.refl _ | exact List.nil_sublist _ | apply List.Sublist.cons_cons | apply List.Sublist.cons)) _ _ rfl rfl (by rw [listP_ok h h1 hok, e1, hR2.1, hR2.2, hR.len])
    · have h1' : (o.length : Int) ≠ ts.length := by omega
      repeat' (first | refine go ?_ | refine goX ?_ | refine goB ?_ | (refine goG ?_; intro g) | (refine goV ?_; intro v))
      refine WC.addNil 3 1 (WC.addNil 3 1 (WC.ret ?_))
      exact Fin.l (ResE.t4 rfl rfl rfl rfl rfl) (by (repeat (first | exact List.Mem.head _ | apply List.Mem.tail)); done) (by repeat (first | exact List.Sublist.refl _ | exact List.nil_sublist _ | apply List.Sublist.cons_cons | apply List.Sublist.cons)) [] [] rfl rfl (by rw [listP_l h h1])
  · repeat' (first | refine go ?_ | refine goX ?_ | refine goB ?_ | (refine goG ?_; intro g) | (refine goV ?_; intro v))
    refine WC.addNil 3 1 (WC.addNil 3 1 (WC.ret ?_))
    exact Fin.l (ResE.t4 rfl rfl rfl rfl rfl) (by (repeat (first | exact List.Mem.head _ | apply List.Mem.tail)); done) (by repeat (first | exact List.Sublist.refl _ | exact List.nil_sublist _ | apply List.Sublist.cons_cons | apply List.Sublist.cons)) [] [] rfl rfl (by rw [listP_e h])
end Go.Proofs.Ytgacbfckaglhbaa
namespace Go.Proofs.Ytgacbfckaglhbaa
open W Go.RowKit
attribute [local irreducible] WC WL WD YO LO LoopEnd W.Fin Scalar SliceT FieldAt Row ArrT AllocT KnS Has W.One SrcE IntT

set_option maxHeartbeats 1000000 in
set_option maxRecDepth 4000 in
theorem load_c (s p : Nat) (v mp : Value) (avs : List Value) (ts : List Tk) (M : Nat) (goal : Int) (B L : List Int) (on : Nat) (hg : AllGood M ts) (hn : ts.length ≤ 10) (hM : M ≤ 4) (hB : B.length = 26) (hL : PlOK L) (h1 : 1 ≤ on) (h2 : on < 16) :
    FnB Try.prog 48 [ptr s, ptr p, .int .i64 on] [] [ce s 74 (srch v M goal B mp), ce p 70 (ints L), sT v avs ts, sA avs ts] (IsV (.int .i64 (loadP ts M L on))) := by
  refine fn_of [(0, ptr s), (1, ptr p), (2, .int .i64 on)] 72 Try.func48 rfl Try.ntmps48 (by kernel_rfl) rfl (by repeat (first | exact Sub.nil _ | refine Sub.cons rfl ?_)) fun h0 => ?_
  have hlen := hL.len
  have ht := good_time hg
  have hbo := good_on hg hM
  have hdone := hL.bd 24
  have hpop := popP_bd h1 h2
  repeat' (first | refine go ?_ | refine goX ?_ | refine goB ?_ | (refine goG ?_; intro g) | (refine goV ?_; intro v))
  refine WC.lp (σ := Nat) (fun k => [(16, .int .i64 (k : Int)), (15, .int .i64 (M : Int)), (7, .int .i64 (freeS L on k)), (0, ptr s), (1, ptr p), (2, .int .i64 on)]) (fun _ => []) (fun _ => [ge h0, ce s 74 (srch v M goal B mp), ce p 70 (ints L), sT v avs ts, sA avs ts]) (fun k => k ≤ M) (fun k => M - k) 0 (by simp) ?_
  rintro k hk
  have hf := freeS_bd (on := on) hL k
  by_cases hlt : k < M
  · have hd := div_bd (o := (on : Int)) ((k : Int)).toNat (by omega)
    have hfk := hL.bd (20 + k)
    have e : freeS L on (k + 1) = if bitI on (k : Int) = 1 then freeS L on k + L.getD (20 + k) 0 else freeS L on k := rfl
    by_cases c : (on : Int) / 2 ^ ((k : Int)).toNat % 2 = 1
    · rw [if_pos c] at e
      repeat' (first | refine go ?_ | refine goX ?_ | refine goB ?_ | (refine goG ?_; intro g) | (refine goV ?_; intro v))
      exact LoopEnd.mk (k + 1) (by omega) (by omega) (by rw [e]; exact (by repeat (first | exact Sub.nil _ | refine Sub.cons rfl ?_)))
    · rw [if_neg c] at e
      repeat' (first | refine go ?_ | refine goX ?_ | refine goB ?_ | (refine goG ?_; intro g) | (refine goV ?_; intro v))
      exact LoopEnd.mk (k + 1) (by omega) (by omega) (by rw [e]; exact (by repeat (first | exact Sub.nil _ | refine Sub.cons rfl ?_)))
  · obtain rfl : k = M := by omega
    repeat' (first | refine go ?_ | refine goX ?_ | refine goB ?_ | (refine goG ?_; intro g) | (refine goV ?_; intro v))
    refine WC.lp (σ := Nat) (fun i => [(38, .int .i64 (i : Int)), (37, .int .i64 (ts.length : Int)), (36, v), (7, .int .i64 (freeS L on k + timeS ts L on i)), (1, ptr p), (2, .int .i64 on)]) (fun _ => []) (fun _ => [ge h0, ce s 74 (srch v k goal B mp), ce p 70 (ints L), sT v avs ts, sA avs ts]) (fun i => i ≤ ts.length) (fun i => ts.length - i) 0 (by simp) ?_ (by simp only [timeS, Int.add_zero]; exact (by repeat (first | exact Sub.nil _ | refine Sub.cons rfl ?_)))
    rintro i hi
    have htb := timeS_bd (L := L) (on := on) ht i
    by_cases hlt : i < ts.length
    · have hd := div_bd (o := L.getD 24 0) ((i : Int)).toNat (by omega)
      have hti := ht i
      have hoi := hbo i
      have e : timeS ts L on (i + 1) = if bitI (L.getD 24 0) (i : Int) = 0 ∧ anot (tg ts i).on on = 0 then timeS ts L on i + (tg ts i).time else timeS ts L on i := rfl
      by_cases c : L.getD 24 0 / 2 ^ ((i : Int)).toNat % 2 = 0
      · by_cases c2 : anot (tg ts i).on on = 0
        · rw [if_pos ⟨c, c2⟩] at e
          repeat' (first | refine go ?_ | refine goX ?_ | refine goB ?_ | (refine goG ?_; intro g) | (refine goV ?_; intro v))
          exact LoopEnd.mk (i + 1) (by omega) (by omega) (by rw [e, ← Int.add_assoc]; exact (by repeat (first | exact Sub.nil _ | refine Sub.cons rfl ?_)))
        · rw [if_neg fun h => c2 h.2] at e
          repeat' (first | refine go ?_ | refine goX ?_ | refine goB ?_ | (refine goG ?_; intro g) | (refine goV ?_; intro v))
          exact LoopEnd.mk (i + 1) (by omega) (by omega) (by rw [e]; exact (by repeat (first | exact Sub.nil _ | refine Sub.cons rfl ?_)))
      · rw [if_neg fun h => c h.1] at e
        repeat' (first | refine go ?_ | refine goX ?_ | refine goB ?_ | (refine goG ?_; intro g) | (refine goV ?_; intro v))
        exact LoopEnd.mk (i + 1) (by omega) (by omega) (by rw [e]; exact (by repeat (first | exact Sub.nil _ | refine Sub.cons rfl ?_)))
    · obtain rfl : i = ts.length := by omega
      repeat' (first | refine go ?_ | refine goX ?_ | refine goB ?_ | (refine goG ?_; intro g) | (refine goV ?_; intro v))
      first | refine WL.callV (ones_c on h2) ?_ | refine WD.callV (ones_c on h2) ?_
      repeat' (first | refine go ?_ | refine goX ?_ | refine goB ?_ | (refine goG ?_; intro g) | (refine goV ?_; intro v))
      refine WC.ret ?_
      exact Fin.v (ResE.t1 rfl rfl) (by (repeat (first | exact List.Mem.head _ | apply List.Mem.tail)); done) rfl
end Go.Proofs.Ytgacbfckaglhbaa
namespace Go.Proofs.Ytgacbfckaglhbaa
open W Go.RowKit
attribute [local irreducible] WC WL WD YO LO LoopEnd W.Fin Scalar SliceT FieldAt Row ArrT AllocT KnS Has W.One SrcE IntT

def setsF {σ : Type} (step : σ → Nat → σ × Bool) : Nat → Nat → σ → σ
  | 0, _, s => s
  | c + 1, n, s => if (step s n).2 then setsF step c (n + 1) (step s n).1 else (step s n).1

/-- what a function value leaves -/
def IsB (v : Value) (B : List Ow) : RPost := fun u b G => u = v ∧ b = B ∧ G = []

theorem pow_nat (M : Nat) : ((2 : Int) ^ M) = ((2 ^ M : Nat) : Int) := by simp

set_option maxHeartbeats 1000000 in
theorem sets_c {σ : Type} (M : Nat) (hM : M ≤ 4) (f : FuncId) (cap : List Value) (F : List Fct) (B : σ → List Ow) (I : σ → Prop) (step : σ → Nat → σ × Bool)
    (hI : ∀ s n, I s → 1 ≤ n → n < 2 ^ M → I (step s n).1)
    (hf : ∀ (s : σ) (n : Nat), I s → 1 ≤ n → n < 2 ^ M → FnB Try.prog f ([.int .i64 n] ++ cap) (B s) F (IsB (.bool (step s n).2) (B (step s n).1))) (s0 : σ) (h0 : I s0) :
    FnB Try.prog 46 [.int .i64 M, .func (.func f) #[] cap.toArray] (B s0) F (IsB (.tuple #[]) (B (setsF step (2 ^ M - 1) 1 s0))) := by
  refine fn_of [(0, .int .i64 M), (1, .func (.func f) #[] cap.toArray)] 15 Try.func46 rfl Try.ntmps46 (by kernel_rfl) rfl (by repeat (first | exact Sub.nil _ | refine Sub.cons rfl ?_)) fun h00 => ?_
  have hp := pow_16 hM
  have hp1 := pow_1 M
  have e5 := pow_e M
  have hpn := pow_nat M
  have c5 : (1 : Int) * 2 ^ ((M : Int)).toNat ≤ 9223372036854775807 := by rw [e5]; omega
  have c6 : -9223372036854775808 ≤ (1 : Int) * 2 ^ ((M : Int)).toNat := by rw [e5]; omega
  repeat' (first | refine go ?_ | refine goX ?_ | refine goB ?_ | (refine goG ?_; intro g) | (refine goV ?_; intro v))
  refine WC.lp (σ := Nat × σ) (fun s => [(4, .int .i64 (s.1 : Int)), (0, .int .i64 M), (1, .func (.func f) #[] cap.toArray)]) (fun s => B s.2) (fun _ => ge h00 :: F) (fun s => (1 ≤ s.1 ∧ s.1 ≤ 2 ^ M) ∧ I s.2 ∧ setsF step (2 ^ M - s.1) s.1 s.2 = setsF step (2 ^ M - 1) 1 s0) (fun s => 2 ^ M - s.1) (1, s0) ⟨⟨by simp, by show 1 ≤ 2 ^ M; omega⟩, h0, rfl⟩ ?_ (by repeat (first | exact Sub.nil _ | refine Sub.cons rfl ?_)) (by repeat (first | exact List.Sublist.refl _ | exact List.nil_sublist _ | apply List.Sublist.cons_cons | apply List.Sublist.cons)) (HasAll.tail fun _ h => h)
  rintro ⟨n, s⟩ ⟨⟨hn1, hn2⟩, hs, hset⟩
  simp only at hn1 hn2 hs hset ⊢
  by_cases hlt : n < 2 ^ M
  · have c7 : (n : Int) < (1 : Int) * 2 ^ ((M : Int)).toNat := by rw [e5]; omega
    rw [show 2 ^ M - n = (2 ^ M - (n + 1)) + 1 by omega, setsF] at hset
    repeat' (first | refine go ?_ | refine goX ?_ | refine goB ?_ | (refine goG ?_; intro g) | (refine goV ?_; intro v))
    refine WL.l rfl rfl (LO.call (first := []) (cap := cap) rfl (by repeat (first | exact Evs.nil | (apply Evs.cons; exact rfl))) (B s) [] (by rw [List.append_nil]) (hf s n hs hn1 hlt) (fun g hg => Has.mem (List.mem_cons_of_mem _ hg)) ?_)
    rintro _ _ _ ⟨rfl, rfl, rfl⟩
    rw [List.append_nil, List.nil_append]
    cases hb : (step s n).2 with
    | true =>
      rw [hb, if_pos rfl] at hset
      repeat' (first | refine go ?_ | refine goX ?_ | refine goB ?_ | (refine goG ?_; intro g) | (refine goV ?_; intro v))
      exact LoopEnd.mk (n + 1, (step s n).1) ⟨⟨by show 1 ≤ n + 1; omega, by show n + 1 ≤ 2 ^ M; omega⟩, hI s n hs hn1 hlt, hset⟩ (by show 2 ^ M - (n + 1) < 2 ^ M - n; omega) (by repeat (first | exact Sub.nil _ | refine Sub.cons rfl ?_)) (by repeat (first | exact List.Sublist.refl _ | exact List.nil_sublist _ | apply List.Sublist.cons_cons | apply List.Sublist.cons)) (HasAll.tail fun _ h => h)
    | false =>
      rw [hb, if_neg (by simp)] at hset
      repeat' (first | refine go ?_ | refine goX ?_ | refine goB ?_ | (refine goG ?_; intro g) | (refine goV ?_; intro v))
      refine WC.ret ?_
      exact Fin.p (B (step s n).1) [] (ResE.t0 rfl) (by (repeat (first | exact List.Mem.head _ | apply List.Mem.tail)); done) (List.Sublist.refl _) .nil ⟨rfl, by rw [hset], rfl⟩
  · have c7 : (1 : Int) * 2 ^ ((M : Int)).toNat ≤ (n : Int) := by rw [e5]; omega
    obtain rfl : n = 2 ^ M := by omega
    rw [Nat.sub_self, setsF] at hset
    repeat' (first | refine go ?_ | refine goX ?_ | refine goB ?_ | (refine goG ?_; intro g) | (refine goV ?_; intro v))
    exact Fin.p (B s) [] (ResE.t0 rfl) (by (repeat (first | exact List.Mem.head _ | apply List.Mem.tail)); done) (List.Sublist.refl _) .nil ⟨rfl, by rw [hset], rfl⟩
end Go.Proofs.Ytgacbfckaglhbaa
namespace Go.Proofs.Ytgacbfckaglhbaa
open W Go.RowKit
namespace W
inductive Rem : List Ow → Ow → List Ow → Prop where
  | head {b : Ow} {l : List Ow} : Rem (b :: l) b l
  | tail {b c : Ow} {l l' : List Ow} : Rem l b l' → Rem (c :: l) b (c :: l')
theorem Rem.perm {l l' : List Ow} {b : Ow} (h : Rem l b l') : l.Perm (b :: l') := by
  induction h with
  | head => exact .refl _
  | tail _ ih => exact (ih.cons _).trans (.swap _ _ _)
section
variable {P : Program} {n : Nat} {L rest : List Oper} {e : Env} {bx bx' b0 ba br : List Ow} {F F0 F' : List Fct} {c : Code} {g : Nat} {t : TypeId} {cs : List Value} {hs : List Nat} {r : Plan}
theorem OK.keep {fr : PH} {w : World} (h : OK fr bx F w) (hr : Rem bx (.cells g t cs) bx') : OK fr bx' (ce g t cs :: F) w := by
  have hp := h.perm hr.perm
  have hd : OK fr bx' F w := hp.drop (List.sublist_cons_self _ _)
  refine hd.add (f := ce g t cs) ?_
  have hh := hp.owns _ List.mem_cons_self
  have hnd := hp.nodup
  have hap := hp.apart g (by simp [ids, Ow.ids])
  simp only [ids, List.flatMap_cons, Ow.ids, List.singleton_append, List.nodup_cons] at hnd
  show imm fr bx' w.heap g = _
  unfold imm
  rw [if_neg]
  · exact hh
  · simp only [hap, Option.isSome_none, Bool.false_or, List.contains_iff_mem]; exact hnd.1
theorem WL.keep {Q : Env → List Ow → List Fct → Prop} (hr : Rem bx (.cells g t cs) bx') (h : WL P n L rest e bx' (ce g t cs :: F) Q) : WL P n L rest e bx F Q := fun fr w0 a w Q' hQ hk hrr ho => h fr w0 a w Q' hQ hk hrr (ho.keep hr)
theorem WC.keep {Q : Post} (hr : Rem bx (.cells g t cs) bx') (h : WC P n c e bx' (ce g t cs :: F) Q) : WC P n c e bx F Q := fun fr w0 a w hk hrr ho => h fr w0 a w hk hrr (ho.keep hr)

variable {f : FuncId} {x : Operand} {args : List Operand} {ats : Array TypeId} {vs first cap : List Value} {R : RPost} {Q : Env → List Ow → List Fct → Prop} {d : Nat} {ty : TypeId} {pos : String} {af : Array Edge} {gd : Option (Nat × Bool)}
theorem WL.callG (ba br : List Ow) (hp : bx.Perm (ba ++ br)) (hf : FnB P f vs ba F' R) (hK : ∀ v b G, R v b G → WL P n L rest ((d, v) :: e) (b ++ br) (G ++ F) Q) (hx : ev e x = some (.func (.func f) #[] #[]) := by exact rfl) (hv : Evs e args vs := by repeat (first | exact Evs.nil | (apply Evs.cons; exact rfl))) (hF : HasAll F F' := by repeat (first | exact HasAll.nil | (apply HasAll.cons; (first | (focus (apply Has.mem; (repeat (first | exact List.Mem.head _ | apply List.Mem.tail)); done)) | (focus (apply hasA; (focus (apply Has.mem; (repeat (first | exact List.Mem.head _ | apply List.Mem.tail)); done)); omega; done)) | (focus (apply Has.sc; (focus (apply Has.mem; (repeat (first | exact List.Mem.head _ | apply List.Mem.tail)); done)); omega; omega; omega; done))))))
    (hd : Nat.blt d n = true := by exact rfl) (hg : gok L e gd = some true := by exact rfl) : WL P n L (⟨some d, .call { callee := .value x, args := args.toArray, argTypes := ats }, ty, pos, af, gd⟩ :: rest) e bx F Q :=
  WL.l hd hg (LO.call (first := []) (cap := []) hx hv ba br hp (by simpa using hf) hF.all hK)
end
section
variable {P : Program} {n : Nat} {L : List Oper} {e : Env} {bx b0 : List Ow} {F F0 : List Fct} {hs : List Nat} {r s : Plan} {Q : Env → List Ow → List Fct → Prop} {i j : Nat}
/-- an operation that only yields, taken in its turn -/
theorem loud_y {fr : PH} {w0 : World} {listed : Array Bool} {a : Act} {w : World} {f' : Nat} {Q' : Exit → Act → World → Prop} {v : Value} {e' : Env} (o : Oper) (hL : L[i]? = some o)
    (hP : ∀ c a a' w, Q' (.panic c) a w → Q' (.panic c) a' w) (hns : Region.noSelect L.toArray = true) (hc : chk L hs r (listed.setIfInBounds i true) = true) (hd : Down L.toArray listed) (hri : i ∈ Region.ready .any L.toArray listed)
    (hQ : ∀ a' w' e' bx' F', Kn n a' e' → Rest w0 w' → OK fr bx' F' w' → Q e' bx' F' → Q' .normal a' w') (hS : (∃ i ∈ hs, listed.getD i true = false) → OK fr b0 F0 w)
    (hk : Kn n a e) (hr : Rest w0 w) (ho : OK fr bx F w) (hf : r.len ≤ f')
    (hg : gok L e o.guard = some true) (hy : YO P o.op o.type e bx F v) (he' : Kn n (a.put o.dst v) e') (h : WD P n L hs b0 F0 r e' bx F Q) :
    wpOp P L.toArray Q' i (fun a' w' => (lateB L hs i = false → OK fr b0 F0 w → OK fr b0 F0 w') ∧ wpAnyG P L.toArray Q' (fun w => OK fr b0 F0 w) (lateB L hs) f' (listed.setIfInBounds i true) a' w') a w := by
  have hun := (mem_ready.1 hri).1
  have hlist : (∃ j ∈ hs, (listed.setIfInBounds i true).getD j true = false) → ∃ j ∈ hs, listed.getD j true = false := fun ⟨j, hj, hjl⟩ => ⟨j, hj, getD_some hun j hjl⟩
  unfold wpOp
  have hLa : L.toArray[i]? = some o := by simpa using hL
  simp only [hLa]
  rw [if_pos (gok_wanted hk hg)]
  refine .inl ?_
  unfold Oper.wp
  rw [hy n fr a w o rfl rfl hk ho]
  exact ⟨fun _ h => h, h fr w0 _ (a.put o.dst v) w f' Q' hP hns hc (hd.set hri) hQ (fun hx => hS (hlist hx)) he' hr ho hf⟩
variable {d : Nat} {op : Op} {ty : TypeId} {pos : String} {af : Array Edge} {g : Option (Nat × Bool)} {v : Value}
theorem WD.yl (hL : L[i]? = some ⟨some d, op, ty, pos, af, g⟩) (hy : YO P op ty e bx F v) (hd : Nat.blt d n = true) (hg : gok L e g = some true) (h : WD P n L hs b0 F0 r ((d, v) :: e) bx F Q) : WD P n L hs b0 F0 (.loud i r) e bx F Q := fun fr w0 listed a w fuel Q' hP hns hc hdn hQ hS hk hr ho hf => by
  simp only [chk, Bool.and_eq_true, beq_iff_eq] at hc
  obtain ⟨h1, h2⟩ := hc
  obtain ⟨f', rfl⟩ : ∃ f', fuel = f' + 1 := ⟨fuel - 1, by simp [Plan.len] at hf; omega⟩
  refine ⟨fun h0 => (by rw [h0] at h1; cases h1), fun j hj => ?_⟩
  rw [h1] at hj; simp at hj; subst hj
  exact loud_y _ hL hP hns h2 hdn (by rw [h1]; simp) hQ hS hk hr ho (by simp [Plan.len] at hf; exact hf) hg hy (hk.put hd v) h
/-- the held operations need only part of what is owned -/
theorem WC.drawB {id : Nat} {Q : Post} (b0 : List Ow) (hb : b0.Sublist bx) (hs : List Nat) (p : Plan) (hm : P.follows .mixedOrders = true) (hc : (Region.noSelect L.toArray && (chk L hs p (Array.replicate L.length false) && Nat.ble p.len L.length)) = true)
    (h : WD P n L hs b0 F p e bx F (Q .normal)) : WC P n (.region id L.toArray true) e bx F Q := fun fr w0 a w hk hr ho => by
  simp only [Bool.and_eq_true] at hc
  refine wp_region_any hm (wpAny_of_G _ _ _ _ (h fr w0 _ a _ _ _ ?_ hc.1 (by simpa using hc.2.1) ?_ (fun a' w' e' bx' F' h1 h2 h3 h4 => ⟨e', bx', F', h1, h2, h3, h4⟩) (fun _ => (ho.drop hb).drawn _) hk (hr.trans (Rest.drawn w _)) (ho.drawn _) (by simpa using Nat.le_of_ble_eq_true hc.2.2)))
  · intro c a a' w h; exact h
  · intro j o _ hj
    rw [Array.getD_eq_getD_getElem?, Array.getElem?_replicate] at hj
    split at hj <;> simp at hj
/-- a cut behind a first part -/
theorem WC.cutT {x y : Code} {Q : Post} {σ : Type} (E : σ → Env) (B : σ → List Ow) (G : σ → List Fct) (I : σ → Prop)
    (h1 : WC P n x e bx F (thenQ (fun e' bx' F' => ∃ s, I s ∧ Sub (E s) e' ∧ (B s).Sublist bx' ∧ HasAll F' (G s)) Q))
    (h2 : ∀ s, I s → WC P n y (E s) (B s) (G s) Q) : WC P n x e bx F (thenQ (fun e bx F => WC P n y e bx F Q) Q) :=
  h1.mono fun ex e b f h => by
    cases ex <;> first | exact h | skip
    obtain ⟨s, h3, h4, h5, h6⟩ := h
    exact (h2 s h3).weak h4 h5 h6.all
end
end W
end Go.Proofs.Ytgacbfckaglhbaa
namespace Go.Proofs.Ytgacbfckaglhbaa
open W Go.RowKit
attribute [local irreducible] WC WL WD YO LO LoopEnd W.Fin Scalar SliceT FieldAt Row ArrT AllocT KnS Has W.One SrcE IntT

def hopStep (ts : List Tk) (M : Nat) (L : List Int) (bl : Int) (b : Bool) (n : Nat) : Bool × Bool := (b || decide (bl ≤ loadP ts M L n), !(b || decide (bl ≤ loadP ts M L n)))
def hopP (ts : List Tk) (M : Nat) (L : List Int) (bl : Int) : Bool := setsF (hopStep ts M L bl) (2 ^ M - 1) 1 (decide (bl ≤ L.getD 25 0))

set_option maxHeartbeats 1000000 in
set_option maxRecDepth 4000 in
theorem hop1_c (s p g1 g2 g3 : Nat) (v mp : Value) (avs : List Value) (ts : List Tk) (M : Nat) (goal : Int) (B L : List Int) (hg : AllGood M ts) (hn : ts.length ≤ 10) (hM : M ≤ 4) (hB : B.length = 26) (hL : PlOK L) (b : Bool) (on : Nat) (h1 : 1 ≤ on) (h2 : on < 16) :
    FnB Try.prog 60 ([.int .i64 on] ++ [ptr g1, ptr g2, ptr g3]) [Ow.cells g1 4 [.bool b]] [ce g2 66 [ptr s], ce g3 90 [ptr p], ce s 74 (srch v M goal B mp), ce p 70 (ints L), sT v avs ts, sA avs ts]
      (IsB (.bool (hopStep ts M L (B.getD 25 0) b on).2) [Ow.cells g1 4 [.bool (hopStep ts M L (B.getD 25 0) b on).1]]) := by
  refine fn_of [(0, .int .i64 on), (1, ptr g1), (2, ptr g2), (3, ptr g3)] 21 Try.func60 rfl Try.ntmps60 (by kernel_rfl) rfl (by repeat (first | exact Sub.nil _ | refine Sub.cons rfl ?_)) fun h0 => ?_
  cases b with
  | true =>
    repeat' (first | refine go ?_ | refine goX ?_ | refine goB ?_ | (refine goG ?_; intro g) | (refine goV ?_; intro v) | refine goD ?_ | refine goXD ?_ | (refine goDG ?_; intro g) | (refine goDV ?_; intro v) | (apply WC.draw (id := 1) [0, 1, 2, 3, 4, 6, 7, 8, 9, 10, 11, 12] (.held 0 (.held 1 (.held 2 (.held 3 (.held 4 (.held 6 (.held 7 (.held 8 (.held 9 (.held 10 (.loud 5 (.held 11 (.held 12 (.loud 13 (.done))))))))))))))) mixed (by kernel_rfl)))
    refine WC.ret ?_
    exact Fin.p _ [] (ResE.t1 rfl rfl) (by (repeat (first | exact List.Mem.head _ | apply List.Mem.tail)); done) (by repeat (first | exact List.Sublist.refl _ | exact List.nil_sublist _ | apply List.Sublist.cons_cons | apply List.Sublist.cons)) .nil ⟨rfl, rfl, rfl⟩
  | false =>
    by_cases h : B.getD 25 0 ≤ loadP ts M L on
    · repeat' (first | refine go ?_ | refine goX ?_ | refine goB ?_ | (refine goG ?_; intro g) | (refine goV ?_; intro v) | refine goD ?_ | refine goXD ?_ | (refine goDG ?_; intro g) | (refine goDV ?_; intro v) | (apply WC.draw (id := 1) [0, 1, 2, 3, 4, 6, 7, 8, 9, 10, 11, 12] (.held 0 (.held 1 (.held 2 (.held 3 (.held 4 (.held 6 (.held 7 (.held 8 (.held 9 (.held 10 (.loud 5 (.held 11 (.held 12 (.loud 13 (.done))))))))))))))) mixed (by kernel_rfl)))
      first | refine WL.callV (load_c s p v mp avs ts M goal B L on hg hn hM hB hL h1 h2) ?_ | refine WD.callV (load_c s p v mp avs ts M goal B L on hg hn hM hB hL h1 h2) ?_
      repeat' (first | refine go ?_ | refine goX ?_ | refine goB ?_ | (refine goG ?_; intro g) | (refine goV ?_; intro v) | refine goD ?_ | refine goXD ?_ | (refine goDG ?_; intro g) | (refine goDV ?_; intro v) | (apply WC.draw (id := 1) [0, 1, 2, 3, 4, 6, 7, 8, 9, 10, 11, 12] (.held 0 (.held 1 (.held 2 (.held 3 (.held 4 (.held 6 (.held 7 (.held 8 (.held 9 (.held 10 (.loud 5 (.held 11 (.held 12 (.loud 13 (.done))))))))))))))) mixed (by kernel_rfl)))
      refine WC.ret ?_
      exact Fin.p _ [] (ResE.t1 rfl rfl) (by (repeat (first | exact List.Mem.head _ | apply List.Mem.tail)); done) (by repeat (first | exact List.Sublist.refl _ | exact List.nil_sublist _ | apply List.Sublist.cons_cons | apply List.Sublist.cons)) .nil ⟨by rw [hopStep, decide_eq_true h]; rfl, by rw [hopStep, decide_eq_true h]; rfl, rfl⟩
    · repeat' (first | refine go ?_ | refine goX ?_ | refine goB ?_ | (refine goG ?_; intro g) | (refine goV ?_; intro v) | refine goD ?_ | refine goXD ?_ | (refine goDG ?_; intro g) | (refine goDV ?_; intro v) | (apply WC.draw (id := 1) [0, 1, 2, 3, 4, 6, 7, 8, 9, 10, 11, 12] (.held 0 (.held 1 (.held 2 (.held 3 (.held 4 (.held 6 (.held 7 (.held 8 (.held 9 (.held 10 (.loud 5 (.held 11 (.held 12 (.loud 13 (.done))))))))))))))) mixed (by kernel_rfl)))
      first | refine WL.callV (load_c s p v mp avs ts M goal B L on hg hn hM hB hL h1 h2) ?_ | refine WD.callV (load_c s p v mp avs ts M goal B L on hg hn hM hB hL h1 h2) ?_
      repeat' (first | refine go ?_ | refine goX ?_ | refine goB ?_ | (refine goG ?_; intro g) | (refine goV ?_; intro v) | refine goD ?_ | refine goXD ?_ | (refine goDG ?_; intro g) | (refine goDV ?_; intro v) | (apply WC.draw (id := 1) [0, 1, 2, 3, 4, 6, 7, 8, 9, 10, 11, 12] (.held 0 (.held 1 (.held 2 (.held 3 (.held 4 (.held 6 (.held 7 (.held 8 (.held 9 (.held 10 (.loud 5 (.held 11 (.held 12 (.loud 13 (.done))))))))))))))) mixed (by kernel_rfl)))
      refine WC.ret ?_
      exact Fin.p _ [] (ResE.t1 rfl rfl) (by (repeat (first | exact List.Mem.head _ | apply List.Mem.tail)); done) (by repeat (first | exact List.Sublist.refl _ | exact List.nil_sublist _ | apply List.Sublist.cons_cons | apply List.Sublist.cons)) .nil ⟨by rw [hopStep, decide_eq_false h]; rfl, by rw [hopStep, decide_eq_false h]; rfl, rfl⟩

set_option maxHeartbeats 1000000 in
set_option maxRecDepth 4000 in
theorem hopeless_c (s p : Nat) (v mp : Value) (avs : List Value) (ts : List Tk) (M : Nat) (goal : Int) (B L : List Int) (hg : AllGood M ts) (hn : ts.length ≤ 10) (hM : M ≤ 4) (hB : B.length = 26) (hL : PlOK L) :
    FnB Try.prog 53 [ptr s, ptr p] [] [ce s 74 (srch v M goal B mp), ce p 70 (ints L), sT v avs ts, sA avs ts] (IsV (.bool (hopP ts M L (B.getD 25 0)))) := by
  refine fn_of [(0, ptr s), (1, ptr p)] 23 Try.func53 rfl Try.ntmps53 (by kernel_rfl) rfl (by repeat (first | exact Sub.nil _ | refine Sub.cons rfl ?_)) fun h0 => ?_
  have hLl := hL.len
  have hpw : 2 ^ M ≤ 16 := by
    have : M = 0 ∨ M = 1 ∨ M = 2 ∨ M = 3 ∨ M = 4 := by omega
    rcases this with rfl | rfl | rfl | rfl | rfl <;> decide
  by_cases c : B.getD 25 0 ≤ L.getD 25 0
  all_goals
    repeat' (first | refine go ?_ | refine goX ?_ | refine goB ?_ | (refine goG ?_; intro g) | (refine goV ?_; intro v) | refine goD ?_ | refine goXD ?_ | (refine goDG ?_; intro g) | (refine goDV ?_; intro v) | (apply WC.draw (id := 1) [0, 1, 2, 3, 4, 5, 6, 7, 8, 9] (.held 0 (.held 1 (.held 2 (.held 3 (.held 4 (.held 5 (.held 6 (.held 7 (.held 8 (.held 9 (.loud 10 (.loud 11 (.done))))))))))))) mixed (by kernel_rfl)))
    rename_i g2 g3
    refine WL.keep (t := 66) (by repeat (first | exact Rem.head | apply Rem.tail)) ?_
    refine WL.keep (t := 90) (by repeat (first | exact Rem.head | apply Rem.tail)) ?_
    have hs := sets_c M hM 60 [ptr g, ptr g2, ptr g3] [ce g2 66 [ptr s], ce g3 90 [ptr p], ce s 74 (srch v M goal B mp), ce p 70 (ints L), sT v avs ts, sA avs ts] (fun b : Bool => [Ow.cells g 4 [.bool b]]) (fun _ => True) (hopStep ts M L (B.getD 25 0)) (fun _ _ _ _ _ => trivial)
      (fun b on _ h1 h2 => hop1_c s p g g2 g3 v mp avs ts M goal B L hg hn hM hB hL b on h1 (by omega)) (decide (B.getD 25 0 ≤ L.getD 25 0)) trivial
    first | rw [decide_eq_true c] at hs | rw [decide_eq_false c] at hs
    refine WL.callG _ [] (.refl _) hs ?_
    rintro _ _ _ ⟨rfl, rfl, rfl⟩
    simp only [List.nil_append, List.append_nil]
    repeat' (first | refine go ?_ | refine goX ?_ | refine goB ?_ | (refine goG ?_; intro g) | (refine goV ?_; intro v) | refine goD ?_ | refine goXD ?_ | (refine goDG ?_; intro g) | (refine goDV ?_; intro v) | (apply WC.draw (id := 1) [0, 1, 2, 3, 4, 5, 6, 7, 8, 9] (.held 0 (.held 1 (.held 2 (.held 3 (.held 4 (.held 5 (.held 6 (.held 7 (.held 8 (.held 9 (.loud 10 (.loud 11 (.done))))))))))))) mixed (by kernel_rfl)))
    refine WC.ret ?_
    exact Fin.v (ResE.t1 rfl rfl) (by (repeat (first | exact List.Mem.head _ | apply List.Mem.tail)); done) (by first | rw [hopP, decide_eq_true c] | rw [hopP, decide_eq_false c])
end Go.Proofs.Ytgacbfckaglhbaa
namespace Go.Proofs.Ytgacbfckaglhbaa
open W Go.RowKit

def difB (ts : List Tk) (a b : Nat) (i : Nat) : Bool := decide (bitI (tg ts i).on (a : Int) ≠ bitI (tg ts i).on (b : Int))
def alikeP (ts : List Tk) (a b : Nat) : Bool := !((List.range ts.length).any (difB ts a b))
attribute [local irreducible] WC WL WD YO LO LoopEnd W.Fin Scalar SliceT FieldAt Row ArrT AllocT KnS Has W.One SrcE IntT

set_option maxRecDepth 4000 in
theorem alike1_c (g1 g2 : Nat) (ts : List Tk) (av : Value) (i a b : Nat) (ho : 0 ≤ (tg ts i).on ∧ (tg ts i).on < 16) (hb4 : a < 4 ∧ b < 4) :
    FnB Try.prog 66 ([.agg #[.int .i64 (tg ts i).time, .int .i64 (tg ts i).on, av]] ++ [ptr g1, ptr g2]) [] [ce g1 3 [.int .i64 (a : Int)], ce g2 3 [.int .i64 (b : Int)]] (IsV (.bool (difB ts a b i))) := by
  refine fn_of [(0, .agg #[.int .i64 (tg ts i).time, .int .i64 (tg ts i).on, av]), (1, ptr g1), (2, ptr g2)] 16 Try.func66 rfl Try.ntmps66 (by kernel_rfl) rfl (by repeat (first | exact Sub.nil _ | refine Sub.cons rfl ?_)) fun h0 => ?_
  have h1 := div_bd (o := (tg ts i).on) ((a : Int)).toNat ho.1
  have h2 := div_bd (o := (tg ts i).on) ((b : Int)).toNat ho.1
  by_cases c : (tg ts i).on / 2 ^ ((a : Int)).toNat % 2 = (tg ts i).on / 2 ^ ((b : Int)).toNat % 2
  · repeat' (first | refine go ?_ | refine goX ?_ | refine goB ?_ | (refine goG ?_; intro g) | (refine goV ?_; intro v) | refine goD ?_ | refine goXD ?_ | (refine goDG ?_; intro g) | (refine goDV ?_; intro v) | (apply WC.draw (id := 1) [0, 1, 2, 3, 4, 5, 6, 7, 8, 9, 10, 11] (.held 0 (.held 1 (.held 2 (.held 3 (.held 4 (.held 5 (.held 6 (.held 7 (.held 8 (.held 9 (.held 10 (.held 11 (.done))))))))))))) mixed (by kernel_rfl)))
    refine WC.ret ?_
    exact Fin.v (ResE.t1 rfl rfl) (by (repeat (first | exact List.Mem.head _ | apply List.Mem.tail)); done) (by rw [difB, decide_eq_false]; exact fun h => h c)
  · repeat' (first | refine go ?_ | refine goX ?_ | refine goB ?_ | (refine goG ?_; intro g) | (refine goV ?_; intro v) | refine goD ?_ | refine goXD ?_ | (refine goDG ?_; intro g) | (refine goDV ?_; intro v) | (apply WC.draw (id := 1) [0, 1, 2, 3, 4, 5, 6, 7, 8, 9, 10, 11] (.held 0 (.held 1 (.held 2 (.held 3 (.held 4 (.held 5 (.held 6 (.held 7 (.held 8 (.held 9 (.held 10 (.held 11 (.done))))))))))))) mixed (by kernel_rfl)))
    refine WC.ret ?_
    exact Fin.v (ResE.t1 rfl rfl) (by (repeat (first | exact List.Mem.head _ | apply List.Mem.tail)); done) (by rw [difB, decide_eq_true]; exact c)

/-- a function value that answers p at each task -/
def FnAtT (f : FuncId) (cap : List Value) (F : List Fct) (avs : List Value) (ts : List Tk) (p : Nat → Bool) : Prop := ∀ i, i < ts.length → FnB Try.prog f ([.agg #[.int .i64 (tg ts i).time, .int .i64 (tg ts i).on, avs.getD i undef]] ++ cap) [] F (IsV (.bool (p i)))

theorem indexT_c (v : Value) (avs : List Value) (ts : List Tk) (f : FuncId) (cap : List Value) (F : List Fct) (p : Nat → Bool) (hf : FnAtT f cap F avs ts p) (hl : ts.length ≤ 1000) :
    FnB Try.prog 67 [v, .func (.func f) #[] cap.toArray] [] (sT v avs ts :: F) (IsV (.int .i64 (optI ((List.range ts.length).findIdx? p)))) := by
  refine fn_of [(0, v), (1, .func (.func f) #[] cap.toArray)] 19 Try.func67 rfl Try.ntmps67 (by kernel_rfl) rfl (by repeat (first | exact Sub.nil _ | refine Sub.cons rfl ?_)) fun h0 => ?_
  repeat' (first | refine go ?_ | refine goX ?_ | refine goB ?_ | (refine goG ?_; intro g) | (refine goV ?_; intro v))
  refine WC.lp (σ := Nat) (fun k => [(8, .int .i64 (k : Int)), (7, .int .i64 (ts.length : Int)), (0, v), (1, .func (.func f) #[] cap.toArray)]) (fun _ => []) (fun _ => ge h0 :: sT v avs ts :: F) (fun k => k ≤ ts.length ∧ ∀ j, j < k → p j = false) (fun k => ts.length - k) 0 (by simp) ?_ (by repeat (first | exact Sub.nil _ | refine Sub.cons rfl ?_)) (by repeat (first | exact List.Sublist.refl _ | exact List.nil_sublist _ | apply List.Sublist.cons_cons | apply List.Sublist.cons)) (HasAll.tail fun _ h => h)
  rintro k ⟨hk, hn⟩
  by_cases hlt : k < ts.length
  · repeat' (first | refine go ?_ | refine goX ?_ | refine goB ?_ | (refine goG ?_; intro g) | (refine goV ?_; intro v))
    refine WL.l rfl rfl (LO.callR (first := []) (cap := cap) rfl (by repeat (first | exact Evs.nil | (apply Evs.cons; exact rfl))) (hf _ hlt) (HasAllB.tail fun _ h => List.mem_cons_of_mem _ (List.mem_cons_of_mem _ h)) ?_)
    rintro _ _ _ ⟨rfl, rfl, rfl⟩
    cases hp : p k with
    | true =>
      repeat' (first | refine go ?_ | refine goX ?_ | refine goB ?_ | (refine goG ?_; intro g) | (refine goV ?_; intro v))
      refine WC.ret ?_
      refine Fin.v (ResE.t1 rfl rfl) (by (repeat (first | exact List.Mem.head _ | apply List.Mem.tail)); done) ?_
      have : (List.range ts.length).findIdx? p = some k := by
        rw [List.findIdx?_eq_some_iff_getElem]
        exact ⟨by simpa using hlt, by simpa using hp, fun j hj => by simpa using hn j hj⟩
      rw [this]; rfl
    | false =>
      repeat' (first | refine go ?_ | refine goX ?_ | refine goB ?_ | (refine goG ?_; intro g) | (refine goV ?_; intro v))
      exact LoopEnd.mk (k + 1) ⟨by omega, upto_succ hn hp⟩ (by omega) (by repeat (first | exact Sub.nil _ | refine Sub.cons rfl ?_)) (by repeat (first | exact List.Sublist.refl _ | exact List.nil_sublist _ | apply List.Sublist.cons_cons | apply List.Sublist.cons)) (HasAll.tail fun _ h => h)
  · repeat' (first | refine go ?_ | refine goX ?_ | refine goB ?_ | (refine goG ?_; intro g) | (refine goV ?_; intro v))
    refine WC.ret ?_
    refine Fin.v (ResE.t1 rfl rfl) (by (repeat (first | exact List.Mem.head _ | apply List.Mem.tail)); done) ?_
    have : (List.range ts.length).findIdx? p = none := by
      rw [List.findIdx?_eq_none_iff]
      intro x hx
      exact hn x (by have := List.mem_range.1 hx; omega)
    rw [this]; rfl

theorem containsT_c (v : Value) (avs : List Value) (ts : List Tk) (f : FuncId) (cap : List Value) (F : List Fct) (p : Nat → Bool) (hf : FnAtT f cap F avs ts p) (hl : ts.length ≤ 1000) :
    FnB Try.prog 65 [v, .func (.func f) #[] cap.toArray] [] (sT v avs ts :: F) (IsV (.bool ((List.range ts.length).any p))) := by
  refine fn_of [(0, v), (1, .func (.func f) #[] cap.toArray)] 9 Try.func65 rfl Try.ntmps65 (by kernel_rfl) rfl (by repeat (first | exact Sub.nil _ | refine Sub.cons rfl ?_)) fun h0 => ?_
  repeat' (first | refine go ?_ | refine goX ?_ | refine goB ?_ | (refine goG ?_; intro g) | (refine goV ?_; intro v))
  refine WL.l rfl rfl (LO.callRV rfl (by repeat (first | exact Evs.nil | (apply Evs.cons; exact rfl))) (indexT_c v avs ts f cap F p hf hl) (HasAllB.tail fun _ h => List.mem_cons_of_mem _ h) ?_)
  cases hi : (List.range ts.length).findIdx? p with
  | some i =>
    have h1 : (List.range ts.length).any p = true := by
      obtain ⟨h2, h3, _⟩ := List.findIdx?_eq_some_iff_getElem.1 hi
      exact List.any_eq_true.2 ⟨_, List.getElem_mem h2, h3⟩
    rw [show optI (some i) = (i : Int) from rfl]
    repeat' (first | refine go ?_ | refine goX ?_ | refine goB ?_ | (refine goG ?_; intro g) | (refine goV ?_; intro v))
    refine WC.ret ?_
    exact Fin.v (ResE.t1 rfl rfl) (by (repeat (first | exact List.Mem.head _ | apply List.Mem.tail)); done) (by rw [h1])
  | none =>
    have h1 : (List.range ts.length).any p = false := by
      rw [List.findIdx?_eq_none_iff] at hi
      rw [List.any_eq_false]; intro x hx; simp [hi x hx]
    rw [show optI none = (-1 : Int) from rfl]
    repeat' (first | refine go ?_ | refine goX ?_ | refine goB ?_ | (refine goG ?_; intro g) | (refine goV ?_; intro v))
    refine WC.ret ?_
    exact Fin.v (ResE.t1 rfl rfl) (by (repeat (first | exact List.Mem.head _ | apply List.Mem.tail)); done) (by rw [h1])

set_option maxRecDepth 4000 in
theorem alike_c (s : Nat) (v mp : Value) (avs : List Value) (ts : List Tk) (M : Nat) (goal : Int) (B : List Int) (a b : Nat) (hg : AllGood M ts) (hn : ts.length ≤ 10) (hM : M ≤ 4) (hB : B.length = 26) (hab : a < 4 ∧ b < 4) :
    FnB Try.prog 61 [ptr s, .int .i64 a, .int .i64 b] [] [ce s 74 (srch v M goal B mp), sT v avs ts, sA avs ts] (IsV (.bool (alikeP ts a b))) := by
  refine fn_of [(0, ptr s), (1, .int .i64 a), (2, .int .i64 b)] 14 Try.func61 rfl Try.ntmps61 (by kernel_rfl) rfl (by repeat (first | exact Sub.nil _ | refine Sub.cons rfl ?_)) fun h0 => ?_
  have hbo := good_on hg hM
  repeat' (first | refine go ?_ | refine goX ?_ | refine goB ?_ | (refine goG ?_; intro g) | (refine goV ?_; intro v))
  rename_i g1
  refine WL.keep (g := g1) (by repeat (first | exact Rem.head | apply Rem.tail)) ?_
  refine WL.keep (g := g) (by repeat (first | exact Rem.head | apply Rem.tail)) ?_
  have hc := containsT_c v avs ts 66 [ptr g1, ptr g] [ce g1 3 [.int .i64 (a : Int)], ce g 3 [.int .i64 (b : Int)]] (difB ts a b) (fun i _ => alike1_c g1 g ts _ i a b (hbo i) hab) (by omega)
  first | refine WL.callV (hc) ?_ | refine WD.callV (hc) ?_
  cases hx : (List.range ts.length).any (difB ts a b)
  all_goals
    repeat' (first | refine go ?_ | refine goX ?_ | refine goB ?_ | (refine goG ?_; intro g) | (refine goV ?_; intro v))
    refine WC.ret ?_
    exact Fin.v (ResE.t1 rfl rfl) (by (repeat (first | exact List.Mem.head _ | apply List.Mem.tail)); done) (by rw [alikeP, hx]; rfl)
end Go.Proofs.Ytgacbfckaglhbaa
namespace Go.Proofs.Ytgacbfckaglhbaa

def undB (L : List Int) (a : Int) : Bool := decide (bitI (L.getD 24 0) a = 0)
def readyQ (ts : List Tk) (L : List Int) (i : Nat) : Bool := undB L (i : Int) && !((tg ts i).after.any (undB L))

/-- a state: done 0, free 1-4, ends 5-14 -/
def swapX (ts : List Tk) (a b : Nat) (X : List Int) : List Int :=
  if X.getD (1 + b) 0 < X.getD (1 + a) 0 ∧ alikeP ts a b = true then (X.set (1 + a) (X.getD (1 + b) 0)).set (1 + b) (X.getD (1 + a) 0) else X
def swIn (ts : List Tk) (a : Nat) (X : List Int) : Nat → List Int
  | 0 => X
  | j + 1 => swapX ts a (a + 1 + j) (swIn ts a X j)
def swOut (ts : List Tk) (M : Nat) (X : List Int) : Nat → List Int
  | 0 => X
  | a + 1 => swIn ts a (swOut ts M X a) (M - (a + 1))
def endIn (ts : List Tk) (L : List Int) (i : Nat) (X : List Int) : Nat → List Int
  | 0 => X
  | n + 1 => if bitI (L.getD 24 0) ((tg ts i).after.getD n 0) = 1 then (endIn ts L i X n).set (5 + ((tg ts i).after.getD n 0).toNat) (L.getD ((tg ts i).after.getD n 0).toNat 0 + (tg ts ((tg ts i).after.getD n 0).toNat).time) else endIn ts L i X n
def endOut (ts : List Tk) (L : List Int) (X : List Int) : Nat → List Int
  | 0 => X
  | i + 1 => if bitI (L.getD 24 0) (i : Int) = 0 then endIn ts L i (endOut ts L X i) (tg ts i).after.length else endOut ts L X i
def st0 (L : List Int) : List Int := L.getD 24 0 :: ((L.drop 20).take 4 ++ List.replicate 10 0)
def stateP (ts : List Tk) (M : Nat) (L : List Int) : List Int := endOut ts L (swOut ts M (st0 L) M) ts.length

theorem swapX_len {ts : List Tk} {a b : Nat} {X : List Int} : (swapX ts a b X).length = X.length := by unfold swapX; split <;> simp
theorem swIn_len {ts : List Tk} {a : Nat} {X : List Int} : ∀ j, (swIn ts a X j).length = X.length
  | 0 => rfl
  | j + 1 => by rw [swIn, swapX_len, swIn_len j]
theorem swOut_len {ts : List Tk} {M : Nat} {X : List Int} : ∀ a, (swOut ts M X a).length = X.length
  | 0 => rfl
  | a + 1 => by rw [swOut, swIn_len, swOut_len a]
theorem endIn_len {ts : List Tk} {L : List Int} {i : Nat} {X : List Int} : ∀ n, (endIn ts L i X n).length = X.length
  | 0 => rfl
  | n + 1 => by rw [endIn]; split <;> simp [endIn_len n]
theorem endOut_len {ts : List Tk} {L : List Int} {X : List Int} : ∀ i, (endOut ts L X i).length = X.length
  | 0 => rfl
  | i + 1 => by rw [endOut]; split <;> simp [endOut_len i, endIn_len]
theorem st0_len {L : List Int} (h : L.length = 26) : (st0 L).length = 15 := by simp [st0, h]
theorem stateP_len {ts : List Tk} {M : Nat} {L : List Int} (h : L.length = 26) : (stateP ts M L).length = 15 := by rw [stateP, endOut_len, swOut_len, st0_len h]
end Go.Proofs.Ytgacbfckaglhbaa
namespace Go.Proofs.Ytgacbfckaglhbaa
open W Go.RowKit
namespace Mp

theorem mapM_some {α β : Type} {f : α → Option β} {g : α → β} : ∀ {l : List α}, (∀ x ∈ l, f x = some (g x)) → l.mapM f = some (l.map g)
  | [], _ => rfl
  | x :: l, h => by
    rw [List.mapM_cons, h x List.mem_cons_self, mapM_some fun y hy => h y (List.mem_cons_of_mem _ hy)]
    rfl

theorem flat1 {α β : Type} (f : α → β) : ∀ l : List α, (l.map fun i => [f i]).flatten = l.map f
  | [] => rfl
  | x :: l => by simp [flat1 f l]

def Rng (l : List Int) : Prop := ∀ x ∈ l, -9223372036854775808 ≤ x ∧ x ≤ 9223372036854775807
theorem wf_i64 {x : Int} (h : -9223372036854775808 ≤ x ∧ x ≤ 9223372036854775807) : (Lit.int .i64 x).wf = true := by
  simp [Lit.wf, IntKind.min, IntKind.max, IntKind.signed, IntKind.bits]; omega

section
variable {P : Program}
theorem lits_int {e : TypeId} (he : P.underlying e = some (.int .i64)) (D : Nat) {x : Int} (h : -9223372036854775808 ≤ x ∧ x ≤ 9223372036854775807) : P.keyLits (D + 1) e [.int .i64 x] = some [.int .i64 x] := by
  simp [Program.keyLits, he, wf_i64 h]
theorem lits_arr {t e n : TypeId} (ht : P.underlying t = some (.array n e)) (he : P.underlying e = some (.int .i64)) (hc : P.cellsOf e = 1) (hct : P.cellsOf t = n) (D : Nat) {l : List Int} (hl : l.length = n) (h : Rng l) :
    P.keyLits (D + 2) t (ints l) = some (l.map (Lit.int .i64)) := by
  have h1 : (List.range n).mapM (fun i => P.keyLits (D + 1) e (((ints l).drop (i * P.cellsOf e)).take (P.cellsOf e))) = some ((List.range n).map fun i => [Lit.int .i64 (l.getD i 0)]) := mapM_some fun i hi => by
    have hi' : i < l.length := by have := List.mem_range.1 hi; omega
    have e1 : ((ints l).drop (i * P.cellsOf e)).take (P.cellsOf e) = [.int .i64 (l.getD i 0)] := by
      rw [hc, Nat.mul_one, List.drop_eq_getElem_cons (by simpa using hi')]
      simp [hi']
    rw [e1]
    exact lits_int he D (h _ (by rw [List.getD_eq_getElem?_getD, List.getElem?_eq_getElem hi']; exact List.getElem_mem _))
  unfold Program.keyLits
  simp only [ht]
  rw [if_pos (by simp [hct, hl]), h1]
  simp only [Option.map_some, Option.some.injEq]
  rw [flat1]
  apply List.ext_getElem
  · simp [hl]
  · intro i h1 h2
    simp at h2
    simp [h2]

/-- a struct of an integer, an array of n integers, an array of m integers -/
structure StT (P : Program) (t n m : Nat) : Prop where
  lits : ∀ l : List Int, l.length = 1 + n + m → Rng l → P.keyLits 4 t (ints l) = some (l.map (Lit.int .i64))
  formed : ∀ l : List Int, l.length = 1 + n + m → Value.formed P t (.agg (ints l).toArray) = true
  key : P.keyTypeAt 3 t = true
  wide : (match P.underlying t with | some (.array _ _) | some (.struct _) => true | _ => false) = true

variable {t n m : Nat}
theorem run_eq (hT : StT P t n m) {a b : List Int} (ha : a.length = 1 + n + m) (hb : b.length = 1 + n + m) (ra : Rng a) (rb : Rng b) (w : World) : (Op.equal t (.agg (ints a).toArray) (.agg (ints b).toArray)).run P w = .ok (decide (a = b)) w := by
  obtain ⟨r, h1, h2⟩ := run_equalIn_deep 9997 3 t hT.key w 4 4 (.agg (ints a).toArray) (.agg (ints b).toArray) _ _ (hT.formed a ha) (hT.formed b hb) (by simpa [Value.cells] using hT.lits a ha ra) (by simpa [Value.cells] using hT.lits b hb rb)
  have : r = decide (a = b) := by
    rw [Bool.eq_iff_iff, h2, decide_eq_true_eq]
    constructor
    · intro h
      have := congrArg (List.map fun l : Lit => match l with | .int _ x => x | _ => 0) h
      simpa [List.map_map, Function.comp_def] using this
    · rintro rfl; rfl
  rw [← this]; exact h1
theorem run_check (hT : StT P t n m) {a : List Int} (ha : a.length = 1 + n + m) (ra : Rng a) (em : Bool) (w : World) : (Instr.checkKey em 10000 t (.agg (ints a).toArray)).run P w = .ok () w :=
  run_checkKey_deep em 9997 3 t hT.key w 4 (.agg (ints a).toArray) _ (hT.formed a ha) (by simpa [Value.cells] using hT.lits a ha ra)

/-- the entries of a map that holds true at each of ks -/
def ent (i : Nat) (k : List Int) : MapEntry := { key := .agg (ints k).toArray, val := .bool true, born := i }
def ents (ks : List (List Int)) : List MapEntry := ks.mapIdx ent
def mobj (ks : List (List Int)) : Obj := .map (ents ks).toArray ks.length
def KOK (n m : Nat) (ks : List (List Int)) : Prop := ∀ k ∈ ks, k.length = 1 + n + m ∧ Rng k

theorem run_ask (hT : StT P t n m) {a : List Int} (ha : a.length = 1 + n + m) (ra : Rng a) (w : World) : ∀ (es : List MapEntry) (ks : List (List Int)) (i : Nat), KOK n m ks → es.map (·.key) = ks.map (fun k => Value.agg (ints k).toArray) → (∀ e ∈ es, e.val = .bool true) →
    ∃ r : Option (Nat × Value), (Instr.findAsking t (.agg (ints a).toArray) es i).run P w = .ok r w ∧ (a ∈ ks → ∃ j, r = some (j, .bool true)) ∧ (a ∉ ks → r = none)
  | [], ks, i, _, he, _ => by
    have : ks = [] := by cases ks <;> simp at he ⊢
    subst this
    exact ⟨none, by simp [Instr.findAsking], by simp, by simp⟩
  | e :: es, ks, i, hk, he, hv => by
    cases ks with
    | nil => simp at he
    | cons k ks =>
      simp only [List.map_cons, List.cons.injEq] at he
      have hkk := hk k List.mem_cons_self
      have heq := run_eq hT ha hkk.1 ra hkk.2 w
      obtain ⟨r, h1, h2, h3⟩ := run_ask hT ha ra w es ks (i + 1) (fun k hk' => hk k (List.mem_cons_of_mem _ hk')) he.2 (fun e he => hv e (List.mem_cons_of_mem _ he))
      by_cases hak : a = k
      · refine ⟨some (i, .bool true), ?_, fun _ => ⟨i, rfl⟩, fun h => absurd (by rw [hak]; exact List.mem_cons_self) h⟩
        rw [hak] at heq ⊢
        simp only [Instr.findAsking, Sem.run_bind, he.1, heq, Result.andThen_ok, decide_true, if_true, hv e List.mem_cons_self]
        simp
      · refine ⟨r, ?_, fun h => h2 (by rcases List.mem_cons.1 h with h | h; exact absurd h hak; exact h), fun h => h3 fun h' => h (List.mem_cons_of_mem _ h')⟩
        simp only [Instr.findAsking, Sem.run_bind, he.1, heq, Result.andThen_ok, hak, decide_false]
        simpa using h1
theorem ents_keys (ks : List (List Int)) : (ents ks).map (·.key) = ks.map (fun k => Value.agg (ints k).toArray) := by
  apply List.ext_getElem
  · simp [ents]
  · intro i h1 h2; simp [ents, ent]
theorem ents_vals {ks : List (List Int)} : ∀ e ∈ ents ks, e.val = .bool true := by
  intro e he
  simp only [ents, List.mem_mapIdx] at he
  obtain ⟨i, h, rfl⟩ := he
  rfl
theorem ents_push (ks : List (List Int)) (k : List Int) : (ents (ks ++ [k])).toArray = (ents ks).toArray.push { key := .agg (ints k).toArray, val := .bool true, born := ks.length } := by
  simp [ents, List.mapIdx_append, ent]

theorem run_lookup (hT : StT P t n m) {mt el : TypeId} (hm : P.underlying mt = some (.map t el)) (hz : ∀ w, (zeroValue el).run P w = .ok (.bool false) w) {a : List Int} (ha : a.length = 1 + n + m) (ra : Rng a) {ks : List (List Int)} (hk : KOK n m ks) {g : Nat} {w : World} (hg : w.heap[g]? = some (mobj ks)) :
    (Instr.lookup mt (.map (some g)) (.agg (ints a).toArray) false).run P w = .ok (.bool (decide (a ∈ ks))) w := by
  obtain ⟨r, h1, h2, h3⟩ := run_ask hT ha ra w (ents ks) ks 0 hk (ents_keys ks) ents_vals
  have hf := (run_findKey_eq (P := P) (w := w) hT.wide (.agg (ints a).toArray) (ents ks)).trans h1
  have hc := run_check hT ha ra (ents ks).toArray.isEmpty w
  by_cases h : a ∈ ks
  · obtain ⟨j, rfl⟩ := h2 h
    simp [Instr.lookup, run_underlying hm, MapKept.run_getObj_map (show w.heap[g]? = some (.map (ents ks).toArray ks.length) from hg), hc, hf, h]
    rw [show (ents ks).isEmpty = (ents ks).toArray.isEmpty by simp, hc]; simp [hf]
  · have := h3 h; subst this
    simp [Instr.lookup, run_underlying hm, MapKept.run_getObj_map (show w.heap[g]? = some (.map (ents ks).toArray ks.length) from hg), hc, hf, h]
    rw [show (ents ks).isEmpty = (ents ks).toArray.isEmpty by simp, hc]; simp [hf, hz]
theorem run_update (hT : StT P t n m) {mt el : TypeId} (hm : P.underlying mt = some (.map t el)) {a : List Int} (ha : a.length = 1 + n + m) (ra : Rng a) {ks : List (List Int)} (hk : KOK n m ks) (hn : a ∉ ks) {g : Nat} {w : World} (hg : w.heap[g]? = some (mobj ks)) :
    (Instr.mapUpdate mt (.map (some g)) (.agg (ints a).toArray) (.bool true)).run P w = .ok () { w with heap := w.heap.setIfInBounds g (mobj (ks ++ [a])) } := by
  obtain ⟨r, h1, h2, h3⟩ := run_ask hT ha ra w (ents ks) ks 0 hk (ents_keys ks) ents_vals
  have hf := (run_findKey_eq (P := P) (w := w) hT.wide (.agg (ints a).toArray) (ents ks)).trans h1
  have hc := run_check hT ha ra false w
  have := h3 hn; subst this
  have hg' : w.heap[g]? = some (.map (ents ks).toArray ks.length) := hg
  have hs := MapKept.run_setObj_map (P := P) (mobj (ks ++ [a])) hg'
  simp [Instr.mapUpdate, run_underlying hm, MapKept.run_getObj_map hg', hc, hf]
  rw [← hs, mobj, ents_push]
  simp

theorem stT_of {a b c : TypeId} (hs : (P.underlying t).map (fun d => match d with | .struct fs => fs.toList.map (fun f => (f.name != "_", f.type, f.offset)) | _ => []) = some [(true, a, 0), (true, b, 1), (true, c, 1 + n)])
    (hst : (match P.underlying t with | some (.struct _) => true | _ => false) = true)
    (ha : P.underlying a = some (.int .i64)) (hb : ∃ e, P.underlying b = some (.array n e) ∧ P.underlying e = some (.int .i64) ∧ P.cellsOf e = 1) (hc : ∃ e, P.underlying c = some (.array m e) ∧ P.underlying e = some (.int .i64) ∧ P.cellsOf e = 1)
    (ca : P.cellsOf a = 1) (cb : P.cellsOf b = n) (cc : P.cellsOf c = m) (ct : P.cellsOf t = 1 + n + m) (hk : P.keyTypeAt 3 t = true) : StT P t n m := by
  cases hu : P.underlying t with
  | none => simp [hu] at hst
  | some d =>
    cases d <;> simp only [hu, Bool.false_eq_true] at hst
    rename_i fs
    simp only [hu, Option.map_some, Option.some.injEq] at hs
    refine ⟨fun l hl hr => ?_, fun l hl => by simp [Value.formed, hu, ct, hl], hk, by simp [hu]⟩
    obtain ⟨e1, b1, b2, b3⟩ := hb
    obtain ⟨e2, c1, c2, c3⟩ := hc
    obtain ⟨f1, f2, f3, hfs⟩ : ∃ f1 f2 f3, fs.toList = [f1, f2, f3] := by
      have := congrArg List.length hs
      simp at this
      match hq : fs.toList, (by simpa using this : fs.toList.length = 3) with
      | [f1, f2, f3], _ => exact ⟨f1, f2, f3, rfl⟩
    rw [hfs] at hs
    simp only [List.map_cons, List.map_nil, List.cons.injEq, Prod.mk.injEq, and_true] at hs
    obtain ⟨⟨n1, t1, o1⟩, ⟨n2, t2, o2⟩, n3, t3, o3⟩ := hs
    have hall : fs.all (·.name != "_") = true := by
      rw [← Array.all_toList, hfs]; simp [n1, n2, n3]
    have r1 : Rng ((l.drop 1).take n) := fun x hx => hr x (List.mem_of_mem_drop (List.mem_of_mem_take hx))
    have r2 : Rng ((l.drop (1 + n)).take m) := fun x hx => hr x (List.mem_of_mem_drop (List.mem_of_mem_take hx))
    obtain ⟨x0, l', rfl⟩ : ∃ x0 l', l = x0 :: l' := by
      cases l with
      | nil => exfalso; simp at hl; omega
      | cons x l => exact ⟨x, l, rfl⟩
    have k1 := lits_int (P := P) ha 2 (hr x0 List.mem_cons_self)
    have k2 := lits_arr (P := P) b1 b2 b3 cb 1 (l := ((x0 :: l').drop 1).take n) (by simp at hl ⊢; omega) r1
    have k3 := lits_arr (P := P) c1 c2 c3 cc 1 (l := ((x0 :: l').drop (1 + n)).take m) (by simp at hl ⊢; omega) r2
    unfold Program.keyLits
    simp only [hu]
    rw [if_pos ⟨by simp only [List.length_map, ct]; exact hl, hall⟩, hfs]
    have g1 : ((ints (x0 :: l')).drop f1.offset).take (P.cellsOf f1.type) = [.int .i64 x0] := by rw [t1, o1, ca]; simp
    have g2 : ((ints (x0 :: l')).drop f2.offset).take (P.cellsOf f2.type) = ints (((x0 :: l').drop 1).take n) := by rw [t2, o2, cb]; simp [List.map_take]
    have g3 : ((ints (x0 :: l')).drop f3.offset).take (P.cellsOf f3.type) = ints (((x0 :: l').drop (1 + n)).take m) := by rw [t3, o3, cc]; simp [List.map_take, List.map_drop]
    have m3 : ∀ (G : Field → Option (List Lit)) (A B C : List Lit), G f1 = some A → G f2 = some B → G f3 = some C → [f1, f2, f3].mapM G = some [A, B, C] := fun G A B C h1 h2 h3 => by
      simp [List.mapM_cons, h1, h2, h3]
    rw [m3 _ _ _ _ (by rw [g1, t1]; exact k1) (by rw [g2, t2]; exact k2) (by rw [g3, t3]; exact k3)]
    simp only [Option.map_some, List.flatten_cons, List.flatten_nil, List.append_nil, Option.some.injEq]
    have e3 : (x0 :: l') = [x0] ++ (((x0 :: l').drop 1).take n ++ ((x0 :: l').drop (1 + n)).take m) := by
      have : ((x0 :: l').drop (1 + n)).take m = (x0 :: l').drop (1 + n) := List.take_of_length_le (by simp at hl ⊢; omega)
      rw [this, show (x0 :: l').drop (1 + n) = ((x0 :: l').drop 1).drop n by rw [List.drop_drop], List.take_append_drop]
      simp
    conv => rhs; rw [e3]
    simp [List.map_append]
end
end Mp
namespace W
section
variable {P : Program} {e : Env} {bx bx' : List Ow} {F : List Fct} {ty : TypeId} {t n m mt el g : Nat} {x y z : Operand} {a : List Int} {ks : List (List Int)} {K : RPost}
open Mp
theorem YO.lookM (hT : StT P t n m) (hm : P.underlying mt = some (.map t el)) (hz : ∀ w, (zeroValue el).run P w = .ok (.bool false) w) (hx : ev e x = some (.map (some g))) (hy : ev e y = some (.agg (ints a).toArray)) (hb : Ow.obj g (mobj ks) ∈ bx)
    (ha : a.length = 1 + n + m) (ra : Rng a) (hk : KOK n m ks) : YO P (.lookup mt x y false) ty e bx F (.bool (decide (a ∈ ks))) :=
  .of fun k fr ac w o hop hkn ho => by
    have := run_lookup hT hm hz ha ra hk (ho.owns _ hb)
    simp [execOp, hop, hkn.eval hx, hkn.eval hy, this]
theorem LO.updM (hT : StT P t n m) (hm : P.underlying mt = some (.map t el)) (hx : ev e x = some (.map (some g))) (hy : ev e y = some (.agg (ints a).toArray)) (hz : ev e z = some (.bool true)) (hs : Sel bx (.obj g (mobj ks)) (.obj g (mobj (ks ++ [a]))) bx')
    (ha : a.length = 1 + n + m) (ra : Rng a) (hk : KOK n m ks) (hn : a ∉ ks) (h : K undef bx' F) : LO P (.mapUpdate mt x y z) ty e bx F K := .of fun k fr ac w o hop hkn ho => by
  have hg : w.heap[g]? = some (mobj ks) := ho.owns _ hs.mem
  have hr := run_update hT hm ha ra hk hn hg
  have hlt : g < w.heap.size := (Array.getElem?_eq_some_iff.1 hg).1
  refine ⟨undef, { w with heap := w.heap.setIfInBounds g (mobj (ks ++ [a])) }, bx', F, .inr ⟨?_, rfl⟩, ⟨rfl, rfl, rfl⟩, ho.sel hs ?_ ?_ ?_ ?_, h⟩
  · simp [execOp, hop, hkn.eval hx, hkn.eval hy, hkn.eval hz, hr]
  · intro k _ hk2
    have : g ≠ k := fun h => hk2 (by simp [Ow.ids, h])
    simp [Array.getElem?_setIfInBounds, this]
  · intro k hk1; exact .inl hk1
  · simp [Ow.ids]
  · show (w.heap.setIfInBounds g _)[g]? = _
    simp [Array.getElem?_setIfInBounds, hlt]
theorem LO.mkM {t : TypeId} (h : ∀ g, K (.map (some g)) (Ow.obj g (mobj []) :: bx) F) : LO P (.makeMap t none) ty e bx F K := .of fun k fr ac w o hop hkn ho => by
  refine ⟨_, w.alloc (.map #[] 0), _, F, .inl ?_, ⟨rfl, rfl, rfl⟩, ho.alloc (.obj w.heap.size (mobj [])) _ rfl ?_, h w.heap.size⟩
  · simp [execOp, hop, run_makeMap]
  · show (w.alloc _).heap[w.heap.size]? = _
    rw [heap_alloc_new]; rfl
end
end W
end Go.Proofs.Ytgacbfckaglhbaa
namespace Go.Proofs.Ytgacbfckaglhbaa

/-- the best plan and what was met -/
abbrev RS := List Int × List (List Int)
def innP (rec : List Int → RS → RS) (ts : List Tk) (p : List Int) (i : Nat) (s : RS) : Nat → RS
  | 0 => s
  | k + 1 => if bitI (tg ts i).on (k : Int) = 1 then rec (withP ts p i k) (innP rec ts p i s k) else innP rec ts p i s k
def outP (rec : List Int → RS → RS) (ts : List Tk) (M : Nat) (p : List Int) (s : RS) : Nat → RS
  | 0 => s
  | i + 1 => if readyQ ts p i = true then innP rec ts p i (outP rec ts M p s i) M else outP rec ts M p s i
def runP (ts : List Tk) (M : Nat) (goal : Int) : Nat → List Int → RS → RS
  | 0, _, s => s
  | f + 1, p, s =>
    if p.getD 24 0 = 2 ^ ts.length - 1 then (if p.getD 25 0 < s.1.getD 25 0 then (p, s.2) else s)
    else if s.1.getD 25 0 = goal ∨ hopP ts M p (s.1.getD 25 0) = true then s
    else if stateP ts M p ∈ s.2 then s
    else outP (runP ts M goal f) ts M p (s.1, s.2 ++ [stateP ts M p]) ts.length

/-- how many of the first n tasks are not done -/
def und (p : List Int) : Nat → Nat
  | 0 => 0
  | i + 1 => und p i + if undB p (i : Int) = true then 1 else 0

theorem bitI_test {o : Int} (ho : 0 ≤ o) (k : Nat) : bitI o (k : Int) = if o.toNat.testBit k then 1 else 0 := by
  have h := may_bit o k ho
  have h2 := bit_01 o (k : Int)
  unfold bitI at *
  simp only [Int.toNat_natCast] at *
  split <;> rename_i hc
  · exact h.2 hc
  · rcases h2 with h2 | h2
    · exact h2
    · exact absurd (h.1 h2) hc
theorem undB_test {p : List Int} (h : 0 ≤ p.getD 24 0) (k : Nat) : undB p (k : Int) = !(p.getD 24 0).toNat.testBit k := by
  unfold undB
  rw [bitI_test h]
  cases (p.getD 24 0).toNat.testBit k <;> simp

theorem und_zero {p : List Int} (h : 0 ≤ p.getD 24 0) : ∀ {n : Nat}, p.getD 24 0 < 2 ^ n → und p n = 0 → p.getD 24 0 = 2 ^ n - 1 := by
  intro n hlt hz
  have hall : ∀ m, und p m = 0 → ∀ i, i < m → (p.getD 24 0).toNat.testBit i = true := by
    intro m
    induction m with
    | zero => intro _ i hi; omega
    | succ m ih =>
      intro hm i hi
      rw [und] at hm
      by_cases him : i < m
      · exact ih (by omega) i him
      · obtain rfl : i = m := by omega
        have : ¬ undB p (i : Int) = true := fun hc => by rw [if_pos hc] at hm; omega
        rw [undB_test h] at this; simpa using this
  have hall := hall n hz
  have hc : ((2 : Int) ^ n) = ((2 ^ n : Nat) : Int) := by simp
  have h1 : (p.getD 24 0).toNat = 2 ^ n - 1 := by
    refine Nat.eq_of_testBit_eq fun i => ?_
    rw [Nat.testBit_two_pow_sub_one]
    by_cases hi : i < n
    · rw [hall i hi]; simp [hi]
    · rw [Nat.testBit_lt_two_pow (Nat.lt_of_lt_of_le (show (p.getD 24 0).toNat < 2 ^ n by omega) (Nat.pow_le_pow_right (by decide) (by omega)))]; simp [hi]
  have : 0 < 2 ^ n := Nat.pow_pos (by decide)
  omega

theorem with_done {ts : List Tk} {p : List Int} {i k : Nat} (hl : p.length = 26) : (withP ts p i k).getD 24 0 = orInt (p.getD 24 0) (2 ^ i) := by
  unfold withP; simp only [getD_set]
  rw [if_neg (by omega), if_pos (by simp [hl])]
theorem undB_with {ts : List Tk} {p : List Int} {i k : Nat} (hl : p.length = 26) (h : 0 ≤ p.getD 24 0) (j : Nat) : undB (withP ts p i k) (j : Int) = (undB p (j : Int) && decide (i ≠ j)) := by
  have h2 : 0 ≤ (withP ts p i k).getD 24 0 := by rw [with_done hl]; unfold orInt; omega
  rw [undB_test h2, undB_test h, with_done hl, orInt_bit]
  cases (p.getD 24 0).toNat.testBit j <;> by_cases hij : i = j <;> simp [hij]
theorem und_with {ts : List Tk} {p : List Int} {i k : Nat} (hl : p.length = 26) (h : 0 ≤ p.getD 24 0) (hu : undB p (i : Int) = true) : ∀ n, und (withP ts p i k) n + (if i < n then 1 else 0) = und p n
  | 0 => by simp [und]
  | n + 1 => by
    have ih := und_with (ts := ts) (k := k) hl h hu n
    rw [und, und, undB_with hl h]
    by_cases hin : i = n
    · subst hin
      simp only [hu, ne_eq, not_true, decide_false, Bool.and_false]
      simp at ih ⊢; omega
    · by_cases hlt : i < n
      · simp only [hlt, if_true] at ih
        rw [if_pos (show i < n + 1 by omega)]
        simp only [ne_eq, hin, not_false_eq_true, decide_true, Bool.and_true]; omega
      · simp only [hlt, if_false] at ih
        rw [if_neg (show ¬ i < n + 1 by omega)]
        simp only [ne_eq, hin, not_false_eq_true, decide_true, Bool.and_true]; omega
theorem und_le (p : List Int) : ∀ n, und p n ≤ n
  | 0 => by simp [und]
  | n + 1 => by have := und_le p n; rw [und]; split <;> omega

/-- a plan of the search -/
structure PI (ts : List Tk) (p : List Int) : Prop where
  b : ∃ B : Int, PlB p B ∧ 0 ≤ B ∧ B + 40 * und p ts.length ≤ 400
  d : p.getD 24 0 < 2 ^ ts.length
theorem PI.ok {ts : List Tk} {p : List Int} (h : PI ts p) : PlOK p := by obtain ⟨B, h1, h2, h3⟩ := h.b; exact h1.ok (by omega)
theorem PI.done {ts : List Tk} {p : List Int} (h : PI ts p) : 0 ≤ p.getD 24 0 ∧ p.getD 24 0 < 1024 := by obtain ⟨B, h1, h2, h3⟩ := h.b; exact h1.done
theorem orInt_lt {a : Int} {i n : Nat} (ha : 0 ≤ a) (h : a < 2 ^ n) (hi : i < n) : orInt a (2 ^ i) < 2 ^ n := by
  have hc : ((2 : Int) ^ n) = ((2 ^ n : Nat) : Int) := by simp
  have h2 : ((2 : Int) ^ i).toNat < 2 ^ n := by
    have : ((2 : Int) ^ i) = ((2 ^ i : Nat) : Int) := by simp
    rw [this, Int.toNat_natCast]
    exact Nat.pow_lt_pow_right (by decide) hi
  have := Nat.or_lt_two_pow (show a.toNat < 2 ^ n by omega) h2
  unfold orInt; omega
theorem PI.step {M : Nat} {ts : List Tk} (hg : AllGood M ts) (hn : ts.length ≤ 10) {p : List Int} (h : PI ts p) {i k : Nat} (hi : i < ts.length) (hk : k < 4) (hu : undB p (i : Int) = true) : PI ts (withP ts p i k) ∧ und (withP ts p i k) ts.length + 1 = und p ts.length := by
  obtain ⟨B, h1, h2, h3⟩ := h.b
  have hw := und_with (ts := ts) (k := k) h1.len h1.done.1 hu ts.length
  rw [if_pos hi] at hw
  refine ⟨⟨⟨B + 40, withP_B hg hn h1 h2 hi hk, by omega, by omega⟩, ?_⟩, hw⟩
  rw [with_done h1.len]; exact orInt_lt h1.done.1 h.d hi
theorem ready_und {ts : List Tk} {p : List Int} {i : Nat} (h : readyQ ts p i = true) : undB p (i : Int) = true := by
  unfold readyQ at h; simp only [Bool.and_eq_true] at h; exact h.1

/-! ## the numbers of a state -/
def In0 (B : Int) (X : List Int) : Prop := ∀ x ∈ X, 0 ≤ x ∧ x ≤ B
theorem In0.getD {B : Int} {X : List Int} (h : In0 B X) (hB : 0 ≤ B) (j : Nat) : 0 ≤ X.getD j 0 ∧ X.getD j 0 ≤ B := by
  rw [List.getD_eq_getElem?_getD]
  cases hx : X[j]? with
  | none => simpa using hB
  | some x => simpa using h x (List.mem_of_getElem? hx)
theorem In0.set {B : Int} {X : List Int} (h : In0 B X) {x : Int} (hx : 0 ≤ x ∧ x ≤ B) (j : Nat) : In0 B (X.set j x) := fun y hy => by
  rcases List.mem_or_eq_of_mem_set hy with hy | rfl
  · exact h y hy
  · exact hx
theorem In0.sw1 {B : Int} {ts : List Tk} {a b : Nat} {X : List Int} (h : In0 B X) (hB : 0 ≤ B) : In0 B (swapX ts a b X) := by
  unfold swapX; split
  · exact (h.set (h.getD hB _) _).set (h.getD hB _) _
  · exact h
theorem In0.sw2 {B : Int} {ts : List Tk} {a : Nat} {X : List Int} (h : In0 B X) (hB : 0 ≤ B) : ∀ j, In0 B (swIn ts a X j)
  | 0 => h
  | j + 1 => (In0.sw2 h hB j).sw1 hB
theorem In0.sw3 {B : Int} {ts : List Tk} {M : Nat} {X : List Int} (h : In0 B X) (hB : 0 ≤ B) : ∀ a, In0 B (swOut ts M X a)
  | 0 => h
  | a + 1 => (In0.sw3 h hB a).sw2 hB _
theorem In0.en1 {B : Int} {ts : List Tk} {L : List Int} {i : Nat} {X : List Int} (h : In0 B X) (hL : ∀ j, 0 ≤ L.getD j 0 + (tg ts j).time ∧ L.getD j 0 + (tg ts j).time ≤ B) : ∀ n, In0 B (endIn ts L i X n)
  | 0 => h
  | n + 1 => by
    rw [endIn]; split
    · exact (In0.en1 h hL n).set (hL _) _
    · exact In0.en1 h hL n
theorem In0.en2 {B : Int} {ts : List Tk} {L : List Int} {X : List Int} (h : In0 B X) (hL : ∀ j, 0 ≤ L.getD j 0 + (tg ts j).time ∧ L.getD j 0 + (tg ts j).time ≤ B) : ∀ n, In0 B (endOut ts L X n)
  | 0 => h
  | n + 1 => by
    rw [endOut]; split
    · exact (In0.en2 h hL n).en1 hL _
    · exact In0.en2 h hL n
theorem state_rng {M : Nat} {ts : List Tk} (hg : AllGood M ts) {p : List Int} (h : PlOK p) : (stateP ts M p).length = 15 ∧ Mp.Rng (stateP ts M p) := by
  have ht := good_time hg
  refine ⟨stateP_len h.len, ?_⟩
  have h0 : In0 1000020 (st0 p) := fun x hx => by
    simp only [st0, List.mem_cons, List.mem_append, List.mem_replicate] at hx
    rcases hx with rfl | hx | ⟨_, rfl⟩
    · have := h.bd 24; omega
    · have hx := List.mem_of_mem_drop (List.mem_of_mem_take hx)
      obtain ⟨j, hj, he⟩ := List.mem_iff_getElem.1 hx
      have := h.bd j
      rw [List.getD_eq_getElem?_getD, List.getElem?_eq_getElem hj, he] at this
      simp at this; omega
    · omega
  have h1 : In0 1000020 (stateP ts M p) := (h0.sw3 (ts := ts) (M := M) (by omega) M).en2 (fun j => by have := h.bd j; have := ht j; omega) _
  exact fun x hx => by have := h1 x hx; omega

/-- the search's state keeps its form -/
structure SI (s : RS) : Prop where
  l : s.1.length = 26
  k : Mp.KOK 4 10 s.2
theorem SI.add {M : Nat} {ts : List Tk} (hg : AllGood M ts) {p : List Int} (h : PlOK p) {s : RS} (hs : SI s) : SI (s.1, s.2 ++ [stateP ts M p]) := ⟨hs.l, fun k hk => by
  rcases List.mem_append.1 hk with hk | hk
  · exact hs.k k hk
  · simp at hk; subst hk; exact state_rng hg h⟩
theorem innP_SI {rec : List Int → RS → RS} {ts : List Tk} {p : List Int} {i : Nat} (hr : ∀ k s, k < 4 → SI s → SI (rec (withP ts p i k) s)) {s : RS} (hs : SI s) : ∀ k, k ≤ 4 → SI (innP rec ts p i s k)
  | 0, _ => hs
  | k + 1, hk => by
    have ih := innP_SI hr hs k (by omega)
    rw [innP]; split
    · exact hr k _ (by omega) ih
    · exact ih
theorem outP_SI {rec : List Int → RS → RS} {ts : List Tk} {M : Nat} (hM : M ≤ 4) {p : List Int} (hr : ∀ i k s, i < ts.length → k < 4 → readyQ ts p i = true → SI s → SI (rec (withP ts p i k) s)) {s : RS} (hs : SI s) : ∀ i, i ≤ ts.length → SI (outP rec ts M p s i)
  | 0, _ => hs
  | i + 1, hi => by
    have ih := outP_SI hM hr hs i (by omega)
    rw [outP]; split
    · rename_i h; exact innP_SI (fun k s hk hs => hr i k s (by omega) hk h hs) ih M hM
    · exact ih
theorem runP_SI {M : Nat} {ts : List Tk} (hg : AllGood M ts) (hn : ts.length ≤ 10) (hM : M ≤ 4) {goal : Int} : ∀ f p s, PI ts p → SI s → SI (runP ts M goal f p s)
  | 0, _, _, _, hs => hs
  | f + 1, p, s, hp, hs => by
    rw [runP]
    split
    · split
      · exact ⟨hp.ok.len, hs.k⟩
      · exact hs
    · split
      · exact hs
      · split
        · exact hs
        · exact outP_SI hM (fun i k s hi hk hr hs => runP_SI hg hn hM f _ s (hp.step hg hn hi hk (ready_und hr)).1 hs) (hs.add hg hp.ok) _ (Nat.le_refl _)
end Go.Proofs.Ytgacbfckaglhbaa
namespace Go.Proofs.Ytgacbfckaglhbaa
open W Go.RowKit

theorem YO.build98 {e : Env} {bx : List Ow} {F : List Fct} {ty : TypeId} {x y : Operand} {d : Int} {fr : List Int} (hx : ev e x = some (.int .i64 d)) (hy : ev e y = some (.agg (ints fr).toArray)) (hf : fr.length = 4) :
    YO Try.prog (.build 98 #[(0, x), (1, y)]) ty e bx F (.agg (ints (d :: (fr ++ List.replicate 10 0))).toArray) := by
  obtain ⟨a, b, c, k, rfl⟩ : ∃ a b c k, fr = [a, b, c, k] := by
    match fr, hf with
    | [a, b, c, k], _ => exact ⟨a, b, c, k, rfl⟩
  exact YO.build (parts := [(0, x), (1, y)]) (.cons hx (.cons hy .nil)) fun w => run_build w 98 _ _ (by kernel_rfl)
theorem YO.buildSt {e : Env} {bx : List Ow} {F : List Fct} {ty : TypeId} {x y : Operand} {L : List Int} (hx : ev e x = some (.int .i64 (L.getD 24 0))) (hy : ev e y = some (.agg (ints ((L.drop 20).take 4)).toArray)) (hf : L.length = 26) :
    YO Try.prog (.build 98 #[(0, x), (1, y)]) ty e bx F (.agg (ints (st0 L)).toArray) := YO.build98 hx hy (by simp; omega)
attribute [local irreducible] WC WL WD YO LO LoopEnd W.Fin Scalar SliceT FieldAt Row ArrT AllocT KnS Has W.One SrcE IntT

theorem goYL {G G' : Prop} (h : G') (s : Bx G' → G := by
  intro h
  (apply WD.fy; exact rfl; (first | (apply YO.move; exact rfl) | (apply YO.assign; exact rfl) | (first | (apply YO.lss_t; exact rfl; exact rfl; omega) | (apply YO.lss_f; exact rfl; exact rfl; omega)) | (first | (apply YO.inc; exact rfl; exact rfl; omega) | (apply YO.add; exact rfl; exact rfl; omega; omega)) | (apply YO.len; (first | exact T.s22 | exact T.s23 | exact T.s39 | exact T.s44 | exact T.s60); exact rfl; (first | (focus (apply KnS.f; (focus (apply Has.mem; (repeat (first | exact List.Mem.head _ | apply List.Mem.tail)); done)); done)) | (focus (apply KnS.oI; (repeat (first | exact List.Mem.head _ | apply List.Mem.tail)); done)) | (focus (apply KnS.o1; (repeat (first | exact List.Mem.head _ | apply List.Mem.tail)); done)) | (focus (apply KnS.f; apply hasA; (focus (apply Has.mem; (repeat (first | exact List.Mem.head _ | apply List.Mem.tail)); done)); omega; done)))) | (first | (apply YO.ix1; (first | exact T.s22 | exact T.s23 | exact T.s39 | exact T.s44 | exact T.s60); exact rfl; exact rfl; (first | (focus (apply KnS.f; (focus (apply Has.mem; (repeat (first | exact List.Mem.head _ | apply List.Mem.tail)); done)); done)) | (focus (apply KnS.oI; (repeat (first | exact List.Mem.head _ | apply List.Mem.tail)); done)) | (focus (apply KnS.o1; (repeat (first | exact List.Mem.head _ | apply List.Mem.tail)); done)) | (focus (apply KnS.f; apply hasA; (focus (apply Has.mem; (repeat (first | exact List.Mem.head _ | apply List.Mem.tail)); done)); omega; done))); omega) | (apply YO.ix; (first | exact T.s22 | exact T.s23 | exact T.s39 | exact T.s44 | exact T.s60); exact rfl; exact rfl; (first | (focus (apply KnS.f; (focus (apply Has.mem; (repeat (first | exact List.Mem.head _ | apply List.Mem.tail)); done)); done)) | (focus (apply KnS.oI; (repeat (first | exact List.Mem.head _ | apply List.Mem.tail)); done)) | (focus (apply KnS.o1; (repeat (first | exact List.Mem.head _ | apply List.Mem.tail)); done)) | (focus (apply KnS.f; apply hasA; (focus (apply Has.mem; (repeat (first | exact List.Mem.head _ | apply List.Mem.tail)); done)); omega; done))); omega) | (apply YO.ix1'; (first | exact T.s22 | exact T.s23 | exact T.s39 | exact T.s44 | exact T.s60); exact rfl; exact rfl; (first | (focus (apply KnS.f; (focus (apply Has.mem; (repeat (first | exact List.Mem.head _ | apply List.Mem.tail)); done)); done)) | (focus (apply KnS.oI; (repeat (first | exact List.Mem.head _ | apply List.Mem.tail)); done)) | (focus (apply KnS.o1; (repeat (first | exact List.Mem.head _ | apply List.Mem.tail)); done)) | (focus (apply KnS.f; apply hasA; (focus (apply Has.mem; (repeat (first | exact List.Mem.head _ | apply List.Mem.tail)); done)); omega; done))); omega; omega) | (apply YO.ix'; (first | exact T.s22 | exact T.s23 | exact T.s39 | exact T.s44 | exact T.s60); exact rfl; exact rfl; (first | (focus (apply KnS.f; (focus (apply Has.mem; (repeat (first | exact List.Mem.head _ | apply List.Mem.tail)); done)); done)) | (focus (apply KnS.oI; (repeat (first | exact List.Mem.head _ | apply List.Mem.tail)); done)) | (focus (apply KnS.o1; (repeat (first | exact List.Mem.head _ | apply List.Mem.tail)); done)) | (focus (apply KnS.f; apply hasA; (focus (apply Has.mem; (repeat (first | exact List.Mem.head _ | apply List.Mem.tail)); done)); omega; done))); omega; omega) | (apply YO.ixN; (first | exact T.a43 | exact T.a67 | exact T.a68); exact rfl; exact rfl; omega; ((try simp only [Nat.zero_add, Nat.mul_one, Nat.reduceAdd, Nat.reduceMul]); exact rfl)) | (apply YO.ixNI; (first | exact T.a43 | exact T.a67 | exact T.a68); exact rfl; exact rfl; omega; omega; ((try simp only [Nat.zero_add, Nat.mul_one, Nat.reduceAdd, Nat.reduceMul]); exact rfl))) | (first | (apply ldT0; (first | exact T.sc3 | exact T.sc4 | exact T.sc5 | exact T.sc9 | exact T.sc22 | exact T.sc23 | exact T.sc28 | exact T.sc39 | exact T.sc44 | exact T.sc46 | exact T.sc51 | exact T.sc60 | exact T.sc66 | exact T.sc72 | exact T.sc84 | exact T.sc90 | exact T.sc91 | exact T.sc106 | exact T.sc108 | exact T.sc110); exact rfl; (focus (apply Has.mem; (repeat (first | exact List.Mem.head _ | apply List.Mem.tail)); done)); omega) | (apply ldT1; (first | exact T.sc3 | exact T.sc4 | exact T.sc5 | exact T.sc9 | exact T.sc22 | exact T.sc23 | exact T.sc28 | exact T.sc39 | exact T.sc44 | exact T.sc46 | exact T.sc51 | exact T.sc60 | exact T.sc66 | exact T.sc72 | exact T.sc84 | exact T.sc90 | exact T.sc91 | exact T.sc106 | exact T.sc108 | exact T.sc110); exact rfl; (focus (apply Has.mem; (repeat (first | exact List.Mem.head _ | apply List.Mem.tail)); done)); omega) | (apply ldT2; (first | exact T.sc3 | exact T.sc4 | exact T.sc5 | exact T.sc9 | exact T.sc22 | exact T.sc23 | exact T.sc28 | exact T.sc39 | exact T.sc44 | exact T.sc46 | exact T.sc51 | exact T.sc60 | exact T.sc66 | exact T.sc72 | exact T.sc84 | exact T.sc90 | exact T.sc91 | exact T.sc106 | exact T.sc108 | exact T.sc110); exact rfl; (focus (apply Has.mem; (repeat (first | exact List.Mem.head _ | apply List.Mem.tail)); done)); omega) | (apply ldT; (first | exact T.r43 | exact T.r48 | exact T.r53 | exact T.r67 | exact T.r68 | exact T.r70 | exact T.r74 | exact T.r98); exact rfl; (focus (apply Has.mem; (repeat (first | exact List.Mem.head _ | apply List.Mem.tail)); done)); omega) | (apply YO.ldWI0; (first | exact T.r43 | exact T.r48 | exact T.r53 | exact T.r67 | exact T.r68 | exact T.r70 | exact T.r74 | exact T.r98); exact rfl; (focus ((repeat (first | exact List.Mem.head _ | apply List.Mem.tail)); done)); (first | omega | (simp only [List.length_set, List.length_replicate]; omega))) | (apply YO.ldWF0; (first | exact T.r43 | exact T.r48 | exact T.r53 | exact T.r67 | exact T.r68 | exact T.r70 | exact T.r74 | exact T.r98); exact rfl; (focus (apply Has.mem; (repeat (first | exact List.Mem.head _ | apply List.Mem.tail)); done)); (first | omega | (simp only [List.length_set, List.length_replicate]; omega))) | (apply YO.ldCI; (first | exact T.sc3 | exact T.sc4 | exact T.sc5 | exact T.sc9 | exact T.sc22 | exact T.sc23 | exact T.sc28 | exact T.sc39 | exact T.sc44 | exact T.sc46 | exact T.sc51 | exact T.sc60 | exact T.sc66 | exact T.sc72 | exact T.sc84 | exact T.sc90 | exact T.sc91 | exact T.sc106 | exact T.sc108 | exact T.sc110); exact rfl; (focus ((repeat (first | exact List.Mem.head _ | apply List.Mem.tail)); done)); (first | omega | (simp only [List.length_set, List.length_replicate]; omega))) | (apply YO.ldFI; (first | exact T.sc3 | exact T.sc4 | exact T.sc5 | exact T.sc9 | exact T.sc22 | exact T.sc23 | exact T.sc28 | exact T.sc39 | exact T.sc44 | exact T.sc46 | exact T.sc51 | exact T.sc60 | exact T.sc66 | exact T.sc72 | exact T.sc84 | exact T.sc90 | exact T.sc91 | exact T.sc106 | exact T.sc108 | exact T.sc110); exact rfl; (focus (apply Has.mem; (repeat (first | exact List.Mem.head _ | apply List.Mem.tail)); done)); (first | omega | (simp only [List.length_set, List.length_replicate]; omega))) | (apply YO.ldF; (first | exact T.sc3 | exact T.sc4 | exact T.sc5 | exact T.sc9 | exact T.sc22 | exact T.sc23 | exact T.sc28 | exact T.sc39 | exact T.sc44 | exact T.sc46 | exact T.sc51 | exact T.sc60 | exact T.sc66 | exact T.sc72 | exact T.sc84 | exact T.sc90 | exact T.sc91 | exact T.sc106 | exact T.sc108 | exact T.sc110); exact rfl; (focus (apply Has.mem; (repeat (first | exact List.Mem.head _ | apply List.Mem.tail)); done)); exact rfl) | (apply YO.ldS; (first | exact T.sc3 | exact T.sc4 | exact T.sc5 | exact T.sc9 | exact T.sc22 | exact T.sc23 | exact T.sc28 | exact T.sc39 | exact T.sc44 | exact T.sc46 | exact T.sc51 | exact T.sc60 | exact T.sc66 | exact T.sc72 | exact T.sc84 | exact T.sc90 | exact T.sc91 | exact T.sc106 | exact T.sc108 | exact T.sc110); exact rfl; (first | (focus (apply Has.mem; (repeat (first | exact List.Mem.head _ | apply List.Mem.tail)); done)) | (focus (apply hasA; (focus (apply Has.mem; (repeat (first | exact List.Mem.head _ | apply List.Mem.tail)); done)); omega; done)) | (focus (apply Has.sc; (focus (apply Has.mem; (repeat (first | exact List.Mem.head _ | apply List.Mem.tail)); done)); omega; omega; omega; done))); omega) | (apply YO.ldB; (first | exact T.sc3 | exact T.sc4 | exact T.sc5 | exact T.sc9 | exact T.sc22 | exact T.sc23 | exact T.sc28 | exact T.sc39 | exact T.sc44 | exact T.sc46 | exact T.sc51 | exact T.sc60 | exact T.sc66 | exact T.sc72 | exact T.sc84 | exact T.sc90 | exact T.sc91 | exact T.sc106 | exact T.sc108 | exact T.sc110); exact rfl; (focus ((repeat (first | exact List.Mem.head _ | apply List.Mem.tail)); done)); exact rfl) | (apply YO.ldOI; (first | exact T.sc3 | exact T.sc4 | exact T.sc5 | exact T.sc9 | exact T.sc22 | exact T.sc23 | exact T.sc28 | exact T.sc39 | exact T.sc44 | exact T.sc46 | exact T.sc51 | exact T.sc60 | exact T.sc66 | exact T.sc72 | exact T.sc84 | exact T.sc90 | exact T.sc91 | exact T.sc106 | exact T.sc108 | exact T.sc110); exact rfl; (focus ((repeat (first | exact List.Mem.head _ | apply List.Mem.tail)); done)); omega)) | (first | (apply YO.pick_t; exact rfl; exact rfl) | (apply YO.pick_f; exact rfl; exact rfl)) | (first | (apply YO.fieldE; (first | exact T.f48_0 | exact T.f48_1 | exact T.f48_2 | exact T.f53_0 | exact T.f53_1 | exact T.f53_2 | exact T.f70_0 | exact T.f70_1 | exact T.f70_2 | exact T.f70_3 | exact T.f70_4 | exact T.f74_0 | exact T.f74_1 | exact T.f74_2 | exact T.f74_3 | exact T.f74_4 | exact T.f98_0 | exact T.f98_1 | exact T.f98_2); exact rfl) | (apply YO.fieldN; (first | exact T.f48_0 | exact T.f48_1 | exact T.f48_2 | exact T.f53_0 | exact T.f53_1 | exact T.f53_2 | exact T.f70_0 | exact T.f70_1 | exact T.f70_2 | exact T.f70_3 | exact T.f70_4 | exact T.f74_0 | exact T.f74_1 | exact T.f74_2 | exact T.f74_3 | exact T.f74_4 | exact T.f98_0 | exact T.f98_1 | exact T.f98_2); exact rfl; ((try simp only [Nat.zero_add, Nat.mul_one, Nat.reduceAdd, Nat.reduceMul]); exact rfl))) | (first | (first | (apply YO.eql_t; exact rfl; exact rfl; omega) | (apply YO.eql_f; exact rfl; exact rfl; omega)) | (apply YO.eqNil_t; (first | exact T.s22 | exact T.s23 | exact T.s39 | exact T.s44 | exact T.s60); exact rfl; (first | (focus (apply KnS.f; (focus (apply Has.mem; (repeat (first | exact List.Mem.head _ | apply List.Mem.tail)); done)); done)) | (focus (apply KnS.oI; (repeat (first | exact List.Mem.head _ | apply List.Mem.tail)); done)) | (focus (apply KnS.o1; (repeat (first | exact List.Mem.head _ | apply List.Mem.tail)); done)) | (focus (apply KnS.f; apply hasA; (focus (apply Has.mem; (repeat (first | exact List.Mem.head _ | apply List.Mem.tail)); done)); omega; done))); assumption) | (apply YO.eqNil_f; (first | exact T.s22 | exact T.s23 | exact T.s39 | exact T.s44 | exact T.s60); exact rfl; (first | (focus (apply KnS.f; (focus (apply Has.mem; (repeat (first | exact List.Mem.head _ | apply List.Mem.tail)); done)); done)) | (focus (apply KnS.oI; (repeat (first | exact List.Mem.head _ | apply List.Mem.tail)); done)) | (focus (apply KnS.o1; (repeat (first | exact List.Mem.head _ | apply List.Mem.tail)); done)) | (focus (apply KnS.f; apply hasA; (focus (apply Has.mem; (repeat (first | exact List.Mem.head _ | apply List.Mem.tail)); done)); omega; done))); assumption)) | (first | (apply YO.neq_t; exact rfl; exact rfl; omega) | (apply YO.neq_f; exact rfl; exact rfl; omega)) | (apply YO.nil; exact rfl) | (apply YO.extract; exact rfl; exact rfl) | (first | (apply YO.gtr_t; exact rfl; exact rfl; omega) | (apply YO.gtr_f; exact rfl; exact rfl; omega)) | (first | (apply YO.geq_t; exact rfl; exact rfl; omega) | (apply YO.geq_f; exact rfl; exact rfl; omega)) | (first | (apply YO.leq_t; exact rfl; exact rfl; omega) | (apply YO.leq_f; exact rfl; exact rfl; omega)) | (apply YO.sub; exact rfl; exact rfl; omega; omega) | (apply YO.mul; exact rfl; exact rfl; omega; omega) | (apply YO.rem; exact rfl; exact rfl; omega; omega) | (apply YO.quo; exact rfl; exact rfl; omega; omega; omega) | (first | (apply YO.not_t; exact rfl) | (apply YO.not_f; exact rfl)) | (apply YO.neg; exact rfl; omega; omega) | (apply YO.max; exact rfl; exact rfl) | (apply YO.min; exact rfl; exact rfl) | (apply YO.makeFunc; (repeat (first | exact Evs.nil | (apply Evs.cons; exact rfl))); (repeat (first | exact Evs.nil | (apply Evs.cons; exact rfl)))) | (first | (apply YO.convU; (first | exact T.u3 | exact T.u5 | exact T.u28 | exact T.u46 | exact T.u51 | exact T.u106 | exact T.u108); (first | exact T.u3 | exact T.u5 | exact T.u28 | exact T.u46 | exact T.u51 | exact T.u106 | exact T.u108); exact rfl; omega; omega) | (apply YO.convI; (first | exact T.u3 | exact T.u5 | exact T.u28 | exact T.u46 | exact T.u51 | exact T.u106 | exact T.u108); (first | exact T.u3 | exact T.u5 | exact T.u28 | exact T.u46 | exact T.u51 | exact T.u106 | exact T.u108); exact rfl; omega; omega)) | (apply YO.shl'; exact rfl; exact rfl; omega; omega; (first | omega | decide); (first | omega | decide)) | (apply YO.shr'; exact rfl; exact rfl; omega; omega) | (first | (apply YO.and1; exact rfl; exact rfl; omega; omega) | (apply YO.and; exact rfl; exact rfl; omega; omega; omega; omega)) | (apply YO.or; exact rfl; exact rfl; omega; omega; omega; omega) | (apply YO.anot; exact rfl; exact rfl) | (first | (apply YO.sliceArr; (first | exact T.a43 | exact T.a67 | exact T.a68); exact rfl; exact rfl; omega; decide) | (apply YO.slice; (first | exact T.s22 | exact T.s23 | exact T.s39 | exact T.s44 | exact T.s60); exact rfl; (first | (focus (apply KnS.f; (focus (apply Has.mem; (repeat (first | exact List.Mem.head _ | apply List.Mem.tail)); done)); done)) | (focus (apply KnS.oI; (repeat (first | exact List.Mem.head _ | apply List.Mem.tail)); done)) | (focus (apply KnS.o1; (repeat (first | exact List.Mem.head _ | apply List.Mem.tail)); done)) | (focus (apply KnS.f; apply hasA; (focus (apply Has.mem; (repeat (first | exact List.Mem.head _ | apply List.Mem.tail)); done)); omega; done))); exact Or.inl ⟨rfl, rfl⟩; exact Or.inr ⟨_, rfl, rfl⟩; omega; omega) | (apply YO.slice; (first | exact T.s22 | exact T.s23 | exact T.s39 | exact T.s44 | exact T.s60); exact rfl; (first | (focus (apply KnS.f; (focus (apply Has.mem; (repeat (first | exact List.Mem.head _ | apply List.Mem.tail)); done)); done)) | (focus (apply KnS.oI; (repeat (first | exact List.Mem.head _ | apply List.Mem.tail)); done)) | (focus (apply KnS.o1; (repeat (first | exact List.Mem.head _ | apply List.Mem.tail)); done)) | (focus (apply KnS.f; apply hasA; (focus (apply Has.mem; (repeat (first | exact List.Mem.head _ | apply List.Mem.tail)); done)); omega; done))); exact Or.inr ⟨_, rfl, rfl⟩; exact Or.inl ⟨rfl, rfl⟩; omega; omega))); exact rfl; exact rfl)
  exact Bx.h h) : G := s ⟨h⟩
theorem ready1_c (p gp : Nat) (L : List Int) (hL : PlOK L) (x : Int) (h0 : 0 ≤ x) (h1 : x < 10) :
    FnB Try.prog 62 ([.int .i64 x] ++ [ptr gp]) [] [ce gp 90 [ptr p], ce p 70 (ints L)] (IsV (.bool (undB L x))) := by
  refine fn_of [(0, .int .i64 x), (1, ptr gp)] 12 Try.func62 rfl Try.ntmps62 (by kernel_rfl) rfl (by repeat (first | exact Sub.nil _ | refine Sub.cons rfl ?_)) fun h0 => ?_
  have hl := hL.len
  have hb := hL.bd 24
  have hd := div_bd (o := L.getD 24 0) x.toNat (by omega)
  by_cases c : L.getD 24 0 / 2 ^ x.toNat % 2 = 0
  · repeat' (first | refine go ?_ | refine goX ?_ | refine goB ?_ | (refine goG ?_; intro g) | (refine goV ?_; intro v))
    refine WC.ret ?_
    exact Fin.v (ResE.t1 rfl rfl) (by (repeat (first | exact List.Mem.head _ | apply List.Mem.tail)); done) (by rw [undB, decide_eq_true]; exact c)
  · repeat' (first | refine go ?_ | refine goX ?_ | refine goB ?_ | (refine goG ?_; intro g) | (refine goV ?_; intro v))
    refine WC.ret ?_
    exact Fin.v (ResE.t1 rfl rfl) (by (repeat (first | exact List.Mem.head _ | apply List.Mem.tail)); done) (by rw [undB, decide_eq_false]; exact c)

set_option maxRecDepth 4000 in
theorem readyQ_c (p : Nat) (L : List Int) (v : Value) (avs : List Value) (ts : List Tk) (M : Nat) (i : Nat) (hg : AllGood M ts) (hn : ts.length ≤ 10) (hi : i < ts.length) (hL : PlOK L) :
    FnB Try.prog 55 [ptr p, v, .int .i64 i] [] [ce p 70 (ints L), sT v avs ts, sA avs ts] (IsV (.bool (readyQ ts L i))) := by
  refine fn_of [(0, ptr p), (1, v), (2, .int .i64 i)] 25 Try.func55 rfl Try.ntmps55 (by kernel_rfl) rfl (by repeat (first | exact Sub.nil _ | refine Sub.cons rfl ?_)) fun h0 => ?_
  have hl := hL.len
  have hb := hL.bd 24
  have hd := div_bd (o := L.getD 24 0) ((i : Int)).toNat (by omega)
  by_cases c : L.getD 24 0 / 2 ^ ((i : Int)).toNat % 2 = 0
  · have hu : undB L (i : Int) = true := by rw [undB, decide_eq_true]; exact c
    repeat' (first | refine go ?_ | refine goX ?_ | refine goB ?_ | (refine goG ?_; intro g) | (refine goV ?_; intro v))
    refine WL.keep (g := g) (by repeat (first | exact Rem.head | apply Rem.tail)) ?_
    have hf : FnAt 62 [ptr g] [ce g 90 [ptr p], ce p 70 (ints L)] (tg ts i).after (undB L) := fun x hx => by
      obtain ⟨q, hq, rfl⟩ := after_mem hx
      have := good_after hg hi q hq
      exact ready1_c p g L hL _ this.1 (by omega)
    first | refine WL.callV (containsF_c (avs.getD i undef) (tg ts i).after 62 [ptr g] _ _ hf) ?_ | refine WD.callV (containsF_c (avs.getD i undef) (tg ts i).after 62 [ptr g] _ _ hf) ?_
    cases hx : (tg ts i).after.any (undB L)
    all_goals
      repeat' (first | refine go ?_ | refine goX ?_ | refine goB ?_ | (refine goG ?_; intro g) | (refine goV ?_; intro v))
      refine WC.ret ?_
      exact Fin.v (ResE.t1 rfl rfl) (by (repeat (first | exact List.Mem.head _ | apply List.Mem.tail)); done) (by rw [readyQ, hu, hx]; rfl)
  · have hu : undB L (i : Int) = false := by rw [undB, decide_eq_false]; exact c
    repeat' (first | refine go ?_ | refine goX ?_ | refine goB ?_ | (refine goG ?_; intro g) | (refine goV ?_; intro v))
    refine WC.ret ?_
    exact Fin.v (ResE.t1 rfl rfl) (by (repeat (first | exact List.Mem.head _ | apply List.Mem.tail)); done) (by rw [readyQ, hu]; rfl)

set_option maxHeartbeats 2000000 in
set_option maxRecDepth 4000 in
theorem state_c (s p : Nat) (v mp : Value) (avs : List Value) (ts : List Tk) (M : Nat) (goal : Int) (B L : List Int) (hg : AllGood M ts) (hn : ts.length ≤ 10) (hM : M ≤ 4) (hB : B.length = 26) (hL : PlOK L) :
    FnB Try.prog 54 [ptr s, ptr p] [] [ce s 74 (srch v M goal B mp), ce p 70 (ints L), sT v avs ts, sA avs ts] (IsV (.agg (ints (stateP ts M L)).toArray)) := by
  refine fn_of [(0, ptr s), (1, ptr p)] 122 Try.func54 rfl Try.ntmps54 (by kernel_rfl) rfl (by repeat (first | exact Sub.nil _ | refine Sub.cons rfl ?_)) fun h0 => ?_
  have hl := hL.len
  have hdone := hL.bd 24
  have ht := good_time hg
  have hs0 := st0_len hl
  repeat' (first | refine go ?_ | refine goX ?_ | refine goB ?_ | (refine goG ?_; intro g) | (refine goV ?_; intro v) | refine goD ?_ | refine goXD ?_ | (refine goDG ?_; intro g) | (refine goDV ?_; intro v) | (apply WC.draw (id := 1) [0, 1, 2, 3, 4, 5, 6, 7, 8] (.held 0 (.held 1 (.held 2 (.held 3 (.held 4 (.held 5 (.held 6 (.held 7 (.held 8 (.loud 9 (.loud 10 (.done)))))))))))) mixed (by kernel_rfl)) | (apply WC.draw (id := 8) [0, 1, 2, 3, 4, 5, 6, 7, 8, 9, 10, 11, 12, 14] (.held 0 (.held 1 (.held 2 (.held 3 (.held 4 (.held 5 (.held 6 (.held 7 (.held 8 (.held 9 (.held 10 (.held 11 (.held 12 (.loud 13 (.held 14 (.done)))))))))))))))) mixed (by kernel_rfl)) | refine goYL ?_ | (apply WC.draw (id := 9) [0, 2, 3, 4, 5, 6, 7, 8, 9, 10, 11] (.free 1 (.free 13 (.held 0 (.held 2 (.held 3 (.held 4 (.held 5 (.held 6 (.held 7 (.held 8 (.held 9 (.held 10 (.held 11 (.loud 12 (.free 14 (.loud 15 (.done))))))))))))))))) mixed (by kernel_rfl)) | (apply WC.draw (id := 19) [0, 1, 2, 3, 4, 5, 6, 7, 8, 9, 10, 11, 12, 13, 14, 15, 16, 17] (.held 0 (.held 1 (.held 2 (.held 3 (.held 4 (.held 5 (.held 6 (.held 7 (.held 8 (.held 9 (.held 10 (.held 11 (.held 12 (.held 13 (.held 14 (.held 15 (.held 16 (.held 17 (.loud 18 (.done)))))))))))))))))))) mixed (by kernel_rfl)))
  (apply WD.k_load; exact rfl; (apply YO.ldWF; exact T.r68; exact rfl; (focus (apply Has.mem; (repeat (first | exact List.Mem.head _ | apply List.Mem.tail)); done)); omega); exact rfl; exact rfl)
  (apply WD.k_build; exact rfl; (apply YO.buildSt (L := L); exact rfl; exact rfl; omega); exact rfl; exact rfl)
  repeat' (first | refine go ?_ | refine goX ?_ | refine goB ?_ | (refine goG ?_; intro g) | (refine goV ?_; intro v) | refine goD ?_ | refine goXD ?_ | (refine goDG ?_; intro g) | (refine goDV ?_; intro v) | (apply WC.draw (id := 1) [0, 1, 2, 3, 4, 5, 6, 7, 8] (.held 0 (.held 1 (.held 2 (.held 3 (.held 4 (.held 5 (.held 6 (.held 7 (.held 8 (.loud 9 (.loud 10 (.done)))))))))))) mixed (by kernel_rfl)) | (apply WC.draw (id := 8) [0, 1, 2, 3, 4, 5, 6, 7, 8, 9, 10, 11, 12, 14] (.held 0 (.held 1 (.held 2 (.held 3 (.held 4 (.held 5 (.held 6 (.held 7 (.held 8 (.held 9 (.held 10 (.held 11 (.held 12 (.loud 13 (.held 14 (.done)))))))))))))))) mixed (by kernel_rfl)) | refine goYL ?_ | (apply WC.draw (id := 9) [0, 2, 3, 4, 5, 6, 7, 8, 9, 10, 11] (.free 1 (.free 13 (.held 0 (.held 2 (.held 3 (.held 4 (.held 5 (.held 6 (.held 7 (.held 8 (.held 9 (.held 10 (.held 11 (.loud 12 (.free 14 (.loud 15 (.done))))))))))))))))) mixed (by kernel_rfl)) | (apply WC.draw (id := 19) [0, 1, 2, 3, 4, 5, 6, 7, 8, 9, 10, 11, 12, 13, 14, 15, 16, 17] (.held 0 (.held 1 (.held 2 (.held 3 (.held 4 (.held 5 (.held 6 (.held 7 (.held 8 (.held 9 (.held 10 (.held 11 (.held 12 (.held 13 (.held 14 (.held 15 (.held 16 (.held 17 (.loud 18 (.done)))))))))))))))))))) mixed (by kernel_rfl)))
  rename_i g0
  revert g; intro gx
  refine WC.lp (σ := Nat) (fun a => [(25, .int .i64 (a : Int)), (24, .int .i64 (M : Int)), (5, ptr gx), (4, ptr g0), (0, ptr s), (1, ptr p)]) (fun a => [Ow.cells gx 98 (ints (swOut ts M (st0 L) a)), Ow.cells g0 98 (ints (List.replicate 15 0))]) (fun _ => [ge h0, ce s 74 (srch v M goal B mp), ce p 70 (ints L), sT v avs ts, sA avs ts]) (fun a => a ≤ M) (fun a => M - a) 0 (by simp) ?_
  rintro a ha
  have hX := swOut_len (ts := ts) (M := M) (X := st0 L) a
  rw [hs0] at hX
  have e : swOut ts M (st0 L) (a + 1) = swIn ts a (swOut ts M (st0 L) a) (M - (a + 1)) := rfl
  generalize hXg : swOut ts M (st0 L) a = X at *
  by_cases hlt : a < M
  · repeat' (first | refine go ?_ | refine goX ?_ | refine goB ?_ | (refine goG ?_; intro g) | (refine goV ?_; intro v) | refine goD ?_ | refine goXD ?_ | (refine goDG ?_; intro g) | (refine goDV ?_; intro v) | (apply WC.draw (id := 1) [0, 1, 2, 3, 4, 5, 6, 7, 8] (.held 0 (.held 1 (.held 2 (.held 3 (.held 4 (.held 5 (.held 6 (.held 7 (.held 8 (.loud 9 (.loud 10 (.done)))))))))))) mixed (by kernel_rfl)) | (apply WC.draw (id := 8) [0, 1, 2, 3, 4, 5, 6, 7, 8, 9, 10, 11, 12, 14] (.held 0 (.held 1 (.held 2 (.held 3 (.held 4 (.held 5 (.held 6 (.held 7 (.held 8 (.held 9 (.held 10 (.held 11 (.held 12 (.loud 13 (.held 14 (.done)))))))))))))))) mixed (by kernel_rfl)) | refine goYL ?_ | (apply WC.draw (id := 9) [0, 2, 3, 4, 5, 6, 7, 8, 9, 10, 11] (.free 1 (.free 13 (.held 0 (.held 2 (.held 3 (.held 4 (.held 5 (.held 6 (.held 7 (.held 8 (.held 9 (.held 10 (.held 11 (.loud 12 (.free 14 (.loud 15 (.done))))))))))))))))) mixed (by kernel_rfl)) | (apply WC.draw (id := 19) [0, 1, 2, 3, 4, 5, 6, 7, 8, 9, 10, 11, 12, 13, 14, 15, 16, 17] (.held 0 (.held 1 (.held 2 (.held 3 (.held 4 (.held 5 (.held 6 (.held 7 (.held 8 (.held 9 (.held 10 (.held 11 (.held 12 (.held 13 (.held 14 (.held 15 (.held 16 (.held 17 (.loud 18 (.done)))))))))))))))))))) mixed (by kernel_rfl)))
    refine WC.lp (σ := Nat) (fun j => [(7, .int .i64 ((a + 1 + j : Nat) : Int)), (6, .int .i64 (a : Int)), (25, .int .i64 (a : Int)), (24, .int .i64 (M : Int)), (5, ptr gx), (4, ptr g0), (0, ptr s), (1, ptr p)]) (fun j => [Ow.cells gx 98 (ints (swIn ts a X j)), Ow.cells g0 98 (ints (List.replicate 15 0))]) (fun _ => [ge h0, ce s 74 (srch v M goal B mp), ce p 70 (ints L), sT v avs ts, sA avs ts]) (fun j => a + 1 + j ≤ M) (fun j => M - j) 0 (by omega) ?_
    rintro j hj
    have hY := swIn_len (ts := ts) (a := a) (X := X) j
    rw [hX] at hY
    have e2 : swIn ts a X (j + 1) = if (swIn ts a X j).getD (1 + (a + 1 + j)) 0 < (swIn ts a X j).getD (1 + a) 0 ∧ alikeP ts a (a + 1 + j) = true then ((swIn ts a X j).set (1 + a) ((swIn ts a X j).getD (1 + (a + 1 + j)) 0)).set (1 + (a + 1 + j)) ((swIn ts a X j).getD (1 + a) 0) else swIn ts a X j := rfl
    generalize hYg : swIn ts a X j = Y at *
    by_cases hltj : a + 1 + j < M
    · by_cases c : Y.getD (1 + (a + 1 + j)) 0 < Y.getD (1 + a) 0
      · repeat' (first | refine go ?_ | refine goX ?_ | refine goB ?_ | (refine goG ?_; intro g) | (refine goV ?_; intro v) | refine goD ?_ | refine goXD ?_ | (refine goDG ?_; intro g) | (refine goDV ?_; intro v) | (apply WC.draw (id := 1) [0, 1, 2, 3, 4, 5, 6, 7, 8] (.held 0 (.held 1 (.held 2 (.held 3 (.held 4 (.held 5 (.held 6 (.held 7 (.held 8 (.loud 9 (.loud 10 (.done)))))))))))) mixed (by kernel_rfl)) | (apply WC.draw (id := 8) [0, 1, 2, 3, 4, 5, 6, 7, 8, 9, 10, 11, 12, 14] (.held 0 (.held 1 (.held 2 (.held 3 (.held 4 (.held 5 (.held 6 (.held 7 (.held 8 (.held 9 (.held 10 (.held 11 (.held 12 (.loud 13 (.held 14 (.done)))))))))))))))) mixed (by kernel_rfl)) | refine goYL ?_ | (apply WC.draw (id := 9) [0, 2, 3, 4, 5, 6, 7, 8, 9, 10, 11] (.free 1 (.free 13 (.held 0 (.held 2 (.held 3 (.held 4 (.held 5 (.held 6 (.held 7 (.held 8 (.held 9 (.held 10 (.held 11 (.loud 12 (.free 14 (.loud 15 (.done))))))))))))))))) mixed (by kernel_rfl)) | (apply WC.draw (id := 19) [0, 1, 2, 3, 4, 5, 6, 7, 8, 9, 10, 11, 12, 13, 14, 15, 16, 17] (.held 0 (.held 1 (.held 2 (.held 3 (.held 4 (.held 5 (.held 6 (.held 7 (.held 8 (.held 9 (.held 10 (.held 11 (.held 12 (.held 13 (.held 14 (.held 15 (.held 16 (.held 17 (.loud 18 (.done)))))))))))))))))))) mixed (by kernel_rfl)))
        first | refine WL.callV (alike_c s v mp avs ts M goal B a (a + 1 + j) hg hn hM hB (by omega)) ?_ | refine WD.callV (alike_c s v mp avs ts M goal B a (a + 1 + j) hg hn hM hB (by omega)) ?_
        cases hal : alikeP ts a (a + 1 + j) with
        | true =>
          rw [if_pos ⟨c, hal⟩] at e2
          repeat' (first | refine go ?_ | refine goX ?_ | refine goB ?_ | (refine goG ?_; intro g) | (refine goV ?_; intro v) | refine goD ?_ | refine goXD ?_ | (refine goDG ?_; intro g) | (refine goDV ?_; intro v) | (apply WC.draw (id := 1) [0, 1, 2, 3, 4, 5, 6, 7, 8] (.held 0 (.held 1 (.held 2 (.held 3 (.held 4 (.held 5 (.held 6 (.held 7 (.held 8 (.loud 9 (.loud 10 (.done)))))))))))) mixed (by kernel_rfl)) | (apply WC.draw (id := 8) [0, 1, 2, 3, 4, 5, 6, 7, 8, 9, 10, 11, 12, 14] (.held 0 (.held 1 (.held 2 (.held 3 (.held 4 (.held 5 (.held 6 (.held 7 (.held 8 (.held 9 (.held 10 (.held 11 (.held 12 (.loud 13 (.held 14 (.done)))))))))))))))) mixed (by kernel_rfl)) | refine goYL ?_ | (apply WC.draw (id := 9) [0, 2, 3, 4, 5, 6, 7, 8, 9, 10, 11] (.free 1 (.free 13 (.held 0 (.held 2 (.held 3 (.held 4 (.held 5 (.held 6 (.held 7 (.held 8 (.held 9 (.held 10 (.held 11 (.loud 12 (.free 14 (.loud 15 (.done))))))))))))))))) mixed (by kernel_rfl)) | (apply WC.draw (id := 19) [0, 1, 2, 3, 4, 5, 6, 7, 8, 9, 10, 11, 12, 13, 14, 15, 16, 17] (.held 0 (.held 1 (.held 2 (.held 3 (.held 4 (.held 5 (.held 6 (.held 7 (.held 8 (.held 9 (.held 10 (.held 11 (.held 12 (.held 13 (.held 14 (.held 15 (.held 16 (.held 17 (.loud 18 (.done)))))))))))))))))))) mixed (by kernel_rfl)))
          exact LoopEnd.mk (j + 1) (by omega) (by omega) (by repeat (first | exact Sub.nil _ | refine Sub.cons rfl ?_)) (by rw [e2]; exact (by repeat (first | exact List.Sublist.refl _ | exact List.nil_sublist _ | apply List.Sublist.cons_cons | apply List.Sublist.cons)))
        | false =>
          rw [if_neg (by rw [hal]; simp)] at e2
          repeat' (first | refine go ?_ | refine goX ?_ | refine goB ?_ | (refine goG ?_; intro g) | (refine goV ?_; intro v) | refine goD ?_ | refine goXD ?_ | (refine goDG ?_; intro g) | (refine goDV ?_; intro v) | (apply WC.draw (id := 1) [0, 1, 2, 3, 4, 5, 6, 7, 8] (.held 0 (.held 1 (.held 2 (.held 3 (.held 4 (.held 5 (.held 6 (.held 7 (.held 8 (.loud 9 (.loud 10 (.done)))))))))))) mixed (by kernel_rfl)) | (apply WC.draw (id := 8) [0, 1, 2, 3, 4, 5, 6, 7, 8, 9, 10, 11, 12, 14] (.held 0 (.held 1 (.held 2 (.held 3 (.held 4 (.held 5 (.held 6 (.held 7 (.held 8 (.held 9 (.held 10 (.held 11 (.held 12 (.loud 13 (.held 14 (.done)))))))))))))))) mixed (by kernel_rfl)) | refine goYL ?_ | (apply WC.draw (id := 9) [0, 2, 3, 4, 5, 6, 7, 8, 9, 10, 11] (.free 1 (.free 13 (.held 0 (.held 2 (.held 3 (.held 4 (.held 5 (.held 6 (.held 7 (.held 8 (.held 9 (.held 10 (.held 11 (.loud 12 (.free 14 (.loud 15 (.done))))))))))))))))) mixed (by kernel_rfl)) | (apply WC.draw (id := 19) [0, 1, 2, 3, 4, 5, 6, 7, 8, 9, 10, 11, 12, 13, 14, 15, 16, 17] (.held 0 (.held 1 (.held 2 (.held 3 (.held 4 (.held 5 (.held 6 (.held 7 (.held 8 (.held 9 (.held 10 (.held 11 (.held 12 (.held 13 (.held 14 (.held 15 (.held 16 (.held 17 (.loud 18 (.done)))))))))))))))))))) mixed (by kernel_rfl)))
          exact LoopEnd.mk (j + 1) (by omega) (by omega) (by repeat (first | exact Sub.nil _ | refine Sub.cons rfl ?_)) (by rw [e2]; exact (by repeat (first | exact List.Sublist.refl _ | exact List.nil_sublist _ | apply List.Sublist.cons_cons | apply List.Sublist.cons)))
      · rw [if_neg fun h => c h.1] at e2
        repeat' (first | refine go ?_ | refine goX ?_ | refine goB ?_ | (refine goG ?_; intro g) | (refine goV ?_; intro v) | refine goD ?_ | refine goXD ?_ | (refine goDG ?_; intro g) | (refine goDV ?_; intro v) | (apply WC.draw (id := 1) [0, 1, 2, 3, 4, 5, 6, 7, 8] (.held 0 (.held 1 (.held 2 (.held 3 (.held 4 (.held 5 (.held 6 (.held 7 (.held 8 (.loud 9 (.loud 10 (.done)))))))))))) mixed (by kernel_rfl)) | (apply WC.draw (id := 8) [0, 1, 2, 3, 4, 5, 6, 7, 8, 9, 10, 11, 12, 14] (.held 0 (.held 1 (.held 2 (.held 3 (.held 4 (.held 5 (.held 6 (.held 7 (.held 8 (.held 9 (.held 10 (.held 11 (.held 12 (.loud 13 (.held 14 (.done)))))))))))))))) mixed (by kernel_rfl)) | refine goYL ?_ | (apply WC.draw (id := 9) [0, 2, 3, 4, 5, 6, 7, 8, 9, 10, 11] (.free 1 (.free 13 (.held 0 (.held 2 (.held 3 (.held 4 (.held 5 (.held 6 (.held 7 (.held 8 (.held 9 (.held 10 (.held 11 (.loud 12 (.free 14 (.loud 15 (.done))))))))))))))))) mixed (by kernel_rfl)) | (apply WC.draw (id := 19) [0, 1, 2, 3, 4, 5, 6, 7, 8, 9, 10, 11, 12, 13, 14, 15, 16, 17] (.held 0 (.held 1 (.held 2 (.held 3 (.held 4 (.held 5 (.held 6 (.held 7 (.held 8 (.held 9 (.held 10 (.held 11 (.held 12 (.held 13 (.held 14 (.held 15 (.held 16 (.held 17 (.loud 18 (.done)))))))))))))))))))) mixed (by kernel_rfl)))
        exact LoopEnd.mk (j + 1) (by omega) (by omega) (by repeat (first | exact Sub.nil _ | refine Sub.cons rfl ?_)) (by rw [e2]; exact (by repeat (first | exact List.Sublist.refl _ | exact List.nil_sublist _ | apply List.Sublist.cons_cons | apply List.Sublist.cons)))
    · obtain rfl : j = M - (a + 1) := by omega
      repeat' (first | refine go ?_ | refine goX ?_ | refine goB ?_ | (refine goG ?_; intro g) | (refine goV ?_; intro v) | refine goD ?_ | refine goXD ?_ | (refine goDG ?_; intro g) | (refine goDV ?_; intro v) | (apply WC.draw (id := 1) [0, 1, 2, 3, 4, 5, 6, 7, 8] (.held 0 (.held 1 (.held 2 (.held 3 (.held 4 (.held 5 (.held 6 (.held 7 (.held 8 (.loud 9 (.loud 10 (.done)))))))))))) mixed (by kernel_rfl)) | (apply WC.draw (id := 8) [0, 1, 2, 3, 4, 5, 6, 7, 8, 9, 10, 11, 12, 14] (.held 0 (.held 1 (.held 2 (.held 3 (.held 4 (.held 5 (.held 6 (.held 7 (.held 8 (.held 9 (.held 10 (.held 11 (.held 12 (.loud 13 (.held 14 (.done)))))))))))))))) mixed (by kernel_rfl)) | refine goYL ?_ | (apply WC.draw (id := 9) [0, 2, 3, 4, 5, 6, 7, 8, 9, 10, 11] (.free 1 (.free 13 (.held 0 (.held 2 (.held 3 (.held 4 (.held 5 (.held 6 (.held 7 (.held 8 (.held 9 (.held 10 (.held 11 (.loud 12 (.free 14 (.loud 15 (.done))))))))))))))))) mixed (by kernel_rfl)) | (apply WC.draw (id := 19) [0, 1, 2, 3, 4, 5, 6, 7, 8, 9, 10, 11, 12, 13, 14, 15, 16, 17] (.held 0 (.held 1 (.held 2 (.held 3 (.held 4 (.held 5 (.held 6 (.held 7 (.held 8 (.held 9 (.held 10 (.held 11 (.held 12 (.held 13 (.held 14 (.held 15 (.held 16 (.held 17 (.loud 18 (.done)))))))))))))))))))) mixed (by kernel_rfl)))
      exact LoopEnd.mk (a + 1) (by omega) (by omega) (by repeat (first | exact Sub.nil _ | refine Sub.cons rfl ?_)) (by rw [e, hYg]; exact (by repeat (first | exact List.Sublist.refl _ | exact List.nil_sublist _ | apply List.Sublist.cons_cons | apply List.Sublist.cons)))
  · obtain rfl : a = M := by omega
    repeat' (first | refine go ?_ | refine goX ?_ | refine goB ?_ | (refine goG ?_; intro g) | (refine goV ?_; intro v) | refine goD ?_ | refine goXD ?_ | (refine goDG ?_; intro g) | (refine goDV ?_; intro v) | (apply WC.draw (id := 1) [0, 1, 2, 3, 4, 5, 6, 7, 8] (.held 0 (.held 1 (.held 2 (.held 3 (.held 4 (.held 5 (.held 6 (.held 7 (.held 8 (.loud 9 (.loud 10 (.done)))))))))))) mixed (by kernel_rfl)) | (apply WC.draw (id := 8) [0, 1, 2, 3, 4, 5, 6, 7, 8, 9, 10, 11, 12, 14] (.held 0 (.held 1 (.held 2 (.held 3 (.held 4 (.held 5 (.held 6 (.held 7 (.held 8 (.held 9 (.held 10 (.held 11 (.held 12 (.loud 13 (.held 14 (.done)))))))))))))))) mixed (by kernel_rfl)) | refine goYL ?_ | (apply WC.draw (id := 9) [0, 2, 3, 4, 5, 6, 7, 8, 9, 10, 11] (.free 1 (.free 13 (.held 0 (.held 2 (.held 3 (.held 4 (.held 5 (.held 6 (.held 7 (.held 8 (.held 9 (.held 10 (.held 11 (.loud 12 (.free 14 (.loud 15 (.done))))))))))))))))) mixed (by kernel_rfl)) | (apply WC.draw (id := 19) [0, 1, 2, 3, 4, 5, 6, 7, 8, 9, 10, 11, 12, 13, 14, 15, 16, 17] (.held 0 (.held 1 (.held 2 (.held 3 (.held 4 (.held 5 (.held 6 (.held 7 (.held 8 (.held 9 (.held 10 (.held 11 (.held 12 (.held 13 (.held 14 (.held 15 (.held 16 (.held 17 (.loud 18 (.done)))))))))))))))))))) mixed (by kernel_rfl)))
    refine WC.lp (σ := Nat) (fun i => [(73, .int .i64 (i : Int)), (72, .int .i64 (ts.length : Int)), (71, v), (5, ptr gx), (4, ptr g0), (0, ptr s), (1, ptr p)]) (fun i => [Ow.cells gx 98 (ints (endOut ts L X i)), Ow.cells g0 98 (ints (List.replicate 15 0))]) (fun _ => [ge h0, ce s 74 (srch v a goal B mp), ce p 70 (ints L), sT v avs ts, sA avs ts]) (fun i => i ≤ ts.length) (fun i => ts.length - i) 0 (by simp) ?_
    rintro i hi
    have hZ := endOut_len (ts := ts) (L := L) (X := X) i
    rw [hX] at hZ
    have e3 : endOut ts L X (i + 1) = if bitI (L.getD 24 0) (i : Int) = 0 then endIn ts L i (endOut ts L X i) (tg ts i).after.length else endOut ts L X i := rfl
    by_cases hlti : i < ts.length
    · have hdi := div_bd (o := L.getD 24 0) ((i : Int)).toNat (by omega)
      generalize hZg : endOut ts L X i = Z at *
      by_cases c : L.getD 24 0 / 2 ^ ((i : Int)).toNat % 2 = 0
      · rw [if_pos c] at e3
        repeat' (first | refine go ?_ | refine goX ?_ | refine goB ?_ | (refine goG ?_; intro g) | (refine goV ?_; intro v) | refine goD ?_ | refine goXD ?_ | (refine goDG ?_; intro g) | (refine goDV ?_; intro v) | (apply WC.draw (id := 1) [0, 1, 2, 3, 4, 5, 6, 7, 8] (.held 0 (.held 1 (.held 2 (.held 3 (.held 4 (.held 5 (.held 6 (.held 7 (.held 8 (.loud 9 (.loud 10 (.done)))))))))))) mixed (by kernel_rfl)) | (apply WC.draw (id := 8) [0, 1, 2, 3, 4, 5, 6, 7, 8, 9, 10, 11, 12, 14] (.held 0 (.held 1 (.held 2 (.held 3 (.held 4 (.held 5 (.held 6 (.held 7 (.held 8 (.held 9 (.held 10 (.held 11 (.held 12 (.loud 13 (.held 14 (.done)))))))))))))))) mixed (by kernel_rfl)) | refine goYL ?_ | (apply WC.draw (id := 9) [0, 2, 3, 4, 5, 6, 7, 8, 9, 10, 11] (.free 1 (.free 13 (.held 0 (.held 2 (.held 3 (.held 4 (.held 5 (.held 6 (.held 7 (.held 8 (.held 9 (.held 10 (.held 11 (.loud 12 (.free 14 (.loud 15 (.done))))))))))))))))) mixed (by kernel_rfl)) | (apply WC.draw (id := 19) [0, 1, 2, 3, 4, 5, 6, 7, 8, 9, 10, 11, 12, 13, 14, 15, 16, 17] (.held 0 (.held 1 (.held 2 (.held 3 (.held 4 (.held 5 (.held 6 (.held 7 (.held 8 (.held 9 (.held 10 (.held 11 (.held 12 (.held 13 (.held 14 (.held 15 (.held 16 (.held 17 (.loud 18 (.done)))))))))))))))))))) mixed (by kernel_rfl)))
        refine WC.lenI (avs.getD i undef) (tg ts i).after ?_ fun hal => ?_
        · exact hasA (Has.mem (by (repeat (first | exact List.Mem.head _ | apply List.Mem.tail)); done)) hlti
        refine WC.lp (σ := Nat) (fun n => [(89, .int .i64 (n : Int)), (88, .int .i64 ((tg ts i).after.length : Int)), (87, avs.getD i undef), (73, .int .i64 (i : Int)), (72, .int .i64 (ts.length : Int)), (71, v), (5, ptr gx), (4, ptr g0), (0, ptr s), (1, ptr p)]) (fun n => [Ow.cells gx 98 (ints (endIn ts L i Z n)), Ow.cells g0 98 (ints (List.replicate 15 0))]) (fun _ => [ge h0, ce s 74 (srch v a goal B mp), ce p 70 (ints L), sT v avs ts, sA avs ts]) (fun n => n ≤ (tg ts i).after.length) (fun n => (tg ts i).after.length - n) 0 (by simp) ?_
        rintro n hn'
        have hW := endIn_len (ts := ts) (L := L) (i := i) (X := Z) n
        rw [hZ] at hW
        by_cases hltn : n < (tg ts i).after.length
        · obtain ⟨a1, a2⟩ := good_after hg hlti n hltn
          obtain ⟨A, hA⟩ := Int.eq_ofNat_of_zero_le a1
          have hA' : (tg ts i).after.getD n 0 = (A : Int) := hA
          have hb1 := hL.bd A
          have htA := ht A
          have hdA := div_bd (o := L.getD 24 0) ((A : Int)).toNat (by omega)
          have e4 : endIn ts L i Z (n + 1) = if bitI (L.getD 24 0) (A : Int) = 1 then (endIn ts L i Z n).set (5 + A) (L.getD A 0 + (tg ts A).time) else endIn ts L i Z n := by simp only [endIn, hA', Int.toNat_natCast]
          generalize hWg : endIn ts L i Z n = Wz at *
          by_cases c2 : L.getD 24 0 / 2 ^ ((A : Int)).toNat % 2 = 1
          · rw [if_pos c2] at e4
            repeat' (first | refine go ?_ | refine goX ?_ | refine goB ?_ | (refine goG ?_; intro g) | (refine goV ?_; intro v) | refine goD ?_ | refine goXD ?_ | (refine goDG ?_; intro g) | (refine goDV ?_; intro v) | (apply WC.draw (id := 1) [0, 1, 2, 3, 4, 5, 6, 7, 8] (.held 0 (.held 1 (.held 2 (.held 3 (.held 4 (.held 5 (.held 6 (.held 7 (.held 8 (.loud 9 (.loud 10 (.done)))))))))))) mixed (by kernel_rfl)) | (apply WC.draw (id := 8) [0, 1, 2, 3, 4, 5, 6, 7, 8, 9, 10, 11, 12, 14] (.held 0 (.held 1 (.held 2 (.held 3 (.held 4 (.held 5 (.held 6 (.held 7 (.held 8 (.held 9 (.held 10 (.held 11 (.held 12 (.loud 13 (.held 14 (.done)))))))))))))))) mixed (by kernel_rfl)) | refine goYL ?_ | (apply WC.draw (id := 9) [0, 2, 3, 4, 5, 6, 7, 8, 9, 10, 11] (.free 1 (.free 13 (.held 0 (.held 2 (.held 3 (.held 4 (.held 5 (.held 6 (.held 7 (.held 8 (.held 9 (.held 10 (.held 11 (.loud 12 (.free 14 (.loud 15 (.done))))))))))))))))) mixed (by kernel_rfl)) | (apply WC.draw (id := 19) [0, 1, 2, 3, 4, 5, 6, 7, 8, 9, 10, 11, 12, 13, 14, 15, 16, 17] (.held 0 (.held 1 (.held 2 (.held 3 (.held 4 (.held 5 (.held 6 (.held 7 (.held 8 (.held 9 (.held 10 (.held 11 (.held 12 (.held 13 (.held 14 (.held 15 (.held 16 (.held 17 (.loud 18 (.done)))))))))))))))))))) mixed (by kernel_rfl)))
            rw [hA']
            repeat' (first | refine go ?_ | refine goX ?_ | refine goB ?_ | (refine goG ?_; intro g) | (refine goV ?_; intro v) | refine goD ?_ | refine goXD ?_ | (refine goDG ?_; intro g) | (refine goDV ?_; intro v) | (apply WC.draw (id := 1) [0, 1, 2, 3, 4, 5, 6, 7, 8] (.held 0 (.held 1 (.held 2 (.held 3 (.held 4 (.held 5 (.held 6 (.held 7 (.held 8 (.loud 9 (.loud 10 (.done)))))))))))) mixed (by kernel_rfl)) | (apply WC.draw (id := 8) [0, 1, 2, 3, 4, 5, 6, 7, 8, 9, 10, 11, 12, 14] (.held 0 (.held 1 (.held 2 (.held 3 (.held 4 (.held 5 (.held 6 (.held 7 (.held 8 (.held 9 (.held 10 (.held 11 (.held 12 (.loud 13 (.held 14 (.done)))))))))))))))) mixed (by kernel_rfl)) | refine goYL ?_ | (apply WC.draw (id := 9) [0, 2, 3, 4, 5, 6, 7, 8, 9, 10, 11] (.free 1 (.free 13 (.held 0 (.held 2 (.held 3 (.held 4 (.held 5 (.held 6 (.held 7 (.held 8 (.held 9 (.held 10 (.held 11 (.loud 12 (.free 14 (.loud 15 (.done))))))))))))))))) mixed (by kernel_rfl)) | (apply WC.draw (id := 19) [0, 1, 2, 3, 4, 5, 6, 7, 8, 9, 10, 11, 12, 13, 14, 15, 16, 17] (.held 0 (.held 1 (.held 2 (.held 3 (.held 4 (.held 5 (.held 6 (.held 7 (.held 8 (.held 9 (.held 10 (.held 11 (.held 12 (.held 13 (.held 14 (.held 15 (.held 16 (.held 17 (.loud 18 (.done)))))))))))))))))))) mixed (by kernel_rfl)))
            exact LoopEnd.mk (n + 1) (by omega) (by omega) (by repeat (first | exact Sub.nil _ | refine Sub.cons rfl ?_)) (by rw [e4]; exact (by repeat (first | exact List.Sublist.refl _ | exact List.nil_sublist _ | apply List.Sublist.cons_cons | apply List.Sublist.cons)))
          · rw [if_neg c2] at e4
            repeat' (first | refine go ?_ | refine goX ?_ | refine goB ?_ | (refine goG ?_; intro g) | (refine goV ?_; intro v) | refine goD ?_ | refine goXD ?_ | (refine goDG ?_; intro g) | (refine goDV ?_; intro v) | (apply WC.draw (id := 1) [0, 1, 2, 3, 4, 5, 6, 7, 8] (.held 0 (.held 1 (.held 2 (.held 3 (.held 4 (.held 5 (.held 6 (.held 7 (.held 8 (.loud 9 (.loud 10 (.done)))))))))))) mixed (by kernel_rfl)) | (apply WC.draw (id := 8) [0, 1, 2, 3, 4, 5, 6, 7, 8, 9, 10, 11, 12, 14] (.held 0 (.held 1 (.held 2 (.held 3 (.held 4 (.held 5 (.held 6 (.held 7 (.held 8 (.held 9 (.held 10 (.held 11 (.held 12 (.loud 13 (.held 14 (.done)))))))))))))))) mixed (by kernel_rfl)) | refine goYL ?_ | (apply WC.draw (id := 9) [0, 2, 3, 4, 5, 6, 7, 8, 9, 10, 11] (.free 1 (.free 13 (.held 0 (.held 2 (.held 3 (.held 4 (.held 5 (.held 6 (.held 7 (.held 8 (.held 9 (.held 10 (.held 11 (.loud 12 (.free 14 (.loud 15 (.done))))))))))))))))) mixed (by kernel_rfl)) | (apply WC.draw (id := 19) [0, 1, 2, 3, 4, 5, 6, 7, 8, 9, 10, 11, 12, 13, 14, 15, 16, 17] (.held 0 (.held 1 (.held 2 (.held 3 (.held 4 (.held 5 (.held 6 (.held 7 (.held 8 (.held 9 (.held 10 (.held 11 (.held 12 (.held 13 (.held 14 (.held 15 (.held 16 (.held 17 (.loud 18 (.done)))))))))))))))))))) mixed (by kernel_rfl)))
            rw [hA']
            repeat' (first | refine go ?_ | refine goX ?_ | refine goB ?_ | (refine goG ?_; intro g) | (refine goV ?_; intro v) | refine goD ?_ | refine goXD ?_ | (refine goDG ?_; intro g) | (refine goDV ?_; intro v) | (apply WC.draw (id := 1) [0, 1, 2, 3, 4, 5, 6, 7, 8] (.held 0 (.held 1 (.held 2 (.held 3 (.held 4 (.held 5 (.held 6 (.held 7 (.held 8 (.loud 9 (.loud 10 (.done)))))))))))) mixed (by kernel_rfl)) | (apply WC.draw (id := 8) [0, 1, 2, 3, 4, 5, 6, 7, 8, 9, 10, 11, 12, 14] (.held 0 (.held 1 (.held 2 (.held 3 (.held 4 (.held 5 (.held 6 (.held 7 (.held 8 (.held 9 (.held 10 (.held 11 (.held 12 (.loud 13 (.held 14 (.done)))))))))))))))) mixed (by kernel_rfl)) | refine goYL ?_ | (apply WC.draw (id := 9) [0, 2, 3, 4, 5, 6, 7, 8, 9, 10, 11] (.free 1 (.free 13 (.held 0 (.held 2 (.held 3 (.held 4 (.held 5 (.held 6 (.held 7 (.held 8 (.held 9 (.held 10 (.held 11 (.loud 12 (.free 14 (.loud 15 (.done))))))))))))))))) mixed (by kernel_rfl)) | (apply WC.draw (id := 19) [0, 1, 2, 3, 4, 5, 6, 7, 8, 9, 10, 11, 12, 13, 14, 15, 16, 17] (.held 0 (.held 1 (.held 2 (.held 3 (.held 4 (.held 5 (.held 6 (.held 7 (.held 8 (.held 9 (.held 10 (.held 11 (.held 12 (.held 13 (.held 14 (.held 15 (.held 16 (.held 17 (.loud 18 (.done)))))))))))))))))))) mixed (by kernel_rfl)))
            exact LoopEnd.mk (n + 1) (by omega) (by omega) (by repeat (first | exact Sub.nil _ | refine Sub.cons rfl ?_)) (by rw [e4]; exact (by repeat (first | exact List.Sublist.refl _ | exact List.nil_sublist _ | apply List.Sublist.cons_cons | apply List.Sublist.cons)))
        · obtain rfl : n = (tg ts i).after.length := by omega
          repeat' (first | refine go ?_ | refine goX ?_ | refine goB ?_ | (refine goG ?_; intro g) | (refine goV ?_; intro v) | refine goD ?_ | refine goXD ?_ | (refine goDG ?_; intro g) | (refine goDV ?_; intro v) | (apply WC.draw (id := 1) [0, 1, 2, 3, 4, 5, 6, 7, 8] (.held 0 (.held 1 (.held 2 (.held 3 (.held 4 (.held 5 (.held 6 (.held 7 (.held 8 (.loud 9 (.loud 10 (.done)))))))))))) mixed (by kernel_rfl)) | (apply WC.draw (id := 8) [0, 1, 2, 3, 4, 5, 6, 7, 8, 9, 10, 11, 12, 14] (.held 0 (.held 1 (.held 2 (.held 3 (.held 4 (.held 5 (.held 6 (.held 7 (.held 8 (.held 9 (.held 10 (.held 11 (.held 12 (.loud 13 (.held 14 (.done)))))))))))))))) mixed (by kernel_rfl)) | refine goYL ?_ | (apply WC.draw (id := 9) [0, 2, 3, 4, 5, 6, 7, 8, 9, 10, 11] (.free 1 (.free 13 (.held 0 (.held 2 (.held 3 (.held 4 (.held 5 (.held 6 (.held 7 (.held 8 (.held 9 (.held 10 (.held 11 (.loud 12 (.free 14 (.loud 15 (.done))))))))))))))))) mixed (by kernel_rfl)) | (apply WC.draw (id := 19) [0, 1, 2, 3, 4, 5, 6, 7, 8, 9, 10, 11, 12, 13, 14, 15, 16, 17] (.held 0 (.held 1 (.held 2 (.held 3 (.held 4 (.held 5 (.held 6 (.held 7 (.held 8 (.held 9 (.held 10 (.held 11 (.held 12 (.held 13 (.held 14 (.held 15 (.held 16 (.held 17 (.loud 18 (.done)))))))))))))))))))) mixed (by kernel_rfl)))
          exact LoopEnd.mk (i + 1) (by omega) (by omega) (by repeat (first | exact Sub.nil _ | refine Sub.cons rfl ?_)) (by rw [e3]; exact (by repeat (first | exact List.Sublist.refl _ | exact List.nil_sublist _ | apply List.Sublist.cons_cons | apply List.Sublist.cons)))
      · rw [if_neg c] at e3
        repeat' (first | refine go ?_ | refine goX ?_ | refine goB ?_ | (refine goG ?_; intro g) | (refine goV ?_; intro v) | refine goD ?_ | refine goXD ?_ | (refine goDG ?_; intro g) | (refine goDV ?_; intro v) | (apply WC.draw (id := 1) [0, 1, 2, 3, 4, 5, 6, 7, 8] (.held 0 (.held 1 (.held 2 (.held 3 (.held 4 (.held 5 (.held 6 (.held 7 (.held 8 (.loud 9 (.loud 10 (.done)))))))))))) mixed (by kernel_rfl)) | (apply WC.draw (id := 8) [0, 1, 2, 3, 4, 5, 6, 7, 8, 9, 10, 11, 12, 14] (.held 0 (.held 1 (.held 2 (.held 3 (.held 4 (.held 5 (.held 6 (.held 7 (.held 8 (.held 9 (.held 10 (.held 11 (.held 12 (.loud 13 (.held 14 (.done)))))))))))))))) mixed (by kernel_rfl)) | refine goYL ?_ | (apply WC.draw (id := 9) [0, 2, 3, 4, 5, 6, 7, 8, 9, 10, 11] (.free 1 (.free 13 (.held 0 (.held 2 (.held 3 (.held 4 (.held 5 (.held 6 (.held 7 (.held 8 (.held 9 (.held 10 (.held 11 (.loud 12 (.free 14 (.loud 15 (.done))))))))))))))))) mixed (by kernel_rfl)) | (apply WC.draw (id := 19) [0, 1, 2, 3, 4, 5, 6, 7, 8, 9, 10, 11, 12, 13, 14, 15, 16, 17] (.held 0 (.held 1 (.held 2 (.held 3 (.held 4 (.held 5 (.held 6 (.held 7 (.held 8 (.held 9 (.held 10 (.held 11 (.held 12 (.held 13 (.held 14 (.held 15 (.held 16 (.held 17 (.loud 18 (.done)))))))))))))))))))) mixed (by kernel_rfl)))
        exact LoopEnd.mk (i + 1) (by omega) (by omega) (by repeat (first | exact Sub.nil _ | refine Sub.cons rfl ?_)) (by rw [e3]; exact (by repeat (first | exact List.Sublist.refl _ | exact List.nil_sublist _ | apply List.Sublist.cons_cons | apply List.Sublist.cons)))
    · obtain rfl : i = ts.length := by omega
      repeat' (first | refine go ?_ | refine goX ?_ | refine goB ?_ | (refine goG ?_; intro g) | (refine goV ?_; intro v) | refine goD ?_ | refine goXD ?_ | (refine goDG ?_; intro g) | (refine goDV ?_; intro v) | (apply WC.draw (id := 1) [0, 1, 2, 3, 4, 5, 6, 7, 8] (.held 0 (.held 1 (.held 2 (.held 3 (.held 4 (.held 5 (.held 6 (.held 7 (.held 8 (.loud 9 (.loud 10 (.done)))))))))))) mixed (by kernel_rfl)) | (apply WC.draw (id := 8) [0, 1, 2, 3, 4, 5, 6, 7, 8, 9, 10, 11, 12, 14] (.held 0 (.held 1 (.held 2 (.held 3 (.held 4 (.held 5 (.held 6 (.held 7 (.held 8 (.held 9 (.held 10 (.held 11 (.held 12 (.loud 13 (.held 14 (.done)))))))))))))))) mixed (by kernel_rfl)) | refine goYL ?_ | (apply WC.draw (id := 9) [0, 2, 3, 4, 5, 6, 7, 8, 9, 10, 11] (.free 1 (.free 13 (.held 0 (.held 2 (.held 3 (.held 4 (.held 5 (.held 6 (.held 7 (.held 8 (.held 9 (.held 10 (.held 11 (.loud 12 (.free 14 (.loud 15 (.done))))))))))))))))) mixed (by kernel_rfl)) | (apply WC.draw (id := 19) [0, 1, 2, 3, 4, 5, 6, 7, 8, 9, 10, 11, 12, 13, 14, 15, 16, 17] (.held 0 (.held 1 (.held 2 (.held 3 (.held 4 (.held 5 (.held 6 (.held 7 (.held 8 (.held 9 (.held 10 (.held 11 (.held 12 (.held 13 (.held 14 (.held 15 (.held 16 (.held 17 (.loud 18 (.done)))))))))))))))))))) mixed (by kernel_rfl)))
      refine WC.ret ?_
      exact Fin.v (ResE.cI rfl rfl (by (repeat (first | exact List.Mem.head _ | apply List.Mem.tail)); done) T.r98 hZ) (by (repeat (first | exact List.Mem.head _ | apply List.Mem.tail)); done) (by rw [stateP, hXg])
end Go.Proofs.Ytgacbfckaglhbaa
