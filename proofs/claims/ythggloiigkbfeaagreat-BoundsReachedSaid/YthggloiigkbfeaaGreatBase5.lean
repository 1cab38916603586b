/- Lemmas for the proof of a law: Contracts: bounds.Solve, bounds.Check. Conditions: none. -/
import Derived.Test.YthggloiigkbfeaaGreatBase4
import Derived.Shelf.SlIterI.Sorted
import Derived.Shelf.SlGeneric
import Derived.Shelf.SortM.Plain
import Derived.Shelf.SortM.SortNone
import Derived.Ground.GgzProg
import Derived.Ground.SlgmProg
import Derived.RangeFuncBox
import Derived.OwnWalkIn
import Derived.TacticsInMore
import Derived.LoopNIn
import Derived.LoopIn
import Derived.Sort.OwnSorted
import Derived.RangeFuncBound
import Derived.Shelf.Slices.CompactI
import Derived.Shelf.SlicesE.DeleteFunc
set_option linter.unusedVariables false
set_option linter.unusedSimpArgs false
set_option linter.unusedSectionVars false
namespace Go.Proofs.YthggloiigkbfeaaGreat
open W Go.RowKit
theorem hasfR0 {D : Nat} {F : List Fct} {ms : Nat → QM} : Has F (fR D (.slice none 0 0) ms []) := fun _ _ => ⟨⟨none, 0, rfl, Nat.le_refl _, by simp [maxLen], .inl ⟨rfl, rfl, rfl⟩⟩, fun i hi => by simp at hi⟩
/-- what the program's Solve answers: numbers, a cycle, an error -/
def slv (n : Int) (bs : List Bd) : List Int × List Int × Int := if validB n bs = true then (match greatP n.toNat bs with | some x => (x, [], 0) | none => ([], cycP n.toNat bs, 14)) else ([], [], 1)
/-- answers numbers, a list of indices and an error -/
def IsSv (D : Nat) (s : List Int × List Int × Int) : RPost := fun v b G => ∃ ux mx uc, v = .tuple #[ux, uc, .int .i64 s.2.2] ∧ b = [] ∧ G = [fR D ux mx s.1, sI uc s.2.1]
def chk (n : Int) (bs : List Bd) (x l : List Int) : Int := if validB n bs = true then (if (l.length = 0 ∧ x.length = n.toNat ∧ Sol bs x) ∨ (x.length = 0 ∧ negP bs l = true) then 0 else 22) else 1
namespace H
open G
attribute [local irreducible] WC WL WD YO LO LoopEnd W.Fin Scalar SliceT FieldAt Row ArrT AllocT KnS Has W.One SrcE IntT
set_option maxHeartbeats 4000000 in
set_option maxRecDepth 60000 in
theorem solve_c (D : Nat) [Den D] (vb : Value) (ms : Nat → QM) (bs : List Bd) (n : Int) (hf : Fit bs) : FnB Tryz.prog 25 [.int .i64 n, vb] [] [fB D vb ms bs] (IsSv D (slv n bs)) := by
  refine fn_of [(0, (.int .i64 n)), (1, vb)] 28 Tryz.func25 rfl Tryz.ntmps25 (by kernel_rfl) rfl suA fun h0 => ?_
  have hr0 : ∀ F : List Fct, Has F (fR D (.slice none 0 0) (fun _ => m00) []) := fun F => hasfR0
  repeat' (first | refine go ?_ | refine goX ?_ | refine goB ?_ | (refine goG ?_; intro g) | (refine goV ?_; intro v))
  first | refine WL.callV (made_c D vb ms bs n) ?_ | refine WD.callV (made_c D vb ms bs n) ?_
  repeat' (first | refine go ?_ | refine goX ?_ | refine goB ?_ | (refine goG ?_; intro g) | (refine goV ?_; intro v))
  cases hvb : validB n bs with
  | false =>
    repeat' (first | refine go ?_ | refine goX ?_ | refine goB ?_ | (refine goG ?_; intro g) | (refine goV ?_; intro v))
    exact WC.ret (Fin.p [] [fR D (.slice none 0 0) (fun _ => m00) [], sI (.slice none 0 0) []] (ResE.t3 rfl rfl rfl rfl) meA (List.nil_sublist _) (.cons (hr0 _) (.cons nil0 .nil)) (by unfold slv; rw [hvb]; exact ⟨_, _, _, rfl, rfl, rfl⟩))
  | true =>
    obtain ⟨m, rfl, hv⟩ := Vld.of hvb
    repeat' (first | refine go ?_ | refine goX ?_ | refine goB ?_ | (refine goG ?_; intro g) | (refine goV ?_; intro v))
    have hs : slv (m : Int) bs = (match greatP m bs with | some x => (x, [], 0) | none => ([], cycP m bs, 14)) := by unfold slv; rw [if_pos hvb]; rfl
    first | refine WL.callK (greatest_c D vb ms bs m hv hf) ?_ | refine WD.callK (greatest_c D vb ms bs m hv hf) ?_ | refine LO.callM (greatest_c D vb ms bs m hv hf) ?_
    rintro rv bb GG hG
    unfold IsGr at hG
    cases hgr : greatP m bs with
    | none =>
      rw [hgr] at hG hs
      obtain ⟨rfl, rfl, rfl⟩ := hG
      simp only [List.nil_append]
      repeat' (first | refine go ?_ | refine goX ?_ | refine goB ?_ | (refine goG ?_; intro g) | (refine goV ?_; intro v))
      first | refine WL.callO (cycle_c D vb ms bs m hv hf) (fun rv => ?_) | refine WD.callO (cycle_c D vb ms bs m hv hf) (fun rv => ?_)
      repeat' (first | refine go ?_ | refine goX ?_ | refine goB ?_ | (refine goG ?_; intro g) | (refine goV ?_; intro v))
      refine WC.freezeI (l := cycP m bs) (v := rv) (el := 3) (by repeat (first | exact Sel.head | apply Sel.tail)) ?_
      exact WC.ret (Fin.p [] [fR D (.slice none 0 0) (fun _ => m00) [], sI rv (cycP m bs)] (ResE.t3 rfl rfl rfl rfl) meA (List.nil_sublist _) (.cons (hr0 _) sfA) (by rw [hs]; exact ⟨_, _, _, rfl, rfl, rfl⟩))
    | some x =>
      rw [hgr] at hG hs
      obtain ⟨u, mx, rfl, rfl, rfl⟩ := hG
      simp only [List.nil_append, List.cons_append]
      repeat' (first | refine go ?_ | refine goX ?_ | refine goB ?_ | (refine goG ?_; intro g) | (refine goV ?_; intro v))
      exact WC.ret (Fin.p [] [fR D u mx x, sI (.slice none 0 0) []] (ResE.t3 rfl rfl rfl rfl) meA (List.nil_sublist _) (.cons hmA (.cons nil0 .nil)) (by rw [hs]; exact ⟨_, _, _, rfl, rfl, rfl⟩))
set_option maxHeartbeats 4000000 in
set_option maxRecDepth 60000 in
theorem check_c (D : Nat) [Den D] (vb ux uc : Value) (ms mx : Nat → QM) (bs : List Bd) (x l : List Int) (n : Int) (hf : Fit bs) (hl : l.length ≤ 1000000) (hb : l.length * absS bs ≤ 400000000) (hx : ∀ i, (x.getD i 0).natAbs ≤ 250000000) :
    FnB Tryz.prog 22 [.int .i64 n, vb, ux, uc] [] [fB D vb ms bs, fR D ux mx x, sI uc l] (IsV (.int .i64 (chk n bs x l))) := by
  refine fn_of [(0, (.int .i64 n)), (1, vb), (2, ux), (3, uc)] 37 Tryz.func22 rfl Tryz.ntmps22 (by kernel_rfl) rfl suA fun h0 => ?_
  refine WC.lenF (W.Has.rs (D := D) (v := ux) (ms := mx) (qs := x) hmA) fun hlen => ?_
  repeat' (first | refine go ?_ | refine goX ?_ | refine goB ?_ | (refine goG ?_; intro g) | (refine goV ?_; intro v))
  first | refine WL.callV (made_c D vb ms bs n) ?_ | refine WD.callV (made_c D vb ms bs n) ?_
  repeat' (first | refine go ?_ | refine goX ?_ | refine goB ?_ | (refine goG ?_; intro g) | (refine goV ?_; intro v))
  cases hvb : validB n bs with
  | false =>
    repeat' (first | refine go ?_ | refine goX ?_ | refine goB ?_ | (refine goG ?_; intro g) | (refine goV ?_; intro v))
    exact WC.ret (Fin.v (ResE.t1 rfl rfl) meA (by unfold chk; rw [hvb]; rfl))
  | true =>
    obtain ⟨m, rfl, hv⟩ := Vld.of hvb
    have hvl := hv.l
    have hs : chk (m : Int) bs x l = if (l.length = 0 ∧ x.length = m ∧ Sol bs x) ∨ (x.length = 0 ∧ negP bs l = true) then 0 else 22 := by unfold chk; rw [if_pos hvb]; rfl
    have fin : ∀ r : Int, r = chk (m : Int) bs x l → Value.int .i64 r = .int .i64 (chk (m : Int) bs x l) := fun r hr => by rw [hr]
    by_cases c1 : l.length = 0
    · repeat' (first | refine go ?_ | refine goX ?_ | refine goB ?_ | (refine goG ?_; intro g) | (refine goV ?_; intro v))
      first | refine WL.callV (psolves_c D vb ux ms mx bs x m hv hf hx) ?_ | refine WD.callV (psolves_c D vb ux ms mx bs x m hv hf hx) ?_
      by_cases c2 : x.length = m ∧ Sol bs x
      · rw [if_pos (.inl ⟨c1, c2⟩)] at hs
        rw [decide_eq_true c2]
        repeat' (first | refine go ?_ | refine goX ?_ | refine goB ?_ | (refine goG ?_; intro g) | (refine goV ?_; intro v))
        exact WC.ret (Fin.v (ResE.t1 rfl rfl) meA (fin _ hs.symm))
      · rw [decide_eq_false c2]
        repeat' (first | refine go ?_ | refine goX ?_ | refine goB ?_ | (refine goG ?_; intro g) | (refine goV ?_; intro v))
        by_cases c3 : x.length = 0
        · repeat' (first | refine go ?_ | refine goX ?_ | refine goB ?_ | (refine goG ?_; intro g) | (refine goV ?_; intro v))
          first | refine WL.callV (negative_c D vb uc ms bs l m hl hb hf (by omega)) ?_ | refine WD.callV (negative_c D vb uc ms bs l m hl hb hf (by omega)) ?_
          cases c4 : negP bs l with
          | true =>
            rw [if_pos (.inr ⟨c3, c4⟩)] at hs
            repeat' (first | refine go ?_ | refine goX ?_ | refine goB ?_ | (refine goG ?_; intro g) | (refine goV ?_; intro v))
            exact WC.ret (Fin.v (ResE.t1 rfl rfl) meA (fin _ hs.symm))
          | false =>
            rw [if_neg (fun h => h.elim (fun h => c2 h.2) (fun h => by rw [c4] at h; cases h.2))] at hs
            repeat' (first | refine go ?_ | refine goX ?_ | refine goB ?_ | (refine goG ?_; intro g) | (refine goV ?_; intro v))
            exact WC.ret (Fin.v (ResE.t1 rfl rfl) meA (fin _ hs.symm))
        · rw [if_neg (fun h => h.elim (fun h => c2 h.2) (fun h => c3 h.1))] at hs
          repeat' (first | refine go ?_ | refine goX ?_ | refine goB ?_ | (refine goG ?_; intro g) | (refine goV ?_; intro v))
          exact WC.ret (Fin.v (ResE.t1 rfl rfl) meA (fin _ hs.symm))
    · repeat' (first | refine go ?_ | refine goX ?_ | refine goB ?_ | (refine goG ?_; intro g) | (refine goV ?_; intro v))
      by_cases c3 : x.length = 0
      · repeat' (first | refine go ?_ | refine goX ?_ | refine goB ?_ | (refine goG ?_; intro g) | (refine goV ?_; intro v))
        first | refine WL.callV (negative_c D vb uc ms bs l m hl hb hf (by omega)) ?_ | refine WD.callV (negative_c D vb uc ms bs l m hl hb hf (by omega)) ?_
        cases c4 : negP bs l with
        | true =>
          rw [if_pos (.inr ⟨c3, c4⟩)] at hs
          repeat' (first | refine go ?_ | refine goX ?_ | refine goB ?_ | (refine goG ?_; intro g) | (refine goV ?_; intro v))
          exact WC.ret (Fin.v (ResE.t1 rfl rfl) meA (fin _ hs.symm))
        | false =>
          rw [if_neg (fun h => h.elim (fun h => c1 h.1) (fun h => by rw [c4] at h; cases h.2))] at hs
          repeat' (first | refine go ?_ | refine goX ?_ | refine goB ?_ | (refine goG ?_; intro g) | (refine goV ?_; intro v))
          exact WC.ret (Fin.v (ResE.t1 rfl rfl) meA (fin _ hs.symm))
      · rw [if_neg (fun h => h.elim (fun h => c1 h.1) (fun h => c3 h.1))] at hs
        repeat' (first | refine go ?_ | refine goX ?_ | refine goB ?_ | (refine goG ?_; intro g) | (refine goV ?_; intro v))
        exact WC.ret (Fin.v (ResE.t1 rfl rfl) meA (fin _ hs.symm))
end H
end Go.Proofs.YthggloiigkbfeaaGreat
namespace Go.Proofs.YthggloiigkbfeaaGreat
open W Go.RowKit
def mostS (t : Nat → Option Int) (s : Option Nat) (k : Nat) : Option Nat := match t k with
  | none => s
  | some d => match s with
    | none => some k
    | some j => if d < (t j).getD 0 then some k else s
/-- the first number of bounds with the least length -/
def mostK (n : Nat) (bs : List Bd) (a b : Nat) : Option Nat := (List.range n).foldl (mostS (fun k => ol (tabP n bs b k) a)) none
def mostD (n : Nat) (bs : List Bd) (a b k : Nat) : Int := (ol (tabP n bs b k) a).getD 0
theorem mostK_spec (n : Nat) (bs : List Bd) (a b : Nat) : (mostK n bs a b = none ∧ ∀ j, j < n → ol (tabP n bs b j) a = none) ∨ ∃ k d, mostK n bs a b = some k ∧ k < n ∧ ol (tabP n bs b k) a = some d ∧ ∀ j e, j < n → ol (tabP n bs b j) a = some e → d ≤ e ∧ (j < k → d < e) := by
  unfold mostK
  have main : ∀ (t : Nat → Option Int) m, ((List.range m).foldl (mostS t) none = none ∧ ∀ j, j < m → t j = none) ∨ ∃ k d, (List.range m).foldl (mostS t) none = some k ∧ k < m ∧ t k = some d ∧ ∀ j e, j < m → t j = some e → d ≤ e ∧ (j < k → d < e) := by
    intro t m
    induction m with
    | zero => exact .inl ⟨rfl, fun j h => by omega⟩
    | succ m ih =>
      rw [List.range_succ, List.foldl_append, List.foldl_cons, List.foldl_nil]
      cases hm : t m with
      | none =>
        rcases ih with ⟨h1, h2⟩ | ⟨k, d, h1, h2, h3, h4⟩
        · rw [h1]
          refine .inl ⟨by unfold mostS; rw [hm], fun j hj => ?_⟩
          by_cases c : j = m
          · rw [c, hm]
          · exact h2 j (by omega)
        · rw [h1]
          refine .inr ⟨k, d, by unfold mostS; rw [hm], by omega, h3, fun j e hj he => ?_⟩
          by_cases c : j = m
          · rw [c, hm] at he; cases he
          · exact h4 j e (by omega) he
      | some f =>
        rcases ih with ⟨h1, h2⟩ | ⟨k, d, h1, h2, h3, h4⟩
        · rw [h1]
          refine .inr ⟨m, f, by unfold mostS; rw [hm], by omega, hm, fun j e hj he => ?_⟩
          by_cases c : j = m
          · subst c; rw [hm] at he; cases he; exact ⟨Int.le_refl _, fun h => by omega⟩
          · rw [h2 j (by omega)] at he; cases he
        · rw [h1]
          by_cases c : f < d
          · refine .inr ⟨m, f, by unfold mostS; rw [hm]; simp only [h3, Option.getD_some]; rw [if_pos c], by omega, hm, fun j e hj he => ?_⟩
            by_cases c2 : j = m
            · subst c2; rw [hm] at he; cases he; exact ⟨Int.le_refl _, fun h => by omega⟩
            · have := h4 j e (by omega) he
              exact ⟨by omega, fun _ => by omega⟩
          · refine .inr ⟨k, d, by unfold mostS; rw [hm]; simp only [h3, Option.getD_some]; rw [if_neg c], by omega, h3, fun j e hj he => ?_⟩
            by_cases c2 : j = m
            · subst c2; rw [hm] at he; cases he; exact ⟨by omega, fun h => by omega⟩
            · exact h4 j e (by omega) he
  exact main (fun k => ol (tabP n bs b k) a) n
/-! ## The model -/
def bett (bs : List Bd) (a b : List Int) : Bool := decide (lenP bs a < lenP bs b ∨ (lenP bs a = lenP bs b ∧ (a.length < b.length ∨ (a.length = b.length ∧ cmpL a b < 0))))
theorem cmpL_nlt {a b : List Int} : ¬ cmpL a b < 0 ↔ cmpL b a ≤ 0 := by
  constructor
  · intro h; exact (cmpL_total a b).resolve_left h
  · intro h h2
    have := cmpL_anti (Int.le_of_lt h2) h
    subst this; rw [cmpL_refl] at h2; omega
theorem bett_f {bs : List Bd} {a b : List Int} : bett bs a b = false ↔ lenP bs b ≤ lenP bs a ∧ (lenP bs a = lenP bs b → b.length ≤ a.length ∧ (a.length = b.length → cmpL b a ≤ 0)) := by
  unfold bett
  rw [decide_eq_false_iff_not, ← cmpL_nlt]
  constructor
  · intro h
    refine ⟨Int.not_lt.1 fun h2 => h (.inl h2), fun h2 => ⟨Nat.not_lt.1 fun h3 => h (.inr ⟨h2, .inl h3⟩), fun h3 h4 => h (.inr ⟨h2, .inr ⟨h3, h4⟩⟩)⟩⟩
  · rintro ⟨h1, h2⟩ (h3 | ⟨h3, h4 | ⟨h4, h5⟩⟩)
    · omega
    · have := (h2 h3).1; omega
    · exact (h2 h3).2 h4 h5
theorem bett_trans {bs : List Bd} {a b c : List Int} (h : bett bs a b = false) (h2 : bett bs b c = false) : bett bs a c = false := by
  rw [bett_f] at *
  obtain ⟨h1, h3⟩ := h
  obtain ⟨h4, h5⟩ := h2
  refine ⟨by omega, fun h6 => ?_⟩
  have h7 := h3 (by omega)
  have h8 := h5 (by omega)
  exact ⟨by omega, fun h9 => cmpL_trans (h8.2 (by omega)) (h7.2 (by omega))⟩
theorem bett_refl (bs : List Bd) (a : List Int) : bett bs a a = false := by
  rw [bett_f]; exact ⟨Int.le_refl _, fun _ => ⟨Nat.le_refl _, fun _ => by rw [cmpL_refl]; omega⟩⟩
theorem bett_anti {bs : List Bd} {a b : List Int} (h : bett bs a b = false) (h2 : bett bs b a = false) : a = b := by
  rw [bett_f] at *
  have h3 := h.2 (by omega)
  have h4 := h2.2 (by omega)
  exact cmpL_anti (h4.2 (by omega)) (h3.2 (by omega))
theorem bett_asym {bs : List Bd} {a b : List Int} (h : bett bs a b = true) : bett bs b a = false := by
  cases h2 : bett bs b a with
  | false => rfl
  | true =>
    unfold bett at h h2
    rw [decide_eq_true_eq] at h h2
    rcases h with h | ⟨h3, h⟩ <;> rcases h2 with h2 | ⟨h4, h2⟩
    · omega
    · omega
    · omega
    · rcases h with h | ⟨h5, h⟩ <;> rcases h2 with h2 | ⟨h6, h2⟩
      · omega
      · omega
      · omega
      · exact absurd h (cmpL_nlt.2 (by omega))
def flwE (bs : List Bd) (path : List Int) : Option (List Int) → Option (List Int)
  | none => some path
  | some b => if bett bs path b then some path else some b
abbrev lst (met : List Int) : Int := met.getD (met.length - 1) 0
/-- what the model's follow answers -/
def flwP (bs : List Bd) (to : Int) : Nat → List Int → List Int → Option (List Int) → Option (List Int)
  | 0, _, _, o => o
  | c + 1, path, met, o => if lst met = to then flwE bs path o else
    (List.range bs.length).foldl (fun o i => if (bg bs i).fr = lst met ∧ (bg bs i).to ∉ met then flwP bs to c (path ++ [(i : Int)]) (met ++ [(bg bs i).to]) o else o) o
/-- where the bounds of a way come to -/
def tos (bs : List Bd) (l : List Int) : List Int := l.map fun i => (bg bs i.toNat).to
theorem frs_tos {bs : List Bd} {l : List Int} : ∀ {u v : Int}, Wlk bs u l v → u :: tos bs l = frs bs l ++ [v] := by
  induction l with
  | nil => intro u v h; simp [Wlk] at h; simp [tos, frs, h]
  | cons i l ih =>
    intro u v ⟨h1, h2, h3⟩
    have := ih h3
    show u :: (bg bs i.toNat).to :: tos bs l = ((bg bs i.toNat).fr :: frs bs l) ++ [v]
    rw [this, h2]; rfl
theorem tos_in {n : Nat} {bs : List Bd} (hv : Vld n bs) {l : List Int} : ∀ {u v : Int}, Wlk bs u l v → ∀ x ∈ tos bs l, 0 ≤ x ∧ x < n := by
  induction l with
  | nil => intro u v _ x hx; simp [tos] at hx
  | cons i l ih =>
    intro u v ⟨h1, h2, h3⟩ x hx
    have hx2 : x = (bg bs i.toNat).to ∨ x ∈ tos bs l := List.mem_cons.1 hx
    rcases hx2 with rfl | hx2
    · have := hv.ok i.toNat (by omega); unfold Bd.ok at this; omega
    · exact ih h3 x hx2
/-- a way on from met to an unknown -/
def Cmp (bs : List Bd) (to : Int) (met q : List Int) : Prop := Wlk bs (lst met) q to ∧ (tos bs q).Nodup ∧ ∀ x ∈ tos bs q, x ∉ met
theorem lst_mem {met : List Int} (h : met ≠ []) : lst met ∈ met := by
  have : 0 < met.length := List.length_pos_iff.2 h
  unfold lst
  rw [List.getD_eq_getElem?_getD, List.getElem?_eq_getElem (show met.length - 1 < met.length by omega), Option.getD_some]
  exact List.getElem_mem _
theorem lst_snoc (met : List Int) (x : Int) : lst (met ++ [x]) = x := by simp [lst, List.getD_eq_getElem?_getD]
theorem end_mem {bs : List Bd} {q : List Int} : ∀ {u v : Int}, Wlk bs u q v → q ≠ [] → v ∈ tos bs q := by
  intro u v h hq
  have h2 := frs_tos h
  have h3 : v ∈ u :: tos bs q := by rw [h2]; simp
  rcases List.mem_cons.1 h3 with rfl | h4
  · cases q with
    | nil => exact absurd rfl hq
    | cons i q =>
      obtain ⟨h5, h6, h7⟩ := h
      have h8 := frs_tos h7
      have : v ∈ (bg bs i.toNat).to :: tos bs q := by rw [h8]; simp
      exact this
  · exact h4
theorem Cmp.cons {bs : List Bd} {to : Int} {met q : List Int} {i : Nat} (hi : i < bs.length) : Cmp bs to met ((i : Int) :: q) ↔ ((bg bs i).fr = lst met ∧ (bg bs i).to ∉ met) ∧ Cmp bs to (met ++ [(bg bs i).to]) q := by
  have e : tos bs ((i : Int) :: q) = (bg bs i).to :: tos bs q := by simp [tos]
  unfold Cmp
  rw [lst_snoc, e, List.nodup_cons]
  constructor
  · rintro ⟨⟨h1, h2, h3⟩, ⟨h4, h5⟩, h6⟩
    rw [Int.toNat_natCast] at h2 h3
    refine ⟨⟨h2, h6 _ (List.mem_cons_self ..)⟩, h3, h5, fun x hx hm => ?_⟩
    rcases List.mem_append.1 hm with h7 | h7
    · exact h6 x (List.mem_cons_of_mem _ hx) h7
    · rw [List.mem_singleton] at h7; subst h7; exact h4 hx
  · rintro ⟨⟨h1, h2⟩, h3, h4, h5⟩
    refine ⟨⟨by omega, by rw [Int.toNat_natCast]; exact h1, by rw [Int.toNat_natCast]; exact h3⟩, ⟨fun h => h5 _ h (by simp), h4⟩, fun x hx hm => ?_⟩
    rcases List.mem_cons.1 hx with rfl | hx
    · exact h2 hm
    · exact h5 x hx (List.mem_append_left _ hm)
theorem flw_spec {n : Nat} {bs : List Bd} (hv : Vld n bs) (to : Int) : ∀ (c : Nat) (path met : List Int) (o : Option (List Int)), met ≠ [] → met.Nodup → (∀ x ∈ met, 0 ≤ x ∧ x < n) → met.length + c = n + 1 →
    (∀ q, Cmp bs to met q → ∃ b, flwP bs to c path met o = some b ∧ bett bs (path ++ q) b = false) ∧ (∀ b0, o = some b0 → ∃ b, flwP bs to c path met o = some b ∧ bett bs b0 b = false) ∧
    (flwP bs to c path met o = o ∨ ∃ q, Cmp bs to met q ∧ flwP bs to c path met o = some (path ++ q)) := by
  intro c
  induction c with
  | zero => intro path met o h1 h2 h3 h4; have := nodup_le h2 h3; omega
  | succ c ih =>
    intro path met o h1 h2 h3 h4
    rw [flwP]
    by_cases ct : lst met = to
    · rw [if_pos ct]
      have hq : ∀ q, Cmp bs to met q → q = [] := fun q hq => by
        refine Classical.byContradiction fun hn => ?_
        have := end_mem hq.1 hn
        exact hq.2.2 _ this (by rw [← ct]; exact lst_mem h1)
      have h0 : Cmp bs to met [] := ⟨ct, by simp [tos], fun x hx => by simp [tos] at hx⟩
      cases o with
      | none => exact ⟨fun q hc => ⟨path, rfl, by rw [hq q hc, List.append_nil]; exact bett_refl _ _⟩, fun b0 h => (by cases h), .inr ⟨[], h0, by rw [List.append_nil]; rfl⟩⟩
      | some b =>
        rw [show flwE bs path (some b) = if bett bs path b then some path else some b from rfl]
        by_cases cb : bett bs path b = true
        · rw [if_pos cb]
          exact ⟨fun q hc => ⟨path, rfl, by rw [hq q hc, List.append_nil]; exact bett_refl _ _⟩, fun b0 h => by cases h; exact ⟨path, rfl, bett_asym cb⟩, .inr ⟨[], h0, by rw [List.append_nil]⟩⟩
        · rw [if_neg cb]
          exact ⟨fun q hc => ⟨b, rfl, by rw [hq q hc, List.append_nil]; simpa using cb⟩, fun b0 h => by cases h; exact ⟨b, rfl, bett_refl _ _⟩, .inl rfl⟩
    · rw [if_neg ct]
      generalize hg : (fun (o : Option (List Int)) (i : Nat) => if (bg bs i).fr = lst met ∧ (bg bs i).to ∉ met then flwP bs to c (path ++ [(i : Int)]) (met ++ [(bg bs i).to]) o else o) = g
      have main : ∀ k, k ≤ bs.length →
          (∀ (i : Nat) q, i < k → Cmp bs to met ((i : Int) :: q) → ∃ b, (List.range k).foldl g o = some b ∧ bett bs (path ++ (i : Int) :: q) b = false) ∧ (∀ b0, o = some b0 → ∃ b, (List.range k).foldl g o = some b ∧ bett bs b0 b = false) ∧
          ((List.range k).foldl g o = o ∨ ∃ q, Cmp bs to met q ∧ (List.range k).foldl g o = some (path ++ q)) := by
        intro k
        induction k with
        | zero => intro _; exact ⟨fun i q h => by omega, fun b0 h => ⟨b0, h, bett_refl _ _⟩, .inl rfl⟩
        | succ k ihk =>
          intro hk
          obtain ⟨k1, k2, k3⟩ := ihk (by omega)
          rw [List.range_succ, List.foldl_append, List.foldl_cons, List.foldl_nil]
          generalize (List.range k).foldl g o = r at *
          by_cases cc : (bg bs k).fr = lst met ∧ (bg bs k).to ∉ met
          · have hgk : g r k = flwP bs to c (path ++ [(k : Int)]) (met ++ [(bg bs k).to]) r := by rw [← hg]; exact if_pos cc
            have hok := hv.ok k (by omega)
            unfold Bd.ok at hok
            obtain ⟨j1, j2, j3⟩ := ih (path ++ [(k : Int)]) (met ++ [(bg bs k).to]) r (by simp) (by
              rw [List.nodup_append]
              exact ⟨h2, by simp, fun a ha b hb => by rw [List.mem_singleton] at hb; subst hb; rintro rfl; exact cc.2 ha⟩) (fun x hx => by
              rcases List.mem_append.1 hx with h | h
              · exact h3 x h
              · rw [List.mem_singleton] at h; subst h; omega) (by simp; omega)
            rw [hgk]
            have ea : ∀ q, path ++ [(k : Int)] ++ q = path ++ (k : Int) :: q := fun q => by simp
            have keep : ∀ x, (∃ b, r = some b ∧ bett bs x b = false) → ∃ b, flwP bs to c (path ++ [(k : Int)]) (met ++ [(bg bs k).to]) r = some b ∧ bett bs x b = false := by
              rintro x ⟨b, hb1, hb2⟩
              obtain ⟨b', hb3, hb4⟩ := j2 b hb1
              exact ⟨b', hb3, bett_trans hb2 hb4⟩
            refine ⟨fun i q hi hq => ?_, fun b0 h => keep _ (k2 b0 h), ?_⟩
            · by_cases ci : i = k
              · subst ci
                obtain ⟨b, hb1, hb2⟩ := j1 q ((Cmp.cons (by omega)).1 hq).2
                exact ⟨b, hb1, by rw [← ea]; exact hb2⟩
              · exact keep _ (k1 i q (by omega) hq)
            · rcases j3 with j3 | ⟨q, j3, j4⟩
              · rw [j3]; exact k3
              · exact .inr ⟨(k : Int) :: q, (Cmp.cons (by omega)).2 ⟨cc, j3⟩, by rw [j4, ea]⟩
          · have hgk : g r k = r := by rw [← hg]; exact if_neg cc
            rw [hgk]
            refine ⟨fun i q hi hq => ?_, k2, k3⟩
            by_cases ci : i = k
            · subst ci; exact absurd ((Cmp.cons (by omega)).1 hq).1 cc
            · exact k1 i q (by omega) hq
      obtain ⟨m1, m2, m3⟩ := main bs.length (Nat.le_refl _)
      refine ⟨fun q hq => ?_, m2, m3⟩
      cases q with
      | nil => exact absurd hq.1 ct
      | cons i q =>
        obtain ⟨⟨b1, _⟩, _⟩ := id hq
        have hi : ((i.toNat : Nat) : Int) = i := by omega
        rw [← hi] at hq ⊢
        exact m1 i.toNat q (by omega) hq
section
variable {n : Nat} {bs : List Bd} (hv : Vld n bs) {a b : Nat} (ha : a < n) (hb : b < n)
include hv ha hb
theorem Cmp.short {q : List Int} (h : Cmp bs (b : Int) [(a : Int)] q) : Wlk bs a q b ∧ q.length < n := by
  obtain ⟨h1, h2, h3⟩ := h
  refine ⟨h1, ?_⟩
  have h4 : ((a : Int) :: tos bs q).Nodup := List.nodup_cons.2 ⟨fun h => h3 _ h (by simp), h2⟩
  have h5 := nodup_le (n := n) h4 (fun x hx => by
    rcases List.mem_cons.1 hx with rfl | hx
    · omega
    · exact tos_in hv h1 x hx)
  simp [tos] at h5; omega
omit ha in
/-- a shortest way with the fewest bounds comes to no unknown twice -/
theorem short_simple (hs : HasSol bs) {k : Nat} {d : Int} {r : List Int} (hr : r.length = k) (hw : Wlk bs a r b) (hd : lenP bs r = d) (hmin : ∀ j e, j < k → ol (tabP n bs b j) a = some e → d < e) : Cmp bs (b : Int) [(a : Int)] r := by
  have cut : ∀ p c s w, r = p ++ c ++ s → c ≠ [] → Wlk bs a p w → Wlk bs w c w → Wlk bs w s b → False := by
    intro p c s w he hc w1 w2 w3
    have hlc : 0 < c.length := List.length_pos_iff.2 hc
    have hnn : ¬ lenP bs c < 0 := fun h => (show Neg bs c.length c from ⟨rfl, h, w, w2⟩).no hs
    obtain ⟨e, e1, e2⟩ := tab_le hv hb (p ++ s).length a (p ++ s) rfl (Wlk.app.2 ⟨w, w1, w3⟩)
    have h5 := hmin _ e (by rw [he] at hr; simp only [List.length_append] at hr ⊢; omega) e1
    rw [he, lenP_app, lenP_app] at hd
    rw [lenP_app] at e2; omega
  have hn : (frs bs r ++ [(b : Int)]).Nodup := by
    rw [List.nodup_append]
    refine ⟨?_, by simp, ?_⟩
    · refine Classical.byContradiction fun h => ?_
      obtain ⟨p, c, s, w, h1, h2, h3, h4, h5, h6⟩ := frs_split h hw
      exact cut p c s w h1 h2 h4 h5 h6
    · intro x hx y hy he
      rw [List.mem_singleton] at hy
      subst he; subst hy
      unfold frs at hx
      obtain ⟨i, hi, he⟩ := List.mem_map.1 hx
      obtain ⟨p, s, rfl⟩ := List.append_of_mem hi
      obtain ⟨w, w1, w2⟩ := Wlk.app.1 hw
      have hwb : w = b := by rw [← w2.2.1]; exact he
      subst hwb
      exact cut p (i :: s) [] b (by simp) (by simp) w1 w2 rfl
  rw [← frs_tos hw, List.nodup_cons] at hn
  exact ⟨hw, hn.2, fun x hx hm => by rw [List.mem_singleton] at hm; subst hm; exact hn.1 hx⟩
/-- both find the same -/
theorem most_same (hs : HasSol bs) : (mostK n bs a b = none ∧ flwP bs b n [] [(a : Int)] none = none) ∨
    ∃ k, mostK n bs a b = some k ∧ flwP bs b n [] [(a : Int)] none = some (fstP bs (tabL n bs b n) (fun x => decide (x = mostD n bs a b k)) k a 0 []) ∧ lenP bs (fstP bs (tabL n bs b n) (fun x => decide (x = mostD n bs a b k)) k a 0 []) = mostD n bs a b k ∧
      Cmp bs (b : Int) [(a : Int)] (fstP bs (tabL n bs b n) (fun x => decide (x = mostD n bs a b k)) k a 0 []) ∧ ∀ q, q.length < n → Wlk bs a q b → mostD n bs a b k ≤ lenP bs q := by
  obtain ⟨f1, _, f3⟩ := flw_spec hv (b : Int) n [] [(a : Int)] none (by simp) (by simp) (fun x hx => by rw [List.mem_singleton] at hx; subst hx; omega) (by simp; omega)
  rcases mostK_spec n bs a b with ⟨h1, h2⟩ | ⟨k, d, h1, h2, h3, h4⟩
  · refine .inl ⟨h1, ?_⟩
    rcases f3 with f3 | ⟨q, q1, _⟩
    · exact f3
    · obtain ⟨q2, q3⟩ := q1.short hv ha hb
      obtain ⟨e, e1, _⟩ := tab_le hv hb q.length a q rfl q2
      rw [h2 _ q3] at e1; cases e1
  · have hD : mostD n bs a b k = d := by unfold mostD; rw [h3]; rfl
    have hall : ∀ q, q.length < n → Wlk bs a q b → d ≤ lenP bs q ∧ (q.length < k → d < lenP bs q) := fun q hq hw => by
      obtain ⟨e, e1, e2⟩ := tab_le hv hb q.length a q rfl hw
      have := h4 _ e hq e1
      exact ⟨by omega, fun h => by have := this.2 h; omega⟩
    have hr : ∃ r, fstP bs (tabL n bs b n) (fun x => decide (x = d)) k a 0 [] = r ∧ r.length = k ∧ Wlk bs a r b ∧ lenP bs r = d ∧ ∀ m, m.length = k → Wlk bs a m b → lenP bs m = d → cmpL r m ≤ 0 := by
      by_cases hk : k = 0
      · subst hk
        obtain ⟨l, l1, l2, l3⟩ := tab_some hv hb 0 a d h3
        obtain rfl := List.eq_nil_of_length_eq_zero l1
        refine ⟨[], rfl, rfl, l2, l3, fun m hm _ _ => ?_⟩
        obtain rfl := List.eq_nil_of_length_eq_zero hm
        exact Int.le_refl _
      · have hG : GoodW bs a b k (fun x => decide (x = d)) := fun p q q' u hl hq w1 w2 w3 hle hg => by
          have hg2 : lenP bs p + lenP bs q = d := of_decide_eq_true hg
          have := hall (p ++ q') (by rw [List.length_append]; omega) (Wlk.app.2 ⟨u, w1, w3⟩)
          rw [lenP_app] at this
          exact decide_eq_true (by omega)
        obtain ⟨l, l1, l2, l3⟩ := tab_some hv hb k a d h3
        rcases fst_spec hv hb (Nat.pos_of_ne_zero hk) (T := tabL n bs b n) (fun r hr => tabL_get (by omega)) (good := fun x => decide (x = d)) (fr := a) ⟨by omega, by omega⟩ hG with ⟨_, g1, g2⟩ | ⟨g1, _⟩
        · exact ⟨_, rfl, g1.1, g1.2.1, of_decide_eq_true g1.2.2, fun m m1 m2 m3 => g2 m ⟨m1, m2, decide_eq_true m3⟩⟩
        · exact absurd ⟨l, l1, l2, decide_eq_true l3⟩ g1
    obtain ⟨r, hr0, hr1, hr2, hr3, hr4⟩ := hr
    have hc := short_simple hv hb hs hr1 hr2 hr3 (fun j e hj he => (h4 j e (by omega) he).2 hj)
    refine .inr ⟨k, h1, ?_, ?_, ?_, fun q h5 h6 => ?_⟩
    · rw [hD, hr0]
      obtain ⟨b', b1, b2⟩ := f1 r hc
      rw [List.nil_append] at b2
      rcases f3 with f3 | ⟨q, q1, q2⟩
      · rw [f3] at b1; cases b1
      · rw [q2] at b1
        cases b1
        rw [List.nil_append] at b2 q2
        obtain ⟨q3, q4⟩ := q1.short hv ha hb
        have h5 := hall q q4 q3
        rw [q2]
        congr 1
        refine (bett_anti b2 ?_).symm
        rw [bett_f, hr3]
        refine ⟨h5.1, fun h6 => ⟨Nat.not_lt.1 fun h7 => by have := h5.2 (by omega); omega, fun h7 => hr4 q (by omega) q3 (by omega)⟩⟩
    · rw [hD, hr0]; exact hr3
    · rw [hD, hr0]; exact hc
    · rw [hD]; exact (hall q h5 h6).1
end
end Go.Proofs.YthggloiigkbfeaaGreat
namespace Go.Proofs.YthggloiigkbfeaaGreat
open W Go.RowKit
/-- what the program's Most answers: a number, a path or a cycle, an error -/
def mst (n : Int) (bs : List Bd) (a b : Int) : Int × List Int × Int :=
  if validB n bs = true ∧ (0 ≤ a ∧ a < n) ∧ 0 ≤ b ∧ b < n then (match greatP n.toNat bs with
    | none => (0, cycP n.toNat bs, 14)
    | some _ => match mostK n.toNat bs a.toNat b.toNat with
      | none => (0, [], 6)
      | some k => (mostD n.toNat bs a.toNat b.toNat k, fstP bs (tabL n.toNat bs b.toNat n.toNat) (fun x => decide (x = mostD n.toNat bs a.toNat b.toNat k)) k a 0 [], 0))
  else (0, [], 1)
/-- answers a number, a list of indices and an error -/
def IsMo (D : Nat) (s : Int × List Int × Int) : RPost := fun v b G => ∃ m uc, v = .tuple #[qv m, uc, .int .i64 s.2.2] ∧ b = [] ∧ G = [isQ (qv m) (wq D s.1), sI uc s.2.1]
def mI : Option Nat → Int
  | none => -1
  | some j => j
theorem W.Has.mTsnoc {D : Nat} {F : List Fct} {us : Nat → Value} {mss : Nat → Nat → QM} {Tb : List (List (Option Int))} {u : Value} {ml : Nat → QM} {L : List (Option Int)} {k : Nat} (hk : Tb.length = k) (h : Has F (mT D us mss Tb)) (hu : Has F (fL D u ml L)) : Has F (mT D (upd us k u) (upd mss k ml) (Tb ++ [L])) := fun p hf i hi => by
  rw [List.length_append, List.length_singleton] at hi
  by_cases c : i = k
  · subst c; rw [upd_at, upd_at]
    have : (Tb ++ [L]).getD i [] = L := by simp [List.getD_eq_getElem?_getD, ← hk]
    rw [this]; exact hu p hf
  · rw [upd_ne c, upd_ne c]
    have : (Tb ++ [L]).getD i [] = Tb.getD i [] := by simp only [List.getD_eq_getElem?_getD]; rw [List.getElem?_append_left (by omega)]
    rw [this]; exact h p hf i (by omega)
section
variable {D : Nat} {F : List Fct} {us : Nat → Value} {mss : Nat → Nat → QM} {n b m k : Nat} {bs : List Bd} {u : Value} {ml : Nat → QM}
theorem W.Has.tabG (h : Has F (mT D us mss (tabL n bs b m))) (hk : k < m) : Has F (fL D (us k) (mss k) (tabP n bs b k)) := by
  have := W.Has.tl h (k := k) (by rw [tabL_len]; exact hk)
  rwa [tabL_get hk] at this
theorem W.Has.tabS (h : Has F (mT D us mss (tabL n bs b m))) (hu : Has F (fL D u ml (tabP n bs b m))) : Has F (mT D (upd us m u) (upd mss m ml) (tabL n bs b (m + 1))) := by
  rw [tabL_succ]; exact W.Has.mTsnoc (tabL_len _ _ _ _) h hu
theorem W.Has.tab1 (hu : Has F (fL D u ml (endP n b))) : Has F (mT D (fun _ => u) (fun _ => ml) (tabL n bs b (0 + 1))) := fun p hf i hi => by
  obtain rfl : i = 0 := by rw [tabL_len] at hi; omega
  rw [tabL_get (by omega)]; exact hu p hf
end
namespace H
open G
attribute [local irreducible] WC WL WD YO LO LoopEnd W.Fin Scalar SliceT FieldAt Row ArrT AllocT KnS Has W.One SrcE IntT
theorem d19 {G G' : Prop} (h : G') (s : Bx G' → G := by
  intro h
  first | (apply WC.draw (id := 11) [0, 1, 2, 3, 4, 5] (.held 0 (.held 1 (.held 2 (.held 3 (.held 4 (.held 5 (.loud 6 (.loud 7 (.loud 8 (.free 9 (.done))))))))))) mixed (by kernel_rfl)) | (apply WC.draw (id := 17) [0, 1, 2, 3, 4, 5, 6, 7, 8, 9, 10, 11, 12, 13, 14, 15, 16, 17, 18, 19, 20, 21, 23, 24, 25] (.held 0 (.held 1 (.held 2 (.held 3 (.held 4 (.held 5 (.held 6 (.held 7 (.held 8 (.held 9 (.held 10 (.held 11 (.held 12 (.held 13 (.held 14 (.held 15 (.held 16 (.held 17 (.held 18 (.held 19 (.held 20 (.held 21 (.loud 22 (.held 23 (.held 24 (.held 25 (.done))))))))))))))))))))))))))) mixed (by kernel_rfl)) | (apply WC.draw (id := 23) [0, 1, 2, 3, 4, 5] (.held 0 (.held 1 (.held 2 (.held 3 (.held 4 (.held 5 (.loud 6 (.loud 7 (.free 8 (.free 9 (.done))))))))))) mixed (by kernel_rfl)) | fail
  exact Bx.h h) : G := s ⟨h⟩
set_option maxHeartbeats 4000000 in
set_option maxRecDepth 60000 in
theorem most1_c (D : Nat) [Den D] (m md : QM) (k d : Int) (g : Nat) : FnB Tryz.prog 66 ([qv m] ++ [ptr g]) [] [isQ (qv m) (wq D k), andF (ce g 37 (qcs md)) (isQ (qv md) (wq D d))] (IsV (.bool (decide (k = d)))) := by
  refine fn_of [(0, (qv m)), (1, (ptr g))] 7 Tryz.func66 rfl Tryz.ntmps66 (by kernel_rfl) rfl suA fun h0 => ?_
  refine WC.andF (f := ce g 37 (qcs md)) hmA ?_
  repeat' (first | refine go ?_ | refine goX ?_ | refine goB ?_ | (refine goG ?_; intro g) | (refine goV ?_; intro v))
  first | refine WL.callV (samew_c D m md k d) ?_ | refine WD.callV (samew_c D m md k d) ?_
  repeat' (first | refine go ?_ | refine goX ?_ | refine goB ?_ | (refine goG ?_; intro g) | (refine goV ?_; intro v))
  exact WC.ret (Fin.v (ResE.t1 rfl rfl) meA rfl)
set_option maxHeartbeats 4000000 in
set_option maxRecDepth 60000 in
theorem most_c (D : Nat) [Den D] (vb : Value) (ms : Nat → QM) (bs : List Bd) (n a b : Int) (hf : Fit bs) : FnB Tryz.prog 19 [.int .i64 n, vb, .int .i64 a, .int .i64 b] [] [fB D vb ms bs] (IsMo D (mst n bs a b)) := by
  refine fn_of [(0, (.int .i64 n)), (1, vb), (2, (.int .i64 a)), (3, (.int .i64 b))] 129 Tryz.func19 rfl Tryz.ntmps19 (by kernel_rfl) rfl suA fun h0 => ?_
  have hq0 : ∀ F : List Fct, Has F (isQ (qv m00) (wq D 0)) := fun F => hasQ0w
  repeat' (first | refine go ?_ | refine goX ?_ | refine goB ?_ | (refine goG ?_; intro g) | (refine goV ?_; intro v) | refine goD ?_ | refine goXD ?_ | (refine goDG ?_; intro g) | (refine goDV ?_; intro v) | refine goYL ?_ | refine d19 ?_ | fail)
  first | refine WL.callV (made_c D vb ms bs n) ?_ | refine WD.callV (made_c D vb ms bs n) ?_
  repeat' (first | refine go ?_ | refine goX ?_ | refine goB ?_ | (refine goG ?_; intro g) | (refine goV ?_; intro v) | refine goD ?_ | refine goXD ?_ | (refine goDG ?_; intro g) | (refine goDV ?_; intro v) | refine goYL ?_ | refine d19 ?_ | fail)
  have bad : ¬ (validB n bs = true ∧ (0 ≤ a ∧ a < n) ∧ 0 ≤ b ∧ b < n) → mst n bs a b = (0, [], 1) := fun h => if_neg h
  cases hvb : validB n bs with
  | false =>
    repeat' (first | refine go ?_ | refine goX ?_ | refine goB ?_ | (refine goG ?_; intro g) | (refine goV ?_; intro v) | refine goD ?_ | refine goXD ?_ | (refine goDG ?_; intro g) | (refine goDV ?_; intro v) | refine goYL ?_ | refine d19 ?_ | fail)
    exact WC.ret (Fin.p [] [isQ (qv m00) (wq D 0), sI (.slice none 0 0) []] (ResE.c3 rfl rfl meA T.r37 rfl rfl rfl) meA (List.nil_sublist _) (.cons (hq0 _) (.cons nil0 .nil)) (by rw [bad (by rw [hvb]; simp)]; exact ⟨m00, _, rfl, rfl, rfl⟩))
  | true =>
    by_cases c1 : a < 0
    · repeat' (first | refine go ?_ | refine goX ?_ | refine goB ?_ | (refine goG ?_; intro g) | (refine goV ?_; intro v) | refine goD ?_ | refine goXD ?_ | (refine goDG ?_; intro g) | (refine goDV ?_; intro v) | refine goYL ?_ | refine d19 ?_ | fail)
      exact WC.ret (Fin.p [] [isQ (qv m00) (wq D 0), sI (.slice none 0 0) []] (ResE.c3 rfl rfl meA T.r37 rfl rfl rfl) meA (List.nil_sublist _) (.cons (hq0 _) (.cons nil0 .nil)) (by rw [bad (by omega)]; exact ⟨m00, _, rfl, rfl, rfl⟩))
    by_cases c2 : n ≤ a
    · repeat' (first | refine go ?_ | refine goX ?_ | refine goB ?_ | (refine goG ?_; intro g) | (refine goV ?_; intro v) | refine goD ?_ | refine goXD ?_ | (refine goDG ?_; intro g) | (refine goDV ?_; intro v) | refine goYL ?_ | refine d19 ?_ | fail)
      exact WC.ret (Fin.p [] [isQ (qv m00) (wq D 0), sI (.slice none 0 0) []] (ResE.c3 rfl rfl meA T.r37 rfl rfl rfl) meA (List.nil_sublist _) (.cons (hq0 _) (.cons nil0 .nil)) (by rw [bad (by omega)]; exact ⟨m00, _, rfl, rfl, rfl⟩))
    by_cases c3 : b < 0
    · repeat' (first | refine go ?_ | refine goX ?_ | refine goB ?_ | (refine goG ?_; intro g) | (refine goV ?_; intro v) | refine goD ?_ | refine goXD ?_ | (refine goDG ?_; intro g) | (refine goDV ?_; intro v) | refine goYL ?_ | refine d19 ?_ | fail)
      exact WC.ret (Fin.p [] [isQ (qv m00) (wq D 0), sI (.slice none 0 0) []] (ResE.c3 rfl rfl meA T.r37 rfl rfl rfl) meA (List.nil_sublist _) (.cons (hq0 _) (.cons nil0 .nil)) (by rw [bad (by omega)]; exact ⟨m00, _, rfl, rfl, rfl⟩))
    by_cases c4 : n ≤ b
    · repeat' (first | refine go ?_ | refine goX ?_ | refine goB ?_ | (refine goG ?_; intro g) | (refine goV ?_; intro v) | refine goD ?_ | refine goXD ?_ | (refine goDG ?_; intro g) | (refine goDV ?_; intro v) | refine goYL ?_ | refine d19 ?_ | fail)
      exact WC.ret (Fin.p [] [isQ (qv m00) (wq D 0), sI (.slice none 0 0) []] (ResE.c3 rfl rfl meA T.r37 rfl rfl rfl) meA (List.nil_sublist _) (.cons (hq0 _) (.cons nil0 .nil)) (by rw [bad (by omega)]; exact ⟨m00, _, rfl, rfl, rfl⟩))
    obtain ⟨n, rfl, hv⟩ := Vld.of hvb
    obtain ⟨a, rfl⟩ : ∃ k : Nat, a = k := ⟨a.toNat, by omega⟩
    obtain ⟨b, rfl⟩ : ∃ k : Nat, b = k := ⟨b.toNat, by omega⟩
    have hn1 := hv.n1
    have hn2 := hv.n2
    have hs : mst (n : Int) bs a b = (match greatP n bs with
      | none => (0, cycP n bs, 14)
      | some _ => match mostK n bs a b with
        | none => (0, [], 6)
        | some k => (mostD n bs a b k, fstP bs (tabL n bs b n) (fun x => decide (x = mostD n bs a b k)) k a 0 [], 0)) := by
      unfold mst; rw [if_pos ⟨hvb, by omega⟩]; rfl
    repeat' (first | refine go ?_ | refine goX ?_ | refine goB ?_ | (refine goG ?_; intro g) | (refine goV ?_; intro v) | refine goD ?_ | refine goXD ?_ | (refine goDG ?_; intro g) | (refine goDV ?_; intro v) | refine goYL ?_ | refine d19 ?_ | fail)
    first | refine WL.callK (greatest_c D vb ms bs n hv hf) ?_ | refine WD.callK (greatest_c D vb ms bs n hv hf) ?_ | refine LO.callM (greatest_c D vb ms bs n hv hf) ?_
    rintro rv bb GG hG
    unfold IsGr at hG
    cases hgr : greatP n bs with
    | none =>
      rw [hgr] at hG hs
      obtain ⟨rfl, rfl, rfl⟩ := hG
      simp only [List.nil_append]
      repeat' (first | refine go ?_ | refine goX ?_ | refine goB ?_ | (refine goG ?_; intro g) | (refine goV ?_; intro v) | refine goD ?_ | refine goXD ?_ | (refine goDG ?_; intro g) | (refine goDV ?_; intro v) | refine goYL ?_ | refine d19 ?_ | fail)
      first | refine WL.callO (cycle_c D vb ms bs n hv hf) (fun rv => ?_) | refine WD.callO (cycle_c D vb ms bs n hv hf) (fun rv => ?_)
      repeat' (first | refine go ?_ | refine goX ?_ | refine goB ?_ | (refine goG ?_; intro g) | (refine goV ?_; intro v) | refine goD ?_ | refine goXD ?_ | (refine goDG ?_; intro g) | (refine goDV ?_; intro v) | refine goYL ?_ | refine d19 ?_ | fail)
      refine WC.freezeI (l := cycP n bs) (v := rv) (el := 3) (by repeat (first | exact Sel.head | apply Sel.tail)) ?_
      exact WC.ret (Fin.p [] [isQ (qv m00) (wq D 0), sI rv (cycP n bs)] (ResE.c3 rfl rfl meA T.r37 rfl rfl rfl) meA (List.nil_sublist _) (.cons (hq0 _) sfA) (by rw [hs]; exact ⟨m00, _, rfl, rfl, rfl⟩))
    | some x =>
      rw [hgr] at hG hs
      obtain ⟨u, mx, rfl, rfl, rfl⟩ := hG
      simp only [List.nil_append, List.cons_append]
      repeat' (first | refine go ?_ | refine goX ?_ | refine goB ?_ | (refine goG ?_; intro g) | (refine goV ?_; intro v) | refine goD ?_ | refine goXD ?_ | (refine goDG ?_; intro g) | (refine goDV ?_; intro v) | refine goYL ?_ | refine d19 ?_ | fail)
      first | refine WL.callK (ends_c D vb n b (by omega) (by omega)) ?_ | refine WD.callK (ends_c D vb n b (by omega) (by omega)) ?_ | refine LO.callM (ends_c D vb n b (by omega) (by omega)) ?_
      rintro tw _ _ ⟨u0, ml0, rfl, rfl⟩
      simp only [List.nil_append, List.cons_append]
      rw [show ([u0] : List Value) = tcells (0 + 1) (fun _ => u0) from rfl]
      repeat' (first | refine go ?_ | refine goX ?_ | refine goB ?_ | (refine goG ?_; intro g) | (refine goV ?_; intro v) | refine goD ?_ | refine goXD ?_ | (refine goDG ?_; intro g) | (refine goDV ?_; intro v) | refine goYL ?_ | refine d19 ?_ | fail)
      revert g; intro g11; revert g; intro g8
      refine WC.lp (σ := Nat × Value × (Nat → Value) × (Nat → Nat → QM)) (fun s => [(63, .int .i64 (s.1 : Int)), (62, .int .i64 ((n : Int) - 1)), (15, s.2.1), (11, ptr g11), (8, ptr g8), (2, .int .i64 a), (3, .int .i64 b)])
        (fun s => [Ow.slice s.2.1 111 1 (tcells (s.1 + 1) s.2.2.1), Ow.cells g11 103 [.int .i64 n, vb], Ow.cells g8 37 [.bool false, .slice none 0 0, .bool false, .slice none 0 0]])
        (fun s => [mT D s.2.2.1 s.2.2.2 (tabL n bs b (s.1 + 1)), ge h0, fB D vb ms bs]) (fun s => s.1 + 1 ≤ n) (fun s => n - s.1) (0, tw, fun _ => u0, fun _ => ml0) hn1 ?_ suA slA (.cons (W.Has.tab1 hmA) sfA)
      rintro ⟨k, tb, us, mss⟩ hk
      simp only at hk ⊢
      by_cases c : k + 1 < n
      · have hkS := tabP_wth n bs b k
        have hkS2 : k * absS bs ≤ 32 * 14000000 := Nat.mul_le_mul (by omega) hf
        refine WC.fact (fL D (us k) (mss k) (tabP n bs b k)) (W.Has.tabG (us := us) (m := k + 1) hmA (by omega)) ?_
        repeat' (first | refine go ?_ | refine goX ?_ | refine goB ?_ | (refine goG ?_; intro g) | (refine goV ?_; intro v) | refine goD ?_ | refine goXD ?_ | (refine goDG ?_; intro g) | (refine goDV ?_; intro v) | refine goYL ?_ | refine d19 ?_ | fail)
        first | refine WL.callK (longer_c D vb (us k) ms (mss k) bs n (tabP n bs b k) hv hf (tabP_len n bs b k) (k * absS bs) (by omega) hkS) ?_ | refine WD.callK (longer_c D vb (us k) ms (mss k) bs n (tabP n bs b k) hv hf (tabP_len n bs b k) (k * absS bs) (by omega) hkS) ?_ | refine LO.callM (longer_c D vb (us k) ms (mss k) bs n (tabP n bs b k) hv hf (tabP_len n bs b k) (k * absS bs) (by omega) hkS) ?_
        rintro u' _ _ ⟨ml, rfl, rfl⟩
        simp only [List.nil_append, List.cons_append]
        repeat' (first | refine go ?_ | refine goX ?_ | refine goB ?_ | (refine goG ?_; intro g) | (refine goV ?_; intro v) | refine goD ?_ | refine goXD ?_ | (refine goDG ?_; intro g) | (refine goDV ?_; intro v) | refine goYL ?_ | refine d19 ?_ | fail)
        exact LoopEnd.mk (k + 1, v, upd us (k + 1) u', upd mss (k + 1) ml) (by show k + 1 + 1 ≤ n; omega) (by show n - (k + 1) < n - k; omega) suA slA (.cons (W.Has.tabS hmA hmA) sfA)
      · obtain rfl : n = k + 1 := by omega
        repeat' (first | refine go ?_ | refine goX ?_ | refine goB ?_ | (refine goG ?_; intro g) | (refine goV ?_; intro v) | refine goD ?_ | refine goXD ?_ | (refine goDG ?_; intro g) | (refine goDV ?_; intro v) | refine goYL ?_ | refine d19 ?_ | fail)
        generalize hN : k + 1 = n at *
        have hwt : ∀ j, j < n → ((ol (tabP n bs b j) a).getD 0).natAbs ≤ 33 * 14000000 := fun j hj => Nat.le_trans (tabP_wth n bs b j a) (Nat.mul_le_mul (by omega) hf)
        have htl : ∀ j, (tabP n bs b j).length = n := fun j => tabP_len n bs b j
        refine WC.lp (σ := Nat × Option Nat) (fun s => [(78, .int .i64 (s.1 : Int)), (77, .int .i64 (n : Int)), (76, tb), (17, .int .i64 (mI s.2)), (15, tb), (11, ptr g11), (8, ptr g8), (2, .int .i64 a)])
          (fun _ => [Ow.slice tb 111 1 (tcells n us), Ow.cells g11 103 [.int .i64 n, vb], Ow.cells g8 37 [.bool false, .slice none 0 0, .bool false, .slice none 0 0]])
          (fun _ => [mT D us mss (tabL n bs b n), ge h0, fB D vb ms bs]) (fun s => s.1 ≤ n ∧ s.2 = (List.range s.1).foldl (mostS (fun k => ol (tabP n bs b k) a)) none ∧ ∀ j, s.2 = some j → j < n) (fun s => n - s.1) (0, none) ⟨Nat.zero_le _, rfl, fun j h => by cases h⟩ ?_
        rintro ⟨i, o⟩ ⟨hi, ho, hoj⟩
        simp only at hi ho hoj ⊢
        by_cases ci : i < n
        · have hstep : (List.range (i + 1)).foldl (mostS (fun k => ol (tabP n bs b k) a)) none = mostS (fun k => ol (tabP n bs b k) a) o i := by rw [List.range_succ, List.foldl_append, ← ho]; rfl
          have hwi := hwt i ci
          have hli := htl i
          refine WC.fact (fL D (us i) (mss i) (tabP n bs b i)) (W.Has.tabG (us := us) (m := n) hmA ci) ?_
          refine WC.fact (isQ (qv (mss i a)) (wq D (((tabP n bs b i).getD a none).getD 0))) (W.Has.lq (ms := mss i) (W.Has.lm (v := us i) hmA) (by omega)) ?_
          cases o with
          | none =>
            rw [show mI none = -1 from rfl]
            repeat' (first | refine go ?_ | refine goX ?_ | refine goB ?_ | (refine goG ?_; intro g) | (refine goV ?_; intro v) | refine goD ?_ | refine goXD ?_ | (refine goDG ?_; intro g) | (refine goDV ?_; intro v) | refine goYL ?_ | refine d19 ?_ | fail)
            cases he : (tabP n bs b i).getD a none with
            | none =>
              have h1 : mostS (fun k => ol (tabP n bs b k) a) (none) i = none := by unfold mostS; simp only [ol]; rw [he]
              rw [h1] at hstep
              rw [show (none : Option Int).isSome = false from rfl]
              repeat' (first | refine go ?_ | refine goX ?_ | refine goB ?_ | (refine goG ?_; intro g) | (refine goV ?_; intro v) | refine goD ?_ | refine goXD ?_ | (refine goDG ?_; intro g) | (refine goDV ?_; intro v) | refine goYL ?_ | refine d19 ?_ | fail)
              exact LoopEnd.mk (i + 1, none) ⟨by show i + 1 ≤ n; omega, hstep.symm, hoj⟩ (by show n - (i + 1) < n - i; omega)
            | some d =>
              rw [show (some d : Option Int).isSome = true from rfl]
              unfold ol at hwi
              rw [he] at hwi
              simp only [Option.getD_some] at hwi ⊢
              have h1 : mostS (fun k => ol (tabP n bs b k) a) none i = some i := by unfold mostS; simp only [ol]; rw [he]
              rw [h1] at hstep
              repeat' (first | refine go ?_ | refine goX ?_ | refine goB ?_ | (refine goG ?_; intro g) | (refine goV ?_; intro v) | refine goD ?_ | refine goXD ?_ | (refine goDG ?_; intro g) | (refine goDV ?_; intro v) | refine goYL ?_ | refine d19 ?_ | fail)
              exact LoopEnd.mk (i + 1, some i) ⟨by show i + 1 ≤ n; omega, hstep.symm, fun j h => by cases h; exact ci⟩ (by show n - (i + 1) < n - i; omega)
          | some j =>
            have hj := hoj j rfl
            have hwj := hwt j hj
            have hlj := htl j
            rw [show mI (some j) = (j : Int) from rfl]
            refine WC.fact (fL D (us j) (mss j) (tabP n bs b j)) (W.Has.tabG (us := us) (m := n) hmA hj) ?_
            refine WC.fact (isQ (qv (mss j a)) (wq D ((ol (tabP n bs b j) a).getD 0))) (W.Has.lq (ms := mss j) (W.Has.lm (v := us j) hmA) (by omega)) ?_
            repeat' (first | refine go ?_ | refine goX ?_ | refine goB ?_ | (refine goG ?_; intro g) | (refine goV ?_; intro v) | refine goD ?_ | refine goXD ?_ | (refine goDG ?_; intro g) | (refine goDV ?_; intro v) | refine goYL ?_ | refine d19 ?_ | fail)
            cases he : (tabP n bs b i).getD a none with
            | none =>
              have h1 : mostS (fun k => ol (tabP n bs b k) a) (some j) i = some j := by unfold mostS; simp only [ol]; rw [he]
              rw [h1] at hstep
              rw [show (none : Option Int).isSome = false from rfl]
              repeat' (first | refine go ?_ | refine goX ?_ | refine goB ?_ | (refine goG ?_; intro g) | (refine goV ?_; intro v) | refine goD ?_ | refine goXD ?_ | (refine goDG ?_; intro g) | (refine goDV ?_; intro v) | refine goYL ?_ | refine d19 ?_ | fail)
              exact LoopEnd.mk (i + 1, some j) ⟨by show i + 1 ≤ n; omega, hstep.symm, hoj⟩ (by show n - (i + 1) < n - i; omega)
            | some d =>
              rw [show (some d : Option Int).isSome = true from rfl]
              unfold ol at hwi
              rw [he] at hwi
              simp only [Option.getD_some] at hwi ⊢
              repeat' (first | refine go ?_ | refine goX ?_ | refine goB ?_ | (refine goG ?_; intro g) | (refine goV ?_; intro v) | refine goD ?_ | refine goXD ?_ | (refine goDG ?_; intro g) | (refine goDV ?_; intro v) | refine goYL ?_ | refine d19 ?_ | fail)
              first | refine WL.callV (cmpw_c D (mss i a) (mss j a) d ((ol (tabP n bs b j) a).getD 0) (by unfold Lim; omega) (by unfold Lim; omega)) ?_ | refine WD.callV (cmpw_c D (mss i a) (mss j a) d ((ol (tabP n bs b j) a).getD 0) (by unfold Lim; omega) (by unfold Lim; omega)) ?_
              by_cases hlt : d < (ol (tabP n bs b j) a).getD 0
              · have h1 : mostS (fun k => ol (tabP n bs b k) a) (some j) i = some i := by unfold mostS; simp only [ol]; rw [he]; exact if_pos hlt
                rw [h1] at hstep
                rw [cmpI_lt hlt]
                repeat' (first | refine go ?_ | refine goX ?_ | refine goB ?_ | (refine goG ?_; intro g) | (refine goV ?_; intro v) | refine goD ?_ | refine goXD ?_ | (refine goDG ?_; intro g) | (refine goDV ?_; intro v) | refine goYL ?_ | refine d19 ?_ | fail)
                exact LoopEnd.mk (i + 1, some i) ⟨by show i + 1 ≤ n; omega, hstep.symm, fun j h => by cases h; exact ci⟩ (by show n - (i + 1) < n - i; omega)
              · have h1 : mostS (fun k => ol (tabP n bs b k) a) (some j) i = some j := by unfold mostS; simp only [ol]; rw [he]; exact if_neg hlt
                rw [h1] at hstep
                have h2 : 0 ≤ cmpI d ((ol (tabP n bs b j) a).getD 0) := by unfold cmpI; rw [if_neg hlt]; split <;> omega
                repeat' (first | refine go ?_ | refine goX ?_ | refine goB ?_ | (refine goG ?_; intro g) | (refine goV ?_; intro v) | refine goD ?_ | refine goXD ?_ | (refine goDG ?_; intro g) | (refine goDV ?_; intro v) | refine goYL ?_ | refine d19 ?_ | fail)
                exact LoopEnd.mk (i + 1, some j) ⟨by show i + 1 ≤ n; omega, hstep.symm, hoj⟩ (by show n - (i + 1) < n - i; omega)
        · obtain rfl : n = i := by omega
          cases o with
          | none =>
            rw [show mI none = -1 from rfl]
            rw [show mostK n bs a b = none from ho.symm] at hs
            repeat' (first | refine go ?_ | refine goX ?_ | refine goB ?_ | (refine goG ?_; intro g) | (refine goV ?_; intro v) | refine goD ?_ | refine goXD ?_ | (refine goDG ?_; intro g) | (refine goDV ?_; intro v) | refine goYL ?_ | refine d19 ?_ | fail)
            exact WC.ret (Fin.p [] [isQ (qv m00) (wq D 0), sI (.slice none 0 0) []] (ResE.c3 rfl rfl meA T.r37 rfl rfl rfl) meA (List.nil_sublist _) (.cons (hq0 _) (.cons nil0 .nil)) (by rw [hs]; exact ⟨m00, _, rfl, rfl, rfl⟩))
          | some j =>
            have hj := hoj j rfl
            have hwj := hwt j hj
            have hlj := htl j
            rw [show mI (some j) = (j : Int) from rfl]
            rw [show mostK n bs a b = some j from ho.symm] at hs
            refine WC.fact (fL D (us j) (mss j) (tabP n bs b j)) (W.Has.tabG (us := us) (m := n) hmA hj) ?_
            refine WC.fact (isQ (qv (mss j a)) (wq D (mostD n bs a b j))) (W.Has.lq (ms := mss j) (W.Has.lm (v := us j) hmA) (by omega)) ?_
            repeat' (first | refine go ?_ | refine goX ?_ | refine goB ?_ | (refine goG ?_; intro g) | (refine goV ?_; intro v) | refine goD ?_ | refine goXD ?_ | (refine goDG ?_; intro g) | (refine goDV ?_; intro v) | refine goYL ?_ | refine d19 ?_ | fail)
            revert g; intro g20
            refine WD.callO (hF := .cons (.f hmA) (.cons (HasB.fT (k := n) (el := 111) meA (tabL_len n bs b n) hmA) (.cons (.and (.c meA) (.f hmA)) .nil)))
              (first_c D vb tb ms us mss bs (tabL n bs b n) n hv hf (tabL_ok hf (by omega)) a j (by rw [tabL_len]; omega) (by omega) 66 [ptr g20] (andF (ce g20 37 (qcs (mss j a))) (isQ (qv (mss j a)) (wq D (mostD n bs a b j)))) (fun x => decide (x = mostD n bs a b j)) (fun m k => most1_c D m (mss j a) k _ g20)) (fun rv => ?_)
            repeat' (first | refine go ?_ | refine goX ?_ | refine goB ?_ | (refine goG ?_; intro g) | (refine goV ?_; intro v) | refine goD ?_ | refine goXD ?_ | (refine goDG ?_; intro g) | (refine goDV ?_; intro v) | refine goYL ?_ | refine d19 ?_ | fail)
            generalize hpp : fstP bs (tabL n bs b n) (fun x => decide (x = mostD n bs a b j)) j a 0 [] = pp at *
            refine WC.freezeI (l := pp) (v := rv) (el := 3) (by repeat (first | exact Sel.head | apply Sel.tail)) ?_
            exact WC.ret (Fin.p [] [isQ (qv (mss j a)) (wq D (mostD n bs a b j)), sI rv pp] (ResE.c3 rfl rfl meA T.r37 rfl rfl rfl) meA (List.nil_sublist _) sfA (by rw [hs]; exact ⟨mss j a, _, rfl, rfl, by rw [← hpp]⟩))
end H
end Go.Proofs.YthggloiigkbfeaaGreat
namespace Go.Proofs.YthggloiigkbfeaaGreat
open W Go.RowKit
/-- answers a list of indices -/
def IsI (r : List Int) : RPost := fun v b G => b = [] ∧ G = [sI v r]
theorem mem_frs {bs : List Bd} {l : List Int} {x : Int} : x ∈ frs bs l ↔ ∃ j, j < l.length ∧ (bg bs (l.getD j 0).toNat).fr = x := by
  unfold frs
  rw [List.mem_map]
  constructor
  · rintro ⟨i, hi, rfl⟩
    obtain ⟨j, h1, rfl⟩ := List.getElem_of_mem hi
    exact ⟨j, h1, by simp [List.getD_eq_getElem?_getD, h1]⟩
  · rintro ⟨j, h1, rfl⟩
    exact ⟨l[j], List.getElem_mem h1, by simp [List.getD_eq_getElem?_getD, h1]⟩
theorem Idx.snoc {bs : List Bd} {l : List Int} {i : Nat} (h : Idx bs l) (hi : i < bs.length) : Idx bs (l ++ [(i : Int)]) := fun j hj => by
  rw [List.length_append, List.length_singleton] at hj
  by_cases c : j < l.length
  · have := h j c
    simp only [List.getD_eq_getElem?_getD, List.getElem?_append_left c] at this ⊢; exact this
  · obtain rfl : j = l.length := by omega
    simp [List.getD_eq_getElem?_getD]; omega
/-- what the model's Solve answers -/
def rslv (n : Int) (bs : List Bd) : List Int × List Int × Int := if validB n bs = true then (if Sol bs (jacs bs n.toNat n.toNat) then (jacs bs n.toNat n.toNat, [], 0) else ([], rcyc bs n.toNat 1, 14)) else ([], [], 1)
theorem jacs_wth {n : Nat} {bs : List Bd} (hv : Vld n bs) (k : Nat) : Wth (k * absS bs) (jacs bs n k) := by
  induction k with
  | zero => intro v; have := jacs_zero bs n v; unfold vl at this; rw [this]; simp
  | succ k ih =>
    intro v
    rw [Nat.succ_mul]
    rcases jacs_of hv k v with h | ⟨b, h1, h2, h3⟩
    · unfold vl at h; rw [h]; have := ih v; omega
    · unfold vl at h3; rw [h3]
      have := ih b.fr.toNat
      obtain ⟨i, hi, rfl⟩ := bg_of h1
      have := @absS_le bs i
      omega
theorem slv_same (n : Int) (bs : List Bd) : slv n bs = rslv n bs := by
  unfold slv rslv
  by_cases h : validB n bs = true
  · rw [if_pos h, if_pos h]
    obtain ⟨m, rfl, hv⟩ := Vld.of h
    rw [Int.toNat_natCast]
    by_cases hs : HasSol bs
    · rw [great_some hv hs, if_pos ((sol_iff_has hv).2 hs)]
    · rw [great_none hv hs, if_neg (fun c => hs ((sol_iff_has hv).1 c)), cyc_same hv hs]
  · rw [if_neg h, if_neg h]
namespace H
open G
attribute [local irreducible] WC WL WD YO LO LoopEnd W.Fin Scalar SliceT FieldAt Row ArrT AllocT KnS Has W.One SrcE IntT
set_option maxHeartbeats 4000000 in
set_option maxRecDepth 60000 in
theorem round_c (D : Nat) [Den D] (vb : Value) (ms : Nat → QM) (bs : List Bd) (many : Nat) (hb : many * absS bs ≤ 400000000) (hf : Fit bs) (hm : many ≤ 1000000) : ∀ (c : Nat) (l : List Int) (u : Value), l ≠ [] → Idx bs l → l.length + c = many →
    FnB Tryz.prog 129 [vb, u, .int .i64 many] [] [fB D vb ms bs, sI u l] (IsI (rndP bs c l)) := by
  intro c
  induction c with
  | zero =>
    intro l u hl hidx hlen
    have hl0 : 0 < l.length := List.length_pos_iff.2 hl
    have hraw : nat_lit 0 < l.length := hl0
    have hi0 := hidx 0 hl0
    have hi0r : 0 ≤ l.getD (nat_lit 0) 0 ∧ l.getD (nat_lit 0) 0 < bs.length := hi0
    have hi1 := hidx (l.length - 1) (by omega)
    have hi2 := hi1
    rw [show l.length - 1 = ((l.length : Int) - 1).toNat by omega] at hi2
    have e1 : (bg bs (l.getD (nat_lit 0) 0).toNat).fr = beg bs l := rfl
    have e2 : (bg bs (l.getD ((l.length : Int) - 1).toNat 0).toNat).to = fin bs l := by unfold fin; rw [show ((l.length : Int) - 1).toNat = l.length - 1 by omega]
    have hlb : l.length * absS bs ≤ 400000000 := Nat.le_trans (Nat.mul_le_mul_right _ (by omega)) hb
    refine fn_of [(0, vb), (1, u), (2, (.int .i64 many))] 86 Tryz.func129 rfl Tryz.ntmps129 (by kernel_rfl) rfl suA fun h0 => ?_
    refine WC.lenF (W.Has.bsl (D := D) (v := vb) (ms := ms) (bs := bs) hmA) fun hbl => ?_
    repeat' (first | refine go ?_ | refine goX ?_ | refine goB ?_ | (refine goG ?_; intro g) | (refine goV ?_; intro v))
    rw [e1, e2]
    rw [rndP]
    by_cases c1 : fin bs l = beg bs l
    · repeat' (first | refine go ?_ | refine goX ?_ | refine goB ?_ | (refine goG ?_; intro g) | (refine goV ?_; intro v))
      first | refine WL.callK (length_c D vb u ms bs l hidx hlb hf) ?_ | refine WD.callK (length_c D vb u ms bs l hidx hlb hf) ?_ | refine LO.callM (length_c D vb u ms bs l hidx hlb hf) ?_
      rintro _ _ _ ⟨m2, rfl, rfl, rfl⟩
      simp only [List.nil_append, List.cons_append]
      repeat' (first | refine go ?_ | refine goX ?_ | refine goB ?_ | (refine goG ?_; intro g) | (refine goV ?_; intro v))
      first | refine WL.callV (rsignw_c D m2 (lenP bs l)) ?_ | refine WD.callV (rsignw_c D m2 (lenP bs l)) ?_
      have hsg := lss0_sgn (lenP bs l)
      unfold lss0 at hsg
      by_cases c2 : sgn (lenP bs l) < 0
      · rw [decide_eq_true c2, decide_eq_true_eq] at hsg
        rw [if_pos ⟨c1, hsg⟩]
        repeat' (first | refine go ?_ | refine goX ?_ | refine goB ?_ | (refine goG ?_; intro g) | (refine goV ?_; intro v))
        exact WC.ret (Fin.p [] [sI u l] (ResE.t1 rfl rfl) meA (List.nil_sublist _) haA ⟨rfl, rfl⟩)
      · rw [decide_eq_false c2, decide_eq_false_iff_not] at hsg
        rw [if_neg (fun h => hsg h.2)]
        repeat' (first | refine go ?_ | refine goX ?_ | refine goB ?_ | (refine goG ?_; intro g) | (refine goV ?_; intro v))
        exact WC.ret (Fin.p [] [sI (.slice none 0 0) []] (ResE.t1 rfl rfl) meA (List.nil_sublist _) (.cons nil0 .nil) ⟨rfl, rfl⟩)
    · rw [if_neg (fun h => c1 h.1)]
      repeat' (first | refine go ?_ | refine goX ?_ | refine goB ?_ | (refine goG ?_; intro g) | (refine goV ?_; intro v))
      exact WC.ret (Fin.p [] [sI (.slice none 0 0) []] (ResE.t1 rfl rfl) meA (List.nil_sublist _) (.cons nil0 .nil) ⟨rfl, rfl⟩)
  | succ c ih =>
    intro l u hl hidx hlen
    have hl0 : 0 < l.length := List.length_pos_iff.2 hl
    have hraw : nat_lit 0 < l.length := hl0
    have hi0 := hidx 0 hl0
    have hi0r : 0 ≤ l.getD (nat_lit 0) 0 ∧ l.getD (nat_lit 0) 0 < bs.length := hi0
    have hi1 := hidx (l.length - 1) (by omega)
    have hi2 := hi1
    rw [show l.length - 1 = ((l.length : Int) - 1).toNat by omega] at hi2
    have e1 : (bg bs (l.getD (nat_lit 0) 0).toNat).fr = beg bs l := rfl
    have e2 : (bg bs (l.getD ((l.length : Int) - 1).toNat 0).toNat).to = fin bs l := by unfold fin; rw [show ((l.length : Int) - 1).toNat = l.length - 1 by omega]
    have hlb : l.length * absS bs ≤ 400000000 := Nat.le_trans (Nat.mul_le_mul_right _ (by omega)) hb
    refine fn_of [(0, vb), (1, u), (2, (.int .i64 many))] 86 Tryz.func129 rfl Tryz.ntmps129 (by kernel_rfl) rfl suA fun h0 => ?_
    refine WC.lenF (W.Has.bsl (D := D) (v := vb) (ms := ms) (bs := bs) hmA) fun hbl => ?_
    repeat' (first | refine go ?_ | refine goX ?_ | refine goB ?_ | (refine goG ?_; intro g) | (refine goV ?_; intro v))
    rw [e1, e2]
    rw [rndP]
    refine WC.lp (σ := Nat) (fun s => [(9, .int .i64 (s : Int)), (8, .int .i64 (fin bs l)), (0, vb), (1, u), (2, .int .i64 many)]) (fun _ => []) (fun _ => [ge h0, fB D vb ms bs, sI u l]) (fun k => k ≤ l.length ∧ ∀ j, j < k → (bg bs (l.getD j 0).toNat).fr ≠ fin bs l) (fun k => l.length - k) 0 ⟨Nat.zero_le _, fun j h => by omega⟩ ?_
    rintro k ⟨hk, hno⟩
    by_cases ck : k < l.length
    · have hik := hidx k ck
      by_cases c1 : (bg bs (l.getD k 0).toNat).fr = fin bs l
      · rw [if_pos (mem_frs.2 ⟨k, ck, c1⟩)]
        repeat' (first | refine go ?_ | refine goX ?_ | refine goB ?_ | (refine goG ?_; intro g) | (refine goV ?_; intro v))
        exact WC.ret (Fin.p [] [sI (.slice none 0 0) []] (ResE.t1 rfl rfl) meA (List.nil_sublist _) (.cons nil0 .nil) ⟨rfl, rfl⟩)
      · repeat' (first | refine go ?_ | refine goX ?_ | refine goB ?_ | (refine goG ?_; intro g) | (refine goV ?_; intro v))
        refine LoopEnd.mk (k + 1) ⟨by omega, fun j hj => ?_⟩ (by show l.length - (k + 1) < l.length - k; omega)
        by_cases hjk : j = k
        · subst hjk; exact c1
        · exact hno j (by omega)
    · rw [if_neg (fun h => by obtain ⟨j, h1, h2⟩ := mem_frs.1 h; exact hno j (by omega) h2)]
      generalize hfn : (fun i : Nat => if (bg bs i).fr = fin bs l then rndP bs c (l ++ [(i : Int)]) else []) = fn
      repeat' (first | refine go ?_ | refine goX ?_ | refine goB ?_ | (refine goG ?_; intro g) | (refine goV ?_; intro v))
      refine WC.lp (σ := Nat) (fun s => [(10, .int .i64 (s : Int)), (8, .int .i64 (fin bs l)), (0, vb), (1, u), (2, .int .i64 many)]) (fun _ => []) (fun _ => [ge h0, fB D vb ms bs, sI u l]) (fun i => i ≤ bs.length ∧ firstNE fn (bs.length - i) i = firstNE fn bs.length 0) (fun i => bs.length - i) 0 ⟨Nat.zero_le _, rfl⟩ ?_
      rintro i ⟨hi, hfi⟩
      by_cases ci : i < bs.length
      · rw [show bs.length - i = bs.length - (i + 1) + 1 by omega, firstNE] at hfi
        by_cases c1 : (bg bs i).fr = fin bs l
        · have hfe : fn i = rndP bs c (l ++ [(i : Int)]) := by rw [← hfn]; exact if_pos c1
          rw [hfe] at hfi
          repeat' (first | refine go ?_ | refine goX ?_ | refine goB ?_ | (refine goG ?_; intro g) | (refine goV ?_; intro v))
          rw [show ([] ++ ints l) ++ [Value.int .i64 (i : Int)] = ints (l ++ [(i : Int)]) from by simp [ints]]
          refine WL.freezeI (l := l ++ [(i : Int)]) (v := v) (el := 3) (by repeat (first | exact Sel.head | apply Sel.tail)) ?_
          first | refine WL.callK (ih (l ++ [(i : Int)]) v (by simp) (hidx.snoc ci) (by simp; omega)) ?_ | refine WD.callK (ih (l ++ [(i : Int)]) v (by simp) (hidx.snoc ci) (by simp; omega)) ?_ | refine LO.callM (ih (l ++ [(i : Int)]) v (by simp) (hidx.snoc ci) (by simp; omega)) ?_
          rintro rv _ _ ⟨rfl, rfl⟩
          simp only [List.nil_append, List.cons_append]
          generalize rndP bs c (l ++ [(i : Int)]) = res at *
          by_cases c2 : 0 < res.length
          · rw [if_pos c2] at hfi
            repeat' (first | refine go ?_ | refine goX ?_ | refine goB ?_ | (refine goG ?_; intro g) | (refine goV ?_; intro v))
            exact WC.ret (Fin.p [] [sI rv res] (ResE.t1 rfl rfl) meA (List.nil_sublist _) haA ⟨rfl, by rw [hfi]⟩)
          · rw [if_neg c2] at hfi
            repeat' (first | refine go ?_ | refine goX ?_ | refine goB ?_ | (refine goG ?_; intro g) | (refine goV ?_; intro v))
            exact LoopEnd.mk (i + 1) ⟨by omega, hfi⟩ (by show bs.length - (i + 1) < bs.length - i; omega) suA (List.nil_sublist _) sfA
        · have hfe : fn i = [] := by rw [← hfn]; exact if_neg c1
          rw [hfe, if_neg (by simp)] at hfi
          repeat' (first | refine go ?_ | refine goX ?_ | refine goB ?_ | (refine goG ?_; intro g) | (refine goV ?_; intro v))
          exact LoopEnd.mk (i + 1) ⟨by omega, hfi⟩ (by show bs.length - (i + 1) < bs.length - i; omega)
      · rw [show bs.length - i = 0 by omega, firstNE] at hfi
        rw [← hfi]
        repeat' (first | refine go ?_ | refine goX ?_ | refine goB ?_ | (refine goG ?_; intro g) | (refine goV ?_; intro v))
        exact WC.ret (Fin.p [] [sI (.slice none 0 0) []] (ResE.t1 rfl rfl) meA (List.nil_sublist _) (.cons nil0 .nil) ⟨rfl, rfl⟩)
set_option maxHeartbeats 4000000 in
set_option maxRecDepth 60000 in
theorem rcycle_c (D : Nat) [Den D] (vb : Value) (ms : Nat → QM) (bs : List Bd) (n : Nat) (hb : n * absS bs ≤ 400000000) (hf : Fit bs) (hm : n ≤ 1000000) : FnB Tryz.prog 76 [.int .i64 n, vb] [] [fB D vb ms bs] (IsI (rcyc bs n 1)) := by
  refine fn_of [(0, (.int .i64 n)), (1, vb)] 28 Tryz.func76 rfl Tryz.ntmps76 (by kernel_rfl) rfl suA fun h0 => ?_
  refine WC.lenF (W.Has.bsl (D := D) (v := vb) (ms := ms) (bs := bs) hmA) fun hbl => ?_
  repeat' (first | refine go ?_ | refine goX ?_ | refine goB ?_ | (refine goG ?_; intro g) | (refine goV ?_; intro v))
  refine WC.lp (σ := Nat) (fun s => [(5, .int .i64 (s : Int)), (0, .int .i64 n), (1, vb)]) (fun _ => []) (fun _ => [ge h0, fB D vb ms bs]) (fun k => 1 ≤ k ∧ k ≤ n + 1 ∧ rcyc bs (n + 1 - k) k = rcyc bs n 1) (fun k => n + 1 - k) 1 ⟨Nat.le_refl _, by omega, rfl⟩ ?_
  rintro k ⟨hk0, hk, hres⟩
  by_cases ck : k ≤ n
  · rw [show n + 1 - k = n - k + 1 by omega, rcyc] at hres
    generalize hfn : (fun i : Nat => rndP bs (k - 1) [(i : Int)]) = fn at *
    repeat' (first | refine go ?_ | refine goX ?_ | refine goB ?_ | (refine goG ?_; intro g) | (refine goV ?_; intro v))
    refine WC.lp (σ := Nat) (fun s => [(6, .int .i64 (s : Int)), (5, .int .i64 (k : Int)), (0, .int .i64 n), (1, vb)]) (fun _ => []) (fun _ => [ge h0, fB D vb ms bs]) (fun i => i ≤ bs.length ∧ firstNE fn (bs.length - i) i = firstNE fn bs.length 0) (fun i => bs.length - i) 0 ⟨Nat.zero_le _, rfl⟩ ?_
    rintro i ⟨hi, hfi⟩
    by_cases ci : i < bs.length
    · rw [show bs.length - i = bs.length - (i + 1) + 1 by omega, firstNE] at hfi
      have hfe : fn i = rndP bs (k - 1) [(i : Int)] := by rw [← hfn]
      rw [hfe] at hfi
      repeat' (first | refine go ?_ | refine goX ?_ | refine goB ?_ | (refine goG ?_; intro g) | (refine goV ?_; intro v))
      refine WL.freezeI (l := [(i : Int)]) (v := v) (el := 3) (by repeat (first | exact Sel.head | apply Sel.tail)) ?_
      first | refine WL.callK (round_c D vb ms bs k (Nat.le_trans (Nat.mul_le_mul_right _ ck) hb) hf (by omega) (k - 1) [(i : Int)] v (by simp) (fun j hj => by simp at hj; subst hj; simp; omega) (by simp; omega)) ?_ | refine WD.callK (round_c D vb ms bs k (Nat.le_trans (Nat.mul_le_mul_right _ ck) hb) hf (by omega) (k - 1) [(i : Int)] v (by simp) (fun j hj => by simp at hj; subst hj; simp; omega) (by simp; omega)) ?_ | refine LO.callM (round_c D vb ms bs k (Nat.le_trans (Nat.mul_le_mul_right _ ck) hb) hf (by omega) (k - 1) [(i : Int)] v (by simp) (fun j hj => by simp at hj; subst hj; simp; omega) (by simp; omega)) ?_
      rintro rv _ _ ⟨rfl, rfl⟩
      simp only [List.nil_append, List.cons_append]
      generalize rndP bs (k - 1) [(i : Int)] = res at *
      by_cases c2 : 0 < res.length
      · rw [if_pos c2] at hfi
        rw [← hfi, if_pos c2] at hres
        repeat' (first | refine go ?_ | refine goX ?_ | refine goB ?_ | (refine goG ?_; intro g) | (refine goV ?_; intro v))
        exact WC.ret (Fin.p [] [sI rv res] (ResE.t1 rfl rfl) meA (List.nil_sublist _) haA ⟨rfl, by rw [hres]⟩)
      · rw [if_neg c2] at hfi
        repeat' (first | refine go ?_ | refine goX ?_ | refine goB ?_ | (refine goG ?_; intro g) | (refine goV ?_; intro v))
        exact LoopEnd.mk (i + 1) ⟨by omega, hfi⟩ (by show bs.length - (i + 1) < bs.length - i; omega) suA (List.nil_sublist _) sfA
    · rw [show bs.length - i = 0 by omega, firstNE] at hfi
      rw [← hfi, if_neg (by simp)] at hres
      repeat' (first | refine go ?_ | refine goX ?_ | refine goB ?_ | (refine goG ?_; intro g) | (refine goV ?_; intro v))
      exact LoopEnd.mk (k + 1) ⟨by omega, by omega, by rw [show n + 1 - (k + 1) = n - k by omega]; exact hres⟩ (by show n + 1 - (k + 1) < n + 1 - k; omega)
  · rw [show n + 1 - k = 0 by omega, rcyc] at hres
    rw [← hres]
    repeat' (first | refine go ?_ | refine goX ?_ | refine goB ?_ | (refine goG ?_; intro g) | (refine goV ?_; intro v))
    exact WC.ret (Fin.p [] [sI (.slice none 0 0) []] (ResE.t1 rfl rfl) meA (List.nil_sublist _) (.cons nil0 .nil) ⟨rfl, rfl⟩)
set_option maxHeartbeats 4000000 in
set_option maxRecDepth 60000 in
theorem rsolve_c (D : Nat) [Den D] (vb : Value) (ms : Nat → QM) (bs : List Bd) (n : Int) (hb : 32 * absS bs ≤ 400000000) : FnB Tryz.prog 26 [.int .i64 n, vb] [] [fB D vb ms bs] (IsSv D (rslv n bs)) := by
  refine fn_of [(0, (.int .i64 n)), (1, vb)] 24 Tryz.func26 rfl Tryz.ntmps26 (by kernel_rfl) rfl suA fun h0 => ?_
  have hr0 : ∀ F : List Fct, Has F (fR D (.slice none 0 0) (fun _ => m00) []) := fun F => hasfR0
  have hf : Fit bs := by unfold Fit; omega
  repeat' (first | refine go ?_ | refine goX ?_ | refine goB ?_ | (refine goG ?_; intro g) | (refine goV ?_; intro v))
  first | refine WL.callV (valid_c D vb ms bs n) ?_ | refine WD.callV (valid_c D vb ms bs n) ?_
  cases hvb : validB n bs with
  | false =>
    repeat' (first | refine go ?_ | refine goX ?_ | refine goB ?_ | (refine goG ?_; intro g) | (refine goV ?_; intro v))
    exact WC.ret (Fin.p [] [fR D (.slice none 0 0) (fun _ => m00) [], sI (.slice none 0 0) []] (ResE.t3 rfl rfl rfl rfl) meA (List.nil_sublist _) (.cons (hr0 _) (.cons nil0 .nil)) (by unfold rslv; rw [hvb]; exact ⟨_, _, _, rfl, rfl, rfl⟩))
  | true =>
    obtain ⟨m, rfl, hv⟩ := Vld.of hvb
    have hn2 := hv.n2
    have hmb : m * absS bs ≤ 400000000 := Nat.le_trans (Nat.mul_le_mul_right _ hn2) hb
    have hx : FitX (jacs bs m m) := (jacs_wth hv m).mono hmb
    have hxl := jacs_len bs m m
    have hs : rslv (m : Int) bs = if Sol bs (jacs bs m m) then (jacs bs m m, [], 0) else ([], rcyc bs m 1, 14) := by unfold rslv; rw [if_pos hvb]; rfl
    repeat' (first | refine go ?_ | refine goX ?_ | refine goB ?_ | (refine goG ?_; intro g) | (refine goV ?_; intro v))
    first | refine WL.callK (rgreatest_c D vb ms bs m hv hf) ?_ | refine WD.callK (rgreatest_c D vb ms bs m hv hf) ?_ | refine LO.callM (rgreatest_c D vb ms bs m hv hf) ?_
    rintro rv _ _ ⟨mx, rfl, rfl⟩
    simp only [List.nil_append, List.cons_append]
    repeat' (first | refine go ?_ | refine goX ?_ | refine goB ?_ | (refine goG ?_; intro g) | (refine goV ?_; intro v))
    first | refine WL.callV (solves_c D vb rv ms mx bs (jacs bs m m) m hv hx hf) ?_ | refine WD.callV (solves_c D vb rv ms mx bs (jacs bs m m) m hv hx hf) ?_
    by_cases c : Sol bs (jacs bs m m)
    · rw [if_pos c] at hs
      rw [decide_eq_true ⟨hxl, c⟩]
      repeat' (first | refine go ?_ | refine goX ?_ | refine goB ?_ | (refine goG ?_; intro g) | (refine goV ?_; intro v))
      exact WC.ret (Fin.p [] [fR D rv mx (jacs bs m m), sI (.slice none 0 0) []] (ResE.t3 rfl rfl rfl rfl) meA (List.nil_sublist _) (.cons hmA (.cons nil0 .nil)) (by rw [hs]; exact ⟨_, _, _, rfl, rfl, rfl⟩))
    · rw [if_neg c] at hs
      rw [decide_eq_false (fun h => c h.2)]
      repeat' (first | refine go ?_ | refine goX ?_ | refine goB ?_ | (refine goG ?_; intro g) | (refine goV ?_; intro v))
      first | refine WL.callK (rcycle_c D vb ms bs m hmb hf (by omega)) ?_ | refine WD.callK (rcycle_c D vb ms bs m hmb hf (by omega)) ?_ | refine LO.callM (rcycle_c D vb ms bs m hmb hf (by omega)) ?_
      rintro cv _ _ ⟨rfl, rfl⟩
      simp only [List.nil_append, List.cons_append]
      repeat' (first | refine go ?_ | refine goX ?_ | refine goB ?_ | (refine goG ?_; intro g) | (refine goV ?_; intro v))
      exact WC.ret (Fin.p [] [fR D (.slice none 0 0) (fun _ => m00) [], sI cv (rcyc bs m 1)] (ResE.t3 rfl rfl rfl rfl) meA (List.nil_sublist _) (.cons (hr0 _) sfA) (by rw [hs]; exact ⟨_, _, _, rfl, rfl, rfl⟩))
end H
end Go.Proofs.YthggloiigkbfeaaGreat
namespace Go.Proofs.YthggloiigkbfeaaGreat
open W Go.RowKit
/-- where the bound behind the index i of a cycle lies -/
def nxi (l : List Int) (i : Nat) : Int := l.getD (((i : Int) + 1) % (l.length : Int)).toNat 0
def Clo (bs : List Bd) (l : List Int) : Prop := ∀ i, i < l.length → (bg bs (l.getD i 0).toNat).to = (bg bs (nxi l i).toNat).fr
instance (bs : List Bd) (l : List Int) : Decidable (Idx bs l) := by unfold Idx; infer_instance
instance (bs : List Bd) (l : List Int) : Decidable (Clo bs l) := by unfold Clo; infer_instance
/-- what the model's Check answers -/
def rchk (n : Int) (bs : List Bd) (x l : List Int) : Int := if validB n bs = true then (if l.length = 0 then (if x.length = n.toNat ∧ Sol bs x then 0 else 22) else if Idx bs l ∧ Clo bs l ∧ x.length = 0 ∧ lenP bs l < 0 then 0 else 22) else 1
theorem emod_wrap {a b : Int} (h1 : 0 ≤ a) (h2 : a < b) : a % b = a := Int.emod_eq_of_lt h1 h2
theorem prev_eq {n i : Nat} (h : i < n) : (((i + n : Nat) : Int) - 1) % (n : Int) = if i = 0 then (n : Int) - 1 else (i : Int) - 1 := by
  by_cases c : i = 0
  · subst c; rw [if_pos rfl, emod_wrap (by omega) (by omega)]; omega
  · rw [if_neg c, show (((i + n : Nat) : Int) - 1) = ((i : Int) - 1) + n * 1 by omega, Int.add_mul_emod_self_left, emod_wrap (by omega) (by omega)]
theorem next_eq {n i : Nat} (h : i < n) : ((i : Int) + 1) % (n : Int) = if i + 1 = n then 0 else (i : Int) + 1 := by
  by_cases c : i + 1 = n
  · rw [if_pos c, show (i : Int) + 1 = n by omega, Int.emod_self]
  · rw [if_neg c, emod_wrap (by omega) (by omega)]
theorem cyc_iff {bs : List Bd} {l : List Int} : Cyc bs l ↔ Idx bs l ∧ Clo bs l := by
  constructor
  · intro h
    refine ⟨fun i hi => (h i hi).1, fun i hi => ?_⟩
    unfold nxi
    rw [next_eq hi]
    by_cases c : i + 1 = l.length
    · rw [if_pos c]
      have h0 := (h 0 (by omega)).2.2
      unfold bfr at h0
      rw [prev_eq (by omega), if_pos rfl, show ((l.length : Int) - 1).toNat = i by omega] at h0
      exact h0
    · rw [if_neg c]
      have h0 := (h (i + 1) (by omega)).2.2
      unfold bfr at h0
      rw [prev_eq (by omega), if_neg (by omega), show (((i + 1 : Nat) : Int) - 1).toNat = i by omega] at h0
      rw [show ((i : Int) + 1).toNat = i + 1 by omega]; exact h0
  · rintro ⟨h1, h2⟩ i hi
    unfold bfr
    rw [prev_eq hi]
    refine ⟨h1 i hi, ?_⟩
    by_cases c : i = 0
    · subst c
      rw [if_pos rfl, show ((l.length : Int) - 1).toNat = l.length - 1 by omega]
      refine ⟨h1 _ (by omega), ?_⟩
      have h0 := h2 (l.length - 1) (by omega)
      unfold nxi at h0
      rw [next_eq (by omega), if_pos (by omega)] at h0; exact h0
    · rw [if_neg c, show ((i : Int) - 1).toNat = i - 1 by omega]
      refine ⟨h1 _ (by omega), ?_⟩
      have h0 := h2 (i - 1) (by omega)
      unfold nxi at h0
      rw [next_eq (by omega), if_neg (by omega), show (((i - 1 : Nat) : Int) + 1).toNat = i by omega] at h0; exact h0
theorem chk_same (n : Int) (bs : List Bd) (x l : List Int) : chk n bs x l = rchk n bs x l := by
  unfold chk rchk
  by_cases h : validB n bs = true
  · rw [if_pos h, if_pos h]
    by_cases c : l.length = 0
    · rw [if_pos c]
      have hn : negP bs l = false := decide_eq_false fun h => by
        obtain rfl := List.eq_nil_of_length_eq_zero c
        have := h.2; simp [lenP_nil] at this
      by_cases c2 : x.length = n.toNat ∧ Sol bs x
      · rw [if_pos (.inl ⟨c, c2⟩), if_pos c2]
      · rw [if_neg (fun h => h.elim (fun h => c2 h.2) (fun h => by rw [hn] at h; cases h.2)), if_neg c2]
    · rw [if_neg c]
      by_cases c2 : Idx bs l ∧ Clo bs l ∧ x.length = 0 ∧ lenP bs l < 0
      · rw [if_pos c2, if_pos (.inr ⟨c2.2.2.1, decide_eq_true ⟨cyc_iff.2 ⟨c2.1, c2.2.1⟩, c2.2.2.2⟩⟩)]
      · rw [if_neg c2, if_neg]
        rintro (h | h)
        · exact c h.1
        · have := of_decide_eq_true h.2
          exact c2 ⟨(cyc_iff.1 this.1).1, (cyc_iff.1 this.1).2, h.1, this.2⟩
  · rw [if_neg h, if_neg h]
namespace H
open G
attribute [local irreducible] WC WL WD YO LO LoopEnd W.Fin Scalar SliceT FieldAt Row ArrT AllocT KnS Has W.One SrcE IntT
theorem d29 {G G' : Prop} (h : G') (s : Bx G' → G := by
  intro h
  first | (apply WC.draw (id := 15) [0, 1, 2, 3, 4, 5, 6, 7, 8, 9, 10, 11, 12, 13, 14, 15, 16, 17, 18, 19, 20] (.held 0 (.held 1 (.held 2 (.held 3 (.held 4 (.held 5 (.held 6 (.held 7 (.held 8 (.held 9 (.held 10 (.held 11 (.held 12 (.held 13 (.held 14 (.held 15 (.held 16 (.held 17 (.held 18 (.held 19 (.held 20 (.done)))))))))))))))))))))) mixed (by kernel_rfl)) | fail
  exact Bx.h h) : G := s ⟨h⟩
set_option maxHeartbeats 4000000 in
set_option maxRecDepth 60000 in
theorem rcheck_c (D : Nat) [Den D] (vb ux uc : Value) (ms mx : Nat → QM) (bs : List Bd) (x l : List Int) (n : Int) (hf : Fit bs) (hb : l.length * absS bs ≤ 400000000) (hx : FitX x) :
    FnB Tryz.prog 29 [.int .i64 n, vb, ux, uc] [] [fB D vb ms bs, fR D ux mx x, sI uc l] (IsV (.int .i64 (rchk n bs x l))) := by
  refine fn_of [(0, (.int .i64 n)), (1, vb), (2, ux), (3, uc)] 79 Tryz.func29 rfl Tryz.ntmps29 (by kernel_rfl) rfl suA fun h0 => ?_
  refine WC.lenF (W.Has.rs (D := D) (v := ux) (ms := mx) (qs := x) hmA) fun hlen => ?_
  refine WC.lenI uc l hmA fun hll => ?_
  have fin : ∀ r : Int, rchk n bs x l = r → Value.int .i64 r = .int .i64 (rchk n bs x l) := fun r hr => by rw [hr]
  repeat' (first | refine go ?_ | refine goX ?_ | refine goB ?_ | (refine goG ?_; intro g) | (refine goV ?_; intro v) | refine goD ?_ | refine goXD ?_ | (refine goDG ?_; intro g) | (refine goDV ?_; intro v) | refine d29 ?_ | fail)
  first | refine WL.callV (valid_c D vb ms bs n) ?_ | refine WD.callV (valid_c D vb ms bs n) ?_
  cases hvb : validB n bs with
  | false =>
    repeat' (first | refine go ?_ | refine goX ?_ | refine goB ?_ | (refine goG ?_; intro g) | (refine goV ?_; intro v) | refine goD ?_ | refine goXD ?_ | (refine goDG ?_; intro g) | (refine goDV ?_; intro v) | refine d29 ?_ | fail)
    exact WC.ret (Fin.v (ResE.t1 rfl rfl) meA (fin _ (by unfold rchk; rw [hvb]; rfl)))
  | true =>
    obtain ⟨m, rfl, hv⟩ := Vld.of hvb
    have hvl := hv.l
    have hs : rchk (m : Int) bs x l = if l.length = 0 then (if x.length = m ∧ Sol bs x then 0 else 22) else if Idx bs l ∧ Clo bs l ∧ x.length = 0 ∧ lenP bs l < 0 then 0 else 22 := by unfold rchk; rw [if_pos hvb]; rfl
    by_cases c : l.length = 0
    · rw [if_pos c] at hs
      repeat' (first | refine go ?_ | refine goX ?_ | refine goB ?_ | (refine goG ?_; intro g) | (refine goV ?_; intro v) | refine goD ?_ | refine goXD ?_ | (refine goDG ?_; intro g) | (refine goDV ?_; intro v) | refine d29 ?_ | fail)
      first | refine WL.callV (solves_c D vb ux ms mx bs x m hv hx hf) ?_ | refine WD.callV (solves_c D vb ux ms mx bs x m hv hx hf) ?_
      by_cases c2 : x.length = m ∧ Sol bs x
      · rw [if_pos c2] at hs
        rw [decide_eq_true c2]
        repeat' (first | refine go ?_ | refine goX ?_ | refine goB ?_ | (refine goG ?_; intro g) | (refine goV ?_; intro v) | refine goD ?_ | refine goXD ?_ | (refine goDG ?_; intro g) | (refine goDV ?_; intro v) | refine d29 ?_ | fail)
        exact WC.ret (Fin.v (ResE.t1 rfl rfl) meA (fin _ hs))
      · rw [if_neg c2] at hs
        rw [decide_eq_false c2]
        repeat' (first | refine go ?_ | refine goX ?_ | refine goB ?_ | (refine goG ?_; intro g) | (refine goV ?_; intro v) | refine goD ?_ | refine goXD ?_ | (refine goDG ?_; intro g) | (refine goDV ?_; intro v) | refine d29 ?_ | fail)
        exact WC.ret (Fin.v (ResE.t1 rfl rfl) meA (fin _ hs))
    rw [if_neg c] at hs
    have bad : ¬ (Idx bs l ∧ Clo bs l ∧ x.length = 0 ∧ lenP bs l < 0) → rchk (m : Int) bs x l = 22 := fun h => by rw [hs, if_neg h]
    repeat' (first | refine go ?_ | refine goX ?_ | refine goB ?_ | (refine goG ?_; intro g) | (refine goV ?_; intro v) | refine goD ?_ | refine goXD ?_ | (refine goDG ?_; intro g) | (refine goDV ?_; intro v) | refine d29 ?_ | fail)
    refine WC.lp (σ := Nat) (fun s => [(9, .int .i64 (s : Int)), (0, .int .i64 m), (1, vb), (2, ux), (3, uc)]) (fun _ => []) (fun _ => [ge h0, fB D vb ms bs, fR D ux mx x, sI uc l]) (fun k => k ≤ l.length ∧ ∀ j, j < k → 0 ≤ l.getD j 0 ∧ l.getD j 0 < bs.length) (fun k => l.length - k) 0 ⟨Nat.zero_le _, fun j h => by omega⟩ ?_
    rintro k ⟨hk, hall⟩
    by_cases ck : k < l.length
    · by_cases c1 : l.getD k 0 < 0
      · repeat' (first | refine go ?_ | refine goX ?_ | refine goB ?_ | (refine goG ?_; intro g) | (refine goV ?_; intro v) | refine goD ?_ | refine goXD ?_ | (refine goDG ?_; intro g) | (refine goDV ?_; intro v) | refine d29 ?_ | fail)
        exact WC.ret (Fin.v (ResE.t1 rfl rfl) meA (fin _ (bad fun h => by have := h.1 k ck; omega)))
      by_cases c2 : (bs.length : Int) ≤ l.getD k 0
      · repeat' (first | refine go ?_ | refine goX ?_ | refine goB ?_ | (refine goG ?_; intro g) | (refine goV ?_; intro v) | refine goD ?_ | refine goXD ?_ | (refine goDG ?_; intro g) | (refine goDV ?_; intro v) | refine d29 ?_ | fail)
        exact WC.ret (Fin.v (ResE.t1 rfl rfl) meA (fin _ (bad fun h => by have := h.1 k ck; omega)))
      · repeat' (first | refine go ?_ | refine goX ?_ | refine goB ?_ | (refine goG ?_; intro g) | (refine goV ?_; intro v) | refine goD ?_ | refine goXD ?_ | (refine goDG ?_; intro g) | (refine goDV ?_; intro v) | refine d29 ?_ | fail)
        refine LoopEnd.mk (k + 1) ⟨by omega, fun j hj => ?_⟩ (by show l.length - (k + 1) < l.length - k; omega)
        by_cases hjk : j = k
        · subst hjk; omega
        · exact hall j (by omega)
    · have hidx : Idx bs l := fun j hj => hall j (by omega)
      repeat' (first | refine go ?_ | refine goX ?_ | refine goB ?_ | (refine goG ?_; intro g) | (refine goV ?_; intro v) | refine goD ?_ | refine goXD ?_ | (refine goDG ?_; intro g) | (refine goDV ?_; intro v) | refine d29 ?_ | fail)
      refine WC.lp (σ := Nat) (fun s => [(10, .int .i64 (s : Int)), (0, .int .i64 m), (1, vb), (2, ux), (3, uc)]) (fun _ => []) (fun _ => [ge h0, fB D vb ms bs, fR D ux mx x, sI uc l]) (fun k => k ≤ l.length ∧ ∀ j, j < k → (bg bs (l.getD j 0).toNat).to = (bg bs (nxi l j).toNat).fr) (fun k => l.length - k) 0 ⟨Nat.zero_le _, fun j h => by omega⟩ ?_
      clear ck hk hall k
      rintro k ⟨hk, hall⟩
      by_cases ck : k < l.length
      · have hik := hidx k ck
        have hm1 : 0 ≤ ((k : Int) + 1) % (l.length : Int) := Int.emod_nonneg _ (by omega)
        have hm2 : ((k : Int) + 1) % (l.length : Int) < l.length := Int.emod_lt_of_pos _ (by omega)
        have hin := hidx (((k : Int) + 1) % (l.length : Int)).toNat (by omega)
        have hnx : nxi l k = l.getD (((k : Int) + 1) % (l.length : Int)).toNat 0 := rfl
        by_cases c1 : (bg bs (l.getD k 0).toNat).to = (bg bs (l.getD (((k : Int) + 1) % (l.length : Int)).toNat 0).toNat).fr
        · repeat' (first | refine go ?_ | refine goX ?_ | refine goB ?_ | (refine goG ?_; intro g) | (refine goV ?_; intro v) | refine goD ?_ | refine goXD ?_ | (refine goDG ?_; intro g) | (refine goDV ?_; intro v) | refine d29 ?_ | fail)
          refine LoopEnd.mk (k + 1) ⟨by omega, fun j hj => ?_⟩ (by show l.length - (k + 1) < l.length - k; omega)
          by_cases hjk : j = k
          · subst hjk; rw [hnx]; exact c1
          · exact hall j (by omega)
        · repeat' (first | refine go ?_ | refine goX ?_ | refine goB ?_ | (refine goG ?_; intro g) | (refine goV ?_; intro v) | refine goD ?_ | refine goXD ?_ | (refine goDG ?_; intro g) | (refine goDV ?_; intro v) | refine d29 ?_ | fail)
          exact WC.ret (Fin.v (ResE.t1 rfl rfl) meA (fin _ (bad fun h => c1 (by rw [← hnx]; exact h.2.1 k ck))))
      · have hclo : Clo bs l := fun j hj => hall j (by omega)
        by_cases c1 : 0 < x.length
        · repeat' (first | refine go ?_ | refine goX ?_ | refine goB ?_ | (refine goG ?_; intro g) | (refine goV ?_; intro v) | refine goD ?_ | refine goXD ?_ | (refine goDG ?_; intro g) | (refine goDV ?_; intro v) | refine d29 ?_ | fail)
          exact WC.ret (Fin.v (ResE.t1 rfl rfl) meA (fin _ (bad fun h => by omega)))
        · repeat' (first | refine go ?_ | refine goX ?_ | refine goB ?_ | (refine goG ?_; intro g) | (refine goV ?_; intro v) | refine goD ?_ | refine goXD ?_ | (refine goDG ?_; intro g) | (refine goDV ?_; intro v) | refine d29 ?_ | fail)
          first | refine WL.callK (length_c D vb uc ms bs l hidx hb hf) ?_ | refine WD.callK (length_c D vb uc ms bs l hidx hb hf) ?_ | refine LO.callM (length_c D vb uc ms bs l hidx hb hf) ?_
          rintro _ _ _ ⟨m2, rfl, rfl, rfl⟩
          simp only [List.nil_append, List.cons_append]
          repeat' (first | refine go ?_ | refine goX ?_ | refine goB ?_ | (refine goG ?_; intro g) | (refine goV ?_; intro v) | refine goD ?_ | refine goXD ?_ | (refine goDG ?_; intro g) | (refine goDV ?_; intro v) | refine d29 ?_ | fail)
          first | refine WL.callV (rsignw_c D m2 (lenP bs l)) ?_ | refine WD.callV (rsignw_c D m2 (lenP bs l)) ?_
          have hsg := lss0_sgn (lenP bs l)
          unfold lss0 at hsg
          by_cases c2 : sgn (lenP bs l) < 0
          · rw [decide_eq_true c2, decide_eq_true_eq] at hsg
            rw [if_pos ⟨hidx, hclo, by omega, hsg⟩] at hs
            repeat' (first | refine go ?_ | refine goX ?_ | refine goB ?_ | (refine goG ?_; intro g) | (refine goV ?_; intro v) | refine goD ?_ | refine goXD ?_ | (refine goDG ?_; intro g) | (refine goDV ?_; intro v) | refine d29 ?_ | fail)
            exact WC.ret (Fin.v (ResE.t1 rfl rfl) meA (fin _ hs))
          · rw [decide_eq_false c2, decide_eq_false_iff_not] at hsg
            repeat' (first | refine go ?_ | refine goX ?_ | refine goB ?_ | (refine goG ?_; intro g) | (refine goV ?_; intro v) | refine goD ?_ | refine goXD ?_ | (refine goDG ?_; intro g) | (refine goDV ?_; intro v) | refine d29 ?_ | fail)
            exact WC.ret (Fin.v (ResE.t1 rfl rfl) meA (fin _ (bad fun h => hsg h.2.2.2)))
end H
end Go.Proofs.YthggloiigkbfeaaGreat
namespace Go.Proofs.YthggloiigkbfeaaGreat
open W Go.RowKit
theorem mem_getD {l : List Int} {x : Int} : x ∈ l ↔ ∃ j, j < l.length ∧ l.getD j 0 = x := by
  constructor
  · intro hi
    obtain ⟨j, h1, rfl⟩ := List.getElem_of_mem hi
    exact ⟨j, h1, by simp [List.getD_eq_getElem?_getD, h1]⟩
  · rintro ⟨j, h1, rfl⟩
    simp [List.getD_eq_getElem?_getD, h1]
/-- what the model's Most answers -/
def rmst (n : Int) (bs : List Bd) (a b : Int) : Int × List Int × Int :=
  if validB n bs = true ∧ (0 ≤ a ∧ a < n) ∧ 0 ≤ b ∧ b < n then (if Sol bs (jacs bs n.toNat n.toNat) then (match flwP bs b n.toNat [] [a] none with
    | none => (0, [], 6)
    | some p => (lenP bs p, p, 0)) else (0, rcyc bs n.toNat 1, 14))
  else (0, [], 1)
theorem mst_same (n : Int) (bs : List Bd) (a b : Int) : mst n bs a b = rmst n bs a b := by
  unfold mst rmst
  by_cases h : validB n bs = true ∧ (0 ≤ a ∧ a < n) ∧ 0 ≤ b ∧ b < n
  · rw [if_pos h, if_pos h]
    obtain ⟨n, rfl, hv⟩ := Vld.of h.1
    obtain ⟨a, rfl⟩ : ∃ k : Nat, a = k := ⟨a.toNat, by omega⟩
    obtain ⟨b, rfl⟩ : ∃ k : Nat, b = k := ⟨b.toNat, by omega⟩
    simp only [Int.toNat_natCast]
    by_cases hs : HasSol bs
    · rw [great_some hv hs, if_pos ((sol_iff_has hv).2 hs)]
      rcases most_same hv (show a < n by omega) (show b < n by omega) hs with ⟨h1, h2⟩ | ⟨k, h1, h2, h3, _⟩
      · rw [h1, h2]
      · rw [h1, h2]
        simp only
        rw [h3]
    · rw [great_none hv hs, if_neg (fun c => hs ((sol_iff_has hv).1 c)), cyc_same hv hs]
  · rw [if_neg h, if_neg h]
end Go.Proofs.YthggloiigkbfeaaGreat
namespace Go.Proofs.YthggloiigkbfeaaGreat
open W Go.RowKit
variable {P : Program} {e : Env} {bx bx' : List Ow} {F : List Fct} {ty t el : TypeId} {v u : Value} {x y z : Operand} {D n k : Nat} {ms : Nat → QM} {m : QM} {bs : List Bd} {b : Bd} {q : Rat} {K : RPost}
theorem YO.buildBd {i j : Int} (h1 : ev e x = some (.int .i64 i)) (h2 : ev e y = some (.int .i64 j)) : YO Tryz.prog (.build 59 #[(0, x), (1, y)]) ty e bx F (.agg #[.int .i64 i, .int .i64 j, .bool false, .slice none 0 0, .bool false, .slice none 0 0]) := YO.build (parts := [(0, x), (1, y)]) (.cons h1 (.cons h2 .nil)) fun w => run_build w 59 _ _ (by kernel_rfl)
theorem YO.buildBd3 {i j : Int} (h1 : ev e x = some (.int .i64 i)) (h2 : ev e y = some (.int .i64 j)) (h3 : ev e z = some (qv m)) : YO Tryz.prog (.build 59 #[(0, x), (1, y), (2, z)]) ty e bx F (.agg #[.int .i64 i, .int .i64 j, .bool m.1, m.2.1, .bool false, m.2.2]) := YO.build (parts := [(0, x), (1, y), (2, z)]) (.cons h1 (.cons h2 (.cons h3 .nil))) fun w => run_build w 59 _ _ (by kernel_rfl)
theorem YO.buildSy1 {i : Int} (h1 : ev e x = some (.int .i64 i)) : YO Tryz.prog (.build 103 #[(0, x)]) ty e bx F (.agg #[.int .i64 i, .slice none 0 0]) := YO.build (parts := [(0, x)]) (.cons h1 .nil) fun w => run_build w 103 _ _ (by kernel_rfl)
/-- the number of a bound that lies in a variable is stored -/
theorem LO.storeB2 {g : Nat} {tg : TypeId} {c1 c2 d1 d2 d3 d4 : Value} (hx : ev e x = some (.pointer (some ⟨g, 2, none⟩))) (hy : ev e y = some (qv m)) (hr : Row P t 4) (hq : Has F (isQ (qv m) q)) (hs : Sel bx (.cells g tg [c1, c2, d1, d2, d3, d4]) (.cells g tg [c1, c2, .bool m.1, m.2.1, .bool false, m.2.2]) bx')
    (h : K undef bx' F) : LO P (.store t x y) ty e bx F K :=
  LO.byOneL (one_q hq) fun h1 => LO.store (vs := qcs m) hx hy (by simp [Value.cells]) (by rw [hr.2]; rfl) h1 hs (by show 2 + 4 ≤ 6; omega) rfl h
theorem YO.ldOBf (hs : Scalar P t) (hx : ev e x = some (.pointer (some (eaddr v (k * 6 + 0))))) (hb : Ow.slice v el 6 (bcells bs ms) ∈ bx) (hk : k < bs.length) : YO P (.load t x) ty e bx F (.int .i64 (bg bs k).fr) :=
  YO.ldO hs hx hb (bcells_get hk (by decide))
theorem YO.ldOBt (hs : Scalar P t) (hx : ev e x = some (.pointer (some (eaddr v (k * 6 + 1))))) (hb : Ow.slice v el 6 (bcells bs ms) ∈ bx) (hk : k < bs.length) : YO P (.load t x) ty e bx F (.int .i64 (bg bs k).to) :=
  YO.ldO hs hx hb (bcells_get hk (by decide))
end Go.Proofs.YthggloiigkbfeaaGreat
namespace Go.Proofs.YthggloiigkbfeaaGreat
open W Go.RowKit
attribute [local irreducible] WC WL WD YO LO LoopEnd W.Fin Scalar SliceT FieldAt Row ArrT AllocT KnS Has W.One SrcE IntT
namespace I
set_option maxRecDepth 60000
theorem t0A {G : Prop} (h : G := by first | (((first | exact T.al3 | exact T.al4 | exact T.al22 | exact T.al26 | exact T.al32 | exact T.al35 | exact T.al37 | exact T.al38 | exact T.al59 | exact T.al103 | exact T.al109 | exact T.al111 | exact T.al114 | exact T.al161 | exact T.al164 | exact T.al94 | exact T.al116 | exact T.al159)); done) | fail) : G := h
theorem t1A {G : Prop} (h : G := by first | (((first | exact T.sc3 | exact T.sc4 | exact T.sc22 | exact T.sc26 | exact T.sc32 | exact T.sc38 | exact T.sc109 | exact T.sc111 | exact T.sc161 | exact T.sc164 | exact T.sc94 | exact T.sc116 | exact T.sc159)); done) | fail) : G := h
theorem t2A {G : Prop} (h : G := by first | (((first | exact T.z3 | exact T.z4 | exact T.z22 | exact T.z26 | exact T.z32 | exact T.z38 | exact T.z109 | exact T.z111 | exact T.z161 | exact T.z164 | exact T.z94 | exact T.z116 | exact T.z159)); done) | fail) : G := h
theorem t3A {G : Prop} (h : G := by first | (((first | exact T.f35_0 | exact T.f35_1 | exact T.f37_0 | exact T.f37_1 | exact T.f59_0 | exact T.f59_1 | exact T.f59_2 | exact T.f103_0 | exact T.f103_1 | exact T.f114_0 | exact T.f114_1)); done) | fail) : G := h
theorem t4A {G : Prop} (h : G := by first | (((first | exact T.e22 | exact T.e32 | exact T.e38 | exact T.e109 | exact T.e111 | exact T.e161)); done) | fail) : G := h
theorem t5A {G : Prop} (h : G := by first | (((first | exact T.s22 | exact T.s32 | exact T.s38 | exact T.s109 | exact T.s111 | exact T.s161)); done) | fail) : G := h
theorem t6A {G : Prop} (h : G := by first | (((first | exact T.r35 | exact T.r37 | exact T.r59 | exact T.r103 | exact T.r114)); done) | fail) : G := h
theorem t7A {G : Prop} (h : G := by first | (((first | exact T.u3 | exact T.u26 | exact T.u164)); done) | fail) : G := h
theorem knA {G : Prop} (h : G := by first | (((first | (focus (apply KnS.oT; exact meA; done)) | (focus (apply KnS.f; exact hmA; done)) | (focus (apply KnS.oI; exact meA; done)) | (focus (apply KnS.o1; exact meA; done)) | (focus (apply KnS.zd; exact hmA; done)) | (focus (apply KnS.q1; exact hmA; done)) | (focus (apply KnS.q2; exact hmA; done)) | (focus (apply KnS.fr; exact hmA; done)) | (focus (apply KnS.fb; exact hmA; done)) | (focus (apply KnS.fl; exact hmA; done)) | (focus (apply KnS.oR; exact meA; done)) | (focus (apply KnS.oB; exact meA; done)) | (focus (apply KnS.oL; exact meA; done)))); done) | fail) : G := h
theorem hsA {G : Prop} (h : G := by first | (((first | exact hmA | (focus (apply hasQ_P; exact hmA; done)) | (focus (apply hasQ_Q; exact hmA; done)) | exact hasZ_0 | exact hasQ_0 | (focus (apply hasZ_d; exact hmA; done)) | (focus (apply hasQ_d1; exact hmA; done)) | (focus (apply hasQ_d2; exact hmA; done)) | exact hasQ0w)); done) | fail) : G := h
theorem haA {G : Prop} (h : G := by first | ((repeat (first | exact HasAll.nil | (apply HasAll.cons; exact hsA))); done) | fail) : G := h
theorem hbA {G : Prop} (h : G := by first | ((repeat (first | exact HasAllB.nil | (apply HasAllB.cons; (first | (focus (apply HasB.oI; exact meA; done)) | (focus (apply HasB.c; exact meA; done)) | (focus (apply HasB.f; exact hsA; done)) | (focus (apply HasB.fR; exact meA; exact hmA; done)) | (focus (apply HasB.fB; exact meA; exact hmA; done)) | (focus (apply HasB.fL; exact meA; exact hmA; done)) | (focus (apply HasB.and; (focus (apply HasB.c; exact meA; done)); (focus (apply HasB.c; exact meA; done)); done)) | (focus (apply HasB.oT; exact meA; done)))))); done) | fail) : G := h
theorem ltA {G : Prop} (h : G := by first | (((first | (focus (apply Or.inr; constructor; (repeat (first | exact List.Sublist.refl _ | exact List.nil_sublist _ | apply List.Sublist.cons_cons | apply List.Sublist.cons)); (first | exact fun _ h => h | (intro f hf; (repeat (first | exact hf | apply List.Mem.tail)))); done)) | (apply Or.inl; kernel_rfl))); done) | fail) : G := h
theorem onA {G : Prop} (h : G := by first | (((first | exact ints_one _ | (intro u hu; simp only [List.mem_cons, List.not_mem_nil, or_false] at hu; first | (subst hu; rfl) | (rcases hu with rfl | rfl | rfl <;> rfl)))); done) | fail) : G := h
theorem leA {G : Prop} (h : G := by first | (((simp only [List.length_map, List.length_append, List.length_cons, List.length_nil, List.length_replicate, List.length_take]; omega)); done) | fail) : G := h
theorem y_indexAddr {G : Prop} (h : G := by first | (((first | (first | (apply YO.ix1; exact t5A; exact rfl; exact rfl; exact knA; omega) | (apply YO.ix; exact t5A; exact rfl; exact rfl; exact knA; omega) | (apply YO.ix1'; exact t5A; exact rfl; exact rfl; exact knA; omega; omega) | (apply YO.ix'; exact t5A; exact rfl; exact rfl; exact knA; omega; omega)) | (apply YO.ix1; exact t5A; exact rfl; exact rfl; exact knA; (first | omega | (simp only [List.length_set, List.length_replicate]; omega))) | (apply YO.ix; exact t5A; exact rfl; exact rfl; exact knA; (first | omega | (simp only [List.length_set, List.length_replicate]; omega))) | (apply YO.ix1'; exact t5A; exact rfl; exact rfl; exact knA; omega; (first | omega | (simp only [List.length_set, List.length_replicate]; omega))))); done) | fail) : G := h
theorem y_load {G : Prop} (h : G := by first | (((first | (apply YO.ldW; exact t6A; exact rfl; exact meA; exact rfl) | (apply YO.ld42; exact t6A; exact rfl; exact meA) | (apply YO.ld40; exact t6A; exact rfl; exact meA) | (apply YO.ld62; exact t6A; exact rfl; exact meA) | (apply YO.ld51; exact t6A; exact rfl; exact meA) | (apply YO.ldR; exact t6A; exact rfl; exact hmA; omega) | (apply YO.ldBd; exact t6A; exact rfl; exact hmA; omega) | (apply YO.ldBq; exact t6A; exact rfl; exact hmA; omega) | (apply YO.ldBf; exact t1A; exact rfl; exact hmA; omega) | (apply YO.ldBt; exact t1A; exact rfl; exact hmA; omega) | (apply YO.ldLn; exact t6A; exact rfl; exact hmA; omega) | (apply YO.ldLb; exact t1A; exact rfl; exact hmA; omega) | (apply YO.ldLq; exact t6A; exact rfl; exact hmA; omega) | (apply YO.ldWf; exact t6A; exact rfl; exact hmA; exact rfl) | (apply YO.ldOR; exact t6A; exact rfl; exact meA; omega) | (apply YO.ldOBd; exact t6A; exact rfl; exact meA; omega) | (apply YO.ldOBq; exact t6A; exact rfl; exact meA; omega) | (apply YO.ldOL; exact t6A; exact rfl; exact meA; omega) | (apply YO.ldOT; exact t1A; exact rfl; exact meA; omega) | (apply YO.ldOBf; exact t1A; exact rfl; exact meA; omega) | (apply YO.ldOBt; exact t1A; exact rfl; exact meA; omega) | (apply YO.ldWI0; exact t6A; exact rfl; exact meA; (first | omega | (simp only [List.length_set, List.length_replicate]; omega))) | (apply YO.ldWF0; exact t6A; exact rfl; exact hmA; (first | omega | (simp only [List.length_set, List.length_replicate]; omega))) | (apply YO.ldCI; exact t1A; exact rfl; exact meA; (first | omega | (simp only [List.length_set, List.length_replicate]; omega))) | (apply YO.ldFI; exact t1A; exact rfl; exact hmA; (first | omega | (simp only [List.length_set, List.length_replicate]; omega))) | (apply YO.ldF; exact t1A; exact rfl; exact hmA; exact rfl) | (apply YO.ldS; exact t1A; exact rfl; exact hsA; omega) | (apply YO.ldB; exact t1A; exact rfl; exact meA; exact rfl) | (apply YO.ldOI; exact t1A; exact rfl; exact meA; (first | omega | (simp only [List.length_set, List.length_replicate]; omega))))); done) | fail) : G := h
theorem y_slice {G : Prop} (h : G := by first | (((first | (first | (apply YO.slice; exact t5A; exact rfl; exact knA; exact Or.inl ⟨rfl, rfl⟩; exact Or.inr ⟨_, rfl, rfl⟩; omega; omega) | (apply YO.slice; exact t5A; exact rfl; exact knA; exact Or.inr ⟨_, rfl, rfl⟩; exact Or.inl ⟨rfl, rfl⟩; omega; omega)) | (apply YO.slice3; exact t5A; exact rfl; exact knA; exact rfl; exact rfl; omega; omega))); done) | fail) : G := h
theorem y_eql {G : Prop} (h : G := by first | (((first | (first | (first | (apply YO.eql_t; exact rfl; exact rfl; omega) | (apply YO.eql_f; exact rfl; exact rfl; omega)) | (apply YO.eqNil_t; exact t5A; exact rfl; exact knA; assumption) | (apply YO.eqNil_f; exact t5A; exact rfl; exact knA; assumption)) | (apply YO.beq_t; exact bool_t; exact rfl; exact rfl; (first | rfl | assumption | decide)) | (apply YO.beq_f; exact bool_t; exact rfl; exact rfl; (first | rfl | assumption | decide)))); done) | fail) : G := h
theorem y_build {G : Prop} (h : G := by first | (((first | (apply YO.buildZ; exact rfl; exact rfl; exact knA) | exact YO.buildZ0 | exact YO.buildQ0 | (apply YO.buildQ1; exact rfl) | (apply YO.buildQ2; exact rfl; exact rfl) | (apply YO.buildLn; exact rfl; exact rfl) | (apply YO.buildSys; exact rfl; exact rfl; exact knA) | (apply YO.buildBd; exact rfl; exact rfl) | (apply YO.buildBd3; exact rfl; exact rfl; exact rfl) | (apply YO.buildSy1; exact rfl))); done) | fail) : G := h
theorem y_len {G : Prop} (h : G := by first | (((apply YO.len; exact t5A; exact rfl; exact knA)); done) | fail) : G := h
theorem y_fieldAddr {G : Prop} (h : G := by first | (((first | (apply YO.fieldE; exact t3A; exact rfl) | (apply YO.fieldN; exact t3A; exact rfl; ((try simp only [Nat.zero_add, Nat.mul_one, Nat.reduceAdd, Nat.reduceMul]); exact rfl)))); done) | fail) : G := h
theorem y_conv {G : Prop} (h : G := by first | (((first | (first | (apply YO.convU; exact t7A; exact t7A; exact rfl; omega; omega) | (apply YO.convI; exact t7A; exact t7A; exact rfl; omega; omega)) | (apply YO.convN; exact t7A; exact t7A; exact rfl; omega; omega))); done) | fail) : G := h
theorem y_neq {G : Prop} (h : G := by first | (((first | (first | (apply YO.neq_t; exact rfl; exact rfl; omega) | (apply YO.neq_f; exact rfl; exact rfl; omega)) | (apply YO.bne_t; exact bool_t; exact rfl; exact rfl; (first | rfl | assumption | decide)) | (apply YO.bne_f; exact bool_t; exact rfl; exact rfl; (first | rfl | assumption | decide)))); done) | fail) : G := h
theorem y_makeFunc {G : Prop} (h : G := by first | (((apply YO.makeFunc; (repeat (first | exact Evs.nil | (apply Evs.cons; exact rfl))); (repeat (first | exact Evs.nil | (apply Evs.cons; exact rfl))))); done) | fail) : G := h
theorem y_quo {G : Prop} (h : G := by first | (((first | (apply YO.quo; exact rfl; exact rfl; omega; omega; omega) | (apply YO.uquo; exact rfl; exact rfl; omega; omega; omega))); done) | fail) : G := h
theorem y_and {G : Prop} (h : G := by first | (((first | (apply YO.and1; exact rfl; exact rfl; omega; omega) | (apply YO.and; exact rfl; exact rfl; omega; omega; omega; omega))); done) | fail) : G := h
theorem y_mul {G : Prop} (h : G := by first | (((first | (apply YO.mul; exact rfl; exact rfl; omega; omega) | (apply YO.umul; exact rfl; exact rfl; omega; omega))); done) | fail) : G := h
theorem y_rem {G : Prop} (h : G := by first | (((first | (apply YO.rem; exact rfl; exact rfl; omega; omega) | (apply YO.urem; exact rfl; exact rfl; omega; omega))); done) | fail) : G := h
theorem y_add {G : Prop} (h : G := by first | (((first | (apply YO.inc; exact rfl; exact rfl; omega) | (apply YO.add; exact rfl; exact rfl; omega; omega))); done) | fail) : G := h
theorem y_lss {G : Prop} (h : G := by first | (((first | (apply YO.lss_t; exact rfl; exact rfl; omega) | (apply YO.lss_f; exact rfl; exact rfl; omega))); done) | fail) : G := h
theorem y_gtr {G : Prop} (h : G := by first | (((first | (apply YO.gtr_t; exact rfl; exact rfl; omega) | (apply YO.gtr_f; exact rfl; exact rfl; omega))); done) | fail) : G := h
theorem y_geq {G : Prop} (h : G := by first | (((first | (apply YO.geq_t; exact rfl; exact rfl; omega) | (apply YO.geq_f; exact rfl; exact rfl; omega))); done) | fail) : G := h
theorem y_leq {G : Prop} (h : G := by first | (((first | (apply YO.leq_t; exact rfl; exact rfl; omega) | (apply YO.leq_f; exact rfl; exact rfl; omega))); done) | fail) : G := h
theorem y_shl {G : Prop} (h : G := by first | (((apply YO.shl'; exact rfl; exact rfl; omega; omega; (first | omega | decide); (first | omega | decide))); done) | fail) : G := h
theorem y_uneg {G : Prop} (h : G := by first | (((first | (apply YO.neg; exact rfl; omega; omega) | (apply YO.uneg; exact rfl; omega; omega))); done) | fail) : G := h
theorem y_pick {G : Prop} (h : G := by first | (((first | (apply YO.pick_t; exact rfl; exact rfl) | (apply YO.pick_f; exact rfl; exact rfl))); done) | fail) : G := h
theorem y_unot {G : Prop} (h : G := by first | (((first | (apply YO.not_t; exact rfl) | (apply YO.not_f; exact rfl))); done) | fail) : G := h
theorem y_or {G : Prop} (h : G := by first | (((apply YO.or; exact rfl; exact rfl; omega; omega; omega; omega)); done) | fail) : G := h
theorem go {G G' : Prop} (h : G') (s : Bx G' → G := by
  intro h
  (first
    | apply WL.nil
    | (apply WL.skg; exact rfl; exact rfl)
    | (apply WL.skg0; exact rfl)
    | (apply WL.k_move; (apply YO.move; exact rfl); exact rfl; exact rfl)
    | (apply WL.k_assign; (apply YO.assign; exact rfl); exact rfl; exact rfl)
    | (apply WL.k_lss; exact y_lss; exact rfl; exact rfl)
    | (apply WL.k_add; exact y_add; exact rfl; exact rfl)
    | (apply WL.k_len; exact y_len; exact rfl; exact rfl)
    | (apply WL.k_indexAddr; exact y_indexAddr; exact rfl; exact rfl)
    | (apply WL.k_load; exact y_load; exact rfl; exact rfl)
    | (apply WL.k_pick; exact y_pick; exact rfl; exact rfl)
    | (apply WL.k_fieldAddr; exact y_fieldAddr; exact rfl; exact rfl)
    | (apply WL.k_eql; exact y_eql; exact rfl; exact rfl)
    | (apply WL.k_neq; exact y_neq; exact rfl; exact rfl)
    | (apply WL.k_nil; (apply YO.nil; exact rfl); exact rfl; exact rfl)
    | (apply WL.k_extract; (apply YO.extract; exact rfl; exact rfl); exact rfl; exact rfl)
    | (apply WL.k_gtr; exact y_gtr; exact rfl; exact rfl)
    | (apply WL.k_geq; exact y_geq; exact rfl; exact rfl)
    | (apply WL.k_leq; exact y_leq; exact rfl; exact rfl)
    | (apply WL.k_sub; (apply YO.sub; exact rfl; exact rfl; omega; omega); exact rfl; exact rfl)
    | (apply WL.k_mul; exact y_mul; exact rfl; exact rfl)
    | (apply WL.k_rem; exact y_rem; exact rfl; exact rfl)
    | (apply WL.k_quo; exact y_quo; exact rfl; exact rfl)
    | (apply WL.k_unot; exact y_unot; exact rfl; exact rfl)
    | (apply WL.k_uneg; exact y_uneg; exact rfl; exact rfl)
    | (apply WL.k_max; (apply YO.max; exact rfl; exact rfl); exact rfl; exact rfl)
    | (apply WL.k_min; (apply YO.min; exact rfl; exact rfl); exact rfl; exact rfl)
    | (apply WL.k_makeFunc; exact y_makeFunc; exact rfl; exact rfl)
    | (apply WL.k_conv; exact y_conv; exact rfl; exact rfl)
    | (apply WL.k_shl; exact y_shl; exact rfl; exact rfl)
    | (apply WL.k_shr; (apply YO.shr'; exact rfl; exact rfl; omega; omega); exact rfl; exact rfl)
    | (apply WL.k_and; exact y_and; exact rfl; exact rfl)
    | (apply WL.k_or; exact y_or; exact rfl; exact rfl)
    | (apply WL.k_andNot; (apply YO.anot; exact rfl; exact rfl); exact rfl; exact rfl)
    | (apply WL.k_slice; exact y_slice; exact rfl; exact rfl)
    | (apply WL.k_build; exact y_build; exact rfl; exact rfl)
    | apply WC.seq
    | apply WC.region
    | apply WC.block
    | (apply WC.cond_t; exact rfl)
    | (apply WC.cond_f; exact rfl)
    | apply WC.exit
    | apply WC.skip
    | apply WC.label
    | (apply WL.kl_store; rotate_left; exact rfl; (first | (apply LO.storeOI; exact rfl; exact rfl; exact t2A; exact seA; (first | omega | (simp only [List.length_set]; omega))) | (apply LO.storeQ; exact rfl; exact rfl; exact t6A; exact hmA; exact seA; omega) | (apply LO.storeL1; exact rfl; exact rfl; exact t6A; exact hmA; exact seA; omega) | (apply LO.storeOT; exact rfl; exact rfl; exact t2A; (first | exact One.lit rfl rfl | (apply One.sl; exact knA)); exact seA; omega) | (apply LO.storeB2; exact rfl; exact rfl; exact t6A; exact hmA; exact seA) | (apply LO.storeBf; exact rfl; exact rfl; exact t2A; exact seA; omega) | (apply LO.storeBt; exact rfl; exact rfl; exact t2A; exact seA; omega) | (apply LO.storeBq; exact rfl; exact rfl; exact t6A; exact hmA; exact seA; omega) | (apply LO.storeI; exact rfl; exact rfl; exact t2A; exact seA; (first | omega | (simp only [List.length_set, List.length_replicate]; omega))) | (apply LO.storeWI; exact rfl; exact rfl; exact seA; exact t6A; (first | omega | (simp only [List.length_set, List.length_replicate]; omega)); (first | (simp only [List.length_map, List.length_set, List.length_replicate, ints]; omega) | rfl)) | (apply LO.store1; exact rfl; exact rfl; exact t2A; (first | exact One.lit rfl rfl | (apply One.sl; exact knA)); exact seA; (first | (simp only [List.length_cons, List.length_nil]; omega) | (simp; omega)); (first | (simp only [List.set_cons_succ, List.set_cons_zero]; exact rfl) | exact rfl)) | (apply LO.storeO1; exact rfl; exact rfl; exact t2A; (first | exact One.lit rfl rfl | (apply One.sl; exact knA)); exact seA; (first | (simp only [List.length_cons, List.length_nil]; omega) | (simp; omega)); (first | (simp only [List.set_cons_succ, List.set_cons_zero]; exact rfl) | exact rfl)) | (apply LO.storeL; exact rfl; exact rfl; exact seA; exact t6A; exact rfl; exact rfl; (repeat (first | exact OneL.nil | (apply OneL.cons; (first | exact One.lit rfl rfl | (apply One.sl; exact knA)))))))))
  repeat (first
    | apply WL.nil
    | (apply WL.skg; exact rfl; exact rfl)
    | (apply WL.skg0; exact rfl)
    | (apply WL.k_move; (apply YO.move; exact rfl); exact rfl; exact rfl)
    | (apply WL.k_assign; (apply YO.assign; exact rfl); exact rfl; exact rfl)
    | (apply WL.k_lss; exact y_lss; exact rfl; exact rfl)
    | (apply WL.k_add; exact y_add; exact rfl; exact rfl)
    | (apply WL.k_len; exact y_len; exact rfl; exact rfl)
    | (apply WL.k_indexAddr; exact y_indexAddr; exact rfl; exact rfl)
    | (apply WL.k_load; exact y_load; exact rfl; exact rfl)
    | (apply WL.k_pick; exact y_pick; exact rfl; exact rfl)
    | (apply WL.k_fieldAddr; exact y_fieldAddr; exact rfl; exact rfl)
    | (apply WL.k_eql; exact y_eql; exact rfl; exact rfl)
    | (apply WL.k_neq; exact y_neq; exact rfl; exact rfl)
    | (apply WL.k_nil; (apply YO.nil; exact rfl); exact rfl; exact rfl)
    | (apply WL.k_extract; (apply YO.extract; exact rfl; exact rfl); exact rfl; exact rfl)
    | (apply WL.k_gtr; exact y_gtr; exact rfl; exact rfl)
    | (apply WL.k_geq; exact y_geq; exact rfl; exact rfl)
    | (apply WL.k_leq; exact y_leq; exact rfl; exact rfl)
    | (apply WL.k_sub; (apply YO.sub; exact rfl; exact rfl; omega; omega); exact rfl; exact rfl)
    | (apply WL.k_mul; exact y_mul; exact rfl; exact rfl)
    | (apply WL.k_rem; exact y_rem; exact rfl; exact rfl)
    | (apply WL.k_quo; exact y_quo; exact rfl; exact rfl)
    | (apply WL.k_unot; exact y_unot; exact rfl; exact rfl)
    | (apply WL.k_uneg; exact y_uneg; exact rfl; exact rfl)
    | (apply WL.k_max; (apply YO.max; exact rfl; exact rfl); exact rfl; exact rfl)
    | (apply WL.k_min; (apply YO.min; exact rfl; exact rfl); exact rfl; exact rfl)
    | (apply WL.k_makeFunc; exact y_makeFunc; exact rfl; exact rfl)
    | (apply WL.k_conv; exact y_conv; exact rfl; exact rfl)
    | (apply WL.k_shl; exact y_shl; exact rfl; exact rfl)
    | (apply WL.k_shr; (apply YO.shr'; exact rfl; exact rfl; omega; omega); exact rfl; exact rfl)
    | (apply WL.k_and; exact y_and; exact rfl; exact rfl)
    | (apply WL.k_or; exact y_or; exact rfl; exact rfl)
    | (apply WL.k_andNot; (apply YO.anot; exact rfl; exact rfl); exact rfl; exact rfl)
    | (apply WL.k_slice; exact y_slice; exact rfl; exact rfl)
    | (apply WL.k_build; exact y_build; exact rfl; exact rfl)
    | apply WC.seq
    | apply WC.region
    | apply WC.block
    | (apply WC.cond_t; exact rfl)
    | (apply WC.cond_f; exact rfl)
    | apply WC.exit
    | apply WC.skip
    | apply WC.label
    | (apply WL.kl_store; rotate_left; exact rfl; (first | (apply LO.storeOI; exact rfl; exact rfl; exact t2A; exact seA; (first | omega | (simp only [List.length_set]; omega))) | (apply LO.storeQ; exact rfl; exact rfl; exact t6A; exact hmA; exact seA; omega) | (apply LO.storeL1; exact rfl; exact rfl; exact t6A; exact hmA; exact seA; omega) | (apply LO.storeOT; exact rfl; exact rfl; exact t2A; (first | exact One.lit rfl rfl | (apply One.sl; exact knA)); exact seA; omega) | (apply LO.storeB2; exact rfl; exact rfl; exact t6A; exact hmA; exact seA) | (apply LO.storeBf; exact rfl; exact rfl; exact t2A; exact seA; omega) | (apply LO.storeBt; exact rfl; exact rfl; exact t2A; exact seA; omega) | (apply LO.storeBq; exact rfl; exact rfl; exact t6A; exact hmA; exact seA; omega) | (apply LO.storeI; exact rfl; exact rfl; exact t2A; exact seA; (first | omega | (simp only [List.length_set, List.length_replicate]; omega))) | (apply LO.storeWI; exact rfl; exact rfl; exact seA; exact t6A; (first | omega | (simp only [List.length_set, List.length_replicate]; omega)); (first | (simp only [List.length_map, List.length_set, List.length_replicate, ints]; omega) | rfl)) | (apply LO.store1; exact rfl; exact rfl; exact t2A; (first | exact One.lit rfl rfl | (apply One.sl; exact knA)); exact seA; (first | (simp only [List.length_cons, List.length_nil]; omega) | (simp; omega)); (first | (simp only [List.set_cons_succ, List.set_cons_zero]; exact rfl) | exact rfl)) | (apply LO.storeO1; exact rfl; exact rfl; exact t2A; (first | exact One.lit rfl rfl | (apply One.sl; exact knA)); exact seA; (first | (simp only [List.length_cons, List.length_nil]; omega) | (simp; omega)); (first | (simp only [List.set_cons_succ, List.set_cons_zero]; exact rfl) | exact rfl)) | (apply LO.storeL; exact rfl; exact rfl; exact seA; exact t6A; exact rfl; exact rfl; (repeat (first | exact OneL.nil | (apply OneL.cons; (first | exact One.lit rfl rfl | (apply One.sl; exact knA)))))))))
  exact Bx.h h) : G := s ⟨h⟩
theorem goD {G G' : Prop} (h : G') (s : Bx G' → G := by
  intro h
  (first
    | apply WD.nil
    | (apply WD.skg; exact rfl; exact rfl; exact rfl)
    | (apply WD.skgl; exact rfl; exact rfl; exact rfl)
    | (apply WD.skgl0; exact rfl; exact rfl)
    | (apply WD.k_move; exact rfl; (apply YO.move; exact rfl); exact rfl; exact rfl)
    | (apply WD.k_assign; exact rfl; (apply YO.assign; exact rfl); exact rfl; exact rfl)
    | (apply WD.k_lss; exact rfl; exact y_lss; exact rfl; exact rfl)
    | (apply WD.k_add; exact rfl; exact y_add; exact rfl; exact rfl)
    | (apply WD.k_len; exact rfl; exact y_len; exact rfl; exact rfl)
    | (apply WD.k_indexAddr; exact rfl; exact y_indexAddr; exact rfl; exact rfl)
    | (apply WD.k_load; exact rfl; exact y_load; exact rfl; exact rfl)
    | (apply WD.k_pick; exact rfl; exact y_pick; exact rfl; exact rfl)
    | (apply WD.k_fieldAddr; exact rfl; exact y_fieldAddr; exact rfl; exact rfl)
    | (apply WD.k_eql; exact rfl; exact y_eql; exact rfl; exact rfl)
    | (apply WD.k_neq; exact rfl; exact y_neq; exact rfl; exact rfl)
    | (apply WD.k_nil; exact rfl; (apply YO.nil; exact rfl); exact rfl; exact rfl)
    | (apply WD.k_extract; exact rfl; (apply YO.extract; exact rfl; exact rfl); exact rfl; exact rfl)
    | (apply WD.k_gtr; exact rfl; exact y_gtr; exact rfl; exact rfl)
    | (apply WD.k_geq; exact rfl; exact y_geq; exact rfl; exact rfl)
    | (apply WD.k_leq; exact rfl; exact y_leq; exact rfl; exact rfl)
    | (apply WD.k_sub; exact rfl; (apply YO.sub; exact rfl; exact rfl; omega; omega); exact rfl; exact rfl)
    | (apply WD.k_mul; exact rfl; exact y_mul; exact rfl; exact rfl)
    | (apply WD.k_rem; exact rfl; exact y_rem; exact rfl; exact rfl)
    | (apply WD.k_quo; exact rfl; exact y_quo; exact rfl; exact rfl)
    | (apply WD.k_unot; exact rfl; exact y_unot; exact rfl; exact rfl)
    | (apply WD.k_uneg; exact rfl; exact y_uneg; exact rfl; exact rfl)
    | (apply WD.k_max; exact rfl; (apply YO.max; exact rfl; exact rfl); exact rfl; exact rfl)
    | (apply WD.k_min; exact rfl; (apply YO.min; exact rfl; exact rfl); exact rfl; exact rfl)
    | (apply WD.k_makeFunc; exact rfl; exact y_makeFunc; exact rfl; exact rfl)
    | (apply WD.k_conv; exact rfl; exact y_conv; exact rfl; exact rfl)
    | (apply WD.k_shl; exact rfl; exact y_shl; exact rfl; exact rfl)
    | (apply WD.k_shr; exact rfl; (apply YO.shr'; exact rfl; exact rfl; omega; omega); exact rfl; exact rfl)
    | (apply WD.k_and; exact rfl; exact y_and; exact rfl; exact rfl)
    | (apply WD.k_or; exact rfl; exact y_or; exact rfl; exact rfl)
    | (apply WD.k_andNot; exact rfl; (apply YO.anot; exact rfl; exact rfl); exact rfl; exact rfl)
    | (apply WD.k_slice; exact rfl; exact y_slice; exact rfl; exact rfl)
    | (apply WD.k_build; exact rfl; exact y_build; exact rfl; exact rfl)
    | (apply WD.kl_store; exact rfl; rotate_left; exact rfl; (first | (apply LO.storeOI; exact rfl; exact rfl; exact t2A; exact seA; (first | omega | (simp only [List.length_set]; omega))) | (apply LO.storeQ; exact rfl; exact rfl; exact t6A; exact hmA; exact seA; omega) | (apply LO.storeL1; exact rfl; exact rfl; exact t6A; exact hmA; exact seA; omega) | (apply LO.storeOT; exact rfl; exact rfl; exact t2A; (first | exact One.lit rfl rfl | (apply One.sl; exact knA)); exact seA; omega) | (apply LO.storeB2; exact rfl; exact rfl; exact t6A; exact hmA; exact seA) | (apply LO.storeBf; exact rfl; exact rfl; exact t2A; exact seA; omega) | (apply LO.storeBt; exact rfl; exact rfl; exact t2A; exact seA; omega) | (apply LO.storeBq; exact rfl; exact rfl; exact t6A; exact hmA; exact seA; omega) | (apply LO.storeI; exact rfl; exact rfl; exact t2A; exact seA; (first | omega | (simp only [List.length_set, List.length_replicate]; omega))) | (apply LO.storeWI; exact rfl; exact rfl; exact seA; exact t6A; (first | omega | (simp only [List.length_set, List.length_replicate]; omega)); (first | (simp only [List.length_map, List.length_set, List.length_replicate, ints]; omega) | rfl)) | (apply LO.store1; exact rfl; exact rfl; exact t2A; (first | exact One.lit rfl rfl | (apply One.sl; exact knA)); exact seA; (first | (simp only [List.length_cons, List.length_nil]; omega) | (simp; omega)); (first | (simp only [List.set_cons_succ, List.set_cons_zero]; exact rfl) | exact rfl)) | (apply LO.storeO1; exact rfl; exact rfl; exact t2A; (first | exact One.lit rfl rfl | (apply One.sl; exact knA)); exact seA; (first | (simp only [List.length_cons, List.length_nil]; omega) | (simp; omega)); (first | (simp only [List.set_cons_succ, List.set_cons_zero]; exact rfl) | exact rfl)) | (apply LO.storeL; exact rfl; exact rfl; exact seA; exact t6A; exact rfl; exact rfl; (repeat (first | exact OneL.nil | (apply OneL.cons; (first | exact One.lit rfl rfl | (apply One.sl; exact knA))))))); constructor; exact ltA))
  repeat (first
    | apply WD.nil
    | (apply WD.skg; exact rfl; exact rfl; exact rfl)
    | (apply WD.skgl; exact rfl; exact rfl; exact rfl)
    | (apply WD.skgl0; exact rfl; exact rfl)
    | (apply WD.k_move; exact rfl; (apply YO.move; exact rfl); exact rfl; exact rfl)
    | (apply WD.k_assign; exact rfl; (apply YO.assign; exact rfl); exact rfl; exact rfl)
    | (apply WD.k_lss; exact rfl; exact y_lss; exact rfl; exact rfl)
    | (apply WD.k_add; exact rfl; exact y_add; exact rfl; exact rfl)
    | (apply WD.k_len; exact rfl; exact y_len; exact rfl; exact rfl)
    | (apply WD.k_indexAddr; exact rfl; exact y_indexAddr; exact rfl; exact rfl)
    | (apply WD.k_load; exact rfl; exact y_load; exact rfl; exact rfl)
    | (apply WD.k_pick; exact rfl; exact y_pick; exact rfl; exact rfl)
    | (apply WD.k_fieldAddr; exact rfl; exact y_fieldAddr; exact rfl; exact rfl)
    | (apply WD.k_eql; exact rfl; exact y_eql; exact rfl; exact rfl)
    | (apply WD.k_neq; exact rfl; exact y_neq; exact rfl; exact rfl)
    | (apply WD.k_nil; exact rfl; (apply YO.nil; exact rfl); exact rfl; exact rfl)
    | (apply WD.k_extract; exact rfl; (apply YO.extract; exact rfl; exact rfl); exact rfl; exact rfl)
    | (apply WD.k_gtr; exact rfl; exact y_gtr; exact rfl; exact rfl)
    | (apply WD.k_geq; exact rfl; exact y_geq; exact rfl; exact rfl)
    | (apply WD.k_leq; exact rfl; exact y_leq; exact rfl; exact rfl)
    | (apply WD.k_sub; exact rfl; (apply YO.sub; exact rfl; exact rfl; omega; omega); exact rfl; exact rfl)
    | (apply WD.k_mul; exact rfl; exact y_mul; exact rfl; exact rfl)
    | (apply WD.k_rem; exact rfl; exact y_rem; exact rfl; exact rfl)
    | (apply WD.k_quo; exact rfl; exact y_quo; exact rfl; exact rfl)
    | (apply WD.k_unot; exact rfl; exact y_unot; exact rfl; exact rfl)
    | (apply WD.k_uneg; exact rfl; exact y_uneg; exact rfl; exact rfl)
    | (apply WD.k_max; exact rfl; (apply YO.max; exact rfl; exact rfl); exact rfl; exact rfl)
    | (apply WD.k_min; exact rfl; (apply YO.min; exact rfl; exact rfl); exact rfl; exact rfl)
    | (apply WD.k_makeFunc; exact rfl; exact y_makeFunc; exact rfl; exact rfl)
    | (apply WD.k_conv; exact rfl; exact y_conv; exact rfl; exact rfl)
    | (apply WD.k_shl; exact rfl; exact y_shl; exact rfl; exact rfl)
    | (apply WD.k_shr; exact rfl; (apply YO.shr'; exact rfl; exact rfl; omega; omega); exact rfl; exact rfl)
    | (apply WD.k_and; exact rfl; exact y_and; exact rfl; exact rfl)
    | (apply WD.k_or; exact rfl; exact y_or; exact rfl; exact rfl)
    | (apply WD.k_andNot; exact rfl; (apply YO.anot; exact rfl; exact rfl); exact rfl; exact rfl)
    | (apply WD.k_slice; exact rfl; exact y_slice; exact rfl; exact rfl)
    | (apply WD.k_build; exact rfl; exact y_build; exact rfl; exact rfl)
    | (apply WD.kl_store; exact rfl; rotate_left; exact rfl; (first | (apply LO.storeOI; exact rfl; exact rfl; exact t2A; exact seA; (first | omega | (simp only [List.length_set]; omega))) | (apply LO.storeQ; exact rfl; exact rfl; exact t6A; exact hmA; exact seA; omega) | (apply LO.storeL1; exact rfl; exact rfl; exact t6A; exact hmA; exact seA; omega) | (apply LO.storeOT; exact rfl; exact rfl; exact t2A; (first | exact One.lit rfl rfl | (apply One.sl; exact knA)); exact seA; omega) | (apply LO.storeB2; exact rfl; exact rfl; exact t6A; exact hmA; exact seA) | (apply LO.storeBf; exact rfl; exact rfl; exact t2A; exact seA; omega) | (apply LO.storeBt; exact rfl; exact rfl; exact t2A; exact seA; omega) | (apply LO.storeBq; exact rfl; exact rfl; exact t6A; exact hmA; exact seA; omega) | (apply LO.storeI; exact rfl; exact rfl; exact t2A; exact seA; (first | omega | (simp only [List.length_set, List.length_replicate]; omega))) | (apply LO.storeWI; exact rfl; exact rfl; exact seA; exact t6A; (first | omega | (simp only [List.length_set, List.length_replicate]; omega)); (first | (simp only [List.length_map, List.length_set, List.length_replicate, ints]; omega) | rfl)) | (apply LO.store1; exact rfl; exact rfl; exact t2A; (first | exact One.lit rfl rfl | (apply One.sl; exact knA)); exact seA; (first | (simp only [List.length_cons, List.length_nil]; omega) | (simp; omega)); (first | (simp only [List.set_cons_succ, List.set_cons_zero]; exact rfl) | exact rfl)) | (apply LO.storeO1; exact rfl; exact rfl; exact t2A; (first | exact One.lit rfl rfl | (apply One.sl; exact knA)); exact seA; (first | (simp only [List.length_cons, List.length_nil]; omega) | (simp; omega)); (first | (simp only [List.set_cons_succ, List.set_cons_zero]; exact rfl) | exact rfl)) | (apply LO.storeL; exact rfl; exact rfl; exact seA; exact t6A; exact rfl; exact rfl; (repeat (first | exact OneL.nil | (apply OneL.cons; (first | exact One.lit rfl rfl | (apply One.sl; exact knA))))))); constructor; exact ltA))
  exact Bx.h h) : G := s ⟨h⟩
theorem goG {G G' : Prop} (h : G') (s : Bx G' → G := by
  intro h
  (first
    | (apply WL.kl_alloc; rotate_left; exact rfl; exact rfl; apply LO.alloc'; (first | exact t0A))
    | (apply WL.kl_box; rotate_left; exact rfl; exact rfl; (first | (apply LO.boxA; exact rfl) | (apply LO.box1; exact rfl; (first | exact One.lit rfl rfl | (apply One.sl; exact knA))))))
  exact Bx.h h) : G := s ⟨h⟩
theorem goV {G G' : Prop} (h : G') (s : Bx G' → G := by
  intro h
  (first
    | (apply WL.kl_ms; rotate_left; exact rfl; exact rfl; (apply LO.makeI; exact rfl; exact rfl; (repeat (first | (with_reducible apply NatI.add) | (with_reducible exact NatI.one) | exact NatI.cast _)); omega))
    | (apply WL.kl_ms; rotate_left; exact rfl; exact rfl; (apply LO.makeR; exact rfl; exact rfl; (repeat (first | (with_reducible apply NatI.add) | (with_reducible exact NatI.one) | exact NatI.cast _)); omega))
    | (apply WL.kl_ms; rotate_left; exact rfl; exact rfl; (apply LO.makeLn; exact rfl; exact rfl; (repeat (first | (with_reducible apply NatI.add) | (with_reducible exact NatI.one) | exact NatI.cast _)); omega))
    | (apply WL.kl_ms; rotate_left; exact rfl; exact rfl; (apply LO.makeTT; exact rfl; exact rfl; (repeat (first | (with_reducible apply NatI.add) | (with_reducible exact NatI.one) | exact NatI.cast _)); omega))
    | (apply WL.kl_bs; rotate_left; exact rfl; exact rfl; (apply LO.bsR0))
    | (apply WL.kl_bs; rotate_left; exact rfl; exact rfl; (apply LO.bsB0))
    | (apply WL.kl_bs; rotate_left; exact rfl; exact rfl; (apply LO.bsR1; exact rfl))
    | (apply WL.kl_bs; rotate_left; exact rfl; exact rfl; (apply LO.bsB1; exact rfl))
    | (apply WL.kl_bs; rotate_left; exact rfl; exact rfl; (apply LO.bsT1; exact rfl; exact knA))
    | (apply WL.kl_app; rotate_left; exact rfl; exact rfl; (apply LO.appTT; exact rfl; exact rfl; exact meA; (apply One.sl; exact knA); (intro _; exact seA); omega))
    | (apply WL.kl_app; rotate_left; exact rfl; exact rfl; (apply LO.appRo; exact rfl; exact rfl; exact meA; exact hmA; omega; (intro _; exact seA); omega))
    | (apply WL.kl_app; rotate_left; exact rfl; exact rfl; (apply LO.appBf; exact rfl; exact rfl; exact hmA; (intro _; exact seA); omega))
    | (apply WL.kl_app; rotate_left; exact rfl; exact rfl; (apply LO.appR1; exact rfl; exact rfl; exact meA; exact hmA; (intro _; exact seA); omega))
    | (apply WL.kl_app; rotate_left; exact rfl; exact rfl; (apply LO.appB1; exact rfl; exact rfl; exact meA; exact hmA; (intro _; exact seA); omega))
    | (apply WL.kl_app; rotate_left; exact rfl; exact rfl; (apply LO.appT1; exact rfl; exact rfl; exact meA; (first | exact One.lit rfl rfl | (apply One.sl; exact knA)); (intro _; exact seA); (simp only [List.length_append, List.length_cons, List.length_nil, List.length_map, List.length_range]; omega)))
    | (apply WL.kl_bs; rotate_left; exact rfl; exact rfl; apply LO.bs1; exact t5A; (repeat (first | exact EvP.nil | (apply EvP.cons; exact rfl))); (intro _; kernel_rfl); exact rfl; omega)
    | (apply WL.kl_app; rotate_left; exact rfl; exact rfl; apply LO.app; exact t4A; exact rfl; exact rfl; (first | (focus (apply SrcE.ints; exact hmA; done)) | (focus (apply SrcE.own1; exact meA; done)) | (focus (apply SrcE.one; exact meA; exact rfl; decide; done))); (intro v; exact seA); exact onA; exact leA; exact leA))
  exact Bx.h h) : G := s ⟨h⟩
theorem goDG {G G' : Prop} (h : G') (s : Bx G' → G := by
  intro h
  (first
    | (apply WD.kl_alloc; exact rfl; rotate_left; exact rfl; exact rfl; apply LO.alloc'; (first | exact t0A); apply allAnd; (intro _; exact ltA))
    | (apply WD.kl_box; exact rfl; rotate_left; exact rfl; exact rfl; (first | (apply LO.boxA; exact rfl) | (apply LO.box1; exact rfl; (first | exact One.lit rfl rfl | (apply One.sl; exact knA)))); apply allAnd; (intro _; exact ltA)))
  exact Bx.h h) : G := s ⟨h⟩
theorem goDV {G G' : Prop} (h : G') (s : Bx G' → G := by
  intro h
  (first
    | (apply WD.kl_ms; exact rfl; rotate_left; exact rfl; exact rfl; (apply LO.makeI; exact rfl; exact rfl; (repeat (first | (with_reducible apply NatI.add) | (with_reducible exact NatI.one) | exact NatI.cast _)); omega); apply allAnd; (intro _; exact ltA))
    | (apply WD.kl_ms; exact rfl; rotate_left; exact rfl; exact rfl; (apply LO.makeR; exact rfl; exact rfl; (repeat (first | (with_reducible apply NatI.add) | (with_reducible exact NatI.one) | exact NatI.cast _)); omega); apply allAnd; (intro _; exact ltA))
    | (apply WD.kl_ms; exact rfl; rotate_left; exact rfl; exact rfl; (apply LO.makeLn; exact rfl; exact rfl; (repeat (first | (with_reducible apply NatI.add) | (with_reducible exact NatI.one) | exact NatI.cast _)); omega); apply allAnd; (intro _; exact ltA))
    | (apply WD.kl_ms; exact rfl; rotate_left; exact rfl; exact rfl; (apply LO.makeTT; exact rfl; exact rfl; (repeat (first | (with_reducible apply NatI.add) | (with_reducible exact NatI.one) | exact NatI.cast _)); omega); apply allAnd; (intro _; exact ltA))
    | (apply WD.kl_bs; exact rfl; rotate_left; exact rfl; exact rfl; (apply LO.bsR0); apply allAnd; (intro _; exact ltA))
    | (apply WD.kl_bs; exact rfl; rotate_left; exact rfl; exact rfl; (apply LO.bsB0); apply allAnd; (intro _; exact ltA))
    | (apply WD.kl_bs; exact rfl; rotate_left; exact rfl; exact rfl; (apply LO.bsR1; exact rfl); apply allAnd; (intro _; exact ltA))
    | (apply WD.kl_bs; exact rfl; rotate_left; exact rfl; exact rfl; (apply LO.bsB1; exact rfl); apply allAnd; (intro _; exact ltA))
    | (apply WD.kl_bs; exact rfl; rotate_left; exact rfl; exact rfl; (apply LO.bsT1; exact rfl; exact knA); apply allAnd; (intro _; exact ltA))
    | (apply WD.kl_app; exact rfl; rotate_left; exact rfl; exact rfl; (apply LO.appTT; exact rfl; exact rfl; exact meA; (apply One.sl; exact knA); (intro _; exact seA); omega); apply allAnd; (intro _; exact ltA))
    | (apply WD.kl_app; exact rfl; rotate_left; exact rfl; exact rfl; (apply LO.appRo; exact rfl; exact rfl; exact meA; exact hmA; omega; (intro _; exact seA); omega); apply allAnd; (intro _; exact ltA))
    | (apply WD.kl_app; exact rfl; rotate_left; exact rfl; exact rfl; (apply LO.appBf; exact rfl; exact rfl; exact hmA; (intro _; exact seA); omega); apply allAnd; (intro _; exact ltA))
    | (apply WD.kl_app; exact rfl; rotate_left; exact rfl; exact rfl; (apply LO.appR1; exact rfl; exact rfl; exact meA; exact hmA; (intro _; exact seA); omega); apply allAnd; (intro _; exact ltA))
    | (apply WD.kl_app; exact rfl; rotate_left; exact rfl; exact rfl; (apply LO.appB1; exact rfl; exact rfl; exact meA; exact hmA; (intro _; exact seA); omega); apply allAnd; (intro _; exact ltA))
    | (apply WD.kl_app; exact rfl; rotate_left; exact rfl; exact rfl; (apply LO.appT1; exact rfl; exact rfl; exact meA; (first | exact One.lit rfl rfl | (apply One.sl; exact knA)); (intro _; exact seA); (simp only [List.length_append, List.length_cons, List.length_nil, List.length_map, List.length_range]; omega)); apply allAnd; (intro _; exact ltA))
    | (apply WD.kl_bs; exact rfl; rotate_left; exact rfl; exact rfl; apply LO.bs1; exact t5A; (repeat (first | exact EvP.nil | (apply EvP.cons; exact rfl))); (intro _; kernel_rfl); exact rfl; omega; apply allAnd; (intro _; exact ltA))
    | (apply WD.kl_app; exact rfl; rotate_left; exact rfl; exact rfl; apply LO.app; exact t4A; exact rfl; exact rfl; (first | (focus (apply SrcE.ints; exact hmA; done)) | (focus (apply SrcE.own1; exact meA; done)) | (focus (apply SrcE.one; exact meA; exact rfl; decide; done))); (intro v; exact seA); exact onA; exact leA; exact leA; apply allAnd; (intro _; exact ltA)))
  exact Bx.h h) : G := s ⟨h⟩
theorem goLG {G G' : Prop} (h : G') (s : Bx G' → G := by
  intro h
  (first
    | (apply LO.alloc'; (first | exact t0A); apply allAnd; (intro _; exact ltA))
    | ((first | (apply LO.boxA; exact rfl) | (apply LO.box1; exact rfl; (first | exact One.lit rfl rfl | (apply One.sl; exact knA)))); apply allAnd; (intro _; exact ltA)))
  exact Bx.h h) : G := s ⟨h⟩
theorem goLV {G G' : Prop} (h : G') (s : Bx G' → G := by
  intro h
  (first
    | (apply LO.bs1; exact t5A; (repeat (first | exact EvP.nil | (apply EvP.cons; exact rfl))); (intro _; kernel_rfl); exact rfl; omega; apply allAnd; (intro _; exact ltA))
    | (apply LO.app; exact t4A; exact rfl; exact rfl; (first | (focus (apply SrcE.ints; exact hmA; done)) | (focus (apply SrcE.own1; exact meA; done)) | (focus (apply SrcE.one; exact meA; exact rfl; decide; done))); (intro v; exact seA); exact onA; exact leA; exact leA; apply allAnd; (intro _; exact ltA))
    | ((apply LO.makeI; exact rfl; exact rfl; (repeat (first | (with_reducible apply NatI.add) | (with_reducible exact NatI.one) | exact NatI.cast _)); omega); apply allAnd; (intro _; exact ltA))
    | ((apply LO.makeR; exact rfl; exact rfl; (repeat (first | (with_reducible apply NatI.add) | (with_reducible exact NatI.one) | exact NatI.cast _)); omega); apply allAnd; (intro _; exact ltA))
    | ((apply LO.makeLn; exact rfl; exact rfl; (repeat (first | (with_reducible apply NatI.add) | (with_reducible exact NatI.one) | exact NatI.cast _)); omega); apply allAnd; (intro _; exact ltA))
    | ((apply LO.makeTT; exact rfl; exact rfl; (repeat (first | (with_reducible apply NatI.add) | (with_reducible exact NatI.one) | exact NatI.cast _)); omega); apply allAnd; (intro _; exact ltA))
    | ((apply LO.bsR0); apply allAnd; (intro _; exact ltA))
    | ((apply LO.bsB0); apply allAnd; (intro _; exact ltA))
    | ((apply LO.bsR1; exact rfl); apply allAnd; (intro _; exact ltA))
    | ((apply LO.bsB1; exact rfl); apply allAnd; (intro _; exact ltA))
    | ((apply LO.bsT1; exact rfl; exact knA); apply allAnd; (intro _; exact ltA))
    | ((apply LO.appTT; exact rfl; exact rfl; exact meA; (apply One.sl; exact knA); (intro _; exact seA); omega); apply allAnd; (intro _; exact ltA))
    | ((apply LO.appRo; exact rfl; exact rfl; exact meA; exact hmA; omega; (intro _; exact seA); omega); apply allAnd; (intro _; exact ltA))
    | ((apply LO.appBf; exact rfl; exact rfl; exact hmA; (intro _; exact seA); omega); apply allAnd; (intro _; exact ltA))
    | ((apply LO.appR1; exact rfl; exact rfl; exact meA; exact hmA; (intro _; exact seA); omega); apply allAnd; (intro _; exact ltA))
    | ((apply LO.appB1; exact rfl; exact rfl; exact meA; exact hmA; (intro _; exact seA); omega); apply allAnd; (intro _; exact ltA))
    | ((apply LO.appT1; exact rfl; exact rfl; exact meA; (first | exact One.lit rfl rfl | (apply One.sl; exact knA)); (intro _; exact seA); (simp only [List.length_append, List.length_cons, List.length_nil, List.length_map, List.length_range]; omega)); apply allAnd; (intro _; exact ltA)))
  exact Bx.h h) : G := s ⟨h⟩
theorem goLS {G G' : Prop} (h : G') (s : Bx G' → G := by
  intro h
  (first
    | ((first | (apply LO.storeOI; exact rfl; exact rfl; exact t2A; exact seA; (first | omega | (simp only [List.length_set]; omega))) | (apply LO.storeQ; exact rfl; exact rfl; exact t6A; exact hmA; exact seA; omega) | (apply LO.storeL1; exact rfl; exact rfl; exact t6A; exact hmA; exact seA; omega) | (apply LO.storeOT; exact rfl; exact rfl; exact t2A; (first | exact One.lit rfl rfl | (apply One.sl; exact knA)); exact seA; omega) | (apply LO.storeB2; exact rfl; exact rfl; exact t6A; exact hmA; exact seA) | (apply LO.storeBf; exact rfl; exact rfl; exact t2A; exact seA; omega) | (apply LO.storeBt; exact rfl; exact rfl; exact t2A; exact seA; omega) | (apply LO.storeBq; exact rfl; exact rfl; exact t6A; exact hmA; exact seA; omega) | (apply LO.storeI; exact rfl; exact rfl; exact t2A; exact seA; (first | omega | (simp only [List.length_set, List.length_replicate]; omega))) | (apply LO.storeWI; exact rfl; exact rfl; exact seA; exact t6A; (first | omega | (simp only [List.length_set, List.length_replicate]; omega)); (first | (simp only [List.length_map, List.length_set, List.length_replicate, ints]; omega) | rfl)) | (apply LO.store1; exact rfl; exact rfl; exact t2A; (first | exact One.lit rfl rfl | (apply One.sl; exact knA)); exact seA; (first | (simp only [List.length_cons, List.length_nil]; omega) | (simp; omega)); (first | (simp only [List.set_cons_succ, List.set_cons_zero]; exact rfl) | exact rfl)) | (apply LO.storeO1; exact rfl; exact rfl; exact t2A; (first | exact One.lit rfl rfl | (apply One.sl; exact knA)); exact seA; (first | (simp only [List.length_cons, List.length_nil]; omega) | (simp; omega)); (first | (simp only [List.set_cons_succ, List.set_cons_zero]; exact rfl) | exact rfl)) | (apply LO.storeL; exact rfl; exact rfl; exact seA; exact t6A; exact rfl; exact rfl; (repeat (first | exact OneL.nil | (apply OneL.cons; (first | exact One.lit rfl rfl | (apply One.sl; exact knA))))))); constructor; exact ltA))
  exact Bx.h h) : G := s ⟨h⟩
theorem goYL {G G' : Prop} (h : G') (s : Bx G' → G := by
  intro h
  (apply WD.fy; exact rfl; (first | (apply YO.move; exact rfl) | (apply YO.assign; exact rfl) | exact y_lss | exact y_add | exact y_len | exact y_indexAddr | exact y_load | exact y_pick | exact y_fieldAddr | exact y_eql | exact y_neq | (apply YO.nil; exact rfl) | (apply YO.extract; exact rfl; exact rfl) | exact y_gtr | exact y_geq | exact y_leq | (apply YO.sub; exact rfl; exact rfl; omega; omega) | exact y_mul | exact y_rem | exact y_quo | exact y_unot | exact y_uneg | (apply YO.max; exact rfl; exact rfl) | (apply YO.min; exact rfl; exact rfl) | exact y_makeFunc | exact y_conv | exact y_shl | (apply YO.shr'; exact rfl; exact rfl; omega; omega) | exact y_and | exact y_or | (apply YO.anot; exact rfl; exact rfl) | exact y_slice); exact rfl; exact rfl)
  exact Bx.h h) : G := s ⟨h⟩
theorem goYT {G G' : Prop} (h : G') (s : Bx G' → G := by
  intro h
  (apply WD.yl; exact rfl; (first | (apply YO.move; exact rfl) | (apply YO.assign; exact rfl) | exact y_lss | exact y_add | exact y_len | exact y_indexAddr | exact y_load | exact y_pick | exact y_fieldAddr | exact y_eql | exact y_neq | (apply YO.nil; exact rfl) | (apply YO.extract; exact rfl; exact rfl) | exact y_gtr | exact y_geq | exact y_leq | (apply YO.sub; exact rfl; exact rfl; omega; omega) | exact y_mul | exact y_rem | exact y_quo | exact y_unot | exact y_uneg | (apply YO.max; exact rfl; exact rfl) | (apply YO.min; exact rfl; exact rfl) | exact y_makeFunc | exact y_conv | exact y_shl | (apply YO.shr'; exact rfl; exact rfl; omega; omega) | exact y_and | exact y_or | (apply YO.anot; exact rfl; exact rfl) | exact y_slice); exact rfl; exact rfl)
  exact Bx.h h) : G := s ⟨h⟩
end I
end Go.Proofs.YthggloiigkbfeaaGreat
namespace Go.Proofs.YthggloiigkbfeaaGreat
open W Go.RowKit
def I64 (n : Int) : Prop := -9223372036854775808 ≤ n ∧ n ≤ 9223372036854775807
def around (n m : Int) : Int := (if n < 0 then -(n+1) else n) % m
theorem around_lt {n m : Int} (hm : 0 < m) : 0 ≤ around n m ∧ around n m < m := ⟨Int.emod_nonneg _ (by omega), Int.emod_lt_of_pos _ hm⟩
theorem getD_i64 {l : List Int} (hl : ∀ x ∈ l, I64 x) (k : Nat) : I64 (l.getD k 0) := by
  rw [List.getD_eq_getElem?_getD]
  cases h : l[k]? with
  | none => simp [I64]
  | some x => simpa using hl x (List.mem_of_getElem? h)
def atP (l : List Int) (i m : Int) : Int := if i < 0 ∨ (l.length : Int) ≤ i then 0 else around (l.getD i.toNat 0) m
theorem atP_lt {l : List Int} {i m : Int} (hm : 0 < m) : 0 ≤ atP l i m ∧ atP l i m < m := by
  unfold atP; split
  · omega
  · exact around_lt hm
theorem same_all {l m : List Int} (hl : l.length = m.length) (h : ∀ j, j < l.length → l.getD j 0 = m.getD j 0) : l = m := by
  apply List.ext_getElem hl
  intro i h1 h2
  have := h i h1
  simpa [List.getD_eq_getElem?_getD, h1, h2] using this
namespace I
open G H
attribute [local irreducible] WC WL WD YO LO LoopEnd W.Fin Scalar SliceT FieldAt Row ArrT AllocT KnS Has W.One SrcE IntT
theorem d28 {G G' : Prop} (h : G') (s : Bx G' → G := by
  intro h
  first | (apply WC.draw (id := 6) [0, 1, 2, 3, 4, 5, 6, 7, 8] (.held 0 (.held 1 (.held 2 (.held 3 (.held 4 (.held 5 (.held 6 (.held 7 (.held 8 (.done)))))))))) mixed (by kernel_rfl)) | fail
  exact Bx.h h) : G := s ⟨h⟩
set_option maxHeartbeats 4000000 in
set_option maxRecDepth 60000 in
theorem around_c (n m : Int) (hn : I64 n) (hm : 0 < m) : FnB Tryz.prog 30 [.int .i64 n, .int .i64 m] [] [] (IsV (.int .i64 (around n m))) := by
  obtain ⟨hn, hn2⟩ := hn
  refine fn_of [(0, (.int .i64 n)), (1, (.int .i64 m))] 13 Tryz.func30 rfl Tryz.ntmps30 (by kernel_rfl) rfl suA fun h0 => ?_
  by_cases h : n < 0
  · repeat' (first | refine go ?_ | refine goX ?_ | refine goB ?_ | (refine goG ?_; intro g) | (refine goV ?_; intro v))
    exact WC.ret (Fin.v (ResE.t1 rfl rfl) meA (by simp [around, h]))
  · repeat' (first | refine go ?_ | refine goX ?_ | refine goB ?_ | (refine goG ?_; intro g) | (refine goV ?_; intro v))
    exact WC.ret (Fin.v (ResE.t1 rfl rfl) meA (by simp [around, h]))
set_option maxHeartbeats 4000000 in
set_option maxRecDepth 60000 in
theorem at_c (v : Value) (l : List Int) (i m : Int) (hl : ∀ x ∈ l, I64 x) (hm : 0 < m) : FnB Tryz.prog 35 [v, .int .i64 i, .int .i64 m] [] [sI v l] (IsV (.int .i64 (atP l i m))) := by
  refine fn_of [(0, v), (1, (.int .i64 i)), (2, (.int .i64 m))] 21 Tryz.func35 rfl Tryz.ntmps35 (by kernel_rfl) rfl suA fun h0 => ?_
  refine WC.lenI v l hmA fun hlen => ?_
  by_cases h : i < 0
  · repeat' (first | refine go ?_ | refine goX ?_ | refine goB ?_ | (refine goG ?_; intro g) | (refine goV ?_; intro v))
    exact WC.ret (Fin.v (ResE.t1 rfl rfl) meA (by simp [atP, h]))
  by_cases h2 : (l.length : Int) ≤ i
  · repeat' (first | refine go ?_ | refine goX ?_ | refine goB ?_ | (refine goG ?_; intro g) | (refine goV ?_; intro v))
    exact WC.ret (Fin.v (ResE.t1 rfl rfl) meA (by simp [atP, h2]))
  · repeat' (first | refine go ?_ | refine goX ?_ | refine goB ?_ | (refine goG ?_; intro g) | (refine goV ?_; intro v))
    first | refine WL.callV (around_c _ _ (getD_i64 hl _) hm) ?_ | refine WD.callV (around_c _ _ (getD_i64 hl _) hm) ?_
    repeat' (first | refine go ?_ | refine goX ?_ | refine goB ?_ | (refine goG ?_; intro g) | (refine goV ?_; intro v))
    exact WC.ret (Fin.v (ResE.t1 rfl rfl) meA (by simp [atP, h, h2]))
set_option maxHeartbeats 4000000 in
set_option maxRecDepth 60000 in
theorem take_c (v : Value) (l : List Int) (m : Nat) (hm2 : m ≤ 100) : FnB Tryz.prog 31 [v, .int .i64 m] [] [sI v l] (IsO 3 1 (ints (l.take m))) := by
  refine fn_of [(0, v), (1, (.int .i64 m))] 14 Tryz.func31 rfl Tryz.ntmps31 (by kernel_rfl) rfl suA fun h0 => ?_
  refine WC.addNil 3 1 ?_
  refine WC.lenI v l hmA fun hlen => ?_
  repeat' (first | refine go ?_ | refine goX ?_ | refine goB ?_ | (refine goG ?_; intro g) | (refine goV ?_; intro v))
  have hmin : (min (l.length : Int) (m : Int)) = ((min l.length m : Nat) : Int) := by omega
  rw [hmin]
  refine WL.y (YO.slice (a := 0) (b := min l.length m) T.s22 rfl (KnS.f hmA) (.inl ⟨rfl, rfl⟩) (.inr ⟨_, rfl, rfl⟩) (by omega) (by omega)) rfl rfl ?_
  have hs := fun F (h : Has F (sI v l)) => Has.takeI h (Nat.min_le_left l.length m)
  refine WL.l rfl rfl (LO.app T.e22 rfl rfl (SrcE.ints (hs _ hmA)) (by intro v; repeat (first | exact Sel.head | apply Sel.tail)) (ints_one _) (by simp only [List.length_map, List.length_take, List.length_nil]; omega) (by simp only [List.length_map, List.length_take, List.length_nil]; omega) fun v' => ?_)
  repeat' (first | refine go ?_ | refine goX ?_ | refine goB ?_ | (refine goG ?_; intro g) | (refine goV ?_; intro v))
  exact WC.ret (Fin.o (ResE.t1 rfl rfl) meA meA (by rw [show l.take (min l.length m) = l.take m from by rw [List.take_eq_take_iff]; omega]; rfl))
set_option maxHeartbeats 4000000 in
set_option maxRecDepth 60000 in
theorem sameInts_c (v u : Value) (l m : List Int) : FnB Tryz.prog 28 [v, u] [] [sI v l, sI u m] (IsV (.bool (decide (l = m)))) := by
  refine fn_of [(0, v), (1, u)] 26 Tryz.func28 rfl Tryz.ntmps28 (by kernel_rfl) rfl suA fun h0 => ?_
  refine WC.lenI v l hmA fun hlen => ?_
  by_cases hl : l.length = m.length
  · repeat' (first | refine go ?_ | refine goX ?_ | refine goB ?_ | (refine goG ?_; intro g) | (refine goV ?_; intro v) | refine goD ?_ | refine goXD ?_ | (refine goDG ?_; intro g) | (refine goDV ?_; intro v) | refine d28 ?_ | fail)
    refine WC.lp (σ := Nat) (fun k => [(5, .int .i64 (k : Int)), (0, v), (1, u)]) (fun _ => []) (fun _ => [ge h0, sI v l, sI u m]) (fun k => k ≤ l.length ∧ ∀ j, j < k → l.getD j 0 = m.getD j 0) (fun k => l.length - k) 0 ⟨Nat.zero_le _, fun j h => by omega⟩ ?_
    rintro k ⟨hk, hn⟩
    by_cases hlt : k < l.length
    · by_cases he : l.getD k 0 = m.getD k 0
      · repeat' (first | refine go ?_ | refine goX ?_ | refine goB ?_ | (refine goG ?_; intro g) | (refine goV ?_; intro v) | refine goD ?_ | refine goXD ?_ | (refine goDG ?_; intro g) | (refine goDV ?_; intro v) | refine d28 ?_ | fail)
        refine LoopEnd.mk (k + 1) ⟨by omega, fun j hj => ?_⟩ (by show l.length - (k + 1) < l.length - k; omega)
        by_cases hjk : j = k
        · subst hjk; exact he
        · exact hn j (by omega)
      · repeat' (first | refine go ?_ | refine goX ?_ | refine goB ?_ | (refine goG ?_; intro g) | (refine goV ?_; intro v) | refine goD ?_ | refine goXD ?_ | (refine goDG ?_; intro g) | (refine goDV ?_; intro v) | refine d28 ?_ | fail)
        exact WC.ret (Fin.v (ResE.t1 rfl rfl) meA (by rw [decide_eq_false]; rintro rfl; exact he rfl))
    · repeat' (first | refine go ?_ | refine goX ?_ | refine goB ?_ | (refine goG ?_; intro g) | (refine goV ?_; intro v) | refine goD ?_ | refine goXD ?_ | (refine goDG ?_; intro g) | (refine goDV ?_; intro v) | refine d28 ?_ | fail)
      exact WC.ret (Fin.v (ResE.t1 rfl rfl) meA (by rw [decide_eq_true]; exact same_all hl (fun j hj => hn j (by omega))))
  · have hl' : (l.length : Int) ≠ m.length := by omega
    repeat' (first | refine go ?_ | refine goX ?_ | refine goB ?_ | (refine goG ?_; intro g) | (refine goV ?_; intro v) | refine goD ?_ | refine goXD ?_ | (refine goDG ?_; intro g) | (refine goDV ?_; intro v) | refine d28 ?_ | fail)
    exact WC.ret (Fin.v (ResE.t1 rfl rfl) meA (by rw [decide_eq_false]; rintro rfl; exact hl rfl))
end I
end Go.Proofs.YthggloiigkbfeaaGreat
namespace Go.Proofs.YthggloiigkbfeaaGreat
open Go.RowKit Go.Maps Go.Sort Go.Shelf
def laySorted_ren : Go.Shelf.Ren := ⟨fun | 6 => 89 | 8 => 137 | 9 => 138 | 11 => 155 | 13 => 157 | 12 => 156 | 23 => 178 | 24 => 179 | 14 => 169 | 15 => 170 | 16 => 171 | 17 => 172 | 18 => 173 | 19 => 174 | 20 => 175 | 21 => 176 | 22 => 177 | 25 => 182 | 26 => 183 | 27 => 184 | 28 => 185 | 29 => 186 | 30 => 166 | 31 => 187 | n => n, fun | 26 => 3 | 28 => 135 | 24 => 22 | 0 => 0 | 3 => 3 | 37 => 73 | 48 => 182 | 50 => 164 | 4 => 4 | 40 => 189 | 39 => 188 | 45 => 176 | 5 => 5 | 9 => 9 | 51 => 195 | 55 => 199 | 57 => 201 | 58 => 202 | 33 => 94 | n => n, fun | n => n⟩
theorem laySorted : SlLaysZI.n6 Tryz.prog laySorted_ren := {
  mixed := by kernel_rfl
  f6 := ⟨Tryz.f89.name, by decide, Tryz.func89.trans (congrArg some (by kernel_rfl))⟩
  f8 := ⟨Tryz.f137.name, by decide, Tryz.func137.trans (congrArg some (by kernel_rfl))⟩
  f11 := ⟨Tryz.f155.name, by decide, Tryz.func155.trans (congrArg some (by kernel_rfl))⟩
  t0 := Tryz.underlying0
  a0 := Tryz.isAgg0
  z0 := Tryz.sizeOf0
  v0 := Tryz.zeroValue0
  t24 := Tryz.underlying22
  a24 := Tryz.isAgg22
  z24 := Tryz.sizeOf22
  v24 := Tryz.zeroValue22
  t26 := Tryz.underlying3
  a26 := Tryz.isAgg3
  z26 := Tryz.sizeOf3
  v26 := Tryz.zeroValue3
  t28 := Tryz.underlying135
  a28 := Tryz.isAgg135
  z28 := Tryz.sizeOf135
  v28 := Tryz.zeroValue135
  i26 := by kernel_rfl }
def laySort_ren : Go.Shelf.Ren := ⟨fun | 5 => 138 | 8 => 157 | 7 => 156 | 19 => 178 | 20 => 179 | 10 => 169 | 11 => 170 | 12 => 171 | 13 => 172 | 14 => 173 | 15 => 174 | 16 => 175 | 17 => 176 | 18 => 177 | 30 => 182 | 31 => 183 | 32 => 184 | 33 => 185 | 34 => 186 | 35 => 166 | 40 => 187 | n => n, fun | 23 => 22 | 25 => 3 | 3 => 3 | 32 => 73 | 22 => 22 | 0 => 0 | 44 => 182 | 46 => 164 | 4 => 4 | 36 => 189 | 35 => 188 | 41 => 176 | 5 => 5 | 9 => 9 | 53 => 195 | 57 => 199 | 63 => 201 | 64 => 202 | n => n, fun | n => n⟩
theorem laySort : SlLaysM.n5 Tryz.prog laySort_ren := {
  mixed := by kernel_rfl
  f5 := ⟨Tryz.f138.name, by decide, Tryz.func138.trans (congrArg some (by kernel_rfl))⟩
  f7 := ⟨Tryz.f156.name, by decide, Tryz.func156.trans (congrArg some (by kernel_rfl))⟩
  f8 := Tryz.func157.trans (congrArg some (by kernel_rfl))
  f10 := ⟨Tryz.f169.name, by decide, Tryz.func169.trans (congrArg some (by kernel_rfl))⟩
  f11 := ⟨Tryz.f170.name, by decide, Tryz.func170.trans (congrArg some (by kernel_rfl))⟩
  f12 := ⟨Tryz.f171.name, by decide, Tryz.func171.trans (congrArg some (by kernel_rfl))⟩
  f13 := ⟨Tryz.f172.name, by decide, Tryz.func172.trans (congrArg some (by kernel_rfl))⟩
  f14 := ⟨Tryz.f173.name, by decide, Tryz.func173.trans (congrArg some (by kernel_rfl))⟩
  f15 := ⟨Tryz.f174.name, by decide, Tryz.func174.trans (congrArg some (by kernel_rfl))⟩
  f16 := ⟨Tryz.f175.name, by decide, Tryz.func175.trans (congrArg some (by kernel_rfl))⟩
  f17 := ⟨Tryz.f176.name, by decide, Tryz.func176.trans (congrArg some (by kernel_rfl))⟩
  f18 := ⟨Tryz.f177.name, by decide, Tryz.func177.trans (congrArg some (by kernel_rfl))⟩
  f19 := Tryz.func178.trans (congrArg some (by kernel_rfl))
  f20 := Tryz.func179.trans (congrArg some (by kernel_rfl))
  f30 := ⟨Tryz.f182.name, by decide, Tryz.func182.trans (congrArg some (by kernel_rfl))⟩
  f31 := Tryz.func183.trans (congrArg some (by kernel_rfl))
  f32 := Tryz.func184.trans (congrArg some (by kernel_rfl))
  f33 := ⟨Tryz.f185.name, by decide, Tryz.func185.trans (congrArg some (by kernel_rfl))⟩
  f34 := ⟨Tryz.f186.name, by decide, Tryz.func186.trans (congrArg some (by kernel_rfl))⟩
  f35 := ⟨Tryz.f166.name, by decide, Tryz.func166.trans (congrArg some (by kernel_rfl))⟩
  f40 := ⟨Tryz.f187.name, by decide, Tryz.func187.trans (congrArg some (by kernel_rfl))⟩
  t0 := Tryz.underlying0
  a0 := Tryz.isAgg0
  z0 := Tryz.sizeOf0
  v0 := Tryz.zeroValue0
  t3 := Tryz.underlying3
  a3 := Tryz.isAgg3
  z3 := Tryz.sizeOf3
  v3 := Tryz.zeroValue3
  t4 := Tryz.underlying4
  a4 := Tryz.isAgg4
  z4 := Tryz.sizeOf4
  v4 := Tryz.zeroValue4
  t5 := Tryz.underlying5
  a5 := Tryz.isAgg5
  z5 := Tryz.sizeOf5
  v5 := Tryz.zeroValue5
  t9 := Tryz.underlying9
  a9 := Tryz.isAgg9
  z9 := Tryz.sizeOf9
  v9 := Tryz.zeroValue9
  t22 := Tryz.underlying22
  a22 := Tryz.isAgg22
  z22 := Tryz.sizeOf22
  v22 := Tryz.zeroValue22
  t23 := Tryz.underlying22
  a23 := Tryz.isAgg22
  z23 := Tryz.sizeOf22
  v23 := Tryz.zeroValue22
  t25 := Tryz.underlying3
  a25 := Tryz.isAgg3
  z25 := Tryz.sizeOf3
  v25 := Tryz.zeroValue3
  t32 := Tryz.underlying73
  a32 := Tryz.isAgg73
  z32 := Tryz.sizeOf73
  v32 := Tryz.zeroValue73
  t35 := Tryz.underlying188
  a35 := Tryz.isAgg188
  z35 := Tryz.sizeOf188
  v35 := Tryz.zeroValue188
  t36 := Tryz.underlying189
  a36 := Tryz.isAgg189
  z36 := Tryz.sizeOf189
  v36 := Tryz.zeroValue189
  t41 := Tryz.underlying176
  a41 := Tryz.isAgg176
  z41 := Tryz.sizeOf176
  v41 := Tryz.zeroValue176
  t44 := Tryz.underlying182
  a44 := Tryz.isAgg182
  z44 := Tryz.sizeOf182
  v44 := Tryz.zeroValue182
  t46 := Tryz.underlying164
  a46 := Tryz.isAgg164
  z46 := Tryz.sizeOf164
  v46 := Tryz.zeroValue164
  t53 := Tryz.underlying195
  a53 := Tryz.isAgg195
  z53 := Tryz.sizeOf195
  v53 := Tryz.zeroValue195
  t57 := Tryz.underlying199
  a57 := Tryz.isAgg199
  z57 := Tryz.sizeOf199
  v57 := Tryz.zeroValue199
  t63 := Tryz.underlying201
  a63 := Tryz.isAgg201
  z63 := Tryz.sizeOf201
  v63 := Tryz.zeroValue201
  t64 := Tryz.underlying202
  a64 := Tryz.isAgg202
  z64 := Tryz.sizeOf202
  v64 := Tryz.zeroValue202 }
section
attribute [local go_sem] Oper.semAt_some
variable {P : Program} {ρ : Ren}
set_option maxRecDepth 100000 in
set_option maxHeartbeats 2000000 in
theorem appendValues_in (L : SlLaysZI.n11 P ρ) (F : Fence) (n : Nat) (h11 : F.fn (ρ.f 11)) (hro : F.round = none) (hn : 2 ≤ n) (g : Nat) (lb : Array Value) (hFg : F.fn g) (eg : ∀ args w, (callFunc g args).run P w = .ok (.enter g args) w)
    (zs : List Int) (hN : zs.length ≤ maxLen) (hNb : zs.length * 8 ≤ 140737488355328) (w : World) (hseq : ∀ (l : Nat) (J : List Int → World → Prop) (W : World), (∀ pre W1, J pre W1 → Below w.heap.size w W1) → (∀ pre x W1, J pre W1 → pre.length < zs.length → YieldAt F (n - 1 - 1) P l #[encZ x] W1 fun e W' => e = .returned (.bool true) ∧ J (pre ++ [x]) W') → J [] W → CallsIn F (n - 1) P g (#[.func (.yield l) #[] #[]] ++ lb) W fun e W' => (∃ v, e = .returned v) ∧ J zs W') :
    CallsIn F n P (ρ.f 11) #[.slice none 0 0, .func (.func g) #[] lb] w fun e w' => ∃ (v : Value), e = .returned v ∧ w'.ownsRow w.heap.size (ρ.t 26) 1 v zs.length (zs.map encZ) ∧ Below w.heap.size w w' := by
  have h1 : 1 ≤ n := by omega
  have mixed := L.mixed; have t0 := L.t0; have a0 := L.a0; have z0 := L.z0; have v0 := L.v0; have t24 := L.t24; have a24 := L.a24; have z24 := L.z24; have v24 := L.v24; have t26 := L.t26; have a26 := L.a26; have z26 := L.z26; have v26 := L.v26; have t28 := L.t28; have a28 := L.a28; have z28 := L.z28; have v28 := L.v28
  have hne : ρ.t 24 ≠ ρ.t 26 := fun e => by have h := L.t24; rw [e, L.t26] at h; cases h
  have u0 := run_underlying L.t0; have u24 := run_underlying L.t24; have u26 := run_underlying L.t26; have u28 := run_underlying L.t28
  obtain ⟨_, _, FG⟩ := L.f11
  refine callsIn_of_wp_marks FG rfl h11 ?_ hro
  simp only [SlBodyZ.n11_ntmps ρ, List.size_toArray, List.length_cons, List.length_nil, Nat.reduceAdd, Nat.reduceSub, Array.replicate_succ, Array.replicate_zero, List.push_toArray, List.append_toArray, List.nil_append, List.cons_append]
  gi_wp2
  refine wpIn_rangeFunc ?_
  intro fn hfn
  rw [hro]
  obtain ⟨W0, hW0⟩ : ∃ W0, w.alloc (.cells #[.slice none 0 0] (ρ.t 24)) = W0 := ⟨_, rfl⟩
  have hs0 : W0.heap.size = w.heap.size + 1 := by rw [← hW0]; simp
  have hv0 : W0.heap[w.heap.size]? = some (.cells #[.slice none 0 0] (ρ.t 24) (0, 0)) := by rw [← hW0]; exact World.alloc_heap_new w _
  have hb0 : Below w.heap.size w W0 := by rw [← hW0]; exact (Below.refl _ w).alloc (Nat.le_refl _) _
  rw [hW0]
  obtain ⟨W1, hW1⟩ : ∃ W1, (W0.alloc (.deferred (some []))).alloc (.loop (AnyZI.apRec ρ fn (.func (.func g) #[] lb) w.heap.size W0.heap.size .ready none)) = W1 := ⟨_, rfl⟩
  have hold : ∀ k, k < W0.heap.size → W1.heap[k]? = W0.heap[k]? := fun k hk => by
    rw [← hW1]; exact (Below.heap_alloc _ _ k (by simp; omega)).trans (Below.heap_alloc _ _ k hk)
  have hb1 : Below w.heap.size w W1 := by rw [← hW1]; exact (hb0.alloc hb0.size _).alloc (by have := hb0.size; simp; omega) _
  have hs1 : W1.heap.size = W0.heap.size + 2 := by rw [← hW1]; simp
  have hM : AnyZI.ApAt ρ w fn (.func (.func g) #[] lb) w.heap.size (W0.heap.size + 1) W0.heap.size [] W1 :=
    ⟨⟨_, (hold w.heap.size (by omega)).trans hv0, ⟨rfl, .inl ⟨rfl, rfl⟩⟩, by simp⟩,
     by rw [← hW1]; have := World.alloc_heap_new (W0.alloc (.deferred (some []))) (.loop (AnyZI.apRec ρ fn (.func (.func g) #[] lb) w.heap.size W0.heap.size .ready none)); rwa [World.size_alloc] at this,
     by rw [← hW1]; exact (Below.heap_alloc _ _ _ (by simp)).trans (World.alloc_heap_new W0 _), hb1⟩
  refine ⟨W0.heap.size + 1, [{ target := .collected W0.heap.size, args := #[] }], W1, { target := .fn (.func g) lb, args := #[.func (.yield (W0.heap.size + 1)) #[] #[]] }, W1, g,
    #[.func (.yield (W0.heap.size + 1)) #[] #[]] ++ lb, W1, ?_, ?_, ?_, ?_, fun _ => h1, ?_⟩
  · rw [← hW1]; exact run_enterLoop_outer _ _ _ _ _
  · simp [resolve, go_sem]
  · intro f' hf'; simp [Target.leads] at hf'; subst hf'; exact hFg
  · simp [invoke, go_sem, eg]
  · refine (hseq (W0.heap.size + 1) (AnyZI.ApAt ρ w fn (.func (.func g) #[] lb) w.heap.size (W0.heap.size + 1) W0.heap.size) W1 (fun pre W1 h => h.below)
      (fun pre x W hJ hl => by
        obtain ⟨fn', tmps, assign, body, hy, hR⟩ := AnyZI.apYield { L with } F (n - 1 - 1) w fn hfn (.func (.func g) #[] lb) w.heap.size (W0.heap.size + 1) W0.heap.size (by omega) (by omega) (by omega) (Nat.le_refl _) (by omega) zs.length hN hNb pre x W hJ hl
        exact ⟨fn', tmps, assign, body, hy, hR.mono fun e W' h => ⟨h.1, h.2.1⟩⟩) hM).mono ?_
    rintro e W2 ⟨⟨v0, rfl⟩, h2⟩
    obtain ⟨v, hv, hrow, hnil⟩ := h2.box
    have hend := run_endLoop (P := P) h2.L (by simp [AnyZI.apRec])
    obtain ⟨W3, hW3⟩ : ∃ W3, W2.putObj (W0.heap.size + 1) (.loop { AnyZI.apRec ρ fn (.func (.func g) #[] lb) w.heap.size W0.heap.size .ready none with state := .exhausted }) = W3 := ⟨_, rfl⟩
    rw [hW3] at hend
    have hg3 : W2.grownBy W3 (some (W0.heap.size + 1)) := by rw [← hW3]; exact grownBy_putObj_a _ _ _
    have hv3 : W3.heap[w.heap.size]? = some (.cells #[v] (ρ.t 24) (0, 0)) := by rw [← hW3]; exact (World.putObj_heap_other (by omega)).trans hv
    have hK3 : W3.heap[W0.heap.size]? = some (.deferred (some [])) := by rw [← hW3]; exact (World.putObj_heap_other (by omega)).trans h2.K
    have hrow3 := hrow.kept hg3 (ownsRow_ne_a hrow h2.L (fun cur e => by first | cases e | exact hne (Obj.cells.inj e).2.1))
    have hb3 : Below w.heap.size w W3 := h2.below.grown hg3 h2.below.size (fun k e => by cases e; omega)
    obtain ⟨hc3, hf3⟩ := cell_of_box_a hv3
    clear hW3
    refine ⟨none, W3, hend, ?_⟩
    gi_wp2
    rw [← hs0]
    refine ⟨by simp, .inl ⟨_, _, rfl, run_takeDeferred hK3, ?_⟩⟩
    exact ⟨_, results_tmp rfl _ _ _, v, rfl, hrow3.kept (grownBy_putObj_a _ _ _) (ownsRow_ne_a hrow3 hK3 (fun cur e => by first | cases e | exact hne (Obj.cells.inj e).2.1)), hb3.grown (grownBy_putObj_a _ _ _) hb3.size (fun k e => by cases e; omega)⟩
def upto {α : Type} (f : Nat → α) (k : Nat) : List α := (List.range k).map f
theorem upto_succ {α : Type} (f : Nat → α) (k : Nat) : upto f (k + 1) = upto f k ++ [f k] := by simp [upto, List.range_succ]
theorem upto_length {α : Type} (f : Nat → α) (k : Nat) : (upto f k).length = k := by simp [upto]
theorem upto_all (zs : List Int) : upto (fun j => zs[j]?.getD 0) zs.length = zs := by
  apply List.ext_getElem
  · simp [upto]
  · intro i h1 h2
    simp [upto, h2]
set_option maxRecDepth 100000 in
set_option maxHeartbeats 2000000 in
/-- slices.Values's closure, at whatever invariant of the rounds under which old memory stands -/
theorem values1_in (F : Fence) (n : Nat) (h7 : F.fn 139) (hro : F.round = none) (hn : 1 ≤ n) (w0 : World) (l Bs n₀ b off len cap : Nat) (zs : List Int) (hreach : len * 8 ≤ 140737488351232) (hb : b < n₀) (hBs0 : Bs < n₀) (J : List Int → World → Prop)
    (hJ : ∀ pre W, J pre W → Below n₀ w0 W)
    (hY : ∀ pre x W, J pre W → pre.length < len → YieldAt F (n - 1) Tryz.prog l #[.int .i64 x] W fun e W' => e = .returned (.bool true) ∧ J (pre ++ [x]) W')
    (W : World) (hBs : w0.cell? ⟨Bs, 0, none⟩ = some (.slice (some ⟨b, off, none⟩) len cap)) (hc : ∀ j, j < len → w0.cell? ⟨b, off + j, none⟩ = some (.int .i64 (zs[j]?.getD 0))) (h0 : J [] W) :
    CallsIn F n Tryz.prog 139 #[.func (.yield l) #[] #[], .pointer (some ⟨Bs, 0, none⟩)] W fun e W' => (∃ v, e = .returned v) ∧ J (upto (fun j => zs[j]?.getD 0) len) W' := by
  have hBs' : W.cell? ⟨Bs, 0, none⟩ = some (.slice (some ⟨b, off, none⟩) len cap) := ((hJ [] W h0).cell (p := ⟨Bs, 0, none⟩) hBs0).trans hBs
  refine callsIn_of_wp Tryz.func139 rfl h7 ?_ hro
  simp only [Tryz.ntmps139, List.size_toArray, List.length_cons, List.length_nil, Nat.reduceAdd, Nat.reduceSub, Array.replicate_succ, Array.replicate_zero, List.push_toArray, List.append_toArray, List.nil_append, List.cons_append]
  gi_wp2
  gi_loopw [7] (fun i wr => ∃ k : Nat, k ≤ len ∧ i = .int .i64 k ∧ J (upto (fun j => zs[j]?.getD 0) k) wr)
    (fun i _ => len - (intOf i).toNat)
  case atStart => exact ⟨0, Nat.zero_le _, rfl, h0⟩
  case round =>
    obtain ⟨k, hk, rfl, hJs⟩ := hrel
    have hcx : k < len → wr.cell? ⟨b, off + k, none⟩ = some (.int .i64 (zs[k]?.getD 0)) := fun h => ((hJ _ _ hJs).cell (p := ⟨b, off + k, none⟩) hb).trans (hc k h)
    by_cases hlt : k < len
    · obtain ⟨fn, tmps, assign, body, hy, hR⟩ := hY _ (zs[k]?.getD 0) wr hJs (by rw [upto_length]; exact hlt)
      have hcx' := hcx hlt
      gi_wp2
      refine hR.mono ?_
      rintro e W3 ⟨rfl, hJ3⟩
      gi_wp2
      go_roundw
      case rel => exact ⟨k + 1, by omega, by simp, by rw [upto_succ]; exact hJ3⟩
      case measure => simp [intOf]; omega
    · obtain rfl : k = len := by omega
      gi_wp2
      go_end0
      exact ⟨⟨_, rfl⟩, hJs⟩
set_option maxRecDepth 100000 in
set_option maxHeartbeats 1000000 in
theorem values1_nil_in (F : Fence) (n : Nat) (h7 : F.fn 139) (hro : F.round = none) (l Bs : Nat) (J : List Int → World → Prop) (W : World) (hBs : W.cell? ⟨Bs, 0, none⟩ = some (.slice none 0 0)) (h0 : J [] W) :
    CallsIn F n Tryz.prog 139 #[.func (.yield l) #[] #[], .pointer (some ⟨Bs, 0, none⟩)] W fun e W' => (∃ v, e = .returned v) ∧ J [] W' := by
  refine callsIn_of_wp Tryz.func139 rfl h7 ?_ hro
  simp only [Tryz.ntmps139, List.size_toArray, List.length_cons, List.length_nil, Nat.reduceAdd, Nat.reduceSub, Array.replicate_succ, Array.replicate_zero, List.push_toArray, List.append_toArray, List.nil_append, List.cons_append]
  gi_wp2
  gi_loopw [7] (fun i wr => i = .int .i64 0 ∧ J [] wr) (fun _ _ => 0)
  case atStart => exact ⟨rfl, h0⟩
  case round =>
    obtain ⟨rfl, hJs⟩ := hrel
    gi_wp2
    go_end0
    exact ⟨⟨_, rfl⟩, hJs⟩
end
end Go.Proofs.YthggloiigkbfeaaGreat
namespace Go.Proofs.YthggloiigkbfeaaGreat
open Go.RowKit Go.Maps Go.Sort Go.Shelf
section
variable {P : Program} {ρ : Ren}
set_option maxRecDepth 100000 in
set_option maxHeartbeats 1000000 in
theorem collectValues_in (L : SlLaysZI.n8 P ρ) (F : Fence) (n : Nat) (h8 : F.fn (ρ.f 8)) (h11 : F.fn (ρ.f 11)) (hro : F.round = none) (hn : 3 ≤ n) (g : Nat) (lb : Array Value) (hFg : F.fn g) (eg : ∀ args w, (callFunc g args).run P w = .ok (.enter g args) w)
    (zs : List Int) (hN : zs.length ≤ maxLen) (hNb : zs.length * 8 ≤ 140737488355328) (w : World) (hseq : ∀ (W0 : World), Below w.heap.size w W0 → ∀ (l : Nat) (J : List Int → World → Prop) (W : World), (∀ pre W1, J pre W1 → Below W0.heap.size W0 W1) → (∀ pre x W1, J pre W1 → pre.length < zs.length → YieldAt F (n - 1 - 1 - 1) P l #[encZ x] W1 fun e W' => e = .returned (.bool true) ∧ J (pre ++ [x]) W') → J [] W → CallsIn F (n - 1 - 1) P g (#[.func (.yield l) #[] #[]] ++ lb) W fun e W' => (∃ v, e = .returned v) ∧ J zs W') :
    CallsIn F n P (ρ.f 8) #[.func (.func g) #[] lb] w fun e w' => ∃ (v : Value), e = .returned v ∧ w'.ownsRow w.heap.size (ρ.t 26) 1 v zs.length (zs.map encZ) ∧ Below w.heap.size w w' := by
  have h1 : 1 ≤ n := by omega
  have e11 : ∀ args w, (callFunc (ρ.f 11) args).run P w = .ok (.enter (ρ.f 11) args) w := L.f11.enters rfl
  have mixed := L.mixed; have t0 := L.t0; have a0 := L.a0; have z0 := L.z0; have v0 := L.v0; have t24 := L.t24; have a24 := L.a24; have z24 := L.z24; have v24 := L.v24; have t26 := L.t26; have a26 := L.a26; have z26 := L.z26; have v26 := L.v26; have t28 := L.t28; have a28 := L.a28; have z28 := L.z28; have v28 := L.v28
  have u0 := run_underlying L.t0; have u24 := run_underlying L.t24; have u26 := run_underlying L.t26; have u28 := run_underlying L.t28
  obtain ⟨_, _, FG⟩ := L.f8
  refine callsIn_of_wp FG rfl h8 ?_ hro
  simp only [SlBodyZ.n8_ntmps ρ, List.size_toArray, List.length_cons, List.length_nil, Nat.reduceAdd, Nat.reduceSub, Array.replicate_succ, Array.replicate_zero, List.push_toArray, List.append_toArray, List.nil_append, List.cons_append]
  gi_wp2_with (gi_at_fn (ρ.f 11); refine (appendValues_in { L with } F (n - 1) h11 hro (by omega) g lb hFg eg zs hN hNb _ (fun l J W => hseq w (Below.refl _ w) l J W)).mono ?_; rintro e w' ⟨v, rfl, hrow, hb⟩)
  go_ret
  exact ⟨v, rfl, hrow, hb⟩
set_option maxRecDepth 100000 in
set_option maxHeartbeats 2000000 in
theorem sortedValues_in (L : SlLaysZI.n6 P ρ) (F : Fence) (n : Nat) (h6 : F.fn (ρ.f 6)) (h8 : F.fn (ρ.f 8)) (h9 : F.fn (ρ.f 9)) (h11 : F.fn (ρ.f 11)) (hro : F.round = none) (hn : 4 ≤ n) (hsort : AnyZI.SortsIn P ρ F (n - 1)) (e9 : ∀ args w, (callFunc (ρ.f 9) args).run P w = .ok (.enter (ρ.f 9) args) w) (g : Nat) (lb : Array Value) (hFg : F.fn g) (eg : ∀ args w, (callFunc g args).run P w = .ok (.enter g args) w)
    (zs : List Int) (hN : zs.length ≤ maxLen) (hNb : zs.length * 8 ≤ 140737488355328) (w : World) (hseq : ∀ (W0 : World), Below w.heap.size w W0 → ∀ (l : Nat) (J : List Int → World → Prop) (W : World), (∀ pre W1, J pre W1 → Below W0.heap.size W0 W1) → (∀ pre x W1, J pre W1 → pre.length < zs.length → YieldAt F (n - 1 - 1 - 1 - 1) P l #[encZ x] W1 fun e W' => e = .returned (.bool true) ∧ J (pre ++ [x]) W') → J [] W → CallsIn F (n - 1 - 1 - 1) P g (#[.func (.yield l) #[] #[]] ++ lb) W fun e W' => (∃ v, e = .returned v) ∧ J zs W') :
    CallsIn F n P (ρ.f 6) #[.func (.func g) #[] lb] w fun e w' => ∃ (v : Value), e = .returned v ∧
      w'.ownsRow w.heap.size (ρ.t 26) 1 v zs.length ((zs.mergeSort (fun x y => decide (x ≤ y))).map encZ) ∧ Below w.heap.size w w' := by
  have h1 : 1 ≤ n := by omega
  have e8 : ∀ args w, (callFunc (ρ.f 8) args).run P w = .ok (.enter (ρ.f 8) args) w := L.f8.enters rfl
  have mixed := L.mixed; have t0 := L.t0; have a0 := L.a0; have z0 := L.z0; have v0 := L.v0; have t24 := L.t24; have a24 := L.a24; have z24 := L.z24; have v24 := L.v24; have t26 := L.t26; have a26 := L.a26; have z26 := L.z26; have v26 := L.v26; have t28 := L.t28; have a28 := L.a28; have z28 := L.z28; have v28 := L.v28
  have u0 := run_underlying L.t0; have u24 := run_underlying L.t24; have u26 := run_underlying L.t26; have u28 := run_underlying L.t28
  obtain ⟨_, _, FG⟩ := L.f6
  refine callsIn_of_wp FG rfl h6 ?_ hro
  simp only [SlBodyZ.n6_ntmps ρ, List.size_toArray, List.length_cons, List.length_nil, Nat.reduceAdd, Nat.reduceSub, Array.replicate_succ, Array.replicate_zero, List.push_toArray, List.append_toArray, List.nil_append, List.cons_append]
  gi_wp2_with (gi_at_fn (ρ.f 8); refine (collectValues_in { L with } F (n - 1) h8 h11 hro (by omega) g lb hFg eg zs hN hNb _ hseq).mono ?_; rintro e W ⟨v, rfl, hrow, hb⟩)
  rcases hrow.2 with ⟨rfl, hz⟩ | ⟨gb, cap, cur, rfl, hbase, hgb, r1, r2, r3, r4⟩
  · -- nothing came: the nil slice is sorted and handed back
    have hss : zs = [] := List.eq_nil_of_length_eq_zero hz
    subst hss
    gi_wp2_with (gi_at_fn (ρ.f 9); refine (hsort.2 none 0 W).mono ?_; rintro e w' ⟨rfl, rfl⟩)
    go_ret
    exact ⟨.slice none 0 0, rfl, by simpa using hrow, hb⟩
  · have hH : Holds encZ W gb 0 zs.toArray := holds_of_block_i hgb (by simpa using r4)
    have hgl : gb < W.heap.size := (Array.getElem?_eq_some_iff.1 hgb).1
    have hsz : zs.length < 4611686018427387904 := by omega
    have cS := hsort.1 gb 0 cap zs W hH hgl hsz
    gi_wp2_with (gi_at_fn (ρ.f 9); refine cS.mono ?_; rintro e w' ⟨rfl, nn, os, rfl⟩)
    go_ret
    exact ⟨_, rfl, ownsRow_sorted_i (by simp) hbase hgb r1 r2 r3, hb.grown (grownBy_sorted_i _) hb.size (fun j hj => by cases hj; exact hbase)⟩
end
theorem laySorts (m : Nat) : AnyZI.SortsIn Tryz.prog laySorted_ren Fence.wide m :=
  ⟨fun blk off cap ss W hH hblk hsz => callsIn_wide.2 (AnyM.slices_Sort_int laySort blk off cap ss W hH hblk hsz),
   fun p cap W => callsIn_wide.2 (AnyM.slices_Sort_int_none laySort p cap W)⟩
/-- sorted -/
def srt (l : List Int) : List Int := l.mergeSort fun x y => decide (x ≤ y)
theorem srt_len (l : List Int) : (srt l).length = l.length := by unfold srt; exact List.length_mergeSort l
open W in
theorem sorted_c (g : Nat) (u : Value) (l : List Int) (hl : l.length ≤ 1000000) : FnB Tryz.prog 89 [.func (.func 139) #[] #[.pointer (some ⟨g, 0, none⟩)]] [] [ce g 22 [u], sI u l] (IsO 3 1 (ints (srt l))) := by
  refine ⟨⟨Tryz.f89, Tryz.func89, by kernel_rfl, by kernel_rfl⟩, fun fr w ho => ?_⟩
  have h1 := imm_heap (ho.facts _ (.head _))
  have h2 := ho.facts (sI u l) (.tail _ (.head _))
  have hgl : g < w.heap.size := (Array.getElem?_eq_some_iff.1 h1).1
  have hcg : w.cell? ⟨g, 0, none⟩ = some u := by
    have := ce_cell ho (Has.mem (.head _) : Has _ (ce g 22 [u])) 0
    simpa using this
  have key : CallsIn Fence.wide 5 Tryz.prog 89 #[.func (.func 139) #[] #[.pointer (some ⟨g, 0, none⟩)]] w fun e w' => ∃ (v : Value), e = .returned v ∧ w'.ownsRow w.heap.size 3 1 v l.length ((srt l).map encZ) ∧ RowKit.Below w.heap.size w w' := by
    have := sortedValues_in (ρ := laySorted_ren) laySorted Fence.wide 5 trivial trivial trivial trivial rfl (by omega) (laySorts _) (enters_of Tryz.func138 (by kernel_rfl) rfl) 139 #[.pointer (some ⟨g, 0, none⟩)] trivial (enters_of Tryz.func139 (by kernel_rfl) rfl) l (by unfold maxLen; omega) (by omega) w (fun W0 hW0 lp J W hJ hY h0 => by
      have hgl0 : g < W0.heap.size := Nat.lt_of_lt_of_le hgl hW0.size
      have hcg0 : W0.cell? ⟨g, 0, none⟩ = some u := (hW0.cell (p := ⟨g, 0, none⟩) hgl).trans hcg
      have h3 := h2
      obtain ⟨a, cap, rfl, hcap, hmax, ⟨rfl, hz, rfl⟩ | ⟨b, off, rfl, c, t, fz, hb, hc⟩⟩ := h3
      · have hl0 : l = [] := List.eq_nil_of_length_eq_zero hz
        subst hl0
        exact values1_nil_in Fence.wide _ trivial rfl lp g J W (((hJ [] W h0).cell (p := ⟨g, 0, none⟩) hgl0).trans hcg0) h0
      · have hbh := imm_heap hb
        have hbl : b < w.heap.size := (Array.getElem?_eq_some_iff.1 hbh).1
        have hcell : ∀ j, j < l.length → W0.cell? ⟨b, off + j, none⟩ = some (.int .i64 (l[j]?.getD 0)) := fun j hj => by
          refine (hW0.cell (p := ⟨b, off + j, none⟩) hbl).trans ?_
          have := slC_cell h2 (j := j) (by simpa using hj)
          simpa [eaddr, List.getD_eq_getElem?_getD] using this
        have := values1_in Fence.wide _ trivial rfl (by omega) W0 lp g W0.heap.size b off l.length cap l (by omega) (Nat.lt_of_lt_of_le hbl hW0.size) hgl0 J hJ hY W hcg0 hcell h0
        rw [upto_all] at this; exact this)
    exact this
  refine ((callsIn_wide (n := 5)).1 key).mono ?_
  rintro e w' ⟨v, rfl, hrow, hb⟩
  have hown := owns_slice hrow
  have hmap : (srt l).map encZ = ints (srt l) := rfl
  rw [hmap] at hown
  have hids : ∀ k ∈ ids [Ow.slice v 3 1 (ints (srt l))], k ∈ ids [] ∨ w.heap.size ≤ k := by
    intro k hk
    right
    obtain ⟨_, ⟨rfl, _⟩ | ⟨g', cap, cur, rfl, hbase, _⟩⟩ := hrow
    · simp [ids, Ow.ids] at hk
    · simp [ids, Ow.ids] at hk; omega
  have hkeep : ∀ k, k < w.heap.size → k ∉ ids [] → w'.heap[k]? = w.heap[k]? := fun k hk _ => hb.block k hk
  refine ⟨v, [Ow.slice v 3 1 (ints (srt l))], [], rfl, ⟨rfl, rfl⟩, ⟨hb.os, hb.tape, hb.output⟩, ?_, ?_⟩
  · have := imm_step (ob := []) (bx := []) (nb := [Ow.slice v 3 1 (ints (srt l))]) ho hkeep hids
    simpa using this
  · have := OK.step (ob := []) (bx := []) (nb := [Ow.slice v 3 1 (ints (srt l))]) ho hkeep hids (by
      obtain ⟨_, ⟨rfl, _⟩ | ⟨g', cap, cur, rfl, hbase, _⟩⟩ := hrow
      · simp [ids, Ow.ids]
      · simp [ids, Ow.ids]) (fun b hb2 => by rw [List.mem_singleton] at hb2; subst hb2; exact hown)
    exact this.less (fun f hf => by cases hf)
end Go.Proofs.YthggloiigkbfeaaGreat
namespace Go.Proofs.YthggloiigkbfeaaGreat
open Go.RowKit Go.Sort Go.Shelf
def layCompact_ren : Go.Shelf.Ren := ⟨fun | 20 => 88 | n => n, fun | 22 => 22 | 3 => 3 | 4 => 4 | 0 => 0 | n => n, fun | n => n⟩
theorem layCompact : Lays2.n20 Tryz.prog layCompact_ren := {
  mixed := by kernel_rfl
  f20 := Tryz.func88.trans (congrArg some (by kernel_rfl))
  t0 := Tryz.underlying0
  a0 := Tryz.isAgg0
  z0 := Tryz.sizeOf0
  v0 := Tryz.zeroValue0
  t3 := Tryz.underlying3
  a3 := Tryz.isAgg3
  z3 := Tryz.sizeOf3
  v3 := Tryz.zeroValue3
  t4 := Tryz.underlying4
  a4 := Tryz.isAgg4
  z4 := Tryz.sizeOf4
  v4 := Tryz.zeroValue4
  t22 := Tryz.underlying22
  a22 := Tryz.isAgg22
  z22 := Tryz.sizeOf22
  v22 := Tryz.zeroValue22
  i3 := by kernel_rfl }
def layDelete_ren : Go.Shelf.Ren := ⟨fun | 10 => 91 | 6 => 108 | n => n, fun | 22 => 22 | 23 => 3 | 25 => 94 | 3 => 3 | 4 => 4 | 0 => 0 | n => n, fun | n => n⟩
theorem layDelete : SlLaysH.n10 Tryz.prog layDelete_ren := {
  mixed := by kernel_rfl
  f6 := ⟨Tryz.f108.name, by decide, Tryz.func108.trans (congrArg some (by kernel_rfl))⟩
  f10 := ⟨Tryz.f91.name, by decide, Tryz.func91.trans (congrArg some (by kernel_rfl))⟩
  t0 := Tryz.underlying0
  a0 := Tryz.isAgg0
  z0 := Tryz.sizeOf0
  v0 := Tryz.zeroValue0
  t3 := Tryz.underlying3
  a3 := Tryz.isAgg3
  z3 := Tryz.sizeOf3
  v3 := Tryz.zeroValue3
  t4 := Tryz.underlying4
  a4 := Tryz.isAgg4
  z4 := Tryz.sizeOf4
  v4 := Tryz.zeroValue4
  t22 := Tryz.underlying22
  a22 := Tryz.isAgg22
  z22 := Tryz.sizeOf22
  v22 := Tryz.zeroValue22
  a23 := Tryz.isAgg3
  z23 := Tryz.sizeOf3
  t25 := Tryz.underlying94
  a25 := Tryz.isAgg94
  z25 := Tryz.sizeOf94
  v25 := Tryz.zeroValue94 }
open W
/-- a function that turns an owned slice of integers in its place and hands back a part of it -/
theorem row_fn {f : FuncId} {rest : List Value} {l new : List Int} {v : Value} {F : List Fct} (hc : Callable Tryz.prog f) (hne : l ≠ []) (hlen : new.length ≤ l.length)
    (h : ∀ fr w g cap, v = .slice (some ⟨g, 0, none⟩) l.length cap → l.length ≤ cap → OK fr [Ow.slice v 3 1 (ints l)] F w → Holds (Value.int .i64) w g 0 l.toArray → Calls Tryz.prog f (v :: rest).toArray w fun e w' => e = .returned (.slice (some ⟨g, 0, none⟩) new.length cap) ∧ ∃ q, w' = putRow (Value.int .i64) (Sort.ahead w q) g 0 (new ++ List.replicate (l.length - new.length) 0).toArray) :
    FnB Tryz.prog f (v :: rest) [Ow.slice v 3 1 (ints l)] F (IsO 3 1 (ints new)) := by
  refine ⟨hc, fun fr w ho => ?_⟩
  obtain ⟨n, h1, ⟨_, h2⟩ | ⟨g, cap, sp, rfl, h3, h4, h5, h6⟩⟩ := ho.owns _ (.head _)
  · exfalso; subst h2; simp at h1; exact hne h1
  have hn : n = l.length := by simpa using h1.symm
  subst hn
  have hH : Holds (Value.int .i64) w g 0 l.toArray := fun j hj => by
    have hj' : j < l.length := by simpa using hj
    constructor
    · unfold World.cell?
      rw [h5]
      simp [hj']
      rw [List.getElem?_append_left (by simpa using hj')]
      simp [hj']
    · unfold World.frozen?; rw [h5]; simp
  refine (h fr w g cap rfl h3 ho hH).mono ?_
  rintro e w' ⟨rfl, q, rfl⟩
  have hw' : (putRow (Value.int .i64) (Sort.ahead w q) g 0 (new ++ List.replicate (l.length - new.length) 0).toArray).heap[g]? = some (.cells (ints new ++ (ints (List.replicate (l.length - new.length) 0) ++ sp)).toArray 3 (0, 0)) := by
    unfold putRow mapBlock
    show (w.heap.modify g _)[g]? = _
    rw [Array.getElem?_modify, if_pos rfl, h5]
    simp only [Option.map_some, onCells]
    congr 2
    apply Array.ext_getElem?
    intro k
    unfold putCells
    rw [Array.getElem?_mapIdx]
    simp only [List.getElem?_toArray]
    rw [← List.append_assoc]
    by_cases hk : k < l.length
    · rw [List.getElem?_append_left (by simpa using hk), List.getElem?_append_left (by simp; omega)]
      have e1 : (ints l)[k]? = some (.int .i64 l[k]) := by simp [hk]
      rw [e1, Option.map_some, if_pos (by simp; omega)]
      rw [show ints new ++ ints (List.replicate (l.length - new.length) 0) = ints (new ++ List.replicate (l.length - new.length) 0) by simp [ints]]
      have hk2 : k < (new ++ List.replicate (l.length - new.length) 0).length := by simp; omega
      have e3 : (ints (new ++ List.replicate (l.length - new.length) 0))[k]? = some (.int .i64 (new ++ List.replicate (l.length - new.length) 0)[k]) := by
        unfold ints; rw [List.getElem?_map, List.getElem?_eq_getElem hk2]; rfl
      rw [e3, getElem!_pos _ _ (by simpa using hk2)]
      rfl
    · rw [List.getElem?_append_right (by simp; omega), List.getElem?_append_right (by simp; omega)]
      have e2 : (ints l).length = (ints new ++ ints (List.replicate (l.length - new.length) 0)).length := by simp; omega
      rw [e2]
      cases sp[k - (ints new ++ ints (List.replicate (l.length - new.length) 0)).length]? with
      | none => rfl
      | some x => rw [Option.map_some, if_neg (by simp; omega)]
  have hother : ∀ k, k ≠ g → (putRow (Value.int .i64) (Sort.ahead w q) g 0 (new ++ List.replicate (l.length - new.length) 0).toArray).heap[k]? = w.heap[k]? := fun k hk => by
    unfold putRow mapBlock
    show (w.heap.modify g _)[k]? = _
    rw [Array.getElem?_modify, if_neg (fun h => hk h.symm)]
  have hids : ∀ k ∈ ids [Ow.slice (.slice (some ⟨g, 0, none⟩) new.length cap) 3 1 (ints new)], k ∈ ids [Ow.slice (.slice (some ⟨g, 0, none⟩) l.length cap) 3 1 (ints l)] ∨ w.heap.size ≤ k := fun k hk => .inl (by simpa [ids, Ow.ids] using hk)
  have hkeep : ∀ k, k < w.heap.size → k ∉ ids [Ow.slice (.slice (some ⟨g, 0, none⟩) l.length cap) 3 1 (ints l)] → (putRow (Value.int .i64) (Sort.ahead w q) g 0 (new ++ List.replicate (l.length - new.length) 0).toArray).heap[k]? = w.heap[k]? := fun k _ hk => hother k (by simpa [ids, Ow.ids] using hk)
  refine ⟨_, [Ow.slice (.slice (some ⟨g, 0, none⟩) new.length cap) 3 1 (ints new)], [], rfl, ⟨rfl, rfl⟩, ⟨rfl, rfl, rfl⟩, ?_, ?_⟩
  · have := imm_step (ob := [Ow.slice (.slice (some ⟨g, 0, none⟩) l.length cap) 3 1 (ints l)]) (bx := []) (nb := [Ow.slice (.slice (some ⟨g, 0, none⟩) new.length cap) 3 1 (ints new)]) ho hkeep hids
    simpa using this
  · have := OK.step (ob := [Ow.slice (.slice (some ⟨g, 0, none⟩) l.length cap) 3 1 (ints l)]) (bx := []) (nb := [Ow.slice (.slice (some ⟨g, 0, none⟩) new.length cap) 3 1 (ints new)]) ho hkeep hids (by simp [ids, Ow.ids]) (fun b hb => by
      rw [List.mem_singleton] at hb; subst hb
      refine ⟨new.length, by simp, .inr ⟨g, cap, ints (List.replicate (l.length - new.length) 0) ++ sp, rfl, by omega, h4, hw', ?_⟩⟩
      simp only [List.length_append, List.length_map, List.length_replicate] at h6 ⊢
      omega)
    exact this.less (fun f hf => by cases hf)
theorem compact_le (l : List Int) : (Lib.compact l).length ≤ l.length := by
  unfold Lib.compact Lib.compactUpTo
  rw [List.length_map]
  exact Nat.le_trans (List.length_filter_le _ _) (by simp)
theorem compact_c (v : Value) (l : List Int) (hl : l.length ≤ 1000000) (hne : l ≠ []) : FnB Tryz.prog 88 [v] [Ow.slice v 3 1 (ints l)] [] (IsO 3 1 (ints (Lib.compact l))) :=
  row_fn ⟨Tryz.f88, Tryz.func88, by kernel_rfl, by kernel_rfl⟩ hne (compact_le l) fun fr w g cap hv hcap _ hH => by
    subst hv
    exact Any.slices_Compact_int layCompact g 0 cap l w hH (by omega) hcap
set_option maxHeartbeats 1000000 in
theorem neg_gives (W : World) (x : Int) : FnGives Tryz.prog 92 #[] #[.int .i64 x] (.bool (decide (x < 0))) W := by
  unfold FnGives
  show Calls Tryz.prog 92 #[.int .i64 x] W _
  go_enter Tryz.func92, Tryz.ntmps92
  go_wp2
  go_ret
  exact ⟨rfl, 0, rfl⟩
set_option maxHeartbeats 1000000 in
theorem eq_gives (W : World) (x y : Int) (g : Nat) (hc : W.cell? ⟨g, 0, none⟩ = some (.int .i64 y)) : FnGives Tryz.prog 95 #[.pointer (some ⟨g, 0, none⟩)] #[.int .i64 x] (.bool (decide (x = y))) W := by
  unfold FnGives
  show Calls Tryz.prog 95 #[.int .i64 x, .pointer (some ⟨g, 0, none⟩)] W _
  go_enter Tryz.func95, Tryz.ntmps95
  go_wp2
  go_ret
  exact ⟨rfl, 0, rfl⟩
theorem delete_row {v : Value} {l : List Int} {F : List Fct} (hl : l.length ≤ 1000000) (hne : l ≠ []) (p : Int → Bool) (g : Nat) (lb : Array Value) (eg : ∀ args w, (callFunc g args).run Tryz.prog w = .ok (.enter g args) w)
    (hp : ∀ fr w b cap, v = .slice (some ⟨b, 0, none⟩) l.length cap → OK fr [Ow.slice v 3 1 (ints l)] F w → PredAt Tryz.prog g lb (Value.int .i64) p w ∧ PredOver Tryz.prog g lb (Value.int .i64) p b 0 l.length w) :
    FnB Tryz.prog 91 [v, .func (.func g) #[] lb] [Ow.slice v 3 1 (ints l)] F (IsO 3 1 (ints (l.filter fun x => !p x))) :=
  row_fn ⟨Tryz.f91, Tryz.func91, by kernel_rfl, by kernel_rfl⟩ hne (List.length_filter_le _ _) fun fr w b cap hv hcap ho hH => by
    obtain ⟨h1, h2⟩ := hp fr w b cap hv ho
    subst hv
    have := AnyE.slices_DeleteFunc layDelete (Value.int .i64) (fun _ => rfl) p g lb eg 0 (fun w => Tryz.zeroValue3 w) b 0 cap l.toArray w h1 h2 hH (by simp; omega) (by simpa using hcap)
    exact this
end Go.Proofs.YthggloiigkbfeaaGreat
namespace Go.Proofs.YthggloiigkbfeaaGreat
open W Go.RowKit
theorem fidx_in {l : List Int} {p : Int → Bool} : 0 ≤ fidx (fun i => p (l.getD i 0)) l.length 0 ↔ ∃ x ∈ l, p x = true := by
  rw [fidx_has]
  constructor
  · rintro ⟨j, _, h1, h2⟩
    exact ⟨_, mem_getD.2 ⟨j, by omega, rfl⟩, h2⟩
  · rintro ⟨x, hx, h⟩
    obtain ⟨j, h1, rfl⟩ := mem_getD.1 hx
    exact ⟨j, Nat.zero_le _, by omega, h⟩
/-- answers the iterator of a slice -/
def IsIt (u : Value) : RPost := fun v b G => ∃ g, v = .func (.func 139) #[] #[ptr g] ∧ b = [] ∧ G = [ce g 22 [u]]
namespace I
open G H
attribute [local irreducible] WC WL WD YO LO LoopEnd W.Fin Scalar SliceT FieldAt Row ArrT AllocT KnS Has W.One SrcE IntT
theorem d88 {G G' : Prop} (h : G') (s : Bx G' → G := by
  intro h
  first | (apply WC.draw (id := 6) [0, 1, 2, 3, 4, 5, 6, 7, 8, 9] (.held 0 (.held 1 (.held 2 (.held 3 (.held 4 (.held 5 (.held 6 (.held 7 (.held 8 (.held 9 (.done))))))))))) mixed (by kernel_rfl)) | (apply WC.draw (id := 11) [0, 1, 2, 3, 4, 5, 6, 7, 8, 9] (.held 0 (.held 1 (.held 2 (.held 3 (.held 4 (.held 5 (.held 6 (.held 7 (.held 8 (.held 9 (.done))))))))))) mixed (by kernel_rfl)) | fail
  exact Bx.h h) : G := s ⟨h⟩
set_option maxHeartbeats 4000000 in
set_option maxRecDepth 60000 in
theorem values_c (u : Value) (l : List Int) : FnB Tryz.prog 90 [u] [] [sI u l] (IsIt u) := by
  refine fn_of [(0, u)] 4 Tryz.func90 rfl Tryz.ntmps90 (by kernel_rfl) rfl suA fun h0 => ?_
  repeat' (first | refine go ?_ | refine goX ?_ | refine goB ?_ | (refine goG ?_; intro g) | (refine goV ?_; intro v))
  refine WC.keep (g := g) (t := 22) (cs := [u]) (by repeat (first | exact Rem.head | apply Rem.tail)) ?_
  exact WC.ret (Fin.p [] [ce g 22 [u]] (ResE.t1 rfl rfl) meA (List.nil_sublist _) haA ⟨g, rfl, rfl, rfl⟩)
set_option maxHeartbeats 4000000 in
set_option maxRecDepth 60000 in
theorem indexF_c (u : Value) (l : List Int) (f : FuncId) (cap : List Value) (fG : Fct) (p : Int → Bool) (hp : ∀ x, FnB Tryz.prog f ([.int .i64 x] ++ cap) [] [fG] (IsV (.bool (p x)))) :
    FnB Tryz.prog 108 [u, .func (.func f) #[] cap.toArray] [] [sI u l, fG] (IsV (.int .i64 (fidx (fun i => p (l.getD i 0)) l.length 0))) := by
  refine fn_of [(0, u), (1, (.func (.func f) #[] cap.toArray))] 19 Tryz.func108 rfl Tryz.ntmps108 (by kernel_rfl) rfl suA fun h0 => ?_
  refine WC.lenI u l hmA fun hlen => ?_
  repeat' (first | refine go ?_ | refine goX ?_ | refine goB ?_ | (refine goG ?_; intro g) | (refine goV ?_; intro v))
  refine WC.lp (σ := Nat) (fun i => [(8, .int .i64 (i : Int)), (7, .int .i64 (l.length : Int)), (0, u), (1, .func (.func f) #[] cap.toArray)]) (fun _ => []) (fun _ => [ge h0, sI u l, fG]) (fun i => i ≤ l.length ∧ fidx (fun i => p (l.getD i 0)) (l.length - i) i = fidx (fun i => p (l.getD i 0)) l.length 0) (fun i => l.length - i) 0 ⟨by omega, rfl⟩ ?_
  rintro i ⟨hi, hs⟩
  by_cases c : i < l.length
  · rw [show l.length - i = l.length - (i + 1) + 1 by omega, fidx] at hs
    repeat' (first | refine go ?_ | refine goX ?_ | refine goB ?_ | (refine goG ?_; intro g) | (refine goV ?_; intro v))
    refine WL.callF [] cap (hp (l.getD i 0)) ?_
    rintro _ _ _ ⟨rfl, rfl, rfl⟩
    rw [List.nil_append]
    cases h : p (l.getD i 0) with
    | true =>
      rw [h, if_pos rfl] at hs
      repeat' (first | refine go ?_ | refine goX ?_ | refine goB ?_ | (refine goG ?_; intro g) | (refine goV ?_; intro v))
      exact WC.ret (Fin.v (ResE.t1 rfl rfl) meA (by rw [hs]))
    | false =>
      rw [h, if_neg (by simp)] at hs
      repeat' (first | refine go ?_ | refine goX ?_ | refine goB ?_ | (refine goG ?_; intro g) | (refine goV ?_; intro v))
      exact LoopEnd.mk (i + 1) ⟨by omega, hs⟩ (by show l.length - (i + 1) < l.length - i; omega)
  · rw [show l.length - i = 0 by omega, fidx] at hs
    repeat' (first | refine go ?_ | refine goX ?_ | refine goB ?_ | (refine goG ?_; intro g) | (refine goV ?_; intro v))
    exact WC.ret (Fin.v (ResE.t1 rfl rfl) meA (by rw [← hs]))
set_option maxHeartbeats 4000000 in
set_option maxRecDepth 60000 in
theorem containsF_c (u : Value) (l : List Int) (f : FuncId) (cap : List Value) (fG : Fct) (p : Int → Bool) (hp : ∀ x, FnB Tryz.prog f ([.int .i64 x] ++ cap) [] [fG] (IsV (.bool (p x)))) :
    FnB Tryz.prog 52 [u, .func (.func f) #[] cap.toArray] [] [sI u l, fG] (IsV (.bool (decide (∃ x ∈ l, p x = true)))) := by
  refine fn_of [(0, u), (1, (.func (.func f) #[] cap.toArray))] 9 Tryz.func52 rfl Tryz.ntmps52 (by kernel_rfl) rfl suA fun h0 => ?_
  rw [show decide (∃ x ∈ l, p x = true) = decide (0 ≤ fidx (fun i => p (l.getD i 0)) l.length 0) from decide_eq_decide.2 fidx_in.symm]
  repeat' (first | refine go ?_ | refine goX ?_ | refine goB ?_ | (refine goG ?_; intro g) | (refine goV ?_; intro v))
  first | refine WL.callV (indexF_c u l f cap fG p hp) ?_ | refine WD.callV (indexF_c u l f cap fG p hp) ?_
  by_cases c : 0 ≤ fidx (fun i => p (l.getD i 0)) l.length 0
  · rw [decide_eq_true c]
    repeat' (first | refine go ?_ | refine goX ?_ | refine goB ?_ | (refine goG ?_; intro g) | (refine goV ?_; intro v))
    exact WC.ret (Fin.v (ResE.t1 rfl rfl) meA rfl)
  · rw [decide_eq_false c]
    repeat' (first | refine go ?_ | refine goX ?_ | refine goB ?_ | (refine goG ?_; intro g) | (refine goV ?_; intro v))
    exact WC.ret (Fin.v (ResE.t1 rfl rfl) meA rfl)
set_option maxHeartbeats 4000000 in
set_option maxRecDepth 60000 in
theorem index_c (u : Value) (l : List Int) (x : Int) : FnB Tryz.prog 107 [u, .int .i64 x] [] [sI u l] (IsV (.int .i64 (fidx (fun i => decide (x = l.getD i 0)) l.length 0))) := by
  refine fn_of [(0, u), (1, (.int .i64 x))] 19 Tryz.func107 rfl Tryz.ntmps107 (by kernel_rfl) rfl suA fun h0 => ?_
  refine WC.lenI u l hmA fun hlen => ?_
  repeat' (first | refine go ?_ | refine goX ?_ | refine goB ?_ | (refine goG ?_; intro g) | (refine goV ?_; intro v))
  refine WC.lp (σ := Nat) (fun i => [(8, .int .i64 (i : Int)), (7, .int .i64 (l.length : Int)), (0, u), (1, .int .i64 x)]) (fun _ => []) (fun _ => [ge h0, sI u l]) (fun i => i ≤ l.length ∧ fidx (fun i => decide (x = l.getD i 0)) (l.length - i) i = fidx (fun i => decide (x = l.getD i 0)) l.length 0) (fun i => l.length - i) 0 ⟨by omega, rfl⟩ ?_
  rintro i ⟨hi, hs⟩
  by_cases c : i < l.length
  · rw [show l.length - i = l.length - (i + 1) + 1 by omega, fidx] at hs
    by_cases h : x = l.getD i 0
    · rw [decide_eq_true h, if_pos rfl] at hs
      repeat' (first | refine go ?_ | refine goX ?_ | refine goB ?_ | (refine goG ?_; intro g) | (refine goV ?_; intro v))
      exact WC.ret (Fin.v (ResE.t1 rfl rfl) meA (by rw [hs]))
    · rw [decide_eq_false h, if_neg (by simp)] at hs
      repeat' (first | refine go ?_ | refine goX ?_ | refine goB ?_ | (refine goG ?_; intro g) | (refine goV ?_; intro v))
      exact LoopEnd.mk (i + 1) ⟨by omega, hs⟩ (by show l.length - (i + 1) < l.length - i; omega)
  · rw [show l.length - i = 0 by omega, fidx] at hs
    repeat' (first | refine go ?_ | refine goX ?_ | refine goB ?_ | (refine goG ?_; intro g) | (refine goV ?_; intro v))
    exact WC.ret (Fin.v (ResE.t1 rfl rfl) meA (by rw [← hs]))
set_option maxHeartbeats 4000000 in
set_option maxRecDepth 60000 in
theorem contains_c (u : Value) (l : List Int) (x : Int) : FnB Tryz.prog 51 [u, .int .i64 x] [] [sI u l] (IsV (.bool (decide (x ∈ l)))) := by
  refine fn_of [(0, u), (1, (.int .i64 x))] 9 Tryz.func51 rfl Tryz.ntmps51 (by kernel_rfl) rfl suA fun h0 => ?_
  have hx : (x ∈ l) ↔ 0 ≤ fidx (fun i => decide (x = l.getD i 0)) l.length 0 := by
    have := @fidx_in l (fun y => decide (x = y))
    rw [this]; simp
  rw [show decide (x ∈ l) = decide (0 ≤ fidx (fun i => decide (x = l.getD i 0)) l.length 0) from decide_eq_decide.2 hx]
  repeat' (first | refine go ?_ | refine goX ?_ | refine goB ?_ | (refine goG ?_; intro g) | (refine goV ?_; intro v))
  first | refine WL.callV (index_c u l x) ?_ | refine WD.callV (index_c u l x) ?_
  by_cases c : 0 ≤ fidx (fun i => decide (x = l.getD i 0)) l.length 0
  · rw [decide_eq_true c]
    repeat' (first | refine go ?_ | refine goX ?_ | refine goB ?_ | (refine goG ?_; intro g) | (refine goV ?_; intro v))
    exact WC.ret (Fin.v (ResE.t1 rfl rfl) meA rfl)
  · rw [decide_eq_false c]
    repeat' (first | refine go ?_ | refine goX ?_ | refine goB ?_ | (refine goG ?_; intro g) | (refine goV ?_; intro v))
    exact WC.ret (Fin.v (ResE.t1 rfl rfl) meA rfl)
set_option maxHeartbeats 4000000 in
set_option maxRecDepth 60000 in
theorem clone_c (u : Value) (l : List Int) (hl : l.length ≤ 1000000) : FnB Tryz.prog 94 [u] [] [sI u l] (IsO 3 1 (ints l)) := by
  refine fn_of [(0, u)] 8 Tryz.func94 rfl Tryz.ntmps94 (by kernel_rfl) rfl suA fun h0 => ?_
  cases hn : isNil u with
  | true =>
    refine WC.nil0 (v := u) (l := l) hmA hn fun h => ?_
    subst h
    repeat' (first | refine go ?_ | refine goX ?_ | refine goB ?_ | (refine goG ?_; intro g) | (refine goV ?_; intro v))
    refine WC.addNil 3 1 ?_
    exact WC.ret (Fin.o (v := .slice none 0 0) (cs := ints []) (ResE.t1 rfl rfl) meA (.head _) rfl)
  | false =>
    repeat' (first | refine go ?_ | refine goX ?_ | refine goB ?_ | (refine goG ?_; intro g) | (refine goV ?_; intro v))
    exact WC.ret (Fin.o (ResE.t1 rfl rfl) meA meA (List.nil_append _))
/-! ## Those that turn their argument, at no elements -/
set_option maxHeartbeats 4000000 in
set_option maxRecDepth 60000 in
theorem compact0_c (v : Value) (l : List Int) (hl : l.length = 0) : FnB Tryz.prog 88 [v] [Ow.slice v 3 1 (ints l)] [] (IsO 3 1 (ints l)) := by
  refine fn_of [(0, v)] 61 Tryz.func88 rfl Tryz.ntmps88 (by kernel_rfl) rfl suA fun h0 => ?_
  repeat' (first | refine go ?_ | refine goX ?_ | refine goB ?_ | (refine goG ?_; intro g) | (refine goV ?_; intro v) | refine goD ?_ | refine goXD ?_ | (refine goDG ?_; intro g) | (refine goDV ?_; intro v) | refine d88 ?_ | fail)
  exact WC.ret (Fin.o (ResE.t1 rfl rfl) meA meA rfl)
theorem compactA_c (v : Value) (l : List Int) (hl : l.length ≤ 1000000) : FnB Tryz.prog 88 [v] [Ow.slice v 3 1 (ints l)] [] (IsO 3 1 (ints (Lib.compact l))) := by
  cases l with
  | nil => exact compact0_c v [] rfl
  | cons a l => exact compact_c v (a :: l) hl (by simp)
set_option maxHeartbeats 4000000 in
set_option maxRecDepth 60000 in
theorem delete0_c (v : Value) (f : FuncId) (cap : List Value) (fG : Fct) (p : Int → Bool) (hp : ∀ x, FnB Tryz.prog f ([.int .i64 x] ++ cap) [] [fG] (IsV (.bool (p x)))) :
    FnB Tryz.prog 91 [v, .func (.func f) #[] cap.toArray] [Ow.slice v 3 1 (ints [])] [fG] (IsO 3 1 (ints [])) := by
  refine fn_of [(0, v), (1, (.func (.func f) #[] cap.toArray))] 42 Tryz.func91 rfl Tryz.ntmps91 (by kernel_rfl) rfl suA fun h0 => ?_
  repeat' (first | refine go ?_ | refine goX ?_ | refine goB ?_ | (refine goG ?_; intro g) | (refine goV ?_; intro v))
  first | refine WL.callV (indexF_c v [] f cap fG p hp) ?_ | refine WD.callV (indexF_c v [] f cap fG p hp) ?_
  rw [show fidx (fun i => p (([] : List Int).getD i 0)) ([] : List Int).length 0 = -1 from rfl]
  repeat' (first | refine go ?_ | refine goX ?_ | refine goB ?_ | (refine goG ?_; intro g) | (refine goV ?_; intro v))
  exact WC.ret (Fin.o (ResE.t1 rfl rfl) meA meA rfl)
set_option maxHeartbeats 4000000 in
set_option maxRecDepth 60000 in
theorem core1_c (x : Int) : FnB Tryz.prog 87 ([.int .i64 x] ++ []) [] [ttF] (IsV (.bool (decide (x < -1)))) := by
  refine fn_of [(0, (.int .i64 x))] 5 Tryz.func87 rfl Tryz.ntmps87 (by kernel_rfl) rfl suA fun h0 => ?_
  by_cases c : x < -1
  · repeat' (first | refine go ?_ | refine goX ?_ | refine goB ?_ | (refine goG ?_; intro g) | (refine goV ?_; intro v))
    exact WC.ret (Fin.v (ResE.t1 rfl rfl) meA (by rw [decide_eq_true c]))
  · repeat' (first | refine go ?_ | refine goX ?_ | refine goB ?_ | (refine goG ?_; intro g) | (refine goV ?_; intro v))
    exact WC.ret (Fin.v (ResE.t1 rfl rfl) meA (by rw [decide_eq_false c]))
set_option maxHeartbeats 4000000 in
set_option maxRecDepth 60000 in
theorem core2_c (x : Int) : FnB Tryz.prog 92 ([.int .i64 x] ++ []) [] [ttF] (IsV (.bool (decide (x < 0)))) := by
  refine fn_of [(0, (.int .i64 x))] 5 Tryz.func92 rfl Tryz.ntmps92 (by kernel_rfl) rfl suA fun h0 => ?_
  by_cases c : x < 0
  · repeat' (first | refine go ?_ | refine goX ?_ | refine goB ?_ | (refine goG ?_; intro g) | (refine goV ?_; intro v))
    exact WC.ret (Fin.v (ResE.t1 rfl rfl) meA (by rw [decide_eq_true c]))
  · repeat' (first | refine go ?_ | refine goX ?_ | refine goB ?_ | (refine goG ?_; intro g) | (refine goV ?_; intro v))
    exact WC.ret (Fin.v (ResE.t1 rfl rfl) meA (by rw [decide_eq_false c]))
set_option maxHeartbeats 4000000 in
set_option maxRecDepth 60000 in
theorem core3_c (x y : Int) (g : Nat) : FnB Tryz.prog 95 ([.int .i64 x] ++ [ptr g]) [] [ce g 3 [.int .i64 y]] (IsV (.bool (decide (x = y)))) := by
  refine fn_of [(0, (.int .i64 x)), (1, (ptr g))] 7 Tryz.func95 rfl Tryz.ntmps95 (by kernel_rfl) rfl suA fun h0 => ?_
  by_cases c : x = y
  · repeat' (first | refine go ?_ | refine goX ?_ | refine goB ?_ | (refine goG ?_; intro g) | (refine goV ?_; intro v))
    exact WC.ret (Fin.v (ResE.t1 rfl rfl) meA (by rw [decide_eq_true c]))
  · repeat' (first | refine go ?_ | refine goX ?_ | refine goB ?_ | (refine goG ?_; intro g) | (refine goV ?_; intro v))
    exact WC.ret (Fin.v (ResE.t1 rfl rfl) meA (by rw [decide_eq_false c]))
end I
open Go.Sort in
theorem delNeg_c (v : Value) (l : List Int) (hl : l.length ≤ 1000000) : FnB Tryz.prog 91 [v, .func (.func 92) #[] #[]] [Ow.slice v 3 1 (ints l)] [ttF] (IsO 3 1 (ints (l.filter fun x => !decide (x < 0)))) := by
  cases l with
  | nil => exact I.delete0_c v 92 [] ttF _ I.core2_c
  | cons a l => exact delete_row hl (by simp) (fun x => decide (x < 0)) _ _ (enters_of Tryz.func92 (by kernel_rfl) rfl) fun fr w b cap hv ho => ⟨fun W x _ => neg_gives W x, fun n os dk x _ => neg_gives _ x⟩
open Go.Sort in
theorem delEq_c (v : Value) (l : List Int) (y : Int) (g : Nat) (hl : l.length ≤ 1000000) : FnB Tryz.prog 91 [v, .func (.func 95) #[] #[ptr g]] [Ow.slice v 3 1 (ints l)] [ce g 3 [.int .i64 y]] (IsO 3 1 (ints (l.filter fun x => !decide (x = y)))) := by
  cases l with
  | nil => exact I.delete0_c v 95 [ptr g] _ _ fun x => I.core3_c x y g
  | cons a l =>
      refine delete_row hl (by simp) (fun x => decide (x = y)) _ _ (enters_of Tryz.func95 (by kernel_rfl) rfl) ?_
      intro fr w b cap hv ho
      have hf := ho.facts _ (.head _)
      have hg : w.heap[g]? = some (.cells #[.int .i64 y] 3 (0, 0)) := imm_heap hf
      have hgl : g < w.heap.size := (Array.getElem?_eq_some_iff.1 hg).1
      have hgb : g ≠ b := by
        rintro rfl
        have : imm fr [Ow.slice v 3 1 (ints (a :: l))] w.heap g = none := by
          unfold imm; rw [if_pos]; subst hv; simp [ids, Ow.ids]
        have h2 : imm fr [Ow.slice v 3 1 (ints (a :: l))] w.heap g = some (.cells #[.int .i64 y] 3 (0, 0)) := hf
        rw [this] at h2; cases h2
      have hc : w.cell? ⟨g, 0, none⟩ = some (.int .i64 y) := by unfold World.cell?; rw [hg]; rfl
      refine ⟨fun W x hW => eq_gives W x y g ((hW.cell (p := ⟨g, 0, none⟩) hgl).trans hc), fun n os dk x _ => eq_gives _ x y g ?_⟩
      unfold World.cell? sortWorld
      rw [Sort.heap_grow_old _ os (by simpa using hgl)]
      have : (putRow (Value.int .i64) (Sort.ahead w n) b 0 dk).heap[g]? = w.heap[g]? := by
        unfold putRow mapBlock
        show (w.heap.modify b _)[g]? = _
        rw [Array.getElem?_modify, if_neg (fun h => hgb h.symm)]
      rw [this, hg]; rfl
end Go.Proofs.YthggloiigkbfeaaGreat
namespace Go.Proofs.YthggloiigkbfeaaGreat
open W Go.RowKit
instance : Den 6 := ⟨by decide, by decide⟩
def sure (l : List Int) : Bool := decide (atP l 1 3 = 0)
def sysX (l : List Int) (n : Int) (i : Nat) : Int :=
  if sure l = true then max (atP l (4 * i + 4) 20 - 4) 0 + 3 * (atP l (4 * i + 3) n % 3) - 3 * (atP l (4 * i + 2) n % 3) + 2 * atP l (4 * i + 2) n - 2 * atP l (4 * i + 3) n else atP l (4 * i + 4) 20 - 4
def sysK (l : List Int) (i : Nat) : Nat := if sure l = true then 6 else if atP l (4 * i + 5) 3 = 0 then 6 else if atP l (4 * i + 5) 3 = 1 then 3 else 2
def sysB (l : List Int) (n : Int) (i : Nat) : Bd := ⟨atP l (4 * i + 2) n, atP l (4 * i + 3) n, sysX l n i * sysK l i⟩
def sysT (l : List Int) (n : Int) (k : Nat) : List Bd := (List.range k).map (sysB l n)
theorem sysT_len (l : List Int) (n : Int) (k : Nat) : (sysT l n k).length = k := by simp [sysT]
theorem sysT_succ (l : List Int) (n : Int) (k : Nat) : sysT l n (k + 1) = sysT l n k ++ [sysB l n k] := by simp [sysT, List.range_succ]
theorem sysT_get (l : List Int) (n : Int) {k i : Nat} (h : i < k) : bg (sysT l n k) i = sysB l n i := by
  unfold bg sysT; simp [List.getD_eq_getElem?_getD, h]
def sysN (l : List Int) (most : Int) : Int := 1 + atP l 0 most
def sysC (l : List Int) : Nat := min 14 ((l.length + 1) / 4)
def sysL (l : List Int) (most : Int) : List Bd := sysT l (sysN l most) (sysC l)
theorem sysX_le {l : List Int} {n : Int} (hn : 0 < n) (hn2 : n ≤ 10) (i : Nat) : (sysX l n i).natAbs ≤ 60 := by
  have h1 := @atP_lt l (4 * i + 4) 20 (by decide)
  have h2 := @atP_lt l (4 * i + 3) n hn
  have h3 := @atP_lt l (4 * i + 2) n hn
  unfold sysX
  split <;> omega
theorem sysB_w {l : List Int} {n : Int} (hn : 0 < n) (hn2 : n ≤ 10) (i : Nat) : (sysB l n i).w.natAbs ≤ 360 := by
  have h := @sysX_le l n hn hn2 i
  show (sysX l n i * sysK l i).natAbs ≤ 360
  rw [Int.natAbs_mul]
  have h2 : ((sysK l i : Nat) : Int).natAbs ≤ 6 := by unfold sysK; split <;> (try split) <;> (try split) <;> decide
  exact Nat.mul_le_mul h h2
theorem absS_app (a b : List Bd) : absS (a ++ b) = absS a + absS b := by simp [absS]
theorem sysT_abs {l : List Int} {n : Int} (hn : 0 < n) (hn2 : n ≤ 10) (k : Nat) : absS (sysT l n k) ≤ k * 360 := by
  induction k with
  | zero => simp [sysT, absS]
  | succ k ih =>
    rw [sysT_succ, absS_app, Nat.succ_mul]
    have := @sysB_w l n hn hn2 k
    simp [absS] at *; omega
/-- answers a system -/
def IsSys (D : Nat) (n : Int) (bs : List Bd) : RPost := fun v b G => ∃ vb ms, v = .tuple #[.int .i64 n, vb] ∧ b = [] ∧ G = [fB D vb ms bs]
theorem hasmB0 {D : Nat} {F : List Fct} {ms : Nat → QM} : Has F (mB D ms []) := fun _ _ i hi => by simp at hi
namespace I
open G H
attribute [local irreducible] WC WL WD YO LO LoopEnd W.Fin Scalar SliceT FieldAt Row ArrT AllocT KnS Has W.One SrcE IntT
set_option maxHeartbeats 8000000 in
set_option maxRecDepth 60000 in
theorem system_c (u : Value) (l : List Int) (most : Int) (hl : ∀ x ∈ l, I64 x) (hm : 0 < most) (hm2 : most ≤ 8) : FnB Tryz.prog 23 [u, .int .i64 most] [] [sI u l] (IsSys 6 (sysN l most) (sysL l most)) := by
  refine fn_of [(0, u), (1, (.int .i64 most))] 90 Tryz.func23 rfl Tryz.ntmps23 (by kernel_rfl) rfl suA fun h0 => ?_
  refine WC.lenI u l hmA fun hlen => ?_
  have hN := @atP_lt l 0 most hm
  refine WC.addNil 59 6 ?_
  repeat' (first | refine go ?_ | refine goX ?_ | refine goB ?_ | (refine goG ?_; intro g) | (refine goV ?_; intro v))
  first | refine WL.callV (at_c u l 0 most hl hm) ?_ | refine WD.callV (at_c u l 0 most hl hm) ?_
  repeat' (first | refine go ?_ | refine goX ?_ | refine goB ?_ | (refine goG ?_; intro g) | (refine goV ?_; intro v))
  first | refine WL.callV (at_c u l 1 3 hl (by decide)) ?_ | refine WD.callV (at_c u l 1 3 hl (by decide)) ?_
  repeat' (first | refine go ?_ | refine goX ?_ | refine goB ?_ | (refine goG ?_; intro g) | (refine goV ?_; intro v))
  refine WL.k_eql (v := .bool (sure l)) (YO.cmp rfl rfl (.inr (.inr (.inr (.inr (.inl ⟨rfl, rfl⟩)))))) rfl rfl ?_
  unfold sysL sysN
  generalize hn : 1 + atP l 0 most = n at *
  have hn0 : 0 < n := by omega
  have hn10 : n ≤ 10 := by omega
  repeat' (first | refine go ?_ | refine goX ?_ | refine goB ?_ | (refine goG ?_; intro g) | (refine goV ?_; intro v))
  refine WC.lp (σ := Nat × Value × (Nat → QM)) (fun s => [(9, .int .i64 (s.1 : Int)), (8, s.2.1), (7, .bool (sure l)), (6, .int .i64 n), (0, u)]) (fun s => [Ow.slice s.2.1 59 6 (bcells (sysT l n s.1) s.2.2)])
    (fun s => [mB 6 s.2.2 (sysT l n s.1), ge h0, sI u l]) (fun s => s.1 ≤ sysC l) (fun s => 14 - s.1) (0, .slice none 0 0, fun _ => m00) (Nat.zero_le _) ?_ suA slA (.cons hasmB0 sfA)
  rintro ⟨i, vb, ms⟩ hi
  simp only at hi ⊢
  have hil : i ≤ 14 := by unfold sysC at hi; omega
  have hcl := sysT_len l n i
  by_cases c1 : 4 * (i : Int) + 2 < l.length
  · by_cases c2 : i < 14
    · have hic : i + 1 ≤ sysC l := by unfold sysC; omega
      have a2 := @atP_lt l (4 * i + 2) n hn0
      have a3 := @atP_lt l (4 * i + 3) n hn0
      have a4 := @atP_lt l (4 * i + 4) 20 (by decide)
      have a5 := @atP_lt l (4 * i + 5) 3 (by decide)
      repeat' (first | refine go ?_ | refine goX ?_ | refine goB ?_ | (refine goG ?_; intro g) | (refine goV ?_; intro v))
      first | refine WL.callV (at_c u l (4 * i + 2) n hl hn0) ?_ | refine WD.callV (at_c u l (4 * i + 2) n hl hn0) ?_
      repeat' (first | refine go ?_ | refine goX ?_ | refine goB ?_ | (refine goG ?_; intro g) | (refine goV ?_; intro v))
      first | refine WL.callV (at_c u l (4 * i + 3) n hl hn0) ?_ | refine WD.callV (at_c u l (4 * i + 3) n hl hn0) ?_
      repeat' (first | refine go ?_ | refine goX ?_ | refine goB ?_ | (refine goG ?_; intro g) | (refine goV ?_; intro v))
      first | refine WL.callV (at_c u l (4 * i + 4) 20 hl (by decide)) ?_ | refine WD.callV (at_c u l (4 * i + 4) 20 hl (by decide)) ?_
      repeat' (first | refine go ?_ | refine goX ?_ | refine goB ?_ | (refine goG ?_; intro g) | (refine goV ?_; intro v))
      revert g; intro g10
      have hX := @sysX_le l n hn0 hn10 i
      have hk5 : (6 : Int) = (1 + atP l (4 * i + 5) 3) * ((if atP l (4 * i + 5) 3 = 0 then 6 else if atP l (4 * i + 5) 3 = 1 then 3 else 2 : Nat) : Int) := by
        rcases (show atP l (4 * i + 5) 3 = 0 ∨ atP l (4 * i + 5) 3 = 1 ∨ atP l (4 * i + 5) 3 = 2 by omega) with h | h | h <;> rw [h] <;> rfl
      cases hsu : sure l with
      | true =>
        have hXe : max (atP l (4 * i + 4) 20 - 4) 0 + 3 * (atP l (4 * i + 3) n % 3) - 3 * (atP l (4 * i + 2) n % 3) + 2 * atP l (4 * i + 2) n - 2 * atP l (4 * i + 3) n = sysX l n i := by unfold sysX; rw [if_pos hsu]
        have hK : sysK l i = 6 := by unfold sysK; rw [if_pos hsu]
        repeat' (first | refine go ?_ | refine goX ?_ | refine goB ?_ | (refine goG ?_; intro g) | (refine goV ?_; intro v))
        rw [hXe]
        first | refine WL.callV (at_c u l (4 * i + 5) 3 hl (by decide)) ?_ | refine WD.callV (at_c u l (4 * i + 5) 3 hl (by decide)) ?_
        repeat' (first | refine go ?_ | refine goX ?_ | refine goB ?_ | (refine goG ?_; intro g) | (refine goV ?_; intro v))
        first | refine WL.callK (rofw_c 6 (sysX l n i) (1 + atP l (4 * i + 5) 3) _ hk5 (by omega) (by unfold B2; omega) (by unfold B2; omega)) ?_ | refine WD.callK (rofw_c 6 (sysX l n i) (1 + atP l (4 * i + 5) 3) _ hk5 (by omega) (by unfold B2; omega) (by unfold B2; omega)) ?_ | refine LO.callM (rofw_c 6 (sysX l n i) (1 + atP l (4 * i + 5) 3) _ hk5 (by omega) (by unfold B2; omega) (by unfold B2; omega)) ?_
        rintro _ _ _ ⟨m2, rfl, rfl, rfl⟩
        simp only [List.nil_append, List.cons_append]
        repeat' (first | refine go ?_ | refine goX ?_ | refine goB ?_ | (refine goG ?_; intro g) | (refine goV ?_; intro v))
        first | refine WL.callK (rofw_c 6 (sysX l n i) 1 6 (by decide) (by decide) (by unfold B2; omega) (by decide)) ?_ | refine WD.callK (rofw_c 6 (sysX l n i) 1 6 (by decide) (by decide) (by unfold B2; omega) (by decide)) ?_ | refine LO.callM (rofw_c 6 (sysX l n i) 1 6 (by decide) (by decide) (by unfold B2; omega) (by decide)) ?_
        rintro _ _ _ ⟨m3, rfl, rfl, rfl⟩
        simp only [List.nil_append, List.cons_append]
        repeat' (first | refine go ?_ | refine goX ?_ | refine goB ?_ | (refine goG ?_; intro g) | (refine goV ?_; intro v))
        refine WL.l rfl rfl (LO.bsB1 (b := sysB l n i) (m := m3) rfl (fun v => ?_))
        refine WL.fact' (isQ (qv m3) (wq 6 (sysB l n i).w)) (by show Has _ (isQ (qv m3) (wq 6 (sysX l n i * sysK l i))); rw [hK]; exact hmA) ?_
        repeat' (first | refine go ?_ | refine goX ?_ | refine goB ?_ | (refine goG ?_; intro g) | (refine goV ?_; intro v))
        refine LoopEnd.mk (i + 1, v, upd ms (sysT l n i).length m3) hic (by show 14 - (i + 1) < 14 - i; omega) suA (by show List.Sublist [Ow.slice v 59 6 (bcells (sysT l n (i + 1)) _)] _; rw [sysT_succ]; exact slA) (HasAll.cons ?_ sfA)
        show Has _ (mB 6 _ (sysT l n (i + 1)))
        rw [sysT_succ]
        exact W.Has.mBapp hmA hmA
      | false =>
        have hXe : atP l (4 * i + 4) 20 - 4 = sysX l n i := by unfold sysX; rw [if_neg (by rw [hsu]; simp)]
        rw [hXe]
        repeat' (first | refine go ?_ | refine goX ?_ | refine goB ?_ | (refine goG ?_; intro g) | (refine goV ?_; intro v))
        first | refine WL.callV (at_c u l (4 * i + 5) 3 hl (by decide)) ?_ | refine WD.callV (at_c u l (4 * i + 5) 3 hl (by decide)) ?_
        repeat' (first | refine go ?_ | refine goX ?_ | refine goB ?_ | (refine goG ?_; intro g) | (refine goV ?_; intro v))
        first | refine WL.callK (rofw_c 6 (sysX l n i) (1 + atP l (4 * i + 5) 3) _ hk5 (by omega) (by unfold B2; omega) (by unfold B2; omega)) ?_ | refine WD.callK (rofw_c 6 (sysX l n i) (1 + atP l (4 * i + 5) 3) _ hk5 (by omega) (by unfold B2; omega) (by unfold B2; omega)) ?_ | refine LO.callM (rofw_c 6 (sysX l n i) (1 + atP l (4 * i + 5) 3) _ hk5 (by omega) (by unfold B2; omega) (by unfold B2; omega)) ?_
        rintro _ _ _ ⟨m2, rfl, rfl, rfl⟩
        simp only [List.nil_append, List.cons_append]
        have hK : sysK l i = (if atP l (4 * i + 5) 3 = 0 then 6 else if atP l (4 * i + 5) 3 = 1 then 3 else 2 : Nat) := by unfold sysK; simp [hsu]
        repeat' (first | refine go ?_ | refine goX ?_ | refine goB ?_ | (refine goG ?_; intro g) | (refine goV ?_; intro v))
        refine WL.l rfl rfl (LO.bsB1 (b := sysB l n i) (m := m2) rfl (fun v => ?_))
        refine WL.fact' (isQ (qv m2) (wq 6 (sysB l n i).w)) (by show Has _ (isQ (qv m2) (wq 6 (sysX l n i * sysK l i))); rw [hK]; exact hmA) ?_
        repeat' (first | refine go ?_ | refine goX ?_ | refine goB ?_ | (refine goG ?_; intro g) | (refine goV ?_; intro v))
        refine LoopEnd.mk (i + 1, v, upd ms (sysT l n i).length m2) hic (by show 14 - (i + 1) < 14 - i; omega) suA (by show List.Sublist [Ow.slice v 59 6 (bcells (sysT l n (i + 1)) _)] _; rw [sysT_succ]; exact slA) (HasAll.cons ?_ sfA)
        show Has _ (mB 6 _ (sysT l n (i + 1)))
        rw [sysT_succ]
        exact W.Has.mBapp hmA hmA
    · have hie : i = sysC l := by unfold sysC at hi ⊢; omega
      repeat' (first | refine go ?_ | refine goX ?_ | refine goB ?_ | (refine goG ?_; intro g) | (refine goV ?_; intro v))
      refine WC.freezeB (D := 6) (el := 59) vb ms (sysT l n i) (by repeat (first | exact Sel.head | apply Sel.tail)) hmA ?_
      exact WC.ret (Fin.p [] [fB 6 vb ms (sysT l n i)] (ResE.t2 rfl rfl rfl) meA (List.nil_sublist _) haA ⟨vb, ms, rfl, rfl, by rw [← hie]⟩)
  · have hie : i = sysC l := by unfold sysC at hi ⊢; omega
    repeat' (first | refine go ?_ | refine goX ?_ | refine goB ?_ | (refine goG ?_; intro g) | (refine goV ?_; intro v))
    refine WC.freezeB (D := 6) (el := 59) vb ms (sysT l n i) (by repeat (first | exact Sel.head | apply Sel.tail)) hmA ?_
    exact WC.ret (Fin.p [] [fB 6 vb ms (sysT l n i)] (ResE.t2 rfl rfl rfl) meA (List.nil_sublist _) haA ⟨vb, ms, rfl, rfl, by rw [← hie]⟩)
end I
end Go.Proofs.YthggloiigkbfeaaGreat
namespace Go.Proofs.YthggloiigkbfeaaGreat
open W Go.RowKit
def inG (gs list : List Int) (i : Nat) : Bool := decide (gs.getD i 0 < 0) || decide (gs.getD i 0 ∈ list)
/-- the bounds of some groups -/
def partK (bs : List Bd) (gs list : List Int) (k : Nat) : List Bd := ((List.range k).filter (inG gs list)).map (bg bs)
def part (bs : List Bd) (gs list : List Int) : List Bd := partK bs gs list bs.length
theorem partK_succ (bs : List Bd) (gs list : List Int) (k : Nat) : partK bs gs list (k + 1) = if inG gs list k = true then partK bs gs list k ++ [bg bs k] else partK bs gs list k := by
  unfold partK
  rw [List.range_succ, List.filter_append, List.map_append]
  by_cases h : inG gs list k = true
  · rw [if_pos h]; simp [h]
  · rw [if_neg h]; simp [h]
theorem partK_len (bs : List Bd) (gs list : List Int) (k : Nat) : (partK bs gs list k).length ≤ k := by
  unfold partK
  rw [List.length_map]
  exact Nat.le_trans (List.length_filter_le _ _) (by simp)
theorem part_mem {bs : List Bd} {gs list : List Int} {b : Bd} (h : b ∈ part bs gs list) : b ∈ bs := by
  unfold part partK at h
  obtain ⟨i, hi, rfl⟩ := List.mem_map.1 h
  exact bg_mem (List.mem_range.1 (List.mem_filter.1 hi).1)
theorem part_abs (bs : List Bd) (gs list : List Int) : absS (part bs gs list) ≤ absS bs := by
  have : ∀ k, k ≤ bs.length → absS (partK bs gs list k) ≤ absS (bs.take k) := by
    intro k
    induction k with
    | zero => intro _; simp [partK, absS]
    | succ k ih =>
      intro hk
      rw [partK_succ, absS_take (by omega)]
      have := ih (by omega)
      split
      · rw [absS_app]; simp [absS] at this ⊢; omega
      · omega
  have h := this bs.length (Nat.le_refl _)
  rw [List.take_of_length_le (Nat.le_refl _)] at h
  exact h
theorem Vld.part {n : Nat} {bs : List Bd} (h : Vld n bs) (gs list : List Int) : Vld n (part bs gs list) := by
  have hl := partK_len bs gs list bs.length
  refine ⟨h.n1, h.n2, Nat.le_trans hl h.l, fun i hi => h.mem (part_mem (gs := gs) (list := list) (bg_mem hi))⟩
def sv (n : Nat) (bs : List Bd) (gs list : List Int) : Bool := (greatP n (part bs gs list)).isSome
def coreL (gs : List Int) : List Int := (Lib.compact (srt gs)).filter fun x => !decide (x < 0)
def coreS (n : Nat) (bs : List Bd) (gs list : List Int) (g : Int) : List Int := if sv n bs gs (list.filter fun x => !decide (x = g)) = true then list else list.filter fun x => !decide (x = g)
/-- what the program's Core answers -/
def cor (n : Int) (bs : List Bd) (gs : List Int) : List Int × Int :=
  if validB n bs = true ∧ gs.length = bs.length ∧ ¬ ∃ x ∈ gs, decide (x < -1) = true then (if sv n.toNat bs gs (coreL gs) = true then ([], 6) else ((coreL gs).foldl (coreS n.toNat bs gs) (coreL gs), 0)) else ([], 1)
/-- answers a list of indices and an error -/
def IsCo (s : List Int × Int) : RPost := fun v b G => ∃ uc, v = .tuple #[uc, .int .i64 s.2] ∧ b = [] ∧ G = [sI uc s.1]
theorem coreS_len (n : Nat) (bs : List Bd) (gs : List Int) (l : List Int) : ∀ list : List Int, (l.foldl (coreS n bs gs) list).length ≤ list.length := by
  induction l with
  | nil => intro list; exact Nat.le_refl _
  | cons a l ih =>
    intro list
    rw [List.foldl_cons]
    refine Nat.le_trans (ih _) ?_
    unfold coreS
    split
    · exact Nat.le_refl _
    · exact List.length_filter_le _ _
theorem coreL_len (gs : List Int) : (coreL gs).length ≤ gs.length := Nat.le_trans (List.length_filter_le _ _) (Nat.le_trans (compact_le _) (by rw [srt_len]; exact Nat.le_refl _))
namespace I
open G H
attribute [local irreducible] WC WL WD YO LO LoopEnd W.Fin Scalar SliceT FieldAt Row ArrT AllocT KnS Has W.One SrcE IntT
set_option maxHeartbeats 4000000 in
set_option maxRecDepth 60000 in
theorem solvable_c (D : Nat) [Den D] (vb ug ul : Value) (ms : Nat → QM) (bs : List Bd) (gs list : List Int) (n : Nat) (hv : Vld n bs) (hf : Fit bs) (hg : gs.length = bs.length) :
    FnB Tryz.prog 93 [.agg #[.int .i64 n, vb], ug, ul] [] [fB D vb ms bs, sI ug gs, sI ul list] (IsV (.bool (sv n bs gs list))) := by
  refine fn_of [(0, (.agg #[.int .i64 n, vb])), (1, ug), (2, ul)] 49 Tryz.func93 rfl Tryz.ntmps93 (by kernel_rfl) rfl suA fun h0 => ?_
  have hvl := hv.l
  refine WC.addNil 59 6 ?_
  repeat' (first | refine go ?_ | refine goX ?_ | refine goB ?_ | (refine goG ?_; intro g) | (refine goV ?_; intro v))
  revert g; intro g7; revert g; intro g3
  refine WC.lp (σ := Nat × Value × (Nat → QM)) (fun s => [(18, .int .i64 (s.1 : Int)), (16, vb), (17, .int .i64 (bs.length : Int)), (7, ptr g7), (1, ug), (2, ul)])
    (fun s => [Ow.cells g7 103 [.int .i64 n, s.2.1], Ow.slice s.2.1 59 6 (bcells (partK bs gs list s.1) s.2.2)])
    (fun s => [mB D s.2.2 (partK bs gs list s.1), ge h0, fB D vb ms bs, sI ug gs, sI ul list]) (fun s => s.1 ≤ bs.length) (fun s => bs.length - s.1) (0, .slice none 0 0, fun _ => m00) (Nat.zero_le _) ?_ suA slA (.cons hasmB0 sfA)
  rintro ⟨i, vp, mp⟩ hi
  simp only at hi ⊢
  have hpl := partK_len bs gs list i
  by_cases c : i < bs.length
  · have hps := partK_succ bs gs list i
    refine WC.fact (isQ (qv (ms i)) (wq D (bg bs i).w)) (W.Has.b (W.Has.bm (v := vb) hmA) c) ?_
    by_cases c1 : gs.getD i 0 < 0
    · have hin : inG gs list i = true := by unfold inG; rw [decide_eq_true c1, Bool.true_or]
      rw [if_pos hin] at hps
      repeat' (first | refine go ?_ | refine goX ?_ | refine goB ?_ | (refine goG ?_; intro g) | (refine goV ?_; intro v))
      refine LoopEnd.mk (i + 1, v, upd mp (partK bs gs list i).length (ms i)) (by show i + 1 ≤ bs.length; omega) (by show bs.length - (i + 1) < bs.length - i; omega) suA (by show List.Sublist [_, Ow.slice v 59 6 (bcells (partK bs gs list (i + 1)) _)] _; rw [hps]; exact slA) (HasAll.cons ?_ sfA)
      show Has _ (mB D _ (partK bs gs list (i + 1)))
      rw [hps]
      exact W.Has.mBapp hmA hmA
    · repeat' (first | refine go ?_ | refine goX ?_ | refine goB ?_ | (refine goG ?_; intro g) | (refine goV ?_; intro v))
      first | refine WL.callV (contains_c ul list (gs.getD i 0)) ?_ | refine WD.callV (contains_c ul list (gs.getD i 0)) ?_
      by_cases c2 : gs.getD i 0 ∈ list
      · have hin : inG gs list i = true := by unfold inG; rw [decide_eq_true c2, Bool.or_true]
        rw [if_pos hin] at hps
        rw [decide_eq_true c2]
        repeat' (first | refine go ?_ | refine goX ?_ | refine goB ?_ | (refine goG ?_; intro g) | (refine goV ?_; intro v))
        refine LoopEnd.mk (i + 1, v, upd mp (partK bs gs list i).length (ms i)) (by show i + 1 ≤ bs.length; omega) (by show bs.length - (i + 1) < bs.length - i; omega) suA (by show List.Sublist [_, Ow.slice v 59 6 (bcells (partK bs gs list (i + 1)) _)] _; rw [hps]; exact slA) (HasAll.cons ?_ sfA)
        show Has _ (mB D _ (partK bs gs list (i + 1)))
        rw [hps]
        exact W.Has.mBapp hmA hmA
      · have hin : inG gs list i = false := by unfold inG; rw [decide_eq_false c2, decide_eq_false c1]; rfl
        rw [if_neg (by rw [hin]; simp)] at hps
        rw [decide_eq_false c2]
        repeat' (first | refine go ?_ | refine goX ?_ | refine goB ?_ | (refine goG ?_; intro g) | (refine goV ?_; intro v))
        exact LoopEnd.mk (i + 1, vp, mp) (by show i + 1 ≤ bs.length; omega) (by show bs.length - (i + 1) < bs.length - i; omega) suA (by show List.Sublist [_, Ow.slice vp 59 6 (bcells (partK bs gs list (i + 1)) mp)] _; rw [hps]; exact slA) (HasAll.cons (by rw [hps]; exact hmA) sfA)
  · obtain rfl : i = bs.length := by omega
    repeat' (first | refine go ?_ | refine goX ?_ | refine goB ?_ | (refine goG ?_; intro g) | (refine goV ?_; intro v))
    refine WL.freezeB (D := D) (el := 59) vp mp (partK bs gs list bs.length) (by repeat (first | exact Sel.head | apply Sel.tail)) hmA ?_
    first | refine WL.callK (greatest_c D vp mp (part bs gs list) n (hv.part gs list) (by have := part_abs bs gs list; unfold Fit at *; omega)) ?_ | refine WD.callK (greatest_c D vp mp (part bs gs list) n (hv.part gs list) (by have := part_abs bs gs list; unfold Fit at *; omega)) ?_ | refine LO.callM (greatest_c D vp mp (part bs gs list) n (hv.part gs list) (by have := part_abs bs gs list; unfold Fit at *; omega)) ?_
    rintro rv bb GG hG
    unfold IsGr at hG
    have hsv : sv n bs gs list = (greatP n (part bs gs list)).isSome := rfl
    cases hgr : greatP n (part bs gs list) with
    | some x =>
      rw [hgr] at hG hsv
      obtain ⟨u, mx, rfl, rfl, rfl⟩ := hG
      repeat' (first | refine go ?_ | refine goX ?_ | refine goB ?_ | (refine goG ?_; intro g) | (refine goV ?_; intro v))
      exact WC.ret (Fin.v (ResE.t1 rfl rfl) meA (by rw [hsv]; rfl))
    | none =>
      rw [hgr] at hG hsv
      obtain ⟨rfl, rfl, rfl⟩ := hG
      repeat' (first | refine go ?_ | refine goX ?_ | refine goB ?_ | (refine goG ?_; intro g) | (refine goV ?_; intro v))
      exact WC.ret (Fin.v (ResE.t1 rfl rfl) meA (by rw [hsv]; rfl))
end I
end Go.Proofs.YthggloiigkbfeaaGreat
namespace Go.Proofs.YthggloiigkbfeaaGreat
open W Go.RowKit
namespace I
open G H
attribute [local irreducible] WC WL WD YO LO LoopEnd W.Fin Scalar SliceT FieldAt Row ArrT AllocT KnS Has W.One SrcE IntT
set_option maxHeartbeats 8000000 in
set_option maxRecDepth 60000 in
theorem core_c (D : Nat) [Den D] (vb ug : Value) (ms : Nat → QM) (bs : List Bd) (gs : List Int) (n : Int) (hf : Fit bs) :
    FnB Tryz.prog 40 [.int .i64 n, vb, ug] [] [fB D vb ms bs, sI ug gs] (IsCo (cor n bs gs)) := by
  refine fn_of [(0, (.int .i64 n)), (1, vb), (2, ug)] 62 Tryz.func40 rfl Tryz.ntmps40 (by kernel_rfl) rfl suA fun h0 => ?_
  have bad : ∀ {F : List Fct}, cor n bs gs = ([], 1) → HasAll F [sI (.slice none 0 0) (cor n bs gs).1] := fun h => .cons (by rw [h]; exact nil0) .nil
  repeat' (first | refine go ?_ | refine goX ?_ | refine goB ?_ | (refine goG ?_; intro g) | (refine goV ?_; intro v))
  first | refine WL.callV (made_c D vb ms bs n) ?_ | refine WD.callV (made_c D vb ms bs n) ?_
  cases hvb : validB n bs with
  | false =>
    have hc : cor n bs gs = ([], 1) := if_neg (by rw [hvb]; simp)
    repeat' (first | refine go ?_ | refine goX ?_ | refine goB ?_ | (refine goG ?_; intro g) | (refine goV ?_; intro v))
    exact WC.ret (Fin.p [] [sI (.slice none 0 0) (cor n bs gs).1] (ResE.t2 rfl rfl rfl) meA (List.nil_sublist _) (bad hc) ⟨_, by rw [hc], rfl, rfl⟩)
  | true =>
    obtain ⟨n, rfl, hv⟩ := Vld.of hvb
    have hvl := hv.l
    by_cases c1 : (gs.length : Int) = bs.length
    · repeat' (first | refine go ?_ | refine goX ?_ | refine goB ?_ | (refine goG ?_; intro g) | (refine goV ?_; intro v))
      have hgl : gs.length ≤ 1000000 := by omega
      have hsl : (srt gs).length ≤ 1000000 := by rw [srt_len]; exact hgl
      have hcl : (Lib.compact (srt gs)).length ≤ 1000000 := Nat.le_trans (compact_le _) hsl
      revert g; intro g8
      refine WL.callV (containsF_c ug gs 87 [] ttF (fun x => decide (x < -1)) core1_c) (hF := .cons (HasB.f hmA) (.cons (HasB.f has_tt) .nil)) ?_
      by_cases c2 : ∃ x ∈ gs, decide (x < -1) = true
      · have hc : cor n bs gs = ([], 1) := if_neg (fun h => h.2.2 c2)
        rw [decide_eq_true c2]
        repeat' (first | refine go ?_ | refine goX ?_ | refine goB ?_ | (refine goG ?_; intro g) | (refine goV ?_; intro v))
        exact WC.ret (Fin.p [] [sI (.slice none 0 0) (cor n bs gs).1] (ResE.t2 rfl rfl rfl) meA (List.nil_sublist _) (bad hc) ⟨_, by rw [hc], rfl, rfl⟩)
      · have hcor : cor n bs gs = if sv n bs gs (coreL gs) = true then ([], 6) else ((coreL gs).foldl (coreS n bs gs) (coreL gs), 0) := by
          unfold cor; rw [if_pos ⟨hvb, by omega, c2⟩]; rfl
        rw [decide_eq_false c2]
        repeat' (first | refine go ?_ | refine goX ?_ | refine goB ?_ | (refine goG ?_; intro g) | (refine goV ?_; intro v))
        first | refine WL.callK (values_c ug gs) ?_ | refine WD.callK (values_c ug gs) ?_ | refine LO.callM (values_c ug gs) ?_
        rintro rv bb GG ⟨gi, rfl, rfl, rfl⟩
        simp only [List.nil_append, List.cons_append]
        repeat' (first | refine go ?_ | refine goX ?_ | refine goB ?_ | (refine goG ?_; intro g) | (refine goV ?_; intro v))
        first | refine WL.callO (sorted_c gi ug gs hgl) (fun rv => ?_) | refine WD.callO (sorted_c gi ug gs hgl) (fun rv => ?_)
        refine WL.callG [Ow.slice rv 3 1 (ints (srt gs))] _ (.refl _) (compactA_c rv (srt gs) hsl) ?_
        rintro rc bb GG ⟨rfl, rfl⟩
        simp only [List.nil_append, List.cons_append]
        repeat' (first | refine go ?_ | refine goX ?_ | refine goB ?_ | (refine goG ?_; intro g) | (refine goV ?_; intro v))
        refine WL.callG [Ow.slice rc 3 1 (ints (Lib.compact (srt gs)))] _ (.refl _) (delNeg_c rc (Lib.compact (srt gs)) hcl) ?_ (hF := .cons has_tt .nil)
        rintro rd bb GG ⟨rfl, rfl⟩
        simp only [List.nil_append, List.cons_append]
        rw [show (Lib.compact (srt gs)).filter (fun x => !decide (x < 0)) = coreL gs from rfl]
        refine WL.freezeI (l := coreL gs) (v := rd) (el := 3) (by repeat (first | exact Sel.head | apply Sel.tail)) ?_
        repeat' (first | refine go ?_ | refine goX ?_ | refine goB ?_ | (refine goG ?_; intro g) | (refine goV ?_; intro v))
        have hll := coreL_len gs
        generalize hL : coreL gs = L at *
        first | refine WL.callV (solvable_c D vb ug rd ms bs gs L n hv hf (by omega)) ?_ | refine WD.callV (solvable_c D vb ug rd ms bs gs L n hv hf (by omega)) ?_
        by_cases c3 : sv n bs gs L = true
        · rw [if_pos c3] at hcor
          rw [c3]
          repeat' (first | refine go ?_ | refine goX ?_ | refine goB ?_ | (refine goG ?_; intro g) | (refine goV ?_; intro v))
          exact WC.ret (Fin.p [] [sI (.slice none 0 0) (cor n bs gs).1] (ResE.t2 rfl rfl rfl) meA (List.nil_sublist _) (.cons (by rw [hcor]; exact nil0) .nil) ⟨_, by rw [hcor], rfl, rfl⟩)
        · rw [if_neg c3] at hcor
          rw [Bool.eq_false_iff.2 c3]
          repeat' (first | refine go ?_ | refine goX ?_ | refine goB ?_ | (refine goG ?_; intro g) | (refine goV ?_; intro v))
          first | refine WL.callO (clone_c rd L (by omega)) (fun rv => ?_) | refine WD.callO (clone_c rd L (by omega)) (fun rv => ?_)
          refine WL.freezeI (l := L) (v := rv) (el := 3) (by repeat (first | exact Sel.head | apply Sel.tail)) ?_
          repeat' (first | refine go ?_ | refine goX ?_ | refine goB ?_ | (refine goG ?_; intro g) | (refine goV ?_; intro v))
          refine WC.lp (σ := Nat × Value) (fun s => [(46, .int .i64 (s.1 : Int)), (10, s.2), (44, rv), (45, .int .i64 (L.length : Int)), (8, ptr g8), (2, ug)])
            (fun _ => [Ow.cells g8 103 [.int .i64 n, vb]])
            (fun s => [sI s.2 ((L.take s.1).foldl (coreS n bs gs) L), sI rv L, ge h0, fB D vb ms bs, sI ug gs]) (fun s => s.1 ≤ L.length) (fun s => L.length - s.1) (0, rd) (Nat.zero_le _) ?_ suA slA sfA
          rintro ⟨i, lv⟩ hi
          simp only at hi ⊢
          have hfl := coreS_len n bs gs (L.take i) L
          by_cases c : i < L.length
          · have hst : (L.take (i + 1)).foldl (coreS n bs gs) L = coreS n bs gs ((L.take i).foldl (coreS n bs gs) L) (L.getD i 0) := by
              rw [List.take_succ_eq_append_getElem c, List.foldl_append, List.getD_eq_getElem?_getD, List.getElem?_eq_getElem c]; rfl
            generalize (L.take i).foldl (coreS n bs gs) L = M at *
            repeat' (first | refine go ?_ | refine goX ?_ | refine goB ?_ | (refine goG ?_; intro g) | (refine goV ?_; intro v))
            revert g; intro g12
            refine WL.keep (g := g12) (by repeat (first | exact Rem.head | apply Rem.tail)) ?_
            first | refine WL.callO (clone_c lv M (by omega)) (fun rv => ?_) | refine WD.callO (clone_c lv M (by omega)) (fun rv => ?_)
            repeat' (first | refine go ?_ | refine goX ?_ | refine goB ?_ | (refine goG ?_; intro g) | (refine goV ?_; intro v))
            refine WL.callG [Ow.slice rv 3 1 (ints M)] _ (.refl _) (delEq_c rv M (L.getD i 0) g12 (by omega)) ?_
            rintro rr bb GG ⟨rfl, rfl⟩
            simp only [List.nil_append, List.cons_append]
            have hrl : (M.filter fun x => !decide (x = L.getD i 0)).length ≤ M.length := List.length_filter_le _ _
            have hcs : coreS n bs gs M (L.getD i 0) = if sv n bs gs (M.filter fun x => !decide (x = L.getD i 0)) = true then M else M.filter fun x => !decide (x = L.getD i 0) := rfl
            generalize M.filter (fun x => !decide (x = L.getD i 0)) = M2 at *
            refine WL.freezeI (l := M2) (v := rr) (el := 3) (by repeat (first | exact Sel.head | apply Sel.tail)) ?_
            repeat' (first | refine go ?_ | refine goX ?_ | refine goB ?_ | (refine goG ?_; intro g) | (refine goV ?_; intro v))
            first | refine WL.callV (solvable_c D vb ug rr ms bs gs M2 n hv hf (by omega)) ?_ | refine WD.callV (solvable_c D vb ug rr ms bs gs M2 n hv hf (by omega)) ?_
            by_cases c4 : sv n bs gs M2 = true
            · rw [if_pos c4] at hcs
              rw [c4]
              repeat' (first | refine go ?_ | refine goX ?_ | refine goB ?_ | (refine goG ?_; intro g) | (refine goV ?_; intro v))
              exact LoopEnd.mk (i + 1, lv) (by show i + 1 ≤ L.length; omega) (by show L.length - (i + 1) < L.length - i; omega) suA slA (HasAll.cons (by show Has _ (sI lv ((L.take (i + 1)).foldl (coreS n bs gs) L)); rw [hst, hcs]; exact hmA) sfA)
            · rw [if_neg c4] at hcs
              rw [Bool.eq_false_iff.2 c4]
              repeat' (first | refine go ?_ | refine goX ?_ | refine goB ?_ | (refine goG ?_; intro g) | (refine goV ?_; intro v))
              exact LoopEnd.mk (i + 1, rr) (by show i + 1 ≤ L.length; omega) (by show L.length - (i + 1) < L.length - i; omega) suA slA (HasAll.cons (by show Has _ (sI rr ((L.take (i + 1)).foldl (coreS n bs gs) L)); rw [hst, hcs]; exact hmA) sfA)
          · obtain rfl : i = L.length := by omega
            rw [List.take_of_length_le (Nat.le_refl _)]
            repeat' (first | refine go ?_ | refine goX ?_ | refine goB ?_ | (refine goG ?_; intro g) | (refine goV ?_; intro v))
            exact WC.ret (Fin.p [] [sI lv (cor n bs gs).1] (ResE.t2 rfl rfl rfl) meA (List.nil_sublist _) (by rw [hcor]; exact haA) ⟨_, by rw [hcor], rfl, rfl⟩)
    · have hc : cor n bs gs = ([], 1) := if_neg (by omega)
      repeat' (first | refine go ?_ | refine goX ?_ | refine goB ?_ | (refine goG ?_; intro g) | (refine goV ?_; intro v))
      exact WC.ret (Fin.p [] [sI (.slice none 0 0) (cor n bs gs).1] (ResE.t2 rfl rfl rfl) meA (List.nil_sublist _) (bad hc) ⟨_, by rw [hc], rfl, rfl⟩)
end I
end Go.Proofs.YthggloiigkbfeaaGreat
namespace Go.Proofs.YthggloiigkbfeaaGreat
open W Go.RowKit
variable {P : Program} {e : Env} {bx bx' : List Ow} {F : List Fct} {ty t el : TypeId} {v u : Value} {x y z : Operand} {D n k : Nat} {ms : Nat → QM} {m m1 m2 m3 : QM} {bs : List Bd} {b b1 b2 b3 : Bd} {q : Rat} {K : RPost} {i1 i2 i3 : Int}
theorem LO.bsI2 (h1 : ev e x = some (.int .i64 i1)) (h2 : ev e y = some (.int .i64 i2)) (h : ∀ v, K v (Ow.slice v 3 1 (ints [i1, i2]) :: bx) F) : LO Tryz.prog (.buildSlice 22 2 #[(0, x), (1, y)]) ty e bx F K := LO.buildSlice (parts := [(0, x), (1, y)]) (us := [.int .i64 i1, .int .i64 i2]) (cs := ints [i1, i2]) (.cons h1 (.cons h2 .nil)) (fun _ => by kernel_rfl) rfl (by decide) h
theorem LO.bsI3 (h1 : ev e x = some (.int .i64 i1)) (h2 : ev e y = some (.int .i64 i2)) (h3 : ev e z = some (.int .i64 i3)) (h : ∀ v, K v (Ow.slice v 3 1 (ints [i1, i2, i3]) :: bx) F) : LO Tryz.prog (.buildSlice 22 3 #[(0, x), (1, y), (2, z)]) ty e bx F K := LO.buildSlice (parts := [(0, x), (1, y), (2, z)]) (us := [.int .i64 i1, .int .i64 i2, .int .i64 i3]) (cs := ints [i1, i2, i3]) (.cons h1 (.cons h2 (.cons h3 .nil))) (fun _ => by kernel_rfl) rfl (by decide) h
def up3 (m1 m2 m3 : QM) : Nat → QM := upd (upd (upd (fun _ => m00) 0 m1) 1 m2) 2 m3
theorem bcells3 : bcells [b1, b2, b3] (up3 m1 m2 m3) = bcs b1 m1 ++ (bcs b2 m2 ++ bcs b3 m3) := by
  have h0 : bcells [] (fun _ => m00) = [] := by kernel_rfl
  have h1 := bcells_app (bs := []) (b := b1) (ms := fun _ => m00) (m := m1)
  have h2 := bcells_app (bs := [b1]) (b := b2) (ms := upd (fun _ => m00) 0 m1) (m := m2)
  have h3 := bcells_app (bs := [b1, b2]) (b := b3) (ms := upd (upd (fun _ => m00) 0 m1) 1 m2) (m := m3)
  rw [h0] at h1
  unfold up3
  refine h3.symm.trans ?_
  rw [← List.append_assoc]
  refine congrArg (· ++ bcs b3 m3) (h2.symm.trans ?_)
  exact congrArg (· ++ bcs b2 m2) h1.symm
theorem qcells3 : qcells 3 (up3 m1 m2 m3) = qcs m1 ++ (qcs m2 ++ qcs m3) := by
  have h0 : qcells 0 (fun _ => m00) = [] := by kernel_rfl
  have h1 := qcells_app (n := 0) (ms := fun _ => m00) (m := m1)
  have h2 := qcells_app (n := 1) (ms := upd (fun _ => m00) 0 m1) (m := m2)
  have h3 := qcells_app (n := 2) (ms := upd (upd (fun _ => m00) 0 m1) 1 m2) (m := m3)
  rw [h0] at h1
  unfold up3
  refine h3.symm.trans ?_
  rw [← List.append_assoc]
  refine congrArg (· ++ qcs m3) (h2.symm.trans ?_)
  exact congrArg (· ++ qcs m2) h1.symm
theorem LO.bsB3 (h1 : ev e x = some (bv b1 m1)) (h2 : ev e y = some (bv b2 m2)) (h3 : ev e z = some (bv b3 m3)) (h : ∀ v, K v (Ow.slice v 59 6 (bcells [b1, b2, b3] (up3 m1 m2 m3)) :: bx) F) : LO Tryz.prog (.buildSlice 32 3 #[(0, x), (1, y), (2, z)]) ty e bx F K := LO.buildSlice (parts := [(0, x), (1, y), (2, z)]) (us := [bv b1 m1, bv b2 m2, bv b3 m3]) (cs := bcells [b1, b2, b3] (up3 m1 m2 m3)) (.cons h1 (.cons h2 (.cons h3 .nil))) (fun _ => by rw [bcells3]; kernel_rfl) rfl (by decide) h
theorem LO.bsR3 (h1 : ev e x = some (qv m1)) (h2 : ev e y = some (qv m2)) (h3 : ev e z = some (qv m3)) (h : ∀ v, K v (Ow.slice v 37 4 (qcells 3 (up3 m1 m2 m3)) :: bx) F) : LO Tryz.prog (.buildSlice 38 3 #[(0, x), (1, y), (2, z)]) ty e bx F K := LO.buildSlice (parts := [(0, x), (1, y), (2, z)]) (us := [qv m1, qv m2, qv m3]) (cs := qcells 3 (up3 m1 m2 m3)) (.cons h1 (.cons h2 (.cons h3 .nil))) (fun _ => by rw [qcells3]; kernel_rfl) rfl (by decide) h
theorem W.Has.mB3 (h1 : Has F (isQ (qv m1) (wq D b1.w))) (h2 : Has F (isQ (qv m2) (wq D b2.w))) (h3 : Has F (isQ (qv m3) (wq D b3.w))) : Has F (mB D (up3 m1 m2 m3) [b1, b2, b3]) := fun p hf i hi => by
  match i, hi with
  | 0, _ => exact h1 p hf
  | 1, _ => exact h2 p hf
  | 2, _ => exact h3 p hf
  | i + 3, hi => exact absurd hi (by simp)
theorem W.Has.mQ3 (h1 : Has F (isQ (qv m1) (wq D i1))) (h2 : Has F (isQ (qv m2) (wq D i2))) (h3 : Has F (isQ (qv m3) (wq D i3))) : Has F (mQ D (up3 m1 m2 m3) [i1, i2, i3]) := fun p hf i hi => by
  match i, hi with
  | 0, _ => exact h1 p hf
  | 1, _ => exact h2 p hf
  | 2, _ => exact h3 p hf
  | i + 3, hi => exact absurd hi (by simp)
end Go.Proofs.YthggloiigkbfeaaGreat
