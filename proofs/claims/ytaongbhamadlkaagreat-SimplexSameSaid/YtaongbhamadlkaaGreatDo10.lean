/- Lemmas for the proof of a law: Contracts of simplex's sums. Conditions: none. -/
import Derived.Test.YtaongbhamadlkaaGreatDo8
import Derived.Test.YtaongbhamadlkaaGreatDo9
import Derived.Test.YtaongbhamadlkaaGreatDo7
import Derived.Test.YtaongbhamadlkaaGreatDo2
import Derived.Shelf.SlGeneric
import Derived.Shelf.SortM.Plain
import Derived.Shelf.SortM.SortNone
import Derived.Ground.SlgmProg
import Derived.Shelf.Slices.CompactI
import Derived.Shelf.SlicesE.DeleteFunc
import Derived.RangeFuncBox
import Derived.OwnWalkIn
import Derived.TacticsInMore
import Derived.LoopNIn
import Derived.LoopIn
set_option linter.unusedVariables false
set_option linter.unusedSimpArgs false
set_option linter.unusedSectionVars false
namespace Go.Proofs.YtaongbhamadlkaaGreat
open W Go.RowKit
def sumsOk (p : X.Lp) (yn : Nat) (y g : Nat → Rat) : Bool := decide (yn = p.m) && !(X.fstT (fun r => decide (y r < 0)) yn 0).isSome && !(X.fstT (fun k => decide (¬ (X.sm p.m fun r => p.a r k * y r) = g k)) p.v 0).isSome
def sumsV (p : X.Lp) (y : Nat → Rat) : Rat := X.sm p.m fun r => p.b r * y r
def IsSums (p : X.Lp) (yn : Nat) (y g : Nat → Rat) : RPost := fun v B G => ∃ m, v = .tuple #[qv m, .bool (sumsOk p yn y g)] ∧ B = [] ∧ G = [isQ (qv m) (if sumsOk p yn y g = true then sumsV p y else 0)]
def clx (c : Nat → Rat) (k j : Nat) : Rat := if j < k then c j else 0
theorem clx_up {c : Nat → Rat} {k : Nat} (i : Nat) : upd (clx c k) k (c k) i = clx c (k + 1) i := by
  unfold clx upd
  by_cases e : i = k
  · subst e; simp
  · by_cases c2 : i < k
    · simp [e, c2, show i < k + 1 by omega]
    · simp [e, c2, show ¬ i < k + 1 by omega]
namespace Z
attribute [local irreducible] WC WL WD YO LO LoopEnd W.Fin Scalar SliceT FieldAt Row ArrT AllocT KnS Has W.One SrcE IntT
set_option maxHeartbeats 4000000 in
set_option maxRecDepth 60000 in
theorem containsF_c (v0 : Value) (n : Nat) (ms : Nat → QM) (q : Nat → Rat) (f : FuncId) (first cap : List Value) (Fc : List Fct) (p : Nat → Bool)
    (hf : ∀ i, i < n → FnB Tryz.prog f (first ++ [qv (ms i)] ++ cap) [] (isQ (qv (ms i)) (q i) :: Fc) (IsV (.bool (p i)))) :
    FnB Tryz.prog 175 [v0, .func (.func f) first.toArray cap.toArray] [] (fF v0 n ms q :: Fc) (IsV (.bool (X.fstT p n 0).isSome)) := by
  refine fn_of [(0, v0), (1, (.func (.func f) first.toArray cap.toArray))] 9 Tryz.func175 rfl Tryz.ntmps175 (by kernel_rfl) rfl suA fun h0 => ?_
  repeat' (first | refine gA ?_ | (refine goG ?_; intro g) | (refine goV ?_; intro v))
  refine WL.callV (indexF_c v0 n ms q f first cap Fc p hf) ?_ (hF := .cons (.f hmA) (hasB_tail fun _ h => by (repeat (first | exact h | apply List.mem_cons_of_mem))))
  cases hp : X.fstT p n 0 with
  | none =>
    rw [show optI none = -1 from rfl]
    repeat' (first | refine gA ?_ | (refine goG ?_; intro g) | (refine goV ?_; intro v))
    refine WC.ret ?_
    exact Fin.v (ResE.t1 rfl rfl) meA rfl
  | some k =>
    rw [show optI (some k) = (k : Int) from rfl]
    repeat' (first | refine gA ?_ | (refine goG ?_; intro g) | (refine goV ?_; intro v))
    refine WC.ret ?_
    exact Fin.v (ResE.t1 rfl rfl) meA rfl
set_option maxHeartbeats 4000000 in
set_option maxRecDepth 60000 in
theorem negf_c (m : QM) (q : Rat) : FnB Tryz.prog 176 [qv m] [] [isQ (qv m) q] (IsV (.bool (decide (q < 0)))) := by
  refine fn_of [(0, (qv m))] 6 Tryz.func176 rfl Tryz.ntmps176 (by kernel_rfl) rfl suA fun h0 => ?_
  have hs := @sgn_neg q
  repeat' (first | refine gA ?_ | (refine goG ?_; intro g) | (refine goV ?_; intro v))
  first | refine WL.callV (Zn.sign m q) ?_ | refine WD.callV (Zn.sign m q) ?_
  by_cases c : q < 0
  · have c' := hs.2 c
    repeat' (first | refine gA ?_ | (refine goG ?_; intro g) | (refine goV ?_; intro v))
    refine WC.ret ?_
    exact Fin.v (ResE.t1 rfl rfl) meA (by rw [decide_eq_true c])
  · have c' : 0 ≤ sgn q.num := Int.not_lt.1 fun h => c (hs.1 h)
    repeat' (first | refine gA ?_ | (refine goG ?_; intro g) | (refine goV ?_; intro v))
    refine WC.ret ?_
    exact Fin.v (ResE.t1 rfl rfl) meA (by rw [decide_eq_false c])
set_option maxHeartbeats 4000000 in
set_option maxRecDepth 60000 in
theorem aof_c (M : Pm) (p : X.Lp) (g9 r k : Nat) (hr : r < p.m) (hk : k < p.v) : FnB Tryz.prog 178 [lnv M r, ptr g9] [] [ce g9 3 [.int .i64 (k : Int)], fP M p] (IsR (p.a r k)) := by
  refine fn_of [(0, (lnv M r)), (1, (ptr g9))] 9 Tryz.func178 rfl Tryz.ntmps178 (by kernel_rfl) rfl suA fun h0 => ?_
  refine WC.fact (fF (M.av r) p.v (M.ma r) (p.a r)) (W.Has.pa (M := M) (m := p.m) (gn := p.v) (ln := fun _ => p.v) (a := p.a) (b := p.b) (g := p.g) hmA hr) ?_
  refine WC.fact (isQ (qv (M.ma r k)) (p.a r k)) (W.Has.q (W.Has.fm (v := M.av r) hmA) hk) ?_
  refine WC.fact (isQ (qv (M.mb r)) (p.b r)) (W.Has.pbq (M := M) (m := p.m) (gn := p.v) (ln := fun _ => p.v) (a := p.a) (b := p.b) (g := p.g) hmA hr) ?_
  repeat' (first | refine gA ?_ | (refine goG ?_; intro g) | (refine goV ?_; intro v))
  refine WC.ret ?_
  exact Fin.p [] [isQ (qv (M.ma r k)) (p.a r k)] (ResE.cV rfl rfl meA T.r31 rfl) meA (List.nil_sublist _) haA ⟨_, rfl, rfl, rfl⟩
set_option maxHeartbeats 4000000 in
set_option maxRecDepth 60000 in
theorem bof_c (M : Pm) (p : X.Lp) (r : Nat) (hr : r < p.m) : FnB Tryz.prog 179 [lnv M r] [] [fP M p] (IsR (p.b r)) := by
  refine fn_of [(0, (lnv M r))] 5 Tryz.func179 rfl Tryz.ntmps179 (by kernel_rfl) rfl suA fun h0 => ?_
  refine WC.fact (fF (M.av r) p.v (M.ma r) (p.a r)) (W.Has.pa (M := M) (m := p.m) (gn := p.v) (ln := fun _ => p.v) (a := p.a) (b := p.b) (g := p.g) hmA hr) ?_
  refine WC.fact (isQ (qv (M.mb r)) (p.b r)) (W.Has.pbq (M := M) (m := p.m) (gn := p.v) (ln := fun _ => p.v) (a := p.a) (b := p.b) (g := p.g) hmA hr) ?_
  repeat' (first | refine gA ?_ | (refine goG ?_; intro g) | (refine goV ?_; intro v))
  refine WC.ret ?_
  exact Fin.p [] [isQ (qv (M.mb r)) (p.b r)] (ResE.cV rfl rfl meA T.r31 rfl) meA (List.nil_sublist _) haA ⟨_, rfl, rfl, rfl⟩
set_option maxHeartbeats 4000000 in
set_option maxRecDepth 60000 in
theorem column_c (M : Pm) (p : X.Lp) (K g3 g4 : Nat) (yv : Value) (my : Nat → QM) (y : Nat → Rat) (f : FuncId) (first cap : List Value) (Fc : List Fct) (c : Nat → Rat)
    (hf : ∀ r, r < p.m → FnB Tryz.prog f (first ++ [lnv M r] ++ cap) [] Fc (IsR (c r))) (hd : Dok p.m K) (hm : p.m ≤ 1000) (hc : ∀ r, r < p.m → Sq K (c r)) (hy : ∀ r, r < p.m → Sq K (y r)) :
    FnB Tryz.prog 177 [.func (.func f) first.toArray cap.toArray, ptr g3, ptr g4] [] (ce g3 26 (pcs M p.v) :: ce g4 24 [yv] :: fF yv p.m my y :: fP M p :: Fc) (IsR (X.sm p.m fun r => c r * y r)) := by
  refine fn_of [(0, (.func (.func f) first.toArray cap.toArray)), (1, (ptr g3)), (2, (ptr g4))] 30 Tryz.func177 rfl Tryz.ntmps177 (by kernel_rfl) rfl suA fun h0 => ?_
  repeat' (first | refine gA ?_ | (refine goG ?_; intro g) | (refine goV ?_; intro v))
  revert v; intro lw
  revert g; intro g2
  refine WC.lp (σ := Nat × (Nat → QM)) (fun st => [(15, .int .i64 (st.1 : Int)), (14, .int .i64 (p.m : Int)), (13, M.lv), (5, lw), (0, .func (.func f) first.toArray cap.toArray), (1, ptr g3), (2, ptr g4), (4, ptr g2)]) (fun st => [Ow.slice lw 31 4 (qcells p.m st.2), Ow.cells g2 31 (qcs m00)])
    (fun st => mF p.m st.2 (clx c st.1) :: ge h0 :: ce g3 26 (pcs M p.v) :: ce g4 24 [yv] :: fF yv p.m my y :: fP M p :: Fc) (fun st => st.1 ≤ p.m) (fun st => p.m - st.1) (0, fun _ => m00) (Nat.zero_le _) ?_ (hG := .cons ((W.Has.mF0 p.m).mFsame fun i _ => by simp [clx]) (.cons hmA (.cons hmA (.cons hmA (.cons hmA (.cons hmA (HasAll.tail fun _ h => by (repeat (first | exact h | apply List.mem_cons_of_mem)))))))))
  rintro ⟨k, mx⟩ hk
  simp only at hk ⊢
  by_cases ck : k < p.m
  · refine WC.fact (isQ (qv (M.mb k)) (p.b k)) (W.Has.pbq (M := M) (m := p.m) (gn := p.v) (ln := fun _ => p.v) (a := p.a) (b := p.b) (g := p.g) hmA ck) ?_
    refine WC.fact (fF (M.av k) p.v (M.ma k) (p.a k)) (W.Has.pa (M := M) (m := p.m) (gn := p.v) (ln := fun _ => p.v) (a := p.a) (b := p.b) (g := p.g) hmA ck) ?_
    repeat' (first | refine gA ?_ | (refine goG ?_; intro g) | (refine goV ?_; intro v))
    refine WL.callC first cap (vs := [lnv M k]) (hf k ck) ?_ (hF := HasAll.tail fun _ h => by (repeat (first | exact h | apply List.mem_cons_of_mem)))
    rintro _ _ _ ⟨m1, rfl, rfl, rfl⟩
    simp only [List.nil_append, List.cons_append]
    refine WL.fact' (mF p.m (upd mx k m1) (clx c (k + 1))) ((W.Has.mFset (k := k) (ms := mx) (m := m1) (qf := clx c k) hmA hmA).mFsame fun i _ => clx_up i) ?_
    repeat' (first | refine gA ?_ | (refine goG ?_; intro g) | (refine goV ?_; intro v))
    exact LoopEnd.mk (k + 1, _) (by show k + 1 ≤ p.m; omega) (by show p.m - (k + 1) < p.m - k; omega) (hG := .cons hmA (.cons hmA (.cons hmA (.cons hmA (.cons hmA (.cons hmA (HasAll.tail fun _ h => by (repeat (first | exact h | apply List.mem_cons_of_mem)))))))))
  · obtain rfl : k = p.m := by omega
    repeat' (first | refine gA ?_ | (refine goG ?_; intro g) | (refine goV ?_; intro v))
    refine WL.freezeF lw p.m mx (clx c p.m) (by repeat (first | exact Sel.head | apply Sel.tail)) hmA ?_
    have he : (X.sm p.m fun r => clx c p.m r * y r) = X.sm p.m fun r => c r * y r := X.sm_congr fun r hr => by unfold clx; rw [if_pos hr]
    refine WL.callK (dot_c lw yv p.m K mx my (clx c p.m) y (by omega) hd (fun r hr => by unfold clx; rw [if_pos hr]; exact hc r hr) hy) ?_
    rw [he]
    rintro _ _ _ ⟨m1, rfl, rfl, rfl⟩
    simp only [List.nil_append, List.cons_append]
    repeat' (first | refine gA ?_ | (refine goG ?_; intro g) | (refine goV ?_; intro v))
    refine WC.ret ?_
    exact Fin.p [] [isQ (qv m1) (X.sm p.m fun r => c r * y r)] (ResE.cV rfl rfl meA T.r31 rfl) meA (List.nil_sublist _) haA ⟨_, rfl, rfl, rfl⟩
set_option maxHeartbeats 4000000 in
set_option maxRecDepth 60000 in
theorem sums_c (M : Pm) (p : X.Lp) (K yn : Nat) (yv gw : Value) (my mg : Nat → QM) (y gf : Nat → Rat) (hd : Dok p.m K) (hv : p.v ≤ 1000) (hm : p.m ≤ 1000) (ha : ∀ r, r < p.m → ∀ k, k < p.v → Sq K (p.a r k)) (hb : ∀ r, r < p.m → Sq K (p.b r)) (hy : ∀ r, r < yn → Sq K (y r)) :
    FnB Tryz.prog 129 [pgv M p.v, yv, gw] [] [fP M p, fF yv yn my y, fF gw p.v mg gf] (IsSums p yn y gf) := by
  refine fn_of [(0, (pgv M p.v)), (1, yv), (2, gw)] 40 Tryz.func129 rfl Tryz.ntmps129 (by kernel_rfl) rfl suA fun h0 => ?_
  have zero : sumsOk p yn y gf = false → IsSums p yn y gf (.tuple #[qv m00, .bool false]) [] [isQ (qv m00) 0] := fun h => ⟨m00, by rw [h], rfl, by rw [h]; rfl⟩
  refine WC.lenF (v := M.lv) (m := p.m) (W.Has.pl (M := M) (m := p.m) (gn := p.v) (ln := fun _ => p.v) (a := p.a) (b := p.b) (g := p.g) hmA) fun hmm => ?_
  by_cases c : yn = p.m
  · subst c
    repeat' (first | refine gB ?_ | (refine gH ?_; intro g) | (refine gW ?_; intro v))
    rename_i g3 g4
    revert g; intro g6
    refine WL.callV (containsF_c yv p.m my y 176 [] [] [] (fun r => decide (y r < 0)) (fun r _ => negf_c (my r) (y r))) ?_ (hF := .cons (.f hmA) .nil)
    cases hx : (X.fstT (fun r => decide (y r < 0)) p.m 0).isSome with
    | true =>
      repeat' (first | refine gB ?_ | (refine gH ?_; intro g) | (refine gW ?_; intro v))
      refine WC.ret ?_
      have h0 : sumsOk p p.m y gf = false := by unfold sumsOk; rw [hx]; simp
      exact Fin.p [] [isQ (qv m00) 0] (ResE.cT rfl rfl meA T.r31 rfl rfl) meA (List.nil_sublist _) (.cons hasQ0 .nil) (zero h0)
    | false =>
      have hok : sumsOk p p.m y gf = !(X.fstT (fun k => decide (¬ (X.sm p.m fun r => p.a r k * y r) = gf k)) p.v 0).isSome := by unfold sumsOk; rw [hx]; simp
      repeat' (first | refine gB ?_ | (refine gH ?_; intro g) | (refine gW ?_; intro v))
      refine WC.keep (g := g3) (t := 26) (cs := pcs M p.v) (by repeat (first | exact Rem.head | apply Rem.tail)) ?_
      refine WC.keep (g := g4) (t := 24) (cs := [yv]) (by repeat (first | exact Rem.head | apply Rem.tail)) ?_
      refine WC.lp (σ := Nat) (fun k => [(24, .int .i64 (k : Int)), (23, .int .i64 (p.v : Int)), (8, .func (.func 177) #[] #[ptr g3, ptr g4]), (2, gw), (6, ptr g6)]) (fun _ => [Ow.cells g6 31 (qcs m00)])
        (fun _ => [ge h0, ce g3 26 (pcs M p.v), ce g4 24 [yv], fP M p, fF yv p.m my y, fF gw p.v mg gf]) (fun k => k ≤ p.v ∧ X.fstT (fun k => decide (¬ (X.sm p.m fun r => p.a r k * y r) = gf k)) p.v 0 = X.fstT (fun k => decide (¬ (X.sm p.m fun r => p.a r k * y r) = gf k)) (p.v - k) k) (fun k => p.v - k) 0 ⟨Nat.zero_le _, rfl⟩ ?_
      rintro k ⟨hk, he⟩
      by_cases ck : k < p.v
      · rw [fstT_at ck] at he
        refine WC.fact (isQ (qv (mg k)) (gf k)) (W.Has.q (W.Has.fm (v := gw) hmA) ck) ?_
        repeat' (first | refine gB ?_ | (refine gH ?_; intro g) | (refine gW ?_; intro v))
        revert g; intro g9
        refine WC.keep (g := g9) (t := 3) (cs := [.int .i64 (k : Int)]) (by repeat (first | exact Rem.head | apply Rem.tail)) ?_
        repeat refine WC.seq ?_
        refine WC.draw (id := 7) [0, 1, 3, 4, 5, 6, 8] (.held 0 (.held 1 (.held 3 (.held 4 (.held 5 (.held 6 (.loud 2 (.loud 7 (.held 8 (.done)))))))))) mixed (by kernel_rfl) ?_
        repeat' (first | refine gB ?_ | (refine gH ?_; intro g) | (refine gW ?_; intro v))
        refine WD.callC [] [ptr g3, ptr g4] (vs := [.func (.func 178) #[] #[ptr g9]]) (column_c M p K g3 g4 yv my y 178 [] [ptr g9] [ce g9 3 [.int .i64 (k : Int)], fP M p] (fun r => p.a r k) (fun r hr => aof_c M p g9 r k hr ck) hd hm (fun r hr => ha r hr k ck) hy) ?_
        rintro _ _ _ ⟨m1, rfl, rfl, rfl⟩
        simp only [List.nil_append, List.cons_append]
        repeat' (first | refine gB ?_ | (refine gH ?_; intro g) | (refine gW ?_; intro v))
        refine WD.callK (Zn.same m1 (mg k) (X.sm p.m fun r => p.a r k * y r) (gf k)) ?_
        rintro _ _ _ ⟨rfl, rfl, rfl⟩
        simp only [List.nil_append, List.cons_append]
        by_cases cs : (X.sm p.m fun r => p.a r k * y r) = gf k
        · rw [if_neg (by simp [cs])] at he
          rw [decide_eq_true cs]
          repeat' (first | refine gB ?_ | (refine gH ?_; intro g) | (refine gW ?_; intro v))
          exact LoopEnd.mk (k + 1) ⟨by omega, he⟩ (by omega)
        · rw [if_pos (decide_eq_true cs)] at he
          rw [decide_eq_false cs]
          repeat' (first | refine gB ?_ | (refine gH ?_; intro g) | (refine gW ?_; intro v))
          refine WC.ret ?_
          have h0 : sumsOk p p.m y gf = false := by rw [hok, he]; rfl
          exact Fin.p [] [isQ (qv m00) 0] (ResE.cT rfl rfl meA T.r31 rfl rfl) meA (List.nil_sublist _) (.cons hasQ0 .nil) (zero h0)
      · obtain rfl : k = p.v := by omega
        rw [Nat.sub_self, X.fstT] at he
        rw [he] at hok
        repeat' (first | refine gB ?_ | (refine gH ?_; intro g) | (refine gW ?_; intro v))
        refine WL.callC [] [ptr g3, ptr g4] (vs := [.func (.func 179) #[] #[]]) (column_c M p K g3 g4 yv my y 179 [] [] [fP M p] p.b (fun r hr => bof_c M p r hr) hd hm hb hy) ?_
        rintro _ _ _ ⟨m1, rfl, rfl, rfl⟩
        simp only [List.nil_append, List.cons_append]
        repeat' (first | refine gB ?_ | (refine gH ?_; intro g) | (refine gW ?_; intro v))
        refine WC.ret ?_
        exact Fin.p [] [isQ (qv m1) (X.sm p.m fun r => p.b r * y r)] (ResE.cT rfl rfl meA T.r31 rfl rfl) meA (List.nil_sublist _) haA ⟨m1, by rw [hok]; rfl, rfl, by rw [hok]; rfl⟩
  · repeat' (first | refine gB ?_ | (refine gH ?_; intro g) | (refine gW ?_; intro v))
    refine WC.ret ?_
    have h0 : sumsOk p yn y gf = false := by unfold sumsOk; rw [decide_eq_false c]; rfl
    exact Fin.p [] [isQ (qv m00) 0] (ResE.cT rfl rfl meA T.r31 rfl rfl) meA (List.nil_sublist _) (.cons hasQ0 .nil) (zero h0)
end Z
end Go.Proofs.YtaongbhamadlkaaGreat
namespace Go.Proofs.YtaongbhamadlkaaGreat
namespace X
def ca (L : List Ln) (i k : Nat) : Rat := co (L.getD i ([], 0)) k
def cb (L : List Ln) (i : Nat) : Rat := (L.getD i ([], 0)).2
def lpOf (v : Nat) (L : List Ln) (g : Nat → Rat) : Lp := ⟨v, L.length, ca L, cb L, g⟩
def at_ (v : Nat) (g x : Nat → Rat) : Rat := sm v fun k => g k * x k
def Sem (p : Lp) (k : Int) (z : Rat) : Prop :=
  (k = 1 ∧ z = 0 ∧ ∀ x, ¬ IsPt p x) ∨ (k = 0 ∧ (∃ x, IsPt p x ∧ at_ p.v p.g x = z) ∧ ∀ x, IsPt p x → at_ p.v p.g x ≤ z) ∨ (k = 2 ∧ z = 0 ∧ ∀ t, ∃ x, IsPt p x ∧ t ≤ at_ p.v p.g x)
section
variable {p q : Lp} {k k' : Int} {z z' : Rat} {x y : Nat → Rat} {v : Nat} {L : List Ln} {g : Nat → Rat}
theorem Sem.inf (h : IsInf p y) : Sem p 1 0 := .inl ⟨rfl, rfl, fun _ => inf_no h⟩
theorem Sem.opt (h : IsOpt p x y z) : Sem p 0 z := .inr (.inl ⟨rfl, ⟨x, h.1, h.2.2.2.2⟩, fun _ hx => opt_max h hx⟩)
theorem Sem.unb (h : IsUnb p x y) : Sem p 2 0 := .inr (.inr ⟨rfl, rfl, unb_far h⟩)
theorem Sem.uniq (h : Sem p k z) (h' : Sem p k' z') : k = k' ∧ z = z' := by
  rcases h with ⟨rfl, rfl, h1⟩ | ⟨rfl, ⟨x, h1, h2⟩, h3⟩ | ⟨rfl, rfl, h1⟩ <;> rcases h' with ⟨rfl, rfl, g1⟩ | ⟨rfl, ⟨u, g1, g2⟩, g3⟩ | ⟨rfl, rfl, g1⟩
  · exact ⟨rfl, rfl⟩
  · exact absurd g1 (h1 _)
  · obtain ⟨u, g2, _⟩ := g1 0; exact absurd g2 (h1 _)
  · exact absurd h1 (g1 _)
  · have e1 := h3 u g1
    have e2 := g3 x h1
    exact ⟨rfl, by grind⟩
  · obtain ⟨u, g2, g3⟩ := g1 (z + 1)
    have := h3 u g2
    grind
  · obtain ⟨u, g2, _⟩ := h1 0; exact absurd g2 (g1 _)
  · obtain ⟨u, u1, u2⟩ := h1 (z' + 1)
    have := g3 u u1
    grind
  · exact ⟨rfl, rfl⟩
theorem Sem.k3 (h : Sem p k z) : k = 0 ∨ k = 1 ∨ k = 2 := by
  rcases h with ⟨rfl, _⟩ | ⟨rfl, _⟩ | ⟨rfl, _⟩ <;> omega
theorem Sem.one (h : Sem p k z) : k = 1 ↔ ¬ ∃ x, IsPt p x := by
  rcases h with ⟨rfl, _, h1⟩ | ⟨rfl, ⟨x, h1, _⟩, _⟩ | ⟨rfl, _, h1⟩
  · exact ⟨fun _ ⟨x, hx⟩ => h1 x hx, fun _ => rfl⟩
  · exact ⟨fun h => absurd h (by decide), fun h => absurd ⟨x, h1⟩ h⟩
  · obtain ⟨u, u1, _⟩ := h1 0
    exact ⟨fun h => absurd h (by decide), fun h => absurd ⟨u, u1⟩ h⟩
theorem pt_of : IsPt (lpOf v L g) x ↔ ∀ c ∈ L, Sat v x c := by
  constructor
  · intro h c hc
    obtain ⟨i, hi, rfl⟩ := List.mem_iff_getElem.1 hc
    have := h i hi
    unfold Sat
    have e : L.getD i ([], 0) = L[i] := by simp [List.getD_eq_getElem?_getD, hi]
    show sm v (fun k => co L[i] k * x k) ≤ L[i].2
    have h2 : sm v (fun k => co (L.getD i ([], 0)) k * x k) ≤ (L.getD i ([], 0)).2 := this
    rwa [e] at h2
  · intro h r hr
    have hr' : r < L.length := hr
    have := h _ (List.getElem_mem hr')
    have e : L.getD r ([], 0) = L[r] := by simp [List.getD_eq_getElem?_getD, hr']
    show sm v (fun k => co (L.getD r ([], 0)) k * x k) ≤ (L.getD r ([], 0)).2
    rw [e]; exact this
end
end X
end Go.Proofs.YtaongbhamadlkaaGreat
namespace Go.Proofs.YtaongbhamadlkaaGreat
open W Go.RowKit
abbrev lncells (n : Nat) (M : Pm) : List Value := cellsF (n * 5) (pcell M.av M.mb)
def Pm.at (M : Pm) (v : Value) : Pm := { M with lv := v }
def Pm.app (M : Pm) (n : Nat) (a : Value) (m : Nat → QM) (b : QM) : Pm := { M with av := upd M.av n a, ma := upd M.ma n m, mb := upd M.mb n b }
def Pm.wg (M : Pm) (v : Value) (m : Nat → QM) : Pm := { M with gv := v, mg := m }
def Pm.no : Pm := ⟨.slice none 0 0, .slice none 0 0, fun _ => .slice none 0 0, fun _ _ => m00, fun _ => m00, fun _ => m00⟩
theorem lncells_app {n : Nat} {M : Pm} {a : Value} {m : Nat → QM} {b : QM} : lncells n M ++ (a :: qcs b) = lncells (n + 1) (M.app n a m b) := by
  refine cellsF_ext (by rw [List.length_append, cellsF_len]; show n * 5 + 5 = _; omega) fun j hj => ?_
  by_cases h : j < n * 5
  · rw [List.getElem?_append_left (by rw [cellsF_len]; exact h), cellsF_get h]; unfold pcell Pm.app; dsimp only; rw [upd_ne (by omega), upd_ne (by omega)]
  · rw [List.getElem?_append_right (by rw [cellsF_len]; omega), cellsF_len, row_get (n := 5) rfl (by omega)]
    unfold pcell Pm.app; dsimp only; rw [show j / 5 = n by omega, upd_at, upd_at, show j % 5 = j - n * 5 by omega]
def Pm.cat (M : Pm) (n : Nat) (N : Pm) : Pm :=
  { M with av := fun i => if i < n then M.av i else N.av (i - n), ma := fun i => if i < n then M.ma i else N.ma (i - n), mb := fun i => if i < n then M.mb i else N.mb (i - n) }
theorem lncells_cat {n k : Nat} {M N : Pm} : lncells n M ++ lncells k N = lncells (n + k) (M.cat n N) := by
  refine cellsF_ext (by rw [List.length_append, cellsF_len, cellsF_len]; omega) fun j hj => ?_
  by_cases h : j < n * 5
  · rw [List.getElem?_append_left (by rw [cellsF_len]; exact h), cellsF_get h]
    unfold pcell Pm.cat; dsimp only; rw [if_pos (by omega), if_pos (by omega)]
  · rw [List.getElem?_append_right (by rw [cellsF_len]; omega), cellsF_len, cellsF_get (by omega)]
    unfold pcell Pm.cat; dsimp only; rw [if_neg (by omega), if_neg (by omega), show (j - n * 5) / 5 = j / 5 - n by omega, show (j - n * 5) % 5 = j % 5 by omega]
def qcat (ms : Nat → QM) (n : Nat) (ns : Nat → QM) (i : Nat) : QM := if i < n then ms i else ns (i - n)
theorem qcells_cat {n k : Nat} {M N : Nat → QM} : qcells n M ++ qcells k N = qcells (n + k) (qcat M n N) := by
  refine cellsF_ext (by rw [List.length_append, cellsF_len, cellsF_len]; omega) fun j hj => ?_
  by_cases h : j < n * 4
  · rw [List.getElem?_append_left (by rw [cellsF_len]; exact h), cellsF_get h]
    unfold qcell qcat; rw [if_pos (by omega)]
  · rw [List.getElem?_append_right (by rw [cellsF_len]; omega), cellsF_len, cellsF_get (by omega)]
    unfold qcell qcat; rw [if_neg (by omega), show (j - n * 4) / 4 = j / 4 - n by omega, show (j - n * 4) % 4 = j % 4 by omega]
structure LM where
  a : Value
  m : Nat → QM
  b : QM
def Pm3 (N1 N2 N3 : LM) : Pm := ((Pm.no.app 0 N1.a N1.m N1.b).app 1 N2.a N2.m N2.b).app 2 N3.a N3.m N3.b
def lnQ (M : Pm) (w : Nat) (L : List X.Ln) : Fct where
  p h := (∀ i, i < L.length → (fF (M.av i) w (M.ma i) (X.ca L i)).p h) ∧ (mF L.length M.mb (X.cb L)).p h
  mono _ _ hl hp := ⟨fun i hi => (fF _ _ _ _).mono _ _ hl (hp.1 i hi), (mF _ _ _).mono _ _ hl hp.2⟩
def fLn (M : Pm) (w : Nat) (L : List X.Ln) : Fct where
  p h := (slC M.lv L.length 5 (pcell M.av M.mb)).p h ∧ (lnQ M w L).p h
  mono _ _ hl hp := ⟨(slC _ _ _ _).mono _ _ hl hp.1, (lnQ _ _ _).mono _ _ hl hp.2⟩
theorem ca_app {L L2 : List X.Ln} {i : Nat} (h : i < L.length) : X.ca (L ++ L2) i = X.ca L i := by
  unfold X.ca; simp only [List.getD_eq_getElem?_getD]; rw [List.getElem?_append_left h]
theorem cb_app {L L2 : List X.Ln} {i : Nat} (h : i < L.length) : X.cb (L ++ L2) i = X.cb L i := by
  unfold X.cb; simp only [List.getD_eq_getElem?_getD]; rw [List.getElem?_append_left h]
theorem ca_app2 {L L2 : List X.Ln} {i : Nat} (h : ¬ i < L.length) : X.ca (L ++ L2) i = X.ca L2 (i - L.length) := by
  unfold X.ca; simp only [List.getD_eq_getElem?_getD]; rw [List.getElem?_append_right (by omega)]
theorem cb_app2 {L L2 : List X.Ln} {i : Nat} (h : ¬ i < L.length) : X.cb (L ++ L2) i = X.cb L2 (i - L.length) := by
  unfold X.cb; simp only [List.getD_eq_getElem?_getD]; rw [List.getElem?_append_right (by omega)]
theorem ca_0 (c : X.Ln) (l : List X.Ln) : X.ca (c :: l) 0 = X.co c := rfl
theorem cb_0 (c : X.Ln) (l : List X.Ln) : X.cb (c :: l) 0 = c.2 := rfl
section
variable {P : Program} {e : Env} {bx bx' : List Ow} {F : List Fct} {ty t el : TypeId} {x y : Operand} {v u : Value} {M N : Pm} {i n k w : Nat} {L L2 : List X.Ln} {K : RPost} {g : Nat → Rat} {gv : Value} {mg : Nat → QM}
theorem W.Has.lns (h : Has F (fLn M w L)) : Has F (slC M.lv L.length 5 (pcell M.av M.mb)) := fun p hf => (h p hf).1
theorem W.Has.lnq (h : Has F (fLn M w L)) : Has F (lnQ M w L) := fun p hf => (h p hf).2
theorem W.Has.lna (h : Has F (lnQ M w L)) (hi : i < L.length) : Has F (fF (M.av i) w (M.ma i) (X.ca L i)) := fun p hf => (h p hf).1 i hi
theorem W.Has.lnbs (h : Has F (lnQ M w L)) : Has F (mF L.length M.mb (X.cb L)) := fun p hf => (h p hf).2
theorem W.Has.lnb (h : Has F (lnQ M w L)) (hi : i < L.length) : Has F (isQ (qv (M.mb i)) (X.cb L i)) := W.Has.q h.lnbs hi
theorem W.Has.ln (h : Has F (slC M.lv L.length 5 (pcell M.av M.mb))) (h2 : Has F (lnQ M w L)) : Has F (fLn M w L) := fun p hf => ⟨h p hf, h2 p hf⟩
theorem W.Has.lnp (h : Has F (fLn M w L)) (h2 : Has F (fF M.gv w M.mg g)) : Has F (fP M (X.lpOf w L g)) := fun p hf => ⟨(h p hf).1, fun i hi => (h p hf).2.1 i hi, (h p hf).2.2, h2 p hf⟩
theorem W.Has.pL (h : Has F (fP M (X.lpOf w L g))) : Has F (fLn M w L) := fun p hf => ⟨(h p hf).1, fun i hi => (h p hf).2.1 i hi, (h p hf).2.2.1⟩
theorem W.Has.pG (h : Has F (fP M (X.lpOf w L g))) : Has F (fF M.gv w M.mg g) := fun p hf => (h p hf).2.2.2
theorem W.Has.lnwg (h : Has F (fLn M w L)) : Has F (fLn (M.wg gv mg) w L) := fun p hf => h p hf
theorem W.Has.lnn : Has F (lnQ M w []) := fun p _ => ⟨fun i hi => absurd hi (by simp), fun i hi => absurd hi (by simp)⟩
theorem W.Has.lnapp {a : Value} {ma : Nat → QM} {b : QM} (h : Has F (lnQ M w L)) (c : X.Ln) (h2 : Has F (fF a w ma (X.co c))) (h3 : Has F (isQ (qv b) c.2)) : Has F (lnQ (M.app L.length a ma b) w (L ++ [c])) := fun p hf => by
  have h1 := h p hf
  refine ⟨fun i hi => ?_, fun i hi => ?_⟩
  · rw [List.length_append, List.length_singleton] at hi
    by_cases e : i < L.length
    · rw [ca_app e]
      show (fF (upd M.av L.length a i) w (upd M.ma L.length ma i) _).p p
      rw [upd_ne (by omega), upd_ne (by omega)]; exact h1.1 i e
    · obtain rfl : i = L.length := by omega
      rw [ca_app2 e, Nat.sub_self, ca_0]
      show (fF (upd M.av L.length a L.length) w (upd M.ma L.length ma L.length) _).p p
      rw [upd_at, upd_at]; exact h2 p hf
  · rw [List.length_append, List.length_singleton] at hi
    by_cases e : i < L.length
    · rw [cb_app e]
      show (isQ (qv (upd M.mb L.length b i)) _).p p
      rw [upd_ne (by omega)]; exact h1.2 i e
    · obtain rfl : i = L.length := by omega
      rw [cb_app2 e, Nat.sub_self, cb_0]
      show (isQ (qv (upd M.mb L.length b L.length)) _).p p
      rw [upd_at]; exact h3 p hf
theorem KnS.ln (h : Has F (fLn M w L)) : KnS bx F M.lv L.length := KnS.f h.lns
theorem KnS.lna (h : Has F (lnQ M w L)) (hi : i < L.length) : KnS bx F (M.av i) w := KnS.ff (h.lna hi)
theorem YO.ldLns (hs : Row P t 5) (hx : ev e x = some (.pointer (some (eaddr M.lv (i * 5))))) (h : Has F (fLn M w L)) (hi : i < L.length) : YO P (.load t x) ty e bx F (lnv M i) :=
  YO.ldRS (us := M.av i :: qcs (M.mb i)) hs hx h.lns (by omega) rfl fun k hk => by
    rw [pcell_at _ _ _ hk]
    match k, hk with | 0, _ => rfl | 1, _ => rfl | 2, _ => rfl | 3, _ => rfl | 4, _ => rfl
theorem YO.ldLnA (hs : Scalar P t) (hx : ev e x = some (.pointer (some (eaddr M.lv (i * 5 + 0))))) (h : Has F (fLn M w L)) (hi : i < L.length) : YO P (.load t x) ty e bx F (M.av i) := by
  have := YO.ldS (ty := ty) (bx := bx) hs hx h.lns (by omega)
  rwa [pcell_at _ _ _ (by omega)] at this
theorem YO.ldLnB (hs : Row P t 4) (hx : ev e x = some (.pointer (some (eaddr M.lv (i * 5 + 1))))) (h : Has F (fLn M w L)) (hi : i < L.length) : YO P (.load t x) ty e bx F (qv (M.mb i)) :=
  YO.ldRS (us := qcs (M.mb i)) hs hx h.lns (by omega) rfl fun k hk => by
    rw [Nat.add_assoc, pcell_at _ _ _ (by omega)]
    match k, hk with | 0, _ => rfl | 1, _ => rfl | 2, _ => rfl | 3, _ => rfl
theorem KnS.oLn (h : Ow.slice v el 5 (lncells n M) ∈ bx) : KnS bx F v n := KnS.o h (cellsF_len _ _) (by decide)
theorem okLn {fr : PH} {w' : World} {v : Value} (ho : OK fr bx F w') (hs : Sel bx (.slice v el 5 (lncells L.length M)) (.slice (.slice none 0 0) el 5 []) bx') (hm : Has F (lnQ M w L)) : OK fr bx' (fLn (M.at v) w L :: slC v L.length 5 (pcell M.av M.mb) :: F) w' := by
  have h := ho.freeze hs (cellsF_len _ _) (by decide) (pcell M.av M.mb) fun j hj => cellsF_get hj
  exact h.add (f := Go.Proofs.YtaongbhamadlkaaGreat.fLn (M.at v) w L) ⟨h.facts _ (List.mem_cons_self ..), (show Has (slC v L.length 5 (pcell M.av M.mb) :: F) (lnQ M w L) from fun p hp => hm p fun g hg => hp g (List.mem_cons_of_mem _ hg)) _ h.facts⟩
theorem HasB.fLn (hb : Ow.slice v el 5 (lncells L.length M) ∈ bx) (hm : Has F (lnQ M w L)) : HasB bx F (Go.Proofs.YtaongbhamadlkaaGreat.fLn (M.at v) w L) := fun fr w ho =>
  ⟨HasB.o hb (cellsF_len _ _) (by decide) (fun j hj => cellsF_get hj) fr w ho, HasB.f hm fr w ho⟩
theorem KnS.oL1 {a : Value} {b : QM} (h : Ow.slice v el 5 (a :: qcs b) ∈ bx) : KnS bx F v 1 := KnS.o h rfl (by decide)
theorem WD.addNil {n' : Nat} {hs : List Nat} {b0 : List Ow} {F0 : List Fct} {r : Plan} {Lo : List Oper} {Q2 : Env → List Ow → List Fct → Prop} (el sz : Nat) (h : WD P n' Lo hs b0 F0 r e (Ow.slice (.slice none 0 0) el sz [] :: bx) F Q2) : WD P n' Lo hs b0 F0 r e bx F Q2 := fun fr w0 listed a w fuel Q' h1 h2 h3 h4 h5 h6 hk hr ho hf => h fr w0 listed a w fuel Q' h1 h2 h3 h4 h5 h6 hk hr (ho.addNil el sz) hf
theorem LO.ofY {op : Op} {r : Value} (hy : YO P op ty e bx F r) (h : K r bx F) : LO P op ty e bx F K := fun n fr a w o next Q' h1 h2 h3 h4 h5 => by
  have := hy n fr a w o h1 h2 h3 h4
  rw [this]
  exact h5 r w bx F (W.Rest.refl w) h4 h
theorem one_ln {a : Value} {b : QM} {q : Rat} {n : Nat} (ha : KnS bx F a n) (hq : Has F (isQ (qv b) q)) : OneL bx F (a :: qcs b) := .cons (One.sl ha) (one_q hq)
theorem LO.bsLn1 {a : Value} {b : QM} {ma : Nat → QM} {qf : Nat → Rat} (hx : ev e x = some (.agg #[a, .bool b.1, b.2.1, .bool false, b.2.2])) (ha0 : Has F (fF a n ma qf)) (h : ∀ v, K v (Ow.slice v 60 5 (a :: qcs b) :: bx) F) : LO Tryz.prog (.buildSlice 23 1 #[(0, x)]) ty e bx F K := by
  have ha : KnS bx F a n := KnS.ff ha0
  refine LO.byP (p := ∃ a' c, a = .slice a' n c) (fun fr w ho => by obtain ⟨a', c, h1, _⟩ := (ha fr w ho).is; exact ⟨a', c, h1⟩) ?_
  rintro ⟨a', c, rfl⟩
  exact LO.buildSlice (parts := [(0, x)]) (us := [.agg #[.slice a' n c, .bool b.1, b.2.1, .bool false, b.2.2]]) (cs := .slice a' n c :: qcs b) (.cons hx .nil) (fun _ => by kernel_rfl) rfl (by decide) h
theorem LO.bsR10 (hx : ev e x = some (qv m00)) (h : ∀ v, K v (Ow.slice v 31 4 (qcs m00) :: bx) F) : LO Tryz.prog (.buildSlice 24 1 #[(0, x)]) ty e bx F K := LO.bsR1 hx h
theorem LO.bsR2 {m m' : QM} (hx : ev e x = some (qv m)) (hy : ev e y = some (qv m')) (h : ∀ v, K v (Ow.slice v 31 4 (qcells 2 (upd (upd (fun _ => m00) 0 m) 1 m')) :: bx) F) : LO Tryz.prog (.buildSlice 24 2 #[(0, x), (1, y)]) ty e bx F K := by
  refine LO.buildSlice (el := 31) (sz := 4) (parts := [(0, x), (1, y)]) (us := [qv m, qv m']) (cs := qcs m ++ qcs m') (.cons hx (.cons hy .nil)) (fun _ => by kernel_rfl) rfl (by decide) fun v => ?_
  have := h v
  rwa [← qcells_app, ← qcells_app, show qcells 0 (fun _ => m00) = [] from rfl, List.nil_append] at this
theorem LO.bsLn3 {z : Operand} {N1 N2 N3 : LM} {w1 w2 w3 : Nat} {q1 q2 q3 : Nat → Rat} (h1 : ev e x = some (.agg #[N1.a, .bool N1.b.1, N1.b.2.1, .bool false, N1.b.2.2])) (h2 : ev e y = some (.agg #[N2.a, .bool N2.b.1, N2.b.2.1, .bool false, N2.b.2.2])) (h3 : ev e z = some (.agg #[N3.a, .bool N3.b.1, N3.b.2.1, .bool false, N3.b.2.2]))
    (f1 : Has F (fF N1.a w1 N1.m q1)) (f2 : Has F (fF N2.a w2 N2.m q2)) (f3 : Has F (fF N3.a w3 N3.m q3)) (h : ∀ v, K v (Ow.slice v 60 5 (lncells 3 (Pm3 N1 N2 N3)) :: bx) F) : LO Tryz.prog (.buildSlice 23 3 #[(0, x), (1, y), (2, z)]) ty e bx F K := by
  obtain ⟨a1, m1, b1⟩ := N1
  obtain ⟨a2, m2, b2⟩ := N2
  obtain ⟨a3, m3, b3⟩ := N3
  refine LO.byP (p := (∃ a' c, a1 = .slice a' w1 c) ∧ (∃ a' c, a2 = .slice a' w2 c) ∧ ∃ a' c, a3 = .slice a' w3 c) (fun fr w ho => by
    obtain ⟨a, c, g1, _⟩ := ((KnS.ff f1 : KnS bx F a1 w1) fr w ho).is
    obtain ⟨a', c', g2, _⟩ := ((KnS.ff f2 : KnS bx F a2 w2) fr w ho).is
    obtain ⟨a'', c'', g3, _⟩ := ((KnS.ff f3 : KnS bx F a3 w3) fr w ho).is
    exact ⟨⟨a, c, g1⟩, ⟨a', c', g2⟩, a'', c'', g3⟩) ?_
  rintro ⟨⟨a, c, rfl⟩, ⟨a', c', rfl⟩, a'', c'', rfl⟩
  refine LO.buildSlice (el := 60) (sz := 5) (parts := [(0, x), (1, y), (2, z)]) (us := [.agg #[.slice a w1 c, .bool b1.1, b1.2.1, .bool false, b1.2.2], .agg #[.slice a' w2 c', .bool b2.1, b2.2.1, .bool false, b2.2.2], .agg #[.slice a'' w3 c'', .bool b3.1, b3.2.1, .bool false, b3.2.2]])
    (cs := (.slice a w1 c :: qcs b1) ++ (.slice a' w2 c' :: qcs b2) ++ (.slice a'' w3 c'' :: qcs b3)) (.cons h1 (.cons h2 (.cons h3 .nil))) (fun _ => by kernel_rfl) rfl (by decide) fun v => ?_
  have := h v
  unfold Pm3 at this
  rwa [← lncells_app, ← lncells_app, ← lncells_app, show lncells 0 Pm.no = [] from rfl, List.nil_append] at this
theorem W.Has.mF2 {m m' : QM} {q : Nat → Rat} (h1 : Has F (isQ (qv m) (q 0))) (h2 : Has F (isQ (qv m') (q 1))) : Has F (mF 2 (upd (upd (fun _ => m00) 0 m) 1 m') q) := fun p hf i hi => by
  match i, hi with
  | 0, _ => exact h1 p hf
  | 1, _ => exact h2 p hf
theorem W.Has.ln3 {N1 N2 N3 : LM} {c1 c2 c3 : X.Ln} (f1 : Has F (fF N1.a w N1.m (X.co c1))) (g1 : Has F (isQ (qv N1.b) c1.2)) (f2 : Has F (fF N2.a w N2.m (X.co c2))) (g2 : Has F (isQ (qv N2.b) c2.2)) (f3 : Has F (fF N3.a w N3.m (X.co c3))) (g3 : Has F (isQ (qv N3.b) c3.2)) : Has F (lnQ (Pm3 N1 N2 N3) w [c1, c2, c3]) :=
  W.Has.lnapp (L := [c1, c2]) (W.Has.lnapp (L := [c1]) (W.Has.lnapp (L := []) W.Has.lnn c1 f1 g1) c2 f2 g2) c3 f3 g3
theorem LO.bsLn0 (h : ∀ v, K v (Ow.slice v 60 5 [] :: bx) F) : LO Tryz.prog (.buildSlice 23 0 #[]) ty e bx F K := LO.buildSlice (parts := []) (us := []) (cs := []) .nil (fun _ => by kernel_rfl) rfl (by decide) h
section
variable {el' : TypeId} {bx2 : Value → List Ow}
theorem LO.appLn1 {a : Value} {ma : Nat → QM} {qf : Nat → Rat} {b : QM} {q : Rat} (hx : ev e x = some v) (hy : ev e y = some u) (hu : Ow.slice u el' 5 (a :: qcs b) ∈ bx) (ha0 : Has F (fF a w ma qf)) (hm : Has F (isQ (qv b) q)) (hs : ∀ v', Sel bx (.slice v 60 5 (lncells n M)) (.slice v' 60 5 (lncells (n + 1) (M.app n a ma b))) (bx2 v')) (hl : n ≤ 1000000) (h : ∀ v', K v' (bx2 v') F) :
    LO Tryz.prog (.call { callee := .builtin .append, args := #[x, y], argTypes := #[23, 23] }) ty e bx F K := by
  refine LO.byP (fun fr w ho => (one_ln (bx := bx) (KnS.ff ha0) hm).all ho) fun h1 => ?_
  exact LO.append T.e23 hx hy (news := a :: qcs b) (by rw [lncells_app (m := ma)]; exact hs) (SrcE.one hu rfl (by decide)) h1 (by rw [cellsF_len]; show (n * 5 + 5) * 88 ≤ _; omega) (by rw [cellsF_len]; show n * 5 + 5 ≤ _; omega) h
theorem one_lncells {fr : PH} {w' : World} (ho : OK fr bx F w') (hm : Has F (lnQ N w L)) : ∀ c ∈ lncells L.length N, c.oneCell' = true := fun c hc => by
  simp only [cellsF, List.mem_map, List.mem_range] at hc
  obtain ⟨j, hj, rfl⟩ := hc
  have := (one_ln (bx := bx) (KnS.ff (hm.lna (i := j / 5) (by omega))) (hm.lnb (i := j / 5) (by omega))).all ho
  unfold pcell
  have hr := row_get (l := N.av (j / 5) :: qcs (N.mb (j / 5))) (r := j % 5) (n := 5) rfl (by omega)
  exact this _ (List.mem_of_getElem? hr)
theorem LO.appLnf (hx : ev e x = some v) (hy : ev e y = some N.lv) (hu : Has F (fLn N w L)) (hs : ∀ v', Sel bx (.slice v 60 5 (lncells n M)) (.slice v' 60 5 (lncells (n + L.length) (M.cat n N))) (bx2 v')) (hl : n ≤ 1000000) (hl2 : L.length ≤ 1000000) (h : ∀ v', K v' (bx2 v') F) :
    LO Tryz.prog (.call { callee := .builtin .append, args := #[x, y], argTypes := #[23, 23] }) ty e bx F K := by
  refine LO.byP (fun fr w ho => one_lncells ho hu.lnq) fun h1 => ?_
  exact LO.append T.e23 hx hy (news := lncells L.length N) (by rw [lncells_cat]; exact hs) (SrcE.fact hu.lns) h1 (by rw [cellsF_len, cellsF_len]; omega) (by rw [cellsF_len, cellsF_len]; omega) h
theorem LO.appLnf0 (hx : ev e x = some v) (hy : ev e y = some N.lv) (hu : Has F (fLn N w L)) (hs : ∀ v', Sel bx (.slice v 60 5 []) (.slice v' 60 5 (lncells L.length N)) (bx2 v')) (hl2 : L.length ≤ 1000000) (h : ∀ v', K v' (bx2 v') F) :
    LO Tryz.prog (.call { callee := .builtin .append, args := #[x, y], argTypes := #[23, 23] }) ty e bx F K := by
  refine LO.byP (fun fr w ho => one_lncells ho hu.lnq) fun h1 => ?_
  exact LO.append T.e23 hx hy (cs := []) (news := lncells L.length N) hs (SrcE.fact hu.lns) h1 (by rw [cellsF_len, List.length_nil]; omega) (by rw [cellsF_len, List.length_nil]; omega) h
theorem LO.appFg {ms ms' : Nat → QM} {q : Nat → Rat} (hx : ev e x = some v) (hy : ev e y = some u) (hu : Has F (fF u k ms' q)) (hs : ∀ v', Sel bx (.slice v 31 4 (qcells n ms)) (.slice v' 31 4 (qcells (n + k) (qcat ms n ms'))) (bx2 v')) (hl : n ≤ 1000000) (hl2 : k ≤ 1000000) (h : ∀ v', K v' (bx2 v') F) :
    LO Tryz.prog (.call { callee := .builtin .append, args := #[x, y], argTypes := #[24, 24] }) ty e bx F K := by
  refine LO.byP (fun fr w ho => one_fcells ho hu.fm) fun h1 => ?_
  exact LO.append T.e24 hx hy (news := qcells k ms') (by rw [qcells_cat]; exact hs) (SrcE.fact hu.fs) h1 (by rw [cellsF_len, cellsF_len]; omega) (by rw [cellsF_len, cellsF_len]; omega) h
end
theorem made_ln (n : Nat) : (madeCells (Value.agg #[.slice none 0 0, .bool false, .slice none 0 0, .bool false, .slice none 0 0]).cells (n * 5)).toList = lncells n Pm.no :=
  madeF n 5 _ _ rfl (by decide) fun j => by
    unfold pcell
    have h1 : j % 5 = 0 ∨ j % 5 = 1 ∨ j % 5 = 2 ∨ j % 5 = 3 ∨ j % 5 = 4 := by omega
    rcases h1 with h1 | h1 | h1 | h1 | h1 <;> rw [h1] <;> rfl
theorem LO.makeLn {i : Int} (hx : ev e x = some (.int .i64 i)) (hy : ev e y = some (.int .i64 i)) (hi : NatI i n) (hb : n ≤ 1000000) (h : ∀ v, K v (Ow.slice v 60 5 (lncells n Pm.no) :: bx) F) : LO Tryz.prog (.makeSlice 23 x y) ty e bx F K := by
  obtain rfl := hi.eq
  exact LO.make T.e23 hx hy (by omega) (by omega) (made_ln n) h
theorem YO.buildLn0 : YO Tryz.prog (.build 60 #[]) ty e bx F (.agg #[.slice none 0 0, .bool m00.1, m00.2.1, .bool false, m00.2.2]) := YO.build (parts := []) .nil fun w => run_build w 60 _ _ (by kernel_rfl)
theorem YO.buildLnB {b : QM} (h1 : ev e x = some (qv b)) : YO Tryz.prog (.build 60 #[(1, x)]) ty e bx F (.agg #[.slice none 0 0, .bool b.1, b.2.1, .bool false, b.2.2]) := YO.build (parts := [(1, x)]) (.cons h1 .nil) fun w => run_build w 60 _ _ (by kernel_rfl)
theorem YO.buildLn1 (h1 : ev e x = some v) (kd : KnS bx F v n) : YO Tryz.prog (.build 60 #[(0, x)]) ty e bx F (.agg #[v, .bool m00.1, m00.2.1, .bool false, m00.2.2]) := by
  refine YO.byP (p := ∃ a c, v = .slice a n c) (fun fr w ho => by obtain ⟨a, c, h1, _⟩ := (kd fr w ho).is; exact ⟨a, c, h1⟩) ?_
  rintro ⟨a, c, rfl⟩
  exact YO.build (parts := [(0, x)]) (.cons h1 .nil) fun w => run_build w 60 _ _ (by kernel_rfl)
theorem YO.buildLn2 {b : QM} (h1 : ev e x = some v) (h2 : ev e y = some (qv b)) (kd : KnS bx F v n) : YO Tryz.prog (.build 60 #[(0, x), (1, y)]) ty e bx F (.agg #[v, .bool b.1, b.2.1, .bool false, b.2.2]) := by
  refine YO.byP (p := ∃ a c, v = .slice a n c) (fun fr w ho => by obtain ⟨a, c, h1, _⟩ := (kd fr w ho).is; exact ⟨a, c, h1⟩) ?_
  rintro ⟨a, c, rfl⟩
  exact YO.build (parts := [(0, x), (1, y)]) (.cons h1 (.cons h2 .nil)) fun w => run_build w 60 _ _ (by kernel_rfl)
section
variable {z : Operand} {v2 : Value} {n2 : Nat} {j : Int}
theorem YO.buildPg0 (h1 : ev e x = some (.int .i64 j)) : YO Tryz.prog (.build 26 #[(0, x)]) ty e bx F (.agg #[.int .i64 j, .slice none 0 0, .slice none 0 0]) := YO.build (parts := [(0, x)]) (.cons h1 .nil) fun w => run_build w 26 _ _ (by kernel_rfl)
theorem YO.buildPg01 (h1 : ev e x = some (.int .i64 j)) (h2 : ev e y = some v) (kd : KnS bx F v n) : YO Tryz.prog (.build 26 #[(0, x), (1, y)]) ty e bx F (.agg #[.int .i64 j, v, .slice none 0 0]) := by
  refine YO.byP (p := ∃ a c, v = .slice a n c) (fun fr w ho => by obtain ⟨a, c, h1, _⟩ := (kd fr w ho).is; exact ⟨a, c, h1⟩) ?_
  rintro ⟨a, c, rfl⟩
  exact YO.build (parts := [(0, x), (1, y)]) (.cons h1 (.cons h2 .nil)) fun w => run_build w 26 _ _ (by kernel_rfl)
theorem YO.buildPg02 (h1 : ev e x = some (.int .i64 j)) (h2 : ev e y = some v) (kd : KnS bx F v n) : YO Tryz.prog (.build 26 #[(0, x), (2, y)]) ty e bx F (.agg #[.int .i64 j, .slice none 0 0, v]) := by
  refine YO.byP (p := ∃ a c, v = .slice a n c) (fun fr w ho => by obtain ⟨a, c, h1, _⟩ := (kd fr w ho).is; exact ⟨a, c, h1⟩) ?_
  rintro ⟨a, c, rfl⟩
  exact YO.build (parts := [(0, x), (2, y)]) (.cons h1 (.cons h2 .nil)) fun w => run_build w 26 _ _ (by kernel_rfl)
theorem YO.buildPg3 (h1 : ev e x = some (.int .i64 j)) (h2 : ev e y = some v) (h3 : ev e z = some v2) (kd : KnS bx F v n) (kd2 : KnS bx F v2 n2) : YO Tryz.prog (.build 26 #[(0, x), (1, y), (2, z)]) ty e bx F (.agg #[.int .i64 j, v, v2]) := by
  refine YO.byP (p := (∃ a c, v = .slice a n c) ∧ ∃ a c, v2 = .slice a n2 c) (fun fr w ho => by obtain ⟨a, c, h1, _⟩ := (kd fr w ho).is; obtain ⟨a2, c2, h2, _⟩ := (kd2 fr w ho).is; exact ⟨⟨a, c, h1⟩, a2, c2, h2⟩) ?_
  rintro ⟨⟨a, c, rfl⟩, a2, c2, rfl⟩
  exact YO.build (parts := [(0, x), (1, y), (2, z)]) (.cons h1 (.cons h2 (.cons h3 .nil))) fun w => run_build w 26 _ _ (by kernel_rfl)
end
end
section
variable {P : Program} {e : Env} {bx bx' : List Ow} {F : List Fct} {el w : Nat} {c : Code} {Q : Post} {n' : Nat} {rest Lo : List Oper} {Q2 : Env → List Ow → List Fct → Prop}
theorem WC.freezeLn (v : Value) (M : Pm) (w : Nat) (L : List X.Ln) (hs : Sel bx (.slice v el 5 (lncells L.length M)) (.slice (.slice none 0 0) el 5 []) bx') (hm : Has F (lnQ M w L)) (h : WC P n' c e bx' (fLn (M.at v) w L :: slC v L.length 5 (pcell M.av M.mb) :: F) Q) : WC P n' c e bx F Q := fun fr w0 a w hk hr ho => h fr w0 a w hk hr (okLn ho hs hm)
theorem WC.asPg {lv gv : Value} (N : Pm) (mg : Nat → QM) (p : X.Lp) (hP : Has F (fP ((N.at lv).wg gv mg) p)) (h : ∀ M : Pm, M.lv = lv → M.gv = gv → WC P n' c e bx (fP M p :: F) Q) : WC P n' c e bx F Q := WC.fact _ hP (h _ rfl rfl)
theorem WL.asPg {lv gv : Value} (N : Pm) (mg : Nat → QM) (p : X.Lp) (hP : Has F (fP ((N.at lv).wg gv mg) p)) (h : ∀ M : Pm, M.lv = lv → M.gv = gv → WL P n' Lo rest e bx (fP M p :: F) Q2) : WL P n' Lo rest e bx F Q2 := WL.fact' _ hP (h _ rfl rfl)
theorem WL.freezeLn (v : Value) (M : Pm) (w : Nat) (L : List X.Ln) (hs : Sel bx (.slice v el 5 (lncells L.length M)) (.slice (.slice none 0 0) el 5 []) bx') (hm : Has F (lnQ M w L)) (h : WL P n' Lo rest e bx' (fLn (M.at v) w L :: slC v L.length 5 (pcell M.av M.mb) :: F) Q2) : WL P n' Lo rest e bx F Q2 := fun fr w0 a w Q' hQ hk hr ho => h fr w0 a w Q' hQ hk hr (okLn ho hs hm)
end
end Go.Proofs.YtaongbhamadlkaaGreat
namespace Go.Proofs.YtaongbhamadlkaaGreat
open W Go.RowKit
def rightP (p : X.Lp) (kind : Int) (xn yn : Nat) (x y : Nat → Rat) (z : Rat) : Bool :=
  if kind = 0 then sumsOk p yn y p.g && holdP p xn x false && decide (sumsV p y = z) && decide ((X.sm p.v fun k => p.g k * x k) = z)
  else if kind = 1 then sumsOk p yn y (fun _ => 0) && decide (xn = 0) && decide (sumsV p y < 0) && decide (z = 0)
  else if kind = 2 then holdP p xn x false && holdP p yn y true && decide (0 < X.sm p.v fun k => p.g k * y k) && decide (z = 0)
  else false
section
variable {P : Program} {e : Env} {bx : List Ow} {F : List Fct} {ty : TypeId} {M : Am} {xn yn : Nat} {x y : Nat → Rat} {z : Rat}
theorem W.Has.ax (h : Has F (fA M xn yn x y z)) : Has F (fF M.xv xn M.mx x) := fun p hp => (h p hp).1
theorem W.Has.ay (h : Has F (fA M xn yn x y z)) : Has F (fF M.yv yn M.my y) := fun p hp => (h p hp).2.1
theorem W.Has.az (h : Has F (fA M xn yn x y z)) : Has F (isQ (qv M.mz) z) := fun p hp => (h p hp).2.2
end
theorem WD.freezeF {hs : List Nat} {b0 : List Ow} {F0 : List Fct} {r : Plan} {el n' : Nat} {bx bx' : List Ow} {L : List Oper} {Q2 : Env → List Ow → List Fct → Prop} {F : List Fct} {P : Program} {e : Env} (v : Value) (n : Nat) (ms : Nat → QM) (q : Nat → Rat) (hs' : Sel bx (.slice v el 4 (qcells n ms)) (.slice (.slice none 0 0) el 4 []) bx') (hm : Has F (mF n ms q)) (h : WD P n' L hs b0 F0 r e bx' (fF v n ms q :: F) Q2) : WD P n' L hs b0 F0 r e bx F Q2 := fun fr w0 listed a w fuel Q' h1 h2 h3 h4 h5 h6 hk hr ho hf => h fr w0 listed a w fuel Q' h1 h2 h3 h4 h5 h6 hk hr (okF ho hs' hm) hf
theorem LO.freezeF {el : Nat} {bx bx' : List Ow} {F : List Fct} {P : Program} {e : Env} {op : Op} {ty : TypeId} {K : Value → List Ow → List Fct → Prop} (v : Value) (n : Nat) (ms : Nat → QM) (q : Nat → Rat) (hs' : Sel bx (.slice v el 4 (qcells n ms)) (.slice (.slice none 0 0) el 4 []) bx') (hm : Has F (mF n ms q)) (h : LO P op ty e bx' (fF v n ms q :: F) K) : LO P op ty e bx F K := fun n' fr a w o next Q' h1 h2 h3 h4 h5 => h n' fr a w o next Q' h1 h2 h3 (okF h4 hs' hm) h5
theorem holdP_len {p : X.Lp} {xn : Nat} {x : Nat → Rat} {op : Bool} (h : holdP p xn x op = true) : xn = p.v := by
  unfold holdP at h
  simp only [Bool.and_eq_true, decide_eq_true_eq] at h
  exact h.1
namespace Z
attribute [local irreducible] WC WL WD YO LO LoopEnd W.Fin Scalar SliceT FieldAt Row ArrT AllocT KnS Has W.One SrcE IntT
theorem d63Cr {G G' : Prop} (h : G') (s : Bx G' → G := by
  intro h
  first | (apply WC.draw (id := 4) [0, 1, 2, 3, 4, 6, 7, 8, 9, 10, 12, 13, 14, 15, 16, 17, 19, 20, 22, 23] (.held 0 (.held 1 (.held 2 (.held 3 (.held 4 (.loud 5 (.held 6 (.held 7 (.held 8 (.held 9 (.held 10 (.loud 11 (.held 12 (.held 13 (.held 14 (.held 15 (.held 16 (.held 17 (.held 19 (.held 20 (.loud 18 (.loud 21 (.held 22 (.held 23 (.done))))))))))))))))))))))))) mixed (by kernel_rfl)) | (apply WC.draw (id := 6) [0, 1, 2, 3, 4, 7, 8, 9, 12] (.held 0 (.held 1 (.held 2 (.held 3 (.held 4 (.more 5 (.more 6 (.held 7 (.held 8 (.held 9 (.loud 10 (.loud 11 (.held 12 (.done))))))) (.loud 10 (.loud 6 (.held 7 (.held 8 (.held 9 (.loud 11 (.held 12 (.done))))))))) (.loud 10 (.loud 5 (.loud 6 (.held 7 (.held 8 (.held 9 (.loud 11 (.held 12 (.done))))))))))))))) mixed (by kernel_rfl)) | fail
  exact Bx.h h) : G := s ⟨h⟩
section
variable (M : Pm) (p : X.Lp) (N : Am) (K xn yn : Nat) (x y : Nat → Rat) (z : Rat)
theorem sums_t {yv gw : Value} {my mg : Nat → QM} {gf : Nat → Rat} (h : FnB Tryz.prog 129 [pgv M p.v, yv, gw] [] [fP M p, fF yv yn my y, fF gw p.v mg gf] (IsSums p yn y gf)) (hs : sumsOk p yn y gf = true) :
    FnB Tryz.prog 129 [pgv M p.v, yv, gw] [] [fP M p, fF yv yn my y, fF gw p.v mg gf] (fun v B G => ∃ m, v = .tuple #[qv m, .bool true] ∧ B = [] ∧ G = [isQ (qv m) (sumsV p y)]) := by
  unfold IsSums at h
  rw [hs] at h
  simpa using h
theorem sums_f {yv gw : Value} {my mg : Nat → QM} {gf : Nat → Rat} (h : FnB Tryz.prog 129 [pgv M p.v, yv, gw] [] [fP M p, fF yv yn my y, fF gw p.v mg gf] (IsSums p yn y gf)) (hs : sumsOk p yn y gf = false) :
    FnB Tryz.prog 129 [pgv M p.v, yv, gw] [] [fP M p, fF yv yn my y, fF gw p.v mg gf] (fun v B G => ∃ m, v = .tuple #[qv m, .bool false] ∧ B = [] ∧ G = [isQ (qv m) 0]) := by
  unfold IsSums at h
  rw [hs] at h
  simpa using h
set_option maxHeartbeats 8000000 in
set_option maxRecDepth 60000 in
theorem right_c (kind : Int) (hdv : Dok p.v K) (hdm : Dok p.m K) (hv : p.v ≤ 1000) (hm : p.m ≤ 1000) (hK : 0 < K) (ha : ∀ r, r < p.m → ∀ k, k < p.v → Sq K (p.a r k)) (hb : ∀ r, r < p.m → Sq K (p.b r)) (hg : ∀ k, k < p.v → Sq K (p.g k))
    (hx : ∀ k, k < xn → Sq K (x k)) (hy : ∀ k, k < yn → Sq K (y k)) : FnB Tryz.prog 63 [pgv M p.v, agv N kind] [] [fP M p, fA N xn yn x y z] (IsV (.bool (rightP p kind xn yn x y z))) := by
  refine fn_of [(0, (pgv M p.v)), (1, (agv N kind))] 102 Tryz.func63 rfl Tryz.ntmps63 (by kernel_rfl) rfl suA fun h0 => ?_
  refine WC.fact (fF N.xv xn N.mx x) (W.Has.ax (M := N) (xn := xn) (yn := yn) (x := x) (y := y) (z := z) hmA) ?_
  refine WC.fact (fF N.yv yn N.my y) (W.Has.ay (M := N) (xn := xn) (yn := yn) (x := x) (y := y) (z := z) hmA) ?_
  refine WC.fact (isQ (qv N.mz) z) (W.Has.az (M := N) (xn := xn) (yn := yn) (x := x) (y := y) (z := z) hmA) ?_
  refine WC.fact (fF M.gv p.v M.mg p.g) (W.Has.pg (M := M) (m := p.m) (gn := p.v) (ln := fun _ => p.v) (a := p.a) (b := p.b) (g := p.g) hmA) ?_
  by_cases k0 : kind = 0
  · subst k0
    have e : rightP p 0 xn yn x y z = (sumsOk p yn y p.g && holdP p xn x false && decide (sumsV p y = z) && decide ((X.sm p.v fun k => p.g k * x k) = z)) := rfl
    rw [e]
    have hS := sums_c M p K yn N.yv M.gv N.my M.mg y p.g hdm hv hm ha hb hy
    cases hs : sumsOk p yn y p.g with
    | false =>
      repeat' (first | refine gM ?_ | (refine gI ?_; intro g) | (refine gU ?_; intro v) | refine gN ?_ ?_ | refine d63Cr ?_ | fail)
      refine WL.callK (sums_f M p yn y hS hs) ?_
      rintro _ _ _ ⟨mb, rfl, rfl, rfl⟩
      simp only [List.nil_append, List.cons_append]
      repeat' (first | refine gM ?_ | (refine gI ?_; intro g) | (refine gU ?_; intro v) | refine gN ?_ ?_ | refine d63Cr ?_ | fail)
      refine WC.ret ?_
      exact Fin.v (ResE.t1 rfl rfl) meA (by simp)
    | true =>
      repeat' (first | refine gM ?_ | (refine gI ?_; intro g) | (refine gU ?_; intro v) | refine gN ?_ ?_ | refine d63Cr ?_ | fail)
      refine WL.callK (sums_t M p yn y hS hs) ?_
      rintro _ _ _ ⟨mb, rfl, rfl, rfl⟩
      simp only [List.nil_append, List.cons_append]
      repeat' (first | refine gM ?_ | (refine gI ?_; intro g) | (refine gU ?_; intro v) | refine gN ?_ ?_ | refine d63Cr ?_ | fail)
      first | refine WL.callK (holds_c M p K xn false N.xv N.mx x hdv hv ha hb hx hK) ?_ | refine WD.callK (holds_c M p K xn false N.xv N.mx x hdv hv ha hb hx hK) ?_ | refine LO.callM (holds_c M p K xn false N.xv N.mx x hdv hv ha hb hx hK) ?_
      rintro _ _ _ ⟨rfl, rfl, rfl⟩
      simp only [List.nil_append, List.cons_append]
      cases hh : holdP p xn x false with
      | false =>
        repeat' (first | refine gM ?_ | (refine gI ?_; intro g) | (refine gU ?_; intro v) | refine gN ?_ ?_ | refine d63Cr ?_ | fail)
        refine WC.ret ?_
        exact Fin.v (ResE.t1 rfl rfl) meA (by simp)
      | true =>
        obtain rfl := holdP_len hh
        repeat' (first | refine gM ?_ | (refine gI ?_; intro g) | (refine gU ?_; intro v) | refine gN ?_ ?_ | refine d63Cr ?_ | fail)
        first | refine WL.callK (Zn.same mb N.mz (sumsV p y) z) ?_ | refine WD.callK (Zn.same mb N.mz (sumsV p y) z) ?_ | refine LO.callM (Zn.same mb N.mz (sumsV p y) z) ?_
        rintro _ _ _ ⟨rfl, rfl, rfl⟩
        simp only [List.nil_append, List.cons_append]
        by_cases cz : sumsV p y = z
        · rw [decide_eq_true cz]
          repeat' (first | refine gM ?_ | (refine gI ?_; intro g) | (refine gU ?_; intro v) | refine gN ?_ ?_ | refine d63Cr ?_ | fail)
          first | refine WL.callK (dot_c M.gv N.xv p.v K M.mg N.mx p.g x (by omega) hdv hg hx) ?_ | refine WD.callK (dot_c M.gv N.xv p.v K M.mg N.mx p.g x (by omega) hdv hg hx) ?_ | refine LO.callM (dot_c M.gv N.xv p.v K M.mg N.mx p.g x (by omega) hdv hg hx) ?_
          rintro _ _ _ ⟨md, rfl, rfl, rfl⟩
          simp only [List.nil_append, List.cons_append]
          repeat' (first | refine gM ?_ | (refine gI ?_; intro g) | (refine gU ?_; intro v) | refine gN ?_ ?_ | refine d63Cr ?_ | fail)
          first | refine WL.callK (Zn.same md N.mz (X.sm p.v fun k => p.g k * x k) z) ?_ | refine WD.callK (Zn.same md N.mz (X.sm p.v fun k => p.g k * x k) z) ?_ | refine LO.callM (Zn.same md N.mz (X.sm p.v fun k => p.g k * x k) z) ?_
          rintro _ _ _ ⟨rfl, rfl, rfl⟩
          simp only [List.nil_append, List.cons_append]
          repeat' (first | refine gM ?_ | (refine gI ?_; intro g) | (refine gU ?_; intro v) | refine gN ?_ ?_ | refine d63Cr ?_ | fail)
          refine WC.ret ?_
          exact Fin.v (ResE.t1 rfl rfl) meA (by simp)
        · rw [decide_eq_false cz]
          repeat' (first | refine gM ?_ | (refine gI ?_; intro g) | (refine gU ?_; intro v) | refine gN ?_ ?_ | refine d63Cr ?_ | fail)
          refine WC.ret ?_
          exact Fin.v (ResE.t1 rfl rfl) meA (by simp)
  · by_cases k1 : kind = 1
    · subst k1
      have e : rightP p 1 xn yn x y z = (sumsOk p yn y (fun _ => 0) && decide (xn = 0) && decide (sumsV p y < 0) && decide (z = 0)) := rfl
      rw [e]
      have hs1 := @sgn_neg (sumsV p y)
      have hs2 := @sgn_zero z
      refine WC.fact (mF p.v (fun _ => m00) (fun _ => 0)) (W.Has.mF0 _) ?_
      repeat' (first | refine gA ?_ | (refine goG ?_; intro g) | (refine goV ?_; intro v))
      rename_i g2
      revert g; intro g3
      refine WC.cutP (σ := Nat × QM) (fun st => [(7, ptr st.1), (8, .bool (sumsOk p yn y fun _ => 0)), (3, ptr g3), (2, ptr g2)]) (fun st => [Ow.cells st.1 31 (qcs st.2), Ow.cells g3 33 (acs N 1), Ow.cells g2 26 (pcs M p.v)])
        (fun st => [isQ (qv st.2) (if sumsOk p yn y (fun _ => 0) = true then sumsV p y else 0), isQ (qv N.mz) z, fF N.xv xn N.mx x, ge h0]) (fun _ => True) ?_ ?_
      · repeat' (first | refine gM ?_ | (refine gI ?_; intro g) | (refine gU ?_; intro v) | refine gN ?_ ?_ | refine d63Cr ?_ | fail)
        all_goals (first | refine WD.freezeF v p.v (fun _ => m00) (fun _ => 0) (by repeat (first | exact Sel.head | apply Sel.tail)) hmA ?_ | refine LO.freezeF v p.v (fun _ => m00) (fun _ => 0) (by repeat (first | exact Sel.head | apply Sel.tail)) hmA ?_)
        all_goals (first | refine WD.callK (sums_c M p K yn N.yv v N.my (fun _ => m00) y (fun _ => 0) hdm hv hm ha hb hy) ?_ | refine LO.callM (sums_c M p K yn N.yv v N.my (fun _ => m00) y (fun _ => 0) hdm hv hm ha hb hy) ?_)
        all_goals rintro _ _ _ ⟨mb, rfl, rfl, rfl⟩
        all_goals simp only [List.nil_append, List.cons_append]
        all_goals repeat' (first | refine gM ?_ | (refine gI ?_; intro g) | (refine gU ?_; intro v) | refine gN ?_ ?_ | refine d63Cr ?_ | fail)
        all_goals (apply Ex2; refine ⟨trivial, ?_, ?_, ?_⟩; (focus (repeat (first | exact Sub.nil _ | refine Sub.cons rfl ?_))); (focus (repeat (first | exact SubP.nil _ | (apply SubP.cons; (repeat (first | exact Rem.head | apply Rem.tail)))))); (focus (repeat (first | exact HasAll.nil | (apply HasAll.cons; exact hsA)))))
      rintro ⟨g7, mb⟩ _
      simp only
      cases hs : sumsOk p yn y (fun _ => 0) with
      | false =>
        repeat' (first | refine gM ?_ | (refine gI ?_; intro g) | (refine gU ?_; intro v) | refine gN ?_ ?_ | refine d63Cr ?_ | fail)
        refine WC.ret ?_
        exact Fin.v (ResE.t1 rfl rfl) meA (by simp)
      | true =>
        rw [if_pos rfl]
        by_cases cx : xn = 0
        · rw [decide_eq_true cx]
          repeat' (first | refine gM ?_ | (refine gI ?_; intro g) | (refine gU ?_; intro v) | refine gN ?_ ?_ | refine d63Cr ?_ | fail)
          first | refine WL.callV (Zn.sign mb (sumsV p y)) ?_ | refine WD.callV (Zn.sign mb (sumsV p y)) ?_
          by_cases cs : sumsV p y < 0
          · rw [decide_eq_true cs]
            have c' := hs1.2 cs
            repeat' (first | refine gM ?_ | (refine gI ?_; intro g) | (refine gU ?_; intro v) | refine gN ?_ ?_ | refine d63Cr ?_ | fail)
            first | refine WL.callV (Zn.sign N.mz z) ?_ | refine WD.callV (Zn.sign N.mz z) ?_
            by_cases cz : z = 0
            · have c'' := hs2.2 cz
              rw [decide_eq_true cz]
              repeat' (first | refine gM ?_ | (refine gI ?_; intro g) | (refine gU ?_; intro v) | refine gN ?_ ?_ | refine d63Cr ?_ | fail)
              refine WC.ret ?_
              exact Fin.v (ResE.t1 rfl rfl) meA (by simp)
            · have c'' : ¬ sgn z.num = 0 := fun h => cz (hs2.1 h)
              rw [decide_eq_false cz]
              repeat' (first | refine gM ?_ | (refine gI ?_; intro g) | (refine gU ?_; intro v) | refine gN ?_ ?_ | refine d63Cr ?_ | fail)
              refine WC.ret ?_
              exact Fin.v (ResE.t1 rfl rfl) meA (by simp)
          · have c' : ¬ sgn (sumsV p y).num < 0 := fun h => cs (hs1.1 h)
            rw [decide_eq_false cs]
            repeat' (first | refine gM ?_ | (refine gI ?_; intro g) | (refine gU ?_; intro v) | refine gN ?_ ?_ | refine d63Cr ?_ | fail)
            refine WC.ret ?_
            exact Fin.v (ResE.t1 rfl rfl) meA (by simp)
        · rw [decide_eq_false cx]
          repeat' (first | refine gM ?_ | (refine gI ?_; intro g) | (refine gU ?_; intro v) | refine gN ?_ ?_ | refine d63Cr ?_ | fail)
          refine WC.ret ?_
          exact Fin.v (ResE.t1 rfl rfl) meA (by simp)
    · by_cases k2 : kind = 2
      · subst k2
        have e : rightP p 2 xn yn x y z = (holdP p xn x false && holdP p yn y true && decide (0 < X.sm p.v fun k => p.g k * y k) && decide (z = 0)) := rfl
        rw [e]
        have hs1 := @sgn_pos (X.sm p.v fun k => p.g k * y k)
        have hs2 := @sgn_zero z
        repeat' (first | refine gM ?_ | (refine gI ?_; intro g) | (refine gU ?_; intro v) | refine gN ?_ ?_ | refine d63Cr ?_ | fail)
        first | refine WL.callV (holds_c M p K xn false N.xv N.mx x hdv hv ha hb hx hK) ?_ | refine WD.callV (holds_c M p K xn false N.xv N.mx x hdv hv ha hb hx hK) ?_
        cases hh : holdP p xn x false with
        | false =>
          repeat' (first | refine gM ?_ | (refine gI ?_; intro g) | (refine gU ?_; intro v) | refine gN ?_ ?_ | refine d63Cr ?_ | fail)
          refine WC.ret ?_
          exact Fin.v (ResE.t1 rfl rfl) meA (by simp)
        | true =>
          repeat' (first | refine gM ?_ | (refine gI ?_; intro g) | (refine gU ?_; intro v) | refine gN ?_ ?_ | refine d63Cr ?_ | fail)
          first | refine WL.callV (holds_c M p K yn true N.yv N.my y hdv hv ha hb hy hK) ?_ | refine WD.callV (holds_c M p K yn true N.yv N.my y hdv hv ha hb hy hK) ?_
          cases hh2 : holdP p yn y true with
          | false =>
            repeat' (first | refine gM ?_ | (refine gI ?_; intro g) | (refine gU ?_; intro v) | refine gN ?_ ?_ | refine d63Cr ?_ | fail)
            refine WC.ret ?_
            exact Fin.v (ResE.t1 rfl rfl) meA (by simp)
          | true =>
            obtain rfl := holdP_len hh2
            repeat' (first | refine gM ?_ | (refine gI ?_; intro g) | (refine gU ?_; intro v) | refine gN ?_ ?_ | refine d63Cr ?_ | fail)
            refine WL.callK (dot_c M.gv N.yv p.v K M.mg N.my p.g y (by omega) hdv hg hy) ?_
            rintro _ _ _ ⟨md, rfl, rfl, rfl⟩
            simp only [List.nil_append, List.cons_append]
            repeat' (first | refine gM ?_ | (refine gI ?_; intro g) | (refine gU ?_; intro v) | refine gN ?_ ?_ | refine d63Cr ?_ | fail)
            first | refine WL.callV (Zn.sign md (X.sm p.v fun k => p.g k * y k)) ?_ | refine WD.callV (Zn.sign md (X.sm p.v fun k => p.g k * y k)) ?_
            by_cases cs : 0 < X.sm p.v fun k => p.g k * y k
            · rw [decide_eq_true cs]
              have c' := hs1.2 cs
              repeat' (first | refine gM ?_ | (refine gI ?_; intro g) | (refine gU ?_; intro v) | refine gN ?_ ?_ | refine d63Cr ?_ | fail)
              first | refine WL.callV (Zn.sign N.mz z) ?_ | refine WD.callV (Zn.sign N.mz z) ?_
              by_cases cz : z = 0
              · have c'' := hs2.2 cz
                rw [decide_eq_true cz]
                repeat' (first | refine gM ?_ | (refine gI ?_; intro g) | (refine gU ?_; intro v) | refine gN ?_ ?_ | refine d63Cr ?_ | fail)
                refine WC.ret ?_
                exact Fin.v (ResE.t1 rfl rfl) meA (by simp)
              · have c'' : ¬ sgn z.num = 0 := fun h => cz (hs2.1 h)
                rw [decide_eq_false cz]
                repeat' (first | refine gM ?_ | (refine gI ?_; intro g) | (refine gU ?_; intro v) | refine gN ?_ ?_ | refine d63Cr ?_ | fail)
                refine WC.ret ?_
                exact Fin.v (ResE.t1 rfl rfl) meA (by simp)
            · have c' : ¬ 0 < sgn (X.sm p.v fun k => p.g k * y k).num := fun h => cs (hs1.1 h)
              rw [decide_eq_false cs]
              repeat' (first | refine gM ?_ | (refine gI ?_; intro g) | (refine gU ?_; intro v) | refine gN ?_ ?_ | refine d63Cr ?_ | fail)
              refine WC.ret ?_
              exact Fin.v (ResE.t1 rfl rfl) meA (by simp)
      · have e : rightP p kind xn yn x y z = false := by unfold rightP; rw [if_neg k0, if_neg k1, if_neg k2]
        rw [e]
        repeat' (first | refine gM ?_ | (refine gI ?_; intro g) | (refine gU ?_; intro v) | refine gN ?_ ?_ | refine d63Cr ?_ | fail)
        refine WC.ret ?_
        exact Fin.v (ResE.t1 rfl rfl) meA rfl
set_option maxHeartbeats 4000000 in
set_option maxRecDepth 60000 in
theorem check_c (kind : Int) (hdv : Dok p.v K) (hdm : Dok p.m K) (hv : p.v ≤ 48) (hm : p.m ≤ 128) (hK : 0 < K) (ha : ∀ r, r < p.m → ∀ k, k < p.v → Sq K (p.a r k)) (hb : ∀ r, r < p.m → Sq K (p.b r)) (hg : ∀ k, k < p.v → Sq K (p.g k))
    (hx : ∀ k, k < xn → Sq K (x k)) (hy : ∀ k, k < yn → Sq K (y k)) : FnB Tryz.prog 15 [pgv M p.v, agv N kind] [] [fP M p, fA N xn yn x y z] (IsV (.int .i64 (if rightP p kind xn yn x y z = true then 0 else 22))) := by
  refine fn_of [(0, (pgv M p.v)), (1, (agv N kind))] 15 Tryz.func15 rfl Tryz.ntmps15 (by kernel_rfl) rfl suA fun h0 => ?_
  refine WC.fact (fF N.xv xn N.mx x) (W.Has.ax (M := N) (xn := xn) (yn := yn) (x := x) (y := y) (z := z) hmA) ?_
  refine WC.fact (fF N.yv yn N.my y) (W.Has.ay (M := N) (xn := xn) (yn := yn) (x := x) (y := y) (z := z) hmA) ?_
  refine WC.fact (isQ (qv N.mz) z) (W.Has.az (M := N) (xn := xn) (yn := yn) (x := x) (y := y) (z := z) hmA) ?_
  repeat' (first | refine gA ?_ | (refine goG ?_; intro g) | (refine goV ?_; intro v))
  refine WL.callV (valid_c M p.m p.v (fun _ => p.v) p.a p.b p.g p.v) ?_ (hF := .cons (.f hmA) .nil)
  rw [vldP_ok hv hm]
  repeat' (first | refine gA ?_ | (refine goG ?_; intro g) | (refine goV ?_; intro v))
  first | refine WL.callV (right_c M p N K xn yn x y z kind hdv hdm (by omega) (by omega) hK ha hb hg hx hy) ?_ | refine WD.callV (right_c M p N K xn yn x y z kind hdv hdm (by omega) (by omega) hK ha hb hg hx hy) ?_
  cases hr : rightP p kind xn yn x y z with
  | false =>
    repeat' (first | refine gA ?_ | (refine goG ?_; intro g) | (refine goV ?_; intro v))
    refine WC.ret ?_
    exact Fin.v (ResE.t1 rfl rfl) meA rfl
  | true =>
    repeat' (first | refine gA ?_ | (refine goG ?_; intro g) | (refine goV ?_; intro v))
    refine WC.ret ?_
    exact Fin.v (ResE.t1 rfl rfl) meA rfl
end
end Z
end Go.Proofs.YtaongbhamadlkaaGreat
namespace Go.Proofs.YtaongbhamadlkaaGreat
open W Go.RowKit
attribute [local irreducible] WC WL WD YO LO LoopEnd W.Fin Scalar SliceT FieldAt Row ArrT AllocT KnS Has W.One SrcE IntT
namespace U
set_option maxRecDepth 60000
theorem t0A {G : Prop} (h : G := by first | (((first | exact T.f26_0 | exact T.f26_1 | exact T.f26_2 | exact T.f29_0 | exact T.f29_1 | exact T.f31_0 | exact T.f31_1 | exact T.f33_0 | exact T.f33_1 | exact T.f33_2 | exact T.f33_3 | exact T.f60_0 | exact T.f60_1 | exact T.f77_0 | exact T.f77_1 | exact T.f77_2 | exact T.f88_0 | exact T.f88_1 | exact T.f88_2 | exact T.f88_3 | exact T.f88_4 | exact T.f88_5 | exact T.f107_0 | exact T.f107_1 | exact T.f107_2 | exact T.f123_0 | exact T.f123_1 | exact T.f134_0 | exact T.f134_1)); done) | fail) : G := h
theorem t1A {G : Prop} (h : G := by first | (((first | exact T.al3 | exact T.al4 | exact T.al22 | exact T.al23 | exact T.al24 | exact T.al26 | exact T.al29 | exact T.al31 | exact T.al33 | exact T.al34 | exact T.al48 | exact T.al60 | exact T.al72 | exact T.al77 | exact T.al84 | exact T.al86 | exact T.al88 | exact T.al103 | exact T.al107 | exact T.al123 | exact T.al129 | exact T.al131 | exact T.al134 | exact T.al162)); done) | fail) : G := h
theorem t2A {G : Prop} (h : G := by first | (((first | exact T.sc3 | exact T.sc4 | exact T.sc22 | exact T.sc23 | exact T.sc24 | exact T.sc34 | exact T.sc48 | exact T.sc72 | exact T.sc84 | exact T.sc86 | exact T.sc103 | exact T.sc129 | exact T.sc131 | exact T.sc162)); done) | fail) : G := h
theorem t3A {G : Prop} (h : G := by first | (((first | exact T.z3 | exact T.z4 | exact T.z22 | exact T.z23 | exact T.z24 | exact T.z34 | exact T.z48 | exact T.z72 | exact T.z84 | exact T.z86 | exact T.z103 | exact T.z129 | exact T.z131 | exact T.z162)); done) | fail) : G := h
theorem t4A {G : Prop} (h : G := by first | (((first | exact T.r26 | exact T.r29 | exact T.r31 | exact T.r33 | exact T.r60 | exact T.r77 | exact T.r88 | exact T.r107 | exact T.r123 | exact T.r134)); done) | fail) : G := h
theorem t5A {G : Prop} (h : G := by first | (((first | exact T.e22 | exact T.e23 | exact T.e24 | exact T.e48 | exact T.e72 | exact T.e86 | exact T.e129 | exact T.e131)); done) | fail) : G := h
theorem t6A {G : Prop} (h : G := by first | (((first | exact T.s22 | exact T.s23 | exact T.s24 | exact T.s48 | exact T.s72 | exact T.s86 | exact T.s129 | exact T.s131)); done) | fail) : G := h
theorem t7A {G : Prop} (h : G := by first | (((first | exact T.u3 | exact T.u34 | exact T.u162)); done) | fail) : G := h
theorem knA {G : Prop} (h : G := by first | (((first | (focus (apply KnS.ln; exact hmA; done)) | (focus (apply KnS.oN; exact meA; done)) | (focus (apply KnS.oV; exact meA; done)) | (focus (apply KnS.f; exact hmA; done)) | (focus (apply KnS.oI; exact meA; done)) | (focus (apply KnS.o1; exact meA; done)) | (focus (apply KnS.zd; exact hmA; done)) | (focus (apply KnS.q1; exact hmA; done)) | (focus (apply KnS.q2; exact hmA; done)) | (focus (apply KnS.ff; exact hmA; done)) | (focus (apply KnS.oR; exact meA; done)) | (focus (apply KnS.rf; exact hmA; omega; done)) | (focus (apply KnS.pl; exact hmA; done)) | (focus (apply KnS.oLn; exact meA; done)) | (focus (apply KnS.oL1; exact meA; done)))); done) | fail) : G := h
theorem hsA {G : Prop} (h : G := by first | (((first | exact hmA | (focus (apply hasQ_P; exact hmA; done)) | (focus (apply hasQ_Q; exact hmA; done)) | exact hasZ_0 | exact hasQ_0 | (focus (apply hasZ_d; exact hmA; done)) | (focus (apply hasQ_d1; exact hmA; done)) | (focus (apply hasQ_d2; exact hmA; done)) | (focus (apply W.Has.q; exact hmA; omega; done)) | (focus (apply W.Has.qt; exact hmA; omega; omega; done)) | (focus (apply W.Has.pbq; exact hmA; omega; done)) | (focus (apply W.Has.lnb; exact hmA; omega; done)) | (focus (apply W.Has.lna; exact hmA; omega; done)))); done) | fail) : G := h
theorem haA {G : Prop} (h : G := by first | ((repeat (first | exact HasAll.nil | (apply HasAll.cons; exact hsA))); done) | fail) : G := h
theorem ltA {G : Prop} (h : G := by first | (((first | (focus (apply Or.inr; constructor; (repeat (first | exact List.Sublist.refl _ | exact List.nil_sublist _ | apply List.Sublist.cons_cons | apply List.Sublist.cons)); (first | exact fun _ h => h | (intro f hf; (repeat (first | exact hf | apply List.Mem.tail)))); done)) | (apply Or.inl; kernel_rfl))); done) | fail) : G := h
theorem onA {G : Prop} (h : G := by first | (((first | exact ints_one _ | (intro u hu; simp only [List.mem_cons, List.not_mem_nil, or_false] at hu; first | (subst hu; rfl) | (rcases hu with rfl | rfl | rfl <;> rfl)))); done) | fail) : G := h
theorem leA {G : Prop} (h : G := by first | (((simp only [List.length_map, List.length_append, List.length_cons, List.length_nil, List.length_replicate, List.length_take]; omega)); done) | fail) : G := h
theorem y_build {G : Prop} (h : G := by first | (((first | (apply YO.buildZ; exact rfl; exact rfl; exact knA) | exact YO.buildZ0 | exact YO.buildQ0 | (apply YO.buildQ1; exact rfl) | (apply YO.buildQ2; exact rfl; exact rfl) | (apply YO.buildTb; exact rfl; exact rfl; exact rfl) | exact YO.buildA0 | (apply YO.buildA1; exact rfl; exact rfl; exact knA) | (apply YO.buildA2; exact rfl; exact rfl; exact rfl; exact knA; exact knA) | (apply YO.buildA3; exact rfl; exact rfl; exact rfl; exact rfl; exact knA; exact knA) | exact YO.buildLn0 | (apply YO.buildLn1; exact rfl; exact knA) | (apply YO.buildLn2; exact rfl; exact rfl; exact knA) | (apply YO.buildPg0; exact rfl) | (apply YO.buildPg01; exact rfl; exact rfl; exact knA) | (apply YO.buildPg02; exact rfl; exact rfl; exact knA) | (apply YO.buildPg3; exact rfl; exact rfl; exact rfl; exact knA; exact knA) | (apply YO.buildLnB; exact rfl))); done) | fail) : G := h
theorem y_indexAddr {G : Prop} (h : G := by first | (((first | (first | (apply YO.ix1; exact t6A; exact rfl; exact rfl; exact knA; omega) | (apply YO.ix; exact t6A; exact rfl; exact rfl; exact knA; omega) | (apply YO.ix1'; exact t6A; exact rfl; exact rfl; exact knA; omega; omega) | (apply YO.ix'; exact t6A; exact rfl; exact rfl; exact knA; omega; omega)) | (apply YO.ix1; exact t6A; exact rfl; exact rfl; exact knA; (first | omega | (simp only [List.length_set, List.length_replicate]; omega))) | (apply YO.ix; exact t6A; exact rfl; exact rfl; exact knA; (first | omega | (simp only [List.length_set, List.length_replicate]; omega))) | (apply YO.ix1'; exact t6A; exact rfl; exact rfl; exact knA; omega; (first | omega | (simp only [List.length_set, List.length_replicate]; omega))))); done) | fail) : G := h
theorem y_load {G : Prop} (h : G := by first | (((first | (apply YO.ldLns; exact t4A; exact rfl; exact hmA; omega) | (apply YO.ldLnA; exact t2A; exact rfl; exact hmA; omega) | (apply YO.ldLnB; exact t4A; exact rfl; exact hmA; omega) | (apply YO.ldON; exact t2A; exact rfl; exact meA; omega) | (apply YO.ldOV; exact t2A; exact rfl; exact meA; omega) | (apply YO.ldW; exact t4A; exact rfl; exact meA; exact rfl) | (apply YO.ld42; exact t4A; exact rfl; exact meA) | (apply YO.ld40; exact t4A; exact rfl; exact meA) | (apply YO.ld62; exact t4A; exact rfl; exact meA) | (apply YO.ld51; exact t4A; exact rfl; exact meA) | (apply YO.ldFf; exact t4A; exact rfl; exact hmA; omega) | (apply YO.ldOR; exact t4A; exact rfl; exact meA; omega) | (apply YO.ldRf; exact t4A; exact rfl; exact hmA; omega; omega) | (apply YO.ldPl; exact t4A; exact rfl; exact hmA; omega) | (apply YO.ld73; exact t4A; exact rfl; exact meA) | (apply YO.ldWI0; exact t4A; exact rfl; exact meA; (first | omega | (simp only [List.length_set, List.length_replicate]; omega))) | (apply YO.ldWF0; exact t4A; exact rfl; exact hmA; (first | omega | (simp only [List.length_set, List.length_replicate]; omega))) | (apply YO.ldCI; exact t2A; exact rfl; exact meA; (first | omega | (simp only [List.length_set, List.length_replicate]; omega))) | (apply YO.ldFI; exact t2A; exact rfl; exact hmA; (first | omega | (simp only [List.length_set, List.length_replicate]; omega))) | (apply YO.ldF; exact t2A; exact rfl; exact hmA; exact rfl) | (apply YO.ldS; exact t2A; exact rfl; exact hsA; omega) | (apply YO.ldB; exact t2A; exact rfl; exact meA; exact rfl) | (apply YO.ldOI; exact t2A; exact rfl; exact meA; (first | omega | (simp only [List.length_set, List.length_replicate]; omega))))); done) | fail) : G := h
theorem y_eql {G : Prop} (h : G := by first | (((first | (first | (first | (apply YO.eql_t; exact rfl; exact rfl; omega) | (apply YO.eql_f; exact rfl; exact rfl; omega)) | (apply YO.eqNil_t; exact t6A; exact rfl; exact knA; assumption) | (apply YO.eqNil_f; exact t6A; exact rfl; exact knA; assumption)) | (apply YO.beq_t; exact bool_t; exact rfl; exact rfl; (first | rfl | assumption | decide)) | (apply YO.beq_f; exact bool_t; exact rfl; exact rfl; (first | rfl | assumption | decide)) | (apply YO.eqNz_t; exact t6A; exact rfl; exact knA; assumption) | (apply YO.eqNz_f; exact t6A; exact rfl; exact knA; assumption))); done) | fail) : G := h
theorem y_slice {G : Prop} (h : G := by first | (((first | (first | (apply YO.slice; exact t6A; exact rfl; exact knA; exact Or.inl ⟨rfl, rfl⟩; exact Or.inr ⟨_, rfl, rfl⟩; omega; omega) | (apply YO.slice; exact t6A; exact rfl; exact knA; exact Or.inr ⟨_, rfl, rfl⟩; exact Or.inl ⟨rfl, rfl⟩; omega; omega)) | (apply YO.slice3; exact t6A; exact rfl; exact knA; exact rfl; exact rfl; omega; omega) | (apply YO.slice; exact t6A; exact rfl; exact knA; exact Or.inr ⟨_, rfl, rfl⟩; exact Or.inr ⟨_, rfl, rfl⟩; omega; omega))); done) | fail) : G := h
theorem y_len {G : Prop} (h : G := by first | (((apply YO.len; exact t6A; exact rfl; exact knA)); done) | fail) : G := h
theorem y_fieldAddr {G : Prop} (h : G := by first | (((first | (apply YO.fieldE; exact t0A; exact rfl) | (apply YO.fieldN; exact t0A; exact rfl; ((try simp only [Nat.zero_add, Nat.mul_one, Nat.reduceAdd, Nat.reduceMul]); exact rfl)))); done) | fail) : G := h
theorem y_conv {G : Prop} (h : G := by first | (((first | (first | (apply YO.convU; exact t7A; exact t7A; exact rfl; omega; omega) | (apply YO.convI; exact t7A; exact t7A; exact rfl; omega; omega)) | (apply YO.convN; exact t7A; exact t7A; exact rfl; omega; omega))); done) | fail) : G := h
theorem y_neq {G : Prop} (h : G := by first | (((first | (first | (apply YO.neq_t; exact rfl; exact rfl; omega) | (apply YO.neq_f; exact rfl; exact rfl; omega)) | (apply YO.bne_t; exact bool_t; exact rfl; exact rfl; (first | rfl | assumption | decide)) | (apply YO.bne_f; exact bool_t; exact rfl; exact rfl; (first | rfl | assumption | decide)))); done) | fail) : G := h
theorem y_makeFunc {G : Prop} (h : G := by first | (((apply YO.makeFunc; (repeat (first | exact Evs.nil | (apply Evs.cons; exact rfl))); (repeat (first | exact Evs.nil | (apply Evs.cons; exact rfl))))); done) | fail) : G := h
theorem y_quo {G : Prop} (h : G := by first | (((first | (apply YO.quo; exact rfl; exact rfl; omega; omega; omega) | (apply YO.uquo; exact rfl; exact rfl; omega; omega; omega))); done) | fail) : G := h
theorem y_and {G : Prop} (h : G := by first | (((first | (apply YO.and1; exact rfl; exact rfl; omega; omega) | (apply YO.and; exact rfl; exact rfl; omega; omega; omega; omega))); done) | fail) : G := h
theorem y_mul {G : Prop} (h : G := by first | (((first | (apply YO.mul; exact rfl; exact rfl; omega; omega) | (apply YO.umul; exact rfl; exact rfl; omega; omega))); done) | fail) : G := h
theorem y_rem {G : Prop} (h : G := by first | (((first | (apply YO.rem; exact rfl; exact rfl; omega; omega) | (apply YO.urem; exact rfl; exact rfl; omega; omega))); done) | fail) : G := h
theorem y_add {G : Prop} (h : G := by first | (((first | (apply YO.inc; exact rfl; exact rfl; omega) | (apply YO.add; exact rfl; exact rfl; omega; omega))); done) | fail) : G := h
theorem y_lss {G : Prop} (h : G := by first | (((first | (apply YO.lss_t; exact rfl; exact rfl; omega) | (apply YO.lss_f; exact rfl; exact rfl; omega))); done) | fail) : G := h
theorem y_gtr {G : Prop} (h : G := by first | (((first | (apply YO.gtr_t; exact rfl; exact rfl; omega) | (apply YO.gtr_f; exact rfl; exact rfl; omega))); done) | fail) : G := h
theorem y_geq {G : Prop} (h : G := by first | (((first | (apply YO.geq_t; exact rfl; exact rfl; omega) | (apply YO.geq_f; exact rfl; exact rfl; omega))); done) | fail) : G := h
theorem y_leq {G : Prop} (h : G := by first | (((first | (apply YO.leq_t; exact rfl; exact rfl; omega) | (apply YO.leq_f; exact rfl; exact rfl; omega))); done) | fail) : G := h
theorem y_shl {G : Prop} (h : G := by first | (((apply YO.shl'; exact rfl; exact rfl; omega; omega; (first | omega | decide); (first | omega | decide))); done) | fail) : G := h
theorem y_uneg {G : Prop} (h : G := by first | (((first | (apply YO.neg; exact rfl; omega; omega) | (apply YO.uneg; exact rfl; omega; omega))); done) | fail) : G := h
theorem y_pick {G : Prop} (h : G := by first | (((first | (apply YO.pick_t; exact rfl; exact rfl) | (apply YO.pick_f; exact rfl; exact rfl))); done) | fail) : G := h
theorem y_unot {G : Prop} (h : G := by first | (((first | (apply YO.not_t; exact rfl) | (apply YO.not_f; exact rfl))); done) | fail) : G := h
theorem y_or {G : Prop} (h : G := by first | (((apply YO.or; exact rfl; exact rfl; omega; omega; omega; omega)); done) | fail) : G := h
theorem go {G G' : Prop} (h : G') (s : Bx G' → G := by
  intro h
  (first
    | apply WL.nil
    | (apply WL.skg; exact rfl; exact rfl)
    | (apply WL.skg0; exact rfl)
    | (apply WL.k_move; (apply YO.move; exact rfl); exact rfl; exact rfl)
    | (apply WL.k_assign; (apply YO.assign; exact rfl); exact rfl; exact rfl)
    | (apply WL.k_lss; exact y_lss; exact rfl; exact rfl)
    | (apply WL.k_add; exact y_add; exact rfl; exact rfl)
    | (apply WL.k_len; exact y_len; exact rfl; exact rfl)
    | (apply WL.k_indexAddr; exact y_indexAddr; exact rfl; exact rfl)
    | (apply WL.k_load; exact y_load; exact rfl; exact rfl)
    | (apply WL.k_pick; exact y_pick; exact rfl; exact rfl)
    | (apply WL.k_fieldAddr; exact y_fieldAddr; exact rfl; exact rfl)
    | (apply WL.k_eql; exact y_eql; exact rfl; exact rfl)
    | (apply WL.k_neq; exact y_neq; exact rfl; exact rfl)
    | (apply WL.k_nil; (apply YO.nil; exact rfl); exact rfl; exact rfl)
    | (apply WL.k_extract; (apply YO.extract; exact rfl; exact rfl); exact rfl; exact rfl)
    | (apply WL.k_gtr; exact y_gtr; exact rfl; exact rfl)
    | (apply WL.k_geq; exact y_geq; exact rfl; exact rfl)
    | (apply WL.k_leq; exact y_leq; exact rfl; exact rfl)
    | (apply WL.k_sub; (apply YO.sub; exact rfl; exact rfl; omega; omega); exact rfl; exact rfl)
    | (apply WL.k_mul; exact y_mul; exact rfl; exact rfl)
    | (apply WL.k_rem; exact y_rem; exact rfl; exact rfl)
    | (apply WL.k_quo; exact y_quo; exact rfl; exact rfl)
    | (apply WL.k_unot; exact y_unot; exact rfl; exact rfl)
    | (apply WL.k_uneg; exact y_uneg; exact rfl; exact rfl)
    | (apply WL.k_max; (apply YO.max; exact rfl; exact rfl); exact rfl; exact rfl)
    | (apply WL.k_min; (apply YO.min; exact rfl; exact rfl); exact rfl; exact rfl)
    | (apply WL.k_makeFunc; exact y_makeFunc; exact rfl; exact rfl)
    | (apply WL.k_conv; exact y_conv; exact rfl; exact rfl)
    | (apply WL.k_shl; exact y_shl; exact rfl; exact rfl)
    | (apply WL.k_shr; (apply YO.shr'; exact rfl; exact rfl; omega; omega); exact rfl; exact rfl)
    | (apply WL.k_and; exact y_and; exact rfl; exact rfl)
    | (apply WL.k_or; exact y_or; exact rfl; exact rfl)
    | (apply WL.k_andNot; (apply YO.anot; exact rfl; exact rfl); exact rfl; exact rfl)
    | (apply WL.k_slice; exact y_slice; exact rfl; exact rfl)
    | (apply WL.k_build; exact y_build; exact rfl; exact rfl)
    | apply WC.seq
    | apply WC.region
    | apply WC.block
    | (apply WC.cond_t; exact rfl)
    | (apply WC.cond_f; exact rfl)
    | apply WC.exit
    | apply WC.skip
    | apply WC.label
    | (apply WL.kl_store; rotate_left; exact rfl; (first | (apply LO.storeOI; exact rfl; exact rfl; exact t3A; exact seA; (first | omega | (simp only [List.length_set]; omega))) | (apply LO.storeQ; exact rfl; exact rfl; exact t4A; exact hmA; exact seA; omega) | (apply LO.storeI; exact rfl; exact rfl; exact t3A; exact seA; (first | omega | (simp only [List.length_set, List.length_replicate]; omega))) | (apply LO.storeWI; exact rfl; exact rfl; exact seA; exact t4A; (first | omega | (simp only [List.length_set, List.length_replicate]; omega)); (first | (simp only [List.length_map, List.length_set, List.length_replicate, ints]; omega) | rfl)) | (apply LO.store1; exact rfl; exact rfl; exact t3A; (first | exact One.lit rfl rfl | (apply One.sl; exact knA)); exact seA; (first | (simp only [List.length_cons, List.length_nil]; omega) | (simp; omega)); (first | (simp only [List.set_cons_succ, List.set_cons_zero]; exact rfl) | exact rfl)) | (apply LO.storeO1; exact rfl; exact rfl; exact t3A; (first | exact One.lit rfl rfl | (apply One.sl; exact knA)); exact seA; (first | (simp only [List.length_cons, List.length_nil]; omega) | (simp; omega)); (first | (simp only [List.set_cons_succ, List.set_cons_zero]; exact rfl) | exact rfl)) | (apply LO.storeL; exact rfl; exact rfl; exact seA; exact t4A; exact rfl; exact rfl; (repeat (first | exact OneL.nil | (apply OneL.cons; (first | exact One.lit rfl rfl | (apply One.sl; exact knA)))))))))
  repeat (first
    | apply WL.nil
    | (apply WL.skg; exact rfl; exact rfl)
    | (apply WL.skg0; exact rfl)
    | (apply WL.k_move; (apply YO.move; exact rfl); exact rfl; exact rfl)
    | (apply WL.k_assign; (apply YO.assign; exact rfl); exact rfl; exact rfl)
    | (apply WL.k_lss; exact y_lss; exact rfl; exact rfl)
    | (apply WL.k_add; exact y_add; exact rfl; exact rfl)
    | (apply WL.k_len; exact y_len; exact rfl; exact rfl)
    | (apply WL.k_indexAddr; exact y_indexAddr; exact rfl; exact rfl)
    | (apply WL.k_load; exact y_load; exact rfl; exact rfl)
    | (apply WL.k_pick; exact y_pick; exact rfl; exact rfl)
    | (apply WL.k_fieldAddr; exact y_fieldAddr; exact rfl; exact rfl)
    | (apply WL.k_eql; exact y_eql; exact rfl; exact rfl)
    | (apply WL.k_neq; exact y_neq; exact rfl; exact rfl)
    | (apply WL.k_nil; (apply YO.nil; exact rfl); exact rfl; exact rfl)
    | (apply WL.k_extract; (apply YO.extract; exact rfl; exact rfl); exact rfl; exact rfl)
    | (apply WL.k_gtr; exact y_gtr; exact rfl; exact rfl)
    | (apply WL.k_geq; exact y_geq; exact rfl; exact rfl)
    | (apply WL.k_leq; exact y_leq; exact rfl; exact rfl)
    | (apply WL.k_sub; (apply YO.sub; exact rfl; exact rfl; omega; omega); exact rfl; exact rfl)
    | (apply WL.k_mul; exact y_mul; exact rfl; exact rfl)
    | (apply WL.k_rem; exact y_rem; exact rfl; exact rfl)
    | (apply WL.k_quo; exact y_quo; exact rfl; exact rfl)
    | (apply WL.k_unot; exact y_unot; exact rfl; exact rfl)
    | (apply WL.k_uneg; exact y_uneg; exact rfl; exact rfl)
    | (apply WL.k_max; (apply YO.max; exact rfl; exact rfl); exact rfl; exact rfl)
    | (apply WL.k_min; (apply YO.min; exact rfl; exact rfl); exact rfl; exact rfl)
    | (apply WL.k_makeFunc; exact y_makeFunc; exact rfl; exact rfl)
    | (apply WL.k_conv; exact y_conv; exact rfl; exact rfl)
    | (apply WL.k_shl; exact y_shl; exact rfl; exact rfl)
    | (apply WL.k_shr; (apply YO.shr'; exact rfl; exact rfl; omega; omega); exact rfl; exact rfl)
    | (apply WL.k_and; exact y_and; exact rfl; exact rfl)
    | (apply WL.k_or; exact y_or; exact rfl; exact rfl)
    | (apply WL.k_andNot; (apply YO.anot; exact rfl; exact rfl); exact rfl; exact rfl)
    | (apply WL.k_slice; exact y_slice; exact rfl; exact rfl)
    | (apply WL.k_build; exact y_build; exact rfl; exact rfl)
    | apply WC.seq
    | apply WC.region
    | apply WC.block
    | (apply WC.cond_t; exact rfl)
    | (apply WC.cond_f; exact rfl)
    | apply WC.exit
    | apply WC.skip
    | apply WC.label
    | (apply WL.kl_store; rotate_left; exact rfl; (first | (apply LO.storeOI; exact rfl; exact rfl; exact t3A; exact seA; (first | omega | (simp only [List.length_set]; omega))) | (apply LO.storeQ; exact rfl; exact rfl; exact t4A; exact hmA; exact seA; omega) | (apply LO.storeI; exact rfl; exact rfl; exact t3A; exact seA; (first | omega | (simp only [List.length_set, List.length_replicate]; omega))) | (apply LO.storeWI; exact rfl; exact rfl; exact seA; exact t4A; (first | omega | (simp only [List.length_set, List.length_replicate]; omega)); (first | (simp only [List.length_map, List.length_set, List.length_replicate, ints]; omega) | rfl)) | (apply LO.store1; exact rfl; exact rfl; exact t3A; (first | exact One.lit rfl rfl | (apply One.sl; exact knA)); exact seA; (first | (simp only [List.length_cons, List.length_nil]; omega) | (simp; omega)); (first | (simp only [List.set_cons_succ, List.set_cons_zero]; exact rfl) | exact rfl)) | (apply LO.storeO1; exact rfl; exact rfl; exact t3A; (first | exact One.lit rfl rfl | (apply One.sl; exact knA)); exact seA; (first | (simp only [List.length_cons, List.length_nil]; omega) | (simp; omega)); (first | (simp only [List.set_cons_succ, List.set_cons_zero]; exact rfl) | exact rfl)) | (apply LO.storeL; exact rfl; exact rfl; exact seA; exact t4A; exact rfl; exact rfl; (repeat (first | exact OneL.nil | (apply OneL.cons; (first | exact One.lit rfl rfl | (apply One.sl; exact knA)))))))))
  exact Bx.h h) : G := s ⟨h⟩
theorem goD {G G' : Prop} (h : G') (s : Bx G' → G := by
  intro h
  (first
    | apply WD.nil
    | (apply WD.skg; exact rfl; exact rfl; exact rfl)
    | (apply WD.skgl; exact rfl; exact rfl; exact rfl)
    | (apply WD.skgl0; exact rfl; exact rfl)
    | (apply WD.k_move; exact rfl; (apply YO.move; exact rfl); exact rfl; exact rfl)
    | (apply WD.k_assign; exact rfl; (apply YO.assign; exact rfl); exact rfl; exact rfl)
    | (apply WD.k_lss; exact rfl; exact y_lss; exact rfl; exact rfl)
    | (apply WD.k_add; exact rfl; exact y_add; exact rfl; exact rfl)
    | (apply WD.k_len; exact rfl; exact y_len; exact rfl; exact rfl)
    | (apply WD.k_indexAddr; exact rfl; exact y_indexAddr; exact rfl; exact rfl)
    | (apply WD.k_load; exact rfl; exact y_load; exact rfl; exact rfl)
    | (apply WD.k_pick; exact rfl; exact y_pick; exact rfl; exact rfl)
    | (apply WD.k_fieldAddr; exact rfl; exact y_fieldAddr; exact rfl; exact rfl)
    | (apply WD.k_eql; exact rfl; exact y_eql; exact rfl; exact rfl)
    | (apply WD.k_neq; exact rfl; exact y_neq; exact rfl; exact rfl)
    | (apply WD.k_nil; exact rfl; (apply YO.nil; exact rfl); exact rfl; exact rfl)
    | (apply WD.k_extract; exact rfl; (apply YO.extract; exact rfl; exact rfl); exact rfl; exact rfl)
    | (apply WD.k_gtr; exact rfl; exact y_gtr; exact rfl; exact rfl)
    | (apply WD.k_geq; exact rfl; exact y_geq; exact rfl; exact rfl)
    | (apply WD.k_leq; exact rfl; exact y_leq; exact rfl; exact rfl)
    | (apply WD.k_sub; exact rfl; (apply YO.sub; exact rfl; exact rfl; omega; omega); exact rfl; exact rfl)
    | (apply WD.k_mul; exact rfl; exact y_mul; exact rfl; exact rfl)
    | (apply WD.k_rem; exact rfl; exact y_rem; exact rfl; exact rfl)
    | (apply WD.k_quo; exact rfl; exact y_quo; exact rfl; exact rfl)
    | (apply WD.k_unot; exact rfl; exact y_unot; exact rfl; exact rfl)
    | (apply WD.k_uneg; exact rfl; exact y_uneg; exact rfl; exact rfl)
    | (apply WD.k_max; exact rfl; (apply YO.max; exact rfl; exact rfl); exact rfl; exact rfl)
    | (apply WD.k_min; exact rfl; (apply YO.min; exact rfl; exact rfl); exact rfl; exact rfl)
    | (apply WD.k_makeFunc; exact rfl; exact y_makeFunc; exact rfl; exact rfl)
    | (apply WD.k_conv; exact rfl; exact y_conv; exact rfl; exact rfl)
    | (apply WD.k_shl; exact rfl; exact y_shl; exact rfl; exact rfl)
    | (apply WD.k_shr; exact rfl; (apply YO.shr'; exact rfl; exact rfl; omega; omega); exact rfl; exact rfl)
    | (apply WD.k_and; exact rfl; exact y_and; exact rfl; exact rfl)
    | (apply WD.k_or; exact rfl; exact y_or; exact rfl; exact rfl)
    | (apply WD.k_andNot; exact rfl; (apply YO.anot; exact rfl; exact rfl); exact rfl; exact rfl)
    | (apply WD.k_slice; exact rfl; exact y_slice; exact rfl; exact rfl)
    | (apply WD.k_build; exact rfl; exact y_build; exact rfl; exact rfl)
    | (apply WD.kl_store; exact rfl; rotate_left; exact rfl; (first | (apply LO.storeOI; exact rfl; exact rfl; exact t3A; exact seA; (first | omega | (simp only [List.length_set]; omega))) | (apply LO.storeQ; exact rfl; exact rfl; exact t4A; exact hmA; exact seA; omega) | (apply LO.storeI; exact rfl; exact rfl; exact t3A; exact seA; (first | omega | (simp only [List.length_set, List.length_replicate]; omega))) | (apply LO.storeWI; exact rfl; exact rfl; exact seA; exact t4A; (first | omega | (simp only [List.length_set, List.length_replicate]; omega)); (first | (simp only [List.length_map, List.length_set, List.length_replicate, ints]; omega) | rfl)) | (apply LO.store1; exact rfl; exact rfl; exact t3A; (first | exact One.lit rfl rfl | (apply One.sl; exact knA)); exact seA; (first | (simp only [List.length_cons, List.length_nil]; omega) | (simp; omega)); (first | (simp only [List.set_cons_succ, List.set_cons_zero]; exact rfl) | exact rfl)) | (apply LO.storeO1; exact rfl; exact rfl; exact t3A; (first | exact One.lit rfl rfl | (apply One.sl; exact knA)); exact seA; (first | (simp only [List.length_cons, List.length_nil]; omega) | (simp; omega)); (first | (simp only [List.set_cons_succ, List.set_cons_zero]; exact rfl) | exact rfl)) | (apply LO.storeL; exact rfl; exact rfl; exact seA; exact t4A; exact rfl; exact rfl; (repeat (first | exact OneL.nil | (apply OneL.cons; (first | exact One.lit rfl rfl | (apply One.sl; exact knA))))))); constructor; exact ltA))
  repeat (first
    | apply WD.nil
    | (apply WD.skg; exact rfl; exact rfl; exact rfl)
    | (apply WD.skgl; exact rfl; exact rfl; exact rfl)
    | (apply WD.skgl0; exact rfl; exact rfl)
    | (apply WD.k_move; exact rfl; (apply YO.move; exact rfl); exact rfl; exact rfl)
    | (apply WD.k_assign; exact rfl; (apply YO.assign; exact rfl); exact rfl; exact rfl)
    | (apply WD.k_lss; exact rfl; exact y_lss; exact rfl; exact rfl)
    | (apply WD.k_add; exact rfl; exact y_add; exact rfl; exact rfl)
    | (apply WD.k_len; exact rfl; exact y_len; exact rfl; exact rfl)
    | (apply WD.k_indexAddr; exact rfl; exact y_indexAddr; exact rfl; exact rfl)
    | (apply WD.k_load; exact rfl; exact y_load; exact rfl; exact rfl)
    | (apply WD.k_pick; exact rfl; exact y_pick; exact rfl; exact rfl)
    | (apply WD.k_fieldAddr; exact rfl; exact y_fieldAddr; exact rfl; exact rfl)
    | (apply WD.k_eql; exact rfl; exact y_eql; exact rfl; exact rfl)
    | (apply WD.k_neq; exact rfl; exact y_neq; exact rfl; exact rfl)
    | (apply WD.k_nil; exact rfl; (apply YO.nil; exact rfl); exact rfl; exact rfl)
    | (apply WD.k_extract; exact rfl; (apply YO.extract; exact rfl; exact rfl); exact rfl; exact rfl)
    | (apply WD.k_gtr; exact rfl; exact y_gtr; exact rfl; exact rfl)
    | (apply WD.k_geq; exact rfl; exact y_geq; exact rfl; exact rfl)
    | (apply WD.k_leq; exact rfl; exact y_leq; exact rfl; exact rfl)
    | (apply WD.k_sub; exact rfl; (apply YO.sub; exact rfl; exact rfl; omega; omega); exact rfl; exact rfl)
    | (apply WD.k_mul; exact rfl; exact y_mul; exact rfl; exact rfl)
    | (apply WD.k_rem; exact rfl; exact y_rem; exact rfl; exact rfl)
    | (apply WD.k_quo; exact rfl; exact y_quo; exact rfl; exact rfl)
    | (apply WD.k_unot; exact rfl; exact y_unot; exact rfl; exact rfl)
    | (apply WD.k_uneg; exact rfl; exact y_uneg; exact rfl; exact rfl)
    | (apply WD.k_max; exact rfl; (apply YO.max; exact rfl; exact rfl); exact rfl; exact rfl)
    | (apply WD.k_min; exact rfl; (apply YO.min; exact rfl; exact rfl); exact rfl; exact rfl)
    | (apply WD.k_makeFunc; exact rfl; exact y_makeFunc; exact rfl; exact rfl)
    | (apply WD.k_conv; exact rfl; exact y_conv; exact rfl; exact rfl)
    | (apply WD.k_shl; exact rfl; exact y_shl; exact rfl; exact rfl)
    | (apply WD.k_shr; exact rfl; (apply YO.shr'; exact rfl; exact rfl; omega; omega); exact rfl; exact rfl)
    | (apply WD.k_and; exact rfl; exact y_and; exact rfl; exact rfl)
    | (apply WD.k_or; exact rfl; exact y_or; exact rfl; exact rfl)
    | (apply WD.k_andNot; exact rfl; (apply YO.anot; exact rfl; exact rfl); exact rfl; exact rfl)
    | (apply WD.k_slice; exact rfl; exact y_slice; exact rfl; exact rfl)
    | (apply WD.k_build; exact rfl; exact y_build; exact rfl; exact rfl)
    | (apply WD.kl_store; exact rfl; rotate_left; exact rfl; (first | (apply LO.storeOI; exact rfl; exact rfl; exact t3A; exact seA; (first | omega | (simp only [List.length_set]; omega))) | (apply LO.storeQ; exact rfl; exact rfl; exact t4A; exact hmA; exact seA; omega) | (apply LO.storeI; exact rfl; exact rfl; exact t3A; exact seA; (first | omega | (simp only [List.length_set, List.length_replicate]; omega))) | (apply LO.storeWI; exact rfl; exact rfl; exact seA; exact t4A; (first | omega | (simp only [List.length_set, List.length_replicate]; omega)); (first | (simp only [List.length_map, List.length_set, List.length_replicate, ints]; omega) | rfl)) | (apply LO.store1; exact rfl; exact rfl; exact t3A; (first | exact One.lit rfl rfl | (apply One.sl; exact knA)); exact seA; (first | (simp only [List.length_cons, List.length_nil]; omega) | (simp; omega)); (first | (simp only [List.set_cons_succ, List.set_cons_zero]; exact rfl) | exact rfl)) | (apply LO.storeO1; exact rfl; exact rfl; exact t3A; (first | exact One.lit rfl rfl | (apply One.sl; exact knA)); exact seA; (first | (simp only [List.length_cons, List.length_nil]; omega) | (simp; omega)); (first | (simp only [List.set_cons_succ, List.set_cons_zero]; exact rfl) | exact rfl)) | (apply LO.storeL; exact rfl; exact rfl; exact seA; exact t4A; exact rfl; exact rfl; (repeat (first | exact OneL.nil | (apply OneL.cons; (first | exact One.lit rfl rfl | (apply One.sl; exact knA))))))); constructor; exact ltA))
  exact Bx.h h) : G := s ⟨h⟩
theorem goG {G G' : Prop} (h : G') (s : Bx G' → G := by
  intro h
  (first
    | (apply WL.kl_alloc; rotate_left; exact rfl; exact rfl; apply LO.alloc'; (first | exact t1A))
    | (apply WL.kl_box; rotate_left; exact rfl; exact rfl; (first | (apply LO.boxA; exact rfl) | (apply LO.box1; exact rfl; (first | exact One.lit rfl rfl | (apply One.sl; exact knA))))))
  exact Bx.h h) : G := s ⟨h⟩
theorem goV {G G' : Prop} (h : G') (s : Bx G' → G := by
  intro h
  (first
    | (apply WL.kl_ms; rotate_left; exact rfl; exact rfl; (apply LO.makeI; exact rfl; exact rfl; (repeat (first | (with_reducible apply NatI.add) | (with_reducible exact NatI.one) | exact NatI.cast _)); omega))
    | (apply WL.kl_ms; rotate_left; exact rfl; exact rfl; (apply LO.makeR; exact rfl; exact rfl; (repeat (first | (with_reducible apply NatI.add) | (with_reducible exact NatI.one) | exact NatI.cast _)); omega))
    | (apply WL.kl_ms; rotate_left; exact rfl; exact rfl; (apply LO.makeLn; exact rfl; exact rfl; (repeat (first | (with_reducible apply NatI.add) | (with_reducible exact NatI.one) | exact NatI.cast _)); omega))
    | (apply WL.kl_bs; rotate_left; exact rfl; exact rfl; (apply LO.bsR10; exact rfl))
    | (apply WL.kl_bs; rotate_left; exact rfl; exact rfl; (apply LO.bsR0))
    | (apply WL.kl_bs; rotate_left; exact rfl; exact rfl; (apply LO.bsR1; exact rfl))
    | (apply WL.kl_bs; rotate_left; exact rfl; exact rfl; (apply LO.bsV1; exact rfl; exact knA))
    | (apply WL.kl_bs; rotate_left; exact rfl; exact rfl; (apply LO.bsLn0))
    | (apply WL.kl_bs; rotate_left; exact rfl; exact rfl; (apply LO.bsLn1; exact rfl; exact hmA))
    | (apply WL.kl_bs; rotate_left; exact rfl; exact rfl; (apply LO.bsR2; exact rfl; exact rfl))
    | (apply WL.kl_bs; rotate_left; exact rfl; exact rfl; (apply LO.bsLn3; exact rfl; exact rfl; exact rfl; exact hmA; exact hmA; exact hmA))
    | (apply WL.kl_app; rotate_left; exact rfl; exact rfl; (apply LO.appR1; exact rfl; exact rfl; exact meA; exact hmA; (intro _; exact seA); omega))
    | (apply WL.kl_app; rotate_left; exact rfl; exact rfl; (apply LO.appFf; exact rfl; exact rfl; exact hmA; (intro _; exact seA); omega))
    | (apply WL.kl_app; rotate_left; exact rfl; exact rfl; (apply LO.appVV; exact rfl; exact rfl; exact meA; (apply One.sl; exact knA); (intro _; exact seA); omega))
    | (apply WL.kl_app; rotate_left; exact rfl; exact rfl; (apply LO.appNN; exact rfl; exact rfl; exact meA; (intro _; exact seA); omega))
    | (apply WL.kl_app; rotate_left; exact rfl; exact rfl; (apply LO.appLn1; exact rfl; exact rfl; exact meA; exact hmA; exact hmA; (intro _; exact seA); omega))
    | (apply WL.kl_app; rotate_left; exact rfl; exact rfl; (apply LO.appLnf; exact rfl; exact rfl; exact hmA; (intro _; exact seA); omega; omega))
    | (apply WL.kl_app; rotate_left; exact rfl; exact rfl; (apply LO.appFg; exact rfl; exact rfl; exact hmA; (intro _; exact seA); omega; omega))
    | (apply WL.kl_app; rotate_left; exact rfl; exact rfl; (apply LO.appLnf0; exact rfl; exact rfl; exact hmA; (intro _; exact seA); omega))
    | (apply WL.kl_bs; rotate_left; exact rfl; exact rfl; apply LO.bs1; exact t6A; (repeat (first | exact EvP.nil | (apply EvP.cons; exact rfl))); (intro _; kernel_rfl); exact rfl; omega)
    | (apply WL.kl_app; rotate_left; exact rfl; exact rfl; apply LO.app; exact t5A; exact rfl; exact rfl; (first | (focus (apply SrcE.ints; exact hmA; done)) | (focus (apply SrcE.own1; exact meA; done)) | (focus (apply SrcE.one; exact meA; exact rfl; decide; done))); (intro v; exact seA); exact onA; exact leA; exact leA))
  exact Bx.h h) : G := s ⟨h⟩
theorem goDG {G G' : Prop} (h : G') (s : Bx G' → G := by
  intro h
  (first
    | (apply WD.kl_alloc; exact rfl; rotate_left; exact rfl; exact rfl; apply LO.alloc'; (first | exact t1A); apply allAnd; (intro _; exact ltA))
    | (apply WD.kl_box; exact rfl; rotate_left; exact rfl; exact rfl; (first | (apply LO.boxA; exact rfl) | (apply LO.box1; exact rfl; (first | exact One.lit rfl rfl | (apply One.sl; exact knA)))); apply allAnd; (intro _; exact ltA)))
  exact Bx.h h) : G := s ⟨h⟩
theorem goDV {G G' : Prop} (h : G') (s : Bx G' → G := by
  intro h
  (first
    | (apply WD.kl_ms; exact rfl; rotate_left; exact rfl; exact rfl; (apply LO.makeI; exact rfl; exact rfl; (repeat (first | (with_reducible apply NatI.add) | (with_reducible exact NatI.one) | exact NatI.cast _)); omega); apply allAnd; (intro _; exact ltA))
    | (apply WD.kl_ms; exact rfl; rotate_left; exact rfl; exact rfl; (apply LO.makeR; exact rfl; exact rfl; (repeat (first | (with_reducible apply NatI.add) | (with_reducible exact NatI.one) | exact NatI.cast _)); omega); apply allAnd; (intro _; exact ltA))
    | (apply WD.kl_ms; exact rfl; rotate_left; exact rfl; exact rfl; (apply LO.makeLn; exact rfl; exact rfl; (repeat (first | (with_reducible apply NatI.add) | (with_reducible exact NatI.one) | exact NatI.cast _)); omega); apply allAnd; (intro _; exact ltA))
    | (apply WD.kl_bs; exact rfl; rotate_left; exact rfl; exact rfl; (apply LO.bsR10; exact rfl); apply allAnd; (intro _; exact ltA))
    | (apply WD.kl_bs; exact rfl; rotate_left; exact rfl; exact rfl; (apply LO.bsR0); apply allAnd; (intro _; exact ltA))
    | (apply WD.kl_bs; exact rfl; rotate_left; exact rfl; exact rfl; (apply LO.bsR1; exact rfl); apply allAnd; (intro _; exact ltA))
    | (apply WD.kl_bs; exact rfl; rotate_left; exact rfl; exact rfl; (apply LO.bsV1; exact rfl; exact knA); apply allAnd; (intro _; exact ltA))
    | (apply WD.kl_bs; exact rfl; rotate_left; exact rfl; exact rfl; (apply LO.bsLn0); apply allAnd; (intro _; exact ltA))
    | (apply WD.kl_bs; exact rfl; rotate_left; exact rfl; exact rfl; (apply LO.bsLn1; exact rfl; exact hmA); apply allAnd; (intro _; exact ltA))
    | (apply WD.kl_bs; exact rfl; rotate_left; exact rfl; exact rfl; (apply LO.bsR2; exact rfl; exact rfl); apply allAnd; (intro _; exact ltA))
    | (apply WD.kl_bs; exact rfl; rotate_left; exact rfl; exact rfl; (apply LO.bsLn3; exact rfl; exact rfl; exact rfl; exact hmA; exact hmA; exact hmA); apply allAnd; (intro _; exact ltA))
    | (apply WD.kl_app; exact rfl; rotate_left; exact rfl; exact rfl; (apply LO.appR1; exact rfl; exact rfl; exact meA; exact hmA; (intro _; exact seA); omega); apply allAnd; (intro _; exact ltA))
    | (apply WD.kl_app; exact rfl; rotate_left; exact rfl; exact rfl; (apply LO.appFf; exact rfl; exact rfl; exact hmA; (intro _; exact seA); omega); apply allAnd; (intro _; exact ltA))
    | (apply WD.kl_app; exact rfl; rotate_left; exact rfl; exact rfl; (apply LO.appVV; exact rfl; exact rfl; exact meA; (apply One.sl; exact knA); (intro _; exact seA); omega); apply allAnd; (intro _; exact ltA))
    | (apply WD.kl_app; exact rfl; rotate_left; exact rfl; exact rfl; (apply LO.appNN; exact rfl; exact rfl; exact meA; (intro _; exact seA); omega); apply allAnd; (intro _; exact ltA))
    | (apply WD.kl_app; exact rfl; rotate_left; exact rfl; exact rfl; (apply LO.appLn1; exact rfl; exact rfl; exact meA; exact hmA; exact hmA; (intro _; exact seA); omega); apply allAnd; (intro _; exact ltA))
    | (apply WD.kl_app; exact rfl; rotate_left; exact rfl; exact rfl; (apply LO.appLnf; exact rfl; exact rfl; exact hmA; (intro _; exact seA); omega; omega); apply allAnd; (intro _; exact ltA))
    | (apply WD.kl_app; exact rfl; rotate_left; exact rfl; exact rfl; (apply LO.appFg; exact rfl; exact rfl; exact hmA; (intro _; exact seA); omega; omega); apply allAnd; (intro _; exact ltA))
    | (apply WD.kl_app; exact rfl; rotate_left; exact rfl; exact rfl; (apply LO.appLnf0; exact rfl; exact rfl; exact hmA; (intro _; exact seA); omega); apply allAnd; (intro _; exact ltA))
    | (apply WD.kl_bs; exact rfl; rotate_left; exact rfl; exact rfl; apply LO.bs1; exact t6A; (repeat (first | exact EvP.nil | (apply EvP.cons; exact rfl))); (intro _; kernel_rfl); exact rfl; omega; apply allAnd; (intro _; exact ltA))
    | (apply WD.kl_app; exact rfl; rotate_left; exact rfl; exact rfl; apply LO.app; exact t5A; exact rfl; exact rfl; (first | (focus (apply SrcE.ints; exact hmA; done)) | (focus (apply SrcE.own1; exact meA; done)) | (focus (apply SrcE.one; exact meA; exact rfl; decide; done))); (intro v; exact seA); exact onA; exact leA; exact leA; apply allAnd; (intro _; exact ltA)))
  exact Bx.h h) : G := s ⟨h⟩
theorem goLG {G G' : Prop} (h : G') (s : Bx G' → G := by
  intro h
  (first
    | (apply LO.alloc'; (first | exact t1A); apply allAnd; (intro _; exact ltA))
    | ((first | (apply LO.boxA; exact rfl) | (apply LO.box1; exact rfl; (first | exact One.lit rfl rfl | (apply One.sl; exact knA)))); apply allAnd; (intro _; exact ltA)))
  exact Bx.h h) : G := s ⟨h⟩
theorem goLV {G G' : Prop} (h : G') (s : Bx G' → G := by
  intro h
  (first
    | (apply LO.bs1; exact t6A; (repeat (first | exact EvP.nil | (apply EvP.cons; exact rfl))); (intro _; kernel_rfl); exact rfl; omega; apply allAnd; (intro _; exact ltA))
    | (apply LO.app; exact t5A; exact rfl; exact rfl; (first | (focus (apply SrcE.ints; exact hmA; done)) | (focus (apply SrcE.own1; exact meA; done)) | (focus (apply SrcE.one; exact meA; exact rfl; decide; done))); (intro v; exact seA); exact onA; exact leA; exact leA; apply allAnd; (intro _; exact ltA))
    | ((apply LO.makeI; exact rfl; exact rfl; (repeat (first | (with_reducible apply NatI.add) | (with_reducible exact NatI.one) | exact NatI.cast _)); omega); apply allAnd; (intro _; exact ltA))
    | ((apply LO.makeR; exact rfl; exact rfl; (repeat (first | (with_reducible apply NatI.add) | (with_reducible exact NatI.one) | exact NatI.cast _)); omega); apply allAnd; (intro _; exact ltA))
    | ((apply LO.makeLn; exact rfl; exact rfl; (repeat (first | (with_reducible apply NatI.add) | (with_reducible exact NatI.one) | exact NatI.cast _)); omega); apply allAnd; (intro _; exact ltA))
    | ((apply LO.bsR10; exact rfl); apply allAnd; (intro _; exact ltA))
    | ((apply LO.bsR0); apply allAnd; (intro _; exact ltA))
    | ((apply LO.bsR1; exact rfl); apply allAnd; (intro _; exact ltA))
    | ((apply LO.bsV1; exact rfl; exact knA); apply allAnd; (intro _; exact ltA))
    | ((apply LO.bsLn0); apply allAnd; (intro _; exact ltA))
    | ((apply LO.bsLn1; exact rfl; exact hmA); apply allAnd; (intro _; exact ltA))
    | ((apply LO.bsR2; exact rfl; exact rfl); apply allAnd; (intro _; exact ltA))
    | ((apply LO.bsLn3; exact rfl; exact rfl; exact rfl; exact hmA; exact hmA; exact hmA); apply allAnd; (intro _; exact ltA))
    | ((apply LO.appR1; exact rfl; exact rfl; exact meA; exact hmA; (intro _; exact seA); omega); apply allAnd; (intro _; exact ltA))
    | ((apply LO.appFf; exact rfl; exact rfl; exact hmA; (intro _; exact seA); omega); apply allAnd; (intro _; exact ltA))
    | ((apply LO.appVV; exact rfl; exact rfl; exact meA; (apply One.sl; exact knA); (intro _; exact seA); omega); apply allAnd; (intro _; exact ltA))
    | ((apply LO.appNN; exact rfl; exact rfl; exact meA; (intro _; exact seA); omega); apply allAnd; (intro _; exact ltA))
    | ((apply LO.appLn1; exact rfl; exact rfl; exact meA; exact hmA; exact hmA; (intro _; exact seA); omega); apply allAnd; (intro _; exact ltA))
    | ((apply LO.appLnf; exact rfl; exact rfl; exact hmA; (intro _; exact seA); omega; omega); apply allAnd; (intro _; exact ltA))
    | ((apply LO.appFg; exact rfl; exact rfl; exact hmA; (intro _; exact seA); omega; omega); apply allAnd; (intro _; exact ltA))
    | ((apply LO.appLnf0; exact rfl; exact rfl; exact hmA; (intro _; exact seA); omega); apply allAnd; (intro _; exact ltA)))
  exact Bx.h h) : G := s ⟨h⟩
theorem goLS {G G' : Prop} (h : G') (s : Bx G' → G := by
  intro h
  (first
    | ((first | (apply LO.storeOI; exact rfl; exact rfl; exact t3A; exact seA; (first | omega | (simp only [List.length_set]; omega))) | (apply LO.storeQ; exact rfl; exact rfl; exact t4A; exact hmA; exact seA; omega) | (apply LO.storeI; exact rfl; exact rfl; exact t3A; exact seA; (first | omega | (simp only [List.length_set, List.length_replicate]; omega))) | (apply LO.storeWI; exact rfl; exact rfl; exact seA; exact t4A; (first | omega | (simp only [List.length_set, List.length_replicate]; omega)); (first | (simp only [List.length_map, List.length_set, List.length_replicate, ints]; omega) | rfl)) | (apply LO.store1; exact rfl; exact rfl; exact t3A; (first | exact One.lit rfl rfl | (apply One.sl; exact knA)); exact seA; (first | (simp only [List.length_cons, List.length_nil]; omega) | (simp; omega)); (first | (simp only [List.set_cons_succ, List.set_cons_zero]; exact rfl) | exact rfl)) | (apply LO.storeO1; exact rfl; exact rfl; exact t3A; (first | exact One.lit rfl rfl | (apply One.sl; exact knA)); exact seA; (first | (simp only [List.length_cons, List.length_nil]; omega) | (simp; omega)); (first | (simp only [List.set_cons_succ, List.set_cons_zero]; exact rfl) | exact rfl)) | (apply LO.storeL; exact rfl; exact rfl; exact seA; exact t4A; exact rfl; exact rfl; (repeat (first | exact OneL.nil | (apply OneL.cons; (first | exact One.lit rfl rfl | (apply One.sl; exact knA))))))); constructor; exact ltA))
  exact Bx.h h) : G := s ⟨h⟩
theorem goYT {G G' : Prop} (h : G') (s : Bx G' → G := by
  intro h
  (apply WD.yl; exact rfl; (first | (apply YO.move; exact rfl) | (apply YO.assign; exact rfl) | exact y_lss | exact y_add | exact y_len | exact y_indexAddr | exact y_load | exact y_pick | exact y_fieldAddr | exact y_eql | exact y_neq | (apply YO.nil; exact rfl) | (apply YO.extract; exact rfl; exact rfl) | exact y_gtr | exact y_geq | exact y_leq | (apply YO.sub; exact rfl; exact rfl; omega; omega) | exact y_mul | exact y_rem | exact y_quo | exact y_unot | exact y_uneg | (apply YO.max; exact rfl; exact rfl) | (apply YO.min; exact rfl; exact rfl) | exact y_makeFunc | exact y_conv | exact y_shl | (apply YO.shr'; exact rfl; exact rfl; omega; omega) | exact y_and | exact y_or | (apply YO.anot; exact rfl; exact rfl) | exact y_slice); exact rfl; exact rfl)
  exact Bx.h h) : G := s ⟨h⟩
theorem goYB {G G' : Prop} (h : G') (s : Bx G' → G := by
  intro h
  (apply WD.yl; exact rfl; (first | exact y_build | exact y_slice | (apply YO.extract; exact rfl; exact rfl) | exact y_fieldAddr | exact y_indexAddr | exact y_load | fail); exact rfl; exact rfl)
  exact Bx.h h) : G := s ⟨h⟩
theorem goLY {G G' : Prop} (h : G') (s : Bx G' → G := by
  intro h
  (apply LO.ofY; (first | exact y_build | exact y_slice | (apply YO.extract; exact rfl; exact rfl) | exact y_fieldAddr | exact y_indexAddr | exact y_load | fail); constructor; exact ltA)
  exact Bx.h h) : G := s ⟨h⟩
section
variable {P : Program} {n : Nat} {L rest : List Oper} {e : Env} {bx b0 : List Ow} {F F0 : List Fct} {Q : Env → List Ow → List Fct → Prop} {d i : Nat} {ty : TypeId} {pos : String} {af : Array Edge} {g : Option (Nat × Bool)} {hs : List Nat} {r : Plan}
  {f : FuncId} {x : Operand} {args : List Operand} {ats : Array TypeId} {vs cs : List Value} {F' : List Fct} {u : Value} {el sz : Nat}
theorem WL.callV (hf : FnB P f vs [] F' (IsV u)) (hK : WL P n L rest ((d, u) :: e) bx F Q) (hx : ev e x = some (.func (.func f) #[] #[]) := by exact rfl) (hv : Evs e args vs := by repeat (first | exact Evs.nil | (apply Evs.cons; exact rfl))) (hF : HasAllB bx F F' := by repeat (first | exact HasAllB.nil | (apply HasAllB.cons; (first | (focus (apply HasB.oI; exact meA; done)) | (focus (apply HasB.c; exact meA; done)) | (focus (apply HasB.f; exact hsA; done)) | (focus (apply HasB.fF; exact meA; exact hmA; done)) | (focus (apply HasB.rows; (repeat (first | exact List.Sublist.refl _ | apply List.Sublist.cons)); exact hmA; done)) | (focus (apply HasB.sV; exact meA; done)) | (focus (apply HasB.sN; exact meA; done)) | (focus (apply HasB.fLn; exact meA; exact hmA; done))))))
    (hd : Nat.blt d n = true := by exact rfl) (hg : gok L e g = some true := by exact rfl) : WL P n L (⟨some d, .call { callee := .value x, args := args.toArray, argTypes := ats }, ty, pos, af, g⟩ :: rest) e bx F Q :=
  WL.l hd hg (LO.callRV hx hv hf hF hK)
theorem WL.callO (hf : FnB P f vs [] F' (IsO el sz cs)) (hK : ∀ v, WL P n L rest ((d, v) :: e) (Ow.slice v el sz cs :: bx) F Q) (hx : ev e x = some (.func (.func f) #[] #[]) := by exact rfl) (hv : Evs e args vs := by repeat (first | exact Evs.nil | (apply Evs.cons; exact rfl))) (hF : HasAllB bx F F' := by repeat (first | exact HasAllB.nil | (apply HasAllB.cons; (first | (focus (apply HasB.oI; exact meA; done)) | (focus (apply HasB.c; exact meA; done)) | (focus (apply HasB.f; exact hsA; done)) | (focus (apply HasB.fF; exact meA; exact hmA; done)) | (focus (apply HasB.rows; (repeat (first | exact List.Sublist.refl _ | apply List.Sublist.cons)); exact hmA; done)) | (focus (apply HasB.sV; exact meA; done)) | (focus (apply HasB.sN; exact meA; done)) | (focus (apply HasB.fLn; exact meA; exact hmA; done))))))
    (hd : Nat.blt d n = true := by exact rfl) (hg : gok L e g = some true := by exact rfl) : WL P n L (⟨some d, .call { callee := .value x, args := args.toArray, argTypes := ats }, ty, pos, af, g⟩ :: rest) e bx F Q :=
  WL.l hd hg (LO.callRO hx hv hf hF hK)
theorem WD.callV (hf : FnB P f vs [] F' (IsV u)) (hK : WD P n L hs b0 F0 r ((d, u) :: e) bx F Q) (hL : L[i]? = some ⟨some d, .call { callee := .value x, args := args.toArray, argTypes := ats }, ty, pos, af, g⟩ := by exact rfl) (hx : ev e x = some (.func (.func f) #[] #[]) := by exact rfl) (hv : Evs e args vs := by repeat (first | exact Evs.nil | (apply Evs.cons; exact rfl))) (hF : HasAllB bx F F' := by repeat (first | exact HasAllB.nil | (apply HasAllB.cons; (first | (focus (apply HasB.oI; exact meA; done)) | (focus (apply HasB.c; exact meA; done)) | (focus (apply HasB.f; exact hsA; done)) | (focus (apply HasB.fF; exact meA; exact hmA; done)) | (focus (apply HasB.rows; (repeat (first | exact List.Sublist.refl _ | apply List.Sublist.cons)); exact hmA; done)) | (focus (apply HasB.sV; exact meA; done)) | (focus (apply HasB.sN; exact meA; done)) | (focus (apply HasB.fLn; exact meA; exact hmA; done))))))
    (hd : Nat.blt d n = true := by exact rfl) (hg : gok L e g = some true := by exact rfl) (lt : lateB L hs i = true ∨ (b0.Sublist bx ∧ ∀ f ∈ F0, f ∈ F) := by exact ltA) : WD P n L hs b0 F0 (.loud i r) e bx F Q :=
  WD.l hL hd hg (LO.callRV hx hv hf hF ⟨lt, hK⟩)
theorem WD.callO (hf : FnB P f vs [] F' (IsO el sz cs)) (hK : ∀ v, WD P n L hs b0 F0 r ((d, v) :: e) (Ow.slice v el sz cs :: bx) F Q) (hL : L[i]? = some ⟨some d, .call { callee := .value x, args := args.toArray, argTypes := ats }, ty, pos, af, g⟩ := by exact rfl) (hx : ev e x = some (.func (.func f) #[] #[]) := by exact rfl) (hv : Evs e args vs := by repeat (first | exact Evs.nil | (apply Evs.cons; exact rfl))) (hF : HasAllB bx F F' := by repeat (first | exact HasAllB.nil | (apply HasAllB.cons; (first | (focus (apply HasB.oI; exact meA; done)) | (focus (apply HasB.c; exact meA; done)) | (focus (apply HasB.f; exact hsA; done)) | (focus (apply HasB.fF; exact meA; exact hmA; done)) | (focus (apply HasB.rows; (repeat (first | exact List.Sublist.refl _ | apply List.Sublist.cons)); exact hmA; done)) | (focus (apply HasB.sV; exact meA; done)) | (focus (apply HasB.sN; exact meA; done)) | (focus (apply HasB.fLn; exact meA; exact hmA; done))))))
    (hd : Nat.blt d n = true := by exact rfl) (hg : gok L e g = some true := by exact rfl) (lt : lateB L hs i = true ∨ (b0.Sublist bx ∧ ∀ f ∈ F0, f ∈ F) := by exact ltA) : WD P n L hs b0 F0 (.loud i r) e bx F Q :=
  WD.l hL hd hg (LO.callRO hx hv hf hF fun v => ⟨lt.imp id fun h => ⟨h.1.trans (List.sublist_cons_self _ _), h.2⟩, hK v⟩)
end
end U
end Go.Proofs.YtaongbhamadlkaaGreat
namespace Go.Proofs.YtaongbhamadlkaaGreat
open Go.RowKit Go.Sort Go.Shelf
def laySort_ren : Go.Shelf.Ren := ⟨fun | 5 => 83 | 8 => 140 | 7 => 139 | 19 => 192 | 20 => 193 | 10 => 183 | 11 => 184 | 12 => 185 | 13 => 186 | 14 => 187 | 15 => 188 | 16 => 189 | 17 => 190 | 18 => 191 | 30 => 203 | 31 => 204 | 32 => 205 | 33 => 206 | 34 => 207 | 35 => 208 | 40 => 213 | n => n, fun | 23 => 22 | 25 => 3 | 3 => 3 | 32 => 156 | 22 => 22 | 0 => 0 | 44 => 188 | 46 => 162 | 4 => 4 | 36 => 181 | 35 => 180 | 41 => 185 | 5 => 5 | 9 => 9 | 53 => 195 | 57 => 199 | 63 => 204 | 64 => 205 | n => n, fun | n => n⟩
theorem laySort : SlLaysM.n5 Tryz.prog laySort_ren := {
  mixed := by kernel_rfl
  f5 := ⟨Tryz.f83.name, by decide, Tryz.func83.trans (congrArg some (by kernel_rfl))⟩
  f7 := ⟨Tryz.f139.name, by decide, Tryz.func139.trans (congrArg some (by kernel_rfl))⟩
  f8 := Tryz.func140.trans (congrArg some (by kernel_rfl))
  f10 := ⟨Tryz.f183.name, by decide, Tryz.func183.trans (congrArg some (by kernel_rfl))⟩
  f11 := ⟨Tryz.f184.name, by decide, Tryz.func184.trans (congrArg some (by kernel_rfl))⟩
  f12 := ⟨Tryz.f185.name, by decide, Tryz.func185.trans (congrArg some (by kernel_rfl))⟩
  f13 := ⟨Tryz.f186.name, by decide, Tryz.func186.trans (congrArg some (by kernel_rfl))⟩
  f14 := ⟨Tryz.f187.name, by decide, Tryz.func187.trans (congrArg some (by kernel_rfl))⟩
  f15 := ⟨Tryz.f188.name, by decide, Tryz.func188.trans (congrArg some (by kernel_rfl))⟩
  f16 := ⟨Tryz.f189.name, by decide, Tryz.func189.trans (congrArg some (by kernel_rfl))⟩
  f17 := ⟨Tryz.f190.name, by decide, Tryz.func190.trans (congrArg some (by kernel_rfl))⟩
  f18 := ⟨Tryz.f191.name, by decide, Tryz.func191.trans (congrArg some (by kernel_rfl))⟩
  f19 := Tryz.func192.trans (congrArg some (by kernel_rfl))
  f20 := Tryz.func193.trans (congrArg some (by kernel_rfl))
  f30 := ⟨Tryz.f203.name, by decide, Tryz.func203.trans (congrArg some (by kernel_rfl))⟩
  f31 := Tryz.func204.trans (congrArg some (by kernel_rfl))
  f32 := Tryz.func205.trans (congrArg some (by kernel_rfl))
  f33 := ⟨Tryz.f206.name, by decide, Tryz.func206.trans (congrArg some (by kernel_rfl))⟩
  f34 := ⟨Tryz.f207.name, by decide, Tryz.func207.trans (congrArg some (by kernel_rfl))⟩
  f35 := ⟨Tryz.f208.name, by decide, Tryz.func208.trans (congrArg some (by kernel_rfl))⟩
  f40 := ⟨Tryz.f213.name, by decide, Tryz.func213.trans (congrArg some (by kernel_rfl))⟩
  t0 := Tryz.underlying0
  a0 := Tryz.isAgg0
  z0 := Tryz.sizeOf0
  v0 := Tryz.zeroValue0
  t3 := Tryz.underlying3
  a3 := Tryz.isAgg3
  z3 := Tryz.sizeOf3
  v3 := Tryz.zeroValue3
  t4 := Tryz.underlying4
  a4 := Tryz.isAgg4
  z4 := Tryz.sizeOf4
  v4 := Tryz.zeroValue4
  t5 := Tryz.underlying5
  a5 := Tryz.isAgg5
  z5 := Tryz.sizeOf5
  v5 := Tryz.zeroValue5
  t9 := Tryz.underlying9
  a9 := Tryz.isAgg9
  z9 := Tryz.sizeOf9
  v9 := Tryz.zeroValue9
  t22 := Tryz.underlying22
  a22 := Tryz.isAgg22
  z22 := Tryz.sizeOf22
  v22 := Tryz.zeroValue22
  t23 := Tryz.underlying22
  a23 := Tryz.isAgg22
  z23 := Tryz.sizeOf22
  v23 := Tryz.zeroValue22
  t25 := Tryz.underlying3
  a25 := Tryz.isAgg3
  z25 := Tryz.sizeOf3
  v25 := Tryz.zeroValue3
  t32 := Tryz.underlying156
  a32 := Tryz.isAgg156
  z32 := Tryz.sizeOf156
  v32 := Tryz.zeroValue156
  t35 := Tryz.underlying180
  a35 := Tryz.isAgg180
  z35 := Tryz.sizeOf180
  v35 := Tryz.zeroValue180
  t36 := Tryz.underlying181
  a36 := Tryz.isAgg181
  z36 := Tryz.sizeOf181
  v36 := Tryz.zeroValue181
  t41 := Tryz.underlying185
  a41 := Tryz.isAgg185
  z41 := Tryz.sizeOf185
  v41 := Tryz.zeroValue185
  t44 := Tryz.underlying188
  a44 := Tryz.isAgg188
  z44 := Tryz.sizeOf188
  v44 := Tryz.zeroValue188
  t46 := Tryz.underlying162
  a46 := Tryz.isAgg162
  z46 := Tryz.sizeOf162
  v46 := Tryz.zeroValue162
  t53 := Tryz.underlying195
  a53 := Tryz.isAgg195
  z53 := Tryz.sizeOf195
  v53 := Tryz.zeroValue195
  t57 := Tryz.underlying199
  a57 := Tryz.isAgg199
  z57 := Tryz.sizeOf199
  v57 := Tryz.zeroValue199
  t63 := Tryz.underlying204
  a63 := Tryz.isAgg204
  z63 := Tryz.sizeOf204
  v63 := Tryz.zeroValue204
  t64 := Tryz.underlying205
  a64 := Tryz.isAgg205
  z64 := Tryz.sizeOf205
  v64 := Tryz.zeroValue205 }
def layCompact_ren : Go.Shelf.Ren := ⟨fun | 20 => 84 | n => n, fun | 22 => 22 | 3 => 3 | 4 => 4 | 0 => 0 | n => n, fun | n => n⟩
theorem layCompact : Lays2.n20 Tryz.prog layCompact_ren := {
  mixed := by kernel_rfl
  f20 := Tryz.func84.trans (congrArg some (by kernel_rfl))
  t0 := Tryz.underlying0
  a0 := Tryz.isAgg0
  z0 := Tryz.sizeOf0
  v0 := Tryz.zeroValue0
  t3 := Tryz.underlying3
  a3 := Tryz.isAgg3
  z3 := Tryz.sizeOf3
  v3 := Tryz.zeroValue3
  t4 := Tryz.underlying4
  a4 := Tryz.isAgg4
  z4 := Tryz.sizeOf4
  v4 := Tryz.zeroValue4
  t22 := Tryz.underlying22
  a22 := Tryz.isAgg22
  z22 := Tryz.sizeOf22
  v22 := Tryz.zeroValue22
  i3 := by kernel_rfl }
def layDelete_ren : Go.Shelf.Ren := ⟨fun | 10 => 80 | 6 => 138 | n => n, fun | 22 => 22 | 23 => 3 | 25 => 111 | 3 => 3 | 4 => 4 | 0 => 0 | n => n, fun | n => n⟩
theorem layDelete : SlLaysH.n10 Tryz.prog layDelete_ren := {
  mixed := by kernel_rfl
  f6 := ⟨Tryz.f138.name, by decide, Tryz.func138.trans (congrArg some (by kernel_rfl))⟩
  f10 := ⟨Tryz.f80.name, by decide, Tryz.func80.trans (congrArg some (by kernel_rfl))⟩
  t0 := Tryz.underlying0
  a0 := Tryz.isAgg0
  z0 := Tryz.sizeOf0
  v0 := Tryz.zeroValue0
  t3 := Tryz.underlying3
  a3 := Tryz.isAgg3
  z3 := Tryz.sizeOf3
  v3 := Tryz.zeroValue3
  t4 := Tryz.underlying4
  a4 := Tryz.isAgg4
  z4 := Tryz.sizeOf4
  v4 := Tryz.zeroValue4
  t22 := Tryz.underlying22
  a22 := Tryz.isAgg22
  z22 := Tryz.sizeOf22
  v22 := Tryz.zeroValue22
  a23 := Tryz.isAgg3
  z23 := Tryz.sizeOf3
  t25 := Tryz.underlying111
  a25 := Tryz.isAgg111
  z25 := Tryz.sizeOf111
  v25 := Tryz.zeroValue111 }
end Go.Proofs.YtaongbhamadlkaaGreat
