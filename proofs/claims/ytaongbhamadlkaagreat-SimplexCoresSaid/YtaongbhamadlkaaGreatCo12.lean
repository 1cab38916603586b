/- Lemmas for the proof of a law: Contracts of simplex's Solve on lists of lines, contradictory. Conditions: none. -/
import Derived.Test.YtaongbhamadlkaaGreatCo11
import Derived.Test.YtaongbhamadlkaaGreatCo10
set_option linter.unusedVariables false
set_option linter.unusedSimpArgs false
set_option linter.unusedSectionVars false
namespace Go.Proofs.YtaongbhamadlkaaGreat
open W Go.RowKit
def szK (m K0 : Nat) : Nat := 5 ^ m * K0
def szL (m K0 : Nat) : Nat := m * (K0 + szK m K0 + 1) + 1 + K0 + 1
def szR (v m K0 : Nat) : Nat := szL m K0 + (2 * szK m K0 + 1) + (v * (2 * (2 * szK m K0 + 1) + 1) + 1)
structure Fits (v m K0 : Nat) : Prop where
  l : szL m K0 ≤ 20000000
  d : v * (2 * (2 * szK m K0 + 1) + 1) + 1 + 2 * (2 * szK m K0 + 1) ≤ 400000000
  v : v ≤ 48
  m : m ≤ 128
  k : 0 < K0
theorem szK_le (m K0 : Nat) : szK m K0 ≤ szL m K0 := by
  unfold szL
  cases m with
  | zero => unfold szK; simp; omega
  | succ m =>
    have : 1 * (K0 + szK (m + 1) K0 + 1) ≤ (m + 1) * (K0 + szK (m + 1) K0 + 1) := Nat.mul_le_mul_right _ (by omega)
    omega
theorem szs_of {v m K0 : Nat} {L : List X.Ln} {g : Nat → Rat} (hf : Fits v m K0) (hL : LSq K0 v L) (hm : L.length ≤ m) (hg : ∀ k, k < v → Sq K0 (g k)) : X.Szs (X.lpOf v L g) K0 (szK m K0) (szL m K0) where
  pos := hf.k
  a := fun r hr k hk => hL.ca hr hk
  b := fun r hr => hL.cb hr
  g := hg
  k := Nat.mul_le_mul_right _ (Nat.pow_le_pow_right (by decide) hm)
  l := by
    have := Nat.mul_le_mul_right (K0 + szK m K0 + 1) hm
    show L.length * (K0 + szK m K0 + 1) + 1 + K0 + 1 ≤ szL m K0
    unfold szL; omega
  t := hf.l
  kl := szK_le m K0
  d := hf.d
theorem solveL_c (M : Pm) {v m K0 : Nat} {L : List X.Ln} {g : Nat → Rat} (hf : Fits v m K0) (hL : LSq K0 v L) (hm : L.length ≤ m) (hg : ∀ k, k < v → Sq K0 (g k)) : FnB Tryz.prog 12 [pgv M v] [] [fP M (X.lpOf v L g)] (IsAns (X.lpOf v L g) (szR v m K0)) :=
  Z.solve_c M (X.lpOf v L g) K0 (szK m K0) (szL m K0) (szR v m K0) (szs_of hf hL hm hg) hf.v (Nat.le_trans hm hf.m) (by unfold szR; omega) (by unfold szR; omega) (by show v * _ + 1 ≤ _; unfold szR; omega)
theorem AnsP.sem {p : X.Lp} {kind xn yn : Nat} {x y : Nat → Rat} {z : Rat} (h : AnsP p kind xn yn x y z) : X.Sem p kind z := by
  rcases h with ⟨rfl, _, _, rfl, h⟩ | ⟨rfl, _, _, h⟩ | ⟨rfl, _, _, rfl, h⟩
  · exact X.Sem.inf h
  · exact X.Sem.opt h
  · exact X.Sem.unb h
theorem Dok.le {n m K : Nat} (h : Dok m K) (hn : n ≤ m) : Dok n K := by
  unfold Dok at *
  have := Nat.mul_le_mul_right (2 * K + 1) hn
  omega
theorem checkL_c (M : Pm) (N : Am) {v m K0 R xn yn : Nat} {L : List X.Ln} {g x y : Nat → Rat} {z : Rat} {kind : Int} (hf : Fits v m K0) (hL : LSq K0 v L) (hm : L.length ≤ m) (hg : ∀ k, k < v → Sq K0 (g k)) (hR : K0 ≤ R) (hd : Dok v R) (hd2 : Dok m R) (hx : ∀ k, k < xn → Sq R (x k)) (hy : ∀ k, k < yn → Sq R (y k)) :
    FnB Tryz.prog 15 [pgv M v, agv N kind] [] [fP M (X.lpOf v L g), fA N xn yn x y z] (IsV (.int .i64 (if rightP (X.lpOf v L g) kind xn yn x y z = true then 0 else 22))) :=
  Z.check_c M (X.lpOf v L g) N R xn yn x y z kind hd (hd2.le hm) hf.v (Nat.le_trans hm hf.m) (Nat.lt_of_lt_of_le hf.k hR) (fun r hr k hk => (hL.ca hr hk).up hR) (fun r hr => (hL.cb hr).up hR) (fun k hk => (hg k hk).up hR) hx hy
def selT (L : List X.Ln) (p : Nat → Bool) (i : Nat) : List X.Ln := ((List.range i).filter p).map fun j => L.getD j ([], 0)
def keepP (gs l : List Int) (i : Nat) : Bool := decide (gs.getD i 0 < 0 ∨ gs.getD i 0 ∈ l)
def contP (v : Nat) (L : List X.Ln) (gs l : List Int) : Bool := !X.feasP (selT L (keepP gs l) L.length) v
section
variable {L : List X.Ln} {p : Nat → Bool} {i K v : Nat}
theorem selT_up : selT L p (i + 1) = selT L p i ++ if p i = true then [L.getD i ([], 0)] else [] := by
  unfold selT
  rw [List.range_succ, List.filter_append, List.map_append]
  congr 1
  simp only [List.filter_cons, List.filter_nil]
  split <;> rfl
theorem selT_len : (selT L p i).length ≤ i := by
  unfold selT
  rw [List.length_map]
  exact Nat.le_trans (List.length_filter_le _ _) (by rw [List.length_range]; exact Nat.le_refl _)
theorem selT_sq (h : LSq K v L) (hi : i ≤ L.length) : LSq K v (selT L p i) := fun c hc => by
  unfold selT at hc
  obtain ⟨j, hj, rfl⟩ := List.mem_map.1 hc
  have := List.mem_range.1 (List.mem_filter.1 hj).1
  exact h _ (getD_ln (by omega))
end
theorem Sem.cont {v : Nat} {L : List X.Ln} {g : Nat → Rat} {k : Int} {z : Rat} (hw : ∀ c ∈ L, c.1.length = v) (h : X.Sem (X.lpOf v L g) k z) : (!X.feasP L v) = decide (k = 1) := by
  have h1 := h.one
  have h2 := X.feas_iff hw
  cases hf : X.feasP L v with
  | true =>
    obtain ⟨x, hx⟩ := h2.1 hf
    rw [decide_eq_false fun hk => h1.1 hk ⟨x, X.pt_of.2 hx⟩]; rfl
  | false =>
    rw [decide_eq_true (h1.2 fun ⟨x, hx⟩ => by rw [h2.2 ⟨x, X.pt_of.1 hx⟩] at hf; cases hf)]; rfl
namespace U
open Z
attribute [local irreducible] WC WL WD YO LO LoopEnd W.Fin Scalar SliceT FieldAt Row ArrT AllocT KnS Has W.One SrcE IntT
theorem d85 {G G' : Prop} (h : G') (s : Bx G' → G := by
  intro h
  first | (apply WC.draw (id := 1) [0, 1, 2, 3] (.held 0 (.held 1 (.held 2 (.held 3 (.more 4 (.more 5 (.loud 6 (.loud 7 (.done))) (.loud 6 (.loud 5 (.loud 7 (.done))))) (.loud 6 (.loud 4 (.loud 5 (.loud 7 (.done)))))))))) mixed (by kernel_rfl)) | fail
  exact Bx.h h) : G := s ⟨h⟩
structure US where
  n : Nat
  sv : Value
  M : Pm
set_option maxHeartbeats 8000000 in
set_option maxRecDepth 60000 in
theorem contradictory_c (M : Pm) (K0 m vn : Nat) (L : List X.Ln) (gf : Nat → Rat) (gs l : List Int) (ug vl : Value) (hf : Fits vn m K0) (hL : LSq K0 vn L) (hm : L.length ≤ m) (hgs : gs.length = L.length) :
    FnB Tryz.prog 85 [pgv M vn, ug, vl] [] [fP M (X.lpOf vn L gf), sI ug gs, sI vl l] (IsV (.bool (contP vn L gs l))) := by
  refine fn_of [(0, (pgv M vn)), (1, ug), (2, vl)] 54 Tryz.func85 rfl Tryz.ntmps85 (by kernel_rfl) rfl suA fun h0 => ?_
  have hv := hf.v
  have hm2 := hf.m
  refine WC.fact (fLn M vn L) (W.Has.pL (g := gf) hmA) ?_
  refine WC.fact (mF vn (fun _ => m00) (fun _ => 0)) (W.Has.mF0 _) ?_
  repeat' (first | refine gA ?_ | (refine goG ?_; intro g) | (refine goV ?_; intro v))
  revert g; intro g3
  refine WC.cutP (σ := Nat × Value) (fun st => [(7, ptr st.1), (3, ptr g3), (1, ug), (2, vl)]) (fun st => [Ow.cells st.1 26 [.int .i64 (vn : Int), .slice none 0 0, st.2], Ow.slice st.2 31 4 (qcells vn fun _ => m00), Ow.cells g3 26 (pcs M vn)])
    (fun st => [mF vn (fun _ => m00) (fun _ => 0), fLn M vn L, ge h0, sI ug gs, sI vl l]) (fun _ => True) ?_ ?_
  · repeat' (first | refine gM ?_ | (refine gI ?_; intro g) | (refine gU ?_; intro v) | refine gN ?_ ?_ | refine gY ?_ | refine d85 ?_ | fail)
    all_goals (apply Ex2; refine ⟨trivial, ?_, ?_, ?_⟩; (focus (repeat (first | exact Sub.nil _ | refine Sub.cons rfl ?_))); (focus (repeat (first | exact SubP.nil _ | (apply SubP.cons; (repeat (first | exact Rem.head | apply Rem.tail)))))); (focus (repeat (first | exact HasAll.nil | (apply HasAll.cons; exact hsA)))))
  rintro ⟨g7, gv⟩ _
  simp only
  refine WC.freezeF gv vn (fun _ => m00) (fun _ => 0) (by repeat (first | exact Sel.head | apply Sel.tail)) hmA ?_
  refine WC.addNil 60 5 ?_
  repeat' (first | refine gM ?_ | (refine gI ?_; intro g) | (refine gU ?_; intro v) | refine gN ?_ ?_ | refine gY ?_ | refine d85 ?_ | fail)
  refine WC.lp (σ := Nat × US) (fun st => [(21, .int .i64 (st.1 : Int)), (20, .int .i64 (L.length : Int)), (19, M.lv), (1, ug), (2, vl), (7, ptr g7)])
    (fun st => [Ow.slice st.2.sv 60 5 (lncells st.2.n st.2.M), Ow.cells g7 26 [.int .i64 (vn : Int), st.2.sv, gv]])
    (fun st => [lnQ st.2.M vn (selT L (keepP gs l) st.1), fF gv vn (fun _ => m00) (fun _ => 0), fLn M vn L, ge h0, sI ug gs, sI vl l]) (fun st => st.1 ≤ L.length ∧ st.2.n = (selT L (keepP gs l) st.1).length) (fun st => L.length - st.1) (0, ⟨0, .slice none 0 0, Pm.no⟩) ⟨Nat.zero_le _, rfl⟩ ?_ (hG := .cons W.Has.lnn sfA)
  rintro ⟨i, n, sv, N⟩ ⟨hi, hn⟩
  simp only at hi hn ⊢
  have hsl := selT_len (L := L) (p := keepP gs l) (i := i)
  by_cases c : i < L.length
  · have hup := selT_up (L := L) (p := keepP gs l) (i := i)
    refine WC.fact (fF (M.av i) vn (M.ma i) (X.ca L i)) (W.Has.lna (W.Has.lnq (M := M) hmA) c) ?_
    refine WC.fact (isQ (qv (M.mb i)) (X.cb L i)) (W.Has.lnb (W.Has.lnq (M := M) hmA) c) ?_
    have take : keepP gs l i = true → Has [isQ (qv (M.mb i)) (X.cb L i), fF (M.av i) vn (M.ma i) (X.ca L i), lnQ N vn (selT L (keepP gs l) i), fF gv vn (fun _ => m00) (fun _ => 0), fLn M vn L, ge h0, sI ug gs, sI vl l] (lnQ (N.app n (M.av i) (M.ma i) (M.mb i)) vn (selT L (keepP gs l) (i + 1))) := fun hk => by
      rw [hup, if_pos hk, hn]
      exact W.Has.lnapp hmA (L.getD i ([], 0)) (show Has _ (fF (M.av i) vn (M.ma i) (X.ca L i)) from hmA) (show Has _ (isQ (qv (M.mb i)) (X.cb L i)) from hmA)
    have tl : keepP gs l i = true → n + 1 = (selT L (keepP gs l) (i + 1)).length := fun hk => by rw [hup, if_pos hk, List.length_append, hn]; rfl
    have leave : keepP gs l i = false → selT L (keepP gs l) (i + 1) = selT L (keepP gs l) i := fun hk => by rw [hup, if_neg (by rw [hk]; decide), List.append_nil]
    by_cases c1 : gs.getD i 0 < 0
    · have hk : keepP gs l i = true := decide_eq_true (.inl c1)
      refine WC.fact _ (take hk) ?_
      repeat' (first | refine gM ?_ | (refine gI ?_; intro g) | (refine gU ?_; intro v) | refine gN ?_ ?_ | refine gY ?_ | refine d85 ?_ | fail)
      exact LoopEnd.mk (i + 1, ⟨n + 1, _, _⟩) ⟨c, tl hk⟩ (by show L.length - (i + 1) < L.length - i; omega)
    · repeat' (first | refine gM ?_ | (refine gI ?_; intro g) | (refine gU ?_; intro v) | refine gN ?_ ?_ | refine gY ?_ | refine d85 ?_ | fail)
      first | refine WL.callV (containsI_c vl l (gs.getD i 0)) ?_ | refine WD.callV (containsI_c vl l (gs.getD i 0)) ?_
      by_cases c2 : gs.getD i 0 ∈ l
      · have hk : keepP gs l i = true := decide_eq_true (.inr c2)
        rw [decide_eq_true c2]
        repeat' (first | refine gM ?_ | (refine gI ?_; intro g) | (refine gU ?_; intro v) | refine gN ?_ ?_ | refine gY ?_ | refine d85 ?_ | fail)
        exact LoopEnd.mk (i + 1, ⟨n + 1, _, N.app n (M.av i) (M.ma i) (M.mb i)⟩) ⟨c, tl hk⟩ (by show L.length - (i + 1) < L.length - i; omega) (hG := .cons (take hk) sfA)
      · have hk : keepP gs l i = false := decide_eq_false fun h => h.elim c1 c2
        rw [decide_eq_false c2]
        repeat' (first | refine gM ?_ | (refine gI ?_; intro g) | (refine gU ?_; intro v) | refine gN ?_ ?_ | refine gY ?_ | refine d85 ?_ | fail)
        exact LoopEnd.mk (i + 1, ⟨n, sv, N⟩) ⟨c, by rw [leave hk]; exact hn⟩ (by show L.length - (i + 1) < L.length - i; omega) (hG := .cons (by show Has _ (lnQ N vn (selT L (keepP gs l) (i + 1))); rw [leave hk]; exact hmA) sfA)
  · obtain rfl : i = L.length := by omega
    have hS : LSq K0 vn (selT L (keepP gs l) L.length) := selT_sq hL (Nat.le_refl _)
    have hc : contP vn L gs l = !X.feasP (selT L (keepP gs l) L.length) vn := rfl
    rw [hc]
    generalize selT L (keepP gs l) L.length = S at *
    subst hn
    repeat' (first | refine gM ?_ | (refine gI ?_; intro g) | (refine gU ?_; intro v) | refine gN ?_ ?_ | refine gY ?_ | refine d85 ?_ | fail)
    refine WL.freezeLn sv N vn S (by repeat (first | exact Sel.head | apply Sel.tail)) hmA ?_
    refine WL.fact' (fP ((N.at sv).wg gv fun _ => m00) (X.lpOf vn S fun _ => 0)) (W.Has.lnp (W.Has.lnwg (M := N.at sv) hmA) (show Has _ (fF gv vn (fun _ => m00) (fun _ => 0)) from hmA)) ?_
    refine WL.callK (solveL_c ((N.at sv).wg gv fun _ => m00) hf hS (by omega) (fun k _ => Sq.zero.up hf.k)) ?_
    rintro _ _ _ ⟨Na, kind, xn, yn, x, y, z, rfl, rfl, rfl, hans, _, _, _⟩
    simp only [List.nil_append, List.cons_append]
    rw [Sem.cont hS.len hans.sem]
    refine WL.fact' (fF Na.xv xn Na.mx x) (W.Has.ax (M := Na) (xn := xn) (yn := yn) (x := x) (y := y) (z := z) hmA) ?_
    refine WL.fact' (fF Na.yv yn Na.my y) (W.Has.ay (M := Na) (xn := xn) (yn := yn) (x := x) (y := y) (z := z) hmA) ?_
    refine WL.fact' (isQ (qv Na.mz) z) (W.Has.az (M := Na) (xn := xn) (yn := yn) (x := x) (y := y) (z := z) hmA) ?_
    by_cases ck : (kind : Int) = 1
    · rw [decide_eq_true ck]
      repeat' (first | refine gM ?_ | (refine gI ?_; intro g) | (refine gU ?_; intro v) | refine gN ?_ ?_ | refine gY ?_ | refine d85 ?_ | fail)
      exact WC.ret (Fin.v (ResE.t1 rfl rfl) meA rfl)
    · rw [decide_eq_false ck]
      repeat' (first | refine gM ?_ | (refine gI ?_; intro g) | (refine gU ?_; intro v) | refine gN ?_ ?_ | refine gY ?_ | refine d85 ?_ | fail)
      exact WC.ret (Fin.v (ResE.t1 rfl rfl) meA rfl)
end U
end Go.Proofs.YtaongbhamadlkaaGreat
namespace Go.Proofs.YtaongbhamadlkaaGreat
open W Go.RowKit
def coreLs (gs : List Int) : List Int := Lib.compact (srt (gs.filter fun x => !decide (x < 0)))
def coreSt (v : Nat) (L : List X.Ln) (gs l : List Int) (x : Int) : List Int := if contP v L gs (l.filter fun y => !decide (y = x)) = true then l.filter fun y => !decide (y = x) else l
def corS (v : Nat) (L : List X.Ln) (gs : List Int) : List Int × Int :=
  if gs.length = L.length ∧ gs.any (fun x => decide (x < -1)) = false then
    (if contP v L gs (coreLs gs) = true then ((coreLs gs).foldl (coreSt v L gs) (coreLs gs), 0) else ([], 6))
  else ([], 1)
def IsLE (r : List Int × Int) : RPost := fun v B G => ∃ u, v = .tuple #[u, .int .i64 r.2] ∧ B = [] ∧ G = [sI u r.1]
theorem coreLs_len (gs : List Int) : (coreLs gs).length ≤ gs.length := Nat.le_trans (compact_le _) (by rw [srt_len]; exact List.length_filter_le _ _)
theorem coreSt_len (v : Nat) (L : List X.Ln) (gs : List Int) : ∀ xs l : List Int, (xs.foldl (coreSt v L gs) l).length ≤ l.length
  | [], _ => Nat.le_refl _
  | x :: xs, l => Nat.le_trans (coreSt_len v L gs xs _) (by
    unfold coreSt
    split
    · exact List.length_filter_le _ _
    · exact Nat.le_refl _)
theorem nilI {F : List Fct} : Has F (sI (.slice none 0 0) []) := fun _ _ => ⟨none, 0, rfl, Nat.le_refl _, by unfold maxLen; simp, .inl ⟨rfl, rfl, rfl⟩⟩
namespace U
open Z
attribute [local irreducible] WC WL WD YO LO LoopEnd W.Fin Scalar SliceT FieldAt Row ArrT AllocT KnS Has W.One SrcE IntT
set_option maxHeartbeats 4000000 in
set_option maxRecDepth 60000 in
theorem core0_c (M : Pm) (vars : Int) (m gn : Nat) (ln : Nat → Nat) (a : Nat → Nat → Rat) (b gq : Nat → Rat) (E : Int) (ug : Value) (gs : List Int) (hE : vldP vars m gn ln = E) (h0 : E ≠ 0) : FnB Tryz.prog 22 [pgv M vars, ug] [] [fPg M m gn ln a b gq, sI ug gs] (IsLE ([], E)) := by
  refine fn_of [(0, (pgv M vars)), (1, ug)] 56 Tryz.func22 rfl Tryz.ntmps22 (by kernel_rfl) rfl suA fun h0 => ?_
  repeat' (first | refine gA ?_ | (refine goG ?_; intro g) | (refine goV ?_; intro v))
  refine WL.callV (valid_c M m gn ln a b gq vars) ?_ (hF := .cons (.f hmA) .nil)
  rw [hE]
  repeat' (first | refine gA ?_ | (refine goG ?_; intro g) | (refine goV ?_; intro v))
  exact WC.ret (Fin.p [] [sI (.slice none 0 0) []] (ResE.t2 rfl rfl rfl) meA (List.nil_sublist _) (.cons nilI .nil) ⟨_, rfl, rfl, rfl⟩)
set_option maxHeartbeats 8000000 in
set_option maxRecDepth 60000 in
theorem core_c (M : Pm) (K0 m vn : Nat) (L : List X.Ln) (gf : Nat → Rat) (gs : List Int) (ug : Value) (hf : Fits vn m K0) (hL : LSq K0 vn L) (hm : L.length ≤ m) :
    FnB Tryz.prog 22 [pgv M vn, ug] [] [fP M (X.lpOf vn L gf), sI ug gs] (IsLE (corS vn L gs)) := by
  refine fn_of [(0, (pgv M vn)), (1, ug)] 56 Tryz.func22 rfl Tryz.ntmps22 (by kernel_rfl) rfl suA fun h0 => ?_
  have hv := hf.v
  have hm2 := hf.m
  have bad : ∀ {F : List Fct} {e : Int}, corS vn L gs = ([], e) → HasAll F [sI (.slice none 0 0) (corS vn L gs).1] := fun h => .cons (by rw [h]; exact nilI) .nil
  refine WC.fact (fLn M vn L) (W.Has.pL (g := gf) hmA) ?_
  refine WC.lenI ug gs hmA fun hug => ?_
  repeat' (first | refine gA ?_ | (refine goG ?_; intro g) | (refine goV ?_; intro v))
  revert g; intro gb
  refine WL.callV (valid_c M L.length vn (fun _ => vn) (X.ca L) (X.cb L) gf vn) ?_ (hF := .cons (.f (show Has _ (fP M (X.lpOf vn L gf)) from hmA)) .nil)
  rw [show vldP (vn : Int) L.length vn (fun _ => vn) = 0 from vldP_ok (p := X.lpOf vn L gf) hv (Nat.le_trans hm hm2)]
  by_cases c1 : gs.length = L.length
  · repeat' (first | refine gA ?_ | (refine goG ?_; intro g) | (refine goV ?_; intro v))
    refine WL.callV (containsFI_c ug gs 79 [] [] (fun x => decide (x < -1)) core1_c) (hF := .cons (HasB.f hmA) .nil) ?_
    cases c2 : gs.any fun x => decide (x < -1) with
    | true =>
      have hc : corS vn L gs = ([], 1) := if_neg (fun h => by rw [c2] at h; exact Bool.noConfusion h.2)
      repeat' (first | refine gA ?_ | (refine goG ?_; intro g) | (refine goV ?_; intro v))
      exact WC.ret (Fin.p [] [sI (.slice none 0 0) (corS vn L gs).1] (ResE.t2 rfl rfl rfl) meA (List.nil_sublist _) (bad hc) ⟨_, by rw [hc], rfl, rfl⟩)
    | false =>
      have hcor : corS vn L gs = if contP vn L gs (coreLs gs) = true then ((coreLs gs).foldl (coreSt vn L gs) (coreLs gs), 0) else ([], 6) := if_pos ⟨c1, c2⟩
      have hgl : gs.length ≤ 1000000 := by omega
      have hfl : (gs.filter fun x => !decide (x < 0)).length ≤ 1000000 := Nat.le_trans (List.length_filter_le _ _) hgl
      repeat' (first | refine gA ?_ | (refine goG ?_; intro g) | (refine goV ?_; intro v))
      first | refine WL.callO (cloneI_c ug gs hgl) (fun rv => ?_) | refine WD.callO (cloneI_c ug gs hgl) (fun rv => ?_)
      repeat' (first | refine gA ?_ | (refine goG ?_; intro g) | (refine goV ?_; intro v))
      refine WL.callG [Ow.slice rv 3 1 (ints gs)] _ (.refl _) (U.delNeg_c rv gs hgl) ?_
      rintro rd bb GG ⟨rfl, rfl⟩
      simp only [List.nil_append, List.cons_append]
      repeat' (first | refine gA ?_ | (refine goG ?_; intro g) | (refine goV ?_; intro v))
      refine WL.callG [Ow.slice rd 3 1 (ints (gs.filter fun x => !decide (x < 0)))] _ (.refl _) (sort_c rd _ hfl) ?_
      rintro _ bb GG ⟨rfl, rfl, rfl⟩
      simp only [List.nil_append, List.cons_append]
      repeat' (first | refine gA ?_ | (refine goG ?_; intro g) | (refine goV ?_; intro v))
      refine WL.callG [Ow.slice rd 3 1 (ints (srt (gs.filter fun x => !decide (x < 0))))] _ (.refl _) (compactA_c rd _ (by rw [srt_len]; exact hfl)) ?_
      rintro rc bb GG ⟨rfl, rfl⟩
      simp only [List.nil_append, List.cons_append]
      rw [show Lib.compact (srt (gs.filter fun x => !decide (x < 0))) = coreLs gs from rfl]
      refine WL.freezeI (l := coreLs gs) (v := rc) (el := 3) (by repeat (first | exact Sel.head | apply Sel.tail)) ?_
      repeat' (first | refine gA ?_ | (refine goG ?_; intro g) | (refine goV ?_; intro v))
      have hll := coreLs_len gs
      generalize hLL : coreLs gs = LL at *
      first | refine WL.callV (contradictory_c M K0 m vn L gf gs LL ug rc hf hL hm c1) ?_ | refine WD.callV (contradictory_c M K0 m vn L gf gs LL ug rc hf hL hm c1) ?_
      by_cases c3 : contP vn L gs LL = true
      · rw [if_pos c3] at hcor
        rw [c3]
        repeat' (first | refine gA ?_ | (refine goG ?_; intro g) | (refine goV ?_; intro v))
        first | refine WL.callO (cloneI_c rc LL (by omega)) (fun rv => ?_) | refine WD.callO (cloneI_c rc LL (by omega)) (fun rv => ?_)
        refine WL.freezeI (l := LL) (v := rv) (el := 3) (by repeat (first | exact Sel.head | apply Sel.tail)) ?_
        repeat' (first | refine gA ?_ | (refine goG ?_; intro g) | (refine goV ?_; intro v))
        refine WC.lp (σ := Nat × Value) (fun st => [(41, .int .i64 (st.1 : Int)), (7, st.2), (39, rv), (40, .int .i64 (LL.length : Int)), (2, ptr gb), (1, ug)])
          (fun _ => [Ow.cells gb 26 (pcs M vn)])
          (fun st => [sI st.2 ((LL.take st.1).foldl (coreSt vn L gs) LL), sI rv LL, ge h0, fLn M vn L, fP M (X.lpOf vn L gf), sI ug gs]) (fun st => st.1 ≤ LL.length) (fun st => LL.length - st.1) (0, rc) (Nat.zero_le _) ?_ suA slA sfA
        rintro ⟨i, lv⟩ hi
        simp only at hi ⊢
        have hfl := coreSt_len vn L gs (LL.take i) LL
        by_cases c : i < LL.length
        · have hst : (LL.take (i + 1)).foldl (coreSt vn L gs) LL = coreSt vn L gs ((LL.take i).foldl (coreSt vn L gs) LL) (LL.getD i 0) := by
            rw [List.take_succ_eq_append_getElem c, List.foldl_append, List.getD_eq_getElem?_getD, List.getElem?_eq_getElem c]; rfl
          generalize (LL.take i).foldl (coreSt vn L gs) LL = MM at *
          repeat' (first | refine gA ?_ | (refine goG ?_; intro g) | (refine goV ?_; intro v))
          revert g; intro g9
          refine WL.keep (g := g9) (by repeat (first | exact Rem.head | apply Rem.tail)) ?_
          first | refine WL.callO (cloneI_c lv MM (by omega)) (fun rv => ?_) | refine WD.callO (cloneI_c lv MM (by omega)) (fun rv => ?_)
          repeat' (first | refine gA ?_ | (refine goG ?_; intro g) | (refine goV ?_; intro v))
          refine WL.callG [Ow.slice rv 3 1 (ints MM)] _ (.refl _) (U.delEq_c rv MM (LL.getD i 0) g9 (by omega)) ?_
          rintro rr bb GG ⟨rfl, rfl⟩
          simp only [List.nil_append, List.cons_append]
          have hrl : (MM.filter fun x => !decide (x = LL.getD i 0)).length ≤ MM.length := List.length_filter_le _ _
          have hcs : coreSt vn L gs MM (LL.getD i 0) = if contP vn L gs (MM.filter fun x => !decide (x = LL.getD i 0)) = true then MM.filter (fun x => !decide (x = LL.getD i 0)) else MM := rfl
          generalize MM.filter (fun x => !decide (x = LL.getD i 0)) = M2 at *
          refine WL.freezeI (l := M2) (v := rr) (el := 3) (by repeat (first | exact Sel.head | apply Sel.tail)) ?_
          repeat' (first | refine gA ?_ | (refine goG ?_; intro g) | (refine goV ?_; intro v))
          first | refine WL.callV (contradictory_c M K0 m vn L gf gs M2 ug rr hf hL hm c1) ?_ | refine WD.callV (contradictory_c M K0 m vn L gf gs M2 ug rr hf hL hm c1) ?_
          by_cases c4 : contP vn L gs M2 = true
          · rw [if_pos c4] at hcs
            rw [c4]
            repeat' (first | refine gA ?_ | (refine goG ?_; intro g) | (refine goV ?_; intro v))
            exact LoopEnd.mk (i + 1, rr) (by show i + 1 ≤ LL.length; omega) (by show LL.length - (i + 1) < LL.length - i; omega) suA slA (HasAll.cons (by show Has _ (sI rr ((LL.take (i + 1)).foldl (coreSt vn L gs) LL)); rw [hst, hcs]; exact hmA) sfA)
          · rw [if_neg c4] at hcs
            rw [Bool.eq_false_iff.2 c4]
            repeat' (first | refine gA ?_ | (refine goG ?_; intro g) | (refine goV ?_; intro v))
            exact LoopEnd.mk (i + 1, lv) (by show i + 1 ≤ LL.length; omega) (by show LL.length - (i + 1) < LL.length - i; omega) suA slA (HasAll.cons (by show Has _ (sI lv ((LL.take (i + 1)).foldl (coreSt vn L gs) LL)); rw [hst, hcs]; exact hmA) sfA)
        · obtain rfl : i = LL.length := by omega
          rw [List.take_of_length_le (Nat.le_refl _)]
          repeat' (first | refine gA ?_ | (refine goG ?_; intro g) | (refine goV ?_; intro v))
          exact WC.ret (Fin.p [] [sI lv (corS vn L gs).1] (ResE.t2 rfl rfl rfl) meA (List.nil_sublist _) (by rw [hcor]; exact haA) ⟨_, by rw [hcor], rfl, rfl⟩)
      · rw [if_neg c3] at hcor
        rw [Bool.eq_false_iff.2 c3]
        repeat' (first | refine gA ?_ | (refine goG ?_; intro g) | (refine goV ?_; intro v))
        exact WC.ret (Fin.p [] [sI (.slice none 0 0) (corS vn L gs).1] (ResE.t2 rfl rfl rfl) meA (List.nil_sublist _) (.cons (by rw [hcor]; exact nilI) .nil) ⟨_, by rw [hcor], rfl, rfl⟩)
  · have hc : corS vn L gs = ([], 1) := if_neg (fun h => c1 h.1)
    repeat' (first | refine gA ?_ | (refine goG ?_; intro g) | (refine goV ?_; intro v))
    exact WC.ret (Fin.p [] [sI (.slice none 0 0) (corS vn L gs).1] (ResE.t2 rfl rfl rfl) meA (List.nil_sublist _) (bad hc) ⟨_, by rw [hc], rfl, rfl⟩)
end U
end Go.Proofs.YtaongbhamadlkaaGreat
namespace Go.Proofs.YtaongbhamadlkaaGreat
open W Go.RowKit
def I64 (n : Int) : Prop := -9223372036854775808 ≤ n ∧ n ≤ 9223372036854775807
def around (n m : Int) : Int := (if n < 0 then -(n+1) else n) % m
theorem around_lt {n m : Int} (hm : 0 < m) : 0 ≤ around n m ∧ around n m < m := ⟨Int.emod_nonneg _ (by omega), Int.emod_lt_of_pos _ hm⟩
theorem getD_i64 {l : List Int} (hl : ∀ x ∈ l, I64 x) (k : Nat) : I64 (l.getD k 0) := by
  rw [List.getD_eq_getElem?_getD]
  cases h : l[k]? with
  | none => simp [I64]
  | some x => simpa using hl x (List.mem_of_getElem? h)
def atP (l : List Int) (i m : Int) : Int := if i < 0 ∨ (l.length : Int) ≤ i then 0 else around (l.getD i.toNat 0) m
theorem atP_lt {l : List Int} {i m : Int} (hm : 0 < m) : 0 ≤ atP l i m ∧ atP l i m < m := by
  unfold atP; split
  · omega
  · exact around_lt hm
theorem same_all {l m : List Int} (hl : l.length = m.length) (h : ∀ j, j < l.length → l.getD j 0 = m.getD j 0) : l = m := by
  apply List.ext_getElem hl
  intro i h1 h2
  have := h i h1
  simpa [List.getD_eq_getElem?_getD, h1, h2] using this
namespace U
attribute [local irreducible] WC WL WD YO LO LoopEnd W.Fin Scalar SliceT FieldAt Row ArrT AllocT KnS Has W.One SrcE IntT
theorem d25 {G G' : Prop} (h : G') (s : Bx G' → G := by
  intro h
  first | (apply WC.draw (id := 6) [0, 1, 2, 3, 4, 5, 6, 7, 8] (.held 0 (.held 1 (.held 2 (.held 3 (.held 4 (.held 5 (.held 6 (.held 7 (.held 8 (.done)))))))))) mixed (by kernel_rfl)) | fail
  exact Bx.h h) : G := s ⟨h⟩
set_option maxHeartbeats 4000000 in
set_option maxRecDepth 60000 in
theorem around_c (n m : Int) (hn : I64 n) (hm : 0 < m) : FnB Tryz.prog 23 [.int .i64 n, .int .i64 m] [] [] (IsV (.int .i64 (around n m))) := by
  obtain ⟨hn, hn2⟩ := hn
  refine fn_of [(0, (.int .i64 n)), (1, (.int .i64 m))] 13 Tryz.func23 rfl Tryz.ntmps23 (by kernel_rfl) rfl suA fun h0 => ?_
  by_cases h : n < 0
  · repeat' (first | refine gA ?_ | (refine goG ?_; intro g) | (refine goV ?_; intro v))
    exact WC.ret (Fin.v (ResE.t1 rfl rfl) meA (by simp [around, h]))
  · repeat' (first | refine gA ?_ | (refine goG ?_; intro g) | (refine goV ?_; intro v))
    exact WC.ret (Fin.v (ResE.t1 rfl rfl) meA (by simp [around, h]))
set_option maxHeartbeats 4000000 in
set_option maxRecDepth 60000 in
theorem at_c (v : Value) (l : List Int) (i m : Int) (hl : ∀ x ∈ l, I64 x) (hm : 0 < m) : FnB Tryz.prog 29 [v, .int .i64 i, .int .i64 m] [] [sI v l] (IsV (.int .i64 (atP l i m))) := by
  refine fn_of [(0, v), (1, (.int .i64 i)), (2, (.int .i64 m))] 21 Tryz.func29 rfl Tryz.ntmps29 (by kernel_rfl) rfl suA fun h0 => ?_
  refine WC.lenI v l hmA fun hlen => ?_
  by_cases h : i < 0
  · repeat' (first | refine gA ?_ | (refine goG ?_; intro g) | (refine goV ?_; intro v))
    exact WC.ret (Fin.v (ResE.t1 rfl rfl) meA (by simp [atP, h]))
  by_cases h2 : (l.length : Int) ≤ i
  · repeat' (first | refine gA ?_ | (refine goG ?_; intro g) | (refine goV ?_; intro v))
    exact WC.ret (Fin.v (ResE.t1 rfl rfl) meA (by simp [atP, h2]))
  · repeat' (first | refine gA ?_ | (refine goG ?_; intro g) | (refine goV ?_; intro v))
    first | refine WL.callV (around_c _ _ (getD_i64 hl _) hm) ?_ | refine WD.callV (around_c _ _ (getD_i64 hl _) hm) ?_
    repeat' (first | refine gA ?_ | (refine goG ?_; intro g) | (refine goV ?_; intro v))
    exact WC.ret (Fin.v (ResE.t1 rfl rfl) meA (by simp [atP, h, h2]))
set_option maxHeartbeats 4000000 in
set_option maxRecDepth 60000 in
theorem sameInts_c (v u : Value) (l m : List Int) : FnB Tryz.prog 25 [v, u] [] [sI v l, sI u m] (IsV (.bool (decide (l = m)))) := by
  refine fn_of [(0, v), (1, u)] 26 Tryz.func25 rfl Tryz.ntmps25 (by kernel_rfl) rfl suA fun h0 => ?_
  refine WC.lenI v l hmA fun hlen => ?_
  by_cases hl : l.length = m.length
  · repeat' (first | refine gB ?_ | (refine gH ?_; intro g) | (refine gW ?_; intro v) | refine d25 ?_ | fail)
    refine WC.lp (σ := Nat) (fun k => [(5, .int .i64 (k : Int)), (0, v), (1, u)]) (fun _ => []) (fun _ => [ge h0, sI v l, sI u m]) (fun k => k ≤ l.length ∧ ∀ j, j < k → l.getD j 0 = m.getD j 0) (fun k => l.length - k) 0 ⟨Nat.zero_le _, fun j h => by omega⟩ ?_
    rintro k ⟨hk, hn⟩
    by_cases hlt : k < l.length
    · by_cases he : l.getD k 0 = m.getD k 0
      · repeat' (first | refine gB ?_ | (refine gH ?_; intro g) | (refine gW ?_; intro v) | refine d25 ?_ | fail)
        refine LoopEnd.mk (k + 1) ⟨by omega, fun j hj => ?_⟩ (by show l.length - (k + 1) < l.length - k; omega)
        by_cases hjk : j = k
        · subst hjk; exact he
        · exact hn j (by omega)
      · repeat' (first | refine gB ?_ | (refine gH ?_; intro g) | (refine gW ?_; intro v) | refine d25 ?_ | fail)
        exact WC.ret (Fin.v (ResE.t1 rfl rfl) meA (by rw [decide_eq_false]; rintro rfl; exact he rfl))
    · repeat' (first | refine gB ?_ | (refine gH ?_; intro g) | (refine gW ?_; intro v) | refine d25 ?_ | fail)
      exact WC.ret (Fin.v (ResE.t1 rfl rfl) meA (by rw [decide_eq_true]; exact same_all hl (fun j hj => hn j (by omega))))
  · have hl' : (l.length : Int) ≠ m.length := by omega
    repeat' (first | refine gB ?_ | (refine gH ?_; intro g) | (refine gW ?_; intro v) | refine d25 ?_ | fail)
    exact WC.ret (Fin.v (ResE.t1 rfl rfl) meA (by rw [decide_eq_false]; rintro rfl; exact hl rfl))
end U
end Go.Proofs.YtaongbhamadlkaaGreat
namespace Go.Proofs.YtaongbhamadlkaaGreat
open W Go.RowKit
theorem inc_ext : ∀ {l m : List Int}, l.Pairwise (· < ·) → m.Pairwise (· < ·) → (∀ x, x ∈ l ↔ x ∈ m) → l = m := by
  intro l
  induction l with
  | nil =>
    intro m _ _ h
    cases m with
    | nil => rfl
    | cons b m => exact absurd ((h b).2 (List.mem_cons_self)) (by simp)
  | cons a l ih =>
    intro m hl hm h
    cases m with
    | nil => exact absurd ((h a).1 (List.mem_cons_self)) (by simp)
    | cons b m =>
      obtain ⟨l1, l2⟩ := List.pairwise_cons.1 hl
      obtain ⟨m1, m2⟩ := List.pairwise_cons.1 hm
      have hab : a = b := by
        rcases List.mem_cons.1 ((h a).1 (List.mem_cons_self)) with e | e
        · exact e
        · rcases List.mem_cons.1 ((h b).2 (List.mem_cons_self)) with e2 | e2
          · exact e2.symm
          · have := m1 a e; have := l1 b e2; omega
      subst hab
      rw [ih l2 m2 fun x => ?_]
      constructor
      · intro hx
        rcases List.mem_cons.1 ((h x).1 (List.mem_cons_of_mem _ hx)) with e | e
        · have := l1 x hx; omega
        · exact e
      · intro hx
        rcases List.mem_cons.1 ((h x).2 (List.mem_cons_of_mem _ hx)) with e | e
        · have := m1 x hx; omega
        · exact e
theorem compactUpTo_inc (d : Array Int) (hd : ∀ i j, i ≤ j → j < d.size → d[i]! ≤ d[j]!) : ∀ m, m ≤ d.size → (Lib.compactUpTo d m).Pairwise (· < ·) ∧ (∀ x, x ∈ Lib.compactUpTo d m ↔ ∃ i, i < m ∧ d[i]! = x) := by
  intro m
  induction m with
  | zero => intro _; exact ⟨List.Pairwise.nil, fun x => by simp [Lib.compactUpTo]⟩
  | succ m ih =>
    intro hm
    obtain ⟨h1, h2⟩ := ih (by omega)
    rw [Lib.compactUpTo_succ]
    by_cases c : m = 0 ∨ d[m]! ≠ d[m - 1]!
    · rw [show Lib.keeps d m = true from decide_eq_true c, if_pos rfl]
      constructor
      · rw [List.pairwise_append]
        refine ⟨h1, by simp, fun x hx y hy => ?_⟩
        rw [List.mem_singleton] at hy
        subst hy
        obtain ⟨i, i1, rfl⟩ := (h2 x).1 hx
        have h3 := hd i (m - 1) (by omega) (by omega)
        have h4 := hd (m - 1) m (by omega) (by omega)
        rcases c with c | c
        · omega
        · have : d[m - 1]! ≠ d[m]! := fun h => c h.symm
          omega
      · intro x
        rw [List.mem_append, h2, List.mem_singleton]
        constructor
        · rintro (⟨i, i1, i2⟩ | rfl)
          · exact ⟨i, by omega, i2⟩
          · exact ⟨m, by omega, rfl⟩
        · rintro ⟨i, i1, i2⟩
          by_cases e : i = m
          · subst e; exact .inr i2.symm
          · exact .inl ⟨i, by omega, i2⟩
    · rw [show Lib.keeps d m = false from decide_eq_false c]
      simp only [Bool.false_eq_true, if_false, List.append_nil]
      refine ⟨h1, fun x => ?_⟩
      rw [h2]
      constructor
      · rintro ⟨i, i1, i2⟩
        exact ⟨i, by omega, i2⟩
      · rintro ⟨i, i1, i2⟩
        by_cases e : i = m
        · subst e
          have c2 : d[i]! = d[i - 1]! := Classical.byContradiction fun h => c (.inr h)
          exact ⟨i - 1, by omega, by rw [← c2]; exact i2⟩
        · exact ⟨i, by omega, i2⟩
theorem compact_inc {l : List Int} (hl : l.Pairwise (· ≤ ·)) : (Lib.compact l).Pairwise (· < ·) ∧ ∀ x, x ∈ Lib.compact l ↔ x ∈ l := by
  have hg : ∀ i, i < l.length → l.toArray[i]! = l.getD i 0 := fun i hi => by
    simp [hi]
  have hd : ∀ i j, i ≤ j → j < l.toArray.size → l.toArray[i]! ≤ l.toArray[j]! := by
    intro i j hij hj
    have hj' : j < l.length := by simpa using hj
    rw [hg i (by omega), hg j hj']
    by_cases e : i = j
    · subst e; exact Int.le_refl _
    · have := List.pairwise_iff_getElem.1 hl i j (by omega) hj' (by omega)
      simpa [List.getD_eq_getElem?_getD, hj', show i < l.length by omega] using this
  obtain ⟨h1, h2⟩ := compactUpTo_inc l.toArray hd l.length (by simp)
  refine ⟨h1, fun x => ?_⟩
  rw [show Lib.compact l = Lib.compactUpTo l.toArray l.length from rfl, h2]
  constructor
  · rintro ⟨i, hi, rfl⟩
    rw [hg i hi]; simp [List.getD_eq_getElem?_getD, hi]
  · intro hx
    obtain ⟨i, hi, rfl⟩ := List.getElem_of_mem hx
    exact ⟨i, hi, by rw [hg i hi]; simp [List.getD_eq_getElem?_getD, hi]⟩
theorem coreLs_inc (gs : List Int) : (coreLs gs).Pairwise (· < ·) ∧ ∀ x, x ∈ coreLs gs ↔ x ∈ gs ∧ 0 ≤ x := by
  have hs : (srt (gs.filter fun x => !decide (x < 0))).Pairwise (· ≤ ·) := by
    have := List.pairwise_mergeSort (le := fun x y : Int => decide (x ≤ y)) (fun a b c h1 h2 => by simp at *; omega) (fun a b => by simp; omega) (gs.filter fun x => !decide (x < 0))
    exact this.imp (fun h => by simpa using h)
  obtain ⟨h1, h2⟩ := compact_inc hs
  refine ⟨h1, fun x => ?_⟩
  unfold coreLs
  rw [h2]
  unfold srt
  rw [List.mem_mergeSort, List.mem_filter]
  simp
theorem getD_inc {l : List Int} (h : l.Pairwise (· < ·)) {i j : Nat} (hij : i < j) (hj : j < l.length) : l.getD i 0 < l.getD j 0 := by
  have := List.pairwise_iff_getElem.1 h i j (by omega) hj hij
  simpa [List.getD_eq_getElem?_getD, hj, show i < l.length by omega] using this
theorem mem_gD {l : List Int} {x : Int} : x ∈ l ↔ ∃ i, i < l.length ∧ l.getD i 0 = x := by
  constructor
  · intro h
    obtain ⟨i, hi, rfl⟩ := List.getElem_of_mem h
    exact ⟨i, hi, by simp [List.getD_eq_getElem?_getD, hi]⟩
  · rintro ⟨i, hi, rfl⟩
    simp [List.getD_eq_getElem?_getD, hi]
def posQ (out : List Int) (g : Int) : Nat := (X.fstT (fun k => decide (g ≤ out.getD k 0)) out.length 0).getD out.length
theorem posQ_spec (out : List Int) (g : Int) : posQ out g ≤ out.length ∧ (∀ j, j < posQ out g → out.getD j 0 < g) ∧ (posQ out g < out.length → g ≤ out.getD (posQ out g) 0) := by
  unfold posQ
  rcases X.fstT_spec (fun k => decide (g ≤ out.getD k 0)) out.length 0 with ⟨h1, h2⟩ | ⟨j, h1, _, h3, h4, h5⟩
  · rw [h1]
    exact ⟨Nat.le_refl _, fun j hj => by have hj : j < out.length := hj; have := of_decide_eq_false (h2 j (by omega) (by omega)); omega, fun h => absurd h (Nat.lt_irrefl _)⟩
  · rw [h1]
    show j ≤ out.length ∧ (∀ i, i < j → _) ∧ (j < out.length → g ≤ out.getD j 0)
    exact ⟨by omega, fun i hi => by have := of_decide_eq_false (h5 i (by omega) hi); omega, fun _ => of_decide_eq_true h4⟩
def nmS (out : List Int) (g : Int) : List Int := if 0 ≤ g ∧ ¬ (posQ out g < out.length ∧ out.getD (posQ out g) 0 = g) then out.take (posQ out g) ++ [g] ++ out.drop (posQ out g) else out
def namesQ (gs : List Int) : List Int := gs.foldl nmS []
theorem nmS_inc {out : List Int} (h : out.Pairwise (· < ·)) (g : Int) : (nmS out g).Pairwise (· < ·) ∧ ∀ x, x ∈ nmS out g ↔ x ∈ out ∨ (x = g ∧ 0 ≤ g) := by
  obtain ⟨p1, p2, p3⟩ := posQ_spec out g
  unfold nmS
  generalize posQ out g = k at *
  by_cases c : 0 ≤ g ∧ ¬ (k < out.length ∧ out.getD k 0 = g)
  · rw [if_pos c]
    have hlow2 : ∀ x ∈ out.take k, x < g := fun x hx => by
      obtain ⟨j, hj, rfl⟩ := mem_gD.1 hx
      rw [List.length_take] at hj
      have e : (out.take k).getD j 0 = out.getD j 0 := by simp [List.getD_eq_getElem?_getD, List.getElem?_take, show j < k by omega]
      rw [e]; exact p2 j (by omega)
    have hhi : ∀ x ∈ out.drop k, g < x := fun x hx => by
      obtain ⟨j, hj, rfl⟩ := mem_gD.1 hx
      rw [List.length_drop] at hj
      have e : (out.drop k).getD j 0 = out.getD (k + j) 0 := by simp [List.getD_eq_getElem?_getD]
      rw [e]
      have h1 := p3 (by omega)
      have h2 : out.getD k 0 ≠ g := fun h => c.2 ⟨by omega, h⟩
      by_cases e : j = 0
      · subst e; rw [Nat.add_zero]; omega
      · have := getD_inc h (show k < k + j by omega) (by omega); omega
    constructor
    · rw [List.append_assoc, List.pairwise_append]
      refine ⟨h.sublist (List.take_sublist _ _), ?_, fun x hx y hy => ?_⟩
      · rw [List.singleton_append, List.pairwise_cons]
        exact ⟨hhi, h.sublist (List.drop_sublist _ _)⟩
      · have h1 := hlow2 x hx
        rw [List.singleton_append] at hy
        rcases List.mem_cons.1 hy with rfl | hy
        · exact h1
        · have := hhi y hy; omega
    · intro x
      have e : x ∈ out ↔ x ∈ out.take k ∨ x ∈ out.drop k := by
        rw [← List.mem_append, List.take_append_drop]
      rw [e]
      simp only [List.mem_append, List.mem_singleton]
      constructor
      · rintro ((h | h) | h)
        · exact .inl (.inl h)
        · exact .inr ⟨h, c.1⟩
        · exact .inl (.inr h)
      · rintro ((h | h) | h)
        · exact .inl (.inl h)
        · exact .inr h
        · exact .inl (.inr h.1)
  · rw [if_neg c]
    refine ⟨h, fun x => ⟨.inl, ?_⟩⟩
    rintro (h | ⟨rfl, h2⟩)
    · exact h
    · have : k < out.length ∧ out.getD k 0 = x := Classical.byContradiction fun hc => c ⟨h2, hc⟩
      exact mem_gD.2 ⟨k, this⟩
theorem nmS_len (out : List Int) (g : Int) : (nmS out g).length ≤ out.length + 1 := by
  unfold nmS
  split
  · simp only [List.length_append, List.length_take, List.length_drop, List.length_singleton]
    have := (posQ_spec out g).1; omega
  · omega
theorem namesQ_len : ∀ (gs out : List Int), (gs.foldl nmS out).length ≤ out.length + gs.length
  | [], _ => by simp
  | g :: gs, out => by
    have h1 := namesQ_len gs (nmS out g)
    have h2 := nmS_len out g
    simp only [List.foldl_cons, List.length_cons]; omega
theorem namesQ_inc : ∀ (gs out : List Int), out.Pairwise (· < ·) → (gs.foldl nmS out).Pairwise (· < ·) ∧ ∀ x, x ∈ gs.foldl nmS out ↔ x ∈ out ∨ (x ∈ gs ∧ 0 ≤ x)
  | [], out, h => ⟨h, fun x => by simp⟩
  | g :: gs, out, h => by
    obtain ⟨h1, h2⟩ := nmS_inc h g
    obtain ⟨h3, h4⟩ := namesQ_inc gs _ h1
    refine ⟨h3, fun x => ?_⟩
    rw [List.foldl_cons, h4, h2, List.mem_cons]
    constructor
    · rintro ((h | ⟨rfl, h⟩) | ⟨h, h5⟩)
      · exact .inl h
      · exact .inr ⟨.inl rfl, h⟩
      · exact .inr ⟨.inr h, h5⟩
    · rintro (h | ⟨rfl | h, h5⟩)
      · exact .inl (.inl h)
      · exact .inl (.inr ⟨rfl, h5⟩)
      · exact .inr ⟨h, h5⟩
theorem names_coreLs (gs : List Int) : namesQ gs = coreLs gs := by
  obtain ⟨h1, h2⟩ := namesQ_inc gs [] List.Pairwise.nil
  obtain ⟨h3, h4⟩ := coreLs_inc gs
  exact inc_ext h1 h3 fun x => by
    have := h2 x
    unfold namesQ
    rw [this, h4]; simp
def groupsP (l : List Int) (m : Nat) : List Int := (List.range m).map fun i : Nat => atP l (i : Int) 6 - 1
theorem groupsP_succ (l : List Int) (m : Nat) : groupsP l (m + 1) = groupsP l m ++ [atP l (m : Int) 6 - 1] := by simp [groupsP, List.range_succ]
theorem groupsP_len (l : List Int) (m : Nat) : (groupsP l m).length = m := by simp [groupsP]
def LoopEndZ {σ : Type} (E : σ → Env) (B : σ → List Ow) (G : σ → List Fct) (I : σ → Prop) (μ : σ → Nat) (s : σ) (e' : Env) (bx' : List Ow) (F' : List Fct) : Prop := ∃ bx2 F2, (∀ fr w, OK fr bx' F' w → OK fr bx2 F2 w) ∧ LoopEnd E B G I μ s e' bx2 F2
section
variable {P : Program} {n : Nat} {c : Code} {e e' : Env} {bx bx' : List Ow} {F F' : List Fct} {Q : Post} {σ : Type} {E : σ → Env} {B : σ → List Ow} {G : σ → List Fct} {I : σ → Prop} {μ : σ → Nat} {s : σ} {v : Value} {el : Nat} {l : List Int}
theorem WC.lpZ (E : σ → Env) (B : σ → List Ow) (G : σ → List Fct) (I : σ → Prop) (μ : σ → Nat) (s0 : σ) (hI : I s0) (hround : ∀ s, I s → WC P n c (E s) (B s) (G s) (thenQ (LoopEndZ E B G I μ s) Q))
    (hE : W.Sub (E s0) e := by repeat (first | exact Sub.nil _ | refine Sub.cons rfl ?_)) (hB : (B s0).Sublist bx := by repeat (first | exact List.Sublist.refl _ | exact List.nil_sublist _ | apply List.Sublist.cons_cons | apply List.Sublist.cons)) (hG : HasAll F (G s0) := by repeat (first | exact HasAll.nil | (apply HasAll.cons; exact hmA))) : WC P n (.loop c) e bx F Q :=
  WC.loop E B G I μ s0 hI hE hB hG.all fun s hs fr w0 a w hk hr ho => wp_mono (hround s hs fr w0 a w hk hr ho) fun ex a' w' hq => by
    cases ex <;> first | exact hq | skip
    obtain ⟨e1, b1, F1, h1, h2, h3, b2, F2, h4, s', h5, h6, h7, h8⟩ := hq
    exact ⟨e1, b2, F2, h1, h2, h4 _ _ h3, s', h5, h6, h7, h8.all⟩
theorem LoopEndZ.of (h : LoopEnd E B G I μ s e' bx' F') : LoopEndZ E B G I μ s e' bx' F' := ⟨_, _, fun _ _ h => h, h⟩
theorem LoopEndZ.freezeI (hs : Sel bx (.slice v el 1 (ints l)) (.slice (.slice none 0 0) el 1 []) bx') (h : LoopEndZ E B G I μ s e' bx' (sI v l :: F)) : LoopEndZ E B G I μ s e' bx F := by
  obtain ⟨b2, F2, h1, h2⟩ := h
  refine ⟨b2, F2, fun fr w ho => h1 fr w (ho.freeze hs (by simp) (by decide) _ fun j hj => ?_), h2⟩
  have hj' : j < l.length := by omega
  simp [hj']
end
end Go.Proofs.YtaongbhamadlkaaGreat
namespace Go.Proofs.YtaongbhamadlkaaGreat
open W Go.RowKit
theorem all_cb {l : List X.Ln} : (l.all fun c => decide (0 ≤ c.2)) = true ↔ ∀ i, i < l.length → 0 ≤ X.cb l i := by
  rw [List.all_eq_true]
  constructor
  · intro h i hi
    exact of_decide_eq_true (h _ (getD_ln hi))
  · intro h c hc
    obtain ⟨i, hi, rfl⟩ := List.mem_iff_getElem.1 hc
    have := h i hi
    unfold X.cb at this
    rw [List.getD_eq_getElem?_getD, List.getElem?_eq_getElem hi] at this
    exact decide_eq_true this
structure FMok (w n K : Nat) : Prop where
  n : ∀ k, k ≤ w → X.nbs n k ≤ 1000
  k : 2 * X.kbs K w ≤ 400000000
theorem FMok.at {w n K : Nat} (h : FMok w n K) {k : Nat} (hk : k < w) : 4 * X.kbs K k + 1 ≤ 400000000 := by
  have h1 := X.kbs_le (K := K) (show k + 1 ≤ w by omega)
  have h2 := h.k
  rw [X.kbs] at h1
  omega
namespace U
open Z
attribute [local irreducible] WC WL WD YO LO LoopEnd W.Fin Scalar SliceT FieldAt Row ArrT AllocT KnS Has W.One SrcE IntT
set_option maxHeartbeats 4000000 in
set_option maxRecDepth 60000 in
theorem feasible_c (M : Pm) (K w : Nat) (L : List X.Ln) (hw : w ≤ 10000) (hL : LSq K w L) (hf : FMok w L.length K) : FnB Tryz.prog 57 [M.lv, .int .i64 (w : Int)] [] [fLn M w L] (IsV (.bool (X.feasP L w))) := by
  refine fn_of [(0, M.lv), (1, (.int .i64 (w : Int)))] 28 Tryz.func57 rfl Tryz.ntmps57 (by kernel_rfl) rfl suA fun h0 => ?_
  repeat' (first | refine gA ?_ | (refine goG ?_; intro g) | (refine goV ?_; intro v))
  refine WC.lp (σ := Nat × Pm) (fun st => [(5, .int .i64 (st.1 : Int)), (0, st.2.lv), (1, .int .i64 (w : Int))]) (fun _ => []) (fun st => [ge h0, fLn st.2 w (X.wos L st.1)]) (fun st => st.1 ≤ w) (fun st => w - st.1) (0, M) (Nat.zero_le _) ?_
  rintro ⟨k, N⟩ hk
  simp only at hk ⊢
  have hlen := Nat.le_trans (X.wos_count L k) (hf.n k hk)
  by_cases c : k < w
  · repeat' (first | refine gA ?_ | (refine goG ?_; intro g) | (refine goV ?_; intro v))
    refine WL.callK (without_c N (X.kbs K k) w k (X.wos L k) hw c (hL.wos k hk) (hf.at c) hlen) ?_
    rintro _ _ _ ⟨N2, rfl, rfl, rfl⟩
    simp only [List.nil_append, List.cons_append]
    repeat' (first | refine gA ?_ | (refine goG ?_; intro g) | (refine goV ?_; intro v))
    exact LoopEnd.mk (k + 1, N2) (by show k + 1 ≤ w; omega) (by show w - (k + 1) < w - k; omega) (hG := .cons hmA (.cons (show Has _ (fLn N2 w (X.wo (X.wos L k) k)) from hmA) .nil))
  · obtain rfl : k = w := by omega
    have hfe : X.feasP L k = (X.wos L k).all fun c => decide (0 ≤ c.2) := rfl
    have hW := hL.wos k (Nat.le_refl _)
    rw [hfe]
    generalize X.wos L k = Wl at *
    repeat' (first | refine gA ?_ | (refine goG ?_; intro g) | (refine goV ?_; intro v))
    refine WC.lp (σ := Nat) (fun i => [(6, .int .i64 (i : Int)), (0, N.lv)]) (fun _ => []) (fun _ => [ge h0, fLn N k Wl]) (fun i => i ≤ Wl.length ∧ ∀ j, j < i → 0 ≤ X.cb Wl j) (fun i => Wl.length - i) 0 ⟨Nat.zero_le _, fun j hj => by omega⟩ ?_
    rintro i ⟨hi, ha⟩
    by_cases ci : i < Wl.length
    · refine WC.fact (isQ (qv (N.mb i)) (X.cb Wl i)) (W.Has.lnb (W.Has.lnq (M := N) hmA) ci) ?_
      have hs := @sgn_neg (X.cb Wl i)
      repeat' (first | refine gA ?_ | (refine goG ?_; intro g) | (refine goV ?_; intro v))
      first | refine WL.callV (Zn.rsign (N.mb i) (X.cb Wl i)) ?_ | refine WD.callV (Zn.rsign (N.mb i) (X.cb Wl i)) ?_
      by_cases cn : X.cb Wl i < 0
      · have cn' := hs.2 cn
        repeat' (first | refine gA ?_ | (refine goG ?_; intro g) | (refine goV ?_; intro v))
        refine WC.ret ?_
        exact Fin.v (ResE.t1 rfl rfl) meA (by
          congr 1; symm
          exact Bool.eq_false_iff.2 fun h => by have := all_cb.1 h i ci; grind)
      · have cn' : ¬ sgn (X.cb Wl i).num < 0 := fun h => cn (hs.1 h)
        repeat' (first | refine gA ?_ | (refine goG ?_; intro g) | (refine goV ?_; intro v))
        exact LoopEnd.mk (i + 1) ⟨ci, fun j hj => by
          by_cases e : j = i
          · subst e; grind
          · exact ha j (by omega)⟩ (by show Wl.length - (i + 1) < Wl.length - i; omega)
    · obtain rfl : i = Wl.length := by omega
      repeat' (first | refine gA ?_ | (refine goG ?_; intro g) | (refine goV ?_; intro v))
      refine WC.ret ?_
      exact Fin.v (ResE.t1 rfl rfl) meA (by rw [all_cb.2 ha])
end U
end Go.Proofs.YtaongbhamadlkaaGreat
namespace Go.Proofs.YtaongbhamadlkaaGreat
open W Go.RowKit
def IsIl (l : List Int) : RPost := fun v B G => B = [] ∧ G = [sI v l]
def IsLB (r : List Int × Bool) : RPost := fun v B G => ∃ u, v = .tuple #[u, .bool r.2] ∧ B = [] ∧ G = [sI u r.1]
def rcorS (v : Nat) (L : List X.Ln) (gs : List Int) : List Int × Bool :=
  if contP v L gs (namesQ gs) = true then ((namesQ gs).foldl (coreSt v L gs) (namesQ gs), true) else ([], false)
theorem fm_filter {l : List Int} {x : Int} {i : Nat} (h : i < l.length) : (l.take (i + 1)).filter (fun y => !decide (y = x)) = (l.take i).filter (fun y => !decide (y = x)) ++ if l.getD i 0 = x then [] else [l.getD i 0] := by
  have e : l.getD i 0 = l[i] := by simp [List.getD_eq_getElem?_getD, h]
  rw [e, List.take_succ_eq_append_getElem h, List.filter_append]
  congr 1
  by_cases c : l[i] = x
  · simp [c]
  · simp [c]
namespace U
open Z
attribute [local irreducible] WC WL WD YO LO LoopEnd W.Fin Scalar SliceT FieldAt Row ArrT AllocT KnS Has W.One SrcE IntT
set_option maxHeartbeats 4000000 in
set_option maxRecDepth 60000 in
theorem groups_c (M : Pm) (vn : Nat) (L : List X.Ln) (gf : Nat → Rat) (um : Value) (l : List Int) (hl : ∀ x ∈ l, I64 x) (hL : L.length ≤ 1000) : FnB Tryz.prog 21 [pgv M vn, um] [] [fP M (X.lpOf vn L gf), sI um l] (IsIl (groupsP l L.length)) := by
  refine fn_of [(0, (pgv M vn)), (1, um)] 22 Tryz.func21 rfl Tryz.ntmps21 (by kernel_rfl) rfl suA fun h0 => ?_
  refine WC.fact (fLn M vn L) (W.Has.pL (g := gf) hmA) ?_
  refine WC.addNil 3 1 ?_
  repeat' (first | refine gA ?_ | (refine goG ?_; intro g) | (refine goV ?_; intro v))
  revert g; intro g2
  refine WC.lp (σ := Nat × Value) (fun st => [(6, .int .i64 (st.1 : Int)), (5, st.2), (2, ptr g2), (1, um)]) (fun st => [Ow.cells g2 26 (pcs M vn), Ow.slice st.2 3 1 (ints (groupsP l st.1))])
    (fun _ => [fLn M vn L, ge h0, sI um l]) (fun st => st.1 ≤ L.length) (fun st => L.length - st.1) (0, .slice none 0 0) (Nat.zero_le _) ?_
  rintro ⟨i, sv⟩ hi
  simp only at hi ⊢
  have hgl := groupsP_len l i
  by_cases c : i < L.length
  · have hat := atP_lt (l := l) (i := (i : Int)) (m := 6) (by decide)
    repeat' (first | refine gA ?_ | (refine goG ?_; intro g) | (refine goV ?_; intro v))
    first | refine WL.callV (at_c um l (i : Int) 6 hl (by decide)) ?_ | refine WD.callV (at_c um l (i : Int) 6 hl (by decide)) ?_
    repeat' (first | refine gA ?_ | (refine goG ?_; intro g) | (refine goV ?_; intro v))
    exact LoopEnd.mk (i + 1, _) (by show i + 1 ≤ L.length; omega) (by show L.length - (i + 1) < L.length - i; omega) (hB := by
      show List.Sublist [Ow.cells g2 26 (pcs M vn), Ow.slice _ 3 1 (ints (groupsP l (i + 1)))] _
      rw [groupsP_succ, show ints (groupsP l i ++ [atP l (i : Int) 6 - 1]) = ints (groupsP l i) ++ [.int .i64 (atP l (i : Int) 6 - 1)] by simp [ints]]
      exact slA)
  · obtain rfl : i = L.length := by omega
    repeat' (first | refine gA ?_ | (refine goG ?_; intro g) | (refine goV ?_; intro v))
    refine WC.freezeI (l := groupsP l L.length) (v := sv) (el := 3) (by repeat (first | exact Sel.head | apply Sel.tail)) ?_
    exact WC.ret (Fin.p [] [sI sv (groupsP l L.length)] (ResE.t1 rfl rfl) meA (List.nil_sublist _) haA ⟨rfl, rfl⟩)
set_option maxHeartbeats 4000000 in
set_option maxRecDepth 60000 in
theorem has_c (u : Value) (l : List Int) (x : Int) : FnB Tryz.prog 88 [u, .int .i64 x] [] [sI u l] (IsV (.bool (decide (x ∈ l)))) := by
  refine fn_of [(0, u), (1, (.int .i64 x))] 18 Tryz.func88 rfl Tryz.ntmps88 (by kernel_rfl) rfl suA fun h0 => ?_
  refine WC.lenI u l hmA fun hlen => ?_
  repeat' (first | refine gA ?_ | (refine goG ?_; intro g) | (refine goV ?_; intro v))
  refine WC.lp (σ := Nat) (fun i => [(5, .int .i64 (i : Int)), (0, u), (1, .int .i64 x)]) (fun _ => []) (fun _ => [ge h0, sI u l]) (fun i => i ≤ l.length ∧ ∀ j, j < i → l.getD j 0 ≠ x) (fun i => l.length - i) 0 ⟨Nat.zero_le _, fun j hj => by omega⟩ ?_
  rintro i ⟨hi, he⟩
  by_cases c : i < l.length
  · by_cases h : l.getD i 0 = x
    · have hx : x ∈ l := mem_gD.2 ⟨i, c, h⟩
      repeat' (first | refine gA ?_ | (refine goG ?_; intro g) | (refine goV ?_; intro v))
      exact WC.ret (Fin.v (ResE.t1 rfl rfl) meA (by rw [decide_eq_true hx]))
    · repeat' (first | refine gA ?_ | (refine goG ?_; intro g) | (refine goV ?_; intro v))
      exact LoopEnd.mk (i + 1) ⟨c, fun j hj => by
        by_cases e : j = i
        · subst e; exact h
        · exact he j (by omega)⟩ (by show l.length - (i + 1) < l.length - i; omega)
  · obtain rfl : i = l.length := by omega
    have hx : ¬ x ∈ l := fun h => by
      obtain ⟨j, h1, h2⟩ := mem_gD.1 h
      exact he j h1 h2
    repeat' (first | refine gA ?_ | (refine goG ?_; intro g) | (refine goV ?_; intro v))
    exact WC.ret (Fin.v (ResE.t1 rfl rfl) meA (by rw [decide_eq_false hx]))
set_option maxHeartbeats 8000000 in
set_option maxRecDepth 60000 in
theorem rcontradictory_c (M : Pm) (K0 vn : Nat) (L : List X.Ln) (gf : Nat → Rat) (gs l : List Int) (ug vl : Value) (hv : vn ≤ 48) (hf : FMok vn L.length K0) (hL : LSq K0 vn L) (hgs : gs.length = L.length) :
    FnB Tryz.prog 26 [pgv M vn, ug, vl] [] [fP M (X.lpOf vn L gf), sI ug gs, sI vl l] (IsV (.bool (contP vn L gs l))) := by
  refine fn_of [(0, (pgv M vn)), (1, ug), (2, vl)] 42 Tryz.func26 rfl Tryz.ntmps26 (by kernel_rfl) rfl suA fun h0 => ?_
  have hLl : L.length ≤ 1000 := by have := hf.n 0 (Nat.zero_le _); rw [X.nbs] at this; omega
  refine WC.fact (fLn M vn L) (W.Has.pL (g := gf) hmA) ?_
  refine WC.addNil 60 5 ?_
  repeat' (first | refine gA ?_ | (refine goG ?_; intro g) | (refine goV ?_; intro v))
  revert g; intro g3
  refine WC.lp (σ := Nat × US) (fun st => [(8, .int .i64 (st.1 : Int)), (7, st.2.sv), (3, ptr g3), (1, ug), (2, vl)])
    (fun st => [Ow.cells g3 26 (pcs M vn), Ow.slice st.2.sv 60 5 (lncells st.2.n st.2.M)])
    (fun st => [lnQ st.2.M vn (selT L (keepP gs l) st.1), fLn M vn L, ge h0, sI ug gs, sI vl l]) (fun st => st.1 ≤ L.length ∧ st.2.n = (selT L (keepP gs l) st.1).length) (fun st => L.length - st.1) (0, ⟨0, .slice none 0 0, Pm.no⟩) ⟨Nat.zero_le _, rfl⟩ ?_ (hG := .cons W.Has.lnn sfA)
  rintro ⟨i, n, sv, N⟩ ⟨hi, hn⟩
  simp only at hi hn ⊢
  have hsl := selT_len (L := L) (p := keepP gs l) (i := i)
  by_cases c : i < L.length
  · have hup := selT_up (L := L) (p := keepP gs l) (i := i)
    refine WC.fact (fF (M.av i) vn (M.ma i) (X.ca L i)) (W.Has.lna (W.Has.lnq (M := M) hmA) c) ?_
    refine WC.fact (isQ (qv (M.mb i)) (X.cb L i)) (W.Has.lnb (W.Has.lnq (M := M) hmA) c) ?_
    have take : keepP gs l i = true → Has [isQ (qv (M.mb i)) (X.cb L i), fF (M.av i) vn (M.ma i) (X.ca L i), lnQ N vn (selT L (keepP gs l) i), fLn M vn L, ge h0, sI ug gs, sI vl l] (lnQ (N.app n (M.av i) (M.ma i) (M.mb i)) vn (selT L (keepP gs l) (i + 1))) := fun hk => by
      rw [hup, if_pos hk, hn]
      exact W.Has.lnapp hmA (L.getD i ([], 0)) (show Has _ (fF (M.av i) vn (M.ma i) (X.ca L i)) from hmA) (show Has _ (isQ (qv (M.mb i)) (X.cb L i)) from hmA)
    have tl : keepP gs l i = true → n + 1 = (selT L (keepP gs l) (i + 1)).length := fun hk => by rw [hup, if_pos hk, List.length_append, hn]; rfl
    have leave : keepP gs l i = false → selT L (keepP gs l) (i + 1) = selT L (keepP gs l) i := fun hk => by rw [hup, if_neg (by rw [hk]; decide), List.append_nil]
    by_cases c1 : gs.getD i 0 < 0
    · have hk : keepP gs l i = true := decide_eq_true (.inl c1)
      refine WC.fact _ (take hk) ?_
      repeat' (first | refine gA ?_ | (refine goG ?_; intro g) | (refine goV ?_; intro v))
      exact LoopEnd.mk (i + 1, ⟨n + 1, _, _⟩) ⟨c, tl hk⟩ (by show L.length - (i + 1) < L.length - i; omega)
    · repeat' (first | refine gA ?_ | (refine goG ?_; intro g) | (refine goV ?_; intro v))
      first | refine WL.callV (has_c vl l (gs.getD i 0)) ?_ | refine WD.callV (has_c vl l (gs.getD i 0)) ?_
      by_cases c2 : gs.getD i 0 ∈ l
      · have hk : keepP gs l i = true := decide_eq_true (.inr c2)
        rw [decide_eq_true c2]
        repeat' (first | refine gA ?_ | (refine goG ?_; intro g) | (refine goV ?_; intro v))
        exact LoopEnd.mk (i + 1, ⟨n + 1, _, N.app n (M.av i) (M.ma i) (M.mb i)⟩) ⟨c, tl hk⟩ (by show L.length - (i + 1) < L.length - i; omega) (hG := .cons (take hk) sfA)
      · have hk : keepP gs l i = false := decide_eq_false fun h => h.elim c1 c2
        rw [decide_eq_false c2]
        repeat' (first | refine gA ?_ | (refine goG ?_; intro g) | (refine goV ?_; intro v))
        exact LoopEnd.mk (i + 1, ⟨n, sv, N⟩) ⟨c, by rw [leave hk]; exact hn⟩ (by show L.length - (i + 1) < L.length - i; omega) (hG := .cons (by show Has _ (lnQ N vn (selT L (keepP gs l) (i + 1))); rw [leave hk]; exact hmA) sfA)
  · obtain rfl : i = L.length := by omega
    have hS : LSq K0 vn (selT L (keepP gs l) L.length) := selT_sq hL (Nat.le_refl _)
    have hf2 : FMok vn (selT L (keepP gs l) L.length).length K0 := ⟨fun k hk => Nat.le_trans (X.nbs_mono hsl k) (hf.n k hk), hf.k⟩
    have hc : contP vn L gs l = !X.feasP (selT L (keepP gs l) L.length) vn := rfl
    rw [hc]
    generalize selT L (keepP gs l) L.length = S at *
    subst hn
    refine WC.freezeLn sv N vn S (by repeat (first | exact Sel.head | apply Sel.tail)) hmA ?_
    repeat' (first | refine gA ?_ | (refine goG ?_; intro g) | (refine goV ?_; intro v))
    first | refine WL.callV (feasible_c (N.at sv) K0 vn S (by omega) hS hf2) ?_ | refine WD.callV (feasible_c (N.at sv) K0 vn S (by omega) hS hf2) ?_
    cases X.feasP S vn with
    | true =>
      repeat' (first | refine gA ?_ | (refine goG ?_; intro g) | (refine goV ?_; intro v))
      exact WC.ret (Fin.v (ResE.t1 rfl rfl) meA rfl)
    | false =>
      repeat' (first | refine gA ?_ | (refine goG ?_; intro g) | (refine goV ?_; intro v))
      exact WC.ret (Fin.v (ResE.t1 rfl rfl) meA rfl)
end U
end Go.Proofs.YtaongbhamadlkaaGreat
namespace Go.Proofs.YtaongbhamadlkaaGreat
open W Go.RowKit
theorem namesQ_take {gs : List Int} {i : Nat} (c : i < gs.length) : namesQ (gs.take (i + 1)) = nmS (namesQ (gs.take i)) (gs.getD i 0) := by
  unfold namesQ
  rw [List.take_add_one, List.foldl_append]; simp [List.getD_eq_getElem?_getD, c]
theorem namesQ_tl (gs : List Int) (i : Nat) : (namesQ (gs.take i)).length ≤ i := by
  have := namesQ_len (gs.take i) []
  unfold namesQ
  rw [List.length_take] at this; simp at this; omega
namespace U
open Z
attribute [local irreducible] WC WL WD YO LO LoopEnd W.Fin Scalar SliceT FieldAt Row ArrT AllocT KnS Has W.One SrcE IntT
theorem d24 {G G' : Prop} (h : G') (s : Bx G' → G := by
  intro h
  first | (apply WC.draw (id := 12) [0, 1, 2, 3, 4, 5, 6, 7, 8] (.held 0 (.held 1 (.held 2 (.held 3 (.held 4 (.held 5 (.held 6 (.held 7 (.held 8 (.done)))))))))) mixed (by kernel_rfl)) | fail
  exact Bx.h h) : G := s ⟨h⟩
theorem d87 {G G' : Prop} (h : G') (s : Bx G' → G := by
  intro h
  first | (apply WC.draw (id := 6) [0, 1, 2, 3, 4, 5, 6, 7, 8, 9, 10, 11, 12, 13, 14, 15, 16, 17, 18] (.held 0 (.held 1 (.held 2 (.held 3 (.held 4 (.held 5 (.held 6 (.held 7 (.held 8 (.held 9 (.held 10 (.held 11 (.held 12 (.held 13 (.held 14 (.held 15 (.held 16 (.held 17 (.held 18 (.done)))))))))))))))))))) mixed (by kernel_rfl)) | (apply WC.draw (id := 10) [0, 1, 2, 3, 4, 5, 6, 7, 8] (.held 0 (.held 1 (.held 2 (.held 3 (.held 4 (.held 5 (.held 6 (.held 7 (.held 8 (.done)))))))))) mixed (by kernel_rfl)) | fail
  exact Bx.h h) : G := s ⟨h⟩
set_option maxHeartbeats 8000000 in
set_option maxRecDepth 60000 in
theorem names_c (v0 : Value) (gs : List Int) (hl : gs.length ≤ 2048) : FnB Tryz.prog 87 [v0] [] [sI v0 gs] (IsIl (namesQ gs)) := by
  refine fn_of [(0, v0)] 70 Tryz.func87 rfl Tryz.ntmps87 (by kernel_rfl) rfl suA fun h0 => ?_
  repeat' (first | refine gB ?_ | (refine gH ?_; intro g) | (refine gW ?_; intro v) | refine d87 ?_ | fail)
  refine WC.lpZ (σ := Nat × Value) (fun s => [(4, .int .i64 (s.1 : Int)), (3, s.2), (0, v0)]) (fun _ => []) (fun s => [sI s.2 (namesQ (gs.take s.1)), ge h0, sI v0 gs]) (fun s => s.1 ≤ gs.length) (fun s => gs.length - s.1) (0, .slice none 0 0) (Nat.zero_le _) ?_ suA slA (.cons nilI sfA)
  rintro ⟨i, u⟩ hi
  simp only at hi ⊢
  by_cases c : i < gs.length
  · have hstep := namesQ_take c
    have hln := namesQ_tl gs i
    generalize namesQ (gs.take i) = out at *
    generalize hg : gs.getD i 0 = g at *
    have hps := posQ_spec out g
    refine WC.lenI u out hmA fun hlo => ?_
    repeat' (first | refine gB ?_ | (refine gH ?_; intro g) | (refine gW ?_; intro v) | refine d87 ?_ | fail)
    refine WC.lp (σ := Nat) (fun k => [(5, .int .i64 (k : Int)), (4, .int .i64 (i : Int)), (3, u), (0, v0)]) (fun _ => []) (fun _ => [sI u out, ge h0, sI v0 gs]) (fun k => k ≤ posQ out g) (fun k => out.length - k) 0 (Nat.zero_le _) ?_ suA slA sfA
    rintro k hk
    have ek : k < out.length → out.getD (min (k : Int) ((out.length : Int) - 1)).toNat 0 = out.getD k 0 := fun h => by rw [show (min (k : Int) ((out.length : Int) - 1)).toNat = k by omega]
    by_cases c0 : k < out.length
    · have ek := ek c0
      by_cases c1 : out.getD k 0 < g
      · have hk1 : k ≠ posQ out g := fun h => by subst h; have := hps.2.2 c0; omega
        repeat' (first | refine gB ?_ | (refine gH ?_; intro g) | (refine gW ?_; intro v) | refine d87 ?_ | fail)
        exact LoopEnd.mk (k + 1) (by show k + 1 ≤ posQ out g; omega) (by show out.length - (k + 1) < out.length - k; omega) suA slA sfA
      · have hpk : posQ out g = k := by
          rcases Nat.lt_or_ge k (posQ out g) with h | h
          · exact absurd (hps.2.1 k h) c1
          · omega
        by_cases c3 : 0 ≤ g ∧ out.getD k 0 ≠ g
        · have hns : nmS out g = out.take k ++ [g] ++ out.drop k := by unfold nmS; rw [hpk, if_pos ⟨c3.1, fun h => c3.2 h.2⟩]
          obtain ⟨c3, c4⟩ := c3
          have h1 : (out.take k).length = k := by rw [List.length_take]; omega
          have h2 : (out.drop k).length = out.length - k := List.length_drop
          refine WC.fact (sI (resl u 0 k 1) (out.take k)) (W.Has.takeI hmA (by omega)) ?_
          refine WC.fact (sI (resl u k out.length 1) (out.drop k)) (W.Has.dropI hmA (by omega)) ?_
          refine WC.addNil 3 1 ?_
          repeat' (first | refine gB ?_ | (refine gH ?_; intro g) | (refine gW ?_; intro v) | refine d87 ?_ | fail)
          rw [show (([] ++ ints (out.take k)) ++ [Value.int .i64 (gs.getD i 0)]) ++ ints (out.drop k) = ints (nmS out g) from by rw [hns, hg]; simp [ints]]
          refine LoopEndZ.freezeI (l := nmS out g) (v := v) (el := 3) (by repeat (first | exact Sel.head | apply Sel.tail)) (.of ?_)
          exact LoopEnd.mk (i + 1, v) (by show i + 1 ≤ gs.length; omega) (by show gs.length - (i + 1) < gs.length - i; omega) suA (List.nil_sublist _) (.cons (by rw [hstep]; exact hmA) sfA)
        · have hns : nmS out g = out := by
            unfold nmS; rw [hpk, if_neg]
            rintro ⟨h1, h2⟩
            exact c3 ⟨h1, fun h => h2 ⟨c0, h⟩⟩
          rw [hns] at hstep
          by_cases c5 : g < 0
          · repeat' (first | refine gB ?_ | (refine gH ?_; intro g) | (refine gW ?_; intro v) | refine d87 ?_ | fail)
            exact .of (LoopEnd.mk (i + 1, u) (by show i + 1 ≤ gs.length; omega) (by show gs.length - (i + 1) < gs.length - i; omega) suA slA (.cons (by rw [hstep]; exact hmA) sfA))
          · have c4 : out.getD k 0 = g := Classical.byContradiction fun h => c3 ⟨by omega, h⟩
            repeat' (first | refine gB ?_ | (refine gH ?_; intro g) | (refine gW ?_; intro v) | refine d87 ?_ | fail)
            exact .of (LoopEnd.mk (i + 1, u) (by show i + 1 ≤ gs.length; omega) (by show gs.length - (i + 1) < gs.length - i; omega) suA slA (.cons (by rw [hstep]; exact hmA) sfA))
    · have hpk : posQ out g = k := by have := hps.1; omega
      by_cases c3 : 0 ≤ g
      · have hns : nmS out g = out.take k ++ [g] ++ out.drop k := by unfold nmS; rw [hpk, if_pos ⟨c3, fun h => c0 h.1⟩]
        obtain rfl : k = out.length := by have := hps.1; omega
        have h1 : (out.take out.length).length = out.length := by rw [List.length_take]; omega
        have h2 : (out.drop out.length).length = 0 := by rw [List.length_drop]; omega
        refine WC.fact (sI (resl u 0 out.length 1) (out.take out.length)) (W.Has.takeI hmA (by omega)) ?_
        refine WC.fact (sI (resl u out.length out.length 1) (out.drop out.length)) (W.Has.dropI hmA (by omega)) ?_
        refine WC.addNil 3 1 ?_
        repeat' (first | refine gB ?_ | (refine gH ?_; intro g) | (refine gW ?_; intro v) | refine d87 ?_ | fail)
        rw [show (([] ++ ints (out.take out.length)) ++ [Value.int .i64 (gs.getD i 0)]) ++ ints (out.drop out.length) = ints (nmS out g) from by rw [hns, hg]; simp [ints]]
        refine LoopEndZ.freezeI (l := nmS out g) (v := v) (el := 3) (by repeat (first | exact Sel.head | apply Sel.tail)) (.of ?_)
        exact LoopEnd.mk (i + 1, v) (by show i + 1 ≤ gs.length; omega) (by show gs.length - (i + 1) < gs.length - i; omega) suA (List.nil_sublist _) (.cons (by rw [hstep]; exact hmA) sfA)
      · have hns : nmS out g = out := by
          unfold nmS; rw [if_neg (fun h => c3 h.1)]
        rw [hns] at hstep
        repeat' (first | refine gB ?_ | (refine gH ?_; intro g) | (refine gW ?_; intro v) | refine d87 ?_ | fail)
        exact .of (LoopEnd.mk (i + 1, u) (by show i + 1 ≤ gs.length; omega) (by show gs.length - (i + 1) < gs.length - i; omega) suA slA (.cons (by rw [hstep]; exact hmA) sfA))
  · obtain rfl : i = gs.length := by omega
    repeat' (first | refine gB ?_ | (refine gH ?_; intro g) | (refine gW ?_; intro v) | refine d87 ?_ | fail)
    exact WC.ret (Fin.p [] [sI u (namesQ gs)] (ResE.t1 rfl rfl) meA (List.nil_sublist _) (by rw [List.take_of_length_le (Nat.le_refl _)]; exact haA) ⟨rfl, rfl⟩)
set_option maxHeartbeats 8000000 in
set_option maxRecDepth 60000 in
theorem rcore_c (M : Pm) (K0 vn : Nat) (L : List X.Ln) (gf : Nat → Rat) (gs : List Int) (ug : Value) (hv : vn ≤ 48) (hf : FMok vn L.length K0) (hL : LSq K0 vn L) (hgs : gs.length = L.length) :
    FnB Tryz.prog 24 [pgv M vn, ug] [] [fP M (X.lpOf vn L gf), sI ug gs] (IsLB (rcorS vn L gs)) := by
  refine fn_of [(0, (pgv M vn)), (1, ug)] 53 Tryz.func24 rfl Tryz.ntmps24 (by kernel_rfl) rfl suA fun h0 => ?_
  have hLl : L.length ≤ 1000 := by have := hf.n 0 (Nat.zero_le _); rw [X.nbs] at this; omega
  have hnl : (namesQ gs).length ≤ gs.length := by have := namesQ_len gs []; show (gs.foldl nmS []).length ≤ _; simpa using this
  repeat' (first | refine gB ?_ | (refine gH ?_; intro g) | (refine gW ?_; intro v) | refine d24 ?_ | fail)
  revert g; intro gb
  refine WL.callG [] _ (.refl _) (names_c ug gs (by omega)) ?_
  rintro rl bb GG ⟨rfl, rfl⟩
  simp only [List.nil_append, List.cons_append]
  generalize hLL : namesQ gs = LL at *
  repeat' (first | refine gB ?_ | (refine gH ?_; intro g) | (refine gW ?_; intro v) | refine d24 ?_ | fail)
  first | refine WL.callV (rcontradictory_c M K0 vn L gf gs LL ug rl hv hf hL hgs) ?_ | refine WD.callV (rcontradictory_c M K0 vn L gf gs LL ug rl hv hf hL hgs) ?_
  by_cases c3 : contP vn L gs LL = true
  · have hcor : rcorS vn L gs = (LL.foldl (coreSt vn L gs) LL, true) := by unfold rcorS; rw [hLL, if_pos c3]
    rw [c3]
    repeat' (first | refine gB ?_ | (refine gH ?_; intro g) | (refine gW ?_; intro v) | refine d24 ?_ | fail)
    refine WC.lp (σ := Nat × Value) (fun st => [(8, .int .i64 (st.1 : Int)), (6, st.2), (7, rl), (2, ptr gb), (1, ug)])
      (fun _ => [Ow.cells gb 26 (pcs M vn)])
      (fun st => [sI st.2 ((LL.take st.1).foldl (coreSt vn L gs) LL), sI rl LL, ge h0, fP M (X.lpOf vn L gf), sI ug gs]) (fun st => st.1 ≤ LL.length) (fun st => LL.length - st.1) (0, rl) (Nat.zero_le _) ?_ suA slA sfA
    rintro ⟨i, lv⟩ hi
    simp only at hi ⊢
    have hfl := coreSt_len vn L gs (LL.take i) LL
    by_cases c : i < LL.length
    · have hst : (LL.take (i + 1)).foldl (coreSt vn L gs) LL = coreSt vn L gs ((LL.take i).foldl (coreSt vn L gs) LL) (LL.getD i 0) := by
        rw [List.take_succ_eq_append_getElem c, List.foldl_append, List.getD_eq_getElem?_getD, List.getElem?_eq_getElem c]; rfl
      generalize (LL.take i).foldl (coreSt vn L gs) LL = MM at *
      refine WC.lenI lv MM hmA fun hlm => ?_
      refine WC.addNil 3 1 ?_
      repeat' (first | refine gB ?_ | (refine gH ?_; intro g) | (refine gW ?_; intro v) | refine d24 ?_ | fail)
      refine WC.lp (σ := Nat × Value) (fun st => [(10, .int .i64 (st.1 : Int)), (9, st.2), (8, .int .i64 (i : Int)), (6, lv), (7, rl), (2, ptr gb), (1, ug)])
        (fun st => [Ow.slice st.2 3 1 (ints ((MM.take st.1).filter fun x => !decide (x = LL.getD i 0))), Ow.cells gb 26 (pcs M vn)])
        (fun st => [sI lv MM, sI rl LL, ge h0, fP M (X.lpOf vn L gf), sI ug gs]) (fun st => st.1 ≤ MM.length) (fun st => MM.length - st.1) (0, .slice none 0 0) (Nat.zero_le _) ?_ suA slA sfA
      rintro ⟨k, uv⟩ hk
      simp only at hk ⊢
      have hlf : ((MM.take k).filter fun x => !decide (x = LL.getD i 0)).length ≤ k := Nat.le_trans (List.length_filter_le _ _) (by rw [List.length_take]; omega)
      by_cases ck : k < MM.length
      · have hfs := fm_filter (x := LL.getD i 0) ck
        by_cases ce : MM.getD k 0 = LL.getD i 0
        · rw [if_pos ce, List.append_nil] at hfs
          repeat' (first | refine gB ?_ | (refine gH ?_; intro g) | (refine gW ?_; intro v) | refine d24 ?_ | fail)
          exact LoopEnd.mk (k + 1, uv) (by show k + 1 ≤ MM.length; omega) (by show MM.length - (k + 1) < MM.length - k; omega) suA (by show List.Sublist [Ow.slice uv 3 1 (ints ((MM.take (k + 1)).filter fun x => !decide (x = LL.getD i 0))), Ow.cells gb 26 (pcs M vn)] _; rw [hfs]; exact slA) sfA
        · rw [if_neg ce] at hfs
          repeat' (first | refine gB ?_ | (refine gH ?_; intro g) | (refine gW ?_; intro v) | refine d24 ?_ | fail)
          exact LoopEnd.mk (k + 1, _) (by show k + 1 ≤ MM.length; omega) (by show MM.length - (k + 1) < MM.length - k; omega) suA (by show List.Sublist [Ow.slice _ 3 1 (ints ((MM.take (k + 1)).filter fun x => !decide (x = LL.getD i 0))), Ow.cells gb 26 (pcs M vn)] _; rw [hfs, show ∀ l : List Int, ints (l ++ [MM.getD k 0]) = ints l ++ [.int .i64 (MM.getD k 0)] from fun l => by simp [ints]]; exact slA) sfA
      · obtain rfl : k = MM.length := by omega
        rw [List.take_of_length_le (Nat.le_refl _)] at hlf ⊢
        have hcs : coreSt vn L gs MM (LL.getD i 0) = if contP vn L gs (MM.filter fun x => !decide (x = LL.getD i 0)) = true then MM.filter (fun x => !decide (x = LL.getD i 0)) else MM := rfl
        generalize MM.filter (fun x => !decide (x = LL.getD i 0)) = M2 at *
        refine WC.freezeI (l := M2) (v := uv) (el := 3) (by repeat (first | exact Sel.head | apply Sel.tail)) ?_
        repeat' (first | refine gB ?_ | (refine gH ?_; intro g) | (refine gW ?_; intro v) | refine d24 ?_ | fail)
        first | refine WL.callV (rcontradictory_c M K0 vn L gf gs M2 ug uv hv hf hL hgs) ?_ | refine WD.callV (rcontradictory_c M K0 vn L gf gs M2 ug uv hv hf hL hgs) ?_
        by_cases c4 : contP vn L gs M2 = true
        · rw [if_pos c4] at hcs
          rw [c4]
          repeat' (first | refine gB ?_ | (refine gH ?_; intro g) | (refine gW ?_; intro v) | refine d24 ?_ | fail)
          exact LoopEnd.mk (i + 1, uv) (by show i + 1 ≤ LL.length; omega) (by show LL.length - (i + 1) < LL.length - i; omega) suA slA (HasAll.cons (by show Has _ (sI uv ((LL.take (i + 1)).foldl (coreSt vn L gs) LL)); rw [hst, hcs]; exact hmA) sfA)
        · rw [if_neg c4] at hcs
          rw [Bool.eq_false_iff.2 c4]
          repeat' (first | refine gB ?_ | (refine gH ?_; intro g) | (refine gW ?_; intro v) | refine d24 ?_ | fail)
          exact LoopEnd.mk (i + 1, lv) (by show i + 1 ≤ LL.length; omega) (by show LL.length - (i + 1) < LL.length - i; omega) suA slA (HasAll.cons (by show Has _ (sI lv ((LL.take (i + 1)).foldl (coreSt vn L gs) LL)); rw [hst, hcs]; exact hmA) sfA)
    · obtain rfl : i = LL.length := by omega
      rw [List.take_of_length_le (Nat.le_refl _)]
      repeat' (first | refine gB ?_ | (refine gH ?_; intro g) | (refine gW ?_; intro v) | refine d24 ?_ | fail)
      exact WC.ret (Fin.p [] [sI lv (rcorS vn L gs).1] (ResE.t2 rfl rfl rfl) meA (List.nil_sublist _) (by rw [hcor]; exact haA) ⟨_, by rw [hcor], rfl, rfl⟩)
  · have hcor : rcorS vn L gs = ([], false) := by unfold rcorS; rw [hLL, if_neg c3]
    rw [Bool.eq_false_iff.2 c3]
    repeat' (first | refine gB ?_ | (refine gH ?_; intro g) | (refine gW ?_; intro v) | refine d24 ?_ | fail)
    exact WC.ret (Fin.p [] [sI (.slice none 0 0) (rcorS vn L gs).1] (ResE.t2 rfl rfl rfl) meA (List.nil_sublist _) (.cons (by rw [hcor]; exact nilI) .nil) ⟨_, by rw [hcor], rfl, rfl⟩)
end U
end Go.Proofs.YtaongbhamadlkaaGreat
namespace Go.Proofs.YtaongbhamadlkaaGreat
open W Go.RowKit
theorem sq_div {p q : Int} (h1 : p.natAbs < 1000000000) (h2 : 0 < q) (h3 : q < 1000000000) : Sq 1 (Rat.divInt p q) := by
  obtain ⟨n, rfl⟩ : ∃ n : Nat, q = n := ⟨q.toNat, by omega⟩
  rw [Rat.divInt_ofNat]
  exact di_num _ _ (by omega) (digs_len_le (k := 1) (by omega)) (digs_len_le (k := 1) (by omega))
def someV (l : List Int) : Nat := 1 + (atP l 0 3).toNat
def someG (l : List Int) (k : Nat) : Rat := Rat.divInt (atP l (1 + (k : Int)) 7 - 3) 1
def someN (x : Int) : Int := around x 1073741824
def tabl : List Int := [0, 1, -1, 0, 2, -2, 1, 3, -3]
def someD (n : Int) : Nat → Int
  | 0 => n / 57
  | k + 1 => someD n k / 18
def someA (n : Int) (k : Nat) : Rat := Rat.divInt (tabl.getD (someD n k % 9).toNat 0) (1 + someD n k / 9 % 2)
def someB (n : Int) : Rat := Rat.divInt (n % 19 - 6) (1 + n / 19 % 3)
def someLn (v : Nat) (x : Int) : X.Ln := ((List.range v).map (someA (someN x)), someB (someN x))
def someL (l : List Int) (most : Nat) : List X.Ln := ((l.drop 4).take most).map (someLn (someV l))
def someP (l : List Int) (most : Nat) : X.Lp := X.lpOf (someV l) (someL l most) (someG l)
theorem someV_le (l : List Int) : 1 ≤ someV l ∧ someV l ≤ 3 := by
  have := atP_lt (l := l) (i := 0) (m := 3) (by decide)
  unfold someV; omega
theorem someD_le {n : Int} (h0 : 0 ≤ n) (h : n < 1073741824) : ∀ k, 0 ≤ someD n k ∧ someD n k < 1073741824
  | 0 => by unfold someD; omega
  | k + 1 => by have := someD_le h0 h k; unfold someD; omega
theorem tabl_le {i : Nat} : (tabl.getD i 0).natAbs ≤ 3 := by
  match i with
  | 0 | 1 | 2 | 3 | 4 | 5 | 6 | 7 | 8 => decide
  | i + 9 => show (0 : Int).natAbs ≤ 3; decide
theorem someN_le (x : Int) : 0 ≤ someN x ∧ someN x < 1073741824 := around_lt (by decide)
theorem someA_sq (x : Int) (k : Nat) : Sq 1 (someA (someN x) k) := by
  have h := someD_le (someN_le x).1 (someN_le x).2 k
  have := @tabl_le (someD (someN x) k % 9).toNat
  exact sq_div (by omega) (by omega) (by omega)
theorem someB_sq (x : Int) : Sq 1 (someB (someN x)) := by
  have h := someN_le x
  exact sq_div (by omega) (by omega) (by omega)
theorem someLn_co {v : Nat} {x : Int} {k : Nat} (hk : k < v) : X.co (someLn v x) k = someA (someN x) k := by
  unfold X.co someLn; simp [List.getD_eq_getElem?_getD, hk]
theorem someL_sq (l : List Int) (most : Nat) : LSq 1 (someV l) (someL l most) := fun c hc => by
  unfold someL at hc
  obtain ⟨x, _, rfl⟩ := List.mem_map.1 hc
  refine ⟨by simp [someLn], fun k hk => ?_, someB_sq x⟩
  rw [someLn_co hk]; exact someA_sq x k
theorem someL_len (l : List Int) (most : Nat) : (someL l most).length ≤ most := by
  unfold someL; rw [List.length_map, List.length_take]; omega
def IsPg (p : X.Lp) : RPost := fun v B G => ∃ M : Pm, v = pgv M p.v ∧ B = [] ∧ G = [fP M p]
theorem some_take {l : List Int} {v i : Nat} (h : 4 + i < l.length) : ((l.drop 4).take (i + 1)).map (someLn v) = ((l.drop 4).take i).map (someLn v) ++ [someLn v (l.getD (4 + i) 0)] := by
  have h2 : i < (l.drop 4).length := by rw [List.length_drop]; omega
  rw [List.take_succ_eq_append_getElem h2, List.map_append]
  congr 2
  rw [List.getElem_drop, List.getD_eq_getElem?_getD, List.getElem?_eq_getElem h]; rfl
namespace U
open Z
attribute [local irreducible] WC WL WD YO LO LoopEnd W.Fin Scalar SliceT FieldAt Row ArrT AllocT KnS Has W.One SrcE IntT
theorem d11 {G G' : Prop} (h : G') (s : Bx G' → G := by
  intro h
  first | (apply WC.draw (id := 5) [0, 1, 2, 3, 4, 6] (.held 0 (.held 1 (.held 2 (.held 3 (.held 4 (.loud 5 (.held 6 (.loud 7 (.loud 8 (.loud 9 (.loud 10 (.loud 11 (.done))))))))))))) mixed (by kernel_rfl)) | (apply WC.draw (id := 15) [0, 1, 3, 4, 7, 8, 9, 10] (.held 0 (.held 1 (.held 3 (.held 4 (.held 7 (.held 8 (.held 9 (.held 10 (.loud 2 (.loud 5 (.loud 6 (.loud 11 (.loud 12 (.loud 13 (.loud 14 (.loud 15 (.done))))))))))))))))) mixed (by kernel_rfl)) | fail
  exact Bx.h h) : G := s ⟨h⟩
structure MS where
  sv : Value
  M : Pm
set_option maxHeartbeats 8000000 in
set_option maxRecDepth 60000 in
theorem some_c (v0 : Value) (l : List Int) (most : Nat) (hl : ∀ x ∈ l, I64 x) (hm : most ≤ 100) : FnB Tryz.prog 11 [v0, .int .i64 (most : Int)] [] [sI v0 l] (IsPg (someP l most)) := by
  refine fn_of [(0, v0), (1, (.int .i64 (most : Int)))] 90 Tryz.func11 rfl Tryz.ntmps11 (by kernel_rfl) rfl suA fun h0 => ?_
  have hv := someV_le l
  have hat := atP_lt (l := l) (i := 0) (m := 3) (by decide)
  refine WC.addNil 60 5 ?_
  refine WC.addNil 31 4 ?_
  refine WC.lenI v0 l hmA fun hlen => ?_
  repeat' (first | refine gB ?_ | (refine gH ?_; intro g) | (refine gW ?_; intro v) | refine gY ?_ | refine d11 ?_ | fail)
  revert g; intro g4
  first | refine WL.callV (at_c v0 l 0 3 hl (by decide)) ?_ | refine WD.callV (at_c v0 l 0 3 hl (by decide)) ?_
  repeat' (first | refine gB ?_ | (refine gH ?_; intro g) | (refine gW ?_; intro v) | refine gY ?_ | refine d11 ?_ | fail)
  rw [show (1 : Int) + atP l 0 3 = ((someV l : Nat) : Int) by unfold someV; omega]
  revert g; intro g5
  refine WC.lp (σ := Nat × Value × (Nat → QM)) (fun st => [(6, .int .i64 (st.1 : Int)), (5, ptr g5), (4, ptr g4), (0, v0), (1, .int .i64 (most : Int))])
    (fun st => [Ow.cells g5 26 [.int .i64 (someV l : Int), .slice none 0 0, st.2.1], Ow.cells g4 26 [.int .i64 0, .slice none 0 0, .slice none 0 0], Ow.slice st.2.1 31 4 (qcells st.1 st.2.2), Ow.slice (.slice none 0 0) 60 5 []])
    (fun st => [mF st.1 st.2.2 (clx (someG l) st.1), ge h0, sI v0 l]) (fun st => st.1 ≤ someV l) (fun st => someV l - st.1) (0, .slice none 0 0, fun _ => m00) (Nat.zero_le _) ?_ (hG := .cons (W.Has.mFn _ _) sfA)
  rintro ⟨k, sv, ms⟩ hk
  simp only at hk ⊢
  by_cases c : k < someV l
  · have hak := atP_lt (l := l) (i := 1 + (k : Int)) (m := 7) (by decide)
    repeat' (first | refine gB ?_ | (refine gH ?_; intro g) | (refine gW ?_; intro v) | refine gY ?_ | refine d11 ?_ | fail)
    first | refine WL.callV (at_c v0 l (1 + (k : Int)) 7 hl (by decide)) ?_ | refine WD.callV (at_c v0 l (1 + (k : Int)) 7 hl (by decide)) ?_
    repeat' (first | refine gB ?_ | (refine gH ?_; intro g) | (refine gW ?_; intro v) | refine gY ?_ | refine d11 ?_ | fail)
    first | refine WL.callK (Zn.rof (atP l (1 + (k : Int)) 7 - 3) 1 (by show _ < 1000000000000000000; omega) (by decide)) ?_ | refine WD.callK (Zn.rof (atP l (1 + (k : Int)) 7 - 3) 1 (by show _ < 1000000000000000000; omega) (by decide)) ?_ | refine LO.callM (Zn.rof (atP l (1 + (k : Int)) 7 - 3) 1 (by show _ < 1000000000000000000; omega) (by decide)) ?_
    rintro _ _ _ ⟨m3, rfl, rfl, rfl⟩
    simp only [List.nil_append, List.cons_append]
    refine WD.fact (mF (k + 1) (upd ms k m3) (clx (someG l) (k + 1))) ((W.Has.mFapp (n := k) (ms := ms) (m := m3) (qf := clx _ k) hmA (show Has _ (isQ (qv m3) (someG l k)) from hmA)).mFsame fun j hj => clx_up (c := someG l) j) ?_
    repeat' (first | refine gB ?_ | (refine gH ?_; intro g) | (refine gW ?_; intro v) | refine gY ?_ | refine d11 ?_ | fail)
    exact LoopEnd.mk (k + 1, _, _) (by show k + 1 ≤ someV l; omega) (by show someV l - (k + 1) < someV l - k; omega)
  · obtain rfl : k = someV l := by omega
    refine WC.freezeF sv (someV l) ms (someG l) (by repeat (first | exact Sel.head | apply Sel.tail)) (W.Has.mFsame (qf := clx (someG l) (someV l)) hmA fun j hj => by unfold clx; rw [if_pos hj]) ?_
    have hnI : min most (l.length - 4) ≤ most := Nat.min_le_left _ _
    repeat' (first | refine gB ?_ | (refine gH ?_; intro g) | (refine gW ?_; intro v) | refine gY ?_ | refine d11 ?_ | fail)
    refine WC.lp (σ := Nat × MS) (fun st => [(7, .int .i64 ((4 + st.1 : Nat) : Int)), (5, ptr g5), (4, ptr g4), (0, v0), (1, .int .i64 (most : Int))])
      (fun st => [Ow.cells g5 26 [.int .i64 (someV l : Int), st.2.sv, sv], Ow.cells g4 26 [.int .i64 0, .slice none 0 0, .slice none 0 0], Ow.slice st.2.sv 60 5 (lncells st.1 st.2.M)])
      (fun st => [lnQ st.2.M (someV l) (((l.drop 4).take st.1).map (someLn (someV l))), fF sv (someV l) ms (someG l), ge h0, sI v0 l]) (fun st => st.1 ≤ min most (l.length - 4)) (fun st => min most (l.length - 4) - st.1) (0, ⟨.slice none 0 0, Pm.no⟩) (Nat.zero_le _) ?_ (hG := .cons W.Has.lnn sfA)
    rintro ⟨i, so, N⟩ hi
    simp only at hi ⊢
    have hll : (((l.drop 4).take i).map (someLn (someV l))).length = i := by
      rw [List.length_map, List.length_take, List.length_drop]; omega
    by_cases c : i < min most (l.length - 4)
    · have c1 : 4 + i < l.length := by omega
      have c2 : i < most := by omega
      have hst := some_take (v := someV l) c1
      have hn := someN_le (l.getD (4 + i) 0)
      refine WC.addNil 31 4 ?_
      repeat' (first | refine gB ?_ | (refine gH ?_; intro g) | (refine gW ?_; intro v) | refine gY ?_ | refine d11 ?_ | fail)
      first | refine WL.callV (around_c (l.getD (4 + i) 0) 1073741824 (getD_i64 hl _) (by decide)) ?_ | refine WD.callV (around_c (l.getD (4 + i) 0) 1073741824 (getD_i64 hl _) (by decide)) ?_
      rw [show around (l.getD (4 + i) 0) 1073741824 = someN (l.getD (4 + i) 0) from rfl]
      repeat' (first | refine gB ?_ | (refine gH ?_; intro g) | (refine gW ?_; intro v) | refine gY ?_ | refine d11 ?_ | fail)
      generalize hnn : someN (l.getD (4 + i) 0) = n at *
      first | refine WL.callK (Zn.rof (n % 19 - 6) (1 + n / 19 % 3) (by show _ < 1000000000000000000; omega) (by show _ < 1000000000000000000; omega)) ?_ | refine WD.callK (Zn.rof (n % 19 - 6) (1 + n / 19 % 3) (by show _ < 1000000000000000000; omega) (by show _ < 1000000000000000000; omega)) ?_ | refine LO.callM (Zn.rof (n % 19 - 6) (1 + n / 19 % 3) (by show _ < 1000000000000000000; omega) (by show _ < 1000000000000000000; omega)) ?_
      rintro _ _ _ ⟨mb, rfl, rfl, rfl⟩
      simp only [List.nil_append, List.cons_append]
      refine WL.fact' (isQ (qv mb) (someB n)) hmA ?_
      repeat' (first | refine gB ?_ | (refine gH ?_; intro g) | (refine gW ?_; intro v) | refine gY ?_ | refine d11 ?_ | fail)
      revert g; intro g9
      refine WC.lp (σ := Nat × Value × (Nat → QM)) (fun st => [(10, .int .i64 (st.1 : Int)), (8, .int .i64 (someD n st.1)), (9, ptr g9), (7, .int .i64 ((4 + i : Nat) : Int)), (5, ptr g5), (4, ptr g4), (0, v0), (1, .int .i64 (most : Int))])
        (fun st => [Ow.cells g9 60 (st.2.1 :: qcs mb), Ow.slice st.2.1 31 4 (qcells st.1 st.2.2), Ow.cells g5 26 [.int .i64 (someV l : Int), so, sv], Ow.cells g4 26 [.int .i64 0, .slice none 0 0, .slice none 0 0], Ow.slice so 60 5 (lncells i N)])
        (fun st => [mF st.1 st.2.2 (clx (someA n) st.1), isQ (qv mb) (someB n), lnQ N (someV l) (((l.drop 4).take i).map (someLn (someV l))), fF sv (someV l) ms (someG l), ge h0, sI v0 l]) (fun st => st.1 ≤ someV l) (fun st => someV l - st.1) (0, .slice none 0 0, fun _ => m00) (Nat.zero_le _) ?_ (hG := .cons (W.Has.mFn _ _) sfA)
      rintro ⟨k, sa, ma⟩ hk
      simp only at hk ⊢
      have hd := someD_le hn.1 hn.2 k
      by_cases ck : k < someV l
      · have ht := @tabl_le (someD n k % 9).toNat
        repeat' (first | refine gB ?_ | (refine gH ?_; intro g) | (refine gW ?_; intro v) | refine gY ?_ | refine d11 ?_ | fail)
        refine WD.perm (Ow.slice v 3 1 (ints tabl) :: _) (List.Perm.refl _) ?_
        have htl : (tabl.length : Int) = 9 := rfl
        have htn : tabl.length = 9 := rfl
        repeat' (first | refine gB ?_ | (refine gH ?_; intro g) | (refine gW ?_; intro v) | refine gY ?_ | refine d11 ?_ | fail)
        first | refine WL.callK (Zn.rof (tabl.getD (someD n k % 9).toNat 0) (1 + someD n k / 9 % 2) (by show _ < 1000000000000000000; omega) (by show _ < 1000000000000000000; omega)) ?_ | refine WD.callK (Zn.rof (tabl.getD (someD n k % 9).toNat 0) (1 + someD n k / 9 % 2) (by show _ < 1000000000000000000; omega) (by show _ < 1000000000000000000; omega)) ?_ | refine LO.callM (Zn.rof (tabl.getD (someD n k % 9).toNat 0) (1 + someD n k / 9 % 2) (by show _ < 1000000000000000000; omega) (by show _ < 1000000000000000000; omega)) ?_
        rintro _ _ _ ⟨m3, rfl, rfl, rfl⟩
        simp only [List.nil_append, List.cons_append]
        refine WD.fact (mF (k + 1) (upd ma k m3) (clx (someA n) (k + 1))) ((W.Has.mFapp (n := k) (ms := ma) (m := m3) (qf := clx _ k) hmA (show Has _ (isQ (qv m3) (someA n k)) from hmA)).mFsame fun j hj => clx_up (c := someA n) j) ?_
        repeat' (first | refine gB ?_ | (refine gH ?_; intro g) | (refine gW ?_; intro v) | refine gY ?_ | refine d11 ?_ | fail)
        exact LoopEnd.mk (k + 1, _, _) (by show k + 1 ≤ someV l; omega) (by show someV l - (k + 1) < someV l - k; omega)
      · obtain rfl : k = someV l := by omega
        refine WC.freezeF sa (someV l) ma (X.co (someLn (someV l) (l.getD (4 + i) 0))) (by repeat (first | exact Sel.head | apply Sel.tail)) (W.Has.mFsame (qf := clx (someA n) (someV l)) hmA fun j hj => by rw [someLn_co hj, hnn]; unfold clx; rw [if_pos hj]) ?_
        refine WC.fact (lnQ (N.app i sa ma mb) (someV l) (((l.drop 4).take (i + 1)).map (someLn (someV l)))) (by
          have h := fun F h1 h2 h3 => W.Has.lnapp (F := F) (M := N) (w := someV l) (L := ((l.drop 4).take i).map (someLn (someV l))) (a := sa) (ma := ma) (b := mb) h1 (someLn (someV l) (l.getD (4 + i) 0)) h2 h3
          rw [hll] at h
          rw [hst]
          refine h _ hmA hmA ?_
          show Has _ (isQ (qv mb) (someB (someN (l.getD (4 + i) 0))))
          rw [hnn]; exact hmA) ?_
        repeat' (first | refine gB ?_ | (refine gH ?_; intro g) | (refine gW ?_; intro v) | refine gY ?_ | refine d11 ?_ | fail)
        exact LoopEnd.mk (i + 1, ⟨_, _⟩) (by show i + 1 ≤ min most (l.length - 4); omega) (by show min most (l.length - 4) - (i + 1) < min most (l.length - 4) - i; omega)
    · obtain rfl : i = min most (l.length - 4) := by omega
      have hS : ((l.drop 4).take (min most (l.length - 4))).map (someLn (someV l)) = someL l most := by
        unfold someL
        congr 1
        rw [List.take_eq_take_iff, List.length_drop]; omega
      have hi2 : (someL l most).length = min most (l.length - 4) := by rw [← hS]; exact hll
      rw [hS, ← hi2]
      clear hll hS
      refine WC.freezeLn so N (someV l) (someL l most) (by repeat (first | exact Sel.head | apply Sel.tail)) hmA ?_
      refine WC.fact (fP ((N.at so).wg sv ms) (someP l most)) (W.Has.lnp (W.Has.lnwg (M := N.at so) hmA) (show Has _ (fF sv (someV l) ms (someG l)) from hmA)) ?_
      by_cases c1 : 4 + (someL l most).length < l.length
      · have c2 : ¬ (someL l most).length < most := by omega
        repeat' (first | refine gB ?_ | (refine gH ?_; intro g) | (refine gW ?_; intro v) | refine gY ?_ | refine d11 ?_ | fail)
        exact WC.ret (Fin.p [] [fP ((N.at so).wg sv ms) (someP l most)] (ResE.cV rfl rfl meA T.r26 rfl) meA (List.nil_sublist _) haA ⟨(N.at so).wg sv ms, rfl, rfl, rfl⟩)
      · repeat' (first | refine gB ?_ | (refine gH ?_; intro g) | (refine gW ?_; intro v) | refine gY ?_ | refine d11 ?_ | fail)
        exact WC.ret (Fin.p [] [fP ((N.at so).wg sv ms) (someP l most)] (ResE.cV rfl rfl meA T.r26 rfl) meA (List.nil_sublist _) haA ⟨(N.at so).wg sv ms, rfl, rfl, rfl⟩)
end U
end Go.Proofs.YtaongbhamadlkaaGreat
namespace Go.Proofs.YtaongbhamadlkaaGreat
open W Go.RowKit
theorem fst_none {p : Nat → Bool} {n : Nat} : (X.fstT p n 0).isSome = false ↔ ∀ j, j < n → p j = false := by
  rcases X.fstT_spec p n 0 with ⟨h1, h2⟩ | ⟨j, h1, _, h3, h4, _⟩
  · rw [h1]
    exact ⟨fun _ j hj => h2 j (by omega) (by omega), fun _ => rfl⟩
  · rw [h1]
    exact ⟨fun h => (by cases h), fun h => (by rw [h j (by omega)] at h4; cases h4)⟩
section
variable {p : X.Lp} {xn yn : Nat} {x y g : Nat → Rat} {z : Rat} {op : Bool}
theorem holdP_iff : holdP p xn x op = true ↔ xn = p.v ∧ ∀ r, r < p.m → (X.sm p.v fun k => p.a r k * x k) ≤ most p op r := by
  unfold holdP
  rw [Bool.and_eq_true, decide_eq_true_eq, Bool.not_eq_true', fst_none]
  constructor
  · rintro ⟨h1, h2⟩
    exact ⟨h1, fun r hr => by have := of_decide_eq_false (h2 r hr); grind⟩
  · rintro ⟨h1, h2⟩
    exact ⟨h1, fun r hr => decide_eq_false (by have := h2 r hr; grind)⟩
theorem sumsOk_iff : sumsOk p yn y g = true ↔ yn = p.m ∧ (∀ r, r < p.m → 0 ≤ y r) ∧ ∀ k, k < p.v → (X.sm p.m fun r => y r * p.a r k) = g k := by
  have e : ∀ k, (X.sm p.m fun r => p.a r k * y r) = X.sm p.m fun r => y r * p.a r k := fun k => X.sm_congr fun r _ => Rat.mul_comm _ _
  unfold sumsOk
  rw [Bool.and_eq_true, Bool.and_eq_true, decide_eq_true_eq, Bool.not_eq_true', Bool.not_eq_true', fst_none, fst_none]
  constructor
  · rintro ⟨⟨h1, h2⟩, h3⟩
    subst h1
    exact ⟨rfl, fun r hr => by have := of_decide_eq_false (h2 r hr); grind, fun k hk => by have := of_decide_eq_false (h3 k hk); rw [← e]; grind⟩
  · rintro ⟨h1, h2, h3⟩
    subst h1
    exact ⟨⟨rfl, fun r hr => decide_eq_false (by have := h2 r hr; grind)⟩, fun k hk => decide_eq_false (by rw [e, h3 k hk]; simp)⟩
theorem sumsV_eq : sumsV p y = X.sm p.m fun r => y r * p.b r := X.sm_congr fun r _ => Rat.mul_comm _ _
theorem ans_right {kind : Nat} (h : AnsP p kind xn yn x y z) : rightP p kind xn yn x y z = true := by
  rcases h with ⟨rfl, rfl, rfl, rfl, h1, h2, h3⟩ | ⟨rfl, rfl, rfl, h1, h2, h3, h4, h5⟩ | ⟨rfl, rfl, rfl, rfl, h1, h2, h3⟩
  · show (sumsOk p p.m y (fun _ => 0) && decide (0 = 0) && decide (sumsV p y < 0) && decide ((0 : Rat) = 0)) = true
    rw [sumsOk_iff.2 ⟨rfl, h1, h2⟩, sumsV_eq, decide_eq_true h3]; rfl
  · show (sumsOk p p.m y p.g && holdP p p.v x false && decide (sumsV p y = z) && decide ((X.sm p.v fun k => p.g k * x k) = z)) = true
    rw [sumsOk_iff.2 ⟨rfl, h2, h3⟩, (holdP_iff (p := p) (op := false)).2 ⟨rfl, h1⟩, sumsV_eq, decide_eq_true h4, decide_eq_true h5]; rfl
  · show (holdP p p.v x false && holdP p p.v y true && decide (0 < X.sm p.v fun k => p.g k * y k) && decide ((0 : Rat) = 0)) = true
    rw [(holdP_iff (p := p) (op := false)).2 ⟨rfl, h1⟩, (holdP_iff (p := p) (op := true)).2 ⟨rfl, fun r hr => h2 r hr⟩, decide_eq_true h3]; rfl
theorem right_ans {kind : Int} (h : rightP p kind xn yn x y z = true) : ∃ n : Nat, kind = n ∧ AnsP p n xn yn x y z := by
  unfold rightP at h
  split at h
  · rename_i hk
    simp only [Bool.and_eq_true, decide_eq_true_eq] at h
    obtain ⟨⟨⟨h1, h2⟩, h3⟩, h4⟩ := h
    obtain ⟨a1, a2, a3⟩ := sumsOk_iff.1 h1
    obtain ⟨b1, b2⟩ := holdP_iff.1 h2
    rw [sumsV_eq] at h3
    exact ⟨0, hk, .inr (.inl ⟨rfl, b1, a1, b2, a2, a3, h3, h4⟩)⟩
  · split at h
    · rename_i _ hk
      simp only [Bool.and_eq_true, decide_eq_true_eq] at h
      obtain ⟨⟨⟨h1, h2⟩, h3⟩, h4⟩ := h
      obtain ⟨a1, a2, a3⟩ := sumsOk_iff.1 h1
      rw [sumsV_eq] at h3
      exact ⟨1, hk, .inl ⟨rfl, h2, a1, h4, a2, a3, h3⟩⟩
    · split at h
      · rename_i _ _ hk
        simp only [Bool.and_eq_true, decide_eq_true_eq] at h
        obtain ⟨⟨⟨h1, h2⟩, h3⟩, h4⟩ := h
        obtain ⟨b1, b2⟩ := holdP_iff.1 h1
        obtain ⟨c1, c2⟩ := holdP_iff.1 h2
        exact ⟨2, hk, .inr (.inr ⟨rfl, b1, c1, h4, b2, c2, h3⟩)⟩
      · cases h
theorem right_sem {kind : Int} (h : rightP p kind xn yn x y z = true) : X.Sem p kind z := by
  obtain ⟨n, rfl, h2⟩ := right_ans h
  exact h2.sem
end
def exL1 : List X.Ln := [([1, 0], 2), ([0, 1], 3), ([1, 1], 4)]
def exL2 : List X.Ln := exL1 ++ [([-1, 0], -3)]
def exL3 : List X.Ln := [([0, 1], 3)]
def exG1 (_ : Nat) : Rat := 1
def exG3 (k : Nat) : Rat := if k = 0 then 1 else -1
theorem lt3 {P : Nat → Prop} {n : Nat} (h : ∀ r : Fin n, P r.1) : ∀ r, r < n → P r := fun r hr => h ⟨r, hr⟩
theorem ex1 : X.Sem (X.lpOf 2 exL1 exG1) 0 4 := X.Sem.opt (x := fun k => if k = 0 then 1 else 3) (y := fun k => if k = 2 then 1 else 0)
  ⟨lt3 (n := 3) (by decide +kernel), lt3 (n := 3) (by decide +kernel), lt3 (n := 2) (by decide +kernel), by decide +kernel, by decide +kernel⟩
theorem ex2 : X.Sem (X.lpOf 2 exL2 exG1) 1 0 := X.Sem.inf (y := fun k => if k = 0 then 1 else if k = 3 then 1 else 0)
  ⟨lt3 (n := 4) (by decide +kernel), lt3 (n := 2) (by decide +kernel), by decide +kernel⟩
theorem ex3 : X.Sem (X.lpOf 2 exL3 exG3) 2 0 := X.Sem.unb (x := fun _ => 0) (y := fun k => if k = 0 then 1 else 0)
  ⟨lt3 (n := 1) (by decide +kernel), lt3 (n := 1) (by decide +kernel), by decide +kernel⟩
theorem ex4 : corS 2 exL2 [4, 5, 6, 1] = ([1, 4], 0) := by
  have h : coreLs [4, 5, 6, 1] = [1, 4, 5, 6] := by
    unfold coreLs srt
    simp [List.mergeSort, List.MergeSort.Internal.splitInTwo, List.merge]
    decide +kernel
  unfold corS
  rw [h]
  decide +kernel
def smallB (q : Rat) : Bool := decide (q.num.natAbs < 1000000000) && decide (q.den < 1000000000)
def lsqB (w : Nat) (L : List X.Ln) : Bool := L.all fun c => decide (c.1.length = w) && ((List.range w).all fun k => smallB (X.co c k)) && smallB c.2
theorem sq_small {q : Rat} (h : smallB q = true) : Sq 1 q := by
  unfold smallB at h
  rw [Bool.and_eq_true, decide_eq_true_eq, decide_eq_true_eq] at h
  exact ⟨digs_len_le (k := 1) (by omega), digs_len_le (k := 1) (by omega)⟩
theorem LSq.of {w : Nat} {L : List X.Ln} (h : lsqB w L = true) : LSq 1 w L := fun c hc => by
  have := List.all_eq_true.1 h c hc
  rw [Bool.and_eq_true, Bool.and_eq_true, decide_eq_true_eq] at this
  exact ⟨this.1.1, fun k hk => sq_small (List.all_eq_true.1 this.1.2 k (List.mem_range.2 hk)), sq_small this.2⟩
theorem exL1_sq : LSq 1 2 exL1 := .of (by decide +kernel)
theorem exL2_sq : LSq 1 2 exL2 := .of (by decide +kernel)
theorem exL3_sq : LSq 1 2 exL3 := .of (by decide +kernel)
theorem exG1_sq (k : Nat) : Sq 1 (exG1 k) := X.sq_one
theorem exG3_sq (k : Nat) : Sq 1 (exG3 k) := by
  unfold exG3; split
  · exact X.sq_one
  · exact X.sq_one.neg
theorem exFits : Fits 2 4 1 := ⟨by decide +kernel, by decide +kernel, by decide, by decide, by decide⟩
end Go.Proofs.YtaongbhamadlkaaGreat
namespace Go.Proofs.YtaongbhamadlkaaGreat
open W Go.RowKit
def IsWr : RPost := fun v B G => ∃ (M : Pm) (vars : Int) (m gn : Nat) (ln : Nat → Nat) (a : Nat → Nat → Rat) (b gq : Nat → Rat) (E : Int), v = .tuple #[pgv M vars, .int .i64 E] ∧ B = [] ∧ G = [fPg M m gn ln a b gq] ∧ vldP vars m gn ln = E ∧ (E = 1 ∨ E = 4)
theorem vld_goal {v m gn : Nat} {ln : Nat → Nat} (hv : v ≤ 48) (hm : m ≤ 128) (h : gn ≠ v) : vldP v m gn ln = 1 := by
  unfold vldP
  rw [if_neg (by omega), if_pos (.inr (.inl (by omega)))]
theorem vld_line {v m gn i : Nat} {ln : Nat → Nat} (hv : v ≤ 48) (hm : m ≤ 128) (hi : i < m) (h : ln i ≠ v) : vldP v m gn ln = 1 := by
  unfold vldP
  rw [if_neg (by omega)]
  refine if_pos (.inr (.inr ?_))
  rcases X.fstT_spec (fun i => decide ((ln i : Int) ≠ v)) m 0 with ⟨h1, h2⟩ | ⟨j, h1, _⟩
  · have := of_decide_eq_false (h2 i (by omega) (by omega))
    omega
  · rw [h1]; rfl
theorem has_pg {F : List Fct} {M : Pm} {m gn : Nat} {ln : Nat → Nat} {a : Nat → Nat → Rat} {b g : Nat → Rat} (h1 : Has F (slC M.lv m 5 (pcell M.av M.mb))) (h2 : ∀ i, i < m → Has F (fF (M.av i) (ln i) (M.ma i) (a i))) (h3 : Has F (mF m M.mb b)) (h4 : Has F (fF M.gv gn M.mg g)) : Has F (fPg M m gn ln a b g) := fun p hp => ⟨h1 p hp, fun i hi => h2 i hi p hp, h3 p hp, h4 p hp⟩
theorem slC_nil {F : List Fct} {f : Nat → Value} {sz : Nat} : Has F (slC (.slice none 0 0) 0 sz f) := fun p hp => ⟨none, 0, rfl, Nat.le_refl _, by unfold maxLen; omega, .inl ⟨rfl, rfl, rfl⟩⟩
namespace U
open Z
attribute [local irreducible] WC WL WD YO LO LoopEnd W.Fin Scalar SliceT FieldAt Row ArrT AllocT KnS Has W.One SrcE IntT
set_option maxHeartbeats 8000000 in
set_option maxRecDepth 60000 in
theorem wrong_c (M : Pm) (vn : Nat) (L : List X.Ln) (gf : Nat → Rat) (how : Int) (hh : I64 how) (hv : vn ≤ 48) (hv0 : 1 ≤ vn) (hm : L.length ≤ 100) : FnB Tryz.prog 14 [pgv M vn, .int .i64 how] [] [fP M (X.lpOf vn L gf)] IsWr := by
  refine fn_of [(0, (pgv M vn)), (1, (.int .i64 how))] 40 Tryz.func14 rfl Tryz.ntmps14 (by kernel_rfl) rfl suA fun h0 => ?_
  have hr := around_lt (n := how) (m := 5) (by decide)
  refine WC.fact (fLn M vn L) (W.Has.pL (g := gf) hmA) ?_
  refine WC.fact (fF M.gv vn M.mg gf) (W.Has.pG (L := L) hmA) ?_
  refine WC.fact (isQ (qv m00) 0) hasQ0 ?_
  refine WC.fact (fF (.slice none 0 0) 0 (fun _ => m00) (fun _ => 0)) (has_nil0F _ _) ?_
  repeat' (first | refine gA ?_ | (refine goG ?_; intro g) | (refine goV ?_; intro v))
  first | refine WL.callV (around_c how 5 hh (by decide)) ?_ | refine WD.callV (around_c how 5 hh (by decide)) ?_
  by_cases c0 : around how 5 = 0
  · repeat' (first | refine gA ?_ | (refine goG ?_; intro g) | (refine goV ?_; intro v))
    refine WC.freezeF v (vn + 1) (upd M.mg vn m00) (upd gf vn 0) (by repeat (first | exact Sel.head | apply Sel.tail)) (W.Has.mFapp (W.Has.fm (v := M.gv) (ms := M.mg) hmA) hmA) ?_
    refine WC.ret ?_
    exact Fin.p [] [fPg (M.wg v (upd M.mg vn m00)) L.length (vn + 1) (fun _ => vn) (X.ca L) (X.cb L) (upd gf vn 0)] (ResE.cT rfl rfl meA T.r26 rfl rfl) meA (List.nil_sublist _)
      (.cons (has_pg (W.Has.lns (M := M) (w := vn) hmA) (fun i hi => W.Has.lna (W.Has.lnq (M := M) (w := vn) hmA) hi) (W.Has.lnbs (W.Has.lnq (M := M) (w := vn) hmA)) (show Has _ (fF v (vn + 1) _ _) from hmA)) .nil) ⟨_, vn, _, _, _, _, _, _, 1, rfl, rfl, rfl, vld_goal hv (by omega) (by omega), .inl rfl⟩
  by_cases c1 : around how 5 = 1
  · repeat' (first | refine gA ?_ | (refine goG ?_; intro g) | (refine goV ?_; intro v))
    refine WC.freezeLs v (M.app L.length (.slice none 0 0) (fun _ => m00) m00) (L.length + 1) (by repeat (first | exact Sel.head | apply Sel.tail)) ?_
    refine WC.ret ?_
    exact Fin.p [] [fPg ((M.app L.length (.slice none 0 0) (fun _ => m00) m00).at v) (L.length + 1) vn (fun i => if i < L.length then vn else 0) (upd (X.ca L) L.length fun _ => 0) (upd (X.cb L) L.length 0) gf] (ResE.cT rfl rfl meA T.r26 rfl rfl) meA (List.nil_sublist _)
      (.cons (has_pg (show Has _ (slC v (L.length + 1) 5 _) from hmA) (fun i hi => by
        by_cases e : i < L.length
        · show Has _ (fF (upd M.av L.length _ i) (if i < L.length then vn else 0) (upd M.ma L.length _ i) (upd (X.ca L) L.length _ i))
          rw [upd_ne (by omega), upd_ne (by omega), upd_ne (by omega), if_pos e]
          exact W.Has.lna (W.Has.lnq (M := M) (w := vn) hmA) e
        · obtain rfl : i = L.length := by omega
          show Has _ (fF (upd M.av L.length _ L.length) (if L.length < L.length then vn else 0) (upd M.ma L.length _ L.length) (upd (X.ca L) L.length _ L.length))
          rw [upd_at, upd_at, upd_at, if_neg e]; exact hmA) (W.Has.mFapp (W.Has.lnbs (W.Has.lnq (M := M) (w := vn) hmA)) hasQ0) (show Has _ (fF M.gv vn M.mg gf) from hmA)) .nil)
      ⟨_, vn, _, _, _, _, _, _, 1, rfl, rfl, rfl, vld_line (i := L.length) hv (by omega) (by omega) (by rw [if_neg (by omega)]; omega), .inl rfl⟩
  by_cases c2 : around how 5 = 2
  · repeat' (first | refine gA ?_ | (refine goG ?_; intro g) | (refine goV ?_; intro v))
    refine WC.ret ?_
    exact Fin.p [] [fPg Pm.no 0 0 (fun _ => 0) (fun _ _ => 0) (fun _ => 0) (fun _ => 0)] (ResE.cT rfl rfl meA T.r26 rfl rfl) meA (List.nil_sublist _) (.cons (has_pg slC_nil (fun i hi => absurd hi (by omega)) (W.Has.mFn _ _) (has_nil0F _ _)) .nil) ⟨Pm.no, -1, 0, 0, _, _, _, _, 1, rfl, rfl, rfl, rfl, .inl rfl⟩
  by_cases c3 : around how 5 = 3
  · repeat' (first | refine gA ?_ | (refine goG ?_; intro g) | (refine goV ?_; intro v))
    refine WC.ret ?_
    exact Fin.p [] [fPg Pm.no 0 0 (fun _ => 0) (fun _ _ => 0) (fun _ => 0) (fun _ => 0)] (ResE.cT rfl rfl meA T.r26 rfl rfl) meA (List.nil_sublist _) (.cons (has_pg slC_nil (fun i hi => absurd hi (by omega)) (W.Has.mFn _ _) (has_nil0F _ _)) .nil) ⟨Pm.no, 49, 0, 0, _, _, _, _, 4, rfl, rfl, rfl, rfl, .inr rfl⟩
  · repeat' (first | refine gA ?_ | (refine goG ?_; intro g) | (refine goV ?_; intro v))
    refine WL.l rfl rfl (LO.makeLn (n := 129) rfl rfl (NatI.cast 129) (by decide) fun v => ?_)
    repeat' (first | refine gA ?_ | (refine goG ?_; intro g) | (refine goV ?_; intro v))
    refine WC.freezeLs v Pm.no 129 (by repeat (first | exact Sel.head | apply Sel.tail)) ?_
    refine WC.ret ?_
    exact Fin.p [] [fPg (Pm.no.at v) 129 0 (fun _ => 0) (fun _ _ => 0) (fun _ => 0) (fun _ => 0)] (ResE.cT rfl rfl meA T.r26 rfl rfl) meA (List.nil_sublist _) (.cons (has_pg (show Has _ (slC v 129 5 _) from hmA) (fun i hi => has_nil0F _ _) (W.Has.mF0 _) (has_nil0F _ _)) .nil) ⟨Pm.no.at v, -3, 129, 0, _, _, _, _, 4, rfl, rfl, rfl, rfl, .inr rfl⟩
end U
end Go.Proofs.YtaongbhamadlkaaGreat
namespace Go.Proofs.YtaongbhamadlkaaGreat
open W Go.RowKit
theorem v3 {P : Nat → Prop} {v : Nat} (h : 1 ≤ v ∧ v ≤ 3) (h1 : P 1) (h2 : P 2) (h3 : P 3) : P v := by
  match v, h with
  | 1, _ => exact h1
  | 2, _ => exact h2
  | 3, _ => exact h3
theorem someFits (l : List Int) : Fits (someV l) 6 1 := v3 (P := fun v => Fits v 6 1) (someV_le l) ⟨by decide +kernel, by decide +kernel, by decide, by decide, by decide⟩ ⟨by decide +kernel, by decide +kernel, by decide, by decide, by decide⟩ ⟨by decide +kernel, by decide +kernel, by decide, by decide, by decide⟩
theorem FMok.le {w n n' K : Nat} (h : FMok w n K) (hn : n' ≤ n) : FMok w n' K := ⟨fun k hk => Nat.le_trans (X.nbs_mono hn k) (h.n k hk), h.k⟩
theorem fin_all {n : Nat} {P : Nat → Prop} (h : ∀ r : Fin (n + 1), P r.1) : ∀ k, k ≤ n → P k := fun k hk => h ⟨k, by omega⟩
theorem someFM (l : List Int) : FMok (someV l) 7 1 := v3 (P := fun v => FMok v 7 1) (someV_le l) ⟨fin_all (by decide +kernel), by decide +kernel⟩ ⟨fin_all (by decide +kernel), by decide +kernel⟩ ⟨fin_all (by decide +kernel), by decide +kernel⟩
end Go.Proofs.YtaongbhamadlkaaGreat
namespace Go.Proofs.YtaongbhamadlkaaGreat
open W Go.RowKit
theorem selT_mem {L : List X.Ln} {p : Nat → Bool} {i : Nat} {c : X.Ln} : c ∈ selT L p i ↔ ∃ j, j < i ∧ p j = true ∧ L.getD j ([], 0) = c := by
  unfold selT
  rw [List.mem_map]
  constructor
  · rintro ⟨j, hj, rfl⟩
    obtain ⟨h1, h2⟩ := List.mem_filter.1 hj
    exact ⟨j, List.mem_range.1 h1, h2, rfl⟩
  · rintro ⟨j, h1, h2, rfl⟩
    exact ⟨j, List.mem_filter.2 ⟨List.mem_range.2 h1, h2⟩, rfl⟩
theorem selT_w {v : Nat} {L : List X.Ln} {p : Nat → Bool} (hw : ∀ c ∈ L, c.1.length = v) : ∀ c ∈ selT L p L.length, c.1.length = v := fun c hc => by
  obtain ⟨j, h1, _, rfl⟩ := selT_mem.1 hc
  exact hw _ (getD_ln h1)
theorem contP_mono {v : Nat} {L : List X.Ln} {gs l l' : List Int} (hw : ∀ c ∈ L, c.1.length = v) (h : ∀ x ∈ l, x ∈ l') (hc : contP v L gs l = true) : contP v L gs l' = true := by
  unfold contP at *
  rw [Bool.not_eq_true'] at *
  rw [Bool.eq_false_iff] at *
  intro h2
  obtain ⟨x, hx⟩ := (X.feas_iff (selT_w hw)).1 h2
  refine hc ((X.feas_iff (selT_w hw)).2 ⟨x, fun c hc => ?_⟩)
  obtain ⟨j, h1, h3, rfl⟩ := selT_mem.1 hc
  refine hx _ (selT_mem.2 ⟨j, h1, decide_eq_true ?_, rfl⟩)
  rcases of_decide_eq_true h3 with h4 | h4
  · exact .inl h4
  · exact .inr (h _ h4)
theorem filter_ne {l : List Int} (h : l.Nodup) {k : Nat} (hk : k < l.length) : (l.filter fun x => !decide (x = l.getD k 0)) = l.take k ++ l.drop (k + 1) := by
  have e : l = l.take k ++ l.getD k 0 :: l.drop (k + 1) := by
    have : l.getD k 0 = l[k] := by simp [List.getD_eq_getElem?_getD, hk]
    rw [this, ← List.drop_eq_getElem_cons hk, List.take_append_drop]
  generalize l.getD k 0 = g at *
  generalize l.take k = a at *
  generalize l.drop (k + 1) = b at *
  subst e
  obtain ⟨h1, h2, h3⟩ := List.nodup_append.1 h
  obtain ⟨h4, h5⟩ := List.nodup_cons.1 h2
  rw [List.filter_append, List.filter_cons]
  simp only [decide_true, Bool.not_true, Bool.false_eq_true, if_false]
  rw [List.filter_eq_self.2 fun x hx => ?_, List.filter_eq_self.2 fun x hx => ?_]
  · have : x ≠ g := fun e => h4 (e ▸ hx)
    simp [this]
  · have : x ≠ g := h3 x hx g (List.mem_cons_self)
    simp [this]
section
variable {v : Nat} {L : List X.Ln} {gs : List Int}
theorem coreSt_sub (l : List Int) : ∀ list : List Int, (l.foldl (coreSt v L gs) list).Sublist list := by
  induction l with
  | nil => intro list; exact List.Sublist.refl _
  | cons a l ih =>
    intro list
    rw [List.foldl_cons]
    refine (ih _).trans ?_
    unfold coreSt
    split
    · exact List.filter_sublist
    · exact List.Sublist.refl _
theorem coreSt_yes (l : List Int) : ∀ list : List Int, contP v L gs list = true → contP v L gs (l.foldl (coreSt v L gs) list) = true := by
  induction l with
  | nil => intro list h; exact h
  | cons a l ih =>
    intro list h
    rw [List.foldl_cons]
    refine ih _ ?_
    unfold coreSt
    split
    · assumption
    · exact h
theorem coreSt_min (hw : ∀ c ∈ L, c.1.length = v) (l : List Int) : ∀ (list : List Int) (g : Int), g ∈ l → g ∈ l.foldl (coreSt v L gs) list → contP v L gs ((l.foldl (coreSt v L gs) list).filter fun x => !decide (x = g)) = false := by
  induction l with
  | nil => intro list g h; cases h
  | cons a l ih =>
    intro list g hg hf
    rw [List.foldl_cons] at hf ⊢
    rcases List.mem_cons.1 hg with rfl | hg
    · by_cases c : contP v L gs (list.filter fun x => !decide (x = g)) = true
      · rw [show coreSt v L gs list g = list.filter fun x => !decide (x = g) from if_pos c] at hf
        have := (coreSt_sub l _).subset hf
        simp at this
      · rw [show coreSt v L gs list g = list from if_neg c]
        rw [Bool.eq_false_iff]
        intro h
        refine c (contP_mono hw (fun x hx => ?_) h)
        rw [List.mem_filter] at hx ⊢
        exact ⟨(coreSt_sub l list).subset hx.1, hx.2⟩
    · exact ih _ g hg hf
theorem coreS_spec (hw : ∀ c ∈ L, c.1.length = v) (h : contP v L gs (coreLs gs) = true) : contP v L gs ((coreLs gs).foldl (coreSt v L gs) (coreLs gs)) = true ∧
    ∀ k, k < ((coreLs gs).foldl (coreSt v L gs) (coreLs gs)).length → contP v L gs (((coreLs gs).foldl (coreSt v L gs) (coreLs gs)).take k ++ ((coreLs gs).foldl (coreSt v L gs) (coreLs gs)).drop (k + 1)) = false := by
  refine ⟨coreSt_yes _ _ h, fun k hk => ?_⟩
  have hnd : ((coreLs gs).foldl (coreSt v L gs) (coreLs gs)).Nodup := ((coreLs_inc gs).1.imp (fun h => by omega)).sublist (coreSt_sub _ _)
  have hm : ((coreLs gs).foldl (coreSt v L gs) (coreLs gs)).getD k 0 ∈ (coreLs gs).foldl (coreSt v L gs) (coreLs gs) := mem_gD.2 ⟨k, hk, rfl⟩
  have := coreSt_min hw (coreLs gs) (coreLs gs) _ ((coreSt_sub _ _).subset hm) hm
  rwa [filter_ne hnd hk] at this
theorem corS_good (h : gs.length = L.length) (hg : ∀ x ∈ gs, -1 ≤ x) : corS v L gs = if contP v L gs (coreLs gs) = true then ((coreLs gs).foldl (coreSt v L gs) (coreLs gs), 0) else ([], 6) := if_pos ⟨h, by
  rw [List.any_eq_false]
  intro x hx h2
  have := hg x hx; have := of_decide_eq_true h2; omega⟩
theorem corS_long (h : gs.length ≠ L.length) : corS v L gs = ([], 1) := if_neg (fun c => h c.1)
theorem corS_low {x : Int} (h : x ∈ gs) (hx : x < -1) : corS v L gs = ([], 1) := if_neg (fun c => by
  have := List.any_eq_false.1 c.2 x h
  exact this (decide_eq_true hx))
theorem rcorS_eq : rcorS v L gs = if contP v L gs (coreLs gs) = true then ((coreLs gs).foldl (coreSt v L gs) (coreLs gs), true) else ([], false) := by
  unfold rcorS; rw [names_coreLs]
theorem cor_both (hw : ∀ c ∈ L, c.1.length = v) (h : gs.length = L.length) (hg : ∀ x ∈ gs, -1 ≤ x) : ∃ C e b, corS v L gs = (C, e) ∧ rcorS v L gs = (C, b) ∧ C.length ≤ gs.length ∧
    (b = true → e = 0 ∧ contP v L gs C = true ∧ ∀ k, k < C.length → contP v L gs (C.take k ++ C.drop (k + 1)) = false) ∧ (b = false → e = 6 ∧ C = []) := by
  rw [corS_good h hg, rcorS_eq]
  by_cases c : contP v L gs (coreLs gs) = true
  · rw [if_pos c, if_pos c]
    obtain ⟨h1, h2⟩ := coreS_spec hw c
    exact ⟨_, _, _, rfl, rfl, Nat.le_trans (coreSt_len v L gs _ _) (coreLs_len gs), fun _ => ⟨rfl, h1, h2⟩, fun h => Bool.noConfusion h⟩
  · rw [if_neg c, if_neg c]
    exact ⟨_, _, _, rfl, rfl, Nat.zero_le _, fun h => Bool.noConfusion h, fun _ => ⟨rfl, rfl⟩⟩
theorem groups_ge (l : List Int) (m : Nat) : ∀ x ∈ groupsP l m, -1 ≤ x := fun x hx => by
  unfold groupsP at hx
  obtain ⟨i, _, rfl⟩ := List.mem_map.1 hx
  have := @atP_lt l (i : Int) 6 (by decide)
  omega
end
end Go.Proofs.YtaongbhamadlkaaGreat
namespace Go.Proofs.YtaongbhamadlkaaGreat
open W Go.RowKit
namespace U
open Z
attribute [local irreducible] WC WL WD YO LO LoopEnd W.Fin Scalar SliceT FieldAt Row ArrT AllocT KnS Has W.One SrcE IntT
theorem d5 {G G' : Prop} (h : G') (s : Bx G' → G := by
  intro h
  first | (apply WC.draw (id := 4) [0, 2, 7, 8, 9, 10, 11] (.held 0 (.held 2 (.more 1 (.more 3 (.loud 4 (.loud 5 (.loud 6 (.held 7 (.held 8 (.held 9 (.held 10 (.held 11 (.done))))))))) (.loud 4 (.loud 3 (.loud 5 (.loud 6 (.held 7 (.held 8 (.held 9 (.held 10 (.held 11 (.done))))))))))) (.loud 4 (.loud 1 (.loud 3 (.loud 5 (.loud 6 (.held 7 (.held 8 (.held 9 (.held 10 (.held 11 (.done)))))))))))))) mixed (by kernel_rfl)) | (apply WC.draw (id := 23) [1, 2, 3, 5, 6, 7, 8, 10] (.held 1 (.held 2 (.held 3 (.held 5 (.held 6 (.held 7 (.held 8 (.loud 0 (.loud 4 (.loud 9 (.held 10 (.done)))))))))))) mixed (by kernel_rfl)) | fail
  exact Bx.h h) : G := s ⟨h⟩
set_option maxHeartbeats 16000000 in
set_option maxRecDepth 60000 in
theorem coresLaw_h (hlv : FnB Tryz.prog 18 [] [] [] (IsV (.bool true))) (v0 v1 : Value) (l ml : List Int) (how : Int) (hl : ∀ x ∈ l, I64 x) (hml : ∀ x ∈ ml, I64 x) (hh : I64 how) :
    FnB Tryz.prog 5 [v0, v1, .int .i64 how] [] [sI v0 l, sI v1 ml] (IsV (.bool true)) := by
  refine fn_of [(0, v0), (1, v1), (2, (.int .i64 how))] 141 Tryz.func5 rfl Tryz.ntmps5 (by kernel_rfl) rfl suA fun h0 => ?_
  have hV := someV_le l
  have hF := someFits l
  have hS := someL_sq l 6
  have hLn := someL_len l 6
  have hFM := (someFM l).le (show (someL l 6).length ≤ 7 by omega)
  repeat' (first | refine gM ?_ | (refine gI ?_; intro g) | (refine gU ?_; intro v) | refine gN ?_ ?_ | refine d5 ?_ | fail)
  refine WL.callK (some_c v0 l 6 hl (by decide)) ?_
  rintro _ _ _ ⟨M, rfl, rfl, rfl⟩
  simp only [List.nil_append, List.cons_append]
  rw [show (someP l 6).v = someV l from rfl, show someP l 6 = X.lpOf (someV l) (someL l 6) (someG l) from rfl]
  generalize someL l 6 = L at *
  generalize someG l = gf at *
  generalize someV l = vn at *
  have hv48 := hF.v
  refine WL.fact' (fF M.gv vn M.mg gf) (W.Has.pG (L := L) hmA) ?_
  repeat' (first | refine gM ?_ | (refine gI ?_; intro g) | (refine gU ?_; intro v) | refine gN ?_ ?_ | refine d5 ?_ | fail)
  revert g; intro gp
  refine WL.callK (groups_c M vn L gf v1 ml hml (by omega)) ?_
  rintro ug _ _ ⟨rfl, rfl⟩
  simp only [List.nil_append, List.cons_append]
  have hgl := groupsP_len ml L.length
  have hge := groups_ge ml L.length
  generalize groupsP ml L.length = gs at *
  repeat' (first | refine gM ?_ | (refine gI ?_; intro g) | (refine gU ?_; intro v) | refine gN ?_ ?_ | refine d5 ?_ | fail)
  obtain ⟨C, ec, b, hcor, hrc, hCl, hbt, hbf⟩ := cor_both (gs := gs) hS.len hgl hge
  have hcc := core_c M 1 6 vn L gf gs ug hF hS hLn
  rw [hcor] at hcc
  refine WL.callK hcc ?_
  rintro _ _ _ ⟨uc, rfl, rfl, rfl⟩
  simp only [List.nil_append, List.cons_append]
  repeat' (first | refine gA ?_ | (refine goG ?_; intro g) | (refine goV ?_; intro v))
  refine WC.cutP (σ := Nat) (fun st => [(7, ptr st), (8, ug), (9, uc), (10, .int .i64 ec), (12, .int .i64 1), (6, .bool false), (1, v1), (2, .int .i64 how)])
    (fun st => [Ow.cells st 26 (pcs M vn)]) (fun _ => [sI uc C, sI ug gs, fP M (X.lpOf vn L gf), ge h0]) (fun _ => True) ?_ ?_
  · have hcl := core_c M 1 6 vn L gf (gs ++ [0])
    repeat' (first | refine gM ?_ | (refine gI ?_; intro g) | (refine gU ?_; intro v) | refine gN ?_ ?_ | refine d5 ?_ | fail)
    all_goals rw [show ([] ++ ints gs) ++ [Value.int .i64 0] = ints (gs ++ [0]) from by simp [ints]]
    all_goals refine WD.freezeI (l := gs ++ [0]) (v := v) (el := 3) (by repeat (first | exact Sel.head | apply Sel.tail)) ?_
    all_goals refine WD.callK (hcl v hF hS hLn) ?_
    all_goals rintro _ _ _ ⟨uc2, rfl, rfl, rfl⟩
    all_goals rw [corS_long (v := vn) (L := L) (gs := gs ++ [0]) (show (gs ++ [0]).length ≠ L.length by rw [List.length_append, List.length_singleton]; omega)]
    all_goals simp only [List.nil_append, List.cons_append]
    all_goals repeat' (first | refine gM ?_ | (refine gI ?_; intro g) | (refine gU ?_; intro v) | refine gN ?_ ?_ | refine d5 ?_ | fail)
    all_goals (apply Ex1; refine ⟨trivial, ?_, ?_, ?_⟩; (focus (repeat (first | exact Sub.nil _ | refine Sub.cons rfl ?_))); (focus (repeat (first | exact SubP.nil _ | (apply SubP.cons; (repeat (first | exact Rem.head | apply Rem.tail)))))); (focus (repeat (first | exact HasAll.nil | (apply HasAll.cons; exact hsA)))))
  rintro gp -
  refine WC.fact (fF M.gv vn M.mg gf) (W.Has.pG (L := L) hmA) ?_
  repeat' (first | refine gM ?_ | (refine gI ?_; intro g) | (refine gU ?_; intro v) | refine gN ?_ ?_ | refine d5 ?_ | fail)
  refine WL.callK (wrong_c M vn L gf how hh hF.v hV.1 (by omega)) ?_
  rintro _ _ _ ⟨Mw, vars, mw, gn, ln, aw, bw, gw, E, rfl, rfl, rfl, hE, hE2⟩
  simp only [List.nil_append, List.cons_append]
  refine WL.fact' (fF Mw.gv gn Mw.mg gw) (W.Has.pg (M := Mw) (m := mw) (gn := gn) (ln := ln) (a := aw) (b := bw) (g := gw) hmA) ?_
  repeat' (first | refine gM ?_ | (refine gI ?_; intro g) | (refine gU ?_; intro v) | refine gN ?_ ?_ | refine d5 ?_ | fail)
  refine WL.callK (core0_c Mw vars mw gn ln aw bw gw E ug gs hE (by omega)) ?_
  rintro _ _ _ ⟨uw, rfl, rfl, rfl⟩
  simp only [List.nil_append, List.cons_append]
  by_cases c0 : 0 < gs.length
  case' pos =>
    have hk0 := @around_lt how (gs.length : Int) (by omega)
    have hr9 := @around_lt how 9 (by decide)
    repeat' (first | refine gM ?_ | (refine gI ?_; intro g) | (refine gU ?_; intro v) | refine gN ?_ ?_ | refine d5 ?_ | fail)
    first | refine WL.callV (around_c how (gs.length : Int) hh (by omega)) ?_ | refine WD.callV (around_c how (gs.length : Int) hh (by omega)) ?_
    obtain ⟨k, hk⟩ : ∃ k : Nat, around how (gs.length : Int) = k := ⟨(around how (gs.length : Int)).toNat, by omega⟩
    rw [hk] at hk0 ⊢
    repeat' (first | refine gM ?_ | (refine gI ?_; intro g) | (refine gU ?_; intro v) | refine gN ?_ ?_ | refine d5 ?_ | fail)
    first | refine WL.callV (around_c how 9 hh (by decide)) ?_ | refine WD.callV (around_c how 9 hh (by decide)) ?_
    generalize around how 9 = r9 at *
    have hwr : corS vn L (gs.set k (-2 - r9)) = ([], 1) := corS_low (x := -2 - r9) (mem_gD.2 ⟨k, by rw [List.length_set]; omega, by simp [List.getD_eq_getElem?_getD, show k < gs.length by omega]⟩) (by omega)
    repeat' (first | refine gM ?_ | (refine gI ?_; intro g) | (refine gU ?_; intro v) | refine gN ?_ ?_ | refine d5 ?_ | fail)
    refine WL.freezeI (l := gs.set k (-2 - r9)) (v := v) (el := 3) (by repeat (first | exact Sel.head | apply Sel.tail)) ?_
    have hcw := core_c M 1 6 vn L gf (gs.set k (-2 - r9)) v hF hS hLn
    rw [hwr] at hcw
    refine WL.callK hcw ?_
    rintro _ _ _ ⟨u3, rfl, rfl, rfl⟩
    simp only [List.nil_append, List.cons_append]
  all_goals repeat' (first | refine gM ?_ | (refine gI ?_; intro g) | (refine gU ?_; intro v) | refine gN ?_ ?_ | refine d5 ?_ | fail)
  all_goals
    have hrr := rcore_c M 1 vn L gf gs ug (by omega) hFM hS hgl
    rw [hrc] at hrr
    refine WL.callK hrr ?_
    rintro _ _ _ ⟨ur, rfl, rfl, rfl⟩
    simp only [List.nil_append, List.cons_append]
    cases b with
    | false =>
      obtain ⟨rfl, hC⟩ := hbf rfl
      have hC0 : C.length = 0 := by rw [hC]; rfl
      repeat' (first | refine gM ?_ | (refine gI ?_; intro g) | (refine gU ?_; intro v) | refine gN ?_ ?_ | refine d5 ?_ | fail)
      first | refine WL.callV (hlv) ?_ | refine WD.callV (hlv) ?_
      repeat' (first | refine gM ?_ | (refine gI ?_; intro g) | (refine gU ?_; intro v) | refine gN ?_ ?_ | refine d5 ?_ | fail)
      exact WC.ret (Fin.v (ResE.t1 rfl rfl) meA rfl)
    | true =>
      obtain ⟨rfl, h2, h3⟩ := hbt rfl
      repeat' (first | refine gM ?_ | (refine gI ?_; intro g) | (refine gU ?_; intro v) | refine gN ?_ ?_ | refine d5 ?_ | fail)
      first | refine WL.callV (sameInts_c uc ur C C) ?_ | refine WD.callV (sameInts_c uc ur C C) ?_
      rw [decide_eq_true (rfl : C = C)]
      repeat' (first | refine gM ?_ | (refine gI ?_; intro g) | (refine gU ?_; intro v) | refine gN ?_ ?_ | refine d5 ?_ | fail)
      have hct := rcontradictory_c M 1 vn L gf gs C ug uc (by omega) hFM hS hgl
      rw [h2] at hct
      first | refine WL.callV (hct) ?_ | refine WD.callV (hct) ?_
      repeat' (first | refine gM ?_ | (refine gI ?_; intro g) | (refine gU ?_; intro v) | refine gN ?_ ?_ | refine d5 ?_ | fail)
      refine WC.lp (σ := Nat) (fun i => [(22, .int .i64 (i : Int)), (7, ptr gp), (8, ug), (9, uc), (6, .bool false)]) (fun _ => [Ow.cells gp 26 (pcs M vn)]) (fun _ => [sI uc C, sI ug gs, fP M (X.lpOf vn L gf), ge h0]) (fun i => i ≤ C.length) (fun i => C.length - i) 0 (Nat.zero_le _) ?_ suA slA sfA
      intro i hi
      by_cases ci : i < C.length
      · have h4 : (C.take i).length = i := by rw [List.length_take]; omega
        have h5 : (C.drop (i + 1)).length = C.length - (i + 1) := List.length_drop
        have hcd := h3 i ci
        refine WC.fact (sI (resl uc 0 i 1) (C.take i)) (W.Has.takeI hmA (by omega)) ?_
        refine WC.fact (sI (resl uc (i + 1) C.length 1) (C.drop (i + 1))) (W.Has.dropI hmA (by omega)) ?_
        repeat' (first | refine gM ?_ | (refine gI ?_; intro g) | (refine gU ?_; intro v) | refine gN ?_ ?_ | refine d5 ?_ | fail)
        all_goals (try rw [show ((i : Int) + 1) = ((i + 1 : Nat) : Int) from by omega])
        all_goals repeat' (first | refine gM ?_ | (refine gI ?_; intro g) | (refine gU ?_; intro v) | refine gN ?_ ?_ | refine d5 ?_ | fail)
        all_goals rw [show ([] ++ ints (C.take i)) ++ ints (C.drop (i + 1)) = ints (C.take i ++ C.drop (i + 1)) from by simp [ints]]
        all_goals refine WL.freezeI (l := C.take i ++ C.drop (i + 1)) (v := v) (el := 3) (by repeat (first | exact Sel.head | apply Sel.tail)) ?_
        all_goals have hcx := rcontradictory_c M 1 vn L gf gs (C.take i ++ C.drop (i + 1)) ug v (by omega) hFM hS hgl
        all_goals rw [hcd] at hcx
        all_goals first | refine WL.callV (hcx) ?_ | refine WD.callV (hcx) ?_
        all_goals repeat' (first | refine gM ?_ | (refine gI ?_; intro g) | (refine gU ?_; intro v) | refine gN ?_ ?_ | refine d5 ?_ | fail)
        all_goals exact LoopEnd.mk (i + 1) (by show i + 1 ≤ C.length; omega) (by show C.length - (i + 1) < C.length - i; omega) suA slA sfA
      · obtain rfl : i = C.length := by omega
        repeat' (first | refine gM ?_ | (refine gI ?_; intro g) | (refine gU ?_; intro v) | refine gN ?_ ?_ | refine d5 ?_ | fail)
        first | refine WL.callV (hlv) ?_ | refine WD.callV (hlv) ?_
        repeat' (first | refine gM ?_ | (refine gI ?_; intro g) | (refine gU ?_; intro v) | refine gN ?_ ?_ | refine d5 ?_ | fail)
        exact WC.ret (Fin.v (ResE.t1 rfl rfl) meA rfl)
end U
end Go.Proofs.YtaongbhamadlkaaGreat
