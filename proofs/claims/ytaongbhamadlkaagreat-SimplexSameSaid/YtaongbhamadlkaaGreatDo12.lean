/- Lemmas for the proof of a law: The law SimplexSame, walked. Conditions: none. -/
import Derived.Test.YtaongbhamadlkaaGreatDo11
set_option linter.unusedVariables false
set_option linter.unusedSimpArgs false
set_option linter.unusedSectionVars false
namespace Go.Proofs.YtaongbhamadlkaaGreat
open W Go.RowKit
theorem lnapp' {F : List Fct} {M : Pm} {w n : Nat} {L : List X.Ln} {a : Value} {ma : Nat → QM} {b : QM} (hn : L.length = n) (h : Has F (lnQ M w L)) (c : X.Ln) (h2 : Has F (fF a w ma (X.co c))) (h3 : Has F (isQ (qv b) c.2)) : Has F (lnQ (M.app n a ma b) w (L ++ [c])) := by
  subst hn; exact W.Has.lnapp h c h2 h3
theorem WC.cutN' {P : Program} {n : Nat} {x : Code} {e : Env} {bx : List Ow} {F : List Fct} {Q : Post} {σ : Type} (E : σ → Env) (B : σ → List Ow) (G : σ → List Fct) (I : σ → Prop)
    (h1 : WC P n x e bx F (thenQ (fun e' bx' F' => ∃ s, I s ∧ W.Sub (E s) e' ∧ SubP (B s) bx' ∧ HasAll F' (G s)) Q))
    (h2 : ∀ s, I s → Q .normal (E s) (B s) (G s)) : WC P n x e bx F Q := fun fr w0 a w hk hr ho => wp_mono (h1 fr w0 a w hk hr ho) fun ex a' w' hq => by
  cases ex <;> first | exact hq | skip
  obtain ⟨e1, b1, F1, k1, k2, k3, s, h3, h4, h5, h6⟩ := hq
  exact ⟨E s, B s, G s, k1.sub h4, k2, (k3.subP h5).hasAll h6.all, h2 s h3⟩
namespace U
open Z
attribute [local irreducible] WC WL WD YO LO LoopEnd W.Fin Scalar SliceT FieldAt Row ArrT AllocT KnS Has W.One SrcE IntT
theorem d7 {G G' : Prop} (h : G') (s : Bx G' → G := by
  intro h
  first | (apply WC.draw (id := 24) [0, 1, 2, 3, 4, 5, 6] (.held 0 (.held 1 (.held 2 (.held 3 (.held 4 (.held 5 (.held 6 (.loud 7 (.loud 8 (.loud 9 (.loud 10 (.done)))))))))))) mixed (by kernel_rfl)) | (apply WC.draw (id := 25) [0, 1, 2, 3, 4, 5] (.held 0 (.held 1 (.held 2 (.held 3 (.held 4 (.held 5 (.loud 6 (.loud 7 (.loud 8 (.loud 9 (.loud 10 (.loud 11 (.done))))))))))))) mixed (by kernel_rfl)) | (apply WC.draw (id := 26) [0, 1, 2, 3, 4, 5, 6, 7, 8] (.held 0 (.held 1 (.held 2 (.held 3 (.held 4 (.held 5 (.held 6 (.held 7 (.held 8 (.loud 9 (.loud 10 (.loud 11 (.loud 12 (.loud 13 (.loud 14 (.loud 15 (.done))))))))))))))))) mixed (by kernel_rfl)) | (apply WC.draw (id := 28) [0, 1, 2, 3, 4, 5] (.held 0 (.held 1 (.held 2 (.held 3 (.held 4 (.held 5 (.loud 6 (.loud 7 (.loud 8 (.loud 9 (.loud 10 (.loud 11 (.loud 12 (.done)))))))))))))) mixed (by kernel_rfl)) | (apply WC.draw (id := 33) [0, 1, 2, 3, 4, 5, 6, 7, 8, 9, 10, 14, 15, 17, 18] (.held 0 (.held 1 (.held 2 (.held 3 (.held 4 (.held 5 (.held 6 (.held 7 (.held 8 (.held 9 (.held 10 (.loud 11 (.loud 12 (.loud 13 (.held 14 (.held 15 (.loud 16 (.held 17 (.held 18 (.done)))))))))))))))))))) mixed (by kernel_rfl)) | fail
  exact Bx.h h) : G := s ⟨h⟩
set_option maxHeartbeats 16000000 in
set_option maxRecDepth 60000 in
theorem sameLaw_h (hlv : FnB Tryz.prog 18 [] [] [] (IsV (.bool true))) (v0 v1 : Value) (l ml : List Int) (at_ : Int) (hl : ∀ x ∈ l, I64 x) (hml : ∀ x ∈ ml, I64 x) (ha : I64 at_) :
    FnB Tryz.prog 7 [v0, v1, .int .i64 at_] [] [sI v0 l, sI v1 ml] (IsV (.bool true)) := by
  refine fn_of [(0, v0), (1, v1), (2, (.int .i64 at_))] 188 Tryz.func7 rfl Tryz.ntmps7 (by kernel_rfl) rfl suA fun h0 => ?_
  have hV := someV_le l
  have hF := someFits l
  have hF2 := sameFits l
  have hS := someL_sq l 6
  have hLn := someL_len l 6
  have hG := fun k (_ : k < someV l) => someG_sq l k
  have hdv := someDok l
  refine WC.addNil 60 5 ?_
  refine WC.addNil 60 5 ?_
  refine WC.addNil 31 4 ?_
  repeat' (first | refine gB ?_ | (refine gH ?_; intro g) | (refine gW ?_; intro v) | refine gY ?_ | refine d7 ?_ | fail)
  refine WL.callK (some_c v0 l 6 hl (by decide)) ?_
  rintro _ _ _ ⟨M, rfl, rfl, rfl⟩
  simp only [List.nil_append, List.cons_append]
  rw [show (someP l 6).v = someV l from rfl, show someP l 6 = X.lpOf (someV l) (someL l 6) (someG l) from rfl]
  generalize someL l 6 = L at *
  generalize someG l = gf at *
  generalize someV l = vn at *
  have hv48 := hF.v
  refine WL.fact' (fF M.gv vn M.mg gf) (W.Has.pG (L := L) hmA) ?_
  refine WL.fact' (fLn M vn L) (W.Has.pL (g := gf) hmA) ?_
  repeat' (first | refine gB ?_ | (refine gH ?_; intro g) | (refine gW ?_; intro v) | refine gY ?_ | refine d7 ?_ | fail)
  revert g; intro g7
  refine WL.callK (solveL_c M hF hS hLn hG) ?_
  rintro _ _ _ ⟨A1, k1, xn1, yn1, x1, y1, z1, rfl, rfl, rfl, hA1, hx1, hy1, hz1⟩
  simp only [List.nil_append, List.cons_append]
  refine WL.fact' (fF A1.xv xn1 A1.mx x1) (W.Has.ax (M := A1) (xn := xn1) (yn := yn1) (x := x1) (y := y1) (z := z1) hmA) ?_
  refine WL.fact' (fF A1.yv yn1 A1.my y1) (W.Has.ay (M := A1) (xn := xn1) (yn := yn1) (x := x1) (y := y1) (z := z1) hmA) ?_
  refine WL.fact' (isQ (qv A1.mz) z1) (W.Has.az (M := A1) (xn := xn1) (yn := yn1) (x := x1) (y := y1) (z := z1) hmA) ?_
  repeat' (first | refine gB ?_ | (refine gH ?_; intro g) | (refine gW ?_; intro v) | refine gY ?_ | refine d7 ?_ | fail)
  rename_i g8 g11
  revert g; intro g12
  refine WC.lp (σ := Nat × Value × (Nat → QM)) (fun st => [(14, .int .i64 (st.1 : Int)), (13, st.2.1), (10, .int .i64 (L.length : Int)), (7, ptr g7), (8, ptr g8), (11, ptr g11), (12, ptr g12), (1, v1), (2, .int .i64 at_)])
    (fun st => [Ow.cells g12 26 [.int .i64 (vn : Int), .slice none 0 0, M.gv], Ow.cells g11 26 [.int .i64 (vn : Int), .slice none 0 0, M.gv], Ow.cells g8 33 (acs A1 k1), Ow.cells g7 26 (pcs M vn), Ow.slice st.2.1 31 4 (qcells st.1 st.2.2), Ow.slice (.slice none 0 0) 60 5 [], Ow.slice (.slice none 0 0) 60 5 []])
    (fun st => [mF st.1 st.2.2 (clx (sameT ml) st.1), fF M.gv vn M.mg gf, fLn M vn L, isQ (qv A1.mz) z1, fA A1 xn1 yn1 x1 y1 z1, fP M (X.lpOf vn L gf), ge h0, sI v1 ml]) (fun st => st.1 ≤ vn) (fun st => vn - st.1) (0, .slice none 0 0, fun _ => m00) (Nat.zero_le _) ?_ (hG := .cons (W.Has.mFn _ _) sfA)
  rintro ⟨k, sv, ms⟩ hk
  simp only at hk ⊢
  by_cases c : k < vn
  · have hak := atP_lt (l := ml) (i := (k : Int)) (m := 1073741824) (by decide)
    repeat' (first | refine gB ?_ | (refine gH ?_; intro g) | (refine gW ?_; intro v) | refine gY ?_ | refine d7 ?_ | fail)
    first | refine WL.callV (at_c v1 ml (k : Int) 1073741824 hml (by decide)) ?_ | refine WD.callV (at_c v1 ml (k : Int) 1073741824 hml (by decide)) ?_
    repeat' (first | refine gB ?_ | (refine gH ?_; intro g) | (refine gW ?_; intro v) | refine gY ?_ | refine d7 ?_ | fail)
    first | refine WL.callK (small_c (atP ml (k : Int) 1073741824) (by constructor <;> omega)) ?_ | refine WD.callK (small_c (atP ml (k : Int) 1073741824) (by constructor <;> omega)) ?_ | refine LO.callM (small_c (atP ml (k : Int) 1073741824) (by constructor <;> omega)) ?_
    rintro _ _ _ ⟨m3, rfl, rfl, rfl⟩
    simp only [List.nil_append, List.cons_append]
    refine WL.fact' (mF (k + 1) (upd ms k m3) (clx (sameT ml) (k + 1))) ((W.Has.mFapp (n := k) (ms := ms) (m := m3) (qf := clx _ k) hmA (show Has _ (isQ (qv m3) (sameT ml k)) from hmA)).mFsame fun j hj => clx_up (c := sameT ml) j) ?_
    repeat' (first | refine gB ?_ | (refine gH ?_; intro g) | (refine gW ?_; intro v) | refine gY ?_ | refine d7 ?_ | fail)
    exact LoopEnd.mk (k + 1, _, _) (by show k + 1 ≤ vn; omega) (by show vn - (k + 1) < vn - k; omega)
  obtain rfl : vn = k := by omega
  refine WC.freezeF sv vn ms (sameT ml) (by repeat (first | exact Sel.head | apply Sel.tail)) (W.Has.mFsame (qf := clx (sameT ml) vn) hmA fun j hj => by unfold clx; rw [if_pos hj]) ?_
  repeat' (first | refine gB ?_ | (refine gH ?_; intro g) | (refine gW ?_; intro v) | refine gY ?_ | refine d7 ?_ | fail)
  refine WC.lp (σ := Nat × MS × MS) (fun st => [(15, .int .i64 (st.1 : Int)), (13, sv), (10, .int .i64 (L.length : Int)), (7, ptr g7), (8, ptr g8), (11, ptr g11), (12, ptr g12), (1, v1), (2, .int .i64 at_)])
    (fun st => [Ow.cells g12 26 [.int .i64 (vn : Int), st.2.2.sv, M.gv], Ow.cells g11 26 [.int .i64 (vn : Int), st.2.1.sv, M.gv], Ow.cells g8 33 (acs A1 k1), Ow.cells g7 26 (pcs M vn), Ow.slice st.2.1.sv 60 5 (lncells st.1 st.2.1.M), Ow.slice st.2.2.sv 60 5 (lncells st.1 st.2.2.M)])
    (fun st => [lnQ st.2.1.M vn (qLs vn ml L st.1), lnQ st.2.2.M vn (mLs vn ml L st.1), fF sv vn ms (sameT ml), fF M.gv vn M.mg gf, fLn M vn L, isQ (qv A1.mz) z1, fA A1 xn1 yn1 x1 y1 z1, fP M (X.lpOf vn L gf), ge h0, sI v1 ml]) (fun st => st.1 ≤ L.length) (fun st => L.length - st.1) (0, ⟨.slice none 0 0, Pm.no⟩, ⟨.slice none 0 0, Pm.no⟩) (Nat.zero_le _) ?_ (hG := .cons W.Has.lnn (.cons W.Has.lnn sfA))
  rintro ⟨i, ⟨sq, Nq⟩, ⟨sm, Nm⟩⟩ hi
  simp only at hi ⊢
  by_cases c : i < L.length
  · have hat := atP_lt (l := ml) (i := (i : Int)) (m := 7) (by decide)
    have hat2 := atP_lt (l := ml) (i := (i : Int) + 1) (m := 5) (by decide)
    have hjj : ((L.length : Int) - 1 - (i : Int)).toNat = L.length - 1 - i := by omega
    have hjl : ((L.length : Int) - 1 - (i : Int)).toNat < L.length := by omega
    have hcs := hS _ (revL_mem c)
    refine WC.fact (fF (M.av ((L.length : Int) - 1 - (i : Int)).toNat) vn (M.ma ((L.length : Int) - 1 - (i : Int)).toNat) (X.co (revL L i))) (by unfold revL; rw [← hjj]; exact W.Has.lna (W.Has.lnq (M := M) hmA) hjl) ?_
    refine WC.fact (isQ (qv (M.mb ((L.length : Int) - 1 - (i : Int)).toNat)) (revL L i).2) (by unfold revL; rw [← hjj]; exact W.Has.lnb (W.Has.lnq (M := M) hmA) hjl) ?_
    refine WC.addNil 31 4 ?_
    repeat' (first | refine gB ?_ | (refine gH ?_; intro g) | (refine gW ?_; intro v) | refine gY ?_ | refine d7 ?_ | fail)
    generalize ((L.length : Int) - 1 - (i : Int)).toNat = j at *
    revert g; intro g16
    first | refine WL.callV (at_c v1 ml (i : Int) 7 hml (by decide)) ?_ | refine WD.callV (at_c v1 ml (i : Int) 7 hml (by decide)) ?_
    repeat' (first | refine gB ?_ | (refine gH ?_; intro g) | (refine gW ?_; intro v) | refine gY ?_ | refine d7 ?_ | fail)
    first | refine WL.callV (at_c v1 ml ((i : Int) + 1) 5 hml (by decide)) ?_ | refine WD.callV (at_c v1 ml ((i : Int) + 1) 5 hml (by decide)) ?_
    repeat' (first | refine gB ?_ | (refine gH ?_; intro g) | (refine gW ?_; intro v) | refine gY ?_ | refine d7 ?_ | fail)
    first | refine WL.callK (Zn.rof (1 + atP ml (i : Int) 7) (1 + atP ml ((i : Int) + 1) 5) (by show _ < 1000000000000000000; omega) (by show _ < 1000000000000000000; omega)) ?_ | refine WD.callK (Zn.rof (1 + atP ml (i : Int) 7) (1 + atP ml ((i : Int) + 1) 5) (by show _ < 1000000000000000000; omega) (by show _ < 1000000000000000000; omega)) ?_ | refine LO.callM (Zn.rof (1 + atP ml (i : Int) 7) (1 + atP ml ((i : Int) + 1) 5) (by show _ < 1000000000000000000; omega) (by show _ < 1000000000000000000; omega)) ?_
    rintro _ _ _ ⟨mf, rfl, rfl, rfl⟩
    simp only [List.nil_append, List.cons_append]
    refine WL.fact' (isQ (qv mf) (sameF ml i)) hmA ?_
    repeat' (first | refine gB ?_ | (refine gH ?_; intro g) | (refine gW ?_; intro v) | refine gY ?_ | refine d7 ?_ | fail)
    revert g; intro g17
    refine WC.lp (σ := Nat × Value × (Nat → QM)) (fun st => [(19, .int .i64 (st.1 : Int)), (18, st.2.1), (16, ptr g16), (17, ptr g17), (15, .int .i64 (i : Int)), (13, sv), (10, .int .i64 (L.length : Int)), (7, ptr g7), (8, ptr g8), (11, ptr g11), (12, ptr g12), (1, v1), (2, .int .i64 at_)])
      (fun st => [Ow.cells g17 31 (qcs mf), Ow.cells g16 60 (M.av j :: qcs (M.mb j)), Ow.slice st.2.1 31 4 (qcells st.1 st.2.2), Ow.cells g12 26 [.int .i64 (vn : Int), sm, M.gv], Ow.cells g11 26 [.int .i64 (vn : Int), sq, M.gv], Ow.cells g8 33 (acs A1 k1), Ow.cells g7 26 (pcs M vn), Ow.slice sq 60 5 (lncells i Nq), Ow.slice sm 60 5 (lncells i Nm)])
      (fun st => [mF st.1 st.2.2 (clx (fun k => X.co (revL L i) k * sameF ml i) st.1), isQ (qv mf) (sameF ml i), isQ (qv (M.mb j)) (revL L i).2, fF (M.av j) vn (M.ma j) (X.co (revL L i)), lnQ Nq vn (qLs vn ml L i), lnQ Nm vn (mLs vn ml L i), fF sv vn ms (sameT ml), fF M.gv vn M.mg gf, fLn M vn L, isQ (qv A1.mz) z1, fA A1 xn1 yn1 x1 y1 z1, fP M (X.lpOf vn L gf), ge h0, sI v1 ml]) (fun st => st.1 ≤ vn) (fun st => vn - st.1) (0, .slice none 0 0, fun _ => m00) (Nat.zero_le _) ?_ (hG := .cons (W.Has.mFn _ _) sfA)
    rintro ⟨k, sy, my⟩ hk
    simp only at hk ⊢
    by_cases ck : k < vn
    · refine WC.fact (isQ (qv (M.ma j k)) (X.co (revL L i) k)) (W.Has.q (W.Has.fm (v := M.av j) (ms := M.ma j) hmA) ck) ?_
      have hmul : FnB Tryz.prog 31 [qv (M.ma j k), qv mf] [] [isQ (qv (M.ma j k)) (X.co (revL L i) k), isQ (qv mf) (sameF ml i)] (IsR (X.co (revL L i) k * sameF ml i)) := Zn.mul _ _ _ _ ((hcs.2.1 k ck).sm (by decide)) (sameF_sq.sm (by decide))
      repeat' (first | refine gB ?_ | (refine gH ?_; intro g) | (refine gW ?_; intro v) | refine gY ?_ | refine d7 ?_ | fail)
      first | refine WL.callK (hmul) ?_ | refine WD.callK (hmul) ?_ | refine LO.callM (hmul) ?_
      rintro _ _ _ ⟨mk, rfl, rfl, rfl⟩
      simp only [List.nil_append, List.cons_append]
      refine WD.fact (mF (k + 1) (upd my k mk) (clx (fun k => X.co (revL L i) k * sameF ml i) (k + 1))) ((W.Has.mFapp (n := k) (ms := my) (m := mk) (qf := clx _ k) hmA (show Has _ (isQ (qv mk) (X.co (revL L i) k * sameF ml i)) from hmA)).mFsame fun j hj => clx_up (c := fun k => X.co (revL L i) k * sameF ml i) j) ?_
      repeat' (first | refine gB ?_ | (refine gH ?_; intro g) | (refine gW ?_; intro v) | refine gY ?_ | refine d7 ?_ | fail)
      exact LoopEnd.mk (k + 1, _, _) (by show k + 1 ≤ vn; omega) (by show vn - (k + 1) < vn - k; omega)
    obtain rfl : vn = k := by omega
    refine WC.freezeF sy vn my (X.co (X.timesL vn (sameF ml i) (revL L i))) (by repeat (first | exact Sel.head | apply Sel.tail)) (W.Has.mFsame (qf := clx (fun k => X.co (revL L i) k * sameF ml i) vn) hmA fun j hj => by rw [X.timesL_co hj]; unfold clx; rw [if_pos hj]) ?_
    repeat' (first | refine gA ?_ | (refine goG ?_; intro g) | (refine goV ?_; intro v))
    refine WC.cutP (σ := Value × QM) (fun st => [(16, ptr g16), (15, .int .i64 (i : Int)), (13, sv), (10, .int .i64 (L.length : Int)), (7, ptr g7), (8, ptr g8), (11, ptr g11), (12, ptr g12), (1, v1), (2, .int .i64 at_)])
      (fun st => [Ow.cells g16 60 (M.av j :: qcs (M.mb j)), Ow.cells g12 26 [.int .i64 (vn : Int), sm, M.gv], Ow.cells g11 26 [.int .i64 (vn : Int), st.1, M.gv], Ow.cells g8 33 (acs A1 k1), Ow.cells g7 26 (pcs M vn), Ow.slice st.1 60 5 (lncells (i + 1) (Nq.app i sy my st.2)), Ow.slice sm 60 5 (lncells i Nm)])
      (fun st => [isQ (qv st.2) ((revL L i).2 * sameF ml i), fF sy vn my (X.co (X.timesL vn (sameF ml i) (revL L i))), isQ (qv (M.mb j)) (revL L i).2, fF (M.av j) vn (M.ma j) (X.co (revL L i)), lnQ Nq vn (qLs vn ml L i), lnQ Nm vn (mLs vn ml L i), fF sv vn ms (sameT ml), fF M.gv vn M.mg gf, fLn M vn L, isQ (qv A1.mz) z1, fA A1 xn1 yn1 x1 y1 z1, fP M (X.lpOf vn L gf), ge h0, sI v1 ml]) (fun _ => True) ?_ ?_
    · have hmul : FnB Tryz.prog 31 [qv (M.mb j), qv mf] [] [isQ (qv (M.mb j)) (revL L i).2, isQ (qv mf) (sameF ml i)] (IsR ((revL L i).2 * sameF ml i)) := Zn.mul _ _ _ _ (hcs.2.2.sm (by decide)) (sameF_sq.sm (by decide))
      repeat' (first | refine gB ?_ | (refine gH ?_; intro g) | (refine gW ?_; intro v) | refine gY ?_ | refine d7 ?_ | fail | ((first | refine WL.callK (hv := ?hvQ) (hmul) ?_ | refine WD.callK (hv := ?hvQ) (hmul) ?_ | refine LO.callM (hv := ?hvQ) (hmul) ?_); (case hvQ => ((repeat (first | exact Evs.nil | (apply Evs.cons; exact rfl))); done)); rintro _ _ _ ⟨zm, rfl, rfl, rfl⟩; simp only [List.nil_append, List.cons_append]) | fail)
      all_goals (apply Ex2; refine ⟨trivial, ?_, ?_, ?_⟩; (focus (repeat (first | exact Sub.nil _ | refine Sub.cons rfl ?_))); (focus (repeat (first | exact SubP.nil _ | (apply SubP.cons; (repeat (first | exact Rem.head | apply Rem.tail)))))); (focus (repeat (first | exact HasAll.nil | (apply HasAll.cons; exact hsA)))))
    rintro ⟨sq2, mq⟩ -
    simp only
    refine WC.fact (lnQ (Nq.app i sy my mq) vn (qLs vn ml L (i + 1))) (by rw [qLs_up]; exact lnapp' qLs_len hmA _ hmA hmA) ?_
    refine WC.cutN' (σ := Value × QM) (fun st => [(15, .int .i64 (i : Int)), (13, sv), (10, .int .i64 (L.length : Int)), (7, ptr g7), (8, ptr g8), (11, ptr g11), (12, ptr g12), (1, v1), (2, .int .i64 at_)])
      (fun st => [Ow.cells g12 26 [.int .i64 (vn : Int), st.1, M.gv], Ow.cells g11 26 [.int .i64 (vn : Int), sq2, M.gv], Ow.cells g8 33 (acs A1 k1), Ow.cells g7 26 (pcs M vn), Ow.slice sq2 60 5 (lncells (i + 1) (Nq.app i sy my mq)), Ow.slice st.1 60 5 (lncells (i + 1) (Nm.app i (M.av j) (M.ma j) st.2))])
      (fun st => [isQ (qv st.2) ((revL L i).2 + X.sm vn fun k => X.co (revL L i) k * sameT ml k), lnQ (Nq.app i sy my mq) vn (qLs vn ml L (i + 1)), fF (M.av j) vn (M.ma j) (X.co (revL L i)), lnQ Nq vn (qLs vn ml L i), lnQ Nm vn (mLs vn ml L i), fF sv vn ms (sameT ml), fF M.gv vn M.mg gf, fLn M vn L, isQ (qv A1.mz) z1, fA A1 xn1 yn1 x1 y1 z1, fP M (X.lpOf vn L gf), ge h0, sI v1 ml]) (fun _ => True) ?_ ?_
    · have hdot : FnB Tryz.prog 27 [M.av j, sv] [] [fF (M.av j) vn (M.ma j) (X.co (revL L i)), fF sv vn ms (sameT ml)] (IsR (X.sm vn fun k => X.co (revL L i) k * sameT ml k)) := Z.dot_c _ _ vn 1 _ _ _ _ (by omega) (by omega) hcs.2.1 (fun k _ => smallP_sq _)
      have hadd := fun m => Zn.add (M.mb j) m (revL L i).2 (X.sm vn fun k => X.co (revL L i) k * sameT ml k) (hcs.2.2.sm (by decide)) ((dotT_sq hV.2 hcs.2.1).sm (by decide))
      repeat' (first | refine gB ?_ | (refine gH ?_; intro g) | (refine gW ?_; intro v) | refine gY ?_ | refine d7 ?_ | fail | ((first | refine WL.callK (hv := ?hvQ) (hdot) ?_ | refine WD.callK (hv := ?hvQ) (hdot) ?_ | refine LO.callM (hv := ?hvQ) (hdot) ?_); (case hvQ => ((repeat (first | exact Evs.nil | (apply Evs.cons; exact rfl))); done)); rintro _ _ _ ⟨zm, rfl, rfl, rfl⟩; simp only [List.nil_append, List.cons_append]) | ((first | refine WL.callK (hv := ?hvQ) (hadd _) ?_ | refine WD.callK (hv := ?hvQ) (hadd _) ?_ | refine LO.callM (hv := ?hvQ) (hadd _) ?_); (case hvQ => ((repeat (first | exact Evs.nil | (apply Evs.cons; exact rfl))); done)); rintro _ _ _ ⟨zm, rfl, rfl, rfl⟩; simp only [List.nil_append, List.cons_append]) | fail)
      all_goals (apply Ex2; refine ⟨trivial, ?_, ?_, ?_⟩; (focus (repeat (first | exact Sub.nil _ | refine Sub.cons rfl ?_))); (focus (repeat (first | exact SubP.nil _ | (apply SubP.cons; (repeat (first | exact Rem.head | apply Rem.tail)))))); (focus (repeat (first | exact HasAll.nil | (apply HasAll.cons; exact hsA)))))
    rintro ⟨sm2, mm⟩ -
    simp only
    refine WC.fact (lnQ (Nm.app i (M.av j) (M.ma j) mm) vn (mLs vn ml L (i + 1))) (by rw [mLs_up]; exact lnapp' mLs_len hmA _ (show Has _ (fF (M.av j) vn (M.ma j) (X.co (revL L i))) from hmA) hmA) ?_
    repeat' (first | refine gB ?_ | (refine gH ?_; intro g) | (refine gW ?_; intro v) | refine gY ?_ | refine d7 ?_ | fail)
    exact LoopEnd.mk (i + 1, ⟨sq2, Nq.app i sy my mq⟩, ⟨sm2, Nm.app i (M.av j) (M.ma j) mm⟩) (by show i + 1 ≤ L.length; omega) (by show L.length - (i + 1) < L.length - i; omega)
  obtain rfl : i = L.length := by omega
  have hsem := fun D hD => sameQ_sem (ml := ml) (D := D) hD hA1.sem
  have hsem3 := moved_sem (ml := ml) hA1.sem
  have hq2 := qLs_sq (ml := ml) hS (Nat.le_refl _)
  have hq3 := mLs_sq (ml := ml) hS hV.2 (Nat.le_refl _)
  have hlm := mLs_len (v := vn) (ml := ml) (L := L) (i := L.length)
  have hlq := qLs_len (v := vn) (ml := ml) (L := L) (i := L.length)
  by_cases c0 : 0 < L.length
  case' pos =>
    obtain ⟨a, hak⟩ : ∃ a : Nat, around at_ (L.length : Int) = a := ⟨(around at_ (L.length : Int)).toNat, by have := @around_lt at_ (L.length : Int) (by omega); omega⟩
    have hal : a < L.length := by have := @around_lt at_ (L.length : Int) (by omega); omega
    have har := around_c at_ (L.length : Int) ha (by omega)
    rw [hak] at har
    refine WC.fact (fF (M.av a) vn (M.ma a) (X.ca L a)) (W.Has.lna (W.Has.lnq (M := M) hmA) hal) ?_
    refine WC.fact (isQ (qv (M.mb a)) (X.cb L a)) (W.Has.lnb (W.Has.lnq (M := M) hmA) hal) ?_
    repeat' (first | refine gA ?_ | (refine goG ?_; intro g) | (refine goV ?_; intro v))
    refine WC.cutP (σ := Value) (fun st => [(13, sv), (10, .int .i64 (L.length : Int)), (7, ptr g7), (8, ptr g8), (11, ptr g11), (12, ptr g12), (1, v1), (2, .int .i64 at_)])
      (fun st => [Ow.cells g12 26 [.int .i64 (vn : Int), sm, M.gv], Ow.cells g11 26 [.int .i64 (vn : Int), st, M.gv], Ow.cells g8 33 (acs A1 k1), Ow.cells g7 26 (pcs M vn), Ow.slice st 60 5 (lncells (L.length + 1) (Nq.app L.length (M.av a) (M.ma a) (M.mb a))), Ow.slice sm 60 5 (lncells L.length Nm)])
      (fun st => [fF (M.av a) vn (M.ma a) (X.ca L a), isQ (qv (M.mb a)) (X.cb L a), lnQ Nq vn (qLs vn ml L L.length), lnQ Nm vn (mLs vn ml L L.length), fF sv vn ms (sameT ml), fF M.gv vn M.mg gf, fLn M vn L, isQ (qv A1.mz) z1, fA A1 xn1 yn1 x1 y1 z1, fP M (X.lpOf vn L gf), ge h0, sI v1 ml]) (fun _ => True) ?_ ?_
    case' refine_1 =>
      repeat' (first | refine gB ?_ | (refine gH ?_; intro g) | (refine gW ?_; intro v) | refine gY ?_ | refine d7 ?_ | fail | (refine WL.callV (hv := ?hvQ) (har) ?_; (case hvQ => ((repeat (first | exact Evs.nil | (apply Evs.cons; exact rfl))); done))) | (refine WD.callV (hv := ?hvQ) (har) ?_; (case hvQ => ((repeat (first | exact Evs.nil | (apply Evs.cons; exact rfl))); done))) | fail)
      all_goals (apply Ex1; refine ⟨trivial, ?_, ?_, ?_⟩; (focus (repeat (first | exact Sub.nil _ | refine Sub.cons rfl ?_))); (focus (repeat (first | exact SubP.nil _ | (apply SubP.cons; (repeat (first | exact Rem.head | apply Rem.tail)))))); (focus (repeat (first | exact HasAll.nil | (apply HasAll.cons; exact hsA)))))
    rintro sq' -
    have hQs := hsem [L.getD a ([], 0)] (fun c hc => by rw [List.mem_singleton] at hc; subst hc; exact getD_ln hal)
    have hQq : LSq 12 vn (qLs vn ml L L.length ++ [L.getD a ([], 0)]) := fun c hc => (List.mem_append.1 hc).elim (hq2.up (by decide) c) fun h => by rw [List.mem_singleton] at h; subst h; exact hS.up (by decide) _ (getD_ln hal)
    have hQn : (qLs vn ml L L.length ++ [L.getD a ([], 0)]).length = L.length + 1 := by rw [List.length_append, hlq]; rfl
    have hnq : L.length + 1 ≤ 7 := by omega
    refine WC.fact (lnQ (Nq.app L.length (M.av a) (M.ma a) (M.mb a)) vn (qLs vn ml L L.length ++ [L.getD a ([], 0)])) (lnapp' hlq hmA _ (show Has _ (fF (M.av a) vn (M.ma a) (X.ca L a)) from hmA) (show Has _ (isQ (qv (M.mb a)) (X.cb L a)) from hmA)) ?_
    generalize qLs vn ml L L.length ++ [L.getD a ([], 0)] = Q at *
    generalize Nq.app L.length (M.av a) (M.ma a) (M.mb a) = Nq' at *
    generalize L.length + 1 = nq at *
    subst hQn
    repeat' (first | refine gB ?_ | (refine gH ?_; intro g) | (refine gW ?_; intro v) | refine gY ?_ | refine d7 ?_ | fail)
  case' neg =>
    have hQs := hsem [] (fun c hc => by cases hc)
    rw [List.append_nil] at hQs
    have hQq : LSq 12 vn (qLs vn ml L L.length) := hq2.up (by decide)
    have hQn := hlq
    have hnq : L.length ≤ 7 := by omega
    repeat' (first | refine gB ?_ | (refine gH ?_; intro g) | (refine gW ?_; intro v) | refine gY ?_ | refine d7 ?_ | fail)
    generalize qLs vn ml L L.length = Q at *
    generalize Nq = Nq' at *
    generalize sq = sq' at *
    rw [show lncells L.length Nq' = lncells Q.length Nq' by rw [hQn]]
  all_goals
    generalize mLs vn ml L L.length = R at *
    rw [show lncells L.length Nm = lncells R.length Nm by rw [hlm]]
    refine WL.freezeLn sq' Nq' vn Q (by repeat (first | exact Sel.head | apply Sel.tail)) hmA ?_
    refine WL.freezeLn sm Nm vn R (by repeat (first | exact Sel.head | apply Sel.tail)) hmA ?_
    refine WL.fact' (fP ((Nq'.wg M.gv M.mg).at sq') (X.lpOf vn Q gf)) (W.Has.lnp hmA (show Has _ (fF M.gv vn M.mg gf) from hmA)) ?_
    refine WL.fact' (fP ((Nm.wg M.gv M.mg).at sm) (X.lpOf vn R gf)) (W.Has.lnp hmA (show Has _ (fF M.gv vn M.mg gf) from hmA)) ?_
    refine WL.callK (solveL_c ((Nq'.wg M.gv M.mg).at sq') hF2 hQq (by omega) (fun k hk => (hG k hk).up (by decide))) ?_
    rintro _ _ _ ⟨A2, k2, xn2, yn2, x2, y2, z2, rfl, rfl, rfl, hA2, hx2, hy2, hz2⟩
    simp only [List.nil_append, List.cons_append]
    obtain ⟨hk2, rfl⟩ := hA2.sem.uniq hQs
    obtain rfl : k2 = k1 := by omega
    refine WL.fact' (fF A2.xv xn2 A2.mx x2) (W.Has.ax (M := A2) (xn := xn2) (yn := yn2) (x := x2) (y := y2) (z := z2) hmA) ?_
    refine WL.fact' (fF A2.yv yn2 A2.my y2) (W.Has.ay (M := A2) (xn := xn2) (yn := yn2) (x := x2) (y := y2) (z := z2) hmA) ?_
    refine WL.fact' (isQ (qv A2.mz) z2) (W.Has.az (M := A2) (xn := xn2) (yn := yn2) (x := x2) (y := y2) (z := z2) hmA) ?_
    repeat' (first | refine gB ?_ | (refine gH ?_; intro g) | (refine gW ?_; intro v) | refine gY ?_ | refine d7 ?_ | fail)
    revert g; intro g20
    refine WL.callK (solveL_c ((Nm.wg M.gv M.mg).at sm) hF2 hq3 (by omega) (fun k hk => (hG k hk).up (by decide))) ?_
    rintro _ _ _ ⟨A3, k3, xn3, yn3, x3, y3, z3, rfl, rfl, rfl, hA3, hx3, hy3, hz3⟩
    simp only [List.nil_append, List.cons_append]
    obtain ⟨hk3, hz33⟩ := hA3.sem.uniq hsem3
    obtain rfl : k3 = k2 := by omega
    refine WL.fact' (fF A3.xv xn3 A3.mx x3) (W.Has.ax (M := A3) (xn := xn3) (yn := yn3) (x := x3) (y := y3) (z := z3) hmA) ?_
    refine WL.fact' (fF A3.yv yn3 A3.my y3) (W.Has.ay (M := A3) (xn := xn3) (yn := yn3) (x := x3) (y := y3) (z := z3) hmA) ?_
    refine WL.fact' (isQ (qv A3.mz) z3) (W.Has.az (M := A3) (xn := xn3) (yn := yn3) (x := x3) (y := y3) (z := z3) hmA) ?_
    repeat' (first | refine gB ?_ | (refine gH ?_; intro g) | (refine gW ?_; intro v) | refine gY ?_ | refine d7 ?_ | fail)
    first | refine WL.callV (Zn.same A1.mz A2.mz z2 z2) ?_ | refine WD.callV (Zn.same A1.mz A2.mz z2 z2) ?_
    rw [decide_eq_true (rfl : z2 = z2)]
    by_cases ck : k3 = 0
    · have ck1 : (k3 : Int) = 0 := by omega
      rw [if_pos ck1] at hz33
      have hdot : FnB Tryz.prog 27 [M.gv, sv] [] [fF M.gv vn M.mg gf, fF sv vn ms (sameT ml)] (IsR (X.sm vn fun k => gf k * sameT ml k)) := Z.dot_c _ _ vn 1 _ _ _ _ (by omega) (by omega) hG (fun k _ => smallP_sq _)
      have hadd := fun m => Zn.add A1.mz m z2 (X.sm vn fun k => gf k * sameT ml k) (hz1.sm hdv.k) ((dotT_sq hV.2 hG).sm (by decide))
      have hsame := fun m => Zn.same A3.mz m z3 (z2 + X.sm vn fun k => gf k * sameT ml k)
      rw [decide_eq_true (show z3 = z2 + X.sm vn fun k => gf k * sameT ml k from hz33)] at hsame
      repeat' (first | refine gB ?_ | (refine gH ?_; intro g) | (refine gW ?_; intro v) | refine gY ?_ | refine d7 ?_ | fail | ((first | refine WL.callK (hv := ?hvQ) (hdot) ?_ | refine WD.callK (hv := ?hvQ) (hdot) ?_ | refine LO.callM (hv := ?hvQ) (hdot) ?_); (case hvQ => ((repeat (first | exact Evs.nil | (apply Evs.cons; exact rfl))); done)); rintro _ _ _ ⟨zm, rfl, rfl, rfl⟩; simp only [List.nil_append, List.cons_append]) | ((first | refine WL.callK (hv := ?hvQ) (hadd _) ?_ | refine WD.callK (hv := ?hvQ) (hadd _) ?_ | refine LO.callM (hv := ?hvQ) (hadd _) ?_); (case hvQ => ((repeat (first | exact Evs.nil | (apply Evs.cons; exact rfl))); done)); rintro _ _ _ ⟨zm, rfl, rfl, rfl⟩; simp only [List.nil_append, List.cons_append]) | (refine WL.callV (hv := ?hvQ) (hsame _) ?_; (case hvQ => ((repeat (first | exact Evs.nil | (apply Evs.cons; exact rfl))); done))) | (refine WD.callV (hv := ?hvQ) (hsame _) ?_; (case hvQ => ((repeat (first | exact Evs.nil | (apply Evs.cons; exact rfl))); done))) | (refine WL.callV (hv := ?hvQ) (hlv) ?_; (case hvQ => ((repeat (first | exact Evs.nil | (apply Evs.cons; exact rfl))); done))) | (refine WD.callV (hv := ?hvQ) (hlv) ?_; (case hvQ => ((repeat (first | exact Evs.nil | (apply Evs.cons; exact rfl))); done))) | fail)
      all_goals exact WC.ret (Fin.v (ResE.t1 rfl rfl) meA rfl)
    · have ck1 : (k3 : Int) ≠ 0 := by omega
      repeat' (first | refine gB ?_ | (refine gH ?_; intro g) | (refine gW ?_; intro v) | refine gY ?_ | refine d7 ?_ | fail)
      first | refine WL.callV (hlv) ?_ | refine WD.callV (hlv) ?_
      repeat' (first | refine gB ?_ | (refine gH ?_; intro g) | (refine gW ?_; intro v) | refine gY ?_ | refine d7 ?_ | fail)
      exact WC.ret (Fin.v (ResE.t1 rfl rfl) meA rfl)
end U
end Go.Proofs.YtaongbhamadlkaaGreat
