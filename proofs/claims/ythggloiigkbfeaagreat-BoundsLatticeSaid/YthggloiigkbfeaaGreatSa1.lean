/- The law BoundsLattice returns true for every input and leaves its arguments as they were. Conditions: none. -/
import Derived.Test.YthggloiigkbfeaaGreatBase6
set_option linter.unusedVariables false
set_option linter.unusedSimpArgs false
set_option linter.unusedSectionVars false
namespace Go.Proofs.YthggloiigkbfeaaGreat
open W Go.RowKit
theorem Vld.valid {n : Nat} {bs : List Bd} (h : Vld n bs) : validB n bs = true := validB_t (by have := h.n1; omega) (by have := h.n2; omega) h.l h.ok
theorem sysL_get {l : List Int} {most : Int} {i : Nat} (h : i < (sysL l most).length) : bg (sysL l most) i = sysB l (sysN l most) i := by
  unfold sysL at h ⊢
  rw [sysT_len] at h
  exact sysT_get _ _ h
/-- the laws' systems are valid -/
theorem sys_vld (l : List Int) {most : Int} (h0 : 0 < most) (h1 : most ≤ 8) : ∃ n : Nat, sysN l most = n ∧ n ≤ 8 ∧ Vld n (sysL l most) := by
  have h := sysN_le l h0
  refine ⟨(sysN l most).toNat, by omega, by omega, ⟨by omega, by omega, Nat.le_trans (sysL_len l most) (by decide), fun i hi => ?_⟩⟩
  rw [sysL_get hi, show (((sysN l most).toNat : Nat) : Int) = sysN l most by omega]
  exact ⟨atP_lt h.1, atP_lt h.1⟩
theorem slv_sol {n : Nat} {bs : List Bd} (hv : Vld n bs) (h : HasSol bs) : slv n bs = (jacs bs n n, [], 0) := by
  rw [slv_same]; unfold rslv
  rw [if_pos hv.valid, Int.toNat_natCast, if_pos ((sol_iff_has hv).2 h)]
theorem slv_no {n : Nat} {bs : List Bd} (hv : Vld n bs) (h : ¬ HasSol bs) : slv n bs = ([], cycP n bs, 14) := by
  rw [slv_same]; unfold rslv
  rw [if_pos hv.valid, Int.toNat_natCast, if_neg (fun c => h ((sol_iff_has hv).1 c)), ← cyc_same hv h]
theorem chk_x {n : Nat} {bs : List Bd} (hv : Vld n bs) (x : List Int) : chk n bs x [] = if x.length = n ∧ Sol bs x then 0 else 22 := by
  rw [chk_same]; unfold rchk
  rw [if_pos hv.valid, if_pos (show ([] : List Int).length = 0 from rfl), Int.toNat_natCast]
theorem chk_l {n : Nat} {bs : List Bd} (hv : Vld n bs) {l : List Int} (hl : 0 < l.length) : chk n bs [] l = if Idx bs l ∧ Clo bs l ∧ lenP bs l < 0 then 0 else 22 := by
  rw [chk_same]; unfold rchk
  rw [if_pos hv.valid, if_neg (by omega)]
  by_cases h : Idx bs l ∧ Clo bs l ∧ lenP bs l < 0
  · rw [if_pos h, if_pos ⟨h.1, h.2.1, rfl, h.2.2⟩]
  · rw [if_neg h, if_neg (fun c => h ⟨c.1, c.2.1, c.2.2.2⟩)]
theorem absS_set_le (bs : List Bd) (k : Nat) (b : Bd) : absS (bs.set k b) ≤ absS bs + b.w.natAbs := by
  induction bs generalizing k with
  | nil => simp [absS]
  | cons a bs ih =>
    cases k with
    | zero => simp only [List.set_cons_zero, absS, List.map_cons, List.sum_cons]; omega
    | succ k =>
      have := ih k
      simp only [List.set_cons_succ, absS, List.map_cons, List.sum_cons] at this ⊢; omega
theorem Vld.setw {n : Nat} {bs : List Bd} (hv : Vld n bs) (k : Nat) (z : Int) : Vld n (bs.set k { bg bs k with w := z }) := by
  refine ⟨hv.n1, hv.n2, by rw [List.length_set]; exact hv.l, fun i hi => ?_⟩
  rw [List.length_set] at hi
  by_cases c : k = i
  · subst c
    have := hv.ok k hi
    have e : bg (bs.set k { bg bs k with w := z }) k = { bg bs k with w := z } := by simp [bg, List.getD_eq_getElem?_getD, hi]
    rw [e]; exact this
  · have e : bg (bs.set k { bg bs k with w := z }) i = bg bs i := by
      simp only [bg, List.getD_eq_getElem?_getD]; rw [List.getElem?_set_ne c]
    rw [e]; exact hv.ok i hi
theorem bg_app {bs : List Bd} {e : Bd} {i : Nat} (h : i < bs.length) : bg (bs ++ [e]) i = bg bs i := by
  simp only [bg, List.getD_eq_getElem?_getD]; rw [List.getElem?_append_left h]
theorem bg_last {bs : List Bd} {e : Bd} : bg (bs ++ [e]) bs.length = e := by simp [bg, List.getD_eq_getElem?_getD]
theorem Vld.snoc {n : Nat} {bs : List Bd} (hv : Vld n bs) (hl : bs.length < 2048) {a c : Nat} (ha : a < n) (hc : c < n) (w : Int) : Vld n (bs ++ [⟨a, c, w⟩]) := by
  refine ⟨hv.n1, hv.n2, by simp; omega, fun i hi => ?_⟩
  by_cases h : i < bs.length
  · rw [bg_app h]; exact hv.ok i h
  · obtain rfl : i = bs.length := by simp at hi; omega
    rw [bg_last]; refine ⟨⟨?_, ?_⟩, ?_, ?_⟩ <;> simp only <;> omega
/-! ## Lattice -/
theorem SolF.sub {a b : List Bd} {f : Nat → Int} (h : SolF (a ++ b) f) : SolF a f := fun x hx => h x (List.mem_append_left _ hx)
theorem lat_le {n : Nat} {bs : List Bd} {b : Bd} (hv : Vld n bs) (hv2 : Vld n (bs ++ [b])) (h : HasSol (bs ++ [b])) (i : Nat) (hi : i < n) : vl (jacs (bs ++ [b]) n n) i ≤ vl (jacs bs n n) i :=
  jacs_great hv (SolF.sub (sol_iff.1 ((sol_iff_has hv2).2 h))) (fun v _ => jacs_le0 hv2 n v) n i hi
theorem SolF.shift {bs : List Bd} {f : Nat → Int} (h : SolF bs f) (s : Int) : SolF bs (fun i => f i + s) := fun b hb => by have := h b hb; show f b.to.toNat + s ≤ f b.fr.toNat + s + b.w; omega
theorem SolF.max {bs : List Bd} {f k : Nat → Int} (h : SolF bs f) (h2 : SolF bs k) : SolF bs (fun i => if k i < f i then f i else k i) := fun b hb => by
  have h3 := h b hb
  have h4 := h2 b hb
  show (if k b.to.toNat < f b.to.toNat then f b.to.toNat else k b.to.toNat) ≤ (if k b.fr.toNat < f b.fr.toNat then f b.fr.toNat else k b.fr.toNat) + b.w
  split <;> split <;> omega
theorem SolF.min {bs : List Bd} {f k : Nat → Int} (h : SolF bs f) (h2 : SolF bs k) : SolF bs (fun i => if k i < f i then k i else f i) := fun b hb => by
  have h3 := h b hb
  have h4 := h2 b hb
  show (if k b.to.toNat < f b.to.toNat then k b.to.toNat else f b.to.toNat) ≤ (if k b.fr.toNat < f b.fr.toNat then k b.fr.toNat else f b.fr.toNat) + b.w
  split <;> split <;> omega
/-- a solution az a list -/
theorem sol_list {n : Nat} {bs : List Bd} (hv : Vld n bs) {f : Nat → Int} (h : SolF bs f) : Sol bs ((List.range n).map f) := by
  refine sol_iff.2 fun b hb => ?_
  have h1 := hv.tos b hb
  have h2 := hv.frs b hb
  have h3 := h b hb
  simp only [vl, List.getD_eq_getElem?_getD, List.getElem?_map, List.getElem?_range h1, List.getElem?_range h2, Option.map_some, Option.getD_some]
  exact h3
/-! ## A bound made stricter, a cycle made weaker -/
theorem not_sol_set {bs : List Bd} {x : List Int} {k : Nat} (hk : k < bs.length) {w : Int} (hw : w < vl x (bg bs k).to.toNat - vl x (bg bs k).fr.toNat) : ¬ Sol (bs.set k { bg bs k with w := w }) x := by
  intro h
  have := h k (by rw [List.length_set]; exact hk)
  simp only [bg, List.getD_eq_getElem?_getD, List.getElem?_set_self hk, Option.getD_some] at this hw
  omega
theorem wlk_cyc {bs : List Bd} {l : List Int} {u v : Int} (h : Wlk bs u l v) : ∀ i, i < l.length → (0 ≤ l.getD i 0 ∧ l.getD i 0 < bs.length) ∧ (bg bs (l.getD i 0).toNat).to = (if i + 1 = l.length then v else (bg bs (l.getD (i + 1) 0).toNat).fr) := by
  induction l generalizing u with
  | nil => intro i hi; simp at hi
  | cons a l ih =>
    obtain ⟨h1, h2, h3⟩ := h
    intro i hi
    cases i with
    | zero =>
      refine ⟨h1, ?_⟩
      cases l with
      | nil => exact h3
      | cons c l => rw [if_neg (by simp)]; exact h3.2.1.symm
    | succ i =>
      have := ih h3 i (by simpa using hi)
      simpa using this
theorem next_eq' {n i : Nat} (h : i < n) : (((i : Int) + 1) % (n : Int)).toNat = if i + 1 = n then 0 else i + 1 := by
  by_cases c : i + 1 = n
  · rw [if_pos c, show (i : Int) + 1 = n by omega, Int.emod_self]; rfl
  · rw [if_neg c, Int.emod_eq_of_lt (by omega) (by omega)]; omega
theorem neg_idx {bs : List Bd} {m : Nat} {l : List Int} (h : Neg bs m l) : Idx bs l ∧ Clo bs l ∧ lenP bs l < 0 := by
  obtain ⟨_, h2, u, h3⟩ := h
  have h4 := wlk_cyc h3
  refine ⟨fun i hi => (h4 i hi).1, fun i hi => ?_, h2⟩
  rw [(h4 i hi).2]
  unfold nxi
  rw [next_eq' hi]
  by_cases c : i + 1 = l.length
  · rw [if_pos c, if_pos c]
    cases l with
    | nil => simp at hi
    | cons a l => exact h3.2.1.symm
  · rw [if_neg c, if_neg c]
theorem lenP_set {bs : List Bd} {k : Nat} (hk : k < bs.length) (d : Int) : ∀ l : List Int, (∀ x ∈ l, 0 ≤ x) → l.Nodup → lenP (bs.set k { bg bs k with w := (bg bs k).w + d }) l = lenP bs l + (if (k : Int) ∈ l then d else 0) := by
  intro l
  induction l with
  | nil => intro _ _; simp [lenP]
  | cons a l ih =>
    intro h1 h2
    have h3 := ih (fun x hx => h1 x (List.mem_cons_of_mem _ hx)) (List.nodup_cons.1 h2).2
    have h4 := (List.nodup_cons.1 h2).1
    have ha := h1 a (List.mem_cons_self)
    rw [lenP_cons, lenP_cons, h3]
    by_cases c : a.toNat = k
    · have hak : (k : Int) = a := by omega
      have e : (bg (bs.set k { bg bs k with w := (bg bs k).w + d }) a.toNat).w = (bg bs k).w + d := by
        rw [c]; simp [bg, List.getD_eq_getElem?_getD, hk]
      rw [e, c, hak, if_neg h4, if_pos (List.mem_cons_self)]; omega
    · have e : bg (bs.set k { bg bs k with w := (bg bs k).w + d }) a.toNat = bg bs a.toNat := by
        simp only [bg, List.getD_eq_getElem?_getD]; rw [List.getElem?_set_ne (fun h => c h.symm)]
      have hm : ((k : Int) ∈ a :: l) ↔ (k : Int) ∈ l := by
        rw [List.mem_cons]; exact ⟨fun h => h.elim (fun h => absurd (by omega) c) id, Or.inr⟩
      rw [e]; simp only [hm]; omega
theorem cyc_nodup {n : Nat} {bs : List Bd} (hv : Vld n bs) (h : ¬ HasSol bs) : ∃ m, 0 < m ∧ m ≤ n ∧ Neg bs m (cycP n bs) ∧ (cycP n bs).Nodup := by
  obtain ⟨m, hm⟩ := neg_min ((neg_iff hv).2 h)
  have h1 := (cycP_spec hv hm).1
  refine ⟨m, hm.pos, hm.le hv, h1, ?_⟩
  have := hm.nodup h1
  unfold frs at this
  exact List.Pairwise.of_map _ (fun a b hab e => hab (by rw [e])) this
/-- the changed cycle is refused -/
theorem cyc_weak {n : Nat} {bs : List Bd} (hv : Vld n bs) (h : ¬ HasSol bs) {j : Nat} (hj : j < (cycP n bs).length) (hv2 : Vld n (bs.set ((cycP n bs).getD j 0).toNat { bg bs ((cycP n bs).getD j 0).toNat with w := (bg bs ((cycP n bs).getD j 0).toNat).w - lenP bs (cycP n bs) })) :
    chk n (bs.set ((cycP n bs).getD j 0).toNat { bg bs ((cycP n bs).getD j 0).toNat with w := (bg bs ((cycP n bs).getD j 0).toNat).w - lenP bs (cycP n bs) }) [] (cycP n bs) = 22 := by
  obtain ⟨m, hm0, hmn, hn, hd⟩ := cyc_nodup hv h
  have hi := (neg_idx hn).1
  have hpos : ∀ x ∈ cycP n bs, 0 ≤ x := fun x hx => by
    obtain ⟨i, h1, rfl⟩ := List.getElem_of_mem hx
    have := (hi i h1).1
    simpa [List.getD_eq_getElem?_getD, h1] using this
  have hk := hi j hj
  have hmem : (((cycP n bs).getD j 0).toNat : Int) ∈ cycP n bs := by
    rw [Int.toNat_of_nonneg hk.1, List.getD_eq_getElem?_getD, List.getElem?_eq_getElem hj]
    exact List.getElem_mem _
  rw [chk_l hv2 (by omega), if_neg]
  rintro ⟨_, _, h3⟩
  have := lenP_set (bs := bs) (k := ((cycP n bs).getD j 0).toNat) (by omega) (- lenP bs (cycP n bs)) (cycP n bs) hpos hd
  rw [if_pos hmem] at this
  rw [Int.sub_eq_add_neg, this] at h3
  omega
end Go.Proofs.YthggloiigkbfeaaGreat
namespace Go.Proofs.YthggloiigkbfeaaGreat
open W Go.RowKit
/-- the first k values of a function -/
def lsf (f : Nat → Int) (k : Nat) : List Int := (List.range k).map f
theorem lsf_len (f : Nat → Int) (k : Nat) : (lsf f k).length = k := by simp [lsf]
theorem lsf_succ (f : Nat → Int) (k : Nat) : lsf f (k + 1) = lsf f k ++ [f k] := by simp [lsf, List.range_succ]
theorem lsf_has {D : Nat} {F : List Fct} {f : Nat → Int} {j : Nat} {mu : Nat → QM} {m : QM} {z : Int} (hz : z = f j) (h : Has F (mQ D mu (lsf f j))) (h2 : Has F (isQ (qv m) (wq D z))) : Has F (mQ D (upd mu j m) (lsf f (j + 1))) := by
  subst hz
  rw [lsf_succ]
  have := W.Has.mQapp h h2
  rwa [lsf_len] at this
theorem lsf_wth {B : Nat} {f : Nat → Int} {k : Nat} (h : ∀ i, i < k → (f i).natAbs ≤ B) : Wth B (lsf f k) := fun i => by
  unfold lsf
  by_cases c : i < k
  · have := h i c
    simpa [List.getD_eq_getElem?_getD, List.getElem?_range c] using this
  · simp [List.getD_eq_getElem?_getD, c]
theorem chk_lsf {n : Nat} {bs : List Bd} (hv : Vld n bs) {f : Nat → Int} (h : SolF bs f) : chk n bs (lsf f n) [] = 0 := by
  rw [chk_x hv, if_pos ⟨lsf_len f n, sol_list hv h⟩]
theorem WD.ok {P : Program} {n : Nat} {L : List Oper} {e : Env} {bx bx' b0 : List Ow} {F F' F0 : List Fct} {hs : List Nat} {r : Plan} {Q : Env → List Ow → List Fct → Prop} (hF : ∀ fr w, OK fr bx F w → OK fr bx' F' w) (h : WD P n L hs b0 F0 r e bx' F' Q) : WD P n L hs b0 F0 r e bx F Q := fun fr w0 listed a w fuel Q' h1 h2 h3 h4 h5 h6 hk hr ho hf => h fr w0 listed a w fuel Q' h1 h2 h3 h4 h5 h6 hk hr (hF fr w ho) hf
theorem WD.freezeB {P : Program} {n : Nat} {L : List Oper} {e : Env} {bx bx' b0 : List Ow} {F F0 : List Fct} {hs : List Nat} {r : Plan} {Q : Env → List Ow → List Fct → Prop} {D : Nat} {el : Nat} (v : Value) (ms : Nat → QM) (bs : List Bd) (hq : Sel bx (.slice v el 6 (bcells bs ms)) (.slice (.slice none 0 0) el 6 []) bx') (hm : Has F (mB D ms bs)) (h : WD P n L hs b0 F0 r e bx' (fB D v ms bs :: F) Q) : WD P n L hs b0 F0 r e bx F Q := WD.ok (fun _ _ ho => okB ho hq hm) h
namespace J
open G H I
attribute [local irreducible] WC WL WD YO LO LoopEnd W.Fin Scalar SliceT FieldAt Row ArrT AllocT KnS Has W.One SrcE IntT
theorem d6 {G G' : Prop} (h : G') (s : Bx G' → G := by
  intro h
  first | (apply WC.draw (id := 6) [0, 2, 4, 8, 9, 10, 11, 12, 13, 14] (.held 0 (.held 2 (.held 4 (.more 1 (.more 3 (.loud 5 (.loud 6 (.loud 7 (.held 8 (.held 9 (.held 10 (.held 11 (.held 12 (.held 13 (.held 14 (.done))))))))))) (.loud 5 (.loud 3 (.loud 6 (.loud 7 (.held 8 (.held 9 (.held 10 (.held 11 (.held 12 (.held 13 (.held 14 (.done))))))))))))) (.loud 5 (.loud 1 (.loud 3 (.loud 6 (.loud 7 (.held 8 (.held 9 (.held 10 (.held 11 (.held 12 (.held 13 (.held 14 (.done))))))))))))))))) mixed (by kernel_rfl)) | (apply WC.draw (id := 16) [0, 1, 2, 3, 4] (.held 0 (.held 1 (.held 2 (.held 3 (.held 4 (.more 5 (.loud 6 (.loud 7 (.done))) (.loud 6 (.loud 5 (.loud 7 (.done)))))))))) mixed (by kernel_rfl)) | (apply WC.draw (id := 17) [0, 1, 2, 3, 4, 5, 6, 7, 9, 10, 11, 12, 13, 14, 16, 17] (.held 0 (.held 1 (.held 2 (.held 3 (.held 4 (.held 5 (.held 6 (.held 7 (.loud 8 (.held 9 (.held 10 (.held 11 (.held 12 (.held 13 (.held 14 (.loud 15 (.held 16 (.held 17 (.done))))))))))))))))))) mixed (by kernel_rfl)) | (apply WC.draw (id := 20) [0, 1, 2, 3, 4, 6] (.held 0 (.held 1 (.held 2 (.held 3 (.held 4 (.loud 5 (.held 6 (.done)))))))) mixed (by kernel_rfl)) | fail
  exact Bx.h h) : G := s ⟨h⟩
set_option maxHeartbeats 16000000 in
set_option maxRecDepth 60000 in
theorem lattice_c (v0 v1 : Value) (l p : List Int) (by_ : Int) (hl : ∀ x ∈ l, I64 x) (hp : ∀ x ∈ p, I64 x) (hb : I64 by_) :
    FnB Tryz.prog 6 [v0, v1, .int .i64 by_] [] [sI v0 l, sI v1 p] (IsV (.bool true)) := by
  refine fn_of [(0, v0), (1, v1), (2, (.int .i64 by_))] 169 Tryz.func6 rfl Tryz.ntmps6 (by kernel_rfl) rfl suA fun h0 => ?_
  have hs := sysL_sml l (most := 6) (by decide) (by decide)
  have hab := sysL_abs l (most := 6) (by decide) (by decide)
  have hsl := sysL_len l 6
  obtain ⟨n, hn, hn8, hv⟩ := sys_vld l (most := 6) (by decide) (by decide)
  repeat' (first | refine go ?_ | refine goX ?_ | refine goB ?_ | (refine goG ?_; intro g) | (refine goV ?_; intro v) | refine goD ?_ | refine goXD ?_ | (refine goDG ?_; intro g) | (refine goDV ?_; intro v) | apply WD.more_of | refine WM.more (by exact rfl) (by exact rfl) (by exact rfl) ?_ ?_ | refine WM.one (by exact rfl) (by exact rfl) (by exact rfl) ?_ | refine WM.more0 (by exact rfl) (by exact rfl) ?_ ?_ | refine WM.one0 (by exact rfl) (by exact rfl) ?_ | (refine goLG ?_; intro g) | (refine goLV ?_; intro v) | refine goLS ?_ | refine d6 ?_ | fail)
  first | refine WL.callK (system_c v0 l 6 hl (by decide) (by decide)) ?_ | refine WD.callK (system_c v0 l 6 hl (by decide) (by decide)) ?_ | refine LO.callM (system_c v0 l 6 hl (by decide) (by decide)) ?_
  rintro rv bb GG ⟨vb, ms, rfl, rfl, rfl⟩
  simp only [List.nil_append, List.cons_append]
  rw [hn]
  generalize sysL l 6 = bs at *
  have hn1 := hv.n1
  repeat' (first | refine go ?_ | refine goX ?_ | refine goB ?_ | (refine goG ?_; intro g) | (refine goV ?_; intro v) | refine goD ?_ | refine goXD ?_ | (refine goDG ?_; intro g) | (refine goDV ?_; intro v) | apply WD.more_of | refine WM.more (by exact rfl) (by exact rfl) (by exact rfl) ?_ ?_ | refine WM.one (by exact rfl) (by exact rfl) (by exact rfl) ?_ | refine WM.more0 (by exact rfl) (by exact rfl) ?_ ?_ | refine WM.one0 (by exact rfl) (by exact rfl) ?_ | (refine goLG ?_; intro g) | (refine goLV ?_; intro v) | refine goLS ?_ | refine d6 ?_ | fail)
  first | refine WL.callK (solve_c 6 vb ms bs n hs.fit) ?_ | refine WD.callK (solve_c 6 vb ms bs n hs.fit) ?_ | refine LO.callM (solve_c 6 vb ms bs n hs.fit) ?_
  rintro rv bb GG ⟨ux, mx, uc, rfl, rfl, rfl⟩
  simp only [List.nil_append, List.cons_append]
  have hsw := slv_sml hs n
  by_cases hh : HasSol bs
  · have hX := sol_iff.1 ((sol_iff_has hv).2 hh)
    rw [slv_sol hv hh] at hsw ⊢
    have hXl := jacs_len bs n n
    have hX0 := jacs_le0 hv n
    have hle := fun (b : Bd) (hv2 : Vld n (bs ++ [b])) h i hi => lat_le (b := b) hv hv2 h i hi
    generalize jacs bs n n = X at *
    simp only at hsw ⊢
    have hw := hsw.1
    have a0 := @atP_lt p 0 n (by omega)
    have a1 := @atP_lt p 1 n (by omega)
    have a2 := @atP_lt p 2 12 (by decide)
    repeat' (first | refine go ?_ | refine goX ?_ | refine goB ?_ | (refine goG ?_; intro g) | (refine goV ?_; intro v) | refine goD ?_ | refine goXD ?_ | (refine goDG ?_; intro g) | (refine goDV ?_; intro v) | apply WD.more_of | refine WM.more (by exact rfl) (by exact rfl) (by exact rfl) ?_ ?_ | refine WM.one (by exact rfl) (by exact rfl) (by exact rfl) ?_ | refine WM.more0 (by exact rfl) (by exact rfl) ?_ ?_ | refine WM.one0 (by exact rfl) (by exact rfl) ?_ | (refine goLG ?_; intro g) | (refine goLV ?_; intro v) | refine goLS ?_ | refine d6 ?_ | fail)
    first | refine WL.callV (at_c v1 p 0 n hp (by omega)) ?_ | refine WD.callV (at_c v1 p 0 n hp (by omega)) ?_
    repeat' (first | refine go ?_ | refine goX ?_ | refine goB ?_ | (refine goG ?_; intro g) | (refine goV ?_; intro v) | refine goD ?_ | refine goXD ?_ | (refine goDG ?_; intro g) | (refine goDV ?_; intro v) | apply WD.more_of | refine WM.more (by exact rfl) (by exact rfl) (by exact rfl) ?_ ?_ | refine WM.one (by exact rfl) (by exact rfl) (by exact rfl) ?_ | refine WM.more0 (by exact rfl) (by exact rfl) ?_ ?_ | refine WM.one0 (by exact rfl) (by exact rfl) ?_ | (refine goLG ?_; intro g) | (refine goLV ?_; intro v) | refine goLS ?_ | refine d6 ?_ | fail)
    first | refine WL.callV (at_c v1 p 1 n hp (by omega)) ?_ | refine WD.callV (at_c v1 p 1 n hp (by omega)) ?_
    repeat' (first | refine go ?_ | refine goX ?_ | refine goB ?_ | (refine goG ?_; intro g) | (refine goV ?_; intro v) | refine goD ?_ | refine goXD ?_ | (refine goDG ?_; intro g) | (refine goDV ?_; intro v) | apply WD.more_of | refine WM.more (by exact rfl) (by exact rfl) (by exact rfl) ?_ ?_ | refine WM.one (by exact rfl) (by exact rfl) (by exact rfl) ?_ | refine WM.more0 (by exact rfl) (by exact rfl) ?_ ?_ | refine WM.one0 (by exact rfl) (by exact rfl) ?_ | (refine goLG ?_; intro g) | (refine goLV ?_; intro v) | refine goLS ?_ | refine d6 ?_ | fail)
    first | refine WL.callV (at_c v1 p 2 12 hp (by decide)) ?_ | refine WD.callV (at_c v1 p 2 12 hp (by decide)) ?_
    repeat' (first | refine go ?_ | refine goX ?_ | refine goB ?_ | (refine goG ?_; intro g) | (refine goV ?_; intro v) | refine goD ?_ | refine goXD ?_ | (refine goDG ?_; intro g) | (refine goDV ?_; intro v) | apply WD.more_of | refine WM.more (by exact rfl) (by exact rfl) (by exact rfl) ?_ ?_ | refine WM.one (by exact rfl) (by exact rfl) (by exact rfl) ?_ | refine WM.more0 (by exact rfl) (by exact rfl) ?_ ?_ | refine WM.one0 (by exact rfl) (by exact rfl) ?_ | (refine goLG ?_; intro g) | (refine goLV ?_; intro v) | refine goLS ?_ | refine d6 ?_ | fail)
    first | refine WL.callK (rofw_c 6 (-(atP p 2 12)) 1 6 (by decide) (by decide) (by unfold B2; omega) (by decide)) ?_ | refine WD.callK (rofw_c 6 (-(atP p 2 12)) 1 6 (by decide) (by decide) (by unfold B2; omega) (by decide)) ?_ | refine LO.callM (rofw_c 6 (-(atP p 2 12)) 1 6 (by decide) (by decide) (by unfold B2; omega) (by decide)) ?_
    rintro _ _ _ ⟨m2, rfl, rfl, rfl⟩
    simp only [List.nil_append, List.cons_append]
    have hv2 : Vld n (bs ++ [⟨atP p 0 n, atP p 1 n, -(atP p 2 12) * 6⟩]) := by
      have h := Vld.snoc hv (by omega) (a := (atP p 0 n).toNat) (c := (atP p 1 n).toNat) (by omega) (by omega) (-(atP p 2 12) * 6)
      rwa [Int.toNat_of_nonneg a0.1, Int.toNat_of_nonneg a1.1] at h
    have hs2 : Sml (bs ++ [⟨atP p 0 n, atP p 1 n, -(atP p 2 12) * 6⟩]) := by
      refine ⟨?_, by rw [List.length_append]; simp only [List.length_singleton]; omega⟩
      rw [absS_app]; simp only [absS, List.map_cons, List.map_nil, List.sum_cons, List.sum_nil] at hab ⊢; omega
    generalize atP p 0 n = b0 at *
    generalize atP p 1 n = b1 at *
    generalize -(atP p 2 12) = b2 at *
    generalize hbs2 : bs ++ [(⟨b0, b1, b2 * 6⟩ : Bd)] = bs2 at *
    repeat' (first | refine go ?_ | refine goX ?_ | refine goB ?_ | (refine goG ?_; intro g) | (refine goV ?_; intro v))
    refine WC.cutP (σ := Value × (Nat → QM)) (fun s => [(13, s.1), (15, .int .i64 (slv n bs2).2.2), (7, .int .i64 n), (8, vb), (9, ux), (2, .int .i64 by_)]) (fun _ => [])
      (fun s => [fR 6 s.1 s.2 (slv n bs2).1, ge h0, fR 6 ux mx X, fB 6 vb ms bs]) (fun _ => True) ?_ ?_
    · repeat' (first | refine go ?_ | refine goX ?_ | refine goB ?_ | (refine goG ?_; intro g) | (refine goV ?_; intro v) | refine goD ?_ | refine goXD ?_ | (refine goDG ?_; intro g) | (refine goDV ?_; intro v) | apply WD.more_of | refine WM.more (by exact rfl) (by exact rfl) (by exact rfl) ?_ ?_ | refine WM.one (by exact rfl) (by exact rfl) (by exact rfl) ?_ | refine WM.more0 (by exact rfl) (by exact rfl) ?_ ?_ | refine WM.one0 (by exact rfl) (by exact rfl) ?_ | (refine goLG ?_; intro g) | (refine goLV ?_; intro v) | refine goLS ?_ | refine d6 ?_ | fail)
      all_goals first | refine WD.l rfl rfl rfl (LO.bsB1 (b := ⟨b0, b1, b2 * 6⟩) (m := m2) rfl fun v => ⟨Or.inr ⟨slA, fun _ h => h⟩, ?_⟩) | refine LO.bsB1 (b := ⟨b0, b1, b2 * 6⟩) (m := m2) rfl fun v => ⟨Or.inr ⟨slA, fun _ h => h⟩, ?_⟩ | fail
      all_goals repeat' (first | refine go ?_ | refine goX ?_ | refine goB ?_ | (refine goG ?_; intro g) | (refine goV ?_; intro v) | refine goD ?_ | refine goXD ?_ | (refine goDG ?_; intro g) | (refine goDV ?_; intro v) | apply WD.more_of | refine WM.more (by exact rfl) (by exact rfl) (by exact rfl) ?_ ?_ | refine WM.one (by exact rfl) (by exact rfl) (by exact rfl) ?_ | refine WM.more0 (by exact rfl) (by exact rfl) ?_ ?_ | refine WM.one0 (by exact rfl) (by exact rfl) ?_ | (refine goLG ?_; intro g) | (refine goLV ?_; intro v) | refine goLS ?_ | refine d6 ?_ | fail)
      all_goals rw [hbs2]
      all_goals refine WD.freezeB (D := 6) (el := 59) v (upd ms bs.length m2) bs2 (by repeat (first | exact Sel.head | apply Sel.tail)) (by rw [← hbs2]; exact W.Has.mBapp (W.Has.bm (v := vb) hmA) hmA) ?_
      all_goals first | refine WL.callK (solve_c 6 v (upd ms bs.length m2) bs2 n hs2.fit) ?_ | refine WD.callK (solve_c 6 v (upd ms bs.length m2) bs2 n hs2.fit) ?_ | refine LO.callM (solve_c 6 v (upd ms bs.length m2) bs2 n hs2.fit) ?_
      all_goals rintro rv bb GG ⟨uy, my, ud, rfl, rfl, rfl⟩
      all_goals simp only [List.nil_append, List.cons_append]
      all_goals repeat' (first | refine go ?_ | refine goX ?_ | refine goB ?_ | (refine goG ?_; intro g) | (refine goV ?_; intro v) | refine goD ?_ | refine goXD ?_ | (refine goDG ?_; intro g) | (refine goDV ?_; intro v) | apply WD.more_of | refine WM.more (by exact rfl) (by exact rfl) (by exact rfl) ?_ ?_ | refine WM.one (by exact rfl) (by exact rfl) (by exact rfl) ?_ | refine WM.more0 (by exact rfl) (by exact rfl) ?_ ?_ | refine WM.one0 (by exact rfl) (by exact rfl) ?_ | (refine goLG ?_; intro g) | (refine goLV ?_; intro v) | refine goLS ?_ | refine d6 ?_ | fail)
      all_goals (apply Ex2; refine ⟨trivial, ?_, ?_, ?_⟩; (focus (repeat (first | exact Sub.nil _ | refine Sub.cons rfl ?_))); (focus (repeat (first | exact SubP.nil _ | (apply SubP.cons; (repeat (first | exact Rem.head | apply Rem.tail)))))); (focus (repeat (first | exact HasAll.nil | (apply HasAll.cons; exact hsA)))))
    rintro ⟨uy, my⟩ _
    simp only
    have hsw2 := slv_sml hs2 n
    by_cases hh2 : HasSol bs2
    · rw [slv_sol hv2 hh2] at hsw2 ⊢
      have hYl := jacs_len bs2 n n
      have hYX := hle _ (hbs2 ▸ hv2) (hbs2 ▸ hh2)
      rw [hbs2] at hYX
      have hsub : ∀ f, SolF bs2 f → SolF bs f := fun f h => SolF.sub (b := [⟨b0, b1, b2 * 6⟩]) (by rw [hbs2]; exact h)
      have hY := hsub _ (sol_iff.1 ((sol_iff_has hv2).2 hh2))
      generalize jacs bs2 n n = Y at *
      simp only at hsw2 ⊢
      have hw2 := hsw2.1
      refine WC.addNil 37 4 ?_
      refine WC.addNil 37 4 ?_
      refine WC.addNil 37 4 ?_
      have hby := @around_lt by_ 41 (by decide)
      repeat' (first | refine go ?_ | refine goX ?_ | refine goB ?_ | (refine goG ?_; intro g) | (refine goV ?_; intro v) | refine goD ?_ | refine goXD ?_ | (refine goDG ?_; intro g) | (refine goDV ?_; intro v) | apply WD.more_of | refine WM.more (by exact rfl) (by exact rfl) (by exact rfl) ?_ ?_ | refine WM.one (by exact rfl) (by exact rfl) (by exact rfl) ?_ | refine WM.more0 (by exact rfl) (by exact rfl) ?_ ?_ | refine WM.one0 (by exact rfl) (by exact rfl) ?_ | (refine goLG ?_; intro g) | (refine goLV ?_; intro v) | refine goLS ?_ | refine d6 ?_ | fail)
      first | refine WL.callV (around_c by_ 41 hb (by decide)) ?_ | refine WD.callV (around_c by_ 41 hb (by decide)) ?_
      repeat' (first | refine go ?_ | refine goX ?_ | refine goB ?_ | (refine goG ?_; intro g) | (refine goV ?_; intro v) | refine goD ?_ | refine goXD ?_ | (refine goDG ?_; intro g) | (refine goDV ?_; intro v) | apply WD.more_of | refine WM.more (by exact rfl) (by exact rfl) (by exact rfl) ?_ ?_ | refine WM.one (by exact rfl) (by exact rfl) (by exact rfl) ?_ | refine WM.more0 (by exact rfl) (by exact rfl) ?_ ?_ | refine WM.one0 (by exact rfl) (by exact rfl) ?_ | (refine goLG ?_; intro g) | (refine goLV ?_; intro v) | refine goLS ?_ | refine d6 ?_ | fail)
      first | refine WL.callK (rofw_c 6 (around by_ 41 - 20) 2 3 (by decide) (by decide) (by unfold B2; omega) (by decide)) ?_ | refine WD.callK (rofw_c 6 (around by_ 41 - 20) 2 3 (by decide) (by decide) (by unfold B2; omega) (by decide)) ?_ | refine LO.callM (rofw_c 6 (around by_ 41 - 20) 2 3 (by decide) (by decide) (by unfold B2; omega) (by decide)) ?_
      rintro _ _ _ ⟨m4, rfl, rfl, rfl⟩
      simp only [List.nil_append, List.cons_append]
      have hS : -20 ≤ around by_ 41 - 20 ∧ around by_ 41 - 20 ≤ 20 := by omega
      generalize around by_ 41 - 20 = S at *
      have hw' : ∀ i, (vl X i).natAbs ≤ 400000 := hw
      have hw2' : ∀ i, (vl Y i).natAbs ≤ 400000 := hw2
      obtain ⟨f1, hf1⟩ : ∃ f1 : Nat → Int, f1 = fun i => vl X i + S * ((3 : Nat) : Int) := ⟨_, rfl⟩
      have hs1 : SolF bs f1 := hf1 ▸ hX.shift _
      have hsx := hY.max hs1
      have hsn := hY.min hs1
      have e1 : ∀ i, f1 i = vl X i + S * ((3 : Nat) : Int) := fun i => by rw [hf1]
      have b1' : ∀ i, (f1 i).natAbs ≤ 410000 := fun i => by rw [e1]; have := hw' i; omega
      obtain ⟨f2, hf2⟩ : ∃ f2 : Nat → Int, f2 = fun i => if f1 i < vl Y i then vl Y i else f1 i := ⟨_, rfl⟩
      obtain ⟨f3, hf3⟩ : ∃ f3 : Nat → Int, f3 = fun i => if f1 i < vl Y i then f1 i else vl Y i := ⟨_, rfl⟩
      rw [← hf2] at hsx
      rw [← hf3] at hsn
      have e2 : ∀ i, f2 i = if f1 i < vl Y i then vl Y i else f1 i := fun i => by rw [hf2]
      have e3 : ∀ i, f3 i = if f1 i < vl Y i then f1 i else vl Y i := fun i => by rw [hf3]
      have b2' : ∀ i, (f2 i).natAbs ≤ 410000 := fun i => by rw [e2]; have := b1' i; have := hw2' i; split <;> omega
      have b3' : ∀ i, (f3 i).natAbs ≤ 410000 := fun i => by rw [e3]; have := b1' i; have := hw2' i; split <;> omega
      clear hf1 hf2 hf3
      repeat' (first | refine go ?_ | refine goX ?_ | refine goB ?_ | (refine goG ?_; intro g) | (refine goV ?_; intro v))
      revert g; intro g16
      refine WC.lp (σ := Nat × (Value × (Nat → QM)) × (Value × (Nat → QM)) × (Value × (Nat → QM))) (fun s => [(20, .int .i64 (s.1 : Int)), (17, s.2.1.1), (18, s.2.2.1.1), (19, s.2.2.2.1), (16, ptr g16), (9, ux), (13, uy), (7, .int .i64 n), (8, vb)])
        (fun s => [Ow.cells g16 37 (qcs m4), Ow.slice s.2.1.1 37 4 (qcells s.1 s.2.1.2), Ow.slice s.2.2.1.1 37 4 (qcells s.1 s.2.2.1.2), Ow.slice s.2.2.2.1 37 4 (qcells s.1 s.2.2.2.2)])
        (fun s => [mQ 6 s.2.1.2 (lsf f1 s.1), mQ 6 s.2.2.1.2 (lsf f2 s.1), mQ 6 s.2.2.2.2 (lsf f3 s.1), isQ (qv m4) (wq 6 (S * ((3 : Nat) : Int))), ge h0, fR 6 ux mx X, fR 6 uy my Y, fB 6 vb ms bs]) (fun s => s.1 ≤ n) (fun s => n - s.1) (0, (.slice none 0 0, fun _ => m00), (.slice none 0 0, fun _ => m00), (.slice none 0 0, fun _ => m00)) (Nat.zero_le _) ?_ suA slA (.cons (hasmQn _) (.cons (hasmQn _) (.cons (hasmQn _) sfA)))
      rintro ⟨i, ⟨u1, m1⟩, ⟨u2, m2⟩, ⟨u3, m3⟩⟩ hi
      simp only at hi ⊢
      by_cases c : i < n
      · have x1 : (X.getD i 0).natAbs ≤ 400000 := hw i
        have x2 : (Y.getD i 0).natAbs ≤ 400000 := hw2 i
        have x3 : X.getD i 0 ≤ 0 := hX0 i
        have x4 : Y.getD i 0 ≤ X.getD i 0 := hYX i c
        have x5 := b1' i
        have y1 : f1 i = X.getD i 0 + S * ((3 : Nat) : Int) := e1 i
        have y2 : f2 i = if f1 i < Y.getD i 0 then Y.getD i 0 else f1 i := e2 i
        have y3 : f3 i = if f1 i < Y.getD i 0 then f1 i else Y.getD i 0 := e3 i
        refine WC.fact (isQ (qv (mx i)) (wq 6 (X.getD i 0))) (W.Has.q (W.Has.rm (v := ux) hmA) (by omega)) ?_
        refine WC.fact (isQ (qv (my i)) (wq 6 (Y.getD i 0))) (W.Has.q (W.Has.rm (v := uy) hmA) (by omega)) ?_
        repeat' (first | refine go ?_ | refine goX ?_ | refine goB ?_ | (refine goG ?_; intro g) | (refine goV ?_; intro v))
        refine WC.cutP (σ := Nat × QM) (fun s => [(21, ptr s.1), (20, .int .i64 (i : Int)), (17, u1), (18, u2), (19, u3), (16, ptr g16), (9, ux), (13, uy), (7, .int .i64 n), (8, vb)])
          (fun s => [Ow.cells s.1 37 (qcs s.2), Ow.cells g16 37 (qcs m4), Ow.slice u1 37 4 (qcells i m1), Ow.slice u2 37 4 (qcells i m2), Ow.slice u3 37 4 (qcells i m3)])
          (fun s => [isQ (qv s.2) (wq 6 (X.getD i 0 + S * ((3 : Nat) : Int))), isQ (qv (mx i)) (wq 6 (X.getD i 0)), isQ (qv (my i)) (wq 6 (Y.getD i 0)), mQ 6 m1 (lsf f1 i), mQ 6 m2 (lsf f2 i), mQ 6 m3 (lsf f3 i), isQ (qv m4) (wq 6 (S * ((3 : Nat) : Int))), ge h0, fR 6 ux mx X, fR 6 uy my Y, fB 6 vb ms bs]) (fun _ => True) ?_ ?_
        · repeat' (first | refine go ?_ | refine goX ?_ | refine goB ?_ | (refine goG ?_; intro g) | (refine goV ?_; intro v) | refine goD ?_ | refine goXD ?_ | (refine goDG ?_; intro g) | (refine goDV ?_; intro v) | apply WD.more_of | refine WM.more (by exact rfl) (by exact rfl) (by exact rfl) ?_ ?_ | refine WM.one (by exact rfl) (by exact rfl) (by exact rfl) ?_ | refine WM.more0 (by exact rfl) (by exact rfl) ?_ ?_ | refine WM.one0 (by exact rfl) (by exact rfl) ?_ | (refine goLG ?_; intro g) | (refine goLV ?_; intro v) | refine goLS ?_ | refine d6 ?_ | fail)
          all_goals first | refine WL.callK (addw_c 6 (mx i) m4 (X.getD i 0) (S * ((3 : Nat) : Int)) (by unfold Lim; omega) (by unfold Lim; omega)) ?_ | refine WD.callK (addw_c 6 (mx i) m4 (X.getD i 0) (S * ((3 : Nat) : Int)) (by unfold Lim; omega) (by unfold Lim; omega)) ?_ | refine LO.callM (addw_c 6 (mx i) m4 (X.getD i 0) (S * ((3 : Nat) : Int)) (by unfold Lim; omega) (by unfold Lim; omega)) ?_
          all_goals rintro _ _ _ ⟨m5, rfl, rfl, rfl⟩
          all_goals simp only [List.nil_append, List.cons_append]
          all_goals repeat' (first | refine go ?_ | refine goX ?_ | refine goB ?_ | (refine goG ?_; intro g) | (refine goV ?_; intro v) | refine goD ?_ | refine goXD ?_ | (refine goDG ?_; intro g) | (refine goDV ?_; intro v) | apply WD.more_of | refine WM.more (by exact rfl) (by exact rfl) (by exact rfl) ?_ ?_ | refine WM.one (by exact rfl) (by exact rfl) (by exact rfl) ?_ | refine WM.more0 (by exact rfl) (by exact rfl) ?_ ?_ | refine WM.one0 (by exact rfl) (by exact rfl) ?_ | (refine goLG ?_; intro g) | (refine goLV ?_; intro v) | refine goLS ?_ | refine d6 ?_ | fail)
          all_goals (apply Ex2; refine ⟨trivial, ?_, ?_, ?_⟩; (focus (repeat (first | exact Sub.nil _ | refine Sub.cons rfl ?_))); (focus (repeat (first | exact SubP.nil _ | (apply SubP.cons; (repeat (first | exact Rem.head | apply Rem.tail)))))); (focus (repeat (first | exact HasAll.nil | (apply HasAll.cons; exact hsA)))))
        rintro ⟨g21, m5⟩ _
        simp only
        rw [show X.getD i 0 + S * ((3 : Nat) : Int) = f1 i from (e1 i).symm]
        repeat' (first | refine go ?_ | refine goX ?_ | refine goB ?_ | (refine goG ?_; intro g) | (refine goV ?_; intro v) | refine goD ?_ | refine goXD ?_ | (refine goDG ?_; intro g) | (refine goDV ?_; intro v) | apply WD.more_of | refine WM.more (by exact rfl) (by exact rfl) (by exact rfl) ?_ ?_ | refine WM.one (by exact rfl) (by exact rfl) (by exact rfl) ?_ | refine WM.more0 (by exact rfl) (by exact rfl) ?_ ?_ | refine WM.one0 (by exact rfl) (by exact rfl) ?_ | (refine goLG ?_; intro g) | (refine goLV ?_; intro v) | refine goLS ?_ | refine d6 ?_ | fail)
        first | refine WL.callV (cmpw_c 6 (my i) (mx i) (Y.getD i 0) (X.getD i 0) (by unfold Lim; omega) (by unfold Lim; omega)) ?_ | refine WD.callV (cmpw_c 6 (my i) (mx i) (Y.getD i 0) (X.getD i 0) (by unfold Lim; omega) (by unfold Lim; omega)) ?_
        have k1 : cmpI (Y.getD i 0) (X.getD i 0) ≤ 0 := by unfold cmpI; split <;> (try split) <;> omega
        repeat' (first | refine go ?_ | refine goX ?_ | refine goB ?_ | (refine goG ?_; intro g) | (refine goV ?_; intro v) | refine goD ?_ | refine goXD ?_ | (refine goDG ?_; intro g) | (refine goDV ?_; intro v) | apply WD.more_of | refine WM.more (by exact rfl) (by exact rfl) (by exact rfl) ?_ ?_ | refine WM.one (by exact rfl) (by exact rfl) (by exact rfl) ?_ | refine WM.more0 (by exact rfl) (by exact rfl) ?_ ?_ | refine WM.one0 (by exact rfl) (by exact rfl) ?_ | (refine goLG ?_; intro g) | (refine goLV ?_; intro v) | refine goLS ?_ | refine d6 ?_ | fail)
        first | refine WL.callV (signw_c 6 (mx i) (X.getD i 0)) ?_ | refine WD.callV (signw_c 6 (mx i) (X.getD i 0)) ?_
        have k2 : sgn (X.getD i 0) ≤ 0 := by unfold sgn; split <;> (try split) <;> omega
        repeat' (first | refine go ?_ | refine goX ?_ | refine goB ?_ | (refine goG ?_; intro g) | (refine goV ?_; intro v) | refine goD ?_ | refine goXD ?_ | (refine goDG ?_; intro g) | (refine goDV ?_; intro v) | apply WD.more_of | refine WM.more (by exact rfl) (by exact rfl) (by exact rfl) ?_ ?_ | refine WM.one (by exact rfl) (by exact rfl) (by exact rfl) ?_ | refine WM.more0 (by exact rfl) (by exact rfl) ?_ ?_ | refine WM.one0 (by exact rfl) (by exact rfl) ?_ | (refine goLG ?_; intro g) | (refine goLV ?_; intro v) | refine goLS ?_ | refine d6 ?_ | fail)
        first | refine WL.callV (cmpw_c 6 (my i) m5 (Y.getD i 0) (f1 i) (by unfold Lim; omega) (by unfold Lim; omega)) ?_ | refine WD.callV (cmpw_c 6 (my i) m5 (Y.getD i 0) (f1 i) (by unfold Lim; omega) (by unfold Lim; omega)) ?_
        by_cases c2 : f1 i < Y.getD i 0
        · rw [if_pos c2] at y2 y3
          rw [cmpI_gt c2]
          repeat' (first | refine go ?_ | refine goX ?_ | refine goB ?_ | (refine goG ?_; intro g) | (refine goV ?_; intro v) | refine goD ?_ | refine goXD ?_ | (refine goDG ?_; intro g) | (refine goDV ?_; intro v) | apply WD.more_of | refine WM.more (by exact rfl) (by exact rfl) (by exact rfl) ?_ ?_ | refine WM.one (by exact rfl) (by exact rfl) (by exact rfl) ?_ | refine WM.more0 (by exact rfl) (by exact rfl) ?_ ?_ | refine WM.one0 (by exact rfl) (by exact rfl) ?_ | (refine goLG ?_; intro g) | (refine goLV ?_; intro v) | refine goLS ?_ | refine d6 ?_ | fail)
          rename_i a1 w1 a2 w2 a3
          exact LoopEnd.mk (i + 1, (w1, upd m1 i m5), (w2, upd m2 i (my i)), (v, upd m3 i (m5))) (by show i + 1 ≤ n; omega) (by show n - (i + 1) < n - i; omega) suA slA (.cons (lsf_has rfl hmA hmA) (.cons (lsf_has y2.symm hmA hmA) (.cons (lsf_has y3.symm hmA hmA) sfA)))
        · rw [if_neg c2] at y2 y3
          have k3 : cmpI (Y.getD i 0) (f1 i) ≤ 0 := by unfold cmpI; split <;> (try split) <;> omega
          repeat' (first | refine go ?_ | refine goX ?_ | refine goB ?_ | (refine goG ?_; intro g) | (refine goV ?_; intro v) | refine goD ?_ | refine goXD ?_ | (refine goDG ?_; intro g) | (refine goDV ?_; intro v) | apply WD.more_of | refine WM.more (by exact rfl) (by exact rfl) (by exact rfl) ?_ ?_ | refine WM.one (by exact rfl) (by exact rfl) (by exact rfl) ?_ | refine WM.more0 (by exact rfl) (by exact rfl) ?_ ?_ | refine WM.one0 (by exact rfl) (by exact rfl) ?_ | (refine goLG ?_; intro g) | (refine goLV ?_; intro v) | refine goLS ?_ | refine d6 ?_ | fail)
          rename_i a1 w1 a2 w2 a3
          exact LoopEnd.mk (i + 1, (w1, upd m1 i m5), (w2, upd m2 i (m5)), (v, upd m3 i (my i))) (by show i + 1 ≤ n; omega) (by show n - (i + 1) < n - i; omega) suA slA (.cons (lsf_has rfl hmA hmA) (.cons (lsf_has y2.symm hmA hmA) (.cons (lsf_has y3.symm hmA hmA) sfA)))
      · obtain rfl : i = n := by omega
        repeat' (first | refine go ?_ | refine goX ?_ | refine goB ?_ | (refine goG ?_; intro g) | (refine goV ?_; intro v) | refine goD ?_ | refine goXD ?_ | (refine goDG ?_; intro g) | (refine goDV ?_; intro v) | apply WD.more_of | refine WM.more (by exact rfl) (by exact rfl) (by exact rfl) ?_ ?_ | refine WM.one (by exact rfl) (by exact rfl) (by exact rfl) ?_ | refine WM.more0 (by exact rfl) (by exact rfl) ?_ ?_ | refine WM.one0 (by exact rfl) (by exact rfl) ?_ | (refine goLG ?_; intro g) | (refine goLV ?_; intro v) | refine goLS ?_ | refine d6 ?_ | fail)
        refine WL.fact' (sI (.slice none 0 0) []) nil0 ?_
        refine WL.freezeR (D := 6) (el := 37) u1 m1 (lsf f1 i) (by rw [lsf_len]; repeat (first | exact Sel.head | apply Sel.tail)) hmA ?_
        refine WL.freezeR (D := 6) (el := 37) u2 m2 (lsf f2 i) (by rw [lsf_len]; repeat (first | exact Sel.head | apply Sel.tail)) hmA ?_
        refine WL.freezeR (D := 6) (el := 37) u3 m3 (lsf f3 i) (by rw [lsf_len]; repeat (first | exact Sel.head | apply Sel.tail)) hmA ?_
        first | refine WL.callV (check_c 6 vb u1 (.slice none 0 0) ms m1 bs (lsf f1 i) [] i hs.fit (by decide) (hs.mul (by decide)) ((lsf_wth (fun j _ => b1' j)).mono (by decide))) ?_ | refine WD.callV (check_c 6 vb u1 (.slice none 0 0) ms m1 bs (lsf f1 i) [] i hs.fit (by decide) (hs.mul (by decide)) ((lsf_wth (fun j _ => b1' j)).mono (by decide))) ?_
        rw [chk_lsf hv hs1]
        repeat' (first | refine go ?_ | refine goX ?_ | refine goB ?_ | (refine goG ?_; intro g) | (refine goV ?_; intro v) | refine goD ?_ | refine goXD ?_ | (refine goDG ?_; intro g) | (refine goDV ?_; intro v) | apply WD.more_of | refine WM.more (by exact rfl) (by exact rfl) (by exact rfl) ?_ ?_ | refine WM.one (by exact rfl) (by exact rfl) (by exact rfl) ?_ | refine WM.more0 (by exact rfl) (by exact rfl) ?_ ?_ | refine WM.one0 (by exact rfl) (by exact rfl) ?_ | (refine goLG ?_; intro g) | (refine goLV ?_; intro v) | refine goLS ?_ | refine d6 ?_ | fail)
        first | refine WL.callV (check_c 6 vb u2 (.slice none 0 0) ms m2 bs (lsf f2 i) [] i hs.fit (by decide) (hs.mul (by decide)) ((lsf_wth (fun j _ => b2' j)).mono (by decide))) ?_ | refine WD.callV (check_c 6 vb u2 (.slice none 0 0) ms m2 bs (lsf f2 i) [] i hs.fit (by decide) (hs.mul (by decide)) ((lsf_wth (fun j _ => b2' j)).mono (by decide))) ?_
        rw [chk_lsf hv hsx]
        repeat' (first | refine go ?_ | refine goX ?_ | refine goB ?_ | (refine goG ?_; intro g) | (refine goV ?_; intro v) | refine goD ?_ | refine goXD ?_ | (refine goDG ?_; intro g) | (refine goDV ?_; intro v) | apply WD.more_of | refine WM.more (by exact rfl) (by exact rfl) (by exact rfl) ?_ ?_ | refine WM.one (by exact rfl) (by exact rfl) (by exact rfl) ?_ | refine WM.more0 (by exact rfl) (by exact rfl) ?_ ?_ | refine WM.one0 (by exact rfl) (by exact rfl) ?_ | (refine goLG ?_; intro g) | (refine goLV ?_; intro v) | refine goLS ?_ | refine d6 ?_ | fail)
        first | refine WL.callV (check_c 6 vb u3 (.slice none 0 0) ms m3 bs (lsf f3 i) [] i hs.fit (by decide) (hs.mul (by decide)) ((lsf_wth (fun j _ => b3' j)).mono (by decide))) ?_ | refine WD.callV (check_c 6 vb u3 (.slice none 0 0) ms m3 bs (lsf f3 i) [] i hs.fit (by decide) (hs.mul (by decide)) ((lsf_wth (fun j _ => b3' j)).mono (by decide))) ?_
        rw [chk_lsf hv hsn]
        repeat' (first | refine go ?_ | refine goX ?_ | refine goB ?_ | (refine goG ?_; intro g) | (refine goV ?_; intro v) | refine goD ?_ | refine goXD ?_ | (refine goDG ?_; intro g) | (refine goDV ?_; intro v) | apply WD.more_of | refine WM.more (by exact rfl) (by exact rfl) (by exact rfl) ?_ ?_ | refine WM.one (by exact rfl) (by exact rfl) (by exact rfl) ?_ | refine WM.more0 (by exact rfl) (by exact rfl) ?_ ?_ | refine WM.one0 (by exact rfl) (by exact rfl) ?_ | (refine goLG ?_; intro g) | (refine goLV ?_; intro v) | refine goLS ?_ | refine d6 ?_ | fail)
        first | refine WL.callV (lives_c) ?_ | refine WD.callV (lives_c) ?_
        repeat' (first | refine go ?_ | refine goX ?_ | refine goB ?_ | (refine goG ?_; intro g) | (refine goV ?_; intro v) | refine goD ?_ | refine goXD ?_ | (refine goDG ?_; intro g) | (refine goDV ?_; intro v) | apply WD.more_of | refine WM.more (by exact rfl) (by exact rfl) (by exact rfl) ?_ ?_ | refine WM.one (by exact rfl) (by exact rfl) (by exact rfl) ?_ | refine WM.more0 (by exact rfl) (by exact rfl) ?_ ?_ | refine WM.one0 (by exact rfl) (by exact rfl) ?_ | (refine goLG ?_; intro g) | (refine goLV ?_; intro v) | refine goLS ?_ | refine d6 ?_ | fail)
        exact WC.ret (Fin.v (ResE.t1 rfl rfl) meA rfl)
    · rw [slv_no hv2 hh2]
      simp only
      repeat' (first | refine go ?_ | refine goX ?_ | refine goB ?_ | (refine goG ?_; intro g) | (refine goV ?_; intro v) | refine goD ?_ | refine goXD ?_ | (refine goDG ?_; intro g) | (refine goDV ?_; intro v) | apply WD.more_of | refine WM.more (by exact rfl) (by exact rfl) (by exact rfl) ?_ ?_ | refine WM.one (by exact rfl) (by exact rfl) (by exact rfl) ?_ | refine WM.more0 (by exact rfl) (by exact rfl) ?_ ?_ | refine WM.one0 (by exact rfl) (by exact rfl) ?_ | (refine goLG ?_; intro g) | (refine goLV ?_; intro v) | refine goLS ?_ | refine d6 ?_ | fail)
      first | refine WL.callV (lives_c) ?_ | refine WD.callV (lives_c) ?_
      repeat' (first | refine go ?_ | refine goX ?_ | refine goB ?_ | (refine goG ?_; intro g) | (refine goV ?_; intro v) | refine goD ?_ | refine goXD ?_ | (refine goDG ?_; intro g) | (refine goDV ?_; intro v) | apply WD.more_of | refine WM.more (by exact rfl) (by exact rfl) (by exact rfl) ?_ ?_ | refine WM.one (by exact rfl) (by exact rfl) (by exact rfl) ?_ | refine WM.more0 (by exact rfl) (by exact rfl) ?_ ?_ | refine WM.one0 (by exact rfl) (by exact rfl) ?_ | (refine goLG ?_; intro g) | (refine goLV ?_; intro v) | refine goLS ?_ | refine d6 ?_ | fail)
      exact WC.ret (Fin.v (ResE.t1 rfl rfl) meA rfl)
  · rw [slv_no hv hh]
    simp only
    repeat' (first | refine go ?_ | refine goX ?_ | refine goB ?_ | (refine goG ?_; intro g) | (refine goV ?_; intro v) | refine goD ?_ | refine goXD ?_ | (refine goDG ?_; intro g) | (refine goDV ?_; intro v) | apply WD.more_of | refine WM.more (by exact rfl) (by exact rfl) (by exact rfl) ?_ ?_ | refine WM.one (by exact rfl) (by exact rfl) (by exact rfl) ?_ | refine WM.more0 (by exact rfl) (by exact rfl) ?_ ?_ | refine WM.one0 (by exact rfl) (by exact rfl) ?_ | (refine goLG ?_; intro g) | (refine goLV ?_; intro v) | refine goLS ?_ | refine d6 ?_ | fail)
    first | refine WL.callV (lives_c) ?_ | refine WD.callV (lives_c) ?_
    repeat' (first | refine go ?_ | refine goX ?_ | refine goB ?_ | (refine goG ?_; intro g) | (refine goV ?_; intro v) | refine goD ?_ | refine goXD ?_ | (refine goDG ?_; intro g) | (refine goDV ?_; intro v) | apply WD.more_of | refine WM.more (by exact rfl) (by exact rfl) (by exact rfl) ?_ ?_ | refine WM.one (by exact rfl) (by exact rfl) (by exact rfl) ?_ | refine WM.more0 (by exact rfl) (by exact rfl) ?_ ?_ | refine WM.one0 (by exact rfl) (by exact rfl) ?_ | (refine goLG ?_; intro g) | (refine goLV ?_; intro v) | refine goLS ?_ | refine d6 ?_ | fail)
    exact WC.ret (Fin.v (ResE.t1 rfl rfl) meA rfl)
end J
end Go.Proofs.YthggloiigkbfeaaGreat
namespace Go.Proofs.YthggloiigkbfeaaGreat
open Go.ChangeShapes Go.WideShapes Go.ChangeAt Go.RowKit
open W
theorem Tryz.int3 : Tryz.prog.underlying 3 = some (.int .i64) := by kernel_rfl
theorem Tryz.sl22 : Tryz.prog.underlying 22 = some (.slice 3) := by kernel_rfl
theorem Tryz.bool4 : Tryz.prog.underlying 4 = some .bool := by kernel_rfl
theorem Tryz.one3 : Tryz.prog.cellsOf 3 = 1 := by kernel_rfl
set_option maxRecDepth 100000 in
theorem boundsLattice_lifted (os : Os) (started : os.Started) (H : Type) (enc : TypeId × Value → H) :
    ReturnsInHanded {} Tryz.checked os 6 .any (Rows.boundsLatticeSpec.pre6 enc Tryz.prog Tryz.f6 Rows.boundsLatticeRow.domain false) (Rows.boundsLatticeSpec.post enc Tryz.prog Tryz.f6 false true false false) := by
  refine returnsInHanded_of_change (C := Tryz.checked) Tryz.own started (by kernel_rfl) Tryz.func6
    (ChangeSpec.witness6 (enc := enc) (C := Tryz.checked) false ⟨#[], #[.slice none 0 0, .slice none 0 0, .int .i64 0], []⟩ 8 (by kernel_rfl) (by kernel_rfl) (by kernel_rfl) (by kernel_rfl)) ?_
  intro V1 base args ds gs before hval0 hW hcnd _
  have hval : ∀ (j : Nat) t v, Tryz.f6.params[j]? = some t → args[j]? = some v → Value.okWide Tryz.prog V1 .any base t v := hval0
  have hW' := hW
  obtain ⟨p, q, hA0, hV, rfl, hfz, hnd⟩ := hW
  have hA : DataW.TrodAll enc Tryz.prog V1 0 (fun _ => true) true Tryz.f6.params.toList args.toList ds p := hA0
  rw [Tryz.params6] at hA hval
  obtain ⟨args⟩ := args
  obtain ⟨v0, a1, d0, e1, p0, q1, rfl, rfl, rfl, h0, hA⟩ := trodAll_cons hA
  obtain ⟨v1, a2, d1, e2, p1, q2, rfl, rfl, rfl, h1, hA⟩ := trodAll_cons hA
  obtain ⟨v2, a3, d2, e3, p2, q3, rfl, rfl, rfl, h2, hA⟩ := trodAll_cons hA
  obtain ⟨rfl, rfl, rfl⟩ := trodAll_nil hA
  obtain ⟨rfl, rfl⟩ := trodVars_none hV
  obtain ⟨l0, hl0, f0, g0⟩ := arg_ints Tryz.sl22 Tryz.int3 Tryz.one3 (hval 0 22 v0 rfl rfl) h0
  obtain ⟨l1, hl1, f1, g1⟩ := arg_ints Tryz.sl22 Tryz.int3 Tryz.one3 (hval 1 22 v1 rfl rfl) h1
  obtain ⟨n2, rfl, hl2, g2⟩ := arg_int Tryz.int3 (hval 2 3 v2 rfl rfl) h2
  simp only [List.append_nil] at hW'
  refine (law_calls (J.lattice_c v0 v1 l0 l1 n2 hl0 hl1 hl2) (fun g hg => ?_)).mono fun e V2 hh2 => ?_
  · simp only [List.mem_cons, List.not_mem_nil, or_false] at hg
    rcases hg with rfl | rfl
    · exact f0
    · exact f1
  · obtain ⟨he, hr, hE⟩ := hh2
    refine ⟨_, he, post_law hW' (fun _ _ _ => trodAll_mk1 (shut_bool Tryz.bool4 _)) (fun sp hsp => ?_) (fun _ => rfl) hr hE (ok_one (by kernel_rfl) rfl (okWide_bool_mk Tryz.bool4 _))⟩
    have := (AgainAll.cons g0 (AgainAll.cons g1 (AgainAll.cons g2 AgainAll.nil))) V2 sp hE (by simpa using hsp)
    simp only [List.append_nil] at this
    show DataW.TrodAll enc Tryz.prog V2 0 sp true Tryz.f6.params.toList _ _ _
    rw [Tryz.params6]
    exact this
theorem boundsLattice_holds : Rows.BoundsLatticeSaid :=
  OpenClaim.holds_of_wide 6 Tryz.f6 rfl rfl rfl rfl rfl rfl rfl ⟨rfl, rfl, rfl, rfl, rfl⟩ rfl rfl rfl rfl rfl (by kernel_rfl) Tryz.func6 (by kernel_rfl)
    (of_decide_eq_true (by kernel_rfl)) (by unfold Func.isWrapper; first | (rw [if_pos (by decide +kernel)]; kernel_rfl) | (rw [if_neg (by decide +kernel)]; exact ⟨rfl, rfl⟩))
    (fun os started H enc _ => boundsLattice_lifted os started H enc)
#print axioms boundsLattice_holds
end Go.Proofs.YthggloiigkbfeaaGreat
