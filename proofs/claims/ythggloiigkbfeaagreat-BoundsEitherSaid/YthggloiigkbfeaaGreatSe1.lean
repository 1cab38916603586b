/- The law BoundsEither returns true for every input and leaves its arguments as they were. Conditions: none. -/
import Derived.Test.YthggloiigkbfeaaGreatBase6
set_option linter.unusedVariables false
set_option linter.unusedSimpArgs false
set_option linter.unusedSectionVars false
namespace Go.Proofs.YthggloiigkbfeaaGreat
open W Go.RowKit
theorem Vld.valid {n : Nat} {bs : List Bd} (h : Vld n bs) : validB n bs = true := validB_t (by have := h.n1; omega) (by have := h.n2; omega) h.l h.ok
theorem sysL_get {l : List Int} {most : Int} {i : Nat} (h : i < (sysL l most).length) : bg (sysL l most) i = sysB l (sysN l most) i := by
  unfold sysL at h ⊢
  rw [sysT_len] at h
  exact sysT_get _ _ h
/-- the laws' systems are valid -/
theorem sys_vld (l : List Int) {most : Int} (h0 : 0 < most) (h1 : most ≤ 8) : ∃ n : Nat, sysN l most = n ∧ n ≤ 8 ∧ Vld n (sysL l most) := by
  have h := sysN_le l h0
  refine ⟨(sysN l most).toNat, by omega, by omega, ⟨by omega, by omega, Nat.le_trans (sysL_len l most) (by decide), fun i hi => ?_⟩⟩
  rw [sysL_get hi, show (((sysN l most).toNat : Nat) : Int) = sysN l most by omega]
  exact ⟨atP_lt h.1, atP_lt h.1⟩
theorem slv_sol {n : Nat} {bs : List Bd} (hv : Vld n bs) (h : HasSol bs) : slv n bs = (jacs bs n n, [], 0) := by
  rw [slv_same]; unfold rslv
  rw [if_pos hv.valid, Int.toNat_natCast, if_pos ((sol_iff_has hv).2 h)]
theorem slv_no {n : Nat} {bs : List Bd} (hv : Vld n bs) (h : ¬ HasSol bs) : slv n bs = ([], cycP n bs, 14) := by
  rw [slv_same]; unfold rslv
  rw [if_pos hv.valid, Int.toNat_natCast, if_neg (fun c => h ((sol_iff_has hv).1 c)), ← cyc_same hv h]
theorem chk_x {n : Nat} {bs : List Bd} (hv : Vld n bs) (x : List Int) : chk n bs x [] = if x.length = n ∧ Sol bs x then 0 else 22 := by
  rw [chk_same]; unfold rchk
  rw [if_pos hv.valid, if_pos (show ([] : List Int).length = 0 from rfl), Int.toNat_natCast]
theorem chk_l {n : Nat} {bs : List Bd} (hv : Vld n bs) {l : List Int} (hl : 0 < l.length) : chk n bs [] l = if Idx bs l ∧ Clo bs l ∧ lenP bs l < 0 then 0 else 22 := by
  rw [chk_same]; unfold rchk
  rw [if_pos hv.valid, if_neg (by omega)]
  by_cases h : Idx bs l ∧ Clo bs l ∧ lenP bs l < 0
  · rw [if_pos h, if_pos ⟨h.1, h.2.1, rfl, h.2.2⟩]
  · rw [if_neg h, if_neg (fun c => h ⟨c.1, c.2.1, c.2.2.2⟩)]
theorem absS_set_le (bs : List Bd) (k : Nat) (b : Bd) : absS (bs.set k b) ≤ absS bs + b.w.natAbs := by
  induction bs generalizing k with
  | nil => simp [absS]
  | cons a bs ih =>
    cases k with
    | zero => simp only [List.set_cons_zero, absS, List.map_cons, List.sum_cons]; omega
    | succ k =>
      have := ih k
      simp only [List.set_cons_succ, absS, List.map_cons, List.sum_cons] at this ⊢; omega
theorem Vld.setw {n : Nat} {bs : List Bd} (hv : Vld n bs) (k : Nat) (z : Int) : Vld n (bs.set k { bg bs k with w := z }) := by
  refine ⟨hv.n1, hv.n2, by rw [List.length_set]; exact hv.l, fun i hi => ?_⟩
  rw [List.length_set] at hi
  by_cases c : k = i
  · subst c
    have := hv.ok k hi
    have e : bg (bs.set k { bg bs k with w := z }) k = { bg bs k with w := z } := by simp [bg, List.getD_eq_getElem?_getD, hi]
    rw [e]; exact this
  · have e : bg (bs.set k { bg bs k with w := z }) i = bg bs i := by
      simp only [bg, List.getD_eq_getElem?_getD]; rw [List.getElem?_set_ne c]
    rw [e]; exact hv.ok i hi
theorem bg_app {bs : List Bd} {e : Bd} {i : Nat} (h : i < bs.length) : bg (bs ++ [e]) i = bg bs i := by
  simp only [bg, List.getD_eq_getElem?_getD]; rw [List.getElem?_append_left h]
theorem bg_last {bs : List Bd} {e : Bd} : bg (bs ++ [e]) bs.length = e := by simp [bg, List.getD_eq_getElem?_getD]
theorem Vld.snoc {n : Nat} {bs : List Bd} (hv : Vld n bs) (hl : bs.length < 2048) {a c : Nat} (ha : a < n) (hc : c < n) (w : Int) : Vld n (bs ++ [⟨a, c, w⟩]) := by
  refine ⟨hv.n1, hv.n2, by simp; omega, fun i hi => ?_⟩
  by_cases h : i < bs.length
  · rw [bg_app h]; exact hv.ok i h
  · obtain rfl : i = bs.length := by simp at hi; omega
    rw [bg_last]; refine ⟨⟨?_, ?_⟩, ?_, ?_⟩ <;> simp only <;> omega
/-! ## Lattice -/
theorem SolF.sub {a b : List Bd} {f : Nat → Int} (h : SolF (a ++ b) f) : SolF a f := fun x hx => h x (List.mem_append_left _ hx)
theorem lat_le {n : Nat} {bs : List Bd} {b : Bd} (hv : Vld n bs) (hv2 : Vld n (bs ++ [b])) (h : HasSol (bs ++ [b])) (i : Nat) (hi : i < n) : vl (jacs (bs ++ [b]) n n) i ≤ vl (jacs bs n n) i :=
  jacs_great hv (SolF.sub (sol_iff.1 ((sol_iff_has hv2).2 h))) (fun v _ => jacs_le0 hv2 n v) n i hi
theorem SolF.shift {bs : List Bd} {f : Nat → Int} (h : SolF bs f) (s : Int) : SolF bs (fun i => f i + s) := fun b hb => by have := h b hb; show f b.to.toNat + s ≤ f b.fr.toNat + s + b.w; omega
theorem SolF.max {bs : List Bd} {f k : Nat → Int} (h : SolF bs f) (h2 : SolF bs k) : SolF bs (fun i => if k i < f i then f i else k i) := fun b hb => by
  have h3 := h b hb
  have h4 := h2 b hb
  show (if k b.to.toNat < f b.to.toNat then f b.to.toNat else k b.to.toNat) ≤ (if k b.fr.toNat < f b.fr.toNat then f b.fr.toNat else k b.fr.toNat) + b.w
  split <;> split <;> omega
theorem SolF.min {bs : List Bd} {f k : Nat → Int} (h : SolF bs f) (h2 : SolF bs k) : SolF bs (fun i => if k i < f i then k i else f i) := fun b hb => by
  have h3 := h b hb
  have h4 := h2 b hb
  show (if k b.to.toNat < f b.to.toNat then k b.to.toNat else f b.to.toNat) ≤ (if k b.fr.toNat < f b.fr.toNat then k b.fr.toNat else f b.fr.toNat) + b.w
  split <;> split <;> omega
/-- a solution az a list -/
theorem sol_list {n : Nat} {bs : List Bd} (hv : Vld n bs) {f : Nat → Int} (h : SolF bs f) : Sol bs ((List.range n).map f) := by
  refine sol_iff.2 fun b hb => ?_
  have h1 := hv.tos b hb
  have h2 := hv.frs b hb
  have h3 := h b hb
  simp only [vl, List.getD_eq_getElem?_getD, List.getElem?_map, List.getElem?_range h1, List.getElem?_range h2, Option.map_some, Option.getD_some]
  exact h3
/-! ## A bound made stricter, a cycle made weaker -/
theorem not_sol_set {bs : List Bd} {x : List Int} {k : Nat} (hk : k < bs.length) {w : Int} (hw : w < vl x (bg bs k).to.toNat - vl x (bg bs k).fr.toNat) : ¬ Sol (bs.set k { bg bs k with w := w }) x := by
  intro h
  have := h k (by rw [List.length_set]; exact hk)
  simp only [bg, List.getD_eq_getElem?_getD, List.getElem?_set_self hk, Option.getD_some] at this hw
  omega
theorem wlk_cyc {bs : List Bd} {l : List Int} {u v : Int} (h : Wlk bs u l v) : ∀ i, i < l.length → (0 ≤ l.getD i 0 ∧ l.getD i 0 < bs.length) ∧ (bg bs (l.getD i 0).toNat).to = (if i + 1 = l.length then v else (bg bs (l.getD (i + 1) 0).toNat).fr) := by
  induction l generalizing u with
  | nil => intro i hi; simp at hi
  | cons a l ih =>
    obtain ⟨h1, h2, h3⟩ := h
    intro i hi
    cases i with
    | zero =>
      refine ⟨h1, ?_⟩
      cases l with
      | nil => exact h3
      | cons c l => rw [if_neg (by simp)]; exact h3.2.1.symm
    | succ i =>
      have := ih h3 i (by simpa using hi)
      simpa using this
theorem next_eq' {n i : Nat} (h : i < n) : (((i : Int) + 1) % (n : Int)).toNat = if i + 1 = n then 0 else i + 1 := by
  by_cases c : i + 1 = n
  · rw [if_pos c, show (i : Int) + 1 = n by omega, Int.emod_self]; rfl
  · rw [if_neg c, Int.emod_eq_of_lt (by omega) (by omega)]; omega
theorem neg_idx {bs : List Bd} {m : Nat} {l : List Int} (h : Neg bs m l) : Idx bs l ∧ Clo bs l ∧ lenP bs l < 0 := by
  obtain ⟨_, h2, u, h3⟩ := h
  have h4 := wlk_cyc h3
  refine ⟨fun i hi => (h4 i hi).1, fun i hi => ?_, h2⟩
  rw [(h4 i hi).2]
  unfold nxi
  rw [next_eq' hi]
  by_cases c : i + 1 = l.length
  · rw [if_pos c, if_pos c]
    cases l with
    | nil => simp at hi
    | cons a l => exact h3.2.1.symm
  · rw [if_neg c, if_neg c]
theorem lenP_set {bs : List Bd} {k : Nat} (hk : k < bs.length) (d : Int) : ∀ l : List Int, (∀ x ∈ l, 0 ≤ x) → l.Nodup → lenP (bs.set k { bg bs k with w := (bg bs k).w + d }) l = lenP bs l + (if (k : Int) ∈ l then d else 0) := by
  intro l
  induction l with
  | nil => intro _ _; simp [lenP]
  | cons a l ih =>
    intro h1 h2
    have h3 := ih (fun x hx => h1 x (List.mem_cons_of_mem _ hx)) (List.nodup_cons.1 h2).2
    have h4 := (List.nodup_cons.1 h2).1
    have ha := h1 a (List.mem_cons_self)
    rw [lenP_cons, lenP_cons, h3]
    by_cases c : a.toNat = k
    · have hak : (k : Int) = a := by omega
      have e : (bg (bs.set k { bg bs k with w := (bg bs k).w + d }) a.toNat).w = (bg bs k).w + d := by
        rw [c]; simp [bg, List.getD_eq_getElem?_getD, hk]
      rw [e, c, hak, if_neg h4, if_pos (List.mem_cons_self)]; omega
    · have e : bg (bs.set k { bg bs k with w := (bg bs k).w + d }) a.toNat = bg bs a.toNat := by
        simp only [bg, List.getD_eq_getElem?_getD]; rw [List.getElem?_set_ne (fun h => c h.symm)]
      have hm : ((k : Int) ∈ a :: l) ↔ (k : Int) ∈ l := by
        rw [List.mem_cons]; exact ⟨fun h => h.elim (fun h => absurd (by omega) c) id, Or.inr⟩
      rw [e]; simp only [hm]; omega
theorem cyc_nodup {n : Nat} {bs : List Bd} (hv : Vld n bs) (h : ¬ HasSol bs) : ∃ m, 0 < m ∧ m ≤ n ∧ Neg bs m (cycP n bs) ∧ (cycP n bs).Nodup := by
  obtain ⟨m, hm⟩ := neg_min ((neg_iff hv).2 h)
  have h1 := (cycP_spec hv hm).1
  refine ⟨m, hm.pos, hm.le hv, h1, ?_⟩
  have := hm.nodup h1
  unfold frs at this
  exact List.Pairwise.of_map _ (fun a b hab e => hab (by rw [e])) this
/-- the changed cycle is refused -/
theorem cyc_weak {n : Nat} {bs : List Bd} (hv : Vld n bs) (h : ¬ HasSol bs) {j : Nat} (hj : j < (cycP n bs).length) (hv2 : Vld n (bs.set ((cycP n bs).getD j 0).toNat { bg bs ((cycP n bs).getD j 0).toNat with w := (bg bs ((cycP n bs).getD j 0).toNat).w - lenP bs (cycP n bs) })) :
    chk n (bs.set ((cycP n bs).getD j 0).toNat { bg bs ((cycP n bs).getD j 0).toNat with w := (bg bs ((cycP n bs).getD j 0).toNat).w - lenP bs (cycP n bs) }) [] (cycP n bs) = 22 := by
  obtain ⟨m, hm0, hmn, hn, hd⟩ := cyc_nodup hv h
  have hi := (neg_idx hn).1
  have hpos : ∀ x ∈ cycP n bs, 0 ≤ x := fun x hx => by
    obtain ⟨i, h1, rfl⟩ := List.getElem_of_mem hx
    have := (hi i h1).1
    simpa [List.getD_eq_getElem?_getD, h1] using this
  have hk := hi j hj
  have hmem : (((cycP n bs).getD j 0).toNat : Int) ∈ cycP n bs := by
    rw [Int.toNat_of_nonneg hk.1, List.getD_eq_getElem?_getD, List.getElem?_eq_getElem hj]
    exact List.getElem_mem _
  rw [chk_l hv2 (by omega), if_neg]
  rintro ⟨_, _, h3⟩
  have := lenP_set (bs := bs) (k := ((cycP n bs).getD j 0).toNat) (by omega) (- lenP bs (cycP n bs)) (cycP n bs) hpos hd
  rw [if_pos hmem] at this
  rw [Int.sub_eq_add_neg, this] at h3
  omega
end Go.Proofs.YthggloiigkbfeaaGreat
namespace Go.Proofs.YthggloiigkbfeaaGreat
open W Go.RowKit
namespace J
open G H I
attribute [local irreducible] WC WL WD YO LO LoopEnd W.Fin Scalar SliceT FieldAt Row ArrT AllocT KnS Has W.One SrcE IntT
theorem d8 {G G' : Prop} (h : G') (s : Bx G' → G := by
  intro h
  first | (apply WC.draw (id := 14) [0, 1, 2, 3, 4, 5, 6, 7, 8] (.held 0 (.held 1 (.held 2 (.held 3 (.held 4 (.held 5 (.held 6 (.held 7 (.held 8 (.loud 9 (.loud 10 (.done)))))))))))) mixed (by kernel_rfl)) | (apply WC.draw (id := 15) [0, 1, 2, 3, 4, 5, 6, 7, 9, 10] (.held 0 (.held 1 (.held 2 (.held 3 (.held 4 (.held 5 (.held 6 (.held 7 (.loud 8 (.held 9 (.held 10 (.loud 11 (.done))))))))))))) mixed (by kernel_rfl)) | (apply WC.draw (id := 20) [0, 1, 2, 3, 4, 5, 6, 7, 8, 9, 10, 11, 12, 13, 14, 15, 16, 17, 21, 22] (.held 0 (.held 1 (.held 2 (.held 3 (.held 4 (.held 5 (.held 6 (.held 7 (.held 8 (.held 9 (.held 10 (.held 11 (.held 12 (.held 13 (.held 14 (.held 15 (.held 16 (.held 17 (.loud 18 (.loud 19 (.loud 20 (.held 21 (.held 22 (.loud 23 (.done))))))))))))))))))))))))) mixed (by kernel_rfl)) | fail
  exact Bx.h h) : G := s ⟨h⟩
set_option maxHeartbeats 16000000 in
set_option maxRecDepth 60000 in
theorem either_c (v0 : Value) (l : List Int) (at_ : Int) (hl : ∀ x ∈ l, I64 x) (ha : I64 at_) :
    FnB Tryz.prog 8 [v0, .int .i64 at_] [] [sI v0 l] (IsV (.bool true)) := by
  refine fn_of [(0, v0), (1, (.int .i64 at_))] 175 Tryz.func8 rfl Tryz.ntmps8 (by kernel_rfl) rfl suA fun h0 => ?_
  have hz : ([] : List Int).length = 0 := rfl
  have hs := sysL_sml l (most := 6) (by decide) (by decide)
  have hsl := sysL_len l 6
  have hsa := sysL_abs l (most := 6) (by decide) (by decide)
  obtain ⟨n, hn, hn8, hv⟩ := sys_vld l (most := 6) (by decide) (by decide)
  repeat' (first | refine go ?_ | refine goX ?_ | refine goB ?_ | (refine goG ?_; intro g) | (refine goV ?_; intro v) | refine goD ?_ | refine goXD ?_ | (refine goDG ?_; intro g) | (refine goDV ?_; intro v) | refine d8 ?_ | fail)
  first | refine WL.callK (system_c v0 l 6 hl (by decide) (by decide)) ?_ | refine WD.callK (system_c v0 l 6 hl (by decide) (by decide)) ?_ | refine LO.callM (system_c v0 l 6 hl (by decide) (by decide)) ?_
  rintro rv bb GG ⟨vb, ms, rfl, rfl, rfl⟩
  simp only [List.nil_append, List.cons_append]
  rw [hn]
  generalize sysL l 6 = bs at *
  repeat' (first | refine go ?_ | refine goX ?_ | refine goB ?_ | (refine goG ?_; intro g) | (refine goV ?_; intro v) | refine goD ?_ | refine goXD ?_ | (refine goDG ?_; intro g) | (refine goDV ?_; intro v) | refine d8 ?_ | fail)
  first | refine WL.callK (solve_c 6 vb ms bs n hs.fit) ?_ | refine WD.callK (solve_c 6 vb ms bs n hs.fit) ?_ | refine LO.callM (solve_c 6 vb ms bs n hs.fit) ?_
  rintro rv bb GG ⟨ux, mx, uc, rfl, rfl, rfl⟩
  simp only [List.nil_append, List.cons_append]
  have hsw := slv_sml hs n
  have hn1 := hv.n1
  have hab := hs.1
  by_cases hh : HasSol bs
  · rw [slv_sol hv hh] at hsw ⊢
    have hX := (sol_iff_has hv).2 hh
    have hXl := jacs_len bs n n
    generalize jacs bs n n = X at *
    simp only at hsw ⊢
    have hw := hsw.1
    repeat' (first | refine go ?_ | refine goX ?_ | refine goB ?_ | (refine goG ?_; intro g) | (refine goV ?_; intro v) | refine goD ?_ | refine goXD ?_ | (refine goDG ?_; intro g) | (refine goDV ?_; intro v) | refine d8 ?_ | fail)
    first | refine WL.callV (check_c 6 vb ux uc ms mx bs X [] n hs.fit (by decide) (hs.mul (by decide)) (hw.mono (by decide))) ?_ | refine WD.callV (check_c 6 vb ux uc ms mx bs X [] n hs.fit (by decide) (hs.mul (by decide)) (hw.mono (by decide))) ?_
    rw [chk_x hv, if_pos ⟨hXl, hX⟩]
    repeat' (first | refine go ?_ | refine goX ?_ | refine goB ?_ | (refine goG ?_; intro g) | (refine goV ?_; intro v) | refine goD ?_ | refine goXD ?_ | (refine goDG ?_; intro g) | (refine goDV ?_; intro v) | refine d8 ?_ | fail)
    by_cases c0 : bs.length = 0
    · repeat' (first | refine go ?_ | refine goX ?_ | refine goB ?_ | (refine goG ?_; intro g) | (refine goV ?_; intro v) | refine goD ?_ | refine goXD ?_ | (refine goDG ?_; intro g) | (refine goDV ?_; intro v) | refine d8 ?_ | fail)
      first | refine WL.callV (lives_c) ?_ | refine WD.callV (lives_c) ?_
      repeat' (first | refine go ?_ | refine goX ?_ | refine goB ?_ | (refine goG ?_; intro g) | (refine goV ?_; intro v) | refine goD ?_ | refine goXD ?_ | (refine goDG ?_; intro g) | (refine goDV ?_; intro v) | refine d8 ?_ | fail)
      exact WC.ret (Fin.v (ResE.t1 rfl rfl) meA rfl)
    · have hk0 := @around_lt at_ (bs.length : Int) (by omega)
      repeat' (first | refine go ?_ | refine goX ?_ | refine goB ?_ | (refine goG ?_; intro g) | (refine goV ?_; intro v) | refine goD ?_ | refine goXD ?_ | (refine goDG ?_; intro g) | (refine goDV ?_; intro v) | refine d8 ?_ | fail)
      first | refine WL.callV (around_c at_ (bs.length : Int) ha (by omega)) ?_ | refine WD.callV (around_c at_ (bs.length : Int) ha (by omega)) ?_
      obtain ⟨k, hk⟩ : ∃ k : Nat, around at_ (bs.length : Int) = k := ⟨(around at_ (bs.length : Int)).toNat, by omega⟩
      rw [hk] at hk0 ⊢
      have hkl : k < bs.length := by omega
      obtain ⟨⟨o1, o2⟩, o3, o4⟩ := hv.ok k hkl
      have x1 := hw (bg bs k).fr.toNat
      have x2 := hw (bg bs k).to.toNat
      refine WL.fact' (isQ (qv (mx (bg bs k).to.toNat)) (wq 6 (X.getD (bg bs k).to.toNat 0))) (W.Has.q (W.Has.rm (v := ux) hmA) (by omega)) ?_
      refine WL.fact' (isQ (qv (mx (bg bs k).fr.toNat)) (wq 6 (X.getD (bg bs k).fr.toNat 0))) (W.Has.q (W.Has.rm (v := ux) hmA) (by omega)) ?_
      repeat' (first | refine go ?_ | refine goX ?_ | refine goB ?_ | (refine goG ?_; intro g) | (refine goV ?_; intro v) | refine goD ?_ | refine goXD ?_ | (refine goDG ?_; intro g) | (refine goDV ?_; intro v) | refine d8 ?_ | fail)
      first | refine WL.callK (subw_c 6 (mx (bg bs k).to.toNat) (mx (bg bs k).fr.toNat) (X.getD (bg bs k).to.toNat 0) (X.getD (bg bs k).fr.toNat 0) (by unfold Lim; omega) (by unfold Lim; omega)) ?_ | refine WD.callK (subw_c 6 (mx (bg bs k).to.toNat) (mx (bg bs k).fr.toNat) (X.getD (bg bs k).to.toNat 0) (X.getD (bg bs k).fr.toNat 0) (by unfold Lim; omega) (by unfold Lim; omega)) ?_ | refine LO.callM (subw_c 6 (mx (bg bs k).to.toNat) (mx (bg bs k).fr.toNat) (X.getD (bg bs k).to.toNat 0) (X.getD (bg bs k).fr.toNat 0) (by unfold Lim; omega) (by unfold Lim; omega)) ?_
      rintro _ _ _ ⟨m2, rfl, rfl, rfl⟩
      simp only [List.nil_append, List.cons_append]
      repeat' (first | refine go ?_ | refine goX ?_ | refine goB ?_ | (refine goG ?_; intro g) | (refine goV ?_; intro v) | refine goD ?_ | refine goXD ?_ | (refine goDG ?_; intro g) | (refine goDV ?_; intro v) | refine d8 ?_ | fail)
      first | refine WL.callK (ofw_c 6 1 3 2 (by decide) (by decide) (by decide) (by decide)) ?_ | refine WD.callK (ofw_c 6 1 3 2 (by decide) (by decide) (by decide) (by decide)) ?_ | refine LO.callM (ofw_c 6 1 3 2 (by decide) (by decide) (by decide) (by decide)) ?_
      rintro _ _ _ ⟨m3, rfl, rfl, rfl⟩
      simp only [List.nil_append, List.cons_append]
      repeat' (first | refine go ?_ | refine goX ?_ | refine goB ?_ | (refine goG ?_; intro g) | (refine goV ?_; intro v) | refine goD ?_ | refine goXD ?_ | (refine goDG ?_; intro g) | (refine goDV ?_; intro v) | refine d8 ?_ | fail)
      first | refine WL.callK (subw_c 6 m2 m3 (X.getD (bg bs k).to.toNat 0 - X.getD (bg bs k).fr.toNat 0) (1 * ((2 : Nat) : Int)) (by unfold Lim; omega) (by unfold Lim; decide)) ?_ | refine WD.callK (subw_c 6 m2 m3 (X.getD (bg bs k).to.toNat 0 - X.getD (bg bs k).fr.toNat 0) (1 * ((2 : Nat) : Int)) (by unfold Lim; omega) (by unfold Lim; decide)) ?_ | refine LO.callM (subw_c 6 m2 m3 (X.getD (bg bs k).to.toNat 0 - X.getD (bg bs k).fr.toNat 0) (1 * ((2 : Nat) : Int)) (by unfold Lim; omega) (by unfold Lim; decide)) ?_
      rintro _ _ _ ⟨m4, rfl, rfl, rfl⟩
      simp only [List.nil_append, List.cons_append]
      obtain ⟨wn, hwn⟩ : ∃ wn, wn = X.getD (bg bs k).to.toNat 0 - X.getD (bg bs k).fr.toNat 0 - 1 * ((2 : Nat) : Int) := ⟨_, rfl⟩
      rw [← hwn]
      have hv2 : Vld n (bs.set k ⟨(bg bs k).fr, (bg bs k).to, wn⟩) := hv.setw k wn
      have hno : ¬ Sol (bs.set k ⟨(bg bs k).fr, (bg bs k).to, wn⟩) X := not_sol_set (bs := bs) (x := X) hkl (show wn < X.getD (bg bs k).to.toNat 0 - X.getD (bg bs k).fr.toNat 0 by omega)
      have hab2 : absS (bs.set k ⟨(bg bs k).fr, (bg bs k).to, wn⟩) ≤ absS bs + wn.natAbs := absS_set_le bs k ⟨(bg bs k).fr, (bg bs k).to, wn⟩
      have hf2 : Fit (bs.set k ⟨(bg bs k).fr, (bg bs k).to, wn⟩) := by unfold Fit; omega
      have hm2 : ∀ {F : List Fct}, Has F (mB 6 ms bs) → Has F (isQ (qv m4) (wq 6 wn)) → Has F (mB 6 (upd ms k m4) (bs.set k ⟨(bg bs k).fr, (bg bs k).to, wn⟩)) := fun h1 h2 => W.Has.mBset h1 h2 hkl
      repeat' (first | refine go ?_ | refine goX ?_ | refine goB ?_ | (refine goG ?_; intro g) | (refine goV ?_; intro v) | refine goD ?_ | refine goXD ?_ | (refine goDG ?_; intro g) | (refine goDV ?_; intro v) | refine d8 ?_ | fail)
      refine WL.freezeB (D := 6) (el := 59) v (upd ms k m4) (bs.set k ⟨(bg bs k).fr, (bg bs k).to, wn⟩) (by repeat (first | exact Sel.head | apply Sel.tail)) (hm2 (W.Has.bm (v := vb) hmA) hmA) ?_
      refine WL.fact' (sI (.slice none 0 0) []) nil0 ?_
      first | refine WL.callV (check_c 6 v ux (.slice none 0 0) (upd ms k m4) mx (bs.set k ⟨(bg bs k).fr, (bg bs k).to, wn⟩) X [] n hf2 (by decide) (by rw [List.length_nil, Nat.zero_mul]; decide) (hw.mono (by decide))) ?_ | refine WD.callV (check_c 6 v ux (.slice none 0 0) (upd ms k m4) mx (bs.set k ⟨(bg bs k).fr, (bg bs k).to, wn⟩) X [] n hf2 (by decide) (by rw [List.length_nil, Nat.zero_mul]; decide) (hw.mono (by decide))) ?_
      rw [chk_x hv2, if_neg (fun h => hno h.2)]
      repeat' (first | refine go ?_ | refine goX ?_ | refine goB ?_ | (refine goG ?_; intro g) | (refine goV ?_; intro v) | refine goD ?_ | refine goXD ?_ | (refine goDG ?_; intro g) | (refine goDV ?_; intro v) | refine d8 ?_ | fail)
      first | refine WL.callV (lives_c) ?_ | refine WD.callV (lives_c) ?_
      repeat' (first | refine go ?_ | refine goX ?_ | refine goB ?_ | (refine goG ?_; intro g) | (refine goV ?_; intro v) | refine goD ?_ | refine goXD ?_ | (refine goDG ?_; intro g) | (refine goDV ?_; intro v) | refine d8 ?_ | fail)
      exact WC.ret (Fin.v (ResE.t1 rfl rfl) meA rfl)
  · rw [slv_no hv hh] at hsw ⊢
    obtain ⟨m, hm0, hmn, hneg, hnd⟩ := cyc_nodup hv hh
    obtain ⟨i1, i2, i3⟩ := neg_idx hneg
    have hcl : (cycP n bs).length = m := hneg.1
    have hweak := fun (j : Nat) (hj : j < (cycP n bs).length) => cyc_weak hv hh hj (hv.setw _ _)
    generalize cycP n bs = C at *
    simp only at hsw ⊢
    repeat' (first | refine go ?_ | refine goX ?_ | refine goB ?_ | (refine goG ?_; intro g) | (refine goV ?_; intro v) | refine goD ?_ | refine goXD ?_ | (refine goDG ?_; intro g) | (refine goDV ?_; intro v) | refine d8 ?_ | fail)
    first | refine WL.callV (check_c 6 vb ux uc ms mx bs [] C n hs.fit (by omega) (hs.mul (by omega)) Wth.nil) ?_ | refine WD.callV (check_c 6 vb ux uc ms mx bs [] C n hs.fit (by omega) (hs.mul (by omega)) Wth.nil) ?_
    rw [chk_l hv (by omega), if_pos ⟨i1, i2, i3⟩]
    repeat' (first | refine go ?_ | refine goX ?_ | refine goB ?_ | (refine goG ?_; intro g) | (refine goV ?_; intro v) | refine goD ?_ | refine goXD ?_ | (refine goDG ?_; intro g) | (refine goDV ?_; intro v) | refine d8 ?_ | fail)
    have hj0 := @around_lt at_ (C.length : Int) (by omega)
    first | refine WL.callV (around_c at_ (C.length : Int) ha (by omega)) ?_ | refine WD.callV (around_c at_ (C.length : Int) ha (by omega)) ?_
    obtain ⟨j, hj⟩ : ∃ j : Nat, around at_ (C.length : Int) = j := ⟨(around at_ (C.length : Int)).toNat, by omega⟩
    rw [hj] at hj0 ⊢
    have hjl : j < C.length := by omega
    have hix := i1 j hjl
    repeat' (first | refine go ?_ | refine goX ?_ | refine goB ?_ | (refine goG ?_; intro g) | (refine goV ?_; intro v) | refine goD ?_ | refine goXD ?_ | (refine goDG ?_; intro g) | (refine goDV ?_; intro v) | refine d8 ?_ | fail)
    revert g; intro g12
    revert v; intro vc
    refine WC.lp (σ := Nat × QM) (fun s => [(13, .int .i64 (s.1 : Int)), (12, ptr g12), (11, .int .i64 (C.getD j 0)), (10, vc), (8, uc), (6, vb), (5, .int .i64 n)]) (fun s => [Ow.cells g12 37 (qcs s.2), Ow.slice vc 59 6 (bcells bs ms)])
      (fun s => [isQ (qv s.2) (wq 6 (lenP bs (C.take s.1))), ge h0, fB 6 vb ms bs, sI uc C]) (fun s => s.1 ≤ C.length) (fun s => C.length - s.1) (0, m00) (Nat.zero_le _) ?_ suA slA (.cons (by show Has _ (isQ (qv m00) (wq 6 0)); exact hasQ0w) sfA)
    rintro ⟨i, m2⟩ hi
    simp only at hi ⊢
    have hlt : (lenP bs (C.take i)).natAbs ≤ 32 * 5040 := Nat.le_trans (lenP_take_le C i) (Nat.mul_le_mul (by omega) hsa)
    by_cases c : i < C.length
    · have hii := i1 i c
      have hwi := @absS_le bs (C.getD i 0).toNat
      refine WC.fact (isQ (qv (ms (C.getD i 0).toNat)) (wq 6 (bg bs (C.getD i 0).toNat).w)) (W.Has.b (W.Has.bm (v := vb) hmA) (by omega)) ?_
      repeat' (first | refine go ?_ | refine goX ?_ | refine goB ?_ | (refine goG ?_; intro g) | (refine goV ?_; intro v) | refine goD ?_ | refine goXD ?_ | (refine goDG ?_; intro g) | (refine goDV ?_; intro v) | refine d8 ?_ | fail)
      first | refine WL.callK (addw_c 6 m2 (ms (C.getD i 0).toNat) (lenP bs (C.take i)) (bg bs (C.getD i 0).toNat).w (by unfold Lim; omega) (by unfold Lim; omega)) ?_ | refine WD.callK (addw_c 6 m2 (ms (C.getD i 0).toNat) (lenP bs (C.take i)) (bg bs (C.getD i 0).toNat).w (by unfold Lim; omega) (by unfold Lim; omega)) ?_ | refine LO.callM (addw_c 6 m2 (ms (C.getD i 0).toNat) (lenP bs (C.take i)) (bg bs (C.getD i 0).toNat).w (by unfold Lim; omega) (by unfold Lim; omega)) ?_
      rintro _ _ _ ⟨m3, rfl, rfl, rfl⟩
      simp only [List.nil_append, List.cons_append]
      rw [← lenP_take c]
      repeat' (first | refine go ?_ | refine goX ?_ | refine goB ?_ | (refine goG ?_; intro g) | (refine goV ?_; intro v) | refine goD ?_ | refine goXD ?_ | (refine goDG ?_; intro g) | (refine goDV ?_; intro v) | refine d8 ?_ | fail)
      exact LoopEnd.mk (i + 1, m3) (by show i + 1 ≤ C.length; omega) (by show C.length - (i + 1) < C.length - i; omega) suA slA sfA
    · obtain rfl : i = C.length := by omega
      rw [List.take_of_length_le (Nat.le_refl _)] at hlt ⊢
      have hwk := @absS_le bs (C.getD j 0).toNat
      have hsg : sgn (lenP bs C) = -1 := if_pos i3
      have hwj := hweak j hjl
      refine WC.fact (isQ (qv (ms (C.getD j 0).toNat)) (wq 6 (bg bs (C.getD j 0).toNat).w)) (W.Has.b (W.Has.bm (v := vb) hmA) (by omega)) ?_
      repeat' (first | refine go ?_ | refine goX ?_ | refine goB ?_ | (refine goG ?_; intro g) | (refine goV ?_; intro v) | refine goD ?_ | refine goXD ?_ | (refine goDG ?_; intro g) | (refine goDV ?_; intro v) | refine d8 ?_ | fail)
      first | refine WL.callK (subw_c 6 (ms (C.getD j 0).toNat) m2 (bg bs (C.getD j 0).toNat).w (lenP bs C) (by unfold Lim; omega) (by unfold Lim; omega)) ?_ | refine WD.callK (subw_c 6 (ms (C.getD j 0).toNat) m2 (bg bs (C.getD j 0).toNat).w (lenP bs C) (by unfold Lim; omega) (by unfold Lim; omega)) ?_ | refine LO.callM (subw_c 6 (ms (C.getD j 0).toNat) m2 (bg bs (C.getD j 0).toNat).w (lenP bs C) (by unfold Lim; omega) (by unfold Lim; omega)) ?_
      rintro _ _ _ ⟨m4, rfl, rfl, rfl⟩
      simp only [List.nil_append, List.cons_append]
      have hkl : (C.getD j 0).toNat < bs.length := by omega
      obtain ⟨k, hk⟩ : ∃ k, (C.getD j 0).toNat = k := ⟨_, rfl⟩
      rw [hk] at hwk hwj hkl
      obtain ⟨wn, hwn⟩ : ∃ wn, wn = (bg bs k).w - lenP bs C := ⟨_, rfl⟩
      rw [hk, ← hwn]
      have hwj' : chk n (bs.set k ⟨(bg bs k).fr, (bg bs k).to, wn⟩) [] C = 22 := by rw [hwn]; exact hwj
      have hab2 : absS (bs.set k ⟨(bg bs k).fr, (bg bs k).to, wn⟩) ≤ absS bs + wn.natAbs := absS_set_le bs k ⟨(bg bs k).fr, (bg bs k).to, wn⟩
      have hf2 : Fit (bs.set k ⟨(bg bs k).fr, (bg bs k).to, wn⟩) := by unfold Fit; omega
      have hcl2 : C.length * absS (bs.set k ⟨(bg bs k).fr, (bg bs k).to, wn⟩) ≤ 400000000 := Nat.le_trans (Nat.mul_le_mul (show C.length ≤ 32 by omega) (show _ ≤ 1000000 by omega)) (by decide)
      have hm2 : ∀ {F : List Fct}, Has F (mB 6 ms bs) → Has F (isQ (qv m4) (wq 6 wn)) → Has F (mB 6 (upd ms k m4) (bs.set k ⟨(bg bs k).fr, (bg bs k).to, wn⟩)) := fun h1 h2 => W.Has.mBset h1 h2 hkl
      repeat' (first | refine go ?_ | refine goX ?_ | refine goB ?_ | (refine goG ?_; intro g) | (refine goV ?_; intro v) | refine goD ?_ | refine goXD ?_ | (refine goDG ?_; intro g) | (refine goDV ?_; intro v) | refine d8 ?_ | fail)
      first | refine WL.callV (signw_c 6 m2 (lenP bs C)) ?_ | refine WD.callV (signw_c 6 m2 (lenP bs C)) ?_
      rw [hsg]
      repeat' (first | refine go ?_ | refine goX ?_ | refine goB ?_ | (refine goG ?_; intro g) | (refine goV ?_; intro v) | refine goD ?_ | refine goXD ?_ | (refine goDG ?_; intro g) | (refine goDV ?_; intro v) | refine d8 ?_ | fail)
      rw [hk]
      refine WL.freezeB (D := 6) (el := 59) vc (upd ms k m4) (bs.set k ⟨(bg bs k).fr, (bg bs k).to, wn⟩) (by repeat (first | exact Sel.head | apply Sel.tail)) (hm2 (W.Has.bm (v := vb) hmA) hmA) ?_
      refine WL.fact' (fR 6 (.slice none 0 0) (fun _ => m00) []) hasfR0 ?_
      first | refine WL.callV (check_c 6 vc (.slice none 0 0) uc (upd ms k m4) (fun _ => m00) (bs.set k ⟨(bg bs k).fr, (bg bs k).to, wn⟩) [] C n hf2 (by omega) hcl2 Wth.nil) ?_ | refine WD.callV (check_c 6 vc (.slice none 0 0) uc (upd ms k m4) (fun _ => m00) (bs.set k ⟨(bg bs k).fr, (bg bs k).to, wn⟩) [] C n hf2 (by omega) hcl2 Wth.nil) ?_
      rw [hwj']
      repeat' (first | refine go ?_ | refine goX ?_ | refine goB ?_ | (refine goG ?_; intro g) | (refine goV ?_; intro v) | refine goD ?_ | refine goXD ?_ | (refine goDG ?_; intro g) | (refine goDV ?_; intro v) | refine d8 ?_ | fail)
      first | refine WL.callV (lives_c) ?_ | refine WD.callV (lives_c) ?_
      repeat' (first | refine go ?_ | refine goX ?_ | refine goB ?_ | (refine goG ?_; intro g) | (refine goV ?_; intro v) | refine goD ?_ | refine goXD ?_ | (refine goDG ?_; intro g) | (refine goDV ?_; intro v) | refine d8 ?_ | fail)
      exact WC.ret (Fin.v (ResE.t1 rfl rfl) meA rfl)
end J
end Go.Proofs.YthggloiigkbfeaaGreat
namespace Go.Proofs.YthggloiigkbfeaaGreat
open Go.ChangeShapes Go.WideShapes Go.ChangeAt Go.RowKit
open W
theorem Tryz.int3 : Tryz.prog.underlying 3 = some (.int .i64) := by kernel_rfl
theorem Tryz.sl22 : Tryz.prog.underlying 22 = some (.slice 3) := by kernel_rfl
theorem Tryz.bool4 : Tryz.prog.underlying 4 = some .bool := by kernel_rfl
theorem Tryz.one3 : Tryz.prog.cellsOf 3 = 1 := by kernel_rfl
set_option maxRecDepth 100000 in
theorem boundsEither_lifted (os : Os) (started : os.Started) (H : Type) (enc : TypeId × Value → H) :
    ReturnsInHanded {} Tryz.checked os 8 .any (Rows.boundsEitherSpec.pre6 enc Tryz.prog Tryz.f8 Rows.boundsEitherRow.domain false) (Rows.boundsEitherSpec.post enc Tryz.prog Tryz.f8 false true false false) := by
  refine returnsInHanded_of_change (C := Tryz.checked) Tryz.own started (by kernel_rfl) Tryz.func8
    (ChangeSpec.witness6 (enc := enc) (C := Tryz.checked) false ⟨#[], #[.slice none 0 0, .int .i64 0], []⟩ 8 (by kernel_rfl) (by kernel_rfl) (by kernel_rfl) (by kernel_rfl)) ?_
  intro V1 base args ds gs before hval0 hW hcnd _
  have hval : ∀ (j : Nat) t v, Tryz.f8.params[j]? = some t → args[j]? = some v → Value.okWide Tryz.prog V1 .any base t v := hval0
  have hW' := hW
  obtain ⟨p, q, hA0, hV, rfl, hfz, hnd⟩ := hW
  have hA : DataW.TrodAll enc Tryz.prog V1 0 (fun _ => true) true Tryz.f8.params.toList args.toList ds p := hA0
  rw [Tryz.params8] at hA hval
  obtain ⟨args⟩ := args
  obtain ⟨v0, a1, d0, e1, p0, q1, rfl, rfl, rfl, h0, hA⟩ := trodAll_cons hA
  obtain ⟨v1, a2, d1, e2, p1, q2, rfl, rfl, rfl, h1, hA⟩ := trodAll_cons hA
  obtain ⟨rfl, rfl, rfl⟩ := trodAll_nil hA
  obtain ⟨rfl, rfl⟩ := trodVars_none hV
  obtain ⟨l0, hl0, f0, g0⟩ := arg_ints Tryz.sl22 Tryz.int3 Tryz.one3 (hval 0 22 v0 rfl rfl) h0
  obtain ⟨n1, rfl, hl1, g1⟩ := arg_int Tryz.int3 (hval 1 3 v1 rfl rfl) h1
  simp only [List.append_nil] at hW'
  refine (law_calls (J.either_c v0 l0 n1 hl0 hl1) (fun g hg => ?_)).mono fun e V2 hh2 => ?_
  · simp only [List.mem_cons, List.not_mem_nil, or_false] at hg
    subst hg
    exact f0
  · obtain ⟨he, hr, hE⟩ := hh2
    refine ⟨_, he, post_law hW' (fun _ _ _ => trodAll_mk1 (shut_bool Tryz.bool4 _)) (fun sp hsp => ?_) (fun _ => rfl) hr hE (ok_one (by kernel_rfl) rfl (okWide_bool_mk Tryz.bool4 _))⟩
    have := (AgainAll.cons g0 (AgainAll.cons g1 AgainAll.nil)) V2 sp hE (by simpa using hsp)
    simp only [List.append_nil] at this
    show DataW.TrodAll enc Tryz.prog V2 0 sp true Tryz.f8.params.toList _ _ _
    rw [Tryz.params8]
    exact this
theorem boundsEither_holds : Rows.BoundsEitherSaid :=
  OpenClaim.holds_of_wide 8 Tryz.f8 rfl rfl rfl rfl rfl rfl rfl ⟨rfl, rfl, rfl, rfl, rfl⟩ rfl rfl rfl rfl rfl (by kernel_rfl) Tryz.func8 (by kernel_rfl)
    (of_decide_eq_true (by kernel_rfl)) (by unfold Func.isWrapper; first | (rw [if_pos (by decide +kernel)]; kernel_rfl) | (rw [if_neg (by decide +kernel)]; exact ⟨rfl, rfl⟩))
    (fun os started H enc _ => boundsEither_lifted os started H enc)
#print axioms boundsEither_holds
end Go.Proofs.YthggloiigkbfeaaGreat
