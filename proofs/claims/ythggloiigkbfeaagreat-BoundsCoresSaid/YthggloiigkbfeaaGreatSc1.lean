/- The law BoundsCores returns true for every input and leaves its arguments as they were. Conditions: none. -/
import Derived.Test.YthggloiigkbfeaaGreatBase6
set_option linter.unusedVariables false
set_option linter.unusedSimpArgs false
set_option linter.unusedSectionVars false
namespace Go.Proofs.YthggloiigkbfeaaGreat
open W Go.RowKit
theorem Vld.valid {n : Nat} {bs : List Bd} (h : Vld n bs) : validB n bs = true := validB_t (by have := h.n1; omega) (by have := h.n2; omega) h.l h.ok
theorem sysL_get {l : List Int} {most : Int} {i : Nat} (h : i < (sysL l most).length) : bg (sysL l most) i = sysB l (sysN l most) i := by
  unfold sysL at h ⊢
  rw [sysT_len] at h
  exact sysT_get _ _ h
/-- the laws' systems are valid -/
theorem sys_vld (l : List Int) {most : Int} (h0 : 0 < most) (h1 : most ≤ 8) : ∃ n : Nat, sysN l most = n ∧ n ≤ 8 ∧ Vld n (sysL l most) := by
  have h := sysN_le l h0
  refine ⟨(sysN l most).toNat, by omega, by omega, ⟨by omega, by omega, Nat.le_trans (sysL_len l most) (by decide), fun i hi => ?_⟩⟩
  rw [sysL_get hi, show (((sysN l most).toNat : Nat) : Int) = sysN l most by omega]
  exact ⟨atP_lt h.1, atP_lt h.1⟩
theorem slv_sol {n : Nat} {bs : List Bd} (hv : Vld n bs) (h : HasSol bs) : slv n bs = (jacs bs n n, [], 0) := by
  rw [slv_same]; unfold rslv
  rw [if_pos hv.valid, Int.toNat_natCast, if_pos ((sol_iff_has hv).2 h)]
theorem slv_no {n : Nat} {bs : List Bd} (hv : Vld n bs) (h : ¬ HasSol bs) : slv n bs = ([], cycP n bs, 14) := by
  rw [slv_same]; unfold rslv
  rw [if_pos hv.valid, Int.toNat_natCast, if_neg (fun c => h ((sol_iff_has hv).1 c)), ← cyc_same hv h]
theorem chk_x {n : Nat} {bs : List Bd} (hv : Vld n bs) (x : List Int) : chk n bs x [] = if x.length = n ∧ Sol bs x then 0 else 22 := by
  rw [chk_same]; unfold rchk
  rw [if_pos hv.valid, if_pos (show ([] : List Int).length = 0 from rfl), Int.toNat_natCast]
theorem chk_l {n : Nat} {bs : List Bd} (hv : Vld n bs) {l : List Int} (hl : 0 < l.length) : chk n bs [] l = if Idx bs l ∧ Clo bs l ∧ lenP bs l < 0 then 0 else 22 := by
  rw [chk_same]; unfold rchk
  rw [if_pos hv.valid, if_neg (by omega)]
  by_cases h : Idx bs l ∧ Clo bs l ∧ lenP bs l < 0
  · rw [if_pos h, if_pos ⟨h.1, h.2.1, rfl, h.2.2⟩]
  · rw [if_neg h, if_neg (fun c => h ⟨c.1, c.2.1, c.2.2.2⟩)]
theorem absS_set_le (bs : List Bd) (k : Nat) (b : Bd) : absS (bs.set k b) ≤ absS bs + b.w.natAbs := by
  induction bs generalizing k with
  | nil => simp [absS]
  | cons a bs ih =>
    cases k with
    | zero => simp only [List.set_cons_zero, absS, List.map_cons, List.sum_cons]; omega
    | succ k =>
      have := ih k
      simp only [List.set_cons_succ, absS, List.map_cons, List.sum_cons] at this ⊢; omega
theorem Vld.setw {n : Nat} {bs : List Bd} (hv : Vld n bs) (k : Nat) (z : Int) : Vld n (bs.set k { bg bs k with w := z }) := by
  refine ⟨hv.n1, hv.n2, by rw [List.length_set]; exact hv.l, fun i hi => ?_⟩
  rw [List.length_set] at hi
  by_cases c : k = i
  · subst c
    have := hv.ok k hi
    have e : bg (bs.set k { bg bs k with w := z }) k = { bg bs k with w := z } := by simp [bg, List.getD_eq_getElem?_getD, hi]
    rw [e]; exact this
  · have e : bg (bs.set k { bg bs k with w := z }) i = bg bs i := by
      simp only [bg, List.getD_eq_getElem?_getD]; rw [List.getElem?_set_ne c]
    rw [e]; exact hv.ok i hi
theorem bg_app {bs : List Bd} {e : Bd} {i : Nat} (h : i < bs.length) : bg (bs ++ [e]) i = bg bs i := by
  simp only [bg, List.getD_eq_getElem?_getD]; rw [List.getElem?_append_left h]
theorem bg_last {bs : List Bd} {e : Bd} : bg (bs ++ [e]) bs.length = e := by simp [bg, List.getD_eq_getElem?_getD]
theorem Vld.snoc {n : Nat} {bs : List Bd} (hv : Vld n bs) (hl : bs.length < 2048) {a c : Nat} (ha : a < n) (hc : c < n) (w : Int) : Vld n (bs ++ [⟨a, c, w⟩]) := by
  refine ⟨hv.n1, hv.n2, by simp; omega, fun i hi => ?_⟩
  by_cases h : i < bs.length
  · rw [bg_app h]; exact hv.ok i h
  · obtain rfl : i = bs.length := by simp at hi; omega
    rw [bg_last]; refine ⟨⟨?_, ?_⟩, ?_, ?_⟩ <;> simp only <;> omega
/-! ## Lattice -/
theorem SolF.sub {a b : List Bd} {f : Nat → Int} (h : SolF (a ++ b) f) : SolF a f := fun x hx => h x (List.mem_append_left _ hx)
theorem lat_le {n : Nat} {bs : List Bd} {b : Bd} (hv : Vld n bs) (hv2 : Vld n (bs ++ [b])) (h : HasSol (bs ++ [b])) (i : Nat) (hi : i < n) : vl (jacs (bs ++ [b]) n n) i ≤ vl (jacs bs n n) i :=
  jacs_great hv (SolF.sub (sol_iff.1 ((sol_iff_has hv2).2 h))) (fun v _ => jacs_le0 hv2 n v) n i hi
theorem SolF.shift {bs : List Bd} {f : Nat → Int} (h : SolF bs f) (s : Int) : SolF bs (fun i => f i + s) := fun b hb => by have := h b hb; show f b.to.toNat + s ≤ f b.fr.toNat + s + b.w; omega
theorem SolF.max {bs : List Bd} {f k : Nat → Int} (h : SolF bs f) (h2 : SolF bs k) : SolF bs (fun i => if k i < f i then f i else k i) := fun b hb => by
  have h3 := h b hb
  have h4 := h2 b hb
  show (if k b.to.toNat < f b.to.toNat then f b.to.toNat else k b.to.toNat) ≤ (if k b.fr.toNat < f b.fr.toNat then f b.fr.toNat else k b.fr.toNat) + b.w
  split <;> split <;> omega
theorem SolF.min {bs : List Bd} {f k : Nat → Int} (h : SolF bs f) (h2 : SolF bs k) : SolF bs (fun i => if k i < f i then k i else f i) := fun b hb => by
  have h3 := h b hb
  have h4 := h2 b hb
  show (if k b.to.toNat < f b.to.toNat then k b.to.toNat else f b.to.toNat) ≤ (if k b.fr.toNat < f b.fr.toNat then k b.fr.toNat else f b.fr.toNat) + b.w
  split <;> split <;> omega
/-- a solution az a list -/
theorem sol_list {n : Nat} {bs : List Bd} (hv : Vld n bs) {f : Nat → Int} (h : SolF bs f) : Sol bs ((List.range n).map f) := by
  refine sol_iff.2 fun b hb => ?_
  have h1 := hv.tos b hb
  have h2 := hv.frs b hb
  have h3 := h b hb
  simp only [vl, List.getD_eq_getElem?_getD, List.getElem?_map, List.getElem?_range h1, List.getElem?_range h2, Option.map_some, Option.getD_some]
  exact h3
/-! ## A bound made stricter, a cycle made weaker -/
theorem not_sol_set {bs : List Bd} {x : List Int} {k : Nat} (hk : k < bs.length) {w : Int} (hw : w < vl x (bg bs k).to.toNat - vl x (bg bs k).fr.toNat) : ¬ Sol (bs.set k { bg bs k with w := w }) x := by
  intro h
  have := h k (by rw [List.length_set]; exact hk)
  simp only [bg, List.getD_eq_getElem?_getD, List.getElem?_set_self hk, Option.getD_some] at this hw
  omega
theorem wlk_cyc {bs : List Bd} {l : List Int} {u v : Int} (h : Wlk bs u l v) : ∀ i, i < l.length → (0 ≤ l.getD i 0 ∧ l.getD i 0 < bs.length) ∧ (bg bs (l.getD i 0).toNat).to = (if i + 1 = l.length then v else (bg bs (l.getD (i + 1) 0).toNat).fr) := by
  induction l generalizing u with
  | nil => intro i hi; simp at hi
  | cons a l ih =>
    obtain ⟨h1, h2, h3⟩ := h
    intro i hi
    cases i with
    | zero =>
      refine ⟨h1, ?_⟩
      cases l with
      | nil => exact h3
      | cons c l => rw [if_neg (by simp)]; exact h3.2.1.symm
    | succ i =>
      have := ih h3 i (by simpa using hi)
      simpa using this
theorem next_eq' {n i : Nat} (h : i < n) : (((i : Int) + 1) % (n : Int)).toNat = if i + 1 = n then 0 else i + 1 := by
  by_cases c : i + 1 = n
  · rw [if_pos c, show (i : Int) + 1 = n by omega, Int.emod_self]; rfl
  · rw [if_neg c, Int.emod_eq_of_lt (by omega) (by omega)]; omega
theorem neg_idx {bs : List Bd} {m : Nat} {l : List Int} (h : Neg bs m l) : Idx bs l ∧ Clo bs l ∧ lenP bs l < 0 := by
  obtain ⟨_, h2, u, h3⟩ := h
  have h4 := wlk_cyc h3
  refine ⟨fun i hi => (h4 i hi).1, fun i hi => ?_, h2⟩
  rw [(h4 i hi).2]
  unfold nxi
  rw [next_eq' hi]
  by_cases c : i + 1 = l.length
  · rw [if_pos c, if_pos c]
    cases l with
    | nil => simp at hi
    | cons a l => exact h3.2.1.symm
  · rw [if_neg c, if_neg c]
theorem lenP_set {bs : List Bd} {k : Nat} (hk : k < bs.length) (d : Int) : ∀ l : List Int, (∀ x ∈ l, 0 ≤ x) → l.Nodup → lenP (bs.set k { bg bs k with w := (bg bs k).w + d }) l = lenP bs l + (if (k : Int) ∈ l then d else 0) := by
  intro l
  induction l with
  | nil => intro _ _; simp [lenP]
  | cons a l ih =>
    intro h1 h2
    have h3 := ih (fun x hx => h1 x (List.mem_cons_of_mem _ hx)) (List.nodup_cons.1 h2).2
    have h4 := (List.nodup_cons.1 h2).1
    have ha := h1 a (List.mem_cons_self)
    rw [lenP_cons, lenP_cons, h3]
    by_cases c : a.toNat = k
    · have hak : (k : Int) = a := by omega
      have e : (bg (bs.set k { bg bs k with w := (bg bs k).w + d }) a.toNat).w = (bg bs k).w + d := by
        rw [c]; simp [bg, List.getD_eq_getElem?_getD, hk]
      rw [e, c, hak, if_neg h4, if_pos (List.mem_cons_self)]; omega
    · have e : bg (bs.set k { bg bs k with w := (bg bs k).w + d }) a.toNat = bg bs a.toNat := by
        simp only [bg, List.getD_eq_getElem?_getD]; rw [List.getElem?_set_ne (fun h => c h.symm)]
      have hm : ((k : Int) ∈ a :: l) ↔ (k : Int) ∈ l := by
        rw [List.mem_cons]; exact ⟨fun h => h.elim (fun h => absurd (by omega) c) id, Or.inr⟩
      rw [e]; simp only [hm]; omega
theorem cyc_nodup {n : Nat} {bs : List Bd} (hv : Vld n bs) (h : ¬ HasSol bs) : ∃ m, 0 < m ∧ m ≤ n ∧ Neg bs m (cycP n bs) ∧ (cycP n bs).Nodup := by
  obtain ⟨m, hm⟩ := neg_min ((neg_iff hv).2 h)
  have h1 := (cycP_spec hv hm).1
  refine ⟨m, hm.pos, hm.le hv, h1, ?_⟩
  have := hm.nodup h1
  unfold frs at this
  exact List.Pairwise.of_map _ (fun a b hab e => hab (by rw [e])) this
/-- the changed cycle is refused -/
theorem cyc_weak {n : Nat} {bs : List Bd} (hv : Vld n bs) (h : ¬ HasSol bs) {j : Nat} (hj : j < (cycP n bs).length) (hv2 : Vld n (bs.set ((cycP n bs).getD j 0).toNat { bg bs ((cycP n bs).getD j 0).toNat with w := (bg bs ((cycP n bs).getD j 0).toNat).w - lenP bs (cycP n bs) })) :
    chk n (bs.set ((cycP n bs).getD j 0).toNat { bg bs ((cycP n bs).getD j 0).toNat with w := (bg bs ((cycP n bs).getD j 0).toNat).w - lenP bs (cycP n bs) }) [] (cycP n bs) = 22 := by
  obtain ⟨m, hm0, hmn, hn, hd⟩ := cyc_nodup hv h
  have hi := (neg_idx hn).1
  have hpos : ∀ x ∈ cycP n bs, 0 ≤ x := fun x hx => by
    obtain ⟨i, h1, rfl⟩ := List.getElem_of_mem hx
    have := (hi i h1).1
    simpa [List.getD_eq_getElem?_getD, h1] using this
  have hk := hi j hj
  have hmem : (((cycP n bs).getD j 0).toNat : Int) ∈ cycP n bs := by
    rw [Int.toNat_of_nonneg hk.1, List.getD_eq_getElem?_getD, List.getElem?_eq_getElem hj]
    exact List.getElem_mem _
  rw [chk_l hv2 (by omega), if_neg]
  rintro ⟨_, _, h3⟩
  have := lenP_set (bs := bs) (k := ((cycP n bs).getD j 0).toNat) (by omega) (- lenP bs (cycP n bs)) (cycP n bs) hpos hd
  rw [if_pos hmem] at this
  rw [Int.sub_eq_add_neg, this] at h3
  omega
end Go.Proofs.YthggloiigkbfeaaGreat
namespace Go.Proofs.YthggloiigkbfeaaGreat
open W Go.RowKit
section
variable {n : Nat} {bs : List Bd} (hv : Vld n bs) {a b : Nat} (ha : a < n) (hb : b < n)
include hv ha hb
/-- a way can be made short -/
theorem short_all (hs : HasSol bs) : ∀ (L : Nat) (q : List Int), q.length ≤ L → Wlk bs a q b → ∃ r, r.length < n ∧ Wlk bs a r b ∧ lenP bs r ≤ lenP bs q := by
  intro L
  induction L with
  | zero =>
    intro q hq hw
    exact ⟨q, by have := hv.n1; omega, hw, Int.le_refl _⟩
  | succ L ih =>
    intro q hq hw
    by_cases c : q.length < n
    · exact ⟨q, c, hw, Int.le_refl _⟩
    have cut : ∀ p c s w, q = p ++ c ++ s → c ≠ [] → Wlk bs a p w → Wlk bs w c w → Wlk bs w s b → ∃ r, r.length < n ∧ Wlk bs a r b ∧ lenP bs r ≤ lenP bs q := by
      intro p c s w he hc w1 w2 w3
      have hlc : 0 < c.length := List.length_pos_iff.2 hc
      have hnn : ¬ lenP bs c < 0 := fun h => (show Neg bs c.length c from ⟨rfl, h, w, w2⟩).no hs
      have hl : (p ++ s).length ≤ L := by rw [he] at hq; simp only [List.length_append] at hq ⊢; omega
      obtain ⟨r, r1, r2, r3⟩ := ih (p ++ s) hl (Wlk.app.2 ⟨w, w1, w3⟩)
      refine ⟨r, r1, r2, ?_⟩
      rw [he, lenP_app, lenP_app]
      rw [lenP_app] at r3; omega
    have hn : ¬ (frs bs q ++ [(b : Int)]).Nodup := by
      intro h
      have := nodup_le (n := n) h (fun x hx => by
        rcases List.mem_append.1 hx with hx | hx
        · exact frs_in hv hw x hx
        · rw [List.mem_singleton] at hx; subst hx; omega)
      simp [frs] at this; omega
    by_cases hd : (frs bs q).Nodup
    · have hm : (b : Int) ∈ frs bs q := Classical.byContradiction fun h => hn (List.nodup_append.2 ⟨hd, by simp, fun x hx y hy he => by
        rw [List.mem_singleton] at hy; subst hy; subst he; exact h hx⟩)
      obtain ⟨i, hi, he⟩ := List.mem_map.1 hm
      obtain ⟨p, s, rfl⟩ := List.append_of_mem hi
      obtain ⟨w, w1, w2⟩ := Wlk.app.1 hw
      have hwb : w = b := by rw [← w2.2.1]; exact he
      subst hwb
      exact cut p (i :: s) [] b (by simp) (by simp) w1 w2 rfl
    · obtain ⟨p, c, s, w, h1, h2, h3, h4, h5, h6⟩ := frs_split hd hw
      exact cut p c s w h1 h2 h4 h5 h6
/-- what Most answers on a valid system -/
theorem mst_cases : (¬ HasSol bs ∧ (mst n bs a b).1 = 0 ∧ (mst n bs a b).2.2 = 14) ∨ (HasSol bs ∧ mst n bs a b = (0, [], 6) ∧ ∀ q, ¬ Wlk bs a q b) ∨
    ∃ d p, HasSol bs ∧ mst n bs a b = (d, p, 0) ∧ Wlk bs a p b ∧ p.length < n ∧ lenP bs p = d ∧ ∀ q, Wlk bs a q b → d ≤ lenP bs q := by
  by_cases hs : HasSol bs
  · have hm : mst n bs a b = (match mostK n bs a b with
      | none => (0, [], 6)
      | some k => (mostD n bs a b k, fstP bs (tabL n bs b n) (fun x => decide (x = mostD n bs a b k)) k a 0 [], 0)) := by
      unfold mst
      rw [if_pos ⟨hv.valid, by omega, by omega⟩]
      simp only [Int.toNat_natCast]
      rw [great_some hv hs]
      rfl
    rcases most_same hv ha hb hs with ⟨h1, h2⟩ | ⟨k, h1, h2, h3, h4, h5⟩
    · refine .inr (.inl ⟨hs, by rw [hm, h1], fun q hq => ?_⟩)
      obtain ⟨r, r1, r2, _⟩ := short_all hv ha hb hs q.length q (Nat.le_refl _) hq
      rcases mostK_spec n bs a b with ⟨_, g2⟩ | ⟨k, d, g1, _⟩
      · obtain ⟨e, e1, _⟩ := tab_le hv hb r.length a r rfl r2
        rw [g2 _ r1] at e1; cases e1
      · rw [h1] at g1; cases g1
    · obtain ⟨w1, w2⟩ := h4.short hv ha hb
      refine .inr (.inr ⟨_, _, hs, by rw [hm, h1], w1, w2, h3, fun q hq => ?_⟩)
      obtain ⟨r, r1, r2, r3⟩ := short_all hv ha hb hs q.length q (Nat.le_refl _) hq
      have := h5 r r1 r2
      omega
  · refine .inl ⟨hs, ?_⟩
    unfold mst
    rw [if_pos ⟨hv.valid, by omega, by omega⟩]
    simp only [Int.toNat_natCast]
    rw [great_none hv hs]
    exact ⟨rfl, rfl⟩
theorem mst_sml (hs : absS bs ≤ 13500) : (mst n bs a b).1.natAbs ≤ 432000 := by
  rcases mst_cases hv ha hb with ⟨_, h, _⟩ | ⟨_, h, _⟩ | ⟨d, p, _, h, _, h2, h3, _⟩
  · rw [h]; decide
  · rw [h]; decide
  · rw [h]
    have h4 := @lenP_le bs p
    have h6 := hv.n2
    have h7 : p.length * absS bs ≤ 32 * 13500 := Nat.mul_le_mul (by omega) hs
    rw [h3] at h4
    show d.natAbs ≤ 432000
    omega
end
/-! ## A further bound -/
theorem wlk_app {bs : List Bd} {e : Bd} {l : List Int} : ∀ {u v : Int}, Wlk (bs ++ [e]) u l v → (∀ i ∈ l, i.toNat ≠ bs.length) → Wlk bs u l v ∧ lenP (bs ++ [e]) l = lenP bs l := by
  induction l with
  | nil => intro u v h _; exact ⟨h, rfl⟩
  | cons i l ih =>
    intro u v h hi
    obtain ⟨h1, h2, h3⟩ := h
    have hc := hi i (List.mem_cons_self)
    have hl : (bs ++ [e]).length = bs.length + 1 := by simp
    have hg : bg (bs ++ [e]) i.toNat = bg bs i.toNat := bg_app (by omega)
    obtain ⟨g1, g2⟩ := ih h3 (fun j hj => hi j (List.mem_cons_of_mem _ hj))
    rw [hg] at h2 g1
    exact ⟨⟨by omega, h2, g1⟩, by rw [lenP_cons, lenP_cons, g2, hg]⟩
/-- a distance that no way is shorter than can be asked for -/
theorem reach_ok {n : Nat} {bs : List Bd} (hv : Vld n bs) {a c : Nat} (ha : a < n) (hc : c < n) (hl : bs.length < 2048) (hs : HasSol bs) {d : Int} (hd : ∀ q, Wlk bs a q c → d ≤ lenP bs q) : HasSol (bs ++ [⟨c, a, -d⟩]) := by
  have hv2 : Vld n (bs ++ [⟨c, a, -d⟩]) := by
    refine ⟨hv.n1, hv.n2, by simp; omega, fun i hi => ?_⟩
    by_cases h : i < bs.length
    · rw [bg_app h]; exact hv.ok i h
    · obtain rfl : i = bs.length := by simp at hi; omega
      rw [bg_last]; refine ⟨⟨?_, ?_⟩, ?_, ?_⟩ <;> simp only <;> omega
  refine Classical.byContradiction fun hn => ?_
  obtain ⟨m, hm⟩ := neg_min ((neg_iff hv2).2 hn)
  obtain ⟨l, hl⟩ := hm.1
  have hnd := hm.nodup hl
  obtain ⟨_, h2, u, h3⟩ := hl
  by_cases hk : ∃ i ∈ l, i.toNat = bs.length
  · obtain ⟨i, hi, he⟩ := hk
    obtain ⟨p, s, rfl⟩ := List.append_of_mem hi
    obtain ⟨w, w1, w2, w3, w4⟩ := Wlk.app.1 h3
    rw [he, bg_last] at w3 w4
    have hfr : frs (bs ++ [⟨c, a, -d⟩]) (p ++ i :: s) = frs (bs ++ [⟨c, a, -d⟩]) p ++ (c : Int) :: frs (bs ++ [⟨c, a, -d⟩]) s := by
      rw [frs_app]; unfold frs; rw [List.map_cons, he, bg_last]
    rw [hfr] at hnd
    obtain ⟨_, n2, n3⟩ := List.nodup_append.1 hnd
    have hother : ∀ j ∈ p ++ s, j.toNat ≠ bs.length := by
      intro j hj hje
      have hfj : (bg (bs ++ [(⟨c, a, -d⟩ : Bd)]) j.toNat).fr = c := by rw [hje, bg_last]
      rcases List.mem_append.1 hj with hj | hj
      · exact n3 _ (List.mem_map_of_mem (f := fun i => (bg (bs ++ [(⟨c, a, -d⟩ : Bd)]) i.toNat).fr) hj) (c : Int) (List.mem_cons_self) hfj
      · refine (List.nodup_cons.1 n2).1 ?_
        have := List.mem_map_of_mem (f := fun i => (bg (bs ++ [(⟨c, a, -d⟩ : Bd)]) i.toNat).fr) hj
        rwa [hfj] at this
    simp only at w3
    subst w3
    obtain ⟨g1, g2⟩ := wlk_app w1 (fun j hj => hother j (List.mem_append_left _ hj))
    obtain ⟨g3, g4⟩ := wlk_app w4 (fun j hj => hother j (List.mem_append_right _ hj))
    have := hd (s ++ p) (Wlk.app.2 ⟨u, g3, g1⟩)
    rw [lenP_app] at this
    rw [lenP_app, lenP_cons, g2, g4, he, bg_last] at h2
    simp only at h2; omega
  · obtain ⟨g1, g2⟩ := wlk_app h3 (fun i hi he => hk ⟨i, hi, he⟩)
    rw [g2] at h2
    exact (show Neg bs l.length l from ⟨rfl, h2, u, g1⟩).no hs
/-- a greater one cannot be met -/
theorem reach_no {bs : List Bd} {a c : Nat} {p : List Int} (hw : Wlk bs a p c) {d : Int} (hd : lenP bs p < d) : ¬ HasSol (bs ++ [⟨c, a, -d⟩]) := by
  rintro ⟨f, hf⟩
  have h1 := Wlk.sol (f := f) (fun b hb => hf b (List.mem_append_left _ hb)) hw
  have h2 := hf ⟨c, a, -d⟩ (by simp)
  simp only [Int.toNat_natCast] at h1 h2; omega
/-! ## Other denominators -/
/-- all bounds by a factor -/
def scB (k : Int) (bs : List Bd) : List Bd := bs.map fun b => { b with w := b.w * k }
theorem scB_len {k : Int} {bs : List Bd} : (scB k bs).length = bs.length := by simp [scB]
theorem scB_get {k : Int} {bs : List Bd} (i : Nat) : bg (scB k bs) i = { bg bs i with w := (bg bs i).w * k } := by
  by_cases h : i < bs.length
  · unfold scB bg; simp [List.getD_eq_getElem?_getD, h]
  · unfold scB bg; simp [List.getD_eq_getElem?_getD, h, bd0]
theorem scB_wlk {k : Int} {bs : List Bd} {l : List Int} : ∀ {u v : Int}, Wlk bs u l v → Wlk (scB k bs) u l v ∧ lenP (scB k bs) l = lenP bs l * k := by
  induction l with
  | nil => intro u v h; exact ⟨h, by simp [lenP]⟩
  | cons i l ih =>
    intro u v h
    obtain ⟨h1, h2, h3⟩ := h
    obtain ⟨g1, g2⟩ := ih h3
    refine ⟨⟨by rw [scB_len]; exact h1, by rw [scB_get]; exact h2, by rw [scB_get]; exact g1⟩, ?_⟩
    rw [lenP_cons, lenP_cons, g2, scB_get, Int.add_mul]
theorem scB_abs {k : Nat} {bs : List Bd} : absS (scB k bs) = absS bs * k := by
  unfold absS scB
  induction bs with
  | nil => simp
  | cons b bs ih =>
    simp only [List.map_cons, List.sum_cons, List.map_map] at ih ⊢
    rw [ih, Nat.add_mul, Int.natAbs_mul, Int.natAbs_natCast]
theorem scB_vld {n : Nat} {k : Int} {bs : List Bd} (hv : Vld n bs) : Vld n (scB k bs) := ⟨hv.n1, hv.n2, by rw [scB_len]; exact hv.l, fun i hi => by
  rw [scB_len] at hi; rw [scB_get]; exact hv.ok i hi⟩
theorem slv_e {n : Nat} {bs : List Bd} (hv : Vld n bs) : (slv n bs).2.2 = 0 ∧ HasSol bs ∨ (slv n bs).2.2 = 14 ∧ ¬ HasSol bs := by
  by_cases h : HasSol bs
  · exact .inl ⟨by rw [slv_sol hv h], h⟩
  · exact .inr ⟨by rw [slv_no hv h], h⟩
end Go.Proofs.YthggloiigkbfeaaGreat
namespace Go.Proofs.YthggloiigkbfeaaGreat
open W Go.RowKit
/-! ## Strictly increasing lists -/
theorem inc_ext : ∀ {l m : List Int}, l.Pairwise (· < ·) → m.Pairwise (· < ·) → (∀ x, x ∈ l ↔ x ∈ m) → l = m := by
  intro l
  induction l with
  | nil =>
    intro m _ _ h
    cases m with
    | nil => rfl
    | cons b m => exact absurd ((h b).2 (List.mem_cons_self)) (by simp)
  | cons a l ih =>
    intro m hl hm h
    cases m with
    | nil => exact absurd ((h a).1 (List.mem_cons_self)) (by simp)
    | cons b m =>
      obtain ⟨l1, l2⟩ := List.pairwise_cons.1 hl
      obtain ⟨m1, m2⟩ := List.pairwise_cons.1 hm
      have hab : a = b := by
        rcases List.mem_cons.1 ((h a).1 (List.mem_cons_self)) with e | e
        · exact e
        · rcases List.mem_cons.1 ((h b).2 (List.mem_cons_self)) with e2 | e2
          · exact e2.symm
          · have := m1 a e; have := l1 b e2; omega
      subst hab
      rw [ih l2 m2 fun x => ?_]
      constructor
      · intro hx
        rcases List.mem_cons.1 ((h x).1 (List.mem_cons_of_mem _ hx)) with e | e
        · have := l1 x hx; omega
        · exact e
      · intro hx
        rcases List.mem_cons.1 ((h x).2 (List.mem_cons_of_mem _ hx)) with e | e
        · have := m1 x hx; omega
        · exact e
theorem compactUpTo_inc (d : Array Int) (hd : ∀ i j, i ≤ j → j < d.size → d[i]! ≤ d[j]!) : ∀ m, m ≤ d.size → (Lib.compactUpTo d m).Pairwise (· < ·) ∧ (∀ x, x ∈ Lib.compactUpTo d m ↔ ∃ i, i < m ∧ d[i]! = x) := by
  intro m
  induction m with
  | zero => intro _; exact ⟨List.Pairwise.nil, fun x => by simp [Lib.compactUpTo]⟩
  | succ m ih =>
    intro hm
    obtain ⟨h1, h2⟩ := ih (by omega)
    rw [Lib.compactUpTo_succ]
    by_cases c : m = 0 ∨ d[m]! ≠ d[m - 1]!
    · rw [show Lib.keeps d m = true from decide_eq_true c, if_pos rfl]
      constructor
      · rw [List.pairwise_append]
        refine ⟨h1, by simp, fun x hx y hy => ?_⟩
        rw [List.mem_singleton] at hy
        subst hy
        obtain ⟨i, i1, rfl⟩ := (h2 x).1 hx
        have h3 := hd i (m - 1) (by omega) (by omega)
        have h4 := hd (m - 1) m (by omega) (by omega)
        rcases c with c | c
        · omega
        · have : d[m - 1]! ≠ d[m]! := fun h => c h.symm
          omega
      · intro x
        rw [List.mem_append, h2, List.mem_singleton]
        constructor
        · rintro (⟨i, i1, i2⟩ | rfl)
          · exact ⟨i, by omega, i2⟩
          · exact ⟨m, by omega, rfl⟩
        · rintro ⟨i, i1, i2⟩
          by_cases e : i = m
          · subst e; exact .inr i2.symm
          · exact .inl ⟨i, by omega, i2⟩
    · rw [show Lib.keeps d m = false from decide_eq_false c]
      simp only [Bool.false_eq_true, if_false, List.append_nil]
      refine ⟨h1, fun x => ?_⟩
      rw [h2]
      constructor
      · rintro ⟨i, i1, i2⟩
        exact ⟨i, by omega, i2⟩
      · rintro ⟨i, i1, i2⟩
        by_cases e : i = m
        · subst e
          have c2 : d[i]! = d[i - 1]! := Classical.byContradiction fun h => c (.inr h)
          exact ⟨i - 1, by omega, by rw [← c2]; exact i2⟩
        · exact ⟨i, by omega, i2⟩
theorem compact_inc {l : List Int} (hl : l.Pairwise (· ≤ ·)) : (Lib.compact l).Pairwise (· < ·) ∧ ∀ x, x ∈ Lib.compact l ↔ x ∈ l := by
  have hg : ∀ i, i < l.length → l.toArray[i]! = l.getD i 0 := fun i hi => by
    simp [hi]
  have hd : ∀ i j, i ≤ j → j < l.toArray.size → l.toArray[i]! ≤ l.toArray[j]! := by
    intro i j hij hj
    have hj' : j < l.length := by simpa using hj
    rw [hg i (by omega), hg j hj']
    by_cases e : i = j
    · subst e; exact Int.le_refl _
    · have := List.pairwise_iff_getElem.1 hl i j (by omega) hj' (by omega)
      simpa [List.getD_eq_getElem?_getD, hj', show i < l.length by omega] using this
  obtain ⟨h1, h2⟩ := compactUpTo_inc l.toArray hd l.length (by simp)
  refine ⟨h1, fun x => ?_⟩
  rw [show Lib.compact l = Lib.compactUpTo l.toArray l.length from rfl, h2]
  constructor
  · rintro ⟨i, hi, rfl⟩
    rw [hg i hi]; simp [List.getD_eq_getElem?_getD, hi]
  · intro hx
    obtain ⟨i, hi, rfl⟩ := List.getElem_of_mem hx
    exact ⟨i, hi, by rw [hg i hi]; simp [List.getD_eq_getElem?_getD, hi]⟩
theorem coreL_inc (gs : List Int) : (coreL gs).Pairwise (· < ·) ∧ ∀ x, x ∈ coreL gs ↔ x ∈ gs ∧ 0 ≤ x := by
  have hs : (srt gs).Pairwise (· ≤ ·) := by
    have := List.pairwise_mergeSort (le := fun x y : Int => decide (x ≤ y)) (fun a b c h1 h2 => by simp at *; omega) (fun a b => by simp; omega) gs
    exact this.imp (fun h => by simpa using h)
  obtain ⟨h1, h2⟩ := compact_inc hs
  refine ⟨h1.filter _, fun x => ?_⟩
  unfold coreL
  rw [List.mem_filter, h2]
  unfold srt
  rw [List.mem_mergeSort]
  simp
/-! ## The model's names -/
def posP (out : List Int) (g : Int) : Nat → Nat
  | 0 => 0
  | k + 1 => if g < out.getD k 0 then posP out g k else k + 1
def nameS (out : List Int) (g : Int) : List Int := if 0 ≤ g ∧ (posP out g out.length = 0 ∨ out.getD (posP out g out.length - 1) 0 ≠ g) then out.take (posP out g out.length) ++ [g] ++ out.drop (posP out g out.length) else out
/-- what the model's Names answers -/
def namesP (gs : List Int) : List Int := gs.foldl nameS []
theorem posP_spec (out : List Int) (g : Int) : ∀ k, posP out g k ≤ k ∧ (∀ j, posP out g k ≤ j → j < k → g < out.getD j 0) ∧ (0 < posP out g k → out.getD (posP out g k - 1) 0 ≤ g) := by
  intro k
  induction k with
  | zero => exact ⟨Nat.le_refl _, fun j _ h => by omega, fun h => absurd h (by simp [posP])⟩
  | succ k ih =>
    obtain ⟨h1, h2, h3⟩ := ih
    by_cases c : g < out.getD k 0
    · rw [show posP out g (k + 1) = posP out g k from if_pos c]
      refine ⟨by omega, fun j hj hk => ?_, h3⟩
      by_cases e : j = k
      · subst e; exact c
      · exact h2 j hj (by omega)
    · rw [show posP out g (k + 1) = k + 1 from if_neg c]
      exact ⟨Nat.le_refl _, fun j _ _ => by omega, fun _ => by rw [show k + 1 - 1 = k by omega]; omega⟩
theorem getD_inc {l : List Int} (h : l.Pairwise (· < ·)) {i j : Nat} (hij : i < j) (hj : j < l.length) : l.getD i 0 < l.getD j 0 := by
  have := List.pairwise_iff_getElem.1 h i j (by omega) hj hij
  simpa [List.getD_eq_getElem?_getD, hj, show i < l.length by omega] using this
theorem mem_gD {l : List Int} {x : Int} : x ∈ l ↔ ∃ i, i < l.length ∧ l.getD i 0 = x := by
  constructor
  · intro h
    obtain ⟨i, hi, rfl⟩ := List.getElem_of_mem h
    exact ⟨i, hi, by simp [List.getD_eq_getElem?_getD, hi]⟩
  · rintro ⟨i, hi, rfl⟩
    simp [List.getD_eq_getElem?_getD, hi]
theorem nameS_inc {out : List Int} (h : out.Pairwise (· < ·)) (g : Int) : (nameS out g).Pairwise (· < ·) ∧ ∀ x, x ∈ nameS out g ↔ x ∈ out ∨ (x = g ∧ 0 ≤ g) := by
  obtain ⟨p1, p2, p3⟩ := posP_spec out g out.length
  unfold nameS
  generalize posP out g out.length = k at *
  have hlow : ∀ j, j < k → out.getD j 0 ≤ g := fun j hj => by
    have := p3 (by omega)
    by_cases e : j = k - 1
    · subst e; exact this
    · have := getD_inc h (show j < k - 1 by omega) (by omega); omega
  by_cases c : 0 ≤ g ∧ (k = 0 ∨ out.getD (k - 1) 0 ≠ g)
  · rw [if_pos c]
    have hlow2 : ∀ x ∈ out.take k, x < g := fun x hx => by
      obtain ⟨j, hj, rfl⟩ := mem_gD.1 hx
      rw [List.length_take] at hj
      have e : (out.take k).getD j 0 = out.getD j 0 := by simp [List.getD_eq_getElem?_getD, List.getElem?_take, show j < k by omega]
      rw [e]
      have h1 := hlow j (by omega)
      rcases c.2 with c | c
      · omega
      · by_cases e : j = k - 1
        · subst e; omega
        · have := getD_inc h (show j < k - 1 by omega) (by omega)
          have := p3 (by omega); omega
    have hhi : ∀ x ∈ out.drop k, g < x := fun x hx => by
      obtain ⟨j, hj, rfl⟩ := mem_gD.1 hx
      rw [List.length_drop] at hj
      have e : (out.drop k).getD j 0 = out.getD (k + j) 0 := by simp [List.getD_eq_getElem?_getD]
      rw [e]
      exact p2 _ (by omega) (by omega)
    constructor
    · rw [List.append_assoc, List.pairwise_append]
      refine ⟨h.sublist (List.take_sublist _ _), ?_, fun x hx y hy => ?_⟩
      · rw [List.singleton_append, List.pairwise_cons]
        exact ⟨hhi, h.sublist (List.drop_sublist _ _)⟩
      · have h1 := hlow2 x hx
        rw [List.singleton_append] at hy
        rcases List.mem_cons.1 hy with rfl | hy
        · exact h1
        · have := hhi y hy; omega
    · intro x
      have e : x ∈ out ↔ x ∈ out.take k ∨ x ∈ out.drop k := by
        rw [← List.mem_append, List.take_append_drop]
      rw [e]
      simp only [List.mem_append, List.mem_singleton]
      constructor
      · rintro ((h | h) | h)
        · exact .inl (.inl h)
        · exact .inr ⟨h, c.1⟩
        · exact .inl (.inr h)
      · rintro ((h | h) | h)
        · exact .inl (.inl h)
        · exact .inr h
        · exact .inl (.inr h.1)
  · rw [if_neg c]
    refine ⟨h, fun x => ⟨.inl, ?_⟩⟩
    rintro (h | ⟨rfl, h2⟩)
    · exact h
    · have c2 : ¬ (k = 0 ∨ out.getD (k - 1) 0 ≠ x) := fun h => c ⟨h2, h⟩
      have : out.getD (k - 1) 0 = x := Classical.byContradiction fun h => c2 (.inr h)
      exact mem_gD.2 ⟨k - 1, by omega, this⟩
theorem names_inc (gs : List Int) : ∀ out : List Int, out.Pairwise (· < ·) → (gs.foldl nameS out).Pairwise (· < ·) ∧ ∀ x, x ∈ gs.foldl nameS out ↔ x ∈ out ∨ (x ∈ gs ∧ 0 ≤ x) := by
  induction gs with
  | nil => intro out h; exact ⟨h, fun x => by simp⟩
  | cons g gs ih =>
    intro out h
    obtain ⟨h1, h2⟩ := nameS_inc h g
    obtain ⟨h3, h4⟩ := ih _ h1
    rw [List.foldl_cons]
    refine ⟨h3, fun x => ?_⟩
    rw [h4, h2, List.mem_cons]
    constructor
    · rintro ((h | ⟨h, h'⟩) | ⟨h, h'⟩)
      · exact .inl h
      · exact .inr ⟨.inl h, by omega⟩
      · exact .inr ⟨.inr h, h'⟩
    · rintro (h | ⟨h | h, h'⟩)
      · exact .inl (.inl h)
      · exact .inl (.inr ⟨h, by omega⟩)
      · exact .inr ⟨h, h'⟩
theorem names_core (gs : List Int) : namesP gs = coreL gs := by
  obtain ⟨h1, h2⟩ := names_inc gs [] List.Pairwise.nil
  obtain ⟨h3, h4⟩ := coreL_inc gs
  exact inc_ext h1 h3 fun x => by
    show x ∈ namesP gs ↔ _
    unfold namesP
    rw [h2, h4]; simp
theorem nameS_len (out : List Int) (g : Int) : (nameS out g).length ≤ out.length + 1 := by
  unfold nameS
  split
  · simp only [List.length_append, List.length_take, List.length_drop, List.length_singleton]; omega
  · omega
theorem names_len (gs : List Int) : ∀ out : List Int, (gs.foldl nameS out).length ≤ out.length + gs.length := by
  induction gs with
  | nil => intro out; exact Nat.le_refl _
  | cons g gs ih =>
    intro out
    have h1 := ih (nameS out g)
    have h2 := nameS_len out g
    rw [List.foldl_cons, List.length_cons]; omega
/-! ## Parts -/
theorem part_all {bs : List Bd} {gs list : List Int} (h : ∀ i, i < bs.length → inG gs list i = true) : part bs gs list = bs := by
  unfold part partK
  rw [List.filter_eq_self.2 fun i hi => h i (List.mem_range.1 hi)]
  apply List.ext_getElem
  · simp
  · intro i h1 h2
    simp [bg, List.getD_eq_getElem?_getD, h2]
theorem part_core {bs : List Bd} {gs : List Int} (hl : gs.length = bs.length) : part bs gs (coreL gs) = bs := part_all fun i hi => by
  unfold inG
  by_cases c : gs.getD i 0 < 0
  · rw [decide_eq_true c]; rfl
  · have : gs.getD i 0 ∈ coreL gs := ((coreL_inc gs).2 _).2 ⟨mem_gD.2 ⟨i, by omega, rfl⟩, by omega⟩
    rw [decide_eq_true this]; simp
theorem part_mono {bs : List Bd} {gs l m : List Int} (h : ∀ x ∈ l, x ∈ m) (hs : HasSol (part bs gs m)) : HasSol (part bs gs l) := by
  obtain ⟨f, hf⟩ := hs
  refine ⟨f, fun b hb => hf b ?_⟩
  unfold part partK at hb ⊢
  obtain ⟨i, hi, rfl⟩ := List.mem_map.1 hb
  refine List.mem_map_of_mem (List.mem_filter.2 ⟨(List.mem_filter.1 hi).1, ?_⟩)
  have := (List.mem_filter.1 hi).2
  unfold inG at this ⊢
  rw [Bool.or_eq_true] at this ⊢
  rcases this with h1 | h1
  · exact .inl h1
  · exact .inr (decide_eq_true (h _ (of_decide_eq_true h1)))
theorem sv_iff {n : Nat} {bs : List Bd} (hv : Vld n bs) {gs list : List Int} : sv n bs gs list = true ↔ HasSol (part bs gs list) := by
  unfold sv
  by_cases h : HasSol (part bs gs list)
  · rw [great_some (hv.part gs list) h]; simp [h]
  · rw [great_none (hv.part gs list) h]; simp [h]
theorem sol_sv {n : Nat} {bs : List Bd} (hv : Vld n bs) {gs list : List Int} : Sol (part bs gs list) (jacs (part bs gs list) n n) ↔ sv n bs gs list = true := by
  rw [sv_iff hv]; exact sol_iff_has (hv.part gs list)
theorem filter_ne {l : List Int} (h : l.Nodup) {k : Nat} (hk : k < l.length) : (l.filter fun x => !decide (x = l.getD k 0)) = l.take k ++ l.drop (k + 1) := by
  have e : l = l.take k ++ l.getD k 0 :: l.drop (k + 1) := by
    have : l.getD k 0 = l[k] := by simp [List.getD_eq_getElem?_getD, hk]
    rw [this, ← List.drop_eq_getElem_cons hk, List.take_append_drop]
  generalize l.getD k 0 = g at *
  generalize l.take k = a at *
  generalize l.drop (k + 1) = b at *
  subst e
  obtain ⟨h1, h2, h3⟩ := List.nodup_append.1 h
  obtain ⟨h4, h5⟩ := List.nodup_cons.1 h2
  rw [List.filter_append, List.filter_cons]
  simp only [decide_true, Bool.not_true, Bool.false_eq_true, if_false]
  rw [List.filter_eq_self.2 fun x hx => ?_, List.filter_eq_self.2 fun x hx => ?_]
  · have : x ≠ g := fun e => h4 (e ▸ hx)
    simp [this]
  · have : x ≠ g := h3 x hx g (List.mem_cons_self)
    simp [this]
/-- a step of the model: from the list and a place in it -/
theorem rest_step {n : Nat} {bs : List Bd} {gs list : List Int} {k : Nat} (h : list.Nodup) (hk : k < list.length) :
    (list.drop k).foldl (coreS n bs gs) list = if sv n bs gs (list.take k ++ list.drop (k + 1)) = true then (list.drop (k + 1)).foldl (coreS n bs gs) list else ((list.take k ++ list.drop (k + 1)).drop k).foldl (coreS n bs gs) (list.take k ++ list.drop (k + 1)) := by
  have e : list.drop k = list.getD k 0 :: list.drop (k + 1) := by
    rw [List.drop_eq_getElem_cons hk]; simp [List.getD_eq_getElem?_getD, hk]
  have e2 : (list.take k ++ list.drop (k + 1)).drop k = list.drop (k + 1) := by
    rw [List.drop_append, List.length_take, show min k list.length = k by omega, Nat.sub_self, List.drop_zero, List.drop_eq_nil_of_le (by rw [List.length_take]; omega), List.nil_append]
  rw [e2, e, List.foldl_cons]
  unfold coreS
  rw [filter_ne h hk]
  split <;> rfl
/-- what the model's Core answers -/
def rcor (n : Int) (bs : List Bd) (gs : List Int) : List Int × Int :=
  if validB n bs = true ∧ gs.length = bs.length ∧ ¬ ∃ x ∈ gs, decide (x < -1) = true then (if Sol bs (jacs bs n.toNat n.toNat) then ([], 6) else ((namesP gs).foldl (coreS n.toNat bs gs) (namesP gs), 0)) else ([], 1)
theorem cor_same (n : Int) (bs : List Bd) (gs : List Int) : cor n bs gs = rcor n bs gs := by
  unfold cor rcor
  by_cases h : validB n bs = true ∧ gs.length = bs.length ∧ ¬ ∃ x ∈ gs, decide (x < -1) = true
  · rw [if_pos h, if_pos h]
    obtain ⟨m, rfl, hv⟩ := Vld.of h.1
    rw [names_core, Int.toNat_natCast]
    have := @sol_sv m bs hv gs (coreL gs)
    rw [part_core h.2.1] at this
    by_cases c : sv m bs gs (coreL gs) = true
    · rw [if_pos c, if_pos (this.2 c)]
    · rw [if_neg c, if_neg (fun h => c (this.1 h))]
  · rw [if_neg h, if_neg h]
theorem coreS_sub {n : Nat} {bs : List Bd} {gs : List Int} (l : List Int) : ∀ list : List Int, (l.foldl (coreS n bs gs) list).Sublist list := by
  induction l with
  | nil => intro list; exact List.Sublist.refl _
  | cons a l ih =>
    intro list
    rw [List.foldl_cons]
    refine (ih _).trans ?_
    unfold coreS
    split
    · exact List.Sublist.refl _
    · exact List.filter_sublist
theorem coreS_no {n : Nat} {bs : List Bd} {gs : List Int} (l : List Int) : ∀ list : List Int, ¬ sv n bs gs list = true → ¬ sv n bs gs (l.foldl (coreS n bs gs) list) = true := by
  induction l with
  | nil => intro list h; exact h
  | cons a l ih =>
    intro list h
    rw [List.foldl_cons]
    refine ih _ ?_
    unfold coreS
    split
    · exact h
    · assumption
theorem coreS_some {n : Nat} {bs : List Bd} (hv : Vld n bs) {gs : List Int} (l : List Int) : ∀ (list : List Int) (g : Int), g ∈ l → g ∈ l.foldl (coreS n bs gs) list → HasSol (part bs gs ((l.foldl (coreS n bs gs) list).filter fun x => !decide (x = g))) := by
  induction l with
  | nil => intro list g h; cases h
  | cons a l ih =>
    intro list g hg hf
    rw [List.foldl_cons] at hf ⊢
    rcases List.mem_cons.1 hg with rfl | hg
    · by_cases c : sv n bs gs (list.filter fun x => !decide (x = g)) = true
      · rw [show coreS n bs gs list g = list from if_pos c]
        refine part_mono (fun x hx => ?_) ((sv_iff hv).1 c)
        rw [List.mem_filter] at hx ⊢
        exact ⟨(coreS_sub l list).subset hx.1, hx.2⟩
      · rw [show coreS n bs gs list g = list.filter fun x => !decide (x = g) from if_neg c] at hf
        have := (coreS_sub l _).subset hf
        simp at this
    · exact ih _ g hg hf
/-- what is true of a core -/
theorem core_spec {n : Nat} {bs : List Bd} (hv : Vld n bs) {gs : List Int} (h : (cor n bs gs).2 = 0) :
    gs.length = bs.length ∧ (∀ x ∈ gs, -1 ≤ x) ∧ ¬ HasSol (part bs gs (cor n bs gs).1) ∧ (∀ k, k < (cor n bs gs).1.length → HasSol (part bs gs ((cor n bs gs).1.take k ++ (cor n bs gs).1.drop (k + 1)))) := by
  unfold cor at h ⊢
  by_cases c : validB n bs = true ∧ gs.length = bs.length ∧ ¬ ∃ x ∈ gs, decide (x < -1) = true
  · rw [if_pos c] at h ⊢
    rw [Int.toNat_natCast] at h ⊢
    by_cases c2 : sv n bs gs (coreL gs) = true
    · rw [if_pos c2] at h; cases h
    · rw [if_neg c2]
      refine ⟨c.2.1, fun x hx => Classical.byContradiction fun h => c.2.2 ⟨x, hx, decide_eq_true (by omega)⟩, fun h => coreS_no _ _ c2 ((sv_iff hv).2 h), fun k hk => ?_⟩
      have hnd : ((coreL gs).foldl (coreS n bs gs) (coreL gs)).Nodup := ((coreL_inc gs).1.imp (fun h => by omega)).sublist (coreS_sub _ _)
      have hm : ((coreL gs).foldl (coreS n bs gs) (coreL gs)).getD k 0 ∈ (coreL gs).foldl (coreS n bs gs) (coreL gs) := mem_gD.2 ⟨k, hk, rfl⟩
      have := coreS_some hv (coreL gs) (coreL gs) _ ((coreS_sub _ _).subset hm) hm
      simp only at hk ⊢
      rwa [filter_ne hnd hk] at this
  · rw [if_neg c] at h; cases h
end Go.Proofs.YthggloiigkbfeaaGreat
namespace Go.Proofs.YthggloiigkbfeaaGreat
open W Go.RowKit
/-- the groups that a law makes -/
def groupsP (l : List Int) (m : Nat) : List Int := (List.range m).map fun i : Nat => atP l (i : Int) 6 - 1
theorem groupsP_succ (l : List Int) (m : Nat) : groupsP l (m + 1) = groupsP l m ++ [atP l (m : Int) 6 - 1] := by simp [groupsP, List.range_succ]
theorem groupsP_len (l : List Int) (m : Nat) : (groupsP l m).length = m := by simp [groupsP]
/-- a loop at whose end what is owned may become a fact -/
def LoopEndZ {σ : Type} (E : σ → Env) (B : σ → List Ow) (G : σ → List Fct) (I : σ → Prop) (μ : σ → Nat) (s : σ) (e' : Env) (bx' : List Ow) (F' : List Fct) : Prop := ∃ bx2 F2, (∀ fr w, OK fr bx' F' w → OK fr bx2 F2 w) ∧ LoopEnd E B G I μ s e' bx2 F2
section
variable {P : Program} {n : Nat} {c : Code} {e e' : Env} {bx bx' : List Ow} {F F' : List Fct} {Q : Post} {σ : Type} {E : σ → Env} {B : σ → List Ow} {G : σ → List Fct} {I : σ → Prop} {μ : σ → Nat} {s : σ} {v : Value} {el : Nat} {l : List Int}
theorem WC.lpZ (E : σ → Env) (B : σ → List Ow) (G : σ → List Fct) (I : σ → Prop) (μ : σ → Nat) (s0 : σ) (hI : I s0) (hround : ∀ s, I s → WC P n c (E s) (B s) (G s) (thenQ (LoopEndZ E B G I μ s) Q))
    (hE : W.Sub (E s0) e := by repeat (first | exact Sub.nil _ | refine Sub.cons rfl ?_)) (hB : (B s0).Sublist bx := by repeat (first | exact List.Sublist.refl _ | exact List.nil_sublist _ | apply List.Sublist.cons_cons | apply List.Sublist.cons)) (hG : HasAll F (G s0) := by repeat (first | exact HasAll.nil | (apply HasAll.cons; exact hmA))) : WC P n (.loop c) e bx F Q :=
  WC.loop E B G I μ s0 hI hE hB hG.all fun s hs fr w0 a w hk hr ho => wp_mono (hround s hs fr w0 a w hk hr ho) fun ex a' w' hq => by
    cases ex <;> first | exact hq | skip
    obtain ⟨e1, b1, F1, h1, h2, h3, b2, F2, h4, s', h5, h6, h7, h8⟩ := hq
    exact ⟨e1, b2, F2, h1, h2, h4 _ _ h3, s', h5, h6, h7, h8.all⟩
theorem LoopEndZ.of (h : LoopEnd E B G I μ s e' bx' F') : LoopEndZ E B G I μ s e' bx' F' := ⟨_, _, fun _ _ h => h, h⟩
theorem LoopEndZ.freezeI (hs : Sel bx (.slice v el 1 (ints l)) (.slice (.slice none 0 0) el 1 []) bx') (h : LoopEndZ E B G I μ s e' bx' (sI v l :: F)) : LoopEndZ E B G I μ s e' bx F := by
  obtain ⟨b2, F2, h1, h2⟩ := h
  refine ⟨b2, F2, fun fr w ho => h1 fr w (ho.freeze hs (by simp) (by decide) _ fun j hj => ?_), h2⟩
  have hj' : j < l.length := by omega
  simp [hj']
end
namespace J
open G H I
attribute [local irreducible] WC WL WD YO LO LoopEnd W.Fin Scalar SliceT FieldAt Row ArrT AllocT KnS Has W.One SrcE IntT
theorem d42 {G G' : Prop} (h : G') (s : Bx G' → G := by
  intro h
  first | (apply WC.draw (id := 9) [0, 1, 2, 3, 4, 5, 6, 7, 8, 9, 10, 11, 12] (.held 0 (.held 1 (.held 2 (.held 3 (.held 4 (.held 5 (.held 6 (.held 7 (.held 8 (.held 9 (.held 10 (.held 11 (.held 12 (.done)))))))))))))) mixed (by kernel_rfl)) | fail
  exact Bx.h h) : G := s ⟨h⟩
theorem d43 {G G' : Prop} (h : G') (s : Bx G' → G := by
  intro h
  first | (apply WC.draw (id := 1) [1, 2, 3, 5, 6, 7, 8, 10] (.held 1 (.held 2 (.held 3 (.held 5 (.held 6 (.held 7 (.held 8 (.loud 0 (.loud 4 (.loud 9 (.held 10 (.done)))))))))))) mixed (by kernel_rfl)) | fail
  exact Bx.h h) : G := s ⟨h⟩
theorem d96 {G G' : Prop} (h : G') (s : Bx G' → G := by
  intro h
  first | (apply WC.draw (id := 6) [0, 1, 2, 3, 4, 5, 6, 7, 8, 9, 10, 11, 12, 13] (.held 0 (.held 1 (.held 2 (.held 3 (.held 4 (.held 5 (.held 6 (.held 7 (.held 8 (.held 9 (.held 10 (.held 11 (.held 12 (.held 13 (.done))))))))))))))) mixed (by kernel_rfl)) | (apply WC.draw (id := 8) [0, 1, 2, 3, 4, 5, 6, 7, 8, 9, 10, 11, 12, 13, 14, 15, 16, 17, 18, 19, 20] (.held 0 (.held 1 (.held 2 (.held 3 (.held 4 (.held 5 (.held 6 (.held 7 (.held 8 (.held 9 (.held 10 (.held 11 (.held 12 (.held 13 (.held 14 (.held 15 (.held 16 (.held 17 (.held 18 (.held 19 (.held 20 (.done)))))))))))))))))))))) mixed (by kernel_rfl)) | (apply WC.draw (id := 9) [1, 2, 3, 5, 6, 7, 8, 11, 12, 13, 15] (.held 1 (.held 2 (.held 3 (.held 5 (.held 6 (.held 7 (.held 8 (.held 11 (.held 12 (.held 13 (.more 0 (.more 4 (.loud 9 (.loud 10 (.loud 14 (.held 15 (.done))))) (.loud 9 (.loud 4 (.loud 10 (.loud 14 (.held 15 (.done))))))) (.loud 9 (.loud 0 (.loud 4 (.loud 10 (.loud 14 (.held 15 (.done)))))))))))))))))) mixed (by kernel_rfl)) | fail
  exact Bx.h h) : G := s ⟨h⟩
set_option maxHeartbeats 4000000 in
set_option maxRecDepth 60000 in
theorem groups_c (v0 : Value) (l : List Int) (m : Nat) (hl : ∀ x ∈ l, I64 x) (hm : m ≤ 1000) : FnB Tryz.prog 39 [v0, .int .i64 m] [] [sI v0 l] (IsI (groupsP l m)) := by
  refine fn_of [(0, v0), (1, (.int .i64 m))] 20 Tryz.func39 rfl Tryz.ntmps39 (by kernel_rfl) rfl suA fun h0 => ?_
  refine WC.addNil 3 1 ?_
  repeat' (first | refine go ?_ | refine goX ?_ | refine goB ?_ | (refine goG ?_; intro g) | (refine goV ?_; intro v))
  refine WC.lp (σ := Nat × Value) (fun s => [(6, .int .i64 (s.1 : Int)), (5, s.2), (0, v0), (1, .int .i64 m)]) (fun s => [Ow.slice s.2 3 1 (ints (groupsP l s.1))]) (fun _ => [ge h0, sI v0 l]) (fun s => s.1 ≤ m) (fun s => m - s.1) (0, .slice none 0 0) (Nat.zero_le _) ?_ suA slA sfA
  rintro ⟨i, u⟩ hi
  simp only at hi ⊢
  have hlen := groupsP_len l i
  by_cases c : i < m
  · have ha := @atP_lt l (i : Int) 6 (by decide)
    repeat' (first | refine go ?_ | refine goX ?_ | refine goB ?_ | (refine goG ?_; intro g) | (refine goV ?_; intro v))
    first | refine WL.callV (at_c v0 l (i : Int) 6 hl (by decide)) ?_ | refine WD.callV (at_c v0 l (i : Int) 6 hl (by decide)) ?_
    repeat' (first | refine go ?_ | refine goX ?_ | refine goB ?_ | (refine goG ?_; intro g) | (refine goV ?_; intro v))
    refine LoopEnd.mk (i + 1, v) (by show i + 1 ≤ m; omega) (by show m - (i + 1) < m - i; omega) suA (by show List.Sublist [Ow.slice v 3 1 (ints (groupsP l (i + 1)))] _; rw [groupsP_succ, show ints (groupsP l i ++ [atP l (i : Int) 6 - 1]) = ints (groupsP l i) ++ [Value.int .i64 (atP l (i : Int) 6 - 1)] from by simp [ints]]; exact slA) sfA
  · obtain rfl : i = m := by omega
    repeat' (first | refine go ?_ | refine goX ?_ | refine goB ?_ | (refine goG ?_; intro g) | (refine goV ?_; intro v))
    refine WC.freezeI (l := groupsP l i) (v := u) (el := 3) (by repeat (first | exact Sel.head | apply Sel.tail)) ?_
    exact WC.ret (Fin.p [] [sI u (groupsP l i)] (ResE.t1 rfl rfl) meA (List.nil_sublist _) haA ⟨rfl, rfl⟩)
set_option maxHeartbeats 4000000 in
set_option maxRecDepth 60000 in
theorem without_c (v0 : Value) (l : List Int) (k : Nat) (hk : k < l.length) (hl : l.length ≤ 1000000) : FnB Tryz.prog 43 [v0, .int .i64 k] [] [sI v0 l] (IsI (l.take k ++ l.drop (k + 1))) := by
  refine fn_of [(0, v0), (1, (.int .i64 k))] 15 Tryz.func43 rfl Tryz.ntmps43 (by kernel_rfl) rfl suA fun h0 => ?_
  refine WC.fact (sI (resl v0 0 k 1) (l.take k)) (W.Has.takeI hmA (by omega)) ?_
  refine WC.fact (sI (resl v0 (k + 1) l.length 1) (l.drop (k + 1))) (W.Has.dropI hmA (by omega)) ?_
  have h1 : (l.take k).length = k := by rw [List.length_take]; omega
  have h2 : (l.drop (k + 1)).length = l.length - (k + 1) := List.length_drop
  repeat' (first | refine go ?_ | refine goX ?_ | refine goB ?_ | (refine goG ?_; intro g) | (refine goV ?_; intro v) | refine goD ?_ | refine goXD ?_ | (refine goDG ?_; intro g) | (refine goDV ?_; intro v) | refine d43 ?_ | fail)
  rw [show ((k : Int) + 1) = ((k + 1 : Nat) : Int) from by omega]
  repeat' (first | refine go ?_ | refine goX ?_ | refine goB ?_ | (refine goG ?_; intro g) | (refine goV ?_; intro v) | refine goD ?_ | refine goXD ?_ | (refine goDG ?_; intro g) | (refine goDV ?_; intro v) | refine d43 ?_ | fail)
  rw [show ([] ++ ints (l.take k)) ++ ints (l.drop (k + 1)) = ints (l.take k ++ l.drop (k + 1)) from by simp [ints]]
  show WC _ _ _ _ _ _ _
  refine WC.freezeI (l := l.take k ++ l.drop (k + 1)) (v := v) (el := 3) (by repeat (first | exact Sel.head | apply Sel.tail)) ?_
  exact WC.ret (Fin.p [] [sI v (l.take k ++ l.drop (k + 1))] (ResE.t1 rfl rfl) meA (List.nil_sublist _) haA ⟨rfl, rfl⟩)
set_option maxHeartbeats 4000000 in
set_option maxRecDepth 60000 in
theorem part_c (D : Nat) [Den D] (vb ug ul : Value) (ms : Nat → QM) (bs : List Bd) (gs list : List Int) (hg : gs.length = bs.length) (hm : ∀ x ∈ gs, -1 ≤ x) (hb : bs.length ≤ 2048) :
    FnB Tryz.prog 42 [vb, ug, ul] [] [fB D vb ms bs, sI ug gs, sI ul list] (IsBs D (part bs gs list)) := by
  refine fn_of [(0, vb), (1, ug), (2, ul)] 49 Tryz.func42 rfl Tryz.ntmps42 (by kernel_rfl) rfl suA fun h0 => ?_
  refine WC.addNil 59 6 ?_
  refine WC.lenI ul list hmA fun hll => ?_
  repeat' (first | refine go ?_ | refine goX ?_ | refine goB ?_ | (refine goG ?_; intro g) | (refine goV ?_; intro v) | refine goD ?_ | refine goXD ?_ | (refine goDG ?_; intro g) | (refine goDV ?_; intro v) | refine d42 ?_ | fail)
  refine WC.lp (σ := Nat × Value × (Nat → QM)) (fun s => [(8, .int .i64 (s.1 : Int)), (7, s.2.1), (0, vb), (1, ug), (2, ul)]) (fun s => [Ow.slice s.2.1 59 6 (bcells (partK bs gs list s.1) s.2.2)])
    (fun s => [mB D s.2.2 (partK bs gs list s.1), ge h0, fB D vb ms bs, sI ug gs, sI ul list]) (fun s => s.1 ≤ bs.length) (fun s => bs.length - s.1) (0, .slice none 0 0, fun _ => m00) (Nat.zero_le _) ?_ suA slA (.cons hasmB0 sfA)
  rintro ⟨i, vp, mp⟩ hi
  simp only at hi ⊢
  have hpl := partK_len bs gs list i
  by_cases c : i < bs.length
  · have hps := partK_succ bs gs list i
    have hgi : -1 ≤ gs.getD i 0 := hm _ (mem_gD.2 ⟨i, by omega, rfl⟩)
    refine WC.fact (isQ (qv (ms i)) (wq D (bg bs i).w)) (W.Has.b (W.Has.bm (v := vb) hmA) c) ?_
    by_cases c1 : gs.getD i 0 = -1
    all_goals repeat' (first | refine go ?_ | refine goX ?_ | refine goB ?_ | (refine goG ?_; intro g) | (refine goV ?_; intro v) | refine goD ?_ | refine goXD ?_ | (refine goDG ?_; intro g) | (refine goDV ?_; intro v) | refine d42 ?_ | fail)
    all_goals
      first
      | refine WC.lp (σ := Nat × Bool) (fun s => [(10, .int .i64 (s.1 : Int)), (9, .bool s.2), (8, .int .i64 (i : Int)), (7, vp), (0, vb), (1, ug), (2, ul)]) (fun _ => [Ow.slice vp 59 6 (bcells (partK bs gs list i) mp)])
          (fun _ => [isQ (qv (ms i)) (wq D (bg bs i).w), mB D mp (partK bs gs list i), ge h0, fB D vb ms bs, sI ug gs, sI ul list]) (fun s => s.1 ≤ list.length ∧ (s.2 = true ↔ (gs.getD i 0 = -1 ∨ ∃ j, j < s.1 ∧ list.getD j 0 = gs.getD i 0))) (fun s => list.length - s.1) (0, true) ⟨Nat.zero_le _, ⟨fun _ => .inl c1, fun _ => rfl⟩⟩ ?_ suA slA sfA
      | refine WC.lp (σ := Nat × Bool) (fun s => [(10, .int .i64 (s.1 : Int)), (9, .bool s.2), (8, .int .i64 (i : Int)), (7, vp), (0, vb), (1, ug), (2, ul)]) (fun _ => [Ow.slice vp 59 6 (bcells (partK bs gs list i) mp)])
          (fun _ => [isQ (qv (ms i)) (wq D (bg bs i).w), mB D mp (partK bs gs list i), ge h0, fB D vb ms bs, sI ug gs, sI ul list]) (fun s => s.1 ≤ list.length ∧ (s.2 = true ↔ (gs.getD i 0 = -1 ∨ ∃ j, j < s.1 ∧ list.getD j 0 = gs.getD i 0))) (fun s => list.length - s.1) (0, false) ⟨Nat.zero_le _, ⟨fun h => (by cases h), fun h => h.elim (fun h => absurd h c1) fun ⟨j, h1, _⟩ => absurd h1 (Nat.not_lt_zero j)⟩⟩ ?_ suA slA sfA
    all_goals
      rintro ⟨k, b⟩ ⟨hk, hbk⟩
      simp only at hk hbk ⊢
      by_cases ck : k < list.length
      · cases b with
        | true =>
          repeat' (first | refine go ?_ | refine goX ?_ | refine goB ?_ | (refine goG ?_; intro g) | (refine goV ?_; intro v) | refine goD ?_ | refine goXD ?_ | (refine goDG ?_; intro g) | (refine goDV ?_; intro v) | refine d42 ?_ | fail)
          refine LoopEnd.mk (k + 1, true) ⟨by show k + 1 ≤ list.length; omega, ⟨fun _ => ?_, fun _ => rfl⟩⟩ (by show list.length - (k + 1) < list.length - k; omega) suA slA sfA
          rcases hbk.1 rfl with h | ⟨j, h1, h2⟩
          · exact .inl h
          · exact .inr ⟨j, by show j < k + 1; omega, h2⟩
        | false =>
          have hno : ¬ (gs.getD i 0 = -1 ∨ ∃ j, j < k ∧ list.getD j 0 = gs.getD i 0) := fun h => by have := hbk.2 h; cases this
          first
          | exact absurd (Or.inl c1) hno
          | by_cases ce : list.getD k 0 = gs.getD i 0
            · repeat' (first | refine go ?_ | refine goX ?_ | refine goB ?_ | (refine goG ?_; intro g) | (refine goV ?_; intro v) | refine goD ?_ | refine goXD ?_ | (refine goDG ?_; intro g) | (refine goDV ?_; intro v) | refine d42 ?_ | fail)
              exact LoopEnd.mk (k + 1, true) ⟨by show k + 1 ≤ list.length; omega, ⟨fun _ => .inr ⟨k, by show k < k + 1; omega, ce⟩, fun _ => rfl⟩⟩ (by show list.length - (k + 1) < list.length - k; omega) suA slA sfA
            · repeat' (first | refine go ?_ | refine goX ?_ | refine goB ?_ | (refine goG ?_; intro g) | (refine goV ?_; intro v) | refine goD ?_ | refine goXD ?_ | (refine goDG ?_; intro g) | (refine goDV ?_; intro v) | refine d42 ?_ | fail)
              refine LoopEnd.mk (k + 1, false) ⟨by show k + 1 ≤ list.length; omega, ⟨fun h => (by cases h), fun h => ?_⟩⟩ (by show list.length - (k + 1) < list.length - k; omega) suA slA sfA
              refine absurd ?_ hno
              rcases h with h | ⟨j, h1, h2⟩
              · exact .inl h
              · by_cases e : j = k
                · subst e; exact absurd h2 ce
                · exact .inr ⟨j, by have h1 : j < k + 1 := h1; omega, h2⟩
      · obtain rfl : k = list.length := by omega
        have hin : inG gs list i = b := by
          rw [Bool.eq_iff_iff, hbk]
          unfold inG
          rw [Bool.or_eq_true, decide_eq_true_iff, decide_eq_true_iff, mem_gD]
          constructor
          · rintro (h | h)
            · exact .inl (by omega)
            · exact .inr h
          · rintro (h | h)
            · exact .inl (by omega)
            · exact .inr h
        rw [hin] at hps
        cases b with
        | true =>
          rw [if_pos rfl] at hps
          repeat' (first | refine go ?_ | refine goX ?_ | refine goB ?_ | (refine goG ?_; intro g) | (refine goV ?_; intro v) | refine goD ?_ | refine goXD ?_ | (refine goDG ?_; intro g) | (refine goDV ?_; intro v) | refine d42 ?_ | fail)
          refine LoopEnd.mk (i + 1, v, upd mp (partK bs gs list i).length (ms i)) (by show i + 1 ≤ bs.length; omega) (by show bs.length - (i + 1) < bs.length - i; omega) suA (by show List.Sublist [Ow.slice v 59 6 (bcells (partK bs gs list (i + 1)) _)] _; rw [hps]; exact slA) (HasAll.cons ?_ sfA)
          show Has _ (mB D _ (partK bs gs list (i + 1)))
          rw [hps]
          exact W.Has.mBapp hmA hmA
        | false =>
          rw [if_neg (by simp)] at hps
          repeat' (first | refine go ?_ | refine goX ?_ | refine goB ?_ | (refine goG ?_; intro g) | (refine goV ?_; intro v) | refine goD ?_ | refine goXD ?_ | (refine goDG ?_; intro g) | (refine goDV ?_; intro v) | refine d42 ?_ | fail)
          exact LoopEnd.mk (i + 1, vp, mp) (by show i + 1 ≤ bs.length; omega) (by show bs.length - (i + 1) < bs.length - i; omega) suA (by show List.Sublist [Ow.slice vp 59 6 (bcells (partK bs gs list (i + 1)) mp)] _; rw [hps]; exact slA) (HasAll.cons (by rw [hps]; exact hmA) sfA)
  · obtain rfl : i = bs.length := by omega
    repeat' (first | refine go ?_ | refine goX ?_ | refine goB ?_ | (refine goG ?_; intro g) | (refine goV ?_; intro v) | refine goD ?_ | refine goXD ?_ | (refine goDG ?_; intro g) | (refine goDV ?_; intro v) | refine d42 ?_ | fail)
    refine WC.freezeB (D := D) (el := 59) vp mp (partK bs gs list bs.length) (by repeat (first | exact Sel.head | apply Sel.tail)) hmA ?_
    exact WC.ret (Fin.p [] [fB D vp mp (part bs gs list)] (ResE.t1 rfl rfl) meA (List.nil_sublist _) haA ⟨mp, rfl, rfl⟩)
set_option maxHeartbeats 4000000 in
set_option maxRecDepth 60000 in
theorem names_c (v0 : Value) (gs : List Int) (hl : gs.length ≤ 2048) : FnB Tryz.prog 96 [v0] [] [sI v0 gs] (IsI (namesP gs)) := by
  refine fn_of [(0, v0)] 67 Tryz.func96 rfl Tryz.ntmps96 (by kernel_rfl) rfl suA fun h0 => ?_
  repeat' (first | refine go ?_ | refine goX ?_ | refine goB ?_ | (refine goG ?_; intro g) | (refine goV ?_; intro v) | refine goD ?_ | refine goXD ?_ | (refine goDG ?_; intro g) | (refine goDV ?_; intro v) | apply WD.more_of | refine WM.more (by exact rfl) (by exact rfl) (by exact rfl) ?_ ?_ | refine WM.one (by exact rfl) (by exact rfl) (by exact rfl) ?_ | refine WM.more0 (by exact rfl) (by exact rfl) ?_ ?_ | refine WM.one0 (by exact rfl) (by exact rfl) ?_ | (refine goLG ?_; intro g) | (refine goLV ?_; intro v) | refine goLS ?_ | refine d96 ?_ | fail)
  refine WC.lpZ (σ := Nat × Value) (fun s => [(4, .int .i64 (s.1 : Int)), (3, s.2), (0, v0)]) (fun _ => []) (fun s => [sI s.2 (namesP (gs.take s.1)), ge h0, sI v0 gs]) (fun s => s.1 ≤ gs.length) (fun s => gs.length - s.1) (0, .slice none 0 0) (Nat.zero_le _) ?_ suA slA (.cons nil0 sfA)
  rintro ⟨i, u⟩ hi
  simp only at hi ⊢
  by_cases c : i < gs.length
  · have hstep : namesP (gs.take (i + 1)) = nameS (namesP (gs.take i)) (gs.getD i 0) := by
      unfold namesP
      rw [List.take_add_one, List.foldl_append]; simp [List.getD_eq_getElem?_getD, c]
    have hln : (namesP (gs.take i)).length ≤ i := by
      have := names_len (gs.take i) []
      unfold namesP
      rw [List.length_take] at this; simp at this; omega
    generalize namesP (gs.take i) = out at *
    generalize hg : gs.getD i 0 = g at *
    have hps := posP_spec out g out.length
    repeat' (first | refine go ?_ | refine goX ?_ | refine goB ?_ | (refine goG ?_; intro g) | (refine goV ?_; intro v) | refine goD ?_ | refine goXD ?_ | (refine goDG ?_; intro g) | (refine goDV ?_; intro v) | apply WD.more_of | refine WM.more (by exact rfl) (by exact rfl) (by exact rfl) ?_ ?_ | refine WM.one (by exact rfl) (by exact rfl) (by exact rfl) ?_ | refine WM.more0 (by exact rfl) (by exact rfl) ?_ ?_ | refine WM.one0 (by exact rfl) (by exact rfl) ?_ | (refine goLG ?_; intro g) | (refine goLV ?_; intro v) | refine goLS ?_ | refine d96 ?_ | fail)
    refine WC.lp (σ := Nat) (fun k => [(5, .int .i64 (k : Int)), (4, .int .i64 (i : Int)), (3, u), (0, v0)]) (fun _ => []) (fun _ => [sI u out, ge h0, sI v0 gs]) (fun k => k ≤ out.length ∧ posP out g k = posP out g out.length) (fun k => k) out.length ⟨Nat.le_refl _, rfl⟩ ?_ suA slA sfA
    rintro k ⟨hk, hp⟩
    have ek : out.getD ((k : Int) - 1).toNat 0 = out.getD (k - 1) 0 := by rw [show ((k : Int) - 1).toNat = k - 1 by omega]
    by_cases c1 : 0 < k ∧ g < out.getD (k - 1) 0
    · obtain ⟨c0, c1⟩ := c1
      have hpp : posP out g k = posP out g (k - 1) := by
        obtain ⟨j, rfl⟩ : ∃ j, k = j + 1 := ⟨k - 1, by omega⟩
        exact if_pos c1
      repeat' (first | refine go ?_ | refine goX ?_ | refine goB ?_ | (refine goG ?_; intro g) | (refine goV ?_; intro v) | refine goD ?_ | refine goXD ?_ | (refine goDG ?_; intro g) | (refine goDV ?_; intro v) | apply WD.more_of | refine WM.more (by exact rfl) (by exact rfl) (by exact rfl) ?_ ?_ | refine WM.one (by exact rfl) (by exact rfl) (by exact rfl) ?_ | refine WM.more0 (by exact rfl) (by exact rfl) ?_ ?_ | refine WM.one0 (by exact rfl) (by exact rfl) ?_ | (refine goLG ?_; intro g) | (refine goLV ?_; intro v) | refine goLS ?_ | refine d96 ?_ | fail)
      rw [show ((k : Int) - 1) = ((k - 1 : Nat) : Int) from by omega]
      exact LoopEnd.mk (k - 1) ⟨by omega, by rw [← hpp]; exact hp⟩ (by omega) suA slA sfA
    · have hpk : posP out g out.length = k := by
        rw [← hp]
        cases k with
        | zero => rfl
        | succ k => exact if_neg (fun h => c1 ⟨by omega, h⟩)
      by_cases c3 : 0 ≤ g ∧ (k = 0 ∨ out.getD (k - 1) 0 ≠ g)
      · have hns : nameS out g = out.take k ++ [g] ++ out.drop k := by unfold nameS; rw [hpk, if_pos c3]
        obtain ⟨c3, c4⟩ := c3
        have h1 : (out.take k).length = k := by rw [List.length_take]; omega
        have h2 : (out.drop k).length = out.length - k := List.length_drop
        refine WC.fact (sI (resl u 0 k 1) (out.take k)) (W.Has.takeI hmA (by omega)) ?_
        refine WC.fact (sI (resl u k out.length 1) (out.drop k)) (W.Has.dropI hmA (by omega)) ?_
        by_cases c0 : k = 0
        all_goals repeat' (first | refine go ?_ | refine goX ?_ | refine goB ?_ | (refine goG ?_; intro g) | (refine goV ?_; intro v) | refine goD ?_ | refine goXD ?_ | (refine goDG ?_; intro g) | (refine goDV ?_; intro v) | apply WD.more_of | refine WM.more (by exact rfl) (by exact rfl) (by exact rfl) ?_ ?_ | refine WM.one (by exact rfl) (by exact rfl) (by exact rfl) ?_ | refine WM.more0 (by exact rfl) (by exact rfl) ?_ ?_ | refine WM.one0 (by exact rfl) (by exact rfl) ?_ | (refine goLG ?_; intro g) | (refine goLV ?_; intro v) | refine goLS ?_ | refine d96 ?_ | fail)
        all_goals rw [show (([] ++ ints (out.take k)) ++ [Value.int .i64 (gs.getD i 0)]) ++ ints (out.drop k) = ints (nameS out g) from by rw [hns, hg]; simp [ints]]
        all_goals refine LoopEndZ.freezeI (l := nameS out g) (v := v) (el := 3) (by repeat (first | exact Sel.head | apply Sel.tail)) (.of ?_)
        all_goals exact LoopEnd.mk (i + 1, v) (by show i + 1 ≤ gs.length; omega) (by show gs.length - (i + 1) < gs.length - i; omega) suA (List.nil_sublist _) (.cons (by rw [hstep]; exact hmA) sfA)
      · have hns : nameS out g = out := by unfold nameS; rw [hpk, if_neg c3]
        rw [hns] at hstep
        by_cases c5 : g < 0
        · by_cases c0 : k = 0
          all_goals repeat' (first | refine go ?_ | refine goX ?_ | refine goB ?_ | (refine goG ?_; intro g) | (refine goV ?_; intro v) | refine goD ?_ | refine goXD ?_ | (refine goDG ?_; intro g) | (refine goDV ?_; intro v) | apply WD.more_of | refine WM.more (by exact rfl) (by exact rfl) (by exact rfl) ?_ ?_ | refine WM.one (by exact rfl) (by exact rfl) (by exact rfl) ?_ | refine WM.more0 (by exact rfl) (by exact rfl) ?_ ?_ | refine WM.one0 (by exact rfl) (by exact rfl) ?_ | (refine goLG ?_; intro g) | (refine goLV ?_; intro v) | refine goLS ?_ | refine d96 ?_ | fail)
          all_goals exact .of (LoopEnd.mk (i + 1, u) (by show i + 1 ≤ gs.length; omega) (by show gs.length - (i + 1) < gs.length - i; omega) suA slA (.cons (by rw [hstep]; exact hmA) sfA))
        · have c0 : ¬ k = 0 := fun h => c3 ⟨by omega, .inl h⟩
          have c4 : out.getD (k - 1) 0 = g := Classical.byContradiction fun h => c3 ⟨by omega, .inr h⟩
          repeat' (first | refine go ?_ | refine goX ?_ | refine goB ?_ | (refine goG ?_; intro g) | (refine goV ?_; intro v) | refine goD ?_ | refine goXD ?_ | (refine goDG ?_; intro g) | (refine goDV ?_; intro v) | apply WD.more_of | refine WM.more (by exact rfl) (by exact rfl) (by exact rfl) ?_ ?_ | refine WM.one (by exact rfl) (by exact rfl) (by exact rfl) ?_ | refine WM.more0 (by exact rfl) (by exact rfl) ?_ ?_ | refine WM.one0 (by exact rfl) (by exact rfl) ?_ | (refine goLG ?_; intro g) | (refine goLV ?_; intro v) | refine goLS ?_ | refine d96 ?_ | fail)
          exact .of (LoopEnd.mk (i + 1, u) (by show i + 1 ≤ gs.length; omega) (by show gs.length - (i + 1) < gs.length - i; omega) suA slA (.cons (by rw [hstep]; exact hmA) sfA))
  · obtain rfl : i = gs.length := by omega
    repeat' (first | refine go ?_ | refine goX ?_ | refine goB ?_ | (refine goG ?_; intro g) | (refine goV ?_; intro v) | refine goD ?_ | refine goXD ?_ | (refine goDG ?_; intro g) | (refine goDV ?_; intro v) | apply WD.more_of | refine WM.more (by exact rfl) (by exact rfl) (by exact rfl) ?_ ?_ | refine WM.one (by exact rfl) (by exact rfl) (by exact rfl) ?_ | refine WM.more0 (by exact rfl) (by exact rfl) ?_ ?_ | refine WM.one0 (by exact rfl) (by exact rfl) ?_ | (refine goLG ?_; intro g) | (refine goLV ?_; intro v) | refine goLS ?_ | refine d96 ?_ | fail)
    exact WC.ret (Fin.p [] [sI u (namesP gs)] (ResE.t1 rfl rfl) meA (List.nil_sublist _) (by rw [List.take_of_length_le (Nat.le_refl _)]; exact haA) ⟨rfl, rfl⟩)
end J
end Go.Proofs.YthggloiigkbfeaaGreat
namespace Go.Proofs.YthggloiigkbfeaaGreat
open W Go.RowKit
namespace J
open G H I
attribute [local irreducible] WC WL WD YO LO LoopEnd W.Fin Scalar SliceT FieldAt Row ArrT AllocT KnS Has W.One SrcE IntT
set_option maxHeartbeats 8000000 in
set_option maxRecDepth 60000 in
theorem rcore_c (D : Nat) [Den D] (vb ug : Value) (ms : Nat → QM) (bs : List Bd) (gs : List Int) (n : Int) (hb : 32 * absS bs ≤ 400000000) :
    FnB Tryz.prog 41 [.int .i64 n, vb, ug] [] [fB D vb ms bs, sI ug gs] (IsCo (rcor n bs gs)) := by
  refine fn_of [(0, (.int .i64 n)), (1, vb), (2, ug)] 64 Tryz.func41 rfl Tryz.ntmps41 (by kernel_rfl) rfl suA fun h0 => ?_
  have hf : Fit bs := by unfold Fit; omega
  have bad : ∀ {F : List Fct}, rcor n bs gs = ([], 1) → HasAll F [sI (.slice none 0 0) (rcor n bs gs).1] := fun h => .cons (by rw [h]; exact nil0) .nil
  refine WC.lenI ug gs hmA fun hgl => ?_
  repeat' (first | refine go ?_ | refine goX ?_ | refine goB ?_ | (refine goG ?_; intro g) | (refine goV ?_; intro v))
  first | refine WL.callV (valid_c D vb ms bs n) ?_ | refine WD.callV (valid_c D vb ms bs n) ?_
  cases hvb : validB n bs with
  | false =>
    have hc : rcor n bs gs = ([], 1) := if_neg (by rw [hvb]; simp)
    repeat' (first | refine go ?_ | refine goX ?_ | refine goB ?_ | (refine goG ?_; intro g) | (refine goV ?_; intro v))
    exact WC.ret (Fin.p [] [sI (.slice none 0 0) (rcor n bs gs).1] (ResE.t2 rfl rfl rfl) meA (List.nil_sublist _) (bad hc) ⟨_, by rw [hc], rfl, rfl⟩)
  | true =>
    obtain ⟨n, rfl, hv⟩ := Vld.of hvb
    have hvl := hv.l
    have hn2 := hv.n2
    by_cases c1 : (gs.length : Int) = bs.length
    · repeat' (first | refine go ?_ | refine goX ?_ | refine goB ?_ | (refine goG ?_; intro g) | (refine goV ?_; intro v))
      refine WC.lp (σ := Nat) (fun i => [(8, .int .i64 (i : Int)), (0, .int .i64 n), (1, vb), (2, ug)]) (fun _ => []) (fun _ => [ge h0, fB D vb ms bs, sI ug gs]) (fun i => i ≤ gs.length ∧ ∀ j, j < i → -1 ≤ gs.getD j 0) (fun i => gs.length - i) 0 ⟨Nat.zero_le _, fun j h => by omega⟩ ?_ suA slA sfA
      rintro i ⟨hi, hall⟩
      by_cases ci : i < gs.length
      · by_cases c2 : gs.getD i 0 < -1
        · have hc : rcor n bs gs = ([], 1) := if_neg (fun h => h.2.2 ⟨_, mem_gD.2 ⟨i, ci, rfl⟩, decide_eq_true c2⟩)
          repeat' (first | refine go ?_ | refine goX ?_ | refine goB ?_ | (refine goG ?_; intro g) | (refine goV ?_; intro v))
          exact WC.ret (Fin.p [] [sI (.slice none 0 0) (rcor n bs gs).1] (ResE.t2 rfl rfl rfl) meA (List.nil_sublist _) (bad hc) ⟨_, by rw [hc], rfl, rfl⟩)
        · repeat' (first | refine go ?_ | refine goX ?_ | refine goB ?_ | (refine goG ?_; intro g) | (refine goV ?_; intro v))
          refine LoopEnd.mk (i + 1) ⟨by omega, fun j hj => ?_⟩ (by show gs.length - (i + 1) < gs.length - i; omega) suA slA sfA
          by_cases e : j = i
          · subst e; omega
          · exact hall j (by omega)
      · obtain rfl : i = gs.length := by omega
        have hge : ∀ x ∈ gs, -1 ≤ x := fun x hx => by
          obtain ⟨j, hj, rfl⟩ := mem_gD.1 hx
          exact hall j hj
        have hnb : n * absS bs ≤ 400000000 := Nat.le_trans (Nat.mul_le_mul_right _ hn2) hb
        have hx : FitX (jacs bs n n) := (jacs_wth hv n).mono hnb
        have hxl := jacs_len bs n n
        have hcor : rcor n bs gs = if Sol bs (jacs bs n n) then ([], 6) else ((namesP gs).foldl (coreS n bs gs) (namesP gs), 0) := by
          unfold rcor
          rw [if_pos ⟨hvb, by omega, fun ⟨x, h1, h2⟩ => by have := hge x h1; have := of_decide_eq_true h2; omega⟩]; rfl
        repeat' (first | refine go ?_ | refine goX ?_ | refine goB ?_ | (refine goG ?_; intro g) | (refine goV ?_; intro v))
        first | refine WL.callK (names_c ug gs (by omega)) ?_ | refine WD.callK (names_c ug gs (by omega)) ?_ | refine LO.callM (names_c ug gs (by omega)) ?_
        rintro rv _ _ ⟨rfl, rfl⟩
        simp only [List.nil_append, List.cons_append]
        have hnd : (namesP gs).Nodup := by rw [names_core]; exact (coreL_inc gs).1.imp (fun h => by omega)
        have hnl : (namesP gs).length ≤ 2048 := by have := names_len gs []; unfold namesP; simp at this; omega
        generalize namesP gs = L0 at *
        repeat' (first | refine go ?_ | refine goX ?_ | refine goB ?_ | (refine goG ?_; intro g) | (refine goV ?_; intro v))
        first | refine WL.callK (rgreatest_c D vb ms bs n hv hf) ?_ | refine WD.callK (rgreatest_c D vb ms bs n hv hf) ?_ | refine LO.callM (rgreatest_c D vb ms bs n hv hf) ?_
        rintro rx _ _ ⟨mx, rfl, rfl⟩
        simp only [List.nil_append, List.cons_append]
        repeat' (first | refine go ?_ | refine goX ?_ | refine goB ?_ | (refine goG ?_; intro g) | (refine goV ?_; intro v))
        first | refine WL.callV (solves_c D vb rx ms mx bs (jacs bs n n) n hv hx hf) ?_ | refine WD.callV (solves_c D vb rx ms mx bs (jacs bs n n) n hv hx hf) ?_
        by_cases cs : Sol bs (jacs bs n n)
        · rw [if_pos cs] at hcor
          rw [decide_eq_true ⟨hxl, cs⟩]
          repeat' (first | refine go ?_ | refine goX ?_ | refine goB ?_ | (refine goG ?_; intro g) | (refine goV ?_; intro v))
          exact WC.ret (Fin.p [] [sI (.slice none 0 0) (rcor n bs gs).1] (ResE.t2 rfl rfl rfl) meA (List.nil_sublist _) (.cons (by rw [hcor]; exact nil0) .nil) ⟨_, by rw [hcor], rfl, rfl⟩)
        · rw [if_neg cs] at hcor
          rw [decide_eq_false (fun h => cs h.2)]
          generalize hR0 : L0.foldl (coreS n bs gs) L0 = R at *
          repeat' (first | refine go ?_ | refine goX ?_ | refine goB ?_ | (refine goG ?_; intro g) | (refine goV ?_; intro v))
          refine WC.lp (σ := Nat × Value × List Int) (fun s => [(10, .int .i64 (s.1 : Int)), (9, s.2.1), (0, .int .i64 n), (1, vb), (2, ug)]) (fun _ => []) (fun s => [sI s.2.1 s.2.2, ge h0, fB D vb ms bs, sI ug gs]) (fun s => s.1 ≤ s.2.2.length ∧ s.2.2.Nodup ∧ s.2.2.length ≤ 2048 ∧ (s.2.2.drop s.1).foldl (coreS n bs gs) s.2.2 = R) (fun s => s.2.2.length - s.1) (0, rv, L0) ⟨Nat.zero_le _, hnd, hnl, hR0⟩ ?_ suA slA sfA
          rintro ⟨k, ul, L⟩ ⟨hk, hd, hll, hR⟩
          simp only at hk hd hll hR ⊢
          by_cases ck : k < L.length
          · have hst := rest_step (n := n) (bs := bs) (gs := gs) hd ck
            rw [hR] at hst
            have hrd : (L.take k ++ L.drop (k + 1)).Nodup := by rw [← filter_ne hd ck]; exact hd.sublist List.filter_sublist
            have hrl : (L.take k ++ L.drop (k + 1)).length = L.length - 1 := by simp only [List.length_append, List.length_take, List.length_drop]; omega
            repeat' (first | refine go ?_ | refine goX ?_ | refine goB ?_ | (refine goG ?_; intro g) | (refine goV ?_; intro v))
            first | refine WL.callK (without_c ul L k ck (by omega)) ?_ | refine WD.callK (without_c ul L k ck (by omega)) ?_ | refine LO.callM (without_c ul L k ck (by omega)) ?_
            rintro rw_ _ _ ⟨rfl, rfl⟩
            simp only [List.nil_append, List.cons_append]
            generalize L.take k ++ L.drop (k + 1) = L1 at *
            have hvp := hv.part gs L1
            have hpa := part_abs bs gs L1
            have hfp : Fit (part bs gs L1) := by unfold Fit at *; omega
            have hxp : FitX (jacs (part bs gs L1) n n) := (jacs_wth hvp n).mono (Nat.le_trans (Nat.mul_le_mul_left _ hpa) hnb)
            have hxpl := jacs_len (part bs gs L1) n n
            repeat' (first | refine go ?_ | refine goX ?_ | refine goB ?_ | (refine goG ?_; intro g) | (refine goV ?_; intro v))
            first | refine WL.callK (part_c D vb ug rw_ ms bs gs L1 (by omega) hge hvl) ?_ | refine WD.callK (part_c D vb ug rw_ ms bs gs L1 (by omega) hge hvl) ?_ | refine LO.callM (part_c D vb ug rw_ ms bs gs L1 (by omega) hge hvl) ?_
            rintro vp _ _ ⟨mp, rfl, rfl⟩
            simp only [List.nil_append, List.cons_append]
            repeat' (first | refine go ?_ | refine goX ?_ | refine goB ?_ | (refine goG ?_; intro g) | (refine goV ?_; intro v))
            first | refine WL.callK (rgreatest_c D vp mp (part bs gs L1) n hvp hfp) ?_ | refine WD.callK (rgreatest_c D vp mp (part bs gs L1) n hvp hfp) ?_ | refine LO.callM (rgreatest_c D vp mp (part bs gs L1) n hvp hfp) ?_
            rintro ry _ _ ⟨my, rfl, rfl⟩
            simp only [List.nil_append, List.cons_append]
            repeat' (first | refine go ?_ | refine goX ?_ | refine goB ?_ | (refine goG ?_; intro g) | (refine goV ?_; intro v))
            first | refine WL.callV (solves_c D vp ry mp my (part bs gs L1) (jacs (part bs gs L1) n n) n hvp hxp hfp) ?_ | refine WD.callV (solves_c D vp ry mp my (part bs gs L1) (jacs (part bs gs L1) n n) n hvp hxp hfp) ?_
            by_cases csv : Sol (part bs gs L1) (jacs (part bs gs L1) n n)
            · rw [if_pos ((sol_sv hv).1 csv)] at hst
              rw [decide_eq_true ⟨hxpl, csv⟩]
              repeat' (first | refine go ?_ | refine goX ?_ | refine goB ?_ | (refine goG ?_; intro g) | (refine goV ?_; intro v))
              exact LoopEnd.mk (k + 1, ul, L) ⟨by show k + 1 ≤ L.length; omega, hd, hll, hst.symm⟩ (by show L.length - (k + 1) < L.length - k; omega) suA slA sfA
            · rw [if_neg (fun h => csv ((sol_sv hv).2 h))] at hst
              rw [decide_eq_false (fun h => csv h.2)]
              repeat' (first | refine go ?_ | refine goX ?_ | refine goB ?_ | (refine goG ?_; intro g) | (refine goV ?_; intro v))
              exact LoopEnd.mk (k, rw_, L1) ⟨by show k ≤ L1.length; omega, hrd, by show L1.length ≤ 2048; omega, hst.symm⟩ (by show L1.length - k < L.length - k; omega) suA slA sfA
          · obtain rfl : k = L.length := by omega
            rw [List.drop_of_length_le (Nat.le_refl _), List.foldl_nil] at hR
            subst hR
            repeat' (first | refine go ?_ | refine goX ?_ | refine goB ?_ | (refine goG ?_; intro g) | (refine goV ?_; intro v))
            exact WC.ret (Fin.p [] [sI ul (rcor n bs gs).1] (ResE.t2 rfl rfl rfl) meA (List.nil_sublist _) (.cons (by rw [hcor]; exact hmA) .nil) ⟨ul, by rw [hcor], rfl, rfl⟩)
    · have hc : rcor n bs gs = ([], 1) := if_neg (fun h => c1 (by omega))
      repeat' (first | refine go ?_ | refine goX ?_ | refine goB ?_ | (refine goG ?_; intro g) | (refine goV ?_; intro v))
      exact WC.ret (Fin.p [] [sI (.slice none 0 0) (rcor n bs gs).1] (ResE.t2 rfl rfl rfl) meA (List.nil_sublist _) (bad hc) ⟨_, by rw [hc], rfl, rfl⟩)
end J
end Go.Proofs.YthggloiigkbfeaaGreat
namespace Go.Proofs.YthggloiigkbfeaaGreat
open W Go.RowKit
theorem cor_long {n : Int} {bs : List Bd} {ws : List Int} (h : ws.length ≠ bs.length) : cor n bs ws = ([], 1) := if_neg (fun c => h c.2.1)
theorem cor_low {n : Int} {bs : List Bd} {ws : List Int} {x : Int} (h : x ∈ ws) (hx : x < -1) : cor n bs ws = ([], 1) := if_neg (fun c => c.2.2 ⟨x, h, decide_eq_true hx⟩)
theorem cor_len (n : Int) (bs : List Bd) (gs : List Int) : (cor n bs gs).1.length ≤ gs.length := by
  unfold cor
  split
  · split
    · exact Nat.zero_le _
    · exact Nat.le_trans (coreS_len _ _ _ _ _) (coreL_len gs)
  · exact Nat.zero_le _
namespace J
open G H I
attribute [local irreducible] WC WL WD YO LO LoopEnd W.Fin Scalar SliceT FieldAt Row ArrT AllocT KnS Has W.One SrcE IntT
set_option maxHeartbeats 16000000 in
set_option maxRecDepth 60000 in
theorem cores_c (v0 v1 : Value) (l gl : List Int) (how at_ : Int) (hl : ∀ x ∈ l, I64 x) (hgl : ∀ x ∈ gl, I64 x) (hh : I64 how) (ha : I64 at_) :
    FnB Tryz.prog 7 [v0, v1, .int .i64 how, .int .i64 at_] [] [sI v0 l, sI v1 gl] (IsV (.bool true)) := by
  refine fn_of [(0, v0), (1, v1), (2, (.int .i64 how)), (3, (.int .i64 at_))] 166 Tryz.func7 rfl Tryz.ntmps7 (by kernel_rfl) rfl suA fun h0 => ?_
  have hs := sysL_sml l (most := 6) (by decide) (by decide)
  have hsl := sysL_len l 6
  obtain ⟨n, hn, hn8, hv⟩ := sys_vld l (most := 6) (by decide) (by decide)
  repeat' (first | refine go ?_ | refine goX ?_ | refine goB ?_ | (refine goG ?_; intro g) | (refine goV ?_; intro v))
  first | refine WL.callK (system_c v0 l 6 hl (by decide) (by decide)) ?_ | refine WD.callK (system_c v0 l 6 hl (by decide) (by decide)) ?_ | refine LO.callM (system_c v0 l 6 hl (by decide) (by decide)) ?_
  rintro rv bb GG ⟨vb, ms, rfl, rfl, rfl⟩
  simp only [List.nil_append, List.cons_append]
  rw [hn]
  generalize sysL l 6 = bs at *
  repeat' (first | refine go ?_ | refine goX ?_ | refine goB ?_ | (refine goG ?_; intro g) | (refine goV ?_; intro v))
  first | refine WL.callK (groups_c v1 gl bs.length hgl (by omega)) ?_ | refine WD.callK (groups_c v1 gl bs.length hgl (by omega)) ?_ | refine LO.callM (groups_c v1 gl bs.length hgl (by omega)) ?_
  rintro ug bb GG ⟨rfl, rfl⟩
  simp only [List.nil_append, List.cons_append]
  have hgsl := groupsP_len gl bs.length
  generalize groupsP gl bs.length = gs at *
  repeat' (first | refine go ?_ | refine goX ?_ | refine goB ?_ | (refine goG ?_; intro g) | (refine goV ?_; intro v))
  first | refine WL.callK (bent_c 6 vb ms bs n how at_ (by omega) hh ha) ?_ | refine WD.callK (bent_c 6 vb ms bs n how at_ (by omega) hh ha) ?_ | refine LO.callM (bent_c 6 vb ms bs n how at_ (by omega) hh ha) ?_
  rintro rv bb GG ⟨vc, mc, rfl, rfl, rfl⟩
  simp only [List.nil_append, List.cons_append]
  have hs1 : Sml (bentP n bs how at_).2 := bent_sml hs
  generalize hbp : bentP n bs how at_ = bp at *
  obtain ⟨k1, cs⟩ := bp
  simp only at hs1 ⊢
  have hspec := @core_spec n bs hv gs
  have hclen := cor_len n bs gs
  by_cases c0 : 0 < gs.length
  · repeat' (first | refine go ?_ | refine goX ?_ | refine goB ?_ | (refine goG ?_; intro g) | (refine goV ?_; intro v))
    refine WL.y (YO.trem rfl rfl (by decide)) rfl rfl ?_
    generalize at_.tmod 2 = r at *
    by_cases cr : r = 0
    · have hk0 := @around_lt how (gs.length : Int) (by omega)
      repeat' (first | refine go ?_ | refine goX ?_ | refine goB ?_ | (refine goG ?_; intro g) | (refine goV ?_; intro v))
      first | refine WL.callV (around_c how (gs.length : Int) hh (by omega)) ?_ | refine WD.callV (around_c how (gs.length : Int) hh (by omega)) ?_
      obtain ⟨k, hk⟩ : ∃ k : Nat, around how (gs.length : Int) = k := ⟨(around how (gs.length : Int)).toNat, by omega⟩
      rw [hk] at hk0 ⊢
      have hwr : cor n bs (gs.set k (-2)) = ([], 1) := cor_low (x := -2) (mem_gD.2 ⟨k, by rw [List.length_set]; omega, by simp [List.getD_eq_getElem?_getD, show k < gs.length by omega]⟩) (by decide)
      repeat' (first | refine go ?_ | refine goX ?_ | refine goB ?_ | (refine goG ?_; intro g) | (refine goV ?_; intro v))
      refine WL.freezeI (l := gs.set k (-2)) (v := v) (el := 3) (by repeat (first | exact Sel.head | apply Sel.tail)) ?_
      revert v; intro vw
      generalize gs.set k (-2) = ws at *
      first | refine WL.callK (core_c 6 vb ug ms bs gs n hs.fit) ?_ | refine WD.callK (core_c 6 vb ug ms bs gs n hs.fit) ?_ | refine LO.callM (core_c 6 vb ug ms bs gs n hs.fit) ?_
      rintro rv bb GG ⟨uc1, rfl, rfl, rfl⟩
      simp only [List.nil_append, List.cons_append]
      repeat' (first | refine go ?_ | refine goX ?_ | refine goB ?_ | (refine goG ?_; intro g) | (refine goV ?_; intro v))
      first | refine WL.callK (rcore_c 6 vb ug ms bs gs n (hs.mul (by decide))) ?_ | refine WD.callK (rcore_c 6 vb ug ms bs gs n (hs.mul (by decide))) ?_ | refine LO.callM (rcore_c 6 vb ug ms bs gs n (hs.mul (by decide))) ?_
      rintro rv bb GG ⟨uc2, rfl, rfl, rfl⟩
      simp only [List.nil_append, List.cons_append]
      rw [← cor_same]
      repeat' (first | refine go ?_ | refine goX ?_ | refine goB ?_ | (refine goG ?_; intro g) | (refine goV ?_; intro v))
      first | refine WL.callK (core_c 6 vb vw ms bs ws n hs.fit) ?_ | refine WD.callK (core_c 6 vb vw ms bs ws n hs.fit) ?_ | refine LO.callM (core_c 6 vb vw ms bs ws n hs.fit) ?_
      rintro rv bb GG ⟨uc3, rfl, rfl, rfl⟩
      simp only [List.nil_append, List.cons_append]
      rw [hwr]
      repeat' (first | refine go ?_ | refine goX ?_ | refine goB ?_ | (refine goG ?_; intro g) | (refine goV ?_; intro v))
      first | refine WL.callK (core_c 6 vc ug mc cs gs k1 hs1.fit) ?_ | refine WD.callK (core_c 6 vc ug mc cs gs k1 hs1.fit) ?_ | refine LO.callM (core_c 6 vc ug mc cs gs k1 hs1.fit) ?_
      rintro rv bb GG ⟨uc4, rfl, rfl, rfl⟩
      simp only [List.nil_append, List.cons_append]
      repeat' (first | refine go ?_ | refine goX ?_ | refine goB ?_ | (refine goG ?_; intro g) | (refine goV ?_; intro v))
      first | refine WL.callK (rcore_c 6 vc ug mc cs gs k1 (hs1.mul (by decide))) ?_ | refine WD.callK (rcore_c 6 vc ug mc cs gs k1 (hs1.mul (by decide))) ?_ | refine LO.callM (rcore_c 6 vc ug mc cs gs k1 (hs1.mul (by decide))) ?_
      rintro rv bb GG ⟨uc5, rfl, rfl, rfl⟩
      simp only [List.nil_append, List.cons_append]
      rw [← cor_same]
      generalize cor k1 cs gs = R2
      generalize cor n bs gs = R1 at *
      obtain ⟨R2a, R2b⟩ := R2
      obtain ⟨C, e⟩ := R1
      simp only at hspec hclen ⊢
      repeat' (first | refine go ?_ | refine goX ?_ | refine goB ?_ | (refine goG ?_; intro g) | (refine goV ?_; intro v))
      first | refine WL.callV (sameInts_c uc1 uc2 C C) ?_ | refine WD.callV (sameInts_c uc1 uc2 C C) ?_
      rw [decide_eq_true rfl]
      repeat' (first | refine go ?_ | refine goX ?_ | refine goB ?_ | (refine goG ?_; intro g) | (refine goV ?_; intro v))
      first | refine WL.callV (sameInts_c uc4 uc5 R2a R2a) ?_ | refine WD.callV (sameInts_c uc4 uc5 R2a R2a) ?_
      rw [decide_eq_true rfl]
      by_cases he : e = 0
      · subst he
        obtain ⟨h1, h2, h3, h4⟩ := hspec rfl
        have hfp : ∀ L : List Int, Fit (part bs gs L) := fun L => by have := part_abs bs gs L; have := hs.1; unfold Fit; omega
        repeat' (first | refine go ?_ | refine goX ?_ | refine goB ?_ | (refine goG ?_; intro g) | (refine goV ?_; intro v))
        first | refine WL.callK (part_c 6 vb ug uc1 ms bs gs C h1 h2 (by omega)) ?_ | refine WD.callK (part_c 6 vb ug uc1 ms bs gs C h1 h2 (by omega)) ?_ | refine LO.callM (part_c 6 vb ug uc1 ms bs gs C h1 h2 (by omega)) ?_
        rintro vp _ _ ⟨mp, rfl, rfl⟩
        simp only [List.nil_append, List.cons_append]
        repeat' (first | refine go ?_ | refine goX ?_ | refine goB ?_ | (refine goG ?_; intro g) | (refine goV ?_; intro v))
        first | refine WL.callK (solve_c 6 vp mp (part bs gs C) n (hfp C)) ?_ | refine WD.callK (solve_c 6 vp mp (part bs gs C) n (hfp C)) ?_ | refine LO.callM (solve_c 6 vp mp (part bs gs C) n (hfp C)) ?_
        rintro rv bb GG ⟨ux, mx, uy, rfl, rfl, rfl⟩
        simp only [List.nil_append, List.cons_append]
        rw [slv_no (hv.part gs C) h3]
        simp only
        repeat' (first | refine go ?_ | refine goX ?_ | refine goB ?_ | (refine goG ?_; intro g) | (refine goV ?_; intro v))
        refine WC.lp (σ := Nat) (fun i => [(28, .int .i64 (i : Int)), (9, .int .i64 n), (10, vb), (11, ug), (15, uc1)]) (fun _ => []) (fun _ => [ge h0, fB 6 vb ms bs, sI ug gs, sI uc1 C]) (fun i => i ≤ C.length) (fun i => C.length - i) 0 (Nat.zero_le _) ?_ suA (List.nil_sublist _) sfA
        intro i hi
        by_cases ci : i < C.length
        · repeat' (first | refine go ?_ | refine goX ?_ | refine goB ?_ | (refine goG ?_; intro g) | (refine goV ?_; intro v))
          first | refine WL.callK (without_c uc1 C i ci (by omega)) ?_ | refine WD.callK (without_c uc1 C i ci (by omega)) ?_ | refine LO.callM (without_c uc1 C i ci (by omega)) ?_
          rintro uw _ _ ⟨rfl, rfl⟩
          simp only [List.nil_append, List.cons_append]
          repeat' (first | refine go ?_ | refine goX ?_ | refine goB ?_ | (refine goG ?_; intro g) | (refine goV ?_; intro v))
          first | refine WL.callK (part_c 6 vb ug uw ms bs gs (C.take i ++ C.drop (i + 1)) h1 h2 (by omega)) ?_ | refine WD.callK (part_c 6 vb ug uw ms bs gs (C.take i ++ C.drop (i + 1)) h1 h2 (by omega)) ?_ | refine LO.callM (part_c 6 vb ug uw ms bs gs (C.take i ++ C.drop (i + 1)) h1 h2 (by omega)) ?_
          rintro vq _ _ ⟨mq, rfl, rfl⟩
          simp only [List.nil_append, List.cons_append]
          repeat' (first | refine go ?_ | refine goX ?_ | refine goB ?_ | (refine goG ?_; intro g) | (refine goV ?_; intro v))
          first | refine WL.callK (solve_c 6 vq mq (part bs gs (C.take i ++ C.drop (i + 1))) n (hfp _)) ?_ | refine WD.callK (solve_c 6 vq mq (part bs gs (C.take i ++ C.drop (i + 1))) n (hfp _)) ?_ | refine LO.callM (solve_c 6 vq mq (part bs gs (C.take i ++ C.drop (i + 1))) n (hfp _)) ?_
          rintro rv bb GG ⟨uy, my, uz, rfl, rfl, rfl⟩
          simp only [List.nil_append, List.cons_append]
          rw [slv_sol (hv.part gs _) (h4 i ci)]
          simp only
          repeat' (first | refine go ?_ | refine goX ?_ | refine goB ?_ | (refine goG ?_; intro g) | (refine goV ?_; intro v))
          exact LoopEnd.mk (i + 1) (by omega) (by omega) suA (List.nil_sublist _) sfA
        · obtain rfl : i = C.length := by omega
          repeat' (first | refine go ?_ | refine goX ?_ | refine goB ?_ | (refine goG ?_; intro g) | (refine goV ?_; intro v))
          first | refine WL.callV (lives_c) ?_ | refine WD.callV (lives_c) ?_
          repeat' (first | refine go ?_ | refine goX ?_ | refine goB ?_ | (refine goG ?_; intro g) | (refine goV ?_; intro v))
          exact WC.ret (Fin.v (ResE.t1 rfl rfl) meA rfl)
      · repeat' (first | refine go ?_ | refine goX ?_ | refine goB ?_ | (refine goG ?_; intro g) | (refine goV ?_; intro v))
        first | refine WL.callV (lives_c) ?_ | refine WD.callV (lives_c) ?_
        repeat' (first | refine go ?_ | refine goX ?_ | refine goB ?_ | (refine goG ?_; intro g) | (refine goV ?_; intro v))
        exact WC.ret (Fin.v (ResE.t1 rfl rfl) meA rfl)
    · have hwr : cor n bs (gs ++ [1]) = ([], 1) := cor_long (by rw [List.length_append, List.length_singleton]; omega)
      repeat' (first | refine go ?_ | refine goX ?_ | refine goB ?_ | (refine goG ?_; intro g) | (refine goV ?_; intro v))
      rw [show ([] ++ ints gs) ++ [Value.int .i64 1] = ints (gs ++ [1]) from by simp [ints]]
      refine WL.freezeI (l := gs ++ [1]) (v := v) (el := 3) (by repeat (first | exact Sel.head | apply Sel.tail)) ?_
      revert v; intro vw
      generalize gs ++ [1] = ws at *
      first | refine WL.callK (core_c 6 vb ug ms bs gs n hs.fit) ?_ | refine WD.callK (core_c 6 vb ug ms bs gs n hs.fit) ?_ | refine LO.callM (core_c 6 vb ug ms bs gs n hs.fit) ?_
      rintro rv bb GG ⟨uc1, rfl, rfl, rfl⟩
      simp only [List.nil_append, List.cons_append]
      repeat' (first | refine go ?_ | refine goX ?_ | refine goB ?_ | (refine goG ?_; intro g) | (refine goV ?_; intro v))
      first | refine WL.callK (rcore_c 6 vb ug ms bs gs n (hs.mul (by decide))) ?_ | refine WD.callK (rcore_c 6 vb ug ms bs gs n (hs.mul (by decide))) ?_ | refine LO.callM (rcore_c 6 vb ug ms bs gs n (hs.mul (by decide))) ?_
      rintro rv bb GG ⟨uc2, rfl, rfl, rfl⟩
      simp only [List.nil_append, List.cons_append]
      rw [← cor_same]
      repeat' (first | refine go ?_ | refine goX ?_ | refine goB ?_ | (refine goG ?_; intro g) | (refine goV ?_; intro v))
      first | refine WL.callK (core_c 6 vb vw ms bs ws n hs.fit) ?_ | refine WD.callK (core_c 6 vb vw ms bs ws n hs.fit) ?_ | refine LO.callM (core_c 6 vb vw ms bs ws n hs.fit) ?_
      rintro rv bb GG ⟨uc3, rfl, rfl, rfl⟩
      simp only [List.nil_append, List.cons_append]
      rw [hwr]
      repeat' (first | refine go ?_ | refine goX ?_ | refine goB ?_ | (refine goG ?_; intro g) | (refine goV ?_; intro v))
      first | refine WL.callK (core_c 6 vc ug mc cs gs k1 hs1.fit) ?_ | refine WD.callK (core_c 6 vc ug mc cs gs k1 hs1.fit) ?_ | refine LO.callM (core_c 6 vc ug mc cs gs k1 hs1.fit) ?_
      rintro rv bb GG ⟨uc4, rfl, rfl, rfl⟩
      simp only [List.nil_append, List.cons_append]
      repeat' (first | refine go ?_ | refine goX ?_ | refine goB ?_ | (refine goG ?_; intro g) | (refine goV ?_; intro v))
      first | refine WL.callK (rcore_c 6 vc ug mc cs gs k1 (hs1.mul (by decide))) ?_ | refine WD.callK (rcore_c 6 vc ug mc cs gs k1 (hs1.mul (by decide))) ?_ | refine LO.callM (rcore_c 6 vc ug mc cs gs k1 (hs1.mul (by decide))) ?_
      rintro rv bb GG ⟨uc5, rfl, rfl, rfl⟩
      simp only [List.nil_append, List.cons_append]
      rw [← cor_same]
      generalize cor k1 cs gs = R2
      generalize cor n bs gs = R1 at *
      obtain ⟨R2a, R2b⟩ := R2
      obtain ⟨C, e⟩ := R1
      simp only at hspec hclen ⊢
      repeat' (first | refine go ?_ | refine goX ?_ | refine goB ?_ | (refine goG ?_; intro g) | (refine goV ?_; intro v))
      first | refine WL.callV (sameInts_c uc1 uc2 C C) ?_ | refine WD.callV (sameInts_c uc1 uc2 C C) ?_
      rw [decide_eq_true rfl]
      repeat' (first | refine go ?_ | refine goX ?_ | refine goB ?_ | (refine goG ?_; intro g) | (refine goV ?_; intro v))
      first | refine WL.callV (sameInts_c uc4 uc5 R2a R2a) ?_ | refine WD.callV (sameInts_c uc4 uc5 R2a R2a) ?_
      rw [decide_eq_true rfl]
      by_cases he : e = 0
      · subst he
        obtain ⟨h1, h2, h3, h4⟩ := hspec rfl
        have hfp : ∀ L : List Int, Fit (part bs gs L) := fun L => by have := part_abs bs gs L; have := hs.1; unfold Fit; omega
        repeat' (first | refine go ?_ | refine goX ?_ | refine goB ?_ | (refine goG ?_; intro g) | (refine goV ?_; intro v))
        first | refine WL.callK (part_c 6 vb ug uc1 ms bs gs C h1 h2 (by omega)) ?_ | refine WD.callK (part_c 6 vb ug uc1 ms bs gs C h1 h2 (by omega)) ?_ | refine LO.callM (part_c 6 vb ug uc1 ms bs gs C h1 h2 (by omega)) ?_
        rintro vp _ _ ⟨mp, rfl, rfl⟩
        simp only [List.nil_append, List.cons_append]
        repeat' (first | refine go ?_ | refine goX ?_ | refine goB ?_ | (refine goG ?_; intro g) | (refine goV ?_; intro v))
        first | refine WL.callK (solve_c 6 vp mp (part bs gs C) n (hfp C)) ?_ | refine WD.callK (solve_c 6 vp mp (part bs gs C) n (hfp C)) ?_ | refine LO.callM (solve_c 6 vp mp (part bs gs C) n (hfp C)) ?_
        rintro rv bb GG ⟨ux, mx, uy, rfl, rfl, rfl⟩
        simp only [List.nil_append, List.cons_append]
        rw [slv_no (hv.part gs C) h3]
        simp only
        repeat' (first | refine go ?_ | refine goX ?_ | refine goB ?_ | (refine goG ?_; intro g) | (refine goV ?_; intro v))
        refine WC.lp (σ := Nat) (fun i => [(28, .int .i64 (i : Int)), (9, .int .i64 n), (10, vb), (11, ug), (15, uc1)]) (fun _ => []) (fun _ => [ge h0, fB 6 vb ms bs, sI ug gs, sI uc1 C]) (fun i => i ≤ C.length) (fun i => C.length - i) 0 (Nat.zero_le _) ?_ suA (List.nil_sublist _) sfA
        intro i hi
        by_cases ci : i < C.length
        · repeat' (first | refine go ?_ | refine goX ?_ | refine goB ?_ | (refine goG ?_; intro g) | (refine goV ?_; intro v))
          first | refine WL.callK (without_c uc1 C i ci (by omega)) ?_ | refine WD.callK (without_c uc1 C i ci (by omega)) ?_ | refine LO.callM (without_c uc1 C i ci (by omega)) ?_
          rintro uw _ _ ⟨rfl, rfl⟩
          simp only [List.nil_append, List.cons_append]
          repeat' (first | refine go ?_ | refine goX ?_ | refine goB ?_ | (refine goG ?_; intro g) | (refine goV ?_; intro v))
          first | refine WL.callK (part_c 6 vb ug uw ms bs gs (C.take i ++ C.drop (i + 1)) h1 h2 (by omega)) ?_ | refine WD.callK (part_c 6 vb ug uw ms bs gs (C.take i ++ C.drop (i + 1)) h1 h2 (by omega)) ?_ | refine LO.callM (part_c 6 vb ug uw ms bs gs (C.take i ++ C.drop (i + 1)) h1 h2 (by omega)) ?_
          rintro vq _ _ ⟨mq, rfl, rfl⟩
          simp only [List.nil_append, List.cons_append]
          repeat' (first | refine go ?_ | refine goX ?_ | refine goB ?_ | (refine goG ?_; intro g) | (refine goV ?_; intro v))
          first | refine WL.callK (solve_c 6 vq mq (part bs gs (C.take i ++ C.drop (i + 1))) n (hfp _)) ?_ | refine WD.callK (solve_c 6 vq mq (part bs gs (C.take i ++ C.drop (i + 1))) n (hfp _)) ?_ | refine LO.callM (solve_c 6 vq mq (part bs gs (C.take i ++ C.drop (i + 1))) n (hfp _)) ?_
          rintro rv bb GG ⟨uy, my, uz, rfl, rfl, rfl⟩
          simp only [List.nil_append, List.cons_append]
          rw [slv_sol (hv.part gs _) (h4 i ci)]
          simp only
          repeat' (first | refine go ?_ | refine goX ?_ | refine goB ?_ | (refine goG ?_; intro g) | (refine goV ?_; intro v))
          exact LoopEnd.mk (i + 1) (by omega) (by omega) suA (List.nil_sublist _) sfA
        · obtain rfl : i = C.length := by omega
          repeat' (first | refine go ?_ | refine goX ?_ | refine goB ?_ | (refine goG ?_; intro g) | (refine goV ?_; intro v))
          first | refine WL.callV (lives_c) ?_ | refine WD.callV (lives_c) ?_
          repeat' (first | refine go ?_ | refine goX ?_ | refine goB ?_ | (refine goG ?_; intro g) | (refine goV ?_; intro v))
          exact WC.ret (Fin.v (ResE.t1 rfl rfl) meA rfl)
      · repeat' (first | refine go ?_ | refine goX ?_ | refine goB ?_ | (refine goG ?_; intro g) | (refine goV ?_; intro v))
        first | refine WL.callV (lives_c) ?_ | refine WD.callV (lives_c) ?_
        repeat' (first | refine go ?_ | refine goX ?_ | refine goB ?_ | (refine goG ?_; intro g) | (refine goV ?_; intro v))
        exact WC.ret (Fin.v (ResE.t1 rfl rfl) meA rfl)
  · have hwr : cor n bs (gs ++ [1]) = ([], 1) := cor_long (by rw [List.length_append, List.length_singleton]; omega)
    repeat' (first | refine go ?_ | refine goX ?_ | refine goB ?_ | (refine goG ?_; intro g) | (refine goV ?_; intro v))
    rw [show ([] ++ ints gs) ++ [Value.int .i64 1] = ints (gs ++ [1]) from by simp [ints]]
    refine WL.freezeI (l := gs ++ [1]) (v := v) (el := 3) (by repeat (first | exact Sel.head | apply Sel.tail)) ?_
    revert v; intro vw
    generalize gs ++ [1] = ws at *
    first | refine WL.callK (core_c 6 vb ug ms bs gs n hs.fit) ?_ | refine WD.callK (core_c 6 vb ug ms bs gs n hs.fit) ?_ | refine LO.callM (core_c 6 vb ug ms bs gs n hs.fit) ?_
    rintro rv bb GG ⟨uc1, rfl, rfl, rfl⟩
    simp only [List.nil_append, List.cons_append]
    repeat' (first | refine go ?_ | refine goX ?_ | refine goB ?_ | (refine goG ?_; intro g) | (refine goV ?_; intro v))
    first | refine WL.callK (rcore_c 6 vb ug ms bs gs n (hs.mul (by decide))) ?_ | refine WD.callK (rcore_c 6 vb ug ms bs gs n (hs.mul (by decide))) ?_ | refine LO.callM (rcore_c 6 vb ug ms bs gs n (hs.mul (by decide))) ?_
    rintro rv bb GG ⟨uc2, rfl, rfl, rfl⟩
    simp only [List.nil_append, List.cons_append]
    rw [← cor_same]
    repeat' (first | refine go ?_ | refine goX ?_ | refine goB ?_ | (refine goG ?_; intro g) | (refine goV ?_; intro v))
    first | refine WL.callK (core_c 6 vb vw ms bs ws n hs.fit) ?_ | refine WD.callK (core_c 6 vb vw ms bs ws n hs.fit) ?_ | refine LO.callM (core_c 6 vb vw ms bs ws n hs.fit) ?_
    rintro rv bb GG ⟨uc3, rfl, rfl, rfl⟩
    simp only [List.nil_append, List.cons_append]
    rw [hwr]
    repeat' (first | refine go ?_ | refine goX ?_ | refine goB ?_ | (refine goG ?_; intro g) | (refine goV ?_; intro v))
    first | refine WL.callK (core_c 6 vc ug mc cs gs k1 hs1.fit) ?_ | refine WD.callK (core_c 6 vc ug mc cs gs k1 hs1.fit) ?_ | refine LO.callM (core_c 6 vc ug mc cs gs k1 hs1.fit) ?_
    rintro rv bb GG ⟨uc4, rfl, rfl, rfl⟩
    simp only [List.nil_append, List.cons_append]
    repeat' (first | refine go ?_ | refine goX ?_ | refine goB ?_ | (refine goG ?_; intro g) | (refine goV ?_; intro v))
    first | refine WL.callK (rcore_c 6 vc ug mc cs gs k1 (hs1.mul (by decide))) ?_ | refine WD.callK (rcore_c 6 vc ug mc cs gs k1 (hs1.mul (by decide))) ?_ | refine LO.callM (rcore_c 6 vc ug mc cs gs k1 (hs1.mul (by decide))) ?_
    rintro rv bb GG ⟨uc5, rfl, rfl, rfl⟩
    simp only [List.nil_append, List.cons_append]
    rw [← cor_same]
    generalize cor k1 cs gs = R2
    generalize cor n bs gs = R1 at *
    obtain ⟨R2a, R2b⟩ := R2
    obtain ⟨C, e⟩ := R1
    simp only at hspec hclen ⊢
    repeat' (first | refine go ?_ | refine goX ?_ | refine goB ?_ | (refine goG ?_; intro g) | (refine goV ?_; intro v))
    first | refine WL.callV (sameInts_c uc1 uc2 C C) ?_ | refine WD.callV (sameInts_c uc1 uc2 C C) ?_
    rw [decide_eq_true rfl]
    repeat' (first | refine go ?_ | refine goX ?_ | refine goB ?_ | (refine goG ?_; intro g) | (refine goV ?_; intro v))
    first | refine WL.callV (sameInts_c uc4 uc5 R2a R2a) ?_ | refine WD.callV (sameInts_c uc4 uc5 R2a R2a) ?_
    rw [decide_eq_true rfl]
    by_cases he : e = 0
    · subst he
      obtain ⟨h1, h2, h3, h4⟩ := hspec rfl
      have hfp : ∀ L : List Int, Fit (part bs gs L) := fun L => by have := part_abs bs gs L; have := hs.1; unfold Fit; omega
      repeat' (first | refine go ?_ | refine goX ?_ | refine goB ?_ | (refine goG ?_; intro g) | (refine goV ?_; intro v))
      first | refine WL.callK (part_c 6 vb ug uc1 ms bs gs C h1 h2 (by omega)) ?_ | refine WD.callK (part_c 6 vb ug uc1 ms bs gs C h1 h2 (by omega)) ?_ | refine LO.callM (part_c 6 vb ug uc1 ms bs gs C h1 h2 (by omega)) ?_
      rintro vp _ _ ⟨mp, rfl, rfl⟩
      simp only [List.nil_append, List.cons_append]
      repeat' (first | refine go ?_ | refine goX ?_ | refine goB ?_ | (refine goG ?_; intro g) | (refine goV ?_; intro v))
      first | refine WL.callK (solve_c 6 vp mp (part bs gs C) n (hfp C)) ?_ | refine WD.callK (solve_c 6 vp mp (part bs gs C) n (hfp C)) ?_ | refine LO.callM (solve_c 6 vp mp (part bs gs C) n (hfp C)) ?_
      rintro rv bb GG ⟨ux, mx, uy, rfl, rfl, rfl⟩
      simp only [List.nil_append, List.cons_append]
      rw [slv_no (hv.part gs C) h3]
      simp only
      repeat' (first | refine go ?_ | refine goX ?_ | refine goB ?_ | (refine goG ?_; intro g) | (refine goV ?_; intro v))
      refine WC.lp (σ := Nat) (fun i => [(28, .int .i64 (i : Int)), (9, .int .i64 n), (10, vb), (11, ug), (15, uc1)]) (fun _ => []) (fun _ => [ge h0, fB 6 vb ms bs, sI ug gs, sI uc1 C]) (fun i => i ≤ C.length) (fun i => C.length - i) 0 (Nat.zero_le _) ?_ suA (List.nil_sublist _) sfA
      intro i hi
      by_cases ci : i < C.length
      · exact absurd ci (by omega)
      · obtain rfl : i = C.length := by omega
        repeat' (first | refine go ?_ | refine goX ?_ | refine goB ?_ | (refine goG ?_; intro g) | (refine goV ?_; intro v))
        first | refine WL.callV (lives_c) ?_ | refine WD.callV (lives_c) ?_
        repeat' (first | refine go ?_ | refine goX ?_ | refine goB ?_ | (refine goG ?_; intro g) | (refine goV ?_; intro v))
        exact WC.ret (Fin.v (ResE.t1 rfl rfl) meA rfl)
    · repeat' (first | refine go ?_ | refine goX ?_ | refine goB ?_ | (refine goG ?_; intro g) | (refine goV ?_; intro v))
      first | refine WL.callV (lives_c) ?_ | refine WD.callV (lives_c) ?_
      repeat' (first | refine go ?_ | refine goX ?_ | refine goB ?_ | (refine goG ?_; intro g) | (refine goV ?_; intro v))
      exact WC.ret (Fin.v (ResE.t1 rfl rfl) meA rfl)
end J
end Go.Proofs.YthggloiigkbfeaaGreat
namespace Go.Proofs.YthggloiigkbfeaaGreat
open Go.ChangeShapes Go.WideShapes Go.ChangeAt Go.RowKit
open W
theorem Tryz.int3 : Tryz.prog.underlying 3 = some (.int .i64) := by kernel_rfl
theorem Tryz.sl22 : Tryz.prog.underlying 22 = some (.slice 3) := by kernel_rfl
theorem Tryz.bool4 : Tryz.prog.underlying 4 = some .bool := by kernel_rfl
theorem Tryz.one3 : Tryz.prog.cellsOf 3 = 1 := by kernel_rfl
set_option maxRecDepth 100000 in
theorem boundsCores_lifted (os : Os) (started : os.Started) (H : Type) (enc : TypeId × Value → H) :
    ReturnsInHanded {} Tryz.checked os 7 .any (Rows.boundsCoresSpec.pre6 enc Tryz.prog Tryz.f7 Rows.boundsCoresRow.domain false) (Rows.boundsCoresSpec.post enc Tryz.prog Tryz.f7 false true false false) := by
  refine returnsInHanded_of_change (C := Tryz.checked) Tryz.own started (by kernel_rfl) Tryz.func7
    (ChangeSpec.witness6 (enc := enc) (C := Tryz.checked) false ⟨#[], #[.slice none 0 0, .slice none 0 0, .int .i64 0, .int .i64 0], []⟩ 8 (by kernel_rfl) (by kernel_rfl) (by kernel_rfl) (by kernel_rfl)) ?_
  intro V1 base args ds gs before hval0 hW hcnd _
  have hval : ∀ (j : Nat) t v, Tryz.f7.params[j]? = some t → args[j]? = some v → Value.okWide Tryz.prog V1 .any base t v := hval0
  have hW' := hW
  obtain ⟨p, q, hA0, hV, rfl, hfz, hnd⟩ := hW
  have hA : DataW.TrodAll enc Tryz.prog V1 0 (fun _ => true) true Tryz.f7.params.toList args.toList ds p := hA0
  rw [Tryz.params7] at hA hval
  obtain ⟨args⟩ := args
  obtain ⟨v0, a1, d0, e1, p0, q1, rfl, rfl, rfl, h0, hA⟩ := trodAll_cons hA
  obtain ⟨v1, a2, d1, e2, p1, q2, rfl, rfl, rfl, h1, hA⟩ := trodAll_cons hA
  obtain ⟨v2, a3, d2, e3, p2, q3, rfl, rfl, rfl, h2, hA⟩ := trodAll_cons hA
  obtain ⟨v3, a4, d3, e4, p3, q4, rfl, rfl, rfl, h3, hA⟩ := trodAll_cons hA
  obtain ⟨rfl, rfl, rfl⟩ := trodAll_nil hA
  obtain ⟨rfl, rfl⟩ := trodVars_none hV
  obtain ⟨l0, hl0, f0, g0⟩ := arg_ints Tryz.sl22 Tryz.int3 Tryz.one3 (hval 0 22 v0 rfl rfl) h0
  obtain ⟨l1, hl1, f1, g1⟩ := arg_ints Tryz.sl22 Tryz.int3 Tryz.one3 (hval 1 22 v1 rfl rfl) h1
  obtain ⟨n2, rfl, hl2, g2⟩ := arg_int Tryz.int3 (hval 2 3 v2 rfl rfl) h2
  obtain ⟨n3, rfl, hl3, g3⟩ := arg_int Tryz.int3 (hval 3 3 v3 rfl rfl) h3
  simp only [List.append_nil] at hW'
  refine (law_calls (J.cores_c v0 v1 l0 l1 n2 n3 hl0 hl1 hl2 hl3) (fun g hg => ?_)).mono fun e V2 hh2 => ?_
  · simp only [List.mem_cons, List.not_mem_nil, or_false] at hg
    rcases hg with rfl | rfl
    · exact f0
    · exact f1
  · obtain ⟨he, hr, hE⟩ := hh2
    refine ⟨_, he, post_law hW' (fun _ _ _ => trodAll_mk1 (shut_bool Tryz.bool4 _)) (fun sp hsp => ?_) (fun _ => rfl) hr hE (ok_one (by kernel_rfl) rfl (okWide_bool_mk Tryz.bool4 _))⟩
    have := (AgainAll.cons g0 (AgainAll.cons g1 (AgainAll.cons g2 (AgainAll.cons g3 AgainAll.nil)))) V2 sp hE (by simpa using hsp)
    simp only [List.append_nil] at this
    show DataW.TrodAll enc Tryz.prog V2 0 sp true Tryz.f7.params.toList _ _ _
    rw [Tryz.params7]
    exact this
theorem boundsCores_holds : Rows.BoundsCoresSaid :=
  OpenClaim.holds_of_wide 7 Tryz.f7 rfl rfl rfl rfl rfl rfl rfl ⟨rfl, rfl, rfl, rfl, rfl⟩ rfl rfl rfl rfl rfl (by kernel_rfl) Tryz.func7 (by kernel_rfl)
    (of_decide_eq_true (by kernel_rfl)) (by unfold Func.isWrapper; first | (rw [if_pos (by decide +kernel)]; kernel_rfl) | (rw [if_neg (by decide +kernel)]; exact ⟨rfl, rfl⟩))
    (fun os started H enc _ => boundsCores_lifted os started H enc)
#print axioms boundsCores_holds
end Go.Proofs.YthggloiigkbfeaaGreat
