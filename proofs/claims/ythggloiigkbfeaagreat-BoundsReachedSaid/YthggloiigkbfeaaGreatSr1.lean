/- The law BoundsReached returns true for every input and leaves its arguments as they were. Conditions: none. -/
import Derived.Test.YthggloiigkbfeaaGreatBase6
import Derived.Test.YthggloiigkbfeaaGreatProg
import Derived.Test.YthggloiigkbfeaaGreatBase1
set_option linter.unusedVariables false
set_option linter.unusedSimpArgs false
set_option linter.unusedSectionVars false
namespace Go.Proofs.YthggloiigkbfeaaGreat
open W Go.RowKit
theorem Vld.valid {n : Nat} {bs : List Bd} (h : Vld n bs) : validB n bs = true := validB_t (by have := h.n1; omega) (by have := h.n2; omega) h.l h.ok
theorem sysL_get {l : List Int} {most : Int} {i : Nat} (h : i < (sysL l most).length) : bg (sysL l most) i = sysB l (sysN l most) i := by
  unfold sysL at h ⊢
  rw [sysT_len] at h
  exact sysT_get _ _ h
/-- the laws' systems are valid -/
theorem sys_vld (l : List Int) {most : Int} (h0 : 0 < most) (h1 : most ≤ 8) : ∃ n : Nat, sysN l most = n ∧ n ≤ 8 ∧ Vld n (sysL l most) := by
  have h := sysN_le l h0
  refine ⟨(sysN l most).toNat, by omega, by omega, ⟨by omega, by omega, Nat.le_trans (sysL_len l most) (by decide), fun i hi => ?_⟩⟩
  rw [sysL_get hi, show (((sysN l most).toNat : Nat) : Int) = sysN l most by omega]
  exact ⟨atP_lt h.1, atP_lt h.1⟩
theorem slv_sol {n : Nat} {bs : List Bd} (hv : Vld n bs) (h : HasSol bs) : slv n bs = (jacs bs n n, [], 0) := by
  rw [slv_same]; unfold rslv
  rw [if_pos hv.valid, Int.toNat_natCast, if_pos ((sol_iff_has hv).2 h)]
theorem slv_no {n : Nat} {bs : List Bd} (hv : Vld n bs) (h : ¬ HasSol bs) : slv n bs = ([], cycP n bs, 14) := by
  rw [slv_same]; unfold rslv
  rw [if_pos hv.valid, Int.toNat_natCast, if_neg (fun c => h ((sol_iff_has hv).1 c)), ← cyc_same hv h]
theorem chk_x {n : Nat} {bs : List Bd} (hv : Vld n bs) (x : List Int) : chk n bs x [] = if x.length = n ∧ Sol bs x then 0 else 22 := by
  rw [chk_same]; unfold rchk
  rw [if_pos hv.valid, if_pos (show ([] : List Int).length = 0 from rfl), Int.toNat_natCast]
theorem chk_l {n : Nat} {bs : List Bd} (hv : Vld n bs) {l : List Int} (hl : 0 < l.length) : chk n bs [] l = if Idx bs l ∧ Clo bs l ∧ lenP bs l < 0 then 0 else 22 := by
  rw [chk_same]; unfold rchk
  rw [if_pos hv.valid, if_neg (by omega)]
  by_cases h : Idx bs l ∧ Clo bs l ∧ lenP bs l < 0
  · rw [if_pos h, if_pos ⟨h.1, h.2.1, rfl, h.2.2⟩]
  · rw [if_neg h, if_neg (fun c => h ⟨c.1, c.2.1, c.2.2.2⟩)]
theorem absS_set_le (bs : List Bd) (k : Nat) (b : Bd) : absS (bs.set k b) ≤ absS bs + b.w.natAbs := by
  induction bs generalizing k with
  | nil => simp [absS]
  | cons a bs ih =>
    cases k with
    | zero => simp only [List.set_cons_zero, absS, List.map_cons, List.sum_cons]; omega
    | succ k =>
      have := ih k
      simp only [List.set_cons_succ, absS, List.map_cons, List.sum_cons] at this ⊢; omega
theorem Vld.setw {n : Nat} {bs : List Bd} (hv : Vld n bs) (k : Nat) (z : Int) : Vld n (bs.set k { bg bs k with w := z }) := by
  refine ⟨hv.n1, hv.n2, by rw [List.length_set]; exact hv.l, fun i hi => ?_⟩
  rw [List.length_set] at hi
  by_cases c : k = i
  · subst c
    have := hv.ok k hi
    have e : bg (bs.set k { bg bs k with w := z }) k = { bg bs k with w := z } := by simp [bg, List.getD_eq_getElem?_getD, hi]
    rw [e]; exact this
  · have e : bg (bs.set k { bg bs k with w := z }) i = bg bs i := by
      simp only [bg, List.getD_eq_getElem?_getD]; rw [List.getElem?_set_ne c]
    rw [e]; exact hv.ok i hi
theorem bg_app {bs : List Bd} {e : Bd} {i : Nat} (h : i < bs.length) : bg (bs ++ [e]) i = bg bs i := by
  simp only [bg, List.getD_eq_getElem?_getD]; rw [List.getElem?_append_left h]
theorem bg_last {bs : List Bd} {e : Bd} : bg (bs ++ [e]) bs.length = e := by simp [bg, List.getD_eq_getElem?_getD]
theorem Vld.snoc {n : Nat} {bs : List Bd} (hv : Vld n bs) (hl : bs.length < 2048) {a c : Nat} (ha : a < n) (hc : c < n) (w : Int) : Vld n (bs ++ [⟨a, c, w⟩]) := by
  refine ⟨hv.n1, hv.n2, by simp; omega, fun i hi => ?_⟩
  by_cases h : i < bs.length
  · rw [bg_app h]; exact hv.ok i h
  · obtain rfl : i = bs.length := by simp at hi; omega
    rw [bg_last]; refine ⟨⟨?_, ?_⟩, ?_, ?_⟩ <;> simp only <;> omega
/-! ## Lattice -/
theorem SolF.sub {a b : List Bd} {f : Nat → Int} (h : SolF (a ++ b) f) : SolF a f := fun x hx => h x (List.mem_append_left _ hx)
theorem lat_le {n : Nat} {bs : List Bd} {b : Bd} (hv : Vld n bs) (hv2 : Vld n (bs ++ [b])) (h : HasSol (bs ++ [b])) (i : Nat) (hi : i < n) : vl (jacs (bs ++ [b]) n n) i ≤ vl (jacs bs n n) i :=
  jacs_great hv (SolF.sub (sol_iff.1 ((sol_iff_has hv2).2 h))) (fun v _ => jacs_le0 hv2 n v) n i hi
theorem SolF.shift {bs : List Bd} {f : Nat → Int} (h : SolF bs f) (s : Int) : SolF bs (fun i => f i + s) := fun b hb => by have := h b hb; show f b.to.toNat + s ≤ f b.fr.toNat + s + b.w; omega
theorem SolF.max {bs : List Bd} {f k : Nat → Int} (h : SolF bs f) (h2 : SolF bs k) : SolF bs (fun i => if k i < f i then f i else k i) := fun b hb => by
  have h3 := h b hb
  have h4 := h2 b hb
  show (if k b.to.toNat < f b.to.toNat then f b.to.toNat else k b.to.toNat) ≤ (if k b.fr.toNat < f b.fr.toNat then f b.fr.toNat else k b.fr.toNat) + b.w
  split <;> split <;> omega
theorem SolF.min {bs : List Bd} {f k : Nat → Int} (h : SolF bs f) (h2 : SolF bs k) : SolF bs (fun i => if k i < f i then k i else f i) := fun b hb => by
  have h3 := h b hb
  have h4 := h2 b hb
  show (if k b.to.toNat < f b.to.toNat then k b.to.toNat else f b.to.toNat) ≤ (if k b.fr.toNat < f b.fr.toNat then k b.fr.toNat else f b.fr.toNat) + b.w
  split <;> split <;> omega
/-- a solution az a list -/
theorem sol_list {n : Nat} {bs : List Bd} (hv : Vld n bs) {f : Nat → Int} (h : SolF bs f) : Sol bs ((List.range n).map f) := by
  refine sol_iff.2 fun b hb => ?_
  have h1 := hv.tos b hb
  have h2 := hv.frs b hb
  have h3 := h b hb
  simp only [vl, List.getD_eq_getElem?_getD, List.getElem?_map, List.getElem?_range h1, List.getElem?_range h2, Option.map_some, Option.getD_some]
  exact h3
/-! ## A bound made stricter, a cycle made weaker -/
theorem not_sol_set {bs : List Bd} {x : List Int} {k : Nat} (hk : k < bs.length) {w : Int} (hw : w < vl x (bg bs k).to.toNat - vl x (bg bs k).fr.toNat) : ¬ Sol (bs.set k { bg bs k with w := w }) x := by
  intro h
  have := h k (by rw [List.length_set]; exact hk)
  simp only [bg, List.getD_eq_getElem?_getD, List.getElem?_set_self hk, Option.getD_some] at this hw
  omega
theorem wlk_cyc {bs : List Bd} {l : List Int} {u v : Int} (h : Wlk bs u l v) : ∀ i, i < l.length → (0 ≤ l.getD i 0 ∧ l.getD i 0 < bs.length) ∧ (bg bs (l.getD i 0).toNat).to = (if i + 1 = l.length then v else (bg bs (l.getD (i + 1) 0).toNat).fr) := by
  induction l generalizing u with
  | nil => intro i hi; simp at hi
  | cons a l ih =>
    obtain ⟨h1, h2, h3⟩ := h
    intro i hi
    cases i with
    | zero =>
      refine ⟨h1, ?_⟩
      cases l with
      | nil => exact h3
      | cons c l => rw [if_neg (by simp)]; exact h3.2.1.symm
    | succ i =>
      have := ih h3 i (by simpa using hi)
      simpa using this
theorem next_eq' {n i : Nat} (h : i < n) : (((i : Int) + 1) % (n : Int)).toNat = if i + 1 = n then 0 else i + 1 := by
  by_cases c : i + 1 = n
  · rw [if_pos c, show (i : Int) + 1 = n by omega, Int.emod_self]; rfl
  · rw [if_neg c, Int.emod_eq_of_lt (by omega) (by omega)]; omega
theorem neg_idx {bs : List Bd} {m : Nat} {l : List Int} (h : Neg bs m l) : Idx bs l ∧ Clo bs l ∧ lenP bs l < 0 := by
  obtain ⟨_, h2, u, h3⟩ := h
  have h4 := wlk_cyc h3
  refine ⟨fun i hi => (h4 i hi).1, fun i hi => ?_, h2⟩
  rw [(h4 i hi).2]
  unfold nxi
  rw [next_eq' hi]
  by_cases c : i + 1 = l.length
  · rw [if_pos c, if_pos c]
    cases l with
    | nil => simp at hi
    | cons a l => exact h3.2.1.symm
  · rw [if_neg c, if_neg c]
theorem lenP_set {bs : List Bd} {k : Nat} (hk : k < bs.length) (d : Int) : ∀ l : List Int, (∀ x ∈ l, 0 ≤ x) → l.Nodup → lenP (bs.set k { bg bs k with w := (bg bs k).w + d }) l = lenP bs l + (if (k : Int) ∈ l then d else 0) := by
  intro l
  induction l with
  | nil => intro _ _; simp [lenP]
  | cons a l ih =>
    intro h1 h2
    have h3 := ih (fun x hx => h1 x (List.mem_cons_of_mem _ hx)) (List.nodup_cons.1 h2).2
    have h4 := (List.nodup_cons.1 h2).1
    have ha := h1 a (List.mem_cons_self)
    rw [lenP_cons, lenP_cons, h3]
    by_cases c : a.toNat = k
    · have hak : (k : Int) = a := by omega
      have e : (bg (bs.set k { bg bs k with w := (bg bs k).w + d }) a.toNat).w = (bg bs k).w + d := by
        rw [c]; simp [bg, List.getD_eq_getElem?_getD, hk]
      rw [e, c, hak, if_neg h4, if_pos (List.mem_cons_self)]; omega
    · have e : bg (bs.set k { bg bs k with w := (bg bs k).w + d }) a.toNat = bg bs a.toNat := by
        simp only [bg, List.getD_eq_getElem?_getD]; rw [List.getElem?_set_ne (fun h => c h.symm)]
      have hm : ((k : Int) ∈ a :: l) ↔ (k : Int) ∈ l := by
        rw [List.mem_cons]; exact ⟨fun h => h.elim (fun h => absurd (by omega) c) id, Or.inr⟩
      rw [e]; simp only [hm]; omega
theorem cyc_nodup {n : Nat} {bs : List Bd} (hv : Vld n bs) (h : ¬ HasSol bs) : ∃ m, 0 < m ∧ m ≤ n ∧ Neg bs m (cycP n bs) ∧ (cycP n bs).Nodup := by
  obtain ⟨m, hm⟩ := neg_min ((neg_iff hv).2 h)
  have h1 := (cycP_spec hv hm).1
  refine ⟨m, hm.pos, hm.le hv, h1, ?_⟩
  have := hm.nodup h1
  unfold frs at this
  exact List.Pairwise.of_map _ (fun a b hab e => hab (by rw [e])) this
/-- the changed cycle is refused -/
theorem cyc_weak {n : Nat} {bs : List Bd} (hv : Vld n bs) (h : ¬ HasSol bs) {j : Nat} (hj : j < (cycP n bs).length) (hv2 : Vld n (bs.set ((cycP n bs).getD j 0).toNat { bg bs ((cycP n bs).getD j 0).toNat with w := (bg bs ((cycP n bs).getD j 0).toNat).w - lenP bs (cycP n bs) })) :
    chk n (bs.set ((cycP n bs).getD j 0).toNat { bg bs ((cycP n bs).getD j 0).toNat with w := (bg bs ((cycP n bs).getD j 0).toNat).w - lenP bs (cycP n bs) }) [] (cycP n bs) = 22 := by
  obtain ⟨m, hm0, hmn, hn, hd⟩ := cyc_nodup hv h
  have hi := (neg_idx hn).1
  have hpos : ∀ x ∈ cycP n bs, 0 ≤ x := fun x hx => by
    obtain ⟨i, h1, rfl⟩ := List.getElem_of_mem hx
    have := (hi i h1).1
    simpa [List.getD_eq_getElem?_getD, h1] using this
  have hk := hi j hj
  have hmem : (((cycP n bs).getD j 0).toNat : Int) ∈ cycP n bs := by
    rw [Int.toNat_of_nonneg hk.1, List.getD_eq_getElem?_getD, List.getElem?_eq_getElem hj]
    exact List.getElem_mem _
  rw [chk_l hv2 (by omega), if_neg]
  rintro ⟨_, _, h3⟩
  have := lenP_set (bs := bs) (k := ((cycP n bs).getD j 0).toNat) (by omega) (- lenP bs (cycP n bs)) (cycP n bs) hpos hd
  rw [if_pos hmem] at this
  rw [Int.sub_eq_add_neg, this] at h3
  omega
end Go.Proofs.YthggloiigkbfeaaGreat
namespace Go.Proofs.YthggloiigkbfeaaGreat
open W Go.RowKit
section
variable {n : Nat} {bs : List Bd} (hv : Vld n bs) {a b : Nat} (ha : a < n) (hb : b < n)
include hv ha hb
/-- a way can be made short -/
theorem short_all (hs : HasSol bs) : ∀ (L : Nat) (q : List Int), q.length ≤ L → Wlk bs a q b → ∃ r, r.length < n ∧ Wlk bs a r b ∧ lenP bs r ≤ lenP bs q := by
  intro L
  induction L with
  | zero =>
    intro q hq hw
    exact ⟨q, by have := hv.n1; omega, hw, Int.le_refl _⟩
  | succ L ih =>
    intro q hq hw
    by_cases c : q.length < n
    · exact ⟨q, c, hw, Int.le_refl _⟩
    have cut : ∀ p c s w, q = p ++ c ++ s → c ≠ [] → Wlk bs a p w → Wlk bs w c w → Wlk bs w s b → ∃ r, r.length < n ∧ Wlk bs a r b ∧ lenP bs r ≤ lenP bs q := by
      intro p c s w he hc w1 w2 w3
      have hlc : 0 < c.length := List.length_pos_iff.2 hc
      have hnn : ¬ lenP bs c < 0 := fun h => (show Neg bs c.length c from ⟨rfl, h, w, w2⟩).no hs
      have hl : (p ++ s).length ≤ L := by rw [he] at hq; simp only [List.length_append] at hq ⊢; omega
      obtain ⟨r, r1, r2, r3⟩ := ih (p ++ s) hl (Wlk.app.2 ⟨w, w1, w3⟩)
      refine ⟨r, r1, r2, ?_⟩
      rw [he, lenP_app, lenP_app]
      rw [lenP_app] at r3; omega
    have hn : ¬ (frs bs q ++ [(b : Int)]).Nodup := by
      intro h
      have := nodup_le (n := n) h (fun x hx => by
        rcases List.mem_append.1 hx with hx | hx
        · exact frs_in hv hw x hx
        · rw [List.mem_singleton] at hx; subst hx; omega)
      simp [frs] at this; omega
    by_cases hd : (frs bs q).Nodup
    · have hm : (b : Int) ∈ frs bs q := Classical.byContradiction fun h => hn (List.nodup_append.2 ⟨hd, by simp, fun x hx y hy he => by
        rw [List.mem_singleton] at hy; subst hy; subst he; exact h hx⟩)
      obtain ⟨i, hi, he⟩ := List.mem_map.1 hm
      obtain ⟨p, s, rfl⟩ := List.append_of_mem hi
      obtain ⟨w, w1, w2⟩ := Wlk.app.1 hw
      have hwb : w = b := by rw [← w2.2.1]; exact he
      subst hwb
      exact cut p (i :: s) [] b (by simp) (by simp) w1 w2 rfl
    · obtain ⟨p, c, s, w, h1, h2, h3, h4, h5, h6⟩ := frs_split hd hw
      exact cut p c s w h1 h2 h4 h5 h6
/-- what Most answers on a valid system -/
theorem mst_cases : (¬ HasSol bs ∧ (mst n bs a b).1 = 0 ∧ (mst n bs a b).2.2 = 14) ∨ (HasSol bs ∧ mst n bs a b = (0, [], 6) ∧ ∀ q, ¬ Wlk bs a q b) ∨
    ∃ d p, HasSol bs ∧ mst n bs a b = (d, p, 0) ∧ Wlk bs a p b ∧ p.length < n ∧ lenP bs p = d ∧ ∀ q, Wlk bs a q b → d ≤ lenP bs q := by
  by_cases hs : HasSol bs
  · have hm : mst n bs a b = (match mostK n bs a b with
      | none => (0, [], 6)
      | some k => (mostD n bs a b k, fstP bs (tabL n bs b n) (fun x => decide (x = mostD n bs a b k)) k a 0 [], 0)) := by
      unfold mst
      rw [if_pos ⟨hv.valid, by omega, by omega⟩]
      simp only [Int.toNat_natCast]
      rw [great_some hv hs]
      rfl
    rcases most_same hv ha hb hs with ⟨h1, h2⟩ | ⟨k, h1, h2, h3, h4, h5⟩
    · refine .inr (.inl ⟨hs, by rw [hm, h1], fun q hq => ?_⟩)
      obtain ⟨r, r1, r2, _⟩ := short_all hv ha hb hs q.length q (Nat.le_refl _) hq
      rcases mostK_spec n bs a b with ⟨_, g2⟩ | ⟨k, d, g1, _⟩
      · obtain ⟨e, e1, _⟩ := tab_le hv hb r.length a r rfl r2
        rw [g2 _ r1] at e1; cases e1
      · rw [h1] at g1; cases g1
    · obtain ⟨w1, w2⟩ := h4.short hv ha hb
      refine .inr (.inr ⟨_, _, hs, by rw [hm, h1], w1, w2, h3, fun q hq => ?_⟩)
      obtain ⟨r, r1, r2, r3⟩ := short_all hv ha hb hs q.length q (Nat.le_refl _) hq
      have := h5 r r1 r2
      omega
  · refine .inl ⟨hs, ?_⟩
    unfold mst
    rw [if_pos ⟨hv.valid, by omega, by omega⟩]
    simp only [Int.toNat_natCast]
    rw [great_none hv hs]
    exact ⟨rfl, rfl⟩
theorem mst_sml (hs : absS bs ≤ 13500) : (mst n bs a b).1.natAbs ≤ 432000 := by
  rcases mst_cases hv ha hb with ⟨_, h, _⟩ | ⟨_, h, _⟩ | ⟨d, p, _, h, _, h2, h3, _⟩
  · rw [h]; decide
  · rw [h]; decide
  · rw [h]
    have h4 := @lenP_le bs p
    have h6 := hv.n2
    have h7 : p.length * absS bs ≤ 32 * 13500 := Nat.mul_le_mul (by omega) hs
    rw [h3] at h4
    show d.natAbs ≤ 432000
    omega
end
/-! ## A further bound -/
theorem wlk_app {bs : List Bd} {e : Bd} {l : List Int} : ∀ {u v : Int}, Wlk (bs ++ [e]) u l v → (∀ i ∈ l, i.toNat ≠ bs.length) → Wlk bs u l v ∧ lenP (bs ++ [e]) l = lenP bs l := by
  induction l with
  | nil => intro u v h _; exact ⟨h, rfl⟩
  | cons i l ih =>
    intro u v h hi
    obtain ⟨h1, h2, h3⟩ := h
    have hc := hi i (List.mem_cons_self)
    have hl : (bs ++ [e]).length = bs.length + 1 := by simp
    have hg : bg (bs ++ [e]) i.toNat = bg bs i.toNat := bg_app (by omega)
    obtain ⟨g1, g2⟩ := ih h3 (fun j hj => hi j (List.mem_cons_of_mem _ hj))
    rw [hg] at h2 g1
    exact ⟨⟨by omega, h2, g1⟩, by rw [lenP_cons, lenP_cons, g2, hg]⟩
/-- a distance that no way is shorter than can be asked for -/
theorem reach_ok {n : Nat} {bs : List Bd} (hv : Vld n bs) {a c : Nat} (ha : a < n) (hc : c < n) (hl : bs.length < 2048) (hs : HasSol bs) {d : Int} (hd : ∀ q, Wlk bs a q c → d ≤ lenP bs q) : HasSol (bs ++ [⟨c, a, -d⟩]) := by
  have hv2 : Vld n (bs ++ [⟨c, a, -d⟩]) := by
    refine ⟨hv.n1, hv.n2, by simp; omega, fun i hi => ?_⟩
    by_cases h : i < bs.length
    · rw [bg_app h]; exact hv.ok i h
    · obtain rfl : i = bs.length := by simp at hi; omega
      rw [bg_last]; refine ⟨⟨?_, ?_⟩, ?_, ?_⟩ <;> simp only <;> omega
  refine Classical.byContradiction fun hn => ?_
  obtain ⟨m, hm⟩ := neg_min ((neg_iff hv2).2 hn)
  obtain ⟨l, hl⟩ := hm.1
  have hnd := hm.nodup hl
  obtain ⟨_, h2, u, h3⟩ := hl
  by_cases hk : ∃ i ∈ l, i.toNat = bs.length
  · obtain ⟨i, hi, he⟩ := hk
    obtain ⟨p, s, rfl⟩ := List.append_of_mem hi
    obtain ⟨w, w1, w2, w3, w4⟩ := Wlk.app.1 h3
    rw [he, bg_last] at w3 w4
    have hfr : frs (bs ++ [⟨c, a, -d⟩]) (p ++ i :: s) = frs (bs ++ [⟨c, a, -d⟩]) p ++ (c : Int) :: frs (bs ++ [⟨c, a, -d⟩]) s := by
      rw [frs_app]; unfold frs; rw [List.map_cons, he, bg_last]
    rw [hfr] at hnd
    obtain ⟨_, n2, n3⟩ := List.nodup_append.1 hnd
    have hother : ∀ j ∈ p ++ s, j.toNat ≠ bs.length := by
      intro j hj hje
      have hfj : (bg (bs ++ [(⟨c, a, -d⟩ : Bd)]) j.toNat).fr = c := by rw [hje, bg_last]
      rcases List.mem_append.1 hj with hj | hj
      · exact n3 _ (List.mem_map_of_mem (f := fun i => (bg (bs ++ [(⟨c, a, -d⟩ : Bd)]) i.toNat).fr) hj) (c : Int) (List.mem_cons_self) hfj
      · refine (List.nodup_cons.1 n2).1 ?_
        have := List.mem_map_of_mem (f := fun i => (bg (bs ++ [(⟨c, a, -d⟩ : Bd)]) i.toNat).fr) hj
        rwa [hfj] at this
    simp only at w3
    subst w3
    obtain ⟨g1, g2⟩ := wlk_app w1 (fun j hj => hother j (List.mem_append_left _ hj))
    obtain ⟨g3, g4⟩ := wlk_app w4 (fun j hj => hother j (List.mem_append_right _ hj))
    have := hd (s ++ p) (Wlk.app.2 ⟨u, g3, g1⟩)
    rw [lenP_app] at this
    rw [lenP_app, lenP_cons, g2, g4, he, bg_last] at h2
    simp only at h2; omega
  · obtain ⟨g1, g2⟩ := wlk_app h3 (fun i hi he => hk ⟨i, hi, he⟩)
    rw [g2] at h2
    exact (show Neg bs l.length l from ⟨rfl, h2, u, g1⟩).no hs
/-- a greater one cannot be met -/
theorem reach_no {bs : List Bd} {a c : Nat} {p : List Int} (hw : Wlk bs a p c) {d : Int} (hd : lenP bs p < d) : ¬ HasSol (bs ++ [⟨c, a, -d⟩]) := by
  rintro ⟨f, hf⟩
  have h1 := Wlk.sol (f := f) (fun b hb => hf b (List.mem_append_left _ hb)) hw
  have h2 := hf ⟨c, a, -d⟩ (by simp)
  simp only [Int.toNat_natCast] at h1 h2; omega
/-! ## Other denominators -/
/-- all bounds by a factor -/
def scB (k : Int) (bs : List Bd) : List Bd := bs.map fun b => { b with w := b.w * k }
theorem scB_len {k : Int} {bs : List Bd} : (scB k bs).length = bs.length := by simp [scB]
theorem scB_get {k : Int} {bs : List Bd} (i : Nat) : bg (scB k bs) i = { bg bs i with w := (bg bs i).w * k } := by
  by_cases h : i < bs.length
  · unfold scB bg; simp [List.getD_eq_getElem?_getD, h]
  · unfold scB bg; simp [List.getD_eq_getElem?_getD, h, bd0]
theorem scB_wlk {k : Int} {bs : List Bd} {l : List Int} : ∀ {u v : Int}, Wlk bs u l v → Wlk (scB k bs) u l v ∧ lenP (scB k bs) l = lenP bs l * k := by
  induction l with
  | nil => intro u v h; exact ⟨h, by simp [lenP]⟩
  | cons i l ih =>
    intro u v h
    obtain ⟨h1, h2, h3⟩ := h
    obtain ⟨g1, g2⟩ := ih h3
    refine ⟨⟨by rw [scB_len]; exact h1, by rw [scB_get]; exact h2, by rw [scB_get]; exact g1⟩, ?_⟩
    rw [lenP_cons, lenP_cons, g2, scB_get, Int.add_mul]
theorem scB_abs {k : Nat} {bs : List Bd} : absS (scB k bs) = absS bs * k := by
  unfold absS scB
  induction bs with
  | nil => simp
  | cons b bs ih =>
    simp only [List.map_cons, List.sum_cons, List.map_map] at ih ⊢
    rw [ih, Nat.add_mul, Int.natAbs_mul, Int.natAbs_natCast]
theorem scB_vld {n : Nat} {k : Int} {bs : List Bd} (hv : Vld n bs) : Vld n (scB k bs) := ⟨hv.n1, hv.n2, by rw [scB_len]; exact hv.l, fun i hi => by
  rw [scB_len] at hi; rw [scB_get]; exact hv.ok i hi⟩
theorem slv_e {n : Nat} {bs : List Bd} (hv : Vld n bs) : (slv n bs).2.2 = 0 ∧ HasSol bs ∨ (slv n bs).2.2 = 14 ∧ ¬ HasSol bs := by
  by_cases h : HasSol bs
  · exact .inl ⟨by rw [slv_sol hv h], h⟩
  · exact .inr ⟨by rw [slv_no hv h], h⟩
end Go.Proofs.YthggloiigkbfeaaGreat
namespace Go.Proofs.YthggloiigkbfeaaGreat
namespace T
open W
theorem a69 : ArrT Tryz.prog 69 3 3 1 := ArrT.of (by kernel_rfl)
theorem a70 : ArrT Tryz.prog 70 37 3 4 := ArrT.of (by kernel_rfl)
theorem a71 : ArrT Tryz.prog 71 4 3 1 := ArrT.of (by kernel_rfl)
theorem al69 : AllocT Tryz.prog 69 [.int .i64 0, .int .i64 0, .int .i64 0] := AllocT.of (z := .agg #[.int .i64 0, .int .i64 0, .int .i64 0]) (by kernel_rfl) (by kernel_rfl)
theorem al70 : AllocT Tryz.prog 70 [.bool false, .slice none 0 0, .bool false, .slice none 0 0, .bool false, .slice none 0 0, .bool false, .slice none 0 0, .bool false, .slice none 0 0, .bool false, .slice none 0 0] := AllocT.of (z := .agg #[.bool false, .slice none 0 0, .bool false, .slice none 0 0, .bool false, .slice none 0 0, .bool false, .slice none 0 0, .bool false, .slice none 0 0, .bool false, .slice none 0 0]) (by kernel_rfl) (by kernel_rfl)
theorem al71 : AllocT Tryz.prog 71 [.bool false, .bool false, .bool false] := AllocT.of (z := .agg #[.bool false, .bool false, .bool false]) (by kernel_rfl) (by kernel_rfl)
theorem r69 : Row Tryz.prog 69 3 := Row.of (by kernel_rfl)
end T
end Go.Proofs.YthggloiigkbfeaaGreat
namespace Go.Proofs.YthggloiigkbfeaaGreat
open W Go.RowKit
variable {P : Program} {e : Env} {bx bx' : List Ow} {F : List Fct} {ty t tg el : TypeId} {v : Value} {x y z : Operand} {K : RPost} {a b c : Int} {g k n : Nat} {ms : Nat → QM} {m : QM} {q : Rat} {bb : Bool}
/-- three truths -/
def bls (f : Nat → Bool) : List Value := [.bool (f 0), .bool (f 1), .bool (f 2)]
theorem bls_set {f : Nat → Bool} (hk : k < 3) : (bls f).set k (.bool bb) = bls (upd f k bb) := by
  match k, hk with
  | 0, _ => rfl
  | 1, _ => rfl
  | 2, _ => rfl
theorem YO.buildI3 (h1 : ev e x = some (.int .i64 a)) (h2 : ev e y = some (.int .i64 b)) (h3 : ev e z = some (.int .i64 c)) : YO Tryz.prog (.build 69 #[(0, x), (1, y), (2, z)]) ty e bx F (.agg (ints [a, b, c]).toArray) := YO.build (parts := [(0, x), (1, y), (2, z)]) (.cons h1 (.cons h2 (.cons h3 .nil))) fun w => run_build w 69 _ _ (by kernel_rfl)
theorem LO.storeCQ (hx : ev e x = some (.pointer (some ⟨g, k * 4, none⟩))) (hy : ev e y = some (qv m)) (hr : Row P t 4) (hq : Has F (isQ (qv m) q)) (hs : Sel bx (.cells g tg (qcells n ms)) (.cells g tg (qcells n (upd ms k m))) bx') (hk : k < n) (h : K undef bx' F) : LO P (.store t x y) ty e bx F K :=
  LO.byOneL (one_q hq) fun h1 => LO.store hx hy (vs := qcs m) (by simp [Value.cells]) hr.2 h1 hs (by rw [cellsF_len]; show k * 4 + 4 ≤ n * 4; omega) (qcells_set hk) h
theorem LO.storeCB {f : Nat → Bool} (hx : ev e x = some (.pointer (some ⟨g, k, none⟩))) (hy : ev e y = some (.bool bb)) (hz : (P.info? t).map (·.size) = some 1) (hs : Sel bx (.cells g tg (bls f)) (.cells g tg (bls (upd f k bb))) bx') (hk : k < 3) (h : K undef bx' F) : LO P (.store t x y) ty e bx F K :=
  LO.store1 hx hy hz (One.lit rfl rfl) hs (by show k < 3; exact hk) (bls_set hk) h
theorem YO.ldCQ0 (hs : Row P t 4) (hx : ev e x = some (.pointer (some ⟨g, 0, none⟩))) (hb : Ow.cells g tg (qcells 3 ms) ∈ bx) : YO P (.load t x) ty e bx F (qv (ms 0)) := YO.ldRB (us := qcs (ms 0)) hs hx hb rfl rfl
theorem YO.ldCQ1 (hs : Row P t 4) (hx : ev e x = some (.pointer (some ⟨g, 4, none⟩))) (hb : Ow.cells g tg (qcells 3 ms) ∈ bx) : YO P (.load t x) ty e bx F (qv (ms 1)) := YO.ldRB (us := qcs (ms 1)) hs hx hb rfl rfl
theorem YO.ldCQ2 (hs : Row P t 4) (hx : ev e x = some (.pointer (some ⟨g, 8, none⟩))) (hb : Ow.cells g tg (qcells 3 ms) ∈ bx) : YO P (.load t x) ty e bx F (qv (ms 2)) := YO.ldRB (us := qcs (ms 2)) hs hx hb rfl rfl
theorem qcells30 : qcells 3 (fun _ => m00) = [.bool false, .slice none 0 0, .bool false, .slice none 0 0, .bool false, .slice none 0 0, .bool false, .slice none 0 0, .bool false, .slice none 0 0, .bool false, .slice none 0 0] := by kernel_rfl
/-! ## Other denominators -/
theorem wq_sc {D k : Nat} [hD : Den D] (hk : 0 < k) (i : Int) : wq (D * k) (i * k) = wq D i := by
  unfold wq
  rw [Int.natCast_mul, Rat.divInt_mul_right (by omega)]
theorem den_mul {D k : Nat} [hD : Den D] (hk : 0 < k) (h : D * k ≤ 500000000) : Den (D * k) := ⟨Nat.mul_pos hD.pos hk, h⟩
theorem W.Has.scQ {D k : Nat} [hD : Den D] {i : Int} (hk : 0 < k) (h : Has F (isQ (qv m) (wq D i))) : Has F (isQ (qv m) (wq (D * k) (i * k))) := by rw [wq_sc hk]; exact h
theorem bcell_sc (k : Int) (bs : List Bd) (ms : Nat → QM) : bcell (scB k bs) ms = bcell bs ms := by
  funext j
  unfold bcell
  rw [scB_get]
theorem W.Has.scB {D k : Nat} [hD : Den D] {bs : List Bd} (hk : 0 < k) (h : Has F (fB D v ms bs)) : Has F (fB (D * k) v ms (scB k bs)) := fun p hf => by
  obtain ⟨h1, h2⟩ := h p hf
  refine ⟨?_, fun i hi => ?_⟩
  · rw [scB_len, bcell_sc]; exact h1
  · rw [scB_len] at hi
    have h3 := h2 i hi
    rw [scB_get]
    show (isQ (qv (ms i)) (wq (D * k) ((bg bs i).w * (k : Int)))).p p
    rw [wq_sc hk]; exact h3
end Go.Proofs.YthggloiigkbfeaaGreat
namespace Go.Proofs.YthggloiigkbfeaaGreat
open W Go.RowKit
attribute [local irreducible] WC WL WD YO LO LoopEnd W.Fin Scalar SliceT FieldAt Row ArrT AllocT KnS Has W.One SrcE IntT
namespace J
set_option maxRecDepth 60000
theorem goE {G G' : Prop} (h : G') (s : Bx G' → G := by
  intro h
  (first
    | (apply WL.k_build; (apply YO.buildI3; exact rfl; exact rfl; exact rfl); exact rfl; exact rfl)
    | (apply WL.k_indexAddr; (first | (apply YO.ixN; exact T.a69; exact rfl; exact rfl; omega; ((try simp only [Nat.zero_add, Nat.mul_one, Nat.reduceAdd, Nat.reduceMul]); exact rfl)) | (apply YO.ixN; exact T.a70; exact rfl; exact rfl; omega; ((try simp only [Nat.zero_add, Nat.mul_one, Nat.reduceAdd, Nat.reduceMul]); exact rfl)) | (apply YO.ixN; exact T.a71; exact rfl; exact rfl; omega; ((try simp only [Nat.zero_add, Nat.mul_one, Nat.reduceAdd, Nat.reduceMul]); exact rfl)) | (apply YO.ixNI; exact T.a69; exact rfl; exact rfl; omega; omega; ((try simp only [Nat.zero_add, Nat.mul_one, Nat.reduceAdd, Nat.reduceMul]); exact rfl)) | (apply YO.ixNI; exact T.a70; exact rfl; exact rfl; omega; omega; ((try simp only [Nat.zero_add, Nat.mul_one, Nat.reduceAdd, Nat.reduceMul]); exact rfl)) | (apply YO.ixNI; exact T.a71; exact rfl; exact rfl; omega; omega; ((try simp only [Nat.zero_add, Nat.mul_one, Nat.reduceAdd, Nat.reduceMul]); exact rfl))); exact rfl; exact rfl)
    | (apply WL.k_load; (first | (apply YO.ldCQ0; (first | exact T.r35 | exact T.r37 | exact T.r59 | exact T.r103 | exact T.r114); exact rfl; exact meA) | (apply YO.ldCQ1; (first | exact T.r35 | exact T.r37 | exact T.r59 | exact T.r103 | exact T.r114); exact rfl; exact meA) | (apply YO.ldCQ2; (first | exact T.r35 | exact T.r37 | exact T.r59 | exact T.r103 | exact T.r114); exact rfl; exact meA)); exact rfl; exact rfl)
    | (apply WL.kl_store; rotate_left; exact rfl; (first | (apply LO.storeWI; exact rfl; exact rfl; exact seA; exact T.r69; exact rfl; exact rfl) | (apply LO.storeCQ; exact rfl; exact rfl; (first | exact T.r35 | exact T.r37 | exact T.r59 | exact T.r103 | exact T.r114); exact hmA; exact seA; omega) | (apply LO.storeCB; exact rfl; exact rfl; (first | exact T.z3 | exact T.z4 | exact T.z22 | exact T.z26 | exact T.z32 | exact T.z38 | exact T.z109 | exact T.z111 | exact T.z161 | exact T.z164 | exact T.z94 | exact T.z116 | exact T.z159); exact seA; omega) | fail))
    | (apply WD.k_build; exact rfl; (apply YO.buildI3; exact rfl; exact rfl; exact rfl); exact rfl; exact rfl)
    | (apply WD.k_indexAddr; exact rfl; (first | (apply YO.ixN; exact T.a69; exact rfl; exact rfl; omega; ((try simp only [Nat.zero_add, Nat.mul_one, Nat.reduceAdd, Nat.reduceMul]); exact rfl)) | (apply YO.ixN; exact T.a70; exact rfl; exact rfl; omega; ((try simp only [Nat.zero_add, Nat.mul_one, Nat.reduceAdd, Nat.reduceMul]); exact rfl)) | (apply YO.ixN; exact T.a71; exact rfl; exact rfl; omega; ((try simp only [Nat.zero_add, Nat.mul_one, Nat.reduceAdd, Nat.reduceMul]); exact rfl)) | (apply YO.ixNI; exact T.a69; exact rfl; exact rfl; omega; omega; ((try simp only [Nat.zero_add, Nat.mul_one, Nat.reduceAdd, Nat.reduceMul]); exact rfl)) | (apply YO.ixNI; exact T.a70; exact rfl; exact rfl; omega; omega; ((try simp only [Nat.zero_add, Nat.mul_one, Nat.reduceAdd, Nat.reduceMul]); exact rfl)) | (apply YO.ixNI; exact T.a71; exact rfl; exact rfl; omega; omega; ((try simp only [Nat.zero_add, Nat.mul_one, Nat.reduceAdd, Nat.reduceMul]); exact rfl))); exact rfl; exact rfl)
    | (apply WD.k_load; exact rfl; (first | (apply YO.ldCQ0; (first | exact T.r35 | exact T.r37 | exact T.r59 | exact T.r103 | exact T.r114); exact rfl; exact meA) | (apply YO.ldCQ1; (first | exact T.r35 | exact T.r37 | exact T.r59 | exact T.r103 | exact T.r114); exact rfl; exact meA) | (apply YO.ldCQ2; (first | exact T.r35 | exact T.r37 | exact T.r59 | exact T.r103 | exact T.r114); exact rfl; exact meA)); exact rfl; exact rfl)
    | (apply WD.kl_store; exact rfl; rotate_left; exact rfl; (first | (apply LO.storeWI; exact rfl; exact rfl; exact seA; exact T.r69; exact rfl; exact rfl) | (apply LO.storeCQ; exact rfl; exact rfl; (first | exact T.r35 | exact T.r37 | exact T.r59 | exact T.r103 | exact T.r114); exact hmA; exact seA; omega) | (apply LO.storeCB; exact rfl; exact rfl; (first | exact T.z3 | exact T.z4 | exact T.z22 | exact T.z26 | exact T.z32 | exact T.z38 | exact T.z109 | exact T.z111 | exact T.z161 | exact T.z164 | exact T.z94 | exact T.z116 | exact T.z159); exact seA; omega) | fail); constructor; (first | (focus (apply Or.inr; constructor; (repeat (first | exact List.Sublist.refl _ | exact List.nil_sublist _ | apply List.Sublist.cons_cons | apply List.Sublist.cons)); (first | exact fun _ h => h | (intro f hf; (repeat (first | exact hf | apply List.Mem.tail)))); done)) | (apply Or.inl; kernel_rfl)))
    | ((first | (apply LO.storeWI; exact rfl; exact rfl; exact seA; exact T.r69; exact rfl; exact rfl) | (apply LO.storeCQ; exact rfl; exact rfl; (first | exact T.r35 | exact T.r37 | exact T.r59 | exact T.r103 | exact T.r114); exact hmA; exact seA; omega) | (apply LO.storeCB; exact rfl; exact rfl; (first | exact T.z3 | exact T.z4 | exact T.z22 | exact T.z26 | exact T.z32 | exact T.z38 | exact T.z109 | exact T.z111 | exact T.z161 | exact T.z164 | exact T.z94 | exact T.z116 | exact T.z159); exact seA; omega) | fail); constructor; (first | (focus (apply Or.inr; constructor; (repeat (first | exact List.Sublist.refl _ | exact List.nil_sublist _ | apply List.Sublist.cons_cons | apply List.Sublist.cons)); (first | exact fun _ h => h | (intro f hf; (repeat (first | exact hf | apply List.Mem.tail)))); done)) | (apply Or.inl; kernel_rfl)))
    | fail)
  exact Bx.h h) : G := s ⟨h⟩
theorem goEG {G G' : Prop} (h : G') (s : Bx G' → G := by
  intro h
  (first
    | (apply WL.kl_alloc; rotate_left; exact rfl; exact rfl; apply LO.alloc'; (first | exact T.al69 | exact T.al70 | exact T.al71 | fail))
    | (apply WD.kl_alloc; exact rfl; rotate_left; exact rfl; exact rfl; apply LO.alloc'; (first | exact T.al69 | exact T.al70 | exact T.al71 | fail); apply allAnd; (intro _; (first | (focus (apply Or.inr; constructor; (repeat (first | exact List.Sublist.refl _ | exact List.nil_sublist _ | apply List.Sublist.cons_cons | apply List.Sublist.cons)); (first | exact fun _ h => h | (intro f hf; (repeat (first | exact hf | apply List.Mem.tail)))); done)) | (apply Or.inl; kernel_rfl))))
    | (apply LO.alloc'; (first | exact T.al69 | exact T.al70 | exact T.al71 | fail); apply allAnd; (intro _; (first | (focus (apply Or.inr; constructor; (repeat (first | exact List.Sublist.refl _ | exact List.nil_sublist _ | apply List.Sublist.cons_cons | apply List.Sublist.cons)); (first | exact fun _ h => h | (intro f hf; (repeat (first | exact hf | apply List.Mem.tail)))); done)) | (apply Or.inl; kernel_rfl))))
    | fail)
  exact Bx.h h) : G := s ⟨h⟩
end J
end Go.Proofs.YthggloiigkbfeaaGreat
namespace Go.Proofs.YthggloiigkbfeaaGreat
open W Go.RowKit
theorem lenP_nodup {bs : List Bd} : ∀ k, k ≤ bs.length → ∀ l : List Int, l.Nodup → (∀ x ∈ l, 0 ≤ x ∧ x < k) → (lenP bs l).natAbs ≤ absS (bs.take k) := by
  intro k
  induction k with
  | zero =>
    intro _ l _ h
    cases l with
    | nil => simp [lenP]
    | cons a l => have := h a (List.mem_cons_self); omega
  | succ k ih =>
    intro hk l hn h
    have habs := absS_take (bs := bs) (i := k) (by omega)
    by_cases hm : (k : Int) ∈ l
    · obtain ⟨s, t, rfl⟩ := List.append_of_mem hm
      obtain ⟨n1, n2, n3⟩ := List.nodup_append.1 hn
      obtain ⟨n4, n5⟩ := List.nodup_cons.1 n2
      have hst : (s ++ t).Nodup := List.nodup_append.2 ⟨n1, n5, fun x hx y hy => n3 x hx y (List.mem_cons_of_mem _ hy)⟩
      have h2 := ih (by omega) (s ++ t) hst (fun x hx => by
        have hx2 : x ∈ s ++ (k : Int) :: t := by
          rcases List.mem_append.1 hx with hx | hx
          · exact List.mem_append_left _ hx
          · exact List.mem_append_right _ (List.mem_cons_of_mem _ hx)
        have h3 := h x hx2
        have h4 : x ≠ k := fun e => by
          subst e
          rcases List.mem_append.1 hx with hx | hx
          · exact n3 _ hx _ (List.mem_cons_self) rfl
          · exact n4 hx
        omega)
      rw [lenP_app, lenP_cons, Int.toNat_natCast]
      rw [lenP_app] at h2
      omega
    · have h2 := ih (by omega) l hn (fun x hx => by
        have h3 := h x hx
        have h4 : x ≠ k := fun e => hm (e ▸ hx)
        omega)
      omega
theorem mst_abs {n : Nat} {bs : List Bd} (hv : Vld n bs) {a b : Nat} (ha : a < n) (hb : b < n) : (mst n bs a b).1.natAbs ≤ absS bs := by
  by_cases hs : HasSol bs
  · have hm : mst n bs a b = (match mostK n bs a b with
      | none => (0, [], 6)
      | some k => (mostD n bs a b k, fstP bs (tabL n bs b n) (fun x => decide (x = mostD n bs a b k)) k a 0 [], 0)) := by
      unfold mst
      rw [if_pos ⟨hv.valid, by omega, by omega⟩]
      simp only [Int.toNat_natCast]
      rw [great_some hv hs]
      rfl
    rcases most_same hv ha hb hs with ⟨h1, h2⟩ | ⟨k, h1, h2, h3, h4, h5⟩
    · rw [hm, h1]; exact Nat.zero_le _
    · rw [hm, h1]
      generalize fstP bs (tabL n bs b n) (fun x => decide (x = mostD n bs a b k)) k a 0 [] = p at *
      obtain ⟨w, nd, _⟩ := h4
      have hnd : p.Nodup := by
        unfold tos at nd
        exact List.Pairwise.of_map _ (fun x y hxy e => hxy (by rw [e])) nd
      have hix := wlk_cyc w
      have h6 := lenP_nodup (bs := bs) bs.length (Nat.le_refl _) p hnd (fun x hx => by
        obtain ⟨i, h7, rfl⟩ := List.getElem_of_mem hx
        have := (hix i h7).1
        simpa [List.getD_eq_getElem?_getD, h7] using this)
      rw [List.take_of_length_le (Nat.le_refl _), h3] at h6
      exact h6
  · rcases mst_cases hv ha hb with ⟨_, h, _⟩ | ⟨h, _⟩ | ⟨_, _, h, _⟩
    · rw [h]; exact Nat.zero_le _
    · exact absurd h hs
    · exact absurd h hs
/-- what is known of a way from P to Q: a least length, or that there is none -/
def Way (bs : List Bd) (a b : Int) (z : Int) (is : Bool) : Prop := (is = true → ∃ p, Wlk bs a p b ∧ lenP bs p = z ∧ ∀ q, Wlk bs a q b → z ≤ lenP bs q) ∧ (is = false → ∀ q, ¬ Wlk bs a q b)
theorem way_tri {bs : List Bd} {a b c : Int} {z0 z1 z2 : Int} {is2 : Bool} (h0 : Way bs a b z0 true) (h1 : Way bs b c z1 true) (h2 : Way bs a c z2 is2) : is2 = true ∧ z2 ≤ z0 + z1 := by
  obtain ⟨p, p1, p2, _⟩ := h0.1 rfl
  obtain ⟨q, q1, q2, _⟩ := h1.1 rfl
  have hw : Wlk bs a (p ++ q) c := Wlk.app.2 ⟨b, p1, q1⟩
  cases is2 with
  | false => exact absurd hw (h2.2 rfl _)
  | true =>
    obtain ⟨_, _, _, h3⟩ := h2.1 rfl
    have := h3 _ hw
    rw [lenP_app] at this
    exact ⟨rfl, by omega⟩
end Go.Proofs.YthggloiigkbfeaaGreat
namespace Go.Proofs.YthggloiigkbfeaaGreat
open W Go.RowKit
namespace J
open G H I
attribute [local irreducible] WC WL WD YO LO LoopEnd W.Fin Scalar SliceT FieldAt Row ArrT AllocT KnS Has W.One SrcE IntT
theorem d45 {G G' : Prop} (h : G') (s : Bx G' → G := by
  intro h
  first | (apply WC.draw (id := 1) [1, 3, 4, 5, 7, 10] (.held 1 (.held 3 (.held 4 (.held 5 (.loud 0 (.loud 2 (.loud 6 (.held 7 (.loud 8 (.loud 9 (.held 10 (.done)))))))))))) mixed (by kernel_rfl)) | fail
  exact Bx.h h) : G := s ⟨h⟩
set_option maxHeartbeats 4000000 in
set_option maxRecDepth 60000 in
theorem with_c (D : Nat) [Den D] (vb : Value) (ms : Nat → QM) (bs : List Bd) (a c : Int) (m : QM) (d : Int) (hl : bs.length ≤ 1000) : FnB Tryz.prog 45 [vb, .int .i64 a, .int .i64 c, qv m] [] [fB D vb ms bs, isQ (qv m) (wq D d)] (IsBs D (bs ++ [⟨c, a, -d⟩])) := by
  refine fn_of [(0, vb), (1, (.int .i64 a)), (2, (.int .i64 c)), (3, (qv m))] 19 Tryz.func45 rfl Tryz.ntmps45 (by kernel_rfl) rfl suA fun h0 => ?_
  repeat' (first | refine go ?_ | refine goX ?_ | refine goB ?_ | (refine goG ?_; intro g) | (refine goV ?_; intro v) | refine goE ?_ | (refine goEG ?_; intro g) | refine goD ?_ | refine goXD ?_ | (refine goDG ?_; intro g) | (refine goDV ?_; intro v) | refine d45 ?_ | fail)
  all_goals first | refine WL.callK (negw_c D m d) ?_ | refine WD.callK (negw_c D m d) ?_ | refine LO.callM (negw_c D m d) ?_
  all_goals rintro _ _ _ ⟨m2, rfl, rfl, rfl⟩
  all_goals simp only [List.nil_append, List.cons_append]
  all_goals repeat' (first | refine go ?_ | refine goX ?_ | refine goB ?_ | (refine goG ?_; intro g) | (refine goV ?_; intro v) | refine goE ?_ | (refine goEG ?_; intro g) | refine goD ?_ | refine goXD ?_ | (refine goDG ?_; intro g) | (refine goDV ?_; intro v) | refine d45 ?_ | fail)
  all_goals first | refine WD.l rfl rfl rfl (LO.bsB1 (b := ⟨c, a, -d⟩) (m := m2) rfl fun v => ⟨Or.inr ⟨slA, fun _ h => by repeat (first | exact h | apply List.Mem.tail)⟩, ?_⟩) | refine LO.bsB1 (b := ⟨c, a, -d⟩) (m := m2) rfl fun v => ⟨Or.inr ⟨slA, fun _ h => by repeat (first | exact h | apply List.Mem.tail)⟩, ?_⟩ | fail
  all_goals repeat' (first | refine go ?_ | refine goX ?_ | refine goB ?_ | (refine goG ?_; intro g) | (refine goV ?_; intro v) | refine goE ?_ | (refine goEG ?_; intro g) | refine goD ?_ | refine goXD ?_ | (refine goDG ?_; intro g) | (refine goDV ?_; intro v) | refine d45 ?_ | fail)
  all_goals show WC _ _ _ _ _ _ _
  all_goals refine WC.freezeB (D := D) (el := 59) v (upd ms bs.length m2) (bs ++ [⟨c, a, -d⟩]) (by repeat (first | exact Sel.head | apply Sel.tail)) (W.Has.mBapp (W.Has.bm (v := vb) hmA) hmA) ?_
  all_goals exact WC.ret (Fin.p [] [fB D v (upd ms bs.length m2) (bs ++ [⟨c, a, -d⟩])] (ResE.t1 rfl rfl) meA (List.nil_sublist _) haA ⟨_, rfl, rfl⟩)
end J
end Go.Proofs.YthggloiigkbfeaaGreat
namespace Go.Proofs.YthggloiigkbfeaaGreat
open W Go.RowKit
theorem hasmQ000 {D : Nat} [Den D] {F : List Fct} : Has F (mQ D (fun _ => m00) [0, 0, 0]) := fun p hf i hi => by
  have h : Has F (isQ (qv m00) (wq D 0)) := hasQ0w
  match i, hi with
  | 0, _ => exact h p hf
  | 1, _ => exact h p hf
  | 2, _ => exact h p hf
  | i + 3, hi => exact absurd hi (by simp)
theorem getD_set {l : List Int} {i j : Nat} {z : Int} (h : i < l.length) : (l.set i z).getD j 0 = if j = i then z else l.getD j 0 := by
  simp only [List.getD_eq_getElem?_getD, List.getElem?_set]
  by_cases c : i = j
  · subst c; simp [h]
  · rw [if_neg c, if_neg (fun h => c h.symm)]
namespace J
open G H I
attribute [local irreducible] WC WL WD YO LO LoopEnd W.Fin Scalar SliceT FieldAt Row ArrT AllocT KnS Has W.One SrcE IntT
theorem d9 {G G' : Prop} (h : G') (s : Bx G' → G := by
  intro h
  first | (apply WC.draw (id := 20) [0, 1, 2, 3, 4, 5, 7, 12, 13, 14, 15, 16, 17, 18] (.held 0 (.held 1 (.held 2 (.held 3 (.held 4 (.held 5 (.loud 6 (.held 7 (.loud 8 (.loud 9 (.loud 10 (.loud 11 (.held 12 (.held 13 (.held 14 (.held 15 (.held 16 (.held 17 (.held 18 (.done)))))))))))))))))))) mixed (by kernel_rfl)) | (apply WC.draw (id := 27) [0, 1, 2, 3, 4, 5, 6, 7, 8] (.held 0 (.held 1 (.held 2 (.held 3 (.held 4 (.held 5 (.held 6 (.held 7 (.held 8 (.loud 9 (.loud 10 (.done)))))))))))) mixed (by kernel_rfl)) | (apply WC.draw (id := 30) [0, 1, 2, 3, 4, 5, 6, 7, 8, 9, 10, 11, 12, 13, 14, 15, 16, 17, 20, 21, 22, 23, 25, 26] (.held 0 (.held 1 (.held 2 (.held 3 (.held 4 (.held 5 (.held 6 (.held 7 (.held 8 (.held 9 (.held 10 (.held 11 (.held 12 (.held 13 (.held 14 (.held 15 (.held 16 (.held 17 (.loud 18 (.loud 19 (.held 20 (.held 21 (.held 22 (.held 23 (.loud 24 (.held 25 (.held 26 (.done)))))))))))))))))))))))))))) mixed (by kernel_rfl)) | fail
  exact Bx.h h) : G := s ⟨h⟩
set_option maxHeartbeats 16000000 in
set_option maxRecDepth 60000 in
theorem reached_c (v0 : Value) (l : List Int) (fr ov to far : Int) (hl : ∀ x ∈ l, I64 x) (h1 : I64 fr) (h2 : I64 ov) (h3 : I64 to) (h4 : I64 far) :
    FnB Tryz.prog 9 [v0, .int .i64 fr, .int .i64 ov, .int .i64 to, .int .i64 far] [] [sI v0 l] (IsV (.bool true)) := by
  refine fn_of [(0, v0), (1, (.int .i64 fr)), (2, (.int .i64 ov)), (3, (.int .i64 to)), (4, (.int .i64 far))] 198 Tryz.func9 rfl Tryz.ntmps9 (by kernel_rfl) rfl suA fun h0 => ?_
  have hs := sysL_sml l (most := 6) (by decide) (by decide)
  have hsa := sysL_abs l (most := 6) (by decide) (by decide)
  have hsl := sysL_len l 6
  obtain ⟨n, hn, hn8, hv⟩ := sys_vld l (most := 6) (by decide) (by decide)
  have hn1 := hv.n1
  repeat' (first | refine go ?_ | refine goX ?_ | refine goB ?_ | (refine goG ?_; intro g) | (refine goV ?_; intro v) | refine goE ?_ | (refine goEG ?_; intro g) | refine goD ?_ | refine goXD ?_ | (refine goDG ?_; intro g) | (refine goDV ?_; intro v) | refine d9 ?_ | fail)
  first | refine WL.callK (system_c v0 l 6 hl (by decide) (by decide)) ?_ | refine WD.callK (system_c v0 l 6 hl (by decide) (by decide)) ?_ | refine LO.callM (system_c v0 l 6 hl (by decide) (by decide)) ?_
  rintro rv bb GG ⟨vb, ms, rfl, rfl, rfl⟩
  simp only [List.nil_append, List.cons_append]
  rw [hn]
  generalize sysL l 6 = bs at *
  have b1 := @around_lt fr (n : Int) (by omega)
  have b2 := @around_lt ov (n : Int) (by omega)
  have b3 := @around_lt to (n : Int) (by omega)
  repeat' (first | refine go ?_ | refine goX ?_ | refine goB ?_ | (refine goG ?_; intro g) | (refine goV ?_; intro v) | refine goE ?_ | (refine goEG ?_; intro g) | refine goD ?_ | refine goXD ?_ | (refine goDG ?_; intro g) | (refine goDV ?_; intro v) | refine d9 ?_ | fail)
  first | refine WL.callV (around_c fr n h1 (by omega)) ?_ | refine WD.callV (around_c fr n h1 (by omega)) ?_
  repeat' (first | refine go ?_ | refine goX ?_ | refine goB ?_ | (refine goG ?_; intro g) | (refine goV ?_; intro v) | refine goE ?_ | (refine goEG ?_; intro g) | refine goD ?_ | refine goXD ?_ | (refine goDG ?_; intro g) | (refine goDV ?_; intro v) | refine d9 ?_ | fail)
  first | refine WL.callV (around_c ov n h2 (by omega)) ?_ | refine WD.callV (around_c ov n h2 (by omega)) ?_
  repeat' (first | refine go ?_ | refine goX ?_ | refine goB ?_ | (refine goG ?_; intro g) | (refine goV ?_; intro v) | refine goE ?_ | (refine goEG ?_; intro g) | refine goD ?_ | refine goXD ?_ | (refine goDG ?_; intro g) | (refine goDV ?_; intro v) | refine d9 ?_ | fail)
  first | refine WL.callV (around_c to n h3 (by omega)) ?_ | refine WD.callV (around_c to n h3 (by omega)) ?_
  obtain ⟨L3, hL3⟩ : ∃ L3, L3 = [around fr n, around ov n, around to n] := ⟨_, rfl⟩
  have hlen : L3.length = 3 := by rw [hL3]; rfl
  have hrng : ∀ j, j < 3 → ∃ a : Nat, L3.getD j 0 = a ∧ a < n := fun j hj => by
    rw [hL3]
    match j, hj with
    | 0, _ => exact ⟨(around fr n).toNat, by show around fr n = _; omega, by omega⟩
    | 1, _ => exact ⟨(around ov n).toNat, by show around ov n = _; omega, by omega⟩
    | 2, _ => exact ⟨(around to n).toNat, by show around to n = _; omega, by omega⟩
  repeat' (first | refine go ?_ | refine goX ?_ | refine goB ?_ | (refine goG ?_; intro g) | (refine goV ?_; intro v) | refine goE ?_ | (refine goEG ?_; intro g) | refine goD ?_ | refine goXD ?_ | (refine goDG ?_; intro g) | (refine goDV ?_; intro v) | refine d9 ?_ | fail)
  revert g; intro g15; revert g; intro g14; revert g; intro g13
  rw [← hL3, ← qcells30]
  clear hL3 b1 b2 b3 h1 h2 h3
  refine WC.lp (σ := Nat × (Nat → QM) × List Int × (Nat → Bool)) (fun s => [(16, .int .i64 (s.1 : Int)), (15, ptr g15), (14, ptr g14), (13, ptr g13), (12, vb), (11, .int .i64 n), (4, .int .i64 far)])
    (fun s => [Ow.cells g15 71 (bls s.2.2.2), Ow.cells g14 70 (qcells 3 s.2.1), Ow.cells g13 69 (ints L3)])
    (fun s => [mQ 6 s.2.1 s.2.2.1, ge h0, fB 6 vb ms bs])
    (fun s => s.1 ≤ 3 ∧ s.2.2.1.length = 3 ∧ (∀ j, (s.2.2.1.getD j 0).natAbs ≤ 5040) ∧ ∀ j, j < s.1 → Way bs (L3.getD (j % 2) 0) (L3.getD (1 + (j + 1) / 2) 0) (s.2.2.1.getD j 0) (s.2.2.2 j)) (fun s => 3 - s.1)
    (0, fun _ => m00, [0, 0, 0], fun _ => false) ⟨Nat.zero_le _, rfl, fun j => by match j with | 0 => decide | 1 => decide | 2 => decide | j + 3 => simp, fun j h => by omega⟩ ?_ suA slA (.cons hasmQ000 sfA)
  rintro ⟨i, ds, zs, is⟩ ⟨hi, hzl, hzb, hway⟩
  simp only at hi hzl hzb hway ⊢
  by_cases ci : i < 3
  · obtain ⟨a, ha, han⟩ := hrng (i % 2) (by omega)
    obtain ⟨c, hc, hcn⟩ := hrng (1 + (i + 1) / 2) (by omega)
    have ea : L3.getD ((i : Int) % 2).toNat 0 = a := by rw [show ((i : Int) % 2).toNat = i % 2 by omega]; exact ha
    have ec : L3.getD (1 + ((i : Int) + 1) / 2).toNat 0 = c := by rw [show (1 + ((i : Int) + 1) / 2).toNat = 1 + (i + 1) / 2 by omega]; exact hc
    have next : ∀ (z : Int) (b : Bool), z.natAbs ≤ 5040 → Way bs a c z b → (zs.set i z).length = 3 ∧ (∀ j, ((zs.set i z).getD j 0).natAbs ≤ 5040) ∧ ∀ j, j < i + 1 → Way bs (L3.getD (j % 2) 0) (L3.getD (1 + (j + 1) / 2) 0) ((zs.set i z).getD j 0) (upd is i b j) := fun z b hz hw => by
      refine ⟨by rw [List.length_set]; exact hzl, fun j => ?_, fun j hj => ?_⟩
      · rw [getD_set (by omega)]; split
        · exact hz
        · exact hzb j
      · rw [getD_set (by omega)]
        by_cases e : j = i
        · subst e; rw [if_pos rfl, upd_at, ha, hc]; exact hw
        · rw [if_neg e, upd_ne e]; exact hway j (by omega)
    repeat' (first | refine go ?_ | refine goX ?_ | refine goB ?_ | (refine goG ?_; intro g) | (refine goV ?_; intro v) | refine goE ?_ | (refine goEG ?_; intro g) | refine goD ?_ | refine goXD ?_ | (refine goDG ?_; intro g) | (refine goDV ?_; intro v) | refine d9 ?_ | fail)
    rw [ea, ec]
    have hab := mst_abs hv han hcn
    first | refine WL.callK (most_c 6 vb ms bs n a c hs.fit) ?_ | refine WD.callK (most_c 6 vb ms bs n a c hs.fit) ?_ | refine LO.callM (most_c 6 vb ms bs n a c hs.fit) ?_
    rintro rv bb GG ⟨m1, up, rfl, rfl, rfl⟩
    simp only [List.nil_append, List.cons_append]
    rcases mst_cases hv han hcn with ⟨k1, k2, k3⟩ | ⟨k1, k2, k3⟩ | ⟨d, p, k1, k2, k3, k4, k5, k6⟩
    · generalize mst n bs a c = R at *
      obtain ⟨r1, r2, r3⟩ := R
      simp only at k2 k3 ⊢
      subst k2; subst k3
      repeat' (first | refine go ?_ | refine goX ?_ | refine goB ?_ | (refine goG ?_; intro g) | (refine goV ?_; intro v) | refine goE ?_ | (refine goEG ?_; intro g) | refine goD ?_ | refine goXD ?_ | (refine goDG ?_; intro g) | (refine goDV ?_; intro v) | refine d9 ?_ | fail)
      first | refine WL.callV (lives_c) ?_ | refine WD.callV (lives_c) ?_
      repeat' (first | refine go ?_ | refine goX ?_ | refine goB ?_ | (refine goG ?_; intro g) | (refine goV ?_; intro v) | refine goE ?_ | (refine goEG ?_; intro g) | refine goD ?_ | refine goXD ?_ | (refine goDG ?_; intro g) | (refine goDV ?_; intro v) | refine d9 ?_ | fail)
      exact WC.ret (Fin.v (ResE.t1 rfl rfl) meA rfl)
    · rw [k2]
      simp only
      obtain ⟨n1, n2, n3⟩ := next 0 false (by decide) ⟨fun h => (by cases h), fun _ => k3⟩
      have hx := @around_lt far 1048576 (by decide)
      repeat' (first | refine go ?_ | refine goX ?_ | refine goB ?_ | (refine goG ?_; intro g) | (refine goV ?_; intro v) | refine goE ?_ | (refine goEG ?_; intro g) | refine goD ?_ | refine goXD ?_ | (refine goDG ?_; intro g) | (refine goDV ?_; intro v) | refine d9 ?_ | fail)
      first | refine WL.callV (around_c far 1048576 h4 (by decide)) ?_ | refine WD.callV (around_c far 1048576 h4 (by decide)) ?_
      repeat' (first | refine go ?_ | refine goX ?_ | refine goB ?_ | (refine goG ?_; intro g) | (refine goV ?_; intro v) | refine goE ?_ | (refine goEG ?_; intro g) | refine goD ?_ | refine goXD ?_ | (refine goDG ?_; intro g) | (refine goDV ?_; intro v) | refine d9 ?_ | fail)
      first | refine WL.callK (rofw_c 6 (around far 1048576) 1 6 (by decide) (by decide) (by unfold B2; omega) (by decide)) ?_ | refine WD.callK (rofw_c 6 (around far 1048576) 1 6 (by decide) (by decide) (by unfold B2; omega) (by decide)) ?_ | refine LO.callM (rofw_c 6 (around far 1048576) 1 6 (by decide) (by decide) (by unfold B2; omega) (by decide)) ?_
      rintro _ _ _ ⟨m2, rfl, rfl, rfl⟩
      simp only [List.nil_append, List.cons_append]
      obtain ⟨dd, hdd⟩ : ∃ dd, dd = around far 1048576 * ((6 : Nat) : Int) := ⟨_, rfl⟩
      rw [← hdd]
      have hv2 := hv.snoc (by omega) hcn han (-dd)
      have hs2 := reach_ok hv han hcn (by omega) k1 (d := dd) (fun q hq => absurd hq (k3 q))
      have hf2 : Fit (bs ++ [(⟨c, a, -dd⟩ : Bd)]) := by unfold Fit; rw [absS_app]; simp only [absS, List.map_cons, List.map_nil, List.sum_cons, List.sum_nil] at hsa ⊢; omega
      repeat' (first | refine go ?_ | refine goX ?_ | refine goB ?_ | (refine goG ?_; intro g) | (refine goV ?_; intro v) | refine goE ?_ | (refine goEG ?_; intro g) | refine goD ?_ | refine goXD ?_ | (refine goDG ?_; intro g) | (refine goDV ?_; intro v) | refine d9 ?_ | fail)
      first | refine WL.callK (with_c 6 vb ms bs a c m2 dd (by omega)) ?_ | refine WD.callK (with_c 6 vb ms bs a c m2 dd (by omega)) ?_ | refine LO.callM (with_c 6 vb ms bs a c m2 dd (by omega)) ?_
      rintro vw _ _ ⟨mw, rfl, rfl⟩
      simp only [List.nil_append, List.cons_append]
      repeat' (first | refine go ?_ | refine goX ?_ | refine goB ?_ | (refine goG ?_; intro g) | (refine goV ?_; intro v) | refine goE ?_ | (refine goEG ?_; intro g) | refine goD ?_ | refine goXD ?_ | (refine goDG ?_; intro g) | (refine goDV ?_; intro v) | refine d9 ?_ | fail)
      first | refine WL.callK (solve_c 6 vw mw (bs ++ [⟨c, a, -dd⟩]) n hf2) ?_ | refine WD.callK (solve_c 6 vw mw (bs ++ [⟨c, a, -dd⟩]) n hf2) ?_ | refine LO.callM (solve_c 6 vw mw (bs ++ [⟨c, a, -dd⟩]) n hf2) ?_
      rintro rv bb GG ⟨ux, mx, uy, rfl, rfl, rfl⟩
      simp only [List.nil_append, List.cons_append]
      rw [slv_sol hv2 hs2]
      simp only
      repeat' (first | refine go ?_ | refine goX ?_ | refine goB ?_ | (refine goG ?_; intro g) | (refine goV ?_; intro v) | refine goE ?_ | (refine goEG ?_; intro g) | refine goD ?_ | refine goXD ?_ | (refine goDG ?_; intro g) | (refine goDV ?_; intro v) | refine d9 ?_ | fail)
      exact LoopEnd.mk (i + 1, upd ds i m1, zs.set i 0, upd is i false) ⟨by show i + 1 ≤ 3; omega, n1, n2, n3⟩ (by show 3 - (i + 1) < 3 - i; omega) suA slA (.cons (W.Has.mQset hmA hmA) sfA)
    · rw [k2] at hab ⊢
      simp only at hab ⊢
      have hd : d.natAbs ≤ 5040 := by omega
      obtain ⟨n1, n2, n3⟩ := next d true hd ⟨fun _ => ⟨p, k3, k5, k6⟩, fun h => (by cases h)⟩
      have hv2 := hv.snoc (by omega) hcn han (-d)
      have hs2 := reach_ok hv han hcn (by omega) k1 k6
      have hf2 : Fit (bs ++ [(⟨c, a, -d⟩ : Bd)]) := by unfold Fit; rw [absS_app]; simp only [absS, List.map_cons, List.map_nil, List.sum_cons, List.sum_nil] at hsa ⊢; omega
      repeat' (first | refine go ?_ | refine goX ?_ | refine goB ?_ | (refine goG ?_; intro g) | (refine goV ?_; intro v) | refine goE ?_ | (refine goEG ?_; intro g) | refine goD ?_ | refine goXD ?_ | (refine goDG ?_; intro g) | (refine goDV ?_; intro v) | refine d9 ?_ | fail)
      revert g; intro g19
      first | refine WL.callK (with_c 6 vb ms bs a c m1 d (by omega)) ?_ | refine WD.callK (with_c 6 vb ms bs a c m1 d (by omega)) ?_ | refine LO.callM (with_c 6 vb ms bs a c m1 d (by omega)) ?_
      rintro vw _ _ ⟨mw, rfl, rfl⟩
      simp only [List.nil_append, List.cons_append]
      repeat' (first | refine go ?_ | refine goX ?_ | refine goB ?_ | (refine goG ?_; intro g) | (refine goV ?_; intro v) | refine goE ?_ | (refine goEG ?_; intro g) | refine goD ?_ | refine goXD ?_ | (refine goDG ?_; intro g) | (refine goDV ?_; intro v) | refine d9 ?_ | fail)
      first | refine WL.callK (solve_c 6 vw mw (bs ++ [⟨c, a, -d⟩]) n hf2) ?_ | refine WD.callK (solve_c 6 vw mw (bs ++ [⟨c, a, -d⟩]) n hf2) ?_ | refine LO.callM (solve_c 6 vw mw (bs ++ [⟨c, a, -d⟩]) n hf2) ?_
      rintro rv bb GG ⟨ux, mx, uy, rfl, rfl, rfl⟩
      simp only [List.nil_append, List.cons_append]
      rw [slv_sol hv2 hs2]
      simp only
      have hx := @around_lt far 1000 (by decide)
      repeat' (first | refine go ?_ | refine goX ?_ | refine goB ?_ | (refine goG ?_; intro g) | (refine goV ?_; intro v) | refine goE ?_ | (refine goEG ?_; intro g) | refine goD ?_ | refine goXD ?_ | (refine goDG ?_; intro g) | (refine goDV ?_; intro v) | refine d9 ?_ | fail)
      first | refine WL.callV (around_c far 1000 h4 (by decide)) ?_ | refine WD.callV (around_c far 1000 h4 (by decide)) ?_
      obtain ⟨q, hq⟩ : ∃ q : Nat, 1 + around far 1000 = q := ⟨(1 + around far 1000).toNat, by omega⟩
      have hq1 : 0 < q := by omega
      have hq2 : q ≤ 1000 := by omega
      haveI hD : Den (6 * q) := den_mul hq1 (by omega)
      have hdq : (d * (q : Int)).natAbs ≤ 5040000 := by
        rw [Int.natAbs_mul, Int.natAbs_natCast]
        exact Nat.mul_le_mul hd hq2
      have hsq : absS bs * q ≤ 5040000 := Nat.mul_le_mul hsa hq2
      have h6q : ((6 * q : Nat) : Int) = (q : Int) * ((6 : Nat) : Int) := by omega
      repeat' (first | refine go ?_ | refine goX ?_ | refine goB ?_ | (refine goG ?_; intro g) | (refine goV ?_; intro v) | refine goE ?_ | (refine goEG ?_; intro g) | refine goD ?_ | refine goXD ?_ | (refine goDG ?_; intro g) | (refine goDV ?_; intro v) | refine d9 ?_ | fail)
      rw [hq]
      first | refine WL.callK (ofw_c (6 * q) 1 q 6 h6q (by omega) (by decide) (by unfold B2; omega)) ?_ | refine WD.callK (ofw_c (6 * q) 1 q 6 h6q (by omega) (by decide) (by unfold B2; omega)) ?_ | refine LO.callM (ofw_c (6 * q) 1 q 6 h6q (by omega) (by decide) (by unfold B2; omega)) ?_
      rintro _ _ _ ⟨m3, rfl, rfl, rfl⟩
      simp only [List.nil_append, List.cons_append]
      refine WD.fact (isQ (qv m1) (wq (6 * q) (d * (q : Int)))) (W.Has.scQ hq1 hmA) ?_
      refine WD.fact (fB (6 * q) vb ms (scB q bs)) (W.Has.scB hq1 hmA) ?_
      repeat' (first | refine go ?_ | refine goX ?_ | refine goB ?_ | (refine goG ?_; intro g) | (refine goV ?_; intro v) | refine goE ?_ | (refine goEG ?_; intro g) | refine goD ?_ | refine goXD ?_ | (refine goDG ?_; intro g) | (refine goDV ?_; intro v) | refine d9 ?_ | fail)
      first | refine WL.callK (addw_c (6 * q) m1 m3 (d * (q : Int)) (1 * ((6 : Nat) : Int)) (by unfold Lim; omega) (by unfold Lim; decide)) ?_ | refine WD.callK (addw_c (6 * q) m1 m3 (d * (q : Int)) (1 * ((6 : Nat) : Int)) (by unfold Lim; omega) (by unfold Lim; decide)) ?_ | refine LO.callM (addw_c (6 * q) m1 m3 (d * (q : Int)) (1 * ((6 : Nat) : Int)) (by unfold Lim; omega) (by unfold Lim; decide)) ?_
      rintro _ _ _ ⟨m4, rfl, rfl, rfl⟩
      simp only [List.nil_append, List.cons_append]
      have hlq : lenP (scB q bs) p = d * (q : Int) := by rw [(scB_wlk k3).2, k5]
      have hno : ¬ HasSol (scB q bs ++ [(⟨c, a, -(d * (q : Int) + 1 * ((6 : Nat) : Int))⟩ : Bd)]) := reach_no (scB_wlk k3).1 (by rw [hlq]; omega)
      obtain ⟨dq, hdqe⟩ : ∃ dq, dq = d * (q : Int) + 1 * ((6 : Nat) : Int) := ⟨_, rfl⟩
      rw [← hdqe] at hno ⊢
      have hv3 := (scB_vld (k := q) hv).snoc (by rw [scB_len]; omega) hcn han (-dq)
      have hf3 : Fit (scB q bs ++ [(⟨c, a, -dq⟩ : Bd)]) := by
        have := scB_abs (k := q) (bs := bs)
        unfold Fit; rw [absS_app, this]
        simp only [absS, List.map_cons, List.map_nil, List.sum_cons, List.sum_nil] at hsq ⊢; omega
      repeat' (first | refine go ?_ | refine goX ?_ | refine goB ?_ | (refine goG ?_; intro g) | (refine goV ?_; intro v) | refine goE ?_ | (refine goEG ?_; intro g) | refine goD ?_ | refine goXD ?_ | (refine goDG ?_; intro g) | (refine goDV ?_; intro v) | refine d9 ?_ | fail)
      first | refine WL.callK (with_c (6 * q) vb ms (scB q bs) a c m4 dq (by rw [scB_len]; omega)) ?_ | refine WD.callK (with_c (6 * q) vb ms (scB q bs) a c m4 dq (by rw [scB_len]; omega)) ?_ | refine LO.callM (with_c (6 * q) vb ms (scB q bs) a c m4 dq (by rw [scB_len]; omega)) ?_
      rintro vz _ _ ⟨mz, rfl, rfl⟩
      simp only [List.nil_append, List.cons_append]
      repeat' (first | refine go ?_ | refine goX ?_ | refine goB ?_ | (refine goG ?_; intro g) | (refine goV ?_; intro v) | refine goE ?_ | (refine goEG ?_; intro g) | refine goD ?_ | refine goXD ?_ | (refine goDG ?_; intro g) | (refine goDV ?_; intro v) | refine d9 ?_ | fail)
      first | refine WL.callK (solve_c (6 * q) vz mz (scB q bs ++ [⟨c, a, -dq⟩]) n hf3) ?_ | refine WD.callK (solve_c (6 * q) vz mz (scB q bs ++ [⟨c, a, -dq⟩]) n hf3) ?_ | refine LO.callM (solve_c (6 * q) vz mz (scB q bs ++ [⟨c, a, -dq⟩]) n hf3) ?_
      rintro rv bb GG ⟨uz, mz2, uz2, rfl, rfl, rfl⟩
      simp only [List.nil_append, List.cons_append]
      rw [slv_no hv3 hno]
      simp only
      repeat' (first | refine go ?_ | refine goX ?_ | refine goB ?_ | (refine goG ?_; intro g) | (refine goV ?_; intro v) | refine goE ?_ | (refine goEG ?_; intro g) | refine goD ?_ | refine goXD ?_ | (refine goDG ?_; intro g) | (refine goDV ?_; intro v) | refine d9 ?_ | fail)
      revert g; intro g31
      have hix := wlk_cyc k3
      refine WC.lp (σ := Nat × QM) (fun s => [(32, .int .i64 (s.1 : Int)), (31, ptr g31), (30, .int .i64 14), (27, .int .i64 0), (21, .int .i64 0), (20, up), (19, ptr g19), (16, .int .i64 (i : Int)), (15, ptr g15), (14, ptr g14), (13, ptr g13), (12, vb), (11, .int .i64 n), (4, .int .i64 far)])
        (fun s => [Ow.cells g31 37 (qcs s.2), Ow.cells g19 37 (qcs m1), Ow.cells g15 71 (bls (upd is i true)), Ow.cells g14 70 (qcells 3 (upd ds i m1)), Ow.cells g13 69 (ints L3)])
        (fun s => [isQ (qv s.2) (wq 6 (lenP bs (p.take s.1))), isQ (qv m1) (wq 6 d), mQ 6 ds zs, ge h0, fB 6 vb ms bs, sI up p]) (fun s => s.1 ≤ p.length) (fun s => p.length - s.1) (0, m00) (Nat.zero_le _) ?_ suA slA (.cons (by show Has _ (isQ (qv m00) (wq 6 0)); exact hasQ0w) sfA)
      rintro ⟨k, mk⟩ hk
      simp only at hk ⊢
      have hlt : (lenP bs (p.take k)).natAbs ≤ 32 * 5040 := Nat.le_trans (lenP_take_le p k) (Nat.mul_le_mul (by omega) hsa)
      by_cases ck : k < p.length
      · obtain ⟨j1, j2⟩ := (hix k ck).1
        have hwi := @absS_le bs (p.getD k 0).toNat
        refine WC.fact (isQ (qv (ms (p.getD k 0).toNat)) (wq 6 (bg bs (p.getD k 0).toNat).w)) (W.Has.b (W.Has.bm (v := vb) hmA) (by omega)) ?_
        repeat' (first | refine go ?_ | refine goX ?_ | refine goB ?_ | (refine goG ?_; intro g) | (refine goV ?_; intro v) | refine goE ?_ | (refine goEG ?_; intro g) | refine goD ?_ | refine goXD ?_ | (refine goDG ?_; intro g) | (refine goDV ?_; intro v) | refine d9 ?_ | fail)
        first | refine WL.callK (addw_c 6 mk (ms (p.getD k 0).toNat) (lenP bs (p.take k)) (bg bs (p.getD k 0).toNat).w (by unfold Lim; omega) (by unfold Lim; omega)) ?_ | refine WD.callK (addw_c 6 mk (ms (p.getD k 0).toNat) (lenP bs (p.take k)) (bg bs (p.getD k 0).toNat).w (by unfold Lim; omega) (by unfold Lim; omega)) ?_ | refine LO.callM (addw_c 6 mk (ms (p.getD k 0).toNat) (lenP bs (p.take k)) (bg bs (p.getD k 0).toNat).w (by unfold Lim; omega) (by unfold Lim; omega)) ?_
        rintro _ _ _ ⟨m5, rfl, rfl, rfl⟩
        simp only [List.nil_append, List.cons_append]
        rw [← lenP_take ck]
        repeat' (first | refine go ?_ | refine goX ?_ | refine goB ?_ | (refine goG ?_; intro g) | (refine goV ?_; intro v) | refine goE ?_ | (refine goEG ?_; intro g) | refine goD ?_ | refine goXD ?_ | (refine goDG ?_; intro g) | (refine goDV ?_; intro v) | refine d9 ?_ | fail)
        exact LoopEnd.mk (k + 1, m5) (by show k + 1 ≤ p.length; omega) (by show p.length - (k + 1) < p.length - k; omega) suA slA sfA
      · obtain rfl : k = p.length := by omega
        rw [List.take_of_length_le (Nat.le_refl _), k5]
        repeat' (first | refine go ?_ | refine goX ?_ | refine goB ?_ | (refine goG ?_; intro g) | (refine goV ?_; intro v) | refine goE ?_ | (refine goEG ?_; intro g) | refine goD ?_ | refine goXD ?_ | (refine goDG ?_; intro g) | (refine goDV ?_; intro v) | refine d9 ?_ | fail)
        first | refine WL.callV (samew_c 6 mk m1 d d) ?_ | refine WD.callV (samew_c 6 mk m1 d d) ?_
        rw [decide_eq_true rfl]
        repeat' (first | refine go ?_ | refine goX ?_ | refine goB ?_ | (refine goG ?_; intro g) | (refine goV ?_; intro v) | refine goE ?_ | (refine goEG ?_; intro g) | refine goD ?_ | refine goXD ?_ | (refine goDG ?_; intro g) | (refine goDV ?_; intro v) | refine d9 ?_ | fail)
        exact LoopEnd.mk (i + 1, upd ds i m1, zs.set i d, upd is i true) ⟨by show i + 1 ≤ 3; omega, n1, n2, n3⟩ (by show 3 - (i + 1) < 3 - i; omega) suA slA (.cons (W.Has.mQset hmA hmA) sfA)
  · obtain rfl : i = 3 := by omega
    have w0 : Way bs (L3.getD 0 0) (L3.getD 1 0) (zs.getD 0 0) (is 0) := hway 0 (by decide)
    have w1 : Way bs (L3.getD 1 0) (L3.getD 2 0) (zs.getD 1 0) (is 1) := hway 1 (by decide)
    have w2 : Way bs (L3.getD 0 0) (L3.getD 2 0) (zs.getD 2 0) (is 2) := hway 2 (by decide)
    have z0 := hzb 0
    have z1 := hzb 1
    have z2 := hzb 2
    refine WC.fact (isQ (qv (ds 0)) (wq 6 (zs.getD 0 0))) (W.Has.q hmA (by omega)) ?_
    refine WC.fact (isQ (qv (ds 1)) (wq 6 (zs.getD 1 0))) (W.Has.q hmA (by omega)) ?_
    refine WC.fact (isQ (qv (ds 2)) (wq 6 (zs.getD 2 0))) (W.Has.q hmA (by omega)) ?_
    rw [show bls is = [Value.bool (is 0), .bool (is 1), .bool (is 2)] from rfl]
    clear hway
    generalize is 0 = t0 at *
    generalize is 1 = t1 at *
    generalize is 2 = t2 at *
    generalize zs.getD 0 0 = y0 at *
    generalize zs.getD 1 0 = y1 at *
    generalize zs.getD 2 0 = y2 at *
    cases t0 with
    | false =>
      repeat' (first | refine go ?_ | refine goX ?_ | refine goB ?_ | (refine goG ?_; intro g) | (refine goV ?_; intro v) | refine goE ?_ | (refine goEG ?_; intro g) | refine goD ?_ | refine goXD ?_ | (refine goDG ?_; intro g) | (refine goDV ?_; intro v) | refine d9 ?_ | fail)
      first | refine WL.callV (lives_c) ?_ | refine WD.callV (lives_c) ?_
      repeat' (first | refine go ?_ | refine goX ?_ | refine goB ?_ | (refine goG ?_; intro g) | (refine goV ?_; intro v) | refine goE ?_ | (refine goEG ?_; intro g) | refine goD ?_ | refine goXD ?_ | (refine goDG ?_; intro g) | (refine goDV ?_; intro v) | refine d9 ?_ | fail)
      exact WC.ret (Fin.v (ResE.t1 rfl rfl) meA rfl)
    | true =>
      cases t1 with
      | false =>
        repeat' (first | refine go ?_ | refine goX ?_ | refine goB ?_ | (refine goG ?_; intro g) | (refine goV ?_; intro v) | refine goE ?_ | (refine goEG ?_; intro g) | refine goD ?_ | refine goXD ?_ | (refine goDG ?_; intro g) | (refine goDV ?_; intro v) | refine d9 ?_ | fail)
        first | refine WL.callV (lives_c) ?_ | refine WD.callV (lives_c) ?_
        repeat' (first | refine go ?_ | refine goX ?_ | refine goB ?_ | (refine goG ?_; intro g) | (refine goV ?_; intro v) | refine goE ?_ | (refine goEG ?_; intro g) | refine goD ?_ | refine goXD ?_ | (refine goDG ?_; intro g) | (refine goDV ?_; intro v) | refine d9 ?_ | fail)
        exact WC.ret (Fin.v (ResE.t1 rfl rfl) meA rfl)
      | true =>
        obtain ⟨rfl, hle⟩ := way_tri w0 w1 w2
        repeat' (first | refine go ?_ | refine goX ?_ | refine goB ?_ | (refine goG ?_; intro g) | (refine goV ?_; intro v) | refine goE ?_ | (refine goEG ?_; intro g) | refine goD ?_ | refine goXD ?_ | (refine goDG ?_; intro g) | (refine goDV ?_; intro v) | refine d9 ?_ | fail)
        first | refine WL.callK (addw_c 6 (ds 0) (ds 1) y0 y1 (by unfold Lim; omega) (by unfold Lim; omega)) ?_ | refine WD.callK (addw_c 6 (ds 0) (ds 1) y0 y1 (by unfold Lim; omega) (by unfold Lim; omega)) ?_ | refine LO.callM (addw_c 6 (ds 0) (ds 1) y0 y1 (by unfold Lim; omega) (by unfold Lim; omega)) ?_
        rintro _ _ _ ⟨m7, rfl, rfl, rfl⟩
        simp only [List.nil_append, List.cons_append]
        repeat' (first | refine go ?_ | refine goX ?_ | refine goB ?_ | (refine goG ?_; intro g) | (refine goV ?_; intro v) | refine goE ?_ | (refine goEG ?_; intro g) | refine goD ?_ | refine goXD ?_ | (refine goDG ?_; intro g) | (refine goDV ?_; intro v) | refine d9 ?_ | fail)
        first | refine WL.callV (cmpw_c 6 (ds 2) m7 y2 (y0 + y1) (by unfold Lim; omega) (by unfold Lim; omega)) ?_ | refine WD.callV (cmpw_c 6 (ds 2) m7 y2 (y0 + y1) (by unfold Lim; omega) (by unfold Lim; omega)) ?_
        have k1 : cmpI y2 (y0 + y1) ≤ 0 := by unfold cmpI; split <;> (try split) <;> omega
        repeat' (first | refine go ?_ | refine goX ?_ | refine goB ?_ | (refine goG ?_; intro g) | (refine goV ?_; intro v) | refine goE ?_ | (refine goEG ?_; intro g) | refine goD ?_ | refine goXD ?_ | (refine goDG ?_; intro g) | (refine goDV ?_; intro v) | refine d9 ?_ | fail)
        first | refine WL.callV (lives_c) ?_ | refine WD.callV (lives_c) ?_
        repeat' (first | refine go ?_ | refine goX ?_ | refine goB ?_ | (refine goG ?_; intro g) | (refine goV ?_; intro v) | refine goE ?_ | (refine goEG ?_; intro g) | refine goD ?_ | refine goXD ?_ | (refine goDG ?_; intro g) | (refine goDV ?_; intro v) | refine d9 ?_ | fail)
        exact WC.ret (Fin.v (ResE.t1 rfl rfl) meA rfl)
end J
end Go.Proofs.YthggloiigkbfeaaGreat
namespace Go.Proofs.YthggloiigkbfeaaGreat
open Go.ChangeShapes Go.WideShapes Go.ChangeAt Go.RowKit
open W
theorem Tryz.int3 : Tryz.prog.underlying 3 = some (.int .i64) := by kernel_rfl
theorem Tryz.sl22 : Tryz.prog.underlying 22 = some (.slice 3) := by kernel_rfl
theorem Tryz.bool4 : Tryz.prog.underlying 4 = some .bool := by kernel_rfl
theorem Tryz.one3 : Tryz.prog.cellsOf 3 = 1 := by kernel_rfl
set_option maxRecDepth 100000 in
theorem boundsReached_lifted (os : Os) (started : os.Started) (H : Type) (enc : TypeId × Value → H) :
    ReturnsInHanded {} Tryz.checked os 9 .any (Rows.boundsReachedSpec.pre6 enc Tryz.prog Tryz.f9 Rows.boundsReachedRow.domain false) (Rows.boundsReachedSpec.post enc Tryz.prog Tryz.f9 false true false false) := by
  refine returnsInHanded_of_change (C := Tryz.checked) Tryz.own started (by kernel_rfl) Tryz.func9
    (ChangeSpec.witness6 (enc := enc) (C := Tryz.checked) false ⟨#[], #[.slice none 0 0, .int .i64 0, .int .i64 0, .int .i64 0, .int .i64 0], []⟩ 8 (by kernel_rfl) (by kernel_rfl) (by kernel_rfl) (by kernel_rfl)) ?_
  intro V1 base args ds gs before hval0 hW hcnd _
  have hval : ∀ (j : Nat) t v, Tryz.f9.params[j]? = some t → args[j]? = some v → Value.okWide Tryz.prog V1 .any base t v := hval0
  have hW' := hW
  obtain ⟨p, q, hA0, hV, rfl, hfz, hnd⟩ := hW
  have hA : DataW.TrodAll enc Tryz.prog V1 0 (fun _ => true) true Tryz.f9.params.toList args.toList ds p := hA0
  rw [Tryz.params9] at hA hval
  obtain ⟨args⟩ := args
  obtain ⟨v0, a1, d0, e1, p0, q1, rfl, rfl, rfl, h0, hA⟩ := trodAll_cons hA
  obtain ⟨v1, a2, d1, e2, p1, q2, rfl, rfl, rfl, h1, hA⟩ := trodAll_cons hA
  obtain ⟨v2, a3, d2, e3, p2, q3, rfl, rfl, rfl, h2, hA⟩ := trodAll_cons hA
  obtain ⟨v3, a4, d3, e4, p3, q4, rfl, rfl, rfl, h3, hA⟩ := trodAll_cons hA
  obtain ⟨v4, a5, d4, e5, p4, q5, rfl, rfl, rfl, h4, hA⟩ := trodAll_cons hA
  obtain ⟨rfl, rfl, rfl⟩ := trodAll_nil hA
  obtain ⟨rfl, rfl⟩ := trodVars_none hV
  obtain ⟨l0, hl0, f0, g0⟩ := arg_ints Tryz.sl22 Tryz.int3 Tryz.one3 (hval 0 22 v0 rfl rfl) h0
  obtain ⟨n1, rfl, hl1, g1⟩ := arg_int Tryz.int3 (hval 1 3 v1 rfl rfl) h1
  obtain ⟨n2, rfl, hl2, g2⟩ := arg_int Tryz.int3 (hval 2 3 v2 rfl rfl) h2
  obtain ⟨n3, rfl, hl3, g3⟩ := arg_int Tryz.int3 (hval 3 3 v3 rfl rfl) h3
  obtain ⟨n4, rfl, hl4, g4⟩ := arg_int Tryz.int3 (hval 4 3 v4 rfl rfl) h4
  simp only [List.append_nil] at hW'
  refine (law_calls (J.reached_c v0 l0 n1 n2 n3 n4 hl0 hl1 hl2 hl3 hl4) (fun g hg => ?_)).mono fun e V2 hh2 => ?_
  · simp only [List.mem_cons, List.not_mem_nil, or_false] at hg
    subst hg
    exact f0
  · obtain ⟨he, hr, hE⟩ := hh2
    refine ⟨_, he, post_law hW' (fun _ _ _ => trodAll_mk1 (shut_bool Tryz.bool4 _)) (fun sp hsp => ?_) (fun _ => rfl) hr hE (ok_one (by kernel_rfl) rfl (okWide_bool_mk Tryz.bool4 _))⟩
    have := (AgainAll.cons g0 (AgainAll.cons g1 (AgainAll.cons g2 (AgainAll.cons g3 (AgainAll.cons g4 AgainAll.nil))))) V2 sp hE (by simpa using hsp)
    simp only [List.append_nil] at this
    show DataW.TrodAll enc Tryz.prog V2 0 sp true Tryz.f9.params.toList _ _ _
    rw [Tryz.params9]
    exact this
theorem boundsReached_holds : Rows.BoundsReachedSaid :=
  OpenClaim.holds_of_wide 9 Tryz.f9 rfl rfl rfl rfl rfl rfl rfl ⟨rfl, rfl, rfl, rfl, rfl⟩ rfl rfl rfl rfl rfl (by kernel_rfl) Tryz.func9 (by kernel_rfl)
    (of_decide_eq_true (by kernel_rfl)) (by unfold Func.isWrapper; first | (rw [if_pos (by decide +kernel)]; kernel_rfl) | (rw [if_neg (by decide +kernel)]; exact ⟨rfl, rfl⟩))
    (fun os started H enc _ => boundsReached_lifted os started H enc)
#print axioms boundsReached_holds
end Go.Proofs.YthggloiigkbfeaaGreat
