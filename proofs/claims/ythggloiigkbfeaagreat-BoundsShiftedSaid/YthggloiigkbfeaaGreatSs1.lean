/- The law BoundsShifted returns true for every input and leaves its arguments as they were. Conditions: none. -/
import Derived.Test.YthggloiigkbfeaaGreatBase6
set_option linter.unusedVariables false
set_option linter.unusedSimpArgs false
set_option linter.unusedSectionVars false
namespace Go.Proofs.YthggloiigkbfeaaGreat
open W Go.RowKit
theorem Vld.valid {n : Nat} {bs : List Bd} (h : Vld n bs) : validB n bs = true := validB_t (by have := h.n1; omega) (by have := h.n2; omega) h.l h.ok
theorem sysL_get {l : List Int} {most : Int} {i : Nat} (h : i < (sysL l most).length) : bg (sysL l most) i = sysB l (sysN l most) i := by
  unfold sysL at h ⊢
  rw [sysT_len] at h
  exact sysT_get _ _ h
/-- the laws' systems are valid -/
theorem sys_vld (l : List Int) {most : Int} (h0 : 0 < most) (h1 : most ≤ 8) : ∃ n : Nat, sysN l most = n ∧ n ≤ 8 ∧ Vld n (sysL l most) := by
  have h := sysN_le l h0
  refine ⟨(sysN l most).toNat, by omega, by omega, ⟨by omega, by omega, Nat.le_trans (sysL_len l most) (by decide), fun i hi => ?_⟩⟩
  rw [sysL_get hi, show (((sysN l most).toNat : Nat) : Int) = sysN l most by omega]
  exact ⟨atP_lt h.1, atP_lt h.1⟩
theorem slv_sol {n : Nat} {bs : List Bd} (hv : Vld n bs) (h : HasSol bs) : slv n bs = (jacs bs n n, [], 0) := by
  rw [slv_same]; unfold rslv
  rw [if_pos hv.valid, Int.toNat_natCast, if_pos ((sol_iff_has hv).2 h)]
theorem slv_no {n : Nat} {bs : List Bd} (hv : Vld n bs) (h : ¬ HasSol bs) : slv n bs = ([], cycP n bs, 14) := by
  rw [slv_same]; unfold rslv
  rw [if_pos hv.valid, Int.toNat_natCast, if_neg (fun c => h ((sol_iff_has hv).1 c)), ← cyc_same hv h]
theorem chk_x {n : Nat} {bs : List Bd} (hv : Vld n bs) (x : List Int) : chk n bs x [] = if x.length = n ∧ Sol bs x then 0 else 22 := by
  rw [chk_same]; unfold rchk
  rw [if_pos hv.valid, if_pos (show ([] : List Int).length = 0 from rfl), Int.toNat_natCast]
theorem chk_l {n : Nat} {bs : List Bd} (hv : Vld n bs) {l : List Int} (hl : 0 < l.length) : chk n bs [] l = if Idx bs l ∧ Clo bs l ∧ lenP bs l < 0 then 0 else 22 := by
  rw [chk_same]; unfold rchk
  rw [if_pos hv.valid, if_neg (by omega)]
  by_cases h : Idx bs l ∧ Clo bs l ∧ lenP bs l < 0
  · rw [if_pos h, if_pos ⟨h.1, h.2.1, rfl, h.2.2⟩]
  · rw [if_neg h, if_neg (fun c => h ⟨c.1, c.2.1, c.2.2.2⟩)]
theorem absS_set_le (bs : List Bd) (k : Nat) (b : Bd) : absS (bs.set k b) ≤ absS bs + b.w.natAbs := by
  induction bs generalizing k with
  | nil => simp [absS]
  | cons a bs ih =>
    cases k with
    | zero => simp only [List.set_cons_zero, absS, List.map_cons, List.sum_cons]; omega
    | succ k =>
      have := ih k
      simp only [List.set_cons_succ, absS, List.map_cons, List.sum_cons] at this ⊢; omega
theorem Vld.setw {n : Nat} {bs : List Bd} (hv : Vld n bs) (k : Nat) (z : Int) : Vld n (bs.set k { bg bs k with w := z }) := by
  refine ⟨hv.n1, hv.n2, by rw [List.length_set]; exact hv.l, fun i hi => ?_⟩
  rw [List.length_set] at hi
  by_cases c : k = i
  · subst c
    have := hv.ok k hi
    have e : bg (bs.set k { bg bs k with w := z }) k = { bg bs k with w := z } := by simp [bg, List.getD_eq_getElem?_getD, hi]
    rw [e]; exact this
  · have e : bg (bs.set k { bg bs k with w := z }) i = bg bs i := by
      simp only [bg, List.getD_eq_getElem?_getD]; rw [List.getElem?_set_ne c]
    rw [e]; exact hv.ok i hi
theorem bg_app {bs : List Bd} {e : Bd} {i : Nat} (h : i < bs.length) : bg (bs ++ [e]) i = bg bs i := by
  simp only [bg, List.getD_eq_getElem?_getD]; rw [List.getElem?_append_left h]
theorem bg_last {bs : List Bd} {e : Bd} : bg (bs ++ [e]) bs.length = e := by simp [bg, List.getD_eq_getElem?_getD]
theorem Vld.snoc {n : Nat} {bs : List Bd} (hv : Vld n bs) (hl : bs.length < 2048) {a c : Nat} (ha : a < n) (hc : c < n) (w : Int) : Vld n (bs ++ [⟨a, c, w⟩]) := by
  refine ⟨hv.n1, hv.n2, by simp; omega, fun i hi => ?_⟩
  by_cases h : i < bs.length
  · rw [bg_app h]; exact hv.ok i h
  · obtain rfl : i = bs.length := by simp at hi; omega
    rw [bg_last]; refine ⟨⟨?_, ?_⟩, ?_, ?_⟩ <;> simp only <;> omega
/-! ## Lattice -/
theorem SolF.sub {a b : List Bd} {f : Nat → Int} (h : SolF (a ++ b) f) : SolF a f := fun x hx => h x (List.mem_append_left _ hx)
theorem lat_le {n : Nat} {bs : List Bd} {b : Bd} (hv : Vld n bs) (hv2 : Vld n (bs ++ [b])) (h : HasSol (bs ++ [b])) (i : Nat) (hi : i < n) : vl (jacs (bs ++ [b]) n n) i ≤ vl (jacs bs n n) i :=
  jacs_great hv (SolF.sub (sol_iff.1 ((sol_iff_has hv2).2 h))) (fun v _ => jacs_le0 hv2 n v) n i hi
theorem SolF.shift {bs : List Bd} {f : Nat → Int} (h : SolF bs f) (s : Int) : SolF bs (fun i => f i + s) := fun b hb => by have := h b hb; show f b.to.toNat + s ≤ f b.fr.toNat + s + b.w; omega
theorem SolF.max {bs : List Bd} {f k : Nat → Int} (h : SolF bs f) (h2 : SolF bs k) : SolF bs (fun i => if k i < f i then f i else k i) := fun b hb => by
  have h3 := h b hb
  have h4 := h2 b hb
  show (if k b.to.toNat < f b.to.toNat then f b.to.toNat else k b.to.toNat) ≤ (if k b.fr.toNat < f b.fr.toNat then f b.fr.toNat else k b.fr.toNat) + b.w
  split <;> split <;> omega
theorem SolF.min {bs : List Bd} {f k : Nat → Int} (h : SolF bs f) (h2 : SolF bs k) : SolF bs (fun i => if k i < f i then k i else f i) := fun b hb => by
  have h3 := h b hb
  have h4 := h2 b hb
  show (if k b.to.toNat < f b.to.toNat then k b.to.toNat else f b.to.toNat) ≤ (if k b.fr.toNat < f b.fr.toNat then k b.fr.toNat else f b.fr.toNat) + b.w
  split <;> split <;> omega
/-- a solution az a list -/
theorem sol_list {n : Nat} {bs : List Bd} (hv : Vld n bs) {f : Nat → Int} (h : SolF bs f) : Sol bs ((List.range n).map f) := by
  refine sol_iff.2 fun b hb => ?_
  have h1 := hv.tos b hb
  have h2 := hv.frs b hb
  have h3 := h b hb
  simp only [vl, List.getD_eq_getElem?_getD, List.getElem?_map, List.getElem?_range h1, List.getElem?_range h2, Option.map_some, Option.getD_some]
  exact h3
/-! ## A bound made stricter, a cycle made weaker -/
theorem not_sol_set {bs : List Bd} {x : List Int} {k : Nat} (hk : k < bs.length) {w : Int} (hw : w < vl x (bg bs k).to.toNat - vl x (bg bs k).fr.toNat) : ¬ Sol (bs.set k { bg bs k with w := w }) x := by
  intro h
  have := h k (by rw [List.length_set]; exact hk)
  simp only [bg, List.getD_eq_getElem?_getD, List.getElem?_set_self hk, Option.getD_some] at this hw
  omega
theorem wlk_cyc {bs : List Bd} {l : List Int} {u v : Int} (h : Wlk bs u l v) : ∀ i, i < l.length → (0 ≤ l.getD i 0 ∧ l.getD i 0 < bs.length) ∧ (bg bs (l.getD i 0).toNat).to = (if i + 1 = l.length then v else (bg bs (l.getD (i + 1) 0).toNat).fr) := by
  induction l generalizing u with
  | nil => intro i hi; simp at hi
  | cons a l ih =>
    obtain ⟨h1, h2, h3⟩ := h
    intro i hi
    cases i with
    | zero =>
      refine ⟨h1, ?_⟩
      cases l with
      | nil => exact h3
      | cons c l => rw [if_neg (by simp)]; exact h3.2.1.symm
    | succ i =>
      have := ih h3 i (by simpa using hi)
      simpa using this
theorem next_eq' {n i : Nat} (h : i < n) : (((i : Int) + 1) % (n : Int)).toNat = if i + 1 = n then 0 else i + 1 := by
  by_cases c : i + 1 = n
  · rw [if_pos c, show (i : Int) + 1 = n by omega, Int.emod_self]; rfl
  · rw [if_neg c, Int.emod_eq_of_lt (by omega) (by omega)]; omega
theorem neg_idx {bs : List Bd} {m : Nat} {l : List Int} (h : Neg bs m l) : Idx bs l ∧ Clo bs l ∧ lenP bs l < 0 := by
  obtain ⟨_, h2, u, h3⟩ := h
  have h4 := wlk_cyc h3
  refine ⟨fun i hi => (h4 i hi).1, fun i hi => ?_, h2⟩
  rw [(h4 i hi).2]
  unfold nxi
  rw [next_eq' hi]
  by_cases c : i + 1 = l.length
  · rw [if_pos c, if_pos c]
    cases l with
    | nil => simp at hi
    | cons a l => exact h3.2.1.symm
  · rw [if_neg c, if_neg c]
theorem lenP_set {bs : List Bd} {k : Nat} (hk : k < bs.length) (d : Int) : ∀ l : List Int, (∀ x ∈ l, 0 ≤ x) → l.Nodup → lenP (bs.set k { bg bs k with w := (bg bs k).w + d }) l = lenP bs l + (if (k : Int) ∈ l then d else 0) := by
  intro l
  induction l with
  | nil => intro _ _; simp [lenP]
  | cons a l ih =>
    intro h1 h2
    have h3 := ih (fun x hx => h1 x (List.mem_cons_of_mem _ hx)) (List.nodup_cons.1 h2).2
    have h4 := (List.nodup_cons.1 h2).1
    have ha := h1 a (List.mem_cons_self)
    rw [lenP_cons, lenP_cons, h3]
    by_cases c : a.toNat = k
    · have hak : (k : Int) = a := by omega
      have e : (bg (bs.set k { bg bs k with w := (bg bs k).w + d }) a.toNat).w = (bg bs k).w + d := by
        rw [c]; simp [bg, List.getD_eq_getElem?_getD, hk]
      rw [e, c, hak, if_neg h4, if_pos (List.mem_cons_self)]; omega
    · have e : bg (bs.set k { bg bs k with w := (bg bs k).w + d }) a.toNat = bg bs a.toNat := by
        simp only [bg, List.getD_eq_getElem?_getD]; rw [List.getElem?_set_ne (fun h => c h.symm)]
      have hm : ((k : Int) ∈ a :: l) ↔ (k : Int) ∈ l := by
        rw [List.mem_cons]; exact ⟨fun h => h.elim (fun h => absurd (by omega) c) id, Or.inr⟩
      rw [e]; simp only [hm]; omega
theorem cyc_nodup {n : Nat} {bs : List Bd} (hv : Vld n bs) (h : ¬ HasSol bs) : ∃ m, 0 < m ∧ m ≤ n ∧ Neg bs m (cycP n bs) ∧ (cycP n bs).Nodup := by
  obtain ⟨m, hm⟩ := neg_min ((neg_iff hv).2 h)
  have h1 := (cycP_spec hv hm).1
  refine ⟨m, hm.pos, hm.le hv, h1, ?_⟩
  have := hm.nodup h1
  unfold frs at this
  exact List.Pairwise.of_map _ (fun a b hab e => hab (by rw [e])) this
/-- the changed cycle is refused -/
theorem cyc_weak {n : Nat} {bs : List Bd} (hv : Vld n bs) (h : ¬ HasSol bs) {j : Nat} (hj : j < (cycP n bs).length) (hv2 : Vld n (bs.set ((cycP n bs).getD j 0).toNat { bg bs ((cycP n bs).getD j 0).toNat with w := (bg bs ((cycP n bs).getD j 0).toNat).w - lenP bs (cycP n bs) })) :
    chk n (bs.set ((cycP n bs).getD j 0).toNat { bg bs ((cycP n bs).getD j 0).toNat with w := (bg bs ((cycP n bs).getD j 0).toNat).w - lenP bs (cycP n bs) }) [] (cycP n bs) = 22 := by
  obtain ⟨m, hm0, hmn, hn, hd⟩ := cyc_nodup hv h
  have hi := (neg_idx hn).1
  have hpos : ∀ x ∈ cycP n bs, 0 ≤ x := fun x hx => by
    obtain ⟨i, h1, rfl⟩ := List.getElem_of_mem hx
    have := (hi i h1).1
    simpa [List.getD_eq_getElem?_getD, h1] using this
  have hk := hi j hj
  have hmem : (((cycP n bs).getD j 0).toNat : Int) ∈ cycP n bs := by
    rw [Int.toNat_of_nonneg hk.1, List.getD_eq_getElem?_getD, List.getElem?_eq_getElem hj]
    exact List.getElem_mem _
  rw [chk_l hv2 (by omega), if_neg]
  rintro ⟨_, _, h3⟩
  have := lenP_set (bs := bs) (k := ((cycP n bs).getD j 0).toNat) (by omega) (- lenP bs (cycP n bs)) (cycP n bs) hpos hd
  rw [if_pos hmem] at this
  rw [Int.sub_eq_add_neg, this] at h3
  omega
end Go.Proofs.YthggloiigkbfeaaGreat
namespace Go.Proofs.YthggloiigkbfeaaGreat
open W Go.RowKit
/-- each bound grows by the difference of its unknowns' numbers -/
def shB (f : Nat → Int) (bs : List Bd) : List Bd := bs.map fun b => { b with w := b.w + (f b.to.toNat - f b.fr.toNat) }
section
variable {f : Nat → Int} {bs : List Bd} {n : Nat}
theorem shB_len : (shB f bs).length = bs.length := by simp [shB]
theorem shB_get {i : Nat} (h : i < bs.length) : bg (shB f bs) i = { bg bs i with w := (bg bs i).w + (f (bg bs i).to.toNat - f (bg bs i).fr.toNat) } := by
  unfold shB bg; simp [List.getD_eq_getElem?_getD, h]
theorem shB_fr (i : Nat) : (bg (shB f bs) i).fr = (bg bs i).fr := by
  by_cases h : i < bs.length
  · rw [shB_get h]
  · unfold shB bg; simp [List.getD_eq_getElem?_getD, h]
theorem shB_to (i : Nat) : (bg (shB f bs) i).to = (bg bs i).to := by
  by_cases h : i < bs.length
  · rw [shB_get h]
  · unfold shB bg; simp [List.getD_eq_getElem?_getD, h]
theorem wlk_sh {l : List Int} : ∀ {u v : Int}, Wlk (shB f bs) u l v ↔ Wlk bs u l v := by
  induction l with
  | nil => intro u v; exact Iff.rfl
  | cons i l ih =>
    intro u v
    unfold Wlk
    rw [shB_len, shB_fr, shB_to, ih]
theorem lenP_sh {l : List Int} : ∀ {u v : Int}, Wlk bs u l v → lenP (shB f bs) l = lenP bs l + (f v.toNat - f u.toNat) := by
  induction l with
  | nil => intro u v h; have : u = v := h; subst this; simp [lenP]
  | cons i l ih =>
    intro u v h
    obtain ⟨h1, h2, h3⟩ := h
    rw [lenP_cons, lenP_cons, ih h3, shB_get (by omega)]
    subst h2
    simp only; omega
theorem neg_sh {m : Nat} {l : List Int} : Neg (shB f bs) m l ↔ Neg bs m l := by
  unfold Neg
  constructor
  · rintro ⟨h1, h2, u, h3⟩
    have h4 := wlk_sh.1 h3
    rw [lenP_sh h4] at h2
    exact ⟨h1, by omega, u, h4⟩
  · rintro ⟨h1, h2, u, h3⟩
    refine ⟨h1, ?_, u, wlk_sh.2 h3⟩
    rw [lenP_sh h3]; omega
theorem vld_sh (hv : Vld n bs) : Vld n (shB f bs) := ⟨hv.n1, hv.n2, by rw [shB_len]; exact hv.l, fun i hi => by
  rw [shB_len] at hi; rw [shB_get hi]; exact hv.ok i hi⟩
theorem has_sh : HasSol (shB f bs) ↔ HasSol bs := by
  constructor
  · rintro ⟨g, h⟩
    refine ⟨fun i => g i - f i, fun b hb => ?_⟩
    have := h _ (List.mem_map_of_mem hb)
    simp only at this ⊢; omega
  · rintro ⟨g, h⟩
    refine ⟨fun i => g i + f i, fun b hb => ?_⟩
    obtain ⟨c, hc, rfl⟩ := List.mem_map.1 hb
    have := h c hc
    simp only; omega
theorem cyc_sh (hv : Vld n bs) (h : ¬ HasSol bs) : cycP n (shB f bs) = cycP n bs := by
  obtain ⟨m, hm⟩ := neg_min ((neg_iff hv).2 h)
  have hm' : NegMin (shB f bs) m := ⟨by obtain ⟨l, hl⟩ := hm.1; exact ⟨l, neg_sh.2 hl⟩, fun k l hk => hm.2 k l (neg_sh.1 hk)⟩
  exact ((cycP_spec (vld_sh hv) hm').congr fun q => neg_sh).eq (cycP_spec hv hm)
theorem slv_sh (hv : Vld n bs) : (slv n (shB f bs)).2 = (slv n bs).2 := by
  by_cases h : HasSol bs
  · rw [slv_sol hv h, slv_sol (vld_sh hv) (has_sh.2 h)]
  · rw [slv_no hv h, slv_no (vld_sh hv) (fun c => h (has_sh.1 c)), cyc_sh hv h]
theorem tos_sh {l : List Int} : tos (shB f bs) l = tos bs l := by
  unfold tos; exact List.map_congr_left fun i _ => shB_to _
theorem cmp_sh {to : Int} {met q : List Int} : Cmp (shB f bs) to met q ↔ Cmp bs to met q := by
  unfold Cmp; rw [tos_sh, wlk_sh]
theorem bett_sh {a b : List Int} {u v : Int} (h1 : Wlk bs u a v) (h2 : Wlk bs u b v) : bett (shB f bs) a b = bett bs a b := by
  unfold bett
  rw [lenP_sh h1, lenP_sh h2]
  exact decide_eq_decide.2 (by constructor <;> intro h <;> omega)
theorem flw_sh (hv : Vld n bs) (to : Int) {a : Nat} (ha : a < n) : flwP (shB f bs) to n [] [(a : Int)] none = flwP bs to n [] [(a : Int)] none := by
  obtain ⟨f1, _, f3⟩ := flw_spec hv to n [] [(a : Int)] none (by simp) (by simp) (fun x hx => by rw [List.mem_singleton] at hx; subst hx; omega) (by simp; omega)
  obtain ⟨g1, _, g3⟩ := flw_spec (vld_sh (f := f) hv) to n [] [(a : Int)] none (by simp) (by simp) (fun x hx => by rw [List.mem_singleton] at hx; subst hx; omega) (by simp; omega)
  rcases f3 with f3 | ⟨p, p1, p2⟩
  · rcases g3 with g3 | ⟨q, q1, q2⟩
    · rw [f3, g3]
    · obtain ⟨b, h1, _⟩ := f1 q (cmp_sh.1 q1)
      rw [f3] at h1; cases h1
  · rcases g3 with g3 | ⟨q, q1, q2⟩
    · obtain ⟨b, h1, _⟩ := g1 p (cmp_sh.2 p1)
      rw [g3] at h1; cases h1
    · obtain ⟨b, h1, h2⟩ := f1 q (cmp_sh.1 q1)
      obtain ⟨c, h3, h4⟩ := g1 p (cmp_sh.2 p1)
      rw [p2] at h1
      rw [q2] at h3
      simp only [List.nil_append, Option.some.injEq] at *
      subst h1; subst h3
      rw [bett_sh p1.1 (cmp_sh.1 q1).1] at h4
      rw [p2, q2, bett_anti h2 h4]
theorem mst_sh (hv : Vld n bs) {a b : Nat} (ha : a < n) (hb : b < n) : (mst n (shB f bs) a b).2 = (mst n bs a b).2 ∧ ((mst n bs a b).2.2 = 0 → (mst n (shB f bs) a b).1 = (mst n bs a b).1 + (f b - f a)) := by
  have hv2 := vld_sh (f := f) hv
  rw [mst_same, mst_same]
  unfold rmst
  rw [if_pos (show validB n (shB f bs) = true ∧ (0 ≤ (a : Int) ∧ (a : Int) < n) ∧ 0 ≤ (b : Int) ∧ (b : Int) < n from ⟨hv2.valid, by omega, by omega⟩), if_pos (show validB n bs = true ∧ (0 ≤ (a : Int) ∧ (a : Int) < n) ∧ 0 ≤ (b : Int) ∧ (b : Int) < n from ⟨hv.valid, by omega, by omega⟩)]
  simp only [Int.toNat_natCast]
  by_cases h : HasSol bs
  · rw [if_pos ((sol_iff_has hv).2 h), if_pos ((sol_iff_has hv2).2 (has_sh.2 h)), flw_sh hv _ ha]
    obtain ⟨f1, _, f3⟩ := flw_spec hv (b : Int) n [] [(a : Int)] none (by simp) (by simp) (fun x hx => by rw [List.mem_singleton] at hx; subst hx; omega) (by simp; omega)
    rcases f3 with f3 | ⟨p, p1, p2⟩
    · rw [f3]; exact ⟨rfl, fun h => by simp at h⟩
    · rw [p2]
      refine ⟨rfl, fun _ => ?_⟩
      have := lenP_sh (f := f) p1.1
      simpa using this
  · rw [if_neg (show ¬ Sol bs (jacs bs n n) from fun c => h ((sol_iff_has hv).1 c)), if_neg (show ¬ Sol (shB f bs) (jacs (shB f bs) n n) from fun c => h (has_sh.1 ((sol_iff_has hv2).1 c))), ← cyc_same hv h, ← cyc_same hv2 (fun c => h (has_sh.1 c)), cyc_sh hv h]
    exact ⟨rfl, fun h => by simp at h⟩
end
end Go.Proofs.YthggloiigkbfeaaGreat
namespace Go.Proofs.YthggloiigkbfeaaGreat
open W Go.RowKit
section
variable {n : Nat} {bs : List Bd} (hv : Vld n bs) {a b : Nat} (ha : a < n) (hb : b < n)
include hv ha hb
/-- a way can be made short -/
theorem short_all (hs : HasSol bs) : ∀ (L : Nat) (q : List Int), q.length ≤ L → Wlk bs a q b → ∃ r, r.length < n ∧ Wlk bs a r b ∧ lenP bs r ≤ lenP bs q := by
  intro L
  induction L with
  | zero =>
    intro q hq hw
    exact ⟨q, by have := hv.n1; omega, hw, Int.le_refl _⟩
  | succ L ih =>
    intro q hq hw
    by_cases c : q.length < n
    · exact ⟨q, c, hw, Int.le_refl _⟩
    have cut : ∀ p c s w, q = p ++ c ++ s → c ≠ [] → Wlk bs a p w → Wlk bs w c w → Wlk bs w s b → ∃ r, r.length < n ∧ Wlk bs a r b ∧ lenP bs r ≤ lenP bs q := by
      intro p c s w he hc w1 w2 w3
      have hlc : 0 < c.length := List.length_pos_iff.2 hc
      have hnn : ¬ lenP bs c < 0 := fun h => (show Neg bs c.length c from ⟨rfl, h, w, w2⟩).no hs
      have hl : (p ++ s).length ≤ L := by rw [he] at hq; simp only [List.length_append] at hq ⊢; omega
      obtain ⟨r, r1, r2, r3⟩ := ih (p ++ s) hl (Wlk.app.2 ⟨w, w1, w3⟩)
      refine ⟨r, r1, r2, ?_⟩
      rw [he, lenP_app, lenP_app]
      rw [lenP_app] at r3; omega
    have hn : ¬ (frs bs q ++ [(b : Int)]).Nodup := by
      intro h
      have := nodup_le (n := n) h (fun x hx => by
        rcases List.mem_append.1 hx with hx | hx
        · exact frs_in hv hw x hx
        · rw [List.mem_singleton] at hx; subst hx; omega)
      simp [frs] at this; omega
    by_cases hd : (frs bs q).Nodup
    · have hm : (b : Int) ∈ frs bs q := Classical.byContradiction fun h => hn (List.nodup_append.2 ⟨hd, by simp, fun x hx y hy he => by
        rw [List.mem_singleton] at hy; subst hy; subst he; exact h hx⟩)
      obtain ⟨i, hi, he⟩ := List.mem_map.1 hm
      obtain ⟨p, s, rfl⟩ := List.append_of_mem hi
      obtain ⟨w, w1, w2⟩ := Wlk.app.1 hw
      have hwb : w = b := by rw [← w2.2.1]; exact he
      subst hwb
      exact cut p (i :: s) [] b (by simp) (by simp) w1 w2 rfl
    · obtain ⟨p, c, s, w, h1, h2, h3, h4, h5, h6⟩ := frs_split hd hw
      exact cut p c s w h1 h2 h4 h5 h6
/-- what Most answers on a valid system -/
theorem mst_cases : (¬ HasSol bs ∧ (mst n bs a b).1 = 0 ∧ (mst n bs a b).2.2 = 14) ∨ (HasSol bs ∧ mst n bs a b = (0, [], 6) ∧ ∀ q, ¬ Wlk bs a q b) ∨
    ∃ d p, HasSol bs ∧ mst n bs a b = (d, p, 0) ∧ Wlk bs a p b ∧ p.length < n ∧ lenP bs p = d ∧ ∀ q, Wlk bs a q b → d ≤ lenP bs q := by
  by_cases hs : HasSol bs
  · have hm : mst n bs a b = (match mostK n bs a b with
      | none => (0, [], 6)
      | some k => (mostD n bs a b k, fstP bs (tabL n bs b n) (fun x => decide (x = mostD n bs a b k)) k a 0 [], 0)) := by
      unfold mst
      rw [if_pos ⟨hv.valid, by omega, by omega⟩]
      simp only [Int.toNat_natCast]
      rw [great_some hv hs]
      rfl
    rcases most_same hv ha hb hs with ⟨h1, h2⟩ | ⟨k, h1, h2, h3, h4, h5⟩
    · refine .inr (.inl ⟨hs, by rw [hm, h1], fun q hq => ?_⟩)
      obtain ⟨r, r1, r2, _⟩ := short_all hv ha hb hs q.length q (Nat.le_refl _) hq
      rcases mostK_spec n bs a b with ⟨_, g2⟩ | ⟨k, d, g1, _⟩
      · obtain ⟨e, e1, _⟩ := tab_le hv hb r.length a r rfl r2
        rw [g2 _ r1] at e1; cases e1
      · rw [h1] at g1; cases g1
    · obtain ⟨w1, w2⟩ := h4.short hv ha hb
      refine .inr (.inr ⟨_, _, hs, by rw [hm, h1], w1, w2, h3, fun q hq => ?_⟩)
      obtain ⟨r, r1, r2, r3⟩ := short_all hv ha hb hs q.length q (Nat.le_refl _) hq
      have := h5 r r1 r2
      omega
  · refine .inl ⟨hs, ?_⟩
    unfold mst
    rw [if_pos ⟨hv.valid, by omega, by omega⟩]
    simp only [Int.toNat_natCast]
    rw [great_none hv hs]
    exact ⟨rfl, rfl⟩
theorem mst_sml (hs : absS bs ≤ 13500) : (mst n bs a b).1.natAbs ≤ 432000 := by
  rcases mst_cases hv ha hb with ⟨_, h, _⟩ | ⟨_, h, _⟩ | ⟨d, p, _, h, _, h2, h3, _⟩
  · rw [h]; decide
  · rw [h]; decide
  · rw [h]
    have h4 := @lenP_le bs p
    have h6 := hv.n2
    have h7 : p.length * absS bs ≤ 32 * 13500 := Nat.mul_le_mul (by omega) hs
    rw [h3] at h4
    show d.natAbs ≤ 432000
    omega
end
/-! ## A further bound -/
theorem wlk_app {bs : List Bd} {e : Bd} {l : List Int} : ∀ {u v : Int}, Wlk (bs ++ [e]) u l v → (∀ i ∈ l, i.toNat ≠ bs.length) → Wlk bs u l v ∧ lenP (bs ++ [e]) l = lenP bs l := by
  induction l with
  | nil => intro u v h _; exact ⟨h, rfl⟩
  | cons i l ih =>
    intro u v h hi
    obtain ⟨h1, h2, h3⟩ := h
    have hc := hi i (List.mem_cons_self)
    have hl : (bs ++ [e]).length = bs.length + 1 := by simp
    have hg : bg (bs ++ [e]) i.toNat = bg bs i.toNat := bg_app (by omega)
    obtain ⟨g1, g2⟩ := ih h3 (fun j hj => hi j (List.mem_cons_of_mem _ hj))
    rw [hg] at h2 g1
    exact ⟨⟨by omega, h2, g1⟩, by rw [lenP_cons, lenP_cons, g2, hg]⟩
/-- a distance that no way is shorter than can be asked for -/
theorem reach_ok {n : Nat} {bs : List Bd} (hv : Vld n bs) {a c : Nat} (ha : a < n) (hc : c < n) (hl : bs.length < 2048) (hs : HasSol bs) {d : Int} (hd : ∀ q, Wlk bs a q c → d ≤ lenP bs q) : HasSol (bs ++ [⟨c, a, -d⟩]) := by
  have hv2 : Vld n (bs ++ [⟨c, a, -d⟩]) := by
    refine ⟨hv.n1, hv.n2, by simp; omega, fun i hi => ?_⟩
    by_cases h : i < bs.length
    · rw [bg_app h]; exact hv.ok i h
    · obtain rfl : i = bs.length := by simp at hi; omega
      rw [bg_last]; refine ⟨⟨?_, ?_⟩, ?_, ?_⟩ <;> simp only <;> omega
  refine Classical.byContradiction fun hn => ?_
  obtain ⟨m, hm⟩ := neg_min ((neg_iff hv2).2 hn)
  obtain ⟨l, hl⟩ := hm.1
  have hnd := hm.nodup hl
  obtain ⟨_, h2, u, h3⟩ := hl
  by_cases hk : ∃ i ∈ l, i.toNat = bs.length
  · obtain ⟨i, hi, he⟩ := hk
    obtain ⟨p, s, rfl⟩ := List.append_of_mem hi
    obtain ⟨w, w1, w2, w3, w4⟩ := Wlk.app.1 h3
    rw [he, bg_last] at w3 w4
    have hfr : frs (bs ++ [⟨c, a, -d⟩]) (p ++ i :: s) = frs (bs ++ [⟨c, a, -d⟩]) p ++ (c : Int) :: frs (bs ++ [⟨c, a, -d⟩]) s := by
      rw [frs_app]; unfold frs; rw [List.map_cons, he, bg_last]
    rw [hfr] at hnd
    obtain ⟨_, n2, n3⟩ := List.nodup_append.1 hnd
    have hother : ∀ j ∈ p ++ s, j.toNat ≠ bs.length := by
      intro j hj hje
      have hfj : (bg (bs ++ [(⟨c, a, -d⟩ : Bd)]) j.toNat).fr = c := by rw [hje, bg_last]
      rcases List.mem_append.1 hj with hj | hj
      · exact n3 _ (List.mem_map_of_mem (f := fun i => (bg (bs ++ [(⟨c, a, -d⟩ : Bd)]) i.toNat).fr) hj) (c : Int) (List.mem_cons_self) hfj
      · refine (List.nodup_cons.1 n2).1 ?_
        have := List.mem_map_of_mem (f := fun i => (bg (bs ++ [(⟨c, a, -d⟩ : Bd)]) i.toNat).fr) hj
        rwa [hfj] at this
    simp only at w3
    subst w3
    obtain ⟨g1, g2⟩ := wlk_app w1 (fun j hj => hother j (List.mem_append_left _ hj))
    obtain ⟨g3, g4⟩ := wlk_app w4 (fun j hj => hother j (List.mem_append_right _ hj))
    have := hd (s ++ p) (Wlk.app.2 ⟨u, g3, g1⟩)
    rw [lenP_app] at this
    rw [lenP_app, lenP_cons, g2, g4, he, bg_last] at h2
    simp only at h2; omega
  · obtain ⟨g1, g2⟩ := wlk_app h3 (fun i hi he => hk ⟨i, hi, he⟩)
    rw [g2] at h2
    exact (show Neg bs l.length l from ⟨rfl, h2, u, g1⟩).no hs
/-- a greater one cannot be met -/
theorem reach_no {bs : List Bd} {a c : Nat} {p : List Int} (hw : Wlk bs a p c) {d : Int} (hd : lenP bs p < d) : ¬ HasSol (bs ++ [⟨c, a, -d⟩]) := by
  rintro ⟨f, hf⟩
  have h1 := Wlk.sol (f := f) (fun b hb => hf b (List.mem_append_left _ hb)) hw
  have h2 := hf ⟨c, a, -d⟩ (by simp)
  simp only [Int.toNat_natCast] at h1 h2; omega
/-! ## Other denominators -/
/-- all bounds by a factor -/
def scB (k : Int) (bs : List Bd) : List Bd := bs.map fun b => { b with w := b.w * k }
theorem scB_len {k : Int} {bs : List Bd} : (scB k bs).length = bs.length := by simp [scB]
theorem scB_get {k : Int} {bs : List Bd} (i : Nat) : bg (scB k bs) i = { bg bs i with w := (bg bs i).w * k } := by
  by_cases h : i < bs.length
  · unfold scB bg; simp [List.getD_eq_getElem?_getD, h]
  · unfold scB bg; simp [List.getD_eq_getElem?_getD, h, bd0]
theorem scB_wlk {k : Int} {bs : List Bd} {l : List Int} : ∀ {u v : Int}, Wlk bs u l v → Wlk (scB k bs) u l v ∧ lenP (scB k bs) l = lenP bs l * k := by
  induction l with
  | nil => intro u v h; exact ⟨h, by simp [lenP]⟩
  | cons i l ih =>
    intro u v h
    obtain ⟨h1, h2, h3⟩ := h
    obtain ⟨g1, g2⟩ := ih h3
    refine ⟨⟨by rw [scB_len]; exact h1, by rw [scB_get]; exact h2, by rw [scB_get]; exact g1⟩, ?_⟩
    rw [lenP_cons, lenP_cons, g2, scB_get, Int.add_mul]
theorem scB_abs {k : Nat} {bs : List Bd} : absS (scB k bs) = absS bs * k := by
  unfold absS scB
  induction bs with
  | nil => simp
  | cons b bs ih =>
    simp only [List.map_cons, List.sum_cons, List.map_map] at ih ⊢
    rw [ih, Nat.add_mul, Int.natAbs_mul, Int.natAbs_natCast]
theorem scB_vld {n : Nat} {k : Int} {bs : List Bd} (hv : Vld n bs) : Vld n (scB k bs) := ⟨hv.n1, hv.n2, by rw [scB_len]; exact hv.l, fun i hi => by
  rw [scB_len] at hi; rw [scB_get]; exact hv.ok i hi⟩
theorem slv_e {n : Nat} {bs : List Bd} (hv : Vld n bs) : (slv n bs).2.2 = 0 ∧ HasSol bs ∨ (slv n bs).2.2 = 14 ∧ ¬ HasSol bs := by
  by_cases h : HasSol bs
  · exact .inl ⟨by rw [slv_sol hv h], h⟩
  · exact .inr ⟨by rw [slv_no hv h], h⟩
end Go.Proofs.YthggloiigkbfeaaGreat
namespace Go.Proofs.YthggloiigkbfeaaGreat
open W Go.RowKit
theorem shB_take {f : Nat → Int} {bs : List Bd} {i : Nat} (h : i < bs.length) : shB f (bs.take (i + 1)) = shB f (bs.take i) ++ [⟨(bg bs i).fr, (bg bs i).to, (bg bs i).w + (f (bg bs i).to.toNat - f (bg bs i).fr.toNat)⟩] := by
  rw [bg_take h]; unfold shB; rw [List.map_append]; rfl
theorem shB_abs {f : Nat → Int} {B : Nat} (hf : ∀ i, (f i).natAbs ≤ B) (bs : List Bd) : absS (shB f bs) ≤ absS bs + bs.length * (2 * B) := by
  induction bs with
  | nil => simp [shB, absS]
  | cons b bs ih =>
    have h1 := hf b.to.toNat
    have h2 := hf b.fr.toNat
    simp only [shB, absS, List.map_cons, List.sum_cons, List.length_cons, Nat.add_mul] at ih ⊢
    omega
namespace J
open G H I
attribute [local irreducible] WC WL WD YO LO LoopEnd W.Fin Scalar SliceT FieldAt Row ArrT AllocT KnS Has W.One SrcE IntT
theorem d10 {G G' : Prop} (h : G') (s : Bx G' → G := by
  intro h
  first | (apply WC.draw (id := 6) [0, 1, 2, 3, 4, 5, 7, 8, 9, 10, 11, 12, 14, 15] (.held 0 (.held 1 (.held 2 (.held 3 (.held 4 (.held 5 (.held 7 (.held 8 (.held 9 (.held 10 (.held 11 (.held 12 (.loud 6 (.loud 13 (.held 14 (.held 15 (.done))))))))))))))))) mixed (by kernel_rfl)) | (apply WC.draw (id := 7) [0, 1, 2, 3, 4, 5, 6, 7, 8, 9, 10, 11, 12, 13, 14, 15, 16, 19] (.held 0 (.held 1 (.held 2 (.held 3 (.held 4 (.held 5 (.held 6 (.held 7 (.held 8 (.held 9 (.held 10 (.held 11 (.held 12 (.held 13 (.held 14 (.held 15 (.held 16 (.loud 17 (.loud 18 (.held 19 (.loud 20 (.loud 21 (.free 22 (.done)))))))))))))))))))))))) mixed (by kernel_rfl)) | fail
  exact Bx.h h) : G := s ⟨h⟩
set_option maxHeartbeats 16000000 in
set_option maxRecDepth 60000 in
theorem shifted_c (v0 v1 : Value) (l p : List Int) (fr to : Int) (hl : ∀ x ∈ l, I64 x) (hp : ∀ x ∈ p, I64 x) (hfr : I64 fr) (hto : I64 to) :
    FnB Tryz.prog 10 [v0, v1, .int .i64 fr, .int .i64 to] [] [sI v0 l, sI v1 p] (IsV (.bool true)) := by
  refine fn_of [(0, v0), (1, v1), (2, (.int .i64 fr)), (3, (.int .i64 to))] 151 Tryz.func10 rfl Tryz.ntmps10 (by kernel_rfl) rfl suA fun h0 => ?_
  have hs := sysL_sml l (most := 6) (by decide) (by decide)
  have hab := sysL_abs l (most := 6) (by decide) (by decide)
  have hsl := sysL_len l 6
  obtain ⟨n, hn, hn8, hv⟩ := sys_vld l (most := 6) (by decide) (by decide)
  have hn1 := hv.n1
  refine WC.addNil 59 6 ?_
  repeat' (first | refine go ?_ | refine goX ?_ | refine goB ?_ | (refine goG ?_; intro g) | (refine goV ?_; intro v) | refine goD ?_ | refine goXD ?_ | (refine goDG ?_; intro g) | (refine goDV ?_; intro v) | refine goYL ?_ | refine d10 ?_ | fail)
  first | refine WL.callK (system_c v0 l 6 hl (by decide) (by decide)) ?_ | refine WD.callK (system_c v0 l 6 hl (by decide) (by decide)) ?_ | refine LO.callM (system_c v0 l 6 hl (by decide) (by decide)) ?_
  rintro rv bb GG ⟨vb, ms, rfl, rfl, rfl⟩
  simp only [List.nil_append, List.cons_append]
  rw [hn]
  generalize sysL l 6 = bs at *
  have hat : ∀ i : Int, 0 ≤ atP p i 50 ∧ atP p i 50 < 50 := fun i => atP_lt (by decide)
  obtain ⟨f, hf⟩ : ∃ f : Nat → Int, f = fun i : Nat => atP p (i : Int) 50 * 6 := ⟨_, rfl⟩
  have hfe : ∀ i : Int, 0 ≤ i → f i.toNat = atP p i 50 * 6 := fun i hi => by rw [hf]; simp only; rw [Int.toNat_of_nonneg hi]
  have hfb : ∀ i, (f i).natAbs ≤ 300 := fun i => by rw [hf]; have := hat (i : Int); simp only; omega
  have hs2 : absS (shB f bs) ≤ 13440 := by have := shB_abs hfb bs; omega
  have hf2 : Fit (shB f bs) := by unfold Fit; omega
  clear hf
  repeat' (first | refine go ?_ | refine goX ?_ | refine goB ?_ | (refine goG ?_; intro g) | (refine goV ?_; intro v) | refine goD ?_ | refine goXD ?_ | (refine goDG ?_; intro g) | (refine goDV ?_; intro v) | refine goYL ?_ | refine d10 ?_ | fail)
  refine WC.lp (σ := Nat × Value × (Nat → QM)) (fun s => [(12, .int .i64 (s.1 : Int)), (11, s.2.1), (9, .int .i64 n), (10, vb), (1, v1), (2, .int .i64 fr), (3, .int .i64 to)]) (fun s => [Ow.slice s.2.1 59 6 (bcells (shB f (bs.take s.1)) s.2.2)])
    (fun s => [mB 6 s.2.2 (shB f (bs.take s.1)), ge h0, fB 6 vb ms bs, sI v1 p]) (fun s => s.1 ≤ bs.length) (fun s => bs.length - s.1) (0, .slice none 0 0, fun _ => m00) (Nat.zero_le _) ?_ suA slA (.cons hasmB0 sfA)
  rintro ⟨i, vm, mm⟩ hi
  simp only at hi ⊢
  by_cases c : i < bs.length
  · have hok := hv.ok i c
    obtain ⟨⟨o1, o2⟩, o3, o4⟩ := hok
    have x1 := hat (bg bs i).to
    have x2 := hat (bg bs i).fr
    have x3 := @absS_le bs i
    have hps := shB_take (f := f) c
    rw [hfe _ o1, hfe _ o3] at hps
    have hpl : (shB f (bs.take i)).length = i := by rw [shB_len, List.length_take]; omega
    refine WC.fact (isQ (qv (ms i)) (wq 6 (bg bs i).w)) (W.Has.b (W.Has.bm (v := vb) hmA) c) ?_
    repeat' (first | refine go ?_ | refine goX ?_ | refine goB ?_ | (refine goG ?_; intro g) | (refine goV ?_; intro v) | refine goD ?_ | refine goXD ?_ | (refine goDG ?_; intro g) | (refine goDV ?_; intro v) | refine goYL ?_ | refine d10 ?_ | fail)
    first | refine WL.callV (at_c v1 p (bg bs i).to 50 hp (by decide)) ?_ | refine WD.callV (at_c v1 p (bg bs i).to 50 hp (by decide)) ?_
    repeat' (first | refine go ?_ | refine goX ?_ | refine goB ?_ | (refine goG ?_; intro g) | (refine goV ?_; intro v) | refine goD ?_ | refine goXD ?_ | (refine goDG ?_; intro g) | (refine goDV ?_; intro v) | refine goYL ?_ | refine d10 ?_ | fail)
    first | refine WL.callV (at_c v1 p (bg bs i).fr 50 hp (by decide)) ?_ | refine WD.callV (at_c v1 p (bg bs i).fr 50 hp (by decide)) ?_
    repeat' (first | refine go ?_ | refine goX ?_ | refine goB ?_ | (refine goG ?_; intro g) | (refine goV ?_; intro v) | refine goD ?_ | refine goXD ?_ | (refine goDG ?_; intro g) | (refine goDV ?_; intro v) | refine goYL ?_ | refine d10 ?_ | fail)
    first | refine WL.callK (ofw_c 6 (atP p (bg bs i).to 50 - atP p (bg bs i).fr 50) 1 6 (by decide) (by decide) (by unfold B2; omega) (by decide)) ?_ | refine WD.callK (ofw_c 6 (atP p (bg bs i).to 50 - atP p (bg bs i).fr 50) 1 6 (by decide) (by decide) (by unfold B2; omega) (by decide)) ?_ | refine LO.callM (ofw_c 6 (atP p (bg bs i).to 50 - atP p (bg bs i).fr 50) 1 6 (by decide) (by decide) (by unfold B2; omega) (by decide)) ?_
    rintro _ _ _ ⟨m2, rfl, rfl, rfl⟩
    simp only [List.nil_append, List.cons_append]
    repeat' (first | refine go ?_ | refine goX ?_ | refine goB ?_ | (refine goG ?_; intro g) | (refine goV ?_; intro v) | refine goD ?_ | refine goXD ?_ | (refine goDG ?_; intro g) | (refine goDV ?_; intro v) | refine goYL ?_ | refine d10 ?_ | fail)
    first | refine WL.callK (addw_c 6 (ms i) m2 (bg bs i).w ((atP p (bg bs i).to 50 - atP p (bg bs i).fr 50) * 6) (by unfold Lim; omega) (by unfold Lim; omega)) ?_ | refine WD.callK (addw_c 6 (ms i) m2 (bg bs i).w ((atP p (bg bs i).to 50 - atP p (bg bs i).fr 50) * 6) (by unfold Lim; omega) (by unfold Lim; omega)) ?_ | refine LO.callM (addw_c 6 (ms i) m2 (bg bs i).w ((atP p (bg bs i).to 50 - atP p (bg bs i).fr 50) * 6) (by unfold Lim; omega) (by unfold Lim; omega)) ?_
    rintro _ _ _ ⟨m3, rfl, rfl, rfl⟩
    simp only [List.nil_append, List.cons_append]
    have hpp : shB f (bs.take (i + 1)) = shB f (bs.take i) ++ [⟨(bg bs i).fr, (bg bs i).to, (bg bs i).w + (atP p (bg bs i).to 50 - atP p (bg bs i).fr 50) * ((6 : Nat) : Int)⟩] := by
      rw [hps, show (bg bs i).w + (atP p (bg bs i).to 50 * 6 - atP p (bg bs i).fr 50 * 6) = (bg bs i).w + (atP p (bg bs i).to 50 - atP p (bg bs i).fr 50) * ((6 : Nat) : Int) by omega]
    generalize (bg bs i).w + (atP p (bg bs i).to 50 - atP p (bg bs i).fr 50) * ((6 : Nat) : Int) = w3 at *
    generalize (bg bs i).fr = p1 at *
    generalize (bg bs i).to = p2 at *
    repeat' (first | refine go ?_ | refine goX ?_ | refine goB ?_ | (refine goG ?_; intro g) | (refine goV ?_; intro v) | refine goD ?_ | refine goXD ?_ | (refine goDG ?_; intro g) | (refine goDV ?_; intro v) | refine goYL ?_ | refine d10 ?_ | fail)
    refine WD.l rfl rfl rfl (LO.bsB1 (b := ⟨p1, p2, w3⟩) (m := m3) rfl fun v => ⟨Or.inr ⟨slA, fun _ h => by repeat (first | exact h | apply List.Mem.tail)⟩, ?_⟩)
    refine WD.facts (F' := isQ (qv m3) (wq 6 (Bd.mk p1 p2 w3).w) :: _) (fun _ _ ho => ho.add (ho.has hmA)) ?_
    repeat' (first | refine go ?_ | refine goX ?_ | refine goB ?_ | (refine goG ?_; intro g) | (refine goV ?_; intro v) | refine goD ?_ | refine goXD ?_ | (refine goDG ?_; intro g) | (refine goDV ?_; intro v) | refine goYL ?_ | refine d10 ?_ | fail)
    have hpm : ∀ {F : List Fct}, Has F (mB 6 mm (shB f (bs.take i))) → Has F (isQ (qv m3) (wq 6 w3)) → Has F (mB 6 (upd mm (shB f (bs.take i)).length m3) (shB f (bs.take (i + 1)))) := fun h1 h2 => by
      rw [hpp]; exact W.Has.mBapp h1 h2
    exact LoopEnd.mk (i + 1, v, upd mm (shB f (bs.take i)).length m3) (by show i + 1 ≤ bs.length; omega) (by show bs.length - (i + 1) < bs.length - i; omega) suA (by show List.Sublist [Ow.slice v 59 6 (bcells (shB f (bs.take (i + 1))) _)] _; rw [hpp]; exact slA) (HasAll.cons (hpm hmA hmA) sfA)
  · obtain rfl : i = bs.length := by omega
    rw [List.take_of_length_le (Nat.le_refl _)]
    have hv2 := vld_sh (f := f) hv
    have hsame := slv_sh (f := f) hv
    repeat' (first | refine go ?_ | refine goX ?_ | refine goB ?_ | (refine goG ?_; intro g) | (refine goV ?_; intro v) | refine goD ?_ | refine goXD ?_ | (refine goDG ?_; intro g) | (refine goDV ?_; intro v) | refine goYL ?_ | refine d10 ?_ | fail)
    first | refine WL.callK (solve_c 6 vb ms bs n hs.fit) ?_ | refine WD.callK (solve_c 6 vb ms bs n hs.fit) ?_ | refine LO.callM (solve_c 6 vb ms bs n hs.fit) ?_
    rintro rv bb GG ⟨ux, mx, uc, rfl, rfl, rfl⟩
    simp only [List.nil_append, List.cons_append]
    repeat' (first | refine go ?_ | refine goX ?_ | refine goB ?_ | (refine goG ?_; intro g) | (refine goV ?_; intro v) | refine goD ?_ | refine goXD ?_ | (refine goDG ?_; intro g) | (refine goDV ?_; intro v) | refine goYL ?_ | refine d10 ?_ | fail)
    refine WL.freezeB (D := 6) (el := 59) vm mm (shB f bs) (by repeat (first | exact Sel.head | apply Sel.tail)) hmA ?_
    first | refine WL.callK (solve_c 6 vm mm (shB f bs) n hf2) ?_ | refine WD.callK (solve_c 6 vm mm (shB f bs) n hf2) ?_ | refine LO.callM (solve_c 6 vm mm (shB f bs) n hf2) ?_
    rintro rv bb GG ⟨uy, my, ud, rfl, rfl, rfl⟩
    simp only [List.nil_append, List.cons_append]
    rw [hsame]
    generalize slv n bs = R at *
    obtain ⟨R1, R2, R3⟩ := R
    generalize slv n (shB f bs) = R' at *
    obtain ⟨R1', R2', R3'⟩ := R'
    simp only at hsame ⊢
    repeat' (first | refine go ?_ | refine goX ?_ | refine goB ?_ | (refine goG ?_; intro g) | (refine goV ?_; intro v) | refine goD ?_ | refine goXD ?_ | (refine goDG ?_; intro g) | (refine goDV ?_; intro v) | refine goYL ?_ | refine d10 ?_ | fail)
    first | refine WL.callV (sameInts_c uc ud R2 R2) ?_ | refine WD.callV (sameInts_c uc ud R2 R2) ?_
    rw [decide_eq_true rfl]
    have y1 := @around_lt fr (n : Int) (by omega)
    have y2 := @around_lt to (n : Int) (by omega)
    repeat' (first | refine go ?_ | refine goX ?_ | refine goB ?_ | (refine goG ?_; intro g) | (refine goV ?_; intro v) | refine goD ?_ | refine goXD ?_ | (refine goDG ?_; intro g) | (refine goDV ?_; intro v) | refine goYL ?_ | refine d10 ?_ | fail)
    first | refine WL.callV (around_c fr n hfr (by omega)) ?_ | refine WD.callV (around_c fr n hfr (by omega)) ?_
    repeat' (first | refine go ?_ | refine goX ?_ | refine goB ?_ | (refine goG ?_; intro g) | (refine goV ?_; intro v) | refine goD ?_ | refine goXD ?_ | (refine goDG ?_; intro g) | (refine goDV ?_; intro v) | refine goYL ?_ | refine d10 ?_ | fail)
    first | refine WL.callV (around_c to n hto (by omega)) ?_ | refine WD.callV (around_c to n hto (by omega)) ?_
    obtain ⟨a, ha⟩ : ∃ a : Nat, around fr n = a := ⟨(around fr n).toNat, by omega⟩
    obtain ⟨b, hb⟩ : ∃ b : Nat, around to n = b := ⟨(around to n).toNat, by omega⟩
    rw [ha] at y1 ⊢
    rw [hb] at y2 ⊢
    repeat' (first | refine go ?_ | refine goX ?_ | refine goB ?_ | (refine goG ?_; intro g) | (refine goV ?_; intro v) | refine goD ?_ | refine goXD ?_ | (refine goDG ?_; intro g) | (refine goDV ?_; intro v) | refine goYL ?_ | refine d10 ?_ | fail)
    first | refine WL.callK (most_c 6 vb ms bs n a b hs.fit) ?_ | refine WD.callK (most_c 6 vb ms bs n a b hs.fit) ?_ | refine LO.callM (most_c 6 vb ms bs n a b hs.fit) ?_
    rintro rv bb GG ⟨mq, up, rfl, rfl, rfl⟩
    simp only [List.nil_append, List.cons_append]
    repeat' (first | refine go ?_ | refine goX ?_ | refine goB ?_ | (refine goG ?_; intro g) | (refine goV ?_; intro v) | refine goD ?_ | refine goXD ?_ | (refine goDG ?_; intro g) | (refine goDV ?_; intro v) | refine goYL ?_ | refine d10 ?_ | fail)
    first | refine WL.callK (most_c 6 vm mm (shB f bs) n a b hf2) ?_ | refine WD.callK (most_c 6 vm mm (shB f bs) n a b hf2) ?_ | refine LO.callM (most_c 6 vm mm (shB f bs) n a b hf2) ?_
    rintro rv bb GG ⟨mr, uq, rfl, rfl, rfl⟩
    simp only [List.nil_append, List.cons_append]
    obtain ⟨g1, g2⟩ := mst_sh (f := f) hv (a := a) (b := b) (by omega) (by omega)
    rw [g1]
    have w1 := mst_sml hv (a := a) (b := b) (by omega) (by omega) (by omega)
    have w2 := mst_sml hv2 (a := a) (b := b) (by omega) (by omega) (by omega)
    generalize mst n bs a b = M1 at *
    generalize mst n (shB f bs) a b = M2 at *
    obtain ⟨d1, p1, e1⟩ := M1
    obtain ⟨d2, p2, e2⟩ := M2
    simp only at g1 g2 w1 w2 ⊢
    repeat' (first | refine go ?_ | refine goX ?_ | refine goB ?_ | (refine goG ?_; intro g) | (refine goV ?_; intro v) | refine goD ?_ | refine goXD ?_ | (refine goDG ?_; intro g) | (refine goDV ?_; intro v) | refine goYL ?_ | refine d10 ?_ | fail)
    first | refine WL.callV (sameInts_c up uq p1 p1) ?_ | refine WD.callV (sameInts_c up uq p1 p1) ?_
    rw [decide_eq_true rfl]
    by_cases c0 : e1 = 0
    · have g3 := g2 c0
      have z1 := hat (a : Int)
      have z2 := hat (b : Int)
      have q1 := hfe (a : Int) (by omega)
      have q2 := hfe (b : Int) (by omega)
      rw [Int.toNat_natCast] at q1 q2
      repeat' (first | refine go ?_ | refine goX ?_ | refine goB ?_ | (refine goG ?_; intro g) | (refine goV ?_; intro v) | refine goD ?_ | refine goXD ?_ | (refine goDG ?_; intro g) | (refine goDV ?_; intro v) | refine goYL ?_ | refine d10 ?_ | fail)
      first | refine WL.callK (subw_c 6 mr mq d2 d1 (by unfold Lim; omega) (by unfold Lim; omega)) ?_ | refine WD.callK (subw_c 6 mr mq d2 d1 (by unfold Lim; omega) (by unfold Lim; omega)) ?_ | refine LO.callM (subw_c 6 mr mq d2 d1 (by unfold Lim; omega) (by unfold Lim; omega)) ?_
      rintro _ _ _ ⟨m5, rfl, rfl, rfl⟩
      simp only [List.nil_append, List.cons_append]
      repeat' (first | refine go ?_ | refine goX ?_ | refine goB ?_ | (refine goG ?_; intro g) | (refine goV ?_; intro v) | refine goD ?_ | refine goXD ?_ | (refine goDG ?_; intro g) | (refine goDV ?_; intro v) | refine goYL ?_ | refine d10 ?_ | fail)
      first | refine WL.callV (at_c v1 p (b : Int) 50 hp (by decide)) ?_ | refine WD.callV (at_c v1 p (b : Int) 50 hp (by decide)) ?_
      repeat' (first | refine go ?_ | refine goX ?_ | refine goB ?_ | (refine goG ?_; intro g) | (refine goV ?_; intro v) | refine goD ?_ | refine goXD ?_ | (refine goDG ?_; intro g) | (refine goDV ?_; intro v) | refine goYL ?_ | refine d10 ?_ | fail)
      first | refine WL.callV (at_c v1 p (a : Int) 50 hp (by decide)) ?_ | refine WD.callV (at_c v1 p (a : Int) 50 hp (by decide)) ?_
      repeat' (first | refine go ?_ | refine goX ?_ | refine goB ?_ | (refine goG ?_; intro g) | (refine goV ?_; intro v) | refine goD ?_ | refine goXD ?_ | (refine goDG ?_; intro g) | (refine goDV ?_; intro v) | refine goYL ?_ | refine d10 ?_ | fail)
      first | refine WL.callK (ofw_c 6 (atP p (b : Int) 50 - atP p (a : Int) 50) 1 6 (by decide) (by decide) (by unfold B2; omega) (by decide)) ?_ | refine WD.callK (ofw_c 6 (atP p (b : Int) 50 - atP p (a : Int) 50) 1 6 (by decide) (by decide) (by unfold B2; omega) (by decide)) ?_ | refine LO.callM (ofw_c 6 (atP p (b : Int) 50 - atP p (a : Int) 50) 1 6 (by decide) (by decide) (by unfold B2; omega) (by decide)) ?_
      rintro _ _ _ ⟨m6, rfl, rfl, rfl⟩
      simp only [List.nil_append, List.cons_append]
      repeat' (first | refine go ?_ | refine goX ?_ | refine goB ?_ | (refine goG ?_; intro g) | (refine goV ?_; intro v) | refine goD ?_ | refine goXD ?_ | (refine goDG ?_; intro g) | (refine goDV ?_; intro v) | refine goYL ?_ | refine d10 ?_ | fail)
      first | refine WL.callV (samew_c 6 m5 m6 (d2 - d1) ((atP p (b : Int) 50 - atP p (a : Int) 50) * ((6 : Nat) : Int))) ?_ | refine WD.callV (samew_c 6 m5 m6 (d2 - d1) ((atP p (b : Int) 50 - atP p (a : Int) 50) * ((6 : Nat) : Int))) ?_
      rw [decide_eq_true (show d2 - d1 = (atP p (b : Int) 50 - atP p (a : Int) 50) * ((6 : Nat) : Int) by omega)]
      repeat' (first | refine go ?_ | refine goX ?_ | refine goB ?_ | (refine goG ?_; intro g) | (refine goV ?_; intro v) | refine goD ?_ | refine goXD ?_ | (refine goDG ?_; intro g) | (refine goDV ?_; intro v) | refine goYL ?_ | refine d10 ?_ | fail)
      first | refine WL.callV (lives_c) ?_ | refine WD.callV (lives_c) ?_
      repeat' (first | refine go ?_ | refine goX ?_ | refine goB ?_ | (refine goG ?_; intro g) | (refine goV ?_; intro v) | refine goD ?_ | refine goXD ?_ | (refine goDG ?_; intro g) | (refine goDV ?_; intro v) | refine goYL ?_ | refine d10 ?_ | fail)
      exact WC.ret (Fin.v (ResE.t1 rfl rfl) meA rfl)
    · repeat' (first | refine go ?_ | refine goX ?_ | refine goB ?_ | (refine goG ?_; intro g) | (refine goV ?_; intro v) | refine goD ?_ | refine goXD ?_ | (refine goDG ?_; intro g) | (refine goDV ?_; intro v) | refine goYL ?_ | refine d10 ?_ | fail)
      first | refine WL.callV (lives_c) ?_ | refine WD.callV (lives_c) ?_
      repeat' (first | refine go ?_ | refine goX ?_ | refine goB ?_ | (refine goG ?_; intro g) | (refine goV ?_; intro v) | refine goD ?_ | refine goXD ?_ | (refine goDG ?_; intro g) | (refine goDV ?_; intro v) | refine goYL ?_ | refine d10 ?_ | fail)
      exact WC.ret (Fin.v (ResE.t1 rfl rfl) meA rfl)
end J
end Go.Proofs.YthggloiigkbfeaaGreat
namespace Go.Proofs.YthggloiigkbfeaaGreat
open Go.ChangeShapes Go.WideShapes Go.ChangeAt Go.RowKit
open W
theorem Tryz.int3 : Tryz.prog.underlying 3 = some (.int .i64) := by kernel_rfl
theorem Tryz.sl22 : Tryz.prog.underlying 22 = some (.slice 3) := by kernel_rfl
theorem Tryz.bool4 : Tryz.prog.underlying 4 = some .bool := by kernel_rfl
theorem Tryz.one3 : Tryz.prog.cellsOf 3 = 1 := by kernel_rfl
set_option maxRecDepth 100000 in
theorem boundsShifted_lifted (os : Os) (started : os.Started) (H : Type) (enc : TypeId × Value → H) :
    ReturnsInHanded {} Tryz.checked os 10 .any (Rows.boundsShiftedSpec.pre6 enc Tryz.prog Tryz.f10 Rows.boundsShiftedRow.domain false) (Rows.boundsShiftedSpec.post enc Tryz.prog Tryz.f10 false true false false) := by
  refine returnsInHanded_of_change (C := Tryz.checked) Tryz.own started (by kernel_rfl) Tryz.func10
    (ChangeSpec.witness6 (enc := enc) (C := Tryz.checked) false ⟨#[], #[.slice none 0 0, .slice none 0 0, .int .i64 0, .int .i64 0], []⟩ 8 (by kernel_rfl) (by kernel_rfl) (by kernel_rfl) (by kernel_rfl)) ?_
  intro V1 base args ds gs before hval0 hW hcnd _
  have hval : ∀ (j : Nat) t v, Tryz.f10.params[j]? = some t → args[j]? = some v → Value.okWide Tryz.prog V1 .any base t v := hval0
  have hW' := hW
  obtain ⟨p, q, hA0, hV, rfl, hfz, hnd⟩ := hW
  have hA : DataW.TrodAll enc Tryz.prog V1 0 (fun _ => true) true Tryz.f10.params.toList args.toList ds p := hA0
  rw [Tryz.params10] at hA hval
  obtain ⟨args⟩ := args
  obtain ⟨v0, a1, d0, e1, p0, q1, rfl, rfl, rfl, h0, hA⟩ := trodAll_cons hA
  obtain ⟨v1, a2, d1, e2, p1, q2, rfl, rfl, rfl, h1, hA⟩ := trodAll_cons hA
  obtain ⟨v2, a3, d2, e3, p2, q3, rfl, rfl, rfl, h2, hA⟩ := trodAll_cons hA
  obtain ⟨v3, a4, d3, e4, p3, q4, rfl, rfl, rfl, h3, hA⟩ := trodAll_cons hA
  obtain ⟨rfl, rfl, rfl⟩ := trodAll_nil hA
  obtain ⟨rfl, rfl⟩ := trodVars_none hV
  obtain ⟨l0, hl0, f0, g0⟩ := arg_ints Tryz.sl22 Tryz.int3 Tryz.one3 (hval 0 22 v0 rfl rfl) h0
  obtain ⟨l1, hl1, f1, g1⟩ := arg_ints Tryz.sl22 Tryz.int3 Tryz.one3 (hval 1 22 v1 rfl rfl) h1
  obtain ⟨n2, rfl, hl2, g2⟩ := arg_int Tryz.int3 (hval 2 3 v2 rfl rfl) h2
  obtain ⟨n3, rfl, hl3, g3⟩ := arg_int Tryz.int3 (hval 3 3 v3 rfl rfl) h3
  simp only [List.append_nil] at hW'
  refine (law_calls (J.shifted_c v0 v1 l0 l1 n2 n3 hl0 hl1 hl2 hl3) (fun g hg => ?_)).mono fun e V2 hh2 => ?_
  · simp only [List.mem_cons, List.not_mem_nil, or_false] at hg
    rcases hg with rfl | rfl
    · exact f0
    · exact f1
  · obtain ⟨he, hr, hE⟩ := hh2
    refine ⟨_, he, post_law hW' (fun _ _ _ => trodAll_mk1 (shut_bool Tryz.bool4 _)) (fun sp hsp => ?_) (fun _ => rfl) hr hE (ok_one (by kernel_rfl) rfl (okWide_bool_mk Tryz.bool4 _))⟩
    have := (AgainAll.cons g0 (AgainAll.cons g1 (AgainAll.cons g2 (AgainAll.cons g3 AgainAll.nil)))) V2 sp hE (by simpa using hsp)
    simp only [List.append_nil] at this
    show DataW.TrodAll enc Tryz.prog V2 0 sp true Tryz.f10.params.toList _ _ _
    rw [Tryz.params10]
    exact this
theorem boundsShifted_holds : Rows.BoundsShiftedSaid :=
  OpenClaim.holds_of_wide 10 Tryz.f10 rfl rfl rfl rfl rfl rfl rfl ⟨rfl, rfl, rfl, rfl, rfl⟩ rfl rfl rfl rfl rfl (by kernel_rfl) Tryz.func10 (by kernel_rfl)
    (of_decide_eq_true (by kernel_rfl)) (by unfold Func.isWrapper; first | (rw [if_pos (by decide +kernel)]; kernel_rfl) | (rw [if_neg (by decide +kernel)]; exact ⟨rfl, rfl⟩))
    (fun os started H enc _ => boundsShifted_lifted os started H enc)
#print axioms boundsShifted_holds
end Go.Proofs.YthggloiigkbfeaaGreat
