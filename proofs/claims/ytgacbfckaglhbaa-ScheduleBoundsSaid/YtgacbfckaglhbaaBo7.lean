/- The law ScheduleBounds returns true for every input and leaves its arguments as they were. Conditions: none. -/
import Derived.Test.YtgacbfckaglhbaaBo6
import Derived.Test.YtgacbfckaglhbaaBo5
import Derived.Test.YtgacbfckaglhbaaBo2
import Derived.Test.YtgacbfckaglhbaaBo3
import Derived.Test.YtgacbfckaglhbaaRows
import Derived.ProofKit
import Derived.ChangeSlices
namespace Go.Proofs.Ytgacbfckaglhbaa
open W Go.RowKit
attribute [local irreducible] WC WL WD YO LO LoopEnd W.Fin Scalar SliceT FieldAt Row ArrT AllocT KnS Has W.One SrcE IntT
set_option maxHeartbeats 4000000 in
set_option maxRecDepth 8000 in
theorem chains_c (vt : Value) (avs : List Value) (ts : List Tk) (M : Nat) (hg : AllGood M ts) (hn : ts.length ≤ 10) : ∀ (f : Nat) (cv bv : Value) (c best : List Int), (ts.length : Int) < f + (lastP c + 1) → ChOK ts c → ChOK ts best →
    FnB Try.prog 50 [vt, cv, bv] [] [sT vt avs ts, sA avs ts, sI cv c, sI bv best] (fun u b G => b = [] ∧ G = [sI u (chF ts f c best)])
  | 0, _, _, c, _, h, hc, _ => by have := hc.hi; omega
  | f + 1, cv, bv, c, best, hf, hc, hb => by
    have ih := chains_c vt avs ts M hg hn f
    refine fn_of [(0, vt), (1, cv), (2, bv)] 77 Try.func50 rfl Try.ntmps50 (by kernel_rfl) rfl (by repeat (first | exact Sub.nil _ | refine Sub.cons rfl ?_)) fun h0 => ?_
    have hcl := hc.l
    have hch := hc.hi
    have hclo := hc.lo
    have hbl := hb.l
    have hbh := hb.hi
    have hcF : chF ts (f + 1) c best = chLp (chF ts f) ts c (btr ts best c) ts.length := rfl
    repeat' (first | refine go ?_ | refine goX ?_ | refine goB ?_ | (refine goG ?_; intro g) | (refine goV ?_; intro v))
    refine WL.callG [] _ (.refl _) (time_c vt cv avs ts c) ?_
    rintro _ _ _ ⟨z1, q1, rfl, rfl, rfl, ha1, ha2, ha3⟩
    simp only [List.nil_append]
    obtain rfl := ha1.2 hc.k
    have hz1 := ha3 rfl (good_time hg) (by omega)
    repeat' (first | refine go ?_ | refine goX ?_ | refine goB ?_ | (refine goG ?_; intro g) | (refine goV ?_; intro v))
    refine WL.callG [] _ (.refl _) (time_c vt bv avs ts best) ?_
    rintro _ _ _ ⟨z2, q2, rfl, rfl, rfl, hb1, hb2, hb3⟩
    simp only [List.nil_append]
    obtain rfl := hb1.2 hb.k
    have hz2 := hb3 rfl (good_time hg) (by omega)
    clear ha1 ha2 ha3 hb1 hb2 hb3
    have hbt : btr ts best c = if z2 < z1 ∨ (z1 = z2 ∧ befB c best = true) then c else best := by rw [hz1, hz2]; rfl
    clear hz1 hz2
    obtain ⟨lo, hlo⟩ : ∃ lo : Nat, lastP c + 1 = (lo : Int) := ⟨(lastP c + 1).toNat, by omega⟩
    have hst : ∀ b1, chLp (chF ts f) ts c b1 lo = b1 := fun b1 => chLp_start hg lo (by omega) (by omega)
    have e7 : 0 < c.length → c.getD ((c.length : Int) - 1).toNat 0 = lastP c := fun h => by unfold lastP; rw [if_pos h]; congr 1; omega
    have e8 : ¬ 0 < c.length → lastP c = -1 := fun h => by unfold lastP; rw [if_neg h]
    obtain ⟨b1, hb1⟩ : ∃ b1, b1 = btr ts best c := ⟨_, rfl⟩
    have hb1k : ChOK ts b1 := by rw [hb1]; exact btr_ok hb hc
    rw [← hb1] at hcF hbt
    clear hb1
    have hcs : (z2 < z1 ∧ b1 = c) ∨ (¬ z2 < z1 ∧ z1 = z2 ∧ befB c best = true ∧ b1 = c) ∨ (¬ z2 < z1 ∧ z1 = z2 ∧ befB c best = false ∧ b1 = best) ∨ (¬ z2 < z1 ∧ z1 ≠ z2 ∧ b1 = best) := by
      by_cases d1 : z2 < z1
      · rw [if_pos (.inl d1)] at hbt; exact .inl ⟨d1, hbt⟩
      · by_cases d2 : z1 = z2
        · cases d3 : befB c best with
          | true => rw [if_pos (.inr ⟨d2, d3⟩)] at hbt; exact .inr (.inl ⟨d1, d2, rfl, hbt⟩)
          | false => rw [if_neg (by rw [d3]; simp [d1])] at hbt; exact .inr (.inr (.inl ⟨d1, d2, rfl, hbt⟩))
        · rw [if_neg (by simp [d1, d2])] at hbt; exact .inr (.inr (.inr ⟨d1, d2, hbt⟩))
    clear hbt
    have hFF := chLp_ok (rec := chF ts f) hg hc (fun i best hi _ h1 h2 => chF_ok hg f _ best h1 h2) hb1k
    obtain ⟨R, hR⟩ : ∃ R : Nat → List Int, ∀ n, R n = chLp (chF ts f) ts c b1 n := ⟨_, fun _ => rfl⟩
    have hR0 : R lo = b1 := by rw [hR]; exact hst b1
    have hRs : ∀ n, R (n + 1) = if lastP c < 0 ∨ lastP c ∈ (tg ts n).after then chF ts f (c ++ [(n : Int)]) (R n) else R n := fun n => by rw [hR, hR]; rfl
    have hRk : ∀ n, n ≤ ts.length → ChOK ts (R n) := fun n hn => by rw [hR]; exact hFF n hn
    rw [← hR] at hcF
    clear hR hFF hst
    by_cases h9 : 0 < c.length
    all_goals rcases hcs with ⟨d1, e⟩ | ⟨d1, d2, d3, e⟩ | ⟨d1, d2, d3, e⟩ | ⟨d1, d2, e⟩
    all_goals
      rw [e] at hR0
      clear hb1k e
      repeat' (first | refine go ?_ | refine goX ?_ | refine goB ?_ | (refine goG ?_; intro g) | (refine goV ?_; intro v))
      try
        first | refine WL.callV (before_c cv bv c best) ?_ | refine WD.callV (before_c cv bv c best) ?_
        rw [d3]
        repeat' (first | refine go ?_ | refine goX ?_ | refine goB ?_ | (refine goG ?_; intro g) | (refine goV ?_; intro v))
      first
        | rw [e7 h9, hlo]
        | (rw [← e8 h9]; rw [hlo])
        | skip
      refine WC.lp (σ := Nat × Value) (fun s => [(12, .int .i64 (s.1 : Int)), (2, s.2), (11, .int .i64 (lastP c)), (0, vt), (1, cv)]) (fun _ => []) (fun s => [ge h0, sT vt avs ts, sA avs ts, sI cv c, sI s.2 (R s.1)]) (fun s => s.1 ≤ ts.length ∧ lo ≤ s.1) (fun s => ts.length - s.1) (lo, _) ⟨by omega, by omega⟩ ?_ (by repeat (first | exact Sub.nil _ | refine Sub.cons rfl ?_)) (by repeat (first | exact List.Sublist.refl _ | exact List.nil_sublist _ | apply List.Sublist.cons_cons | apply List.Sublist.cons)) (by simp only [hR0]; exact (by repeat (first | exact HasAll.nil | (apply HasAll.cons; (focus (apply Has.mem; (repeat (first | exact List.Mem.head _ | apply List.Mem.tail)); done))))))
      rintro ⟨i, w⟩ ⟨hi, hli⟩
      simp only at hi hli ⊢
      by_cases hlt : i < ts.length
      · by_cases c1 : lastP c < 0
        · have hs := hRs i
          rw [if_pos (.inl c1)] at hs
          have hsn := hc.snoc hg hlt (.inl c1)
          have hRi := hRk i hi
          repeat' (first | refine go ?_ | refine goX ?_ | refine goB ?_ | (refine goG ?_; intro g) | (refine goV ?_; intro v))
          revert v; intro nv
          rw [show [] ++ ints c ++ [Value.int .i64 (i : Int)] = ints (c ++ [(i : Int)]) from by simp [ints]]
          refine WL.freezeI (el := 3) (v := nv) (l := c ++ [(i : Int)]) (by repeat (first | exact Sel.head | apply Sel.tail)) ?_
          refine WL.callG [] _ (.refl _) (ih nv w (c ++ [(i : Int)]) (R i) (by rw [last_snoc]; omega) hsn.1 hRi) ?_
          rintro r _ _ ⟨rfl, rfl⟩
          simp only [List.nil_append, List.cons_append]
          repeat' (first | refine go ?_ | refine goX ?_ | refine goB ?_ | (refine goG ?_; intro g) | (refine goV ?_; intro v))
          exact LoopEnd.mk (i + 1, r) ⟨by show i + 1 ≤ ts.length; omega, by show lo ≤ i + 1; omega⟩ (by show ts.length - (i + 1) < ts.length - i; omega) (by repeat (first | exact Sub.nil _ | refine Sub.cons rfl ?_)) (by repeat (first | exact List.Sublist.refl _ | exact List.nil_sublist _ | apply List.Sublist.cons_cons | apply List.Sublist.cons)) (by simp only [hs]; exact (by repeat (first | exact HasAll.nil | (apply HasAll.cons; (focus (apply Has.mem; (repeat (first | exact List.Mem.head _ | apply List.Mem.tail)); done))))))
        · try exact absurd (e8 h9) (by omega)
          all_goals
            by_cases c2 : lastP c ∈ (tg ts i).after
            · have hs := hRs i
              rw [if_pos (.inr c2)] at hs
              have hsn := hc.snoc hg hlt (.inr c2)
              have hRi := hRk i hi
              repeat' (first | refine go ?_ | refine goX ?_ | refine goB ?_ | (refine goG ?_; intro g) | (refine goV ?_; intro v))
              first | refine WL.callV (has_c (avs.getD i undef) (tg ts i).after (lastP c)) ?_ | refine WD.callV (has_c (avs.getD i undef) (tg ts i).after (lastP c)) ?_
              rw [decide_eq_true c2]
              repeat' (first | refine go ?_ | refine goX ?_ | refine goB ?_ | (refine goG ?_; intro g) | (refine goV ?_; intro v))
              revert v; intro nv
              rw [show [] ++ ints c ++ [Value.int .i64 (i : Int)] = ints (c ++ [(i : Int)]) from by simp [ints]]
              refine WL.freezeI (el := 3) (v := nv) (l := c ++ [(i : Int)]) (by repeat (first | exact Sel.head | apply Sel.tail)) ?_
              refine WL.callG [] _ (.refl _) (ih nv w (c ++ [(i : Int)]) (R i) (by rw [last_snoc]; omega) hsn.1 hRi) ?_
              rintro r _ _ ⟨rfl, rfl⟩
              simp only [List.nil_append, List.cons_append]
              repeat' (first | refine go ?_ | refine goX ?_ | refine goB ?_ | (refine goG ?_; intro g) | (refine goV ?_; intro v))
              exact LoopEnd.mk (i + 1, r) ⟨by show i + 1 ≤ ts.length; omega, by show lo ≤ i + 1; omega⟩ (by show ts.length - (i + 1) < ts.length - i; omega) (by repeat (first | exact Sub.nil _ | refine Sub.cons rfl ?_)) (by repeat (first | exact List.Sublist.refl _ | exact List.nil_sublist _ | apply List.Sublist.cons_cons | apply List.Sublist.cons)) (by simp only [hs]; exact (by repeat (first | exact HasAll.nil | (apply HasAll.cons; (focus (apply Has.mem; (repeat (first | exact List.Mem.head _ | apply List.Mem.tail)); done))))))
            · have hs := hRs i
              rw [if_neg (fun h => h.elim c1 c2)] at hs
              repeat' (first | refine go ?_ | refine goX ?_ | refine goB ?_ | (refine goG ?_; intro g) | (refine goV ?_; intro v))
              first | refine WL.callV (has_c (avs.getD i undef) (tg ts i).after (lastP c)) ?_ | refine WD.callV (has_c (avs.getD i undef) (tg ts i).after (lastP c)) ?_
              rw [decide_eq_false c2]
              repeat' (first | refine go ?_ | refine goX ?_ | refine goB ?_ | (refine goG ?_; intro g) | (refine goV ?_; intro v))
              exact LoopEnd.mk (i + 1, w) ⟨by show i + 1 ≤ ts.length; omega, by show lo ≤ i + 1; omega⟩ (by show ts.length - (i + 1) < ts.length - i; omega) (by repeat (first | exact Sub.nil _ | refine Sub.cons rfl ?_)) (by repeat (first | exact List.Sublist.refl _ | exact List.nil_sublist _ | apply List.Sublist.cons_cons | apply List.Sublist.cons)) (by simp only [hs]; exact (by repeat (first | exact HasAll.nil | (apply HasAll.cons; (focus (apply Has.mem; (repeat (first | exact List.Mem.head _ | apply List.Mem.tail)); done))))))
      · obtain rfl : i = ts.length := by omega
        repeat' (first | refine go ?_ | refine goX ?_ | refine goB ?_ | (refine goG ?_; intro g) | (refine goV ?_; intro v))
        refine WC.ret ?_
        exact Fin.p [] [sI w (R ts.length)] (ResE.t1 rfl rfl) (by (repeat (first | exact List.Mem.head _ | apply List.Mem.tail)); done) (List.nil_sublist _) (by repeat (first | exact HasAll.nil | (apply HasAll.cons; (first | (focus (apply Has.mem; (repeat (first | exact List.Mem.head _ | apply List.Mem.tail)); done)) | (focus (apply hasA; (focus (apply Has.mem; (repeat (first | exact List.Mem.head _ | apply List.Mem.tail)); done)); omega; done)) | (focus (apply Has.sc; (focus (apply Has.mem; (repeat (first | exact List.Mem.head _ | apply List.Mem.tail)); done)); omega; omega; omega; done)))))) ⟨rfl, by rw [hcF]⟩
end Go.Proofs.Ytgacbfckaglhbaa
namespace Go.Proofs.Ytgacbfckaglhbaa
def tmL (ts : List Tk) : List Int → Int
  | [] => 0
  | x :: c => (tg ts x.toNat).time + tmL ts c
section
variable {ts : List Tk} {M : Nat}
theorem tmL_app (a b : List Int) : tmL ts (a ++ b) = tmL ts a + tmL ts b := by
  induction a with
  | nil => simp [tmL]
  | cons x a ih => simp [tmL, ih]; omega
theorem sumT_take (c : List Int) : ∀ k, k ≤ c.length → sumT ts c k = tmL ts (c.take k)
  | 0, _ => by simp [sumT, tmL]
  | k + 1, h => by
    rw [sumT, sumT_take c k (by omega), List.take_succ_eq_append_getElem (by omega), tmL_app]
    simp [tmL, List.getD_eq_getElem?_getD, List.getElem?_eq_getElem (show k < c.length by omega)]
theorem tmP_eq (c : List Int) : tmP ts c = tmL ts c := by
  show sumT ts c c.length = _
  rw [sumT_take c _ (Nat.le_refl _), List.take_length]

theorem bef_trans : ∀ {a b c : List Int}, befB a b = true → befB b c = true → befB a c = true
  | [], b, [], h1, h2 => by
    cases b with
    | nil => exact h2
    | cons _ _ => simp [befB] at h2
  | [], _, _ :: _, _, _ => by simp [befB]
  | _ :: _, [], _, h1, _ => by simp [befB] at h1
  | _ :: _, _ :: _, [], _, h2 => by simp [befB] at h2
  | x :: a, y :: b, z :: c, h1, h2 => by
    simp only [befB] at h1 h2 ⊢
    by_cases e1 : x = y
    · subst e1
      rw [if_neg (by simp)] at h1
      by_cases e2 : x = z
      · subst e2
        rw [if_neg (by simp)] at h2 ⊢
        exact bef_trans h1 h2
      · rw [if_pos e2] at h2 ⊢; exact h2
    · rw [if_pos e1] at h1
      have h1 := of_decide_eq_true h1
      by_cases e2 : y = z
      · subst e2
        rw [if_pos e1]; exact decide_eq_true h1
      · rw [if_pos e2] at h2
        have h2 := of_decide_eq_true h2
        rw [if_pos (by omega)]; exact decide_eq_true (by omega)
theorem bef_tri : ∀ {a b : List Int}, befB a b = false → befB b a = false → a = b
  | [], [], _, _ => rfl
  | [], _ :: _, h, _ => by simp [befB] at h
  | _ :: _, [], _, h => by simp [befB] at h
  | x :: a, y :: b, h1, h2 => by
    simp only [befB] at h1 h2
    by_cases e : x = y
    · subst e
      rw [if_neg (by simp)] at h1 h2
      rw [bef_tri h1 h2]
    · rw [if_pos e] at h1
      rw [if_pos (Ne.symm e)] at h2
      have h1 := of_decide_eq_false h1
      have h2 := of_decide_eq_false h2
      omega
theorem bef_pre (p : List Int) {a b : List Int} : befB (p ++ a) (p ++ b) = befB a b := by
  induction p with
  | nil => rfl
  | cons x p ih => simp [befB, ih]
theorem bef_irr (a : List Int) : befB a a = false := by
  induction a with
  | nil => rfl
  | cons x a ih => simp [befB, ih]

/-- b is better than a -/
def bt (ts : List Tk) (a b : List Int) : Prop := tmP ts a < tmP ts b ∨ (tmP ts b = tmP ts a ∧ befB b a = true)
theorem btr_pos {a b : List Int} (h : bt ts a b) : btr ts a b = b := if_pos h
theorem btr_neg {a b : List Int} (h : ¬ bt ts a b) : btr ts a b = a := if_neg h
theorem bt_trans {a b c : List Int} (h1 : bt ts a b) (h2 : bt ts b c) : bt ts a c := by
  unfold bt at *
  rcases h1 with h1 | ⟨h1, k1⟩ <;> rcases h2 with h2 | ⟨h2, k2⟩
  · exact .inl (by omega)
  · exact .inl (by omega)
  · exact .inl (by omega)
  · exact .inr ⟨by omega, bef_trans k2 k1⟩
theorem bt_tri {a b : List Int} (h : ¬ bt ts a b) : b = a ∨ bt ts b a := by
  unfold bt at *
  by_cases h1 : tmP ts b < tmP ts a
  · exact .inr (.inl h1)
  · have h2 : tmP ts b = tmP ts a := by omega
    by_cases h3 : befB a b = true
    · exact .inr (.inr ⟨by omega, h3⟩)
    · by_cases h4 : befB b a = true
      · exact absurd (.inr ⟨h2, h4⟩) h
      · exact .inl (bef_tri (by simpa using h4) (by simpa using h3))
theorem join1 {b x y : List Int} (h : bt ts x y) : btr ts (btr ts b x) y = btr ts b y := by
  by_cases h1 : bt ts b x
  · rw [btr_pos h1, btr_pos h, btr_pos (bt_trans h1 h)]
  · rw [btr_neg h1]
theorem join2 {b x y : List Int} (h : ¬ bt ts x y) : btr ts (btr ts b x) y = btr ts b x := by
  by_cases h1 : bt ts b x
  · rw [btr_pos h1, btr_neg h]
  · rw [btr_neg h1, btr_neg]
    intro h2
    rcases bt_tri h with h3 | h3
    · exact h1 (h3 ▸ h2)
    · exact h1 (bt_trans h2 h3)

/-- what is known of the tasks from lo on -/
structure CB (ts : List Tk) (s : CS) (lo : Nat) : Prop where
  hd : ∀ i, lo ≤ i → i < ts.length → ∃ r, s.c.getD i [] = (i : Int) :: r
  tm : ∀ i, lo ≤ i → i < ts.length → tmL ts (s.c.getD i []) = s.t.getD i 0
  pos : ∀ i, lo ≤ i → i < ts.length → 1 ≤ s.t.getD i 0
  ch : ∀ i, lo ≤ i → i < ts.length → ∀ f pre best, ts.length ≤ f + i → ChOK ts (pre ++ [(i : Int)]) → chF ts f (pre ++ [(i : Int)]) best = btr ts best (pre ++ s.c.getD i [])
theorem nextP_mem2 {T : List Int} {i : Nat} : ∀ j, nextP ts T i j < 0 ∨ (i : Int) ∈ (tg ts (nextP ts T i j).toNat).after
  | 0 => by simp [nextP]
  | j + 1 => by
    have := @nextP_mem2 T i j
    rw [nextP]; split
    · rename_i h; right; rw [Int.toNat_natCast]; exact h.1
    · exact this
theorem nextP_s1 {T : List Int} {i j : Nat} (ha : (i : Int) ∈ (tg ts (i + 1 + j)).after) (h : nextP ts T i j < 0 ∨ T.getD (nextP ts T i j).toNat 0 < T.getD (i + 1 + j) 0) : nextP ts T i (j + 1) = ((i + 1 + j : Nat) : Int) := by rw [nextP, if_pos ⟨ha, h⟩]
theorem nextP_s2 {T : List Int} {i j : Nat} (h1 : ¬ nextP ts T i j < 0) (h2 : ¬ T.getD (nextP ts T i j).toNat 0 < T.getD (i + 1 + j) 0) : nextP ts T i (j + 1) = nextP ts T i j := by rw [nextP, if_neg (fun h => h.2.elim h1 h2)]
theorem nextP_s3 {T : List Int} {i j : Nat} (h1 : ¬ (i : Int) ∈ (tg ts (i + 1 + j)).after) : nextP ts T i (j + 1) = nextP ts T i j := by rw [nextP, if_neg (fun h => h1 h.1)]
theorem loop_next (hg : AllGood M ts) {s : CS} {i f : Nat} (h : CB ts s (i + 1)) (hi : i < ts.length) (hf : ts.length ≤ f + 1 + i) {pre b1 : List Int} (hp : ChOK ts (pre ++ [(i : Int)])) : ∀ j, i + 1 + j ≤ ts.length →
    chLp (chF ts f) ts (pre ++ [(i : Int)]) b1 (i + 1 + j) = if nextP ts s.t i j < 0 then b1 else btr ts b1 (pre ++ (i : Int) :: s.c.getD (nextP ts s.t i j).toNat [])
  | 0, _ => by
    rw [chLp_start hg _ (by omega) (by rw [last_snoc]; omega)]
    simp [nextP]
  | j + 1, hj => by
    have ih := loop_next hg h hi hf hp (b1 := b1) j (by omega)
    have hb := @nextP_bd ts s.t i j
    have hk : i + 1 + j < ts.length := by omega
    have e : ∀ X, lastP (pre ++ [(i : Int)]) ∈ (tg ts (i + 1 + j)).after → chF ts f (pre ++ [(i : Int)] ++ [((i + 1 + j : Nat) : Int)]) X = btr ts X (pre ++ (i : Int) :: s.c.getD (i + 1 + j) []) := fun X ha => by
      rw [h.ch (i + 1 + j) (by omega) hk f _ X (by omega) (hp.snoc hg hk (.inr ha)).1]
      congr 1; simp
    rw [show i + 1 + (j + 1) = (i + 1 + j) + 1 by omega, chLp, ih]
    rw [last_snoc] at e ⊢
    by_cases ha : (i : Int) ∈ (tg ts (i + 1 + j)).after
    · rw [if_pos (.inr ha), e _ ha]
      have n1 := nextP_s1 (T := s.t) ha
      have n2 := nextP_s2 (ts := ts) (T := s.t) (i := i) (j := j)
      generalize nextP ts s.t i (j + 1) = nx' at *
      generalize nextP ts s.t i j = nx at *
      by_cases hn : nx < 0
      · rw [if_pos hn, n1 (.inl hn), if_neg (by omega), Int.toNat_natCast]
      · obtain ⟨q, rfl⟩ : ∃ q : Nat, nx = q := ⟨nx.toNat, by omega⟩
        rw [Int.toNat_natCast] at n1 n2
        rw [if_neg hn, Int.toNat_natCast]
        have t1 := h.tm q (by omega) (by omega)
        have t2 := h.tm (i + 1 + j) (by omega) hk
        have m1 : tmP ts (pre ++ (i : Int) :: s.c.getD q []) = tmL ts pre + ((tg ts i).time + s.t.getD q 0) := by rw [tmP_eq, tmL_app, tmL, t1]; simp
        have m2 : tmP ts (pre ++ (i : Int) :: s.c.getD (i + 1 + j) []) = tmL ts pre + ((tg ts i).time + s.t.getD (i + 1 + j) 0) := by rw [tmP_eq, tmL_app, tmL, t2]; simp
        by_cases hlt : s.t.getD q 0 < s.t.getD (i + 1 + j) 0
        · rw [n1 (.inr hlt), if_neg (by omega), Int.toNat_natCast]
          exact join1 (.inl (by omega))
        · rw [n2 hn hlt, if_neg hn, Int.toNat_natCast]
          refine join2 ?_
          rintro (h1 | ⟨_, h2⟩)
          · omega
          · rw [bef_pre] at h2
            obtain ⟨r1, e1⟩ := h.hd q (by omega) (by omega)
            obtain ⟨r2, e2⟩ := h.hd (i + 1 + j) (by omega) hk
            rw [e1, e2] at h2
            simp only [befB] at h2
            rw [if_neg (by simp), if_pos (by omega)] at h2
            have := of_decide_eq_true h2
            omega
    · rw [if_neg (fun hc => hc.elim (by omega) ha), nextP_s3 ha]

theorem CB_step (hg : AllGood M ts) (ht : ∀ i, i < ts.length → 1 ≤ (tg ts i).time) {s : CS} {i j : Nat} (h : CB ts s (i + 1)) (hi : i < ts.length) (hj : i + 1 + j = ts.length) (hc : s.c.length = ts.length) (htl : s.t.length = ts.length) : CB ts (chStep ts s i j) i := by
  have hb := @nextP_bd ts s.t i j
  have hl := fun (f : Nat) (hf : ts.length ≤ f + 1 + i) (pre b1 : List Int) hp => loop_next hg h hi hf (pre := pre) (b1 := b1) hp j (by omega)
  have ec : ∀ k, (chStep ts s i j).c.getD k [] = if i = k then (if nextP ts s.t i j < 0 then [(i : Int)] else (i : Int) :: s.c.getD (nextP ts s.t i j).toNat []) else s.c.getD k [] := fun k => by
    show ((s.c.set i _).getD k []) = _
    rw [getD_setL]
    by_cases hk : i = k
    · rw [if_pos ⟨hk, by omega⟩, if_pos hk]
    · rw [if_neg (fun hx => hk hx.1), if_neg hk]
  have et : ∀ k, (chStep ts s i j).t.getD k 0 = if i = k then (if nextP ts s.t i j < 0 then (tg ts i).time else (tg ts i).time + s.t.getD (nextP ts s.t i j).toNat 0) else s.t.getD k 0 := fun k => by
    show ((s.t.set i _).getD k 0) = _
    rw [getD_set]
    by_cases hk : i = k
    · rw [if_pos ⟨hk, by omega⟩, if_pos hk]
    · rw [if_neg (fun hx => hk hx.1), if_neg hk]
  generalize nextP ts s.t i j = nx at *
  have hti := ht i hi
  refine ⟨fun k h1 h2 => ?_, fun k h1 h2 => ?_, fun k h1 h2 => ?_, fun k h1 h2 f pre best hf hp => ?_⟩
  · rw [ec]
    by_cases hk : i = k
    · subst hk; rw [if_pos rfl]; split <;> exact ⟨_, rfl⟩
    · rw [if_neg hk]; exact h.hd k (by omega) h2
  · rw [ec, et]
    by_cases hk : i = k
    · subst hk; rw [if_pos rfl, if_pos rfl]
      by_cases hn : nx < 0
      · rw [if_pos hn, if_pos hn]; simp [tmL]
      · rw [if_neg hn, if_neg hn, tmL, h.tm nx.toNat (by omega) (by omega)]; simp
    · rw [if_neg hk, if_neg hk]; exact h.tm k (by omega) h2
  · rw [et]
    by_cases hk : i = k
    · subst hk; rw [if_pos rfl]; split
      · exact hti
      · have := h.pos nx.toNat (by omega) (by omega); omega
    · rw [if_neg hk]; exact h.pos k (by omega) h2
  · rw [ec]
    by_cases hk : i = k
    · subst hk; rw [if_pos rfl]
      obtain ⟨f, rfl⟩ : ∃ f', f = f' + 1 := ⟨f - 1, by omega⟩
      have hx := hl f (by omega) pre (btr ts best (pre ++ [(i : Int)])) hp
      rw [hj] at hx
      show chLp (chF ts f) ts (pre ++ [(i : Int)]) (btr ts best (pre ++ [(i : Int)])) ts.length = _
      rw [hx]
      by_cases hn : nx < 0
      · rw [if_pos hn, if_pos hn]
      · rw [if_neg hn, if_neg hn]
        refine join1 (.inl ?_)
        have hp1 := h.pos nx.toNat (by omega) (by omega)
        have ht1 := h.tm nx.toNat (by omega) (by omega)
        rw [tmP_eq, tmP_eq, tmL_app, tmL_app, tmL, tmL, tmL, ht1]
        omega
    · rw [if_neg hk]; exact h.ch k (by omega) h2 f pre best hf hp

/-- the first one with the greatest time -/
def FM (t : List Int) (lo hi i : Nat) : Prop := lo ≤ i ∧ i < hi ∧ (∀ k, lo ≤ k → k < hi → t.getD k 0 ≤ t.getD i 0) ∧ ∀ k, lo ≤ k → k < i → t.getD k 0 < t.getD i 0
theorem FM_uni {t : List Int} {lo hi i j : Nat} (h1 : FM t lo hi i) (h2 : FM t lo hi j) : i = j := by
  obtain ⟨a1, a2, a3, a4⟩ := h1
  obtain ⟨b1, b2, b3, b4⟩ := h2
  rcases Nat.lt_trichotomy i j with h | h | h
  · have := b4 i a1 h; have := a3 j b1 b2; omega
  · exact h
  · have := a4 j b1 h; have := b3 i a1 a2; omega
structure CO (ts : List Tk) (s : CS) (lo : Nat) : Prop where
  cb : CB ts s lo
  lc : s.c.length = ts.length
  lt : s.t.length = ts.length
  out : (lo = ts.length ∧ s.out = [] ∧ s.most = 0) ∨ ∃ i, FM s.t lo ts.length i ∧ s.out = s.c.getD i [] ∧ s.most = s.t.getD i 0
theorem CO_all (hg : AllGood M ts) (ht : ∀ i, i < ts.length → 1 ≤ (tg ts i).time) : ∀ d, d ≤ ts.length → CO ts (chS ts d) (ts.length - d)
  | 0, _ => ⟨⟨fun i h1 h2 => by omega, fun i h1 h2 => by omega, fun i h1 h2 => by omega, fun i h1 h2 => by omega⟩, by simp [chS], by simp [chS], .inl ⟨by omega, rfl, rfl⟩⟩
  | d + 1, hd => by
    have ih := CO_all hg ht d (by omega)
    obtain ⟨i, hi⟩ : ∃ i, ts.length - 1 - d = i := ⟨_, rfl⟩
    have e1 : ts.length - d = i + 1 := by omega
    have e2 : ts.length - (d + 1) = i := by omega
    rw [e1] at ih
    rw [e2]
    have es : chS ts (d + 1) = chStep ts (chS ts d) i d := by rw [← hi]; rfl
    rw [es]
    have hil : i < ts.length := by omega
    have hcb := CB_step hg ht ih.cb hil (by omega : i + 1 + d = ts.length) ih.lc ih.lt
    obtain ⟨t, hT⟩ : ∃ t, t = (if nextP ts (chS ts d).t i d < 0 then (tg ts i).time else (tg ts i).time + (chS ts d).t.getD (nextP ts (chS ts d).t i d).toNat 0) := ⟨_, rfl⟩
    obtain ⟨c, hC⟩ : ∃ c, c = (if nextP ts (chS ts d).t i d < 0 then [(i : Int)] else (i : Int) :: (chS ts d).c.getD (nextP ts (chS ts d).t i d).toNat []) := ⟨_, rfl⟩
    have est : chStep ts (chS ts d) i d = ⟨(chS ts d).c.set i c, (chS ts d).t.set i t, if (chS ts d).most ≤ t then c else (chS ts d).out, if (chS ts d).most ≤ t then t else (chS ts d).most⟩ := by subst hT hC; rfl
    rw [est] at hcb ⊢
    have et : ∀ k, ((chS ts d).t.set i t).getD k 0 = if i = k then t else (chS ts d).t.getD k 0 := fun k => by
      rw [getD_set]
      by_cases hk : i = k
      · rw [if_pos ⟨hk, by rw [ih.lt]; exact hil⟩, if_pos hk]
      · rw [if_neg (fun hx => hk hx.1), if_neg hk]
    have ec : ∀ k, ((chS ts d).c.set i c).getD k [] = if i = k then c else (chS ts d).c.getD k [] := fun k => by
      rw [getD_setL]
      by_cases hk : i = k
      · rw [if_pos ⟨hk, by rw [ih.lc]; exact hil⟩, if_pos hk]
      · rw [if_neg (fun hx => hk hx.1), if_neg hk]
    refine ⟨hcb, by simp [ih.lc], by simp [ih.lt], .inr ?_⟩
    have hti : 1 ≤ t := by have := hcb.pos i (Nat.le_refl _) hil; rw [et, if_pos rfl] at this; exact this
    show ∃ k, FM ((chS ts d).t.set i t) i ts.length k ∧ (if (chS ts d).most ≤ t then c else (chS ts d).out) = ((chS ts d).c.set i c).getD k [] ∧ (if (chS ts d).most ≤ t then t else (chS ts d).most) = ((chS ts d).t.set i t).getD k 0
    by_cases hm : (chS ts d).most ≤ t
    · refine ⟨i, ⟨Nat.le_refl _, hil, fun k h1 h2 => ?_, fun k h1 h2 => by omega⟩, by rw [if_pos hm, ec, if_pos rfl], by rw [if_pos hm, et, if_pos rfl]⟩
      rw [et, et, if_pos rfl]
      by_cases hk : i = k
      · rw [if_pos hk]; omega
      · rw [if_neg hk]
        rcases ih.out with h3 | ⟨q, h3, h4, h5⟩
        · omega
        · have := h3.2.2.1 k (by omega) h2; omega
    · rcases ih.out with h3 | ⟨q, h3, h4, h5⟩
      · omega
      · have hq : i ≠ q := by have := h3.1; omega
        refine ⟨q, ⟨by have := h3.1; omega, h3.2.1, fun k h1 h2 => ?_, fun k h1 h2 => ?_⟩, by rw [if_neg hm, ec, if_neg hq, h4], by rw [if_neg hm, et, if_neg hq, h5]⟩
        · rw [et, et, if_neg hq]
          by_cases hk : i = k
          · rw [if_pos hk]; omega
          · rw [if_neg hk]; exact h3.2.2.1 k (by omega) h2
        · rw [et, et, if_neg hq]
          by_cases hk : i = k
          · rw [if_pos hk]; omega
          · rw [if_neg hk]; exact h3.2.2.2 k (by omega) h2
theorem top_loop {s : CS} (hg : AllGood M ts) (h : CB ts s 0) : ∀ j, j ≤ ts.length → (j = 0 ∧ chLp (chF ts ts.length) ts [] [] j = []) ∨ ∃ i, FM s.t 0 j i ∧ chLp (chF ts ts.length) ts [] [] j = s.c.getD i []
  | 0, _ => .inl ⟨rfl, rfl⟩
  | j + 1, hj => by
    right
    have hl : lastP ([] : List Int) < 0 := by decide
    have hok := (ChOK_nil (ts := ts)).snoc hg (show j < ts.length by omega) (.inl hl)
    have e : ∀ X, chF ts ts.length ([] ++ [(j : Int)]) X = btr ts X (s.c.getD j []) := fun X => by
      rw [h.ch j (by omega) (by omega) ts.length [] X (by omega) hok.1]; rfl
    have p1 := h.pos j (by omega) (by omega)
    have t1 := h.tm j (by omega) (by omega)
    rw [chLp, if_pos (.inl hl), e]
    rcases top_loop hg h j (by omega) with ⟨rfl, h2⟩ | ⟨i, h2, h3⟩
    · refine ⟨0, ⟨Nat.le_refl _, by omega, fun k h4 h5 => ?_, fun k h4 h5 => by omega⟩, ?_⟩
      · obtain rfl : k = 0 := by omega
        exact Int.le_refl _
      · rw [h2, btr_pos]
        left; rw [tmP_eq, tmP_eq, t1]; show 0 < _; omega
    · rw [h3]
      have t2 := h.tm i (by omega) (by have := h2.2.1; omega)
      have hi2 := h2.2.1
      by_cases hlt : s.t.getD i 0 < s.t.getD j 0
      · refine ⟨j, ⟨by omega, by omega, fun k h4 h5 => ?_, fun k h4 h5 => ?_⟩, ?_⟩
        · by_cases hk : k = j
          · subst hk; exact Int.le_refl _
          · have := h2.2.2.1 k h4 (by omega); omega
        · have := h2.2.2.1 k h4 (by omega); omega
        · rw [btr_pos]
          left; rw [tmP_eq, tmP_eq, t1, t2]; exact hlt
      · refine ⟨i, ⟨h2.1, by omega, fun k h4 h5 => ?_, h2.2.2.2⟩, ?_⟩
        · by_cases hk : k = j
          · subst hk; omega
          · exact h2.2.2.1 k h4 (by omega)
        · rw [btr_neg]
          rintro (h4 | ⟨_, h4⟩)
          · rw [tmP_eq, tmP_eq, t1, t2] at h4; exact hlt h4
          · obtain ⟨r1, e1⟩ := h.hd i (by omega) (by omega)
            obtain ⟨r2, e2⟩ := h.hd j (by omega) (by omega)
            rw [e1, e2] at h4
            simp only [befB] at h4
            rw [if_pos (by omega)] at h4
            have := of_decide_eq_true h4
            omega
theorem good_t1 (hg : AllGood M ts) : ∀ i, i < ts.length → 1 ≤ (tg ts i).time := fun i hi => (hg i hi).t1
/-- the model's chains answers the program's chain -/
theorem chains_eq (hg : AllGood M ts) : chF ts (ts.length + 1) [] [] = (chainP ts).1 ∧ tmP ts (chainP ts).1 = (chainP ts).2 := by
  have h := CO_all hg (good_t1 hg) ts.length (Nat.le_refl _)
  rw [Nat.sub_self] at h
  have h1 := top_loop hg h.cb ts.length (Nat.le_refl _)
  have e0 : btr ts [] [] = [] := by
    rw [btr_neg]
    rintro (h | ⟨_, h⟩)
    · omega
    · cases h
  have e1 : chF ts (ts.length + 1) [] [] = chLp (chF ts ts.length) ts [] [] ts.length := by rw [chF, e0]
  rcases h.out with ⟨h2, h3, h4⟩ | ⟨i, h2, h3, h4⟩
  · rcases h1 with ⟨h5, h6⟩ | ⟨k, h5, h6⟩
    · refine ⟨by rw [e1, h6]; exact h3.symm, ?_⟩
      show tmP ts (chS ts ts.length).out = (chS ts ts.length).most
      rw [h3, h4]; rfl
    · have := h5.2.1; omega
  · rcases h1 with ⟨h5, h6⟩ | ⟨k, h5, h6⟩
    · have := h2.2.1; omega
    · obtain rfl := FM_uni h2 h5
      refine ⟨by rw [e1, h6]; exact h3.symm, ?_⟩
      show tmP ts (chS ts ts.length).out = (chS ts ts.length).most
      rw [h3, h4, tmP_eq]
      exact h.cb.tm i h2.1 h2.2.1
end
end Go.Proofs.Ytgacbfckaglhbaa
namespace Go.Proofs.Ytgacbfckaglhbaa

section
variable {ts : List Tk} {M : Nat}
theorem sumT_cons {x : Int} {c : List Int} : ∀ k, sumT ts (x :: c) (k + 1) = (tg ts x.toNat).time + sumT ts c k
  | 0 => by simp [sumT]
  | k + 1 => by
    rw [sumT, sumT_cons k, sumT]
    have : (x :: c).getD (k + 1) 0 = c.getD k 0 := by simp [List.getD_eq_getElem?_getD]
    rw [this]; omega
theorem lnk_cons {i x : Nat} {c : List Int} (h : lnk ts c c.length) (hx : c.getD 0 0 = (x : Int)) (hi : i < ts.length) (hm : (i : Int) ∈ (tg ts x).after) : lnk ts ((i : Int) :: c) (c.length + 1) := fun j hj => by
  match j with
  | 0 => exact ⟨by simp, by simpa using hi, fun h => by omega⟩
  | j + 1 =>
    have e : ((i : Int) :: c).getD (j + 1) 0 = c.getD j 0 := by simp [List.getD_eq_getElem?_getD]
    have hj' := h j (by omega)
    unfold lnkAt
    rw [e]
    refine ⟨hj'.1, hj'.2.1, fun _ => ?_⟩
    match j with
    | 0 =>
      have e2 : ((i : Int) :: c).getD (0 + 1 - 1) 0 = (i : Int) := rfl
      rw [e2, hx, Int.toNat_natCast]; exact hm
    | j + 1 =>
      have e2 : ((i : Int) :: c).getD (j + 1 + 1 - 1) 0 = c.getD j 0 := by simp [List.getD_eq_getElem?_getD]
      rw [e2]; exact hj'.2.2 (by omega)
/-- a chain that begins with a task, and its time -/
structure ChAt (ts : List Tk) (j : Nat) (c : List Int) (t : Int) : Prop where
  h : c.getD 0 0 = (j : Int)
  p : 0 < c.length
  k : lnk ts c c.length
  s : sumT ts c c.length = t
theorem ch_inv (hg : AllGood M ts) : ∀ d, d ≤ ts.length → (∀ j, ts.length - d ≤ j → j < ts.length → ChAt ts j ((chS ts d).c.getD j []) ((chS ts d).t.getD j 0)) ∧ lnk ts (chS ts d).out (chS ts d).out.length ∧ sumT ts (chS ts d).out (chS ts d).out.length = (chS ts d).most
  | 0, _ => ⟨fun j h1 h2 => by omega, fun j hj => by simp [chS] at hj, rfl⟩
  | d + 1, hd => by
    obtain ⟨h1, h2, h3⟩ := ch_inv hg d (by omega)
    have hok := chS_ok (good_time hg) d
    have hlt := hok.lt
    have hlc := hok.lc
    have hi : ts.length - 1 - d < ts.length := by omega
    have hnew : ChAt ts (ts.length - 1 - d) (if nextP ts (chS ts d).t (ts.length - 1 - d) d < 0 then [((ts.length - 1 - d : Nat) : Int)] else ((ts.length - 1 - d : Nat) : Int) :: (chS ts d).c.getD (nextP ts (chS ts d).t (ts.length - 1 - d) d).toNat [])
        (if nextP ts (chS ts d).t (ts.length - 1 - d) d < 0 then (tg ts (ts.length - 1 - d)).time else (tg ts (ts.length - 1 - d)).time + (chS ts d).t.getD (nextP ts (chS ts d).t (ts.length - 1 - d) d).toNat 0) := by
      split
      · refine ⟨rfl, by simp, fun j hj => ?_, ?_⟩
        · obtain rfl : j = 0 := by simpa using hj
          exact ⟨by simp, by show ((ts.length - 1 - d : Nat) : Int) < _; omega, fun h => by omega⟩
        · show sumT ts [((ts.length - 1 - d : Nat) : Int)] (0 + 1) = _
          rw [sumT_cons, Int.toNat_natCast]; simp [sumT]
      · rename_i hc
        have hm := nextP_mem (Int.not_lt.1 hc)
        have hb := nextP_bd (ts := ts) (T := (chS ts d).t) (i := ts.length - 1 - d) d
        obtain ⟨x, hx⟩ := Int.eq_ofNat_of_zero_le (Int.not_lt.1 hc)
        have hx' : nextP ts (chS ts d).t (ts.length - 1 - d) d = (x : Int) := hx
        rw [hx', Int.toNat_natCast] at hm ⊢
        have hc := h1 x (by omega) (by omega)
        refine ⟨rfl, by simp, ?_, ?_⟩
        · rw [List.length_cons]; exact lnk_cons hc.k hc.h hi hm
        · rw [List.length_cons, sumT_cons, Int.toNat_natCast, hc.s]
    have e1 : (chS ts (d + 1)).t = (chS ts d).t.set (ts.length - 1 - d) (if nextP ts (chS ts d).t (ts.length - 1 - d) d < 0 then (tg ts (ts.length - 1 - d)).time else (tg ts (ts.length - 1 - d)).time + (chS ts d).t.getD (nextP ts (chS ts d).t (ts.length - 1 - d) d).toNat 0) := rfl
    have e2 : (chS ts (d + 1)).most = if (chS ts d).most ≤ (if nextP ts (chS ts d).t (ts.length - 1 - d) d < 0 then (tg ts (ts.length - 1 - d)).time else (tg ts (ts.length - 1 - d)).time + (chS ts d).t.getD (nextP ts (chS ts d).t (ts.length - 1 - d) d).toNat 0) then (if nextP ts (chS ts d).t (ts.length - 1 - d) d < 0 then (tg ts (ts.length - 1 - d)).time else (tg ts (ts.length - 1 - d)).time + (chS ts d).t.getD (nextP ts (chS ts d).t (ts.length - 1 - d) d).toNat 0) else (chS ts d).most := rfl
    have e3 : (chS ts (d + 1)).c = (chS ts d).c.set (ts.length - 1 - d) (if nextP ts (chS ts d).t (ts.length - 1 - d) d < 0 then [((ts.length - 1 - d : Nat) : Int)] else ((ts.length - 1 - d : Nat) : Int) :: (chS ts d).c.getD (nextP ts (chS ts d).t (ts.length - 1 - d) d).toNat []) := rfl
    have e4 : (chS ts (d + 1)).out = if (chS ts d).most ≤ (if nextP ts (chS ts d).t (ts.length - 1 - d) d < 0 then (tg ts (ts.length - 1 - d)).time else (tg ts (ts.length - 1 - d)).time + (chS ts d).t.getD (nextP ts (chS ts d).t (ts.length - 1 - d) d).toNat 0) then (if nextP ts (chS ts d).t (ts.length - 1 - d) d < 0 then [((ts.length - 1 - d : Nat) : Int)] else ((ts.length - 1 - d : Nat) : Int) :: (chS ts d).c.getD (nextP ts (chS ts d).t (ts.length - 1 - d) d).toNat []) else (chS ts d).out := rfl
    generalize (if nextP ts (chS ts d).t (ts.length - 1 - d) d < 0 then (tg ts (ts.length - 1 - d)).time else (tg ts (ts.length - 1 - d)).time + (chS ts d).t.getD (nextP ts (chS ts d).t (ts.length - 1 - d) d).toNat 0) = x at *
    generalize (if nextP ts (chS ts d).t (ts.length - 1 - d) d < 0 then [((ts.length - 1 - d : Nat) : Int)] else ((ts.length - 1 - d : Nat) : Int) :: (chS ts d).c.getD (nextP ts (chS ts d).t (ts.length - 1 - d) d).toNat []) = y at *
    refine ⟨fun j h4 h5 => ?_, ?_⟩
    · rw [e1, e3, getD_set, getD_setL]
      by_cases hj : ts.length - 1 - d = j
      · rw [if_pos ⟨hj, by omega⟩, if_pos ⟨hj, by omega⟩, ← hj]; exact hnew
      · rw [if_neg (fun h => hj h.1), if_neg (fun h => hj h.1)]; exact h1 j (by omega) h5
    · rw [e2, e4]
      split
      · exact ⟨hnew.k, hnew.s⟩
      · exact ⟨h2, h3⟩
theorem chain_shows (hg : AllGood M ts) : lnk ts (chainP ts).1 (chainP ts).1.length ∧ sumT ts (chainP ts).1 (chainP ts).1.length = (chainP ts).2 := (ch_inv hg ts.length (Nat.le_refl _)).2
theorem setsF_form : ∀ {c n : Nat} {s : Bool × Int × Int}, (s = (true, 0, (chainP ts).2) ∨ ∃ x : Nat, 1 ≤ x ∧ x < n + c ∧ s = (false, (x : Int), loadP ts M zer x)) → 1 ≤ n → (setsF (bStep ts M) c n s = (true, 0, (chainP ts).2) ∨ ∃ x : Nat, 1 ≤ x ∧ x < n + c ∧ setsF (bStep ts M) c n s = (false, (x : Int), loadP ts M zer x))
  | 0, n, s, h, _ => h
  | c + 1, n, s, h, hn => by
    rw [setsF]
    have h1 : (bStep ts M s n).1 = (true, 0, (chainP ts).2) ∨ ∃ x : Nat, 1 ≤ x ∧ x < n + (c + 1) ∧ (bStep ts M s n).1 = (false, (x : Int), loadP ts M zer x) := by
      unfold bStep; split
      · exact .inr ⟨n, hn, by omega, rfl⟩
      · exact h
    split
    · have := setsF_form (c := c) (n := n + 1) (s := (bStep ts M s n).1) (by rcases h1 with h1 | ⟨x, h2, h3, h4⟩; exact .inl h1; exact .inr ⟨x, h2, by omega, h4⟩) (by omega)
      rcases this with h1 | ⟨x, h2, h3, h4⟩
      · exact .inl h1
      · exact .inr ⟨x, h2, by omega, h4⟩
    · exact h1
/-- what Bound answers -/
theorem bound_form : boundP ts M = ((chainP ts).1, 0, (chainP ts).2) ∨ ∃ x : Nat, 1 ≤ x ∧ x < 2 ^ M ∧ boundP ts M = ([], (x : Int), loadP ts M zer x) := by
  have hp : 0 < 2 ^ M := Nat.pow_pos (by decide)
  rcases setsF_form (ts := ts) (M := M) (c := 2 ^ M - 1) (n := 1) (s := (true, 0, (chainP ts).2)) (.inl rfl) (Nat.le_refl _) with h | ⟨x, h1, h2, h3⟩
  · left; unfold boundP boundS; rw [h]; rfl
  · right; refine ⟨x, h1, by omega, ?_⟩; unfold boundP boundS; rw [h3]; rfl
theorem bound_shows (hg : AllGood M ts) (hv : validE ts M = 0) : showP ts M (boundP ts M).1 (boundP ts M).2.1 (boundP ts M).2.2 = 0 := by
  rcases bound_form (ts := ts) (M := M) with h | ⟨x, h1, h2, h3⟩
  · rw [h]; have := chain_shows hg; exact showP_ok hv rfl this.1 this.2
  · rw [h3]
    have hc : ((2 : Int) ^ M) = ((2 ^ M : Nat) : Int) := by simp
    show showP ts M [] (x : Int) (loadP ts M zer x) = 0
    rw [showP_set hv (by omega), if_pos ⟨rfl, by omega, by omega, by rw [Int.toNat_natCast]⟩]
end
end Go.Proofs.Ytgacbfckaglhbaa
namespace Go.Proofs.Ytgacbfckaglhbaa
open W Go.RowKit
/-- what the model's Bound answers -/
def IsRb (r : List Int × Int × Int) (er : Int) : RPost := fun u b G => ∃ c, u = .tuple #[c, .int .i64 r.2.1, .int .i64 r.2.2, .int .i64 er] ∧ b = [] ∧ G = [sI c r.1]
theorem setsF_one {M n : Nat} {ts : List Tk} {s : Bool × Int × Int} (h : n < 2 ^ M) : setsF (bStep ts M) (2 ^ M - n) n s = setsF (bStep ts M) (2 ^ M - (n + 1)) (n + 1) (bStep ts M s n).1 := by
  have : 2 ^ M - n = (2 ^ M - (n + 1)) + 1 := by omega
  rw [this, setsF]
  have h2 : (bStep ts M s n).2 = true := by unfold bStep; split <;> rfl
  rw [if_pos h2]
attribute [local irreducible] WC WL WD YO LO LoopEnd W.Fin Scalar SliceT FieldAt Row ArrT AllocT KnS Has W.One SrcE IntT
set_option maxHeartbeats 4000000 in
set_option maxRecDepth 8000 in
theorem rbound_c (v : Value) (avs : List Value) (ts : List Tk) (m : Int) :
    FnB Try.prog 27 [v, .int .i64 m] [] [sT v avs ts, sA avs ts] (IsRb (if validE ts m = 0 then boundP ts m.toNat else ([], 0, 0)) (validE ts m)) := by
  refine fn_of [(0, v), (1, .int .i64 m)] 47 Try.func27 rfl Try.ntmps27 (by kernel_rfl) rfl (by repeat (first | exact Sub.nil _ | refine Sub.cons rfl ?_)) fun h0 => ?_
  repeat' (first | refine go ?_ | refine goX ?_ | refine goB ?_ | (refine goG ?_; intro g) | (refine goV ?_; intro v))
  first | refine WL.callV (rvalid_c v avs ts m) ?_ | refine WD.callV (rvalid_c v avs ts m) ?_
  by_cases h : validE ts m = 0
  · obtain ⟨hl, M, rfl, hM1, hM4, hg⟩ := validE_0 h
    rw [h, if_pos rfl, show (M : Int).toNat = M from rfl]
    have hp := pow_16 (M := M) (by omega)
    have hp1 := pow_1 M
    have hpn := pow_nat M
    have e5 := pow_e M
    have c5 : (1 : Int) * 2 ^ ((M : Int)).toNat ≤ 9223372036854775807 := by rw [e5]; omega
    have c6 : 0 ≤ (1 : Int) * 2 ^ ((M : Int)).toNat := by rw [e5]; omega
    have hpw : 2 ^ M ≤ 16 := by
      have : M = 0 ∨ M = 1 ∨ M = 2 ∨ M = 3 ∨ M = 4 := by omega
      rcases this with rfl | rfl | rfl | rfl | rfl <;> decide
    have hp0 : 1 ≤ 2 ^ M := Nat.one_le_two_pow
    obtain ⟨hq1, hq2⟩ := chains_eq hg
    repeat' (first | refine go ?_ | refine goX ?_ | refine goB ?_ | (refine goG ?_; intro g) | (refine goV ?_; intro v))
    refine WL.fact (sI (.slice none 0 0) []) sI_nil ?_
    refine WL.callG [] _ (.refl _) (chains_c v avs ts M hg hl (ts.length + 1) (.slice none 0 0) (.slice none 0 0) [] [] (by show (ts.length : Int) < _ + ((-1 : Int) + 1); omega) ChOK_nil ChOK_nil) ?_
    rintro c _ _ ⟨rfl, rfl⟩
    simp only [List.nil_append, List.cons_append]
    rw [hq1]
    have hol := (chS_ok (good_time hg) ts.length).ol
    have hok : lnk ts (chainP ts).1 (chainP ts).1.length := (ch_inv hg ts.length (Nat.le_refl _)).2.1
    repeat' (first | refine go ?_ | refine goX ?_ | refine goB ?_ | (refine goG ?_; intro g) | (refine goV ?_; intro v))
    refine WL.callG [] _ (.refl _) (time_c v c avs ts (chainP ts).1) ?_
    rintro _ _ _ ⟨z1, q1, rfl, rfl, rfl, ha1, ha2, ha3⟩
    simp only [List.nil_append]
    obtain rfl := ha1.2 hok
    obtain rfl : z1 = (chainP ts).2 := by rw [← hq2]; exact ha3 rfl (good_time hg) (by show (chS ts ts.length).out.length ≤ 1000; omega)
    clear ha1 ha2 ha3
    repeat' (first | refine go ?_ | refine goX ?_ | refine goB ?_ | (refine goG ?_; intro g) | (refine goV ?_; intro v))
    have hbp : boundP ts M = (if (boundS ts M).1 then (chainP ts).1 else [], (boundS ts M).2.1, (boundS ts M).2.2) := rfl
    refine WC.lp (σ := Nat × (Bool × Int × Int)) (fun s => [(13, .int .i64 (s.1 : Int)), (12, .int .i64 s.2.2.1), (10, .int .i64 s.2.2.2), (9, if s.2.1 then c else .slice none 0 0), (0, v), (1, .int .i64 M)]) (fun _ => []) (fun _ => [ge h0, sT v avs ts, sA avs ts, sI c (chainP ts).1, sI (.slice none 0 0) []]) (fun s => 1 ≤ s.1 ∧ s.1 ≤ 2 ^ M ∧ setsF (bStep ts M) (2 ^ M - s.1) s.1 s.2 = boundS ts M) (fun s => 2 ^ M - s.1) (1, (true, 0, (chainP ts).2)) ⟨by simp, hp0, rfl⟩ ?_
    rintro ⟨s, b, x, l⟩ ⟨hs1, hs2, hs3⟩
    simp only at hs1 hs2 hs3 ⊢
    by_cases hlt : s < 2 ^ M
    · have hsl : (s : Int) < 1 * 2 ^ ((M : Int)).toNat := by rw [e5]; omega
      have hone := setsF_one (ts := ts) (s := (b, x, l)) hlt
      rw [hs3] at hone
      repeat' (first | refine go ?_ | refine goX ?_ | refine goB ?_ | (refine goG ?_; intro g) | (refine goV ?_; intro v))
      refine WL.callG [] _ (.refl _) (Ldn.rload_c v avs ts s hs1 (by omega)) ?_
      rintro _ _ _ ⟨z, rfl, rfl, rfl, hz⟩
      simp only [List.nil_append]
      have hz := hz M hg hl hM4
      subst hz
      by_cases c1 : l < loadP ts M zer s
      · have e : (bStep ts M (b, x, l) s).1 = (false, (s : Int), loadP ts M zer s) := by rw [bStep, if_pos c1]
        rw [e] at hone
        repeat' (first | refine go ?_ | refine goX ?_ | refine goB ?_ | (refine goG ?_; intro g) | (refine goV ?_; intro v))
        exact LoopEnd.mk (s + 1, (false, (s : Int), loadP ts M zer s)) ⟨by show 1 ≤ s + 1; omega, by show s + 1 ≤ 2 ^ M; omega, hone.symm⟩ (by show 2 ^ M - (s + 1) < 2 ^ M - s; omega)
      · have e : (bStep ts M (b, x, l) s).1 = (b, x, l) := by rw [bStep, if_neg c1]
        rw [e] at hone
        repeat' (first | refine go ?_ | refine goX ?_ | refine goB ?_ | (refine goG ?_; intro g) | (refine goV ?_; intro v))
        exact LoopEnd.mk (s + 1, (b, x, l)) ⟨by show 1 ≤ s + 1; omega, by show s + 1 ≤ 2 ^ M; omega, hone.symm⟩ (by show 2 ^ M - (s + 1) < 2 ^ M - s; omega)
    · have hsl : ¬ (s : Int) < 1 * 2 ^ ((M : Int)).toNat := by rw [e5]; omega
      have hse : s = 2 ^ M := by omega
      rw [hse, Nat.sub_self, setsF] at hs3
      rw [hbp, ← hs3]
      repeat' (first | refine go ?_ | refine goX ?_ | refine goB ?_ | (refine goG ?_; intro g) | (refine goV ?_; intro v))
      refine WC.ret ?_
      cases b with
      | true => exact Fin.p [] [sI c (chainP ts).1] (ResE.t4 rfl rfl rfl rfl rfl) (by (repeat (first | exact List.Mem.head _ | apply List.Mem.tail)); done) (List.nil_sublist _) (by repeat (first | exact HasAll.nil | (apply HasAll.cons; (first | (focus (apply Has.mem; (repeat (first | exact List.Mem.head _ | apply List.Mem.tail)); done)) | (focus (apply hasA; (focus (apply Has.mem; (repeat (first | exact List.Mem.head _ | apply List.Mem.tail)); done)); omega; done)) | (focus (apply Has.sc; (focus (apply Has.mem; (repeat (first | exact List.Mem.head _ | apply List.Mem.tail)); done)); omega; omega; omega; done)))))) ⟨c, rfl, rfl, rfl⟩
      | false => exact Fin.p [] [sI (.slice none 0 0) []] (ResE.t4 rfl rfl rfl rfl rfl) (by (repeat (first | exact List.Mem.head _ | apply List.Mem.tail)); done) (List.nil_sublist _) (by repeat (first | exact HasAll.nil | (apply HasAll.cons; (first | (focus (apply Has.mem; (repeat (first | exact List.Mem.head _ | apply List.Mem.tail)); done)) | (focus (apply hasA; (focus (apply Has.mem; (repeat (first | exact List.Mem.head _ | apply List.Mem.tail)); done)); omega; done)) | (focus (apply Has.sc; (focus (apply Has.mem; (repeat (first | exact List.Mem.head _ | apply List.Mem.tail)); done)); omega; omega; omega; done)))))) ⟨_, rfl, rfl, rfl⟩
  · rw [if_neg h]
    repeat' (first | refine go ?_ | refine goX ?_ | refine goB ?_ | (refine goG ?_; intro g) | (refine goV ?_; intro v))
    refine WC.fact (sI (.slice none 0 0) []) sI_nil ?_
    refine WC.ret ?_
    exact Fin.p [] [sI (.slice none 0 0) []] (ResE.t4 rfl rfl rfl rfl rfl) (by (repeat (first | exact List.Mem.head _ | apply List.Mem.tail)); done) (List.nil_sublist _) (by repeat (first | exact HasAll.nil | (apply HasAll.cons; (first | (focus (apply Has.mem; (repeat (first | exact List.Mem.head _ | apply List.Mem.tail)); done)) | (focus (apply hasA; (focus (apply Has.mem; (repeat (first | exact List.Mem.head _ | apply List.Mem.tail)); done)); omega; done)) | (focus (apply Has.sc; (focus (apply Has.mem; (repeat (first | exact List.Mem.head _ | apply List.Mem.tail)); done)); omega; omega; omega; done)))))) ⟨_, rfl, rfl, rfl⟩
end Go.Proofs.Ytgacbfckaglhbaa
namespace Go.Proofs.Ytgacbfckaglhbaa
structure Gen (ts : List Tk) (M : Nat) (most : Nat) : Prop where
  g : AllGood M ts
  M1 : 1 ≤ M
  M3 : M ≤ 3
  n : ts.length ≤ most
  i : TI64 ts
  a : ∀ i, (tg ts i).after.length ≤ 100
  t : ∀ i, i < ts.length → (tg ts i).time ≤ 9
theorem gen_tasks (l : List Int) (most : Nat) (hm : most ≤ 10) : ∃ M : Nat, machP l = M ∧ Gen (tasksP l most) M most := by
  have hg : AllGood (machP l).toNat (tasksP l most) := tasks_good l (cntP l most)
  have hmb := mach_bd l
  have htl : (tasksP l most).length ≤ most := by rw [tasksN_len, cntP]; omega
  refine ⟨(machP l).toNat, by omega, hg, by omega, by omega, htl, good_i64 hg (by omega) (by omega), fun i => ?_, fun i hi => ?_⟩
  rotate_left
  · rw [tasksN_get (by rw [tasksN_len] at hi; exact hi)]
    have := atP_bd (l := l) (i := 3 * (i : Int) + 1) (m := 9) (by decide)
    show 1 + atP l (3 * (i : Int) + 1) 9 ≤ 9
    omega
  by_cases hi : i < cntP l most
  · rw [tasksN_get hi]
    have := aft_len (y := tyP l i) i
    have : cntP l most ≤ most := by rw [cntP]; omega
    show (aftP (tyP l i) i).length ≤ 100
    omega
  · have : tg (tasksP l most) i = tk0 := by simp [tg, List.getD_eq_getElem?_getD, tasksN_len, List.getElem?_eq_none, hi]
    rw [this]; simp [tk0]
end Go.Proofs.Ytgacbfckaglhbaa
namespace Go.Proofs.Ytgacbfckaglhbaa
open W Go.RowKit
def cellsP : List Value → List Int → List Int → List Value
  | v :: vs, o :: O, n :: N => v :: .int .i64 o :: .int .i64 n :: cellsP vs O N
  | _, _, _ => []
theorem cellsP_len : ∀ {vs : List Value} {O N : List Int} {k : Nat}, vs.length = k → O.length = k → N.length = k → (cellsP vs O N).length = k * 3
  | [], _, _, k, h, _, _ => by simp at h; subst h; simp [cellsP]
  | _ :: _, [], _, k, h, h2, _ => by simp at h h2; omega
  | _ :: _, _ :: _, [], k, h, _, h2 => by simp at h h2; omega
  | _ :: vs, _ :: O, _ :: N, 0, h, _, _ => by simp at h
  | _ :: vs, _ :: O, _ :: N, k + 1, h1, h2, h3 => by
    have := cellsP_len (vs := vs) (O := O) (N := N) (k := k) (by simpa using h1) (by simpa using h2) (by simpa using h3)
    simp [cellsP, this]; omega
theorem cellsP_get : ∀ {vs : List Value} {O N : List Int} {j k : Nat}, j < k → vs.length = k → O.length = k → N.length = k →
    (cellsP vs O N)[j * 3 + 0]? = some (vs.getD j undef) ∧ (cellsP vs O N)[j * 3 + 1]? = some (.int .i64 (O.getD j 0)) ∧ (cellsP vs O N)[j * 3 + 2]? = some (.int .i64 (N.getD j 0))
  | [], _, _, j, k, hj, h, _, _ => by simp at h; omega
  | _ :: _, [], _, j, k, hj, h, h2, _ => by simp at h2; omega
  | _ :: _, _ :: _, [], j, k, hj, h, _, h2 => by simp at h2; omega
  | v :: vs, o :: O, n :: N, 0, k, hj, h1, h2, h3 => ⟨rfl, rfl, rfl⟩
  | v :: vs, o :: O, n :: N, j + 1, k, hj, h1, h2, h3 => by
    have := cellsP_get (vs := vs) (O := O) (N := N) (j := j) (k := k - 1) (by omega) (by simp at h1; omega) (by simp at h2; omega) (by simp at h3; omega)
    have e : ∀ q, (j + 1) * 3 + q = (j * 3 + q) + 3 := fun q => by omega
    simp only [e, cellsP, List.getElem?_cons_succ, List.getD_cons_succ]
    exact this
theorem sC_cons {F : List Fct} {v : Value} {vs : List Value} {c : List Int} {C : List (List Int)} (h1 : Has F (sI v c)) (h2 : Has F (sC vs C 0)) : Has F (sC (v :: vs) (c :: C) 0) := fun ph hf j _ hj => by
  match j, hj with
  | 0, _ => exact h1 ph hf
  | j + 1, hj => exact h2 ph hf j (Nat.zero_le _) (by simpa using hj)
theorem sC_nil {F : List Fct} : Has F (sC [] [] 0) := fun _ _ _ _ hj => by simp at hj
section
variable {e : Env} {bx : List Ow} {F : List Fct} {ty : TypeId} {x y x1 x2 x3 x4 x5 x6 : Operand} {a b c d v yv : Value} {na : Nat} {i j o : Int} {K : RPost}
theorem YO.build53c (h1 : ev e x = some a) (h2 : ev e y = some (.int .i64 i)) (ka : KnS bx F a na) : YO Try.prog (.build 53 #[(0, x), (2, y)]) ty e bx F (.agg [a, .int .i64 0, .int .i64 i].toArray) := fun k fr ac w o hop hty hk ho => by
  obtain ⟨p1, q1, rfl, _⟩ := (ka fr w ho).is
  exact (YO.build (P := Try.prog) (bx := bx) (F := F) (ty := ty) (parts := [(0, x), (2, y)]) (.cons h1 (.cons h2 .nil)) fun w => run_build w 53 _ _ (by kernel_rfl)) k fr ac w o hop hty hk ho
theorem YO.build53d (h1 : ev e x1 = some (.int .i64 j)) (h2 : ev e x = some a) (h3 : ev e y = some (.int .i64 i)) (ka : KnS bx F a na) : YO Try.prog (.build 53 #[(1, x1), (0, x), (2, y)]) ty e bx F (.agg [a, .int .i64 j, .int .i64 i].toArray) := fun k fr ac w o hop hty hk ho => by
  obtain ⟨p1, q1, rfl, _⟩ := (ka fr w ho).is
  exact (YO.build (P := Try.prog) (bx := bx) (F := F) (ty := ty) (parts := [(1, x1), (0, x), (2, y)]) (.cons h1 (.cons h2 (.cons h3 .nil))) fun w => run_build w 53 _ _ (by kernel_rfl)) k fr ac w o hop hty hk ho
theorem cellsP_snoc : ∀ {vs : List Value} {O N : List Int} {k : Nat}, vs.length = k → O.length = k → N.length = k → cellsP vs O N ++ [a, .int .i64 i, .int .i64 j] = cellsP (vs ++ [a]) (O ++ [i]) (N ++ [j])
  | [], [], [], _, _, _, _ => rfl
  | [], _ :: _, _, k, h, h2, _ => by simp at h h2; omega
  | [], [], _ :: _, k, h, _, h2 => by simp at h h2; omega
  | _ :: _, [], _, k, h, h2, _ => by simp at h h2; omega
  | _ :: _, _ :: _, [], k, h, _, h2 => by simp at h h2; omega
  | _ :: vs, _ :: O, _ :: N, 0, h, _, _ => by simp at h
  | _ :: vs, _ :: O, _ :: N, k + 1, h1, h2, h3 => by
    have := cellsP_snoc (vs := vs) (O := O) (N := N) (k := k) (by simpa using h1) (by simpa using h2) (by simpa using h3)
    simp only [cellsP, List.cons_append, this]
theorem sC_snoc {vs : List Value} {C : List (List Int)} {c : List Int} (hl : vs.length = C.length) (h2 : Has F (sC vs C 0)) (h1 : Has F (sI v c)) : Has F (sC (vs ++ [v]) (C ++ [c]) 0) := fun ph hf j h0 hj => by
  by_cases hj2 : j < C.length
  · have := h2 ph hf j h0 hj2
    rwa [List.getD_eq_getElem?_getD, List.getD_eq_getElem?_getD, List.getElem?_append_left (by omega), List.getElem?_append_left hj2, ← List.getD_eq_getElem?_getD, ← List.getD_eq_getElem?_getD]
  · have he : j = C.length := by simp at hj; omega
    have := h1 ph hf
    rw [List.getD_eq_getElem?_getD, List.getD_eq_getElem?_getD, List.getElem?_append_right (by omega), List.getElem?_append_right (by omega)]
    simpa [he, hl] using this
def pcell (vs : List Value) (O N : List Int) (j : Nat) : Value := if j % 3 = 0 then vs.getD (j / 3) undef else if j % 3 = 1 then .int .i64 (O.getD (j / 3) 0) else .int .i64 (N.getD (j / 3) 0)
section
variable {vs : List Value} {O N : List Int} {k : Nat} {P : Program} {t ty' : TypeId}
theorem pcell0 (k : Nat) : pcell vs O N (k * 3 + 0) = vs.getD k undef := by unfold pcell; rw [if_pos (by omega), show (k * 3 + 0) / 3 = k by omega]
theorem pcell1 (k : Nat) : pcell vs O N (k * 3 + 1) = .int .i64 (O.getD k 0) := by unfold pcell; rw [if_neg (by omega), if_pos (by omega), show (k * 3 + 1) / 3 = k by omega]
theorem pcell2 (k : Nat) : pcell vs O N (k * 3 + 2) = .int .i64 (N.getD k 0) := by unfold pcell; rw [if_neg (by omega), if_neg (by omega), show (k * 3 + 2) / 3 = k by omega]
theorem cellsP_cell {j : Nat} (h1 : O.length = vs.length) (h2 : N.length = vs.length) (hj : j < vs.length * 3) : (cellsP vs O N)[j]? = some (pcell vs O N j) := by
  have hp := cellsP_get (vs := vs) (O := O) (N := N) (j := j / 3) (k := vs.length) (by omega) rfl h1 h2
  have h := Nat.div_add_mod j 3
  rcases (show j % 3 = 0 ∨ j % 3 = 1 ∨ j % 3 = 2 by omega) with e | e | e
  · have : j = j / 3 * 3 + 0 := by omega
    rw [this, pcell0, ← this]; rw [← this] at hp; exact hp.1
  · have : j = j / 3 * 3 + 1 := by omega
    rw [this, pcell1, ← this]; have h3 := hp.2.1; rw [← this] at h3; exact h3
  · have : j = j / 3 * 3 + 2 := by omega
    rw [this, pcell2, ← this]; have h3 := hp.2.2; rw [← this] at h3; exact h3
abbrev sP (v : Value) (vs : List Value) (O N : List Int) : Fct := slC v vs.length 3 (pcell vs O N)
theorem ldP0 (hs : Scalar P t) (hx : ev e x = some (.pointer (some (eaddr v (k * 3 + 0))))) (hf : Has F (sP v vs O N)) (hk : k < vs.length) : YO P (.load t x) ty e bx F (vs.getD k undef) := by
  rw [← pcell0 (O := O) (N := N)]; exact YO.ldS hs hx hf (by omega)
theorem ldP1 (hs : Scalar P t) (hx : ev e x = some (.pointer (some (eaddr v (k * 3 + 1))))) (hf : Has F (sP v vs O N)) (hk : k < vs.length) : YO P (.load t x) ty e bx F (.int .i64 (O.getD k 0)) := by
  rw [← pcell1 (vs := vs) (N := N)]; exact YO.ldS hs hx hf (by omega)
theorem ldP2 (hs : Scalar P t) (hx : ev e x = some (.pointer (some (eaddr v (k * 3 + 2))))) (hf : Has F (sP v vs O N)) (hk : k < vs.length) : YO P (.load t x) ty e bx F (.int .i64 (N.getD k 0)) := by
  rw [← pcell2 (vs := vs) (O := O)]; exact YO.ldS hs hx hf (by omega)
theorem ldP (hs : Row P t 3) (hx : ev e x = some (.pointer (some (eaddr v (k * 3))))) (hf : Has F (sP v vs O N)) (hk : k < vs.length) :
    YO P (.load t x) ty e bx F (.agg [vs.getD k undef, .int .i64 (O.getD k 0), .int .i64 (N.getD k 0)].toArray) := by
  refine YO.ldRS (us := [vs.getD k undef, .int .i64 (O.getD k 0), .int .i64 (N.getD k 0)]) hs hx hf (by omega) rfl fun i hi => ?_
  match i, hi with
  | 0, _ => exact congrArg some (pcell0 k).symm
  | 1, _ => exact congrArg some (pcell1 k).symm
  | 2, _ => exact congrArg some (pcell2 k).symm
end
abbrev tri (a : Value) (i j : Int) : Value := .agg [a, .int .i64 i, .int .i64 j].toArray
variable {p1 p2 p3 p4 p5 p6 : Value} {n1 n2 n3 n4 n5 n6 : Nat} {o1 o2 o3 o4 o5 o6 l1 l2 l3 l4 l5 l6 : Int}
theorem LO.bs60 (h1 : ev e x1 = some (tri p1 o1 l1)) (h2 : ev e x2 = some (tri p2 o2 l2)) (h3 : ev e x3 = some (tri p3 o3 l3)) (h4 : ev e x4 = some (tri p4 o4 l4)) (h5 : ev e x5 = some (tri p5 o5 l5)) (h6 : ev e x6 = some (tri p6 o6 l6))
    (k1 : KnS bx F p1 n1) (k2 : KnS bx F p2 n2) (k3 : KnS bx F p3 n3) (k4 : KnS bx F p4 n4) (k5 : KnS bx F p5 n5) (k6 : KnS bx F p6 n6)
    (h : ∀ v, K v (Ow.slice v 53 3 (cellsP [p1, p2, p3, p4, p5, p6] [o1, o2, o3, o4, o5, o6] [l1, l2, l3, l4, l5, l6]) :: bx) F) : LO Try.prog (.buildSlice 60 6 #[(0, x1), (1, x2), (2, x3), (3, x4), (4, x5), (5, x6)]) ty e bx F K := fun k fr ac w o next Q' hop hty hk ho hn => by
  obtain ⟨a1, q1, rfl, _⟩ := (k1 fr w ho).is
  obtain ⟨a2, q2, rfl, _⟩ := (k2 fr w ho).is
  obtain ⟨a3, q3, rfl, _⟩ := (k3 fr w ho).is
  obtain ⟨a4, q4, rfl, _⟩ := (k4 fr w ho).is
  obtain ⟨a5, q5, rfl, _⟩ := (k5 fr w ho).is
  obtain ⟨a6, q6, rfl, _⟩ := (k6 fr w ho).is
  exact LO.buildSlice (P := Try.prog) (t := 60) (el := 53) (sz := 3) (len := 6) (parts := [(0, x1), (1, x2), (2, x3), (3, x4), (4, x5), (5, x6)]) (.cons h1 (.cons h2 (.cons h3 (.cons h4 (.cons h5 (.cons h6 .nil)))))) (fun w => by kernel_rfl) rfl (by decide) h k fr ac w o next Q' hop hty hk ho hn
theorem LO.bs60one (h1 : ev e x1 = some (tri p1 o1 l1)) (k1 : KnS bx F p1 n1) (h : ∀ v, K v (Ow.slice v 53 3 [p1, .int .i64 o1, .int .i64 l1] :: bx) F) : LO Try.prog (.buildSlice 60 1 #[(0, x1)]) ty e bx F K := fun k fr ac w o next Q' hop hty hk ho hn => by
  obtain ⟨a1, q1, rfl, _⟩ := (k1 fr w ho).is
  exact LO.buildSlice (P := Try.prog) (t := 60) (el := 53) (sz := 3) (len := 1) (parts := [(0, x1)]) (.cons h1 .nil) (fun w => by kernel_rfl) rfl (by decide) h k fr ac w o next Q' hop hty hk ho hn
theorem LO.appP {cs : List Value} {bx' : Value → List Ow} (hx : ev e x = some v) (hy : ev e y = some yv) (hs : ∀ v', Sel bx (.slice v 53 3 cs) (.slice v' 53 3 (cs ++ [p1, .int .i64 o1, .int .i64 l1])) (bx' v')) (hsrc : Ow.slice yv 53 3 [p1, .int .i64 o1, .int .i64 l1] ∈ bx) (k1 : KnS bx F p1 n1) (hl : cs.length ≤ 100)
    (h : ∀ v', K v' (bx' v') F) : LO Try.prog (.call { callee := .builtin .append, args := #[x, y], argTypes := #[60, 60] }) ty e bx F K := fun k fr ac w o next Q' hop hty hk ho hn => by
  obtain ⟨a1, q1, rfl, _⟩ := (k1 fr w ho).is
  exact LO.append T.e60 hx hy (cs := cs) (bx' := bx') hs (SrcE.own (n := 1) hsrc rfl (by decide)) (by intro u hu; simp at hu; rcases hu with rfl | rfl | rfl <;> rfl) (by simp; omega) (by simp; omega) h k fr ac w o next Q' hop hty hk ho hn
end
namespace Lbd
attribute [local irreducible] WC WL WD YO LO LoopEnd W.Fin Scalar SliceT FieldAt Row ArrT AllocT KnS Has W.One SrcE IntT
theorem goB {G G' : Prop} (h : G') (s : Bx G' → G := by
  intro h
  first
    | (apply WL.k_build; (first | (apply YO.build53c; exact rfl; exact rfl; (first | (focus (apply KnS.f; (focus (apply Has.mem; (repeat (first | exact List.Mem.head _ | apply List.Mem.tail)); done)); done)) | (focus (apply KnS.oI; (repeat (first | exact List.Mem.head _ | apply List.Mem.tail)); done)) | (focus (apply KnS.o1; (repeat (first | exact List.Mem.head _ | apply List.Mem.tail)); done)) | (focus (apply KnS.f; apply hasA; (focus (apply Has.mem; (repeat (first | exact List.Mem.head _ | apply List.Mem.tail)); done)); omega; done)))) | (apply YO.build53d; exact rfl; exact rfl; exact rfl; (first | (focus (apply KnS.f; (focus (apply Has.mem; (repeat (first | exact List.Mem.head _ | apply List.Mem.tail)); done)); done)) | (focus (apply KnS.oI; (repeat (first | exact List.Mem.head _ | apply List.Mem.tail)); done)) | (focus (apply KnS.o1; (repeat (first | exact List.Mem.head _ | apply List.Mem.tail)); done)) | (focus (apply KnS.f; apply hasA; (focus (apply Has.mem; (repeat (first | exact List.Mem.head _ | apply List.Mem.tail)); done)); omega; done)))) | (apply YO.build53; exact rfl; exact rfl)); exact rfl; exact rfl)
    | (apply WL.k_add; (apply YO.wadd; exact rfl; exact rfl); exact rfl; exact rfl)
    | (apply WL.k_load; (apply YO.ldW0; exact T.r53; exact rfl; (repeat (first | exact List.Mem.head _ | apply List.Mem.tail)); exact rfl); exact rfl; exact rfl)
    | (apply WD.k_load; exact rfl; (first | (apply ldP0; (first | exact T.sc3 | exact T.sc4 | exact T.sc5 | exact T.sc9 | exact T.sc22 | exact T.sc23 | exact T.sc28 | exact T.sc39 | exact T.sc44 | exact T.sc46 | exact T.sc51 | exact T.sc60 | exact T.sc66 | exact T.sc72 | exact T.sc84 | exact T.sc90 | exact T.sc91 | exact T.sc106 | exact T.sc108 | exact T.sc110); exact rfl; exact (Has.mem (by (repeat (first | exact List.Mem.head _ | apply List.Mem.tail)); done)); omega) | (apply ldP1; (first | exact T.sc3 | exact T.sc4 | exact T.sc5 | exact T.sc9 | exact T.sc22 | exact T.sc23 | exact T.sc28 | exact T.sc39 | exact T.sc44 | exact T.sc46 | exact T.sc51 | exact T.sc60 | exact T.sc66 | exact T.sc72 | exact T.sc84 | exact T.sc90 | exact T.sc91 | exact T.sc106 | exact T.sc108 | exact T.sc110); exact rfl; exact (Has.mem (by (repeat (first | exact List.Mem.head _ | apply List.Mem.tail)); done)); omega) | (apply ldP2; (first | exact T.sc3 | exact T.sc4 | exact T.sc5 | exact T.sc9 | exact T.sc22 | exact T.sc23 | exact T.sc28 | exact T.sc39 | exact T.sc44 | exact T.sc46 | exact T.sc51 | exact T.sc60 | exact T.sc66 | exact T.sc72 | exact T.sc84 | exact T.sc90 | exact T.sc91 | exact T.sc106 | exact T.sc108 | exact T.sc110); exact rfl; exact (Has.mem (by (repeat (first | exact List.Mem.head _ | apply List.Mem.tail)); done)); omega) | (apply ldP; exact T.r53; exact rfl; exact (Has.mem (by (repeat (first | exact List.Mem.head _ | apply List.Mem.tail)); done)); omega)); exact rfl; exact rfl)
  exact Bx.h h) : G := s ⟨h⟩
set_option maxHeartbeats 8000000 in
set_option maxRecDepth 8000 in
theorem lbounds_c (v0 v3 : Value) (l chain : List Int) (how byv on n : Int) (h0l : ∀ x ∈ l, I64 x) (_ : ∀ x ∈ chain, I64 x) (hh : I64 how) (hb : I64 byv) (hon : I64 on) (_ : I64 n) :
    FnB Try.prog 7 [v0, .int .i64 how, .int .i64 byv, v3, .int .i64 on, .int .i64 n] [] [sI v0 l, sI v3 chain] (IsV (.bool true)) := by
  refine fn_of [(0, v0), (1, .int .i64 how), (2, .int .i64 byv), (3, v3), (4, .int .i64 on), (5, .int .i64 n)] 161 Try.func7 rfl Try.ntmps7 (by kernel_rfl) rfl (by repeat (first | exact Sub.nil _ | refine Sub.cons rfl ?_)) fun h0 => ?_
  repeat' (first | refine go ?_ | refine goX ?_ | refine goB ?_ | (refine goG ?_; intro g) | (refine goV ?_; intro v) | refine goD ?_ | refine goXD ?_ | (refine goDG ?_; intro g) | (refine goDV ?_; intro v) | (apply WC.draw (id := 19) [0, 1, 2, 3, 4, 5, 7, 8, 9, 10, 11, 12, 13, 14, 15, 16, 17, 18, 19, 20, 21, 22, 23, 25] (.held 0 (.held 1 (.held 2 (.held 3 (.held 4 (.held 5 (.held 7 (.held 8 (.held 9 (.held 10 (.held 11 (.held 12 (.held 13 (.held 14 (.held 15 (.held 16 (.held 17 (.held 18 (.held 19 (.held 20 (.held 21 (.held 22 (.held 23 (.loud 6 (.loud 24 (.held 25 (.done))))))))))))))))))))))))))) mixed (by kernel_rfl)))
  refine WL.callG [] _ (.refl _) (tasks_c v0 l 7 (by decide) h0l) ?_
  rintro u0 _ _ ⟨avs0, rfl, rfl⟩
  simp only [List.nil_append, List.cons_append]
  obtain ⟨M, hM, hgen⟩ := gen_tasks l 7 (by decide)
  generalize hts : tasksP l 7 = ts at *
  have htl := hgen.n
  have hti := hgen.i
  have hta := hgen.a
  have hmb := mach_bd l
  repeat' (first | refine go ?_ | refine goX ?_ | refine goB ?_ | (refine goG ?_; intro g) | (refine goV ?_; intro v) | refine goD ?_ | refine goXD ?_ | (refine goDG ?_; intro g) | (refine goDV ?_; intro v) | (apply WC.draw (id := 19) [0, 1, 2, 3, 4, 5, 7, 8, 9, 10, 11, 12, 13, 14, 15, 16, 17, 18, 19, 20, 21, 22, 23, 25] (.held 0 (.held 1 (.held 2 (.held 3 (.held 4 (.held 5 (.held 7 (.held 8 (.held 9 (.held 10 (.held 11 (.held 12 (.held 13 (.held 14 (.held 15 (.held 16 (.held 17 (.held 18 (.held 19 (.held 20 (.held 21 (.held 22 (.held 23 (.loud 6 (.loud 24 (.held 25 (.done))))))))))))))))))))))))))) mixed (by kernel_rfl)))
  first | refine WL.callV (machines_c v0 l h0l) ?_ | refine WD.callV (machines_c v0 l h0l) ?_
  rw [show 1 + atP l 0 3 = machP l from rfl]
  repeat' (first | refine go ?_ | refine goX ?_ | refine goB ?_ | (refine goG ?_; intro g) | (refine goV ?_; intro v) | refine goD ?_ | refine goXD ?_ | (refine goDG ?_; intro g) | (refine goDV ?_; intro v) | (apply WC.draw (id := 19) [0, 1, 2, 3, 4, 5, 7, 8, 9, 10, 11, 12, 13, 14, 15, 16, 17, 18, 19, 20, 21, 22, 23, 25] (.held 0 (.held 1 (.held 2 (.held 3 (.held 4 (.held 5 (.held 7 (.held 8 (.held 9 (.held 10 (.held 11 (.held 12 (.held 13 (.held 14 (.held 15 (.held 16 (.held 17 (.held 18 (.held 19 (.held 20 (.held 21 (.held 22 (.held 23 (.loud 6 (.loud 24 (.held 25 (.done))))))))))))))))))))))))))) mixed (by kernel_rfl)))
  refine WL.callG [] _ (.refl _) (Bnt.bent_c u0 avs0 ts (machP l) how byv (by omega) hta hh hb) ?_
  rintro _ _ _ ⟨u1, avs1, rfl, rfl, rfl⟩
  simp only [List.nil_append, List.cons_append]
  have hti1 := bent_i64 (m := machP l) (how := how) (byv := byv) hti (by omega) hb
  generalize hbp : bentP ts (machP l) how byv = bp at *
  obtain ⟨ts1, m1⟩ := bp
  repeat' (first | refine go ?_ | refine goX ?_ | refine goB ?_ | (refine goG ?_; intro g) | (refine goV ?_; intro v) | refine goD ?_ | refine goXD ?_ | (refine goDG ?_; intro g) | (refine goDV ?_; intro v) | (apply WC.draw (id := 19) [0, 1, 2, 3, 4, 5, 7, 8, 9, 10, 11, 12, 13, 14, 15, 16, 17, 18, 19, 20, 21, 22, 23, 25] (.held 0 (.held 1 (.held 2 (.held 3 (.held 4 (.held 5 (.held 7 (.held 8 (.held 9 (.held 10 (.held 11 (.held 12 (.held 13 (.held 14 (.held 15 (.held 16 (.held 17 (.held 18 (.held 19 (.held 20 (.held 21 (.held 22 (.held 23 (.loud 6 (.loud 24 (.held 25 (.done))))))))))))))))))))))))))) mixed (by kernel_rfl)))
  refine WC.lp (σ := Nat × Value × List Value × List Tk × Int) (fun s => [(17, .int .i64 (s.1 : Int)), (13, s.2.1), (14, .int .i64 s.2.2.2.2), (15, u1), (16, .int .i64 m1), (3, v3), (4, .int .i64 on), (5, .int .i64 n)]) (fun _ => [])
    (fun s => [ge h0, sT s.2.1 s.2.2.1 s.2.2.2.1, sA s.2.2.1 s.2.2.2.1, sT u1 avs1 ts1, sA avs1 ts1, sI v3 chain]) (fun s => s.1 ≤ 2 ∧ TI64 s.2.2.2.1) (fun s => 2 - s.1) (0, u0, avs0, ts, machP l) ⟨by simp, hti⟩ ?_
  rintro ⟨i, u, av, t, mm⟩ ⟨hi, ht⟩
  simp only at hi ht ⊢
  clear hti hta htl hgen hts hbp
  by_cases hi2 : i < 2
  · have hbd := bound_c u av t mm ht
    have hrb := rbound_c u av t mm
    have hbl : (if validE t mm = 0 then boundP t mm.toNat else ([], 0, 0)).1.length ≤ 100 ∧ I64 (if validE t mm = 0 then boundP t mm.toNat else ([], 0, 0)).2.1 := by
      by_cases hv : validE t mm = 0
      · rw [if_pos hv]
        obtain ⟨hl, M, rfl, hM1, hM4, hg⟩ := validE_0 hv
        have hol : (chainP t).1.length ≤ 100 := by have := (chS_ok (good_time hg) t.length).ol; show (chS t t.length).out.length ≤ 100; omega
        rw [show (M : Int).toNat = M from rfl]
        rcases bound_form (ts := t) (M := M) with h | ⟨x, h1, h2, h3⟩
        · rw [h]; exact ⟨hol, (by unfold I64; omega : I64 0)⟩
        · have : 2 ^ M ≤ 16 := by have := Nat.pow_le_pow_right (show 0 < 2 by decide) hM4; omega
          rw [h3]; exact ⟨by simp, by unfold I64; simp only; omega⟩
      · rw [if_neg hv]; exact ⟨by simp, by unfold I64; simp only; omega⟩
    generalize (if validE t mm = 0 then boundP t mm.toNat else ([], 0, 0)) = bp at *
    obtain ⟨bc, bo, bl⟩ := bp
    simp only at hbl
    repeat' (first | refine go ?_ | refine goX ?_ | refine goB ?_ | (refine goG ?_; intro g) | (refine goV ?_; intro v) | refine goD ?_ | refine goXD ?_ | (refine goDG ?_; intro g) | (refine goDV ?_; intro v) | (apply WC.draw (id := 19) [0, 1, 2, 3, 4, 5, 7, 8, 9, 10, 11, 12, 13, 14, 15, 16, 17, 18, 19, 20, 21, 22, 23, 25] (.held 0 (.held 1 (.held 2 (.held 3 (.held 4 (.held 5 (.held 7 (.held 8 (.held 9 (.held 10 (.held 11 (.held 12 (.held 13 (.held 14 (.held 15 (.held 16 (.held 17 (.held 18 (.held 19 (.held 20 (.held 21 (.held 22 (.held 23 (.loud 6 (.loud 24 (.held 25 (.done))))))))))))))))))))))))))) mixed (by kernel_rfl)))
    first | refine WL.callP (hbd) ?_ | refine WD.callP (hbd) ?_
    rintro _ _ _ ⟨c, rfl, rfl, rfl⟩
    simp only [List.cons_append, List.nil_append]
    refine WL.freezeI (el := 3) (v := c) (l := bc) (by repeat (first | exact Sel.head | apply Sel.tail)) ?_
    repeat' (first | refine go ?_ | refine goX ?_ | refine goB ?_ | (refine goG ?_; intro g) | (refine goV ?_; intro v) | refine goD ?_ | refine goXD ?_ | (refine goDG ?_; intro g) | (refine goDV ?_; intro v) | (apply WC.draw (id := 19) [0, 1, 2, 3, 4, 5, 7, 8, 9, 10, 11, 12, 13, 14, 15, 16, 17, 18, 19, 20, 21, 22, 23, 25] (.held 0 (.held 1 (.held 2 (.held 3 (.held 4 (.held 5 (.held 7 (.held 8 (.held 9 (.held 10 (.held 11 (.held 12 (.held 13 (.held 14 (.held 15 (.held 16 (.held 17 (.held 18 (.held 19 (.held 20 (.held 21 (.held 22 (.held 23 (.loud 6 (.loud 24 (.held 25 (.done))))))))))))))))))))))))))) mixed (by kernel_rfl)))
    revert g; intro gp
    refine WL.callG [] _ (.refl _) hrb ?_
    rintro _ _ _ ⟨rc, rfl, rfl, rfl⟩
    simp only [List.nil_append, List.cons_append]
    repeat' (first | refine go ?_ | refine goX ?_ | refine goB ?_ | (refine goG ?_; intro g) | (refine goV ?_; intro v) | refine goD ?_ | refine goXD ?_ | (refine goDG ?_; intro g) | (refine goDV ?_; intro v) | (apply WC.draw (id := 19) [0, 1, 2, 3, 4, 5, 7, 8, 9, 10, 11, 12, 13, 14, 15, 16, 17, 18, 19, 20, 21, 22, 23, 25] (.held 0 (.held 1 (.held 2 (.held 3 (.held 4 (.held 5 (.held 7 (.held 8 (.held 9 (.held 10 (.held 11 (.held 12 (.held 13 (.held 14 (.held 15 (.held 16 (.held 17 (.held 18 (.held 19 (.held 20 (.held 21 (.held 22 (.held 23 (.loud 6 (.loud 24 (.held 25 (.done))))))))))))))))))))))))))) mixed (by kernel_rfl)))
    first | refine WL.callV (sameInts_c c rc bc bc) ?_ | refine WD.callV (sameInts_c c rc bc bc) ?_
    rw [decide_eq_true rfl]
    repeat' (first | refine go ?_ | refine goX ?_ | refine goB ?_ | (refine goG ?_; intro g) | (refine goV ?_; intro v) | refine goD ?_ | refine goXD ?_ | (refine goDG ?_; intro g) | (refine goDV ?_; intro v) | (apply WC.draw (id := 19) [0, 1, 2, 3, 4, 5, 7, 8, 9, 10, 11, 12, 13, 14, 15, 16, 17, 18, 19, 20, 21, 22, 23, 25] (.held 0 (.held 1 (.held 2 (.held 3 (.held 4 (.held 5 (.held 7 (.held 8 (.held 9 (.held 10 (.held 11 (.held 12 (.held 13 (.held 14 (.held 15 (.held 16 (.held 17 (.held 18 (.held 19 (.held 20 (.held 21 (.held 22 (.held 23 (.loud 6 (.loud 24 (.held 25 (.done))))))))))))))))))))))))))) mixed (by kernel_rfl)))
    first | refine WL.callO (take_c v3 chain 4 (by decide)) (fun rv => ?_) | refine WD.callO (take_c v3 chain 4 (by decide)) (fun rv => ?_)
    revert rv; intro fv
    have hfl : (chain.take 4).length ≤ 100 := by simp; omega
    generalize chain.take 4 = few at *
    refine WL.freezeI (el := 3) (v := fv) (l := few) (by repeat (first | exact Sel.head | apply Sel.tail)) ?_
    repeat' (first | refine go ?_ | refine goX ?_ | refine goB ?_ | (refine goG ?_; intro g) | (refine goV ?_; intro v) | refine goD ?_ | refine goXD ?_ | (refine goDG ?_; intro g) | (refine goDV ?_; intro v) | (apply WC.draw (id := 19) [0, 1, 2, 3, 4, 5, 7, 8, 9, 10, 11, 12, 13, 14, 15, 16, 17, 18, 19, 20, 21, 22, 23, 25] (.held 0 (.held 1 (.held 2 (.held 3 (.held 4 (.held 5 (.held 7 (.held 8 (.held 9 (.held 10 (.held 11 (.held 12 (.held 13 (.held 14 (.held 15 (.held 16 (.held 17 (.held 18 (.held 19 (.held 20 (.held 21 (.held 22 (.held 23 (.loud 6 (.loud 24 (.held 25 (.done))))))))))))))))))))))))))) mixed (by kernel_rfl)))
    refine WL.callG [] _ (.refl _) (time_c u fv av t few) ?_
    rintro _ _ _ ⟨tm, q1, rfl, rfl, rfl, _⟩
    simp only [List.nil_append]
    refine WL.fact (sI (.slice none 0 0) []) sI_nil ?_
    repeat' (first | refine go ?_ | refine goX ?_ | refine goB ?_ | (refine goG ?_; intro g) | (refine goV ?_; intro v) | refine goD ?_ | refine goXD ?_ | (refine goDG ?_; intro g) | (refine goDV ?_; intro v) | (apply WC.draw (id := 19) [0, 1, 2, 3, 4, 5, 7, 8, 9, 10, 11, 12, 13, 14, 15, 16, 17, 18, 19, 20, 21, 22, 23, 25] (.held 0 (.held 1 (.held 2 (.held 3 (.held 4 (.held 5 (.held 7 (.held 8 (.held 9 (.held 10 (.held 11 (.held 12 (.held 13 (.held 14 (.held 15 (.held 16 (.held 17 (.held 18 (.held 19 (.held 20 (.held 21 (.held 22 (.held 23 (.loud 6 (.loud 24 (.held 25 (.done))))))))))))))))))))))))))) mixed (by kernel_rfl)))
    (apply WL.l; exact rfl; exact rfl; apply LO.bs60; exact rfl; exact rfl; exact rfl; exact rfl; exact rfl; exact rfl; (first | (focus (apply KnS.f; (focus (apply Has.mem; (repeat (first | exact List.Mem.head _ | apply List.Mem.tail)); done)); done)) | (focus (apply KnS.oI; (repeat (first | exact List.Mem.head _ | apply List.Mem.tail)); done)) | (focus (apply KnS.o1; (repeat (first | exact List.Mem.head _ | apply List.Mem.tail)); done)) | (focus (apply KnS.f; apply hasA; (focus (apply Has.mem; (repeat (first | exact List.Mem.head _ | apply List.Mem.tail)); done)); omega; done))); (first | (focus (apply KnS.f; (focus (apply Has.mem; (repeat (first | exact List.Mem.head _ | apply List.Mem.tail)); done)); done)) | (focus (apply KnS.oI; (repeat (first | exact List.Mem.head _ | apply List.Mem.tail)); done)) | (focus (apply KnS.o1; (repeat (first | exact List.Mem.head _ | apply List.Mem.tail)); done)) | (focus (apply KnS.f; apply hasA; (focus (apply Has.mem; (repeat (first | exact List.Mem.head _ | apply List.Mem.tail)); done)); omega; done))); (first | (focus (apply KnS.f; (focus (apply Has.mem; (repeat (first | exact List.Mem.head _ | apply List.Mem.tail)); done)); done)) | (focus (apply KnS.oI; (repeat (first | exact List.Mem.head _ | apply List.Mem.tail)); done)) | (focus (apply KnS.o1; (repeat (first | exact List.Mem.head _ | apply List.Mem.tail)); done)) | (focus (apply KnS.f; apply hasA; (focus (apply Has.mem; (repeat (first | exact List.Mem.head _ | apply List.Mem.tail)); done)); omega; done))); (first | (focus (apply KnS.f; (focus (apply Has.mem; (repeat (first | exact List.Mem.head _ | apply List.Mem.tail)); done)); done)) | (focus (apply KnS.oI; (repeat (first | exact List.Mem.head _ | apply List.Mem.tail)); done)) | (focus (apply KnS.o1; (repeat (first | exact List.Mem.head _ | apply List.Mem.tail)); done)) | (focus (apply KnS.f; apply hasA; (focus (apply Has.mem; (repeat (first | exact List.Mem.head _ | apply List.Mem.tail)); done)); omega; done))); (first | (focus (apply KnS.f; (focus (apply Has.mem; (repeat (first | exact List.Mem.head _ | apply List.Mem.tail)); done)); done)) | (focus (apply KnS.oI; (repeat (first | exact List.Mem.head _ | apply List.Mem.tail)); done)) | (focus (apply KnS.o1; (repeat (first | exact List.Mem.head _ | apply List.Mem.tail)); done)) | (focus (apply KnS.f; apply hasA; (focus (apply Has.mem; (repeat (first | exact List.Mem.head _ | apply List.Mem.tail)); done)); omega; done))); (first | (focus (apply KnS.f; (focus (apply Has.mem; (repeat (first | exact List.Mem.head _ | apply List.Mem.tail)); done)); done)) | (focus (apply KnS.oI; (repeat (first | exact List.Mem.head _ | apply List.Mem.tail)); done)) | (focus (apply KnS.o1; (repeat (first | exact List.Mem.head _ | apply List.Mem.tail)); done)) | (focus (apply KnS.f; apply hasA; (focus (apply Has.mem; (repeat (first | exact List.Mem.head _ | apply List.Mem.tail)); done)); omega; done))); intro pv0)
    refine WL.fact (sC [c, fv, fv, .slice none 0 0, fv, c] [bc, few, few, [], few, bc] 0) (sC_cons (Has.mem (by (repeat (first | exact List.Mem.head _ | apply List.Mem.tail)); done)) (sC_cons (Has.mem (by (repeat (first | exact List.Mem.head _ | apply List.Mem.tail)); done)) (sC_cons (Has.mem (by (repeat (first | exact List.Mem.head _ | apply List.Mem.tail)); done)) (sC_cons (Has.mem (by (repeat (first | exact List.Mem.head _ | apply List.Mem.tail)); done)) (sC_cons (Has.mem (by (repeat (first | exact List.Mem.head _ | apply List.Mem.tail)); done)) (sC_cons (Has.mem (by (repeat (first | exact List.Mem.head _ | apply List.Mem.tail)); done)) sC_nil)))))) ?_
    have hon4 : I64 0 := by unfold I64; omega
    have hOb : ∀ q, q < 6 → I64 ([bo, 0, 0, on, bo, bo].getD q 0) ∧ ([bc, few, few, [], few, bc].getD q []).length ≤ 100 := fun q hq => by
      match q, hq with
      | 0, _ => exact ⟨hbl.2, hbl.1⟩
      | 1, _ => exact ⟨hon4, hfl⟩
      | 2, _ => exact ⟨hon4, hfl⟩
      | 3, _ => exact ⟨hon, by simp⟩
      | 4, _ => exact ⟨hbl.2, hfl⟩
      | 5, _ => exact ⟨hbl.2, hbl.1⟩
    generalize hVS : [c, fv, fv, .slice none 0 0, fv, c] = VS
    generalize hOS : [bo, 0, 0, on, bo, bo] = OS at hOb
    generalize hCS : [bc, few, few, [], few, bc] = CS at hOb
    generalize hNS : [bl, tm, n, n, bl, IntKind.i64.wrap (bl + 1)] = NS
    have hVl : VS.length = 6 := by rw [← hVS]; rfl
    have hOl : OS.length = 6 := by rw [← hOS]; rfl
    have hCl : CS.length = 6 := by rw [← hCS]; rfl
    have hNl : NS.length = 6 := by rw [← hNS]; rfl
    clear hVS hOS hCS hNS hfl hbl hbd hrb
    by_cases dd : 0 < on ∧ on < 16
    focus
      obtain ⟨d1, d2⟩ := dd
      obtain ⟨o, rfl⟩ : ∃ o : Nat, on = o := ⟨on.toNat, by omega⟩
      repeat' (first | refine go ?_ | refine goX ?_ | refine goB ?_ | (refine goG ?_; intro g) | (refine goV ?_; intro v) | refine goD ?_ | refine goXD ?_ | (refine goDG ?_; intro g) | (refine goDV ?_; intro v) | (apply WC.draw (id := 19) [0, 1, 2, 3, 4, 5, 7, 8, 9, 10, 11, 12, 13, 14, 15, 16, 17, 18, 19, 20, 21, 22, 23, 25] (.held 0 (.held 1 (.held 2 (.held 3 (.held 4 (.held 5 (.held 7 (.held 8 (.held 9 (.held 10 (.held 11 (.held 12 (.held 13 (.held 14 (.held 15 (.held 16 (.held 17 (.held 18 (.held 19 (.held 20 (.held 21 (.held 22 (.held 23 (.loud 6 (.loud 24 (.held 25 (.done))))))))))))))))))))))))))) mixed (by kernel_rfl)))
      refine WL.callG [] _ (.refl _) (Ldn.rload_c u av t o (by omega) (by omega)) ?_
      rintro _ _ _ ⟨z, rfl, rfl, rfl, _⟩
      simp only [List.nil_append]
      repeat' (first | refine go ?_ | refine goX ?_ | refine goB ?_ | (refine goG ?_; intro g) | (refine goV ?_; intro v) | refine goD ?_ | refine goXD ?_ | (refine goDG ?_; intro g) | (refine goDV ?_; intro v) | (apply WC.draw (id := 19) [0, 1, 2, 3, 4, 5, 7, 8, 9, 10, 11, 12, 13, 14, 15, 16, 17, 18, 19, 20, 21, 22, 23, 25] (.held 0 (.held 1 (.held 2 (.held 3 (.held 4 (.held 5 (.held 7 (.held 8 (.held 9 (.held 10 (.held 11 (.held 12 (.held 13 (.held 14 (.held 15 (.held 16 (.held 17 (.held 18 (.held 19 (.held 20 (.held 21 (.held 22 (.held 23 (.loud 6 (.loud 24 (.held 25 (.done))))))))))))))))))))))))))) mixed (by kernel_rfl)))
      (apply WL.l; exact rfl; exact rfl; apply LO.bs60one; exact rfl; (first | (focus (apply KnS.f; (focus (apply Has.mem; (repeat (first | exact List.Mem.head _ | apply List.Mem.tail)); done)); done)) | (focus (apply KnS.oI; (repeat (first | exact List.Mem.head _ | apply List.Mem.tail)); done)) | (focus (apply KnS.o1; (repeat (first | exact List.Mem.head _ | apply List.Mem.tail)); done)) | (focus (apply KnS.f; apply hasA; (focus (apply Has.mem; (repeat (first | exact List.Mem.head _ | apply List.Mem.tail)); done)); omega; done))); intro pw)
      (apply WL.l; exact rfl; exact rfl; apply LO.appP; exact rfl; exact rfl; (intro v; (repeat (first | exact Sel.head | apply Sel.tail))); (repeat (first | exact List.Mem.head _ | apply List.Mem.tail)); (first | (focus (apply KnS.f; (focus (apply Has.mem; (repeat (first | exact List.Mem.head _ | apply List.Mem.tail)); done)); done)) | (focus (apply KnS.oI; (repeat (first | exact List.Mem.head _ | apply List.Mem.tail)); done)) | (focus (apply KnS.o1; (repeat (first | exact List.Mem.head _ | apply List.Mem.tail)); done)) | (focus (apply KnS.f; apply hasA; (focus (apply Has.mem; (repeat (first | exact List.Mem.head _ | apply List.Mem.tail)); done)); omega; done))); (rw [cellsP_len hVl hOl hNl]; decide); intro pv0)
      rw [cellsP_snoc hVl hOl hNl]
      refine WL.fact (sC (VS ++ [.slice none 0 0]) (CS ++ [[]]) 0) (sC_snoc (by omega) (Has.mem (by (repeat (first | exact List.Mem.head _ | apply List.Mem.tail)); done)) (Has.mem (by (repeat (first | exact List.Mem.head _ | apply List.Mem.tail)); done))) ?_
      have hOb2 : ∀ q, q < 7 → I64 ((OS ++ [(o : Int)]).getD q 0) ∧ ((CS ++ [[]]).getD q []).length ≤ 100 := fun q hq => by
        by_cases h6 : q < 6
        · rw [List.getD_eq_getElem?_getD, List.getD_eq_getElem?_getD, List.getElem?_append_left (by omega), List.getElem?_append_left (by omega), ← List.getD_eq_getElem?_getD, ← List.getD_eq_getElem?_getD]
          exact hOb q h6
        · obtain rfl : q = 6 := by omega
          rw [List.getD_eq_getElem?_getD, List.getD_eq_getElem?_getD, List.getElem?_append_right (by omega), List.getElem?_append_right (by omega)]
          simp [hOl, hCl]; exact hon
      have hV2 : (VS ++ [Value.slice none 0 0]).length = 7 := by simp [hVl]
      have hO2 : (OS ++ [(o : Int)]).length = 7 := by simp [hOl]
      have hC2 : (CS ++ [[]]).length = 7 := by simp [hCl]
      have hN2 : (NS ++ [z]).length = 7 := by simp [hNl]
      clear hVl hOl hCl hNl hOb
      generalize VS ++ [Value.slice none 0 0] = VS at *
      generalize OS ++ [(o : Int)] = OS at *
      generalize CS ++ [[]] = CS at *
      generalize NS ++ [z] = NS at *
      have hVl := hV2
      have hOl := hO2
      have hCl := hC2
      have hNl := hN2
      have hOb := hOb2
      generalize hX : (o : Int) = on at *
    rotate_left
    have hdd : (¬ 0 < on) ∨ (0 < on ∧ ¬ on < 16) := by omega
    rcases hdd with d1 | ⟨d1, d2⟩
    all_goals
      repeat' (first | refine go ?_ | refine goX ?_ | refine goB ?_ | (refine goG ?_; intro g) | (refine goV ?_; intro v) | refine goD ?_ | refine goXD ?_ | (refine goDG ?_; intro g) | (refine goDV ?_; intro v) | (apply WC.draw (id := 19) [0, 1, 2, 3, 4, 5, 7, 8, 9, 10, 11, 12, 13, 14, 15, 16, 17, 18, 19, 20, 21, 22, 23, 25] (.held 0 (.held 1 (.held 2 (.held 3 (.held 4 (.held 5 (.held 7 (.held 8 (.held 9 (.held 10 (.held 11 (.held 12 (.held 13 (.held 14 (.held 15 (.held 16 (.held 17 (.held 18 (.held 19 (.held 20 (.held 21 (.held 22 (.held 23 (.loud 6 (.loud 24 (.held 25 (.done))))))))))))))))))))))))))) mixed (by kernel_rfl)))
      refine WC.freeze (n := VS.length) (v := pv0) (by repeat (first | exact Sel.head | apply Sel.tail)) (cellsP_len rfl (by omega) (by omega)) (by decide) (pcell VS OS NS) (fun j hj => cellsP_cell (by omega) (by omega) hj) ?_
      refine WC.lp (σ := Nat) (fun j => [(28, .int .i64 (j : Int)), (27, pv0), (17, .int .i64 (i : Int)), (13, u), (14, .int .i64 mm), (15, u1), (16, .int .i64 m1), (3, v3), (4, .int .i64 on), (5, .int .i64 n)]) (fun _ => []) (fun _ => [ge h0, sP pv0 VS OS NS, sC VS CS 0, sT u av t, sA av t, sT u1 avs1 ts1, sA avs1 ts1, sI v3 chain]) (fun j => j ≤ VS.length) (fun j => VS.length - j) 0 (by omega) ?_
      rintro j hj
      by_cases hjl : j < VS.length
      · have hO := hOb j (by omega)
        refine WC.fact (sI (VS.getD j undef) (CS.getD j [])) (hasC (Has.mem (by (repeat (first | exact List.Mem.head _ | apply List.Mem.tail)); done)) (Nat.zero_le _) (by omega)) ?_
        have hck := checkBound_c u (VS.getD j undef) av t mm (OS.getD j 0) (NS.getD j 0) (CS.getD j []) ht hO.2 hO.1
        have hsh := shows_c u (VS.getD j undef) av t mm (OS.getD j 0) (NS.getD j 0) (CS.getD j []) (by omega)
        generalize showP t mm (CS.getD j []) (OS.getD j 0) (NS.getD j 0) = r at *
        repeat' (first | refine go ?_ | refine goX ?_ | refine goB ?_ | (refine goG ?_; intro g) | (refine goV ?_; intro v) | refine goD ?_ | refine goXD ?_ | (refine goDG ?_; intro g) | (refine goDV ?_; intro v) | (apply WC.draw (id := 19) [0, 1, 2, 3, 4, 5, 7, 8, 9, 10, 11, 12, 13, 14, 15, 16, 17, 18, 19, 20, 21, 22, 23, 25] (.held 0 (.held 1 (.held 2 (.held 3 (.held 4 (.held 5 (.held 7 (.held 8 (.held 9 (.held 10 (.held 11 (.held 12 (.held 13 (.held 14 (.held 15 (.held 16 (.held 17 (.held 18 (.held 19 (.held 20 (.held 21 (.held 22 (.held 23 (.loud 6 (.loud 24 (.held 25 (.done))))))))))))))))))))))))))) mixed (by kernel_rfl)))
        first | refine WL.callV (hck) ?_ | refine WD.callV (hck) ?_
        repeat' (first | refine go ?_ | refine goX ?_ | refine goB ?_ | (refine goG ?_; intro g) | (refine goV ?_; intro v) | refine goD ?_ | refine goXD ?_ | (refine goDG ?_; intro g) | (refine goDV ?_; intro v) | (apply WC.draw (id := 19) [0, 1, 2, 3, 4, 5, 7, 8, 9, 10, 11, 12, 13, 14, 15, 16, 17, 18, 19, 20, 21, 22, 23, 25] (.held 0 (.held 1 (.held 2 (.held 3 (.held 4 (.held 5 (.held 7 (.held 8 (.held 9 (.held 10 (.held 11 (.held 12 (.held 13 (.held 14 (.held 15 (.held 16 (.held 17 (.held 18 (.held 19 (.held 20 (.held 21 (.held 22 (.held 23 (.loud 6 (.loud 24 (.held 25 (.done))))))))))))))))))))))))))) mixed (by kernel_rfl)))
        rw [pcell0, pcell1, pcell2]
        first | refine WL.callV (hsh) ?_ | refine WD.callV (hsh) ?_
        repeat' (first | refine go ?_ | refine goX ?_ | refine goB ?_ | (refine goG ?_; intro g) | (refine goV ?_; intro v) | refine goD ?_ | refine goXD ?_ | (refine goDG ?_; intro g) | (refine goDV ?_; intro v) | (apply WC.draw (id := 19) [0, 1, 2, 3, 4, 5, 7, 8, 9, 10, 11, 12, 13, 14, 15, 16, 17, 18, 19, 20, 21, 22, 23, 25] (.held 0 (.held 1 (.held 2 (.held 3 (.held 4 (.held 5 (.held 7 (.held 8 (.held 9 (.held 10 (.held 11 (.held 12 (.held 13 (.held 14 (.held 15 (.held 16 (.held 17 (.held 18 (.held 19 (.held 20 (.held 21 (.held 22 (.held 23 (.loud 6 (.loud 24 (.held 25 (.done))))))))))))))))))))))))))) mixed (by kernel_rfl)))
        exact LoopEnd.mk (j + 1) (by omega) (by omega)
      · repeat' (first | refine go ?_ | refine goX ?_ | refine goB ?_ | (refine goG ?_; intro g) | (refine goV ?_; intro v) | refine goD ?_ | refine goXD ?_ | (refine goDG ?_; intro g) | (refine goDV ?_; intro v) | (apply WC.draw (id := 19) [0, 1, 2, 3, 4, 5, 7, 8, 9, 10, 11, 12, 13, 14, 15, 16, 17, 18, 19, 20, 21, 22, 23, 25] (.held 0 (.held 1 (.held 2 (.held 3 (.held 4 (.held 5 (.held 7 (.held 8 (.held 9 (.held 10 (.held 11 (.held 12 (.held 13 (.held 14 (.held 15 (.held 16 (.held 17 (.held 18 (.held 19 (.held 20 (.held 21 (.held 22 (.held 23 (.loud 6 (.loud 24 (.held 25 (.done))))))))))))))))))))))))))) mixed (by kernel_rfl)))
        exact LoopEnd.mk (i + 1, u1, avs1, ts1, m1) ⟨by show i + 1 ≤ 2; omega, hti1⟩ (by show 2 - (i + 1) < 2 - i; omega)
  · repeat' (first | refine go ?_ | refine goX ?_ | refine goB ?_ | (refine goG ?_; intro g) | (refine goV ?_; intro v) | refine goD ?_ | refine goXD ?_ | (refine goDG ?_; intro g) | (refine goDV ?_; intro v) | (apply WC.draw (id := 19) [0, 1, 2, 3, 4, 5, 7, 8, 9, 10, 11, 12, 13, 14, 15, 16, 17, 18, 19, 20, 21, 22, 23, 25] (.held 0 (.held 1 (.held 2 (.held 3 (.held 4 (.held 5 (.held 7 (.held 8 (.held 9 (.held 10 (.held 11 (.held 12 (.held 13 (.held 14 (.held 15 (.held 16 (.held 17 (.held 18 (.held 19 (.held 20 (.held 21 (.held 22 (.held 23 (.loud 6 (.loud 24 (.held 25 (.done))))))))))))))))))))))))))) mixed (by kernel_rfl)))
    first | refine WL.callV (lives_c) ?_ | refine WD.callV (lives_c) ?_
    repeat' (first | refine go ?_ | refine goX ?_ | refine goB ?_ | (refine goG ?_; intro g) | (refine goV ?_; intro v) | refine goD ?_ | refine goXD ?_ | (refine goDG ?_; intro g) | (refine goDV ?_; intro v) | (apply WC.draw (id := 19) [0, 1, 2, 3, 4, 5, 7, 8, 9, 10, 11, 12, 13, 14, 15, 16, 17, 18, 19, 20, 21, 22, 23, 25] (.held 0 (.held 1 (.held 2 (.held 3 (.held 4 (.held 5 (.held 7 (.held 8 (.held 9 (.held 10 (.held 11 (.held 12 (.held 13 (.held 14 (.held 15 (.held 16 (.held 17 (.held 18 (.held 19 (.held 20 (.held 21 (.held 22 (.held 23 (.loud 6 (.loud 24 (.held 25 (.done))))))))))))))))))))))))))) mixed (by kernel_rfl)))
    refine WC.ret ?_
    exact Fin.v (ResE.t1 rfl rfl) (by (repeat (first | exact List.Mem.head _ | apply List.Mem.tail)); done) rfl
end Lbd
end Go.Proofs.Ytgacbfckaglhbaa
namespace Go.Proofs.Ytgacbfckaglhbaa
open Go.ChangeShapes Go.WideShapes Go.ChangeAt Go.RowKit
open W

/-- what stood in V1 stands in V2 -/
def Ext (V1 V2 : World) : Prop := ∀ (k : Nat) (o : Obj), V1.heap[k]? = some o → V2.heap[k]? = some o
def Again {H : Type} (enc : TypeId × Value → H) (P : Program) (V1 : World) (t : TypeId) (v : Value) (d : DataW H) (p : List MemPlace) : Prop :=
  ∀ (V2 : World) (sp : Nat → Bool), Ext V1 V2 → (∀ q ∈ p, sp q.block = true) → DataW.Trod enc P V2 0 sp true t v d p
def AgainAll {H : Type} (enc : TypeId × Value → H) (P : Program) (V1 : World) (ts : List TypeId) (vs : List Value) (ds : List (DataW H)) (p : List MemPlace) : Prop :=
  ∀ (V2 : World) (sp : Nat → Bool), Ext V1 V2 → (∀ q ∈ p, sp q.block = true) → DataW.TrodAll enc P V2 0 sp true ts vs ds p
section
variable {H : Type} {enc : TypeId × Value → H} {P : Program} {V1 : World}
theorem AgainAll.nil : AgainAll enc P V1 [] [] [] [] := fun _ _ _ _ => rfl
theorem AgainAll.cons {t : TypeId} {ts : List TypeId} {v : Value} {vs : List Value} {d : DataW H} {ds : List (DataW H)} {p q : List MemPlace} (h : Again enc P V1 t v d p) (h2 : AgainAll enc P V1 ts vs ds q) : AgainAll enc P V1 (t :: ts) (v :: vs) (d :: ds) (p ++ q) := fun V2 sp he hs =>
  ⟨p, q, h V2 sp he fun x hx => hs x (List.mem_append_left _ hx), h2 V2 sp he fun x hx => hs x (List.mem_append_right _ hx), rfl⟩
theorem Ext.cell {V2 : World} (h : Ext V1 V2) {a : Addr} {v : Value} (hc : V1.cell? a = some v) : V2.cell? a = some v := by
  unfold World.cell? at hc ⊢
  cases ho : V1.heap[a.block]? with
  | none => rw [ho] at hc; cases hc
  | some o => rw [h _ _ ho]; rw [ho] at hc; exact hc

theorem arg_int {t : TypeId} {b0 : Nat} {v : Value} {d : DataW H} {p : List MemPlace} (ht : P.underlying t = some (.int .i64)) (hv : Value.okWide P V1 .any b0 t v) (h : DataW.Trod enc P V1 0 (fun _ => true) true t v d p) : ∃ n, v = .int .i64 n ∧ I64 n ∧ Again enc P V1 t v d p := by
  obtain ⟨n, rfl, rfl, rfl, wa⟩ := open_int ht hv h
  refine ⟨n, rfl, ?_, fun V2 sp _ _ => shut_int ht wa⟩
  simp [Lit.wf, IntKind.min, IntKind.max, IntKind.signed, IntKind.bits] at wa
  unfold I64; omega
theorem arg_ints {t e : TypeId} {b0 : Nat} {v : Value} {d : DataW H} {p : List MemPlace} (ht : P.underlying t = some (.slice e)) (he : P.underlying e = some (.int .i64)) (hc : P.cellsOf e = 1) (hv : Value.okWide P V1 .any b0 t v) (h : DataW.Trod enc P V1 0 (fun _ => true) true t v d p) :
    ∃ l : List Int, (∀ x ∈ l, I64 x) ∧ (sI v l).p (fun k => V1.heap[k]?) ∧ Again enc P V1 t v d p := by
  obtain ⟨fuel, hf⟩ := h
  have hval := hv
  obtain ⟨a0, len, cap, rfl⟩ := okWide_slice ht hv
  rcases open_ints ht he hc hf with ⟨hcs, hx⟩ | ⟨a, len', cap', zs, hcs, _, hl, hm, hz, hx, hcell, hwz⟩
  · simp [Value.cells] at hcs
    obtain ⟨rfl, rfl, rfl⟩ := hcs
    simp only [Prod.mk.injEq] at hx
    obtain ⟨rfl, rfl⟩ := hx
    exact ⟨[], by simp, ⟨none, 0, rfl, Nat.le_refl _, by simp [maxLen], .inl ⟨rfl, rfl, rfl⟩⟩, fun V2 sp _ _ => shut_slice_nil ht⟩
  · simp [Value.cells] at hcs
    obtain ⟨rfl, rfl, rfl⟩ := hcs
    simp only [Prod.mk.injEq] at hx
    obtain ⟨rfl, rfl⟩ := hx
    simp only [if_true] at hz
    simp only [Value.okWide, ht, Cell.okWide, Cell.ok] at hval
    obtain ⟨_, _, _, hsp, row, cells, hsh, _⟩ := hval
    obtain ⟨b, off, spot⟩ := a
    simp only at hsp; subst hsp
    have hblk : ∃ c el fz, V1.heap[b]? = some (.cells c el fz) := by
      unfold World.shape? at hsh
      simp only at hsh
      split at hsh
      · rename_i c el fz hh; exact ⟨c, el, fz, hh⟩
      · cases hsh
    obtain ⟨c, el, fz, hh⟩ := hblk
    have hlz : (zs.take len).length = len := by simp; omega
    refine ⟨zs.take len, fun x hx => ?_, ?_, fun V2 sp hE hs => ?_⟩
    · have wa := hwz x (List.mem_of_mem_take hx)
      simp [Lit.wf, IntKind.min, IntKind.max, IntKind.signed, IntKind.bits] at wa
      unfold I64; omega
    · show (slC _ (zs.take len).length 1 _).p _
      rw [hlz]
      refine ⟨_, cap, rfl, hl, hm, .inr ⟨b, off, rfl, c, el, fz, hh, fun j hj => ?_⟩⟩
      have hcj := hcell j (by omega)
      simp only [World.cell?, Addr.add_lit, hh] at hcj
      simp only [Option.isSome_none, Bool.false_eq_true, if_false] at hcj
      rw [hcj]
      simp only [List.getD_eq_getElem?_getD, List.getElem?_take]
      rw [if_pos (by omega)]
    · by_cases hz0 : zs.length = 0
      · have hc0 : cap = 0 := by omega
        have hl0 : len = 0 := by omega
        subst hc0; subst hl0
        have t0 := shut_ints (enc := enc) (w := V2) (base := 0) (spare := sp) (held := true) (a := ⟨b, off, none⟩) (len := 0) (cap := 0) (zs := zs) 0 ht he hc (Nat.zero_le _) (Nat.le_refl _) hm (by simp [hz0]) (fun i hi => by omega) hwz
        exact ⟨2, by simpa [Value.cells] using t0⟩
      · have hspb : sp b = true := hs (.cell b off) (MemPlace.mem_row.2 ⟨0, by omega, by simp⟩)
        have t0 := shut_ints (enc := enc) (w := V2) (base := 0) (spare := sp) (held := true) (a := ⟨b, off, none⟩) (len := len) (cap := cap) (zs := zs) 0 ht he hc (Nat.zero_le _) hl hm (by simp [hspb, hz]) (fun i hi => hE.cell (hcell i hi)) hwz
        exact ⟨2, by simpa [Value.cells] using t0⟩

theorem law_calls {f : FuncId} {args : List Value} {F : List Fct} (hf : FnB P f args [] F (IsV (.bool true))) (hF : ∀ g ∈ F, g.p (fun k => V1.heap[k]?)) : Calls P f args.toArray V1 fun e V2 => e = .returned (.bool true) ∧ W.Rest V1 V2 ∧ Ext V1 V2 := by
  have him : ∀ H : Array Obj, imm (fun _ => none) [] H = fun k => H[k]? := fun H => by funext k; simp [imm, ids]
  have ho : OK (fun _ => none) [] F V1 := ⟨fun _ _ h => (by cases h), fun _ _ => rfl, by simp [ids], by simp, fun g hg => by rw [him]; exact hF g hg⟩
  refine (hf.2 _ _ ho).mono fun e V2 hh => ?_
  obtain ⟨v, b, G, h1, h2, h3, h4, h5⟩ := hh
  obtain ⟨h6, h7, h8⟩ := h2
  subst h6 h7
  refine ⟨h1, h3, fun k o hk => ?_⟩
  rw [him, him] at h4
  exact h4 k o hk

theorem post_law {f : Func} {s : ChangeSpec} {V2 : World} {args : Array Value} {ds gs : List (DataW H)} {before : List MemPlace} {v : Value}
    (hW : DataW.Whole enc P f.params.toList s.vars false V1 args.toList ds gs before)
    (hres : ∀ (b : Nat) (sp : Nat → Bool) (hd : Bool), DataW.TrodAll enc P V2 b sp hd f.resultTypes.toList (v.resultList f.resultTypes.size) (s.fn H (ds ++ gs)).results [])
    (hargs : ∀ sp : Nat → Bool, (∀ p ∈ before, sp p.block = true) → DataW.TrodAll enc P V2 0 sp true f.params.toList args.toList (s.fn H (ds ++ gs)).args before)
    (hvars : ∀ sp : Nat → Bool, DataW.TrodVars enc P V2 sp s.vars (s.fn H (ds ++ gs)).vars [])
    (hr : W.Rest V1 V2) (hE : Ext V1 V2)
    (hok : ∀ (j : Nat) (t : TypeId) (r : Value), f.resultTypes[j]? = some t → (v.resultList f.resultTypes.size)[j]? = some r → Value.okWide P V2 .any 0 t r) :
    s.post enc P f false true false false V1 args v V2 := by
  have hold : ∀ p ∈ before, (fun b => decide (b < V1.heap.size)) p.block = true := fun p hp => by simpa using hW.lt p hp
  refine ⟨ds, gs, before, [], before, [], hW, hres _ _ _, hargs _ hold, hvars _, ⟨hr.os, hr.output, fun i hi => ?_⟩, fun h => by cases h⟩
  have hk := hE i V1.heap[i] (Array.getElem?_eq_getElem hi)
  rw [hk, Array.getElem?_eq_getElem hi]
  cases V1.heap[i] <;> simp
end
theorem Try.own : ownKnob Try.prog.godebug = none := by kernel_rfl
end Go.Proofs.Ytgacbfckaglhbaa
namespace Go.Proofs.Ytgacbfckaglhbaa
open Go.ChangeShapes Go.WideShapes Go.ChangeAt Go.RowKit
open W

theorem Try.int3 : Try.prog.underlying 3 = some (.int .i64) := by kernel_rfl
theorem Try.sl22 : Try.prog.underlying 22 = some (.slice 3) := by kernel_rfl
theorem Try.bool4 : Try.prog.underlying 4 = some .bool := by kernel_rfl
theorem Try.one3 : Try.prog.cellsOf 3 = 1 := by kernel_rfl

set_option maxRecDepth 100000 in
theorem scheduleBounds_lifted (os : Os) (started : os.Started) (H : Type) (enc : TypeId × Value → H) :
    ReturnsInHanded {} Try.checked os 7 .any (Rows.scheduleBoundsSpec.pre6 enc Try.prog Try.f7 Rows.scheduleBoundsRow.domain false) (Rows.scheduleBoundsSpec.post enc Try.prog Try.f7 false true false false) := by
  refine returnsInHanded_of_change (C := Try.checked) Try.own started (by kernel_rfl) Try.func7
    (ChangeSpec.witness6 (enc := enc) (C := Try.checked) false ⟨#[], #[.slice none 0 0, .int .i64 0, .int .i64 0, .slice none 0 0, .int .i64 0, .int .i64 0], []⟩ 8 (by kernel_rfl) (by kernel_rfl) (by kernel_rfl) (by kernel_rfl)) ?_
  intro V1 base args ds gs before hval0 hW hcnd _
  have hval : ∀ (j : Nat) t v, Try.f7.params[j]? = some t → args[j]? = some v → Value.okWide Try.prog V1 .any base t v := hval0
  have hW' := hW
  obtain ⟨p, q, hA0, hV, rfl, hfz, hnd⟩ := hW
  have hA : DataW.TrodAll enc Try.prog V1 0 (fun _ => true) true Try.f7.params.toList args.toList ds p := hA0
  rw [Try.params7] at hA hval
  obtain ⟨args⟩ := args
  obtain ⟨v0, a1, d0, e1, p0, q1, rfl, rfl, rfl, h0, hA⟩ := trodAll_cons hA
  obtain ⟨v1, a2, d1, e2, p1, q2, rfl, rfl, rfl, h1, hA⟩ := trodAll_cons hA
  obtain ⟨v2, a3, d2, e3, p2, q3, rfl, rfl, rfl, h2, hA⟩ := trodAll_cons hA
  obtain ⟨v3, a4, d3, e4, p3, q4, rfl, rfl, rfl, h3, hA⟩ := trodAll_cons hA
  obtain ⟨v4, a5, d4, e5, p4, q5, rfl, rfl, rfl, h4, hA⟩ := trodAll_cons hA
  obtain ⟨v5, a6, d5, e6, p5, q6, rfl, rfl, rfl, h5, hA⟩ := trodAll_cons hA
  obtain ⟨rfl, rfl, rfl⟩ := trodAll_nil hA
  obtain ⟨rfl, rfl⟩ := trodVars_none hV
  obtain ⟨l0, hl0, f0, g0⟩ := arg_ints Try.sl22 Try.int3 Try.one3 (hval 0 22 v0 rfl rfl) h0
  obtain ⟨n1, rfl, hl1, g1⟩ := arg_int Try.int3 (hval 1 3 v1 rfl rfl) h1
  obtain ⟨n2, rfl, hl2, g2⟩ := arg_int Try.int3 (hval 2 3 v2 rfl rfl) h2
  obtain ⟨l3, hl3, f3, g3⟩ := arg_ints Try.sl22 Try.int3 Try.one3 (hval 3 22 v3 rfl rfl) h3
  obtain ⟨n4, rfl, hl4, g4⟩ := arg_int Try.int3 (hval 4 3 v4 rfl rfl) h4
  obtain ⟨n5, rfl, hl5, g5⟩ := arg_int Try.int3 (hval 5 3 v5 rfl rfl) h5
  simp only [List.append_nil] at hW'
  refine (law_calls (Lbd.lbounds_c v0 v3 l0 l3 n1 n2 n4 n5 hl0 hl3 hl1 hl2 hl4 hl5) (fun g hg => ?_)).mono fun e V2 hh2 => ?_
  · simp only [List.mem_cons, List.not_mem_nil, or_false] at hg
    rcases hg with rfl | rfl
    · exact f0
    · exact f3
  · obtain ⟨he, hr, hE⟩ := hh2
    refine ⟨_, he, post_law hW' (fun _ _ _ => trodAll_mk1 (shut_bool Try.bool4 _)) (fun sp hsp => ?_) (fun _ => rfl) hr hE (ok_one (by kernel_rfl) rfl (okWide_bool_mk Try.bool4 _))⟩
    have := (AgainAll.cons g0 (AgainAll.cons g1 (AgainAll.cons g2 (AgainAll.cons g3 (AgainAll.cons g4 (AgainAll.cons g5 AgainAll.nil)))))) V2 sp hE (by simpa using hsp)
    simp only [List.append_nil] at this
    show DataW.TrodAll enc Try.prog V2 0 sp true Try.f7.params.toList _ _ _
    rw [Try.params7]
    exact this

theorem scheduleBounds_holds : Rows.ScheduleBoundsSaid :=
  OpenClaim.holds_of_wide 7 Try.f7 rfl rfl rfl rfl rfl rfl rfl ⟨rfl, rfl, rfl, rfl, rfl⟩ rfl rfl rfl rfl rfl (by kernel_rfl) Try.func7 (by kernel_rfl)
    (of_decide_eq_true (by kernel_rfl)) (by unfold Func.isWrapper; first | (rw [if_pos (by decide +kernel)]; kernel_rfl) | (rw [if_neg (by decide +kernel)]; exact ⟨rfl, rfl⟩))
    (fun os started H enc _ => scheduleBounds_lifted os started H enc)
#print axioms scheduleBounds_holds
end Go.Proofs.Ytgacbfckaglhbaa
