/- Lemmas for the proof of a law: Contracts: package integer, multiplying. Conditions: none. -/
import Derived.Test.YthggloiigkbfeaaGreatCr3
import Derived.Test.YthggloiigkbfeaaGreatCr2
set_option linter.unusedVariables false
set_option linter.unusedSimpArgs false
set_option linter.unusedSectionVars false
namespace Go.Proofs.YthggloiigkbfeaaGreat
open W Go.RowKit
theorem digs_len1 {n : Nat} (h : (digs n).length = 1) : n ≠ 0 ∧ n < 1000000000 := by
  have h1 := @digs_lt n
  rw [h] at h1
  exact ⟨fun h2 => by have := digs_len0.2 h2; omega, by simpa using h1⟩
theorem sign_mul {x y : Int} {a b : Bool} (ha : a = decide (x < 0)) (hb : b = decide (y < 0)) (h : x * y ≠ 0) : (!(a == b)) = decide (x * y < 0) := by
  have hx : x ≠ 0 := fun hx => h (by rw [hx]; simp)
  have hy : y ≠ 0 := fun hy => h (by rw [hy]; simp)
  subst ha hb
  rcases Int.lt_or_lt_of_ne hx with h1 | h1 <;> rcases Int.lt_or_lt_of_ne hy with h2 | h2
  · have := Int.mul_pos_of_neg_of_neg h1 h2
    rw [decide_eq_true h1, decide_eq_true h2, decide_eq_false (by omega)]; rfl
  · have := Int.mul_neg_of_neg_of_pos h1 h2
    rw [decide_eq_true h1, decide_eq_false (by omega), decide_eq_true this]; rfl
  · have := Int.mul_neg_of_pos_of_neg h1 h2
    rw [decide_eq_false (by omega), decide_eq_true h2, decide_eq_true this]; rfl
  · have := Int.mul_pos h1 h2
    rw [decide_eq_false (by omega), decide_eq_false (by omega), decide_eq_false (by omega)]; rfl
theorem nabs_mul_val (x y : Int) : (x * y).natAbs = (val (digs x.natAbs) * val (digs y.natAbs)).toNat := by
  rw [val_digs, val_digs, Int.natAbs_mul]
  have : ((x.natAbs : Int) * (y.natAbs : Int)) = ((x.natAbs * y.natAbs : Nat) : Int) := by simp
  rw [this, Int.toNat_natCast]
theorem val_mul_ne {x y : Int} (h : val (digs x.natAbs) * val (digs y.natAbs) ≠ 0) : x * y ≠ 0 := fun hxy => by
  rw [val_digs, val_digs] at h
  rcases Int.mul_eq_zero.1 hxy with rfl | rfl <;> simp at h
attribute [local irreducible] WC WL WD YO LO LoopEnd W.Fin Scalar SliceT FieldAt Row ArrT AllocT KnS Has W.One SrcE IntT
theorem d84 {G G' : Prop} (h : G') (s : Bx G' → G := by
  intro h
  first | (apply WC.draw (id := 1) [0, 1, 2, 3, 4, 5] (.held 0 (.held 1 (.held 2 (.held 3 (.held 4 (.held 5 (.done))))))) mixed (by kernel_rfl)) | (apply WC.draw (id := 3) [0, 1, 2, 3, 4, 5, 6, 7, 8, 9, 10, 11, 12, 13] (.held 0 (.held 1 (.held 2 (.held 3 (.held 4 (.held 5 (.held 6 (.held 7 (.held 8 (.held 9 (.held 10 (.held 11 (.held 12 (.held 13 (.loud 14 (.loud 15 (.done))))))))))))))))) mixed (by kernel_rfl)) | fail
  exact Bx.h h) : G := s ⟨h⟩
theorem YO.bneq {e : Env} {bx : List Ow} {F : List Fct} {ty t' : TypeId} {x y : Operand} {a b : Bool} (hx : ev e x = some (.bool a)) (hy : ev e y = some (.bool b)) : YO Tryz.prog (.binOp .neq 4 x y t') ty e bx F (.bool (!(a == b))) := YO.bne bool_t hx hy
namespace Mlt
theorem goB {G G' : Prop} (h : G') (s : Bx G' → G := by
  intro h
  first
    | (apply WD.k_neq; exact rfl; (apply YO.bneq; exact rfl; exact rfl); exact rfl; exact rfl)
    | (apply WL.k_neq; (apply YO.bneq; exact rfl; exact rfl); exact rfl; exact rfl)
    | (apply WL.k_mul; (apply YO.mul; exact rfl; exact rfl; omega; omega); exact rfl; exact rfl)
  exact Bx.h h) : G := s ⟨h⟩
set_option maxHeartbeats 4000000 in
set_option maxRecDepth 8000 in
theorem mul_c (v1 v2 : Value) (x y : Int) (h1 : (digs x.natAbs).length ≤ 1000000000) (h2 : (digs y.natAbs).length ≤ 1000000000) : FnB Tryz.prog 84 [v1, v2] [] [isZ v1 x, isZ v2 y] (IsZ (x * y)) := by
  refine fn_of [(0, v1), (1, v2)] 100 Tryz.func84 rfl Tryz.ntmps84 (by kernel_rfl) rfl suA fun h0 => ?_
  refine WC.openZ (v := v1) (z := x) hmA fun n1 d1 hv hb1 => ?_
  subst hv
  refine WC.openZ (v := v2) (z := y) hmA fun n2 d2 hv hb2 => ?_
  subst hv
  obtain ⟨a, ha⟩ : ∃ a, digs x.natAbs = a := ⟨_, rfl⟩
  obtain ⟨b, hb⟩ : ∃ b, digs y.natAbs = b := ⟨_, rfl⟩
  have hda : Dg a := ha ▸ digs_Dg _
  have hdb : Dg b := hb ▸ digs_Dg _
  have hab := nabs_mul_val x y
  have hne := @val_mul_ne x y
  have hl1 := @digs_len1 x.natAbs
  have hl2 := @digs_len1 y.natAbs
  have hg1 := fun h => @digs_1 x.natAbs h
  have hg2 := fun h => @digs_1 y.natAbs h
  refine WC.fact (sI d1 (digs x.natAbs)) (hasZ_d hmA) ?_
  refine WC.fact (sI d2 (digs y.natAbs)) (hasZ_d hmA) ?_
  rw [ha] at h1 hab hne hl1 hg1 ⊢
  rw [hb] at h2 hab hne hl2 hg2 ⊢
  by_cases c1 : a.length = 1 ∧ b.length = 1
  · obtain ⟨c1, c2⟩ := c1
    have hx := hl1 c1
    have hy := hl2 c2
    have hg1 := hg1 hx.1 hx.2
    have hg2 := hg2 hy.1 hy.2
    have ea : a.getD 0 0 = (x.natAbs : Int) := by rw [hg1]; rfl
    have eb : b.getD 0 0 = (y.natAbs : Int) := by rw [hg2]; rfl
    have hp : x.natAbs * y.natAbs ≤ 999999999 * 999999999 := Nat.mul_le_mul (by omega) (by omega)
    have hp2 : ((x.natAbs : Int) * (y.natAbs : Int)) = ((x.natAbs * y.natAbs : Nat) : Int) := by simp
    have q1 : 0 ≤ (x.natAbs : Int) * (y.natAbs : Int) := by omega
    have q2 : (x.natAbs : Int) * (y.natAbs : Int) ≤ 18446744073709551615 := by omega
    have ea' : a.getD (0 : Int).toNat 0 = (x.natAbs : Int) := ea
    have eb' : b.getD (0 : Int).toNat 0 = (y.natAbs : Int) := eb
    have h3 : 0 ≤ a.getD (0 : Int).toNat 0 := by omega
    have h4 : 0 ≤ b.getD (0 : Int).toNat 0 := by omega
    have h5 : 0 ≤ a.getD (0 : Int).toNat 0 * b.getD (0 : Int).toNat 0 := by rw [ea', eb']; exact q1
    have h6 : a.getD (0 : Int).toNat 0 * b.getD (0 : Int).toNat 0 ≤ 18446744073709551615 := by rw [ea', eb']; exact q2
    repeat' (first | refine go ?_ | refine goX ?_ | refine goB ?_ | (refine goG ?_; intro g) | (refine goV ?_; intro v) | refine goD ?_ | refine goXD ?_ | (refine goDG ?_; intro g) | (refine goDV ?_; intro v) | refine d84 ?_ | fail)
    rw [show a.getD (0 : Int).toNat 0 * b.getD (0 : Int).toNat 0 = ((x.natAbs * y.natAbs : Nat) : Int) by rw [ea', eb', hp2]]
    first | refine WL.callK (unsigned_c (!(n1 == n2)) (x.natAbs * y.natAbs) (x * y) (by omega) (Int.natAbs_mul x y) (fun hxy => sign_mul hb1 hb2 (by rw [Ne, ← Int.natAbs_eq_zero, Int.natAbs_mul]; exact hxy))) ?_ | refine WD.callK (unsigned_c (!(n1 == n2)) (x.natAbs * y.natAbs) (x * y) (by omega) (Int.natAbs_mul x y) (fun hxy => sign_mul hb1 hb2 (by rw [Ne, ← Int.natAbs_eq_zero, Int.natAbs_mul]; exact hxy))) ?_ | refine LO.callM (unsigned_c (!(n1 == n2)) (x.natAbs * y.natAbs) (x * y) (by omega) (Int.natAbs_mul x y) (fun hxy => sign_mul hb1 hb2 (by rw [Ne, ← Int.natAbs_eq_zero, Int.natAbs_mul]; exact hxy))) ?_
    rintro _ _ _ ⟨nb, d, rfl, hb, rfl, rfl⟩
    simp only [List.nil_append, List.cons_append]
    repeat' (first | refine go ?_ | refine goX ?_ | refine goB ?_ | (refine goG ?_; intro g) | (refine goV ?_; intro v) | refine goD ?_ | refine goXD ?_ | (refine goDG ?_; intro g) | (refine goDV ?_; intro v) | refine d84 ?_ | fail)
    refine WC.ret ?_
    exact Fin.p [] [isZ (.agg #[.bool nb, d]) (x * y)] (ResE.cV rfl rfl meA T.r35 rfl) meA (List.nil_sublist _) haA ⟨nb, _, rfl, hb, rfl, rfl⟩
  · have hmk : (List.replicate (a.length + b.length) (0 : Int)).length = a.length + b.length := by simp
    have key : ¬ (a.length = 1 ∧ b.length = 1) := c1
    have hsplit : (¬ a.length = 1) ∨ (a.length = 1 ∧ ¬ b.length = 1) := by omega
    rcases hsplit with c2 | ⟨c2, c3⟩
    all_goals
      repeat' (first | refine go ?_ | refine goX ?_ | refine goB ?_ | (refine goG ?_; intro g) | (refine goV ?_; intro v) | refine goD ?_ | refine goXD ?_ | (refine goDG ?_; intro g) | (refine goDV ?_; intro v) | refine d84 ?_ | fail)
      rename_i g2 g3
      revert g; intro g4
      refine WC.lp (σ := Nat × List Int) (fun s => [(49, .int .i64 (s.1 : Int)), (48, .int .i64 (a.length : Int)), (47, d1), (5, d1), (6, d2), (7, v), (2, ptr g2), (3, ptr g3), (4, ptr g4)]) (fun s => [Ow.slice v 3 1 (ints s.2), Ow.cells g4 35 [.bool false, .slice none 0 0], Ow.cells g3 35 [.bool n2, d2], Ow.cells g2 35 [.bool n1, d1]]) (fun _ => [ge h0, sI d1 a, sI d2 b])
        (fun s => s.1 ≤ a.length ∧ Mu a b s.2 s.1 0 0) (fun s => a.length - s.1) (0, List.replicate (a.length + b.length) 0) ⟨by simp, Mu.z⟩ ?_
      rintro ⟨i, o⟩ ⟨hi, hm⟩
      simp only at hi hm ⊢
      have hol := hm.l
      by_cases hlt : i < a.length
      · repeat' (first | refine go ?_ | refine goX ?_ | refine goB ?_ | (refine goG ?_; intro g) | (refine goV ?_; intro v) | refine goD ?_ | refine goXD ?_ | (refine goDG ?_; intro g) | (refine goDV ?_; intro v) | refine d84 ?_ | fail)
        refine WC.lp (σ := Nat × List Int × Int) (fun s => [(56, .int .i64 (s.1 : Int)), (55, .int .i64 (b.length : Int)), (54, d2), (10, .int .i64 s.2.2), (8, .int .i64 (i : Int)), (9, .int .i64 (a.getD i 0)), (49, .int .i64 (i : Int)), (48, .int .i64 (a.length : Int)), (47, d1), (5, d1), (6, d2), (7, v), (2, ptr g2), (3, ptr g3), (4, ptr g4)]) (fun s => [Ow.slice v 3 1 (ints s.2.1), Ow.cells g4 35 [.bool false, .slice none 0 0], Ow.cells g3 35 [.bool n2, d2], Ow.cells g2 35 [.bool n1, d1]]) (fun _ => [ge h0, sI d1 a, sI d2 b])
          (fun s => s.1 ≤ b.length ∧ Mu a b s.2.1 i s.1 s.2.2) (fun s => b.length - s.1) (0, o, 0) ⟨by simp, hm⟩ ?_
        rintro ⟨k, o2, c⟩ ⟨hk, hm2⟩
        simp only at hk hm2 ⊢
        have hol2 := hm2.l
        by_cases hkl : k < b.length
        · have hbd := mu_bd (hm2.d.any (i + k)) (hda.any i) (hdb.any k) hm2.cd
          have eik : ((i : Int) + (k : Int)).toNat = i + k := by omega
          have hst := fun w q hw hq he => hm2.step hlt hkl (w := w) (q := q) hw hq he
          have eo : o2.getD ((i : Int) + (k : Int)).toNat 0 = o2.getD (i + k) 0 := by rw [eik]
          have hP1 : 0 ≤ a.getD i 0 * b.getD k 0 := by omega
          have hP2 : a.getD i 0 * b.getD k 0 ≤ 9223372036854775807 := by omega
          have hx : 0 ≤ o2.getD (i + k) 0 ∧ o2.getD (i + k) 0 < 1000000000 := hm2.d.any (i + k)
          have hcd : 0 ≤ c ∧ c < 1000000000 := hm2.cd
          have hst := hst (o2.getD (i + k) 0 + a.getD i 0 * b.getD k 0 + c - (o2.getD (i + k) 0 + a.getD i 0 * b.getD k 0 + c) / 1000000000 * 1000000000) ((o2.getD (i + k) 0 + a.getD i 0 * b.getD k 0 + c) / 1000000000) ⟨by omega, by show _ < (1000000000 : Int); omega⟩ ⟨by omega, by show _ < (1000000000 : Int); omega⟩ (by show _ + (1000000000 : Int) * _ = _; omega)
          repeat' (first | refine go ?_ | refine goX ?_ | refine goB ?_ | (refine goG ?_; intro g) | (refine goV ?_; intro v) | refine goD ?_ | refine goXD ?_ | (refine goDG ?_; intro g) | (refine goDV ?_; intro v) | refine d84 ?_ | fail)
          exact LoopEnd.mk (k + 1, _, _) ⟨by show k + 1 ≤ b.length; omega, hst⟩ (by show b.length - (k + 1) < b.length - k; omega)
        · obtain rfl : k = b.length := by omega
          have eik : ((i : Int) + (b.length : Int)).toNat = i + b.length := by omega
          repeat' (first | refine go ?_ | refine goX ?_ | refine goB ?_ | (refine goG ?_; intro g) | (refine goV ?_; intro v) | refine goD ?_ | refine goXD ?_ | (refine goDG ?_; intro g) | (refine goDV ?_; intro v) | refine d84 ?_ | fail)
          exact LoopEnd.mk (i + 1, _) ⟨by show i + 1 ≤ a.length; omega, hm2.row hlt⟩ (by show a.length - (i + 1) < a.length - i; omega)
      · obtain rfl : i = a.length := by omega
        obtain ⟨h3, h4⟩ := hm.fin
        repeat' (first | refine go ?_ | refine goX ?_ | refine goB ?_ | (refine goG ?_; intro g) | (refine goV ?_; intro v) | refine goD ?_ | refine goXD ?_ | (refine goDG ?_; intro g) | (refine goDV ?_; intro v) | refine d84 ?_ | fail)
        refine WL.freezeI (l := o) (v := v) (el := 3) (by repeat (first | exact Sel.head | apply Sel.tail)) ?_
        first | refine WL.callK (of_c v (!(n1 == n2)) o (x * y) h3 (by rw [hab, h4]) (fun hxy => sign_mul hb1 hb2 (hne (by rw [← h4]; exact hxy)))) ?_ | refine WD.callK (of_c v (!(n1 == n2)) o (x * y) h3 (by rw [hab, h4]) (fun hxy => sign_mul hb1 hb2 (hne (by rw [← h4]; exact hxy)))) ?_ | refine LO.callM (of_c v (!(n1 == n2)) o (x * y) h3 (by rw [hab, h4]) (fun hxy => sign_mul hb1 hb2 (hne (by rw [← h4]; exact hxy)))) ?_
        rintro _ _ _ ⟨nb, d, rfl, hb, rfl, rfl⟩
        simp only [List.nil_append, List.cons_append]
        repeat' (first | refine go ?_ | refine goX ?_ | refine goB ?_ | (refine goG ?_; intro g) | (refine goV ?_; intro v) | refine goD ?_ | refine goXD ?_ | (refine goDG ?_; intro g) | (refine goDV ?_; intro v) | refine d84 ?_ | fail)
        refine WC.ret ?_
        exact Fin.p [] [isZ (.agg #[.bool nb, d]) (x * y)] (ResE.cV rfl rfl meA T.r35 rfl) meA (List.nil_sublist _) haA ⟨nb, _, rfl, hb, rfl, rfl⟩
end Mlt
end Go.Proofs.YthggloiigkbfeaaGreat
namespace Go.Proofs.YthggloiigkbfeaaGreat
open W Go.RowKit
abbrev B2 : Nat := 1000000000000000000
theorem two_cases {n : Nat} (h : n < B2) : (n = 0 ∧ digs n = []) ∨ ((digs n).length = 1 ∧ digs n = [(n : Int)] ∧ n ≠ 0 ∧ n < 1000000000) ∨ ((digs n).length = 2 ∧ digs n = [((n % 1000000000 : Nat) : Int), ((n / 1000000000 : Nat) : Int)] ∧ 1000000000 ≤ n) := by
  by_cases h0 : n = 0
  · left; subst h0; exact ⟨rfl, digs_0⟩
  · by_cases h1 : n < 1000000000
    · right; left; have := digs_1 h0 h1; exact ⟨by rw [this]; rfl, this, h0, h1⟩
    · right; right; have := digs_2 (n := n) (by omega) (by unfold B2 at h; omega); exact ⟨by rw [this]; rfl, this, by omega⟩
def IsZZ (x y : Int) : RPost := fun v b G => ∃ n1 d1 n2 d2, v = .tuple #[.agg #[.bool n1, d1], .agg #[.bool n2, d2]] ∧ n1 = decide (x < 0) ∧ n2 = decide (y < 0) ∧ b = [] ∧ G = [isZ (.agg #[.bool n1, d1]) x, isZ (.agg #[.bool n2, d2]) y]
theorem ResE.cc {P : Program} {e : Env} {bx : List Ow} {F : List Fct} {fn : Func} {t s : Tmp} {ty ty2 : TypeId} {g g2 tg tg2 m m2 : Nat} {cs cs2 : List Value} (h : fn.results = #[.cell t ty, .cell s ty2]) (hl : W.look e t = some (.pointer (some ⟨g, 0, none⟩))) (hl2 : W.look e s = some (.pointer (some ⟨g2, 0, none⟩)))
    (hb : Ow.cells g tg cs ∈ bx) (hb2 : Ow.cells g2 tg2 cs2 ∈ bx) (hr : Row P ty m) (hm : cs.length = m) (hr2 : Row P ty2 m2) (hm2 : cs2.length = m2) : ResE P fn e bx F (.tuple #[.agg cs.toArray, .agg cs2.toArray]) := fun n fr a w hk ho => by
  obtain ⟨⟨d, hu, hd⟩, hi⟩ := hr
  obtain ⟨⟨d', hu', hd'⟩, hi'⟩ := hr2
  have h1 : a.tmps[t]?.getD undef = .pointer (some ⟨g, 0, none⟩) := by rw [hk.at' _ _ hl]; rfl
  have h3 : a.tmps[s]?.getD undef = .pointer (some ⟨g2, 0, none⟩) := by rw [hk.at' _ _ hl2]; rfl
  have h2 := run_loadVar_mid (P := P) w g 0 ty cs d (fun i v hv => by rw [Nat.zero_add, own_cell (ho.owns _ hb)]; exact hv) hu hd (by rw [hi]; simp [hm])
  have h4 := run_loadVar_mid (P := P) w g2 0 ty2 cs2 d' (fun i v hv => by rw [Nat.zero_add, own_cell (ho.owns _ hb2)]; exact hv) hu' hd' (by rw [hi']; simp [hm2])
  simp only [results, h]
  simp [h1, h3, asAddr, h2, h4]
namespace Dvz
attribute [local irreducible] WC WL WD YO LO LoopEnd W.Fin Scalar SliceT FieldAt Row ArrT AllocT KnS Has W.One SrcE IntT
theorem d121 {G G' : Prop} (h : G') (s : Bx G' → G := by
  intro h
  first | (apply WC.draw (id := 1) [0, 1, 3, 4] (.held 0 (.held 1 (.held 3 (.held 4 (.more 2 (.more 5 (.more 6 (.loud 7 (.loud 8 (.loud 9 (.done)))) (.loud 7 (.loud 6 (.loud 8 (.loud 9 (.done)))))) (.more 6 (.more 5 (.loud 7 (.loud 8 (.loud 9 (.done)))) (.loud 7 (.loud 5 (.loud 8 (.loud 9 (.done)))))) (.loud 7 (.more 5 (.loud 6 (.loud 8 (.loud 9 (.done)))) (.loud 6 (.loud 5 (.loud 8 (.loud 9 (.done))))))))) (.more 6 (.more 2 (.more 5 (.loud 7 (.loud 8 (.loud 9 (.done)))) (.loud 7 (.loud 5 (.loud 8 (.loud 9 (.done)))))) (.loud 7 (.loud 2 (.loud 5 (.loud 8 (.loud 9 (.done))))))) (.loud 7 (.more 2 (.more 5 (.loud 6 (.loud 8 (.loud 9 (.done)))) (.loud 6 (.loud 5 (.loud 8 (.loud 9 (.done)))))) (.loud 6 (.loud 2 (.loud 5 (.loud 8 (.loud 9 (.done)))))))))))))) mixed (by kernel_rfl)) | (apply WC.draw (id := 7) [0, 1, 2, 3, 4, 5] (.held 0 (.held 1 (.held 2 (.held 3 (.held 4 (.held 5 (.done))))))) mixed (by kernel_rfl)) | (apply WC.drawR (id := 10) [5] [0, 1] (.held 0 (.held 1 (.loud 2 (.loud 3 (.done))))) mixed (by kernel_rfl); (focus ((repeat (first | exact Rems.nil _ | (apply Rems.cons; exact rfl; (repeat (first | exact Rem.head | apply Rem.tail))))); done))) | fail
  exact Bx.h h) : G := s ⟨h⟩
theorem d150 {G G' : Prop} (h : G') (s : Bx G' → G := by
  intro h
  first | (apply WC.draw (id := 7) [0, 1, 2, 3, 4, 5, 6, 7, 8, 9] (.held 0 (.held 1 (.held 2 (.held 3 (.held 4 (.held 5 (.held 6 (.held 7 (.held 8 (.held 9 (.done))))))))))) mixed (by kernel_rfl)) | fail
  exact Bx.h h) : G := s ⟨h⟩
theorem d151 {G G' : Prop} (h : G') (s : Bx G' → G := by
  intro h
  first | (apply WC.draw (id := 5) [0, 1, 2, 3, 5, 6, 7, 8] (.held 0 (.held 1 (.held 2 (.held 3 (.held 5 (.held 6 (.held 7 (.held 8 (.loud 4 (.loud 9 (.loud 10 (.loud 11 (.done))))))))))))) mixed (by kernel_rfl)) | fail
  exact Bx.h h) : G := s ⟨h⟩
theorem goB {G G' : Prop} (h : G') (s : Bx G' → G := by
  intro h
  first
    | (apply WL.k_mul; (apply YO.mul; exact rfl; exact rfl; omega; omega); exact rfl; exact rfl)
    | (apply WD.k_quo; exact rfl; (apply YO.quo; exact rfl; exact rfl; omega; omega; omega); exact rfl; exact rfl)
  exact Bx.h h) : G := s ⟨h⟩
set_option maxHeartbeats 4000000 in
set_option maxRecDepth 8000 in
theorem two_c (u : Value) (n : Nat) (hn : n < B2) : FnB Tryz.prog 150 [u] [] [sI u (digs n)] (IsV (.tuple #[.int .i64 n, .bool true])) := by
  refine fn_of [(0, u)] 23 Tryz.func150 rfl Tryz.ntmps150 (by kernel_rfl) rfl suA fun h0 => ?_
  unfold B2 at hn
  rcases two_cases (n := n) hn with ⟨h, e⟩ | ⟨h, e, h2⟩ | ⟨h, e, h2⟩
  · rw [e]
    subst h
    have hl : ([] : List Int).length = 0 := rfl
    repeat' (first | refine go ?_ | refine goX ?_ | refine goB ?_ | (refine goG ?_; intro g) | (refine goV ?_; intro v) | refine goD ?_ | refine goXD ?_ | (refine goDG ?_; intro g) | (refine goDV ?_; intro v) | refine d150 ?_ | fail)
    refine WC.ret ?_
    exact Fin.v (ResE.t2 rfl rfl rfl) meA rfl
  · rw [e] at h ⊢
    have e0 : ([(n : Int)].getD (0 : Int).toNat 0) = (n : Int) := rfl
    repeat' (first | refine go ?_ | refine goX ?_ | refine goB ?_ | (refine goG ?_; intro g) | (refine goV ?_; intro v) | refine goD ?_ | refine goXD ?_ | (refine goDG ?_; intro g) | (refine goDV ?_; intro v) | refine d150 ?_ | fail)
    refine WC.ret ?_
    exact Fin.v (ResE.t2 rfl rfl rfl) meA rfl
  · rw [e] at h ⊢
    have e0 : ([((n % 1000000000 : Nat) : Int), ((n / 1000000000 : Nat) : Int)].getD (0 : Int).toNat 0) = ((n % 1000000000 : Nat) : Int) := rfl
    have e1 : ([((n % 1000000000 : Nat) : Int), ((n / 1000000000 : Nat) : Int)].getD (1 : Int).toNat 0) = ((n / 1000000000 : Nat) : Int) := rfl
    generalize [((n % 1000000000 : Nat) : Int), ((n / 1000000000 : Nat) : Int)] = l at *
    have hv : l.getD (1 : Int).toNat 0 * 1000000000 + l.getD (0 : Int).toNat 0 = (n : Int) := by omega
    repeat' (first | refine go ?_ | refine goX ?_ | refine goB ?_ | (refine goG ?_; intro g) | (refine goV ?_; intro v) | refine goD ?_ | refine goXD ?_ | (refine goDG ?_; intro g) | (refine goDV ?_; intro v) | refine d150 ?_ | fail)
    rw [hv]
    refine WC.ret ?_
    exact Fin.v (ResE.t2 rfl rfl rfl) meA rfl
set_option maxHeartbeats 4000000 in
set_option maxRecDepth 8000 in
theorem divide_c (u w : Value) (m n : Nat) (hm : m < B2) (hn : n < B2) (h0n : n ≠ 0) : FnB Tryz.prog 151 [u, w] [] [sI u (digs m), sI w (digs n)] (IsZZ ((m / n : Nat) : Int) ((m % n : Nat) : Int)) := by
  refine fn_of [(0, u), (1, w)] 69 Tryz.func151 rfl Tryz.ntmps151 (by kernel_rfl) rfl suA fun h0 => ?_
  have hm' : m < 1000000000000000000 := hm
  have hn' : n < 1000000000000000000 := hn
  have q1 : m / n ≤ m := Nat.div_le_self _ _
  have q2 : m % n < n := Nat.mod_lt _ (by omega)
  have e1 : (m : Int) / (n : Int) = ((m / n : Nat) : Int) := by simp
  have e2 : (m : Int) % (n : Int) = ((m % n : Nat) : Int) := by simp
  have e3 : (m : Int) / (n : Int) ≤ (m : Int) := by rw [e1]; exact Int.ofNat_le.2 q1
  have e4 : 0 ≤ (m : Int) / (n : Int) := by rw [e1]; exact Int.natCast_nonneg _
  have e5 : (m : Int) % (n : Int) < (n : Int) := by rw [e2]; exact Int.ofNat_lt.2 q2
  have e6 : 0 ≤ (m : Int) % (n : Int) := by rw [e2]; exact Int.natCast_nonneg _
  repeat' (first | refine go ?_ | refine goX ?_ | refine goB ?_ | (refine goG ?_; intro g) | (refine goV ?_; intro v) | refine goD ?_ | refine goXD ?_ | (refine goDG ?_; intro g) | (refine goDV ?_; intro v) | refine d151 ?_ | fail)
  first | refine WL.callV (two_c u m hm) ?_ | refine WD.callV (two_c u m hm) ?_
  repeat' (first | refine go ?_ | refine goX ?_ | refine goB ?_ | (refine goG ?_; intro g) | (refine goV ?_; intro v) | refine goD ?_ | refine goXD ?_ | (refine goDG ?_; intro g) | (refine goDV ?_; intro v) | refine d151 ?_ | fail)
  first | refine WL.callV (two_c w n hn) ?_ | refine WD.callV (two_c w n hn) ?_
  repeat' (first | refine go ?_ | refine goX ?_ | refine goB ?_ | (refine goG ?_; intro g) | (refine goV ?_; intro v) | refine goD ?_ | refine goXD ?_ | (refine goDG ?_; intro g) | (refine goDV ?_; intro v) | refine d151 ?_ | fail)
  rw [e1, e2]
  first | refine WL.callK (unsigned_c false (m / n) ((m / n : Nat) : Int) (by omega) (Int.natAbs_natCast _) (fun _ => (decide_eq_false (Int.not_lt.2 (Int.natCast_nonneg _))).symm)) ?_ | refine WD.callK (unsigned_c false (m / n) ((m / n : Nat) : Int) (by omega) (Int.natAbs_natCast _) (fun _ => (decide_eq_false (Int.not_lt.2 (Int.natCast_nonneg _))).symm)) ?_ | refine LO.callM (unsigned_c false (m / n) ((m / n : Nat) : Int) (by omega) (Int.natAbs_natCast _) (fun _ => (decide_eq_false (Int.not_lt.2 (Int.natCast_nonneg _))).symm)) ?_
  rintro _ _ _ ⟨n1, d1, rfl, hb1, rfl, rfl⟩
  simp only [List.nil_append, List.cons_append]
  repeat' (first | refine go ?_ | refine goX ?_ | refine goB ?_ | (refine goG ?_; intro g) | (refine goV ?_; intro v) | refine goD ?_ | refine goXD ?_ | (refine goDG ?_; intro g) | (refine goDV ?_; intro v) | refine d151 ?_ | fail)
  first | refine WL.callK (unsigned_c false (m % n) ((m % n : Nat) : Int) (by omega) (Int.natAbs_natCast _) (fun _ => (decide_eq_false (Int.not_lt.2 (Int.natCast_nonneg _))).symm)) ?_ | refine WD.callK (unsigned_c false (m % n) ((m % n : Nat) : Int) (by omega) (Int.natAbs_natCast _) (fun _ => (decide_eq_false (Int.not_lt.2 (Int.natCast_nonneg _))).symm)) ?_ | refine LO.callM (unsigned_c false (m % n) ((m % n : Nat) : Int) (by omega) (Int.natAbs_natCast _) (fun _ => (decide_eq_false (Int.not_lt.2 (Int.natCast_nonneg _))).symm)) ?_
  rintro _ _ _ ⟨n2, d2, rfl, hb2, rfl, rfl⟩
  simp only [List.nil_append, List.cons_append]
  repeat' (first | refine go ?_ | refine goX ?_ | refine goB ?_ | (refine goG ?_; intro g) | (refine goV ?_; intro v) | refine goD ?_ | refine goXD ?_ | (refine goDG ?_; intro g) | (refine goDV ?_; intro v) | refine d151 ?_ | fail)
  refine WC.ret ?_
  exact Fin.p [] [isZ (.agg #[.bool n1, d1]) ((m / n : Nat) : Int), isZ (.agg #[.bool n2, d2]) ((m % n : Nat) : Int)] (ResE.cc rfl rfl rfl meA meA T.r35 rfl T.r35 rfl) meA (List.nil_sublist _) haA ⟨n1, d1, n2, d2, rfl, hb1, hb2, rfl, rfl⟩
theorem abs_len {x : Int} (h : x.natAbs < B2) : (digs x.natAbs).length ≤ 1000000000 := by
  have := digs_len_le (k := 2) (n := x.natAbs) h
  omega
theorem ediv_neg1 {x y : Int} (hx : x < 0) (hy : y ≠ 0) (hr : x.natAbs % y.natAbs ≠ 0) : (x / y).natAbs = x.natAbs / y.natAbs + 1 ∧ x % y = (y.natAbs : Int) - ((x.natAbs % y.natAbs : Nat) : Int) ∧ (x / y < 0 ↔ 0 < y) ∧ x / y ≠ 0 := by
  have h1 := Nat.div_add_mod x.natAbs y.natAbs
  have h2 : x.natAbs % y.natAbs < y.natAbs := Nat.mod_lt _ (by omega)
  generalize x.natAbs / y.natAbs = q at *
  generalize x.natAbs % y.natAbs = r at *
  have hxe : x = -(x.natAbs : Int) := by omega
  have h3 : (x.natAbs : Int) = (y.natAbs : Int) * q + r := by rw [← h1]; simp
  have key : x % y = (y.natAbs : Int) - r ∧ x / y = (if 0 < y then -((q : Int) + 1) else (q : Int) + 1) := by
    by_cases hy2 : 0 < y
    · rw [if_pos hy2]
      have hye : (y.natAbs : Int) = y := by omega
      rw [hye] at h3 ⊢
      have e : x = y * (-((q : Int) + 1)) + (y - r) := by rw [hxe, h3, Int.mul_neg, Int.mul_add]; omega
      have := Int.ediv_emod_unique (a := x) (b := y) (r := y - r) (q := -((q : Int) + 1)) hy2
      have := this.2 ⟨by rw [e]; omega, by omega, by omega⟩
      exact ⟨this.2, this.1⟩
    · rw [if_neg hy2]
      have hye : (y.natAbs : Int) = -y := by omega
      rw [hye] at h3 ⊢
      have e : x = (-y) * (-((q : Int) + 1)) + ((-y) - r) := by rw [hxe, h3, Int.mul_neg, Int.mul_add]; omega
      have := Int.ediv_emod_unique (a := x) (b := -y) (r := -y - r) (q := -((q : Int) + 1)) (by omega)
      have h5 := this.2 ⟨by rw [e]; omega, by omega, by omega⟩
      rw [Int.ediv_neg, Int.emod_neg] at h5
      exact ⟨h5.2, by omega⟩
  obtain ⟨k1, k2⟩ := key
  rw [k1, k2]
  split <;> (refine ⟨?_, rfl, ?_, ?_⟩ <;> omega)
theorem ediv_pos1 {x y : Int} (hy : y ≠ 0) (hr : 0 ≤ x ∨ x.natAbs % y.natAbs = 0) : (x / y).natAbs = x.natAbs / y.natAbs ∧ x % y = ((x.natAbs % y.natAbs : Nat) : Int) ∧ (x / y ≠ 0 → (x / y < 0 ↔ ¬ (x < 0 ↔ y < 0))) := by
  have h1 := Nat.div_add_mod x.natAbs y.natAbs
  have h2 : x.natAbs % y.natAbs < y.natAbs := Nat.mod_lt _ (by omega)
  generalize x.natAbs / y.natAbs = q at *
  generalize x.natAbs % y.natAbs = r at *
  have h3 : (x.natAbs : Int) = (y.natAbs : Int) * q + r := by rw [← h1]; simp
  have key : x % y = r ∧ x / y = (if (x < 0 ↔ y < 0) then (q : Int) else -(q : Int)) := by
    by_cases hx : x < 0
    · have hr0 : r = 0 := by omega
      subst hr0
      have hxe : x = -(x.natAbs : Int) := by omega
      by_cases hy2 : 0 < y
      · rw [if_neg (by omega)]
        have hye : (y.natAbs : Int) = y := by omega
        rw [hye] at h3
        have := (Int.ediv_emod_unique (a := x) (b := y) (r := 0) (q := -(q : Int)) hy2).2 ⟨by rw [Int.mul_neg]; omega, by omega, by omega⟩
        exact ⟨this.2, this.1⟩
      · rw [if_pos (by omega)]
        have hye : (y.natAbs : Int) = -y := by omega
        rw [hye] at h3
        have h5 := (Int.ediv_emod_unique (a := x) (b := -y) (r := 0) (q := -(q : Int)) (by omega)).2 ⟨by rw [Int.mul_neg]; omega, by omega, by omega⟩
        rw [Int.ediv_neg, Int.emod_neg] at h5
        exact ⟨h5.2, by omega⟩
    · have hxe : x = (x.natAbs : Int) := by omega
      by_cases hy2 : 0 < y
      · rw [if_pos (by omega)]
        have hye : (y.natAbs : Int) = y := by omega
        rw [hye] at h3
        have := (Int.ediv_emod_unique (a := x) (b := y) (r := r) (q := (q : Int)) hy2).2 ⟨by omega, by omega, by omega⟩
        exact ⟨this.2, this.1⟩
      · rw [if_neg (by omega)]
        have hye : (y.natAbs : Int) = -y := by omega
        rw [hye] at h3
        have h5 := (Int.ediv_emod_unique (a := x) (b := -y) (r := r) (q := (q : Int)) (by omega)).2 ⟨by omega, by omega, by omega⟩
        rw [Int.ediv_neg, Int.emod_neg] at h5
        exact ⟨h5.2, by omega⟩
  obtain ⟨k1, k2⟩ := key
  rw [k1, k2]
  split
  · rename_i hc; refine ⟨by omega, rfl, fun hq => ?_⟩; omega
  · rename_i hc; refine ⟨by omega, rfl, fun hq => ?_⟩; omega
theorem nneg_dec (n : Nat) : false = decide ((n : Int) < 0) := (decide_eq_false (Int.not_lt.2 (Int.natCast_nonneg _))).symm
theorem gcd_step {m n : Nat} (h : 0 < n) : Nat.gcd n (m % n) = Nat.gcd m n := by rw [Nat.gcd_comm m n, Nat.gcd_rec n m, Nat.gcd_comm]
set_option maxHeartbeats 4000000 in
set_option maxRecDepth 8000 in
theorem gcd_c (v1 v2 : Value) (x y : Int) (h1 : x.natAbs < B2) (h2 : y.natAbs < B2) : FnB Tryz.prog 121 [v1, v2] [] [isZ v1 x, isZ v2 y] (IsZ ((Int.gcd x y : Nat) : Int)) := by
  refine fn_of [(0, v1), (1, v2)] 59 Tryz.func121 rfl Tryz.ntmps121 (by kernel_rfl) rfl suA fun h0 => ?_
  refine WC.openZ (v := v1) (z := x) hmA fun n1 d1 hv hb1 => ?_
  subst hv
  refine WC.openZ (v := v2) (z := y) hmA fun n2 d2 hv hb2 => ?_
  subst hv
  have hg : Int.gcd x y = Nat.gcd x.natAbs y.natAbs := rfl
  refine WC.fact (sI d1 (digs x.natAbs)) (hasZ_d hmA) ?_
  refine WC.fact (sI d2 (digs y.natAbs)) (hasZ_d hmA) ?_
  have cx := of_c d1 false (digs x.natAbs) (x.natAbs : Int) (digs_Dg _) (by rw [val_digs]; simp) (fun _ => nneg_dec _)
  have cy := of_c d2 false (digs y.natAbs) (y.natAbs : Int) (digs_Dg _) (by rw [val_digs]; simp) (fun _ => nneg_dec _)
  generalize x.natAbs = m at *
  generalize y.natAbs = n at *
  have hm' : m < 1000000000000000000 := h1
  have hn' : n < 1000000000000000000 := h2
  repeat' (first | refine go ?_ | refine goX ?_ | refine goB ?_ | (refine goG ?_; intro g) | (refine goV ?_; intro v))
  refine WC.cutP (σ := Nat × Nat × Nat × Bool × Value × Bool × Value) (fun s => [(5, ptr s.1), (6, ptr s.2.1), (4, ptr s.2.2.1)]) (fun s => [Ow.cells s.2.1 35 [.bool s.2.2.2.2.2.1, s.2.2.2.2.2.2], Ow.cells s.1 35 [.bool s.2.2.2.1, s.2.2.2.2.1], Ow.cells s.2.2.1 35 [.bool false, .slice none 0 0]]) (fun s => [ge h0, isZ (.agg #[.bool s.2.2.2.1, s.2.2.2.2.1]) m, isZ (.agg #[.bool s.2.2.2.2.2.1, s.2.2.2.2.2.2]) n]) (fun _ => True) ?_ ?_
  · repeat' (first | refine go ?_ | refine goX ?_ | refine goB ?_ | (refine goG ?_; intro g) | (refine goV ?_; intro v) | refine goD ?_ | refine goXD ?_ | (refine goDG ?_; intro g) | (refine goDV ?_; intro v) | apply WD.more_of | refine WM.more (by exact rfl) (by exact rfl) (by exact rfl) ?_ ?_ | refine WM.one (by exact rfl) (by exact rfl) (by exact rfl) ?_ | refine WM.more0 (by exact rfl) (by exact rfl) ?_ ?_ | refine WM.one0 (by exact rfl) (by exact rfl) ?_ | (refine goLG ?_; intro g) | (refine goLV ?_; intro v) | refine goLS ?_ | refine d121 ?_ | fail | ((first | refine WL.callK (hv := ?hvQ) (cx) ?_ | refine WD.callK (hv := ?hvQ) (cx) ?_ | refine LO.callM (hv := ?hvQ) (cx) ?_); (case hvQ => ((repeat (first | exact Evs.nil | (apply Evs.cons; exact rfl))); done)); rintro _ _ _ ⟨zb, zd, rfl, zh, rfl, rfl⟩; simp only [List.nil_append, List.cons_append]) | ((first | refine WL.callK (hv := ?hvQ) (cy) ?_ | refine WD.callK (hv := ?hvQ) (cy) ?_ | refine LO.callM (hv := ?hvQ) (cy) ?_); (case hvQ => ((repeat (first | exact Evs.nil | (apply Evs.cons; exact rfl))); done)); rintro _ _ _ ⟨zb, zd, rfl, zh, rfl, rfl⟩; simp only [List.nil_append, List.cons_append]) | fail)
    all_goals (apply Ex7; refine ⟨trivial, ?_, ?_, ?_⟩; (focus (repeat (first | exact Sub.nil _ | refine Sub.cons rfl ?_))); (focus (repeat (first | exact SubP.nil _ | (apply SubP.cons; (repeat (first | exact Rem.head | apply Rem.tail)))))); (focus (repeat (first | exact HasAll.nil | (apply HasAll.cons; exact hsA)))))
  rintro ⟨g5, g6, g4, b1, e1, b2, e2⟩ _
  simp only
  rw [hg]
  refine WC.fact (sI e1 (digs m)) (by simpa using hasZ_d (z := (m : Int)) hmA) ?_
  refine WC.fact (sI e2 (digs n)) (by simpa using hasZ_d (z := (n : Int)) hmA) ?_
  refine WC.openZ (v := .agg #[.bool b1, e1]) (z := (m : Int)) hmA fun b1' e1' hv hbm => ?_
  simp at hv
  obtain ⟨rfl, rfl⟩ := hv
  repeat' (first | refine go ?_ | refine goX ?_ | refine goB ?_ | (refine goG ?_; intro g) | (refine goV ?_; intro v) | refine goD ?_ | refine goXD ?_ | (refine goDG ?_; intro g) | (refine goDV ?_; intro v) | apply WD.more_of | refine WM.more (by exact rfl) (by exact rfl) (by exact rfl) ?_ ?_ | refine WM.one (by exact rfl) (by exact rfl) (by exact rfl) ?_ | refine WM.more0 (by exact rfl) (by exact rfl) ?_ ?_ | refine WM.one0 (by exact rfl) (by exact rfl) ?_ | (refine goLG ?_; intro g) | (refine goLV ?_; intro v) | refine goLS ?_ | refine d121 ?_ | fail)
  refine WC.lp (σ := Unit) (fun _ => [(5, ptr g5), (6, ptr g6), (4, ptr g4)]) (fun _ => [Ow.cells g6 35 [.bool b2, e2], Ow.cells g5 35 [.bool b1, e1], Ow.cells g4 35 [.bool false, .slice none 0 0]]) (fun _ => [sI e2 (digs n), sI e1 (digs m), ge h0, isZ (.agg #[.bool b1, e1]) m, isZ (.agg #[.bool b2, e2]) n]) (fun _ => True) (fun _ => 0) () trivial ?_
  rintro _ _
  by_cases c : n = 0
  · have hl0 : (digs n).length = 0 := digs_len0.2 c
    repeat' (first | refine go ?_ | refine goX ?_ | refine goB ?_ | (refine goG ?_; intro g) | (refine goV ?_; intro v) | refine goD ?_ | refine goXD ?_ | (refine goDG ?_; intro g) | (refine goDV ?_; intro v) | apply WD.more_of | refine WM.more (by exact rfl) (by exact rfl) (by exact rfl) ?_ ?_ | refine WM.one (by exact rfl) (by exact rfl) (by exact rfl) ?_ | refine WM.more0 (by exact rfl) (by exact rfl) ?_ ?_ | refine WM.one0 (by exact rfl) (by exact rfl) ?_ | (refine goLG ?_; intro g) | (refine goLV ?_; intro v) | refine goLS ?_ | refine d121 ?_ | fail)
    rw [c, Nat.gcd_zero_right]
    refine WC.ret ?_
    exact Fin.p [] [isZ (.agg #[.bool b1, e1]) m] (ResE.cV rfl rfl meA T.r35 rfl) meA (List.nil_sublist _) haA ⟨b1, e1, rfl, hbm, rfl, rfl⟩
  · have hl0 : 0 < (digs n).length := by
      have : (digs n).length ≠ 0 := fun h => c (digs_len0.1 h)
      omega
    repeat' (first | refine go ?_ | refine goX ?_ | refine goB ?_ | (refine goG ?_; intro g) | (refine goV ?_; intro v) | refine goD ?_ | refine goXD ?_ | (refine goDG ?_; intro g) | (refine goDV ?_; intro v) | apply WD.more_of | refine WM.more (by exact rfl) (by exact rfl) (by exact rfl) ?_ ?_ | refine WM.one (by exact rfl) (by exact rfl) (by exact rfl) ?_ | refine WM.more0 (by exact rfl) (by exact rfl) ?_ ?_ | refine WM.one0 (by exact rfl) (by exact rfl) ?_ | (refine goLG ?_; intro g) | (refine goLV ?_; intro v) | refine goLS ?_ | refine d121 ?_ | fail)
    first | refine WL.callV (two_c e1 m h1) ?_ | refine WD.callV (two_c e1 m h1) ?_
    repeat' (first | refine go ?_ | refine goX ?_ | refine goB ?_ | (refine goG ?_; intro g) | (refine goV ?_; intro v) | refine goD ?_ | refine goXD ?_ | (refine goDG ?_; intro g) | (refine goDV ?_; intro v) | apply WD.more_of | refine WM.more (by exact rfl) (by exact rfl) (by exact rfl) ?_ ?_ | refine WM.one (by exact rfl) (by exact rfl) (by exact rfl) ?_ | refine WM.more0 (by exact rfl) (by exact rfl) ?_ ?_ | refine WM.one0 (by exact rfl) (by exact rfl) ?_ | (refine goLG ?_; intro g) | (refine goLV ?_; intro v) | refine goLS ?_ | refine d121 ?_ | fail)
    first | refine WL.callV (two_c e2 n h2) ?_ | refine WD.callV (two_c e2 n h2) ?_
    repeat' (first | refine go ?_ | refine goX ?_ | refine goB ?_ | (refine goG ?_; intro g) | (refine goV ?_; intro v) | refine goD ?_ | refine goXD ?_ | (refine goDG ?_; intro g) | (refine goDV ?_; intro v) | apply WD.more_of | refine WM.more (by exact rfl) (by exact rfl) (by exact rfl) ?_ ?_ | refine WM.one (by exact rfl) (by exact rfl) (by exact rfl) ?_ | refine WM.more0 (by exact rfl) (by exact rfl) ?_ ?_ | refine WM.one0 (by exact rfl) (by exact rfl) ?_ | (refine goLG ?_; intro g) | (refine goLV ?_; intro v) | refine goLS ?_ | refine d121 ?_ | fail)
    refine WC.lp (σ := Nat × Nat) (fun s => [(7, .int .i64 (s.1 : Int)), (9, .int .i64 (s.2 : Int)), (4, ptr g4)]) (fun _ => [Ow.cells g4 35 [.bool false, .slice none 0 0]]) (fun _ => [ge h0]) (fun s => s.1 < B2 ∧ s.2 < B2 ∧ Nat.gcd s.1 s.2 = Nat.gcd m n) (fun s => s.2) (m, n) ⟨h1, h2, rfl⟩ ?_
    rintro ⟨p, q⟩ ⟨hp, hq, hpq⟩
    simp only at hp hq hpq ⊢
    have hp' : p < 1000000000000000000 := hp
    have hq' : q < 1000000000000000000 := hq
    by_cases c2 : 0 < q
    · have hr : p % q < q := Nat.mod_lt _ c2
      repeat' (first | refine go ?_ | refine goX ?_ | refine goB ?_ | (refine goG ?_; intro g) | (refine goV ?_; intro v) | refine goD ?_ | refine goXD ?_ | (refine goDG ?_; intro g) | (refine goDV ?_; intro v) | apply WD.more_of | refine WM.more (by exact rfl) (by exact rfl) (by exact rfl) ?_ ?_ | refine WM.one (by exact rfl) (by exact rfl) (by exact rfl) ?_ | refine WM.more0 (by exact rfl) (by exact rfl) ?_ ?_ | refine WM.one0 (by exact rfl) (by exact rfl) ?_ | (refine goLG ?_; intro g) | (refine goLV ?_; intro v) | refine goLS ?_ | refine d121 ?_ | fail)
      exact LoopEnd.mk (q, p % q) ⟨hq, Nat.lt_trans hr hq, by rw [gcd_step c2, hpq]⟩ (by show p % q < q; exact hr) (by rw [show ((p % q : Nat) : Int) = (p : Int) % (q : Int) by simp]; exact suA)
    · obtain rfl : q = 0 := by omega
      rw [Nat.gcd_zero_right] at hpq
      rw [← hpq]
      repeat' (first | refine go ?_ | refine goX ?_ | refine goB ?_ | (refine goG ?_; intro g) | (refine goV ?_; intro v) | refine goD ?_ | refine goXD ?_ | (refine goDG ?_; intro g) | (refine goDV ?_; intro v) | apply WD.more_of | refine WM.more (by exact rfl) (by exact rfl) (by exact rfl) ?_ ?_ | refine WM.one (by exact rfl) (by exact rfl) (by exact rfl) ?_ | refine WM.more0 (by exact rfl) (by exact rfl) ?_ ?_ | refine WM.one0 (by exact rfl) (by exact rfl) ?_ | (refine goLG ?_; intro g) | (refine goLV ?_; intro v) | refine goLS ?_ | refine d121 ?_ | fail)
      first | refine WL.callK (unsigned_c false p (p : Int) (by omega) (Int.natAbs_natCast _) (fun _ => nneg_dec _)) ?_ | refine WD.callK (unsigned_c false p (p : Int) (by omega) (Int.natAbs_natCast _) (fun _ => nneg_dec _)) ?_ | refine LO.callM (unsigned_c false p (p : Int) (by omega) (Int.natAbs_natCast _) (fun _ => nneg_dec _)) ?_
      rintro _ _ _ ⟨nb, d, rfl, hb, rfl, rfl⟩
      simp only [List.nil_append, List.cons_append]
      repeat' (first | refine go ?_ | refine goX ?_ | refine goB ?_ | (refine goG ?_; intro g) | (refine goV ?_; intro v) | refine goD ?_ | refine goXD ?_ | (refine goDG ?_; intro g) | (refine goDV ?_; intro v) | apply WD.more_of | refine WM.more (by exact rfl) (by exact rfl) (by exact rfl) ?_ ?_ | refine WM.one (by exact rfl) (by exact rfl) (by exact rfl) ?_ | refine WM.more0 (by exact rfl) (by exact rfl) ?_ ?_ | refine WM.one0 (by exact rfl) (by exact rfl) ?_ | (refine goLG ?_; intro g) | (refine goLV ?_; intro v) | refine goLS ?_ | refine d121 ?_ | fail)
      refine WC.ret ?_
      exact Fin.p [] [isZ (.agg #[.bool nb, d]) p] (ResE.cV rfl rfl meA T.r35 rfl) meA (List.nil_sublist _) haA ⟨nb, d, rfl, hb, rfl, rfl⟩
end Dvz
end Go.Proofs.YthggloiigkbfeaaGreat
namespace Go.Proofs.YthggloiigkbfeaaGreat
open W Go.RowKit
attribute [local irreducible] WC WL WD YO LO LoopEnd W.Fin Scalar SliceT FieldAt Row ArrT AllocT KnS Has W.One SrcE IntT
theorem d134 {G G' : Prop} (h : G') (s : Bx G' → G := by
  intro h
  first | (apply WC.draw (id := 6) [0, 1, 2, 3, 4, 5, 6, 7, 8] (.held 0 (.held 1 (.held 2 (.held 3 (.held 4 (.held 5 (.held 6 (.held 7 (.held 8 (.done)))))))))) mixed (by kernel_rfl)) | (apply WC.draw (id := 7) [0, 1, 2, 3, 4, 5, 6, 7, 9] (.held 0 (.held 1 (.held 2 (.held 3 (.held 4 (.held 5 (.held 6 (.held 7 (.loud 8 (.held 9 (.done))))))))))) mixed (by kernel_rfl)) | fail
  exact Bx.h h) : G := s ⟨h⟩
set_option maxHeartbeats 4000000 in
set_option maxRecDepth 8000 in
theorem isNaN_c (a : Int) : FnB Tryz.prog 166 [.int .i64 a] [] [] (IsV (.bool false)) := by
  refine fn_of [(0, (.int .i64 a))] 6 Tryz.func166 rfl Tryz.ntmps166 (by kernel_rfl) rfl suA fun h0 => ?_
  repeat' (first | refine go ?_ | refine goX ?_ | refine goB ?_ | (refine goG ?_; intro g) | (refine goV ?_; intro v))
  refine WC.ret ?_
  exact Fin.v (ResE.t1 rfl rfl) meA rfl
set_option maxHeartbeats 4000000 in
set_option maxRecDepth 8000 in
theorem cmpc_c (a b : Int) : FnB Tryz.prog 149 [.int .i64 a, .int .i64 b] [] [] (IsV (.int .i64 (cmpI a b))) := by
  refine fn_of [(0, (.int .i64 a)), (1, (.int .i64 b))] 20 Tryz.func149 rfl Tryz.ntmps149 (by kernel_rfl) rfl suA fun h0 => ?_
  repeat' (first | refine go ?_ | refine goX ?_ | refine goB ?_ | (refine goG ?_; intro g) | (refine goV ?_; intro v))
  first | refine WL.callV (isNaN_c a) ?_ | refine WD.callV (isNaN_c a) ?_
  repeat' (first | refine go ?_ | refine goX ?_ | refine goB ?_ | (refine goG ?_; intro g) | (refine goV ?_; intro v))
  first | refine WL.callV (isNaN_c b) ?_ | refine WD.callV (isNaN_c b) ?_
  by_cases h1 : a < b
  · repeat' (first | refine go ?_ | refine goX ?_ | refine goB ?_ | (refine goG ?_; intro g) | (refine goV ?_; intro v))
    refine WC.ret ?_
    exact Fin.v (ResE.t1 rfl rfl) meA (by rw [cmpI, if_pos h1])
  · by_cases h2 : b < a
    · repeat' (first | refine go ?_ | refine goX ?_ | refine goB ?_ | (refine goG ?_; intro g) | (refine goV ?_; intro v))
      refine WC.ret ?_
      exact Fin.v (ResE.t1 rfl rfl) meA (by rw [cmpI, if_neg h1, if_pos h2])
    · repeat' (first | refine go ?_ | refine goX ?_ | refine goB ?_ | (refine goG ?_; intro g) | (refine goV ?_; intro v))
      refine WC.ret ?_
      exact Fin.v (ResE.t1 rfl rfl) meA (by rw [cmpI, if_neg h1, if_neg h2])
theorem cmpI_lt {m n : Int} (h : m < n) : cmpI m n = -1 := by rw [cmpI, if_pos h]
theorem cmpI_gt {m n : Int} (h : n < m) : cmpI m n = 1 := by rw [cmpI, if_neg (by omega), if_pos h]
set_option maxHeartbeats 4000000 in
set_option maxRecDepth 8000 in
theorem compare_c (u w : Value) (m n : Nat) : FnB Tryz.prog 134 [u, w] [] [sI u (digs m), sI w (digs n)] (IsV (.int .i64 (cmpN m n))) := by
  refine fn_of [(0, u), (1, w)] 41 Tryz.func134 rfl Tryz.ntmps134 (by kernel_rfl) rfl suA fun h0 => ?_
  obtain ⟨a, ha⟩ : ∃ a, digs m = a := ⟨_, rfl⟩
  obtain ⟨b, hb⟩ : ∃ b, digs n = b := ⟨_, rfl⟩
  have hcl := fun hl => @digs_lt_len m n hl
  have hcg := fun hl => @digs_lt_len n m hl
  have hlt := fun k hl => @digs_cmp_lt m n k hl
  have hgt := fun k hl => @digs_cmp_lt n m k hl
  have heq := fun hl => @digs_cmp_eq m n hl
  rw [ha, hb] at *
  refine WC.lenI u a hmA fun hlen => ?_
  refine WC.lenI w b hmA fun hlen2 => ?_
  by_cases c0 : a.length = b.length
  · repeat' (first | refine go ?_ | refine goX ?_ | refine goB ?_ | (refine goG ?_; intro g) | (refine goV ?_; intro v) | refine goD ?_ | refine goXD ?_ | (refine goDG ?_; intro g) | (refine goDV ?_; intro v) | refine d134 ?_ | fail)
    refine WC.lp (σ := Nat) (fun k => [(5, .int .i64 ((k : Int) - 1)), (0, u), (1, w)]) (fun _ => []) (fun _ => [ge h0, sI u a, sI w b]) (fun k => k ≤ a.length ∧ ∀ j, k ≤ j → j < a.length → a.getD j 0 = b.getD j 0) (fun k => k) a.length ⟨Nat.le_refl _, fun j _ _ => by omega⟩ ?_
    rintro k ⟨hk, hs⟩
    by_cases h : 0 < k
    · have e1 : ((k : Int) - 1).toNat = k - 1 := by omega
      by_cases c1 : a.getD (k - 1) 0 = b.getD (k - 1) 0
      · have c1' : a.getD ((k : Int) - 1).toNat 0 = b.getD ((k : Int) - 1).toNat 0 := by rw [e1]; exact c1
        repeat' (first | refine go ?_ | refine goX ?_ | refine goB ?_ | (refine goG ?_; intro g) | (refine goV ?_; intro v) | refine goD ?_ | refine goXD ?_ | (refine goDG ?_; intro g) | (refine goDV ?_; intro v) | refine d134 ?_ | fail)
        exact LoopEnd.mk (k - 1) ⟨by omega, fun j h4 h5 => if hj : j = k - 1 then hj ▸ c1 else hs j (by omega) h5⟩ (by omega) (by rw [show ((k - 1 : Nat) : Int) - 1 = (k : Int) - 1 - 1 by omega]; exact suA)
      · have c1' : a.getD ((k : Int) - 1).toNat 0 ≠ b.getD ((k : Int) - 1).toNat 0 := by rw [e1]; exact c1
        repeat' (first | refine go ?_ | refine goX ?_ | refine goB ?_ | (refine goG ?_; intro g) | (refine goV ?_; intro v) | refine goD ?_ | refine goXD ?_ | (refine goDG ?_; intro g) | (refine goDV ?_; intro v) | refine d134 ?_ | fail)
        first | refine WL.callV (cmpc_c (a.getD ((k : Int) - 1).toNat 0) (b.getD ((k : Int) - 1).toNat 0)) ?_ | refine WD.callV (cmpc_c (a.getD ((k : Int) - 1).toNat 0) (b.getD ((k : Int) - 1).toNat 0)) ?_
        rw [e1]
        have hv : cmpI (a.getD (k - 1) 0) (b.getD (k - 1) 0) = cmpN m n := by
          by_cases c2 : a.getD (k - 1) 0 < b.getD (k - 1) 0
          · rw [cmpI_lt c2, cmpN_lt (hlt (k - 1) c0 (by omega) (fun j h4 h5 => hs j (by omega) h5) c2)]
          · rw [cmpI_gt (by omega), cmpN_gt (hgt (k - 1) c0.symm (by omega) (fun j h4 h5 => (hs j (by omega) (by omega)).symm) (by omega))]
        rw [hv]
        repeat' (first | refine go ?_ | refine goX ?_ | refine goB ?_ | (refine goG ?_; intro g) | (refine goV ?_; intro v) | refine goD ?_ | refine goXD ?_ | (refine goDG ?_; intro g) | (refine goDV ?_; intro v) | refine d134 ?_ | fail)
        refine WC.ret ?_
        exact Fin.v (ResE.t1 rfl rfl) meA rfl
    · obtain rfl : k = 0 := by omega
      have hmn := heq c0 fun j hj => hs j (by omega) hj
      repeat' (first | refine go ?_ | refine goX ?_ | refine goB ?_ | (refine goG ?_; intro g) | (refine goV ?_; intro v) | refine goD ?_ | refine goXD ?_ | (refine goDG ?_; intro g) | (refine goDV ?_; intro v) | refine d134 ?_ | fail)
      refine WC.ret ?_
      exact Fin.v (ResE.t1 rfl rfl) meA (by rw [hmn, cmpN_eq])
  · repeat' (first | refine go ?_ | refine goX ?_ | refine goB ?_ | (refine goG ?_; intro g) | (refine goV ?_; intro v) | refine goD ?_ | refine goXD ?_ | (refine goDG ?_; intro g) | (refine goDV ?_; intro v) | refine d134 ?_ | fail)
    first | refine WL.callV (cmpc_c (a.length : Int) (b.length : Int)) ?_ | refine WD.callV (cmpc_c (a.length : Int) (b.length : Int)) ?_
    have hv : cmpI (a.length : Int) (b.length : Int) = cmpN m n := by
      by_cases c2 : a.length < b.length
      · rw [cmpI_lt (by omega), cmpN_lt (hcl c2)]
      · rw [cmpI_gt (by omega), cmpN_gt (hcg (by omega))]
    rw [hv]
    repeat' (first | refine go ?_ | refine goX ?_ | refine goB ?_ | (refine goG ?_; intro g) | (refine goV ?_; intro v) | refine goD ?_ | refine goXD ?_ | (refine goDG ?_; intro g) | (refine goDV ?_; intro v) | refine d134 ?_ | fail)
    refine WC.ret ?_
    exact Fin.v (ResE.t1 rfl rfl) meA rfl
end Go.Proofs.YthggloiigkbfeaaGreat
namespace Go.Proofs.YthggloiigkbfeaaGreat
open W Go.RowKit
theorem len_pos {n : Nat} (h : n ≠ 0) : 0 < (digs n).length := by
  have : (digs n).length ≠ 0 := fun h2 => h (digs_len0.1 h2)
  omega
theorem Dg.one : Dg [1] := .cons ⟨by decide, by decide⟩ .nil
namespace Dvv
open Dvz
attribute [local irreducible] WC WL WD YO LO LoopEnd W.Fin Scalar SliceT FieldAt Row ArrT AllocT KnS Has W.One SrcE IntT
theorem d123 {G G' : Prop} (h : G') (s : Bx G' → G := by
  intro h
  first | (apply WC.drawR (id := 8) [4] [0, 1] (.held 0 (.held 1 (.loud 2 (.loud 3 (.done))))) mixed (by kernel_rfl); (focus ((repeat (first | exact Rems.nil _ | (apply Rems.cons; exact rfl; (repeat (first | exact Rem.head | apply Rem.tail))))); done))) | fail
  exact Bx.h h) : G := s ⟨h⟩
theorem hasZ_dn {F : List Fct} {a d : Value} {n : Nat} (h : Has F (isZ (.agg #[a, d]) (n : Int))) : Has F (sI d (digs n)) := by simpa using hasZ_d h
set_option maxHeartbeats 8000000 in
set_option maxRecDepth 8000 in
theorem div_c (v1 v2 : Value) (x y : Int) (h1 : x.natAbs < B2) (h2 : y.natAbs < B2) (hy : y ≠ 0) : FnB Tryz.prog 123 [v1, v2] [] [isZ v1 x, isZ v2 y] (IsZZ (x / y) (x % y)) := by
  refine fn_of [(0, v1), (1, v2)] 55 Tryz.func123 rfl Tryz.ntmps123 (by kernel_rfl) rfl suA fun h0 => ?_
  refine WC.openZ (v := v1) (z := x) hmA fun n1 d1 hv hb1 => ?_
  subst hv
  refine WC.openZ (v := v2) (z := y) hmA fun n2 d2 hv hb2 => ?_
  subst hv
  refine WC.fact (sI d1 (digs x.natAbs)) (hasZ_d hmA) ?_
  refine WC.fact (sI d2 (digs y.natAbs)) (hasZ_d hmA) ?_
  have hny : y.natAbs ≠ 0 := by omega
  have h1' : x.natAbs < 1000000000000000000 := h1
  have hly := len_pos hny
  repeat' (first | refine go ?_ | refine goX ?_ | refine goB ?_ | (refine goG ?_; intro g) | (refine goV ?_; intro v) | refine goD ?_ | refine goXD ?_ | (refine goDG ?_; intro g) | (refine goDV ?_; intro v) | refine d123 ?_ | fail)
  refine WL.callK (Dvz.divide_c d1 d2 x.natAbs y.natAbs h1 h2 hny) ?_
  rintro _ _ _ ⟨n3, d3, n4, d4, rfl, hb3, hb4, rfl, rfl⟩
  simp only [List.nil_append, List.cons_append]
  have hr := Nat.mod_lt x.natAbs (show 0 < y.natAbs by omega)
  have hq0 : x.natAbs / y.natAbs ≤ x.natAbs := Nat.div_le_self _ _
  have e1 := @ediv_neg1 x y
  have e2 := @ediv_pos1 x y hy
  generalize hR : x.natAbs % y.natAbs = R at *
  generalize hQ : x.natAbs / y.natAbs = Q at *
  refine WL.fact' (sI d3 (digs Q)) (hasZ_dn hmA) ?_
  refine WL.fact' (sI d4 (digs R)) (hasZ_dn hmA) ?_
  obtain rfl : false = n3 := (hb3.trans (nneg_dec Q).symm).symm
  obtain rfl : false = n4 := (hb4.trans (nneg_dec R).symm).symm
  cases n1 with
  | true =>
    have hx : x < 0 := of_decide_eq_true hb1.symm
    cases n2 with
    | true =>
      have hy2 : y < 0 := of_decide_eq_true hb2.symm
      by_cases hr0 : R = 0
      · have hlr0 : (digs R).length = 0 := digs_len0.2 hr0
        obtain ⟨hqa, hra, hsg⟩ := e2 (.inr hr0)
        have hq1 := fun h => len_pos (n := Q) h
        have hlr : True := trivial
        by_cases hq : Q = 0
        · have hlq : (digs Q).length = 0 := digs_len0.2 hq
          have hz : x / y = 0 := by omega
          repeat' (first | refine go ?_ | refine goX ?_ | refine goB ?_ | (refine goG ?_; intro g) | (refine goV ?_; intro v) | refine goD ?_ | refine goXD ?_ | (refine goDG ?_; intro g) | (refine goDV ?_; intro v) | refine d123 ?_ | fail)
          rw [← hra] at hb4 ⊢
          refine WC.fact (isZ (.agg #[.bool false, d3]) (x / y)) (hasZ_of (by rw [eq_comm]; simp only [decide_eq_true_eq, decide_eq_false_iff_not]; omega) (by rw [hqa]; exact hasZ_dn hmA)) ?_
          refine WC.ret ?_
          exact Fin.p [] [isZ (.agg #[.bool false, d3]) (x / y), isZ (.agg #[.bool false, d4]) (x % y)] (ResE.cc rfl rfl rfl meA meA T.r35 rfl T.r35 rfl) meA (List.nil_sublist _) haA ⟨false, d3, false, d4, rfl, (by rw [eq_comm]; simp only [decide_eq_true_eq, decide_eq_false_iff_not]; omega), hb4, rfl, rfl⟩
        · have hlq := hq1 hq
          have hsg := hsg (by omega)
          repeat' (first | refine go ?_ | refine goX ?_ | refine goB ?_ | (refine goG ?_; intro g) | (refine goV ?_; intro v) | refine goD ?_ | refine goXD ?_ | (refine goDG ?_; intro g) | (refine goDV ?_; intro v) | refine d123 ?_ | fail)
          rw [← hra] at hb4 ⊢
          refine WC.fact (isZ (.agg #[.bool false, d3]) (x / y)) (hasZ_of (by rw [eq_comm]; simp only [decide_eq_true_eq, decide_eq_false_iff_not]; omega) (by rw [hqa]; exact hasZ_dn hmA)) ?_
          refine WC.ret ?_
          exact Fin.p [] [isZ (.agg #[.bool false, d3]) (x / y), isZ (.agg #[.bool false, d4]) (x % y)] (ResE.cc rfl rfl rfl meA meA T.r35 rfl T.r35 rfl) meA (List.nil_sublist _) haA ⟨false, d3, false, d4, rfl, (by rw [eq_comm]; simp only [decide_eq_true_eq, decide_eq_false_iff_not]; omega), hb4, rfl, rfl⟩
      · have hlr0 := len_pos hr0
        obtain ⟨hqa, hra, hsg, hqne⟩ := e1 hx hy hr0
        repeat' (first | refine go ?_ | refine goX ?_ | refine goB ?_ | (refine goG ?_; intro g) | (refine goV ?_; intro v) | refine goD ?_ | refine goXD ?_ | (refine goDG ?_; intro g) | (refine goDV ?_; intro v) | refine d123 ?_ | fail)
        refine WL.freezeI (l := [1]) (v := v) (el := 3) (by repeat (first | exact Sel.head | apply Sel.tail)) ?_
        revert v; intro v1
        refine WL.callK (plus_c d3 v1 (digs Q) [1] (digs_Dg _) .one (Nat.le_trans (digs_len_le (k := 2) (by omega)) (by decide)) (by decide)) ?_
        rintro v2 _ _ ⟨l2, rfl, rfl, hd2, hv2, hl2⟩
        simp only [List.nil_append, List.cons_append]
        first | refine WL.callK (of_c v2 false l2 ((Q + 1 : Nat) : Int) hd2 (by rw [hv2, val_digs]; show ((Q + 1 : Nat) : Int).natAbs = ((Q : Int) + (1 + 1000000000 * 0)).toNat; omega) (fun _ => nneg_dec _)) ?_ | refine WD.callK (of_c v2 false l2 ((Q + 1 : Nat) : Int) hd2 (by rw [hv2, val_digs]; show ((Q + 1 : Nat) : Int).natAbs = ((Q : Int) + (1 + 1000000000 * 0)).toNat; omega) (fun _ => nneg_dec _)) ?_ | refine LO.callM (of_c v2 false l2 ((Q + 1 : Nat) : Int) hd2 (by rw [hv2, val_digs]; show ((Q + 1 : Nat) : Int).natAbs = ((Q : Int) + (1 + 1000000000 * 0)).toNat; omega) (fun _ => nneg_dec _)) ?_
        rintro _ _ _ ⟨n5, d5, rfl, hb5, rfl, rfl⟩
        simp only [List.nil_append, List.cons_append]
        repeat' (first | refine go ?_ | refine goX ?_ | refine goB ?_ | (refine goG ?_; intro g) | (refine goV ?_; intro v) | refine goD ?_ | refine goXD ?_ | (refine goDG ?_; intro g) | (refine goDV ?_; intro v) | refine d123 ?_ | fail)
        have hlen : (digs R).length ≤ (digs y.natAbs).length := Nat.le_of_not_lt fun h => by have := digs_lt_len h; omega
        refine WL.callK (Mns.minus_c d2 d4 (digs y.natAbs) (digs R) (digs_Dg _) (digs_Dg _) (abs_len h2) hlen hly (by rw [val_digs, val_digs]; omega)) ?_
        rintro v3 _ _ ⟨l3, rfl, rfl, hd3, hv3, hl3⟩
        simp only [List.nil_append, List.cons_append]
        first | refine WL.callK (of_c v3 false l3 (x % y) hd3 (by rw [hv3, hra, val_digs, val_digs]; omega) (fun _ => by rw [hra]; exact (decide_eq_false (by omega)).symm)) ?_ | refine WD.callK (of_c v3 false l3 (x % y) hd3 (by rw [hv3, hra, val_digs, val_digs]; omega) (fun _ => by rw [hra]; exact (decide_eq_false (by omega)).symm)) ?_ | refine LO.callM (of_c v3 false l3 (x % y) hd3 (by rw [hv3, hra, val_digs, val_digs]; omega) (fun _ => by rw [hra]; exact (decide_eq_false (by omega)).symm)) ?_
        rintro _ _ _ ⟨n4, d6, rfl, hb4, rfl, rfl⟩
        simp only [List.nil_append, List.cons_append]
        obtain rfl : false = n5 := (hb5.trans (nneg_dec _).symm).symm
        have hlq : 0 < (digs (Q + 1)).length := len_pos (by omega)
        have hlq2 : 0 < (digs ((Q + 1 : Nat) : Int).natAbs).length := hlq
        repeat' (first | refine go ?_ | refine goX ?_ | refine goB ?_ | (refine goG ?_; intro g) | (refine goV ?_; intro v) | refine goD ?_ | refine goXD ?_ | (refine goDG ?_; intro g) | (refine goDV ?_; intro v) | refine d123 ?_ | fail)
        refine WC.fact (isZ (.agg #[.bool false, d5]) (x / y)) (hasZ_of (by rw [eq_comm]; simp only [decide_eq_true_eq, decide_eq_false_iff_not]; omega) (by rw [hqa]; exact hasZ_dn hmA)) ?_
        refine WC.ret ?_
        exact Fin.p [] [isZ (.agg #[.bool false, d5]) (x / y), isZ (.agg #[.bool n4, d6]) (x % y)] (ResE.cc rfl rfl rfl meA meA T.r35 rfl T.r35 rfl) meA (List.nil_sublist _) haA ⟨false, d5, n4, d6, rfl, (by rw [eq_comm]; simp only [decide_eq_true_eq, decide_eq_false_iff_not]; omega), hb4, rfl, rfl⟩
    | false =>
      have hy2 : ¬ y < 0 := of_decide_eq_false hb2.symm
      by_cases hr0 : R = 0
      · have hlr0 : (digs R).length = 0 := digs_len0.2 hr0
        obtain ⟨hqa, hra, hsg⟩ := e2 (.inr hr0)
        have hq1 := fun h => len_pos (n := Q) h
        have hlr : True := trivial
        by_cases hq : Q = 0
        · have hlq : (digs Q).length = 0 := digs_len0.2 hq
          have hz : x / y = 0 := by omega
          repeat' (first | refine go ?_ | refine goX ?_ | refine goB ?_ | (refine goG ?_; intro g) | (refine goV ?_; intro v) | refine goD ?_ | refine goXD ?_ | (refine goDG ?_; intro g) | (refine goDV ?_; intro v) | refine d123 ?_ | fail)
          rw [← hra] at hb4 ⊢
          refine WC.fact (isZ (.agg #[.bool false, d3]) (x / y)) (hasZ_of (by rw [eq_comm]; simp only [decide_eq_true_eq, decide_eq_false_iff_not]; omega) (by rw [hqa]; exact hasZ_dn hmA)) ?_
          refine WC.ret ?_
          exact Fin.p [] [isZ (.agg #[.bool false, d3]) (x / y), isZ (.agg #[.bool false, d4]) (x % y)] (ResE.cc rfl rfl rfl meA meA T.r35 rfl T.r35 rfl) meA (List.nil_sublist _) haA ⟨false, d3, false, d4, rfl, (by rw [eq_comm]; simp only [decide_eq_true_eq, decide_eq_false_iff_not]; omega), hb4, rfl, rfl⟩
        · have hlq := hq1 hq
          have hsg := hsg (by omega)
          repeat' (first | refine go ?_ | refine goX ?_ | refine goB ?_ | (refine goG ?_; intro g) | (refine goV ?_; intro v) | refine goD ?_ | refine goXD ?_ | (refine goDG ?_; intro g) | (refine goDV ?_; intro v) | refine d123 ?_ | fail)
          rw [← hra] at hb4 ⊢
          refine WC.fact (isZ (.agg #[.bool true, d3]) (x / y)) (hasZ_of (by rw [eq_comm]; simp only [decide_eq_true_eq, decide_eq_false_iff_not]; omega) (by rw [hqa]; exact hasZ_dn hmA)) ?_
          refine WC.ret ?_
          exact Fin.p [] [isZ (.agg #[.bool true, d3]) (x / y), isZ (.agg #[.bool false, d4]) (x % y)] (ResE.cc rfl rfl rfl meA meA T.r35 rfl T.r35 rfl) meA (List.nil_sublist _) haA ⟨true, d3, false, d4, rfl, (by rw [eq_comm]; simp only [decide_eq_true_eq, decide_eq_false_iff_not]; omega), hb4, rfl, rfl⟩
      · have hlr0 := len_pos hr0
        obtain ⟨hqa, hra, hsg, hqne⟩ := e1 hx hy hr0
        repeat' (first | refine go ?_ | refine goX ?_ | refine goB ?_ | (refine goG ?_; intro g) | (refine goV ?_; intro v) | refine goD ?_ | refine goXD ?_ | (refine goDG ?_; intro g) | (refine goDV ?_; intro v) | refine d123 ?_ | fail)
        refine WL.freezeI (l := [1]) (v := v) (el := 3) (by repeat (first | exact Sel.head | apply Sel.tail)) ?_
        revert v; intro v1
        refine WL.callK (plus_c d3 v1 (digs Q) [1] (digs_Dg _) .one (Nat.le_trans (digs_len_le (k := 2) (by omega)) (by decide)) (by decide)) ?_
        rintro v2 _ _ ⟨l2, rfl, rfl, hd2, hv2, hl2⟩
        simp only [List.nil_append, List.cons_append]
        first | refine WL.callK (of_c v2 false l2 ((Q + 1 : Nat) : Int) hd2 (by rw [hv2, val_digs]; show ((Q + 1 : Nat) : Int).natAbs = ((Q : Int) + (1 + 1000000000 * 0)).toNat; omega) (fun _ => nneg_dec _)) ?_ | refine WD.callK (of_c v2 false l2 ((Q + 1 : Nat) : Int) hd2 (by rw [hv2, val_digs]; show ((Q + 1 : Nat) : Int).natAbs = ((Q : Int) + (1 + 1000000000 * 0)).toNat; omega) (fun _ => nneg_dec _)) ?_ | refine LO.callM (of_c v2 false l2 ((Q + 1 : Nat) : Int) hd2 (by rw [hv2, val_digs]; show ((Q + 1 : Nat) : Int).natAbs = ((Q : Int) + (1 + 1000000000 * 0)).toNat; omega) (fun _ => nneg_dec _)) ?_
        rintro _ _ _ ⟨n5, d5, rfl, hb5, rfl, rfl⟩
        simp only [List.nil_append, List.cons_append]
        repeat' (first | refine go ?_ | refine goX ?_ | refine goB ?_ | (refine goG ?_; intro g) | (refine goV ?_; intro v) | refine goD ?_ | refine goXD ?_ | (refine goDG ?_; intro g) | (refine goDV ?_; intro v) | refine d123 ?_ | fail)
        have hlen : (digs R).length ≤ (digs y.natAbs).length := Nat.le_of_not_lt fun h => by have := digs_lt_len h; omega
        refine WL.callK (Mns.minus_c d2 d4 (digs y.natAbs) (digs R) (digs_Dg _) (digs_Dg _) (abs_len h2) hlen hly (by rw [val_digs, val_digs]; omega)) ?_
        rintro v3 _ _ ⟨l3, rfl, rfl, hd3, hv3, hl3⟩
        simp only [List.nil_append, List.cons_append]
        first | refine WL.callK (of_c v3 false l3 (x % y) hd3 (by rw [hv3, hra, val_digs, val_digs]; omega) (fun _ => by rw [hra]; exact (decide_eq_false (by omega)).symm)) ?_ | refine WD.callK (of_c v3 false l3 (x % y) hd3 (by rw [hv3, hra, val_digs, val_digs]; omega) (fun _ => by rw [hra]; exact (decide_eq_false (by omega)).symm)) ?_ | refine LO.callM (of_c v3 false l3 (x % y) hd3 (by rw [hv3, hra, val_digs, val_digs]; omega) (fun _ => by rw [hra]; exact (decide_eq_false (by omega)).symm)) ?_
        rintro _ _ _ ⟨n4, d6, rfl, hb4, rfl, rfl⟩
        simp only [List.nil_append, List.cons_append]
        obtain rfl : false = n5 := (hb5.trans (nneg_dec _).symm).symm
        have hlq : 0 < (digs (Q + 1)).length := len_pos (by omega)
        have hlq2 : 0 < (digs ((Q + 1 : Nat) : Int).natAbs).length := hlq
        repeat' (first | refine go ?_ | refine goX ?_ | refine goB ?_ | (refine goG ?_; intro g) | (refine goV ?_; intro v) | refine goD ?_ | refine goXD ?_ | (refine goDG ?_; intro g) | (refine goDV ?_; intro v) | refine d123 ?_ | fail)
        refine WC.fact (isZ (.agg #[.bool true, d5]) (x / y)) (hasZ_of (by rw [eq_comm]; simp only [decide_eq_true_eq, decide_eq_false_iff_not]; omega) (by rw [hqa]; exact hasZ_dn hmA)) ?_
        refine WC.ret ?_
        exact Fin.p [] [isZ (.agg #[.bool true, d5]) (x / y), isZ (.agg #[.bool n4, d6]) (x % y)] (ResE.cc rfl rfl rfl meA meA T.r35 rfl T.r35 rfl) meA (List.nil_sublist _) haA ⟨true, d5, n4, d6, rfl, (by rw [eq_comm]; simp only [decide_eq_true_eq, decide_eq_false_iff_not]; omega), hb4, rfl, rfl⟩
  | false =>
    have hx : ¬ x < 0 := of_decide_eq_false hb1.symm
    cases n2 with
    | true =>
      have hy2 : y < 0 := of_decide_eq_true hb2.symm
      obtain ⟨hqa, hra, hsg⟩ := e2 (.inl (by omega))
      have hq1 := fun h => len_pos (n := Q) h
      have hlr : True := trivial
      by_cases hq : Q = 0
      · have hlq : (digs Q).length = 0 := digs_len0.2 hq
        have hz : x / y = 0 := by omega
        repeat' (first | refine go ?_ | refine goX ?_ | refine goB ?_ | (refine goG ?_; intro g) | (refine goV ?_; intro v) | refine goD ?_ | refine goXD ?_ | (refine goDG ?_; intro g) | (refine goDV ?_; intro v) | refine d123 ?_ | fail)
        rw [← hra] at hb4 ⊢
        refine WC.fact (isZ (.agg #[.bool false, d3]) (x / y)) (hasZ_of (by rw [eq_comm]; simp only [decide_eq_true_eq, decide_eq_false_iff_not]; omega) (by rw [hqa]; exact hasZ_dn hmA)) ?_
        refine WC.ret ?_
        exact Fin.p [] [isZ (.agg #[.bool false, d3]) (x / y), isZ (.agg #[.bool false, d4]) (x % y)] (ResE.cc rfl rfl rfl meA meA T.r35 rfl T.r35 rfl) meA (List.nil_sublist _) haA ⟨false, d3, false, d4, rfl, (by rw [eq_comm]; simp only [decide_eq_true_eq, decide_eq_false_iff_not]; omega), hb4, rfl, rfl⟩
      · have hlq := hq1 hq
        have hsg := hsg (by omega)
        repeat' (first | refine go ?_ | refine goX ?_ | refine goB ?_ | (refine goG ?_; intro g) | (refine goV ?_; intro v) | refine goD ?_ | refine goXD ?_ | (refine goDG ?_; intro g) | (refine goDV ?_; intro v) | refine d123 ?_ | fail)
        rw [← hra] at hb4 ⊢
        refine WC.fact (isZ (.agg #[.bool true, d3]) (x / y)) (hasZ_of (by rw [eq_comm]; simp only [decide_eq_true_eq, decide_eq_false_iff_not]; omega) (by rw [hqa]; exact hasZ_dn hmA)) ?_
        refine WC.ret ?_
        exact Fin.p [] [isZ (.agg #[.bool true, d3]) (x / y), isZ (.agg #[.bool false, d4]) (x % y)] (ResE.cc rfl rfl rfl meA meA T.r35 rfl T.r35 rfl) meA (List.nil_sublist _) haA ⟨true, d3, false, d4, rfl, (by rw [eq_comm]; simp only [decide_eq_true_eq, decide_eq_false_iff_not]; omega), hb4, rfl, rfl⟩
    | false =>
      have hy2 : ¬ y < 0 := of_decide_eq_false hb2.symm
      obtain ⟨hqa, hra, hsg⟩ := e2 (.inl (by omega))
      have hq1 := fun h => len_pos (n := Q) h
      have hlr : True := trivial
      by_cases hq : Q = 0
      · have hlq : (digs Q).length = 0 := digs_len0.2 hq
        have hz : x / y = 0 := by omega
        repeat' (first | refine go ?_ | refine goX ?_ | refine goB ?_ | (refine goG ?_; intro g) | (refine goV ?_; intro v) | refine goD ?_ | refine goXD ?_ | (refine goDG ?_; intro g) | (refine goDV ?_; intro v) | refine d123 ?_ | fail)
        rw [← hra] at hb4 ⊢
        refine WC.fact (isZ (.agg #[.bool false, d3]) (x / y)) (hasZ_of (by rw [eq_comm]; simp only [decide_eq_true_eq, decide_eq_false_iff_not]; omega) (by rw [hqa]; exact hasZ_dn hmA)) ?_
        refine WC.ret ?_
        exact Fin.p [] [isZ (.agg #[.bool false, d3]) (x / y), isZ (.agg #[.bool false, d4]) (x % y)] (ResE.cc rfl rfl rfl meA meA T.r35 rfl T.r35 rfl) meA (List.nil_sublist _) haA ⟨false, d3, false, d4, rfl, (by rw [eq_comm]; simp only [decide_eq_true_eq, decide_eq_false_iff_not]; omega), hb4, rfl, rfl⟩
      · have hlq := hq1 hq
        have hsg := hsg (by omega)
        repeat' (first | refine go ?_ | refine goX ?_ | refine goB ?_ | (refine goG ?_; intro g) | (refine goV ?_; intro v) | refine goD ?_ | refine goXD ?_ | (refine goDG ?_; intro g) | (refine goDV ?_; intro v) | refine d123 ?_ | fail)
        rw [← hra] at hb4 ⊢
        refine WC.fact (isZ (.agg #[.bool false, d3]) (x / y)) (hasZ_of (by rw [eq_comm]; simp only [decide_eq_true_eq, decide_eq_false_iff_not]; omega) (by rw [hqa]; exact hasZ_dn hmA)) ?_
        refine WC.ret ?_
        exact Fin.p [] [isZ (.agg #[.bool false, d3]) (x / y), isZ (.agg #[.bool false, d4]) (x % y)] (ResE.cc rfl rfl rfl meA meA T.r35 rfl T.r35 rfl) meA (List.nil_sublist _) haA ⟨false, d3, false, d4, rfl, (by rw [eq_comm]; simp only [decide_eq_true_eq, decide_eq_false_iff_not]; omega), hb4, rfl, rfl⟩
end Dvv
end Go.Proofs.YthggloiigkbfeaaGreat
namespace Go.Proofs.YthggloiigkbfeaaGreat
open W Go.RowKit
theorem cmpI_pp {x y : Int} (hx : ¬ x < 0) (hy : ¬ y < 0) : cmpN x.natAbs y.natAbs = cmpI x y := by
  unfold cmpN cmpI; split <;> split <;> first | rfl | (split <;> first | rfl | omega) | omega
theorem cmpI_nn {x y : Int} (hx : x < 0) (hy : y < 0) : cmpN y.natAbs x.natAbs = cmpI x y := by
  unfold cmpN cmpI; split <;> split <;> first | rfl | (split <;> first | rfl | omega) | omega
namespace Adc
attribute [local irreducible] WC WL WD YO LO LoopEnd W.Fin Scalar SliceT FieldAt Row ArrT AllocT KnS Has W.One SrcE IntT
theorem d82 {G G' : Prop} (h : G') (s : Bx G' → G := by
  intro h
  first | (apply WC.draw (id := 2) [0, 1, 2, 3, 4, 5] (.held 0 (.held 1 (.held 2 (.held 3 (.held 4 (.held 5 (.loud 6 (.loud 7 (.loud 8 (.done)))))))))) mixed (by kernel_rfl)) | (apply WC.draw (id := 4) [0, 1, 2, 3, 4, 5] (.held 0 (.held 1 (.held 2 (.held 3 (.held 4 (.held 5 (.loud 6 (.loud 7 (.loud 8 (.done)))))))))) mixed (by kernel_rfl)) | (apply WC.draw (id := 5) [0, 1, 2, 3, 4, 5] (.held 0 (.held 1 (.held 2 (.held 3 (.held 4 (.held 5 (.loud 6 (.loud 7 (.loud 8 (.done)))))))))) mixed (by kernel_rfl)) | fail
  exact Bx.h h) : G := s ⟨h⟩
set_option maxHeartbeats 4000000 in
set_option maxRecDepth 8000 in
theorem icompare_c (v1 v2 : Value) (x y : Int) : FnB Tryz.prog 85 [v1, v2] [] [isZ v1 x, isZ v2 y] (IsV (.int .i64 (cmpI x y))) := by
  refine fn_of [(0, v1), (1, v2)] 34 Tryz.func85 rfl Tryz.ntmps85 (by kernel_rfl) rfl suA fun h0 => ?_
  refine WC.openZ (v := v1) (z := x) hmA fun n1 d1 hv hb1 => ?_
  subst hv
  refine WC.openZ (v := v2) (z := y) hmA fun n2 d2 hv hb2 => ?_
  subst hv
  refine WC.fact (sI d1 (digs x.natAbs)) (hasZ_d hmA) ?_
  refine WC.fact (sI d2 (digs y.natAbs)) (hasZ_d hmA) ?_
  cases n1 with
  | true =>
    have hx : x < 0 := of_decide_eq_true hb1.symm
    cases n2 with
    | true =>
      have hy : y < 0 := of_decide_eq_true hb2.symm
      repeat' (first | refine go ?_ | refine goX ?_ | refine goB ?_ | (refine goG ?_; intro g) | (refine goV ?_; intro v))
      first | refine WL.callV (compare_c d2 d1 y.natAbs x.natAbs) ?_ | refine WD.callV (compare_c d2 d1 y.natAbs x.natAbs) ?_
      rw [cmpI_nn hx hy]
      repeat' (first | refine go ?_ | refine goX ?_ | refine goB ?_ | (refine goG ?_; intro g) | (refine goV ?_; intro v))
      refine WC.ret ?_
      exact Fin.v (ResE.t1 rfl rfl) meA rfl
    | false =>
      have hy : ¬ y < 0 := of_decide_eq_false hb2.symm
      repeat' (first | refine go ?_ | refine goX ?_ | refine goB ?_ | (refine goG ?_; intro g) | (refine goV ?_; intro v))
      refine WC.ret ?_
      exact Fin.v (ResE.t1 rfl rfl) meA (by rw [cmpI_lt (by omega)])
  | false =>
    have hx : ¬ x < 0 := of_decide_eq_false hb1.symm
    cases n2 with
    | true =>
      have hy : y < 0 := of_decide_eq_true hb2.symm
      repeat' (first | refine go ?_ | refine goX ?_ | refine goB ?_ | (refine goG ?_; intro g) | (refine goV ?_; intro v))
      refine WC.ret ?_
      exact Fin.v (ResE.t1 rfl rfl) meA (by rw [cmpI_gt (by omega)])
    | false =>
      have hy : ¬ y < 0 := of_decide_eq_false hb2.symm
      repeat' (first | refine go ?_ | refine goX ?_ | refine goB ?_ | (refine goG ?_; intro g) | (refine goV ?_; intro v))
      first | refine WL.callV (compare_c d1 d2 x.natAbs y.natAbs) ?_ | refine WD.callV (compare_c d1 d2 x.natAbs y.natAbs) ?_
      rw [cmpI_pp hx hy]
      repeat' (first | refine go ?_ | refine goX ?_ | refine goB ?_ | (refine goG ?_; intro g) | (refine goV ?_; intro v))
      refine WC.ret ?_
      exact Fin.v (ResE.t1 rfl rfl) meA rfl
set_option maxHeartbeats 4000000 in
set_option maxRecDepth 8000 in
theorem add_c (v1 v2 : Value) (x y : Int) (h1 : (digs x.natAbs).length ≤ 1000000000) (h2 : (digs y.natAbs).length ≤ 1000000000) : FnB Tryz.prog 82 [v1, v2] [] [isZ v1 x, isZ v2 y] (IsZ (x + y)) := by
  refine fn_of [(0, v1), (1, v2)] 42 Tryz.func82 rfl Tryz.ntmps82 (by kernel_rfl) rfl suA fun h0 => ?_
  refine WC.openZ (v := v1) (z := x) hmA fun n1 d1 hv hb1 => ?_
  subst hv
  refine WC.openZ (v := v2) (z := y) hmA fun n2 d2 hv hb2 => ?_
  subst hv
  refine WC.fact (sI d1 (digs x.natAbs)) (hasZ_d hmA) ?_
  refine WC.fact (sI d2 (digs y.natAbs)) (hasZ_d hmA) ?_
  cases n1 with
  | true =>
    have hx : x < 0 := of_decide_eq_true hb1.symm
    cases n2 with
    | true =>
      have hy : y < 0 := of_decide_eq_true hb2.symm
      repeat' (first | refine go ?_ | refine goX ?_ | refine goB ?_ | (refine goG ?_; intro g) | (refine goV ?_; intro v) | refine goD ?_ | refine goXD ?_ | (refine goDG ?_; intro g) | (refine goDV ?_; intro v) | refine d82 ?_ | fail)
      first | refine WL.callK (plus_c d1 d2 (digs x.natAbs) (digs y.natAbs) (digs_Dg _) (digs_Dg _) h1 h2) ?_ | refine WD.callK (plus_c d1 d2 (digs x.natAbs) (digs y.natAbs) (digs_Dg _) (digs_Dg _) h1 h2) ?_ | refine LO.callM (plus_c d1 d2 (digs x.natAbs) (digs y.natAbs) (digs_Dg _) (digs_Dg _) h1 h2) ?_
      rintro u _ _ ⟨l, rfl, rfl, hd, hv, hl⟩
      simp only [List.nil_append, List.cons_append]
      rw [val_digs, val_digs] at hv
      repeat' (first | refine go ?_ | refine goX ?_ | refine goB ?_ | (refine goG ?_; intro g) | (refine goV ?_; intro v) | refine goD ?_ | refine goXD ?_ | (refine goDG ?_; intro g) | (refine goDV ?_; intro v) | refine d82 ?_ | fail)
      first | refine WL.callK (of_c u true l (x + y) hd (by rw [hv]; omega) (fun _ => by rw [eq_comm, decide_eq_true_eq]; omega)) ?_ | refine WD.callK (of_c u true l (x + y) hd (by rw [hv]; omega) (fun _ => by rw [eq_comm, decide_eq_true_eq]; omega)) ?_ | refine LO.callM (of_c u true l (x + y) hd (by rw [hv]; omega) (fun _ => by rw [eq_comm, decide_eq_true_eq]; omega)) ?_
      rintro _ _ _ ⟨nb, d, rfl, hb, rfl, rfl⟩
      simp only [List.nil_append, List.cons_append]
      repeat' (first | refine go ?_ | refine goX ?_ | refine goB ?_ | (refine goG ?_; intro g) | (refine goV ?_; intro v) | refine goD ?_ | refine goXD ?_ | (refine goDG ?_; intro g) | (refine goDV ?_; intro v) | refine d82 ?_ | fail)
      refine WC.ret ?_
      exact Fin.p [] [isZ (.agg #[.bool nb, d]) (x + y)] (ResE.cV rfl rfl meA T.r35 rfl) meA (List.nil_sublist _) haA ⟨nb, _, rfl, hb, rfl, rfl⟩
    | false =>
      have hy : ¬ y < 0 := of_decide_eq_false hb2.symm
      repeat' (first | refine go ?_ | refine goX ?_ | refine goB ?_ | (refine goG ?_; intro g) | (refine goV ?_; intro v) | refine goD ?_ | refine goXD ?_ | (refine goDG ?_; intro g) | (refine goDV ?_; intro v) | refine d82 ?_ | fail)
      first | refine WL.callV (compare_c d1 d2 x.natAbs y.natAbs) ?_ | refine WD.callV (compare_c d1 d2 x.natAbs y.natAbs) ?_
      by_cases c : x.natAbs < y.natAbs
      · rw [cmpN_lt c]
        have hlen : (digs x.natAbs).length ≤ (digs y.natAbs).length := Nat.le_of_not_lt fun h => by have := digs_lt_len h; omega
        repeat' (first | refine go ?_ | refine goX ?_ | refine goB ?_ | (refine goG ?_; intro g) | (refine goV ?_; intro v) | refine goD ?_ | refine goXD ?_ | (refine goDG ?_; intro g) | (refine goDV ?_; intro v) | refine d82 ?_ | fail)
        first | refine WL.callK (Mns.minus_c d2 d1 (digs y.natAbs) (digs x.natAbs) (digs_Dg _) (digs_Dg _) h2 hlen (len_pos (by omega)) (by rw [val_digs, val_digs]; omega)) ?_ | refine WD.callK (Mns.minus_c d2 d1 (digs y.natAbs) (digs x.natAbs) (digs_Dg _) (digs_Dg _) h2 hlen (len_pos (by omega)) (by rw [val_digs, val_digs]; omega)) ?_ | refine LO.callM (Mns.minus_c d2 d1 (digs y.natAbs) (digs x.natAbs) (digs_Dg _) (digs_Dg _) h2 hlen (len_pos (by omega)) (by rw [val_digs, val_digs]; omega)) ?_
        rintro u _ _ ⟨l, rfl, rfl, hd, hv, hl⟩
        simp only [List.nil_append, List.cons_append]
        rw [val_digs, val_digs] at hv
        repeat' (first | refine go ?_ | refine goX ?_ | refine goB ?_ | (refine goG ?_; intro g) | (refine goV ?_; intro v) | refine goD ?_ | refine goXD ?_ | (refine goDG ?_; intro g) | (refine goDV ?_; intro v) | refine d82 ?_ | fail)
        first | refine WL.callK (of_c u false l (x + y) hd (by rw [hv]; omega) (fun _ => by rw [eq_comm, decide_eq_false_iff_not]; omega)) ?_ | refine WD.callK (of_c u false l (x + y) hd (by rw [hv]; omega) (fun _ => by rw [eq_comm, decide_eq_false_iff_not]; omega)) ?_ | refine LO.callM (of_c u false l (x + y) hd (by rw [hv]; omega) (fun _ => by rw [eq_comm, decide_eq_false_iff_not]; omega)) ?_
        rintro _ _ _ ⟨nb, d, rfl, hb, rfl, rfl⟩
        simp only [List.nil_append, List.cons_append]
        repeat' (first | refine go ?_ | refine goX ?_ | refine goB ?_ | (refine goG ?_; intro g) | (refine goV ?_; intro v) | refine goD ?_ | refine goXD ?_ | (refine goDG ?_; intro g) | (refine goDV ?_; intro v) | refine d82 ?_ | fail)
        refine WC.ret ?_
        exact Fin.p [] [isZ (.agg #[.bool nb, d]) (x + y)] (ResE.cV rfl rfl meA T.r35 rfl) meA (List.nil_sublist _) haA ⟨nb, _, rfl, hb, rfl, rfl⟩
      · have hc0 : cmpN x.natAbs y.natAbs = 0 ∨ cmpN x.natAbs y.natAbs = 1 := by
          by_cases c2 : y.natAbs < x.natAbs
          · exact .inr (cmpN_gt c2)
          · rw [show x.natAbs = y.natAbs by omega]; exact .inl (cmpN_eq _)
        have hlen : (digs y.natAbs).length ≤ (digs x.natAbs).length := Nat.le_of_not_lt fun h => by have := digs_lt_len h; omega
        repeat' (first | refine go ?_ | refine goX ?_ | refine goB ?_ | (refine goG ?_; intro g) | (refine goV ?_; intro v) | refine goD ?_ | refine goXD ?_ | (refine goDG ?_; intro g) | (refine goDV ?_; intro v) | refine d82 ?_ | fail)
        first | refine WL.callK (Mns.minus_c d1 d2 (digs x.natAbs) (digs y.natAbs) (digs_Dg _) (digs_Dg _) h1 hlen (len_pos (by omega)) (by rw [val_digs, val_digs]; omega)) ?_ | refine WD.callK (Mns.minus_c d1 d2 (digs x.natAbs) (digs y.natAbs) (digs_Dg _) (digs_Dg _) h1 hlen (len_pos (by omega)) (by rw [val_digs, val_digs]; omega)) ?_ | refine LO.callM (Mns.minus_c d1 d2 (digs x.natAbs) (digs y.natAbs) (digs_Dg _) (digs_Dg _) h1 hlen (len_pos (by omega)) (by rw [val_digs, val_digs]; omega)) ?_
        rintro u _ _ ⟨l, rfl, rfl, hd, hv, hl⟩
        simp only [List.nil_append, List.cons_append]
        rw [val_digs, val_digs] at hv
        repeat' (first | refine go ?_ | refine goX ?_ | refine goB ?_ | (refine goG ?_; intro g) | (refine goV ?_; intro v) | refine goD ?_ | refine goXD ?_ | (refine goDG ?_; intro g) | (refine goDV ?_; intro v) | refine d82 ?_ | fail)
        first | refine WL.callK (of_c u true l (x + y) hd (by rw [hv]; omega) (fun hne => by rw [hv] at hne; rw [eq_comm, decide_eq_true_eq]; omega)) ?_ | refine WD.callK (of_c u true l (x + y) hd (by rw [hv]; omega) (fun hne => by rw [hv] at hne; rw [eq_comm, decide_eq_true_eq]; omega)) ?_ | refine LO.callM (of_c u true l (x + y) hd (by rw [hv]; omega) (fun hne => by rw [hv] at hne; rw [eq_comm, decide_eq_true_eq]; omega)) ?_
        rintro _ _ _ ⟨nb, d, rfl, hb, rfl, rfl⟩
        simp only [List.nil_append, List.cons_append]
        repeat' (first | refine go ?_ | refine goX ?_ | refine goB ?_ | (refine goG ?_; intro g) | (refine goV ?_; intro v) | refine goD ?_ | refine goXD ?_ | (refine goDG ?_; intro g) | (refine goDV ?_; intro v) | refine d82 ?_ | fail)
        refine WC.ret ?_
        exact Fin.p [] [isZ (.agg #[.bool nb, d]) (x + y)] (ResE.cV rfl rfl meA T.r35 rfl) meA (List.nil_sublist _) haA ⟨nb, _, rfl, hb, rfl, rfl⟩
  | false =>
    have hx : ¬ x < 0 := of_decide_eq_false hb1.symm
    cases n2 with
    | true =>
      have hy : y < 0 := of_decide_eq_true hb2.symm
      repeat' (first | refine go ?_ | refine goX ?_ | refine goB ?_ | (refine goG ?_; intro g) | (refine goV ?_; intro v) | refine goD ?_ | refine goXD ?_ | (refine goDG ?_; intro g) | (refine goDV ?_; intro v) | refine d82 ?_ | fail)
      first | refine WL.callV (compare_c d1 d2 x.natAbs y.natAbs) ?_ | refine WD.callV (compare_c d1 d2 x.natAbs y.natAbs) ?_
      by_cases c : x.natAbs < y.natAbs
      · rw [cmpN_lt c]
        have hlen : (digs x.natAbs).length ≤ (digs y.natAbs).length := Nat.le_of_not_lt fun h => by have := digs_lt_len h; omega
        repeat' (first | refine go ?_ | refine goX ?_ | refine goB ?_ | (refine goG ?_; intro g) | (refine goV ?_; intro v) | refine goD ?_ | refine goXD ?_ | (refine goDG ?_; intro g) | (refine goDV ?_; intro v) | refine d82 ?_ | fail)
        first | refine WL.callK (Mns.minus_c d2 d1 (digs y.natAbs) (digs x.natAbs) (digs_Dg _) (digs_Dg _) h2 hlen (len_pos (by omega)) (by rw [val_digs, val_digs]; omega)) ?_ | refine WD.callK (Mns.minus_c d2 d1 (digs y.natAbs) (digs x.natAbs) (digs_Dg _) (digs_Dg _) h2 hlen (len_pos (by omega)) (by rw [val_digs, val_digs]; omega)) ?_ | refine LO.callM (Mns.minus_c d2 d1 (digs y.natAbs) (digs x.natAbs) (digs_Dg _) (digs_Dg _) h2 hlen (len_pos (by omega)) (by rw [val_digs, val_digs]; omega)) ?_
        rintro u _ _ ⟨l, rfl, rfl, hd, hv, hl⟩
        simp only [List.nil_append, List.cons_append]
        rw [val_digs, val_digs] at hv
        repeat' (first | refine go ?_ | refine goX ?_ | refine goB ?_ | (refine goG ?_; intro g) | (refine goV ?_; intro v) | refine goD ?_ | refine goXD ?_ | (refine goDG ?_; intro g) | (refine goDV ?_; intro v) | refine d82 ?_ | fail)
        first | refine WL.callK (of_c u true l (x + y) hd (by rw [hv]; omega) (fun _ => by rw [eq_comm, decide_eq_true_eq]; omega)) ?_ | refine WD.callK (of_c u true l (x + y) hd (by rw [hv]; omega) (fun _ => by rw [eq_comm, decide_eq_true_eq]; omega)) ?_ | refine LO.callM (of_c u true l (x + y) hd (by rw [hv]; omega) (fun _ => by rw [eq_comm, decide_eq_true_eq]; omega)) ?_
        rintro _ _ _ ⟨nb, d, rfl, hb, rfl, rfl⟩
        simp only [List.nil_append, List.cons_append]
        repeat' (first | refine go ?_ | refine goX ?_ | refine goB ?_ | (refine goG ?_; intro g) | (refine goV ?_; intro v) | refine goD ?_ | refine goXD ?_ | (refine goDG ?_; intro g) | (refine goDV ?_; intro v) | refine d82 ?_ | fail)
        refine WC.ret ?_
        exact Fin.p [] [isZ (.agg #[.bool nb, d]) (x + y)] (ResE.cV rfl rfl meA T.r35 rfl) meA (List.nil_sublist _) haA ⟨nb, _, rfl, hb, rfl, rfl⟩
      · have hc0 : cmpN x.natAbs y.natAbs = 0 ∨ cmpN x.natAbs y.natAbs = 1 := by
          by_cases c2 : y.natAbs < x.natAbs
          · exact .inr (cmpN_gt c2)
          · rw [show x.natAbs = y.natAbs by omega]; exact .inl (cmpN_eq _)
        have hlen : (digs y.natAbs).length ≤ (digs x.natAbs).length := Nat.le_of_not_lt fun h => by have := digs_lt_len h; omega
        repeat' (first | refine go ?_ | refine goX ?_ | refine goB ?_ | (refine goG ?_; intro g) | (refine goV ?_; intro v) | refine goD ?_ | refine goXD ?_ | (refine goDG ?_; intro g) | (refine goDV ?_; intro v) | refine d82 ?_ | fail)
        first | refine WL.callK (Mns.minus_c d1 d2 (digs x.natAbs) (digs y.natAbs) (digs_Dg _) (digs_Dg _) h1 hlen (len_pos (by omega)) (by rw [val_digs, val_digs]; omega)) ?_ | refine WD.callK (Mns.minus_c d1 d2 (digs x.natAbs) (digs y.natAbs) (digs_Dg _) (digs_Dg _) h1 hlen (len_pos (by omega)) (by rw [val_digs, val_digs]; omega)) ?_ | refine LO.callM (Mns.minus_c d1 d2 (digs x.natAbs) (digs y.natAbs) (digs_Dg _) (digs_Dg _) h1 hlen (len_pos (by omega)) (by rw [val_digs, val_digs]; omega)) ?_
        rintro u _ _ ⟨l, rfl, rfl, hd, hv, hl⟩
        simp only [List.nil_append, List.cons_append]
        rw [val_digs, val_digs] at hv
        repeat' (first | refine go ?_ | refine goX ?_ | refine goB ?_ | (refine goG ?_; intro g) | (refine goV ?_; intro v) | refine goD ?_ | refine goXD ?_ | (refine goDG ?_; intro g) | (refine goDV ?_; intro v) | refine d82 ?_ | fail)
        first | refine WL.callK (of_c u false l (x + y) hd (by rw [hv]; omega) (fun hne => by rw [hv] at hne; rw [eq_comm, decide_eq_false_iff_not]; omega)) ?_ | refine WD.callK (of_c u false l (x + y) hd (by rw [hv]; omega) (fun hne => by rw [hv] at hne; rw [eq_comm, decide_eq_false_iff_not]; omega)) ?_ | refine LO.callM (of_c u false l (x + y) hd (by rw [hv]; omega) (fun hne => by rw [hv] at hne; rw [eq_comm, decide_eq_false_iff_not]; omega)) ?_
        rintro _ _ _ ⟨nb, d, rfl, hb, rfl, rfl⟩
        simp only [List.nil_append, List.cons_append]
        repeat' (first | refine go ?_ | refine goX ?_ | refine goB ?_ | (refine goG ?_; intro g) | (refine goV ?_; intro v) | refine goD ?_ | refine goXD ?_ | (refine goDG ?_; intro g) | (refine goDV ?_; intro v) | refine d82 ?_ | fail)
        refine WC.ret ?_
        exact Fin.p [] [isZ (.agg #[.bool nb, d]) (x + y)] (ResE.cV rfl rfl meA T.r35 rfl) meA (List.nil_sublist _) haA ⟨nb, _, rfl, hb, rfl, rfl⟩
    | false =>
      have hy : ¬ y < 0 := of_decide_eq_false hb2.symm
      repeat' (first | refine go ?_ | refine goX ?_ | refine goB ?_ | (refine goG ?_; intro g) | (refine goV ?_; intro v) | refine goD ?_ | refine goXD ?_ | (refine goDG ?_; intro g) | (refine goDV ?_; intro v) | refine d82 ?_ | fail)
      first | refine WL.callK (plus_c d1 d2 (digs x.natAbs) (digs y.natAbs) (digs_Dg _) (digs_Dg _) h1 h2) ?_ | refine WD.callK (plus_c d1 d2 (digs x.natAbs) (digs y.natAbs) (digs_Dg _) (digs_Dg _) h1 h2) ?_ | refine LO.callM (plus_c d1 d2 (digs x.natAbs) (digs y.natAbs) (digs_Dg _) (digs_Dg _) h1 h2) ?_
      rintro u _ _ ⟨l, rfl, rfl, hd, hv, hl⟩
      simp only [List.nil_append, List.cons_append]
      rw [val_digs, val_digs] at hv
      repeat' (first | refine go ?_ | refine goX ?_ | refine goB ?_ | (refine goG ?_; intro g) | (refine goV ?_; intro v) | refine goD ?_ | refine goXD ?_ | (refine goDG ?_; intro g) | (refine goDV ?_; intro v) | refine d82 ?_ | fail)
      first | refine WL.callK (of_c u false l (x + y) hd (by rw [hv]; omega) (fun _ => by rw [eq_comm, decide_eq_false_iff_not]; omega)) ?_ | refine WD.callK (of_c u false l (x + y) hd (by rw [hv]; omega) (fun _ => by rw [eq_comm, decide_eq_false_iff_not]; omega)) ?_ | refine LO.callM (of_c u false l (x + y) hd (by rw [hv]; omega) (fun _ => by rw [eq_comm, decide_eq_false_iff_not]; omega)) ?_
      rintro _ _ _ ⟨nb, d, rfl, hb, rfl, rfl⟩
      simp only [List.nil_append, List.cons_append]
      repeat' (first | refine go ?_ | refine goX ?_ | refine goB ?_ | (refine goG ?_; intro g) | (refine goV ?_; intro v) | refine goD ?_ | refine goXD ?_ | (refine goDG ?_; intro g) | (refine goDV ?_; intro v) | refine d82 ?_ | fail)
      refine WC.ret ?_
      exact Fin.p [] [isZ (.agg #[.bool nb, d]) (x + y)] (ResE.cV rfl rfl meA T.r35 rfl) meA (List.nil_sublist _) haA ⟨nb, _, rfl, hb, rfl, rfl⟩
end Adc
end Go.Proofs.YthggloiigkbfeaaGreat
namespace Go.Proofs.YthggloiigkbfeaaGreat
open W Go.RowKit
theorem ints_snoc {l : List Int} {x : Int} : ints l ++ [Value.int .i64 x] = ints (l ++ [x]) := by simp [ints]
theorem YO.nrem {P : Program} {e : Env} {bx : List Ow} {F : List Fct} {ty t t' : TypeId} {x y : Operand} {m : Nat} {j : Int} (hx : ev e x = some (.int .i64 (-(m : Int)))) (hy : ev e y = some (.int .i64 j)) (h2 : 0 < j) : YO P (.binOp .rem t x y t') ty e bx F (.int .i64 (-((m : Int) % j))) := by
  have := YO.trem (P := P) (bx := bx) (F := F) (ty := ty) (t := t) (t' := t') hx hy (by omega)
  rwa [Int.neg_tmod, Int.tmod_eq_emod_of_nonneg (by omega)] at this
theorem YO.nquo {P : Program} {e : Env} {bx : List Ow} {F : List Fct} {ty t t' : TypeId} {x y : Operand} {m : Nat} {j : Int} (hx : ev e x = some (.int .i64 (-(m : Int)))) (hy : ev e y = some (.int .i64 j)) (h2 : 0 < j) (h3 : m ≤ 9223372036854775808) : YO P (.binOp .quo t x y t') ty e bx F (.int .i64 (-((m : Int) / j))) := by
  have := YO.tquo (P := P) (bx := bx) (F := F) (ty := ty) (t := t) (t' := t') hx hy (by omega)
  have h4 : (m : Int) / j ≤ m := Int.ediv_le_self _ (by omega)
  have h5 : 0 ≤ (m : Int) / j := Int.ediv_nonneg (by omega) (by omega)
  rwa [Int.neg_tdiv, Int.tdiv_eq_ediv_of_nonneg (by omega), wrap_i64 (by omega) (by omega)] at this
namespace Rm
open Dvz Dvv Adc
attribute [local irreducible] WC WL WD YO LO LoopEnd W.Fin Scalar SliceT FieldAt Row ArrT AllocT KnS Has W.One SrcE IntT
theorem d163 {G G' : Prop} (h : G') (s : Bx G' → G := by
  intro h
  first | (apply WC.draw (id := 8) [0, 1, 2, 3, 4, 5, 6, 7, 8] (.held 0 (.held 1 (.held 2 (.held 3 (.held 4 (.held 5 (.held 6 (.held 7 (.held 8 (.done)))))))))) mixed (by kernel_rfl)) | (apply WC.draw (id := 10) [0, 1, 2, 3, 4, 5, 6, 7, 8] (.held 0 (.held 1 (.held 2 (.held 3 (.held 4 (.held 5 (.held 6 (.held 7 (.held 8 (.done)))))))))) mixed (by kernel_rfl)) | fail
  exact Bx.h h) : G := s ⟨h⟩
theorem goB {G G' : Prop} (h : G') (s : Bx G' → G := by
  intro h
  first
    | (apply WL.k_rem; (apply YO.nrem; exact rfl; exact rfl; omega); exact rfl; exact rfl)
    | (apply WL.k_quo; (apply YO.nquo; exact rfl; exact rfl; omega; omega); exact rfl; exact rfl)
    | (apply WL.k_slice; (apply YO.slice; (first | exact T.s22 | exact T.s32 | exact T.s38 | exact T.s109 | exact T.s111 | exact T.s161); exact rfl; exact knA; exact Or.inl ⟨rfl, rfl⟩; exact Or.inr ⟨_, rfl, rfl⟩; omega; omega); exact rfl; exact rfl)
    | (apply WL.k_mul; (apply YO.mul; exact rfl; exact rfl; omega; omega); exact rfl; exact rfl)
  exact Bx.h h) : G := s ⟨h⟩
set_option maxHeartbeats 4000000 in
set_option maxRecDepth 8000 in
theorem normal_c (u : Value) (nb : Bool) (l : List Int) (z : Int) (hd : Dg l) (hz : z.natAbs = (val l).toNat) (hb : val l ≠ 0 → nb = decide (z < 0)) : FnB Tryz.prog 113 [.bool nb, u] [] [sI u l] (IsZ z) := by
  refine fn_of [(0, (.bool nb)), (1, u)] 29 Tryz.func113 rfl Tryz.ntmps113 (by kernel_rfl) rfl suA fun h0 => ?_
  refine WC.lenI u l hmA fun hlen => ?_
  have hv0 := val_nonneg hd
  repeat' (first | refine go ?_ | refine goX ?_ | refine goB ?_ | (refine goG ?_; intro g) | (refine goV ?_; intro v))
  refine WC.lp (σ := Nat) (fun n => [(5, .int .i64 (n : Int)), (0, .bool nb), (1, u), (4, ptr g)]) (fun _ => [Ow.cells g 35 [.bool false, .slice none 0 0]]) (fun _ => [ge h0, sI u l]) (fun n => n ≤ l.length ∧ ∀ j, n ≤ j → j < l.length → l.getD j 0 = 0) (fun n => n) l.length ⟨by simp, fun j h1 h2 => by omega⟩ ?_
  rintro n ⟨hn, hzr⟩
  by_cases h : 0 < n
  · have e0 : max ((n : Int) - 1) 0 = (n : Int) - 1 := by omega
    have e1 : (max ((n : Int) - 1) 0).toNat = n - 1 := by omega
    have hm1 : 0 ≤ max ((n : Int) - 1) 0 := by omega
    have hm2 : max ((n : Int) - 1) 0 < l.length := by omega
    by_cases h2 : l.getD (n - 1) 0 = 0
    · have h3 : l.getD (max ((n : Int) - 1) 0).toNat 0 = 0 := by rw [e1]; exact h2
      repeat' (first | refine go ?_ | refine goX ?_ | refine goB ?_ | (refine goG ?_; intro g) | (refine goV ?_; intro v))
      exact LoopEnd.mk (n - 1) ⟨by omega, fun j h4 h5 => if hj : j = n - 1 then hj ▸ h2 else hzr j (by omega) h5⟩ (by omega) (by rw [show ((n - 1 : Nat) : Int) = (n : Int) - 1 by omega]; exact suA)
    · have h3 : l.getD (max ((n : Int) - 1) 0).toNat 0 ≠ 0 := by rw [e1]; exact h2
      have hc := cut_digs hd hn hzr (fun _ => h2)
      have hvne : val l ≠ 0 := fun hv => by
        rw [hv] at hc
        have : (l.take n).length = n := by simp; omega
        rw [hc] at this
        simp [digs_0] at this; omega
      repeat' (first | refine go ?_ | refine goX ?_ | refine goB ?_ | (refine goG ?_; intro g) | (refine goV ?_; intro v))
      refine WL.fact' (sI (resl u 0 n 1) (l.take n)) (Has.takeI hmA hn) ?_
      rw [hc, ← hz]
      repeat' (first | refine go ?_ | refine goX ?_ | refine goB ?_ | (refine goG ?_; intro g) | (refine goV ?_; intro v))
      refine WC.fact (isZ (.agg #[.bool nb, resl u 0 n 1]) z) (hasZ_of (hb hvne) hmA) ?_
      refine WC.ret ?_
      exact Fin.p [] [isZ (.agg #[.bool nb, resl u 0 n 1]) z] (ResE.cV rfl rfl meA T.r35 rfl) meA (List.nil_sublist _) haA ⟨nb, _, rfl, hb hvne, rfl, rfl⟩
  · obtain rfl : n = 0 := by omega
    have hv : val l = 0 := by
      have := val_take_zero hn hzr
      simpa [val] using this.symm
    have hz0 : z = 0 := by rw [hv] at hz; simp at hz; exact hz
    subst hz0
    repeat' (first | refine go ?_ | refine goX ?_ | refine goB ?_ | (refine goG ?_; intro g) | (refine goV ?_; intro v))
    refine WC.ret ?_
    exact Fin.p [] [isZ (.agg #[.bool false, .slice none 0 0]) 0] (ResE.cV rfl rfl meA T.r35 rfl) meA (List.nil_sublist _) (.cons hasZ_0 .nil) ⟨false, _, rfl, rfl, rfl, rfl⟩
theorem of_step {d : List Int} {m n : Nat} (hd : Dg d) (hv : val d + BB ^ d.length * (m : Int) = n) : Dg (d ++ [((m : Int) % 1000000000)]) ∧ val (d ++ [((m : Int) % 1000000000)]) + BB ^ (d ++ [((m : Int) % 1000000000)]).length * ((m / 1000000000 : Nat) : Int) = n := by
  refine ⟨hd.snoc ⟨by omega, by show _ < (1000000000 : Int); omega⟩, ?_⟩
  rw [val_snoc, List.length_append, List.length_singleton, pow_s, ← hv]
  have h : (m : Int) = (m : Int) % 1000000000 + 1000000000 * ((m / 1000000000 : Nat) : Int) := by omega
  conv => rhs; rw [h, Int.mul_add]
  rw [Int.mul_assoc]
  show _ + _ + _ * (1000000000 * _) = _
  omega
set_option maxHeartbeats 4000000 in
set_option maxRecDepth 8000 in
theorem rof_c (n : Int) (h1 : -9223372036854775808 ≤ n) (h2 : n ≤ 9223372036854775807) : FnB Tryz.prog 59 [.int .i64 n] [] [] (IsZ n) := by
  refine fn_of [(0, (.int .i64 n))] 25 Tryz.func59 rfl Tryz.ntmps59 (by kernel_rfl) rfl suA fun h0 => ?_
  by_cases c : n < 0
  · have hdn := decide_eq_true c
    repeat' (first | refine go ?_ | refine goX ?_ | refine goB ?_ | (refine goG ?_; intro g) | (refine goV ?_; intro v))
    refine WC.addNil 3 1 ?_
    refine WC.lp (σ := Nat × List Int × Value) (fun s => [(0, .int .i64 (-(s.1 : Int))), (3, s.2.2), (4, .bool true), (2, ptr g)]) (fun s => [Ow.slice s.2.2 3 1 (ints s.2.1), Ow.cells g 35 [.bool false, .slice none 0 0]]) (fun _ => [ge h0])
      (fun s => s.1 ≤ n.natAbs ∧ Dg s.2.1 ∧ val s.2.1 + BB ^ s.2.1.length * (s.1 : Int) = (n.natAbs : Nat) ∧ s.2.1.length + (digs s.1).length ≤ 3) (fun s => s.1) (n.natAbs, [], .slice none 0 0) ⟨Nat.le_refl _, .nil, by simp [val], by simpa using digs_len_le (k := 3) (n := n.natAbs) (by omega)⟩ ?_ (by rw [show -(((n.natAbs, ([] : List Int), Value.slice none 0 0).1 : Nat) : Int) = n by show -((n.natAbs : Nat) : Int) = n; omega]; exact suA)
    rintro ⟨m, d, w⟩ ⟨hm, hd, hv, hl⟩
    simp only at hm hd hv hl ⊢
    by_cases hm0 : m = 0
    · subst hm0
      have hval : val d = (n.natAbs : Nat) := by simpa using hv
      repeat' (first | refine go ?_ | refine goX ?_ | refine goB ?_ | (refine goG ?_; intro g) | (refine goV ?_; intro v))
      refine WL.freezeI (l := d) (v := w) (el := 3) (by repeat (first | exact Sel.head | apply Sel.tail)) ?_
      first | refine WL.callK (normal_c w true d n hd (by rw [hval]; simp) (fun _ => by rw [eq_comm]; simp only [decide_eq_true_eq, decide_eq_false_iff_not]; exact c)) ?_ | refine WD.callK (normal_c w true d n hd (by rw [hval]; simp) (fun _ => by rw [eq_comm]; simp only [decide_eq_true_eq, decide_eq_false_iff_not]; exact c)) ?_ | refine LO.callM (normal_c w true d n hd (by rw [hval]; simp) (fun _ => by rw [eq_comm]; simp only [decide_eq_true_eq, decide_eq_false_iff_not]; exact c)) ?_
      rintro _ _ _ ⟨nb, e, rfl, hb, rfl, rfl⟩
      simp only [List.nil_append, List.cons_append]
      repeat' (first | refine go ?_ | refine goX ?_ | refine goB ?_ | (refine goG ?_; intro g) | (refine goV ?_; intro v))
      refine WC.ret ?_
      exact Fin.p [] [isZ (.agg #[.bool nb, e]) n] (ResE.cV rfl rfl meA T.r35 rfl) meA (List.nil_sublist _) haA ⟨nb, _, rfl, hb, rfl, rfl⟩
    · have hst := of_step (m := m) hd hv
      have hdl : (digs m).length = (digs (m / 1000000000)).length + 1 := by rw [digs_pos hm0]; rfl
      have hdiv : m / 1000000000 < m := Nat.div_lt_self (by omega) (by decide)
      have eq1 : ((m / 1000000000 : Nat) : Int) = (m : Int) / 1000000000 := by simp
      by_cases hr : (m : Int) % 1000000000 = 0
      · rw [hr] at hst
        have hr2 : -((m : Int) % 1000000000) = 0 := by omega
        repeat' (first | refine go ?_ | refine goX ?_ | refine goB ?_ | (refine goG ?_; intro g) | (refine goV ?_; intro v))
        rw [hr2, ints_snoc]
        exact LoopEnd.mk (m / 1000000000, _, _) ⟨by show m / 1000000000 ≤ _; omega, hst.1, hst.2, by simp only [List.length_append, List.length_singleton]; omega⟩ (by show m / 1000000000 < m; exact hdiv) (by simp only [eq1]; exact suA)
      · have hr2 : - -((m : Int) % 1000000000) = (m : Int) % 1000000000 := by omega
        repeat' (first | refine go ?_ | refine goX ?_ | refine goB ?_ | (refine goG ?_; intro g) | (refine goV ?_; intro v))
        rw [hr2, ints_snoc]
        exact LoopEnd.mk (m / 1000000000, _, _) ⟨by show m / 1000000000 ≤ _; omega, hst.1, hst.2, by simp only [List.length_append, List.length_singleton]; omega⟩ (by show m / 1000000000 < m; exact hdiv) (by simp only [eq1]; exact suA)
  · have hdn := decide_eq_false c
    repeat' (first | refine go ?_ | refine goX ?_ | refine goB ?_ | (refine goG ?_; intro g) | (refine goV ?_; intro v))
    refine WC.addNil 3 1 ?_
    refine WC.lp (σ := Nat × List Int × Value) (fun s => [(0, .int .i64 ((s.1 : Int))), (3, s.2.2), (4, .bool false), (2, ptr g)]) (fun s => [Ow.slice s.2.2 3 1 (ints s.2.1), Ow.cells g 35 [.bool false, .slice none 0 0]]) (fun _ => [ge h0])
      (fun s => s.1 ≤ n.natAbs ∧ Dg s.2.1 ∧ val s.2.1 + BB ^ s.2.1.length * (s.1 : Int) = (n.natAbs : Nat) ∧ s.2.1.length + (digs s.1).length ≤ 3) (fun s => s.1) (n.natAbs, [], .slice none 0 0) ⟨Nat.le_refl _, .nil, by simp [val], by simpa using digs_len_le (k := 3) (n := n.natAbs) (by omega)⟩ ?_ (by rw [show (((n.natAbs, ([] : List Int), Value.slice none 0 0).1 : Nat) : Int) = n by show ((n.natAbs : Nat) : Int) = n; omega]; exact suA)
    rintro ⟨m, d, w⟩ ⟨hm, hd, hv, hl⟩
    simp only at hm hd hv hl ⊢
    by_cases hm0 : m = 0
    · subst hm0
      have hval : val d = (n.natAbs : Nat) := by simpa using hv
      repeat' (first | refine go ?_ | refine goX ?_ | refine goB ?_ | (refine goG ?_; intro g) | (refine goV ?_; intro v))
      refine WL.freezeI (l := d) (v := w) (el := 3) (by repeat (first | exact Sel.head | apply Sel.tail)) ?_
      first | refine WL.callK (normal_c w false d n hd (by rw [hval]; simp) (fun _ => by rw [eq_comm]; simp only [decide_eq_true_eq, decide_eq_false_iff_not]; exact c)) ?_ | refine WD.callK (normal_c w false d n hd (by rw [hval]; simp) (fun _ => by rw [eq_comm]; simp only [decide_eq_true_eq, decide_eq_false_iff_not]; exact c)) ?_ | refine LO.callM (normal_c w false d n hd (by rw [hval]; simp) (fun _ => by rw [eq_comm]; simp only [decide_eq_true_eq, decide_eq_false_iff_not]; exact c)) ?_
      rintro _ _ _ ⟨nb, e, rfl, hb, rfl, rfl⟩
      simp only [List.nil_append, List.cons_append]
      repeat' (first | refine go ?_ | refine goX ?_ | refine goB ?_ | (refine goG ?_; intro g) | (refine goV ?_; intro v))
      refine WC.ret ?_
      exact Fin.p [] [isZ (.agg #[.bool nb, e]) n] (ResE.cV rfl rfl meA T.r35 rfl) meA (List.nil_sublist _) haA ⟨nb, _, rfl, hb, rfl, rfl⟩
    · have hst := of_step (m := m) hd hv
      have hdl : (digs m).length = (digs (m / 1000000000)).length + 1 := by rw [digs_pos hm0]; rfl
      have hdiv : m / 1000000000 < m := Nat.div_lt_self (by omega) (by decide)
      have eq1 : ((m / 1000000000 : Nat) : Int) = (m : Int) / 1000000000 := by simp
      repeat' (first | refine go ?_ | refine goX ?_ | refine goB ?_ | (refine goG ?_; intro g) | (refine goV ?_; intro v))
      rw [ints_snoc]
      exact LoopEnd.mk (m / 1000000000, _, _) ⟨by show m / 1000000000 ≤ _; omega, hst.1, hst.2, by simp only [List.length_append, List.length_singleton]; omega⟩ (by show m / 1000000000 < m; exact hdiv) (by simp only [eq1]; exact suA)
set_option maxHeartbeats 4000000 in
set_option maxRecDepth 8000 in
theorem digit_c (u : Value) (l : List Int) (k : Nat) : FnB Tryz.prog 162 [u, .int .i64 (k : Int)] [] [sI u l] (IsV (.int .i64 (l.getD k 0))) := by
  refine fn_of [(0, u), (1, (.int .i64 (k : Int)))] 13 Tryz.func162 rfl Tryz.ntmps162 (by kernel_rfl) rfl suA fun h0 => ?_
  by_cases c : k < l.length
  · repeat' (first | refine go ?_ | refine goX ?_ | refine goB ?_ | (refine goG ?_; intro g) | (refine goV ?_; intro v))
    refine WC.ret ?_
    exact Fin.v (ResE.t1 rfl rfl) meA rfl
  · repeat' (first | refine go ?_ | refine goX ?_ | refine goB ?_ | (refine goG ?_; intro g) | (refine goV ?_; intro v))
    refine WC.ret ?_
    exact Fin.v (ResE.t1 rfl rfl) meA (by rw [getD_over (by omega)])
set_option maxHeartbeats 4000000 in
set_option maxRecDepth 8000 in
theorem rcompared_c (u w : Value) (m n : Nat) : FnB Tryz.prog 163 [u, w] [] [sI u (digs m), sI w (digs n)] (IsV (.int .i64 (cmpN m n))) := by
  refine fn_of [(0, u), (1, w)] 41 Tryz.func163 rfl Tryz.ntmps163 (by kernel_rfl) rfl suA fun h0 => ?_
  obtain ⟨a, ha⟩ : ∃ a, digs m = a := ⟨_, rfl⟩
  obtain ⟨b, hb⟩ : ∃ b, digs n = b := ⟨_, rfl⟩
  have hcl := fun hl => @digs_lt_len m n hl
  have hcg := fun hl => @digs_lt_len n m hl
  have hlt := fun k hl => @digs_cmp_lt m n k hl
  have hgt := fun k hl => @digs_cmp_lt n m k hl
  have heq := fun hl => @digs_cmp_eq m n hl
  rw [ha] at hcl hcg hlt hgt heq ⊢
  rw [hb] at hcl hcg hlt hgt heq ⊢
  refine WC.lenI u a hmA fun hlen => ?_
  refine WC.lenI w b hmA fun hlen2 => ?_
  by_cases c0 : a.length = b.length
  · repeat' (first | refine go ?_ | refine goX ?_ | refine goB ?_ | (refine goG ?_; intro g) | (refine goV ?_; intro v) | refine goD ?_ | refine goXD ?_ | (refine goDG ?_; intro g) | (refine goDV ?_; intro v) | refine d163 ?_ | fail)
    refine WC.lp (σ := Nat) (fun k => [(5, .int .i64 ((k : Int) - 1)), (0, u), (1, w)]) (fun _ => []) (fun _ => [ge h0, sI u a, sI w b]) (fun k => k ≤ a.length ∧ ∀ j, k ≤ j → j < a.length → a.getD j 0 = b.getD j 0) (fun k => k) a.length ⟨Nat.le_refl _, fun j _ _ => by omega⟩ ?_
    rintro k ⟨hk, hs⟩
    by_cases h : 0 < k
    · have e1 : ((k : Int) - 1).toNat = k - 1 := by omega
      rcases Int.lt_trichotomy (a.getD (k - 1) 0) (b.getD (k - 1) 0) with c1 | c1 | c1
      · have c1' : a.getD ((k : Int) - 1).toNat 0 < b.getD ((k : Int) - 1).toNat 0 := by rw [e1]; exact c1
        have hv := cmpN_lt (hlt (k - 1) c0 (by omega) (fun j h4 h5 => hs j (by omega) h5) c1)
        repeat' (first | refine go ?_ | refine goX ?_ | refine goB ?_ | (refine goG ?_; intro g) | (refine goV ?_; intro v) | refine goD ?_ | refine goXD ?_ | (refine goDG ?_; intro g) | (refine goDV ?_; intro v) | refine d163 ?_ | fail)
        refine WC.ret ?_
        exact Fin.v (ResE.t1 rfl rfl) meA (by rw [hv])
      · have c1' : a.getD ((k : Int) - 1).toNat 0 = b.getD ((k : Int) - 1).toNat 0 := by rw [e1]; exact c1
        repeat' (first | refine go ?_ | refine goX ?_ | refine goB ?_ | (refine goG ?_; intro g) | (refine goV ?_; intro v) | refine goD ?_ | refine goXD ?_ | (refine goDG ?_; intro g) | (refine goDV ?_; intro v) | refine d163 ?_ | fail)
        exact LoopEnd.mk (k - 1) ⟨by omega, fun j h4 h5 => if hj : j = k - 1 then hj ▸ c1 else hs j (by omega) h5⟩ (by omega) (by rw [show ((k - 1 : Nat) : Int) - 1 = (k : Int) - 1 - 1 by omega]; exact suA)
      · have c1' : b.getD ((k : Int) - 1).toNat 0 < a.getD ((k : Int) - 1).toNat 0 := by rw [e1]; exact c1
        have hv := cmpN_gt (hgt (k - 1) c0.symm (by omega) (fun j h4 h5 => (hs j (by omega) (by omega)).symm) c1)
        repeat' (first | refine go ?_ | refine goX ?_ | refine goB ?_ | (refine goG ?_; intro g) | (refine goV ?_; intro v) | refine goD ?_ | refine goXD ?_ | (refine goDG ?_; intro g) | (refine goDV ?_; intro v) | refine d163 ?_ | fail)
        refine WC.ret ?_
        exact Fin.v (ResE.t1 rfl rfl) meA (by rw [hv])
    · obtain rfl : k = 0 := by omega
      have hmn := heq c0 fun j hj => hs j (by omega) hj
      repeat' (first | refine go ?_ | refine goX ?_ | refine goB ?_ | (refine goG ?_; intro g) | (refine goV ?_; intro v) | refine goD ?_ | refine goXD ?_ | (refine goDG ?_; intro g) | (refine goDV ?_; intro v) | refine d163 ?_ | fail)
      refine WC.ret ?_
      exact Fin.v (ResE.t1 rfl rfl) meA (by rw [hmn, cmpN_eq])
  · by_cases c2 : a.length < b.length
    · repeat' (first | refine go ?_ | refine goX ?_ | refine goB ?_ | (refine goG ?_; intro g) | (refine goV ?_; intro v) | refine goD ?_ | refine goXD ?_ | (refine goDG ?_; intro g) | (refine goDV ?_; intro v) | refine d163 ?_ | fail)
      refine WC.ret ?_
      exact Fin.v (ResE.t1 rfl rfl) meA (by rw [cmpN_lt (hcl c2)])
    · have c3 : b.length < a.length := by omega
      repeat' (first | refine go ?_ | refine goX ?_ | refine goB ?_ | (refine goG ?_; intro g) | (refine goV ?_; intro v) | refine goD ?_ | refine goXD ?_ | (refine goDG ?_; intro g) | (refine goDV ?_; intro v) | refine d163 ?_ | fail)
      refine WC.ret ?_
      exact Fin.v (ResE.t1 rfl rfl) meA (by rw [cmpN_gt (hcg c3)])
end Rm
end Go.Proofs.YthggloiigkbfeaaGreat
namespace Go.Proofs.YthggloiigkbfeaaGreat
open W Go.RowKit
theorem rplus_step {a b o : List Int} {k : Nat} {c v : Int} (hk : o.length = k) (hd : Dg o) (hv : val o + BB ^ k * c = val (a.take k) + val (b.take k)) (hx : v = a.getD k 0 + b.getD k 0 + c) (h0 : 0 ≤ v) :
    Dg (o ++ [v % 1000000000]) ∧ val (o ++ [v % 1000000000]) + BB ^ (k + 1) * (v / 1000000000) = val (a.take (k + 1)) + val (b.take (k + 1)) := by
  refine ⟨hd.snoc ⟨by omega, by show _ < (1000000000 : Int); omega⟩, ?_⟩
  rw [val_snoc, hk, val_take_s, val_take_s, pow_s, Int.mul_assoc]
  have e : BB ^ k * v = BB ^ k * (v % 1000000000) + BB ^ k * (BB * (v / 1000000000)) := by
    rw [← Int.mul_add]; congr 1; show v = v % 1000000000 + 1000000000 * (v / 1000000000); omega
  rw [hx, Int.mul_add, Int.mul_add] at e
  rw [← hx] at e
  omega
theorem rminus_step {a b o : List Int} {k : Nat} {c v c' : Int} (hk : o.length = k) (hd : Dg o) (hv : val o = val (a.take k) - val (b.take k) + BB ^ k * c) (hx : Dgt v) (he : v = a.getD k 0 - b.getD k 0 - c + BB * c') :
    Dg (o ++ [v]) ∧ val (o ++ [v]) = val (a.take (k + 1)) - val (b.take (k + 1)) + BB ^ (k + 1) * c' := by
  refine ⟨hd.snoc hx, ?_⟩
  rw [val_snoc, hk, hv, val_take_s, val_take_s, pow_s, he]
  simp only [Int.mul_add, Int.mul_sub, Int.mul_assoc]
  omega
namespace Rn
open Dvz Dvv Adc Rm
attribute [local irreducible] WC WL WD YO LO LoopEnd W.Fin Scalar SliceT FieldAt Row ArrT AllocT KnS Has W.One SrcE IntT
theorem d147 {G G' : Prop} (h : G') (s : Bx G' → G := by
  intro h
  first | (apply WC.draw (id := 2) [0, 1, 2, 3, 4, 5] (.held 0 (.held 1 (.held 2 (.held 3 (.held 4 (.held 5 (.loud 6 (.loud 7 (.loud 8 (.done)))))))))) mixed (by kernel_rfl)) | (apply WC.draw (id := 4) [0, 1, 2, 3, 4, 5] (.held 0 (.held 1 (.held 2 (.held 3 (.held 4 (.held 5 (.loud 6 (.loud 7 (.loud 8 (.done)))))))))) mixed (by kernel_rfl)) | (apply WC.draw (id := 5) [0, 1, 2, 3, 4, 5] (.held 0 (.held 1 (.held 2 (.held 3 (.held 4 (.held 5 (.loud 6 (.loud 7 (.loud 8 (.done)))))))))) mixed (by kernel_rfl)) | fail
  exact Bx.h h) : G := s ⟨h⟩
theorem d148 {G G' : Prop} (h : G') (s : Bx G' → G := by
  intro h
  first | (apply WC.draw (id := 6) [0, 1, 2, 3, 4, 5, 7, 8, 9, 10] (.held 0 (.held 1 (.held 2 (.held 3 (.held 4 (.held 5 (.held 8 (.loud 6 (.held 7 (.held 9 (.held 10 (.done)))))))))))) mixed (by kernel_rfl)) | fail
  exact Bx.h h) : G := s ⟨h⟩
theorem YO.bneq2 {e : Env} {bx : List Ow} {F : List Fct} {ty t' : TypeId} {x y : Operand} {a b : Bool} (hx : ev e x = some (.bool a)) (hy : ev e y = some (.bool b)) : YO Tryz.prog (.binOp .neq 4 x y t') ty e bx F (.bool (!(a == b))) := YO.bne bool_t hx hy
theorem goB {G G' : Prop} (h : G') (s : Bx G' → G := by
  intro h
  first
    | (apply WL.k_mul; (apply YO.mul; exact rfl; exact rfl; omega; omega); exact rfl; exact rfl)
    | (apply WD.k_mul; exact rfl; (apply YO.mul; exact rfl; exact rfl; omega; omega); exact rfl; exact rfl)
    | (apply WD.k_neq; exact rfl; (apply YO.bneq2; exact rfl; exact rfl); exact rfl; exact rfl)
    | (apply WL.k_neq; (apply YO.bneq2; exact rfl; exact rfl); exact rfl; exact rfl)
  exact Bx.h h) : G := s ⟨h⟩
set_option maxHeartbeats 4000000 in
set_option maxRecDepth 8000 in
theorem rplus_c (u w : Value) (a b : List Int) (ha : Dg a) (hb : Dg b) (hl : a.length ≤ 1000000000) (hl2 : b.length ≤ 1000000000) : FnB Tryz.prog 165 [u, w] [] [sI u a, sI w b] (IsDg (val a + val b) (max a.length b.length + 1)) := by
  refine fn_of [(0, u), (1, w)] 42 Tryz.func165 rfl Tryz.ntmps165 (by kernel_rfl) rfl suA fun h0 => ?_
  obtain ⟨M, hM⟩ : ∃ M, max a.length b.length = M := ⟨_, rfl⟩
  rw [hM]
  repeat' (first | refine go ?_ | refine goX ?_ | refine goB ?_ | (refine goG ?_; intro g) | (refine goV ?_; intro v))
  refine WC.addNil 3 1 ?_
  refine WC.lp (σ := Nat × List Int × Int × Value) (fun s => [(7, .int .i64 (s.1 : Int)), (6, .int .i64 s.2.2.1), (5, s.2.2.2), (0, u), (1, w)]) (fun s => [Ow.slice s.2.2.2 3 1 (ints s.2.1)]) (fun _ => [ge h0, sI u a, sI w b])
    (fun s => s.1 ≤ M + 1 ∧ s.2.1.length = s.1 ∧ (s.2.2.1 = 0 ∨ s.2.2.1 = 1) ∧ Dg s.2.1 ∧ val s.2.1 + BB ^ s.1 * s.2.2.1 = val (a.take s.1) + val (b.take s.1) ∧ (s.1 = M + 1 → s.2.2.1 = 0)) (fun s => 2 * (M - s.1) + s.2.2.1.toNat) (0, [], 0, .slice none 0 0) ⟨by simp, rfl, .inl rfl, .nil, by simp [val], fun h => rfl⟩ ?_
  rintro ⟨k, o, c, v⟩ ⟨hk, ho, hc01, hd, hv, hend⟩
  simp only at hk ho hc01 hd hv hend ⊢
  have h1 : 0 ≤ a.getD k 0 ∧ a.getD k 0 < 1000000000 := ha.any k
  have h2 : 0 ≤ b.getD k 0 ∧ b.getD k 0 < 1000000000 := hb.any k
  have hol : o.length ≤ 1000000001 := by omega
  by_cases hgo : k < a.length ∨ k < b.length ∨ 0 < c
  · have hst := rplus_step (a := a) (b := b) (o := o) (k := k) (c := c) (v := a.getD k 0 + b.getD k 0 + c) ho hd hv rfl (by omega)
    have hq : (a.getD k 0 + b.getD k 0 + c) / 1000000000 = 0 ∨ (a.getD k 0 + b.getD k 0 + c) / 1000000000 = 1 := by omega
    have hz1 : a.length ≤ k → a.getD k 0 = 0 := fun h => getD_over h
    have hz2 : b.length ≤ k → b.getD k 0 = 0 := fun h => getD_over h
    have hover : M ≤ k → (a.getD k 0 + b.getD k 0 + c) / 1000000000 = 0 := fun h => by
      have := hz1 (by omega)
      have := hz2 (by omega)
      omega
    have hkM : k ≤ M := by
      by_cases h : k = M + 1
      · have := hend h; omega
      · omega
    have hsp : k < a.length ∨ (¬ k < a.length ∧ k < b.length) ∨ (¬ k < a.length ∧ ¬ k < b.length ∧ 0 < c) := by omega
    rcases hsp with c1 | ⟨c1, c2⟩ | ⟨c1, c2, c3⟩
    all_goals
      repeat' (first | refine go ?_ | refine goX ?_ | refine goB ?_ | (refine goG ?_; intro g) | (refine goV ?_; intro v))
      first | refine WL.callV (digit_c u a k) ?_ | refine WD.callV (digit_c u a k) ?_
      repeat' (first | refine go ?_ | refine goX ?_ | refine goB ?_ | (refine goG ?_; intro g) | (refine goV ?_; intro v))
      first | refine WL.callV (digit_c w b k) ?_ | refine WD.callV (digit_c w b k) ?_
      repeat' (first | refine go ?_ | refine goX ?_ | refine goB ?_ | (refine goG ?_; intro g) | (refine goV ?_; intro v))
      rw [ints_snoc]
      exact LoopEnd.mk (k + 1, _, _, _) ⟨by show k + 1 ≤ M + 1; omega, by simp [ho], hq, hst.1, hst.2, fun h => hover (by have h : k + 1 = M + 1 := h; omega)⟩ (by show 2 * (M - (k + 1)) + ((a.getD k 0 + b.getD k 0 + c) / 1000000000).toNat < 2 * (M - k) + c.toNat; omega)
  · have c1 : ¬ k < a.length := by omega
    have c2 : ¬ k < b.length := by omega
    have c3 : c = 0 := by omega
    subst c3
    have hval : val o = val a + val b := by rw [val_take_over (by omega), val_take_over (by omega)] at hv; simpa using hv
    repeat' (first | refine go ?_ | refine goX ?_ | refine goB ?_ | (refine goG ?_; intro g) | (refine goV ?_; intro v))
    refine WC.freezeI (l := o) (v := v) (el := 3) (by repeat (first | exact Sel.head | apply Sel.tail)) ?_
    refine WC.ret ?_
    exact Fin.p [] [sI v o] (ResE.t1 rfl rfl) meA (List.nil_sublist _) haA ⟨_, rfl, rfl, hd, hval, by omega⟩
set_option maxHeartbeats 4000000 in
set_option maxRecDepth 8000 in
theorem rminus_c (u w : Value) (a b : List Int) (ha : Dg a) (hb : Dg b) (hl : a.length ≤ 1000000000) (hl2 : b.length ≤ a.length) (hle : val b ≤ val a) :
    FnB Tryz.prog 148 [u, w] [] [sI u a, sI w b] (IsDg (val a - val b) a.length) := by
  refine fn_of [(0, u), (1, w)] 34 Tryz.func148 rfl Tryz.ntmps148 (by kernel_rfl) rfl suA fun h0 => ?_
  repeat' (first | refine go ?_ | refine goX ?_ | refine goB ?_ | (refine goG ?_; intro g) | (refine goV ?_; intro v) | refine goD ?_ | refine goXD ?_ | (refine goDG ?_; intro g) | (refine goDV ?_; intro v) | refine d148 ?_ | fail)
  refine WC.addNil 3 1 ?_
  refine WC.lp (σ := Nat × List Int × Int × Value) (fun s => [(7, .int .i64 (s.1 : Int)), (6, .int .i64 s.2.2.1), (5, s.2.2.2), (0, u), (1, w)]) (fun s => [Ow.slice s.2.2.2 3 1 (ints s.2.1)]) (fun _ => [ge h0, sI u a, sI w b])
    (fun s => s.1 ≤ a.length ∧ s.2.1.length = s.1 ∧ (s.2.2.1 = 0 ∨ s.2.2.1 = 1) ∧ Dg s.2.1 ∧ val s.2.1 = val (a.take s.1) - val (b.take s.1) + BB ^ s.1 * s.2.2.1) (fun s => a.length - s.1) (0, [], 0, .slice none 0 0) ⟨by simp, rfl, .inl rfl, .nil, by simp [val]⟩ ?_
  rintro ⟨k, o, c, v⟩ ⟨hk, ho, hc01, hd, hv⟩
  simp only at hk ho hc01 hd hv ⊢
  by_cases hlt : k < a.length
  · have h1 : 0 ≤ a.getD k 0 ∧ a.getD k 0 < 1000000000 := ha.any k
    have h2 : 0 ≤ b.getD k 0 ∧ b.getD k 0 < 1000000000 := hb.any k
    by_cases hneg : a.getD k 0 - b.getD k 0 - c < 0
    · have hst := rminus_step (a := a) (b := b) (o := o) (k := k) (c := c) (c' := 1) (v := a.getD k 0 - b.getD k 0 - c + 1000000000) ho hd hv ⟨by omega, by show _ < (1000000000 : Int); omega⟩ rfl
      repeat' (first | refine go ?_ | refine goX ?_ | refine goB ?_ | (refine goG ?_; intro g) | (refine goV ?_; intro v) | refine goD ?_ | refine goXD ?_ | (refine goDG ?_; intro g) | (refine goDV ?_; intro v) | refine d148 ?_ | fail)
      first | refine WL.callV (digit_c w b k) ?_ | refine WD.callV (digit_c w b k) ?_
      repeat' (first | refine go ?_ | refine goX ?_ | refine goB ?_ | (refine goG ?_; intro g) | (refine goV ?_; intro v) | refine goD ?_ | refine goXD ?_ | (refine goDG ?_; intro g) | (refine goDV ?_; intro v) | refine d148 ?_ | fail)
      rw [ints_snoc]
      exact LoopEnd.mk (k + 1, _, 1, _) ⟨by show k + 1 ≤ a.length; omega, by simp [ho], .inr rfl, hst.1, hst.2⟩ (by show a.length - (k + 1) < a.length - k; omega)
    · have hst := rminus_step (a := a) (b := b) (o := o) (k := k) (c := c) (c' := 0) (v := a.getD k 0 - b.getD k 0 - c) ho hd hv ⟨by omega, by show _ < (1000000000 : Int); omega⟩ (by simp)
      repeat' (first | refine go ?_ | refine goX ?_ | refine goB ?_ | (refine goG ?_; intro g) | (refine goV ?_; intro v) | refine goD ?_ | refine goXD ?_ | (refine goDG ?_; intro g) | (refine goDV ?_; intro v) | refine d148 ?_ | fail)
      first | refine WL.callV (digit_c w b k) ?_ | refine WD.callV (digit_c w b k) ?_
      repeat' (first | refine go ?_ | refine goX ?_ | refine goB ?_ | (refine goG ?_; intro g) | (refine goV ?_; intro v) | refine goD ?_ | refine goXD ?_ | (refine goDG ?_; intro g) | (refine goDV ?_; intro v) | refine d148 ?_ | fail)
      rw [ints_snoc]
      exact LoopEnd.mk (k + 1, _, 0, _) ⟨by show k + 1 ≤ a.length; omega, by simp [ho], .inl rfl, hst.1, hst.2⟩ (by show a.length - (k + 1) < a.length - k; omega)
  · obtain rfl : k = a.length := by omega
    have hval : val o = val a - val b := by
      rw [List.take_length, List.take_of_length_le hl2] at hv
      have h3 := val_lt hd
      rw [ho] at h3
      have hp := BB_pos a.length
      rcases hc01 with rfl | rfl
      · simpa using hv
      · rw [Int.mul_one] at hv; omega
    repeat' (first | refine go ?_ | refine goX ?_ | refine goB ?_ | (refine goG ?_; intro g) | (refine goV ?_; intro v) | refine goD ?_ | refine goXD ?_ | (refine goDG ?_; intro g) | (refine goDV ?_; intro v) | refine d148 ?_ | fail)
    refine WC.freezeI (l := o) (v := v) (el := 3) (by repeat (first | exact Sel.head | apply Sel.tail)) ?_
    refine WC.ret ?_
    exact Fin.p [] [sI v o] (ResE.t1 rfl rfl) meA (List.nil_sublist _) haA ⟨_, rfl, rfl, hd, hval, by omega⟩
theorem tiny_val {n : Nat} (h : n < B2) : (digs n).getD 1 0 * 1000000000 + (digs n).getD 0 0 = n := by
  have h' : n < 1000000000000000000 := h
  rcases two_cases h with ⟨h1, e⟩ | ⟨_, e, h2⟩ | ⟨_, e, h2⟩
  · rw [e, h1]; rfl
  · rw [e]; show (0 : Int) * _ + _ = _; simp
  · rw [e]; show ((n / 1000000000 : Nat) : Int) * 1000000000 + ((n % 1000000000 : Nat) : Int) = n; omega
set_option maxHeartbeats 4000000 in
set_option maxRecDepth 8000 in
theorem tiny_c (u : Value) (n : Nat) (hn : n < B2) : FnB Tryz.prog 145 [u] [] [sI u (digs n)] (IsV (.int .i64 (n : Int))) := by
  refine fn_of [(0, u)] 9 Tryz.func145 rfl Tryz.ntmps145 (by kernel_rfl) rfl suA fun h0 => ?_
  have hv := tiny_val hn
  have h1 : 0 ≤ (digs n).getD 1 0 ∧ (digs n).getD 1 0 < 1000000000 := (digs_Dg n).any 1
  have h2 : 0 ≤ (digs n).getD 0 0 ∧ (digs n).getD 0 0 < 1000000000 := (digs_Dg n).any 0
  repeat' (first | refine go ?_ | refine goX ?_ | refine goB ?_ | (refine goG ?_; intro g) | (refine goV ?_; intro v))
  first | refine WL.callV (digit_c u (digs n) 1) ?_ | refine WD.callV (digit_c u (digs n) 1) ?_
  repeat' (first | refine go ?_ | refine goX ?_ | refine goB ?_ | (refine goG ?_; intro g) | (refine goV ?_; intro v))
  first | refine WL.callV (digit_c u (digs n) 0) ?_ | refine WD.callV (digit_c u (digs n) 0) ?_
  repeat' (first | refine go ?_ | refine goX ?_ | refine goB ?_ | (refine goG ?_; intro g) | (refine goV ?_; intro v))
  rw [hv]
  refine WC.ret ?_
  exact Fin.v (ResE.t1 rfl rfl) meA rfl
set_option maxHeartbeats 4000000 in
set_option maxRecDepth 8000 in
theorem rneg_c (v : Value) (z : Int) : FnB Tryz.prog 111 [v] [] [isZ v z] (IsZ (-z)) := by
  refine fn_of [(0, v)] 9 Tryz.func111 rfl Tryz.ntmps111 (by kernel_rfl) rfl suA fun h0 => ?_
  refine WC.openZ hmA fun n1 d1 hv hb1 => ?_
  subst hv
  refine WC.fact (sI d1 (digs z.natAbs)) (hasZ_d hmA) ?_
  cases n1 with
  | true =>
    have hz : z < 0 := of_decide_eq_true hb1.symm
    repeat' (first | refine go ?_ | refine goX ?_ | refine goB ?_ | (refine goG ?_; intro g) | (refine goV ?_; intro v))
    first | refine WL.callK (normal_c d1 false (digs z.natAbs) (-z) (digs_Dg _) (by rw [val_digs]; omega) (fun hne => by rw [val_digs] at hne; rw [eq_comm]; simp only [decide_eq_true_eq, decide_eq_false_iff_not]; omega)) ?_ | refine WD.callK (normal_c d1 false (digs z.natAbs) (-z) (digs_Dg _) (by rw [val_digs]; omega) (fun hne => by rw [val_digs] at hne; rw [eq_comm]; simp only [decide_eq_true_eq, decide_eq_false_iff_not]; omega)) ?_ | refine LO.callM (normal_c d1 false (digs z.natAbs) (-z) (digs_Dg _) (by rw [val_digs]; omega) (fun hne => by rw [val_digs] at hne; rw [eq_comm]; simp only [decide_eq_true_eq, decide_eq_false_iff_not]; omega)) ?_
    rintro _ _ _ ⟨nb, d, rfl, hb, rfl, rfl⟩
    simp only [List.nil_append, List.cons_append]
    repeat' (first | refine go ?_ | refine goX ?_ | refine goB ?_ | (refine goG ?_; intro g) | (refine goV ?_; intro v))
    refine WC.ret ?_
    exact Fin.p [] [isZ (.agg #[.bool nb, d]) (-z)] (ResE.cV rfl rfl meA T.r35 rfl) meA (List.nil_sublist _) haA ⟨nb, _, rfl, hb, rfl, rfl⟩
  | false =>
    have hz : ¬ z < 0 := of_decide_eq_false hb1.symm
    repeat' (first | refine go ?_ | refine goX ?_ | refine goB ?_ | (refine goG ?_; intro g) | (refine goV ?_; intro v))
    first | refine WL.callK (normal_c d1 true (digs z.natAbs) (-z) (digs_Dg _) (by rw [val_digs]; omega) (fun hne => by rw [val_digs] at hne; rw [eq_comm]; simp only [decide_eq_true_eq, decide_eq_false_iff_not]; omega)) ?_ | refine WD.callK (normal_c d1 true (digs z.natAbs) (-z) (digs_Dg _) (by rw [val_digs]; omega) (fun hne => by rw [val_digs] at hne; rw [eq_comm]; simp only [decide_eq_true_eq, decide_eq_false_iff_not]; omega)) ?_ | refine LO.callM (normal_c d1 true (digs z.natAbs) (-z) (digs_Dg _) (by rw [val_digs]; omega) (fun hne => by rw [val_digs] at hne; rw [eq_comm]; simp only [decide_eq_true_eq, decide_eq_false_iff_not]; omega)) ?_
    rintro _ _ _ ⟨nb, d, rfl, hb, rfl, rfl⟩
    simp only [List.nil_append, List.cons_append]
    repeat' (first | refine go ?_ | refine goX ?_ | refine goB ?_ | (refine goG ?_; intro g) | (refine goV ?_; intro v))
    refine WC.ret ?_
    exact Fin.p [] [isZ (.agg #[.bool nb, d]) (-z)] (ResE.cV rfl rfl meA T.r35 rfl) meA (List.nil_sublist _) haA ⟨nb, _, rfl, hb, rfl, rfl⟩
set_option maxHeartbeats 4000000 in
set_option maxRecDepth 8000 in
theorem radd_c (v1 v2 : Value) (x y : Int) (h1 : (digs x.natAbs).length ≤ 1000000000) (h2 : (digs y.natAbs).length ≤ 1000000000) : FnB Tryz.prog 147 [v1, v2] [] [isZ v1 x, isZ v2 y] (IsZ (x + y)) := by
  refine fn_of [(0, v1), (1, v2)] 40 Tryz.func147 rfl Tryz.ntmps147 (by kernel_rfl) rfl suA fun h0 => ?_
  refine WC.openZ (v := v1) (z := x) hmA fun n1 d1 hv hb1 => ?_
  subst hv
  refine WC.openZ (v := v2) (z := y) hmA fun n2 d2 hv hb2 => ?_
  subst hv
  refine WC.fact (sI d1 (digs x.natAbs)) (hasZ_d hmA) ?_
  refine WC.fact (sI d2 (digs y.natAbs)) (hasZ_d hmA) ?_
  cases n1 with
  | true =>
    have hx : x < 0 := of_decide_eq_true hb1.symm
    cases n2 with
    | true =>
      have hy : y < 0 := of_decide_eq_true hb2.symm
      repeat' (first | refine go ?_ | refine goX ?_ | refine goB ?_ | (refine goG ?_; intro g) | (refine goV ?_; intro v) | refine goD ?_ | refine goXD ?_ | (refine goDG ?_; intro g) | (refine goDV ?_; intro v) | refine d147 ?_ | fail)
      first | refine WL.callK (rplus_c d1 d2 (digs x.natAbs) (digs y.natAbs) (digs_Dg _) (digs_Dg _) h1 h2) ?_ | refine WD.callK (rplus_c d1 d2 (digs x.natAbs) (digs y.natAbs) (digs_Dg _) (digs_Dg _) h1 h2) ?_ | refine LO.callM (rplus_c d1 d2 (digs x.natAbs) (digs y.natAbs) (digs_Dg _) (digs_Dg _) h1 h2) ?_
      rintro u _ _ ⟨l, rfl, rfl, hd, hv, hl⟩
      simp only [List.nil_append, List.cons_append]
      rw [val_digs, val_digs] at hv
      repeat' (first | refine go ?_ | refine goX ?_ | refine goB ?_ | (refine goG ?_; intro g) | (refine goV ?_; intro v) | refine goD ?_ | refine goXD ?_ | (refine goDG ?_; intro g) | (refine goDV ?_; intro v) | refine d147 ?_ | fail)
      first | refine WL.callK (normal_c u true l (x + y) hd (by rw [hv]; omega) (fun _ => by rw [eq_comm, decide_eq_true_eq]; omega)) ?_ | refine WD.callK (normal_c u true l (x + y) hd (by rw [hv]; omega) (fun _ => by rw [eq_comm, decide_eq_true_eq]; omega)) ?_ | refine LO.callM (normal_c u true l (x + y) hd (by rw [hv]; omega) (fun _ => by rw [eq_comm, decide_eq_true_eq]; omega)) ?_
      rintro _ _ _ ⟨nb, d, rfl, hb, rfl, rfl⟩
      simp only [List.nil_append, List.cons_append]
      repeat' (first | refine go ?_ | refine goX ?_ | refine goB ?_ | (refine goG ?_; intro g) | (refine goV ?_; intro v) | refine goD ?_ | refine goXD ?_ | (refine goDG ?_; intro g) | (refine goDV ?_; intro v) | refine d147 ?_ | fail)
      refine WC.ret ?_
      exact Fin.p [] [isZ (.agg #[.bool nb, d]) (x + y)] (ResE.cV rfl rfl meA T.r35 rfl) meA (List.nil_sublist _) haA ⟨nb, _, rfl, hb, rfl, rfl⟩
    | false =>
      have hy : ¬ y < 0 := of_decide_eq_false hb2.symm
      repeat' (first | refine go ?_ | refine goX ?_ | refine goB ?_ | (refine goG ?_; intro g) | (refine goV ?_; intro v) | refine goD ?_ | refine goXD ?_ | (refine goDG ?_; intro g) | (refine goDV ?_; intro v) | refine d147 ?_ | fail)
      first | refine WL.callV (rcompared_c d1 d2 x.natAbs y.natAbs) ?_ | refine WD.callV (rcompared_c d1 d2 x.natAbs y.natAbs) ?_
      by_cases c : x.natAbs < y.natAbs
      · rw [cmpN_lt c]
        have hlen : (digs x.natAbs).length ≤ (digs y.natAbs).length := Nat.le_of_not_lt fun h => by have := digs_lt_len h; omega
        repeat' (first | refine go ?_ | refine goX ?_ | refine goB ?_ | (refine goG ?_; intro g) | (refine goV ?_; intro v) | refine goD ?_ | refine goXD ?_ | (refine goDG ?_; intro g) | (refine goDV ?_; intro v) | refine d147 ?_ | fail)
        first | refine WL.callK (rminus_c d2 d1 (digs y.natAbs) (digs x.natAbs) (digs_Dg _) (digs_Dg _) h2 hlen (by rw [val_digs, val_digs]; omega)) ?_ | refine WD.callK (rminus_c d2 d1 (digs y.natAbs) (digs x.natAbs) (digs_Dg _) (digs_Dg _) h2 hlen (by rw [val_digs, val_digs]; omega)) ?_ | refine LO.callM (rminus_c d2 d1 (digs y.natAbs) (digs x.natAbs) (digs_Dg _) (digs_Dg _) h2 hlen (by rw [val_digs, val_digs]; omega)) ?_
        rintro u _ _ ⟨l, rfl, rfl, hd, hv, hl⟩
        simp only [List.nil_append, List.cons_append]
        rw [val_digs, val_digs] at hv
        repeat' (first | refine go ?_ | refine goX ?_ | refine goB ?_ | (refine goG ?_; intro g) | (refine goV ?_; intro v) | refine goD ?_ | refine goXD ?_ | (refine goDG ?_; intro g) | (refine goDV ?_; intro v) | refine d147 ?_ | fail)
        first | refine WL.callK (normal_c u false l (x + y) hd (by rw [hv]; omega) (fun _ => by rw [eq_comm, decide_eq_false_iff_not]; omega)) ?_ | refine WD.callK (normal_c u false l (x + y) hd (by rw [hv]; omega) (fun _ => by rw [eq_comm, decide_eq_false_iff_not]; omega)) ?_ | refine LO.callM (normal_c u false l (x + y) hd (by rw [hv]; omega) (fun _ => by rw [eq_comm, decide_eq_false_iff_not]; omega)) ?_
        rintro _ _ _ ⟨nb, d, rfl, hb, rfl, rfl⟩
        simp only [List.nil_append, List.cons_append]
        repeat' (first | refine go ?_ | refine goX ?_ | refine goB ?_ | (refine goG ?_; intro g) | (refine goV ?_; intro v) | refine goD ?_ | refine goXD ?_ | (refine goDG ?_; intro g) | (refine goDV ?_; intro v) | refine d147 ?_ | fail)
        refine WC.ret ?_
        exact Fin.p [] [isZ (.agg #[.bool nb, d]) (x + y)] (ResE.cV rfl rfl meA T.r35 rfl) meA (List.nil_sublist _) haA ⟨nb, _, rfl, hb, rfl, rfl⟩
      · have hc0 : cmpN x.natAbs y.natAbs = 0 ∨ cmpN x.natAbs y.natAbs = 1 := by
          by_cases c2 : y.natAbs < x.natAbs
          · exact .inr (cmpN_gt c2)
          · rw [show x.natAbs = y.natAbs by omega]; exact .inl (cmpN_eq _)
        have hlen : (digs y.natAbs).length ≤ (digs x.natAbs).length := Nat.le_of_not_lt fun h => by have := digs_lt_len h; omega
        repeat' (first | refine go ?_ | refine goX ?_ | refine goB ?_ | (refine goG ?_; intro g) | (refine goV ?_; intro v) | refine goD ?_ | refine goXD ?_ | (refine goDG ?_; intro g) | (refine goDV ?_; intro v) | refine d147 ?_ | fail)
        first | refine WL.callK (rminus_c d1 d2 (digs x.natAbs) (digs y.natAbs) (digs_Dg _) (digs_Dg _) h1 hlen (by rw [val_digs, val_digs]; omega)) ?_ | refine WD.callK (rminus_c d1 d2 (digs x.natAbs) (digs y.natAbs) (digs_Dg _) (digs_Dg _) h1 hlen (by rw [val_digs, val_digs]; omega)) ?_ | refine LO.callM (rminus_c d1 d2 (digs x.natAbs) (digs y.natAbs) (digs_Dg _) (digs_Dg _) h1 hlen (by rw [val_digs, val_digs]; omega)) ?_
        rintro u _ _ ⟨l, rfl, rfl, hd, hv, hl⟩
        simp only [List.nil_append, List.cons_append]
        rw [val_digs, val_digs] at hv
        repeat' (first | refine go ?_ | refine goX ?_ | refine goB ?_ | (refine goG ?_; intro g) | (refine goV ?_; intro v) | refine goD ?_ | refine goXD ?_ | (refine goDG ?_; intro g) | (refine goDV ?_; intro v) | refine d147 ?_ | fail)
        first | refine WL.callK (normal_c u true l (x + y) hd (by rw [hv]; omega) (fun hne => by rw [hv] at hne; rw [eq_comm, decide_eq_true_eq]; omega)) ?_ | refine WD.callK (normal_c u true l (x + y) hd (by rw [hv]; omega) (fun hne => by rw [hv] at hne; rw [eq_comm, decide_eq_true_eq]; omega)) ?_ | refine LO.callM (normal_c u true l (x + y) hd (by rw [hv]; omega) (fun hne => by rw [hv] at hne; rw [eq_comm, decide_eq_true_eq]; omega)) ?_
        rintro _ _ _ ⟨nb, d, rfl, hb, rfl, rfl⟩
        simp only [List.nil_append, List.cons_append]
        repeat' (first | refine go ?_ | refine goX ?_ | refine goB ?_ | (refine goG ?_; intro g) | (refine goV ?_; intro v) | refine goD ?_ | refine goXD ?_ | (refine goDG ?_; intro g) | (refine goDV ?_; intro v) | refine d147 ?_ | fail)
        refine WC.ret ?_
        exact Fin.p [] [isZ (.agg #[.bool nb, d]) (x + y)] (ResE.cV rfl rfl meA T.r35 rfl) meA (List.nil_sublist _) haA ⟨nb, _, rfl, hb, rfl, rfl⟩
  | false =>
    have hx : ¬ x < 0 := of_decide_eq_false hb1.symm
    cases n2 with
    | true =>
      have hy : y < 0 := of_decide_eq_true hb2.symm
      repeat' (first | refine go ?_ | refine goX ?_ | refine goB ?_ | (refine goG ?_; intro g) | (refine goV ?_; intro v) | refine goD ?_ | refine goXD ?_ | (refine goDG ?_; intro g) | (refine goDV ?_; intro v) | refine d147 ?_ | fail)
      first | refine WL.callV (rcompared_c d1 d2 x.natAbs y.natAbs) ?_ | refine WD.callV (rcompared_c d1 d2 x.natAbs y.natAbs) ?_
      by_cases c : x.natAbs < y.natAbs
      · rw [cmpN_lt c]
        have hlen : (digs x.natAbs).length ≤ (digs y.natAbs).length := Nat.le_of_not_lt fun h => by have := digs_lt_len h; omega
        repeat' (first | refine go ?_ | refine goX ?_ | refine goB ?_ | (refine goG ?_; intro g) | (refine goV ?_; intro v) | refine goD ?_ | refine goXD ?_ | (refine goDG ?_; intro g) | (refine goDV ?_; intro v) | refine d147 ?_ | fail)
        first | refine WL.callK (rminus_c d2 d1 (digs y.natAbs) (digs x.natAbs) (digs_Dg _) (digs_Dg _) h2 hlen (by rw [val_digs, val_digs]; omega)) ?_ | refine WD.callK (rminus_c d2 d1 (digs y.natAbs) (digs x.natAbs) (digs_Dg _) (digs_Dg _) h2 hlen (by rw [val_digs, val_digs]; omega)) ?_ | refine LO.callM (rminus_c d2 d1 (digs y.natAbs) (digs x.natAbs) (digs_Dg _) (digs_Dg _) h2 hlen (by rw [val_digs, val_digs]; omega)) ?_
        rintro u _ _ ⟨l, rfl, rfl, hd, hv, hl⟩
        simp only [List.nil_append, List.cons_append]
        rw [val_digs, val_digs] at hv
        repeat' (first | refine go ?_ | refine goX ?_ | refine goB ?_ | (refine goG ?_; intro g) | (refine goV ?_; intro v) | refine goD ?_ | refine goXD ?_ | (refine goDG ?_; intro g) | (refine goDV ?_; intro v) | refine d147 ?_ | fail)
        first | refine WL.callK (normal_c u true l (x + y) hd (by rw [hv]; omega) (fun _ => by rw [eq_comm, decide_eq_true_eq]; omega)) ?_ | refine WD.callK (normal_c u true l (x + y) hd (by rw [hv]; omega) (fun _ => by rw [eq_comm, decide_eq_true_eq]; omega)) ?_ | refine LO.callM (normal_c u true l (x + y) hd (by rw [hv]; omega) (fun _ => by rw [eq_comm, decide_eq_true_eq]; omega)) ?_
        rintro _ _ _ ⟨nb, d, rfl, hb, rfl, rfl⟩
        simp only [List.nil_append, List.cons_append]
        repeat' (first | refine go ?_ | refine goX ?_ | refine goB ?_ | (refine goG ?_; intro g) | (refine goV ?_; intro v) | refine goD ?_ | refine goXD ?_ | (refine goDG ?_; intro g) | (refine goDV ?_; intro v) | refine d147 ?_ | fail)
        refine WC.ret ?_
        exact Fin.p [] [isZ (.agg #[.bool nb, d]) (x + y)] (ResE.cV rfl rfl meA T.r35 rfl) meA (List.nil_sublist _) haA ⟨nb, _, rfl, hb, rfl, rfl⟩
      · have hc0 : cmpN x.natAbs y.natAbs = 0 ∨ cmpN x.natAbs y.natAbs = 1 := by
          by_cases c2 : y.natAbs < x.natAbs
          · exact .inr (cmpN_gt c2)
          · rw [show x.natAbs = y.natAbs by omega]; exact .inl (cmpN_eq _)
        have hlen : (digs y.natAbs).length ≤ (digs x.natAbs).length := Nat.le_of_not_lt fun h => by have := digs_lt_len h; omega
        repeat' (first | refine go ?_ | refine goX ?_ | refine goB ?_ | (refine goG ?_; intro g) | (refine goV ?_; intro v) | refine goD ?_ | refine goXD ?_ | (refine goDG ?_; intro g) | (refine goDV ?_; intro v) | refine d147 ?_ | fail)
        first | refine WL.callK (rminus_c d1 d2 (digs x.natAbs) (digs y.natAbs) (digs_Dg _) (digs_Dg _) h1 hlen (by rw [val_digs, val_digs]; omega)) ?_ | refine WD.callK (rminus_c d1 d2 (digs x.natAbs) (digs y.natAbs) (digs_Dg _) (digs_Dg _) h1 hlen (by rw [val_digs, val_digs]; omega)) ?_ | refine LO.callM (rminus_c d1 d2 (digs x.natAbs) (digs y.natAbs) (digs_Dg _) (digs_Dg _) h1 hlen (by rw [val_digs, val_digs]; omega)) ?_
        rintro u _ _ ⟨l, rfl, rfl, hd, hv, hl⟩
        simp only [List.nil_append, List.cons_append]
        rw [val_digs, val_digs] at hv
        repeat' (first | refine go ?_ | refine goX ?_ | refine goB ?_ | (refine goG ?_; intro g) | (refine goV ?_; intro v) | refine goD ?_ | refine goXD ?_ | (refine goDG ?_; intro g) | (refine goDV ?_; intro v) | refine d147 ?_ | fail)
        first | refine WL.callK (normal_c u false l (x + y) hd (by rw [hv]; omega) (fun hne => by rw [hv] at hne; rw [eq_comm, decide_eq_false_iff_not]; omega)) ?_ | refine WD.callK (normal_c u false l (x + y) hd (by rw [hv]; omega) (fun hne => by rw [hv] at hne; rw [eq_comm, decide_eq_false_iff_not]; omega)) ?_ | refine LO.callM (normal_c u false l (x + y) hd (by rw [hv]; omega) (fun hne => by rw [hv] at hne; rw [eq_comm, decide_eq_false_iff_not]; omega)) ?_
        rintro _ _ _ ⟨nb, d, rfl, hb, rfl, rfl⟩
        simp only [List.nil_append, List.cons_append]
        repeat' (first | refine go ?_ | refine goX ?_ | refine goB ?_ | (refine goG ?_; intro g) | (refine goV ?_; intro v) | refine goD ?_ | refine goXD ?_ | (refine goDG ?_; intro g) | (refine goDV ?_; intro v) | refine d147 ?_ | fail)
        refine WC.ret ?_
        exact Fin.p [] [isZ (.agg #[.bool nb, d]) (x + y)] (ResE.cV rfl rfl meA T.r35 rfl) meA (List.nil_sublist _) haA ⟨nb, _, rfl, hb, rfl, rfl⟩
    | false =>
      have hy : ¬ y < 0 := of_decide_eq_false hb2.symm
      repeat' (first | refine go ?_ | refine goX ?_ | refine goB ?_ | (refine goG ?_; intro g) | (refine goV ?_; intro v) | refine goD ?_ | refine goXD ?_ | (refine goDG ?_; intro g) | (refine goDV ?_; intro v) | refine d147 ?_ | fail)
      first | refine WL.callK (rplus_c d1 d2 (digs x.natAbs) (digs y.natAbs) (digs_Dg _) (digs_Dg _) h1 h2) ?_ | refine WD.callK (rplus_c d1 d2 (digs x.natAbs) (digs y.natAbs) (digs_Dg _) (digs_Dg _) h1 h2) ?_ | refine LO.callM (rplus_c d1 d2 (digs x.natAbs) (digs y.natAbs) (digs_Dg _) (digs_Dg _) h1 h2) ?_
      rintro u _ _ ⟨l, rfl, rfl, hd, hv, hl⟩
      simp only [List.nil_append, List.cons_append]
      rw [val_digs, val_digs] at hv
      repeat' (first | refine go ?_ | refine goX ?_ | refine goB ?_ | (refine goG ?_; intro g) | (refine goV ?_; intro v) | refine goD ?_ | refine goXD ?_ | (refine goDG ?_; intro g) | (refine goDV ?_; intro v) | refine d147 ?_ | fail)
      first | refine WL.callK (normal_c u false l (x + y) hd (by rw [hv]; omega) (fun _ => by rw [eq_comm, decide_eq_false_iff_not]; omega)) ?_ | refine WD.callK (normal_c u false l (x + y) hd (by rw [hv]; omega) (fun _ => by rw [eq_comm, decide_eq_false_iff_not]; omega)) ?_ | refine LO.callM (normal_c u false l (x + y) hd (by rw [hv]; omega) (fun _ => by rw [eq_comm, decide_eq_false_iff_not]; omega)) ?_
      rintro _ _ _ ⟨nb, d, rfl, hb, rfl, rfl⟩
      simp only [List.nil_append, List.cons_append]
      repeat' (first | refine go ?_ | refine goX ?_ | refine goB ?_ | (refine goG ?_; intro g) | (refine goV ?_; intro v) | refine goD ?_ | refine goXD ?_ | (refine goDG ?_; intro g) | (refine goDV ?_; intro v) | refine d147 ?_ | fail)
      refine WC.ret ?_
      exact Fin.p [] [isZ (.agg #[.bool nb, d]) (x + y)] (ResE.cV rfl rfl meA T.r35 rfl) meA (List.nil_sublist _) haA ⟨nb, _, rfl, hb, rfl, rfl⟩
end Rn
end Go.Proofs.YthggloiigkbfeaaGreat
namespace Go.Proofs.YthggloiigkbfeaaGreat
open W Go.RowKit
theorem WD.freezeI {P : Program} {n : Nat} {L : List Oper} {hs : List Nat} {b0 : List Ow} {F0 : List Fct} {r : Plan} {e : Env} {bx bx' : List Ow} {F : List Fct} {Q : Env → List Ow → List Fct → Prop} {v : Value} {el : Nat} {l : List Int} (hs' : Sel bx (.slice v el 1 (ints l)) (.slice (.slice none 0 0) el 1 []) bx') (h : WD P n L hs b0 F0 r e bx' (sI v l :: F) Q) : WD P n L hs b0 F0 r e bx F Q := fun fr w0 listed a w fuel Q' h1 h2 h3 h4 h5 h6 hk hr ho hf => h fr w0 listed a w fuel Q' h1 h2 h3 h4 h5 h6 hk hr (ho.freeze hs' (by simp) (by decide) _ fun j hj => by
    have hj' : j < l.length := by omega
    simp [hj']) hf
namespace Ro
open Dvz Dvv Adc Rm Rn
attribute [local irreducible] WC WL WD YO LO LoopEnd W.Fin Scalar SliceT FieldAt Row ArrT AllocT KnS Has W.One SrcE IntT
theorem d110 {G G' : Prop} (h : G') (s : Bx G' → G := by
  intro h
  first | (apply WC.draw (id := 7) [0, 1, 2, 3, 4, 5] (.held 0 (.held 1 (.held 2 (.held 3 (.held 4 (.held 5 (.loud 6 (.loud 7 (.loud 8 (.loud 9 (.done))))))))))) mixed (by kernel_rfl)) | (apply WC.drawR (id := 9) [4] [0, 1] (.held 0 (.held 1 (.loud 2 (.loud 3 (.done))))) mixed (by kernel_rfl); (focus ((repeat (first | exact Rems.nil _ | (apply Rems.cons; exact rfl; (repeat (first | exact Rem.head | apply Rem.tail))))); done))) | fail
  exact Bx.h h) : G := s ⟨h⟩
theorem d146 {G G' : Prop} (h : G') (s : Bx G' → G := by
  intro h
  first | (apply WC.draw (id := 4) [0, 1, 2, 3, 4, 5] (.held 0 (.held 1 (.held 2 (.held 3 (.held 4 (.held 5 (.done))))))) mixed (by kernel_rfl)) | fail
  exact Bx.h h) : G := s ⟨h⟩
theorem goB {G G' : Prop} (h : G') (s : Bx G' → G := by
  intro h
  first
    | (apply WL.k_quo; (apply YO.quo; exact rfl; exact rfl; omega; omega; omega); exact rfl; exact rfl)
    | (apply WD.k_neq; exact rfl; (apply Rn.YO.bneq2; exact rfl; exact rfl); exact rfl; exact rfl)
    | (apply WL.k_neq; (apply Rn.YO.bneq2; exact rfl; exact rfl); exact rfl; exact rfl)
  exact Bx.h h) : G := s ⟨h⟩
def IsLL (m n : Nat) : RPost := fun v b G => ∃ a c, v = .tuple #[a, c] ∧ b = [] ∧ G = [sI a (digs m), sI c (digs n)]
set_option maxHeartbeats 4000000 in
set_option maxRecDepth 8000 in
theorem rdivided_c (u w : Value) (m n : Nat) (hm : m < B2) (hn : n < B2) (h0n : n ≠ 0) : FnB Tryz.prog 146 [u, w] [] [sI u (digs m), sI w (digs n)] (IsLL (m / n) (m % n)) := by
  refine fn_of [(0, u), (1, w)] 95 Tryz.func146 rfl Tryz.ntmps146 (by kernel_rfl) rfl suA fun h0 => ?_
  have hm' : m < 1000000000000000000 := hm
  have hn' : n < 1000000000000000000 := hn
  have q1 : m / n ≤ m := Nat.div_le_self _ _
  have q2 : m % n < n := Nat.mod_lt _ (by omega)
  have e1 : (m : Int) / (n : Int) = ((m / n : Nat) : Int) := by simp
  have e2 : (m : Int) % (n : Int) = ((m % n : Nat) : Int) := by simp
  have l1 : (digs m).length ≤ 2 := digs_len_le (k := 2) hm
  have l2 : (digs n).length ≤ 2 := digs_len_le (k := 2) hn
  repeat' (first | refine go ?_ | refine goX ?_ | refine goB ?_ | (refine goG ?_; intro g) | (refine goV ?_; intro v) | refine goD ?_ | refine goXD ?_ | (refine goDG ?_; intro g) | (refine goDV ?_; intro v) | refine d146 ?_ | fail)
  first | refine WL.callV (tiny_c u m hm) ?_ | refine WD.callV (tiny_c u m hm) ?_
  repeat' (first | refine go ?_ | refine goX ?_ | refine goB ?_ | (refine goG ?_; intro g) | (refine goV ?_; intro v) | refine goD ?_ | refine goXD ?_ | (refine goDG ?_; intro g) | (refine goDV ?_; intro v) | refine d146 ?_ | fail)
  first | refine WL.callV (tiny_c w n hn) ?_ | refine WD.callV (tiny_c w n hn) ?_
  repeat' (first | refine go ?_ | refine goX ?_ | refine goB ?_ | (refine goG ?_; intro g) | (refine goV ?_; intro v) | refine goD ?_ | refine goXD ?_ | (refine goDG ?_; intro g) | (refine goDV ?_; intro v) | refine d146 ?_ | fail)
  rw [e1]
  first | refine WL.callK (rof_c ((m / n : Nat) : Int) (by generalize m / n = z at *; omega) (by generalize m / n = z at *; omega)) ?_ | refine WD.callK (rof_c ((m / n : Nat) : Int) (by generalize m / n = z at *; omega) (by generalize m / n = z at *; omega)) ?_ | refine LO.callM (rof_c ((m / n : Nat) : Int) (by generalize m / n = z at *; omega) (by generalize m / n = z at *; omega)) ?_
  rintro _ _ _ ⟨n1, d1, rfl, hb1, rfl, rfl⟩
  simp only [List.nil_append, List.cons_append]
  repeat' (first | refine go ?_ | refine goX ?_ | refine goB ?_ | (refine goG ?_; intro g) | (refine goV ?_; intro v) | refine goD ?_ | refine goXD ?_ | (refine goDG ?_; intro g) | (refine goDV ?_; intro v) | refine d146 ?_ | fail)
  first | refine WL.callV (tiny_c u m hm) ?_ | refine WD.callV (tiny_c u m hm) ?_
  repeat' (first | refine go ?_ | refine goX ?_ | refine goB ?_ | (refine goG ?_; intro g) | (refine goV ?_; intro v) | refine goD ?_ | refine goXD ?_ | (refine goDG ?_; intro g) | (refine goDV ?_; intro v) | refine d146 ?_ | fail)
  first | refine WL.callV (tiny_c w n hn) ?_ | refine WD.callV (tiny_c w n hn) ?_
  repeat' (first | refine go ?_ | refine goX ?_ | refine goB ?_ | (refine goG ?_; intro g) | (refine goV ?_; intro v) | refine goD ?_ | refine goXD ?_ | (refine goDG ?_; intro g) | (refine goDV ?_; intro v) | refine d146 ?_ | fail)
  rw [e2]
  first | refine WL.callK (rof_c ((m % n : Nat) : Int) (by generalize m % n = z at *; omega) (by generalize m % n = z at *; omega)) ?_ | refine WD.callK (rof_c ((m % n : Nat) : Int) (by generalize m % n = z at *; omega) (by generalize m % n = z at *; omega)) ?_ | refine LO.callM (rof_c ((m % n : Nat) : Int) (by generalize m % n = z at *; omega) (by generalize m % n = z at *; omega)) ?_
  rintro _ _ _ ⟨n2, d2, rfl, hb2, rfl, rfl⟩
  simp only [List.nil_append, List.cons_append]
  repeat' (first | refine go ?_ | refine goX ?_ | refine goB ?_ | (refine goG ?_; intro g) | (refine goV ?_; intro v) | refine goD ?_ | refine goXD ?_ | (refine goDG ?_; intro g) | (refine goDV ?_; intro v) | refine d146 ?_ | fail)
  refine WC.fact (sI d1 (digs (m / n))) (hasZ_dn hmA) ?_
  refine WC.fact (sI d2 (digs (m % n))) (hasZ_dn hmA) ?_
  refine WC.ret ?_
  exact Fin.p [] [sI d1 (digs (m / n)), sI d2 (digs (m % n))] (ResE.t2 rfl rfl rfl) meA (List.nil_sublist _) haA ⟨d1, d2, rfl, rfl, rfl⟩
set_option maxHeartbeats 8000000 in
set_option maxRecDepth 8000 in
theorem rdiv_c (v1 v2 : Value) (x y : Int) (h1 : x.natAbs < B2) (h2 : y.natAbs < B2) (hy : y ≠ 0) : FnB Tryz.prog 110 [v1, v2] [] [isZ v1 x, isZ v2 y] (IsZZ (x / y) (x % y)) := by
  refine fn_of [(0, v1), (1, v2)] 58 Tryz.func110 rfl Tryz.ntmps110 (by kernel_rfl) rfl suA fun h0 => ?_
  refine WC.openZ (v := v1) (z := x) hmA fun n1 d1 hv hb1 => ?_
  subst hv
  refine WC.openZ (v := v2) (z := y) hmA fun n2 d2 hv hb2 => ?_
  subst hv
  refine WC.fact (sI d1 (digs x.natAbs)) (hasZ_d hmA) ?_
  refine WC.fact (sI d2 (digs y.natAbs)) (hasZ_d hmA) ?_
  have hny : y.natAbs ≠ 0 := by omega
  have hly := len_pos hny
  have h1' : x.natAbs < 1000000000000000000 := h1
  repeat' (first | refine go ?_ | refine goX ?_ | refine goB ?_ | (refine goG ?_; intro g) | (refine goV ?_; intro v) | refine goD ?_ | refine goXD ?_ | (refine goDG ?_; intro g) | (refine goDV ?_; intro v) | refine d110 ?_ | fail)
  refine WL.callK (rdivided_c d1 d2 x.natAbs y.natAbs h1 h2 hny) ?_
  rintro _ _ _ ⟨d3, d4, rfl, rfl, rfl⟩
  simp only [List.nil_append, List.cons_append]
  have hr := Nat.mod_lt x.natAbs (show 0 < y.natAbs by omega)
  have hq0 : x.natAbs / y.natAbs ≤ x.natAbs := Nat.div_le_self _ _
  have e1 := @ediv_neg1 x y
  have e2 := @ediv_pos1 x y hy
  generalize hR : x.natAbs % y.natAbs = R at *
  generalize hQ : x.natAbs / y.natAbs = Q at *
  cases n1 with
  | true =>
    have hx : x < 0 := of_decide_eq_true hb1.symm
    cases n2 with
    | true =>
      have hy2 : y < 0 := of_decide_eq_true hb2.symm
      repeat' (first | refine go ?_ | refine goX ?_ | refine goB ?_ | (refine goG ?_; intro g) | (refine goV ?_; intro v) | refine goD ?_ | refine goXD ?_ | (refine goDG ?_; intro g) | (refine goDV ?_; intro v) | refine d110 ?_ | fail)
      first | refine WL.callK (normal_c d3 false (digs Q) ((Q : Int)) (digs_Dg _) (by rw [val_digs]; omega) (fun hne => by rw [val_digs] at hne; rw [eq_comm]; simp only [decide_eq_true_eq, decide_eq_false_iff_not]; omega)) ?_ | refine WD.callK (normal_c d3 false (digs Q) ((Q : Int)) (digs_Dg _) (by rw [val_digs]; omega) (fun hne => by rw [val_digs] at hne; rw [eq_comm]; simp only [decide_eq_true_eq, decide_eq_false_iff_not]; omega)) ?_ | refine LO.callM (normal_c d3 false (digs Q) ((Q : Int)) (digs_Dg _) (by rw [val_digs]; omega) (fun hne => by rw [val_digs] at hne; rw [eq_comm]; simp only [decide_eq_true_eq, decide_eq_false_iff_not]; omega)) ?_
      rintro _ _ _ ⟨n5, d5, rfl, hb5, rfl, rfl⟩
      simp only [List.nil_append, List.cons_append]
      repeat' (first | refine go ?_ | refine goX ?_ | refine goB ?_ | (refine goG ?_; intro g) | (refine goV ?_; intro v) | refine goD ?_ | refine goXD ?_ | (refine goDG ?_; intro g) | (refine goDV ?_; intro v) | refine d110 ?_ | fail)
      first | refine WL.callK (normal_c d4 false (digs R) (R : Int) (digs_Dg _) (by rw [val_digs]; omega) (fun _ => nneg_dec _)) ?_ | refine WD.callK (normal_c d4 false (digs R) (R : Int) (digs_Dg _) (by rw [val_digs]; omega) (fun _ => nneg_dec _)) ?_ | refine LO.callM (normal_c d4 false (digs R) (R : Int) (digs_Dg _) (by rw [val_digs]; omega) (fun _ => nneg_dec _)) ?_
      rintro _ _ _ ⟨n6, d6, rfl, hb6, rfl, rfl⟩
      simp only [List.nil_append, List.cons_append]
      refine WL.fact' (sI d6 (digs R)) (hasZ_dn hmA) ?_
      by_cases hr0 : R = 0
      · have hlr0 : (digs R).length = 0 := digs_len0.2 hr0
        obtain ⟨hqa, hra, hsg⟩ := e2 (.inr hr0)
        have hqe : x / y = (Q : Int) := by
          by_cases hq : x / y = 0
          · omega
          · have := hsg hq; omega
        have hbq : n5 = decide (x / y < 0) := by rw [hqe]; exact hb5
        have hbr : n6 = decide (x % y < 0) := by rw [hra]; exact hb6
        rw [← hqe, ← hra]
        repeat' (first | refine go ?_ | refine goX ?_ | refine goB ?_ | (refine goG ?_; intro g) | (refine goV ?_; intro v) | refine goD ?_ | refine goXD ?_ | (refine goDG ?_; intro g) | (refine goDV ?_; intro v) | refine d110 ?_ | fail)
        refine WC.ret ?_
        exact Fin.p [] [isZ (.agg #[.bool n5, d5]) (x / y), isZ (.agg #[.bool n6, d6]) (x % y)] (ResE.cc rfl rfl rfl meA meA T.r35 rfl T.r35 rfl) meA (List.nil_sublist _) haA ⟨n5, d5, n6, d6, rfl, hbq, hbr, rfl, rfl⟩
      · have hlr0 := len_pos hr0
        obtain ⟨hqa, hra, hsg, hqne⟩ := e1 hx hy hr0
        repeat' (first | refine go ?_ | refine goX ?_ | refine goB ?_ | (refine goG ?_; intro g) | (refine goV ?_; intro v) | refine goD ?_ | refine goXD ?_ | (refine goDG ?_; intro g) | (refine goDV ?_; intro v) | refine d110 ?_ | fail)
        revert v; intro v1
        refine WD.freezeI (l := [1]) (v := v1) (el := 3) (by repeat (first | exact Sel.head | apply Sel.tail)) ?_
        first | refine WL.callK (normal_c v1 false [1] (1) .one (by decide) (fun hne => by decide)) ?_ | refine WD.callK (normal_c v1 false [1] (1) .one (by decide) (fun hne => by decide)) ?_ | refine LO.callM (normal_c v1 false [1] (1) .one (by decide) (fun hne => by decide)) ?_
        rintro _ _ _ ⟨n7, d7, rfl, hb7, rfl, rfl⟩
        simp only [List.nil_append, List.cons_append]
        repeat' (first | refine go ?_ | refine goX ?_ | refine goB ?_ | (refine goG ?_; intro g) | (refine goV ?_; intro v) | refine goD ?_ | refine goXD ?_ | (refine goDG ?_; intro g) | (refine goDV ?_; intro v) | refine d110 ?_ | fail)
        first | refine WL.callK (radd_c (.agg #[.bool n5, d5]) (.agg #[.bool n7, d7]) ((Q : Int)) (1) (Nat.le_trans (digs_len_le (k := 2) (by omega)) (by decide)) (Nat.le_trans (digs_len_le (k := 2) (by decide)) (by decide))) ?_ | refine WD.callK (radd_c (.agg #[.bool n5, d5]) (.agg #[.bool n7, d7]) ((Q : Int)) (1) (Nat.le_trans (digs_len_le (k := 2) (by omega)) (by decide)) (Nat.le_trans (digs_len_le (k := 2) (by decide)) (by decide))) ?_ | refine LO.callM (radd_c (.agg #[.bool n5, d5]) (.agg #[.bool n7, d7]) ((Q : Int)) (1) (Nat.le_trans (digs_len_le (k := 2) (by omega)) (by decide)) (Nat.le_trans (digs_len_le (k := 2) (by decide)) (by decide))) ?_
        rintro _ _ _ ⟨n8, d8, rfl, hb8, rfl, rfl⟩
        simp only [List.nil_append, List.cons_append]
        repeat' (first | refine go ?_ | refine goX ?_ | refine goB ?_ | (refine goG ?_; intro g) | (refine goV ?_; intro v) | refine goD ?_ | refine goXD ?_ | (refine goDG ?_; intro g) | (refine goDV ?_; intro v) | refine d110 ?_ | fail)
        have hlen : (digs R).length ≤ (digs y.natAbs).length := Nat.le_of_not_lt fun h => by have := digs_lt_len h; omega
        refine WL.callK (rminus_c d2 d6 (digs y.natAbs) (digs R) (digs_Dg _) (digs_Dg _) (abs_len h2) hlen (by rw [val_digs, val_digs]; omega)) ?_
        rintro v3 _ _ ⟨l3, rfl, rfl, hd3, hv3, hl3⟩
        simp only [List.nil_append, List.cons_append]
        first | refine WL.callK (normal_c v3 false l3 (x % y) hd3 (by rw [hv3, hra, val_digs, val_digs]; omega) (fun _ => by rw [hra]; exact (decide_eq_false (by omega)).symm)) ?_ | refine WD.callK (normal_c v3 false l3 (x % y) hd3 (by rw [hv3, hra, val_digs, val_digs]; omega) (fun _ => by rw [hra]; exact (decide_eq_false (by omega)).symm)) ?_ | refine LO.callM (normal_c v3 false l3 (x % y) hd3 (by rw [hv3, hra, val_digs, val_digs]; omega) (fun _ => by rw [hra]; exact (decide_eq_false (by omega)).symm)) ?_
        rintro _ _ _ ⟨n9, d9, rfl, hbr, rfl, rfl⟩
        simp only [List.nil_append, List.cons_append]
        have hqe : x / y = (Q : Int) + (1) := by omega
        have hbq : n8 = decide (x / y < 0) := by rw [hqe]; exact hb8
        rw [← hqe]
        repeat' (first | refine go ?_ | refine goX ?_ | refine goB ?_ | (refine goG ?_; intro g) | (refine goV ?_; intro v) | refine goD ?_ | refine goXD ?_ | (refine goDG ?_; intro g) | (refine goDV ?_; intro v) | refine d110 ?_ | fail)
        refine WC.ret ?_
        exact Fin.p [] [isZ (.agg #[.bool n8, d8]) (x / y), isZ (.agg #[.bool n9, d9]) (x % y)] (ResE.cc rfl rfl rfl meA meA T.r35 rfl T.r35 rfl) meA (List.nil_sublist _) haA ⟨n8, d8, n9, d9, rfl, hbq, hbr, rfl, rfl⟩
    | false =>
      have hy2 : ¬ y < 0 := of_decide_eq_false hb2.symm
      repeat' (first | refine go ?_ | refine goX ?_ | refine goB ?_ | (refine goG ?_; intro g) | (refine goV ?_; intro v) | refine goD ?_ | refine goXD ?_ | (refine goDG ?_; intro g) | (refine goDV ?_; intro v) | refine d110 ?_ | fail)
      first | refine WL.callK (normal_c d3 true (digs Q) (-(Q : Int)) (digs_Dg _) (by rw [val_digs]; omega) (fun hne => by rw [val_digs] at hne; rw [eq_comm]; simp only [decide_eq_true_eq, decide_eq_false_iff_not]; omega)) ?_ | refine WD.callK (normal_c d3 true (digs Q) (-(Q : Int)) (digs_Dg _) (by rw [val_digs]; omega) (fun hne => by rw [val_digs] at hne; rw [eq_comm]; simp only [decide_eq_true_eq, decide_eq_false_iff_not]; omega)) ?_ | refine LO.callM (normal_c d3 true (digs Q) (-(Q : Int)) (digs_Dg _) (by rw [val_digs]; omega) (fun hne => by rw [val_digs] at hne; rw [eq_comm]; simp only [decide_eq_true_eq, decide_eq_false_iff_not]; omega)) ?_
      rintro _ _ _ ⟨n5, d5, rfl, hb5, rfl, rfl⟩
      simp only [List.nil_append, List.cons_append]
      repeat' (first | refine go ?_ | refine goX ?_ | refine goB ?_ | (refine goG ?_; intro g) | (refine goV ?_; intro v) | refine goD ?_ | refine goXD ?_ | (refine goDG ?_; intro g) | (refine goDV ?_; intro v) | refine d110 ?_ | fail)
      first | refine WL.callK (normal_c d4 false (digs R) (R : Int) (digs_Dg _) (by rw [val_digs]; omega) (fun _ => nneg_dec _)) ?_ | refine WD.callK (normal_c d4 false (digs R) (R : Int) (digs_Dg _) (by rw [val_digs]; omega) (fun _ => nneg_dec _)) ?_ | refine LO.callM (normal_c d4 false (digs R) (R : Int) (digs_Dg _) (by rw [val_digs]; omega) (fun _ => nneg_dec _)) ?_
      rintro _ _ _ ⟨n6, d6, rfl, hb6, rfl, rfl⟩
      simp only [List.nil_append, List.cons_append]
      refine WL.fact' (sI d6 (digs R)) (hasZ_dn hmA) ?_
      by_cases hr0 : R = 0
      · have hlr0 : (digs R).length = 0 := digs_len0.2 hr0
        obtain ⟨hqa, hra, hsg⟩ := e2 (.inr hr0)
        have hqe : x / y = -(Q : Int) := by
          by_cases hq : x / y = 0
          · omega
          · have := hsg hq; omega
        have hbq : n5 = decide (x / y < 0) := by rw [hqe]; exact hb5
        have hbr : n6 = decide (x % y < 0) := by rw [hra]; exact hb6
        rw [← hqe, ← hra]
        repeat' (first | refine go ?_ | refine goX ?_ | refine goB ?_ | (refine goG ?_; intro g) | (refine goV ?_; intro v) | refine goD ?_ | refine goXD ?_ | (refine goDG ?_; intro g) | (refine goDV ?_; intro v) | refine d110 ?_ | fail)
        refine WC.ret ?_
        exact Fin.p [] [isZ (.agg #[.bool n5, d5]) (x / y), isZ (.agg #[.bool n6, d6]) (x % y)] (ResE.cc rfl rfl rfl meA meA T.r35 rfl T.r35 rfl) meA (List.nil_sublist _) haA ⟨n5, d5, n6, d6, rfl, hbq, hbr, rfl, rfl⟩
      · have hlr0 := len_pos hr0
        obtain ⟨hqa, hra, hsg, hqne⟩ := e1 hx hy hr0
        repeat' (first | refine go ?_ | refine goX ?_ | refine goB ?_ | (refine goG ?_; intro g) | (refine goV ?_; intro v) | refine goD ?_ | refine goXD ?_ | (refine goDG ?_; intro g) | (refine goDV ?_; intro v) | refine d110 ?_ | fail)
        revert v; intro v1
        refine WD.freezeI (l := [1]) (v := v1) (el := 3) (by repeat (first | exact Sel.head | apply Sel.tail)) ?_
        first | refine WL.callK (normal_c v1 true [1] (-1) .one (by decide) (fun hne => by decide)) ?_ | refine WD.callK (normal_c v1 true [1] (-1) .one (by decide) (fun hne => by decide)) ?_ | refine LO.callM (normal_c v1 true [1] (-1) .one (by decide) (fun hne => by decide)) ?_
        rintro _ _ _ ⟨n7, d7, rfl, hb7, rfl, rfl⟩
        simp only [List.nil_append, List.cons_append]
        repeat' (first | refine go ?_ | refine goX ?_ | refine goB ?_ | (refine goG ?_; intro g) | (refine goV ?_; intro v) | refine goD ?_ | refine goXD ?_ | (refine goDG ?_; intro g) | (refine goDV ?_; intro v) | refine d110 ?_ | fail)
        first | refine WL.callK (radd_c (.agg #[.bool n5, d5]) (.agg #[.bool n7, d7]) (-(Q : Int)) (-1) (Nat.le_trans (digs_len_le (k := 2) (by omega)) (by decide)) (Nat.le_trans (digs_len_le (k := 2) (by decide)) (by decide))) ?_ | refine WD.callK (radd_c (.agg #[.bool n5, d5]) (.agg #[.bool n7, d7]) (-(Q : Int)) (-1) (Nat.le_trans (digs_len_le (k := 2) (by omega)) (by decide)) (Nat.le_trans (digs_len_le (k := 2) (by decide)) (by decide))) ?_ | refine LO.callM (radd_c (.agg #[.bool n5, d5]) (.agg #[.bool n7, d7]) (-(Q : Int)) (-1) (Nat.le_trans (digs_len_le (k := 2) (by omega)) (by decide)) (Nat.le_trans (digs_len_le (k := 2) (by decide)) (by decide))) ?_
        rintro _ _ _ ⟨n8, d8, rfl, hb8, rfl, rfl⟩
        simp only [List.nil_append, List.cons_append]
        repeat' (first | refine go ?_ | refine goX ?_ | refine goB ?_ | (refine goG ?_; intro g) | (refine goV ?_; intro v) | refine goD ?_ | refine goXD ?_ | (refine goDG ?_; intro g) | (refine goDV ?_; intro v) | refine d110 ?_ | fail)
        have hlen : (digs R).length ≤ (digs y.natAbs).length := Nat.le_of_not_lt fun h => by have := digs_lt_len h; omega
        refine WL.callK (rminus_c d2 d6 (digs y.natAbs) (digs R) (digs_Dg _) (digs_Dg _) (abs_len h2) hlen (by rw [val_digs, val_digs]; omega)) ?_
        rintro v3 _ _ ⟨l3, rfl, rfl, hd3, hv3, hl3⟩
        simp only [List.nil_append, List.cons_append]
        first | refine WL.callK (normal_c v3 false l3 (x % y) hd3 (by rw [hv3, hra, val_digs, val_digs]; omega) (fun _ => by rw [hra]; exact (decide_eq_false (by omega)).symm)) ?_ | refine WD.callK (normal_c v3 false l3 (x % y) hd3 (by rw [hv3, hra, val_digs, val_digs]; omega) (fun _ => by rw [hra]; exact (decide_eq_false (by omega)).symm)) ?_ | refine LO.callM (normal_c v3 false l3 (x % y) hd3 (by rw [hv3, hra, val_digs, val_digs]; omega) (fun _ => by rw [hra]; exact (decide_eq_false (by omega)).symm)) ?_
        rintro _ _ _ ⟨n9, d9, rfl, hbr, rfl, rfl⟩
        simp only [List.nil_append, List.cons_append]
        have hqe : x / y = -(Q : Int) + (-1) := by omega
        have hbq : n8 = decide (x / y < 0) := by rw [hqe]; exact hb8
        rw [← hqe]
        repeat' (first | refine go ?_ | refine goX ?_ | refine goB ?_ | (refine goG ?_; intro g) | (refine goV ?_; intro v) | refine goD ?_ | refine goXD ?_ | (refine goDG ?_; intro g) | (refine goDV ?_; intro v) | refine d110 ?_ | fail)
        refine WC.ret ?_
        exact Fin.p [] [isZ (.agg #[.bool n8, d8]) (x / y), isZ (.agg #[.bool n9, d9]) (x % y)] (ResE.cc rfl rfl rfl meA meA T.r35 rfl T.r35 rfl) meA (List.nil_sublist _) haA ⟨n8, d8, n9, d9, rfl, hbq, hbr, rfl, rfl⟩
  | false =>
    have hx : ¬ x < 0 := of_decide_eq_false hb1.symm
    cases n2 with
    | true =>
      have hy2 : y < 0 := of_decide_eq_true hb2.symm
      repeat' (first | refine go ?_ | refine goX ?_ | refine goB ?_ | (refine goG ?_; intro g) | (refine goV ?_; intro v) | refine goD ?_ | refine goXD ?_ | (refine goDG ?_; intro g) | (refine goDV ?_; intro v) | refine d110 ?_ | fail)
      first | refine WL.callK (normal_c d3 true (digs Q) (-(Q : Int)) (digs_Dg _) (by rw [val_digs]; omega) (fun hne => by rw [val_digs] at hne; rw [eq_comm]; simp only [decide_eq_true_eq, decide_eq_false_iff_not]; omega)) ?_ | refine WD.callK (normal_c d3 true (digs Q) (-(Q : Int)) (digs_Dg _) (by rw [val_digs]; omega) (fun hne => by rw [val_digs] at hne; rw [eq_comm]; simp only [decide_eq_true_eq, decide_eq_false_iff_not]; omega)) ?_ | refine LO.callM (normal_c d3 true (digs Q) (-(Q : Int)) (digs_Dg _) (by rw [val_digs]; omega) (fun hne => by rw [val_digs] at hne; rw [eq_comm]; simp only [decide_eq_true_eq, decide_eq_false_iff_not]; omega)) ?_
      rintro _ _ _ ⟨n5, d5, rfl, hb5, rfl, rfl⟩
      simp only [List.nil_append, List.cons_append]
      repeat' (first | refine go ?_ | refine goX ?_ | refine goB ?_ | (refine goG ?_; intro g) | (refine goV ?_; intro v) | refine goD ?_ | refine goXD ?_ | (refine goDG ?_; intro g) | (refine goDV ?_; intro v) | refine d110 ?_ | fail)
      first | refine WL.callK (normal_c d4 false (digs R) (R : Int) (digs_Dg _) (by rw [val_digs]; omega) (fun _ => nneg_dec _)) ?_ | refine WD.callK (normal_c d4 false (digs R) (R : Int) (digs_Dg _) (by rw [val_digs]; omega) (fun _ => nneg_dec _)) ?_ | refine LO.callM (normal_c d4 false (digs R) (R : Int) (digs_Dg _) (by rw [val_digs]; omega) (fun _ => nneg_dec _)) ?_
      rintro _ _ _ ⟨n6, d6, rfl, hb6, rfl, rfl⟩
      simp only [List.nil_append, List.cons_append]
      refine WL.fact' (sI d6 (digs R)) (hasZ_dn hmA) ?_
      obtain ⟨hqa, hra, hsg⟩ := e2 (.inl (by omega))
      have hqe : x / y = -(Q : Int) := by
        by_cases hq : x / y = 0
        · omega
        · have := hsg hq; omega
      have hbq : n5 = decide (x / y < 0) := by rw [hqe]; exact hb5
      have hbr : n6 = decide (x % y < 0) := by rw [hra]; exact hb6
      rw [← hqe, ← hra]
      repeat' (first | refine go ?_ | refine goX ?_ | refine goB ?_ | (refine goG ?_; intro g) | (refine goV ?_; intro v) | refine goD ?_ | refine goXD ?_ | (refine goDG ?_; intro g) | (refine goDV ?_; intro v) | refine d110 ?_ | fail)
      refine WC.ret ?_
      exact Fin.p [] [isZ (.agg #[.bool n5, d5]) (x / y), isZ (.agg #[.bool n6, d6]) (x % y)] (ResE.cc rfl rfl rfl meA meA T.r35 rfl T.r35 rfl) meA (List.nil_sublist _) haA ⟨n5, d5, n6, d6, rfl, hbq, hbr, rfl, rfl⟩
    | false =>
      have hy2 : ¬ y < 0 := of_decide_eq_false hb2.symm
      repeat' (first | refine go ?_ | refine goX ?_ | refine goB ?_ | (refine goG ?_; intro g) | (refine goV ?_; intro v) | refine goD ?_ | refine goXD ?_ | (refine goDG ?_; intro g) | (refine goDV ?_; intro v) | refine d110 ?_ | fail)
      first | refine WL.callK (normal_c d3 false (digs Q) ((Q : Int)) (digs_Dg _) (by rw [val_digs]; omega) (fun hne => by rw [val_digs] at hne; rw [eq_comm]; simp only [decide_eq_true_eq, decide_eq_false_iff_not]; omega)) ?_ | refine WD.callK (normal_c d3 false (digs Q) ((Q : Int)) (digs_Dg _) (by rw [val_digs]; omega) (fun hne => by rw [val_digs] at hne; rw [eq_comm]; simp only [decide_eq_true_eq, decide_eq_false_iff_not]; omega)) ?_ | refine LO.callM (normal_c d3 false (digs Q) ((Q : Int)) (digs_Dg _) (by rw [val_digs]; omega) (fun hne => by rw [val_digs] at hne; rw [eq_comm]; simp only [decide_eq_true_eq, decide_eq_false_iff_not]; omega)) ?_
      rintro _ _ _ ⟨n5, d5, rfl, hb5, rfl, rfl⟩
      simp only [List.nil_append, List.cons_append]
      repeat' (first | refine go ?_ | refine goX ?_ | refine goB ?_ | (refine goG ?_; intro g) | (refine goV ?_; intro v) | refine goD ?_ | refine goXD ?_ | (refine goDG ?_; intro g) | (refine goDV ?_; intro v) | refine d110 ?_ | fail)
      first | refine WL.callK (normal_c d4 false (digs R) (R : Int) (digs_Dg _) (by rw [val_digs]; omega) (fun _ => nneg_dec _)) ?_ | refine WD.callK (normal_c d4 false (digs R) (R : Int) (digs_Dg _) (by rw [val_digs]; omega) (fun _ => nneg_dec _)) ?_ | refine LO.callM (normal_c d4 false (digs R) (R : Int) (digs_Dg _) (by rw [val_digs]; omega) (fun _ => nneg_dec _)) ?_
      rintro _ _ _ ⟨n6, d6, rfl, hb6, rfl, rfl⟩
      simp only [List.nil_append, List.cons_append]
      refine WL.fact' (sI d6 (digs R)) (hasZ_dn hmA) ?_
      obtain ⟨hqa, hra, hsg⟩ := e2 (.inl (by omega))
      have hqe : x / y = (Q : Int) := by
        by_cases hq : x / y = 0
        · omega
        · have := hsg hq; omega
      have hbq : n5 = decide (x / y < 0) := by rw [hqe]; exact hb5
      have hbr : n6 = decide (x % y < 0) := by rw [hra]; exact hb6
      rw [← hqe, ← hra]
      repeat' (first | refine go ?_ | refine goX ?_ | refine goB ?_ | (refine goG ?_; intro g) | (refine goV ?_; intro v) | refine goD ?_ | refine goXD ?_ | (refine goDG ?_; intro g) | (refine goDV ?_; intro v) | refine d110 ?_ | fail)
      refine WC.ret ?_
      exact Fin.p [] [isZ (.agg #[.bool n5, d5]) (x / y), isZ (.agg #[.bool n6, d6]) (x % y)] (ResE.cc rfl rfl rfl meA meA T.r35 rfl T.r35 rfl) meA (List.nil_sublist _) haA ⟨n5, d5, n6, d6, rfl, hbq, hbr, rfl, rfl⟩
set_option maxHeartbeats 4000000 in
set_option maxRecDepth 8000 in
theorem rgcd_c (v1 v2 : Value) (x y : Int) (h1 : x.natAbs < B2) (h2 : y.natAbs < B2) : FnB Tryz.prog 109 [v1, v2] [] [isZ v1 x, isZ v2 y] (IsZ ((Int.gcd x y : Nat) : Int)) := by
  refine fn_of [(0, v1), (1, v2)] 56 Tryz.func109 rfl Tryz.ntmps109 (by kernel_rfl) rfl suA fun h0 => ?_
  refine WC.openZ (v := v1) (z := x) hmA fun n1 d1 hv hb1 => ?_
  subst hv
  refine WC.openZ (v := v2) (z := y) hmA fun n2 d2 hv hb2 => ?_
  subst hv
  have hg : Int.gcd x y = Nat.gcd x.natAbs y.natAbs := rfl
  refine WC.fact (sI d1 (digs x.natAbs)) (hasZ_d hmA) ?_
  refine WC.fact (sI d2 (digs y.natAbs)) (hasZ_d hmA) ?_
  rw [hg]
  generalize x.natAbs = m at *
  generalize y.natAbs = n at *
  have hm' : m < 1000000000000000000 := h1
  have hn' : n < 1000000000000000000 := h2
  have l1 : (digs m).length ≤ 2 := digs_len_le (k := 2) h1
  have l2 : (digs n).length ≤ 2 := digs_len_le (k := 2) h2
  repeat' (first | refine go ?_ | refine goX ?_ | refine goB ?_ | (refine goG ?_; intro g) | (refine goV ?_; intro v))
  first | refine WL.callK (normal_c d1 false (digs m) (m : Int) (digs_Dg _) (by rw [val_digs]; simp) (fun _ => nneg_dec _)) ?_ | refine WD.callK (normal_c d1 false (digs m) (m : Int) (digs_Dg _) (by rw [val_digs]; simp) (fun _ => nneg_dec _)) ?_ | refine LO.callM (normal_c d1 false (digs m) (m : Int) (digs_Dg _) (by rw [val_digs]; simp) (fun _ => nneg_dec _)) ?_
  rintro _ _ _ ⟨b1, e1, rfl, hbm, rfl, rfl⟩
  simp only [List.nil_append, List.cons_append]
  repeat' (first | refine go ?_ | refine goX ?_ | refine goB ?_ | (refine goG ?_; intro g) | (refine goV ?_; intro v))
  revert g; intro g5
  first | refine WL.callK (normal_c d2 false (digs n) (n : Int) (digs_Dg _) (by rw [val_digs]; simp) (fun _ => nneg_dec _)) ?_ | refine WD.callK (normal_c d2 false (digs n) (n : Int) (digs_Dg _) (by rw [val_digs]; simp) (fun _ => nneg_dec _)) ?_ | refine LO.callM (normal_c d2 false (digs n) (n : Int) (digs_Dg _) (by rw [val_digs]; simp) (fun _ => nneg_dec _)) ?_
  rintro _ _ _ ⟨b2, e2, rfl, hbn, rfl, rfl⟩
  simp only [List.nil_append, List.cons_append]
  refine WL.fact' (sI e1 (digs m)) (hasZ_dn hmA) ?_
  refine WL.fact' (sI e2 (digs n)) (hasZ_dn hmA) ?_
  repeat' (first | refine go ?_ | refine goX ?_ | refine goB ?_ | (refine goG ?_; intro g) | (refine goV ?_; intro v))
  rename_i g2 g3 g4
  revert g; intro g6
  refine WC.lp (σ := Unit) (fun _ => [(5, ptr g5), (6, ptr g6), (4, ptr g4)]) (fun _ => [Ow.cells g6 35 [.bool b2, e2], Ow.cells g5 35 [.bool b1, e1], Ow.cells g4 35 [.bool false, .slice none 0 0]]) (fun _ => [sI e2 (digs n), sI e1 (digs m), ge h0, isZ (.agg #[.bool b1, e1]) m, isZ (.agg #[.bool b2, e2]) n]) (fun _ => True) (fun _ => 0) () trivial ?_
  rintro _ _
  by_cases c : n = 0
  · have hl0 : (digs n).length = 0 := digs_len0.2 c
    repeat' (first | refine go ?_ | refine goX ?_ | refine goB ?_ | (refine goG ?_; intro g) | (refine goV ?_; intro v))
    rw [c, Nat.gcd_zero_right]
    refine WC.ret ?_
    exact Fin.p [] [isZ (.agg #[.bool b1, e1]) m] (ResE.cV rfl rfl meA T.r35 rfl) meA (List.nil_sublist _) haA ⟨b1, e1, rfl, hbm, rfl, rfl⟩
  · have hl0 := len_pos c
    repeat' (first | refine go ?_ | refine goX ?_ | refine goB ?_ | (refine goG ?_; intro g) | (refine goV ?_; intro v))
    first | refine WL.callV (tiny_c e1 m h1) ?_ | refine WD.callV (tiny_c e1 m h1) ?_
    repeat' (first | refine go ?_ | refine goX ?_ | refine goB ?_ | (refine goG ?_; intro g) | (refine goV ?_; intro v))
    first | refine WL.callV (tiny_c e2 n h2) ?_ | refine WD.callV (tiny_c e2 n h2) ?_
    repeat' (first | refine go ?_ | refine goX ?_ | refine goB ?_ | (refine goG ?_; intro g) | (refine goV ?_; intro v))
    refine WC.lp (σ := Nat × Nat) (fun s => [(7, .int .i64 (s.1 : Int)), (8, .int .i64 (s.2 : Int)), (4, ptr g4)]) (fun _ => [Ow.cells g4 35 [.bool false, .slice none 0 0]]) (fun _ => [ge h0]) (fun s => s.1 < B2 ∧ s.2 < B2 ∧ Nat.gcd s.1 s.2 = Nat.gcd m n) (fun s => s.2) (m, n) ⟨h1, h2, rfl⟩ ?_
    rintro ⟨p, q⟩ ⟨hp, hq, hpq⟩
    simp only at hp hq hpq ⊢
    have hp' : p < 1000000000000000000 := hp
    have hq' : q < 1000000000000000000 := hq
    by_cases c2 : 0 < q
    · have hr : p % q < q := Nat.mod_lt _ c2
      repeat' (first | refine go ?_ | refine goX ?_ | refine goB ?_ | (refine goG ?_; intro g) | (refine goV ?_; intro v))
      exact LoopEnd.mk (q, p % q) ⟨hq, Nat.lt_trans hr hq, by rw [gcd_step c2, hpq]⟩ (by show p % q < q; exact hr) (by rw [show ((p % q : Nat) : Int) = (p : Int) % (q : Int) by simp]; exact suA)
    · obtain rfl : q = 0 := by omega
      rw [Nat.gcd_zero_right] at hpq
      rw [← hpq]
      repeat' (first | refine go ?_ | refine goX ?_ | refine goB ?_ | (refine goG ?_; intro g) | (refine goV ?_; intro v))
      first | refine WL.callK (rof_c (p : Int) (by omega) (by omega)) ?_ | refine WD.callK (rof_c (p : Int) (by omega) (by omega)) ?_ | refine LO.callM (rof_c (p : Int) (by omega) (by omega)) ?_
      rintro _ _ _ ⟨nb, d, rfl, hb, rfl, rfl⟩
      simp only [List.nil_append, List.cons_append]
      repeat' (first | refine go ?_ | refine goX ?_ | refine goB ?_ | (refine goG ?_; intro g) | (refine goV ?_; intro v))
      refine WC.ret ?_
      exact Fin.p [] [isZ (.agg #[.bool nb, d]) p] (ResE.cV rfl rfl meA T.r35 rfl) meA (List.nil_sublist _) haA ⟨nb, d, rfl, hb, rfl, rfl⟩
end Ro
end Go.Proofs.YthggloiigkbfeaaGreat
namespace Go.Proofs.YthggloiigkbfeaaGreat
open W Go.RowKit
namespace Rtm
open Dvz Dvv Adc
theorem len_one {n : Nat} : (digs n).length = 1 ∧ (digs n).getD 0 0 = 1 ↔ n = 1 := by
  constructor
  · rintro ⟨h1, h2⟩
    have := digs_len1 h1
    rw [digs_1 this.1 this.2] at h2
    simp at h2; omega
  · rintro rfl; rw [digs_1 (by decide) (by decide)]; exact ⟨rfl, rfl⟩
theorem num_make {p q : Int} (hq : q ≠ 0) (hp : p ≠ 0) : (Rat.divInt p q).num = (if q / (Int.gcd p q : Int) < 0 then -(p / (Int.gcd p q : Int)) else p / (Int.gcd p q : Int)) ∧ ((Rat.divInt p q).den : Int) = ((q / (Int.gcd p q : Int)).natAbs : Int) := by
  have hg : 0 < Int.gcd p q := Int.gcd_pos_of_ne_zero_right _ hq
  have hgi : (0 : Int) < (Int.gcd p q : Int) := by omega
  have d1 : (Int.gcd p q : Int) ∣ p := Int.gcd_dvd_left ..
  have d2 : (Int.gcd p q : Int) ∣ q := Int.gcd_dvd_right ..
  have hs : (q / (Int.gcd p q : Int) < 0) ↔ q < 0 := by
    obtain ⟨k, hk⟩ := d2
    have e : q / (Int.gcd p q : Int) = k := Int.ediv_eq_of_eq_mul_right (by omega) hk
    rw [e]
    constructor
    · intro hkn; rw [hk]; exact Int.mul_neg_of_pos_of_neg hgi hkn
    · intro hqn
      refine Int.not_le.1 fun h => ?_
      have := Int.mul_nonneg (Int.le_of_lt hgi) h
      omega
  rw [Rat.num_divInt, Rat.den_divInt, if_neg hq, Int.gcd_comm q p]
  constructor
  · by_cases h : q < 0
    · rw [if_pos (hs.2 h), Int.sign_eq_neg_one_of_neg h, Int.neg_one_mul, Int.neg_ediv_of_dvd d1]
    · rw [if_neg (fun h2 => h (hs.1 h2)), Int.sign_eq_one_of_pos (by omega), Int.one_mul]
  · congr 1
    rw [Int.natAbs_ediv_of_dvd d2, Int.natAbs_natCast]
attribute [local irreducible] WC WL WD YO LO LoopEnd W.Fin Scalar SliceT FieldAt Row ArrT AllocT KnS Has W.One SrcE IntT
theorem d124 {G G' : Prop} (h : G') (s : Bx G' → G := by
  intro h
  first | (apply WC.draw (id := 2) [0, 2] (.held 0 (.held 2 (.loud 1 (.loud 3 (.loud 4 (.loud 5 (.done))))))) mixed (by kernel_rfl)) | fail
  exact Bx.h h) : G := s ⟨h⟩
set_option maxHeartbeats 4000000 in
set_option maxRecDepth 8000 in
theorem one_c : FnB Tryz.prog 136 [] [] [] (IsZ 1) := by
  refine fn_of [] 2 Tryz.func136 rfl Tryz.ntmps136 (by kernel_rfl) rfl suA fun h0 => ?_
  repeat' (first | refine go ?_ | refine goX ?_ | refine goB ?_ | (refine goG ?_; intro g) | (refine goV ?_; intro v))
  first | refine WL.callK (iof_c 1 (by decide) (by decide)) ?_ | refine WD.callK (iof_c 1 (by decide) (by decide)) ?_ | refine LO.callM (iof_c 1 (by decide) (by decide)) ?_
  rintro _ _ _ ⟨nb, d, rfl, hb, rfl, rfl⟩
  simp only [List.nil_append, List.cons_append]
  repeat' (first | refine go ?_ | refine goX ?_ | refine goB ?_ | (refine goG ?_; intro g) | (refine goV ?_; intro v))
  refine WC.ret ?_
  exact Fin.p [] [isZ (.agg #[.bool nb, d]) 1] (ResE.cV rfl rfl meA T.r35 rfl) meA (List.nil_sublist _) haA ⟨nb, _, rfl, hb, rfl, rfl⟩
set_option maxHeartbeats 4000000 in
set_option maxRecDepth 8000 in
theorem unit_c (v : Value) (z : Int) : FnB Tryz.prog 122 [v] [] [isZ v z] (IsV (.bool (decide (z = 1)))) := by
  refine fn_of [(0, v)] 19 Tryz.func122 rfl Tryz.ntmps122 (by kernel_rfl) rfl suA fun h0 => ?_
  refine WC.openZ (v := v) (z := z) hmA fun n1 d1 hv hb1 => ?_
  subst hv
  refine WC.fact (sI d1 (digs z.natAbs)) (hasZ_d hmA) ?_
  have hl1 := @len_one z.natAbs
  generalize hD : digs z.natAbs = D at *
  cases n1 with
  | true =>
    have hz : z < 0 := of_decide_eq_true hb1.symm
    repeat' (first | refine go ?_ | refine goX ?_ | refine goB ?_ | (refine goG ?_; intro g) | (refine goV ?_; intro v))
    refine WC.ret ?_
    exact Fin.v (ResE.t1 rfl rfl) meA (by rw [decide_eq_false (by omega)])
  | false =>
    have hz : ¬ z < 0 := of_decide_eq_false hb1.symm
    by_cases c : D.length = 1
    · by_cases c2 : D.getD 0 0 = 1
      · have h3 := hl1.1 ⟨c, c2⟩
        have c3 : D.getD (0 : Int).toNat 0 = 1 := c2
        repeat' (first | refine go ?_ | refine goX ?_ | refine goB ?_ | (refine goG ?_; intro g) | (refine goV ?_; intro v))
        refine WC.ret ?_
        exact Fin.v (ResE.t1 rfl rfl) meA (by rw [decide_eq_true (by omega)])
      · have h3 : z ≠ 1 := fun h => c2 (hl1.2 (by omega)).2
        have c3 : D.getD (0 : Int).toNat 0 ≠ 1 := c2
        repeat' (first | refine go ?_ | refine goX ?_ | refine goB ?_ | (refine goG ?_; intro g) | (refine goV ?_; intro v))
        refine WC.ret ?_
        exact Fin.v (ResE.t1 rfl rfl) meA (by rw [decide_eq_false h3])
    · have h3 : z ≠ 1 := fun h => c (hl1.2 (by omega)).1
      repeat' (first | refine go ?_ | refine goX ?_ | refine goB ?_ | (refine goG ?_; intro g) | (refine goV ?_; intro v))
      refine WC.ret ?_
      exact Fin.v (ResE.t1 rfl rfl) meA (by rw [decide_eq_false h3])
set_option maxHeartbeats 4000000 in
set_option maxRecDepth 8000 in
theorem lowest_c (v1 v2 : Value) (p q : Int) (r : Rat) (hq : q ≠ 0) (hn : r.num = if q < 0 then -p else p) (hd : (r.den : Int) = (q.natAbs : Int)) : FnB Tryz.prog 124 [v1, v2] [] [isZ v1 p, isZ v2 q] (IsQ r) := by
  refine fn_of [(0, v1), (1, v2)] 18 Tryz.func124 rfl Tryz.ntmps124 (by kernel_rfl) rfl suA fun h0 => ?_
  refine WC.openZ (v := v1) (z := p) hmA fun n1 d1 hv hb1 => ?_
  subst hv
  refine WC.openZ (v := v2) (z := q) hmA fun n2 d2 hv hb2 => ?_
  subst hv
  have fin : ∀ (F : List Fct) (nb : Bool) (e1 e2 : Value), q.natAbs ≠ 1 → Has F (isZ (.agg #[.bool nb, e1]) r.num) → Has F (isZ (.agg #[.bool false, e2]) (q.natAbs : Int)) → nb = decide (r.num < 0) → Has F (isQ (.agg #[.bool nb, e1, .bool false, e2]) r) := fun F nb e1 e2 h1 h2 h3 hb => hasQ_of hb (hasZ_d h2) (by
    have : qz r = (q.natAbs : Int) := by unfold qz; rw [if_neg (by omega)]; exact hd
    rw [this]; exact hasZ_d h3)
  have fin1 : ∀ (F : List Fct) (nb : Bool) (e1 : Value), q.natAbs = 1 → Has F (isZ (.agg #[.bool nb, e1]) r.num) → nb = decide (r.num < 0) → Has F (isQ (.agg #[.bool nb, e1, .bool false, .slice none 0 0]) r) := fun F nb e1 h1 h2 hb => hasQ_of hb (hasZ_d h2) (by
    have : qz r = 0 := by unfold qz; rw [if_pos (by omega)]
    rw [this]; simpa [digs_0] using nil0)
  cases n2 with
  | true =>
    have hq2 : q < 0 := of_decide_eq_true hb2.symm
    rw [if_pos hq2] at hn
    repeat' (first | refine go ?_ | refine goX ?_ | refine goB ?_ | (refine goG ?_; intro g) | (refine goV ?_; intro v) | refine goD ?_ | refine goXD ?_ | (refine goDG ?_; intro g) | (refine goDV ?_; intro v) | refine d124 ?_ | fail)
    first | refine WL.callK (neg_c (.agg #[.bool n1, d1]) p) ?_ | refine WD.callK (neg_c (.agg #[.bool n1, d1]) p) ?_ | refine LO.callM (neg_c (.agg #[.bool n1, d1]) p) ?_
    rintro _ _ _ ⟨n3, d3, rfl, hb3, rfl, rfl⟩
    simp only [List.nil_append, List.cons_append]
    repeat' (first | refine go ?_ | refine goX ?_ | refine goB ?_ | (refine goG ?_; intro g) | (refine goV ?_; intro v) | refine goD ?_ | refine goXD ?_ | (refine goDG ?_; intro g) | (refine goDV ?_; intro v) | refine d124 ?_ | fail)
    first | refine WL.callK (neg_c (.agg #[.bool true, d2]) q) ?_ | refine WD.callK (neg_c (.agg #[.bool true, d2]) q) ?_ | refine LO.callM (neg_c (.agg #[.bool true, d2]) q) ?_
    rintro _ _ _ ⟨n4, d4, rfl, hb4, rfl, rfl⟩
    simp only [List.nil_append, List.cons_append]
    obtain rfl : false = n4 := by rw [hb4, eq_comm, decide_eq_false_iff_not]; omega
    rw [← hn] at hb3 ⊢
    rw [show -q = (q.natAbs : Int) by omega]
    repeat' (first | refine go ?_ | refine goX ?_ | refine goB ?_ | (refine goG ?_; intro g) | (refine goV ?_; intro v) | refine goD ?_ | refine goXD ?_ | (refine goDG ?_; intro g) | (refine goDV ?_; intro v) | refine d124 ?_ | fail)
    first | refine WL.callV (unit_c (.agg #[.bool false, d4]) (q.natAbs : Int)) ?_ | refine WD.callV (unit_c (.agg #[.bool false, d4]) (q.natAbs : Int)) ?_
    by_cases c : q.natAbs = 1
    · rw [decide_eq_true (by omega)]
      repeat' (first | refine go ?_ | refine goX ?_ | refine goB ?_ | (refine goG ?_; intro g) | (refine goV ?_; intro v) | refine goD ?_ | refine goXD ?_ | (refine goDG ?_; intro g) | (refine goDV ?_; intro v) | refine d124 ?_ | fail)
      refine WC.fact (isQ (.agg #[.bool n3, d3, .bool false, .slice none 0 0]) r) (fin1 _ _ _ c hmA hb3) ?_
      refine WC.ret ?_
      exact Fin.p [] [isQ (.agg #[.bool n3, d3, .bool false, .slice none 0 0]) r] (ResE.cV rfl rfl meA T.r37 rfl) meA (List.nil_sublist _) haA ⟨n3, _, _, rfl, hb3, rfl, rfl⟩
    · rw [decide_eq_false (by omega)]
      repeat' (first | refine go ?_ | refine goX ?_ | refine goB ?_ | (refine goG ?_; intro g) | (refine goV ?_; intro v) | refine goD ?_ | refine goXD ?_ | (refine goDG ?_; intro g) | (refine goDV ?_; intro v) | refine d124 ?_ | fail)
      refine WC.fact (isQ (.agg #[.bool n3, d3, .bool false, d4]) r) (fin _ _ _ _ c hmA hmA hb3) ?_
      refine WC.ret ?_
      exact Fin.p [] [isQ (.agg #[.bool n3, d3, .bool false, d4]) r] (ResE.cV rfl rfl meA T.r37 rfl) meA (List.nil_sublist _) haA ⟨n3, _, _, rfl, hb3, rfl, rfl⟩
  | false =>
    have hq2 : ¬ q < 0 := of_decide_eq_false hb2.symm
    rw [if_neg hq2] at hn
    rw [← hn] at hb1 ⊢
    rw [show q = (q.natAbs : Int) by omega] at hb2 ⊢
    repeat' (first | refine go ?_ | refine goX ?_ | refine goB ?_ | (refine goG ?_; intro g) | (refine goV ?_; intro v) | refine goD ?_ | refine goXD ?_ | (refine goDG ?_; intro g) | (refine goDV ?_; intro v) | refine d124 ?_ | fail)
    first | refine WL.callV (unit_c (.agg #[.bool false, d2]) (q.natAbs : Int)) ?_ | refine WD.callV (unit_c (.agg #[.bool false, d2]) (q.natAbs : Int)) ?_
    by_cases c : q.natAbs = 1
    · rw [decide_eq_true (by omega)]
      repeat' (first | refine go ?_ | refine goX ?_ | refine goB ?_ | (refine goG ?_; intro g) | (refine goV ?_; intro v) | refine goD ?_ | refine goXD ?_ | (refine goDG ?_; intro g) | (refine goDV ?_; intro v) | refine d124 ?_ | fail)
      refine WC.fact (isQ (.agg #[.bool n1, d1, .bool false, .slice none 0 0]) r) (fin1 _ _ _ c hmA hb1) ?_
      refine WC.ret ?_
      exact Fin.p [] [isQ (.agg #[.bool n1, d1, .bool false, .slice none 0 0]) r] (ResE.cV rfl rfl meA T.r37 rfl) meA (List.nil_sublist _) haA ⟨n1, _, _, rfl, hb1, rfl, rfl⟩
    · rw [decide_eq_false (by omega)]
      repeat' (first | refine go ?_ | refine goX ?_ | refine goB ?_ | (refine goG ?_; intro g) | (refine goV ?_; intro v) | refine goD ?_ | refine goXD ?_ | (refine goDG ?_; intro g) | (refine goDV ?_; intro v) | refine d124 ?_ | fail)
      refine WC.fact (isQ (.agg #[.bool n1, d1, .bool false, d2]) r) (fin _ _ _ _ c hmA hmA hb1) ?_
      refine WC.ret ?_
      exact Fin.p [] [isQ (.agg #[.bool n1, d1, .bool false, d2]) r] (ResE.cV rfl rfl meA T.r37 rfl) meA (List.nil_sublist _) haA ⟨n1, _, _, rfl, hb1, rfl, rfl⟩
set_option maxHeartbeats 4000000 in
set_option maxRecDepth 8000 in
theorem make_c (v1 v2 : Value) (p q : Int) (h1 : p.natAbs < B2) (h2 : q.natAbs < B2) : FnB Tryz.prog 69 [v1, v2] [] [isZ v1 p, isZ v2 q] (IsQ (Rat.divInt p q)) := by
  refine fn_of [(0, v1), (1, v2)] 38 Tryz.func69 rfl Tryz.ntmps69 (by kernel_rfl) rfl suA fun h0 => ?_
  refine WC.openZ (v := v1) (z := p) hmA fun n1 d1 hv hb1 => ?_
  subst hv
  refine WC.openZ (v := v2) (z := q) hmA fun n2 d2 hv hb2 => ?_
  subst hv
  have lp := @digs_len0 p.natAbs
  have lq := @digs_len0 q.natAbs
  by_cases c0 : q = 0
  · have hl := lq.2 (by omega)
    repeat' (first | refine go ?_ | refine goX ?_ | refine goB ?_ | (refine goG ?_; intro g) | (refine goV ?_; intro v))
    rw [c0, Rat.divInt_zero]
    refine WC.ret ?_
    exact Fin.p [] [isQ (.agg #[.bool false, .slice none 0 0, .bool false, .slice none 0 0]) 0] (ResE.cV rfl rfl meA T.r37 rfl) meA (List.nil_sublist _) (.cons hasQ_0 .nil) ⟨false, _, _, rfl, rfl, rfl, rfl⟩
  have hlq := len_pos (n := q.natAbs) (by omega)
  by_cases c1 : p = 0
  · have hl := lp.2 (by omega)
    repeat' (first | refine go ?_ | refine goX ?_ | refine goB ?_ | (refine goG ?_; intro g) | (refine goV ?_; intro v))
    rw [c1, Rat.zero_divInt]
    refine WC.ret ?_
    exact Fin.p [] [isQ (.agg #[.bool false, .slice none 0 0, .bool false, .slice none 0 0]) 0] (ResE.cV rfl rfl meA T.r37 rfl) meA (List.nil_sublist _) (.cons hasQ_0 .nil) ⟨false, _, _, rfl, rfl, rfl, rfl⟩
  have hlp := len_pos (n := p.natAbs) (by omega)
  obtain ⟨hn, hd⟩ := num_make (p := p) (q := q) c0 c1
  have hg : 0 < Int.gcd p q := Int.gcd_pos_of_ne_zero_right _ c0
  have hg2 : Int.gcd p q < B2 := by
    have : Int.gcd p q ≤ q.natAbs := Nat.le_of_dvd (by omega) (Nat.gcd_dvd_right ..)
    omega
  have hqne : q / (Int.gcd p q : Int) ≠ 0 := fun h => by
    have := Int.ediv_mul_cancel (Int.gcd_dvd_right (a := p) (b := q))
    rw [h] at this; omega
  repeat' (first | refine go ?_ | refine goX ?_ | refine goB ?_ | (refine goG ?_; intro g) | (refine goV ?_; intro v))
  first | refine WL.callK (gcd_c (.agg #[.bool n1, d1]) (.agg #[.bool n2, d2]) p q h1 h2) ?_ | refine WD.callK (gcd_c (.agg #[.bool n1, d1]) (.agg #[.bool n2, d2]) p q h1 h2) ?_ | refine LO.callM (gcd_c (.agg #[.bool n1, d1]) (.agg #[.bool n2, d2]) p q h1 h2) ?_
  rintro _ _ _ ⟨n3, d3, rfl, hb3, rfl, rfl⟩
  simp only [List.nil_append, List.cons_append]
  repeat' (first | refine go ?_ | refine goX ?_ | refine goB ?_ | (refine goG ?_; intro g) | (refine goV ?_; intro v))
  first | refine WL.callV (unit_c (.agg #[.bool n3, d3]) ((Int.gcd p q : Nat) : Int)) ?_ | refine WD.callV (unit_c (.agg #[.bool n3, d3]) ((Int.gcd p q : Nat) : Int)) ?_
  by_cases c2 : Int.gcd p q = 1
  · rw [decide_eq_true (by omega)]
    rw [c2] at hn hd hqne
    have e1 : ∀ z : Int, z / ((1 : Nat) : Int) = z := fun z => Int.ediv_one z
    rw [e1] at hd hqne
    rw [e1, e1] at hn
    repeat' (first | refine go ?_ | refine goX ?_ | refine goB ?_ | (refine goG ?_; intro g) | (refine goV ?_; intro v))
    first | refine WL.callK (lowest_c (.agg #[.bool n1, d1]) (.agg #[.bool n2, d2]) p q (Rat.divInt p q) c0 hn hd) ?_ | refine WD.callK (lowest_c (.agg #[.bool n1, d1]) (.agg #[.bool n2, d2]) p q (Rat.divInt p q) c0 hn hd) ?_ | refine LO.callM (lowest_c (.agg #[.bool n1, d1]) (.agg #[.bool n2, d2]) p q (Rat.divInt p q) c0 hn hd) ?_
    rintro _ _ _ ⟨nb, e1, e2, rfl, hb, rfl, rfl⟩
    simp only [List.nil_append, List.cons_append]
    repeat' (first | refine go ?_ | refine goX ?_ | refine goB ?_ | (refine goG ?_; intro g) | (refine goV ?_; intro v))
    refine WC.ret ?_
    exact Fin.p [] [isQ (.agg #[.bool nb, e1, .bool false, e2]) (Rat.divInt p q)] (ResE.cV rfl rfl meA T.r37 rfl) meA (List.nil_sublist _) haA ⟨nb, _, _, rfl, hb, rfl, rfl⟩
  · rw [decide_eq_false (by omega)]
    repeat' (first | refine go ?_ | refine goX ?_ | refine goB ?_ | (refine goG ?_; intro g) | (refine goV ?_; intro v))
    first | refine WL.callK (div_c (.agg #[.bool n1, d1]) (.agg #[.bool n3, d3]) p ((Int.gcd p q : Nat) : Int) h1 hg2 (by omega)) ?_ | refine WD.callK (div_c (.agg #[.bool n1, d1]) (.agg #[.bool n3, d3]) p ((Int.gcd p q : Nat) : Int) h1 hg2 (by omega)) ?_ | refine LO.callM (div_c (.agg #[.bool n1, d1]) (.agg #[.bool n3, d3]) p ((Int.gcd p q : Nat) : Int) h1 hg2 (by omega)) ?_
    rintro _ _ _ ⟨n4, d4, n5, d5, rfl, hb4, hb5, rfl, rfl⟩
    simp only [List.nil_append, List.cons_append]
    repeat' (first | refine go ?_ | refine goX ?_ | refine goB ?_ | (refine goG ?_; intro g) | (refine goV ?_; intro v))
    first | refine WL.callK (div_c (.agg #[.bool n2, d2]) (.agg #[.bool n3, d3]) q ((Int.gcd p q : Nat) : Int) h2 hg2 (by omega)) ?_ | refine WD.callK (div_c (.agg #[.bool n2, d2]) (.agg #[.bool n3, d3]) q ((Int.gcd p q : Nat) : Int) h2 hg2 (by omega)) ?_ | refine LO.callM (div_c (.agg #[.bool n2, d2]) (.agg #[.bool n3, d3]) q ((Int.gcd p q : Nat) : Int) h2 hg2 (by omega)) ?_
    rintro _ _ _ ⟨n6, d6, n7, d7, rfl, hb6, hb7, rfl, rfl⟩
    simp only [List.nil_append, List.cons_append]
    repeat' (first | refine go ?_ | refine goX ?_ | refine goB ?_ | (refine goG ?_; intro g) | (refine goV ?_; intro v))
    first | refine WL.callK (lowest_c (.agg #[.bool n4, d4]) (.agg #[.bool n6, d6]) (p / ((Int.gcd p q : Nat) : Int)) (q / ((Int.gcd p q : Nat) : Int)) (Rat.divInt p q) hqne hn hd) ?_ | refine WD.callK (lowest_c (.agg #[.bool n4, d4]) (.agg #[.bool n6, d6]) (p / ((Int.gcd p q : Nat) : Int)) (q / ((Int.gcd p q : Nat) : Int)) (Rat.divInt p q) hqne hn hd) ?_ | refine LO.callM (lowest_c (.agg #[.bool n4, d4]) (.agg #[.bool n6, d6]) (p / ((Int.gcd p q : Nat) : Int)) (q / ((Int.gcd p q : Nat) : Int)) (Rat.divInt p q) hqne hn hd) ?_
    rintro _ _ _ ⟨nb, e1, e2, rfl, hb, rfl, rfl⟩
    simp only [List.nil_append, List.cons_append]
    repeat' (first | refine go ?_ | refine goX ?_ | refine goB ?_ | (refine goG ?_; intro g) | (refine goV ?_; intro v))
    refine WC.ret ?_
    exact Fin.p [] [isQ (.agg #[.bool nb, e1, .bool false, e2]) (Rat.divInt p q)] (ResE.cV rfl rfl meA T.r37 rfl) meA (List.nil_sublist _) haA ⟨nb, _, _, rfl, hb, rfl, rfl⟩
end Rtm
end Go.Proofs.YthggloiigkbfeaaGreat
namespace Go.Proofs.YthggloiigkbfeaaGreat
open W Go.RowKit
def Sm (q : Rat) : Prop := q.num.natAbs ≤ 500000000 ∧ q.den ≤ 500000000
def cmpQ (a b : Rat) : Int := cmpI (a.num * b.den) (b.num * a.den)
theorem cmpQ_eq {a b : Rat} : cmpQ a b = 0 ↔ a = b := by
  rw [Rat.eq_iff_mul_eq_mul]; unfold cmpQ cmpI; split
  · constructor <;> intro h <;> omega
  · split <;> (constructor <;> intro h <;> omega)
theorem sgn_mul {z : Int} {d : Nat} (hd : d ≠ 0) : (z * d < 0 ↔ z < 0) ∧ (0 < z * d ↔ 0 < z) := by
  have h0 : (0 : Int) < d := by omega
  rcases Int.lt_trichotomy z 0 with h | h | h
  · have := Int.mul_neg_of_neg_of_pos h h0
    constructor <;> constructor <;> intro h2 <;> omega
  · subst h; simp
  · have := Int.mul_pos h h0
    constructor <;> constructor <;> intro h2 <;> omega
theorem cmp_sgn {a b : Rat} (h : sgn a.num ≠ sgn b.num ∨ sgn a.num = 0) : cmpI (sgn a.num) (sgn b.num) = cmpQ a b := by
  have h1 := @sgn_mul a.num b.den b.den_nz
  have h2 := @sgn_mul b.num a.den a.den_nz
  unfold cmpQ
  generalize a.num * b.den = x at *
  generalize b.num * a.den = y at *
  unfold sgn cmpI at *
  split at h <;> split at h <;> (repeat' split) <;> first | rfl | omega | (split at h <;> omega)
theorem qz_len {q : Rat} : (digs (qz q).natAbs).length = 0 ↔ q.den = 1 := by
  rw [digs_len0]; unfold qz
  have := q.den_nz
  split <;> omega
theorem num_len {q : Rat} : (digs q.num.natAbs).length = 0 ↔ q = 0 := by
  rw [digs_len0, ← Rat.num_eq_zero]; omega
theorem int_rat {q : Rat} (h : q.den = 1) : q = ((q.num : Int) : Rat) := by
  apply Rat.ext
  · simp
  · simpa using h
theorem add_int {a b : Rat} (ha : a.den = 1) (hb : b.den = 1) : (a + b).num = a.num + b.num ∧ (a + b).den = 1 := by
  have e : a + b = ((a.num + b.num : Int) : Rat) := by
    rw [int_rat ha, int_rat hb, Rat.intCast_add]; simp
  rw [e]; exact ⟨Rat.num_intCast _, Rat.den_intCast _⟩
theorem add_div {a b : Rat} : Rat.divInt (a.num * b.den + b.num * a.den) ((a.den : Int) * (b.den : Int)) = a + b := by
  have : ((a.den : Int) * (b.den : Int)) = ((a.den * b.den : Nat) : Int) := by simp
  rw [this, Rat.divInt_ofNat, Rat.add_def']
theorem Sm.mul {x y : Nat} (hx : x ≤ 500000000) (hy : y ≤ 500000000) : x * y ≤ 250000000000000000 := Nat.mul_le_mul hx hy
theorem abs_mulc (z : Int) (d : Nat) : (z * (d : Int)).natAbs = z.natAbs * d := by rw [Int.natAbs_mul, Int.natAbs_natCast]
namespace Rta
open Dvz Dvv Adc Rtm
attribute [local irreducible] WC WL WD YO LO LoopEnd W.Fin Scalar SliceT FieldAt Row ArrT AllocT KnS Has W.One SrcE IntT
theorem d36 {G G' : Prop} (h : G') (s : Bx G' → G := by
  intro h
  first | (apply WC.draw (id := 7) [0, 2] (.held 0 (.held 2 (.more 1 (.more 3 (.more 4 (.loud 5 (.loud 6 (.loud 7 (.done)))) (.loud 5 (.loud 4 (.loud 6 (.loud 7 (.done)))))) (.more 4 (.more 3 (.loud 5 (.loud 6 (.loud 7 (.done)))) (.loud 5 (.loud 3 (.loud 6 (.loud 7 (.done)))))) (.loud 5 (.more 3 (.loud 4 (.loud 6 (.loud 7 (.done)))) (.loud 4 (.loud 3 (.loud 6 (.loud 7 (.done))))))))) (.more 4 (.more 1 (.more 3 (.loud 5 (.loud 6 (.loud 7 (.done)))) (.loud 5 (.loud 3 (.loud 6 (.loud 7 (.done)))))) (.loud 5 (.loud 1 (.loud 3 (.loud 6 (.loud 7 (.done))))))) (.loud 5 (.more 1 (.more 3 (.loud 4 (.loud 6 (.loud 7 (.done)))) (.loud 4 (.loud 3 (.loud 6 (.loud 7 (.done)))))) (.loud 4 (.loud 1 (.loud 3 (.loud 6 (.loud 7 (.done)))))))))))) mixed (by kernel_rfl)) | (apply WC.draw (id := 8) [0, 1, 2, 4, 5, 6, 9, 10] (.held 0 (.held 1 (.held 2 (.held 4 (.held 5 (.held 6 (.held 9 (.held 10 (.loud 3 (.loud 7 (.loud 8 (.loud 11 (.loud 12 (.loud 13 (.done))))))))))))))) mixed (by kernel_rfl)) | fail
  exact Bx.h h) : G := s ⟨h⟩
theorem d97 {G G' : Prop} (h : G') (s : Bx G' → G := by
  intro h
  first | (apply WC.draw (id := 1) [0, 1, 3, 4, 5] (.held 0 (.held 1 (.held 3 (.held 4 (.loud 2 (.held 5 (.loud 6 (.done)))))))) mixed (by kernel_rfl)) | fail
  exact Bx.h h) : G := s ⟨h⟩
set_option maxHeartbeats 4000000 in
set_option maxRecDepth 8000 in
theorem of_c (p q : Int) (h1 : p.natAbs < B2) (h2 : q.natAbs < B2) : FnB Tryz.prog 21 [.int .i64 p, .int .i64 q] [] [] (IsQ (Rat.divInt p q)) := by
  refine fn_of [(0, (.int .i64 p)), (1, (.int .i64 q))] 10 Tryz.func21 rfl Tryz.ntmps21 (by kernel_rfl) rfl suA fun h0 => ?_
  have h1' : p.natAbs < 1000000000000000000 := h1
  have h2' : q.natAbs < 1000000000000000000 := h2
  repeat' (first | refine go ?_ | refine goX ?_ | refine goB ?_ | (refine goG ?_; intro g) | (refine goV ?_; intro v))
  first | refine WL.callK (iof_c p (by omega) (by omega)) ?_ | refine WD.callK (iof_c p (by omega) (by omega)) ?_ | refine LO.callM (iof_c p (by omega) (by omega)) ?_
  rintro _ _ _ ⟨n1, d1, rfl, hb1, rfl, rfl⟩
  simp only [List.nil_append, List.cons_append]
  repeat' (first | refine go ?_ | refine goX ?_ | refine goB ?_ | (refine goG ?_; intro g) | (refine goV ?_; intro v))
  first | refine WL.callK (iof_c q (by omega) (by omega)) ?_ | refine WD.callK (iof_c q (by omega) (by omega)) ?_ | refine LO.callM (iof_c q (by omega) (by omega)) ?_
  rintro _ _ _ ⟨n2, d2, rfl, hb2, rfl, rfl⟩
  simp only [List.nil_append, List.cons_append]
  repeat' (first | refine go ?_ | refine goX ?_ | refine goB ?_ | (refine goG ?_; intro g) | (refine goV ?_; intro v))
  first | refine WL.callK (make_c (.agg #[.bool n1, d1]) (.agg #[.bool n2, d2]) p q h1 h2) ?_ | refine WD.callK (make_c (.agg #[.bool n1, d1]) (.agg #[.bool n2, d2]) p q h1 h2) ?_ | refine LO.callM (make_c (.agg #[.bool n1, d1]) (.agg #[.bool n2, d2]) p q h1 h2) ?_
  rintro _ _ _ ⟨nb, e1, e2, rfl, hb, rfl, rfl⟩
  simp only [List.nil_append, List.cons_append]
  repeat' (first | refine go ?_ | refine goX ?_ | refine goB ?_ | (refine goG ?_; intro g) | (refine goV ?_; intro v))
  refine WC.ret ?_
  exact Fin.p [] [isQ (.agg #[.bool nb, e1, .bool false, e2]) (Rat.divInt p q)] (ResE.cV rfl rfl meA T.r37 rfl) meA (List.nil_sublist _) haA ⟨nb, _, _, rfl, hb, rfl, rfl⟩
set_option maxHeartbeats 4000000 in
set_option maxRecDepth 8000 in
theorem den_c (v : Value) (q : Rat) : FnB Tryz.prog 83 [v] [] [isQ v q] (IsZ (q.den : Int)) := by
  refine fn_of [(0, v)] 11 Tryz.func83 rfl Tryz.ntmps83 (by kernel_rfl) rfl suA fun h0 => ?_
  refine WC.openQ (v := v) (q := q) hmA fun n1 d1 d2 hv hb1 => ?_
  subst hv
  have hl := @qz_len q
  by_cases c : q.den = 1
  · have hl0 := hl.2 c
    repeat' (first | refine go ?_ | refine goX ?_ | refine goB ?_ | (refine goG ?_; intro g) | (refine goV ?_; intro v))
    first | refine WL.callK (one_c) ?_ | refine WD.callK (one_c) ?_ | refine LO.callM (one_c) ?_
    rintro _ _ _ ⟨nb, d, rfl, hb, rfl, rfl⟩
    simp only [List.nil_append, List.cons_append]
    repeat' (first | refine go ?_ | refine goX ?_ | refine goB ?_ | (refine goG ?_; intro g) | (refine goV ?_; intro v))
    rw [show ((q.den : Nat) : Int) = 1 by omega]
    refine WC.ret ?_
    exact Fin.p [] [isZ (.agg #[.bool nb, d]) 1] (ResE.cV rfl rfl meA T.r35 rfl) meA (List.nil_sublist _) haA ⟨nb, _, rfl, hb, rfl, rfl⟩
  · have hl0 : (digs (qz q).natAbs).length ≠ 0 := fun h => c (hl.1 h)
    have hz : qz q = (q.den : Int) := by unfold qz; rw [if_neg c]
    rw [hz] at hl0
    refine WC.fact (isZ (.agg #[.bool false, d2]) (q.den : Int)) (by rw [← hz]; exact hasQ_Q hmA) ?_
    repeat' (first | refine go ?_ | refine goX ?_ | refine goB ?_ | (refine goG ?_; intro g) | (refine goV ?_; intro v))
    refine WC.ret ?_
    exact Fin.p [] [isZ (.agg #[.bool false, d2]) (q.den : Int)] (ResE.cV rfl rfl meA T.r35 rfl) meA (List.nil_sublist _) haA ⟨false, _, rfl, nneg_dec _, rfl, rfl⟩
set_option maxHeartbeats 4000000 in
set_option maxRecDepth 8000 in
theorem sign_c (v : Value) (q : Rat) : FnB Tryz.prog 38 [v] [] [isQ v q] (IsV (.int .i64 (sgn q.num))) := by
  refine fn_of [(0, v)] 6 Tryz.func38 rfl Tryz.ntmps38 (by kernel_rfl) rfl suA fun h0 => ?_
  refine WC.openQ (v := v) (q := q) hmA fun n1 d1 d2 hv hb1 => ?_
  subst hv
  refine WC.fact (isZ (.agg #[.bool n1, d1]) q.num) (hasQ_P hmA) ?_
  repeat' (first | refine go ?_ | refine goX ?_ | refine goB ?_ | (refine goG ?_; intro g) | (refine goV ?_; intro v))
  first | refine WL.callV (isign_c (.agg #[.bool n1, d1]) q.num) ?_ | refine WD.callV (isign_c (.agg #[.bool n1, d1]) q.num) ?_
  repeat' (first | refine go ?_ | refine goX ?_ | refine goB ?_ | (refine goG ?_; intro g) | (refine goV ?_; intro v))
  refine WC.ret ?_
  exact Fin.v (ResE.t1 rfl rfl) meA rfl
set_option maxHeartbeats 4000000 in
set_option maxRecDepth 8000 in
theorem neg_c (v : Value) (q : Rat) : FnB Tryz.prog 97 [v] [] [isQ v q] (IsQ (-q)) := by
  refine fn_of [(0, v)] 9 Tryz.func97 rfl Tryz.ntmps97 (by kernel_rfl) rfl suA fun h0 => ?_
  refine WC.openQ (v := v) (q := q) hmA fun n1 d1 d2 hv hb1 => ?_
  subst hv
  refine WC.fact (isZ (.agg #[.bool n1, d1]) q.num) (hasQ_P hmA) ?_
  repeat' (first | refine go ?_ | refine goX ?_ | refine goB ?_ | (refine goG ?_; intro g) | (refine goV ?_; intro v) | refine goD ?_ | refine goXD ?_ | (refine goDG ?_; intro g) | (refine goDV ?_; intro v) | refine d97 ?_ | fail)
  first | refine WL.callK (Go.Proofs.YthggloiigkbfeaaGreat.neg_c (.agg #[.bool n1, d1]) q.num) ?_ | refine WD.callK (Go.Proofs.YthggloiigkbfeaaGreat.neg_c (.agg #[.bool n1, d1]) q.num) ?_ | refine LO.callM (Go.Proofs.YthggloiigkbfeaaGreat.neg_c (.agg #[.bool n1, d1]) q.num) ?_
  rintro _ _ _ ⟨n3, d3, rfl, hb3, rfl, rfl⟩
  simp only [List.nil_append, List.cons_append]
  repeat' (first | refine go ?_ | refine goX ?_ | refine goB ?_ | (refine goG ?_; intro g) | (refine goV ?_; intro v) | refine goD ?_ | refine goXD ?_ | (refine goDG ?_; intro g) | (refine goDV ?_; intro v) | refine d97 ?_ | fail)
  have hb4 : n3 = decide ((-q).num < 0) := by rw [hb3, Rat.neg_num]
  refine WC.fact (isQ (.agg #[.bool n3, d3, .bool false, d2]) (-q)) (hasQ_of hb4 (by rw [Rat.neg_num]; exact hasZ_d hmA) (by rw [show qz (-q) = qz q by unfold qz; rw [Rat.neg_den]]; exact hasQ_d2 hmA)) ?_
  refine WC.ret ?_
  exact Fin.p [] [isQ (.agg #[.bool n3, d3, .bool false, d2]) (-q)] (ResE.cV rfl rfl meA T.r37 rfl) meA (List.nil_sublist _) haA ⟨n3, _, _, rfl, hb4, rfl, rfl⟩
set_option maxHeartbeats 8000000 in
set_option maxRecDepth 8000 in
theorem add_c (v1 v2 : Value) (a b : Rat) (h1 : Sm a) (h2 : Sm b) : FnB Tryz.prog 36 [v1, v2] [] [isQ v1 a, isQ v2 b] (IsQ (a + b)) := by
  refine fn_of [(0, v1), (1, v2)] 57 Tryz.func36 rfl Tryz.ntmps36 (by kernel_rfl) rfl suA fun h0 => ?_
  refine WC.openQ (v := v1) (q := a) hmA fun n1 d1 d2 hv hb1 => ?_
  subst hv
  refine WC.openQ (v := v2) (q := b) hmA fun n2 d3 d4 hv hb2 => ?_
  subst hv
  have ha := @qz_len a
  have hb := @qz_len b
  have na := @num_len a
  have nb := @num_len b
  obtain ⟨s1, s2⟩ := h1
  obtain ⟨s3, s4⟩ := h2
  by_cases c : a.den = 1 ∧ b.den = 1
  · have l1 := ha.2 c.1
    have l2 := hb.2 c.2
    obtain ⟨e1, e2⟩ := add_int c.1 c.2
    refine WC.fact (isZ (.agg #[.bool n1, d1]) a.num) (hasQ_P hmA) ?_
    refine WC.fact (isZ (.agg #[.bool n2, d3]) b.num) (hasQ_P hmA) ?_
    repeat' (first | refine go ?_ | refine goX ?_ | refine goB ?_ | (refine goG ?_; intro g) | (refine goV ?_; intro v) | refine goD ?_ | refine goXD ?_ | (refine goDG ?_; intro g) | (refine goDV ?_; intro v) | apply WD.more_of | refine WM.more (by exact rfl) (by exact rfl) (by exact rfl) ?_ ?_ | refine WM.one (by exact rfl) (by exact rfl) (by exact rfl) ?_ | refine WM.more0 (by exact rfl) (by exact rfl) ?_ ?_ | refine WM.one0 (by exact rfl) (by exact rfl) ?_ | (refine goLG ?_; intro g) | (refine goLV ?_; intro v) | refine goLS ?_ | refine d36 ?_ | fail)
    first | refine WL.callK (Adc.add_c (.agg #[.bool n1, d1]) (.agg #[.bool n2, d3]) a.num b.num (abs_len (Nat.lt_of_le_of_lt s1 (by decide))) (abs_len (Nat.lt_of_le_of_lt s3 (by decide)))) ?_ | refine WD.callK (Adc.add_c (.agg #[.bool n1, d1]) (.agg #[.bool n2, d3]) a.num b.num (abs_len (Nat.lt_of_le_of_lt s1 (by decide))) (abs_len (Nat.lt_of_le_of_lt s3 (by decide)))) ?_ | refine LO.callM (Adc.add_c (.agg #[.bool n1, d1]) (.agg #[.bool n2, d3]) a.num b.num (abs_len (Nat.lt_of_le_of_lt s1 (by decide))) (abs_len (Nat.lt_of_le_of_lt s3 (by decide)))) ?_
    rintro _ _ _ ⟨n5, d5, rfl, hb5, rfl, rfl⟩
    simp only [List.nil_append, List.cons_append]
    rw [← e1] at hb5 ⊢
    repeat' (first | refine go ?_ | refine goX ?_ | refine goB ?_ | (refine goG ?_; intro g) | (refine goV ?_; intro v) | refine goD ?_ | refine goXD ?_ | (refine goDG ?_; intro g) | (refine goDV ?_; intro v) | apply WD.more_of | refine WM.more (by exact rfl) (by exact rfl) (by exact rfl) ?_ ?_ | refine WM.one (by exact rfl) (by exact rfl) (by exact rfl) ?_ | refine WM.more0 (by exact rfl) (by exact rfl) ?_ ?_ | refine WM.one0 (by exact rfl) (by exact rfl) ?_ | (refine goLG ?_; intro g) | (refine goLV ?_; intro v) | refine goLS ?_ | refine d36 ?_ | fail)
    refine WC.fact (isQ (.agg #[.bool n5, d5, .bool false, .slice none 0 0]) (a + b)) (hasQ_of hb5 (hasZ_d hmA) (by rw [show qz (a + b) = 0 by unfold qz; rw [if_pos e2]]; simpa [digs_0] using nil0)) ?_
    refine WC.ret ?_
    exact Fin.p [] [isQ (.agg #[.bool n5, d5, .bool false, .slice none 0 0]) (a + b)] (ResE.cV rfl rfl meA T.r37 rfl) meA (List.nil_sublist _) haA ⟨n5, _, _, rfl, hb5, rfl, rfl⟩
  have hsp : (digs (qz a).natAbs).length ≠ 0 ∨ ((digs (qz a).natAbs).length = 0 ∧ (digs (qz b).natAbs).length ≠ 0) := by
    by_cases c1 : a.den = 1
    · exact .inr ⟨ha.2 c1, fun h => c ⟨c1, hb.1 h⟩⟩
    · exact .inl fun h => c1 (ha.1 h)
  by_cases c1 : a = 0
  · have l1 := na.2 c1
    have e : a + b = b := by rw [c1, Rat.zero_add]
    rcases hsp with l2 | ⟨l2, l3⟩
    all_goals
      repeat' (first | refine go ?_ | refine goX ?_ | refine goB ?_ | (refine goG ?_; intro g) | (refine goV ?_; intro v) | refine goD ?_ | refine goXD ?_ | (refine goDG ?_; intro g) | (refine goDV ?_; intro v) | apply WD.more_of | refine WM.more (by exact rfl) (by exact rfl) (by exact rfl) ?_ ?_ | refine WM.one (by exact rfl) (by exact rfl) (by exact rfl) ?_ | refine WM.more0 (by exact rfl) (by exact rfl) ?_ ?_ | refine WM.one0 (by exact rfl) (by exact rfl) ?_ | (refine goLG ?_; intro g) | (refine goLV ?_; intro v) | refine goLS ?_ | refine d36 ?_ | fail)
      rw [e]
      refine WC.ret ?_
      exact Fin.p [] [isQ (.agg #[.bool n2, d3, .bool false, d4]) b] (ResE.cV rfl rfl meA T.r37 rfl) meA (List.nil_sublist _) haA ⟨n2, _, _, rfl, hb2, rfl, rfl⟩
  have l1 : (digs a.num.natAbs).length ≠ 0 := fun h => c1 (na.1 h)
  by_cases c2 : b = 0
  · have l2 := nb.2 c2
    have e : a + b = a := by rw [c2, Rat.add_zero]
    rcases hsp with l3 | ⟨l3, l4⟩
    all_goals
      repeat' (first | refine go ?_ | refine goX ?_ | refine goB ?_ | (refine goG ?_; intro g) | (refine goV ?_; intro v) | refine goD ?_ | refine goXD ?_ | (refine goDG ?_; intro g) | (refine goDV ?_; intro v) | apply WD.more_of | refine WM.more (by exact rfl) (by exact rfl) (by exact rfl) ?_ ?_ | refine WM.one (by exact rfl) (by exact rfl) (by exact rfl) ?_ | refine WM.more0 (by exact rfl) (by exact rfl) ?_ ?_ | refine WM.one0 (by exact rfl) (by exact rfl) ?_ | (refine goLG ?_; intro g) | (refine goLV ?_; intro v) | refine goLS ?_ | refine d36 ?_ | fail)
      rw [e]
      refine WC.ret ?_
      exact Fin.p [] [isQ (.agg #[.bool n1, d1, .bool false, d2]) a] (ResE.cV rfl rfl meA T.r37 rfl) meA (List.nil_sublist _) haA ⟨n1, _, _, rfl, hb1, rfl, rfl⟩
  have l2 : (digs b.num.natAbs).length ≠ 0 := fun h => c2 (nb.1 h)
  have q1 := Sm.mul s1 s4
  have q2 := Sm.mul s3 s2
  have q3 := Sm.mul s2 s4
  have k1 : (a.num * (b.den : Int)).natAbs < B2 := by rw [abs_mulc]; exact Nat.lt_of_le_of_lt q1 (by decide)
  have k2 : (b.num * (a.den : Int)).natAbs < B2 := by rw [abs_mulc]; exact Nat.lt_of_le_of_lt q2 (by decide)
  have k3 : ((a.den : Int) * (b.den : Int)).natAbs < B2 := by rw [abs_mulc, Int.natAbs_natCast]; exact Nat.lt_of_le_of_lt q3 (by decide)
  have k4 : (a.num * (b.den : Int) + b.num * (a.den : Int)).natAbs < B2 := by
    rw [← abs_mulc] at q1 q2
    show _ < 1000000000000000000
    generalize a.num * (b.den : Int) = u at *
    generalize b.num * (a.den : Int) = w at *
    omega
  rcases hsp with l3 | ⟨l3, l4⟩
  all_goals
    repeat' (first | refine go ?_ | refine goX ?_ | refine goB ?_ | (refine goG ?_; intro g) | (refine goV ?_; intro v))
    refine WC.cutP (σ := Nat × Nat × Nat × Nat × Nat × Bool × Value × Bool × Value) (fun s => [(5, ptr s.1), (6, ptr s.2.1), (2, ptr s.2.2.1), (3, ptr s.2.2.2.1), (4, ptr s.2.2.2.2.1)])
      (fun s => [Ow.cells s.2.1 35 [.bool s.2.2.2.2.2.2.2.1, s.2.2.2.2.2.2.2.2], Ow.cells s.1 35 [.bool s.2.2.2.2.2.1, s.2.2.2.2.2.2.1], Ow.cells s.2.2.1 37 [.bool n1, d1, .bool false, d2], Ow.cells s.2.2.2.1 37 [.bool n2, d3, .bool false, d4], Ow.cells s.2.2.2.2.1 37 [.bool false, .slice none 0 0, .bool false, .slice none 0 0]])
      (fun s => [ge h0, isZ (.agg #[.bool s.2.2.2.2.2.1, s.2.2.2.2.2.2.1]) (a.den : Int), isZ (.agg #[.bool s.2.2.2.2.2.2.2.1, s.2.2.2.2.2.2.2.2]) (b.den : Int), isQ (.agg #[.bool n1, d1, .bool false, d2]) a, isQ (.agg #[.bool n2, d3, .bool false, d4]) b]) (fun _ => True) ?_ ?_
    · repeat' (first | refine go ?_ | refine goX ?_ | refine goB ?_ | (refine goG ?_; intro g) | (refine goV ?_; intro v) | refine goD ?_ | refine goXD ?_ | (refine goDG ?_; intro g) | (refine goDV ?_; intro v) | apply WD.more_of | refine WM.more (by exact rfl) (by exact rfl) (by exact rfl) ?_ ?_ | refine WM.one (by exact rfl) (by exact rfl) (by exact rfl) ?_ | refine WM.more0 (by exact rfl) (by exact rfl) ?_ ?_ | refine WM.one0 (by exact rfl) (by exact rfl) ?_ | (refine goLG ?_; intro g) | (refine goLV ?_; intro v) | refine goLS ?_ | refine d36 ?_ | fail | ((first | refine WL.callK (hv := ?hvQ) (den_c (.agg #[.bool n1, d1, .bool false, d2]) a) ?_ | refine WD.callK (hv := ?hvQ) (den_c (.agg #[.bool n1, d1, .bool false, d2]) a) ?_ | refine LO.callM (hv := ?hvQ) (den_c (.agg #[.bool n1, d1, .bool false, d2]) a) ?_); (case hvQ => ((repeat (first | exact Evs.nil | (apply Evs.cons; exact rfl))); done)); rintro _ _ _ ⟨zb, zd, rfl, zh, rfl, rfl⟩; simp only [List.nil_append, List.cons_append]) | ((first | refine WL.callK (hv := ?hvQ) (den_c (.agg #[.bool n2, d3, .bool false, d4]) b) ?_ | refine WD.callK (hv := ?hvQ) (den_c (.agg #[.bool n2, d3, .bool false, d4]) b) ?_ | refine LO.callM (hv := ?hvQ) (den_c (.agg #[.bool n2, d3, .bool false, d4]) b) ?_); (case hvQ => ((repeat (first | exact Evs.nil | (apply Evs.cons; exact rfl))); done)); rintro _ _ _ ⟨zb, zd, rfl, zh, rfl, rfl⟩; simp only [List.nil_append, List.cons_append]) | fail)
      all_goals (apply Ex9; refine ⟨trivial, ?_, ?_, ?_⟩; (focus (repeat (first | exact Sub.nil _ | refine Sub.cons rfl ?_))); (focus (repeat (first | exact SubP.nil _ | (apply SubP.cons; (repeat (first | exact Rem.head | apply Rem.tail)))))); (focus (repeat (first | exact HasAll.nil | (apply HasAll.cons; exact hsA)))))
    rintro ⟨g5, g6, g2, g3, g4, b5, e5, b6, e6⟩ _
    simp only
    refine WC.fact (isZ (.agg #[.bool n1, d1]) a.num) (hasQ_P hmA) ?_
    refine WC.fact (isZ (.agg #[.bool n2, d3]) b.num) (hasQ_P hmA) ?_
    repeat' (first | refine go ?_ | refine goX ?_ | refine goB ?_ | (refine goG ?_; intro g) | (refine goV ?_; intro v) | refine goD ?_ | refine goXD ?_ | (refine goDG ?_; intro g) | (refine goDV ?_; intro v) | apply WD.more_of | refine WM.more (by exact rfl) (by exact rfl) (by exact rfl) ?_ ?_ | refine WM.one (by exact rfl) (by exact rfl) (by exact rfl) ?_ | refine WM.more0 (by exact rfl) (by exact rfl) ?_ ?_ | refine WM.one0 (by exact rfl) (by exact rfl) ?_ | (refine goLG ?_; intro g) | (refine goLV ?_; intro v) | refine goLS ?_ | refine d36 ?_ | fail)
    first | refine WL.callK (Mlt.mul_c (.agg #[.bool n1, d1]) (.agg #[.bool b6, e6]) a.num (b.den : Int) (abs_len (Nat.lt_of_le_of_lt s1 (by decide))) (abs_len (Nat.lt_of_le_of_lt s4 (by decide)))) ?_ | refine WD.callK (Mlt.mul_c (.agg #[.bool n1, d1]) (.agg #[.bool b6, e6]) a.num (b.den : Int) (abs_len (Nat.lt_of_le_of_lt s1 (by decide))) (abs_len (Nat.lt_of_le_of_lt s4 (by decide)))) ?_ | refine LO.callM (Mlt.mul_c (.agg #[.bool n1, d1]) (.agg #[.bool b6, e6]) a.num (b.den : Int) (abs_len (Nat.lt_of_le_of_lt s1 (by decide))) (abs_len (Nat.lt_of_le_of_lt s4 (by decide)))) ?_
    rintro _ _ _ ⟨n7, d7, rfl, hb7, rfl, rfl⟩
    simp only [List.nil_append, List.cons_append]
    repeat' (first | refine go ?_ | refine goX ?_ | refine goB ?_ | (refine goG ?_; intro g) | (refine goV ?_; intro v) | refine goD ?_ | refine goXD ?_ | (refine goDG ?_; intro g) | (refine goDV ?_; intro v) | apply WD.more_of | refine WM.more (by exact rfl) (by exact rfl) (by exact rfl) ?_ ?_ | refine WM.one (by exact rfl) (by exact rfl) (by exact rfl) ?_ | refine WM.more0 (by exact rfl) (by exact rfl) ?_ ?_ | refine WM.one0 (by exact rfl) (by exact rfl) ?_ | (refine goLG ?_; intro g) | (refine goLV ?_; intro v) | refine goLS ?_ | refine d36 ?_ | fail)
    first | refine WL.callK (Mlt.mul_c (.agg #[.bool n2, d3]) (.agg #[.bool b5, e5]) b.num (a.den : Int) (abs_len (Nat.lt_of_le_of_lt s3 (by decide))) (abs_len (Nat.lt_of_le_of_lt s2 (by decide)))) ?_ | refine WD.callK (Mlt.mul_c (.agg #[.bool n2, d3]) (.agg #[.bool b5, e5]) b.num (a.den : Int) (abs_len (Nat.lt_of_le_of_lt s3 (by decide))) (abs_len (Nat.lt_of_le_of_lt s2 (by decide)))) ?_ | refine LO.callM (Mlt.mul_c (.agg #[.bool n2, d3]) (.agg #[.bool b5, e5]) b.num (a.den : Int) (abs_len (Nat.lt_of_le_of_lt s3 (by decide))) (abs_len (Nat.lt_of_le_of_lt s2 (by decide)))) ?_
    rintro _ _ _ ⟨n8, d8, rfl, hb8, rfl, rfl⟩
    simp only [List.nil_append, List.cons_append]
    repeat' (first | refine go ?_ | refine goX ?_ | refine goB ?_ | (refine goG ?_; intro g) | (refine goV ?_; intro v) | refine goD ?_ | refine goXD ?_ | (refine goDG ?_; intro g) | (refine goDV ?_; intro v) | apply WD.more_of | refine WM.more (by exact rfl) (by exact rfl) (by exact rfl) ?_ ?_ | refine WM.one (by exact rfl) (by exact rfl) (by exact rfl) ?_ | refine WM.more0 (by exact rfl) (by exact rfl) ?_ ?_ | refine WM.one0 (by exact rfl) (by exact rfl) ?_ | (refine goLG ?_; intro g) | (refine goLV ?_; intro v) | refine goLS ?_ | refine d36 ?_ | fail)
    first | refine WL.callK (Adc.add_c (.agg #[.bool n7, d7]) (.agg #[.bool n8, d8]) (a.num * (b.den : Int)) (b.num * (a.den : Int)) (abs_len k1) (abs_len k2)) ?_ | refine WD.callK (Adc.add_c (.agg #[.bool n7, d7]) (.agg #[.bool n8, d8]) (a.num * (b.den : Int)) (b.num * (a.den : Int)) (abs_len k1) (abs_len k2)) ?_ | refine LO.callM (Adc.add_c (.agg #[.bool n7, d7]) (.agg #[.bool n8, d8]) (a.num * (b.den : Int)) (b.num * (a.den : Int)) (abs_len k1) (abs_len k2)) ?_
    rintro _ _ _ ⟨n9, d9, rfl, hb9, rfl, rfl⟩
    simp only [List.nil_append, List.cons_append]
    repeat' (first | refine go ?_ | refine goX ?_ | refine goB ?_ | (refine goG ?_; intro g) | (refine goV ?_; intro v) | refine goD ?_ | refine goXD ?_ | (refine goDG ?_; intro g) | (refine goDV ?_; intro v) | apply WD.more_of | refine WM.more (by exact rfl) (by exact rfl) (by exact rfl) ?_ ?_ | refine WM.one (by exact rfl) (by exact rfl) (by exact rfl) ?_ | refine WM.more0 (by exact rfl) (by exact rfl) ?_ ?_ | refine WM.one0 (by exact rfl) (by exact rfl) ?_ | (refine goLG ?_; intro g) | (refine goLV ?_; intro v) | refine goLS ?_ | refine d36 ?_ | fail)
    first | refine WL.callK (Mlt.mul_c (.agg #[.bool b5, e5]) (.agg #[.bool b6, e6]) (a.den : Int) (b.den : Int) (abs_len (Nat.lt_of_le_of_lt s2 (by decide))) (abs_len (Nat.lt_of_le_of_lt s4 (by decide)))) ?_ | refine WD.callK (Mlt.mul_c (.agg #[.bool b5, e5]) (.agg #[.bool b6, e6]) (a.den : Int) (b.den : Int) (abs_len (Nat.lt_of_le_of_lt s2 (by decide))) (abs_len (Nat.lt_of_le_of_lt s4 (by decide)))) ?_ | refine LO.callM (Mlt.mul_c (.agg #[.bool b5, e5]) (.agg #[.bool b6, e6]) (a.den : Int) (b.den : Int) (abs_len (Nat.lt_of_le_of_lt s2 (by decide))) (abs_len (Nat.lt_of_le_of_lt s4 (by decide)))) ?_
    rintro _ _ _ ⟨n10, d10, rfl, hb10, rfl, rfl⟩
    simp only [List.nil_append, List.cons_append]
    repeat' (first | refine go ?_ | refine goX ?_ | refine goB ?_ | (refine goG ?_; intro g) | (refine goV ?_; intro v) | refine goD ?_ | refine goXD ?_ | (refine goDG ?_; intro g) | (refine goDV ?_; intro v) | apply WD.more_of | refine WM.more (by exact rfl) (by exact rfl) (by exact rfl) ?_ ?_ | refine WM.one (by exact rfl) (by exact rfl) (by exact rfl) ?_ | refine WM.more0 (by exact rfl) (by exact rfl) ?_ ?_ | refine WM.one0 (by exact rfl) (by exact rfl) ?_ | (refine goLG ?_; intro g) | (refine goLV ?_; intro v) | refine goLS ?_ | refine d36 ?_ | fail)
    first | refine WL.callK (make_c (.agg #[.bool n9, d9]) (.agg #[.bool n10, d10]) (a.num * (b.den : Int) + b.num * (a.den : Int)) ((a.den : Int) * (b.den : Int)) k4 k3) ?_ | refine WD.callK (make_c (.agg #[.bool n9, d9]) (.agg #[.bool n10, d10]) (a.num * (b.den : Int) + b.num * (a.den : Int)) ((a.den : Int) * (b.den : Int)) k4 k3) ?_ | refine LO.callM (make_c (.agg #[.bool n9, d9]) (.agg #[.bool n10, d10]) (a.num * (b.den : Int) + b.num * (a.den : Int)) ((a.den : Int) * (b.den : Int)) k4 k3) ?_
    rintro _ _ _ ⟨n11, d11, d12, rfl, hb11, rfl, rfl⟩
    simp only [List.nil_append, List.cons_append]
    rw [add_div] at hb11 ⊢
    repeat' (first | refine go ?_ | refine goX ?_ | refine goB ?_ | (refine goG ?_; intro g) | (refine goV ?_; intro v) | refine goD ?_ | refine goXD ?_ | (refine goDG ?_; intro g) | (refine goDV ?_; intro v) | apply WD.more_of | refine WM.more (by exact rfl) (by exact rfl) (by exact rfl) ?_ ?_ | refine WM.one (by exact rfl) (by exact rfl) (by exact rfl) ?_ | refine WM.more0 (by exact rfl) (by exact rfl) ?_ ?_ | refine WM.one0 (by exact rfl) (by exact rfl) ?_ | (refine goLG ?_; intro g) | (refine goLV ?_; intro v) | refine goLS ?_ | refine d36 ?_ | fail)
    refine WC.ret ?_
    exact Fin.p [] [isQ (.agg #[.bool n11, d11, .bool false, d12]) (a + b)] (ResE.cV rfl rfl meA T.r37 rfl) meA (List.nil_sublist _) haA ⟨n11, _, _, rfl, hb11, rfl, rfl⟩
end Rta
end Go.Proofs.YthggloiigkbfeaaGreat
namespace Go.Proofs.YthggloiigkbfeaaGreat
open W Go.RowKit
theorem Sm.neg {q : Rat} (h : Sm q) : Sm (-q) := by
  unfold Sm at *; rw [Rat.neg_num, Rat.neg_den, Int.natAbs_neg]; exact h
theorem sgn_bd (z : Int) : -1 ≤ sgn z ∧ sgn z ≤ 1 := by unfold sgn; split <;> (try split) <;> omega
theorem qz_inj {a b : Rat} (h1 : a.num = b.num) (h2 : qz a = qz b) : a = b := by
  have := a.den_nz
  have := b.den_nz
  apply Rat.ext h1
  unfold qz at h2
  split at h2 <;> split at h2 <;> omega
namespace Rtc
open Dvz Dvv Adc Rtm Rta
attribute [local irreducible] WC WL WD YO LO LoopEnd W.Fin Scalar SliceT FieldAt Row ArrT AllocT KnS Has W.One SrcE IntT
theorem d37 {G G' : Prop} (h : G') (s : Bx G' → G := by
  intro h
  first | (apply WC.draw (id := 1) [0, 2, 4, 5] (.held 0 (.held 2 (.loud 1 (.loud 3 (.held 4 (.held 5 (.done))))))) mixed (by kernel_rfl)) | (apply WC.draw (id := 4) [0, 1, 2, 5, 6, 7, 11] (.held 0 (.held 1 (.held 2 (.held 5 (.held 6 (.held 7 (.loud 3 (.loud 4 (.loud 8 (.loud 9 (.loud 10 (.held 11 (.done))))))))))))) mixed (by kernel_rfl)) | fail
  exact Bx.h h) : G := s ⟨h⟩
theorem d44 {G G' : Prop} (h : G') (s : Bx G' → G := by
  intro h
  first | (apply WC.draw (id := 1) [0, 1] (.held 0 (.held 1 (.loud 2 (.loud 3 (.loud 4 (.done)))))) mixed (by kernel_rfl)) | fail
  exact Bx.h h) : G := s ⟨h⟩
theorem d68 {G G' : Prop} (h : G') (s : Bx G' → G := by
  intro h
  first | (apply WC.draw (id := 6) [0, 1, 2, 3, 4, 5, 6, 7, 8] (.held 0 (.held 1 (.held 2 (.held 3 (.held 4 (.held 5 (.held 6 (.held 7 (.held 8 (.done)))))))))) mixed (by kernel_rfl)) | fail
  exact Bx.h h) : G := s ⟨h⟩
set_option maxHeartbeats 4000000 in
set_option maxRecDepth 8000 in
theorem sub_c (v1 v2 : Value) (a b : Rat) (h1 : Sm a) (h2 : Sm b) : FnB Tryz.prog 44 [v1, v2] [] [isQ v1 a, isQ v2 b] (IsQ (a - b)) := by
  refine fn_of [(0, v1), (1, v2)] 9 Tryz.func44 rfl Tryz.ntmps44 (by kernel_rfl) rfl suA fun h0 => ?_
  refine WC.openQ (v := v1) (q := a) hmA fun n1 d1 d2 hv hb1 => ?_
  subst hv
  refine WC.openQ (v := v2) (q := b) hmA fun n2 d3 d4 hv hb2 => ?_
  subst hv
  repeat' (first | refine go ?_ | refine goX ?_ | refine goB ?_ | (refine goG ?_; intro g) | (refine goV ?_; intro v) | refine goD ?_ | refine goXD ?_ | (refine goDG ?_; intro g) | (refine goDV ?_; intro v) | refine d44 ?_ | fail)
  first | refine WL.callK (Rta.neg_c (.agg #[.bool n2, d3, .bool false, d4]) b) ?_ | refine WD.callK (Rta.neg_c (.agg #[.bool n2, d3, .bool false, d4]) b) ?_ | refine LO.callM (Rta.neg_c (.agg #[.bool n2, d3, .bool false, d4]) b) ?_
  rintro _ _ _ ⟨n3, d5, d6, rfl, hb3, rfl, rfl⟩
  simp only [List.nil_append, List.cons_append]
  repeat' (first | refine go ?_ | refine goX ?_ | refine goB ?_ | (refine goG ?_; intro g) | (refine goV ?_; intro v) | refine goD ?_ | refine goXD ?_ | (refine goDG ?_; intro g) | (refine goDV ?_; intro v) | refine d44 ?_ | fail)
  first | refine WL.callK (Rta.add_c (.agg #[.bool n1, d1, .bool false, d2]) (.agg #[.bool n3, d5, .bool false, d6]) a (-b) h1 h2.neg) ?_ | refine WD.callK (Rta.add_c (.agg #[.bool n1, d1, .bool false, d2]) (.agg #[.bool n3, d5, .bool false, d6]) a (-b) h1 h2.neg) ?_ | refine LO.callM (Rta.add_c (.agg #[.bool n1, d1, .bool false, d2]) (.agg #[.bool n3, d5, .bool false, d6]) a (-b) h1 h2.neg) ?_
  rintro _ _ _ ⟨n4, d7, d8, rfl, hb4, rfl, rfl⟩
  simp only [List.nil_append, List.cons_append]
  rw [← Rat.sub_eq_add_neg] at hb4 ⊢
  repeat' (first | refine go ?_ | refine goX ?_ | refine goB ?_ | (refine goG ?_; intro g) | (refine goV ?_; intro v) | refine goD ?_ | refine goXD ?_ | (refine goDG ?_; intro g) | (refine goDV ?_; intro v) | refine d44 ?_ | fail)
  refine WC.ret ?_
  exact Fin.p [] [isQ (.agg #[.bool n4, d7, .bool false, d8]) (a - b)] (ResE.cV rfl rfl meA T.r37 rfl) meA (List.nil_sublist _) haA ⟨n4, _, _, rfl, hb4, rfl, rfl⟩
set_option maxHeartbeats 4000000 in
set_option maxRecDepth 8000 in
theorem qcompare_c (v1 v2 : Value) (a b : Rat) (h1 : Sm a) (h2 : Sm b) : FnB Tryz.prog 37 [v1, v2] [] [isQ v1 a, isQ v2 b] (IsV (.int .i64 (cmpQ a b))) := by
  refine fn_of [(0, v1), (1, v2)] 34 Tryz.func37 rfl Tryz.ntmps37 (by kernel_rfl) rfl suA fun h0 => ?_
  refine WC.openQ (v := v1) (q := a) hmA fun n1 d1 d2 hv hb1 => ?_
  subst hv
  refine WC.openQ (v := v2) (q := b) hmA fun n2 d3 d4 hv hb2 => ?_
  subst hv
  obtain ⟨s1, s2⟩ := h1
  obtain ⟨s3, s4⟩ := h2
  repeat' (first | refine go ?_ | refine goX ?_ | refine goB ?_ | (refine goG ?_; intro g) | (refine goV ?_; intro v) | refine goD ?_ | refine goXD ?_ | (refine goDG ?_; intro g) | (refine goDV ?_; intro v) | refine d37 ?_ | fail)
  first | refine WL.callV (sign_c (.agg #[.bool n1, d1, .bool false, d2]) a) ?_ | refine WD.callV (sign_c (.agg #[.bool n1, d1, .bool false, d2]) a) ?_
  repeat' (first | refine go ?_ | refine goX ?_ | refine goB ?_ | (refine goG ?_; intro g) | (refine goV ?_; intro v) | refine goD ?_ | refine goXD ?_ | (refine goDG ?_; intro g) | (refine goDV ?_; intro v) | refine d37 ?_ | fail)
  first | refine WL.callV (sign_c (.agg #[.bool n2, d3, .bool false, d4]) b) ?_ | refine WD.callV (sign_c (.agg #[.bool n2, d3, .bool false, d4]) b) ?_
  have b1 := sgn_bd a.num
  have b2 := sgn_bd b.num
  have hc := @cmp_sgn a b
  by_cases c : sgn a.num ≠ sgn b.num ∨ sgn a.num = 0
  · have hc := hc c
    have hsp : sgn a.num ≠ sgn b.num ∨ (sgn a.num = sgn b.num ∧ sgn a.num = 0) := by omega
    rcases hsp with c1 | ⟨c1, c2⟩
    all_goals
      repeat' (first | refine go ?_ | refine goX ?_ | refine goB ?_ | (refine goG ?_; intro g) | (refine goV ?_; intro v) | refine goD ?_ | refine goXD ?_ | (refine goDG ?_; intro g) | (refine goDV ?_; intro v) | refine d37 ?_ | fail)
      first | refine WL.callK (iof_c (sgn a.num) (by omega) (by omega)) ?_ | refine WD.callK (iof_c (sgn a.num) (by omega) (by omega)) ?_ | refine LO.callM (iof_c (sgn a.num) (by omega) (by omega)) ?_
      rintro _ _ _ ⟨n5, d5, rfl, hb5, rfl, rfl⟩
      simp only [List.nil_append, List.cons_append]
      repeat' (first | refine go ?_ | refine goX ?_ | refine goB ?_ | (refine goG ?_; intro g) | (refine goV ?_; intro v) | refine goD ?_ | refine goXD ?_ | (refine goDG ?_; intro g) | (refine goDV ?_; intro v) | refine d37 ?_ | fail)
      first | refine WL.callK (iof_c (sgn b.num) (by omega) (by omega)) ?_ | refine WD.callK (iof_c (sgn b.num) (by omega) (by omega)) ?_ | refine LO.callM (iof_c (sgn b.num) (by omega) (by omega)) ?_
      rintro _ _ _ ⟨n6, d6, rfl, hb6, rfl, rfl⟩
      simp only [List.nil_append, List.cons_append]
      repeat' (first | refine go ?_ | refine goX ?_ | refine goB ?_ | (refine goG ?_; intro g) | (refine goV ?_; intro v) | refine goD ?_ | refine goXD ?_ | (refine goDG ?_; intro g) | (refine goDV ?_; intro v) | refine d37 ?_ | fail)
      first | refine WL.callV (icompare_c (.agg #[.bool n5, d5]) (.agg #[.bool n6, d6]) (sgn a.num) (sgn b.num)) ?_ | refine WD.callV (icompare_c (.agg #[.bool n5, d5]) (.agg #[.bool n6, d6]) (sgn a.num) (sgn b.num)) ?_
      rw [hc]
      repeat' (first | refine go ?_ | refine goX ?_ | refine goB ?_ | (refine goG ?_; intro g) | (refine goV ?_; intro v) | refine goD ?_ | refine goXD ?_ | (refine goDG ?_; intro g) | (refine goDV ?_; intro v) | refine d37 ?_ | fail)
      refine WC.ret ?_
      exact Fin.v (ResE.t1 rfl rfl) meA rfl
  · have c1 : sgn a.num = sgn b.num := by omega
    have c2 : sgn a.num ≠ 0 := by omega
    refine WD.fact (isZ (.agg #[.bool n1, d1]) a.num) (hasQ_P hmA) ?_
    refine WD.fact (isZ (.agg #[.bool n2, d3]) b.num) (hasQ_P hmA) ?_
    have q1 := Sm.mul s1 s4
    have q2 := Sm.mul s3 s2
    have k1 : (a.num * (b.den : Int)).natAbs < B2 := by rw [abs_mulc]; exact Nat.lt_of_le_of_lt q1 (by decide)
    have k2 : (b.num * (a.den : Int)).natAbs < B2 := by rw [abs_mulc]; exact Nat.lt_of_le_of_lt q2 (by decide)
    repeat' (first | refine go ?_ | refine goX ?_ | refine goB ?_ | (refine goG ?_; intro g) | (refine goV ?_; intro v) | refine goD ?_ | refine goXD ?_ | (refine goDG ?_; intro g) | (refine goDV ?_; intro v) | refine d37 ?_ | fail)
    first | refine WL.callK (den_c (.agg #[.bool n2, d3, .bool false, d4]) b) ?_ | refine WD.callK (den_c (.agg #[.bool n2, d3, .bool false, d4]) b) ?_ | refine LO.callM (den_c (.agg #[.bool n2, d3, .bool false, d4]) b) ?_
    rintro _ _ _ ⟨n5, d5, rfl, hb5, rfl, rfl⟩
    simp only [List.nil_append, List.cons_append]
    repeat' (first | refine go ?_ | refine goX ?_ | refine goB ?_ | (refine goG ?_; intro g) | (refine goV ?_; intro v) | refine goD ?_ | refine goXD ?_ | (refine goDG ?_; intro g) | (refine goDV ?_; intro v) | refine d37 ?_ | fail)
    first | refine WL.callK (Mlt.mul_c (.agg #[.bool n1, d1]) (.agg #[.bool n5, d5]) a.num (b.den : Int) (abs_len (Nat.lt_of_le_of_lt s1 (by decide))) (abs_len (Nat.lt_of_le_of_lt s4 (by decide)))) ?_ | refine WD.callK (Mlt.mul_c (.agg #[.bool n1, d1]) (.agg #[.bool n5, d5]) a.num (b.den : Int) (abs_len (Nat.lt_of_le_of_lt s1 (by decide))) (abs_len (Nat.lt_of_le_of_lt s4 (by decide)))) ?_ | refine LO.callM (Mlt.mul_c (.agg #[.bool n1, d1]) (.agg #[.bool n5, d5]) a.num (b.den : Int) (abs_len (Nat.lt_of_le_of_lt s1 (by decide))) (abs_len (Nat.lt_of_le_of_lt s4 (by decide)))) ?_
    rintro _ _ _ ⟨n6, d6, rfl, hb6, rfl, rfl⟩
    simp only [List.nil_append, List.cons_append]
    repeat' (first | refine go ?_ | refine goX ?_ | refine goB ?_ | (refine goG ?_; intro g) | (refine goV ?_; intro v) | refine goD ?_ | refine goXD ?_ | (refine goDG ?_; intro g) | (refine goDV ?_; intro v) | refine d37 ?_ | fail)
    first | refine WL.callK (den_c (.agg #[.bool n1, d1, .bool false, d2]) a) ?_ | refine WD.callK (den_c (.agg #[.bool n1, d1, .bool false, d2]) a) ?_ | refine LO.callM (den_c (.agg #[.bool n1, d1, .bool false, d2]) a) ?_
    rintro _ _ _ ⟨n7, d7, rfl, hb7, rfl, rfl⟩
    simp only [List.nil_append, List.cons_append]
    repeat' (first | refine go ?_ | refine goX ?_ | refine goB ?_ | (refine goG ?_; intro g) | (refine goV ?_; intro v) | refine goD ?_ | refine goXD ?_ | (refine goDG ?_; intro g) | (refine goDV ?_; intro v) | refine d37 ?_ | fail)
    first | refine WL.callK (Mlt.mul_c (.agg #[.bool n2, d3]) (.agg #[.bool n7, d7]) b.num (a.den : Int) (abs_len (Nat.lt_of_le_of_lt s3 (by decide))) (abs_len (Nat.lt_of_le_of_lt s2 (by decide)))) ?_ | refine WD.callK (Mlt.mul_c (.agg #[.bool n2, d3]) (.agg #[.bool n7, d7]) b.num (a.den : Int) (abs_len (Nat.lt_of_le_of_lt s3 (by decide))) (abs_len (Nat.lt_of_le_of_lt s2 (by decide)))) ?_ | refine LO.callM (Mlt.mul_c (.agg #[.bool n2, d3]) (.agg #[.bool n7, d7]) b.num (a.den : Int) (abs_len (Nat.lt_of_le_of_lt s3 (by decide))) (abs_len (Nat.lt_of_le_of_lt s2 (by decide)))) ?_
    rintro _ _ _ ⟨n8, d8, rfl, hb8, rfl, rfl⟩
    simp only [List.nil_append, List.cons_append]
    repeat' (first | refine go ?_ | refine goX ?_ | refine goB ?_ | (refine goG ?_; intro g) | (refine goV ?_; intro v) | refine goD ?_ | refine goXD ?_ | (refine goDG ?_; intro g) | (refine goDV ?_; intro v) | refine d37 ?_ | fail)
    first | refine WL.callV (icompare_c (.agg #[.bool n6, d6]) (.agg #[.bool n8, d8]) (a.num * (b.den : Int)) (b.num * (a.den : Int))) ?_ | refine WD.callV (icompare_c (.agg #[.bool n6, d6]) (.agg #[.bool n8, d8]) (a.num * (b.den : Int)) (b.num * (a.den : Int))) ?_
    rw [show cmpI (a.num * (b.den : Int)) (b.num * (a.den : Int)) = cmpQ a b from rfl]
    repeat' (first | refine go ?_ | refine goX ?_ | refine goB ?_ | (refine goG ?_; intro g) | (refine goV ?_; intro v) | refine goD ?_ | refine goXD ?_ | (refine goDG ?_; intro g) | (refine goDV ?_; intro v) | refine d37 ?_ | fail)
    refine WC.ret ?_
    exact Fin.v (ResE.t1 rfl rfl) meA rfl
set_option maxHeartbeats 4000000 in
set_option maxRecDepth 8000 in
theorem equal_c (u w : Value) (l m : List Int) : FnB Tryz.prog 68 [u, w] [] [sI u l, sI w m] (IsV (.bool (decide (l = m)))) := by
  refine fn_of [(0, u), (1, w)] 26 Tryz.func68 rfl Tryz.ntmps68 (by kernel_rfl) rfl suA fun h0 => ?_
  refine WC.lenI u l hmA fun hlen => ?_
  by_cases c : l.length = m.length
  · repeat' (first | refine go ?_ | refine goX ?_ | refine goB ?_ | (refine goG ?_; intro g) | (refine goV ?_; intro v) | refine goD ?_ | refine goXD ?_ | (refine goDG ?_; intro g) | (refine goDV ?_; intro v) | refine d68 ?_ | fail)
    refine WC.lp (σ := Nat) (fun k => [(13, .int .i64 (k : Int)), (12, .int .i64 (l.length : Int)), (0, u), (1, w)]) (fun _ => []) (fun _ => [ge h0, sI u l, sI w m]) (fun k => k ≤ l.length ∧ ∀ j, j < k → l.getD j 0 = m.getD j 0) (fun k => l.length - k) 0 ⟨by simp, fun j hj => by omega⟩ ?_
    rintro k ⟨hk, hs⟩
    by_cases h : k < l.length
    · by_cases c1 : l.getD k 0 = m.getD k 0
      · repeat' (first | refine go ?_ | refine goX ?_ | refine goB ?_ | (refine goG ?_; intro g) | (refine goV ?_; intro v) | refine goD ?_ | refine goXD ?_ | (refine goDG ?_; intro g) | (refine goDV ?_; intro v) | refine d68 ?_ | fail)
        exact LoopEnd.mk (k + 1) ⟨by omega, fun j hj => if hjk : j = k then hjk ▸ c1 else hs j (by omega)⟩ (by omega)
      · repeat' (first | refine go ?_ | refine goX ?_ | refine goB ?_ | (refine goG ?_; intro g) | (refine goV ?_; intro v) | refine goD ?_ | refine goXD ?_ | (refine goDG ?_; intro g) | (refine goDV ?_; intro v) | refine d68 ?_ | fail)
        refine WC.ret ?_
        exact Fin.v (ResE.t1 rfl rfl) meA (by rw [decide_eq_false (fun he => c1 (by rw [he]))])
    · repeat' (first | refine go ?_ | refine goX ?_ | refine goB ?_ | (refine goG ?_; intro g) | (refine goV ?_; intro v) | refine goD ?_ | refine goXD ?_ | (refine goDG ?_; intro g) | (refine goDV ?_; intro v) | refine d68 ?_ | fail)
      refine WC.ret ?_
      exact Fin.v (ResE.t1 rfl rfl) meA (by rw [decide_eq_true (val_eq_all c (fun j hj => hs j (by omega)))])
  · repeat' (first | refine go ?_ | refine goX ?_ | refine goB ?_ | (refine goG ?_; intro g) | (refine goV ?_; intro v) | refine goD ?_ | refine goXD ?_ | (refine goDG ?_; intro g) | (refine goDV ?_; intro v) | refine d68 ?_ | fail)
    refine WC.ret ?_
    exact Fin.v (ResE.t1 rfl rfl) meA (by rw [decide_eq_false (fun he => c (by rw [he]))])
theorem digs_eq {x y : Int} {a b : Bool} (ha : a = decide (x < 0)) (hb : b = decide (y < 0)) : (a = b ∧ digs x.natAbs = digs y.natAbs) ↔ x = y := by
  constructor
  · rintro ⟨h1, h2⟩
    have h3 := digs_inj h2
    rw [ha, hb, decide_eq_decide] at h1
    omega
  · rintro rfl; exact ⟨by rw [ha, hb], rfl⟩
set_option maxHeartbeats 4000000 in
set_option maxRecDepth 8000 in
theorem same1_c (v1 v2 : Value) (x y : Int) : FnB Tryz.prog 67 [v1, v2] [] [isZ v1 x, isZ v2 y] (IsV (.bool (decide (x = y)))) := by
  refine fn_of [(0, v1), (1, v2)] 17 Tryz.func67 rfl Tryz.ntmps67 (by kernel_rfl) rfl suA fun h0 => ?_
  refine WC.openZ (v := v1) (z := x) hmA fun n1 d1 hv hb1 => ?_
  subst hv
  refine WC.openZ (v := v2) (z := y) hmA fun n2 d2 hv hb2 => ?_
  subst hv
  refine WC.fact (sI d1 (digs x.natAbs)) (hasZ_d hmA) ?_
  refine WC.fact (sI d2 (digs y.natAbs)) (hasZ_d hmA) ?_
  have hd := digs_eq hb1 hb2
  have key : n1 = n2 → decide (digs x.natAbs = digs y.natAbs) = decide (x = y) := fun h => by rw [decide_eq_decide]; exact ⟨fun h2 => hd.1 ⟨h, h2⟩, fun h2 => (hd.2 h2).2⟩
  have key2 : n1 ≠ n2 → decide (x = y) = false := fun h => decide_eq_false fun h2 => h (hd.2 h2).1
  cases n1 <;> cases n2
  all_goals
    first
      | have k2 := key2 (by decide)
        repeat' (first | refine go ?_ | refine goX ?_ | refine goB ?_ | (refine goG ?_; intro g) | (refine goV ?_; intro v))
        refine WC.ret ?_
        exact Fin.v (ResE.t1 rfl rfl) meA (by rw [k2])
      | have k1 := key rfl
        repeat' (first | refine go ?_ | refine goX ?_ | refine goB ?_ | (refine goG ?_; intro g) | (refine goV ?_; intro v))
        first | refine WL.callV (equal_c d1 d2 (digs x.natAbs) (digs y.natAbs)) ?_ | refine WD.callV (equal_c d1 d2 (digs x.natAbs) (digs y.natAbs)) ?_
        rw [k1]
        repeat' (first | refine go ?_ | refine goX ?_ | refine goB ?_ | (refine goG ?_; intro g) | (refine goV ?_; intro v))
        refine WC.ret ?_
        exact Fin.v (ResE.t1 rfl rfl) meA rfl
set_option maxHeartbeats 4000000 in
set_option maxRecDepth 8000 in
theorem same_c (v1 v2 : Value) (a b : Rat) : FnB Tryz.prog 20 [v1, v2] [] [isQ v1 a, isQ v2 b] (IsV (.bool (decide (a = b)))) := by
  refine fn_of [(0, v1), (1, v2)] 20 Tryz.func20 rfl Tryz.ntmps20 (by kernel_rfl) rfl suA fun h0 => ?_
  refine WC.openQ (v := v1) (q := a) hmA fun n1 d1 d2 hv hb1 => ?_
  subst hv
  refine WC.openQ (v := v2) (q := b) hmA fun n2 d3 d4 hv hb2 => ?_
  subst hv
  repeat' (first | refine go ?_ | refine goX ?_ | refine goB ?_ | (refine goG ?_; intro g) | (refine goV ?_; intro v))
  first | refine WL.callV (same1_c (.agg #[.bool n1, d1]) (.agg #[.bool n2, d3]) a.num b.num) ?_ | refine WD.callV (same1_c (.agg #[.bool n1, d1]) (.agg #[.bool n2, d3]) a.num b.num) ?_
  by_cases c : a.num = b.num
  · rw [decide_eq_true c]
    repeat' (first | refine go ?_ | refine goX ?_ | refine goB ?_ | (refine goG ?_; intro g) | (refine goV ?_; intro v))
    first | refine WL.callV (same1_c (.agg #[.bool false, d2]) (.agg #[.bool false, d4]) (qz a) (qz b)) ?_ | refine WD.callV (same1_c (.agg #[.bool false, d2]) (.agg #[.bool false, d4]) (qz a) (qz b)) ?_
    rw [show decide (qz a = qz b) = decide (a = b) by rw [decide_eq_decide]; exact ⟨fun h => qz_inj c h, fun h => by rw [h]⟩]
    repeat' (first | refine go ?_ | refine goX ?_ | refine goB ?_ | (refine goG ?_; intro g) | (refine goV ?_; intro v))
    refine WC.ret ?_
    exact Fin.v (ResE.t1 rfl rfl) meA rfl
  · rw [decide_eq_false c]
    repeat' (first | refine go ?_ | refine goX ?_ | refine goB ?_ | (refine goG ?_; intro g) | (refine goV ?_; intro v))
    refine WC.ret ?_
    exact Fin.v (ResE.t1 rfl rfl) meA (by rw [decide_eq_false (fun h => c (by rw [h]))])
end Rtc
end Go.Proofs.YthggloiigkbfeaaGreat
namespace Go.Proofs.YthggloiigkbfeaaGreat
open W Go.RowKit
namespace Rp
open Dvz Dvv Adc Rm Rn Ro Rtm Rtc
attribute [local irreducible] WC WL WD YO LO LoopEnd W.Fin Scalar SliceT FieldAt Row ArrT AllocT KnS Has W.One SrcE IntT
set_option maxHeartbeats 4000000 in
set_option maxRecDepth 8000 in
theorem runit_c (v : Value) (z : Int) : FnB Tryz.prog 112 [v] [] [isZ v z] (IsV (.bool (decide (z = 1)))) := by
  refine fn_of [(0, v)] 16 Tryz.func112 rfl Tryz.ntmps112 (by kernel_rfl) rfl suA fun h0 => ?_
  refine WC.openZ (v := v) (z := z) hmA fun n1 d1 hv hb1 => ?_
  subst hv
  refine WC.fact (sI d1 (digs z.natAbs)) (hasZ_d hmA) ?_
  have hl1 := @len_one z.natAbs
  generalize hD : digs z.natAbs = D at *
  cases n1 with
  | true =>
    have hz : z < 0 := of_decide_eq_true hb1.symm
    repeat' (first | refine go ?_ | refine goX ?_ | refine goB ?_ | (refine goG ?_; intro g) | (refine goV ?_; intro v))
    refine WC.ret ?_
    exact Fin.v (ResE.t1 rfl rfl) meA (by rw [decide_eq_false (by omega)])
  | false =>
    have hz : ¬ z < 0 := of_decide_eq_false hb1.symm
    by_cases c : D.length = 1
    · by_cases c2 : D.getD 0 0 = 1
      · have h3 := hl1.1 ⟨c, c2⟩
        have c3 : D.getD (0 : Int).toNat 0 = 1 := c2
        repeat' (first | refine go ?_ | refine goX ?_ | refine goB ?_ | (refine goG ?_; intro g) | (refine goV ?_; intro v))
        refine WC.ret ?_
        exact Fin.v (ResE.t1 rfl rfl) meA (by rw [decide_eq_true (by omega)])
      · have h3 : z ≠ 1 := fun h => c2 (hl1.2 (by omega)).2
        have c3 : D.getD (0 : Int).toNat 0 ≠ 1 := c2
        repeat' (first | refine go ?_ | refine goX ?_ | refine goB ?_ | (refine goG ?_; intro g) | (refine goV ?_; intro v))
        refine WC.ret ?_
        exact Fin.v (ResE.t1 rfl rfl) meA (by rw [decide_eq_false h3])
    · have h3 : z ≠ 1 := fun h => c (hl1.2 (by omega)).1
      repeat' (first | refine go ?_ | refine goX ?_ | refine goB ?_ | (refine goG ?_; intro g) | (refine goV ?_; intro v))
      refine WC.ret ?_
      exact Fin.v (ResE.t1 rfl rfl) meA (by rw [decide_eq_false h3])
set_option maxHeartbeats 8000000 in
set_option maxRecDepth 8000 in
theorem rmake_c (v1 v2 : Value) (p q : Int) (h1 : p.natAbs < B2) (h2 : q.natAbs < B2) : FnB Tryz.prog 58 [v1, v2] [] [isZ v1 p, isZ v2 q] (IsQ (Rat.divInt p q)) := by
  refine fn_of [(0, v1), (1, v2)] 49 Tryz.func58 rfl Tryz.ntmps58 (by kernel_rfl) rfl suA fun h0 => ?_
  refine WC.openZ (v := v1) (z := p) hmA fun n1 d1 hv hb1 => ?_
  subst hv
  refine WC.openZ (v := v2) (z := q) hmA fun n2 d2 hv hb2 => ?_
  subst hv
  have lp := @digs_len0 p.natAbs
  have lq := @digs_len0 q.natAbs
  by_cases c0 : q = 0
  · have hl := lq.2 (by omega)
    repeat' (first | refine go ?_ | refine goX ?_ | refine goB ?_ | (refine goG ?_; intro g) | (refine goV ?_; intro v))
    rw [c0, Rat.divInt_zero]
    refine WC.ret ?_
    exact Fin.p [] [isQ (.agg #[.bool false, .slice none 0 0, .bool false, .slice none 0 0]) 0] (ResE.cV rfl rfl meA T.r37 rfl) meA (List.nil_sublist _) (.cons hasQ_0 .nil) ⟨false, _, _, rfl, rfl, rfl, rfl⟩
  have hlq := len_pos (n := q.natAbs) (by omega)
  by_cases c1 : p = 0
  · have hl := lp.2 (by omega)
    repeat' (first | refine go ?_ | refine goX ?_ | refine goB ?_ | (refine goG ?_; intro g) | (refine goV ?_; intro v))
    rw [c1, Rat.zero_divInt]
    refine WC.ret ?_
    exact Fin.p [] [isQ (.agg #[.bool false, .slice none 0 0, .bool false, .slice none 0 0]) 0] (ResE.cV rfl rfl meA T.r37 rfl) meA (List.nil_sublist _) (.cons hasQ_0 .nil) ⟨false, _, _, rfl, rfl, rfl, rfl⟩
  have hlp := len_pos (n := p.natAbs) (by omega)
  obtain ⟨hn, hd⟩ := num_make (p := p) (q := q) c0 c1
  have hg : 0 < Int.gcd p q := Int.gcd_pos_of_ne_zero_right _ c0
  have hg2 : Int.gcd p q < B2 := by
    have : Int.gcd p q ≤ q.natAbs := Nat.le_of_dvd (by omega) (Nat.gcd_dvd_right ..)
    omega
  generalize hr : Rat.divInt p q = r at *
  have hqne : q / (Int.gcd p q : Int) ≠ 0 := fun h => by
    have := Int.ediv_mul_cancel (Int.gcd_dvd_right (a := p) (b := q))
    rw [h] at this; omega
  have fin : ∀ (F : List Fct) (nb : Bool) (e1 e2 : Value), r.den ≠ 1 → Has F (isZ (.agg #[.bool nb, e1]) r.num) → Has F (isZ (.agg #[.bool false, e2]) (r.den : Int)) → nb = decide (r.num < 0) → Has F (isQ (.agg #[.bool nb, e1, .bool false, e2]) r) := fun F nb e1 e2 h1 h2 h3 hb => hasQ_of hb (hasZ_d h2) (by
    have : qz r = (r.den : Int) := by unfold qz; rw [if_neg h1]
    rw [this]; exact hasZ_d h3)
  have fin1 : ∀ (F : List Fct) (nb : Bool) (e1 : Value), r.den = 1 → Has F (isZ (.agg #[.bool nb, e1]) r.num) → nb = decide (r.num < 0) → Has F (isQ (.agg #[.bool nb, e1, .bool false, .slice none 0 0]) r) := fun F nb e1 h1 h2 hb => hasQ_of hb (hasZ_d h2) (by
    have : qz r = 0 := by unfold qz; rw [if_pos h1]
    rw [this]; simpa [digs_0] using nil0)
  repeat' (first | refine go ?_ | refine goX ?_ | refine goB ?_ | (refine goG ?_; intro g) | (refine goV ?_; intro v))
  first | refine WL.callK (rgcd_c (.agg #[.bool n1, d1]) (.agg #[.bool n2, d2]) p q h1 h2) ?_ | refine WD.callK (rgcd_c (.agg #[.bool n1, d1]) (.agg #[.bool n2, d2]) p q h1 h2) ?_ | refine LO.callM (rgcd_c (.agg #[.bool n1, d1]) (.agg #[.bool n2, d2]) p q h1 h2) ?_
  rintro _ _ _ ⟨n3, d3, rfl, hb3, rfl, rfl⟩
  simp only [List.nil_append, List.cons_append]
  repeat' (first | refine go ?_ | refine goX ?_ | refine goB ?_ | (refine goG ?_; intro g) | (refine goV ?_; intro v))
  revert g; intro g5
  first | refine WL.callK (rdiv_c (.agg #[.bool n1, d1]) (.agg #[.bool n3, d3]) p ((Int.gcd p q : Nat) : Int) h1 hg2 (by omega)) ?_ | refine WD.callK (rdiv_c (.agg #[.bool n1, d1]) (.agg #[.bool n3, d3]) p ((Int.gcd p q : Nat) : Int) h1 hg2 (by omega)) ?_ | refine LO.callM (rdiv_c (.agg #[.bool n1, d1]) (.agg #[.bool n3, d3]) p ((Int.gcd p q : Nat) : Int) h1 hg2 (by omega)) ?_
  rintro _ _ _ ⟨n4, d4, n5, d5, rfl, hb4, hb5, rfl, rfl⟩
  simp only [List.nil_append, List.cons_append]
  repeat' (first | refine go ?_ | refine goX ?_ | refine goB ?_ | (refine goG ?_; intro g) | (refine goV ?_; intro v))
  revert g; intro g7
  first | refine WL.callK (rdiv_c (.agg #[.bool n2, d2]) (.agg #[.bool n3, d3]) q ((Int.gcd p q : Nat) : Int) h2 hg2 (by omega)) ?_ | refine WD.callK (rdiv_c (.agg #[.bool n2, d2]) (.agg #[.bool n3, d3]) q ((Int.gcd p q : Nat) : Int) h2 hg2 (by omega)) ?_ | refine LO.callM (rdiv_c (.agg #[.bool n2, d2]) (.agg #[.bool n3, d3]) q ((Int.gcd p q : Nat) : Int) h2 hg2 (by omega)) ?_
  rintro _ _ _ ⟨n6, d6, n7, d7, rfl, hb6, hb7, rfl, rfl⟩
  simp only [List.nil_append, List.cons_append]
  generalize p / ((Int.gcd p q : Nat) : Int) = P at *
  generalize q / ((Int.gcd p q : Nat) : Int) = Q at *
  cases n6 with
  | true =>
    have hq2 : Q < 0 := of_decide_eq_true hb6.symm
    rw [if_pos hq2] at hn
    repeat' (first | refine go ?_ | refine goX ?_ | refine goB ?_ | (refine goG ?_; intro g) | (refine goV ?_; intro v))
    first | refine WL.callK (rneg_c (.agg #[.bool n4, d4]) P) ?_ | refine WD.callK (rneg_c (.agg #[.bool n4, d4]) P) ?_ | refine LO.callM (rneg_c (.agg #[.bool n4, d4]) P) ?_
    rintro _ _ _ ⟨n8, d8, rfl, hb8, rfl, rfl⟩
    simp only [List.nil_append, List.cons_append]
    repeat' (first | refine go ?_ | refine goX ?_ | refine goB ?_ | (refine goG ?_; intro g) | (refine goV ?_; intro v))
    first | refine WL.callK (rneg_c (.agg #[.bool true, d6]) Q) ?_ | refine WD.callK (rneg_c (.agg #[.bool true, d6]) Q) ?_ | refine LO.callM (rneg_c (.agg #[.bool true, d6]) Q) ?_
    rintro _ _ _ ⟨n9, d9, rfl, hb9, rfl, rfl⟩
    simp only [List.nil_append, List.cons_append]
    obtain rfl : false = n9 := by rw [hb9, eq_comm, decide_eq_false_iff_not]; omega
    rw [← hn] at hb8 ⊢
    rw [show -Q = (r.den : Int) by omega]
    repeat' (first | refine go ?_ | refine goX ?_ | refine goB ?_ | (refine goG ?_; intro g) | (refine goV ?_; intro v))
    first | refine WL.callV (runit_c (.agg #[.bool false, d9]) (r.den : Int)) ?_ | refine WD.callV (runit_c (.agg #[.bool false, d9]) (r.den : Int)) ?_
    by_cases c : r.den = 1
    · rw [decide_eq_true (by omega)]
      repeat' (first | refine go ?_ | refine goX ?_ | refine goB ?_ | (refine goG ?_; intro g) | (refine goV ?_; intro v))
      refine WC.fact (isQ (.agg #[.bool n8, d8, .bool false, .slice none 0 0]) r) (fin1 _ _ _ c hmA hb8) ?_
      refine WC.ret ?_
      exact Fin.p [] [isQ (.agg #[.bool n8, d8, .bool false, .slice none 0 0]) r] (ResE.cV rfl rfl meA T.r37 rfl) meA (List.nil_sublist _) haA ⟨n8, _, _, rfl, hb8, rfl, rfl⟩
    · rw [decide_eq_false (by omega)]
      repeat' (first | refine go ?_ | refine goX ?_ | refine goB ?_ | (refine goG ?_; intro g) | (refine goV ?_; intro v))
      refine WC.fact (isQ (.agg #[.bool n8, d8, .bool false, d9]) r) (fin _ _ _ _ c hmA hmA hb8) ?_
      refine WC.ret ?_
      exact Fin.p [] [isQ (.agg #[.bool n8, d8, .bool false, d9]) r] (ResE.cV rfl rfl meA T.r37 rfl) meA (List.nil_sublist _) haA ⟨n8, _, _, rfl, hb8, rfl, rfl⟩
  | false =>
    have hq2 : ¬ Q < 0 := of_decide_eq_false hb6.symm
    rw [if_neg hq2] at hn
    rw [← hn] at hb4 ⊢
    rw [show Q = (r.den : Int) by omega]
    repeat' (first | refine go ?_ | refine goX ?_ | refine goB ?_ | (refine goG ?_; intro g) | (refine goV ?_; intro v))
    first | refine WL.callV (runit_c (.agg #[.bool false, d6]) (r.den : Int)) ?_ | refine WD.callV (runit_c (.agg #[.bool false, d6]) (r.den : Int)) ?_
    by_cases c : r.den = 1
    · rw [decide_eq_true (by omega)]
      repeat' (first | refine go ?_ | refine goX ?_ | refine goB ?_ | (refine goG ?_; intro g) | (refine goV ?_; intro v))
      refine WC.fact (isQ (.agg #[.bool n4, d4, .bool false, .slice none 0 0]) r) (fin1 _ _ _ c hmA hb4) ?_
      refine WC.ret ?_
      exact Fin.p [] [isQ (.agg #[.bool n4, d4, .bool false, .slice none 0 0]) r] (ResE.cV rfl rfl meA T.r37 rfl) meA (List.nil_sublist _) haA ⟨n4, _, _, rfl, hb4, rfl, rfl⟩
    · rw [decide_eq_false (by omega)]
      repeat' (first | refine go ?_ | refine goX ?_ | refine goB ?_ | (refine goG ?_; intro g) | (refine goV ?_; intro v))
      refine WC.fact (isQ (.agg #[.bool n4, d4, .bool false, d6]) r) (fin _ _ _ _ c hmA hmA hb4) ?_
      refine WC.ret ?_
      exact Fin.p [] [isQ (.agg #[.bool n4, d4, .bool false, d6]) r] (ResE.cV rfl rfl meA T.r37 rfl) meA (List.nil_sublist _) haA ⟨n4, _, _, rfl, hb4, rfl, rfl⟩
set_option maxHeartbeats 4000000 in
set_option maxRecDepth 8000 in
theorem rqof_c (p q : Int) (h1 : p.natAbs < B2) (h2 : q.natAbs < B2) : FnB Tryz.prog 18 [.int .i64 p, .int .i64 q] [] [] (IsQ (Rat.divInt p q)) := by
  refine fn_of [(0, (.int .i64 p)), (1, (.int .i64 q))] 10 Tryz.func18 rfl Tryz.ntmps18 (by kernel_rfl) rfl suA fun h0 => ?_
  have h1' : p.natAbs < 1000000000000000000 := h1
  have h2' : q.natAbs < 1000000000000000000 := h2
  repeat' (first | refine go ?_ | refine goX ?_ | refine goB ?_ | (refine goG ?_; intro g) | (refine goV ?_; intro v))
  first | refine WL.callK (rof_c p (by omega) (by omega)) ?_ | refine WD.callK (rof_c p (by omega) (by omega)) ?_ | refine LO.callM (rof_c p (by omega) (by omega)) ?_
  rintro _ _ _ ⟨n1, d1, rfl, hb1, rfl, rfl⟩
  simp only [List.nil_append, List.cons_append]
  repeat' (first | refine go ?_ | refine goX ?_ | refine goB ?_ | (refine goG ?_; intro g) | (refine goV ?_; intro v))
  first | refine WL.callK (rof_c q (by omega) (by omega)) ?_ | refine WD.callK (rof_c q (by omega) (by omega)) ?_ | refine LO.callM (rof_c q (by omega) (by omega)) ?_
  rintro _ _ _ ⟨n2, d2, rfl, hb2, rfl, rfl⟩
  simp only [List.nil_append, List.cons_append]
  repeat' (first | refine go ?_ | refine goX ?_ | refine goB ?_ | (refine goG ?_; intro g) | (refine goV ?_; intro v))
  first | refine WL.callK (rmake_c (.agg #[.bool n1, d1]) (.agg #[.bool n2, d2]) p q h1 h2) ?_ | refine WD.callK (rmake_c (.agg #[.bool n1, d1]) (.agg #[.bool n2, d2]) p q h1 h2) ?_ | refine LO.callM (rmake_c (.agg #[.bool n1, d1]) (.agg #[.bool n2, d2]) p q h1 h2) ?_
  rintro _ _ _ ⟨nb, e1, e2, rfl, hb, rfl, rfl⟩
  simp only [List.nil_append, List.cons_append]
  repeat' (first | refine go ?_ | refine goX ?_ | refine goB ?_ | (refine goG ?_; intro g) | (refine goV ?_; intro v))
  refine WC.ret ?_
  exact Fin.p [] [isQ (.agg #[.bool nb, e1, .bool false, e2]) (Rat.divInt p q)] (ResE.cV rfl rfl meA T.r37 rfl) meA (List.nil_sublist _) haA ⟨nb, _, _, rfl, hb, rfl, rfl⟩
end Rp
end Go.Proofs.YthggloiigkbfeaaGreat
namespace Go.Proofs.YthggloiigkbfeaaGreat
open W Go.RowKit
class Den (D : Nat) : Prop where
  pos : 0 < D
  le : D ≤ 500000000
def wq (D : Nat) (k : Int) : Rat := Rat.divInt k D
def Lim (k : Int) : Prop := k.natAbs ≤ 500000000
section
variable {D : Nat} [hD : Den D]
theorem Den.ne : (D : Int) ≠ 0 := by have := hD.pos; omega
theorem wq_add (a b : Int) : wq D a + wq D b = wq D (a + b) := by
  unfold wq
  rw [Rat.divInt_add_divInt _ _ Den.ne Den.ne, ← Int.add_mul, Rat.divInt_mul_right Den.ne]
theorem wq_sub (a b : Int) : wq D a - wq D b = wq D (a - b) := by
  unfold wq
  rw [Rat.divInt_sub_divInt _ _ Den.ne Den.ne, ← Int.sub_mul, Rat.divInt_mul_right Den.ne]
theorem wq_zero : wq D 0 = 0 := Rat.zero_divInt _
theorem wq_num (a : Int) : (wq D a).num * D = a * (wq D a).den := by
  have h := Rat.num_divInt_den (wq D a)
  have h2 : Rat.divInt (wq D a).num ((wq D a).den : Int) = Rat.divInt a (D : Int) := h
  exact (Rat.divInt_eq_divInt_iff (by have := (wq D a).den_nz; omega) Den.ne).1 h2
theorem wq_cmp (a b : Int) : cmpQ (wq D a) (wq D b) = cmpI a b := by
  have ha := @wq_num D hD a
  have hb := @wq_num D hD b
  have h0 : (0 : Int) < D := by have := hD.pos; omega
  have p1 : (0 : Int) < (wq D a).den := by have := (wq D a).den_nz; omega
  have p2 : (0 : Int) < (wq D b).den := by have := (wq D b).den_nz; omega
  unfold cmpQ
  generalize (wq D a).num = x at *
  generalize (wq D b).num = y at *
  generalize ((wq D a).den : Int) = p at *
  generalize ((wq D b).den : Int) = r at *
  generalize (D : Int) = d at *
  have e1 : (x * r) * d = a * (p * r) := by rw [Int.mul_right_comm, ha, Int.mul_assoc]
  have e2 : (y * p) * d = b * (p * r) := by rw [Int.mul_right_comm, hb, Int.mul_assoc, Int.mul_comm r p]
  have pr : 0 < p * r := Int.mul_pos p1 p2
  have hlt : x * r < y * p ↔ a < b := by
    rw [← Int.mul_lt_mul_right h0, e1, e2, Int.mul_lt_mul_right pr]
  have hgt : y * p < x * r ↔ b < a := by
    rw [← Int.mul_lt_mul_right h0, e1, e2, Int.mul_lt_mul_right pr]
  generalize x * r = u at *
  generalize y * p = v at *
  unfold cmpI
  repeat' split
  all_goals omega
theorem wq_inj {a b : Int} : wq D a = wq D b ↔ a = b := by
  rw [← cmpQ_eq, wq_cmp]; unfold cmpI; split <;> (try split) <;> omega
theorem wq_sgn (a : Int) : sgn (wq D a).num = sgn a := by
  have ha := @wq_num D hD a
  have h0 : (0 : Int) < D := by have := hD.pos; omega
  have p1 : (0 : Int) < (wq D a).den := by have := (wq D a).den_nz; omega
  generalize (wq D a).num = x at *
  generalize ((wq D a).den : Int) = p at *
  generalize (D : Int) = d at *
  have h1 : x < 0 ↔ a < 0 := by
    rw [← Int.mul_lt_mul_right h0, ha, Int.zero_mul]
    constructor
    · intro h; by_cases c : a < 0; exact c; have := Int.mul_nonneg (show 0 ≤ a by omega) (Int.le_of_lt p1); omega
    · intro h; exact Int.mul_neg_of_neg_of_pos h p1
  have h2 : 0 < x ↔ 0 < a := by
    rw [← Int.mul_lt_mul_right h0, ha, Int.zero_mul]
    constructor
    · intro h; by_cases c : 0 < a; exact c; have := Int.mul_nonneg (show 0 ≤ -a by omega) (Int.le_of_lt p1); rw [Int.neg_mul] at this; omega
    · intro h; exact Int.mul_pos h p1
  unfold sgn
  repeat' split
  all_goals omega
theorem wq_Sm {a : Int} (h : Lim a) : Sm (wq D a) := by
  unfold Lim at h
  have hp := hD.pos
  have hl := hD.le
  have e : wq D a = mkRat a D := Rat.divInt_ofNat _ _
  rw [e]
  refine ⟨?_, ?_⟩
  · rw [Rat.num_mkRat, if_neg (by omega)]
    have : (a / ((D.gcd a.natAbs : Nat) : Int)).natAbs ≤ a.natAbs := Int.natAbs_ediv_le_natAbs _ _
    omega
  · rw [Rat.den_mkRat, if_neg (by omega)]
    exact Nat.le_trans (Nat.div_le_self _ _) hl
theorem wq_of {p q : Int} {k : Nat} (h : (D : Int) = q * k) (hq : q ≠ 0) : Rat.divInt p q = wq D (p * k) := by
  have hk : (k : Int) ≠ 0 := fun h0 => by rw [h0, Int.mul_zero] at h; exact (Den.ne (D := D)) h
  unfold wq
  rw [h, Rat.divInt_mul_right hk]
end
structure Bd where
  fr : Int
  to : Int
  w : Int
deriving DecidableEq
def bd0 : Bd := ⟨0, 0, 0⟩
abbrev bg (bs : List Bd) (i : Nat) : Bd := bs.getD i bd0
def Bd.ok (n : Int) (b : Bd) : Prop := (0 ≤ b.fr ∧ b.fr < n) ∧ 0 ≤ b.to ∧ b.to < n
instance (n : Int) (b : Bd) : Decidable (b.ok n) := by unfold Bd.ok; infer_instance
def validB (n : Int) (bs : List Bd) : Bool := decide ((1 ≤ n ∧ n ≤ 32) ∧ bs.length ≤ 2048 ∧ ∀ i, i < bs.length → (bg bs i).ok n)
abbrev QM := Bool × Value × Value
abbrev qcs (m : QM) : List Value := [.bool m.1, m.2.1, .bool false, m.2.2]
abbrev qv (m : QM) : Value := .agg #[.bool m.1, m.2.1, .bool false, m.2.2]
abbrev bcs (b : Bd) (m : QM) : List Value := [.int .i64 b.fr, .int .i64 b.to, .bool m.1, m.2.1, .bool false, m.2.2]
abbrev bv (b : Bd) (m : QM) : Value := .agg #[.int .i64 b.fr, .int .i64 b.to, .bool m.1, m.2.1, .bool false, m.2.2]
abbrev lcs (o : Option Int) (m : QM) : List Value := [.bool o.isSome, .bool m.1, m.2.1, .bool false, m.2.2]
abbrev lv (o : Option Int) (m : QM) : Value := .agg #[.bool o.isSome, .bool m.1, m.2.1, .bool false, m.2.2]
def m00 : QM := (false, .slice none 0 0, .slice none 0 0)
def qcell (ms : Nat → QM) (j : Nat) : Value := (qcs (ms (j / 4))).getD (j % 4) undef
def bcell (bs : List Bd) (ms : Nat → QM) (j : Nat) : Value := (bcs (bg bs (j / 6)) (ms (j / 6))).getD (j % 6) undef
def lcell (L : List (Option Int)) (ms : Nat → QM) (j : Nat) : Value := (lcs (L.getD (j / 5) none) (ms (j / 5))).getD (j % 5) undef
theorem qcell_at (ms : Nat → QM) (k : Nat) {r : Nat} (hr : r < 4) : qcell ms (k * 4 + r) = (qcs (ms k)).getD r undef := by
  unfold qcell; rw [show (k * 4 + r) / 4 = k by omega, show (k * 4 + r) % 4 = r by omega]
theorem bcell_at (bs : List Bd) (ms : Nat → QM) (k : Nat) {r : Nat} (hr : r < 6) : bcell bs ms (k * 6 + r) = (bcs (bg bs k) (ms k)).getD r undef := by
  unfold bcell; rw [show (k * 6 + r) / 6 = k by omega, show (k * 6 + r) % 6 = r by omega]
theorem lcell_at (L : List (Option Int)) (ms : Nat → QM) (k : Nat) {r : Nat} (hr : r < 5) : lcell L ms (k * 5 + r) = (lcs (L.getD k none) (ms k)).getD r undef := by
  unfold lcell; rw [show (k * 5 + r) / 5 = k by omega, show (k * 5 + r) % 5 = r by omega]
def mQ (D : Nat) (ms : Nat → QM) (qs : List Int) : Fct where
  p h := ∀ i, i < qs.length → (isQ (qv (ms i)) (wq D (qs.getD i 0))).p h
  mono _ _ hl hp i hi := (isQ _ _).mono _ _ hl (hp i hi)
def mB (D : Nat) (ms : Nat → QM) (bs : List Bd) : Fct where
  p h := ∀ i, i < bs.length → (isQ (qv (ms i)) (wq D (bg bs i).w)).p h
  mono _ _ hl hp i hi := (isQ _ _).mono _ _ hl (hp i hi)
def mL (D : Nat) (ms : Nat → QM) (L : List (Option Int)) : Fct where
  p h := ∀ i, i < L.length → (isQ (qv (ms i)) (wq D ((L.getD i none).getD 0))).p h
  mono _ _ hl hp i hi := (isQ _ _).mono _ _ hl (hp i hi)
def fR (D : Nat) (v : Value) (ms : Nat → QM) (qs : List Int) : Fct where
  p h := (slC v qs.length 4 (qcell ms)).p h ∧ (mQ D ms qs).p h
  mono _ _ hl hp := ⟨(slC _ _ _ _).mono _ _ hl hp.1, (mQ _ _ _).mono _ _ hl hp.2⟩
def fB (D : Nat) (v : Value) (ms : Nat → QM) (bs : List Bd) : Fct where
  p h := (slC v bs.length 6 (bcell bs ms)).p h ∧ (mB D ms bs).p h
  mono _ _ hl hp := ⟨(slC _ _ _ _).mono _ _ hl hp.1, (mB _ _ _).mono _ _ hl hp.2⟩
def fL (D : Nat) (v : Value) (ms : Nat → QM) (L : List (Option Int)) : Fct where
  p h := (slC v L.length 5 (lcell L ms)).p h ∧ (mL D ms L).p h
  mono _ _ hl hp := ⟨(slC _ _ _ _).mono _ _ hl hp.1, (mL _ _ _).mono _ _ hl hp.2⟩
def andF (f g : Fct) : Fct where
  p h := f.p h ∧ g.p h
  mono _ _ hl hp := ⟨f.mono _ _ hl hp.1, g.mono _ _ hl hp.2⟩
section
variable {D : Nat} {F : List Fct} {bx : List Ow} {v : Value} {ms : Nat → QM} {qs : List Int} {bs : List Bd} {L : List (Option Int)} {k : Nat} {f g : Fct}
theorem W.Has.l (h : Has F (andF f g)) : Has F f := fun p hf => (h p hf).1
theorem W.Has.r (h : Has F (andF f g)) : Has F g := fun p hf => (h p hf).2
theorem W.Has.and (h : Has F f) (h2 : Has F g) : Has F (andF f g) := fun p hf => ⟨h p hf, h2 p hf⟩
theorem W.HasB.and (h : HasB bx F f) (h2 : HasB bx F g) : HasB bx F (andF f g) := fun fr w ho => ⟨h fr w ho, h2 fr w ho⟩
theorem W.Has.rs (h : Has F (fR D v ms qs)) : Has F (slC v qs.length 4 (qcell ms)) := fun p hf => (h p hf).1
theorem W.Has.rm (h : Has F (fR D v ms qs)) : Has F (mQ D ms qs) := fun p hf => (h p hf).2
theorem W.Has.bsl (h : Has F (fB D v ms bs)) : Has F (slC v bs.length 6 (bcell bs ms)) := fun p hf => (h p hf).1
theorem W.Has.bm (h : Has F (fB D v ms bs)) : Has F (mB D ms bs) := fun p hf => (h p hf).2
theorem W.Has.ls (h : Has F (fL D v ms L)) : Has F (slC v L.length 5 (lcell L ms)) := fun p hf => (h p hf).1
theorem W.Has.lm (h : Has F (fL D v ms L)) : Has F (mL D ms L) := fun p hf => (h p hf).2
theorem W.Has.q (h : Has F (mQ D ms qs)) (hk : k < qs.length) : Has F (isQ (qv (ms k)) (wq D (qs.getD k 0))) := fun p hf => h p hf k hk
theorem W.Has.b (h : Has F (mB D ms bs)) (hk : k < bs.length) : Has F (isQ (qv (ms k)) (wq D (bg bs k).w)) := fun p hf => h p hf k hk
theorem W.Has.lq (h : Has F (mL D ms L)) (hk : k < L.length) : Has F (isQ (qv (ms k)) (wq D ((L.getD k none).getD 0))) := fun p hf => h p hf k hk
theorem KnS.fr (h : Has F (fR D v ms qs)) : KnS bx F v qs.length := KnS.f h.rs
theorem KnS.fb (h : Has F (fB D v ms bs)) : KnS bx F v bs.length := KnS.f h.bsl
theorem KnS.fl (h : Has F (fL D v ms L)) : KnS bx F v L.length := KnS.f h.ls
variable {P : Program} {e : Env} {ty t : TypeId} {x : Operand}
theorem YO.ldR (hs : Row P t 4) (hx : ev e x = some (.pointer (some (eaddr v (k * 4))))) (hf : Has F (fR D v ms qs)) (hk : k < qs.length) : YO P (.load t x) ty e bx F (qv (ms k)) :=
  YO.ldRS (us := qcs (ms k)) hs hx hf.rs (by omega) rfl fun i hi => by
    rw [qcell_at _ _ hi]
    match i, hi with | 0, _ => rfl | 1, _ => rfl | 2, _ => rfl | 3, _ => rfl
theorem YO.ldBd (hs : Row P t 6) (hx : ev e x = some (.pointer (some (eaddr v (k * 6))))) (hf : Has F (fB D v ms bs)) (hk : k < bs.length) : YO P (.load t x) ty e bx F (bv (bg bs k) (ms k)) :=
  YO.ldRS (us := bcs (bg bs k) (ms k)) hs hx hf.bsl (by omega) rfl fun i hi => by
    rw [bcell_at _ _ _ hi]
    match i, hi with | 0, _ => rfl | 1, _ => rfl | 2, _ => rfl | 3, _ => rfl | 4, _ => rfl | 5, _ => rfl
theorem YO.ldBq (hs : Row P t 4) (hx : ev e x = some (.pointer (some (eaddr v (k * 6 + 2))))) (hf : Has F (fB D v ms bs)) (hk : k < bs.length) : YO P (.load t x) ty e bx F (qv (ms k)) :=
  YO.ldRS (us := qcs (ms k)) hs hx hf.bsl (by omega) rfl fun i hi => by
    rw [Nat.add_assoc, bcell_at _ _ _ (by omega)]
    match i, hi with | 0, _ => rfl | 1, _ => rfl | 2, _ => rfl | 3, _ => rfl
theorem YO.ldBf (hs : Scalar P t) (hx : ev e x = some (.pointer (some (eaddr v (k * 6 + 0))))) (hf : Has F (fB D v ms bs)) (hk : k < bs.length) : YO P (.load t x) ty e bx F (.int .i64 (bg bs k).fr) := by
  have := YO.ldS (ty := ty) (bx := bx) hs hx hf.bsl (by omega)
  rwa [bcell_at _ _ _ (by omega)] at this
theorem YO.ldBt (hs : Scalar P t) (hx : ev e x = some (.pointer (some (eaddr v (k * 6 + 1))))) (hf : Has F (fB D v ms bs)) (hk : k < bs.length) : YO P (.load t x) ty e bx F (.int .i64 (bg bs k).to) := by
  have := YO.ldS (ty := ty) (bx := bx) hs hx hf.bsl (by omega)
  rwa [bcell_at _ _ _ (by omega)] at this
theorem YO.ldLn (hs : Row P t 5) (hx : ev e x = some (.pointer (some (eaddr v (k * 5))))) (hf : Has F (fL D v ms L)) (hk : k < L.length) : YO P (.load t x) ty e bx F (lv (L.getD k none) (ms k)) :=
  YO.ldRS (us := lcs (L.getD k none) (ms k)) hs hx hf.ls (by omega) rfl fun i hi => by
    rw [lcell_at _ _ _ hi]
    match i, hi with | 0, _ => rfl | 1, _ => rfl | 2, _ => rfl | 3, _ => rfl | 4, _ => rfl
theorem YO.ldLb (hs : Scalar P t) (hx : ev e x = some (.pointer (some (eaddr v (k * 5 + 0))))) (hf : Has F (fL D v ms L)) (hk : k < L.length) : YO P (.load t x) ty e bx F (.bool (L.getD k none).isSome) := by
  have := YO.ldS (ty := ty) (bx := bx) hs hx hf.ls (by omega)
  rwa [lcell_at _ _ _ (by omega)] at this
theorem YO.ldLq (hs : Row P t 4) (hx : ev e x = some (.pointer (some (eaddr v (k * 5 + 1))))) (hf : Has F (fL D v ms L)) (hk : k < L.length) : YO P (.load t x) ty e bx F (qv (ms k)) :=
  YO.ldRS (us := qcs (ms k)) hs hx hf.ls (by omega) rfl fun i hi => by
    rw [Nat.add_assoc, lcell_at _ _ _ (by omega)]
    match i, hi with | 0, _ => rfl | 1, _ => rfl | 2, _ => rfl | 3, _ => rfl
end
end Go.Proofs.YthggloiigkbfeaaGreat
