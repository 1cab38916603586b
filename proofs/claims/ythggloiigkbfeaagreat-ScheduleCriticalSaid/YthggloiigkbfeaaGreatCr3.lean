/- Lemmas for the proof of a law: Contracts of the program: alike. Conditions: none. -/
import Derived.Test.YthggloiigkbfeaaGreatCr2
import Derived.DeepKeys3
import Derived.WideKeyRuns
import Derived.Carry
import Derived.Laws.Tables
set_option linter.unusedVariables false
set_option linter.unusedSimpArgs false
set_option linter.unusedSectionVars false
namespace Go.Proofs.YthggloiigkbfeaaGreat
namespace S
open W Go.RowKit
def difB (ts : List Tk) (a b : Nat) (i : Nat) : Bool := decide (bitI (tg ts i).on (a : Int) ≠ bitI (tg ts i).on (b : Int))
def alikeP (ts : List Tk) (a b : Nat) : Bool := !((List.range ts.length).any (difB ts a b))
attribute [local irreducible] WC WL WD YO LO LoopEnd W.Fin Scalar SliceT FieldAt Row ArrT AllocT KnS Has W.One SrcE IntT
theorem d161XAl {G G' : Prop} (h : G') (s : Bx G' → G := by
  intro h
  first | (apply WC.draw (id := 1) [0, 1, 2, 3, 4, 5, 6, 7, 8, 9, 10, 11] (.held 0 (.held 1 (.held 2 (.held 3 (.held 4 (.held 5 (.held 6 (.held 7 (.held 8 (.held 9 (.held 10 (.held 11 (.done))))))))))))) mixed (by kernel_rfl)) | fail
  exact Bx.h h) : G := s ⟨h⟩
set_option maxRecDepth 4000 in
theorem alike1_c (g1 g2 : Nat) (ts : List Tk) (av : Value) (i a b : Nat) (ho : 0 ≤ (tg ts i).on ∧ (tg ts i).on < 16) (hb4 : a < 4 ∧ b < 4) :
    FnB Tryz.prog 161 ([.agg #[.int .i64 (tg ts i).time, .int .i64 (tg ts i).on, av]] ++ [ptr g1, ptr g2]) [] [ce g1 3 [.int .i64 (a : Int)], ce g2 3 [.int .i64 (b : Int)]] (IsV (.bool (difB ts a b i))) := by
  refine fn_of [(0, .agg #[.int .i64 (tg ts i).time, .int .i64 (tg ts i).on, av]), (1, ptr g1), (2, ptr g2)] 16 Tryz.func161 rfl Tryz.ntmps161 (by kernel_rfl) rfl suA fun h0 => ?_
  have h1 := div_bd (o := (tg ts i).on) ((a : Int)).toNat ho.1
  have h2 := div_bd (o := (tg ts i).on) ((b : Int)).toNat ho.1
  by_cases c : (tg ts i).on / 2 ^ ((a : Int)).toNat % 2 = (tg ts i).on / 2 ^ ((b : Int)).toNat % 2
  · repeat' (first | refine go ?_ | refine goX ?_ | refine goB ?_ | (refine goG ?_; intro g) | (refine goV ?_; intro v) | refine goD ?_ | refine goXD ?_ | (refine goDG ?_; intro g) | (refine goDV ?_; intro v) | refine d161XAl ?_ | fail)
    refine WC.ret ?_
    exact Fin.v (ResE.t1 rfl rfl) meA (by rw [difB, decide_eq_false]; exact fun h => h c)
  · repeat' (first | refine go ?_ | refine goX ?_ | refine goB ?_ | (refine goG ?_; intro g) | (refine goV ?_; intro v) | refine goD ?_ | refine goXD ?_ | (refine goDG ?_; intro g) | (refine goDV ?_; intro v) | refine d161XAl ?_ | fail)
    refine WC.ret ?_
    exact Fin.v (ResE.t1 rfl rfl) meA (by rw [difB, decide_eq_true]; exact c)
def FnAtT (f : FuncId) (cap : List Value) (F : List Fct) (avs : List Value) (ts : List Tk) (p : Nat → Bool) : Prop := ∀ i, i < ts.length → FnB Tryz.prog f ([.agg #[.int .i64 (tg ts i).time, .int .i64 (tg ts i).on, avs.getD i undef]] ++ cap) [] F (IsV (.bool (p i)))
theorem indexT_c (v : Value) (avs : List Value) (ts : List Tk) (f : FuncId) (cap : List Value) (F : List Fct) (p : Nat → Bool) (hf : FnAtT f cap F avs ts p) (hl : ts.length ≤ 1000) :
    FnB Tryz.prog 180 [v, .func (.func f) #[] cap.toArray] [] (sT v avs ts :: F) (IsV (.int .i64 (optI ((List.range ts.length).findIdx? p)))) := by
  refine fn_of [(0, v), (1, .func (.func f) #[] cap.toArray)] 19 Tryz.func180 rfl Tryz.ntmps180 (by kernel_rfl) rfl suA fun h0 => ?_
  repeat' (first | refine go ?_ | refine goX ?_ | refine goB ?_ | (refine goG ?_; intro g) | (refine goV ?_; intro v))
  refine WC.lp (σ := Nat) (fun k => [(8, .int .i64 (k : Int)), (7, .int .i64 (ts.length : Int)), (0, v), (1, .func (.func f) #[] cap.toArray)]) (fun _ => []) (fun _ => ge h0 :: sT v avs ts :: F) (fun k => k ≤ ts.length ∧ ∀ j, j < k → p j = false) (fun k => ts.length - k) 0 (by simp) ?_ suA slA (HasAll.tail fun _ h => h)
  rintro k ⟨hk, hn⟩
  by_cases hlt : k < ts.length
  · repeat' (first | refine go ?_ | refine goX ?_ | refine goB ?_ | (refine goG ?_; intro g) | (refine goV ?_; intro v))
    refine WL.l rfl rfl (LO.callR (first := []) (cap := cap) rfl evA (hf _ hlt) (HasAllB.tail fun _ h => List.mem_cons_of_mem _ (List.mem_cons_of_mem _ h)) ?_)
    rintro _ _ _ ⟨rfl, rfl, rfl⟩
    cases hp : p k with
    | true =>
      repeat' (first | refine go ?_ | refine goX ?_ | refine goB ?_ | (refine goG ?_; intro g) | (refine goV ?_; intro v))
      refine WC.ret ?_
      refine Fin.v (ResE.t1 rfl rfl) meA ?_
      have : (List.range ts.length).findIdx? p = some k := by
        rw [List.findIdx?_eq_some_iff_getElem]
        exact ⟨by simpa using hlt, by simpa using hp, fun j hj => by simpa using hn j hj⟩
      rw [this]; rfl
    | false =>
      repeat' (first | refine go ?_ | refine goX ?_ | refine goB ?_ | (refine goG ?_; intro g) | (refine goV ?_; intro v))
      exact LoopEnd.mk (k + 1) ⟨by omega, upto_succ hn hp⟩ (by omega) suA slA (HasAll.tail fun _ h => h)
  · repeat' (first | refine go ?_ | refine goX ?_ | refine goB ?_ | (refine goG ?_; intro g) | (refine goV ?_; intro v))
    refine WC.ret ?_
    refine Fin.v (ResE.t1 rfl rfl) meA ?_
    have : (List.range ts.length).findIdx? p = none := by
      rw [List.findIdx?_eq_none_iff]
      intro x hx
      exact hn x (by have := List.mem_range.1 hx; omega)
    rw [this]; rfl
theorem containsT_c (v : Value) (avs : List Value) (ts : List Tk) (f : FuncId) (cap : List Value) (F : List Fct) (p : Nat → Bool) (hf : FnAtT f cap F avs ts p) (hl : ts.length ≤ 1000) :
    FnB Tryz.prog 160 [v, .func (.func f) #[] cap.toArray] [] (sT v avs ts :: F) (IsV (.bool ((List.range ts.length).any p))) := by
  refine fn_of [(0, v), (1, .func (.func f) #[] cap.toArray)] 9 Tryz.func160 rfl Tryz.ntmps160 (by kernel_rfl) rfl suA fun h0 => ?_
  repeat' (first | refine go ?_ | refine goX ?_ | refine goB ?_ | (refine goG ?_; intro g) | (refine goV ?_; intro v))
  refine WL.l rfl rfl (LO.callRV rfl evA (indexT_c v avs ts f cap F p hf hl) (HasAllB.tail fun _ h => List.mem_cons_of_mem _ h) ?_)
  cases hi : (List.range ts.length).findIdx? p with
  | some i =>
    have h1 : (List.range ts.length).any p = true := by
      obtain ⟨h2, h3, _⟩ := List.findIdx?_eq_some_iff_getElem.1 hi
      exact List.any_eq_true.2 ⟨_, List.getElem_mem h2, h3⟩
    rw [show optI (some i) = (i : Int) from rfl]
    repeat' (first | refine go ?_ | refine goX ?_ | refine goB ?_ | (refine goG ?_; intro g) | (refine goV ?_; intro v))
    refine WC.ret ?_
    exact Fin.v (ResE.t1 rfl rfl) meA (by rw [h1])
  | none =>
    have h1 : (List.range ts.length).any p = false := by
      rw [List.findIdx?_eq_none_iff] at hi
      rw [List.any_eq_false]; intro x hx; simp [hi x hx]
    rw [show optI none = (-1 : Int) from rfl]
    repeat' (first | refine go ?_ | refine goX ?_ | refine goB ?_ | (refine goG ?_; intro g) | (refine goV ?_; intro v))
    refine WC.ret ?_
    exact Fin.v (ResE.t1 rfl rfl) meA (by rw [h1])
set_option maxRecDepth 4000 in
theorem alike_c (s : Nat) (v mp : Value) (avs : List Value) (ts : List Tk) (M : Nat) (goal : Int) (B : List Int) (a b : Nat) (hg : AllGood M ts) (hn : ts.length ≤ 10) (hM : M ≤ 4) (hB : B.length = 26) (hab : a < 4 ∧ b < 4) :
    FnB Tryz.prog 143 [ptr s, .int .i64 a, .int .i64 b] [] [ce s 89 (srch v M goal B mp), sT v avs ts, sA avs ts] (IsV (.bool (alikeP ts a b))) := by
  refine fn_of [(0, ptr s), (1, .int .i64 a), (2, .int .i64 b)] 14 Tryz.func143 rfl Tryz.ntmps143 (by kernel_rfl) rfl suA fun h0 => ?_
  have hbo := good_on hg hM
  repeat' (first | refine go ?_ | refine goX ?_ | refine goB ?_ | (refine goG ?_; intro g) | (refine goV ?_; intro v))
  rename_i g1
  refine WL.keep (g := g1) (by repeat (first | exact Rem.head | apply Rem.tail)) ?_
  refine WL.keep (g := g) (by repeat (first | exact Rem.head | apply Rem.tail)) ?_
  have hc := containsT_c v avs ts 161 [ptr g1, ptr g] [ce g1 3 [.int .i64 (a : Int)], ce g 3 [.int .i64 (b : Int)]] (difB ts a b) (fun i _ => alike1_c g1 g ts _ i a b (hbo i) hab) (by omega)
  first | refine WL.callV (hc) ?_ | refine WD.callV (hc) ?_
  cases hx : (List.range ts.length).any (difB ts a b)
  all_goals
    repeat' (first | refine go ?_ | refine goX ?_ | refine goB ?_ | (refine goG ?_; intro g) | (refine goV ?_; intro v))
    refine WC.ret ?_
    exact Fin.v (ResE.t1 rfl rfl) meA (by rw [alikeP, hx]; rfl)
end S
end Go.Proofs.YthggloiigkbfeaaGreat
namespace Go.Proofs.YthggloiigkbfeaaGreat
namespace S
def undB (L : List Int) (a : Int) : Bool := decide (bitI (L.getD 24 0) a = 0)
def readyQ (ts : List Tk) (L : List Int) (i : Nat) : Bool := undB L (i : Int) && !((tg ts i).after.any (undB L))
def swapX (ts : List Tk) (a b : Nat) (X : List Int) : List Int :=
  if X.getD (1 + b) 0 < X.getD (1 + a) 0 ∧ alikeP ts a b = true then (X.set (1 + a) (X.getD (1 + b) 0)).set (1 + b) (X.getD (1 + a) 0) else X
def swIn (ts : List Tk) (a : Nat) (X : List Int) : Nat → List Int
  | 0 => X
  | j + 1 => swapX ts a (a + 1 + j) (swIn ts a X j)
def swOut (ts : List Tk) (M : Nat) (X : List Int) : Nat → List Int
  | 0 => X
  | a + 1 => swIn ts a (swOut ts M X a) (M - (a + 1))
def endIn (ts : List Tk) (L : List Int) (i : Nat) (X : List Int) : Nat → List Int
  | 0 => X
  | n + 1 => if bitI (L.getD 24 0) ((tg ts i).after.getD n 0) = 1 then (endIn ts L i X n).set (5 + ((tg ts i).after.getD n 0).toNat) (L.getD ((tg ts i).after.getD n 0).toNat 0 + (tg ts ((tg ts i).after.getD n 0).toNat).time) else endIn ts L i X n
def endOut (ts : List Tk) (L : List Int) (X : List Int) : Nat → List Int
  | 0 => X
  | i + 1 => if bitI (L.getD 24 0) (i : Int) = 0 then endIn ts L i (endOut ts L X i) (tg ts i).after.length else endOut ts L X i
def st0 (L : List Int) : List Int := L.getD 24 0 :: ((L.drop 20).take 4 ++ List.replicate 10 0)
def stateP (ts : List Tk) (M : Nat) (L : List Int) : List Int := endOut ts L (swOut ts M (st0 L) M) ts.length
theorem swapX_len {ts : List Tk} {a b : Nat} {X : List Int} : (swapX ts a b X).length = X.length := by unfold swapX; split <;> simp
theorem swIn_len {ts : List Tk} {a : Nat} {X : List Int} : ∀ j, (swIn ts a X j).length = X.length
  | 0 => rfl
  | j + 1 => by rw [swIn, swapX_len, swIn_len j]
theorem swOut_len {ts : List Tk} {M : Nat} {X : List Int} : ∀ a, (swOut ts M X a).length = X.length
  | 0 => rfl
  | a + 1 => by rw [swOut, swIn_len, swOut_len a]
theorem endIn_len {ts : List Tk} {L : List Int} {i : Nat} {X : List Int} : ∀ n, (endIn ts L i X n).length = X.length
  | 0 => rfl
  | n + 1 => by rw [endIn]; split <;> simp [endIn_len n]
theorem endOut_len {ts : List Tk} {L : List Int} {X : List Int} : ∀ i, (endOut ts L X i).length = X.length
  | 0 => rfl
  | i + 1 => by rw [endOut]; split <;> simp [endOut_len i, endIn_len]
theorem st0_len {L : List Int} (h : L.length = 26) : (st0 L).length = 15 := by simp [st0, h]
theorem stateP_len {ts : List Tk} {M : Nat} {L : List Int} (h : L.length = 26) : (stateP ts M L).length = 15 := by rw [stateP, endOut_len, swOut_len, st0_len h]
end S
end Go.Proofs.YthggloiigkbfeaaGreat
namespace Go.Proofs.YthggloiigkbfeaaGreat
namespace S
open W Go.RowKit
namespace Mp
theorem mapM_some {α β : Type} {f : α → Option β} {g : α → β} : ∀ {l : List α}, (∀ x ∈ l, f x = some (g x)) → l.mapM f = some (l.map g)
  | [], _ => rfl
  | x :: l, h => by
    rw [List.mapM_cons, h x List.mem_cons_self, mapM_some fun y hy => h y (List.mem_cons_of_mem _ hy)]
    rfl
theorem flat1 {α β : Type} (f : α → β) : ∀ l : List α, (l.map fun i => [f i]).flatten = l.map f
  | [] => rfl
  | x :: l => by simp [flat1 f l]
def Rng (l : List Int) : Prop := ∀ x ∈ l, -9223372036854775808 ≤ x ∧ x ≤ 9223372036854775807
theorem wf_i64 {x : Int} (h : -9223372036854775808 ≤ x ∧ x ≤ 9223372036854775807) : (Lit.int .i64 x).wf = true := by
  simp [Lit.wf, IntKind.min, IntKind.max, IntKind.signed, IntKind.bits]; omega
section
variable {P : Program}
theorem lits_int {e : TypeId} (he : P.underlying e = some (.int .i64)) (D : Nat) {x : Int} (h : -9223372036854775808 ≤ x ∧ x ≤ 9223372036854775807) : P.keyLits (D + 1) e [.int .i64 x] = some [.int .i64 x] := by
  simp [Program.keyLits, he, wf_i64 h]
theorem lits_arr {t e n : TypeId} (ht : P.underlying t = some (.array n e)) (he : P.underlying e = some (.int .i64)) (hc : P.cellsOf e = 1) (hct : P.cellsOf t = n) (D : Nat) {l : List Int} (hl : l.length = n) (h : Rng l) :
    P.keyLits (D + 2) t (ints l) = some (l.map (Lit.int .i64)) := by
  have h1 : (List.range n).mapM (fun i => P.keyLits (D + 1) e (((ints l).drop (i * P.cellsOf e)).take (P.cellsOf e))) = some ((List.range n).map fun i => [Lit.int .i64 (l.getD i 0)]) := mapM_some fun i hi => by
    have hi' : i < l.length := by have := List.mem_range.1 hi; omega
    have e1 : ((ints l).drop (i * P.cellsOf e)).take (P.cellsOf e) = [.int .i64 (l.getD i 0)] := by
      rw [hc, Nat.mul_one, List.drop_eq_getElem_cons (by simpa using hi')]
      simp [hi']
    rw [e1]
    exact lits_int he D (h _ (by rw [List.getD_eq_getElem?_getD, List.getElem?_eq_getElem hi']; exact List.getElem_mem _))
  unfold Program.keyLits
  simp only [ht]
  rw [if_pos (by simp [hct, hl]), h1]
  simp only [Option.map_some, Option.some.injEq]
  rw [flat1]
  apply List.ext_getElem
  · simp [hl]
  · intro i h1 h2
    simp at h2
    simp [h2]
structure StT (P : Program) (t n m : Nat) : Prop where
  lits : ∀ l : List Int, l.length = 1 + n + m → Rng l → P.keyLits 4 t (ints l) = some (l.map (Lit.int .i64))
  formed : ∀ l : List Int, l.length = 1 + n + m → Value.formed P t (.agg (ints l).toArray) = true
  key : P.keyTypeAt 3 t = true
  wide : (match P.underlying t with | some (.array _ _) | some (.struct _) => true | _ => false) = true
variable {t n m : Nat}
theorem run_eq (hT : StT P t n m) {a b : List Int} (ha : a.length = 1 + n + m) (hb : b.length = 1 + n + m) (ra : Rng a) (rb : Rng b) (w : World) : (Op.equal t (.agg (ints a).toArray) (.agg (ints b).toArray)).run P w = .ok (decide (a = b)) w := by
  obtain ⟨r, h1, h2⟩ := run_equalIn_deep 9997 3 t hT.key w 4 4 (.agg (ints a).toArray) (.agg (ints b).toArray) _ _ (hT.formed a ha) (hT.formed b hb) (by simpa [Value.cells] using hT.lits a ha ra) (by simpa [Value.cells] using hT.lits b hb rb)
  have : r = decide (a = b) := by
    rw [Bool.eq_iff_iff, h2, decide_eq_true_eq]
    constructor
    · intro h
      have := congrArg (List.map fun l : Lit => match l with | .int _ x => x | _ => 0) h
      simpa [List.map_map, Function.comp_def] using this
    · rintro rfl; rfl
  rw [← this]; exact h1
theorem run_check (hT : StT P t n m) {a : List Int} (ha : a.length = 1 + n + m) (ra : Rng a) (em : Bool) (w : World) : (Instr.checkKey em 10000 t (.agg (ints a).toArray)).run P w = .ok () w :=
  run_checkKey_deep em 9997 3 t hT.key w 4 (.agg (ints a).toArray) _ (hT.formed a ha) (by simpa [Value.cells] using hT.lits a ha ra)
def ent (i : Nat) (k : List Int) : MapEntry := { key := .agg (ints k).toArray, val := .bool true, born := i }
def ents (ks : List (List Int)) : List MapEntry := ks.mapIdx ent
def mobj (ks : List (List Int)) : Obj := .map (ents ks).toArray ks.length
def KOK (n m : Nat) (ks : List (List Int)) : Prop := ∀ k ∈ ks, k.length = 1 + n + m ∧ Rng k
theorem run_ask (hT : StT P t n m) {a : List Int} (ha : a.length = 1 + n + m) (ra : Rng a) (w : World) : ∀ (es : List MapEntry) (ks : List (List Int)) (i : Nat), KOK n m ks → es.map (·.key) = ks.map (fun k => Value.agg (ints k).toArray) → (∀ e ∈ es, e.val = .bool true) →
    ∃ r : Option (Nat × Value), (Instr.findAsking t (.agg (ints a).toArray) es i).run P w = .ok r w ∧ (a ∈ ks → ∃ j, r = some (j, .bool true)) ∧ (a ∉ ks → r = none)
  | [], ks, i, _, he, _ => by
    have : ks = [] := by cases ks <;> simp at he ⊢
    subst this
    exact ⟨none, by simp [Instr.findAsking], by simp, by simp⟩
  | e :: es, ks, i, hk, he, hv => by
    cases ks with
    | nil => simp at he
    | cons k ks =>
      simp only [List.map_cons, List.cons.injEq] at he
      have hkk := hk k List.mem_cons_self
      have heq := run_eq hT ha hkk.1 ra hkk.2 w
      obtain ⟨r, h1, h2, h3⟩ := run_ask hT ha ra w es ks (i + 1) (fun k hk' => hk k (List.mem_cons_of_mem _ hk')) he.2 (fun e he => hv e (List.mem_cons_of_mem _ he))
      by_cases hak : a = k
      · refine ⟨some (i, .bool true), ?_, fun _ => ⟨i, rfl⟩, fun h => absurd (by rw [hak]; exact List.mem_cons_self) h⟩
        rw [hak] at heq ⊢
        simp only [Instr.findAsking, Sem.run_bind, he.1, heq, Result.andThen_ok, decide_true, if_true, hv e List.mem_cons_self]
        simp
      · refine ⟨r, ?_, fun h => h2 (by rcases List.mem_cons.1 h with h | h; exact absurd h hak; exact h), fun h => h3 fun h' => h (List.mem_cons_of_mem _ h')⟩
        simp only [Instr.findAsking, Sem.run_bind, he.1, heq, Result.andThen_ok, hak, decide_false]
        simpa using h1
theorem ents_keys (ks : List (List Int)) : (ents ks).map (·.key) = ks.map (fun k => Value.agg (ints k).toArray) := by
  apply List.ext_getElem
  · simp [ents]
  · intro i h1 h2; simp [ents, ent]
theorem ents_vals {ks : List (List Int)} : ∀ e ∈ ents ks, e.val = .bool true := by
  intro e he
  simp only [ents, List.mem_mapIdx] at he
  obtain ⟨i, h, rfl⟩ := he
  rfl
theorem ents_push (ks : List (List Int)) (k : List Int) : (ents (ks ++ [k])).toArray = (ents ks).toArray.push { key := .agg (ints k).toArray, val := .bool true, born := ks.length } := by
  simp [ents, List.mapIdx_append, ent]
theorem run_lookup (hT : StT P t n m) {mt el : TypeId} (hm : P.underlying mt = some (.map t el)) (hz : ∀ w, (zeroValue el).run P w = .ok (.bool false) w) {a : List Int} (ha : a.length = 1 + n + m) (ra : Rng a) {ks : List (List Int)} (hk : KOK n m ks) {g : Nat} {w : World} (hg : w.heap[g]? = some (mobj ks)) :
    (Instr.lookup mt (.map (some g)) (.agg (ints a).toArray) false).run P w = .ok (.bool (decide (a ∈ ks))) w := by
  obtain ⟨r, h1, h2, h3⟩ := run_ask hT ha ra w (ents ks) ks 0 hk (ents_keys ks) ents_vals
  have hf := (run_findKey_eq (P := P) (w := w) hT.wide (.agg (ints a).toArray) (ents ks)).trans h1
  have hc := run_check hT ha ra (ents ks).toArray.isEmpty w
  by_cases h : a ∈ ks
  · obtain ⟨j, rfl⟩ := h2 h
    simp [Instr.lookup, run_underlying hm, MapKept.run_getObj_map (show w.heap[g]? = some (.map (ents ks).toArray ks.length) from hg), hc, hf, h]
    rw [show (ents ks).isEmpty = (ents ks).toArray.isEmpty by simp, hc]; simp [hf]
  · have := h3 h; subst this
    simp [Instr.lookup, run_underlying hm, MapKept.run_getObj_map (show w.heap[g]? = some (.map (ents ks).toArray ks.length) from hg), hc, hf, h]
    rw [show (ents ks).isEmpty = (ents ks).toArray.isEmpty by simp, hc]; simp [hf, hz]
theorem run_update (hT : StT P t n m) {mt el : TypeId} (hm : P.underlying mt = some (.map t el)) {a : List Int} (ha : a.length = 1 + n + m) (ra : Rng a) {ks : List (List Int)} (hk : KOK n m ks) (hn : a ∉ ks) {g : Nat} {w : World} (hg : w.heap[g]? = some (mobj ks)) :
    (Instr.mapUpdate mt (.map (some g)) (.agg (ints a).toArray) (.bool true)).run P w = .ok () { w with heap := w.heap.setIfInBounds g (mobj (ks ++ [a])) } := by
  obtain ⟨r, h1, h2, h3⟩ := run_ask hT ha ra w (ents ks) ks 0 hk (ents_keys ks) ents_vals
  have hf := (run_findKey_eq (P := P) (w := w) hT.wide (.agg (ints a).toArray) (ents ks)).trans h1
  have hc := run_check hT ha ra false w
  have := h3 hn; subst this
  have hg' : w.heap[g]? = some (.map (ents ks).toArray ks.length) := hg
  have hs := MapKept.run_setObj_map (P := P) (mobj (ks ++ [a])) hg'
  simp [Instr.mapUpdate, run_underlying hm, MapKept.run_getObj_map hg', hc, hf]
  rw [← hs, mobj, ents_push]
  simp
theorem stT_of {a b c : TypeId} (hs : (P.underlying t).map (fun d => match d with | .struct fs => fs.toList.map (fun f => (f.name != "_", f.type, f.offset)) | _ => []) = some [(true, a, 0), (true, b, 1), (true, c, 1 + n)])
    (hst : (match P.underlying t with | some (.struct _) => true | _ => false) = true)
    (ha : P.underlying a = some (.int .i64)) (hb : ∃ e, P.underlying b = some (.array n e) ∧ P.underlying e = some (.int .i64) ∧ P.cellsOf e = 1) (hc : ∃ e, P.underlying c = some (.array m e) ∧ P.underlying e = some (.int .i64) ∧ P.cellsOf e = 1)
    (ca : P.cellsOf a = 1) (cb : P.cellsOf b = n) (cc : P.cellsOf c = m) (ct : P.cellsOf t = 1 + n + m) (hk : P.keyTypeAt 3 t = true) : StT P t n m := by
  cases hu : P.underlying t with
  | none => simp [hu] at hst
  | some d =>
    cases d <;> simp only [hu, Bool.false_eq_true] at hst
    rename_i fs
    simp only [hu, Option.map_some, Option.some.injEq] at hs
    refine ⟨fun l hl hr => ?_, fun l hl => by simp [Value.formed, hu, ct, hl], hk, by simp [hu]⟩
    obtain ⟨e1, b1, b2, b3⟩ := hb
    obtain ⟨e2, c1, c2, c3⟩ := hc
    obtain ⟨f1, f2, f3, hfs⟩ : ∃ f1 f2 f3, fs.toList = [f1, f2, f3] := by
      have := congrArg List.length hs
      simp at this
      match hq : fs.toList, (by simpa using this : fs.toList.length = 3) with
      | [f1, f2, f3], _ => exact ⟨f1, f2, f3, rfl⟩
    rw [hfs] at hs
    simp only [List.map_cons, List.map_nil, List.cons.injEq, Prod.mk.injEq, and_true] at hs
    obtain ⟨⟨n1, t1, o1⟩, ⟨n2, t2, o2⟩, n3, t3, o3⟩ := hs
    have hall : fs.all (·.name != "_") = true := by
      rw [← Array.all_toList, hfs]; simp [n1, n2, n3]
    have r1 : Rng ((l.drop 1).take n) := fun x hx => hr x (List.mem_of_mem_drop (List.mem_of_mem_take hx))
    have r2 : Rng ((l.drop (1 + n)).take m) := fun x hx => hr x (List.mem_of_mem_drop (List.mem_of_mem_take hx))
    obtain ⟨x0, l', rfl⟩ : ∃ x0 l', l = x0 :: l' := by
      cases l with
      | nil => exfalso; simp at hl; omega
      | cons x l => exact ⟨x, l, rfl⟩
    have k1 := lits_int (P := P) ha 2 (hr x0 List.mem_cons_self)
    have k2 := lits_arr (P := P) b1 b2 b3 cb 1 (l := ((x0 :: l').drop 1).take n) (by simp at hl ⊢; omega) r1
    have k3 := lits_arr (P := P) c1 c2 c3 cc 1 (l := ((x0 :: l').drop (1 + n)).take m) (by simp at hl ⊢; omega) r2
    unfold Program.keyLits
    simp only [hu]
    rw [if_pos ⟨by simp only [List.length_map, ct]; exact hl, hall⟩, hfs]
    have g1 : ((ints (x0 :: l')).drop f1.offset).take (P.cellsOf f1.type) = [.int .i64 x0] := by rw [t1, o1, ca]; simp
    have g2 : ((ints (x0 :: l')).drop f2.offset).take (P.cellsOf f2.type) = ints (((x0 :: l').drop 1).take n) := by rw [t2, o2, cb]; simp [List.map_take]
    have g3 : ((ints (x0 :: l')).drop f3.offset).take (P.cellsOf f3.type) = ints (((x0 :: l').drop (1 + n)).take m) := by rw [t3, o3, cc]; simp [List.map_take, List.map_drop]
    have m3 : ∀ (G : Field → Option (List Lit)) (A B C : List Lit), G f1 = some A → G f2 = some B → G f3 = some C → [f1, f2, f3].mapM G = some [A, B, C] := fun G A B C h1 h2 h3 => by
      simp [List.mapM_cons, h1, h2, h3]
    rw [m3 _ _ _ _ (by rw [g1, t1]; exact k1) (by rw [g2, t2]; exact k2) (by rw [g3, t3]; exact k3)]
    simp only [Option.map_some, List.flatten_cons, List.flatten_nil, List.append_nil, Option.some.injEq]
    have e3 : (x0 :: l') = [x0] ++ (((x0 :: l').drop 1).take n ++ ((x0 :: l').drop (1 + n)).take m) := by
      have : ((x0 :: l').drop (1 + n)).take m = (x0 :: l').drop (1 + n) := List.take_of_length_le (by simp at hl ⊢; omega)
      rw [this, show (x0 :: l').drop (1 + n) = ((x0 :: l').drop 1).drop n by rw [List.drop_drop], List.take_append_drop]
      simp
    conv => rhs; rw [e3]
    simp [List.map_append]
end
end Mp
end S
namespace W
open S Go.RowKit
section
variable {P : Program} {e : Env} {bx bx' : List Ow} {F : List Fct} {ty : TypeId} {t n m mt el g : Nat} {x y z : Operand} {a : List Int} {ks : List (List Int)} {K : RPost}
open Mp
theorem YO.lookM (hT : StT P t n m) (hm : P.underlying mt = some (.map t el)) (hz : ∀ w, (zeroValue el).run P w = .ok (.bool false) w) (hx : ev e x = some (.map (some g))) (hy : ev e y = some (.agg (ints a).toArray)) (hb : Ow.obj g (mobj ks) ∈ bx)
    (ha : a.length = 1 + n + m) (ra : Rng a) (hk : KOK n m ks) : YO P (.lookup mt x y false) ty e bx F (.bool (decide (a ∈ ks))) :=
  .of fun k fr ac w o hop hkn ho => by
    have := run_lookup hT hm hz ha ra hk (ho.owns _ hb)
    simp [execOp, hop, hkn.eval hx, hkn.eval hy, this]
theorem LO.updM (hT : StT P t n m) (hm : P.underlying mt = some (.map t el)) (hx : ev e x = some (.map (some g))) (hy : ev e y = some (.agg (ints a).toArray)) (hz : ev e z = some (.bool true)) (hs : Sel bx (.obj g (mobj ks)) (.obj g (mobj (ks ++ [a]))) bx')
    (ha : a.length = 1 + n + m) (ra : Rng a) (hk : KOK n m ks) (hn : a ∉ ks) (h : K undef bx' F) : LO P (.mapUpdate mt x y z) ty e bx F K := .of fun k fr ac w o hop hkn ho => by
  have hg : w.heap[g]? = some (mobj ks) := ho.owns _ hs.mem
  have hr := run_update hT hm ha ra hk hn hg
  have hlt : g < w.heap.size := (Array.getElem?_eq_some_iff.1 hg).1
  refine ⟨undef, { w with heap := w.heap.setIfInBounds g (mobj (ks ++ [a])) }, bx', F, .inr ⟨?_, rfl⟩, ⟨rfl, rfl, rfl⟩, ho.sel hs ?_ ?_ ?_ ?_, h⟩
  · simp [execOp, hop, hkn.eval hx, hkn.eval hy, hkn.eval hz, hr]
  · intro k _ hk2
    have : g ≠ k := fun h => hk2 (by simp [Ow.ids, h])
    simp [Array.getElem?_setIfInBounds, this]
  · intro k hk1; exact .inl hk1
  · simp [Ow.ids]
  · show (w.heap.setIfInBounds g _)[g]? = _
    simp [Array.getElem?_setIfInBounds, hlt]
theorem LO.mkM {t : TypeId} (h : ∀ g, K (.map (some g)) (Ow.obj g (mobj []) :: bx) F) : LO P (.makeMap t none) ty e bx F K := .of fun k fr ac w o hop hkn ho => by
  refine ⟨_, w.alloc (.map #[] 0), _, F, .inl ?_, ⟨rfl, rfl, rfl⟩, ho.alloc (.obj w.heap.size (mobj [])) _ rfl ?_, h w.heap.size⟩
  · simp [execOp, hop, run_makeMap]
  · show (w.alloc _).heap[w.heap.size]? = _
    rw [heap_alloc_new]; rfl
end
end W
end Go.Proofs.YthggloiigkbfeaaGreat
namespace Go.Proofs.YthggloiigkbfeaaGreat
namespace S
abbrev RS := List Int × List (List Int)
def innP (rec : List Int → RS → RS) (ts : List Tk) (p : List Int) (i : Nat) (s : RS) : Nat → RS
  | 0 => s
  | k + 1 => if bitI (tg ts i).on (k : Int) = 1 then rec (withP ts p i k) (innP rec ts p i s k) else innP rec ts p i s k
def outP (rec : List Int → RS → RS) (ts : List Tk) (M : Nat) (p : List Int) (s : RS) : Nat → RS
  | 0 => s
  | i + 1 => if readyQ ts p i = true then innP rec ts p i (outP rec ts M p s i) M else outP rec ts M p s i
def runP (ts : List Tk) (M : Nat) (goal : Int) : Nat → List Int → RS → RS
  | 0, _, s => s
  | f + 1, p, s =>
    if p.getD 24 0 = 2 ^ ts.length - 1 then (if p.getD 25 0 < s.1.getD 25 0 then (p, s.2) else s)
    else if s.1.getD 25 0 = goal ∨ hopP ts M p (s.1.getD 25 0) = true then s
    else if stateP ts M p ∈ s.2 then s
    else outP (runP ts M goal f) ts M p (s.1, s.2 ++ [stateP ts M p]) ts.length
def und (p : List Int) : Nat → Nat
  | 0 => 0
  | i + 1 => und p i + if undB p (i : Int) = true then 1 else 0
theorem bitI_test {o : Int} (ho : 0 ≤ o) (k : Nat) : bitI o (k : Int) = if o.toNat.testBit k then 1 else 0 := by
  have h := may_bit o k ho
  have h2 := bit_01 o (k : Int)
  unfold bitI at *
  simp only [Int.toNat_natCast] at *
  split <;> rename_i hc
  · exact h.2 hc
  · rcases h2 with h2 | h2
    · exact h2
    · exact absurd (h.1 h2) hc
theorem undB_test {p : List Int} (h : 0 ≤ p.getD 24 0) (k : Nat) : undB p (k : Int) = !(p.getD 24 0).toNat.testBit k := by
  unfold undB
  rw [bitI_test h]
  cases (p.getD 24 0).toNat.testBit k <;> simp
theorem und_zero {p : List Int} (h : 0 ≤ p.getD 24 0) : ∀ {n : Nat}, p.getD 24 0 < 2 ^ n → und p n = 0 → p.getD 24 0 = 2 ^ n - 1 := by
  intro n hlt hz
  have hall : ∀ m, und p m = 0 → ∀ i, i < m → (p.getD 24 0).toNat.testBit i = true := by
    intro m
    induction m with
    | zero => intro _ i hi; omega
    | succ m ih =>
      intro hm i hi
      rw [und] at hm
      by_cases him : i < m
      · exact ih (by omega) i him
      · obtain rfl : i = m := by omega
        have : ¬ undB p (i : Int) = true := fun hc => by rw [if_pos hc] at hm; omega
        rw [undB_test h] at this; simpa using this
  have hall := hall n hz
  have hc : ((2 : Int) ^ n) = ((2 ^ n : Nat) : Int) := by simp
  have h1 : (p.getD 24 0).toNat = 2 ^ n - 1 := by
    refine Nat.eq_of_testBit_eq fun i => ?_
    rw [Nat.testBit_two_pow_sub_one]
    by_cases hi : i < n
    · rw [hall i hi]; simp [hi]
    · rw [Nat.testBit_lt_two_pow (Nat.lt_of_lt_of_le (show (p.getD 24 0).toNat < 2 ^ n by omega) (Nat.pow_le_pow_right (by decide) (by omega)))]; simp [hi]
  have : 0 < 2 ^ n := Nat.pow_pos (by decide)
  omega
theorem with_done {ts : List Tk} {p : List Int} {i k : Nat} (hl : p.length = 26) : (withP ts p i k).getD 24 0 = orInt (p.getD 24 0) (2 ^ i) := by
  unfold withP; simp only [getD_set]
  rw [if_neg (by omega), if_pos (by simp [hl])]
theorem undB_with {ts : List Tk} {p : List Int} {i k : Nat} (hl : p.length = 26) (h : 0 ≤ p.getD 24 0) (j : Nat) : undB (withP ts p i k) (j : Int) = (undB p (j : Int) && decide (i ≠ j)) := by
  have h2 : 0 ≤ (withP ts p i k).getD 24 0 := by rw [with_done hl]; unfold orInt; omega
  rw [undB_test h2, undB_test h, with_done hl, orInt_bit]
  cases (p.getD 24 0).toNat.testBit j <;> by_cases hij : i = j <;> simp [hij]
theorem und_with {ts : List Tk} {p : List Int} {i k : Nat} (hl : p.length = 26) (h : 0 ≤ p.getD 24 0) (hu : undB p (i : Int) = true) : ∀ n, und (withP ts p i k) n + (if i < n then 1 else 0) = und p n
  | 0 => by simp [und]
  | n + 1 => by
    have ih := und_with (ts := ts) (k := k) hl h hu n
    rw [und, und, undB_with hl h]
    by_cases hin : i = n
    · subst hin
      simp only [hu, ne_eq, not_true, decide_false, Bool.and_false]
      simp at ih ⊢; omega
    · by_cases hlt : i < n
      · simp only [hlt, if_true] at ih
        rw [if_pos (show i < n + 1 by omega)]
        simp only [ne_eq, hin, not_false_eq_true, decide_true, Bool.and_true]; omega
      · simp only [hlt, if_false] at ih
        rw [if_neg (show ¬ i < n + 1 by omega)]
        simp only [ne_eq, hin, not_false_eq_true, decide_true, Bool.and_true]; omega
structure PI (ts : List Tk) (p : List Int) : Prop where
  b : ∃ B : Int, PlB p B ∧ 0 ≤ B ∧ B + 40 * und p ts.length ≤ 400
  d : p.getD 24 0 < 2 ^ ts.length
theorem PI.ok {ts : List Tk} {p : List Int} (h : PI ts p) : PlOK p := by obtain ⟨B, h1, h2, h3⟩ := h.b; exact h1.ok (by omega)
theorem PI.done {ts : List Tk} {p : List Int} (h : PI ts p) : 0 ≤ p.getD 24 0 ∧ p.getD 24 0 < 1024 := by obtain ⟨B, h1, h2, h3⟩ := h.b; exact h1.done
theorem orInt_lt {a : Int} {i n : Nat} (ha : 0 ≤ a) (h : a < 2 ^ n) (hi : i < n) : orInt a (2 ^ i) < 2 ^ n := by
  have hc : ((2 : Int) ^ n) = ((2 ^ n : Nat) : Int) := by simp
  have h2 : ((2 : Int) ^ i).toNat < 2 ^ n := by
    have : ((2 : Int) ^ i) = ((2 ^ i : Nat) : Int) := by simp
    rw [this, Int.toNat_natCast]
    exact Nat.pow_lt_pow_right (by decide) hi
  have := Nat.or_lt_two_pow (show a.toNat < 2 ^ n by omega) h2
  unfold orInt; omega
theorem PI.step {M : Nat} {ts : List Tk} (hg : AllGood M ts) (hn : ts.length ≤ 10) {p : List Int} (h : PI ts p) {i k : Nat} (hi : i < ts.length) (hk : k < 4) (hu : undB p (i : Int) = true) : PI ts (withP ts p i k) ∧ und (withP ts p i k) ts.length + 1 = und p ts.length := by
  obtain ⟨B, h1, h2, h3⟩ := h.b
  have hw := und_with (ts := ts) (k := k) h1.len h1.done.1 hu ts.length
  rw [if_pos hi] at hw
  refine ⟨⟨⟨B + 40, withP_B hg hn h1 h2 hi hk, by omega, by omega⟩, ?_⟩, hw⟩
  rw [with_done h1.len]; exact orInt_lt h1.done.1 h.d hi
theorem ready_und {ts : List Tk} {p : List Int} {i : Nat} (h : readyQ ts p i = true) : undB p (i : Int) = true := by
  unfold readyQ at h; simp only [Bool.and_eq_true] at h; exact h.1
def In0 (B : Int) (X : List Int) : Prop := ∀ x ∈ X, 0 ≤ x ∧ x ≤ B
theorem In0.getD {B : Int} {X : List Int} (h : In0 B X) (hB : 0 ≤ B) (j : Nat) : 0 ≤ X.getD j 0 ∧ X.getD j 0 ≤ B := by
  rw [List.getD_eq_getElem?_getD]
  cases hx : X[j]? with
  | none => simpa using hB
  | some x => simpa using h x (List.mem_of_getElem? hx)
theorem In0.set {B : Int} {X : List Int} (h : In0 B X) {x : Int} (hx : 0 ≤ x ∧ x ≤ B) (j : Nat) : In0 B (X.set j x) := fun y hy => by
  rcases List.mem_or_eq_of_mem_set hy with hy | rfl
  · exact h y hy
  · exact hx
theorem In0.sw1 {B : Int} {ts : List Tk} {a b : Nat} {X : List Int} (h : In0 B X) (hB : 0 ≤ B) : In0 B (swapX ts a b X) := by
  unfold swapX; split
  · exact (h.set (h.getD hB _) _).set (h.getD hB _) _
  · exact h
theorem In0.sw2 {B : Int} {ts : List Tk} {a : Nat} {X : List Int} (h : In0 B X) (hB : 0 ≤ B) : ∀ j, In0 B (swIn ts a X j)
  | 0 => h
  | j + 1 => (In0.sw2 h hB j).sw1 hB
theorem In0.sw3 {B : Int} {ts : List Tk} {M : Nat} {X : List Int} (h : In0 B X) (hB : 0 ≤ B) : ∀ a, In0 B (swOut ts M X a)
  | 0 => h
  | a + 1 => (In0.sw3 h hB a).sw2 hB _
theorem In0.en1 {B : Int} {ts : List Tk} {L : List Int} {i : Nat} {X : List Int} (h : In0 B X) (hL : ∀ j, 0 ≤ L.getD j 0 + (tg ts j).time ∧ L.getD j 0 + (tg ts j).time ≤ B) : ∀ n, In0 B (endIn ts L i X n)
  | 0 => h
  | n + 1 => by
    rw [endIn]; split
    · exact (In0.en1 h hL n).set (hL _) _
    · exact In0.en1 h hL n
theorem In0.en2 {B : Int} {ts : List Tk} {L : List Int} {X : List Int} (h : In0 B X) (hL : ∀ j, 0 ≤ L.getD j 0 + (tg ts j).time ∧ L.getD j 0 + (tg ts j).time ≤ B) : ∀ n, In0 B (endOut ts L X n)
  | 0 => h
  | n + 1 => by
    rw [endOut]; split
    · exact (In0.en2 h hL n).en1 hL _
    · exact In0.en2 h hL n
theorem state_rng {M : Nat} {ts : List Tk} (hg : AllGood M ts) {p : List Int} (h : PlOK p) : (stateP ts M p).length = 15 ∧ Mp.Rng (stateP ts M p) := by
  have ht := good_time hg
  refine ⟨stateP_len h.len, ?_⟩
  have h0 : In0 1000020 (st0 p) := fun x hx => by
    simp only [st0, List.mem_cons, List.mem_append, List.mem_replicate] at hx
    rcases hx with rfl | hx | ⟨_, rfl⟩
    · have := h.bd 24; omega
    · have hx := List.mem_of_mem_drop (List.mem_of_mem_take hx)
      obtain ⟨j, hj, he⟩ := List.mem_iff_getElem.1 hx
      have := h.bd j
      rw [List.getD_eq_getElem?_getD, List.getElem?_eq_getElem hj, he] at this
      simp at this; omega
    · omega
  have h1 : In0 1000020 (stateP ts M p) := (h0.sw3 (ts := ts) (M := M) (by omega) M).en2 (fun j => by have := h.bd j; have := ht j; omega) _
  exact fun x hx => by have := h1 x hx; omega
structure SI (s : RS) : Prop where
  l : s.1.length = 26
  k : Mp.KOK 4 10 s.2
theorem SI.add {M : Nat} {ts : List Tk} (hg : AllGood M ts) {p : List Int} (h : PlOK p) {s : RS} (hs : SI s) : SI (s.1, s.2 ++ [stateP ts M p]) := ⟨hs.l, fun k hk => by
  rcases List.mem_append.1 hk with hk | hk
  · exact hs.k k hk
  · simp at hk; subst hk; exact state_rng hg h⟩
theorem innP_SI {rec : List Int → RS → RS} {ts : List Tk} {p : List Int} {i : Nat} (hr : ∀ k s, k < 4 → SI s → SI (rec (withP ts p i k) s)) {s : RS} (hs : SI s) : ∀ k, k ≤ 4 → SI (innP rec ts p i s k)
  | 0, _ => hs
  | k + 1, hk => by
    have ih := innP_SI hr hs k (by omega)
    rw [innP]; split
    · exact hr k _ (by omega) ih
    · exact ih
theorem outP_SI {rec : List Int → RS → RS} {ts : List Tk} {M : Nat} (hM : M ≤ 4) {p : List Int} (hr : ∀ i k s, i < ts.length → k < 4 → readyQ ts p i = true → SI s → SI (rec (withP ts p i k) s)) {s : RS} (hs : SI s) : ∀ i, i ≤ ts.length → SI (outP rec ts M p s i)
  | 0, _ => hs
  | i + 1, hi => by
    have ih := outP_SI hM hr hs i (by omega)
    rw [outP]; split
    · rename_i h; exact innP_SI (fun k s hk hs => hr i k s (by omega) hk h hs) ih M hM
    · exact ih
theorem runP_SI {M : Nat} {ts : List Tk} (hg : AllGood M ts) (hn : ts.length ≤ 10) (hM : M ≤ 4) {goal : Int} : ∀ f p s, PI ts p → SI s → SI (runP ts M goal f p s)
  | 0, _, _, _, hs => hs
  | f + 1, p, s, hp, hs => by
    rw [runP]
    split
    · split
      · exact ⟨hp.ok.len, hs.k⟩
      · exact hs
    · split
      · exact hs
      · split
        · exact hs
        · exact outP_SI hM (fun i k s hi hk hr hs => runP_SI hg hn hM f _ s (hp.step hg hn hi hk (ready_und hr)).1 hs) (hs.add hg hp.ok) _ (Nat.le_refl _)
end S
end Go.Proofs.YthggloiigkbfeaaGreat
namespace Go.Proofs.YthggloiigkbfeaaGreat
namespace S
open W Go.RowKit
theorem YO.build98 {e : Env} {bx : List Ow} {F : List Fct} {ty : TypeId} {x y : Operand} {d : Int} {fr : List Int} (hx : ev e x = some (.int .i64 d)) (hy : ev e y = some (.agg (ints fr).toArray)) (hf : fr.length = 4) :
    YO Tryz.prog (.build 149 #[(0, x), (1, y)]) ty e bx F (.agg (ints (d :: (fr ++ List.replicate 10 0))).toArray) := by
  obtain ⟨a, b, c, k, rfl⟩ : ∃ a b c k, fr = [a, b, c, k] := by
    match fr, hf with
    | [a, b, c, k], _ => exact ⟨a, b, c, k, rfl⟩
  exact YO.build (parts := [(0, x), (1, y)]) (.cons hx (.cons hy .nil)) fun w => run_build w 149 _ _ (by kernel_rfl)
theorem YO.buildSt {e : Env} {bx : List Ow} {F : List Fct} {ty : TypeId} {x y : Operand} {L : List Int} (hx : ev e x = some (.int .i64 (L.getD 24 0))) (hy : ev e y = some (.agg (ints ((L.drop 20).take 4)).toArray)) (hf : L.length = 26) :
    YO Tryz.prog (.build 149 #[(0, x), (1, y)]) ty e bx F (.agg (ints (st0 L)).toArray) := YO.build98 hx hy (by simp; omega)
attribute [local irreducible] WC WL WD YO LO LoopEnd W.Fin Scalar SliceT FieldAt Row ArrT AllocT KnS Has W.One SrcE IntT
theorem d105XSt {G G' : Prop} (h : G') (s : Bx G' → G := by
  intro h
  first | (apply WC.draw (id := 1) [0, 1, 2, 3, 4, 5, 6, 7, 8] (.held 0 (.held 1 (.held 2 (.held 3 (.held 4 (.held 5 (.held 6 (.held 7 (.held 8 (.loud 9 (.loud 10 (.done)))))))))))) mixed (by kernel_rfl)) | (apply WC.draw (id := 8) [0, 1, 2, 3, 4, 5, 6, 7, 8, 9, 10, 11, 12, 14] (.held 0 (.held 1 (.held 2 (.held 3 (.held 4 (.held 5 (.held 6 (.held 7 (.held 8 (.held 9 (.held 10 (.held 11 (.held 12 (.loud 13 (.held 14 (.done)))))))))))))))) mixed (by kernel_rfl)) | (apply WC.draw (id := 9) [0, 2, 3, 4, 5, 6, 7, 8, 9, 10, 11] (.free 1 (.free 13 (.held 0 (.held 2 (.held 3 (.held 4 (.held 5 (.held 6 (.held 7 (.held 8 (.held 9 (.held 10 (.held 11 (.loud 12 (.free 14 (.loud 15 (.done))))))))))))))))) mixed (by kernel_rfl)) | (apply WC.draw (id := 19) [0, 1, 2, 3, 4, 5, 6, 7, 8, 9, 10, 11, 12, 13, 14, 15, 16, 17] (.held 0 (.held 1 (.held 2 (.held 3 (.held 4 (.held 5 (.held 6 (.held 7 (.held 8 (.held 9 (.held 10 (.held 11 (.held 12 (.held 13 (.held 14 (.held 15 (.held 16 (.held 17 (.loud 18 (.done)))))))))))))))))))) mixed (by kernel_rfl)) | fail
  exact Bx.h h) : G := s ⟨h⟩
theorem goYL {G G' : Prop} (h : G') (s : Bx G' → G := by
  intro h
  (apply WD.fy; exact rfl; (first | (apply YO.move; exact rfl) | (apply YO.assign; exact rfl) | (first | (apply YO.lss_t; exact rfl; exact rfl; omega) | (apply YO.lss_f; exact rfl; exact rfl; omega)) | (first | (apply YO.inc; exact rfl; exact rfl; omega) | (apply YO.add; exact rfl; exact rfl; omega; omega)) | (apply YO.len; (first | exact T.s22 | exact T.s32 | exact T.s38 | exact T.s109 | exact T.s111 | exact T.s161 | exact T.s23 | exact T.s171); exact rfl; exact knA) | (first | (apply YO.ix1; (first | exact T.s22 | exact T.s32 | exact T.s38 | exact T.s109 | exact T.s111 | exact T.s161 | exact T.s23 | exact T.s171); exact rfl; exact rfl; exact knA; omega) | (apply YO.ix; (first | exact T.s22 | exact T.s32 | exact T.s38 | exact T.s109 | exact T.s111 | exact T.s161 | exact T.s23 | exact T.s171); exact rfl; exact rfl; exact knA; omega) | (apply YO.ix1'; (first | exact T.s22 | exact T.s32 | exact T.s38 | exact T.s109 | exact T.s111 | exact T.s161 | exact T.s23 | exact T.s171); exact rfl; exact rfl; exact knA; omega; omega) | (apply YO.ix'; (first | exact T.s22 | exact T.s32 | exact T.s38 | exact T.s109 | exact T.s111 | exact T.s161 | exact T.s23 | exact T.s171); exact rfl; exact rfl; exact knA; omega; omega) | (apply YO.ixN; (first | exact T.a82 | exact T.a83); exact rfl; exact rfl; omega; ((try simp only [Nat.zero_add, Nat.mul_one, Nat.reduceAdd, Nat.reduceMul]); exact rfl)) | (apply YO.ixNI; (first | exact T.a82 | exact T.a83); exact rfl; exact rfl; omega; omega; ((try simp only [Nat.zero_add, Nat.mul_one, Nat.reduceAdd, Nat.reduceMul]); exact rfl))) | (first | (apply ldT0; (first | exact T.sc3 | exact T.sc4 | exact T.sc22 | exact T.sc26 | exact T.sc32 | exact T.sc38 | exact T.sc109 | exact T.sc111 | exact T.sc161 | exact T.sc164 | exact T.sc5 | exact T.sc9 | exact T.sc23 | exact T.sc73 | exact T.sc74 | exact T.sc81 | exact T.sc87 | exact T.sc94 | exact T.sc143 | exact T.sc144 | exact T.sc171 | exact T.sc182 | exact T.sc185); exact rfl; exact hmA; omega) | (apply ldT1; (first | exact T.sc3 | exact T.sc4 | exact T.sc22 | exact T.sc26 | exact T.sc32 | exact T.sc38 | exact T.sc109 | exact T.sc111 | exact T.sc161 | exact T.sc164 | exact T.sc5 | exact T.sc9 | exact T.sc23 | exact T.sc73 | exact T.sc74 | exact T.sc81 | exact T.sc87 | exact T.sc94 | exact T.sc143 | exact T.sc144 | exact T.sc171 | exact T.sc182 | exact T.sc185); exact rfl; exact hmA; omega) | (apply ldT2; (first | exact T.sc3 | exact T.sc4 | exact T.sc22 | exact T.sc26 | exact T.sc32 | exact T.sc38 | exact T.sc109 | exact T.sc111 | exact T.sc161 | exact T.sc164 | exact T.sc5 | exact T.sc9 | exact T.sc23 | exact T.sc73 | exact T.sc74 | exact T.sc81 | exact T.sc87 | exact T.sc94 | exact T.sc143 | exact T.sc144 | exact T.sc171 | exact T.sc182 | exact T.sc185); exact rfl; exact hmA; omega) | (apply ldT; (first | exact T.r35 | exact T.r37 | exact T.r59 | exact T.r103 | exact T.r114 | exact T.r76 | exact T.r78 | exact T.r82 | exact T.r83 | exact T.r85 | exact T.r89 | exact T.r149); exact rfl; exact hmA; omega) | (apply YO.ldWI0; (first | exact T.r35 | exact T.r37 | exact T.r59 | exact T.r103 | exact T.r114 | exact T.r76 | exact T.r78 | exact T.r82 | exact T.r83 | exact T.r85 | exact T.r89 | exact T.r149); exact rfl; exact meA; (first | omega | (simp only [List.length_set, List.length_replicate]; omega))) | (apply YO.ldWF0; (first | exact T.r35 | exact T.r37 | exact T.r59 | exact T.r103 | exact T.r114 | exact T.r76 | exact T.r78 | exact T.r82 | exact T.r83 | exact T.r85 | exact T.r89 | exact T.r149); exact rfl; exact hmA; (first | omega | (simp only [List.length_set, List.length_replicate]; omega))) | (apply YO.ldCI; (first | exact T.sc3 | exact T.sc4 | exact T.sc22 | exact T.sc26 | exact T.sc32 | exact T.sc38 | exact T.sc109 | exact T.sc111 | exact T.sc161 | exact T.sc164 | exact T.sc5 | exact T.sc9 | exact T.sc23 | exact T.sc73 | exact T.sc74 | exact T.sc81 | exact T.sc87 | exact T.sc94 | exact T.sc143 | exact T.sc144 | exact T.sc171 | exact T.sc182 | exact T.sc185); exact rfl; exact meA; (first | omega | (simp only [List.length_set, List.length_replicate]; omega))) | (apply YO.ldFI; (first | exact T.sc3 | exact T.sc4 | exact T.sc22 | exact T.sc26 | exact T.sc32 | exact T.sc38 | exact T.sc109 | exact T.sc111 | exact T.sc161 | exact T.sc164 | exact T.sc5 | exact T.sc9 | exact T.sc23 | exact T.sc73 | exact T.sc74 | exact T.sc81 | exact T.sc87 | exact T.sc94 | exact T.sc143 | exact T.sc144 | exact T.sc171 | exact T.sc182 | exact T.sc185); exact rfl; exact hmA; (first | omega | (simp only [List.length_set, List.length_replicate]; omega))) | (apply YO.ldF; (first | exact T.sc3 | exact T.sc4 | exact T.sc22 | exact T.sc26 | exact T.sc32 | exact T.sc38 | exact T.sc109 | exact T.sc111 | exact T.sc161 | exact T.sc164 | exact T.sc5 | exact T.sc9 | exact T.sc23 | exact T.sc73 | exact T.sc74 | exact T.sc81 | exact T.sc87 | exact T.sc94 | exact T.sc143 | exact T.sc144 | exact T.sc171 | exact T.sc182 | exact T.sc185); exact rfl; exact hmA; exact rfl) | (apply YO.ldS; (first | exact T.sc3 | exact T.sc4 | exact T.sc22 | exact T.sc26 | exact T.sc32 | exact T.sc38 | exact T.sc109 | exact T.sc111 | exact T.sc161 | exact T.sc164 | exact T.sc5 | exact T.sc9 | exact T.sc23 | exact T.sc73 | exact T.sc74 | exact T.sc81 | exact T.sc87 | exact T.sc94 | exact T.sc143 | exact T.sc144 | exact T.sc171 | exact T.sc182 | exact T.sc185); exact rfl; exact hsA; omega) | (apply YO.ldB; (first | exact T.sc3 | exact T.sc4 | exact T.sc22 | exact T.sc26 | exact T.sc32 | exact T.sc38 | exact T.sc109 | exact T.sc111 | exact T.sc161 | exact T.sc164 | exact T.sc5 | exact T.sc9 | exact T.sc23 | exact T.sc73 | exact T.sc74 | exact T.sc81 | exact T.sc87 | exact T.sc94 | exact T.sc143 | exact T.sc144 | exact T.sc171 | exact T.sc182 | exact T.sc185); exact rfl; exact meA; exact rfl) | (apply YO.ldOI; (first | exact T.sc3 | exact T.sc4 | exact T.sc22 | exact T.sc26 | exact T.sc32 | exact T.sc38 | exact T.sc109 | exact T.sc111 | exact T.sc161 | exact T.sc164 | exact T.sc5 | exact T.sc9 | exact T.sc23 | exact T.sc73 | exact T.sc74 | exact T.sc81 | exact T.sc87 | exact T.sc94 | exact T.sc143 | exact T.sc144 | exact T.sc171 | exact T.sc182 | exact T.sc185); exact rfl; exact meA; omega)) | (first | (apply YO.pick_t; exact rfl; exact rfl) | (apply YO.pick_f; exact rfl; exact rfl)) | (first | (apply YO.fieldE; (first | exact T.f35_0 | exact T.f35_1 | exact T.f37_0 | exact T.f37_1 | exact T.f59_0 | exact T.f59_1 | exact T.f59_2 | exact T.f103_0 | exact T.f103_1 | exact T.f114_0 | exact T.f114_1 | exact T.f76_0 | exact T.f76_1 | exact T.f76_2 | exact T.f78_0 | exact T.f78_1 | exact T.f78_2 | exact T.f85_0 | exact T.f85_1 | exact T.f85_2 | exact T.f85_3 | exact T.f85_4 | exact T.f89_0 | exact T.f89_1 | exact T.f89_2 | exact T.f89_3 | exact T.f89_4 | exact T.f149_0 | exact T.f149_1 | exact T.f149_2); exact rfl) | (apply YO.fieldN; (first | exact T.f35_0 | exact T.f35_1 | exact T.f37_0 | exact T.f37_1 | exact T.f59_0 | exact T.f59_1 | exact T.f59_2 | exact T.f103_0 | exact T.f103_1 | exact T.f114_0 | exact T.f114_1 | exact T.f76_0 | exact T.f76_1 | exact T.f76_2 | exact T.f78_0 | exact T.f78_1 | exact T.f78_2 | exact T.f85_0 | exact T.f85_1 | exact T.f85_2 | exact T.f85_3 | exact T.f85_4 | exact T.f89_0 | exact T.f89_1 | exact T.f89_2 | exact T.f89_3 | exact T.f89_4 | exact T.f149_0 | exact T.f149_1 | exact T.f149_2); exact rfl; ((try simp only [Nat.zero_add, Nat.mul_one, Nat.reduceAdd, Nat.reduceMul]); exact rfl))) | (first | (first | (apply YO.eql_t; exact rfl; exact rfl; omega) | (apply YO.eql_f; exact rfl; exact rfl; omega)) | (apply YO.eqNil_t; (first | exact T.s22 | exact T.s32 | exact T.s38 | exact T.s109 | exact T.s111 | exact T.s161 | exact T.s23 | exact T.s171); exact rfl; exact knA; assumption) | (apply YO.eqNil_f; (first | exact T.s22 | exact T.s32 | exact T.s38 | exact T.s109 | exact T.s111 | exact T.s161 | exact T.s23 | exact T.s171); exact rfl; exact knA; assumption)) | (first | (apply YO.neq_t; exact rfl; exact rfl; omega) | (apply YO.neq_f; exact rfl; exact rfl; omega)) | (apply YO.nil; exact rfl) | (apply YO.extract; exact rfl; exact rfl) | (first | (apply YO.gtr_t; exact rfl; exact rfl; omega) | (apply YO.gtr_f; exact rfl; exact rfl; omega)) | (first | (apply YO.geq_t; exact rfl; exact rfl; omega) | (apply YO.geq_f; exact rfl; exact rfl; omega)) | (first | (apply YO.leq_t; exact rfl; exact rfl; omega) | (apply YO.leq_f; exact rfl; exact rfl; omega)) | (apply YO.sub; exact rfl; exact rfl; omega; omega) | (apply YO.mul; exact rfl; exact rfl; omega; omega) | (apply YO.rem; exact rfl; exact rfl; omega; omega) | (apply YO.quo; exact rfl; exact rfl; omega; omega; omega) | (first | (apply YO.not_t; exact rfl) | (apply YO.not_f; exact rfl)) | (apply YO.neg; exact rfl; omega; omega) | (apply YO.max; exact rfl; exact rfl) | (apply YO.min; exact rfl; exact rfl) | (apply YO.makeFunc; (repeat (first | exact Evs.nil | (apply Evs.cons; exact rfl))); (repeat (first | exact Evs.nil | (apply Evs.cons; exact rfl)))) | (first | (apply YO.convU; (first | exact T.u3 | exact T.u26 | exact T.u164 | exact T.u5 | exact T.u73 | exact T.u74 | exact T.u182); (first | exact T.u3 | exact T.u26 | exact T.u164 | exact T.u5 | exact T.u73 | exact T.u74 | exact T.u182); exact rfl; omega; omega) | (apply YO.convI; (first | exact T.u3 | exact T.u26 | exact T.u164 | exact T.u5 | exact T.u73 | exact T.u74 | exact T.u182); (first | exact T.u3 | exact T.u26 | exact T.u164 | exact T.u5 | exact T.u73 | exact T.u74 | exact T.u182); exact rfl; omega; omega)) | (apply YO.shl'; exact rfl; exact rfl; omega; omega; (first | omega | decide); (first | omega | decide)) | (apply YO.shr'; exact rfl; exact rfl; omega; omega) | (first | (apply YO.and1; exact rfl; exact rfl; omega; omega) | (apply YO.and; exact rfl; exact rfl; omega; omega; omega; omega)) | (apply YO.or; exact rfl; exact rfl; omega; omega; omega; omega) | (apply YO.anot; exact rfl; exact rfl) | (first | (apply YO.sliceArr; (first | exact T.a82 | exact T.a83); exact rfl; exact rfl; omega; decide) | (apply YO.slice; (first | exact T.s22 | exact T.s32 | exact T.s38 | exact T.s109 | exact T.s111 | exact T.s161 | exact T.s23 | exact T.s171); exact rfl; exact knA; exact Or.inl ⟨rfl, rfl⟩; exact Or.inr ⟨_, rfl, rfl⟩; omega; omega) | (apply YO.slice; (first | exact T.s22 | exact T.s32 | exact T.s38 | exact T.s109 | exact T.s111 | exact T.s161 | exact T.s23 | exact T.s171); exact rfl; exact knA; exact Or.inr ⟨_, rfl, rfl⟩; exact Or.inl ⟨rfl, rfl⟩; omega; omega))); exact rfl; exact rfl)
  exact Bx.h h) : G := s ⟨h⟩
theorem ready1_c (p gp : Nat) (L : List Int) (hL : PlOK L) (x : Int) (h0 : 0 ≤ x) (h1 : x < 10) :
    FnB Tryz.prog 144 ([.int .i64 x] ++ [ptr gp]) [] [ce gp 143 [ptr p], ce p 85 (ints L)] (IsV (.bool (undB L x))) := by
  refine fn_of [(0, .int .i64 x), (1, ptr gp)] 12 Tryz.func144 rfl Tryz.ntmps144 (by kernel_rfl) rfl suA fun h0 => ?_
  have hl := hL.len
  have hb := hL.bd 24
  have hd := div_bd (o := L.getD 24 0) x.toNat (by omega)
  by_cases c : L.getD 24 0 / 2 ^ x.toNat % 2 = 0
  · repeat' (first | refine go ?_ | refine goX ?_ | refine goB ?_ | (refine goG ?_; intro g) | (refine goV ?_; intro v))
    refine WC.ret ?_
    exact Fin.v (ResE.t1 rfl rfl) meA (by rw [undB, decide_eq_true]; exact c)
  · repeat' (first | refine go ?_ | refine goX ?_ | refine goB ?_ | (refine goG ?_; intro g) | (refine goV ?_; intro v))
    refine WC.ret ?_
    exact Fin.v (ResE.t1 rfl rfl) meA (by rw [undB, decide_eq_false]; exact c)
set_option maxRecDepth 4000 in
theorem readyQ_c (p : Nat) (L : List Int) (v : Value) (avs : List Value) (ts : List Tk) (M : Nat) (i : Nat) (hg : AllGood M ts) (hn : ts.length ≤ 10) (hi : i < ts.length) (hL : PlOK L) :
    FnB Tryz.prog 106 [ptr p, v, .int .i64 i] [] [ce p 85 (ints L), sT v avs ts, sA avs ts] (IsV (.bool (readyQ ts L i))) := by
  refine fn_of [(0, ptr p), (1, v), (2, .int .i64 i)] 25 Tryz.func106 rfl Tryz.ntmps106 (by kernel_rfl) rfl suA fun h0 => ?_
  have hl := hL.len
  have hb := hL.bd 24
  have hd := div_bd (o := L.getD 24 0) ((i : Int)).toNat (by omega)
  by_cases c : L.getD 24 0 / 2 ^ ((i : Int)).toNat % 2 = 0
  · have hu : undB L (i : Int) = true := by rw [undB, decide_eq_true]; exact c
    repeat' (first | refine go ?_ | refine goX ?_ | refine goB ?_ | (refine goG ?_; intro g) | (refine goV ?_; intro v))
    refine WL.keep (g := g) (by repeat (first | exact Rem.head | apply Rem.tail)) ?_
    have hf : FnAt 144 [ptr g] [ce g 143 [ptr p], ce p 85 (ints L)] (tg ts i).after (undB L) := fun x hx => by
      obtain ⟨q, hq, rfl⟩ := after_mem hx
      have := good_after hg hi q hq
      exact ready1_c p g L hL _ this.1 (by omega)
    first | refine WL.callV (containsF_c (avs.getD i undef) (tg ts i).after 144 [ptr g] _ _ hf) ?_ | refine WD.callV (containsF_c (avs.getD i undef) (tg ts i).after 144 [ptr g] _ _ hf) ?_
    cases hx : (tg ts i).after.any (undB L)
    all_goals
      repeat' (first | refine go ?_ | refine goX ?_ | refine goB ?_ | (refine goG ?_; intro g) | (refine goV ?_; intro v))
      refine WC.ret ?_
      exact Fin.v (ResE.t1 rfl rfl) meA (by rw [readyQ, hu, hx]; rfl)
  · have hu : undB L (i : Int) = false := by rw [undB, decide_eq_false]; exact c
    repeat' (first | refine go ?_ | refine goX ?_ | refine goB ?_ | (refine goG ?_; intro g) | (refine goV ?_; intro v))
    refine WC.ret ?_
    exact Fin.v (ResE.t1 rfl rfl) meA (by rw [readyQ, hu]; rfl)
set_option maxHeartbeats 2000000 in
set_option maxRecDepth 4000 in
theorem state_c (s p : Nat) (v mp : Value) (avs : List Value) (ts : List Tk) (M : Nat) (goal : Int) (B L : List Int) (hg : AllGood M ts) (hn : ts.length ≤ 10) (hM : M ≤ 4) (hB : B.length = 26) (hL : PlOK L) :
    FnB Tryz.prog 105 [ptr s, ptr p] [] [ce s 89 (srch v M goal B mp), ce p 85 (ints L), sT v avs ts, sA avs ts] (IsV (.agg (ints (stateP ts M L)).toArray)) := by
  refine fn_of [(0, ptr s), (1, ptr p)] 122 Tryz.func105 rfl Tryz.ntmps105 (by kernel_rfl) rfl suA fun h0 => ?_
  have hl := hL.len
  have hdone := hL.bd 24
  have ht := good_time hg
  have hs0 := st0_len hl
  repeat' (first | refine go ?_ | refine goX ?_ | refine goB ?_ | (refine goG ?_; intro g) | (refine goV ?_; intro v) | refine goD ?_ | refine goXD ?_ | (refine goDG ?_; intro g) | (refine goDV ?_; intro v) | refine goYL ?_ | refine d105XSt ?_ | fail)
  (apply WD.k_load; exact rfl; (apply YO.ldWF; exact T.r83; exact rfl; exact hmA; omega); exact rfl; exact rfl)
  (apply WD.k_build; exact rfl; (apply YO.buildSt (L := L); exact rfl; exact rfl; omega); exact rfl; exact rfl)
  repeat' (first | refine go ?_ | refine goX ?_ | refine goB ?_ | (refine goG ?_; intro g) | (refine goV ?_; intro v) | refine goD ?_ | refine goXD ?_ | (refine goDG ?_; intro g) | (refine goDV ?_; intro v) | refine goYL ?_ | refine d105XSt ?_ | fail)
  rename_i g0
  revert g; intro gx
  refine WC.lp (σ := Nat) (fun a => [(25, .int .i64 (a : Int)), (24, .int .i64 (M : Int)), (5, ptr gx), (4, ptr g0), (0, ptr s), (1, ptr p)]) (fun a => [Ow.cells gx 149 (ints (swOut ts M (st0 L) a)), Ow.cells g0 149 (ints (List.replicate 15 0))]) (fun _ => [ge h0, ce s 89 (srch v M goal B mp), ce p 85 (ints L), sT v avs ts, sA avs ts]) (fun a => a ≤ M) (fun a => M - a) 0 (by simp) ?_
  rintro a ha
  have hX := swOut_len (ts := ts) (M := M) (X := st0 L) a
  rw [hs0] at hX
  have e : swOut ts M (st0 L) (a + 1) = swIn ts a (swOut ts M (st0 L) a) (M - (a + 1)) := rfl
  generalize hXg : swOut ts M (st0 L) a = X at *
  by_cases hlt : a < M
  · repeat' (first | refine go ?_ | refine goX ?_ | refine goB ?_ | (refine goG ?_; intro g) | (refine goV ?_; intro v) | refine goD ?_ | refine goXD ?_ | (refine goDG ?_; intro g) | (refine goDV ?_; intro v) | refine goYL ?_ | refine d105XSt ?_ | fail)
    refine WC.lp (σ := Nat) (fun j => [(7, .int .i64 ((a + 1 + j : Nat) : Int)), (6, .int .i64 (a : Int)), (25, .int .i64 (a : Int)), (24, .int .i64 (M : Int)), (5, ptr gx), (4, ptr g0), (0, ptr s), (1, ptr p)]) (fun j => [Ow.cells gx 149 (ints (swIn ts a X j)), Ow.cells g0 149 (ints (List.replicate 15 0))]) (fun _ => [ge h0, ce s 89 (srch v M goal B mp), ce p 85 (ints L), sT v avs ts, sA avs ts]) (fun j => a + 1 + j ≤ M) (fun j => M - j) 0 (by omega) ?_
    rintro j hj
    have hY := swIn_len (ts := ts) (a := a) (X := X) j
    rw [hX] at hY
    have e2 : swIn ts a X (j + 1) = if (swIn ts a X j).getD (1 + (a + 1 + j)) 0 < (swIn ts a X j).getD (1 + a) 0 ∧ alikeP ts a (a + 1 + j) = true then ((swIn ts a X j).set (1 + a) ((swIn ts a X j).getD (1 + (a + 1 + j)) 0)).set (1 + (a + 1 + j)) ((swIn ts a X j).getD (1 + a) 0) else swIn ts a X j := rfl
    generalize hYg : swIn ts a X j = Y at *
    by_cases hltj : a + 1 + j < M
    · by_cases c : Y.getD (1 + (a + 1 + j)) 0 < Y.getD (1 + a) 0
      · repeat' (first | refine go ?_ | refine goX ?_ | refine goB ?_ | (refine goG ?_; intro g) | (refine goV ?_; intro v) | refine goD ?_ | refine goXD ?_ | (refine goDG ?_; intro g) | (refine goDV ?_; intro v) | refine goYL ?_ | refine d105XSt ?_ | fail)
        first | refine WL.callV (alike_c s v mp avs ts M goal B a (a + 1 + j) hg hn hM hB (by omega)) ?_ | refine WD.callV (alike_c s v mp avs ts M goal B a (a + 1 + j) hg hn hM hB (by omega)) ?_
        cases hal : alikeP ts a (a + 1 + j) with
        | true =>
          rw [if_pos ⟨c, hal⟩] at e2
          repeat' (first | refine go ?_ | refine goX ?_ | refine goB ?_ | (refine goG ?_; intro g) | (refine goV ?_; intro v) | refine goD ?_ | refine goXD ?_ | (refine goDG ?_; intro g) | (refine goDV ?_; intro v) | refine goYL ?_ | refine d105XSt ?_ | fail)
          exact LoopEnd.mk (j + 1) (by omega) (by omega) suA (by rw [e2]; exact slA)
        | false =>
          rw [if_neg (by rw [hal]; simp)] at e2
          repeat' (first | refine go ?_ | refine goX ?_ | refine goB ?_ | (refine goG ?_; intro g) | (refine goV ?_; intro v) | refine goD ?_ | refine goXD ?_ | (refine goDG ?_; intro g) | (refine goDV ?_; intro v) | refine goYL ?_ | refine d105XSt ?_ | fail)
          exact LoopEnd.mk (j + 1) (by omega) (by omega) suA (by rw [e2]; exact slA)
      · rw [if_neg fun h => c h.1] at e2
        repeat' (first | refine go ?_ | refine goX ?_ | refine goB ?_ | (refine goG ?_; intro g) | (refine goV ?_; intro v) | refine goD ?_ | refine goXD ?_ | (refine goDG ?_; intro g) | (refine goDV ?_; intro v) | refine goYL ?_ | refine d105XSt ?_ | fail)
        exact LoopEnd.mk (j + 1) (by omega) (by omega) suA (by rw [e2]; exact slA)
    · obtain rfl : j = M - (a + 1) := by omega
      repeat' (first | refine go ?_ | refine goX ?_ | refine goB ?_ | (refine goG ?_; intro g) | (refine goV ?_; intro v) | refine goD ?_ | refine goXD ?_ | (refine goDG ?_; intro g) | (refine goDV ?_; intro v) | refine goYL ?_ | refine d105XSt ?_ | fail)
      exact LoopEnd.mk (a + 1) (by omega) (by omega) suA (by rw [e, hYg]; exact slA)
  · obtain rfl : a = M := by omega
    repeat' (first | refine go ?_ | refine goX ?_ | refine goB ?_ | (refine goG ?_; intro g) | (refine goV ?_; intro v) | refine goD ?_ | refine goXD ?_ | (refine goDG ?_; intro g) | (refine goDV ?_; intro v) | refine goYL ?_ | refine d105XSt ?_ | fail)
    refine WC.lp (σ := Nat) (fun i => [(73, .int .i64 (i : Int)), (72, .int .i64 (ts.length : Int)), (71, v), (5, ptr gx), (4, ptr g0), (0, ptr s), (1, ptr p)]) (fun i => [Ow.cells gx 149 (ints (endOut ts L X i)), Ow.cells g0 149 (ints (List.replicate 15 0))]) (fun _ => [ge h0, ce s 89 (srch v a goal B mp), ce p 85 (ints L), sT v avs ts, sA avs ts]) (fun i => i ≤ ts.length) (fun i => ts.length - i) 0 (by simp) ?_
    rintro i hi
    have hZ := endOut_len (ts := ts) (L := L) (X := X) i
    rw [hX] at hZ
    have e3 : endOut ts L X (i + 1) = if bitI (L.getD 24 0) (i : Int) = 0 then endIn ts L i (endOut ts L X i) (tg ts i).after.length else endOut ts L X i := rfl
    by_cases hlti : i < ts.length
    · have hdi := div_bd (o := L.getD 24 0) ((i : Int)).toNat (by omega)
      generalize hZg : endOut ts L X i = Z at *
      by_cases c : L.getD 24 0 / 2 ^ ((i : Int)).toNat % 2 = 0
      · rw [if_pos c] at e3
        repeat' (first | refine go ?_ | refine goX ?_ | refine goB ?_ | (refine goG ?_; intro g) | (refine goV ?_; intro v) | refine goD ?_ | refine goXD ?_ | (refine goDG ?_; intro g) | (refine goDV ?_; intro v) | refine goYL ?_ | refine d105XSt ?_ | fail)
        refine WC.lenI (avs.getD i undef) (tg ts i).after ?_ fun hal => ?_
        · exact hasA hmA hlti
        refine WC.lp (σ := Nat) (fun n => [(89, .int .i64 (n : Int)), (88, .int .i64 ((tg ts i).after.length : Int)), (87, avs.getD i undef), (73, .int .i64 (i : Int)), (72, .int .i64 (ts.length : Int)), (71, v), (5, ptr gx), (4, ptr g0), (0, ptr s), (1, ptr p)]) (fun n => [Ow.cells gx 149 (ints (endIn ts L i Z n)), Ow.cells g0 149 (ints (List.replicate 15 0))]) (fun _ => [ge h0, ce s 89 (srch v a goal B mp), ce p 85 (ints L), sT v avs ts, sA avs ts]) (fun n => n ≤ (tg ts i).after.length) (fun n => (tg ts i).after.length - n) 0 (by simp) ?_
        rintro n hn'
        have hW := endIn_len (ts := ts) (L := L) (i := i) (X := Z) n
        rw [hZ] at hW
        by_cases hltn : n < (tg ts i).after.length
        · obtain ⟨a1, a2⟩ := good_after hg hlti n hltn
          obtain ⟨A, hA⟩ := Int.eq_ofNat_of_zero_le a1
          have hA' : (tg ts i).after.getD n 0 = (A : Int) := hA
          have hb1 := hL.bd A
          have htA := ht A
          have hdA := div_bd (o := L.getD 24 0) ((A : Int)).toNat (by omega)
          have e4 : endIn ts L i Z (n + 1) = if bitI (L.getD 24 0) (A : Int) = 1 then (endIn ts L i Z n).set (5 + A) (L.getD A 0 + (tg ts A).time) else endIn ts L i Z n := by simp only [endIn, hA', Int.toNat_natCast]
          generalize hWg : endIn ts L i Z n = Wz at *
          by_cases c2 : L.getD 24 0 / 2 ^ ((A : Int)).toNat % 2 = 1
          · rw [if_pos c2] at e4
            repeat' (first | refine go ?_ | refine goX ?_ | refine goB ?_ | (refine goG ?_; intro g) | (refine goV ?_; intro v) | refine goD ?_ | refine goXD ?_ | (refine goDG ?_; intro g) | (refine goDV ?_; intro v) | refine goYL ?_ | refine d105XSt ?_ | fail)
            rw [hA']
            repeat' (first | refine go ?_ | refine goX ?_ | refine goB ?_ | (refine goG ?_; intro g) | (refine goV ?_; intro v) | refine goD ?_ | refine goXD ?_ | (refine goDG ?_; intro g) | (refine goDV ?_; intro v) | refine goYL ?_ | refine d105XSt ?_ | fail)
            exact LoopEnd.mk (n + 1) (by omega) (by omega) suA (by rw [e4]; exact slA)
          · rw [if_neg c2] at e4
            repeat' (first | refine go ?_ | refine goX ?_ | refine goB ?_ | (refine goG ?_; intro g) | (refine goV ?_; intro v) | refine goD ?_ | refine goXD ?_ | (refine goDG ?_; intro g) | (refine goDV ?_; intro v) | refine goYL ?_ | refine d105XSt ?_ | fail)
            rw [hA']
            repeat' (first | refine go ?_ | refine goX ?_ | refine goB ?_ | (refine goG ?_; intro g) | (refine goV ?_; intro v) | refine goD ?_ | refine goXD ?_ | (refine goDG ?_; intro g) | (refine goDV ?_; intro v) | refine goYL ?_ | refine d105XSt ?_ | fail)
            exact LoopEnd.mk (n + 1) (by omega) (by omega) suA (by rw [e4]; exact slA)
        · obtain rfl : n = (tg ts i).after.length := by omega
          repeat' (first | refine go ?_ | refine goX ?_ | refine goB ?_ | (refine goG ?_; intro g) | (refine goV ?_; intro v) | refine goD ?_ | refine goXD ?_ | (refine goDG ?_; intro g) | (refine goDV ?_; intro v) | refine goYL ?_ | refine d105XSt ?_ | fail)
          exact LoopEnd.mk (i + 1) (by omega) (by omega) suA (by rw [e3]; exact slA)
      · rw [if_neg c] at e3
        repeat' (first | refine go ?_ | refine goX ?_ | refine goB ?_ | (refine goG ?_; intro g) | (refine goV ?_; intro v) | refine goD ?_ | refine goXD ?_ | (refine goDG ?_; intro g) | (refine goDV ?_; intro v) | refine goYL ?_ | refine d105XSt ?_ | fail)
        exact LoopEnd.mk (i + 1) (by omega) (by omega) suA (by rw [e3]; exact slA)
    · obtain rfl : i = ts.length := by omega
      repeat' (first | refine go ?_ | refine goX ?_ | refine goB ?_ | (refine goG ?_; intro g) | (refine goV ?_; intro v) | refine goD ?_ | refine goXD ?_ | (refine goDG ?_; intro g) | (refine goDV ?_; intro v) | refine goYL ?_ | refine d105XSt ?_ | fail)
      refine WC.ret ?_
      exact Fin.v (ResE.cI rfl rfl meA T.r149 hZ) meA (by rw [stateP, hXg])
end S
end Go.Proofs.YthggloiigkbfeaaGreat
namespace Go.Proofs.YthggloiigkbfeaaGreat
namespace S
open W Go.RowKit
theorem map72 : Tryz.prog.underlying 87 = some (.map 149 4) := by kernel_rfl
theorem zero4 (w : World) : (zeroValue 4).run Tryz.prog w = .ok (.bool false) w := by
  obtain ⟨i, h1, h2⟩ := Option.map_eq_some_iff.1 (show (Tryz.prog.info? 4).map (·.zero) = some (some (.bool false)) by kernel_rfl)
  simp [zeroValue, typeInfo, h1, h2]
theorem st98 : Mp.StT Tryz.prog 149 4 10 := Mp.stT_of (a := 74) (b := 83) (c := 82) (by kernel_rfl) (by kernel_rfl) (by kernel_rfl) ⟨3, by kernel_rfl, by kernel_rfl, by kernel_rfl⟩ ⟨3, by kernel_rfl, by kernel_rfl, by kernel_rfl⟩ (by kernel_rfl) (by kernel_rfl) (by kernel_rfl) (by kernel_rfl) (by kernel_rfl)
section
variable {P : Program} {e : Env} {bx bx' : List Ow} {F : List Fct} {ty t tg g M n : Nat} {x y : Operand} {B p : List Int} {v mp : Value} {goal : Int} {K : RPost} {L rest : List Oper} {c : Code}
theorem LO.storeBest (hx : ev e x = some (.pointer (some ⟨g, 3, none⟩))) (hy : ev e y = some (.agg (ints p).toArray)) (hs : Sel bx (.cells g tg (srch v M goal B mp)) (.cells g tg (srch v M goal p mp)) bx') (hr : Row P t 26) (hB : B.length = 26) (hp : p.length = 26) (h : K undef bx' F) : LO P (.store t x y) ty e bx F K :=
  LO.store hx hy (vs := ints p) (by simp [Value.cells]) (by rw [hr.2]; simp [hp]) (ints_one p) hs (by simp [hB, hp]) (by
    simp only [setMany, srch, List.take_succ_cons, List.take_zero, List.length_map, hp]
    simp [hB]) h
theorem WL.perm {Q : Env → List Ow → List Fct → Prop} (hp : bx.Perm bx') (h : WL P n L rest e bx' F Q) : WL P n L rest e bx F Q := fun fr w0 a w Q' hQ hk hr ho => h fr w0 a w Q' hQ hk hr (ho.perm hp)
theorem perm22 {a b c d : Ow} : [a, b, c, d].Perm ([c, d] ++ [a, b]) := List.perm_append_comm (l₁ := [a, b])
theorem perm22' {a b c d : Ow} : ([c, d] ++ [a, b]).Perm [a, b, c, d] := List.perm_append_comm (l₁ := [c, d])
end
theorem pow_1024 {n : Nat} (h : n ≤ 10) : (2 : Int) ^ n ≤ 1024 := by
  have : n = 0 ∨ n = 1 ∨ n = 2 ∨ n = 3 ∨ n = 4 ∨ n = 5 ∨ n = 6 ∨ n = 7 ∨ n = 8 ∨ n = 9 ∨ n = 10 := by omega
  rcases this with rfl | rfl | rfl | rfl | rfl | rfl | rfl | rfl | rfl | rfl | rfl <;> decide
attribute [local irreducible] WC WL WD YO LO LoopEnd W.Fin Scalar SliceT FieldAt Row ArrT AllocT KnS Has W.One SrcE IntT
theorem d48XRu {G G' : Prop} (h : G') (s : Bx G' → G := by
  intro h
  first | (apply WC.draw (id := 1) [0, 1, 2, 3, 4, 5, 6, 7, 8, 9] (.held 0 (.held 1 (.held 2 (.held 3 (.held 4 (.held 5 (.held 6 (.held 7 (.held 8 (.held 9 (.done))))))))))) mixed (by kernel_rfl)) | (apply WC.draw (id := 2) [0, 1, 2, 3, 4, 5, 6, 7] (.held 0 (.held 1 (.held 2 (.held 3 (.held 4 (.held 5 (.held 6 (.held 7 (.done))))))))) mixed (by kernel_rfl)) | (apply WC.draw (id := 4) [0, 1, 2, 3, 4, 5, 6, 7, 8, 9, 10, 11, 13] (.held 0 (.held 1 (.held 2 (.held 3 (.held 4 (.held 5 (.held 6 (.held 7 (.held 8 (.held 9 (.held 10 (.held 11 (.loud 12 (.held 13 (.done))))))))))))))) mixed (by kernel_rfl)) | (apply WC.draw (id := 6) [0, 1, 2, 3, 4, 5] (.held 0 (.held 1 (.held 2 (.held 3 (.held 4 (.held 5 (.done))))))) mixed (by kernel_rfl)) | (apply WC.draw (id := 7) [0, 1, 2, 3, 4] (.held 0 (.held 1 (.held 2 (.held 3 (.held 4 (.loud 5 (.done))))))) mixed (by kernel_rfl)) | fail
  exact Bx.h h) : G := s ⟨h⟩
set_option maxHeartbeats 4000000 in
set_option maxRecDepth 4000 in
theorem run_c (sg m : Nat) (v : Value) (avs : List Value) (ts : List Tk) (M : Nat) (goal : Int) (hg : AllGood M ts) (hn : ts.length ≤ 10) (hM : M ≤ 4) : ∀ (f : Nat) (p : List Int) (s : RS), und p ts.length < f → PI ts p → SI s →
    FnB Tryz.prog 48 [ptr sg, .agg (ints p).toArray] [Ow.cells sg 89 (srch v M goal s.1 (.map (some m))), Ow.obj m (Mp.mobj s.2)] [sT v avs ts, sA avs ts]
      (IsB (.tuple #[]) [Ow.cells sg 89 (srch v M goal (runP ts M goal f p s).1 (.map (some m))), Ow.obj m (Mp.mobj (runP ts M goal f p s).2)])
  | 0, _, _, h, _, _ => by omega
  | f + 1, p, ⟨B, met⟩, hu, hp, hs => by
    have ih := run_c sg m v avs ts M goal hg hn hM f
    show FnB Tryz.prog 48 [ptr sg, .agg (ints p).toArray] [Ow.cells sg 89 (srch v M goal B (.map (some m))), Ow.obj m (Mp.mobj met)] [sT v avs ts, sA avs ts] _
    refine fn_of [(0, ptr sg), (1, .agg (ints p).toArray)] 99 Tryz.func48 rfl Tryz.ntmps48 (by kernel_rfl) rfl suA fun h0 => ?_
    have hP := hp.ok
    have hl := hP.len
    have hB : B.length = 26 := hs.l
    have hb24 := hP.bd 24
    have e5 := pow_e ts.length
    have hpw := pow_1024 hn
    have hp1 := pow_1 ts.length
    have c5 : (1 : Int) * 2 ^ ((ts.length : Int)).toNat ≤ 9223372036854775807 := by rw [e5]; omega
    have c6 : 0 ≤ (1 : Int) * 2 ^ ((ts.length : Int)).toNat := by rw [e5]; omega
    have hrun : runP ts M goal (f + 1) p (B, met) = if p.getD 24 0 = 2 ^ ts.length - 1 then (if p.getD 25 0 < B.getD 25 0 then (p, met) else (B, met))
      else if B.getD 25 0 = goal ∨ hopP ts M p (B.getD 25 0) = true then (B, met) else if stateP ts M p ∈ met then (B, met) else outP (runP ts M goal f) ts M p (B, met ++ [stateP ts M p]) ts.length := rfl
    by_cases c1 : p.getD 24 0 = 1 * 2 ^ ((ts.length : Int)).toNat - 1
    · rw [if_pos (by rw [c1, e5])] at hrun
      by_cases c2 : p.getD 25 0 < B.getD 25 0
      · rw [if_pos c2] at hrun
        repeat' (first | refine go ?_ | refine goX ?_ | refine goB ?_ | (refine goG ?_; intro g) | (refine goV ?_; intro v) | refine goD ?_ | refine goXD ?_ | (refine goDG ?_; intro g) | (refine goDV ?_; intro v) | refine d48XRu ?_ | fail)
        refine WL.l0 rfl (LO.storeBest rfl rfl (by repeat (first | exact Sel.head | apply Sel.tail)) T.r85 hB hl ?_)
        repeat' (first | refine go ?_ | refine goX ?_ | refine goB ?_ | (refine goG ?_; intro g) | (refine goV ?_; intro v) | refine goD ?_ | refine goXD ?_ | (refine goDG ?_; intro g) | (refine goDV ?_; intro v) | refine d48XRu ?_ | fail)
        refine WC.ret ?_
        exact Fin.p [Ow.cells sg 89 (srch v M goal p (.map (some m))), Ow.obj m (Mp.mobj met)] [] (ResE.t0 rfl) meA slA .nil ⟨rfl, by rw [hrun], rfl⟩
      · rw [if_neg c2] at hrun
        repeat' (first | refine go ?_ | refine goX ?_ | refine goB ?_ | (refine goG ?_; intro g) | (refine goV ?_; intro v) | refine goD ?_ | refine goXD ?_ | (refine goDG ?_; intro g) | (refine goDV ?_; intro v) | refine d48XRu ?_ | fail)
        refine WC.ret ?_
        exact Fin.p [Ow.cells sg 89 (srch v M goal B (.map (some m))), Ow.obj m (Mp.mobj met)] [] (ResE.t0 rfl) meA slA .nil ⟨rfl, by rw [hrun], rfl⟩
    rw [if_neg (by rw [← e5]; exact c1)] at hrun
    by_cases c3 : B.getD 25 0 = goal
    · rw [if_pos (.inl c3)] at hrun
      repeat' (first | refine go ?_ | refine goX ?_ | refine goB ?_ | (refine goG ?_; intro g) | (refine goV ?_; intro v) | refine goD ?_ | refine goXD ?_ | (refine goDG ?_; intro g) | (refine goDV ?_; intro v) | refine d48XRu ?_ | fail)
      refine WC.ret ?_
      exact Fin.p [Ow.cells sg 89 (srch v M goal B (.map (some m))), Ow.obj m (Mp.mobj met)] [] (ResE.t0 rfl) meA slA .nil ⟨rfl, by rw [hrun], rfl⟩
    repeat' (first | refine go ?_ | refine goX ?_ | refine goB ?_ | (refine goG ?_; intro g) | (refine goV ?_; intro v) | refine goD ?_ | refine goXD ?_ | (refine goDG ?_; intro g) | (refine goDV ?_; intro v) | refine d48XRu ?_ | fail)
    first | refine WL.callV (hopeless_c sg g v (.map (some m)) avs ts M goal B p hg hn hM hB hP) ?_ | refine WD.callV (hopeless_c sg g v (.map (some m)) avs ts M goal B p hg hn hM hB hP) ?_
    cases c4 : hopP ts M p (B.getD 25 0) with
    | true =>
      rw [if_pos (.inr c4)] at hrun
      repeat' (first | refine go ?_ | refine goX ?_ | refine goB ?_ | (refine goG ?_; intro g) | (refine goV ?_; intro v) | refine goD ?_ | refine goXD ?_ | (refine goDG ?_; intro g) | (refine goDV ?_; intro v) | refine d48XRu ?_ | fail)
      refine WC.ret ?_
      exact Fin.p [Ow.cells sg 89 (srch v M goal B (.map (some m))), Ow.obj m (Mp.mobj met)] [] (ResE.t0 rfl) meA slA .nil ⟨rfl, by rw [hrun], rfl⟩
    | false =>
      rw [if_neg (fun h => by rcases h with h | h; exact c3 h; rw [c4] at h; cases h)] at hrun
      revert g; intro gp
      have hsr := state_rng (M := M) hg hP
      have hsl := hsr.1
      repeat' (first | refine go ?_ | refine goX ?_ | refine goB ?_ | (refine goG ?_; intro g) | (refine goV ?_; intro v) | refine goD ?_ | refine goXD ?_ | (refine goDG ?_; intro g) | (refine goDV ?_; intro v) | refine d48XRu ?_ | fail)
      first | refine WL.callV (state_c sg gp v (.map (some m)) avs ts M goal B p hg hn hM hB hP) ?_ | refine WD.callV (state_c sg gp v (.map (some m)) avs ts M goal B p hg hn hM hB hP) ?_
      repeat' (first | refine go ?_ | refine goX ?_ | refine goB ?_ | (refine goG ?_; intro g) | (refine goV ?_; intro v) | refine goD ?_ | refine goXD ?_ | (refine goDG ?_; intro g) | (refine goDV ?_; intro v) | refine d48XRu ?_ | fail)
      (apply WD.k_lookup; exact rfl; (apply YO.lookM (ks := met) st98 map72 zero4; exact rfl; exact rfl; exact meA; exact hsr.1; exact hsr.2; exact hs.k); exact rfl; exact rfl)
      by_cases c5' : stateP ts M p ∈ met
      · rw [if_pos c5'] at hrun
        rw [decide_eq_true c5']
        repeat' (first | refine go ?_ | refine goX ?_ | refine goB ?_ | (refine goG ?_; intro g) | (refine goV ?_; intro v) | refine goD ?_ | refine goXD ?_ | (refine goDG ?_; intro g) | (refine goDV ?_; intro v) | refine d48XRu ?_ | fail)
        refine WC.ret ?_
        exact Fin.p [Ow.cells sg 89 (srch v M goal B (.map (some m))), Ow.obj m (Mp.mobj met)] [] (ResE.t0 rfl) meA slA .nil ⟨rfl, by rw [hrun], rfl⟩
      · rw [if_neg c5'] at hrun
        rw [decide_eq_false c5']
        repeat' (first | refine go ?_ | refine goX ?_ | refine goB ?_ | (refine goG ?_; intro g) | (refine goV ?_; intro v) | refine goD ?_ | refine goXD ?_ | (refine goDG ?_; intro g) | (refine goDV ?_; intro v) | refine d48XRu ?_ | fail)
        have hs2 : SI (B, met ++ [stateP ts M p]) := SI.add hg hP hs
        refine WD.l0 (by exact rfl) rfl (LO.updM (ks := met) st98 map72 rfl rfl rfl (by repeat (first | exact Sel.head | apply Sel.tail)) hsr.1 hsr.2 hs.k c5' ⟨.inl (by kernel_rfl), ?_⟩)
        repeat' (first | refine go ?_ | refine goX ?_ | refine goB ?_ | (refine goG ?_; intro g) | (refine goV ?_; intro v) | refine goD ?_ | refine goXD ?_ | (refine goDG ?_; intro g) | (refine goDV ?_; intro v) | refine d48XRu ?_ | fail)
        obtain ⟨s0, hX⟩ : ∃ s0 : RS, s0 = (B, met ++ [stateP ts M p]) := ⟨_, rfl⟩
        rw [← hX] at hrun hs2
        have hout := outP_SI (rec := runP ts M goal f) hM (p := p) (fun i k s hi hk hr hs => runP_SI hg hn hM f _ s (hp.step hg hn hi hk (ready_und hr)).1 hs) hs2
        refine WC.lp (σ := Nat) (fun i => [(62, .int .i64 (i : Int)), (61, .int .i64 (ts.length : Int)), (60, v), (3, ptr gp), (0, ptr sg)]) (fun i => [Ow.cells gp 85 (ints p), Ow.cells sg 89 (srch v M goal (outP (runP ts M goal f) ts M p s0 i).1 (.map (some m))), Ow.obj m (Mp.mobj (outP (runP ts M goal f) ts M p s0 i).2)]) (fun _ => [ge h0, sT v avs ts, sA avs ts]) (fun i => i ≤ ts.length) (fun i => ts.length - i) 0 (by simp) ?_ suA (by subst hX; exact slA)
        rintro i hi
        have hsi := hout i hi
        have eo : outP (runP ts M goal f) ts M p s0 (i + 1) = if readyQ ts p i = true then innP (runP ts M goal f) ts p i (outP (runP ts M goal f) ts M p s0 i) M else outP (runP ts M goal f) ts M p s0 i := rfl
        generalize hsg : outP (runP ts M goal f) ts M p s0 i = s1 at *
        clear hX hs2 hout
        by_cases hlt : i < ts.length
        · have hoi := good_on hg hM i
          have hu1 : readyQ ts p i = true → ∀ k, k < 4 → PI ts (withP ts p i k) ∧ und (withP ts p i k) ts.length < f := fun hr k hk => by
            have := hp.step hg hn hlt hk (ready_und hr)
            exact ⟨this.1, by omega⟩
          have hinn := fun (hr : readyQ ts p i = true) => innP_SI (rec := runP ts M goal f) (p := p) (ts := ts) (i := i) (fun k s hk hs => runP_SI hg hn hM f _ s (hu1 hr k hk).1 hs) hsi
          repeat' (first | refine go ?_ | refine goX ?_ | refine goB ?_ | (refine goG ?_; intro g) | (refine goV ?_; intro v) | refine goD ?_ | refine goXD ?_ | (refine goDG ?_; intro g) | (refine goDV ?_; intro v) | refine d48XRu ?_ | fail)
          revert g; intro gt
          refine WC.lp (σ := Nat) (fun k => [(7, .int .i64 (k : Int)), (6, ptr gt), (5, .int .i64 (i : Int)), (62, .int .i64 (i : Int)), (61, .int .i64 (ts.length : Int)), (60, v), (3, ptr gp), (0, ptr sg)]) (fun k => [Ow.cells gt 76 [.int .i64 (tg ts i).time, .int .i64 (tg ts i).on, avs.getD i undef], Ow.cells gp 85 (ints p), Ow.cells sg 89 (srch v M goal (innP (runP ts M goal f) ts p i s1 k).1 (.map (some m))), Ow.obj m (Mp.mobj (innP (runP ts M goal f) ts p i s1 k).2)]) (fun _ => [ge h0, sT v avs ts, sA avs ts]) (fun k => k ≤ M ∧ (0 < k → readyQ ts p i = true)) (fun k => M - k) 0 (by simp) ?_
          rintro k ⟨hk, hkr⟩
          by_cases hkM : k < M
          · cases hrd : readyQ ts p i with
            | true =>
              have hsk := hinn hrd k (by omega)
              have ei : innP (runP ts M goal f) ts p i s1 (k + 1) = if bitI (tg ts i).on (k : Int) = 1 then runP ts M goal f (withP ts p i k) (innP (runP ts M goal f) ts p i s1 k) else innP (runP ts M goal f) ts p i s1 k := rfl
              generalize hsk2 : innP (runP ts M goal f) ts p i s1 k = s2 at *
              have hsl2 := hsk.l
              have hd := div_bd (o := (tg ts i).on) ((k : Int)).toNat hoi.1
              by_cases cb : (tg ts i).on / 2 ^ ((k : Int)).toNat % 2 = 1
              · rw [if_pos cb] at ei
                repeat' (first | refine go ?_ | refine goX ?_ | refine goB ?_ | (refine goG ?_; intro g) | (refine goV ?_; intro v) | refine goD ?_ | refine goXD ?_ | (refine goDG ?_; intro g) | (refine goDV ?_; intro v) | refine d48XRu ?_ | fail)
                first | refine WL.callV (readyQ_c gp p v avs ts M i hg hn hlt hP) ?_ | refine WD.callV (readyQ_c gp p v avs ts M i hg hn hlt hP) ?_
                rw [hrd]
                repeat' (first | refine go ?_ | refine goX ?_ | refine goB ?_ | (refine goG ?_; intro g) | (refine goV ?_; intro v) | refine goD ?_ | refine goXD ?_ | (refine goDG ?_; intro g) | (refine goDV ?_; intro v) | refine d48XRu ?_ | fail)
                first | refine WL.callV (with_c gp p v avs ts M i k hg hn hlt (by omega) hP) ?_ | refine WD.callV (with_c gp p v avs ts M i k hg hn hlt (by omega) hP) ?_
                repeat' (first | refine go ?_ | refine goX ?_ | refine goB ?_ | (refine goG ?_; intro g) | (refine goV ?_; intro v) | refine goD ?_ | refine goXD ?_ | (refine goDG ?_; intro g) | (refine goDV ?_; intro v) | refine d48XRu ?_ | fail)
                refine WL.callG [Ow.cells sg 89 (srch v M goal s2.1 (.map (some m))), Ow.obj m (Mp.mobj s2.2)] [Ow.cells gt 76 [.int .i64 (tg ts i).time, .int .i64 (tg ts i).on, avs.getD i undef], Ow.cells gp 85 (ints p)] perm22 (ih (withP ts p i k) s2 (hu1 hrd k (by omega)).2 (hu1 hrd k (by omega)).1 hsk) ?_
                rintro _ _ _ ⟨rfl, rfl, rfl⟩
                refine WL.perm perm22' ?_
                rw [List.nil_append]
                repeat' (first | refine go ?_ | refine goX ?_ | refine goB ?_ | (refine goG ?_; intro g) | (refine goV ?_; intro v) | refine goD ?_ | refine goXD ?_ | (refine goDG ?_; intro g) | (refine goDV ?_; intro v) | refine d48XRu ?_ | fail)
                exact LoopEnd.mk (k + 1) ⟨by omega, fun _ => by first | exact hrd | rfl⟩ (by omega) suA (by rw [ei]; exact slA)
              · rw [if_neg cb] at ei
                repeat' (first | refine go ?_ | refine goX ?_ | refine goB ?_ | (refine goG ?_; intro g) | (refine goV ?_; intro v) | refine goD ?_ | refine goXD ?_ | (refine goDG ?_; intro g) | (refine goDV ?_; intro v) | refine d48XRu ?_ | fail)
                first | refine WL.callV (readyQ_c gp p v avs ts M i hg hn hlt hP) ?_ | refine WD.callV (readyQ_c gp p v avs ts M i hg hn hlt hP) ?_
                rw [hrd]
                repeat' (first | refine go ?_ | refine goX ?_ | refine goB ?_ | (refine goG ?_; intro g) | (refine goV ?_; intro v) | refine goD ?_ | refine goXD ?_ | (refine goDG ?_; intro g) | (refine goDV ?_; intro v) | refine d48XRu ?_ | fail)
                exact LoopEnd.mk (k + 1) ⟨by omega, fun _ => by first | exact hrd | rfl⟩ (by omega) suA (by rw [ei]; exact slA)
            | false =>
              obtain rfl : k = 0 := by
                rcases Nat.eq_zero_or_pos k with h | h
                · exact h
                · have := hkr h; rw [hrd] at this; cases this
              rw [hrd, if_neg (by simp)] at eo
              repeat' (first | refine go ?_ | refine goX ?_ | refine goB ?_ | (refine goG ?_; intro g) | (refine goV ?_; intro v) | refine goD ?_ | refine goXD ?_ | (refine goDG ?_; intro g) | (refine goDV ?_; intro v) | refine d48XRu ?_ | fail)
              first | refine WL.callV (readyQ_c gp p v avs ts M i hg hn hlt hP) ?_ | refine WD.callV (readyQ_c gp p v avs ts M i hg hn hlt hP) ?_
              rw [hrd]
              repeat' (first | refine go ?_ | refine goX ?_ | refine goB ?_ | (refine goG ?_; intro g) | (refine goV ?_; intro v) | refine goD ?_ | refine goXD ?_ | (refine goDG ?_; intro g) | (refine goDV ?_; intro v) | refine d48XRu ?_ | fail)
              exact LoopEnd.mk (i + 1) (by omega) (by omega) suA (by rw [eo]; exact slA)
          · obtain rfl : k = M := by omega
            by_cases hk0 : 0 < k
            · rw [if_pos (hkr hk0)] at eo
              repeat' (first | refine go ?_ | refine goX ?_ | refine goB ?_ | (refine goG ?_; intro g) | (refine goV ?_; intro v) | refine goD ?_ | refine goXD ?_ | (refine goDG ?_; intro g) | (refine goDV ?_; intro v) | refine d48XRu ?_ | fail)
              exact LoopEnd.mk (i + 1) (by omega) (by omega) suA (by rw [eo]; exact slA)
            · obtain rfl : k = 0 := by omega
              have eo' : outP (runP ts 0 goal f) ts 0 p s0 (i + 1) = s1 := by rw [eo]; split <;> rfl
              repeat' (first | refine go ?_ | refine goX ?_ | refine goB ?_ | (refine goG ?_; intro g) | (refine goV ?_; intro v) | refine goD ?_ | refine goXD ?_ | (refine goDG ?_; intro g) | (refine goDV ?_; intro v) | refine d48XRu ?_ | fail)
              exact LoopEnd.mk (i + 1) (by omega) (by omega) suA (by rw [eo']; exact slA)
        · obtain rfl : i = ts.length := by omega
          repeat' (first | refine go ?_ | refine goX ?_ | refine goB ?_ | (refine goG ?_; intro g) | (refine goV ?_; intro v) | refine goD ?_ | refine goXD ?_ | (refine goDG ?_; intro g) | (refine goDV ?_; intro v) | refine d48XRu ?_ | fail)
          exact Fin.p [Ow.cells sg 89 (srch v M goal s1.1 (.map (some m))), Ow.obj m (Mp.mobj s1.2)] [] (ResE.t0 rfl) meA slA .nil ⟨rfl, by rw [hrun, hsg], rfl⟩
end S
end Go.Proofs.YthggloiigkbfeaaGreat
namespace Go.Proofs.YthggloiigkbfeaaGreat
namespace S
open W Go.RowKit
def sC (cs : List Value) (C : List (List Int)) (lo : Nat) : Fct where
  p h := ∀ j, lo ≤ j → j < C.length → (sI (cs.getD j undef) (C.getD j [])).p h
  mono _ _ hl hp j h1 h2 := (sI _ _).mono _ _ hl (hp j h1 h2)
theorem hasC {F : List Fct} {cs : List Value} {C : List (List Int)} {lo j : Nat} (h : Has F (sC cs C lo)) (h1 : lo ≤ j) (h2 : j < C.length) : Has F (sI (cs.getD j undef) (C.getD j [])) := by
  unfold Has at *; exact fun ph hf => h ph hf j h1 h2
theorem getD_setV {l : List Value} {i j : Nat} {x : Value} (h : i < l.length) : (l.set i x).getD j undef = if i = j then x else l.getD j undef := by
  simp only [List.getD_eq_getElem?_getD, List.getElem?_set]
  by_cases h1 : i = j
  · subst h1; simp [h]
  · simp [h1]
theorem sC_step {F : List Fct} {cs : List Value} {C : List (List Int)} {i : Nat} {v : Value} {c : List Int} (h : Has F (sC cs C (i + 1))) (hv : Has F (sI v c)) (hc : i < cs.length) (hC : i < C.length) : Has F (sC (cs.set i v) (C.set i c) i) := by
  unfold Has at *
  intro ph hf j h1 h2
  rw [getD_setV hc, getD_setL]
  by_cases hij : i = j
  · rw [if_pos hij, if_pos ⟨hij, hC⟩]; exact hv ph hf
  · rw [if_neg hij, if_neg (fun h => hij h.1)]
    exact h ph hf j (by omega) (by simpa using h2)
theorem sC_none {F : List Fct} (cs : List Value) (C : List (List Int)) (lo : Nat) (h : C.length ≤ lo) : Has F (sC cs C lo) := fun _ _ j h1 h2 => by omega
theorem sI_nil {F : List Fct} : Has F (sI (.slice none 0 0) []) := fun _ _ => ⟨none, 0, rfl, Nat.le_refl _, by simp [maxLen], .inl ⟨rfl, rfl, rfl⟩⟩
theorem made1 (z : Value) (hz : z.cells = #[z]) (n : Nat) : (madeCells z.cells (n * 1)).toList = List.replicate n z := by
  rw [hz, Nat.mul_one]
  apply List.ext_getElem
  · simp [madeCells]
  · intro i h1 h2
    simp [madeCells, Nat.mod_one]
section
variable {P : Program} {n : Nat} {L rest : List Oper} {e : Env} {bx bx' b0 : List Ow} {F F0 : List Fct} {Q : Env → List Ow → List Fct → Prop} {hs : List Nat} {r : Plan} {c : Code} {Q2 : Post}
theorem WL.fact (f : Fct) (hf : Has F f) (h : WL P n L rest e bx (f :: F) Q) : WL P n L rest e bx F Q := fun fr w0 a w Q' hQ hk hr ho => h fr w0 a w Q' hQ hk hr (ho.add (ho.has hf))
theorem WL.freezeI {v : Value} {el : Nat} {l : List Int} (hs : Sel bx (.slice v el 1 (ints l)) (.slice (.slice none 0 0) el 1 []) bx') (h : WL P n L rest e bx' (sI v l :: F) Q) : WL P n L rest e bx F Q := fun fr w0 a w Q' hQ hk hr ho => h fr w0 a w Q' hQ hk hr (ho.freeze hs (by simp) (by decide) _ fun j hj => by
    have hj' : j < l.length := by omega
    simp [hj'])
theorem WD.perm (hp : bx.Perm bx') (h : WD P n L hs b0 F0 r e bx' F Q) : WD P n L hs b0 F0 r e bx F Q := fun fr w0 listed a w fuel Q' h1 h2 h3 h4 h5 h6 hk hr ho hf => h fr w0 listed a w fuel Q' h1 h2 h3 h4 h5 h6 hk hr (ho.perm hp) hf
theorem YO.ldOv {t el ty : TypeId} {x : Operand} {v u : Value} {j : Nat} {cs : List Value} (hs : Scalar P t) (hx : ev e x = some (.pointer (some (eaddr v j)))) (hb : Ow.slice v el 1 cs ∈ bx) (hu : cs.getD j undef = u) (hj : j < cs.length) : YO P (.load t x) ty e bx F u :=
  YO.ldO hs hx hb (by rw [← hu, List.getD_eq_getElem?_getD, List.getElem?_eq_getElem hj]; rfl)
end
attribute [local irreducible] WC WL WD YO LO LoopEnd W.Fin Scalar SliceT FieldAt Row ArrT AllocT KnS Has W.One SrcE IntT
theorem d98XCh {G G' : Prop} (h : G') (s : Bx G' → G := by
  intro h
  first | (apply WC.draw (id := 1) [0, 1, 3, 4, 6, 7] (.held 0 (.held 1 (.held 3 (.held 4 (.fork 2 (.held 6 (.loud 5 (.held 7 (.done)))) 5 (.loud 2 (.held 6 (.held 7 (.done))))))))) mixed (by kernel_rfl)) | (apply WC.draw (id := 11) [0, 1, 2, 3, 4, 5, 7, 8, 9, 10, 11, 12, 13, 14, 15, 16, 17, 18, 19, 20, 21] (.held 0 (.held 1 (.held 2 (.held 3 (.held 4 (.held 5 (.loud 6 (.held 7 (.held 8 (.held 9 (.held 10 (.held 11 (.held 12 (.held 13 (.held 14 (.held 15 (.held 16 (.held 17 (.held 18 (.held 19 (.held 20 (.held 21 (.done))))))))))))))))))))))) mixed (by kernel_rfl)) | (apply WC.draw (id := 17) [0, 1, 2, 3, 4, 5, 6, 7, 8, 9] (.held 0 (.held 1 (.held 2 (.held 3 (.held 4 (.held 5 (.held 6 (.held 7 (.held 8 (.held 9 (.done))))))))))) mixed (by kernel_rfl)) | fail
  exact Bx.h h) : G := s ⟨h⟩
set_option maxHeartbeats 4000000 in
set_option maxRecDepth 4000 in
theorem chain_c (vt : Value) (avs : List Value) (ts : List Tk) (M : Nat) (hg : AllGood M ts) (hn : ts.length ≤ 10) :
    FnB Tryz.prog 98 [vt] [] [sT vt avs ts, sA avs ts] (fun u b G => ∃ o, u = .tuple #[o, .int .i64 (chainP ts).2] ∧ b = [] ∧ G = [sI o (chainP ts).1]) := by
  refine fn_of [(0, vt)] 110 Tryz.func98 rfl Tryz.ntmps98 (by kernel_rfl) rfl suA fun h0 => ?_
  have ht := good_time hg
  repeat' (first | refine go ?_ | refine goX ?_ | refine goB ?_ | (refine goG ?_; intro g) | (refine goV ?_; intro v))
  refine WC.cutT (σ := Value × Value) (fun s => [(4, s.1), (5, s.2), (0, vt)]) (fun s => [Ow.slice s.2 3 1 (ints (List.replicate ts.length 0)), Ow.slice s.1 22 1 (List.replicate ts.length (.slice none 0 0))]) (fun _ => [ge h0, sT vt avs ts, sA avs ts]) (fun _ => True) ?_ ?_
  · repeat' (first | refine go ?_ | refine goX ?_ | refine goB ?_ | (refine goG ?_; intro g) | (refine goV ?_; intro v) | refine goD ?_ | refine goXD ?_ | (refine goDG ?_; intro g) | (refine goDV ?_; intro v) | refine d98XCh ?_ | fail)
    apply WD.fork2
    · exact rfl
    · exact rfl
    · exact rfl
    · exact rfl
    · exact rfl
    · exact rfl
    · refine LO.make T.e171 rfl rfl (by omega) (by omega) (made1 _ rfl _) (fun b => ⟨.inr ⟨slA, fun _ h => h⟩, ?_⟩)
      repeat' (first | refine go ?_ | refine goX ?_ | refine goB ?_ | (refine goG ?_; intro g) | (refine goV ?_; intro v) | refine goD ?_ | refine goXD ?_ | (refine goDG ?_; intro g) | (refine goDV ?_; intro v) | refine d98XCh ?_ | fail)
      (apply WD.l; exact rfl; exact rfl; exact rfl; refine LO.make T.e22 rfl rfl (by omega) (by omega) (made1 _ rfl _) (fun t => ⟨.inr ⟨slA, fun _ h => h⟩, ?_⟩))
      (apply WD.k_assign; exact rfl; (apply YO.assign; exact rfl); exact rfl; exact rfl)
      refine WD.nil ?_
      exact ⟨(b, t), trivial, suA, by rw [ints, List.map_replicate]; exact slA, sfA⟩
    · refine LO.make T.e22 rfl rfl (by omega) (by omega) (made1 _ rfl _) (fun t => ⟨.inr ⟨slA, fun _ h => h⟩, ?_⟩)
      repeat' (first | refine go ?_ | refine goX ?_ | refine goB ?_ | (refine goG ?_; intro g) | (refine goV ?_; intro v) | refine goD ?_ | refine goXD ?_ | (refine goDG ?_; intro g) | (refine goDV ?_; intro v) | refine d98XCh ?_ | fail)
      (apply WD.l; exact rfl; exact rfl; exact rfl; refine LO.make T.e171 rfl rfl (by omega) (by omega) (made1 _ rfl _) (fun b => ⟨.inr ⟨slA, fun _ h => h⟩, ?_⟩))
      refine WD.perm (List.Perm.swap _ _ _) ?_
      repeat' (first | refine go ?_ | refine goX ?_ | refine goB ?_ | (refine goG ?_; intro g) | (refine goV ?_; intro v) | refine goD ?_ | refine goXD ?_ | (refine goDG ?_; intro g) | (refine goDV ?_; intro v) | refine d98XCh ?_ | fail)
      exact ⟨(b, t), trivial, suA, by rw [ints, List.map_replicate]; exact slA, sfA⟩
  rintro ⟨bv, tv⟩ _
  repeat' (first | refine go ?_ | refine goX ?_ | refine goB ?_ | (refine goG ?_; intro g) | (refine goV ?_; intro v) | refine goD ?_ | refine goXD ?_ | (refine goDG ?_; intro g) | (refine goDV ?_; intro v) | refine d98XCh ?_ | fail)
  refine WC.fact (sC (List.replicate ts.length (.slice none 0 0)) (List.replicate ts.length []) ts.length) (sC_none _ _ _ (by simp)) ?_
  refine WC.fact (sI (.slice none 0 0) []) sI_nil ?_
  refine WC.lp (σ := Nat × List Value × Value) (fun s => [(8, .int .i64 ((ts.length : Int) - 1 - (s.1 : Int))), (6, s.2.2), (7, .int .i64 (chS ts s.1).most), (4, bv), (5, tv), (0, vt)]) (fun s => [Ow.slice tv 3 1 (ints (chS ts s.1).t), Ow.slice bv 22 1 s.2.1]) (fun s => [ge h0, sT vt avs ts, sA avs ts, sC s.2.1 (chS ts s.1).c (ts.length - s.1), sI s.2.2 (chS ts s.1).out]) (fun s => s.1 ≤ ts.length ∧ s.2.1.length = ts.length) (fun s => ts.length - s.1) (0, List.replicate ts.length (.slice none 0 0), .slice none 0 0) ⟨by simp, by simp⟩ ?_ (by rw [show ((ts.length : Int) - 1 - ((0 : Nat) : Int)) = (ts.length : Int) - 1 by omega]; exact suA)
  rintro ⟨d, cs, ov⟩ ⟨hd, hcs⟩
  simp only at hd hcs ⊢
  have hok := chS_ok ht d
  have hlc := hok.lc
  have hlt := hok.lt
  have htb := hok.tb
  have hmb := hok.mb
  have hcl := hok.cl
  have e : chS ts (d + 1) = chStep ts (chS ts d) (ts.length - 1 - d) d := rfl
  generalize hS : chS ts d = S at *
  obtain ⟨C, T', out, most⟩ := S
  simp only at hlc hlt htb hmb hcl ⊢
  by_cases hdl : d < ts.length
  · obtain ⟨i, hi⟩ : ∃ i, i = ts.length - 1 - d := ⟨_, rfl⟩
    rw [← hi] at e
    have hil : i < ts.length := by omega
    have hI : (ts.length : Int) - 1 - (d : Int) = (i : Int) := by omega
    have hni : ts.length - d = i + 1 := by omega
    have hti := ht i
    rw [hI, hni]
    repeat' (first | refine go ?_ | refine goX ?_ | refine goB ?_ | (refine goG ?_; intro g) | (refine goV ?_; intro v) | refine goD ?_ | refine goXD ?_ | (refine goDG ?_; intro g) | (refine goDV ?_; intro v) | refine d98XCh ?_ | fail)
    refine WC.lp (σ := Nat) (fun j => [(10, .int .i64 ((i + 1 + j : Nat) : Int)), (9, .int .i64 (nextP ts T' i j)), (8, .int .i64 (i : Int)), (6, ov), (7, .int .i64 most), (4, bv), (5, tv), (0, vt)]) (fun _ => [Ow.slice tv 3 1 (ints T'), Ow.slice bv 22 1 cs]) (fun _ => [ge h0, sT vt avs ts, sA avs ts, sC cs C (i + 1), sI ov out]) (fun j => i + 1 + j ≤ ts.length) (fun j => ts.length - j) 0 (by omega) ?_
    rintro j hj
    have hnb := nextP_bd (ts := ts) (T := T') (i := i) j
    have en : nextP ts T' i (j + 1) = if (i : Int) ∈ (tg ts (i + 1 + j)).after ∧ (nextP ts T' i j < 0 ∨ T'.getD (nextP ts T' i j).toNat 0 < T'.getD (i + 1 + j) 0) then ((i + 1 + j : Nat) : Int) else nextP ts T' i j := rfl
    generalize hnx : nextP ts T' i j = nx at *
    by_cases hjl : i + 1 + j < ts.length
    · by_cases m1 : (i : Int) ∈ (tg ts (i + 1 + j)).after
      · by_cases m2 : nx < 0
        · rw [if_pos ⟨m1, .inl m2⟩] at en
          repeat' (first | refine go ?_ | refine goX ?_ | refine goB ?_ | (refine goG ?_; intro g) | (refine goV ?_; intro v) | refine goD ?_ | refine goXD ?_ | (refine goDG ?_; intro g) | (refine goDV ?_; intro v) | refine d98XCh ?_ | fail)
          first | refine WL.callV (contains_c (avs.getD (i + 1 + j) undef) (tg ts (i + 1 + j)).after i) ?_ | refine WD.callV (contains_c (avs.getD (i + 1 + j) undef) (tg ts (i + 1 + j)).after i) ?_
          rw [decide_eq_true m1]
          repeat' (first | refine go ?_ | refine goX ?_ | refine goB ?_ | (refine goG ?_; intro g) | (refine goV ?_; intro v) | refine goD ?_ | refine goXD ?_ | (refine goDG ?_; intro g) | (refine goDV ?_; intro v) | refine d98XCh ?_ | fail)
          exact LoopEnd.mk (j + 1) (by omega) (by omega) (by rw [en]; exact suA)
        · by_cases m3 : T'.getD nx.toNat 0 < T'.getD (i + 1 + j) 0
          · rw [if_pos ⟨m1, .inr m3⟩] at en
            repeat' (first | refine go ?_ | refine goX ?_ | refine goB ?_ | (refine goG ?_; intro g) | (refine goV ?_; intro v) | refine goD ?_ | refine goXD ?_ | (refine goDG ?_; intro g) | (refine goDV ?_; intro v) | refine d98XCh ?_ | fail)
            first | refine WL.callV (contains_c (avs.getD (i + 1 + j) undef) (tg ts (i + 1 + j)).after i) ?_ | refine WD.callV (contains_c (avs.getD (i + 1 + j) undef) (tg ts (i + 1 + j)).after i) ?_
            rw [decide_eq_true m1]
            repeat' (first | refine go ?_ | refine goX ?_ | refine goB ?_ | (refine goG ?_; intro g) | (refine goV ?_; intro v) | refine goD ?_ | refine goXD ?_ | (refine goDG ?_; intro g) | (refine goDV ?_; intro v) | refine d98XCh ?_ | fail)
            exact LoopEnd.mk (j + 1) (by omega) (by omega) (by rw [en]; exact suA)
          · rw [if_neg (fun h => by rcases h.2 with h | h; exact m2 h; exact m3 h)] at en
            repeat' (first | refine go ?_ | refine goX ?_ | refine goB ?_ | (refine goG ?_; intro g) | (refine goV ?_; intro v) | refine goD ?_ | refine goXD ?_ | (refine goDG ?_; intro g) | (refine goDV ?_; intro v) | refine d98XCh ?_ | fail)
            first | refine WL.callV (contains_c (avs.getD (i + 1 + j) undef) (tg ts (i + 1 + j)).after i) ?_ | refine WD.callV (contains_c (avs.getD (i + 1 + j) undef) (tg ts (i + 1 + j)).after i) ?_
            rw [decide_eq_true m1]
            repeat' (first | refine go ?_ | refine goX ?_ | refine goB ?_ | (refine goG ?_; intro g) | (refine goV ?_; intro v) | refine goD ?_ | refine goXD ?_ | (refine goDG ?_; intro g) | (refine goDV ?_; intro v) | refine d98XCh ?_ | fail)
            exact LoopEnd.mk (j + 1) (by omega) (by omega) (by rw [en]; exact suA)
      · rw [if_neg fun h => m1 h.1] at en
        repeat' (first | refine go ?_ | refine goX ?_ | refine goB ?_ | (refine goG ?_; intro g) | (refine goV ?_; intro v) | refine goD ?_ | refine goXD ?_ | (refine goDG ?_; intro g) | (refine goDV ?_; intro v) | refine d98XCh ?_ | fail)
        first | refine WL.callV (contains_c (avs.getD (i + 1 + j) undef) (tg ts (i + 1 + j)).after i) ?_ | refine WD.callV (contains_c (avs.getD (i + 1 + j) undef) (tg ts (i + 1 + j)).after i) ?_
        rw [decide_eq_false m1]
        repeat' (first | refine go ?_ | refine goX ?_ | refine goB ?_ | (refine goG ?_; intro g) | (refine goV ?_; intro v) | refine goD ?_ | refine goXD ?_ | (refine goDG ?_; intro g) | (refine goDV ?_; intro v) | refine d98XCh ?_ | fail)
        exact LoopEnd.mk (j + 1) (by omega) (by omega) (by rw [en]; exact suA)
    · obtain rfl : j = d := by omega
      rw [hnx.symm] at *
      generalize hnx2 : nextP ts T' i j = nx at *
      repeat' (first | refine go ?_ | refine goX ?_ | refine goB ?_ | (refine goG ?_; intro g) | (refine goV ?_; intro v) | refine goD ?_ | refine goXD ?_ | (refine goDG ?_; intro g) | (refine goDV ?_; intro v) | refine d98XCh ?_ | fail)
      revert v; intro w
      refine WL.l0 rfl (LO.storeO1 rfl rfl T.z22 (One.sl (KnS.o1 meA)) (by repeat (first | exact Sel.head | apply Sel.tail)) (by omega) rfl ?_)
      have hci : (cs.set i w).getD i undef = w := by rw [getD_setV (by omega), if_pos rfl]
      have hcsl : (cs.set i w).length = ts.length := by simpa using hcs
      by_cases m2 : nx < 0
      · have e2 : chStep ts ⟨C, T', out, most⟩ i j = ⟨C.set i [(i : Int)], T'.set i (tg ts i).time, if most ≤ (tg ts i).time then [(i : Int)] else out, if most ≤ (tg ts i).time then (tg ts i).time else most⟩ := by
          simp only [chStep, hnx2, if_pos m2]
        repeat' (first | refine go ?_ | refine goX ?_ | refine goB ?_ | (refine goG ?_; intro g) | (refine goV ?_; intro v) | refine goD ?_ | refine goXD ?_ | (refine goDG ?_; intro g) | (refine goDV ?_; intro v) | refine d98XCh ?_ | fail)
        simp only [ints_set]
        have et : (T'.set i (tg ts i).time).getD i 0 = (tg ts i).time := by rw [getD_set, if_pos ⟨rfl, by omega⟩]
        refine WL.freezeI (l := [(i : Int)]) (by repeat (first | exact Sel.head | apply Sel.tail)) ?_
        refine WL.fact (sC (cs.set i w) (C.set i [(i : Int)]) i) (sC_step hmA hmA (by omega) (by omega)) ?_
        have hT2 : (T'.set i (tg ts i).time).length = ts.length := by simpa using hlt
        generalize htm : (tg ts i).time = tm at *
        repeat' (first | refine go ?_ | refine goX ?_ | refine goB ?_ | (refine goG ?_; intro g) | (refine goV ?_; intro v) | refine goD ?_ | refine goXD ?_ | (refine goDG ?_; intro g) | (refine goDV ?_; intro v) | refine d98XCh ?_ | fail)
        rw [et]
        by_cases m4 : most ≤ tm
        · repeat' (first | refine go ?_ | refine goX ?_ | refine goB ?_ | (refine goG ?_; intro g) | (refine goV ?_; intro v) | refine goD ?_ | refine goXD ?_ | (refine goDG ?_; intro g) | (refine goDV ?_; intro v) | refine d98XCh ?_ | fail)
          (apply WD.k_load; exact rfl; (apply YO.ldOv; (first | exact T.sc3 | exact T.sc4 | exact T.sc22 | exact T.sc26 | exact T.sc32 | exact T.sc38 | exact T.sc109 | exact T.sc111 | exact T.sc161 | exact T.sc164 | exact T.sc5 | exact T.sc9 | exact T.sc23 | exact T.sc73 | exact T.sc74 | exact T.sc81 | exact T.sc87 | exact T.sc94 | exact T.sc143 | exact T.sc144 | exact T.sc171 | exact T.sc182 | exact T.sc185); exact rfl; exact meA; exact hci; (simp only [List.length_set]; omega)); exact rfl; exact rfl)
          repeat' (first | refine go ?_ | refine goX ?_ | refine goB ?_ | (refine goG ?_; intro g) | (refine goV ?_; intro v) | refine goD ?_ | refine goXD ?_ | (refine goDG ?_; intro g) | (refine goDV ?_; intro v) | refine d98XCh ?_ | fail)
          rw [et]
          exact LoopEnd.mk (j + 1, cs.set i w, w) ⟨by show j + 1 ≤ ts.length; omega, by simpa using hcs⟩ (by show ts.length - (j + 1) < ts.length - j; omega) (by simp only [e, e2, if_pos m4]; rw [show (ts.length : Int) - 1 - ((j + 1 : Nat) : Int) = (i : Int) - 1 by omega]; exact suA) (by simp only [e, e2]; exact slA) (by simp only [e, e2, if_pos m4, show ts.length - (j + 1) = i by omega]; exact sfA)
        · repeat' (first | refine go ?_ | refine goX ?_ | refine goB ?_ | (refine goG ?_; intro g) | (refine goV ?_; intro v) | refine goD ?_ | refine goXD ?_ | (refine goDG ?_; intro g) | (refine goDV ?_; intro v) | refine d98XCh ?_ | fail)
          exact LoopEnd.mk (j + 1, cs.set i w, ov) ⟨by show j + 1 ≤ ts.length; omega, by simpa using hcs⟩ (by show ts.length - (j + 1) < ts.length - j; omega) (by simp only [e, e2, if_neg m4]; rw [show (ts.length : Int) - 1 - ((j + 1 : Nat) : Int) = (i : Int) - 1 by omega]; exact suA) (by simp only [e, e2]; exact slA) (by simp only [e, e2, if_neg m4, show ts.length - (j + 1) = i by omega]; exact sfA)
      · have hnn : i < nx.toNat ∧ nx.toNat < ts.length := by omega
        have e2 : chStep ts ⟨C, T', out, most⟩ i j = ⟨C.set i ((i : Int) :: C.getD nx.toNat []), T'.set i ((tg ts i).time + T'.getD nx.toNat 0), if most ≤ (tg ts i).time + T'.getD nx.toNat 0 then (i : Int) :: C.getD nx.toNat [] else out, if most ≤ (tg ts i).time + T'.getD nx.toNat 0 then (tg ts i).time + T'.getD nx.toNat 0 else most⟩ := by
          simp only [chStep, hnx2, if_neg m2]
        have hcn : (cs.set i w).getD nx.toNat undef = cs.getD nx.toNat undef := by rw [getD_setV (by omega), if_neg (by omega)]
        have hclx := hcl nx.toNat
        have htbx := htb nx.toNat
        repeat' (first | refine go ?_ | refine goX ?_ | refine goB ?_ | (refine goG ?_; intro g) | (refine goV ?_; intro v) | refine goD ?_ | refine goXD ?_ | (refine goDG ?_; intro g) | (refine goDV ?_; intro v) | refine d98XCh ?_ | fail)
        simp only [ints_set]
        have hT1 : (T'.set i (tg ts i).time).length = ts.length := by simpa using hlt
        have ht1 : (T'.set i (tg ts i).time).getD i 0 = (tg ts i).time := by rw [getD_set, if_pos ⟨rfl, by omega⟩]
        have ht2 : (T'.set i (tg ts i).time).getD nx.toNat 0 = T'.getD nx.toNat 0 := by rw [getD_set, if_neg (by omega)]
        have hT3 : (T'.set i (tg ts i).time).set i ((tg ts i).time + T'.getD nx.toNat 0) = T'.set i ((tg ts i).time + T'.getD nx.toNat 0) := by simp
        have hT2 : (T'.set i ((tg ts i).time + T'.getD nx.toNat 0)).length = ts.length := by simpa using hlt
        have et : (T'.set i ((tg ts i).time + T'.getD nx.toNat 0)).getD i 0 = (tg ts i).time + T'.getD nx.toNat 0 := by rw [getD_set, if_pos ⟨rfl, by omega⟩]
        generalize hT1g : T'.set i (tg ts i).time = T1 at *
        refine WC.fact (sI (cs.getD nx.toNat undef) (C.getD nx.toNat [])) (hasC hmA (by omega) (by omega)) ?_
        refine WC.drawB (id := 15) [Ow.slice tv 3 1 (ints T1), Ow.slice bv 22 1 (cs.set i w)] slA [0, 1, 4, 5, 6, 7, 8, 9, 10, 11, 13, 14, 15, 16, 17, 18, 19, 20, 22] (.free 2 (.free 3 (.held 0 (.held 1 (.held 4 (.held 5 (.held 6 (.held 7 (.held 8 (.held 9 (.held 10 (.held 11 (.held 13 (.held 14 (.held 15 (.held 16 (.held 17 (.held 18 (.held 19 (.held 20 (.free 21 (.loud 12 (.held 22 (.loud 23 (.loud 24 (.loud 25 .done)))))))))))))))))))))))))) mixed (by kernel_rfl) ?_
        (apply WD.fy; exact rfl; (apply YO.move; exact rfl); exact rfl; exact rfl)
        (apply WD.fy; exact rfl; (apply YO.move; exact rfl); exact rfl; exact rfl)
        repeat' (first | refine go ?_ | refine goX ?_ | refine goB ?_ | (refine goG ?_; intro g) | (refine goV ?_; intro v) | refine goD ?_ | refine goXD ?_ | (refine goDG ?_; intro g) | (refine goDV ?_; intro v) | refine d98XCh ?_ | fail)
        (apply WD.k_load; exact rfl; (apply YO.ldOv; (first | exact T.sc3 | exact T.sc4 | exact T.sc22 | exact T.sc26 | exact T.sc32 | exact T.sc38 | exact T.sc109 | exact T.sc111 | exact T.sc161 | exact T.sc164 | exact T.sc5 | exact T.sc9 | exact T.sc23 | exact T.sc73 | exact T.sc74 | exact T.sc81 | exact T.sc87 | exact T.sc94 | exact T.sc143 | exact T.sc144 | exact T.sc171 | exact T.sc182 | exact T.sc185); exact rfl; exact meA; exact hci; omega); exact rfl; exact rfl)
        repeat' (first | refine go ?_ | refine goX ?_ | refine goB ?_ | (refine goG ?_; intro g) | (refine goV ?_; intro v) | refine goD ?_ | refine goXD ?_ | (refine goDG ?_; intro g) | (refine goDV ?_; intro v) | refine d98XCh ?_ | fail)
        (apply WD.k_load; exact rfl; (apply YO.ldOv; (first | exact T.sc3 | exact T.sc4 | exact T.sc22 | exact T.sc26 | exact T.sc32 | exact T.sc38 | exact T.sc109 | exact T.sc111 | exact T.sc161 | exact T.sc164 | exact T.sc5 | exact T.sc9 | exact T.sc23 | exact T.sc73 | exact T.sc74 | exact T.sc81 | exact T.sc87 | exact T.sc94 | exact T.sc143 | exact T.sc144 | exact T.sc171 | exact T.sc182 | exact T.sc185); exact rfl; exact meA; exact hcn; omega); exact rfl; exact rfl)
        repeat' (first | refine go ?_ | refine goX ?_ | refine goB ?_ | (refine goG ?_; intro g) | (refine goV ?_; intro v) | refine goD ?_ | refine goXD ?_ | (refine goDG ?_; intro g) | (refine goDV ?_; intro v) | refine d98XCh ?_ | fail)
        rw [ht1, ht2]
        (apply WD.fy; exact rfl; (apply YO.add; exact rfl; exact rfl; omega; omega); exact rfl; exact rfl)
        repeat' (first | refine go ?_ | refine goX ?_ | refine goB ?_ | (refine goG ?_; intro g) | (refine goV ?_; intro v) | refine goD ?_ | refine goXD ?_ | (refine goDG ?_; intro g) | (refine goDV ?_; intro v) | refine d98XCh ?_ | fail)
        (apply WD.yl; exact rfl; (apply YO.ix1; exact T.s22; exact rfl; exact rfl; (apply KnS.oI; exact meA); omega); exact rfl; exact rfl)
        repeat' (first | refine go ?_ | refine goX ?_ | refine goB ?_ | (refine goG ?_; intro g) | (refine goV ?_; intro v) | refine goD ?_ | refine goXD ?_ | (refine goDG ?_; intro g) | (refine goDV ?_; intro v) | refine d98XCh ?_ | fail)
        simp only [ints_set, hT3, List.set_set]
        refine WL.freezeI (l := (i : Int) :: C.getD nx.toNat []) (by repeat (first | exact Sel.head | apply Sel.tail)) ?_
        refine WL.fact (sC (cs.set i v) (C.set i ((i : Int) :: C.getD nx.toNat [])) i) (sC_step hmA hmA (by omega) (by omega)) ?_
        have hci2 : (cs.set i v).getD i undef = v := by rw [getD_setV (by omega), if_pos rfl]
        have hcs2 : (cs.set i v).length = ts.length := by simpa using hcs
        generalize htm : (tg ts i).time + T'.getD nx.toNat 0 = tm at *
        repeat' (first | refine go ?_ | refine goX ?_ | refine goB ?_ | (refine goG ?_; intro g) | (refine goV ?_; intro v) | refine goD ?_ | refine goXD ?_ | (refine goDG ?_; intro g) | (refine goDV ?_; intro v) | refine d98XCh ?_ | fail)
        rw [et]
        by_cases m4 : most ≤ tm
        · repeat' (first | refine go ?_ | refine goX ?_ | refine goB ?_ | (refine goG ?_; intro g) | (refine goV ?_; intro v) | refine goD ?_ | refine goXD ?_ | (refine goDG ?_; intro g) | (refine goDV ?_; intro v) | refine d98XCh ?_ | fail)
          (apply WD.k_load; exact rfl; (apply YO.ldOv; (first | exact T.sc3 | exact T.sc4 | exact T.sc22 | exact T.sc26 | exact T.sc32 | exact T.sc38 | exact T.sc109 | exact T.sc111 | exact T.sc161 | exact T.sc164 | exact T.sc5 | exact T.sc9 | exact T.sc23 | exact T.sc73 | exact T.sc74 | exact T.sc81 | exact T.sc87 | exact T.sc94 | exact T.sc143 | exact T.sc144 | exact T.sc171 | exact T.sc182 | exact T.sc185); exact rfl; exact meA; exact hci2; (simp only [List.length_set]; omega)); exact rfl; exact rfl)
          repeat' (first | refine go ?_ | refine goX ?_ | refine goB ?_ | (refine goG ?_; intro g) | (refine goV ?_; intro v) | refine goD ?_ | refine goXD ?_ | (refine goDG ?_; intro g) | (refine goDV ?_; intro v) | refine d98XCh ?_ | fail)
          rw [et]
          exact LoopEnd.mk (j + 1, cs.set i v, v) ⟨by show j + 1 ≤ ts.length; omega, by simpa using hcs⟩ (by show ts.length - (j + 1) < ts.length - j; omega) (by simp only [e, e2, if_pos m4]; rw [show (ts.length : Int) - 1 - ((j + 1 : Nat) : Int) = (i : Int) - 1 by omega]; exact suA) (by simp only [e, e2]; exact slA) (by simp only [e, e2, if_pos m4, show ts.length - (j + 1) = i by omega]; exact sfA)
        · repeat' (first | refine go ?_ | refine goX ?_ | refine goB ?_ | (refine goG ?_; intro g) | (refine goV ?_; intro v) | refine goD ?_ | refine goXD ?_ | (refine goDG ?_; intro g) | (refine goDV ?_; intro v) | refine d98XCh ?_ | fail)
          exact LoopEnd.mk (j + 1, cs.set i v, ov) ⟨by show j + 1 ≤ ts.length; omega, by simpa using hcs⟩ (by show ts.length - (j + 1) < ts.length - j; omega) (by simp only [e, e2, if_neg m4]; rw [show (ts.length : Int) - 1 - ((j + 1 : Nat) : Int) = (i : Int) - 1 by omega]; exact suA) (by simp only [e, e2]; exact slA) (by simp only [e, e2, if_neg m4, show ts.length - (j + 1) = i by omega]; exact sfA)
  · obtain rfl : d = ts.length := by omega
    repeat' (first | refine go ?_ | refine goX ?_ | refine goB ?_ | (refine goG ?_; intro g) | (refine goV ?_; intro v) | refine goD ?_ | refine goXD ?_ | (refine goDG ?_; intro g) | (refine goDV ?_; intro v) | refine d98XCh ?_ | fail)
    refine WC.ret ?_
    exact Fin.p [] [sI ov out] (ResE.t2 rfl rfl rfl) meA (List.nil_sublist _) haA ⟨ov, by simp only [hS], rfl, by simp only [hS]⟩
end S
end Go.Proofs.YthggloiigkbfeaaGreat
namespace Go.Proofs.YthggloiigkbfeaaGreat
namespace S
open W Go.RowKit
abbrev zer : List Int := List.replicate 26 0
section
variable {e : Env} {bx : List Ow} {F : List Fct} {ty : TypeId} {x y : Operand} {v : Value} {M n : Nat} {a b : Int}
theorem YO.ldW0 {P : Program} {t tg g m : Nat} {cs : List Value} (hs : Row P t m) (hx : ev e x = some (.pointer (some ⟨g, 0, none⟩))) (hb : Ow.cells g tg cs ∈ bx) (hm : cs.length = m) : YO P (.load t x) ty e bx F (.agg cs.toArray) := YO.ldRB hs hx hb hm (by subst hm; simp)
theorem YO.build70 : YO Tryz.prog (.build 85 #[]) ty e bx F (.agg (ints zer).toArray) := YO.build (parts := []) .nil fun w => run_build w 85 _ _ (by kernel_rfl)
theorem YO.build53 (hx : ev e x = some (.int .i64 a)) (hy : ev e y = some (.int .i64 b)) : YO Tryz.prog (.build 78 #[(1, x), (2, y)]) ty e bx F (.agg [Value.slice none 0 0, .int .i64 a, .int .i64 b].toArray) :=
  YO.build (parts := [(1, x), (2, y)]) (.cons hx (.cons hy .nil)) fun w => run_build w 78 _ _ (by kernel_rfl)
theorem YO.build530 : YO Tryz.prog (.build 78 #[]) ty e bx F (.agg [Value.slice none 0 0, .int .i64 0, .int .i64 0].toArray) := YO.build (parts := []) .nil fun w => run_build w 78 _ _ (by kernel_rfl)
theorem YO.build74 (hx : ev e x = some v) (hy : ev e y = some (.int .i64 (M : Int))) (hv : KnS bx F v n) : YO Tryz.prog (.build 89 #[(0, x), (1, y)]) ty e bx F (.agg (srch v M 0 zer (.map none)).toArray) := fun k fr ac w o hop hty hk ho => by
  obtain ⟨a', cap, rfl, _⟩ := (hv fr w ho).is
  exact (YO.build (P := Tryz.prog) (bx := bx) (F := F) (ty := ty) (parts := [(0, x), (1, y)]) (.cons hx (.cons hy .nil)) fun w => run_build w 89 _ (srch (.slice a' n cap) M 0 zer (.map none)).toArray (by kernel_rfl)) k fr ac w o hop hty hk ho
variable {P : Program} {fn : Func}
theorem ResE.c2 {t s : Tmp} {tt tg g m : Nat} {u : Value} {cs : List Value} (h : fn.results = #[.cell t tt, .tmp s]) (hl : W.look e t = some (.pointer (some ⟨g, 0, none⟩))) (hb : Ow.cells g tg cs ∈ bx) (hr : Row P tt m) (hm : cs.length = m) (hl2 : W.look e s = some u) : ResE P fn e bx F (.tuple #[.agg cs.toArray, u]) := fun n fr a w hk ho => by
  obtain ⟨⟨d, hu, hd⟩, hi⟩ := hr
  have h1 : a.tmps[t]?.getD undef = .pointer (some ⟨g, 0, none⟩) := by rw [hk.at' _ _ hl]; rfl
  have h3 : a.tmps[s]?.getD undef = u := by rw [hk.at' _ _ hl2]; rfl
  have h2 := run_loadVar_mid (P := P) w g 0 tt cs d (fun i v hv => by rw [Nat.zero_add, own_cell (ho.owns _ hb)]; exact hv) hu hd (by rw [hi]; simp [hm])
  simp only [results, h]
  simp [h1, asAddr, h2, h3]
end
theorem zer_ok : PlOK zer := ⟨rfl, fun j => by simp only [List.getD_eq_getElem?_getD, List.getElem?_replicate]; split <;> simp⟩
def bStep (ts : List Tk) (M : Nat) (s : Bool × Int × Int) (n : Nat) : (Bool × Int × Int) × Bool := if s.2.2 < loadP ts M zer n then ((false, (n : Int), loadP ts M zer n), true) else (s, true)
def boundS (ts : List Tk) (M : Nat) : Bool × Int × Int := setsF (bStep ts M) (2 ^ M - 1) 1 (true, 0, (chainP ts).2)
def boundP (ts : List Tk) (M : Nat) : List Int × Int × Int := (if (boundS ts M).1 then (chainP ts).1 else [], (boundS ts M).2.1, (boundS ts M).2.2)
def IsBd (r : List Int × Int × Int) (er : Int) : RPost := fun v b G => ∃ c, v = .tuple #[.agg [c, .int .i64 r.2.1, .int .i64 r.2.2].toArray, .int .i64 er] ∧ b = [Ow.slice c 3 1 (ints r.1)] ∧ G = []
abbrev bCell (o : Value) (s : Bool × Int × Int) : List Value := [if s.1 then o else .slice none 0 0, .int .i64 s.2.1, .int .i64 s.2.2]
attribute [local irreducible] WC WL WD YO LO LoopEnd W.Fin Scalar SliceT FieldAt Row ArrT AllocT KnS Has W.One SrcE IntT
theorem goB {G G' : Prop} (h : G') (s : Bx G' → G := by
  intro h
  first
    | (apply WL.k_build; (first | apply YO.build70 | (apply YO.build53; exact rfl; exact rfl) | apply YO.build530 | (apply YO.build74; exact rfl; exact rfl; exact knA)); exact rfl; exact rfl)
    | (apply WD.k_build; exact rfl; (first | apply YO.build70 | (apply YO.build53; exact rfl; exact rfl) | apply YO.build530 | (apply YO.build74; exact rfl; exact rfl; exact knA)); exact rfl; exact rfl)
  exact Bx.h h) : G := s ⟨h⟩
set_option maxHeartbeats 1000000 in
set_option maxRecDepth 4000 in
theorem bound1_c (s gs gp : Nat) (v o : Value) (avs : List Value) (ts : List Tk) (M : Nat) (hg : AllGood M ts) (hn : ts.length ≤ 10) (hM : M ≤ 4) (ol : List Int) (st : Bool × Int × Int) (on : Nat) (h1 : 1 ≤ on) (h2 : on < 16) :
    FnB Tryz.prog 100 ([.int .i64 on] ++ [ptr gs, ptr gp]) [Ow.cells gp 78 (bCell o st)] [ce gs 81 [ptr s], ce s 89 (srch v M 0 zer (.map none)), sT v avs ts, sA avs ts, sI o ol]
      (IsB (.bool (bStep ts M st on).2) [Ow.cells gp 78 (bCell o (bStep ts M st on).1)]) := by
  obtain ⟨b, x, l⟩ := st
  show FnB Tryz.prog 100 _ [Ow.cells gp 78 [if b then o else .slice none 0 0, .int .i64 x, .int .i64 l]] _ _
  refine fn_of [(0, .int .i64 on), (1, ptr gs), (2, ptr gp)] 18 Tryz.func100 rfl Tryz.ntmps100 (by kernel_rfl) rfl suA fun h0 => ?_
  repeat' (first | refine go ?_ | refine goX ?_ | refine goB ?_ | (refine goG ?_; intro g) | (refine goV ?_; intro v))
  have hzl : zer.length = 26 := rfl
  first | refine WL.callV (load_c s g v (.map none) avs ts M 0 zer zer on hg hn hM hzl zer_ok h1 h2) ?_ | refine WD.callV (load_c s g v (.map none) avs ts M 0 zer zer on hg hn hM hzl zer_ok h1 h2) ?_
  by_cases c : l < loadP ts M zer on
  · have e : bStep ts M (b, x, l) on = ((false, (on : Int), loadP ts M zer on), true) := by rw [bStep, if_pos c]
    rw [e]
    repeat' (first | refine go ?_ | refine goX ?_ | refine goB ?_ | (refine goG ?_; intro g) | (refine goV ?_; intro v))
    refine WC.ret ?_
    exact Fin.p [Ow.cells gp 78 (bCell o (false, (on : Int), loadP ts M zer on))] [] (ResE.t1 rfl rfl) meA slA .nil ⟨rfl, rfl, rfl⟩
  · have e : bStep ts M (b, x, l) on = ((b, x, l), true) := by rw [bStep, if_neg c]
    rw [e]
    repeat' (first | refine go ?_ | refine goX ?_ | refine goB ?_ | (refine goG ?_; intro g) | (refine goV ?_; intro v))
    refine WC.ret ?_
    exact Fin.p [Ow.cells gp 78 (bCell o (b, x, l))] [] (ResE.t1 rfl rfl) meA slA .nil ⟨rfl, rfl, rfl⟩
set_option maxHeartbeats 2000000 in
set_option maxRecDepth 4000 in
theorem bound_c (v : Value) (avs : List Value) (ts : List Tk) (m : Int) (hi64 : TI64 ts) :
    FnB Tryz.prog 46 [v, .int .i64 m] [] [sT v avs ts, sA avs ts] (IsBd (if validE ts m = 0 then boundP ts m.toNat else ([], 0, 0)) (validE ts m)) := by
  refine fn_of [(0, v), (1, .int .i64 m)] 35 Tryz.func46 rfl Tryz.ntmps46 (by kernel_rfl) rfl suA fun h0 => ?_
  repeat' (first | refine go ?_ | refine goX ?_ | refine goB ?_ | (refine goG ?_; intro g) | (refine goV ?_; intro v))
  first | refine WL.callV (valid_c v avs ts m hi64) ?_ | refine WD.callV (valid_c v avs ts m hi64) ?_
  by_cases h : validE ts m = 0
  · rw [h]
    obtain ⟨hl, M, rfl, hM1, hM4, hg⟩ := validE_0 h
    rw [if_pos rfl, show (M : Int).toNat = M from rfl]
    revert g; intro gr
    repeat' (first | refine go ?_ | refine goX ?_ | refine goB ?_ | (refine goG ?_; intro g) | (refine goV ?_; intro v))
    revert g; intro gp
    refine WL.callG [] _ (List.Perm.refl _) (chain_c v avs ts M hg hl) ?_
    rintro _ _ _ ⟨o, rfl, rfl, rfl⟩
    rw [List.nil_append, List.singleton_append]
    repeat' (first | refine go ?_ | refine goX ?_ | refine goB ?_ | (refine goG ?_; intro g) | (refine goV ?_; intro v))
    rename_i s0
    refine WL.keep (t := 81) (by repeat (first | exact Rem.head | apply Rem.tail)) ?_
    refine WL.keep (t := 89) (by repeat (first | exact Rem.head | apply Rem.tail)) ?_
    have hpw : 2 ^ M ≤ 16 := by
      have : M = 0 ∨ M = 1 ∨ M = 2 ∨ M = 3 ∨ M = 4 := by omega
      rcases this with rfl | rfl | rfl | rfl | rfl <;> decide
    have hs := sets_c M hM4 100 [ptr g, ptr gp] [ce g 81 [ptr s0], ce s0 89 (srch v M 0 zer (.map none)), sT v avs ts, sA avs ts, sI o (chainP ts).1] (fun st : Bool × Int × Int => [Ow.cells gp 78 (bCell o st)]) (fun _ => True) (bStep ts M) (fun _ _ _ _ _ => trivial)
      (fun st on _ h1 h2 => bound1_c s0 g gp v o avs ts M hg hl hM4 (chainP ts).1 st on h1 (by omega)) (true, 0, (chainP ts).2) trivial
    refine WL.callG [Ow.cells gp 78 (bCell o (true, 0, (chainP ts).2))] [Ow.cells gr 78 [.slice none 0 0, .int .i64 0, .int .i64 0]] (.refl _) hs ?_
    rintro _ _ _ ⟨rfl, rfl, rfl⟩
    rw [List.nil_append, List.singleton_append]
    have hbp : boundP ts M = (if (boundS ts M).1 then (chainP ts).1 else [], (boundS ts M).2.1, (boundS ts M).2.2) := rfl
    rw [hbp]
    change WL _ _ _ _ _ [Ow.cells gp 78 (bCell o (boundS ts M)), _] _ _
    have hol : (chainP ts).1.length ≤ 100 := by have := (chS_ok (good_time hg) ts.length).ol; show (chS ts ts.length).out.length ≤ 100; omega
    generalize boundS ts M = r
    obtain ⟨b, x, l⟩ := r
    cases b with
    | true =>
      change WL _ _ _ _ _ [Ow.cells gp 78 [o, .int .i64 x, .int .i64 l], _] _ _
      repeat' (first | refine go ?_ | refine goX ?_ | refine goB ?_ | (refine goG ?_; intro g) | (refine goV ?_; intro v))
      first | refine WL.callO (clone_c o (chainP ts).1 hol) (fun rv => ?_) | refine WD.callO (clone_c o (chainP ts).1 hol) (fun rv => ?_)
      repeat' (first | refine go ?_ | refine goX ?_ | refine goB ?_ | (refine goG ?_; intro g) | (refine goV ?_; intro v))
      (apply WL.k_load; (apply YO.ldW0; exact T.r78; exact rfl; exact meA; exact rfl); exact rfl; exact rfl)
      repeat' (first | refine go ?_ | refine goX ?_ | refine goB ?_ | (refine goG ?_; intro g) | (refine goV ?_; intro v))
      refine WC.ret ?_
      exact Fin.p [Ow.slice rv 3 1 (ints (chainP ts).1)] [] (ResE.c2 rfl rfl meA T.r78 rfl rfl) meA slA .nil ⟨_, rfl, rfl, rfl⟩
    | false =>
      change WL _ _ _ _ _ [Ow.cells gp 78 [.slice none 0 0, .int .i64 x, .int .i64 l], _] _ _
      refine WL.fact (sI (.slice none 0 0) []) sI_nil ?_
      repeat' (first | refine go ?_ | refine goX ?_ | refine goB ?_ | (refine goG ?_; intro g) | (refine goV ?_; intro v))
      first | refine WL.callO (clone_c (.slice none 0 0) [] (by simp)) (fun rv => ?_) | refine WD.callO (clone_c (.slice none 0 0) [] (by simp)) (fun rv => ?_)
      repeat' (first | refine go ?_ | refine goX ?_ | refine goB ?_ | (refine goG ?_; intro g) | (refine goV ?_; intro v))
      (apply WL.k_load; (apply YO.ldW0; exact T.r78; exact rfl; exact meA; exact rfl); exact rfl; exact rfl)
      repeat' (first | refine go ?_ | refine goX ?_ | refine goB ?_ | (refine goG ?_; intro g) | (refine goV ?_; intro v))
      refine WC.ret ?_
      exact Fin.p [Ow.slice rv 3 1 (ints [])] [] (ResE.c2 rfl rfl meA T.r78 rfl rfl) meA slA .nil ⟨_, rfl, rfl, rfl⟩
  · rw [if_neg h]
    repeat' (first | refine go ?_ | refine goX ?_ | refine goB ?_ | (refine goG ?_; intro g) | (refine goV ?_; intro v))
    refine WC.addNil 3 1 (WC.ret ?_)
    exact Fin.p [Ow.slice (.slice none 0 0) 3 1 (ints [])] [] (ResE.c2 rfl rfl meA T.r78 rfl rfl) meA slA .nil ⟨_, rfl, rfl, rfl⟩
end S
end Go.Proofs.YthggloiigkbfeaaGreat
namespace Go.Proofs.YthggloiigkbfeaaGreat
namespace S
open W Go.RowKit
theorem Has.scS {F : List Fct} {s n cap q : Nat} {t : TypeId} {v mp : Value} {M : Nat} {goal : Int} {B : List Int} (hb : Has F (ce s t (srch v M goal B mp))) (hB : B.length = 26) (hq : q + n ≤ 26) (hn : n ≤ cap) (hc : cap ≤ 1000000) : Has F (sI (.slice (some ⟨s, 3 + q, none⟩) n cap) ((B.drop q).take n)) := by
  unfold Has at *
  intro ph hf
  have hp := hb ph hf
  have hl : ((B.drop q).take n).length = n := by simp; omega
  show (slC _ ((B.drop q).take n).length 1 _).p ph
  rw [hl]
  refine ⟨_, cap, rfl, hn, by unfold maxLen; omega, .inr ⟨s, 3 + q, rfl, _, t, _, hp, fun j hj => ?_⟩⟩
  rw [List.getElem?_toArray, Nat.add_assoc, srch_b hB (by omega)]
  simp only [List.getD_eq_getElem?_getD, List.getElem?_take, List.getElem?_drop]
  rw [if_pos (by omega)]
def fillN (n : Nat) : Nat → List Int
  | 0 => List.replicate n 0
  | k + 1 => (fillN n k).set k (k : Int)
theorem fillN_len {n : Nat} : ∀ k, (fillN n k).length = n
  | 0 => by simp [fillN]
  | k + 1 => by simp [fillN, fillN_len k]
theorem fillN_get {n : Nat} : ∀ k j, j < n → k ≤ n → (fillN n k).getD j 0 = if j < k then (j : Int) else 0
  | 0, j, _, _ => by simp only [fillN, List.getD_eq_getElem?_getD, List.getElem?_replicate]; split <;> simp
  | k + 1, j, hj, hk => by
    rw [fillN, getD_set, fillN_len, fillN_get k j hj (by omega)]
    by_cases h : k = j
    · subst h; simp; omega
    · rw [if_neg (fun h' => h h'.1)]
      by_cases h2 : j < k
      · rw [if_pos h2, if_pos (by omega)]
      · rw [if_neg h2, if_neg (by omega)]
def bestS (ts : List Tk) (M : Nat) : RS := runP ts M (boundP ts M).2.2 (ts.length + 1) zer (lisN ts M (fillN ts.length ts.length) ts.length, [])
def bestP (ts : List Tk) (m : Int) : List Int × List Int × Int × Int := (((bestS ts m.toNat).1.drop 0).take ts.length, ((bestS ts m.toNat).1.drop 10).take ts.length, (bestS ts m.toNat).1.getD 25 0, 0)
theorem und_zer (n : Nat) : und zer n = n := by
  induction n with
  | zero => rfl
  | succ n ih =>
    have : zer.getD 24 0 = 0 := rfl
    rw [und, ih, if_pos]
    unfold undB bitI; rw [this]; simp
theorem PI_zer {ts : List Tk} (hn : ts.length ≤ 10) : PI ts zer := ⟨⟨0, ⟨rfl, fun j _ => by simp only [List.getD_eq_getElem?_getD, List.getElem?_replicate]; split <;> simp, by decide⟩, by omega, by rw [und_zer]; omega⟩, by
  have : zer.getD 24 0 = 0 := rfl
  rw [this]; exact Int.pow_pos (by decide)⟩
section
variable {e : Env} {bx : List Ow} {F : List Fct} {ty : TypeId} {x1 x2 x3 x4 x5 : Operand} {v : Value} {M n m : Nat} {goal : Int} {B : List Int}
theorem YO.build74s (h1 : ev e x1 = some v) (h2 : ev e x2 = some (.int .i64 (M : Int))) (h3 : ev e x3 = some (.int .i64 goal)) (h4 : ev e x4 = some (.agg (ints B).toArray)) (h5 : ev e x5 = some (.map (some m))) (hv : KnS bx F v n) (hB : B.length = 26) :
    YO Tryz.prog (.build 89 #[(0, x1), (1, x2), (2, x3), (3, x4), (4, x5)]) ty e bx F (.agg (srch v M goal B (.map (some m))).toArray) := fun k fr ac w o hop hty hk ho => by
  obtain ⟨a', cap, rfl, _⟩ := (hv fr w ho).is
  obtain ⟨b0, b1, b2, b3, b4, b5, b6, b7, b8, b9, b10, b11, b12, b13, b14, b15, b16, b17, b18, b19, b20, b21, b22, b23, b24, b25, rfl⟩ : ∃ b0 b1 b2 b3 b4 b5 b6 b7 b8 b9 b10 b11 b12 b13 b14 b15 b16 b17 b18 b19 b20 b21 b22 b23 b24 b25, B = [b0, b1, b2, b3, b4, b5, b6, b7, b8, b9, b10, b11, b12, b13, b14, b15, b16, b17, b18, b19, b20, b21, b22, b23, b24, b25] := by
    match B, hB with
    | [b0, b1, b2, b3, b4, b5, b6, b7, b8, b9, b10, b11, b12, b13, b14, b15, b16, b17, b18, b19, b20, b21, b22, b23, b24, b25], _ => exact ⟨_, _, _, _, _, _, _, _, _, _, _, _, _, _, _, _, _, _, _, _, _, _, _, _, _, _, rfl⟩
  refine (YO.build (P := Tryz.prog) (bx := bx) (F := F) (ty := ty) (parts := [(0, x1), (1, x2), (2, x3), (3, x4), (4, x5)]) (.cons h1 (.cons h2 (.cons h3 (.cons h4 (.cons h5 .nil))))) fun w => run_build w 89 _ (srch (.slice a' n cap) M goal _ (.map (some m))).toArray (by kernel_rfl)) k fr ac w o hop hty hk ho
end
attribute [local irreducible] WC WL WD YO LO LoopEnd W.Fin Scalar SliceT FieldAt Row ArrT AllocT KnS Has W.One SrcE IntT
theorem d13XBe {G G' : Prop} (h : G') (s : Bx G' → G := by
  intro h
  first | (apply WC.draw (id := 10) [0, 1, 2, 3, 4, 5, 6, 9, 11] (.held 0 (.held 1 (.held 2 (.held 3 (.held 4 (.held 5 (.held 6 (.fork 7 (.loud 8 (.held 9 (.loud 10 (.held 11 (.done))))) 8 (.loud 7 (.held 9 (.loud 10 (.held 11 (.done))))))))))))) mixed (by kernel_rfl)) | fail
  exact Bx.h h) : G := s ⟨h⟩
theorem d49XBe {G G' : Prop} (h : G') (s : Bx G' → G := by
  intro h
  first | (apply WC.draw (id := 1) [0, 1, 2, 3, 4, 6, 7, 8, 9, 10, 12, 13, 14, 15, 16, 17, 18, 19] (.held 0 (.held 1 (.held 2 (.held 3 (.held 4 (.held 6 (.held 7 (.held 8 (.held 9 (.held 10 (.held 12 (.held 13 (.held 14 (.held 15 (.loud 5 (.loud 11 (.held 16 (.held 17 (.held 18 (.held 19 (.done))))))))))))))))))))) mixed (by kernel_rfl)) | fail
  exact Bx.h h) : G := s ⟨h⟩
theorem goE {G G' : Prop} (h : G') (s : Bx G' → G := by
  intro h
  (apply WD.k_build; exact rfl; (apply YO.build74s; exact rfl; exact rfl; exact rfl; exact rfl; exact rfl; exact knA; omega); exact rfl; exact rfl)
  exact Bx.h h) : G := s ⟨h⟩
set_option maxRecDepth 4000 in
theorem lists2_c (s : Nat) (v mp : Value) (M : Nat) (goal : Int) (L : List Int) (n : Nat) (hn : n ≤ 10) (hL : L.length = 26) :
    FnB Tryz.prog 49 [.pointer (some ⟨s, 3, none⟩), .int .i64 n] [] [ce s 89 (srch v M goal L mp)] (IsL ((L.drop 0).take n, (L.drop 10).take n, L.getD 25 0, 0)) := by
  refine fn_of [(0, .pointer (some ⟨s, 3, none⟩)), (1, .int .i64 n)] 24 Tryz.func49 rfl Tryz.ntmps49 (by kernel_rfl) rfl suA fun h0 => ?_
  have l1 : ((L.drop 0).take n).length ≤ 100 := by simp only [List.length_take]; omega
  have l2 : ((L.drop 10).take n).length ≤ 100 := by simp only [List.length_take]; omega
  repeat' (first | refine go ?_ | refine goX ?_ | refine goB ?_ | (refine goG ?_; intro g) | (refine goV ?_; intro v) | refine goD ?_ | refine goXD ?_ | (refine goDG ?_; intro g) | (refine goDV ?_; intro v) | refine d49XBe ?_ | fail)
  refine WD.callO (clone_c _ ((L.drop 0).take n) l1) (fun rv => ?_) (hF := .cons (HasB.f (Has.scS (q := 0) (cap := 10) hmA hL (by omega) (by omega) (by omega))) .nil)
  repeat' (first | refine go ?_ | refine goX ?_ | refine goB ?_ | (refine goG ?_; intro g) | (refine goV ?_; intro v) | refine goD ?_ | refine goXD ?_ | (refine goDG ?_; intro g) | (refine goDV ?_; intro v) | refine d49XBe ?_ | fail)
  refine WD.callO (clone_c _ ((L.drop 10).take n) l2) (fun rv => ?_) (hF := .cons (HasB.f (Has.scS (q := 10) (cap := 10) hmA hL (by omega) (by omega) (by omega))) .nil)
  repeat' (first | refine go ?_ | refine goX ?_ | refine goB ?_ | (refine goG ?_; intro g) | (refine goV ?_; intro v) | refine goD ?_ | refine goXD ?_ | (refine goDG ?_; intro g) | (refine goDV ?_; intro v) | refine d49XBe ?_ | fail)
  refine WC.ret ?_
  exact Fin.l (ResE.t4 rfl rfl rfl rfl rfl) meA slA _ _ rfl rfl rfl
set_option maxHeartbeats 2000000 in
set_option maxRecDepth 4000 in
theorem best_c (v : Value) (avs : List Value) (ts : List Tk) (m : Int) (hi64 : TI64 ts) :
    FnB Tryz.prog 13 [v, .int .i64 m] [] [sT v avs ts, sA avs ts] (IsL (if validE ts m = 0 then bestP ts m else ([], [], 0, validE ts m))) := by
  refine fn_of [(0, v), (1, .int .i64 m)] 59 Tryz.func13 rfl Tryz.ntmps13 (by kernel_rfl) rfl suA fun h0 => ?_
  repeat' (first | refine go ?_ | refine goX ?_ | refine goB ?_ | (refine goG ?_; intro g) | (refine goV ?_; intro v) | refine goD ?_ | refine goXD ?_ | (refine goDG ?_; intro g) | (refine goDV ?_; intro v) | refine d13XBe ?_ | fail)
  first | refine WL.callP (bound_c v avs ts m hi64) ?_ | refine WD.callP (bound_c v avs ts m hi64) ?_
  rintro _ _ _ ⟨c, rfl, rfl, rfl⟩
  by_cases h : validE ts m = 0
  · rw [if_pos h, h, if_pos rfl]
    obtain ⟨hl, M, rfl, hM1, hM4, hg⟩ := validE_0 h
    rw [show (M : Int).toNat = M from rfl]
    generalize hbd : boundP ts M = bd
    obtain ⟨bc, bo, bl⟩ := bd
    repeat' (first | refine go ?_ | refine goX ?_ | refine goB ?_ | (refine goG ?_; intro g) | (refine goV ?_; intro v) | refine goD ?_ | refine goXD ?_ | (refine goDG ?_; intro g) | (refine goDV ?_; intro v) | refine d13XBe ?_ | fail)
    (apply WL.l; exact rfl; exact rfl; refine LO.make T.e22 rfl rfl (by omega) (by omega) (made1 _ rfl _) (fun od => ?_))
    repeat' (first | refine go ?_ | refine goX ?_ | refine goB ?_ | (refine goG ?_; intro g) | (refine goV ?_; intro v) | refine goD ?_ | refine goXD ?_ | (refine goDG ?_; intro g) | (refine goDV ?_; intro v) | refine d13XBe ?_ | fail)
    refine WC.lp (σ := Nat) (fun k => [(27, .int .i64 (k : Int)), (26, .int .i64 (ts.length : Int)), (10, od), (8, ptr g), (0, v), (1, .int .i64 M)]) (fun k => [Ow.slice od 3 1 (ints (fillN ts.length k)), Ow.cells g 78 [c, .int .i64 bo, .int .i64 bl]]) (fun _ => [ge h0, sT v avs ts, sA avs ts]) (fun k => k ≤ ts.length) (fun k => ts.length - k) 0 (by simp) ?_ suA (by rw [fillN, ints, List.map_replicate]; exact slA)
    rintro k hk
    have hfl := fillN_len (n := ts.length) k
    have ef : fillN ts.length (k + 1) = (fillN ts.length k).set k (k : Int) := rfl
    generalize hfg : fillN ts.length k = O at *
    by_cases hlt : k < ts.length
    · repeat' (first | refine go ?_ | refine goX ?_ | refine goB ?_ | (refine goG ?_; intro g) | (refine goV ?_; intro v) | refine goD ?_ | refine goXD ?_ | (refine goDG ?_; intro g) | (refine goDV ?_; intro v) | refine d13XBe ?_ | fail)
      exact LoopEnd.mk (k + 1) (by omega) (by omega) suA (by rw [ef, ← ints_set]; exact slA)
    · obtain rfl : k = ts.length := by omega
      have hob : ∀ j, j < O.length → 0 ≤ O.getD j 0 ∧ O.getD j 0 < ts.length := fun j hj => by
        rw [← hfg, fillN_get _ j (by omega) (Nat.le_refl _), if_pos (by omega)]; omega
      have hB := lis_B hg hM4 hl hob O.length (Nat.le_refl _)
      have hBl := hB.len
      rw [hfl] at hBl
      repeat' (first | refine go ?_ | refine goX ?_ | refine goB ?_ | (refine goG ?_; intro g) | (refine goV ?_; intro v))
      refine WC.cutT (σ := Nat × Nat) (fun s => [(12, ptr s.1), (0, v), (1, .int .i64 M)]) (fun s => [Ow.cells s.1 89 (srch v M bl (lisN ts M O ts.length) (.map (some s.2))), Ow.obj s.2 (Mp.mobj [])]) (fun _ => [ge h0, sT v avs ts, sA avs ts]) (fun _ => True) ?_ ?_
      · repeat' (first | refine go ?_ | refine goX ?_ | refine goB ?_ | (refine goG ?_; intro g) | (refine goV ?_; intro v) | refine goD ?_ | refine goXD ?_ | (refine goDG ?_; intro g) | (refine goDV ?_; intro v) | refine d13XBe ?_ | fail)
        apply WD.fork2
        · exact rfl
        · exact rfl
        · exact rfl
        · exact rfl
        · exact rfl
        · exact rfl
        · refine LO.callRV rfl evA (listed_c v od avs ts M O hg hM4 hl (by omega) hob) hbA ⟨.inr ⟨slA, fun _ h => h⟩, ?_⟩
          rw [hfl]
          repeat' (first | refine go ?_ | refine goX ?_ | refine goB ?_ | (refine goG ?_; intro g) | (refine goV ?_; intro v) | refine goD ?_ | refine goXD ?_ | (refine goDG ?_; intro g) | (refine goDV ?_; intro v) | refine d13XBe ?_ | fail)
          (apply WD.l; exact rfl; exact rfl; exact rfl; refine LO.mkM (fun mm => ⟨.inr ⟨slA, fun _ h => h⟩, ?_⟩))
          repeat' (first | refine go ?_ | refine goX ?_ | refine goB ?_ | (refine goG ?_; intro g) | (refine goV ?_; intro v) | refine goD ?_ | refine goXD ?_ | (refine goDG ?_; intro g) | (refine goDV ?_; intro v) | refine d13XBe ?_ | fail)
          refine goE ?_
          repeat' (first | refine go ?_ | refine goX ?_ | refine goB ?_ | (refine goG ?_; intro g) | (refine goV ?_; intro v) | refine goD ?_ | refine goXD ?_ | (refine goDG ?_; intro g) | (refine goDV ?_; intro v) | refine d13XBe ?_ | fail)
          exact ⟨(g, mm), trivial, suA, slA, sfA⟩
        · refine LO.mkM (fun mm => ⟨.inr ⟨slA, fun _ h => h⟩, ?_⟩)
          repeat' (first | refine go ?_ | refine goX ?_ | refine goB ?_ | (refine goG ?_; intro g) | (refine goV ?_; intro v) | refine goD ?_ | refine goXD ?_ | (refine goDG ?_; intro g) | (refine goDV ?_; intro v) | refine d13XBe ?_ | fail)
          (apply WD.l; exact rfl; exact rfl; exact rfl; refine LO.callRV rfl evA (listed_c v od avs ts M O hg hM4 hl (by omega) hob) hbA ⟨.inr ⟨slA, fun _ h => h⟩, ?_⟩)
          rw [hfl]
          refine goE ?_
          repeat' (first | refine go ?_ | refine goX ?_ | refine goB ?_ | (refine goG ?_; intro g) | (refine goV ?_; intro v) | refine goD ?_ | refine goXD ?_ | (refine goDG ?_; intro g) | (refine goDV ?_; intro v) | refine d13XBe ?_ | fail)
          exact ⟨(g, mm), trivial, suA, slA, sfA⟩
      rintro ⟨sg, mm⟩ _
      simp only
      have hs0 : SI (lisN ts M O ts.length, []) := ⟨hBl, fun k hk => by simp at hk⟩
      have hPz := PI_zer (ts := ts) hl
      have hrc := run_c sg mm v avs ts M bl hg hl hM4 (ts.length + 1) zer (lisN ts M O ts.length, []) (by rw [und_zer]; omega) hPz hs0
      have hrS := runP_SI hg hl hM4 (goal := bl) (ts.length + 1) zer (lisN ts M O ts.length, []) hPz hs0
      have hbest : bestS ts M = runP ts M bl (ts.length + 1) zer (lisN ts M O ts.length, []) := by rw [bestS, hbd, hfg]
      rw [← hbest] at hrc hrS
      have hrl := hrS.l
      repeat' (first | refine go ?_ | refine goX ?_ | refine goB ?_ | (refine goG ?_; intro g) | (refine goV ?_; intro v) | refine goD ?_ | refine goXD ?_ | (refine goDG ?_; intro g) | (refine goDV ?_; intro v) | refine d13XBe ?_ | fail)
      refine WL.callG _ [] (.refl _) hrc ?_
      rintro _ _ _ ⟨rfl, rfl, rfl⟩
      rw [List.nil_append, List.append_nil]
      repeat' (first | refine go ?_ | refine goX ?_ | refine goB ?_ | (refine goG ?_; intro g) | (refine goV ?_; intro v) | refine goD ?_ | refine goXD ?_ | (refine goDG ?_; intro g) | (refine goDV ?_; intro v) | refine d13XBe ?_ | fail)
      refine WL.callP (lists2_c sg v (.map (some mm)) M bl (bestS ts M).1 ts.length hl hrl) ?_
      rintro _ _ _ ⟨a, b, rfl, rfl, rfl⟩
      repeat' (first | refine go ?_ | refine goX ?_ | refine goB ?_ | (refine goG ?_; intro g) | (refine goV ?_; intro v) | refine goD ?_ | refine goXD ?_ | (refine goDG ?_; intro g) | (refine goDV ?_; intro v) | refine d13XBe ?_ | fail)
      refine WC.ret ?_
      exact Fin.l (ResE.t4 rfl rfl rfl rfl rfl) meA slA _ _ rfl rfl rfl
  · rw [if_neg h, if_neg h]
    repeat' (first | refine go ?_ | refine goX ?_ | refine goB ?_ | (refine goG ?_; intro g) | (refine goV ?_; intro v) | refine goD ?_ | refine goXD ?_ | (refine goDG ?_; intro g) | (refine goDV ?_; intro v) | refine d13XBe ?_ | fail)
    refine WC.addNil 3 1 (WC.addNil 3 1 (WC.ret ?_))
    exact Fin.l (ResE.t4 rfl rfl rfl rfl rfl) meA slA [] [] rfl rfl rfl
end S
end Go.Proofs.YthggloiigkbfeaaGreat
namespace Go.Proofs.YthggloiigkbfeaaGreat
namespace S
inductive Rch (ts : List Tk) (M : Nat) : List Int → List Int → Prop where
  | refl (p : List Int) : Rch ts M p p
  | step {p q : List Int} (i k : Nat) : i < ts.length → k < M → readyQ ts p i = true → bitI (tg ts i).on (k : Int) = 1 → Rch ts M (withP ts p i k) q → Rch ts M p q
abbrev Full (ts : List Tk) (p : List Int) : Prop := p.getD 24 0 = 2 ^ ts.length - 1
def LB (ts : List Tk) (M : Nat) (b : Int) (p : List Int) : Prop := ∀ q, Rch ts M p q → Full ts q → b ≤ q.getD 25 0
theorem LB.mono {ts : List Tk} {M : Nat} {b b' : Int} {p : List Int} (h : LB ts M b p) (hb : b' ≤ b) : LB ts M b' p := fun q h1 h2 => Int.le_trans hb (h q h1 h2)
def mx4 (L : List Int) : Int := max (max (L.getD 20 0) (L.getD 21 0)) (max (L.getD 22 0) (L.getD 23 0))
theorem mx4_ge {L : List Int} {k : Nat} (hk : k < 4) : L.getD (20 + k) 0 ≤ mx4 L := by
  unfold mx4
  match k, hk with
  | 0, _ => show L.getD 20 0 ≤ _; omega
  | 1, _ => show L.getD 21 0 ≤ _; omega
  | 2, _ => show L.getD 22 0 ≤ _; omega
  | 3, _ => show L.getD 23 0 ≤ _; omega
theorem mx4_le {L : List Int} {B : Int} (h : ∀ k, k < 4 → L.getD (20 + k) 0 ≤ B) : mx4 L ≤ B := by
  have h0 := h 0 (by decide); have h1 := h 1 (by decide); have h2 := h 2 (by decide); have h3 := h 3 (by decide)
  unfold mx4; simp only [Nat.add_zero, Nat.reduceAdd] at *; omega
structure Rp (ts : List Tk) (p : List Int) : Prop where
  pi : PI ts p
  len : p.getD 25 0 = mx4 p
  rel : ∃ st on, Rel ts p st on (p.getD 25 0)
section
variable {ts : List Tk} {M : Nat} {p : List Int} {i k : Nat}
theorem with_free (hl : p.length = 26) (hk : k < 4) (j : Nat) (hj : j < 4) : (withP ts p i k).getD (20 + j) 0 = if j = k then earlP ts p i k + (tg ts i).time else if i = 20 + j ∨ 10 + i = 20 + j then (withP ts p i k).getD (20 + j) 0 else p.getD (20 + j) 0 := by
  unfold withP; simp only [getD_set]
  rw [if_neg (by omega), if_neg (by omega)]
  by_cases hjk : j = k
  · subst hjk; rw [if_pos ⟨rfl, by simp [hl] <;> omega⟩]; simp
  · rw [if_neg (by omega), if_neg hjk]
    by_cases h : i = 20 + j ∨ 10 + i = 20 + j
    · rw [if_pos h]
    · rw [if_neg h, if_neg (by omega), if_neg (by omega)]
theorem with_fr (hl : p.length = 26) (hi : i < 10) (hk : k < 4) (j : Nat) (hj : j < 4) : (withP ts p i k).getD (20 + j) 0 = if j = k then earlP ts p i k + (tg ts i).time else p.getD (20 + j) 0 := by
  rw [with_free hl hk j hj]
  by_cases hjk : j = k
  · simp [hjk]
  · rw [if_neg hjk, if_neg hjk, if_neg (by omega)]
theorem with_st (hl : p.length = 26) (hi : i < 10) (hk : k < 4) (j : Nat) (hj : j < 10) : (withP ts p i k).getD j 0 = if i = j then earlP ts p i k else p.getD j 0 := by
  unfold withP; simp only [getD_set]
  rw [if_neg (by omega), if_neg (by omega), if_neg (by omega), if_neg (by omega)]
  by_cases hij : i = j
  · subst hij; rw [if_pos (by simp [hl]; omega), if_pos rfl]
  · rw [if_neg (by omega), if_neg hij]
theorem with_len (hl : p.length = 26) : (withP ts p i k).getD 25 0 = max (p.getD 25 0) (earlP ts p i k + (tg ts i).time) := by
  unfold withP; simp only [getD_set]
  rw [if_pos (by simp [hl])]
theorem und_st {st on : List Int} {ln : Int} (h : Rel ts p st on ln) {i : Nat} (hi : i < ts.length) : undB p (i : Int) = true ↔ st.getD i 0 < 0 := by
  rw [undB_test h.done.1, h.bit]
  simp [hi]
theorem ready_iff {st on : List Int} {ln : Int} (hg : AllGood M ts) (h : Rel ts p st on ln) (hi : i < ts.length) : readyQ ts p i = true ↔ readyP ts st i := by
  unfold readyQ readyP
  simp only [Bool.and_eq_true, Bool.not_eq_true', List.any_eq_false]
  rw [und_st h hi]
  refine and_congr Iff.rfl ⟨fun h1 q hq => ?_, fun h1 x hx => ?_⟩
  · have ha := good_after hg hi q hq
    have hm := h1 _ (mem_after hq)
    have hu := und_st h (i := ((tg ts i).after.getD q 0).toNat) (by omega)
    rw [Int.toNat_of_nonneg ha.1] at hu
    have := mt hu.2 hm; omega
  · obtain ⟨q, hq, rfl⟩ := after_mem hx
    have ha := good_after hg hi q hq
    have hu := und_st h (i := ((tg ts i).after.getD q 0).toNat) (by omega)
    rw [Int.toNat_of_nonneg ha.1] at hu
    have := h1 q hq
    intro hc; have := hu.1 hc; omega
theorem earl_free (p : List Int) (i k : Nat) : p.getD (20 + k) 0 ≤ earlP ts p i k := earlN_ub0 _
theorem Rp.step (hg : AllGood M ts) (hn : ts.length ≤ 10) (hM : M ≤ 4) (h : Rp ts p) (hi : i < ts.length) (hk : k < M) (hr : readyQ ts p i = true) : Rp ts (withP ts p i k) ∧ und (withP ts p i k) ts.length + 1 = und p ts.length := by
  obtain ⟨st, on, hrel⟩ := h.rel
  have hs := h.pi.step hg hn hi (k := k) (by omega) (ready_und hr)
  have hl := h.pi.ok.len
  have ht := good_time hg i
  have hrp := (ready_iff hg hrel hi).1 hr
  have hwl := with_len (ts := ts) (p := p) (i := i) (k := k) hl
  have he := hrel.earl hg hi (k := k) (by omega) hrp.2
  refine ⟨⟨hs.1, ?_, ⟨st.set i (placeP ts st on i k), on.set i k, ?_⟩⟩, hs.2⟩
  · rw [hwl, h.len]
    have hf := earl_free (ts := ts) p i k
    apply Int.le_antisymm
    · have h1 : mx4 p ≤ mx4 (withP ts p i k) := by
        refine mx4_le fun j hj => ?_
        have h2 := mx4_ge (L := withP ts p i k) hj
        rw [with_fr hl (by omega) (by omega) j hj] at h2
        split at h2
        · rename_i hjk; subst hjk; omega
        · exact h2
      have h3 := mx4_ge (L := withP ts p i k) (show k < 4 by omega)
      rw [with_fr hl (by omega) (by omega) k (by omega), if_pos rfl] at h3
      omega
    · refine mx4_le fun j hj => ?_
      rw [with_fr hl (by omega) (by omega) j hj]
      have h2 := mx4_ge (L := p) hj
      split <;> omega
  · have := hrel.step hg hn hi (k := k) (by omega) hrp
    rw [hwl, he]; exact this
theorem Rch.rp (hg : AllGood M ts) (hn : ts.length ≤ 10) (hM : M ≤ 4) {q : List Int} (h : Rch ts M p q) : Rp ts p → Rp ts q := by
  induction h with
  | refl => exact id
  | step i k hi hk hr _ _ ih => exact fun hp => ih (hp.step hg hn hM hi hk hr).1
theorem Rch.trans {q r : List Int} (h : Rch ts M p q) (h2 : Rch ts M q r) : Rch ts M p r := by
  induction h with
  | refl => exact h2
  | step i k hi hk hr hb _ ih => exact .step i k hi hk hr hb (ih h2)
theorem Rp_zer (hn : ts.length ≤ 10) : Rp ts (List.replicate 26 0) := ⟨PI_zer hn, rfl, _, _, rel_none (M := 0) hn⟩
end
end S
end Go.Proofs.YthggloiigkbfeaaGreat
namespace Go.Proofs.YthggloiigkbfeaaGreat
namespace S
structure PA (ts : List Tk) (M : Nat) (f g : Nat → Nat) : Prop where
  gf : ∀ k, g (f k) = k
  fg : ∀ k, f (g k) = k
  fix : ∀ k, M ≤ k → f k = k
  al : ∀ i, i < ts.length → ∀ k : Nat, bitI (tg ts i).on (f k : Int) = bitI (tg ts i).on (k : Int)
theorem PA.id (ts : List Tk) (M : Nat) : PA ts M (fun k => k) (fun k => k) := ⟨fun _ => rfl, fun _ => rfl, fun _ _ => rfl, fun _ _ _ => rfl⟩
theorem PA.lt {ts : List Tk} {M : Nat} {f g : Nat → Nat} (h : PA ts M f g) {k : Nat} (hk : k < M) : f k < M := by
  apply Classical.byContradiction
  intro hc
  have h1 := h.fix (f k) (by omega)
  have h2 := congrArg g h1
  rw [h.gf, h.gf] at h2; omega
theorem PA.inv {ts : List Tk} {M : Nat} {f g : Nat → Nat} (h : PA ts M f g) : PA ts M g f := ⟨h.fg, h.gf, fun k hk => by
  have := h.gf k; rw [h.fix k hk] at this; exact this, fun i hi k => by
  have := h.al i hi (g k); rw [h.fg] at this; exact this.symm⟩
theorem PA.comp {ts : List Tk} {M : Nat} {f g f' g' : Nat → Nat} (h : PA ts M f g) (h' : PA ts M f' g') : PA ts M (fun k => f (f' k)) (fun k => g' (g k)) :=
  ⟨fun k => by show g' (g (f (f' k))) = k; rw [h.gf, h'.gf], fun k => by show f (f' (g' (g k))) = k; rw [h'.fg, h.fg], fun k hk => by show f (f' k) = k; rw [h'.fix k hk, h.fix k hk], fun i hi k => by
    show bitI _ ((f (f' k) : Nat) : Int) = _
    rw [h.al i hi, h'.al i hi]⟩
def swp (a b k : Nat) : Nat := if k = a then b else if k = b then a else k
theorem swp_swp (a b k : Nat) : swp a b (swp a b k) = k := by unfold swp; split <;> split <;> (try split) <;> omega
theorem PA.sw {ts : List Tk} {M a b : Nat} (hb : b < M) (ha : a < M) (hal : alikeP ts a b = true) : PA ts M (swp a b) (swp a b) :=
  ⟨swp_swp a b, swp_swp a b, fun k hk => by unfold swp; rw [if_neg (by omega), if_neg (by omega)], fun i hi k => by
    have h1 : bitI (tg ts i).on (a : Int) = bitI (tg ts i).on (b : Int) := by
      unfold alikeP at hal
      rw [Bool.not_eq_true', List.any_eq_false] at hal
      have := hal i (List.mem_range.2 hi)
      unfold difB at this
      simpa using this
    unfold swp
    by_cases hka : k = a
    · rw [if_pos hka, hka, h1]
    · rw [if_neg hka]
      by_cases hkb : k = b
      · rw [if_pos hkb, hkb, h1]
      · rw [if_neg hkb]⟩
structure Sim (ts : List Tk) (M : Nat) (p q : List Int) (f g : Nat → Nat) : Prop where
  pa : PA ts M f g
  done : q.getD 24 0 = p.getD 24 0
  free : ∀ k, k < 4 → q.getD (20 + f k) 0 = p.getD (20 + k) 0
  ends : ∀ i, i < ts.length → undB p (i : Int) = true → ∀ a ∈ (tg ts i).after, undB p a = false → q.getD a.toNat 0 = p.getD a.toNat 0
section
variable {ts : List Tk} {M : Nat} {p q : List Int} {f g : Nat → Nat}
theorem Sim.und (h : Sim ts M p q f g) (a : Int) : undB q a = undB p a := by unfold undB; rw [h.done]
theorem Sim.ready (h : Sim ts M p q f g) (i : Nat) : readyQ ts q i = readyQ ts p i := by
  unfold readyQ
  rw [h.und, show undB q = undB p from funext h.und]
theorem Sim.earl (hg : AllGood M ts) (h : Sim ts M p q f g) {i k : Nat} (hi : i < ts.length) (hk : k < 4) (hr : readyQ ts p i = true) : earlP ts q i (f k) = earlP ts p i k := by
  have hu := ready_und hr
  have hd : ∀ a ∈ (tg ts i).after, undB p a = false := fun a ha => by
    unfold readyQ at hr
    simp only [Bool.and_eq_true, Bool.not_eq_true', List.any_eq_false] at hr
    simpa using hr.2 a ha
  have : ∀ n, n ≤ (tg ts i).after.length → earlN ts q i (f k) n = earlN ts p i k n := fun n => by
    induction n with
    | zero => intro _; simp only [earlN]; exact h.free k hk
    | succ n ih =>
      intro hn
      have hm := mem_after (show n < (tg ts i).after.length by omega)
      simp only [earlN]
      rw [ih (by omega), h.ends i hi hu _ hm (hd _ hm)]
  exact this _ (Nat.le_refl _)
theorem Sim.step (hg : AllGood M ts) (hn : ts.length ≤ 10) (hM : M ≤ 4) (hp : Rp ts p) (hq : Rp ts q) (h : Sim ts M p q f g) {i k : Nat} (hi : i < ts.length) (hk : k < M) (hr : readyQ ts p i = true) : Sim ts M (withP ts p i k) (withP ts q i (f k)) f g := by
  have hfk := h.pa.lt hk
  have he := h.earl (k := k) hg hi (by omega) hr
  have hlp := hp.pi.ok.len
  have hlq := hq.pi.ok.len
  refine ⟨h.pa, by rw [with_done hlp, with_done hlq, h.done], fun j hj => ?_, fun i' hi' hu a ha hua => ?_⟩
  · have hfj : f j < 4 := by
      by_cases hjM : j < M
      · have := h.pa.lt hjM; omega
      · rw [h.pa.fix j (by omega)]; exact hj
    rw [with_fr (i := i) (k := f k) hlq (by omega) (by omega) (f j) hfj, with_fr (i := i) (k := k) hlp (by omega) (by omega) j hj, he, h.free j hj]
    by_cases hjk : j = k
    · rw [if_pos hjk, if_pos (by rw [hjk])]
    · rw [if_neg hjk, if_neg (fun hc => hjk (by have := congrArg g hc; rwa [h.pa.gf, h.pa.gf] at this))]
  · obtain ⟨x, hx, rfl⟩ := after_mem ha
    have hb := good_after hg hi' x hx
    obtain ⟨A, hA⟩ := Int.eq_ofNat_of_zero_le hb.1
    have hA' : (tg ts i').after.getD x 0 = (A : Int) := hA
    rw [hA'] at hua ha ⊢
    rw [show ((A : Int)).toNat = A from rfl, with_st hlq (by omega) (by omega) A (by omega), with_st hlp (by omega) (by omega) A (by omega), he]
    rw [undB_with hlp hp.pi.done.1] at hu hua
    simp only [Bool.and_eq_true, decide_eq_true_eq] at hu
    by_cases hiA : i = A
    · rw [if_pos hiA, if_pos hiA]
    · rw [if_neg hiA, if_neg hiA]
      have : undB p (A : Int) = false := by simpa [hiA] using hua
      exact h.ends i' hi' hu.1 _ ha this
theorem Sim.len (hM : M ≤ 4) (hp : Rp ts p) (hq : Rp ts q) (h : Sim ts M p q f g) : q.getD 25 0 = p.getD 25 0 := by
  have hb : ∀ {f g : Nat → Nat}, PA ts M f g → ∀ k, k < 4 → f k < 4 := fun {f g} ha k hk => by
    by_cases hkM : k < M
    · have := ha.lt hkM; omega
    · rw [ha.fix k (by omega)]; exact hk
  rw [hp.len, hq.len]
  apply Int.le_antisymm
  · refine mx4_le fun k hk => ?_
    have h1 := h.free (g k) (hb h.pa.inv k hk)
    rw [h.pa.fg] at h1
    rw [h1]; exact mx4_ge (hb h.pa.inv k hk)
  · refine mx4_le fun k hk => ?_
    rw [← h.free k hk]; exact mx4_ge (hb h.pa k hk)
theorem Sim.reach (hg : AllGood M ts) (hn : ts.length ≤ 10) (hM : M ≤ 4) {q r : List Int} (hr : Rch ts M q r) : ∀ {p : List Int} {f g : Nat → Nat}, Rp ts p → Rp ts q → Sim ts M q p f g → ∃ s, Rch ts M p s ∧ s.getD 24 0 = r.getD 24 0 ∧ s.getD 25 0 = r.getD 25 0 := by
  induction hr with
  | refl q => intro p f g hp hq h; exact ⟨p, .refl p, h.done, h.len hM hq hp⟩
  | step i k hi hk hrd hb _ ih =>
    intro p f g hp hq h
    have hrd' : readyQ ts p i = true := by rw [h.ready]; exact hrd
    have hfk := h.pa.lt hk
    obtain ⟨s, h1, h2⟩ := ih (hp.step hg hn hM hi hfk hrd').1 (hq.step hg hn hM hi hk hrd).1 (h.step hg hn hM hq hp hi hk hrd)
    exact ⟨s, .step i (f k) hi hfk hrd' (by rw [h.pa.al i hi]; exact hb) h1, h2⟩
theorem LB.sim (hg : AllGood M ts) (hn : ts.length ≤ 10) (hM : M ≤ 4) {b : Int} {f g : Nat → Nat} (hp : Rp ts p) (hq : Rp ts q) (h : Sim ts M q p f g) (hb : LB ts M b p) : LB ts M b q := fun r hr hf => by
  obtain ⟨s, h1, h2, h3⟩ := Sim.reach hg hn hM hr hp hq h
  rw [← h3]
  exact hb s h1 (by unfold Full; rw [h2]; exact hf)
end
structure SwI (ts : List Tk) (M : Nat) (p X : List Int) (f g : Nat → Nat) : Prop where
  pa : PA ts M f g
  l : X.length = 15
  d : X.getD 0 0 = p.getD 24 0
  fr : ∀ k, k < 4 → X.getD (1 + k) 0 = p.getD (20 + f k) 0
section
variable {ts : List Tk} {M : Nat} {p : List Int}
theorem SwI.start (h : p.length = 26) : SwI ts M p (st0 p) (fun k => k) (fun k => k) := ⟨PA.id ts M, st0_len h, rfl, fun k hk => by
  unfold st0
  rw [Nat.add_comm 1 k]
  simp only [List.getD_eq_getElem?_getD, List.getElem?_cons_succ]
  rw [List.getElem?_append_left (by simp [h]; omega), List.getElem?_take, if_pos hk, List.getElem?_drop]⟩
theorem SwI.swap (hM : M ≤ 4) {X : List Int} {f g : Nat → Nat} (h : SwI ts M p X f g) {a b : Nat} (hab : a < b) (hb : b < M) : ∃ f' g', SwI ts M p (swapX ts a b X) f' g' := by
  unfold swapX
  split
  · rename_i hc
    refine ⟨fun k => f (swp a b k), fun k => swp a b (g k), h.pa.comp (PA.sw hb (by omega) hc.2), by simp [h.l], ?_, fun k hk => ?_⟩
    · rw [getD_set, if_neg (by omega), getD_set, if_neg (by omega)]; exact h.d
    · rw [getD_set, getD_set]
      show _ = p.getD (20 + f (swp a b k)) 0
      unfold swp
      by_cases hkb : k = b
      · rw [if_pos ⟨by omega, by simp [h.l]; omega⟩, if_neg (by omega), if_pos hkb, h.fr a (by omega)]
      · rw [if_neg (by omega)]
        by_cases hka : k = a
        · rw [if_pos ⟨by omega, by rw [h.l]; omega⟩, if_pos hka, h.fr b (by omega)]
        · rw [if_neg (by omega), if_neg hka, if_neg hkb, h.fr k hk]
  · exact ⟨f, g, h⟩
theorem SwI.swIn (hM : M ≤ 4) {X : List Int} {a : Nat} (h : ∃ f g, SwI ts M p X f g) : ∀ j, a + j < M → ∃ f g, SwI ts M p (swIn ts a X j) f g
  | 0, _ => h
  | j + 1, hj => by
    obtain ⟨f, g, h1⟩ := SwI.swIn hM (a := a) h j (by omega)
    exact h1.swap hM (a := a) (b := a + 1 + j) (by omega) (by omega)
theorem SwI.swOut (hM : M ≤ 4) {X : List Int} (h : ∃ f g, SwI ts M p X f g) : ∀ a, a ≤ M → ∃ f g, SwI ts M p (swOut ts M X a) f g
  | 0, _ => h
  | a + 1, ha => SwI.swIn hM (SwI.swOut hM h a (by omega)) _ (by omega)
theorem endIn_low {L : List Int} {i : Nat} {X : List Int} {j : Nat} (hj : j < 5) : ∀ n, (endIn ts L i X n).getD j 0 = X.getD j 0
  | 0 => rfl
  | n + 1 => by
    rw [endIn]; split
    · rw [getD_set, if_neg (by omega)]; exact endIn_low hj n
    · exact endIn_low hj n
theorem endOut_low {L : List Int} {X : List Int} {j : Nat} (hj : j < 5) : ∀ n, (endOut ts L X n).getD j 0 = X.getD j 0
  | 0 => rfl
  | n + 1 => by
    rw [endOut]; split
    · rw [endIn_low hj]; exact endOut_low hj n
    · exact endOut_low hj n
theorem endIn_keep {L : List Int} {i : Nat} {X : List Int} {a : Nat} (h : X.getD (5 + a) 0 = L.getD a 0 + (tg ts a).time) : ∀ n, (endIn ts L i X n).getD (5 + a) 0 = L.getD a 0 + (tg ts a).time
  | 0 => h
  | n + 1 => by
    rw [endIn]; split
    · rw [getD_set]; split
      · rename_i hc
        rw [show ((tg ts i).after.getD n 0).toNat = a by omega]
      · exact endIn_keep h n
    · exact endIn_keep h n
theorem endIn_get {L : List Int} {i : Nat} {X : List Int} {a : Nat} (hX : X.length = 15) (ha : a < 10) (hb : bitI (L.getD 24 0) (a : Int) = 1) : ∀ n x, x < n → (tg ts i).after.getD x 0 = (a : Int) → (endIn ts L i X n).getD (5 + a) 0 = L.getD a 0 + (tg ts a).time
  | n + 1, x, hx, he => by
    by_cases hxn : x < n
    · have ih := endIn_get hX ha hb n x hxn he
      rw [endIn]; split
      · rw [getD_set]; split
        · rename_i hc
          rw [show ((tg ts i).after.getD n 0).toNat = a by omega]
        · exact ih
      · exact ih
    · obtain rfl : x = n := by omega
      rw [endIn, he, if_pos hb, getD_set, if_pos ⟨rfl, by rw [endIn_len, hX]; show 5 + a < 15; omega⟩]
      rfl
theorem endOut_get (hg : AllGood M ts) (hn : ts.length ≤ 10) {L : List Int} {X : List Int} {a i x : Nat} (hX : X.length = 15) (ha : a < 10) (hb : bitI (L.getD 24 0) (a : Int) = 1) (hu : bitI (L.getD 24 0) (i : Int) = 0) (hx : x < (tg ts i).after.length) (he : (tg ts i).after.getD x 0 = (a : Int)) : ∀ n, i < n → (endOut ts L X n).getD (5 + a) 0 = L.getD a 0 + (tg ts a).time
  | n + 1, hin => by
    rw [endOut]
    by_cases hi : i < n
    · have ih := endOut_get hg hn hX ha hb hu hx he n hi
      split
      · exact endIn_keep ih _
      · exact ih
    · obtain rfl : i = n := by omega
      rw [if_pos hu]
      exact endIn_get (by rw [endOut_len]; exact hX) ha hb _ x hx he
theorem state_sim (hg : AllGood M ts) (hn : ts.length ≤ 10) (hM : M ≤ 4) {q : List Int} (hp : Rp ts p) (hq : Rp ts q) (h : stateP ts M p = stateP ts M q) : ∃ f g, Sim ts M p q f g := by
  have hlp := hp.pi.ok.len
  have hlq := hq.pi.ok.len
  obtain ⟨f1, g1, s1⟩ := SwI.swOut (ts := ts) (p := p) hM ⟨_, _, SwI.start hlp⟩ M (Nat.le_refl _)
  obtain ⟨f2, g2, s2⟩ := SwI.swOut (ts := ts) (p := q) hM ⟨_, _, SwI.start hlq⟩ M (Nat.le_refl _)
  have hget : ∀ j, (stateP ts M p).getD j 0 = (stateP ts M q).getD j 0 := fun j => by rw [h]
  unfold stateP at hget
  have hd : q.getD 24 0 = p.getD 24 0 := by
    have := hget 0
    rw [endOut_low (by decide), endOut_low (by decide), s1.d, s2.d] at this
    exact this.symm
  have hb : ∀ {f g : Nat → Nat}, PA ts M f g → ∀ k, k < 4 → f k < 4 := fun {f g} ha k hk => by
    by_cases hkM : k < M
    · have := ha.lt hkM; omega
    · rw [ha.fix k (by omega)]; exact hk
  refine ⟨fun k => f2 (g1 k), fun k => f1 (g2 k), s2.pa.comp s1.pa.inv, hd, fun k hk => ?_, fun i hi hu a ha hua => ?_⟩
  · have hk1 := hb s1.pa.inv k hk
    have := hget (1 + g1 k)
    rw [endOut_low (by omega), endOut_low (by omega), s1.fr _ hk1, s2.fr _ hk1, s1.pa.fg] at this
    exact this.symm
  · obtain ⟨x, hx, rfl⟩ := after_mem ha
    have hba := good_after hg hi x hx
    obtain ⟨A, hA⟩ := Int.eq_ofNat_of_zero_le hba.1
    have hA' : (tg ts i).after.getD x 0 = (A : Int) := hA
    rw [hA'] at hua ⊢
    have hu1 : bitI (p.getD 24 0) (i : Int) = 0 := by unfold undB at hu; simpa using hu
    have hb1 : bitI (p.getD 24 0) (A : Int) = 1 := by
      have h1 : ¬ bitI (p.getD 24 0) (A : Int) = 0 := by unfold undB at hua; simpa using hua
      have := bit_01 (p.getD 24 0) (A : Int); omega
    have e1 := endOut_get hg hn (L := p) s1.l (show A < 10 by omega) hb1 hu1 hx hA' ts.length hi
    have e2 := endOut_get hg hn (L := q) s2.l (show A < 10 by omega) (by rw [hd]; exact hb1) (by rw [hd]; exact hu1) hx hA' ts.length hi
    have := hget (5 + A)
    rw [e1, e2] at this
    show q.getD A 0 = p.getD A 0
    omega
end
end S
end Go.Proofs.YthggloiigkbfeaaGreat
namespace Go.Proofs.YthggloiigkbfeaaGreat
namespace S
theorem anot_sub (a : Nat) (ha : a < 16) (b : Nat) (hb : b < 16) (k : Nat) (hk : k < 4) (h : W.anot a b = 0) (h1 : bitI a (k : Int) = 1) : bitI b (k : Int) = 1 := by
  have : ∀ a : Nat, a < 16 → ∀ b : Nat, b < 16 → ∀ k : Nat, k < 4 → W.anot a b = 0 → bitI a (k : Int) = 1 → bitI b (k : Int) = 1 := by decide +kernel
  exact this a ha b hb k hk h h1
section
variable {ts : List Tk} {M : Nat} {p q L L' : List Int} {on : Nat}
theorem freeS_mono : ∀ {n : Nat}, (∀ j, j < n → L.getD (20 + j) 0 ≤ L'.getD (20 + j) 0) → freeS L on n ≤ freeS L' on n
  | 0, _ => Int.le_refl _
  | n + 1, h => by
    have ih := freeS_mono (n := n) fun j hj => h j (by omega)
    have := h n (by omega)
    rw [freeS, freeS]; split <;> omega
theorem freeS_add {k : Nat} {t : Int} (hb : bitI on (k : Int) = 1) (ht : L.getD (20 + k) 0 + t ≤ L'.getD (20 + k) 0) : ∀ {n : Nat}, k < n → (∀ j, j < n → L.getD (20 + j) 0 ≤ L'.getD (20 + j) 0) → freeS L on n + t ≤ freeS L' on n
  | n + 1, hk, h => by
    by_cases hkn : k < n
    · have ih := freeS_add hb ht hkn fun j hj => h j (by omega)
      have := h n (by omega)
      rw [freeS, freeS]; split <;> omega
    · obtain rfl : k = n := by omega
      have ih := freeS_mono (on := on) (n := k) fun j hj => h j (by omega)
      rw [freeS, freeS, if_pos hb, if_pos hb]; omega
theorem timeS_step {i : Nat} (ht : 0 ≤ (tg ts i).time) (hu : ∀ j : Nat, bitI (L'.getD 24 0) (j : Int) = 0 ↔ bitI (L.getD 24 0) (j : Int) = 0 ∧ i ≠ j) : ∀ n, timeS ts L on n ≤ timeS ts L' on n + (if i < n ∧ W.anot (tg ts i).on on = 0 then (tg ts i).time else 0)
  | 0 => by simp [timeS]
  | n + 1 => by
    have ih := timeS_step ht hu n
    rw [timeS, timeS]
    by_cases hin : i = n
    · subst hin
      rw [if_neg (by omega)] at ih
      rw [if_neg (c := bitI (L'.getD 24 0) (i : Int) = 0 ∧ _) (fun hc => ((hu i).1 hc.1).2 rfl)]
      by_cases ha : W.anot (tg ts i).on on = 0
      · rw [if_pos (show i < i + 1 ∧ _ from ⟨by omega, ha⟩)]
        split <;> omega
      · rw [if_neg (fun hc => ha hc.2), if_neg (fun hc => ha hc.2)]; omega
    · have e : (i < n + 1 ∧ W.anot (tg ts i).on on = 0) ↔ (i < n ∧ W.anot (tg ts i).on on = 0) := by omega
      have e2 : (bitI (L'.getD 24 0) (n : Int) = 0 ∧ W.anot (tg ts n).on on = 0) ↔ (bitI (L.getD 24 0) (n : Int) = 0 ∧ W.anot (tg ts n).on on = 0) := by
        rw [hu n]; simp [hin]
      simp only [e, e2]
      split <;> omega
theorem load_step (hg : AllGood M ts) (hn : ts.length ≤ 10) (hM : M ≤ 4) (hon : on < 16) (hp : Rp ts p) {i k : Nat} (hi : i < ts.length) (hk : k < M) (hr : readyQ ts p i = true) (hb : bitI (tg ts i).on (k : Int) = 1) :
    freeS p on M + timeS ts p on ts.length ≤ freeS (withP ts p i k) on M + timeS ts (withP ts p i k) on ts.length := by
  have hl := hp.pi.ok.len
  have ht := good_time hg i
  have ho := good_on hg hM i
  have hf := earl_free (ts := ts) p i k
  have hmono : ∀ j, j < M → p.getD (20 + j) 0 ≤ (withP ts p i k).getD (20 + j) 0 := fun j hj => by
    rw [with_fr hl (by omega) (by omega) j (by omega)]
    split
    · rename_i h; subst h; omega
    · omega
  have h1 := timeS_step (ts := ts) (L := p) (L' := withP ts p i k) (on := on) (i := i) ht.1 (fun j => by
    have := undB_with (ts := ts) (p := p) (i := i) (k := k) hl hp.pi.done.1 j
    unfold undB at this
    have h2 : (bitI ((withP ts p i k).getD 24 0) (j : Int) = 0) ↔ decide (bitI ((withP ts p i k).getD 24 0) (j : Int) = 0) = true := by simp
    rw [h2, this]; simp) ts.length
  split at h1
  · rename_i hc
    have hbo := anot_sub (tg ts i).on.toNat (by omega) on hon k (by omega) (by rw [Int.toNat_of_nonneg ho.1]; exact hc.2) (by rw [Int.toNat_of_nonneg ho.1]; exact hb)
    have h2 := freeS_add (on := on) (L := p) (L' := withP ts p i k) (t := (tg ts i).time) hbo (by rw [with_fr hl (by omega) (by omega) k (by omega), if_pos rfl]; omega) hk hmono
    omega
  · have h2 := freeS_mono (on := on) hmono
    omega
theorem load_reach (hg : AllGood M ts) (hn : ts.length ≤ 10) (hM : M ≤ 4) (hon : on < 16) (h : Rch ts M p q) : Rp ts p → freeS p on M + timeS ts p on ts.length ≤ freeS q on M + timeS ts q on ts.length := by
  induction h with
  | refl => exact fun _ => Int.le_refl _
  | step i k hi hk hr hb _ ih => exact fun hp => Int.le_trans (load_step hg hn hM hon hp hi hk hr hb) (ih (hp.step hg hn hM hi hk hr).1)
def cnt (on : Nat) : Nat → Int
  | 0 => 0
  | k + 1 => cnt on k + bitI on (k : Int)
theorem cnt_pop (hon : on < 16) (hM : M ≤ 4) : cnt on M ≤ popP on :=
  (by decide +kernel : ∀ x : Nat, x < 16 → ∀ m : Nat, m < 5 → cnt x m ≤ popP x) on hon M (by omega)
theorem freeS_le {B : Int} : ∀ {n : Nat}, (∀ j, j < n → L.getD (20 + j) 0 ≤ B) → freeS L on n ≤ cnt on n * B
  | 0, _ => by simp [freeS, cnt]
  | n + 1, h => by
    have ih := freeS_le (n := n) fun j hj => h j (by omega)
    have := h n (by omega)
    rw [freeS, cnt, Int.add_mul]
    rcases bit_01 on (n : Int) with hb | hb
    · rw [hb, if_neg (by omega)]; omega
    · rw [hb, if_pos rfl]; omega
theorem full_und (h : Full ts q) {j : Nat} (hj : j < ts.length) : bitI (q.getD 24 0) (j : Int) = 1 := by
  have hc : ((2 : Int) ^ ts.length) = ((2 ^ ts.length : Nat) : Int) := by simp
  have hp : 0 < 2 ^ ts.length := Nat.pow_pos (by decide)
  have h0 : 0 ≤ q.getD 24 0 := by rw [h]; omega
  rw [bitI_test h0]
  have h1 : (q.getD 24 0).toNat = 2 ^ ts.length - 1 := by rw [h]; omega
  rw [h1, Nat.testBit_two_pow_sub_one]; simp [hj]
theorem timeS_full (h : Full ts q) : ∀ n, n ≤ ts.length → timeS ts q on n = 0
  | 0, _ => rfl
  | n + 1, hn => by
    rw [timeS, if_neg (fun hc => by have := full_und h (j := n) (by omega); omega), timeS_full h n (by omega)]
theorem Rp.free_le (h : Rp ts p) {k : Nat} (hk : k < 4) : p.getD (20 + k) 0 ≤ p.getD 25 0 := by rw [h.len]; exact mx4_ge hk
theorem Rp.len0 (h : Rp ts p) : 0 ≤ p.getD 25 0 := (h.pi.ok.bd 25).1
theorem load_LB (hg : AllGood M ts) (hn : ts.length ≤ 10) (hM : M ≤ 4) (h1 : 1 ≤ on) (h2 : on < 16) (hp : Rp ts p) : LB ts M (loadP ts M p on) p := fun q hr hf => by
  have h3 := load_reach hg hn hM h2 hr hp
  have hq := hr.rp hg hn hM hp
  rw [timeS_full hf _ (Nat.le_refl _)] at h3
  have h4 := freeS_le (on := on) (L := q) (n := M) fun j hj => hq.free_le (k := j) (by omega)
  have h5 := Int.mul_le_mul_of_nonneg_right (cnt_pop h2 hM) hq.len0
  have h6 := popP_bd h1 h2
  have h7 : (freeS p on M + timeS ts p on ts.length + popP on - 1) / popP on < q.getD 25 0 + 1 := Int.ediv_lt_of_lt_mul (by omega) (by
    rw [Int.add_mul, Int.one_mul, Int.mul_comm (q.getD 25 0)]; omega)
  unfold loadP; omega
theorem rch_len (hn : ts.length ≤ 10) (h : Rch ts M p q) : p.length = 26 → p.getD 25 0 ≤ q.getD 25 0 := by
  induction h with
  | refl => exact fun _ => Int.le_refl _
  | step i k hi hk hr hb _ ih => exact fun hl => Int.le_trans (by rw [with_len hl]; omega) (ih (by simp [withP, hl]))
theorem setsF_hop {bl : Int} : ∀ {c n : Nat} {b : Bool}, setsF (hopStep ts M L bl) c n b = true → b = true ∨ ∃ x, n ≤ x ∧ x < n + c ∧ bl ≤ loadP ts M L x
  | 0, n, b, h => .inl h
  | c + 1, n, b, h => by
    rw [setsF] at h
    have h1 : (hopStep ts M L bl b n).1 = true → b = true ∨ ∃ x, n ≤ x ∧ x < n + (c + 1) ∧ bl ≤ loadP ts M L x := fun h => by
      simp only [hopStep, Bool.or_eq_true, decide_eq_true_eq] at h
      exact h.imp id fun h => ⟨n, by omega, by omega, h⟩
    split at h
    · rcases setsF_hop h with h | ⟨x, h2, h3, h4⟩
      · exact h1 h
      · exact .inr ⟨x, by omega, by omega, h4⟩
    · exact h1 h
theorem hop_LB (hg : AllGood M ts) (hn : ts.length ≤ 10) (hM : M ≤ 4) (hp : Rp ts p) {bl : Int} (h : hopP ts M p bl = true) : LB ts M bl p := by
  rcases setsF_hop h with h | ⟨x, h2, h3, h4⟩
  · exact fun q hr _ => Int.le_trans (of_decide_eq_true h) (rch_len hn hr hp.pi.ok.len)
  · have hp4 := pow_16 hM
    have : 2 ^ M ≤ 16 := by have := Nat.pow_le_pow_right (show 0 < 2 by decide) hM; omega
    exact (load_LB hg hn hM h2 (by omega) hp).mono h4
end
end S
end Go.Proofs.YthggloiigkbfeaaGreat
namespace Go.Proofs.YthggloiigkbfeaaGreat
namespace S
section
variable {ts : List Tk} {M : Nat} {goal : Int} {p q : List Int}
def Clo (ts : List Tk) (M : Nat) (s : RS) (u : Nat) : Prop := ∀ q, Rp ts q → stateP ts M q ∈ s.2 → und q ts.length ≤ u → LB ts M (s.1.getD 25 0) q
structure Fnd (ts : List Tk) (M : Nat) (p : List Int) (u : Nat) (s s' : RS) : Prop where
  le : s'.1.getD 25 0 ≤ s.1.getD 25 0
  cl : Clo ts M s' u
  new : ∀ X ∈ s'.2, X ∈ s.2 ∨ ∃ q, Rp ts q ∧ und q ts.length ≤ u ∧ X = stateP ts M q
  best : s'.1 = s.1 ∨ (Rch ts M p s'.1 ∧ Full ts s'.1)
theorem Fnd.refl {u : Nat} {s : RS} (h : Clo ts M s u) : Fnd ts M p u s s := ⟨Int.le_refl _, h, fun X hX => .inl hX, .inl rfl⟩
theorem Fnd.trans {u : Nat} {s s' s'' : RS} (h : Fnd ts M p u s s') (h' : Fnd ts M p u s' s'') : Fnd ts M p u s s'' :=
  ⟨Int.le_trans h'.le h.le, h'.cl, fun X hX => by
    rcases h'.new X hX with hX | hX
    · exact h.new X hX
    · exact .inr hX, by
    rcases h'.best with h1 | h1
    · rcases h.best with h2 | h2
      · exact .inl (h1.trans h2)
      · exact .inr (by rw [h1]; exact h2)
    · exact .inr h1⟩
theorem und_done (h : q.getD 24 0 = p.getD 24 0) : ∀ n, und q n = und p n
  | 0 => rfl
  | n + 1 => by rw [und, und, und_done h n]; unfold undB; rw [h]
theorem innP_find {rec : List Int → RS → RS} {i u : Nat} (hr : ∀ k s, k < M → bitI (tg ts i).on (k : Int) = 1 → Clo ts M s u → Fnd ts M (withP ts p i k) u s (rec (withP ts p i k) s) ∧ LB ts M ((rec (withP ts p i k) s).1.getD 25 0) (withP ts p i k)) (hi : i < ts.length) (hrd : readyQ ts p i = true) {s : RS} (hs : Clo ts M s u) : ∀ n, n ≤ M → Fnd ts M p u s (innP rec ts p i s n) ∧ ∀ k, k < n → bitI (tg ts i).on (k : Int) = 1 → LB ts M ((innP rec ts p i s n).1.getD 25 0) (withP ts p i k)
  | 0, _ => ⟨.refl hs, fun k hk => by omega⟩
  | n + 1, hn => by
    obtain ⟨h1, h2⟩ := innP_find hr hi hrd hs n (by omega)
    rw [innP]
    split
    · rename_i hb
      obtain ⟨h3, h4⟩ := hr n _ (by omega) hb h1.cl
      have h5 : Fnd ts M p u (innP rec ts p i s n) (rec (withP ts p i n) (innP rec ts p i s n)) := ⟨h3.le, h3.cl, h3.new, h3.best.imp id fun h => ⟨.step i n hi (by omega) hrd hb h.1, h.2⟩⟩
      refine ⟨h1.trans h5, fun k hk hb' => ?_⟩
      by_cases hkn : k < n
      · exact (h2 k hkn hb').mono h3.le
      · obtain rfl : k = n := by omega
        exact h4
    · rename_i hb
      refine ⟨h1, fun k hk hb' => ?_⟩
      by_cases hkn : k < n
      · exact h2 k hkn hb'
      · obtain rfl : k = n := by omega
        exact absurd hb' hb
theorem outP_find {rec : List Int → RS → RS} {u : Nat} (hr : ∀ i k s, i < ts.length → readyQ ts p i = true → k < M → bitI (tg ts i).on (k : Int) = 1 → Clo ts M s u → Fnd ts M (withP ts p i k) u s (rec (withP ts p i k) s) ∧ LB ts M ((rec (withP ts p i k) s).1.getD 25 0) (withP ts p i k)) {s : RS} (hs : Clo ts M s u) : ∀ n, n ≤ ts.length → Fnd ts M p u s (outP rec ts M p s n) ∧ ∀ i k, i < n → readyQ ts p i = true → k < M → bitI (tg ts i).on (k : Int) = 1 → LB ts M ((outP rec ts M p s n).1.getD 25 0) (withP ts p i k)
  | 0, _ => ⟨.refl hs, fun i k hk => by omega⟩
  | n + 1, hn => by
    obtain ⟨h1, h2⟩ := outP_find hr hs n (by omega)
    rw [outP]
    split
    · rename_i hrd
      obtain ⟨h3, h4⟩ := innP_find (hr n · · (by omega) hrd) (by omega) hrd h1.cl M (Nat.le_refl _)
      refine ⟨h1.trans h3, fun i k hi hrd' hk hb => ?_⟩
      by_cases hin : i < n
      · exact (h2 i k hin hrd' hk hb).mono h3.le
      · obtain rfl : i = n := by omega
        exact h4 k hk hb
    · rename_i hrd
      refine ⟨h1, fun i k hi hrd' hk hb => ?_⟩
      by_cases hin : i < n
      · exact h2 i k hin hrd' hk hb
      · obtain rfl : i = n := by omega
        exact absurd hrd' hrd
theorem run_find (hg : AllGood M ts) (hn : ts.length ≤ 10) (hM : M ≤ 4) : ∀ f p s, Rp ts p → und p ts.length < f → LB ts M goal p → Clo ts M s (und p ts.length) →
    Fnd ts M p (und p ts.length) s (runP ts M goal f p s) ∧ LB ts M ((runP ts M goal f p s).1.getD 25 0) p
  | 0, p, s, _, hf, _, _ => by omega
  | f + 1, p, s, hp, hf, hgo, hs => by
    have hst : ∀ {q}, Rp ts q → stateP ts M q = stateP ts M p → und q ts.length = und p ts.length := fun hq h => by
      obtain ⟨_, _, h1⟩ := state_sim hg hn hM hq hp h
      exact und_done h1.done.symm _
    rw [runP]
    split
    · rename_i hfull
      have hle : ∀ q, Rch ts M p q → p.getD 25 0 ≤ q.getD 25 0 := fun q h => rch_len hn h hp.pi.ok.len
      split
      · rename_i hlt
        refine ⟨⟨Int.le_of_lt hlt, fun q h1 h2 h3 => (hs q h1 h2 h3).mono (Int.le_of_lt hlt), fun X hX => .inl hX, .inr ⟨.refl p, hfull⟩⟩, fun q h1 h2 => hle q h1⟩
      · rename_i hlt
        exact ⟨.refl hs, fun q h1 h2 => Int.le_trans (Int.not_lt.1 hlt) (hle q h1)⟩
    · rename_i hnf
      split
      · rename_i hc
        refine ⟨.refl hs, ?_⟩
        rcases hc with hc | hc
        · rw [hc]; exact hgo
        · exact hop_LB hg hn hM hp hc
      · split
        · rename_i hmem
          exact ⟨.refl hs, hs p hp hmem (Nat.le_refl _)⟩
        · have hu : 0 < und p ts.length := Nat.pos_of_ne_zero fun hz => hnf (und_zero hp.pi.done.1 hp.pi.d hz)
          have hs1 : Clo ts M (s.1, s.2 ++ [stateP ts M p]) (und p ts.length - 1) := fun q h1 h2 h3 => by
            rcases List.mem_append.1 h2 with h2 | h2
            · exact hs q h1 h2 (by omega)
            · have := hst h1 (by simpa using h2)
              omega
          obtain ⟨h1, h2⟩ := outP_find (ts := ts) (M := M) (p := p) (rec := runP ts M goal f) (u := und p ts.length - 1) (fun i k s hi hr hk hb hs => by
            have hw := hp.step hg hn hM hi hk hr
            have := run_find hg hn hM f (withP ts p i k) s hw.1 (by omega) (fun q hq hqf => hgo q (.step i k hi hk hr hb hq) hqf)
            rw [show und (withP ts p i k) ts.length = und p ts.length - 1 by omega] at this
            exact this hs) hs1 ts.length (Nat.le_refl _)
          generalize outP (runP ts M goal f) ts M p (s.1, s.2 ++ [stateP ts M p]) ts.length = s' at h1 h2
          have hlb : LB ts M (s'.1.getD 25 0) p := fun q hq hqf => by
            cases hq with
            | refl => exact absurd hqf hnf
            | step i k hi hk hr hb hq => exact h2 i k hi hr hk hb q hq hqf
          refine ⟨⟨h1.le, fun q h3 h4 h5 => ?_, fun X hX => ?_, h1.best⟩, hlb⟩
          · by_cases h6 : und q ts.length ≤ und p ts.length - 1
            · exact h1.cl q h3 h4 h6
            · rcases h1.new _ h4 with h7 | ⟨q', h7, h8, h9⟩
              · rcases List.mem_append.1 h7 with h7 | h7
                · exact (hs q h3 h7 h5).mono h1.le
                · obtain ⟨f', g', h8⟩ := state_sim hg hn hM h3 hp (by simpa using h7)
                  exact LB.sim hg hn hM hp h3 h8 hlb
              · obtain ⟨_, _, h10⟩ := state_sim hg hn hM h3 h7 h9
                have := und_done h10.done ts.length
                omega
          · rcases h1.new X hX with h3 | ⟨q, h3, h4, h5⟩
            · rcases List.mem_append.1 h3 with h3 | h3
              · exact .inl h3
              · exact .inr ⟨p, hp, Nat.le_refl _, by simpa using h3⟩
            · exact .inr ⟨q, h3, by omega, h5⟩
end
end S
end Go.Proofs.YthggloiigkbfeaaGreat
namespace Go.Proofs.YthggloiigkbfeaaGreat
namespace S
structure Pf (ts : List Tk) (M : Nat) (st on : List Int) : Prop where
  ok : ∀ i, i < ts.length → 0 ≤ st.getD i 0 → may (tg ts i).on (on.getD i 0) ∧ on.getD i 0 < M
  dep : ∀ i, i < ts.length → 0 ≤ st.getD i 0 → ∀ k : Nat, (k : Int) ∈ (tg ts i).after → 0 ≤ st.getD k 0
  pair : ∀ i, i < ts.length → 0 ≤ st.getD i 0 → ∀ k, k < ts.length → 0 ≤ st.getD k 0 → pairOK ts st on i k
section
variable {ts : List Tk} {M : Nat} {p q st on : List Int}
theorem ready_nat (hg : AllGood M ts) {i : Nat} (hi : i < ts.length) : readyP ts st i ↔ st.getD i 0 < 0 ∧ ∀ k : Nat, (k : Int) ∈ (tg ts i).after → 0 ≤ st.getD k 0 := by
  unfold readyP
  refine and_congr Iff.rfl ⟨fun h k hk => ?_, fun h x hx => ?_⟩
  · obtain ⟨x, hx, he⟩ := after_mem hk
    have := h x hx
    rw [he] at this; exact this
  · have ha := good_after hg hi x hx
    exact h _ (by rw [Int.toNat_of_nonneg ha.1]; exact mem_after hx)
theorem after_lt (hg : AllGood M ts) {i k : Nat} (hi : i < ts.length) (h : (k : Int) ∈ (tg ts i).after) : k < i := by
  obtain ⟨x, hx, he⟩ := after_mem h
  have := good_after hg hi x hx
  omega
theorem Pf.step (hg : AllGood M ts) (hM : M ≤ 4) (hs : st.length = ts.length) (ho : on.length = ts.length) (h : Pf ts M st on) {i k : Nat} (hi : i < ts.length) (hk : k < M) (hr : readyP ts st i) (hb : bitI (tg ts i).on (k : Int) = 1) {e : Int} (he : e = placeP ts st on i k) : Pf ts M (st.set i e) (on.set i (k : Int)) := by
  have g1 : ∀ j, (st.set i e).getD j 0 = if i = j then e else st.getD j 0 := fun j => by rw [getD_set]; by_cases h : i = j <;> simp [h]; omega
  have g2 : ∀ j, (on.set i (k : Int)).getD j 0 = if i = j then (k : Int) else on.getD j 0 := fun j => by rw [getD_set]; by_cases h : i = j <;> simp [h]; omega
  have hr := (ready_nat hg hi).1 hr
  have hgo := good_on hg hM i
  have he0 : 0 ≤ e := by rw [he]; exact placeN_nonneg _
  have ht : ∀ j, j < ts.length → 1 ≤ (tg ts j).time := fun j hj => (hg j hj).t1
  have hub : ∀ j, j < ts.length → 0 ≤ st.getD j 0 → (on.getD j 0 = k ∨ (j : Int) ∈ (tg ts i).after) → st.getD j 0 + (tg ts j).time ≤ e := fun j hj h1 h2 => by rw [he]; exact placeN_ub h1 h2 hj
  refine ⟨fun j hj hp => ?_, fun j hj hp x hx => ?_, fun j hj hp x hx hpx => ?_⟩
  · rw [g1] at hp; rw [g2]
    by_cases hij : i = j
    · subst hij; rw [if_pos rfl]
      exact ⟨⟨by omega, by omega, by rw [Int.toNat_natCast]; exact (may_bit _ _ hgo.1).1 (by unfold bitI at hb; simpa using hb)⟩, by omega⟩
    · rw [if_neg hij] at hp ⊢; exact h.ok j hj hp
  · rw [g1] at hp ⊢
    by_cases hix : i = x
    · rw [if_pos hix]; exact he0
    · rw [if_neg hix]
      by_cases hij : i = j
      · subst hij; exact hr.2 x hx
      · rw [if_neg hij] at hp; exact h.dep j hj hp x hx
  · rw [g1] at hp hpx
    unfold pairOK
    rw [g1, g1, g2, g2]
    by_cases hij : i = j
    · subst hij
      by_cases hix : i = x
      · subst hix
        refine ⟨fun hc => ?_, fun hc => hc.1 rfl⟩
        have := after_lt hg hi hc.1; omega
      · rw [if_pos rfl, if_pos rfl, if_neg hix, if_neg hix]
        rw [if_neg hix] at hpx
        refine ⟨fun hc => ?_, fun hc => ?_⟩
        · have := hub x hx hpx (.inr hc.1); omega
        · have := hub x hx hpx (.inl hc.2.1.symm); omega
    · by_cases hix : i = x
      · subst hix
        rw [if_neg hij, if_neg hij, if_pos rfl, if_pos rfl]
        rw [if_neg hij] at hp
        refine ⟨fun hc => ?_, fun hc => ?_⟩
        · have := h.dep j hj hp i hc.1; omega
        · have := hub j hj hp (.inl hc.2.1)
          have := ht j hj; omega
      · rw [if_neg hij, if_neg hij, if_neg hix, if_neg hix]
        rw [if_neg hij] at hp; rw [if_neg hix] at hpx
        exact h.pair j hj hp x hx hpx
def Rf (ts : List Tk) (M : Nat) (p st on : List Int) : Prop := Rel ts p st on (p.getD 25 0) ∧ Pf ts M st on
theorem Rf.step (hg : AllGood M ts) (hn : ts.length ≤ 10) (hM : M ≤ 4) (h : Rf ts M p st on) {i k : Nat} (hi : i < ts.length) (hk : k < M) (hr : readyQ ts p i = true) (hb : bitI (tg ts i).on (k : Int) = 1) : Rf ts M (withP ts p i k) (st.set i (placeP ts st on i k)) (on.set i (k : Int)) := by
  have hrp := (ready_iff hg h.1 hi).1 hr
  have h1 := h.1.step hg hn hi (k := k) (by omega) hrp
  exact ⟨by rw [h1.len]; exact h1, h.2.step hg hM h.1.l1 h.1.l2 hi hk hrp hb rfl⟩
theorem Rf_zer (hn : ts.length ≤ 10) : Rf ts M zer (List.replicate ts.length (-1)) (List.replicate ts.length (-1)) := by
  have hm : ∀ j, j < ts.length → (List.replicate ts.length (-1 : Int)).getD j 0 = -1 := fun j hj => by simp [hj]
  exact ⟨rel_none (M := 0) hn, fun i hi h => by rw [hm i hi] at h; omega, fun i hi h => by rw [hm i hi] at h; omega, fun i hi h => by rw [hm i hi] at h; omega⟩
theorem Rch.rf (hg : AllGood M ts) (hn : ts.length ≤ 10) (hM : M ≤ 4) (h : Rch ts M p q) : (∃ st on, Rf ts M p st on) → ∃ st on, Rf ts M q st on := by
  induction h with
  | refl => exact id
  | step i k hi hk hr hb _ ih => exact fun ⟨_, _, hp⟩ => ih ⟨_, _, hp.step hg hn hM hi hk hr hb⟩
theorem Rel.full {ln : Int} (h : Rel ts p st on ln) : Full ts p ↔ ∀ i, i < ts.length → 0 ≤ st.getD i 0 := by
  refine ⟨fun hf i hi => ?_, fun ha => ?_⟩
  · have h1 := full_und hf hi
    rw [bitI_test h.done.1, h.bit] at h1
    simp only [hi, true_and, decide_eq_true_eq] at h1
    split at h1
    · assumption
    · omega
  · have h1 : (p.getD 24 0).toNat = 2 ^ ts.length - 1 := by
      refine Nat.eq_of_testBit_eq fun i => ?_
      rw [h.bit, Nat.testBit_two_pow_sub_one]
      by_cases hi : i < ts.length
      · simp only [hi, ha i hi, and_self, decide_true]
      · simp [hi]
    have hc : ((2 : Int) ^ ts.length) = ((2 ^ ts.length : Nat) : Int) := by simp
    have : 0 < 2 ^ ts.length := Nat.pow_pos (by decide)
    have := h.done.1
    unfold Full; omega
theorem lenN_ub {j : Nat} : ∀ {n : Nat}, j < n → st.getD j 0 + (tg ts j).time ≤ lenN ts st n
  | n + 1, h => by
    by_cases hj : j < n
    · have := lenN_ub hj; rw [lenN]; omega
    · obtain rfl : j = n := by omega
      rw [lenN]; omega
theorem lenN_lub {B : Int} (hB : 0 ≤ B) : ∀ {n : Nat}, (∀ j, j < n → st.getD j 0 + (tg ts j).time ≤ B) → lenN ts st n ≤ B
  | 0, _ => hB
  | n + 1, h => by have := lenN_lub hB (n := n) fun j hj => h j (by omega); have := h n (by omega); rw [lenN]; omega
theorem lenN_nonneg : ∀ n, 0 ≤ lenN ts st n
  | 0 => Int.le_refl _
  | n + 1 => by have := lenN_nonneg n; rw [lenN]; omega
theorem Rf.feas (hg : AllGood M ts) (hn : ts.length ≤ 10) (hM : M ≤ 4) (hp : Rp ts p) (h : Rf ts M p st on) (hf : Full ts p) : Feas ts M st on ∧ p.getD 25 0 = lenP ts st := by
  have ha := h.1.full.1 hf
  have hmay : ∀ i, i < ts.length → ∃ k : Nat, k < M ∧ on.getD i 0 = k := fun i hi => by
    obtain ⟨⟨h1, h2, h3⟩, h4⟩ := h.2.ok i hi (ha i hi)
    exact ⟨(on.getD i 0).toNat, by omega, by omega⟩
  refine ⟨⟨fun i hi => ⟨⟨ha i hi, ?_⟩, h.2.ok i hi (ha i hi)⟩, fun i hi k hk => h.2.pair i hi (ha i hi) k hk (ha k hk)⟩, ?_⟩
  · have := (h.1.sq i hi (ha i hi)).1
    have := (hp.pi.ok.bd i).2
    omega
  · rw [hp.len]
    apply Int.le_antisymm
    · refine mx4_le fun k hk => ?_
      rw [h.1.free k hk]
      exact freeN_lub (lenN_nonneg _) fun j hj _ _ => lenN_ub hj
    · refine lenN_lub (by rw [← hp.len]; exact hp.len0) fun j hj => ?_
      obtain ⟨k, hk, hk2⟩ := hmay j hj
      have h1 := freeN_ub (ts := ts) (ha j hj) hk2 hj
      rw [← h.1.free k (by omega)] at h1
      exact Int.le_trans h1 (mx4_ge (by omega))
end
end S
end Go.Proofs.YthggloiigkbfeaaGreat
namespace Go.Proofs.YthggloiigkbfeaaGreat
namespace S
structure Opt (ts : List Tk) (M : Nat) (n : Int) : Prop where
  ex : ∃ st on : List Int, st.length = ts.length ∧ on.length = ts.length ∧ Feas ts M st on ∧ lenP ts st = n
  lb : ∀ st on : List Int, Feas ts M st on → n ≤ lenP ts st
theorem argmin (P : Nat → Prop) [DecidablePred P] (f : Nat → Int) : ∀ n, (∃ j, j < n ∧ P j) → ∃ j, j < n ∧ P j ∧ ∀ i, i < n → P i → f j ≤ f i
  | 0, h => by obtain ⟨j, h, _⟩ := h; omega
  | n + 1, h => by
    by_cases h1 : ∃ j, j < n ∧ P j
    · obtain ⟨j, hj, hp, hm⟩ := argmin P f n h1
      by_cases hn : P n ∧ f n < f j
      · refine ⟨n, by omega, hn.1, fun i hi hpi => ?_⟩
        by_cases hin : i < n
        · have := hm i hin hpi; omega
        · obtain rfl : i = n := by omega
          exact Int.le_refl _
      · refine ⟨j, by omega, hp, fun i hi hpi => ?_⟩
        by_cases hin : i < n
        · exact hm i hin hpi
        · obtain rfl : i = n := by omega
          exact Int.not_lt.1 fun h => hn ⟨hpi, h⟩
    · obtain ⟨j, hj, hp⟩ := h
      obtain rfl : j = n := by
        apply Classical.byContradiction; intro hc
        exact h1 ⟨j, by omega, hp⟩
      refine ⟨j, by omega, hp, fun i hi hpi => ?_⟩
      by_cases hin : i < j
      · exact absurd ⟨i, hin, hpi⟩ h1
      · obtain rfl : i = j := by omega
        exact Int.le_refl _
section
variable {ts : List Tk} {M : Nat} {p q st on sp op : List Int}
structure Dm (ts : List Tk) (st on sp op : List Int) : Prop where
  le : ∀ i, i < ts.length → 0 ≤ sp.getD i 0 → sp.getD i 0 ≤ st.getD i 0 ∧ op.getD i 0 = on.getD i 0
  lo : ∀ i, i < ts.length → 0 ≤ sp.getD i 0 → ∀ j, j < ts.length → sp.getD j 0 < 0 → st.getD i 0 ≤ st.getD j 0
theorem dom (hg : AllGood M ts) (hn : ts.length ≤ 10) (hM : M ≤ 4) (hf : Feas ts M st on) : ∀ u p sp op, und p ts.length = u → Rp ts p → Rf ts M p sp op → Dm ts st on sp op → ∃ q sq oq, Rch ts M p q ∧ Full ts q ∧ Rf ts M q sq oq ∧ Dm ts st on sq oq := by
  intro u
  induction u with
  | zero => exact fun p sp op hu hp hr hd => ⟨p, sp, op, .refl p, und_zero hp.pi.done.1 hp.pi.d hu, hr, hd⟩
  | succ u ih =>
    intro p sp op hu hp hr hd
    by_cases hall : ∃ j, j < ts.length ∧ sp.getD j 0 < 0
    · obtain ⟨i, hi, hs, hmin⟩ := argmin (fun j => sp.getD j 0 < 0) (fun j => st.getD j 0) _ hall
      have hl1 := hr.1.l1
      have hl2 := hr.1.l2
      have ht := (hg i hi).t1
      obtain ⟨⟨hst0, _⟩, ⟨ho1, ho2, ho3⟩, ho4⟩ := hf.1 i hi
      obtain ⟨k, hk⟩ := Int.eq_ofNat_of_zero_le ho1
      have hk' : on.getD i 0 = (k : Int) := hk
      have hgo := good_on hg hM i
      have hb : bitI (tg ts i).on (k : Int) = 1 := by
        unfold bitI; rw [Int.toNat_natCast]
        refine (may_bit _ _ hgo.1).2 ?_
        rw [hk', Int.toNat_natCast] at ho3; exact ho3
      have hrd : readyP ts sp i := (ready_nat hg hi).2 ⟨hs, fun a ha => by
        have hai := after_lt hg hi ha
        have := (hf.2 i hi a (by omega)).1
        have hta := (hg a (by omega)).t1
        apply Classical.byContradiction; intro hc
        have := hmin a (by omega) (by omega)
        have : st.getD i 0 < st.getD a 0 + (tg ts a).time := by omega
        exact (hf.2 i hi a (by omega)).1 ⟨ha, this⟩⟩
      have hrq := (ready_iff hg hr.1 hi).2 hrd
      have hkM : k < M := by omega
      have hw := hp.step hg hn hM hi hkM hrq
      have hr' := hr.step hg hn hM hi hkM hrq hb
      have hle : placeP ts sp op i k ≤ st.getD i 0 := placeN_lub hst0 fun j hj h1 h2 => by
        have hdj := hd.le j hj h1
        have hij : i ≠ j := by rintro rfl; omega
        have hpr := hf.2 i hi j hj
        rcases h2 with h2 | h2
        · have := hd.lo j hj h1 i hi hs
          have := Int.not_lt.1 fun h => hpr.2 ⟨hij, by rw [hk', ← hdj.2, h2], this, h⟩
          omega
        · have := Int.not_lt.1 fun h => hpr.1 ⟨h2, h⟩
          omega
      have hp0 : 0 ≤ placeP ts sp op i k := placeN_nonneg _
      have g1 : ∀ j, (sp.set i (placeP ts sp op i k)).getD j 0 = if i = j then placeP ts sp op i k else sp.getD j 0 := fun j => by rw [getD_set]; by_cases h : i = j <;> simp [h]; omega
      have g2 : ∀ j, (op.set i (k : Int)).getD j 0 = if i = j then (k : Int) else op.getD j 0 := fun j => by rw [getD_set]; by_cases h : i = j <;> simp [h]; omega
      have hd' : Dm ts st on (sp.set i (placeP ts sp op i k)) (op.set i (k : Int)) := ⟨fun j hj h1 => by
          rw [g1] at h1 ⊢; rw [g2]
          by_cases hij : i = j
          · subst hij; rw [if_pos rfl, if_pos rfl]; exact ⟨hle, hk'.symm⟩
          · rw [if_neg hij] at h1 ⊢; rw [if_neg hij]; exact hd.le j hj h1, fun j hj h1 x hx h2 => by
          rw [g1] at h1 h2
          have hix : i ≠ x := by rintro rfl; rw [if_pos rfl] at h2; omega
          rw [if_neg hix] at h2
          by_cases hij : i = j
          · subst hij; exact hmin x hx h2
          · rw [if_neg hij] at h1; exact hd.lo j hj h1 x hx h2⟩
      obtain ⟨q, sq, oq, h1, h2⟩ := ih _ _ _ (by omega) hw.1 hr' hd'
      exact ⟨q, sq, oq, .step i k hi hkM hrq hb h1, h2⟩
    · exact ⟨p, sp, op, .refl p, hr.1.full.2 fun i hi => by
        apply Classical.byContradiction; intro hc
        exact hall ⟨i, hi, by omega⟩, hr, hd⟩
theorem LB.feas (hg : AllGood M ts) (hn : ts.length ≤ 10) (hM : M ≤ 4) {b : Int} (h : LB ts M b zer) (hf : Feas ts M st on) : b ≤ lenP ts st := by
  have hm : ∀ j, j < ts.length → (List.replicate ts.length (-1 : Int)).getD j 0 = -1 := fun j hj => by simp [hj]
  obtain ⟨q, sq, oq, h1, h2, h3, h4⟩ := dom hg hn hM hf _ zer _ _ rfl (Rp_zer hn) (Rf_zer hn) ⟨fun i hi h => by rw [hm i hi] at h; omega, fun i hi h => by rw [hm i hi] at h; omega⟩
  have h5 := h q h1 h2
  have h6 := h3.feas hg hn hM (h1.rp hg hn hM (Rp_zer hn)) h2
  rw [h6.2] at h5
  refine Int.le_trans h5 (lenN_lub (lenN_nonneg _) fun j hj => ?_)
  have := (h4.le j hj (h3.1.full.1 h2 j hj)).1
  have := lenN_ub (ts := ts) (st := st) hj
  omega
theorem opt_of (hg : AllGood M ts) (hn : ts.length ≤ 10) (hM : M ≤ 4) (h1 : Rch ts M zer q) (h2 : Full ts q) (h3 : LB ts M (q.getD 25 0) zer) : Opt ts M (q.getD 25 0) := by
  obtain ⟨sq, oq, h4⟩ := h1.rf hg hn hM ⟨_, _, Rf_zer hn⟩
  have h5 := h4.feas hg hn hM (h1.rp hg hn hM (Rp_zer hn)) h2
  exact ⟨⟨sq, oq, h4.1.l1, h4.1.l2, h5.1, h5.2.symm⟩, fun st on hf => LB.feas hg hn hM h3 hf⟩
theorem bestQ_may {i : Nat} : ∀ {n : Nat}, 0 ≤ bestQ ts p i n → may (tg ts i).on (bestQ ts p i n)
  | 0, h => by simp [bestQ] at h
  | n + 1, h => by
    rw [bestQ] at h ⊢
    split
    · rename_i hc; exact hc.1
    · rename_i hc; rw [if_neg hc] at h; exact bestQ_may h
theorem lis_rch (hg : AllGood M ts) (hn : ts.length ≤ 10) (hM : M ≤ 4) {o : List Int} : ∀ j, okOrder ts M o j → Rch ts M zer (lisN ts M o j)
  | 0, _ => .refl _
  | j + 1, h => by
    have hj : okOrder ts M o j := fun q hq => h q (by omega)
    have ih := lis_rch hg hn hM j hj
    obtain ⟨h1, h2, h3⟩ := h j (by omega)
    have hr := lis_lst hg hM hn j hj
    have hi : (o.getD j 0).toNat < ts.length := by omega
    have gi := hg _ hi
    have hgo := good_on hg hM (o.getD j 0).toNat
    have hb0 := bestQ_pos (ts := ts) (L := lisN ts M o j) (i := (o.getD j 0).toNat) (n := M) (good_may hM gi.o1 gi.o2)
    have hbb := bestQ_bd (ts := ts) (L := lisN ts M o j) (i := (o.getD j 0).toNat) M
    have hbm := (bestQ_may hb0).2.2
    refine ih.trans (.step _ _ hi ?_ ((ready_iff hg hr hi).2 h3) ?_ (.refl _))
    · omega
    · unfold bitI; rw [Int.toNat_natCast]; exact (may_bit _ _ hgo.1).2 hbm
theorem fill_take {n j : Nat} (hj : j ≤ n) (a : Nat) : (a : Int) ∈ (fillN n n).take j ↔ a < j := by
  have hl := fillN_len (n := n) n
  constructor
  · intro h
    obtain ⟨x, hx, he⟩ := List.mem_iff_getElem.1 h
    have hx' : x < j := by simp at hx; omega
    rw [List.getElem_take] at he
    have := fillN_get (n := n) n x (by omega) (Nat.le_refl _)
    rw [List.getD_eq_getElem?_getD, List.getElem?_eq_getElem (by omega)] at this
    simp only [Option.getD_some] at this
    rw [he, if_pos (by omega)] at this
    omega
  · intro h
    have := fillN_get (n := n) n a (by omega) (Nat.le_refl _)
    rw [List.getD_eq_getElem?_getD, List.getElem?_eq_getElem (by omega), if_pos (by omega)] at this
    simp only [Option.getD_some] at this
    refine List.mem_iff_getElem.2 ⟨a, by simp; omega, ?_⟩
    rw [List.getElem_take, this]
theorem fill_ok (hg : AllGood M ts) : ∀ n, n ≤ ts.length → okOrder ts M (fillN ts.length ts.length) n
  | 0, _ => fun j hj => by omega
  | n + 1, hn => fun j hj => by
    have ih := fill_ok hg n (by omega)
    by_cases hjn : j < n
    · exact ih j hjn
    · obtain rfl : j = n := by omega
      have hl := fillN_len (n := ts.length) ts.length
      have e := fillN_get (n := ts.length) ts.length j (by omega) (Nat.le_refl _)
      rw [if_pos (by omega)] at e
      have hp := lst_placed (M := M) (ts := ts) (o := fillN ts.length ts.length) j (by omega) ih
      unfold okAt
      rw [e]
      refine ⟨by omega, by omega, (ready_nat hg (by omega)).2 ⟨?_, fun k hk => ?_⟩⟩
      · show (lstN ts M _ j).1.getD j 0 < 0
        have := mt (hp j (by omega)).1 (mt (fill_take (n := ts.length) (by omega) j).1 (by omega))
        omega
      · have := after_lt hg (show j < ts.length by omega) hk
        exact (hp k (by omega)).2 ((fill_take (by omega) k).2 this)
theorem lis_full (hg : AllGood M ts) (hn : ts.length ≤ 10) (hM : M ≤ 4) {o : List Int} (hl : o.length = ts.length) (h : okOrder ts M o ts.length) : Full ts (lisN ts M o ts.length) :=
  (lis_lst hg hM hn _ h).full.2 (ok_all hl h)
end
end S
end Go.Proofs.YthggloiigkbfeaaGreat
namespace Go.Proofs.YthggloiigkbfeaaGreat
namespace S
section
variable {ts : List Tk} {M : Nat} {p q st on : List Int}
theorem nextP_mem {T : List Int} {i : Nat} : ∀ {j : Nat}, 0 ≤ nextP ts T i j → (i : Int) ∈ (tg ts (nextP ts T i j).toNat).after
  | 0, h => by simp [nextP] at h
  | j + 1, h => by
    rw [nextP] at h ⊢
    split
    · rename_i hc; rw [Int.toNat_natCast]; exact hc.1
    · rename_i hc; rw [if_neg hc] at h; exact nextP_mem h
theorem chS_le (hg : AllGood M ts) (hf : Feas ts M st on) : ∀ d, d ≤ ts.length → (∀ j, ts.length - d ≤ j → j < ts.length → st.getD j 0 + (chS ts d).t.getD j 0 ≤ lenP ts st) ∧ (chS ts d).most ≤ lenP ts st
  | 0, _ => ⟨fun j h1 h2 => by omega, lenN_nonneg _⟩
  | d + 1, hd => by
    obtain ⟨h1, h2⟩ := chS_le hg hf d (by omega)
    have hl := (chS_ok (good_time hg) d).lt
    have hi : ts.length - 1 - d < ts.length := by omega
    have e1 : (chS ts (d + 1)).t = (chS ts d).t.set (ts.length - 1 - d) (if nextP ts (chS ts d).t (ts.length - 1 - d) d < 0 then (tg ts (ts.length - 1 - d)).time else (tg ts (ts.length - 1 - d)).time + (chS ts d).t.getD (nextP ts (chS ts d).t (ts.length - 1 - d) d).toNat 0) := rfl
    have e2 : (chS ts (d + 1)).most = if (chS ts d).most ≤ (if nextP ts (chS ts d).t (ts.length - 1 - d) d < 0 then (tg ts (ts.length - 1 - d)).time else (tg ts (ts.length - 1 - d)).time + (chS ts d).t.getD (nextP ts (chS ts d).t (ts.length - 1 - d) d).toNat 0) then (if nextP ts (chS ts d).t (ts.length - 1 - d) d < 0 then (tg ts (ts.length - 1 - d)).time else (tg ts (ts.length - 1 - d)).time + (chS ts d).t.getD (nextP ts (chS ts d).t (ts.length - 1 - d) d).toNat 0) else (chS ts d).most := rfl
    have hst := (hf.1 _ hi).1.1
    have hv : st.getD (ts.length - 1 - d) 0 + (if nextP ts (chS ts d).t (ts.length - 1 - d) d < 0 then (tg ts (ts.length - 1 - d)).time else (tg ts (ts.length - 1 - d)).time + (chS ts d).t.getD (nextP ts (chS ts d).t (ts.length - 1 - d) d).toNat 0) ≤ lenP ts st := by
      split
      · exact lenN_ub hi
      · rename_i hc
        have hm := nextP_mem (Int.not_lt.1 hc)
        have hb := nextP_bd (ts := ts) (T := (chS ts d).t) (i := ts.length - 1 - d) d
        have h3 := h1 (nextP ts (chS ts d).t (ts.length - 1 - d) d).toNat (by omega) (by omega)
        have h4 := Int.not_lt.1 fun h => (hf.2 (nextP ts (chS ts d).t (ts.length - 1 - d) d).toNat (by omega) _ hi).1 ⟨hm, h⟩
        omega
    generalize (if nextP ts (chS ts d).t (ts.length - 1 - d) d < 0 then (tg ts (ts.length - 1 - d)).time else (tg ts (ts.length - 1 - d)).time + (chS ts d).t.getD (nextP ts (chS ts d).t (ts.length - 1 - d) d).toNat 0) = x at *
    refine ⟨fun j h3 h4 => ?_, ?_⟩
    · rw [e1, getD_set]
      split
      · rename_i hc; rw [← hc.1]; exact hv
      · rename_i hc; exact h1 j (by omega) h4
    · rw [e2]; split <;> omega
theorem chain_feas (hg : AllGood M ts) (hf : Feas ts M st on) : (chainP ts).2 ≤ lenP ts st := (chS_le hg hf _ (Nat.le_refl _)).2
theorem setsF_bd {B : Int} : ∀ {c n : Nat} {s : Bool × Int × Int}, (∀ x, n ≤ x → x < n + c → loadP ts M zer x ≤ B) → s.2.2 ≤ B → (setsF (bStep ts M) c n s).2.2 ≤ B
  | 0, n, s, _, h => h
  | c + 1, n, s, hl, h => by
    rw [setsF]
    have h1 : (bStep ts M s n).1.2.2 ≤ B := by
      unfold bStep; split
      · exact hl n (by omega) (by omega)
      · exact h
    split
    · exact setsF_bd (fun x h2 h3 => hl x (by omega) (by omega)) h1
    · exact h1
theorem bound_feas (hg : AllGood M ts) (hn : ts.length ≤ 10) (hM : M ≤ 4) (hf : Feas ts M st on) : (boundP ts M).2.2 ≤ lenP ts st := by
  refine setsF_bd (fun x h1 h2 => ?_) (chain_feas hg hf)
  have : 2 ^ M ≤ 16 := by have := Nat.pow_le_pow_right (show 0 < 2 by decide) hM; omega
  exact LB.feas hg hn hM (load_LB hg hn hM h1 (by omega) (Rp_zer hn)) hf
theorem bound_LB (hg : AllGood M ts) (hn : ts.length ≤ 10) (hM : M ≤ 4) : LB ts M (boundP ts M).2.2 zer := fun q h1 h2 => by
  obtain ⟨sq, oq, h4⟩ := h1.rf hg hn hM ⟨_, _, Rf_zer hn⟩
  have h5 := h4.feas hg hn hM (h1.rp hg hn hM (Rp_zer hn)) h2
  rw [h5.2]; exact bound_feas hg hn hM h5.1
theorem best_opt (hg : AllGood M ts) (hn : ts.length ≤ 10) (hM : M ≤ 4) : Rch ts M zer (bestS ts M).1 ∧ Full ts (bestS ts M).1 ∧ Opt ts M ((bestS ts M).1.getD 25 0) := by
  have hl := fillN_len (n := ts.length) ts.length
  have hok := fill_ok (M := M) hg ts.length (Nat.le_refl _)
  obtain ⟨h1, h2⟩ := run_find hg hn hM (ts.length + 1) zer (lisN ts M (fillN ts.length ts.length) ts.length, []) (Rp_zer hn) (by rw [und_zer]; omega) (bound_LB hg hn hM) (fun q _ h => by cases h)
  have h3 : Rch ts M zer (bestS ts M).1 ∧ Full ts (bestS ts M).1 := by
    rcases h1.best with h3 | h3
    · unfold bestS; rw [h3]
      exact ⟨lis_rch hg hn hM _ hok, lis_full hg hn hM hl hok⟩
    · exact h3
  exact ⟨h3.1, h3.2, opt_of hg hn hM h3.1 h3.2 h2⟩
end
end S
end Go.Proofs.YthggloiigkbfeaaGreat
namespace Go.Proofs.YthggloiigkbfeaaGreat
namespace S
section
variable {ts : List Tk} {M : Nat}
theorem ord_take (hg : AllGood M ts) {m : List Int} {j : Nat} : ∀ {n : Nat}, j ≤ n → n ≤ ts.length → (ordN ts m n).2.take j = (ordN ts m j).2
  | 0, h, _ => by obtain rfl : j = 0 := by omega
                  rfl
  | n + 1, h, hn => by
    by_cases hj : j ≤ n
    · have ih := ord_take hg (m := m) hj (by omega)
      have hl := (ord_ok hg m n (by omega)).out
      show ((ordN ts m n).2 ++ [_]).take j = _
      rw [List.take_append_of_le_length (by omega), ih]
    · obtain rfl : j = n + 1 := by omega
      have hl := (ord_ok hg m (n + 1) hn).out
      rw [List.take_of_length_le (by omega)]
theorem ord_okOrder (hg : AllGood M ts) {m : List Int} : ∀ n, n ≤ ts.length → okOrder ts M (ordP ts m) n
  | 0, _ => fun j hj => by omega
  | n + 1, hn => fun j hj => by
    have ih := ord_okOrder hg (m := m) n (by omega)
    by_cases hjn : j < n
    · exact ih j hjn
    · obtain rfl : j = n := by omega
      have hoj := ord_ok hg m j (by omega)
      have hof := ord_ok hg m ts.length (Nat.le_refl _)
      obtain ⟨_, _, i, he, hi, hr⟩ := ord_step hg (show j < ts.length by omega) hoj
      have ht := ord_take hg (m := m) (j := j) (n := ts.length) (by omega) (Nat.le_refl _)
      have ht1 := ord_take hg (m := m) (j := j + 1) (n := ts.length) (by omega) (Nat.le_refl _)
      have e : (ordP ts m).getD j 0 = (i : Int) := by
        have h1 : (ordN ts m (j + 1)).2 = (ordN ts m j).2 ++ [(i : Int)] := by
          show _ ++ [_] = _
          rw [he]
        have h2 : ((ordP ts m).take (j + 1)).getD j 0 = (ordP ts m).getD j 0 := by
          simp only [List.getD_eq_getElem?_getD, List.getElem?_take]; rw [if_pos (by omega)]
        rw [← h2, ht1, h1]
        have := hoj.out
        simp [List.getD_eq_getElem?_getD, List.getElem?_append_right, this]
      have hp := lst_placed (M := M) (ts := ts) (o := ordP ts m) j (by rw [hof.out]; omega) ih
      unfold okAt
      rw [e, Int.toNat_natCast]
      rw [ht] at hp
      have hr' := (ready_nat hg hi).1 hr
      refine ⟨by omega, by omega, (ready_nat hg hi).2 ⟨?_, fun k hk => ?_⟩⟩
      · have hf := hoj.free i hi
        have : ¬ (i : Int) ∈ (ordN ts m j).2 := fun hc => by rw [if_pos hc] at hf; omega
        have := mt (hp i hi).1 this
        omega
      · have hki := after_lt hg hi hk
        have hf := hoj.free k (by omega)
        have h0 := hr'.2 k hk
        have : (k : Int) ∈ (ordN ts m j).2 := by
          apply Classical.byContradiction; intro hc
          rw [if_neg hc] at hf; omega
        exact (hp k (by omega)).2 this
end
end S
end Go.Proofs.YthggloiigkbfeaaGreat
namespace Go.Proofs.YthggloiigkbfeaaGreat
namespace S
def machP (l : List Int) : Int := 1 + atP l 0 3
def allP (l : List Int) : Int := 1 * 2 ^ (machP l).toNat - 1
def tyP (l : List Int) (i : Nat) : Int := (((atP l ((3 * (i : Int) + 3)) 1024).toNat &&& (atP l ((3 * (i : Int) + 2)) 1024).toNat : Nat) : Int)
def txP (l : List Int) (i : Nat) : Int := atP l (3 * (i : Int) + 2) 1024
def tonP (l : List Int) (i : Nat) : Int := if 0 < txP l i % 3 ∧ 0 < (((txP l i / 3).toNat &&& (allP l).toNat : Nat) : Int) then (((txP l i / 3).toNat &&& (allP l).toNat : Nat) : Int) else allP l
def aftP (y : Int) : Nat → List Int
  | 0 => []
  | k + 1 => if y / 2 ^ ((k : Int)).toNat % 2 = 1 then aftP y k ++ [(k : Int)] else aftP y k
def tkP (l : List Int) (i : Nat) : Tk := ⟨1 + atP l (3 * (i : Int) + 1) 9, tonP l i, aftP (tyP l i) i⟩
def tasksN (l : List Int) : Nat → List Tk
  | 0 => []
  | n + 1 => tasksN l n ++ [tkP l n]
def cntP (l : List Int) (most : Nat) : Nat := min most ((l.length + 1) / 3)
abbrev tasksP (l : List Int) (most : Nat) : List Tk := tasksN l (cntP l most)
theorem tasksN_len {l : List Int} : ∀ n, (tasksN l n).length = n
  | 0 => rfl
  | n + 1 => by simp [tasksN, tasksN_len n]
theorem tasksN_get {l : List Int} : ∀ {n i : Nat}, i < n → tg (tasksN l n) i = tkP l i
  | n + 1, i, hi => by
    by_cases h : i < n
    · rw [tasksN, tg, List.getD_eq_getElem?_getD, List.getElem?_append_left (by rw [tasksN_len]; exact h), ← List.getD_eq_getElem?_getD]
      exact tasksN_get h
    · obtain rfl : i = n := by omega
      simp [tasksN, tg, List.getD_eq_getElem?_getD, tasksN_len]
theorem mach_bd (l : List Int) : 1 ≤ machP l ∧ machP l ≤ 3 := by
  have := atP_bd (l := l) (i := 0) (m := 3) (by decide)
  unfold machP; omega
theorem all_bd (l : List Int) : 1 ≤ allP l ∧ allP l ≤ 7 ∧ allP l = 2 ^ (machP l).toNat - 1 := by
  have h := mach_bd l
  have e : allP l = 2 ^ (machP l).toNat - 1 := by unfold allP; omega
  rw [e]
  have : (machP l).toNat = 1 ∨ (machP l).toNat = 2 ∨ (machP l).toNat = 3 := by omega
  rcases this with h | h | h <;> rw [h] <;> decide
theorem aft_mem {y : Int} : ∀ {k : Nat} {x : Int}, x ∈ aftP y k → 0 ≤ x ∧ x < k
  | k + 1, x, h => by
    rw [aftP] at h
    split at h
    · rcases List.mem_append.1 h with h | h
      · have := aft_mem h; omega
      · simp at h; omega
    · have := aft_mem h; omega
theorem aft_len {y : Int} : ∀ k, (aftP y k).length ≤ k
  | 0 => by simp [aftP]
  | k + 1 => by
    have := aft_len (y := y) k
    rw [aftP]; split <;> simp <;> omega
theorem aft_good {y : Int} : ∀ k, GoodAfter k (aftP y k) (aftP y k).length
  | 0 => fun j hj => by simp [aftP] at hj
  | k + 1 => fun j hj => by
    have ih := aft_good (y := y) k
    have hm : ∀ x ∈ aftP y k, 0 ≤ x ∧ x < k := fun x hx => aft_mem hx
    rw [aftP] at hj ⊢
    split at hj
    · rename_i h
      rw [if_pos h]
      simp only [List.length_append, List.length_cons, List.length_nil] at hj
      have hg : ∀ q, q < (aftP y k).length → (aftP y k ++ [(k : Int)]).getD q 0 = (aftP y k).getD q 0 := fun q hq => by
        simp only [List.getD_eq_getElem?_getD, List.getElem?_append_left hq]
      by_cases hjl : j < (aftP y k).length
      · have h3 := ih j hjl
        rw [hg j hjl]
        refine ⟨h3.1, by omega, fun h0 => ?_⟩
        rw [hg _ (by omega)]; exact h3.2.2 h0
      · have hje : j = (aftP y k).length := by omega
        have hk : (aftP y k ++ [(k : Int)]).getD j 0 = k := by subst hje; simp [List.getD_eq_getElem?_getD]
        rw [hk]
        refine ⟨by omega, by omega, fun h0 => ?_⟩
        rw [hg _ (by omega)]
        have hq : j - 1 < (aftP y k).length := by omega
        have := hm _ (show (aftP y k).getD (j - 1) 0 ∈ aftP y k by rw [List.getD_eq_getElem?_getD, List.getElem?_eq_getElem hq]; exact List.getElem_mem _)
        omega
    · rename_i h
      rw [if_neg h]
      have h3 := ih j hj
      exact ⟨h3.1, by omega, h3.2.2⟩
theorem ton_bd (l : List Int) (i : Nat) : 1 ≤ tonP l i ∧ tonP l i ≤ allP l := by
  have h := all_bd l
  unfold tonP
  split
  · rename_i hc
    have : (txP l i / 3).toNat &&& (allP l).toNat ≤ (allP l).toNat := Nat.and_le_right
    omega
  · omega
theorem tk_good (l : List Int) (i : Nat) : Good (machP l).toNat i (tkP l i) := by
  have h1 := atP_bd (l := l) (i := 3 * (i : Int) + 1) (m := 9) (by decide)
  have h2 := ton_bd l i
  have h3 := all_bd l
  exact ⟨by show 1 ≤ 1 + _; omega, by show 1 + _ ≤ (20 : Int); omega, h2.1, by show tonP l i < _; omega, aft_good i⟩
theorem tasks_good (l : List Int) (n : Nat) : AllGood (machP l).toNat (tasksN l n) := fun i hi => by
  rw [tasksN_len] at hi
  rw [tasksN_get hi]; exact tk_good l i
theorem good_i64 {M : Nat} {ts : List Tk} (hg : AllGood M ts) (hM : M ≤ 4) (hn : ts.length ≤ 10) : TI64 ts := fun i => by
  have h1 := good_time hg i
  have h2 := good_on hg hM i
  refine ⟨by unfold I64; omega, by unfold I64; omega, fun x hx => ?_⟩
  by_cases hi : i < ts.length
  · obtain ⟨q, hq, rfl⟩ : ∃ q, q < (tg ts i).after.length ∧ (tg ts i).after.getD q 0 = x := by
      obtain ⟨q, hq, he⟩ := List.mem_iff_getElem.1 hx
      exact ⟨q, hq, by rw [List.getD_eq_getElem?_getD, List.getElem?_eq_getElem hq]; simpa using he⟩
    have := good_after hg hi q hq
    unfold I64; omega
  · simp [hi, tk0] at hx
end S
end Go.Proofs.YthggloiigkbfeaaGreat
namespace Go.Proofs.YthggloiigkbfeaaGreat
namespace S
structure Gen (ts : List Tk) (M : Nat) (most : Nat) : Prop where
  g : AllGood M ts
  M1 : 1 ≤ M
  M3 : M ≤ 3
  n : ts.length ≤ most
  i : TI64 ts
  a : ∀ i, (tg ts i).after.length ≤ 100
  t : ∀ i, i < ts.length → (tg ts i).time ≤ 9
theorem gen_tasks (l : List Int) (most : Nat) (hm : most ≤ 10) : ∃ M : Nat, machP l = M ∧ Gen (tasksP l most) M most := by
  have hg : AllGood (machP l).toNat (tasksP l most) := tasks_good l (cntP l most)
  have hmb := mach_bd l
  have htl : (tasksP l most).length ≤ most := by rw [tasksN_len, cntP]; omega
  refine ⟨(machP l).toNat, by omega, hg, by omega, by omega, htl, good_i64 hg (by omega) (by omega), fun i => ?_, fun i hi => ?_⟩
  rotate_left
  · rw [tasksN_get (by rw [tasksN_len] at hi; exact hi)]
    have := atP_bd (l := l) (i := 3 * (i : Int) + 1) (m := 9) (by decide)
    show 1 + atP l (3 * (i : Int) + 1) 9 ≤ 9
    omega
  by_cases hi : i < cntP l most
  · rw [tasksN_get hi]
    have := aft_len (y := tyP l i) i
    have : cntP l most ≤ most := by rw [cntP]; omega
    show (aftP (tyP l i) i).length ≤ 100
    omega
  · have : tg (tasksP l most) i = tk0 := by simp [tg, List.getD_eq_getElem?_getD, tasksN_len, List.getElem?_eq_none, hi]
    rw [this]; simp [tk0]
end S
end Go.Proofs.YthggloiigkbfeaaGreat
namespace Go.Proofs.YthggloiigkbfeaaGreat
namespace S
def Tgt (ts : List Tk) (st on : List Int) : Prop := ∀ i, i < ts.length → 0 ≤ st.getD i 0 → st.getD i 0 = 0 ∨ ∃ k, k < ts.length ∧ 0 ≤ st.getD k 0 ∧ (on.getD k 0 = on.getD i 0 ∨ (k : Int) ∈ (tg ts i).after) ∧ st.getD k 0 + (tg ts k).time = st.getD i 0
section
variable {ts : List Tk} {M : Nat} {p q st on : List Int}
theorem placeN_eq {i : Nat} {k : Int} : ∀ n, placeN ts st on i k n = 0 ∨ ∃ j, j < n ∧ 0 ≤ st.getD j 0 ∧ (on.getD j 0 = k ∨ (j : Int) ∈ (tg ts i).after) ∧ st.getD j 0 + (tg ts j).time = placeN ts st on i k n := by
  intro n
  induction n with
  | zero => exact .inl rfl
  | succ n ih =>
    unfold placeN
    by_cases c : 0 ≤ st.getD n 0 ∧ (on.getD n 0 = k ∨ (n : Int) ∈ (tg ts i).after)
    · rw [if_pos c]
      by_cases d : placeN ts st on i k n ≤ st.getD n 0 + (tg ts n).time
      · exact .inr ⟨n, by omega, c.1, c.2, by omega⟩
      · rw [show max (placeN ts st on i k n) (st.getD n 0 + (tg ts n).time) = placeN ts st on i k n by omega]
        rcases ih with ih | ⟨j, h1, h2⟩
        · exact .inl ih
        · exact .inr ⟨j, by omega, h2⟩
    · rw [if_neg c]
      rcases ih with ih | ⟨j, h1, h2⟩
      · exact .inl ih
      · exact .inr ⟨j, by omega, h2⟩
theorem Tgt.step (hs : st.length = ts.length) (ho : on.length = ts.length) {i : Nat} (hi : i < ts.length) (hr : st.getD i 0 < 0) (h : Tgt ts st on) (k : Int) : Tgt ts (st.set i (placeP ts st on i k)) (on.set i k) := by
  have g1 : ∀ j, (st.set i (placeP ts st on i k)).getD j 0 = if i = j then placeP ts st on i k else st.getD j 0 := fun j => by rw [getD_set]; by_cases h : i = j <;> simp [h]; omega
  have g2 : ∀ j, (on.set i k).getD j 0 = if i = j then k else on.getD j 0 := fun j => by rw [getD_set]; by_cases h : i = j <;> simp [h]; omega
  intro j hj hp
  rw [g1] at hp ⊢
  by_cases e : i = j
  · subst e
    rw [if_pos rfl]
    rcases @placeN_eq ts st on i k ts.length with h1 | ⟨x, h1, h2, h3, h4⟩
    · exact .inl h1
    · have hne : i ≠ x := fun e => by subst e; omega
      exact .inr ⟨x, h1, by rw [g1, if_neg hne]; exact h2, by rw [g2, g2, if_neg hne, if_pos rfl]; exact h3, by rw [g1, if_neg hne]; exact h4⟩
  · rw [if_neg e] at hp ⊢
    rcases h j hj hp with h1 | ⟨x, h1, h2, h3, h4⟩
    · exact .inl h1
    · have hne : i ≠ x := fun e => by subst e; omega
      exact .inr ⟨x, h1, by rw [g1, if_neg hne]; exact h2, by rw [g2, g2, if_neg hne, if_neg e]; exact h3, by rw [g1, if_neg hne]; exact h4⟩
theorem Rch.tgt (hg : AllGood M ts) (hn : ts.length ≤ 10) (hM : M ≤ 4) (h : Rch ts M p q) : (∃ st on, Rf ts M p st on ∧ Tgt ts st on) → ∃ st on, Rf ts M q st on ∧ Tgt ts st on := by
  induction h with
  | refl => exact id
  | step i k hi hk hr hb _ ih => exact fun ⟨_, _, hp, ht⟩ => ih ⟨_, _, hp.step hg hn hM hi hk hr hb, ht.step hp.1.l1 hp.1.l2 hi ((ready_nat hg hi).1 ((ready_iff hg hp.1 hi).1 hr)).1 _⟩
theorem Tgt_none : Tgt ts (List.replicate ts.length (-1)) (List.replicate ts.length (-1)) := fun i hi h => by
  have : (List.replicate ts.length (-1 : Int)).getD i 0 = -1 := by simp [hi]
  rw [this] at h; omega
theorem best_tgt (hg : AllGood M ts) (hn : ts.length ≤ 10) (hM : M ≤ 4) : ∃ st on n, bestP ts M = (st, on, n, 0) ∧ st.length = ts.length ∧ on.length = ts.length ∧ Feas ts M st on ∧ lenP ts st = n ∧ Tgt ts st on := by
  obtain ⟨h1, h2, h3⟩ := best_opt hg hn hM
  obtain ⟨sq, oq, h4, ht⟩ := h1.tgt hg hn hM ⟨_, _, Rf_zer hn, Tgt_none⟩
  have h5 := h4.feas hg hn hM (h1.rp hg hn hM (Rp_zer hn)) h2
  have h6 := h4.1.lists hn (h4.1.full.1 h2)
  refine ⟨sq, oq, _, ?_, h4.1.l1, h4.1.l2, h5.1, h5.2.symm, ht⟩
  unfold bestP
  rw [show (M : Int).toNat = M from rfl, h6.1, h6.2]
theorem list_tgt (hg : AllGood M ts) (hn : ts.length ≤ 10) (hM : M ≤ 4) (hv : validE ts M = 0) (m : List Int) : ∃ st on n, listP ts M (ordP ts m) = (st, on, n, 0) ∧ st.length = ts.length ∧ on.length = ts.length ∧ Feas ts M st on ∧ lenP ts st = n ∧ Tgt ts st on := by
  have hl := (ord_ok hg m ts.length (Nat.le_refl _)).out
  have hok := ord_okOrder hg (m := m) ts.length (Nat.le_refl _)
  have h1 := lis_rch hg hn hM ts.length hok
  have h2 := lis_full hg hn hM hl hok
  have h3 := lis_lst hg hM hn ts.length hok
  obtain ⟨sq, oq, h4, ht⟩ := h1.tgt hg hn hM ⟨_, _, Rf_zer hn, Tgt_none⟩
  have h5 := h4.feas hg hn hM (h1.rp hg hn hM (Rp_zer hn)) h2
  have h6 := h4.1.lists hn (h4.1.full.1 h2)
  have h7 := h3.lists hn (h3.full.1 h2)
  have e1 : sq = (lstN ts M (ordP ts m) ts.length).1 := by rw [← h6.1, h7.1]
  have e2 : oq = (lstN ts M (ordP ts m) ts.length).2.1 := by rw [← h6.2, h7.2]
  refine ⟨_, _, _, listP_ok hv hl hok, h3.l1, h3.l2, by rw [← e1, ← e2]; exact h5.1, by rw [← h3.len, h5.2, e1], by rw [← e1, ← e2]; exact ht⟩
theorem lenN_att : ∀ n, lenN ts st n = 0 ∨ ∃ j, j < n ∧ st.getD j 0 + (tg ts j).time = lenN ts st n := by
  intro n
  induction n with
  | zero => exact .inl rfl
  | succ n ih =>
    unfold lenN
    by_cases d : lenN ts st n ≤ st.getD n 0 + (tg ts n).time
    · exact .inr ⟨n, by omega, by omega⟩
    · rw [show max (lenN ts st n) (st.getD n 0 + (tg ts n).time) = lenN ts st n by omega]
      rcases ih with ih | ⟨j, h1, h2⟩
      · exact .inl ih
      · exact .inr ⟨j, by omega, h2⟩
end
end S
end Go.Proofs.YthggloiigkbfeaaGreat
namespace Go.Proofs.YthggloiigkbfeaaGreat
open W Go.RowKit
theorem nrm_take {l : List Int} {n : Nat} (hn : n ≤ l.length) (h : 0 < n → l.getD (n - 1) 0 ≠ 0) : Nrm (l.take n) := fun h0 => by
  have e : (l.take n).length = n := by simp; omega
  rw [e] at h0 ⊢
  rw [getD_take (by omega)]; exact h h0
theorem val_take_zero {l : List Int} {n : Nat} (hn : n ≤ l.length) (hz : ∀ j, n ≤ j → j < l.length → l.getD j 0 = 0) : val (l.take n) = val l := by
  have : ∀ k, n + k ≤ l.length → val (l.take (n + k)) = val (l.take n) := fun k => by
    induction k with
    | zero => intro _; rfl
    | succ k ih =>
      intro hk
      rw [show n + (k + 1) = (n + k) + 1 by omega, val_take_succ (by omega), hz (n + k) (by omega) (by omega), ih (by omega)]; omega
  have := this (l.length - n) (by omega)
  rw [show n + (l.length - n) = l.length by omega, List.take_length] at this
  exact this.symm
theorem cut_digs {l : List Int} {n : Nat} (hd : Dg l) (hn : n ≤ l.length) (hz : ∀ j, n ≤ j → j < l.length → l.getD j 0 = 0) (h : 0 < n → l.getD (n - 1) 0 ≠ 0) : l.take n = digs (val l).toNat := by
  rw [← val_take_zero hn hz]; exact digs_val (hd.take n) (nrm_take hn h)
attribute [local irreducible] WC WL WD YO LO LoopEnd W.Fin Scalar SliceT FieldAt Row ArrT AllocT KnS Has W.One SrcE IntT
set_option maxHeartbeats 4000000 in
set_option maxRecDepth 8000 in
theorem of_c (u : Value) (nb : Bool) (l : List Int) (z : Int) (hd : Dg l) (hz : z.natAbs = (val l).toNat) (hb : val l ≠ 0 → nb = decide (z < 0)) : FnB Tryz.prog 132 [.bool nb, u] [] [sI u l] (IsZ z) := by
  refine fn_of [(0, (.bool nb)), (1, u)] 29 Tryz.func132 rfl Tryz.ntmps132 (by kernel_rfl) rfl suA fun h0 => ?_
  refine WC.lenI u l hmA fun hlen => ?_
  have hv0 := val_nonneg hd
  repeat' (first | refine go ?_ | refine goX ?_ | refine goB ?_ | (refine goG ?_; intro g) | (refine goV ?_; intro v))
  refine WC.lp (σ := Nat) (fun n => [(5, .int .i64 (n : Int)), (0, .bool nb), (1, u), (4, ptr g)]) (fun _ => [Ow.cells g 35 [.bool false, .slice none 0 0]]) (fun _ => [ge h0, sI u l]) (fun n => n ≤ l.length ∧ ∀ j, n ≤ j → j < l.length → l.getD j 0 = 0) (fun n => n) l.length ⟨by simp, fun j h1 h2 => by omega⟩ ?_
  rintro n ⟨hn, hzr⟩
  by_cases h : 0 < n
  · have e1 : ((n : Int) - 1).toNat = n - 1 := by omega
    by_cases h2 : l.getD (n - 1) 0 = 0
    · have h3 : l.getD ((n : Int) - 1).toNat 0 = 0 := by rw [e1]; exact h2
      repeat' (first | refine go ?_ | refine goX ?_ | refine goB ?_ | (refine goG ?_; intro g) | (refine goV ?_; intro v))
      exact LoopEnd.mk (n - 1) ⟨by omega, fun j h4 h5 => if hj : j = n - 1 then hj ▸ h2 else hzr j (by omega) h5⟩ (by omega) (by rw [show ((n - 1 : Nat) : Int) = (n : Int) - 1 by omega]; exact suA)
    · have h3 : l.getD ((n : Int) - 1).toNat 0 ≠ 0 := by rw [e1]; exact h2
      have hc := cut_digs hd hn hzr (fun _ => h2)
      have hvne : val l ≠ 0 := fun hv => by
        rw [hv] at hc
        have : (l.take n).length = n := by simp; omega
        rw [hc] at this
        simp [digs_0] at this; omega
      repeat' (first | refine go ?_ | refine goX ?_ | refine goB ?_ | (refine goG ?_; intro g) | (refine goV ?_; intro v))
      refine WL.fact' (sI (resl3 u n n) (l.take n)) (Has.res3 hmA hn) ?_
      rw [hc, ← hz]
      repeat' (first | refine go ?_ | refine goX ?_ | refine goB ?_ | (refine goG ?_; intro g) | (refine goV ?_; intro v))
      refine WC.fact (isZ (.agg #[.bool nb, resl3 u n n]) z) (hasZ_of (hb hvne) hmA) ?_
      refine WC.ret ?_
      exact Fin.p [] [isZ (.agg #[.bool nb, resl3 u n n]) z] (ResE.cV rfl rfl meA T.r35 rfl) meA (List.nil_sublist _) haA ⟨nb, _, rfl, hb hvne, rfl, rfl⟩
  · obtain rfl : n = 0 := by omega
    have hc := cut_digs hd hn hzr (fun h => absurd h (by omega))
    have hv : val l = 0 := by
      have := val_take_zero hn hzr
      simpa [val] using this.symm
    have hz0 : z = 0 := by rw [hv] at hz; simp at hz; exact hz
    subst hz0
    repeat' (first | refine go ?_ | refine goX ?_ | refine goB ?_ | (refine goG ?_; intro g) | (refine goV ?_; intro v))
    refine WC.ret ?_
    exact Fin.p [] [isZ (.agg #[.bool false, .slice none 0 0]) 0] (ResE.cV rfl rfl meA T.r35 rfl) meA (List.nil_sublist _) (.cons hasZ_0 .nil) ⟨false, _, rfl, rfl, rfl, rfl⟩
end Go.Proofs.YthggloiigkbfeaaGreat
namespace Go.Proofs.YthggloiigkbfeaaGreat
open W Go.RowKit
theorem digs_3 {n : Nat} (h : 1000000000 * 1000000000 ≤ n) (h2 : n < 1000000000 * 1000000000 * 1000000000) : digs n = [((n % 1000000000 : Nat) : Int), ((n / 1000000000 % 1000000000 : Nat) : Int), ((n / 1000000000 / 1000000000 : Nat) : Int)] := by
  rw [digs_pos (by omega), digs_2 (by omega) (by omega)]
attribute [local irreducible] WC WL WD YO LO LoopEnd W.Fin Scalar SliceT FieldAt Row ArrT AllocT KnS Has W.One SrcE IntT
set_option maxHeartbeats 4000000 in
set_option maxRecDepth 8000 in
theorem unsigned_c (nb : Bool) (n : Nat) (z : Int) (hn : n < 18446744073709551616) (hz : z.natAbs = n) (hb : n ≠ 0 → nb = decide (z < 0)) : FnB Tryz.prog 125 [.bool nb, .int .u64 n] [] [] (IsZ z) := by
  refine fn_of [(0, (.bool nb)), (1, (.int .u64 n))] 43 Tryz.func125 rfl Tryz.ntmps125 (by kernel_rfl) rfl suA fun h0 => ?_
  by_cases c0 : n = 0
  · subst c0
    have hz0 : z = 0 := by omega
    subst hz0
    repeat' (first | refine go ?_ | refine goX ?_ | refine goB ?_ | (refine goG ?_; intro g) | (refine goV ?_; intro v))
    refine WC.ret ?_
    exact Fin.p [] [isZ (.agg #[.bool false, .slice none 0 0]) 0] (ResE.cV rfl rfl meA T.r35 rfl) meA (List.nil_sublist _) (.cons hasZ_0 .nil) ⟨false, _, rfl, rfl, rfl, rfl⟩
  have hb := hb c0
  by_cases c1 : n < 1000000000
  · have hd := digs_1 c0 c1
    repeat' (first | refine go ?_ | refine goX ?_ | refine goB ?_ | (refine goG ?_; intro g) | (refine goV ?_; intro v))
    refine WC.freezeI (l := digs z.natAbs) (v := v) (el := 3) (by rw [hz, hd]; repeat (first | exact Sel.head | apply Sel.tail)) ?_
    refine WC.fact (isZ (.agg #[.bool nb, v]) z) (hasZ_of hb hmA) ?_
    refine WC.ret ?_
    exact Fin.p [] [isZ (.agg #[.bool nb, v]) z] (ResE.cV rfl rfl meA T.r35 rfl) meA (List.nil_sublist _) haA ⟨nb, _, rfl, hb, rfl, rfl⟩
  by_cases c2 : n < 1000000000 * 1000000000
  · have hd := digs_2 (by omega) c2
    have e1 : (n : Int) % 1000000000 = ((n % 1000000000 : Nat) : Int) := by omega
    have e2 : (n : Int) / 1000000000 = ((n / 1000000000 : Nat) : Int) := by omega
    have c3 : (n : Int) < 1000000000000000000 := by omega
    repeat' (first | refine go ?_ | refine goX ?_ | refine goB ?_ | (refine goG ?_; intro g) | (refine goV ?_; intro v))
    rw [e1, e2]
    refine WC.freezeI (l := digs z.natAbs) (v := v) (el := 3) (by rw [hz, hd]; repeat (first | exact Sel.head | apply Sel.tail)) ?_
    refine WC.fact (isZ (.agg #[.bool nb, v]) z) (hasZ_of hb hmA) ?_
    refine WC.ret ?_
    exact Fin.p [] [isZ (.agg #[.bool nb, v]) z] (ResE.cV rfl rfl meA T.r35 rfl) meA (List.nil_sublist _) haA ⟨nb, _, rfl, hb, rfl, rfl⟩
  · have hd := digs_3 (n := n) (by omega) (by omega)
    have e1 : (n : Int) % 1000000000 = ((n % 1000000000 : Nat) : Int) := by omega
    have e2 : (n : Int) / 1000000000 % 1000000000 = ((n / 1000000000 % 1000000000 : Nat) : Int) := by omega
    have e3 : (n : Int) / 1000000000 / 1000000000 = ((n / 1000000000 / 1000000000 : Nat) : Int) := by omega
    have c3 : ¬ (n : Int) < 1000000000000000000 := by omega
    repeat' (first | refine go ?_ | refine goX ?_ | refine goB ?_ | (refine goG ?_; intro g) | (refine goV ?_; intro v))
    rw [e1, e2, e3]
    refine WC.freezeI (l := digs z.natAbs) (v := v) (el := 3) (by rw [hz, hd]; repeat (first | exact Sel.head | apply Sel.tail)) ?_
    refine WC.fact (isZ (.agg #[.bool nb, v]) z) (hasZ_of hb hmA) ?_
    refine WC.ret ?_
    exact Fin.p [] [isZ (.agg #[.bool nb, v]) z] (ResE.cV rfl rfl meA T.r35 rfl) meA (List.nil_sublist _) haA ⟨nb, _, rfl, hb, rfl, rfl⟩
set_option maxHeartbeats 4000000 in
set_option maxRecDepth 8000 in
theorem iof_c (n : Int) (h1 : -9223372036854775808 ≤ n) (h2 : n ≤ 9223372036854775807) : FnB Tryz.prog 70 [.int .i64 n] [] [] (IsZ n) := by
  refine fn_of [(0, (.int .i64 n))] 14 Tryz.func70 rfl Tryz.ntmps70 (by kernel_rfl) rfl suA fun h0 => ?_
  by_cases c : n < 0
  · have hd := decide_eq_true c
    repeat' (first | refine go ?_ | refine goX ?_ | refine goB ?_ | (refine goG ?_; intro g) | (refine goV ?_; intro v))
    rw [show 18446744073709551616 - (n + 18446744073709551616) = ((n.natAbs : Nat) : Int) by omega]
    first | refine WL.callK (unsigned_c true n.natAbs n (by omega) rfl (fun _ => hd.symm)) ?_ | refine WD.callK (unsigned_c true n.natAbs n (by omega) rfl (fun _ => hd.symm)) ?_ | refine LO.callM (unsigned_c true n.natAbs n (by omega) rfl (fun _ => hd.symm)) ?_
    rintro _ _ _ ⟨nb, d, rfl, hb, rfl, rfl⟩
    simp only [List.nil_append, List.cons_append]
    repeat' (first | refine go ?_ | refine goX ?_ | refine goB ?_ | (refine goG ?_; intro g) | (refine goV ?_; intro v))
    refine WC.ret ?_
    exact Fin.p [] [isZ (.agg #[.bool nb, d]) n] (ResE.cV rfl rfl meA T.r35 rfl) meA (List.nil_sublist _) haA ⟨nb, _, rfl, hb, rfl, rfl⟩
  · have hd := decide_eq_false c
    repeat' (first | refine go ?_ | refine goX ?_ | refine goB ?_ | (refine goG ?_; intro g) | (refine goV ?_; intro v))
    rw [show n = ((n.natAbs : Nat) : Int) by omega]
    first | refine WL.callK (unsigned_c false n.natAbs (n.natAbs : Int) (by omega) rfl (fun _ => by simp)) ?_ | refine WD.callK (unsigned_c false n.natAbs (n.natAbs : Int) (by omega) rfl (fun _ => by simp)) ?_ | refine LO.callM (unsigned_c false n.natAbs (n.natAbs : Int) (by omega) rfl (fun _ => by simp)) ?_
    rintro _ _ _ ⟨nb, d, rfl, hb, rfl, rfl⟩
    simp only [List.nil_append, List.cons_append]
    repeat' (first | refine go ?_ | refine goX ?_ | refine goB ?_ | (refine goG ?_; intro g) | (refine goV ?_; intro v))
    refine WC.ret ?_
    exact Fin.p [] [isZ (.agg #[.bool nb, d]) (n.natAbs : Int)] (ResE.cV rfl rfl meA T.r35 rfl) meA (List.nil_sublist _) haA ⟨nb, _, rfl, hb, rfl, rfl⟩
set_option maxHeartbeats 4000000 in
set_option maxRecDepth 8000 in
theorem neg_c (v : Value) (z : Int) : FnB Tryz.prog 140 [v] [] [isZ v z] (IsZ (-z)) := by
  refine fn_of [(0, v)] 14 Tryz.func140 rfl Tryz.ntmps140 (by kernel_rfl) rfl suA fun h0 => ?_
  refine WC.openZ hmA fun nb d hv hb => ?_
  subst hv
  have hl := digs_len0 (n := z.natAbs)
  have key : ∀ b : Bool, b = decide (-z < 0) → Has [ge h0, isZ (.agg #[.bool nb, d]) z] (isZ (.agg #[.bool b, d]) (-z)) := fun b h => hasZ_of h (by rw [Int.natAbs_neg]; exact hasZ_d hmA)
  cases nb with
  | true =>
    have hz : z < 0 := of_decide_eq_true hb.symm
    have h2 : false = decide (-z < 0) := by simp; omega
    repeat' (first | refine go ?_ | refine goX ?_ | refine goB ?_ | (refine goG ?_; intro g) | (refine goV ?_; intro v))
    refine WC.fact (isZ (.agg #[.bool false, d]) (-z)) (key _ h2) ?_
    refine WC.ret ?_
    exact Fin.p [] [isZ (.agg #[.bool false, d]) (-z)] (ResE.cV rfl rfl meA T.r35 rfl) meA (List.nil_sublist _) haA ⟨_, _, rfl, h2, rfl, rfl⟩
  | false =>
    have hz : ¬ z < 0 := of_decide_eq_false hb.symm
    by_cases c : z = 0
    · have hl0 := hl.2 (by omega : z.natAbs = 0)
      have h2 : false = decide (-z < 0) := by simp; omega
      repeat' (first | refine go ?_ | refine goX ?_ | refine goB ?_ | (refine goG ?_; intro g) | (refine goV ?_; intro v))
      refine WC.fact (isZ (.agg #[.bool false, d]) (-z)) (key _ h2) ?_
      refine WC.ret ?_
      exact Fin.p [] [isZ (.agg #[.bool false, d]) (-z)] (ResE.cV rfl rfl meA T.r35 rfl) meA (List.nil_sublist _) haA ⟨_, _, rfl, h2, rfl, rfl⟩
    · have hl0 : 0 < (digs z.natAbs).length := by
        have : (digs z.natAbs).length ≠ 0 := fun h => by have := hl.1 h; omega
        omega
      have h2 : true = decide (-z < 0) := by simp; omega
      repeat' (first | refine go ?_ | refine goX ?_ | refine goB ?_ | (refine goG ?_; intro g) | (refine goV ?_; intro v))
      refine WC.fact (isZ (.agg #[.bool true, d]) (-z)) (key _ h2) ?_
      refine WC.ret ?_
      exact Fin.p [] [isZ (.agg #[.bool true, d]) (-z)] (ResE.cV rfl rfl meA T.r35 rfl) meA (List.nil_sublist _) haA ⟨_, _, rfl, h2, rfl, rfl⟩
def sgn (z : Int) : Int := if z < 0 then -1 else if z = 0 then 0 else 1
set_option maxHeartbeats 4000000 in
set_option maxRecDepth 8000 in
theorem isign_c (v : Value) (z : Int) : FnB Tryz.prog 86 [v] [] [isZ v z] (IsV (.int .i64 (sgn z))) := by
  refine fn_of [(0, v)] 11 Tryz.func86 rfl Tryz.ntmps86 (by kernel_rfl) rfl suA fun h0 => ?_
  refine WC.openZ hmA fun nb d hv hb => ?_
  subst hv
  have hl := digs_len0 (n := z.natAbs)
  cases nb with
  | true =>
    have hz : z < 0 := of_decide_eq_true hb.symm
    repeat' (first | refine go ?_ | refine goX ?_ | refine goB ?_ | (refine goG ?_; intro g) | (refine goV ?_; intro v))
    refine WC.ret ?_
    exact Fin.v (ResE.t1 rfl rfl) meA (by rw [sgn, if_pos hz])
  | false =>
    have hz : ¬ z < 0 := of_decide_eq_false hb.symm
    by_cases c : z = 0
    · have hl0 := hl.2 (by omega : z.natAbs = 0)
      repeat' (first | refine go ?_ | refine goX ?_ | refine goB ?_ | (refine goG ?_; intro g) | (refine goV ?_; intro v))
      refine WC.ret ?_
      exact Fin.v (ResE.t1 rfl rfl) meA (by rw [sgn, if_neg hz, if_pos c])
    · have hl0 : 0 < (digs z.natAbs).length := by
        have : (digs z.natAbs).length ≠ 0 := fun h => by have := hl.1 h; omega
        omega
      repeat' (first | refine go ?_ | refine goX ?_ | refine goB ?_ | (refine goG ?_; intro g) | (refine goV ?_; intro v))
      refine WC.ret ?_
      exact Fin.v (ResE.t1 rfl rfl) meA (by rw [sgn, if_neg hz, if_neg c])
end Go.Proofs.YthggloiigkbfeaaGreat
namespace Go.Proofs.YthggloiigkbfeaaGreat
theorem getD_over {l : List Int} {k : Nat} (h : l.length ≤ k) : l.getD k 0 = 0 := by
  rw [List.getD_eq_getElem?_getD, List.getElem?_eq_none (by omega)]; rfl
theorem val_take_s (l : List Int) (k : Nat) : val (l.take (k + 1)) = val (l.take k) + BB ^ k * l.getD k 0 := by
  by_cases h : k < l.length
  · exact val_take_succ h
  · rw [getD_over (by omega), List.take_of_length_le (by omega), List.take_of_length_le (by omega)]; omega
theorem val_split {l : List Int} {k : Nat} (h : k < l.length) : val l = val (l.take k) + BB ^ k * (l.getD k 0 + BB * val (l.drop (k + 1))) := by
  have e : l = l.take k ++ (l.getD k 0 :: l.drop (k + 1)) := by
    rw [show l.getD k 0 = l[k] by simp [List.getD_eq_getElem?_getD, h], ← List.drop_eq_getElem_cons h, List.take_append_drop]
  have h2 := congrArg val e
  rw [val_app, val, List.length_take, Nat.min_eq_left (by omega)] at h2
  exact h2
theorem Dg.drop {l : List Int} (h : Dg l) (n : Nat) : Dg (l.drop n) := fun j hj => by
  have := h (n + j) (by simp at hj; omega)
  simpa [List.getD_eq_getElem?_getD, List.getElem?_drop] using this
theorem drop_same {a b : List Int} {k : Nat} (hl : a.length = b.length) (h : ∀ j, k ≤ j → j < a.length → a.getD j 0 = b.getD j 0) : a.drop k = b.drop k := by
  apply List.ext_getElem
  · simp [hl]
  · intro i h1 h2
    have := h (k + i) (by omega) (by simp at h1; omega)
    simp at h1 h2
    simpa [List.getD_eq_getElem?_getD, show k + i < a.length by omega, show k + i < b.length by omega] using this
theorem val_lt_at {a b : List Int} {k : Nat} (ha : Dg a) (hb : Dg b) (hl : a.length = b.length) (hk : k < a.length) (h : ∀ j, k < j → j < a.length → a.getD j 0 = b.getD j 0) (hlt : a.getD k 0 < b.getD k 0) : val a < val b := by
  rw [val_split hk, val_split (show k < b.length by omega), drop_same hl (fun j h1 h2 => h j (by omega) h2)]
  have h1 := val_lt (ha.take k)
  have h2 := val_nonneg (hb.take k)
  rw [List.length_take, Nat.min_eq_left (by omega)] at h1
  have hp := BB_pos k
  generalize BB ^ k = p at *
  generalize val (b.drop (k + 1)) = D
  have e : p * (b.getD k 0 + BB * D) = p * (a.getD k 0 + BB * D) + p * (b.getD k 0 - a.getD k 0) := by
    rw [← Int.mul_add]; congr 1; omega
  have e2 : p * 1 ≤ p * (b.getD k 0 - a.getD k 0) := Int.mul_le_mul_of_nonneg_left (by omega) (by omega)
  omega
theorem val_eq_all {a b : List Int} (hl : a.length = b.length) (h : ∀ j, j < a.length → a.getD j 0 = b.getD j 0) : a = b := by
  have := drop_same (k := 0) hl (fun j _ h2 => h j h2)
  simpa using this
theorem digs_lt_len {m n : Nat} (h : (digs m).length < (digs n).length) : m < n := by
  have h1 := @digs_lt m
  have h2 : 1000000000 ^ ((digs n).length - 1) ≤ n := by
    have hk : (digs n).length - 1 < (digs n).length := by omega
    have h3 := val_split hk
    rw [val_digs] at h3
    have h4 := val_nonneg ((digs_Dg n).take ((digs n).length - 1))
    have h5 := val_nonneg ((digs_Dg n).drop ((digs n).length - 1 + 1))
    have h6 := (digs_Dg n) _ hk
    have h7 := digs_Nrm n (by omega)
    have hp := BB_pos ((digs n).length - 1)
    have hc : ((1000000000 ^ ((digs n).length - 1) : Nat) : Int) = BB ^ ((digs n).length - 1) := by simp
    rw [← hc] at h3 hp
    generalize 1000000000 ^ ((digs n).length - 1) = p at *
    generalize (digs n).getD ((digs n).length - 1) 0 = t at *
    have h8 : 1 ≤ t + BB * val ((digs n).drop ((digs n).length - 1 + 1)) := by
      have : 0 ≤ t := h6.1
      have : 0 ≤ BB * val ((digs n).drop ((digs n).length - 1 + 1)) := Int.mul_nonneg (by decide) h5
      omega
    have h9 : (p : Int) * 1 ≤ p * (t + BB * val ((digs n).drop ((digs n).length - 1 + 1))) := Int.mul_le_mul_of_nonneg_left h8 (by omega)
    omega
  have h3 : 1000000000 ^ (digs m).length ≤ 1000000000 ^ ((digs n).length - 1) := Nat.pow_le_pow_right (by decide) (by omega)
  omega
def cmpN (m n : Nat) : Int := if m < n then -1 else if n < m then 1 else 0
def cmpI (m n : Int) : Int := if m < n then -1 else if n < m then 1 else 0
theorem cmpN_lt {m n : Nat} (h : m < n) : cmpN m n = -1 := by rw [cmpN, if_pos h]
theorem cmpN_gt {m n : Nat} (h : n < m) : cmpN m n = 1 := by rw [cmpN, if_neg (by omega), if_pos h]
theorem cmpN_eq (m : Nat) : cmpN m m = 0 := by rw [cmpN, if_neg (by omega), if_neg (by omega)]
theorem digs_inj {m n : Nat} (h : digs m = digs n) : m = n := by
  have := val_digs m
  have h2 := val_digs n
  rw [h] at this; omega
theorem digs_cmp_lt {m n k : Nat} (hl : (digs m).length = (digs n).length) (hk : k < (digs m).length) (h : ∀ j, k < j → j < (digs m).length → (digs m).getD j 0 = (digs n).getD j 0) (hlt : (digs m).getD k 0 < (digs n).getD k 0) : m < n := by
  have := val_lt_at (digs_Dg m) (digs_Dg n) hl hk h hlt
  rw [val_digs, val_digs] at this; omega
theorem digs_cmp_eq {m n : Nat} (hl : (digs m).length = (digs n).length) (h : ∀ j, j < (digs m).length → (digs m).getD j 0 = (digs n).getD j 0) : m = n := digs_inj (val_eq_all hl h)
theorem pow_s (k : Nat) : BB ^ (k + 1) = BB ^ k * BB := Int.pow_succ ..
theorem Dg.snoc {l : List Int} {x : Int} (h : Dg l) (hx : Dgt x) : Dg (l ++ [x]) := h.app (.cons hx .nil)
theorem val_snoc (l : List Int) (x : Int) : val (l ++ [x]) = val l + BB ^ l.length * x := by rw [val_app]; simp [val]
theorem plus_step {a b o : List Int} {k : Nat} {c v : Int} (hk : k < o.length) (hd : Dg (o.take k)) (hv : val (o.take k) + BB ^ k * c = val (a.take k) + val (b.take k)) (c' : Int) (hx : Dgt v) (he : v + BB * c' = a.getD k 0 + b.getD k 0 + c) :
    Dg ((o.set k v).take (k + 1)) ∧ val ((o.set k v).take (k + 1)) + BB ^ (k + 1) * c' = val (a.take (k + 1)) + val (b.take (k + 1)) := by
  rw [take_set_succ hk]
  refine ⟨hd.snoc hx, ?_⟩
  rw [val_snoc, List.length_take, Nat.min_eq_left (by omega), val_take_s, val_take_s, pow_s]
  have e := congrArg (BB ^ k * ·) he
  simp only [Int.mul_add] at e
  rw [Int.mul_assoc]
  generalize BB ^ k * (BB * c') = q1 at *
  generalize BB ^ k * v = q2 at *
  generalize BB ^ k * a.getD k 0 = q3 at *
  generalize BB ^ k * b.getD k 0 = q4 at *
  generalize BB ^ k * c = q5 at *
  omega
theorem plus_end {a b o : List Int} {c : Int} (h : o.length = a.length + 1) (hb : b.length ≤ a.length) (hd : Dg (o.take a.length)) (hv : val (o.take a.length) + BB ^ a.length * c = val (a.take a.length) + val (b.take a.length)) (hc : Dgt c) :
    Dg (o.set a.length c) ∧ val (o.set a.length c) = val a + val b := by
  have hk : a.length < o.length := by omega
  have e : o.set a.length c = o.take a.length ++ [c] := by
    rw [← take_set_succ hk, List.take_of_length_le (by simp; omega)]
  rw [e]
  refine ⟨hd.snoc hc, ?_⟩
  rw [val_snoc, List.length_take, Nat.min_eq_left (by omega), hv, List.take_length, List.take_of_length_le hb]
structure Mi (a b o : List Int) (k : Nat) (c : Int) : Prop where
  l : o.length = a.length
  d : Dg (o.take k)
  v : val (o.take k) = val (a.take k) - val (b.take k) + BB ^ k * c
  c0 : c = 0 ∨ c = 1
  at' : k < a.length → o.getD k 0 = a.getD k 0 - c
  r : ∀ j, k < j → j < a.length → o.getD j 0 = a.getD j 0
theorem Mi.z {a b : List Int} : Mi a b a 0 0 := ⟨rfl, by simp [Dg.nil], by simp [val], .inl rfl, fun _ => by omega, fun j _ _ => rfl⟩
theorem Mi.end' {a b o : List Int} {c : Int} (hb : b.length ≤ a.length) (h : Mi a b o a.length c) (hle : val b ≤ val a) : c = 0 ∧ Dg o ∧ val o = val a - val b := by
  have hv := h.v
  have hd := h.d
  rw [← h.l, List.take_length] at hd
  rw [← h.l, List.take_length, h.l, List.take_length, List.take_of_length_le hb] at hv
  have h1 := val_lt hd
  rw [h.l] at h1
  have hp := BB_pos a.length
  rcases h.c0 with hc | hc
  · subst hc; exact ⟨rfl, hd, by rw [hv]; simp⟩
  · subst hc; rw [Int.mul_one] at hv; omega
theorem Mi.last {a b o : List Int} {k : Nat} {c : Int} (ha : Dg a) (hbd : Dg b) (hb : b.length ≤ a.length) (h : Mi a b o k c) (hle : val b ≤ val a) (hk : k + 1 = a.length) : 0 ≤ a.getD k 0 - c - b.getD k 0 := by
  have hv := h.v
  have e1 := val_take_s a k
  have e2 := val_take_s b k
  rw [hk, List.take_length] at e1
  rw [hk, List.take_of_length_le hb] at e2
  have h1 := val_lt h.d
  have h2 := val_nonneg h.d
  rw [List.length_take, h.l, Nat.min_eq_left (by omega)] at h1
  have hp := BB_pos k
  refine Int.not_lt.1 fun hlt => ?_
  have e3 : BB ^ k * (a.getD k 0 - c - b.getD k 0) ≤ BB ^ k * (-1) := Int.mul_le_mul_of_nonneg_left (by omega) (by omega)
  rw [Int.mul_sub, Int.mul_sub] at e3
  omega
theorem Mi.step {a b o : List Int} {k : Nat} {c : Int} (h : Mi a b o k c) (hk : k < a.length) {v c' : Int} (hx : Dgt v) (hc : c' = 0 ∨ c' = 1) (he : v = a.getD k 0 - c - b.getD k 0 + BB * c') {o' : List Int} (hl : o'.length = a.length) (ht : o'.take (k + 1) = o.take k ++ [v]) (hat : k + 1 < a.length → o'.getD (k + 1) 0 = a.getD (k + 1) 0 - c') (hr : ∀ j, k + 1 < j → j < a.length → o'.getD j 0 = a.getD j 0) : Mi a b o' (k + 1) c' := by
  refine ⟨hl, by rw [ht]; exact h.d.snoc hx, ?_, hc, hat, hr⟩
  rw [ht, val_snoc, List.length_take, h.l, Nat.min_eq_left (by omega), h.v, val_take_s, val_take_s, pow_s, he]
  simp only [Int.mul_add, Int.mul_sub, Int.mul_assoc]
  omega
structure Mu (a b o : List Int) (i k : Nat) (c : Int) : Prop where
  l : o.length = a.length + b.length
  d : Dg o
  cd : Dgt c
  v : val o + BB ^ (i + k) * c = val (a.take i) * val b + BB ^ i * (a.getD i 0 * val (b.take k))
  r : ∀ j, i + b.length ≤ j → o.getD j 0 = 0
theorem Mu.z {a b : List Int} : Mu a b (List.replicate (a.length + b.length) 0) 0 0 0 := ⟨by simp, Dg.rep _, ⟨by decide, by decide⟩, by rw [val_rep]; simp [val], fun j _ => by
  simp only [List.getD_eq_getElem?_getD, List.getElem?_replicate]; split <;> rfl⟩
theorem mu_bd {x d e c : Int} (hx : Dgt x) (hd : Dgt d) (he : Dgt e) (hc : Dgt c) : 0 ≤ x + d * e + c ∧ x + d * e + c ≤ 999999999999999999 ∧ 0 ≤ d * e ∧ d * e ≤ 999999998000000001 := by
  have hx' : 0 ≤ x ∧ x < 1000000000 := hx
  have hd' : 0 ≤ d ∧ d < 1000000000 := hd
  have he' : 0 ≤ e ∧ e < 1000000000 := he
  have hc' : 0 ≤ c ∧ c < 1000000000 := hc
  have h1 : 0 ≤ d * e := Int.mul_nonneg hd'.1 he'.1
  have h2 : d * e ≤ 999999999 * 999999999 := Int.mul_le_mul (by omega) (by omega) he'.1 (by omega)
  omega
theorem Mu.step {a b o : List Int} {i k : Nat} {c : Int} (h : Mu a b o i k c) (hi : i < a.length) (hk : k < b.length) {w q : Int} (hw : Dgt w) (hq : Dgt q) (he : w + BB * q = o.getD (i + k) 0 + a.getD i 0 * b.getD k 0 + c) : Mu a b (o.set (i + k) w) i (k + 1) q := by
  have hl := h.l
  refine ⟨by simpa using hl, h.d.set hw, hq, ?_, fun j hj => ?_⟩
  · rw [val_set (by omega), val_take_s]
    have hv := h.v
    have e := congrArg (BB ^ (i + k) * ·) he
    simp only [Int.mul_add] at e
    rw [show i + (k + 1) = (i + k) + 1 by omega, pow_s, Int.mul_sub, Int.mul_add, Int.mul_add]
    have e2 : BB ^ i * (a.getD i 0 * (BB ^ k * b.getD k 0)) = BB ^ (i + k) * (a.getD i 0 * b.getD k 0) := by
      rw [Int.pow_add]; simp only [Int.mul_assoc, Int.mul_left_comm]
    rw [e2, Int.mul_assoc]
    omega
  · rw [getD_seti, if_neg (fun hx => by omega)]; exact h.r j hj
theorem Mu.row {a b o : List Int} {i : Nat} {c : Int} (h : Mu a b o i b.length c) (hi : i < a.length) : Mu a b (o.set (i + b.length) c) (i + 1) 0 0 := by
  have hl := h.l
  refine ⟨by simpa using hl, h.d.set h.cd, ⟨by decide, by decide⟩, ?_, fun j hj => ?_⟩
  · rw [val_set (by omega), h.r _ (Nat.le_refl _)]
    have hv := h.v
    rw [List.take_length] at hv
    rw [val_take_s, Int.add_mul, Int.mul_assoc]
    simp only [List.take_zero, val, Int.mul_zero, Int.sub_zero, Int.add_zero]
    omega
  · rw [getD_seti, if_neg (fun hx => by omega)]; exact h.r j (by omega)
theorem Mu.fin {a b o : List Int} (h : Mu a b o a.length 0 0) : Dg o ∧ val o = val a * val b := by
  have hv := h.v
  rw [List.take_length] at hv
  simp only [List.take_zero, val, Int.mul_zero, Int.add_zero] at hv
  exact ⟨h.d, hv⟩
end Go.Proofs.YthggloiigkbfeaaGreat
namespace Go.Proofs.YthggloiigkbfeaaGreat
open W Go.RowKit
attribute [local irreducible] WC WL WD YO LO LoopEnd W.Fin Scalar SliceT FieldAt Row ArrT AllocT KnS Has W.One SrcE IntT
set_option maxHeartbeats 4000000 in
set_option maxRecDepth 8000 in
theorem plus0_c (u w : Value) (a b : List Int) (u' w' : Value) (a' b' : List Int) (ha : Dg a) (hb : Dg b) (hl : a.length ≤ 1000000000) (hl2 : b.length ≤ a.length) (hsw : (u = u' ∧ w = w' ∧ a = a' ∧ b = b' ∧ ¬ a'.length < b'.length) ∨ (w = u' ∧ u = w' ∧ b = a' ∧ a = b' ∧ a'.length < b'.length)) :
    FnB Tryz.prog 133 [u', w'] [] [sI u' a', sI w' b'] (IsDg (val a + val b) (a.length + 1)) := by
  refine fn_of [(0, u'), (1, w')] 56 Tryz.func133 rfl Tryz.ntmps133 (by kernel_rfl) rfl suA fun h0 => ?_
  rcases hsw with ⟨rfl, rfl, rfl, rfl, hc⟩ | ⟨rfl, rfl, rfl, rfl, hc⟩
  all_goals
    repeat' (first | refine go ?_ | refine goX ?_ | refine goB ?_ | (refine goG ?_; intro g) | (refine goV ?_; intro v))
    refine WC.lp (σ := Nat × List Int × Int) (fun s => [(23, .int .i64 (s.1 : Int)), (22, .int .i64 (a.length : Int)), (21, u), (5, v), (6, .int .i64 s.2.2), (0, u), (1, w)]) (fun s => [Ow.slice v 3 1 (ints s.2.1)]) (fun _ => [ge h0, sI u a, sI w b])
      (fun s => s.1 ≤ a.length ∧ s.2.1.length = a.length + 1 ∧ (s.2.2 = 0 ∨ s.2.2 = 1) ∧ Dg (s.2.1.take s.1) ∧ val (s.2.1.take s.1) + BB ^ s.1 * s.2.2 = val (a.take s.1) + val (b.take s.1)) (fun s => a.length - s.1) (0, List.replicate (a.length + 1) 0, 0) ⟨by simp, by simp, .inl rfl, by simp [Dg.nil], by simp [val]⟩ ?_
    rintro ⟨k, o, c⟩ ⟨hk, ho, hc01, hd, hv⟩
    simp only at hk ho hc01 hd hv ⊢
    by_cases hlt : k < a.length
    · have h1 : 0 ≤ a.getD k 0 ∧ a.getD k 0 < 1000000000 := ha.any k
      have h2 : 0 ≤ b.getD k 0 ∧ b.getD k 0 < 1000000000 := hb.any k
      have hst := fun x c' h3 h4 => plus_step (a := a) (b := b) (o := o) (k := k) (c := c) (v := x) (by omega) hd hv c' h3 h4
      by_cases hkb : k < b.length
      · by_cases hcy : 1000000000 ≤ a.getD k 0 + c + b.getD k 0
        · repeat' (first | refine go ?_ | refine goX ?_ | refine goB ?_ | (refine goG ?_; intro g) | (refine goV ?_; intro v))
          obtain ⟨h5, h6⟩ := hst (a.getD k 0 + c + b.getD k 0 - 1000000000) 1 ⟨by omega, by show _ < (1000000000 : Int); omega⟩ (by show _ + (1000000000 : Int) * 1 = _; omega)
          exact LoopEnd.mk (k + 1, o.set k (a.getD k 0 + c + b.getD k 0 - 1000000000), 1) ⟨by show k + 1 ≤ a.length; omega, by simpa using ho, .inr rfl, h5, h6⟩ (by show a.length - (k + 1) < a.length - k; omega)
        · repeat' (first | refine go ?_ | refine goX ?_ | refine goB ?_ | (refine goG ?_; intro g) | (refine goV ?_; intro v))
          obtain ⟨h5, h6⟩ := hst (a.getD k 0 + c + b.getD k 0) 0 ⟨by omega, by show _ < (1000000000 : Int); omega⟩ (by show _ + (1000000000 : Int) * 0 = _; omega)
          exact LoopEnd.mk (k + 1, o.set k (a.getD k 0 + c + b.getD k 0), 0) ⟨by show k + 1 ≤ a.length; omega, by simpa using ho, .inl rfl, h5, h6⟩ (by show a.length - (k + 1) < a.length - k; omega)
      · have hb0 : b.getD k 0 = 0 := getD_over (by omega)
        by_cases hcy : 1000000000 ≤ a.getD k 0 + c
        · repeat' (first | refine go ?_ | refine goX ?_ | refine goB ?_ | (refine goG ?_; intro g) | (refine goV ?_; intro v))
          obtain ⟨h5, h6⟩ := hst (a.getD k 0 + c - 1000000000) 1 ⟨by omega, by show _ < (1000000000 : Int); omega⟩ (by show _ + (1000000000 : Int) * 1 = _; omega)
          exact LoopEnd.mk (k + 1, o.set k (a.getD k 0 + c - 1000000000), 1) ⟨by show k + 1 ≤ a.length; omega, by simpa using ho, .inr rfl, h5, h6⟩ (by show a.length - (k + 1) < a.length - k; omega)
        · repeat' (first | refine go ?_ | refine goX ?_ | refine goB ?_ | (refine goG ?_; intro g) | (refine goV ?_; intro v))
          obtain ⟨h5, h6⟩ := hst (a.getD k 0 + c) 0 ⟨by omega, by show _ < (1000000000 : Int); omega⟩ (by show _ + (1000000000 : Int) * 0 = _; omega)
          exact LoopEnd.mk (k + 1, o.set k (a.getD k 0 + c), 0) ⟨by show k + 1 ≤ a.length; omega, by simpa using ho, .inl rfl, h5, h6⟩ (by show a.length - (k + 1) < a.length - k; omega)
    · obtain rfl : k = a.length := by omega
      obtain ⟨h5, h6⟩ := plus_end ho hl2 hd hv ⟨by omega, by show c < (1000000000 : Int); omega⟩
      repeat' (first | refine go ?_ | refine goX ?_ | refine goB ?_ | (refine goG ?_; intro g) | (refine goV ?_; intro v))
      refine WC.freezeI (l := o.set a.length c) (v := v) (el := 3) (by repeat (first | exact Sel.head | apply Sel.tail)) ?_
      refine WC.ret ?_
      exact Fin.p [] [sI v (o.set a.length c)] (ResE.t1 rfl rfl) meA (List.nil_sublist _) haA ⟨_, rfl, rfl, h5, h6, by simp; omega⟩
theorem plus_c (u w : Value) (a b : List Int) (ha : Dg a) (hb : Dg b) (hl : a.length ≤ 1000000000) (hl2 : b.length ≤ 1000000000) : FnB Tryz.prog 133 [u, w] [] [sI u a, sI w b] (IsDg (val a + val b) (max a.length b.length + 1)) := by
  by_cases c : a.length < b.length
  · have := plus0_c w u b a u w a b hb ha hl2 (by omega) (.inr ⟨rfl, rfl, rfl, rfl, c⟩)
    rwa [Int.add_comm, show b.length + 1 = max a.length b.length + 1 by omega] at this
  · have := plus0_c u w a b u w a b ha hb hl (by omega) (.inl ⟨rfl, rfl, rfl, rfl, c⟩)
    rwa [show a.length + 1 = max a.length b.length + 1 by omega] at this
end Go.Proofs.YthggloiigkbfeaaGreat
namespace Go.Proofs.YthggloiigkbfeaaGreat
open W Go.RowKit
theorem Mi.step0 {a b o : List Int} {k : Nat} {c v : Int} (h : Mi a b o k c) (hk : k < a.length) (hx : Dgt v) (he : v = a.getD k 0 - c - b.getD k 0) : Mi a b (o.set k v) (k + 1) 0 := by
  refine h.step hk hx (.inl rfl) (by rw [he]; simp) (by simpa using h.l) (take_set_succ (by rw [h.l]; exact hk)) (fun h1 => ?_) (fun j h1 h2 => ?_)
  · rw [getD_seti, if_neg (fun hx => by omega), h.r _ (by omega) h1]; omega
  · rw [getD_seti, if_neg (fun hx => by omega), h.r _ (by omega) h2]
theorem Mi.step1 {a b o : List Int} {k : Nat} {c v : Int} (h : Mi a b o k c) (hk : k + 1 < a.length) (hx : Dgt v) (he : v = a.getD k 0 - c - b.getD k 0 + 1000000000) : Mi a b ((o.set k v).set (k + 1) ((o.set k v).getD (k + 1) 0 - 1)) (k + 1) 1 := by
  have e1 : (o.set k v).getD (k + 1) 0 = a.getD (k + 1) 0 := by rw [getD_seti, if_neg (fun hx => by omega), h.r _ (by omega) hk]
  refine h.step (by omega) hx (.inr rfl) (by rw [he]; rfl) (by simpa using h.l) ?_ (fun h1 => ?_) (fun j h1 h2 => ?_)
  · rw [List.take_set_of_le (Nat.le_refl _), take_set_succ (by rw [h.l]; omega)]
  · rw [getD_seti, if_pos ⟨rfl, by simp [h.l]; omega⟩, e1]
  · rw [getD_seti, if_neg (fun hx => by omega), getD_seti, if_neg (fun hx => by omega), h.r _ (by omega) h2]
namespace Mns
attribute [local irreducible] WC WL WD YO LO LoopEnd W.Fin Scalar SliceT FieldAt Row ArrT AllocT KnS Has W.One SrcE IntT
theorem d135 {G G' : Prop} (h : G') (s : Bx G' → G := by
  intro h
  first | (apply WC.draw (id := 7) [0, 1, 2, 3, 4, 5, 6, 7, 8, 9] (.held 0 (.held 1 (.held 2 (.held 3 (.held 4 (.held 5 (.held 6 (.held 7 (.held 8 (.held 9 (.loud 10 (.done)))))))))))) mixed (by kernel_rfl)) | fail
  exact Bx.h h) : G := s ⟨h⟩
theorem goB {G G' : Prop} (h : G') (s : Bx G' → G := by
  intro h
  first
    | (apply WL.l; exact rfl; exact rfl; apply LO.copyI; (first | exact T.s22 | exact T.s32 | exact T.s38 | exact T.s109 | exact T.s111 | exact T.s161); exact rfl; exact rfl; exact seA; exact hmA; (simp only [List.length_replicate]); omega)
  exact Bx.h h) : G := s ⟨h⟩
set_option maxHeartbeats 4000000 in
set_option maxRecDepth 8000 in
theorem minus_c (u w : Value) (a b : List Int) (ha : Dg a) (hb : Dg b) (hl : a.length ≤ 1000000000) (hl2 : b.length ≤ a.length) (h0a : 0 < a.length) (hle : val b ≤ val a) :
    FnB Tryz.prog 135 [u, w] [] [sI u a, sI w b] (IsDg (val a - val b) a.length) := by
  refine fn_of [(0, u), (1, w)] 52 Tryz.func135 rfl Tryz.ntmps135 (by kernel_rfl) rfl suA fun h0 => ?_
  repeat' (first | refine go ?_ | refine goX ?_ | refine goB ?_ | (refine goG ?_; intro g) | (refine goV ?_; intro v) | refine goD ?_ | refine goXD ?_ | (refine goDG ?_; intro g) | (refine goDV ?_; intro v) | refine d135 ?_ | fail)
  refine WC.lp (σ := Nat × List Int × Int) (fun s => [(15, .int .i64 (s.1 : Int)), (14, .int .i64 (a.length : Int)), (5, v), (0, u), (1, w)]) (fun s => [Ow.slice v 3 1 (ints s.2.1)]) (fun _ => [ge h0, sI u a, sI w b])
    (fun s => s.1 ≤ a.length ∧ Mi a b s.2.1 s.1 s.2.2) (fun s => a.length - s.1) (0, a, 0) ⟨by simp, Mi.z⟩ ?_
  rintro ⟨k, o, c⟩ ⟨hk, hm⟩
  simp only at hk hm ⊢
  have hol := hm.l
  by_cases hlt : k < a.length
  · have h1 : 0 ≤ a.getD k 0 ∧ a.getD k 0 < 1000000000 := ha.any k
    have h2 : 0 ≤ b.getD k 0 ∧ b.getD k 0 < 1000000000 := hb.any k
    have hc := hm.c0
    have hok : o.getD k 0 = a.getD k 0 - c := hm.at' hlt
    have hlast := hm.last ha hb hl2 hle
    by_cases hkb : k < b.length
    · have e1 : (o.set k (o.getD k 0 - b.getD k 0)).getD k 0 = o.getD k 0 - b.getD k 0 := by rw [getD_seti, if_pos ⟨rfl, by omega⟩]
      by_cases hneg : o.getD k 0 - b.getD k 0 < 0
      · have hk2 : k + 1 < a.length := by
          refine Nat.lt_of_not_le fun hx => ?_
          have := hlast (by omega); omega
        have hs := hm.step1 hk2 (v := o.getD k 0 - b.getD k 0 + 1000000000) ⟨by omega, by show _ < (1000000000 : Int); omega⟩ (by omega)
        have hx := ha.any (k + 1)
        have hx' : 0 ≤ a.getD (k + 1) 0 ∧ a.getD (k + 1) 0 < 1000000000 := hx
        have e3 : (o.set k (o.getD k 0 - b.getD k 0 + 1000000000)).getD (k + 1) 0 = a.getD (k + 1) 0 := by rw [getD_seti, if_neg (fun hx => by omega), hm.r _ (by omega) hk2]
        have e4 : ((k : Int) + 1).toNat = k + 1 := by omega
        have hng2 : (o.set k (o.getD k 0 - b.getD k 0)).getD k 0 < 0 := by rw [e1]; exact hneg
        repeat' (first | refine go ?_ | refine goX ?_ | refine goB ?_ | (refine goG ?_; intro g) | (refine goV ?_; intro v) | refine goD ?_ | refine goXD ?_ | (refine goDG ?_; intro g) | (refine goDV ?_; intro v) | refine d135 ?_ | fail)
        simp only [e1, List.set_set]
        repeat' (first | refine go ?_ | refine goX ?_ | refine goB ?_ | (refine goG ?_; intro g) | (refine goV ?_; intro v) | refine goD ?_ | refine goXD ?_ | (refine goDG ?_; intro g) | (refine goDV ?_; intro v) | refine d135 ?_ | fail)
        exact LoopEnd.mk (k + 1, _, 1) ⟨by show k + 1 ≤ a.length; omega, hs⟩ (by show a.length - (k + 1) < a.length - k; omega)
      · have hs := hm.step0 hlt (v := o.getD k 0 - b.getD k 0) ⟨by omega, by show _ < (1000000000 : Int); omega⟩ (by omega)
        have hng2 : ¬ (o.set k (o.getD k 0 - b.getD k 0)).getD k 0 < 0 := by rw [e1]; exact hneg
        repeat' (first | refine go ?_ | refine goX ?_ | refine goB ?_ | (refine goG ?_; intro g) | (refine goV ?_; intro v) | refine goD ?_ | refine goXD ?_ | (refine goDG ?_; intro g) | (refine goDV ?_; intro v) | refine d135 ?_ | fail)
        exact LoopEnd.mk (k + 1, _, 0) ⟨by show k + 1 ≤ a.length; omega, hs⟩ (by show a.length - (k + 1) < a.length - k; omega)
    · have hb0 : b.getD k 0 = 0 := getD_over (by omega)
      by_cases hneg : o.getD k 0 < 0
      · have hk2 : k + 1 < a.length := by
          refine Nat.lt_of_not_le fun hx => ?_
          have := hlast (by omega); omega
        have hs := hm.step1 hk2 (v := o.getD k 0 + 1000000000) ⟨by omega, by show _ < (1000000000 : Int); omega⟩ (by omega)
        have hx' : 0 ≤ a.getD (k + 1) 0 ∧ a.getD (k + 1) 0 < 1000000000 := ha.any (k + 1)
        have e3 : (o.set k (o.getD k 0 + 1000000000)).getD (k + 1) 0 = a.getD (k + 1) 0 := by rw [getD_seti, if_neg (fun hx => by omega), hm.r _ (by omega) hk2]
        rw [e3] at hs
        repeat' (first | refine go ?_ | refine goX ?_ | refine goB ?_ | (refine goG ?_; intro g) | (refine goV ?_; intro v) | refine goD ?_ | refine goXD ?_ | (refine goDG ?_; intro g) | (refine goDV ?_; intro v) | refine d135 ?_ | fail)
        rw [e3]
        repeat' (first | refine go ?_ | refine goX ?_ | refine goB ?_ | (refine goG ?_; intro g) | (refine goV ?_; intro v) | refine goD ?_ | refine goXD ?_ | (refine goDG ?_; intro g) | (refine goDV ?_; intro v) | refine d135 ?_ | fail)
        exact LoopEnd.mk (k + 1, _, 1) ⟨by show k + 1 ≤ a.length; omega, hs⟩ (by show a.length - (k + 1) < a.length - k; omega)
      · have hs := hm.step0 hlt (v := o.getD k 0) ⟨by omega, by show _ < (1000000000 : Int); omega⟩ (by omega)
        have e5 : o.set k (o.getD k 0) = o := by
          apply List.ext_getElem?
          intro j
          rw [List.getElem?_set]
          split
          · rename_i hj; subst hj; rw [if_pos (by omega)]; simp [List.getD_eq_getElem?_getD, show k < o.length by omega]
          · rfl
        rw [e5] at hs
        repeat' (first | refine go ?_ | refine goX ?_ | refine goB ?_ | (refine goG ?_; intro g) | (refine goV ?_; intro v) | refine goD ?_ | refine goXD ?_ | (refine goDG ?_; intro g) | (refine goDV ?_; intro v) | refine d135 ?_ | fail)
        exact LoopEnd.mk (k + 1, o, 0) ⟨by show k + 1 ≤ a.length; omega, hs⟩ (by show a.length - (k + 1) < a.length - k; omega)
  · obtain rfl : k = a.length := by omega
    obtain ⟨h4, h5, h6⟩ := hm.end' hl2 hle
    repeat' (first | refine go ?_ | refine goX ?_ | refine goB ?_ | (refine goG ?_; intro g) | (refine goV ?_; intro v) | refine goD ?_ | refine goXD ?_ | (refine goDG ?_; intro g) | (refine goDV ?_; intro v) | refine d135 ?_ | fail)
    refine WC.freezeI (l := o) (v := v) (el := 3) (by repeat (first | exact Sel.head | apply Sel.tail)) ?_
    refine WC.ret ?_
    exact Fin.p [] [sI v o] (ResE.t1 rfl rfl) meA (List.nil_sublist _) haA ⟨_, rfl, rfl, h5, h6, by omega⟩
end Mns
end Go.Proofs.YthggloiigkbfeaaGreat
