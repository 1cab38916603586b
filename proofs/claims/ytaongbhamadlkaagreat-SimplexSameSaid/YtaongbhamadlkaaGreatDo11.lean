/- Lemmas for the proof of a law: Contracts of slices at integers, by the shelf: Sort, Compact, DeleteFunc. Conditions: none. -/
import Derived.Test.YtaongbhamadlkaaGreatDo10
import Derived.Test.YtaongbhamadlkaaGreatDo2
import Derived.Sort.Grow
import Derived.Test.YtaongbhamadlkaaGreatDo9
set_option linter.unusedVariables false
set_option linter.unusedSimpArgs false
set_option linter.unusedSectionVars false
namespace Go.Proofs.YtaongbhamadlkaaGreat
open Go.RowKit Go.Sort Go.Shelf W
def srt (l : List Int) : List Int := l.mergeSort fun x y => decide (x ≤ y)
theorem srt_len (l : List Int) : (srt l).length = l.length := by unfold srt; exact List.length_mergeSort l
def IsSrt (v : Value) (new : List Int) : RPost := fun u b G => u = .tuple #[] ∧ b = [Ow.slice v 3 1 (ints new)] ∧ G = []
theorem row_fn {f : FuncId} {rest : List Value} {l new : List Int} {v : Value} {F : List Fct} (hc : Callable Tryz.prog f) (hne : l ≠ []) (hlen : new.length ≤ l.length)
    (h : ∀ fr w g cap, v = .slice (some ⟨g, 0, none⟩) l.length cap → l.length ≤ cap → OK fr [Ow.slice v 3 1 (ints l)] F w → Holds (Value.int .i64) w g 0 l.toArray → Calls Tryz.prog f (v :: rest).toArray w fun e w' => e = .returned (.slice (some ⟨g, 0, none⟩) new.length cap) ∧ ∃ q, w' = putRow (Value.int .i64) (Sort.ahead w q) g 0 (new ++ List.replicate (l.length - new.length) 0).toArray) :
    FnB Tryz.prog f (v :: rest) [Ow.slice v 3 1 (ints l)] F (IsO 3 1 (ints new)) := by
  refine ⟨hc, fun fr w ho => ?_⟩
  obtain ⟨n, h1, ⟨_, h2⟩ | ⟨g, cap, sp, rfl, h3, h4, h5, h6⟩⟩ := ho.owns _ (.head _)
  · exfalso; subst h2; simp at h1; exact hne h1
  have hn : n = l.length := by simpa using h1.symm
  subst hn
  have hH : Holds (Value.int .i64) w g 0 l.toArray := fun j hj => by
    have hj' : j < l.length := by simpa using hj
    constructor
    · unfold World.cell?
      rw [h5]
      simp [hj']
      rw [List.getElem?_append_left (by simpa using hj')]
      simp [hj']
    · unfold World.frozen?; rw [h5]; simp
  refine (h fr w g cap rfl h3 ho hH).mono ?_
  rintro e w' ⟨rfl, q, rfl⟩
  have hw' : (putRow (Value.int .i64) (Sort.ahead w q) g 0 (new ++ List.replicate (l.length - new.length) 0).toArray).heap[g]? = some (.cells (ints new ++ (ints (List.replicate (l.length - new.length) 0) ++ sp)).toArray 3 (0, 0)) := by
    unfold putRow mapBlock
    show (w.heap.modify g _)[g]? = _
    rw [Array.getElem?_modify, if_pos rfl, h5]
    simp only [Option.map_some, onCells]
    congr 2
    apply Array.ext_getElem?
    intro k
    unfold putCells
    rw [Array.getElem?_mapIdx]
    simp only [List.getElem?_toArray]
    rw [← List.append_assoc]
    by_cases hk : k < l.length
    · rw [List.getElem?_append_left (by simpa using hk), List.getElem?_append_left (by simp; omega)]
      have e1 : (ints l)[k]? = some (.int .i64 l[k]) := by simp [hk]
      rw [e1, Option.map_some, if_pos (by simp; omega)]
      rw [show ints new ++ ints (List.replicate (l.length - new.length) 0) = ints (new ++ List.replicate (l.length - new.length) 0) by simp [ints]]
      have hk2 : k < (new ++ List.replicate (l.length - new.length) 0).length := by simp; omega
      have e3 : (ints (new ++ List.replicate (l.length - new.length) 0))[k]? = some (.int .i64 (new ++ List.replicate (l.length - new.length) 0)[k]) := by
        unfold ints; rw [List.getElem?_map, List.getElem?_eq_getElem hk2]; rfl
      rw [e3, getElem!_pos _ _ (by simpa using hk2)]
      rfl
    · rw [List.getElem?_append_right (by simp; omega), List.getElem?_append_right (by simp; omega)]
      have e2 : (ints l).length = (ints new ++ ints (List.replicate (l.length - new.length) 0)).length := by simp; omega
      rw [e2]
      cases sp[k - (ints new ++ ints (List.replicate (l.length - new.length) 0)).length]? with
      | none => rfl
      | some x => rw [Option.map_some, if_neg (by simp; omega)]
  have hother : ∀ k, k ≠ g → (putRow (Value.int .i64) (Sort.ahead w q) g 0 (new ++ List.replicate (l.length - new.length) 0).toArray).heap[k]? = w.heap[k]? := fun k hk => by
    unfold putRow mapBlock
    show (w.heap.modify g _)[k]? = _
    rw [Array.getElem?_modify, if_neg (fun h => hk h.symm)]
  have hids : ∀ k ∈ ids [Ow.slice (.slice (some ⟨g, 0, none⟩) new.length cap) 3 1 (ints new)], k ∈ ids [Ow.slice (.slice (some ⟨g, 0, none⟩) l.length cap) 3 1 (ints l)] ∨ w.heap.size ≤ k := fun k hk => .inl (by simpa [ids, Ow.ids] using hk)
  have hkeep : ∀ k, k < w.heap.size → k ∉ ids [Ow.slice (.slice (some ⟨g, 0, none⟩) l.length cap) 3 1 (ints l)] → (putRow (Value.int .i64) (Sort.ahead w q) g 0 (new ++ List.replicate (l.length - new.length) 0).toArray).heap[k]? = w.heap[k]? := fun k _ hk => hother k (by simpa [ids, Ow.ids] using hk)
  refine ⟨_, [Ow.slice (.slice (some ⟨g, 0, none⟩) new.length cap) 3 1 (ints new)], [], rfl, ⟨rfl, rfl⟩, ⟨rfl, rfl, rfl⟩, ?_, ?_⟩
  · have := imm_step (ob := [Ow.slice (.slice (some ⟨g, 0, none⟩) l.length cap) 3 1 (ints l)]) (bx := []) (nb := [Ow.slice (.slice (some ⟨g, 0, none⟩) new.length cap) 3 1 (ints new)]) ho hkeep hids
    simpa using this
  · have := OK.step (ob := [Ow.slice (.slice (some ⟨g, 0, none⟩) l.length cap) 3 1 (ints l)]) (bx := []) (nb := [Ow.slice (.slice (some ⟨g, 0, none⟩) new.length cap) 3 1 (ints new)]) ho hkeep hids (by simp [ids, Ow.ids]) (fun b hb => by
      rw [List.mem_singleton] at hb; subst hb
      refine ⟨new.length, by simp, .inr ⟨g, cap, ints (List.replicate (l.length - new.length) 0) ++ sp, rfl, by omega, h4, hw', ?_⟩⟩
      simp only [List.length_append, List.length_map, List.length_replicate] at h6 ⊢
      omega)
    exact this.less (fun f hf => by cases hf)
theorem compact_le (l : List Int) : (Lib.compact l).length ≤ l.length := by
  unfold Lib.compact Lib.compactUpTo
  rw [List.length_map]
  exact Nat.le_trans (List.length_filter_le _ _) (by simp)
theorem compact_c (v : Value) (l : List Int) (hl : l.length ≤ 1000000) (hne : l ≠ []) : FnB Tryz.prog 84 [v] [Ow.slice v 3 1 (ints l)] [] (IsO 3 1 (ints (Lib.compact l))) :=
  row_fn ⟨Tryz.f84, Tryz.func84, by kernel_rfl, by kernel_rfl⟩ hne (compact_le l) fun fr w g cap hv hcap _ hH => by
    subst hv
    exact Any.slices_Compact_int layCompact g 0 cap l w hH (by omega) hcap
theorem delete_row {v : Value} {l : List Int} {F : List Fct} (hl : l.length ≤ 1000000) (hne : l ≠ []) (p : Int → Bool) (g : Nat) (lb : Array Value) (eg : ∀ args w, (callFunc g args).run Tryz.prog w = .ok (.enter g args) w)
    (hp : ∀ fr w b cap, v = .slice (some ⟨b, 0, none⟩) l.length cap → OK fr [Ow.slice v 3 1 (ints l)] F w → PredAt Tryz.prog g lb (Value.int .i64) p w ∧ PredOver Tryz.prog g lb (Value.int .i64) p b 0 l.length w) :
    FnB Tryz.prog 80 [v, .func (.func g) #[] lb] [Ow.slice v 3 1 (ints l)] F (IsO 3 1 (ints (l.filter fun x => !p x))) :=
  row_fn ⟨Tryz.f80, Tryz.func80, by kernel_rfl, by kernel_rfl⟩ hne (List.length_filter_le _ _) fun fr w b cap hv hcap ho hH => by
    obtain ⟨h1, h2⟩ := hp fr w b cap hv ho
    subst hv
    have := AnyE.slices_DeleteFunc layDelete (Value.int .i64) (fun _ => rfl) p g lb eg 0 (fun w => Tryz.zeroValue3 w) b 0 cap l.toArray w h1 h2 hH (by simp; omega) (by simpa using hcap)
    exact this
theorem sort_fn {f : FuncId} {l new : List Int} {v : Value} {F : List Fct} (hc : Callable Tryz.prog f) (hne : l ≠ []) (hlen : new.length = l.length)
    (h : ∀ w g cap, g < w.heap.size → Holds (Value.int .i64) w g 0 l.toArray → Calls Tryz.prog f #[.slice (some ⟨g, 0, none⟩) l.length cap] w fun e w' => e = .returned (.tuple #[]) ∧ ∃ q os, w' = Sort.grow (putRow (Value.int .i64) (Sort.ahead w q) g 0 new.toArray) os) :
    FnB Tryz.prog f [v] [Ow.slice v 3 1 (ints l)] F (IsSrt v new) := by
  refine ⟨hc, fun fr w ho => ?_⟩
  obtain ⟨n, h1, ⟨_, h2⟩ | ⟨g, cap, sp, rfl, h3, h4, h5, h6⟩⟩ := ho.owns _ (.head _)
  · exfalso; subst h2; simp at h1; exact hne h1
  have hn : n = l.length := by simpa using h1.symm
  subst hn
  have hH : Holds (Value.int .i64) w g 0 l.toArray := fun j hj => by
    have hj' : j < l.length := by simpa using hj
    constructor
    · unfold World.cell?
      rw [h5]
      simp [hj']
      rw [List.getElem?_append_left (by simpa using hj')]
      simp [hj']
    · unfold World.frozen?; rw [h5]; simp
  have hgl : g < w.heap.size := (Array.getElem?_eq_some_iff.1 h5).1
  refine (h w g cap hgl hH).mono ?_
  rintro e w' ⟨rfl, q, os, rfl⟩
  have hw' : (putRow (Value.int .i64) (Sort.ahead w q) g 0 (new ++ List.replicate (l.length - new.length) 0).toArray).heap[g]? = some (.cells (ints new ++ (ints (List.replicate (l.length - new.length) 0) ++ sp)).toArray 3 (0, 0)) := by
    unfold putRow mapBlock
    show (w.heap.modify g _)[g]? = _
    rw [Array.getElem?_modify, if_pos rfl, h5]
    simp only [Option.map_some, onCells]
    congr 2
    apply Array.ext_getElem?
    intro k
    unfold putCells
    rw [Array.getElem?_mapIdx]
    simp only [List.getElem?_toArray]
    rw [← List.append_assoc]
    by_cases hk : k < l.length
    · rw [List.getElem?_append_left (by simpa using hk), List.getElem?_append_left (by simp; omega)]
      have e1 : (ints l)[k]? = some (.int .i64 l[k]) := by simp [hk]
      rw [e1, Option.map_some, if_pos (by simp; omega)]
      rw [show ints new ++ ints (List.replicate (l.length - new.length) 0) = ints (new ++ List.replicate (l.length - new.length) 0) by simp [ints]]
      have hk2 : k < (new ++ List.replicate (l.length - new.length) 0).length := by simp; omega
      have e3 : (ints (new ++ List.replicate (l.length - new.length) 0))[k]? = some (.int .i64 (new ++ List.replicate (l.length - new.length) 0)[k]) := by
        unfold ints; rw [List.getElem?_map, List.getElem?_eq_getElem hk2]; rfl
      rw [e3, getElem!_pos _ _ (by simpa using hk2)]
      rfl
    · rw [List.getElem?_append_right (by simp; omega), List.getElem?_append_right (by simp; omega)]
      have e2 : (ints l).length = (ints new ++ ints (List.replicate (l.length - new.length) 0)).length := by simp; omega
      rw [e2]
      cases sp[k - (ints new ++ ints (List.replicate (l.length - new.length) 0)).length]? with
      | none => rfl
      | some x => rw [Option.map_some, if_neg (by simp; omega)]
  have hother : ∀ k, k ≠ g → (putRow (Value.int .i64) (Sort.ahead w q) g 0 (new ++ List.replicate (l.length - new.length) 0).toArray).heap[k]? = w.heap[k]? := fun k hk => by
    unfold putRow mapBlock
    show (w.heap.modify g _)[k]? = _
    rw [Array.getElem?_modify, if_neg (fun h => hk h.symm)]
  have hx : new ++ List.replicate (l.length - new.length) 0 = new := by rw [hlen, Nat.sub_self]; simp
  rw [hx] at hw' hother
  have hsz : (putRow (Value.int .i64) (Sort.ahead w q) g 0 new.toArray).heap.size = w.heap.size := by unfold putRow mapBlock; show (w.heap.modify g _).size = _; simp
  have hold : ∀ k, k < w.heap.size → (Sort.grow (putRow (Value.int .i64) (Sort.ahead w q) g 0 new.toArray) os).heap[k]? = (putRow (Value.int .i64) (Sort.ahead w q) g 0 new.toArray).heap[k]? := fun k hk => Sort.heap_grow_old _ os (by rw [hsz]; exact hk)
  rw [← hold g hgl] at hw'
  have hids : ∀ k ∈ ids [Ow.slice (.slice (some ⟨g, 0, none⟩) l.length cap) 3 1 (ints new)], k ∈ ids [Ow.slice (.slice (some ⟨g, 0, none⟩) l.length cap) 3 1 (ints l)] ∨ w.heap.size ≤ k := fun k hk => .inl (by simpa [ids, Ow.ids] using hk)
  have hkeep : ∀ k, k < w.heap.size → k ∉ ids [Ow.slice (.slice (some ⟨g, 0, none⟩) l.length cap) 3 1 (ints l)] → (Sort.grow (putRow (Value.int .i64) (Sort.ahead w q) g 0 new.toArray) os).heap[k]? = w.heap[k]? := fun k hkl hk => by rw [hold k hkl]; exact hother k (by simpa [ids, Ow.ids] using hk)
  refine ⟨_, [Ow.slice (.slice (some ⟨g, 0, none⟩) l.length cap) 3 1 (ints new)], [], rfl, ⟨rfl, rfl, rfl⟩, ⟨rfl, rfl, rfl⟩, ?_, ?_⟩
  · have := imm_step (ob := [Ow.slice (.slice (some ⟨g, 0, none⟩) l.length cap) 3 1 (ints l)]) (bx := []) (nb := [Ow.slice (.slice (some ⟨g, 0, none⟩) l.length cap) 3 1 (ints new)]) ho hkeep hids
    simpa using this
  · have := OK.step (ob := [Ow.slice (.slice (some ⟨g, 0, none⟩) l.length cap) 3 1 (ints l)]) (bx := []) (nb := [Ow.slice (.slice (some ⟨g, 0, none⟩) l.length cap) 3 1 (ints new)]) ho hkeep hids (by simp [ids, Ow.ids]) (fun b hb => by
      rw [List.mem_singleton] at hb; subst hb
      refine ⟨l.length, by simp [hlen], .inr ⟨g, cap, ints (List.replicate (l.length - new.length) 0) ++ sp, rfl, h3, h4, hw', ?_⟩⟩
      simp only [List.length_append, List.length_map, List.length_replicate] at h6 ⊢
      omega)
    exact this.less (fun f hf => by cases hf)
theorem sort0_c (v : Value) : FnB Tryz.prog 83 [v] [Ow.slice v 3 1 (ints [])] [] (IsSrt v []) := by
  refine ⟨⟨Tryz.f83, Tryz.func83, by kernel_rfl, by kernel_rfl⟩, fun fr w ho => ?_⟩
  have hv : ∃ p cap, v = .slice p 0 cap := by
    obtain ⟨n, h1, ⟨h2, h3⟩ | ⟨g, cap, sp, rfl, h3, h4, h5, h6⟩⟩ := ho.owns _ (.head _)
    · exact ⟨_, _, h2⟩
    · have : n = 0 := by simpa using h1.symm
      subst this; exact ⟨_, _, rfl⟩
  obtain ⟨p, cap, rfl⟩ := hv
  refine (AnyM.slices_Sort_int_none laySort p cap w).mono ?_
  rintro e w' ⟨rfl, rfl⟩
  exact ⟨_, [Ow.slice (.slice p 0 cap) 3 1 (ints [])], [], rfl, ⟨rfl, rfl, rfl⟩, W.Rest.refl _, fun _ _ h => h, ho⟩
theorem sort_c (v : Value) (l : List Int) (hl : l.length ≤ 1000000) : FnB Tryz.prog 83 [v] [Ow.slice v 3 1 (ints l)] [] (IsSrt v (srt l)) := by
  by_cases hne : l = []
  · subst hne
    rw [show srt [] = [] by simp [srt]]
    exact sort0_c v
  · exact sort_fn ⟨Tryz.f83, Tryz.func83, by kernel_rfl, by kernel_rfl⟩ hne (srt_len l) fun w g cap hg hH => by
      refine (AnyM.slices_Sort_int laySort g 0 cap l w hH hg (by omega)).mono ?_
      rintro e w' ⟨rfl, q, os, rfl⟩
      exact ⟨rfl, q, os, rfl⟩
end Go.Proofs.YtaongbhamadlkaaGreat
namespace Go.Proofs.YtaongbhamadlkaaGreat
open W Go.RowKit
theorem fst_in {l : List Int} {p : Int → Bool} : (X.fstT (fun i => p (l.getD i 0)) l.length 0).isSome = true ↔ ∃ x ∈ l, p x = true := by
  rcases X.fstT_spec (fun i => p (l.getD i 0)) l.length 0 with ⟨h1, h2⟩ | ⟨j, h1, _, h3, h4, _⟩
  · rw [h1]
    constructor
    · intro h; cases h
    · rintro ⟨x, hx, h⟩
      obtain ⟨j, hj, rfl⟩ := List.mem_iff_getElem.1 hx
      have := h2 j (by omega) (by omega)
      simp [List.getD_eq_getElem?_getD, hj, h] at this
  · rw [h1]
    refine ⟨fun _ => ⟨l.getD j 0, ?_, h4⟩, fun _ => rfl⟩
    have : j < l.length := by omega
    simp [List.getD_eq_getElem?_getD, this]
namespace U
attribute [local irreducible] WC WL WD YO LO LoopEnd W.Fin Scalar SliceT FieldAt Row ArrT AllocT KnS Has W.One SrcE IntT
theorem d84 {G G' : Prop} (h : G') (s : Bx G' → G := by
  intro h
  first | (apply WC.draw (id := 6) [0, 1, 2, 3, 4, 5, 6, 7, 8, 9] (.held 0 (.held 1 (.held 2 (.held 3 (.held 4 (.held 5 (.held 6 (.held 7 (.held 8 (.held 9 (.done))))))))))) mixed (by kernel_rfl)) | (apply WC.draw (id := 11) [0, 1, 2, 3, 4, 5, 6, 7, 8, 9] (.held 0 (.held 1 (.held 2 (.held 3 (.held 4 (.held 5 (.held 6 (.held 7 (.held 8 (.held 9 (.done))))))))))) mixed (by kernel_rfl)) | fail
  exact Bx.h h) : G := s ⟨h⟩
set_option maxHeartbeats 4000000 in
set_option maxRecDepth 60000 in
theorem indexFI_c (u : Value) (l : List Int) (f : FuncId) (cap : List Value) (Fc : List Fct) (p : Int → Bool) (hp : ∀ x, FnB Tryz.prog f ([.int .i64 x] ++ cap) [] Fc (IsV (.bool (p x)))) :
    FnB Tryz.prog 138 [u, .func (.func f) #[] cap.toArray] [] (sI u l :: Fc) (IsV (.int .i64 (optI (X.fstT (fun i => p (l.getD i 0)) l.length 0)))) := by
  refine fn_of [(0, u), (1, (.func (.func f) #[] cap.toArray))] 19 Tryz.func138 rfl Tryz.ntmps138 (by kernel_rfl) rfl suA fun h0 => ?_
  refine WC.lenI u l hmA fun hlen => ?_
  repeat' (first | refine gA ?_ | (refine goG ?_; intro g) | (refine goV ?_; intro v))
  refine WC.lp (σ := Nat) (fun i => [(8, .int .i64 (i : Int)), (7, .int .i64 (l.length : Int)), (0, u), (1, .func (.func f) #[] cap.toArray)]) (fun _ => []) (fun _ => ge h0 :: sI u l :: Fc) (fun i => i ≤ l.length ∧ X.fstT (fun i => p (l.getD i 0)) l.length 0 = X.fstT (fun i => p (l.getD i 0)) (l.length - i) i) (fun i => l.length - i) 0 ⟨Nat.zero_le _, rfl⟩ ?_ (hG := .cons hmA (.cons hmA (HasAll.tail fun _ h => by (repeat (first | exact h | apply List.mem_cons_of_mem)))))
  rintro i ⟨hi, he⟩
  by_cases c : i < l.length
  · rw [fstT_at c] at he
    repeat' (first | refine gA ?_ | (refine goG ?_; intro g) | (refine goV ?_; intro v))
    refine WL.callC [] cap (vs := [.int .i64 (l.getD i 0)]) (hp (l.getD i 0)) ?_ (hF := (HasAll.tail fun _ h => by (repeat (first | exact h | apply List.mem_cons_of_mem))))
    rintro _ _ _ ⟨rfl, rfl, rfl⟩
    simp only [List.nil_append, List.cons_append]
    cases h : p (l.getD i 0) with
    | true =>
      rw [if_pos h] at he
      rw [he]
      repeat' (first | refine gA ?_ | (refine goG ?_; intro g) | (refine goV ?_; intro v))
      exact WC.ret (Fin.v (ResE.t1 rfl rfl) meA rfl)
    | false =>
      rw [if_neg (by rw [h]; decide)] at he
      repeat' (first | refine gA ?_ | (refine goG ?_; intro g) | (refine goV ?_; intro v))
      exact LoopEnd.mk (i + 1) ⟨by omega, he⟩ (by show l.length - (i + 1) < l.length - i; omega) (hG := .cons hmA (.cons hmA (HasAll.tail fun _ h => by (repeat (first | exact h | apply List.mem_cons_of_mem)))))
  · obtain rfl : i = l.length := by omega
    rw [Nat.sub_self, X.fstT] at he
    rw [he]
    repeat' (first | refine gA ?_ | (refine goG ?_; intro g) | (refine goV ?_; intro v))
    exact WC.ret (Fin.v (ResE.t1 rfl rfl) meA rfl)
set_option maxHeartbeats 4000000 in
set_option maxRecDepth 60000 in
theorem containsFI_c (u : Value) (l : List Int) (f : FuncId) (cap : List Value) (Fc : List Fct) (p : Int → Bool) (hp : ∀ x, FnB Tryz.prog f ([.int .i64 x] ++ cap) [] Fc (IsV (.bool (p x)))) :
    FnB Tryz.prog 78 [u, .func (.func f) #[] cap.toArray] [] (sI u l :: Fc) (IsV (.bool (l.any p))) := by
  refine fn_of [(0, u), (1, (.func (.func f) #[] cap.toArray))] 9 Tryz.func78 rfl Tryz.ntmps78 (by kernel_rfl) rfl suA fun h0 => ?_
  have hx := @fst_in l p
  repeat' (first | refine gA ?_ | (refine goG ?_; intro g) | (refine goV ?_; intro v))
  refine WL.callV (indexFI_c u l f cap Fc p hp) ?_ (hF := .cons (.f hmA) (hasB_tail fun _ h => by (repeat (first | exact h | apply List.mem_cons_of_mem))))
  cases hq : X.fstT (fun i => p (l.getD i 0)) l.length 0 with
  | none =>
    have ha : l.any p = false := by
      rw [Bool.eq_false_iff]
      intro h
      rw [List.any_eq_true] at h
      have := hx.2 h
      rw [hq] at this; cases this
    rw [show optI none = -1 from rfl, ha]
    repeat' (first | refine gA ?_ | (refine goG ?_; intro g) | (refine goV ?_; intro v))
    exact WC.ret (Fin.v (ResE.t1 rfl rfl) meA rfl)
  | some k =>
    have ha : l.any p = true := List.any_eq_true.2 (hx.1 (by rw [hq]; rfl))
    rw [show optI (some k) = (k : Int) from rfl, ha]
    repeat' (first | refine gA ?_ | (refine goG ?_; intro g) | (refine goV ?_; intro v))
    exact WC.ret (Fin.v (ResE.t1 rfl rfl) meA rfl)
set_option maxHeartbeats 4000000 in
set_option maxRecDepth 60000 in
theorem indexI_c (u : Value) (l : List Int) (x : Int) : FnB Tryz.prog 122 [u, .int .i64 x] [] [sI u l] (IsV (.int .i64 (optI (X.fstT (fun i => decide (x = l.getD i 0)) l.length 0)))) := by
  refine fn_of [(0, u), (1, (.int .i64 x))] 19 Tryz.func122 rfl Tryz.ntmps122 (by kernel_rfl) rfl suA fun h0 => ?_
  refine WC.lenI u l hmA fun hlen => ?_
  repeat' (first | refine gA ?_ | (refine goG ?_; intro g) | (refine goV ?_; intro v))
  refine WC.lp (σ := Nat) (fun i => [(8, .int .i64 (i : Int)), (7, .int .i64 (l.length : Int)), (0, u), (1, .int .i64 x)]) (fun _ => []) (fun _ => [ge h0, sI u l]) (fun i => i ≤ l.length ∧ X.fstT (fun i => decide (x = l.getD i 0)) l.length 0 = X.fstT (fun i => decide (x = l.getD i 0)) (l.length - i) i) (fun i => l.length - i) 0 ⟨Nat.zero_le _, rfl⟩ ?_
  rintro i ⟨hi, he⟩
  by_cases c : i < l.length
  · rw [fstT_at c] at he
    by_cases h : x = l.getD i 0
    · rw [if_pos (decide_eq_true h)] at he
      rw [he]
      repeat' (first | refine gA ?_ | (refine goG ?_; intro g) | (refine goV ?_; intro v))
      exact WC.ret (Fin.v (ResE.t1 rfl rfl) meA rfl)
    · rw [if_neg (by simpa using h)] at he
      repeat' (first | refine gA ?_ | (refine goG ?_; intro g) | (refine goV ?_; intro v))
      exact LoopEnd.mk (i + 1) ⟨by omega, he⟩ (by show l.length - (i + 1) < l.length - i; omega)
  · obtain rfl : i = l.length := by omega
    rw [Nat.sub_self, X.fstT] at he
    rw [he]
    repeat' (first | refine gA ?_ | (refine goG ?_; intro g) | (refine goV ?_; intro v))
    exact WC.ret (Fin.v (ResE.t1 rfl rfl) meA rfl)
set_option maxHeartbeats 4000000 in
set_option maxRecDepth 60000 in
theorem containsI_c (u : Value) (l : List Int) (x : Int) : FnB Tryz.prog 141 [u, .int .i64 x] [] [sI u l] (IsV (.bool (decide (x ∈ l)))) := by
  refine fn_of [(0, u), (1, (.int .i64 x))] 9 Tryz.func141 rfl Tryz.ntmps141 (by kernel_rfl) rfl suA fun h0 => ?_
  have hx := @fst_in l (fun y => decide (x = y))
  repeat' (first | refine gA ?_ | (refine goG ?_; intro g) | (refine goV ?_; intro v))
  first | refine WL.callV (indexI_c u l x) ?_ | refine WD.callV (indexI_c u l x) ?_
  cases hq : X.fstT (fun i => decide (x = l.getD i 0)) l.length 0 with
  | none =>
    have ha : ¬ x ∈ l := fun h => by
      have := hx.2 ⟨x, h, by simp⟩
      rw [hq] at this; cases this
    rw [show optI none = -1 from rfl, decide_eq_false ha]
    repeat' (first | refine gA ?_ | (refine goG ?_; intro g) | (refine goV ?_; intro v))
    exact WC.ret (Fin.v (ResE.t1 rfl rfl) meA rfl)
  | some k =>
    have ha : x ∈ l := by
      obtain ⟨y, h1, h2⟩ := hx.1 (by rw [hq]; rfl)
      have := of_decide_eq_true h2
      subst this; exact h1
    rw [show optI (some k) = (k : Int) from rfl, decide_eq_true ha]
    repeat' (first | refine gA ?_ | (refine goG ?_; intro g) | (refine goV ?_; intro v))
    exact WC.ret (Fin.v (ResE.t1 rfl rfl) meA rfl)
set_option maxHeartbeats 4000000 in
set_option maxRecDepth 60000 in
theorem cloneI_c (u : Value) (l : List Int) (hl : l.length ≤ 1000000) : FnB Tryz.prog 81 [u] [] [sI u l] (IsO 3 1 (ints l)) := by
  refine fn_of [(0, u)] 8 Tryz.func81 rfl Tryz.ntmps81 (by kernel_rfl) rfl suA fun h0 => ?_
  cases hn : isNil u with
  | true =>
    refine WC.nil0 (v := u) (l := l) hmA hn fun h => ?_
    subst h
    repeat' (first | refine gA ?_ | (refine goG ?_; intro g) | (refine goV ?_; intro v))
    refine WC.addNil 3 1 ?_
    exact WC.ret (Fin.o (v := .slice none 0 0) (cs := ints []) (ResE.t1 rfl rfl) meA (.head _) rfl)
  | false =>
    repeat' (first | refine gA ?_ | (refine goG ?_; intro g) | (refine goV ?_; intro v))
    exact WC.ret (Fin.o (ResE.t1 rfl rfl) meA meA (List.nil_append _))
set_option maxHeartbeats 4000000 in
set_option maxRecDepth 60000 in
theorem compact0_c (v : Value) (l : List Int) (hl : l.length = 0) : FnB Tryz.prog 84 [v] [Ow.slice v 3 1 (ints l)] [] (IsO 3 1 (ints l)) := by
  refine fn_of [(0, v)] 61 Tryz.func84 rfl Tryz.ntmps84 (by kernel_rfl) rfl suA fun h0 => ?_
  repeat' (first | refine gB ?_ | (refine gH ?_; intro g) | (refine gW ?_; intro v) | refine d84 ?_ | fail)
  exact WC.ret (Fin.o (ResE.t1 rfl rfl) meA meA rfl)
theorem compactA_c (v : Value) (l : List Int) (hl : l.length ≤ 1000000) : FnB Tryz.prog 84 [v] [Ow.slice v 3 1 (ints l)] [] (IsO 3 1 (ints (Lib.compact l))) := by
  cases l with
  | nil => exact compact0_c v [] rfl
  | cons a l => exact compact_c v (a :: l) hl (by simp)
set_option maxHeartbeats 4000000 in
set_option maxRecDepth 60000 in
theorem delete0_c (v : Value) (f : FuncId) (cap : List Value) (Fc : List Fct) (p : Int → Bool) (hp : ∀ x, FnB Tryz.prog f ([.int .i64 x] ++ cap) [] Fc (IsV (.bool (p x)))) :
    FnB Tryz.prog 80 [v, .func (.func f) #[] cap.toArray] [Ow.slice v 3 1 (ints [])] Fc (IsO 3 1 (ints [])) := by
  refine fn_of [(0, v), (1, (.func (.func f) #[] cap.toArray))] 42 Tryz.func80 rfl Tryz.ntmps80 (by kernel_rfl) rfl suA fun h0 => ?_
  repeat' (first | refine gA ?_ | (refine goG ?_; intro g) | (refine goV ?_; intro v))
  refine WL.callV (indexFI_c v [] f cap Fc p hp) ?_ (hF := .cons (.oI meA) (hasB_tail fun _ h => by (repeat (first | exact h | apply List.mem_cons_of_mem))))
  rw [show optI (X.fstT (fun i => p (([] : List Int).getD i 0)) ([] : List Int).length 0) = -1 from rfl]
  repeat' (first | refine gA ?_ | (refine goG ?_; intro g) | (refine goV ?_; intro v))
  exact WC.ret (Fin.o (ResE.t1 rfl rfl) meA meA rfl)
set_option maxHeartbeats 4000000 in
set_option maxRecDepth 60000 in
theorem core1_c (x : Int) : FnB Tryz.prog 79 ([.int .i64 x] ++ []) [] [] (IsV (.bool (decide (x < -1)))) := by
  refine fn_of [(0, (.int .i64 x))] 5 Tryz.func79 rfl Tryz.ntmps79 (by kernel_rfl) rfl suA fun h0 => ?_
  by_cases c : x < -1
  · repeat' (first | refine gA ?_ | (refine goG ?_; intro g) | (refine goV ?_; intro v))
    exact WC.ret (Fin.v (ResE.t1 rfl rfl) meA (by rw [decide_eq_true c]))
  · repeat' (first | refine gA ?_ | (refine goG ?_; intro g) | (refine goV ?_; intro v))
    exact WC.ret (Fin.v (ResE.t1 rfl rfl) meA (by rw [decide_eq_false c]))
set_option maxHeartbeats 4000000 in
set_option maxRecDepth 60000 in
theorem core2_c (x : Int) : FnB Tryz.prog 82 ([.int .i64 x] ++ []) [] [] (IsV (.bool (decide (x < 0)))) := by
  refine fn_of [(0, (.int .i64 x))] 5 Tryz.func82 rfl Tryz.ntmps82 (by kernel_rfl) rfl suA fun h0 => ?_
  by_cases c : x < 0
  · repeat' (first | refine gA ?_ | (refine goG ?_; intro g) | (refine goV ?_; intro v))
    exact WC.ret (Fin.v (ResE.t1 rfl rfl) meA (by rw [decide_eq_true c]))
  · repeat' (first | refine gA ?_ | (refine goG ?_; intro g) | (refine goV ?_; intro v))
    exact WC.ret (Fin.v (ResE.t1 rfl rfl) meA (by rw [decide_eq_false c]))
set_option maxHeartbeats 4000000 in
set_option maxRecDepth 60000 in
theorem core3_c (x : Int) (y : Int) (g : Nat): FnB Tryz.prog 86 ([.int .i64 x] ++ [ptr g]) [] [ce g 3 [.int .i64 y]] (IsV (.bool (decide (x = y)))) := by
  refine fn_of [(0, (.int .i64 x)), (1, (ptr g))] 7 Tryz.func86 rfl Tryz.ntmps86 (by kernel_rfl) rfl suA fun h0 => ?_
  by_cases c : x = y
  · repeat' (first | refine gA ?_ | (refine goG ?_; intro g) | (refine goV ?_; intro v))
    exact WC.ret (Fin.v (ResE.t1 rfl rfl) meA (by rw [decide_eq_true c]))
  · repeat' (first | refine gA ?_ | (refine goG ?_; intro g) | (refine goV ?_; intro v))
    exact WC.ret (Fin.v (ResE.t1 rfl rfl) meA (by rw [decide_eq_false c]))
end U
section
open Go.Shelf Go.Sort
set_option maxHeartbeats 1000000 in
theorem sneg_gives (W : World) (x : Int) : FnGives Tryz.prog 82 #[] #[.int .i64 x] (.bool (decide (x < 0))) W := by
  unfold FnGives
  show Calls Tryz.prog 82 #[.int .i64 x] W _
  go_enter Tryz.func82, Tryz.ntmps82
  go_wp2
  go_ret
  exact ⟨rfl, 0, rfl⟩
set_option maxHeartbeats 1000000 in
theorem seq_gives (W : World) (x y : Int) (g : Nat) (hc : W.cell? ⟨g, 0, none⟩ = some (.int .i64 y)) : FnGives Tryz.prog 86 #[.pointer (some ⟨g, 0, none⟩)] #[.int .i64 x] (.bool (decide (x = y))) W := by
  unfold FnGives
  show Calls Tryz.prog 86 #[.int .i64 x, .pointer (some ⟨g, 0, none⟩)] W _
  go_enter Tryz.func86, Tryz.ntmps86
  go_wp2
  go_ret
  exact ⟨rfl, 0, rfl⟩
end
open Go.Sort Go.Shelf in
theorem U.delNeg_c (v : Value) (l : List Int) (hl : l.length ≤ 1000000) : FnB Tryz.prog 80 [v, .func (.func 82) #[] #[]] [Ow.slice v 3 1 (ints l)] [] (IsO 3 1 (ints (l.filter fun x => !decide (x < 0)))) := by
  cases l with
  | nil => exact U.delete0_c v 82 [] [] _ U.core2_c
  | cons a l => exact delete_row hl (by simp) (fun x => decide (x < 0)) _ _ (enters_of Tryz.func82 (by kernel_rfl) rfl) fun fr w b cap hv ho => ⟨fun W x _ => sneg_gives W x, fun n os dk x _ => sneg_gives _ x⟩
open Go.Sort Go.Shelf in
theorem U.delEq_c (v : Value) (l : List Int) (y : Int) (g : Nat) (hl : l.length ≤ 1000000) : FnB Tryz.prog 80 [v, .func (.func 86) #[] #[ptr g]] [Ow.slice v 3 1 (ints l)] [ce g 3 [.int .i64 y]] (IsO 3 1 (ints (l.filter fun x => !decide (x = y)))) := by
  cases l with
  | nil => exact U.delete0_c v 86 [ptr g] _ _ fun x => U.core3_c x y g
  | cons a l =>
      refine delete_row hl (by simp) (fun x => decide (x = y)) _ _ (enters_of Tryz.func86 (by kernel_rfl) rfl) ?_
      intro fr w b cap hv ho
      have hf := ho.facts _ (.head _)
      have hg : w.heap[g]? = some (.cells #[.int .i64 y] 3 (0, 0)) := imm_heap hf
      have hgl : g < w.heap.size := (Array.getElem?_eq_some_iff.1 hg).1
      have hgb : g ≠ b := by
        rintro rfl
        have : imm fr [Ow.slice v 3 1 (ints (a :: l))] w.heap g = none := by
          unfold imm; rw [if_pos]; subst hv; simp [ids, Ow.ids]
        have h2 : imm fr [Ow.slice v 3 1 (ints (a :: l))] w.heap g = some (.cells #[.int .i64 y] 3 (0, 0)) := hf
        rw [this] at h2; cases h2
      have hc : w.cell? ⟨g, 0, none⟩ = some (.int .i64 y) := by unfold World.cell?; rw [hg]; rfl
      refine ⟨fun W x hW => seq_gives W x y g ((hW.cell (p := ⟨g, 0, none⟩) hgl).trans hc), fun n os dk x _ => seq_gives _ x y g ?_⟩
      unfold World.cell? sortWorld
      rw [Sort.heap_grow_old _ os (by simpa using hgl)]
      have : (putRow (Value.int .i64) (Sort.ahead w n) b 0 dk).heap[g]? = w.heap[g]? := by
        unfold putRow mapBlock
        show (w.heap.modify b _)[g]? = _
        rw [Array.getElem?_modify, if_neg (fun h => hgb h.symm)]
      rw [this, hg]; rfl
end Go.Proofs.YtaongbhamadlkaaGreat
namespace Go.Proofs.YtaongbhamadlkaaGreat
open W Go.RowKit
def I64 (n : Int) : Prop := -9223372036854775808 ≤ n ∧ n ≤ 9223372036854775807
def around (n m : Int) : Int := (if n < 0 then -(n+1) else n) % m
theorem around_lt {n m : Int} (hm : 0 < m) : 0 ≤ around n m ∧ around n m < m := ⟨Int.emod_nonneg _ (by omega), Int.emod_lt_of_pos _ hm⟩
theorem getD_i64 {l : List Int} (hl : ∀ x ∈ l, I64 x) (k : Nat) : I64 (l.getD k 0) := by
  rw [List.getD_eq_getElem?_getD]
  cases h : l[k]? with
  | none => simp [I64]
  | some x => simpa using hl x (List.mem_of_getElem? h)
def atP (l : List Int) (i m : Int) : Int := if i < 0 ∨ (l.length : Int) ≤ i then 0 else around (l.getD i.toNat 0) m
theorem atP_lt {l : List Int} {i m : Int} (hm : 0 < m) : 0 ≤ atP l i m ∧ atP l i m < m := by
  unfold atP; split
  · omega
  · exact around_lt hm
theorem same_all {l m : List Int} (hl : l.length = m.length) (h : ∀ j, j < l.length → l.getD j 0 = m.getD j 0) : l = m := by
  apply List.ext_getElem hl
  intro i h1 h2
  have := h i h1
  simpa [List.getD_eq_getElem?_getD, h1, h2] using this
namespace U
attribute [local irreducible] WC WL WD YO LO LoopEnd W.Fin Scalar SliceT FieldAt Row ArrT AllocT KnS Has W.One SrcE IntT
theorem d25 {G G' : Prop} (h : G') (s : Bx G' → G := by
  intro h
  first | (apply WC.draw (id := 6) [0, 1, 2, 3, 4, 5, 6, 7, 8] (.held 0 (.held 1 (.held 2 (.held 3 (.held 4 (.held 5 (.held 6 (.held 7 (.held 8 (.done)))))))))) mixed (by kernel_rfl)) | fail
  exact Bx.h h) : G := s ⟨h⟩
set_option maxHeartbeats 4000000 in
set_option maxRecDepth 60000 in
theorem around_c (n m : Int) (hn : I64 n) (hm : 0 < m) : FnB Tryz.prog 23 [.int .i64 n, .int .i64 m] [] [] (IsV (.int .i64 (around n m))) := by
  obtain ⟨hn, hn2⟩ := hn
  refine fn_of [(0, (.int .i64 n)), (1, (.int .i64 m))] 13 Tryz.func23 rfl Tryz.ntmps23 (by kernel_rfl) rfl suA fun h0 => ?_
  by_cases h : n < 0
  · repeat' (first | refine gA ?_ | (refine goG ?_; intro g) | (refine goV ?_; intro v))
    exact WC.ret (Fin.v (ResE.t1 rfl rfl) meA (by simp [around, h]))
  · repeat' (first | refine gA ?_ | (refine goG ?_; intro g) | (refine goV ?_; intro v))
    exact WC.ret (Fin.v (ResE.t1 rfl rfl) meA (by simp [around, h]))
set_option maxHeartbeats 4000000 in
set_option maxRecDepth 60000 in
theorem at_c (v : Value) (l : List Int) (i m : Int) (hl : ∀ x ∈ l, I64 x) (hm : 0 < m) : FnB Tryz.prog 29 [v, .int .i64 i, .int .i64 m] [] [sI v l] (IsV (.int .i64 (atP l i m))) := by
  refine fn_of [(0, v), (1, (.int .i64 i)), (2, (.int .i64 m))] 21 Tryz.func29 rfl Tryz.ntmps29 (by kernel_rfl) rfl suA fun h0 => ?_
  refine WC.lenI v l hmA fun hlen => ?_
  by_cases h : i < 0
  · repeat' (first | refine gA ?_ | (refine goG ?_; intro g) | (refine goV ?_; intro v))
    exact WC.ret (Fin.v (ResE.t1 rfl rfl) meA (by simp [atP, h]))
  by_cases h2 : (l.length : Int) ≤ i
  · repeat' (first | refine gA ?_ | (refine goG ?_; intro g) | (refine goV ?_; intro v))
    exact WC.ret (Fin.v (ResE.t1 rfl rfl) meA (by simp [atP, h2]))
  · repeat' (first | refine gA ?_ | (refine goG ?_; intro g) | (refine goV ?_; intro v))
    first | refine WL.callV (around_c _ _ (getD_i64 hl _) hm) ?_ | refine WD.callV (around_c _ _ (getD_i64 hl _) hm) ?_
    repeat' (first | refine gA ?_ | (refine goG ?_; intro g) | (refine goV ?_; intro v))
    exact WC.ret (Fin.v (ResE.t1 rfl rfl) meA (by simp [atP, h, h2]))
set_option maxHeartbeats 4000000 in
set_option maxRecDepth 60000 in
theorem sameInts_c (v u : Value) (l m : List Int) : FnB Tryz.prog 25 [v, u] [] [sI v l, sI u m] (IsV (.bool (decide (l = m)))) := by
  refine fn_of [(0, v), (1, u)] 26 Tryz.func25 rfl Tryz.ntmps25 (by kernel_rfl) rfl suA fun h0 => ?_
  refine WC.lenI v l hmA fun hlen => ?_
  by_cases hl : l.length = m.length
  · repeat' (first | refine gB ?_ | (refine gH ?_; intro g) | (refine gW ?_; intro v) | refine d25 ?_ | fail)
    refine WC.lp (σ := Nat) (fun k => [(5, .int .i64 (k : Int)), (0, v), (1, u)]) (fun _ => []) (fun _ => [ge h0, sI v l, sI u m]) (fun k => k ≤ l.length ∧ ∀ j, j < k → l.getD j 0 = m.getD j 0) (fun k => l.length - k) 0 ⟨Nat.zero_le _, fun j h => by omega⟩ ?_
    rintro k ⟨hk, hn⟩
    by_cases hlt : k < l.length
    · by_cases he : l.getD k 0 = m.getD k 0
      · repeat' (first | refine gB ?_ | (refine gH ?_; intro g) | (refine gW ?_; intro v) | refine d25 ?_ | fail)
        refine LoopEnd.mk (k + 1) ⟨by omega, fun j hj => ?_⟩ (by show l.length - (k + 1) < l.length - k; omega)
        by_cases hjk : j = k
        · subst hjk; exact he
        · exact hn j (by omega)
      · repeat' (first | refine gB ?_ | (refine gH ?_; intro g) | (refine gW ?_; intro v) | refine d25 ?_ | fail)
        exact WC.ret (Fin.v (ResE.t1 rfl rfl) meA (by rw [decide_eq_false]; rintro rfl; exact he rfl))
    · repeat' (first | refine gB ?_ | (refine gH ?_; intro g) | (refine gW ?_; intro v) | refine d25 ?_ | fail)
      exact WC.ret (Fin.v (ResE.t1 rfl rfl) meA (by rw [decide_eq_true]; exact same_all hl (fun j hj => hn j (by omega))))
  · have hl' : (l.length : Int) ≠ m.length := by omega
    repeat' (first | refine gB ?_ | (refine gH ?_; intro g) | (refine gW ?_; intro v) | refine d25 ?_ | fail)
    exact WC.ret (Fin.v (ResE.t1 rfl rfl) meA (by rw [decide_eq_false]; rintro rfl; exact hl rfl))
end U
end Go.Proofs.YtaongbhamadlkaaGreat
namespace Go.Proofs.YtaongbhamadlkaaGreat
open W Go.RowKit
abbrev lv5 (a : Value) (b : QM) : Value := .agg #[a, .bool b.1, b.2.1, .bool false, b.2.2]
def IsOF (n : Nat) (q : Nat → Rat) : RPost := fun v B G => ∃ ms, B = [Ow.slice v 31 4 (qcells n ms)] ∧ G = [mF n ms q]
namespace U
open Z
attribute [local irreducible] WC WL WD YO LO LoopEnd W.Fin Scalar SliceT FieldAt Row ArrT AllocT KnS Has W.One SrcE IntT
theorem d58 {G G' : Prop} (h : G') (s : Bx G' → G := by
  intro h
  first | (apply WC.draw (id := 5) [0, 1, 2, 3, 4, 5] (.held 0 (.held 1 (.held 2 (.held 3 (.held 4 (.held 5 (.loud 6 (.loud 7 (.loud 8 (.loud 9 (.done))))))))))) mixed (by kernel_rfl)) | fail
  exact Bx.h h) : G := s ⟨h⟩
set_option maxHeartbeats 4000000 in
set_option maxRecDepth 60000 in
theorem scaled_c (v : Value) (n : Nat) (ms : Nat → QM) (a : Nat → Rat) (m : QM) (f : Rat) (hn : n ≤ 10000) (ha : ∀ i, i < n → Sm (a i)) (hf : Sm f) : FnB Tryz.prog 58 [v, qv m] [] [fF v n ms a, isQ (qv m) f] (IsOF n fun k => a k * f) := by
  refine fn_of [(0, v), (1, (qv m))] 23 Tryz.func58 rfl Tryz.ntmps58 (by kernel_rfl) rfl suA fun h0 => ?_
  refine WC.addNil 31 4 ?_
  repeat' (first | refine gB ?_ | (refine gH ?_; intro g) | (refine gW ?_; intro v) | refine gY ?_ | refine d58 ?_ | fail)
  revert g; intro g3
  refine WC.lp (σ := Nat × Value × (Nat → QM)) (fun st => [(6, .int .i64 (st.1 : Int)), (0, v), (5, st.2.1), (3, ptr g3)]) (fun st => [Ow.cells g3 31 (qcs m), Ow.slice st.2.1 31 4 (qcells st.1 st.2.2)])
    (fun st => [mF st.1 st.2.2 (clx (fun k => a k * f) st.1), ge h0, fF v n ms a, isQ (qv m) f]) (fun st => st.1 ≤ n) (fun st => n - st.1) (0, .slice none 0 0, fun _ => m00) (Nat.zero_le _) ?_ (hG := .cons (W.Has.mFn _ _) (.cons hmA (.cons hmA (.cons hmA .nil))))
  rintro ⟨k, sv, ms2⟩ hk
  simp only at hk ⊢
  by_cases c : k < n
  · refine WC.fact (isQ (qv (ms k)) (a k)) (W.Has.q (W.Has.fm (v := v) hmA) c) ?_
    repeat' (first | refine gB ?_ | (refine gH ?_; intro g) | (refine gW ?_; intro v) | refine gY ?_ | refine d58 ?_ | fail)
    first | refine WL.callK (Zn.rmul (ms k) m (a k) f (ha k c) hf) ?_ | refine WD.callK (Zn.rmul (ms k) m (a k) f (ha k c) hf) ?_ | refine LO.callM (Zn.rmul (ms k) m (a k) f (ha k c) hf) ?_
    rintro _ _ _ ⟨m3, rfl, rfl, rfl⟩
    simp only [List.nil_append, List.cons_append]
    refine WD.fact (mF (k + 1) (upd ms2 k m3) (clx (fun k => a k * f) (k + 1))) ((W.Has.mFapp (n := k) (ms := ms2) (m := m3) (qf := clx _ k) hmA hmA).mFsame fun j hj => clx_up (c := fun k => a k * f) j) ?_
    repeat' (first | refine gB ?_ | (refine gH ?_; intro g) | (refine gW ?_; intro v) | refine gY ?_ | refine d58 ?_ | fail)
    exact LoopEnd.mk (k + 1, _, _) (by show k + 1 ≤ n; omega) (by show n - (k + 1) < n - k; omega)
  · obtain rfl : n = k := by omega
    repeat' (first | refine gB ?_ | (refine gH ?_; intro g) | (refine gW ?_; intro v) | refine gY ?_ | refine d58 ?_ | fail)
    refine WC.fact (mF n ms2 fun k => a k * f) (W.Has.mFsame (qf := clx (fun k => a k * f) n) hmA fun j hj => by unfold clx; rw [if_pos hj]) ?_
    refine WC.ret ?_
    exact Fin.p [_] [mF n ms2 fun k => a k * f] (ResE.t1 rfl rfl) meA slA haA ⟨ms2, rfl, rfl⟩
end U
end Go.Proofs.YtaongbhamadlkaaGreat
namespace Go.Proofs.YtaongbhamadlkaaGreat
namespace X
def nb (n : Nat) : Nat := if n ≤ 4 then 4 else n * n / 4
theorem nb_mono {a b : Nat} (h : a ≤ b) : nb a ≤ nb b := by
  unfold nb
  by_cases c : b ≤ 4
  · rw [if_pos (by omega), if_pos c]; omega
  · rw [if_neg c]
    by_cases c2 : a ≤ 4
    · rw [if_pos c2]
      have : 4 * 4 ≤ b * b := Nat.mul_le_mul (by omega) (by omega)
      omega
    · rw [if_neg c2]
      have : a * a ≤ b * b := Nat.mul_le_mul h h
      omega
def nbs (n : Nat) : Nat → Nat
  | 0 => n
  | k + 1 => nb (nbs n k)
def kbs (K : Nat) : Nat → Nat
  | 0 => K
  | k + 1 => 4 * kbs K k + 1
theorem nbs_mono {a b : Nat} (h : a ≤ b) : ∀ k, nbs a k ≤ nbs b k
  | 0 => h
  | k + 1 => nb_mono (nbs_mono h k)
theorem kbs_le {K : Nat} : ∀ {k j : Nat}, k ≤ j → kbs K k ≤ kbs K j
  | k, 0, h => by rw [show k = 0 by omega]; exact Nat.le_refl _
  | k, j + 1, h => by
    by_cases c : k = j + 1
    · rw [c]; exact Nat.le_refl _
    · have := kbs_le (K := K) (k := k) (j := j) (by omega)
      rw [kbs]; omega
end X
end Go.Proofs.YtaongbhamadlkaaGreat
namespace Go.Proofs.YtaongbhamadlkaaGreat
open W Go.RowKit
def LSq (K w : Nat) (L : List X.Ln) : Prop := ∀ c ∈ L, c.1.length = w ∧ (∀ k, k < w → Sq K (X.co c k)) ∧ Sq K c.2
section
variable {K w k i : Nat} {L L2 : List X.Ln}
theorem getD_ln (h : i < L.length) : L.getD i ([], 0) ∈ L := by simp [List.getD_eq_getElem?_getD, h]
theorem LSq.ca (h : LSq K w L) (hi : i < L.length) (hk : k < w) : Sq K (X.ca L i k) := (h _ (getD_ln hi)).2.1 k hk
theorem LSq.cb (h : LSq K w L) (hi : i < L.length) : Sq K (X.cb L i) := (h _ (getD_ln hi)).2.2
theorem LSq.len (h : LSq K w L) : ∀ c ∈ L, c.1.length = w := fun c hc => (h c hc).1
theorem LSq.up {K2 : Nat} (h : LSq K w L) (hk : K ≤ K2) : LSq K2 w L := fun c hc => ⟨(h c hc).1, fun k hk' => ((h c hc).2.1 k hk').up hk, (h c hc).2.2.up hk⟩
theorem LSq.wo (h : LSq K w L) (hk : k < w) : LSq (4 * K + 1) w (X.wo L k) := fun c hc => by
  rcases X.wo_mem.1 hc with ⟨h1, _⟩ | ⟨a, ha, b, hb, _, _, rfl⟩
  · obtain ⟨e1, e2, e3⟩ := h c h1
    exact ⟨e1, fun k hk => (e2 k hk).up (by omega), e3.up (by omega)⟩
  · obtain ⟨a1, a2, a3⟩ := h a ha
    obtain ⟨b1, b2, b3⟩ := h b hb
    have hl : a.1.length = b.1.length := by rw [a1, b1]
    refine ⟨by rw [X.cmb_len hl, a1], fun j hj => ?_, ?_⟩
    · rw [X.co_cmb hl]
      exact (((a2 j hj).mul (b2 k hk).neg).add ((b2 j hj).mul (a2 k hk))).up (by omega)
    · exact ((a3.mul (b2 k hk).neg).add (b3.mul (a2 k hk))).up (by omega)
theorem LSq.wos (h : LSq K w L) : ∀ k, k ≤ w → LSq (X.kbs K k) w (X.wos L k)
  | 0, _ => h
  | k + 1, hk => LSq.wo (LSq.wos h k (by omega)) (by omega)
end
end Go.Proofs.YtaongbhamadlkaaGreat
namespace Go.Proofs.YtaongbhamadlkaaGreat
open W Go.RowKit
def smallP (x : Int) : Rat := Rat.divInt (around x 1099511627776 / 6 % (16 * (1 + around x 1099511627776 % 6) + 1) - 8 * (1 + around x 1099511627776 % 6)) (1 + around x 1099511627776 % 6)
namespace U
open Z
attribute [local irreducible] WC WL WD YO LO LoopEnd W.Fin Scalar SliceT FieldAt Row ArrT AllocT KnS Has W.One SrcE IntT
set_option maxHeartbeats 4000000 in
set_option maxRecDepth 60000 in
theorem small_c (x : Int) (hx : I64 x) : FnB Tryz.prog 28 [.int .i64 x] [] [] (IsR (smallP x)) := by
  refine fn_of [(0, (.int .i64 x))] 21 Tryz.func28 rfl Tryz.ntmps28 (by kernel_rfl) rfl suA fun h0 => ?_
  have h := around_lt (n := x) (m := 1099511627776) (by decide)
  repeat' (first | refine gA ?_ | (refine goG ?_; intro g) | (refine goV ?_; intro v))
  revert g; intro g1
  first | refine WL.callV (around_c x 1099511627776 hx (by decide)) ?_ | refine WD.callV (around_c x 1099511627776 hx (by decide)) ?_
  unfold smallP
  generalize around x 1099511627776 = a at *
  have h1 := Int.emod_nonneg (a / 6) (b := 16 * (1 + a % 6) + 1) (by omega)
  have h2 := Int.emod_lt_of_pos (a / 6) (b := 16 * (1 + a % 6) + 1) (by omega)
  repeat' (first | refine gA ?_ | (refine goG ?_; intro g) | (refine goV ?_; intro v))
  first | refine WL.callK (Zn.rof (a / 6 % (16 * (1 + a % 6) + 1) - 8 * (1 + a % 6)) (1 + a % 6) (by show _ < 1000000000000000000; omega) (by show _ < 1000000000000000000; omega)) ?_ | refine WD.callK (Zn.rof (a / 6 % (16 * (1 + a % 6) + 1) - 8 * (1 + a % 6)) (1 + a % 6) (by show _ < 1000000000000000000; omega) (by show _ < 1000000000000000000; omega)) ?_ | refine LO.callM (Zn.rof (a / 6 % (16 * (1 + a % 6) + 1) - 8 * (1 + a % 6)) (1 + a % 6) (by show _ < 1000000000000000000; omega) (by show _ < 1000000000000000000; omega)) ?_
  rintro _ _ _ ⟨m3, rfl, rfl, rfl⟩
  simp only [List.nil_append, List.cons_append]
  repeat' (first | refine gA ?_ | (refine goG ?_; intro g) | (refine goV ?_; intro v))
  refine WC.ret ?_
  exact Fin.p [] [isQ (qv m3) _] (ResE.cV rfl rfl meA T.r31 rfl) meA (List.nil_sublist _) haA ⟨m3, rfl, rfl, rfl⟩
end U
end Go.Proofs.YtaongbhamadlkaaGreat
namespace Go.Proofs.YtaongbhamadlkaaGreat
open W Go.RowKit
structure FMok (w n K : Nat) : Prop where
  n : ∀ k, k ≤ w → X.nbs n k ≤ 1000
  k : 2 * X.kbs K w ≤ 400000000
theorem FMok.at {w n K : Nat} (h : FMok w n K) {k : Nat} (hk : k < w) : 4 * X.kbs K k + 1 ≤ 400000000 := by
  have h1 := X.kbs_le (K := K) (show k + 1 ≤ w by omega)
  have h2 := h.k
  rw [X.kbs] at h1
  omega
end Go.Proofs.YtaongbhamadlkaaGreat
namespace Go.Proofs.YtaongbhamadlkaaGreat
open W Go.RowKit
theorem sq_div {p q : Int} (h1 : p.natAbs < 1000000000) (h2 : 0 < q) (h3 : q < 1000000000) : Sq 1 (Rat.divInt p q) := by
  obtain ⟨n, rfl⟩ : ∃ n : Nat, q = n := ⟨q.toNat, by omega⟩
  rw [Rat.divInt_ofNat]
  exact di_num _ _ (by omega) (digs_len_le (k := 1) (by omega)) (digs_len_le (k := 1) (by omega))
def someV (l : List Int) : Nat := 1 + (atP l 0 3).toNat
def someG (l : List Int) (k : Nat) : Rat := Rat.divInt (atP l (1 + (k : Int)) 7 - 3) 1
def someN (x : Int) : Int := around x 1073741824
def tabl : List Int := [0, 1, -1, 0, 2, -2, 1, 3, -3]
def someD (n : Int) : Nat → Int
  | 0 => n / 57
  | k + 1 => someD n k / 18
def someA (n : Int) (k : Nat) : Rat := Rat.divInt (tabl.getD (someD n k % 9).toNat 0) (1 + someD n k / 9 % 2)
def someB (n : Int) : Rat := Rat.divInt (n % 19 - 6) (1 + n / 19 % 3)
def someLn (v : Nat) (x : Int) : X.Ln := ((List.range v).map (someA (someN x)), someB (someN x))
def someL (l : List Int) (most : Nat) : List X.Ln := ((l.drop 4).take most).map (someLn (someV l))
def someP (l : List Int) (most : Nat) : X.Lp := X.lpOf (someV l) (someL l most) (someG l)
theorem someV_le (l : List Int) : 1 ≤ someV l ∧ someV l ≤ 3 := by
  have := atP_lt (l := l) (i := 0) (m := 3) (by decide)
  unfold someV; omega
theorem someD_le {n : Int} (h0 : 0 ≤ n) (h : n < 1073741824) : ∀ k, 0 ≤ someD n k ∧ someD n k < 1073741824
  | 0 => by unfold someD; omega
  | k + 1 => by have := someD_le h0 h k; unfold someD; omega
theorem tabl_le {i : Nat} : (tabl.getD i 0).natAbs ≤ 3 := by
  match i with
  | 0 | 1 | 2 | 3 | 4 | 5 | 6 | 7 | 8 => decide
  | i + 9 => show (0 : Int).natAbs ≤ 3; decide
theorem someG_sq (l : List Int) (k : Nat) : Sq 1 (someG l k) := by
  have := atP_lt (l := l) (i := 1 + (k : Int)) (m := 7) (by decide)
  exact sq_div (by omega) (by decide) (by decide)
theorem someN_le (x : Int) : 0 ≤ someN x ∧ someN x < 1073741824 := around_lt (by decide)
theorem someA_sq (x : Int) (k : Nat) : Sq 1 (someA (someN x) k) := by
  have h := someD_le (someN_le x).1 (someN_le x).2 k
  have := @tabl_le (someD (someN x) k % 9).toNat
  exact sq_div (by omega) (by omega) (by omega)
theorem someB_sq (x : Int) : Sq 1 (someB (someN x)) := by
  have h := someN_le x
  exact sq_div (by omega) (by omega) (by omega)
theorem someLn_co {v : Nat} {x : Int} {k : Nat} (hk : k < v) : X.co (someLn v x) k = someA (someN x) k := by
  unfold X.co someLn; simp [List.getD_eq_getElem?_getD, hk]
theorem someL_sq (l : List Int) (most : Nat) : LSq 1 (someV l) (someL l most) := fun c hc => by
  unfold someL at hc
  obtain ⟨x, _, rfl⟩ := List.mem_map.1 hc
  refine ⟨by simp [someLn], fun k hk => ?_, someB_sq x⟩
  rw [someLn_co hk]; exact someA_sq x k
theorem someL_len (l : List Int) (most : Nat) : (someL l most).length ≤ most := by
  unfold someL; rw [List.length_map, List.length_take]; omega
def IsPg (p : X.Lp) : RPost := fun v B G => ∃ M : Pm, v = pgv M p.v ∧ B = [] ∧ G = [fP M p]
theorem some_take {l : List Int} {v i : Nat} (h : 4 + i < l.length) : ((l.drop 4).take (i + 1)).map (someLn v) = ((l.drop 4).take i).map (someLn v) ++ [someLn v (l.getD (4 + i) 0)] := by
  have h2 : i < (l.drop 4).length := by rw [List.length_drop]; omega
  rw [List.take_succ_eq_append_getElem h2, List.map_append]
  congr 2
  rw [List.getElem_drop, List.getD_eq_getElem?_getD, List.getElem?_eq_getElem h]; rfl
namespace U
open Z
attribute [local irreducible] WC WL WD YO LO LoopEnd W.Fin Scalar SliceT FieldAt Row ArrT AllocT KnS Has W.One SrcE IntT
theorem d11 {G G' : Prop} (h : G') (s : Bx G' → G := by
  intro h
  first | (apply WC.draw (id := 5) [0, 1, 2, 3, 4, 6] (.held 0 (.held 1 (.held 2 (.held 3 (.held 4 (.loud 5 (.held 6 (.loud 7 (.loud 8 (.loud 9 (.loud 10 (.loud 11 (.done))))))))))))) mixed (by kernel_rfl)) | (apply WC.draw (id := 15) [0, 1, 3, 4, 7, 8, 9, 10] (.held 0 (.held 1 (.held 3 (.held 4 (.held 7 (.held 8 (.held 9 (.held 10 (.loud 2 (.loud 5 (.loud 6 (.loud 11 (.loud 12 (.loud 13 (.loud 14 (.loud 15 (.done))))))))))))))))) mixed (by kernel_rfl)) | fail
  exact Bx.h h) : G := s ⟨h⟩
structure MS where
  sv : Value
  M : Pm
set_option maxHeartbeats 8000000 in
set_option maxRecDepth 60000 in
theorem some_c (v0 : Value) (l : List Int) (most : Nat) (hl : ∀ x ∈ l, I64 x) (hm : most ≤ 100) : FnB Tryz.prog 11 [v0, .int .i64 (most : Int)] [] [sI v0 l] (IsPg (someP l most)) := by
  refine fn_of [(0, v0), (1, (.int .i64 (most : Int)))] 90 Tryz.func11 rfl Tryz.ntmps11 (by kernel_rfl) rfl suA fun h0 => ?_
  have hv := someV_le l
  have hat := atP_lt (l := l) (i := 0) (m := 3) (by decide)
  refine WC.addNil 60 5 ?_
  refine WC.addNil 31 4 ?_
  refine WC.lenI v0 l hmA fun hlen => ?_
  repeat' (first | refine gB ?_ | (refine gH ?_; intro g) | (refine gW ?_; intro v) | refine gY ?_ | refine d11 ?_ | fail)
  revert g; intro g4
  first | refine WL.callV (at_c v0 l 0 3 hl (by decide)) ?_ | refine WD.callV (at_c v0 l 0 3 hl (by decide)) ?_
  repeat' (first | refine gB ?_ | (refine gH ?_; intro g) | (refine gW ?_; intro v) | refine gY ?_ | refine d11 ?_ | fail)
  rw [show (1 : Int) + atP l 0 3 = ((someV l : Nat) : Int) by unfold someV; omega]
  revert g; intro g5
  refine WC.lp (σ := Nat × Value × (Nat → QM)) (fun st => [(6, .int .i64 (st.1 : Int)), (5, ptr g5), (4, ptr g4), (0, v0), (1, .int .i64 (most : Int))])
    (fun st => [Ow.cells g5 26 [.int .i64 (someV l : Int), .slice none 0 0, st.2.1], Ow.cells g4 26 [.int .i64 0, .slice none 0 0, .slice none 0 0], Ow.slice st.2.1 31 4 (qcells st.1 st.2.2), Ow.slice (.slice none 0 0) 60 5 []])
    (fun st => [mF st.1 st.2.2 (clx (someG l) st.1), ge h0, sI v0 l]) (fun st => st.1 ≤ someV l) (fun st => someV l - st.1) (0, .slice none 0 0, fun _ => m00) (Nat.zero_le _) ?_ (hG := .cons (W.Has.mFn _ _) sfA)
  rintro ⟨k, sv, ms⟩ hk
  simp only at hk ⊢
  by_cases c : k < someV l
  · have hak := atP_lt (l := l) (i := 1 + (k : Int)) (m := 7) (by decide)
    repeat' (first | refine gB ?_ | (refine gH ?_; intro g) | (refine gW ?_; intro v) | refine gY ?_ | refine d11 ?_ | fail)
    first | refine WL.callV (at_c v0 l (1 + (k : Int)) 7 hl (by decide)) ?_ | refine WD.callV (at_c v0 l (1 + (k : Int)) 7 hl (by decide)) ?_
    repeat' (first | refine gB ?_ | (refine gH ?_; intro g) | (refine gW ?_; intro v) | refine gY ?_ | refine d11 ?_ | fail)
    first | refine WL.callK (Zn.rof (atP l (1 + (k : Int)) 7 - 3) 1 (by show _ < 1000000000000000000; omega) (by decide)) ?_ | refine WD.callK (Zn.rof (atP l (1 + (k : Int)) 7 - 3) 1 (by show _ < 1000000000000000000; omega) (by decide)) ?_ | refine LO.callM (Zn.rof (atP l (1 + (k : Int)) 7 - 3) 1 (by show _ < 1000000000000000000; omega) (by decide)) ?_
    rintro _ _ _ ⟨m3, rfl, rfl, rfl⟩
    simp only [List.nil_append, List.cons_append]
    refine WD.fact (mF (k + 1) (upd ms k m3) (clx (someG l) (k + 1))) ((W.Has.mFapp (n := k) (ms := ms) (m := m3) (qf := clx _ k) hmA (show Has _ (isQ (qv m3) (someG l k)) from hmA)).mFsame fun j hj => clx_up (c := someG l) j) ?_
    repeat' (first | refine gB ?_ | (refine gH ?_; intro g) | (refine gW ?_; intro v) | refine gY ?_ | refine d11 ?_ | fail)
    exact LoopEnd.mk (k + 1, _, _) (by show k + 1 ≤ someV l; omega) (by show someV l - (k + 1) < someV l - k; omega)
  · obtain rfl : k = someV l := by omega
    refine WC.freezeF sv (someV l) ms (someG l) (by repeat (first | exact Sel.head | apply Sel.tail)) (W.Has.mFsame (qf := clx (someG l) (someV l)) hmA fun j hj => by unfold clx; rw [if_pos hj]) ?_
    have hnI : min most (l.length - 4) ≤ most := Nat.min_le_left _ _
    repeat' (first | refine gB ?_ | (refine gH ?_; intro g) | (refine gW ?_; intro v) | refine gY ?_ | refine d11 ?_ | fail)
    refine WC.lp (σ := Nat × MS) (fun st => [(7, .int .i64 ((4 + st.1 : Nat) : Int)), (5, ptr g5), (4, ptr g4), (0, v0), (1, .int .i64 (most : Int))])
      (fun st => [Ow.cells g5 26 [.int .i64 (someV l : Int), st.2.sv, sv], Ow.cells g4 26 [.int .i64 0, .slice none 0 0, .slice none 0 0], Ow.slice st.2.sv 60 5 (lncells st.1 st.2.M)])
      (fun st => [lnQ st.2.M (someV l) (((l.drop 4).take st.1).map (someLn (someV l))), fF sv (someV l) ms (someG l), ge h0, sI v0 l]) (fun st => st.1 ≤ min most (l.length - 4)) (fun st => min most (l.length - 4) - st.1) (0, ⟨.slice none 0 0, Pm.no⟩) (Nat.zero_le _) ?_ (hG := .cons W.Has.lnn sfA)
    rintro ⟨i, so, N⟩ hi
    simp only at hi ⊢
    have hll : (((l.drop 4).take i).map (someLn (someV l))).length = i := by
      rw [List.length_map, List.length_take, List.length_drop]; omega
    by_cases c : i < min most (l.length - 4)
    · have c1 : 4 + i < l.length := by omega
      have c2 : i < most := by omega
      have hst := some_take (v := someV l) c1
      have hn := someN_le (l.getD (4 + i) 0)
      refine WC.addNil 31 4 ?_
      repeat' (first | refine gB ?_ | (refine gH ?_; intro g) | (refine gW ?_; intro v) | refine gY ?_ | refine d11 ?_ | fail)
      first | refine WL.callV (around_c (l.getD (4 + i) 0) 1073741824 (getD_i64 hl _) (by decide)) ?_ | refine WD.callV (around_c (l.getD (4 + i) 0) 1073741824 (getD_i64 hl _) (by decide)) ?_
      rw [show around (l.getD (4 + i) 0) 1073741824 = someN (l.getD (4 + i) 0) from rfl]
      repeat' (first | refine gB ?_ | (refine gH ?_; intro g) | (refine gW ?_; intro v) | refine gY ?_ | refine d11 ?_ | fail)
      generalize hnn : someN (l.getD (4 + i) 0) = n at *
      first | refine WL.callK (Zn.rof (n % 19 - 6) (1 + n / 19 % 3) (by show _ < 1000000000000000000; omega) (by show _ < 1000000000000000000; omega)) ?_ | refine WD.callK (Zn.rof (n % 19 - 6) (1 + n / 19 % 3) (by show _ < 1000000000000000000; omega) (by show _ < 1000000000000000000; omega)) ?_ | refine LO.callM (Zn.rof (n % 19 - 6) (1 + n / 19 % 3) (by show _ < 1000000000000000000; omega) (by show _ < 1000000000000000000; omega)) ?_
      rintro _ _ _ ⟨mb, rfl, rfl, rfl⟩
      simp only [List.nil_append, List.cons_append]
      refine WL.fact' (isQ (qv mb) (someB n)) hmA ?_
      repeat' (first | refine gB ?_ | (refine gH ?_; intro g) | (refine gW ?_; intro v) | refine gY ?_ | refine d11 ?_ | fail)
      revert g; intro g9
      refine WC.lp (σ := Nat × Value × (Nat → QM)) (fun st => [(10, .int .i64 (st.1 : Int)), (8, .int .i64 (someD n st.1)), (9, ptr g9), (7, .int .i64 ((4 + i : Nat) : Int)), (5, ptr g5), (4, ptr g4), (0, v0), (1, .int .i64 (most : Int))])
        (fun st => [Ow.cells g9 60 (st.2.1 :: qcs mb), Ow.slice st.2.1 31 4 (qcells st.1 st.2.2), Ow.cells g5 26 [.int .i64 (someV l : Int), so, sv], Ow.cells g4 26 [.int .i64 0, .slice none 0 0, .slice none 0 0], Ow.slice so 60 5 (lncells i N)])
        (fun st => [mF st.1 st.2.2 (clx (someA n) st.1), isQ (qv mb) (someB n), lnQ N (someV l) (((l.drop 4).take i).map (someLn (someV l))), fF sv (someV l) ms (someG l), ge h0, sI v0 l]) (fun st => st.1 ≤ someV l) (fun st => someV l - st.1) (0, .slice none 0 0, fun _ => m00) (Nat.zero_le _) ?_ (hG := .cons (W.Has.mFn _ _) sfA)
      rintro ⟨k, sa, ma⟩ hk
      simp only at hk ⊢
      have hd := someD_le hn.1 hn.2 k
      by_cases ck : k < someV l
      · have ht := @tabl_le (someD n k % 9).toNat
        repeat' (first | refine gB ?_ | (refine gH ?_; intro g) | (refine gW ?_; intro v) | refine gY ?_ | refine d11 ?_ | fail)
        refine WD.perm (Ow.slice v 3 1 (ints tabl) :: _) (List.Perm.refl _) ?_
        have htl : (tabl.length : Int) = 9 := rfl
        have htn : tabl.length = 9 := rfl
        repeat' (first | refine gB ?_ | (refine gH ?_; intro g) | (refine gW ?_; intro v) | refine gY ?_ | refine d11 ?_ | fail)
        first | refine WL.callK (Zn.rof (tabl.getD (someD n k % 9).toNat 0) (1 + someD n k / 9 % 2) (by show _ < 1000000000000000000; omega) (by show _ < 1000000000000000000; omega)) ?_ | refine WD.callK (Zn.rof (tabl.getD (someD n k % 9).toNat 0) (1 + someD n k / 9 % 2) (by show _ < 1000000000000000000; omega) (by show _ < 1000000000000000000; omega)) ?_ | refine LO.callM (Zn.rof (tabl.getD (someD n k % 9).toNat 0) (1 + someD n k / 9 % 2) (by show _ < 1000000000000000000; omega) (by show _ < 1000000000000000000; omega)) ?_
        rintro _ _ _ ⟨m3, rfl, rfl, rfl⟩
        simp only [List.nil_append, List.cons_append]
        refine WD.fact (mF (k + 1) (upd ma k m3) (clx (someA n) (k + 1))) ((W.Has.mFapp (n := k) (ms := ma) (m := m3) (qf := clx _ k) hmA (show Has _ (isQ (qv m3) (someA n k)) from hmA)).mFsame fun j hj => clx_up (c := someA n) j) ?_
        repeat' (first | refine gB ?_ | (refine gH ?_; intro g) | (refine gW ?_; intro v) | refine gY ?_ | refine d11 ?_ | fail)
        exact LoopEnd.mk (k + 1, _, _) (by show k + 1 ≤ someV l; omega) (by show someV l - (k + 1) < someV l - k; omega)
      · obtain rfl : k = someV l := by omega
        refine WC.freezeF sa (someV l) ma (X.co (someLn (someV l) (l.getD (4 + i) 0))) (by repeat (first | exact Sel.head | apply Sel.tail)) (W.Has.mFsame (qf := clx (someA n) (someV l)) hmA fun j hj => by rw [someLn_co hj, hnn]; unfold clx; rw [if_pos hj]) ?_
        refine WC.fact (lnQ (N.app i sa ma mb) (someV l) (((l.drop 4).take (i + 1)).map (someLn (someV l)))) (by
          have h := fun F h1 h2 h3 => W.Has.lnapp (F := F) (M := N) (w := someV l) (L := ((l.drop 4).take i).map (someLn (someV l))) (a := sa) (ma := ma) (b := mb) h1 (someLn (someV l) (l.getD (4 + i) 0)) h2 h3
          rw [hll] at h
          rw [hst]
          refine h _ hmA hmA ?_
          show Has _ (isQ (qv mb) (someB (someN (l.getD (4 + i) 0))))
          rw [hnn]; exact hmA) ?_
        repeat' (first | refine gB ?_ | (refine gH ?_; intro g) | (refine gW ?_; intro v) | refine gY ?_ | refine d11 ?_ | fail)
        exact LoopEnd.mk (i + 1, ⟨_, _⟩) (by show i + 1 ≤ min most (l.length - 4); omega) (by show min most (l.length - 4) - (i + 1) < min most (l.length - 4) - i; omega)
    · obtain rfl : i = min most (l.length - 4) := by omega
      have hS : ((l.drop 4).take (min most (l.length - 4))).map (someLn (someV l)) = someL l most := by
        unfold someL
        congr 1
        rw [List.take_eq_take_iff, List.length_drop]; omega
      have hi2 : (someL l most).length = min most (l.length - 4) := by rw [← hS]; exact hll
      rw [hS, ← hi2]
      clear hll hS
      refine WC.freezeLn so N (someV l) (someL l most) (by repeat (first | exact Sel.head | apply Sel.tail)) hmA ?_
      refine WC.fact (fP ((N.at so).wg sv ms) (someP l most)) (W.Has.lnp (W.Has.lnwg (M := N.at so) hmA) (show Has _ (fF sv (someV l) ms (someG l)) from hmA)) ?_
      by_cases c1 : 4 + (someL l most).length < l.length
      · have c2 : ¬ (someL l most).length < most := by omega
        repeat' (first | refine gB ?_ | (refine gH ?_; intro g) | (refine gW ?_; intro v) | refine gY ?_ | refine d11 ?_ | fail)
        exact WC.ret (Fin.p [] [fP ((N.at so).wg sv ms) (someP l most)] (ResE.cV rfl rfl meA T.r26 rfl) meA (List.nil_sublist _) haA ⟨(N.at so).wg sv ms, rfl, rfl, rfl⟩)
      · repeat' (first | refine gB ?_ | (refine gH ?_; intro g) | (refine gW ?_; intro v) | refine gY ?_ | refine d11 ?_ | fail)
        exact WC.ret (Fin.p [] [fP ((N.at so).wg sv ms) (someP l most)] (ResE.cV rfl rfl meA T.r26 rfl) meA (List.nil_sublist _) haA ⟨(N.at so).wg sv ms, rfl, rfl, rfl⟩)
end U
end Go.Proofs.YtaongbhamadlkaaGreat
namespace Go.Proofs.YtaongbhamadlkaaGreat
open W Go.RowKit
def szK (m K0 : Nat) : Nat := 5 ^ m * K0
def szL (m K0 : Nat) : Nat := m * (K0 + szK m K0 + 1) + 1 + K0 + 1
def szR (v m K0 : Nat) : Nat := szL m K0 + (2 * szK m K0 + 1) + (v * (2 * (2 * szK m K0 + 1) + 1) + 1)
structure Fits (v m K0 : Nat) : Prop where
  l : szL m K0 ≤ 20000000
  d : v * (2 * (2 * szK m K0 + 1) + 1) + 1 + 2 * (2 * szK m K0 + 1) ≤ 400000000
  v : v ≤ 48
  m : m ≤ 128
  k : 0 < K0
theorem szK_le (m K0 : Nat) : szK m K0 ≤ szL m K0 := by
  unfold szL
  cases m with
  | zero => unfold szK; simp; omega
  | succ m =>
    have : 1 * (K0 + szK (m + 1) K0 + 1) ≤ (m + 1) * (K0 + szK (m + 1) K0 + 1) := Nat.mul_le_mul_right _ (by omega)
    omega
theorem szs_of {v m K0 : Nat} {L : List X.Ln} {g : Nat → Rat} (hf : Fits v m K0) (hL : LSq K0 v L) (hm : L.length ≤ m) (hg : ∀ k, k < v → Sq K0 (g k)) : X.Szs (X.lpOf v L g) K0 (szK m K0) (szL m K0) where
  pos := hf.k
  a := fun r hr k hk => hL.ca hr hk
  b := fun r hr => hL.cb hr
  g := hg
  k := Nat.mul_le_mul_right _ (Nat.pow_le_pow_right (by decide) hm)
  l := by
    have := Nat.mul_le_mul_right (K0 + szK m K0 + 1) hm
    show L.length * (K0 + szK m K0 + 1) + 1 + K0 + 1 ≤ szL m K0
    unfold szL; omega
  t := hf.l
  kl := szK_le m K0
  d := hf.d
theorem solveL_c (M : Pm) {v m K0 : Nat} {L : List X.Ln} {g : Nat → Rat} (hf : Fits v m K0) (hL : LSq K0 v L) (hm : L.length ≤ m) (hg : ∀ k, k < v → Sq K0 (g k)) : FnB Tryz.prog 12 [pgv M v] [] [fP M (X.lpOf v L g)] (IsAns (X.lpOf v L g) (szR v m K0)) :=
  Z.solve_c M (X.lpOf v L g) K0 (szK m K0) (szL m K0) (szR v m K0) (szs_of hf hL hm hg) hf.v (Nat.le_trans hm hf.m) (by unfold szR; omega) (by unfold szR; omega) (by show v * _ + 1 ≤ _; unfold szR; omega)
theorem AnsP.sem {p : X.Lp} {kind xn yn : Nat} {x y : Nat → Rat} {z : Rat} (h : AnsP p kind xn yn x y z) : X.Sem p kind z := by
  rcases h with ⟨rfl, _, _, rfl, h⟩ | ⟨rfl, _, _, h⟩ | ⟨rfl, _, _, rfl, h⟩
  · exact X.Sem.inf h
  · exact X.Sem.opt h
  · exact X.Sem.unb h
theorem Dok.le {n m K : Nat} (h : Dok m K) (hn : n ≤ m) : Dok n K := by
  unfold Dok at *
  have := Nat.mul_le_mul_right (2 * K + 1) hn
  omega
theorem checkL_c (M : Pm) (N : Am) {v m K0 R xn yn : Nat} {L : List X.Ln} {g x y : Nat → Rat} {z : Rat} {kind : Int} (hf : Fits v m K0) (hL : LSq K0 v L) (hm : L.length ≤ m) (hg : ∀ k, k < v → Sq K0 (g k)) (hR : K0 ≤ R) (hd : Dok v R) (hd2 : Dok m R) (hx : ∀ k, k < xn → Sq R (x k)) (hy : ∀ k, k < yn → Sq R (y k)) :
    FnB Tryz.prog 15 [pgv M v, agv N kind] [] [fP M (X.lpOf v L g), fA N xn yn x y z] (IsV (.int .i64 (if rightP (X.lpOf v L g) kind xn yn x y z = true then 0 else 22))) :=
  Z.check_c M (X.lpOf v L g) N R xn yn x y z kind hd (hd2.le hm) hf.v (Nat.le_trans hm hf.m) (Nat.lt_of_lt_of_le hf.k hR) (fun r hr k hk => (hL.ca hr hk).up hR) (fun r hr => (hL.cb hr).up hR) (fun k hk => (hg k hk).up hR) hx hy
def selT (L : List X.Ln) (p : Nat → Bool) (i : Nat) : List X.Ln := ((List.range i).filter p).map fun j => L.getD j ([], 0)
def keepP (gs l : List Int) (i : Nat) : Bool := decide (gs.getD i 0 < 0 ∨ gs.getD i 0 ∈ l)
def contP (v : Nat) (L : List X.Ln) (gs l : List Int) : Bool := !X.feasP (selT L (keepP gs l) L.length) v
section
variable {L : List X.Ln} {p : Nat → Bool} {i K v : Nat}
theorem selT_up : selT L p (i + 1) = selT L p i ++ if p i = true then [L.getD i ([], 0)] else [] := by
  unfold selT
  rw [List.range_succ, List.filter_append, List.map_append]
  congr 1
  simp only [List.filter_cons, List.filter_nil]
  split <;> rfl
theorem selT_len : (selT L p i).length ≤ i := by
  unfold selT
  rw [List.length_map]
  exact Nat.le_trans (List.length_filter_le _ _) (by rw [List.length_range]; exact Nat.le_refl _)
theorem selT_sq (h : LSq K v L) (hi : i ≤ L.length) : LSq K v (selT L p i) := fun c hc => by
  unfold selT at hc
  obtain ⟨j, hj, rfl⟩ := List.mem_map.1 hc
  have := List.mem_range.1 (List.mem_filter.1 hj).1
  exact h _ (getD_ln (by omega))
end
theorem Sem.cont {v : Nat} {L : List X.Ln} {g : Nat → Rat} {k : Int} {z : Rat} (hw : ∀ c ∈ L, c.1.length = v) (h : X.Sem (X.lpOf v L g) k z) : (!X.feasP L v) = decide (k = 1) := by
  have h1 := h.one
  have h2 := X.feas_iff hw
  cases hf : X.feasP L v with
  | true =>
    obtain ⟨x, hx⟩ := h2.1 hf
    rw [decide_eq_false fun hk => h1.1 hk ⟨x, X.pt_of.2 hx⟩]; rfl
  | false =>
    rw [decide_eq_true (h1.2 fun ⟨x, hx⟩ => by rw [h2.2 ⟨x, X.pt_of.1 hx⟩] at hf; cases hf)]; rfl
namespace U
open Z
attribute [local irreducible] WC WL WD YO LO LoopEnd W.Fin Scalar SliceT FieldAt Row ArrT AllocT KnS Has W.One SrcE IntT
theorem d85 {G G' : Prop} (h : G') (s : Bx G' → G := by
  intro h
  first | (apply WC.draw (id := 1) [0, 1, 2, 3] (.held 0 (.held 1 (.held 2 (.held 3 (.more 4 (.more 5 (.loud 6 (.loud 7 (.done))) (.loud 6 (.loud 5 (.loud 7 (.done))))) (.loud 6 (.loud 4 (.loud 5 (.loud 7 (.done)))))))))) mixed (by kernel_rfl)) | fail
  exact Bx.h h) : G := s ⟨h⟩
structure US where
  n : Nat
  sv : Value
  M : Pm
set_option maxHeartbeats 8000000 in
set_option maxRecDepth 60000 in
theorem contradictory_c (M : Pm) (K0 m vn : Nat) (L : List X.Ln) (gf : Nat → Rat) (gs l : List Int) (ug vl : Value) (hf : Fits vn m K0) (hL : LSq K0 vn L) (hm : L.length ≤ m) (hgs : gs.length = L.length) :
    FnB Tryz.prog 85 [pgv M vn, ug, vl] [] [fP M (X.lpOf vn L gf), sI ug gs, sI vl l] (IsV (.bool (contP vn L gs l))) := by
  refine fn_of [(0, (pgv M vn)), (1, ug), (2, vl)] 54 Tryz.func85 rfl Tryz.ntmps85 (by kernel_rfl) rfl suA fun h0 => ?_
  have hv := hf.v
  have hm2 := hf.m
  refine WC.fact (fLn M vn L) (W.Has.pL (g := gf) hmA) ?_
  refine WC.fact (mF vn (fun _ => m00) (fun _ => 0)) (W.Has.mF0 _) ?_
  repeat' (first | refine gA ?_ | (refine goG ?_; intro g) | (refine goV ?_; intro v))
  revert g; intro g3
  refine WC.cutP (σ := Nat × Value) (fun st => [(7, ptr st.1), (3, ptr g3), (1, ug), (2, vl)]) (fun st => [Ow.cells st.1 26 [.int .i64 (vn : Int), .slice none 0 0, st.2], Ow.slice st.2 31 4 (qcells vn fun _ => m00), Ow.cells g3 26 (pcs M vn)])
    (fun st => [mF vn (fun _ => m00) (fun _ => 0), fLn M vn L, ge h0, sI ug gs, sI vl l]) (fun _ => True) ?_ ?_
  · repeat' (first | refine gM ?_ | (refine gI ?_; intro g) | (refine gU ?_; intro v) | refine gN ?_ ?_ | refine gY ?_ | refine d85 ?_ | fail)
    all_goals (apply Ex2; refine ⟨trivial, ?_, ?_, ?_⟩; (focus (repeat (first | exact Sub.nil _ | refine Sub.cons rfl ?_))); (focus (repeat (first | exact SubP.nil _ | (apply SubP.cons; (repeat (first | exact Rem.head | apply Rem.tail)))))); (focus (repeat (first | exact HasAll.nil | (apply HasAll.cons; exact hsA)))))
  rintro ⟨g7, gv⟩ _
  simp only
  refine WC.freezeF gv vn (fun _ => m00) (fun _ => 0) (by repeat (first | exact Sel.head | apply Sel.tail)) hmA ?_
  refine WC.addNil 60 5 ?_
  repeat' (first | refine gM ?_ | (refine gI ?_; intro g) | (refine gU ?_; intro v) | refine gN ?_ ?_ | refine gY ?_ | refine d85 ?_ | fail)
  refine WC.lp (σ := Nat × US) (fun st => [(21, .int .i64 (st.1 : Int)), (20, .int .i64 (L.length : Int)), (19, M.lv), (1, ug), (2, vl), (7, ptr g7)])
    (fun st => [Ow.slice st.2.sv 60 5 (lncells st.2.n st.2.M), Ow.cells g7 26 [.int .i64 (vn : Int), st.2.sv, gv]])
    (fun st => [lnQ st.2.M vn (selT L (keepP gs l) st.1), fF gv vn (fun _ => m00) (fun _ => 0), fLn M vn L, ge h0, sI ug gs, sI vl l]) (fun st => st.1 ≤ L.length ∧ st.2.n = (selT L (keepP gs l) st.1).length) (fun st => L.length - st.1) (0, ⟨0, .slice none 0 0, Pm.no⟩) ⟨Nat.zero_le _, rfl⟩ ?_ (hG := .cons W.Has.lnn sfA)
  rintro ⟨i, n, sv, N⟩ ⟨hi, hn⟩
  simp only at hi hn ⊢
  have hsl := selT_len (L := L) (p := keepP gs l) (i := i)
  by_cases c : i < L.length
  · have hup := selT_up (L := L) (p := keepP gs l) (i := i)
    refine WC.fact (fF (M.av i) vn (M.ma i) (X.ca L i)) (W.Has.lna (W.Has.lnq (M := M) hmA) c) ?_
    refine WC.fact (isQ (qv (M.mb i)) (X.cb L i)) (W.Has.lnb (W.Has.lnq (M := M) hmA) c) ?_
    have take : keepP gs l i = true → Has [isQ (qv (M.mb i)) (X.cb L i), fF (M.av i) vn (M.ma i) (X.ca L i), lnQ N vn (selT L (keepP gs l) i), fF gv vn (fun _ => m00) (fun _ => 0), fLn M vn L, ge h0, sI ug gs, sI vl l] (lnQ (N.app n (M.av i) (M.ma i) (M.mb i)) vn (selT L (keepP gs l) (i + 1))) := fun hk => by
      rw [hup, if_pos hk, hn]
      exact W.Has.lnapp hmA (L.getD i ([], 0)) (show Has _ (fF (M.av i) vn (M.ma i) (X.ca L i)) from hmA) (show Has _ (isQ (qv (M.mb i)) (X.cb L i)) from hmA)
    have tl : keepP gs l i = true → n + 1 = (selT L (keepP gs l) (i + 1)).length := fun hk => by rw [hup, if_pos hk, List.length_append, hn]; rfl
    have leave : keepP gs l i = false → selT L (keepP gs l) (i + 1) = selT L (keepP gs l) i := fun hk => by rw [hup, if_neg (by rw [hk]; decide), List.append_nil]
    by_cases c1 : gs.getD i 0 < 0
    · have hk : keepP gs l i = true := decide_eq_true (.inl c1)
      refine WC.fact _ (take hk) ?_
      repeat' (first | refine gM ?_ | (refine gI ?_; intro g) | (refine gU ?_; intro v) | refine gN ?_ ?_ | refine gY ?_ | refine d85 ?_ | fail)
      exact LoopEnd.mk (i + 1, ⟨n + 1, _, _⟩) ⟨c, tl hk⟩ (by show L.length - (i + 1) < L.length - i; omega)
    · repeat' (first | refine gM ?_ | (refine gI ?_; intro g) | (refine gU ?_; intro v) | refine gN ?_ ?_ | refine gY ?_ | refine d85 ?_ | fail)
      first | refine WL.callV (containsI_c vl l (gs.getD i 0)) ?_ | refine WD.callV (containsI_c vl l (gs.getD i 0)) ?_
      by_cases c2 : gs.getD i 0 ∈ l
      · have hk : keepP gs l i = true := decide_eq_true (.inr c2)
        rw [decide_eq_true c2]
        repeat' (first | refine gM ?_ | (refine gI ?_; intro g) | (refine gU ?_; intro v) | refine gN ?_ ?_ | refine gY ?_ | refine d85 ?_ | fail)
        exact LoopEnd.mk (i + 1, ⟨n + 1, _, N.app n (M.av i) (M.ma i) (M.mb i)⟩) ⟨c, tl hk⟩ (by show L.length - (i + 1) < L.length - i; omega) (hG := .cons (take hk) sfA)
      · have hk : keepP gs l i = false := decide_eq_false fun h => h.elim c1 c2
        rw [decide_eq_false c2]
        repeat' (first | refine gM ?_ | (refine gI ?_; intro g) | (refine gU ?_; intro v) | refine gN ?_ ?_ | refine gY ?_ | refine d85 ?_ | fail)
        exact LoopEnd.mk (i + 1, ⟨n, sv, N⟩) ⟨c, by rw [leave hk]; exact hn⟩ (by show L.length - (i + 1) < L.length - i; omega) (hG := .cons (by show Has _ (lnQ N vn (selT L (keepP gs l) (i + 1))); rw [leave hk]; exact hmA) sfA)
  · obtain rfl : i = L.length := by omega
    have hS : LSq K0 vn (selT L (keepP gs l) L.length) := selT_sq hL (Nat.le_refl _)
    have hc : contP vn L gs l = !X.feasP (selT L (keepP gs l) L.length) vn := rfl
    rw [hc]
    generalize selT L (keepP gs l) L.length = S at *
    subst hn
    repeat' (first | refine gM ?_ | (refine gI ?_; intro g) | (refine gU ?_; intro v) | refine gN ?_ ?_ | refine gY ?_ | refine d85 ?_ | fail)
    refine WL.freezeLn sv N vn S (by repeat (first | exact Sel.head | apply Sel.tail)) hmA ?_
    refine WL.fact' (fP ((N.at sv).wg gv fun _ => m00) (X.lpOf vn S fun _ => 0)) (W.Has.lnp (W.Has.lnwg (M := N.at sv) hmA) (show Has _ (fF gv vn (fun _ => m00) (fun _ => 0)) from hmA)) ?_
    refine WL.callK (solveL_c ((N.at sv).wg gv fun _ => m00) hf hS (by omega) (fun k _ => Sq.zero.up hf.k)) ?_
    rintro _ _ _ ⟨Na, kind, xn, yn, x, y, z, rfl, rfl, rfl, hans, _, _, _⟩
    simp only [List.nil_append, List.cons_append]
    rw [Sem.cont hS.len hans.sem]
    refine WL.fact' (fF Na.xv xn Na.mx x) (W.Has.ax (M := Na) (xn := xn) (yn := yn) (x := x) (y := y) (z := z) hmA) ?_
    refine WL.fact' (fF Na.yv yn Na.my y) (W.Has.ay (M := Na) (xn := xn) (yn := yn) (x := x) (y := y) (z := z) hmA) ?_
    refine WL.fact' (isQ (qv Na.mz) z) (W.Has.az (M := Na) (xn := xn) (yn := yn) (x := x) (y := y) (z := z) hmA) ?_
    by_cases ck : (kind : Int) = 1
    · rw [decide_eq_true ck]
      repeat' (first | refine gM ?_ | (refine gI ?_; intro g) | (refine gU ?_; intro v) | refine gN ?_ ?_ | refine gY ?_ | refine d85 ?_ | fail)
      exact WC.ret (Fin.v (ResE.t1 rfl rfl) meA rfl)
    · rw [decide_eq_false ck]
      repeat' (first | refine gM ?_ | (refine gI ?_; intro g) | (refine gU ?_; intro v) | refine gN ?_ ?_ | refine gY ?_ | refine d85 ?_ | fail)
      exact WC.ret (Fin.v (ResE.t1 rfl rfl) meA rfl)
end U
end Go.Proofs.YtaongbhamadlkaaGreat
namespace Go.Proofs.YtaongbhamadlkaaGreat
open W Go.RowKit
def coreLs (gs : List Int) : List Int := Lib.compact (srt (gs.filter fun x => !decide (x < 0)))
def coreSt (v : Nat) (L : List X.Ln) (gs l : List Int) (x : Int) : List Int := if contP v L gs (l.filter fun y => !decide (y = x)) = true then l.filter fun y => !decide (y = x) else l
def corS (v : Nat) (L : List X.Ln) (gs : List Int) : List Int × Int :=
  if gs.length = L.length ∧ gs.any (fun x => decide (x < -1)) = false then
    (if contP v L gs (coreLs gs) = true then ((coreLs gs).foldl (coreSt v L gs) (coreLs gs), 0) else ([], 6))
  else ([], 1)
def IsLE (r : List Int × Int) : RPost := fun v B G => ∃ u, v = .tuple #[u, .int .i64 r.2] ∧ B = [] ∧ G = [sI u r.1]
theorem coreLs_len (gs : List Int) : (coreLs gs).length ≤ gs.length := Nat.le_trans (compact_le _) (by rw [srt_len]; exact List.length_filter_le _ _)
theorem coreSt_len (v : Nat) (L : List X.Ln) (gs : List Int) : ∀ xs l : List Int, (xs.foldl (coreSt v L gs) l).length ≤ l.length
  | [], _ => Nat.le_refl _
  | x :: xs, l => Nat.le_trans (coreSt_len v L gs xs _) (by
    unfold coreSt
    split
    · exact List.length_filter_le _ _
    · exact Nat.le_refl _)
theorem nilI {F : List Fct} : Has F (sI (.slice none 0 0) []) := fun _ _ => ⟨none, 0, rfl, Nat.le_refl _, by unfold maxLen; simp, .inl ⟨rfl, rfl, rfl⟩⟩
namespace U
open Z
attribute [local irreducible] WC WL WD YO LO LoopEnd W.Fin Scalar SliceT FieldAt Row ArrT AllocT KnS Has W.One SrcE IntT
set_option maxHeartbeats 8000000 in
set_option maxRecDepth 60000 in
theorem core_c (M : Pm) (K0 m vn : Nat) (L : List X.Ln) (gf : Nat → Rat) (gs : List Int) (ug : Value) (hf : Fits vn m K0) (hL : LSq K0 vn L) (hm : L.length ≤ m) :
    FnB Tryz.prog 22 [pgv M vn, ug] [] [fP M (X.lpOf vn L gf), sI ug gs] (IsLE (corS vn L gs)) := by
  refine fn_of [(0, (pgv M vn)), (1, ug)] 56 Tryz.func22 rfl Tryz.ntmps22 (by kernel_rfl) rfl suA fun h0 => ?_
  have hv := hf.v
  have hm2 := hf.m
  have bad : ∀ {F : List Fct} {e : Int}, corS vn L gs = ([], e) → HasAll F [sI (.slice none 0 0) (corS vn L gs).1] := fun h => .cons (by rw [h]; exact nilI) .nil
  refine WC.fact (fLn M vn L) (W.Has.pL (g := gf) hmA) ?_
  refine WC.lenI ug gs hmA fun hug => ?_
  repeat' (first | refine gA ?_ | (refine goG ?_; intro g) | (refine goV ?_; intro v))
  revert g; intro gb
  refine WL.callV (valid_c M L.length vn (fun _ => vn) (X.ca L) (X.cb L) gf vn) ?_ (hF := .cons (.f (show Has _ (fP M (X.lpOf vn L gf)) from hmA)) .nil)
  rw [show vldP (vn : Int) L.length vn (fun _ => vn) = 0 from vldP_ok (p := X.lpOf vn L gf) hv (Nat.le_trans hm hm2)]
  by_cases c1 : gs.length = L.length
  · repeat' (first | refine gA ?_ | (refine goG ?_; intro g) | (refine goV ?_; intro v))
    refine WL.callV (containsFI_c ug gs 79 [] [] (fun x => decide (x < -1)) core1_c) (hF := .cons (HasB.f hmA) .nil) ?_
    cases c2 : gs.any fun x => decide (x < -1) with
    | true =>
      have hc : corS vn L gs = ([], 1) := if_neg (fun h => by rw [c2] at h; exact Bool.noConfusion h.2)
      repeat' (first | refine gA ?_ | (refine goG ?_; intro g) | (refine goV ?_; intro v))
      exact WC.ret (Fin.p [] [sI (.slice none 0 0) (corS vn L gs).1] (ResE.t2 rfl rfl rfl) meA (List.nil_sublist _) (bad hc) ⟨_, by rw [hc], rfl, rfl⟩)
    | false =>
      have hcor : corS vn L gs = if contP vn L gs (coreLs gs) = true then ((coreLs gs).foldl (coreSt vn L gs) (coreLs gs), 0) else ([], 6) := if_pos ⟨c1, c2⟩
      have hgl : gs.length ≤ 1000000 := by omega
      have hfl : (gs.filter fun x => !decide (x < 0)).length ≤ 1000000 := Nat.le_trans (List.length_filter_le _ _) hgl
      repeat' (first | refine gA ?_ | (refine goG ?_; intro g) | (refine goV ?_; intro v))
      first | refine WL.callO (cloneI_c ug gs hgl) (fun rv => ?_) | refine WD.callO (cloneI_c ug gs hgl) (fun rv => ?_)
      repeat' (first | refine gA ?_ | (refine goG ?_; intro g) | (refine goV ?_; intro v))
      refine WL.callG [Ow.slice rv 3 1 (ints gs)] _ (.refl _) (U.delNeg_c rv gs hgl) ?_
      rintro rd bb GG ⟨rfl, rfl⟩
      simp only [List.nil_append, List.cons_append]
      repeat' (first | refine gA ?_ | (refine goG ?_; intro g) | (refine goV ?_; intro v))
      refine WL.callG [Ow.slice rd 3 1 (ints (gs.filter fun x => !decide (x < 0)))] _ (.refl _) (sort_c rd _ hfl) ?_
      rintro _ bb GG ⟨rfl, rfl, rfl⟩
      simp only [List.nil_append, List.cons_append]
      repeat' (first | refine gA ?_ | (refine goG ?_; intro g) | (refine goV ?_; intro v))
      refine WL.callG [Ow.slice rd 3 1 (ints (srt (gs.filter fun x => !decide (x < 0))))] _ (.refl _) (compactA_c rd _ (by rw [srt_len]; exact hfl)) ?_
      rintro rc bb GG ⟨rfl, rfl⟩
      simp only [List.nil_append, List.cons_append]
      rw [show Lib.compact (srt (gs.filter fun x => !decide (x < 0))) = coreLs gs from rfl]
      refine WL.freezeI (l := coreLs gs) (v := rc) (el := 3) (by repeat (first | exact Sel.head | apply Sel.tail)) ?_
      repeat' (first | refine gA ?_ | (refine goG ?_; intro g) | (refine goV ?_; intro v))
      have hll := coreLs_len gs
      generalize hLL : coreLs gs = LL at *
      first | refine WL.callV (contradictory_c M K0 m vn L gf gs LL ug rc hf hL hm c1) ?_ | refine WD.callV (contradictory_c M K0 m vn L gf gs LL ug rc hf hL hm c1) ?_
      by_cases c3 : contP vn L gs LL = true
      · rw [if_pos c3] at hcor
        rw [c3]
        repeat' (first | refine gA ?_ | (refine goG ?_; intro g) | (refine goV ?_; intro v))
        first | refine WL.callO (cloneI_c rc LL (by omega)) (fun rv => ?_) | refine WD.callO (cloneI_c rc LL (by omega)) (fun rv => ?_)
        refine WL.freezeI (l := LL) (v := rv) (el := 3) (by repeat (first | exact Sel.head | apply Sel.tail)) ?_
        repeat' (first | refine gA ?_ | (refine goG ?_; intro g) | (refine goV ?_; intro v))
        refine WC.lp (σ := Nat × Value) (fun st => [(41, .int .i64 (st.1 : Int)), (7, st.2), (39, rv), (40, .int .i64 (LL.length : Int)), (2, ptr gb), (1, ug)])
          (fun _ => [Ow.cells gb 26 (pcs M vn)])
          (fun st => [sI st.2 ((LL.take st.1).foldl (coreSt vn L gs) LL), sI rv LL, ge h0, fLn M vn L, fP M (X.lpOf vn L gf), sI ug gs]) (fun st => st.1 ≤ LL.length) (fun st => LL.length - st.1) (0, rc) (Nat.zero_le _) ?_ suA slA sfA
        rintro ⟨i, lv⟩ hi
        simp only at hi ⊢
        have hfl := coreSt_len vn L gs (LL.take i) LL
        by_cases c : i < LL.length
        · have hst : (LL.take (i + 1)).foldl (coreSt vn L gs) LL = coreSt vn L gs ((LL.take i).foldl (coreSt vn L gs) LL) (LL.getD i 0) := by
            rw [List.take_succ_eq_append_getElem c, List.foldl_append, List.getD_eq_getElem?_getD, List.getElem?_eq_getElem c]; rfl
          generalize (LL.take i).foldl (coreSt vn L gs) LL = MM at *
          repeat' (first | refine gA ?_ | (refine goG ?_; intro g) | (refine goV ?_; intro v))
          revert g; intro g9
          refine WL.keep (g := g9) (by repeat (first | exact Rem.head | apply Rem.tail)) ?_
          first | refine WL.callO (cloneI_c lv MM (by omega)) (fun rv => ?_) | refine WD.callO (cloneI_c lv MM (by omega)) (fun rv => ?_)
          repeat' (first | refine gA ?_ | (refine goG ?_; intro g) | (refine goV ?_; intro v))
          refine WL.callG [Ow.slice rv 3 1 (ints MM)] _ (.refl _) (U.delEq_c rv MM (LL.getD i 0) g9 (by omega)) ?_
          rintro rr bb GG ⟨rfl, rfl⟩
          simp only [List.nil_append, List.cons_append]
          have hrl : (MM.filter fun x => !decide (x = LL.getD i 0)).length ≤ MM.length := List.length_filter_le _ _
          have hcs : coreSt vn L gs MM (LL.getD i 0) = if contP vn L gs (MM.filter fun x => !decide (x = LL.getD i 0)) = true then MM.filter (fun x => !decide (x = LL.getD i 0)) else MM := rfl
          generalize MM.filter (fun x => !decide (x = LL.getD i 0)) = M2 at *
          refine WL.freezeI (l := M2) (v := rr) (el := 3) (by repeat (first | exact Sel.head | apply Sel.tail)) ?_
          repeat' (first | refine gA ?_ | (refine goG ?_; intro g) | (refine goV ?_; intro v))
          first | refine WL.callV (contradictory_c M K0 m vn L gf gs M2 ug rr hf hL hm c1) ?_ | refine WD.callV (contradictory_c M K0 m vn L gf gs M2 ug rr hf hL hm c1) ?_
          by_cases c4 : contP vn L gs M2 = true
          · rw [if_pos c4] at hcs
            rw [c4]
            repeat' (first | refine gA ?_ | (refine goG ?_; intro g) | (refine goV ?_; intro v))
            exact LoopEnd.mk (i + 1, rr) (by show i + 1 ≤ LL.length; omega) (by show LL.length - (i + 1) < LL.length - i; omega) suA slA (HasAll.cons (by show Has _ (sI rr ((LL.take (i + 1)).foldl (coreSt vn L gs) LL)); rw [hst, hcs]; exact hmA) sfA)
          · rw [if_neg c4] at hcs
            rw [Bool.eq_false_iff.2 c4]
            repeat' (first | refine gA ?_ | (refine goG ?_; intro g) | (refine goV ?_; intro v))
            exact LoopEnd.mk (i + 1, lv) (by show i + 1 ≤ LL.length; omega) (by show LL.length - (i + 1) < LL.length - i; omega) suA slA (HasAll.cons (by show Has _ (sI lv ((LL.take (i + 1)).foldl (coreSt vn L gs) LL)); rw [hst, hcs]; exact hmA) sfA)
        · obtain rfl : i = LL.length := by omega
          rw [List.take_of_length_le (Nat.le_refl _)]
          repeat' (first | refine gA ?_ | (refine goG ?_; intro g) | (refine goV ?_; intro v))
          exact WC.ret (Fin.p [] [sI lv (corS vn L gs).1] (ResE.t2 rfl rfl rfl) meA (List.nil_sublist _) (by rw [hcor]; exact haA) ⟨_, by rw [hcor], rfl, rfl⟩)
      · rw [if_neg c3] at hcor
        rw [Bool.eq_false_iff.2 c3]
        repeat' (first | refine gA ?_ | (refine goG ?_; intro g) | (refine goV ?_; intro v))
        exact WC.ret (Fin.p [] [sI (.slice none 0 0) (corS vn L gs).1] (ResE.t2 rfl rfl rfl) meA (List.nil_sublist _) (.cons (by rw [hcor]; exact nilI) .nil) ⟨_, by rw [hcor], rfl, rfl⟩)
  · have hc : corS vn L gs = ([], 1) := if_neg (fun h => c1 h.1)
    repeat' (first | refine gA ?_ | (refine goG ?_; intro g) | (refine goV ?_; intro v))
    exact WC.ret (Fin.p [] [sI (.slice none 0 0) (corS vn L gs).1] (ResE.t2 rfl rfl rfl) meA (List.nil_sublist _) (bad hc) ⟨_, by rw [hc], rfl, rfl⟩)
end U
end Go.Proofs.YtaongbhamadlkaaGreat
namespace Go.Proofs.YtaongbhamadlkaaGreat
open W Go.RowKit
theorem fst_none {p : Nat → Bool} {n : Nat} : (X.fstT p n 0).isSome = false ↔ ∀ j, j < n → p j = false := by
  rcases X.fstT_spec p n 0 with ⟨h1, h2⟩ | ⟨j, h1, _, h3, h4, _⟩
  · rw [h1]
    exact ⟨fun _ j hj => h2 j (by omega) (by omega), fun _ => rfl⟩
  · rw [h1]
    exact ⟨fun h => (by cases h), fun h => (by rw [h j (by omega)] at h4; cases h4)⟩
section
variable {p : X.Lp} {xn yn : Nat} {x y g : Nat → Rat} {z : Rat} {op : Bool}
theorem holdP_iff : holdP p xn x op = true ↔ xn = p.v ∧ ∀ r, r < p.m → (X.sm p.v fun k => p.a r k * x k) ≤ most p op r := by
  unfold holdP
  rw [Bool.and_eq_true, decide_eq_true_eq, Bool.not_eq_true', fst_none]
  constructor
  · rintro ⟨h1, h2⟩
    exact ⟨h1, fun r hr => by have := of_decide_eq_false (h2 r hr); grind⟩
  · rintro ⟨h1, h2⟩
    exact ⟨h1, fun r hr => decide_eq_false (by have := h2 r hr; grind)⟩
theorem sumsOk_iff : sumsOk p yn y g = true ↔ yn = p.m ∧ (∀ r, r < p.m → 0 ≤ y r) ∧ ∀ k, k < p.v → (X.sm p.m fun r => y r * p.a r k) = g k := by
  have e : ∀ k, (X.sm p.m fun r => p.a r k * y r) = X.sm p.m fun r => y r * p.a r k := fun k => X.sm_congr fun r _ => Rat.mul_comm _ _
  unfold sumsOk
  rw [Bool.and_eq_true, Bool.and_eq_true, decide_eq_true_eq, Bool.not_eq_true', Bool.not_eq_true', fst_none, fst_none]
  constructor
  · rintro ⟨⟨h1, h2⟩, h3⟩
    subst h1
    exact ⟨rfl, fun r hr => by have := of_decide_eq_false (h2 r hr); grind, fun k hk => by have := of_decide_eq_false (h3 k hk); rw [← e]; grind⟩
  · rintro ⟨h1, h2, h3⟩
    subst h1
    exact ⟨⟨rfl, fun r hr => decide_eq_false (by have := h2 r hr; grind)⟩, fun k hk => decide_eq_false (by rw [e, h3 k hk]; simp)⟩
theorem sumsV_eq : sumsV p y = X.sm p.m fun r => y r * p.b r := X.sm_congr fun r _ => Rat.mul_comm _ _
theorem ans_right {kind : Nat} (h : AnsP p kind xn yn x y z) : rightP p kind xn yn x y z = true := by
  rcases h with ⟨rfl, rfl, rfl, rfl, h1, h2, h3⟩ | ⟨rfl, rfl, rfl, h1, h2, h3, h4, h5⟩ | ⟨rfl, rfl, rfl, rfl, h1, h2, h3⟩
  · show (sumsOk p p.m y (fun _ => 0) && decide (0 = 0) && decide (sumsV p y < 0) && decide ((0 : Rat) = 0)) = true
    rw [sumsOk_iff.2 ⟨rfl, h1, h2⟩, sumsV_eq, decide_eq_true h3]; rfl
  · show (sumsOk p p.m y p.g && holdP p p.v x false && decide (sumsV p y = z) && decide ((X.sm p.v fun k => p.g k * x k) = z)) = true
    rw [sumsOk_iff.2 ⟨rfl, h2, h3⟩, (holdP_iff (p := p) (op := false)).2 ⟨rfl, h1⟩, sumsV_eq, decide_eq_true h4, decide_eq_true h5]; rfl
  · show (holdP p p.v x false && holdP p p.v y true && decide (0 < X.sm p.v fun k => p.g k * y k) && decide ((0 : Rat) = 0)) = true
    rw [(holdP_iff (p := p) (op := false)).2 ⟨rfl, h1⟩, (holdP_iff (p := p) (op := true)).2 ⟨rfl, fun r hr => h2 r hr⟩, decide_eq_true h3]; rfl
theorem right_ans {kind : Int} (h : rightP p kind xn yn x y z = true) : ∃ n : Nat, kind = n ∧ AnsP p n xn yn x y z := by
  unfold rightP at h
  split at h
  · rename_i hk
    simp only [Bool.and_eq_true, decide_eq_true_eq] at h
    obtain ⟨⟨⟨h1, h2⟩, h3⟩, h4⟩ := h
    obtain ⟨a1, a2, a3⟩ := sumsOk_iff.1 h1
    obtain ⟨b1, b2⟩ := holdP_iff.1 h2
    rw [sumsV_eq] at h3
    exact ⟨0, hk, .inr (.inl ⟨rfl, b1, a1, b2, a2, a3, h3, h4⟩)⟩
  · split at h
    · rename_i _ hk
      simp only [Bool.and_eq_true, decide_eq_true_eq] at h
      obtain ⟨⟨⟨h1, h2⟩, h3⟩, h4⟩ := h
      obtain ⟨a1, a2, a3⟩ := sumsOk_iff.1 h1
      rw [sumsV_eq] at h3
      exact ⟨1, hk, .inl ⟨rfl, h2, a1, h4, a2, a3, h3⟩⟩
    · split at h
      · rename_i _ _ hk
        simp only [Bool.and_eq_true, decide_eq_true_eq] at h
        obtain ⟨⟨⟨h1, h2⟩, h3⟩, h4⟩ := h
        obtain ⟨b1, b2⟩ := holdP_iff.1 h1
        obtain ⟨c1, c2⟩ := holdP_iff.1 h2
        exact ⟨2, hk, .inr (.inr ⟨rfl, b1, c1, h4, b2, c2, h3⟩)⟩
      · cases h
theorem right_sem {kind : Int} (h : rightP p kind xn yn x y z = true) : X.Sem p kind z := by
  obtain ⟨n, rfl, h2⟩ := right_ans h
  exact h2.sem
end
def exL1 : List X.Ln := [([1, 0], 2), ([0, 1], 3), ([1, 1], 4)]
def exL2 : List X.Ln := exL1 ++ [([-1, 0], -3)]
def exL3 : List X.Ln := [([0, 1], 3)]
def exG1 (_ : Nat) : Rat := 1
def exG3 (k : Nat) : Rat := if k = 0 then 1 else -1
theorem lt3 {P : Nat → Prop} {n : Nat} (h : ∀ r : Fin n, P r.1) : ∀ r, r < n → P r := fun r hr => h ⟨r, hr⟩
theorem ex1 : X.Sem (X.lpOf 2 exL1 exG1) 0 4 := X.Sem.opt (x := fun k => if k = 0 then 1 else 3) (y := fun k => if k = 2 then 1 else 0)
  ⟨lt3 (n := 3) (by decide +kernel), lt3 (n := 3) (by decide +kernel), lt3 (n := 2) (by decide +kernel), by decide +kernel, by decide +kernel⟩
theorem ex2 : X.Sem (X.lpOf 2 exL2 exG1) 1 0 := X.Sem.inf (y := fun k => if k = 0 then 1 else if k = 3 then 1 else 0)
  ⟨lt3 (n := 4) (by decide +kernel), lt3 (n := 2) (by decide +kernel), by decide +kernel⟩
theorem ex3 : X.Sem (X.lpOf 2 exL3 exG3) 2 0 := X.Sem.unb (x := fun _ => 0) (y := fun k => if k = 0 then 1 else 0)
  ⟨lt3 (n := 1) (by decide +kernel), lt3 (n := 1) (by decide +kernel), by decide +kernel⟩
theorem ex4 : corS 2 exL2 [4, 5, 6, 1] = ([1, 4], 0) := by
  have h : coreLs [4, 5, 6, 1] = [1, 4, 5, 6] := by
    unfold coreLs srt
    simp [List.mergeSort, List.MergeSort.Internal.splitInTwo, List.merge]
    decide +kernel
  unfold corS
  rw [h]
  decide +kernel
def smallB (q : Rat) : Bool := decide (q.num.natAbs < 1000000000) && decide (q.den < 1000000000)
def lsqB (w : Nat) (L : List X.Ln) : Bool := L.all fun c => decide (c.1.length = w) && ((List.range w).all fun k => smallB (X.co c k)) && smallB c.2
theorem sq_small {q : Rat} (h : smallB q = true) : Sq 1 q := by
  unfold smallB at h
  rw [Bool.and_eq_true, decide_eq_true_eq, decide_eq_true_eq] at h
  exact ⟨digs_len_le (k := 1) (by omega), digs_len_le (k := 1) (by omega)⟩
theorem LSq.of {w : Nat} {L : List X.Ln} (h : lsqB w L = true) : LSq 1 w L := fun c hc => by
  have := List.all_eq_true.1 h c hc
  rw [Bool.and_eq_true, Bool.and_eq_true, decide_eq_true_eq] at this
  exact ⟨this.1.1, fun k hk => sq_small (List.all_eq_true.1 this.1.2 k (List.mem_range.2 hk)), sq_small this.2⟩
theorem exL1_sq : LSq 1 2 exL1 := .of (by decide +kernel)
theorem exL2_sq : LSq 1 2 exL2 := .of (by decide +kernel)
theorem exL3_sq : LSq 1 2 exL3 := .of (by decide +kernel)
theorem exG1_sq (k : Nat) : Sq 1 (exG1 k) := X.sq_one
theorem exG3_sq (k : Nat) : Sq 1 (exG3 k) := by
  unfold exG3; split
  · exact X.sq_one
  · exact X.sq_one.neg
theorem exFits : Fits 2 4 1 := ⟨by decide +kernel, by decide +kernel, by decide, by decide, by decide⟩
end Go.Proofs.YtaongbhamadlkaaGreat
namespace Go.Proofs.YtaongbhamadlkaaGreat
open W Go.RowKit
theorem v3 {P : Nat → Prop} {v : Nat} (h : 1 ≤ v ∧ v ≤ 3) (h1 : P 1) (h2 : P 2) (h3 : P 3) : P v := by
  match v, h with
  | 1, _ => exact h1
  | 2, _ => exact h2
  | 3, _ => exact h3
theorem someFits (l : List Int) : Fits (someV l) 6 1 := v3 (P := fun v => Fits v 6 1) (someV_le l) ⟨by decide +kernel, by decide +kernel, by decide, by decide, by decide⟩ ⟨by decide +kernel, by decide +kernel, by decide, by decide, by decide⟩ ⟨by decide +kernel, by decide +kernel, by decide, by decide, by decide⟩
theorem someDok (l : List Int) : Dok (someV l) (szR (someV l) 6 1) := v3 (P := fun v => Dok v (szR v 6 1)) (someV_le l) (by unfold Dok; decide +kernel) (by unfold Dok; decide +kernel) (by unfold Dok; decide +kernel)
theorem FMok.le {w n n' K : Nat} (h : FMok w n K) (hn : n' ≤ n) : FMok w n' K := ⟨fun k hk => Nat.le_trans (X.nbs_mono hn k) (h.n k hk), h.k⟩
end Go.Proofs.YtaongbhamadlkaaGreat
namespace Go.Proofs.YtaongbhamadlkaaGreat
namespace X
section
variable {p q : Lp} {k : Int} {z : Rat} {v : Nat} {L : List Ln} {g x t : Nat → Rat}
theorem Sem.congr (h : ∀ x, IsPt q x ↔ IsPt p x) (hg : ∀ x, at_ q.v q.g x = at_ p.v p.g x) (hs : Sem p k z) : Sem q k z := by
  rcases hs with ⟨rfl, rfl, h1⟩ | ⟨rfl, ⟨x, h1, h2⟩, h3⟩ | ⟨rfl, rfl, h1⟩
  · exact .inl ⟨rfl, rfl, fun x hx => h1 x ((h x).1 hx)⟩
  · exact .inr (.inl ⟨rfl, ⟨x, (h x).2 h1, (hg x).trans h2⟩, fun x hx => by rw [hg]; exact h3 x ((h x).1 hx)⟩)
  · exact .inr (.inr ⟨rfl, rfl, fun t => by obtain ⟨x, h2, h3⟩ := h1 t; exact ⟨x, (h x).2 h2, by rw [hg]; exact h3⟩⟩)
theorem at_add : at_ v g (fun k => x k + t k) = at_ v g x + at_ v g t := by
  unfold at_
  rw [← sm_add]
  exact sm_congr fun i _ => by grind
theorem at_sub : at_ v g (fun k => x k - t k) = at_ v g x - at_ v g t := by
  unfold at_
  rw [← sm_sub]
  exact sm_congr fun i _ => by grind
theorem Sem.shift (t : Nat → Rat) (h1 : ∀ x, IsPt p x → IsPt q (fun k => x k + t k)) (h2 : ∀ x, IsPt q x → IsPt p (fun k => x k - t k)) (hv : q.v = p.v) (hg : q.g = p.g) (hs : Sem p k z) :
    Sem q k (if k = 0 then z + at_ p.v p.g t else 0) := by
  rcases hs with ⟨rfl, rfl, h3⟩ | ⟨rfl, ⟨x, h3, h4⟩, h5⟩ | ⟨rfl, rfl, h3⟩
  · exact .inl ⟨rfl, rfl, fun x hx => h3 _ (h2 x hx)⟩
  · refine .inr (.inl ⟨rfl, ⟨_, h1 x h3, ?_⟩, fun y hy => ?_⟩)
    · rw [hv, hg, at_add, h4]; rfl
    · have := h5 _ (h2 y hy)
      rw [at_sub] at this
      rw [hv, hg, if_pos rfl]; grind
  · refine .inr (.inr ⟨rfl, rfl, fun s => ?_⟩)
    obtain ⟨x, h4, h5⟩ := h3 (s - at_ p.v p.g t)
    refine ⟨_, h1 x h4, ?_⟩
    rw [hv, hg, at_add]; grind
def timesL (v : Nat) (f : Rat) (c : Ln) : Ln := ((List.range v).map fun k => co c k * f, c.2 * f)
theorem timesL_co {f : Rat} {c : Ln} {k : Nat} (h : k < v) : co (timesL v f c) k = co c k * f := by simp [timesL, co, List.getD_eq_getElem?_getD, h]
theorem timesL_sat {f : Rat} {c : Ln} (hf : 0 < f) : Sat v x (timesL v f c) ↔ Sat v x c := by
  have e : sm v (fun k => co (timesL v f c) k * x k) = f * sm v (fun k => co c k * x k) := by
    rw [← sm_mul]
    exact sm_congr fun i hi => by rw [timesL_co hi]; grind
  unfold Sat
  rw [e, show (timesL v f c).2 = f * c.2 from by show c.2 * f = _; grind]
  constructor
  · intro h
    exact Rat.le_of_mul_le_mul_left h hf
  · intro h
    exact Rat.mul_le_mul_of_nonneg_left h (by grind)
def moveL (v : Nat) (t : Nat → Rat) (c : Ln) : Ln := (c.1, c.2 + sm v fun k => co c k * t k)
theorem moveL_sat {c : Ln} : Sat v (fun k => x k + t k) (moveL v t c) ↔ Sat v x c := by
  have e : sm v (fun k => co (moveL v t c) k * (x k + t k)) = sm v (fun k => co c k * x k) + sm v (fun k => co c k * t k) := by
    rw [← sm_add]
    exact sm_congr fun i _ => by show co c i * _ = _; grind
  unfold Sat
  rw [e]
  show _ ≤ c.2 + _ ↔ _
  constructor <;> intro h <;> grind
end
end X
end Go.Proofs.YtaongbhamadlkaaGreat
namespace Go.Proofs.YtaongbhamadlkaaGreat
open W Go.RowKit
def sameT (ml : List Int) (k : Nat) : Rat := smallP (atP ml (k : Int) 1073741824)
def sameF (ml : List Int) (i : Nat) : Rat := Rat.divInt (1 + atP ml (i : Int) 7) (1 + atP ml ((i : Int) + 1) 5)
def revL (L : List X.Ln) (j : Nat) : X.Ln := L.getD (L.length - 1 - j) ([], 0)
def qLs (v : Nat) (ml : List Int) (L : List X.Ln) (i : Nat) : List X.Ln := (List.range i).map fun j => X.timesL v (sameF ml j) (revL L j)
def mLs (v : Nat) (ml : List Int) (L : List X.Ln) (i : Nat) : List X.Ln := (List.range i).map fun j => X.moveL v (sameT ml) (revL L j)
section
variable {v i : Nat} {ml : List Int} {L : List X.Ln} {g : Nat → Rat} {k : Int} {z : Rat}
theorem qLs_len : (qLs v ml L i).length = i := by simp [qLs]
theorem mLs_len : (mLs v ml L i).length = i := by simp [mLs]
theorem qLs_up : qLs v ml L (i + 1) = qLs v ml L i ++ [X.timesL v (sameF ml i) (revL L i)] := by simp [qLs, List.range_succ]
theorem mLs_up : mLs v ml L (i + 1) = mLs v ml L i ++ [X.moveL v (sameT ml) (revL L i)] := by simp [mLs, List.range_succ]
theorem revL_mem (h : i < L.length) : revL L i ∈ L := getD_ln (by omega)
theorem revL_all {c : X.Ln} (h : c ∈ L) : ∃ j, j < L.length ∧ revL L j = c := by
  obtain ⟨i, hi, rfl⟩ := List.getElem_of_mem h
  refine ⟨L.length - 1 - i, by omega, ?_⟩
  unfold revL
  rw [show L.length - 1 - (L.length - 1 - i) = i by omega]
  simp [List.getD_eq_getElem?_getD, hi]
theorem sameF_pos : 0 < sameF ml i := by
  have h1 := @atP_lt ml (i : Int) 7 (by decide)
  have h2 := @atP_lt ml ((i : Int) + 1) 5 (by decide)
  unfold sameF
  rw [Rat.divInt_eq_div]
  have e1 : (0 : Rat) < ((1 + atP ml (i : Int) 7 : Int) : Rat) := Rat.intCast_pos.2 (by omega)
  have e2 : (0 : Rat) < ((1 + atP ml ((i : Int) + 1) 5 : Int) : Rat) := Rat.intCast_pos.2 (by omega)
  rw [Rat.div_def]
  exact Rat.mul_pos e1 (Rat.inv_pos.2 e2)
theorem sameF_sq : Sq 1 (sameF ml i) := by
  have h1 := @atP_lt ml (i : Int) 7 (by decide)
  have h2 := @atP_lt ml ((i : Int) + 1) 5 (by decide)
  exact sq_div (by omega) (by omega) (by omega)
theorem smallP_sq (x : Int) : Sq 1 (smallP x) := by
  have h := around_lt (n := x) (m := 1099511627776) (by decide)
  unfold smallP
  generalize around x 1099511627776 = a at *
  have h1 := Int.emod_nonneg (a / 6) (b := 16 * (1 + a % 6) + 1) (by omega)
  have h2 := Int.emod_lt_of_pos (a / 6) (b := 16 * (1 + a % 6) + 1) (by omega)
  exact sq_div (by omega) (by omega) (by omega)
theorem sameQ_sem {D : List X.Ln} (hD : ∀ c ∈ D, c ∈ L) (h : X.Sem (X.lpOf v L g) k z) : X.Sem (X.lpOf v (qLs v ml L L.length ++ D) g) k z := by
  refine X.Sem.congr (p := X.lpOf v L g) (fun x => ?_) (fun _ => rfl) h
  rw [X.pt_of, X.pt_of]
  constructor
  · intro hx c hc
    obtain ⟨j, hj, rfl⟩ := revL_all hc
    exact (X.timesL_sat sameF_pos).1 (hx (X.timesL v (sameF ml j) (revL L j)) (List.mem_append_left _ (List.mem_map.2 ⟨j, List.mem_range.2 hj, rfl⟩)))
  · intro hx c hc
    rcases List.mem_append.1 hc with hc | hc
    · obtain ⟨j, hj, rfl⟩ := List.mem_map.1 hc
      exact (X.timesL_sat sameF_pos).2 (hx _ (revL_mem (List.mem_range.1 hj)))
    · exact hx c (hD c hc)
theorem moved_sem (h : X.Sem (X.lpOf v L g) k z) : X.Sem (X.lpOf v (mLs v ml L L.length) g) k (if k = 0 then z + X.at_ v g (sameT ml) else 0) := by
  refine X.Sem.shift (p := X.lpOf v L g) (sameT ml) (fun x hx => ?_) (fun x hx => ?_) rfl rfl h
  · rw [X.pt_of] at hx ⊢
    intro c hc
    obtain ⟨j, hj, rfl⟩ := List.mem_map.1 hc
    exact X.moveL_sat.2 (hx _ (revL_mem (List.mem_range.1 hj)))
  · rw [X.pt_of] at hx ⊢
    intro c hc
    obtain ⟨j, hj, rfl⟩ := revL_all hc
    have := hx (X.moveL v (sameT ml) (revL L j)) (List.mem_map.2 ⟨j, List.mem_range.2 hj, rfl⟩)
    have e : (fun k => x k - sameT ml k + sameT ml k) = x := funext fun k => by grind
    refine (X.moveL_sat (x := fun k => x k - sameT ml k) (t := sameT ml)).1 ?_
    rw [e]; exact this
theorem qLs_sq (hL : LSq 1 v L) (hi : i ≤ L.length) : LSq 2 v (qLs v ml L i) := fun c hc => by
  obtain ⟨j, hj, rfl⟩ := List.mem_map.1 hc
  obtain ⟨h1, h2, h3⟩ := hL _ (revL_mem (show j < L.length by have := List.mem_range.1 hj; omega))
  exact ⟨by simp [X.timesL], fun k hk => by rw [X.timesL_co hk]; exact (h2 k hk).mul sameF_sq, h3.mul sameF_sq⟩
theorem dotT_sq {c : Nat → Rat} (hv : v ≤ 3) (hc : ∀ k, k < v → Sq 1 (c k)) : Sq 10 (X.sm v fun k => c k * sameT ml k) :=
  (X.sq_sm (m := v) (f := fun k => c k * sameT ml k) (k := 2) fun k hk => ((hc k hk).mul (smallP_sq _))).up (by omega)
theorem mLs_sq (hL : LSq 1 v L) (hv : v ≤ 3) (hi : i ≤ L.length) : LSq 12 v (mLs v ml L i) := fun c hc => by
  obtain ⟨j, hj, rfl⟩ := List.mem_map.1 hc
  obtain ⟨h1, h2, h3⟩ := hL _ (revL_mem (show j < L.length by have := List.mem_range.1 hj; omega))
  exact ⟨h1, fun k hk => (h2 k hk).up (by decide), (h3.add (dotT_sq hv h2)).up (by decide)⟩
end
theorem sameFits (l : List Int) : Fits (someV l) 7 12 := v3 (P := fun v => Fits v 7 12) (someV_le l) ⟨by decide +kernel, by decide +kernel, by decide, by decide, by decide⟩ ⟨by decide +kernel, by decide +kernel, by decide, by decide, by decide⟩ ⟨by decide +kernel, by decide +kernel, by decide, by decide, by decide⟩
end Go.Proofs.YtaongbhamadlkaaGreat
namespace Go.Proofs.YtaongbhamadlkaaGreat
open W Go.RowKit
def LoopEndZ {σ : Type} (E : σ → Env) (B : σ → List Ow) (G : σ → List Fct) (I : σ → Prop) (μ : σ → Nat) (s : σ) (e' : Env) (bx' : List Ow) (F' : List Fct) : Prop := ∃ bx2 F2, (∀ fr w, OK fr bx' F' w → OK fr bx2 F2 w) ∧ LoopEnd E B G I μ s e' bx2 F2
section
variable {P : Program} {n : Nat} {c : Code} {e e' : Env} {bx bx' : List Ow} {F F' : List Fct} {Q : Post} {σ : Type} {E : σ → Env} {B : σ → List Ow} {G : σ → List Fct} {I : σ → Prop} {μ : σ → Nat} {s : σ} {v : Value} {el : Nat} {l : List Int}
theorem LoopEndZ.of (h : LoopEnd E B G I μ s e' bx' F') : LoopEndZ E B G I μ s e' bx' F' := ⟨_, _, fun _ _ h => h, h⟩
theorem LoopEndZ.freezeI (hs : Sel bx (.slice v el 1 (ints l)) (.slice (.slice none 0 0) el 1 []) bx') (h : LoopEndZ E B G I μ s e' bx' (sI v l :: F)) : LoopEndZ E B G I μ s e' bx F := by
  obtain ⟨b2, F2, h1, h2⟩ := h
  refine ⟨b2, F2, fun fr w ho => h1 fr w (ho.freeze hs (by simp) (by decide) _ fun j hj => ?_), h2⟩
  have hj' : j < l.length := by omega
  simp [hj']
end
end Go.Proofs.YtaongbhamadlkaaGreat
