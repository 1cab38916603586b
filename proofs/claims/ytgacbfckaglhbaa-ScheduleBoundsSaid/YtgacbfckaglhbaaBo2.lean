/- Lemmas for the proof of a law: The executor: calls that read what the caller owns. Conditions: none. -/
import Derived.Test.YtgacbfckaglhbaaBo1
import Derived.Test.YtgacbfckaglhbaaProg
namespace Go.Proofs.Ytgacbfckaglhbaa
open Go.RowKit
namespace W
variable {P : Program} {e : Env} {bx : List Ow} {F : List Fct} {ty : TypeId} {v : Value}

/-- a fact that holds while all that is owned is let alone -/
def HasB (bx : List Ow) (F : List Fct) (f : Fct) : Prop := ∀ fr w, OK fr bx F w → f.p (imm fr [] w.heap)

theorem imm_nil {fr : PH} {w : World} (k : Nat) : imm fr [] w.heap k = if (fr k).isSome then none else w.heap[k]? := by simp [imm, ids]

theorem HasB.f {f : Fct} (h : Has F f) : HasB bx F f := fun fr w ho => (ho.drop (List.nil_sublist _)).has h

theorem HasB.o {el sz n : Nat} {cs : List Value} {f : Nat → Value} (hb : Ow.slice v el sz cs ∈ bx) (hn : cs.length = n * sz) (hsz : 0 < sz) (hf : ∀ j, j < n * sz → cs[j]? = some (f j)) : HasB bx F (slC v n sz f) := fun fr w ho => by
  obtain ⟨m, h3, ⟨rfl, h4⟩ | ⟨g, cap, sp, rfl, h4, h5, h6, h7⟩⟩ := ho.owns _ hb
  · subst h4
    have : n = 0 := by
      have : n * sz = 0 := by omega
      rcases Nat.mul_eq_zero.1 this with h | h <;> omega
    subst this
    exact ⟨none, 0, rfl, Nat.le_refl _, by simp [maxLen], .inl ⟨rfl, rfl, rfl⟩⟩
  · have hmn : m = n := Nat.eq_of_mul_eq_mul_right hsz (by omega)
    subst hmn
    refine ⟨_, cap, rfl, h4, h5, .inr ⟨g, 0, rfl, (cs ++ sp).toArray, el, (0, 0), ?_, fun j hj => ?_⟩⟩
    · rw [imm_nil, ho.apart g (mem_ids.2 ⟨_, hb, by simp [Ow.ids]⟩)]; exact h6
    · have hj' : j < cs.length := by omega
      simp only [Nat.zero_add, List.getElem?_toArray]
      rw [List.getElem?_append_left hj']; exact hf j hj

theorem HasB.oI {el : Nat} {l : List Int} (hb : Ow.slice v el 1 (ints l) ∈ bx) : HasB bx F (sI v l) :=
  HasB.o hb (by simp) (by decide) fun j hj => by
    have hj' : j < l.length := by omega
    simp [List.getElem?_eq_getElem hj']

inductive HasAllB (bx : List Ow) (F : List Fct) : List Fct → Prop where
  | nil : HasAllB bx F []
  | cons {g : Fct} {G : List Fct} : HasB bx F g → HasAllB bx F G → HasAllB bx F (g :: G)
theorem HasAllB.all {G : List Fct} (h : HasAllB bx F G) : ∀ g ∈ G, HasB bx F g := by
  induction h with
  | nil => simp
  | cons h _ ih => intro g hg; rcases List.mem_cons.1 hg with rfl | hg; exact h; exact ih _ hg

theorem lend {fr : PH} {w w' : World} {b : List Ow} {G : List Fct} (h : OK fr bx F w) (hle : (imm fr [] w.heap).le (imm fr b w'.heap)) (hok : OK fr b G w') : OK fr (b ++ bx) F w' := by
  have hsame : ∀ k, k < w.heap.size → fr k = none → w'.heap[k]? = w.heap[k]? ∧ k ∉ ids b := fun k hk hf => by
    have hs : imm fr [] w.heap k = some w.heap[k] := by rw [imm_nil, hf]; simp [hk]
    have h2 := hle _ _ hs
    refine ⟨(imm_heap h2).trans (by simp [hk]), fun hin => ?_⟩
    unfold imm at h2
    rw [if_pos (by simp [hin])] at h2; cases h2
  have hlt : ∀ k ∈ ids bx, k < w.heap.size := fun k hk => by obtain ⟨c, hc, hkc⟩ := mem_ids.1 hk; exact Ow.lt (h.owns c hc) k hkc
  refine ⟨hok.frame, fun k hk => ?_, ?_, fun c hc => ?_, fun f hf => f.mono _ _ (fun k o ho => ?_) (h.facts f hf)⟩
  · simp only [ids, List.flatMap_append, List.mem_append] at hk
    rcases hk with hk | hk
    · exact hok.apart k hk
    · exact h.apart k hk
  · simp only [ids, List.flatMap_append]
    refine List.nodup_append.2 ⟨hok.nodup, h.nodup, fun k h1 k' h2 he => ?_⟩
    subst he
    exact (hsame k (hlt k h2) (h.apart k h2)).2 h1
  · rcases List.mem_append.1 hc with hc | hc
    · exact hok.owns c hc
    · exact Ow.holds_congr (h.owns c hc) fun k hk => (hsame k (hlt k (mem_ids.2 ⟨c, hc, hk⟩)) (h.apart k (mem_ids.2 ⟨c, hc, hk⟩))).1
  · unfold imm at ho ⊢
    split at ho
    · cases ho
    · rename_i hc
      simp only [Bool.or_eq_true, List.contains_iff_mem, not_or, Bool.not_eq_true, Option.isSome_eq_false_iff, Option.isNone_iff_eq_none] at hc
      have hkl : k < w.heap.size := (Array.getElem?_eq_some_iff.1 ho).1
      obtain ⟨h1, h2⟩ := hsame k hkl hc.1
      rw [if_neg, h1]
      · exact ho
      · simp only [Bool.or_eq_true, List.contains_iff_mem, ids, List.flatMap_append, List.mem_append, not_or, hc.1]
        exact ⟨by simp, h2, hc.2⟩

/-- A CALL that only reads: whatever the caller owns may be read. The facts that it hands back are dropped. -/
theorem LO.callR {f : FuncId} {x : Operand} {args : List Operand} {ats : Array TypeId} {K : RPost} {first cap vs : List Value} {F' : List Fct} {R : RPost}
    (hx : ev e x = some (.func (.func f) first.toArray cap.toArray)) (hv : Evs e args vs) (hf : FnB P f (first ++ vs ++ cap) [] F' R) (hF : HasAllB bx F F') (hK : ∀ v b G, R v b G → K v (b ++ bx) F) :
    LO P (.call { callee := .value x, args := args.toArray, argTypes := ats }) ty e bx F K := fun n fr a w o next Q' hop _ hk ho hnext => by
  refine upon_call hf.1 hop (hk.eval hx) (vs := first ++ vs ++ cap) (by rw [← hv.map hk]; simp) ?_
  have h0 := ho.drop (List.nil_sublist bx)
  have h1 : OK fr [] F' w := ⟨h0.frame, h0.apart, h0.nodup, h0.owns, fun g hg => hF.all g hg fr w ho⟩
  refine (hf.2 fr w h1).mono fun e' w' ⟨v, b, G, he, hR, hr, hle, hok⟩ => ?_
  subst he
  exact hnext v w' _ _ hr (lend ho hle hok) (hK v b G hR)

theorem LO.callRV {f : FuncId} {x : Operand} {args : List Operand} {ats : Array TypeId} {K : RPost} {vs : List Value} {F' : List Fct} {u : Value}
    (hx : ev e x = some (.func (.func f) #[] #[])) (hv : Evs e args vs) (hf : FnB P f vs [] F' (IsV u)) (hF : HasAllB bx F F') (hK : K u bx F) : LO P (.call { callee := .value x, args := args.toArray, argTypes := ats }) ty e bx F K :=
  LO.callR (first := []) (cap := []) hx hv (by simpa using hf) hF (by rintro _ _ _ ⟨rfl, rfl, rfl⟩; simpa using hK)
theorem LO.callRO {f : FuncId} {x : Operand} {args : List Operand} {ats : Array TypeId} {K : RPost} {vs : List Value} {F' : List Fct} {el sz : Nat} {cs : List Value}
    (hx : ev e x = some (.func (.func f) #[] #[])) (hv : Evs e args vs) (hf : FnB P f vs [] F' (IsO el sz cs)) (hF : HasAllB bx F F') (hK : ∀ v, K v (Ow.slice v el sz cs :: bx) F) : LO P (.call { callee := .value x, args := args.toArray, argTypes := ats }) ty e bx F K :=
  LO.callR (first := []) (cap := []) hx hv (by simpa using hf) hF (by rintro v _ _ ⟨rfl, rfl⟩; simpa using hK v)
end W
end Go.Proofs.Ytgacbfckaglhbaa
namespace Go.Proofs.Ytgacbfckaglhbaa
namespace T
open W
theorem sc3 : Scalar Try.prog 3 := Scalar.of (by kernel_rfl)
theorem u3 : IntT Try.prog 3 .i64 := by unfold IntT; kernel_rfl
theorem al3 : AllocT Try.prog 3 [.int .i64 0] := AllocT.of (z := .int .i64 0) (by kernel_rfl) (by kernel_rfl)
theorem z3 : (Try.prog.info? 3).map (·.size) = some 1 := by kernel_rfl
theorem sc4 : Scalar Try.prog 4 := Scalar.of (by kernel_rfl)
theorem al4 : AllocT Try.prog 4 [.bool false] := AllocT.of (z := .bool false) (by kernel_rfl) (by kernel_rfl)
theorem z4 : (Try.prog.info? 4).map (·.size) = some 1 := by kernel_rfl
theorem sc5 : Scalar Try.prog 5 := Scalar.of (by kernel_rfl)
theorem u5 : IntT Try.prog 5 .u8 := by unfold IntT; kernel_rfl
theorem al5 : AllocT Try.prog 5 [.int .u8 0] := AllocT.of (z := .int .u8 0) (by kernel_rfl) (by kernel_rfl)
theorem z5 : (Try.prog.info? 5).map (·.size) = some 1 := by kernel_rfl
theorem sc9 : Scalar Try.prog 9 := Scalar.of (by kernel_rfl)
theorem z9 : (Try.prog.info? 9).map (·.size) = some 1 := by kernel_rfl
theorem s22 : SliceT Try.prog 22 3 1 := SliceT.of (by kernel_rfl)
theorem sc22 : Scalar Try.prog 22 := Scalar.of (by kernel_rfl)
theorem al22 : AllocT Try.prog 22 [.slice none 0 0] := AllocT.of (z := .slice none 0 0) (by kernel_rfl) (by kernel_rfl)
theorem e22 : ElemT Try.prog 22 3 1 (.int .i64 0) 8 := ⟨by kernel_rfl, by kernel_rfl, by kernel_rfl, by decide⟩
theorem z22 : (Try.prog.info? 22).map (·.size) = some 1 := by kernel_rfl
theorem s23 : SliceT Try.prog 23 48 3 := SliceT.of (by kernel_rfl)
theorem sc23 : Scalar Try.prog 23 := Scalar.of (by kernel_rfl)
theorem al23 : AllocT Try.prog 23 [.slice none 0 0] := AllocT.of (z := .slice none 0 0) (by kernel_rfl) (by kernel_rfl)
theorem e23 : ElemT Try.prog 23 48 3 (.agg #[.int .i64 0, .int .i64 0, .slice none 0 0]) 40 := ⟨by kernel_rfl, by kernel_rfl, by kernel_rfl, by decide⟩
theorem z23 : (Try.prog.info? 23).map (·.size) = some 1 := by kernel_rfl
theorem sc28 : Scalar Try.prog 28 := Scalar.of (by kernel_rfl)
theorem u28 : IntT Try.prog 28 .i64 := by unfold IntT; kernel_rfl
theorem al28 : AllocT Try.prog 28 [.int .i64 0] := AllocT.of (z := .int .i64 0) (by kernel_rfl) (by kernel_rfl)
theorem z28 : (Try.prog.info? 28).map (·.size) = some 1 := by kernel_rfl
theorem s39 : SliceT Try.prog 39 22 1 := SliceT.of (by kernel_rfl)
theorem sc39 : Scalar Try.prog 39 := Scalar.of (by kernel_rfl)
theorem al39 : AllocT Try.prog 39 [.slice none 0 0] := AllocT.of (z := .slice none 0 0) (by kernel_rfl) (by kernel_rfl)
theorem e39 : ElemT Try.prog 39 22 1 (.slice none 0 0) 24 := ⟨by kernel_rfl, by kernel_rfl, by kernel_rfl, by decide⟩
theorem z39 : (Try.prog.info? 39).map (·.size) = some 1 := by kernel_rfl
theorem a43 : ArrT Try.prog 43 22 2 1 := ArrT.of (by kernel_rfl)
theorem r43 : Row Try.prog 43 2 := Row.of (by kernel_rfl)
theorem al43 : AllocT Try.prog 43 [.slice none 0 0, .slice none 0 0] := AllocT.of (z := .agg #[.slice none 0 0, .slice none 0 0]) (by kernel_rfl) (by kernel_rfl)
theorem s44 : SliceT Try.prog 44 43 2 := SliceT.of (by kernel_rfl)
theorem sc44 : Scalar Try.prog 44 := Scalar.of (by kernel_rfl)
theorem al44 : AllocT Try.prog 44 [.slice none 0 0] := AllocT.of (z := .slice none 0 0) (by kernel_rfl) (by kernel_rfl)
theorem e44 : ElemT Try.prog 44 43 2 (.agg #[.slice none 0 0, .slice none 0 0]) 48 := ⟨by kernel_rfl, by kernel_rfl, by kernel_rfl, by decide⟩
theorem z44 : (Try.prog.info? 44).map (·.size) = some 1 := by kernel_rfl
theorem sc46 : Scalar Try.prog 46 := Scalar.of (by kernel_rfl)
theorem u46 : IntT Try.prog 46 .i64 := by unfold IntT; kernel_rfl
theorem al46 : AllocT Try.prog 46 [.int .i64 0] := AllocT.of (z := .int .i64 0) (by kernel_rfl) (by kernel_rfl)
theorem z46 : (Try.prog.info? 46).map (·.size) = some 1 := by kernel_rfl
theorem f48_0 : FieldAt Try.prog 48 0 0 := FieldAt.of (by kernel_rfl)
theorem f48_1 : FieldAt Try.prog 48 1 1 := FieldAt.of (by kernel_rfl)
theorem f48_2 : FieldAt Try.prog 48 2 2 := FieldAt.of (by kernel_rfl)
theorem r48 : Row Try.prog 48 3 := Row.of (by kernel_rfl)
theorem al48 : AllocT Try.prog 48 [.int .i64 0, .int .i64 0, .slice none 0 0] := AllocT.of (z := .agg #[.int .i64 0, .int .i64 0, .slice none 0 0]) (by kernel_rfl) (by kernel_rfl)
theorem sc51 : Scalar Try.prog 51 := Scalar.of (by kernel_rfl)
theorem u51 : IntT Try.prog 51 .u64 := by unfold IntT; kernel_rfl
theorem al51 : AllocT Try.prog 51 [.int .u64 0] := AllocT.of (z := .int .u64 0) (by kernel_rfl) (by kernel_rfl)
theorem z51 : (Try.prog.info? 51).map (·.size) = some 1 := by kernel_rfl
theorem f53_0 : FieldAt Try.prog 53 0 0 := FieldAt.of (by kernel_rfl)
theorem f53_1 : FieldAt Try.prog 53 1 1 := FieldAt.of (by kernel_rfl)
theorem f53_2 : FieldAt Try.prog 53 2 2 := FieldAt.of (by kernel_rfl)
theorem r53 : Row Try.prog 53 3 := Row.of (by kernel_rfl)
theorem al53 : AllocT Try.prog 53 [.slice none 0 0, .int .i64 0, .int .i64 0] := AllocT.of (z := .agg #[.slice none 0 0, .int .i64 0, .int .i64 0]) (by kernel_rfl) (by kernel_rfl)
theorem s60 : SliceT Try.prog 60 53 3 := SliceT.of (by kernel_rfl)
theorem sc60 : Scalar Try.prog 60 := Scalar.of (by kernel_rfl)
theorem al60 : AllocT Try.prog 60 [.slice none 0 0] := AllocT.of (z := .slice none 0 0) (by kernel_rfl) (by kernel_rfl)
theorem e60 : ElemT Try.prog 60 53 3 (.agg #[.slice none 0 0, .int .i64 0, .int .i64 0]) 40 := ⟨by kernel_rfl, by kernel_rfl, by kernel_rfl, by decide⟩
theorem z60 : (Try.prog.info? 60).map (·.size) = some 1 := by kernel_rfl
theorem sc66 : Scalar Try.prog 66 := Scalar.of (by kernel_rfl)
theorem al66 : AllocT Try.prog 66 [.pointer none] := AllocT.of (z := .pointer none) (by kernel_rfl) (by kernel_rfl)
theorem z66 : (Try.prog.info? 66).map (·.size) = some 1 := by kernel_rfl
theorem a67 : ArrT Try.prog 67 3 10 1 := ArrT.of (by kernel_rfl)
theorem r67 : Row Try.prog 67 10 := Row.of (by kernel_rfl)
theorem al67 : AllocT Try.prog 67 [.int .i64 0, .int .i64 0, .int .i64 0, .int .i64 0, .int .i64 0, .int .i64 0, .int .i64 0, .int .i64 0, .int .i64 0, .int .i64 0] := AllocT.of (z := .agg #[.int .i64 0, .int .i64 0, .int .i64 0, .int .i64 0, .int .i64 0, .int .i64 0, .int .i64 0, .int .i64 0, .int .i64 0, .int .i64 0]) (by kernel_rfl) (by kernel_rfl)
theorem a68 : ArrT Try.prog 68 3 4 1 := ArrT.of (by kernel_rfl)
theorem r68 : Row Try.prog 68 4 := Row.of (by kernel_rfl)
theorem al68 : AllocT Try.prog 68 [.int .i64 0, .int .i64 0, .int .i64 0, .int .i64 0] := AllocT.of (z := .agg #[.int .i64 0, .int .i64 0, .int .i64 0, .int .i64 0]) (by kernel_rfl) (by kernel_rfl)
theorem f70_0 : FieldAt Try.prog 70 0 0 := FieldAt.of (by kernel_rfl)
theorem f70_1 : FieldAt Try.prog 70 1 10 := FieldAt.of (by kernel_rfl)
theorem f70_2 : FieldAt Try.prog 70 2 20 := FieldAt.of (by kernel_rfl)
theorem f70_3 : FieldAt Try.prog 70 3 24 := FieldAt.of (by kernel_rfl)
theorem f70_4 : FieldAt Try.prog 70 4 25 := FieldAt.of (by kernel_rfl)
theorem r70 : Row Try.prog 70 26 := Row.of (by kernel_rfl)
theorem al70 : AllocT Try.prog 70 [.int .i64 0, .int .i64 0, .int .i64 0, .int .i64 0, .int .i64 0, .int .i64 0, .int .i64 0, .int .i64 0, .int .i64 0, .int .i64 0, .int .i64 0, .int .i64 0, .int .i64 0, .int .i64 0, .int .i64 0, .int .i64 0, .int .i64 0, .int .i64 0, .int .i64 0, .int .i64 0, .int .i64 0, .int .i64 0, .int .i64 0, .int .i64 0, .int .i64 0, .int .i64 0] := AllocT.of (z := .agg #[.int .i64 0, .int .i64 0, .int .i64 0, .int .i64 0, .int .i64 0, .int .i64 0, .int .i64 0, .int .i64 0, .int .i64 0, .int .i64 0, .int .i64 0, .int .i64 0, .int .i64 0, .int .i64 0, .int .i64 0, .int .i64 0, .int .i64 0, .int .i64 0, .int .i64 0, .int .i64 0, .int .i64 0, .int .i64 0, .int .i64 0, .int .i64 0, .int .i64 0, .int .i64 0]) (by kernel_rfl) (by kernel_rfl)
theorem sc72 : Scalar Try.prog 72 := Scalar.of (by kernel_rfl)
theorem al72 : AllocT Try.prog 72 [.map none] := AllocT.of (z := .map none) (by kernel_rfl) (by kernel_rfl)
theorem z72 : (Try.prog.info? 72).map (·.size) = some 1 := by kernel_rfl
theorem f74_0 : FieldAt Try.prog 74 0 0 := FieldAt.of (by kernel_rfl)
theorem f74_1 : FieldAt Try.prog 74 1 1 := FieldAt.of (by kernel_rfl)
theorem f74_2 : FieldAt Try.prog 74 2 2 := FieldAt.of (by kernel_rfl)
theorem f74_3 : FieldAt Try.prog 74 3 3 := FieldAt.of (by kernel_rfl)
theorem f74_4 : FieldAt Try.prog 74 4 29 := FieldAt.of (by kernel_rfl)
theorem r74 : Row Try.prog 74 30 := Row.of (by kernel_rfl)
theorem al74 : AllocT Try.prog 74 [.slice none 0 0, .int .i64 0, .int .i64 0, .int .i64 0, .int .i64 0, .int .i64 0, .int .i64 0, .int .i64 0, .int .i64 0, .int .i64 0, .int .i64 0, .int .i64 0, .int .i64 0, .int .i64 0, .int .i64 0, .int .i64 0, .int .i64 0, .int .i64 0, .int .i64 0, .int .i64 0, .int .i64 0, .int .i64 0, .int .i64 0, .int .i64 0, .int .i64 0, .int .i64 0, .int .i64 0, .int .i64 0, .int .i64 0, .map none] := AllocT.of (z := .agg #[.slice none 0 0, .int .i64 0, .int .i64 0, .int .i64 0, .int .i64 0, .int .i64 0, .int .i64 0, .int .i64 0, .int .i64 0, .int .i64 0, .int .i64 0, .int .i64 0, .int .i64 0, .int .i64 0, .int .i64 0, .int .i64 0, .int .i64 0, .int .i64 0, .int .i64 0, .int .i64 0, .int .i64 0, .int .i64 0, .int .i64 0, .int .i64 0, .int .i64 0, .int .i64 0, .int .i64 0, .int .i64 0, .int .i64 0, .map none]) (by kernel_rfl) (by kernel_rfl)
theorem sc84 : Scalar Try.prog 84 := Scalar.of (by kernel_rfl)
theorem z84 : (Try.prog.info? 84).map (·.size) = some 1 := by kernel_rfl
theorem sc90 : Scalar Try.prog 90 := Scalar.of (by kernel_rfl)
theorem al90 : AllocT Try.prog 90 [.pointer none] := AllocT.of (z := .pointer none) (by kernel_rfl) (by kernel_rfl)
theorem z90 : (Try.prog.info? 90).map (·.size) = some 1 := by kernel_rfl
theorem sc91 : Scalar Try.prog 91 := Scalar.of (by kernel_rfl)
theorem z91 : (Try.prog.info? 91).map (·.size) = some 1 := by kernel_rfl
theorem f98_0 : FieldAt Try.prog 98 0 0 := FieldAt.of (by kernel_rfl)
theorem f98_1 : FieldAt Try.prog 98 1 1 := FieldAt.of (by kernel_rfl)
theorem f98_2 : FieldAt Try.prog 98 2 5 := FieldAt.of (by kernel_rfl)
theorem r98 : Row Try.prog 98 15 := Row.of (by kernel_rfl)
theorem al98 : AllocT Try.prog 98 [.int .i64 0, .int .i64 0, .int .i64 0, .int .i64 0, .int .i64 0, .int .i64 0, .int .i64 0, .int .i64 0, .int .i64 0, .int .i64 0, .int .i64 0, .int .i64 0, .int .i64 0, .int .i64 0, .int .i64 0] := AllocT.of (z := .agg #[.int .i64 0, .int .i64 0, .int .i64 0, .int .i64 0, .int .i64 0, .int .i64 0, .int .i64 0, .int .i64 0, .int .i64 0, .int .i64 0, .int .i64 0, .int .i64 0, .int .i64 0, .int .i64 0, .int .i64 0]) (by kernel_rfl) (by kernel_rfl)
theorem sc106 : Scalar Try.prog 106 := Scalar.of (by kernel_rfl)
theorem u106 : IntT Try.prog 106 .u32 := by unfold IntT; kernel_rfl
theorem al106 : AllocT Try.prog 106 [.int .u32 0] := AllocT.of (z := .int .u32 0) (by kernel_rfl) (by kernel_rfl)
theorem z106 : (Try.prog.info? 106).map (·.size) = some 1 := by kernel_rfl
theorem sc108 : Scalar Try.prog 108 := Scalar.of (by kernel_rfl)
theorem u108 : IntT Try.prog 108 .u64 := by unfold IntT; kernel_rfl
theorem al108 : AllocT Try.prog 108 [.int .u64 0] := AllocT.of (z := .int .u64 0) (by kernel_rfl) (by kernel_rfl)
theorem z108 : (Try.prog.info? 108).map (·.size) = some 1 := by kernel_rfl
theorem sc110 : Scalar Try.prog 110 := Scalar.of (by kernel_rfl)
theorem z110 : (Try.prog.info? 110).map (·.size) = some 1 := by kernel_rfl
end T
end Go.Proofs.Ytgacbfckaglhbaa
namespace Go.Proofs.Ytgacbfckaglhbaa
open Go.RowKit
namespace W
variable {P : Program} {e : Env} {bx : List Ow} {F : List Fct} {ty : TypeId}

/-- what and-not answers -/
def anot (i j : Int) : Int := IntKind.i64.wrap (BitVec.ofInt 64 i &&& ~~~(BitVec.ofInt 64 j)).toNat
theorem anot_zero {i j : Int} {m : Nat} (hm : m ≤ 62) (hj : j = 2 ^ m - 1) (h1 : -9223372036854775808 ≤ i) (h2 : i ≤ 9223372036854775807) : anot i j = 0 ↔ 0 ≤ i ∧ i < 2 ^ m := by
  unfold anot
  generalize hr : BitVec.ofInt 64 i &&& ~~~(BitVec.ofInt 64 j) = r
  have hjn : (BitVec.ofInt 64 j).toNat = 2 ^ m - 1 := by
    have h62 : (2 : Int) ^ m ≤ 2 ^ 62 := by
      have h3 : (2 : Nat) ^ m ≤ 2 ^ 62 := Nat.pow_le_pow_right (by decide) hm
      have h4 : ((2 : Int) ^ m) = ((2 ^ m : Nat) : Int) := by simp
      omega
    have hp : (0 : Int) < 2 ^ m := Int.pow_pos (by decide)
    rw [bv_toNat (by omega) (by omega), hj]
    have : ((2 : Int) ^ m) = ((2 ^ m : Nat) : Int) := by simp
    omega
  have hr0 : r.toNat = 0 ↔ (BitVec.ofInt 64 i).toNat < 2 ^ m := by
    constructor
    · intro h
      refine Nat.lt_pow_two_of_testBit _ fun k hk => ?_
      by_cases hk64 : k < 64
      · have : r.toNat.testBit k = false := by rw [h]; simp
        simp only [← hr, BitVec.toNat_and, Nat.testBit_and, BitVec.toNat_not, hjn] at this
        have hb : Nat.testBit (2 ^ 64 - 1 - (2 ^ m - 1)) k = true := by
          rw [← hjn, ← BitVec.toNat_not, BitVec.testBit_toNat, BitVec.getLsbD_not, ← BitVec.testBit_toNat, hjn, Nat.testBit_two_pow_sub_one]
          simp; omega
        rw [hb] at this; simpa using this
      · exact Nat.testBit_lt_two_pow (Nat.lt_of_lt_of_le (BitVec.isLt _) (Nat.pow_le_pow_right (by decide) (by omega)))
    · intro h
      refine Nat.eq_of_testBit_eq fun k => ?_
      simp only [← hr, BitVec.toNat_and, Nat.testBit_and, Nat.zero_testBit]
      by_cases hk : k < m
      · have : (~~~(BitVec.ofInt 64 j)).toNat.testBit k = false := by
          rw [BitVec.testBit_toNat, BitVec.getLsbD_not, ← BitVec.testBit_toNat, hjn, Nat.testBit_two_pow_sub_one]
          simp; omega
        rw [this]; simp
      · have : (BitVec.ofInt 64 i).toNat.testBit k = false := Nat.testBit_lt_two_pow (Nat.lt_of_lt_of_le h (Nat.pow_le_pow_right (by decide) (by omega)))
        rw [this]; simp
  have hw : IntKind.i64.wrap r.toNat = 0 ↔ r.toNat = 0 := by
    have := r.isLt
    rw [IntKind.wrap_i64]; omega
  rw [hw, hr0]
  have h62 : (2 : Nat) ^ m ≤ 2 ^ 62 := Nat.pow_le_pow_right (by decide) hm
  have hc : ((2 : Int) ^ m) = ((2 ^ m : Nat) : Int) := by simp
  by_cases h0 : 0 ≤ i
  · rw [bv_toNat h0 (by omega), hc]; omega
  · have : (BitVec.ofInt 64 i).toNat = (i + 18446744073709551616).toNat := by
      rw [BitVec.toNat_ofInt]; congr 1; simp; omega
    rw [this]; omega

theorem YO.anot {t t' : TypeId} {x y : Operand} {i j : Int} (hx : ev e x = some (.int .i64 i)) (hy : ev e y = some (.int .i64 j)) : YO P (.binOp .andNot t x y t') ty e bx F (.int .i64 (anot i j)) :=
  YO.bits hx hy fun w => by
    simp only [binOp, Op.intBits]
    simp [W.anot]
    rfl
variable {v u : Value} {bx' : List Ow}
inductive OneL (bx : List Ow) (F : List Fct) : List Value → Prop where
  | nil : OneL bx F []
  | cons {u : Value} {us : List Value} : One bx F u → OneL bx F us → OneL bx F (u :: us)
theorem OneL.all {us : List Value} (h : OneL bx F us) {fr : PH} {w : World} (ho : OK fr bx F w) : ∀ c ∈ us, c.oneCell' = true := by
  induction h with
  | nil => simp
  | cons h _ ih => intro c hc; rcases List.mem_cons.1 hc with rfl | hc; exact (h fr w ho).2; exact ih c hc
theorem LO.byOneL {op : Op} {K : RPost} {us : List Value} (hu : OneL bx F us) (h : (∀ c ∈ us, c.oneCell' = true) → LO P op ty e bx F K) : LO P op ty e bx F K := fun n fr a w o next Q' h1 h2 h3 h4 h5 =>
  h (hu.all h4) n fr a w o next Q' h1 h2 h3 h4 h5
/-- a whole variable is stored anew -/
theorem LO.storeL {t tg : TypeId} {x y : Operand} {K : RPost} {g m : Nat} {cs us : List Value} (hx : ev e x = some (.pointer (some ⟨g, 0, none⟩))) (hy : ev e y = some (.agg us.toArray))
    (hs : Sel bx (.cells g tg cs) (.cells g tg us) bx') (hr : Row P t m) (hm : us.length = m) (hm2 : cs.length = m) (h1 : OneL bx F us) (h : K undef bx' F) : LO P (.store t x y) ty e bx F K :=
  LO.byOneL h1 fun h1 => LO.storeA hx hy hs hr hm hm2 h1 h
end W
end Go.Proofs.Ytgacbfckaglhbaa
namespace Go.Proofs.Ytgacbfckaglhbaa
open Go.RowKit
namespace W
variable {P : Program} {e : Env} {bx bx' : List Ow} {F : List Fct} {ty : TypeId} {v u : Value}

/-- the block g holds these cells, for good -/
def ce (g : Nat) (t : TypeId) (cs : List Value) : Fct where
  p h := h g = some (.cells cs.toArray t (0, 0))
  mono _ _ hl hp := hl _ _ hp
theorem ce_cell {fr : PH} {w : World} (ho : OK fr bx F w) {g : Nat} {t : TypeId} {cs : List Value} (h : Has F (ce g t cs)) (q : Nat) : w.cell? ⟨g, q, none⟩ = cs[q]? := by
  have := imm_heap (ho.has h)
  simp [World.cell?, this]
theorem YO.ldF {t tg : TypeId} {x : Operand} {g q : Nat} {cs : List Value} (hs : Scalar P t) (hx : ev e x = some (.pointer (some ⟨g, q, none⟩))) (hb : Has F (ce g tg cs)) (hv : cs[q]? = some v) : YO P (.load t x) ty e bx F v :=
  YO.ld hs hx rfl fun fr w ho => by rw [ce_cell ho hb]; exact hv
theorem ints_at {L : List Int} {q : Nat} (hq : q < L.length) : (ints L)[q]? = some (.int .i64 (L.getD q 0)) := by simp [List.getElem?_eq_getElem hq]
theorem YO.ldCI {t tg : TypeId} {x : Operand} {g q : Nat} {L : List Int} (hs : Scalar P t) (hx : ev e x = some (.pointer (some ⟨g, q, none⟩))) (hb : Ow.cells g tg (ints L) ∈ bx) (hq : q < L.length) : YO P (.load t x) ty e bx F (.int .i64 (L.getD q 0)) :=
  YO.ldB hs hx hb (ints_at hq)
theorem YO.ldFI {t tg : TypeId} {x : Operand} {g q : Nat} {L : List Int} (hs : Scalar P t) (hx : ev e x = some (.pointer (some ⟨g, q, none⟩))) (hb : Has F (ce g tg (ints L))) (hq : q < L.length) : YO P (.load t x) ty e bx F (.int .i64 (L.getD q 0)) :=
  YO.ldF hs hx hb (ints_at hq)
theorem ints_row {w : World} {g q m : Nat} {L : List Int} (h : ∀ q, w.cell? ⟨g, q, none⟩ = (ints L)[q]?) (i : Nat) (u : Value) (hu : (ints ((L.drop q).take m))[i]? = some u) : w.cell? ⟨g, q + i, none⟩ = some u := by
  rw [h]
  simp only [ints, List.getElem?_map, List.getElem?_take, List.getElem?_drop] at hu ⊢
  split at hu
  · exact hu
  · cases hu
theorem YO.ldWI {t tg m : Nat} {x : Operand} {g q : Nat} {L : List Int} (hs : Row P t m) (hx : ev e x = some (.pointer (some ⟨g, q, none⟩))) (hb : Ow.cells g tg (ints L) ∈ bx) (hq : q + m ≤ L.length) : YO P (.load t x) ty e bx F (.agg (ints ((L.drop q).take m)).toArray) :=
  YO.ldRow (by rw [show (ints ((L.drop q).take m)).length = m from by simp; omega]; exact hs) hx rfl fun fr w ho => ints_row fun q => own_cell (ho.owns _ hb)
theorem YO.ldWF {t tg m : Nat} {x : Operand} {g q : Nat} {L : List Int} (hs : Row P t m) (hx : ev e x = some (.pointer (some ⟨g, q, none⟩))) (hb : Has F (ce g tg (ints L))) (hq : q + m ≤ L.length) : YO P (.load t x) ty e bx F (.agg (ints ((L.drop q).take m)).toArray) :=
  YO.ldRow (by rw [show (ints ((L.drop q).take m)).length = m from by simp; omega]; exact hs) hx rfl fun fr w ho => ints_row fun q => ce_cell ho hb q
theorem whole {L : List Int} {m : Nat} (h : L.length = m) : (L.drop 0).take m = L := by subst h; simp
theorem YO.ldWI0 {t tg m : Nat} {x : Operand} {g : Nat} {L : List Int} (hs : Row P t m) (hx : ev e x = some (.pointer (some ⟨g, 0, none⟩))) (hb : Ow.cells g tg (ints L) ∈ bx) (hq : L.length = m) : YO P (.load t x) ty e bx F (.agg (ints L).toArray) := by
  have := YO.ldWI (ty := ty) (F := F) hs hx hb (by omega)
  rwa [whole hq] at this
theorem YO.ldWF0 {t tg m : Nat} {x : Operand} {g : Nat} {L : List Int} (hs : Row P t m) (hx : ev e x = some (.pointer (some ⟨g, 0, none⟩))) (hb : Has F (ce g tg (ints L))) (hq : L.length = m) : YO P (.load t x) ty e bx F (.agg (ints L).toArray) := by
  have := YO.ldWF (ty := ty) (bx := bx) hs hx hb (by omega)
  rwa [whole hq] at this

theorem LO.storeI {t tg : TypeId} {x y : Operand} {K : RPost} {g q : Nat} {L : List Int} {n : Int} (hx : ev e x = some (.pointer (some ⟨g, q, none⟩))) (hy : ev e y = some (.int .i64 n))
    (hz : (P.info? t).map (·.size) = some 1) (hs : Sel bx (.cells g tg (ints L)) (.cells g tg (ints (L.set q n))) bx') (hq : q < L.length) (h : K undef bx' F) : LO P (.store t x y) ty e bx F K :=
  LO.store1 hx hy hz (One.lit rfl rfl) hs (by simpa using hq) (by simp [ints, List.map_set]) h
theorem LO.storeWI {t tg m : Nat} {x y : Operand} {K : RPost} {g : Nat} {cs : List Value} {L : List Int} (hx : ev e x = some (.pointer (some ⟨g, 0, none⟩))) (hy : ev e y = some (.agg (ints L).toArray))
    (hs : Sel bx (.cells g tg cs) (.cells g tg (ints L)) bx') (hr : Row P t m) (hm : L.length = m) (hm2 : cs.length = m) (h : K undef bx' F) : LO P (.store t x y) ty e bx F K :=
  LO.storeA hx hy hs hr (by simpa using hm) hm2 (ints_one L) h
theorem LO.boxI {t : TypeId} {x : Operand} {K : RPost} {L : List Int} (hx : ev e x = some (.agg (ints L).toArray)) (h : ∀ g, K (.pointer (some ⟨g, 0, none⟩)) (Ow.cells g t (ints L) :: bx) F) : LO P (.box t x) ty e bx F K := LO.boxA hx h
theorem LO.allocI {t : TypeId} {K : RPost} {n : Nat} (ht : AllocT P t (ints (List.replicate n 0))) (h : ∀ g, K (.pointer (some ⟨g, 0, none⟩)) (Ow.cells g t (ints (List.replicate n 0)) :: bx) F) : LO P (.alloc t) ty e bx F K := LO.alloc' ht h

theorem HasB.c {g : Nat} {t : TypeId} {cs : List Value} (hb : Ow.cells g t cs ∈ bx) : HasB bx F (ce g t cs) := fun fr w ho => by
  have h := ho.owns _ hb
  simp only [Ow.holds] at h
  show imm fr [] w.heap g = _
  rw [imm_nil, ho.apart g (mem_ids.2 ⟨_, hb, by simp [Ow.ids]⟩)]; exact h

/-- the slice of the first n of an array of cap cells -/
theorem YO.sliceArr {t el cap : Nat} {x z : Operand} {g q n : Nat} (ht : ArrT P t el cap 1) (hx : ev e x = some (.pointer (some ⟨g, q, none⟩))) (hz : ev e z = some (.int .i64 (n : Int))) (hn : n ≤ cap) (hc : 0 < cap) :
    YO P (.slice t x none (some z) none) ty e bx F (.slice (some ⟨g, q, none⟩) n cap) := .of fun k fr a w o hop hk _ => by
  obtain ⟨h1, i, h2, h3⟩ := ht
  have hx' := hk.eval hx
  have hz' := hk.eval hz
  have hcz : P.cellsOf el = 1 := by simp [Program.cellsOf, h2, h3]
  have hs : ∀ w, (sizeOf el).run P w = .ok 1 w := fun w => by simpa [h3, hcz] using run_sizeOf (P := P) w h2
  have e1 : ¬ cap = 0 := by omega
  have e2 : ((n : Int) ≤ (cap : Int)) := by omega
  have e3 : n ≤ cap := hn
  simp [execOp, hop, hx', hz', Instr.sliceAt, run_underlying h1, Instr.sureAddr, Instr.sliceBounds, Instr.sliceBound, asIntOf, hs, e1, e3, Addr.add_lit]
theorem slC_ce {h : PH} {g q n cap : Nat} {t : TypeId} {L : List Int} (hp : h g = some (.cells (ints L).toArray t (0, 0))) (hq : q + n ≤ L.length) (hn : n ≤ cap) (hc : cap ≤ 1000000) : (sI (.slice (some ⟨g, q, none⟩) n cap) ((L.drop q).take n)).p h := by
  have hl : ((L.drop q).take n).length = n := by simp; omega
  show (slC _ ((L.drop q).take n).length 1 _).p h
  rw [hl]
  refine ⟨_, cap, rfl, hn, by unfold maxLen; omega, .inr ⟨g, q, rfl, _, t, _, hp, fun j hj => ?_⟩⟩
  rw [List.getElem?_toArray, ints_at (by omega)]
  simp only [List.getD_eq_getElem?_getD, List.getElem?_take, List.getElem?_drop]
  rw [if_pos (by omega)]
theorem HasB.sc {g q n cap : Nat} {t : TypeId} {L : List Int} (hb : Ow.cells g t (ints L) ∈ bx) (hq : q + n ≤ L.length) (hn : n ≤ cap) (hc : cap ≤ 1000000) : HasB bx F (sI (.slice (some ⟨g, q, none⟩) n cap) ((L.drop q).take n)) := fun fr w ho =>
  slC_ce (HasB.c (F := F) hb fr w ho) hq hn hc
theorem Has.sc {g q n cap : Nat} {t : TypeId} {L : List Int} (hb : Has F (ce g t (ints L))) (hq : q + n ≤ L.length) (hn : n ≤ cap) (hc : cap ≤ 1000000) : Has F (sI (.slice (some ⟨g, q, none⟩) n cap) ((L.drop q).take n)) := fun ph hf =>
  slC_ce (hb ph hf) hq hn hc

/-- the result lies in a variable -/
theorem ResE.cI {fn : Func} {t : Tmp} {ty : TypeId} {g tg m : Nat} {L : List Int} (h : fn.results = #[.cell t ty]) (hl : look e t = some (.pointer (some ⟨g, 0, none⟩))) (hb : Ow.cells g tg (ints L) ∈ bx) (hr : Row P ty m) (hm : L.length = m) : ResE P fn e bx F (.agg (ints L).toArray) := fun n fr a w hk ho => by
  obtain ⟨⟨d, hu, hd⟩, hi⟩ := hr
  have h1 : a.tmps[t]?.getD undef = .pointer (some ⟨g, 0, none⟩) := by rw [hk.at' _ _ hl]; rfl
  have h2 := run_loadVar_mid (P := P) w g 0 ty (ints L) d (fun i v hv => by rw [Nat.zero_add, own_cell (ho.owns _ hb)]; exact hv) hu hd (by rw [hi]; simp [hm])
  simp only [results, h]
  simp [h1, asAddr, h2]

theorem YO.ixBI {t el len sz : Nat} {x y : Operand} {b q : Nat} {j : Int} (ht : ArrT P t el len sz) (hx : ev e x = some (.pointer (some ⟨b, q, none⟩))) (hy : ev e y = some (.int .i64 j)) (h0 : 0 ≤ j) (hk' : j < len) :
    YO P (.indexAddr t x y) ty e bx F (.pointer (some ⟨b, q + j.toNat * sz, none⟩)) :=
  YO.ixB ht hx (k := j.toNat) (by rw [hy]; congr 2; omega) (by omega)

/-! ## Nil slices -/
def isNil : Value → Bool
  | .slice none _ _ => true
  | _ => false
theorem run_eqnil {t el : TypeId} {a : Option Addr} {l c : Nat} (d : Nat) (w : World) (h : P.underlying t = some (.slice el)) : (Op.equalIn (d + 1) t (.slice a l c) (.slice none 0 0)).run P w = .ok (isNil (.slice a l c)) w := by
  cases a <;> simp [Op.equalIn, run_underlying h, isNil]
theorem YO.eqNil {t el n : Nat} {x : Operand} (hs : SliceT P t el 1) (hx : ev e x = some v) (hv : KnS bx F v n) (ty2 : TypeId) : YO P (.binOp .eql t x (.const (.slice none 0 0)) ty2) ty e bx F (.bool (isNil v)) := .of fun k fr a w o hop hk ho => by
  have hx' := hk.eval hx
  obtain ⟨a', cap, rfl, _, _, h5⟩ := (hv fr w ho).is
  have he : (eqGuard .eql t x (.const (.slice none 0 0)) (.slice a' n cap) (.slice none 0 0)).run P w = .ok () w := by unfold eqGuard; simp [Sem.run_pure]
  have h2 : a.eval (.const (.slice none 0 0)) = .slice none 0 0 := rfl
  have h3 : (Op.equal t (.slice a' n cap) (.slice none 0 0)).run P w = .ok (isNil (.slice a' n cap)) w := run_eqnil 9999 w hs.1
  simp [execOp, hop, hx', h2, he, binOp, h3]
theorem YO.eqNil_t {t el n : Nat} {x : Operand} {ty2 : TypeId} (hs : SliceT P t el 1) (hx : ev e x = some v) (hv : KnS bx F v n) (h : isNil v = true) : YO P (.binOp .eql t x (.const (.slice none 0 0)) ty2) ty e bx F (.bool true) := by rw [← h]; exact YO.eqNil hs hx hv ty2
theorem YO.eqNil_f {t el n : Nat} {x : Operand} {ty2 : TypeId} (hs : SliceT P t el 1) (hx : ev e x = some v) (hv : KnS bx F v n) (h : isNil v = false) : YO P (.binOp .eql t x (.const (.slice none 0 0)) ty2) ty e bx F (.bool false) := by rw [← h]; exact YO.eqNil hs hx hv ty2
/-- a nil slice has no elements -/
theorem WC.nil0 {n : Nat} {c : Code} {Q : Post} {l : List Int} (hf : Has F (sI v l)) (hn : isNil v = true) (h : l = [] → WC P n c e bx F Q) : WC P n c e bx F Q :=
  WC.pure (fun fr w ho => by
    obtain ⟨a, cap, rfl, h2, h3, h4 | ⟨b, off, rfl, _⟩⟩ := ho.has hf
    · exact List.eq_nil_of_length_eq_zero h4.2.1
    · cases hn) h
end W
end Go.Proofs.Ytgacbfckaglhbaa
namespace Go.Proofs.Ytgacbfckaglhbaa
open W Go.RowKit
def tcell (ts : List Tk) (avs : List Value) (j : Nat) : Value :=
  if j % 3 = 0 then .int .i64 (tg ts (j / 3)).time else if j % 3 = 1 then .int .i64 (tg ts (j / 3)).on else avs.getD (j / 3) undef
theorem tcell0 (ts : List Tk) (avs : List Value) (k : Nat) : tcell ts avs (k * 3 + 0) = .int .i64 (tg ts k).time := by
  unfold tcell; rw [if_pos (by omega), show (k * 3 + 0) / 3 = k by omega]
theorem tcell1 (ts : List Tk) (avs : List Value) (k : Nat) : tcell ts avs (k * 3 + 1) = .int .i64 (tg ts k).on := by
  unfold tcell; rw [if_neg (by omega), if_pos (by omega), show (k * 3 + 1) / 3 = k by omega]
theorem tcell2 (ts : List Tk) (avs : List Value) (k : Nat) : tcell ts avs (k * 3 + 2) = avs.getD k undef := by
  unfold tcell; rw [if_neg (by omega), if_neg (by omega), show (k * 3 + 2) / 3 = k by omega]

/-- v is a slice of tasks; avs: the slices of their After -/
abbrev sT (v : Value) (avs : List Value) (ts : List Tk) : Fct := slC v ts.length 3 (tcell ts avs)
def sA (avs : List Value) (ts : List Tk) : Fct where
  p h := ∀ i, i < ts.length → (sI (avs.getD i undef) (tg ts i).after).p h
  mono _ _ hl hp i hi := (sI _ _).mono _ _ hl (hp i hi)

theorem hasA {F : List Fct} {avs : List Value} {ts : List Tk} (h : Has F (sA avs ts)) {i : Nat} (hi : i < ts.length) : Has F (sI (avs.getD i undef) (tg ts i).after) := by
  unfold Has at *; exact fun ph hf => h ph hf i hi

section
variable {P : Program} {e : Env} {bx : List Ow} {F : List Fct} {ty t : TypeId} {x : Operand} {v : Value} {avs : List Value} {ts : List Tk} {k : Nat}
theorem ldT0 (hs : Scalar P t) (hx : ev e x = some (.pointer (some (eaddr v (k * 3 + 0))))) (hf : Has F (sT v avs ts)) (hk : k < ts.length) : YO P (.load t x) ty e bx F (.int .i64 (tg ts k).time) := by
  rw [← tcell0 ts avs]; exact YO.ldS hs hx hf (by omega)
theorem ldT1 (hs : Scalar P t) (hx : ev e x = some (.pointer (some (eaddr v (k * 3 + 1))))) (hf : Has F (sT v avs ts)) (hk : k < ts.length) : YO P (.load t x) ty e bx F (.int .i64 (tg ts k).on) := by
  rw [← tcell1 ts avs]; exact YO.ldS hs hx hf (by omega)
theorem ldT2 (hs : Scalar P t) (hx : ev e x = some (.pointer (some (eaddr v (k * 3 + 2))))) (hf : Has F (sT v avs ts)) (hk : k < ts.length) : YO P (.load t x) ty e bx F (avs.getD k undef) := by
  rw [← tcell2 ts avs]; exact YO.ldS hs hx hf (by omega)
/-- a whole task -/
theorem ldT (hs : Row P t 3) (hx : ev e x = some (.pointer (some (eaddr v (k * 3))))) (hf : Has F (sT v avs ts)) (hk : k < ts.length) :
    YO P (.load t x) ty e bx F (.agg #[.int .i64 (tg ts k).time, .int .i64 (tg ts k).on, avs.getD k undef]) := by
  refine YO.ldRS (us := [.int .i64 (tg ts k).time, .int .i64 (tg ts k).on, avs.getD k undef]) hs hx hf (by omega) rfl fun i hi => ?_
  match i, hi with
  | 0, _ => exact congrArg some (tcell0 ts avs k).symm
  | 1, _ => exact congrArg some (tcell1 ts avs k).symm
  | 2, _ => exact congrArg some (tcell2 ts avs k).symm
end
theorem al70I : AllocT Try.prog 70 (ints (List.replicate 26 0)) := T.al70
namespace W
theorem YO.fieldN {P : Program} {e : Env} {bx : List Ow} {F : List Fct} {ty : TypeId} {s i off : Nat} {x : Operand} {b q r : Nat} (hf : FieldAt P s i off) (hx : ev e x = some (.pointer (some ⟨b, q, none⟩))) (hr : q + off = r) : YO P (.fieldAddr s x i) ty e bx F (.pointer (some ⟨b, r, none⟩)) := by subst hr; exact YO.fieldAddr hf hx
theorem YO.ixN {P : Program} {e : Env} {bx : List Ow} {F : List Fct} {ty : TypeId} {t el len sz : Nat} {x y : Operand} {b q r k : Nat} (ht : ArrT P t el len sz) (hx : ev e x = some (.pointer (some ⟨b, q, none⟩))) (hy : ev e y = some (.int .i64 (k : Int))) (hk' : k < len) (hr : q + k * sz = r) : YO P (.indexAddr t x y) ty e bx F (.pointer (some ⟨b, r, none⟩)) := by subst hr; exact YO.ixB ht hx hy hk'
theorem YO.ixNI {P : Program} {e : Env} {bx : List Ow} {F : List Fct} {ty : TypeId} {t el len sz : Nat} {x y : Operand} {b q r : Nat} {j : Int} (ht : ArrT P t el len sz) (hx : ev e x = some (.pointer (some ⟨b, q, none⟩))) (hy : ev e y = some (.int .i64 j)) (h0 : 0 ≤ j) (hk' : j < len) (hr : q + j.toNat * sz = r) : YO P (.indexAddr t x y) ty e bx F (.pointer (some ⟨b, r, none⟩)) := by subst hr; exact YO.ixBI ht hx hy h0 hk'
end W
theorem mixed : Try.prog.follows .mixedOrders = true := by kernel_rfl
end Go.Proofs.Ytgacbfckaglhbaa
namespace Go.Proofs.Ytgacbfckaglhbaa
open W Go.RowKit
attribute [local irreducible] WC WL WD YO LO LoopEnd W.Fin Scalar SliceT FieldAt Row ArrT AllocT KnS Has W.One SrcE IntT
/-- what is left -/
structure Bx (p : Prop) : Prop where
  h : p
theorem allAnd {α : Type} {p q : α → Prop} (h1 : ∀ a, p a) (h2 : ∀ a, q a) : ∀ a, p a ∧ q a := fun a => ⟨h1 a, h2 a⟩
theorem go {G G' : Prop} (h : G') (s : Bx G' → G := by
  intro h
  (first
    | apply WL.nil
    | (apply WL.skg; exact rfl; exact rfl)
    | (apply WL.skg0; exact rfl)
    | (apply WL.k_move; (apply YO.move; exact rfl); exact rfl; exact rfl)
    | (apply WL.k_assign; (apply YO.assign; exact rfl); exact rfl; exact rfl)
    | (apply WL.k_lss; (first | (apply YO.lss_t; exact rfl; exact rfl; omega) | (apply YO.lss_f; exact rfl; exact rfl; omega)); exact rfl; exact rfl)
    | (apply WL.k_add; (first | (apply YO.inc; exact rfl; exact rfl; omega) | (apply YO.add; exact rfl; exact rfl; omega; omega)); exact rfl; exact rfl)
    | (apply WL.k_len; (apply YO.len; (first | exact T.s22 | exact T.s23 | exact T.s39 | exact T.s44 | exact T.s60); exact rfl; (first | (focus (apply KnS.f; (focus (apply Has.mem; (repeat (first | exact List.Mem.head _ | apply List.Mem.tail)); done)); done)) | (focus (apply KnS.oI; (repeat (first | exact List.Mem.head _ | apply List.Mem.tail)); done)) | (focus (apply KnS.o1; (repeat (first | exact List.Mem.head _ | apply List.Mem.tail)); done)) | (focus (apply KnS.f; apply hasA; (focus (apply Has.mem; (repeat (first | exact List.Mem.head _ | apply List.Mem.tail)); done)); omega; done)))); exact rfl; exact rfl)
    | (apply WL.k_indexAddr; (first | (apply YO.ix1; (first | exact T.s22 | exact T.s23 | exact T.s39 | exact T.s44 | exact T.s60); exact rfl; exact rfl; (first | (focus (apply KnS.f; (focus (apply Has.mem; (repeat (first | exact List.Mem.head _ | apply List.Mem.tail)); done)); done)) | (focus (apply KnS.oI; (repeat (first | exact List.Mem.head _ | apply List.Mem.tail)); done)) | (focus (apply KnS.o1; (repeat (first | exact List.Mem.head _ | apply List.Mem.tail)); done)) | (focus (apply KnS.f; apply hasA; (focus (apply Has.mem; (repeat (first | exact List.Mem.head _ | apply List.Mem.tail)); done)); omega; done))); omega) | (apply YO.ix; (first | exact T.s22 | exact T.s23 | exact T.s39 | exact T.s44 | exact T.s60); exact rfl; exact rfl; (first | (focus (apply KnS.f; (focus (apply Has.mem; (repeat (first | exact List.Mem.head _ | apply List.Mem.tail)); done)); done)) | (focus (apply KnS.oI; (repeat (first | exact List.Mem.head _ | apply List.Mem.tail)); done)) | (focus (apply KnS.o1; (repeat (first | exact List.Mem.head _ | apply List.Mem.tail)); done)) | (focus (apply KnS.f; apply hasA; (focus (apply Has.mem; (repeat (first | exact List.Mem.head _ | apply List.Mem.tail)); done)); omega; done))); omega) | (apply YO.ix1'; (first | exact T.s22 | exact T.s23 | exact T.s39 | exact T.s44 | exact T.s60); exact rfl; exact rfl; (first | (focus (apply KnS.f; (focus (apply Has.mem; (repeat (first | exact List.Mem.head _ | apply List.Mem.tail)); done)); done)) | (focus (apply KnS.oI; (repeat (first | exact List.Mem.head _ | apply List.Mem.tail)); done)) | (focus (apply KnS.o1; (repeat (first | exact List.Mem.head _ | apply List.Mem.tail)); done)) | (focus (apply KnS.f; apply hasA; (focus (apply Has.mem; (repeat (first | exact List.Mem.head _ | apply List.Mem.tail)); done)); omega; done))); omega; omega) | (apply YO.ix'; (first | exact T.s22 | exact T.s23 | exact T.s39 | exact T.s44 | exact T.s60); exact rfl; exact rfl; (first | (focus (apply KnS.f; (focus (apply Has.mem; (repeat (first | exact List.Mem.head _ | apply List.Mem.tail)); done)); done)) | (focus (apply KnS.oI; (repeat (first | exact List.Mem.head _ | apply List.Mem.tail)); done)) | (focus (apply KnS.o1; (repeat (first | exact List.Mem.head _ | apply List.Mem.tail)); done)) | (focus (apply KnS.f; apply hasA; (focus (apply Has.mem; (repeat (first | exact List.Mem.head _ | apply List.Mem.tail)); done)); omega; done))); omega; omega) | (apply YO.ixN; (first | exact T.a43 | exact T.a67 | exact T.a68); exact rfl; exact rfl; omega; ((try simp only [Nat.zero_add, Nat.mul_one, Nat.reduceAdd, Nat.reduceMul]); exact rfl)) | (apply YO.ixNI; (first | exact T.a43 | exact T.a67 | exact T.a68); exact rfl; exact rfl; omega; omega; ((try simp only [Nat.zero_add, Nat.mul_one, Nat.reduceAdd, Nat.reduceMul]); exact rfl))); exact rfl; exact rfl)
    | (apply WL.k_load; (first | (apply ldT0; (first | exact T.sc3 | exact T.sc4 | exact T.sc5 | exact T.sc9 | exact T.sc22 | exact T.sc23 | exact T.sc28 | exact T.sc39 | exact T.sc44 | exact T.sc46 | exact T.sc51 | exact T.sc60 | exact T.sc66 | exact T.sc72 | exact T.sc84 | exact T.sc90 | exact T.sc91 | exact T.sc106 | exact T.sc108 | exact T.sc110); exact rfl; (focus (apply Has.mem; (repeat (first | exact List.Mem.head _ | apply List.Mem.tail)); done)); omega) | (apply ldT1; (first | exact T.sc3 | exact T.sc4 | exact T.sc5 | exact T.sc9 | exact T.sc22 | exact T.sc23 | exact T.sc28 | exact T.sc39 | exact T.sc44 | exact T.sc46 | exact T.sc51 | exact T.sc60 | exact T.sc66 | exact T.sc72 | exact T.sc84 | exact T.sc90 | exact T.sc91 | exact T.sc106 | exact T.sc108 | exact T.sc110); exact rfl; (focus (apply Has.mem; (repeat (first | exact List.Mem.head _ | apply List.Mem.tail)); done)); omega) | (apply ldT2; (first | exact T.sc3 | exact T.sc4 | exact T.sc5 | exact T.sc9 | exact T.sc22 | exact T.sc23 | exact T.sc28 | exact T.sc39 | exact T.sc44 | exact T.sc46 | exact T.sc51 | exact T.sc60 | exact T.sc66 | exact T.sc72 | exact T.sc84 | exact T.sc90 | exact T.sc91 | exact T.sc106 | exact T.sc108 | exact T.sc110); exact rfl; (focus (apply Has.mem; (repeat (first | exact List.Mem.head _ | apply List.Mem.tail)); done)); omega) | (apply ldT; (first | exact T.r43 | exact T.r48 | exact T.r53 | exact T.r67 | exact T.r68 | exact T.r70 | exact T.r74 | exact T.r98); exact rfl; (focus (apply Has.mem; (repeat (first | exact List.Mem.head _ | apply List.Mem.tail)); done)); omega) | (apply YO.ldWI0; (first | exact T.r43 | exact T.r48 | exact T.r53 | exact T.r67 | exact T.r68 | exact T.r70 | exact T.r74 | exact T.r98); exact rfl; (focus ((repeat (first | exact List.Mem.head _ | apply List.Mem.tail)); done)); (first | omega | (simp only [List.length_set, List.length_replicate]; omega))) | (apply YO.ldWF0; (first | exact T.r43 | exact T.r48 | exact T.r53 | exact T.r67 | exact T.r68 | exact T.r70 | exact T.r74 | exact T.r98); exact rfl; (focus (apply Has.mem; (repeat (first | exact List.Mem.head _ | apply List.Mem.tail)); done)); (first | omega | (simp only [List.length_set, List.length_replicate]; omega))) | (apply YO.ldCI; (first | exact T.sc3 | exact T.sc4 | exact T.sc5 | exact T.sc9 | exact T.sc22 | exact T.sc23 | exact T.sc28 | exact T.sc39 | exact T.sc44 | exact T.sc46 | exact T.sc51 | exact T.sc60 | exact T.sc66 | exact T.sc72 | exact T.sc84 | exact T.sc90 | exact T.sc91 | exact T.sc106 | exact T.sc108 | exact T.sc110); exact rfl; (focus ((repeat (first | exact List.Mem.head _ | apply List.Mem.tail)); done)); (first | omega | (simp only [List.length_set, List.length_replicate]; omega))) | (apply YO.ldFI; (first | exact T.sc3 | exact T.sc4 | exact T.sc5 | exact T.sc9 | exact T.sc22 | exact T.sc23 | exact T.sc28 | exact T.sc39 | exact T.sc44 | exact T.sc46 | exact T.sc51 | exact T.sc60 | exact T.sc66 | exact T.sc72 | exact T.sc84 | exact T.sc90 | exact T.sc91 | exact T.sc106 | exact T.sc108 | exact T.sc110); exact rfl; (focus (apply Has.mem; (repeat (first | exact List.Mem.head _ | apply List.Mem.tail)); done)); (first | omega | (simp only [List.length_set, List.length_replicate]; omega))) | (apply YO.ldF; (first | exact T.sc3 | exact T.sc4 | exact T.sc5 | exact T.sc9 | exact T.sc22 | exact T.sc23 | exact T.sc28 | exact T.sc39 | exact T.sc44 | exact T.sc46 | exact T.sc51 | exact T.sc60 | exact T.sc66 | exact T.sc72 | exact T.sc84 | exact T.sc90 | exact T.sc91 | exact T.sc106 | exact T.sc108 | exact T.sc110); exact rfl; (focus (apply Has.mem; (repeat (first | exact List.Mem.head _ | apply List.Mem.tail)); done)); exact rfl) | (apply YO.ldS; (first | exact T.sc3 | exact T.sc4 | exact T.sc5 | exact T.sc9 | exact T.sc22 | exact T.sc23 | exact T.sc28 | exact T.sc39 | exact T.sc44 | exact T.sc46 | exact T.sc51 | exact T.sc60 | exact T.sc66 | exact T.sc72 | exact T.sc84 | exact T.sc90 | exact T.sc91 | exact T.sc106 | exact T.sc108 | exact T.sc110); exact rfl; (first | (focus (apply Has.mem; (repeat (first | exact List.Mem.head _ | apply List.Mem.tail)); done)) | (focus (apply hasA; (focus (apply Has.mem; (repeat (first | exact List.Mem.head _ | apply List.Mem.tail)); done)); omega; done)) | (focus (apply Has.sc; (focus (apply Has.mem; (repeat (first | exact List.Mem.head _ | apply List.Mem.tail)); done)); omega; omega; omega; done))); omega) | (apply YO.ldB; (first | exact T.sc3 | exact T.sc4 | exact T.sc5 | exact T.sc9 | exact T.sc22 | exact T.sc23 | exact T.sc28 | exact T.sc39 | exact T.sc44 | exact T.sc46 | exact T.sc51 | exact T.sc60 | exact T.sc66 | exact T.sc72 | exact T.sc84 | exact T.sc90 | exact T.sc91 | exact T.sc106 | exact T.sc108 | exact T.sc110); exact rfl; (focus ((repeat (first | exact List.Mem.head _ | apply List.Mem.tail)); done)); exact rfl) | (apply YO.ldOI; (first | exact T.sc3 | exact T.sc4 | exact T.sc5 | exact T.sc9 | exact T.sc22 | exact T.sc23 | exact T.sc28 | exact T.sc39 | exact T.sc44 | exact T.sc46 | exact T.sc51 | exact T.sc60 | exact T.sc66 | exact T.sc72 | exact T.sc84 | exact T.sc90 | exact T.sc91 | exact T.sc106 | exact T.sc108 | exact T.sc110); exact rfl; (focus ((repeat (first | exact List.Mem.head _ | apply List.Mem.tail)); done)); omega)); exact rfl; exact rfl)
    | (apply WL.k_pick; (first | (apply YO.pick_t; exact rfl; exact rfl) | (apply YO.pick_f; exact rfl; exact rfl)); exact rfl; exact rfl)
    | (apply WL.k_fieldAddr; (first | (apply YO.fieldE; (first | exact T.f48_0 | exact T.f48_1 | exact T.f48_2 | exact T.f53_0 | exact T.f53_1 | exact T.f53_2 | exact T.f70_0 | exact T.f70_1 | exact T.f70_2 | exact T.f70_3 | exact T.f70_4 | exact T.f74_0 | exact T.f74_1 | exact T.f74_2 | exact T.f74_3 | exact T.f74_4 | exact T.f98_0 | exact T.f98_1 | exact T.f98_2); exact rfl) | (apply YO.fieldN; (first | exact T.f48_0 | exact T.f48_1 | exact T.f48_2 | exact T.f53_0 | exact T.f53_1 | exact T.f53_2 | exact T.f70_0 | exact T.f70_1 | exact T.f70_2 | exact T.f70_3 | exact T.f70_4 | exact T.f74_0 | exact T.f74_1 | exact T.f74_2 | exact T.f74_3 | exact T.f74_4 | exact T.f98_0 | exact T.f98_1 | exact T.f98_2); exact rfl; ((try simp only [Nat.zero_add, Nat.mul_one, Nat.reduceAdd, Nat.reduceMul]); exact rfl))); exact rfl; exact rfl)
    | (apply WL.k_eql; (first | (first | (apply YO.eql_t; exact rfl; exact rfl; omega) | (apply YO.eql_f; exact rfl; exact rfl; omega)) | (apply YO.eqNil_t; (first | exact T.s22 | exact T.s23 | exact T.s39 | exact T.s44 | exact T.s60); exact rfl; (first | (focus (apply KnS.f; (focus (apply Has.mem; (repeat (first | exact List.Mem.head _ | apply List.Mem.tail)); done)); done)) | (focus (apply KnS.oI; (repeat (first | exact List.Mem.head _ | apply List.Mem.tail)); done)) | (focus (apply KnS.o1; (repeat (first | exact List.Mem.head _ | apply List.Mem.tail)); done)) | (focus (apply KnS.f; apply hasA; (focus (apply Has.mem; (repeat (first | exact List.Mem.head _ | apply List.Mem.tail)); done)); omega; done))); assumption) | (apply YO.eqNil_f; (first | exact T.s22 | exact T.s23 | exact T.s39 | exact T.s44 | exact T.s60); exact rfl; (first | (focus (apply KnS.f; (focus (apply Has.mem; (repeat (first | exact List.Mem.head _ | apply List.Mem.tail)); done)); done)) | (focus (apply KnS.oI; (repeat (first | exact List.Mem.head _ | apply List.Mem.tail)); done)) | (focus (apply KnS.o1; (repeat (first | exact List.Mem.head _ | apply List.Mem.tail)); done)) | (focus (apply KnS.f; apply hasA; (focus (apply Has.mem; (repeat (first | exact List.Mem.head _ | apply List.Mem.tail)); done)); omega; done))); assumption)); exact rfl; exact rfl)
    | (apply WL.k_neq; (first | (apply YO.neq_t; exact rfl; exact rfl; omega) | (apply YO.neq_f; exact rfl; exact rfl; omega)); exact rfl; exact rfl)
    | (apply WL.k_nil; (apply YO.nil; exact rfl); exact rfl; exact rfl)
    | (apply WL.k_extract; (apply YO.extract; exact rfl; exact rfl); exact rfl; exact rfl)
    | (apply WL.k_gtr; (first | (apply YO.gtr_t; exact rfl; exact rfl; omega) | (apply YO.gtr_f; exact rfl; exact rfl; omega)); exact rfl; exact rfl)
    | (apply WL.k_geq; (first | (apply YO.geq_t; exact rfl; exact rfl; omega) | (apply YO.geq_f; exact rfl; exact rfl; omega)); exact rfl; exact rfl)
    | (apply WL.k_leq; (first | (apply YO.leq_t; exact rfl; exact rfl; omega) | (apply YO.leq_f; exact rfl; exact rfl; omega)); exact rfl; exact rfl)
    | (apply WL.k_sub; (apply YO.sub; exact rfl; exact rfl; omega; omega); exact rfl; exact rfl)
    | (apply WL.k_mul; (apply YO.mul; exact rfl; exact rfl; omega; omega); exact rfl; exact rfl)
    | (apply WL.k_rem; (apply YO.rem; exact rfl; exact rfl; omega; omega); exact rfl; exact rfl)
    | (apply WL.k_quo; (apply YO.quo; exact rfl; exact rfl; omega; omega; omega); exact rfl; exact rfl)
    | (apply WL.k_unot; (first | (apply YO.not_t; exact rfl) | (apply YO.not_f; exact rfl)); exact rfl; exact rfl)
    | (apply WL.k_uneg; (apply YO.neg; exact rfl; omega; omega); exact rfl; exact rfl)
    | (apply WL.k_max; (apply YO.max; exact rfl; exact rfl); exact rfl; exact rfl)
    | (apply WL.k_min; (apply YO.min; exact rfl; exact rfl); exact rfl; exact rfl)
    | (apply WL.k_makeFunc; (apply YO.makeFunc; (repeat (first | exact Evs.nil | (apply Evs.cons; exact rfl))); (repeat (first | exact Evs.nil | (apply Evs.cons; exact rfl)))); exact rfl; exact rfl)
    | (apply WL.k_conv; (first | (apply YO.convU; (first | exact T.u3 | exact T.u5 | exact T.u28 | exact T.u46 | exact T.u51 | exact T.u106 | exact T.u108); (first | exact T.u3 | exact T.u5 | exact T.u28 | exact T.u46 | exact T.u51 | exact T.u106 | exact T.u108); exact rfl; omega; omega) | (apply YO.convI; (first | exact T.u3 | exact T.u5 | exact T.u28 | exact T.u46 | exact T.u51 | exact T.u106 | exact T.u108); (first | exact T.u3 | exact T.u5 | exact T.u28 | exact T.u46 | exact T.u51 | exact T.u106 | exact T.u108); exact rfl; omega; omega)); exact rfl; exact rfl)
    | (apply WL.k_shl; (apply YO.shl'; exact rfl; exact rfl; omega; omega; (first | omega | decide); (first | omega | decide)); exact rfl; exact rfl)
    | (apply WL.k_shr; (apply YO.shr'; exact rfl; exact rfl; omega; omega); exact rfl; exact rfl)
    | (apply WL.k_and; (first | (apply YO.and1; exact rfl; exact rfl; omega; omega) | (apply YO.and; exact rfl; exact rfl; omega; omega; omega; omega)); exact rfl; exact rfl)
    | (apply WL.k_or; (apply YO.or; exact rfl; exact rfl; omega; omega; omega; omega); exact rfl; exact rfl)
    | (apply WL.k_andNot; (apply YO.anot; exact rfl; exact rfl); exact rfl; exact rfl)
    | (apply WL.k_slice; (first | (apply YO.sliceArr; (first | exact T.a43 | exact T.a67 | exact T.a68); exact rfl; exact rfl; omega; decide) | (apply YO.slice; (first | exact T.s22 | exact T.s23 | exact T.s39 | exact T.s44 | exact T.s60); exact rfl; (first | (focus (apply KnS.f; (focus (apply Has.mem; (repeat (first | exact List.Mem.head _ | apply List.Mem.tail)); done)); done)) | (focus (apply KnS.oI; (repeat (first | exact List.Mem.head _ | apply List.Mem.tail)); done)) | (focus (apply KnS.o1; (repeat (first | exact List.Mem.head _ | apply List.Mem.tail)); done)) | (focus (apply KnS.f; apply hasA; (focus (apply Has.mem; (repeat (first | exact List.Mem.head _ | apply List.Mem.tail)); done)); omega; done))); exact Or.inl ⟨rfl, rfl⟩; exact Or.inr ⟨_, rfl, rfl⟩; omega; omega) | (apply YO.slice; (first | exact T.s22 | exact T.s23 | exact T.s39 | exact T.s44 | exact T.s60); exact rfl; (first | (focus (apply KnS.f; (focus (apply Has.mem; (repeat (first | exact List.Mem.head _ | apply List.Mem.tail)); done)); done)) | (focus (apply KnS.oI; (repeat (first | exact List.Mem.head _ | apply List.Mem.tail)); done)) | (focus (apply KnS.o1; (repeat (first | exact List.Mem.head _ | apply List.Mem.tail)); done)) | (focus (apply KnS.f; apply hasA; (focus (apply Has.mem; (repeat (first | exact List.Mem.head _ | apply List.Mem.tail)); done)); omega; done))); exact Or.inr ⟨_, rfl, rfl⟩; exact Or.inl ⟨rfl, rfl⟩; omega; omega)); exact rfl; exact rfl)
    | apply WC.seq
    | apply WC.region
    | apply WC.block
    | (apply WC.cond_t; exact rfl)
    | (apply WC.cond_f; exact rfl)
    | apply WC.exit
    | apply WC.skip
    | apply WC.label
    | (apply WL.kl_store; rotate_left; exact rfl; (first | (apply LO.storeI; exact rfl; exact rfl; (first | exact T.z3 | exact T.z4 | exact T.z5 | exact T.z9 | exact T.z22 | exact T.z23 | exact T.z28 | exact T.z39 | exact T.z44 | exact T.z46 | exact T.z51 | exact T.z60 | exact T.z66 | exact T.z72 | exact T.z84 | exact T.z90 | exact T.z91 | exact T.z106 | exact T.z108 | exact T.z110); (repeat (first | exact Sel.head | apply Sel.tail)); (first | omega | (simp only [List.length_set, List.length_replicate]; omega))) | (apply LO.storeWI; exact rfl; exact rfl; (repeat (first | exact Sel.head | apply Sel.tail)); (first | exact T.r43 | exact T.r48 | exact T.r53 | exact T.r67 | exact T.r68 | exact T.r70 | exact T.r74 | exact T.r98); (first | omega | (simp only [List.length_set, List.length_replicate]; omega)); (first | (simp only [List.length_map, List.length_set, List.length_replicate, ints]; omega) | rfl)) | (apply LO.store1; exact rfl; exact rfl; (first | exact T.z3 | exact T.z4 | exact T.z5 | exact T.z9 | exact T.z22 | exact T.z23 | exact T.z28 | exact T.z39 | exact T.z44 | exact T.z46 | exact T.z51 | exact T.z60 | exact T.z66 | exact T.z72 | exact T.z84 | exact T.z90 | exact T.z91 | exact T.z106 | exact T.z108 | exact T.z110); (first | exact One.lit rfl rfl | (apply One.sl; (first | (focus (apply KnS.f; (focus (apply Has.mem; (repeat (first | exact List.Mem.head _ | apply List.Mem.tail)); done)); done)) | (focus (apply KnS.oI; (repeat (first | exact List.Mem.head _ | apply List.Mem.tail)); done)) | (focus (apply KnS.o1; (repeat (first | exact List.Mem.head _ | apply List.Mem.tail)); done)) | (focus (apply KnS.f; apply hasA; (focus (apply Has.mem; (repeat (first | exact List.Mem.head _ | apply List.Mem.tail)); done)); omega; done))))); (repeat (first | exact Sel.head | apply Sel.tail)); (first | (simp only [List.length_cons, List.length_nil]; omega) | (simp; omega)); (first | (simp only [List.set_cons_succ, List.set_cons_zero]; exact rfl) | exact rfl)) | (apply LO.storeO1; exact rfl; exact rfl; (first | exact T.z3 | exact T.z4 | exact T.z5 | exact T.z9 | exact T.z22 | exact T.z23 | exact T.z28 | exact T.z39 | exact T.z44 | exact T.z46 | exact T.z51 | exact T.z60 | exact T.z66 | exact T.z72 | exact T.z84 | exact T.z90 | exact T.z91 | exact T.z106 | exact T.z108 | exact T.z110); (first | exact One.lit rfl rfl | (apply One.sl; (first | (focus (apply KnS.f; (focus (apply Has.mem; (repeat (first | exact List.Mem.head _ | apply List.Mem.tail)); done)); done)) | (focus (apply KnS.oI; (repeat (first | exact List.Mem.head _ | apply List.Mem.tail)); done)) | (focus (apply KnS.o1; (repeat (first | exact List.Mem.head _ | apply List.Mem.tail)); done)) | (focus (apply KnS.f; apply hasA; (focus (apply Has.mem; (repeat (first | exact List.Mem.head _ | apply List.Mem.tail)); done)); omega; done))))); (repeat (first | exact Sel.head | apply Sel.tail)); (first | (simp only [List.length_cons, List.length_nil]; omega) | (simp; omega)); (first | (simp only [List.set_cons_succ, List.set_cons_zero]; exact rfl) | exact rfl)) | (apply LO.storeL; exact rfl; exact rfl; (repeat (first | exact Sel.head | apply Sel.tail)); (first | exact T.r43 | exact T.r48 | exact T.r53 | exact T.r67 | exact T.r68 | exact T.r70 | exact T.r74 | exact T.r98); exact rfl; exact rfl; (repeat (first | exact OneL.nil | (apply OneL.cons; (first | exact One.lit rfl rfl | (apply One.sl; (first | (focus (apply KnS.f; (focus (apply Has.mem; (repeat (first | exact List.Mem.head _ | apply List.Mem.tail)); done)); done)) | (focus (apply KnS.oI; (repeat (first | exact List.Mem.head _ | apply List.Mem.tail)); done)) | (focus (apply KnS.o1; (repeat (first | exact List.Mem.head _ | apply List.Mem.tail)); done)) | (focus (apply KnS.f; apply hasA; (focus (apply Has.mem; (repeat (first | exact List.Mem.head _ | apply List.Mem.tail)); done)); omega; done))))))))))))
  repeat (first
    | apply WL.nil
    | (apply WL.skg; exact rfl; exact rfl)
    | (apply WL.skg0; exact rfl)
    | (apply WL.k_move; (apply YO.move; exact rfl); exact rfl; exact rfl)
    | (apply WL.k_assign; (apply YO.assign; exact rfl); exact rfl; exact rfl)
    | (apply WL.k_lss; (first | (apply YO.lss_t; exact rfl; exact rfl; omega) | (apply YO.lss_f; exact rfl; exact rfl; omega)); exact rfl; exact rfl)
    | (apply WL.k_add; (first | (apply YO.inc; exact rfl; exact rfl; omega) | (apply YO.add; exact rfl; exact rfl; omega; omega)); exact rfl; exact rfl)
    | (apply WL.k_len; (apply YO.len; (first | exact T.s22 | exact T.s23 | exact T.s39 | exact T.s44 | exact T.s60); exact rfl; (first | (focus (apply KnS.f; (focus (apply Has.mem; (repeat (first | exact List.Mem.head _ | apply List.Mem.tail)); done)); done)) | (focus (apply KnS.oI; (repeat (first | exact List.Mem.head _ | apply List.Mem.tail)); done)) | (focus (apply KnS.o1; (repeat (first | exact List.Mem.head _ | apply List.Mem.tail)); done)) | (focus (apply KnS.f; apply hasA; (focus (apply Has.mem; (repeat (first | exact List.Mem.head _ | apply List.Mem.tail)); done)); omega; done)))); exact rfl; exact rfl)
    | (apply WL.k_indexAddr; (first | (apply YO.ix1; (first | exact T.s22 | exact T.s23 | exact T.s39 | exact T.s44 | exact T.s60); exact rfl; exact rfl; (first | (focus (apply KnS.f; (focus (apply Has.mem; (repeat (first | exact List.Mem.head _ | apply List.Mem.tail)); done)); done)) | (focus (apply KnS.oI; (repeat (first | exact List.Mem.head _ | apply List.Mem.tail)); done)) | (focus (apply KnS.o1; (repeat (first | exact List.Mem.head _ | apply List.Mem.tail)); done)) | (focus (apply KnS.f; apply hasA; (focus (apply Has.mem; (repeat (first | exact List.Mem.head _ | apply List.Mem.tail)); done)); omega; done))); omega) | (apply YO.ix; (first | exact T.s22 | exact T.s23 | exact T.s39 | exact T.s44 | exact T.s60); exact rfl; exact rfl; (first | (focus (apply KnS.f; (focus (apply Has.mem; (repeat (first | exact List.Mem.head _ | apply List.Mem.tail)); done)); done)) | (focus (apply KnS.oI; (repeat (first | exact List.Mem.head _ | apply List.Mem.tail)); done)) | (focus (apply KnS.o1; (repeat (first | exact List.Mem.head _ | apply List.Mem.tail)); done)) | (focus (apply KnS.f; apply hasA; (focus (apply Has.mem; (repeat (first | exact List.Mem.head _ | apply List.Mem.tail)); done)); omega; done))); omega) | (apply YO.ix1'; (first | exact T.s22 | exact T.s23 | exact T.s39 | exact T.s44 | exact T.s60); exact rfl; exact rfl; (first | (focus (apply KnS.f; (focus (apply Has.mem; (repeat (first | exact List.Mem.head _ | apply List.Mem.tail)); done)); done)) | (focus (apply KnS.oI; (repeat (first | exact List.Mem.head _ | apply List.Mem.tail)); done)) | (focus (apply KnS.o1; (repeat (first | exact List.Mem.head _ | apply List.Mem.tail)); done)) | (focus (apply KnS.f; apply hasA; (focus (apply Has.mem; (repeat (first | exact List.Mem.head _ | apply List.Mem.tail)); done)); omega; done))); omega; omega) | (apply YO.ix'; (first | exact T.s22 | exact T.s23 | exact T.s39 | exact T.s44 | exact T.s60); exact rfl; exact rfl; (first | (focus (apply KnS.f; (focus (apply Has.mem; (repeat (first | exact List.Mem.head _ | apply List.Mem.tail)); done)); done)) | (focus (apply KnS.oI; (repeat (first | exact List.Mem.head _ | apply List.Mem.tail)); done)) | (focus (apply KnS.o1; (repeat (first | exact List.Mem.head _ | apply List.Mem.tail)); done)) | (focus (apply KnS.f; apply hasA; (focus (apply Has.mem; (repeat (first | exact List.Mem.head _ | apply List.Mem.tail)); done)); omega; done))); omega; omega) | (apply YO.ixN; (first | exact T.a43 | exact T.a67 | exact T.a68); exact rfl; exact rfl; omega; ((try simp only [Nat.zero_add, Nat.mul_one, Nat.reduceAdd, Nat.reduceMul]); exact rfl)) | (apply YO.ixNI; (first | exact T.a43 | exact T.a67 | exact T.a68); exact rfl; exact rfl; omega; omega; ((try simp only [Nat.zero_add, Nat.mul_one, Nat.reduceAdd, Nat.reduceMul]); exact rfl))); exact rfl; exact rfl)
    | (apply WL.k_load; (first | (apply ldT0; (first | exact T.sc3 | exact T.sc4 | exact T.sc5 | exact T.sc9 | exact T.sc22 | exact T.sc23 | exact T.sc28 | exact T.sc39 | exact T.sc44 | exact T.sc46 | exact T.sc51 | exact T.sc60 | exact T.sc66 | exact T.sc72 | exact T.sc84 | exact T.sc90 | exact T.sc91 | exact T.sc106 | exact T.sc108 | exact T.sc110); exact rfl; (focus (apply Has.mem; (repeat (first | exact List.Mem.head _ | apply List.Mem.tail)); done)); omega) | (apply ldT1; (first | exact T.sc3 | exact T.sc4 | exact T.sc5 | exact T.sc9 | exact T.sc22 | exact T.sc23 | exact T.sc28 | exact T.sc39 | exact T.sc44 | exact T.sc46 | exact T.sc51 | exact T.sc60 | exact T.sc66 | exact T.sc72 | exact T.sc84 | exact T.sc90 | exact T.sc91 | exact T.sc106 | exact T.sc108 | exact T.sc110); exact rfl; (focus (apply Has.mem; (repeat (first | exact List.Mem.head _ | apply List.Mem.tail)); done)); omega) | (apply ldT2; (first | exact T.sc3 | exact T.sc4 | exact T.sc5 | exact T.sc9 | exact T.sc22 | exact T.sc23 | exact T.sc28 | exact T.sc39 | exact T.sc44 | exact T.sc46 | exact T.sc51 | exact T.sc60 | exact T.sc66 | exact T.sc72 | exact T.sc84 | exact T.sc90 | exact T.sc91 | exact T.sc106 | exact T.sc108 | exact T.sc110); exact rfl; (focus (apply Has.mem; (repeat (first | exact List.Mem.head _ | apply List.Mem.tail)); done)); omega) | (apply ldT; (first | exact T.r43 | exact T.r48 | exact T.r53 | exact T.r67 | exact T.r68 | exact T.r70 | exact T.r74 | exact T.r98); exact rfl; (focus (apply Has.mem; (repeat (first | exact List.Mem.head _ | apply List.Mem.tail)); done)); omega) | (apply YO.ldWI0; (first | exact T.r43 | exact T.r48 | exact T.r53 | exact T.r67 | exact T.r68 | exact T.r70 | exact T.r74 | exact T.r98); exact rfl; (focus ((repeat (first | exact List.Mem.head _ | apply List.Mem.tail)); done)); (first | omega | (simp only [List.length_set, List.length_replicate]; omega))) | (apply YO.ldWF0; (first | exact T.r43 | exact T.r48 | exact T.r53 | exact T.r67 | exact T.r68 | exact T.r70 | exact T.r74 | exact T.r98); exact rfl; (focus (apply Has.mem; (repeat (first | exact List.Mem.head _ | apply List.Mem.tail)); done)); (first | omega | (simp only [List.length_set, List.length_replicate]; omega))) | (apply YO.ldCI; (first | exact T.sc3 | exact T.sc4 | exact T.sc5 | exact T.sc9 | exact T.sc22 | exact T.sc23 | exact T.sc28 | exact T.sc39 | exact T.sc44 | exact T.sc46 | exact T.sc51 | exact T.sc60 | exact T.sc66 | exact T.sc72 | exact T.sc84 | exact T.sc90 | exact T.sc91 | exact T.sc106 | exact T.sc108 | exact T.sc110); exact rfl; (focus ((repeat (first | exact List.Mem.head _ | apply List.Mem.tail)); done)); (first | omega | (simp only [List.length_set, List.length_replicate]; omega))) | (apply YO.ldFI; (first | exact T.sc3 | exact T.sc4 | exact T.sc5 | exact T.sc9 | exact T.sc22 | exact T.sc23 | exact T.sc28 | exact T.sc39 | exact T.sc44 | exact T.sc46 | exact T.sc51 | exact T.sc60 | exact T.sc66 | exact T.sc72 | exact T.sc84 | exact T.sc90 | exact T.sc91 | exact T.sc106 | exact T.sc108 | exact T.sc110); exact rfl; (focus (apply Has.mem; (repeat (first | exact List.Mem.head _ | apply List.Mem.tail)); done)); (first | omega | (simp only [List.length_set, List.length_replicate]; omega))) | (apply YO.ldF; (first | exact T.sc3 | exact T.sc4 | exact T.sc5 | exact T.sc9 | exact T.sc22 | exact T.sc23 | exact T.sc28 | exact T.sc39 | exact T.sc44 | exact T.sc46 | exact T.sc51 | exact T.sc60 | exact T.sc66 | exact T.sc72 | exact T.sc84 | exact T.sc90 | exact T.sc91 | exact T.sc106 | exact T.sc108 | exact T.sc110); exact rfl; (focus (apply Has.mem; (repeat (first | exact List.Mem.head _ | apply List.Mem.tail)); done)); exact rfl) | (apply YO.ldS; (first | exact T.sc3 | exact T.sc4 | exact T.sc5 | exact T.sc9 | exact T.sc22 | exact T.sc23 | exact T.sc28 | exact T.sc39 | exact T.sc44 | exact T.sc46 | exact T.sc51 | exact T.sc60 | exact T.sc66 | exact T.sc72 | exact T.sc84 | exact T.sc90 | exact T.sc91 | exact T.sc106 | exact T.sc108 | exact T.sc110); exact rfl; (first | (focus (apply Has.mem; (repeat (first | exact List.Mem.head _ | apply List.Mem.tail)); done)) | (focus (apply hasA; (focus (apply Has.mem; (repeat (first | exact List.Mem.head _ | apply List.Mem.tail)); done)); omega; done)) | (focus (apply Has.sc; (focus (apply Has.mem; (repeat (first | exact List.Mem.head _ | apply List.Mem.tail)); done)); omega; omega; omega; done))); omega) | (apply YO.ldB; (first | exact T.sc3 | exact T.sc4 | exact T.sc5 | exact T.sc9 | exact T.sc22 | exact T.sc23 | exact T.sc28 | exact T.sc39 | exact T.sc44 | exact T.sc46 | exact T.sc51 | exact T.sc60 | exact T.sc66 | exact T.sc72 | exact T.sc84 | exact T.sc90 | exact T.sc91 | exact T.sc106 | exact T.sc108 | exact T.sc110); exact rfl; (focus ((repeat (first | exact List.Mem.head _ | apply List.Mem.tail)); done)); exact rfl) | (apply YO.ldOI; (first | exact T.sc3 | exact T.sc4 | exact T.sc5 | exact T.sc9 | exact T.sc22 | exact T.sc23 | exact T.sc28 | exact T.sc39 | exact T.sc44 | exact T.sc46 | exact T.sc51 | exact T.sc60 | exact T.sc66 | exact T.sc72 | exact T.sc84 | exact T.sc90 | exact T.sc91 | exact T.sc106 | exact T.sc108 | exact T.sc110); exact rfl; (focus ((repeat (first | exact List.Mem.head _ | apply List.Mem.tail)); done)); omega)); exact rfl; exact rfl)
    | (apply WL.k_pick; (first | (apply YO.pick_t; exact rfl; exact rfl) | (apply YO.pick_f; exact rfl; exact rfl)); exact rfl; exact rfl)
    | (apply WL.k_fieldAddr; (first | (apply YO.fieldE; (first | exact T.f48_0 | exact T.f48_1 | exact T.f48_2 | exact T.f53_0 | exact T.f53_1 | exact T.f53_2 | exact T.f70_0 | exact T.f70_1 | exact T.f70_2 | exact T.f70_3 | exact T.f70_4 | exact T.f74_0 | exact T.f74_1 | exact T.f74_2 | exact T.f74_3 | exact T.f74_4 | exact T.f98_0 | exact T.f98_1 | exact T.f98_2); exact rfl) | (apply YO.fieldN; (first | exact T.f48_0 | exact T.f48_1 | exact T.f48_2 | exact T.f53_0 | exact T.f53_1 | exact T.f53_2 | exact T.f70_0 | exact T.f70_1 | exact T.f70_2 | exact T.f70_3 | exact T.f70_4 | exact T.f74_0 | exact T.f74_1 | exact T.f74_2 | exact T.f74_3 | exact T.f74_4 | exact T.f98_0 | exact T.f98_1 | exact T.f98_2); exact rfl; ((try simp only [Nat.zero_add, Nat.mul_one, Nat.reduceAdd, Nat.reduceMul]); exact rfl))); exact rfl; exact rfl)
    | (apply WL.k_eql; (first | (first | (apply YO.eql_t; exact rfl; exact rfl; omega) | (apply YO.eql_f; exact rfl; exact rfl; omega)) | (apply YO.eqNil_t; (first | exact T.s22 | exact T.s23 | exact T.s39 | exact T.s44 | exact T.s60); exact rfl; (first | (focus (apply KnS.f; (focus (apply Has.mem; (repeat (first | exact List.Mem.head _ | apply List.Mem.tail)); done)); done)) | (focus (apply KnS.oI; (repeat (first | exact List.Mem.head _ | apply List.Mem.tail)); done)) | (focus (apply KnS.o1; (repeat (first | exact List.Mem.head _ | apply List.Mem.tail)); done)) | (focus (apply KnS.f; apply hasA; (focus (apply Has.mem; (repeat (first | exact List.Mem.head _ | apply List.Mem.tail)); done)); omega; done))); assumption) | (apply YO.eqNil_f; (first | exact T.s22 | exact T.s23 | exact T.s39 | exact T.s44 | exact T.s60); exact rfl; (first | (focus (apply KnS.f; (focus (apply Has.mem; (repeat (first | exact List.Mem.head _ | apply List.Mem.tail)); done)); done)) | (focus (apply KnS.oI; (repeat (first | exact List.Mem.head _ | apply List.Mem.tail)); done)) | (focus (apply KnS.o1; (repeat (first | exact List.Mem.head _ | apply List.Mem.tail)); done)) | (focus (apply KnS.f; apply hasA; (focus (apply Has.mem; (repeat (first | exact List.Mem.head _ | apply List.Mem.tail)); done)); omega; done))); assumption)); exact rfl; exact rfl)
    | (apply WL.k_neq; (first | (apply YO.neq_t; exact rfl; exact rfl; omega) | (apply YO.neq_f; exact rfl; exact rfl; omega)); exact rfl; exact rfl)
    | (apply WL.k_nil; (apply YO.nil; exact rfl); exact rfl; exact rfl)
    | (apply WL.k_extract; (apply YO.extract; exact rfl; exact rfl); exact rfl; exact rfl)
    | (apply WL.k_gtr; (first | (apply YO.gtr_t; exact rfl; exact rfl; omega) | (apply YO.gtr_f; exact rfl; exact rfl; omega)); exact rfl; exact rfl)
    | (apply WL.k_geq; (first | (apply YO.geq_t; exact rfl; exact rfl; omega) | (apply YO.geq_f; exact rfl; exact rfl; omega)); exact rfl; exact rfl)
    | (apply WL.k_leq; (first | (apply YO.leq_t; exact rfl; exact rfl; omega) | (apply YO.leq_f; exact rfl; exact rfl; omega)); exact rfl; exact rfl)
    | (apply WL.k_sub; (apply YO.sub; exact rfl; exact rfl; omega; omega); exact rfl; exact rfl)
    | (apply WL.k_mul; (apply YO.mul; exact rfl; exact rfl; omega; omega); exact rfl; exact rfl)
    | (apply WL.k_rem; (apply YO.rem; exact rfl; exact rfl; omega; omega); exact rfl; exact rfl)
    | (apply WL.k_quo; (apply YO.quo; exact rfl; exact rfl; omega; omega; omega); exact rfl; exact rfl)
    | (apply WL.k_unot; (first | (apply YO.not_t; exact rfl) | (apply YO.not_f; exact rfl)); exact rfl; exact rfl)
    | (apply WL.k_uneg; (apply YO.neg; exact rfl; omega; omega); exact rfl; exact rfl)
    | (apply WL.k_max; (apply YO.max; exact rfl; exact rfl); exact rfl; exact rfl)
    | (apply WL.k_min; (apply YO.min; exact rfl; exact rfl); exact rfl; exact rfl)
    | (apply WL.k_makeFunc; (apply YO.makeFunc; (repeat (first | exact Evs.nil | (apply Evs.cons; exact rfl))); (repeat (first | exact Evs.nil | (apply Evs.cons; exact rfl)))); exact rfl; exact rfl)
    | (apply WL.k_conv; (first | (apply YO.convU; (first | exact T.u3 | exact T.u5 | exact T.u28 | exact T.u46 | exact T.u51 | exact T.u106 | exact T.u108); (first | exact T.u3 | exact T.u5 | exact T.u28 | exact T.u46 | exact T.u51 | exact T.u106 | exact T.u108); exact rfl; omega; omega) | (apply YO.convI; (first | exact T.u3 | exact T.u5 | exact T.u28 | exact T.u46 | exact T.u51 | exact T.u106 | exact T.u108); (first | exact T.u3 | exact T.u5 | exact T.u28 | exact T.u46 | exact T.u51 | exact T.u106 | exact T.u108); exact rfl; omega; omega)); exact rfl; exact rfl)
    | (apply WL.k_shl; (apply YO.shl'; exact rfl; exact rfl; omega; omega; (first | omega | decide); (first | omega | decide)); exact rfl; exact rfl)
    | (apply WL.k_shr; (apply YO.shr'; exact rfl; exact rfl; omega; omega); exact rfl; exact rfl)
    | (apply WL.k_and; (first | (apply YO.and1; exact rfl; exact rfl; omega; omega) | (apply YO.and; exact rfl; exact rfl; omega; omega; omega; omega)); exact rfl; exact rfl)
    | (apply WL.k_or; (apply YO.or; exact rfl; exact rfl; omega; omega; omega; omega); exact rfl; exact rfl)
    | (apply WL.k_andNot; (apply YO.anot; exact rfl; exact rfl); exact rfl; exact rfl)
    | (apply WL.k_slice; (first | (apply YO.sliceArr; (first | exact T.a43 | exact T.a67 | exact T.a68); exact rfl; exact rfl; omega; decide) | (apply YO.slice; (first | exact T.s22 | exact T.s23 | exact T.s39 | exact T.s44 | exact T.s60); exact rfl; (first | (focus (apply KnS.f; (focus (apply Has.mem; (repeat (first | exact List.Mem.head _ | apply List.Mem.tail)); done)); done)) | (focus (apply KnS.oI; (repeat (first | exact List.Mem.head _ | apply List.Mem.tail)); done)) | (focus (apply KnS.o1; (repeat (first | exact List.Mem.head _ | apply List.Mem.tail)); done)) | (focus (apply KnS.f; apply hasA; (focus (apply Has.mem; (repeat (first | exact List.Mem.head _ | apply List.Mem.tail)); done)); omega; done))); exact Or.inl ⟨rfl, rfl⟩; exact Or.inr ⟨_, rfl, rfl⟩; omega; omega) | (apply YO.slice; (first | exact T.s22 | exact T.s23 | exact T.s39 | exact T.s44 | exact T.s60); exact rfl; (first | (focus (apply KnS.f; (focus (apply Has.mem; (repeat (first | exact List.Mem.head _ | apply List.Mem.tail)); done)); done)) | (focus (apply KnS.oI; (repeat (first | exact List.Mem.head _ | apply List.Mem.tail)); done)) | (focus (apply KnS.o1; (repeat (first | exact List.Mem.head _ | apply List.Mem.tail)); done)) | (focus (apply KnS.f; apply hasA; (focus (apply Has.mem; (repeat (first | exact List.Mem.head _ | apply List.Mem.tail)); done)); omega; done))); exact Or.inr ⟨_, rfl, rfl⟩; exact Or.inl ⟨rfl, rfl⟩; omega; omega)); exact rfl; exact rfl)
    | apply WC.seq
    | apply WC.region
    | apply WC.block
    | (apply WC.cond_t; exact rfl)
    | (apply WC.cond_f; exact rfl)
    | apply WC.exit
    | apply WC.skip
    | apply WC.label
    | (apply WL.kl_store; rotate_left; exact rfl; (first | (apply LO.storeI; exact rfl; exact rfl; (first | exact T.z3 | exact T.z4 | exact T.z5 | exact T.z9 | exact T.z22 | exact T.z23 | exact T.z28 | exact T.z39 | exact T.z44 | exact T.z46 | exact T.z51 | exact T.z60 | exact T.z66 | exact T.z72 | exact T.z84 | exact T.z90 | exact T.z91 | exact T.z106 | exact T.z108 | exact T.z110); (repeat (first | exact Sel.head | apply Sel.tail)); (first | omega | (simp only [List.length_set, List.length_replicate]; omega))) | (apply LO.storeWI; exact rfl; exact rfl; (repeat (first | exact Sel.head | apply Sel.tail)); (first | exact T.r43 | exact T.r48 | exact T.r53 | exact T.r67 | exact T.r68 | exact T.r70 | exact T.r74 | exact T.r98); (first | omega | (simp only [List.length_set, List.length_replicate]; omega)); (first | (simp only [List.length_map, List.length_set, List.length_replicate, ints]; omega) | rfl)) | (apply LO.store1; exact rfl; exact rfl; (first | exact T.z3 | exact T.z4 | exact T.z5 | exact T.z9 | exact T.z22 | exact T.z23 | exact T.z28 | exact T.z39 | exact T.z44 | exact T.z46 | exact T.z51 | exact T.z60 | exact T.z66 | exact T.z72 | exact T.z84 | exact T.z90 | exact T.z91 | exact T.z106 | exact T.z108 | exact T.z110); (first | exact One.lit rfl rfl | (apply One.sl; (first | (focus (apply KnS.f; (focus (apply Has.mem; (repeat (first | exact List.Mem.head _ | apply List.Mem.tail)); done)); done)) | (focus (apply KnS.oI; (repeat (first | exact List.Mem.head _ | apply List.Mem.tail)); done)) | (focus (apply KnS.o1; (repeat (first | exact List.Mem.head _ | apply List.Mem.tail)); done)) | (focus (apply KnS.f; apply hasA; (focus (apply Has.mem; (repeat (first | exact List.Mem.head _ | apply List.Mem.tail)); done)); omega; done))))); (repeat (first | exact Sel.head | apply Sel.tail)); (first | (simp only [List.length_cons, List.length_nil]; omega) | (simp; omega)); (first | (simp only [List.set_cons_succ, List.set_cons_zero]; exact rfl) | exact rfl)) | (apply LO.storeO1; exact rfl; exact rfl; (first | exact T.z3 | exact T.z4 | exact T.z5 | exact T.z9 | exact T.z22 | exact T.z23 | exact T.z28 | exact T.z39 | exact T.z44 | exact T.z46 | exact T.z51 | exact T.z60 | exact T.z66 | exact T.z72 | exact T.z84 | exact T.z90 | exact T.z91 | exact T.z106 | exact T.z108 | exact T.z110); (first | exact One.lit rfl rfl | (apply One.sl; (first | (focus (apply KnS.f; (focus (apply Has.mem; (repeat (first | exact List.Mem.head _ | apply List.Mem.tail)); done)); done)) | (focus (apply KnS.oI; (repeat (first | exact List.Mem.head _ | apply List.Mem.tail)); done)) | (focus (apply KnS.o1; (repeat (first | exact List.Mem.head _ | apply List.Mem.tail)); done)) | (focus (apply KnS.f; apply hasA; (focus (apply Has.mem; (repeat (first | exact List.Mem.head _ | apply List.Mem.tail)); done)); omega; done))))); (repeat (first | exact Sel.head | apply Sel.tail)); (first | (simp only [List.length_cons, List.length_nil]; omega) | (simp; omega)); (first | (simp only [List.set_cons_succ, List.set_cons_zero]; exact rfl) | exact rfl)) | (apply LO.storeL; exact rfl; exact rfl; (repeat (first | exact Sel.head | apply Sel.tail)); (first | exact T.r43 | exact T.r48 | exact T.r53 | exact T.r67 | exact T.r68 | exact T.r70 | exact T.r74 | exact T.r98); exact rfl; exact rfl; (repeat (first | exact OneL.nil | (apply OneL.cons; (first | exact One.lit rfl rfl | (apply One.sl; (first | (focus (apply KnS.f; (focus (apply Has.mem; (repeat (first | exact List.Mem.head _ | apply List.Mem.tail)); done)); done)) | (focus (apply KnS.oI; (repeat (first | exact List.Mem.head _ | apply List.Mem.tail)); done)) | (focus (apply KnS.o1; (repeat (first | exact List.Mem.head _ | apply List.Mem.tail)); done)) | (focus (apply KnS.f; apply hasA; (focus (apply Has.mem; (repeat (first | exact List.Mem.head _ | apply List.Mem.tail)); done)); omega; done))))))))))))
  exact Bx.h h) : G := s ⟨h⟩
theorem goD {G G' : Prop} (h : G') (s : Bx G' → G := by
  intro h
  (first
    | apply WD.nil
    | (apply WD.skg; exact rfl; exact rfl; exact rfl)
    | (apply WD.skgl; exact rfl; exact rfl; exact rfl)
    | (apply WD.skgl0; exact rfl; exact rfl)
    | (apply WD.k_move; exact rfl; (apply YO.move; exact rfl); exact rfl; exact rfl)
    | (apply WD.k_assign; exact rfl; (apply YO.assign; exact rfl); exact rfl; exact rfl)
    | (apply WD.k_lss; exact rfl; (first | (apply YO.lss_t; exact rfl; exact rfl; omega) | (apply YO.lss_f; exact rfl; exact rfl; omega)); exact rfl; exact rfl)
    | (apply WD.k_add; exact rfl; (first | (apply YO.inc; exact rfl; exact rfl; omega) | (apply YO.add; exact rfl; exact rfl; omega; omega)); exact rfl; exact rfl)
    | (apply WD.k_len; exact rfl; (apply YO.len; (first | exact T.s22 | exact T.s23 | exact T.s39 | exact T.s44 | exact T.s60); exact rfl; (first | (focus (apply KnS.f; (focus (apply Has.mem; (repeat (first | exact List.Mem.head _ | apply List.Mem.tail)); done)); done)) | (focus (apply KnS.oI; (repeat (first | exact List.Mem.head _ | apply List.Mem.tail)); done)) | (focus (apply KnS.o1; (repeat (first | exact List.Mem.head _ | apply List.Mem.tail)); done)) | (focus (apply KnS.f; apply hasA; (focus (apply Has.mem; (repeat (first | exact List.Mem.head _ | apply List.Mem.tail)); done)); omega; done)))); exact rfl; exact rfl)
    | (apply WD.k_indexAddr; exact rfl; (first | (apply YO.ix1; (first | exact T.s22 | exact T.s23 | exact T.s39 | exact T.s44 | exact T.s60); exact rfl; exact rfl; (first | (focus (apply KnS.f; (focus (apply Has.mem; (repeat (first | exact List.Mem.head _ | apply List.Mem.tail)); done)); done)) | (focus (apply KnS.oI; (repeat (first | exact List.Mem.head _ | apply List.Mem.tail)); done)) | (focus (apply KnS.o1; (repeat (first | exact List.Mem.head _ | apply List.Mem.tail)); done)) | (focus (apply KnS.f; apply hasA; (focus (apply Has.mem; (repeat (first | exact List.Mem.head _ | apply List.Mem.tail)); done)); omega; done))); omega) | (apply YO.ix; (first | exact T.s22 | exact T.s23 | exact T.s39 | exact T.s44 | exact T.s60); exact rfl; exact rfl; (first | (focus (apply KnS.f; (focus (apply Has.mem; (repeat (first | exact List.Mem.head _ | apply List.Mem.tail)); done)); done)) | (focus (apply KnS.oI; (repeat (first | exact List.Mem.head _ | apply List.Mem.tail)); done)) | (focus (apply KnS.o1; (repeat (first | exact List.Mem.head _ | apply List.Mem.tail)); done)) | (focus (apply KnS.f; apply hasA; (focus (apply Has.mem; (repeat (first | exact List.Mem.head _ | apply List.Mem.tail)); done)); omega; done))); omega) | (apply YO.ix1'; (first | exact T.s22 | exact T.s23 | exact T.s39 | exact T.s44 | exact T.s60); exact rfl; exact rfl; (first | (focus (apply KnS.f; (focus (apply Has.mem; (repeat (first | exact List.Mem.head _ | apply List.Mem.tail)); done)); done)) | (focus (apply KnS.oI; (repeat (first | exact List.Mem.head _ | apply List.Mem.tail)); done)) | (focus (apply KnS.o1; (repeat (first | exact List.Mem.head _ | apply List.Mem.tail)); done)) | (focus (apply KnS.f; apply hasA; (focus (apply Has.mem; (repeat (first | exact List.Mem.head _ | apply List.Mem.tail)); done)); omega; done))); omega; omega) | (apply YO.ix'; (first | exact T.s22 | exact T.s23 | exact T.s39 | exact T.s44 | exact T.s60); exact rfl; exact rfl; (first | (focus (apply KnS.f; (focus (apply Has.mem; (repeat (first | exact List.Mem.head _ | apply List.Mem.tail)); done)); done)) | (focus (apply KnS.oI; (repeat (first | exact List.Mem.head _ | apply List.Mem.tail)); done)) | (focus (apply KnS.o1; (repeat (first | exact List.Mem.head _ | apply List.Mem.tail)); done)) | (focus (apply KnS.f; apply hasA; (focus (apply Has.mem; (repeat (first | exact List.Mem.head _ | apply List.Mem.tail)); done)); omega; done))); omega; omega) | (apply YO.ixN; (first | exact T.a43 | exact T.a67 | exact T.a68); exact rfl; exact rfl; omega; ((try simp only [Nat.zero_add, Nat.mul_one, Nat.reduceAdd, Nat.reduceMul]); exact rfl)) | (apply YO.ixNI; (first | exact T.a43 | exact T.a67 | exact T.a68); exact rfl; exact rfl; omega; omega; ((try simp only [Nat.zero_add, Nat.mul_one, Nat.reduceAdd, Nat.reduceMul]); exact rfl))); exact rfl; exact rfl)
    | (apply WD.k_load; exact rfl; (first | (apply ldT0; (first | exact T.sc3 | exact T.sc4 | exact T.sc5 | exact T.sc9 | exact T.sc22 | exact T.sc23 | exact T.sc28 | exact T.sc39 | exact T.sc44 | exact T.sc46 | exact T.sc51 | exact T.sc60 | exact T.sc66 | exact T.sc72 | exact T.sc84 | exact T.sc90 | exact T.sc91 | exact T.sc106 | exact T.sc108 | exact T.sc110); exact rfl; (focus (apply Has.mem; (repeat (first | exact List.Mem.head _ | apply List.Mem.tail)); done)); omega) | (apply ldT1; (first | exact T.sc3 | exact T.sc4 | exact T.sc5 | exact T.sc9 | exact T.sc22 | exact T.sc23 | exact T.sc28 | exact T.sc39 | exact T.sc44 | exact T.sc46 | exact T.sc51 | exact T.sc60 | exact T.sc66 | exact T.sc72 | exact T.sc84 | exact T.sc90 | exact T.sc91 | exact T.sc106 | exact T.sc108 | exact T.sc110); exact rfl; (focus (apply Has.mem; (repeat (first | exact List.Mem.head _ | apply List.Mem.tail)); done)); omega) | (apply ldT2; (first | exact T.sc3 | exact T.sc4 | exact T.sc5 | exact T.sc9 | exact T.sc22 | exact T.sc23 | exact T.sc28 | exact T.sc39 | exact T.sc44 | exact T.sc46 | exact T.sc51 | exact T.sc60 | exact T.sc66 | exact T.sc72 | exact T.sc84 | exact T.sc90 | exact T.sc91 | exact T.sc106 | exact T.sc108 | exact T.sc110); exact rfl; (focus (apply Has.mem; (repeat (first | exact List.Mem.head _ | apply List.Mem.tail)); done)); omega) | (apply ldT; (first | exact T.r43 | exact T.r48 | exact T.r53 | exact T.r67 | exact T.r68 | exact T.r70 | exact T.r74 | exact T.r98); exact rfl; (focus (apply Has.mem; (repeat (first | exact List.Mem.head _ | apply List.Mem.tail)); done)); omega) | (apply YO.ldWI0; (first | exact T.r43 | exact T.r48 | exact T.r53 | exact T.r67 | exact T.r68 | exact T.r70 | exact T.r74 | exact T.r98); exact rfl; (focus ((repeat (first | exact List.Mem.head _ | apply List.Mem.tail)); done)); (first | omega | (simp only [List.length_set, List.length_replicate]; omega))) | (apply YO.ldWF0; (first | exact T.r43 | exact T.r48 | exact T.r53 | exact T.r67 | exact T.r68 | exact T.r70 | exact T.r74 | exact T.r98); exact rfl; (focus (apply Has.mem; (repeat (first | exact List.Mem.head _ | apply List.Mem.tail)); done)); (first | omega | (simp only [List.length_set, List.length_replicate]; omega))) | (apply YO.ldCI; (first | exact T.sc3 | exact T.sc4 | exact T.sc5 | exact T.sc9 | exact T.sc22 | exact T.sc23 | exact T.sc28 | exact T.sc39 | exact T.sc44 | exact T.sc46 | exact T.sc51 | exact T.sc60 | exact T.sc66 | exact T.sc72 | exact T.sc84 | exact T.sc90 | exact T.sc91 | exact T.sc106 | exact T.sc108 | exact T.sc110); exact rfl; (focus ((repeat (first | exact List.Mem.head _ | apply List.Mem.tail)); done)); (first | omega | (simp only [List.length_set, List.length_replicate]; omega))) | (apply YO.ldFI; (first | exact T.sc3 | exact T.sc4 | exact T.sc5 | exact T.sc9 | exact T.sc22 | exact T.sc23 | exact T.sc28 | exact T.sc39 | exact T.sc44 | exact T.sc46 | exact T.sc51 | exact T.sc60 | exact T.sc66 | exact T.sc72 | exact T.sc84 | exact T.sc90 | exact T.sc91 | exact T.sc106 | exact T.sc108 | exact T.sc110); exact rfl; (focus (apply Has.mem; (repeat (first | exact List.Mem.head _ | apply List.Mem.tail)); done)); (first | omega | (simp only [List.length_set, List.length_replicate]; omega))) | (apply YO.ldF; (first | exact T.sc3 | exact T.sc4 | exact T.sc5 | exact T.sc9 | exact T.sc22 | exact T.sc23 | exact T.sc28 | exact T.sc39 | exact T.sc44 | exact T.sc46 | exact T.sc51 | exact T.sc60 | exact T.sc66 | exact T.sc72 | exact T.sc84 | exact T.sc90 | exact T.sc91 | exact T.sc106 | exact T.sc108 | exact T.sc110); exact rfl; (focus (apply Has.mem; (repeat (first | exact List.Mem.head _ | apply List.Mem.tail)); done)); exact rfl) | (apply YO.ldS; (first | exact T.sc3 | exact T.sc4 | exact T.sc5 | exact T.sc9 | exact T.sc22 | exact T.sc23 | exact T.sc28 | exact T.sc39 | exact T.sc44 | exact T.sc46 | exact T.sc51 | exact T.sc60 | exact T.sc66 | exact T.sc72 | exact T.sc84 | exact T.sc90 | exact T.sc91 | exact T.sc106 | exact T.sc108 | exact T.sc110); exact rfl; (first | (focus (apply Has.mem; (repeat (first | exact List.Mem.head _ | apply List.Mem.tail)); done)) | (focus (apply hasA; (focus (apply Has.mem; (repeat (first | exact List.Mem.head _ | apply List.Mem.tail)); done)); omega; done)) | (focus (apply Has.sc; (focus (apply Has.mem; (repeat (first | exact List.Mem.head _ | apply List.Mem.tail)); done)); omega; omega; omega; done))); omega) | (apply YO.ldB; (first | exact T.sc3 | exact T.sc4 | exact T.sc5 | exact T.sc9 | exact T.sc22 | exact T.sc23 | exact T.sc28 | exact T.sc39 | exact T.sc44 | exact T.sc46 | exact T.sc51 | exact T.sc60 | exact T.sc66 | exact T.sc72 | exact T.sc84 | exact T.sc90 | exact T.sc91 | exact T.sc106 | exact T.sc108 | exact T.sc110); exact rfl; (focus ((repeat (first | exact List.Mem.head _ | apply List.Mem.tail)); done)); exact rfl) | (apply YO.ldOI; (first | exact T.sc3 | exact T.sc4 | exact T.sc5 | exact T.sc9 | exact T.sc22 | exact T.sc23 | exact T.sc28 | exact T.sc39 | exact T.sc44 | exact T.sc46 | exact T.sc51 | exact T.sc60 | exact T.sc66 | exact T.sc72 | exact T.sc84 | exact T.sc90 | exact T.sc91 | exact T.sc106 | exact T.sc108 | exact T.sc110); exact rfl; (focus ((repeat (first | exact List.Mem.head _ | apply List.Mem.tail)); done)); omega)); exact rfl; exact rfl)
    | (apply WD.k_pick; exact rfl; (first | (apply YO.pick_t; exact rfl; exact rfl) | (apply YO.pick_f; exact rfl; exact rfl)); exact rfl; exact rfl)
    | (apply WD.k_fieldAddr; exact rfl; (first | (apply YO.fieldE; (first | exact T.f48_0 | exact T.f48_1 | exact T.f48_2 | exact T.f53_0 | exact T.f53_1 | exact T.f53_2 | exact T.f70_0 | exact T.f70_1 | exact T.f70_2 | exact T.f70_3 | exact T.f70_4 | exact T.f74_0 | exact T.f74_1 | exact T.f74_2 | exact T.f74_3 | exact T.f74_4 | exact T.f98_0 | exact T.f98_1 | exact T.f98_2); exact rfl) | (apply YO.fieldN; (first | exact T.f48_0 | exact T.f48_1 | exact T.f48_2 | exact T.f53_0 | exact T.f53_1 | exact T.f53_2 | exact T.f70_0 | exact T.f70_1 | exact T.f70_2 | exact T.f70_3 | exact T.f70_4 | exact T.f74_0 | exact T.f74_1 | exact T.f74_2 | exact T.f74_3 | exact T.f74_4 | exact T.f98_0 | exact T.f98_1 | exact T.f98_2); exact rfl; ((try simp only [Nat.zero_add, Nat.mul_one, Nat.reduceAdd, Nat.reduceMul]); exact rfl))); exact rfl; exact rfl)
    | (apply WD.k_eql; exact rfl; (first | (first | (apply YO.eql_t; exact rfl; exact rfl; omega) | (apply YO.eql_f; exact rfl; exact rfl; omega)) | (apply YO.eqNil_t; (first | exact T.s22 | exact T.s23 | exact T.s39 | exact T.s44 | exact T.s60); exact rfl; (first | (focus (apply KnS.f; (focus (apply Has.mem; (repeat (first | exact List.Mem.head _ | apply List.Mem.tail)); done)); done)) | (focus (apply KnS.oI; (repeat (first | exact List.Mem.head _ | apply List.Mem.tail)); done)) | (focus (apply KnS.o1; (repeat (first | exact List.Mem.head _ | apply List.Mem.tail)); done)) | (focus (apply KnS.f; apply hasA; (focus (apply Has.mem; (repeat (first | exact List.Mem.head _ | apply List.Mem.tail)); done)); omega; done))); assumption) | (apply YO.eqNil_f; (first | exact T.s22 | exact T.s23 | exact T.s39 | exact T.s44 | exact T.s60); exact rfl; (first | (focus (apply KnS.f; (focus (apply Has.mem; (repeat (first | exact List.Mem.head _ | apply List.Mem.tail)); done)); done)) | (focus (apply KnS.oI; (repeat (first | exact List.Mem.head _ | apply List.Mem.tail)); done)) | (focus (apply KnS.o1; (repeat (first | exact List.Mem.head _ | apply List.Mem.tail)); done)) | (focus (apply KnS.f; apply hasA; (focus (apply Has.mem; (repeat (first | exact List.Mem.head _ | apply List.Mem.tail)); done)); omega; done))); assumption)); exact rfl; exact rfl)
    | (apply WD.k_neq; exact rfl; (first | (apply YO.neq_t; exact rfl; exact rfl; omega) | (apply YO.neq_f; exact rfl; exact rfl; omega)); exact rfl; exact rfl)
    | (apply WD.k_nil; exact rfl; (apply YO.nil; exact rfl); exact rfl; exact rfl)
    | (apply WD.k_extract; exact rfl; (apply YO.extract; exact rfl; exact rfl); exact rfl; exact rfl)
    | (apply WD.k_gtr; exact rfl; (first | (apply YO.gtr_t; exact rfl; exact rfl; omega) | (apply YO.gtr_f; exact rfl; exact rfl; omega)); exact rfl; exact rfl)
    | (apply WD.k_geq; exact rfl; (first | (apply YO.geq_t; exact rfl; exact rfl; omega) | (apply YO.geq_f; exact rfl; exact rfl; omega)); exact rfl; exact rfl)
    | (apply WD.k_leq; exact rfl; (first | (apply YO.leq_t; exact rfl; exact rfl; omega) | (apply YO.leq_f; exact rfl; exact rfl; omega)); exact rfl; exact rfl)
    | (apply WD.k_sub; exact rfl; (apply YO.sub; exact rfl; exact rfl; omega; omega); exact rfl; exact rfl)
    | (apply WD.k_mul; exact rfl; (apply YO.mul; exact rfl; exact rfl; omega; omega); exact rfl; exact rfl)
    | (apply WD.k_rem; exact rfl; (apply YO.rem; exact rfl; exact rfl; omega; omega); exact rfl; exact rfl)
    | (apply WD.k_quo; exact rfl; (apply YO.quo; exact rfl; exact rfl; omega; omega; omega); exact rfl; exact rfl)
    | (apply WD.k_unot; exact rfl; (first | (apply YO.not_t; exact rfl) | (apply YO.not_f; exact rfl)); exact rfl; exact rfl)
    | (apply WD.k_uneg; exact rfl; (apply YO.neg; exact rfl; omega; omega); exact rfl; exact rfl)
    | (apply WD.k_max; exact rfl; (apply YO.max; exact rfl; exact rfl); exact rfl; exact rfl)
    | (apply WD.k_min; exact rfl; (apply YO.min; exact rfl; exact rfl); exact rfl; exact rfl)
    | (apply WD.k_makeFunc; exact rfl; (apply YO.makeFunc; (repeat (first | exact Evs.nil | (apply Evs.cons; exact rfl))); (repeat (first | exact Evs.nil | (apply Evs.cons; exact rfl)))); exact rfl; exact rfl)
    | (apply WD.k_conv; exact rfl; (first | (apply YO.convU; (first | exact T.u3 | exact T.u5 | exact T.u28 | exact T.u46 | exact T.u51 | exact T.u106 | exact T.u108); (first | exact T.u3 | exact T.u5 | exact T.u28 | exact T.u46 | exact T.u51 | exact T.u106 | exact T.u108); exact rfl; omega; omega) | (apply YO.convI; (first | exact T.u3 | exact T.u5 | exact T.u28 | exact T.u46 | exact T.u51 | exact T.u106 | exact T.u108); (first | exact T.u3 | exact T.u5 | exact T.u28 | exact T.u46 | exact T.u51 | exact T.u106 | exact T.u108); exact rfl; omega; omega)); exact rfl; exact rfl)
    | (apply WD.k_shl; exact rfl; (apply YO.shl'; exact rfl; exact rfl; omega; omega; (first | omega | decide); (first | omega | decide)); exact rfl; exact rfl)
    | (apply WD.k_shr; exact rfl; (apply YO.shr'; exact rfl; exact rfl; omega; omega); exact rfl; exact rfl)
    | (apply WD.k_and; exact rfl; (first | (apply YO.and1; exact rfl; exact rfl; omega; omega) | (apply YO.and; exact rfl; exact rfl; omega; omega; omega; omega)); exact rfl; exact rfl)
    | (apply WD.k_or; exact rfl; (apply YO.or; exact rfl; exact rfl; omega; omega; omega; omega); exact rfl; exact rfl)
    | (apply WD.k_andNot; exact rfl; (apply YO.anot; exact rfl; exact rfl); exact rfl; exact rfl)
    | (apply WD.k_slice; exact rfl; (first | (apply YO.sliceArr; (first | exact T.a43 | exact T.a67 | exact T.a68); exact rfl; exact rfl; omega; decide) | (apply YO.slice; (first | exact T.s22 | exact T.s23 | exact T.s39 | exact T.s44 | exact T.s60); exact rfl; (first | (focus (apply KnS.f; (focus (apply Has.mem; (repeat (first | exact List.Mem.head _ | apply List.Mem.tail)); done)); done)) | (focus (apply KnS.oI; (repeat (first | exact List.Mem.head _ | apply List.Mem.tail)); done)) | (focus (apply KnS.o1; (repeat (first | exact List.Mem.head _ | apply List.Mem.tail)); done)) | (focus (apply KnS.f; apply hasA; (focus (apply Has.mem; (repeat (first | exact List.Mem.head _ | apply List.Mem.tail)); done)); omega; done))); exact Or.inl ⟨rfl, rfl⟩; exact Or.inr ⟨_, rfl, rfl⟩; omega; omega) | (apply YO.slice; (first | exact T.s22 | exact T.s23 | exact T.s39 | exact T.s44 | exact T.s60); exact rfl; (first | (focus (apply KnS.f; (focus (apply Has.mem; (repeat (first | exact List.Mem.head _ | apply List.Mem.tail)); done)); done)) | (focus (apply KnS.oI; (repeat (first | exact List.Mem.head _ | apply List.Mem.tail)); done)) | (focus (apply KnS.o1; (repeat (first | exact List.Mem.head _ | apply List.Mem.tail)); done)) | (focus (apply KnS.f; apply hasA; (focus (apply Has.mem; (repeat (first | exact List.Mem.head _ | apply List.Mem.tail)); done)); omega; done))); exact Or.inr ⟨_, rfl, rfl⟩; exact Or.inl ⟨rfl, rfl⟩; omega; omega)); exact rfl; exact rfl)
    | (apply WD.kl_store; exact rfl; rotate_left; exact rfl; (first | (apply LO.storeI; exact rfl; exact rfl; (first | exact T.z3 | exact T.z4 | exact T.z5 | exact T.z9 | exact T.z22 | exact T.z23 | exact T.z28 | exact T.z39 | exact T.z44 | exact T.z46 | exact T.z51 | exact T.z60 | exact T.z66 | exact T.z72 | exact T.z84 | exact T.z90 | exact T.z91 | exact T.z106 | exact T.z108 | exact T.z110); (repeat (first | exact Sel.head | apply Sel.tail)); (first | omega | (simp only [List.length_set, List.length_replicate]; omega))) | (apply LO.storeWI; exact rfl; exact rfl; (repeat (first | exact Sel.head | apply Sel.tail)); (first | exact T.r43 | exact T.r48 | exact T.r53 | exact T.r67 | exact T.r68 | exact T.r70 | exact T.r74 | exact T.r98); (first | omega | (simp only [List.length_set, List.length_replicate]; omega)); (first | (simp only [List.length_map, List.length_set, List.length_replicate, ints]; omega) | rfl)) | (apply LO.store1; exact rfl; exact rfl; (first | exact T.z3 | exact T.z4 | exact T.z5 | exact T.z9 | exact T.z22 | exact T.z23 | exact T.z28 | exact T.z39 | exact T.z44 | exact T.z46 | exact T.z51 | exact T.z60 | exact T.z66 | exact T.z72 | exact T.z84 | exact T.z90 | exact T.z91 | exact T.z106 | exact T.z108 | exact T.z110); (first | exact One.lit rfl rfl | (apply One.sl; (first | (focus (apply KnS.f; (focus (apply Has.mem; (repeat (first | exact List.Mem.head _ | apply List.Mem.tail)); done)); done)) | (focus (apply KnS.oI; (repeat (first | exact List.Mem.head _ | apply List.Mem.tail)); done)) | (focus (apply KnS.o1; (repeat (first | exact List.Mem.head _ | apply List.Mem.tail)); done)) | (focus (apply KnS.f; apply hasA; (focus (apply Has.mem; (repeat (first | exact List.Mem.head _ | apply List.Mem.tail)); done)); omega; done))))); (repeat (first | exact Sel.head | apply Sel.tail)); (first | (simp only [List.length_cons, List.length_nil]; omega) | (simp; omega)); (first | (simp only [List.set_cons_succ, List.set_cons_zero]; exact rfl) | exact rfl)) | (apply LO.storeO1; exact rfl; exact rfl; (first | exact T.z3 | exact T.z4 | exact T.z5 | exact T.z9 | exact T.z22 | exact T.z23 | exact T.z28 | exact T.z39 | exact T.z44 | exact T.z46 | exact T.z51 | exact T.z60 | exact T.z66 | exact T.z72 | exact T.z84 | exact T.z90 | exact T.z91 | exact T.z106 | exact T.z108 | exact T.z110); (first | exact One.lit rfl rfl | (apply One.sl; (first | (focus (apply KnS.f; (focus (apply Has.mem; (repeat (first | exact List.Mem.head _ | apply List.Mem.tail)); done)); done)) | (focus (apply KnS.oI; (repeat (first | exact List.Mem.head _ | apply List.Mem.tail)); done)) | (focus (apply KnS.o1; (repeat (first | exact List.Mem.head _ | apply List.Mem.tail)); done)) | (focus (apply KnS.f; apply hasA; (focus (apply Has.mem; (repeat (first | exact List.Mem.head _ | apply List.Mem.tail)); done)); omega; done))))); (repeat (first | exact Sel.head | apply Sel.tail)); (first | (simp only [List.length_cons, List.length_nil]; omega) | (simp; omega)); (first | (simp only [List.set_cons_succ, List.set_cons_zero]; exact rfl) | exact rfl)) | (apply LO.storeL; exact rfl; exact rfl; (repeat (first | exact Sel.head | apply Sel.tail)); (first | exact T.r43 | exact T.r48 | exact T.r53 | exact T.r67 | exact T.r68 | exact T.r70 | exact T.r74 | exact T.r98); exact rfl; exact rfl; (repeat (first | exact OneL.nil | (apply OneL.cons; (first | exact One.lit rfl rfl | (apply One.sl; (first | (focus (apply KnS.f; (focus (apply Has.mem; (repeat (first | exact List.Mem.head _ | apply List.Mem.tail)); done)); done)) | (focus (apply KnS.oI; (repeat (first | exact List.Mem.head _ | apply List.Mem.tail)); done)) | (focus (apply KnS.o1; (repeat (first | exact List.Mem.head _ | apply List.Mem.tail)); done)) | (focus (apply KnS.f; apply hasA; (focus (apply Has.mem; (repeat (first | exact List.Mem.head _ | apply List.Mem.tail)); done)); omega; done)))))))))); constructor; (first | (focus (apply Or.inr; constructor; (repeat (first | exact List.Sublist.refl _ | exact List.nil_sublist _ | apply List.Sublist.cons_cons | apply List.Sublist.cons)); exact fun _ h => h; done)) | (apply Or.inl; kernel_rfl))))
  repeat (first
    | apply WD.nil
    | (apply WD.skg; exact rfl; exact rfl; exact rfl)
    | (apply WD.skgl; exact rfl; exact rfl; exact rfl)
    | (apply WD.skgl0; exact rfl; exact rfl)
    | (apply WD.k_move; exact rfl; (apply YO.move; exact rfl); exact rfl; exact rfl)
    | (apply WD.k_assign; exact rfl; (apply YO.assign; exact rfl); exact rfl; exact rfl)
    | (apply WD.k_lss; exact rfl; (first | (apply YO.lss_t; exact rfl; exact rfl; omega) | (apply YO.lss_f; exact rfl; exact rfl; omega)); exact rfl; exact rfl)
    | (apply WD.k_add; exact rfl; (first | (apply YO.inc; exact rfl; exact rfl; omega) | (apply YO.add; exact rfl; exact rfl; omega; omega)); exact rfl; exact rfl)
    | (apply WD.k_len; exact rfl; (apply YO.len; (first | exact T.s22 | exact T.s23 | exact T.s39 | exact T.s44 | exact T.s60); exact rfl; (first | (focus (apply KnS.f; (focus (apply Has.mem; (repeat (first | exact List.Mem.head _ | apply List.Mem.tail)); done)); done)) | (focus (apply KnS.oI; (repeat (first | exact List.Mem.head _ | apply List.Mem.tail)); done)) | (focus (apply KnS.o1; (repeat (first | exact List.Mem.head _ | apply List.Mem.tail)); done)) | (focus (apply KnS.f; apply hasA; (focus (apply Has.mem; (repeat (first | exact List.Mem.head _ | apply List.Mem.tail)); done)); omega; done)))); exact rfl; exact rfl)
    | (apply WD.k_indexAddr; exact rfl; (first | (apply YO.ix1; (first | exact T.s22 | exact T.s23 | exact T.s39 | exact T.s44 | exact T.s60); exact rfl; exact rfl; (first | (focus (apply KnS.f; (focus (apply Has.mem; (repeat (first | exact List.Mem.head _ | apply List.Mem.tail)); done)); done)) | (focus (apply KnS.oI; (repeat (first | exact List.Mem.head _ | apply List.Mem.tail)); done)) | (focus (apply KnS.o1; (repeat (first | exact List.Mem.head _ | apply List.Mem.tail)); done)) | (focus (apply KnS.f; apply hasA; (focus (apply Has.mem; (repeat (first | exact List.Mem.head _ | apply List.Mem.tail)); done)); omega; done))); omega) | (apply YO.ix; (first | exact T.s22 | exact T.s23 | exact T.s39 | exact T.s44 | exact T.s60); exact rfl; exact rfl; (first | (focus (apply KnS.f; (focus (apply Has.mem; (repeat (first | exact List.Mem.head _ | apply List.Mem.tail)); done)); done)) | (focus (apply KnS.oI; (repeat (first | exact List.Mem.head _ | apply List.Mem.tail)); done)) | (focus (apply KnS.o1; (repeat (first | exact List.Mem.head _ | apply List.Mem.tail)); done)) | (focus (apply KnS.f; apply hasA; (focus (apply Has.mem; (repeat (first | exact List.Mem.head _ | apply List.Mem.tail)); done)); omega; done))); omega) | (apply YO.ix1'; (first | exact T.s22 | exact T.s23 | exact T.s39 | exact T.s44 | exact T.s60); exact rfl; exact rfl; (first | (focus (apply KnS.f; (focus (apply Has.mem; (repeat (first | exact List.Mem.head _ | apply List.Mem.tail)); done)); done)) | (focus (apply KnS.oI; (repeat (first | exact List.Mem.head _ | apply List.Mem.tail)); done)) | (focus (apply KnS.o1; (repeat (first | exact List.Mem.head _ | apply List.Mem.tail)); done)) | (focus (apply KnS.f; apply hasA; (focus (apply Has.mem; (repeat (first | exact List.Mem.head _ | apply List.Mem.tail)); done)); omega; done))); omega; omega) | (apply YO.ix'; (first | exact T.s22 | exact T.s23 | exact T.s39 | exact T.s44 | exact T.s60); exact rfl; exact rfl; (first | (focus (apply KnS.f; (focus (apply Has.mem; (repeat (first | exact List.Mem.head _ | apply List.Mem.tail)); done)); done)) | (focus (apply KnS.oI; (repeat (first | exact List.Mem.head _ | apply List.Mem.tail)); done)) | (focus (apply KnS.o1; (repeat (first | exact List.Mem.head _ | apply List.Mem.tail)); done)) | (focus (apply KnS.f; apply hasA; (focus (apply Has.mem; (repeat (first | exact List.Mem.head _ | apply List.Mem.tail)); done)); omega; done))); omega; omega) | (apply YO.ixN; (first | exact T.a43 | exact T.a67 | exact T.a68); exact rfl; exact rfl; omega; ((try simp only [Nat.zero_add, Nat.mul_one, Nat.reduceAdd, Nat.reduceMul]); exact rfl)) | (apply YO.ixNI; (first | exact T.a43 | exact T.a67 | exact T.a68); exact rfl; exact rfl; omega; omega; ((try simp only [Nat.zero_add, Nat.mul_one, Nat.reduceAdd, Nat.reduceMul]); exact rfl))); exact rfl; exact rfl)
    | (apply WD.k_load; exact rfl; (first | (apply ldT0; (first | exact T.sc3 | exact T.sc4 | exact T.sc5 | exact T.sc9 | exact T.sc22 | exact T.sc23 | exact T.sc28 | exact T.sc39 | exact T.sc44 | exact T.sc46 | exact T.sc51 | exact T.sc60 | exact T.sc66 | exact T.sc72 | exact T.sc84 | exact T.sc90 | exact T.sc91 | exact T.sc106 | exact T.sc108 | exact T.sc110); exact rfl; (focus (apply Has.mem; (repeat (first | exact List.Mem.head _ | apply List.Mem.tail)); done)); omega) | (apply ldT1; (first | exact T.sc3 | exact T.sc4 | exact T.sc5 | exact T.sc9 | exact T.sc22 | exact T.sc23 | exact T.sc28 | exact T.sc39 | exact T.sc44 | exact T.sc46 | exact T.sc51 | exact T.sc60 | exact T.sc66 | exact T.sc72 | exact T.sc84 | exact T.sc90 | exact T.sc91 | exact T.sc106 | exact T.sc108 | exact T.sc110); exact rfl; (focus (apply Has.mem; (repeat (first | exact List.Mem.head _ | apply List.Mem.tail)); done)); omega) | (apply ldT2; (first | exact T.sc3 | exact T.sc4 | exact T.sc5 | exact T.sc9 | exact T.sc22 | exact T.sc23 | exact T.sc28 | exact T.sc39 | exact T.sc44 | exact T.sc46 | exact T.sc51 | exact T.sc60 | exact T.sc66 | exact T.sc72 | exact T.sc84 | exact T.sc90 | exact T.sc91 | exact T.sc106 | exact T.sc108 | exact T.sc110); exact rfl; (focus (apply Has.mem; (repeat (first | exact List.Mem.head _ | apply List.Mem.tail)); done)); omega) | (apply ldT; (first | exact T.r43 | exact T.r48 | exact T.r53 | exact T.r67 | exact T.r68 | exact T.r70 | exact T.r74 | exact T.r98); exact rfl; (focus (apply Has.mem; (repeat (first | exact List.Mem.head _ | apply List.Mem.tail)); done)); omega) | (apply YO.ldWI0; (first | exact T.r43 | exact T.r48 | exact T.r53 | exact T.r67 | exact T.r68 | exact T.r70 | exact T.r74 | exact T.r98); exact rfl; (focus ((repeat (first | exact List.Mem.head _ | apply List.Mem.tail)); done)); (first | omega | (simp only [List.length_set, List.length_replicate]; omega))) | (apply YO.ldWF0; (first | exact T.r43 | exact T.r48 | exact T.r53 | exact T.r67 | exact T.r68 | exact T.r70 | exact T.r74 | exact T.r98); exact rfl; (focus (apply Has.mem; (repeat (first | exact List.Mem.head _ | apply List.Mem.tail)); done)); (first | omega | (simp only [List.length_set, List.length_replicate]; omega))) | (apply YO.ldCI; (first | exact T.sc3 | exact T.sc4 | exact T.sc5 | exact T.sc9 | exact T.sc22 | exact T.sc23 | exact T.sc28 | exact T.sc39 | exact T.sc44 | exact T.sc46 | exact T.sc51 | exact T.sc60 | exact T.sc66 | exact T.sc72 | exact T.sc84 | exact T.sc90 | exact T.sc91 | exact T.sc106 | exact T.sc108 | exact T.sc110); exact rfl; (focus ((repeat (first | exact List.Mem.head _ | apply List.Mem.tail)); done)); (first | omega | (simp only [List.length_set, List.length_replicate]; omega))) | (apply YO.ldFI; (first | exact T.sc3 | exact T.sc4 | exact T.sc5 | exact T.sc9 | exact T.sc22 | exact T.sc23 | exact T.sc28 | exact T.sc39 | exact T.sc44 | exact T.sc46 | exact T.sc51 | exact T.sc60 | exact T.sc66 | exact T.sc72 | exact T.sc84 | exact T.sc90 | exact T.sc91 | exact T.sc106 | exact T.sc108 | exact T.sc110); exact rfl; (focus (apply Has.mem; (repeat (first | exact List.Mem.head _ | apply List.Mem.tail)); done)); (first | omega | (simp only [List.length_set, List.length_replicate]; omega))) | (apply YO.ldF; (first | exact T.sc3 | exact T.sc4 | exact T.sc5 | exact T.sc9 | exact T.sc22 | exact T.sc23 | exact T.sc28 | exact T.sc39 | exact T.sc44 | exact T.sc46 | exact T.sc51 | exact T.sc60 | exact T.sc66 | exact T.sc72 | exact T.sc84 | exact T.sc90 | exact T.sc91 | exact T.sc106 | exact T.sc108 | exact T.sc110); exact rfl; (focus (apply Has.mem; (repeat (first | exact List.Mem.head _ | apply List.Mem.tail)); done)); exact rfl) | (apply YO.ldS; (first | exact T.sc3 | exact T.sc4 | exact T.sc5 | exact T.sc9 | exact T.sc22 | exact T.sc23 | exact T.sc28 | exact T.sc39 | exact T.sc44 | exact T.sc46 | exact T.sc51 | exact T.sc60 | exact T.sc66 | exact T.sc72 | exact T.sc84 | exact T.sc90 | exact T.sc91 | exact T.sc106 | exact T.sc108 | exact T.sc110); exact rfl; (first | (focus (apply Has.mem; (repeat (first | exact List.Mem.head _ | apply List.Mem.tail)); done)) | (focus (apply hasA; (focus (apply Has.mem; (repeat (first | exact List.Mem.head _ | apply List.Mem.tail)); done)); omega; done)) | (focus (apply Has.sc; (focus (apply Has.mem; (repeat (first | exact List.Mem.head _ | apply List.Mem.tail)); done)); omega; omega; omega; done))); omega) | (apply YO.ldB; (first | exact T.sc3 | exact T.sc4 | exact T.sc5 | exact T.sc9 | exact T.sc22 | exact T.sc23 | exact T.sc28 | exact T.sc39 | exact T.sc44 | exact T.sc46 | exact T.sc51 | exact T.sc60 | exact T.sc66 | exact T.sc72 | exact T.sc84 | exact T.sc90 | exact T.sc91 | exact T.sc106 | exact T.sc108 | exact T.sc110); exact rfl; (focus ((repeat (first | exact List.Mem.head _ | apply List.Mem.tail)); done)); exact rfl) | (apply YO.ldOI; (first | exact T.sc3 | exact T.sc4 | exact T.sc5 | exact T.sc9 | exact T.sc22 | exact T.sc23 | exact T.sc28 | exact T.sc39 | exact T.sc44 | exact T.sc46 | exact T.sc51 | exact T.sc60 | exact T.sc66 | exact T.sc72 | exact T.sc84 | exact T.sc90 | exact T.sc91 | exact T.sc106 | exact T.sc108 | exact T.sc110); exact rfl; (focus ((repeat (first | exact List.Mem.head _ | apply List.Mem.tail)); done)); omega)); exact rfl; exact rfl)
    | (apply WD.k_pick; exact rfl; (first | (apply YO.pick_t; exact rfl; exact rfl) | (apply YO.pick_f; exact rfl; exact rfl)); exact rfl; exact rfl)
    | (apply WD.k_fieldAddr; exact rfl; (first | (apply YO.fieldE; (first | exact T.f48_0 | exact T.f48_1 | exact T.f48_2 | exact T.f53_0 | exact T.f53_1 | exact T.f53_2 | exact T.f70_0 | exact T.f70_1 | exact T.f70_2 | exact T.f70_3 | exact T.f70_4 | exact T.f74_0 | exact T.f74_1 | exact T.f74_2 | exact T.f74_3 | exact T.f74_4 | exact T.f98_0 | exact T.f98_1 | exact T.f98_2); exact rfl) | (apply YO.fieldN; (first | exact T.f48_0 | exact T.f48_1 | exact T.f48_2 | exact T.f53_0 | exact T.f53_1 | exact T.f53_2 | exact T.f70_0 | exact T.f70_1 | exact T.f70_2 | exact T.f70_3 | exact T.f70_4 | exact T.f74_0 | exact T.f74_1 | exact T.f74_2 | exact T.f74_3 | exact T.f74_4 | exact T.f98_0 | exact T.f98_1 | exact T.f98_2); exact rfl; ((try simp only [Nat.zero_add, Nat.mul_one, Nat.reduceAdd, Nat.reduceMul]); exact rfl))); exact rfl; exact rfl)
    | (apply WD.k_eql; exact rfl; (first | (first | (apply YO.eql_t; exact rfl; exact rfl; omega) | (apply YO.eql_f; exact rfl; exact rfl; omega)) | (apply YO.eqNil_t; (first | exact T.s22 | exact T.s23 | exact T.s39 | exact T.s44 | exact T.s60); exact rfl; (first | (focus (apply KnS.f; (focus (apply Has.mem; (repeat (first | exact List.Mem.head _ | apply List.Mem.tail)); done)); done)) | (focus (apply KnS.oI; (repeat (first | exact List.Mem.head _ | apply List.Mem.tail)); done)) | (focus (apply KnS.o1; (repeat (first | exact List.Mem.head _ | apply List.Mem.tail)); done)) | (focus (apply KnS.f; apply hasA; (focus (apply Has.mem; (repeat (first | exact List.Mem.head _ | apply List.Mem.tail)); done)); omega; done))); assumption) | (apply YO.eqNil_f; (first | exact T.s22 | exact T.s23 | exact T.s39 | exact T.s44 | exact T.s60); exact rfl; (first | (focus (apply KnS.f; (focus (apply Has.mem; (repeat (first | exact List.Mem.head _ | apply List.Mem.tail)); done)); done)) | (focus (apply KnS.oI; (repeat (first | exact List.Mem.head _ | apply List.Mem.tail)); done)) | (focus (apply KnS.o1; (repeat (first | exact List.Mem.head _ | apply List.Mem.tail)); done)) | (focus (apply KnS.f; apply hasA; (focus (apply Has.mem; (repeat (first | exact List.Mem.head _ | apply List.Mem.tail)); done)); omega; done))); assumption)); exact rfl; exact rfl)
    | (apply WD.k_neq; exact rfl; (first | (apply YO.neq_t; exact rfl; exact rfl; omega) | (apply YO.neq_f; exact rfl; exact rfl; omega)); exact rfl; exact rfl)
    | (apply WD.k_nil; exact rfl; (apply YO.nil; exact rfl); exact rfl; exact rfl)
    | (apply WD.k_extract; exact rfl; (apply YO.extract; exact rfl; exact rfl); exact rfl; exact rfl)
    | (apply WD.k_gtr; exact rfl; (first | (apply YO.gtr_t; exact rfl; exact rfl; omega) | (apply YO.gtr_f; exact rfl; exact rfl; omega)); exact rfl; exact rfl)
    | (apply WD.k_geq; exact rfl; (first | (apply YO.geq_t; exact rfl; exact rfl; omega) | (apply YO.geq_f; exact rfl; exact rfl; omega)); exact rfl; exact rfl)
    | (apply WD.k_leq; exact rfl; (first | (apply YO.leq_t; exact rfl; exact rfl; omega) | (apply YO.leq_f; exact rfl; exact rfl; omega)); exact rfl; exact rfl)
    | (apply WD.k_sub; exact rfl; (apply YO.sub; exact rfl; exact rfl; omega; omega); exact rfl; exact rfl)
    | (apply WD.k_mul; exact rfl; (apply YO.mul; exact rfl; exact rfl; omega; omega); exact rfl; exact rfl)
    | (apply WD.k_rem; exact rfl; (apply YO.rem; exact rfl; exact rfl; omega; omega); exact rfl; exact rfl)
    | (apply WD.k_quo; exact rfl; (apply YO.quo; exact rfl; exact rfl; omega; omega; omega); exact rfl; exact rfl)
    | (apply WD.k_unot; exact rfl; (first | (apply YO.not_t; exact rfl) | (apply YO.not_f; exact rfl)); exact rfl; exact rfl)
    | (apply WD.k_uneg; exact rfl; (apply YO.neg; exact rfl; omega; omega); exact rfl; exact rfl)
    | (apply WD.k_max; exact rfl; (apply YO.max; exact rfl; exact rfl); exact rfl; exact rfl)
    | (apply WD.k_min; exact rfl; (apply YO.min; exact rfl; exact rfl); exact rfl; exact rfl)
    | (apply WD.k_makeFunc; exact rfl; (apply YO.makeFunc; (repeat (first | exact Evs.nil | (apply Evs.cons; exact rfl))); (repeat (first | exact Evs.nil | (apply Evs.cons; exact rfl)))); exact rfl; exact rfl)
    | (apply WD.k_conv; exact rfl; (first | (apply YO.convU; (first | exact T.u3 | exact T.u5 | exact T.u28 | exact T.u46 | exact T.u51 | exact T.u106 | exact T.u108); (first | exact T.u3 | exact T.u5 | exact T.u28 | exact T.u46 | exact T.u51 | exact T.u106 | exact T.u108); exact rfl; omega; omega) | (apply YO.convI; (first | exact T.u3 | exact T.u5 | exact T.u28 | exact T.u46 | exact T.u51 | exact T.u106 | exact T.u108); (first | exact T.u3 | exact T.u5 | exact T.u28 | exact T.u46 | exact T.u51 | exact T.u106 | exact T.u108); exact rfl; omega; omega)); exact rfl; exact rfl)
    | (apply WD.k_shl; exact rfl; (apply YO.shl'; exact rfl; exact rfl; omega; omega; (first | omega | decide); (first | omega | decide)); exact rfl; exact rfl)
    | (apply WD.k_shr; exact rfl; (apply YO.shr'; exact rfl; exact rfl; omega; omega); exact rfl; exact rfl)
    | (apply WD.k_and; exact rfl; (first | (apply YO.and1; exact rfl; exact rfl; omega; omega) | (apply YO.and; exact rfl; exact rfl; omega; omega; omega; omega)); exact rfl; exact rfl)
    | (apply WD.k_or; exact rfl; (apply YO.or; exact rfl; exact rfl; omega; omega; omega; omega); exact rfl; exact rfl)
    | (apply WD.k_andNot; exact rfl; (apply YO.anot; exact rfl; exact rfl); exact rfl; exact rfl)
    | (apply WD.k_slice; exact rfl; (first | (apply YO.sliceArr; (first | exact T.a43 | exact T.a67 | exact T.a68); exact rfl; exact rfl; omega; decide) | (apply YO.slice; (first | exact T.s22 | exact T.s23 | exact T.s39 | exact T.s44 | exact T.s60); exact rfl; (first | (focus (apply KnS.f; (focus (apply Has.mem; (repeat (first | exact List.Mem.head _ | apply List.Mem.tail)); done)); done)) | (focus (apply KnS.oI; (repeat (first | exact List.Mem.head _ | apply List.Mem.tail)); done)) | (focus (apply KnS.o1; (repeat (first | exact List.Mem.head _ | apply List.Mem.tail)); done)) | (focus (apply KnS.f; apply hasA; (focus (apply Has.mem; (repeat (first | exact List.Mem.head _ | apply List.Mem.tail)); done)); omega; done))); exact Or.inl ⟨rfl, rfl⟩; exact Or.inr ⟨_, rfl, rfl⟩; omega; omega) | (apply YO.slice; (first | exact T.s22 | exact T.s23 | exact T.s39 | exact T.s44 | exact T.s60); exact rfl; (first | (focus (apply KnS.f; (focus (apply Has.mem; (repeat (first | exact List.Mem.head _ | apply List.Mem.tail)); done)); done)) | (focus (apply KnS.oI; (repeat (first | exact List.Mem.head _ | apply List.Mem.tail)); done)) | (focus (apply KnS.o1; (repeat (first | exact List.Mem.head _ | apply List.Mem.tail)); done)) | (focus (apply KnS.f; apply hasA; (focus (apply Has.mem; (repeat (first | exact List.Mem.head _ | apply List.Mem.tail)); done)); omega; done))); exact Or.inr ⟨_, rfl, rfl⟩; exact Or.inl ⟨rfl, rfl⟩; omega; omega)); exact rfl; exact rfl)
    | (apply WD.kl_store; exact rfl; rotate_left; exact rfl; (first | (apply LO.storeI; exact rfl; exact rfl; (first | exact T.z3 | exact T.z4 | exact T.z5 | exact T.z9 | exact T.z22 | exact T.z23 | exact T.z28 | exact T.z39 | exact T.z44 | exact T.z46 | exact T.z51 | exact T.z60 | exact T.z66 | exact T.z72 | exact T.z84 | exact T.z90 | exact T.z91 | exact T.z106 | exact T.z108 | exact T.z110); (repeat (first | exact Sel.head | apply Sel.tail)); (first | omega | (simp only [List.length_set, List.length_replicate]; omega))) | (apply LO.storeWI; exact rfl; exact rfl; (repeat (first | exact Sel.head | apply Sel.tail)); (first | exact T.r43 | exact T.r48 | exact T.r53 | exact T.r67 | exact T.r68 | exact T.r70 | exact T.r74 | exact T.r98); (first | omega | (simp only [List.length_set, List.length_replicate]; omega)); (first | (simp only [List.length_map, List.length_set, List.length_replicate, ints]; omega) | rfl)) | (apply LO.store1; exact rfl; exact rfl; (first | exact T.z3 | exact T.z4 | exact T.z5 | exact T.z9 | exact T.z22 | exact T.z23 | exact T.z28 | exact T.z39 | exact T.z44 | exact T.z46 | exact T.z51 | exact T.z60 | exact T.z66 | exact T.z72 | exact T.z84 | exact T.z90 | exact T.z91 | exact T.z106 | exact T.z108 | exact T.z110); (first | exact One.lit rfl rfl | (apply One.sl; (first | (focus (apply KnS.f; (focus (apply Has.mem; (repeat (first | exact List.Mem.head _ | apply List.Mem.tail)); done)); done)) | (focus (apply KnS.oI; (repeat (first | exact List.Mem.head _ | apply List.Mem.tail)); done)) | (focus (apply KnS.o1; (repeat (first | exact List.Mem.head _ | apply List.Mem.tail)); done)) | (focus (apply KnS.f; apply hasA; (focus (apply Has.mem; (repeat (first | exact List.Mem.head _ | apply List.Mem.tail)); done)); omega; done))))); (repeat (first | exact Sel.head | apply Sel.tail)); (first | (simp only [List.length_cons, List.length_nil]; omega) | (simp; omega)); (first | (simp only [List.set_cons_succ, List.set_cons_zero]; exact rfl) | exact rfl)) | (apply LO.storeO1; exact rfl; exact rfl; (first | exact T.z3 | exact T.z4 | exact T.z5 | exact T.z9 | exact T.z22 | exact T.z23 | exact T.z28 | exact T.z39 | exact T.z44 | exact T.z46 | exact T.z51 | exact T.z60 | exact T.z66 | exact T.z72 | exact T.z84 | exact T.z90 | exact T.z91 | exact T.z106 | exact T.z108 | exact T.z110); (first | exact One.lit rfl rfl | (apply One.sl; (first | (focus (apply KnS.f; (focus (apply Has.mem; (repeat (first | exact List.Mem.head _ | apply List.Mem.tail)); done)); done)) | (focus (apply KnS.oI; (repeat (first | exact List.Mem.head _ | apply List.Mem.tail)); done)) | (focus (apply KnS.o1; (repeat (first | exact List.Mem.head _ | apply List.Mem.tail)); done)) | (focus (apply KnS.f; apply hasA; (focus (apply Has.mem; (repeat (first | exact List.Mem.head _ | apply List.Mem.tail)); done)); omega; done))))); (repeat (first | exact Sel.head | apply Sel.tail)); (first | (simp only [List.length_cons, List.length_nil]; omega) | (simp; omega)); (first | (simp only [List.set_cons_succ, List.set_cons_zero]; exact rfl) | exact rfl)) | (apply LO.storeL; exact rfl; exact rfl; (repeat (first | exact Sel.head | apply Sel.tail)); (first | exact T.r43 | exact T.r48 | exact T.r53 | exact T.r67 | exact T.r68 | exact T.r70 | exact T.r74 | exact T.r98); exact rfl; exact rfl; (repeat (first | exact OneL.nil | (apply OneL.cons; (first | exact One.lit rfl rfl | (apply One.sl; (first | (focus (apply KnS.f; (focus (apply Has.mem; (repeat (first | exact List.Mem.head _ | apply List.Mem.tail)); done)); done)) | (focus (apply KnS.oI; (repeat (first | exact List.Mem.head _ | apply List.Mem.tail)); done)) | (focus (apply KnS.o1; (repeat (first | exact List.Mem.head _ | apply List.Mem.tail)); done)) | (focus (apply KnS.f; apply hasA; (focus (apply Has.mem; (repeat (first | exact List.Mem.head _ | apply List.Mem.tail)); done)); omega; done)))))))))); constructor; (first | (focus (apply Or.inr; constructor; (repeat (first | exact List.Sublist.refl _ | exact List.nil_sublist _ | apply List.Sublist.cons_cons | apply List.Sublist.cons)); exact fun _ h => h; done)) | (apply Or.inl; kernel_rfl))))
  exact Bx.h h) : G := s ⟨h⟩
theorem goG {G G' : Prop} (h : G') (s : Bx G' → G := by
  intro h
  (first
    | (apply WL.kl_alloc; rotate_left; exact rfl; exact rfl; apply LO.alloc'; (first | exact al70I | (first | exact T.al3 | exact T.al4 | exact T.al5 | exact T.al22 | exact T.al23 | exact T.al28 | exact T.al39 | exact T.al43 | exact T.al44 | exact T.al46 | exact T.al48 | exact T.al51 | exact T.al53 | exact T.al60 | exact T.al66 | exact T.al67 | exact T.al68 | exact T.al70 | exact T.al72 | exact T.al74 | exact T.al90 | exact T.al98 | exact T.al106 | exact T.al108)))
    | (apply WL.kl_box; rotate_left; exact rfl; exact rfl; (first | (apply LO.boxA; exact rfl) | (apply LO.box1; exact rfl; (first | exact One.lit rfl rfl | (apply One.sl; (first | (focus (apply KnS.f; (focus (apply Has.mem; (repeat (first | exact List.Mem.head _ | apply List.Mem.tail)); done)); done)) | (focus (apply KnS.oI; (repeat (first | exact List.Mem.head _ | apply List.Mem.tail)); done)) | (focus (apply KnS.o1; (repeat (first | exact List.Mem.head _ | apply List.Mem.tail)); done)) | (focus (apply KnS.f; apply hasA; (focus (apply Has.mem; (repeat (first | exact List.Mem.head _ | apply List.Mem.tail)); done)); omega; done)))))))))
  exact Bx.h h) : G := s ⟨h⟩
theorem goV {G G' : Prop} (h : G') (s : Bx G' → G := by
  intro h
  (first
    | (apply WL.kl_bs; rotate_left; exact rfl; exact rfl; apply LO.bs1; (first | exact T.s22 | exact T.s23 | exact T.s39 | exact T.s44 | exact T.s60); (repeat (first | exact EvP.nil | (apply EvP.cons; exact rfl))); (intro _; kernel_rfl); exact rfl; omega)
    | (apply WL.kl_app; rotate_left; exact rfl; exact rfl; apply LO.app; (first | exact T.e22 | exact T.e23 | exact T.e39 | exact T.e44 | exact T.e60); exact rfl; exact rfl; (first | (focus (apply SrcE.ints; (focus (apply Has.mem; (repeat (first | exact List.Mem.head _ | apply List.Mem.tail)); done)); done)) | (focus (apply SrcE.own1; (repeat (first | exact List.Mem.head _ | apply List.Mem.tail)); done)) | (focus (apply SrcE.one; (repeat (first | exact List.Mem.head _ | apply List.Mem.tail)); exact rfl; decide; done))); (intro v; (repeat (first | exact Sel.head | apply Sel.tail))); (first | exact ints_one _ | (intro u hu; simp only [List.mem_cons, List.not_mem_nil, or_false] at hu; first | (subst hu; rfl) | (rcases hu with rfl | rfl | rfl <;> rfl))); (simp only [List.length_map, List.length_append, List.length_cons, List.length_nil, List.length_replicate, List.length_take]; omega); (simp only [List.length_map, List.length_append, List.length_cons, List.length_nil, List.length_replicate, List.length_take]; omega)))
  exact Bx.h h) : G := s ⟨h⟩
theorem goDG {G G' : Prop} (h : G') (s : Bx G' → G := by
  intro h
  (first
    | (apply WD.kl_alloc; exact rfl; rotate_left; exact rfl; exact rfl; apply LO.alloc'; (first | exact al70I | (first | exact T.al3 | exact T.al4 | exact T.al5 | exact T.al22 | exact T.al23 | exact T.al28 | exact T.al39 | exact T.al43 | exact T.al44 | exact T.al46 | exact T.al48 | exact T.al51 | exact T.al53 | exact T.al60 | exact T.al66 | exact T.al67 | exact T.al68 | exact T.al70 | exact T.al72 | exact T.al74 | exact T.al90 | exact T.al98 | exact T.al106 | exact T.al108)); apply allAnd; (intro _; (first | (focus (apply Or.inr; constructor; (repeat (first | exact List.Sublist.refl _ | exact List.nil_sublist _ | apply List.Sublist.cons_cons | apply List.Sublist.cons)); exact fun _ h => h; done)) | (apply Or.inl; kernel_rfl))))
    | (apply WD.kl_box; exact rfl; rotate_left; exact rfl; exact rfl; (first | (apply LO.boxA; exact rfl) | (apply LO.box1; exact rfl; (first | exact One.lit rfl rfl | (apply One.sl; (first | (focus (apply KnS.f; (focus (apply Has.mem; (repeat (first | exact List.Mem.head _ | apply List.Mem.tail)); done)); done)) | (focus (apply KnS.oI; (repeat (first | exact List.Mem.head _ | apply List.Mem.tail)); done)) | (focus (apply KnS.o1; (repeat (first | exact List.Mem.head _ | apply List.Mem.tail)); done)) | (focus (apply KnS.f; apply hasA; (focus (apply Has.mem; (repeat (first | exact List.Mem.head _ | apply List.Mem.tail)); done)); omega; done))))))); apply allAnd; (intro _; (first | (focus (apply Or.inr; constructor; (repeat (first | exact List.Sublist.refl _ | exact List.nil_sublist _ | apply List.Sublist.cons_cons | apply List.Sublist.cons)); exact fun _ h => h; done)) | (apply Or.inl; kernel_rfl)))))
  exact Bx.h h) : G := s ⟨h⟩
theorem goDV {G G' : Prop} (h : G') (s : Bx G' → G := by
  intro h
  (first
    | (apply WD.kl_bs; exact rfl; rotate_left; exact rfl; exact rfl; apply LO.bs1; (first | exact T.s22 | exact T.s23 | exact T.s39 | exact T.s44 | exact T.s60); (repeat (first | exact EvP.nil | (apply EvP.cons; exact rfl))); (intro _; kernel_rfl); exact rfl; omega; apply allAnd; (intro _; (first | (focus (apply Or.inr; constructor; (repeat (first | exact List.Sublist.refl _ | exact List.nil_sublist _ | apply List.Sublist.cons_cons | apply List.Sublist.cons)); exact fun _ h => h; done)) | (apply Or.inl; kernel_rfl))))
    | (apply WD.kl_app; exact rfl; rotate_left; exact rfl; exact rfl; apply LO.app; (first | exact T.e22 | exact T.e23 | exact T.e39 | exact T.e44 | exact T.e60); exact rfl; exact rfl; (first | (focus (apply SrcE.ints; (focus (apply Has.mem; (repeat (first | exact List.Mem.head _ | apply List.Mem.tail)); done)); done)) | (focus (apply SrcE.own1; (repeat (first | exact List.Mem.head _ | apply List.Mem.tail)); done)) | (focus (apply SrcE.one; (repeat (first | exact List.Mem.head _ | apply List.Mem.tail)); exact rfl; decide; done))); (intro v; (repeat (first | exact Sel.head | apply Sel.tail))); (first | exact ints_one _ | (intro u hu; simp only [List.mem_cons, List.not_mem_nil, or_false] at hu; first | (subst hu; rfl) | (rcases hu with rfl | rfl | rfl <;> rfl))); (simp only [List.length_map, List.length_append, List.length_cons, List.length_nil, List.length_replicate, List.length_take]; omega); (simp only [List.length_map, List.length_append, List.length_cons, List.length_nil, List.length_replicate, List.length_take]; omega); apply allAnd; (intro _; (first | (focus (apply Or.inr; constructor; (repeat (first | exact List.Sublist.refl _ | exact List.nil_sublist _ | apply List.Sublist.cons_cons | apply List.Sublist.cons)); exact fun _ h => h; done)) | (apply Or.inl; kernel_rfl)))))
  exact Bx.h h) : G := s ⟨h⟩

section
variable {P : Program} {n : Nat} {L rest : List Oper} {e : Env} {bx b0 : List Ow} {F F0 : List Fct} {Q : Env → List Ow → List Fct → Prop} {d i : Nat} {ty : TypeId} {pos : String} {af : Array Edge} {g : Option (Nat × Bool)} {hs : List Nat} {r : Plan}
  {f : FuncId} {x : Operand} {args : List Operand} {ats : Array TypeId} {vs cs : List Value} {F' : List Fct} {u : Value} {el sz : Nat}
theorem WL.callV (hf : FnB P f vs [] F' (IsV u)) (hK : WL P n L rest ((d, u) :: e) bx F Q) (hx : ev e x = some (.func (.func f) #[] #[]) := by exact rfl) (hv : Evs e args vs := by repeat (first | exact Evs.nil | (apply Evs.cons; exact rfl))) (hF : HasAllB bx F F' := by repeat (first | exact HasAllB.nil | (apply HasAllB.cons; (first | (focus (apply HasB.oI; (repeat (first | exact List.Mem.head _ | apply List.Mem.tail)); done)) | (focus (apply HasB.c; (repeat (first | exact List.Mem.head _ | apply List.Mem.tail)); done)) | (focus (apply HasB.f; (first | (focus (apply Has.mem; (repeat (first | exact List.Mem.head _ | apply List.Mem.tail)); done)) | (focus (apply hasA; (focus (apply Has.mem; (repeat (first | exact List.Mem.head _ | apply List.Mem.tail)); done)); omega; done)) | (focus (apply Has.sc; (focus (apply Has.mem; (repeat (first | exact List.Mem.head _ | apply List.Mem.tail)); done)); omega; omega; omega; done))); done))))))
    (hd : Nat.blt d n = true := by exact rfl) (hg : gok L e g = some true := by exact rfl) : WL P n L (⟨some d, .call { callee := .value x, args := args.toArray, argTypes := ats }, ty, pos, af, g⟩ :: rest) e bx F Q :=
  WL.l hd hg (LO.callRV hx hv hf hF hK)
theorem WL.callO (hf : FnB P f vs [] F' (IsO el sz cs)) (hK : ∀ v, WL P n L rest ((d, v) :: e) (Ow.slice v el sz cs :: bx) F Q) (hx : ev e x = some (.func (.func f) #[] #[]) := by exact rfl) (hv : Evs e args vs := by repeat (first | exact Evs.nil | (apply Evs.cons; exact rfl))) (hF : HasAllB bx F F' := by repeat (first | exact HasAllB.nil | (apply HasAllB.cons; (first | (focus (apply HasB.oI; (repeat (first | exact List.Mem.head _ | apply List.Mem.tail)); done)) | (focus (apply HasB.c; (repeat (first | exact List.Mem.head _ | apply List.Mem.tail)); done)) | (focus (apply HasB.f; (first | (focus (apply Has.mem; (repeat (first | exact List.Mem.head _ | apply List.Mem.tail)); done)) | (focus (apply hasA; (focus (apply Has.mem; (repeat (first | exact List.Mem.head _ | apply List.Mem.tail)); done)); omega; done)) | (focus (apply Has.sc; (focus (apply Has.mem; (repeat (first | exact List.Mem.head _ | apply List.Mem.tail)); done)); omega; omega; omega; done))); done))))))
    (hd : Nat.blt d n = true := by exact rfl) (hg : gok L e g = some true := by exact rfl) : WL P n L (⟨some d, .call { callee := .value x, args := args.toArray, argTypes := ats }, ty, pos, af, g⟩ :: rest) e bx F Q :=
  WL.l hd hg (LO.callRO hx hv hf hF hK)
theorem WL.callF {R : RPost} (first cap : List Value) (hf : FnB P f (first ++ vs ++ cap) [] F' R) (hK : ∀ v b G, R v b G → WL P n L rest ((d, v) :: e) (b ++ bx) F Q) (hx : ev e x = some (.func (.func f) first.toArray cap.toArray) := by exact rfl) (hv : Evs e args vs := by repeat (first | exact Evs.nil | (apply Evs.cons; exact rfl))) (hF : HasAllB bx F F' := by repeat (first | exact HasAllB.nil | (apply HasAllB.cons; (first | (focus (apply HasB.oI; (repeat (first | exact List.Mem.head _ | apply List.Mem.tail)); done)) | (focus (apply HasB.c; (repeat (first | exact List.Mem.head _ | apply List.Mem.tail)); done)) | (focus (apply HasB.f; (first | (focus (apply Has.mem; (repeat (first | exact List.Mem.head _ | apply List.Mem.tail)); done)) | (focus (apply hasA; (focus (apply Has.mem; (repeat (first | exact List.Mem.head _ | apply List.Mem.tail)); done)); omega; done)) | (focus (apply Has.sc; (focus (apply Has.mem; (repeat (first | exact List.Mem.head _ | apply List.Mem.tail)); done)); omega; omega; omega; done))); done))))))
    (hd : Nat.blt d n = true := by exact rfl) (hg : gok L e g = some true := by exact rfl) : WL P n L (⟨some d, .call { callee := .value x, args := args.toArray, argTypes := ats }, ty, pos, af, g⟩ :: rest) e bx F Q :=
  WL.l hd hg (LO.callR hx hv hf hF hK)
theorem WL.callP {R : RPost} (hf : FnB P f vs [] F' R) (hK : ∀ v b G, R v b G → WL P n L rest ((d, v) :: e) (b ++ bx) F Q) (hx : ev e x = some (.func (.func f) #[] #[]) := by exact rfl) (hv : Evs e args vs := by repeat (first | exact Evs.nil | (apply Evs.cons; exact rfl))) (hF : HasAllB bx F F' := by repeat (first | exact HasAllB.nil | (apply HasAllB.cons; (first | (focus (apply HasB.oI; (repeat (first | exact List.Mem.head _ | apply List.Mem.tail)); done)) | (focus (apply HasB.c; (repeat (first | exact List.Mem.head _ | apply List.Mem.tail)); done)) | (focus (apply HasB.f; (first | (focus (apply Has.mem; (repeat (first | exact List.Mem.head _ | apply List.Mem.tail)); done)) | (focus (apply hasA; (focus (apply Has.mem; (repeat (first | exact List.Mem.head _ | apply List.Mem.tail)); done)); omega; done)) | (focus (apply Has.sc; (focus (apply Has.mem; (repeat (first | exact List.Mem.head _ | apply List.Mem.tail)); done)); omega; omega; omega; done))); done))))))
    (hd : Nat.blt d n = true := by exact rfl) (hg : gok L e g = some true := by exact rfl) : WL P n L (⟨some d, .call { callee := .value x, args := args.toArray, argTypes := ats }, ty, pos, af, g⟩ :: rest) e bx F Q :=
  WL.l hd hg (LO.callR (first := []) (cap := []) hx hv (by simpa using hf) hF hK)
theorem WD.callP {R : RPost} (hf : FnB P f vs [] F' R) (hK : ∀ v b G, R v b G → WD P n L hs b0 F0 r ((d, v) :: e) (b ++ bx) F Q) (hL : L[i]? = some ⟨some d, .call { callee := .value x, args := args.toArray, argTypes := ats }, ty, pos, af, g⟩ := by exact rfl) (hx : ev e x = some (.func (.func f) #[] #[]) := by exact rfl) (hv : Evs e args vs := by repeat (first | exact Evs.nil | (apply Evs.cons; exact rfl))) (hF : HasAllB bx F F' := by repeat (first | exact HasAllB.nil | (apply HasAllB.cons; (first | (focus (apply HasB.oI; (repeat (first | exact List.Mem.head _ | apply List.Mem.tail)); done)) | (focus (apply HasB.c; (repeat (first | exact List.Mem.head _ | apply List.Mem.tail)); done)) | (focus (apply HasB.f; (first | (focus (apply Has.mem; (repeat (first | exact List.Mem.head _ | apply List.Mem.tail)); done)) | (focus (apply hasA; (focus (apply Has.mem; (repeat (first | exact List.Mem.head _ | apply List.Mem.tail)); done)); omega; done)) | (focus (apply Has.sc; (focus (apply Has.mem; (repeat (first | exact List.Mem.head _ | apply List.Mem.tail)); done)); omega; omega; omega; done))); done))))))
    (hd : Nat.blt d n = true := by exact rfl) (hg : gok L e g = some true := by exact rfl) (lt : lateB L hs i = true ∨ (b0.Sublist bx ∧ ∀ f ∈ F0, f ∈ F) := by (first | (focus (apply Or.inr; constructor; (repeat (first | exact List.Sublist.refl _ | exact List.nil_sublist _ | apply List.Sublist.cons_cons | apply List.Sublist.cons)); exact fun _ h => h; done)) | (apply Or.inl; kernel_rfl))) : WD P n L hs b0 F0 (.loud i r) e bx F Q :=
  WD.l hL hd hg (LO.callR (first := []) (cap := []) hx hv (by simpa using hf) hF fun v b G hR => ⟨lt.imp id fun h => ⟨h.1.trans (List.sublist_append_right _ _), h.2⟩, hK v b G hR⟩)
theorem WD.callV (hf : FnB P f vs [] F' (IsV u)) (hK : WD P n L hs b0 F0 r ((d, u) :: e) bx F Q) (hL : L[i]? = some ⟨some d, .call { callee := .value x, args := args.toArray, argTypes := ats }, ty, pos, af, g⟩ := by exact rfl) (hx : ev e x = some (.func (.func f) #[] #[]) := by exact rfl) (hv : Evs e args vs := by repeat (first | exact Evs.nil | (apply Evs.cons; exact rfl))) (hF : HasAllB bx F F' := by repeat (first | exact HasAllB.nil | (apply HasAllB.cons; (first | (focus (apply HasB.oI; (repeat (first | exact List.Mem.head _ | apply List.Mem.tail)); done)) | (focus (apply HasB.c; (repeat (first | exact List.Mem.head _ | apply List.Mem.tail)); done)) | (focus (apply HasB.f; (first | (focus (apply Has.mem; (repeat (first | exact List.Mem.head _ | apply List.Mem.tail)); done)) | (focus (apply hasA; (focus (apply Has.mem; (repeat (first | exact List.Mem.head _ | apply List.Mem.tail)); done)); omega; done)) | (focus (apply Has.sc; (focus (apply Has.mem; (repeat (first | exact List.Mem.head _ | apply List.Mem.tail)); done)); omega; omega; omega; done))); done))))))
    (hd : Nat.blt d n = true := by exact rfl) (hg : gok L e g = some true := by exact rfl) (lt : lateB L hs i = true ∨ (b0.Sublist bx ∧ ∀ f ∈ F0, f ∈ F) := by (first | (focus (apply Or.inr; constructor; (repeat (first | exact List.Sublist.refl _ | exact List.nil_sublist _ | apply List.Sublist.cons_cons | apply List.Sublist.cons)); exact fun _ h => h; done)) | (apply Or.inl; kernel_rfl))) : WD P n L hs b0 F0 (.loud i r) e bx F Q :=
  WD.l hL hd hg (LO.callRV hx hv hf hF ⟨lt, hK⟩)
theorem WD.callO (hf : FnB P f vs [] F' (IsO el sz cs)) (hK : ∀ v, WD P n L hs b0 F0 r ((d, v) :: e) (Ow.slice v el sz cs :: bx) F Q) (hL : L[i]? = some ⟨some d, .call { callee := .value x, args := args.toArray, argTypes := ats }, ty, pos, af, g⟩ := by exact rfl) (hx : ev e x = some (.func (.func f) #[] #[]) := by exact rfl) (hv : Evs e args vs := by repeat (first | exact Evs.nil | (apply Evs.cons; exact rfl))) (hF : HasAllB bx F F' := by repeat (first | exact HasAllB.nil | (apply HasAllB.cons; (first | (focus (apply HasB.oI; (repeat (first | exact List.Mem.head _ | apply List.Mem.tail)); done)) | (focus (apply HasB.c; (repeat (first | exact List.Mem.head _ | apply List.Mem.tail)); done)) | (focus (apply HasB.f; (first | (focus (apply Has.mem; (repeat (first | exact List.Mem.head _ | apply List.Mem.tail)); done)) | (focus (apply hasA; (focus (apply Has.mem; (repeat (first | exact List.Mem.head _ | apply List.Mem.tail)); done)); omega; done)) | (focus (apply Has.sc; (focus (apply Has.mem; (repeat (first | exact List.Mem.head _ | apply List.Mem.tail)); done)); omega; omega; omega; done))); done))))))
    (hd : Nat.blt d n = true := by exact rfl) (hg : gok L e g = some true := by exact rfl) (lt : lateB L hs i = true ∨ (b0.Sublist bx ∧ ∀ f ∈ F0, f ∈ F) := by (first | (focus (apply Or.inr; constructor; (repeat (first | exact List.Sublist.refl _ | exact List.nil_sublist _ | apply List.Sublist.cons_cons | apply List.Sublist.cons)); exact fun _ h => h; done)) | (apply Or.inl; kernel_rfl))) : WD P n L hs b0 F0 (.loud i r) e bx F Q :=
  WD.l hL hd hg (LO.callRO hx hv hf hF fun v => ⟨lt.imp id fun h => ⟨h.1.trans (List.sublist_cons_self _ _), h.2⟩, hK v⟩)
end
end Go.Proofs.Ytgacbfckaglhbaa
namespace Go.Proofs.Ytgacbfckaglhbaa
open W Go.RowKit
attribute [local irreducible] WC WL WD YO LO LoopEnd W.Fin Scalar SliceT FieldAt Row ArrT AllocT KnS Has W.One SrcE IntT



def around (n m : Int) : Int := (if n < 0 then -(n+1) else n) % m

theorem around_c (n m : Int) (hn : I64 n) (hm : 0 < m) :
    FnB Try.prog 25 [.int .i64 n, .int .i64 m] [] [] (IsV (.int .i64 (around n m))) := by
  obtain ⟨hn, hn2⟩ := hn
  by_cases h : n < 0
  · refine fn_of [(0, .int .i64 n), (1, .int .i64 m)] 13 Try.func25 rfl Try.ntmps25 (by kernel_rfl) rfl (.cons rfl (.cons rfl (.nil _))) fun h0 => ?_
    repeat' (first | refine go ?_ | refine goX ?_ | refine goB ?_ | (refine goG ?_; intro g) | (refine goV ?_; intro v))
    refine WC.ret ?_
    exact Fin.v (ResE.t1 rfl rfl) (by (repeat (first | exact List.Mem.head _ | apply List.Mem.tail)); done) (by simp [around, h])
  · refine fn_of [(0, .int .i64 n), (1, .int .i64 m)] 13 Try.func25 rfl Try.ntmps25 (by kernel_rfl) rfl (.cons rfl (.cons rfl (.nil _))) fun h0 => ?_
    repeat' (first | refine go ?_ | refine goX ?_ | refine goB ?_ | (refine goG ?_; intro g) | (refine goV ?_; intro v))
    refine WC.ret ?_
    exact Fin.v (ResE.t1 rfl rfl) (by (repeat (first | exact List.Mem.head _ | apply List.Mem.tail)); done) (by simp [around, h])

theorem getD_i64 {l : List Int} (hl : ∀ x ∈ l, I64 x) (k : Nat) : I64 (l.getD k 0) := by
  rw [List.getD_eq_getElem?_getD]
  cases h : l[k]? with
  | none => simp [I64]
  | some x => simpa using hl x (List.mem_of_getElem? h)

def atP (l : List Int) (i m : Int) : Int := if i < 0 ∨ (l.length : Int) ≤ i then 0 else around (l.getD i.toNat 0) m

theorem at_c (v : Value) (l : List Int) (i m : Int) (hl : ∀ x ∈ l, I64 x) (hm : 0 < m) :
    FnB Try.prog 23 [v, .int .i64 i, .int .i64 m] [] [sI v l] (IsV (.int .i64 (atP l i m))) := by
  by_cases h : i < 0
  · refine fn_of [(0, v), (1, .int .i64 i), (2, .int .i64 m)] 21 Try.func23 rfl Try.ntmps23 (by kernel_rfl) rfl (by repeat (first | exact Sub.nil _ | refine Sub.cons rfl ?_)) fun h0 => ?_
    repeat' (first | refine go ?_ | refine goX ?_ | refine goB ?_ | (refine goG ?_; intro g) | (refine goV ?_; intro v))
    refine WC.ret ?_
    exact Fin.v (ResE.t1 rfl rfl) (by (repeat (first | exact List.Mem.head _ | apply List.Mem.tail)); done) (by simp [atP, h])
  by_cases h2 : (l.length : Int) ≤ i
  · refine fn_of [(0, v), (1, .int .i64 i), (2, .int .i64 m)] 21 Try.func23 rfl Try.ntmps23 (by kernel_rfl) rfl (by repeat (first | exact Sub.nil _ | refine Sub.cons rfl ?_)) fun h0 => ?_
    repeat' (first | refine go ?_ | refine goX ?_ | refine goB ?_ | (refine goG ?_; intro g) | (refine goV ?_; intro v))
    refine WC.ret ?_
    exact Fin.v (ResE.t1 rfl rfl) (by (repeat (first | exact List.Mem.head _ | apply List.Mem.tail)); done) (by simp [atP, h2])
  · refine fn_of [(0, v), (1, .int .i64 i), (2, .int .i64 m)] 21 Try.func23 rfl Try.ntmps23 (by kernel_rfl) rfl (by repeat (first | exact Sub.nil _ | refine Sub.cons rfl ?_)) fun h0 => ?_
    repeat' (first | refine go ?_ | refine goX ?_ | refine goB ?_ | (refine goG ?_; intro g) | (refine goV ?_; intro v))
    refine WL.l rfl rfl (LO.callV rfl (by repeat (first | exact Evs.nil | (apply Evs.cons; exact rfl))) (around_c _ _ (getD_i64 hl _) hm) .nil ?_)
    repeat' (first | refine go ?_ | refine goX ?_ | refine goB ?_ | (refine goG ?_; intro g) | (refine goV ?_; intro v))
    refine WC.ret ?_
    exact Fin.v (ResE.t1 rfl rfl) (by (repeat (first | exact List.Mem.head _ | apply List.Mem.tail)); done) (by simp [atP, h, h2])

theorem not_mem_take_succ {l : List Int} {k : Nat} {n : Int} (h : n ∉ l.take k) (h2 : ¬ l.getD k 0 = n) : n ∉ l.take (k + 1) := by
  by_cases hk : k < l.length
  · rw [List.take_succ_eq_append_getElem hk]
    simp [hk] at h2
    intro h3
    rcases List.mem_append.1 h3 with h3 | h3
    · exact h h3
    · simp at h3; exact h2 h3.symm
  · rw [List.take_of_length_le (by omega)] at h ⊢; exact h

theorem has_c (v : Value) (l : List Int) (n : Int) : FnB Try.prog 36 [v, .int .i64 n] [] [sI v l] (IsV (.bool (decide (n ∈ l)))) := by
  refine fn_of [(0, v), (1, .int .i64 n)] 18 Try.func36 rfl Try.ntmps36 (by kernel_rfl) rfl (by repeat (first | exact Sub.nil _ | refine Sub.cons rfl ?_)) fun h0 => ?_
  refine WC.lenF (v := v) (Has.mem (by (repeat (first | exact List.Mem.head _ | apply List.Mem.tail)); done)) fun hlen => ?_
  repeat' (first | refine go ?_ | refine goX ?_ | refine goB ?_ | (refine goG ?_; intro g) | (refine goV ?_; intro v))
  refine WC.lp (σ := Nat) (fun k => [(5, .int .i64 (k : Int)), (0, v), (1, .int .i64 n)]) (fun _ => []) (fun _ => [ge h0, sI v l]) (fun k => k ≤ l.length ∧ n ∉ l.take k) (fun k => l.length - k) 0 (by simp) ?_ (by repeat (first | exact Sub.nil _ | refine Sub.cons rfl ?_)) (by repeat (first | exact List.Sublist.refl _ | exact List.nil_sublist _ | apply List.Sublist.cons_cons | apply List.Sublist.cons)) (by repeat (first | exact HasAll.nil | (apply HasAll.cons; (focus (apply Has.mem; (repeat (first | exact List.Mem.head _ | apply List.Mem.tail)); done)))))
  rintro k ⟨hk, hn⟩
  by_cases hlt : k < l.length
  · by_cases he : l.getD k 0 = n
    · repeat' (first | refine go ?_ | refine goX ?_ | refine goB ?_ | (refine goG ?_; intro g) | (refine goV ?_; intro v))
      refine WC.ret ?_
      exact Fin.v (ResE.t1 rfl rfl) (by (repeat (first | exact List.Mem.head _ | apply List.Mem.tail)); done) (by subst he; simp [hlt])
    · repeat' (first | refine go ?_ | refine goX ?_ | refine goB ?_ | (refine goG ?_; intro g) | (refine goV ?_; intro v))
      exact LoopEnd.mk (k + 1) ⟨by omega, not_mem_take_succ hn he⟩ (by omega)
  · repeat' (first | refine go ?_ | refine goX ?_ | refine goB ?_ | (refine goG ?_; intro g) | (refine goV ?_; intro v))
    refine WC.ret ?_
    exact Fin.v (ResE.t1 rfl rfl) (by (repeat (first | exact List.Mem.head _ | apply List.Mem.tail)); done) (by rw [List.take_of_length_le (by omega)] at hn; simp [hn])


theorem may_bit (o : Int) (k : Nat) (ho : 0 ≤ o) : (o / 2 ^ k % 2 = 1) ↔ o.toNat.testBit k = true := by
  rw [Nat.testBit_eq_decide_div_mod_eq]
  obtain ⟨m, rfl⟩ := Int.eq_ofNat_of_zero_le ho
  have : ((m : Int) / 2 ^ k) = ((m / 2 ^ k : Nat) : Int) := by simp
  rw [this]; simp only [decide_eq_true_eq, Int.toNat_natCast]
  generalize m / 2 ^ k = q; omega

theorem may_c (t o : Int) (av : Value) (k : Int) (ho : 0 ≤ o) (ho2 : o ≤ 9223372036854775807) :
    FnB Try.prog 35 [.agg #[.int .i64 t, .int .i64 o, av], .int .i64 k] [] [] (IsV (.bool (decide (0 ≤ k ∧ k < 4) && o.toNat.testBit k.toNat))) := by
  refine fn_of [(0, .agg #[.int .i64 t, .int .i64 o, av]), (1, .int .i64 k)] 20 Try.func35 rfl Try.ntmps35 (by kernel_rfl) rfl (by repeat (first | exact Sub.nil _ | refine Sub.cons rfl ?_)) fun h0 => ?_
  by_cases h1 : 0 ≤ k
  · by_cases h2 : k < 4
    · obtain ⟨K, rfl⟩ := Int.eq_ofNat_of_zero_le h1
      have hd : 0 ≤ o / 2 ^ ((K : Int)).toNat := Int.ediv_nonneg ho (Int.le_of_lt (Int.pow_pos (by decide)))
      repeat' (first | refine go ?_ | refine goX ?_ | refine goB ?_ | (refine goG ?_; intro g) | (refine goV ?_; intro v))
      by_cases hb : o / 2 ^ ((K : Int)).toNat % 2 = 1
      all_goals
        repeat' (first | refine go ?_ | refine goX ?_ | refine goB ?_ | (refine goG ?_; intro g) | (refine goV ?_; intro v))
        refine WC.ret ?_
        refine Fin.v (ResE.t1 rfl rfl) (by (repeat (first | exact List.Mem.head _ | apply List.Mem.tail)); done) ?_
      · have h3 := (may_bit o K ho).1 hb
        simp [h3]; omega
      · have h3 := mt (may_bit o K ho).2 hb
        simp [h3]
    · repeat' (first | refine go ?_ | refine goX ?_ | refine goB ?_ | (refine goG ?_; intro g) | (refine goV ?_; intro v))
      refine WC.ret ?_
      exact Fin.v (ResE.t1 rfl rfl) (by (repeat (first | exact List.Mem.head _ | apply List.Mem.tail)); done) (by simp [h2])
  · repeat' (first | refine go ?_ | refine goX ?_ | refine goB ?_ | (refine goG ?_; intro g) | (refine goV ?_; intro v))
    refine WC.ret ?_
    exact Fin.v (ResE.t1 rfl rfl) (by (repeat (first | exact List.Mem.head _ | apply List.Mem.tail)); done) (by simp [h1])

theorem take_c (v : Value) (l : List Int) (m : Nat) (hm2 : m ≤ 100) : FnB Try.prog 19 [v, .int .i64 m] [] [sI v l] (IsO 3 1 (ints (l.take m))) := by
  refine fn_of [(0, v), (1, .int .i64 m)] 14 Try.func19 rfl Try.ntmps19 (by kernel_rfl) rfl (by repeat (first | exact Sub.nil _ | refine Sub.cons rfl ?_)) fun h0 => ?_
  refine WC.addNil 3 1 ?_
  repeat' (first | refine go ?_ | refine goX ?_ | refine goB ?_ | (refine goG ?_; intro g) | (refine goV ?_; intro v))
  have hmin : (min (l.length : Int) (m : Int)) = ((min l.length m : Nat) : Int) := by omega
  rw [hmin]
  refine WL.y (YO.slice (a := 0) (b := min l.length m) T.s22 rfl (KnS.f (Has.mem (by (repeat (first | exact List.Mem.head _ | apply List.Mem.tail)); done))) (.inl ⟨rfl, rfl⟩) (.inr ⟨_, rfl, rfl⟩) (by omega) (by omega)) rfl rfl ?_
  have hs := fun F (h : Has F (sI v l)) => Has.takeI h (Nat.min_le_left l.length m)
  refine WL.l rfl rfl (LO.app T.e22 rfl rfl (SrcE.ints (hs _ (Has.mem (by (repeat (first | exact List.Mem.head _ | apply List.Mem.tail)); done)))) (by intro v; repeat (first | exact Sel.head | apply Sel.tail)) (ints_one _) (by simp only [List.length_map, List.length_take, List.length_nil]; omega) (by simp only [List.length_map, List.length_take, List.length_nil]; omega) fun v' => ?_)
  repeat' (first | refine go ?_ | refine goX ?_ | refine goB ?_ | (refine goG ?_; intro g) | (refine goV ?_; intro v))
  refine WC.ret ?_
  exact Fin.o (ResE.t1 rfl rfl) (by (repeat (first | exact List.Mem.head _ | apply List.Mem.tail)); done) (by (repeat (first | exact List.Mem.head _ | apply List.Mem.tail)); done) (by rw [show l.take (min l.length m) = l.take m from by rw [List.take_eq_take_iff]; omega]; rfl)

theorem none_c (n : Nat) (hn : n ≤ 100) : FnB Try.prog 38 [.int .i64 n] [] [] (IsO 3 1 (ints (List.replicate n (-1)))) := by
  refine fn_of [(0, .int .i64 n)] 14 Try.func38 rfl Try.ntmps38 (by kernel_rfl) rfl (by repeat (first | exact Sub.nil _ | refine Sub.cons rfl ?_)) fun h0 => ?_
  refine WC.addNil 3 1 ?_
  repeat' (first | refine go ?_ | refine goX ?_ | refine goB ?_ | (refine goG ?_; intro g) | (refine goV ?_; intro v))
  refine WC.lp (σ := Nat × Value) (fun s => [(4, .int .i64 (s.1 : Int)), (3, s.2), (0, .int .i64 n)]) (fun s => [Ow.slice s.2 3 1 (ints (List.replicate s.1 (-1)))]) (fun _ => [ge h0]) (fun s => s.1 ≤ n) (fun s => n - s.1) (0, .slice none 0 0) (by simp) ?_
  rintro ⟨k, u⟩ hk
  simp only at hk ⊢
  by_cases hlt : k < n
  · repeat' (first | refine go ?_ | refine goX ?_ | refine goB ?_ | (refine goG ?_; intro g) | (refine goV ?_; intro v))
    exact LoopEnd.mk (k + 1, _) (by show k + 1 ≤ n; omega) (by show n - (k + 1) < n - k; omega) (by repeat (first | exact Sub.nil _ | refine Sub.cons rfl ?_)) (by simp only [List.replicate_succ', ints, List.map_append]; exact (by repeat (first | exact List.Sublist.refl _ | exact List.nil_sublist _ | apply List.Sublist.cons_cons | apply List.Sublist.cons))) (by repeat (first | exact HasAll.nil | (apply HasAll.cons; (focus (apply Has.mem; (repeat (first | exact List.Mem.head _ | apply List.Mem.tail)); done)))))
  · obtain rfl : k = n := by omega
    repeat' (first | refine go ?_ | refine goX ?_ | refine goB ?_ | (refine goG ?_; intro g) | (refine goV ?_; intro v))
    refine WC.ret ?_
    exact Fin.o (ResE.t1 rfl rfl) (by (repeat (first | exact List.Mem.head _ | apply List.Mem.tail)); done) (by (repeat (first | exact List.Mem.head _ | apply List.Mem.tail)); done) rfl

end Go.Proofs.Ytgacbfckaglhbaa
namespace Go.Proofs.Ytgacbfckaglhbaa

/-- which of the first k tasks are ready -/
def mayN (ts : List Tk) (st : List Int) : Nat → List Int
  | 0 => []
  | k + 1 => if readyP ts st k then mayN ts st k ++ [(k : Int)] else mayN ts st k
abbrev mayP (ts : List Tk) (st : List Int) : List Int := mayN ts st ts.length

theorem mem_mayN {ts : List Tk} {st : List Int} {x : Int} : ∀ {k : Nat}, x ∈ mayN ts st k ↔ ∃ i : Nat, i < k ∧ x = i ∧ readyP ts st i
  | 0 => by simp [mayN]
  | k + 1 => by
    have ih := @mem_mayN ts st x k
    unfold mayN
    split
    · rename_i h
      rw [List.mem_append, ih]; simp only [List.mem_singleton]
      constructor
      · rintro (⟨i, h1, h2, h3⟩ | rfl)
        · exact ⟨i, by omega, h2, h3⟩
        · exact ⟨k, by omega, rfl, h⟩
      · rintro ⟨i, h1, h2, h3⟩
        by_cases hk : i = k
        · subst hk; exact .inr h2
        · exact .inl ⟨i, by omega, h2, h3⟩
    · rename_i h
      rw [ih]
      constructor
      · rintro ⟨i, h1, h2, h3⟩; exact ⟨i, by omega, h2, h3⟩
      · rintro ⟨i, h1, h2, h3⟩
        refine ⟨i, ?_, h2, h3⟩
        by_cases hk : i = k
        · subst hk; exact absurd h3 h
        · omega
theorem mayN_len {ts : List Tk} {st : List Int} : ∀ k, (mayN ts st k).length ≤ k
  | 0 => by simp [mayN]
  | k + 1 => by
    have := @mayN_len ts st k
    unfold mayN; split <;> simp <;> omega

/-- the starts (0: taken) and the order after j steps -/
def ordN (ts : List Tk) (m : List Int) : Nat → List Int × List Int
  | 0 => (List.replicate ts.length (-1), [])
  | j + 1 =>
    let s := ordN ts m j
    let may := mayP ts s.1
    let i := may.getD (atP m j may.length).toNat 0
    (s.1.set i.toNat 0, s.2 ++ [i])
abbrev ordP (ts : List Tk) (m : List Int) : List Int := (ordN ts m ts.length).2

theorem around_bd {n m : Int} (hm : 0 < m) : 0 ≤ around n m ∧ around n m < m := by
  unfold around
  exact ⟨Int.emod_nonneg _ (by omega), Int.emod_lt_of_pos _ hm⟩
theorem atP_bd {l : List Int} {i m : Int} (hm : 0 < m) : 0 ≤ atP l i m ∧ atP l i m < m := by
  unfold atP; split
  · omega
  · exact around_bd hm

/-- the first task that is not taken is ready -/
theorem may_pos {M : Nat} {ts : List Tk} (hg : AllGood M ts) {st : List Int} (h : ∃ i, i < ts.length ∧ st.getD i 0 < 0) : 0 < (mayP ts st).length := by
  have : ∃ i, (i < ts.length ∧ st.getD i 0 < 0) ∧ ∀ j, j < i → ¬ (j < ts.length ∧ st.getD j 0 < 0) := by
    obtain ⟨i, hi⟩ := h
    induction i using Nat.strongRecOn with
    | _ i ih =>
      by_cases hm : ∃ j, j < i ∧ (j < ts.length ∧ st.getD j 0 < 0)
      · obtain ⟨j, h1, h2⟩ := hm; exact ih j h1 h2
      · exact ⟨i, hi, fun j hj hc => hm ⟨j, hj, hc⟩⟩
  obtain ⟨i, ⟨hi, hs⟩, hmin⟩ := this
  have hr : readyP ts st i := ⟨hs, fun k hk => by
    have ha := good_after hg hi k hk
    have := hmin ((tg ts i).after.getD k 0).toNat (by omega)
    have : ¬ st.getD ((tg ts i).after.getD k 0).toNat 0 < 0 := fun hc => this ⟨by omega, hc⟩
    omega⟩
  have hmem : (i : Int) ∈ mayP ts st := mem_mayN.2 ⟨i, hi, rfl, hr⟩
  exact List.length_pos_of_mem hmem

structure OrdOK (ts : List Tk) (j : Nat) (s : List Int × List Int) : Prop where
  len : s.1.length = ts.length
  out : s.2.length = j
  free : ∀ i, i < ts.length → (s.1.getD i 0 = if (i : Int) ∈ s.2 then 0 else -1)
  mem : ∀ x ∈ s.2, 0 ≤ x ∧ x < ts.length
  nodup : s.2.Nodup

theorem nodup_lt {n : Nat} : ∀ {l : List Int}, l.Nodup → (∀ x ∈ l, 0 ≤ x ∧ x < n) → l.length ≤ n := by
  intro l hl hm
  have h1 : (l.map Int.toNat).Nodup := by
    rw [List.nodup_iff_pairwise_ne, List.pairwise_map]
    refine List.Pairwise.imp_of_mem (fun {a b} ha hb hab => ?_) hl
    have := hm a ha; have := hm b hb; omega
  have h2 : ∀ x ∈ l.map Int.toNat, x ∈ List.range n := by
    intro x hx
    obtain ⟨y, hy, rfl⟩ := List.mem_map.1 hx
    have := hm y hy; simp; omega
  have := h1.length_le_of_subset h2
  simpa using this

theorem ord_step {M : Nat} {ts : List Tk} (hg : AllGood M ts) {m : List Int} {j : Nat} (hj : j < ts.length) (h : OrdOK ts j (ordN ts m j)) :
    0 < (mayP ts (ordN ts m j).1).length ∧ OrdOK ts (j + 1) (ordN ts m (j + 1)) ∧
    ∃ i : Nat, (mayP ts (ordN ts m j).1).getD (atP m j (mayP ts (ordN ts m j).1).length).toNat 0 = i ∧ i < ts.length ∧ readyP ts (ordN ts m j).1 i := by
  have hpos : 0 < (mayP ts (ordN ts m j).1).length := by
    refine may_pos hg ?_
    apply Classical.byContradiction
    intro hn
    have hall : ∀ i, i < ts.length → (i : Int) ∈ (ordN ts m j).2 := fun i hi => by
      have h1 := h.free i hi
      apply Classical.byContradiction
      intro hc
      rw [if_neg hc] at h1
      exact hn ⟨i, hi, by omega⟩
    have h2 : (List.range ts.length).length ≤ ((ordN ts m j).2.map Int.toNat).length := by
      refine List.nodup_range.length_le_of_subset fun x hx => ?_
      rw [List.mem_range] at hx
      exact List.mem_map.2 ⟨x, hall x hx, by simp⟩
    simp [h.out] at h2; omega
  have hb := atP_bd (l := m) (i := j) (m := ((mayP ts (ordN ts m j).1).length : Int)) (by omega)
  have hmem : (mayP ts (ordN ts m j).1).getD (atP m j (mayP ts (ordN ts m j).1).length).toNat 0 ∈ mayP ts (ordN ts m j).1 := by
    rw [List.getD_eq_getElem?_getD, List.getElem?_eq_getElem (by omega)]
    exact List.getElem_mem _
  obtain ⟨i, hi, he, hr⟩ := mem_mayN.1 hmem
  refine ⟨hpos, ?_, i, he, hi, hr⟩
  have hni : ((i : Int)) ∉ (ordN ts m j).2 := fun hc => by
    have h1 := h.free i hi
    rw [if_pos hc] at h1
    have := hr.1; omega
  have e1 : ordN ts m (j + 1) = ((ordN ts m j).1.set i 0, (ordN ts m j).2 ++ [(i : Int)]) := by
    show (_, _) = _
    rw [he]; simp
  rw [e1]
  refine ⟨by simpa using h.len, by simp [h.out], fun k hk => ?_, fun x hx => ?_, ?_⟩
  · have hl := h.len
    have h1 := h.free k hk
    simp only [List.getD_eq_getElem?_getD, List.getElem?_set, List.mem_append, List.mem_singleton] at h1 ⊢
    by_cases hik : i = k
    · subst hik; simp [hl, hi]
    · rw [if_neg hik, h1]
      have : ¬ (k : Int) = (i : Int) := by omega
      simp [this]
  · rcases List.mem_append.1 hx with hx | hx
    · exact h.mem x hx
    · simp at hx; omega
  · rw [List.nodup_append]
    exact ⟨h.nodup, by simp, fun a ha b hb => by simp at hb; subst hb; rintro rfl; exact hni ha⟩
theorem ord_ok {M : Nat} {ts : List Tk} (hg : AllGood M ts) (m : List Int) : ∀ j, j ≤ ts.length → OrdOK ts j (ordN ts m j)
  | 0, _ => ⟨by simp [ordN], rfl, fun i hi => by simp [ordN, hi], by simp [ordN], by simp [ordN]⟩
  | j + 1, hj => (ord_step hg (by omega) (ord_ok hg m j (by omega))).2.1
end Go.Proofs.Ytgacbfckaglhbaa
namespace Go.Proofs.Ytgacbfckaglhbaa

/-- the first machine of the first n on which a task can start earliest; -1: none -/
def bestN (ts : List Tk) (st on : List Int) (i : Nat) : Nat → Int
  | 0 => -1
  | k + 1 => if may (tg ts i).on k ∧ (bestN ts st on i k < 0 ∨ placeP ts st on i k < placeP ts st on i (bestN ts st on i k)) then k else bestN ts st on i k

theorem bestN_bd {ts : List Tk} {st on : List Int} {i : Nat} : ∀ n : Nat, -1 ≤ bestN ts st on i n ∧ bestN ts st on i n < n
  | 0 => by simp [bestN]
  | n + 1 => by
    have := @bestN_bd ts st on i n
    unfold bestN; split <;> omega
theorem bestN_pos {ts : List Tk} {st on : List Int} {i : Nat} : ∀ {n : Nat}, (∃ k : Nat, k < n ∧ may (tg ts i).on k) → 0 ≤ bestN ts st on i n ∧ may (tg ts i).on (bestN ts st on i n)
  | 0, h => by obtain ⟨k, h, _⟩ := h; omega
  | n + 1, h => by
    unfold bestN
    split
    · rename_i hc; exact ⟨by omega, hc.1⟩
    · rename_i hc
      by_cases hb : bestN ts st on i n < 0
      · obtain ⟨k, hk, hm⟩ := h
        have hkn : k ≠ n := by rintro rfl; exact hc ⟨hm, .inl hb⟩
        exact bestN_pos ⟨k, by omega, hm⟩
      · by_cases hm : ∃ k : Nat, k < n ∧ may (tg ts i).on k
        · exact bestN_pos hm
        · exfalso
          have hnone : ∀ n' : Nat, n' ≤ n → bestN ts st on i n' = -1 := fun n' => by
            induction n' with
            | zero => intro _; rfl
            | succ q ih =>
              intro hq
              rw [bestN, if_neg, ih (by omega)]
              intro hc2; exact hm ⟨q, by omega, hc2.1⟩
          have := hnone n (Nat.le_refl _); omega

def lstN (ts : List Tk) (M : Nat) (order : List Int) : Nat → List Int × List Int × Int
  | 0 => (List.replicate ts.length (-1), List.replicate ts.length (-1), 0)
  | j + 1 =>
    let s := lstN ts M order j
    let i := (order.getD j 0).toNat
    let k := bestN ts s.1 s.2.1 i M
    let at' := placeP ts s.1 s.2.1 i k
    (s.1.set i at', s.2.1.set i k, max s.2.2 (at' + (tg ts i).time))

def okAt (ts : List Tk) (M : Nat) (order : List Int) (j : Nat) : Prop := 0 ≤ order.getD j 0 ∧ order.getD j 0 < ts.length ∧ readyP ts (lstN ts M order j).1 (order.getD j 0).toNat
def okOrder (ts : List Tk) (M : Nat) (order : List Int) (n : Nat) : Prop := ∀ j, j < n → okAt ts M order j

open Classical in
noncomputable def listP (ts : List Tk) (m : Int) (order : List Int) : List Int × List Int × Int × Int :=
  if validE ts m ≠ 0 then ([], [], 0, validE ts m) else if order.length ≠ ts.length then ([], [], 0, 1) else
  if okOrder ts m.toNat order ts.length then ((lstN ts m.toNat order ts.length).1, (lstN ts m.toNat order ts.length).2.1, (lstN ts m.toNat order ts.length).2.2, 0) else ([], [], 0, 1)

theorem listP_e {ts : List Tk} {m : Int} {o : List Int} (h : validE ts m ≠ 0) : listP ts m o = ([], [], 0, validE ts m) := by simp [listP, h]
theorem listP_l {ts : List Tk} {m : Int} {o : List Int} (h : validE ts m = 0) (h2 : o.length ≠ ts.length) : listP ts m o = ([], [], 0, 1) := by
  rw [listP, if_neg (by simpa using h), if_pos h2]
theorem listP_no {ts : List Tk} {m : Nat} {o : List Int} (h : validE ts m = 0) (h2 : o.length = ts.length) {j : Nat} (hj : j < ts.length) (h3 : ¬ okAt ts m o j) : listP ts m o = ([], [], 0, 1) := by
  rw [listP, if_neg (by simpa using h), if_neg (by omega), if_neg (fun hc => h3 (by simpa using hc j hj))]
theorem listP_ok {ts : List Tk} {m : Nat} {o : List Int} (h : validE ts m = 0) (h2 : o.length = ts.length) (h3 : okOrder ts m o ts.length) : listP ts m o = ((lstN ts m o ts.length).1, (lstN ts m o ts.length).2.1, (lstN ts m o ts.length).2.2, 0) := by
  rw [listP, if_neg (by simpa using h), if_neg (by omega), if_pos (by simpa using h3)]; simp

theorem placeN_le {ts : List Tk} {st on : List Int} {i : Nat} {k B : Int} (hB : 0 ≤ B) (ht : ∀ j, (tg ts j).time ≤ 20) (hs : ∀ j, st.getD j 0 ≤ B) : ∀ n, placeN ts st on i k n ≤ B + 20
  | 0 => by simp [placeN]; omega
  | n + 1 => by
    have := @placeN_le ts st on i k B hB ht hs n
    have h1 := ht n
    have h2 := hs n
    unfold placeN; split <;> omega
theorem placeN_nonneg {ts : List Tk} {st on : List Int} {i : Nat} {k : Int} : ∀ n, 0 ≤ placeN ts st on i k n
  | 0 => by simp [placeN]
  | n + 1 => by
    have := @placeN_nonneg ts st on i k n
    unfold placeN; split <;> omega

theorem getD_set {l : List Int} {i j : Nat} {x : Int} : (l.set i x).getD j 0 = if i = j ∧ i < l.length then x else l.getD j 0 := by
  simp only [List.getD_eq_getElem?_getD, List.getElem?_set]
  by_cases h : i = j
  · subst h
    by_cases h2 : i < l.length
    · simp [h2]
    · simp [h2]
  · simp [h]

structure LstOK (ts : List Tk) (j : Nat) (s : List Int × List Int × Int) : Prop where
  l1 : s.1.length = ts.length
  l2 : s.2.1.length = ts.length
  st : ∀ i, -1 ≤ s.1.getD i 0 ∧ s.1.getD i 0 ≤ 20 * j
  n : 0 ≤ s.2.2 ∧ s.2.2 ≤ 20 * j + 20

theorem lst_ok {M : Nat} {ts : List Tk} (hg : AllGood M ts) (o : List Int) : ∀ j, LstOK ts j (lstN ts M o j)
  | 0 => ⟨by simp [lstN], by simp [lstN], fun i => by
      simp only [lstN, List.getD_eq_getElem?_getD, List.getElem?_replicate]; split <;> simp, by simp [lstN]⟩
  | j + 1 => by
    have h := lst_ok hg o j
    have ht := fun i => (good_time hg i)
    have hp := placeN_le (ts := ts) (st := (lstN ts M o j).1) (on := (lstN ts M o j).2.1) (i := (o.getD j 0).toNat) (k := bestN ts (lstN ts M o j).1 (lstN ts M o j).2.1 (o.getD j 0).toNat M) (B := 20 * j) (by omega) (fun i => (ht i).2) (fun i => (h.st i).2) ts.length
    have hp0 := placeN_nonneg (ts := ts) (st := (lstN ts M o j).1) (on := (lstN ts M o j).2.1) (i := (o.getD j 0).toNat) (k := bestN ts (lstN ts M o j).1 (lstN ts M o j).2.1 (o.getD j 0).toNat M) ts.length
    refine ⟨by simp [lstN, h.l1], by simp [lstN, h.l2], fun i => ?_, ?_⟩
    · simp only [lstN, placeP]
      rw [getD_set]
      have := h.st i
      split <;> omega
    · simp only [lstN, placeP]
      have h1 := h.n; have := ht (o.getD j 0).toNat
      omega
theorem lst_mod {M : Nat} {ts : List Tk} (hg : AllGood M ts) (hn : ts.length ≤ 10) (o : List Int) {j : Nat} (hj : j ≤ ts.length) : Mod ts (lstN ts M o j).1 :=
  ⟨fun i => by have := good_time hg i; omega, fun i => by have := (lst_ok hg o j).st i; omega⟩

/-- a good task may run on some machine -/
theorem good_may {M : Nat} (hM : M ≤ 4) {o : Int} (h1 : 1 ≤ o) (h2 : o < 2 ^ M) : ∃ k : Nat, k < M ∧ may o k := by
  have hne : o.toNat ≠ 0 := by omega
  obtain ⟨k, hk⟩ := Nat.exists_testBit_of_ne_zero hne
  have hk2 : k < M := by
    apply Classical.byContradiction
    intro hc
    have h3 : ((2 : Int) ^ M) = ((2 ^ M : Nat) : Int) := by simp
    have h4 : o.toNat < 2 ^ M := by omega
    have this : o.toNat < 2 ^ k := Nat.lt_of_lt_of_le h4 (Nat.pow_le_pow_right (by decide) (by omega))
    rw [Nat.testBit_lt_two_pow this] at hk; cases hk
  exact ⟨k, hk2, by omega, by omega, by simpa using hk⟩
end Go.Proofs.Ytgacbfckaglhbaa
namespace Go.Proofs.Ytgacbfckaglhbaa

/-- the first one, of the tasks i + 1 .. i + j that wait for i, with the greatest time; -1: none -/
def nextP (ts : List Tk) (T : List Int) (i : Nat) : Nat → Int
  | 0 => -1
  | j + 1 => if (i : Int) ∈ (tg ts (i + 1 + j)).after ∧ (nextP ts T i j < 0 ∨ T.getD (nextP ts T i j).toNat 0 < T.getD (i + 1 + j) 0) then ((i + 1 + j : Nat) : Int) else nextP ts T i j
theorem nextP_bd {ts : List Tk} {T : List Int} {i : Nat} : ∀ j, nextP ts T i j = -1 ∨ ((i + 1 : Nat) : Int) ≤ nextP ts T i j ∧ nextP ts T i j < ((i + 1 + j : Nat) : Int)
  | 0 => by simp [nextP]
  | j + 1 => by
    have := @nextP_bd ts T i j
    rw [nextP]; split <;> omega

/-- chains, times, the best chain and its time, behind the last d tasks -/
structure CS where
  c : List (List Int)
  t : List Int
  out : List Int
  most : Int
def chStep (ts : List Tk) (s : CS) (i : Nat) (j : Nat) : CS :=
  let nx := nextP ts s.t i j
  let ch := if nx < 0 then [(i : Int)] else (i : Int) :: s.c.getD nx.toNat []
  let t := if nx < 0 then (tg ts i).time else (tg ts i).time + s.t.getD nx.toNat 0
  ⟨s.c.set i ch, s.t.set i t, if s.most ≤ t then ch else s.out, if s.most ≤ t then t else s.most⟩
def chS (ts : List Tk) : Nat → CS
  | 0 => ⟨List.replicate ts.length [], List.replicate ts.length 0, [], 0⟩
  | d + 1 => chStep ts (chS ts d) (ts.length - 1 - d) d
abbrev chainP (ts : List Tk) : List Int × Int := ((chS ts ts.length).out, (chS ts ts.length).most)

structure CSOK (ts : List Tk) (d : Nat) (s : CS) : Prop where
  lc : s.c.length = ts.length
  lt : s.t.length = ts.length
  tb : ∀ j, 0 ≤ s.t.getD j 0 ∧ s.t.getD j 0 ≤ 20 * d
  cl : ∀ j, (s.c.getD j []).length ≤ d
  mb : 0 ≤ s.most ∧ s.most ≤ 20 * d
  ol : s.out.length ≤ d
theorem getD_setL {l : List (List Int)} {i j : Nat} {x : List Int} : (l.set i x).getD j [] = if i = j ∧ i < l.length then x else l.getD j [] := by
  simp only [List.getD_eq_getElem?_getD, List.getElem?_set]
  by_cases h : i = j
  · subst h
    by_cases h2 : i < l.length
    · simp [h2]
    · simp [h2]
  · simp [h]
theorem chS_ok {ts : List Tk} (ht : ∀ j, 0 ≤ (tg ts j).time ∧ (tg ts j).time ≤ 20) : ∀ d, CSOK ts d (chS ts d)
  | 0 => by
    refine ⟨by simp [chS], by simp [chS], fun j => ?_, fun j => ?_, by simp [chS], by simp [chS]⟩
    · simp only [chS, List.getD_eq_getElem?_getD, List.getElem?_replicate]; split <;> simp
    · simp only [chS, List.getD_eq_getElem?_getD, List.getElem?_replicate]; split <;> simp
  | d + 1 => by
    have h := chS_ok ht d
    have ht' := ht (ts.length - 1 - d)
    generalize hnx : nextP ts (chS ts d).t (ts.length - 1 - d) d = nx
    have h1 := h.tb nx.toNat
    have h2 := h.cl nx.toNat
    have hm := h.mb
    have ho := h.ol
    have e : chS ts (d + 1) = ⟨(chS ts d).c.set (ts.length - 1 - d) (if nx < 0 then [((ts.length - 1 - d : Nat) : Int)] else ((ts.length - 1 - d : Nat) : Int) :: (chS ts d).c.getD nx.toNat []), (chS ts d).t.set (ts.length - 1 - d) (if nx < 0 then (tg ts (ts.length - 1 - d)).time else (tg ts (ts.length - 1 - d)).time + (chS ts d).t.getD nx.toNat 0),
      if (chS ts d).most ≤ (if nx < 0 then (tg ts (ts.length - 1 - d)).time else (tg ts (ts.length - 1 - d)).time + (chS ts d).t.getD nx.toNat 0) then (if nx < 0 then [((ts.length - 1 - d : Nat) : Int)] else ((ts.length - 1 - d : Nat) : Int) :: (chS ts d).c.getD nx.toNat []) else (chS ts d).out,
      if (chS ts d).most ≤ (if nx < 0 then (tg ts (ts.length - 1 - d)).time else (tg ts (ts.length - 1 - d)).time + (chS ts d).t.getD nx.toNat 0) then (if nx < 0 then (tg ts (ts.length - 1 - d)).time else (tg ts (ts.length - 1 - d)).time + (chS ts d).t.getD nx.toNat 0) else (chS ts d).most⟩ := by
      subst hnx; rfl
    rw [e]
    have b1 : 0 ≤ (if nx < 0 then (tg ts (ts.length - 1 - d)).time else (tg ts (ts.length - 1 - d)).time + (chS ts d).t.getD nx.toNat 0) ∧ (if nx < 0 then (tg ts (ts.length - 1 - d)).time else (tg ts (ts.length - 1 - d)).time + (chS ts d).t.getD nx.toNat 0) ≤ 20 * ((d + 1 : Nat) : Int) := by split <;> omega
    have b2 : (if nx < 0 then [((ts.length - 1 - d : Nat) : Int)] else ((ts.length - 1 - d : Nat) : Int) :: (chS ts d).c.getD nx.toNat []).length ≤ d + 1 := by split <;> (simp only [List.length_cons, List.length_nil]; omega)
    generalize (if nx < 0 then (tg ts (ts.length - 1 - d)).time else (tg ts (ts.length - 1 - d)).time + (chS ts d).t.getD nx.toNat 0) = t at b1 ⊢
    generalize (if nx < 0 then [((ts.length - 1 - d : Nat) : Int)] else ((ts.length - 1 - d : Nat) : Int) :: (chS ts d).c.getD nx.toNat []) = c at b2 ⊢
    refine ⟨by simp [h.lc], by simp [h.lt], fun j => ?_, fun j => ?_, ?_, ?_⟩
    · have h3 := h.tb j
      simp only [getD_set]
      split <;> omega
    · have h3 := h.cl j
      simp only [getD_setL]
      split <;> omega
    · simp only []
      split <;> omega
    · simp only []
      split <;> omega
end Go.Proofs.Ytgacbfckaglhbaa
namespace Go.Proofs.Ytgacbfckaglhbaa
open W Go.RowKit
theorem YO.convT {P : Program} {e : Env} {bx : List Ow} {F : List Fct} {ty s d : TypeId} {x : Operand} {k k' ks : IntKind} {i : Int} (hd : IntT P d k') (hs : IntT P s ks) (hx : ev e x = some (.int k i)) : YO P (.convert s d x) ty e bx F (.int k' (k'.wrap i)) := YO.conv hd hs hx
attribute [local irreducible] WC WL WD YO LO LoopEnd W.Fin Scalar SliceT FieldAt Row ArrT AllocT KnS Has W.One SrcE IntT

def popP (x : Nat) : Int := ((x % 2 + x / 2 % 2 + x / 4 % 2 + x / 8 % 2 : Nat) : Int)
namespace Oc
def u (i : Int) : Int := IntKind.u64.wrap i
def sh (i j : Int) : Int := i.fdiv (2 ^ (min j.toNat 64))
def an (i j : Int) : Int := u (((i % 18446744073709551616).toNat &&& (j % 18446744073709551616).toNat : Nat) : Int)
def s1 (x : Int) : Int := u (an (sh x 1) 6148914691236517205 + an x 6148914691236517205)
def s2 (x : Int) : Int := u (an (sh x 2) 3689348814741910323 + an x 3689348814741910323)
def s3 (x : Int) : Int := an (u (sh x 4 + x)) 1085102592571150095
def s4 (x k : Int) : Int := u (x + sh x k)
def s5 (x : Int) : Int := IntKind.i64.wrap (((IntKind.i64.wrap x % 18446744073709551616).toNat &&& 127 : Nat) : Int)
def all (x : Int) : Int := s5 (s4 (s4 (s4 (s3 (s2 (s1 x))) 8) 16) 32)
theorem all_pop : ∀ x : Nat, x < 16 → all x = popP x := by decide +kernel
end Oc

section
variable {P : Program} {e : Env} {bx : List Ow} {F : List Fct} {ty t t' : TypeId} {x y : Operand} {i j : Int} {k : IntKind}
theorem YO.uadd (hx : ev e x = some (.int .u64 i)) (hy : ev e y = some (.int .u64 j)) : YO P (.binOp .add t x y t') ty e bx F (.int .u64 (Oc.u (i + j))) := YO.wadd hx hy
theorem YO.uand (hx : ev e x = some (.int .u64 i)) (hy : ev e y = some (.int .u64 j)) : YO P (.binOp .and t x y t') ty e bx F (.int .u64 (Oc.an i j)) := YO.bits hx hy fun w => by
  simp only [binOp, Op.intBits]
  simp [Oc.an, Oc.u, IntKind.bits]
  exact congrArg (fun m : Nat => IntKind.u64.wrap (m : Int)) (by show (BitVec.ofInt 64 i &&& BitVec.ofInt 64 j).toNat = _; rw [BitVec.toNat_and, BitVec.toNat_ofInt, BitVec.toNat_ofInt]; rfl)
theorem YO.ushr {kj : IntKind} (hx : ev e x = some (.int .u64 i)) (hy : ev e y = some (.int kj j)) (h : 0 ≤ j) : YO P (.binOp .shr t x y t') ty e bx F (.int .u64 (Oc.sh i j)) := YO.shr hx hy h
theorem YO.iand (hx : ev e x = some (.int .i64 (IntKind.i64.wrap i))) (hy : ev e y = some (.int .i64 127)) : YO P (.binOp .and t x y t') ty e bx F (.int .i64 (Oc.s5 i)) := YO.bits hx hy fun w => by
  simp only [binOp, Op.intBits]
  simp [Oc.s5, IntKind.bits]
  exact congrArg (fun m : Nat => IntKind.i64.wrap (m : Int)) (by show (BitVec.ofInt 64 (IntKind.i64.wrap i) &&& 127#64).toNat = _; rw [BitVec.toNat_and, BitVec.toNat_ofInt]; rfl)
end

theorem ones64_c (x : Nat) (h : x < 16) : FnB Try.prog 64 [.int .u64 x] [] [] (IsV (.int .i64 (popP x))) := by
  refine fn_of [(0, .int .u64 x)] 35 Try.func64 rfl Try.ntmps64 (by kernel_rfl) rfl (by repeat (first | exact Sub.nil _ | refine Sub.cons rfl ?_)) fun h0 => ?_
  rw [← Oc.all_pop x h]
  repeat' (first | refine go ?_ | (apply WL.k_shr; (apply YO.ushr; exact rfl; exact rfl; decide); exact rfl; exact rfl) | (apply WL.k_and; (apply YO.uand; exact rfl; exact rfl); exact rfl; exact rfl) | (apply WL.k_add; (apply YO.uadd; exact rfl; exact rfl); exact rfl; exact rfl))
  (apply WL.k_conv; (apply YO.convT; exact T.u3; exact T.u108; exact rfl); exact rfl; exact rfl)
  (apply WL.k_and; (apply YO.iand; exact rfl; exact rfl); exact rfl; exact rfl)
  refine go ?_
  refine WC.ret ?_
  exact Fin.v (ResE.t1 rfl rfl) (by (repeat (first | exact List.Mem.head _ | apply List.Mem.tail)); done) rfl

theorem ones_c (x : Nat) (h : x < 16) : FnB Try.prog 58 [.int .u64 x] [] [] (IsV (.int .i64 (popP x))) := by
  refine fn_of [(0, .int .u64 x)] 8 Try.func58 rfl Try.ntmps58 (by kernel_rfl) rfl (by repeat (first | exact Sub.nil _ | refine Sub.cons rfl ?_)) fun h0 => ?_
  repeat' (first | refine go ?_ | refine goX ?_ | refine goB ?_ | (refine goG ?_; intro g) | (refine goV ?_; intro v))
  first | refine WL.callV (ones64_c x h) ?_ | refine WD.callV (ones64_c x h) ?_
  repeat' (first | refine go ?_ | refine goX ?_ | refine goB ?_ | (refine goG ?_; intro g) | (refine goV ?_; intro v))
  refine WC.ret ?_
  exact Fin.v (ResE.t1 rfl rfl) (by (repeat (first | exact List.Mem.head _ | apply List.Mem.tail)); done) rfl
end Go.Proofs.Ytgacbfckaglhbaa
namespace Go.Proofs.Ytgacbfckaglhbaa

/-- starts 0-9, machines 10-19, free 20-23, done 24, length 25 -/
structure PlOK (L : List Int) : Prop where
  len : L.length = 26
  bd : ∀ j, 0 ≤ L.getD j 0 ∧ L.getD j 0 ≤ 1000000

def earlN (ts : List Tk) (L : List Int) (i k : Nat) : Nat → Int
  | 0 => L.getD (20 + k) 0
  | n + 1 => max (earlN ts L i k n) (L.getD ((tg ts i).after.getD n 0).toNat 0 + (tg ts ((tg ts i).after.getD n 0).toNat).time)
abbrev earlP (ts : List Tk) (L : List Int) (i k : Nat) : Int := earlN ts L i k (tg ts i).after.length

theorem earlN_bd {ts : List Tk} {L : List Int} (h : PlOK L) (ht : ∀ j, 0 ≤ (tg ts j).time ∧ (tg ts j).time ≤ 20) (i k : Nat) : ∀ n, 0 ≤ earlN ts L i k n ∧ earlN ts L i k n ≤ 1000020
  | 0 => by have := h.bd (20 + k); simp only [earlN]; omega
  | n + 1 => by
    have h1 := earlN_bd h ht i k n
    have h2 := h.bd ((tg ts i).after.getD n 0).toNat
    have h3 := ht ((tg ts i).after.getD n 0).toNat
    simp only [earlN]; omega
theorem earlP_bd {ts : List Tk} {L : List Int} (h : PlOK L) (ht : ∀ j, 0 ≤ (tg ts j).time ∧ (tg ts j).time ≤ 20) (i k : Nat) : 0 ≤ earlP ts L i k ∧ earlP ts L i k ≤ 1000020 := earlN_bd h ht i k _

def orInt (a b : Int) : Int := ((a.toNat ||| b.toNat : Nat) : Int)

/-- a plan with a further task on a machine -/
def withP (ts : List Tk) (L : List Int) (i k : Nat) : List Int :=
  let e := earlP ts L i k
  let L1 := (L.set i e).set (10 + i) k
  let L2 := L1.set (20 + k) (e + (tg ts i).time)
  let L3 := L2.set 24 (orInt (L.getD 24 0) (2 ^ i))
  L3.set 25 (max (L.getD 25 0) (e + (tg ts i).time))

/-- the first machine of the first n with the earliest start; -1: none -/
def bestQ (ts : List Tk) (L : List Int) (i : Nat) : Nat → Int
  | 0 => -1
  | k + 1 => if may (tg ts i).on k ∧ (bestQ ts L i k < 0 ∨ earlP ts L i k < earlP ts L i (bestQ ts L i k).toNat) then k else bestQ ts L i k
theorem bestQ_bd {ts : List Tk} {L : List Int} {i : Nat} : ∀ n : Nat, -1 ≤ bestQ ts L i n ∧ bestQ ts L i n < n
  | 0 => by simp [bestQ]
  | n + 1 => by
    have := @bestQ_bd ts L i n
    unfold bestQ; split <;> omega
theorem bestQ_pos {ts : List Tk} {L : List Int} {i : Nat} : ∀ {n : Nat}, (∃ k : Nat, k < n ∧ may (tg ts i).on k) → 0 ≤ bestQ ts L i n
  | 0, h => by obtain ⟨k, h, _⟩ := h; omega
  | n + 1, h => by
    unfold bestQ
    split
    · omega
    · rename_i hc
      by_cases hb : bestQ ts L i n < 0
      · obtain ⟨k, hk, hm⟩ := h
        have hkn : k ≠ n := by rintro rfl; exact hc ⟨hm, .inl hb⟩
        exact bestQ_pos ⟨k, by omega, hm⟩
      · omega

/-- the plan after the first j tasks of an order -/
def lisN (ts : List Tk) (M : Nat) (order : List Int) : Nat → List Int
  | 0 => List.replicate 26 0
  | j + 1 => withP ts (lisN ts M order j) (order.getD j 0).toNat (bestQ ts (lisN ts M order j) (order.getD j 0).toNat M).toNat

theorem orInt_bd {a : Int} {i : Nat} (ha : 0 ≤ a) (ha2 : a < 1024) (hi : i < 10) : 0 ≤ orInt a (2 ^ i) ∧ orInt a (2 ^ i) < 1024 := by
  unfold orInt
  have h1 : a.toNat < 2 ^ 10 := by omega
  have h2 : ((2 : Int) ^ i).toNat < 2 ^ 10 := by
    have : ((2 : Int) ^ i) = ((2 ^ i : Nat) : Int) := by simp
    rw [this, Int.toNat_natCast]
    exact Nat.pow_lt_pow_right (by decide) hi
  have := Nat.or_lt_two_pow h1 h2
  omega

structure PlB (L : List Int) (B : Int) : Prop where
  len : L.length = 26
  bd : ∀ j, j ≠ 24 → 0 ≤ L.getD j 0 ∧ L.getD j 0 ≤ B
  done : 0 ≤ L.getD 24 0 ∧ L.getD 24 0 < 1024
theorem PlB.ok {L : List Int} {B : Int} (h : PlB L B) (hB : B ≤ 1000000) : PlOK L := ⟨h.len, fun j => by
  by_cases hj : j = 24
  · subst hj; have := h.done; omega
  · have := h.bd j hj; omega⟩
theorem earlN_B {ts : List Tk} {L : List Int} {B : Int} (h : PlB L B) (hB : 0 ≤ B) (ht : ∀ j, 0 ≤ (tg ts j).time ∧ (tg ts j).time ≤ 20) {i k : Nat} (hk : k < 4) : ∀ n, (∀ q, q < n → ((tg ts i).after.getD q 0).toNat < 10) → 0 ≤ earlN ts L i k n ∧ earlN ts L i k n ≤ B + 20
  | 0, _ => by have := h.bd (20 + k) (by omega); simp only [earlN]; omega
  | n + 1, ha => by
    have h1 := earlN_B h hB ht (i := i) hk n (fun q hq => ha q (by omega))
    have h2 := h.bd ((tg ts i).after.getD n 0).toNat (by have := ha n (by omega); omega)
    have h3 := ht ((tg ts i).after.getD n 0).toNat
    simp only [earlN]; omega
theorem withP_B {ts : List Tk} {M : Nat} (hg : AllGood M ts) (hn : ts.length ≤ 10) {L : List Int} {B : Int} (h : PlB L B) (hB : 0 ≤ B) {i k : Nat} (hi : i < ts.length) (hk : k < 4) : PlB (withP ts L i k) (B + 40) := by
  have ht := good_time hg
  have he : 0 ≤ earlP ts L i k ∧ earlP ts L i k ≤ B + 20 := earlN_B h hB ht (i := i) hk (tg ts i).after.length (fun q hq => by have := good_after hg hi q hq; omega)
  have hti := ht i
  have hd := orInt_bd h.done.1 h.done.2 (i := i) (by omega)
  have hl := h.bd 25 (by omega)
  refine ⟨by simp [withP, h.len], fun j hj => ?_, ?_⟩
  · have hb := h.bd j hj
    unfold withP
    simp only [getD_set]
    repeat' split
    all_goals omega
  · unfold withP
    simp only [getD_set]
    rw [if_neg (by omega), if_pos (by simp [h.len])]
    exact hd
end Go.Proofs.Ytgacbfckaglhbaa
namespace Go.Proofs.Ytgacbfckaglhbaa

/-- bit k of o, as the program asks it -/
abbrev bitI (o : Int) (k : Int) : Int := o / 2 ^ k.toNat % 2

def freeS (L : List Int) (on : Nat) : Nat → Int
  | 0 => 0
  | k + 1 => if bitI on (k : Int) = 1 then freeS L on k + L.getD (20 + k) 0 else freeS L on k
def timeS (ts : List Tk) (L : List Int) (on : Nat) : Nat → Int
  | 0 => 0
  | i + 1 => if bitI (L.getD 24 0) (i : Int) = 0 ∧ W.anot (tg ts i).on on = 0 then timeS ts L on i + (tg ts i).time else timeS ts L on i
def loadP (ts : List Tk) (M : Nat) (L : List Int) (on : Nat) : Int := (freeS L on M + timeS ts L on ts.length + popP on - 1) / popP on

theorem freeS_bd {L : List Int} {on : Nat} (h : PlOK L) : ∀ k, 0 ≤ freeS L on k ∧ freeS L on k ≤ 1000000 * k
  | 0 => by simp [freeS]
  | k + 1 => by
    have h1 := freeS_bd (on := on) h k
    have h2 := h.bd (20 + k)
    unfold freeS; split <;> omega
theorem timeS_bd {ts : List Tk} {L : List Int} {on : Nat} (ht : ∀ j, 0 ≤ (tg ts j).time ∧ (tg ts j).time ≤ 20) : ∀ k, 0 ≤ timeS ts L on k ∧ timeS ts L on k ≤ 20 * k
  | 0 => by simp [timeS]
  | k + 1 => by
    have h1 := timeS_bd (L := L) (on := on) ht k
    have h2 := ht k
    unfold timeS; split <;> omega
theorem popP_bd {on : Nat} (h1 : 1 ≤ on) (h2 : on < 16) : 1 ≤ popP on ∧ popP on ≤ 4 := (by decide : ∀ x : Nat, x < 16 → 1 ≤ x → 1 ≤ popP x ∧ popP x ≤ 4) on h2 h1
theorem bit_01 (o : Int) (k : Int) : bitI o k = 0 ∨ bitI o k = 1 := by unfold bitI; omega
theorem div_bd {o : Int} (k : Nat) (h : 0 ≤ o) : 0 ≤ o / 2 ^ k ∧ o / 2 ^ k ≤ o := ⟨Int.ediv_nonneg h (Int.le_of_lt (Int.pow_pos (by decide))), Int.ediv_le_self _ h⟩
end Go.Proofs.Ytgacbfckaglhbaa
