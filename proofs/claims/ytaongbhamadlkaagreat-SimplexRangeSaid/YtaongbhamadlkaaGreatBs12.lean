/- Lemmas for the proof of a law: Contracts of slices at integers: Index, IndexFunc, Contains, ContainsFunc, Clone, Compact, DeleteFunc. Conditions: none. -/
import Derived.Test.YtaongbhamadlkaaGreatBs11
import Derived.Test.YtaongbhamadlkaaGreatBs10
set_option linter.unusedVariables false
set_option linter.unusedSimpArgs false
set_option linter.unusedSectionVars false
namespace Go.Proofs.YtaongbhamadlkaaGreat
open W Go.RowKit
theorem fst_in {l:List Int} {p:Int→Bool}:(X.fstT (fun i=>p (l.getD i 0)) l.length 0).isSome=true↔∃ x∈l,p x=true:=by
 rcases X.fstT_spec (fun i=>p (l.getD i 0)) l.length 0 with ⟨h1,h2⟩|⟨j,h1,_,h3,h4,_⟩
 ·rw[h1]
  constructor
  ·intro h;cases h
  ·rintro⟨x,hx,h⟩
   obtain⟨j,hj,rfl⟩:=List.mem_iff_getElem.1 hx
   have:=h2 j (by omega) (by omega)
   simp[List.getD_eq_getElem?_getD,hj,h] at this
 ·rw[h1]
  refine⟨fun _=>⟨l.getD j 0,?_,h4⟩,fun _=>rfl⟩
  have:j < l.length:=by omega
  simp[List.getD_eq_getElem?_getD,this]
namespace U
attribute [local irreducible] WC WL WD YO LO LoopEnd W.Fin Scalar SliceT FieldAt Row ArrT AllocT KnS Has W.One SrcE IntT
theorem d84 {G G':Prop} (h:G') (s:Bx G'→G:=by
 intro h
 first|(apply WC.draw (id:=6) [0,1,2,3,4,5,6,7,8,9] (.held 0 (.held 1 (.held 2 (.held 3 (.held 4 (.held 5 (.held 6 (.held 7 (.held 8 (.held 9 (.done))))))))))) mixed (by kernel_rfl))|(apply WC.draw (id:=11) [0,1,2,3,4,5,6,7,8,9] (.held 0 (.held 1 (.held 2 (.held 3 (.held 4 (.held 5 (.held 6 (.held 7 (.held 8 (.held 9 (.done))))))))))) mixed (by kernel_rfl))|fail
 exact Bx.h h):G:=s ⟨h⟩
set_option maxHeartbeats 4000000 in
set_option maxRecDepth 60000 in
theorem indexFI_c (u:Value) (l:List Int) (f:FuncId) (cap:List Value) (Fc:List Fct) (p:Int→Bool) (hp:∀ x,FnB Tryz.prog f ([.int .i64 x]++cap) [] Fc (IsV (.bool (p x)))) :
  FnB Tryz.prog 138 [u,.func (.func f) #[] cap.toArray] [] (sI u l::Fc) (IsV (.int .i64 (optI (X.fstT (fun i=>p (l.getD i 0)) l.length 0)))):=by
 refine fn_of [(0,u),(1,(.func (.func f) #[] cap.toArray))] 19 Tryz.func138 rfl Tryz.ntmps138 (by kernel_rfl) rfl suA fun h0=>?_
 refine WC.lenI u l hmA fun hlen=>?_
 repeat'(first|refine gA ?_|(refine goG ?_;intro g)|(refine goV ?_;intro v))
 refine WC.lp (σ:=Nat) (fun i=>[(8,.int .i64 (i:Int)),(7,.int .i64 (l.length:Int)),(0,u),(1,.func (.func f) #[] cap.toArray)]) (fun _=>[]) (fun _=>ge h0::sI u l::Fc) (fun i=>i≤l.length∧X.fstT (fun i=>p (l.getD i 0)) l.length 0=X.fstT (fun i=>p (l.getD i 0)) (l.length - i) i) (fun i=>l.length - i) 0 ⟨Nat.zero_le _,rfl⟩ ?_ (hG:=.cons hmA (.cons hmA (HasAll.tail fun _ h=>by(repeat(first|exact h|apply List.mem_cons_of_mem)))))
 rintro i ⟨hi,he⟩
 by_cases c:i < l.length
 ·rw[fstT_at c] at he
  repeat'(first|refine gA ?_|(refine goG ?_;intro g)|(refine goV ?_;intro v))
  refine WL.callC [] cap (vs:=[.int .i64 (l.getD i 0)]) (hp (l.getD i 0)) ?_ (hF:=(HasAll.tail fun _ h=>by(repeat(first|exact h|apply List.mem_cons_of_mem))))
  rintro _ _ _ ⟨rfl,rfl,rfl⟩
  simp only[List.nil_append,List.cons_append]
  cases h:p (l.getD i 0) with
  |true=>
   rw[if_pos h] at he
   rw[he]
   repeat'(first|refine gA ?_|(refine goG ?_;intro g)|(refine goV ?_;intro v))
   exact WC.ret (Fin.v (ResE.t1 rfl rfl) meA rfl)
  |false=>
   rw[if_neg (by rw[h];decide)] at he
   repeat'(first|refine gA ?_|(refine goG ?_;intro g)|(refine goV ?_;intro v))
   exact LoopEnd.mk (i+1) ⟨by omega,he⟩ (by show l.length - (i+1) < l.length - i;omega) (hG:=.cons hmA (.cons hmA (HasAll.tail fun _ h=>by(repeat(first|exact h|apply List.mem_cons_of_mem)))))
 ·obtain rfl:i=l.length:=by omega
  rw[Nat.sub_self,X.fstT] at he
  rw[he]
  repeat'(first|refine gA ?_|(refine goG ?_;intro g)|(refine goV ?_;intro v))
  exact WC.ret (Fin.v (ResE.t1 rfl rfl) meA rfl)
set_option maxHeartbeats 4000000 in
set_option maxRecDepth 60000 in
theorem containsFI_c (u:Value) (l:List Int) (f:FuncId) (cap:List Value) (Fc:List Fct) (p:Int→Bool) (hp:∀ x,FnB Tryz.prog f ([.int .i64 x]++cap) [] Fc (IsV (.bool (p x)))) :
  FnB Tryz.prog 78 [u,.func (.func f) #[] cap.toArray] [] (sI u l::Fc) (IsV (.bool (l.any p))):=by
 refine fn_of [(0,u),(1,(.func (.func f) #[] cap.toArray))] 9 Tryz.func78 rfl Tryz.ntmps78 (by kernel_rfl) rfl suA fun h0=>?_
 have hx:=@fst_in l p
 repeat'(first|refine gA ?_|(refine goG ?_;intro g)|(refine goV ?_;intro v))
 refine WL.callV (indexFI_c u l f cap Fc p hp) ?_ (hF:=.cons (.f hmA) (hasB_tail fun _ h=>by(repeat(first|exact h|apply List.mem_cons_of_mem))))
 cases hq:X.fstT (fun i=>p (l.getD i 0)) l.length 0 with
 |none=>
  have ha:l.any p=false:=by
   rw[Bool.eq_false_iff]
   intro h
   rw[List.any_eq_true] at h
   have:=hx.2 h
   rw[hq] at this;cases this
  rw[show optI none= -1 from rfl,ha]
  repeat'(first|refine gA ?_|(refine goG ?_;intro g)|(refine goV ?_;intro v))
  exact WC.ret (Fin.v (ResE.t1 rfl rfl) meA rfl)
 |some k=>
  have ha:l.any p=true:=List.any_eq_true.2 (hx.1 (by rw[hq];rfl))
  rw[show optI (some k)=(k:Int) from rfl,ha]
  repeat'(first|refine gA ?_|(refine goG ?_;intro g)|(refine goV ?_;intro v))
  exact WC.ret (Fin.v (ResE.t1 rfl rfl) meA rfl)
set_option maxHeartbeats 4000000 in
set_option maxRecDepth 60000 in
theorem indexI_c (u:Value) (l:List Int) (x:Int):FnB Tryz.prog 122 [u,.int .i64 x] [] [sI u l] (IsV (.int .i64 (optI (X.fstT (fun i=>decide (x=l.getD i 0)) l.length 0)))):=by
 refine fn_of [(0,u),(1,(.int .i64 x))] 19 Tryz.func122 rfl Tryz.ntmps122 (by kernel_rfl) rfl suA fun h0=>?_
 refine WC.lenI u l hmA fun hlen=>?_
 repeat'(first|refine gA ?_|(refine goG ?_;intro g)|(refine goV ?_;intro v))
 refine WC.lp (σ:=Nat) (fun i=>[(8,.int .i64 (i:Int)),(7,.int .i64 (l.length:Int)),(0,u),(1,.int .i64 x)]) (fun _=>[]) (fun _=>[ge h0,sI u l]) (fun i=>i≤l.length∧X.fstT (fun i=>decide (x=l.getD i 0)) l.length 0=X.fstT (fun i=>decide (x=l.getD i 0)) (l.length - i) i) (fun i=>l.length - i) 0 ⟨Nat.zero_le _,rfl⟩ ?_
 rintro i ⟨hi,he⟩
 by_cases c:i < l.length
 ·rw[fstT_at c] at he
  by_cases h:x=l.getD i 0
  ·rw[if_pos (decide_eq_true h)] at he
   rw[he]
   repeat'(first|refine gA ?_|(refine goG ?_;intro g)|(refine goV ?_;intro v))
   exact WC.ret (Fin.v (ResE.t1 rfl rfl) meA rfl)
  ·rw[if_neg (by simpa using h)] at he
   repeat'(first|refine gA ?_|(refine goG ?_;intro g)|(refine goV ?_;intro v))
   exact LoopEnd.mk (i+1) ⟨by omega,he⟩ (by show l.length - (i+1) < l.length - i;omega)
 ·obtain rfl:i=l.length:=by omega
  rw[Nat.sub_self,X.fstT] at he
  rw[he]
  repeat'(first|refine gA ?_|(refine goG ?_;intro g)|(refine goV ?_;intro v))
  exact WC.ret (Fin.v (ResE.t1 rfl rfl) meA rfl)
set_option maxHeartbeats 4000000 in
set_option maxRecDepth 60000 in
theorem containsI_c (u:Value) (l:List Int) (x:Int):FnB Tryz.prog 141 [u,.int .i64 x] [] [sI u l] (IsV (.bool (decide (x∈l)))):=by
 refine fn_of [(0,u),(1,(.int .i64 x))] 9 Tryz.func141 rfl Tryz.ntmps141 (by kernel_rfl) rfl suA fun h0=>?_
 have hx:=@fst_in l (fun y=>decide (x=y))
 repeat'(first|refine gA ?_|(refine goG ?_;intro g)|(refine goV ?_;intro v))
 first|refine WL.callV (indexI_c u l x) ?_|refine WD.callV (indexI_c u l x) ?_
 cases hq:X.fstT (fun i=>decide (x=l.getD i 0)) l.length 0 with
 |none=>
  have ha:¬x∈l:=fun h=>by
   have:=hx.2 ⟨x,h,by simp⟩
   rw[hq] at this;cases this
  rw[show optI none= -1 from rfl,decide_eq_false ha]
  repeat'(first|refine gA ?_|(refine goG ?_;intro g)|(refine goV ?_;intro v))
  exact WC.ret (Fin.v (ResE.t1 rfl rfl) meA rfl)
 |some k=>
  have ha:x∈l:=by
   obtain⟨y,h1,h2⟩:=hx.1 (by rw[hq];rfl)
   have:=of_decide_eq_true h2
   subst this;exact h1
  rw[show optI (some k)=(k:Int) from rfl,decide_eq_true ha]
  repeat'(first|refine gA ?_|(refine goG ?_;intro g)|(refine goV ?_;intro v))
  exact WC.ret (Fin.v (ResE.t1 rfl rfl) meA rfl)
set_option maxHeartbeats 4000000 in
set_option maxRecDepth 60000 in
theorem cloneI_c (u:Value) (l:List Int) (hl:l.length≤1000000):FnB Tryz.prog 81 [u] [] [sI u l] (IsO 3 1 (ints l)):=by
 refine fn_of [(0,u)] 8 Tryz.func81 rfl Tryz.ntmps81 (by kernel_rfl) rfl suA fun h0=>?_
 cases hn:isNil u with
 |true=>
  refine WC.nil0 (v:=u) (l:=l) hmA hn fun h=>?_
  subst h
  repeat'(first|refine gA ?_|(refine goG ?_;intro g)|(refine goV ?_;intro v))
  refine WC.addNil 3 1 ?_
  exact WC.ret (Fin.o (v:=.slice none 0 0) (cs:=ints []) (ResE.t1 rfl rfl) meA (.head _) rfl)
 |false=>
  repeat'(first|refine gA ?_|(refine goG ?_;intro g)|(refine goV ?_;intro v))
  exact WC.ret (Fin.o (ResE.t1 rfl rfl) meA meA (List.nil_append _))
set_option maxHeartbeats 4000000 in
set_option maxRecDepth 60000 in
theorem compact0_c (v:Value) (l:List Int) (hl:l.length=0):FnB Tryz.prog 84 [v] [Ow.slice v 3 1 (ints l)] [] (IsO 3 1 (ints l)):=by
 refine fn_of [(0,v)] 61 Tryz.func84 rfl Tryz.ntmps84 (by kernel_rfl) rfl suA fun h0=>?_
 repeat'(first|refine gB ?_|(refine gH ?_;intro g)|(refine gW ?_;intro v)|refine d84 ?_|fail)
 exact WC.ret (Fin.o (ResE.t1 rfl rfl) meA meA rfl)
theorem compactA_c (v:Value) (l:List Int) (hl:l.length≤1000000):FnB Tryz.prog 84 [v] [Ow.slice v 3 1 (ints l)] [] (IsO 3 1 (ints (Lib.compact l))):=by
 cases l with
 |nil=>exact compact0_c v [] rfl
 |cons a l=>exact compact_c v (a::l) hl (by simp)
set_option maxHeartbeats 4000000 in
set_option maxRecDepth 60000 in
theorem delete0_c (v:Value) (f:FuncId) (cap:List Value) (Fc:List Fct) (p:Int→Bool) (hp:∀ x,FnB Tryz.prog f ([.int .i64 x]++cap) [] Fc (IsV (.bool (p x)))) :
  FnB Tryz.prog 80 [v,.func (.func f) #[] cap.toArray] [Ow.slice v 3 1 (ints [])] Fc (IsO 3 1 (ints [])):=by
 refine fn_of [(0,v),(1,(.func (.func f) #[] cap.toArray))] 42 Tryz.func80 rfl Tryz.ntmps80 (by kernel_rfl) rfl suA fun h0=>?_
 repeat'(first|refine gA ?_|(refine goG ?_;intro g)|(refine goV ?_;intro v))
 refine WL.callV (indexFI_c v [] f cap Fc p hp) ?_ (hF:=.cons (.oI meA) (hasB_tail fun _ h=>by(repeat(first|exact h|apply List.mem_cons_of_mem))))
 rw[show optI (X.fstT (fun i=>p (([]:List Int).getD i 0)) ([]:List Int).length 0)= -1 from rfl]
 repeat'(first|refine gA ?_|(refine goG ?_;intro g)|(refine goV ?_;intro v))
 exact WC.ret (Fin.o (ResE.t1 rfl rfl) meA meA rfl)
set_option maxHeartbeats 4000000 in
set_option maxRecDepth 60000 in
theorem core1_c (x:Int):FnB Tryz.prog 79 ([.int .i64 x]++[]) [] [] (IsV (.bool (decide (x < -1)))):=by
 refine fn_of [(0,(.int .i64 x))] 5 Tryz.func79 rfl Tryz.ntmps79 (by kernel_rfl) rfl suA fun h0=>?_
 by_cases c:x < -1
 ·repeat'(first|refine gA ?_|(refine goG ?_;intro g)|(refine goV ?_;intro v))
  exact WC.ret (Fin.v (ResE.t1 rfl rfl) meA (by rw[decide_eq_true c]))
 ·repeat'(first|refine gA ?_|(refine goG ?_;intro g)|(refine goV ?_;intro v))
  exact WC.ret (Fin.v (ResE.t1 rfl rfl) meA (by rw[decide_eq_false c]))
set_option maxHeartbeats 4000000 in
set_option maxRecDepth 60000 in
theorem core2_c (x:Int):FnB Tryz.prog 82 ([.int .i64 x]++[]) [] [] (IsV (.bool (decide (x < 0)))):=by
 refine fn_of [(0,(.int .i64 x))] 5 Tryz.func82 rfl Tryz.ntmps82 (by kernel_rfl) rfl suA fun h0=>?_
 by_cases c:x < 0
 ·repeat'(first|refine gA ?_|(refine goG ?_;intro g)|(refine goV ?_;intro v))
  exact WC.ret (Fin.v (ResE.t1 rfl rfl) meA (by rw[decide_eq_true c]))
 ·repeat'(first|refine gA ?_|(refine goG ?_;intro g)|(refine goV ?_;intro v))
  exact WC.ret (Fin.v (ResE.t1 rfl rfl) meA (by rw[decide_eq_false c]))
set_option maxHeartbeats 4000000 in
set_option maxRecDepth 60000 in
theorem core3_c (x:Int) (y:Int) (g:Nat):FnB Tryz.prog 86 ([.int .i64 x]++[ptr g]) [] [ce g 3 [.int .i64 y]] (IsV (.bool (decide (x=y)))):=by
 refine fn_of [(0,(.int .i64 x)),(1,(ptr g))] 7 Tryz.func86 rfl Tryz.ntmps86 (by kernel_rfl) rfl suA fun h0=>?_
 by_cases c:x=y
 ·repeat'(first|refine gA ?_|(refine goG ?_;intro g)|(refine goV ?_;intro v))
  exact WC.ret (Fin.v (ResE.t1 rfl rfl) meA (by rw[decide_eq_true c]))
 ·repeat'(first|refine gA ?_|(refine goG ?_;intro g)|(refine goV ?_;intro v))
  exact WC.ret (Fin.v (ResE.t1 rfl rfl) meA (by rw[decide_eq_false c]))
end U
section
open Go.Shelf Go.Sort
set_option maxHeartbeats 1000000 in
theorem sneg_gives (W:World) (x:Int):FnGives Tryz.prog 82 #[] #[.int .i64 x] (.bool (decide (x < 0))) W:=by
 unfold FnGives
 show Calls Tryz.prog 82 #[.int .i64 x] W _
 go_enter Tryz.func82,Tryz.ntmps82
 go_wp2
 go_ret
 exact⟨rfl,0,rfl⟩
set_option maxHeartbeats 1000000 in
theorem seq_gives (W:World) (x y:Int) (g:Nat) (hc:W.cell? ⟨g,0,none⟩=some (.int .i64 y)):FnGives Tryz.prog 86 #[.pointer (some ⟨g,0,none⟩)] #[.int .i64 x] (.bool (decide (x=y))) W:=by
 unfold FnGives
 show Calls Tryz.prog 86 #[.int .i64 x,.pointer (some ⟨g,0,none⟩)] W _
 go_enter Tryz.func86,Tryz.ntmps86
 go_wp2
 go_ret
 exact⟨rfl,0,rfl⟩
end
open Go.Sort Go.Shelf in
theorem U.delNeg_c (v:Value) (l:List Int) (hl:l.length≤1000000):FnB Tryz.prog 80 [v,.func (.func 82) #[] #[]] [Ow.slice v 3 1 (ints l)] [] (IsO 3 1 (ints (l.filter fun x=>!decide (x < 0)))):=by
 cases l with
 |nil=>exact U.delete0_c v 82 [] [] _ U.core2_c
 |cons a l=>exact delete_row hl (by simp) (fun x=>decide (x < 0)) _ _ (enters_of Tryz.func82 (by kernel_rfl) rfl) fun fr w b cap hv ho=>⟨fun W x _=>sneg_gives W x,fun n os dk x _=>sneg_gives _ x⟩
open Go.Sort Go.Shelf in
theorem U.delEq_c (v:Value) (l:List Int) (y:Int) (g:Nat) (hl:l.length≤1000000):FnB Tryz.prog 80 [v,.func (.func 86) #[] #[ptr g]] [Ow.slice v 3 1 (ints l)] [ce g 3 [.int .i64 y]] (IsO 3 1 (ints (l.filter fun x=>!decide (x=y)))):=by
 cases l with
 |nil=>exact U.delete0_c v 86 [ptr g] _ _ fun x=>U.core3_c x y g
 |cons a l=>
   refine delete_row hl (by simp) (fun x=>decide (x=y)) _ _ (enters_of Tryz.func86 (by kernel_rfl) rfl) ?_
   intro fr w b cap hv ho
   have hf:=ho.facts _ (.head _)
   have hg:w.heap[g]?=some (.cells #[.int .i64 y] 3 (0,0)):=imm_heap hf
   have hgl:g < w.heap.size:=(Array.getElem?_eq_some_iff.1 hg).1
   have hgb:g≠b:=by
    rintro rfl
    have:imm fr [Ow.slice v 3 1 (ints (a::l))] w.heap g=none:=by
     unfold imm;rw[if_pos];subst hv;simp[ids,Ow.ids]
    have h2:imm fr [Ow.slice v 3 1 (ints (a::l))] w.heap g=some (.cells #[.int .i64 y] 3 (0,0)):=hf
    rw[this] at h2;cases h2
   have hc:w.cell? ⟨g,0,none⟩=some (.int .i64 y):=by unfold World.cell?;rw[hg];rfl
   refine⟨fun W x hW=>seq_gives W x y g ((hW.cell (p:=⟨g,0,none⟩) hgl).trans hc),fun n os dk x _=>seq_gives _ x y g ?_⟩
   unfold World.cell? sortWorld
   rw[Sort.heap_grow_old _ os (by simpa using hgl)]
   have:(putRow (Value.int .i64) (Sort.ahead w n) b 0 dk).heap[g]?=w.heap[g]?:=by
    unfold putRow mapBlock
    show(w.heap.modify b _)[g]?=_
    rw[Array.getElem?_modify,if_neg (fun h=>hgb h.symm)]
   rw[this,hg];rfl
end Go.Proofs.YtaongbhamadlkaaGreat
namespace Go.Proofs.YtaongbhamadlkaaGreat
open W Go.RowKit
def szK (m K0:Nat):Nat:=2*(m*(50*K0+2)+1)+K0
def szL (m K0:Nat):Nat:=m*(K0+szK m K0+1)+1+K0+1
def szR (v m K0:Nat):Nat:=szL m K0+(2*szK m K0+1)+(v*(2*(2*szK m K0+1)+1)+1)
structure Fits (v m K0:Nat):Prop where
 l:szL m K0≤20000000
 d:v*(2*(2*szK m K0+1)+1)+1+2*(2*szK m K0+1)≤400000000
 v:v≤48
 m:m≤128
 k:0 < K0
theorem szK_le (m K0:Nat):szK m K0≤szL m K0:=by
 unfold szL
 cases m with
 |zero=>unfold szK;simp;omega
 |succ m=>
  have:1*(K0+szK (m+1) K0+1)≤(m+1)*(K0+szK (m+1) K0+1):=Nat.mul_le_mul_right _ (by omega)
  omega
theorem szs_of {v m K0:Nat} {L:List X.Ln} {g:Nat→Rat} (hf:Fits v m K0) (hL:LSq K0 v L) (hm:L.length≤m) (hg:∀ k,k < v→Sq K0 (g k)):X.Szs (X.lpOf v L g) K0 (szK m K0) (szL m K0) where
 pos:=hf.k
 a:=fun r hr k hk=>hL.ca hr hk
 b:=fun r hr=>hL.cb hr
 g:=hg
 k:=by
  have:=Nat.mul_le_mul_right (50*K0+2) hm
  show 2*(L.length*(50*K0+2)+1)+K0≤szK m K0
  unfold szK;omega
 v:=hf.v
 m:=Nat.le_trans hm hf.m
 l:=by
  have:=Nat.mul_le_mul_right (K0+szK m K0+1) hm
  show L.length*(K0+szK m K0+1)+1+K0+1≤szL m K0
  unfold szL;omega
 t:=hf.l
 kl:=szK_le m K0
 d:=hf.d
theorem solveL_c (M:Pm) {v m K0:Nat} {L:List X.Ln} {g:Nat→Rat} (hf:Fits v m K0) (hL:LSq K0 v L) (hm:L.length≤m) (hg:∀ k,k < v→Sq K0 (g k)):FnB Tryz.prog 12 [pgv M v] [] [fP M (X.lpOf v L g)] (IsAns (X.lpOf v L g) (szR v m K0)):=
 Z.solve_c M (X.lpOf v L g) K0 (szK m K0) (szL m K0) (szR v m K0) (szs_of hf hL hm hg) hf.v (Nat.le_trans hm hf.m) (by unfold szR;omega) (by unfold szR;omega) (by show v*_+1≤_;unfold szR;omega)
theorem AnsP.sem {p:X.Lp} {kind xn yn:Nat} {x y:Nat→Rat} {z:Rat} (h:AnsP p kind xn yn x y z):X.Sem p kind z:=by
 rcases h with ⟨rfl,_,_,rfl,h⟩|⟨rfl,_,_,h⟩|⟨rfl,_,_,rfl,h⟩
 ·exact X.Sem.inf h
 ·exact X.Sem.opt h
 ·exact X.Sem.unb h
theorem Dok.le {n m K:Nat} (h:Dok m K) (hn:n≤m):Dok n K:=by
 unfold Dok at *
 have:=Nat.mul_le_mul_right (2*K+1) hn
 omega
theorem checkL_c (M:Pm) (N:Am) {v m K0 R xn yn:Nat} {L:List X.Ln} {g x y:Nat→Rat} {z:Rat} {kind:Int} (hf:Fits v m K0) (hL:LSq K0 v L) (hm:L.length≤m) (hg:∀ k,k < v→Sq K0 (g k)) (hR:K0≤R) (hd:Dok v R) (hd2:Dok m R) (hx:∀ k,k < xn→Sq R (x k)) (hy:∀ k,k < yn→Sq R (y k)) :
  FnB Tryz.prog 15 [pgv M v,agv N kind] [] [fP M (X.lpOf v L g),fA N xn yn x y z] (IsV (.int .i64 (if rightP (X.lpOf v L g) kind xn yn x y z=true then 0 else 22))):=
 Z.check_c M (X.lpOf v L g) N R xn yn x y z kind hd (hd2.le hm) hf.v (Nat.le_trans hm hf.m) (Nat.lt_of_lt_of_le hf.k hR) (fun r hr k hk=>(hL.ca hr hk).up hR) (fun r hr=>(hL.cb hr).up hR) (fun k hk=>(hg k hk).up hR) hx hy
def selT (L:List X.Ln) (p:Nat→Bool) (i:Nat):List X.Ln:=((List.range i).filter p).map fun j=>L.getD j ([],0)
def keepP (gs l:List Int) (i:Nat):Bool:=decide (gs.getD i 0 < 0∨gs.getD i 0∈l)
def contP (v:Nat) (L:List X.Ln) (gs l:List Int):Bool:=!X.feasP (selT L (keepP gs l) L.length) v
section
variable {L:List X.Ln} {p:Nat→Bool} {i K v:Nat}
theorem selT_up:selT L p (i+1)=selT L p i++if p i=true then[L.getD i ([],0)] else[]:=by
 unfold selT
 rw[List.range_succ,List.filter_append,List.map_append]
 congr 1
 simp only[List.filter_cons,List.filter_nil]
 split <;> rfl
theorem selT_len:(selT L p i).length≤i:=by
 unfold selT
 rw[List.length_map]
 exact Nat.le_trans (List.length_filter_le _ _) (by rw[List.length_range];exact Nat.le_refl _)
theorem selT_sq (h:LSq K v L) (hi:i≤L.length):LSq K v (selT L p i):=fun c hc=>by
 unfold selT at hc
 obtain⟨j,hj,rfl⟩:=List.mem_map.1 hc
 have:=List.mem_range.1 (List.mem_filter.1 hj).1
 exact h _ (getD_ln (by omega))
end
theorem Sem.cont {v:Nat} {L:List X.Ln} {g:Nat→Rat} {k:Int} {z:Rat} (hw:∀ c∈L,c.1.length=v) (h:X.Sem (X.lpOf v L g) k z):(!X.feasP L v)=decide (k=1):=by
 have h1:=h.one
 have h2:=X.feas_iff hw
 cases hf:X.feasP L v with
 |true=>
  obtain⟨x,hx⟩:=h2.1 hf
  rw[decide_eq_false fun hk=>h1.1 hk ⟨x,X.pt_of.2 hx⟩];rfl
 |false=>
  rw[decide_eq_true (h1.2 fun ⟨x,hx⟩=>by rw[h2.2 ⟨x,X.pt_of.1 hx⟩] at hf;cases hf)];rfl
namespace U
open Z
attribute [local irreducible] WC WL WD YO LO LoopEnd W.Fin Scalar SliceT FieldAt Row ArrT AllocT KnS Has W.One SrcE IntT
theorem d85 {G G':Prop} (h:G') (s:Bx G'→G:=by
 intro h
 first|(apply WC.draw (id:=1) [0,1,2,3] (.held 0 (.held 1 (.held 2 (.held 3 (.more 4 (.more 5 (.loud 6 (.loud 7 (.done))) (.loud 6 (.loud 5 (.loud 7 (.done))))) (.loud 6 (.loud 4 (.loud 5 (.loud 7 (.done)))))))))) mixed (by kernel_rfl))|fail
 exact Bx.h h):G:=s ⟨h⟩
structure US where
 n:Nat
 sv:Value
 M:Pm
set_option maxHeartbeats 8000000 in
set_option maxRecDepth 60000 in
theorem contradictory_c (M:Pm) (K0 m vn:Nat) (L:List X.Ln) (gf:Nat→Rat) (gs l:List Int) (ug vl:Value) (hf:Fits vn m K0) (hL:LSq K0 vn L) (hm:L.length≤m) (hgs:gs.length=L.length) :
  FnB Tryz.prog 85 [pgv M vn,ug,vl] [] [fP M (X.lpOf vn L gf),sI ug gs,sI vl l] (IsV (.bool (contP vn L gs l))):=by
 refine fn_of [(0,(pgv M vn)),(1,ug),(2,vl)] 54 Tryz.func85 rfl Tryz.ntmps85 (by kernel_rfl) rfl suA fun h0=>?_
 have hv:=hf.v
 have hm2:=hf.m
 refine WC.fact (fLn M vn L) (W.Has.pL (g:=gf) hmA) ?_
 refine WC.fact (mF vn (fun _=>m00) (fun _=>0)) (W.Has.mF0 _) ?_
 repeat'(first|refine gA ?_|(refine goG ?_;intro g)|(refine goV ?_;intro v))
 revert g;intro g3
 refine WC.cutP (σ:=Nat×Value) (fun st=>[(7,ptr st.1),(3,ptr g3),(1,ug),(2,vl)]) (fun st=>[Ow.cells st.1 26 [.int .i64 (vn:Int),.slice none 0 0,st.2],Ow.slice st.2 31 4 (qcells vn fun _=>m00),Ow.cells g3 26 (pcs M vn)])
  (fun st=>[mF vn (fun _=>m00) (fun _=>0),fLn M vn L,ge h0,sI ug gs,sI vl l]) (fun _=>True) ?_ ?_
 ·repeat'(first|refine gM ?_|(refine gI ?_;intro g)|(refine gU ?_;intro v)|refine gN ?_ ?_|refine gY ?_|refine d85 ?_|fail)
  all_goals(apply Ex2;refine⟨trivial,?_,?_,?_⟩;(focus(repeat(first|exact Sub.nil _|refine Sub.cons rfl ?_)));(focus(repeat(first|exact SubP.nil _|(apply SubP.cons;(repeat(first|exact Rem.head|apply Rem.tail))))));(focus(repeat(first|exact HasAll.nil|(apply HasAll.cons;exact hsA)))))
 rintro⟨g7,gv⟩ _
 simp only
 refine WC.freezeF gv vn (fun _=>m00) (fun _=>0) (by repeat(first|exact Sel.head|apply Sel.tail)) hmA ?_
 refine WC.addNil 60 5 ?_
 repeat'(first|refine gM ?_|(refine gI ?_;intro g)|(refine gU ?_;intro v)|refine gN ?_ ?_|refine gY ?_|refine d85 ?_|fail)
 refine WC.lp (σ:=Nat×US) (fun st=>[(21,.int .i64 (st.1:Int)),(20,.int .i64 (L.length:Int)),(19,M.lv),(1,ug),(2,vl),(7,ptr g7)])
  (fun st=>[Ow.slice st.2.sv 60 5 (lncells st.2.n st.2.M),Ow.cells g7 26 [.int .i64 (vn:Int),st.2.sv,gv]])
  (fun st=>[lnQ st.2.M vn (selT L (keepP gs l) st.1),fF gv vn (fun _=>m00) (fun _=>0),fLn M vn L,ge h0,sI ug gs,sI vl l]) (fun st=>st.1≤L.length∧st.2.n=(selT L (keepP gs l) st.1).length) (fun st=>L.length - st.1) (0,⟨0,.slice none 0 0,Pm.no⟩) ⟨Nat.zero_le _,rfl⟩ ?_ (hG:=.cons W.Has.lnn sfA)
 rintro⟨i,n,sv,N⟩ ⟨hi,hn⟩
 simp only at hi hn ⊢
 have hsl:=selT_len (L:=L) (p:=keepP gs l) (i:=i)
 by_cases c:i < L.length
 ·have hup:=selT_up (L:=L) (p:=keepP gs l) (i:=i)
  refine WC.fact (fF (M.av i) vn (M.ma i) (X.ca L i)) (W.Has.lna (W.Has.lnq (M:=M) hmA) c) ?_
  refine WC.fact (isQ (qv (M.mb i)) (X.cb L i)) (W.Has.lnb (W.Has.lnq (M:=M) hmA) c) ?_
  have take:keepP gs l i=true→Has [isQ (qv (M.mb i)) (X.cb L i),fF (M.av i) vn (M.ma i) (X.ca L i),lnQ N vn (selT L (keepP gs l) i),fF gv vn (fun _=>m00) (fun _=>0),fLn M vn L,ge h0,sI ug gs,sI vl l] (lnQ (N.app n (M.av i) (M.ma i) (M.mb i)) vn (selT L (keepP gs l) (i+1))):=fun hk=>by
   rw[hup,if_pos hk,hn]
   exact W.Has.lnapp hmA (L.getD i ([],0)) (show Has _ (fF (M.av i) vn (M.ma i) (X.ca L i)) from hmA) (show Has _ (isQ (qv (M.mb i)) (X.cb L i)) from hmA)
  have tl:keepP gs l i=true→n+1=(selT L (keepP gs l) (i+1)).length:=fun hk=>by rw[hup,if_pos hk,List.length_append,hn];rfl
  have leave:keepP gs l i=false→selT L (keepP gs l) (i+1)=selT L (keepP gs l) i:=fun hk=>by rw[hup,if_neg (by rw[hk];decide),List.append_nil]
  by_cases c1:gs.getD i 0 < 0
  ·have hk:keepP gs l i=true:=decide_eq_true (.inl c1)
   refine WC.fact _ (take hk) ?_
   repeat'(first|refine gM ?_|(refine gI ?_;intro g)|(refine gU ?_;intro v)|refine gN ?_ ?_|refine gY ?_|refine d85 ?_|fail)
   exact LoopEnd.mk (i+1,⟨n+1,_,_⟩) ⟨c,tl hk⟩ (by show L.length - (i+1) < L.length - i;omega)
  ·repeat'(first|refine gM ?_|(refine gI ?_;intro g)|(refine gU ?_;intro v)|refine gN ?_ ?_|refine gY ?_|refine d85 ?_|fail)
   first|refine WL.callV (containsI_c vl l (gs.getD i 0)) ?_|refine WD.callV (containsI_c vl l (gs.getD i 0)) ?_
   by_cases c2:gs.getD i 0∈l
   ·have hk:keepP gs l i=true:=decide_eq_true (.inr c2)
    rw[decide_eq_true c2]
    repeat'(first|refine gM ?_|(refine gI ?_;intro g)|(refine gU ?_;intro v)|refine gN ?_ ?_|refine gY ?_|refine d85 ?_|fail)
    exact LoopEnd.mk (i+1,⟨n+1,_,N.app n (M.av i) (M.ma i) (M.mb i)⟩) ⟨c,tl hk⟩ (by show L.length - (i+1) < L.length - i;omega) (hG:=.cons (take hk) sfA)
   ·have hk:keepP gs l i=false:=decide_eq_false fun h=>h.elim c1 c2
    rw[decide_eq_false c2]
    repeat'(first|refine gM ?_|(refine gI ?_;intro g)|(refine gU ?_;intro v)|refine gN ?_ ?_|refine gY ?_|refine d85 ?_|fail)
    exact LoopEnd.mk (i+1,⟨n,sv,N⟩) ⟨c,by rw[leave hk];exact hn⟩ (by show L.length - (i+1) < L.length - i;omega) (hG:=.cons (by show Has _ (lnQ N vn (selT L (keepP gs l) (i+1)));rw[leave hk];exact hmA) sfA)
 ·obtain rfl:i=L.length:=by omega
  have hS:LSq K0 vn (selT L (keepP gs l) L.length):=selT_sq hL (Nat.le_refl _)
  have hc:contP vn L gs l= !X.feasP (selT L (keepP gs l) L.length) vn:=rfl
  rw[hc]
  generalize selT L (keepP gs l) L.length=S at *
  subst hn
  repeat'(first|refine gM ?_|(refine gI ?_;intro g)|(refine gU ?_;intro v)|refine gN ?_ ?_|refine gY ?_|refine d85 ?_|fail)
  refine WL.freezeLn sv N vn S (by repeat(first|exact Sel.head|apply Sel.tail)) hmA ?_
  refine WL.fact' (fP ((N.at sv).wg gv fun _=>m00) (X.lpOf vn S fun _=>0)) (W.Has.lnp (W.Has.lnwg (M:=N.at sv) hmA) (show Has _ (fF gv vn (fun _=>m00) (fun _=>0)) from hmA)) ?_
  refine WL.callK (solveL_c ((N.at sv).wg gv fun _=>m00) hf hS (by omega) (fun k _=>Sq.zero.up hf.k)) ?_
  rintro _ _ _ ⟨Na,kind,xn,yn,x,y,z,rfl,rfl,rfl,hans,_,_,_⟩
  simp only[List.nil_append,List.cons_append]
  rw[Sem.cont hS.len hans.sem]
  refine WL.fact' (fF Na.xv xn Na.mx x) (W.Has.ax (M:=Na) (xn:=xn) (yn:=yn) (x:=x) (y:=y) (z:=z) hmA) ?_
  refine WL.fact' (fF Na.yv yn Na.my y) (W.Has.ay (M:=Na) (xn:=xn) (yn:=yn) (x:=x) (y:=y) (z:=z) hmA) ?_
  refine WL.fact' (isQ (qv Na.mz) z) (W.Has.az (M:=Na) (xn:=xn) (yn:=yn) (x:=x) (y:=y) (z:=z) hmA) ?_
  by_cases ck:(kind:Int)=1
  ·rw[decide_eq_true ck]
   repeat'(first|refine gM ?_|(refine gI ?_;intro g)|(refine gU ?_;intro v)|refine gN ?_ ?_|refine gY ?_|refine d85 ?_|fail)
   exact WC.ret (Fin.v (ResE.t1 rfl rfl) meA rfl)
  ·rw[decide_eq_false ck]
   repeat'(first|refine gM ?_|(refine gI ?_;intro g)|(refine gU ?_;intro v)|refine gN ?_ ?_|refine gY ?_|refine d85 ?_|fail)
   exact WC.ret (Fin.v (ResE.t1 rfl rfl) meA rfl)
end U
end Go.Proofs.YtaongbhamadlkaaGreat
namespace Go.Proofs.YtaongbhamadlkaaGreat
open W Go.RowKit
def coreLs (gs:List Int):List Int:=Lib.compact (srt (gs.filter fun x=>!decide (x < 0)))
def coreSt (v:Nat) (L:List X.Ln) (gs l:List Int) (x:Int):List Int:=if contP v L gs (l.filter fun y=>!decide (y=x))=true then l.filter fun y=>!decide (y=x) else l
def corS (v:Nat) (L:List X.Ln) (gs:List Int):List Int×Int:=
 if gs.length=L.length∧gs.any (fun x=>decide (x < -1))=false then
  (if contP v L gs (coreLs gs)=true then((coreLs gs).foldl (coreSt v L gs) (coreLs gs),0) else([],6))
 else([],1)
def IsLE (r:List Int×Int):RPost:=fun v B G=>∃ u,v=.tuple #[u,.int .i64 r.2]∧B=[]∧G=[sI u r.1]
theorem coreLs_len (gs:List Int):(coreLs gs).length≤gs.length:=Nat.le_trans (compact_le _) (by rw[srt_len];exact List.length_filter_le _ _)
theorem coreSt_len (v:Nat) (L:List X.Ln) (gs:List Int):∀ xs l:List Int,(xs.foldl (coreSt v L gs) l).length≤l.length
 |[],_=>Nat.le_refl _
 |x::xs,l=>Nat.le_trans (coreSt_len v L gs xs _) (by
  unfold coreSt
  split
  ·exact List.length_filter_le _ _
  ·exact Nat.le_refl _)
theorem nilI {F:List Fct}:Has F (sI (.slice none 0 0) []):=fun _ _=>⟨none,0,rfl,Nat.le_refl _,by unfold maxLen;simp,.inl ⟨rfl,rfl,rfl⟩⟩
namespace U
open Z
attribute [local irreducible] WC WL WD YO LO LoopEnd W.Fin Scalar SliceT FieldAt Row ArrT AllocT KnS Has W.One SrcE IntT
set_option maxHeartbeats 8000000 in
set_option maxRecDepth 60000 in
theorem core_c (M:Pm) (K0 m vn:Nat) (L:List X.Ln) (gf:Nat→Rat) (gs:List Int) (ug:Value) (hf:Fits vn m K0) (hL:LSq K0 vn L) (hm:L.length≤m) :
  FnB Tryz.prog 22 [pgv M vn,ug] [] [fP M (X.lpOf vn L gf),sI ug gs] (IsLE (corS vn L gs)):=by
 refine fn_of [(0,(pgv M vn)),(1,ug)] 56 Tryz.func22 rfl Tryz.ntmps22 (by kernel_rfl) rfl suA fun h0=>?_
 have hv:=hf.v
 have hm2:=hf.m
 have bad:∀ {F:List Fct} {e:Int},corS vn L gs=([],e)→HasAll F [sI (.slice none 0 0) (corS vn L gs).1]:=fun h=>.cons (by rw[h];exact nilI) .nil
 refine WC.fact (fLn M vn L) (W.Has.pL (g:=gf) hmA) ?_
 refine WC.lenI ug gs hmA fun hug=>?_
 repeat'(first|refine gA ?_|(refine goG ?_;intro g)|(refine goV ?_;intro v))
 revert g;intro gb
 refine WL.callV (valid_c M L.length vn (fun _=>vn) (X.ca L) (X.cb L) gf vn) ?_ (hF:=.cons (.f (show Has _ (fP M (X.lpOf vn L gf)) from hmA)) .nil)
 rw[show vldP (vn:Int) L.length vn (fun _=>vn)=0 from vldP_ok (p:=X.lpOf vn L gf) hv (Nat.le_trans hm hm2)]
 by_cases c1:gs.length=L.length
 ·repeat'(first|refine gA ?_|(refine goG ?_;intro g)|(refine goV ?_;intro v))
  refine WL.callV (containsFI_c ug gs 79 [] [] (fun x=>decide (x < -1)) core1_c) (hF:=.cons (HasB.f hmA) .nil) ?_
  cases c2:gs.any fun x=>decide (x < -1) with
  |true=>
   have hc:corS vn L gs=([],1):=if_neg (fun h=>by rw[c2] at h;exact Bool.noConfusion h.2)
   repeat'(first|refine gA ?_|(refine goG ?_;intro g)|(refine goV ?_;intro v))
   exact WC.ret (Fin.p [] [sI (.slice none 0 0) (corS vn L gs).1] (ResE.t2 rfl rfl rfl) meA (List.nil_sublist _) (bad hc) ⟨_,by rw[hc],rfl,rfl⟩)
  |false=>
   have hcor:corS vn L gs=if contP vn L gs (coreLs gs)=true then((coreLs gs).foldl (coreSt vn L gs) (coreLs gs),0) else([],6):=if_pos ⟨c1,c2⟩
   have hgl:gs.length≤1000000:=by omega
   have hfl:(gs.filter fun x=>!decide (x < 0)).length≤1000000:=Nat.le_trans (List.length_filter_le _ _) hgl
   repeat'(first|refine gA ?_|(refine goG ?_;intro g)|(refine goV ?_;intro v))
   first|refine WL.callO (cloneI_c ug gs hgl) (fun rv=>?_)|refine WD.callO (cloneI_c ug gs hgl) (fun rv=>?_)
   repeat'(first|refine gA ?_|(refine goG ?_;intro g)|(refine goV ?_;intro v))
   refine WL.callG [Ow.slice rv 3 1 (ints gs)] _ (.refl _) (U.delNeg_c rv gs hgl) ?_
   rintro rd bb GG ⟨rfl,rfl⟩
   simp only[List.nil_append,List.cons_append]
   repeat'(first|refine gA ?_|(refine goG ?_;intro g)|(refine goV ?_;intro v))
   refine WL.callG [Ow.slice rd 3 1 (ints (gs.filter fun x=>!decide (x < 0)))] _ (.refl _) (sort_c rd _ hfl) ?_
   rintro _ bb GG ⟨rfl,rfl,rfl⟩
   simp only[List.nil_append,List.cons_append]
   repeat'(first|refine gA ?_|(refine goG ?_;intro g)|(refine goV ?_;intro v))
   refine WL.callG [Ow.slice rd 3 1 (ints (srt (gs.filter fun x=>!decide (x < 0))))] _ (.refl _) (compactA_c rd _ (by rw[srt_len];exact hfl)) ?_
   rintro rc bb GG ⟨rfl,rfl⟩
   simp only[List.nil_append,List.cons_append]
   rw[show Lib.compact (srt (gs.filter fun x=>!decide (x < 0)))=coreLs gs from rfl]
   refine WL.freezeI (l:=coreLs gs) (v:=rc) (el:=3) (by repeat(first|exact Sel.head|apply Sel.tail)) ?_
   repeat'(first|refine gA ?_|(refine goG ?_;intro g)|(refine goV ?_;intro v))
   have hll:=coreLs_len gs
   generalize hLL:coreLs gs=LL at *
   first|refine WL.callV (contradictory_c M K0 m vn L gf gs LL ug rc hf hL hm c1) ?_|refine WD.callV (contradictory_c M K0 m vn L gf gs LL ug rc hf hL hm c1) ?_
   by_cases c3:contP vn L gs LL=true
   ·rw[if_pos c3] at hcor
    rw[c3]
    repeat'(first|refine gA ?_|(refine goG ?_;intro g)|(refine goV ?_;intro v))
    first|refine WL.callO (cloneI_c rc LL (by omega)) (fun rv=>?_)|refine WD.callO (cloneI_c rc LL (by omega)) (fun rv=>?_)
    refine WL.freezeI (l:=LL) (v:=rv) (el:=3) (by repeat(first|exact Sel.head|apply Sel.tail)) ?_
    repeat'(first|refine gA ?_|(refine goG ?_;intro g)|(refine goV ?_;intro v))
    refine WC.lp (σ:=Nat×Value) (fun st=>[(41,.int .i64 (st.1:Int)),(7,st.2),(39,rv),(40,.int .i64 (LL.length:Int)),(2,ptr gb),(1,ug)])
     (fun _=>[Ow.cells gb 26 (pcs M vn)])
     (fun st=>[sI st.2 ((LL.take st.1).foldl (coreSt vn L gs) LL),sI rv LL,ge h0,fLn M vn L,fP M (X.lpOf vn L gf),sI ug gs]) (fun st=>st.1≤LL.length) (fun st=>LL.length - st.1) (0,rc) (Nat.zero_le _) ?_ suA slA sfA
    rintro⟨i,lv⟩ hi
    simp only at hi ⊢
    have hfl:=coreSt_len vn L gs (LL.take i) LL
    by_cases c:i < LL.length
    ·have hst:(LL.take (i+1)).foldl (coreSt vn L gs) LL=coreSt vn L gs ((LL.take i).foldl (coreSt vn L gs) LL) (LL.getD i 0):=by
      rw[List.take_succ_eq_append_getElem c,List.foldl_append,List.getD_eq_getElem?_getD,List.getElem?_eq_getElem c];rfl
     generalize (LL.take i).foldl (coreSt vn L gs) LL=MM at *
     repeat'(first|refine gA ?_|(refine goG ?_;intro g)|(refine goV ?_;intro v))
     revert g;intro g9
     refine WL.keep (g:=g9) (by repeat(first|exact Rem.head|apply Rem.tail)) ?_
     first|refine WL.callO (cloneI_c lv MM (by omega)) (fun rv=>?_)|refine WD.callO (cloneI_c lv MM (by omega)) (fun rv=>?_)
     repeat'(first|refine gA ?_|(refine goG ?_;intro g)|(refine goV ?_;intro v))
     refine WL.callG [Ow.slice rv 3 1 (ints MM)] _ (.refl _) (U.delEq_c rv MM (LL.getD i 0) g9 (by omega)) ?_
     rintro rr bb GG ⟨rfl,rfl⟩
     simp only[List.nil_append,List.cons_append]
     have hrl:(MM.filter fun x=>!decide (x=LL.getD i 0)).length≤MM.length:=List.length_filter_le _ _
     have hcs:coreSt vn L gs MM (LL.getD i 0)=if contP vn L gs (MM.filter fun x=>!decide (x=LL.getD i 0))=true then MM.filter (fun x=>!decide (x=LL.getD i 0)) else MM:=rfl
     generalize MM.filter (fun x=>!decide (x=LL.getD i 0))=M2 at *
     refine WL.freezeI (l:=M2) (v:=rr) (el:=3) (by repeat(first|exact Sel.head|apply Sel.tail)) ?_
     repeat'(first|refine gA ?_|(refine goG ?_;intro g)|(refine goV ?_;intro v))
     first|refine WL.callV (contradictory_c M K0 m vn L gf gs M2 ug rr hf hL hm c1) ?_|refine WD.callV (contradictory_c M K0 m vn L gf gs M2 ug rr hf hL hm c1) ?_
     by_cases c4:contP vn L gs M2=true
     ·rw[if_pos c4] at hcs
      rw[c4]
      repeat'(first|refine gA ?_|(refine goG ?_;intro g)|(refine goV ?_;intro v))
      exact LoopEnd.mk (i+1,rr) (by show i+1≤LL.length;omega) (by show LL.length - (i+1) < LL.length - i;omega) suA slA (HasAll.cons (by show Has _ (sI rr ((LL.take (i+1)).foldl (coreSt vn L gs) LL));rw[hst,hcs];exact hmA) sfA)
     ·rw[if_neg c4] at hcs
      rw[Bool.eq_false_iff.2 c4]
      repeat'(first|refine gA ?_|(refine goG ?_;intro g)|(refine goV ?_;intro v))
      exact LoopEnd.mk (i+1,lv) (by show i+1≤LL.length;omega) (by show LL.length - (i+1) < LL.length - i;omega) suA slA (HasAll.cons (by show Has _ (sI lv ((LL.take (i+1)).foldl (coreSt vn L gs) LL));rw[hst,hcs];exact hmA) sfA)
    ·obtain rfl:i=LL.length:=by omega
     rw[List.take_of_length_le (Nat.le_refl _)]
     repeat'(first|refine gA ?_|(refine goG ?_;intro g)|(refine goV ?_;intro v))
     exact WC.ret (Fin.p [] [sI lv (corS vn L gs).1] (ResE.t2 rfl rfl rfl) meA (List.nil_sublist _) (by rw[hcor];exact haA) ⟨_,by rw[hcor],rfl,rfl⟩)
   ·rw[if_neg c3] at hcor
    rw[Bool.eq_false_iff.2 c3]
    repeat'(first|refine gA ?_|(refine goG ?_;intro g)|(refine goV ?_;intro v))
    exact WC.ret (Fin.p [] [sI (.slice none 0 0) (corS vn L gs).1] (ResE.t2 rfl rfl rfl) meA (List.nil_sublist _) (.cons (by rw[hcor];exact nilI) .nil) ⟨_,by rw[hcor],rfl,rfl⟩)
 ·have hc:corS vn L gs=([],1):=if_neg (fun h=>c1 h.1)
  repeat'(first|refine gA ?_|(refine goG ?_;intro g)|(refine goV ?_;intro v))
  exact WC.ret (Fin.p [] [sI (.slice none 0 0) (corS vn L gs).1] (ResE.t2 rfl rfl rfl) meA (List.nil_sublist _) (bad hc) ⟨_,by rw[hc],rfl,rfl⟩)
end U
end Go.Proofs.YtaongbhamadlkaaGreat
namespace Go.Proofs.YtaongbhamadlkaaGreat
open W Go.RowKit
def I64 (n:Int):Prop:=-9223372036854775808≤n∧n≤9223372036854775807
def around (n m:Int):Int:=(if n < 0 then -(n+1) else n) % m
theorem around_lt {n m:Int} (hm:0 < m):0≤around n m∧around n m < m:=⟨Int.emod_nonneg _ (by omega),Int.emod_lt_of_pos _ hm⟩
theorem getD_i64 {l:List Int} (hl:∀ x∈l,I64 x) (k:Nat):I64 (l.getD k 0):=by
 rw[List.getD_eq_getElem?_getD]
 cases h:l[k]? with
 |none=>simp[I64]
 |some x=>simpa using hl x (List.mem_of_getElem? h)
def atP (l:List Int) (i m:Int):Int:=if i < 0∨(l.length:Int)≤i then 0 else around (l.getD i.toNat 0) m
theorem atP_lt {l:List Int} {i m:Int} (hm:0 < m):0≤atP l i m∧atP l i m < m:=by
 unfold atP;split
 ·omega
 ·exact around_lt hm
theorem same_all {l m:List Int} (hl:l.length=m.length) (h:∀ j,j < l.length→l.getD j 0=m.getD j 0):l=m:=by
 apply List.ext_getElem hl
 intro i h1 h2
 have:=h i h1
 simpa [List.getD_eq_getElem?_getD,h1,h2] using this
namespace U
attribute [local irreducible] WC WL WD YO LO LoopEnd W.Fin Scalar SliceT FieldAt Row ArrT AllocT KnS Has W.One SrcE IntT
theorem d25 {G G':Prop} (h:G') (s:Bx G'→G:=by
 intro h
 first|(apply WC.draw (id:=6) [0,1,2,3,4,5,6,7,8] (.held 0 (.held 1 (.held 2 (.held 3 (.held 4 (.held 5 (.held 6 (.held 7 (.held 8 (.done)))))))))) mixed (by kernel_rfl))|fail
 exact Bx.h h):G:=s ⟨h⟩
set_option maxHeartbeats 4000000 in
set_option maxRecDepth 60000 in
theorem around_c (n m:Int) (hn:I64 n) (hm:0 < m):FnB Tryz.prog 23 [.int .i64 n,.int .i64 m] [] [] (IsV (.int .i64 (around n m))):=by
 obtain⟨hn,hn2⟩:=hn
 refine fn_of [(0,(.int .i64 n)),(1,(.int .i64 m))] 13 Tryz.func23 rfl Tryz.ntmps23 (by kernel_rfl) rfl suA fun h0=>?_
 by_cases h:n < 0
 ·repeat'(first|refine gA ?_|(refine goG ?_;intro g)|(refine goV ?_;intro v))
  exact WC.ret (Fin.v (ResE.t1 rfl rfl) meA (by simp[around,h]))
 ·repeat'(first|refine gA ?_|(refine goG ?_;intro g)|(refine goV ?_;intro v))
  exact WC.ret (Fin.v (ResE.t1 rfl rfl) meA (by simp[around,h]))
set_option maxHeartbeats 4000000 in
set_option maxRecDepth 60000 in
theorem at_c (v:Value) (l:List Int) (i m:Int) (hl:∀ x∈l,I64 x) (hm:0 < m):FnB Tryz.prog 29 [v,.int .i64 i,.int .i64 m] [] [sI v l] (IsV (.int .i64 (atP l i m))):=by
 refine fn_of [(0,v),(1,(.int .i64 i)),(2,(.int .i64 m))] 21 Tryz.func29 rfl Tryz.ntmps29 (by kernel_rfl) rfl suA fun h0=>?_
 refine WC.lenI v l hmA fun hlen=>?_
 by_cases h:i < 0
 ·repeat'(first|refine gA ?_|(refine goG ?_;intro g)|(refine goV ?_;intro v))
  exact WC.ret (Fin.v (ResE.t1 rfl rfl) meA (by simp[atP,h]))
 by_cases h2:(l.length:Int)≤i
 ·repeat'(first|refine gA ?_|(refine goG ?_;intro g)|(refine goV ?_;intro v))
  exact WC.ret (Fin.v (ResE.t1 rfl rfl) meA (by simp[atP,h2]))
 ·repeat'(first|refine gA ?_|(refine goG ?_;intro g)|(refine goV ?_;intro v))
  first|refine WL.callV (around_c _ _ (getD_i64 hl _) hm) ?_|refine WD.callV (around_c _ _ (getD_i64 hl _) hm) ?_
  repeat'(first|refine gA ?_|(refine goG ?_;intro g)|(refine goV ?_;intro v))
  exact WC.ret (Fin.v (ResE.t1 rfl rfl) meA (by simp[atP,h,h2]))
set_option maxHeartbeats 4000000 in
set_option maxRecDepth 60000 in
theorem sameInts_c (v u:Value) (l m:List Int):FnB Tryz.prog 25 [v,u] [] [sI v l,sI u m] (IsV (.bool (decide (l=m)))):=by
 refine fn_of [(0,v),(1,u)] 26 Tryz.func25 rfl Tryz.ntmps25 (by kernel_rfl) rfl suA fun h0=>?_
 refine WC.lenI v l hmA fun hlen=>?_
 by_cases hl:l.length=m.length
 ·repeat'(first|refine gB ?_|(refine gH ?_;intro g)|(refine gW ?_;intro v)|refine d25 ?_|fail)
  refine WC.lp (σ:=Nat) (fun k=>[(5,.int .i64 (k:Int)),(0,v),(1,u)]) (fun _=>[]) (fun _=>[ge h0,sI v l,sI u m]) (fun k=>k≤l.length∧∀ j,j < k→l.getD j 0=m.getD j 0) (fun k=>l.length - k) 0 ⟨Nat.zero_le _,fun j h=>by omega⟩ ?_
  rintro k ⟨hk,hn⟩
  by_cases hlt:k < l.length
  ·by_cases he:l.getD k 0=m.getD k 0
   ·repeat'(first|refine gB ?_|(refine gH ?_;intro g)|(refine gW ?_;intro v)|refine d25 ?_|fail)
    refine LoopEnd.mk (k+1) ⟨by omega,fun j hj=>?_⟩ (by show l.length - (k+1) < l.length - k;omega)
    by_cases hjk:j=k
    ·subst hjk;exact he
    ·exact hn j (by omega)
   ·repeat'(first|refine gB ?_|(refine gH ?_;intro g)|(refine gW ?_;intro v)|refine d25 ?_|fail)
    exact WC.ret (Fin.v (ResE.t1 rfl rfl) meA (by rw[decide_eq_false];rintro rfl;exact he rfl))
  ·repeat'(first|refine gB ?_|(refine gH ?_;intro g)|(refine gW ?_;intro v)|refine d25 ?_|fail)
   exact WC.ret (Fin.v (ResE.t1 rfl rfl) meA (by rw[decide_eq_true];exact same_all hl (fun j hj=>hn j (by omega))))
 ·have hl':(l.length:Int)≠m.length:=by omega
  repeat'(first|refine gB ?_|(refine gH ?_;intro g)|(refine gW ?_;intro v)|refine d25 ?_|fail)
  exact WC.ret (Fin.v (ResE.t1 rfl rfl) meA (by rw[decide_eq_false];rintro rfl;exact hl rfl))
end U
end Go.Proofs.YtaongbhamadlkaaGreat
namespace Go.Proofs.YtaongbhamadlkaaGreat
open W Go.RowKit
theorem Dok.part {n K i:Nat} (h:Dok n K) (hi:i≤n) {a b:Nat→Rat} (ha:∀ i,i < n→Sq K (a i)) (hb:∀ i,i < n→Sq K (b i)):Sm (X.sm i fun j=>a j*b j):=by
 refine dot_sm (n:=i) (K:=K) ?_ (fun j hj=>ha j (by omega)) fun j hj=>hb j (by omega)
 unfold Dok at *
 have:=Nat.mul_le_mul_right (2*K+1) hi
 omega
theorem Dok.two {n K:Nat} (h:Dok n K):2*K≤400000000:=by unfold Dok at h;omega
namespace U
open Z
attribute [local irreducible] WC WL WD YO LO LoopEnd W.Fin Scalar SliceT FieldAt Row ArrT AllocT KnS Has W.One SrcE IntT
theorem d66 {G G':Prop} (h:G') (s:Bx G'→G:=by
 intro h
 first|(apply WC.draw (id:=10) [0,1,2,3,4,5,6,7,8,9,10,13] (.held 0 (.held 1 (.held 2 (.held 3 (.held 4 (.held 5 (.held 6 (.held 7 (.held 8 (.held 9 (.held 10 (.loud 11 (.loud 12 (.held 13 (.done))))))))))))))) mixed (by kernel_rfl))|(apply WC.draw (id:=11) [0,1,2,3,4,5,6,7,8,9,10] (.held 0 (.held 1 (.held 2 (.held 3 (.held 4 (.held 5 (.held 6 (.held 7 (.held 8 (.held 9 (.held 10 (.loud 11 (.loud 12 (.loud 13 (.done))))))))))))))) mixed (by kernel_rfl))|(apply WC.draw (id:=15) [0,1,2,3,4,5,6,7,9] (.held 0 (.held 1 (.held 2 (.held 3 (.held 4 (.held 5 (.held 6 (.held 7 (.loud 8 (.held 9 (.done))))))))))) mixed (by kernel_rfl))|fail
 exact Bx.h h):G:=s ⟨h⟩
theorem d67 {G G':Prop} (h:G') (s:Bx G'→G:=by
 intro h
 first|(apply WC.draw (id:=9) [0,1,2,3,4,5,6,8,10] (.held 0 (.held 1 (.held 2 (.held 3 (.held 4 (.held 5 (.held 6 (.held 8 (.loud 7 (.loud 9 (.held 10 (.done)))))))))))) mixed (by kernel_rfl))|fail
 exact Bx.h h):G:=s ⟨h⟩
theorem d69 {G G':Prop} (h:G') (s:Bx G'→G:=by
 intro h
 first|(apply WC.draw (id:=5) [0,1,2,3,4,5,6,7,8] (.held 0 (.held 1 (.held 2 (.held 3 (.held 4 (.held 5 (.held 6 (.held 7 (.held 8 (.loud 9 (.loud 10 (.loud 11 (.done))))))))))))) mixed (by kernel_rfl))|fail
 exact Bx.h h):G:=s ⟨h⟩
set_option maxHeartbeats 4000000 in
set_option maxRecDepth 60000 in
theorem rdot_c (x y:Value) (n K:Nat) (ma mb:Nat→QM) (a b:Nat→Rat) (hn:n≤10000) (hK:Dok n K) (ha:∀ i,i < n→Sq K (a i)) (hb:∀ i,i < n→Sq K (b i)):FnB Tryz.prog 69 [x,y] [] [fF x n ma a,fF y n mb b] (IsR (X.sm n fun i=>a i*b i)):=by
 refine fn_of [(0,x),(1,y)] 31 Tryz.func69 rfl Tryz.ntmps69 (by kernel_rfl) rfl suA fun h0=>?_
 have hk2:=hK.two
 repeat'(first|refine gB ?_|(refine gH ?_;intro g)|(refine gW ?_;intro v)|refine d69 ?_|fail)
 rename_i g4
 revert g;intro g5
 refine WC.lp (σ:=Nat×QM) (fun st=>[(6,.int .i64 (st.1:Int)),(0,x),(1,y),(5,ptr g5),(4,ptr g4)]) (fun st=>[Ow.cells g5 31 (qcs st.2),Ow.cells g4 31 (qcs m00)])
  (fun st=>[isQ (qv st.2) (X.sm st.1 fun i=>a i*b i),ge h0,fF x n ma a,fF y n mb b]) (fun st=>st.1≤n) (fun st=>n - st.1) (0,m00) (Nat.zero_le _) ?_ (hG:=.cons hasQ0 (.cons hmA (.cons hmA (.cons hmA .nil))))
 rintro⟨k,m⟩ hk
 simp only at hk ⊢
 by_cases c:k < n
 ·refine WC.fact (isQ (qv (ma k)) (a k)) (W.Has.q (W.Has.fm (v:=x) (ms:=ma) hmA) c) ?_
  refine WC.fact (isQ (qv (mb k)) (b k)) (W.Has.q (W.Has.fm (v:=y) (ms:=mb) hmA) c) ?_
  repeat'(first|refine gB ?_|(refine gH ?_;intro g)|(refine gW ?_;intro v)|refine d69 ?_|fail)
  first|refine WL.callK (Zn.rmul (ma k) (mb k) (a k) (b k) ((ha k c).sm (by omega)) ((hb k c).sm (by omega))) ?_|refine WD.callK (Zn.rmul (ma k) (mb k) (a k) (b k) ((ha k c).sm (by omega)) ((hb k c).sm (by omega))) ?_|refine LO.callM (Zn.rmul (ma k) (mb k) (a k) (b k) ((ha k c).sm (by omega)) ((hb k c).sm (by omega))) ?_
  rintro _ _ _ ⟨m3,rfl,rfl,rfl⟩
  simp only[List.nil_append,List.cons_append]
  repeat'(first|refine gB ?_|(refine gH ?_;intro g)|(refine gW ?_;intro v)|refine d69 ?_|fail)
  first|refine WL.callK (Zn.radd m m3 (X.sm k fun i=>a i*b i) (a k*b k) (hK.part (by omega) ha hb) (((ha k c).mul (hb k c)).sm (by omega))) ?_|refine WD.callK (Zn.radd m m3 (X.sm k fun i=>a i*b i) (a k*b k) (hK.part (by omega) ha hb) (((ha k c).mul (hb k c)).sm (by omega))) ?_|refine LO.callM (Zn.radd m m3 (X.sm k fun i=>a i*b i) (a k*b k) (hK.part (by omega) ha hb) (((ha k c).mul (hb k c)).sm (by omega))) ?_
  rintro _ _ _ ⟨m4,rfl,rfl,rfl⟩
  simp only[List.nil_append,List.cons_append]
  repeat'(first|refine gB ?_|(refine gH ?_;intro g)|(refine gW ?_;intro v)|refine d69 ?_|fail)
  exact LoopEnd.mk (k+1,m4) (by show k+1≤n;omega) (by show n - (k+1) < n - k;omega) (hG:=.cons (show Has _ (isQ (qv m4) ((X.sm k fun i=>a i*b i)+a k*b k)) from hmA) sfA)
 ·obtain rfl:n=k:=by omega
  repeat'(first|refine gB ?_|(refine gH ?_;intro g)|(refine gW ?_;intro v)|refine d69 ?_|fail)
  refine WC.ret ?_
  exact Fin.p [] [isQ (qv m) (X.sm n fun i=>a i*b i)] (ResE.cV rfl rfl meA T.r31 rfl) meA (List.nil_sublist _) haA ⟨m,rfl,rfl,rfl⟩
section
variable (M:Pm) (K vn:Nat) (L:List X.Ln) (gf:Nat→Rat)
set_option maxHeartbeats 4000000 in
set_option maxRecDepth 60000 in
theorem rholds_c (xn:Nat) (op:Bool) (xv:Value) (mx:Nat→QM) (x:Nat→Rat) (hd:Dok vn K) (hv:vn≤1000) (hL:LSq K vn L) (hx:∀ k,k < xn→Sq K (x k)) (hK:0 < K) :
  FnB Tryz.prog 67 [pgv M vn,xv,.bool op] [] [fP M (X.lpOf vn L gf),fF xv xn mx x] (IsV (.bool (holdP (X.lpOf vn L gf) xn x op))):=by
 refine fn_of [(0,(pgv M vn)),(1,xv),(2,(.bool op))] 40 Tryz.func67 rfl Tryz.ntmps67 (by kernel_rfl) rfl suA fun h0=>?_
 refine WC.fact (fLn M vn L) (W.Has.pL (g:=gf) hmA) ?_
 refine WC.fact (isQ (qv m00) 0) hasQ0 ?_
 refine WC.lenF (v:=M.lv) (m:=L.length) (W.Has.lns (M:=M) (w:=vn) hmA) fun hmm=>?_
 have hk2:=hd.two
 by_cases c:xn=vn
 ·subst c
  have hh:holdP (X.lpOf xn L gf) xn x op= !(X.fstT (fun r=>decide (most (X.lpOf xn L gf) op r < X.sm xn fun k=>X.ca L r k*x k)) L.length 0).isSome:=by unfold holdP;rw[decide_eq_true (show xn=(X.lpOf xn L gf).v from rfl)];rfl
  rw[hh]
  repeat'(first|refine gB ?_|(refine gH ?_;intro g)|(refine gW ?_;intro v)|refine d67 ?_|fail)
  revert g;intro g3
  refine WC.lp (σ:=Nat) (fun i=>[(7,.int .i64 (i:Int)),(3,ptr g3),(1,xv),(2,.bool op)]) (fun _=>[Ow.cells g3 26 (pcs M xn)]) (fun _=>[isQ (qv m00) 0,fLn M xn L,ge h0,fF xv xn mx x])
   (fun i=>i≤L.length∧X.fstT (fun r=>decide (most (X.lpOf xn L gf) op r < X.sm xn fun k=>X.ca L r k*x k)) L.length 0=X.fstT (fun r=>decide (most (X.lpOf xn L gf) op r < X.sm xn fun k=>X.ca L r k*x k)) (L.length - i) i) (fun i=>L.length - i) 0 ⟨Nat.zero_le _,rfl⟩ ?_
  rintro i ⟨hi,he⟩
  by_cases c:i < L.length
  ·rw[fstT_at c] at he
   refine WC.fact (fF (M.av i) xn (M.ma i) (X.ca L i)) (W.Has.lna (W.Has.lnq (M:=M) hmA) c) ?_
   refine WC.fact (isQ (qv (M.mb i)) (X.cb L i)) (W.Has.lnb (W.Has.lnq (M:=M) hmA) c) ?_
   have hsm:=dot_sm (a:=X.ca L i) (b:=x) hd (fun k hk=>hL.ca c hk) hx
   have hgt:=@cmp_gt (X.sm xn fun k=>X.ca L i k*x k) (most (X.lpOf xn L gf) op i)
   cases op with
   |true=>
    have e:most (X.lpOf xn L gf) true i=0:=rfl
    rw[e] at hgt he
    repeat'(first|refine gB ?_|(refine gH ?_;intro g)|(refine gW ?_;intro v)|refine d67 ?_|fail)
    refine WD.callK (rdot_c (M.av i) xv xn K (M.ma i) mx (X.ca L i) x (by omega) hd (fun k hk=>hL.ca c hk) hx) ?_
    rintro _ _ _ ⟨m1,rfl,rfl,rfl⟩
    simp only[List.nil_append,List.cons_append]
    repeat'(first|refine gB ?_|(refine gH ?_;intro g)|(refine gW ?_;intro v)|refine d67 ?_|fail)
    first|refine WL.callV (Zn.rcmp m1 m00 (X.sm xn fun k=>X.ca L i k*x k) 0 hsm ((Sq.zero.up hK).sm (by omega))) ?_|refine WD.callV (Zn.rcmp m1 m00 (X.sm xn fun k=>X.ca L i k*x k) 0 hsm ((Sq.zero.up hK).sm (by omega))) ?_
    by_cases cc:0 < X.sm xn fun k=>X.ca L i k*x k
    ·have c':=hgt.2 cc
     rw[if_pos (decide_eq_true cc)] at he
     repeat'(first|refine gB ?_|(refine gH ?_;intro g)|(refine gW ?_;intro v)|refine d67 ?_|fail)
     refine WC.ret ?_
     exact Fin.v (ResE.t1 rfl rfl) meA (by rw[he];rfl)
    ·have c':cmpQ (X.sm xn fun k=>X.ca L i k*x k) 0≤0:=Int.not_lt.1 fun h=>cc (hgt.1 h)
     rw[if_neg (by simpa using cc)] at he
     repeat'(first|refine gB ?_|(refine gH ?_;intro g)|(refine gW ?_;intro v)|refine d67 ?_|fail)
     exact LoopEnd.mk (i+1) ⟨by omega,he⟩ (by show L.length - (i+1) < L.length - i;omega)
   |false=>
    have e:most (X.lpOf xn L gf) false i=X.cb L i:=rfl
    rw[e] at hgt he
    repeat'(first|refine gB ?_|(refine gH ?_;intro g)|(refine gW ?_;intro v)|refine d67 ?_|fail)
    refine WD.callK (rdot_c (M.av i) xv xn K (M.ma i) mx (X.ca L i) x (by omega) hd (fun k hk=>hL.ca c hk) hx) ?_
    rintro _ _ _ ⟨m1,rfl,rfl,rfl⟩
    simp only[List.nil_append,List.cons_append]
    repeat'(first|refine gB ?_|(refine gH ?_;intro g)|(refine gW ?_;intro v)|refine d67 ?_|fail)
    first|refine WL.callV (Zn.rcmp m1 (M.mb i) (X.sm xn fun k=>X.ca L i k*x k) (X.cb L i) hsm ((hL.cb c).sm (by omega))) ?_|refine WD.callV (Zn.rcmp m1 (M.mb i) (X.sm xn fun k=>X.ca L i k*x k) (X.cb L i) hsm ((hL.cb c).sm (by omega))) ?_
    by_cases cc:X.cb L i < X.sm xn fun k=>X.ca L i k*x k
    ·have c':=hgt.2 cc
     rw[if_pos (decide_eq_true cc)] at he
     repeat'(first|refine gB ?_|(refine gH ?_;intro g)|(refine gW ?_;intro v)|refine d67 ?_|fail)
     refine WC.ret ?_
     exact Fin.v (ResE.t1 rfl rfl) meA (by rw[he];rfl)
    ·have c':cmpQ (X.sm xn fun k=>X.ca L i k*x k) (X.cb L i)≤0:=Int.not_lt.1 fun h=>cc (hgt.1 h)
     rw[if_neg (by simpa using cc)] at he
     repeat'(first|refine gB ?_|(refine gH ?_;intro g)|(refine gW ?_;intro v)|refine d67 ?_|fail)
     exact LoopEnd.mk (i+1) ⟨by omega,he⟩ (by show L.length - (i+1) < L.length - i;omega)
  ·obtain rfl:i=L.length:=by omega
   rw[Nat.sub_self,X.fstT] at he
   repeat'(first|refine gB ?_|(refine gH ?_;intro g)|(refine gW ?_;intro v)|refine d67 ?_|fail)
   refine WC.ret ?_
   exact Fin.v (ResE.t1 rfl rfl) meA (by rw[he];rfl)
 ·have hh:holdP (X.lpOf vn L gf) xn x op=false:=by unfold holdP;rw[decide_eq_false (show ¬xn=(X.lpOf vn L gf).v from c)];rfl
  repeat'(first|refine gB ?_|(refine gH ?_;intro g)|(refine gW ?_;intro v)|refine d67 ?_|fail)
  refine WC.ret ?_
  exact Fin.v (ResE.t1 rfl rfl) meA (by rw[hh])
structure SS where
 mr:QM
 sv:Value
 ms:Nat→QM
set_option maxHeartbeats 8000000 in
set_option maxRecDepth 60000 in
theorem rsums_c (yn:Nat) (yv gw:Value) (my mg:Nat→QM) (y gq:Nat→Rat) (hd:Dok L.length K) (hv:vn≤1000) (hL:LSq K vn L) (hy:∀ r,r < yn→Sq K (y r)) :
  FnB Tryz.prog 66 [pgv M vn,yv,gw] [] [fP M (X.lpOf vn L gf),fF yv yn my y,fF gw vn mg gq] (IsSums (X.lpOf vn L gf) yn y gq):=by
 refine fn_of [(0,(pgv M vn)),(1,yv),(2,gw)] 79 Tryz.func66 rfl Tryz.ntmps66 (by kernel_rfl) rfl suA fun h0=>?_
 refine WC.fact (fLn M vn L) (W.Has.pL (g:=gf) hmA) ?_
 refine WC.fact (isQ (qv m00) 0) hasQ0 ?_
 refine WC.lenF (v:=M.lv) (m:=L.length) (W.Has.lns (M:=M) (w:=vn) hmA) fun hmm=>?_
 have hk2:=hd.two
 have zero:sumsOk (X.lpOf vn L gf) yn y gq=false→IsSums (X.lpOf vn L gf) yn y gq (.tuple #[qv m00,.bool false]) [] [isQ (qv m00) 0]:=fun h=>⟨m00,by rw[h],rfl,by rw[h];rfl⟩
 by_cases c:yn=L.length
 ·subst c
  have hok:sumsOk (X.lpOf vn L gf) L.length y gq=(!(X.fstT (fun r=>decide (y r < 0)) L.length 0).isSome && !(X.fstT (fun k=>decide (¬(X.sm L.length fun r=>X.ca L r k*y r)=gq k)) vn 0).isSome):=by
   unfold sumsOk;rw[decide_eq_true (show L.length=(X.lpOf vn L gf).m from rfl)];rfl
  have hp1:∀ k,k < vn→∀ i,i≤L.length→Sm (X.sm i fun r=>X.ca L r k*y r):=fun k hk i hi=>hd.part hi (fun r hr=>hL.ca hr hk) hy
  have hp2:∀ i,i≤L.length→Sm (X.sm i fun r=>X.cb L r*y r):=fun i hi=>hd.part hi (fun r hr=>hL.cb hr) hy
  refine WC.fact (mF vn (fun _=>m00) (fun _=>0)) (W.Has.mF0 _) ?_
  repeat'(first|refine gB ?_|(refine gH ?_;intro g)|(refine gW ?_;intro v)|refine d66 ?_|fail)
  rename_i g3 g6
  revert g;intro g9
  refine WC.freezeF v vn (fun _=>m00) (fun _=>0) (by repeat(first|exact Sel.head|apply Sel.tail)) hmA ?_
  refine WC.lp (σ:=Nat×SS) (fun st=>[(10,.int .i64 (st.1:Int)),(8,st.2.sv),(9,ptr g9),(6,ptr g6),(3,ptr g3),(1,yv),(2,gw)]) (fun st=>[Ow.cells g9 31 (qcs st.2.mr),Ow.cells g6 31 (qcs m00),Ow.cells g3 26 (pcs M vn)])
   (fun st=>[isQ (qv st.2.mr) (X.sm st.1 fun r=>X.cb L r*y r),fF st.2.sv vn st.2.ms (fun k=>X.sm st.1 fun r=>X.ca L r k*y r),isQ (qv m00) 0,fLn M vn L,ge h0,fF yv L.length my y,fF gw vn mg gq])
   (fun st=>st.1≤L.length∧X.fstT (fun r=>decide (y r < 0)) L.length 0=X.fstT (fun r=>decide (y r < 0)) (L.length - st.1) st.1) (fun st=>L.length - st.1) (0,⟨m00,v,fun _=>m00⟩) ⟨Nat.zero_le _,rfl⟩ ?_ (hG:=.cons hasQ0 (.cons (show Has _ (fF v vn (fun _=>m00) (fun _=>0)) from hmA) sfA))
  rintro⟨i,mr,sv,ms⟩ ⟨hi,he⟩
  simp only at hi he ⊢
  by_cases c:i < L.length
  ·rw[fstT_at c] at he
   refine WC.fact (fF (M.av i) vn (M.ma i) (X.ca L i)) (W.Has.lna (W.Has.lnq (M:=M) hmA) c) ?_
   refine WC.fact (isQ (qv (M.mb i)) (X.cb L i)) (W.Has.lnb (W.Has.lnq (M:=M) hmA) c) ?_
   refine WC.fact (isQ (qv (my i)) (y i)) (W.Has.q (W.Has.fm (v:=yv) (ms:=my) hmA) c) ?_
   have hs:=@sgn_neg (y i)
   repeat'(first|refine gB ?_|(refine gH ?_;intro g)|(refine gW ?_;intro v)|refine d66 ?_|fail)
   first|refine WL.callV (Zn.rsign (my i) (y i)) ?_|refine WD.callV (Zn.rsign (my i) (y i)) ?_
   by_cases cn:y i < 0
   ·have c':=hs.2 cn
    rw[if_pos (decide_eq_true cn)] at he
    repeat'(first|refine gB ?_|(refine gH ?_;intro g)|(refine gW ?_;intro v)|refine d66 ?_|fail)
    refine WC.ret ?_
    exact Fin.p [] [isQ (qv m00) 0] (ResE.cT rfl rfl meA T.r31 rfl rfl) meA (List.nil_sublist _) haA (zero (by rw[hok,he];rfl))
   ·have c':¬sgn (y i).num < 0:=fun h=>cn (hs.1 h)
    rw[if_neg (by simpa using cn)] at he
    repeat'(first|refine gB ?_|(refine gH ?_;intro g)|(refine gW ?_;intro v)|refine d66 ?_|fail)
    refine WD.callK (scaled_c (M.av i) vn (M.ma i) (X.ca L i) (my i) (y i) (by omega) (fun k hk=>(hL.ca c hk).sm (by omega)) ((hy i c).sm (by omega))) ?_
    rintro v2 _ _ ⟨m2,rfl,rfl⟩
    simp only[List.nil_append,List.cons_append]
    refine WD.freezeF v2 vn m2 (fun k=>X.ca L i k*y i) (by repeat(first|exact Sel.head|apply Sel.tail)) hmA ?_
    repeat'(first|refine gB ?_|(refine gH ?_;intro g)|(refine gW ?_;intro v)|refine d66 ?_|fail)
    refine WD.callK (added_c sv v2 vn ms m2 (fun k=>X.sm i fun r=>X.ca L r k*y r) (fun k=>X.ca L i k*y i) (by omega) (fun k hk=>hp1 k hk i (by omega)) (fun k hk=>((hL.ca c hk).mul (hy i c)).sm (by omega))) ?_
    rintro v3 _ _ ⟨m3,rfl,rfl⟩
    simp only[List.nil_append,List.cons_append]
    repeat'(first|refine gB ?_|(refine gH ?_;intro g)|(refine gW ?_;intro v)|refine d66 ?_|fail)
    first|refine WL.callK (Zn.rmul (M.mb i) (my i) (X.cb L i) (y i) ((hL.cb c).sm (by omega)) ((hy i c).sm (by omega))) ?_|refine WD.callK (Zn.rmul (M.mb i) (my i) (X.cb L i) (y i) ((hL.cb c).sm (by omega)) ((hy i c).sm (by omega))) ?_|refine LO.callM (Zn.rmul (M.mb i) (my i) (X.cb L i) (y i) ((hL.cb c).sm (by omega)) ((hy i c).sm (by omega))) ?_
    rintro _ _ _ ⟨m4,rfl,rfl,rfl⟩
    simp only[List.nil_append,List.cons_append]
    repeat'(first|refine gB ?_|(refine gH ?_;intro g)|(refine gW ?_;intro v)|refine d66 ?_|fail)
    first|refine WL.callK (Zn.radd mr m4 (X.sm i fun r=>X.cb L r*y r) (X.cb L i*y i) (hp2 i (by omega)) (((hL.cb c).mul (hy i c)).sm (by omega))) ?_|refine WD.callK (Zn.radd mr m4 (X.sm i fun r=>X.cb L r*y r) (X.cb L i*y i) (hp2 i (by omega)) (((hL.cb c).mul (hy i c)).sm (by omega))) ?_|refine LO.callM (Zn.radd mr m4 (X.sm i fun r=>X.cb L r*y r) (X.cb L i*y i) (hp2 i (by omega)) (((hL.cb c).mul (hy i c)).sm (by omega))) ?_
    rintro _ _ _ ⟨m5,rfl,rfl,rfl⟩
    simp only[List.nil_append,List.cons_append]
    repeat'(first|refine gB ?_|(refine gH ?_;intro g)|(refine gW ?_;intro v)|refine d66 ?_|fail)
    exact LoopEnd.mk (i+1,⟨m5,v3,m3⟩) ⟨c,he⟩ (by show L.length - (i+1) < L.length - i;omega) (hG:=.cons (show Has _ (isQ (qv m5) ((X.sm i fun r=>X.cb L r*y r)+X.cb L i*y i)) from hmA) (.cons (show Has _ (fF v3 vn m3 (fun k=>(X.sm i fun r=>X.ca L r k*y r)+X.ca L i k*y i)) from hmA) sfA))
  ·obtain rfl:i=L.length:=by omega
   rw[Nat.sub_self,X.fstT] at he
   rw[he] at hok
   have hok2:sumsOk (X.lpOf vn L gf) L.length y gq= !(X.fstT (fun k=>decide (¬(X.sm L.length fun r=>X.ca L r k*y r)=gq k)) vn 0).isSome:=by rw[hok];rfl
   repeat'(first|refine gB ?_|(refine gH ?_;intro g)|(refine gW ?_;intro v)|refine d66 ?_|fail)
   refine WC.lp (σ:=Nat) (fun k=>[(11,.int .i64 (k:Int)),(8,sv),(9,ptr g9),(6,ptr g6),(3,ptr g3),(2,gw)]) (fun _=>[Ow.cells g9 31 (qcs mr),Ow.cells g6 31 (qcs m00),Ow.cells g3 26 (pcs M vn)])
    (fun _=>[isQ (qv mr) (X.sm L.length fun r=>X.cb L r*y r),fF sv vn ms (fun k=>X.sm L.length fun r=>X.ca L r k*y r),isQ (qv m00) 0,ge h0,fF gw vn mg gq])
    (fun k=>k≤vn∧X.fstT (fun k=>decide (¬(X.sm L.length fun r=>X.ca L r k*y r)=gq k)) vn 0=X.fstT (fun k=>decide (¬(X.sm L.length fun r=>X.ca L r k*y r)=gq k)) (vn - k) k) (fun k=>vn - k) 0 ⟨Nat.zero_le _,rfl⟩ ?_
   rintro k ⟨hk,he2⟩
   by_cases ck:k < vn
   ·rw[fstT_at ck] at he2
    refine WC.fact (isQ (qv (ms k)) (X.sm L.length fun r=>X.ca L r k*y r)) (W.Has.q (W.Has.fm (v:=sv) (ms:=ms) (qf:=fun k=>X.sm L.length fun r=>X.ca L r k*y r) hmA) ck) ?_
    refine WC.fact (isQ (qv (mg k)) (gq k)) (W.Has.q (W.Has.fm (v:=gw) (ms:=mg) hmA) ck) ?_
    repeat'(first|refine gB ?_|(refine gH ?_;intro g)|(refine gW ?_;intro v)|refine d66 ?_|fail)
    first|refine WL.callV (Zn.rsame (ms k) (mg k) (X.sm L.length fun r=>X.ca L r k*y r) (gq k)) ?_|refine WD.callV (Zn.rsame (ms k) (mg k) (X.sm L.length fun r=>X.ca L r k*y r) (gq k)) ?_
    by_cases cs:(X.sm L.length fun r=>X.ca L r k*y r)=gq k
    ·rw[if_neg (by simp[cs])] at he2
     rw[decide_eq_true cs]
     repeat'(first|refine gB ?_|(refine gH ?_;intro g)|(refine gW ?_;intro v)|refine d66 ?_|fail)
     exact LoopEnd.mk (k+1) ⟨by omega,he2⟩ (by show vn - (k+1) < vn - k;omega)
    ·rw[if_pos (decide_eq_true cs)] at he2
     rw[decide_eq_false cs]
     repeat'(first|refine gB ?_|(refine gH ?_;intro g)|(refine gW ?_;intro v)|refine d66 ?_|fail)
     refine WC.ret ?_
     exact Fin.p [] [isQ (qv m00) 0] (ResE.cT rfl rfl meA T.r31 rfl rfl) meA (List.nil_sublist _) haA (zero (by rw[hok2,he2];rfl))
   ·obtain rfl:k=vn:=by omega
    rw[Nat.sub_self,X.fstT] at he2
    rw[he2] at hok2
    repeat'(first|refine gB ?_|(refine gH ?_;intro g)|(refine gW ?_;intro v)|refine d66 ?_|fail)
    refine WC.ret ?_
    exact Fin.p [] [isQ (qv mr) (X.sm L.length fun r=>X.cb L r*y r)] (ResE.cT rfl rfl meA T.r31 rfl rfl) meA (List.nil_sublist _) haA ⟨mr,by rw[hok2];rfl,rfl,by rw[hok2];rfl⟩
 ·repeat'(first|refine gB ?_|(refine gH ?_;intro g)|(refine gW ?_;intro v)|refine d66 ?_|fail)
  refine WC.ret ?_
  have h0:sumsOk (X.lpOf vn L gf) yn y gq=false:=by unfold sumsOk;rw[decide_eq_false (show ¬yn=(X.lpOf vn L gf).m from c)];rfl
  exact Fin.p [] [isQ (qv m00) 0] (ResE.cT rfl rfl meA T.r31 rfl rfl) meA (List.nil_sublist _) haA (zero h0)
end
end U
end Go.Proofs.YtaongbhamadlkaaGreat
namespace Go.Proofs.YtaongbhamadlkaaGreat
open W Go.RowKit
theorem sq_div {p q:Int} (h1:p.natAbs < 1000000000) (h2:0 < q) (h3:q < 1000000000):Sq 1 (Rat.divInt p q):=by
 obtain⟨n,rfl⟩:∃ n:Nat,q=n:=⟨q.toNat,by omega⟩
 rw[Rat.divInt_ofNat]
 exact di_num _ _ (by omega) (digs_len_le (k:=1) (by omega)) (digs_len_le (k:=1) (by omega))
def someV (l:List Int):Nat:=1+(atP l 0 3).toNat
def someG (l:List Int) (k:Nat):Rat:=Rat.divInt (atP l (1+(k:Int)) 7 - 3) 1
def someN (x:Int):Int:=around x 1073741824
def tabl:List Int:=[0,1,-1,0,2,-2,1,3,-3]
def someD (n:Int):Nat→Int
 |0=>n / 57
 |k+1=>someD n k / 18
def someA (n:Int) (k:Nat):Rat:=Rat.divInt (tabl.getD (someD n k % 9).toNat 0) (1+someD n k / 9 % 2)
def someB (n:Int):Rat:=Rat.divInt (n % 19 - 6) (1+n / 19 % 3)
def someLn (v:Nat) (x:Int):X.Ln:=((List.range v).map (someA (someN x)),someB (someN x))
def someL (l:List Int) (most:Nat):List X.Ln:=((l.drop 4).take most).map (someLn (someV l))
def someP (l:List Int) (most:Nat):X.Lp:=X.lpOf (someV l) (someL l most) (someG l)
theorem someV_le (l:List Int):1≤someV l∧someV l≤3:=by
 have:=atP_lt (l:=l) (i:=0) (m:=3) (by decide)
 unfold someV;omega
theorem someD_le {n:Int} (h0:0≤n) (h:n < 1073741824):∀ k,0≤someD n k∧someD n k < 1073741824
 |0=>by unfold someD;omega
 |k+1=>by have:=someD_le h0 h k;unfold someD;omega
theorem tabl_le {i:Nat}:(tabl.getD i 0).natAbs≤3:=by
 match i with
 |0|1|2|3|4|5|6|7|8=>decide
 |i+9=>show(0:Int).natAbs≤3;decide
theorem someG_sq (l:List Int) (k:Nat):Sq 1 (someG l k):=by
 have:=atP_lt (l:=l) (i:=1+(k:Int)) (m:=7) (by decide)
 exact sq_div (by omega) (by decide) (by decide)
theorem someN_le (x:Int):0≤someN x∧someN x < 1073741824:=around_lt (by decide)
theorem someA_sq (x:Int) (k:Nat):Sq 1 (someA (someN x) k):=by
 have h:=someD_le (someN_le x).1 (someN_le x).2 k
 have:=@tabl_le (someD (someN x) k % 9).toNat
 exact sq_div (by omega) (by omega) (by omega)
theorem someB_sq (x:Int):Sq 1 (someB (someN x)):=by
 have h:=someN_le x
 exact sq_div (by omega) (by omega) (by omega)
theorem someLn_co {v:Nat} {x:Int} {k:Nat} (hk:k < v):X.co (someLn v x) k=someA (someN x) k:=by
 unfold X.co someLn;simp[List.getD_eq_getElem?_getD,hk]
theorem someL_sq (l:List Int) (most:Nat):LSq 1 (someV l) (someL l most):=fun c hc=>by
 unfold someL at hc
 obtain⟨x,_,rfl⟩:=List.mem_map.1 hc
 refine⟨by simp[someLn],fun k hk=>?_,someB_sq x⟩
 rw[someLn_co hk];exact someA_sq x k
theorem someL_len (l:List Int) (most:Nat):(someL l most).length≤most:=by
 unfold someL;rw[List.length_map,List.length_take];omega
def IsPg (p:X.Lp):RPost:=fun v B G=>∃ M:Pm,v=pgv M p.v∧B=[]∧G=[fP M p]
theorem some_take {l:List Int} {v i:Nat} (h:4+i < l.length):((l.drop 4).take (i+1)).map (someLn v)=((l.drop 4).take i).map (someLn v)++[someLn v (l.getD (4+i) 0)]:=by
 have h2:i < (l.drop 4).length:=by rw[List.length_drop];omega
 rw[List.take_succ_eq_append_getElem h2,List.map_append]
 congr 2
 rw[List.getElem_drop,List.getD_eq_getElem?_getD,List.getElem?_eq_getElem h];rfl
namespace U
open Z
attribute [local irreducible] WC WL WD YO LO LoopEnd W.Fin Scalar SliceT FieldAt Row ArrT AllocT KnS Has W.One SrcE IntT
theorem d11 {G G':Prop} (h:G') (s:Bx G'→G:=by
 intro h
 first|(apply WC.draw (id:=5) [0,1,2,3,4,6] (.held 0 (.held 1 (.held 2 (.held 3 (.held 4 (.loud 5 (.held 6 (.loud 7 (.loud 8 (.loud 9 (.loud 10 (.loud 11 (.done))))))))))))) mixed (by kernel_rfl))|(apply WC.draw (id:=15) [0,1,3,4,7,8,9,10] (.held 0 (.held 1 (.held 3 (.held 4 (.held 7 (.held 8 (.held 9 (.held 10 (.loud 2 (.loud 5 (.loud 6 (.loud 11 (.loud 12 (.loud 13 (.loud 14 (.loud 15 (.done))))))))))))))))) mixed (by kernel_rfl))|fail
 exact Bx.h h):G:=s ⟨h⟩
structure MS where
 sv:Value
 M:Pm
set_option maxHeartbeats 8000000 in
set_option maxRecDepth 60000 in
theorem some_c (v0:Value) (l:List Int) (most:Nat) (hl:∀ x∈l,I64 x) (hm:most≤100):FnB Tryz.prog 11 [v0,.int .i64 (most:Int)] [] [sI v0 l] (IsPg (someP l most)):=by
 refine fn_of [(0,v0),(1,(.int .i64 (most:Int)))] 90 Tryz.func11 rfl Tryz.ntmps11 (by kernel_rfl) rfl suA fun h0=>?_
 have hv:=someV_le l
 have hat:=atP_lt (l:=l) (i:=0) (m:=3) (by decide)
 refine WC.addNil 60 5 ?_
 refine WC.addNil 31 4 ?_
 refine WC.lenI v0 l hmA fun hlen=>?_
 repeat'(first|refine gB ?_|(refine gH ?_;intro g)|(refine gW ?_;intro v)|refine gY ?_|refine d11 ?_|fail)
 revert g;intro g4
 first|refine WL.callV (at_c v0 l 0 3 hl (by decide)) ?_|refine WD.callV (at_c v0 l 0 3 hl (by decide)) ?_
 repeat'(first|refine gB ?_|(refine gH ?_;intro g)|(refine gW ?_;intro v)|refine gY ?_|refine d11 ?_|fail)
 rw[show(1:Int)+atP l 0 3=((someV l:Nat):Int) by unfold someV;omega]
 revert g;intro g5
 refine WC.lp (σ:=Nat×Value×(Nat→QM)) (fun st=>[(6,.int .i64 (st.1:Int)),(5,ptr g5),(4,ptr g4),(0,v0),(1,.int .i64 (most:Int))])
  (fun st=>[Ow.cells g5 26 [.int .i64 (someV l:Int),.slice none 0 0,st.2.1],Ow.cells g4 26 [.int .i64 0,.slice none 0 0,.slice none 0 0],Ow.slice st.2.1 31 4 (qcells st.1 st.2.2),Ow.slice (.slice none 0 0) 60 5 []])
  (fun st=>[mF st.1 st.2.2 (clx (someG l) st.1),ge h0,sI v0 l]) (fun st=>st.1≤someV l) (fun st=>someV l - st.1) (0,.slice none 0 0,fun _=>m00) (Nat.zero_le _) ?_ (hG:=.cons (W.Has.mFn _ _) sfA)
 rintro⟨k,sv,ms⟩ hk
 simp only at hk ⊢
 by_cases c:k < someV l
 ·have hak:=atP_lt (l:=l) (i:=1+(k:Int)) (m:=7) (by decide)
  repeat'(first|refine gB ?_|(refine gH ?_;intro g)|(refine gW ?_;intro v)|refine gY ?_|refine d11 ?_|fail)
  first|refine WL.callV (at_c v0 l (1+(k:Int)) 7 hl (by decide)) ?_|refine WD.callV (at_c v0 l (1+(k:Int)) 7 hl (by decide)) ?_
  repeat'(first|refine gB ?_|(refine gH ?_;intro g)|(refine gW ?_;intro v)|refine gY ?_|refine d11 ?_|fail)
  first|refine WL.callK (Zn.rof (atP l (1+(k:Int)) 7 - 3) 1 (by show _ < 1000000000000000000;omega) (by decide)) ?_|refine WD.callK (Zn.rof (atP l (1+(k:Int)) 7 - 3) 1 (by show _ < 1000000000000000000;omega) (by decide)) ?_|refine LO.callM (Zn.rof (atP l (1+(k:Int)) 7 - 3) 1 (by show _ < 1000000000000000000;omega) (by decide)) ?_
  rintro _ _ _ ⟨m3,rfl,rfl,rfl⟩
  simp only[List.nil_append,List.cons_append]
  refine WD.fact (mF (k+1) (upd ms k m3) (clx (someG l) (k+1))) ((W.Has.mFapp (n:=k) (ms:=ms) (m:=m3) (qf:=clx _ k) hmA (show Has _ (isQ (qv m3) (someG l k)) from hmA)).mFsame fun j hj=>clx_up (c:=someG l) j) ?_
  repeat'(first|refine gB ?_|(refine gH ?_;intro g)|(refine gW ?_;intro v)|refine gY ?_|refine d11 ?_|fail)
  exact LoopEnd.mk (k+1,_,_) (by show k+1≤someV l;omega) (by show someV l - (k+1) < someV l - k;omega)
 ·obtain rfl:k=someV l:=by omega
  refine WC.freezeF sv (someV l) ms (someG l) (by repeat(first|exact Sel.head|apply Sel.tail)) (W.Has.mFsame (qf:=clx (someG l) (someV l)) hmA fun j hj=>by unfold clx;rw[if_pos hj]) ?_
  have hnI:min most (l.length - 4)≤most:=Nat.min_le_left _ _
  repeat'(first|refine gB ?_|(refine gH ?_;intro g)|(refine gW ?_;intro v)|refine gY ?_|refine d11 ?_|fail)
  refine WC.lp (σ:=Nat×MS) (fun st=>[(7,.int .i64 ((4+st.1:Nat):Int)),(5,ptr g5),(4,ptr g4),(0,v0),(1,.int .i64 (most:Int))])
   (fun st=>[Ow.cells g5 26 [.int .i64 (someV l:Int),st.2.sv,sv],Ow.cells g4 26 [.int .i64 0,.slice none 0 0,.slice none 0 0],Ow.slice st.2.sv 60 5 (lncells st.1 st.2.M)])
   (fun st=>[lnQ st.2.M (someV l) (((l.drop 4).take st.1).map (someLn (someV l))),fF sv (someV l) ms (someG l),ge h0,sI v0 l]) (fun st=>st.1≤min most (l.length - 4)) (fun st=>min most (l.length - 4) - st.1) (0,⟨.slice none 0 0,Pm.no⟩) (Nat.zero_le _) ?_ (hG:=.cons W.Has.lnn sfA)
  rintro⟨i,so,N⟩ hi
  simp only at hi ⊢
  have hll:(((l.drop 4).take i).map (someLn (someV l))).length=i:=by
   rw[List.length_map,List.length_take,List.length_drop];omega
  by_cases c:i < min most (l.length - 4)
  ·have c1:4+i < l.length:=by omega
   have c2:i < most:=by omega
   have hst:=some_take (v:=someV l) c1
   have hn:=someN_le (l.getD (4+i) 0)
   refine WC.addNil 31 4 ?_
   repeat'(first|refine gB ?_|(refine gH ?_;intro g)|(refine gW ?_;intro v)|refine gY ?_|refine d11 ?_|fail)
   first|refine WL.callV (around_c (l.getD (4+i) 0) 1073741824 (getD_i64 hl _) (by decide)) ?_|refine WD.callV (around_c (l.getD (4+i) 0) 1073741824 (getD_i64 hl _) (by decide)) ?_
   rw[show around (l.getD (4+i) 0) 1073741824=someN (l.getD (4+i) 0) from rfl]
   repeat'(first|refine gB ?_|(refine gH ?_;intro g)|(refine gW ?_;intro v)|refine gY ?_|refine d11 ?_|fail)
   generalize hnn:someN (l.getD (4+i) 0)=n at *
   first|refine WL.callK (Zn.rof (n % 19 - 6) (1+n / 19 % 3) (by show _ < 1000000000000000000;omega) (by show _ < 1000000000000000000;omega)) ?_|refine WD.callK (Zn.rof (n % 19 - 6) (1+n / 19 % 3) (by show _ < 1000000000000000000;omega) (by show _ < 1000000000000000000;omega)) ?_|refine LO.callM (Zn.rof (n % 19 - 6) (1+n / 19 % 3) (by show _ < 1000000000000000000;omega) (by show _ < 1000000000000000000;omega)) ?_
   rintro _ _ _ ⟨mb,rfl,rfl,rfl⟩
   simp only[List.nil_append,List.cons_append]
   refine WL.fact' (isQ (qv mb) (someB n)) hmA ?_
   repeat'(first|refine gB ?_|(refine gH ?_;intro g)|(refine gW ?_;intro v)|refine gY ?_|refine d11 ?_|fail)
   revert g;intro g9
   refine WC.lp (σ:=Nat×Value×(Nat→QM)) (fun st=>[(10,.int .i64 (st.1:Int)),(8,.int .i64 (someD n st.1)),(9,ptr g9),(7,.int .i64 ((4+i:Nat):Int)),(5,ptr g5),(4,ptr g4),(0,v0),(1,.int .i64 (most:Int))])
    (fun st=>[Ow.cells g9 60 (st.2.1::qcs mb),Ow.slice st.2.1 31 4 (qcells st.1 st.2.2),Ow.cells g5 26 [.int .i64 (someV l:Int),so,sv],Ow.cells g4 26 [.int .i64 0,.slice none 0 0,.slice none 0 0],Ow.slice so 60 5 (lncells i N)])
    (fun st=>[mF st.1 st.2.2 (clx (someA n) st.1),isQ (qv mb) (someB n),lnQ N (someV l) (((l.drop 4).take i).map (someLn (someV l))),fF sv (someV l) ms (someG l),ge h0,sI v0 l]) (fun st=>st.1≤someV l) (fun st=>someV l - st.1) (0,.slice none 0 0,fun _=>m00) (Nat.zero_le _) ?_ (hG:=.cons (W.Has.mFn _ _) sfA)
   rintro⟨k,sa,ma⟩ hk
   simp only at hk ⊢
   have hd:=someD_le hn.1 hn.2 k
   by_cases ck:k < someV l
   ·have ht:=@tabl_le (someD n k % 9).toNat
    repeat'(first|refine gB ?_|(refine gH ?_;intro g)|(refine gW ?_;intro v)|refine gY ?_|refine d11 ?_|fail)
    refine WD.perm (Ow.slice v 3 1 (ints tabl)::_) (List.Perm.refl _) ?_
    have htl:(tabl.length:Int)=9:=rfl
    have htn:tabl.length=9:=rfl
    repeat'(first|refine gB ?_|(refine gH ?_;intro g)|(refine gW ?_;intro v)|refine gY ?_|refine d11 ?_|fail)
    first|refine WL.callK (Zn.rof (tabl.getD (someD n k % 9).toNat 0) (1+someD n k / 9 % 2) (by show _ < 1000000000000000000;omega) (by show _ < 1000000000000000000;omega)) ?_|refine WD.callK (Zn.rof (tabl.getD (someD n k % 9).toNat 0) (1+someD n k / 9 % 2) (by show _ < 1000000000000000000;omega) (by show _ < 1000000000000000000;omega)) ?_|refine LO.callM (Zn.rof (tabl.getD (someD n k % 9).toNat 0) (1+someD n k / 9 % 2) (by show _ < 1000000000000000000;omega) (by show _ < 1000000000000000000;omega)) ?_
    rintro _ _ _ ⟨m3,rfl,rfl,rfl⟩
    simp only[List.nil_append,List.cons_append]
    refine WD.fact (mF (k+1) (upd ma k m3) (clx (someA n) (k+1))) ((W.Has.mFapp (n:=k) (ms:=ma) (m:=m3) (qf:=clx _ k) hmA (show Has _ (isQ (qv m3) (someA n k)) from hmA)).mFsame fun j hj=>clx_up (c:=someA n) j) ?_
    repeat'(first|refine gB ?_|(refine gH ?_;intro g)|(refine gW ?_;intro v)|refine gY ?_|refine d11 ?_|fail)
    exact LoopEnd.mk (k+1,_,_) (by show k+1≤someV l;omega) (by show someV l - (k+1) < someV l - k;omega)
   ·obtain rfl:k=someV l:=by omega
    refine WC.freezeF sa (someV l) ma (X.co (someLn (someV l) (l.getD (4+i) 0))) (by repeat(first|exact Sel.head|apply Sel.tail)) (W.Has.mFsame (qf:=clx (someA n) (someV l)) hmA fun j hj=>by rw[someLn_co hj,hnn];unfold clx;rw[if_pos hj]) ?_
    refine WC.fact (lnQ (N.app i sa ma mb) (someV l) (((l.drop 4).take (i+1)).map (someLn (someV l)))) (by
     have h:=fun F h1 h2 h3=>W.Has.lnapp (F:=F) (M:=N) (w:=someV l) (L:=((l.drop 4).take i).map (someLn (someV l))) (a:=sa) (ma:=ma) (b:=mb) h1 (someLn (someV l) (l.getD (4+i) 0)) h2 h3
     rw[hll] at h
     rw[hst]
     refine h _ hmA hmA ?_
     show Has _ (isQ (qv mb) (someB (someN (l.getD (4+i) 0))))
     rw[hnn];exact hmA) ?_
    repeat'(first|refine gB ?_|(refine gH ?_;intro g)|(refine gW ?_;intro v)|refine gY ?_|refine d11 ?_|fail)
    exact LoopEnd.mk (i+1,⟨_,_⟩) (by show i+1≤min most (l.length - 4);omega) (by show min most (l.length - 4) - (i+1) < min most (l.length - 4) - i;omega)
  ·obtain rfl:i=min most (l.length - 4):=by omega
   have hS:((l.drop 4).take (min most (l.length - 4))).map (someLn (someV l))=someL l most:=by
    unfold someL
    congr 1
    rw[List.take_eq_take_iff,List.length_drop];omega
   have hi2:(someL l most).length=min most (l.length - 4):=by rw[←hS];exact hll
   rw[hS,←hi2]
   clear hll hS
   refine WC.freezeLn so N (someV l) (someL l most) (by repeat(first|exact Sel.head|apply Sel.tail)) hmA ?_
   refine WC.fact (fP ((N.at so).wg sv ms) (someP l most)) (W.Has.lnp (W.Has.lnwg (M:=N.at so) hmA) (show Has _ (fF sv (someV l) ms (someG l)) from hmA)) ?_
   by_cases c1:4+(someL l most).length < l.length
   ·have c2:¬(someL l most).length < most:=by omega
    repeat'(first|refine gB ?_|(refine gH ?_;intro g)|(refine gW ?_;intro v)|refine gY ?_|refine d11 ?_|fail)
    exact WC.ret (Fin.p [] [fP ((N.at so).wg sv ms) (someP l most)] (ResE.cV rfl rfl meA T.r26 rfl) meA (List.nil_sublist _) haA ⟨(N.at so).wg sv ms,rfl,rfl,rfl⟩)
   ·repeat'(first|refine gB ?_|(refine gH ?_;intro g)|(refine gW ?_;intro v)|refine gY ?_|refine d11 ?_|fail)
    exact WC.ret (Fin.p [] [fP ((N.at so).wg sv ms) (someP l most)] (ResE.cV rfl rfl meA T.r26 rfl) meA (List.nil_sublist _) haA ⟨(N.at so).wg sv ms,rfl,rfl,rfl⟩)
end U
end Go.Proofs.YtaongbhamadlkaaGreat
namespace Go.Proofs.YtaongbhamadlkaaGreat
open W Go.RowKit
namespace U
open Z
attribute [local irreducible] WC WL WD YO LO LoopEnd W.Fin Scalar SliceT FieldAt Row ArrT AllocT KnS Has W.One SrcE IntT
theorem d17 {G G':Prop} (h:G') (s:Bx G'→G:=by
 intro h
 first|(apply WC.draw (id:=3) [0,1,2,3,4,6,7,8,9,10,12,13,14,15,16,17,19,20,22,23] (.held 0 (.held 1 (.held 2 (.held 3 (.held 4 (.loud 5 (.held 6 (.held 7 (.held 8 (.held 9 (.held 10 (.loud 11 (.held 12 (.held 13 (.held 14 (.held 15 (.held 16 (.held 17 (.held 19 (.held 20 (.loud 18 (.loud 21 (.held 22 (.held 23 (.done))))))))))))))))))))))))) mixed (by kernel_rfl))|(apply WC.draw (id:=5) [0,1,2,3,4,7,8,9,12] (.held 0 (.held 1 (.held 2 (.held 3 (.held 4 (.more 5 (.more 6 (.held 7 (.held 8 (.held 9 (.loud 10 (.loud 11 (.held 12 (.done))))))) (.loud 10 (.loud 6 (.held 7 (.held 8 (.held 9 (.loud 11 (.held 12 (.done))))))))) (.loud 10 (.loud 5 (.loud 6 (.held 7 (.held 8 (.held 9 (.loud 11 (.held 12 (.done))))))))))))))) mixed (by kernel_rfl))|fail
 exact Bx.h h):G:=s ⟨h⟩
theorem rsums_t (M:Pm) (vn:Nat) (L:List X.Ln) (gf:Nat→Rat) (yn:Nat) (y:Nat→Rat) {yv gw:Value} {my mg:Nat→QM} {gf:Nat→Rat} (h:FnB Tryz.prog 66 [pgv M vn,yv,gw] [] [fP M (X.lpOf vn L gf),fF yv yn my y,fF gw vn mg gf] (IsSums (X.lpOf vn L gf) yn y gf)) (hs:sumsOk (X.lpOf vn L gf) yn y gf=true) :
  FnB Tryz.prog 66 [pgv M vn,yv,gw] [] [fP M (X.lpOf vn L gf),fF yv yn my y,fF gw vn mg gf] (fun v B G=>∃ m,v=.tuple #[qv m,.bool true]∧B=[]∧G=[isQ (qv m) (sumsV (X.lpOf vn L gf) y)]):=by
 unfold IsSums at h
 rw[hs] at h
 simpa using h
theorem rsums_f (M:Pm) (vn:Nat) (L:List X.Ln) (gf:Nat→Rat) (yn:Nat) (y:Nat→Rat) {yv gw:Value} {my mg:Nat→QM} {gf:Nat→Rat} (h:FnB Tryz.prog 66 [pgv M vn,yv,gw] [] [fP M (X.lpOf vn L gf),fF yv yn my y,fF gw vn mg gf] (IsSums (X.lpOf vn L gf) yn y gf)) (hs:sumsOk (X.lpOf vn L gf) yn y gf=false) :
  FnB Tryz.prog 66 [pgv M vn,yv,gw] [] [fP M (X.lpOf vn L gf),fF yv yn my y,fF gw vn mg gf] (fun v B G=>∃ m,v=.tuple #[qv m,.bool false]∧B=[]∧G=[isQ (qv m) 0]):=by
 unfold IsSums at h
 rw[hs] at h
 simpa using h
section
variable (M:Pm) (vn:Nat) (L:List X.Ln) (gf:Nat→Rat) (N:Am) (K xn yn:Nat) (x y:Nat→Rat) (z:Rat)
set_option maxHeartbeats 8000000 in
set_option maxRecDepth 60000 in
theorem rright_c (kind:Int) (hdv:Dok vn K) (hdm:Dok L.length K) (hv:vn≤1000) (hK:0 < K) (hL:LSq K vn L) (hg:∀ k,k < vn→Sq K (gf k))
  (hx:∀ k,k < xn→Sq K (x k)) (hy:∀ k,k < yn→Sq K (y k)):FnB Tryz.prog 17 [pgv M vn,agv N kind] [] [fP M (X.lpOf vn L gf),fA N xn yn x y z] (IsV (.bool (rightP (X.lpOf vn L gf) kind xn yn x y z))):=by
 refine fn_of [(0,(pgv M vn)),(1,(agv N kind))] 105 Tryz.func17 rfl Tryz.ntmps17 (by kernel_rfl) rfl suA fun h0=>?_
 refine WC.fact (fF N.xv xn N.mx x) (W.Has.ax (M:=N) (xn:=xn) (yn:=yn) (x:=x) (y:=y) (z:=z) hmA) ?_
 refine WC.fact (fF N.yv yn N.my y) (W.Has.ay (M:=N) (xn:=xn) (yn:=yn) (x:=x) (y:=y) (z:=z) hmA) ?_
 refine WC.fact (isQ (qv N.mz) z) (W.Has.az (M:=N) (xn:=xn) (yn:=yn) (x:=x) (y:=y) (z:=z) hmA) ?_
 refine WC.fact (fF M.gv vn M.mg gf) (W.Has.pG (L:=L) hmA) ?_
 by_cases k0:kind=0
 ·subst k0
  have e:rightP (X.lpOf vn L gf) 0 xn yn x y z=(sumsOk (X.lpOf vn L gf) yn y gf && holdP (X.lpOf vn L gf) xn x false && decide (sumsV (X.lpOf vn L gf) y=z) && decide ((X.sm vn fun k=>gf k*x k)=z)):=rfl
  rw[e]
  have hS:=rsums_c M K vn L gf yn N.yv M.gv N.my M.mg y gf hdm hv hL hy
  cases hs:sumsOk (X.lpOf vn L gf) yn y gf with
  |false=>
   repeat'(first|refine gM ?_|(refine gI ?_;intro g)|(refine gU ?_;intro v)|refine gN ?_ ?_|refine d17 ?_|fail)
   refine WL.callK (rsums_f M vn L gf yn y hS hs) ?_
   rintro _ _ _ ⟨mb,rfl,rfl,rfl⟩
   simp only[List.nil_append,List.cons_append]
   repeat'(first|refine gM ?_|(refine gI ?_;intro g)|(refine gU ?_;intro v)|refine gN ?_ ?_|refine d17 ?_|fail)
   refine WC.ret ?_
   exact Fin.v (ResE.t1 rfl rfl) meA (by simp)
  |true=>
   repeat'(first|refine gM ?_|(refine gI ?_;intro g)|(refine gU ?_;intro v)|refine gN ?_ ?_|refine d17 ?_|fail)
   refine WL.callK (rsums_t M vn L gf yn y hS hs) ?_
   rintro _ _ _ ⟨mb,rfl,rfl,rfl⟩
   simp only[List.nil_append,List.cons_append]
   repeat'(first|refine gM ?_|(refine gI ?_;intro g)|(refine gU ?_;intro v)|refine gN ?_ ?_|refine d17 ?_|fail)
   first|refine WL.callK (rholds_c M K vn L gf xn false N.xv N.mx x hdv hv hL hx hK) ?_|refine WD.callK (rholds_c M K vn L gf xn false N.xv N.mx x hdv hv hL hx hK) ?_|refine LO.callM (rholds_c M K vn L gf xn false N.xv N.mx x hdv hv hL hx hK) ?_
   rintro _ _ _ ⟨rfl,rfl,rfl⟩
   simp only[List.nil_append,List.cons_append]
   cases hh:holdP (X.lpOf vn L gf) xn x false with
   |false=>
    repeat'(first|refine gM ?_|(refine gI ?_;intro g)|(refine gU ?_;intro v)|refine gN ?_ ?_|refine d17 ?_|fail)
    refine WC.ret ?_
    exact Fin.v (ResE.t1 rfl rfl) meA (by simp)
   |true=>
    obtain rfl:vn=xn:=(holdP_len hh).symm
    repeat'(first|refine gM ?_|(refine gI ?_;intro g)|(refine gU ?_;intro v)|refine gN ?_ ?_|refine d17 ?_|fail)
    first|refine WL.callK (Zn.rsame mb N.mz (sumsV (X.lpOf vn L gf) y) z) ?_|refine WD.callK (Zn.rsame mb N.mz (sumsV (X.lpOf vn L gf) y) z) ?_|refine LO.callM (Zn.rsame mb N.mz (sumsV (X.lpOf vn L gf) y) z) ?_
    rintro _ _ _ ⟨rfl,rfl,rfl⟩
    simp only[List.nil_append,List.cons_append]
    by_cases cz:sumsV (X.lpOf vn L gf) y=z
    ·rw[decide_eq_true cz]
     repeat'(first|refine gM ?_|(refine gI ?_;intro g)|(refine gU ?_;intro v)|refine gN ?_ ?_|refine d17 ?_|fail)
     first|refine WL.callK (rdot_c M.gv N.xv vn K M.mg N.mx gf x (by omega) hdv hg hx) ?_|refine WD.callK (rdot_c M.gv N.xv vn K M.mg N.mx gf x (by omega) hdv hg hx) ?_|refine LO.callM (rdot_c M.gv N.xv vn K M.mg N.mx gf x (by omega) hdv hg hx) ?_
     rintro _ _ _ ⟨md,rfl,rfl,rfl⟩
     simp only[List.nil_append,List.cons_append]
     repeat'(first|refine gM ?_|(refine gI ?_;intro g)|(refine gU ?_;intro v)|refine gN ?_ ?_|refine d17 ?_|fail)
     first|refine WL.callK (Zn.rsame md N.mz (X.sm vn fun k=>gf k*x k) z) ?_|refine WD.callK (Zn.rsame md N.mz (X.sm vn fun k=>gf k*x k) z) ?_|refine LO.callM (Zn.rsame md N.mz (X.sm vn fun k=>gf k*x k) z) ?_
     rintro _ _ _ ⟨rfl,rfl,rfl⟩
     simp only[List.nil_append,List.cons_append]
     repeat'(first|refine gM ?_|(refine gI ?_;intro g)|(refine gU ?_;intro v)|refine gN ?_ ?_|refine d17 ?_|fail)
     refine WC.ret ?_
     exact Fin.v (ResE.t1 rfl rfl) meA (by simp)
    ·rw[decide_eq_false cz]
     repeat'(first|refine gM ?_|(refine gI ?_;intro g)|(refine gU ?_;intro v)|refine gN ?_ ?_|refine d17 ?_|fail)
     refine WC.ret ?_
     exact Fin.v (ResE.t1 rfl rfl) meA (by simp)
 ·by_cases k1:kind=1
  ·subst k1
   have e:rightP (X.lpOf vn L gf) 1 xn yn x y z=(sumsOk (X.lpOf vn L gf) yn y (fun _=>0) && decide (xn=0) && decide (sumsV (X.lpOf vn L gf) y < 0) && decide (z=0)):=rfl
   rw[e]
   have hs1:=@sgn_neg (sumsV (X.lpOf vn L gf) y)
   have hs2:=@sgn_zero z
   refine WC.fact (mF vn (fun _=>m00) (fun _=>0)) (W.Has.mF0 _) ?_
   repeat'(first|refine gA ?_|(refine goG ?_;intro g)|(refine goV ?_;intro v))
   rename_i g2
   revert g;intro g3
   refine WC.cutP (σ:=Nat×QM) (fun st=>[(7,ptr st.1),(8,.bool (sumsOk (X.lpOf vn L gf) yn y fun _=>0)),(3,ptr g3),(2,ptr g2)]) (fun st=>[Ow.cells st.1 31 (qcs st.2),Ow.cells g3 33 (acs N 1),Ow.cells g2 26 (pcs M vn)])
    (fun st=>[isQ (qv st.2) (if sumsOk (X.lpOf vn L gf) yn y (fun _=>0)=true then sumsV (X.lpOf vn L gf) y else 0),isQ (qv N.mz) z,fF N.xv xn N.mx x,ge h0]) (fun _=>True) ?_ ?_
   ·repeat'(first|refine gM ?_|(refine gI ?_;intro g)|(refine gU ?_;intro v)|refine gN ?_ ?_|refine d17 ?_|fail)
    all_goals(first|refine WD.freezeF v vn (fun _=>m00) (fun _=>0) (by repeat(first|exact Sel.head|apply Sel.tail)) hmA ?_|refine LO.freezeF v vn (fun _=>m00) (fun _=>0) (by repeat(first|exact Sel.head|apply Sel.tail)) hmA ?_)
    all_goals(first|refine WD.callK (rsums_c M K vn L gf yn N.yv v N.my (fun _=>m00) y (fun _=>0) hdm hv hL hy) ?_|refine LO.callM (rsums_c M K vn L gf yn N.yv v N.my (fun _=>m00) y (fun _=>0) hdm hv hL hy) ?_)
    all_goals rintro _ _ _ ⟨mb,rfl,rfl,rfl⟩
    all_goals simp only[List.nil_append,List.cons_append]
    all_goals repeat'(first|refine gM ?_|(refine gI ?_;intro g)|(refine gU ?_;intro v)|refine gN ?_ ?_|refine d17 ?_|fail)
    all_goals(apply Ex2;refine⟨trivial,?_,?_,?_⟩;(focus(repeat(first|exact Sub.nil _|refine Sub.cons rfl ?_)));(focus(repeat(first|exact SubP.nil _|(apply SubP.cons;(repeat(first|exact Rem.head|apply Rem.tail))))));(focus(repeat(first|exact HasAll.nil|(apply HasAll.cons;exact hsA)))))
   rintro⟨g7,mb⟩ _
   simp only
   cases hs:sumsOk (X.lpOf vn L gf) yn y (fun _=>0) with
   |false=>
    repeat'(first|refine gM ?_|(refine gI ?_;intro g)|(refine gU ?_;intro v)|refine gN ?_ ?_|refine d17 ?_|fail)
    refine WC.ret ?_
    exact Fin.v (ResE.t1 rfl rfl) meA (by simp)
   |true=>
    rw[if_pos rfl]
    by_cases cx:xn=0
    ·rw[decide_eq_true cx]
     repeat'(first|refine gM ?_|(refine gI ?_;intro g)|(refine gU ?_;intro v)|refine gN ?_ ?_|refine d17 ?_|fail)
     first|refine WL.callV (Zn.rsign mb (sumsV (X.lpOf vn L gf) y)) ?_|refine WD.callV (Zn.rsign mb (sumsV (X.lpOf vn L gf) y)) ?_
     by_cases cs:sumsV (X.lpOf vn L gf) y < 0
     ·rw[decide_eq_true cs]
      have c':=hs1.2 cs
      repeat'(first|refine gM ?_|(refine gI ?_;intro g)|(refine gU ?_;intro v)|refine gN ?_ ?_|refine d17 ?_|fail)
      first|refine WL.callV (Zn.rsign N.mz z) ?_|refine WD.callV (Zn.rsign N.mz z) ?_
      by_cases cz:z=0
      ·have c'':=hs2.2 cz
       rw[decide_eq_true cz]
       repeat'(first|refine gM ?_|(refine gI ?_;intro g)|(refine gU ?_;intro v)|refine gN ?_ ?_|refine d17 ?_|fail)
       refine WC.ret ?_
       exact Fin.v (ResE.t1 rfl rfl) meA (by simp)
      ·have c'':¬sgn z.num=0:=fun h=>cz (hs2.1 h)
       rw[decide_eq_false cz]
       repeat'(first|refine gM ?_|(refine gI ?_;intro g)|(refine gU ?_;intro v)|refine gN ?_ ?_|refine d17 ?_|fail)
       refine WC.ret ?_
       exact Fin.v (ResE.t1 rfl rfl) meA (by simp)
     ·have c':¬sgn (sumsV (X.lpOf vn L gf) y).num < 0:=fun h=>cs (hs1.1 h)
      rw[decide_eq_false cs]
      repeat'(first|refine gM ?_|(refine gI ?_;intro g)|(refine gU ?_;intro v)|refine gN ?_ ?_|refine d17 ?_|fail)
      refine WC.ret ?_
      exact Fin.v (ResE.t1 rfl rfl) meA (by simp)
    ·rw[decide_eq_false cx]
     repeat'(first|refine gM ?_|(refine gI ?_;intro g)|(refine gU ?_;intro v)|refine gN ?_ ?_|refine d17 ?_|fail)
     refine WC.ret ?_
     exact Fin.v (ResE.t1 rfl rfl) meA (by simp)
  ·by_cases k2:kind=2
   ·subst k2
    have e:rightP (X.lpOf vn L gf) 2 xn yn x y z=(holdP (X.lpOf vn L gf) xn x false && holdP (X.lpOf vn L gf) yn y true && decide (0 < X.sm vn fun k=>gf k*y k) && decide (z=0)):=rfl
    rw[e]
    have hs1:=@sgn_pos (X.sm vn fun k=>gf k*y k)
    have hs2:=@sgn_zero z
    repeat'(first|refine gM ?_|(refine gI ?_;intro g)|(refine gU ?_;intro v)|refine gN ?_ ?_|refine d17 ?_|fail)
    first|refine WL.callV (rholds_c M K vn L gf xn false N.xv N.mx x hdv hv hL hx hK) ?_|refine WD.callV (rholds_c M K vn L gf xn false N.xv N.mx x hdv hv hL hx hK) ?_
    cases hh:holdP (X.lpOf vn L gf) xn x false with
    |false=>
     repeat'(first|refine gM ?_|(refine gI ?_;intro g)|(refine gU ?_;intro v)|refine gN ?_ ?_|refine d17 ?_|fail)
     refine WC.ret ?_
     exact Fin.v (ResE.t1 rfl rfl) meA (by simp)
    |true=>
     repeat'(first|refine gM ?_|(refine gI ?_;intro g)|(refine gU ?_;intro v)|refine gN ?_ ?_|refine d17 ?_|fail)
     first|refine WL.callV (rholds_c M K vn L gf yn true N.yv N.my y hdv hv hL hy hK) ?_|refine WD.callV (rholds_c M K vn L gf yn true N.yv N.my y hdv hv hL hy hK) ?_
     cases hh2:holdP (X.lpOf vn L gf) yn y true with
     |false=>
      repeat'(first|refine gM ?_|(refine gI ?_;intro g)|(refine gU ?_;intro v)|refine gN ?_ ?_|refine d17 ?_|fail)
      refine WC.ret ?_
      exact Fin.v (ResE.t1 rfl rfl) meA (by simp)
     |true=>
      obtain rfl:vn=yn:=(holdP_len hh2).symm
      repeat'(first|refine gM ?_|(refine gI ?_;intro g)|(refine gU ?_;intro v)|refine gN ?_ ?_|refine d17 ?_|fail)
      refine WL.callK (rdot_c M.gv N.yv vn K M.mg N.my gf y (by omega) hdv hg hy) ?_
      rintro _ _ _ ⟨md,rfl,rfl,rfl⟩
      simp only[List.nil_append,List.cons_append]
      repeat'(first|refine gM ?_|(refine gI ?_;intro g)|(refine gU ?_;intro v)|refine gN ?_ ?_|refine d17 ?_|fail)
      first|refine WL.callV (Zn.rsign md (X.sm vn fun k=>gf k*y k)) ?_|refine WD.callV (Zn.rsign md (X.sm vn fun k=>gf k*y k)) ?_
      by_cases cs:0 < X.sm vn fun k=>gf k*y k
      ·rw[decide_eq_true cs]
       have c':=hs1.2 cs
       repeat'(first|refine gM ?_|(refine gI ?_;intro g)|(refine gU ?_;intro v)|refine gN ?_ ?_|refine d17 ?_|fail)
       first|refine WL.callV (Zn.rsign N.mz z) ?_|refine WD.callV (Zn.rsign N.mz z) ?_
       by_cases cz:z=0
       ·have c'':=hs2.2 cz
        rw[decide_eq_true cz]
        repeat'(first|refine gM ?_|(refine gI ?_;intro g)|(refine gU ?_;intro v)|refine gN ?_ ?_|refine d17 ?_|fail)
        refine WC.ret ?_
        exact Fin.v (ResE.t1 rfl rfl) meA (by simp)
       ·have c'':¬sgn z.num=0:=fun h=>cz (hs2.1 h)
        rw[decide_eq_false cz]
        repeat'(first|refine gM ?_|(refine gI ?_;intro g)|(refine gU ?_;intro v)|refine gN ?_ ?_|refine d17 ?_|fail)
        refine WC.ret ?_
        exact Fin.v (ResE.t1 rfl rfl) meA (by simp)
      ·have c':¬0 < sgn (X.sm vn fun k=>gf k*y k).num:=fun h=>cs (hs1.1 h)
       rw[decide_eq_false cs]
       repeat'(first|refine gM ?_|(refine gI ?_;intro g)|(refine gU ?_;intro v)|refine gN ?_ ?_|refine d17 ?_|fail)
       refine WC.ret ?_
       exact Fin.v (ResE.t1 rfl rfl) meA (by simp)
   ·have e:rightP (X.lpOf vn L gf) kind xn yn x y z=false:=by unfold rightP;rw[if_neg k0,if_neg k1,if_neg k2]
    rw[e]
    repeat'(first|refine gM ?_|(refine gI ?_;intro g)|(refine gU ?_;intro v)|refine gN ?_ ?_|refine d17 ?_|fail)
    refine WC.ret ?_
    exact Fin.v (ResE.t1 rfl rfl) meA rfl
end
end U
end Go.Proofs.YtaongbhamadlkaaGreat
namespace Go.Proofs.YtaongbhamadlkaaGreat
open W Go.RowKit
theorem fst_none {p:Nat→Bool} {n:Nat}:(X.fstT p n 0).isSome=false↔∀ j,j < n→p j=false:=by
 rcases X.fstT_spec p n 0 with ⟨h1,h2⟩|⟨j,h1,_,h3,h4,_⟩
 ·rw[h1]
  exact⟨fun _ j hj=>h2 j (by omega) (by omega),fun _=>rfl⟩
 ·rw[h1]
  exact⟨fun h=>(by cases h),fun h=>(by rw[h j (by omega)] at h4;cases h4)⟩
section
variable {p:X.Lp} {xn yn:Nat} {x y g:Nat→Rat} {z:Rat} {op:Bool}
theorem holdP_iff:holdP p xn x op=true↔xn=p.v∧∀ r,r < p.m→(X.sm p.v fun k=>p.a r k*x k)≤most p op r:=by
 unfold holdP
 rw[Bool.and_eq_true,decide_eq_true_eq,Bool.not_eq_true',fst_none]
 constructor
 ·rintro⟨h1,h2⟩
  exact⟨h1,fun r hr=>by have:=of_decide_eq_false (h2 r hr);grind⟩
 ·rintro⟨h1,h2⟩
  exact⟨h1,fun r hr=>decide_eq_false (by have:=h2 r hr;grind)⟩
theorem sumsOk_iff:sumsOk p yn y g=true↔yn=p.m∧(∀ r,r < p.m→0≤y r)∧∀ k,k < p.v→(X.sm p.m fun r=>y r*p.a r k)=g k:=by
 have e:∀ k,(X.sm p.m fun r=>p.a r k*y r)=X.sm p.m fun r=>y r*p.a r k:=fun k=>X.sm_congr fun r _=>Rat.mul_comm _ _
 unfold sumsOk
 rw[Bool.and_eq_true,Bool.and_eq_true,decide_eq_true_eq,Bool.not_eq_true',Bool.not_eq_true',fst_none,fst_none]
 constructor
 ·rintro⟨⟨h1,h2⟩,h3⟩
  subst h1
  exact⟨rfl,fun r hr=>by have:=of_decide_eq_false (h2 r hr);grind,fun k hk=>by have:=of_decide_eq_false (h3 k hk);rw[←e];grind⟩
 ·rintro⟨h1,h2,h3⟩
  subst h1
  exact⟨⟨rfl,fun r hr=>decide_eq_false (by have:=h2 r hr;grind)⟩,fun k hk=>decide_eq_false (by rw[e,h3 k hk];simp)⟩
theorem sumsV_eq:sumsV p y=X.sm p.m fun r=>y r*p.b r:=X.sm_congr fun r _=>Rat.mul_comm _ _
theorem ans_right {kind:Nat} (h:AnsP p kind xn yn x y z):rightP p kind xn yn x y z=true:=by
 rcases h with ⟨rfl,rfl,rfl,rfl,h1,h2,h3⟩|⟨rfl,rfl,rfl,h1,h2,h3,h4,h5⟩|⟨rfl,rfl,rfl,rfl,h1,h2,h3⟩
 ·show(sumsOk p p.m y (fun _=>0) && decide (0=0) && decide (sumsV p y < 0) && decide ((0:Rat)=0))=true
  rw[sumsOk_iff.2 ⟨rfl,h1,h2⟩,sumsV_eq,decide_eq_true h3];rfl
 ·show(sumsOk p p.m y p.g && holdP p p.v x false && decide (sumsV p y=z) && decide ((X.sm p.v fun k=>p.g k*x k)=z))=true
  rw[sumsOk_iff.2 ⟨rfl,h2,h3⟩,(holdP_iff (p:=p) (op:=false)).2 ⟨rfl,h1⟩,sumsV_eq,decide_eq_true h4,decide_eq_true h5];rfl
 ·show(holdP p p.v x false && holdP p p.v y true && decide (0 < X.sm p.v fun k=>p.g k*y k) && decide ((0:Rat)=0))=true
  rw[(holdP_iff (p:=p) (op:=false)).2 ⟨rfl,h1⟩,(holdP_iff (p:=p) (op:=true)).2 ⟨rfl,fun r hr=>h2 r hr⟩,decide_eq_true h3];rfl
theorem right_ans {kind:Int} (h:rightP p kind xn yn x y z=true):∃ n:Nat,kind=n∧AnsP p n xn yn x y z:=by
 unfold rightP at h
 split at h
 ·rename_i hk
  simp only[Bool.and_eq_true,decide_eq_true_eq] at h
  obtain⟨⟨⟨h1,h2⟩,h3⟩,h4⟩:=h
  obtain⟨a1,a2,a3⟩:=sumsOk_iff.1 h1
  obtain⟨b1,b2⟩:=holdP_iff.1 h2
  rw[sumsV_eq] at h3
  exact⟨0,hk,.inr (.inl ⟨rfl,b1,a1,b2,a2,a3,h3,h4⟩)⟩
 ·split at h
  ·rename_i _ hk
   simp only[Bool.and_eq_true,decide_eq_true_eq] at h
   obtain⟨⟨⟨h1,h2⟩,h3⟩,h4⟩:=h
   obtain⟨a1,a2,a3⟩:=sumsOk_iff.1 h1
   rw[sumsV_eq] at h3
   exact⟨1,hk,.inl ⟨rfl,h2,a1,h4,a2,a3,h3⟩⟩
  ·split at h
   ·rename_i _ _ hk
    simp only[Bool.and_eq_true,decide_eq_true_eq] at h
    obtain⟨⟨⟨h1,h2⟩,h3⟩,h4⟩:=h
    obtain⟨b1,b2⟩:=holdP_iff.1 h1
    obtain⟨c1,c2⟩:=holdP_iff.1 h2
    exact⟨2,hk,.inr (.inr ⟨rfl,b1,c1,h4,b2,c2,h3⟩)⟩
   ·cases h
theorem right_sem {kind:Int} (h:rightP p kind xn yn x y z=true):X.Sem p kind z:=by
 obtain⟨n,rfl,h2⟩:=right_ans h
 exact h2.sem
end
def exL1:List X.Ln:=[([1,0],2),([0,1],3),([1,1],4)]
def exL2:List X.Ln:=exL1++[([-1,0],-3)]
def exL3:List X.Ln:=[([0,1],3)]
def exG1 (_:Nat):Rat:=1
def exG3 (k:Nat):Rat:=if k=0 then 1 else -1
theorem lt3 {P:Nat→Prop} {n:Nat} (h:∀ r:Fin n,P r.1):∀ r,r < n→P r:=fun r hr=>h ⟨r,hr⟩
theorem ex1:X.Sem (X.lpOf 2 exL1 exG1) 0 4:=X.Sem.opt (x:=fun k=>if k=0 then 1 else 3) (y:=fun k=>if k=2 then 1 else 0)
 ⟨lt3 (n:=3) (by decide +kernel),lt3 (n:=3) (by decide +kernel),lt3 (n:=2) (by decide +kernel),by decide +kernel,by decide +kernel⟩
theorem ex2:X.Sem (X.lpOf 2 exL2 exG1) 1 0:=X.Sem.inf (y:=fun k=>if k=0 then 1 else if k=3 then 1 else 0)
 ⟨lt3 (n:=4) (by decide +kernel),lt3 (n:=2) (by decide +kernel),by decide +kernel⟩
theorem ex3:X.Sem (X.lpOf 2 exL3 exG3) 2 0:=X.Sem.unb (x:=fun _=>0) (y:=fun k=>if k=0 then 1 else 0)
 ⟨lt3 (n:=1) (by decide +kernel),lt3 (n:=1) (by decide +kernel),by decide +kernel⟩
theorem ex4:corS 2 exL2 [4,5,6,1]=([1,4],0):=by
 have h:coreLs [4,5,6,1]=[1,4,5,6]:=by
  unfold coreLs srt
  simp[List.mergeSort,List.MergeSort.Internal.splitInTwo,List.merge]
  decide +kernel
 unfold corS
 rw[h]
 decide +kernel
def smallB (q:Rat):Bool:=decide (q.num.natAbs < 1000000000) && decide (q.den < 1000000000)
def lsqB (w:Nat) (L:List X.Ln):Bool:=L.all fun c=>decide (c.1.length=w) && ((List.range w).all fun k=>smallB (X.co c k)) && smallB c.2
theorem sq_small {q:Rat} (h:smallB q=true):Sq 1 q:=by
 unfold smallB at h
 rw[Bool.and_eq_true,decide_eq_true_eq,decide_eq_true_eq] at h
 exact⟨digs_len_le (k:=1) (by omega),digs_len_le (k:=1) (by omega)⟩
theorem LSq.of {w:Nat} {L:List X.Ln} (h:lsqB w L=true):LSq 1 w L:=fun c hc=>by
 have:=List.all_eq_true.1 h c hc
 rw[Bool.and_eq_true,Bool.and_eq_true,decide_eq_true_eq] at this
 exact⟨this.1.1,fun k hk=>sq_small (List.all_eq_true.1 this.1.2 k (List.mem_range.2 hk)),sq_small this.2⟩
theorem exL1_sq:LSq 1 2 exL1:=.of (by decide +kernel)
theorem exL2_sq:LSq 1 2 exL2:=.of (by decide +kernel)
theorem exL3_sq:LSq 1 2 exL3:=.of (by decide +kernel)
theorem exG1_sq (k:Nat):Sq 1 (exG1 k):=X.sq_one
theorem exG3_sq (k:Nat):Sq 1 (exG3 k):=by
 unfold exG3;split
 ·exact X.sq_one
 ·exact X.sq_one.neg
theorem exFits:Fits 2 4 1:=⟨by decide +kernel,by decide +kernel,by decide,by decide,by decide⟩
end Go.Proofs.YtaongbhamadlkaaGreat
namespace Go.Proofs.YtaongbhamadlkaaGreat
open W Go.RowKit
theorem v3 {P:Nat→Prop} {v:Nat} (h:1≤v∧v≤3) (h1:P 1) (h2:P 2) (h3:P 3):P v:=by
 match v,h with
 |1,_=>exact h1
 |2,_=>exact h2
 |3,_=>exact h3
theorem someFits (l:List Int):Fits (someV l) 6 1:=v3 (P:=fun v=>Fits v 6 1) (someV_le l) ⟨by decide +kernel,by decide +kernel,by decide,by decide,by decide⟩ ⟨by decide +kernel,by decide +kernel,by decide,by decide,by decide⟩ ⟨by decide +kernel,by decide +kernel,by decide,by decide,by decide⟩
theorem someDok (l:List Int):Dok (someV l) (szR (someV l) 6 1):=v3 (P:=fun v=>Dok v (szR v 6 1)) (someV_le l) (by unfold Dok;decide +kernel) (by unfold Dok;decide +kernel) (by unfold Dok;decide +kernel)
theorem someDok6 (l:List Int):Dok 6 (szR (someV l) 6 1):=v3 (P:=fun v=>Dok 6 (szR v 6 1)) (someV_le l) (by unfold Dok;decide +kernel) (by unfold Dok;decide +kernel) (by unfold Dok;decide +kernel)
theorem FMok.le {w n n' K:Nat} (h:FMok w n K) (hn:n'≤n):FMok w n' K:=⟨fun k hk=>Nat.le_trans (X.nbs_mono hn k) (h.n k hk),h.k⟩
theorem szR_1 (v m K0:Nat):K0≤szR v m K0:=by unfold szR szL;omega
end Go.Proofs.YtaongbhamadlkaaGreat
