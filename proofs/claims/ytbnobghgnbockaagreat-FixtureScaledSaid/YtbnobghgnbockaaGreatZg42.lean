/- Lemmas for a law. Conditions: none. -/
import Derived.Test.YtbnobghgnbockaaGreatRows
import Derived.Test.YtbnobghgnbockaaGreatZg41
import Derived.ProofKit
import Derived.ChangeSlices
import Derived.Conc.LeavingOf
set_option linter.all false
set_option maxHeartbeats 32000000
set_option maxRecDepth 100000
namespace Go.Proofs.YtbnobghgnbockaaGreat
open Go.ChangeShapes Go.WideShapes Go.ChangeAt Go.RowKit
open W
def Again{H:Type}(enc:TypeId×Value->H)(P:Program)(V1:World)(t:TypeId)(v:Value)(d:DataW H)(p:List MemPlace):Prop:=
 ∀(V2:World) (sp:Nat->Bool),Ext V1 V2->(∀q∈p,sp q.block=true)->DataW.Trod enc P V2 0 sp true t v d p
def QS{H:Type}(enc:TypeId×Value->H)(P:Program)(V1:World)(ts:List TypeId)(vs:List Value)(ds:List (DataW H))(p:List MemPlace):Prop:=
 ∀(V2:World) (sp:Nat->Bool),Ext V1 V2->(∀q∈p,sp q.block=true)->DataW.TrodAll enc P V2 0 sp true ts vs ds p
section
variable {H:Type}{enc:TypeId×Value->H}{P:Program}{V1:World}
def QS.nil:QS enc P V1 [] [] [] []:=λ_ _ _ _=>rfl
def QS.cons{t:TypeId}{ts:List TypeId}{v:Value}{vs:List Value}{d:DataW H}{ds:List (DataW H)}{p q:List MemPlace}(h:Again enc P V1 t v d p)(h2:QS enc P V1 ts vs ds q):QS enc P V1 (t::ts) (v::vs) (d::ds) (p++q):=λV2 sp he hs=>
 ⟨p,q,h V2 sp he λx hx=>hs x (List.mem_append_left _ hx),h2 V2 sp he λx hx=>hs x (List.mem_append_right _ hx),rfl⟩
def Ext_cell{V2:World}(h:Ext V1 V2){a:Addr}{v:Value}(hc:V1.cell? a=some v):V2.cell? a=some v:=by
 unfold World.cell? at hc ⊢;cases ho:V1.heap[a.block]? with
 |none=>rw[ho] at hc;cases hc
 |some o=>rw[h _ _ ho];rw[ho] at hc;exact hc
def ZB{t:TypeId}{b0:Nat}{v:Value}{d:DataW H}{p:List MemPlace}(ht:P.underlying t=some (.int .i64))(hv:Value.okWide P V1 .any b0 t v)(h:DataW.Trod enc P V1 0 (λ_=>true) true t v d p):∃n,v=.int .i64 n/\I64 n/\Again enc P V1 t v d p:=by
 obtain⟨n,rfl,rfl,rfl,wa⟩:=open_int ht hv h;refine⟨n,rfl,?_,λV2 sp _ _=>shut_int ht wa⟩;simp[Lit.wf,IntKind.min,IntKind.max,IntKind.signed,IntKind.bits] at wa;unfold I64;omega
def YL{t e:TypeId}{b0:Nat}{v:Value}{d:DataW H}{p:List MemPlace}(ht:P.underlying t=some (.slice e))(he:P.underlying e=some (.int .i64))(hc:P.cellsOf e=1)(hv:Value.okWide P V1 .any b0 t v)(h:DataW.Trod enc P V1 0 (λ_=>true) true t v d p) :
  ∃l:List Int,(∀x∈l,I64 x)/\(sI v l).p ⟨XZ P,λk=>V1.heap[k]?⟩/\Again enc P V1 t v d p:=by
 obtain⟨fuel,hf⟩:=h;have hval:=hv;obtain⟨a0,len,cap,rfl⟩:=okWide_slice ht hv;rcases open_ints ht he hc hf with ⟨hcs,hx⟩|⟨a,len',cap',zs,hcs,_,hl,hm,hz,hx,hcell,hwz⟩
 .simp[Value.cells] at hcs;obtain⟨rfl,rfl,rfl⟩:=hcs;simp only[Prod.mk.injEq] at hx;obtain⟨rfl,rfl⟩:=hx;exact⟨[],by simp,⟨none,0,rfl,Nat.le_refl _,by simp[maxLen],.inl ⟨rfl,rfl,rfl⟩⟩,λV2 sp _ _=>shut_slice_nil ht⟩
 .simp[Value.cells] at hcs;obtain⟨rfl,rfl,rfl⟩:=hcs;simp only[Prod.mk.injEq] at hx;obtain⟨rfl,rfl⟩:=hx;simp only[if_true] at hz;simp only[Value.okWide,ht,Cell.okWide,Cell.ok] at hval;obtain⟨_,_,_,hsp,row,cells,hsh,_⟩:=hval;obtain⟨b,off,spot⟩:=a;simp only at hsp;subst hsp
  have hblk:∃c el fz,V1.heap[b]?=some (.cells c el fz):=by
   unfold World.shape? at hsh;simp only at hsh;split at hsh
   .rename_i c el fz hh;exact⟨c,el,fz,hh⟩
   .cases hsh
  obtain⟨c,el,fz,hh⟩:=hblk;have hlz:(zs.take len).length=len:=by simp;omega
  refine⟨zs.take len,λx hx=>?_,?_,λV2 sp hE hs=>?_⟩
  .have wa:=hwz x (List.mem_of_mem_take hx);simp[Lit.wf,IntKind.min,IntKind.max,IntKind.signed,IntKind.bits] at wa;unfold I64;omega
  .show(slC _ (zs.take len).length 1 _).p _;rw[hlz];refine⟨_,cap,rfl,hl,hm,.inr ⟨b,off,rfl,c,el,fz,hh,λj hj=>?_⟩⟩;have hcj:=hcell j qo;simp only[World.cell?,Addr.add_lit,hh] at hcj;simp only[Option.isSome_none,Bool.false_eq_true,if_false] at hcj;rw[hcj];simp only[List.getD_eq_getElem?_getD,List.getElem?_take];rw[if_pos qo]
  .by_cases hz0:zs.length=0
   .have hc0:cap=0:=qo;have hl0:len=0:=qo;subst hc0;subst hl0;have t0:=shut_ints (enc:=enc) (w:=V2) (base:=0) (spare:=sp) (held:=true) (a:=⟨b,off,none⟩) (len:=0) (cap:=0) (zs:=zs) 0 ht he hc (Nat.zero_le _) (Nat.le_refl _) hm (by simp[hz0]) (λi hi=>by omega) hwz;exact⟨2,by simpa [Value.cells] using t0⟩
   .have hspb:sp b=true:=hs (.cell b off) (MemPlace.mem_row.2 ⟨0,by omega,by simp⟩);have t0:=shut_ints (enc:=enc) (w:=V2) (base:=0) (spare:=sp) (held:=true) (a:=⟨b,off,none⟩) (len:=len) (cap:=cap) (zs:=zs) 0 ht he hc (Nat.zero_le _) hl hm (by simp[hspb,hz]) (λi hi=>Ext_cell hE (hcell i hi)) hwz;exact⟨2,by simpa [Value.cells] using t0⟩
def Ho{f:Func}{s:ChangeSpec}{V2:World}{args:Array Value}{ds gs:List (DataW H)}{before:List MemPlace}{v:Value}
  (hW:DataW.Whole enc P f.params.toList s.vars false V1 args.toList ds gs before)
  (hres:∀(b:Nat) (sp:Nat->Bool) (hd:Bool),DataW.TrodAll enc P V2 b sp hd f.resultTypes.toList (v.resultList f.resultTypes.size) (s.fn H (ds++gs)).results [])
  (hargs:∀sp:Nat->Bool,(∀p∈before,sp p.block=true)->DataW.TrodAll enc P V2 0 sp true f.params.toList args.toList (s.fn H (ds++gs)).args before)
  (hvars:∀sp:Nat->Bool,DataW.TrodVars enc P V2 sp s.vars (s.fn H (ds++gs)).vars [])
  (hr:W.Rest V1 V2) (hE:Ext V1 V2)
  (hok:∀(j:Nat) (t:TypeId) (r:Value),f.resultTypes[j]?=some t->(v.resultList f.resultTypes.size)[j]?=some r->Value.okWide P V2 .any 0 t r) :
  s.post enc P f false true false false V1 args v V2:=by
 have hold:∀p∈before,(λb=>decide (b<V1.heap.size)) p.block=true:=λp hp=>by simpa using hW.lt p hp
 refine⟨ds,gs,before,[],before,[],hW,hres _ _ _,hargs _ hold,hvars _,⟨hr.os,hr.output,λi hi=>?_⟩,λh=>by cases h⟩;have hk:=hE i V1.heap[i] (Array.getElem?_eq_getElem hi);rw[hk,Array.getElem?_eq_getElem hi];cases V1.heap[i]<;>simp
end
def Tryz.own:ownKnob Tryz.prog.godebug=none:=by kernel_rfl
end Go.Proofs.YtbnobghgnbockaaGreat
