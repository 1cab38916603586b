/- The law FixtureSets returns true for every input and leaves its arguments as they were. Conditions: none. -/
import Derived.Test.YtbnobghgnbockaaGreatRows
import Derived.Test.YtbnobghgnbockaaGreatZf37
import Derived.ProofKit
import Derived.ChangeSlices
import Derived.Conc.LeavingOf
set_option linter.all false
set_option maxHeartbeats 32000000
set_option maxRecDepth 100000
namespace Go.Proofs.YtbnobghgnbockaaGreat
section
open Go.ChangeShapes Go.WideShapes Go.ChangeAt Go.RowKit
open W
def Again{H:Type}(enc:TypeId×Value->H)(P:Program)(V1:World)(t:TypeId)(v:Value)(d:DataW H)(p:List MemPlace):Prop:=
 ∀(V2:World) (sp:Nat->Bool),Ext V1 V2->(∀q∈p,sp q.block=true)->DataW.Trod enc P V2 0 sp true t v d p
def Xp{H:Type}(enc:TypeId×Value->H)(P:Program)(V1:World)(ts:List TypeId)(vs:List Value)(ds:List (DataW H))(p:List MemPlace):Prop:=
 ∀(V2:World) (sp:Nat->Bool),Ext V1 V2->(∀q∈p,sp q.block=true)->DataW.TrodAll enc P V2 0 sp true ts vs ds p
section
variable {H:Type}{enc:TypeId×Value->H}{P:Program}{V1:World}
def Xp.nil:Xp enc P V1 [] [] [] []:=λ_ _ _ _=>rfl
def Xp.cons{t:TypeId}{ts:List TypeId}{v:Value}{vs:List Value}{d:DataW H}{ds:List (DataW H)}{p q:List MemPlace}(h:Again enc P V1 t v d p)(h2:Xp enc P V1 ts vs ds q):Xp enc P V1 (t::ts) (v::vs) (d::ds) (p++q):=λV2 sp he hs=>
 ⟨p,q,h V2 sp he λx hx=>hs x (List.mem_append_left _ hx),h2 V2 sp he λx hx=>hs x (List.mem_append_right _ hx),rfl⟩
def arg_int{t:TypeId}{b0:Nat}{v:Value}{d:DataW H}{p:List MemPlace}(ht:P.underlying t=some (.int .i64))(hv:Value.okWide P V1 .any b0 t v)(h:DataW.Trod enc P V1 0 (λ_=>true) true t v d p):∃n,v=.int .i64 n/\I64 n/\Again enc P V1 t v d p:=by
 obtain⟨n,rfl,rfl,rfl,wa⟩:=open_int ht hv h;refine⟨n,rfl,?_,λV2 sp _ _=>shut_int ht wa⟩;simp[Lit.wf,IntKind.min,IntKind.max,IntKind.signed,IntKind.bits] at wa;unfold I64;omega
def post_law{f:Func}{s:ChangeSpec}{V2:World}{args:Array Value}{ds gs:List (DataW H)}{before:List MemPlace}{v:Value}
  (hW:DataW.Whole enc P f.params.toList s.vars false V1 args.toList ds gs before)
  (hres:∀(b:Nat) (sp:Nat->Bool) (hd:Bool),DataW.TrodAll enc P V2 b sp hd f.resultTypes.toList (v.resultList f.resultTypes.size) (s.fn H (ds++gs)).results [])
  (hargs:∀sp:Nat->Bool,(∀p∈before,sp p.block=true)->DataW.TrodAll enc P V2 0 sp true f.params.toList args.toList (s.fn H (ds++gs)).args before)
  (hvars:∀sp:Nat->Bool,DataW.TrodVars enc P V2 sp s.vars (s.fn H (ds++gs)).vars [])
  (hr:W.Rest V1 V2) (hE:Ext V1 V2)
  (hok:∀(j:Nat) (t:TypeId) (r:Value),f.resultTypes[j]?=some t->(v.resultList f.resultTypes.size)[j]?=some r->Value.okWide P V2 .any 0 t r) :
  s.post enc P f false true false false V1 args v V2:=by
 have hold:∀p∈before,(λb=>decide (b<V1.heap.size)) p.block=true:=λp hp=>by simpa using hW.lt p hp
 refine⟨ds,gs,before,[],before,[],hW,hres _ _ _,hargs _ hold,hvars _,⟨hr.os,hr.output,λi hi=>?_⟩,λh=>by cases h⟩;have hk:=hE i V1.heap[i] (Array.getElem?_eq_getElem hi);rw[hk,Array.getElem?_eq_getElem hi];cases V1.heap[i]<;>simp
end
def Tryz.own:ownKnob Tryz.prog.godebug=none:=by kernel_rfl
end
section
open Go.ChangeShapes Go.WideShapes Go.ChangeAt Go.RowKit
open W
def Tryz.int3:Tryz.prog.underlying 3=some (.int .i64):=by kernel_rfl
def Tryz.sl22:Tryz.prog.underlying 28=some (.slice 3):=by kernel_rfl
def Tryz.bool4:Tryz.prog.underlying 4=some .bool:=by kernel_rfl
def Tryz.one3:Tryz.prog.cellsOf 3=1:=by kernel_rfl
theorem fixtureSets_lifted(os:Os)(started:os.Started)(H:Type)(enc:TypeId×Value->H) :
  ReturnsInLeavingWide {} Tryz.checked os 3 .any (Rows.fixtureSetsSpec.pre6 enc Tryz.prog Tryz.f3 Rows.fixtureSetsRow.domain false) (Rows.fixtureSetsSpec.post enc Tryz.prog Tryz.f3 false true false false):=by
 refine returnsInLeavingWide_of_change_sized (C:=Tryz.checked) Tryz.own started Tryz.func3
  (ChangeSpec.witness6 (enc:=enc) (C:=Tryz.checked) false ⟨#[],#[.int .i64 0,.int .i64 0],[]⟩ 8 kr kr kr kr) ?_
 intro V1 base args ds gs before hval0 hW hcnd hwt _;have hval:∀(j:Nat) t v,Tryz.f3.params[j]?=some t->args[j]?=some v->Value.okWide Tryz.prog V1 .any base t v:=hval0;have hW':=hW;obtain⟨p,q,hA0,hV,rfl,hfz,hnd⟩:=hW;have hA:DataW.TrodAll enc Tryz.prog V1 0 (λ_=>true) true Tryz.f3.params.toList args.toList ds p:=hA0;rw[Tryz.params3] at hA hval;obtain⟨args⟩:=args;obtain⟨v0,a1,d0,e1,p0,q1,rfl,rfl,rfl,h0,hA⟩:=trodAll_cons hA;obtain⟨v1,a2,d1,e2,p1,q2,rfl,rfl,rfl,h1,hA⟩:=trodAll_cons hA;obtain⟨rfl,rfl,rfl⟩:=trodAll_nil hA;obtain⟨rfl,rfl⟩:=trodVars_none hV;obtain⟨n0,rfl,hl0,g0⟩:=arg_int Tryz.int3 (hval 0 3 v0 rfl rfl) h0;obtain⟨n1,rfl,hl1,g1⟩:=arg_int Tryz.int3 (hval 1 3 v1 rfl rfl) h1;simp only[List.append_nil] at hW'
 have hfacts:∀g∈([]:List Fct),g.p ⟨XG Tryz.prog,λk=>V1.heap[k]?⟩:=λg hg=>by
  exact absurd hg List.not_mem_nil
 obtain⟨M,last,o,w',t',r1,r2,r3,r4⟩:=law_leaves kr (K.Q.Y.setsLaw_c n0 n1 hl0 hl1) hfacts;refine⟨M,last,o,w',t',r1,r2,r3,r4.mono λv hh2=>?_⟩;obtain⟨rfl,hr,hE⟩:=hh2
 ·refine(post_law hW' (λ_ _ _=>trodAll_mk1 (shut_bool Tryz.bool4 _)) (λsp hsp=>?_) (λ_=>rfl) hr hE (ok_one kr rfl (okWide_bool_mk Tryz.bool4 _)));have:=(Xp.cons g0 (Xp.cons g1 Xp.nil)) w' sp hE (by simpa using hsp);simp only[List.append_nil] at this;show DataW.TrodAll enc Tryz.prog w' 0 sp true Tryz.f3.params.toList _ _ _;rw[Tryz.params3];exact this
theorem fixtureSets_holds:Rows.FixtureSetsSaid:=
 OpenClaim.holds_of_wide_leaving 3 Tryz.f3 rfl rfl rfl rfl rfl rfl rfl ⟨rfl,rfl,rfl,rfl,rfl⟩ rfl rfl rfl rfl rfl kr Tryz.func3 kr
  (of_decide_eq_true kr) (by unfold Func.isWrapper;first|(rw[if_pos (by decide +kernel)];kernel_rfl)|(rw[if_neg (by decide +kernel)];exact⟨rfl,rfl⟩))
  (λos started H enc _=>fixtureSets_lifted os started H enc)
#print axioms fixtureSets_holds
end
end Go.Proofs.YtbnobghgnbockaaGreat
