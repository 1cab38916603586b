/- Lemmas. Conditions: none. -/
import Derived.Test.YtbnobghgnbockaaGreatRows
import Derived.Test.YtbnobghgnbockaaGreatZk34
import Derived.ProofKit
import Derived.ChangeSlices
import Derived.Conc.LeavingOf
set_option linter.all false
set_option maxHeartbeats 0
set_option maxRecDepth 100000
namespace Go.Proofs.YtbnobghgnbockaaGreat
section
open Go.RowKit
open Go.Conc hiding base G
open Go.Conc (base enter_at)
open Go.Conc (G)
namespace W
section
variable {P:nh}{sh own:Bk}{w:nm}{a:Act}
def stepG_top{main:Bool}{fn:Func}{b:nu}{todo:List Item}{v:nA}(hn:b.kind=.normal)(hd:a.defers=[])(hf:P.funcs[b.fn]?=some fn)(hi:P.inits.idxOf? b.fn=none)(hr:(results fn a.tmps).run P w=.ok v w) :
  stepG P true (G {b.atR a todo with mode:=.returning} []) w=.ended (.done v) w (seen P b.fn ((results fn a.tmps).events P w #[])):=by
 simp[G,stepG,unwind,doReturn,Frame.atR,hn,hd,hf,hr,hi,GStep.after]
def GP{main:Md}{fn:Func}{f:np}(hm:main.b=true)(hf:P.funcs[f]?=some fn)(hi:P.inits.idxOf? f=none){tmps:Array nA}{todo:List Item}{v:nA}{Post:nA->nm->Prop} :
  ∀(Ds:List Nat) (w:nm),Ds.Nodup->(∀D∈Ds,own D/\w.heap[D]?=some (.deferred (some [])))->
   (∀w1,Unm own sh Ds w w1->(results fn tmps).run P w1=.ok v w1/\(∀ev∈(results fn tmps).events P w1 #[],Yk own sh ev)/\Post v w1)->
   Run P main sh (FQ P sh Post) own (G {(base f).atR ⟨tmps,Ds.map mkD⟩ todo with mode:=.returning} []) w
 |[],w,_,_,h=>by
  refine Run.stop λw2 h2=>?_;obtain⟨h3,h4,h5⟩:=h w2 ⟨h2.rest,h2.size,λk k1 k2 _=>h2.keep k k1 k2⟩;exact⟨rfl,v,_,stepG_top (main:=true) (b:=base f) rfl rfl hf hi h3,λe he=>h4 e (JL he),h5⟩
 |D::Ds,w,hn,hD,h=>by
  refine Run.go rfl λw2 h2=>?_;obtain⟨hn1,hn2⟩:=List.nodup_cons.1 hn;obtain⟨d1,d2⟩:=hD D (an ..);have hlt:∀D'∈D::Ds,D'<w.heap.size:=λD' h'=>(Array.getElem?_eq_some_iff.1 (hD D' h').2).1;have hsame:∀D'∈D::Ds,w2.heap[D']?=some (.deferred (some [])):=λD' h'=>by rw[h2.keep D' (hlt D' h') (.inl (hD D' h').1)];exact(hD D' h').2
  refine⟨_,_,_,HT (hsame D (an ..)),⟨⟨rfl,rfl,rfl⟩,by simp,λk _ hk=>World.putObj_heap_other (λe=>hk (e ▸ d1)),λe he=>?_⟩,?_⟩
  .have he:=JL he;have hh:=hsame D (an ..);rw[Yg hh] at he;simp at he;rcases he with rfl|rfl<;>exact .inr (.inr ⟨D,rfl,.inl d1⟩)
  .rw[QW (by simp)];refine GP hm hf hi (v:=v) Ds _ hn2 (λD' h'=>⟨(hD D' (au _ h')).1,?_⟩) λw1 h1=>?_
   .rw[World.putObj_heap_other (λe=>by subst e;exact hn1 h')];exact hsame D' (au _ h')
   .refine h w1 ⟨h2.rest.trans (Rest.trans (b:=w2.putObj D (.deferred none)) ⟨rfl,rfl,rfl⟩ h1.rest),aL h2.size (by simpa using h1.size),λk k1 k2 k3=>?_⟩;have k4:k∉Ds:=λhx=>k3 (au _ hx);rw[h1.keep k (by simpa using aw k1 h2.size) k2 k4,World.putObj_heap_other (λe=>k3 (by rw[<-e];exact an ..)),h2.keep k k1 k2]
def calls_top{main:Md}(hm:main.b=true){f:np}(hi:P.inits.idxOf? f=none){args:Array nA}{K:Bk->nA->nm->Prop}{Post:nA->nm->Prop}(h:ZJ P main sh f args own w K)(hK:∀own' v w',K own' v w'->Post v w') :
  Run P main sh (FQ P sh Post) own (G (Frame.enter P f args .normal) []) w:=by
 obtain⟨fn,cd,hf,hname,hb,hwp⟩:=h;rw[enter_at _ hf hb,<-Frame.atR_of_none (b:=base f) rfl]
 have hleave:∀(own':Bk) (a':Act) (w':nm) (todo:List Item),bodyR P sh fn K own' .ret a' w'->Run P main sh (FQ P sh Post) own' (G {(base f).atR a' todo with mode:=.returning} []) w':=by
  rintro own' ⟨tmps,ds⟩ w' todo ⟨Ds,hd,q1,q2,v,q3⟩;simp only at hd;subst hd;exact GP hm hf hi Ds w' q1 q2 λw1 h1=>⟨(q3 w1 h1).1,(q3 w1 h1).2.1,hK _ _ _ (q3 w1 h1).2.2⟩
 refine hwp (base f) [] [] _ rfl (by simp[base]) λown' e a' w' q=>?_;cases e with
 |normal=>exact Run.quiet rfl (λ_=>sg_end rfl) (hleave own' a' w' [] q)
 |ret=>exact⟨λ_ todo=>hleave own' a' w' todo q,λh=>absurd rfl h⟩
 |exit id=>exact q.elim
 |goto l=>exact q.elim
 |panic ch=>exact q.elim
 |outgrown=>exact q.elim
end
def Ext(V1 V2:nm):Prop:=∀(k:Nat) (o:Obj),V1.heap[k]?=some o->V2.heap[k]?=some o
def Ht{P:nh}{f:np}{args:ne}{F:nc}{v0:nA}{V1:nm}(hi:P.inits.idxOf? f=none)(hf:FnB P f args [] (isX P::F) (IsV v0))(hF:∀g∈F,g.p ⟨XM P,λk=>V1.heap[k]?⟩) :
  ∃M last o w' t',runNT P (M+1) (solo (G (Frame.enter P f args.toArray .normal) []) V1) #[]=(.ended o w',t')/\runN P M (solo (G (Frame.enter P f args.toArray .normal) []) V1)=.next last/\step P last=.ended o w'/\
   Conc.Good P (λv V2=>v=v0/\Rest V1 V2/\Ext V1 V2) last o w' t':=by
 let fr:CF:=⟨XM P,λ_=>False,λk=>k<V1.heap.size,λ_=>none,[]⟩
 have him:imm fr [] V1.heap=⟨XM P,λk=>V1.heap[k]?⟩:=by
  unfold imm CF.see
  congr 1
  funext k
  simp[fr,ids];by_cases h:k<V1.heap.size
  .simp[h,CF.vs,CF.no,XM]
  .simp[h,CF.vs,CF.no,XM]
 have ho:OK fr [] (isX P::F) V1:=⟨⟨λ_ _ h=>(by cases h),λk hk=>hk.elim id False.elim,λk hk=>hk.elim⟩,by simp[ids],by simp[ids],by simp,λg hg=>by
  rw[him];rcases List.mem_cons.1 hg with rfl|hg
  .rfl
  .exact hF g hg⟩
 have hrun:=calls_top (main:=XM P) rfl hi (Post:=λv V2=>v=v0/\Rest V1 V2/\Ext V1 V2) (hf.2 fr V1 ho) (by
  rintro own' v V2 ⟨h0,b,G,h1,h2,h3,h4⟩;obtain⟨h6,h7,h8⟩:=h1;subst h6 h7;refine⟨rfl,h2,λk o hk=>?_⟩;rw[him] at h3;exact JA (h3.2 k o hk))
 have hlt:∀k,(k<V1.heap.size\/False)->k<V1.heap.size:=λk h=>h.elim id False.elim
 have hct:Go.ConcN.CT (λ_=>False) (λ_ _=>False) (λ_ _=>False) (#[]:Trace) 0:=by
  have:=Go.ConcN.CT.lone (Sh:=λ_=>False) (Own:=λ_ _=>False) (Rd:=λ_ _=>False) (u:=(#[]:Trace)) (λop hop=>absurd hop (by simp)) (λop hop=>absurd hop (by simp));simpa using this
 have hp:=past_nil
 obtain⟨N,last,o,w',t',e1,e2,e3,e4⟩:=Ub (run_mainX (λ_ h=>h) hrun) (gs:=#[G (Frame.enter P f args.toArray .normal) []]) (sl:=none) (t:=#[]) (q:=λ_=>0) (Shun:=λ_=>False) rfl
  ⟨leavers_one P _,hct,by simp[Trace.HandedOver,Trace.g?],rfl,by simp,λl hl=>hl.elim,hlt⟩
 rw[solo_eq_crowd];exact⟨N,last,o,w',t',e1,e2,e3,e4⟩
end W
end
section
open Go.ChangeShapes Go.WideShapes Go.ChangeAt Go.RowKit
open W
def Again{H:Type}(enc:nl×nA->H)(P:nh)(V1:nm)(t:nl)(v:nA)(d:DataW H)(p:List MemPlace):Prop:=
 ∀(V2:nm) (sp:Nat->Bool),Ext V1 V2->(∀q∈p,sp q.block=true)->DataW.Trod enc P V2 0 sp true t v d p
def JR{H:Type}(enc:nl×nA->H)(P:nh)(V1:nm)(ts:List nl)(vs:ne)(ds:List (DataW H))(p:List MemPlace):Prop:=
 ∀(V2:nm) (sp:Nat->Bool),Ext V1 V2->(∀q∈p,sp q.block=true)->DataW.TrodAll enc P V2 0 sp true ts vs ds p
section
variable {H:Type}{enc:nl×nA->H}{P:nh}{V1:nm}
def JR.nil:JR enc P V1 [] [] [] []:=λ_ _ _ _=>rfl
def JR.cons{t:nl}{ts:List nl}{v:nA}{vs:ne}{d:DataW H}{ds:List (DataW H)}{p q:List MemPlace}(h:Again enc P V1 t v d p)(h2:JR enc P V1 ts vs ds q):JR enc P V1 (t::ts) (v::vs) (d::ds) (p++q):=λV2 sp he hs=>
 ⟨p,q,h V2 sp he λx hx=>hs x (dY _ hx),h2 V2 sp he λx hx=>hs x (aV _ hx),rfl⟩
def Ext_cell{V2:nm}(h:Ext V1 V2){a:Addr}{v:nA}(hc:V1.cell? a=some v):V2.cell? a=some v:=by
 unfold World.cell? at hc ⊢;cases ho:V1.heap[a.block]? with
 |none=>rw[ho] at hc;cases hc
 |some o=>rw[h _ _ ho];rw[ho] at hc;exact hc
def arg_int{t:nl}{b0:Nat}{v:nA}{d:DataW H}{p:List MemPlace}(ht:P.underlying t=some (.int .i64))(hv:Value.okWide P V1 .any b0 t v)(h:DataW.Trod enc P V1 0 (λ_=>true) true t v d p):∃n,v=nj n/\I64 n/\Again enc P V1 t v d p:=by
 obtain⟨n,rfl,rfl,rfl,wa⟩:=open_int ht hv h;refine⟨n,rfl,?_,λV2 sp _ _=>shut_int ht wa⟩;simp[Lit.wf,IntKind.min,IntKind.max,IntKind.signed,IntKind.bits] at wa;unfold I64;omega
def KO{t e:nl}{b0:Nat}{v:nA}{d:DataW H}{p:List MemPlace}(ht:P.underlying t=some (.slice e))(he:P.underlying e=some (.int .i64))(hc:P.cellsOf e=1)(hv:Value.okWide P V1 .any b0 t v)(h:DataW.Trod enc P V1 0 (λ_=>true) true t v d p) :
  ∃l:nd,(∀x∈l,I64 x)/\(sI v l).p ⟨XM P,λk=>V1.heap[k]?⟩/\Again enc P V1 t v d p:=by
 obtain⟨fuel,hf⟩:=h;have hval:=hv;obtain⟨a0,len,cap,rfl⟩:=okWide_slice ht hv;rcases open_ints ht he hc hf with ⟨hcs,hx⟩|⟨a,len',cap',zs,hcs,_,hl,hm,hz,hx,hcell,hwz⟩
 .simp[Value.cells] at hcs;obtain⟨rfl,rfl,rfl⟩:=hcs;simp only[Prod.mk.injEq] at hx;obtain⟨rfl,rfl⟩:=hx;exact⟨[],by simp,⟨none,0,rfl,ai _,by simp[maxLen],.inl ⟨rfl,rfl,rfl⟩⟩,λV2 sp _ _=>shut_slice_nil ht⟩
 .simp[Value.cells] at hcs;obtain⟨rfl,rfl,rfl⟩:=hcs;simp only[Prod.mk.injEq] at hx;obtain⟨rfl,rfl⟩:=hx;simp only[dc] at hz;simp only[Value.okWide,ht,Cell.okWide,Cell.ok] at hval;obtain⟨_,_,_,hsp,row,cells,hsh,_⟩:=hval;obtain⟨b,off,spot⟩:=a;simp only at hsp;subst hsp
  have hblk:∃c el fz,V1.heap[b]?=some (.cells c el fz):=by
   unfold World.shape? at hsh;simp only at hsh;split at hsh
   .rename_i c el fz hh;exact⟨c,el,fz,hh⟩
   .cases hsh
  obtain⟨c,el,fz,hh⟩:=hblk;have hlz:(zs.take len).length=len:=by simp;omega
  refine⟨zs.take len,λx hx=>?_,?_,λV2 sp hE hs=>?_⟩
  .have wa:=hwz x (List.mem_of_mem_take hx);simp[Lit.wf,IntKind.min,IntKind.max,IntKind.signed,IntKind.bits] at wa;unfold I64;omega
  .show(slC _ (zs.take len).length 1 _).p _;rw[hlz];refine⟨_,cap,rfl,hl,hm,.inr ⟨b,off,rfl,c,el,fz,hh,λj hj=>?_⟩⟩;have hcj:=hcell j qo;simp only[World.cell?,Addr.add_lit,hh] at hcj;simp only[ey,cM,dX] at hcj;rw[hcj];simp only[List.getD_eq_getElem?_getD,List.getElem?_take];rw[ah qo]
  .by_cases hz0:zs.length=0
   .have hc0:cap=0:=qo;have hl0:len=0:=qo;subst hc0;subst hl0;have t0:=shut_ints (enc:=enc) (w:=V2) (base:=0) (spare:=sp) (held:=true) (a:=⟨b,off,none⟩) (len:=0) (cap:=0) (zs:=zs) 0 ht he hc (aj _) (ai _) hm (by simp[hz0]) (λi hi=>by omega) hwz;exact⟨2,by simpa [Value.cells] using t0⟩
   .have hspb:sp b=true:=hs (.cell b off) (MemPlace.mem_row.2 ⟨0,by omega,by simp⟩);have t0:=shut_ints (enc:=enc) (w:=V2) (base:=0) (spare:=sp) (held:=true) (a:=⟨b,off,none⟩) (len:=len) (cap:=cap) (zs:=zs) 0 ht he hc (aj _) hl hm (by simp[hspb,hz]) (λi hi=>Ext_cell hE (hcell i hi)) hwz;exact⟨2,by simpa [Value.cells] using t0⟩
def post_law{f:Func}{s:ChangeSpec}{V2:nm}{args:Array nA}{ds gs:List (DataW H)}{before:List MemPlace}{v:nA}
  (hW:DataW.Whole enc P f.params.toList s.vars false V1 args.toList ds gs before)
  (hres:∀(b:Nat) (sp:Nat->Bool) (hd:Bool),DataW.TrodAll enc P V2 b sp hd f.resultTypes.toList (v.resultList f.resultTypes.size) (s.fn H (ds++gs)).results [])
  (hargs:∀sp:Nat->Bool,(∀p∈before,sp p.block=true)->DataW.TrodAll enc P V2 0 sp true f.params.toList args.toList (s.fn H (ds++gs)).args before)
  (hvars:∀sp:Nat->Bool,DataW.TrodVars enc P V2 sp s.vars (s.fn H (ds++gs)).vars [])
  (hr:W.Rest V1 V2) (hE:Ext V1 V2)
  (hok:∀(j:Nat) (t:nl) (r:nA),f.resultTypes[j]?=some t->(v.resultList f.resultTypes.size)[j]?=some r->Value.okWide P V2 .any 0 t r) :
  s.post enc P f false true false false V1 args v V2:=by
 have hold:∀p∈before,(λb=>decide (b<V1.heap.size)) p.block=true:=λp hp=>by simpa using hW.lt p hp
 refine⟨ds,gs,before,[],before,[],hW,hres _ _ _,hargs _ hold,hvars _,⟨hr.os,hr.output,λi hi=>?_⟩,λh=>by cases h⟩;have hk:=hE i V1.heap[i] (Array.getElem?_eq_getElem hi);rw[hk,Array.getElem?_eq_getElem hi];cases V1.heap[i]<;>simp
end
def Tryz.own:ownKnob Tryz.prog.godebug=none:=by kernel_rfl
end
end Go.Proofs.YtbnobghgnbockaaGreat
