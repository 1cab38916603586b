/- Lemmas for a law. Conditions: none. -/
import Derived.WalkKit
import Derived.OrdersHeld
import Derived.Deep.MidRow
import Derived.WalkLawsBesides
import Derived.AtR
import Derived.Conc.CompanyDraw
import Derived.Conc.Neutral
import Derived.RangeFuncRecord
set_option linter.all false
set_option maxHeartbeats 32000000
set_option maxRecDepth 100000
namespace Go.Proofs.YtbnobghgnbockaaGreat
theorem qo{p:Prop}(h:p:=by omega):p:=h
theorem qd{p:Prop}(h:p:=by decide):p:=h
theorem qr{p:Prop}(h:p:=by exact rfl):p:=h
theorem kr{α:Type}{a b:α}(h:a=b:=by kernel_rfl):a=b:=h
section
open Go.RowKit
open Go.Conc (G listed)
namespace W
section
variable {P:Program}{m:Bool}{b:Frame}{a:Act}{k k':List Item}{cs:List Frame}{w w':World}{x y c:Code}{l id:Nat}{ops:Array Oper}{i:Nat}{rest:List Nat}{o:Oper}{v:Value}
def sg_skip:stepG P m (G (b.atR a (.code .skip::k)) cs) w=.go (G (b.atR a k) cs) w #[]:=by simp[G,stepG,stepG.exec,Frame.atR]
def sg_label:stepG P m (G (b.atR a (.code (.label l)::k)) cs) w=.go (G (b.atR a k) cs) w #[]:=by simp[G,stepG,stepG.exec,Frame.atR]
def ZQ:stepG P m (G (b.atR a (.inBlock id::k)) cs) w=.go (G (b.atR a k) cs) w #[]:=by simp[G,stepG,stepG.exec,Frame.atR]
def sg_inScope:stepG P m (G (b.atR a (.inScope c::k)) cs) w=.go (G (b.atR a k) cs) w #[]:=by simp[G,stepG,stepG.exec,Frame.atR]
def Xc:stepG P m (G (b.atR a (.code (.seq x y)::k)) cs) w=.go (G (b.atR a (.code x::.code y::k)) cs) w #[]:=by simp[G,stepG,stepG.exec,Frame.atR]
def Uh{u:Operand}{t:Bool}(h:a.eval u=.bool t):stepG P m (G (b.atR a (.code (.cond u x y)::k)) cs) w=.go (G (b.atR a (.code (if t then x else y)::k)) cs) w #[]:=by
 have:=congrFun (Frame.eval_atR b a (.code (.cond u x y)::k)) u;simp only[Frame.atR] at this;simp[G,stepG,stepG.exec,Frame.atR,this,h]
def Z3:stepG P m (G (b.atR a (.code (.block id c)::k)) cs) w=.go (G (b.atR a (.code c::.inBlock id::k)) cs) w #[]:=by simp[G,stepG,stepG.exec,Frame.atR]
def sg_scope:stepG P m (G (b.atR a (.code (.scope c)::k)) cs) w=.go (G (b.atR a (.code c::.inScope c::k)) cs) w #[]:=by simp[G,stepG,stepG.exec,Frame.atR]
def Gk:stepG P m (G (b.atR a (.code (.loop c)::k)) cs) w=.go (G (b.atR a (.code c::.inLoop c::k)) cs) w #[]:=by simp[G,stepG,stepG.exec,Frame.atR]
def KQ:stepG P m (G (b.atR a (.inLoop c::k)) cs) w=.go (G (b.atR a (.code c::.inLoop c::k)) cs) w #[]:=by simp[G,stepG,stepG.exec,Frame.atR]
def sg_exit(h:exitTo id k=some k'):stepG P m (G (b.atR a (.code (.exit id)::k)) cs) w=.go (G (b.atR a k') cs) w #[]:=by simp[G,stepG,stepG.exec,Frame.atR,h]
def sg_ret(hb:b.roundOf=none):stepG P m (G (b.atR a (.code .ret::k)) cs) w=.go (G {b.atR a (.code .ret::k) with mode:=.returning} cs) w #[]:=by simp[G,stepG,stepG.exec,Frame.atR,hb]
def sg_end(hb:b.roundOf=none):stepG P m (G (b.atR a []) cs) w=.go (G {b.atR a [] with mode:=.returning} cs) w #[]:=by simp[G,stepG,stepG.exec,Frame.atR,hb]
def Yu:stepG P m (G (b.atR a (.code (.region id ops false)::k)) cs) w=.go (G (b.atR a (.inRegion ops (List.range ops.size)::k)) cs) w #[]:=by simp[G,stepG,stepG.exec,Frame.atR]
def Jr:stepG P m (G (b.atR a (.inRegion ops []::k)) cs) w=.go (G (b.atR a k) cs) w #[]:=by simp[G,stepG,stepG.exec,Frame.atR]
def sg_draw:stepG P m (G (b.atR a (.code (.region id ops true)::k)) cs) w =
  .go (G (b.atR a (.inRegion ops (Region.schedule (P.follows .mixedOrders) ops (w.tape w.drawn (.order b.fn id)))::k)) cs) {w with drawn:=w.drawn+1} #[]:=by
 simp[G,stepG,stepG.exec,Frame.atR,choose,Sem.run,Question.forced,Question.cut]
def YG(ho:ops[i]?=some o)(v:Value):(b.atR a (.inRegion ops (i::rest)::k)).finish v=b.atR (a.put o.dst v) (.inRegion ops rest::k):=by rw[Frame.finish_atR,ho];rfl
def sg_unwanted(ho:ops[i]?=some o)(hw:Region.wanted o (yielded ops a.tmps)=false):stepG P m (G (b.atR a (.inRegion ops (i::rest)::k)) cs) w=.go (G (b.atR (a.put o.dst undef) (.inRegion ops rest::k)) cs) w #[]:=by
 rw[<-YG ho];simp[G,stepG,stepG.exec,Frame.atR,ho,hw]
def Ug(ho:ops[i]?=some o)(hw:Region.wanted o (yielded ops a.tmps)=true)(hd:∀c,o.op≠.defer c) :
  stepG P m (G (b.atR a (.inRegion ops (i::rest)::k)) cs) w=stepG.apply P true (b.atR a (.inRegion ops (i::rest)::k)) cs none (execOp a.eval o) w:=by
 have he:=Frame.eval_atR b a (.inRegion ops (i::rest)::k);simp only[Frame.atR] at he;simp only[G,stepG,stepG.exec,stepG.oper,Frame.oper?,Frame.atR,ho,hw,he,Option.map_some,Option.getD_some,if_true];cases hb:b.roundOf with
 |none=>rfl
 |some l=>cases hop:o.op<;>first|rfl|exact absurd hop (hd _)
def Vy(ho:ops[i]?=some o)(hw:Region.wanted o (yielded ops a.tmps)=true)(hd:∀c,o.op≠.defer c)(hk:b.kind≠.early)(hr:(execOp a.eval o).run P w=.ok (.value v) w') :
  stepG P m (G (b.atR a (.inRegion ops (i::rest)::k)) cs) w=.go (G (b.atR (a.put o.dst v) (.inRegion ops rest::k)) cs) w' (listed P b.fn a o w):=by
 have hk':(b.kind == CallKind.early)=false:=by simpa using hk
 rw[Ug ho hw hd,<-YG ho];simp[stepG.apply,hr,G,Frame.atR,hk',GStep.after,listed]
def sg_none(ho:ops[i]?=some o)(hw:Region.wanted o (yielded ops a.tmps)=true)(hd:∀c,o.op≠.defer c)(hk:b.kind≠.early)(hr:(execOp a.eval o).run P w=.ok .skip w') :
  stepG P m (G (b.atR a (.inRegion ops (i::rest)::k)) cs) w=.go (G (b.atR (a.put o.dst undef) (.inRegion ops rest::k)) cs) w' (listed P b.fn a o w):=by
 have hk':(b.kind == CallKind.early)=false:=by simpa using hk
 rw[Ug ho hw hd,<-YG ho];simp[stepG.apply,hr,G,Frame.atR,hk',GStep.after,listed]
def sg_enter{f:FuncId}{args:Array Value}(ho:ops[i]?=some o)(hw:Region.wanted o (yielded ops a.tmps)=true)(hd:∀c,o.op≠.defer c)(hk:b.kind≠.early)(hr:(execOp a.eval o).run P w=.ok (.enter f args) w') :
  stepG P m (G (b.atR a (.inRegion ops (i::rest)::k)) cs) w=.go (G (Frame.enter P f args .normal) (b.atR a (.inRegion ops (i::rest)::k)::cs)) w' (listed P b.fn a o w):=by
 have hk':(b.kind == CallKind.early)=false:=by simpa using hk
 rw[Ug ho hw hd];simp[stepG.apply,hr,G,Frame.atR,hk',GStep.after,listed]
def sg_round{l:Nat}{f:FuncId}{tmps:Array Value}(ho:ops[i]?=some o)(hw:Region.wanted o (yielded ops a.tmps)=true)(hd:∀c,o.op≠.defer c)(hk:b.kind≠.early)(hr:(execOp a.eval o).run P w=.ok (.round l f tmps x y) w') :
  stepG P m (G (b.atR a (.inRegion ops (i::rest)::k)) cs) w=.go (G (Frame.round l f tmps x y .normal) (b.atR a (.inRegion ops (i::rest)::k)::cs)) w' (listed P b.fn a o w):=by
 have hk':(b.kind == CallKind.early)=false:=by simpa using hk
 rw[Ug ho hw hd];simp[stepG.apply,hr,G,Frame.atR,hk',GStep.after,listed]
def YN{ρ:Operand->Value}{n:Next}(hr:(execOp ρ o).run P w=.ok n w')(hn:∀d,n≠.defer d):∀c,o.op≠.defer c:=by
 intro c hc
 have:(execOp ρ o).run P w=((resolve ρ c o.type).bind λd=>Sem.pure (Next.defer d)).run P w:=by
  simp only[execOp,hc];rfl
 rw[hr,Sem.run_bind'] at this;cases hx:(resolve ρ c o.type).run P w with
 |ok d w1=>
  rw[hx] at this;simp[Result.andThen,Sem.run] at this;exact hn _ this.1
 |halt h w1=>rw[hx] at this;simp[Result.andThen] at this
def mkD(D:Nat):Deferred:={target:=.collected D,args:=#[]}
def Xf(l:Nat)(f:FuncId):Frame:={(default:Frame) with fn:=f,kind:=.normal,roundOf:=some l}
def round_at{l:Nat}{f:FuncId}{tmps:Array Value}:Frame.round l f tmps x y .normal=(Xf l f).atR ⟨tmps,[]⟩ [.code x,.beginRound,.code y]:=rfl
def Zu{r:Loop}(hl:b.roundOf=some l)(hk:b.kind≠.early)(h:w.heap[l]?=some (.loop r))(hr:r.state=.ready) :
  stepG P m (G (b.atR a (.beginRound::k)) cs) w=.go (G (b.atR a k) cs) (w.putObj l (.loop {r with state:=.busy})) (seen P b.fn ((Instr.beginRound l).events P w #[])):=by
 have hk':(b.kind == CallKind.early)=false:=by simpa using hk
 have h1:=run_beginRound (P:=P) h hr;simp[G,stepG,stepG.exec,stepG.apply,Frame.atR,hl,hk',h1,GStep.after,Frame.finish]
def VQ{r:Loop}{j:Code}(hl:b.roundOf=some l)(hk:b.kind=.normal)(h:w.heap[l]?=some (.loop r))(hj:j=.ret\/∃id,j=.exit id/\exitTo id k=none){c0:Frame} :
  stepG P m (G (b.atR a (.code j::k)) (c0::cs)) w=.go (G (c0.finish (.bool false)) cs) (w.putObj l (.loop {r with state:=.done,pending:=some j})) (seen P b.fn ((Instr.endRound l (some j)).events P w #[])):=by
 have h1:=run_endRound (P:=P) (some j) h;rcases hj with rfl|⟨id,rfl,hid⟩
 ·simp[G,stepG,stepG.exec,Frame.atR,hl,hk,h1,GStep.after,doReturn]
 ·simp[G,stepG,stepG.exec,Frame.atR,hl,hk,h1,GStep.after,doReturn,hid]
def sg_endRange{r:Loop}(h:w.heap[l]?=some (.loop r))(hb:r.state≠.busy) :
  stepG P m (G (b.atR a (.endRangeFunc l::k)) cs) w=.go (G (b.atR a ((r.pending.map Item.code).toList++k)) cs) (w.putObj l (.loop {r with state:=.exhausted})) (seen P b.fn ((Instr.endLoop l).events P w #[])):=by
 have h1:=run_endLoop (P:=P) h hb;simp[G,stepG,stepG.exec,Frame.atR,h1,GStep.after]
def Vv{D:Nat}{ds:List Deferred}{tmps:Array Value}{todo:List Item}(h:w.heap[D]?=some (.deferred (some []))) :
  stepG P m (G {b.atR ⟨tmps,mkD D::ds⟩ todo with mode:=.returning} cs) w=.go (G {b.atR ⟨tmps,ds⟩ todo with mode:=.returning} cs) (w.putObj D (.deferred none)) (seen P b.fn ((Instr.takeDeferred D).events P w #[])):=by
 have h1:=run_takeDeferred (P:=P) h;simp[G,stepG,unwind,Frame.atR,mkD,h1,GStep.after]
def sg_range {g:Operand} {ps:Array Tmp} {gf:FuncId} {lb:Array Value} (hb:b.roundOf=none) (hk:b.kind≠.early) (hg:a.eval g=.func (.func gf) #[] lb) (hc:∃fn,P.funcs[gf]?=some fn/\(fn.name == "runtime.NumGoroutine")=false/\fn.body.isNone=false) :
  stepG P m (G (b.atR a (.code (.rangeFunc g ps x y)::k)) cs) w =
   .go (G (Frame.enter P gf (#[.func (.yield (w.heap.size+1)) #[] #[]]++lb) .normal) (b.atR ⟨a.tmps,mkD w.heap.size::a.defers⟩ (.inRangeFunc (w.heap.size+1)::k)::cs))
    ((w.alloc (.deferred (some []))).alloc (.loop {state:=.ready,pending:=none,fn:=b.fn,tmps:=a.tmps,params:=ps,assign:=x,body:=y,defers:=w.heap.size})) #[]:=by
 obtain⟨fn,h1,h2,h3⟩:=hc;have hk':(b.kind == CallKind.early)=false:=by simpa using hk
 have h2':¬fn.name= "runtime.NumGoroutine":=by simpa using h2
 have h3':¬fn.body=none:=by cases hb:fn.body<;>simp_all
 have he:=run_enterLoop_outer (P:=P) (w:=w) b.fn a.tmps ps x y;have hev:=congrFun (Frame.eval_atR b a (.code (.rangeFunc g ps x y)::k)) g;simp only[Frame.atR] at hev
 have hev2:∀todo (ds:List Deferred),Frame.eval {fn:=b.fn,tmps:=a.tmps,todo:=todo,defers:=ds,mode:=.run,kind:=b.kind,roundOf:=none} g=.func (.func gf) #[] lb:=λtodo ds=>by
  rw[<-hg];cases g<;>rfl
 simp[G,stepG,stepG.exec,Frame.atR,hb,he,GStep.after,stepG.apply,hk',resolve,hev2,Deferred.ofValue,invoke,callFunc,program,Sem.run,h1,h2',h3',mkD,show ∀fr:Frame,fr.eval (.const (.func (.yield (w.heap.size+1)) #[] #[]))=.func (.yield (w.heap.size+1)) #[] #[] from λ_=>rfl];exact⟨rfl,rfl⟩
def YU{r:Nat}{o:Obj}{es:Array Event}(h:w.heap[r]?=some o)(hc:∀vs ty fr,o≠.cells vs ty fr):(getObj r).events P w es=es.push ⟨.obj r,false,o.isChan⟩:=by
 cases o<;>first|exact absurd rfl (hc _ _ _)|simp[getObj,Sem.events,Sem.runT,h,-Sem.runT_eq]
def Xx{r:Nat}{o o':Obj}{es:Array Event}(h:w.heap[r]?=some o')(hc:∀vs ty fr,o'≠.cells vs ty fr):(setObj r o).events P w es=es.push ⟨.obj r,true,o.isChan⟩:=by
 cases o'<;>first|exact absurd rfl (hc _ _ _)|simp[setObj,Sem.events,Sem.runT,h,-Sem.runT_eq]
def Xj{r:Nat}{o:Loop}{es:Array Event}(h:w.heap[r]?=some (.loop o)):(Instr.getLoop r).events P w es=es.push ⟨.obj r,false,false⟩:=by
 have h1:=YU (P:=P) (es:=es) h (by simp);have h2:(getObj r).run P w=.ok (.loop o) w:=by simp[getObj,Sem.run,h]
 simp[Instr.getLoop,h1,h2,Obj.isChan]
def KP{r:Nat}{o:Obj}(h:w.heap[r]?=some o)(hc:∀vs ty fr,o≠.cells vs ty fr):(getObj r).run P w=.ok o w:=by
 cases o<;>first|exact absurd rfl (hc _ _ _)|simp[getObj,Sem.run,h]
def Yz{r:Nat}{o o':Obj}(h:w.heap[r]?=some o')(hc:∀vs ty fr,o'≠.cells vs ty fr):(setObj r o).run P w=.ok () (w.putObj r o):=by
 cases o'<;>first|exact absurd rfl (hc _ _ _)|simp[setObj,Sem.run,h,World.putObj]
def run_getLoop{r:Nat}{o:Loop}(h:w.heap[r]?=some (.loop o)):(Instr.getLoop r).run P w=.ok o w:=by
 have h2:=KP (P:=P) h (by simp);simp[Instr.getLoop,h2]
def XH{D:Nat}{ds:List Deferred}{es:Array Event}(h:w.heap[D]?=some (.deferred (some ds))) :
  (Instr.takeDeferred D).events P w es=(es.push ⟨.obj D,false,false⟩).push ⟨.obj D,true,false⟩:=by
 simp[Instr.takeDeferred,YU h,KP h,Xx h,Yz h,Obj.isChan]
def X5{r:Loop}{es:Array Event}(h:w.heap[l]?=some (.loop r))(hr:r.state=.ready) :
  (Instr.beginRound l).events P w es=(es.push ⟨.obj l,false,false⟩).push ⟨.obj l,true,false⟩:=by
 simp[Instr.beginRound,Xj h,run_getLoop h,Xx h,Yz h,Obj.isChan,hr]
def YK{r:Loop}{es:Array Event}{j:Option Code}(h:w.heap[l]?=some (.loop r)) :
  (Instr.endRound l j).events P w es=(es.push ⟨.obj l,false,false⟩).push ⟨.obj l,true,false⟩:=by
 simp[Instr.endRound,Xj h,run_getLoop h,Xx h,Yz h,Obj.isChan]
def UK{r:Loop}{es:Array Event}(h:w.heap[l]?=some (.loop r))(hr:r.state≠.busy) :
  (Instr.endLoop l).events P w es=(es.push ⟨.obj l,false,false⟩).push ⟨.obj l,true,false⟩:=by
 simp[Instr.endLoop,Xj h,run_getLoop h,Xx h,Yz h,Obj.isChan,hr]
def ZD{r:Loop}{es:Array Event}{args:Array Value}(h:w.heap[l]?=some (.loop r))(ha:args.size=r.params.size) :
  (Instr.yield l args).events P w es=es.push ⟨.obj l,false,false⟩:=by
 simp[Instr.yield,Xj h,run_getLoop h,ha]
def Yp{r:Loop}{args:Array Value}(h:w.heap[l]?=some (.loop r))(ha:args.size=r.params.size) :
  (Instr.yield l args).run P w=.ok (.round l r.fn ((r.params.zip args).foldl (λtmps (t,a)=>tmps.setIfInBounds t a) r.tmps) r.assign r.body) w:=by
 simp[Instr.yield,run_getLoop h,ha]
end
end W
end
section
open Go.RowKit
open Go.Conc (G base listed)
namespace W
structure Rest(w w':World):Prop where
 os:w'.os=w.os
 tape:w'.tape=w.tape
 output:w'.output=w.output
def Rest.refl(w:World):Rest w w:=⟨rfl,rfl,rfl⟩
def Rest.trans{a b c:World}(h:Rest a b)(k:Rest b c):Rest a c:=⟨k.os.trans h.os,k.tape.trans h.tape,k.output.trans h.output⟩
def Rest.drawn(w:World)(n:Nat):Rest w {w with drawn:=n}:=⟨rfl,rfl,rfl⟩
abbrev Bk:=Nat->Prop
structure Rly(own sh:Bk)(w w1:World):Prop where
 rest:Rest w w1
 size:w.heap.size<=w1.heap.size
 keep:∀k,k<w.heap.size->own k\/sh k->w1.heap[k]?=w.heap[k]?
def Rly.refl(own sh:Bk)(w:World):Rly own sh w w:=⟨.refl w,Nat.le_refl _,λ_ _ _=>rfl⟩
def Rly.trans{own sh:Bk}{a b c:World}(h:Rly own sh a b)(k:Rly own sh b c):Rly own sh a c:=
 ⟨h.rest.trans k.rest,Nat.le_trans h.size k.size,λi hi ho=>(k.keep i (Nat.lt_of_lt_of_le hi h.size) ho).trans (h.keep i hi ho)⟩
def grow(own:Bk)(w w':World):Bk:=λk=>own k\/(w.heap.size<=k/\k<w'.heap.size)
def Ql{own:Bk}{w w':World}(h:w'.heap.size<=w.heap.size):grow own w w'=own:=by
 funext k;apply propext;unfold grow
 exact⟨λx=>x.elim id λy=>absurd y.2 qo,.inl⟩
def XX(own sh:Bk)(e:Event):Prop:=(∃a,e.loc=.cell a/\(own a.block\/(sh a.block/\e.write=false)))\/(∃m,e=⟨.mark m,false,true⟩/\Go.Conc.Neutral m)\/∃r,e.loc=.obj r/\own r
def XX.mono{own own' sh:Bk}{e:Event}(h:XX own sh e)(ho:∀k,own k->own' k):XX own' sh e:=
 h.imp (λ⟨a,h2,h3⟩=>⟨a,h2,h3.imp (ho _) id⟩) (Or.imp id λ⟨r,h2,h3⟩=>⟨r,h2,ho _ h3⟩)
structure Xr(own sh:Bk)(w w':World)(es:Array Event):Prop where
 rest:Rest w w'
 size:w.heap.size<=w'.heap.size
 keep:∀k,k<w.heap.size->¬own k->w'.heap[k]?=w.heap[k]?
 evs:∀e∈es,XX (grow own w w') sh e
def Xr.idle(own sh:Bk)(w:World):Xr own sh w w #[]:=⟨.refl w,Nat.le_refl _,λ_ _ _=>rfl,λe he=>by simp at he⟩
def Xr.drawn(own sh:Bk)(w:World)(n:Nat):Xr own sh w {w with drawn:=n} #[]:=⟨.drawn w n,Nat.le_refl _,λ_ _ _=>rfl,λe he=>by simp at he⟩
structure Md where
 b:Bool
 inv:World->Prop
 ok:Bk->Bk->World->World->Array Event->Bk->Prop
 Sp:Bk->Bk->Goroutine->World->(Bk->Goroutine->World->Prop)->Prop
 no:Bk
def Fair(main:Md)(sh own:Bk)(w w':World)(es:Array Event)(own':Bk):Prop:=(Xr own sh w w' es/\own'=grow own w w')\/main.ok sh own w w' es own'
section
variable (P:Program)(main:Md)(sh:Bk)(Stop:Bk->Goroutine->World->Prop)
inductive Run:Bk->Goroutine->World->Prop where
 |stop {own:Bk} {g:Goroutine} {w:World}:(∀w1,Rly own sh w w1->Stop own g w1)->Run own g w
 |step {own:Bk} {g:Goroutine} {w:World} (g':World->Goroutine) (w':World->World) (es:World->Array Event) (own':World->Bk):g.status=.running->
   (∀w1,Rly own sh w w1->main.inv w1->stepG P main.b g w1=.go (g' w1) (w' w1) (es w1)/\Fair main sh own w1 (w' w1) (es w1) (own' w1))->
   (∀w1,Rly own sh w w1->main.inv w1->Run (own' w1) (g' w1) (w' w1))->Run own g w
 |stroke {own:Bk} {g:Goroutine} {w:World} (K:Bk->Goroutine->World->Prop):g.status=.running->(∀w1,Rly own sh w w1->main.Sp sh own g w1 K)->
   (∀own' g' w',K own' g' w'->Run own' g' w')->Run own g w
end
section
variable {P:Program}{main:Md}{sh:Bk}{Stop:Bk->Goroutine->World->Prop}{own:Bk}{g g':Goroutine}{w w1:World}
def Run.rely(h:Run P main sh Stop own g w)(hr:Rly own sh w w1):Run P main sh Stop own g w1:=by
 cases h with
 |stop h=>exact .stop λw2 h2=>h w2 (hr.trans h2)
 |step g' w' es own' h1 h2 h3=>exact .step g' w' es own' h1 (λw2 h=>h2 w2 (hr.trans h)) λw2 h=>h3 w2 (hr.trans h)
 |stroke K h1 h2 h3=>exact .stroke K h1 (λw2 h=>h2 w2 (hr.trans h)) h3
def Run.goF(hs:g.status=.running)(h:∀w1,Rly own sh w w1->main.inv w1->∃g' w' es own',stepG P main.b g w1=.go g' w' es/\Fair main sh own w1 w' es own'/\Run P main sh Stop own' g' w'):Run P main sh Stop own g w:=by
 classical
 have h:∀w1,Rly own sh w w1/\main.inv w1->∃g' w' es own',stepG P main.b g w1=.go g' w' es/\Fair main sh own w1 w' es own'/\Run P main sh Stop own' g' w':=λw1 h1=>h w1 h1.1 h1.2
 refine .step (λw1=>if hr:Rly own sh w w1/\main.inv w1 then(h w1 hr).choose else g) (λw1=>if hr:Rly own sh w w1/\main.inv w1 then(h w1 hr).choose_spec.choose else w1)
  (λw1=>if hr:Rly own sh w w1/\main.inv w1 then(h w1 hr).choose_spec.choose_spec.choose else #[]) (λw1=>if hr:Rly own sh w w1/\main.inv w1 then(h w1 hr).choose_spec.choose_spec.choose_spec.choose else own) hs (λw1 hr hi=>?_) λw1 hr hi=>?_
 ·simp only[dif_pos (show Rly own sh w w1/\main.inv w1 from⟨hr,hi⟩)];have:=(h w1 ⟨hr,hi⟩).choose_spec.choose_spec.choose_spec.choose_spec;exact⟨this.1,this.2.1⟩
 ·simp only[dif_pos (show Rly own sh w w1/\main.inv w1 from⟨hr,hi⟩)];exact(h w1 ⟨hr,hi⟩).choose_spec.choose_spec.choose_spec.choose_spec.2.2
def Run.go(hs:g.status=.running)(h:∀w1,Rly own sh w w1->∃g' w' es,stepG P main.b g w1=.go g' w' es/\Xr own sh w1 w' es/\Run P main sh Stop (grow own w1 w') g' w'):Run P main sh Stop own g w:=
 Run.goF hs λw1 hr _=>let ⟨g',w',es,h1,h2,h3⟩:=h w1 hr;⟨g',w',es,_,h1,.inl ⟨h2,rfl⟩,h3⟩
def Run.quiet(hs:g.status=.running)(h:∀w1,stepG P main.b g w1=.go g' w1 #[])(hk:Run P main sh Stop own g' w):Run P main sh Stop own g w:=
 Run.go hs λw1 hr=>⟨g',w1,#[],h w1,Xr.idle _ _ _,by rw[Ql (Nat.le_refl _)];exact hk.rely hr⟩
end
section
variable (P:Program)(main:Md)(sh:Bk)(Stop:Bk->Goroutine->World->Prop)
def Leave(own:Bk)(b:Frame)(cs:List Frame)(jump:Code)(a:Act)(w:World):Prop:=
 ∀k,(∀id,jump=.exit id->exitTo id k=none)->Run P main sh Stop own (G (b.atR a (.code jump::k)) cs) w
def After(own:Bk)(b:Frame)(k:List Item)(cs:List Frame):Exit->Act->World->Prop
 |.normal,a,w=>Run P main sh Stop own (G (b.atR a k) cs) w
 |.exit id,a,w=>(∃k',exitTo id k=some k'/\Run P main sh Stop own (G (b.atR a k') cs) w)\/(b.roundOf≠none/\exitTo id k=none/\Leave P main sh Stop own b cs (.exit id) a w)
 |.ret,a,w=>(b.roundOf=none->∀todo,Run P main sh Stop own (G {b.atR a todo with mode:=.returning} cs) w)/\(b.roundOf≠none->Leave P main sh Stop own b cs .ret a w)
 |_,_,_=>False
end
def wpR(P:Program)(main:Md)(sh:Bk)(c:Code)(Q:Bk->Exit->Act->World->Prop)(own:Bk)(a:Act)(w:World):Prop:=
 ∀b k cs Stop,b.kind≠.early->(∀own' e a' w',Q own' e a' w'->After P main sh Stop own' b k cs e a' w')->Run P main sh Stop own (G (b.atR a (.code c::k)) cs) w
def K6(P:Program)(main:Md)(sh:Bk)(ops:Array Oper)(todo:List Nat)(Q:Bk->Exit->Act->World->Prop)(own:Bk)(a:Act)(w:World):Prop:=
 ∀b k cs Stop,b.kind≠.early->(∀own' e a' w',Q own' e a' w'->After P main sh Stop own' b k cs e a' w')->Run P main sh Stop own (G (b.atR a (.inRegion ops todo::k)) cs) w
section
variable {P:Program}{main:Md}{sh:Bk}{Q Q':Bk->Exit->Act->World->Prop}{own:Bk}{a:Act}{w w1:World}{x y c:Code}
def After.push{Stop:Bk->Goroutine->World->Prop}{b:Frame}{it:Item}{k:List Item}{cs:List Frame}{e:Exit}(hx:it.plain=true)(he:e≠.normal)(h:After P main sh Stop own b k cs e a w):After P main sh Stop own b (it::k) cs e a w:=by
 cases e with
 |normal=>exact absurd rfl he
 |exit id=>
  have hp:exitTo id (it::k)=exitTo id k:=by cases it<;>simp_all [exitTo,Item.plain]
  rcases h with ⟨k',hk,hg⟩|⟨h1,h2,h3⟩
  ·exact .inl ⟨k',by rw[hp];exact hk,hg⟩
  ·exact .inr ⟨h1,by rw[hp];exact h2,h3⟩
 |ret=>exact h
 |goto l=>exact h
 |panic ch=>exact h
 |outgrown=>exact h
def After.rely{Stop:Bk->Goroutine->World->Prop}{b:Frame}{k:List Item}{cs:List Frame}{e:Exit}(h:After P main sh Stop own b k cs e a w)(hr:Rly own sh w w1):After P main sh Stop own b k cs e a w1:=by
 cases e with
 |normal=>exact Run.rely h hr
 |exit id=>exact Or.imp (λ⟨k',h1,h2⟩=>⟨k',h1,h2.rely hr⟩) (λ⟨h1,h2,h3⟩=>⟨h1,h2,λk hk=>(h3 k hk).rely hr⟩) h
 |ret=>exact⟨λhb todo=>(h.1 hb todo).rely hr,λhb k hk=>(h.2 hb k hk).rely hr⟩
 |goto l=>exact h
 |panic ch=>exact h
 |outgrown=>exact h
def Xu(h:wpR P main sh c Q own a w)(hq:∀own' e a w,Q own' e a w->Q' own' e a w):wpR P main sh c Q' own a w:=
 λb k cs Stop hk hc=>h b k cs Stop hk λown' e a' w' q=>hc own' e a' w' (hq _ _ _ _ q)
def wpR_skip(h:Q own .normal a w):wpR P main sh .skip Q own a w:=λ_ _ _ _ _ hc=>Run.quiet rfl (λ_=>sg_skip) (hc _ _ _ _ h)
def wpR_label{l:Nat}(h:Q own .normal a w):wpR P main sh (.label l) Q own a w:=λ_ _ _ _ _ hc=>Run.quiet rfl (λ_=>sg_label) (hc _ _ _ _ h)
def wpR_ret(h:Q own .ret a w):wpR P main sh .ret Q own a w:=λb k _ _ _ hc=>by
 have:=hc _ _ _ _ h;by_cases hb:b.roundOf=none
 ·exact Run.quiet rfl (λ_=>sg_ret hb) (this.1 hb _)
 ·exact this.2 hb k λid e=>by cases e
def wpR_exit{id:Nat}(h:Q own (.exit id) a w):wpR P main sh (.exit id) Q own a w:=λb k _ _ _ hc=>by
 rcases hc _ _ _ _ h with ⟨k',hk',hg⟩|⟨_,h2,h3⟩
 ·exact Run.quiet rfl (λ_=>sg_exit hk') hg
 ·exact h3 k λid' e=>by cases e;exact h2
def thenR(P:Program)(main:Md)(sh:Bk)(y:Code)(Q:Bk->Exit->Act->World->Prop):Bk->Exit->Act->World->Prop
 |own,.normal,a,w=>wpR P main sh y Q own a w
 |own,e,a,w=>Q own e a w
def wpR_seq(h:wpR P main sh x (thenR P main sh y Q) own a w):wpR P main sh (.seq x y) Q own a w:=by
 intro b k cs Stop hk hc;refine Run.quiet rfl (λ_=>Xc) (h b (.code y::k) cs Stop hk λown' e a' w' q=>?_);cases e with
 |normal=>exact q b k cs Stop hk hc
 |exit id=>exact(hc _ _ _ _ q).push rfl (by simp)
 |ret=>exact(hc _ _ _ _ q).push (it:=.code y) rfl (by simp)
 |goto l=>exact hc _ _ _ _ q
 |panic ch=>exact hc _ _ _ _ q
 |outgrown=>exact hc _ _ _ _ q
def wpR_cond{o:Operand}{t:Bool}(hc:a.eval o=.bool t)(h:wpR P main sh (if t then x else y) Q own a w):wpR P main sh (.cond o x y) Q own a w:=
 λb k cs Stop hk hq=>Run.quiet rfl (λ_=>Uh hc) (h b k cs Stop hk hq)
def inBlockR(id:Nat)(Q:Bk->Exit->Act->World->Prop):Bk->Exit->Act->World->Prop
 |own,.exit i,a,w=>if i=id then Q own .normal a w else Q own (.exit i) a w
 |own,e,a,w=>Q own e a w
def wpR_block{id:Nat}(h:wpR P main sh c (inBlockR id Q) own a w):wpR P main sh (.block id c) Q own a w:=by
 intro b k cs Stop hk hc;refine Run.quiet rfl (λ_=>Z3) (h b (.inBlock id::k) cs Stop hk λown' e a' w' q=>?_);cases e with
 |normal=>exact Run.quiet rfl (λ_=>ZQ) (hc _ _ _ _ q)
 |exit i=>
  by_cases hid:i=id
  ·simp only[inBlockR,hid,if_true] at q;exact .inl ⟨k,by simp[exitTo,hid],hc _ _ _ _ q⟩
  ·simp only[inBlockR,hid,if_false] at q;have:(id == i)=false:=by simp;exact λh=>hid h.symm
   rcases hc _ _ _ _ q with ⟨k',hk',hg⟩|⟨h1,h2,h3⟩
   ·exact .inl ⟨k',by simp[exitTo,this,hk'],hg⟩
   ·exact .inr ⟨h1,by simp[exitTo,this,h2],h3⟩
 |ret=>exact hc _ _ _ _ q
 |goto l=>exact hc _ _ _ _ q
 |panic ch=>exact hc _ _ _ _ q
 |outgrown=>exact hc _ _ _ _ q
def wpR_scope(h:wpR P main sh c Q own a w):wpR P main sh (.scope c) Q own a w:=by
 intro b k cs Stop hk hc;refine Run.quiet rfl (λ_=>sg_scope) (h b (.inScope c::k) cs Stop hk λown' e a' w' q=>?_);cases e with
 |normal=>exact Run.quiet rfl (λ_=>sg_inScope) (hc _ _ _ _ q)
 |exit i=>
  rcases hc _ _ _ _ q with ⟨k',hk',hg⟩|⟨h1,h2,h3⟩
  ·exact .inl ⟨k',by simpa [exitTo] using hk',hg⟩
  ·exact .inr ⟨h1,by simpa [exitTo] using h2,h3⟩
 |ret=>exact hc _ _ _ _ q
 |goto l=>exact hc _ _ _ _ q
 |panic ch=>exact hc _ _ _ _ q
 |outgrown=>exact hc _ _ _ _ q
def wpR_loop{σ:Type}(I:σ->Bk->Act->World->Prop)(μ:σ->Nat)(s0:σ)(h0:I s0 own a w)
  (round:∀s own a w,I s own a w->wpR P main sh c (λown' e a' w'=>match e with|.normal=>∃s',μ s'<μ s/\I s' own' a' w'|e=>Q own' e a' w') own a w):wpR P main sh (.loop c) Q own a w:=by
 intro b k cs Stop hk hc
 have key:∀(N:Nat) (s:σ) own a w,μ s<N->I s own a w->Run P main sh Stop own (G (b.atR a (.code c::.inLoop c::k)) cs) w:=by
  intro N;induction N with
  |zero=>intro s own a w h;omega
  |succ N ih=>
   intro s own a w hμ hI;refine round s own a w hI b (.inLoop c::k) cs Stop hk λown' e a' w' q=>?_;cases e with
   |normal=>
    obtain⟨s',h1,h2⟩:=q;exact Run.quiet rfl (λ_=>KQ) (ih s' own' a' w' qo h2)
   |exit id=>exact(hc _ _ _ _ q).push rfl (by simp)
   |ret=>exact(hc _ _ _ _ q).push (it:=.inLoop c) rfl (by simp)
   |goto l=>exact hc _ _ _ _ q
   |panic ch=>exact hc _ _ _ _ q
   |outgrown=>exact hc _ _ _ _ q
 exact Run.quiet rfl (λ_=>Gk) (key (μ s0+1) s0 own a w qo h0)
def wpR_region{id:Nat}{ops:Array Oper}(h:K6 P main sh ops (List.range ops.size) Q own a w):wpR P main sh (.region id ops false) Q own a w:=
 λb k cs Stop hk hc=>Run.quiet rfl (λ_=>Yu) (h b k cs Stop hk hc)
def UP{ops:Array Oper}(h:Q own .normal a w):K6 P main sh ops [] Q own a w:=λ_ _ _ _ _ hc=>Run.quiet rfl (λ_=>Jr) (hc _ _ _ _ h)
def Zw{ops:Array Oper}{i:Nat}{rest:List Nat}{o:Oper}(ho:ops[i]?=some o)(hw:Region.wanted o (yielded ops a.tmps)=false)(h:K6 P main sh ops rest Q own (a.put o.dst undef) w):K6 P main sh ops (i::rest) Q own a w:=
 λb k cs Stop hk hc=>Run.quiet rfl (λ_=>sg_unwanted ho hw) (h b k cs Stop hk hc)
def Vm{id:Nat}{ops:Array Oper}(hm:P.follows .mixedOrders=true)(h:∀w1,Rly own sh w w1->∀t,K6 P main sh ops (Region.linearise .any ops t) Q own a {w1 with drawn:=w1.drawn+1}):wpR P main sh (.region id ops true) Q own a w:=
 λb k cs Stop hk hc=>Run.go rfl λw1 hr=>⟨_,_,_,sg_draw,Xr.drawn _ _ _ _,by
  rw[show grow own w1 {w1 with drawn:=w1.drawn+1}=own from Ql (Nat.le_refl _)];have:=h w1 hr (w1.tape w1.drawn (.order b.fn id)) b k cs Stop hk hc;simp only[Region.schedule,hm,Bool.true_or,if_true];exact this⟩
end
def Zj(P:Program)(main:Md)(sh:Bk)(c:Code)(Q:Bk->Exit->Act->World->Prop)(own:Bk)(a:Act)(w:World):Prop:=
 ∀b k cs Stop,b.roundOf=none->b.kind≠.early->(∀own' e a' w',Q own' e a' w'->After P main sh Stop own' b k cs e a' w')->Run P main sh Stop own (G (b.atR a (.code c::k)) cs) w
section
variable {P:Program}{main:Md}{sh:Bk}{Q Q':Bk->Exit->Act->World->Prop}{own:Bk}{a:Act}{w w1:World}{x y c:Code}
def Gh(h:wpR P main sh c Q own a w):Zj P main sh c Q own a w:=λb k cs Stop _ hk hc=>h b k cs Stop hk hc
def XL(h:Zj P main sh c Q own a w)(hq:∀own' e a w,Q own' e a w->Q' own' e a w):Zj P main sh c Q' own a w:=
 λb k cs Stop hb hk hc=>h b k cs Stop hb hk λown' e a' w' q=>hc own' e a' w' (hq _ _ _ _ q)
def thenR0(P:Program)(main:Md)(sh:Bk)(y:Code)(Q:Bk->Exit->Act->World->Prop):Bk->Exit->Act->World->Prop
 |own,.normal,a,w=>Zj P main sh y Q own a w
 |own,e,a,w=>Q own e a w
def wpR0_seq(h:Zj P main sh x (thenR0 P main sh y Q) own a w):Zj P main sh (.seq x y) Q own a w:=by
 intro b k cs Stop hb hk hc;refine Run.quiet rfl (λ_=>Xc) (h b (.code y::k) cs Stop hb hk λown' e a' w' q=>?_);cases e with
 |normal=>exact q b k cs Stop hb hk hc
 |exit id=>exact(hc _ _ _ _ q).push rfl (by simp)
 |ret=>exact(hc _ _ _ _ q).push (it:=.code y) rfl (by simp)
 |goto l=>exact hc _ _ _ _ q
 |panic ch=>exact hc _ _ _ _ q
 |outgrown=>exact hc _ _ _ _ q
def wpR0_cond{o:Operand}{t:Bool}(hc:a.eval o=.bool t)(h:Zj P main sh (if t then x else y) Q own a w):Zj P main sh (.cond o x y) Q own a w:=
 λb k cs Stop hb hk hq=>Run.quiet rfl (λ_=>Uh hc) (h b k cs Stop hb hk hq)
def wpR0_block{id:Nat}(h:Zj P main sh c (inBlockR id Q) own a w):Zj P main sh (.block id c) Q own a w:=by
 intro b k cs Stop hb hk hc;refine Run.quiet rfl (λ_=>Z3) (h b (.inBlock id::k) cs Stop hb hk λown' e a' w' q=>?_);cases e with
 |normal=>exact Run.quiet rfl (λ_=>ZQ) (hc _ _ _ _ q)
 |exit i=>
  by_cases hid:i=id
  ·simp only[inBlockR,hid,if_true] at q;exact .inl ⟨k,by simp[exitTo,hid],hc _ _ _ _ q⟩
  ·simp only[inBlockR,hid,if_false] at q;have:(id == i)=false:=by simp;exact λh=>hid h.symm
   rcases hc _ _ _ _ q with ⟨k',hk',hg⟩|⟨h1,h2,h3⟩
   ·exact .inl ⟨k',by simp[exitTo,this,hk'],hg⟩
   ·exact .inr ⟨h1,by simp[exitTo,this,h2],h3⟩
 |ret=>exact hc _ _ _ _ q
 |goto l=>exact hc _ _ _ _ q
 |panic ch=>exact hc _ _ _ _ q
 |outgrown=>exact hc _ _ _ _ q
def wpR0_loop{σ:Type}(I:σ->Bk->Act->World->Prop)(μ:σ->Nat)(s0:σ)(h0:I s0 own a w)
  (round:∀s own a w,I s own a w->Zj P main sh c (λown' e a' w'=>match e with|.normal=>∃s',μ s'<μ s/\I s' own' a' w'|e=>Q own' e a' w') own a w):Zj P main sh (.loop c) Q own a w:=by
 intro b k cs Stop hb hk hc
 have key:∀(N:Nat) (s:σ) own a w,μ s<N->I s own a w->Run P main sh Stop own (G (b.atR a (.code c::.inLoop c::k)) cs) w:=by
  intro N;induction N with
  |zero=>intro s own a w h;omega
  |succ N ih=>
   intro s own a w hμ hI;refine round s own a w hI b (.inLoop c::k) cs Stop hb hk λown' e a' w' q=>?_;cases e with
   |normal=>
    obtain⟨s',h1,h2⟩:=q;exact Run.quiet rfl (λ_=>KQ) (ih s' own' a' w' qo h2)
   |exit id=>exact(hc _ _ _ _ q).push rfl (by simp)
   |ret=>exact(hc _ _ _ _ q).push (it:=.inLoop c) rfl (by simp)
   |goto l=>exact hc _ _ _ _ q
   |panic ch=>exact hc _ _ _ _ q
   |outgrown=>exact hc _ _ _ _ q
 exact Run.quiet rfl (λ_=>Gk) (key (μ s0+1) s0 own a w qo h0)
end
end W
end
section
open Go.RowKit
namespace W
abbrev Env:=List (Nat×Value)
def look:Env->Nat->Option Value
 |[],_=>none
 |(k,v)::r,i=>bif Nat.beq k i then some v else look r i
def ev(e:Env):Operand->Option Value
 |.tmp t=>look e t
 |.const v=>some v
 |.global g=>some (.pointer (some ⟨g,0,none⟩))
 |.func f=>some (.func (.func f) #[] #[])
structure Kn(ds:List Deferred)(n:Nat)(a:Act)(e:Env):Prop where
 size:a.tmps.size=n
 defers:a.defers=ds
 at':∀k v,look e k=some v->a.tmps[k]?=some v
def Yy(k:Nat)(v:Value)(r:Env)(i:Nat):look ((k,v)::r) i=if k=i then some v else look r i:=by
 show(bif Nat.beq k i then some v else look r i)=_;by_cases h:k=i
 ·subst h;simp[Nat.beq_refl]
 ·have:Nat.beq k i=false:=by
   cases hb:Nat.beq k i
   ·rfl
   ·exact absurd (Nat.eq_of_beq_eq_true hb) h
  simp[this,h]
def Kn.eval{ds:List Deferred}{n:Nat}{a:Act}{e:Env}(h:Kn ds n a e){x:Operand}{v:Value}(hx:ev e x=some v):a.eval x=v:=by
 cases x with
 |tmp t=>simp only[ev] at hx;have:=h.at' _ _ hx;simp[Act.eval,Array.getD_eq_getD_getElem?,this]
 |const u=>simpa [ev,Act.eval] using hx
 |global g=>simpa [ev,Act.eval] using hx
 |func f=>simpa [ev,Act.eval] using hx
def Kn.put{ds:List Deferred}{n:Nat}{a:Act}{e:Env}(h:Kn ds n a e){d:Nat}(hd:Nat.blt d n=true)(v:Value):Kn ds n (a.put (some d) v) ((d,v)::e):=by
 have hd':d<n:=by simpa [Nat.blt_eq] using hd
 refine⟨by simp[Act.put,h.size],by simp[Act.put,h.defers],λk u hk=>?_⟩;rw[Yy] at hk;simp only[Act.put];by_cases hkd:d=k
 ·subst hkd;simp at hk;subst hk;rw[Array.getElem?_setIfInBounds];simp[h.size,hd']
 ·rw[if_neg hkd] at hk;rw[Array.getElem?_setIfInBounds,if_neg hkd];exact h.at' _ _ hk
def Kn.U2{ds:List Deferred}{n:Nat}{a:Act}{e:Env}(h:Kn ds n a e)(v:Value):Kn ds n (a.put none v) e:=by simpa [Act.put] using h
def Sub(e e':Env):Prop:=∀k v,look e k=some v->look e' k=some v
def Sub.nil(e:Env):Sub [] e:=λk v h=>by simp[look] at h
def Sub.cons{k:Nat}{v:Value}{e e':Env}(h:look e' k=some v)(hs:Sub e e'):Sub ((k,v)::e) e':=λi u hi=>by
 rw[Yy] at hi;by_cases hk:k=i
 ·subst hk;simp at hi;subst hi;exact h
 ·rw[if_neg hk] at hi;exact hs _ _ hi
def Kn.sub{ds:List Deferred}{n:Nat}{a:Act}{e e':Env}(h:Kn ds n a e)(hs:Sub e' e):Kn ds n a e':=⟨h.size,h.defers,λk v hk=>h.at' _ _ (hs _ _ hk)⟩
structure PH where
 md:Md
 look:Nat->Option Obj
instance:CoeFun PH λ_=>Nat->Option Obj:=⟨PH.look⟩
structure PH.le(h h':PH):Prop where
 md:h'.md=h.md
 look:∀k o,h k=some o->h' k=some o
instance {h h':PH}:CoeFun (h.le h') λ_=>∀k o,h k=some o->h' k=some o:=⟨PH.le.look⟩
def PH.le.refl(h:PH):h.le h:=⟨rfl,λ_ _ x=>x⟩
def PH.le.trans{a b c:PH}(h:a.le b)(k:b.le c):a.le c:=⟨k.md.trans h.md,λ_ _ x=>k _ _ (h _ _ x)⟩
structure Fct where
 p:PH->Prop
 mono:∀h h',PH.le h h'->p h->p h'
inductive Ow where
 |cells (g:Nat) (t:TypeId) (cs:List Value)
 |slice (v:Value) (e:TypeId) (sz:Nat) (cs:List Value)
 |obj (g:Nat) (o:Obj)
def Ow.ids:Ow->List Nat
 |.cells g _ _=>[g]
 |.slice (.slice (some a) _ _) _ _ _=>[a.block]
 |.slice _ _ _ _=>[]
 |.obj g _=>[g]
def Ow.holds(H:Array Obj):Ow->Prop
 |.cells g t cs=>H[g]?=some (.cells cs.toArray t (0,0))
 |.slice v e sz cs=>∃n,cs.length=n*sz/\((v=.slice none 0 0/\n=0)\/
   ∃g cap sp,v=.slice (some ⟨g,0,none⟩) n cap/\n<=cap/\cap<=maxLen/\H[g]?=some (.cells (cs++sp).toArray e (0,0))/\(cs++sp).length=cap*sz)
 |.obj g o=>H[g]?=some o
def ids(bx:List Ow):List Nat:=bx.flatMap Ow.ids
structure CF where
 main:Md
 sh:Bk
 own:Bk
 fr:Nat->Option Obj
 ds:List Deferred:=[]
def CF.grow(c:CF)(w w':World):CF:={c with own:=W.grow c.own w w'}
structure CF.le(c c':CF):Prop where
 main:c'.main=c.main
 sh:c'.sh=c.sh
 fr:c'.fr=c.fr
 ds:c'.ds=c.ds
 own:∀k,c.own k->c'.own k
def CF.no(c:CF):Bk:=c.main.no
def CF.le.refl(c:CF):c.le c:=⟨rfl,rfl,rfl,rfl,λ_ h=>h⟩
def CF.le.trans{a b c:CF}(h:a.le b)(k:b.le c):a.le c:=⟨k.main.trans h.main,k.sh.trans h.sh,k.fr.trans h.fr,k.ds.trans h.ds,λi hi=>k.own i (h.own i hi)⟩
def CF.le.kn{c c':CF}(h:c.le c'){n:Nat}{a:Act}{e:Env}(hk:Kn c.ds n a e):Kn c'.ds n a e:=by rw[h.ds];exact hk
def CF.le.nk{c c':CF}(h:c.le c'){n:Nat}{a:Act}{e:Env}(hk:Kn c'.ds n a e):Kn c.ds n a e:=by rw[<-h.ds];exact hk
def CF.HN(c:CF)(w w':World):c.le (c.grow w w'):=⟨rfl,rfl,rfl,rfl,λ_ h=>.inl h⟩
def CF.Ql(c:CF){w w':World}(h:w'.heap.size<=w.heap.size):c.grow w w'=c:=by unfold CF.grow;rw[W.Ql h]
def CF.vs(c:CF):Bk:=λk=>c.sh k/\¬c.main.no k
def CF.vs_w{c:CF}{k:Nat}(h:c.own k\/c.vs k):c.own k\/c.sh k:=h.imp id And.left
open Classical in
noncomputable def CF.see(c:CF)(H:Array Obj)(k:Nat):Option Obj:=if c.own k\/c.vs k then H[k]? else none
def CF.see_some{c:CF}{H:Array Obj}{k:Nat}{o:Obj}(h:c.see H k=some o):(c.own k\/c.vs k)/\H[k]?=some o:=by
 unfold CF.see at h;split at h
 ·exact⟨by assumption,h⟩
 ·cases h
def CF.XV{c:CF}{H:Array Obj}{k:Nat}(h:c.own k\/c.vs k):c.see H k=H[k]?:=by unfold CF.see;rw[if_pos h]
noncomputable def imm(fr:CF)(bx:List Ow)(H:Array Obj):PH:=⟨fr.main,λk=>if(fr.fr k).isSome ||(ids bx).contains k then none else fr.see H k⟩
def Jg{fr:CF}{bx:List Ow}{H:Array Obj}{k:Nat}{o:Obj}(h:imm fr bx H k=some o):H[k]?=some o:=by
 simp only[imm] at h;split at h
 ·cases h
 ·exact(CF.see_some h).2
def Xs{fr:CF}{bx:List Ow}{H:Array Obj}{k:Nat}{o:Obj}(h:imm fr bx H k=some o):fr.own k\/fr.vs k:=by
 simp only[imm] at h;split at h
 ·cases h
 ·exact(CF.see_some h).1
structure OK(fr:CF)(bx:List Ow)(F:List Fct)(w:World):Prop where
 frame:(∀k o,fr.fr k=some o->fr.own k/\w.heap[k]?=some o)/\(∀k,fr.own k\/fr.sh k->k<w.heap.size)/\∀k,fr.no k->k<w.heap.size/\¬fr.own k
 apart:∀k∈ids bx,fr.own k/\fr.fr k=none
 nodup:(ids bx).Nodup
 owns:∀b∈bx,b.holds w.heap
 facts:∀f∈F,f.p (imm fr bx w.heap)
def OK.drawn{fr:CF}{bx:List Ow}{F:List Fct}{w:World}(h:OK fr bx F w)(n:Nat):OK fr bx F {w with drawn:=n}:=⟨h.frame,h.apart,h.nodup,h.owns,h.facts⟩
def OK.less{fr:CF}{bx:List Ow}{F F':List Fct}{w:World}(h:OK fr bx F w)(hs:∀f∈F',f∈F):OK fr bx F' w:=⟨h.frame,h.apart,h.nodup,h.owns,λf hf=>h.facts f (hs f hf)⟩
def OK.add{fr:CF}{bx:List Ow}{F:List Fct}{w:World}(h:OK fr bx F w){f:Fct}(hf:f.p (imm fr bx w.heap)):OK fr bx (f::F) w:=⟨h.frame,h.apart,h.nodup,h.owns,λg hg=>by
 rcases List.mem_cons.1 hg with rfl|hg
 ·exact hf
 ·exact h.facts g hg⟩
def Jd{bx:List Ow}{k:Nat}:k∈ids bx↔∃b∈bx,k∈b.ids:=by simp[ids]
def YF{bx bx':List Ow}(h:bx'.Sublist bx):(ids bx').Sublist (ids bx):=by
 induction h with
 |slnil=>exact .slnil
 |cons a _ ih=>exact ih.trans (by simp[ids])
 |cons_cons a _ ih=>simpa [ids] using ih
def HC{fr:CF}{bx bx':List Ow}{H:Array Obj}(hs:∀k,k∈ids bx'->k∈ids bx):(imm fr bx H).le (imm fr bx' H):=.mk rfl λk o ho=>by
 simp only[imm] at *;split at ho
 ·cases ho
 ·rename_i hc
  rw[if_neg]
  ·exact ho
  ·simp only[Bool.or_eq_true,List.contains_iff_mem] at hc ⊢;exact λh'=>hc (h'.imp id (hs k))
def OK.drop{fr:CF}{bx bx':List Ow}{F:List Fct}{w:World}(h:OK fr bx F w)(hs:bx'.Sublist bx):OK fr bx' F w:=
 ⟨h.frame,λk hk=>h.apart k ((YF hs).subset hk),h.nodup.sublist (YF hs),λb hb=>h.owns b (hs.subset hb),λf hf=>f.mono _ _ (HC λk hk=>(YF hs).subset hk) (h.facts f hf)⟩
def OK.perm{fr:CF}{bx bx':List Ow}{F:List Fct}{w:World}(h:OK fr bx F w)(hp:bx.Perm bx'):OK fr bx' F w:=by
 have hi:(ids bx).Perm (ids bx'):=hp.flatMap_right _;exact⟨h.frame,λk hk=>h.apart k (hi.mem_iff.2 hk),hi.nodup_iff.1 h.nodup,λb hb=>h.owns b (hp.mem_iff.2 hb),λf hf=>f.mono _ _ (HC λk hk=>hi.mem_iff.2 hk) (h.facts f hf)⟩
def Ow.JK{H H':Array Obj}{b:Ow}(h:b.holds H)(hk:∀k∈b.ids,H'[k]?=H[k]?):b.holds H':=by
 cases b with
 |cells g t cs=>simp only[Ow.holds,Ow.ids,List.mem_singleton,forall_eq] at *;rw[hk];exact h
 |obj g o=>simp only[Ow.holds,Ow.ids,List.mem_singleton,forall_eq] at *;rw[hk];exact h
 |slice v e sz cs=>
  obtain⟨n,h1,h2|⟨g,cap,sp,rfl,h3,h4,h5,h6⟩⟩:=h
  ·exact⟨n,h1,.inl h2⟩
  ·exact⟨n,h1,.inr ⟨g,cap,sp,rfl,h3,h4,by rw[hk g (by simp[Ow.ids])];exact h5,h6⟩⟩
def Ow.lt{H:Array Obj}{b:Ow}(h:b.holds H):∀k∈b.ids,k<H.size:=by
 cases b with
 |cells g t cs=>simp only[Ow.holds,Ow.ids,List.mem_singleton,forall_eq] at *;exact(Array.getElem?_eq_some_iff.1 h).1
 |obj g o=>simp only[Ow.holds,Ow.ids,List.mem_singleton,forall_eq] at *;exact(Array.getElem?_eq_some_iff.1 h).1
 |slice v e sz cs=>
  obtain⟨n,h1,⟨rfl,h2⟩|⟨g,cap,sp,rfl,h3,h4,h5,h6⟩⟩:=h
  ·simp[Ow.ids]
  ·simp only[Ow.ids,List.mem_singleton,forall_eq];exact(Array.getElem?_eq_some_iff.1 h5).1
def imm_grow{fr fr':CF}{ob nb bx:List Ow}{F:List Fct}{w w':World}(h:OK fr (ob++bx) F w)(hf:fr.le fr')
  (hk:∀k,k<w.heap.size->fr.own k\/fr.sh k->k∉ids ob->w'.heap[k]?=w.heap[k]?) (hn:∀k∈ids nb,k∈ids ob\/w.heap.size<=k):(imm fr (ob++bx) w.heap).le (imm fr' (nb++bx) w'.heap):=.mk hf.main λk o hio=>by
 have hm:=Xs hio;have hh:=Jg hio;have hkl:k<w.heap.size:=(Array.getElem?_eq_some_iff.1 hh).1;simp only[imm] at *;split at hio
 ·cases hio
 ·rename_i hc
  simp only[Bool.or_eq_true,List.contains_iff_mem,ids,List.flatMap_append,List.mem_append,not_or] at hc;rw[if_neg,CF.XV (hm.imp (hf.own k) (λx=>by unfold CF.vs;rw[hf.sh,hf.main];exact x)),hk k hkl (CF.vs_w hm) hc.2.1]
  ·exact hh
  ·rw[hf.fr];simp only[Bool.or_eq_true,List.contains_iff_mem,ids,List.flatMap_append,List.mem_append,not_or];refine⟨hc.1,λh1=>?_,hc.2.2⟩;rcases hn k h1 with h3|h3
   ·exact hc.2.1 h3
   ·omega
def OK.rely{fr:CF}{bx:List Ow}{F:List Fct}{w w1:World}(h:OK fr bx F w)(hr:Rly fr.own fr.sh w w1):OK fr bx F w1:=by
 have hlt:=h.frame.2.1;refine⟨⟨λk o hf=>⟨(h.frame.1 k o hf).1,?_⟩,λk hk=>Nat.lt_of_lt_of_le (hlt k hk) hr.size,λk hk=>⟨Nat.lt_of_lt_of_le (h.frame.2.2 k hk).1 hr.size,(h.frame.2.2 k hk).2⟩⟩,h.apart,h.nodup,λb hb=>?_,λf hf=>f.mono (imm fr bx w.heap) _ (.mk rfl λk o hio=>?_) (h.facts f hf)⟩
 ·have:=(h.frame.1 k o hf)
  rw[hr.keep k (hlt k (.inl this.1)) (.inl this.1)];exact this.2
 ·refine Ow.JK (h.owns b hb) λk hk=>?_;have:=(h.apart k (Jd.2 ⟨b,hb,hk⟩)).1;exact hr.keep k (hlt k (.inl this)) (.inl this)
 ·have hm:=Xs hio;simp only[imm] at *;split at hio
  ·cases hio
  ·rename_i hc
   rw[if_neg hc,CF.XV hm,hr.keep k (hlt k (CF.vs_w hm)) (CF.vs_w hm),<-CF.XV (c:=fr) hm];exact hio
def OK.step{fr:CF}{ob nb bx:List Ow}{F:List Fct}{w w':World}(h:OK fr (ob++bx) F w)(hs:w.heap.size<=w'.heap.size)
  (hk:∀k,k<w.heap.size->k∉ids ob->w'.heap[k]?=w.heap[k]?) (hn:∀k∈ids nb,k∈ids ob\/w.heap.size<=k) (hd:(ids nb).Nodup) (ho:∀b∈nb,b.holds w'.heap):OK (fr.grow w w') (nb++bx) F w':=by
 have hlt:∀b∈ob++bx,∀k∈b.ids,k<w.heap.size:=λb hb=>Ow.lt (h.owns b hb);have hfl:∀k o,fr.fr k=some o->k<w.heap.size:=λk o hf=>(Array.getElem?_eq_some_iff.1 (h.frame.1 k o hf).2).1;have hap:=h.apart;have hnd:=h.nodup;simp only[ids,List.flatMap_append] at hap hnd;have hnot:∀k,k∈ids ob->k∉ids bx:=λk h1 h2=>(List.nodup_append.1 hnd).2.2 k h1 k h2 rfl;have hbxlt:∀k∈ids bx,k<w.heap.size:=λk hk=>by obtain⟨b,hb,hkb⟩:=Jd.1 hk;exact hlt b (by simp[hb]) k hkb
 refine⟨⟨λk o hf=>?_,λk hk'=>?_,λk hk'=>⟨Nat.lt_of_lt_of_le (h.frame.2.2 k hk').1 hs,λho'=>ho'.elim (h.frame.2.2 k hk').2 λhx=>by have:=(h.frame.2.2 k hk').1;omega⟩⟩,λk hk'=>?_,?_,λb hb=>?_,λf hf=>f.mono _ _ (imm_grow h (CF.HN _ _ _) (λk h1 _ h2=>hk k h1 h2) hn) (h.facts f hf)⟩
 ·have h1:=h.frame.1 k o hf;exact⟨.inl h1.1,by rw[hk k (hfl k o hf) (λhin=>by have:=(hap k (List.mem_append.2 (.inl hin))).2;rw[show fr.fr k=some o from hf] at this;cases this)];exact h1.2⟩
 ·rcases hk' with (h1|h1)|h1
  ·exact Nat.lt_of_lt_of_le (h.frame.2.1 k (.inl h1)) hs
  ·exact h1.2
  ·exact Nat.lt_of_lt_of_le (h.frame.2.1 k (.inr h1)) hs
 ·simp only[ids,List.flatMap_append,List.mem_append] at hk';rcases hk' with hk'|hk'
  ·rcases hn k hk' with h1|h1
   ·have:=hap k (List.mem_append.2 (.inl h1));exact⟨.inl this.1,this.2⟩
   ·obtain⟨b,hb,hkb⟩:=Jd.1 hk';refine⟨.inr ⟨h1,Ow.lt (ho b hb) k hkb⟩,?_⟩;cases hfk:fr.fr k with
    |none=>exact hfk
    |some o=>have:=hfl k o hfk;omega
  ·have:=hap k (List.mem_append.2 (.inr hk'));exact⟨.inl this.1,this.2⟩
 ·simp only[ids,List.flatMap_append];refine List.nodup_append.2 ⟨hd,(List.nodup_append.1 hnd).2.1,?_⟩;intro k h1 k' h2 he;subst he;rcases hn k h1 with h3|h3
  ·exact hnot k h3 h2
  ·have:=hbxlt k h2;omega
 ·rcases List.mem_append.1 hb with hb|hb
  ·exact ho b hb
  ·refine Ow.JK (h.owns b (by simp[hb])) λk hkb=>hk k (hlt b (by simp[hb]) k hkb) λhin=>hnot k hin (Jd.2 ⟨b,hb,hkb⟩)
end W
end
end Go.Proofs.YtbnobghgnbockaaGreat
