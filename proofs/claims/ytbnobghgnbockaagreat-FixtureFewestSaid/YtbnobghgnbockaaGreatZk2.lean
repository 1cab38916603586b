/- Lemmas. Conditions: none. -/
import Derived.Test.YtbnobghgnbockaaGreatZk1
set_option linter.all false
set_option maxHeartbeats 0
set_option maxRecDepth 100000
namespace Go.Proofs.YtbnobghgnbockaaGreat
section
open Go.RowKit
open Go.Conc (G base listed enter_at)
namespace W
variable {P:nh}
structure Unm(own sh:Bk)(Ds:List Nat)(w w1:nm):Prop where
 rest:Rest w w1
 size:w.heap.size<=w1.heap.size
 keep:∀k,k<w.heap.size->own k\/sh k->k∉Ds->w1.heap[k]?=w.heap[k]?
def Unm.rly{own sh:Bk}{w w1:nm}(h:Unm own sh [] w w1):Rly own sh w w1:=⟨h.rest,h.size,λk h1 h2=>h.keep k h1 h2 (by simp)⟩
def bodyR(P:nh)(sh:Bk)(fn:Func)(K:Bk->nA->nm->Prop):Bk->Exit->Act->nm->Prop
 |own,.normal,a,w|own,.ret,a,w=>∃Ds:List Nat,a.defers=Ds.map mkD/\Ds.Nodup/\(∀D∈Ds,own D/\w.heap[D]?=some (.deferred (some [])))/\
   ∃v,∀w1,Unm own sh Ds w w1->(results fn a.tmps).run P w1=.ok v w1/\(∀ev∈(results fn a.tmps).events P w1 #[],Yk own sh ev)/\K own v w1
 |_,_,_,_=>False
def ZJ(P:nh)(main:Md)(sh:Bk)(f:np)(args:Array nA)(own:Bk)(w:nm)(K:Bk->nA->nm->Prop):Prop:=
 ∃fn c,P.funcs[f]?=some fn/\(fn.name == "runtime.NumGoroutine")=false/\fn.body=some c/\
  Kb P main sh c (bodyR P sh fn K) own {tmps:=args++Array.replicate (fn.ntmps-args.size) undef,defers:=[]} w
def KW(P:nh)(main:Md)(sh:Bk)(l:Nat)(f:np)(tmps:Array nA)(x y:Code)(own:Bk)(w:nm)(K:Bk->nA->nm->Prop):Prop:=
 ∀c cs Stop,(∀own' v w',K own' v w'->Run P main sh Stop own' (G (c.finish v) cs) w')->Run P main sh Stop own (G (Frame.round l f tmps x y .normal) (c::cs)) w
def UponP(P:nh)(main:Md)(sh:Bk)(o:Oper)(a:Act)(own:Bk)(w:nm)(K:Bk->Act->nm->Prop):Result Next->Prop
 |.ok (.value v) w'=>X8 own sh w w' ((execOp a.eval o).events P w #[])/\K (grow own w w') (a.put o.dst v) w'
 |.ok .skip w'=>X8 own sh w w' ((execOp a.eval o).events P w #[])/\K (grow own w w') (a.put o.dst undef) w'
 |.ok (.enter f args) w'=>X8 own sh w w' ((execOp a.eval o).events P w #[])/\ZJ P main sh f args (grow own w w') w' λown' v w''=>K own' (a.put o.dst v) w''
 |.ok (.round l f tmps x y) w'=>X8 own sh w w' ((execOp a.eval o).events P w #[])/\KW P main sh l f tmps x y (grow own w w') w' λown' v w''=>K own' (a.put o.dst v) w''
 |_=>False
def Gm(P:nh)(main:Md)(sh:Bk)(o:Oper)(a:Act)(own:Bk)(w:nm)(K:Bk->Act->nm->Prop)(r:Result Next):Prop:=
 UponP P main sh o a own w K r\/(main.inv w->∃w' own',r=.ok .skip w'/\(∀es:Array Event,(∀e∈es,e∈(execOp a.eval o).events P w #[])->main.ok sh own w w' es own')/\K own' (a.put o.dst undef) w')
def JL{fn:np}{es:Array Event}{e:Event}(h:e∈seen P fn es):e∈es:=Go.Conc.mem_seen h
def X8.less{own sh:Bk}{w w':nm}{es es':Array Event}(h:X8 own sh w w' es)(hs:∀e∈es',e∈es):X8 own sh w w' es':=⟨h.rest,h.size,h.keep,λe he=>h.evs e (hs e he)⟩
section
variable {main:Md}{sh:Bk}{own:Bk}{w w1:nm}{o:Oper}{a:Act}
def ZJ.mono{f:np}{args:Array nA}{K K':Bk->nA->nm->Prop}(h:ZJ P main sh f args own w K)(hk:∀own v w,K own v w->K' own v w):ZJ P main sh f args own w K':=by
 obtain⟨fn,c,h1,h2,h3,h4⟩:=h;refine⟨fn,c,h1,h2,h3,Yo h4 λown' e a' w' q=>?_⟩;cases e<;>first|exact q|(obtain⟨Ds,q1,q2,q3,v,q4⟩:=q;exact⟨Ds,q1,q2,q3,v,λw1 h=>⟨(q4 w1 h).1,(q4 w1 h).2.1,hk _ _ _ (q4 w1 h).2.2⟩⟩)
def KW.mono{l:Nat}{f:np}{tmps:Array nA}{x y:Code}{K K':Bk->nA->nm->Prop}(h:KW P main sh l f tmps x y own w K)(hk:∀own v w,K own v w->K' own v w):KW P main sh l f tmps x y own w K':=
 λc cs Stop hc=>h c cs Stop λown' v w' q=>hc _ _ _ (hk _ _ _ q)
def Gm.mono{K K':Bk->Act->nm->Prop}(hk:∀own a w,K own a w->K' own a w){r:Result Next}(h:Gm P main sh o a own w K r):Gm P main sh o a own w K' r:=by
 rcases h with h|h
 ·refine .inl ?_;cases r with
  |halt x w'=>exact h
  |ok x w'=>cases x<;>first|exact h|exact⟨h.1,hk _ _ _ h.2⟩|exact⟨h.1,ZJ.mono h.2 λ_ _ _=>hk _ _ _⟩|exact⟨h.1,KW.mono h.2 λ_ _ _=>hk _ _ _⟩
 ·exact .inr λhi=>let ⟨w',own',h1,h2,h3⟩:=h hi;⟨w',own',h1,h2,hk _ _ _ h3⟩
def DN{fn:Func}{b:nu}{todo:List Item}{c:nu}{cs:List nu}{v:nA}(hn:b.kind=.normal)(hd:a.defers=[])(hf:P.funcs[b.fn]?=some fn)
  (hr:(results fn a.tmps).run P w=.ok v w) :
  stepG P main.b (G {b.atR a todo with mode:=.returning} (c::cs)) w=.go (G (c.finish v) cs) w (seen P b.fn ((results fn a.tmps).events P w #[])):=by
 simp[G,stepG,unwind,doReturn,Frame.atR,hn,hd,hf,hr,GStep.after]
def GO{fn:Func}{f:np}(hf:P.funcs[f]?=some fn){Stop:Bk->Goroutine->nm->Prop}{c:nu}{cs:List nu}{tmps:Array nA}{todo:List Item}{v:nA} :
  ∀(Ds:List Nat) (w:nm),Ds.Nodup->(∀D∈Ds,own D/\w.heap[D]?=some (.deferred (some [])))->
   (∀w1,Unm own sh Ds w w1->(results fn tmps).run P w1=.ok v w1/\(∀ev∈(results fn tmps).events P w1 #[],Yk own sh ev)/\Run P main sh Stop own (G (c.finish v) cs) w1)->
   Run P main sh Stop own (G {(base f).atR ⟨tmps,Ds.map mkD⟩ todo with mode:=.returning} (c::cs)) w
 |[],w,_,_,h=>by
  refine Run.go rfl λw2 h2=>?_;obtain⟨h3,h4,h5⟩:=h w2 ⟨h2.rest,h2.size,λk k1 k2 _=>h2.keep k k1 k2⟩;refine⟨_,_,_,DN (b:=base f) rfl rfl hf h3,⟨.refl _,ai _,λ_ _ _=>rfl,λe he=>?_⟩,?_⟩
  ·rw[QW (ai _)];exact h4 e (JL he)
  ·rw[QW (ai _)];exact h5
 |D::Ds,w,hn,hD,h=>by
  refine Run.go rfl λw2 h2=>?_;obtain⟨hn1,hn2⟩:=List.nodup_cons.1 hn;obtain⟨d1,d2⟩:=hD D (an ..);have hlt:∀D'∈D::Ds,D'<w.heap.size:=λD' h'=>(Array.getElem?_eq_some_iff.1 (hD D' h').2).1;have hsame:∀D'∈D::Ds,w2.heap[D']?=some (.deferred (some [])):=λD' h'=>by rw[h2.keep D' (hlt D' h') (.inl (hD D' h').1)];exact(hD D' h').2
  refine⟨_,_,_,HT (hsame D (an ..)),⟨⟨rfl,rfl,rfl⟩,by simp,λk _ hk=>World.putObj_heap_other (λe=>hk (e ▸ d1)),λe he=>?_⟩,?_⟩
  ·have he:=JL he;have hh:=hsame D (an ..);rw[Yg hh] at he;simp at he;rcases he with rfl|rfl<;>exact .inr (.inr ⟨D,rfl,.inl d1⟩)
  ·rw[QW (by simp)];refine GO hf (v:=v) Ds _ hn2 (λD' h'=>⟨(hD D' (au _ h')).1,?_⟩) λw1 h1=>?_
   ·rw[World.putObj_heap_other (λe=>by subst e;exact hn1 h')];exact hsame D' (au _ h')
   ·refine h w1 ⟨h2.rest.trans (Rest.trans (b:=w2.putObj D (.deferred none)) ⟨rfl,rfl,rfl⟩ h1.rest),aL h2.size (by simpa using h1.size),λk k1 k2 k3=>?_⟩;have k4:k∉Ds:=λhx=>k3 (au _ hx);rw[h1.keep k (by simpa using aw k1 h2.size) k2 k4,World.putObj_heap_other (λe=>k3 (by rw[<-e];exact an ..)),h2.keep k k1 k2]
def Hx{f:np}{args:Array nA}{K:Bk->nA->nm->Prop}(h:ZJ P main sh f args own w K){Stop:Bk->Goroutine->nm->Prop}{c:nu}{cs:List nu}
  (hc:∀own' v w',K own' v w'->Run P main sh Stop own' (G (c.finish v) cs) w'):Run P main sh Stop own (G (Frame.enter P f args .normal) (c::cs)) w:=by
 obtain⟨fn,cd,hf,hname,hb,hwp⟩:=h;rw[enter_at _ hf hb,<-Frame.atR_of_none (b:=base f) rfl]
 have hleave:∀(own':Bk) (a':Act) (w':nm) (todo:List Item),bodyR P sh fn K own' .ret a' w'->Run P main sh Stop own' (G {(base f).atR a' todo with mode:=.returning} (c::cs)) w':=by
  rintro own' ⟨tmps,ds⟩ w' todo ⟨Ds,hd,q1,q2,v,q3⟩;simp only at hd;subst hd;exact GO hf Ds w' q1 q2 λw1 h1=>⟨(q3 w1 h1).1,(q3 w1 h1).2.1,hc _ _ _ (q3 w1 h1).2.2⟩
 refine hwp (base f) [] _ Stop rfl (by simp[base]) λown' e a' w' q=>?_;cases e with
 |normal=>exact Run.quiet rfl (λ_=>sg_end rfl) (hleave own' a' w' [] q)
 |ret=>exact⟨λ_ todo=>hleave own' a' w' todo q,λh=>absurd rfl h⟩
 |exit id=>exact q.elim
 |goto l=>exact q.elim
 |panic ch=>exact q.elim
 |outgrown=>exact q.elim
def Kk{Q:Bk->Exit->Act->nm->Prop}{ops:Array Oper}{i:Nat}{rest:List Nat}(ho:ops[i]?=some o)(hw:Region.wanted o (yielded ops a.tmps)=true)
  (h:∀w1,Rly own sh w w1->Gm P main sh o a own w1 (λown' a' w'=>Vr P main sh ops rest Q own' a' w') ((execOp a.eval o).run P w1)):Vr P main sh ops (i::rest) Q own a w:=by
 intro b k cs Stop hk hc;refine Run.goF rfl λw1 h1 hinv=>?_;have h:=h w1 h1;generalize hr:(execOp a.eval o).run P w1=r at h;rcases h with h|h
 case' inr=>
  obtain⟨w',own',rfl,h2,h3⟩:=h hinv;exact⟨_,_,_,own',sg_none ho hw (ZN hr (by simp)) hk hr,.inr (h2 _ λe he=>JL he),h3 b k cs Stop hk hc⟩
 cases r with
 |halt x w'=>exact h.elim
 |ok x w'=>
  cases x with
  |value v=>exact⟨_,_,_,_,H0 ho hw (ZN hr (by simp)) hk hr,.inl ⟨h.1.less λe he=>JL he,rfl⟩,h.2 b k cs Stop hk hc⟩
  |skip=>exact⟨_,_,_,_,sg_none ho hw (ZN hr (by simp)) hk hr,.inl ⟨h.1.less λe he=>JL he,rfl⟩,h.2 b k cs Stop hk hc⟩
  |enter f args=>
   refine⟨_,_,_,_,sg_enter ho hw (ZN hr (by simp)) hk hr,.inl ⟨h.1.less λe he=>JL he,rfl⟩,?_⟩;exact Hx h.2 λown' v w'' q=>by rw[ZH ho];exact q b k cs Stop hk hc
  |round l f tmps x y=>
   refine⟨_,_,_,_,sg_round ho hw (ZN hr (by simp)) hk hr,.inl ⟨h.1.less λe he=>JL he,rfl⟩,?_⟩;exact h.2 _ _ _ λown' v w'' q=>by rw[ZH ho];exact q b k cs Stop hk hc
  |_=>exact h.elim
end
def YO(P:nh)(op:Op)(ty:nl)(e:Env)(bx:nw)(F:nc)(v:nA):Prop:=
 ∀n fr a w (o:Oper),o.op=op->o.type=ty->Kn fr.ds n a e->OK fr bx F w->(execOp a.eval o).run P w=.ok (.value v) w/\∀ev∈(execOp a.eval o).events P w #[],Yk fr.own fr.sh ev
def LO(P:nh)(op:Op)(ty:nl)(e:Env)(bx:nw)(F:nc)(K:nA->nw->nc->Prop):Prop:=
 ∀n fr a w (o:Oper) (K':Bk->Act->nm->Prop),o.op=op->o.type=ty->Kn fr.ds n a e->OK fr bx F w->
  (∀fr' v w' bx' F',fr.le fr'->Rest w w'->OK fr' bx' F' w'->K v bx' F'->K' fr'.own (a.put o.dst v) w')->Gm P fr.main fr.sh o a fr.own w K' ((execOp a.eval o).run P w)
def LO.mono{op:Op}{ty:nl}{e:Env}{bx:nw}{F:nc}{K K':nA->nw->nc->Prop}(h:LO P op ty e bx F K)(hk:∀v b f,K v b f->K' v b f):LO P op ty e bx F K':=
 λn fr a w o K1 h1 h2 h3 h4 h5=>h n fr a w o K1 h1 h2 h3 h4 λfr' v w' bx' F' hf r ok k=>h5 fr' v w' bx' F' hf r ok (hk _ _ _ k)
def X8.look{own sh:Bk}{w:nm}{es:Array Event}(h:∀ev∈es,Yk own sh ev):X8 own sh w w es:=⟨.refl _,ai _,λ_ _ _=>rfl,λe he=>by rw[QW (ai _)];exact h e he⟩
def gd(L:List Oper)(e:Env)(j:Nat):Option nA:=
 match L[j]? with
 |some o=>match o.dst with
  |some d=>look e d
  |none=>none
 |none=>none
def gok(L:List Oper)(e:Env):Option (Nat×Bool)->Option Bool
 |none=>some true
 |some (j,want)=>match gd L e j with
  |some (.bool b)=>some (b == want)
  |some (.tuple _)=>some false
  |_=>none
def Ja{L:List Oper}{e:Env}{ds:List Deferred}{n:Nat}{a:Act}{o:Oper}{b:Bool}(hk:Kn ds n a e)(h:gok L e o.guard=some b):Region.wanted o (yielded L.toArray a.tmps)=b:=by
 unfold Region.wanted;cases hg:o.guard with
 |none=>rw[hg] at h;simpa [gok] using h
 |some jw=>
  obtain⟨j,want⟩:=jw;rw[hg] at h;simp only[gok,gd] at h;cases hL:L[j]? with
  |none=>simp[hL] at h
  |some oj=>
   simp only[hL] at h;cases hd:oj.dst with
   |none=>simp[hd] at h
   |some d=>
    simp only[hd] at h;cases hl:look e d with
    |none=>simp[hl] at h
    |some v=>
     simp only[hl] at h;have:=hk.at' _ _ hl;cases v<;>simp at h
     ·simp[yielded,hL,hd,this,<-h]
     ·simp[yielded,hL,hd,this,<-h]
def WL(P:nh)(n:Nat)(L rest:List Oper)(e:Env)(bx:nw)(F:nc)(Q:Env->nw->nc->Prop):Prop:=
 ∀fr w0 a w (Q':Bk->Exit->Act->nm->Prop),(∀fr' a' w' e' bx' F',fr.le fr'->Kn fr'.ds n a' e'->Rest w0 w'->OK fr' bx' F' w'->Q e' bx' F'->Q' fr'.own .normal a' w')->
  Kn fr.ds n a e->Rest w0 w->OK fr bx F w->∀i,L.drop i=rest->Vr P fr.main fr.sh L.toArray ((List.range L.length).drop i) Q' fr.own a w
def drop_cons{L rest:List Oper}{o:Oper}{i:Nat}(h:L.drop i=o::rest):L.toArray[i]?=some o/\L.drop (i+1)=rest/\(List.range L.length).drop i=i::(List.range L.length).drop (i+1):=by
 have h1:L[i]?=some o:=by
  have:=congrArg (λl=>l[0]?) h;simpa using this
 have hi:i<L.length:=(List.getElem?_eq_some_iff.1 h1).1;refine⟨by simpa using h1,?_,?_⟩
 ·have:=congrArg List.tail h;simpa [List.tail_drop] using this
 ·rw[dE (by simpa using hi)];simp
section
variable {n:Nat}{L rest:List Oper}{e:Env}{bx:nw}{F:nc}{Q:Env->nw->nc->Prop}
 {d:Nat} {op:Op} {ty:nl} {pos:String} {af:Array Edge} {g:Option (Nat×Bool)} {v:nA}
def WL.nil(h:Q e bx F):WL P n L [] e bx F Q:=λfr w0 a w Q' hQ hk hr ho i hi=>by
 have:(List.range L.length).drop i=[]:=by
  rw[List.drop_eq_nil_iff] at hi ⊢;simpa using hi
 rw[this];exact HK (hQ fr _ _ _ _ _ (.refl _) hk hr ho h)
def WL.y(hy:YO P op ty e bx F v)(hd:Nat.blt d n=true)(hg:gok L e g=some true)(h:WL P n L rest ((d,v)::e) bx F Q) :
  WL P n L (⟨some d,op,ty,pos,af,g⟩::rest) e bx F Q:=λfr w0 a w Q' hQ hk hr ho i hi=>by
 obtain⟨h1,h2,h3⟩:=drop_cons hi;rw[h3];refine Kk h1 (Ja hk hg) λw1 hw=>?_;have ho1:=ho.rely hw;have hv:=hy n fr a w1 ⟨some d,op,ty,pos,af,g⟩ rfl rfl hk ho1;rw[hv.1];refine .inl ⟨.look hv.2,?_⟩;rw[QW (ai _)];exact h fr w0 _ w1 Q' hQ (hk.put hd v) (hr.trans hw.rest) ho1 (i+1) h2
def WL.skip(hd:Nat.blt d n=true)(hg:gok L e g=some false)(h:WL P n L rest ((d,undef)::e) bx F Q) :
  WL P n L (⟨some d,op,ty,pos,af,g⟩::rest) e bx F Q:=λfr w0 a w Q' hQ hk hr ho i hi=>by
 obtain⟨h1,h2,h3⟩:=drop_cons hi;rw[h3];exact Km h1 (Ja hk hg) (h fr w0 _ w Q' hQ (hk.put hd _) hr ho (i+1) h2)
def WL.l(hd:Nat.blt d n=true)(hg:gok L e g=some true)(hl:LO P op ty e bx F λv bx' F'=>WL P n L rest ((d,v)::e) bx' F' Q) :
  WL P n L (⟨some d,op,ty,pos,af,g⟩::rest) e bx F Q:=λfr w0 a w Q' hQ hk hr ho i hi=>by
 obtain⟨h1,h2,h3⟩:=drop_cons hi;rw[h3];refine Kk h1 (Ja hk hg) λw1 hw=>hl n fr a w1 _ _ rfl rfl hk (ho.rely hw) λfr' v w' bx' F' hf hr' ho' h=>?_;have:=h fr' w0 (a.put (some d) v) w' Q' (λfr2 a' w2 e' b f hf2=>hQ fr2 a' w2 e' b f (hf.trans hf2)) (hf.kn (hk.put hd v)) ((hr.trans hw.rest).trans hr') ho' (i+1) h2
 rwa [hf.main,hf.sh] at this
def WL.l0(hg:gok L e g=some true)(hl:LO P op ty e bx F λ_ bx' F'=>WL P n L rest e bx' F' Q) :
  WL P n L (⟨none,op,ty,pos,af,g⟩::rest) e bx F Q:=λfr w0 a w Q' hQ hk hr ho i hi=>by
 obtain⟨h1,h2,h3⟩:=drop_cons hi;rw[h3];refine Kk h1 (Ja hk hg) λw1 hw=>hl n fr a w1 _ _ rfl rfl hk (ho.rely hw) λfr' v w' bx' F' hf hr' ho' h=>?_;have:=h fr' w0 (a.put none v) w' Q' (λfr2 a' w2 e' b f hf2=>hQ fr2 a' w2 e' b f (hf.trans hf2)) (hf.kn (hk.HH v)) ((hr.trans hw.rest).trans hr') ho' (i+1) h2
 rwa [hf.main,hf.sh] at this
end
def OpR(P:nh)(main:Md)(sh:Bk)(ops:Array Oper)(i:Nat)(K:nm->Bk->Act->nm->Prop)(own:Bk)(a:Act)(w:nm):Prop:=
 match ops[i]? with
 |none=>False
 |some o=>if Region.wanted o (yielded ops a.tmps) then ∀w1,Rly own sh w w1->Gm P main sh o a own w1 (K w1) ((execOp a.eval o).run P w1) else K w own (a.put o.dst undef) w
def JF(P:nh)(sh:Bk)(ops:Array Oper)(S:Bk->nm->Prop)(o:Oper)(v:nA)(a:Act):Prop:=
 (Region.wanted o (yielded ops a.tmps)=true/\∀own w,S own w->(execOp a.eval o).run P w=.ok (.value v) w/\∀ev∈(execOp a.eval o).events P w #[],Yk own sh ev)\/
 (Region.wanted o (yielded ops a.tmps)=false/\v=undef)
section
variable {main:Md}{sh:Bk}{ops:Array Oper}{Q:Bk->Exit->Act->nm->Prop}{S:Bk->nm->Prop}{late:Nat->Bool}
def OpR.mono{i:Nat}{K K':nm->Bk->Act->nm->Prop}{own:Bk}{a:Act}{w:nm}(hk:∀x own a w,K x own a w->K' x own a w)(h:OpR P main sh ops i K own a w):OpR P main sh ops i K' own a w:=by
 unfold OpR at *;cases ho:ops[i]? with
 |none=>rw[ho] at h;exact h
 |some o=>
  rw[ho] at h;simp only at h ⊢;split
  ·rename_i hw;rw[ah hw] at h;exact λw1 h1=>(h w1 h1).mono (hk w1)
  ·rename_i hw;rw[ae hw] at h;exact hk _ _ _ _ h
def OpR.rely{i:Nat}{K:nm->Bk->Act->nm->Prop}{own:Bk}{a:Act}{w w1:nm}(hK:∀a x y,K x own a x->Rly own sh x y->K y own a y)(h:OpR P main sh ops i K own a w)(r:Rly own sh w w1):OpR P main sh ops i K own a w1:=by
 unfold OpR at *;cases ho:ops[i]? with
 |none=>rw[ho] at h;exact h
 |some o=>
  rw[ho] at h;simp only at h ⊢;split
  ·rename_i hw;rw[ah hw] at h;exact λw2 h2=>h w2 (r.trans h2)
  ·rename_i hw;rw[ae hw] at h;exact hK _ _ _ h r
def opsR_of_opR{i:Nat}{rest:List Nat}{own:Bk}{a:Act}{w:nm}(h:OpR P main sh ops i (λ_ own' a' w'=>Vr P main sh ops rest Q own' a' w') own a w):Vr P main sh ops (i::rest) Q own a w:=by
 unfold OpR at h;cases ho:ops[i]? with
 |none=>rw[ho] at h;exact h.elim
 |some o=>
  rw[ho] at h;simp only at h;split at h
  ·rename_i hw;exact Kk ho hw h
  ·rename_i hw;exact Km ho (by simpa using hw) h
def YP(P:nh)(main:Md)(sh:Bk)(ops:Array Oper)(Q:Bk->Exit->Act->nm->Prop)(S:Bk->nm->Prop)(late:Nat->Bool):Nat->Array Bool->Bk->Act->nm->Prop
 |0,listed,own,a,w=>Region.ready .any ops listed=[]/\Q own .normal a w
 |fuel+1,listed,own,a,w=>(Region.ready .any ops listed=[]->Q own .normal a w)/\
   ∀i∈Region.ready .any ops listed,OpR P main sh ops i (λx own' a' w'=>(late i=false->S own x->S own' w')/\YP P main sh ops Q S late fuel (listed.setIfInBounds i true) own' a' w') own a w
def YP.rely(hQR:∀own a x y,Q own .normal a x->Rly own sh x y->Q own .normal a y) :
  ∀(fuel:Nat) (listed:Array Bool) (own:Bk) (a:Act) (w w1:nm),YP P main sh ops Q S late fuel listed own a w->Rly own sh w w1->YP P main sh ops Q S late fuel listed own a w1
 |0,_,_,_,_,_,h,r=>⟨h.1,hQR _ _ _ _ h.2 r⟩
 |fuel+1,listed,own,a,w,w1,h,r=>⟨λe=>hQR _ _ _ _ (h.1 e) r,λi hi=>
   OpR.rely (λa x y hx hr=>⟨λ_ hs=>hs,YP.rely hQR fuel _ _ _ _ _ hx.2 hr⟩) (h.2 i hi) r⟩
def KY:∀(fuel t:Nat) (listed:Array Bool) (own:Bk) (a:Act) (w:nm),YP P main sh ops Q S late fuel listed own a w->Vr P main sh ops (Region.linearise.go .any ops fuel t listed []) Q own a w:=by
 intro fuel;induction fuel with
 |zero=>intro t listed own a w h;simpa [Region.linearise.go] using HK h.2
 |succ fuel ih=>
  intro t listed own a w h;obtain⟨h0,h1⟩:=h;simp only[Region.linearise.go]
  change Vr P main sh ops (match (Region.ready .any ops listed)[t % (Region.ready .any ops listed).length]? with
   |some i=>Region.linearise.go .any ops fuel (t/(Region.ready .any ops listed).length) (listed.setIfInBounds i true) [i]
   |none=>[].reverse) Q own a w
  cases hi:(Region.ready .any ops listed)[t % (Region.ready .any ops listed).length]? with
  |none=>
   have hnil:Region.ready .any ops listed=[]:=by
    cases hr:Region.ready .any ops listed with
    |nil=>rfl
    |cons x xs=>
     rw[hr] at hi;have hlt:t % (x::xs).length<(x::xs).length:=bw _ (by simp);simp at hi;simp at hlt;omega
   simpa using HK (h0 hnil)
  |some i=>
   simp only[];rw[Go.linearise_go_acc,List.reverse_singleton,bf];exact opsR_of_opR (OpR.mono (λ_ own' a' w' x=>ih _ _ own' a' w' x.2) (h1 i (bQ hi)))
def JF.of_same{o:Oper}{v:nA}{a a':Act}(hy:JF P sh ops S o v a)(he:execOp a'.eval o=execOp a.eval o)(hw:Region.wanted o (yielded ops a'.tmps)=Region.wanted o (yielded ops a.tmps)):JF P sh ops S o v a':=by
 unfold JF at *;rw[he,hw];exact hy
def JF.opR{i:Nat}{o:Oper}{v:nA}{own:Bk}{a:Act}{w:nm}{K:nm->Bk->Act->nm->Prop}(hSR:∀x y,S own x->Rly own sh x y->S own y)(hi:ops[i]?=some o)(hy:JF P sh ops S o v a)(hS:S own w)
  (h:∀x,Rly own sh w x->K x own (a.put o.dst v) x):OpR P main sh ops i K own a w:=by
 unfold OpR;simp only[hi];rcases hy with ⟨hw,hv⟩|⟨hw,rfl⟩
 ·rw[ah hw];intro w1 h1;have:=hv own w1 (hSR _ _ hS h1);rw[this.1];refine .inl ⟨.look this.2,?_⟩;rw[QW (ai _)];exact h w1 h1
 ·rw[ae (by rw[hw];simp)];exact h w (.refl _ _ _)
def Gn{j:Nat}{oi oj:Oper}{v:nA}(hj:ops[j]?=some oj)(hap:oi.apart ops oj=true)
  (hsi:∀cs b,oi.op≠.select cs b) (hsj:∀cs b,oj.op≠.select cs b) {K:nm->Bk->Act->nm->Prop} {own:Bk} {a:Act} {w:nm}
  (hy:JF P sh ops S oi v a) (h:OpR P main sh ops j K own (a.put oi.dst v) w) :
  OpR P main sh ops j (λx own' a' w'=>JF P sh ops S oi v a'/\K x own' (a'.put oi.dst v) w') own a w:=by
 obtain⟨h1,h2,h3⟩:=Oper.apart_spec hap
 have keep:∀(a:Act),JF P sh ops S oi v a->∀u,JF P sh ops S oi v (a.put oj.dst u):=λa hy u=>
  hy.of_same (execOp_put oi hsi a oj.dst u h3) (wanted_put oi a oj.dst u h3)
 unfold OpR at *;simp only[hj] at *;rw[wanted_put oj a oi.dst v h1] at h;split
 ·rename_i hw
  rw[ah hw] at h;intro w1 hr;have h:=h w1 hr;rw[execOp_put oj hsj a oi.dst v h1] at h;generalize hx:(execOp a.eval oj).run P w1=r at *;rcases h with h|h
  case' inr=>
   refine .inr λhi=>?_;obtain⟨w',own',h4,h5,h6⟩:=h hi;rw[execOp_put oj hsj a oi.dst v h1] at h5;exact⟨w',own',h4,h5,keep a hy _,by rw[<-Act.put_comm a v undef h2];exact h6⟩
  refine .inl ?_;cases r with
  |halt x w'=>exact h
  |ok x w'=>
   cases x with
   |value u=>
    simp only[UponP] at h ⊢;rw[execOp_put oj hsj a oi.dst v h1] at h;exact⟨h.1,keep a hy u,by rw[<-Act.put_comm a v u h2];exact h.2⟩
   |skip=>
    simp only[UponP] at h ⊢;rw[execOp_put oj hsj a oi.dst v h1] at h;exact⟨h.1,keep a hy _,by rw[<-Act.put_comm a v undef h2];exact h.2⟩
   |enter f args=>
    simp only[UponP] at h ⊢;rw[execOp_put oj hsj a oi.dst v h1] at h;exact⟨h.1,h.2.mono λown' u w'' hk=>⟨keep a hy u,by rw[<-Act.put_comm a v u h2];exact hk⟩⟩
   |round l f tmps x y=>
    simp only[UponP] at h ⊢;rw[execOp_put oj hsj a oi.dst v h1] at h;exact⟨h.1,h.2.mono λown' u w'' hk=>⟨keep a hy u,by rw[<-Act.put_comm a v u h2];exact hk⟩⟩
   |_=>exact h
 ·rename_i hw
  rw[ae hw] at h;exact⟨keep a hy _,by rw[<-Act.put_comm a v undef h2];exact h⟩
end
def Down(ops:Array Oper)(listed:Array Bool):Prop:=∀j o,ops[j]?=some o->listed.getD j false=true->∀e∈o.after,Region.binds .any e=true->listed.getD e.on false=true
def Down.set{ops:Array Oper}{listed:Array Bool}{i:Nat}(h:Down ops listed)(hi:i∈Region.ready .any ops listed):Down ops (listed.setIfInBounds i true):=by
 intro j o ho hj e he hb;refine getD_set_true ?_;by_cases hij:i=j
 ·subst hij;obtain⟨_,o',ho',hall⟩:=mem_ready.1 hi;rw[ho] at ho';cases ho';exact hall e he hb
 ·rw[getD_set_ne false hij] at hj;exact h j o ho hj e he hb
section
variable {main:Md}{sh:Bk}{ops:Array Oper}{Q:Bk->Exit->Act->nm->Prop}{S:Bk->nm->Prop}{late:Nat->Bool}
def V3{i:Nat}{oi:Oper}{v:nA}(hi:ops[i]?=some oi)(hsel:Region.noSelect ops=true)(hSR:∀own x y,S own x->Rly own sh x y->S own y)
  (hQR:∀own a x y,Q own .normal a x->Rly own sh x y->Q own .normal a y)
  (hlate:∀listed j,Down ops listed->late j=true->j∈Region.ready .any ops listed->listed.getD i false=true) :
  ∀(fuel:Nat) (listed:Array Bool) (own:Bk) (a:Act) (w:nm),Down ops listed->
   (∀j oj,ops[j]?=some oj->j≠i->listed.getD j true=false->(∀e∈oj.after,Region.binds .any e=true->e.on≠i)->oi.apart ops oj=true)->
   i∈Region.ready .any ops listed->JF P sh ops S oi v a->S own w->
   YP P main sh ops Q S late fuel (listed.setIfInBounds i true) own (a.put oi.dst v) w->YP P main sh ops Q S late (fuel+1) listed own a w:=by
 intro fuel;induction fuel with
 |zero=>
  intro listed own a w _ _ hr hy hS H;refine⟨λh=>absurd (h ▸ hr) (by simp),λj hj=>?_⟩;by_cases hji:j=i
  ·subst hji;exact hy.opR (hSR own) hi hS λx hx=>⟨λ_ h=>h,YP.rely hQR _ _ _ _ _ _ H hx⟩
  ·have h1:=ready_mono hj hji;rw[H.1] at h1;cases h1
 |succ fuel ih=>
  intro listed own a w hdn hfree hr hy hS H;refine⟨λh=>absurd (h ▸ hr) (by simp),λj hj=>?_⟩;by_cases hji:j=i
  ·subst hji;exact hy.opR (hSR own) hi hS λx hx=>⟨λ_ h=>h,YP.rely hQR _ _ _ _ _ _ H hx⟩
  ·obtain⟨hjun,oj,hoj,hall⟩:=mem_ready.1 hj;have hiun:listed.getD i true=false:=(mem_ready.1 hr).1
   have hiun':listed.getD i false=false:=by
    cases hx:listed[i]? with
    |none=>simp[aB,hx]
    |some b=>simpa [aB,hx] using hiun
   have hnot:∀e∈oj.after,Region.binds .any e=true->e.on≠i:=λe he hb heq=>by
    have:=hall e he hb;rw[heq,hiun'] at this;cases this
   have hnl:late j=false:=by
    cases hl:late j with
    |false=>rfl
    |true=>have:=hlate listed j hdn hl hj;rw[hiun'] at this;cases this
   have h2:=Gn hoj (hfree j oj hoj hji hjun hnot) (λcs b=>Region.noSelect_spec hsel i oi cs b hi) (λcs b=>Region.noSelect_spec hsel j oj cs b hoj) hy (H.2 j (ready_mono hj hji))
   have h4:OpR P main sh ops j (λx own' a' w'=>S own x/\JF P sh ops S oi v a'/\(late j=false->S own x->S own' w')/\YP P main sh ops Q S late fuel ((listed.setIfInBounds i true).setIfInBounds j true) own' (a'.put oi.dst v) w') own a w:=by
    unfold OpR at h2 ⊢;simp only[hoj] at h2 ⊢;split
    ·rename_i hw
     rw[ah hw] at h2;exact λw1 h1=>(h2 w1 h1).mono λown' a' w' hx=>⟨hSR _ _ _ hS h1,hx⟩
    ·rename_i hw
     rw[ae hw] at h2;exact⟨hS,h2⟩
   refine OpR.mono (λx own' a' w' h3=>⟨λ_=>h3.2.2.1 hnl,ih _ own' a' w' (hdn.set hj) ?_ (ready_mono hr (dO hji)) h3.2.1 (h3.2.2.1 hnl h3.1) ?_⟩) h4
   ·intro k ok hk hki hun hno;refine hfree k ok hk hki ?_ hno;by_cases hjk:j=k
    ·subst hjk;exact hjun
    ·rw[getD_set_ne true hjk] at hun;exact hun
   ·rw[Array.setIfInBounds_comm _ _ hji];exact h3.2.2.2
def Vz{i:Nat}{oi:Oper}{v:nA}(hi:ops[i]?=some oi)(hsel:Region.noSelect ops=true)
  (hQR:∀own a x y,Q own .normal a x->Rly own sh x y->Q own .normal a y) :
  ∀(fuel:Nat) (listed:Array Bool) (own:Bk) (a:Act) (w:nm),Down ops listed->
   (∀j oj,ops[j]?=some oj->j≠i->listed.getD j true=false->(∀e∈oj.after,Region.binds .any e=true->e.on≠i)->oi.apart ops oj=true)->
   i∈Region.ready .any ops listed->JF P sh ops (λ_ _=>True) oi v a->
   YP P main sh ops Q S late fuel (listed.setIfInBounds i true) own (a.put oi.dst v) w->YP P main sh ops Q S late (fuel+1) listed own a w:=by
 intro fuel;induction fuel with
 |zero=>
  intro listed own a w _ _ hr hy H;refine⟨λh=>absurd (h ▸ hr) (by simp),λj hj=>?_⟩;by_cases hji:j=i
  ·subst hji;exact hy.opR (λ_ _ _ _=>trivial) hi trivial λx hx=>⟨λ_ h=>h,YP.rely hQR _ _ _ _ _ _ H hx⟩
  ·have h1:=ready_mono hj hji;rw[H.1] at h1;cases h1
 |succ fuel ih=>
  intro listed own a w hdn hfree hr hy H;refine⟨λh=>absurd (h ▸ hr) (by simp),λj hj=>?_⟩;by_cases hji:j=i
  ·subst hji;exact hy.opR (λ_ _ _ _=>trivial) hi trivial λx hx=>⟨λ_ h=>h,YP.rely hQR _ _ _ _ _ _ H hx⟩
  ·obtain⟨hjun,oj,hoj,hall⟩:=mem_ready.1 hj;have hiun:listed.getD i true=false:=(mem_ready.1 hr).1
   have hiun':listed.getD i false=false:=by
    cases hx:listed[i]? with
    |none=>simp[aB,hx]
    |some b=>simpa [aB,hx] using hiun
   have hnot:∀e∈oj.after,Region.binds .any e=true->e.on≠i:=λe he hb heq=>by
    have:=hall e he hb;rw[heq,hiun'] at this;cases this
   have h2:=Gn hoj (hfree j oj hoj hji hjun hnot) (λcs b=>Region.noSelect_spec hsel i oi cs b hi) (λcs b=>Region.noSelect_spec hsel j oj cs b hoj) hy (H.2 j (ready_mono hj hji));refine OpR.mono (λx own' a' w' h3=>⟨h3.2.1,ih _ own' a' w' (hdn.set hj) ?_ (ready_mono hr (dO hji)) h3.1 ?_⟩) h2
   ·intro k ok hk hki hun hno;refine hfree k ok hk hki ?_ hno;by_cases hjk:j=k
    ·subst hjk;exact hjun
    ·rw[getD_set_ne true hjk] at hun;exact hun
   ·rw[Array.setIfInBounds_comm _ _ hji];exact h3.2.2
end
inductive Plan where
 |done
 |held (i:Nat) (r:Plan)
 |loud (i:Nat) (r:Plan)
 |fork (i:Nat) (r:Plan) (j:Nat) (s:Plan)
 |free (i:Nat) (r:Plan)
 |more (i:Nat) (r:Plan) (s:Plan)
abbrev Plan.h(i:Nat)(r:Plan):Plan:=.held i r
abbrev Plan.l(i:Nat)(r:Plan):Plan:=.loud i r
abbrev Plan.f(i:Nat)(r:Plan):Plan:=.free i r
abbrev Plan.m(i:Nat)(r s:Plan):Plan:=.more i r s
abbrev Plan.k(i:Nat)(r:Plan)(j:Nat)(s:Plan):Plan:=.fork i r j s
def Plan.heads:Plan->List Nat
 |.more i _ s=>i::s.heads
 |.loud i _=>[i]
 |_=>[]
def anc(L:List Oper)(k:Nat):Nat->Nat->Bool
 |0,_=>false
 |f+1,j=>match L[j]? with
  |none=>false
  |some o=>o.after.any λe=>Region.binds .any e && (e.on == k ||anc L k f e.on)
def Q3(L:List Oper)(hs:List Nat)(j:Nat):Bool:=hs.all λk=>anc L k L.length j
def anc_listed{L:List Oper}{k:Nat}{listed:Array Bool}(hd:Down L.toArray listed):∀f j o,L[j]?=some o->(∀e∈o.after,Region.binds .any e=true->listed.getD e.on false=true)->anc L k f j=true->listed.getD k false=true:=by
 intro f;induction f with
 |zero=>intro j o _ _ h;simp[anc] at h
 |succ f ih=>
  intro j o ho hall h;simp only[anc,ho,Array.any_eq_true'] at h;obtain⟨e,he,h⟩:=h;simp only[aE,b7,co] at h;have hl:=hall e he h.1;rcases h.2 with h'|h'
  ·rw[<-h'];exact hl
  ·cases hx:L[e.on]? with
   |none=>cases f<;>simp[anc,hx] at h'
   |some oe=>exact ih e.on oe hx (λe' he' hb'=>hd e.on oe (by simpa using hx) hl e' he' hb') h'
def YC{L:List Oper}{hs:List Nat}{listed:Array Bool}{i j:Nat}(hd:Down L.toArray listed)(hl:Q3 L hs j=true)(hj:j∈Region.ready .any L.toArray listed)(hi:i∈hs):listed.getD i false=true:=by
 obtain⟨_,o,ho,hall⟩:=mem_ready.1 hj;exact anc_listed hd _ j o (by simpa using ho) hall (List.all_eq_true.1 hl i hi)
mutual
def chk(L:List Oper)(hs:List Nat):Plan->Array Bool->Bool
 |.done,listed=>(Region.ready .any L.toArray listed).isEmpty
 |.held i r,listed=>hs.contains i && (Region.free .any L.toArray listed i && ((Region.ready .any L.toArray listed).contains i && chk L hs r (listed.setIfInBounds i true)))
 |.free i r,listed=>Region.free .any L.toArray listed i && ((Region.ready .any L.toArray listed).contains i && chk L hs r (listed.setIfInBounds i true))
 |.loud i r,listed=>Region.ready .any L.toArray listed == [i] && chk L hs r (listed.setIfInBounds i true)
 |.fork i r j s,listed=>Region.ready .any L.toArray listed == [i,j] && (chk L hs r (listed.setIfInBounds i true) && chk L hs s (listed.setIfInBounds j true))
 |.more i r s,listed=>Region.ready .any L.toArray listed == (i::s.heads) && (chk L hs r (listed.setIfInBounds i true) && chkR L hs s listed)
termination_by structural p=>p
def chkR(L:List Oper)(hs:List Nat):Plan->Array Bool->Bool
 |.done,_=>false
 |.held _ _,_=>false
 |.free _ _,_=>false
 |.fork _ _ _ _,_=>false
 |.loud i r,listed=>chk L hs r (listed.setIfInBounds i true)
 |.more i r s,listed=>chk L hs r (listed.setIfInBounds i true) && chkR L hs s listed
termination_by structural p=>p
end
def Plan.len:Plan->Nat
 |.done=>0
 |.held _ r=>r.len+1
 |.loud _ r=>r.len+1
 |.free _ r=>r.len+1
 |.fork _ r _ s=>max r.len s.len+1
 |.more _ r s=>max (r.len+1) s.len
def SR(fr0:CF)(b0:nw)(F0:nc)(own:Bk)(w:nm):Prop:=OK {fr0 with own:=own} b0 F0 w
def SR.rely{fr0:CF}{b0:nw}{F0:nc}{own:Bk}{x y:nm}(h:SR fr0 b0 F0 own x)(hr:Rly own fr0.sh x y):SR fr0 b0 F0 own y:=OK.rely (fr:={fr0 with own:=own}) h hr
def CF.le.eq{fr0 fr:CF}(h:fr0.le fr):{fr0 with own:=fr.own}=fr:=by
 obtain⟨m,s,o,f,d⟩:=fr;obtain⟨h1,h2,h3,h4,_⟩:=h;simp only at h1 h2 h3 h4;subst h1 h2 h3 h4;rfl
def SR.iff{fr0 fr:CF}{b0:nw}{F0:nc}{w:nm}(h:fr0.le fr):SR fr0 b0 F0 fr.own w↔OK fr b0 F0 w:=by unfold SR;rw[h.eq]
def WD(P:nh)(n:Nat)(L:List Oper)(hs:List Nat)(b0:nw)(F0:nc)(p:Plan)(e:Env)(bx:nw)(F:nc)(Q:Env->nw->nc->Prop):Prop:=
 ∀fr w0 listed a w fuel (Q':Bk->Exit->Act->nm->Prop),(∀own a x y,Q' own .normal a x->Rly own fr.sh x y->Q' own .normal a y)->Region.noSelect L.toArray=true->chk L hs p listed=true->Down L.toArray listed->
  (∀fr' a' w' e' bx' F',fr.le fr'->Kn fr'.ds n a' e'->Rest w0 w'->OK fr' bx' F' w'->Q e' bx' F'->Q' fr'.own .normal a' w')->
  ((∃i∈hs,listed.getD i true=false)->OK fr b0 F0 w)->Kn fr.ds n a e->Rest w0 w->OK fr bx F w->p.len<=fuel->∀fr0:CF,fr0.le fr->YP P fr.main fr.sh L.toArray Q' (SR fr0 b0 F0) (Q3 L hs) fuel listed fr.own a w
def Ga{main:Md}{sh:Bk}{ops:Array Oper}{Q:Bk->Exit->Act->nm->Prop}{S:Bk->nm->Prop}{late:Nat->Bool}{listed:Array Bool}{own:Bk}{a:Act}{w:nm}(hr:Region.ready .any ops listed=[])(h:Q own .normal a w) :
  ∀fuel,YP P main sh ops Q S late fuel listed own a w
 |0=>⟨hr,h⟩
 |_+1=>⟨λ_=>h,by rw[hr];simp⟩
section
variable {n:Nat}{L:List Oper}{hs:List Nat}{b0 bx:nw}{F0 F:nc}{p r s:Plan}{e:Env}{Q:Env->nw->nc->Prop}
 {i:Nat} {d:Nat} {op:Op} {ty:nl} {pos:String} {af:Array Edge} {g:Option (Nat×Bool)} {v:nA}
def WD.nil(h:Q e bx F):WD P n L hs b0 F0 .done e bx F Q:=λfr w0 listed a w fuel Q' _ _ hc _ hQ _ hk hr ho _ fr0 _=>
 Ga (by simpa [chk] using hc) (hQ fr _ _ _ _ _ (.refl _) hk hr ho h) fuel
def getD_some{listed:Array Bool}{i:Nat}(h:listed.getD i true=false)(j:Nat)(hj:(listed.setIfInBounds i true).getD j true=false):listed.getD j true=false:=by
 by_cases hij:i=j
 ·subst hij;exact h
 ·rw[getD_set_ne true hij] at hj;exact hj
def WD.VY(o:Oper)(hL:L[i]?=some o)(e':Env)
  (hy:∀fr0 a,Kn fr0.ds n a e->∃v,JF P fr0.sh L.toArray (SR fr0 b0 F0) o v a/\Kn fr0.ds n (a.put o.dst v) e')
  (h:WD P n L hs b0 F0 r e' bx F Q):WD P n L hs b0 F0 (.held i r) e bx F Q:=λfr w0 listed a w fuel Q' hP hns hc hd hQ hS hk hr ho hf fr0 hle=>by
 simp only[chk,aE] at hc;obtain⟨h1,h2,h3,h4⟩:=hc;obtain⟨f',rfl⟩:∃f',fuel=f'+1:=⟨fuel-1,by simp[Plan.len] at hf;omega⟩
 have hri:i∈Region.ready .any L.toArray listed:=by simpa using h3
 have hun:=(mem_ready.1 hri).1;have hOK:=hS ⟨i,by simpa using h1,hun⟩;obtain⟨v,hy1,hy2⟩:=hy fr0 a (hle.nk hk);have hLa:L.toArray[i]?=some o:=by simpa using hL
 refine V3 hLa hns (S:=SR fr0 b0 F0) (λown x y hx hr=>SR.rely hx (by rw[hle.sh] at hr;exact hr)) hP (λlisted j hd hl hj=>YC hd hl hj (by simpa using h1)) f' listed fr.own a w hd (Region.free_spec hLa h2) hri (by rw[hle.sh];exact hy1) ((SR.iff hle).2 hOK) ?_;exact h fr w0 _ _ w f' Q' hP hns h4 (hd.set hri) hQ (λ⟨j,hj,hjl⟩=>hS ⟨j,hj,getD_some hun j hjl⟩) (hle.kn hy2) hr ho wq72 fr0 hle
def WD.fy(hL:L[i]?=some ⟨some d,op,ty,pos,af,g⟩)(hy:YO P op ty e [] [] v)(hd':Nat.blt d n=true)(hg:gok L e g=some true)(h:WD P n L hs b0 F0 r ((d,v)::e) bx F Q):WD P n L hs b0 F0 (.free i r) e bx F Q:=λfr w0 listed a w fuel Q' hP hns hc hd hQ hS hk hr ho hf fr0 hle=>by
 simp only[chk,aE] at hc;obtain⟨h2,h3,h4⟩:=hc;obtain⟨f',rfl⟩:∃f',fuel=f'+1:=⟨fuel-1,by simp[Plan.len] at hf;omega⟩
 have hri:i∈Region.ready .any L.toArray listed:=by simpa using h3
 have hun:=(mem_ready.1 hri).1;have hLa:L.toArray[i]?=some ⟨some d,op,ty,pos,af,g⟩:=by simpa using hL
 have hy1:JF P fr.sh L.toArray (λ_ _=>True) ⟨some d,op,ty,pos,af,g⟩ v a:=.inl ⟨Ja hk hg,λown w' _=>by
  have:=hy n ⟨⟨true,λ_=>True,λ_ _ _ _ _ _=>False,λ_ _ _ _ _=>False,λ_=>False⟩,λ_=>False,λ_=>False,λ_=>none,fr.ds⟩ a w' ⟨some d,op,ty,pos,af,g⟩ rfl rfl hk ⟨⟨λ_ _ h=>(by cases h),λk h=>(by rcases h with h|h<;>exact h.elim),λk h=>h.elim⟩,by simp[ids],by simp[ids],by simp,by simp⟩;refine⟨this.1,λev hev=>?_⟩;rcases this.2 ev hev with ⟨ad,_,h5⟩|h5
  ·exact h5.elim False.elim λh=>h.1.elim
  ·rcases h5 with h5|⟨_,_,h5⟩
   ·exact .inr (.inl h5)
   ·exact h5.elim⟩
 refine Vz hLa hns hP f' listed fr.own a w hd (Region.free_spec hLa h2) hri hy1 ?_;exact h fr w0 _ _ w f' Q' hP hns h4 (hd.set hri) hQ (λ⟨j,hj,hjl⟩=>hS ⟨j,hj,getD_some hun j hjl⟩) (hk.put hd' v) hr ho wq72 fr0 hle
def WD.y(hL:L[i]?=some ⟨some d,op,ty,pos,af,g⟩)(hy:YO P op ty e b0 F0 v)(hd:Nat.blt d n=true)(hg:gok L e g=some true)(h:WD P n L hs b0 F0 r ((d,v)::e) bx F Q) :
  WD P n L hs b0 F0 (.held i r) e bx F Q:=
 WD.VY _ hL _ (λfr0 a hk=>⟨v,.inl ⟨Ja hk hg,λown w' ho'=>hy n {fr0 with own:=own} a w' _ rfl rfl hk ho'⟩,hk.put hd v⟩) h
def WD.skip(hL:L[i]?=some ⟨some d,op,ty,pos,af,g⟩)(hd:Nat.blt d n=true)(hg:gok L e g=some false)(h:WD P n L hs b0 F0 r ((d,undef)::e) bx F Q) :
  WD P n L hs b0 F0 (.held i r) e bx F Q:=
 WD.VY _ hL _ (λfr0 a hk=>⟨undef,.inr ⟨Ja hk hg,rfl⟩,hk.put hd undef⟩) h
def Dz{fr fr0:CF}{w0:nm}{listed:Array Bool}{a:Act}{w:nm}{f':Nat}{Q':Bk->Exit->Act->nm->Prop}(o:Oper)(hL:L[i]?=some o)(hle:fr0.le fr)
  (hP:∀own a x y,Q' own .normal a x->Rly own fr.sh x y->Q' own .normal a y) (hns:Region.noSelect L.toArray=true) (hc:chk L hs r (listed.setIfInBounds i true)=true) (hd:Down L.toArray listed) (hri:i∈Region.ready .any L.toArray listed)
  (hQ:∀fr' a' w' e' bx' F',fr.le fr'->Kn fr'.ds n a' e'->Rest w0 w'->OK fr' bx' F' w'->Q e' bx' F'->Q' fr'.own .normal a' w') (hS:(∃i∈hs,listed.getD i true=false)->OK fr b0 F0 w)
  (hk:Kn fr.ds n a e) (hr:Rest w0 w) (ho:OK fr bx F w) (hf:r.len<=f')
  (h:(gok L e o.guard=some false/\∃e',(∀ds a,Kn ds n a e->Kn ds n (a.put o.dst undef) e')/\WD P n L hs b0 F0 r e' bx F Q)\/
   (gok L e o.guard=some true/\LO P o.op o.type e bx F λv bx' F'=>(Q3 L hs i=true\/(b0.Sublist bx'/\∀f∈F0,f∈F'))/\
    ∃e',(∀ds a,Kn ds n a e->Kn ds n (a.put o.dst v) e')/\WD P n L hs b0 F0 r e' bx' F' Q)) :
  OpR P fr.main fr.sh L.toArray i (λx own' a' w'=>(Q3 L hs i=false->SR fr0 b0 F0 fr.own x->SR fr0 b0 F0 own' w')/\YP P fr.main fr.sh L.toArray Q' (SR fr0 b0 F0) (Q3 L hs) f' (listed.setIfInBounds i true) own' a' w') fr.own a w:=by
 have hun:=(mem_ready.1 hri).1
 have hlate:Q3 L hs i=true->¬∃j∈hs,(listed.setIfInBounds i true).getD j true=false:=λhl ⟨j,hj,hjl⟩=>by
  have h1:=YC hd hl hri hj;have h2:=getD_some hun j hjl;cases hx:listed[j]? with
  |none=>simp[aB,hx] at h1
  |some b=>simp[aB,hx] at h1 h2;simp[h1] at h2
 have hlist:(∃j∈hs,(listed.setIfInBounds i true).getD j true=false)->∃j∈hs,listed.getD j true=false:=λ⟨j,hj,hjl⟩=>⟨j,hj,getD_some hun j hjl⟩
 unfold OpR;have hLa:L.toArray[i]?=some o:=by simpa using hL
 simp only[hLa];rcases h with ⟨hg,e',he',h⟩|⟨hg,h⟩
 ·rw[ae (by rw[Ja hk hg];simp)];have key:=h fr w0 _ (a.put o.dst undef) w f' Q' hP hns hc (hd.set hri) hQ (λhx=>hS (hlist hx)) (he' _ a hk) hr ho hf fr0 hle;exact⟨λ_ h=>h,key⟩
 ·rw[ah (Ja hk hg)];intro w1 hw1;refine h n fr a w1 o _ rfl rfl hk (ho.rely hw1) λfr' v w' bx' F' hfr hr' ho' hK=>?_;obtain⟨hl,e',he',h⟩:=hK
  have hOK:Q3 L hs i=false->OK fr' b0 F0 w':=λhf=>by
   rcases hl with hl|⟨h1,h2⟩
   ·rw[hf] at hl;cases hl
   ·exact(ho'.drop h1).less h2
  have hle':=hle.trans hfr;have:=h fr' w0 _ (a.put o.dst v) w' f' Q' (λown a x y hq hr=>hP own a x y hq (by rw[<-hfr.sh];exact hr)) hns hc (hd.set hri) (λfr2 a' w2 e' b f hf2=>hQ fr2 a' w2 e' b f (hfr.trans hf2)) (λhx=>?_) (he' _ a (hfr.kn hk)) ((hr.trans hw1.rest).trans hr') ho' hf fr0 hle'
  ·rw[hfr.main,hfr.sh] at this;exact⟨λhf _=>(SR.iff hle').2 (hOK hf),this⟩
  ·cases hb:Q3 L hs i with
   |true=>exact absurd hx (hlate hb)
   |false=>exact hOK hb
def WD.l_of(o:Oper)(hL:L[i]?=some o)
  (h:(gok L e o.guard=some false/\∃e',(∀ds a,Kn ds n a e->Kn ds n (a.put o.dst undef) e')/\WD P n L hs b0 F0 r e' bx F Q)\/
   (gok L e o.guard=some true/\LO P o.op o.type e bx F λv bx' F'=>(Q3 L hs i=true\/(b0.Sublist bx'/\∀f∈F0,f∈F'))/\
    ∃e',(∀ds a,Kn ds n a e->Kn ds n (a.put o.dst v) e')/\WD P n L hs b0 F0 r e' bx' F' Q)):WD P n L hs b0 F0 (.loud i r) e bx F Q:=λfr w0 listed a w fuel Q' hP hns hc hd hQ hS hk hr ho hf fr0 hle=>by
 simp only[chk,aE,co] at hc;obtain⟨h1,h2⟩:=hc;obtain⟨f',rfl⟩:∃f',fuel=f'+1:=⟨fuel-1,by simp[Plan.len] at hf;omega⟩
 refine⟨λh0=>(by rw[h0] at h1;cases h1),λj hj=>?_⟩;rw[h1] at hj;simp at hj;subst hj;exact Dz o hL hle hP hns h2 hd (by rw[h1];simp) hQ hS hk hr ho wq72 h
def WD.l(hL:L[i]?=some ⟨some d,op,ty,pos,af,g⟩)(hd:Nat.blt d n=true)(hg:gok L e g=some true)
  (hl:LO P op ty e bx F λv bx' F'=>(Q3 L hs i=true\/(b0.Sublist bx'/\∀f∈F0,f∈F'))/\WD P n L hs b0 F0 r ((d,v)::e) bx' F' Q):WD P n L hs b0 F0 (.loud i r) e bx F Q:=
 WD.l_of _ hL (.inr ⟨hg,hl.mono λv b f h=>⟨h.1,_,λ_ _ hk=>hk.put hd v,h.2⟩⟩)
def WD.l0(hL:L[i]?=some ⟨none,op,ty,pos,af,g⟩)(hg:gok L e g=some true)
  (hl:LO P op ty e bx F λ_ bx' F'=>(Q3 L hs i=true\/(b0.Sublist bx'/\∀f∈F0,f∈F'))/\WD P n L hs b0 F0 r e bx' F' Q):WD P n L hs b0 F0 (.loud i r) e bx F Q:=
 WD.l_of _ hL (.inr ⟨hg,hl.mono λv _ _ h=>⟨h.1,_,λ_ _ hk=>hk.HH v,h.2⟩⟩)
def WD.lskip(hL:L[i]?=some ⟨some d,op,ty,pos,af,g⟩)(hd:Nat.blt d n=true)(hg:gok L e g=some false)(h:WD P n L hs b0 F0 r ((d,undef)::e) bx F Q):WD P n L hs b0 F0 (.loud i r) e bx F Q:=
 WD.l_of _ hL (.inl ⟨hg,_,λ_ _ hk=>hk.put hd undef,h⟩)
def WM(P:nh)(n:Nat)(L:List Oper)(hs:List Nat)(b0:nw)(F0:nc)(p:Plan)(e:Env)(bx:nw)(F:nc)(Q:Env->nw->nc->Prop):Prop:=
 ∀fr w0 listed a w f' (Q':Bk->Exit->Act->nm->Prop) (fr0:CF),fr0.le fr->(∀own a x y,Q' own .normal a x->Rly own fr.sh x y->Q' own .normal a y)->Region.noSelect L.toArray=true->chkR L hs p listed=true->Down L.toArray listed->(∀j∈p.heads,j∈Region.ready .any L.toArray listed)->
  (∀fr' a' w' e' bx' F',fr.le fr'->Kn fr'.ds n a' e'->Rest w0 w'->OK fr' bx' F' w'->Q e' bx' F'->Q' fr'.own .normal a' w')->
  ((∃i∈hs,listed.getD i true=false)->OK fr b0 F0 w)->Kn fr.ds n a e->Rest w0 w->OK fr bx F w->p.len<=f'+1->∀j∈p.heads,OpR P fr.main fr.sh L.toArray j (λx own' a' w'=>(Q3 L hs j=false->SR fr0 b0 F0 fr.own x->SR fr0 b0 F0 own' w')/\YP P fr.main fr.sh L.toArray Q' (SR fr0 b0 F0) (Q3 L hs) f' (listed.setIfInBounds j true) own' a' w') fr.own a w
def WM.one_of(o:Oper)(hL:L[i]?=some o)
  (h:(gok L e o.guard=some false/\∃e',(∀ds a,Kn ds n a e->Kn ds n (a.put o.dst undef) e')/\WD P n L hs b0 F0 r e' bx F Q)\/
   (gok L e o.guard=some true/\LO P o.op o.type e bx F λv bx' F'=>(Q3 L hs i=true\/(b0.Sublist bx'/\∀f∈F0,f∈F'))/\
    ∃e',(∀ds a,Kn ds n a e->Kn ds n (a.put o.dst v) e')/\WD P n L hs b0 F0 r e' bx' F' Q)):WM P n L hs b0 F0 (.loud i r) e bx F Q:=λfr w0 listed a w f' Q' fr0 hle hP hns hc hd hr' hQ hS hk hr ho hf j hj=>by
 simp only[Plan.heads,bG] at hj hr';subst hj;simp only[chkR] at hc;exact Dz o hL hle hP hns hc hd (hr' j rfl) hQ hS hk hr ho wq72 h
def WM.Xg(o:Oper)(hL:L[i]?=some o)
  (h:(gok L e o.guard=some false/\∃e',(∀ds a,Kn ds n a e->Kn ds n (a.put o.dst undef) e')/\WD P n L hs b0 F0 r e' bx F Q)\/
   (gok L e o.guard=some true/\LO P o.op o.type e bx F λv bx' F'=>(Q3 L hs i=true\/(b0.Sublist bx'/\∀f∈F0,f∈F'))/\
    ∃e',(∀ds a,Kn ds n a e->Kn ds n (a.put o.dst v) e')/\WD P n L hs b0 F0 r e' bx' F' Q)) (h2:WM P n L hs b0 F0 s e bx F Q):WM P n L hs b0 F0 (.more i r s) e bx F Q:=λfr w0 listed a w f' Q' fr0 hle hP hns hc hd hr' hQ hS hk hr ho hf j hj=>by
 simp only[chkR,aE] at hc;simp only[Plan.heads,bq] at hj hr';have hf':max (r.len+1) s.len<=f'+1:=by simpa [Plan.len] using hf
 rcases hj with rfl|hj
 ·exact Dz o hL hle hP hns hc.1 hd (hr' j (.inl rfl)) hQ hS hk hr ho qo h
 ·exact h2 fr w0 listed a w f' Q' fr0 hle hP hns hc.2 hd (λk hk=>hr' k (.inr hk)) hQ hS hk hr ho qo j hj
def WD.Xg(h:WM P n L hs b0 F0 (.more i r s) e bx F Q):WD P n L hs b0 F0 (.more i r s) e bx F Q:=λfr w0 listed a w fuel Q' hP hns hc hd hQ hS hk hr ho hf fr0 hle=>by
 simp only[chk,aE,co] at hc;obtain⟨hc0,hc1,hc2⟩:=hc;have hf':max (r.len+1) s.len<=fuel:=by simpa [Plan.len] using hf
 obtain⟨f',rfl⟩:∃f',fuel=f'+1:=⟨fuel-1,by omega⟩
 refine⟨λh0=>(by rw[h0] at hc0;cases hc0),λk hk'=>?_⟩;have hrd:∀j∈(Plan.more i r s).heads,j∈Region.ready .any L.toArray listed:=λj hj=>by rw[hc0];exact hj
 rw[hc0] at hk';exact h fr w0 listed a w f' Q' fr0 hle hP hns (by simp only[chkR,aE];exact⟨hc1,hc2⟩) hd hrd hQ hS hk hr ho (by simp[Plan.len];omega) k hk'
def WM.one(hL:L[i]?=some ⟨some d,op,ty,pos,af,g⟩)(hd:Nat.blt d n=true)(hg:gok L e g=some true)
  (hl:LO P op ty e bx F λv bx' F'=>(Q3 L hs i=true\/(b0.Sublist bx'/\∀f∈F0,f∈F'))/\WD P n L hs b0 F0 r ((d,v)::e) bx' F' Q):WM P n L hs b0 F0 (.loud i r) e bx F Q:=
 WM.one_of _ hL (.inr ⟨hg,hl.mono λv b f h=>⟨h.1,_,λ_ _ hk=>hk.put hd v,h.2⟩⟩)
def WM.HZ(hL:L[i]?=some ⟨none,op,ty,pos,af,g⟩)(hg:gok L e g=some true)
  (hl:LO P op ty e bx F λ_ bx' F'=>(Q3 L hs i=true\/(b0.Sublist bx'/\∀f∈F0,f∈F'))/\WD P n L hs b0 F0 r e bx' F' Q):WM P n L hs b0 F0 (.loud i r) e bx F Q:=
 WM.one_of _ hL (.inr ⟨hg,hl.mono λv _ _ h=>⟨h.1,_,λ_ _ hk=>hk.HH v,h.2⟩⟩)
def WM.more(hL:L[i]?=some ⟨some d,op,ty,pos,af,g⟩)(hd:Nat.blt d n=true)(hg:gok L e g=some true)
  (hl:LO P op ty e bx F λv bx' F'=>(Q3 L hs i=true\/(b0.Sublist bx'/\∀f∈F0,f∈F'))/\WD P n L hs b0 F0 r ((d,v)::e) bx' F' Q) (h2:WM P n L hs b0 F0 s e bx F Q):WM P n L hs b0 F0 (.more i r s) e bx F Q:=
 WM.Xg _ hL (.inr ⟨hg,hl.mono λv b f h=>⟨h.1,_,λ_ _ hk=>hk.put hd v,h.2⟩⟩) h2
end
end W
end
end Go.Proofs.YtbnobghgnbockaaGreat
