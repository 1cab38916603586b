/- Lemmas. Conditions: none. -/
import Derived.Test.YtbnobghgnbockaaGreatZk23
set_option linter.all false
set_option maxHeartbeats 0
set_option maxRecDepth 100000
namespace Go.Proofs.YtbnobghgnbockaaGreat
section
open Go.RowKit
open Go.Conc hiding base G
open Go.ConcR (Payload)
namespace W
def ev_fill{P:nh}{g o:Nat}{t:nl}:∀(vs:ne) (i:Nat) (cur:Array nA) (w:nm) (es:Array Event),w.heap[g]?=some (.cells cur t (0,0))->o+i+vs.length<=cur.size->(∀v∈vs,v.oneCell'=true)->
  ∀ev∈(storeCells ⟨g,o,none⟩ vs i).events P w es,ev∈es\/∃j,i<=j/\j<i+vs.length/\ev=⟨.cell ⟨g,o+j,none⟩,true,false⟩:=by
 intro vs;induction vs with
 |nil=>intro i cur w es _ _ _ ev h;exact .inl (by simpa [storeCells] using h)
 |cons v rest ih=>
  intro i cur w es hg hl h1 ev h;simp only[aK] at hl ⊢;have hi:o+i<cur.size:=qo;have hc:w.cell? ⟨g,o+i,none⟩=some cur[o+i]:=by simp[World.cell?,hg,hi]
  have hz:w.frozen? ⟨g,o+i,none⟩=false:=by simp[World.frozen?,hg]
  have h2:=run_store P w ⟨g,o+i,none⟩ v .plain (h1 v (by simp));have h3:=events_store P w es ⟨g,o+i,none⟩ v .plain (h1 v (by simp));rw[hc] at h2 h3;simp only[hz,cM,dX] at h2 h3;rw[setCell_eq_setRow w g (o+i) cur t (0,0) v hg] at h2;simp only[storeCells,Sem.events_bind,Addr.add_lit,h2,Result.evThen_ok,h3] at h;rcases ih (i+1) _ _ _ (setRow_heap w g cur _ t _ hg) (by simp;omega) (λx hx=>h1 x (by simp[hx])) ev h with h|⟨j,h4,h5,h6⟩
  .rcases Array.mem_push.1 h with h|rfl
   .exact .inl h
   .exact .inr ⟨i,ai _,by omega,rfl⟩
  .exact .inr ⟨j,by omega,by omega,h6⟩
section
variable [Payload]{P:nh}{p:Ph}{n:Nat}{L:List Oper}{e:Env}{i ri:Nat}{t ty:nl}{x y:ni}{pos:String}{af:Array Edge}{v:nA}{vs:ne}
def odd_store(hL:L[i]?=some ⟨none,.store t x y,ty,pos,af,none⟩)(hx:ev e x=some (.pointer (some ⟨p.C,p.m*ri,none⟩)))(hy:ev e y=some v)(hvs:v.cells.toList=vs)(hsz:(P.info? t).map (·.size)=some vs.length)
  (h1:∀u∈vs,u.oneCell'=true) (hm:vs.length=p.m) (hm0:0<p.m) (hri:ri<p.N) {ds:List Deferred} {own:Bk} {a:Act} {w:nm} {Q':RQ} (hk:Kn ds n a e) (ho:∃k,own k) (hF:∀w1,Rly own p.S0 w w1->p.F ri vs (Xw (λk=>own k\/p.S0 k) w1))
  (hQ:∀w',Q' (λ_=>False) .normal a w'):OpR P (Gc p ri) p.S0 L.toArray i (λ_ own' a' w'=>Q' own' .normal a' w') own a w:=by
 unfold OpR;have hLa:L.toArray[i]?=some ⟨none,.store t x y,ty,pos,af,none⟩:=by simpa using hL
 simp only[hLa];rw[ah (by rfl)];intro w1 hr;refine .inr λhi=>?_;obtain⟨cs,hb,hcs⟩:=hi.2.2.2
 have hfit:p.m*ri+vs.length<=cs.size:=by
  rw[hcs,hm,<-Nat.mul_succ];exact ef _ hri
 obtain⟨ti,hti,hisz⟩:=Option.map_eq_some_iff.1 hsz;have hst:=run_storeCells_at P p.C (p.m*ri) p.ety vs 0 cs w1 hb (by simpa using hfit) h1;have hvc:v.cells.size=vs.length:=by rw[<-hvs];simp
 have hc:P.cellsOf t=vs.length:=by simp[Program.cellsOf,hti,hisz]
 have hb':=setRow_heap w1 p.C cs (cs.toList.take (p.m*ri)++vs++cs.toList.drop (p.m*ri+vs.length)).toArray p.ety (0,0) hb;have hl:(cs.toList.take (p.m*ri)++vs++cs.toList.drop (p.m*ri+vs.length)).length=cs.size:=by simp;omega
 refine⟨w1.setRow p.C (cs.toList.take (p.m*ri)++vs++cs.toList.drop (p.m*ri+vs.length)).toArray,λ_=>False,?_,λes hes=>?_,?_⟩
 .simp[execOp,hk.eval hx,hk.eval hy,Instr.storeAt,Instr.sureAddr,storeVar,run_sizeOf w1 hti,hisz,hvc,hvs,hc,hst]
 .refine⟨vs,hm,λ_ h=>h,ho,⟨rfl,rfl,rfl⟩,size_setRow _ _ _,λk hk2=>setRow_other w1 p.C k _ hk2,λ_=>⟨_,hb',by simpa [hcs] using hl⟩,λr hr2=>?_,λo2 ho2=>?_,λev hev=>?_,hF w1 hr⟩
  .have h4:p.m*ri<=cs.size:=qo;have h5:p.m*ri+r<cs.size:=qo;simp only[World.cell?,hb'];simp[List.getElem?_append,hm,hr2,h4,aF h4]
  .have h4:p.m*ri<=cs.size:=qo;simp only[World.cell?,hb',hb]
   have h6:o2<p.m*ri\/p.m*ri+p.m<=o2:=by
    rcases cQ o2 (p.m*ri) with h|h
    .exact .inl h
    .refine .inr (aP λh7=>ho2 ?_);rw[Nat.div_eq_iff hm0];constructor<;>(try rw[aY])<;>omega
   rcases h6 with h6|h6
   .simp[List.getElem?_append,h6,h4,aF h4]
   .simp[List.getElem?_append,hm,h4,aF h4];rw[ae qo,ae qo]
    congr 1
    omega
  .have:=hes ev hev;simp[execOp,hk.eval hx,hk.eval hy,Instr.storeAt,Instr.sureAddr,storeVar,sizeOf,typeInfo,run_sizeOf w1 hti,hti,hisz,hvc,hvs,hc,hst] at this;rcases ev_fill vs 0 cs w1 #[] hb (by simpa using hfit) h1 ev this with h|⟨j,_,h5,h6⟩
   .simp at h
   .refine⟨p.m*ri+j,?_,h6⟩;rw[cG hm0,cw qo,cC]
 .have:a.put none undef=a:=by simp[Act.put]
  rw[this];exact hQ _
end
end W
end
section
open Go.RowKit
open Go.Conc hiding base
open Go.ConcN
open Go.ConcR (KK WgAt stA smA rd wr mk wgBlock Payload DC0)
open Go.Conc.Lib (WgLink WgLib)
namespace W
section
variable {P:nh}{main:Md}{sh own:Bk}{Stop:GSt}{G0:Goroutine}
def run_tail(hb:main.b=true):∀(m:Nat) (g:Goroutine) (w:nm),Goes P true (λ_ _=>True) DC0 (λg _=>g=G0) m g w->(∀w',Rly own sh w w'->Run P main sh Stop own G0 w')->Run P main sh Stop own g w
 |0,g,w,h,hk=>by have:=h w trivial;subst this;exact hk w (.refl _ _ _)
 |m+1,g,w,h,hk=>by
  rcases h with h|⟨hs,h⟩
  .have:=h w trivial;subst this;exact hk w (.refl _ _ _)
  .refine Run.goF hs λw1 h1 hi=>?_;have h2:=h w1 trivial;rw[hb];cases hst:stepG P true g w1 with
   |go g' w' es=>
    rw[hst] at h2;obtain⟨⟨e1,e2⟩,h3⟩:=h2;subst e1 e2;exact⟨g',_,_,own,rfl,.inl ⟨X8.idle _ _ _,(QW (ai _)).symm⟩,run_tail hb m g' _ h3 λw2 h2=>hk w2 (h1.trans h2)⟩
   |_=>rw[hst] at h2;exact h2.elim
end
def isX(P:nh):Fct:=⟨λh=>h.md=XM P,λ_ _ hl h=>hl.md.trans h⟩
def geL(l:Nat->Option Obj):Fct:=⟨λh=>∀k o,l k=some o->h k=some o,λ_ _ hl h k o hk=>hl _ _ (h k o hk)⟩
def Fct.free(f:Fct):Prop:=∀md md' l,f.p ⟨md,l⟩->f.p ⟨md',l⟩
def Fct.free.to{f:Fct}(h:f.free){md md':Md}{l l':Nat->Option Obj}(hp:f.p ⟨md,l⟩)(hl:∀k o,l k=some o->l' k=some o):f.p ⟨md',l'⟩:=f.mono ⟨md',l⟩ _ ⟨rfl,hl⟩ (h _ _ _ hp)
def Gw(n:Nat)(f:Nat->Fct):Fct:=⟨λh=>∀i,i<n->(f i).p h,λ_ _ hl h i hi=>(f i).mono _ _ hl (h i hi)⟩
def JG(m:Nat)(vs:Nat->ne)(j:Nat):nA:=(vs (j/m)).getD (j%m) undef
def frW[Payload](p:Ph)(ri box:Nat)(ds:List Deferred):CF:={main:=Gc p ri,sh:=p.S0,own:=λk=>k=box,fr:=λ_=>none,ds:=ds}
def To[Payload](p:Ph)(ri:Nat):CF->nm->RQ->Prop:=λfr _ Q'=>fr.main=Gc p ri/\fr.sh=p.S0/\∀a w,a.defers=fr.ds->Q' (λ_=>False) .normal a w
def To.up[Payload]{p:Ph}{ri:Nat}(fr fr':CF)(w0:nm)(Q':RQ)(h:fr.le fr')(ht:To p ri fr w0 Q'):To p ri fr' w0 Q':=⟨h.main.trans ht.1,h.sh.trans ht.2.1,λa w hd=>ht.2.2 a w (hd.trans h.ds)⟩
open Classical in
noncomputable def K8(hid:Bk)(l:Nat->Option Obj)(k:Nat):Option Obj:=if hid k then none else l k
def FJ(P:nh)(hid:Bk)(Rr:Nat->ne->Fct->Prop)(ri:Nat)(vs:ne)(l:Nat->Option Obj):Prop:=∃f,Rr ri vs f/\f.free/\f.p ⟨XM P,K8 hid l⟩
def FJ.mono{P:nh}{hid:Bk}{Rr:Nat->ne->Fct->Prop}(ri:Nat)(vs:ne)(L L':Nat->Option Obj)(hl:∀k o,L k=some o->L' k=some o)(h:FJ P hid Rr ri vs L):FJ P hid Rr ri vs L':=by
 obtain⟨f,h1,h2,h3⟩:=h;refine⟨f,h1,h2,h2.to h3 λk o hk=>?_⟩;unfold K8 at hk ⊢;split at hk
 .cases hk
 .rename_i hc;rw[ae hc];exact hl k o hk
section
variable [Payload]{P:nh}{p:Ph}{n ri box:Nat}{L:List Oper}{hs:List Nat}{b0 bx:nw}{F0 F:nc}{e:Env}{i:Nat}{t ty tg:nl}{x y:ni}{pos:String}{af:Array Edge}{v:nA}{vs cs:ne}{Rr:Nat->ne->Fct->Prop}
def WDo.store(hL:L[i]?=some ⟨none,.store t x y,ty,pos,af,none⟩)(hl:Q3 L hs i=true)(hx:ev e x=some (.pointer (some ⟨p.C,p.m*ri,none⟩)))(hy:ev e y=some v)(hvs:v.cells.toList=vs)(hsz:(P.info? t).map (·.size)=some vs.length)
  (h1:∀u∈vs,u.oneCell'=true) (hm:vs.length=p.m) (hm0:0<p.m) (hri:ri<p.N) (hb:Ow.cells box tg cs∈bx) (hpF:p.F=FJ P p.hid Rr) (f:Fct) (hf:Has F f) (hfree:f.free) (hR:Rr ri vs f):WDo P n L hs b0 F0 (.loud i .done) e bx F (To p ri):=
 WDo.odd _ hL hl λfr w0 a w Q' hT hk hr ho=>by
  obtain⟨h2,h3,h4⟩:=hT;rw[h2,h3];refine odd_store hL hx hy hvs hsz h1 hm hm0 hri hk ⟨box,(ho.apart box (JN.2 ⟨_,hb,by simp[Ow.ids]⟩)).1⟩ (λw1 hr1=>?_) λw'=>h4 a w' hk.defers;have ho1:=ho.rely (w1:=w1) (by rw[h3];exact hr1);rw[hpF];refine⟨f,hR,hfree,hfree.to (ho1.has hf) λk o hk=>?_⟩;have hmi:=Yq hk
  have hnh:¬p.hid k:=λhh=>by
   rcases hmi with hx|hx
   .exact(ho1.frame.2.2 k (by show fr.main.no k;rw[h2];exact hh)).2 hx
   .exact hx.2 (by rw[h2];exact hh)
  unfold K8 Xw;rw[ae hnh,ah (by rw[<-h3];exact CF.vs_w hmi)];exact JA hk
end
section
variable [Payload]{P:nh}{p:Ph}{own:Bk}{ds:List Deferred}{FP:nc}{l0:Nat->Option Obj}{w:nm}{g tg:Nat}{cs:ne}
def ok_worker(hfree:∀f∈FP,f.free/\f.p ⟨XM P,K8 p.hid l0⟩)(hl0:∀k o,l0 k=some o->p.S0 k)(hh:∀k,p.hid k->∃o,l0 k=some o)(ho:OK (frP p.ty p.Wg p.S0 own ds) [Ow.cells g tg cs] (geL l0::FP) w)(ri:Nat)(ds':List Deferred):OK (frW p ri g ds') [Ow.cells g tg cs] (geL (K8 p.hid l0)::FP) w:=by
 have hge:=ho.facts _ (an ..);have hg:=ho.owns _ (an ..);have hlt:g<w.heap.size:=Ow.lt hg g (by simp[Ow.ids])
 have hst:∀k o,l0 k=some o->w.heap[k]?=some o/\k≠g:=λk o hk=>by
  have h1:imm (frP p.ty p.Wg p.S0 own ds) [Ow.cells g tg cs] w.heap k=some o:=hge k o hk;refine⟨JA h1,?_⟩;simp only[imm] at h1;split at h1
  .cases h1
  .rename_i hc
   simp[ids,Ow.ids,frP] at hc;exact hc
 have hw:∀k o,K8 p.hid l0 k=some o->imm (frW p ri g ds') [Ow.cells g tg cs] w.heap k=some o:=λk o hk=>by
  unfold K8 at hk;split at hk
  .cases hk
  .rename_i hnh
   show(if(((none:Option Obj).isSome) ||(ids [Ow.cells g tg cs]).contains k)=true then none else(frW p ri g ds').see w.heap k)=some o;rw[ae (by simp[ids,Ow.ids,(hst k o hk).2]),CF.Yy (c:=frW p ri g ds') (.inr ⟨hl0 k o hk,hnh⟩)];exact(hst k o hk).1
 refine⟨⟨λk o hk=>(by cases hk),λk hk=>?_,λk hk=>?_⟩,λk hk=>?_,by simp[ids,Ow.ids],λb hb=>by rw[List.mem_singleton.1 hb];exact hg,λf hf=>?_⟩
 .rcases hk with hk|hk
  .rw[show k=g from hk];exact hlt
  .exact ho.frame.2.1 k (.inr hk)
 .obtain⟨o,h1⟩:=hh k hk;have h2:=hst k o h1;exact⟨(Array.getElem?_eq_some_iff.1 h2.1).1,h2.2⟩
 .simp[ids,Ow.ids] at hk;exact⟨hk,rfl⟩
 .rcases List.mem_cons.1 hf with rfl|hf
  .exact hw
  .exact(hfree f hf).1.to (hfree f hf).2 hw
def worker_wc{L:WgLink}(H:WgLib P L)(hL:p.ty=L.tWg)(hS:p.S0 p.Bx){f:np}{fn:Func}{capt:ne}{idd idl n:Nat}{x:ni}{ats:Array nl}{tyd:nl}{posd:String}{cA:Code}{Lo:List Oper}{e0:Env}
  (hf:P.funcs[f]?=some fn) (hname:(fn.name == "runtime.NumGoroutine")=false)
  (hb:fn.body=some (.seq (.region idd #[{dst:=none,op:=.defer {callee:=.value (.func L.done),args:=#[x],argTypes:=ats},type:=tyd,pos:=posd,after:=#[],guard:=none}] false) (.seq cA (.region idl Lo.toArray true)))) (hres:fn.results=#[]) (hn:fn.ntmps=n) (hargs:Nat.ble capt.length n=true) (he:Sub e0 (parEnv 0 capt)) (hx:ev e0 x=some (.pointer (some ⟨p.Wg,0,none⟩)))
  (hm:P.follows .mixedOrders=true) (hs:List Nat) (pl:Plan) (hck:(Region.noSelect Lo.toArray && (chk Lo hs pl (Array.replicate Lo.length false) && Nat.ble pl.len Lo.length))=true) {ri:Nat} {F:nc}
  (hA:WC P n cA e0 [Ow.cells g tg cs] F (λex e bx F'=>ex=.normal/\WDo P n Lo hs bx F' pl e bx F' (To p ri)))
  (ho:∀ds,OK (frW p ri g ds) [Ow.cells g tg cs] F w):Wrk P p ri g (born P {target:=.fn (.func f) capt.toArray,args:=#[]}) w:=by
 have hargs':capt.length<=n:=bV hargs
 have hk:Kn [] n {tmps:=capt.toArray++Array.replicate (fn.ntmps-capt.toArray.size) undef,defers:=[]} e0:=by
  refine Kn.sub (e:=parEnv 0 capt) ⟨by simp[hn];omega,rfl,λk v hk=>?_⟩ he;obtain⟨_,h2⟩:=ZC _ _ _ _ hk;simp at h2;rw[Array.getElem?_append_left (by simpa using (List.getElem?_eq_some_iff.1 h2).1)];simpa using h2
 refine worker_run H hL hS hf hname hb hres λw1 hr1=>?_;refine wpR0_seq (wpR0_defer ?_);rw[hk.eval hx];refine DR (wpR_seq ?_);have hk2:Kn (frW p ri g [dcall L.done #[.pointer (some ⟨p.Wg,0,none⟩)]]).ds n ⟨(capt.toArray++Array.replicate (fn.ntmps-capt.toArray.size) undef),[dcall L.done #[.pointer (some ⟨p.Wg,0,none⟩)]]⟩ e0:=⟨hk.size,rfl,hk.at'⟩
 have hwp:=hA (frW p ri g [dcall L.done #[.pointer (some ⟨p.Wg,0,none⟩)]]) w1 _ w1 hk2 (.refl _) ((ho _).rely hr1);refine XC hwp λown' ex a' w' hq=>?_
 have key:∀{ex},(∃e bx F,Kn (frW p ri g [dcall L.done #[.pointer (some ⟨p.Wg,0,none⟩)]]).ds n a' e/\Rest w1 w'/\OK ((frW p ri g [dcall L.done #[.pointer (some ⟨p.Wg,0,none⟩)]]).at own') bx F w'/\ex=Exit.normal/\WDo P n Lo hs bx F pl e bx F (To p ri))->ex=Exit.normal/\wpR P (Gc p ri) p.S0 (.region idl Lo.toArray true) (λown' e a' w'=>(e=.normal\/e=.ret)/\(∀k,¬own' k)/\a'.defers=[dcall L.done #[.pointer (some ⟨p.Wg,0,none⟩)]]) own' a' w':=λ⟨e,bx,F,h1,h2,h3,h4,h5⟩=>⟨h4,by
  refine WDo.draw (fr:=(frW p ri g [dcall L.done #[.pointer (some ⟨p.Wg,0,none⟩)]]).at own') (w0:=w1) (T:=To p ri) hs pl hm hck h5 ⟨rfl,rfl,λa w hd=>⟨w,.refl _ _ _,.inl rfl,λ_ h=>h,hd⟩⟩ h1 h2 h3⟩
 cases ex with
 |normal=>exact(key hq.2).2
 |exit id=>cases(key hq.2).1
 |ret=>cases(key hq.2).1
 |_=>exact hq.elim
end
end W
namespace W
section
variable [Payload]{P:nh}{L:WgLink}{n:Nat}{e:Env}{bx br:nw}{F FP:nc}{Q:Post}{C N cap m Bx d5:Nat}{ety tint:nl}{cs:ne}{v0:nA}{c6 c7 c8 c11 rest:Code}{t31:ni}{id5 id0 id1 id9 id10 id12:Nat}
 {o5 o9 oM oG o12:Oper} {capt:Nat->Nat->ne} {fw:np} {E0 EZ:Nat->Env} {E E1:Nat->Nat->Env} {E2 E3:Nat->Nat->Nat->Env} {Rr:Nat->ne->Fct->Prop}
def WX.phase(H:WgLib P L)(hX:Has F (isX P))(hp:bx.Perm (Ow.slice (.slice (some ⟨C,0,none⟩) N cap) ety m cs::br))(hm:0<m)(hN:0<N)(hNb:N<1000000000)(hBx:Has F (ce Bx Payload.ety [v0]))(hFP:∀f∈FP,Has F f/\f.free)
  (h5:∀(a:Act) (w:nm),(execOp a.eval o5).run P w=.ok (.value (.pointer (some ⟨w.heap.size,0,none⟩))) (w.alloc (wgBlock L.tWg 0 0))/\(execOp a.eval o5).events P w #[]=#[]) (h5g:o5.guard=none) (h5d:o5.dst=some d5) (hd5:Nat.blt d5 n=true) (hE0:∀Wg,Sub (E0 Wg) ((d5,.pointer (some ⟨Wg,0,none⟩))::e))
  (h6:∀Wg l0,WC P n c6 (E0 Wg) [] (geL l0::FP) (λex e' bx' F'=>ex=.normal/\Sub (E Wg 0) e'/\Qz F' (geL l0::FP)))
  (h7:∀Wg l0 i,i<=N->WC P n c7 (E Wg i) [] (geL l0::FP) (λex e' bx' F'=>ex=.normal/\Sub (E1 Wg i) e'/\Qz F' (geL l0::FP)))
  (h7t:∀Wg i,i<=N->ev (E1 Wg i) t31=some (.bool (decide (i<N))))
  (h8:∀Wg l0 i,i<N->WC P n c8 (E1 Wg i) [] (geL l0::FP) (λex e' bx' F'=>ex=.normal/\∃g,Sub (E2 Wg i g) e'/\bx'=[Ow.cells g tint [.int .i64 (i:Int)]]/\Qz F' (geL l0::FP)))
  (h9:∀Wg i g ds (a:Act) (w:nm),Kn ds n a (E2 Wg i g)->(execOp a.eval o9).run P w=.ok (.enter L.add #[.pointer (some ⟨Wg,0,none⟩),.int .i64 1]) w/\(execOp a.eval o9).events P w #[]=#[]) (h9g:o9.guard=none) (h9d:∀Wg i g ds a,Kn ds n a (E2 Wg i g)->Kn ds n (a.put o9.dst (.tuple #[])) (E2 Wg i g))
  (hM:∀Wg i g ds (a:Act) (w:nm),Kn ds n a (E2 Wg i g)->(execOp a.eval oM).run P w=.ok (.value (.func (.func fw) #[] (capt Wg g).toArray)) w/\(execOp a.eval oM).events P w #[]=#[]) (hMg:oM.guard=none) (hMd:∀Wg i g ds a,Kn ds n a (E2 Wg i g)->Kn ds n (a.put oM.dst (.func (.func fw) #[] (capt Wg g).toArray)) (E3 Wg i g))
  (hG:∀Wg i g ds (a:Act) (w:nm),Kn ds n a (E3 Wg i g)->(execOp a.eval oG).run P w=.ok (.spawn {target:=.fn (.func fw) (capt Wg g).toArray,args:=#[]}) w/\(execOp a.eval oG).events P w #[]=#[]) (hGg:oG.guard=none) (hGd:∀Wg i g ds a,Kn ds n a (E3 Wg i g)->Kn ds n (a.put oG.dst undef) (E3 Wg i g))
  (h11:∀Wg l0 i g,i<N->WC P n c11 (E3 Wg i g) [] (geL l0::FP) (λex e' bx' F'=>ex=.normal/\Sub (E Wg (i+1)) e'/\Qz F' (geL l0::FP)))
  (h12:∀Wg ds (a:Act) (w:nm),Kn ds n a (E1 Wg N)->(execOp a.eval o12).run P w=.ok (.enter L.wait #[.pointer (some ⟨Wg,0,none⟩)]) w/\(execOp a.eval o12).events P w #[]=#[]) (h12g:o12.guard=none) (h12d:∀Wg ds a,Kn ds n a (E1 Wg N)->Kn ds n (a.put o12.dst (.tuple #[])) (EZ Wg))
  (hW:∀(p:Ph) l1 i g w,p.ty=L.tWg->p.S0 p.Bx->p.C=C->p.m=m->p.N=cap->p.F=FJ P p.hid Rr->i<N->N<=cap->cap<=maxLen->(∀ds,OK (frW p i g ds) [Ow.cells g tint [.int .i64 (i:Int)]] (geL l1::FP) w)->Wrk P p i g (born P {target:=.fn (.func fw) (capt p.Wg g).toArray,args:=#[]}) w)
  (hR:∀Wg vs (fs:Nat->Fct),(∀i,i<N->Rr i (vs i) (fs i)/\(vs i).length=m)->WX P n rest (EZ Wg) br (slC (.slice (some ⟨C,0,none⟩) N cap) N m (JG m vs)::Gw N fs::F) Q) :
  WX P n (.seq (.region id5 #[o5] false) (.seq (.seq c6 (.block id0 (.loop (rnd c7 c8 c11 t31 id0 id1 id9 id10 o9 oM oG)))) (.seq (.region id12 #[o12] false) rest))) e bx F Q:=λfr Ds w0 a w hDn hD hk hr ho b k Cs Stop hb hke hc=>by
 have hmain:fr.main=XM P:=ho.has hX;refine Run.quiet rfl (λ_=>X1) ?_;refine Run.quiet rfl (λ_=>Y6) ?_;refine Run.stroke (Run P fr.main fr.sh Stop) rfl (λw1 hr1=>?_) λ_ _ _ h=>h
 have hSp:(XM P).Sp fr.sh fr.own (G (b.atR a (.inRegion #[o5] (List.range (#[o5]:Array Oper).size)::.code (.seq (.seq c6 (.block id0 (.loop (rnd c7 c8 c11 t31 id0 id1 id9 id10 o9 oM oG)))) (.seq (.region id12 #[o12] false) rest))::k)) Cs) w1 (Run P fr.main fr.sh Stop):=λhsh=>by
  have ho1:=(ho.rely (w1:=w1) hr1).perm hp;obtain⟨n',hl,⟨hv,_⟩|⟨C',cap',sp,hv,hle,hcap,hblk,hlen⟩⟩:=ho1.owns _ (an ..)
  .cases hv
  cases hv;have hCo:fr.own C/\(fr.mkd Ds).fr C=none:=ho1.apart C (by simp[ids,Ow.ids]);have hnd:=ho1.nodup;simp only[ids,aZ,Ow.ids,bf,cI] at hnd;have hbxi:=ho1.has hBx;have hbx1:w1.heap[Bx]?=some (.cells #[v0] Payload.ety (0,0)):=JA hbxi
  have hvis:∀k o,imm (fr.mkd Ds) (Ow.slice (.slice (some ⟨C,0,none⟩) N cap) ety m cs::br) w1.heap k=some o->(fr.own k/\k≠C)/\(fr.mkd Ds).fr k=none/\k∉ids br:=λk o hk=>by
   have h1:fr.own k\/fr.vs k:=Yq (fr:=fr.mkd Ds) hk;simp only[imm] at hk;split at hk
   .cases hk
   .rename_i hx
    simp only[b7,bu,not_or,ids,aZ,Ow.ids,bf,bq,eO,dk,dC] at hx;exact⟨⟨h1.elim id λh=>absurd h.1 (hsh _),hx.2.1⟩,hx.1,hx.2.2⟩
  let S0:Bk:=λk=>(fr.own k/\k≠C)\/fr.sh k
  let l0:=Xw S0 w1
  let hid:Bk:=λk=>S0 k/\((fr.mkd Ds).fr k≠none\/k∈ids br)
  have hlt0:∀k,S0 k->k<w1.heap.size:=λk hk=>ho1.frame.2.1 k (hk.imp eJ id)
  have hl0:∀k o,l0 k=some o->S0 k/\w1.heap[k]?=some o:=λk o hk=>by
   simp only[l0,Xw] at hk;split at hk
   .exact⟨by assumption,hk⟩
   .cases hk
  have hl0i:∀k,S0 k->l0 k=w1.heap[k]?:=λk hk=>by simp only[l0,Xw];rw[ah hk]
  have hfl0:∀f∈FP,f.free/\f.p ⟨XM P,K8 hid l0⟩:=λf hf=>⟨(hFP f hf).2,(hFP f hf).2.to (ho1.has (hFP f hf).1) λk o hk=>by
   have h1:=hvis k o hk;have hs:S0 k:=.inl h1.1;unfold K8;rw[ae (λhx=>hx.2.elim (λh=>h h1.2.1) h1.2.2),hl0i k hs];exact JA hk⟩
  let Wg:=w1.heap.size
  let Kf:GSt:=λown g w=>∃a',g=G (b.at (a'.put o12.dst (.tuple #[])) (.inRegion #[o12] []::.code rest::k)) Cs/\Kn (fr.mkd Ds).ds n a' (E1 Wg N)/\OK (frP L.tWg Wg S0 own (fr.mkd Ds).ds) [] (geL l0::FP) w
  have hnWg:¬S0 Wg:=λhx=>by have:=hlt0 _ hx;omega
  refine phase_stk (hid:=hid) (ety:=ety) (C:=C) (m:=m) (N:=N) (Nc:=cap) (Bx:=Bx) (v0:=v0) (F:=FJ P hid Rr) (So:=λk=>fr.own k/\k≠C) (Fin:=FinW P S0 Kf) (AnchW:=AnW S0 L Wg Kf) (ty:=L.tWg)
   (g1:=G (b.atR (a.put o5.dst (.pointer (some ⟨Wg,0,none⟩))) (.inRegion #[o5] []::.code (.seq (.seq c6 (.block id0 (.loop (rnd c7 c8 c11 t31 id0 id1 id9 id10 o9 oM oG)))) (.seq (.region id12 #[o12] false) rest))::k)) Cs)
   rfl hm hN hNb FJ.mono hCo.1 (λk h=>h.1) (λh=>h.2 rfl) ⟨_,hblk,by simpa [aY] using hlen⟩ ⟨.inl (hvis Bx _ hbxi).1,⟨_,hbx1,rfl⟩,by show w1.cell? _=_;simp[World.cell?,hbx1]⟩ (Array.getElem?_eq_some_iff.1 hbx1).1 (λd=>?_) (λown g w h=>h.running) (λown g w1' hl h=>anchor_run H hnWg hl h) (λb0 Sh0 w0' d=>?_) (λb0 Sh0 o gv a' w' hMI hFin hrows=>?_) hsh
  .have:=H0 (P:=P) (m:=true) (b:=b) (cs:=Cs) (i:=0) (rest:=[]) (ops:=#[o5]) (o:=o5) (k:=.code (.seq (.seq c6 (.block id0 (.loop (rnd c7 c8 c11 t31 id0 id1 id9 id10 o9 oM oG)))) (.seq (.region id12 #[o12] false) rest))::k) rfl (wan h5g) (ndf (h5 a (w1.at d)).1 (by simp)) hke (h5 a (w1.at d)).1;rw[listed_none (h5 a (w1.at d)).2] at this;exact this
  .have hsz:((w1.at d).alloc (wgBlock L.tWg 0 0)).heap.size=w1.heap.size+1:=by
    have:(w1.at d).heap=w1.heap:=rfl;simp[this]
   have hkeep:∀k,k<w1.heap.size->((w1.at d).alloc (wgBlock L.tWg 0 0)).heap[k]?=w1.heap[k]?:=λk hk=>by
    have:(w1.at d).heap=w1.heap:=rfl;simp only[World.alloc,Array.getElem?_push,this];rw[ae qo]
   let p:Ph:=⟨L.tWg,Wg,Bx,v0,C,m,cap,ety,b0,S0,Sh0,FJ P hid Rr,w0',hid⟩
   obtain⟨X,hXe⟩:∃X:GSt,∀own g w,Spw P L.tWg Wg S0 (Wrk P p) (AnW S0 L Wg Kf) (b0+N) b0 N own g w=MR P L.tWg Wg S0 X own g w:=by
    cases N<;>exact⟨_,λ_ _ _=>rfl⟩
   have key:=starts (p:=p) (L:=L) (N:=N) (n:=n) (ds:=(fr.mkd Ds).ds) (FP:=geL l0::FP) (E:=E Wg) (E1:=E1 Wg) (E2:=E2 Wg) (E3:=E3 Wg) (c7:=c7) (c8:=c8) (c11:=c11) (rest:=rest) (t31:=t31) (id0:=id0) (id1:=id1) (id9:=id9) (id10:=id10) (id12:=id12) (b:=b) (k:=k) (cs:=Cs) (o9:=o9) (oM:=oM) (oG:=oG) (o12:=o12) (tint:=tint) (capt:=λg=>(capt Wg g).toArray) (fw:=fw) (Kf:=Kf) (b0:=b0) H rfl hnWg hb hke
    (h7 Wg l0) (h7t Wg) (h8 Wg l0) (λi g a w=>h9 Wg i g _ a w) h9g (λi g a=>h9d Wg i g _ a) (λi g a w=>hM Wg i g _ a w) hMg (λi g a=>hMd Wg i g _ a) (λi g a w=>hG Wg i g _ a w) hGg (λi g a=>hGd Wg i g _ a) (h11 Wg l0) (λa w=>h12 Wg _ a w) h12g
    (λi g own w hi hok=>hW p (K8 hid l0) i g w rfl (.inl (hvis Bx _ hbxi).1) rfl rfl rfl rfl hi hle hcap λds=>ok_worker (p:=p) hfl0 (λk o hk=>(hl0 k o hk).1) (λk hk=>⟨w1.heap[k]'(hlt0 k hk.1),by rw[hl0i k hk.1];exact Array.getElem?_eq_getElem _⟩) hok i ds)
    (λown a w hkn hok=>⟨a,rfl,hkn,hok⟩) N (ai _)
   rw[df] at key
   have ok0:OK (frP L.tWg Wg S0 (λ_=>False) (fr.mkd Ds).ds) [] (geL l0::FP) ((w1.at d).alloc (wgBlock L.tWg 0 0)):=by
    have him:∀k o,l0 k=some o->imm (frP L.tWg Wg S0 (λ_=>False) (fr.mkd Ds).ds) [] ((w1.at d).alloc (wgBlock L.tWg 0 0)).heap k=some o:=λk o hk=>by
     obtain⟨h1,h2⟩:=hl0 k o hk;have h3:=hlt0 k h1;show(if(((none:Option Obj).isSome) ||(ids []).contains k)=true then none else(frP L.tWg Wg S0 (λ_=>False) (fr.mkd Ds).ds).see _ k)=some o;rw[ae (by simp[ids]),CF.Yy (c:=frP L.tWg Wg S0 (λ_=>False) (fr.mkd Ds).ds) (.inr ⟨h1,λe:k=Wg=>hnWg (e ▸ h1)⟩),hkeep k h3];exact h2
    refine⟨⟨λk o hk=>(by cases hk),λk hk=>?_,λk hk=>⟨?_,λh=>h⟩⟩,λk hk=>(by simp[ids] at hk),by simp[ids],λb hb=>(by cases hb),λf hf=>?_⟩
    .rcases hk with hk|hk
     .exact hk.elim
     .have:=hlt0 k hk;omega
    .have:k=Wg:=hk;rw[this,hsz];exact Nat.lt_succ_self _
    .rcases List.mem_cons.1 hf with rfl|hf
     .exact him
     .refine(hfl0 f hf).1.to (hfl0 f hf).2 λk o hk=>?_;unfold K8 at hk;split at hk
      .cases hk
      .exact him k o hk
   have kn0:Kn (fr.mkd Ds).ds n (a.put o5.dst (.pointer (some ⟨Wg,0,none⟩))) (E0 Wg):=by
    rw[h5d];exact(hk.put hd5 _).sub (hE0 Wg)
   show Spw P L.tWg Wg S0 (Wrk P p) (AnW S0 L Wg Kf) (b0+N) b0 N (λ_=>False) _ _;rw[hXe];refine Run.quiet rfl (λ_=>J5) ?_;refine Run.quiet rfl (λ_=>X1) ?_;refine Run.quiet rfl (λ_=>X1) ?_;refine UX (h6 Wg l0) kn0 ok0 hke λXt a1 w1' e1 bx1 F1 k1 o1 ⟨s1,f1⟩=>?_;refine Run.quiet rfl (λ_=>Up) ?_;refine Run.quiet rfl (λ_=>DG) ?_;have:=key Xt a1 w1' (k1.sub s1) ((o1.drop (bM _)).YQ f1.all);show MR P L.tWg Wg S0 X Xt _ w1';rw[<-hXe];exact this
  .obtain⟨G0,⟨mt,ht⟩,hkf⟩:=hFin;have hsub:∀k,fr.own k->(∃x,o x k\/gv x k)\/(fr.own k/\k≠C)\/k=C:=λk hk=>.inr (by by_cases e:k=C;exact .inr e;exact .inl ⟨hk,e⟩);refine run_tail (by rw[hmain];rfl) mt a' w' ht λw2 hr2=>?_;obtain⟨a2,rfl,hk2,ho2⟩:=hkf w' (.refl _ _ _);rw[<-Frame.atR_of_none hb];refine Run.quiet rfl (λ_=>J5) ?_
   have hst:∀k,S0 k->w'.heap[k]?=w1.heap[k]?:=λk hk=>by
    have h1:=hlt0 k hk;have h2:l0 k=some w1.heap[k]:=by rw[hl0i k hk];exact Array.getElem?_eq_getElem h1
    rw[JA (ho2.facts _ (an ..) k _ h2)];exact(Array.getElem?_eq_getElem h1).symm
   have hex:∀i,∃vf:ne×Fct,i<N->Rr i vf.1 vf.2/\Gl C m w' i vf.1/\vf.2.free/\∃x,vf.2.p ⟨XM P,K8 hid (Xw (λk=>gv x k\/S0 k) w')⟩:=λi=>by
    by_cases hi:i<N
    .obtain⟨x,vs,h1,f,h2,h3,h4⟩:=hrows i hi;exact⟨(vs,f),λ_=>⟨h2,h1,h3,x,h4⟩⟩
    .exact⟨([],isX P),λh=>absurd h hi⟩
   let vs:Nat->ne:=λi=>(hex i).choose.1
   let fs:Nat->Fct:=λi=>(hex i).choose.2
   have hvf:∀i,i<N->Rr i (vs i) (fs i)/\Gl C m w' i (vs i)/\(fs i).free/\∃x,(fs i).p ⟨XM P,K8 hid (Xw (λk=>gv x k\/S0 k) w')⟩:=λi hi=>(hex i).choose_spec hi;obtain⟨cs',hc1,hc2⟩:=hMI.pay
   have hsee:∀k ob,((∃x,o x k\/gv x k)\/(fr.own k/\k≠C)\/k=C)->(fr.mkd Ds).fr k=none->k∉ids br->w'.heap[k]?=some ob->imm ((fr.at λk=>(∃x,o x k\/gv x k)\/(fr.own k/\k≠C)\/k=C).mkd Ds) br w'.heap k=some ob:=λk ob h1 h2 h3 h4=>by
    show(if(((fr.mkd Ds).fr k).isSome ||(ids br).contains k)=true then none else((fr.at λk=>(∃x,o x k\/gv x k)\/(fr.own k/\k≠C)\/k=C).mkd Ds).see w'.heap k)=some ob;rw[ae (by simp[h2,h3]),CF.Yy (c:=(fr.at λk=>(∃x,o x k\/gv x k)\/(fr.own k/\k≠C)\/k=C).mkd Ds) (.inl h1)];exact h4
   have hfrC:∀k ob,(fr.mkd Ds).fr k=some ob->S0 k/\w1.heap[k]?=some ob:=λk ob hk=>by
    have:=ho1.frame.1 k ob hk;exact⟨.inl ⟨this.1,λe=>by rw[e,hCo.2] at hk;cases hk⟩,this.2⟩
   have hbrS:∀k,k∈ids br->S0 k:=λk hk=>.inl ⟨(ho1.apart k wq129).1,λe=>hnd.1 (e ▸ hk)⟩
   have hOK:OK ((fr.at λk=>(∃x,o x k\/gv x k)\/(fr.own k/\k≠C)\/k=C).mkd Ds) br (slC (.slice (some ⟨C,0,none⟩) N cap) N m (JG m vs)::Gw N fs::F) w':=by
    have hF0:∀f∈F,f.p (imm ((fr.at λk=>(∃x,o x k\/gv x k)\/(fr.own k/\k≠C)\/k=C).mkd Ds) br w'.heap):=λf hf=>f.mono (imm (fr.mkd Ds) (Ow.slice (.slice (some ⟨C,0,none⟩) N cap) ety m cs::br) w1.heap) _ (.mk rfl λk ob hk=>by
     have h1:=hvis k ob hk;exact hsee k ob (.inr (.inl h1.1)) h1.2.1 h1.2.2 ((hst k (.inl h1.1)).trans (JA hk))) (ho1.facts f hf)
    refine⟨⟨λk ob hk=>?_,λk hk=>?_,λk hk=>?_⟩,λk hk=>?_,hnd.2,λb hb=>?_,λf hf=>?_⟩
    .have h1:=hfrC k ob hk;exact⟨.inr (h1.1.elim .inl λh=>absurd h (hsh k)),(hst k h1.1).trans h1.2⟩
    .rcases hk with (⟨x,hx⟩|hx|hx)|hx
     .exact hMI.lt x k hx
     .exact hMI.lt0 k (.inl hx)
     .rw[hx];exact hMI.wg.2.1
     .exact absurd hx (hsh k)
    .have hk:fr.main.no k:=hk;rw[hmain] at hk;exact hk.elim
    .have h1:=hbrS k hk;exact⟨.inr (h1.elim .inl λh=>absurd h (hsh k)),(ho1.apart k wq129).2⟩
    .exact Ow.Xk (ho1.owns b (au _ hb)) λk hk=>hst k (hbrS k (JN.2 ⟨b,hb,hk⟩))
    .rcases List.mem_cons.1 hf with rfl|hf
     .refine⟨some ⟨C,0,none⟩,cap,rfl,hle,hcap,.inr ⟨C,0,rfl,cs',ety,(0,0),hsee C _ (.inr (.inr rfl)) hCo.2 hnd.1 hc1,λj hj=>?_⟩⟩;have hjm:j/m<N:=(bK hm).2 hj;have hjr:j%m<m:=bw _ hm;obtain⟨-,⟨h2,h3⟩,-⟩:=hvf (j/m) hjm;have h4:=h3 (j%m) hjr;rw[dV] at h4;have h5:w'.cell? ⟨C,j,none⟩=cs'[j]?:=by simp[World.cell?,show w'.heap[C]?=some (.cells cs' ety (0,0)) from hc1]
      rw[h5] at h4;rw[aR,h4];show _=some (JG m vs j);unfold JG;rw[List.getD_eq_getElem?_getD,List.getElem?_eq_getElem (by rw[h2];exact hjr)];rfl
     .rcases List.mem_cons.1 hf with rfl|hf
      .intro i hi;obtain⟨-,-,h3,x,h4⟩:=hvf i hi;refine h3.to h4 λk ob hk=>?_;unfold K8 at hk;split at hk
       .cases hk
       .rename_i hnh
        unfold Xw at hk;split at hk
        .rename_i hx
         have hkn:k<w'.heap.size:=(Array.getElem?_eq_some_iff.1 hk).1;rcases hx with hx|hx
         .have hns:¬S0 k:=hMI.frz x k (.inr hx);refine hsee k ob (.inl ⟨x,.inr hx⟩) ?_ (λh=>hns (hbrS k h)) hk;cases hfk:(fr.mkd Ds).fr k with
          |none=>rfl
          |some ob'=>exact absurd (hfrC k ob' hfk).1 hns
         .refine hsee k ob (.inr (hx.elim .inl λh=>absurd h (hsh k))) ?_ (λh=>hnh ⟨hx,.inr h⟩) hk;cases hfk:(fr.mkd Ds).fr k with
          |none=>rfl
          |some ob'=>exact absurd ⟨hx,.inl (by rw[hfk];simp)⟩ hnh
        .cases hk
      .exact hF0 f hf
   exact hR Wg vs fs (λi hi=>⟨(hvf i hi).1,(hvf i hi).2.1.1⟩) (fr.at λk=>(∃x,o x k\/gv x k)\/(fr.own k/\k≠C)\/k=C) Ds w0 _ w2 hDn hD (h12d Wg _ a2 hk2) (((hr.trans hr1.rest).trans hMI.rest).trans hr2.rest) (hOK.rely hr2) b k Cs Stop hb hke λown3 ex a3 w3 hq=>hc own3 ex a3 w3 (postX.up hq hsub)
 rw[<-hmain] at hSp;exact hSp
end
end W
end
section
open W Go.RowKit
inductive Cut:Nat->Nat->ne->ne->Prop where
 |done {cs:ne}:Cut 0 0 cs []
 |take {m:Nat} {c:nA} {cs us:ne}:Cut 0 m cs us->Cut 0 (m+1) (c::cs) (c::us)
 |drop {q m:Nat} {c:nA} {cs us:ne}:Cut q m cs us->Cut (q+1) m (c::cs) us
def Cut.len{q m:Nat}{cs us:ne}(h:Cut q m cs us):us.length=m:=by
 induction h with
 |done=>rfl
 |take _ ih=>simp[ih]
 |drop _ ih=>exact ih
def Cut.eq{q m:Nat}{cs us:ne}(h:Cut q m cs us):(cs.drop q).take m=us:=by
 induction h with
 |done=>simp
 |take _ ih=>simpa using ih
 |drop _ ih=>simpa using ih
def Cut.get{q m:Nat}{cs us:ne}(h:Cut q m cs us){i:Nat}(hi:i<m):cs[q+i]?=us[i]?:=by
 rw[<-h.eq,List.getElem?_take,ah hi,List.getElem?_drop]
inductive Off(w:Nat):Nat->Nat->Nat->Prop where
 |base {k:Nat}:Off w (k*w) k 0
 |add {j k o a r:Nat}:Off w j k o->o+a=r->Off w (j+a) k r
def Off.eq{w j k o:Nat}(h:Off w j k o):j=k*w+o:=by
 induction h with
 |base=>rfl
 |add _ e ih=>omega
structure Shp(M α:Type) where
 w:Nat
 cs:M->α->ne
 fc:M->α->Fct
 pos:0<w
 len:∀m a,(cs m a).length=w
def dm{w k j:Nat}(h1:k*w<=j)(h2:j<k*w+w):j/w=k/\j%w=j-k*w:=by
 obtain⟨r,rfl⟩:=dL h1;have hr:r<w:=qo;rw[aY k w,cG qo,cw hr,cF,cS hr];omega
def dm_ne{w k j:Nat}(h0:0<w)(h:¬(k*w<=j/\j<k*w+w)):j/w≠k:=λe=>h (by
 have h1:=dV j w;have h2:=bw j h0;rw[e,aY] at h1;omega)
def VE{w:Nat}{f:Nat->ne}(hl:∀k,(f k).length=w){k r:Nat}(hr:r<w):(f k)[r]?=some (JG w f (k*w+r)):=by
 have h0:0<w:=qo;unfold JG;rw[aY,cG h0,cw hr,cC,cF,cS hr];exact YA (hl k) hr
section
variable {M α:Type}{S:Shp M α}{P:nh}{e:Env}{bx bx':nw}{F:nc}{ty t el:nl}{v u:nA}{x y:ni}{n k j o m:Nat}{ms:Nat->M}{xs:Nat->α}{us:ne}{K:Qd}{mm:M}{aa:α}
abbrev Zo(S:Shp M α)(ms:Nat->M)(xs:Nat->α)(j:Nat):nA:=JG S.w (λk=>S.cs (ms k) (xs k)) j
def lF(S:Shp M α)(v:nA)(n:Nat)(ms:Nat->M)(xs:Nat->α):Fct where
 p h:=(slC v n S.w (Zo S ms xs)).p h/\∀k,k<n->(S.fc (ms k) (xs k)).p h
 mono _ _ hl hp:=⟨(slC _ _ _ _).mono _ _ hl hp.1,λk hk=>(S.fc _ _).mono _ _ hl (hp.2 k hk)⟩
def lM(S:Shp M α)(n:Nat)(ms:Nat->M)(xs:Nat->α):Fct where
 p h:=∀k,k<n->(S.fc (ms k) (xs k)).p h
 mono _ _ hl hp k hk:=(S.fc _ _).mono _ _ hl (hp k hk)
def W.Has.ls(h:Has F (lF S v n ms xs)):Has F (slC v n S.w (Zo S ms xs)):=λp hf=>(h p hf).1
def W.Has.lm(h:Has F (lF S v n ms xs)):Has F (lM S n ms xs):=λp hf=>(h p hf).2
def W.Has.mk(h:Has F (lM S n ms xs))(hk:k<n):Has F (S.fc (ms k) (xs k)):=λp hf=>h p hf k hk
def W.Has.lk(h:Has F (lF S v n ms xs))(hk:k<n):Has F (S.fc (ms k) (xs k)):=h.lm.mk hk
def W.Has.lnil:Has F (lF S nz 0 ms xs):=λp _=>⟨⟨none,0,rfl,ai _,by unfold maxLen;omega,.inl ⟨rfl,rfl,rfl⟩⟩,λk hk=>absurd hk qo⟩
def W.Has.Uy:Has F (lM S 0 ms xs):=λp _ k hk=>absurd hk qo
def KnS.lf(h:Has F (lF S v n ms xs)):KnS bx F v n:=KnS.f h.ls
def Dy{w k n o m:Nat}(hk:k<n)(ho:o+m<=w):k*w+o+m<=n*w:=by
 have:=aM w (Nat.succ_le_of_lt hk);rw[de] at this;omega
def cut_le{q m:Nat}{cs us:ne}(h:Cut q m cs us)(h0:0<m):q+m<=cs.length:=by
 have h1:=h.get (i:=m-1) qo;have h2:=h.len;rw[List.getElem?_eq_getElem (show m-1<us.length by omega)] at h1;have:=(List.getElem?_eq_some_iff.1 h1).1;omega
def YO.ldL(hs:Row P t m)(hx:ev e x=some (.pointer (some (eaddr v j))))(hf:Has F (lF S v n ms xs))(ho:Off S.w j k o)(hk:k<n)(h0:0<m)(hc:Cut o m (S.cs (ms k) (xs k)) us):YO P (.load t x) ty e bx F (.agg us.toArray):=by
 obtain rfl:=ho.eq;have h1:=cut_le hc h0;rw[S.len] at h1
 exact YO.ldRS (us:=us) hs hx hf.ls (Dy hk h1) hc.len λi hi=>by
  rw[<-hc.get hi,er];exact VE (λk=>S.len _ _) qo
def YO.ldLs{c:nA}(hs:Qk P t)(hx:ev e x=some (.pointer (some (eaddr v j))))(hf:Has F (lF S v n ms xs))(ho:Off S.w j k o)(hk:k<n)(hc:Cut o 1 (S.cs (ms k) (xs k)) [c]):YO P (.load t x) ty e bx F c:=by
 obtain rfl:=ho.eq;have h1:=cut_le hc qo;rw[S.len] at h1;have h2:=hc.get (i:=0) qo;rw[cC,VE (λk=>S.len (ms k) (xs k)) qo] at h2;have h3:Zo S ms xs (k*S.w+o)=c:=by simpa using h2
 rw[<-h3];exact YO.ldS hs hx hf.ls (by have:=Dy hk h1;omega)
def YO.ldC{tg g q:Nat}{cs:ne}(hs:Row P t m)(hx:ev e x=some (.pointer (some ⟨g,q,none⟩)))(hb:Ow.cells g tg cs∈bx)(hc:Cut q m cs us):YO P (.load t x) ty e bx F (.agg us.toArray):=YO.ldRB hs hx hb hc.len hc.eq
def YO.HX{tg g q:Nat}{cs:ne}(hs:Row P t m)(hx:ev e x=some (.pointer (some ⟨g,q,none⟩)))(hb:Has F (ce g tg cs))(hc:Cut q m cs us):YO P (.load t x) ty e bx F (.agg us.toArray):=
 YO.ldRow (by rw[hc.len];exact hs) hx rfl λfr w ho i v hv=>by
  have hi:i<m:=by rw[<-hc.len];exact(List.getElem?_eq_some_iff.1 hv).1
  rw[ce_cell ho hb,hc.get hi];exact hv
abbrev QG(S:Shp M α)(n:Nat)(ms:Nat->M)(xs:Nat->α):ne:=JQ (n*S.w) (Zo S ms xs)
abbrev lO(S:Shp M α)(v:nA)(el n:Nat)(ms:Nat->M)(xs:Nat->α):Ow:=Ow.slice v el S.w (QG S n ms xs)
def KnS.lo(h:lO S v el n ms xs∈bx):KnS bx F v n:=KnS.o h (Qg _ _) S.pos
def HQ:QG S n ms xs++S.cs mm aa=QG S (n+1) (Qy ms n mm) (Qy xs n aa):=by
 refine Js (by rw[List.length_append,Qg,S.len,de]) λj hj=>?_;have hp:=S.pos;by_cases h:j<n*S.w
 .rw[List.getElem?_append_left (by rw[Qg];exact h),QU h];have hn:j/S.w≠n:=by have:=(bK hp).2 h;omega
  show some (JG S.w _ j)=some (JG S.w _ j);unfold JG;simp only;rw[Qt hn,Qt hn]
 .have hj2:j<n*S.w+S.w:=by rw[de] at hj;exact hj
  obtain⟨hd,hm⟩:=dm (aP h) hj2;rw[List.getElem?_append_right (by rw[Qg];omega),Qg,YA (S.len mm aa) qo];show some _=some (JG S.w _ j);unfold JG;simp only;rw[hd,hm,QF,QF]
def HJ(h:k<n):Jp (QG S n ms xs) (k*S.w) (S.cs mm aa)=QG S n (Qy ms k mm) (Qy xs k aa):=by
 have hp:=S.pos
 have hle:k*S.w+(S.cs mm aa).length<=(QG S n ms xs).length:=by
  rw[Qg,S.len];have:=Dy (w:=S.w) (o:=0) (m:=S.w) h qo;omega
 refine Js (by rw[Z1 hle,Qg]) λj hj=>?_;rw[Vn hle,S.len];show _=some (JG S.w _ j);unfold JG;simp only;split
 .rename_i hx
  obtain⟨hd,hm⟩:=dm hx.1 hx.2;rw[YA (S.len mm aa) qo,hd,hm,QF,QF]
 .rename_i hx
  have hd:=dm_ne hp hx;rw[QU hj];show some (JG S.w _ j)=_;unfold JG;simp only;rw[Qt hd,Qt hd]
def W.Has.mset(h:Has F (lM S n ms xs))(hm:Has F (S.fc mm aa)):Has F (lM S n (Qy ms k mm) (Qy xs k aa)):=λp hf i hi=>by
 by_cases c:i=k
 .subst c;rw[QF,QF];exact hm p hf
 .rw[Qt c,Qt c];exact h p hf i hi
def W.Has.mapp(h:Has F (lM S n ms xs))(hm:Has F (S.fc mm aa)):Has F (lM S (n+1) (Qy ms n mm) (Qy xs n aa)):=λp hf i hi=>by
 by_cases c:i=n
 .subst c;rw[QF,QF];exact hm p hf
 .rw[Qt c,Qt c];exact h p hf i qo
def W.OK.QA{fr:CF}{w:nm}(h:OK fr bx F w)(hs:Sel bx (lO S v el n ms xs) (.slice nz el S.w []) bx')(hm:Has F (lM S n ms xs)):OK fr bx' (lF S v n ms xs::F) w:=by
 have h1:=OK.freeze (n:=n) (sz:=S.w) h hs (Qg _ _) S.pos (Zo S ms xs) λj hj=>QU hj;refine⟨h1.frame,h1.apart,h1.nodup,h1.owns,λf hf=>?_⟩;have hF:∀f∈F,f.p (imm fr bx' w.heap):=λf hf=>h1.facts f (au _ hf);rcases List.mem_cons.1 hf with rfl|hf
 .exact⟨h1.facts _ (an ..),hm _ hF⟩
 .exact hF f hf
def WC.QA{n':Nat}{c:Code}{Q:Post}(hs:Sel bx (lO S v el n ms xs) (.slice nz el S.w []) bx')(hm:Has F (lM S n ms xs))(h:WC P n' c e bx' (lF S v n ms xs::F) Q):WC P n' c e bx F Q:=λfr w0 a w hk hr ho=>h fr w0 a w hk hr (ho.QA hs hm)
def WL.QA{n':Nat}{L rest:List Oper}{Q:Env->nw->nc->Prop}(hs:Sel bx (lO S v el n ms xs) (.slice nz el S.w []) bx')(hm:Has F (lM S n ms xs))(h:WL P n' L rest e bx' (lF S v n ms xs::F) Q):WL P n' L rest e bx F Q:=λfr w0 a w Q' hQ hk hr ho=>h fr w0 a w Q' hQ hk hr (ho.QA hs hm)
def QV.lo(hb:lO S v el n ms xs∈bx)(hm:Has F (lM S n ms xs)):QV bx F (lF S v n ms xs):=λfr w' ho=>
 ⟨QV.o hb (Qg _ _) S.pos (λj hj=>QU hj) fr w' ho,QV.f hm fr w' ho⟩
def LO.storeOL(hx:ev e x=some (.pointer (some (eaddr v (k*S.w)))))(hy:ev e y=some (.agg (S.cs mm aa).toArray))(hr:Row P t S.w)(h1:QB bx F (S.cs mm aa))(hs:Sel bx (lO S v el n ms xs) (lO S v el n (Qy ms k mm) (Qy xs k aa)) bx')(hk:k<n)
  (h:K undef bx' F):LO P (.store t x y) ty e bx F K:=
 LO.storeOR (vs:=S.cs mm aa) hx hy (by rw[S.len];exact hr) h1 hs (by rw[Qg,S.len];have:=Dy (w:=S.w) (o:=0) (m:=S.w) hk qo;omega) (by rw[S.len];exact S.pos) (HJ hk) h
def LO.appL{el' t1 b:nl}{z:nA}{bx2:nA->nw}(he:Xl P t1 el S.w z b)(hx:ev e x=some v)(hy:ev e y=some u)(hu:Ow.slice u el' S.w (S.cs mm aa)∈bx)(h1:QB bx F (S.cs mm aa))(hs:∀v',Sel bx (lO S v el n ms xs) (lO S v' el (n+1) (Qy ms n mm) (Qy xs n aa)) (bx2 v'))(hb:b<=1000)(hw:S.w<=100)(hl:n<=1000000)(h:∀v',K v' (bx2 v') F) :
  LO P (.call {callee:=.builtin .append,args:=#[x,y],argTypes:=#[t1,t1]}) ty e bx F K:=by
 refine LO.byP (λfr w ho=>h1.all ho) λh1=>?_;have hw1:n*S.w<=1000000*100:=aO hl hw;have hp:=S.pos
 exact LO.append he hx hy (news:=S.cs mm aa) (by rw[HQ];exact hs) (Qo.one hu (S.len _ _) qo) h1 (by
  rw[Qg,S.len];have:=aO (show n*S.w+S.w<=100000100 by omega) hb;omega) (by rw[Qg,S.len];omega) h
end
end
end Go.Proofs.YtbnobghgnbockaaGreat
