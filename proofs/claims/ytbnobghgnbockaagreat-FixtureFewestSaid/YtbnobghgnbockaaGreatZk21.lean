/- Lemmas. Conditions: none. -/
import Derived.Test.YtbnobghgnbockaaGreatZk20
import Derived.RangeFuncIn
set_option linter.all false
set_option maxHeartbeats 0
set_option maxRecDepth 100000
namespace Go.Proofs.YtbnobghgnbockaaGreat
open Go.RowKit
section
open Go.Conc hiding base G
open Go.ConcN
open Go.ConcR (KK WgAt stA smA rd wr mk Payload DC0 bk_of_mute ofEvent_loc_mark ofEvent_cell g_of_ofEvents)
namespace W
section
variable [Payload](P:nh)(p:Ph)(Fin:GSt)(n:Nat)
structure PEnd(gs:Array Goroutine)(w:nm)(t:Trace)(D:Nat->ConcN.WD)(own gv:Nat->Bk)(a:Goroutine):Prop where
 size:gs.size=n+1
 m0:gs[0]?=some a
 fin:Fin (own 0) a w
 wk:∀i,i<n->∃g,gs[i+1]?=some g/\QuitsD P (D i).fuel (D i).deaf g
 mi:MI p n w own gv
 ti:TI p n w.heap.size t own gv
 hears:Deaf t 0=0
 deafW:∀i,i<n->Deaf t (i+1)=(D i).deaf
 acq:∃q,t.act? q=some (.mark (.acquire (stA p.Wg)))/\t.g? q=some 0/\t.heard q/\∀i,p.b0<=i->i<n->∃r,RelBy (stA p.Wg) t (i+1) r/\r<q
 row:∀i,p.b0<=i->i<n->∃vs,Gl p.C p.m w (i-p.b0) vs/\p.F (i-p.b0) vs (Xw (λk=>gv (i+1) k\/p.S0 k) w)
def Rch(gs:Array Goroutine)(w:nm)(sl:Option (Nat×Nat))(t:Trace):Prop:=
 ∃N gs' w' sl' t' D own gv a,runNT P N (crowd gs w sl) t=(.next (crowd gs' w' sl'),t')/\PEnd P p Fin n gs' w' t' D own gv a
end
section
variable [Payload]{P:nh}{p:Ph}{Fin AnchW:GSt}{n j d0:Nat}{gs:Array Goroutine}{w w':nm}{t:Trace}{D:Nat->ConcN.WD}{T:Nat->Tr}{own gv:Nat->Bk}{tag:CTag}{a:Goroutine}{st sm st' sm':Int}{sl:Option (Nat×Nat)}
def WS.quit{ri:Nat}{x:ConcN.WD}{tr:Tr}{o:Bk}{g:Goroutine}(h:WS P p ri x tr o g w)(h1:x.stage=1):QuitsD P x.fuel x.deaf g/\∀k,¬o k:=by
 cases h with
 |r0 h=>cases h1
 |bk h ho=>
  obtain⟨_,h⟩:=h;obtain⟨s,m,d⟩:=x;simp only at h1 h ⊢;subst h1;cases h with
  |quit h=>exact⟨h,ho⟩
def WS.runs{ri:Nat}{x:ConcN.WD}{tr:Tr}{o:Bk}{g:Goroutine}(h:WS P p ri x tr o g w)(hi:FZ p w)(h1:x.stage≠1):g.status=.running:=by
 cases h with
 |r0 h=>exact h.status λhx=>(hx.2 hi).1
 |bk h ho=>
  obtain⟨_,h⟩:=h;obtain⟨s,m,d⟩:=x;simp only at h1 h;cases h with
  |r0 h=>exact Goes.running (λ_ _ x=>x.1) w (RW.refl w) h
  |k1 h=>exact Goes.running (λ_ _ x=>x.1) w (RW.refl w) h
  |d1 h=>exact Goes.running (λ_ _ x=>x.1) w (RW.refl w) h
  |d2 h=>exact Goes.running (λ_ _ x=>x.1) w (RW.refl w) h
  |d3 h=>exact Goes.running (λ_ _ x=>x.1) w (RW.refl w) h
  |d4 h=>exact Goes.running (λ_ _ x=>x.1) w (RW.refl w) h
  |quit h=>exact absurd rfl h1
def PI.runner(hA:∀own g w,AnchW own g w->g.status=.running)(h:PI P p Fin AnchW n j gs w t D T own gv tag d0 a st sm):∃(i:Nat) (g:Goroutine),gs[i]?=some g/\g.status=.running:=by
 rcases h.main.status hA ⟨_,_,h.wg⟩ with ⟨h1,_⟩|⟨_,rfl⟩
 .exact⟨0,a,h.m0,h1⟩
 .have one:∀i,i<j->(D i).stage≠1->∃(i:Nat) (g:Goroutine),gs[i]?=some g/\g.status=.running:=λi hi hs=>by
   obtain⟨g,h2,h3⟩:=h.wk i hi;exact⟨i+1,g,h2,h3.runs h.inv hs⟩
  have hm:=h.mode;cases hm with
  |opn k1 _ _=>exact k1.elim
  |reg _ k2 k3=>
   refine aD λhx=>?_;have hall:∀i,i<j->(D i).stage=1:=λi hi=>aD λhs=>hx (one i hi hs)
   have h0:Vc j D=0:=by
    have:sumTo j (λi=>cnt (D i))=sumTo j λ_=>0:=sumTo_congr λi hi=>by simp[cnt,hall i hi]
    have h2:sumTo j (λ_=>0)<=0*j:=sumTo_le λ_ _=>ai _;simp only[Vc];omega
   omega
  |last L _ k2 k3 _=>exact one L k2 qo
  |fin k1 _=>exact k1.elim
def PI.awake(hA:∀own g w,AnchW own g w->g.status=.running)(h:PI P p Fin AnchW n j gs w t D T own gv tag d0 a st sm):∀x∈gs,awake x:=by
 intro x hx;obtain⟨i,hi,rfl⟩:=Array.mem_iff_getElem.1 hx;cases i with
 |zero=>
  have:gs[0]=a:=by simpa [Array.getElem?_eq_getElem hi] using h.m0
  rw[this];rcases h.main.status hA ⟨_,_,h.wg⟩ with ⟨h1,_⟩|⟨h1,_⟩
  .exact awake_of (.inl h1)
  .exact awake_of (.inr (.inl h1))
 |succ i=>
  have hij:i<j:=by have:=h.size;omega
  obtain⟨g,h2,h3⟩:=h.wk i hij;have:gs[i+1]=g:=by simpa [Array.getElem?_eq_getElem hi] using h2
  rw[this];exact awake_of ((h3.status h.inv).elim .inl λy=>.inr (.inr y))
def PI.join(h:PI P p Fin AnchW n j gs w t D T own gv .acq d0 a st sm)(hT:T 0=.leaf) :
  ∃gs' ops own' a',runT P (crowd gs w sl) 0=(.next (crowd gs' w sl),ops)/\PEnd P p Fin n gs' w (t++ops) D own' gv a':=by
 have hmain:=h.main;rw[hT] at hmain;cases hmain with
 |acq hx=>
 obtain⟨_,g',hgo,hfin⟩:=hx.leaf ⟨_,_,h.wg⟩
 have hq:AllQuit n D:=by
  have hm:=h.mode;cases hm with
  |opn k1 _ _=>exact k1.elim
  |reg k1 _ _=>exact k1.elim
  |last L k1 _ _ _=>exact k1.elim
  |fin _ k2=>exact k2
 have e1:MemOp.ofEvents 0 a.frame.fn a.frame.place #[Go.ConcR.mk (.acquire (stA p.Wg))]=#[{g:=0,fn:=a.frame.fn,pos:=a.frame.place,act:=.mark (.acquire (stA p.Wg))}]:=by rw[ofEvents_eq];simp[Go.ConcR.ofEvent_mk]
 have hev:∀e∈#[Go.ConcR.mk (.acquire (stA p.Wg))],EvT p own gv w.heap.size 0 e:=λe he=>by
  simp at he;subst he;exact⟨λy hy=>by simp[Go.ConcR.mk,MemAct.ofEvent,MemAct.touch?] at hy,h.mi.wg.1,by simp[Go.ConcR.mk]⟩
 have hti:=h.ti.add0 h.mi (fn:=a.frame.fn) (pos:=a.frame.place) hev;have hrun:=runT_crowd_go (P:=P) (sl:=sl) (i:=0) h.m0 (show stepG P (0 == 0) a w=_ from hgo);have hy:(t++#[({g:=0,fn:=a.frame.fn,pos:=a.frame.place,act:=.mark (.acquire (stA p.Wg))}:MemOp)])[t.size]?=some {g:=0,fn:=a.frame.fn,pos:=a.frame.place,act:=.mark (.acquire (stA p.Wg))}:=by simp
 refine⟨_,_,own,g',hrun,by simp[h.size],get_map_set_same _ _ _ (by rw[h.size];omega),hfin,λi hi=>?_,h.mi,hti,?_,λi hi=>?_,⟨t.size,?_,?_,?_,λi hb hi=>?_⟩,λi hb hi=>?_⟩
 .obtain⟨g,h1,h2⟩:=h.wk i hi;exact⟨g,by rw[get_map_set _ _ _ _ qo,h1,dU,KN (h2.status h.inv)],(h2.quit (hq i hi)).1⟩
 .rw[Deaf_own,h.deaf0];rfl
 .rw[Deaf_other t qo _ g_of_ofEvents,h.deafW i hi]
 .rw[e1,act?_of hy]
 .rw[e1];simp[Trace.g?]
 .rw[e1];exact⟨0,by simp[Trace.g?],by rw[deaf_old (ai _)];exact h.deaf0⟩
 .obtain⟨r,hr⟩:=h.rel i hb hi (by rw[hq i hi];omega);exact⟨r,hr.appOther g_of_ofEvents qo,lt_of_act? hr.act⟩
 .obtain⟨g,h1,h2⟩:=h.wk i hi;exact h.row i hb hi (h2.quit (hq i hi)).2
def PI.runs(hA:∀own g w,AnchW own g w->g.status=.running)(hF:∀ri vs L L',(∀k o,L k=some o->L' k=some o)->p.F ri vs L->p.F ri vs L')(hm0:0<p.m)(hn:n<p.b0+1000000000)
  (hAn:∀own g w,WgLive p.ty p.Wg w->AnchW own g w->MR P p.ty p.Wg p.S0 (WW1 P p.ty p.Wg p.S0 Fin AnchW) own g w) :
  ∀(μ:Nat×Nat×(Nat->Tr)×Nat) (gs:Array Goroutine) (w:nm) (sl:Option (Nat×Nat)) (t:Trace),(∃j D T own gv tag d0 a st sm,PI P p Fin AnchW n j gs w t D T own gv tag d0 a st sm/\meas n j D tag T=μ)->Rch P p Fin n gs w sl t:=by
 intro μ;induction μ using (Mlt.wf (n+1)).induction with
 |h μ ih=>
  rintro gs w sl t ⟨j,D,T,own,gv,tag,d0,a,st,sm,h,rfl⟩
  have more:∀{gs2:Array Goroutine} {w2:nm} {sl2:Option (Nat×Nat)} {t2:Trace},Gk P p Fin AnchW n (meas n j D tag T) gs2 w2 t2->Rch P p Fin n gs2 w2 sl2 t2:=λ{gs2 w2 sl2 t2} hw=>by
   obtain⟨j',D',T',own',gv',tag',d',a',st',sm',hp,hlt⟩:=hw;exact ih _ hlt gs2 w2 sl2 t2 ⟨j',D',T',own',gv',tag',d',a',st',sm',hp,rfl⟩
  by_cases hanch:tag=.anch/\T 0=.leaf
  .obtain⟨rfl,hT⟩:=hanch;exact more (h.anchor hAn hT)
  obtain⟨i,x,d,sl',hi,hx,hstp⟩:=crowd_pick (P:=P) (w:=w) (sl:=sl) (h.awake hA) (h.runner hA);have h':=h.at d
  have step:(∃gs' w' ops,runT P (crowd gs (w.at d) sl') i=(.next (crowd gs' w' sl'),ops)/\Gk P p Fin AnchW n (meas n j D tag T) gs' w' (t++ops))->Rch P p Fin n gs w sl t:=λhw=>by
   obtain⟨gs',w',ops,h1,h2⟩:=hw;obtain⟨N,gs2,w2,sl2,t2,D2,own2,gv2,a2,h3,h4⟩:=more (sl2:=sl') h2;refine⟨N+1,gs2,w2,sl2,t2,D2,own2,gv2,a2,?_,h4⟩;simp only[runNT,hstp,h1];exact h3
  cases i with
  |zero=>
   have hxa:x=a:=by have:=h.m0;rw[hi] at this;exact dS this
   subst hxa;generalize hT:T 0=tr;cases tr with
   |node f=>exact step (h'.idle0 hT)
   |leaf=>
    by_cases h1:∃r,tag=.sp r 2
    .obtain⟨r,h1⟩:=h1;exact step (h'.spawn h1 hT)
    .by_cases h2:tag=.acq
     .subst h2;obtain⟨gs',ops,own',a',h3,h4⟩:=h'.join (sl:=sl') hT;exact⟨1,gs',_,sl',_,D,own',gv,a',by simp only[runNT,hstp,h3],h4⟩
     .refine step (h'.books0 hn hT (λr e=>h1 ⟨r,e⟩) (λe=>hanch ⟨e,hT⟩) (λe=>?_) h2);subst e;rcases h.main.status hA ⟨_,_,h.wg⟩ with ⟨_,h3⟩|⟨h3,_⟩
      .exact h3 rfl
      .rw[hx] at h3;cases h3
  |succ i=>
   have hij:i<j:=by
    have h1:=(Array.getElem?_eq_some_iff.1 hi).1;have:=h.size;omega
   obtain⟨g,h2,h3⟩:=h'.wk i hij;have hg:g=x:=by rw[hi] at h2;exact(dS h2).symm
   subst hg;generalize hD:D i=y at h3;cases h3 with
   |r0 h4=>exact step (h'.work hA hF hm0 hij hi hD h4)
   |bk h4 h5=>exact step (h'.books hA hn hij hi hx (by rw[hD];exact h4) h5)
end
end W
end
section
open Go.Conc hiding base G
open Go.ConcN
open Go.ConcR (KK WgAt stA smA rd wr mk wgBlock Payload DC0 g_of_ofEvents)
namespace W
def XM(P:nh):Md:=⟨true,λ_=>True,λ_ _ _ _ _ _=>False,λsh own g w K=>(∀k,¬sh k)->Stk P sh own g w K,λ_=>False⟩
def run_mainX{P:nh}{sh:Bk}{Stop:GSt}{own:Bk}{g:Goroutine}{w:nm}(hsh:∀k,¬sh k)(h:Run P (XM P) sh Stop own g w):Run P (mainMd P) sh Stop own g w:=by
 induction h with
 |stop h=>exact .stop h
 |step g' w' es own' h1 h2 _ ih=>exact .step g' w' es own' h1 h2 ih
 |stroke K h1 h2 _ ih=>exact .stroke K h1 (λw1 h=>h2 w1 h hsh) ih
section
variable {P:nh}{sh own:Bk}{gs:Array Goroutine}{w w':nm}{t:Trace}{q:Nat->Nat}{Shun:Loc->Prop}{g:Goroutine}{o:Obj}
def Frm.alloc{sl:Option (Nat×Nat)}(h:Frm P sh own gs w t q Shun)(h0:gs[0]?=some g){g':Goroutine}(hgo:stepG P true g w=.go g' (w.alloc o) #[]) :
  ∃gs',runT P (crowd gs w sl) 0=(.next (crowd gs' (w.alloc o) sl),#[])/\gs'[0]?=some g'/\Frm P sh own gs' (w.alloc o) t q (λl=>Shun l\/ShN w.heap.size l):=by
 have hsz:(w.alloc o).heap.size=w.heap.size+1:=by simp
 obtain⟨gs',ops,h1,h2,h3,h4⟩:=h.own0 (sl:=sl) h0 hgo ⟨⟨rfl,rfl,rfl⟩,by omega,λk hk _=>by
  simp only[World.alloc,Array.getElem?_push];rw[ae qo],λe he=>by simp at he⟩
 have hops:ops=#[]:=by
  have:=(runT_crowd_go (P:=P) (sl:=sl) (i:=0) h0 (show stepG P (0 == 0) g w=_ from hgo)).symm.trans h1;have h5:=(Prod.mk.inj this).2;rw[<-h5,ofEvents_eq];simp
 subst hops;have ht:t++(#[]:Trace)=t:=by simp
 rw[ht] at h4;refine⟨gs',h1,h3,h4.leav,VK h4.ct (λl hl=>?_) (λl hl=>.inl hl) (λ_ _ _ _ h=>h.elim) (λ_ _ _ _ h=>h) λ_ _ _ _=>Iff.rfl,h4.over,h4.hears,h4.seen,λl hl=>?_,λk hk=>?_⟩
 .rcases hl with hl|⟨a,rfl,ha⟩
  .exact .inl hl
  .exact .inr (NT.cell h.seen qo)
 .rcases hl with hl|⟨a,rfl,ha⟩
  .obtain⟨a,e,h5,h6,h7⟩:=h.shun l hl;exact⟨a,e,by omega,h6,h7⟩
  .exact⟨a,rfl,by omega,λhx=>by have:=h.lt _ (.inl hx);omega,λhx=>by have:=h.lt _ (.inr hx);omega⟩
 .have:=h.lt k hk;omega
def FK(hrun:g.status=.running):∀(M:Nat) (gs:Array Goroutine) (w:nm) (sl:Option (Nat×Nat)) (t:Trace) (q:Nat->Nat),sumTo gs.size q<=M->gs[0]?=some g->Frm P sh own gs w t q Shun->
  (∀d,∃g',stepG P true g (w.at d)=.go g' ((w.at d).alloc o) #[])->
  ∃N d g' gs' sl' t' q',stepG P true g (w.at d)=.go g' ((w.at d).alloc o) #[]/\runNT P N (crowd gs w sl) t=(.next (crowd gs' ((w.at d).alloc o) sl'),t')/\gs'[0]?=some g'/\Frm P sh own gs' ((w.at d).alloc o) t' q' (λl=>Shun l\/ShN w.heap.size l)/\(∀l,Shun l->∃a,l=.cell a/\a.block<w.heap.size)/\∀op∈t',op.act.low w.heap.size:=by
 intro M;induction M with
 |zero=>
  intro gs w sl t q hM h0 hF hst;obtain⟨i,x,d,sl',hi,hx,hstp⟩:=crowd_pick (P:=P) (w:=w) (sl:=sl) (hF.awake h0 hrun) ⟨0,g,h0,hrun⟩;rcases bT i with rfl|hpos
  .obtain⟨g',hgo⟩:=hst d;obtain⟨gs',h1,h2,h3⟩:=(hF.at d).alloc (sl:=sl') h0 hgo;exact⟨1,d,g',gs',sl',t,q,hgo,by simp only[runNT,hstp,h1];simp,h2,h3,λl hl=>(let ⟨a,e,h5,_⟩:=hF.shun l hl;⟨a,e,h5⟩),hF.seen⟩
  .obtain⟨gs',q',ops,h1,h2,h3,h4,h5⟩:=(hF.at d).slip (sl:=sl') h0 hrun hpos hi hx;omega
 |succ M ih=>
  intro gs w sl t q hM h0 hF hst;obtain⟨i,x,d,sl',hi,hx,hstp⟩:=crowd_pick (P:=P) (w:=w) (sl:=sl) (hF.awake h0 hrun) ⟨0,g,h0,hrun⟩;rcases bT i with rfl|hpos
  .obtain⟨g',hgo⟩:=hst d;obtain⟨gs',h1,h2,h3⟩:=(hF.at d).alloc (sl:=sl') h0 hgo;exact⟨1,d,g',gs',sl',t,q,hgo,by simp only[runNT,hstp,h1];simp,h2,h3,λl hl=>(let ⟨a,e,h5,_⟩:=hF.shun l hl;⟨a,e,h5⟩),hF.seen⟩
  .obtain⟨gs',q',ops,h1,h2,h3,h4,h5⟩:=(hF.at d).slip (sl:=sl') h0 hrun hpos hi hx;obtain⟨N,d2,g',gs2,sl2,t2,q2,e1,e3,e4,e5,e6⟩:=ih gs' (w.at d) sl' (t++ops) q' (by rw[h2];omega) h3 h4 hst;refine⟨N+1,d2,g',gs2,sl2,t2,q2,e1,?_,e4,e5,e6⟩;simp only[runNT,hstp,h1];exact e3
end
section
variable [Payload]{P:nh}{sh own:Bk}{gs:Array Goroutine}{w w':nm}{t:Trace}{q:Nat->Nat}{Shun:Loc->Prop}{a:Goroutine}{p:Ph}{Fin AnchW:GSt}{N:Nat}
def PI.start(hF:Frm P sh own gs w t q (λl=>p.Sh0 l\/ShN p.Wg l))(h0:gs[0]?=some a)(hb:p.b0=gs.size-1)(hN:0<N)
  (hnt:∀op∈t,op.act.low p.Wg) (hwg:WgAt p.ty p.Wg w 0 0) (hWs:p.Wg<w.heap.size) (hold:∀l,p.Sh0 l->∃a,l=.cell a/\a.block<p.Wg) (hC:own p.C) (hS:∀k,p.S0 k->own k\/sh k) (hSC:¬p.S0 p.C) (hpay:PayC p.C p.m p.N p.ety w) (hbx:p.S0 p.Bx/\PayAt p.Bx 1 w/\ConcN.Has p.Bx 0 p.v0 w) (hw0:Rest p.w0 w)
  (hs:Spw P p.ty p.Wg p.S0 (Wrk P p) AnchW (p.b0+N) p.b0 N (λ_=>False) a w) :
  ∃j D T own' gv tag d0 st sm,PI P p Fin AnchW (p.b0+N) j gs w t D T own' gv tag d0 a st sm:=by
 obtain⟨r,rfl⟩:∃r,N=r+1:=⟨N-1,by omega⟩
 obtain⟨tr,htr⟩:=MR.tree hs;have hlt:0<gs.size:=(Array.getElem?_eq_some_iff.1 h0).1;have hown:∀k,p.S0 k->k<w.heap.size:=λk hk=>hF.lt k (hS k hk)
 have hWg:¬(own p.Wg\/sh p.Wg):=λhx=>by
  obtain⟨b,e,_,h1,h2⟩:=hF.shun (.cell (stA p.Wg)) (.inr ⟨_,rfl,rfl⟩);cases e;exact hx.elim h1 h2
 have hj:p.b0+(r+1)-(r+1)=p.b0:=qo;refine⟨p.b0,λi=>⟨1,q (i+1),Deaf t (i+1)⟩,λ_=>tr,λ_ _=>False,λ_ _=>False,.sp r 5,0,0,0,by omega,ai _,h0,by have:=MS.skd (P:=P) (ty:=p.ty) (Wg:=p.Wg) (S0:=p.S0) (Wk:=Wrk P p) (Fin:=Fin) (AnchW:=AnchW) (n:=p.b0+(r+1)) (b0:=p.b0) (r:=r) qo htr;rwa [hj] at this,λi hi=>?_,λi hi=>rfl,?_,?_,hF.hears,λi hi=>rfl,λi h1 h2=>by omega,λi h1 h2=>by omega,hwg,?_⟩
 .obtain⟨g,hg⟩:∃g,gs[i+1]?=some g:=⟨gs[i+1]'qo,Array.getElem?_eq_getElem qo⟩
  exact⟨g,hg,.bk ⟨by show 1<=6;omega,.quit (hF.leav.old (i+1) g qo hg)⟩ λ_ h=>h⟩
 .refine⟨λ_ _ _ _ h=>h.elim False.elim False.elim,λ_ _ h=>h.elim,λ_ _ h=>h.elim False.elim False.elim,λ_ _ h=>h.elim False.elim False.elim,hown,⟨hWs,hF.lt _ (.inl hC),λe=>hWg (.inl (e ▸ hC)),λhx=>hWg (hS _ hx),hSC⟩,λ_=>⟨λh=>h.elim False.elim False.elim,λh=>h.elim False.elim False.elim⟩,λ_ _ h=>h.elim False.elim False.elim,hpay,hbx,λl hl=>?_,hw0⟩;obtain⟨b,e,h1,h2,h3⟩:=hF.shun l (.inl hl);obtain⟨b',e',h4⟩:=hold l hl;rw[e] at e';cases e';exact⟨b,e,h1,λ_ h=>h.elim False.elim False.elim,λhx=>(hS _ hx).elim h2 h3,by omega,λe=>h2 (e ▸ hC)⟩
 .have hct:CT (ShL p) (V4 p (λ_ _=>False) λ_ _=>False) (RdL p) t (gs.size-1):=VK hF.ct (λl hl=>.inl hl) (λl hl=>hl) (λk k1 kj l hl=>by
   rcases hl with ⟨_,_,h⟩|⟨_,_,h⟩|⟨h,_⟩
   .exact(h.elim id id).elim
   .exact(h.elim id id).elim
   .omega) (λ_ _ _ _ h=>h.elim) λk k1 kj l=>⟨λh=>by have:=h.1;omega,λh=>h.elim⟩
  refine⟨by rw[hb];exact hct,hF.seen,λi g h1 h2 h3 h4=>hF.over i g h1 h2 h4,λi hi=>?_,λi x g h1 h2 h3 h4 h5=>?_,λi x g h1 h2 h3=>?_⟩
  .obtain⟨op,ho,hoa⟩:=Option.map_eq_some_iff.1 hi;have:=hnt op (bX ho);rw[hoa] at this;exact absurd this (by show ¬p.Wg<p.Wg;omega)
  .by_cases hw:ShN p.Wg x.loc
   .obtain⟨ad,e,had⟩:=hw;exact absurd e (NT.cell hnt qo i x h1)
   .exact hF.ct.free x.loc (λh=>h.elim h5 hw) (λ_ _ _=>⟨λh=>h,λh=>h⟩) i x h1 rfl
  .obtain⟨op,ho,hog⟩:=Option.map_eq_some_iff.1 h2;have:=hF.ct.gs i op ho;omega
 .have hv:Vc p.b0 (λi=>(⟨1,q (i+1),Deaf t (i+1)⟩:ConcN.WD))=0:=by
   have h2:sumTo p.b0 (λi=>cnt (⟨1,q (i+1),Deaf t (i+1)⟩:ConcN.WD))<=0*p.b0:=sumTo_le λ_ _=>ai _;simp only[Vc];omega
  have:=ConcN.Mode.opn (j:=p.b0) (D:=λi=>(⟨1,q (i+1),Deaf t (i+1)⟩:ConcN.WD)) (tag:=.sp r 5) trivial (λi _=>.inr (.inr (.inr rfl))) λvs e=>by cases e
  rw[hv] at this;simpa [pend] using this
def PEnd.frame{n:Nat}{D:Nat->ConcN.WD}{o gv:Nat->Bk}(h:PEnd P p Fin n gs w t D o gv a)(hbn:p.b0<=n)(So:Bk)(hS:∀k,p.S0 k↔So k\/sh k)(hshC:¬sh p.C) :
  Frm P sh (λk=>(∃x,o x k\/gv x k)\/So k\/k=p.C) gs w t (λi=>(D (i-1)).fuel) (ShL p):=by
 obtain⟨qa,a1,a2,a3,a4⟩:=h.acq
 have hover:t.HandedOver:=λi g hg hne hc=>by
  by_cases hb:g<=p.b0
  .exact h.ti.ho i g hg hne hb hc
  .have hgn:g<=n:=by
    obtain⟨op,ho,hog⟩:=Option.map_eq_some_iff.1 hg;have:=h.ti.ct.gs i op ho;omega
   obtain⟨k,rfl⟩:∃k,g=k+1:=⟨g-1,by omega⟩
   obtain⟨r,hr,hrq⟩:=a4 k qo qo;have edge:HappensBefore t r qa:=.single (.inr ⟨.marked hrq (.inr hr.act) a1 (λk _ _=>h.ti.norel k),hr.heard,a3⟩);have hle:i<=r:=aP λhlt=>hr.after i hlt hg hc;rcases cQ i r with hlt|hge
   .exact⟨qa,a2,.trans (.single (.inl ⟨hlt,k+1,hg,hr.g⟩)) edge⟩
   .obtain rfl:i=r:=qo;exact⟨qa,a2,edge⟩
 have hperm:∀l,¬ShL p l->Perm t 0 l:=λl hl i x hx e=>by
  obtain⟨op,ho,_⟩:=touch_of hx;have hg:t.g? i=some op.g:=by simp[Trace.g?,ho]
  by_cases h0:op.g=0
  .have:=knows_own ho
   rwa [h0] at this
  .by_cases hb:op.g<=p.b0
   .exact h.ti.oldk i x op.g hx hg h0 hb λhs=>hl (.inl (e ▸ hs))
   .have hc:=h.ti.cnt i x op.g hx hg qo λhs=>hl (.inr (e ▸ hs));obtain⟨k,h1,h2⟩:=hover i op.g hg h0 hc;obtain⟨z,hz,hz0⟩:=Option.map_eq_some_iff.1 h1;exact⟨k,z,hz,hz0,.inr h2⟩
 refine⟨⟨λi g hi hg=>?_,λi hi=>?_⟩,?_,hover,h.hears,h.ti.low,λl hl=>?_,λk hk=>?_⟩
 .have hsz:=h.size;have hlt:=(Array.getElem?_eq_some_iff.1 hg).1;obtain⟨k,rfl⟩:∃k,i=k+1:=⟨i-1,by omega⟩
  obtain⟨g',h1,h2⟩:=h.wk k qo;rw[hg] at h1;rw[dS h1,h.deafW k qo];exact h2
 .exact Deaf_absent λz op hz e=>by have:=h.ti.ct.gs z op hz;have:=h.size;omega
 .have:=ct_join h.ti.ct hperm;rw[h.size];exact this
 .rcases hl with hl|⟨ad,rfl,had⟩
  .obtain⟨b,e,h1,h2,h3,h4,h5⟩:=h.mi.shun l hl;refine⟨b,e,h1,λhx=>?_,λhx=>h3 ((hS _).2 (.inr hx))⟩;rcases hx with ⟨x,hx⟩|hx|hx
   .exact h2 x hx
   .exact h3 ((hS _).2 (.inl hx))
   .exact h5 hx
  .refine⟨ad,rfl,by rw[had];exact h.mi.wg.1,λhx=>?_,λhx=>h.mi.wg.2.2.2.1 ((hS _).2 (.inr (had ▸ hx)))⟩;rw[had] at hx;rcases hx with ⟨x,hx⟩|hx|hx
   .exact(h.mi.nwg x).1 hx
   .exact h.mi.wg.2.2.2.1 ((hS _).2 (.inl hx))
   .exact h.mi.wg.2.2.1 hx
 .rcases hk with (⟨x,hx⟩|hx|hx)|hx
  .exact h.mi.lt x k hx
  .exact h.mi.lt0 k ((hS _).2 (.inl hx))
  .rw[hx];exact h.mi.wg.2.1
  .exact h.mi.lt0 k ((hS _).2 (.inr hx))
end
end W
namespace W
section
variable [Payload]{P:nh}{sh own So:Bk}{w:nm}{g g1:Goroutine}{K Fin:GSt}{AnchW:GSt}{ty ety:nl}{Bx C m N Nc:Nat}{v0:nA}{F:Nat->ne->(Nat->Option Obj)->Prop}{hid:Bk}
def phase_stk(hrun:g.status=.running)(hm:0<m)(hN:0<N)(hNb:N<1000000000)(hF:∀ri vs L L',(∀k o,L k=some o->L' k=some o)->F ri vs L->F ri vs L')
  (hC:own C) (hSo:∀k,So k->own k) (hSC:¬So C) (hpay:PayC C m Nc ety w) (hbx:(So Bx\/sh Bx)/\PayAt Bx 1 w/\ConcN.Has Bx 0 v0 w) (hlt:Bx<w.heap.size)
  (hstep:∀d,stepG P true g (w.at d)=.go g1 ((w.at d).alloc (wgBlock ty 0 0)) #[])
  (hA:∀own g w,AnchW own g w->g.status=.running) (hAn:∀own g w1,WgLive ty w.heap.size w1->AnchW own g w1->MR P ty w.heap.size (λk=>So k\/sh k) (WW1 P ty w.heap.size (λk=>So k\/sh k) Fin AnchW) own g w1)
  (hscr:∀b0 Sh0 w0 d,Spw P ty w.heap.size (λk=>So k\/sh k) (Wrk P ⟨ty,w.heap.size,Bx,v0,C,m,Nc,ety,b0,λk=>So k\/sh k,Sh0,F,w0,hid⟩) AnchW (b0+N) b0 N (λ_=>False) g1 ((w.at d).alloc (wgBlock ty 0 0)))
  (hK:∀b0 Sh0 (o gv:Nat->Bk) a w',MI ⟨ty,w.heap.size,Bx,v0,C,m,Nc,ety,b0,λk=>So k\/sh k,Sh0,F,w,hid⟩ (b0+N) w' o gv->Fin (o 0) a w'->(∀ri,ri<N->∃x vs,Gl C m w' ri vs/\F ri vs (Xw (λk=>gv x k\/(So k\/sh k)) w'))->
   K (λk=>(∃x,o x k\/gv x k)\/So k\/k=C) a w')
  (hsh:∀k,¬sh k):Stk P sh own g w K:=by
 intro gs sl t q Shun h0 hFr;obtain⟨N1,d,g',gs1,sl1,t1,q1,e1,e2,e3,e4,e5,e6⟩:=FK (o:=wgBlock ty 0 0) hrun (sumTo gs.size q) gs w sl t q (ai _) h0 hFr (λd=>⟨g1,hstep d⟩)
 have hg:g'=g1:=by
  have:=e1.symm.trans (hstep d);injection this
 subst hg;let p:Ph:=⟨ty,w.heap.size,Bx,v0,C,m,Nc,ety,gs1.size-1,λk=>So k\/sh k,Shun,F,w,hid⟩
 have hsz:((w.at d).alloc (wgBlock ty 0 0)).heap.size=w.heap.size+1:=by
  have:(w.at d).heap=w.heap:=rfl;simp[this]
 have hkeep:∀k,k<w.heap.size->((w.at d).alloc (wgBlock ty 0 0)).heap[k]?=w.heap[k]?:=λk hk=>by
  have:(w.at d).heap=w.heap:=rfl;simp only[World.alloc,Array.getElem?_push,this];rw[ae qo]
 have hwg:WgAt p.ty p.Wg ((w.at d).alloc (wgBlock ty 0 0)) 0 0:=by
  show((w.at d).alloc (wgBlock ty 0 0)).heap[w.heap.size]?=_;have:(w.at d).heap=w.heap:=rfl;simp only[World.alloc,Array.getElem?_push,this];simp;rfl
 have hCl:C<w.heap.size:=hFr.lt _ (.inl hC);obtain⟨cs,hc1,hc2⟩:=hpay;obtain⟨hb1,⟨ds,hb2,hb3⟩,hb4⟩:=hbx
 obtain⟨j,D,T,o',gv,tag,d0,st,sm,hPI⟩:=PI.start (p:=p) (Fin:=Fin) (AnchW:=AnchW) (N:=N) (own:=own) (sh:=sh) e4 e3 rfl hN e6 hwg (by show w.heap.size<_;omega) e5 hC (λk hk=>hk.imp (hSo k) id) (λhk=>hk.elim hSC (hsh _)) ⟨cs,(hkeep C hCl).trans hc1,hc2⟩
  ⟨hb1,⟨ds,(hkeep Bx hlt).trans hb2,hb3⟩,(cell_of_block (hkeep Bx hlt) 0).trans hb4⟩ ⟨rfl,rfl,rfl⟩ (hscr _ _ _ d)
 obtain⟨N2,gs2,w2,sl2,t2,D2,o2,gv2,a2,k1,k2⟩:=PI.runs hA hF hm (by show gs1.size-1+N<gs1.size-1+1000000000;omega) hAn _ gs1 _ sl1 t1 ⟨j,D,T,o',gv,tag,d0,g',st,sm,hPI,rfl⟩;have hfr:=k2.frame (sh:=sh) (by show gs1.size-1<=gs1.size-1+N;omega) So (λk=>Iff.rfl) (hsh _);refine⟨N1+N2,gs2,a2,w2,sl2,t2,_,_,_,HA e2 k1,k2.m0,hfr,hK _ _ o2 gv2 a2 w2 k2.mi k2.fin λri hri=>?_⟩;obtain⟨vs,h1,h2⟩:=k2.row (gs1.size-1+ri) (by show gs1.size-1<=_;omega) (by show _<gs1.size-1+N;omega);have e:gs1.size-1+ri-p.b0=ri:=by show gs1.size-1+ri-(gs1.size-1)=ri;omega
 rw[e] at h1 h2;exact⟨_,vs,h1,h2⟩
end
end W
end
section
open Go.Conc (G base)
namespace W
variable {P:nh}
def CF.hold(fr:CF)(l:Nat)(o:Obj):CF:={fr with fr:=λk=>if k=l then some o else fr.fr k}
def CF.mkd(fr:CF)(Ds:List Nat):CF:={fr with fr:=λk=>if k∈Ds then some (.deferred (some [])) else fr.fr k,ds:=Ds.map mkD++fr.ds}
section
variable {fr:CF}{bx:nw}{F:nc}{w w1:nm}{l D:Nat}{o o':Obj}{Ds:List Nat}
def imm_hold(H:Array Obj):imm (fr.hold l o) bx H=imm fr (.obj l o'::bx) H:=by
 unfold imm;refine congrArg (PH.mk fr.main) (funext λk=>?_);have h2:(fr.hold l o).see H k=fr.see H k:=rfl;rw[h2]
 have:(((fr.hold l o).fr k).isSome ||(ids bx).contains k)=((fr.fr k).isSome ||(ids (.obj l o'::bx)).contains k):=by
  simp only[CF.hold,ids,aZ,Ow.ids];by_cases hk:k=l
  .subst hk;simp
  .rw[ae hk,Bool.eq_iff_iff];simp[hk]
 rw[this]
def imm_put:imm fr (.obj l o::bx) (w.putObj l o').heap=imm fr (.obj l o::bx) w.heap:=by
 unfold imm;refine congrArg (PH.mk fr.main) (funext λk=>?_);by_cases hk:k=l
 .subst hk;simp[ids,Ow.ids]
 .unfold CF.see;rw[World.putObj_heap_other hk]
def OK.hold(h:OK fr (.obj l o::bx) F w):OK (fr.hold l o) bx F w:=by
 have hap:=h.apart;have hnd:=h.nodup;simp only[ids,aZ,Ow.ids,bf,cI,bq] at hap hnd;have hl:=h.owns _ (an ..);refine⟨⟨λk o1 hk=>?_,h.frame.2⟩,λk hk=>⟨(hap k (.inr hk)).1,?_⟩,hnd.2,λb hb=>h.owns b (au _ hb),λf hf=>?_⟩
 .simp only[CF.hold] at hk;by_cases e:k=l
  .subst e;rw[ah rfl] at hk;cases hk;exact⟨(hap k (.inl rfl)).1,hl⟩
  .rw[ae e] at hk;exact h.frame.1 k o1 hk
 .simp only[CF.hold];rw[ae (λe:k=l=>by subst e;exact hnd.1 hk)];exact(hap k (.inr hk)).2
 .rw[imm_hold (o':=o)];exact h.facts f hf
def OK.back(h:OK (fr.hold l o) bx F w)(h0:fr.fr l=none):OK fr (.obj l o::bx) F w:=by
 have hl:=h.frame.1 l o (by simp[CF.hold]);have hnot:l∉ids bx:=λhk=>by have:=(h.apart l hk).2;simp[CF.hold] at this
 refine⟨⟨λk o1 hk=>?_,h.frame.2⟩,λk hk=>?_,?_,λb hb=>?_,λf hf=>?_⟩
 .refine h.frame.1 k o1 ?_;simp only[CF.hold];rw[ae (λe=>by subst e;rw[h0] at hk;cases hk)];exact hk
 .simp only[ids,aZ,Ow.ids,bf,bq] at hk;rcases hk with rfl|hk
  .exact⟨hl.1,h0⟩
  .have:=h.apart k hk;refine⟨this.1,?_⟩;have h2:(fr.hold l o).fr k=none:=this.2;simp only[CF.hold] at h2;split at h2
   .cases h2
   .exact h2
 .simp only[ids,aZ,Ow.ids,bf,cI];exact⟨hnot,h.nodup⟩
 .rcases List.mem_cons.1 hb with rfl|hb
  .exact hl.2
  .exact h.owns b hb
 .rw[<-imm_hold (o:=o)];exact h.facts f hf
def OK.Ug(h:OK fr (.obj l o::bx) F w):OK fr (.obj l o'::bx) F (w.putObj l o'):=by
 have hap:=h.apart;have hnd:=h.nodup;have hl:=h.owns _ (an ..);have hnd':=hnd;simp only[ids,aZ,Ow.ids,bf,cI] at hnd';have hl0:fr.own l/\fr.fr l=none:=hap l (by simp[ids,Ow.ids]);refine⟨⟨λk o1 hk=>⟨(h.frame.1 k o1 hk).1,?_⟩,λk hk=>?_,λk hk=>⟨by simpa using (h.frame.2.2 k hk).1,(h.frame.2.2 k hk).2⟩⟩,hap,hnd,λb hb=>?_,λf hf=>?_⟩
 .rw[World.putObj_heap_other (λe=>by subst e;rw[hl0.2] at hk;cases hk)];exact(h.frame.1 k o1 hk).2
 .have:=h.frame.2.1 k hk;simpa using this
 .rcases List.mem_cons.1 hb with rfl|hb'
  .show(w.putObj l o').heap[l]?=some o';have hlt:l<w.heap.size:=(Array.getElem?_eq_some_iff.1 hl).1;simp[World.putObj,hlt]
  .exact Ow.Xk (h.owns b (au _ hb')) λk hk=>World.putObj_heap_other (λe=>hnd'.1 (e ▸ JN.2 ⟨b,hb',hk⟩))
 .rw[show imm fr (.obj l o'::bx) (w.putObj l o').heap=imm fr (.obj l o::bx) w.heap from imm_put (o:=o')];exact h.facts f hf
def OK.unm(h:OK (fr.mkd Ds) bx F w)(hD:∀D∈Ds,fr.fr D=none)(hu:Unm fr.own fr.sh Ds w w1):OK fr bx F w1:=by
 have hfr:∀k,k∉Ds->(fr.mkd Ds).fr k=fr.fr k:=λk hk=>by simp[CF.mkd,hk]
 have hn:∀k∈ids bx,k∉Ds:=λk hk hd=>by have:=(h.apart k hk).2;simp[CF.mkd,hd] at this
 refine⟨⟨λk o hk=>?_,λk hk=>aw (h.frame.2.1 k hk) hu.size,λk hk=>⟨aw (h.frame.2.2 k hk).1 hu.size,(h.frame.2.2 k hk).2⟩⟩,λk hk=>⟨(h.apart k hk).1,by rw[<-hfr k (hn k hk)];exact(h.apart k hk).2⟩,h.nodup,λb hb=>Ow.Xk (h.owns b hb) λk hk=>?_,λf hf=>f.mono (imm (fr.mkd Ds) bx w.heap) _ (.mk rfl λk o hk=>?_) (h.facts f hf)⟩
 .have hkD:k∉Ds:=λhd=>by rw[hD k hd] at hk;cases hk
  have h1:=h.frame.1 k o (by rw[hfr k hkD];exact hk);exact⟨h1.1,by rw[hu.keep k (Array.getElem?_eq_some_iff.1 h1.2).1 (.inl h1.1) hkD];exact h1.2⟩
 .have hkb:k∈ids bx:=JN.2 ⟨b,hb,hk⟩;exact hu.keep k (Ow.lt (h.owns b hb) k hk) (.inl (h.apart k hkb).1) (hn k hkb)
 .have hm:=Yq hk;have hh:=JA hk
  have hv:(fr.mkd Ds).fr k=none/\k∉ids bx:=by
   simp only[imm] at hk;split at hk
   .cases hk
   .rename_i hc
    simp only[b7,bu,not_or,eO,dk,dC] at hc;exact hc
  have hkD:k∉Ds:=λhd=>by have:=hv.1;simp[CF.mkd,hd] at this
  show(if((fr.fr k).isSome ||(ids bx).contains k)=true then none else fr.see w1.heap k)=some o;rw[ae (by rw[<-hfr k hkD,hv.1];simpa using hv.2),CF.Yy (c:=fr) hm,hu.keep k (Array.getElem?_eq_some_iff.1 hh).1 (CF.vs_w hm) hkD];exact hh
def OK.mk_mkd(h:OK ((fr.mkd Ds).hold D (.deferred (some []))) bx F w):OK (fr.mkd (D::Ds)) bx F w:=by
 have:fr.mkd (D::Ds)={(fr.mkd Ds).hold D (.deferred (some [])) with ds:=(D::Ds).map mkD++fr.ds}:=by
  unfold CF.mkd CF.hold;simp only[CF.mk.injEq,true_and,and_true,and_self];funext k
  by_cases hk:k=D
  .subst hk;simp
  .simp[hk]
 rw[this];exact h.dsw _
end
def postX(fr:CF)(n:Nat)(w0:nm)(Q:Post)(own:Bk):Exit->Act->nm->Prop
 |.normal,a,w=>(∀k,fr.own k->own k)/\∃Ds e bx F,Ds.Nodup/\(∀D∈Ds,fr.fr D=none)/\Kn (Ds.map mkD++fr.ds) n a e/\Rest w0 w/\OK ((fr.at own).mkd Ds) bx F w/\Q .normal e bx F
 |.exit id,a,w=>(∀k,fr.own k->own k)/\∃Ds e bx F,Ds.Nodup/\(∀D∈Ds,fr.fr D=none)/\Kn (Ds.map mkD++fr.ds) n a e/\Rest w0 w/\OK ((fr.at own).mkd Ds) bx F w/\Q (.exit id) e bx F
 |.ret,a,w=>(∀k,fr.own k->own k)/\∃Ds e bx F,Ds.Nodup/\(∀D∈Ds,fr.fr D=none)/\Kn (Ds.map mkD++fr.ds) n a e/\Rest w0 w/\OK ((fr.at own).mkd Ds) bx F w/\Q .ret e bx F
 |_,_,_=>False
def WX(P:nh)(n:Nat)(c:Code)(e:Env)(bx:nw)(F:nc)(Q:Post):Prop:=
 ∀fr Ds w0 a w,Ds.Nodup->(∀D∈Ds,fr.fr D=none)->Kn (Ds.map mkD++fr.ds) n a e->Rest w0 w->OK (fr.mkd Ds) bx F w->Kb P fr.main fr.sh c (postX fr n w0 Q) fr.own a w
def postX.up{fr:CF}{n:Nat}{w0:nm}{Q:Post}{own own':Bk}{ex:Exit}{a:Act}{w:nm}(h:postX (fr.at own) n w0 Q own' ex a w)(ho:∀k,fr.own k->own k):postX fr n w0 Q own' ex a w:=by
 cases ex<;>first|exact h|exact⟨λk hk=>h.1 k (ho k hk),h.2⟩
section
variable {n:Nat}{x y c:Code}{e e':Env}{bx bx':nw}{F F':nc}{Q:Post}{id:Nat}
def WX.of(h:WC P n c e bx F Q):WX P n c e bx F Q:=λfr Ds w0 a w hn hD hk hr ho=>by
 refine DR (XC (h (fr.mkd Ds) w0 a w hk hr ho) λown ex a' w' hq=>?_);cases ex<;>first|exact hq|(obtain⟨h1,e1,b1,F1,h2,h3,h4,h5⟩:=hq;exact⟨h1,Ds,e1,b1,F1,hn,hD,h2,h3,h4,h5⟩)
def WX.seq(h:WX P n x e bx F (XB (λe bx F=>WX P n y e bx F Q) Q)):WX P n (.seq x y) e bx F Q:=λfr Ds w0 a w hn hD hk hr ho=>by
 refine wpR0_seq (Yo (h fr Ds w0 a w hn hD hk hr ho) λown ex a' w' hq=>?_);cases ex<;>first|exact hq|skip
 obtain⟨hw,Ds1,e1,b1,F1,h1,h2,h3,h4,h5,h6⟩:=hq;exact Yo (h6 (fr.at own) Ds1 w0 a' w' h1 h2 h3 h4 h5) λ_ _ _ _ hp=>hp.up hw
def WX.cond{o:ni}{b:Bool}(hc:ev e o=some (.bool b))(h:WX P n (if b then x else y) e bx F Q):WX P n (.cond o x y) e bx F Q:=λfr Ds w0 a w hn hD hk hr ho=>
 wpR0_cond (hk.eval hc) (h fr Ds w0 a w hn hD hk hr ho)
def WX.skip(h:Q .normal e bx F):WX P n .skip e bx F Q:=.of (WC.skip h)
def WX.exit{i:Nat}(h:Q (.exit i) e bx F):WX P n (.exit i) e bx F Q:=.of (WC.exit h)
def WX.ret(h:Q .ret e bx F):WX P n .ret e bx F Q:=.of (WC.ret h)
def WX.region{L:List Oper}(h:WL P n L L e bx F (Q .normal)):WX P n (.region id L.toArray false) e bx F Q:=.of (WC.region h)
def WX.block(h:WX P n c e bx F (blockQ id Q)):WX P n (.block id c) e bx F Q:=λfr Ds w0 a w hn hD hk hr ho=>by
 refine wpR0_block (Yo (h fr Ds w0 a w hn hD hk hr ho) λown ex a' w' hq=>?_);cases ex<;>first|exact hq|skip
 rename_i i
 obtain⟨hw,Ds1,e1,b1,F1,h1,h2,h3,h4,h5,h6⟩:=hq;by_cases hi:i=id
 .subst hi;simp only[inBlockR,dc];exact⟨hw,Ds1,e1,b1,F1,h1,h2,h3,h4,h5,by simpa [blockQ,Nat.beq_refl] using h6⟩
 .simp only[inBlockR,ae hi]
  have hb:Nat.beq i id=false:=by
   cases hb:Nat.beq i id
   .rfl
   .exact absurd (dW hb) hi
  exact⟨hw,Ds1,e1,b1,F1,h1,h2,h3,h4,h5,by simpa [blockQ,hb] using h6⟩
def WX.loop{σ:Type}(E:σ->Env)(B:σ->nw)(G:σ->nc)(I:σ->Prop)(μ:σ->Nat)
  (hround:∀s,I s->WX P n c (E s) (B s) (G s) (XB (λe' bx' F'=>∃s',(I s'/\μ s'<μ s)/\Sub (E s') e'/\(B s').Sublist bx'/\Qz F' (G s')) Q))
  (s0:σ) (hI:I s0) (hE:Sub (E s0) e) (hB:(B s0).Sublist bx) (hG:Qz F (G s0)):WX P n (.loop c) e bx F Q:=λfr Ds w0 a w hn hD hk hr ho=>by
 refine wpR0_loop (λs own a w=>I s/\(∀k,fr.own k->own k)/\∃Ds,Ds.Nodup/\(∀D∈Ds,fr.fr D=none)/\Kn (Ds.map mkD++fr.ds) n a (E s)/\Rest w0 w/\OK ((fr.at own).mkd Ds) (B s) (G s) w) μ s0 ⟨hI,λ_ h=>h,Ds,hn,hD,hk.sub hE,hr,(ho.drop hB).YQ hG.all⟩ λs own a w ⟨hs1,hw,Ds1,hn1,hD1,hs2,hs3,hs4⟩=>?_;refine Yo (hround s hs1 (fr.at own) Ds1 w0 a w hn1 hD1 hs2 hs3 hs4) λown' ex a' w' hq=>?_;cases ex with
 |normal=>
  obtain⟨hw',Ds2,e1,b1,F1,hn2,hD2,h1,h2,h3,s',⟨h4,h5⟩,h6,h7,h8⟩:=hq;exact⟨s',h5,h4,λk hk=>hw' k (hw k hk),Ds2,hn2,hD2,h1.sub h6,h2,(h3.drop h7).YQ h8.all⟩
 |exit id=>exact hq.up hw
 |ret=>exact hq.up hw
 |goto l=>exact hq
 |panic ch=>exact hq
 |outgrown=>exact hq
def FR{f:np}{fn:Func}{c:Code}{args:ne}{bx:nw}{F:nc}{R:Qd}(e0:Env)(n:Nat)(hf:P.funcs[f]?=some fn)(hb:fn.body=some c)(hn:fn.ntmps=n)
  (hname:(fn.name == "runtime.NumGoroutine")=false) (hargs:Nat.ble args.length n=true) (he:Sub e0 (parEnv 0 args))
  (h:∀h0,WX P n c e0 bx (ge h0::F) (retQ P fn h0 R)):FnB P f args bx F R:=by
 refine⟨⟨fn,hf,hname,by rw[hb];rfl⟩,λfr w ho=>⟨fn,c,hf,hname,hb,?_⟩⟩;have hargs':args.length<=n:=bV hargs
 have hk:Kn [] n {tmps:=args.toArray++Array.replicate (fn.ntmps-args.toArray.size) undef,defers:=[]} e0:=by
  refine Kn.sub (e:=parEnv 0 args) ⟨by simp[hn];omega,rfl,λk v hk=>?_⟩ he;obtain⟨_,h2⟩:=ZC _ _ _ _ hk;simp at h2;rw[Array.getElem?_append_left (by simpa using (List.getElem?_eq_some_iff.1 h2).1)];simpa using h2
 have ho':OK (CF.mkd {fr with ds:=[]} []) bx F w:=by
  have:CF.mkd {fr with ds:=[]} []={fr with ds:=[]}:=by unfold CF.mkd;simp
  rw[this];exact ho.dsw []
 refine Yo (h (imm fr bx w.heap) {fr with ds:=[]} [] w _ w List.nodup_nil (λD h=>by cases h) hk (Rest.refl w) (ho'.add (f:=ge _) ?_)) λown ex a' w' hq=>?_
 .have:CF.mkd {fr with ds:=[]} []={fr with ds:=[]}:=by unfold CF.mkd;simp
  rw[this];exact PH.le.refl _
 have fin:∀Ds e b G,Ds.Nodup->(∀D∈Ds,fr.fr D=none)->(∀k,fr.own k->own k)->Kn (Ds.map mkD++[]) n a' e->Rest w w'->OK ((CF.at {fr with ds:=[]} own).mkd Ds) b G w'->Fin P fn (imm fr bx w.heap) R e b G->bodyR P fr.sh fn (PostB fr bx w R) own .ret a' w':=by
  rintro Ds e b G hn hD h0 h1 h2 h3 ⟨v,bx',F',h4,h5,h6,h7,h8⟩;refine⟨Ds,by simpa using h1.defers,hn,λD hd=>?_,v,λw1 hw1=>?_⟩
  .exact h3.frame.1 D _ (by simp[CF.mkd,hd])
  have h3:OK (CF.at {fr with ds:=[]} own) b G w1:=h3.unm hD hw1;have h9:=(h3.dsw (Ds.map mkD++[]))
  have hd:=h3.drop h5;have hre:=h4 n _ a' w1 h1 h9;exact⟨hre.1,hre.2,h0,bx',F',h8,h2.trans hw1.rest,hd.facts _ h7,⟨hd.frame,hd.apart,hd.nodup,hd.owns,λf hf=>hd.has (h6 f hf)⟩⟩
 cases ex<;>simp only[postX] at hq
 .obtain⟨h0,Ds,e,b,G,hn,hD,h1,h2,h3,h4⟩:=hq;exact fin Ds e b G hn hD h0 h1 h2 h3 h4
 .obtain⟨h0,Ds,e,b,G,hn,hD,h1,h2,h3,h4⟩:=hq;exact h4.elim
 .obtain⟨h0,Ds,e,b,G,hn,hD,h1,h2,h3,h4⟩:=hq;exact fin Ds e b G hn hD h0 h1 h2 h3 h4
def RgP(l:Nat)(r:Loop)(Rd:nw->nc->Prop)(X:Code->nw->nc->Prop):Qd:=λ_ B G=>
 (∃bx',B=.obj l (.loop r)::bx'/\Rd bx' G)\/∃c bx',B=.obj l (.loop {r with state:=.done,pending:=some c})::bx'/\X c bx' G
def WX.range{g:ni}{p:Tmp}{gf:np}{lb:ne}(Rd:nw->nc->Prop)(X:Code->nw->nc->Prop)
  (hg:ev e g=some (.func (.func gf) #[] lb.toArray))
  (hfn:∀(l:Nat) (r:Loop),Kn [] n ⟨r.tmps,[]⟩ e->r.state=.ready->r.pending=none->r.params=#[p]->r.assign=x->r.body=y->FnB P gf (.func (.yield l) #[] #[]::lb) (.obj l (.loop r)::bx) F (RgP l r Rd X))
  (hdone:∀bx' G,Rd bx' G->Q .normal e bx' (G++F))
  (hstop:∀c bx' G,X c bx' G->WX P n c e bx' (G++F) Q):WX P n (.rangeFunc g #[p] x y) e bx F Q:=λfr Ds w0 a w hn hD hk hr ho b k cs Stop hb hkd hc=>by
 refine Run.go rfl λw1 h1=>?_;have ho1:OK (fr.mkd Ds) bx F w1:=ho.rely h1;have hk0:∀r:Loop,r.tmps=a.tmps->Kn [] n ⟨r.tmps,[]⟩ e:=λr hr=>⟨by rw[hr];exact hk.size,rfl,λk v h=>by rw[hr];exact hk.at' k v h⟩
 generalize hrec:({state:=.ready,pending:=none,fn:=b.fn,tmps:=a.tmps,params:=#[p],assign:=x,body:=y,defers:=w1.heap.size}:Loop)=r;have hr1:r.tmps=a.tmps:=by rw[<-hrec]
 have hr2:r.state=.ready:=by rw[<-hrec]
 have hr3:r.params=#[p]:=by rw[<-hrec]
 have hr4:r.assign=x:=by rw[<-hrec]
 have hr5:r.body=y:=by rw[<-hrec]
 have hr6:r.pending=none:=by rw[<-hrec]
 have hF:=hfn (w1.heap.size+1) r (hk0 r hr1) hr2 hr6 hr3 hr4 hr5;have hst:=sg_range (P:=P) (m:=fr.main.b) (b:=b) (a:=a) (k:=k) (cs:=cs) (w:=w1) (x:=x) (y:=y) (g:=g) (ps:=#[p]) hb hkd (hk.eval hg) hF.1;rw[hrec] at hst;generalize hw2:(w1.alloc (.deferred (some []))).alloc (.loop r)=w2 at hst;have hsz:w2.heap.size=w1.heap.size+2:=by rw[<-hw2];simp
 have hkeep:∀k,k<w1.heap.size->w2.heap[k]?=w1.heap[k]?:=λk hk=>by
  rw[<-hw2];simp only[World.alloc,Array.getElem?_push,eY];rw[ae qo,ae qo]
 have hD2:w2.heap[w1.heap.size]?=some (.deferred (some [])):=by
  rw[<-hw2];simp only[World.alloc,Array.getElem?_push,eY];simp
 have hl2:w2.heap[w1.heap.size+1]?=some (.loop r):=by
  rw[<-hw2];simp only[World.alloc,Array.getElem?_push,eY];simp
 have hrest:Rest w1 w2:=by rw[<-hw2];exact⟨rfl,rfl,rfl⟩
 have hle:w1.heap.size<=w2.heap.size:=qo
 have hstep:OK ((fr.mkd Ds).grow w1 w2) (([.obj w1.heap.size (.deferred (some [])),.obj (w1.heap.size+1) (.loop r)]:nw)++bx) F w2:=OK.step (ob:=[]) ho1 hle (λk h1 _=>hkeep k h1) (λk hk=>by
   simp only[ids,aZ,Ow.ids,eM,aU,bf,bq,aW,di] at hk;rcases hk with rfl|rfl
   .exact .inr (ai _)
   .exact .inr qo) (by simp[ids,Ow.ids]) (λb hb=>by
   simp only[bq,aW,di] at hb;rcases hb with rfl|rfl
   .exact hD2
   .exact hl2)
 have ho2:OK (CF.mkd (fr.at (W.grow fr.own w1 w2)) (w1.heap.size::Ds)) (.obj (w1.heap.size+1) (.loop r)::bx) F w2:=(OK.hold (fr:=CF.mkd (fr.at (W.grow fr.own w1 w2)) Ds) hstep).mk_mkd
 have hfree:fr.fr w1.heap.size=none:=by
  cases hx:fr.fr w1.heap.size with
  |none=>rfl
  |some o=>
   by_cases hm:w1.heap.size∈Ds
   .rw[hD _ hm] at hx;cases hx
   .have:=(ho1.frame.1 w1.heap.size o (by simp[CF.mkd,hm,hx])).2;have:=(Array.getElem?_eq_some_iff.1 this).1;omega
 have hnew:w1.heap.size∉Ds:=λhm=>by
  have:=(ho1.frame.1 w1.heap.size (.deferred (some [])) (by simp[CF.mkd,hm])).2;have:=(Array.getElem?_eq_some_iff.1 this).1;omega
 have hnD:(w1.heap.size::Ds).Nodup:=List.nodup_cons.2 ⟨hnew,hn⟩
 have hDD:∀D∈w1.heap.size::Ds,fr.fr D=none:=λD h=>by
  rcases List.mem_cons.1 h with rfl|h
  .exact hfree
  .exact hD D h
 refine⟨_,_,_,hst,⟨hrest,hle,λk h1 _=>hkeep k h1,λe he=>by simp at he⟩,?_⟩;have hcall:=hF.2 _ w2 ho2;have hargs:(#[.func (.yield (w1.heap.size+1)) #[] #[]]:Array nA)++lb.toArray=(.func (.yield (w1.heap.size+1)) #[] #[]::lb).toArray:=by simp
 rw[hargs];refine Hx hcall λown' v w' hp=>?_;obtain⟨hown,B,GG,hR,hrw,hle',hok⟩:=hp;rw[finish_atR_inRangeFunc];have hfrom:∀k,fr.own k->own' k:=λk hk=>hown k (.inl hk);have hkn:Kn ((w1.heap.size::Ds).map mkD++fr.ds) n ⟨a.tmps,mkD w1.heap.size::a.defers⟩ e:=⟨hk.size,by show mkD _::a.defers=_;rw[hk.defers];rfl,hk.at'⟩
 have hrst:Rest w0 w':=((hr.trans h1.rest).trans hrest).trans hrw
 have hall:∀(r':Loop) (bx':nw),B=.obj (w1.heap.size+1) (.loop r')::bx'->OK (CF.mkd (fr.at own') (w1.heap.size::Ds)) (.obj (w1.heap.size+1) (.loop r')::bx') (GG++F) w':=λr' bx' hB=>by
  subst hB;refine⟨hok.frame,hok.apart,hok.nodup,hok.owns,λf hf=>?_⟩;rcases List.mem_append.1 hf with hf|hf
  .exact hok.facts f hf
  .exact f.mono _ _ hle' (ho2.facts f hf)
 have hend:∀(r':Loop) (bx':nw),r'.state≠.busy->B=.obj (w1.heap.size+1) (.loop r')::bx'->
   (∀w4,Rest w0 w4->OK (CF.mkd (fr.at own') (w1.heap.size::Ds)) bx' (GG++F) w4->Run P fr.main fr.sh Stop own' (G (b.atR ⟨a.tmps,mkD w1.heap.size::a.defers⟩ ((r'.pending.map Item.code).toList++k)) cs) w4)->
   Run P fr.main fr.sh Stop own' (G (b.atR ⟨a.tmps,mkD w1.heap.size::a.defers⟩ (.endRangeFunc (w1.heap.size+1)::k)) cs) w':=λr' bx' hbusy hB hgo=>by
  refine Run.go rfl λw3 h3=>?_;have ho3:=(hall r' bx' hB).rely h3;have hl3:w3.heap[w1.heap.size+1]?=some (.loop r'):=ho3.owns _ (an ..);have hlo:own' (w1.heap.size+1):=(ho3.apart _ (by simp[ids,Ow.ids])).1;refine⟨_,_,_,sg_endRange hl3 hbusy,⟨⟨rfl,rfl,rfl⟩,by simp,λk _ hk=>World.putObj_heap_other (λe=>hk (e ▸ hlo)),λe he=>?_⟩,?_⟩
  .have he:=JL he;rw[Hh hl3 hbusy] at he;simp at he;rcases he with rfl|rfl<;>exact .inr (.inr ⟨_,rfl,.inl hlo⟩)
  .rw[QW (by simp)];exact hgo _ ((hrst.trans h3.rest).trans (b:=w3) ⟨rfl,rfl,rfl⟩) (ho3.Ug.drop (bA _ _))
 rcases hR with ⟨bx',hB,hd⟩|⟨c,bx',hB,hx⟩
 .refine hend r bx' (by rw[hr2];simp) hB λw4 hr4' ho4=>?_;rw[hr6];exact hc own' .normal _ w4 ⟨hfrom,_,e,bx',GG++F,hnD,hDD,hkn,hr4',ho4,hdone bx' GG hd⟩
 .refine hend _ bx' (by simp) hB λw4 hr4' ho4=>?_;exact hstop c bx' GG hx (fr.at own') _ w0 _ w4 hnD hDD hkn hr4' ho4 b k cs Stop hb hkd λown2 ex a2 w5 q=>hc own2 ex a2 w5 (q.up hfrom)
end
end W
end
end Go.Proofs.YtbnobghgnbockaaGreat
