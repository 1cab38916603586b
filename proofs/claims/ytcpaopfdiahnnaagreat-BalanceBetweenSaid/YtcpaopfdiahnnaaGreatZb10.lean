/- Lemmas for a law. Conditions: none. -/
import Derived.Test.YtcpaopfdiahnnaaGreatZb9
import Derived.Test.YtcpaopfdiahnnaaGreatProg
import Derived.Test.YtcpaopfdiahnnaaGreatZb5
set_option linter.all false
set_option maxHeartbeats 32000000
set_option maxRecDepth 100000
namespace Go.Proofs.YtcpaopfdiahnnaaGreat
section
open Go.RowKit
open Go.Conc hiding base G
open Go.ConcN
open Go.ConcR (KK WgAt stA smA rd wr mk Payload DC0 bk_of_mute ofEvent_loc_mark ofEvent_cell g_of_ofEvents)
namespace W
section
variable [Payload] (P:Program) (p:Ph) (Fin:GSt) (n:Nat)
structure PEnd (gs:Array Goroutine) (w:World) (t:Trace) (D:Nat->ConcN.WD) (own gv:Nat->Bk) (a:Goroutine):Prop where
 size:gs.size=n+1
 m0:gs[0]?=some a
 fin:Fin (own 0) a w
 wk:∀ i,i < n->∃ g,gs[i+1]?=some g∧QuitsD P (D i).fuel (D i).deaf g
 mi:MI p n w own gv
 ti:TI p n w.heap.size t own gv
 hears:Deaf t 0=0
 deafW:∀ i,i < n->Deaf t (i+1)=(D i).deaf
 acq:∃ q,t.act? q=some (.mark (.acquire (stA p.Wg)))∧t.g? q=some 0∧t.heard q∧∀ i,p.b0<=i->i < n->∃ r,RelBy (stA p.Wg) t (i+1) r∧r < q
 row:∀ i,p.b0<=i->i < n->∃ vs,V8 p.C p.m w (i - p.b0) vs∧p.F (i - p.b0) vs (JP (λk=>gv (i+1) k∨p.S0 k) w)
def Rch (gs:Array Goroutine) (w:World) (sl:Option (Nat×Nat)) (t:Trace):Prop:=
 ∃ N gs' w' sl' t' D own gv a,runNT P N (crowd gs w sl) t=(.next (crowd gs' w' sl'),t')∧PEnd P p Fin n gs' w' t' D own gv a
end
section
variable [Payload] {P:Program} {p:Ph} {Fin AnchW:GSt} {n j d0:Nat} {gs:Array Goroutine} {w w':World} {t:Trace} {D:Nat->ConcN.WD} {T:Nat->Tr} {own gv:Nat->Bk} {tag:CTag} {a:Goroutine} {st sm st' sm':Int} {sl:Option (Nat×Nat)}
def WS.quit {ri:Nat} {x:ConcN.WD} {tr:Tr} {o:Bk} {g:Goroutine} (h:WS P p ri x tr o g w) (h1:x.stage=1):QuitsD P x.fuel x.deaf g∧∀ k,¬o k:=by
 cases h with
 |r0 h=>cases h1
 |bk h ho=>
  obtain⟨_,h⟩:=h;obtain⟨s,m,d⟩:=x;simp only at h1 h ⊢;subst h1;cases h with
  |quit h=>exact⟨h,ho⟩
def WS.runs {ri:Nat} {x:ConcN.WD} {tr:Tr} {o:Bk} {g:Goroutine} (h:WS P p ri x tr o g w) (hi:HG p w) (h1:x.stage≠1):g.status=.running:=by
 cases h with
 |r0 h=>exact h.status λhx=>(hx.2 hi).1
 |bk h ho=>
  obtain⟨_,h⟩:=h;obtain⟨s,m,d⟩:=x;simp only at h1 h;cases h with
  |r0 h=>exact Goes.running (λ_ _ x=>x.1) w (RW.refl w) h
  |k1 h=>exact Goes.running (λ_ _ x=>x.1) w (RW.refl w) h
  |d1 h=>exact Goes.running (λ_ _ x=>x.1) w (RW.refl w) h
  |d2 h=>exact Goes.running (λ_ _ x=>x.1) w (RW.refl w) h
  |d3 h=>exact Goes.running (λ_ _ x=>x.1) w (RW.refl w) h
  |d4 h=>exact Goes.running (λ_ _ x=>x.1) w (RW.refl w) h
  |quit h=>exact absurd rfl h1
def PI.runner (hA:∀ own g w,AnchW own g w->g.status=.running) (h:PI P p Fin AnchW n j gs w t D T own gv tag d0 a st sm):∃ (i:Nat) (g:Goroutine),gs[i]?=some g∧g.status=.running:=by
 rcases h.main.status hA ⟨_,_,h.wg⟩ with ⟨h1,_⟩|⟨_,rfl⟩
 ·exact⟨0,a,h.m0,h1⟩
 ·have one:∀ i,i < j->(D i).stage≠1->∃ (i:Nat) (g:Goroutine),gs[i]?=some g∧g.status=.running:=λi hi hs=>by
   obtain⟨g,h2,h3⟩:=h.wk i hi;exact⟨i+1,g,h2,h3.runs h.inv hs⟩
  have hm:=h.mode;cases hm with
  |opn k1 _ _=>exact k1.elim
  |reg _ k2 k3=>
   refine Classical.byContradiction λhx=>?_;have hall:∀ i,i < j->(D i).stage=1:=λi hi=>Classical.byContradiction λhs=>hx (one i hi hs)
   have h0:Vc j D=0:=by
    have:sumTo j (λi=>cnt (D i))=sumTo j λ_=>0:=sumTo_congr λi hi=>by simp[cnt,hall i hi]
    have h2:sumTo j (λ_=>0)<=0*j:=sumTo_le λ_ _=>Nat.le_refl _;simp only[Vc];omega
   omega
  |last L _ k2 k3 _=>exact one L k2 qo
  |fin k1 _=>exact k1.elim
def PI.awake (hA:∀ own g w,AnchW own g w->g.status=.running) (h:PI P p Fin AnchW n j gs w t D T own gv tag d0 a st sm):∀ x∈gs,awake x:=by
 intro x hx;obtain⟨i,hi,rfl⟩:=Array.mem_iff_getElem.1 hx;cases i with
 |zero=>
  have:gs[0]=a:=by simpa [Array.getElem?_eq_getElem hi] using h.m0
  rw[this];rcases h.main.status hA ⟨_,_,h.wg⟩ with ⟨h1,_⟩|⟨h1,_⟩
  ·exact awake_of (.inl h1)
  ·exact awake_of (.inr (.inl h1))
 |succ i=>
  have hij:i < j:=by have:=h.size;omega
  obtain⟨g,h2,h3⟩:=h.wk i hij;have:gs[i+1]=g:=by simpa [Array.getElem?_eq_getElem hi] using h2
  rw[this];exact awake_of ((h3.status h.inv).elim .inl λy=>.inr (.inr y))
def PI.join (h:PI P p Fin AnchW n j gs w t D T own gv .acq d0 a st sm) (hT:T 0=.leaf) :
  ∃ gs' ops own' a',runT P (crowd gs w sl) 0=(.next (crowd gs' w sl),ops)∧PEnd P p Fin n gs' w (t++ops) D own' gv a':=by
 have hmain:=h.main;rw[hT] at hmain;cases hmain with
 |acq hx=>
 obtain⟨_,g',hgo,hfin⟩:=hx.leaf ⟨_,_,h.wg⟩
 have hq:AllQuit n D:=by
  have hm:=h.mode;cases hm with
  |opn k1 _ _=>exact k1.elim
  |reg k1 _ _=>exact k1.elim
  |last L k1 _ _ _=>exact k1.elim
  |fin _ k2=>exact k2
 have e1:MemOp.ofEvents 0 a.frame.fn a.frame.place #[Go.ConcR.mk (.acquire (stA p.Wg))]=#[{g:=0,fn:=a.frame.fn,pos:=a.frame.place,act:=.mark (.acquire (stA p.Wg))}]:=by rw[ofEvents_eq];simp[Go.ConcR.ofEvent_mk]
 have hev:∀ e∈#[Go.ConcR.mk (.acquire (stA p.Wg))],EvT p own gv w.heap.size 0 e:=λe he=>by
  simp at he;subst he;exact⟨λy hy=>by simp[Go.ConcR.mk,MemAct.ofEvent,MemAct.touch?] at hy,h.mi.wg.1,by simp[Go.ConcR.mk]⟩
 have hti:=h.ti.add0 h.mi (fn:=a.frame.fn) (pos:=a.frame.place) hev;have hrun:=runT_crowd_go (P:=P) (sl:=sl) (i:=0) h.m0 (show stepG P (0 == 0) a w=_ from hgo);have hy:(t++#[({g:=0,fn:=a.frame.fn,pos:=a.frame.place,act:=.mark (.acquire (stA p.Wg))}:MemOp)])[t.size]?=some {g:=0,fn:=a.frame.fn,pos:=a.frame.place,act:=.mark (.acquire (stA p.Wg))}:=by simp
 refine⟨_,_,own,g',hrun,by simp[h.size],get_map_set_same _ _ _ (by rw[h.size];omega),hfin,λi hi=>?_,h.mi,hti,?_,λi hi=>?_,⟨t.size,?_,?_,?_,λi hb hi=>?_⟩,λi hb hi=>?_⟩
 ·obtain⟨g,h1,h2⟩:=h.wk i hi;exact⟨g,by rw[get_map_set _ _ _ _ qo,h1,Option.map_some,Z4 (h2.status h.inv)],(h2.quit (hq i hi)).1⟩
 ·rw[Deaf_own,h.deaf0];rfl
 ·rw[Deaf_other t qo _ g_of_ofEvents,h.deafW i hi]
 ·rw[e1,act?_of hy]
 ·rw[e1];simp[Trace.g?]
 ·rw[e1];exact⟨0,by simp[Trace.g?],by rw[deaf_old (Nat.le_refl _)];exact h.deaf0⟩
 ·obtain⟨r,hr⟩:=h.rel i hb hi (by rw[hq i hi];omega);exact⟨r,hr.appOther g_of_ofEvents qo,lt_of_act? hr.act⟩
 ·obtain⟨g,h1,h2⟩:=h.wk i hi;exact h.row i hb hi (h2.quit (hq i hi)).2
def PI.runs (hA:∀ own g w,AnchW own g w->g.status=.running) (hF:∀ ri vs L L',(∀ k o,L k=some o->L' k=some o)->p.F ri vs L->p.F ri vs L') (hm0:0 < p.m) (hn:n < p.b0+1000000000)
  (hAn:∀ own g w,WgLive p.ty p.Wg w->AnchW own g w->MR P p.ty p.Wg p.S0 (WW1 P p.ty p.Wg p.S0 Fin AnchW) own g w) :
  ∀ (μ:Nat×Nat×(Nat->Tr)×Nat) (gs:Array Goroutine) (w:World) (sl:Option (Nat×Nat)) (t:Trace),(∃ j D T own gv tag d0 a st sm,PI P p Fin AnchW n j gs w t D T own gv tag d0 a st sm∧meas n j D tag T=μ)->Rch P p Fin n gs w sl t:=by
 intro μ;induction μ using (Mlt.wf (n+1)).induction with
 |h μ ih=>
  rintro gs w sl t ⟨j,D,T,own,gv,tag,d0,a,st,sm,h,rfl⟩
  have more:∀ {gs2:Array Goroutine} {w2:World} {sl2:Option (Nat×Nat)} {t2:Trace},VR P p Fin AnchW n (meas n j D tag T) gs2 w2 t2->Rch P p Fin n gs2 w2 sl2 t2:=λ{gs2 w2 sl2 t2} hw=>by
   obtain⟨j',D',T',own',gv',tag',d',a',st',sm',hp,hlt⟩:=hw;exact ih _ hlt gs2 w2 sl2 t2 ⟨j',D',T',own',gv',tag',d',a',st',sm',hp,rfl⟩
  by_cases hanch:tag=.anch∧T 0=.leaf
  ·obtain⟨rfl,hT⟩:=hanch;exact more (h.anchor hAn hT)
  obtain⟨i,x,d,sl',hi,hx,hstp⟩:=crowd_pick (P:=P) (w:=w) (sl:=sl) (h.awake hA) (h.runner hA);have h':=h.at d
  have step:(∃ gs' w' ops,runT P (crowd gs (w.at d) sl') i=(.next (crowd gs' w' sl'),ops)∧VR P p Fin AnchW n (meas n j D tag T) gs' w' (t++ops))->Rch P p Fin n gs w sl t:=λhw=>by
   obtain⟨gs',w',ops,h1,h2⟩:=hw;obtain⟨N,gs2,w2,sl2,t2,D2,own2,gv2,a2,h3,h4⟩:=more (sl2:=sl') h2;refine⟨N+1,gs2,w2,sl2,t2,D2,own2,gv2,a2,?_,h4⟩;simp only[runNT,hstp,h1];exact h3
  cases i with
  |zero=>
   have hxa:x=a:=by have:=h.m0;rw[hi] at this;exact Option.some.inj this
   subst hxa;generalize hT:T 0=tr;cases tr with
   |node f=>exact step (h'.idle0 hT)
   |leaf=>
    by_cases h1:∃ r,tag=.sp r 2
    ·obtain⟨r,h1⟩:=h1;exact step (h'.spawn h1 hT)
    ·by_cases h2:tag=.acq
     ·subst h2;obtain⟨gs',ops,own',a',h3,h4⟩:=h'.join (sl:=sl') hT;exact⟨1,gs',_,sl',_,D,own',gv,a',by simp only[runNT,hstp,h3],h4⟩
     ·refine step (h'.books0 hn hT (λr e=>h1 ⟨r,e⟩) (λe=>hanch ⟨e,hT⟩) (λe=>?_) h2);subst e;rcases h.main.status hA ⟨_,_,h.wg⟩ with ⟨_,h3⟩|⟨h3,_⟩
      ·exact h3 rfl
      ·rw[hx] at h3;cases h3
  |succ i=>
   have hij:i < j:=by
    have h1:=(Array.getElem?_eq_some_iff.1 hi).1;have:=h.size;omega
   obtain⟨g,h2,h3⟩:=h'.wk i hij;have hg:g=x:=by rw[hi] at h2;exact(Option.some.inj h2).symm
   subst hg;generalize hD:D i=y at h3;cases h3 with
   |r0 h4=>exact step (h'.work hA hF hm0 hij hi hD h4)
   |bk h4 h5=>exact step (h'.books hA hn hij hi hx (by rw[hD];exact h4) h5)
end
end W
end
section
open Go.RowKit
open Go.Conc hiding base G
open Go.ConcN
open Go.ConcR (KK WgAt stA smA rd wr mk wgBlock Payload DC0 g_of_ofEvents)
namespace W
def Xc (P:Program):Md:=⟨true,λ_=>True,λ_ _ _ _ _ _=>False,λsh own g w K=>(∀ k,¬sh k)->Stk P sh own g w K,λ_=>False⟩
def run_mainX {P:Program} {sh:Bk} {Stop:GSt} {own:Bk} {g:Goroutine} {w:World} (hsh:∀ k,¬sh k) (h:Run P (Xc P) sh Stop own g w):Run P (mainMd P) sh Stop own g w:=by
 induction h with
 |stop h=>exact .stop h
 |step g' w' es own' h1 h2 _ ih=>exact .step g' w' es own' h1 h2 ih
 |stroke K h1 h2 _ ih=>exact .stroke K h1 (λw1 h=>h2 w1 h hsh) ih
section
variable {P:Program} {sh own:Bk} {gs:Array Goroutine} {w w':World} {t:Trace} {q:Nat->Nat} {Shun:Loc->Prop} {g:Goroutine} {o:Obj}
def Frm.alloc {sl:Option (Nat×Nat)} (h:Frm P sh own gs w t q Shun) (h0:gs[0]?=some g) {g':Goroutine} (hgo:stepG P true g w=.go g' (w.alloc o) #[]) :
  ∃ gs',runT P (crowd gs w sl) 0=(.next (crowd gs' (w.alloc o) sl),#[])∧gs'[0]?=some g'∧Frm P sh own gs' (w.alloc o) t q (λl=>Shun l∨ShN w.heap.size l):=by
 have hsz:(w.alloc o).heap.size=w.heap.size+1:=by simp
 obtain⟨gs',ops,h1,h2,h3,h4⟩:=h.own0 (sl:=sl) h0 hgo ⟨⟨rfl,rfl,rfl⟩,by omega,λk hk _=>by
  simp only[World.alloc,Array.getElem?_push];rw[if_neg qo],λe he=>by simp at he⟩
 have hops:ops=#[]:=by
  have:=(runT_crowd_go (P:=P) (sl:=sl) (i:=0) h0 (show stepG P (0 == 0) g w=_ from hgo)).symm.trans h1;have h5:=(Prod.mk.inj this).2;rw[<-h5,ofEvents_eq];simp
 subst hops;have ht:t++(#[]:Trace)=t:=by simp
 rw[ht] at h4;refine⟨gs',h1,h3,h4.leav,UU h4.ct (λl hl=>?_) (λl hl=>.inl hl) (λ_ _ _ _ h=>h.elim) (λ_ _ _ _ h=>h) λ_ _ _ _=>Iff.rfl,h4.over,h4.hears,h4.seen,λl hl=>?_,λk hk=>?_⟩
 ·rcases hl with hl|⟨a,rfl,ha⟩
  ·exact .inl hl
  ·exact .inr (NT.cell h.seen qo)
 ·rcases hl with hl|⟨a,rfl,ha⟩
  ·obtain⟨a,e,h5,h6,h7⟩:=h.shun l hl;exact⟨a,e,by omega,h6,h7⟩
  ·exact⟨a,rfl,by omega,λhx=>by have:=h.lt _ (.inl hx);omega,λhx=>by have:=h.lt _ (.inr hx);omega⟩
 ·have:=h.lt k hk;omega
def HF (hrun:g.status=.running):∀ (M:Nat) (gs:Array Goroutine) (w:World) (sl:Option (Nat×Nat)) (t:Trace) (q:Nat->Nat),sumTo gs.size q<=M->gs[0]?=some g->Frm P sh own gs w t q Shun->
  (∀ d,∃ g',stepG P true g (w.at d)=.go g' ((w.at d).alloc o) #[])->
  ∃ N d g' gs' sl' t' q',stepG P true g (w.at d)=.go g' ((w.at d).alloc o) #[]∧runNT P N (crowd gs w sl) t=(.next (crowd gs' ((w.at d).alloc o) sl'),t')∧gs'[0]?=some g'∧Frm P sh own gs' ((w.at d).alloc o) t' q' (λl=>Shun l∨ShN w.heap.size l)∧(∀ l,Shun l->∃ a,l=.cell a∧a.block < w.heap.size)∧∀ op∈t',op.act.low w.heap.size:=by
 intro M;induction M with
 |zero=>
  intro gs w sl t q hM h0 hF hst;obtain⟨i,x,d,sl',hi,hx,hstp⟩:=crowd_pick (P:=P) (w:=w) (sl:=sl) (hF.awake h0 hrun) ⟨0,g,h0,hrun⟩;rcases Nat.eq_zero_or_pos i with rfl|hpos
  ·obtain⟨g',hgo⟩:=hst d;obtain⟨gs',h1,h2,h3⟩:=(hF.at d).alloc (sl:=sl') h0 hgo;exact⟨1,d,g',gs',sl',t,q,hgo,by simp only[runNT,hstp,h1];simp,h2,h3,λl hl=>(let ⟨a,e,h5,_⟩:=hF.shun l hl;⟨a,e,h5⟩),hF.seen⟩
  ·obtain⟨gs',q',ops,h1,h2,h3,h4,h5⟩:=(hF.at d).slip (sl:=sl') h0 hrun hpos hi hx;omega
 |succ M ih=>
  intro gs w sl t q hM h0 hF hst;obtain⟨i,x,d,sl',hi,hx,hstp⟩:=crowd_pick (P:=P) (w:=w) (sl:=sl) (hF.awake h0 hrun) ⟨0,g,h0,hrun⟩;rcases Nat.eq_zero_or_pos i with rfl|hpos
  ·obtain⟨g',hgo⟩:=hst d;obtain⟨gs',h1,h2,h3⟩:=(hF.at d).alloc (sl:=sl') h0 hgo;exact⟨1,d,g',gs',sl',t,q,hgo,by simp only[runNT,hstp,h1];simp,h2,h3,λl hl=>(let ⟨a,e,h5,_⟩:=hF.shun l hl;⟨a,e,h5⟩),hF.seen⟩
  ·obtain⟨gs',q',ops,h1,h2,h3,h4,h5⟩:=(hF.at d).slip (sl:=sl') h0 hrun hpos hi hx;obtain⟨N,d2,g',gs2,sl2,t2,q2,e1,e3,e4,e5,e6⟩:=ih gs' (w.at d) sl' (t++ops) q' (by rw[h2];omega) h3 h4 hst;refine⟨N+1,d2,g',gs2,sl2,t2,q2,e1,?_,e4,e5,e6⟩;simp only[runNT,hstp,h1];exact e3
end
section
variable [Payload] {P:Program} {sh own:Bk} {gs:Array Goroutine} {w w':World} {t:Trace} {q:Nat->Nat} {Shun:Loc->Prop} {a:Goroutine} {p:Ph} {Fin AnchW:GSt} {N:Nat}
def PI.start (hF:Frm P sh own gs w t q (λl=>p.Sh0 l∨ShN p.Wg l)) (h0:gs[0]?=some a) (hb:p.b0=gs.size - 1) (hN:0 < N)
  (hnt:∀ op∈t,op.act.low p.Wg) (hwg:WgAt p.ty p.Wg w 0 0) (hWs:p.Wg < w.heap.size) (hold:∀ l,p.Sh0 l->∃ a,l=.cell a∧a.block < p.Wg) (hC:own p.C) (hS:∀ k,p.S0 k->own k∨sh k) (hSC:¬p.S0 p.C) (hpay:PayC p.C p.m p.N p.ety w) (hbx:p.S0 p.Bx∧PayAt p.Bx 1 w∧ConcN.Has p.Bx 0 p.v0 w) (hw0:Rest p.w0 w)
  (hs:Spw P p.ty p.Wg p.S0 (Wrk P p) AnchW (p.b0+N) p.b0 N (λ_=>False) a w) :
  ∃ j D T own' gv tag d0 st sm,PI P p Fin AnchW (p.b0+N) j gs w t D T own' gv tag d0 a st sm:=by
 obtain⟨r,rfl⟩:∃ r,N=r+1:=⟨N - 1,by omega⟩
 obtain⟨tr,htr⟩:=MR.tree hs;have hlt:0 < gs.size:=(Array.getElem?_eq_some_iff.1 h0).1;have hown:∀ k,p.S0 k->k < w.heap.size:=λk hk=>hF.lt k (hS k hk)
 have hWg:¬(own p.Wg∨sh p.Wg):=λhx=>by
  obtain⟨b,e,_,h1,h2⟩:=hF.shun (.cell (stA p.Wg)) (.inr ⟨_,rfl,rfl⟩);cases e;exact hx.elim h1 h2
 have hj:p.b0+(r+1) - (r+1)=p.b0:=qo;refine⟨p.b0,λi=>⟨1,q (i+1),Deaf t (i+1)⟩,λ_=>tr,λ_ _=>False,λ_ _=>False,.sp r 5,0,0,0,by omega,Nat.le_refl _,h0,by have:=MS.skd (P:=P) (ty:=p.ty) (Wg:=p.Wg) (S0:=p.S0) (Wk:=Wrk P p) (Fin:=Fin) (AnchW:=AnchW) (n:=p.b0+(r+1)) (b0:=p.b0) (r:=r) qo htr;rwa [hj] at this,λi hi=>?_,λi hi=>rfl,?_,?_,hF.hears,λi hi=>rfl,λi h1 h2=>by omega,λi h1 h2=>by omega,hwg,?_⟩
 ·obtain⟨g,hg⟩:∃ g,gs[i+1]?=some g:=⟨gs[i+1]'qo,Array.getElem?_eq_getElem qo⟩
  exact⟨g,hg,.bk ⟨by show 1<=6;omega,.quit (hF.leav.old (i+1) g qo hg)⟩ λ_ h=>h⟩
 ·refine⟨λ_ _ _ _ h=>h.elim False.elim False.elim,λ_ _ h=>h.elim,λ_ _ h=>h.elim False.elim False.elim,λ_ _ h=>h.elim False.elim False.elim,hown,⟨hWs,hF.lt _ (.inl hC),λe=>hWg (.inl (e ▸ hC)),λhx=>hWg (hS _ hx),hSC⟩,λ_=>⟨λh=>h.elim False.elim False.elim,λh=>h.elim False.elim False.elim⟩,λ_ _ h=>h.elim False.elim False.elim,hpay,hbx,λl hl=>?_,hw0⟩;obtain⟨b,e,h1,h2,h3⟩:=hF.shun l (.inl hl);obtain⟨b',e',h4⟩:=hold l hl;rw[e] at e';cases e';exact⟨b,e,h1,λ_ h=>h.elim False.elim False.elim,λhx=>(hS _ hx).elim h2 h3,by omega,λe=>h2 (e ▸ hC)⟩
 ·have hct:CT (ShL p) (U5 p (λ_ _=>False) λ_ _=>False) (RdL p) t (gs.size - 1):=UU hF.ct (λl hl=>.inl hl) (λl hl=>hl) (λk k1 kj l hl=>by
   rcases hl with ⟨_,_,h⟩|⟨_,_,h⟩|⟨h,_⟩
   ·exact(h.elim id id).elim
   ·exact(h.elim id id).elim
   ·omega) (λ_ _ _ _ h=>h.elim) λk k1 kj l=>⟨λh=>by have:=h.1;omega,λh=>h.elim⟩
  refine⟨by rw[hb];exact hct,hF.seen,λi g h1 h2 h3 h4=>hF.over i g h1 h2 h4,λi hi=>?_,λi x g h1 h2 h3 h4 h5=>?_,λi x g h1 h2 h3=>?_⟩
  ·obtain⟨op,ho,hoa⟩:=Option.map_eq_some_iff.1 hi;have:=hnt op (Array.mem_of_getElem? ho);rw[hoa] at this;exact absurd this (by show ¬p.Wg < p.Wg;omega)
  ·by_cases hw:ShN p.Wg x.loc
   ·obtain⟨ad,e,had⟩:=hw;exact absurd e (NT.cell hnt qo i x h1)
   ·exact hF.ct.free x.loc (λh=>h.elim h5 hw) (λ_ _ _=>⟨λh=>h,λh=>h⟩) i x h1 rfl
  ·obtain⟨op,ho,hog⟩:=Option.map_eq_some_iff.1 h2;have:=hF.ct.gs i op ho;omega
 ·have hv:Vc p.b0 (λi=>(⟨1,q (i+1),Deaf t (i+1)⟩:ConcN.WD))=0:=by
   have h2:sumTo p.b0 (λi=>cnt (⟨1,q (i+1),Deaf t (i+1)⟩:ConcN.WD))<=0*p.b0:=sumTo_le λ_ _=>Nat.le_refl _;simp only[Vc];omega
  have:=ConcN.Mode.opn (j:=p.b0) (D:=λi=>(⟨1,q (i+1),Deaf t (i+1)⟩:ConcN.WD)) (tag:=.sp r 5) trivial (λi _=>.inr (.inr (.inr rfl))) λvs e=>by cases e
  rw[hv] at this;simpa [pend] using this
def PEnd.frame {n:Nat} {D:Nat->ConcN.WD} {o gv:Nat->Bk} (h:PEnd P p Fin n gs w t D o gv a) (hbn:p.b0<=n) (So:Bk) (hS:∀ k,p.S0 k↔So k∨sh k) (hshC:¬sh p.C) :
  Frm P sh (λk=>(∃ x,o x k∨gv x k)∨So k∨k=p.C) gs w t (λi=>(D (i - 1)).fuel) (ShL p):=by
 obtain⟨qa,a1,a2,a3,a4⟩:=h.acq
 have hover:t.HandedOver:=λi g hg hne hc=>by
  by_cases hb:g<=p.b0
  ·exact h.ti.ho i g hg hne hb hc
  ·have hgn:g<=n:=by
    obtain⟨op,ho,hog⟩:=Option.map_eq_some_iff.1 hg;have:=h.ti.ct.gs i op ho;omega
   obtain⟨k,rfl⟩:∃ k,g=k+1:=⟨g - 1,by omega⟩
   obtain⟨r,hr,hrq⟩:=a4 k qo qo;have edge:HappensBefore t r qa:=.single (.inr ⟨.marked hrq (.inr hr.act) a1 (λk _ _=>h.ti.norel k),hr.heard,a3⟩);have hle:i<=r:=Nat.le_of_not_lt λhlt=>hr.after i hlt hg hc;rcases Nat.lt_or_ge i r with hlt|hge
   ·exact⟨qa,a2,.trans (.single (.inl ⟨hlt,k+1,hg,hr.g⟩)) edge⟩
   ·obtain rfl:i=r:=qo;exact⟨qa,a2,edge⟩
 have hperm:∀ l,¬ShL p l->Perm t 0 l:=λl hl i x hx e=>by
  obtain⟨op,ho,_⟩:=touch_of hx;have hg:t.g? i=some op.g:=by simp[Trace.g?,ho]
  by_cases h0:op.g=0
  ·have:=knows_own ho
   rwa [h0] at this
  ·by_cases hb:op.g<=p.b0
   ·exact h.ti.oldk i x op.g hx hg h0 hb λhs=>hl (.inl (e ▸ hs))
   ·have hc:=h.ti.cnt i x op.g hx hg qo λhs=>hl (.inr (e ▸ hs));obtain⟨k,h1,h2⟩:=hover i op.g hg h0 hc;obtain⟨z,hz,hz0⟩:=Option.map_eq_some_iff.1 h1;exact⟨k,z,hz,hz0,.inr h2⟩
 refine⟨⟨λi g hi hg=>?_,λi hi=>?_⟩,?_,hover,h.hears,h.ti.low,λl hl=>?_,λk hk=>?_⟩
 ·have hsz:=h.size;have hlt:=(Array.getElem?_eq_some_iff.1 hg).1;obtain⟨k,rfl⟩:∃ k,i=k+1:=⟨i - 1,by omega⟩
  obtain⟨g',h1,h2⟩:=h.wk k qo;rw[hg] at h1;rw[Option.some.inj h1,h.deafW k qo];exact h2
 ·exact Deaf_absent λz op hz e=>by have:=h.ti.ct.gs z op hz;have:=h.size;omega
 ·have:=ct_join h.ti.ct hperm;rw[h.size];exact this
 ·rcases hl with hl|⟨ad,rfl,had⟩
  ·obtain⟨b,e,h1,h2,h3,h4,h5⟩:=h.mi.shun l hl;refine⟨b,e,h1,λhx=>?_,λhx=>h3 ((hS _).2 (.inr hx))⟩;rcases hx with ⟨x,hx⟩|hx|hx
   ·exact h2 x hx
   ·exact h3 ((hS _).2 (.inl hx))
   ·exact h5 hx
  ·refine⟨ad,rfl,by rw[had];exact h.mi.wg.1,λhx=>?_,λhx=>h.mi.wg.2.2.2.1 ((hS _).2 (.inr (had ▸ hx)))⟩;rw[had] at hx;rcases hx with ⟨x,hx⟩|hx|hx
   ·exact(h.mi.nwg x).1 hx
   ·exact h.mi.wg.2.2.2.1 ((hS _).2 (.inl hx))
   ·exact h.mi.wg.2.2.1 hx
 ·rcases hk with (⟨x,hx⟩|hx|hx)|hx
  ·exact h.mi.lt x k hx
  ·exact h.mi.lt0 k ((hS _).2 (.inl hx))
  ·rw[hx];exact h.mi.wg.2.1
  ·exact h.mi.lt0 k ((hS _).2 (.inr hx))
end
end W
end
section
open Go.RowKit
open Go.Conc hiding base G
open Go.ConcN
open Go.ConcR (KK WgAt stA smA rd wr mk wgBlock Payload DC0 g_of_ofEvents)
namespace W
section
variable [Payload] {P:Program} {sh own So:Bk} {w:World} {g g1:Goroutine} {K Fin:GSt} {AnchW:GSt} {ty ety:TypeId} {Bx C m N Nc:Nat} {v0:Value} {F:Nat->List Value->(Nat->Option Obj)->Prop} {hid:Bk}
def phase_stk (hrun:g.status=.running) (hm:0 < m) (hN:0 < N) (hNb:N < 1000000000) (hF:∀ ri vs L L',(∀ k o,L k=some o->L' k=some o)->F ri vs L->F ri vs L')
  (hC:own C) (hSo:∀ k,So k->own k) (hSC:¬So C) (hpay:PayC C m Nc ety w) (hbx:(So Bx∨sh Bx)∧PayAt Bx 1 w∧ConcN.Has Bx 0 v0 w) (hlt:Bx < w.heap.size)
  (hstep:∀ d,stepG P true g (w.at d)=.go g1 ((w.at d).alloc (wgBlock ty 0 0)) #[])
  (hA:∀ own g w,AnchW own g w->g.status=.running) (hAn:∀ own g w1,WgLive ty w.heap.size w1->AnchW own g w1->MR P ty w.heap.size (λk=>So k∨sh k) (WW1 P ty w.heap.size (λk=>So k∨sh k) Fin AnchW) own g w1)
  (hscr:∀ b0 Sh0 w0 d,Spw P ty w.heap.size (λk=>So k∨sh k) (Wrk P ⟨ty,w.heap.size,Bx,v0,C,m,Nc,ety,b0,λk=>So k∨sh k,Sh0,F,w0,hid⟩) AnchW (b0+N) b0 N (λ_=>False) g1 ((w.at d).alloc (wgBlock ty 0 0)))
  (hK:∀ b0 Sh0 (o gv:Nat->Bk) a w',MI ⟨ty,w.heap.size,Bx,v0,C,m,Nc,ety,b0,λk=>So k∨sh k,Sh0,F,w,hid⟩ (b0+N) w' o gv->Fin (o 0) a w'->(∀ ri,ri < N->∃ x vs,V8 C m w' ri vs∧F ri vs (JP (λk=>gv x k∨(So k∨sh k)) w'))->
   K (λk=>(∃ x,o x k∨gv x k)∨So k∨k=C) a w')
  (hsh:∀ k,¬sh k):Stk P sh own g w K:=by
 intro gs sl t q Shun h0 hFr;obtain⟨N1,d,g',gs1,sl1,t1,q1,e1,e2,e3,e4,e5,e6⟩:=HF (o:=wgBlock ty 0 0) hrun (sumTo gs.size q) gs w sl t q (Nat.le_refl _) h0 hFr (λd=>⟨g1,hstep d⟩)
 have hg:g'=g1:=by
  have:=e1.symm.trans (hstep d);injection this
 subst hg;let p:Ph:=⟨ty,w.heap.size,Bx,v0,C,m,Nc,ety,gs1.size - 1,λk=>So k∨sh k,Shun,F,w,hid⟩
 have hsz:((w.at d).alloc (wgBlock ty 0 0)).heap.size=w.heap.size+1:=by
  have:(w.at d).heap=w.heap:=rfl;simp[this]
 have hkeep:∀ k,k < w.heap.size->((w.at d).alloc (wgBlock ty 0 0)).heap[k]?=w.heap[k]?:=λk hk=>by
  have:(w.at d).heap=w.heap:=rfl;simp only[World.alloc,Array.getElem?_push,this];rw[if_neg qo]
 have hwg:WgAt p.ty p.Wg ((w.at d).alloc (wgBlock ty 0 0)) 0 0:=by
  show((w.at d).alloc (wgBlock ty 0 0)).heap[w.heap.size]?=_;have:(w.at d).heap=w.heap:=rfl;simp only[World.alloc,Array.getElem?_push,this];simp;rfl
 have hCl:C < w.heap.size:=hFr.lt _ (.inl hC);obtain⟨cs,hc1,hc2⟩:=hpay;obtain⟨hb1,⟨ds,hb2,hb3⟩,hb4⟩:=hbx
 obtain⟨j,D,T,o',gv,tag,d0,st,sm,hPI⟩:=PI.start (p:=p) (Fin:=Fin) (AnchW:=AnchW) (N:=N) (own:=own) (sh:=sh) e4 e3 rfl hN e6 hwg (by show w.heap.size < _;omega) e5 hC (λk hk=>hk.imp (hSo k) id) (λhk=>hk.elim hSC (hsh _)) ⟨cs,(hkeep C hCl).trans hc1,hc2⟩
  ⟨hb1,⟨ds,(hkeep Bx hlt).trans hb2,hb3⟩,(cell_of_block (hkeep Bx hlt) 0).trans hb4⟩ ⟨rfl,rfl,rfl⟩ (hscr _ _ _ d)
 obtain⟨N2,gs2,w2,sl2,t2,D2,o2,gv2,a2,k1,k2⟩:=PI.runs hA hF hm (by show gs1.size - 1+N < gs1.size - 1+1000000000;omega) hAn _ gs1 _ sl1 t1 ⟨j,D,T,o',gv,tag,d0,g',st,sm,hPI,rfl⟩;have hfr:=k2.frame (sh:=sh) (by show gs1.size - 1<=gs1.size - 1+N;omega) So (λk=>Iff.rfl) (hsh _);refine⟨N1+N2,gs2,a2,w2,sl2,t2,_,_,_,VK e2 k1,k2.m0,hfr,hK _ _ o2 gv2 a2 w2 k2.mi k2.fin λri hri=>?_⟩;obtain⟨vs,h1,h2⟩:=k2.row (gs1.size - 1+ri) (by show gs1.size - 1<=_;omega) (by show _ < gs1.size - 1+N;omega);have e:gs1.size - 1+ri - p.b0=ri:=by show gs1.size - 1+ri - (gs1.size - 1)=ri;omega
 rw[e] at h1 h2;exact⟨_,vs,h1,h2⟩
end
end W
end
section
namespace T
open W
def sc3:Qw Tryz.prog 3:=Qw.of kr
def u3:Qr Tryz.prog 3 .i64:=by unfold Qr;kernel_rfl
def al3:Qy Tryz.prog 3 [.int .i64 0]:=Qy.of (z:=.int .i64 0) kr kr
def z3:(Tryz.prog.info? 3).map (·.size)=some 1:=by kernel_rfl
def sc4:Qw Tryz.prog 4:=Qw.of kr
def al4:Qy Tryz.prog 4 [.bool false]:=Qy.of (z:=.bool false) kr kr
def s22:Qu Tryz.prog 22 3 1:=Qu.of kr
def sc22:Qw Tryz.prog 22:=Qw.of kr
def e22:XU Tryz.prog 22 3 1 (.int .i64 0) 8:=⟨by kernel_rfl,by kernel_rfl,by kernel_rfl,by decide⟩
def s33:Qu Tryz.prog 33 110 5:=Qu.of kr
def sc33:Qw Tryz.prog 33:=Qw.of kr
def e33:XU Tryz.prog 33 110 5 (.agg #[.slice none 0 0,.bool false,.slice none 0 0,.bool false,.slice none 0 0]) 88:=⟨by kernel_rfl,by kernel_rfl,by kernel_rfl,by decide⟩
def s34:Qu Tryz.prog 34 64 4:=Qu.of kr
def sc34:Qw Tryz.prog 34:=Qw.of kr
def al34:Qy Tryz.prog 34 [.slice none 0 0]:=Qy.of (z:=.slice none 0 0) kr kr
def e34:XU Tryz.prog 34 64 4 (.agg #[.bool false,.slice none 0 0,.bool false,.slice none 0 0]) 64:=⟨by kernel_rfl,by kernel_rfl,by kernel_rfl,by decide⟩
def f36_0:Qj Tryz.prog 36 0 0:=Qj.of kr
def f36_1:Qj Tryz.prog 36 1 1:=Qj.of kr
def f36_2:Qj Tryz.prog 36 2 2:=Qj.of kr
def r36:Row Tryz.prog 36 3:=Row.of kr
def al36:Qy Tryz.prog 36 [.int .i64 0,.slice none 0 0,.slice none 0 0]:=Qy.of (z:=.agg #[.int .i64 0,.slice none 0 0,.slice none 0 0]) kr kr
def f62_0:Qj Tryz.prog 62 0 0:=Qj.of kr
def f62_1:Qj Tryz.prog 62 1 1:=Qj.of kr
def r62:Row Tryz.prog 62 2:=Row.of kr
def al62:Qy Tryz.prog 62 [.bool false,.slice none 0 0]:=Qy.of (z:=.agg #[.bool false,.slice none 0 0]) kr kr
def f64_0:Qj Tryz.prog 64 0 0:=Qj.of kr
def f64_1:Qj Tryz.prog 64 1 2:=Qj.of kr
def r64:Row Tryz.prog 64 4:=Row.of kr
def al64:Qy Tryz.prog 64 [.bool false,.slice none 0 0,.bool false,.slice none 0 0]:=Qy.of (z:=.agg #[.bool false,.slice none 0 0,.bool false,.slice none 0 0]) kr kr
def s95:Qu Tryz.prog 95 34 1:=Qu.of kr
def sc95:Qw Tryz.prog 95:=Qw.of kr
def e95:XU Tryz.prog 95 34 1 (.slice none 0 0) 24:=⟨by kernel_rfl,by kernel_rfl,by kernel_rfl,by decide⟩
def f101_0:Qj Tryz.prog 101 0 0:=Qj.of kr
def f101_1:Qj Tryz.prog 101 1 1:=Qj.of kr
def f101_2:Qj Tryz.prog 101 2 2:=Qj.of kr
def K6:Row Tryz.prog 101 7:=Row.of kr
def al101:Qy Tryz.prog 101 [.int .i64 0,.slice none 0 0,.slice none 0 0,.bool false,.slice none 0 0,.bool false,.slice none 0 0]:=Qy.of (z:=.agg #[.int .i64 0,.slice none 0 0,.slice none 0 0,.bool false,.slice none 0 0,.bool false,.slice none 0 0]) kr kr
def f110_0:Qj Tryz.prog 110 0 0:=Qj.of kr
def f110_1:Qj Tryz.prog 110 1 1:=Qj.of kr
def VT:Row Tryz.prog 110 5:=Row.of kr
def al110:Qy Tryz.prog 110 [.slice none 0 0,.bool false,.slice none 0 0,.bool false,.slice none 0 0]:=Qy.of (z:=.agg #[.slice none 0 0,.bool false,.slice none 0 0,.bool false,.slice none 0 0]) kr kr
def s130:Qu Tryz.prog 130 101 7:=Qu.of kr
def sc130:Qw Tryz.prog 130:=Qw.of kr
def al130:Qy Tryz.prog 130 [.slice none 0 0]:=Qy.of (z:=.slice none 0 0) kr kr
def e130:XU Tryz.prog 130 101 7 (.agg #[.int .i64 0,.slice none 0 0,.slice none 0 0,.bool false,.slice none 0 0,.bool false,.slice none 0 0]) 120:=⟨by kernel_rfl,by kernel_rfl,by kernel_rfl,by decide⟩
def u135:Qr Tryz.prog 135 .u64:=by unfold Qr;kernel_rfl
def sc154:Qw Tryz.prog 154:=Qw.of kr
def al154:Qy Tryz.prog 154 [.pointer none]:=Qy.of (z:=.pointer none) kr kr
def f157_0:Qj Tryz.prog 157 0 0:=Qj.of kr
def f157_1:Qj Tryz.prog 157 1 1:=Qj.of kr
def f157_2:Qj Tryz.prog 157 2 2:=Qj.of kr
def f157_3:Qj Tryz.prog 157 3 3:=Qj.of kr
def f157_4:Qj Tryz.prog 157 4 4:=Qj.of kr
def f157_5:Qj Tryz.prog 157 5 5:=Qj.of kr
end T
end
section
open Go.RowKit
namespace W
variable {P:Program} {e:Env} {bx:List Ow} {F:List Fct} {ty:TypeId}
variable {v u:Value} {bx':List Ow}
inductive QC (bx:List Ow) (F:List Fct):List Value->Prop where
 |nil:QC bx F []
 |cons {u:Value} {us:List Value}:One bx F u->QC bx F us->QC bx F (u::us)
def QC.all {us:List Value} (h:QC bx F us) {fr:CF} {w:World} (ho:OK fr bx F w):∀ c∈us,c.oneCell'=true:=by
 induction h with
 |nil=>simp
 |cons h _ ih=>intro c hc;rcases List.mem_cons.1 hc with rfl|hc;exact(h fr w ho).2;exact ih c hc
def LO.HE {op:Op} {K:Qd} {us:List Value} (hu:QC bx F us) (h:(∀ c∈us,c.oneCell'=true)->LO P op ty e bx F K):LO P op ty e bx F K:=λn fr a w o K' h1 h2 h3 h4 h5=>
 h (hu.all h4) n fr a w o K' h1 h2 h3 h4 h5
def LO.Yc {t tg:TypeId} {x y:Operand} {K:Qd} {g m:Nat} {cs us:List Value} (hx:ev e x=some (.pointer (some ⟨g,0,none⟩))) (hy:ev e y=some (.agg us.toArray))
  (hs:Sel bx (.cells g tg cs) (.cells g tg us) bx') (hr:Row P t m) (hm:us.length=m) (hm2:cs.length=m) (h1:QC bx F us) (h:K undef bx' F):LO P (.store t x y) ty e bx F K:=
 LO.HE h1 λh1=>LO.storeA hx hy hs hr hm hm2 h1 h
end W
end
section
open Go.RowKit
namespace W
variable {P:Program} {e:Env} {bx bx':List Ow} {F:List Fct} {ty:TypeId} {v u:Value}
def ce (g:Nat) (t:TypeId) (cs:List Value):Fct where
 p h:=h g=some (.cells cs.toArray t (0,0))
 mono _ _ hl hp:=hl _ _ hp
def ce_cell {fr:CF} {w:World} (ho:OK fr bx F w) {g:Nat} {t:TypeId} {cs:List Value} (h:Has F (ce g t cs)) (q:Nat):w.cell? ⟨g,q,none⟩=cs[q]?:=by
 have:=Jr (ho.has h);simp[World.cell?,this]
def YO.ldF {t tg:TypeId} {x:Operand} {g q:Nat} {cs:List Value} (hs:Qw P t) (hx:ev e x=some (.pointer (some ⟨g,q,none⟩))) (hb:Has F (ce g tg cs)) (hv:cs[q]?=some v):YO P (.load t x) ty e bx F v:=
 YO.ld hs hx rfl λfr w ho=>by rw[ce_cell ho hb];exact hv
def QF.c {g:Nat} {t:TypeId} {cs:List Value} (hb:Ow.cells g t cs∈bx):QF bx F (ce g t cs):=λfr w ho=>by
 have h:=ho.owns _ hb;simp only[Ow.holds] at h;show imm fr [] w.heap g=_;have hg:=ho.apart g (JJ.2 ⟨_,hb,by simp[Ow.ids]⟩);rw[H5 (.inl hg.1) hg.2];exact h
def YO.ixBI {t el len sz:Nat} {x y:Operand} {b q:Nat} {j:Int} (ht:QQ P t el len sz) (hx:ev e x=some (.pointer (some ⟨b,q,none⟩))) (hy:ev e y=some (.int .i64 j)) (h0:0<=j) (hk':j < len) :
  YO P (.indexAddr t x y) ty e bx F (.pointer (some ⟨b,q+j.toNat*sz,none⟩)):=
 YO.ixB ht hx (k:=j.toNat) (by rw[hy];congr 2;omega) qo
def isNil:Value->Bool
 |.slice none _ _=>true
 |_=>false
def run_eqnil {t el:TypeId} {a:Option Addr} {l c:Nat} (d:Nat) (w:World) (h:P.underlying t=some (.slice el)):(Op.equalIn (d+1) t (.slice a l c) (.slice none 0 0)).run P w=.ok (isNil (.slice a l c)) w:=by
 cases a <;> simp[Op.equalIn,run_underlying h,isNil]
def ev_eqnil {t el:TypeId} {a:Option Addr} {l c:Nat} (d:Nat) (w:World) (es:Array Event) (h:P.underlying t=some (.slice el)):(Op.equalIn (d+1) t (.slice a l c) (.slice none 0 0)).events P w es=es:=by
 cases a <;> simp[Op.equalIn,run_underlying h]
end W
end
end Go.Proofs.YtcpaopfdiahnnaaGreat
