/- Lemmas for a law. Conditions: none. -/
import Derived.Test.YtbnobghgnbockaaGreatZf3
import Derived.Conc.Beside
import Derived.Conc.CrowdTrace
import Derived.Conc.CrowdInv
import Derived.Conc.CrowdStepW
import Derived.Conc.WgGenN3
set_option linter.all false
set_option maxHeartbeats 32000000
set_option maxRecDepth 100000
namespace Go.Proofs.YtbnobghgnbockaaGreat
section
open Go.RowKit
open Go.Conc hiding base G
open Go.ConcN (sumTo sumTo_upd upd_ne upd_same)
namespace W
structure Frm(P:Program)(sh own:Bk)(gs:Array Goroutine)(w:World)(t:Trace)(q:Nat->Nat)(Shun:Loc->Prop):Prop where
 leav:Leavers P t gs q
 ct:Go.ConcN.CT Shun (λ_ _=>False) (λ_ _=>False) t (gs.size-1)
 over:t.HandedOver
 hears:Deaf t 0=0
 seen:∀op∈t,op.act.low w.heap.size
 shun:∀l,Shun l->∃a,l=.cell a/\a.block<w.heap.size/\¬own a.block/\¬sh a.block
 lt:∀k,own k\/sh k->k<w.heap.size
def Frm.past{P:Program}{sh own:Bk}{gs:Array Goroutine}{w:World}{t:Trace}{q:Nat->Nat}{Shun:Loc->Prop}(h:Frm P sh own gs w t q Shun):Past Shun w.heap.size t:=by
 refine⟨h.ct.nr,λi a ha _=>?_,h.over,h.hears,h.seen⟩;by_cases hs:Shun a.loc
 ·obtain⟨x,hx,hxa⟩:=touch_of ha;obtain⟨h1,h2⟩:=h.ct.quiet i x a hx hxa hs;cases hk:a.kind with
  |plain=>exact absurd hk h1
  |atomic=>exact .inr ⟨hs,rfl⟩
  |said=>
   have:=knows_own hx;rw[h2 hk] at this;exact .inl this
 ·exact .inl (h.ct.free a.loc hs (λ_ _ _=>⟨λh=>h,λh=>h⟩) i a ha rfl)
def noApart(Shun:Loc->Prop):Go.ConcN.Apart Shun (λ_ _=>False) (λ_ _=>False):=⟨λ_ _ _ h=>h.elim,λ_ _ _ h=>h.elim,λ_ _ h=>h.elim,λ_ _ h=>h.elim⟩
def Stk(P:Program)(sh own:Bk)(g:Goroutine)(w:World)(K:Bk->Goroutine->World->Prop):Prop:=
 ∀gs sl t q Shun,gs[0]?=some g->Frm P sh own gs w t q Shun->
  ∃N gs' g' w' sl' t' q' Shun' own',runNT P N (crowd gs w sl) t=(.next (crowd gs' w' sl'),t')/\gs'[0]?=some g'/\Frm P sh own' gs' w' t' q' Shun'/\K own' g' w'
def mainMd(P:Program):Md:=⟨true,λ_=>True,λ_ _ _ _ _ _=>False,Stk P,λ_=>False⟩
def U6{P:Program}{m m' m'':Machine}{t t' t'':Trace}{N K:Nat}(h:runNT P N m t=(.next m',t'))(hk:runNT P K m' t'=(.next m'',t'')):runNT P (N+K) m t=(.next m'',t''):=by
 rw[runNT_add,h];exact hk
def Rly.at(own sh:Bk)(w:World)(d:Nat):Rly own sh w (w.at d):=⟨⟨rfl,rfl,rfl⟩,Nat.le_refl _,λ_ _ _=>rfl⟩
def evL_of{own sh:Bk}{Shun:Loc->Prop}{B:Nat}{e:Event}(h:XX own sh e)(hl:∀k,own k\/sh k->k<B)(hs:∀a:Addr,own a.block\/sh a.block->¬Shun (.cell a))(hso:∀r,¬Shun (.obj r)):(∀x,(MemAct.ofEvent e).touch?=some x->¬Shun x.loc)/\e.loc≠.mark .disable/\e.loc≠.mark .enable/\(MemAct.ofEvent e).low B:=by
 rcases h with ⟨a,hl',ho⟩|⟨m,rfl,hn⟩|⟨r,hl',ho⟩
 ·obtain⟨loc,wr,sy⟩:=e;simp only at hl';subst hl';have ho':own a.block\/sh a.block:=ho.imp id And.left;refine⟨λx hx hsx=>?_,by simp,by simp,?_⟩
  ·have:x.loc=.cell a:=by
    cases wr<;>cases sy<;>simp[MemAct.ofEvent,MemAct.touch?] at hx<;>subst hx<;>rfl
   rw[this] at hsx;exact hs a ho' hsx
  ·exact hl _ ho'
 ·refine⟨λx hx _=>?_,by simpa using hn.ne_disable,by simpa using hn.ne_enable,?_⟩
  ·have:(MemAct.mark m).touch?=some x:=hx;rw[hn.touch] at this;cases this
  ·unfold Go.Conc.Neutral at hn;subst hn;trivial
 ·obtain⟨loc,wr,sy⟩:=e;simp only at hl';subst hl';refine⟨λx hx hsx=>?_,by simp,by simp,?_⟩
  ·have:x.loc=.obj r:=by
    cases wr<;>cases sy<;>simp[MemAct.ofEvent,MemAct.touch?] at hx<;>subst hx<;>rfl
   rw[this] at hsx;exact hso r hsx
  ·have:=hl _ (.inl ho);cases wr<;>cases sy<;>exact this
section
variable {P:Program}{sh own:Bk}{Shun:Loc->Prop}{g:Goroutine}
def evL_weak{Shun:Loc->Prop}{B:Nat}{e:Event}(h:(∀x,(MemAct.ofEvent e).touch?=some x->¬Shun x.loc)/\e.loc≠.mark .disable/\e.loc≠.mark .enable/\(MemAct.ofEvent e).low B):EvL Shun B e:=⟨λx hx hs=>absurd hs (h.1 x hx),h.2⟩
def Frm.at{gs:Array Goroutine}{w:World}{t:Trace}{q:Nat->Nat}(h:Frm P sh own gs w t q Shun)(d:Nat):Frm P sh own gs (w.at d) t q Shun:=⟨h.leav,h.ct,h.over,h.hears,h.seen,h.shun,h.lt⟩
def Frm.awake{gs:Array Goroutine}{w:World}{t:Trace}{q:Nat->Nat}(h:Frm P sh own gs w t q Shun)(h0:gs[0]?=some g)(hrun:g.status=.running):∀x∈gs,awake x:=by
 intro x hx;obtain⟨i,hi,rfl⟩:=Array.mem_iff_getElem.1 hx;rcases Nat.eq_zero_or_pos i with rfl|hpos
 ·have:gs[0]=g:=by simpa [Array.getElem?_eq_getElem hi] using h0
  rw[this];exact awake_of (.inl hrun)
 ·exact awake_of ((h.leav.old i _ hpos (Array.getElem?_eq_getElem hi)).status.elim .inl λy=>.inr (.inr y))
def Frm.slip{gs:Array Goroutine}{w:World}{t:Trace}{q:Nat->Nat}{sl:Option (Nat×Nat)}(h:Frm P sh own gs w t q Shun)(h0:gs[0]?=some g)(hrun:g.status=.running){i:Nat}{x:Goroutine}(hpos:0<i)(hi:gs[i]?=some x)(hx:x.status=.running) :
  ∃gs' q' ops,runT P (crowd gs w sl) i=(.next (crowd gs' w sl),ops)/\gs'.size=gs.size/\gs'[0]?=some g/\Frm P sh own gs' w (t++ops) q' Shun/\sumTo gs.size q'<sumTo gs.size q:=by
 have hq:=h.leav.old i x hpos hi;have hi0:(i == 0)=false:=by simp;omega
 have hlt:i<gs.size:=(Array.getElem?_eq_some_iff.1 hi).1;cases hqi:q i with
 |zero=>rw[hqi] at hq;rw[hq.1] at hx;cases hx
 |succ k=>
  rw[hqi] at hq;rcases hq with ⟨hf,_⟩|⟨_,g',es,hm,hstp,hq'⟩
  ·rw[hf] at hx;cases hx
  have hrunT:=runT_crowd_go (P:=P) (w:=w) (sl:=sl) (i:=i) hi (by rw[hi0];exact hstp w)
  have hsum:sumTo gs.size (Go.ConcN.upd q i k)+(k+1)=sumTo gs.size q+k:=by
   have:=sumTo_upd q k id hlt;simpa [hqi] using this
  refine⟨_,Go.ConcN.upd q i k,_,hrunT,by simp,?_,⟨⟨λj y hj hy=>?_,λj hj=>?_⟩,?_,handedOver_app h.over λop hop=>.inr (by obtain⟨e,he,rfl⟩:=Go.Conc.mem_ofEvents hop;exact touch_mute (hm e he)),(Deaf_other t (g:=0) (g':=i) qo _ (λop hop=>by obtain⟨e,_,rfl⟩:=Go.Conc.mem_ofEvents hop;rfl)).trans h.hears,
   seen_app h.seen λop hop=>by obtain⟨e,he,rfl⟩:=Go.Conc.mem_ofEvents hop;exact low_mute (hm e he) _,h.shun,h.lt⟩,by omega⟩
  ·have hne:i≠0:=qo;rw[Array.getElem?_setIfInBounds_ne hne,Array.getElem?_map,h0];simp[woken_run hrun]
  ·by_cases hji:i=j
   ·subst hji;rw[Array.getElem?_setIfInBounds_self_of_lt (by simpa using hlt)] at hy;obtain rfl:=Option.some.inj hy;rw[upd_same,Deaf_own];exact hq'
   ·rw[Array.getElem?_setIfInBounds_ne hji,Array.getElem?_map] at hy;obtain⟨z,hz,rfl⟩:=Option.map_eq_some_iff.1 hy;have hqj:=h.leav.old j z hj hz;rw[woken_quitsD hqj,upd_ne q k (Ne.symm hji),Deaf_other t hji _ (λop hop=>by obtain⟨e,_,rfl⟩:=Go.Conc.mem_ofEvents hop;rfl)];exact hqj
  ·rw[Deaf_other t (g':=i) (by simp at hj;omega) _ (λop hop=>by obtain⟨e,_,rfl⟩:=Go.Conc.mem_ofEvents hop;rfl)];exact h.leav.above j (by simpa using hj)
  ·have:=h.ct.appW (noApart Shun) (k:=i) qo qo (u:=MemOp.ofEvents i x.frame.fn x.frame.place es) λop hop=>by
    obtain⟨e,he,rfl⟩:=Go.Conc.mem_ofEvents hop;exact⟨rfl,λy hy=>by rw[touch_mute (hm e he)] at hy;cases hy⟩
   simpa using this
def Frm.own0{gs:Array Goroutine}{w w':World}{t:Trace}{q:Nat->Nat}{sl:Option (Nat×Nat)}(h:Frm P sh own gs w t q Shun)(h0:gs[0]?=some g){g':Goroutine}{es:Array Event}(hgo:stepG P true g w=.go g' w' es)(hG:Xr own sh w w' es) :
  ∃gs' ops,runT P (crowd gs w sl) 0=(.next (crowd gs' w' sl),ops)/\gs'.size=gs.size/\gs'[0]?=some g'/\Frm P sh (grow own w w') gs' w' (t++ops) q Shun:=by
 have hrunT:=runT_crowd_go (P:=P) (sl:=sl) (i:=0) h0 (show stepG P (0 == 0) g w=_ from hgo);have hlt:0<gs.size:=(Array.getElem?_eq_some_iff.1 h0).1
 have hlt':∀k,grow own w w' k\/sh k->k<w'.heap.size:=λk hk=>by
  rcases hk with (hk|hk)|hk
  ·exact Nat.lt_of_lt_of_le (h.lt k (.inl hk)) hG.size
  ·exact hk.2
  ·exact Nat.lt_of_lt_of_le (h.lt k (.inr hk)) hG.size
 have hev:∀e∈es,(∀x,(MemAct.ofEvent e).touch?=some x->¬Shun x.loc)/\e.loc≠.mark .disable/\e.loc≠.mark .enable/\(MemAct.ofEvent e).low w'.heap.size:=λe he=>by
  refine evL_of (hG.evs e he) hlt' (λa ha hs=>?_) λr hr=>by obtain⟨a,h1,_⟩:=h.shun _ hr;cases h1
  obtain⟨b,hb,h1,h2,h3⟩:=h.shun _ hs;cases hb;rcases ha with (ha|ha)|ha
  ·exact h2 ha
  ·omega
  ·exact h3 ha
 refine⟨_,_,hrunT,by simp,by simp[hlt],⟨⟨λj x hj hx=>?_,λj hj=>?_⟩,?_,handedOver_app h.over λop hop=>.inl (by obtain⟨e,he,rfl⟩:=Go.Conc.mem_ofEvents hop;rfl),?_,seen_app (λop hop=>MemAct.low_mono hG.size (h.seen op hop)) λop hop=>by obtain⟨e,he,rfl⟩:=Go.Conc.mem_ofEvents hop;exact(hev e he).2.2.2,λl hl=>?_,hlt'⟩⟩
 ·have hne:0≠j:=qo;rw[Array.getElem?_setIfInBounds_ne hne,Array.getElem?_map] at hx;obtain⟨y,hy,rfl⟩:=Option.map_eq_some_iff.1 hx;have hq:=h.leav.old j y hj hy;rw[woken_quitsD hq,Deaf_other t qo _ (λop hop=>by obtain⟨e,_,rfl⟩:=Go.Conc.mem_ofEvents hop;rfl)];exact hq
 ·rw[Deaf_other t (g':=0) (by simp at hj;omega) _ (λop hop=>by obtain⟨e,_,rfl⟩:=Go.Conc.mem_ofEvents hop;rfl)];exact h.leav.above j (by simpa using hj)
 ·have:=h.ct.app0 (noApart Shun) (u:=MemOp.ofEvents 0 g.frame.fn g.frame.place es) λop hop=>by
   obtain⟨e,he,rfl⟩:=Go.Conc.mem_ofEvents hop;exact⟨rfl,λy hy=>.inr ⟨(hev e he).1 y hy,λ_ _ _ h=>h,λ_ _ _ _ h=>h⟩⟩
  simpa using this
 ·rw[Deaf_own,deafBehind_still (λe he=>⟨(hev e he).2.1,(hev e he).2.2.1⟩)];exact h.hears
 ·obtain⟨a,rfl,h1,h2,h3⟩:=h.shun l hl;exact⟨a,rfl,Nat.lt_of_lt_of_le h1 hG.size,λhk=>hk.elim h2 λhk=>by omega,h3⟩
def step_beside(hrun:g.status=.running):∀(M:Nat) (gs:Array Goroutine) (w:World) (sl:Option (Nat×Nat)) (t:Trace) (q:Nat->Nat),sumTo gs.size q<=M->gs[0]?=some g->Frm P sh own gs w t q Shun->
  (∀d,∃g' w' es,stepG P true g (w.at d)=.go g' w' es/\Xr own sh (w.at d) w' es)->
  ∃N d g' w' es gs' sl' t' q',stepG P true g (w.at d)=.go g' w' es/\Xr own sh (w.at d) w' es/\runNT P N (crowd gs w sl) t=(.next (crowd gs' w' sl'),t')/\gs'[0]?=some g'/\Frm P sh (grow own (w.at d) w') gs' w' t' q' Shun:=by
 intro M;induction M with
 |zero=>
  intro gs w sl t q hM h0 hF hst;obtain⟨i,x,d,sl',hi,hx,hstp⟩:=crowd_pick (P:=P) (w:=w) (sl:=sl) (hF.awake h0 hrun) ⟨0,g,h0,hrun⟩;rcases Nat.eq_zero_or_pos i with rfl|hpos
  ·obtain⟨g',w',es,hgo,hG⟩:=hst d;obtain⟨gs',ops,h1,_,h2,h3⟩:=(hF.at d).own0 (sl:=sl') h0 hgo hG;exact⟨1,d,g',w',es,gs',sl',_,q,hgo,hG,by simp only[runNT,hstp,h1],h2,h3⟩
  ·obtain⟨gs',q',ops,h1,h2,h3,h4,h5⟩:=(hF.at d).slip (sl:=sl') h0 hrun hpos hi hx;omega
 |succ M ih=>
  intro gs w sl t q hM h0 hF hst;obtain⟨i,x,d,sl',hi,hx,hstp⟩:=crowd_pick (P:=P) (w:=w) (sl:=sl) (hF.awake h0 hrun) ⟨0,g,h0,hrun⟩;rcases Nat.eq_zero_or_pos i with rfl|hpos
  ·obtain⟨g',w',es,hgo,hG⟩:=hst d;obtain⟨gs',ops,h1,_,h2,h3⟩:=(hF.at d).own0 (sl:=sl') h0 hgo hG;exact⟨1,d,g',w',es,gs',sl',_,q,hgo,hG,by simp only[runNT,hstp,h1],h2,h3⟩
  ·obtain⟨gs',q',ops,h1,h2,h3,h4,h5⟩:=(hF.at d).slip (sl:=sl') h0 hrun hpos hi hx;obtain⟨N,d2,g',w',es,gs2,sl2,t2,q2,e1,e2,e3,e4,e5⟩:=ih gs' (w.at d) sl' (t++ops) q' (by rw[h2];omega) h3 h4 hst;refine⟨N+1,d2,g',w',es,gs2,sl2,t2,q2,e1,e2,?_,e4,e5⟩;simp only[runNT,hstp,h1];exact e3
end
def run_main{P:Program}{sh:Bk}{Stop:Bk->Goroutine->World->Prop}{own:Bk}{g:Goroutine}{w:World}(h:Run P (mainMd P) sh Stop own g w) :
  ∀gs sl t q Shun,gs[0]?=some g->Frm P sh own gs w t q Shun->
   ∃N gs' g' w' sl' t' q' Shun' own',runNT P N (crowd gs w sl) t=(.next (crowd gs' w' sl'),t')/\gs'[0]?=some g'/\Frm P sh own' gs' w' t' q' Shun'/\∀w1,Rly own' sh w' w1->Stop own' g' w1:=by
 induction h with
 |stop h=>intro gs sl t q Shun h0 hF;exact⟨0,gs,_,_,sl,t,q,Shun,_,rfl,h0,hF,h⟩
 |@step own g w g' w' es own' h1 h2 h3 ih=>
  intro gs sl t q Shun h0 hF;obtain⟨N,d,g1,w1,es1,gs1,sl1,t1,q1,e1,e2,e3,e4,e5⟩:=step_beside h1 (sumTo gs.size q) gs w sl t q (Nat.le_refl _) h0 hF λd=>let h:=h2 _ (Rly.at own sh w d) trivial;⟨_,_,_,h.1,h.2.elim And.left False.elim⟩;obtain⟨e6,e8⟩:=h2 _ (Rly.at own sh w d) trivial;have e8:=e8.elim And.right False.elim
  have e7:g1=g' (w.at d)/\w1=w' (w.at d):=by
   have:=e1.symm.trans e6;injection this with a b
   exact⟨a,b⟩
  obtain⟨rfl,rfl⟩:=e7;obtain⟨K,gs2,g2,w2,sl2,t2,q2,S2,own2,k1,k2,k3,k4⟩:=ih _ (Rly.at own sh w d) trivial gs1 sl1 t1 q1 Shun e4 (by rw[e8];exact e5);exact⟨N+K,gs2,g2,w2,sl2,t2,q2,S2,own2,U6 e3 k1,k2,k3,k4⟩
 |@stroke own g w K h1 h2 h3 ih=>
  intro gs sl t q Shun h0 hF;obtain⟨N,gs1,g1,w1,sl1,t1,q1,S1,J0,e1,e2,e3,e4⟩:=h2 w (.refl _ _ _) gs sl t q Shun h0 hF;obtain⟨N2,gs2,g2,w2,sl2,t2,q2,S2,own2,k1,k2,k3,k4⟩:=ih J0 g1 w1 e4 gs1 sl1 t1 q1 S1 e2 e3;exact⟨N+N2,gs2,g2,w2,sl2,t2,q2,S2,own2,U6 e1 k1,k2,k3,k4⟩
def Hc(P:Program)(sh:Bk)(Post:Value->World->Prop)(own:Bk)(g:Goroutine)(w:World):Prop:=
 g.status=.running/\∃v es,stepG P true g w=.ended (.done v) w es/\(∀e∈es,XX own sh e)/\Post v w
def Z2{P:Program}{sh:Bk}{Post:Value->World->Prop}{own:Bk}{g:Goroutine}{w:World}(h:Run P (mainMd P) sh (Hc P sh Post) own g w)
  {gs:Array Goroutine} {sl:Option (Nat×Nat)} {t:Trace} {q:Nat->Nat} {Shun:Loc->Prop} (h0:gs[0]?=some g) (hF:Frm P sh own gs w t q Shun) :
  ∃N last o w' t',runNT P (N+1) (crowd gs w sl) t=(.ended o w',t')/\runN P N (crowd gs w sl)=.next last/\step P last=.ended o w'/\Go.Conc.Good P Post last o w' t':=by
 obtain⟨N,gs1,g1,w1,sl1,t1,q1,S1,J0,e1,e2,e3,e4⟩:=run_main h gs sl t q Shun h0 hF
 obtain⟨K,last,o,w',t',k1,k2,k3,k4⟩:=beside_ends (P:=P) (Shun:=S1) (B:=w1.heap.size) (D:=λ_ _ es=>∀e∈es,EvL S1 w1.heap.size e) (Post:=Post) (sl:=sl1) (n:=0) (λ_ _ _ h=>h) e2 e3.leav e3.past (by
  rintro w2 ⟨d,rfl⟩;obtain⟨h1,v,es,h2,h3,h4⟩:=e4 _ (Rly.at J0 sh w1 d);refine⟨h1,v,es,h2,λe he=>evL_weak (evL_of (h3 e he) e3.lt (λa ha hs=>?_) λr hr=>by obtain⟨a,c1,_⟩:=e3.shun _ hr;cases c1),h4⟩;obtain⟨b,hb,c1,c2,c3⟩:=e3.shun _ hs;cases hb;exact ha.elim c2 c3)
 refine⟨N+K,last,o,w',t',?_,?_,k3,k4⟩
 ·rw[Nat.add_assoc,runNT_add,e1];exact k1
 ·rw[runN_add,<-runNT_fst P _ _ t,e1];exact k2
end W
end
section
open Go.RowKit
open Go.Conc hiding base G
namespace W
inductive Tr:Type where
 |leaf
 |node (f:World->Tr)
inductive Tr.lt:Tr->Tr->Prop where
 |mk (f:World->Tr) (w:World):Tr.lt (f w) (.node f)
def Tr.acc:∀t:Tr,Acc Tr.lt t
 |.leaf=>⟨_,λy h=>by cases h⟩
 |.node f=>⟨_,λy h=>by cases h with|mk _ w=>exact Tr.acc (f w)⟩
def Dn(n:Nat)(F' F:Nat->Tr):Prop:=∃i,i<n/\Tr.lt (F' i) (F i)/\∀k,k≠i->F' k=F k
def Dn.acc:∀(n:Nat) (F:Nat->Tr),Acc (Dn n) F
 |0,F=>⟨_,λF' ⟨i,h,_⟩=>by omega⟩
 |n+1,F=>by
  have key:∀t:Tr,∀F:Nat->Tr,F n=t->Acc (Dn (n+1)) F:=by
   intro t;induction Tr.acc t with
   |intro t _ ih=>
    intro F;induction Dn.acc n F with
    |intro F _ ih2=>
     intro hF;refine⟨_,λF' hd=>?_⟩;obtain⟨i,hi,hlt,hsame⟩:=hd;by_cases h:i=n
     ·subst h;exact ih (F' i) (hF ▸ hlt) F' rfl
     ·exact ih2 F' ⟨i,by omega,hlt,hsame⟩ (by rw[hsame n (Ne.symm h)];exact hF)
  exact key _ F rfl
def Dn.upd{n i:Nat}{F:Nat->Tr}{t:Tr}(hi:i<n)(h:Tr.lt t (F i)):Dn n (Go.ConcN.upd F i t) F:=⟨i,hi,by rw[Go.ConcN.upd_same];exact h,λk hk=>Go.ConcN.upd_ne F t hk⟩
section
variable (P:Program)(main:Md)(sh:Bk)(Stop:Bk->Goroutine->World->Prop)
inductive RunT:Tr->Bk->Goroutine->World->Prop where
 |stop {own:Bk} {g:Goroutine} {w:World}:(∀w1,Rly own sh w w1->Stop own g w1)->RunT .leaf own g w
 |step {own:Bk} {g:Goroutine} {w:World} (f:World->Tr) (g':World->Goroutine) (w':World->World) (es:World->Array Event) (own':World->Bk):g.status=.running->
   (∀w1,Rly own sh w w1->main.inv w1->stepG P main.b g w1=.go (g' w1) (w' w1) (es w1)/\Fair main sh own w1 (w' w1) (es w1) (own' w1))->
   (∀w1,Rly own sh w w1->main.inv w1->RunT (f w1) (own' w1) (g' w1) (w' w1))->RunT (.node f) own g w
end
section
variable {P:Program}{main:Md}{sh:Bk}{Stop Stop':Bk->Goroutine->World->Prop}{own:Bk}{g:Goroutine}{w w1:World}
def Run.tree(hm:∀sh own g w K,¬main.Sp sh own g w K)(h:Run P main sh Stop own g w):∃t,RunT P main sh Stop t own g w:=by
 classical
 induction h with
 |stop h=>exact⟨_,.stop h⟩
 |@step own g w g' w' es own' h1 h2 h3 ih=>
  have ih':∀w1,Rly own sh w w1/\main.inv w1->∃t,RunT P main sh Stop t (own' w1) (g' w1) (w' w1):=λw1 h=>ih w1 h.1 h.2;refine⟨_,.step (λw1=>if hx:Rly own sh w w1/\main.inv w1 then(ih' w1 hx).choose else .leaf) g' w' es own' h1 h2 λw1 k1 k2=>?_⟩;rw[dif_pos (show Rly own sh w w1/\main.inv w1 from⟨k1,k2⟩)];exact(ih' w1 ⟨k1,k2⟩).choose_spec
 |stroke K h1 h2 h3 ih=>exact absurd (h2 _ (Rly.refl _ _ _)) (hm _ _ _ _ _)
def RunT.rely{t:Tr}(h:RunT P main sh Stop t own g w)(hr:Rly own sh w w1):RunT P main sh Stop t own g w1:=by
 cases h with
 |stop h=>exact .stop λw2 h2=>h w2 (hr.trans h2)
 |step f g' w' es own' h1 h2 h3=>exact .step f g' w' es own' h1 (λw2 h=>h2 w2 (hr.trans h)) λw2 h=>h3 w2 (hr.trans h)
def Run.bind(h:Run P main sh Stop own g w)(hk:∀own g w,Stop own g w->Run P main sh Stop' own g w):Run P main sh Stop' own g w:=by
 induction h with
 |stop h=>exact hk _ _ _ (h _ (Rly.refl _ _ _))
 |step g' w' es own' h1 h2 _ ih=>exact .step g' w' es own' h1 h2 ih
 |stroke K h1 h2 _ ih=>exact .stroke K h1 h2 ih
end
end W
end
section
open Go.RowKit
open Go.Conc hiding base G
open Go.ConcN (CT PermW Apart Ok0 OkW RelBy ShN)
namespace W
def NT(t:Trace)(l:Loc):Prop:=∀i a,touchAt t i=some a->a.loc≠l
def V4{B:Nat}{x:MemAct}{a:Touch}(h:x.low B)(ha:x.touch?=some a):a.loc.low B:=by
 cases x with
 |access e=>simp only[MemAct.touch?,Option.some.injEq] at ha;subst ha;exact h
 |mark m=>cases m<;>simp[MemAct.touch?] at ha<;>subst ha<;>exact h
 |_=>simp[MemAct.touch?] at ha
def NT.cell{t:Trace}{B:Nat}(h:∀op∈t,op.act.low B){a:Addr}(ha:B<=a.block):NT t (.cell a):=λi x hx e=>by
 obtain⟨op,ho,hox⟩:=touch_of hx;have:=V4 (h op (Array.mem_of_getElem? ho)) hox;rw[e] at this;exact absurd this (by show ¬a.block<B;omega)
def NT.obj{t:Trace}{B:Nat}(h:∀op∈t,op.act.low B){r:Nat}(hr:B<=r):NT t (.obj r):=λi x hx e=>by
 obtain⟨op,ho,hox⟩:=touch_of hx;have:=V4 (h op (Array.mem_of_getElem? ho)) hox;rw[e] at this;exact absurd this (by show ¬r<B;omega)
def NT.perm{t:Trace}{l:Loc}(h:NT t l)(g:Nat):Perm t g l:=λi a ha e=>absurd e (h i a ha)
def K8{Sh Sh':Loc->Prop}{Own Own' Rd Rd':Nat->Loc->Prop}{t:Trace}{j:Nat}(h:CT Sh Own Rd t j)(hs:∀l,Sh' l->Sh l\/NT t l)(hs2:∀l,Sh l->Sh' l)
  (ho:∀k,1<=k->k<=j->∀l,Own' k l->Own k l\/NT t l) (ho2:∀k,1<=k->k<=j->∀l,Own k l->Own' k l) (hr:∀k,1<=k->k<=j->∀l,Rd' k l↔Rd k l):CT Sh' Own' Rd' t j:=by
 refine⟨λi op x hi hx hsx=>?_,λk k1 kj l hl=>(ho k k1 kj l hl).elim (h.own k k1 kj l) λx=>x.perm _,λk k1 kj l hl=>h.rd k k1 kj l ((hr k k1 kj l).1 hl),λl hl hn=>h.free l (λx=>hl (hs2 l x)) λk k1 kj=>⟨λx=>(hn k k1 kj).1 (ho2 k k1 kj l x),λx=>(hn k k1 kj).2 ((hr k k1 kj l).2 x)⟩,
  λl hl hn=>h.mine l (λx=>hl (hs2 l x)) λk k1 kj x=>hn k k1 kj (ho2 k k1 kj l x),h.nr,h.gs⟩
 rcases hs _ hsx with h1|h1
 ·exact h.quiet i op x hi hx h1
 ·exact absurd rfl (h1 i x (by rw[touchAt_of hi];exact hx))
def ct_join{Sh:Loc->Prop}{Own Rd:Nat->Loc->Prop}{t:Trace}{j:Nat}(h:CT Sh Own Rd t j)(hk:∀l,¬Sh l->Perm t 0 l):CT Sh (λ_ _=>False) (λ_ _=>False) t j:=
 ⟨h.quiet,λ_ _ _ _ h=>h.elim,λ_ _ _ _ h=>h.elim,λl hl _=>hk l hl,λl hl _=>.of (hk l hl),h.nr,h.gs⟩
def HO(b:Nat)(t:Trace):Prop:=∀i g,t.g? i=some g->g≠0->g<=b->t.counts i->∃k,t.g? k=some 0/\HappensBefore t i k
def HO.app{b:Nat}{t u:Trace}(h:HO b t)(hu:∀op∈u,op.g=0\/b<op.g\/op.act.touch?=none):HO b (t++u):=by
 intro i g hg hne hle hc;obtain⟨x,hx,hz⟩:=hc;obtain⟨op,hop,hox⟩:=touch_of hx;rcases getElem?_append_cases hop with ⟨hi,hop'⟩|⟨_,hopu⟩
 ·obtain⟨j,hj,hb⟩:=h i g (by simpa [Trace.g?,getElem?_append_old hi] using hg) hne hle ((counts_old hi).1 ⟨x,hx,hz⟩)
  have hjl:j<t.size:=by
   unfold Trace.g? at hj;obtain⟨z,hz,_⟩:=Option.map_eq_some_iff.1 hj;exact lt_size_of_getElem? hz
  exact⟨j,by simpa [Trace.g?,getElem?_append_old hjl] using hj,hb_app u hb⟩
 ·have hgo:op.g=g:=by simpa [Trace.g?,hop] using hg
  rcases hu op hopu with h0|h0|h0
  ·exact absurd (hgo ▸ h0) hne
  ·omega
  ·rw[h0] at hox;cases hox
end W
end
section
open Go.RowKit
open Go.Conc hiding base G
open Go.ConcN
open Go.ConcR (KK WgAt stA smA rd wr mk Payload DC0 bk_of_mute ofEvent_loc_mark)
namespace W
def Dfd(d:Nat)(es:Array Event):Prop:=∀j e,es[j]?=some e->(MemAct.ofEvent e).touch?=none\/0<deafBehind d (es.extract 0 j)
section
variable [Payload](P:Program)(ty:TypeId)(Wg Bx:Nat)(v0:Value)
abbrev Bks(s m d:Nat)(g:Goroutine)(w:World):Prop:=s<=6/\WSit P ty Wg Bx 1 (λ_ _=>False) (λ_ _=>False) 0 1 v0 s m d g w
structure BStep(j i:Nat)(D:Nat->ConcN.WD)(tag:CTag)(g:Goroutine)(w:World)(g':Goroutine)(w':World)(es:Array Event)(x:ConcN.WD)(st' sm':Int):Prop where
 go:stepG P false g w=.go g' w' es
 aside:Aside Wg w w'
 wg:WgAt ty Wg w' st' sm'
 bk:∀e∈es,ConcR.Bk Wg e
 dfd:Dfd (D i).deaf es
 sit:Bks P ty Wg Bx v0 x.stage x.fuel x.deaf g' w'
 deaf:deafBehind (D i).deaf es=x.deaf
 mode:∀tag',(tag'=tag\/(tag=.blk/\tag'=.w3))->(mayWake P g=true->g'.status=.running->tag'≠.blk)->ConcN.Mode j (upd D i x) tag' st' sm'
 lt:(x.stage<(D i).stage/\cnt x<=cnt (D i))\/(x.stage=(D i).stage/\x.fuel+1=(D i).fuel)
 one:(D i).stage=1->x.stage=1/\∀e∈es,(MemAct.ofEvent e).touch?=none
end
section
variable [Payload]{P:Program}{ty:TypeId}{Wg Bx:Nat}{v0:Value}{j i:Nat}{D:Nat->ConcN.WD}{tag:CTag}{g:Goroutine}{w:World}{st sm:Int}
def dfd_1(e:Event)(d:Nat):Dfd (d+1) #[e]:=λjx x hx=>by
 match jx,hx with
 |0,_=>exact .inr (by simp[deafBehind])
 |jx+1,hx=>simp at hx
def dfd_mark(m:Mark)(d:Nat)(h:((MemAct.ofEvent (mk m)).touch?=none)):Dfd d #[mk m]:=λjx x hx=>by
 have:=Array.mem_of_getElem? hx;simp at this;subst this;exact .inl h
def dfd_rw(a:Addr)(d:Nat):Dfd (d+1) #[rd a,wr a]:=λjx e he=>by
 match jx,he with
 |0,_=>exact .inr (by simp[deafBehind])
 |1,_=>exact .inr (by simp[deafBehind,rd])
 |jx+2,he=>simp at he
def dfd_sem(a:Addr)(d:Nat):Dfd (d+1) (semEvents a):=λjx e he=>by
 match jx,he with
 |0,he=>simp[semEvents] at he;subst he;exact .inl rfl
 |1,_=>exact .inr (by simp[deafBehind,semEvents])
 |2,_=>exact .inr (by simp[deafBehind,semEvents])
 |3,he=>simp[semEvents] at he;subst he;exact .inl rfl
 |jx+4,he=>simp[semEvents] at he
def bk_sem:∀e∈semEvents (smA Wg),ConcR.Bk Wg e:=λe he=>by
 simp[semEvents] at he;rcases he with rfl|rfl|rfl|rfl
 ·exact .inl rfl
 ·exact bk_cell _ _ rfl
 ·exact bk_cell _ _ rfl
 ·exact .inr (.inl rfl)
def bk_rw:∀e∈#[rd (stA Wg),wr (stA Wg)],ConcR.Bk Wg e:=λe he=>by
 simp at he;rcases he with rfl|rfl<;>exact bk_cell _ _ rfl
def Kd{wr':Bool}(a:Addr)(h:a.block=Wg):∀e∈#[(⟨.cell a,wr',true⟩:Event)],ConcR.Bk Wg e:=λe he=>by
 simp at he;subst he;exact bk_cell _ _ h
def dfd_none(d:Nat):Dfd d #[]:=λjx e he=>by simp at he
def Hj{q d:Nat}(h:OpenSt j D):OpenSt j (upd D i ⟨1,q,d⟩):=λa ha=>by
 by_cases e:a=i
 ·subst e;rw[upd_same];simp
 ·rw[upd_ne D _ e];exact h a ha
def lastTo(hm:ConcN.Mode j D tag st sm)(hi:i<j)(h:(D i).stage=4\/(D i).stage=3){s' m' d':Nat}(hs:s'=3\/s'=2):ConcN.Mode j (upd D i ⟨s',m',d'⟩) tag (if s'=2 then 0 else 1) 0:=by
 obtain⟨h1,h2,_,_⟩:=hm.isLast hi qo;have:=ConcN.Mode.last (j:=j) (D:=upd D i ⟨s',m',d'⟩) (tag:=tag) i h1 hi (by rw[upd_same];simp only;omega) (λa ha e=>by rw[upd_ne D _ e];exact h2 a ha e)
 rwa [upd_same] at this
def book_step(hwg:WgAt ty Wg w st sm)(hmode:ConcN.Mode j D tag st sm)(hi:i<j)(hb:Vc j D+pend tag<2147483647)(hs:Bks P ty Wg Bx v0 (D i).stage (D i).fuel (D i).deaf g w)(hrun:g.status=.running) :
  ∃g' w' es x st' sm',BStep P ty Wg Bx v0 j i D tag g w g' w' es x st' sm':=by
 obtain⟨h6,hs⟩:=hs;have keep:∀{x:ConcN.WD} {st' sm':Int} {g':Goroutine},ConcN.Mode j (upd D i x) tag st' sm'->∀tag',(tag'=tag\/(tag=.blk/\tag'=.w3))->(mayWake P g=true->g'.status=.running->tag'≠.blk)->ConcN.Mode j (upd D i x) tag' st' sm':=λh tag' ht _=>h.retag ht;have same:∀m' d',ConcN.Mode j (upd D i ⟨(D i).stage,m',d'⟩) tag st sm:=λm' d'=>hmode.same m' d';generalize hst:(D i).stage=s at hs;generalize hfu:(D i).fuel=m at hs;generalize hde:(D i).deaf=dd at hs;rw[hst] at same h6
 have idle:∀{g':Goroutine} {m':Nat},stepG P false g w=.go g' w #[]->WSit P ty Wg Bx 1 (λ_ _=>False) (λ_ _=>False) 0 1 v0 s m' dd g' w->m'+1=m->∃g' w' es x st' sm',BStep P ty Wg Bx v0 j i D tag g w g' w' es x st' sm':=λ{g' m'} hgo hs' hm=>
  ⟨g',w,#[],⟨s,m',dd⟩,st,sm,hgo,.refl Wg w,hwg,by simp,dfd_none _,⟨h6,hs'⟩,hde,keep (same m' dd),.inr ⟨hst.symm,by rw[hfu];exact hm⟩,λh=>⟨hst.symm.trans h,by simp⟩⟩
 cases hs with
 |r0 h=>omega
 |k1 h=>
  rcases Goes.cases h with hstop|⟨m',rfl,hstep⟩
  ·obtain⟨_,g',hgo,m₂,hk⟩:=hstop w (RW.refl w);exact⟨g',w,_,⟨5,m₂,1⟩,st,sm,hgo,.refl Wg w,hwg,(by intro e he;simp at he;subst he;exact .inl rfl),dfd_mark _ _ rfl,⟨by show _<=6;simp,.d1 hk⟩,by rw[hde];rfl,keep (hmode.counted hi qo (.inr rfl) _ _),.inl ⟨by simp only;omega,by simp[cnt,hst]⟩,λh=>by omega⟩
  ·obtain⟨g',w',es,hgo,⟨rfl,rfl⟩,hg'⟩:=hstep w (RW.refl w);exact idle hgo (.k1 hg') rfl
 |d1 h=>
  rcases Goes.cases h with hstop|⟨m',rfl,hstep⟩
  ·obtain⟨_,hall⟩:=hstop w (RW.refl w);have hc1:cnt (D i)=1:=by simp[cnt,hst]
   have hV1:1<=Vc j D:=by have:=le_sumTo (f:=λx=>cnt (D x)) hi;simp only[Vc];omega
   have hq0:∀q,cnt (⟨1,q,1⟩:ConcN.WD)=0:=λ_=>rfl;cases hmode with
   |opn h1 h2 h3=>
    obtain⟨v,hv⟩:∃v,Vc j D+pend tag=v+1:=⟨Vc j D+pend tag-1,by omega⟩
    rw[hv] at hwg;obtain⟨g',hgo,_,hq⟩:=hall v 0 qo qo (by simpa using hwg);obtain⟨q,hq⟩:=hq qo;have hv':Vc j (upd D i ⟨1,q,1⟩)+pend tag=v:=by have:=Vc_upd D (⟨1,q,1⟩:ConcN.WD) hi;have:=hq0 q;omega
    refine⟨g',_,_,⟨1,q,1⟩,_,_,hgo,aside_setCell w (stA Wg) _,hwg.setSt _,bk_rw,by rw[hde];exact dfd_rw _ 0,⟨by show _<=6;simp,.quit hq⟩,by rw[hde];rfl,keep ?_,.inl ⟨by simp only;omega,by simp[cnt]⟩,λh=>by omega⟩;have e:((v:Nat):Int)*KK+((0:Nat):Int)=((Vc j (upd D i ⟨1,q,1⟩)+pend tag:Nat):Int)*KK:=by rw[hv'];simp
    rw[e];exact .opn h1 (Hj h2) λvs ev=>by have:=h3 vs ev;omega
   |reg h1 h2 h3=>
    obtain⟨v,hv⟩:∃v,Vc j D=v+1:=⟨Vc j D-1,by omega⟩
    rw[hv] at hwg;obtain⟨g',hgo,hl,hq⟩:=hall v 1 qo qo (by simpa using hwg);by_cases hv0:v=0
    ·subst hv0;obtain⟨m₂,hk⟩:=hl ⟨rfl,rfl⟩;refine⟨g',_,_,⟨4,m₂,1⟩,_,_,hgo,aside_setCell w (stA Wg) _,hwg.setSt _,bk_rw,by rw[hde];exact dfd_rw _ 0,⟨by show _<=6;simp,.d2 hk⟩,by rw[hde];rfl,keep ?_,.inl ⟨by simp only;omega,by simp[cnt]⟩,λh=>by omega⟩
     have hoth:∀a,a<j->a≠i->(D a).stage=1:=λa ha e=>by
      have c0:=others_uncounted hi hv hc1 a ha e;have:=h2 a ha;simp only[cnt] at c0;split at c0<;>omega
     have:=ConcN.Mode.last (j:=j) (D:=upd D i ⟨4,m₂,1⟩) (tag:=tag) i h1 hi (by rw[upd_same];simp) (λa ha e=>by rw[upd_ne D _ e];exact hoth a ha e);rw[upd_same] at this;simpa using this
    ·obtain⟨q,hq⟩:=hq qo;have hv':Vc j (upd D i ⟨1,q,1⟩)=v:=by have:=Vc_upd D (⟨1,q,1⟩:ConcN.WD) hi;have:=hq0 q;omega
     refine⟨g',_,_,⟨1,q,1⟩,_,_,hgo,aside_setCell w (stA Wg) _,hwg.setSt _,bk_rw,by rw[hde];exact dfd_rw _ 0,⟨by show _<=6;simp,.quit hq⟩,by rw[hde];rfl,keep ?_,.inl ⟨by simp only;omega,by simp[cnt]⟩,λh=>by omega⟩;have e:((v:Nat):Int)*KK+((1:Nat):Int)=((Vc j (upd D i ⟨1,q,1⟩):Nat):Int)*KK+1:=by rw[hv'];simp
     rw[e];exact .reg h1 (Hj h2) qo
   |last L _ h2 h3 h4=>
    by_cases e:i=L
    ·subst e;omega
    ·have:=h4 i hi e;omega
   |sema h2=>have:=h2 i hi;omega
   |fin _ h2=>have:=h2 i hi;omega
  ·obtain⟨g',w',es,hgo,⟨rfl,rfl⟩,hg'⟩:=hstep w (RW.refl w);exact idle hgo (.d1 hg') rfl
 |d2 h=>
  rcases Goes.cases h with hstop|⟨m',rfl,hstep⟩
  ·obtain⟨_,hx⟩:=hstop w (RW.refl w);have hlt:=λm' d'=>lastTo hmode hi (.inl hst) (s':=3) (m':=m') (d':=d') (.inl rfl);obtain⟨_,_,rfl,rfl⟩:=hmode.isLast hi qo;simp only[hst] at hwg;have hwg:WgAt ty Wg w 1 0:=by simpa using hwg
   obtain⟨g',hgo,m₂,hk⟩:=hx hwg;exact⟨g',w,_,⟨3,m₂,1⟩,1,0,hgo,.refl Wg w,hwg,Kd _ rfl,by rw[hde];exact dfd_1 _ 0,⟨by show _<=6;simp,.d3 hk⟩,by rw[hde];rfl,keep (by simpa using hlt _ _),.inl ⟨by simp only;omega,by simp[cnt]⟩,λh=>by omega⟩
  ·obtain⟨g',w',es,hgo,⟨rfl,rfl⟩,hg'⟩:=hstep w (RW.refl w);exact idle hgo (.d2 hg') rfl
 |d3 h=>
  rcases Goes.cases h with hstop|⟨m',rfl,hstep⟩
  ·obtain⟨_,hx⟩:=hstop w (RW.refl w);have hlt:=λm' d'=>lastTo hmode hi (.inr hst) (s':=2) (m':=m') (d':=d') (.inr rfl);obtain⟨_,_,rfl,rfl⟩:=hmode.isLast hi qo;simp only[hst] at hwg;have hwg:WgAt ty Wg w 1 0:=by simpa using hwg
   obtain⟨g',hgo,m₂,hk⟩:=hx hwg;exact⟨g',_,_,⟨2,m₂,1⟩,0,0,hgo,aside_setCell w (stA Wg) _,hwg.setSt 0,Kd _ rfl,by rw[hde];exact dfd_1 _ 0,⟨by show _<=6;simp,.d4 hk⟩,by rw[hde];rfl,keep (by simpa using hlt _ _),.inl ⟨by simp only;omega,by simp[cnt]⟩,λh=>by omega⟩
  ·obtain⟨g',w',es,hgo,⟨rfl,rfl⟩,hg'⟩:=hstep w (RW.refl w);exact idle hgo (.d3 hg') rfl
 |d4 h=>
  rcases Goes.cases h with hstop|⟨m',rfl,hstep⟩
  ·obtain⟨_,hmw,hx⟩:=hstop w (RW.refl w);obtain⟨hW3,hoth,rfl,rfl⟩:=hmode.isLast hi qo;simp only[hst] at hwg;have hwg:WgAt ty Wg w 0 0:=by simpa using hwg
   obtain⟨g',hgo,q,hq⟩:=hx hwg
   have hrun':g'.status=.running:=by
    cases q with
    |zero=>exact absurd hq.2 qd
    |succ q=>exact hq.elim (λx=>absurd x.2 qd) (λx=>x.1)
   refine⟨g',_,_,⟨1,q,1⟩,0,1,hgo,aside_setCell w (smA Wg) _,hwg.setSm 1,bk_sem,by rw[hde];exact dfd_sem _ 0,⟨by show _<=6;simp,.quit hq⟩,by rw[hde];simp[deafBehind,semEvents],λtag' ht hw=>?_,.inl ⟨by simp only;omega,by simp[cnt]⟩,λh=>by omega⟩;have hnb:=hw hmw hrun'
   have e3:tag'=.w3:=by
    rcases ht with rfl|⟨_,rfl⟩
    ·cases tag'<;>first|rfl|exact hW3.elim|exact absurd rfl hnb
    ·rfl
   subst e3
   exact .sema λa ha=>by
    by_cases e:a=i
    ·subst e;rw[upd_same]
    ·rw[upd_ne D _ e];exact hoth a ha e
  ·obtain⟨g',w',es,hgo,⟨rfl,rfl⟩,hg'⟩:=hstep w (RW.refl w);exact idle hgo (.d4 hg') rfl
 |quit h=>
  cases m with
  |zero=>rw[h.1] at hrun;cases hrun
  |succ q=>
   rcases h with ⟨hf,_⟩|⟨_,g',es,hmute,hstep,hq⟩
   ·rw[hf] at hrun;cases hrun
   ·refine⟨g',w,es,⟨1,q,deafBehind dd es⟩,st,sm,hstep w,.refl Wg w,hwg,λe he=>bk_of_mute (hmute e he),λjx e he=>.inl (by
     rcases bk_of_mute (Wg:=Wg) (hmute e (Array.mem_of_getElem? he)) with h1|h1|⟨a,wr,rfl,_⟩
     ·rw[ofEvent_loc_mark h1];rfl
     ·rw[ofEvent_loc_mark h1];rfl
     ·have:=hmute _ (Array.mem_of_getElem? he);simp[Event.mute] at this),⟨by show _<=6;simp,.quit hq⟩,by rw[hde],keep (same q _),.inr ⟨hst.symm,by rw[hfu]⟩,λ_=>⟨rfl,λe he=>by
     rcases bk_of_mute (Wg:=Wg) (hmute e he) with h1|h1|⟨a,wr,rfl,_⟩
     ·rw[ofEvent_loc_mark h1];rfl
     ·rw[ofEvent_loc_mark h1];rfl
     ·have:=hmute _ he;simp[Event.mute] at this⟩⟩
end
end W
end
end Go.Proofs.YtbnobghgnbockaaGreat
