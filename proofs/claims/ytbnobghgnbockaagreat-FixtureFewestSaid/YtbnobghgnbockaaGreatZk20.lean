/- Lemmas. Conditions: none. -/
import Derived.Test.YtbnobghgnbockaaGreatZk19
set_option linter.all false
set_option maxHeartbeats 0
set_option maxRecDepth 100000
namespace Go.Proofs.YtbnobghgnbockaaGreat
open Go.RowKit
open Go.Conc hiding base G
open Go.ConcN
open Go.ConcR (KK WgAt stA smA rd wr mk Payload DC0 bk_of_mute ofEvent_loc_mark ofEvent_cell g_of_ofEvents)
namespace W
section
variable [Payload](P:nh)(p:Ph)
def FZ(w:nm):Prop:=WgLive p.ty p.Wg w/\PayAt p.Bx 1 w/\ConcN.Has p.Bx 0 p.v0 w/\PayC p.C p.m p.N p.ety w
def RowOk(ri:Nat)(sh own:Bk)(w w':nm)(es:Array Event)(own':Bk):Prop:=
 ∃vs:ne,vs.length=p.m/\(∀k,¬own' k)/\(∃k,own k)/\Rest w w'/\w'.heap.size=w.heap.size/\(∀k,k≠p.C->w'.heap[k]?=w.heap[k]?)/\(PayC p.C p.m p.N p.ety w->PayC p.C p.m p.N p.ety w')/\
  (∀r,r<p.m->w'.cell? ⟨p.C,p.m*ri+r,none⟩=vs[r]?)/\(∀o,o/p.m≠ri->w'.cell? ⟨p.C,o,none⟩=w.cell? ⟨p.C,o,none⟩)/\
  (∀e∈es,∃o,o/p.m=ri/\e=⟨.cell ⟨p.C,o,none⟩,true,false⟩)/\p.F ri vs (Xw (λk=>own k\/sh k) w)
def Gc(ri:Nat):Md:=⟨false,FZ p,RowOk p ri,λ_ _ _ _ _=>False,p.hid⟩
def SR0:GSt:=λown g w=>(∀k,¬own k)/\(FZ p w->AtR0 P p.ty p.Wg p.Bx 1 0 1 p.v0 g w)
def Wrk(ri box:Nat)(g:Goroutine)(w:nm):Prop:=Run P (Gc p ri) p.S0 (SR0 P p) (λk=>k=box) g w
inductive WS(ri:Nat):ConcN.WD->Tr->Bk->Goroutine->nm->Prop
 |r0 {t:Tr} {own:Bk} {g:Goroutine} {w:nm}:RunT P (Gc p ri) p.S0 (SR0 P p) t own g w->WS ri ⟨7,0,0⟩ t own g w
 |bk {x:ConcN.WD} {t:Tr} {own:Bk} {g:Goroutine} {w:nm}:Bks P p.ty p.Wg p.Bx p.v0 x.stage x.fuel x.deaf g w->(∀k,¬own k)->WS ri x t own g w
variable (Fin AnchW:GSt)(n:Nat)
structure PI(j:Nat)(gs:Array Goroutine)(w:nm)(t:Trace)(D:Nat->ConcN.WD)(T:Nat->Tr)(own gv:Nat->Bk)(tag:CTag)(d0:Nat)(a:Goroutine)(st sm:Int):Prop where
 size:gs.size=j+1
 bj:p.b0<=j
 m0:gs[0]?=some a
 main:MS P p.ty p.Wg p.S0 (Wrk P p) Fin AnchW n p.b0 tag d0 j (T 0) (own 0) a w
 wk:∀i,i<j->∃g,gs[i+1]?=some g/\WS P p (i-p.b0) (D i) (T (i+1)) (own (i+1)) g w
 old:∀i,i<p.b0->(D i).stage=1
 mi:MI p j w own gv
 ti:TI p j w.heap.size t own gv
 deaf0:Deaf t 0=d0
 deafW:∀i,i<j->Deaf t (i+1)=(D i).deaf
 rel:∀i,p.b0<=i->i<j->(D i).stage<=6->∃r,RelBy (stA p.Wg) t (i+1) r
 row:∀i,p.b0<=i->i<j->(∀k,¬own (i+1) k)->∃vs,Gl p.C p.m w (i-p.b0) vs/\p.F (i-p.b0) vs (Xw (λk=>gv (i+1) k\/p.S0 k) w)
 wg:WgAt p.ty p.Wg w st sm
 mode:ConcN.Mode j D tag st sm
end
section
variable [Payload]{P:nh}{p:Ph}{Fin AnchW:GSt}{n j d0:Nat}{gs:Array Goroutine}{w w':nm}{t:Trace}{D:Nat->ConcN.WD}{T:Nat->Tr}{own gv:Nat->Bk}{tag:CTag}{a:Goroutine}{st sm st' sm':Int}
def RunT.status{main:Md}{sh o:Bk}{X:GSt}{tr:Tr}{g:Goroutine}(h:RunT P main sh X tr o g w)(hX:X o g w->g.status=.running):g.status=.running:=by
 cases h with
 |stop h=>exact hX (h w (Rly.refl _ _ _))
 |step f g' w' es own' h1=>exact h1
def WS.status{ri:Nat}{x:ConcN.WD}{tr:Tr}{o:Bk}{g:Goroutine}(h:WS P p ri x tr o g w)(hi:FZ p w):g.status=.running\/g.status=.finished:=by
 cases h with
 |r0 h=>exact .inl (h.status λhx=>(hx.2 hi).1)
 |bk h _=>exact h.2.status
def WS.rely{ri:Nat}{x:ConcN.WD}{tr:Tr}{o:Bk}{g:Goroutine}(h:WS P p ri x tr o g w)(hr:Rly o p.S0 w w')(hbx:RW p.ty p.Wg p.Bx 1 0 0 w w'):WS P p ri x tr o g w':=by
 cases h with
 |r0 h=>exact .r0 (h.rely hr)
 |bk h1 h2=>exact .bk ⟨h1.1,h1.2.rely hbx⟩ h2
def KN{a a' g:Goroutine}{w':nm}(h:g.status=.running\/g.status=.finished):woken P a a' w' g=g:=by
 unfold Go.Conc.woken;split
 .exact again_running _ h
 .rfl
def MS.status{tr:Tr}{o:Bk}(hA:∀own g w,AnchW own g w->g.status=.running)(h:MS P p.ty p.Wg p.S0 (Wrk P p) Fin AnchW n p.b0 tag d0 j tr o a w)(hl:WgLive p.ty p.Wg w):(a.status=.running/\tag≠.blk)\/(a.status=.blocked/\tag=.blk):=by
 cases h with
 |skd _ h=>exact .inl ⟨h.status λhx=>(hx hl).1,by simp⟩
 |sa1 _ h=>exact .inl ⟨h.status λhx=>(hx hl).1,by simp⟩
 |ske _ h=>exact .inl ⟨h.status λhx=>(hx hl).1,by simp⟩
 |sgo _ h=>exact .inl ⟨h.status λhx=>(hx hl).1,by simp⟩
 |kd h=>exact .inl ⟨h.status λhx=>(hx hl).1,by simp⟩
 |anch h=>exact .inl ⟨h.status λhx=>hA _ _ _ (hx hl),by simp⟩
 |w1 h=>exact .inl ⟨h.status λhx=>(hx hl).1,by simp⟩
 |w2 h=>exact .inl ⟨h.status λhx=>(hx hl).1,by simp⟩
 |w3 h=>exact .inl ⟨h.status λhx=>(hx hl).1,by simp⟩
 |blk h1 h2 h3=>exact .inr ⟨rfl,rfl⟩
 |w4 h=>exact .inl ⟨h.status λhx=>(hx hl).1,by simp⟩
 |ke h=>exact .inl ⟨h.status λhx=>(hx hl).1,by simp⟩
 |acq h=>exact .inl ⟨h.status λhx=>(hx hl).1,by simp⟩
def MS.wokenBy{tr:Tr}{o:Bk}(hA:∀own g w,AnchW own g w->g.status=.running)(h:MS P p.ty p.Wg p.S0 (Wrk P p) Fin AnchW n p.b0 tag d0 j tr o a w)(hl:WgLive p.ty p.Wg w)(hr:Rly o p.S0 w w')(hl':WgLive p.ty p.Wg w')(g g':Goroutine) :
  ∃tag',MS P p.ty p.Wg p.S0 (Wrk P p) Fin AnchW n p.b0 tag' d0 j tr o (woken P g g' w' a) w'/\(tag'=tag\/(tag=.blk/\tag'=.w3))/\(mayWake P g=true->g'.status=.running->tag'≠.blk):=by
 have h':=h.rely hr;unfold Go.Conc.woken;split
 .rcases h.status hA hl with ⟨hs,hne⟩|⟨_,rfl⟩
  .exact⟨tag,by rw[again_running _ (.inl hs)];exact h',.inl rfl,λ_ _=>hne⟩
  .cases h' with
   |blk h1 h2 h3=>exact⟨.w3,by rw[Go.ConcR.again_blocked h1 h2];exact .w3 (.stop h3),.inr ⟨rfl,rfl⟩,λ_ _=>by simp⟩
 .rename_i hc
  exact⟨tag,h',.inl rfl,λh1 h2=>absurd (by simp[h1,h2]) hc⟩
def PI.inv(h:PI P p Fin AnchW n j gs w t D T own gv tag d0 a st sm):FZ p w:=⟨⟨_,_,h.wg⟩,h.mi.bx.2.1,h.mi.bx.2.2,h.mi.pay⟩
def rw_of(hbx:w'.heap[p.Bx]?=w.heap[p.Bx]?)(hl:WgLive p.ty p.Wg w'):RW p.ty p.Wg p.Bx 1 0 0 w w':=
 ⟨λb hb=>by omega,λ_=>hl,λ⟨cs,h1,h2⟩=>⟨cs,by rw[hbx];exact h1,h2⟩,cell_of_block hbx 0⟩
def PI.stepW(hA:∀own g w,AnchW own g w->g.status=.running)(h:PI P p Fin AnchW n j gs w t D T own gv tag d0 a st sm){i:Nat}(hi:i<j){g g':Goroutine}{es:Array Event}{own' gv':Bk}{x':ConcN.WD}{t':Tr}
  (hc:Chg p (i+1) own w w') (hfr:w.heap.size<w'.heap.size->p.b0<i+1) (hnew:∀k,own' k\/gv' k->(own (i+1) k\/gv (i+1) k)\/(w.heap.size<=k/\k<w'.heap.size)) (hold:∀k,own (i+1) k\/gv (i+1) k->own' k\/gv' k) (hd:∀k,own' k->¬gv' k)
  (hs':WS P p (i-p.b0) x' t' own' g' w') (hev:∀e∈es,EvT p (upd own (i+1) own') (upd gv (i+1) gv') w'.heap.size (i+1) e) (hk:p.b0<i+1\/∀e∈es,(MemAct.ofEvent e).touch?=none) (hcn:Cnt p (D i).deaf es)
  (hdeaf:deafBehind (D i).deaf es=x'.deaf) (hrel:p.b0<=i->x'.stage<=6->∃r,RelBy (stA p.Wg) (t++MemOp.ofEvents (i+1) g.frame.fn g.frame.place es) (i+1) r)
  (hrow:p.b0<=i->(∀k,¬own' k)->∃vs,Gl p.C p.m w' (i-p.b0) vs/\p.F (i-p.b0) vs (Xw (λk=>gv' k\/p.S0 k) w')) (hol:i<p.b0->x'.stage=1)
  (hwg:WgAt p.ty p.Wg w' st' sm') (hmode:∀tag',(tag'=tag\/(tag=.blk/\tag'=.w3))->(mayWake P g=true->g'.status=.running->tag'≠.blk)->ConcN.Mode j (upd D i x') tag' st' sm') :
  ∃tag',(tag'=tag\/(tag=.blk/\tag'=.w3))/\PI P p Fin AnchW n j ((gs.map (woken P g g' w')).setIfInBounds (i+1) g') w' (t++MemOp.ofEvents (i+1) g.frame.fn g.frame.place es) (upd D i x') (upd T (i+1) t') (upd own (i+1) own') (upd gv (i+1) gv') tag' d0 (woken P g g' w' a) st' sm':=by
 have hl':WgLive p.ty p.Wg w':=⟨_,_,hwg⟩
 obtain⟨tag',hm,htag,hwk⟩:=h.main.wokenBy hA ⟨_,_,h.wg⟩ (h.mi.others hc (y:=0) qo) hl' g g';have hmi:=h.mi.next hc (λhx=>.inr ⟨hfr hx,by omega⟩) hnew hd;have hti:=(h.ti.grow hc.size hnew hold).addW hmi qo qo (fn:=g.frame.fn) (pos:=g.frame.place) hev hk (by rw[h.deafW i hi];exact hcn);have hfro:=h.mi.frozen hc;refine⟨tag',htag,by simp[h.size],h.bj,?_,?_,λi' hi'=>?_,λi' hi'=>?_,hmi,hti,?_,λi' hi'=>?_,λi' hb hi' hs=>?_,λi' hb hi' ho=>?_,hwg,hmode tag' htag hwk⟩
 .rw[get_map_set _ _ _ _ qo,h.m0];rfl
 .rw[upd_ne T _ qo,upd_ne own _ qo];exact hm
 .by_cases e:i'=i
  .subst e;exact⟨g',get_map_set_same _ _ _ (by rw[h.size];omega),by rw[upd_same,upd_same,upd_same];exact hs'⟩
  .obtain⟨y,hy,hsy⟩:=h.wk i' hi';refine⟨y,by rw[get_map_set _ _ _ _ qo,hy,dU,KN (hsy.status h.inv)],?_⟩;rw[upd_ne D _ e,upd_ne T _ qo,upd_ne own _ qo];exact hsy.rely (h.mi.others hc (y:=i'+1) qo) (rw_of (hfro _ h.mi.bx.1) hl')
 .by_cases e:i'=i
  .subst e;rw[upd_same];exact hol hi'
  .rw[upd_ne D _ e];exact h.old i' hi'
 .rw[Deaf_other t qo _ g_of_ofEvents,h.deaf0]
 .by_cases e:i'=i
  .subst e;rw[Deaf_own,h.deafW i' hi',upd_same];exact hdeaf
  .rw[Deaf_other t qo _ g_of_ofEvents,h.deafW i' hi',upd_ne D _ e]
 .by_cases e:i'=i
  .subst e;rw[upd_same] at hs;exact hrel hb hs
  .rw[upd_ne D _ e] at hs;obtain⟨r,hr⟩:=h.rel i' hb hi' hs;exact⟨r,hr.appOther g_of_ofEvents qo⟩
 .by_cases e:i'=i
  .subst e;rw[upd_same] at ho;rw[upd_same];exact hrow hb ho
  .rw[upd_ne own _ qo] at ho;rw[upd_ne gv _ qo];obtain⟨vs,⟨h1,h2⟩,h3⟩:=h.row i' hb hi' ho
   have hm0:∀r,r<p.m->(p.m*(i'-p.b0)+r)/p.m=i'-p.b0:=λr hr=>by
    rw[cG qo,cw hr];rfl
   refine⟨vs,⟨h1,λr hr=>?_⟩,?_⟩
   .rw[hc.cells _ (by
     by_cases hbi:i+1<=p.b0
     .exact .inl hbi
     .right;rw[hm0 r hr];omega)]
    exact h2 r hr
   .rw[Yb (λk hk=>hk.elim (h.mi.given hc (i'+1) k) (hfro k))];exact h3
def PI.step0(h:PI P p Fin AnchW n j gs w t D T own gv tag d0 a st sm){a':Goroutine}{es:Array Event}{own':Bk}{tag':CTag}{d':Nat}{t':Tr}
  (hc:Chg p 0 own w w') (hnew:∀k,own' k->own 0 k\/(w.heap.size<=k/\k<w'.heap.size)) (hold:∀k,own 0 k->own' k)
  (hs':MS P p.ty p.Wg p.S0 (Wrk P p) Fin AnchW n p.b0 tag' d' j t' own' a' w') (hev:∀e∈es,EvT p (upd own 0 own') gv w'.heap.size 0 e)
  (hdeaf:deafBehind d0 es=d') (hwg:WgAt p.ty p.Wg w' st' sm') (hmode:ConcN.Mode j D tag' st' sm') :
  PI P p Fin AnchW n j ((gs.map (woken P a a' w')).setIfInBounds 0 a') w' (t++MemOp.ofEvents 0 a.frame.fn a.frame.place es) D (upd T 0 t') (upd own 0 own') gv tag' d' a' st' sm':=by
 have hl':WgLive p.ty p.Wg w':=⟨_,_,hwg⟩
 have egv:upd gv 0 (gv 0)=gv:=by funext k;by_cases e:k=0<;>simp[upd,e]
 have hnew':∀k,own' k\/gv 0 k->(own 0 k\/gv 0 k)\/(w.heap.size<=k/\k<w'.heap.size):=λk hk=>hk.elim (λx=>(hnew k x).imp .inl id) λx=>.inl (.inr x);have hold':∀k,own 0 k\/gv 0 k->own' k\/gv 0 k:=λk hk=>hk.imp (hold k) id;have hmi:=h.mi.next hc (λ_=>.inl rfl) hnew' (λk hk hg=>(hnew k hk).elim (λx=>h.mi.gvd 0 k x hg) λx=>by have:=h.mi.lt 0 k (.inr hg);omega);have hti0:=h.ti.grow hc.size hnew' hold';rw[egv] at hmi hti0;have hti:=hti0.add0 hmi (fn:=a.frame.fn) (pos:=a.frame.place) hev;have hfro:=h.mi.frozen hc;refine⟨by simp[h.size],h.bj,get_map_set_same _ _ _ (by rw[h.size];omega),by rw[upd_same,upd_same];exact hs',λi' hi'=>?_,h.old,hmi,hti,?_,λi' hi'=>?_,λi' hb hi' hs=>?_,λi' hb hi' ho=>?_,hwg,hmode⟩
 .obtain⟨y,hy,hsy⟩:=h.wk i' hi';refine⟨y,by rw[get_map_set _ _ _ _ qo,hy,dU,KN (hsy.status h.inv)],?_⟩;rw[upd_ne T _ qo,upd_ne own _ qo];exact hsy.rely (h.mi.others hc (y:=i'+1) qo) (rw_of (hfro _ h.mi.bx.1) hl')
 .rw[Deaf_own,h.deaf0];exact hdeaf
 .rw[Deaf_other t qo _ g_of_ofEvents,h.deafW i' hi']
 .obtain⟨r,hr⟩:=h.rel i' hb hi' hs;exact⟨r,hr.appOther g_of_ofEvents qo⟩
 .rw[upd_ne own _ qo] at ho;obtain⟨vs,⟨h1,h2⟩,h3⟩:=h.row i' hb hi' ho;refine⟨vs,⟨h1,λr hr=>?_⟩,?_⟩
  .rw[hc.cells _ (.inl (aj _))];exact h2 r hr
  .rw[Yb (λk hk=>hk.elim (h.mi.given hc (i'+1) k) (hfro k))];exact h3
end
end W
namespace W
section
variable [Payload]{P:nh}{p:Ph}{Fin AnchW:GSt}{n j d0:Nat}{gs:Array Goroutine}{w w':nm}{t:Trace}{D:Nat->ConcN.WD}{T:Nat->Tr}{own gv:Nat->Bk}{tag:CTag}{a:Goroutine}{st sm st' sm':Int}{sl:Option (Nat×Nat)}
def GY{x B:Nat}{o g:Nat->Bk}{own':Bk}{e:Event}(h:Yk own' p.S0 e)(hx:x=0\/p.b0<x)(ho:o x=own')(hl:∀k,own' k\/p.S0 k->k<B):EvT p o g B x e:=by
 rcases h with ⟨ad,h1,h2⟩|⟨m,rfl,hn⟩|⟨r,h1,h2⟩
 .obtain⟨loc,wr,sy⟩:=e;simp only at h1 h2;subst h1;refine⟨λy hy=>?_,hl _ (h2.imp id eJ),by simp⟩
  have hy':y.loc=.cell ad/\y.write=wr:=by
   cases wr<;>cases sy<;>simp[MemAct.ofEvent,MemAct.touch?] at hy<;>subst hy<;>exact⟨rfl,rfl⟩
  rcases h2 with h2|⟨h2,h3⟩
  .exact .inr (.inl (by rw[hy'.1];exact .inl ⟨ad,rfl,.inl (by rw[ho];exact h2)⟩))
  .exact .inr (.inr ⟨hx,⟨ad,hy'.1,h2⟩,hy'.2.trans h3⟩)
 .refine⟨λy hy=>?_,?_,?_⟩
  .have:(MemAct.mark m).touch?=some y:=hy;rw[hn.touch] at this;cases this
  .unfold Go.Conc.Neutral at hn;subst hn;trivial
  .unfold Go.Conc.Neutral at hn;subst hn;simp
 .obtain⟨loc,wr,sy⟩:=e;simp only at h1;subst h1;refine⟨λy hy=>?_,?_,by simp⟩
  .have:y.loc=.obj r:=by
    cases wr<;>cases sy<;>simp[MemAct.ofEvent,MemAct.touch?] at hy<;>subst hy<;>rfl
   exact .inr (.inl (by rw[this];exact .inr (.inl ⟨r,rfl,.inl (by rw[ho];exact h2)⟩)))
  .have:=hl _ (.inl h2);cases wr<;>cases sy<;>exact this
def ok_marks{o sh:Bk}{es:Array Event}(h:∀e∈es,Yk o sh e):∀e∈es,e.loc≠.mark .disable/\e.loc≠.mark .enable:=λe he=>by
 rcases h e he with ⟨ad,h1,_⟩|⟨m,rfl,hn⟩|⟨r,h1,_⟩
 .rw[h1];exact⟨by simp,by simp⟩
 .exact⟨by simpa using hn.ne_disable,by simpa using hn.ne_enable⟩
 .rw[h1];exact⟨by simp,by simp⟩
def ok_still{o sh:Bk}{es:Array Event}(h:∀e∈es,Yk o sh e)(d:Nat):deafBehind d es=d:=deafBehind_still (ok_marks h) d
def GV{x B:Nat}{o g:Nat->Bk}{e:Event}(h:ConcR.Bk p.Wg e)(hB:p.Wg<B):EvT p o g B x e:=by
 rcases h with h|h|⟨ad,wr,rfl,ha⟩
 .rw[show e=⟨e.loc,e.write,e.sync⟩ from rfl,h];exact⟨λy hy=>by simp[MemAct.ofEvent,MemAct.touch?] at hy,trivial,by simp⟩
 .rw[show e=⟨e.loc,e.write,e.sync⟩ from rfl,h];exact⟨λy hy=>by simp[MemAct.ofEvent,MemAct.touch?] at hy,trivial,by simp⟩
 .refine⟨λy hy=>?_,?_,by simp⟩
  .simp only[ofEvent_cell,MemAct.touch?,b8] at hy;subst hy;exact .inl ⟨⟨ad,rfl,ha⟩,by simp,λh=>by simp at h⟩
  .show ad.block<B;rw[ha];exact hB
def chg_refl(x:Nat):Chg p x own w w:=⟨.refl w,ai _,λ_ _ _ _ _=>rfl,id,λ_ _=>rfl⟩
def GJ{x:Nat}(h:Aside p.Wg w w')(hCW:p.Wg≠p.C):Chg p x own w w':=
 ⟨⟨h.os,h.tape,h.output⟩,Nat.le_of_eq h.size.symm,λk _ _ hk _=>h.block k hk,λ⟨cs,h1,h2⟩=>⟨cs,(h.block p.C (dO hCW)).trans h1,h2⟩,λo _=>cell_of_block (h.block p.C (dO hCW)) o⟩
def chg_guar{x:Nat}{es:Array Event}(hm:MI p j w own gv)(h:X8 (own x) p.S0 w w' es):Chg p x own w w':=by
 have hC:w'.heap[p.C]?=w.heap[p.C]?:=h.keep p.C hm.wg.2.1 λhx=>(hm.nwg x).2 (.inl hx);exact⟨h.rest,h.size,λk hk hx _ _=>h.keep k hk hx,λ⟨cs,h1,h2⟩=>⟨cs,hC.trans h1,h2⟩,λo _=>cell_of_block hC o⟩
def Mlt(n:Nat):Nat×Nat×(Nat->Tr)×Nat->Nat×Nat×(Nat->Tr)×Nat->Prop:=Prod.Lex (·<·) (Prod.Lex (·<·) (Prod.Lex (Dn n) (·<·)))
def Mlt.wf(n:Nat):WellFounded (Mlt n):=
 (Prod.lex ⟨_,Nat.lt_wfRel.wf⟩ (Prod.lex ⟨_,Nat.lt_wfRel.wf⟩ (Prod.lex (⟨Dn n,⟨Dn.acc n⟩⟩:WellFoundedRelation (Nat->Tr)) ⟨_,Nat.lt_wfRel.wf⟩))).wf
def lag:CTag->Nat
 |.w3=>1
 |_=>0
def meas(n j:Nat)(D:Nat->ConcN.WD)(tag:CTag)(T:Nat->Tr):Nat×Nat×(Nat->Tr)×Nat:=(phi n (Vc j D) tag+Ssum j D,Fsum j D,T,lag tag)
def G1{n a b:Nat}{x y:Nat×(Nat->Tr)×Nat}(h:a<b):Mlt n (a,x) (b,y):=.left _ _ h
def mlt_b{n a b c:Nat}{x y:(Nat->Tr)×Nat}(h:b<c):Mlt n (a,b,x) (a,c,y):=.right _ (.left _ _ h)
def mlt_c{n a b c d:Nat}{x y:Nat->Tr}(h:Dn n x y):Mlt n (a,b,x,c) (a,b,y,d):=.right _ (.right _ (.left _ _ h))
def mlt_d{n a b c d:Nat}{x:Nat->Tr}(h:c<d):Mlt n (a,b,x,c) (a,b,x,d):=.right _ (.right _ (.right _ h))
def Gk(P:nh)(p:Ph)(Fin AnchW:GSt)(n:Nat)(μ:Nat×Nat×(Nat->Tr)×Nat)(gs:Array Goroutine)(w:nm)(t:Trace):Prop:=
 ∃j D T own gv tag d0 a st sm,PI P p Fin AnchW n j gs w t D T own gv tag d0 a st sm/\Mlt (n+1) (meas n j D tag T) μ
def MS.le{tr:Tr}{o:Bk}(h:MS P p.ty p.Wg p.S0 (Wrk P p) Fin AnchW n p.b0 tag d0 j tr o a w):j<=n:=by
 cases h<;>omega
def MS.bound{tr:Tr}{o:Bk}(h:MS P p.ty p.Wg p.S0 (Wrk P p) Fin AnchW n p.b0 tag d0 j tr o a w):j+pend tag<=n:=by
 cases h<;>simp only[pend]<;>(try simp)<;>omega
def PI.vc(h:PI P p Fin AnchW n j gs w t D T own gv tag d0 a st sm):Vc j D+p.b0<=j:=by
 have key:∀k,p.b0<=k->Vc k D+p.b0<=k:=λk=>by
  induction k with
  |zero=>intro hk;simp only[Vc,sumTo];omega
  |succ k ih=>
   intro hk;rcases cQ k p.b0 with h1|h1
   .have e:sumTo (k+1) (λi=>cnt (D i))=sumTo (k+1) λ_=>0:=sumTo_congr λi hi=>by simp[cnt,h.old i qo]
    have h2:sumTo (k+1) (λ_=>0)<=0*(k+1):=sumTo_le λ_ _=>ai _;simp only[Vc];omega
   .have h2:=ih h1;have h3:cnt (D k)<=1:=by simp only[cnt];split<;>omega
    simp only[Vc,sumTo] at *;omega
 exact key j h.bj
def PI.books(hA:∀own g w,AnchW own g w->g.status=.running)(hn:n<p.b0+1000000000)(h:PI P p Fin AnchW n j gs w t D T own gv tag d0 a st sm){i:Nat}(hi:i<j){g:Goroutine}(hg:gs[i+1]?=some g)(hrun:g.status=.running)
  (hb:Bks P p.ty p.Wg p.Bx p.v0 (D i).stage (D i).fuel (D i).deaf g w) (ho:∀k,¬own (i+1) k) :
  ∃gs' w' ops,runT P (crowd gs w sl) (i+1)=(.next (crowd gs' w' sl),ops)/\Gk P p Fin AnchW n (meas n j D tag T) gs' w' (t++ops):=by
 have hVj:=h.vc;have hbd:=h.main.bound;obtain⟨g',w',es,x,st',sm',B⟩:=book_step h.wg h.mode hi qo hb hrun;have eo:upd own (i+1) (own (i+1))=own:=by funext k;by_cases e:k=i+1<;>simp[upd,e]
 have eg:upd gv (i+1) (gv (i+1))=gv:=by funext k;by_cases e:k=i+1<;>simp[upd,e]
 have hc:Chg p (i+1) own w w':=GJ B.aside h.mi.wg.2.2.1;have hWs:p.Wg<w'.heap.size:=by rw[B.aside.size];exact h.mi.wg.1
 have hx1:i<p.b0->x.stage=1/\∀e∈es,(MemAct.ofEvent e).touch?=none:=λhb=>B.one (h.old i hb)
 obtain⟨tag',htag,hp⟩:=h.stepW (own':=own (i+1)) (gv':=gv (i+1)) (x':=x) (t':=T (i+1)) hA hi (g:=g) (g':=g') (es:=es) hc (λhx=>by rw[B.aside.size] at hx;omega) (λk hk=>.inl hk) (λk hk=>hk) (λk hk hg=>h.mi.gvd _ k hk hg)
  (.bk B.sit ho) (λe he=>GV (B.bk e he) hWs) (by
   by_cases hbb:p.b0<=i
   .exact .inl qo
   .exact .inr (hx1 qo).2) (.inl λe he y hy=>by
    rcases B.bk e he with h1|h1|⟨ad,wr,rfl,h2⟩
    .rw[ofEvent_loc_mark h1] at hy;cases hy
    .rw[ofEvent_loc_mark h1] at hy;cases hy
    .simp only[ofEvent_cell,MemAct.touch?,b8] at hy;subst hy;exact⟨ad,rfl,h2⟩) B.deaf (λhbb hs=>by
    obtain⟨r,hr⟩:=h.rel i hbb hi hb.1;exact⟨r,hr.book (h.deafW i hi) _ _ B.bk B.dfd⟩) (λhbb hoo=>by
    obtain⟨vs,⟨h1,h2⟩,h3⟩:=h.row i hbb hi ho;refine⟨vs,⟨h1,λr hr=>?_⟩,?_⟩
    .exact(cell_of_block (B.aside.block p.C (dO h.mi.wg.2.2.1)) _).trans (h2 r hr)
    .rw[Yb (λk hk=>hk.elim (h.mi.given hc (i+1) k) (h.mi.frozen hc k))];exact h3) (λhb=>(hx1 hb).1) B.wg B.mode
 refine⟨_,_,_,runT_crowd_go (P:=P) (sl:=sl) (i:=i+1) hg (by simpa using B.go),j,_,_,_,_,tag',_,_,_,_,hp,?_⟩;have e1:=sumTo_upd D x cnt hi;have e2:=sumTo_upd D x WD.stage hi;have e3:=sumTo_upd D x WD.fuel hi;have hph:=phi_retag n (Vc j (upd D i x)) htag;unfold meas;rw[hph];simp only[Vc,Ssum,Fsum] at *;rcases B.lt with ⟨h1,h2⟩|⟨h1,h2⟩
 .refine G1 ?_;have:=phi_mono n (v':=sumTo j λa=>cnt (upd D i x a)) (v:=sumTo j λa=>cnt (D a)) qo tag;omega
 .have ec:cnt x=cnt (D i):=by simp only[cnt,h1]
  rw[show(sumTo j λa=>cnt (upd D i x a))=sumTo j λa=>cnt (D a) by omega,show(sumTo j λa=>(upd D i x a).stage)=sumTo j λa=>(D a).stage by omega];exact mlt_b qo
def PI.work(hA:∀own g w,AnchW own g w->g.status=.running)(hF:∀ri vs L L',(∀k o,L k=some o->L' k=some o)->p.F ri vs L->p.F ri vs L')(hm0:0<p.m)(h:PI P p Fin AnchW n j gs w t D T own gv tag d0 a st sm){i:Nat}(hi:i<j){g:Goroutine}(hg:gs[i+1]?=some g)
  (hD:D i=⟨7,0,0⟩) (hr:RunT P (Gc p (i-p.b0)) p.S0 (SR0 P p) (T (i+1)) (own (i+1)) g w) :
  ∃gs' w' ops,runT P (crowd gs w sl) (i+1)=(.next (crowd gs' w' sl),ops)/\Gk P p Fin AnchW n (meas n j D tag T) gs' w' (t++ops):=by
 have hb0:p.b0<=i:=aD λhx=>by
  have:=h.old i qo;rw[hD] at this;cases this
 have hjn:=h.main.le;have same:∀x:ConcN.WD,x=D i->upd D i x=D:=λx hx=>by funext k;by_cases e:k=i<;>simp[upd,e,hx]
 generalize hT:T (i+1)=tr at hr;cases hr with
 |stop hs=>
  obtain⟨ho,hat⟩:=hs w (Rly.refl _ _ _);obtain⟨hrun,_,g',hgo,m₂,hk⟩:=hat h.inv;have eo:upd own (i+1) (own (i+1))=own:=by funext k;by_cases e:k=i+1<;>simp[upd,e]
  have eg:upd gv (i+1) (gv (i+1))=gv:=by funext k;by_cases e:k=i+1<;>simp[upd,e]
  obtain⟨tag',htag,hp⟩:=h.stepW (own':=own (i+1)) (gv':=gv (i+1)) (x':=⟨6,m₂,0⟩) (t':=T (i+1)) (w':=w) hA hi (g:=g) (g':=g') (es:=#[Go.ConcR.mk (.releaseMerge (stA p.Wg))]) (chg_refl _) (λhx=>absurd hx (Nat.lt_irrefl _)) (λk hk=>.inl hk) (λk hk=>hk) (λk hk hg=>h.mi.gvd _ k hk hg)
   (.bk ⟨by simp,.k1 hk⟩ ho) (λe he=>by
    simp at he;subst he;exact⟨λy hy=>by simp[Go.ConcR.mk,MemAct.ofEvent,MemAct.touch?] at hy,h.mi.wg.1,by simp[Go.ConcR.mk]⟩) (.inl qo) (.inl λe he y hy=>by
    simp at he;subst he;simp[Go.ConcR.mk,MemAct.ofEvent,MemAct.touch?] at hy) (by rw[hD];rfl) (λ_ _=>⟨t.size,RelBy.new (by rw[h.deafW i hi,hD]) _ _⟩) (λhbb hoo=>h.row i hbb hi ho) (λhx=>by omega) h.wg
   (λtag' ht _=>(h.mode.counted hi (by rw[hD];simp) (.inl rfl) _ _).retag ht)
  refine⟨_,_,_,runT_crowd_go (P:=P) (sl:=sl) (i:=i+1) hg (by simpa using hgo),j,_,_,_,_,tag',_,_,_,_,hp,?_⟩;have e1:=sumTo_upd D (⟨6,m₂,0⟩:ConcN.WD) cnt hi;have e2:=sumTo_upd D (⟨6,m₂,0⟩:ConcN.WD) WD.stage hi;have hph:=phi_retag n (Vc j (upd D i ⟨6,m₂,0⟩)) htag;have c1:cnt (D i)=1:=by rw[hD];rfl
  have c2:cnt (⟨6,m₂,0⟩:ConcN.WD)=1:=rfl;have c3:(D i).stage=7:=by rw[hD]
  unfold meas;rw[hph];simp only[Vc,Ssum] at *;refine G1 ?_;rw[show(sumTo j λa=>cnt (upd D i ⟨6,m₂,0⟩ a))=sumTo j λa=>cnt (D a) by omega];omega
 |step f g' w'' es own'' hrun hst hnx=>
  obtain⟨hgo,hfair⟩:=hst w (Rly.refl _ _ _) h.inv;have hr':=hnx w (Rly.refl _ _ _) h.inv;have hlt:Tr.lt (f w) (T (i+1)):=by rw[hT];exact .mk f w
  have fin:∀{tag':CTag} {Xt gv1:Nat->Bk} {gsx:Array Goroutine} {ax:Goroutine} {st1 sm1:Int},(tag'=tag\/(tag=.blk/\tag'=.w3))->PI P p Fin AnchW n j gsx (w'' w) (t++MemOp.ofEvents (i+1) g.frame.fn g.frame.place (es w)) (upd D i ⟨7,0,0⟩) (upd T (i+1) (f w)) Xt gv1 tag' d0 ax st1 sm1->
    Gk P p Fin AnchW n (meas n j D tag T) gsx (w'' w) (t++MemOp.ofEvents (i+1) g.frame.fn g.frame.place (es w)):=λ{tag' Xt gv1 gsx ax st1 sm1} htag hp=>by
   refine⟨j,_,_,_,_,tag',_,_,_,_,hp,?_⟩;rw[same _ hD.symm];unfold meas;rw[phi_retag n (Vc j D) htag];exact mlt_c (Dn.upd qo hlt)
  have hmode:∀tag',(tag'=tag\/(tag=.blk/\tag'=.w3))->ConcN.Mode j (upd D i ⟨7,0,0⟩) tag' st sm:=λtag' ht=>by rw[same _ hD.symm];exact h.mode.retag ht
  rcases hfair with ⟨hG,ho'⟩|⟨vs,hv1,hv2,hv3,hv4,hv5,hv6,hv7,hv8,hv9,hv10,hv11⟩
  .have hc:=chg_guar h.mi hG;have hWg:(w'' w).heap[p.Wg]?=w.heap[p.Wg]?:=hG.keep p.Wg h.mi.wg.1 λhx=>(h.mi.nwg (i+1)).1 (.inl hx)
   obtain⟨tag',htag,hp⟩:=h.stepW (own':=own'' w) (gv':=gv (i+1)) (x':=⟨7,0,0⟩) (t':=f w) (w':=w'' w) (st':=st) (sm':=sm) hA hi (g:=g) (g':=g' w) (es:=es w) hc (λ_=>by omega)
    (λk hk=>by
     rw[ho'] at hk;rcases hk with (hk|hk)|hk
     .exact .inl (.inl hk)
     .exact .inr hk
     .exact .inl (.inr hk)) (λk hk=>by
     rw[ho'];exact hk.imp .inl id) (λk hk hg=>by
     rw[ho'] at hk;rcases hk with hk|hk
     .exact h.mi.gvd _ k hk hg
     .have:=h.mi.lt (i+1) k (.inr hg);omega)
    (.r0 hr') (λe he=>GY (own':=own'' w) (by rw[ho'];exact hG.evs e he) (.inr qo) (by rw[upd_same]) (λk hk=>by
     rw[ho'] at hk;rcases hk with (hk|hk)|hk
     .exact aw (h.mi.lt (i+1) k (.inl hk)) hG.size
     .exact hk.2
     .exact aw (h.mi.lt0 k hk) hG.size)) (.inl qo) (.inr ⟨by rw[hD],ok_marks λe he=>hG.evs e he⟩) (by rw[hD];exact ok_still (λe he=>hG.evs e he) _) (λ_ hx=>by simp at hx)
    (λhbb hoo=>by
     obtain⟨vs,⟨h1,h2⟩,h3⟩:=h.row i hbb hi λk hk=>hoo k (by rw[ho'];exact .inl hk);have hC:(w'' w).heap[p.C]?=w.heap[p.C]?:=hG.keep p.C h.mi.wg.2.1 λhx=>(h.mi.nwg (i+1)).2 (.inl hx);refine⟨vs,⟨h1,λr hr=>(cell_of_block hC _).trans (h2 r hr)⟩,?_⟩;rw[Yb (λk hk=>hk.elim (h.mi.given hc (i+1) k) (h.mi.frozen hc k))];exact h3) (λhx=>by omega) (h.wg.of_block hWg) (λtag' ht _=>hmode tag' ht)
   exact⟨_,_,_,runT_crowd_go (P:=P) (sl:=sl) (i:=i+1) hg (show stepG P (i+1 == 0) g w=_ from hgo),fin htag hp⟩
  .have hxx:i+1-1-p.b0=i-p.b0:=qo;have hc:Chg p (i+1) own w (w'' w):=⟨hv4,Nat.le_of_eq hv5.symm,λk _ _ _ hk=>hv6 k hk,hv7,λo ho=>hv9 o (ho.elim (λho=>by omega) λho=>by rw[hxx] at ho;exact ho)⟩
   obtain⟨tag',htag,hp⟩:=h.stepW (own':=own'' w) (gv':=λk=>gv (i+1) k\/own (i+1) k) (x':=⟨7,0,0⟩) (t':=f w) (w':=w'' w) (st':=st) (sm':=sm) hA hi (g:=g) (g':=g' w) (es:=es w) hc (λ_=>by omega)
    (λk hk=>.inl (by
     rcases hk with hk|hk|hk
     .exact absurd hk (hv2 k)
     .exact .inr hk
     .exact .inl hk)) (λk hk=>.inr hk.symm) (λk hk _=>hv2 k hk)
    (.r0 hr') (λe he=>by
     obtain⟨o,h1,rfl⟩:=hv10 e he;refine⟨λy hy=>.inr (.inl (.inr (.inr ⟨by omega,⟨p.C,o,none⟩,?_,rfl,by rw[hxx];exact h1⟩))),?_,by simp⟩
     .simp[MemAct.ofEvent,MemAct.touch?] at hy;subst hy;rfl
     .show p.C<_;rw[hv5];exact h.mi.wg.2.1) (.inl qo) (.inr ⟨by rw[hD],λe he=>by obtain⟨o,_,rfl⟩:=hv10 e he;exact⟨by simp,by simp⟩⟩) (by rw[hD];exact deafBehind_still (λe he=>by obtain⟨o,_,rfl⟩:=hv10 e he;exact⟨by simp,by simp⟩) 0) (λ_ hx=>by simp at hx)
    (λhbb hoo=>⟨vs,⟨hv1,hv8⟩,hF _ _ _ _ (λk o hk=>by
     unfold Xw at hk ⊢;split at hk
     .rename_i hb
      rw[ah (hb.elim (λx=>.inl (.inr x)) .inr),hv6 k (λe=>by
          subst e;exact hb.elim (λx=>(h.mi.nwg (i+1)).2 (.inl x)) λx=>h.mi.wg.2.2.2.2 x)]
      exact hk
     .cases hk) hv11⟩) (λhx=>by omega) (h.wg.of_block (hv6 p.Wg h.mi.wg.2.2.1)) (λtag' ht _=>hmode tag' ht)
   exact⟨_,_,_,runT_crowd_go (P:=P) (sl:=sl) (i:=i+1) hg (show stepG P (i+1 == 0) g w=_ from hgo),fin htag hp⟩
end
end W
namespace W
section
variable [Payload]{P:nh}{p:Ph}{Fin AnchW:GSt}{n j d0:Nat}{gs:Array Goroutine}{w w':nm}{t:Trace}{D:Nat->ConcN.WD}{T:Nat->Tr}{own gv:Nat->Bk}{tag:CTag}{a:Goroutine}{st sm st' sm':Int}{sl:Option (Nat×Nat)}
def MS.node{f:nm->Tr}{o:Bk}(h:MS P p.ty p.Wg p.S0 (Wrk P p) Fin AnchW n p.b0 tag d0 j (.node f) o a w)(hl:WgLive p.ty p.Wg w) :
  ∃g' w' es own',stepG P true a w=.go g' w' es/\Fair (YW p.ty p.Wg) p.S0 o w w' es own'/\MS P p.ty p.Wg p.S0 (Wrk P p) Fin AnchW n p.b0 tag d0 j (f w) own' g' w':=by
 cases h with
 |skd hn h=>cases h with|step f g' w' es own' h1 h2 h3=>exact⟨_,_,_,_,(h2 w (Rly.refl _ _ _) hl).1,(h2 w (Rly.refl _ _ _) hl).2,.skd hn (h3 w (Rly.refl _ _ _) hl)⟩
 |sa1 hn h=>cases h with|step f g' w' es own' h1 h2 h3=>exact⟨_,_,_,_,(h2 w (Rly.refl _ _ _) hl).1,(h2 w (Rly.refl _ _ _) hl).2,.sa1 hn (h3 w (Rly.refl _ _ _) hl)⟩
 |ske hn h=>cases h with|step f g' w' es own' h1 h2 h3=>exact⟨_,_,_,_,(h2 w (Rly.refl _ _ _) hl).1,(h2 w (Rly.refl _ _ _) hl).2,.ske hn (h3 w (Rly.refl _ _ _) hl)⟩
 |sgo hn h=>cases h with|step f g' w' es own' h1 h2 h3=>exact⟨_,_,_,_,(h2 w (Rly.refl _ _ _) hl).1,(h2 w (Rly.refl _ _ _) hl).2,.sgo hn (h3 w (Rly.refl _ _ _) hl)⟩
 |kd h=>cases h with|step f g' w' es own' h1 h2 h3=>exact⟨_,_,_,_,(h2 w (Rly.refl _ _ _) hl).1,(h2 w (Rly.refl _ _ _) hl).2,.kd (h3 w (Rly.refl _ _ _) hl)⟩
 |anch h=>cases h with|step f g' w' es own' h1 h2 h3=>exact⟨_,_,_,_,(h2 w (Rly.refl _ _ _) hl).1,(h2 w (Rly.refl _ _ _) hl).2,.anch (h3 w (Rly.refl _ _ _) hl)⟩
 |w1 h=>cases h with|step f g' w' es own' h1 h2 h3=>exact⟨_,_,_,_,(h2 w (Rly.refl _ _ _) hl).1,(h2 w (Rly.refl _ _ _) hl).2,.w1 (h3 w (Rly.refl _ _ _) hl)⟩
 |w2 h=>cases h with|step f g' w' es own' h1 h2 h3=>exact⟨_,_,_,_,(h2 w (Rly.refl _ _ _) hl).1,(h2 w (Rly.refl _ _ _) hl).2,.w2 (h3 w (Rly.refl _ _ _) hl)⟩
 |w3 h=>cases h with|step f g' w' es own' h1 h2 h3=>exact⟨_,_,_,_,(h2 w (Rly.refl _ _ _) hl).1,(h2 w (Rly.refl _ _ _) hl).2,.w3 (h3 w (Rly.refl _ _ _) hl)⟩
 |w4 h=>cases h with|step f g' w' es own' h1 h2 h3=>exact⟨_,_,_,_,(h2 w (Rly.refl _ _ _) hl).1,(h2 w (Rly.refl _ _ _) hl).2,.w4 (h3 w (Rly.refl _ _ _) hl)⟩
 |ke h=>cases h with|step f g' w' es own' h1 h2 h3=>exact⟨_,_,_,_,(h2 w (Rly.refl _ _ _) hl).1,(h2 w (Rly.refl _ _ _) hl).2,.ke (h3 w (Rly.refl _ _ _) hl)⟩
 |acq h=>cases h with|step f g' w' es own' h1 h2 h3=>exact⟨_,_,_,_,(h2 w (Rly.refl _ _ _) hl).1,(h2 w (Rly.refl _ _ _) hl).2,.acq (h3 w (Rly.refl _ _ _) hl)⟩
def upd_id{α:Type}(f:Nat->α)(i:Nat):upd f i (f i)=f:=by funext k;by_cases e:k=i<;>simp[upd,e]
def PI.idle0(h:PI P p Fin AnchW n j gs w t D T own gv tag d0 a st sm){f:nm->Tr}(hT:T 0=.node f) :
  ∃gs' w' ops,runT P (crowd gs w sl) 0=(.next (crowd gs' w' sl),ops)/\Gk P p Fin AnchW n (meas n j D tag T) gs' w' (t++ops):=by
 have hmain:=h.main;rw[hT] at hmain;obtain⟨g',w',es,own',hgo,hfair,hm'⟩:=hmain.node ⟨_,_,h.wg⟩
 have fin:∀{Xt:Nat->Bk} {gsx:Array Goroutine} {ax:Goroutine} {st1 sm1:Int} {ops:Trace},PI P p Fin AnchW n j gsx w' (t++ops) D (upd T 0 (f w)) Xt gv tag d0 ax st1 sm1->Gk P p Fin AnchW n (meas n j D tag T) gsx w' (t++ops):=λ{Xt gsx ax st1 sm1 ops} hp=>
  ⟨j,_,_,_,_,tag,_,_,_,_,hp,mlt_c (Dn.upd qo (by rw[hT];exact .mk f w))⟩
 rcases hfair with ⟨hG,ho'⟩|⟨rfl,rfl,hs⟩
 .have hc:=chg_guar h.mi hG;have hWg:w'.heap[p.Wg]?=w.heap[p.Wg]?:=hG.keep p.Wg h.mi.wg.1 λhx=>(h.mi.nwg 0).1 (.inl hx)
  have hp:=h.step0 (own':=own') (tag':=tag) (d':=d0) (t':=f w) (a':=g') (es:=es) (st':=st) (sm':=sm) hc (λk hk=>by
    rw[ho'] at hk
    exact hk.imp id id) (λk hk=>by rw[ho'];exact .inl hk) hm' (λe he=>GY (own':=own') (by rw[ho'];exact hG.evs e he) (.inl rfl) (by rw[upd_same]) (λk hk=>by
     rw[ho'] at hk;rcases hk with (hk|hk)|hk
     .exact aw (h.mi.lt 0 k (.inl hk)) hG.size
     .exact hk.2
     .exact aw (h.mi.lt0 k hk) hG.size)) (ok_still (λe he=>hG.evs e he) _) (h.wg.of_block hWg) h.mode
  exact⟨_,_,_,runT_crowd_go (P:=P) (sl:=sl) (i:=0) h.m0 (show stepG P (0 == 0) a w=_ from hgo),fin hp⟩
 .have hp:=h.step0 (own':=own 0) (tag':=tag) (d':=d0) (t':=f w') (a':=g') (es:=es) (st':=st) (sm':=sm) (chg_refl _) (λk hk=>.inl hk) (λk hk=>hk) hm' (λe he=>by
    rcases hs e he with rfl|rfl
    .exact⟨λy hy=>by
      simp[MemAct.ofEvent,MemAct.touch?] at hy;subst hy;exact .inl ⟨⟨_,rfl,rfl⟩,by simp,λ_=>rfl⟩,h.mi.wg.1,by simp⟩
    .exact⟨λy hy=>by
      simp[MemAct.ofEvent,MemAct.touch?] at hy;subst hy;exact .inl ⟨⟨_,rfl,rfl⟩,by simp,λ_=>rfl⟩,h.mi.wg.1,by simp⟩) (deafBehind_still (λe he=>by rcases hs e he with rfl|rfl<;>exact⟨by simp,by simp⟩) _) h.wg h.mode
  exact⟨_,_,_,runT_crowd_go (P:=P) (sl:=sl) (i:=0) h.m0 (show stepG P (0 == 0) a w'=_ from hgo),fin hp⟩
def PI.books0(hn:n<p.b0+1000000000)(h:PI P p Fin AnchW n j gs w t D T own gv tag d0 a st sm)(hT:T 0=.leaf)(hns:∀r,tag≠.sp r 2)(hna:tag≠.anch)(hnb:tag≠.blk)(hnq:tag≠.acq) :
  ∃gs' w' ops,runT P (crowd gs w sl) 0=(.next (crowd gs' w' sl),ops)/\Gk P p Fin AnchW n (meas n j D tag T) gs' w' (t++ops):=by
 have hmain:=h.main;rw[hT] at hmain;have hVj:=h.vc;have hle:=h.main.le;obtain⟨_,g',w',es,tag',d',t',st',sm',B⟩:=main_books h.wg h.mode qo qo hmain hns hna hnb hnq;have hc:Chg p 0 own w w':=GJ B.aside h.mi.wg.2.2.1;have hWs:p.Wg<w'.heap.size:=by rw[B.aside.size];exact h.mi.wg.1
 have hp:=h.step0 (own':=own 0) (tag':=tag') (d':=d') (t':=t') (a':=g') (es:=es) hc (λk hk=>.inl hk) (λk hk=>hk) B.sit (λe he=>GV (B.bk e he) hWs) B.deaf B.wg B.mode;refine⟨_,_,_,runT_crowd_go (P:=P) (sl:=sl) (i:=0) h.m0 (show stepG P (0 == 0) a w=_ from B.go),j,_,_,_,_,tag',_,_,_,_,hp,?_⟩;rcases B.lt with h1|⟨rfl,rfl,_,rfl⟩
 .exact G1 qo
 .unfold meas;rw[show upd T 0 Tr.leaf=T by rw[<-hT];exact upd_id T 0];exact mlt_d (by simp[lag])
def PI.anchor(hAn:∀own g w,WgLive p.ty p.Wg w->AnchW own g w->MR P p.ty p.Wg p.S0 (WW1 P p.ty p.Wg p.S0 Fin AnchW) own g w)(h:PI P p Fin AnchW n j gs w t D T own gv .anch d0 a st sm)(hT:T 0=.leaf):Gk P p Fin AnchW n (meas n j D .anch T) gs w t:=by
 have hmain:=h.main;rw[hT] at hmain;cases hmain with
 |anch hx=>
  obtain⟨t',ht'⟩:=(hAn _ _ _ ⟨_,_,h.wg⟩ (hx.leaf ⟨_,_,h.wg⟩)).tree;refine⟨n,D,upd T 0 t',own,gv,.w1,1,a,st,sm,⟨h.size,h.bj,h.m0,by rw[upd_same];exact .w1 ht',λi hi=>?_,h.old,h.mi,h.ti,h.deaf0,h.deafW,h.rel,h.row,h.wg,?_⟩,G1 wq52⟩
  .obtain⟨g,h1,h2⟩:=h.wk i hi;exact⟨g,h1,by rw[upd_ne T _ qo];exact h2⟩
  .have hm:=h.mode;cases hm with
   |opn k1 k2 k3=>exact .opn trivial k2 λvs e=>by cases e
   |reg k1 _ _=>exact k1.elim
   |last L k1 _ _ _=>exact k1.elim
   |fin k1 _=>exact k1.elim
def PI.at(h:PI P p Fin AnchW n j gs w t D T own gv tag d0 a st sm)(d:Nat):PI P p Fin AnchW n j gs (w.at d) t D T own gv tag d0 a st sm:=
 ⟨h.size,h.bj,h.m0,h.main.rely (Rly.at _ _ w d),λi hi=>let ⟨g,h1,h2⟩:=h.wk i hi;⟨g,h1,h2.rely (Rly.at _ _ w d) (RW.at w d)⟩,h.old,
  ⟨h.mi.dis,h.mi.gvd,h.mi.frz,h.mi.lt,h.mi.lt0,h.mi.wg,h.mi.nwg,h.mi.out,h.mi.pay,h.mi.bx,h.mi.shun,h.mi.rest.trans ⟨rfl,rfl,rfl⟩⟩,h.ti,h.deaf0,h.deafW,h.rel,h.row,h.wg,h.mode⟩
def PI.spawn(h:PI P p Fin AnchW n j gs w t D T own gv tag d0 a st sm){r:Nat}(htag:tag=.sp r 2)(hT:T 0=.leaf) :
  ∃gs' w' ops,runT P (crowd gs w sl) 0=(.next (crowd gs' w' sl),ops)/\Gk P p Fin AnchW n (meas n j D tag T) gs' w' (t++ops):=by
 subst htag;have hmain:=h.main;rw[hT] at hmain;have hbj:=h.bj;cases hmain with
 |sgo hrn hx=>
 obtain⟨_,g',child,box,hgo,hcr,hob,hwk,hnx⟩:=hx.leaf ⟨_,_,h.wg⟩;have hri:n-(r+1)-p.b0=n-(r+1)-p.b0:=rfl;obtain⟨tw,htw⟩:=Run.tree (λ_ _ _ _ _ h=>h) hwk;generalize hj:n-(r+1)=j at *;have hsz:=h.size;let own2:Nat->Bk:=upd (upd own 0 (λk=>own 0 k/\k≠box)) (j+1) (λk=>k=box)
 have o0:own2 0=λk=>own 0 k/\k≠box:=by simp[own2,upd]
 have oj:own2 (j+1)=λk=>k=box:=by simp[own2,upd]
 have oo:∀x,x≠0->x≠j+1->own2 x=own x:=λx h1 h2=>by simp[own2,upd,h1,h2]
 have hno:∀k,¬(own (j+1) k\/gv (j+1) k):=λk hk=>by have:=h.mi.out (j+1) k hk;omega
 have key:∀x k,own2 x k\/gv x k->(x≠j+1/\(own x k\/gv x k)/\(x=0->own 0 k->k≠box))\/(x=j+1/\k=box):=λx k hk=>by
  by_cases h1:x=j+1
  .subst h1;rw[oj] at hk;rcases hk with hk|hk
   .exact .inr ⟨rfl,hk⟩
   .exact absurd (.inr hk) (hno k)
  .refine .inl ⟨h1,?_⟩;by_cases h2:x=0
   .subst h2;rw[o0] at hk;rcases hk with hk|hk
    .exact⟨.inl hk.1,λ_ _=>hk.2⟩
    .exact⟨.inr hk,λ_ hx=>absurd hk (h.mi.gvd 0 k hx)⟩
   .rw[oo x h2 h1] at hk;exact⟨hk,λe=>absurd e h2⟩
 have hbx0:∀y,(own y box\/gv y box)->y=0:=λy hy=>aD λhn=>h.mi.dis y 0 box hn hy (.inl hob)
 have hmi:MI p (j+1) w own2 gv:=by
  refine⟨λx y k hxy hx hy=>?_,λx k hx hg=>?_,λx k hx=>?_,λx k hx=>?_,h.mi.lt0,h.mi.wg,λx=>⟨λhx=>?_,λhx=>?_⟩,λx k hx=>?_,h.mi.pay,h.mi.bx,λl hl=>?_,h.mi.rest⟩
  .rcases key x k hx with ⟨h1,h2,h3⟩|⟨h1,h2⟩<;>rcases key y k hy with ⟨h4,h5,h6⟩|⟨h4,h5⟩
   .exact h.mi.dis x y k hxy h2 h5
   .subst h5;have e:=hbx0 x h2;subst e;exact h3 rfl hob rfl
   .subst h2;have e:=hbx0 y h5;subst e;exact h6 rfl hob rfl
   .exact hxy (h1.trans h4.symm)
  .rcases key x k (.inl hx) with ⟨h1,h2,h3⟩|⟨h1,h2⟩
   .by_cases e:x=0
    .subst e;rw[o0] at hx;exact h.mi.gvd 0 k hx.1 hg
    .rw[oo x e h1] at hx;exact h.mi.gvd x k hx hg
   .subst h1;exact hno k (.inr hg)
  .rcases key x k hx with ⟨_,h2,_⟩|⟨_,h2⟩
   .exact h.mi.frz x k h2
   .subst h2;exact h.mi.frz 0 _ (.inl hob)
  .rcases key x k hx with ⟨_,h2,_⟩|⟨_,h2⟩
   .exact h.mi.lt x k h2
   .subst h2;exact h.mi.lt 0 _ (.inl hob)
  .rcases key x _ hx with ⟨_,h2,_⟩|⟨_,h2⟩
   .exact(h.mi.nwg x).1 h2
   .exact(h.mi.nwg 0).1 (.inl (h2 ▸ hob))
  .rcases key x _ hx with ⟨_,h2,_⟩|⟨_,h2⟩
   .exact(h.mi.nwg x).2 h2
   .exact(h.mi.nwg 0).2 (.inl (h2 ▸ hob))
  .rcases key x k hx with ⟨_,h2,_⟩|⟨h1,h2⟩
   .have:=h.mi.out x k h2;omega
   .omega
  .obtain⟨ad,h1,h2,h3,h4⟩:=h.mi.shun l hl;refine⟨ad,h1,h2,λx hx=>?_,h4⟩;rcases key x _ hx with ⟨_,h5,_⟩|⟨_,h5⟩
   .exact h3 x h5
   .exact h3 0 (.inl (h5 ▸ hob))
 have hct:CT (ShL p) (V4 p own2 gv) (RdL p) t j:=VK h.ti.ct (λ_ h=>.inl h) (λ_ h=>h) (λk k1 kj l hl=>.inl (by
   simp only[V4,oo k qo qo] at hl;exact hl)) (λk k1 kj l hl=>by
   simp only[V4,oo k qo qo];exact hl) λ_ _ _ _=>Iff.rfl
 have hrunT:=runT_crowd_spawn (P:=P) (sl:=sl) (i:=0) h.m0 (show stepG P (0 == 0) a w=_ from hgo);generalize hops:((MemOp.ofEvents 0 a.frame.fn a.frame.place #[]).push {g:=0,fn:=a.frame.fn,pos:=a.frame.place,act:=.go gs.size} |>.push {g:=gs.size,fn:=child.frame.fn,pos:=a.frame.place,act:=.start}:Trace)=ops at hrunT
 obtain⟨x,y,hxy,hx1,hy1⟩:∃x y:MemOp,ops=#[x,y]/\(x.g=0/\x.act=.go (j+1))/\(y.g=j+1/\y.act=.start):=by
  exact⟨{g:=0,fn:=a.frame.fn,pos:=a.frame.place,act:=.go (j+1)},{g:=j+1,fn:=child.frame.fn,pos:=a.frame.place,act:=.start},by rw[<-hops,hsz,ofEvents_eq];simp,⟨rfl,rfl⟩,⟨rfl,rfl⟩⟩
 subst hxy;have hm:∀op∈#[x,y],op=x\/op=y:=by intro op hop;simpa using hop
 have hst:∀op∈#[x,y],op.act≠.mark .disable/\op.act≠.mark .enable:=by
  intro op hop;rcases hm op hop with rfl|rfl
  .rw[hx1.2];exact⟨by simp,by simp⟩
  .rw[hy1.2];exact⟨by simp,by simp⟩
 have hti:TI p (j+1) w.heap.size (t++#[x,y]) own2 gv:=by
  have hnt:∀op∈#[x,y],op.act.touch?=none:=λop hop=>by
   rcases hm op hop with rfl|rfl
   .rw[hx1.2];rfl
   .rw[hy1.2];rfl
  refine⟨hct.fork hmi.apart hx1 hy1 h.deaf0,seen_app h.ti.low λop hop=>?_,h.ti.ho.app λop hop=>.inr (.inr (hnt op hop)),h.ti.norel.app λop hop=>?_,Dh h.ti.oldk λop hop=>.inr (.inr (hnt op hop)),λi a g ha hg h1 h2=>?_⟩
  .rcases hm op hop with rfl|rfl
   .rw[hx1.2];trivial
   .rw[hy1.2];trivial
  .rcases hm op hop with rfl|rfl
   .rw[hx1.2];simp
   .rw[hy1.2];simp
  .rcases F3 ha hg with ⟨hi,h4,h5⟩|⟨_,op,h4,_,_,h6⟩
   .exact(counts_old hi).2 (h.ti.cnt i a g h4 h5 h1 h2)
   .rw[hnt op h4] at h6;cases h6
 have hVc:Vc (j+1) (upd D j ⟨7,0,0⟩)=Vc j D+1:=by
  show sumTo (j+1) _=_;rw[sumTo,upd_same];have:=sumTo_upd_out D (⟨7,0,0⟩:ConcN.WD) cnt (ai j);simp only[Vc];rw[this];rfl
 have hSs:Ssum (j+1) (upd D j ⟨7,0,0⟩)=Ssum j D+7:=by
  show sumTo (j+1) _=_;rw[sumTo,upd_same];have:=sumTo_upd_out D (⟨7,0,0⟩:ConcN.WD) WD.stage (ai j);simp only[Ssum];rw[this]
 have mk':∀(tag':CTag) (t0:Tr),MS P p.ty p.Wg p.S0 (Wrk P p) Fin AnchW n p.b0 tag' 0 (j+1) t0 (λk=>own 0 k/\k≠box) g' w->isOpen tag'->pend tag'=0->(∀vs,tag'≠.w2 vs)->
   PI P p Fin AnchW n (j+1) ((gs.setIfInBounds 0 g').push child) w (t++#[x,y]) (upd D j ⟨7,0,0⟩) (upd (upd T 0 t0) (j+1) tw) own2 gv tag' 0 g' st sm:=λtag' t0 hms hop hpe hw2=>by
  refine⟨by simp[hsz],by omega,?_,?_,λi hi=>?_,λi hi=>?_,hmi,hti,?_,λi hi=>?_,λi hb hi hs=>?_,λi hb hi ho=>?_,h.wg,?_⟩
  .rw[Array.getElem?_push_lt (by simp[hsz])];simp[hsz]
  .rw[upd_ne _ _ qo,upd_same,o0];exact hms
  .rcases cQ i j with hlt|hge
   .obtain⟨g,hg,hsg⟩:=h.wk i hlt;refine⟨g,?_,?_⟩
    .rw[Array.getElem?_push_lt (by simp[hsz];omega),<-Array.getElem?_eq_getElem,Array.getElem?_setIfInBounds_ne qo];exact hg
    .rw[upd_ne D _ qo,upd_ne _ _ qo,upd_ne T _ qo,oo _ qo qo];exact hsg
   .obtain rfl:i=j:=qo;refine⟨child,?_,?_⟩
    .rw[show i+1=(gs.setIfInBounds 0 g').size by simp[hsz],Array.getElem?_push_size]
    .rw[upd_same,upd_same,oj];exact .r0 htw
  .rw[upd_ne D _ qo];exact h.old i hi
  .rw[Deaf_still t 0 _ hst,h.deaf0]
  .rw[Deaf_still t _ _ hst];rcases cQ i j with hlt|hge
   .rw[h.deafW i hlt,upd_ne D _ qo]
   .obtain rfl:i=j:=qo;rw[upd_same];exact Deaf_absent λq op ha e=>by have:=h.ti.ct.gs q op ha;omega
  .rcases cQ i j with hlt|hge
   .rw[upd_ne D _ qo] at hs;obtain⟨q,hq⟩:=h.rel i hb hlt hs;refine⟨q,hq.appNot λop hop=>?_⟩;rcases hm op hop with rfl|rfl
    .rw[hx1.1];omega
    .rw[hy1.1];omega
   .obtain rfl:i=j:=qo;rw[upd_same] at hs;simp at hs
  .rcases cQ i j with hlt|hge
   .rw[oo _ qo qo] at ho;exact h.row i hb hlt ho
   .obtain rfl:i=j:=qo;rw[oj] at ho;exact absurd rfl (ho box)
  .have hmd:=h.mode;cases hmd with
   |opn k1 k2 k3=>
    have e:Vc j D+pend (.sp r 2)=Vc (j+1) (upd D j ⟨7,0,0⟩)+pend tag':=by rw[hVc,hpe];rfl
    rw[e];refine .opn hop (λi hi=>?_) λvs ev=>absurd ev (hw2 vs);by_cases hij:i=j
    .subst hij;rw[upd_same];simp
    .rw[upd_ne D _ hij];exact k2 i qo
   |reg k1 _ _=>exact k1.elim
   |last L k1 _ _ _=>exact k1.elim
   |fin k1 _=>exact k1.elim
 cases r with
 |zero=>
  obtain⟨t0,ht0⟩:=MR.tree hnx;have hjn:j+1=n:=qo;have hp:=mk' .kd t0 (by rw[hjn];exact .kd ht0) trivial rfl (λvs=>by simp);refine⟨_,_,_,hrunT,j+1,_,_,_,_,.kd,_,_,_,_,hp,?_⟩;unfold meas;rw[hSs];exact G1 wq52
 |succ r=>
  obtain⟨t0,ht0⟩:=MR.tree hnx;have hjn:j+1=n-(r+1):=qo;have hp:=mk' (.sp r 5) t0 (by rw[hjn];exact .skd qo ht0) trivial rfl (λvs=>by simp);refine⟨_,_,_,hrunT,j+1,_,_,_,_,.sp r 5,_,_,_,_,hp,?_⟩;unfold meas;rw[hSs];exact G1 wq52
end
end W
end Go.Proofs.YtbnobghgnbockaaGreat
