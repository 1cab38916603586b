/- Lemmas for a law. Conditions: none. -/
import Derived.Test.YtbnobghgnbockaaGreatZf21
import Derived.Conc.WgGenN2
set_option linter.all false
set_option maxHeartbeats 32000000
set_option maxRecDepth 100000
namespace Go.Proofs.YtbnobghgnbockaaGreat
section
open Go.RowKit
namespace W
abbrev RQ:=Bk->Exit->Act->World->Prop
def WDo(P:Program)(n:Nat)(L:List Oper)(hs:List Nat)(b0:List Ow)(F0:List Fct)(p:Plan)(e:Env)(bx:List Ow)(F:List Fct)(T:CF->World->RQ->Prop):Prop:=
 ∀fr w0 listed a w fuel (Q':RQ),(∀own a x y,Q' own .normal a x->Rly own fr.sh x y->Q' own .normal a y)->Region.noSelect L.toArray=true->chk L hs p listed=true->Down L.toArray listed->
  T fr w0 Q'->
  ((∃i∈hs,listed.getD i true=false)->OK fr b0 F0 w)->Kn fr.ds n a e->Rest w0 w->OK fr bx F w->p.len<=fuel->∀fr0:CF,fr0.le fr->Yk P fr.main fr.sh L.toArray Q' (SR fr0 b0 F0) (QF L hs) fuel listed fr.own a w
section
variable {P:Program}{n:Nat}{L:List Oper}{hs:List Nat}{b0 bx:List Ow}{F0 F:List Fct}{p r s:Plan}{e:Env}{T:CF->World->RQ->Prop}
 {i:Nat} {d:Nat} {op:Op} {ty:TypeId} {pos:String} {af:Array Edge} {g:Option (Nat×Bool)} {v:Value}
def WDo.Ux(o:Oper)(hL:L[i]?=some o)(e':Env)
  (hy:∀fr0 a,Kn fr0.ds n a e->∃v,Jy P fr0.sh L.toArray (SR fr0 b0 F0) o v a/\Kn fr0.ds n (a.put o.dst v) e')
  (h:WDo P n L hs b0 F0 r e' bx F T):WDo P n L hs b0 F0 (.held i r) e bx F T:=λfr w0 listed a w fuel Q' hP hns hc hd hQ hS hk hr ho hf fr0 hle=>by
 simp only[chk,Bool.and_eq_true] at hc;obtain⟨h1,h2,h3,h4⟩:=hc;obtain⟨f',rfl⟩:∃f',fuel=f'+1:=⟨fuel-1,by simp[Plan.len] at hf;omega⟩
 have hri:i∈Region.ready .any L.toArray listed:=by simpa using h3
 have hun:=(mem_ready.1 hri).1;have hOK:=hS ⟨i,by simpa using h1,hun⟩;obtain⟨v,hy1,hy2⟩:=hy fr0 a (hle.nk hk);have hLa:L.toArray[i]?=some o:=by simpa using hL
 refine Uc hLa hns (S:=SR fr0 b0 F0) (λown x y hx hr=>SR.rely hx (by rw[hle.sh] at hr;exact hr)) hP (λlisted j hd hl hj=>Yq hd hl hj (by simpa using h1)) f' listed fr.own a w hd (Region.free_spec hLa h2) hri (by rw[hle.sh];exact hy1) ((SR.iff hle).2 hOK) ?_;exact h fr w0 _ _ w f' Q' hP hns h4 (hd.set hri) hQ (λ⟨j,hj,hjl⟩=>hS ⟨j,hj,getD_some hun j hjl⟩) (hle.kn hy2) hr ho (by simp[Plan.len] at hf;exact hf) fr0 hle
def WDo.y(hL:L[i]?=some ⟨some d,op,ty,pos,af,g⟩)(hy:YO P op ty e b0 F0 v)(hd:Nat.blt d n=true)(hg:gok L e g=some true)(h:WDo P n L hs b0 F0 r ((d,v)::e) bx F T) :
  WDo P n L hs b0 F0 (.held i r) e bx F T:=
 WDo.Ux _ hL _ (λfr0 a hk=>⟨v,.inl ⟨Q1 hk hg,λown w' ho'=>hy n {fr0 with own:=own} a w' _ rfl rfl hk ho'⟩,hk.put hd v⟩) h
def WDo.fy(hL:L[i]?=some ⟨some d,op,ty,pos,af,g⟩)(hy:YO P op ty e [] [] v)(hd':Nat.blt d n=true)(hg:gok L e g=some true)(h:WDo P n L hs b0 F0 r ((d,v)::e) bx F T):WDo P n L hs b0 F0 (.free i r) e bx F T:=λfr w0 listed a w fuel Q' hP hns hc hd hQ hS hk hr ho hf fr0 hle=>by
 simp only[chk,Bool.and_eq_true] at hc;obtain⟨h2,h3,h4⟩:=hc;obtain⟨f',rfl⟩:∃f',fuel=f'+1:=⟨fuel-1,by simp[Plan.len] at hf;omega⟩
 have hri:i∈Region.ready .any L.toArray listed:=by simpa using h3
 have hun:=(mem_ready.1 hri).1;have hLa:L.toArray[i]?=some ⟨some d,op,ty,pos,af,g⟩:=by simpa using hL
 have hy1:Jy P fr.sh L.toArray (λ_ _=>True) ⟨some d,op,ty,pos,af,g⟩ v a:=.inl ⟨Q1 hk hg,λown w' _=>by
  have:=hy n ⟨⟨true,λ_=>True,λ_ _ _ _ _ _=>False,λ_ _ _ _ _=>False,λ_=>False⟩,λ_=>False,λ_=>False,λ_=>none,fr.ds⟩ a w' ⟨some d,op,ty,pos,af,g⟩ rfl rfl hk ⟨⟨λ_ _ h=>(by cases h),λk h=>(by rcases h with h|h<;>exact h.elim),λk h=>h.elim⟩,by simp[ids],by simp[ids],by simp,by simp⟩;refine⟨this.1,λev hev=>?_⟩;rcases this.2 ev hev with ⟨ad,_,h5⟩|h5
  ·exact h5.elim False.elim λh=>h.1.elim
  ·rcases h5 with h5|⟨_,_,h5⟩
   ·exact .inr (.inl h5)
   ·exact h5.elim⟩
 refine KB hLa hns hP f' listed fr.own a w hd (Region.free_spec hLa h2) hri hy1 ?_;exact h fr w0 _ _ w f' Q' hP hns h4 (hd.set hri) hQ (λ⟨j,hj,hjl⟩=>hS ⟨j,hj,getD_some hun j hjl⟩) (hk.put hd' v) hr ho (by simp[Plan.len] at hf;exact hf) fr0 hle
def WDo.l(hT:∀fr fr' w0 Q',fr.le fr'->T fr w0 Q'->T fr' w0 Q')(hL:L[i]?=some ⟨some d,op,ty,pos,af,g⟩)(hdn:Nat.blt d n=true)(hg:gok L e g=some true)
  (h:LO P op ty e bx F λv bx' F'=>(QF L hs i=true\/(b0.Sublist bx'/\∀f∈F0,f∈F'))/\WDo P n L hs b0 F0 r ((d,v)::e) bx' F' T):WDo P n L hs b0 F0 (.loud i r) e bx F T:=λfr w0 listed a w fuel Q' hP hns hc hd hQ hS hk hr ho hf fr0 hle=>by
 simp only[chk,Bool.and_eq_true,beq_iff_eq] at hc;obtain⟨h1,hc⟩:=hc;obtain⟨f',rfl⟩:∃f',fuel=f'+1:=⟨fuel-1,by simp[Plan.len] at hf;omega⟩
 have hri:i∈Region.ready .any L.toArray listed:=by rw[h1];simp
 refine⟨λh0=>(by rw[h0] at h1;cases h1),λj hj=>?_⟩;rw[h1] at hj;simp at hj;subst hj;have hf:r.len<=f':=by simp[Plan.len] at hf;exact hf
 have hun:=(mem_ready.1 hri).1
 have hlate:QF L hs j=true->¬∃k∈hs,(listed.setIfInBounds j true).getD k true=false:=λhl ⟨k,hj,hjl⟩=>by
  have h1:=Yq hd hl hri hj;have h2:=getD_some hun k hjl;cases hx:listed[k]? with
  |none=>simp[Array.getD_eq_getD_getElem?,hx] at h1
  |some b=>simp[Array.getD_eq_getD_getElem?,hx] at h1 h2;simp[h1] at h2
 unfold OpR;have hLa:L.toArray[j]?=some ⟨some d,op,ty,pos,af,g⟩:=by simpa using hL
 simp only[hLa];rw[if_pos (Q1 hk hg)];intro w1 hw1;refine h n fr a w1 ⟨some d,op,ty,pos,af,g⟩ _ rfl rfl hk (ho.rely hw1) λfr' v w' bx' F' hfr hr' ho' hK=>?_;obtain⟨hl,h⟩:=hK
 have hOK:QF L hs j=false->OK fr' b0 F0 w':=λhf=>by
  rcases hl with hl|⟨h1,h2⟩
  ·rw[hf] at hl;cases hl
  ·exact(ho'.drop h1).less h2
 have hle':=hle.trans hfr;have:=h fr' w0 _ (a.put (some d) v) w' f' Q' (λown a x y hq hr=>hP own a x y hq (by rw[<-hfr.sh];exact hr)) hns hc (hd.set hri) (hT _ _ _ _ hfr hQ) (λhx=>?_) ((hfr.kn hk).put hdn v) ((hr.trans hw1.rest).trans hr') ho' hf fr0 hle'
 ·rw[hfr.main,hfr.sh] at this;exact⟨λhf _=>(SR.iff hle').2 (hOK hf),this⟩
 ·cases hb:QF L hs j with
  |true=>exact absurd hx (hlate hb)
  |false=>exact hOK hb
def WDo.odd(o:Oper)(hL:L[i]?=some o)(hl:QF L hs i=true)
  (h:∀fr w0 a w Q',T fr w0 Q'->Kn fr.ds n a e->Rest w0 w->OK fr bx F w->OpR P fr.main fr.sh L.toArray i (λ_ own' a' w'=>Q' own' .normal a' w') fr.own a w) :
  WDo P n L hs b0 F0 (.loud i .done) e bx F T:=λfr w0 listed a w fuel Q' hP hns hc hd hQ hS hk hr ho hf fr0 hle=>by
 simp only[chk,Bool.and_eq_true,beq_iff_eq] at hc;obtain⟨h1,hc⟩:=hc;obtain⟨f',rfl⟩:∃f',fuel=f'+1:=⟨fuel-1,by simp[Plan.len] at hf;omega⟩
 refine⟨λh0=>(by rw[h0] at h1;cases h1),λj hj=>?_⟩;rw[h1] at hj;simp at hj;subst hj;refine(h fr w0 a w Q' hQ hk hr ho).mono λx own a w hq=>⟨λhf=>(by rw[hl] at hf;cases hf),?_⟩
 exact VX (by simpa using hc) hq f'
def WDo.draw{id:Nat}(hs:List Nat)(p:Plan)(hm:P.follows .mixedOrders=true)(hc:(Region.noSelect L.toArray && (chk L hs p (Array.replicate L.length false) && Nat.ble p.len L.length))=true)
  (h:WDo P n L hs bx F p e bx F T) {fr:CF} {w0 w:World} {a:Act} {Q:RQ} (hT:T fr w0 (λown e a w=>∃x,Rly own fr.sh x w/\Q own e a x)) (hk:Kn fr.ds n a e) (hr:Rest w0 w) (ho:OK fr bx F w) :
  wpR P fr.main fr.sh (.region id L.toArray true) Q fr.own a w:=by
 simp only[Bool.and_eq_true] at hc;refine KD (Vm hm λw1 h1 t=>?_);have ho1:OK fr bx F {w1 with drawn:=w1.drawn+1}:=(ho.rely h1).drawn _;refine Za L.toArray.size t _ _ _ _ (S:=SR fr bx F) (late:=QF L hs) ?_;have:=h fr w0 (Array.replicate L.length false) a {w1 with drawn:=w1.drawn+1} L.length (λown e a w=>∃x,Rly own fr.sh x w/\Q own e a x) (λown a x y ⟨z,h2,h3⟩ h4=>⟨z,h2.trans h4,h3⟩) hc.1 (by simpa using hc.2.1) ?_ hT (λ_=>ho1) hk ((hr.trans h1.rest).trans (Rest.drawn w1 _)) ho1 (by simpa using Nat.le_of_ble_eq_true hc.2.2) fr (.refl _)
 ·simpa using this
 ·intro j o _ hj;rw[Array.getD_eq_getD_getElem?,Array.getElem?_replicate] at hj;split at hj<;>simp at hj
end
end W
end
section
open Go.RowKit
open Go.Conc hiding base
open Go.ConcN
open Go.ConcR (KK WgAt stA smA rd wr mk Payload DC0)
namespace W
section
variable [Payload](P:Program)(ty:TypeId)(Wg Bx:Nat)
abbrev RWb:World->World->Prop:=RW ty Wg Bx 1 0 0
def AtDis(g:Goroutine)(w:World):Prop:=∃g',stepG P false g w=.go g' w #[mk .disable]
def AtRel(g:Goroutine)(w:World):Prop:=∃g',stepG P false g w=.go g' w #[mk (.releaseMerge (stA Wg))]/\∃m,Goes P false (RWb ty Wg Bx) DC0 (AtDis P) m g' w
end
section
variable [Payload]{P:Program}{ty:TypeId}{Wg Bx:Nat}{v0:Value}
def Kt:∀a b c,RWb ty Wg Bx a b->RWb ty Wg Bx b c->RWb ty Wg Bx a c:=λ_ _ _ h k=>h.trans k
def clash:∀(m n:Nat) (g:Goroutine) (w:World),Goes P false (RWb ty Wg Bx) DC0 (AtDis P) m g w->Goes P false (RWb ty Wg Bx) (DWs Wg (λ_ _=>False) (λ_ _=>False) Bx 1 1) (AtR0 P ty Wg Bx 1 0 1 v0) n g w->False:=by
 have one:∀(n:Nat) (g:Goroutine) (w:World),AtDis P g w->Goes P false (RWb ty Wg Bx) (DWs Wg (λ_ _=>False) (λ_ _=>False) Bx 1 1) (AtR0 P ty Wg Bx 1 0 1 v0) n g w->False:=λn g w ⟨g',h1⟩ h2=>by
  have stp:¬AtR0 P ty Wg Bx 1 0 1 v0 g w:=λ⟨_,_,g2,h3,_⟩=>by
   have:=h1.symm.trans h3;injection this with _ _ h4
   simp[mk] at h4
  cases n with
  |zero=>exact stp (h2 w (RW.refl w))
  |succ n=>
   rcases h2 with h2|⟨_,h2⟩
   ·exact stp (h2 w (RW.refl w))
   ·have:=h2 w (RW.refl w);rw[h1] at this;exact(this.1.2 (mk .disable) (by simp)).2.1 rfl
 intro m;induction m with
 |zero=>exact λn g w h1 h2=>one n g w (h1 w (RW.refl w)) h2
 |succ m ih=>
  intro n g w h1 h2;rcases h1 with h1|⟨_,h1⟩
  ·exact one n g w (h1 w (RW.refl w)) h2
  ·have h1:=h1 w (RW.refl w);cases hst:stepG P false g w with
   |go g' w' es=>
    rw[hst] at h1;obtain⟨⟨rfl,rfl⟩,h9⟩:=h1
    have stp:¬AtR0 P ty Wg Bx 1 0 1 v0 g w':=λ⟨_,_,g2,h3,_⟩=>by
     have:=hst.symm.trans h3;injection this with _ _ h4
     simp at h4
    cases n with
    |zero=>exact stp (h2 w' (RW.refl w'))
    |succ n=>
     rcases h2 with h2|⟨_,h2⟩
     ·exact stp (h2 w' (RW.refl w'))
     ·have:=h2 w' (RW.refl w');rw[hst] at this;exact ih n g' w' h9 this.2
   |_=>rw[hst] at h1;exact h1.elim
def merge_goes:∀(m n:Nat) (g:Goroutine) (w:World),Goes P false (RWb ty Wg Bx) DC0 (AtRel P ty Wg Bx) m g w->Goes P false (RWb ty Wg Bx) (DWs Wg (λ_ _=>False) (λ_ _=>False) Bx 1 1) (AtR0 P ty Wg Bx 1 0 1 v0) n g w->Goes P false (RWb ty Wg Bx) DC0 (AtR0 P ty Wg Bx 1 0 1 v0) m g w:=by
 have one:∀(n:Nat) (g:Goroutine) (w:World),AtRel P ty Wg Bx g w->Goes P false (RWb ty Wg Bx) (DWs Wg (λ_ _=>False) (λ_ _=>False) Bx 1 1) (AtR0 P ty Wg Bx 1 0 1 v0) n g w->AtR0 P ty Wg Bx 1 0 1 v0 g w:=λn g w ⟨g',h1,m,h3⟩ h2=>by
  cases n with
  |zero=>exact h2 w (RW.refl w)
  |succ n=>
   rcases h2 with h2|⟨_,h2⟩
   ·exact h2 w (RW.refl w)
   ·have:=h2 w (RW.refl w);rw[h1] at this;exact(clash m n g' w h3 this.2).elim
 intro m;induction m with
 |zero=>exact λn g w h1 h2 w1 hr=>one n g w1 (h1 w1 hr) (Goes.rely Kt h2 hr)
 |succ m ih=>
  intro n g w h1 h2;rcases h1 with h1|⟨hrun,h1⟩
  ·exact .inl λw1 hr=>one n g w1 (h1 w1 hr) (Goes.rely Kt h2 hr)
  ·refine .inr ⟨hrun,λw1 hr=>?_⟩;have h1:=h1 w1 hr;have h2:=Goes.rely Kt h2 hr;cases hst:stepG P false g w1 with
   |go g' w' es=>
    rw[hst] at h1;obtain⟨⟨rfl,rfl⟩,h9⟩:=h1;refine⟨⟨rfl,rfl⟩,?_⟩
    have stp:¬AtR0 P ty Wg Bx 1 0 1 v0 g w':=λ⟨_,_,g2,h3,_⟩=>by
     have:=hst.symm.trans h3;injection this with _ _ h4
     simp at h4
    cases n with
    |zero=>exact absurd (h2 w' (RW.refl w')) stp
    |succ n=>
     rcases h2 with h2|⟨_,h2⟩
     ·exact absurd (h2 w' (RW.refl w')) stp
     ·have:=h2 w' (RW.refl w');rw[hst] at this;exact ih n g' w' h9 this.2
   |_=>rw[hst] at h1;exact h1.elim
end
end W
end
namespace W
open Go.Conc Go.ConcN Go.RowKit Go.Conc.Lib Go.ConcR.Gen Go.ConcN.Gen
open Go.ConcR (KK WgAt stA smA rd wr mk Payload DC0)
section
variable [Payload]{L:WgLink}{Wg Bx:Nat}{v0:Value}
def wlw{w w₁:World}(h:WgLive L.tWg Wg w)(r:RWb L.tWg Wg Bx w w₁):WgLive L.tWg Wg w₁:=r.live h
def done_own{P:Program}(H:WgLib P L){c:Frame}{cs:List Frame}(w:World)(hF:WgLive L.tWg Wg w) :
  Goes P false (RWb L.tWg Wg Bx) DC0 (AtRel P L.tWg Wg Bx) 23 (Go.Conc.G ((Go.Conc.baseD L.done).at ⟨#[.pointer (some ⟨Wg,0,none⟩),undef,undef,undef],[]⟩ [.code (body_done L)]) (c::cs)) w:=by
 lib_facts
 simp only[body_done,body_add,doneFn,addFn,Option.getD_some]
 u_reg wlw hF
 u_op wlw hF
 u_in wlw hF
 refine goes_call rfl rfl (by k_ne) rfl H.f_add (nm_add L) rfl ⟨by u_nil,?_⟩
 walk_nrmf addFn
 u_c stepG_seq wlw hF
 u_cond true wlw hF
 u_c stepG_seq wlw hF
 u_c stepG_seq wlw hF
 u_reg wlw hF
 u_op wlw hF
 u_op wlw hF
 u_c stepG_region_end wlw hF
 u_cond true wlw hF
 u_reg wlw hF
 u_op wlw hF
 u_conv H.underlying_tWgP H.room_tWg (WgLive.cell0 hF).choose_spec wlw hF
 refine Goes.stop (λw₁ h₁=>?_)
 replace hF:=wlw hF h₁
 clear h₁;refine⟨_,stepG_markAt .releaseMerge (by simp) rfl rfl (by k_ne) rfl H.f_relMerge (x_relMerge_n L) (x_relMerge_b L) (x_relMerge_x L) (x_relMerge_f L) (by simp[Act.eval,stA]),5,?_⟩
 walk_nrm
 u_c stepG_region_end wlw hF
 u_c stepG_seq wlw hF
 u_reg wlw hF
 refine Goes.stop (λw₂ h₂=>?_);exact⟨_,stepG_mark0 .disable (by simp) rfl rfl (by k_ne) rfl H.f_disable (x_disable_n L) (x_disable_b L) (x_disable_x L) (x_disable_f L)⟩
def done_goes{P:Program}(H:WgLib P L){c:Frame}{cs:List Frame}{qt:Nat}(hcm:c.mode=.returning)(hT:QuitsD P qt 0 (Go.Conc.G c cs))(w:World)(hK:WgLive L.tWg Wg w/\ConcN.Has Bx 0 v0 w) :
  Goes P false (RWb L.tWg Wg Bx) Go.ConcR.DC0 (AtR0 P L.tWg Wg Bx 1 0 1 v0) 23 (Go.Conc.G ((Go.Conc.baseD L.done).at ⟨#[.pointer (some ⟨Wg,0,none⟩),undef,undef,undef],[]⟩ [.code (body_done L)]) (c::cs)) w:=
 merge_goes 23 23 _ w (done_own H w hK.1) (doneN (k:=1) H hcm hT w hK)
end
end W
section
open Go.RowKit
open Go.Conc hiding base G
open Go.ConcN
open Go.ConcR (KK WgAt stA smA rd wr mk Payload DC0)
namespace W
def RL(ty:TypeId)(Wg:Nat):World->World->Prop:=λ_ w1=>WgLive ty Wg w1
def DS(Wg:Nat):World->World->Array Event->Prop:=λw w' es=>w'=w/\Said Wg es
def ds_none{Wg:Nat}{w:World}{es:Array Event}(h:∀e∈es,False):DS Wg w w es:=⟨rfl,λe he=>(h e he).elim⟩
def wl{ty:TypeId}{Wg:Nat}{w w₁:World}(_:WgLive ty Wg w)(r:RL ty Wg w w₁):WgLive ty Wg w₁:=r
section
variable (P:Program)(ty:TypeId)(Wg:Nat)(End:Goroutine->World->Prop)
def GKe(g:Goroutine)(w:World):Prop:=g.status=.running/\∃g',stepG P true g w=.go g' w #[mk .enable]/\∃m,Goes P true (RL ty Wg) (DS Wg) End m g' w
def GA1(g:Goroutine)(w:World):Prop:=g.status=.running/\∀v:Nat,v<2147483647->WgAt ty Wg w (v*KK) 0->
 ∃g',stepG P true g w=.go g' (w.setCell (stA Wg) (.int .u64 ((v+1)*KK))) #[rd (stA Wg),wr (stA Wg)]/\∃m,Goes P true (RL ty Wg) (DS Wg) (GKe P ty Wg End) m g' (w.setCell (stA Wg) (.int .u64 ((v+1)*KK)))
def GKd(g:Goroutine)(w:World):Prop:=g.status=.running/\∃g',stepG P true g w=.go g' w #[mk .disable]/\∃m,Goes P true (RL ty Wg) (DS Wg) (GA1 P ty Wg End) m g' w
end
end W
end
namespace W
open Go.Conc Go.ConcN Go.RowKit Go.Conc.Lib Go.ConcR.Gen Go.ConcN.Gen
open Go.ConcR (KK WgAt stA smA rd wr mk Payload)
structure Bu(p:Prop):Prop where
 h:p
def GA(P:Program)(I:World->Prop)(R:World->World->Prop)(D:World->World->Array Event->Prop)(End:Goroutine->World->Prop)(m:Nat)(g:Goroutine):Prop:=∀w,I w->Goes P true R D End m g w
class KpR(I:World->Prop)(R:World->World->Prop):Prop where
 k:∀{w w₁},I w->R w w₁->I w₁
class NoE(D:World->World->Array Event->Prop):Prop where
 n:∀{w es},(∀e∈es,False)->D w w es
section
variable {P:Program}{I:World->Prop}{R:World->World->Prop}{D:World->World->Array Event->Prop}{End:Goroutine->World->Prop}{m:Nat}{g g':Goroutine}
def dz[NoE D]{w:World}:D w w #[]:=NoE.n λe he=>by simp at he
def GA.a{w:World}(h:GA P I R D End m g)(hI:I w):Goes P true R D End m g w:=h w hI
def uI[KpR I R](hs:g.status=.running)(h:∀w,I w->(stepG P true g w).goes λg' w' es=>D w w' es/\Goes P true R D End m g' w'):GA P I R D End (m+1) g:=λ_ hF=>Goes.step hs λw1 h1=>h w1 (KpR.k hF h1)
def uS[KpR I R](h:∀w,I w->End g w):GA P I R D End m g:=λ_ hF=>Goes.stop λw1 h1=>h w1 (KpR.k hF h1)
def uC[KpR I R][NoE D](e:∀{w},stepG P true g w=.go g' w #[])(h:GA P I R D End m g')(hs:g.status=.running:=by exact rfl):GA P I R D End (m+1) g:=uI hs λw hF=>by rw[e];exact⟨dz,h w hF⟩
end
section
variable {P:Program}{I:World->Prop}{R:World->World->Prop}{D:World->World->Array Event->Prop}{End:Goroutine->World->Prop}{m:Nat}[KpR I R][NoE D]{b:Frame}{a:Act}{k:List Item}{cs:List Frame}
def uQ{x y:Code}:GA P I R D End m (G (b.at a (.code x::.code y::k)) cs)->GA P I R D End (m+1) (G (b.at a (.code (.seq x y)::k)) cs):=(uC stepG_seq ·)
def uE{o:Array Oper}:GA P I R D End m (G (b.at a k) cs)->GA P I R D End (m+1) (G (b.at a (.inRegion o []::k)) cs):=(uC stepG_region_end ·)
end
def uO{G G':Prop}(h:G')(s:Bu G'->G:=by
 intro h;refine uI rfl λw hF=>?_;refine goes_oper_k rfl rfl (by k_ne) (λK hK=>?_)
 go_simp
 refine hK _ _ ⟨NoE.n λe he=>?_,?_⟩
 ·have hm:=mem_listed he;simp[go_sem, *] at hm
 clear hK K;try w_num
 exact GA.a (Bu.h h) hF):G:=s ⟨h⟩
def uR{G G':Prop}(h:G')(s:Bu G'->G:=by
 intro h;refine uI rfl λw hF=>?_;rw[stepG_region];simp only[goes_go,List.size_toArray,List.length_cons,List.length_nil,Nat.reduceAdd,Nat.zero_add,List.range,List.range.loop];exact⟨dz,GA.a (Bu.h h) hF⟩):G:=s ⟨h⟩
def uT{G G':Prop}(h:G')(s:Bu G'->G:=by
 intro h;refine uI rfl λw hF=>?_;rw[stepG_cond (t:=true) (by first|rfl|(simp[Act.eval];omega))];simp only[goes_go,if_true];exact⟨dz,GA.a (Bu.h h) hF⟩):G:=s ⟨h⟩
def uF{G G':Prop}(h:G')(s:Bu G'->G:=by
 intro h;refine uI rfl λw hF=>?_;rw[stepG_cond (t:=false) (by first|rfl|(simp[Act.eval];omega))];simp only[goes_go,if_false,Bool.false_eq_true,↓reduceIte];exact⟨dz,GA.a (Bu.h h) hF⟩):G:=s ⟨h⟩
def uK{G G':Prop}(h:G')(s:Bu G'->G:=by
 intro h;refine uI rfl λw hF=>?_;rw[stepG_unwanted rfl rfl];simp only[goes_go];refine⟨dz,?_⟩
 walk_nrm
 exact GA.a (Bu.h h) hF):G:=s ⟨h⟩
def uV{A B:World->Prop}{I:World->Prop}{G G':Prop}(c:∀w,I w->A w/\B w)(h:G')(s:(∀w,I w->A w/\B w)->Bu G'->G:=by
 intro c h;refine uI rfl λw hF=>?_;obtain⟨hcv,hce⟩:=c w hF;refine goes_oper_k rfl rfl (by k_ne) (λK hK=>?_)
 go_simp
 refine hK _ _ ⟨NoE.n λe he=>?_,?_⟩
 ·have hm:=mem_listed he;simp[go_sem,hce] at hm
 clear hK K hcv hce;exact GA.a (Bu.h h) hF):G:=s c ⟨h⟩
instance {ty:TypeId}{Wg:Nat}:KpR (WgLive ty Wg) (RL ty Wg):=⟨λh r=>wl h r⟩
instance {Wg:Nat}:NoE (DS Wg):=⟨λh=>ds_none h⟩
section
variable [Payload]{L:WgLink}{Wg:Nat}{End:Goroutine->World->Prop}{b₀:Frame}{a₀:Act}{ops₀:Array Oper}{i₀:Nat}{rest₀:List Nat}{k₀:List Item}{cs:List Frame}
def add_goes{P:Program}(H:WgLib P L)(hT:∀w,WgLive L.tWg Wg w->End (G (b₀.at (a₀.put ((ops₀[i₀]?).bind (·.dst)) (.tuple #[])) (.inRegion ops₀ rest₀::k₀)) cs) w)(w:World)(hF:WgLive L.tWg Wg w) :
  Goes P true (RL L.tWg Wg) (DS Wg) (GKd P L.tWg Wg End) 12 (G ((Go.Conc.base L.add).at ⟨#[.pointer (some ⟨Wg,0,none⟩),.int .i64 1]++Array.replicate 115 undef,[]⟩ [.code (body_add L)]) (b₀.at a₀ (.inRegion ops₀ (i₀::rest₀)::k₀)::cs)) w:=by
 refine GA.a ?_ hF;clear hF w
 lib_facts
 simp only[body_add,addFn,Option.getD_some]
 walk_nrm
 refine uQ ?_;refine uT ?_;refine uQ ?_;refine uQ ?_;refine uR ?_;iterate 2 refine uO ?_
 refine uE ?_;refine uF ?_;refine uC stepG_skip ?_;refine uQ ?_;refine uR ?_;refine uS λw hF=>?_;refine⟨rfl,_,stepG_mark0 .disable (by simp) rfl rfl (by k_ne) rfl H.f_disable (x_disable_n L) (x_disable_b L) (x_disable_x L) (x_disable_f L),40,?_⟩;refine GA.a ?_ hF;clear hF w
 walk_nrm
 refine uE ?_;refine uR ?_;refine uC (stepG_defer rfl rfl (by k_ne) rfl) ?_
 walk_nrm
 refine uE ?_;refine uQ ?_;refine uR ?_;refine uO ?_;refine uE ?_;refine uQ ?_;refine uQ ?_;refine uR ?_;refine uC (stepG_entry_pure (.bool false) rfl rfl (by k_ne) rfl H.f_inBubble (x_inBubble_n L) (x_inBubble_b L) (x_inBubble_x L) (x_inBubble_f L)) ?_
 walk_nrm
 refine uE ?_;refine uF ?_;refine uC stepG_skip ?_;refine uQ ?_;refine uR ?_;iterate 6 refine uO ?_
 refine uI rfl λw hF=>goes_call rfl rfl (by k_ne) rfl H.f_uAdd (nm_uAdd L) rfl ⟨dz,GA.a ?_ hF⟩
 walk_nrmf uAddFn
 refine uQ ?_;refine uR ?_;refine uO ?_;refine uE ?_;refine uQ ?_;refine uR ?_;iterate 4 refine uO ?_
 refine uS λw₂ hF=>?_;refine⟨rfl,λv hv hw=>?_⟩;rcases Nat.eq_zero_or_pos v with rfl|hvp
 ·replace hw:WgAt L.tWg Wg w₂ 0 0:=by simpa using hw
  have z:(((0:Nat):Int)+1)*KK=KK:=by simp
  rw[z];have e0:IntKind.u64.wrap (0+4294967296)=KK:=qd;refine⟨_,(stepG_add_atomic rfl rfl (by k_ne) rfl H.f_addU64 (x_addU64_n L) (x_addU64_b L) (x_addU64_x L) .u64 (x_addU64_f L) rfl rfl hw.cellSt (hw.thaw 0)).trans (by rw[e0];rfl),110,?_⟩
  replace hF:WgLive L.tWg Wg (w₂.setCell (stA Wg) (.int .u64 KK)):=⟨_,_,hw.setSt _⟩
  clear hw;refine GA.a ?_ hF;clear hF w₂;simp only[KK] at ⊢
  walk_nrm
  refine uO ?_;refine uE ?_;refine uC stepG_ret' ?_;refine uI rfl λw hF=>goes_leave1 rfl rfl H.f_uAdd rfl ⟨dz,GA.a ?_ hF⟩
  walk_nrm
  refine uO ?_;refine uE ?_;refine uQ ?_;refine uQ ?_;refine uR ?_;iterate 4 refine uO ?_
  iterate 2 refine uK ?_
  refine uO ?_;refine uE ?_;refine uF ?_;refine uC stepG_skip ?_;refine uQ ?_;refine uR ?_;iterate 4 refine uO ?_
  refine uE ?_;refine uQ ?_;refine uR ?_;iterate 4 refine uO ?_
  refine uE ?_;refine uQ ?_;refine uQ ?_;refine uR ?_;iterate 10 refine uO ?_
  refine uE ?_;refine uT ?_;refine uR ?_;iterate 3 refine uO ?_
  refine uV (λw hF=>⟨run_convert_to_unsafe (P:=P) H.underlying_tPU32 H.underlying_tUP H.room_tU32 (WgLive.cell1 hF).choose_spec,λes=>events_convert_to_unsafe (P:=P) H.underlying_tPU32 H.underlying_tUP H.room_tU32 (WgLive.cell1 hF).choose_spec es⟩) ?_;refine uI rfl λw hF=>?_;rw[stepG_markAt .read (by simp) rfl rfl (by k_ne) rfl H.f_raceRead (x_raceRead_n L) (x_raceRead_b L) (x_raceRead_x L) (x_raceRead_f L) (ad:=⟨Wg,1,none⟩) (by simp[Act.eval])];simp only[goes_go];refine⟨⟨rfl,λe he=>?_⟩,?_⟩
  ·rw[Array.mem_singleton] at he;subst he;exact .inl rfl
  refine GA.a ?_ hF;clear hF w
  walk_nrm
  refine uE ?_;refine uQ ?_;refine uQ ?_;refine uR ?_;iterate 2 refine uO ?_
  refine uE ?_;refine uF ?_;refine uC stepG_skip ?_;refine uQ ?_;refine uQ ?_;refine uR ?_;iterate 3 refine uO ?_
  iterate 2 refine uK ?_
  iterate 2 refine uO ?_
  iterate 4 refine uK ?_
  refine uO ?_;refine uE ?_;refine uF ?_;refine uC stepG_skip ?_;refine uQ ?_;refine uQ ?_;refine uR ?_;iterate 3 refine uO ?_
  iterate 2 refine uK ?_
  refine uO ?_;refine uE ?_;refine uT ?_;refine uC stepG_ret' ?_;refine uS λw₃ hF=>?_;refine⟨rfl,_,stepG_unwind_entry (v:=.tuple #[]) (evs:=#[mk .enable]) rfl H.f_enable (x_enable_n L) (x_enable_b L) (x_enable_x L) (x_enable_f L) (by simp[Extern.Race.none_]) (by simp[mk]) (by simp[mk]),1,?_⟩;refine GA.a ?_ hF;clear hF w₃;refine uI rfl λw hF=>goes_leave0 rfl rfl H.f_add rfl ⟨dz,GA.a ?_ hF⟩
  walk_nrm
  exact uS λw₄ h₄=>hT w₄ h₄
 ·obtain⟨V,hV⟩:∃V:Int,V=(v:Int)+1:=⟨_,rfl⟩
  obtain⟨S,hS⟩:∃S:Int,S=V*KK:=⟨_,rfl⟩
  have eS:IntKind.u64.wrap ((v:Int)*KK+4294967296)=S:=by rw[IntKind.wrap_u64,hS,hV];simp only[KK];omega
  rw[<-hV,<-hS];have a1:S/4294967296=V:=by rw[hS];simp only[KK];omega
  have b1:bits .and .u64 S 2147483648=0:=by rw[hS,hV];have:=st_flag (v+1) 0 qo qo;simpa [KK] using this
  have b2:bits .and .u64 S 2147483647=0:=by rw[hS,hV];have:=st_waiters (v+1) 0 qo qo;simpa [KK] using this
  have c1:IntKind.i32.wrap V=V:=by rw[IntKind.wrap_i32];omega
  have hV1:1<V:=qo;have hV2:V<2147483648:=qo;have q1:(V == 1)=false:=by simp;omega
  have q2:decide (V=1)=false:=decide_eq_false qo;have q3:decide (V<0)=false:=decide_eq_false qo;have q4:decide (0<V)=true:=decide_eq_true qo;have q5:(V == 0)=false:=by simp;omega
  have q6:decide (V=0)=false:=decide_eq_false qo;refine⟨_,(stepG_add_atomic rfl rfl (by k_ne) rfl H.f_addU64 (x_addU64_n L) (x_addU64_b L) (x_addU64_x L) .u64 (x_addU64_f L) rfl rfl hw.cellSt (hw.thaw 0)).trans (by rw[eS];rfl),110,?_⟩
  replace hF:WgLive L.tWg Wg (w₂.setCell (stA Wg) (.int .u64 S)):=⟨_,_,hw.setSt _⟩
  clear hw hS hV eS;refine GA.a ?_ hF;clear hF w₂
  walk_nrm
  refine uO ?_;refine uE ?_;refine uC stepG_ret' ?_;refine uI rfl λw hF=>goes_leave1 rfl rfl H.f_uAdd rfl ⟨dz,GA.a ?_ hF⟩
  walk_nrm
  refine uO ?_;refine uE ?_;refine uQ ?_;refine uQ ?_;refine uR ?_;iterate 4 refine uO ?_
  iterate 2 refine uK ?_
  refine uO ?_;refine uE ?_;refine uF ?_;refine uC stepG_skip ?_;refine uQ ?_;refine uR ?_;iterate 4 refine uO ?_
  refine uE ?_;refine uQ ?_;refine uR ?_;iterate 4 refine uO ?_
  refine uE ?_;refine uQ ?_;refine uQ ?_;refine uR ?_;iterate 10 refine uO ?_
  refine uE ?_;refine uF ?_;refine uC stepG_skip ?_;refine uQ ?_;refine uQ ?_;refine uR ?_;iterate 2 refine uO ?_
  refine uE ?_;refine uF ?_;refine uC stepG_skip ?_;refine uQ ?_;refine uQ ?_;refine uR ?_;iterate 3 refine uO ?_
  iterate 2 refine uK ?_
  iterate 2 refine uO ?_
  iterate 4 refine uK ?_
  refine uO ?_;refine uE ?_;refine uF ?_;refine uC stepG_skip ?_;refine uQ ?_;refine uQ ?_;refine uR ?_;iterate 3 refine uO ?_
  iterate 2 refine uK ?_
  refine uO ?_;refine uE ?_;refine uT ?_;refine uC stepG_ret' ?_;refine uS λw₃ hF=>?_;refine⟨rfl,_,stepG_unwind_entry (v:=.tuple #[]) (evs:=#[mk .enable]) rfl H.f_enable (x_enable_n L) (x_enable_b L) (x_enable_x L) (x_enable_f L) (by simp[Extern.Race.none_]) (by simp[mk]) (by simp[mk]),1,?_⟩;refine GA.a ?_ hF;clear hF w₃;refine uI rfl λw hF=>goes_leave0 rfl rfl H.f_add rfl ⟨dz,GA.a ?_ hF⟩
  walk_nrm
  exact uS λw₄ h₄=>hT w₄ h₄
end
end W
section
open Go.RowKit
open Go.Conc hiding base G
open Go.ConcN
open Go.ConcR (KK WgAt stA smA rd wr mk Payload DC0)
namespace W
def TailW(P:Program)(End:Goroutine->World->Prop)(g:Goroutine)(w:World):Prop:=∃m,Goes P true (λ_ _=>True) DC0 End m g w
section
variable (P:Program)(ty:TypeId)(Wg:Nat)(End Anch:Goroutine->World->Prop)
def HAcq(g:Goroutine)(w:World):Prop:=g.status=.running/\∃g',stepG P true g w=.go g' w #[mk (.acquire (stA Wg))]/\TailW P End g' w
def HKe(g:Goroutine)(w:World):Prop:=g.status=.running/\∃g',stepG P true g w=.go g' w #[mk .enable]/\∃m,Goes P true (RL ty Wg) (DS Wg) (HAcq P Wg End) m g' w
def HW4(g:Goroutine)(w:World):Prop:=g.status=.running/\(WgAt ty Wg w 0 0->∃g',stepG P true g w=.go g' w #[rd (stA Wg)]/\∃m,Goes P true (RL ty Wg) (DS Wg) (HKe P ty Wg End) m g' w)
def HW3(g:Goroutine)(w:World):Prop:=g.status=.running/\g.offers=none/\((∃st,WgAt ty Wg w st 0)->stepG P true g w=.go {g with status:=.blocked} w #[])/\
 (WgAt ty Wg w 0 1->∃g',stepG P true g w=.go g' (w.setCell (smA Wg) (.int .u32 0)) (semEvents (smA Wg))/\∃m,Goes P true (RL ty Wg) (DS Wg) (HW4 P ty Wg End) m g' (w.setCell (smA Wg) (.int .u32 0)))
def HW2(vs:Nat)(g:Goroutine)(w:World):Prop:=g.status=.running/\∀v:Nat,v<2147483648->WgAt ty Wg w (v*KK) 0->
 (v=vs->∃g',stepG P true g w=.go g' (w.setCell (stA Wg) (.int .u64 (v*KK+1))) #[rd (stA Wg),wr (stA Wg)]/\∃m,Goes P true (RL ty Wg) (DS Wg) (HW3 P ty Wg End) m g' (w.setCell (stA Wg) (.int .u64 (v*KK+1))))/\
 (v≠vs->∃g',stepG P true g w=.go g' w #[rd (stA Wg)]/\∃m,Goes P true (RL ty Wg) (DS Wg) Anch m g' w)
def HW1(g:Goroutine)(w:World):Prop:=g.status=.running/\∀v:Nat,v<2147483648->WgAt ty Wg w (v*KK) 0->∃g',stepG P true g w=.go g' w #[rd (stA Wg)]/\
 (v=0->∃m,Goes P true (RL ty Wg) (DS Wg) (HKe P ty Wg End) m g' w)/\(v≠0->∃m,Goes P true (RL ty Wg) (DS Wg) (HW2 P ty Wg End Anch v) m g' w)
def HKd(g:Goroutine)(w:World):Prop:=g.status=.running/\∃g',stepG P true g w=.go g' w #[mk .disable]/\∃m,Goes P true (RL ty Wg) (DS Wg) Anch m g' w
end
end W
end
namespace W
open Go.Conc Go.ConcN Go.RowKit Go.Conc.Lib Go.ConcR.Gen Go.ConcN.Gen
open Go.ConcR (KK WgAt stA smA rd wr mk Payload)
def tl(_:True)(_:True):True:=trivial
def Anc(L:WgLink)(Wg:Nat)(c:Frame)(cs:List Frame)(g:Goroutine)(w:World):Prop:=
 ∃T:Array Value,g=G ((Go.Conc.base L.wait).at ⟨T,[]⟩ [.code (L7 L),.inLoop (L7 L),.inBlock 0]) (c::cs)/\T.size=84/\T[0]?=some (.pointer (some ⟨Wg,0,none⟩))/\WgLive L.tWg Wg w
section
variable [Payload]{L:WgLink}{Wg:Nat}{End:Goroutine->World->Prop}{b₀:Frame}{a₀:Act}{ops₀:Array Oper}{i₀:Nat}{rest₀:List Nat}{k₀:List Item}{cs:List Frame}
def wait_start{P:Program}(H:WgLib P L)(w:World)(hF:WgLive L.tWg Wg w) :
  Goes P true (RL L.tWg Wg) (DS Wg) (HKd P L.tWg Wg (Anc L Wg (b₀.at a₀ (.inRegion ops₀ (i₀::rest₀)::k₀)) cs)) 3 (G ((Go.Conc.base L.wait).at ⟨#[.pointer (some ⟨Wg,0,none⟩)]++Array.replicate 83 undef,[]⟩ [.code (body_wait L)]) (b₀.at a₀ (.inRegion ops₀ (i₀::rest₀)::k₀)::cs)) w:=by
 lib_facts
 simp only[body_wait,waitFn,Option.getD_some];refine GA.a ?_ hF;clear hF
 walk_nrm
 refine uQ ?_;refine uT ?_;refine uR ?_;refine uS λw₁ hF=>?_;refine⟨rfl,_,stepG_mark0 .disable (by simp) rfl rfl (by k_ne) rfl H.f_disable (x_disable_n L) (x_disable_b L) (x_disable_x L) (x_disable_f L),3,?_⟩;refine GA.a ?_ hF;clear hF
 walk_nrm
 refine uE ?_;refine uC stepG_block ?_;refine uC stepG_loop ?_;exact uS λw₂ hF=>⟨_,rfl,by simp,by simp,hF⟩
def wait_round{P:Program}(H:WgLib P L)(hT:∀w,End (G (b₀.at (a₀.put ((ops₀[i₀]?).bind (·.dst)) (.tuple #[])) (.inRegion ops₀ rest₀::k₀)) cs) w)
  (g:Goroutine) (w:World) (h:Anc L Wg (b₀.at a₀ (.inRegion ops₀ (i₀::rest₀)::k₀)) cs g w) :
  ∃m,Goes P true (RL L.tWg Wg) (DS Wg) (HW1 P L.tWg Wg End (Anc L Wg (b₀.at a₀ (.inRegion ops₀ (i₀::rest₀)::k₀)) cs)) m g w:=by
 lib_facts
 obtain⟨T,rfl,hT84,t0,hF⟩:=h;obtain⟨v0,v1,v2,v3,v4,v5,v6,v7,v8,v9,v10,v11,v12,v13,v14,v15,v16,v17,v18,v19,v20,v21,v22,v23,v24,v25,v26,v27,v28,v29,v30,v31,v32,v33,v34,v35,v36,v37,v38,v39,v40,v41,v42,v43,v44,v45,v46,v47,v48,v49,v50,v51,v52,v53,v54,v55,v56,v57,v58,v59,v60,v61,v62,v63,v64,v65,v66,v67,v68,v69,v70,v71,v72,v73,v74,v75,v76,v77,v78,v79,v80,v81,v82,v83,rfl⟩:=array84 T hT84;have hX:True:=trivial;simp only[List.getElem?_toArray,List.getElem?_cons_zero,Option.some.injEq] at t0;subst t0;refine⟨30,?_⟩;refine GA.a ?_ hF;clear hF;simp only[L7,body_wait,waitFn,Option.getD_some];refine uC stepG_block ?_;refine uQ ?_;refine uR ?_;iterate 3 refine uO ?_
 refine uI rfl λw hF=>goes_call rfl rfl (by k_ne) rfl H.f_uLoad (nm_uLoad L) rfl ⟨dz,GA.a ?_ hF⟩
 walk_nrmf uLoadFn
 refine uQ ?_;refine uR ?_;refine uO ?_;refine uE ?_;refine uQ ?_;refine uR ?_;iterate 3 refine uO ?_
 refine uS λw₁ hF=>?_;refine⟨rfl,λv hv hw=>?_⟩;rcases Nat.eq_zero_or_pos v with rfl|hvp
 ·replace hw:WgAt L.tWg Wg w₁ 0 0:=by simpa using hw
  refine⟨_,stepG_load_atomic (v:=0) rfl rfl (by k_ne) rfl H.f_loadU64 (x_loadU64_n L) (x_loadU64_b L) (x_loadU64_x L) .u64 (x_loadU64_f L) rfl hw.cellSt,λ_=>⟨70,?_⟩,λh=>absurd rfl h⟩;clear hw;refine GA.a ?_ hF;clear hF
  walk_nrm
  refine uO ?_;refine uE ?_;refine uC stepG_ret' ?_;refine uI rfl λw hF=>goes_leave1 rfl rfl H.f_uLoad rfl ⟨dz,GA.a ?_ hF⟩
  walk_nrm
  refine uO ?_;refine uE ?_;refine uQ ?_;refine uR ?_;iterate 4 refine uO ?_
  refine uE ?_;refine uQ ?_;refine uR ?_;iterate 4 refine uO ?_
  refine uE ?_;refine uQ ?_;refine uQ ?_;refine uR ?_;iterate 2 refine uO ?_
  refine uE ?_;refine uT ?_;refine uQ ?_;refine uT ?_;refine uQ ?_;refine uR ?_;refine uS λw₅ hF=>?_;refine⟨rfl,_,stepG_mark0 .enable (by simp) rfl rfl (by k_ne) rfl H.f_enable (x_enable_n L) (x_enable_b L) (x_enable_x L) (x_enable_f L),12,?_⟩;refine GA.a ?_ hF;clear hF
  walk_nrm
  refine uE ?_;refine uR ?_;refine uO ?_;refine uV (λw hF=>⟨run_convert_to_unsafe (P:=P) H.underlying_tWgP H.underlying_tUP H.room_tWg (WgLive.cell0 hF).choose_spec,λes=>events_convert_to_unsafe (P:=P) H.underlying_tWgP H.underlying_tUP H.room_tWg (WgLive.cell0 hF).choose_spec es⟩) ?_;refine uS λw₆ hF=>?_;refine⟨rfl,_,stepG_markAt .acquire (by simp) rfl rfl (by k_ne) rfl H.f_acquire (x_acquire_n L) (x_acquire_b L) (x_acquire_x L) (x_acquire_f L) (by simp[Act.eval,stA]),60,?_⟩
  walk_nrm
  u_c stepG_region_end tl hX
  u_c stepG_seq tl hX
  u_c stepG_seq tl hX
  u_reg tl hX
  u_op tl hX
  u_op tl hX
  u_op tl hX
  u_op tl hX
  u_op tl hX
  u_op tl hX
  u_op tl hX
  u_op tl hX
  u_skip tl hX
  u_skip tl hX
  u_op tl hX
  u_c stepG_region_end tl hX
  u_cond false tl hX
  u_c stepG_skip tl hX
  u_c stepG_ret' tl hX
  u_leave0 H.f_wait tl hX
  exact Goes.stop λw₇ _=>hT w₇
 ·obtain⟨S,hS⟩:∃S:Int,(v:Int)*KK=S:=⟨_,rfl⟩
  have a1:S/4294967296=(v:Int):=by rw[<-hS];simp only[KK];omega
  have b1:bits .and .u64 S 2147483648=0:=by rw[<-hS];have:=st_flag v 0 qo qo;simpa [KK] using this
  have b2:bits .and .u64 S 2147483647=0:=by rw[<-hS];have:=st_waiters v 0 qo qo;simpa [KK] using this
  have c1:IntKind.i32.wrap (v:Int)=(v:Int):=by rw[IntKind.wrap_i32];omega
  have w1:IntKind.u64.wrap (S+1)=S+1:=by rw[IntKind.wrap_u64,<-hS];simp only[KK];omega
  have q3:decide ((v:Int)<0)=false:=decide_eq_false qo;have q4:decide (0<(v:Int))=true:=decide_eq_true qo;have q5:((v:Int) == 0)=false:=by simp;omega
  have q6:decide ((v:Int)=0)=false:=decide_eq_false qo;rw[hS] at hw;refine⟨_,stepG_load_atomic (v:=S) rfl rfl (by k_ne) rfl H.f_loadU64 (x_loadU64_n L) (x_loadU64_b L) (x_loadU64_x L) .u64 (x_loadU64_f L) rfl hw.cellSt,λh0=>absurd h0 qo,λ_=>⟨60,?_⟩⟩;clear hw;refine GA.a ?_ hF;clear hF
  walk_nrm
  refine uO ?_;refine uE ?_;refine uC stepG_ret' ?_;refine uI rfl λw hF=>goes_leave1 rfl rfl H.f_uLoad rfl ⟨dz,GA.a ?_ hF⟩
  walk_nrm
  refine uO ?_;refine uE ?_;refine uQ ?_;refine uR ?_;iterate 4 refine uO ?_
  refine uE ?_;refine uQ ?_;refine uR ?_;iterate 4 refine uO ?_
  refine uE ?_;refine uQ ?_;refine uQ ?_;refine uR ?_;iterate 2 refine uO ?_
  refine uE ?_;refine uF ?_;refine uC stepG_skip ?_;refine uQ ?_;refine uR ?_;iterate 6 refine uO ?_
  refine uI rfl λw hF=>goes_call rfl rfl (by k_ne) rfl H.f_uCas (nm_uCas L) rfl ⟨dz,GA.a ?_ hF⟩
  walk_nrmf uCasFn
  refine uQ ?_;refine uR ?_;refine uO ?_;refine uE ?_;refine uQ ?_;refine uR ?_;iterate 5 refine uO ?_
  refine uS λw₂ hF=>?_;refine⟨rfl,λv' hv' hw=>⟨λe=>?_,λe=>?_⟩⟩
  ·subst e;rw[hS] at hw ⊢;refine⟨_,(stepG_cas_hit (v:=S) (n:=S+1) rfl rfl (by k_ne) rfl H.f_casU64 (x_casU64_n L) (x_casU64_b L) (x_casU64_x L) .u64 (x_casU64_f L) rfl rfl rfl hw.cellSt (hw.thaw 0)).trans (by rfl),70,?_⟩
   replace hF:WgLive L.tWg Wg (w₂.setCell (stA Wg) (.int .u64 (S+1))):=⟨_,_,hw.setSt _⟩
   clear hw;refine GA.a ?_ hF;clear hF
   walk_nrm
   refine uO ?_;refine uE ?_;refine uC stepG_ret' ?_;refine uI rfl λw hF=>goes_leave1 rfl rfl H.f_uCas rfl ⟨dz,GA.a ?_ hF⟩
   walk_nrm
   refine uE ?_;refine uT ?_;refine uQ ?_;refine uQ ?_;refine uR ?_;iterate 4 refine uO ?_
   refine uE ?_;refine uT ?_;refine uR ?_;iterate 3 refine uO ?_
   refine uV (λw hF=>⟨run_convert_to_unsafe (P:=P) H.underlying_tPU32 H.underlying_tUP H.room_tU32 (WgLive.cell1 hF).choose_spec,λes=>events_convert_to_unsafe (P:=P) H.underlying_tPU32 H.underlying_tUP H.room_tU32 (WgLive.cell1 hF).choose_spec es⟩) ?_;refine uI rfl λw hF=>?_;rw[stepG_markAt .write (by simp) rfl rfl (by k_ne) rfl H.f_raceWrite (x_raceWrite_n L) (x_raceWrite_b L) (x_raceWrite_x L) (x_raceWrite_f L) (ad:=⟨Wg,1,none⟩) (by simp[Act.eval]<;>rfl)];simp only[goes_go];refine⟨⟨rfl,λex hex=>?_⟩,?_⟩
   ·rw[Array.mem_singleton] at hex;subst hex;exact .inr rfl
   refine GA.a ?_ hF;clear hF
   walk_nrm
   refine uE ?_;refine uQ ?_;refine uR ?_;refine uO ?_;refine uE ?_;refine uQ ?_;refine uQ ?_;refine uR ?_;iterate 4 refine uO ?_
   refine uK ?_;refine uO ?_;refine uE ?_;refine uF ?_;refine uC stepG_skip ?_;refine uQ ?_;refine uR ?_;iterate 4 refine uO ?_
   refine uS λw₃ hF=>?_;refine⟨rfl,rfl,λ⟨st,hw⟩=>stepG_semacquire_wait rfl rfl rfl H.f_semacquire (x_semacquire_n L) (x_semacquire_b L) (x_semacquire_x L) (x_semacquire_f L) (by simp[Act.eval,smA]) hw.cellSm,λhf=>?_⟩;refine⟨_,(stepG_semacquire (n:=1) rfl rfl (by k_ne) rfl H.f_semacquire (x_semacquire_n L) (x_semacquire_b L) (x_semacquire_x L) (x_semacquire_f L) (by simp[Act.eval,smA]) hf.cellSm (by k_ne) (hf.thaw 1)).trans (by rfl),30,?_⟩
   replace hF:WgLive L.tWg Wg (w₃.setCell (smA Wg) (.int .u32 0)):=⟨_,_,hf.setSm 0⟩
   clear hf;refine GA.a ?_ hF;clear hF
   walk_nrm
   refine uE ?_;refine uQ ?_;refine uR ?_;iterate 3 refine uO ?_
   refine uI rfl λw hF=>goes_call rfl rfl (by k_ne) rfl H.f_uLoad (nm_uLoad L) rfl ⟨dz,GA.a ?_ hF⟩
   walk_nrmf uLoadFn
   refine uQ ?_;refine uR ?_;refine uO ?_;refine uE ?_;refine uQ ?_;refine uR ?_;iterate 3 refine uO ?_
   refine uS λw₄ hF=>?_;refine⟨rfl,λhw=>⟨_,stepG_load_atomic (v:=0) rfl rfl (by k_ne) rfl H.f_loadU64 (x_loadU64_n L) (x_loadU64_b L) (x_loadU64_x L) .u64 (x_loadU64_f L) rfl hw.cellSt,30,?_⟩⟩;clear hw;refine GA.a ?_ hF;clear hF
   walk_nrm
   refine uO ?_;refine uE ?_;refine uC stepG_ret' ?_;refine uI rfl λw hF=>goes_leave1 rfl rfl H.f_uLoad rfl ⟨dz,GA.a ?_ hF⟩
   walk_nrm
   iterate 2 refine uO ?_
   refine uE ?_;refine uQ ?_;refine uT ?_;refine uQ ?_;refine uR ?_;refine uS λw₅ hF=>?_;refine⟨rfl,_,stepG_mark0 .enable (by simp) rfl rfl (by k_ne) rfl H.f_enable (x_enable_n L) (x_enable_b L) (x_enable_x L) (x_enable_f L),12,?_⟩;refine GA.a ?_ hF;clear hF
   walk_nrm
   refine uE ?_;refine uR ?_;refine uO ?_;refine uV (λw hF=>⟨run_convert_to_unsafe (P:=P) H.underlying_tWgP H.underlying_tUP H.room_tWg (WgLive.cell0 hF).choose_spec,λes=>events_convert_to_unsafe (P:=P) H.underlying_tWgP H.underlying_tUP H.room_tWg (WgLive.cell0 hF).choose_spec es⟩) ?_;refine uS λw₆ hF=>?_;refine⟨rfl,_,stepG_markAt .acquire (by simp) rfl rfl (by k_ne) rfl H.f_acquire (x_acquire_n L) (x_acquire_b L) (x_acquire_x L) (x_acquire_f L) (by simp[Act.eval,stA]),60,?_⟩
   walk_nrm
   u_c stepG_region_end tl hX
   u_c stepG_seq tl hX
   u_c stepG_seq tl hX
   u_reg tl hX
   u_op tl hX
   u_c stepG_region_end tl hX
   u_cond false tl hX
   u_c stepG_skip tl hX
   u_c stepG_ret' tl hX
   u_leave0 H.f_wait tl hX
   exact Goes.stop λw₇ _=>hT w₇
  ·refine⟨_,stepG_cas_miss (v:=(v':Int)*KK) (old:=S) (n:=S+1) rfl rfl (by k_ne) rfl H.f_casU64 (x_casU64_n L) (x_casU64_b L) (x_casU64_x L) .u64 (x_casU64_f L) rfl rfl rfl hw.cellSt (hw.thaw 0) (by rw[<-hS];simp only[KK];omega),20,?_⟩;clear hw;refine GA.a ?_ hF;clear hF
   walk_nrm
   refine uO ?_;refine uE ?_;refine uC stepG_ret' ?_;refine uI rfl λw hF=>goes_leave1 rfl rfl H.f_uCas rfl ⟨dz,GA.a ?_ hF⟩
   walk_nrm
   refine uE ?_;refine uF ?_;refine uC stepG_skip ?_;refine uC stepG_inBlock ?_;refine uC stepG_inLoop ?_;refine uS λw₃ hF=>?_;exact⟨_,rfl,by simp,by simp,hF⟩
end
end W
end Go.Proofs.YtbnobghgnbockaaGreat
