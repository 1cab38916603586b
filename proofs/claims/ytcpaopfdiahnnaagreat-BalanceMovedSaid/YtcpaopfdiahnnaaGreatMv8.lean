/- Lemmas for a law. Conditions: none. -/
import Derived.Test.YtcpaopfdiahnnaaGreatMv7
import Derived.Conc.CrowdInv
import Derived.Conc.CrowdStepW
import Derived.Conc.WgGenN3
set_option linter.all false
set_option maxHeartbeats 32000000
set_option maxRecDepth 100000
namespace Go.Proofs.YtcpaopfdiahnnaaGreat
section
open Go.RowKit
open Go.Conc hiding base G
namespace W
inductive Tr:Type where
 |leaf
 |node (f:World->Tr)
inductive Tr.lt:Tr->Tr->Prop where
 |mk (f:World->Tr) (w:World):Tr.lt (f w) (.node f)
def Tr.acc:∀ t:Tr,Acc Tr.lt t
 |.leaf=>⟨_,λy h=>by cases h⟩
 |.node f=>⟨_,λy h=>by cases h with|mk _ w=>exact Tr.acc (f w)⟩
def Dn (n:Nat) (F' F:Nat->Tr):Prop:=∃ i,i < n∧Tr.lt (F' i) (F i)∧∀ k,k≠i->F' k=F k
def Dn.acc:∀ (n:Nat) (F:Nat->Tr),Acc (Dn n) F
 |0,F=>⟨_,λF' ⟨i,h,_⟩=>by omega⟩
 |n+1,F=>by
  have key:∀ t:Tr,∀ F:Nat->Tr,F n=t->Acc (Dn (n+1)) F:=by
   intro t;induction Tr.acc t with
   |intro t _ ih=>
    intro F;induction Dn.acc n F with
    |intro F _ ih2=>
     intro hF;refine⟨_,λF' hd=>?_⟩;obtain⟨i,hi,hlt,hsame⟩:=hd;by_cases h:i=n
     ·subst h;exact ih (F' i) (hF ▸ hlt) F' rfl
     ·exact ih2 F' ⟨i,by omega,hlt,hsame⟩ (by rw[hsame n (Ne.symm h)];exact hF)
  exact key _ F rfl
def Dn.upd {n i:Nat} {F:Nat->Tr} {t:Tr} (hi:i < n) (h:Tr.lt t (F i)):Dn n (Go.ConcN.upd F i t) F:=⟨i,hi,by rw[Go.ConcN.upd_same];exact h,λk hk=>Go.ConcN.upd_ne F t hk⟩
section
variable (P:Program) (main:Md) (sh:Bk) (Stop:Bk->Goroutine->World->Prop)
inductive RunT:Tr->Bk->Goroutine->World->Prop where
 |stop {own:Bk} {g:Goroutine} {w:World}:(∀ w1,Rly own sh w w1->Stop own g w1)->RunT .leaf own g w
 |step {own:Bk} {g:Goroutine} {w:World} (f:World->Tr) (g':World->Goroutine) (w':World->World) (es:World->Array Event) (own':World->Bk):g.status=.running->
   (∀ w1,Rly own sh w w1->main.inv w1->stepG P main.b g w1=.go (g' w1) (w' w1) (es w1)∧Fair main sh own w1 (w' w1) (es w1) (own' w1))->
   (∀ w1,Rly own sh w w1->main.inv w1->RunT (f w1) (own' w1) (g' w1) (w' w1))->RunT (.node f) own g w
end
section
variable {P:Program} {main:Md} {sh:Bk} {Stop Stop':Bk->Goroutine->World->Prop} {own:Bk} {g:Goroutine} {w w1:World}
def Run.tree (hm:∀ sh own g w K,¬main.Sp sh own g w K) (h:Run P main sh Stop own g w):∃ t,RunT P main sh Stop t own g w:=by
 classical
 induction h with
 |stop h=>exact⟨_,.stop h⟩
 |@step own g w g' w' es own' h1 h2 h3 ih=>
  have ih':∀ w1,Rly own sh w w1∧main.inv w1->∃ t,RunT P main sh Stop t (own' w1) (g' w1) (w' w1):=λw1 h=>ih w1 h.1 h.2;refine⟨_,.step (λw1=>if hx:Rly own sh w w1∧main.inv w1 then(ih' w1 hx).choose else .leaf) g' w' es own' h1 h2 λw1 k1 k2=>?_⟩;rw[dif_pos (show Rly own sh w w1∧main.inv w1 from⟨k1,k2⟩)];exact(ih' w1 ⟨k1,k2⟩).choose_spec
 |stroke K h1 h2 h3 ih=>exact absurd (h2 _ (Rly.refl _ _ _)) (hm _ _ _ _ _)
def RunT.rely {t:Tr} (h:RunT P main sh Stop t own g w) (hr:Rly own sh w w1):RunT P main sh Stop t own g w1:=by
 cases h with
 |stop h=>exact .stop λw2 h2=>h w2 (hr.trans h2)
 |step f g' w' es own' h1 h2 h3=>exact .step f g' w' es own' h1 (λw2 h=>h2 w2 (hr.trans h)) λw2 h=>h3 w2 (hr.trans h)
def Run.bind (h:Run P main sh Stop own g w) (hk:∀ own g w,Stop own g w->Run P main sh Stop' own g w):Run P main sh Stop' own g w:=by
 induction h with
 |stop h=>exact hk _ _ _ (h _ (Rly.refl _ _ _))
 |step g' w' es own' h1 h2 _ ih=>exact .step g' w' es own' h1 h2 ih
 |stroke K h1 h2 _ ih=>exact .stroke K h1 h2 ih
end
end W
end
section
open Go.RowKit
open Go.Conc hiding base G
open Go.ConcN (CT PermW Apart Ok0 OkW RelBy ShN)
namespace W
def NT (t:Trace) (l:Loc):Prop:=∀ i a,touchAt t i=some a->a.loc≠l
def Vo {B:Nat} {x:MemAct} {a:Touch} (h:x.low B) (ha:x.touch?=some a):a.loc.low B:=by
 cases x with
 |access e=>simp only[MemAct.touch?,Option.some.injEq] at ha;subst ha;exact h
 |mark m=>cases m <;> simp[MemAct.touch?] at ha <;> subst ha <;> exact h
 |_=>simp[MemAct.touch?] at ha
def NT.cell {t:Trace} {B:Nat} (h:∀ op∈t,op.act.low B) {a:Addr} (ha:B<=a.block):NT t (.cell a):=λi x hx e=>by
 obtain⟨op,ho,hox⟩:=touch_of hx;have:=Vo (h op (Array.mem_of_getElem? ho)) hox;rw[e] at this;exact absurd this (by show ¬a.block < B;omega)
def NT.obj {t:Trace} {B:Nat} (h:∀ op∈t,op.act.low B) {r:Nat} (hr:B<=r):NT t (.obj r):=λi x hx e=>by
 obtain⟨op,ho,hox⟩:=touch_of hx;have:=Vo (h op (Array.mem_of_getElem? ho)) hox;rw[e] at this;exact absurd this (by show ¬r < B;omega)
def NT.perm {t:Trace} {l:Loc} (h:NT t l) (g:Nat):Perm t g l:=λi a ha e=>absurd e (h i a ha)
def KP {Sh Sh':Loc->Prop} {Own Own' Rd Rd':Nat->Loc->Prop} {t:Trace} {j:Nat} (h:CT Sh Own Rd t j) (hs:∀ l,Sh' l->Sh l∨NT t l) (hs2:∀ l,Sh l->Sh' l)
  (ho:∀ k,1<=k->k<=j->∀ l,Own' k l->Own k l∨NT t l) (ho2:∀ k,1<=k->k<=j->∀ l,Own k l->Own' k l) (hr:∀ k,1<=k->k<=j->∀ l,Rd' k l↔Rd k l):CT Sh' Own' Rd' t j:=by
 refine⟨λi op x hi hx hsx=>?_,λk k1 kj l hl=>(ho k k1 kj l hl).elim (h.own k k1 kj l) λx=>x.perm _,λk k1 kj l hl=>h.rd k k1 kj l ((hr k k1 kj l).1 hl),λl hl hn=>h.free l (λx=>hl (hs2 l x)) λk k1 kj=>⟨λx=>(hn k k1 kj).1 (ho2 k k1 kj l x),λx=>(hn k k1 kj).2 ((hr k k1 kj l).2 x)⟩,
  λl hl hn=>h.mine l (λx=>hl (hs2 l x)) λk k1 kj x=>hn k k1 kj (ho2 k k1 kj l x),h.nr,h.gs⟩
 rcases hs _ hsx with h1|h1
 ·exact h.quiet i op x hi hx h1
 ·exact absurd rfl (h1 i x (by rw[touchAt_of hi];exact hx))
def ct_join {Sh:Loc->Prop} {Own Rd:Nat->Loc->Prop} {t:Trace} {j:Nat} (h:CT Sh Own Rd t j) (hk:∀ l,¬Sh l->Perm t 0 l):CT Sh (λ_ _=>False) (λ_ _=>False) t j:=
 ⟨h.quiet,λ_ _ _ _ h=>h.elim,λ_ _ _ _ h=>h.elim,λl hl _=>hk l hl,λl hl _=>.of (hk l hl),h.nr,h.gs⟩
def HO (b:Nat) (t:Trace):Prop:=∀ i g,t.g? i=some g->g≠0->g<=b->t.counts i->∃ k,t.g? k=some 0∧HappensBefore t i k
def HO.app {b:Nat} {t u:Trace} (h:HO b t) (hu:∀ op∈u,op.g=0∨b < op.g∨op.act.touch?=none):HO b (t++u):=by
 intro i g hg hne hle hc;obtain⟨x,hx,hz⟩:=hc;obtain⟨op,hop,hox⟩:=touch_of hx;rcases getElem?_append_cases hop with ⟨hi,hop'⟩|⟨_,hopu⟩
 ·obtain⟨j,hj,hb⟩:=h i g (by simpa [Trace.g?,getElem?_append_old hi] using hg) hne hle ((counts_old hi).1 ⟨x,hx,hz⟩)
  have hjl:j < t.size:=by
   unfold Trace.g? at hj;obtain⟨z,hz,_⟩:=Option.map_eq_some_iff.1 hj;exact lt_size_of_getElem? hz
  exact⟨j,by simpa [Trace.g?,getElem?_append_old hjl] using hj,hb_app u hb⟩
 ·have hgo:op.g=g:=by simpa [Trace.g?,hop] using hg
  rcases hu op hopu with h0|h0|h0
  ·exact absurd (hgo ▸ h0) hne
  ·omega
  ·rw[h0] at hox;cases hox
end W
end
section
open Go.RowKit
open Go.Conc hiding base G
open Go.ConcN
open Go.ConcR (KK WgAt stA smA rd wr mk Payload DC0 bk_of_mute ofEvent_loc_mark)
namespace W
def Dfd (d:Nat) (es:Array Event):Prop:=∀ j e,es[j]?=some e->(MemAct.ofEvent e).touch?=none∨0 < deafBehind d (es.extract 0 j)
section
variable [Payload] (P:Program) (ty:TypeId) (Wg Bx:Nat) (v0:Value)
abbrev Bks (s m d:Nat) (g:Goroutine) (w:World):Prop:=s<=6∧WSit P ty Wg Bx 1 (λ_ _=>False) (λ_ _=>False) 0 1 v0 s m d g w
structure BStep (j i:Nat) (D:Nat->ConcN.WD) (tag:CTag) (g:Goroutine) (w:World) (g':Goroutine) (w':World) (es:Array Event) (x:ConcN.WD) (st' sm':Int):Prop where
 go:stepG P false g w=.go g' w' es
 aside:Aside Wg w w'
 wg:WgAt ty Wg w' st' sm'
 bk:∀ e∈es,ConcR.Bk Wg e
 dfd:Dfd (D i).deaf es
 sit:Bks P ty Wg Bx v0 x.stage x.fuel x.deaf g' w'
 deaf:deafBehind (D i).deaf es=x.deaf
 mode:∀ tag',(tag'=tag∨(tag=.blk∧tag'=.w3))->(mayWake P g=true->g'.status=.running->tag'≠.blk)->ConcN.Mode j (upd D i x) tag' st' sm'
 lt:(x.stage < (D i).stage∧cnt x<=cnt (D i))∨(x.stage=(D i).stage∧x.fuel+1=(D i).fuel)
 one:(D i).stage=1->x.stage=1∧∀ e∈es,(MemAct.ofEvent e).touch?=none
end
section
variable [Payload] {P:Program} {ty:TypeId} {Wg Bx:Nat} {v0:Value} {j i:Nat} {D:Nat->ConcN.WD} {tag:CTag} {g:Goroutine} {w:World} {st sm:Int}
def dfd_1 (e:Event) (d:Nat):Dfd (d+1) #[e]:=λjx x hx=>by
 match jx,hx with
 |0,_=>exact .inr (by simp[deafBehind])
 |jx+1,hx=>simp at hx
def dfd_mark (m:Mark) (d:Nat) (h:((MemAct.ofEvent (mk m)).touch?=none)):Dfd d #[mk m]:=λjx x hx=>by
 have:=Array.mem_of_getElem? hx;simp at this;subst this;exact .inl h
def dfd_rw (a:Addr) (d:Nat):Dfd (d+1) #[rd a,wr a]:=λjx e he=>by
 match jx,he with
 |0,_=>exact .inr (by simp[deafBehind])
 |1,_=>exact .inr (by simp[deafBehind,rd])
 |jx+2,he=>simp at he
def dfd_sem (a:Addr) (d:Nat):Dfd (d+1) (semEvents a):=λjx e he=>by
 match jx,he with
 |0,he=>simp[semEvents] at he;subst he;exact .inl rfl
 |1,_=>exact .inr (by simp[deafBehind,semEvents])
 |2,_=>exact .inr (by simp[deafBehind,semEvents])
 |3,he=>simp[semEvents] at he;subst he;exact .inl rfl
 |jx+4,he=>simp[semEvents] at he
def bk_sem:∀ e∈semEvents (smA Wg),ConcR.Bk Wg e:=λe he=>by
 simp[semEvents] at he;rcases he with rfl|rfl|rfl|rfl
 ·exact .inl rfl
 ·exact bk_cell _ _ rfl
 ·exact bk_cell _ _ rfl
 ·exact .inr (.inl rfl)
def bk_rw:∀ e∈#[rd (stA Wg),wr (stA Wg)],ConcR.Bk Wg e:=λe he=>by
 simp at he;rcases he with rfl|rfl <;> exact bk_cell _ _ rfl
def Kz {wr':Bool} (a:Addr) (h:a.block=Wg):∀ e∈#[(⟨.cell a,wr',true⟩:Event)],ConcR.Bk Wg e:=λe he=>by
 simp at he;subst he;exact bk_cell _ _ h
def dfd_none (d:Nat):Dfd d #[]:=λjx e he=>by simp at he
def VQ {q d:Nat} (h:OpenSt j D):OpenSt j (upd D i ⟨1,q,d⟩):=λa ha=>by
 by_cases e:a=i
 ·subst e;rw[upd_same];simp
 ·rw[upd_ne D _ e];exact h a ha
def lastTo (hm:ConcN.Mode j D tag st sm) (hi:i < j) (h:(D i).stage=4∨(D i).stage=3) {s' m' d':Nat} (hs:s'=3∨s'=2):ConcN.Mode j (upd D i ⟨s',m',d'⟩) tag (if s'=2 then 0 else 1) 0:=by
 obtain⟨h1,h2,_,_⟩:=hm.isLast hi qo;have:=ConcN.Mode.last (j:=j) (D:=upd D i ⟨s',m',d'⟩) (tag:=tag) i h1 hi (by rw[upd_same];simp only;omega) (λa ha e=>by rw[upd_ne D _ e];exact h2 a ha e)
 rwa [upd_same] at this
def book_step (hwg:WgAt ty Wg w st sm) (hmode:ConcN.Mode j D tag st sm) (hi:i < j) (hb:Vc j D+pend tag < 2147483647) (hs:Bks P ty Wg Bx v0 (D i).stage (D i).fuel (D i).deaf g w) (hrun:g.status=.running) :
  ∃ g' w' es x st' sm',BStep P ty Wg Bx v0 j i D tag g w g' w' es x st' sm':=by
 obtain⟨h6,hs⟩:=hs;have keep:∀ {x:ConcN.WD} {st' sm':Int} {g':Goroutine},ConcN.Mode j (upd D i x) tag st' sm'->∀ tag',(tag'=tag∨(tag=.blk∧tag'=.w3))->(mayWake P g=true->g'.status=.running->tag'≠.blk)->ConcN.Mode j (upd D i x) tag' st' sm':=λh tag' ht _=>h.retag ht;have same:∀ m' d',ConcN.Mode j (upd D i ⟨(D i).stage,m',d'⟩) tag st sm:=λm' d'=>hmode.same m' d';generalize hst:(D i).stage=s at hs;generalize hfu:(D i).fuel=m at hs;generalize hde:(D i).deaf=dd at hs;rw[hst] at same h6
 have idle:∀ {g':Goroutine} {m':Nat},stepG P false g w=.go g' w #[]->WSit P ty Wg Bx 1 (λ_ _=>False) (λ_ _=>False) 0 1 v0 s m' dd g' w->m'+1=m->∃ g' w' es x st' sm',BStep P ty Wg Bx v0 j i D tag g w g' w' es x st' sm':=λ{g' m'} hgo hs' hm=>
  ⟨g',w,#[],⟨s,m',dd⟩,st,sm,hgo,.refl Wg w,hwg,by simp,dfd_none _,⟨h6,hs'⟩,hde,keep (same m' dd),.inr ⟨hst.symm,by rw[hfu];exact hm⟩,λh=>⟨hst.symm.trans h,by simp⟩⟩
 cases hs with
 |r0 h=>omega
 |k1 h=>
  rcases Goes.cases h with hstop|⟨m',rfl,hstep⟩
  ·obtain⟨_,g',hgo,m₂,hk⟩:=hstop w (RW.refl w);exact⟨g',w,_,⟨5,m₂,1⟩,st,sm,hgo,.refl Wg w,hwg,(by intro e he;simp at he;subst he;exact .inl rfl),dfd_mark _ _ rfl,⟨by show _<=6;simp,.d1 hk⟩,by rw[hde];rfl,keep (hmode.counted hi qo (.inr rfl) _ _),.inl ⟨by simp only;omega,by simp[cnt,hst]⟩,λh=>by omega⟩
  ·obtain⟨g',w',es,hgo,⟨rfl,rfl⟩,hg'⟩:=hstep w (RW.refl w);exact idle hgo (.k1 hg') rfl
 |d1 h=>
  rcases Goes.cases h with hstop|⟨m',rfl,hstep⟩
  ·obtain⟨_,hall⟩:=hstop w (RW.refl w);have hc1:cnt (D i)=1:=by simp[cnt,hst]
   have hV1:1<=Vc j D:=by have:=le_sumTo (f:=λx=>cnt (D x)) hi;simp only[Vc];omega
   have hq0:∀ q,cnt (⟨1,q,1⟩:ConcN.WD)=0:=λ_=>rfl;cases hmode with
   |opn h1 h2 h3=>
    obtain⟨v,hv⟩:∃ v,Vc j D+pend tag=v+1:=⟨Vc j D+pend tag - 1,by omega⟩
    rw[hv] at hwg;obtain⟨g',hgo,_,hq⟩:=hall v 0 qo qo (by simpa using hwg);obtain⟨q,hq⟩:=hq qo;have hv':Vc j (upd D i ⟨1,q,1⟩)+pend tag=v:=by have:=Vc_upd D (⟨1,q,1⟩:ConcN.WD) hi;have:=hq0 q;omega
    refine⟨g',_,_,⟨1,q,1⟩,_,_,hgo,aside_setCell w (stA Wg) _,hwg.setSt _,bk_rw,by rw[hde];exact dfd_rw _ 0,⟨by show _<=6;simp,.quit hq⟩,by rw[hde];rfl,keep ?_,.inl ⟨by simp only;omega,by simp[cnt]⟩,λh=>by omega⟩;have e:((v:Nat):Int)*KK+((0:Nat):Int)=((Vc j (upd D i ⟨1,q,1⟩)+pend tag:Nat):Int)*KK:=by rw[hv'];simp
    rw[e];exact .opn h1 (VQ h2) λvs ev=>by have:=h3 vs ev;omega
   |reg h1 h2 h3=>
    obtain⟨v,hv⟩:∃ v,Vc j D=v+1:=⟨Vc j D - 1,by omega⟩
    rw[hv] at hwg;obtain⟨g',hgo,hl,hq⟩:=hall v 1 qo qo (by simpa using hwg);by_cases hv0:v=0
    ·subst hv0;obtain⟨m₂,hk⟩:=hl ⟨rfl,rfl⟩;refine⟨g',_,_,⟨4,m₂,1⟩,_,_,hgo,aside_setCell w (stA Wg) _,hwg.setSt _,bk_rw,by rw[hde];exact dfd_rw _ 0,⟨by show _<=6;simp,.d2 hk⟩,by rw[hde];rfl,keep ?_,.inl ⟨by simp only;omega,by simp[cnt]⟩,λh=>by omega⟩
     have hoth:∀ a,a < j->a≠i->(D a).stage=1:=λa ha e=>by
      have c0:=others_uncounted hi hv hc1 a ha e;have:=h2 a ha;simp only[cnt] at c0;split at c0 <;> omega
     have:=ConcN.Mode.last (j:=j) (D:=upd D i ⟨4,m₂,1⟩) (tag:=tag) i h1 hi (by rw[upd_same];simp) (λa ha e=>by rw[upd_ne D _ e];exact hoth a ha e);rw[upd_same] at this;simpa using this
    ·obtain⟨q,hq⟩:=hq qo;have hv':Vc j (upd D i ⟨1,q,1⟩)=v:=by have:=Vc_upd D (⟨1,q,1⟩:ConcN.WD) hi;have:=hq0 q;omega
     refine⟨g',_,_,⟨1,q,1⟩,_,_,hgo,aside_setCell w (stA Wg) _,hwg.setSt _,bk_rw,by rw[hde];exact dfd_rw _ 0,⟨by show _<=6;simp,.quit hq⟩,by rw[hde];rfl,keep ?_,.inl ⟨by simp only;omega,by simp[cnt]⟩,λh=>by omega⟩;have e:((v:Nat):Int)*KK+((1:Nat):Int)=((Vc j (upd D i ⟨1,q,1⟩):Nat):Int)*KK+1:=by rw[hv'];simp
     rw[e];exact .reg h1 (VQ h2) qo
   |last L _ h2 h3 h4=>
    by_cases e:i=L
    ·subst e;omega
    ·have:=h4 i hi e;omega
   |sema h2=>have:=h2 i hi;omega
   |fin _ h2=>have:=h2 i hi;omega
  ·obtain⟨g',w',es,hgo,⟨rfl,rfl⟩,hg'⟩:=hstep w (RW.refl w);exact idle hgo (.d1 hg') rfl
 |d2 h=>
  rcases Goes.cases h with hstop|⟨m',rfl,hstep⟩
  ·obtain⟨_,hx⟩:=hstop w (RW.refl w);have hlt:=λm' d'=>lastTo hmode hi (.inl hst) (s':=3) (m':=m') (d':=d') (.inl rfl);obtain⟨_,_,rfl,rfl⟩:=hmode.isLast hi qo;simp only[hst] at hwg;have hwg:WgAt ty Wg w 1 0:=by simpa using hwg
   obtain⟨g',hgo,m₂,hk⟩:=hx hwg;exact⟨g',w,_,⟨3,m₂,1⟩,1,0,hgo,.refl Wg w,hwg,Kz _ rfl,by rw[hde];exact dfd_1 _ 0,⟨by show _<=6;simp,.d3 hk⟩,by rw[hde];rfl,keep (by simpa using hlt _ _),.inl ⟨by simp only;omega,by simp[cnt]⟩,λh=>by omega⟩
  ·obtain⟨g',w',es,hgo,⟨rfl,rfl⟩,hg'⟩:=hstep w (RW.refl w);exact idle hgo (.d2 hg') rfl
 |d3 h=>
  rcases Goes.cases h with hstop|⟨m',rfl,hstep⟩
  ·obtain⟨_,hx⟩:=hstop w (RW.refl w);have hlt:=λm' d'=>lastTo hmode hi (.inr hst) (s':=2) (m':=m') (d':=d') (.inr rfl);obtain⟨_,_,rfl,rfl⟩:=hmode.isLast hi qo;simp only[hst] at hwg;have hwg:WgAt ty Wg w 1 0:=by simpa using hwg
   obtain⟨g',hgo,m₂,hk⟩:=hx hwg;exact⟨g',_,_,⟨2,m₂,1⟩,0,0,hgo,aside_setCell w (stA Wg) _,hwg.setSt 0,Kz _ rfl,by rw[hde];exact dfd_1 _ 0,⟨by show _<=6;simp,.d4 hk⟩,by rw[hde];rfl,keep (by simpa using hlt _ _),.inl ⟨by simp only;omega,by simp[cnt]⟩,λh=>by omega⟩
  ·obtain⟨g',w',es,hgo,⟨rfl,rfl⟩,hg'⟩:=hstep w (RW.refl w);exact idle hgo (.d3 hg') rfl
 |d4 h=>
  rcases Goes.cases h with hstop|⟨m',rfl,hstep⟩
  ·obtain⟨_,hmw,hx⟩:=hstop w (RW.refl w);obtain⟨hW3,hoth,rfl,rfl⟩:=hmode.isLast hi qo;simp only[hst] at hwg;have hwg:WgAt ty Wg w 0 0:=by simpa using hwg
   obtain⟨g',hgo,q,hq⟩:=hx hwg
   have hrun':g'.status=.running:=by
    cases q with
    |zero=>exact absurd hq.2 qd
    |succ q=>exact hq.elim (λx=>absurd x.2 qd) (λx=>x.1)
   refine⟨g',_,_,⟨1,q,1⟩,0,1,hgo,aside_setCell w (smA Wg) _,hwg.setSm 1,bk_sem,by rw[hde];exact dfd_sem _ 0,⟨by show _<=6;simp,.quit hq⟩,by rw[hde];simp[deafBehind,semEvents],λtag' ht hw=>?_,.inl ⟨by simp only;omega,by simp[cnt]⟩,λh=>by omega⟩;have hnb:=hw hmw hrun'
   have e3:tag'=.w3:=by
    rcases ht with rfl|⟨_,rfl⟩
    ·cases tag' <;> first|rfl|exact hW3.elim|exact absurd rfl hnb
    ·rfl
   subst e3
   exact .sema λa ha=>by
    by_cases e:a=i
    ·subst e;rw[upd_same]
    ·rw[upd_ne D _ e];exact hoth a ha e
  ·obtain⟨g',w',es,hgo,⟨rfl,rfl⟩,hg'⟩:=hstep w (RW.refl w);exact idle hgo (.d4 hg') rfl
 |quit h=>
  cases m with
  |zero=>rw[h.1] at hrun;cases hrun
  |succ q=>
   rcases h with ⟨hf,_⟩|⟨_,g',es,hmute,hstep,hq⟩
   ·rw[hf] at hrun;cases hrun
   ·refine⟨g',w,es,⟨1,q,deafBehind dd es⟩,st,sm,hstep w,.refl Wg w,hwg,λe he=>bk_of_mute (hmute e he),λjx e he=>.inl (by
     rcases bk_of_mute (Wg:=Wg) (hmute e (Array.mem_of_getElem? he)) with h1|h1|⟨a,wr,rfl,_⟩
     ·rw[ofEvent_loc_mark h1];rfl
     ·rw[ofEvent_loc_mark h1];rfl
     ·have:=hmute _ (Array.mem_of_getElem? he);simp[Event.mute] at this),⟨by show _<=6;simp,.quit hq⟩,by rw[hde],keep (same q _),.inr ⟨hst.symm,by rw[hfu]⟩,λ_=>⟨rfl,λe he=>by
     rcases bk_of_mute (Wg:=Wg) (hmute e he) with h1|h1|⟨a,wr,rfl,_⟩
     ·rw[ofEvent_loc_mark h1];rfl
     ·rw[ofEvent_loc_mark h1];rfl
     ·have:=hmute _ he;simp[Event.mute] at this⟩⟩
end
end W
end
section
open Go.RowKit
open Go.Conc hiding base G
open Go.ConcN
open Go.ConcR (KK WgAt stA smA rd wr mk Payload DC0 bk_of_mute ofEvent_loc_mark)
namespace W
def Said (Wg:Nat) (es:Array Event):Prop:=∀ e∈es,e=⟨.mark (.read (smA Wg)),false,true⟩∨e=⟨.mark (.write (smA Wg)),false,true⟩
def X0 (ty:TypeId) (Wg:Nat):Md:=⟨true,WgLive ty Wg,λ_ own w w' es own'=>w'=w∧own'=own∧Said Wg es,λ_ _ _ _ _=>False,λk=>k=Wg⟩
section
variable (P:Program) (ty:TypeId) (Wg:Nat) (S0:Bk)
abbrev GSt:=Bk->Goroutine->World->Prop
def Lv (X:GSt):GSt:=λown g w=>WgLive ty Wg w->X own g w
abbrev MR (X:GSt):GSt:=λown g w=>Run P (X0 ty Wg) S0 (Lv ty Wg X) own g w
section
variable (Next:GSt)
def SKe:GSt:=λown g w=>g.status=.running∧∃ g',stepG P true g w=.go g' w #[mk .enable]∧MR P ty Wg S0 Next own g' w
def SA1:GSt:=λown g w=>g.status=.running∧∀ v:Nat,v < 2147483647->WgAt ty Wg w (v*KK) 0->
 ∃ g',stepG P true g w=.go g' (w.setCell (stA Wg) (.int .u64 ((v+1)*KK))) #[rd (stA Wg),wr (stA Wg)]∧MR P ty Wg S0 (SKe P ty Wg S0 Next) own g' (w.setCell (stA Wg) (.int .u64 ((v+1)*KK)))
def SKd:GSt:=λown g w=>g.status=.running∧∃ g',stepG P true g w=.go g' w #[mk .disable]∧MR P ty Wg S0 (SA1 P ty Wg S0 Next) own g' w
end
section
variable (Wk:Nat->Nat->Goroutine->World->Prop) (Fin AnchW:GSt)
def SGo (ri:Nat) (Nx:GSt):GSt:=λown g w=>g.status=.running∧∃ g' child box,stepG P true g w=.spawn g' child w #[]∧child.status=.running∧own box∧Wk ri box child w∧Nx (λk=>own k∧k≠box) g' w
def WAcq:GSt:=λown g w=>g.status=.running∧∃ g',stepG P true g w=.go g' w #[mk (.acquire (stA Wg))]∧Fin own g' w
def WKe:GSt:=λown g w=>g.status=.running∧∃ g',stepG P true g w=.go g' w #[mk .enable]∧MR P ty Wg S0 (WAcq P Wg Fin) own g' w
def WW4:GSt:=λown g w=>g.status=.running∧(WgAt ty Wg w 0 0->∃ g',stepG P true g w=.go g' w #[rd (stA Wg)]∧MR P ty Wg S0 (WKe P ty Wg S0 Fin) own g' w)
def WW3:GSt:=λown g w=>g.status=.running∧g.offers=none∧((∃ st,WgAt ty Wg w st 0)->stepG P true g w=.go {g with status:=.blocked} w #[])∧
 (WgAt ty Wg w 0 1->∃ g',stepG P true g w=.go g' (w.setCell (smA Wg) (.int .u32 0)) (semEvents (smA Wg))∧MR P ty Wg S0 (WW4 P ty Wg S0 Fin) own g' (w.setCell (smA Wg) (.int .u32 0)))
def WW2 (vs:Nat):GSt:=λown g w=>g.status=.running∧∀ v:Nat,v < 2147483648->WgAt ty Wg w (v*KK) 0->
 (v=vs->∃ g',stepG P true g w=.go g' (w.setCell (stA Wg) (.int .u64 (v*KK+1))) #[rd (stA Wg),wr (stA Wg)]∧MR P ty Wg S0 (WW3 P ty Wg S0 Fin) own g' (w.setCell (stA Wg) (.int .u64 (v*KK+1))))∧
 (v≠vs->∃ g',stepG P true g w=.go g' w #[rd (stA Wg)]∧MR P ty Wg S0 AnchW own g' w)
def WW1:GSt:=λown g w=>g.status=.running∧∀ v:Nat,v < 2147483648->WgAt ty Wg w (v*KK) 0->∃ g',stepG P true g w=.go g' w #[rd (stA Wg)]∧
 (v=0->MR P ty Wg S0 (WKe P ty Wg S0 Fin) own g' w)∧(v≠0->MR P ty Wg S0 (WW2 P ty Wg S0 Fin AnchW v) own g' w)
def WKd:GSt:=λown g w=>g.status=.running∧∃ g',stepG P true g w=.go g' w #[mk .disable]∧MR P ty Wg S0 AnchW own g' w
variable (n b0:Nat)
def Spw:Nat->GSt
 |0=>MR P ty Wg S0 (WKd P ty Wg S0 AnchW)
 |r+1=>MR P ty Wg S0 (SKd P ty Wg S0 (SGo P Wk (n - (r+1) - b0) (Spw r)))
abbrev NG (r:Nat):GSt:=SGo P Wk (n - (r+1) - b0) (Spw P ty Wg S0 Wk AnchW n b0 r)
inductive MS:CTag->Nat->Nat->Tr->Bk->Goroutine->World->Prop
 |skd {r:Nat} {t:Tr} {own:Bk} {g:Goroutine} {w:World}:r < n->RunT P (X0 ty Wg) S0 (Lv ty Wg (SKd P ty Wg S0 (NG P ty Wg S0 Wk AnchW n b0 r))) t own g w->MS (.sp r 5) 0 (n - (r+1)) t own g w
 |sa1 {r:Nat} {t:Tr} {own:Bk} {g:Goroutine} {w:World}:r < n->RunT P (X0 ty Wg) S0 (Lv ty Wg (SA1 P ty Wg S0 (NG P ty Wg S0 Wk AnchW n b0 r))) t own g w->MS (.sp r 4) 1 (n - (r+1)) t own g w
 |ske {r:Nat} {t:Tr} {own:Bk} {g:Goroutine} {w:World}:r < n->RunT P (X0 ty Wg) S0 (Lv ty Wg (SKe P ty Wg S0 (NG P ty Wg S0 Wk AnchW n b0 r))) t own g w->MS (.sp r 3) 1 (n - (r+1)) t own g w
 |sgo {r:Nat} {t:Tr} {own:Bk} {g:Goroutine} {w:World}:r < n->RunT P (X0 ty Wg) S0 (Lv ty Wg (NG P ty Wg S0 Wk AnchW n b0 r)) t own g w->MS (.sp r 2) 0 (n - (r+1)) t own g w
 |kd {t:Tr} {own:Bk} {g:Goroutine} {w:World}:RunT P (X0 ty Wg) S0 (Lv ty Wg (WKd P ty Wg S0 AnchW)) t own g w->MS .kd 0 n t own g w
 |anch {t:Tr} {own:Bk} {g:Goroutine} {w:World}:RunT P (X0 ty Wg) S0 (Lv ty Wg AnchW) t own g w->MS .anch 1 n t own g w
 |w1 {t:Tr} {own:Bk} {g:Goroutine} {w:World}:RunT P (X0 ty Wg) S0 (Lv ty Wg (WW1 P ty Wg S0 Fin AnchW)) t own g w->MS .w1 1 n t own g w
 |w2 {vs:Nat} {t:Tr} {own:Bk} {g:Goroutine} {w:World}:RunT P (X0 ty Wg) S0 (Lv ty Wg (WW2 P ty Wg S0 Fin AnchW vs)) t own g w->MS (.w2 vs) 1 n t own g w
 |w3 {t:Tr} {own:Bk} {g:Goroutine} {w:World}:RunT P (X0 ty Wg) S0 (Lv ty Wg (WW3 P ty Wg S0 Fin)) t own g w->MS .w3 1 n t own g w
 |blk {own:Bk} {g:Goroutine} {w:World}:g.status=.running->g.offers=none->(∀ w1,Rly own S0 w w1->Lv ty Wg (WW3 P ty Wg S0 Fin) own g w1)->MS .blk 1 n .leaf own {g with status:=.blocked} w
 |w4 {t:Tr} {own:Bk} {g:Goroutine} {w:World}:RunT P (X0 ty Wg) S0 (Lv ty Wg (WW4 P ty Wg S0 Fin)) t own g w->MS .w4 1 n t own g w
 |ke {t:Tr} {own:Bk} {g:Goroutine} {w:World}:RunT P (X0 ty Wg) S0 (Lv ty Wg (WKe P ty Wg S0 Fin)) t own g w->MS .ke 1 n t own g w
 |acq {t:Tr} {own:Bk} {g:Goroutine} {w:World}:RunT P (X0 ty Wg) S0 (Lv ty Wg (WAcq P Wg Fin)) t own g w->MS .acq 0 n t own g w
structure MStep (j:Nat) (D:Nat->ConcN.WD) (tag:CTag) (d:Nat) (own:Bk) (g:Goroutine) (w:World) (g':Goroutine) (w':World) (es:Array Event) (tag':CTag) (d':Nat) (t':Tr) (st' sm':Int):Prop where
 go:stepG P true g w=.go g' w' es
 aside:Aside Wg w w'
 wg:WgAt ty Wg w' st' sm'
 bk:∀ e∈es,ConcR.Bk Wg e
 sit:MS P ty Wg S0 Wk Fin AnchW n b0 tag' d' j t' own g' w'
 deaf:deafBehind d es=d'
 mode:ConcN.Mode j D tag' st' sm'
 lt:phi n (Vc j D) tag' < phi n (Vc j D) tag∨(tag=.w3∧tag'=.blk∧w'=w∧t'=.leaf)
end
end
section
variable {P:Program} {ty:TypeId} {Wg:Nat} {S0:Bk} {Wk:Nat->Nat->Goroutine->World->Prop} {Fin AnchW:GSt} {n b0 j d:Nat} {D:Nat->ConcN.WD} {tag:CTag} {t:Tr} {own:Bk} {g:Goroutine} {w w1:World} {st sm:Int}
def pm_noSp:∀ sh own g w K,¬(X0 ty Wg).Sp sh own g w K:=λ_ _ _ _ _ h=>h
def MR.tree {X:GSt} (h:MR P ty Wg S0 X own g w):∃ t,RunT P (X0 ty Wg) S0 (Lv ty Wg X) t own g w:=Run.tree pm_noSp h
def MS.rely (h:MS P ty Wg S0 Wk Fin AnchW n b0 tag d j t own g w) (hr:Rly own S0 w w1):MS P ty Wg S0 Wk Fin AnchW n b0 tag d j t own g w1:=by
 cases h with
 |skd hn h=>exact .skd hn (h.rely hr)
 |sa1 hn h=>exact .sa1 hn (h.rely hr)
 |ske hn h=>exact .ske hn (h.rely hr)
 |sgo hn h=>exact .sgo hn (h.rely hr)
 |kd h=>exact .kd (h.rely hr)
 |anch h=>exact .anch (h.rely hr)
 |w1 h=>exact .w1 (h.rely hr)
 |w2 h=>exact .w2 (h.rely hr)
 |w3 h=>exact .w3 (h.rely hr)
 |blk h1 h2 h=>exact .blk h1 h2 λw2 k=>h w2 (hr.trans k)
 |w4 h=>exact .w4 (h.rely hr)
 |ke h=>exact .ke (h.rely hr)
 |acq h=>exact .acq (h.rely hr)
def RunT.leaf {X:GSt} (h:RunT P (X0 ty Wg) S0 (Lv ty Wg X) .leaf own g w) (hl:WgLive ty Wg w):X own g w:=by
 cases h with
 |stop h=>exact h w (Rly.refl _ _ _) hl
def allquit_of (ho:OpenSt j D) (h:Vc j D=0):AllQuit j D:=λi hi=>by
 have:=le_sumTo (f:=λx=>cnt (D x)) hi;have h2:=ho i hi;simp only[Vc] at h;have:cnt (D i)=0:=qo;simp only[cnt] at this;split at this <;> omega
def main_books [Payload] (hwg:WgAt ty Wg w st sm) (hmode:ConcN.Mode j D tag st sm) (hb:Vc j D < 1000000000) (hVn:Vc j D<=n) (h:MS P ty Wg S0 Wk Fin AnchW n b0 tag d j .leaf own g w) (hns:∀ r,tag≠.sp r 2) (hna:tag≠.anch) (hnb:tag≠.blk) (hnq:tag≠.acq) :
  g.status=.running∧∃ g' w' es tag' d' t' st' sm',MStep P ty Wg S0 Wk Fin AnchW n b0 j D tag d own g w g' w' es tag' d' t' st' sm':=by
 have hl:WgLive ty Wg w:=⟨_,_,hwg⟩
 have one:∀ {m:Mark},m=.disable∨m=.enable->∀ e∈#[mk m],ConcR.Bk Wg e:=λ{m} hm e he=>by
  simp at he;subst he;rcases hm with rfl|rfl
  ·exact .inl rfl
  ·exact .inr (.inl rfl)
 cases h with
 |skd hn h=>
  obtain⟨h1,g',h2,h3⟩:=h.leaf hl;obtain⟨t',h3⟩:=h3.tree;refine⟨h1,g',w,_,_,_,t',st,sm,h2,.refl Wg w,hwg,one (.inl rfl),.sa1 hn h3,rfl,?_,.inl (by simp only[phi];omega)⟩;cases hmode with
  |opn k1 k2 k3=>exact .opn trivial k2 λvs e=>by cases e
  |reg k1 _ _=>exact k1.elim
  |last L k1 _ _ _=>exact k1.elim
  |fin k1 _=>exact k1.elim
 |sa1 hn h=>
  obtain⟨h1,h2⟩:=h.leaf hl;cases hmode with
  |opn k1 k2 k3=>
   rename_i r
   have hwg':WgAt ty Wg w ((Vc (n - (r+1)) D:Nat)*KK) 0:=by simpa [pend] using hwg
   obtain⟨g',h3,h4⟩:=h2 (Vc (n - (r+1)) D) qo hwg';obtain⟨t',h4⟩:=h4.tree;refine⟨h1,g',_,_,_,_,t',_,_,h3,aside_setCell w (stA Wg) _,hwg.setSt _,bk_rw,.ske hn h4,rfl,?_,.inl (by simp only[phi];omega)⟩;have:=ConcN.Mode.opn (j:=n - (r+1)) (D:=D) (tag:=.sp r 3) trivial k2 λvs e=>by cases e
   simpa [pend] using this
  |reg k1 _ _=>exact k1.elim
  |last L k1 _ _ _=>exact k1.elim
  |fin k1 _=>exact k1.elim
 |ske hn h=>
  obtain⟨h1,g',h2,h3⟩:=h.leaf hl;obtain⟨t',h3⟩:=h3.tree;refine⟨h1,g',w,_,_,_,t',st,sm,h2,.refl Wg w,hwg,one (.inr rfl),.sgo hn h3,rfl,?_,.inl (by simp only[phi];omega)⟩;cases hmode with
  |opn k1 k2 k3=>exact .opn trivial k2 λvs e=>by cases e
  |reg k1 _ _=>exact k1.elim
  |last L k1 _ _ _=>exact k1.elim
  |fin k1 _=>exact k1.elim
 |sgo hn h=>exact absurd rfl (hns _)
 |kd h=>
  obtain⟨h1,g',h2,h3⟩:=h.leaf hl;obtain⟨t',h3⟩:=h3.tree;refine⟨h1,g',w,_,_,_,t',st,sm,h2,.refl Wg w,hwg,one (.inl rfl),.anch h3,rfl,?_,.inl (by simp only[phi];omega)⟩;cases hmode with
  |opn k1 k2 k3=>exact .opn trivial k2 λvs e=>by cases e
  |reg k1 _ _=>exact k1.elim
  |last L k1 _ _ _=>exact k1.elim
  |fin k1 _=>exact k1.elim
 |anch h=>exact absurd rfl hna
 |w1 h=>
  obtain⟨h1,h2⟩:=h.leaf hl;cases hmode with
  |opn k1 k2 k3=>
   have hwg':WgAt ty Wg w ((Vc n D:Nat)*KK) 0:=by simpa [pend] using hwg
   obtain⟨g',h3,h4,h5⟩:=h2 (Vc n D) qo hwg';by_cases hv:Vc n D=0
   ·obtain⟨t',h4⟩:=(h4 hv).tree;refine⟨h1,g',w,_,_,_,t',0,0,h3,.refl Wg w,by simpa [hv] using hwg',Kz _ rfl,.ke h4,rfl,.fin trivial (allquit_of k2 hv),.inl (by simp only[phi];omega)⟩
   ·obtain⟨t',h5⟩:=(h5 hv).tree;refine⟨h1,g',w,_,_,_,t',_,0,h3,.refl Wg w,hwg',Kz _ rfl,.w2 h5,rfl,?_,.inl (by simp only[phi];omega)⟩;have:=ConcN.Mode.opn (j:=n) (D:=D) (tag:=.w2 (Vc n D)) trivial k2 λvs e=>by cases e;exact⟨Nat.le_refl _,by omega⟩
    simpa [pend] using this
  |reg k1 _ _=>exact k1.elim
  |last L k1 _ _ _=>exact k1.elim
  |fin k1 _=>exact k1.elim
 |w2 h=>
  rename_i vs
  obtain⟨h1,h2⟩:=h.leaf hl;cases hmode with
  |opn k1 k2 k3=>
   obtain⟨k4,k5⟩:=k3 vs rfl;have hwg':WgAt ty Wg w ((Vc n D:Nat)*KK) 0:=by simpa [pend] using hwg
   obtain⟨h3,h4⟩:=h2 (Vc n D) qo hwg';by_cases hv:Vc n D=vs
   ·obtain⟨g',h3,h5⟩:=h3 hv;obtain⟨t',h5⟩:=h5.tree;exact⟨h1,g',_,_,_,_,t',_,_,h3,aside_setCell w (stA Wg) _,hwg'.setSt _,bk_rw,.w3 h5,rfl,.reg trivial k2 qo,.inl (by simp only[phi];omega)⟩
   ·obtain⟨g',h4,h5⟩:=h4 hv;obtain⟨t',h5⟩:=h5.tree;refine⟨h1,g',w,_,_,_,t',_,_,h4,.refl Wg w,hwg',Kz _ rfl,.anch h5,rfl,?_,.inl (by simp only[phi];omega)⟩;have:=ConcN.Mode.opn (j:=n) (D:=D) (tag:=.anch) trivial k2 λvs e=>by cases e
    simpa [pend] using this
  |reg k1 _ _=>exact k1.elim
  |last L k1 _ _ _=>exact k1.elim
  |fin k1 _=>exact k1.elim
 |w3 h=>
  have hst:=h;obtain⟨h1,h2,h3,h4⟩:=h.leaf hl
  have hblk:(∃ st,WgAt ty Wg w st 0)->ConcN.Mode n D .blk st sm->g.status=.running∧∃ g' w' es tag' d' t' st' sm',MStep P ty Wg S0 Wk Fin AnchW n b0 n D .w3 1 own g w g' w' es tag' d' t' st' sm':=λhx hm=>
   ⟨h1,_,w,#[],.blk,1,.leaf,st,sm,h3 hx,.refl Wg w,hwg,by simp,.blk h1 h2 (by cases hst with|stop h=>exact h),rfl,hm,.inr ⟨rfl,rfl,rfl,rfl⟩⟩
  cases hmode with
  |opn k1 _ _=>exact k1.elim
  |reg k1 k2 k3=>exact hblk ⟨_,hwg⟩ (.reg trivial k2 k3)
  |last L k1 k2 k3 k4=>exact hblk ⟨_,hwg⟩ (.last L trivial k2 k3 k4)
  |sema k2=>
   obtain⟨g',h5,h6⟩:=h4 hwg;obtain⟨t',h6⟩:=h6.tree;exact⟨h1,g',_,_,_,_,t',_,_,h5,aside_setCell w (smA Wg) _,hwg.setSm 0,bk_sem,.w4 h6,by simp[deafBehind,semEvents],.fin trivial k2,.inl (by simp only[phi];omega)⟩
  |fin k1 _=>exact k1.elim
 |blk _ _ h=>exact absurd rfl hnb
 |w4 h=>
  obtain⟨h1,h2⟩:=h.leaf hl;cases hmode with
  |opn k1 _ _=>exact k1.elim
  |reg k1 _ _=>exact k1.elim
  |last L k1 _ _ _=>exact k1.elim
  |fin k1 k2=>
   obtain⟨g',h3,h4⟩:=h2 hwg;obtain⟨t',h4⟩:=h4.tree;exact⟨h1,g',w,_,_,_,t',0,0,h3,.refl Wg w,hwg,Kz _ rfl,.ke h4,rfl,.fin trivial k2,.inl (by simp only[phi];omega)⟩
 |ke h=>
  obtain⟨h1,g',h2,h3⟩:=h.leaf hl;obtain⟨t',h3⟩:=h3.tree;cases hmode with
  |opn k1 _ _=>exact k1.elim
  |reg k1 _ _=>exact k1.elim
  |last L k1 _ _ _=>exact k1.elim
  |fin k1 k2=>exact⟨h1,g',w,_,_,_,t',0,0,h2,.refl Wg w,hwg,one (.inr rfl),.acq h3,rfl,.fin trivial k2,.inl (by simp only[phi];omega)⟩
 |acq h=>exact absurd rfl hnq
end
end W
end
end Go.Proofs.YtcpaopfdiahnnaaGreat
