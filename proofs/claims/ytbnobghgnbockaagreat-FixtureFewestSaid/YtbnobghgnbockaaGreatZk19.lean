/- Lemmas. Conditions: none. -/
import Derived.Test.YtbnobghgnbockaaGreatZk18
import Derived.Conc.CrowdStepW
import Derived.Conc.WgGenN3
set_option linter.all false
set_option maxHeartbeats 0
set_option maxRecDepth 100000
namespace Go.Proofs.YtbnobghgnbockaaGreat
open Go.RowKit
open Go.Conc hiding base G
open Go.ConcN
section
open Go.ConcR (KK WgAt stA smA rd wr mk Payload DC0 bk_of_mute ofEvent_loc_mark)
namespace W
def Dfd(d:Nat)(es:Array Event):Prop:=∀j e,es[j]?=some e->(MemAct.ofEvent e).touch?=none\/0<deafBehind d (es.extract 0 j)
section
variable [Payload](P:nh)(ty:nl)(Wg Bx:Nat)(v0:nA)
abbrev Bks(s m d:Nat)(g:Goroutine)(w:nm):Prop:=s<=6/\WSit P ty Wg Bx 1 (λ_ _=>False) (λ_ _=>False) 0 1 v0 s m d g w
structure BStep(j i:Nat)(D:Nat->ConcN.WD)(tag:CTag)(g:Goroutine)(w:nm)(g':Goroutine)(w':nm)(es:Array Event)(x:ConcN.WD)(st' sm':Int):Prop where
 go:stepG P false g w=.go g' w' es
 aside:Aside Wg w w'
 wg:WgAt ty Wg w' st' sm'
 bk:∀e∈es,ConcR.Bk Wg e
 dfd:Dfd (D i).deaf es
 sit:Bks P ty Wg Bx v0 x.stage x.fuel x.deaf g' w'
 deaf:deafBehind (D i).deaf es=x.deaf
 mode:∀tag',(tag'=tag\/(tag=.blk/\tag'=.w3))->(mayWake P g=true->g'.status=.running->tag'≠.blk)->ConcN.Mode j (upd D i x) tag' st' sm'
 lt:(x.stage<(D i).stage/\cnt x<=cnt (D i))\/(x.stage=(D i).stage/\x.fuel+1=(D i).fuel)
 one:(D i).stage=1->x.stage=1/\∀e∈es,(MemAct.ofEvent e).touch?=none
end
section
variable [Payload]{P:nh}{ty:nl}{Wg Bx:Nat}{v0:nA}{j i:Nat}{D:Nat->ConcN.WD}{tag:CTag}{g:Goroutine}{w:nm}{st sm:Int}
def dfd_1(e:Event)(d:Nat):Dfd (d+1) #[e]:=λjx x hx=>by
 match jx,hx with
 |0,_=>exact .inr (by simp[deafBehind])
 |jx+1,hx=>simp at hx
def dfd_mark(m:Mark)(d:Nat)(h:((MemAct.ofEvent (mk m)).touch?=none)):Dfd d #[mk m]:=λjx x hx=>by
 have:=bX hx;simp at this;subst this;exact .inl h
def dfd_rw(a:Addr)(d:Nat):Dfd (d+1) #[rd a,wr a]:=λjx e he=>by
 match jx,he with
 |0,_=>exact .inr (by simp[deafBehind])
 |1,_=>exact .inr (by simp[deafBehind,rd])
 |jx+2,he=>simp at he
def dfd_sem(a:Addr)(d:Nat):Dfd (d+1) (semEvents a):=λjx e he=>by
 match jx,he with
 |0,he=>simp[semEvents] at he;subst he;exact .inl rfl
 |1,_=>exact .inr (by simp[deafBehind,semEvents])
 |2,_=>exact .inr (by simp[deafBehind,semEvents])
 |3,he=>simp[semEvents] at he;subst he;exact .inl rfl
 |jx+4,he=>simp[semEvents] at he
def bk_sem:∀e∈semEvents (smA Wg),ConcR.Bk Wg e:=λe he=>by
 simp[semEvents] at he;rcases he with rfl|rfl|rfl|rfl
 .exact .inl rfl
 .exact bk_cell _ _ rfl
 .exact bk_cell _ _ rfl
 .exact .inr (.inl rfl)
def bk_rw:∀e∈#[rd (stA Wg),wr (stA Wg)],ConcR.Bk Wg e:=λe he=>by
 simp at he;rcases he with rfl|rfl<;>exact bk_cell _ _ rfl
def UB{wr':Bool}(a:Addr)(h:a.block=Wg):∀e∈#[(⟨.cell a,wr',true⟩:Event)],ConcR.Bk Wg e:=λe he=>by
 simp at he;subst he;exact bk_cell _ _ h
def dfd_none(d:Nat):Dfd d #[]:=λjx e he=>by simp at he
def G8{q d:Nat}(h:OpenSt j D):OpenSt j (upd D i ⟨1,q,d⟩):=λa ha=>by
 by_cases e:a=i
 .subst e;rw[upd_same];simp
 .rw[upd_ne D _ e];exact h a ha
def lastTo(hm:ConcN.Mode j D tag st sm)(hi:i<j)(h:(D i).stage=4\/(D i).stage=3){s' m' d':Nat}(hs:s'=3\/s'=2):ConcN.Mode j (upd D i ⟨s',m',d'⟩) tag (if s'=2 then 0 else 1) 0:=by
 obtain⟨h1,h2,_,_⟩:=hm.isLast hi qo;have:=ConcN.Mode.last (j:=j) (D:=upd D i ⟨s',m',d'⟩) (tag:=tag) i h1 hi (by rw[upd_same];simp only;omega) (λa ha e=>by rw[upd_ne D _ e];exact h2 a ha e)
 rwa [upd_same] at this
def book_step(hwg:WgAt ty Wg w st sm)(hmode:ConcN.Mode j D tag st sm)(hi:i<j)(hb:Vc j D+pend tag<2147483647)(hs:Bks P ty Wg Bx v0 (D i).stage (D i).fuel (D i).deaf g w)(hrun:g.status=.running) :
  ∃g' w' es x st' sm',BStep P ty Wg Bx v0 j i D tag g w g' w' es x st' sm':=by
 obtain⟨h6,hs⟩:=hs;have keep:∀{x:ConcN.WD} {st' sm':Int} {g':Goroutine},ConcN.Mode j (upd D i x) tag st' sm'->∀tag',(tag'=tag\/(tag=.blk/\tag'=.w3))->(mayWake P g=true->g'.status=.running->tag'≠.blk)->ConcN.Mode j (upd D i x) tag' st' sm':=λh tag' ht _=>h.retag ht;have same:∀m' d',ConcN.Mode j (upd D i ⟨(D i).stage,m',d'⟩) tag st sm:=λm' d'=>hmode.same m' d';generalize hst:(D i).stage=s at hs;generalize hfu:(D i).fuel=m at hs;generalize hde:(D i).deaf=dd at hs;rw[hst] at same h6
 have idle:∀{g':Goroutine} {m':Nat},stepG P false g w=.go g' w #[]->WSit P ty Wg Bx 1 (λ_ _=>False) (λ_ _=>False) 0 1 v0 s m' dd g' w->m'+1=m->∃g' w' es x st' sm',BStep P ty Wg Bx v0 j i D tag g w g' w' es x st' sm':=λ{g' m'} hgo hs' hm=>
  ⟨g',w,#[],⟨s,m',dd⟩,st,sm,hgo,.refl Wg w,hwg,by simp,dfd_none _,⟨h6,hs'⟩,hde,keep (same m' dd),.inr ⟨hst.symm,by rw[hfu];exact hm⟩,λh=>⟨hst.symm.trans h,by simp⟩⟩
 cases hs with
 |r0 h=>omega
 |k1 h=>
  rcases Goes.cases h with hstop|⟨m',rfl,hstep⟩
  .obtain⟨_,g',hgo,m₂,hk⟩:=hstop w (RW.refl w);exact⟨g',w,_,⟨5,m₂,1⟩,st,sm,hgo,.refl Wg w,hwg,(by intro e he;simp at he;subst he;exact .inl rfl),dfd_mark _ _ rfl,⟨by show _<=6;simp,.d1 hk⟩,by rw[hde];rfl,keep (hmode.counted hi qo (.inr rfl) _ _),.inl ⟨by simp only;omega,by simp[cnt,hst]⟩,λh=>by omega⟩
  .obtain⟨g',w',es,hgo,⟨rfl,rfl⟩,hg'⟩:=hstep w (RW.refl w);exact idle hgo (.k1 hg') rfl
 |d1 h=>
  rcases Goes.cases h with hstop|⟨m',rfl,hstep⟩
  .obtain⟨_,hall⟩:=hstop w (RW.refl w);have hc1:cnt (D i)=1:=by simp[cnt,hst]
   have hV1:1<=Vc j D:=by have:=le_sumTo (f:=λx=>cnt (D x)) hi;simp only[Vc];omega
   have hq0:∀q,cnt (⟨1,q,1⟩:ConcN.WD)=0:=λ_=>rfl;cases hmode with
   |opn h1 h2 h3=>
    obtain⟨v,hv⟩:∃v,Vc j D+pend tag=v+1:=⟨Vc j D+pend tag-1,by omega⟩
    rw[hv] at hwg;obtain⟨g',hgo,_,hq⟩:=hall v 0 qo qo (by simpa using hwg);obtain⟨q,hq⟩:=hq qo;have hv':Vc j (upd D i ⟨1,q,1⟩)+pend tag=v:=by have:=Vc_upd D (⟨1,q,1⟩:ConcN.WD) hi;have:=hq0 q;omega
    refine⟨g',_,_,⟨1,q,1⟩,_,_,hgo,aside_setCell w (stA Wg) _,hwg.setSt _,bk_rw,by rw[hde];exact dfd_rw _ 0,⟨by show _<=6;simp,.quit hq⟩,by rw[hde];rfl,keep ?_,.inl ⟨by simp only;omega,by simp[cnt]⟩,λh=>by omega⟩;have e:((v:Nat):Int)*KK+((0:Nat):Int)=((Vc j (upd D i ⟨1,q,1⟩)+pend tag:Nat):Int)*KK:=by rw[hv'];simp
    rw[e];exact .opn h1 (G8 h2) λvs ev=>by have:=h3 vs ev;omega
   |reg h1 h2 h3=>
    obtain⟨v,hv⟩:∃v,Vc j D=v+1:=⟨Vc j D-1,by omega⟩
    rw[hv] at hwg;obtain⟨g',hgo,hl,hq⟩:=hall v 1 qo qo (by simpa using hwg);by_cases hv0:v=0
    .subst hv0;obtain⟨m₂,hk⟩:=hl ⟨rfl,rfl⟩;refine⟨g',_,_,⟨4,m₂,1⟩,_,_,hgo,aside_setCell w (stA Wg) _,hwg.setSt _,bk_rw,by rw[hde];exact dfd_rw _ 0,⟨by show _<=6;simp,.d2 hk⟩,by rw[hde];rfl,keep ?_,.inl ⟨by simp only;omega,by simp[cnt]⟩,λh=>by omega⟩
     have hoth:∀a,a<j->a≠i->(D a).stage=1:=λa ha e=>by
      have c0:=others_uncounted hi hv hc1 a ha e;have:=h2 a ha;simp only[cnt] at c0;split at c0<;>omega
     have:=ConcN.Mode.last (j:=j) (D:=upd D i ⟨4,m₂,1⟩) (tag:=tag) i h1 hi (by rw[upd_same];simp) (λa ha e=>by rw[upd_ne D _ e];exact hoth a ha e);rw[upd_same] at this;simpa using this
    .obtain⟨q,hq⟩:=hq qo;have hv':Vc j (upd D i ⟨1,q,1⟩)=v:=by have:=Vc_upd D (⟨1,q,1⟩:ConcN.WD) hi;have:=hq0 q;omega
     refine⟨g',_,_,⟨1,q,1⟩,_,_,hgo,aside_setCell w (stA Wg) _,hwg.setSt _,bk_rw,by rw[hde];exact dfd_rw _ 0,⟨by show _<=6;simp,.quit hq⟩,by rw[hde];rfl,keep ?_,.inl ⟨by simp only;omega,by simp[cnt]⟩,λh=>by omega⟩;have e:((v:Nat):Int)*KK+((1:Nat):Int)=((Vc j (upd D i ⟨1,q,1⟩):Nat):Int)*KK+1:=by rw[hv'];simp
     rw[e];exact .reg h1 (G8 h2) qo
   |last L _ h2 h3 h4=>
    by_cases e:i=L
    .subst e;omega
    .have:=h4 i hi e;omega
   |sema h2=>have:=h2 i hi;omega
   |fin _ h2=>have:=h2 i hi;omega
  .obtain⟨g',w',es,hgo,⟨rfl,rfl⟩,hg'⟩:=hstep w (RW.refl w);exact idle hgo (.d1 hg') rfl
 |d2 h=>
  rcases Goes.cases h with hstop|⟨m',rfl,hstep⟩
  .obtain⟨_,hx⟩:=hstop w (RW.refl w);have hlt:=λm' d'=>lastTo hmode hi (.inl hst) (s':=3) (m':=m') (d':=d') (.inl rfl);obtain⟨_,_,rfl,rfl⟩:=hmode.isLast hi qo;simp only[hst] at hwg;have hwg:WgAt ty Wg w 1 0:=by simpa using hwg
   obtain⟨g',hgo,m₂,hk⟩:=hx hwg;exact⟨g',w,_,⟨3,m₂,1⟩,1,0,hgo,.refl Wg w,hwg,UB _ rfl,by rw[hde];exact dfd_1 _ 0,⟨by show _<=6;simp,.d3 hk⟩,by rw[hde];rfl,keep (by simpa using hlt _ _),.inl ⟨by simp only;omega,by simp[cnt]⟩,λh=>by omega⟩
  .obtain⟨g',w',es,hgo,⟨rfl,rfl⟩,hg'⟩:=hstep w (RW.refl w);exact idle hgo (.d2 hg') rfl
 |d3 h=>
  rcases Goes.cases h with hstop|⟨m',rfl,hstep⟩
  .obtain⟨_,hx⟩:=hstop w (RW.refl w);have hlt:=λm' d'=>lastTo hmode hi (.inr hst) (s':=2) (m':=m') (d':=d') (.inr rfl);obtain⟨_,_,rfl,rfl⟩:=hmode.isLast hi qo;simp only[hst] at hwg;have hwg:WgAt ty Wg w 1 0:=by simpa using hwg
   obtain⟨g',hgo,m₂,hk⟩:=hx hwg;exact⟨g',_,_,⟨2,m₂,1⟩,0,0,hgo,aside_setCell w (stA Wg) _,hwg.setSt 0,UB _ rfl,by rw[hde];exact dfd_1 _ 0,⟨by show _<=6;simp,.d4 hk⟩,by rw[hde];rfl,keep (by simpa using hlt _ _),.inl ⟨by simp only;omega,by simp[cnt]⟩,λh=>by omega⟩
  .obtain⟨g',w',es,hgo,⟨rfl,rfl⟩,hg'⟩:=hstep w (RW.refl w);exact idle hgo (.d3 hg') rfl
 |d4 h=>
  rcases Goes.cases h with hstop|⟨m',rfl,hstep⟩
  .obtain⟨_,hmw,hx⟩:=hstop w (RW.refl w);obtain⟨hW3,hoth,rfl,rfl⟩:=hmode.isLast hi qo;simp only[hst] at hwg;have hwg:WgAt ty Wg w 0 0:=by simpa using hwg
   obtain⟨g',hgo,q,hq⟩:=hx hwg
   have hrun':g'.status=.running:=by
    cases q with
    |zero=>exact absurd hq.2 qd
    |succ q=>exact hq.elim (λx=>absurd x.2 qd) (λx=>x.1)
   refine⟨g',_,_,⟨1,q,1⟩,0,1,hgo,aside_setCell w (smA Wg) _,hwg.setSm 1,bk_sem,by rw[hde];exact dfd_sem _ 0,⟨by show _<=6;simp,.quit hq⟩,by rw[hde];simp[deafBehind,semEvents],λtag' ht hw=>?_,.inl ⟨by simp only;omega,by simp[cnt]⟩,λh=>by omega⟩;have hnb:=hw hmw hrun'
   have e3:tag'=.w3:=by
    rcases ht with rfl|⟨_,rfl⟩
    .cases tag'<;>first|rfl|exact hW3.elim|exact absurd rfl hnb
    .rfl
   subst e3
   exact .sema λa ha=>by
    by_cases e:a=i
    .subst e;rw[upd_same]
    .rw[upd_ne D _ e];exact hoth a ha e
  .obtain⟨g',w',es,hgo,⟨rfl,rfl⟩,hg'⟩:=hstep w (RW.refl w);exact idle hgo (.d4 hg') rfl
 |quit h=>
  cases m with
  |zero=>rw[h.1] at hrun;cases hrun
  |succ q=>
   rcases h with ⟨hf,_⟩|⟨_,g',es,hmute,hstep,hq⟩
   .rw[hf] at hrun;cases hrun
   .refine⟨g',w,es,⟨1,q,deafBehind dd es⟩,st,sm,hstep w,.refl Wg w,hwg,λe he=>bk_of_mute (hmute e he),λjx e he=>.inl (by
     rcases bk_of_mute (Wg:=Wg) (hmute e (bX he)) with h1|h1|⟨a,wr,rfl,_⟩
     .rw[ofEvent_loc_mark h1];rfl
     .rw[ofEvent_loc_mark h1];rfl
     .have:=hmute _ (bX he);simp[Event.mute] at this),⟨by show _<=6;simp,.quit hq⟩,by rw[hde],keep (same q _),.inr ⟨hst.symm,by rw[hfu]⟩,λ_=>⟨rfl,λe he=>by
     rcases bk_of_mute (Wg:=Wg) (hmute e he) with h1|h1|⟨a,wr,rfl,_⟩
     .rw[ofEvent_loc_mark h1];rfl
     .rw[ofEvent_loc_mark h1];rfl
     .have:=hmute _ he;simp[Event.mute] at this⟩⟩
end
end W
namespace W
def Said(Wg:Nat)(es:Array Event):Prop:=∀e∈es,e=⟨.mark (.read (smA Wg)),false,true⟩\/e=⟨.mark (.write (smA Wg)),false,true⟩
def YW(ty:nl)(Wg:Nat):Md:=⟨true,WgLive ty Wg,λ_ own w w' es own'=>w'=w/\own'=own/\Said Wg es,λ_ _ _ _ _=>False,λk=>k=Wg⟩
section
variable (P:nh)(ty:nl)(Wg:Nat)(S0:Bk)
abbrev GSt:=Bk->Goroutine->nm->Prop
def Lv(X:GSt):GSt:=λown g w=>WgLive ty Wg w->X own g w
abbrev MR(X:GSt):GSt:=λown g w=>Run P (YW ty Wg) S0 (Lv ty Wg X) own g w
section
variable (Next:GSt)
def SKe:GSt:=λown g w=>g.status=.running/\∃g',stepG P true g w=.go g' w #[mk .enable]/\MR P ty Wg S0 Next own g' w
def SA1:GSt:=λown g w=>g.status=.running/\∀v:Nat,v<2147483647->WgAt ty Wg w (v*KK) 0->
 ∃g',stepG P true g w=.go g' (w.setCell (stA Wg) (.int .u64 ((v+1)*KK))) #[rd (stA Wg),wr (stA Wg)]/\MR P ty Wg S0 (SKe P ty Wg S0 Next) own g' (w.setCell (stA Wg) (.int .u64 ((v+1)*KK)))
def SKd:GSt:=λown g w=>g.status=.running/\∃g',stepG P true g w=.go g' w #[mk .disable]/\MR P ty Wg S0 (SA1 P ty Wg S0 Next) own g' w
end
section
variable (Wk:Nat->Nat->Goroutine->nm->Prop)(Fin AnchW:GSt)
def SGo(ri:Nat)(Nx:GSt):GSt:=λown g w=>g.status=.running/\∃g' child box,stepG P true g w=.spawn g' child w #[]/\child.status=.running/\own box/\Wk ri box child w/\Nx (λk=>own k/\k≠box) g' w
def WAcq:GSt:=λown g w=>g.status=.running/\∃g',stepG P true g w=.go g' w #[mk (.acquire (stA Wg))]/\Fin own g' w
def WKe:GSt:=λown g w=>g.status=.running/\∃g',stepG P true g w=.go g' w #[mk .enable]/\MR P ty Wg S0 (WAcq P Wg Fin) own g' w
def WW4:GSt:=λown g w=>g.status=.running/\(WgAt ty Wg w 0 0->∃g',stepG P true g w=.go g' w #[rd (stA Wg)]/\MR P ty Wg S0 (WKe P ty Wg S0 Fin) own g' w)
def WW3:GSt:=λown g w=>g.status=.running/\g.offers=none/\((∃st,WgAt ty Wg w st 0)->stepG P true g w=.go {g with status:=.blocked} w #[])/\
 (WgAt ty Wg w 0 1->∃g',stepG P true g w=.go g' (w.setCell (smA Wg) (.int .u32 0)) (semEvents (smA Wg))/\MR P ty Wg S0 (WW4 P ty Wg S0 Fin) own g' (w.setCell (smA Wg) (.int .u32 0)))
def WW2(vs:Nat):GSt:=λown g w=>g.status=.running/\∀v:Nat,v<2147483648->WgAt ty Wg w (v*KK) 0->
 (v=vs->∃g',stepG P true g w=.go g' (w.setCell (stA Wg) (.int .u64 (v*KK+1))) #[rd (stA Wg),wr (stA Wg)]/\MR P ty Wg S0 (WW3 P ty Wg S0 Fin) own g' (w.setCell (stA Wg) (.int .u64 (v*KK+1))))/\
 (v≠vs->∃g',stepG P true g w=.go g' w #[rd (stA Wg)]/\MR P ty Wg S0 AnchW own g' w)
def WW1:GSt:=λown g w=>g.status=.running/\∀v:Nat,v<2147483648->WgAt ty Wg w (v*KK) 0->∃g',stepG P true g w=.go g' w #[rd (stA Wg)]/\
 (v=0->MR P ty Wg S0 (WKe P ty Wg S0 Fin) own g' w)/\(v≠0->MR P ty Wg S0 (WW2 P ty Wg S0 Fin AnchW v) own g' w)
def WKd:GSt:=λown g w=>g.status=.running/\∃g',stepG P true g w=.go g' w #[mk .disable]/\MR P ty Wg S0 AnchW own g' w
variable (n b0:Nat)
def Spw:Nat->GSt
 |0=>MR P ty Wg S0 (WKd P ty Wg S0 AnchW)
 |r+1=>MR P ty Wg S0 (SKd P ty Wg S0 (SGo P Wk (n-(r+1)-b0) (Spw r)))
abbrev NG(r:Nat):GSt:=SGo P Wk (n-(r+1)-b0) (Spw P ty Wg S0 Wk AnchW n b0 r)
inductive MS:CTag->Nat->Nat->Tr->Bk->Goroutine->nm->Prop
 |skd {r:Nat} {t:Tr} {own:Bk} {g:Goroutine} {w:nm}:r<n->RunT P (YW ty Wg) S0 (Lv ty Wg (SKd P ty Wg S0 (NG P ty Wg S0 Wk AnchW n b0 r))) t own g w->MS (.sp r 5) 0 (n-(r+1)) t own g w
 |sa1 {r:Nat} {t:Tr} {own:Bk} {g:Goroutine} {w:nm}:r<n->RunT P (YW ty Wg) S0 (Lv ty Wg (SA1 P ty Wg S0 (NG P ty Wg S0 Wk AnchW n b0 r))) t own g w->MS (.sp r 4) 1 (n-(r+1)) t own g w
 |ske {r:Nat} {t:Tr} {own:Bk} {g:Goroutine} {w:nm}:r<n->RunT P (YW ty Wg) S0 (Lv ty Wg (SKe P ty Wg S0 (NG P ty Wg S0 Wk AnchW n b0 r))) t own g w->MS (.sp r 3) 1 (n-(r+1)) t own g w
 |sgo {r:Nat} {t:Tr} {own:Bk} {g:Goroutine} {w:nm}:r<n->RunT P (YW ty Wg) S0 (Lv ty Wg (NG P ty Wg S0 Wk AnchW n b0 r)) t own g w->MS (.sp r 2) 0 (n-(r+1)) t own g w
 |kd {t:Tr} {own:Bk} {g:Goroutine} {w:nm}:RunT P (YW ty Wg) S0 (Lv ty Wg (WKd P ty Wg S0 AnchW)) t own g w->MS .kd 0 n t own g w
 |anch {t:Tr} {own:Bk} {g:Goroutine} {w:nm}:RunT P (YW ty Wg) S0 (Lv ty Wg AnchW) t own g w->MS .anch 1 n t own g w
 |w1 {t:Tr} {own:Bk} {g:Goroutine} {w:nm}:RunT P (YW ty Wg) S0 (Lv ty Wg (WW1 P ty Wg S0 Fin AnchW)) t own g w->MS .w1 1 n t own g w
 |w2 {vs:Nat} {t:Tr} {own:Bk} {g:Goroutine} {w:nm}:RunT P (YW ty Wg) S0 (Lv ty Wg (WW2 P ty Wg S0 Fin AnchW vs)) t own g w->MS (.w2 vs) 1 n t own g w
 |w3 {t:Tr} {own:Bk} {g:Goroutine} {w:nm}:RunT P (YW ty Wg) S0 (Lv ty Wg (WW3 P ty Wg S0 Fin)) t own g w->MS .w3 1 n t own g w
 |blk {own:Bk} {g:Goroutine} {w:nm}:g.status=.running->g.offers=none->(∀w1,Rly own S0 w w1->Lv ty Wg (WW3 P ty Wg S0 Fin) own g w1)->MS .blk 1 n .leaf own {g with status:=.blocked} w
 |w4 {t:Tr} {own:Bk} {g:Goroutine} {w:nm}:RunT P (YW ty Wg) S0 (Lv ty Wg (WW4 P ty Wg S0 Fin)) t own g w->MS .w4 1 n t own g w
 |ke {t:Tr} {own:Bk} {g:Goroutine} {w:nm}:RunT P (YW ty Wg) S0 (Lv ty Wg (WKe P ty Wg S0 Fin)) t own g w->MS .ke 1 n t own g w
 |acq {t:Tr} {own:Bk} {g:Goroutine} {w:nm}:RunT P (YW ty Wg) S0 (Lv ty Wg (WAcq P Wg Fin)) t own g w->MS .acq 0 n t own g w
structure MStep(j:Nat)(D:Nat->ConcN.WD)(tag:CTag)(d:Nat)(own:Bk)(g:Goroutine)(w:nm)(g':Goroutine)(w':nm)(es:Array Event)(tag':CTag)(d':Nat)(t':Tr)(st' sm':Int):Prop where
 go:stepG P true g w=.go g' w' es
 aside:Aside Wg w w'
 wg:WgAt ty Wg w' st' sm'
 bk:∀e∈es,ConcR.Bk Wg e
 sit:MS P ty Wg S0 Wk Fin AnchW n b0 tag' d' j t' own g' w'
 deaf:deafBehind d es=d'
 mode:ConcN.Mode j D tag' st' sm'
 lt:phi n (Vc j D) tag'<phi n (Vc j D) tag\/(tag=.w3/\tag'=.blk/\w'=w/\t'=.leaf)
end
end
section
variable {P:nh}{ty:nl}{Wg:Nat}{S0:Bk}{Wk:Nat->Nat->Goroutine->nm->Prop}{Fin AnchW:GSt}{n b0 j d:Nat}{D:Nat->ConcN.WD}{tag:CTag}{t:Tr}{own:Bk}{g:Goroutine}{w w1:nm}{st sm:Int}
def pm_noSp:∀sh own g w K,¬(YW ty Wg).Sp sh own g w K:=λ_ _ _ _ _ h=>h
def MR.tree{X:GSt}(h:MR P ty Wg S0 X own g w):∃t,RunT P (YW ty Wg) S0 (Lv ty Wg X) t own g w:=Run.tree pm_noSp h
def MS.rely(h:MS P ty Wg S0 Wk Fin AnchW n b0 tag d j t own g w)(hr:Rly own S0 w w1):MS P ty Wg S0 Wk Fin AnchW n b0 tag d j t own g w1:=by
 cases h with
 |skd hn h=>exact .skd hn (h.rely hr)
 |sa1 hn h=>exact .sa1 hn (h.rely hr)
 |ske hn h=>exact .ske hn (h.rely hr)
 |sgo hn h=>exact .sgo hn (h.rely hr)
 |kd h=>exact .kd (h.rely hr)
 |anch h=>exact .anch (h.rely hr)
 |w1 h=>exact .w1 (h.rely hr)
 |w2 h=>exact .w2 (h.rely hr)
 |w3 h=>exact .w3 (h.rely hr)
 |blk h1 h2 h=>exact .blk h1 h2 λw2 k=>h w2 (hr.trans k)
 |w4 h=>exact .w4 (h.rely hr)
 |ke h=>exact .ke (h.rely hr)
 |acq h=>exact .acq (h.rely hr)
def RunT.leaf{X:GSt}(h:RunT P (YW ty Wg) S0 (Lv ty Wg X) .leaf own g w)(hl:WgLive ty Wg w):X own g w:=by
 cases h with
 |stop h=>exact h w (Rly.refl _ _ _) hl
def allquit_of(ho:OpenSt j D)(h:Vc j D=0):AllQuit j D:=λi hi=>by
 have:=le_sumTo (f:=λx=>cnt (D x)) hi;have h2:=ho i hi;simp only[Vc] at h;have:cnt (D i)=0:=qo;simp only[cnt] at this;split at this<;>omega
def main_books[Payload](hwg:WgAt ty Wg w st sm)(hmode:ConcN.Mode j D tag st sm)(hb:Vc j D<1000000000)(hVn:Vc j D<=n)(h:MS P ty Wg S0 Wk Fin AnchW n b0 tag d j .leaf own g w)(hns:∀r,tag≠.sp r 2)(hna:tag≠.anch)(hnb:tag≠.blk)(hnq:tag≠.acq) :
  g.status=.running/\∃g' w' es tag' d' t' st' sm',MStep P ty Wg S0 Wk Fin AnchW n b0 j D tag d own g w g' w' es tag' d' t' st' sm':=by
 have hl:WgLive ty Wg w:=⟨_,_,hwg⟩
 have one:∀{m:Mark},m=.disable\/m=.enable->∀e∈#[mk m],ConcR.Bk Wg e:=λ{m} hm e he=>by
  simp at he;subst he;rcases hm with rfl|rfl
  .exact .inl rfl
  .exact .inr (.inl rfl)
 cases h with
 |skd hn h=>
  obtain⟨h1,g',h2,h3⟩:=h.leaf hl;obtain⟨t',h3⟩:=h3.tree;refine⟨h1,g',w,_,_,_,t',st,sm,h2,.refl Wg w,hwg,one (.inl rfl),.sa1 hn h3,rfl,?_,.inl wq52⟩;cases hmode with
  |opn k1 k2 k3=>exact .opn trivial k2 λvs e=>by cases e
  |reg k1 _ _=>exact k1.elim
  |last L k1 _ _ _=>exact k1.elim
  |fin k1 _=>exact k1.elim
 |sa1 hn h=>
  obtain⟨h1,h2⟩:=h.leaf hl;cases hmode with
  |opn k1 k2 k3=>
   rename_i r
   have hwg':WgAt ty Wg w ((Vc (n-(r+1)) D:Nat)*KK) 0:=by simpa [pend] using hwg
   obtain⟨g',h3,h4⟩:=h2 (Vc (n-(r+1)) D) qo hwg';obtain⟨t',h4⟩:=h4.tree;refine⟨h1,g',_,_,_,_,t',_,_,h3,aside_setCell w (stA Wg) _,hwg.setSt _,bk_rw,.ske hn h4,rfl,?_,.inl wq52⟩;have:=ConcN.Mode.opn (j:=n-(r+1)) (D:=D) (tag:=.sp r 3) trivial k2 λvs e=>by cases e
   simpa [pend] using this
  |reg k1 _ _=>exact k1.elim
  |last L k1 _ _ _=>exact k1.elim
  |fin k1 _=>exact k1.elim
 |ske hn h=>
  obtain⟨h1,g',h2,h3⟩:=h.leaf hl;obtain⟨t',h3⟩:=h3.tree;refine⟨h1,g',w,_,_,_,t',st,sm,h2,.refl Wg w,hwg,one (.inr rfl),.sgo hn h3,rfl,?_,.inl wq52⟩;cases hmode with
  |opn k1 k2 k3=>exact .opn trivial k2 λvs e=>by cases e
  |reg k1 _ _=>exact k1.elim
  |last L k1 _ _ _=>exact k1.elim
  |fin k1 _=>exact k1.elim
 |sgo hn h=>exact absurd rfl (hns _)
 |kd h=>
  obtain⟨h1,g',h2,h3⟩:=h.leaf hl;obtain⟨t',h3⟩:=h3.tree;refine⟨h1,g',w,_,_,_,t',st,sm,h2,.refl Wg w,hwg,one (.inl rfl),.anch h3,rfl,?_,.inl wq52⟩;cases hmode with
  |opn k1 k2 k3=>exact .opn trivial k2 λvs e=>by cases e
  |reg k1 _ _=>exact k1.elim
  |last L k1 _ _ _=>exact k1.elim
  |fin k1 _=>exact k1.elim
 |anch h=>exact absurd rfl hna
 |w1 h=>
  obtain⟨h1,h2⟩:=h.leaf hl;cases hmode with
  |opn k1 k2 k3=>
   have hwg':WgAt ty Wg w ((Vc n D:Nat)*KK) 0:=by simpa [pend] using hwg
   obtain⟨g',h3,h4,h5⟩:=h2 (Vc n D) qo hwg';by_cases hv:Vc n D=0
   .obtain⟨t',h4⟩:=(h4 hv).tree;refine⟨h1,g',w,_,_,_,t',0,0,h3,.refl Wg w,by simpa [hv] using hwg',UB _ rfl,.ke h4,rfl,.fin trivial (allquit_of k2 hv),.inl wq52⟩
   .obtain⟨t',h5⟩:=(h5 hv).tree;refine⟨h1,g',w,_,_,_,t',_,0,h3,.refl Wg w,hwg',UB _ rfl,.w2 h5,rfl,?_,.inl wq52⟩;have:=ConcN.Mode.opn (j:=n) (D:=D) (tag:=.w2 (Vc n D)) trivial k2 λvs e=>by cases e;exact⟨ai _,by omega⟩
    simpa [pend] using this
  |reg k1 _ _=>exact k1.elim
  |last L k1 _ _ _=>exact k1.elim
  |fin k1 _=>exact k1.elim
 |w2 h=>
  rename_i vs
  obtain⟨h1,h2⟩:=h.leaf hl;cases hmode with
  |opn k1 k2 k3=>
   obtain⟨k4,k5⟩:=k3 vs rfl;have hwg':WgAt ty Wg w ((Vc n D:Nat)*KK) 0:=by simpa [pend] using hwg
   obtain⟨h3,h4⟩:=h2 (Vc n D) qo hwg';by_cases hv:Vc n D=vs
   .obtain⟨g',h3,h5⟩:=h3 hv;obtain⟨t',h5⟩:=h5.tree;exact⟨h1,g',_,_,_,_,t',_,_,h3,aside_setCell w (stA Wg) _,hwg'.setSt _,bk_rw,.w3 h5,rfl,.reg trivial k2 qo,.inl wq52⟩
   .obtain⟨g',h4,h5⟩:=h4 hv;obtain⟨t',h5⟩:=h5.tree;refine⟨h1,g',w,_,_,_,t',_,_,h4,.refl Wg w,hwg',UB _ rfl,.anch h5,rfl,?_,.inl wq52⟩;have:=ConcN.Mode.opn (j:=n) (D:=D) (tag:=.anch) trivial k2 λvs e=>by cases e
    simpa [pend] using this
  |reg k1 _ _=>exact k1.elim
  |last L k1 _ _ _=>exact k1.elim
  |fin k1 _=>exact k1.elim
 |w3 h=>
  have hst:=h;obtain⟨h1,h2,h3,h4⟩:=h.leaf hl
  have hblk:(∃st,WgAt ty Wg w st 0)->ConcN.Mode n D .blk st sm->g.status=.running/\∃g' w' es tag' d' t' st' sm',MStep P ty Wg S0 Wk Fin AnchW n b0 n D .w3 1 own g w g' w' es tag' d' t' st' sm':=λhx hm=>
   ⟨h1,_,w,#[],.blk,1,.leaf,st,sm,h3 hx,.refl Wg w,hwg,by simp,.blk h1 h2 (by cases hst with|stop h=>exact h),rfl,hm,.inr ⟨rfl,rfl,rfl,rfl⟩⟩
  cases hmode with
  |opn k1 _ _=>exact k1.elim
  |reg k1 k2 k3=>exact hblk ⟨_,hwg⟩ (.reg trivial k2 k3)
  |last L k1 k2 k3 k4=>exact hblk ⟨_,hwg⟩ (.last L trivial k2 k3 k4)
  |sema k2=>
   obtain⟨g',h5,h6⟩:=h4 hwg;obtain⟨t',h6⟩:=h6.tree;exact⟨h1,g',_,_,_,_,t',_,_,h5,aside_setCell w (smA Wg) _,hwg.setSm 0,bk_sem,.w4 h6,by simp[deafBehind,semEvents],.fin trivial k2,.inl wq52⟩
  |fin k1 _=>exact k1.elim
 |blk _ _ h=>exact absurd rfl hnb
 |w4 h=>
  obtain⟨h1,h2⟩:=h.leaf hl;cases hmode with
  |opn k1 _ _=>exact k1.elim
  |reg k1 _ _=>exact k1.elim
  |last L k1 _ _ _=>exact k1.elim
  |fin k1 k2=>
   obtain⟨g',h3,h4⟩:=h2 hwg;obtain⟨t',h4⟩:=h4.tree;exact⟨h1,g',w,_,_,_,t',0,0,h3,.refl Wg w,hwg,UB _ rfl,.ke h4,rfl,.fin trivial k2,.inl wq52⟩
 |ke h=>
  obtain⟨h1,g',h2,h3⟩:=h.leaf hl;obtain⟨t',h3⟩:=h3.tree;cases hmode with
  |opn k1 _ _=>exact k1.elim
  |reg k1 _ _=>exact k1.elim
  |last L k1 _ _ _=>exact k1.elim
  |fin k1 k2=>exact⟨h1,g',w,_,_,_,t',0,0,h2,.refl Wg w,hwg,one (.inr rfl),.acq h3,rfl,.fin trivial k2,.inl wq52⟩
 |acq h=>exact absurd rfl hnq
end
end W
end
section
open Go.ConcR (KK WgAt stA smA rd wr mk Payload DC0 bk_of_mute ofEvent_loc_mark ofEvent_cell)
namespace W
def PayC(C m N ety:Nat)(w:nm):Prop:=∃cs:Array nA,w.heap[C]?=some (.cells cs ety (0,0))/\cs.size=m*N
def Gl(C m:Nat)(w:nm)(ri:Nat)(vs:ne):Prop:=vs.length=m/\∀r,r<m->w.cell? ⟨C,m*ri+r,none⟩=vs[r]?
open Classical in
noncomputable def Xw(B:Bk)(w:nm):Nat->Option Obj:=λk=>if B k then w.heap[k]? else none
def Yb{B:Bk}{w w':nm}(h:∀k,B k->w'.heap[k]?=w.heap[k]?):Xw B w'=Xw B w:=by
 funext k
 unfold Xw;split
 .rename_i hb;exact h k hb
 .rfl
structure Ph where
 ty:nl
 Wg:Nat
 Bx:Nat
 v0:nA
 C:Nat
 m:Nat
 N:Nat
 ety:nl
 b0:Nat
 S0:Bk
 Sh0:Loc->Prop
 F:Nat->ne->(Nat->Option Obj)->Prop
 w0:nm
 hid:Bk
structure MI[Payload](p:Ph)(j:Nat)(w:nm)(own gv:Nat->Bk):Prop where
 dis:∀x y k,x≠y->(own x k\/gv x k)->¬(own y k\/gv y k)
 gvd:∀x k,own x k->¬gv x k
 frz:∀x k,own x k\/gv x k->¬p.S0 k
 lt:∀x k,own x k\/gv x k->k<w.heap.size
 lt0:∀k,p.S0 k->k<w.heap.size
 wg:p.Wg<w.heap.size/\p.C<w.heap.size/\p.Wg≠p.C/\¬p.S0 p.Wg/\¬p.S0 p.C
 nwg:∀x,¬(own x p.Wg\/gv x p.Wg)/\¬(own x p.C\/gv x p.C)
 out:∀x k,own x k\/gv x k->x=0\/(p.b0<x/\x<=j)
 pay:PayC p.C p.m p.N p.ety w
 bx:p.S0 p.Bx/\PayAt p.Bx 1 w/\ConcN.Has p.Bx 0 p.v0 w
 shun:∀l,p.Sh0 l->∃a,l=.cell a/\a.block<w.heap.size/\(∀x,¬(own x a.block\/gv x a.block))/\¬p.S0 a.block/\a.block≠p.Wg/\a.block≠p.C
 rest:Rest p.w0 w
structure Chg(p:Ph)(x:Nat)(own:Nat->Bk)(w w':nm):Prop where
 rest:Rest w w'
 size:w.heap.size<=w'.heap.size
 keep:∀k,k<w.heap.size->¬own x k->k≠p.Wg->k≠p.C->w'.heap[k]?=w.heap[k]?
 pay:PayC p.C p.m p.N p.ety w->PayC p.C p.m p.N p.ety w'
 cells:∀o,(x<=p.b0\/o/p.m≠x-1-p.b0)->w'.cell? ⟨p.C,o,none⟩=w.cell? ⟨p.C,o,none⟩
section
variable [Payload]{p:Ph}{j x:Nat}{w w':nm}{own gv:Nat->Bk}{own' gv':Bk}
def MI.others(h:MI p j w own gv)(hc:Chg p x own w w'){y:Nat}(hy:y≠x):Rly (own y) p.S0 w w':=⟨hc.rest,hc.size,λk hk hm=>by
 rcases hm with hm|hm
 .exact hc.keep k hk (λhx=>h.dis y x k hy (.inl hm) (.inl hx)) (λe=>(h.nwg y).1 (.inl (e ▸ hm))) (λe=>(h.nwg y).2 (.inl (e ▸ hm)))
 .exact hc.keep k hk (λhx=>h.frz x k (.inl hx) hm) (λe=>h.wg.2.2.2.1 (e ▸ hm)) (λe=>h.wg.2.2.2.2 (e ▸ hm))⟩
def MI.given(h:MI p j w own gv)(hc:Chg p x own w w')(y:Nat):∀k,gv y k->w'.heap[k]?=w.heap[k]?:=λk hk=>
 hc.keep k (h.lt y k (.inr hk)) (λhx=>by
  by_cases e:y=x
  .subst e;exact h.gvd y k hx hk
  .exact h.dis y x k e (.inr hk) (.inl hx)) (λe=>(h.nwg y).1 (.inr (e ▸ hk))) (λe=>(h.nwg y).2 (.inr (e ▸ hk)))
def MI.frozen(h:MI p j w own gv)(hc:Chg p x own w w'):∀k,p.S0 k->w'.heap[k]?=w.heap[k]?:=λk hk=>
 hc.keep k (h.lt0 k hk) (λhx=>h.frz x k (.inl hx) hk) (λe=>h.wg.2.2.2.1 (e ▸ hk)) (λe=>h.wg.2.2.2.2 (e ▸ hk))
def MI.next(h:MI p j w own gv)(hc:Chg p x own w w')(hx:w.heap.size<w'.heap.size->x=0\/(p.b0<x/\x<=j))(hnew:∀k,own' k\/gv' k->(own x k\/gv x k)\/(w.heap.size<=k/\k<w'.heap.size))(hd:∀k,own' k->¬gv' k) :
  MI p j w' (upd own x own') (upd gv x gv'):=by
 have key:∀y k,(upd own x own' y k\/upd gv x gv' y k)->(own y k\/gv y k)\/(y=x/\w.heap.size<=k/\k<w'.heap.size):=λy k hk=>by
  by_cases e:y=x
  .subst e;rw[upd_same,upd_same] at hk;exact(hnew k hk).imp id λh=>⟨rfl,h⟩
  .rw[upd_ne own _ e,upd_ne gv _ e] at hk;exact .inl hk
 obtain⟨b1,b2,b3⟩:=h.bx;have hbx:=h.frozen hc p.Bx b1;refine⟨λy z k hyz hy hz=>?_,λy k hy=>?_,λy k hy=>?_,λy k hy=>?_,λk hk=>aw (h.lt0 k hk) hc.size,⟨aw h.wg.1 hc.size,aw h.wg.2.1 hc.size,h.wg.2.2⟩,λy=>⟨λhy=>?_,λhy=>?_⟩,λy k hy=>?_,hc.pay h.pay,⟨b1,?_,?_⟩,λl hl=>?_,h.rest.trans hc.rest⟩
 .rcases key y k hy with h1|⟨h1,h2,h3⟩<;>rcases key z k hz with h4|⟨h4,h5,h6⟩
  .exact h.dis y z k hyz h1 h4
  .have:=h.lt y k h1;omega
  .have:=h.lt z k h4;omega
  .exact hyz (h1.trans h4.symm)
 .by_cases e:y=x
  .subst e;rw[upd_same] at hy ⊢;exact hd k hy
  .rw[upd_ne own _ e] at hy;rw[upd_ne gv _ e];exact h.gvd y k hy
 .intro hs;rcases key y k hy with h1|⟨_,h2,_⟩
  .exact h.frz y k h1 hs
  .have:=h.lt0 k hs;omega
 .rcases key y k hy with h1|⟨_,_,h2⟩
  .exact aw (h.lt y k h1) hc.size
  .exact h2
 .rcases key y p.Wg hy with h1|⟨_,h2,_⟩
  .exact(h.nwg y).1 h1
  .have:=h.wg.1;omega
 .rcases key y p.C hy with h1|⟨_,h2,_⟩
  .exact(h.nwg y).2 h1
  .have:=h.wg.2.1;omega
 .rcases key y k hy with h1|⟨rfl,h2,h3⟩
  .exact h.out y k h1
  .exact hx qo
 .obtain⟨cs,h1,h2⟩:=b2;exact⟨cs,by rw[hbx];exact h1,h2⟩
 .exact(cell_of_block hbx 0).trans b3
 .obtain⟨a,h1,h2,h3,h4⟩:=h.shun l hl;refine⟨a,h1,aw h2 hc.size,λy hy=>?_,h4⟩;rcases key y a.block hy with h5|⟨_,h5,_⟩
  .exact h3 y h5
  .omega
end
def V4(p:Ph)(own gv:Nat->Bk)(x:Nat)(l:Loc):Prop:=
 (∃a,l=.cell a/\(own x a.block\/gv x a.block))\/(∃r,l=.obj r/\(own x r\/gv x r))\/(p.b0<x/\∃a,l=.cell a/\a.block=p.C/\a.off/p.m=x-1-p.b0)
def RdL(p:Ph)(x:Nat)(l:Loc):Prop:=p.b0<x/\∃a,l=.cell a/\p.S0 a.block
def ShL(p:Ph)(l:Loc):Prop:=p.Sh0 l\/ShN p.Wg l
structure TI(p:Ph)(j:Nat)(B:Nat)(t:Trace)(own gv:Nat->Bk):Prop where
 ct:CT (ShL p) (V4 p own gv) (RdL p) t j
 low:∀op∈t,op.act.low B
 ho:HO p.b0 t
 norel:NoRelease (stA p.Wg) t
 oldk:∀i a g,touchAt t i=some a->t.g? i=some g->g≠0->g<=p.b0->¬p.Sh0 a.loc->Knows t 0 i
 cnt:∀i a g,touchAt t i=some a->t.g? i=some g->p.b0<g->¬ShN p.Wg a.loc->t.counts i
def Cnt(p:Ph)(d:Nat)(es:Array Event):Prop:=(∀e∈es,∀y,(MemAct.ofEvent e).touch?=some y->ShN p.Wg y.loc)\/(d=0/\∀e∈es,e.loc≠.mark .disable/\e.loc≠.mark .enable)
section
variable [Payload]{p:Ph}{j x:Nat}{w w':nm}{own gv:Nat->Bk}{own' gv':Bk}{t u:Trace}
def MI.apart(h:MI p j w own gv):Apart (ShL p) (V4 p own gv) (RdL p):=by
 refine⟨λk k' l h1 h2=>?_,λk k' l h1 h2=>?_,λk l h1 h2=>?_,λk l h1 h2=>?_⟩
 .rcases h1 with ⟨a,rfl,h1⟩|⟨r,rfl,h1⟩|⟨hb,a,rfl,h1,h3⟩<;>rcases h2 with ⟨a',h4,h2⟩|⟨r',h4,h2⟩|⟨hb',a',h4,h2,h5⟩<;>cases h4
  .exact aD λhx=>h.dis k k' _ hx h1 h2
  .exact absurd (h2 ▸ h1) (h.nwg k).2
  .exact aD λhx=>h.dis k k' _ hx h1 h2
  .exact absurd (h1 ▸ h2) (h.nwg k').2
  .omega
 .obtain⟨_,a',h3,h4⟩:=h2;rcases h1 with ⟨a,rfl,h1⟩|⟨r,rfl,h1⟩|⟨_,a,rfl,h1,_⟩<;>cases h3
  .exact h.frz k _ h1 h4
  .exact h.wg.2.2.2.2 (h1 ▸ h4)
 .rcases h2 with h2|⟨a',h2,h3⟩
  .obtain⟨a',rfl,_,h4,h5,h6,h7⟩:=h.shun l h2;rcases h1 with ⟨a,h8,h1⟩|⟨r,h8,h1⟩|⟨_,a,h8,h1,_⟩<;>cases h8
   .exact h4 k h1
   .exact h7 h1
  .subst h2;rcases h1 with ⟨a,h8,h1⟩|⟨r,h8,h1⟩|⟨_,a,h8,h1,_⟩<;>cases h8
   .exact(h.nwg k).1 (h3 ▸ h1)
   .exact h.wg.2.2.1 (h3.symm.trans h1)
 .obtain⟨_,a,rfl,h3⟩:=h1;rcases h2 with h2|⟨a',h2,h4⟩
  .obtain⟨a',h5,_,_,h6,_⟩:=h.shun _ h2;cases h5;exact h6 h3
  .cases h2;exact h.wg.2.2.2.1 (h4 ▸ h3)
def TI.grow(ht:TI p j w.heap.size t own gv)(hs:w.heap.size<=w'.heap.size)(hnew:∀k,own' k\/gv' k->(own x k\/gv x k)\/(w.heap.size<=k/\k<w'.heap.size))(hold:∀k,own x k\/gv x k->own' k\/gv' k) :
  TI p j w'.heap.size t (upd own x own') (upd gv x gv'):=by
 refine⟨VK ht.ct (λ_ h=>.inl h) (λ_ h=>h) (λk _ _ l hl=>?_) (λk _ _ l hl=>?_) λ_ _ _ _=>Iff.rfl,λop hop=>MemAct.low_mono hs (ht.low op hop),ht.ho,ht.norel,ht.oldk,ht.cnt⟩
 .by_cases e:k=x
  .subst e;simp only[V4,upd_same] at hl;rcases hl with ⟨a,rfl,h1⟩|⟨r,rfl,h1⟩|h1
   .rcases hnew _ h1 with h2|h2
    .exact .inl (.inl ⟨a,rfl,h2⟩)
    .exact .inr (NT.cell ht.low h2.1)
   .rcases hnew _ h1 with h2|h2
    .exact .inl (.inr (.inl ⟨r,rfl,h2⟩))
    .exact .inr (NT.obj ht.low h2.1)
   .exact .inl (.inr (.inr h1))
  .simp only[V4,upd_ne own _ e,upd_ne gv _ e] at hl;exact .inl hl
 .by_cases e:k=x
  .subst e;simp only[V4,upd_same];rcases hl with ⟨a,rfl,h1⟩|⟨r,rfl,h1⟩|h1
   .exact .inl ⟨a,rfl,hold _ h1⟩
   .exact .inr (.inl ⟨r,rfl,hold _ h1⟩)
   .exact .inr (.inr h1)
  .simp only[V4,upd_ne own _ e,upd_ne gv _ e];exact hl
def F3{t u:Trace}{i g:Nat}{a:Touch}(ha:touchAt (t++u) i=some a)(hg:(t++u).g? i=some g):(i<t.size/\touchAt t i=some a/\t.g? i=some g)\/(t.size<=i/\∃op∈u,u[i-t.size]?=some op/\op.g=g/\op.act.touch?=some a):=by
 obtain⟨op,ho,hox⟩:=touch_of ha;rcases getElem?_append_cases ho with ⟨hi,ho'⟩|⟨hi,hou⟩
 .exact .inl ⟨hi,by rw[touchAt_of ho'];exact hox,by simpa [Trace.g?,getElem?_append_old hi] using hg⟩
 .refine .inr ⟨hi,op,hou,?_,by simpa [Trace.g?,ho] using hg,hox⟩;rw[Array.getElem?_append] at ho;simpa [Nat.not_lt.2 hi] using ho
def Dh{p:Ph}{t u:Trace}(h:∀i a g,touchAt t i=some a->t.g? i=some g->g≠0->g<=p.b0->¬p.Sh0 a.loc->Knows t 0 i)(hu:∀op∈u,op.g=0\/p.b0<op.g\/op.act.touch?=none) :
  ∀i a g,touchAt (t++u) i=some a->(t++u).g? i=some g->g≠0->g<=p.b0->¬p.Sh0 a.loc->Knows (t++u) 0 i:=λi a g ha hg h1 h2 h3=>by
 rcases F3 ha hg with ⟨_,h4,h5⟩|⟨_,op,h4,_,h5,h6⟩
 .exact(h i a g h4 h5 h1 h2 h3).app u
 .rcases hu op h4 with h7|h7|h7
  .exact absurd (h5 ▸ h7) h1
  .omega
  .rw[h7] at h6;cases h6
def cnt_app{p:Ph}{t:Trace}{k d:Nat}{fn:np}{pos:String}{es:Array Event}(h:∀i a g,touchAt t i=some a->t.g? i=some g->p.b0<g->¬ShN p.Wg a.loc->t.counts i)(hd:Deaf t k=d)(hc:k=0\/(Cnt p d es/\∀e∈es,∀y,(MemAct.ofEvent e).touch?=some y->y.loc.isMemory=true)) :
  ∀i a g,touchAt (t++MemOp.ofEvents k fn pos es) i=some a->(t++MemOp.ofEvents k fn pos es).g? i=some g->p.b0<g->¬ShN p.Wg a.loc->(t++MemOp.ofEvents k fn pos es).counts i:=λi a g ha hg h1 h2=>by
 rcases F3 ha hg with ⟨hi,h4,h5⟩|⟨hi,op,h4,h7,h5,h6⟩
 .exact(counts_old hi).2 (h i a g h4 h5 h1 h2)
 .obtain⟨e,he,rfl⟩:=Go.Conc.mem_ofEvents h4;simp only at h5 h6;rcases hc with hc|⟨hc|⟨hd0,hc⟩,h3⟩
  .omega
  .exact absurd (hc e he a h6) h2
  .refine⟨a,ha,h3 e he a h6,.inr ⟨g,hg,?_⟩⟩
   have hsz:i-t.size<=es.size:=by
    have:=(Array.getElem?_eq_some_iff.1 h7).1;rw[ofEvents_eq] at this;simp at this;omega
   have:=deaf_inside t k fn pos es (i-t.size) hsz;rw[show t.size+(i-t.size)=i by omega] at this
   rw[<-h5,this,hd,deafBehind_still (λe he=>hc e (by
    obtain⟨q,hq,rfl⟩:=Array.mem_iff_getElem.1 he;simp)),hd0]
def EvT(p:Ph)(own gv:Nat->Bk)(B:Nat)(k:Nat)(e:Event):Prop:=
 (∀a,(MemAct.ofEvent e).touch?=some a->(ShN p.Wg a.loc/\a.kind≠.plain/\(a.kind=.said->k=0))\/V4 p own gv k a.loc\/((k=0\/p.b0<k)/\(∃b,a.loc=.cell b/\p.S0 b.block)/\a.write=false))/\(MemAct.ofEvent e).low B/\e.loc≠.mark (.release (stA p.Wg))
def TI.addW(h:MI p j w own gv)(ht:TI p j w.heap.size t own gv){k:Nat}(k1:1<=k)(kj:k<=j){fn:np}{pos:String}{es:Array Event}(he:∀e∈es,EvT p own gv w.heap.size k e)(hk:p.b0<k\/∀e∈es,(MemAct.ofEvent e).touch?=none)(hcn:Cnt p (Deaf t k) es) :
  TI p j w.heap.size (t++MemOp.ofEvents k fn pos es) own gv:=by
 have hu:∀op∈MemOp.ofEvents k fn pos es,op.g=0\/p.b0<op.g\/op.act.touch?=none:=λop hop=>by
  obtain⟨e,hx,rfl⟩:=Go.Conc.mem_ofEvents hop;exact hk.elim (λh=>.inr (.inl h)) λh=>.inr (.inr (h e hx))
 refine⟨ht.ct.appW h.apart k1 kj λop hop=>?_,seen_app ht.low λop hop=>?_,ht.ho.app hu,ht.norel.app (norel_of λe hx=>(he e hx).2.2),Dh ht.oldk hu,cnt_app ht.cnt rfl (.inr ⟨hcn,λe hx y hy=>by
  rcases(he e hx).1 y hy with ⟨⟨ad,h1,_⟩,_⟩|h1|⟨_,⟨ad,h1,_⟩,_⟩
  .rw[h1];rfl
  .rcases h1 with ⟨ad,h1,_⟩|⟨r,h1,_⟩|⟨_,ad,h1,_⟩<;>rw[h1]<;>rfl
  .rw[h1];rfl⟩)⟩
 .obtain⟨e,hx,rfl⟩:=Go.Conc.mem_ofEvents hop;refine⟨rfl,λa ha=>?_⟩;rcases(he e hx).1 a ha with ⟨h1,h2,h3⟩|h1|⟨h1,h2,h3⟩
  .exact .inl ⟨.inr h1,h2,λx=>by have:=h3 x;omega⟩
  .exact .inr (.inl h1)
  .exact .inr (.inr ⟨⟨by omega,h2⟩,h3⟩)
 .obtain⟨e,hx,rfl⟩:=Go.Conc.mem_ofEvents hop;exact(he e hx).2.1
def TI.add0(h:MI p j w own gv)(ht:TI p j w.heap.size t own gv){fn:np}{pos:String}{es:Array Event}(he:∀e∈es,EvT p own gv w.heap.size 0 e) :
  TI p j w.heap.size (t++MemOp.ofEvents 0 fn pos es) own gv:=by
 have A:=h.apart
 have hu:∀op∈MemOp.ofEvents 0 fn pos es,op.g=0\/p.b0<op.g\/op.act.touch?=none:=λop hop=>by
  obtain⟨e,hx,rfl⟩:=Go.Conc.mem_ofEvents hop;exact .inl rfl
 refine⟨ht.ct.app0 A λop hop=>?_,seen_app ht.low λop hop=>?_,ht.ho.app hu,ht.norel.app (norel_of λe hx=>(he e hx).2.2),Dh ht.oldk hu,cnt_app ht.cnt rfl (.inl rfl)⟩
 .obtain⟨e,hx,rfl⟩:=Go.Conc.mem_ofEvents hop;refine⟨rfl,λa ha=>?_⟩;rcases(he e hx).1 a ha with ⟨h1,h2,h3⟩|h1|⟨h1,⟨b,h2,h4⟩,h3⟩
  .exact .inl ⟨.inr h1,h2⟩
  .refine .inr ⟨A.ownSh 0 _ h1,λk k1 _ h2=>?_,λ_ k k1 _ h2=>A.ownRd 0 k _ h1 h2⟩;have:=A.own 0 k _ h1 h2;omega
  .have hrd:RdL p (p.b0+1) a.loc:=⟨by omega,b,h2,h4⟩
   exact .inr ⟨A.rdSh _ _ hrd,λk _ _ h5=>A.ownRd k _ _ h5 hrd,λh5=>by rw[h3] at h5;cases h5⟩
 .obtain⟨e,hx,rfl⟩:=Go.Conc.mem_ofEvents hop;exact(he e hx).2.1
end
end W
end
end Go.Proofs.YtbnobghgnbockaaGreat
