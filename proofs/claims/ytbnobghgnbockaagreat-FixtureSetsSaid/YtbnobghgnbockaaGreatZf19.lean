/- Lemmas for a law. Conditions: none. -/
import Derived.Test.YtbnobghgnbockaaGreatZf18
set_option linter.all false
set_option maxHeartbeats 32000000
set_option maxRecDepth 100000
namespace Go.Proofs.YtbnobghgnbockaaGreat
section
open Go.RowKit
open Go.Conc hiding base G
open Go.ConcN
open Go.ConcR (KK WgAt stA smA rd wr mk Payload DC0 bk_of_mute ofEvent_loc_mark)
namespace W
def Said(Wg:Nat)(es:Array Event):Prop:=∀e∈es,e=⟨.mark (.read (smA Wg)),false,true⟩\/e=⟨.mark (.write (smA Wg)),false,true⟩
def X1(ty:TypeId)(Wg:Nat):Md:=⟨true,WgLive ty Wg,λ_ own w w' es own'=>w'=w/\own'=own/\Said Wg es,λ_ _ _ _ _=>False,λk=>k=Wg⟩
section
variable (P:Program)(ty:TypeId)(Wg:Nat)(S0:Bk)
abbrev GSt:=Bk->Goroutine->World->Prop
def Lv(X:GSt):GSt:=λown g w=>WgLive ty Wg w->X own g w
abbrev MR(X:GSt):GSt:=λown g w=>Run P (X1 ty Wg) S0 (Lv ty Wg X) own g w
section
variable (Next:GSt)
def SKe:GSt:=λown g w=>g.status=.running/\∃g',stepG P true g w=.go g' w #[mk .enable]/\MR P ty Wg S0 Next own g' w
def SA1:GSt:=λown g w=>g.status=.running/\∀v:Nat,v<2147483647->WgAt ty Wg w (v*KK) 0->
 ∃g',stepG P true g w=.go g' (w.setCell (stA Wg) (.int .u64 ((v+1)*KK))) #[rd (stA Wg),wr (stA Wg)]/\MR P ty Wg S0 (SKe P ty Wg S0 Next) own g' (w.setCell (stA Wg) (.int .u64 ((v+1)*KK)))
def SKd:GSt:=λown g w=>g.status=.running/\∃g',stepG P true g w=.go g' w #[mk .disable]/\MR P ty Wg S0 (SA1 P ty Wg S0 Next) own g' w
end
section
variable (Wk:Nat->Nat->Goroutine->World->Prop)(Fin AnchW:GSt)
def SGo(ri:Nat)(Nx:GSt):GSt:=λown g w=>g.status=.running/\∃g' child box,stepG P true g w=.spawn g' child w #[]/\child.status=.running/\own box/\Wk ri box child w/\Nx (λk=>own k/\k≠box) g' w
def WAcq:GSt:=λown g w=>g.status=.running/\∃g',stepG P true g w=.go g' w #[mk (.acquire (stA Wg))]/\Fin own g' w
def WKe:GSt:=λown g w=>g.status=.running/\∃g',stepG P true g w=.go g' w #[mk .enable]/\MR P ty Wg S0 (WAcq P Wg Fin) own g' w
def WW4:GSt:=λown g w=>g.status=.running/\(WgAt ty Wg w 0 0->∃g',stepG P true g w=.go g' w #[rd (stA Wg)]/\MR P ty Wg S0 (WKe P ty Wg S0 Fin) own g' w)
def WW3:GSt:=λown g w=>g.status=.running/\g.offers=none/\((∃st,WgAt ty Wg w st 0)->stepG P true g w=.go {g with status:=.blocked} w #[])/\
 (WgAt ty Wg w 0 1->∃g',stepG P true g w=.go g' (w.setCell (smA Wg) (.int .u32 0)) (semEvents (smA Wg))/\MR P ty Wg S0 (WW4 P ty Wg S0 Fin) own g' (w.setCell (smA Wg) (.int .u32 0)))
def WW2(vs:Nat):GSt:=λown g w=>g.status=.running/\∀v:Nat,v<2147483648->WgAt ty Wg w (v*KK) 0->
 (v=vs->∃g',stepG P true g w=.go g' (w.setCell (stA Wg) (.int .u64 (v*KK+1))) #[rd (stA Wg),wr (stA Wg)]/\MR P ty Wg S0 (WW3 P ty Wg S0 Fin) own g' (w.setCell (stA Wg) (.int .u64 (v*KK+1))))/\
 (v≠vs->∃g',stepG P true g w=.go g' w #[rd (stA Wg)]/\MR P ty Wg S0 AnchW own g' w)
def WW1:GSt:=λown g w=>g.status=.running/\∀v:Nat,v<2147483648->WgAt ty Wg w (v*KK) 0->∃g',stepG P true g w=.go g' w #[rd (stA Wg)]/\
 (v=0->MR P ty Wg S0 (WKe P ty Wg S0 Fin) own g' w)/\(v≠0->MR P ty Wg S0 (WW2 P ty Wg S0 Fin AnchW v) own g' w)
def WKd:GSt:=λown g w=>g.status=.running/\∃g',stepG P true g w=.go g' w #[mk .disable]/\MR P ty Wg S0 AnchW own g' w
variable (n b0:Nat)
def Spw:Nat->GSt
 |0=>MR P ty Wg S0 (WKd P ty Wg S0 AnchW)
 |r+1=>MR P ty Wg S0 (SKd P ty Wg S0 (SGo P Wk (n-(r+1)-b0) (Spw r)))
abbrev NG(r:Nat):GSt:=SGo P Wk (n-(r+1)-b0) (Spw P ty Wg S0 Wk AnchW n b0 r)
inductive MS:CTag->Nat->Nat->Tr->Bk->Goroutine->World->Prop
 |skd {r:Nat} {t:Tr} {own:Bk} {g:Goroutine} {w:World}:r<n->RunT P (X1 ty Wg) S0 (Lv ty Wg (SKd P ty Wg S0 (NG P ty Wg S0 Wk AnchW n b0 r))) t own g w->MS (.sp r 5) 0 (n-(r+1)) t own g w
 |sa1 {r:Nat} {t:Tr} {own:Bk} {g:Goroutine} {w:World}:r<n->RunT P (X1 ty Wg) S0 (Lv ty Wg (SA1 P ty Wg S0 (NG P ty Wg S0 Wk AnchW n b0 r))) t own g w->MS (.sp r 4) 1 (n-(r+1)) t own g w
 |ske {r:Nat} {t:Tr} {own:Bk} {g:Goroutine} {w:World}:r<n->RunT P (X1 ty Wg) S0 (Lv ty Wg (SKe P ty Wg S0 (NG P ty Wg S0 Wk AnchW n b0 r))) t own g w->MS (.sp r 3) 1 (n-(r+1)) t own g w
 |sgo {r:Nat} {t:Tr} {own:Bk} {g:Goroutine} {w:World}:r<n->RunT P (X1 ty Wg) S0 (Lv ty Wg (NG P ty Wg S0 Wk AnchW n b0 r)) t own g w->MS (.sp r 2) 0 (n-(r+1)) t own g w
 |kd {t:Tr} {own:Bk} {g:Goroutine} {w:World}:RunT P (X1 ty Wg) S0 (Lv ty Wg (WKd P ty Wg S0 AnchW)) t own g w->MS .kd 0 n t own g w
 |anch {t:Tr} {own:Bk} {g:Goroutine} {w:World}:RunT P (X1 ty Wg) S0 (Lv ty Wg AnchW) t own g w->MS .anch 1 n t own g w
 |w1 {t:Tr} {own:Bk} {g:Goroutine} {w:World}:RunT P (X1 ty Wg) S0 (Lv ty Wg (WW1 P ty Wg S0 Fin AnchW)) t own g w->MS .w1 1 n t own g w
 |w2 {vs:Nat} {t:Tr} {own:Bk} {g:Goroutine} {w:World}:RunT P (X1 ty Wg) S0 (Lv ty Wg (WW2 P ty Wg S0 Fin AnchW vs)) t own g w->MS (.w2 vs) 1 n t own g w
 |w3 {t:Tr} {own:Bk} {g:Goroutine} {w:World}:RunT P (X1 ty Wg) S0 (Lv ty Wg (WW3 P ty Wg S0 Fin)) t own g w->MS .w3 1 n t own g w
 |blk {own:Bk} {g:Goroutine} {w:World}:g.status=.running->g.offers=none->(∀w1,Rly own S0 w w1->Lv ty Wg (WW3 P ty Wg S0 Fin) own g w1)->MS .blk 1 n .leaf own {g with status:=.blocked} w
 |w4 {t:Tr} {own:Bk} {g:Goroutine} {w:World}:RunT P (X1 ty Wg) S0 (Lv ty Wg (WW4 P ty Wg S0 Fin)) t own g w->MS .w4 1 n t own g w
 |ke {t:Tr} {own:Bk} {g:Goroutine} {w:World}:RunT P (X1 ty Wg) S0 (Lv ty Wg (WKe P ty Wg S0 Fin)) t own g w->MS .ke 1 n t own g w
 |acq {t:Tr} {own:Bk} {g:Goroutine} {w:World}:RunT P (X1 ty Wg) S0 (Lv ty Wg (WAcq P Wg Fin)) t own g w->MS .acq 0 n t own g w
structure MStep(j:Nat)(D:Nat->ConcN.WD)(tag:CTag)(d:Nat)(own:Bk)(g:Goroutine)(w:World)(g':Goroutine)(w':World)(es:Array Event)(tag':CTag)(d':Nat)(t':Tr)(st' sm':Int):Prop where
 go:stepG P true g w=.go g' w' es
 aside:Aside Wg w w'
 wg:WgAt ty Wg w' st' sm'
 bk:∀e∈es,ConcR.Bk Wg e
 sit:MS P ty Wg S0 Wk Fin AnchW n b0 tag' d' j t' own g' w'
 deaf:deafBehind d es=d'
 mode:ConcN.Mode j D tag' st' sm'
 lt:phi n (Vc j D) tag'<phi n (Vc j D) tag\/(tag=.w3/\tag'=.blk/\w'=w/\t'=.leaf)
end
end
section
variable {P:Program}{ty:TypeId}{Wg:Nat}{S0:Bk}{Wk:Nat->Nat->Goroutine->World->Prop}{Fin AnchW:GSt}{n b0 j d:Nat}{D:Nat->ConcN.WD}{tag:CTag}{t:Tr}{own:Bk}{g:Goroutine}{w w1:World}{st sm:Int}
def pm_noSp:∀sh own g w K,¬(X1 ty Wg).Sp sh own g w K:=λ_ _ _ _ _ h=>h
def MR.tree{X:GSt}(h:MR P ty Wg S0 X own g w):∃t,RunT P (X1 ty Wg) S0 (Lv ty Wg X) t own g w:=Run.tree pm_noSp h
def MS.rely(h:MS P ty Wg S0 Wk Fin AnchW n b0 tag d j t own g w)(hr:Rly own S0 w w1):MS P ty Wg S0 Wk Fin AnchW n b0 tag d j t own g w1:=by
 cases h with
 |skd hn h=>exact .skd hn (h.rely hr)
 |sa1 hn h=>exact .sa1 hn (h.rely hr)
 |ske hn h=>exact .ske hn (h.rely hr)
 |sgo hn h=>exact .sgo hn (h.rely hr)
 |kd h=>exact .kd (h.rely hr)
 |anch h=>exact .anch (h.rely hr)
 |w1 h=>exact .w1 (h.rely hr)
 |w2 h=>exact .w2 (h.rely hr)
 |w3 h=>exact .w3 (h.rely hr)
 |blk h1 h2 h=>exact .blk h1 h2 λw2 k=>h w2 (hr.trans k)
 |w4 h=>exact .w4 (h.rely hr)
 |ke h=>exact .ke (h.rely hr)
 |acq h=>exact .acq (h.rely hr)
def RunT.leaf{X:GSt}(h:RunT P (X1 ty Wg) S0 (Lv ty Wg X) .leaf own g w)(hl:WgLive ty Wg w):X own g w:=by
 cases h with
 |stop h=>exact h w (Rly.refl _ _ _) hl
def allquit_of(ho:OpenSt j D)(h:Vc j D=0):AllQuit j D:=λi hi=>by
 have:=le_sumTo (f:=λx=>cnt (D x)) hi;have h2:=ho i hi;simp only[Vc] at h;have:cnt (D i)=0:=qo;simp only[cnt] at this;split at this<;>omega
def main_books[Payload](hwg:WgAt ty Wg w st sm)(hmode:ConcN.Mode j D tag st sm)(hb:Vc j D<1000000000)(hVn:Vc j D<=n)(h:MS P ty Wg S0 Wk Fin AnchW n b0 tag d j .leaf own g w)(hns:∀r,tag≠.sp r 2)(hna:tag≠.anch)(hnb:tag≠.blk)(hnq:tag≠.acq) :
  g.status=.running/\∃g' w' es tag' d' t' st' sm',MStep P ty Wg S0 Wk Fin AnchW n b0 j D tag d own g w g' w' es tag' d' t' st' sm':=by
 have hl:WgLive ty Wg w:=⟨_,_,hwg⟩
 have one:∀{m:Mark},m=.disable\/m=.enable->∀e∈#[mk m],ConcR.Bk Wg e:=λ{m} hm e he=>by
  simp at he;subst he;rcases hm with rfl|rfl
  ·exact .inl rfl
  ·exact .inr (.inl rfl)
 cases h with
 |skd hn h=>
  obtain⟨h1,g',h2,h3⟩:=h.leaf hl;obtain⟨t',h3⟩:=h3.tree;refine⟨h1,g',w,_,_,_,t',st,sm,h2,.refl Wg w,hwg,one (.inl rfl),.sa1 hn h3,rfl,?_,.inl (by simp only[phi];omega)⟩;cases hmode with
  |opn k1 k2 k3=>exact .opn trivial k2 λvs e=>by cases e
  |reg k1 _ _=>exact k1.elim
  |last L k1 _ _ _=>exact k1.elim
  |fin k1 _=>exact k1.elim
 |sa1 hn h=>
  obtain⟨h1,h2⟩:=h.leaf hl;cases hmode with
  |opn k1 k2 k3=>
   rename_i r
   have hwg':WgAt ty Wg w ((Vc (n-(r+1)) D:Nat)*KK) 0:=by simpa [pend] using hwg
   obtain⟨g',h3,h4⟩:=h2 (Vc (n-(r+1)) D) qo hwg';obtain⟨t',h4⟩:=h4.tree;refine⟨h1,g',_,_,_,_,t',_,_,h3,aside_setCell w (stA Wg) _,hwg.setSt _,bk_rw,.ske hn h4,rfl,?_,.inl (by simp only[phi];omega)⟩;have:=ConcN.Mode.opn (j:=n-(r+1)) (D:=D) (tag:=.sp r 3) trivial k2 λvs e=>by cases e
   simpa [pend] using this
  |reg k1 _ _=>exact k1.elim
  |last L k1 _ _ _=>exact k1.elim
  |fin k1 _=>exact k1.elim
 |ske hn h=>
  obtain⟨h1,g',h2,h3⟩:=h.leaf hl;obtain⟨t',h3⟩:=h3.tree;refine⟨h1,g',w,_,_,_,t',st,sm,h2,.refl Wg w,hwg,one (.inr rfl),.sgo hn h3,rfl,?_,.inl (by simp only[phi];omega)⟩;cases hmode with
  |opn k1 k2 k3=>exact .opn trivial k2 λvs e=>by cases e
  |reg k1 _ _=>exact k1.elim
  |last L k1 _ _ _=>exact k1.elim
  |fin k1 _=>exact k1.elim
 |sgo hn h=>exact absurd rfl (hns _)
 |kd h=>
  obtain⟨h1,g',h2,h3⟩:=h.leaf hl;obtain⟨t',h3⟩:=h3.tree;refine⟨h1,g',w,_,_,_,t',st,sm,h2,.refl Wg w,hwg,one (.inl rfl),.anch h3,rfl,?_,.inl (by simp only[phi];omega)⟩;cases hmode with
  |opn k1 k2 k3=>exact .opn trivial k2 λvs e=>by cases e
  |reg k1 _ _=>exact k1.elim
  |last L k1 _ _ _=>exact k1.elim
  |fin k1 _=>exact k1.elim
 |anch h=>exact absurd rfl hna
 |w1 h=>
  obtain⟨h1,h2⟩:=h.leaf hl;cases hmode with
  |opn k1 k2 k3=>
   have hwg':WgAt ty Wg w ((Vc n D:Nat)*KK) 0:=by simpa [pend] using hwg
   obtain⟨g',h3,h4,h5⟩:=h2 (Vc n D) qo hwg';by_cases hv:Vc n D=0
   ·obtain⟨t',h4⟩:=(h4 hv).tree;refine⟨h1,g',w,_,_,_,t',0,0,h3,.refl Wg w,by simpa [hv] using hwg',Kd _ rfl,.ke h4,rfl,.fin trivial (allquit_of k2 hv),.inl (by simp only[phi];omega)⟩
   ·obtain⟨t',h5⟩:=(h5 hv).tree;refine⟨h1,g',w,_,_,_,t',_,0,h3,.refl Wg w,hwg',Kd _ rfl,.w2 h5,rfl,?_,.inl (by simp only[phi];omega)⟩;have:=ConcN.Mode.opn (j:=n) (D:=D) (tag:=.w2 (Vc n D)) trivial k2 λvs e=>by cases e;exact⟨Nat.le_refl _,by omega⟩
    simpa [pend] using this
  |reg k1 _ _=>exact k1.elim
  |last L k1 _ _ _=>exact k1.elim
  |fin k1 _=>exact k1.elim
 |w2 h=>
  rename_i vs
  obtain⟨h1,h2⟩:=h.leaf hl;cases hmode with
  |opn k1 k2 k3=>
   obtain⟨k4,k5⟩:=k3 vs rfl;have hwg':WgAt ty Wg w ((Vc n D:Nat)*KK) 0:=by simpa [pend] using hwg
   obtain⟨h3,h4⟩:=h2 (Vc n D) qo hwg';by_cases hv:Vc n D=vs
   ·obtain⟨g',h3,h5⟩:=h3 hv;obtain⟨t',h5⟩:=h5.tree;exact⟨h1,g',_,_,_,_,t',_,_,h3,aside_setCell w (stA Wg) _,hwg'.setSt _,bk_rw,.w3 h5,rfl,.reg trivial k2 qo,.inl (by simp only[phi];omega)⟩
   ·obtain⟨g',h4,h5⟩:=h4 hv;obtain⟨t',h5⟩:=h5.tree;refine⟨h1,g',w,_,_,_,t',_,_,h4,.refl Wg w,hwg',Kd _ rfl,.anch h5,rfl,?_,.inl (by simp only[phi];omega)⟩;have:=ConcN.Mode.opn (j:=n) (D:=D) (tag:=.anch) trivial k2 λvs e=>by cases e
    simpa [pend] using this
  |reg k1 _ _=>exact k1.elim
  |last L k1 _ _ _=>exact k1.elim
  |fin k1 _=>exact k1.elim
 |w3 h=>
  have hst:=h;obtain⟨h1,h2,h3,h4⟩:=h.leaf hl
  have hblk:(∃st,WgAt ty Wg w st 0)->ConcN.Mode n D .blk st sm->g.status=.running/\∃g' w' es tag' d' t' st' sm',MStep P ty Wg S0 Wk Fin AnchW n b0 n D .w3 1 own g w g' w' es tag' d' t' st' sm':=λhx hm=>
   ⟨h1,_,w,#[],.blk,1,.leaf,st,sm,h3 hx,.refl Wg w,hwg,by simp,.blk h1 h2 (by cases hst with|stop h=>exact h),rfl,hm,.inr ⟨rfl,rfl,rfl,rfl⟩⟩
  cases hmode with
  |opn k1 _ _=>exact k1.elim
  |reg k1 k2 k3=>exact hblk ⟨_,hwg⟩ (.reg trivial k2 k3)
  |last L k1 k2 k3 k4=>exact hblk ⟨_,hwg⟩ (.last L trivial k2 k3 k4)
  |sema k2=>
   obtain⟨g',h5,h6⟩:=h4 hwg;obtain⟨t',h6⟩:=h6.tree;exact⟨h1,g',_,_,_,_,t',_,_,h5,aside_setCell w (smA Wg) _,hwg.setSm 0,bk_sem,.w4 h6,by simp[deafBehind,semEvents],.fin trivial k2,.inl (by simp only[phi];omega)⟩
  |fin k1 _=>exact k1.elim
 |blk _ _ h=>exact absurd rfl hnb
 |w4 h=>
  obtain⟨h1,h2⟩:=h.leaf hl;cases hmode with
  |opn k1 _ _=>exact k1.elim
  |reg k1 _ _=>exact k1.elim
  |last L k1 _ _ _=>exact k1.elim
  |fin k1 k2=>
   obtain⟨g',h3,h4⟩:=h2 hwg;obtain⟨t',h4⟩:=h4.tree;exact⟨h1,g',w,_,_,_,t',0,0,h3,.refl Wg w,hwg,Kd _ rfl,.ke h4,rfl,.fin trivial k2,.inl (by simp only[phi];omega)⟩
 |ke h=>
  obtain⟨h1,g',h2,h3⟩:=h.leaf hl;obtain⟨t',h3⟩:=h3.tree;cases hmode with
  |opn k1 _ _=>exact k1.elim
  |reg k1 _ _=>exact k1.elim
  |last L k1 _ _ _=>exact k1.elim
  |fin k1 k2=>exact⟨h1,g',w,_,_,_,t',0,0,h2,.refl Wg w,hwg,one (.inr rfl),.acq h3,rfl,.fin trivial k2,.inl (by simp only[phi];omega)⟩
 |acq h=>exact absurd rfl hnq
end
end W
end
section
open Go.RowKit
open Go.Conc hiding base G
open Go.ConcN
open Go.ConcR (KK WgAt stA smA rd wr mk Payload DC0 bk_of_mute ofEvent_loc_mark ofEvent_cell)
namespace W
def PayC(C m N ety:Nat)(w:World):Prop:=∃cs:Array Value,w.heap[C]?=some (.cells cs ety (0,0))/\cs.size=m*N
def VK(C m:Nat)(w:World)(ri:Nat)(vs:List Value):Prop:=vs.length=m/\∀r,r<m->w.cell? ⟨C,m*ri+r,none⟩=vs[r]?
open Classical in
noncomputable def JV(B:Bk)(w:World):Nat->Option Obj:=λk=>if B k then w.heap[k]? else none
def XE{B:Bk}{w w':World}(h:∀k,B k->w'.heap[k]?=w.heap[k]?):JV B w'=JV B w:=by
 funext k
 unfold JV;split
 ·rename_i hb;exact h k hb
 ·rfl
structure Ph where
 ty:TypeId
 Wg:Nat
 Bx:Nat
 v0:Value
 C:Nat
 m:Nat
 N:Nat
 ety:TypeId
 b0:Nat
 S0:Bk
 Sh0:Loc->Prop
 F:Nat->List Value->(Nat->Option Obj)->Prop
 w0:World
 hid:Bk
structure MI[Payload](p:Ph)(j:Nat)(w:World)(own gv:Nat->Bk):Prop where
 dis:∀x y k,x≠y->(own x k\/gv x k)->¬(own y k\/gv y k)
 gvd:∀x k,own x k->¬gv x k
 frz:∀x k,own x k\/gv x k->¬p.S0 k
 lt:∀x k,own x k\/gv x k->k<w.heap.size
 lt0:∀k,p.S0 k->k<w.heap.size
 wg:p.Wg<w.heap.size/\p.C<w.heap.size/\p.Wg≠p.C/\¬p.S0 p.Wg/\¬p.S0 p.C
 nwg:∀x,¬(own x p.Wg\/gv x p.Wg)/\¬(own x p.C\/gv x p.C)
 out:∀x k,own x k\/gv x k->x=0\/(p.b0<x/\x<=j)
 pay:PayC p.C p.m p.N p.ety w
 bx:p.S0 p.Bx/\PayAt p.Bx 1 w/\ConcN.Has p.Bx 0 p.v0 w
 shun:∀l,p.Sh0 l->∃a,l=.cell a/\a.block<w.heap.size/\(∀x,¬(own x a.block\/gv x a.block))/\¬p.S0 a.block/\a.block≠p.Wg/\a.block≠p.C
 rest:Rest p.w0 w
structure Chg(p:Ph)(x:Nat)(own:Nat->Bk)(w w':World):Prop where
 rest:Rest w w'
 size:w.heap.size<=w'.heap.size
 keep:∀k,k<w.heap.size->¬own x k->k≠p.Wg->k≠p.C->w'.heap[k]?=w.heap[k]?
 pay:PayC p.C p.m p.N p.ety w->PayC p.C p.m p.N p.ety w'
 cells:∀o,(x<=p.b0\/o/p.m≠x-1-p.b0)->w'.cell? ⟨p.C,o,none⟩=w.cell? ⟨p.C,o,none⟩
section
variable [Payload]{p:Ph}{j x:Nat}{w w':World}{own gv:Nat->Bk}{own' gv':Bk}
def MI.others(h:MI p j w own gv)(hc:Chg p x own w w'){y:Nat}(hy:y≠x):Rly (own y) p.S0 w w':=⟨hc.rest,hc.size,λk hk hm=>by
 rcases hm with hm|hm
 ·exact hc.keep k hk (λhx=>h.dis y x k hy (.inl hm) (.inl hx)) (λe=>(h.nwg y).1 (.inl (e ▸ hm))) (λe=>(h.nwg y).2 (.inl (e ▸ hm)))
 ·exact hc.keep k hk (λhx=>h.frz x k (.inl hx) hm) (λe=>h.wg.2.2.2.1 (e ▸ hm)) (λe=>h.wg.2.2.2.2 (e ▸ hm))⟩
def MI.given(h:MI p j w own gv)(hc:Chg p x own w w')(y:Nat):∀k,gv y k->w'.heap[k]?=w.heap[k]?:=λk hk=>
 hc.keep k (h.lt y k (.inr hk)) (λhx=>by
  by_cases e:y=x
  ·subst e;exact h.gvd y k hx hk
  ·exact h.dis y x k e (.inr hk) (.inl hx)) (λe=>(h.nwg y).1 (.inr (e ▸ hk))) (λe=>(h.nwg y).2 (.inr (e ▸ hk)))
def MI.frozen(h:MI p j w own gv)(hc:Chg p x own w w'):∀k,p.S0 k->w'.heap[k]?=w.heap[k]?:=λk hk=>
 hc.keep k (h.lt0 k hk) (λhx=>h.frz x k (.inl hx) hk) (λe=>h.wg.2.2.2.1 (e ▸ hk)) (λe=>h.wg.2.2.2.2 (e ▸ hk))
def MI.next(h:MI p j w own gv)(hc:Chg p x own w w')(hx:w.heap.size<w'.heap.size->x=0\/(p.b0<x/\x<=j))(hnew:∀k,own' k\/gv' k->(own x k\/gv x k)\/(w.heap.size<=k/\k<w'.heap.size))(hd:∀k,own' k->¬gv' k) :
  MI p j w' (upd own x own') (upd gv x gv'):=by
 have key:∀y k,(upd own x own' y k\/upd gv x gv' y k)->(own y k\/gv y k)\/(y=x/\w.heap.size<=k/\k<w'.heap.size):=λy k hk=>by
  by_cases e:y=x
  ·subst e;rw[upd_same,upd_same] at hk;exact(hnew k hk).imp id λh=>⟨rfl,h⟩
  ·rw[upd_ne own _ e,upd_ne gv _ e] at hk;exact .inl hk
 obtain⟨b1,b2,b3⟩:=h.bx;have hbx:=h.frozen hc p.Bx b1;refine⟨λy z k hyz hy hz=>?_,λy k hy=>?_,λy k hy=>?_,λy k hy=>?_,λk hk=>Nat.lt_of_lt_of_le (h.lt0 k hk) hc.size,⟨Nat.lt_of_lt_of_le h.wg.1 hc.size,Nat.lt_of_lt_of_le h.wg.2.1 hc.size,h.wg.2.2⟩,λy=>⟨λhy=>?_,λhy=>?_⟩,λy k hy=>?_,hc.pay h.pay,⟨b1,?_,?_⟩,λl hl=>?_,h.rest.trans hc.rest⟩
 ·rcases key y k hy with h1|⟨h1,h2,h3⟩<;>rcases key z k hz with h4|⟨h4,h5,h6⟩
  ·exact h.dis y z k hyz h1 h4
  ·have:=h.lt y k h1;omega
  ·have:=h.lt z k h4;omega
  ·exact hyz (h1.trans h4.symm)
 ·by_cases e:y=x
  ·subst e;rw[upd_same] at hy ⊢;exact hd k hy
  ·rw[upd_ne own _ e] at hy;rw[upd_ne gv _ e];exact h.gvd y k hy
 ·intro hs;rcases key y k hy with h1|⟨_,h2,_⟩
  ·exact h.frz y k h1 hs
  ·have:=h.lt0 k hs;omega
 ·rcases key y k hy with h1|⟨_,_,h2⟩
  ·exact Nat.lt_of_lt_of_le (h.lt y k h1) hc.size
  ·exact h2
 ·rcases key y p.Wg hy with h1|⟨_,h2,_⟩
  ·exact(h.nwg y).1 h1
  ·have:=h.wg.1;omega
 ·rcases key y p.C hy with h1|⟨_,h2,_⟩
  ·exact(h.nwg y).2 h1
  ·have:=h.wg.2.1;omega
 ·rcases key y k hy with h1|⟨rfl,h2,h3⟩
  ·exact h.out y k h1
  ·exact hx qo
 ·obtain⟨cs,h1,h2⟩:=b2;exact⟨cs,by rw[hbx];exact h1,h2⟩
 ·exact(cell_of_block hbx 0).trans b3
 ·obtain⟨a,h1,h2,h3,h4⟩:=h.shun l hl;refine⟨a,h1,Nat.lt_of_lt_of_le h2 hc.size,λy hy=>?_,h4⟩;rcases key y a.block hy with h5|⟨_,h5,_⟩
  ·exact h3 y h5
  ·omega
end
def Un(p:Ph)(own gv:Nat->Bk)(x:Nat)(l:Loc):Prop:=
 (∃a,l=.cell a/\(own x a.block\/gv x a.block))\/(∃r,l=.obj r/\(own x r\/gv x r))\/(p.b0<x/\∃a,l=.cell a/\a.block=p.C/\a.off/p.m=x-1-p.b0)
def RdL(p:Ph)(x:Nat)(l:Loc):Prop:=p.b0<x/\∃a,l=.cell a/\p.S0 a.block
def ShL(p:Ph)(l:Loc):Prop:=p.Sh0 l\/ShN p.Wg l
structure TI(p:Ph)(j:Nat)(B:Nat)(t:Trace)(own gv:Nat->Bk):Prop where
 ct:CT (ShL p) (Un p own gv) (RdL p) t j
 low:∀op∈t,op.act.low B
 ho:HO p.b0 t
 norel:NoRelease (stA p.Wg) t
 oldk:∀i a g,touchAt t i=some a->t.g? i=some g->g≠0->g<=p.b0->¬p.Sh0 a.loc->Knows t 0 i
 cnt:∀i a g,touchAt t i=some a->t.g? i=some g->p.b0<g->¬ShN p.Wg a.loc->t.counts i
def Cnt(p:Ph)(d:Nat)(es:Array Event):Prop:=(∀e∈es,∀y,(MemAct.ofEvent e).touch?=some y->ShN p.Wg y.loc)\/(d=0/\∀e∈es,e.loc≠.mark .disable/\e.loc≠.mark .enable)
section
variable [Payload]{p:Ph}{j x:Nat}{w w':World}{own gv:Nat->Bk}{own' gv':Bk}{t u:Trace}
def MI.apart(h:MI p j w own gv):Apart (ShL p) (Un p own gv) (RdL p):=by
 refine⟨λk k' l h1 h2=>?_,λk k' l h1 h2=>?_,λk l h1 h2=>?_,λk l h1 h2=>?_⟩
 ·rcases h1 with ⟨a,rfl,h1⟩|⟨r,rfl,h1⟩|⟨hb,a,rfl,h1,h3⟩<;>rcases h2 with ⟨a',h4,h2⟩|⟨r',h4,h2⟩|⟨hb',a',h4,h2,h5⟩<;>cases h4
  ·exact Classical.byContradiction λhx=>h.dis k k' _ hx h1 h2
  ·exact absurd (h2 ▸ h1) (h.nwg k).2
  ·exact Classical.byContradiction λhx=>h.dis k k' _ hx h1 h2
  ·exact absurd (h1 ▸ h2) (h.nwg k').2
  ·omega
 ·obtain⟨_,a',h3,h4⟩:=h2;rcases h1 with ⟨a,rfl,h1⟩|⟨r,rfl,h1⟩|⟨_,a,rfl,h1,_⟩<;>cases h3
  ·exact h.frz k _ h1 h4
  ·exact h.wg.2.2.2.2 (h1 ▸ h4)
 ·rcases h2 with h2|⟨a',h2,h3⟩
  ·obtain⟨a',rfl,_,h4,h5,h6,h7⟩:=h.shun l h2;rcases h1 with ⟨a,h8,h1⟩|⟨r,h8,h1⟩|⟨_,a,h8,h1,_⟩<;>cases h8
   ·exact h4 k h1
   ·exact h7 h1
  ·subst h2;rcases h1 with ⟨a,h8,h1⟩|⟨r,h8,h1⟩|⟨_,a,h8,h1,_⟩<;>cases h8
   ·exact(h.nwg k).1 (h3 ▸ h1)
   ·exact h.wg.2.2.1 (h3.symm.trans h1)
 ·obtain⟨_,a,rfl,h3⟩:=h1;rcases h2 with h2|⟨a',h2,h4⟩
  ·obtain⟨a',h5,_,_,h6,_⟩:=h.shun _ h2;cases h5;exact h6 h3
  ·cases h2;exact h.wg.2.2.2.1 (h4 ▸ h3)
def TI.grow(ht:TI p j w.heap.size t own gv)(hs:w.heap.size<=w'.heap.size)(hnew:∀k,own' k\/gv' k->(own x k\/gv x k)\/(w.heap.size<=k/\k<w'.heap.size))(hold:∀k,own x k\/gv x k->own' k\/gv' k) :
  TI p j w'.heap.size t (upd own x own') (upd gv x gv'):=by
 refine⟨K8 ht.ct (λ_ h=>.inl h) (λ_ h=>h) (λk _ _ l hl=>?_) (λk _ _ l hl=>?_) λ_ _ _ _=>Iff.rfl,λop hop=>MemAct.low_mono hs (ht.low op hop),ht.ho,ht.norel,ht.oldk,ht.cnt⟩
 ·by_cases e:k=x
  ·subst e;simp only[Un,upd_same] at hl;rcases hl with ⟨a,rfl,h1⟩|⟨r,rfl,h1⟩|h1
   ·rcases hnew _ h1 with h2|h2
    ·exact .inl (.inl ⟨a,rfl,h2⟩)
    ·exact .inr (NT.cell ht.low h2.1)
   ·rcases hnew _ h1 with h2|h2
    ·exact .inl (.inr (.inl ⟨r,rfl,h2⟩))
    ·exact .inr (NT.obj ht.low h2.1)
   ·exact .inl (.inr (.inr h1))
  ·simp only[Un,upd_ne own _ e,upd_ne gv _ e] at hl;exact .inl hl
 ·by_cases e:k=x
  ·subst e;simp only[Un,upd_same];rcases hl with ⟨a,rfl,h1⟩|⟨r,rfl,h1⟩|h1
   ·exact .inl ⟨a,rfl,hold _ h1⟩
   ·exact .inr (.inl ⟨r,rfl,hold _ h1⟩)
   ·exact .inr (.inr h1)
  ·simp only[Un,upd_ne own _ e,upd_ne gv _ e];exact hl
def HD{t u:Trace}{i g:Nat}{a:Touch}(ha:touchAt (t++u) i=some a)(hg:(t++u).g? i=some g):(i<t.size/\touchAt t i=some a/\t.g? i=some g)\/(t.size<=i/\∃op∈u,u[i-t.size]?=some op/\op.g=g/\op.act.touch?=some a):=by
 obtain⟨op,ho,hox⟩:=touch_of ha;rcases getElem?_append_cases ho with ⟨hi,ho'⟩|⟨hi,hou⟩
 ·exact .inl ⟨hi,by rw[touchAt_of ho'];exact hox,by simpa [Trace.g?,getElem?_append_old hi] using hg⟩
 ·refine .inr ⟨hi,op,hou,?_,by simpa [Trace.g?,ho] using hg,hox⟩;rw[Array.getElem?_append] at ho;simpa [Nat.not_lt.2 hi] using ho
def H2{p:Ph}{t u:Trace}(h:∀i a g,touchAt t i=some a->t.g? i=some g->g≠0->g<=p.b0->¬p.Sh0 a.loc->Knows t 0 i)(hu:∀op∈u,op.g=0\/p.b0<op.g\/op.act.touch?=none) :
  ∀i a g,touchAt (t++u) i=some a->(t++u).g? i=some g->g≠0->g<=p.b0->¬p.Sh0 a.loc->Knows (t++u) 0 i:=λi a g ha hg h1 h2 h3=>by
 rcases HD ha hg with ⟨_,h4,h5⟩|⟨_,op,h4,_,h5,h6⟩
 ·exact(h i a g h4 h5 h1 h2 h3).app u
 ·rcases hu op h4 with h7|h7|h7
  ·exact absurd (h5 ▸ h7) h1
  ·omega
  ·rw[h7] at h6;cases h6
def cnt_app{p:Ph}{t:Trace}{k d:Nat}{fn:FuncId}{pos:String}{es:Array Event}(h:∀i a g,touchAt t i=some a->t.g? i=some g->p.b0<g->¬ShN p.Wg a.loc->t.counts i)(hd:Deaf t k=d)(hc:k=0\/(Cnt p d es/\∀e∈es,∀y,(MemAct.ofEvent e).touch?=some y->y.loc.isMemory=true)) :
  ∀i a g,touchAt (t++MemOp.ofEvents k fn pos es) i=some a->(t++MemOp.ofEvents k fn pos es).g? i=some g->p.b0<g->¬ShN p.Wg a.loc->(t++MemOp.ofEvents k fn pos es).counts i:=λi a g ha hg h1 h2=>by
 rcases HD ha hg with ⟨hi,h4,h5⟩|⟨hi,op,h4,h7,h5,h6⟩
 ·exact(counts_old hi).2 (h i a g h4 h5 h1 h2)
 ·obtain⟨e,he,rfl⟩:=Go.Conc.mem_ofEvents h4;simp only at h5 h6;rcases hc with hc|⟨hc|⟨hd0,hc⟩,h3⟩
  ·omega
  ·exact absurd (hc e he a h6) h2
  ·refine⟨a,ha,h3 e he a h6,.inr ⟨g,hg,?_⟩⟩
   have hsz:i-t.size<=es.size:=by
    have:=(Array.getElem?_eq_some_iff.1 h7).1;rw[ofEvents_eq] at this;simp at this;omega
   have:=deaf_inside t k fn pos es (i-t.size) hsz;rw[show t.size+(i-t.size)=i by omega] at this
   rw[<-h5,this,hd,deafBehind_still (λe he=>hc e (by
    obtain⟨q,hq,rfl⟩:=Array.mem_iff_getElem.1 he;simp)),hd0]
def EvT(p:Ph)(own gv:Nat->Bk)(B:Nat)(k:Nat)(e:Event):Prop:=
 (∀a,(MemAct.ofEvent e).touch?=some a->(ShN p.Wg a.loc/\a.kind≠.plain/\(a.kind=.said->k=0))\/Un p own gv k a.loc\/((k=0\/p.b0<k)/\(∃b,a.loc=.cell b/\p.S0 b.block)/\a.write=false))/\(MemAct.ofEvent e).low B/\e.loc≠.mark (.release (stA p.Wg))
def TI.addW(h:MI p j w own gv)(ht:TI p j w.heap.size t own gv){k:Nat}(k1:1<=k)(kj:k<=j){fn:FuncId}{pos:String}{es:Array Event}(he:∀e∈es,EvT p own gv w.heap.size k e)(hk:p.b0<k\/∀e∈es,(MemAct.ofEvent e).touch?=none)(hcn:Cnt p (Deaf t k) es) :
  TI p j w.heap.size (t++MemOp.ofEvents k fn pos es) own gv:=by
 have hu:∀op∈MemOp.ofEvents k fn pos es,op.g=0\/p.b0<op.g\/op.act.touch?=none:=λop hop=>by
  obtain⟨e,hx,rfl⟩:=Go.Conc.mem_ofEvents hop;exact hk.elim (λh=>.inr (.inl h)) λh=>.inr (.inr (h e hx))
 refine⟨ht.ct.appW h.apart k1 kj λop hop=>?_,seen_app ht.low λop hop=>?_,ht.ho.app hu,ht.norel.app (norel_of λe hx=>(he e hx).2.2),H2 ht.oldk hu,cnt_app ht.cnt rfl (.inr ⟨hcn,λe hx y hy=>by
  rcases(he e hx).1 y hy with ⟨⟨ad,h1,_⟩,_⟩|h1|⟨_,⟨ad,h1,_⟩,_⟩
  ·rw[h1];rfl
  ·rcases h1 with ⟨ad,h1,_⟩|⟨r,h1,_⟩|⟨_,ad,h1,_⟩<;>rw[h1]<;>rfl
  ·rw[h1];rfl⟩)⟩
 ·obtain⟨e,hx,rfl⟩:=Go.Conc.mem_ofEvents hop;refine⟨rfl,λa ha=>?_⟩;rcases(he e hx).1 a ha with ⟨h1,h2,h3⟩|h1|⟨h1,h2,h3⟩
  ·exact .inl ⟨.inr h1,h2,λx=>by have:=h3 x;omega⟩
  ·exact .inr (.inl h1)
  ·exact .inr (.inr ⟨⟨by omega,h2⟩,h3⟩)
 ·obtain⟨e,hx,rfl⟩:=Go.Conc.mem_ofEvents hop;exact(he e hx).2.1
def TI.add0(h:MI p j w own gv)(ht:TI p j w.heap.size t own gv){fn:FuncId}{pos:String}{es:Array Event}(he:∀e∈es,EvT p own gv w.heap.size 0 e) :
  TI p j w.heap.size (t++MemOp.ofEvents 0 fn pos es) own gv:=by
 have A:=h.apart
 have hu:∀op∈MemOp.ofEvents 0 fn pos es,op.g=0\/p.b0<op.g\/op.act.touch?=none:=λop hop=>by
  obtain⟨e,hx,rfl⟩:=Go.Conc.mem_ofEvents hop;exact .inl rfl
 refine⟨ht.ct.app0 A λop hop=>?_,seen_app ht.low λop hop=>?_,ht.ho.app hu,ht.norel.app (norel_of λe hx=>(he e hx).2.2),H2 ht.oldk hu,cnt_app ht.cnt rfl (.inl rfl)⟩
 ·obtain⟨e,hx,rfl⟩:=Go.Conc.mem_ofEvents hop;refine⟨rfl,λa ha=>?_⟩;rcases(he e hx).1 a ha with ⟨h1,h2,h3⟩|h1|⟨h1,⟨b,h2,h4⟩,h3⟩
  ·exact .inl ⟨.inr h1,h2⟩
  ·refine .inr ⟨A.ownSh 0 _ h1,λk k1 _ h2=>?_,λ_ k k1 _ h2=>A.ownRd 0 k _ h1 h2⟩;have:=A.own 0 k _ h1 h2;omega
  ·have hrd:RdL p (p.b0+1) a.loc:=⟨by omega,b,h2,h4⟩
   exact .inr ⟨A.rdSh _ _ hrd,λk _ _ h5=>A.ownRd k _ _ h5 hrd,λh5=>by rw[h3] at h5;cases h5⟩
 ·obtain⟨e,hx,rfl⟩:=Go.Conc.mem_ofEvents hop;exact(he e hx).2.1
end
end W
end
section
open Go.RowKit
open Go.Conc hiding base G
open Go.ConcN
open Go.ConcR (KK WgAt stA smA rd wr mk Payload DC0 bk_of_mute ofEvent_loc_mark ofEvent_cell g_of_ofEvents)
namespace W
section
variable [Payload](P:Program)(p:Ph)
def Hl(w:World):Prop:=WgLive p.ty p.Wg w/\PayAt p.Bx 1 w/\ConcN.Has p.Bx 0 p.v0 w/\PayC p.C p.m p.N p.ety w
def RowOk(ri:Nat)(sh own:Bk)(w w':World)(es:Array Event)(own':Bk):Prop:=
 ∃vs:List Value,vs.length=p.m/\(∀k,¬own' k)/\(∃k,own k)/\Rest w w'/\w'.heap.size=w.heap.size/\(∀k,k≠p.C->w'.heap[k]?=w.heap[k]?)/\(PayC p.C p.m p.N p.ety w->PayC p.C p.m p.N p.ety w')/\
  (∀r,r<p.m->w'.cell? ⟨p.C,p.m*ri+r,none⟩=vs[r]?)/\(∀o,o/p.m≠ri->w'.cell? ⟨p.C,o,none⟩=w.cell? ⟨p.C,o,none⟩)/\
  (∀e∈es,∃o,o/p.m=ri/\e=⟨.cell ⟨p.C,o,none⟩,true,false⟩)/\p.F ri vs (JV (λk=>own k\/sh k) w)
def VJ(ri:Nat):Md:=⟨false,Hl p,RowOk p ri,λ_ _ _ _ _=>False,p.hid⟩
def SR0:GSt:=λown g w=>(∀k,¬own k)/\(Hl p w->AtR0 P p.ty p.Wg p.Bx 1 0 1 p.v0 g w)
def Wrk(ri box:Nat)(g:Goroutine)(w:World):Prop:=Run P (VJ p ri) p.S0 (SR0 P p) (λk=>k=box) g w
inductive WS(ri:Nat):ConcN.WD->Tr->Bk->Goroutine->World->Prop
 |r0 {t:Tr} {own:Bk} {g:Goroutine} {w:World}:RunT P (VJ p ri) p.S0 (SR0 P p) t own g w->WS ri ⟨7,0,0⟩ t own g w
 |bk {x:ConcN.WD} {t:Tr} {own:Bk} {g:Goroutine} {w:World}:Bks P p.ty p.Wg p.Bx p.v0 x.stage x.fuel x.deaf g w->(∀k,¬own k)->WS ri x t own g w
variable (Fin AnchW:GSt)(n:Nat)
structure PI(j:Nat)(gs:Array Goroutine)(w:World)(t:Trace)(D:Nat->ConcN.WD)(T:Nat->Tr)(own gv:Nat->Bk)(tag:CTag)(d0:Nat)(a:Goroutine)(st sm:Int):Prop where
 size:gs.size=j+1
 bj:p.b0<=j
 m0:gs[0]?=some a
 main:MS P p.ty p.Wg p.S0 (Wrk P p) Fin AnchW n p.b0 tag d0 j (T 0) (own 0) a w
 wk:∀i,i<j->∃g,gs[i+1]?=some g/\WS P p (i-p.b0) (D i) (T (i+1)) (own (i+1)) g w
 old:∀i,i<p.b0->(D i).stage=1
 mi:MI p j w own gv
 ti:TI p j w.heap.size t own gv
 deaf0:Deaf t 0=d0
 deafW:∀i,i<j->Deaf t (i+1)=(D i).deaf
 rel:∀i,p.b0<=i->i<j->(D i).stage<=6->∃r,RelBy (stA p.Wg) t (i+1) r
 row:∀i,p.b0<=i->i<j->(∀k,¬own (i+1) k)->∃vs,VK p.C p.m w (i-p.b0) vs/\p.F (i-p.b0) vs (JV (λk=>gv (i+1) k\/p.S0 k) w)
 wg:WgAt p.ty p.Wg w st sm
 mode:ConcN.Mode j D tag st sm
end
section
variable [Payload]{P:Program}{p:Ph}{Fin AnchW:GSt}{n j d0:Nat}{gs:Array Goroutine}{w w':World}{t:Trace}{D:Nat->ConcN.WD}{T:Nat->Tr}{own gv:Nat->Bk}{tag:CTag}{a:Goroutine}{st sm st' sm':Int}
def RunT.status{main:Md}{sh o:Bk}{X:GSt}{tr:Tr}{g:Goroutine}(h:RunT P main sh X tr o g w)(hX:X o g w->g.status=.running):g.status=.running:=by
 cases h with
 |stop h=>exact hX (h w (Rly.refl _ _ _))
 |step f g' w' es own' h1=>exact h1
def WS.status{ri:Nat}{x:ConcN.WD}{tr:Tr}{o:Bk}{g:Goroutine}(h:WS P p ri x tr o g w)(hi:Hl p w):g.status=.running\/g.status=.finished:=by
 cases h with
 |r0 h=>exact .inl (h.status λhx=>(hx.2 hi).1)
 |bk h _=>exact h.2.status
def WS.rely{ri:Nat}{x:ConcN.WD}{tr:Tr}{o:Bk}{g:Goroutine}(h:WS P p ri x tr o g w)(hr:Rly o p.S0 w w')(hbx:RW p.ty p.Wg p.Bx 1 0 0 w w'):WS P p ri x tr o g w':=by
 cases h with
 |r0 h=>exact .r0 (h.rely hr)
 |bk h1 h2=>exact .bk ⟨h1.1,h1.2.rely hbx⟩ h2
def ZJ{a a' g:Goroutine}{w':World}(h:g.status=.running\/g.status=.finished):woken P a a' w' g=g:=by
 unfold Go.Conc.woken;split
 ·exact again_running _ h
 ·rfl
def MS.status{tr:Tr}{o:Bk}(hA:∀own g w,AnchW own g w->g.status=.running)(h:MS P p.ty p.Wg p.S0 (Wrk P p) Fin AnchW n p.b0 tag d0 j tr o a w)(hl:WgLive p.ty p.Wg w):(a.status=.running/\tag≠.blk)\/(a.status=.blocked/\tag=.blk):=by
 cases h with
 |skd _ h=>exact .inl ⟨h.status λhx=>(hx hl).1,by simp⟩
 |sa1 _ h=>exact .inl ⟨h.status λhx=>(hx hl).1,by simp⟩
 |ske _ h=>exact .inl ⟨h.status λhx=>(hx hl).1,by simp⟩
 |sgo _ h=>exact .inl ⟨h.status λhx=>(hx hl).1,by simp⟩
 |kd h=>exact .inl ⟨h.status λhx=>(hx hl).1,by simp⟩
 |anch h=>exact .inl ⟨h.status λhx=>hA _ _ _ (hx hl),by simp⟩
 |w1 h=>exact .inl ⟨h.status λhx=>(hx hl).1,by simp⟩
 |w2 h=>exact .inl ⟨h.status λhx=>(hx hl).1,by simp⟩
 |w3 h=>exact .inl ⟨h.status λhx=>(hx hl).1,by simp⟩
 |blk h1 h2 h3=>exact .inr ⟨rfl,rfl⟩
 |w4 h=>exact .inl ⟨h.status λhx=>(hx hl).1,by simp⟩
 |ke h=>exact .inl ⟨h.status λhx=>(hx hl).1,by simp⟩
 |acq h=>exact .inl ⟨h.status λhx=>(hx hl).1,by simp⟩
def MS.wokenBy{tr:Tr}{o:Bk}(hA:∀own g w,AnchW own g w->g.status=.running)(h:MS P p.ty p.Wg p.S0 (Wrk P p) Fin AnchW n p.b0 tag d0 j tr o a w)(hl:WgLive p.ty p.Wg w)(hr:Rly o p.S0 w w')(hl':WgLive p.ty p.Wg w')(g g':Goroutine) :
  ∃tag',MS P p.ty p.Wg p.S0 (Wrk P p) Fin AnchW n p.b0 tag' d0 j tr o (woken P g g' w' a) w'/\(tag'=tag\/(tag=.blk/\tag'=.w3))/\(mayWake P g=true->g'.status=.running->tag'≠.blk):=by
 have h':=h.rely hr;unfold Go.Conc.woken;split
 ·rcases h.status hA hl with ⟨hs,hne⟩|⟨_,rfl⟩
  ·exact⟨tag,by rw[again_running _ (.inl hs)];exact h',.inl rfl,λ_ _=>hne⟩
  ·cases h' with
   |blk h1 h2 h3=>exact⟨.w3,by rw[Go.ConcR.again_blocked h1 h2];exact .w3 (.stop h3),.inr ⟨rfl,rfl⟩,λ_ _=>by simp⟩
 ·rename_i hc
  exact⟨tag,h',.inl rfl,λh1 h2=>absurd (by simp[h1,h2]) hc⟩
def PI.inv(h:PI P p Fin AnchW n j gs w t D T own gv tag d0 a st sm):Hl p w:=⟨⟨_,_,h.wg⟩,h.mi.bx.2.1,h.mi.bx.2.2,h.mi.pay⟩
def rw_of(hbx:w'.heap[p.Bx]?=w.heap[p.Bx]?)(hl:WgLive p.ty p.Wg w'):RW p.ty p.Wg p.Bx 1 0 0 w w':=
 ⟨λb hb=>by omega,λ_=>hl,λ⟨cs,h1,h2⟩=>⟨cs,by rw[hbx];exact h1,h2⟩,cell_of_block hbx 0⟩
def PI.stepW(hA:∀own g w,AnchW own g w->g.status=.running)(h:PI P p Fin AnchW n j gs w t D T own gv tag d0 a st sm){i:Nat}(hi:i<j){g g':Goroutine}{es:Array Event}{own' gv':Bk}{x':ConcN.WD}{t':Tr}
  (hc:Chg p (i+1) own w w') (hfr:w.heap.size<w'.heap.size->p.b0<i+1) (hnew:∀k,own' k\/gv' k->(own (i+1) k\/gv (i+1) k)\/(w.heap.size<=k/\k<w'.heap.size)) (hold:∀k,own (i+1) k\/gv (i+1) k->own' k\/gv' k) (hd:∀k,own' k->¬gv' k)
  (hs':WS P p (i-p.b0) x' t' own' g' w') (hev:∀e∈es,EvT p (upd own (i+1) own') (upd gv (i+1) gv') w'.heap.size (i+1) e) (hk:p.b0<i+1\/∀e∈es,(MemAct.ofEvent e).touch?=none) (hcn:Cnt p (D i).deaf es)
  (hdeaf:deafBehind (D i).deaf es=x'.deaf) (hrel:p.b0<=i->x'.stage<=6->∃r,RelBy (stA p.Wg) (t++MemOp.ofEvents (i+1) g.frame.fn g.frame.place es) (i+1) r)
  (hrow:p.b0<=i->(∀k,¬own' k)->∃vs,VK p.C p.m w' (i-p.b0) vs/\p.F (i-p.b0) vs (JV (λk=>gv' k\/p.S0 k) w')) (hol:i<p.b0->x'.stage=1)
  (hwg:WgAt p.ty p.Wg w' st' sm') (hmode:∀tag',(tag'=tag\/(tag=.blk/\tag'=.w3))->(mayWake P g=true->g'.status=.running->tag'≠.blk)->ConcN.Mode j (upd D i x') tag' st' sm') :
  ∃tag',(tag'=tag\/(tag=.blk/\tag'=.w3))/\PI P p Fin AnchW n j ((gs.map (woken P g g' w')).setIfInBounds (i+1) g') w' (t++MemOp.ofEvents (i+1) g.frame.fn g.frame.place es) (upd D i x') (upd T (i+1) t') (upd own (i+1) own') (upd gv (i+1) gv') tag' d0 (woken P g g' w' a) st' sm':=by
 have hl':WgLive p.ty p.Wg w':=⟨_,_,hwg⟩
 obtain⟨tag',hm,htag,hwk⟩:=h.main.wokenBy hA ⟨_,_,h.wg⟩ (h.mi.others hc (y:=0) qo) hl' g g';have hmi:=h.mi.next hc (λhx=>.inr ⟨hfr hx,by omega⟩) hnew hd;have hti:=(h.ti.grow hc.size hnew hold).addW hmi qo qo (fn:=g.frame.fn) (pos:=g.frame.place) hev hk (by rw[h.deafW i hi];exact hcn);have hfro:=h.mi.frozen hc;refine⟨tag',htag,by simp[h.size],h.bj,?_,?_,λi' hi'=>?_,λi' hi'=>?_,hmi,hti,?_,λi' hi'=>?_,λi' hb hi' hs=>?_,λi' hb hi' ho=>?_,hwg,hmode tag' htag hwk⟩
 ·rw[get_map_set _ _ _ _ qo,h.m0];rfl
 ·rw[upd_ne T _ qo,upd_ne own _ qo];exact hm
 ·by_cases e:i'=i
  ·subst e;exact⟨g',get_map_set_same _ _ _ (by rw[h.size];omega),by rw[upd_same,upd_same,upd_same];exact hs'⟩
  ·obtain⟨y,hy,hsy⟩:=h.wk i' hi';refine⟨y,by rw[get_map_set _ _ _ _ qo,hy,Option.map_some,ZJ (hsy.status h.inv)],?_⟩;rw[upd_ne D _ e,upd_ne T _ qo,upd_ne own _ qo];exact hsy.rely (h.mi.others hc (y:=i'+1) qo) (rw_of (hfro _ h.mi.bx.1) hl')
 ·by_cases e:i'=i
  ·subst e;rw[upd_same];exact hol hi'
  ·rw[upd_ne D _ e];exact h.old i' hi'
 ·rw[Deaf_other t qo _ g_of_ofEvents,h.deaf0]
 ·by_cases e:i'=i
  ·subst e;rw[Deaf_own,h.deafW i' hi',upd_same];exact hdeaf
  ·rw[Deaf_other t qo _ g_of_ofEvents,h.deafW i' hi',upd_ne D _ e]
 ·by_cases e:i'=i
  ·subst e;rw[upd_same] at hs;exact hrel hb hs
  ·rw[upd_ne D _ e] at hs;obtain⟨r,hr⟩:=h.rel i' hb hi' hs;exact⟨r,hr.appOther g_of_ofEvents qo⟩
 ·by_cases e:i'=i
  ·subst e;rw[upd_same] at ho;rw[upd_same];exact hrow hb ho
  ·rw[upd_ne own _ qo] at ho;rw[upd_ne gv _ qo];obtain⟨vs,⟨h1,h2⟩,h3⟩:=h.row i' hb hi' ho
   have hm0:∀r,r<p.m->(p.m*(i'-p.b0)+r)/p.m=i'-p.b0:=λr hr=>by
    rw[Nat.mul_add_div qo,Nat.div_eq_of_lt hr];rfl
   refine⟨vs,⟨h1,λr hr=>?_⟩,?_⟩
   ·rw[hc.cells _ (by
     by_cases hbi:i+1<=p.b0
     ·exact .inl hbi
     ·right;rw[hm0 r hr];omega)]
    exact h2 r hr
   ·rw[XE (λk hk=>hk.elim (h.mi.given hc (i'+1) k) (hfro k))];exact h3
def PI.step0(h:PI P p Fin AnchW n j gs w t D T own gv tag d0 a st sm){a':Goroutine}{es:Array Event}{own':Bk}{tag':CTag}{d':Nat}{t':Tr}
  (hc:Chg p 0 own w w') (hnew:∀k,own' k->own 0 k\/(w.heap.size<=k/\k<w'.heap.size)) (hold:∀k,own 0 k->own' k)
  (hs':MS P p.ty p.Wg p.S0 (Wrk P p) Fin AnchW n p.b0 tag' d' j t' own' a' w') (hev:∀e∈es,EvT p (upd own 0 own') gv w'.heap.size 0 e)
  (hdeaf:deafBehind d0 es=d') (hwg:WgAt p.ty p.Wg w' st' sm') (hmode:ConcN.Mode j D tag' st' sm') :
  PI P p Fin AnchW n j ((gs.map (woken P a a' w')).setIfInBounds 0 a') w' (t++MemOp.ofEvents 0 a.frame.fn a.frame.place es) D (upd T 0 t') (upd own 0 own') gv tag' d' a' st' sm':=by
 have hl':WgLive p.ty p.Wg w':=⟨_,_,hwg⟩
 have egv:upd gv 0 (gv 0)=gv:=by funext k;by_cases e:k=0<;>simp[upd,e]
 have hnew':∀k,own' k\/gv 0 k->(own 0 k\/gv 0 k)\/(w.heap.size<=k/\k<w'.heap.size):=λk hk=>hk.elim (λx=>(hnew k x).imp .inl id) λx=>.inl (.inr x);have hold':∀k,own 0 k\/gv 0 k->own' k\/gv 0 k:=λk hk=>hk.imp (hold k) id;have hmi:=h.mi.next hc (λ_=>.inl rfl) hnew' (λk hk hg=>(hnew k hk).elim (λx=>h.mi.gvd 0 k x hg) λx=>by have:=h.mi.lt 0 k (.inr hg);omega);have hti0:=h.ti.grow hc.size hnew' hold';rw[egv] at hmi hti0;have hti:=hti0.add0 hmi (fn:=a.frame.fn) (pos:=a.frame.place) hev;have hfro:=h.mi.frozen hc;refine⟨by simp[h.size],h.bj,get_map_set_same _ _ _ (by rw[h.size];omega),by rw[upd_same,upd_same];exact hs',λi' hi'=>?_,h.old,hmi,hti,?_,λi' hi'=>?_,λi' hb hi' hs=>?_,λi' hb hi' ho=>?_,hwg,hmode⟩
 ·obtain⟨y,hy,hsy⟩:=h.wk i' hi';refine⟨y,by rw[get_map_set _ _ _ _ qo,hy,Option.map_some,ZJ (hsy.status h.inv)],?_⟩;rw[upd_ne T _ qo,upd_ne own _ qo];exact hsy.rely (h.mi.others hc (y:=i'+1) qo) (rw_of (hfro _ h.mi.bx.1) hl')
 ·rw[Deaf_own,h.deaf0];exact hdeaf
 ·rw[Deaf_other t qo _ g_of_ofEvents,h.deafW i' hi']
 ·obtain⟨r,hr⟩:=h.rel i' hb hi' hs;exact⟨r,hr.appOther g_of_ofEvents qo⟩
 ·rw[upd_ne own _ qo] at ho;obtain⟨vs,⟨h1,h2⟩,h3⟩:=h.row i' hb hi' ho;refine⟨vs,⟨h1,λr hr=>?_⟩,?_⟩
  ·rw[hc.cells _ (.inl (Nat.zero_le _))];exact h2 r hr
  ·rw[XE (λk hk=>hk.elim (h.mi.given hc (i'+1) k) (hfro k))];exact h3
end
end W
end
end Go.Proofs.YtbnobghgnbockaaGreat
