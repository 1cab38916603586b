/- Lemmas for a law. Conditions: none. -/
import Derived.Test.YtcpaopfdiahnnaaGreatMv8
set_option linter.all false
set_option maxHeartbeats 32000000
set_option maxRecDepth 100000
namespace Go.Proofs.YtcpaopfdiahnnaaGreat
section
open Go.RowKit
open Go.Conc hiding base G
open Go.ConcN
open Go.ConcR (KK WgAt stA smA rd wr mk Payload DC0 bk_of_mute ofEvent_loc_mark ofEvent_cell)
namespace W
def PayC (C m N ety:Nat) (w:World):Prop:=∃ cs:Array Value,w.heap[C]?=some (.cells cs ety (0,0))∧cs.size=m*N
def Vx (C m:Nat) (w:World) (ri:Nat) (vs:List Value):Prop:=vs.length=m∧∀ r,r < m->w.cell? ⟨C,m*ri+r,none⟩=vs[r]?
open Classical in
noncomputable def JG (B:Bk) (w:World):Nat->Option Obj:=λk=>if B k then w.heap[k]? else none
def XG {B:Bk} {w w':World} (h:∀ k,B k->w'.heap[k]?=w.heap[k]?):JG B w'=JG B w:=by
 funext k
 unfold JG;split
 ·rename_i hb;exact h k hb
 ·rfl
structure Ph where
 ty:TypeId
 Wg:Nat
 Bx:Nat
 v0:Value
 C:Nat
 m:Nat
 N:Nat
 ety:TypeId
 b0:Nat
 S0:Bk
 Sh0:Loc->Prop
 F:Nat->List Value->(Nat->Option Obj)->Prop
 w0:World
  /-- what no worker is to know of -/
 hid:Bk
structure MI [Payload] (p:Ph) (j:Nat) (w:World) (own gv:Nat->Bk):Prop where
 dis:∀ x y k,x≠y->(own x k∨gv x k)->¬(own y k∨gv y k)
 gvd:∀ x k,own x k->¬gv x k
 frz:∀ x k,own x k∨gv x k->¬p.S0 k
 lt:∀ x k,own x k∨gv x k->k < w.heap.size
 lt0:∀ k,p.S0 k->k < w.heap.size
 wg:p.Wg < w.heap.size∧p.C < w.heap.size∧p.Wg≠p.C∧¬p.S0 p.Wg∧¬p.S0 p.C
 nwg:∀ x,¬(own x p.Wg∨gv x p.Wg)∧¬(own x p.C∨gv x p.C)
 out:∀ x k,own x k∨gv x k->x=0∨(p.b0 < x∧x<=j)
 pay:PayC p.C p.m p.N p.ety w
 bx:p.S0 p.Bx∧PayAt p.Bx 1 w∧ConcN.Has p.Bx 0 p.v0 w
 shun:∀ l,p.Sh0 l->∃ a,l=.cell a∧a.block < w.heap.size∧(∀ x,¬(own x a.block∨gv x a.block))∧¬p.S0 a.block∧a.block≠p.Wg∧a.block≠p.C
 rest:Rest p.w0 w
structure Chg (p:Ph) (x:Nat) (own:Nat->Bk) (w w':World):Prop where
 rest:Rest w w'
 size:w.heap.size<=w'.heap.size
 keep:∀ k,k < w.heap.size->¬own x k->k≠p.Wg->k≠p.C->w'.heap[k]?=w.heap[k]?
 pay:PayC p.C p.m p.N p.ety w->PayC p.C p.m p.N p.ety w'
 cells:∀ o,(x<=p.b0∨o / p.m≠x - 1 - p.b0)->w'.cell? ⟨p.C,o,none⟩=w.cell? ⟨p.C,o,none⟩
section
variable [Payload] {p:Ph} {j x:Nat} {w w':World} {own gv:Nat->Bk} {own' gv':Bk}
def MI.others (h:MI p j w own gv) (hc:Chg p x own w w') {y:Nat} (hy:y≠x):Rly (own y) p.S0 w w':=⟨hc.rest,hc.size,λk hk hm=>by
 rcases hm with hm|hm
 ·exact hc.keep k hk (λhx=>h.dis y x k hy (.inl hm) (.inl hx)) (λe=>(h.nwg y).1 (.inl (e ▸ hm))) (λe=>(h.nwg y).2 (.inl (e ▸ hm)))
 ·exact hc.keep k hk (λhx=>h.frz x k (.inl hx) hm) (λe=>h.wg.2.2.2.1 (e ▸ hm)) (λe=>h.wg.2.2.2.2 (e ▸ hm))⟩
def MI.given (h:MI p j w own gv) (hc:Chg p x own w w') (y:Nat):∀ k,gv y k->w'.heap[k]?=w.heap[k]?:=λk hk=>
 hc.keep k (h.lt y k (.inr hk)) (λhx=>by
  by_cases e:y=x
  ·subst e;exact h.gvd y k hx hk
  ·exact h.dis y x k e (.inr hk) (.inl hx)) (λe=>(h.nwg y).1 (.inr (e ▸ hk))) (λe=>(h.nwg y).2 (.inr (e ▸ hk)))
def MI.frozen (h:MI p j w own gv) (hc:Chg p x own w w'):∀ k,p.S0 k->w'.heap[k]?=w.heap[k]?:=λk hk=>
 hc.keep k (h.lt0 k hk) (λhx=>h.frz x k (.inl hx) hk) (λe=>h.wg.2.2.2.1 (e ▸ hk)) (λe=>h.wg.2.2.2.2 (e ▸ hk))
def MI.next (h:MI p j w own gv) (hc:Chg p x own w w') (hx:w.heap.size < w'.heap.size->x=0∨(p.b0 < x∧x<=j)) (hnew:∀ k,own' k∨gv' k->(own x k∨gv x k)∨(w.heap.size<=k∧k < w'.heap.size)) (hd:∀ k,own' k->¬gv' k) :
  MI p j w' (upd own x own') (upd gv x gv'):=by
 have key:∀ y k,(upd own x own' y k∨upd gv x gv' y k)->(own y k∨gv y k)∨(y=x∧w.heap.size<=k∧k < w'.heap.size):=λy k hk=>by
  by_cases e:y=x
  ·subst e;rw[upd_same,upd_same] at hk;exact(hnew k hk).imp id λh=>⟨rfl,h⟩
  ·rw[upd_ne own _ e,upd_ne gv _ e] at hk;exact .inl hk
 obtain⟨b1,b2,b3⟩:=h.bx;have hbx:=h.frozen hc p.Bx b1;refine⟨λy z k hyz hy hz=>?_,λy k hy=>?_,λy k hy=>?_,λy k hy=>?_,λk hk=>Nat.lt_of_lt_of_le (h.lt0 k hk) hc.size,⟨Nat.lt_of_lt_of_le h.wg.1 hc.size,Nat.lt_of_lt_of_le h.wg.2.1 hc.size,h.wg.2.2⟩,λy=>⟨λhy=>?_,λhy=>?_⟩,λy k hy=>?_,hc.pay h.pay,⟨b1,?_,?_⟩,λl hl=>?_,h.rest.trans hc.rest⟩
 ·rcases key y k hy with h1|⟨h1,h2,h3⟩ <;> rcases key z k hz with h4|⟨h4,h5,h6⟩
  ·exact h.dis y z k hyz h1 h4
  ·have:=h.lt y k h1;omega
  ·have:=h.lt z k h4;omega
  ·exact hyz (h1.trans h4.symm)
 ·by_cases e:y=x
  ·subst e;rw[upd_same] at hy ⊢;exact hd k hy
  ·rw[upd_ne own _ e] at hy;rw[upd_ne gv _ e];exact h.gvd y k hy
 ·intro hs;rcases key y k hy with h1|⟨_,h2,_⟩
  ·exact h.frz y k h1 hs
  ·have:=h.lt0 k hs;omega
 ·rcases key y k hy with h1|⟨_,_,h2⟩
  ·exact Nat.lt_of_lt_of_le (h.lt y k h1) hc.size
  ·exact h2
 ·rcases key y p.Wg hy with h1|⟨_,h2,_⟩
  ·exact(h.nwg y).1 h1
  ·have:=h.wg.1;omega
 ·rcases key y p.C hy with h1|⟨_,h2,_⟩
  ·exact(h.nwg y).2 h1
  ·have:=h.wg.2.1;omega
 ·rcases key y k hy with h1|⟨rfl,h2,h3⟩
  ·exact h.out y k h1
  ·exact hx qo
 ·obtain⟨cs,h1,h2⟩:=b2;exact⟨cs,by rw[hbx];exact h1,h2⟩
 ·exact(cell_of_block hbx 0).trans b3
 ·obtain⟨a,h1,h2,h3,h4⟩:=h.shun l hl;refine⟨a,h1,Nat.lt_of_lt_of_le h2 hc.size,λy hy=>?_,h4⟩;rcases key y a.block hy with h5|⟨_,h5,_⟩
  ·exact h3 y h5
  ·omega
end
def Uz (p:Ph) (own gv:Nat->Bk) (x:Nat) (l:Loc):Prop:=
 (∃ a,l=.cell a∧(own x a.block∨gv x a.block))∨(∃ r,l=.obj r∧(own x r∨gv x r))∨(p.b0 < x∧∃ a,l=.cell a∧a.block=p.C∧a.off / p.m=x - 1 - p.b0)
def RdL (p:Ph) (x:Nat) (l:Loc):Prop:=p.b0 < x∧∃ a,l=.cell a∧p.S0 a.block
def ShL (p:Ph) (l:Loc):Prop:=p.Sh0 l∨ShN p.Wg l
structure TI (p:Ph) (j:Nat) (B:Nat) (t:Trace) (own gv:Nat->Bk):Prop where
 ct:CT (ShL p) (Uz p own gv) (RdL p) t j
 low:∀ op∈t,op.act.low B
 ho:HO p.b0 t
 norel:NoRelease (stA p.Wg) t
 oldk:∀ i a g,touchAt t i=some a->t.g? i=some g->g≠0->g<=p.b0->¬p.Sh0 a.loc->Knows t 0 i
 cnt:∀ i a g,touchAt t i=some a->t.g? i=some g->p.b0 < g->¬ShN p.Wg a.loc->t.counts i
def Cnt (p:Ph) (d:Nat) (es:Array Event):Prop:=(∀ e∈es,∀ y,(MemAct.ofEvent e).touch?=some y->ShN p.Wg y.loc)∨(d=0∧∀ e∈es,e.loc≠.mark .disable∧e.loc≠.mark .enable)
section
variable [Payload] {p:Ph} {j x:Nat} {w w':World} {own gv:Nat->Bk} {own' gv':Bk} {t u:Trace}
def MI.apart (h:MI p j w own gv):Apart (ShL p) (Uz p own gv) (RdL p):=by
 refine⟨λk k' l h1 h2=>?_,λk k' l h1 h2=>?_,λk l h1 h2=>?_,λk l h1 h2=>?_⟩
 ·rcases h1 with ⟨a,rfl,h1⟩|⟨r,rfl,h1⟩|⟨hb,a,rfl,h1,h3⟩ <;> rcases h2 with ⟨a',h4,h2⟩|⟨r',h4,h2⟩|⟨hb',a',h4,h2,h5⟩ <;> cases h4
  ·exact Classical.byContradiction λhx=>h.dis k k' _ hx h1 h2
  ·exact absurd (h2 ▸ h1) (h.nwg k).2
  ·exact Classical.byContradiction λhx=>h.dis k k' _ hx h1 h2
  ·exact absurd (h1 ▸ h2) (h.nwg k').2
  ·omega
 ·obtain⟨_,a',h3,h4⟩:=h2;rcases h1 with ⟨a,rfl,h1⟩|⟨r,rfl,h1⟩|⟨_,a,rfl,h1,_⟩ <;> cases h3
  ·exact h.frz k _ h1 h4
  ·exact h.wg.2.2.2.2 (h1 ▸ h4)
 ·rcases h2 with h2|⟨a',h2,h3⟩
  ·obtain⟨a',rfl,_,h4,h5,h6,h7⟩:=h.shun l h2;rcases h1 with ⟨a,h8,h1⟩|⟨r,h8,h1⟩|⟨_,a,h8,h1,_⟩ <;> cases h8
   ·exact h4 k h1
   ·exact h7 h1
  ·subst h2;rcases h1 with ⟨a,h8,h1⟩|⟨r,h8,h1⟩|⟨_,a,h8,h1,_⟩ <;> cases h8
   ·exact(h.nwg k).1 (h3 ▸ h1)
   ·exact h.wg.2.2.1 (h3.symm.trans h1)
 ·obtain⟨_,a,rfl,h3⟩:=h1;rcases h2 with h2|⟨a',h2,h4⟩
  ·obtain⟨a',h5,_,_,h6,_⟩:=h.shun _ h2;cases h5;exact h6 h3
  ·cases h2;exact h.wg.2.2.2.1 (h4 ▸ h3)
def TI.grow (ht:TI p j w.heap.size t own gv) (hs:w.heap.size<=w'.heap.size) (hnew:∀ k,own' k∨gv' k->(own x k∨gv x k)∨(w.heap.size<=k∧k < w'.heap.size)) (hold:∀ k,own x k∨gv x k->own' k∨gv' k) :
  TI p j w'.heap.size t (upd own x own') (upd gv x gv'):=by
 refine⟨KP ht.ct (λ_ h=>.inl h) (λ_ h=>h) (λk _ _ l hl=>?_) (λk _ _ l hl=>?_) λ_ _ _ _=>Iff.rfl,λop hop=>MemAct.low_mono hs (ht.low op hop),ht.ho,ht.norel,ht.oldk,ht.cnt⟩
 ·by_cases e:k=x
  ·subst e;simp only[Uz,upd_same] at hl;rcases hl with ⟨a,rfl,h1⟩|⟨r,rfl,h1⟩|h1
   ·rcases hnew _ h1 with h2|h2
    ·exact .inl (.inl ⟨a,rfl,h2⟩)
    ·exact .inr (NT.cell ht.low h2.1)
   ·rcases hnew _ h1 with h2|h2
    ·exact .inl (.inr (.inl ⟨r,rfl,h2⟩))
    ·exact .inr (NT.obj ht.low h2.1)
   ·exact .inl (.inr (.inr h1))
  ·simp only[Uz,upd_ne own _ e,upd_ne gv _ e] at hl;exact .inl hl
 ·by_cases e:k=x
  ·subst e;simp only[Uz,upd_same];rcases hl with ⟨a,rfl,h1⟩|⟨r,rfl,h1⟩|h1
   ·exact .inl ⟨a,rfl,hold _ h1⟩
   ·exact .inr (.inl ⟨r,rfl,hold _ h1⟩)
   ·exact .inr (.inr h1)
  ·simp only[Uz,upd_ne own _ e,upd_ne gv _ e];exact hl
def V6 {t u:Trace} {i g:Nat} {a:Touch} (ha:touchAt (t++u) i=some a) (hg:(t++u).g? i=some g):(i < t.size∧touchAt t i=some a∧t.g? i=some g)∨(t.size<=i∧∃ op∈u,u[i - t.size]?=some op∧op.g=g∧op.act.touch?=some a):=by
 obtain⟨op,ho,hox⟩:=touch_of ha;rcases getElem?_append_cases ho with ⟨hi,ho'⟩|⟨hi,hou⟩
 ·exact .inl ⟨hi,by rw[touchAt_of ho'];exact hox,by simpa [Trace.g?,getElem?_append_old hi] using hg⟩
 ·refine .inr ⟨hi,op,hou,?_,by simpa [Trace.g?,ho] using hg,hox⟩;rw[Array.getElem?_append] at ho;simpa [Nat.not_lt.2 hi] using ho
def Hf {p:Ph} {t u:Trace} (h:∀ i a g,touchAt t i=some a->t.g? i=some g->g≠0->g<=p.b0->¬p.Sh0 a.loc->Knows t 0 i) (hu:∀ op∈u,op.g=0∨p.b0 < op.g∨op.act.touch?=none) :
  ∀ i a g,touchAt (t++u) i=some a->(t++u).g? i=some g->g≠0->g<=p.b0->¬p.Sh0 a.loc->Knows (t++u) 0 i:=λi a g ha hg h1 h2 h3=>by
 rcases V6 ha hg with ⟨_,h4,h5⟩|⟨_,op,h4,_,h5,h6⟩
 ·exact(h i a g h4 h5 h1 h2 h3).app u
 ·rcases hu op h4 with h7|h7|h7
  ·exact absurd (h5 ▸ h7) h1
  ·omega
  ·rw[h7] at h6;cases h6
def cnt_app {p:Ph} {t:Trace} {k d:Nat} {fn:FuncId} {pos:String} {es:Array Event} (h:∀ i a g,touchAt t i=some a->t.g? i=some g->p.b0 < g->¬ShN p.Wg a.loc->t.counts i) (hd:Deaf t k=d) (hc:k=0∨(Cnt p d es∧∀ e∈es,∀ y,(MemAct.ofEvent e).touch?=some y->y.loc.isMemory=true)) :
  ∀ i a g,touchAt (t++MemOp.ofEvents k fn pos es) i=some a->(t++MemOp.ofEvents k fn pos es).g? i=some g->p.b0 < g->¬ShN p.Wg a.loc->(t++MemOp.ofEvents k fn pos es).counts i:=λi a g ha hg h1 h2=>by
 rcases V6 ha hg with ⟨hi,h4,h5⟩|⟨hi,op,h4,h7,h5,h6⟩
 ·exact(counts_old hi).2 (h i a g h4 h5 h1 h2)
 ·obtain⟨e,he,rfl⟩:=Go.Conc.mem_ofEvents h4;simp only at h5 h6;rcases hc with hc|⟨hc|⟨hd0,hc⟩,h3⟩
  ·omega
  ·exact absurd (hc e he a h6) h2
  ·refine⟨a,ha,h3 e he a h6,.inr ⟨g,hg,?_⟩⟩
   have hsz:i - t.size<=es.size:=by
    have:=(Array.getElem?_eq_some_iff.1 h7).1;rw[ofEvents_eq] at this;simp at this;omega
   have:=deaf_inside t k fn pos es (i - t.size) hsz;rw[show t.size+(i - t.size)=i by omega] at this
   rw[<-h5,this,hd,deafBehind_still (λe he=>hc e (by
    obtain⟨q,hq,rfl⟩:=Array.mem_iff_getElem.1 he;simp)),hd0]
def EvT (p:Ph) (own gv:Nat->Bk) (B:Nat) (k:Nat) (e:Event):Prop:=
 (∀ a,(MemAct.ofEvent e).touch?=some a->(ShN p.Wg a.loc∧a.kind≠.plain∧(a.kind=.said->k=0))∨Uz p own gv k a.loc∨((k=0∨p.b0 < k)∧(∃ b,a.loc=.cell b∧p.S0 b.block)∧a.write=false))∧(MemAct.ofEvent e).low B∧e.loc≠.mark (.release (stA p.Wg))
def TI.addW (h:MI p j w own gv) (ht:TI p j w.heap.size t own gv) {k:Nat} (k1:1<=k) (kj:k<=j) {fn:FuncId} {pos:String} {es:Array Event} (he:∀ e∈es,EvT p own gv w.heap.size k e) (hk:p.b0 < k∨∀ e∈es,(MemAct.ofEvent e).touch?=none) (hcn:Cnt p (Deaf t k) es) :
  TI p j w.heap.size (t++MemOp.ofEvents k fn pos es) own gv:=by
 have hu:∀ op∈MemOp.ofEvents k fn pos es,op.g=0∨p.b0 < op.g∨op.act.touch?=none:=λop hop=>by
  obtain⟨e,hx,rfl⟩:=Go.Conc.mem_ofEvents hop;exact hk.elim (λh=>.inr (.inl h)) λh=>.inr (.inr (h e hx))
 refine⟨ht.ct.appW h.apart k1 kj λop hop=>?_,seen_app ht.low λop hop=>?_,ht.ho.app hu,ht.norel.app (norel_of λe hx=>(he e hx).2.2),Hf ht.oldk hu,cnt_app ht.cnt rfl (.inr ⟨hcn,λe hx y hy=>by
  rcases(he e hx).1 y hy with ⟨⟨ad,h1,_⟩,_⟩|h1|⟨_,⟨ad,h1,_⟩,_⟩
  ·rw[h1];rfl
  ·rcases h1 with ⟨ad,h1,_⟩|⟨r,h1,_⟩|⟨_,ad,h1,_⟩ <;> rw[h1] <;> rfl
  ·rw[h1];rfl⟩)⟩
 ·obtain⟨e,hx,rfl⟩:=Go.Conc.mem_ofEvents hop;refine⟨rfl,λa ha=>?_⟩;rcases(he e hx).1 a ha with ⟨h1,h2,h3⟩|h1|⟨h1,h2,h3⟩
  ·exact .inl ⟨.inr h1,h2,λx=>by have:=h3 x;omega⟩
  ·exact .inr (.inl h1)
  ·exact .inr (.inr ⟨⟨by omega,h2⟩,h3⟩)
 ·obtain⟨e,hx,rfl⟩:=Go.Conc.mem_ofEvents hop;exact(he e hx).2.1
def TI.add0 (h:MI p j w own gv) (ht:TI p j w.heap.size t own gv) {fn:FuncId} {pos:String} {es:Array Event} (he:∀ e∈es,EvT p own gv w.heap.size 0 e) :
  TI p j w.heap.size (t++MemOp.ofEvents 0 fn pos es) own gv:=by
 have A:=h.apart
 have hu:∀ op∈MemOp.ofEvents 0 fn pos es,op.g=0∨p.b0 < op.g∨op.act.touch?=none:=λop hop=>by
  obtain⟨e,hx,rfl⟩:=Go.Conc.mem_ofEvents hop;exact .inl rfl
 refine⟨ht.ct.app0 A λop hop=>?_,seen_app ht.low λop hop=>?_,ht.ho.app hu,ht.norel.app (norel_of λe hx=>(he e hx).2.2),Hf ht.oldk hu,cnt_app ht.cnt rfl (.inl rfl)⟩
 ·obtain⟨e,hx,rfl⟩:=Go.Conc.mem_ofEvents hop;refine⟨rfl,λa ha=>?_⟩;rcases(he e hx).1 a ha with ⟨h1,h2,h3⟩|h1|⟨h1,⟨b,h2,h4⟩,h3⟩
  ·exact .inl ⟨.inr h1,h2⟩
  ·refine .inr ⟨A.ownSh 0 _ h1,λk k1 _ h2=>?_,λ_ k k1 _ h2=>A.ownRd 0 k _ h1 h2⟩;have:=A.own 0 k _ h1 h2;omega
  ·have hrd:RdL p (p.b0+1) a.loc:=⟨by omega,b,h2,h4⟩
   exact .inr ⟨A.rdSh _ _ hrd,λk _ _ h5=>A.ownRd k _ _ h5 hrd,λh5=>by rw[h3] at h5;cases h5⟩
 ·obtain⟨e,hx,rfl⟩:=Go.Conc.mem_ofEvents hop;exact(he e hx).2.1
end
end W
end
section
open Go.RowKit
open Go.Conc hiding base G
open Go.ConcN
open Go.ConcR (KK WgAt stA smA rd wr mk Payload DC0 bk_of_mute ofEvent_loc_mark ofEvent_cell g_of_ofEvents)
namespace W
section
variable [Payload] (P:Program) (p:Ph)
def VG (w:World):Prop:=WgLive p.ty p.Wg w∧PayAt p.Bx 1 w∧ConcN.Has p.Bx 0 p.v0 w∧PayC p.C p.m p.N p.ety w
def RowOk (ri:Nat) (sh own:Bk) (w w':World) (es:Array Event) (own':Bk):Prop:=
 ∃ vs:List Value,vs.length=p.m∧(∀ k,¬own' k)∧(∃ k,own k)∧Rest w w'∧w'.heap.size=w.heap.size∧(∀ k,k≠p.C->w'.heap[k]?=w.heap[k]?)∧(PayC p.C p.m p.N p.ety w->PayC p.C p.m p.N p.ety w')∧
  (∀ r,r < p.m->w'.cell? ⟨p.C,p.m*ri+r,none⟩=vs[r]?)∧(∀ o,o / p.m≠ri->w'.cell? ⟨p.C,o,none⟩=w.cell? ⟨p.C,o,none⟩)∧
  (∀ e∈es,∃ o,o / p.m=ri∧e=⟨.cell ⟨p.C,o,none⟩,true,false⟩)∧p.F ri vs (JG (λk=>own k∨sh k) w)
def U8 (ri:Nat):Md:=⟨false,VG p,RowOk p ri,λ_ _ _ _ _=>False,p.hid⟩
def SR0:GSt:=λown g w=>(∀ k,¬own k)∧(VG p w->AtR0 P p.ty p.Wg p.Bx 1 0 1 p.v0 g w)
def Wrk (ri box:Nat) (g:Goroutine) (w:World):Prop:=Run P (U8 p ri) p.S0 (SR0 P p) (λk=>k=box) g w
inductive WS (ri:Nat):ConcN.WD->Tr->Bk->Goroutine->World->Prop
 |r0 {t:Tr} {own:Bk} {g:Goroutine} {w:World}:RunT P (U8 p ri) p.S0 (SR0 P p) t own g w->WS ri ⟨7,0,0⟩ t own g w
 |bk {x:ConcN.WD} {t:Tr} {own:Bk} {g:Goroutine} {w:World}:Bks P p.ty p.Wg p.Bx p.v0 x.stage x.fuel x.deaf g w->(∀ k,¬own k)->WS ri x t own g w
variable (Fin AnchW:GSt) (n:Nat)
structure PI (j:Nat) (gs:Array Goroutine) (w:World) (t:Trace) (D:Nat->ConcN.WD) (T:Nat->Tr) (own gv:Nat->Bk) (tag:CTag) (d0:Nat) (a:Goroutine) (st sm:Int):Prop where
 size:gs.size=j+1
 bj:p.b0<=j
 m0:gs[0]?=some a
 main:MS P p.ty p.Wg p.S0 (Wrk P p) Fin AnchW n p.b0 tag d0 j (T 0) (own 0) a w
 wk:∀ i,i < j->∃ g,gs[i+1]?=some g∧WS P p (i - p.b0) (D i) (T (i+1)) (own (i+1)) g w
 old:∀ i,i < p.b0->(D i).stage=1
 mi:MI p j w own gv
 ti:TI p j w.heap.size t own gv
 deaf0:Deaf t 0=d0
 deafW:∀ i,i < j->Deaf t (i+1)=(D i).deaf
 rel:∀ i,p.b0<=i->i < j->(D i).stage<=6->∃ r,RelBy (stA p.Wg) t (i+1) r
 row:∀ i,p.b0<=i->i < j->(∀ k,¬own (i+1) k)->∃ vs,Vx p.C p.m w (i - p.b0) vs∧p.F (i - p.b0) vs (JG (λk=>gv (i+1) k∨p.S0 k) w)
 wg:WgAt p.ty p.Wg w st sm
 mode:ConcN.Mode j D tag st sm
end
section
variable [Payload] {P:Program} {p:Ph} {Fin AnchW:GSt} {n j d0:Nat} {gs:Array Goroutine} {w w':World} {t:Trace} {D:Nat->ConcN.WD} {T:Nat->Tr} {own gv:Nat->Bk} {tag:CTag} {a:Goroutine} {st sm st' sm':Int}
def RunT.status {main:Md} {sh o:Bk} {X:GSt} {tr:Tr} {g:Goroutine} (h:RunT P main sh X tr o g w) (hX:X o g w->g.status=.running):g.status=.running:=by
 cases h with
 |stop h=>exact hX (h w (Rly.refl _ _ _))
 |step f g' w' es own' h1=>exact h1
def WS.status {ri:Nat} {x:ConcN.WD} {tr:Tr} {o:Bk} {g:Goroutine} (h:WS P p ri x tr o g w) (hi:VG p w):g.status=.running∨g.status=.finished:=by
 cases h with
 |r0 h=>exact .inl (h.status λhx=>(hx.2 hi).1)
 |bk h _=>exact h.2.status
def WS.rely {ri:Nat} {x:ConcN.WD} {tr:Tr} {o:Bk} {g:Goroutine} (h:WS P p ri x tr o g w) (hr:Rly o p.S0 w w') (hbx:RW p.ty p.Wg p.Bx 1 0 0 w w'):WS P p ri x tr o g w':=by
 cases h with
 |r0 h=>exact .r0 (h.rely hr)
 |bk h1 h2=>exact .bk ⟨h1.1,h1.2.rely hbx⟩ h2
def Zo {a a' g:Goroutine} {w':World} (h:g.status=.running∨g.status=.finished):woken P a a' w' g=g:=by
 unfold Go.Conc.woken;split
 ·exact again_running _ h
 ·rfl
def MS.status {tr:Tr} {o:Bk} (hA:∀ own g w,AnchW own g w->g.status=.running) (h:MS P p.ty p.Wg p.S0 (Wrk P p) Fin AnchW n p.b0 tag d0 j tr o a w) (hl:WgLive p.ty p.Wg w):(a.status=.running∧tag≠.blk)∨(a.status=.blocked∧tag=.blk):=by
 cases h with
 |skd _ h=>exact .inl ⟨h.status λhx=>(hx hl).1,by simp⟩
 |sa1 _ h=>exact .inl ⟨h.status λhx=>(hx hl).1,by simp⟩
 |ske _ h=>exact .inl ⟨h.status λhx=>(hx hl).1,by simp⟩
 |sgo _ h=>exact .inl ⟨h.status λhx=>(hx hl).1,by simp⟩
 |kd h=>exact .inl ⟨h.status λhx=>(hx hl).1,by simp⟩
 |anch h=>exact .inl ⟨h.status λhx=>hA _ _ _ (hx hl),by simp⟩
 |w1 h=>exact .inl ⟨h.status λhx=>(hx hl).1,by simp⟩
 |w2 h=>exact .inl ⟨h.status λhx=>(hx hl).1,by simp⟩
 |w3 h=>exact .inl ⟨h.status λhx=>(hx hl).1,by simp⟩
 |blk h1 h2 h3=>exact .inr ⟨rfl,rfl⟩
 |w4 h=>exact .inl ⟨h.status λhx=>(hx hl).1,by simp⟩
 |ke h=>exact .inl ⟨h.status λhx=>(hx hl).1,by simp⟩
 |acq h=>exact .inl ⟨h.status λhx=>(hx hl).1,by simp⟩
def MS.wokenBy {tr:Tr} {o:Bk} (hA:∀ own g w,AnchW own g w->g.status=.running) (h:MS P p.ty p.Wg p.S0 (Wrk P p) Fin AnchW n p.b0 tag d0 j tr o a w) (hl:WgLive p.ty p.Wg w) (hr:Rly o p.S0 w w') (hl':WgLive p.ty p.Wg w') (g g':Goroutine) :
  ∃ tag',MS P p.ty p.Wg p.S0 (Wrk P p) Fin AnchW n p.b0 tag' d0 j tr o (woken P g g' w' a) w'∧(tag'=tag∨(tag=.blk∧tag'=.w3))∧(mayWake P g=true->g'.status=.running->tag'≠.blk):=by
 have h':=h.rely hr;unfold Go.Conc.woken;split
 ·rcases h.status hA hl with ⟨hs,hne⟩|⟨_,rfl⟩
  ·exact⟨tag,by rw[again_running _ (.inl hs)];exact h',.inl rfl,λ_ _=>hne⟩
  ·cases h' with
   |blk h1 h2 h3=>exact⟨.w3,by rw[Go.ConcR.again_blocked h1 h2];exact .w3 (.stop h3),.inr ⟨rfl,rfl⟩,λ_ _=>by simp⟩
 ·rename_i hc
  exact⟨tag,h',.inl rfl,λh1 h2=>absurd (by simp[h1,h2]) hc⟩
def PI.inv (h:PI P p Fin AnchW n j gs w t D T own gv tag d0 a st sm):VG p w:=⟨⟨_,_,h.wg⟩,h.mi.bx.2.1,h.mi.bx.2.2,h.mi.pay⟩
def rw_of (hbx:w'.heap[p.Bx]?=w.heap[p.Bx]?) (hl:WgLive p.ty p.Wg w'):RW p.ty p.Wg p.Bx 1 0 0 w w':=
 ⟨λb hb=>by omega,λ_=>hl,λ⟨cs,h1,h2⟩=>⟨cs,by rw[hbx];exact h1,h2⟩,cell_of_block hbx 0⟩
def PI.stepW (hA:∀ own g w,AnchW own g w->g.status=.running) (h:PI P p Fin AnchW n j gs w t D T own gv tag d0 a st sm) {i:Nat} (hi:i < j) {g g':Goroutine} {es:Array Event} {own' gv':Bk} {x':ConcN.WD} {t':Tr}
  (hc:Chg p (i+1) own w w') (hfr:w.heap.size < w'.heap.size->p.b0 < i+1) (hnew:∀ k,own' k∨gv' k->(own (i+1) k∨gv (i+1) k)∨(w.heap.size<=k∧k < w'.heap.size)) (hold:∀ k,own (i+1) k∨gv (i+1) k->own' k∨gv' k) (hd:∀ k,own' k->¬gv' k)
  (hs':WS P p (i - p.b0) x' t' own' g' w') (hev:∀ e∈es,EvT p (upd own (i+1) own') (upd gv (i+1) gv') w'.heap.size (i+1) e) (hk:p.b0 < i+1∨∀ e∈es,(MemAct.ofEvent e).touch?=none) (hcn:Cnt p (D i).deaf es)
  (hdeaf:deafBehind (D i).deaf es=x'.deaf) (hrel:p.b0<=i->x'.stage<=6->∃ r,RelBy (stA p.Wg) (t++MemOp.ofEvents (i+1) g.frame.fn g.frame.place es) (i+1) r)
  (hrow:p.b0<=i->(∀ k,¬own' k)->∃ vs,Vx p.C p.m w' (i - p.b0) vs∧p.F (i - p.b0) vs (JG (λk=>gv' k∨p.S0 k) w')) (hol:i < p.b0->x'.stage=1)
  (hwg:WgAt p.ty p.Wg w' st' sm') (hmode:∀ tag',(tag'=tag∨(tag=.blk∧tag'=.w3))->(mayWake P g=true->g'.status=.running->tag'≠.blk)->ConcN.Mode j (upd D i x') tag' st' sm') :
  ∃ tag',(tag'=tag∨(tag=.blk∧tag'=.w3))∧PI P p Fin AnchW n j ((gs.map (woken P g g' w')).setIfInBounds (i+1) g') w' (t++MemOp.ofEvents (i+1) g.frame.fn g.frame.place es) (upd D i x') (upd T (i+1) t') (upd own (i+1) own') (upd gv (i+1) gv') tag' d0 (woken P g g' w' a) st' sm':=by
 have hl':WgLive p.ty p.Wg w':=⟨_,_,hwg⟩
 obtain⟨tag',hm,htag,hwk⟩:=h.main.wokenBy hA ⟨_,_,h.wg⟩ (h.mi.others hc (y:=0) qo) hl' g g';have hmi:=h.mi.next hc (λhx=>.inr ⟨hfr hx,by omega⟩) hnew hd;have hti:=(h.ti.grow hc.size hnew hold).addW hmi qo qo (fn:=g.frame.fn) (pos:=g.frame.place) hev hk (by rw[h.deafW i hi];exact hcn);have hfro:=h.mi.frozen hc;refine⟨tag',htag,by simp[h.size],h.bj,?_,?_,λi' hi'=>?_,λi' hi'=>?_,hmi,hti,?_,λi' hi'=>?_,λi' hb hi' hs=>?_,λi' hb hi' ho=>?_,hwg,hmode tag' htag hwk⟩
 ·rw[get_map_set _ _ _ _ qo,h.m0];rfl
 ·rw[upd_ne T _ qo,upd_ne own _ qo];exact hm
 ·by_cases e:i'=i
  ·subst e;exact⟨g',get_map_set_same _ _ _ (by rw[h.size];omega),by rw[upd_same,upd_same,upd_same];exact hs'⟩
  ·obtain⟨y,hy,hsy⟩:=h.wk i' hi';refine⟨y,by rw[get_map_set _ _ _ _ qo,hy,Option.map_some,Zo (hsy.status h.inv)],?_⟩;rw[upd_ne D _ e,upd_ne T _ qo,upd_ne own _ qo];exact hsy.rely (h.mi.others hc (y:=i'+1) qo) (rw_of (hfro _ h.mi.bx.1) hl')
 ·by_cases e:i'=i
  ·subst e;rw[upd_same];exact hol hi'
  ·rw[upd_ne D _ e];exact h.old i' hi'
 ·rw[Deaf_other t qo _ g_of_ofEvents,h.deaf0]
 ·by_cases e:i'=i
  ·subst e;rw[Deaf_own,h.deafW i' hi',upd_same];exact hdeaf
  ·rw[Deaf_other t qo _ g_of_ofEvents,h.deafW i' hi',upd_ne D _ e]
 ·by_cases e:i'=i
  ·subst e;rw[upd_same] at hs;exact hrel hb hs
  ·rw[upd_ne D _ e] at hs;obtain⟨r,hr⟩:=h.rel i' hb hi' hs;exact⟨r,hr.appOther g_of_ofEvents qo⟩
 ·by_cases e:i'=i
  ·subst e;rw[upd_same] at ho;rw[upd_same];exact hrow hb ho
  ·rw[upd_ne own _ qo] at ho;rw[upd_ne gv _ qo];obtain⟨vs,⟨h1,h2⟩,h3⟩:=h.row i' hb hi' ho
   have hm0:∀ r,r < p.m->(p.m*(i' - p.b0)+r) / p.m=i' - p.b0:=λr hr=>by
    rw[Nat.mul_add_div qo,Nat.div_eq_of_lt hr];rfl
   refine⟨vs,⟨h1,λr hr=>?_⟩,?_⟩
   ·rw[hc.cells _ (by
     by_cases hbi:i+1<=p.b0
     ·exact .inl hbi
     ·right;rw[hm0 r hr];omega)]
    exact h2 r hr
   ·rw[XG (λk hk=>hk.elim (h.mi.given hc (i'+1) k) (hfro k))];exact h3
def PI.step0 (h:PI P p Fin AnchW n j gs w t D T own gv tag d0 a st sm) {a':Goroutine} {es:Array Event} {own':Bk} {tag':CTag} {d':Nat} {t':Tr}
  (hc:Chg p 0 own w w') (hnew:∀ k,own' k->own 0 k∨(w.heap.size<=k∧k < w'.heap.size)) (hold:∀ k,own 0 k->own' k)
  (hs':MS P p.ty p.Wg p.S0 (Wrk P p) Fin AnchW n p.b0 tag' d' j t' own' a' w') (hev:∀ e∈es,EvT p (upd own 0 own') gv w'.heap.size 0 e)
  (hdeaf:deafBehind d0 es=d') (hwg:WgAt p.ty p.Wg w' st' sm') (hmode:ConcN.Mode j D tag' st' sm') :
  PI P p Fin AnchW n j ((gs.map (woken P a a' w')).setIfInBounds 0 a') w' (t++MemOp.ofEvents 0 a.frame.fn a.frame.place es) D (upd T 0 t') (upd own 0 own') gv tag' d' a' st' sm':=by
 have hl':WgLive p.ty p.Wg w':=⟨_,_,hwg⟩
 have egv:upd gv 0 (gv 0)=gv:=by funext k;by_cases e:k=0 <;> simp[upd,e]
 have hnew':∀ k,own' k∨gv 0 k->(own 0 k∨gv 0 k)∨(w.heap.size<=k∧k < w'.heap.size):=λk hk=>hk.elim (λx=>(hnew k x).imp .inl id) λx=>.inl (.inr x);have hold':∀ k,own 0 k∨gv 0 k->own' k∨gv 0 k:=λk hk=>hk.imp (hold k) id;have hmi:=h.mi.next hc (λ_=>.inl rfl) hnew' (λk hk hg=>(hnew k hk).elim (λx=>h.mi.gvd 0 k x hg) λx=>by have:=h.mi.lt 0 k (.inr hg);omega);have hti0:=h.ti.grow hc.size hnew' hold';rw[egv] at hmi hti0;have hti:=hti0.add0 hmi (fn:=a.frame.fn) (pos:=a.frame.place) hev;have hfro:=h.mi.frozen hc;refine⟨by simp[h.size],h.bj,get_map_set_same _ _ _ (by rw[h.size];omega),by rw[upd_same,upd_same];exact hs',λi' hi'=>?_,h.old,hmi,hti,?_,λi' hi'=>?_,λi' hb hi' hs=>?_,λi' hb hi' ho=>?_,hwg,hmode⟩
 ·obtain⟨y,hy,hsy⟩:=h.wk i' hi';refine⟨y,by rw[get_map_set _ _ _ _ qo,hy,Option.map_some,Zo (hsy.status h.inv)],?_⟩;rw[upd_ne T _ qo,upd_ne own _ qo];exact hsy.rely (h.mi.others hc (y:=i'+1) qo) (rw_of (hfro _ h.mi.bx.1) hl')
 ·rw[Deaf_own,h.deaf0];exact hdeaf
 ·rw[Deaf_other t qo _ g_of_ofEvents,h.deafW i' hi']
 ·obtain⟨r,hr⟩:=h.rel i' hb hi' hs;exact⟨r,hr.appOther g_of_ofEvents qo⟩
 ·rw[upd_ne own _ qo] at ho;obtain⟨vs,⟨h1,h2⟩,h3⟩:=h.row i' hb hi' ho;refine⟨vs,⟨h1,λr hr=>?_⟩,?_⟩
  ·rw[hc.cells _ (.inl (Nat.zero_le _))];exact h2 r hr
  ·rw[XG (λk hk=>hk.elim (h.mi.given hc (i'+1) k) (hfro k))];exact h3
end
end W
end
section
open Go.RowKit
open Go.Conc hiding base G
open Go.ConcN
open Go.ConcR (KK WgAt stA smA rd wr mk Payload DC0 bk_of_mute ofEvent_loc_mark ofEvent_cell g_of_ofEvents)
namespace W
section
variable [Payload] {P:Program} {p:Ph} {Fin AnchW:GSt} {n j d0:Nat} {gs:Array Goroutine} {w w':World} {t:Trace} {D:Nat->ConcN.WD} {T:Nat->Tr} {own gv:Nat->Bk} {tag:CTag} {a:Goroutine} {st sm st' sm':Int} {sl:Option (Nat×Nat)}
def Vf {x B:Nat} {o g:Nat->Bk} {own':Bk} {e:Event} (h:XW own' p.S0 e) (hx:x=0∨p.b0 < x) (ho:o x=own') (hl:∀ k,own' k∨p.S0 k->k < B):EvT p o g B x e:=by
 rcases h with ⟨ad,h1,h2⟩|⟨m,rfl,hn⟩|⟨r,h1,h2⟩
 ·obtain⟨loc,wr,sy⟩:=e;simp only at h1 h2;subst h1;refine⟨λy hy=>?_,hl _ (h2.imp id And.left),by simp⟩
  have hy':y.loc=.cell ad∧y.write=wr:=by
   cases wr <;> cases sy <;> simp[MemAct.ofEvent,MemAct.touch?] at hy <;> subst hy <;> exact⟨rfl,rfl⟩
  rcases h2 with h2|⟨h2,h3⟩
  ·exact .inr (.inl (by rw[hy'.1];exact .inl ⟨ad,rfl,.inl (by rw[ho];exact h2)⟩))
  ·exact .inr (.inr ⟨hx,⟨ad,hy'.1,h2⟩,hy'.2.trans h3⟩)
 ·refine⟨λy hy=>?_,?_,?_⟩
  ·have:(MemAct.mark m).touch?=some y:=hy;rw[hn.touch] at this;cases this
  ·unfold Go.Conc.Neutral at hn;subst hn;trivial
  ·unfold Go.Conc.Neutral at hn;subst hn;simp
 ·obtain⟨loc,wr,sy⟩:=e;simp only at h1;subst h1;refine⟨λy hy=>?_,?_,by simp⟩
  ·have:y.loc=.obj r:=by
    cases wr <;> cases sy <;> simp[MemAct.ofEvent,MemAct.touch?] at hy <;> subst hy <;> rfl
   exact .inr (.inl (by rw[this];exact .inr (.inl ⟨r,rfl,.inl (by rw[ho];exact h2)⟩)))
  ·have:=hl _ (.inl h2);cases wr <;> cases sy <;> exact this
def ok_marks {o sh:Bk} {es:Array Event} (h:∀ e∈es,XW o sh e):∀ e∈es,e.loc≠.mark .disable∧e.loc≠.mark .enable:=λe he=>by
 rcases h e he with ⟨ad,h1,_⟩|⟨m,rfl,hn⟩|⟨r,h1,_⟩
 ·rw[h1];exact⟨by simp,by simp⟩
 ·exact⟨by simpa using hn.ne_disable,by simpa using hn.ne_enable⟩
 ·rw[h1];exact⟨by simp,by simp⟩
def ok_still {o sh:Bk} {es:Array Event} (h:∀ e∈es,XW o sh e) (d:Nat):deafBehind d es=d:=deafBehind_still (ok_marks h) d
def Vg {x B:Nat} {o g:Nat->Bk} {e:Event} (h:ConcR.Bk p.Wg e) (hB:p.Wg < B):EvT p o g B x e:=by
 rcases h with h|h|⟨ad,wr,rfl,ha⟩
 ·rw[show e=⟨e.loc,e.write,e.sync⟩ from rfl,h];exact⟨λy hy=>by simp[MemAct.ofEvent,MemAct.touch?] at hy,trivial,by simp⟩
 ·rw[show e=⟨e.loc,e.write,e.sync⟩ from rfl,h];exact⟨λy hy=>by simp[MemAct.ofEvent,MemAct.touch?] at hy,trivial,by simp⟩
 ·refine⟨λy hy=>?_,?_,by simp⟩
  ·simp only[ofEvent_cell,MemAct.touch?,Option.some.injEq] at hy;subst hy;exact .inl ⟨⟨ad,rfl,ha⟩,by simp,λh=>by simp at h⟩
  ·show ad.block < B;rw[ha];exact hB
def chg_refl (x:Nat):Chg p x own w w:=⟨.refl w,Nat.le_refl _,λ_ _ _ _ _=>rfl,id,λ_ _=>rfl⟩
def Vv {x:Nat} (h:Aside p.Wg w w') (hCW:p.Wg≠p.C):Chg p x own w w':=
 ⟨⟨h.os,h.tape,h.output⟩,Nat.le_of_eq h.size.symm,λk _ _ hk _=>h.block k hk,λ⟨cs,h1,h2⟩=>⟨cs,(h.block p.C (Ne.symm hCW)).trans h1,h2⟩,λo _=>cell_of_block (h.block p.C (Ne.symm hCW)) o⟩
def chg_guar {x:Nat} {es:Array Event} (hm:MI p j w own gv) (h:Xn (own x) p.S0 w w' es):Chg p x own w w':=by
 have hC:w'.heap[p.C]?=w.heap[p.C]?:=h.keep p.C hm.wg.2.1 λhx=>(hm.nwg x).2 (.inl hx);exact⟨h.rest,h.size,λk hk hx _ _=>h.keep k hk hx,λ⟨cs,h1,h2⟩=>⟨cs,hC.trans h1,h2⟩,λo _=>cell_of_block hC o⟩
def Mlt (n:Nat):Nat×Nat×(Nat->Tr)×Nat->Nat×Nat×(Nat->Tr)×Nat->Prop:=Prod.Lex (· < ·) (Prod.Lex (· < ·) (Prod.Lex (Dn n) (· < ·)))
def Mlt.wf (n:Nat):WellFounded (Mlt n):=
 (Prod.lex ⟨_,Nat.lt_wfRel.wf⟩ (Prod.lex ⟨_,Nat.lt_wfRel.wf⟩ (Prod.lex (⟨Dn n,⟨Dn.acc n⟩⟩:WellFoundedRelation (Nat->Tr)) ⟨_,Nat.lt_wfRel.wf⟩))).wf
def lag:CTag->Nat
 |.w3=>1
 |_=>0
def meas (n j:Nat) (D:Nat->ConcN.WD) (tag:CTag) (T:Nat->Tr):Nat×Nat×(Nat->Tr)×Nat:=(phi n (Vc j D) tag+Ssum j D,Fsum j D,T,lag tag)
def Vr {n a b:Nat} {x y:Nat×(Nat->Tr)×Nat} (h:a < b):Mlt n (a,x) (b,y):=.left _ _ h
def mlt_b {n a b c:Nat} {x y:(Nat->Tr)×Nat} (h:b < c):Mlt n (a,b,x) (a,c,y):=.right _ (.left _ _ h)
def mlt_c {n a b c d:Nat} {x y:Nat->Tr} (h:Dn n x y):Mlt n (a,b,x,c) (a,b,y,d):=.right _ (.right _ (.left _ _ h))
def mlt_d {n a b c d:Nat} {x:Nat->Tr} (h:c < d):Mlt n (a,b,x,c) (a,b,x,d):=.right _ (.right _ (.right _ h))
def U3 (P:Program) (p:Ph) (Fin AnchW:GSt) (n:Nat) (μ:Nat×Nat×(Nat->Tr)×Nat) (gs:Array Goroutine) (w:World) (t:Trace):Prop:=
 ∃ j D T own gv tag d0 a st sm,PI P p Fin AnchW n j gs w t D T own gv tag d0 a st sm∧Mlt (n+1) (meas n j D tag T) μ
def MS.le {tr:Tr} {o:Bk} (h:MS P p.ty p.Wg p.S0 (Wrk P p) Fin AnchW n p.b0 tag d0 j tr o a w):j<=n:=by
 cases h <;> omega
def MS.bound {tr:Tr} {o:Bk} (h:MS P p.ty p.Wg p.S0 (Wrk P p) Fin AnchW n p.b0 tag d0 j tr o a w):j+pend tag<=n:=by
 cases h <;> simp only[pend] <;> (try simp) <;> omega
def PI.vc (h:PI P p Fin AnchW n j gs w t D T own gv tag d0 a st sm):Vc j D+p.b0<=j:=by
 have key:∀ k,p.b0<=k->Vc k D+p.b0<=k:=λk=>by
  induction k with
  |zero=>intro hk;simp only[Vc,sumTo];omega
  |succ k ih=>
   intro hk;rcases Nat.lt_or_ge k p.b0 with h1|h1
   ·have e:sumTo (k+1) (λi=>cnt (D i))=sumTo (k+1) λ_=>0:=sumTo_congr λi hi=>by simp[cnt,h.old i qo]
    have h2:sumTo (k+1) (λ_=>0)<=0*(k+1):=sumTo_le λ_ _=>Nat.le_refl _;simp only[Vc];omega
   ·have h2:=ih h1;have h3:cnt (D k)<=1:=by simp only[cnt];split <;> omega
    simp only[Vc,sumTo] at *;omega
 exact key j h.bj
def PI.books (hA:∀ own g w,AnchW own g w->g.status=.running) (hn:n < p.b0+1000000000) (h:PI P p Fin AnchW n j gs w t D T own gv tag d0 a st sm) {i:Nat} (hi:i < j) {g:Goroutine} (hg:gs[i+1]?=some g) (hrun:g.status=.running)
  (hb:Bks P p.ty p.Wg p.Bx p.v0 (D i).stage (D i).fuel (D i).deaf g w) (ho:∀ k,¬own (i+1) k) :
  ∃ gs' w' ops,runT P (crowd gs w sl) (i+1)=(.next (crowd gs' w' sl),ops)∧U3 P p Fin AnchW n (meas n j D tag T) gs' w' (t++ops):=by
 have hVj:=h.vc;have hbd:=h.main.bound;obtain⟨g',w',es,x,st',sm',B⟩:=book_step h.wg h.mode hi qo hb hrun;have eo:upd own (i+1) (own (i+1))=own:=by funext k;by_cases e:k=i+1 <;> simp[upd,e]
 have eg:upd gv (i+1) (gv (i+1))=gv:=by funext k;by_cases e:k=i+1 <;> simp[upd,e]
 have hc:Chg p (i+1) own w w':=Vv B.aside h.mi.wg.2.2.1;have hWs:p.Wg < w'.heap.size:=by rw[B.aside.size];exact h.mi.wg.1
 have hx1:i < p.b0->x.stage=1∧∀ e∈es,(MemAct.ofEvent e).touch?=none:=λhb=>B.one (h.old i hb)
 obtain⟨tag',htag,hp⟩:=h.stepW (own':=own (i+1)) (gv':=gv (i+1)) (x':=x) (t':=T (i+1)) hA hi (g:=g) (g':=g') (es:=es) hc (λhx=>by rw[B.aside.size] at hx;omega) (λk hk=>.inl hk) (λk hk=>hk) (λk hk hg=>h.mi.gvd _ k hk hg)
  (.bk B.sit ho) (λe he=>Vg (B.bk e he) hWs) (by
   by_cases hbb:p.b0<=i
   ·exact .inl qo
   ·exact .inr (hx1 qo).2) (.inl λe he y hy=>by
    rcases B.bk e he with h1|h1|⟨ad,wr,rfl,h2⟩
    ·rw[ofEvent_loc_mark h1] at hy;cases hy
    ·rw[ofEvent_loc_mark h1] at hy;cases hy
    ·simp only[ofEvent_cell,MemAct.touch?,Option.some.injEq] at hy;subst hy;exact⟨ad,rfl,h2⟩) B.deaf (λhbb hs=>by
    obtain⟨r,hr⟩:=h.rel i hbb hi hb.1;exact⟨r,hr.book (h.deafW i hi) _ _ B.bk B.dfd⟩) (λhbb hoo=>by
    obtain⟨vs,⟨h1,h2⟩,h3⟩:=h.row i hbb hi ho;refine⟨vs,⟨h1,λr hr=>?_⟩,?_⟩
    ·exact(cell_of_block (B.aside.block p.C (Ne.symm h.mi.wg.2.2.1)) _).trans (h2 r hr)
    ·rw[XG (λk hk=>hk.elim (h.mi.given hc (i+1) k) (h.mi.frozen hc k))];exact h3) (λhb=>(hx1 hb).1) B.wg B.mode
 refine⟨_,_,_,runT_crowd_go (P:=P) (sl:=sl) (i:=i+1) hg (by simpa using B.go),j,_,_,_,_,tag',_,_,_,_,hp,?_⟩;have e1:=sumTo_upd D x cnt hi;have e2:=sumTo_upd D x WD.stage hi;have e3:=sumTo_upd D x WD.fuel hi;have hph:=phi_retag n (Vc j (upd D i x)) htag;unfold meas;rw[hph];simp only[Vc,Ssum,Fsum] at *;rcases B.lt with ⟨h1,h2⟩|⟨h1,h2⟩
 ·refine Vr ?_;have:=phi_mono n (v':=sumTo j λa=>cnt (upd D i x a)) (v:=sumTo j λa=>cnt (D a)) qo tag;omega
 ·have ec:cnt x=cnt (D i):=by simp only[cnt,h1]
  rw[show(sumTo j λa=>cnt (upd D i x a))=sumTo j λa=>cnt (D a) by omega,show(sumTo j λa=>(upd D i x a).stage)=sumTo j λa=>(D a).stage by omega];exact mlt_b qo
def PI.work (hA:∀ own g w,AnchW own g w->g.status=.running) (hF:∀ ri vs L L',(∀ k o,L k=some o->L' k=some o)->p.F ri vs L->p.F ri vs L') (hm0:0 < p.m) (h:PI P p Fin AnchW n j gs w t D T own gv tag d0 a st sm) {i:Nat} (hi:i < j) {g:Goroutine} (hg:gs[i+1]?=some g)
  (hD:D i=⟨7,0,0⟩) (hr:RunT P (U8 p (i - p.b0)) p.S0 (SR0 P p) (T (i+1)) (own (i+1)) g w) :
  ∃ gs' w' ops,runT P (crowd gs w sl) (i+1)=(.next (crowd gs' w' sl),ops)∧U3 P p Fin AnchW n (meas n j D tag T) gs' w' (t++ops):=by
 have hb0:p.b0<=i:=Classical.byContradiction λhx=>by
  have:=h.old i qo;rw[hD] at this;cases this
 have hjn:=h.main.le;have same:∀ x:ConcN.WD,x=D i->upd D i x=D:=λx hx=>by funext k;by_cases e:k=i <;> simp[upd,e,hx]
 generalize hT:T (i+1)=tr at hr;cases hr with
 |stop hs=>
  obtain⟨ho,hat⟩:=hs w (Rly.refl _ _ _);obtain⟨hrun,_,g',hgo,m₂,hk⟩:=hat h.inv;have eo:upd own (i+1) (own (i+1))=own:=by funext k;by_cases e:k=i+1 <;> simp[upd,e]
  have eg:upd gv (i+1) (gv (i+1))=gv:=by funext k;by_cases e:k=i+1 <;> simp[upd,e]
  obtain⟨tag',htag,hp⟩:=h.stepW (own':=own (i+1)) (gv':=gv (i+1)) (x':=⟨6,m₂,0⟩) (t':=T (i+1)) (w':=w) hA hi (g:=g) (g':=g') (es:=#[Go.ConcR.mk (.releaseMerge (stA p.Wg))]) (chg_refl _) (λhx=>absurd hx (Nat.lt_irrefl _)) (λk hk=>.inl hk) (λk hk=>hk) (λk hk hg=>h.mi.gvd _ k hk hg)
   (.bk ⟨by simp,.k1 hk⟩ ho) (λe he=>by
    simp at he;subst he;exact⟨λy hy=>by simp[Go.ConcR.mk,MemAct.ofEvent,MemAct.touch?] at hy,h.mi.wg.1,by simp[Go.ConcR.mk]⟩) (.inl qo) (.inl λe he y hy=>by
    simp at he;subst he;simp[Go.ConcR.mk,MemAct.ofEvent,MemAct.touch?] at hy) (by rw[hD];rfl) (λ_ _=>⟨t.size,RelBy.new (by rw[h.deafW i hi,hD]) _ _⟩) (λhbb hoo=>h.row i hbb hi ho) (λhx=>by omega) h.wg
   (λtag' ht _=>(h.mode.counted hi (by rw[hD];simp) (.inl rfl) _ _).retag ht)
  refine⟨_,_,_,runT_crowd_go (P:=P) (sl:=sl) (i:=i+1) hg (by simpa using hgo),j,_,_,_,_,tag',_,_,_,_,hp,?_⟩;have e1:=sumTo_upd D (⟨6,m₂,0⟩:ConcN.WD) cnt hi;have e2:=sumTo_upd D (⟨6,m₂,0⟩:ConcN.WD) WD.stage hi;have hph:=phi_retag n (Vc j (upd D i ⟨6,m₂,0⟩)) htag;have c1:cnt (D i)=1:=by rw[hD];rfl
  have c2:cnt (⟨6,m₂,0⟩:ConcN.WD)=1:=rfl;have c3:(D i).stage=7:=by rw[hD]
  unfold meas;rw[hph];simp only[Vc,Ssum] at *;refine Vr ?_;rw[show(sumTo j λa=>cnt (upd D i ⟨6,m₂,0⟩ a))=sumTo j λa=>cnt (D a) by omega];omega
 |step f g' w'' es own'' hrun hst hnx=>
  obtain⟨hgo,hfair⟩:=hst w (Rly.refl _ _ _) h.inv;have hr':=hnx w (Rly.refl _ _ _) h.inv;have hlt:Tr.lt (f w) (T (i+1)):=by rw[hT];exact .mk f w
  have fin:∀ {tag':CTag} {Xp gv1:Nat->Bk} {gsx:Array Goroutine} {ax:Goroutine} {st1 sm1:Int},(tag'=tag∨(tag=.blk∧tag'=.w3))->PI P p Fin AnchW n j gsx (w'' w) (t++MemOp.ofEvents (i+1) g.frame.fn g.frame.place (es w)) (upd D i ⟨7,0,0⟩) (upd T (i+1) (f w)) Xp gv1 tag' d0 ax st1 sm1->
    U3 P p Fin AnchW n (meas n j D tag T) gsx (w'' w) (t++MemOp.ofEvents (i+1) g.frame.fn g.frame.place (es w)):=λ{tag' Xp gv1 gsx ax st1 sm1} htag hp=>by
   refine⟨j,_,_,_,_,tag',_,_,_,_,hp,?_⟩;rw[same _ hD.symm];unfold meas;rw[phi_retag n (Vc j D) htag];exact mlt_c (Dn.upd qo hlt)
  have hmode:∀ tag',(tag'=tag∨(tag=.blk∧tag'=.w3))->ConcN.Mode j (upd D i ⟨7,0,0⟩) tag' st sm:=λtag' ht=>by rw[same _ hD.symm];exact h.mode.retag ht
  rcases hfair with ⟨hG,ho'⟩|⟨vs,hv1,hv2,hv3,hv4,hv5,hv6,hv7,hv8,hv9,hv10,hv11⟩
  ·have hc:=chg_guar h.mi hG;have hWg:(w'' w).heap[p.Wg]?=w.heap[p.Wg]?:=hG.keep p.Wg h.mi.wg.1 λhx=>(h.mi.nwg (i+1)).1 (.inl hx)
   obtain⟨tag',htag,hp⟩:=h.stepW (own':=own'' w) (gv':=gv (i+1)) (x':=⟨7,0,0⟩) (t':=f w) (w':=w'' w) (st':=st) (sm':=sm) hA hi (g:=g) (g':=g' w) (es:=es w) hc (λ_=>by omega)
    (λk hk=>by
     rw[ho'] at hk;rcases hk with (hk|hk)|hk
     ·exact .inl (.inl hk)
     ·exact .inr hk
     ·exact .inl (.inr hk)) (λk hk=>by
     rw[ho'];exact hk.imp .inl id) (λk hk hg=>by
     rw[ho'] at hk;rcases hk with hk|hk
     ·exact h.mi.gvd _ k hk hg
     ·have:=h.mi.lt (i+1) k (.inr hg);omega)
    (.r0 hr') (λe he=>Vf (own':=own'' w) (by rw[ho'];exact hG.evs e he) (.inr qo) (by rw[upd_same]) (λk hk=>by
     rw[ho'] at hk;rcases hk with (hk|hk)|hk
     ·exact Nat.lt_of_lt_of_le (h.mi.lt (i+1) k (.inl hk)) hG.size
     ·exact hk.2
     ·exact Nat.lt_of_lt_of_le (h.mi.lt0 k hk) hG.size)) (.inl qo) (.inr ⟨by rw[hD],ok_marks λe he=>hG.evs e he⟩) (by rw[hD];exact ok_still (λe he=>hG.evs e he) _) (λ_ hx=>by simp at hx)
    (λhbb hoo=>by
     obtain⟨vs,⟨h1,h2⟩,h3⟩:=h.row i hbb hi λk hk=>hoo k (by rw[ho'];exact .inl hk);have hC:(w'' w).heap[p.C]?=w.heap[p.C]?:=hG.keep p.C h.mi.wg.2.1 λhx=>(h.mi.nwg (i+1)).2 (.inl hx);refine⟨vs,⟨h1,λr hr=>(cell_of_block hC _).trans (h2 r hr)⟩,?_⟩;rw[XG (λk hk=>hk.elim (h.mi.given hc (i+1) k) (h.mi.frozen hc k))];exact h3) (λhx=>by omega) (h.wg.of_block hWg) (λtag' ht _=>hmode tag' ht)
   exact⟨_,_,_,runT_crowd_go (P:=P) (sl:=sl) (i:=i+1) hg (show stepG P (i+1 == 0) g w=_ from hgo),fin htag hp⟩
  ·have hxx:i+1 - 1 - p.b0=i - p.b0:=qo;have hc:Chg p (i+1) own w (w'' w):=⟨hv4,Nat.le_of_eq hv5.symm,λk _ _ _ hk=>hv6 k hk,hv7,λo ho=>hv9 o (ho.elim (λho=>by omega) λho=>by rw[hxx] at ho;exact ho)⟩
   obtain⟨tag',htag,hp⟩:=h.stepW (own':=own'' w) (gv':=λk=>gv (i+1) k∨own (i+1) k) (x':=⟨7,0,0⟩) (t':=f w) (w':=w'' w) (st':=st) (sm':=sm) hA hi (g:=g) (g':=g' w) (es:=es w) hc (λ_=>by omega)
    (λk hk=>.inl (by
     rcases hk with hk|hk|hk
     ·exact absurd hk (hv2 k)
     ·exact .inr hk
     ·exact .inl hk)) (λk hk=>.inr hk.symm) (λk hk _=>hv2 k hk)
    (.r0 hr') (λe he=>by
     obtain⟨o,h1,rfl⟩:=hv10 e he;refine⟨λy hy=>.inr (.inl (.inr (.inr ⟨by omega,⟨p.C,o,none⟩,?_,rfl,by rw[hxx];exact h1⟩))),?_,by simp⟩
     ·simp[MemAct.ofEvent,MemAct.touch?] at hy;subst hy;rfl
     ·show p.C < _;rw[hv5];exact h.mi.wg.2.1) (.inl qo) (.inr ⟨by rw[hD],λe he=>by obtain⟨o,_,rfl⟩:=hv10 e he;exact⟨by simp,by simp⟩⟩) (by rw[hD];exact deafBehind_still (λe he=>by obtain⟨o,_,rfl⟩:=hv10 e he;exact⟨by simp,by simp⟩) 0) (λ_ hx=>by simp at hx)
    (λhbb hoo=>⟨vs,⟨hv1,hv8⟩,hF _ _ _ _ (λk o hk=>by
     unfold JG at hk ⊢;split at hk
     ·rename_i hb
      rw[if_pos (hb.elim (λx=>.inl (.inr x)) .inr),hv6 k (λe=>by
          subst e;exact hb.elim (λx=>(h.mi.nwg (i+1)).2 (.inl x)) λx=>h.mi.wg.2.2.2.2 x)]
      exact hk
     ·cases hk) hv11⟩) (λhx=>by omega) (h.wg.of_block (hv6 p.Wg h.mi.wg.2.2.1)) (λtag' ht _=>hmode tag' ht)
   exact⟨_,_,_,runT_crowd_go (P:=P) (sl:=sl) (i:=i+1) hg (show stepG P (i+1 == 0) g w=_ from hgo),fin htag hp⟩
end
end W
end
end Go.Proofs.YtcpaopfdiahnnaaGreat
