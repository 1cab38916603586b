/- Lemmas for a law. Conditions: none. -/
import Derived.Test.YtcpaopfdiahnnaaGreatZb12
import Derived.RangeFuncIn
import Derived.Conc.WgGenN2
set_option linter.all false
set_option maxHeartbeats 32000000
set_option maxRecDepth 100000
namespace Go.Proofs.YtcpaopfdiahnnaaGreat
section
open Go.RowKit
open Go.Conc (G base)
namespace W
variable {P:Program}
def CF.hold (fr:CF) (l:Nat) (o:Obj):CF:={fr with fr:=λk=>if k=l then some o else fr.fr k}
def CF.mkd (fr:CF) (Ds:List Nat):CF:={fr with fr:=λk=>if k∈Ds then some (.deferred (some [])) else fr.fr k,ds:=Ds.map mkD++fr.ds}
section
variable {fr:CF} {bx:List Ow} {F:List Fct} {w w1:World} {l D:Nat} {o o':Obj} {Ds:List Nat}
def imm_hold (H:Array Obj):imm (fr.hold l o) bx H=imm fr (.obj l o'::bx) H:=by
 unfold imm;refine congrArg (PH.mk fr.main) (funext λk=>?_);have h2:(fr.hold l o).see H k=fr.see H k:=rfl;rw[h2]
 have:(((fr.hold l o).fr k).isSome ||(ids bx).contains k)=((fr.fr k).isSome ||(ids (.obj l o'::bx)).contains k):=by
  simp only[CF.hold,ids,List.flatMap_cons,Ow.ids];by_cases hk:k=l
  ·subst hk;simp
  ·rw[if_neg hk,Bool.eq_iff_iff];simp[hk]
 rw[this]
def imm_put:imm fr (.obj l o::bx) (w.putObj l o').heap=imm fr (.obj l o::bx) w.heap:=by
 unfold imm;refine congrArg (PH.mk fr.main) (funext λk=>?_);by_cases hk:k=l
 ·subst hk;simp[ids,Ow.ids]
 ·unfold CF.see;rw[World.putObj_heap_other hk]
def OK.hold (h:OK fr (.obj l o::bx) F w):OK (fr.hold l o) bx F w:=by
 have hap:=h.apart;have hnd:=h.nodup;simp only[ids,List.flatMap_cons,Ow.ids,List.singleton_append,List.nodup_cons,List.mem_cons] at hap hnd;have hl:=h.owns _ (List.mem_cons_self ..);refine⟨⟨λk o1 hk=>?_,h.frame.2⟩,λk hk=>⟨(hap k (.inr hk)).1,?_⟩,hnd.2,λb hb=>h.owns b (List.mem_cons_of_mem _ hb),λf hf=>?_⟩
 ·simp only[CF.hold] at hk;by_cases e:k=l
  ·subst e;rw[if_pos rfl] at hk;cases hk;exact⟨(hap k (.inl rfl)).1,hl⟩
  ·rw[if_neg e] at hk;exact h.frame.1 k o1 hk
 ·simp only[CF.hold];rw[if_neg (λe:k=l=>by subst e;exact hnd.1 hk)];exact(hap k (.inr hk)).2
 ·rw[imm_hold (o':=o)];exact h.facts f hf
def OK.back (h:OK (fr.hold l o) bx F w) (h0:fr.fr l=none):OK fr (.obj l o::bx) F w:=by
 have hl:=h.frame.1 l o (by simp[CF.hold]);have hnot:l∉ids bx:=λhk=>by have:=(h.apart l hk).2;simp[CF.hold] at this
 refine⟨⟨λk o1 hk=>?_,h.frame.2⟩,λk hk=>?_,?_,λb hb=>?_,λf hf=>?_⟩
 ·refine h.frame.1 k o1 ?_;simp only[CF.hold];rw[if_neg (λe=>by subst e;rw[h0] at hk;cases hk)];exact hk
 ·simp only[ids,List.flatMap_cons,Ow.ids,List.singleton_append,List.mem_cons] at hk;rcases hk with rfl|hk
  ·exact⟨hl.1,h0⟩
  ·have:=h.apart k hk;refine⟨this.1,?_⟩;have h2:(fr.hold l o).fr k=none:=this.2;simp only[CF.hold] at h2;split at h2
   ·cases h2
   ·exact h2
 ·simp only[ids,List.flatMap_cons,Ow.ids,List.singleton_append,List.nodup_cons];exact⟨hnot,h.nodup⟩
 ·rcases List.mem_cons.1 hb with rfl|hb
  ·exact hl.2
  ·exact h.owns b hb
 ·rw[<-imm_hold (o:=o)];exact h.facts f hf
def OK.Gv (h:OK fr (.obj l o::bx) F w):OK fr (.obj l o'::bx) F (w.putObj l o'):=by
 have hap:=h.apart;have hnd:=h.nodup;have hl:=h.owns _ (List.mem_cons_self ..);have hnd':=hnd;simp only[ids,List.flatMap_cons,Ow.ids,List.singleton_append,List.nodup_cons] at hnd';have hl0:fr.own l∧fr.fr l=none:=hap l (by simp[ids,Ow.ids]);refine⟨⟨λk o1 hk=>⟨(h.frame.1 k o1 hk).1,?_⟩,λk hk=>?_,λk hk=>⟨by simpa using (h.frame.2.2 k hk).1,(h.frame.2.2 k hk).2⟩⟩,hap,hnd,λb hb=>?_,λf hf=>?_⟩
 ·rw[World.putObj_heap_other (λe=>by subst e;rw[hl0.2] at hk;cases hk)];exact(h.frame.1 k o1 hk).2
 ·have:=h.frame.2.1 k hk;simpa using this
 ·rcases List.mem_cons.1 hb with rfl|hb'
  ·show(w.putObj l o').heap[l]?=some o';have hlt:l < w.heap.size:=(Array.getElem?_eq_some_iff.1 hl).1;simp[World.putObj,hlt]
  ·exact Ow.JM (h.owns b (List.mem_cons_of_mem _ hb')) λk hk=>World.putObj_heap_other (λe=>hnd'.1 (e ▸ JJ.2 ⟨b,hb',hk⟩))
 ·rw[show imm fr (.obj l o'::bx) (w.putObj l o').heap=imm fr (.obj l o::bx) w.heap from imm_put (o:=o')];exact h.facts f hf
def OK.unm (h:OK (fr.mkd Ds) bx F w) (hD:∀ D∈Ds,fr.fr D=none) (hu:Unm fr.own fr.sh Ds w w1):OK fr bx F w1:=by
 have hfr:∀ k,k∉Ds->(fr.mkd Ds).fr k=fr.fr k:=λk hk=>by simp[CF.mkd,hk]
 have hn:∀ k∈ids bx,k∉Ds:=λk hk hd=>by have:=(h.apart k hk).2;simp[CF.mkd,hd] at this
 refine⟨⟨λk o hk=>?_,λk hk=>Nat.lt_of_lt_of_le (h.frame.2.1 k hk) hu.size,λk hk=>⟨Nat.lt_of_lt_of_le (h.frame.2.2 k hk).1 hu.size,(h.frame.2.2 k hk).2⟩⟩,λk hk=>⟨(h.apart k hk).1,by rw[<-hfr k (hn k hk)];exact(h.apart k hk).2⟩,h.nodup,λb hb=>Ow.JM (h.owns b hb) λk hk=>?_,λf hf=>f.mono (imm (fr.mkd Ds) bx w.heap) _ (.mk rfl λk o hk=>?_) (h.facts f hf)⟩
 ·have hkD:k∉Ds:=λhd=>by rw[hD k hd] at hk;cases hk
  have h1:=h.frame.1 k o (by rw[hfr k hkD];exact hk);exact⟨h1.1,by rw[hu.keep k (Array.getElem?_eq_some_iff.1 h1.2).1 (.inl h1.1) hkD];exact h1.2⟩
 ·have hkb:k∈ids bx:=JJ.2 ⟨b,hb,hk⟩;exact hu.keep k (Ow.lt (h.owns b hb) k hk) (.inl (h.apart k hkb).1) (hn k hkb)
 ·have hm:=XF hk;have hh:=Jr hk
  have hv:(fr.mkd Ds).fr k=none∧k∉ids bx:=by
   simp only[imm] at hk;split at hk
   ·cases hk
   ·rename_i hc
    simp only[Bool.or_eq_true,List.contains_iff_mem,not_or,Bool.not_eq_true,Option.isSome_eq_false_iff,Option.isNone_iff_eq_none] at hc;exact hc
  have hkD:k∉Ds:=λhd=>by have:=hv.1;simp[CF.mkd,hd] at this
  show(if((fr.fr k).isSome ||(ids bx).contains k)=true then none else fr.see w1.heap k)=some o;rw[if_neg (by rw[<-hfr k hkD,hv.1];simpa using hv.2),CF.XP (c:=fr) hm,hu.keep k (Array.getElem?_eq_some_iff.1 hh).1 (CF.vs_w hm) hkD];exact hh
def OK.mk_mkd (h:OK ((fr.mkd Ds).hold D (.deferred (some []))) bx F w):OK (fr.mkd (D::Ds)) bx F w:=by
 have:fr.mkd (D::Ds)={(fr.mkd Ds).hold D (.deferred (some [])) with ds:=(D::Ds).map mkD++fr.ds}:=by
  unfold CF.mkd CF.hold;simp only[CF.mk.injEq,true_and,and_true,and_self];funext k
  by_cases hk:k=D
  ·subst hk;simp
  ·simp[hk]
 rw[this];exact h.dsw _
end
def postX (fr:CF) (n:Nat) (w0:World) (Q:Post) (own:Bk):Exit->Act->World->Prop
 |.normal,a,w=>(∀ k,fr.own k->own k)∧∃ Ds e bx F,Ds.Nodup∧(∀ D∈Ds,fr.fr D=none)∧Kn (Ds.map mkD++fr.ds) n a e∧Rest w0 w∧OK ((fr.at own).mkd Ds) bx F w∧Q .normal e bx F
 |.exit id,a,w=>(∀ k,fr.own k->own k)∧∃ Ds e bx F,Ds.Nodup∧(∀ D∈Ds,fr.fr D=none)∧Kn (Ds.map mkD++fr.ds) n a e∧Rest w0 w∧OK ((fr.at own).mkd Ds) bx F w∧Q (.exit id) e bx F
 |.ret,a,w=>(∀ k,fr.own k->own k)∧∃ Ds e bx F,Ds.Nodup∧(∀ D∈Ds,fr.fr D=none)∧Kn (Ds.map mkD++fr.ds) n a e∧Rest w0 w∧OK ((fr.at own).mkd Ds) bx F w∧Q .ret e bx F
 |_,_,_=>False
def WX (P:Program) (n:Nat) (c:Code) (e:Env) (bx:List Ow) (F:List Fct) (Q:Post):Prop:=
 ∀ fr Ds w0 a w,Ds.Nodup->(∀ D∈Ds,fr.fr D=none)->Kn (Ds.map mkD++fr.ds) n a e->Rest w0 w->OK (fr.mkd Ds) bx F w->ZY P fr.main fr.sh c (postX fr n w0 Q) fr.own a w
def postX.up {fr:CF} {n:Nat} {w0:World} {Q:Post} {own own':Bk} {ex:Exit} {a:Act} {w:World} (h:postX (fr.at own) n w0 Q own' ex a w) (ho:∀ k,fr.own k->own k):postX fr n w0 Q own' ex a w:=by
 cases ex <;> first|exact h|exact⟨λk hk=>h.1 k (ho k hk),h.2⟩
section
variable {n:Nat} {x y c:Code} {e e':Env} {bx bx':List Ow} {F F':List Fct} {Q:Post} {id:Nat}
def WX.of (h:WC P n c e bx F Q):WX P n c e bx F Q:=λfr Ds w0 a w hn hD hk hr ho=>by
 refine GH (Xo (h (fr.mkd Ds) w0 a w hk hr ho) λown ex a' w' hq=>?_);cases ex <;> first|exact hq|(obtain⟨h1,e1,b1,F1,h2,h3,h4,h5⟩:=hq;exact⟨h1,Ds,e1,b1,F1,hn,hD,h2,h3,h4,h5⟩)
def WX.seq (h:WX P n x e bx F (Xm (λe bx F=>WX P n y e bx F Q) Q)):WX P n (.seq x y) e bx F Q:=λfr Ds w0 a w hn hD hk hr ho=>by
 refine wpR0_seq (Yq (h fr Ds w0 a w hn hD hk hr ho) λown ex a' w' hq=>?_);cases ex <;> first|exact hq|skip
 obtain⟨hw,Ds1,e1,b1,F1,h1,h2,h3,h4,h5,h6⟩:=hq;exact Yq (h6 (fr.at own) Ds1 w0 a' w' h1 h2 h3 h4 h5) λ_ _ _ _ hp=>hp.up hw
def WX.cond {o:Operand} {b:Bool} (hc:ev e o=some (.bool b)) (h:WX P n (if b then x else y) e bx F Q):WX P n (.cond o x y) e bx F Q:=λfr Ds w0 a w hn hD hk hr ho=>
 wpR0_cond (hk.eval hc) (h fr Ds w0 a w hn hD hk hr ho)
def WX.skip (h:Q .normal e bx F):WX P n .skip e bx F Q:=.of (WC.skip h)
def WX.exit {i:Nat} (h:Q (.exit i) e bx F):WX P n (.exit i) e bx F Q:=.of (WC.exit h)
def WX.ret (h:Q .ret e bx F):WX P n .ret e bx F Q:=.of (WC.ret h)
def WX.region {L:List Oper} (h:WL P n L L e bx F (Q .normal)):WX P n (.region id L.toArray false) e bx F Q:=.of (WC.region h)
def WX.block (h:WX P n c e bx F (blockQ id Q)):WX P n (.block id c) e bx F Q:=λfr Ds w0 a w hn hD hk hr ho=>by
 refine wpR0_block (Yq (h fr Ds w0 a w hn hD hk hr ho) λown ex a' w' hq=>?_);cases ex <;> first|exact hq|skip
 rename_i i
 obtain⟨hw,Ds1,e1,b1,F1,h1,h2,h3,h4,h5,h6⟩:=hq;by_cases hi:i=id
 ·subst hi;simp only[inBlockR,if_true];exact⟨hw,Ds1,e1,b1,F1,h1,h2,h3,h4,h5,by simpa [blockQ,Nat.beq_refl] using h6⟩
 ·simp only[inBlockR,if_neg hi]
  have hb:Nat.beq i id=false:=by
   cases hb:Nat.beq i id
   ·rfl
   ·exact absurd (Nat.eq_of_beq_eq_true hb) hi
  exact⟨hw,Ds1,e1,b1,F1,h1,h2,h3,h4,h5,by simpa [blockQ,hb] using h6⟩
def WX.loop {σ:Type} (E:σ->Env) (B:σ->List Ow) (G:σ->List Fct) (I:σ->Prop) (μ:σ->Nat)
  (hround:∀ s,I s->WX P n c (E s) (B s) (G s) (Xm (λe' bx' F'=>∃ s',(I s'∧μ s' < μ s)∧Sub (E s') e'∧(B s').Sublist bx'∧Qk F' (G s')) Q))
  (s0:σ) (hI:I s0) (hE:Sub (E s0) e) (hB:(B s0).Sublist bx) (hG:Qk F (G s0)):WX P n (.loop c) e bx F Q:=λfr Ds w0 a w hn hD hk hr ho=>by
 refine wpR0_loop (λs own a w=>I s∧(∀ k,fr.own k->own k)∧∃ Ds,Ds.Nodup∧(∀ D∈Ds,fr.fr D=none)∧Kn (Ds.map mkD++fr.ds) n a (E s)∧Rest w0 w∧OK ((fr.at own).mkd Ds) (B s) (G s) w) μ s0 ⟨hI,λ_ h=>h,Ds,hn,hD,hk.sub hE,hr,(ho.drop hB).Yk hG.all⟩ λs own a w ⟨hs1,hw,Ds1,hn1,hD1,hs2,hs3,hs4⟩=>?_;refine Yq (hround s hs1 (fr.at own) Ds1 w0 a w hn1 hD1 hs2 hs3 hs4) λown' ex a' w' hq=>?_;cases ex with
 |normal=>
  obtain⟨hw',Ds2,e1,b1,F1,hn2,hD2,h1,h2,h3,s',⟨h4,h5⟩,h6,h7,h8⟩:=hq;exact⟨s',h5,h4,λk hk=>hw' k (hw k hk),Ds2,hn2,hD2,h1.sub h6,h2,(h3.drop h7).Yk h8.all⟩
 |exit id=>exact hq.up hw
 |ret=>exact hq.up hw
 |goto l=>exact hq
 |panic ch=>exact hq
 |outgrown=>exact hq
def fnX_of {f:FuncId} {fn:Func} {c:Code} {args:List Value} {bx:List Ow} {F:List Fct} {R:Qd} (e0:Env) (n:Nat) (hf:P.funcs[f]?=some fn) (hb:fn.body=some c) (hn:fn.ntmps=n)
  (hname:(fn.name == "runtime.NumGoroutine")=false) (hargs:Nat.ble args.length n=true) (he:Sub e0 (parEnv 0 args))
  (h:∀ h0,WX P n c e0 bx (ge h0::F) (retQ P fn h0 R)):FnB P f args bx F R:=by
 refine⟨⟨fn,hf,hname,by rw[hb];rfl⟩,λfr w ho=>⟨fn,c,hf,hname,hb,?_⟩⟩;have hargs':args.length<=n:=Nat.le_of_ble_eq_true hargs
 have hk:Kn [] n {tmps:=args.toArray++Array.replicate (fn.ntmps - args.toArray.size) undef,defers:=[]} e0:=by
  refine Kn.sub (e:=parEnv 0 args) ⟨by simp[hn];omega,rfl,λk v hk=>?_⟩ he;obtain⟨_,h2⟩:=Zz _ _ _ _ hk;simp at h2;rw[Array.getElem?_append_left (by simpa using (List.getElem?_eq_some_iff.1 h2).1)];simpa using h2
 have ho':OK (CF.mkd {fr with ds:=[]} []) bx F w:=by
  have:CF.mkd {fr with ds:=[]} []={fr with ds:=[]}:=by unfold CF.mkd;simp
  rw[this];exact ho.dsw []
 refine Yq (h (imm fr bx w.heap) {fr with ds:=[]} [] w _ w List.nodup_nil (λD h=>by cases h) hk (Rest.refl w) (ho'.add (f:=ge _) ?_)) λown ex a' w' hq=>?_
 ·have:CF.mkd {fr with ds:=[]} []={fr with ds:=[]}:=by unfold CF.mkd;simp
  rw[this];exact PH.le.refl _
 have fin:∀ Ds e b G,Ds.Nodup->(∀ D∈Ds,fr.fr D=none)->(∀ k,fr.own k->own k)->Kn (Ds.map mkD++[]) n a' e->Rest w w'->OK ((CF.at {fr with ds:=[]} own).mkd Ds) b G w'->Fin P fn (imm fr bx w.heap) R e b G->bodyR P fr.sh fn (PostB fr bx w R) own .ret a' w':=by
  rintro Ds e b G hn hD h0 h1 h2 h3 ⟨v,bx',F',h4,h5,h6,h7,h8⟩;refine⟨Ds,by simpa using h1.defers,hn,λD hd=>?_,v,λw1 hw1=>?_⟩
  ·exact h3.frame.1 D _ (by simp[CF.mkd,hd])
  have h3:OK (CF.at {fr with ds:=[]} own) b G w1:=h3.unm hD hw1;have h9:=(h3.dsw (Ds.map mkD++[]))
  have hd:=h3.drop h5;have hre:=h4 n _ a' w1 h1 h9;exact⟨hre.1,hre.2,h0,bx',F',h8,h2.trans hw1.rest,hd.facts _ h7,⟨hd.frame,hd.apart,hd.nodup,hd.owns,λf hf=>hd.has (h6 f hf)⟩⟩
 cases ex <;> simp only[postX] at hq
 ·obtain⟨h0,Ds,e,b,G,hn,hD,h1,h2,h3,h4⟩:=hq;exact fin Ds e b G hn hD h0 h1 h2 h3 h4
 ·obtain⟨h0,Ds,e,b,G,hn,hD,h1,h2,h3,h4⟩:=hq;exact h4.elim
 ·obtain⟨h0,Ds,e,b,G,hn,hD,h1,h2,h3,h4⟩:=hq;exact fin Ds e b G hn hD h0 h1 h2 h3 h4
def RgP (l:Nat) (r:Loop) (Rd:List Ow->List Fct->Prop) (X:Code->List Ow->List Fct->Prop):Qd:=λ_ B G=>
 (∃ bx',B=.obj l (.loop r)::bx'∧Rd bx' G)∨∃ c bx',B=.obj l (.loop {r with state:=.done,pending:=some c})::bx'∧X c bx' G
def WX.range {g:Operand} {p:Tmp} {gf:FuncId} {lb:List Value} (Rd:List Ow->List Fct->Prop) (X:Code->List Ow->List Fct->Prop)
  (hg:ev e g=some (.func (.func gf) #[] lb.toArray))
  (hfn:∀ (l:Nat) (r:Loop),Kn [] n ⟨r.tmps,[]⟩ e->r.state=.ready->r.pending=none->r.params=#[p]->r.assign=x->r.body=y->FnB P gf (.func (.yield l) #[] #[]::lb) (.obj l (.loop r)::bx) F (RgP l r Rd X))
  (hdone:∀ bx' G,Rd bx' G->Q .normal e bx' (G++F))
  (hstop:∀ c bx' G,X c bx' G->WX P n c e bx' (G++F) Q):WX P n (.rangeFunc g #[p] x y) e bx F Q:=λfr Ds w0 a w hn hD hk hr ho b k cs Stop hb hkd hc=>by
 refine Run.go rfl λw1 h1=>?_;have ho1:OK (fr.mkd Ds) bx F w1:=ho.rely h1;have hk0:∀ r:Loop,r.tmps=a.tmps->Kn [] n ⟨r.tmps,[]⟩ e:=λr hr=>⟨by rw[hr];exact hk.size,rfl,λk v h=>by rw[hr];exact hk.at' k v h⟩
 generalize hrec:({state:=.ready,pending:=none,fn:=b.fn,tmps:=a.tmps,params:=#[p],assign:=x,body:=y,defers:=w1.heap.size}:Loop)=r;have hr1:r.tmps=a.tmps:=by rw[<-hrec]
 have hr2:r.state=.ready:=by rw[<-hrec]
 have hr3:r.params=#[p]:=by rw[<-hrec]
 have hr4:r.assign=x:=by rw[<-hrec]
 have hr5:r.body=y:=by rw[<-hrec]
 have hr6:r.pending=none:=by rw[<-hrec]
 have hF:=hfn (w1.heap.size+1) r (hk0 r hr1) hr2 hr6 hr3 hr4 hr5;have hst:=sg_range (P:=P) (m:=fr.main.b) (b:=b) (a:=a) (k:=k) (cs:=cs) (w:=w1) (x:=x) (y:=y) (g:=g) (ps:=#[p]) hb hkd (hk.eval hg) hF.1;rw[hrec] at hst;generalize hw2:(w1.alloc (.deferred (some []))).alloc (.loop r)=w2 at hst;have hsz:w2.heap.size=w1.heap.size+2:=by rw[<-hw2];simp
 have hkeep:∀ k,k < w1.heap.size->w2.heap[k]?=w1.heap[k]?:=λk hk=>by
  rw[<-hw2];simp only[World.alloc,Array.getElem?_push,Array.size_push];rw[if_neg qo,if_neg qo]
 have hD2:w2.heap[w1.heap.size]?=some (.deferred (some [])):=by
  rw[<-hw2];simp only[World.alloc,Array.getElem?_push,Array.size_push];simp
 have hl2:w2.heap[w1.heap.size+1]?=some (.loop r):=by
  rw[<-hw2];simp only[World.alloc,Array.getElem?_push,Array.size_push];simp
 have hrest:Rest w1 w2:=by rw[<-hw2];exact⟨rfl,rfl,rfl⟩
 have hle:w1.heap.size<=w2.heap.size:=qo
 have hstep:OK ((fr.mkd Ds).grow w1 w2) (([.obj w1.heap.size (.deferred (some [])),.obj (w1.heap.size+1) (.loop r)]:List Ow)++bx) F w2:=OK.step (ob:=[]) ho1 hle (λk h1 _=>hkeep k h1) (λk hk=>by
   simp only[ids,List.flatMap_cons,Ow.ids,List.flatMap_nil,List.append_nil,List.singleton_append,List.mem_cons,List.not_mem_nil,or_false] at hk;rcases hk with rfl|rfl
   ·exact .inr (Nat.le_refl _)
   ·exact .inr qo) (by simp[ids,Ow.ids]) (λb hb=>by
   simp only[List.mem_cons,List.not_mem_nil,or_false] at hb;rcases hb with rfl|rfl
   ·exact hD2
   ·exact hl2)
 have ho2:OK (CF.mkd (fr.at (W.grow fr.own w1 w2)) (w1.heap.size::Ds)) (.obj (w1.heap.size+1) (.loop r)::bx) F w2:=(OK.hold (fr:=CF.mkd (fr.at (W.grow fr.own w1 w2)) Ds) hstep).mk_mkd
 have hfree:fr.fr w1.heap.size=none:=by
  cases hx:fr.fr w1.heap.size with
  |none=>rfl
  |some o=>
   by_cases hm:w1.heap.size∈Ds
   ·rw[hD _ hm] at hx;cases hx
   ·have:=(ho1.frame.1 w1.heap.size o (by simp[CF.mkd,hm,hx])).2;have:=(Array.getElem?_eq_some_iff.1 this).1;omega
 have hnew:w1.heap.size∉Ds:=λhm=>by
  have:=(ho1.frame.1 w1.heap.size (.deferred (some [])) (by simp[CF.mkd,hm])).2;have:=(Array.getElem?_eq_some_iff.1 this).1;omega
 have hnD:(w1.heap.size::Ds).Nodup:=List.nodup_cons.2 ⟨hnew,hn⟩
 have hDD:∀ D∈w1.heap.size::Ds,fr.fr D=none:=λD h=>by
  rcases List.mem_cons.1 h with rfl|h
  ·exact hfree
  ·exact hD D h
 refine⟨_,_,_,hst,⟨hrest,hle,λk h1 _=>hkeep k h1,λe he=>by simp at he⟩,?_⟩;have hcall:=hF.2 _ w2 ho2;have hargs:(#[.func (.yield (w1.heap.size+1)) #[] #[]]:Array Value)++lb.toArray=(.func (.yield (w1.heap.size+1)) #[] #[]::lb).toArray:=by simp
 rw[hargs];refine Vj hcall λown' v w' hp=>?_;obtain⟨hown,B,GG,hR,hrw,hle',hok⟩:=hp;rw[finish_atR_inRangeFunc];have hfrom:∀ k,fr.own k->own' k:=λk hk=>hown k (.inl hk);have hkn:Kn ((w1.heap.size::Ds).map mkD++fr.ds) n ⟨a.tmps,mkD w1.heap.size::a.defers⟩ e:=⟨hk.size,by show mkD _::a.defers=_;rw[hk.defers];rfl,hk.at'⟩
 have hrst:Rest w0 w':=((hr.trans h1.rest).trans hrest).trans hrw
 have hall:∀ (r':Loop) (bx':List Ow),B=.obj (w1.heap.size+1) (.loop r')::bx'->OK (CF.mkd (fr.at own') (w1.heap.size::Ds)) (.obj (w1.heap.size+1) (.loop r')::bx') (GG++F) w':=λr' bx' hB=>by
  subst hB;refine⟨hok.frame,hok.apart,hok.nodup,hok.owns,λf hf=>?_⟩;rcases List.mem_append.1 hf with hf|hf
  ·exact hok.facts f hf
  ·exact f.mono _ _ hle' (ho2.facts f hf)
 have hend:∀ (r':Loop) (bx':List Ow),r'.state≠.busy->B=.obj (w1.heap.size+1) (.loop r')::bx'->
   (∀ w4,Rest w0 w4->OK (CF.mkd (fr.at own') (w1.heap.size::Ds)) bx' (GG++F) w4->Run P fr.main fr.sh Stop own' (G (b.atR ⟨a.tmps,mkD w1.heap.size::a.defers⟩ ((r'.pending.map Item.code).toList++k)) cs) w4)->
   Run P fr.main fr.sh Stop own' (G (b.atR ⟨a.tmps,mkD w1.heap.size::a.defers⟩ (.endRangeFunc (w1.heap.size+1)::k)) cs) w':=λr' bx' hbusy hB hgo=>by
  refine Run.go rfl λw3 h3=>?_;have ho3:=(hall r' bx' hB).rely h3;have hl3:w3.heap[w1.heap.size+1]?=some (.loop r'):=ho3.owns _ (List.mem_cons_self ..);have hlo:own' (w1.heap.size+1):=(ho3.apart _ (by simp[ids,Ow.ids])).1;refine⟨_,_,_,sg_endRange hl3 hbusy,⟨⟨rfl,rfl,rfl⟩,by simp,λk _ hk=>World.putObj_heap_other (λe=>hk (e ▸ hlo)),λe he=>?_⟩,?_⟩
  ·have he:=JF he;rw[Vv hl3 hbusy] at he;simp at he;rcases he with rfl|rfl <;> exact .inr (.inr ⟨_,rfl,.inl hlo⟩)
  ·rw[Qs (by simp)];exact hgo _ ((hrst.trans h3.rest).trans (b:=w3) ⟨rfl,rfl,rfl⟩) (ho3.Gv.drop (List.sublist_cons_self _ _))
 rcases hR with ⟨bx',hB,hd⟩|⟨c,bx',hB,hx⟩
 ·refine hend r bx' (by rw[hr2];simp) hB λw4 hr4' ho4=>?_;rw[hr6];exact hc own' .normal _ w4 ⟨hfrom,_,e,bx',GG++F,hnD,hDD,hkn,hr4',ho4,hdone bx' GG hd⟩
 ·refine hend _ bx' (by simp) hB λw4 hr4' ho4=>?_;exact hstop c bx' GG hx (fr.at own') _ w0 _ w4 hnD hDD hkn hr4' ho4 b k cs Stop hb hkd λown2 ex a2 w5 q=>hc own2 ex a2 w5 (q.up hfrom)
end
end W
end
section
open Go.RowKit
open Go.Conc (G base)
namespace W
variable {P:Program}
def Qk.of {F:List Fct}:∀ {G:List Fct},(∀ f∈G,Has F f)->Qk F G
 |[],_=>.nil
 |_::_,h=>.cons (h _ (List.mem_cons_self ..)) (Qk.of λf hf=>h f (List.mem_cons_of_mem _ hf))
def bdQ (h1:PH) (X:Code->List Ow->List Fct->Prop):Post
 |.ret=>λ_ bx' F'=>∃ bx'' F'',bx''.Sublist bx'∧Has F' (ge h1)∧(∀ f∈F'',Has F' f)∧X .ret bx'' F''
 |.exit i=>λ_ bx' F'=>∃ bx'' F'',bx''.Sublist bx'∧Has F' (ge h1)∧(∀ f∈F'',Has F' f)∧X (.exit i) bx'' F''
 |_=>λ_ _ _=>False
def U6 (P:Program) (l:Nat) (r:Loop) (val:Value) (bx:List Ow) (F:List Fct) (X:Code->List Ow->List Fct->Prop):Prop:=
 r.params.size=1∧∀ fr w,OK fr (.obj l (.loop r)::bx) F w->
  KN P fr.main fr.sh l r.fn ((r.params.zip #[val]).foldl (λt (p,v)=>t.setIfInBounds p v) r.tmps) r.assign r.body fr.own w
   (λown' v w'=>v=.bool false∧PostB fr (.obj l (.loop r)::bx) w (λ_ B G=>∃ c bx',B=.obj l (.loop {r with state:=.done,pending:=some c})::bx'∧X c bx' G) own' v w')
section
variable {n:Nat} {e:Env} {bx:List Ow} {F:List Fct} {l:Nat} {r:Loop} {val:Value}
def yieldB_of {X:Code->List Ow->List Fct->Prop} {p d:Tmp} {ty:TypeId} {pos:String} {id:Nat} (hk:Kn [] n ⟨r.tmps,[]⟩ e) (hs:r.state=.ready) (hps:r.params=#[p])
  (ha:r.assign=.region id #[{dst:=some d,op:=.assign (.tmp p),type:=ty,pos:=pos,after:=#[],guard:=none}] false) (hp:Nat.blt p n=true) (hd:Nat.blt d n=true)
  (hbody:∀ h1,WC P n r.body ((d,val)::(p,val)::e) bx (ge h1::F) (bdQ h1 X)):U6 P l r val bx F X:=by
 refine⟨by rw[hps];rfl,λfr w ho c cs Stop hc=>?_⟩;rw[round_at];have htm:(r.params.zip #[val]).foldl (λt (p,v)=>t.setIfInBounds p v) r.tmps=(Act.put ⟨r.tmps,[]⟩ (some p) val).tmps:=by rw[hps];simp[Act.put]
 rw[htm];have hkp:Kn [] n ⟨(Act.put ⟨r.tmps,[]⟩ (some p) val).tmps,[]⟩ ((p,val)::e):=hk.put hp val;let h1:=imm fr (.obj l (.loop r)::bx) w.heap
 have ho0:OK {fr with ds:=[]} (.obj l (.loop r)::bx) (ge h1::F) w:=(ho.add (f:=ge h1) (PH.le.refl _)).dsw []
 have hwa:WC P n r.assign ((p,val)::e) (.obj l (.loop r)::bx) (ge h1::F) (λex e' bx' F'=>ex=.normal∧e'=(d,val)::(p,val)::e∧bx'=.obj l (.loop r)::bx∧F'=ge h1::F):=by
  rw[ha];refine WC.region (L:=[{dst:=some d,op:=.assign (.tmp p),type:=ty,pos:=pos,after:=#[],guard:=none}]) (WL.YK (YO.assign (by show look _ _=_;rw[Zs,if_pos rfl])) hd rfl (WL.nil ⟨rfl,rfl,rfl,rfl⟩))
 refine hwa {fr with ds:=[]} w _ w hkp (Rest.refl w) ho0 (Zy l r.fn) [.beginRound,.code r.body] (c::cs) Stop (by simp[Zy]) λXE ex a1 w1 hq=>?_;cases ex with
 |goto l=>exact hq.elim
 |panic ch=>exact hq.elim
 |outgrown=>exact hq.elim
 |exit id=>obtain⟨_,_,_,_,_,_,_,h,_⟩:=hq;cases h
 |ret=>obtain⟨_,_,_,_,_,_,_,h,_⟩:=hq;cases h
 |normal=>
 obtain⟨hw1,e1,b1,F1,hk1,hr1,ho1,_,rfl,rfl,rfl⟩:=hq;show Run P fr.main fr.sh Stop XE _ w1;refine Run.go rfl λw2 h2=>?_;have ho2:=ho1.rely h2;have hl2:w2.heap[l]?=some (.loop r):=ho2.owns _ (List.mem_cons_self ..);have hlo:XE l∧fr.fr l=none:=ho2.apart l (by simp[ids,Ow.ids]);refine⟨_,_,_,V0 (b:=Zy l r.fn) rfl (by simp[Zy]) hl2 hs,⟨⟨rfl,rfl,rfl⟩,by simp,λk _ hk=>World.putObj_heap_other (λe=>hk (e ▸ hlo.1)),λe he=>?_⟩,?_⟩
 ·have he:=JF he;rw[Kv hl2 hs] at he;simp at he;rcases he with rfl|rfl <;> exact .inr (.inr ⟨_,rfl,.inl hlo.1⟩)
 rw[Qs (by simp)];have ho3:=(ho2.Gv (o':=.loop {r with state:=.busy})).hold;have hbd:=hbody h1 (CF.hold (CF.at {fr with ds:=[]} XE) l (.loop {r with state:=.busy})) w a1 (w2.putObj l (.loop {r with state:=.busy})) hk1 (Rest.trans (b:=w2) (hr1.trans h2.rest) ⟨rfl,rfl,rfl⟩) ho3
 have hleave:∀ (j:Code) (own4:Bk) (a4:Act) (w4:World) (k0:List Item),(∀ k,XE k->own4 k)->Rest w w4->(∃ e4 b4 F4,Kn [] n a4 e4∧OK (CF.at (CF.hold (CF.at {fr with ds:=[]} XE) l (.loop {r with state:=.busy})) own4) b4 F4 w4∧∃ bx'' F'',bx''.Sublist b4∧Has F4 (ge h1)∧(∀ f∈F'',Has F4 f)∧X j bx'' F'')->
   (j=.ret∨∃ id,j=.exit id∧exitTo id k0=none)->Run P fr.main fr.sh Stop own4 (G ((Zy l r.fn).atR a4 (.code j::k0)) (c::cs)) w4:=by
  rintro j own4 a4 w4 k0 hw4 hr4 ⟨e4,b4,F4,hk4,ho4,bx'',F'',hb,hg,hF,hx⟩ hj;refine Run.go rfl λw5 h5=>?_;have ho5:=(ho4.rely h5).drop hb;have hfl:=ho5.frame.1 l (.loop {r with state:=.busy}) (show(CF.at (CF.hold (CF.at {fr with ds:=[]} XE) l (.loop {r with state:=.busy})) own4).fr l=_ by simp[CF.at,CF.hold]);have hback:OK (fr.at own4) (.obj l (.loop {r with state:=.done,pending:=some j})::bx'') F4 (w5.putObj l (.loop {r with state:=.done,pending:=some j})):=((OK.back (fr:=CF.at {fr with ds:=[]} own4) ho5 hlo.2).Gv).dsw fr.ds;refine⟨_,_,_,V3 (b:=Zy l r.fn) rfl rfl hfl.2 hj,⟨⟨rfl,rfl,rfl⟩,by simp,λk _ hk=>World.putObj_heap_other (λe=>hk (e ▸ hfl.1)),λe he=>?_⟩,?_⟩
  ·have he:=JF he;rw[UQ hfl.2] at he;simp at he;rcases he with rfl|rfl <;> exact .inr (.inr ⟨_,rfl,.inl hfl.1⟩)
  ·rw[Qs (by simp)];refine hc _ _ _ ⟨rfl,λk hk=>hw4 k (hw1 k hk),_,F'',⟨j,bx'',rfl,hx⟩,Rest.trans (b:=w5) (hr4.trans h5.rest) ⟨rfl,rfl,rfl⟩,hback.has hg,hback.frame,hback.apart,hback.nodup,hback.owns,λf hf=>hback.has (hF f hf)⟩
 refine hbd (Zy l r.fn) [] (c::cs) Stop (by simp[Zy]) λown4 ex a4 w4 hq=>?_;cases ex with
 |goto l=>exact hq.elim
 |panic ch=>exact hq.elim
 |outgrown=>exact hq.elim
 |normal=>obtain⟨_,_,_,_,_,_,_,h⟩:=hq;exact h.elim
 |exit id=>
  obtain⟨hw4,e4,b4,F4,hk4,hr4,ho4,hx⟩:=hq;exact .inr ⟨by simp[Zy],rfl,λk0 hk0=>hleave _ own4 a4 w4 k0 hw4 hr4 ⟨e4,b4,F4,hk4,ho4,hx⟩ (.inr ⟨id,rfl,hk0 id rfl⟩)⟩
 |ret=>
  obtain⟨hw4,e4,b4,F4,hk4,hr4,ho4,hx⟩:=hq;exact⟨λh=>by simp[Zy] at h,λ_ k0 _=>hleave _ own4 a4 w4 k0 hw4 hr4 ⟨e4,b4,F4,hk4,ho4,hx⟩ (.inl rfl)⟩
def LO.yield {X:Code->List Ow->List Fct->Prop} {x:Operand} {arg:Operand} {ats:Array TypeId} {ty:TypeId} {K:Qd} (hy:U6 P l r val bx F X)
  (hx:ev e x=some (.func (.yield l) #[] #[])) (hv:ev e arg=some val) {F0:List Fct} (hF:∀ f∈F,Has F0 f)
  (hK:∀ c bx' G,X c bx' G->K (.bool false) (.obj l (.loop {r with state:=.done,pending:=some c})::bx') (G++F0)) :
  LO P (.call {callee:=.value x,args:=#[arg],argTypes:=ats}) ty e (.obj l (.loop r)::bx) F0 K:=λn fr a w o K' hop _ hk ho hnext=>by
 have hl:w.heap[l]?=some (.loop r):=ho.owns _ (List.mem_cons_self ..);have hlo:fr.own l:=(ho.apart l (by simp[ids,Ow.ids])).1;have e1:a.eval x=.func (.yield l) #[] #[]:=hk.eval hx;have e2:a.eval arg=val:=hk.eval hv
 have hrun:(execOp a.eval o).run P w=.ok (.round l r.fn ((r.params.zip #[val]).foldl (λt (p,v)=>t.setIfInBounds p v) r.tmps) r.assign r.body) w:=by
  have:=VY (P:=P) (args:=#[val]) hl (by rw[hy.1];rfl);simp[execOp,hop,resolve,e1,e2,Deferred.ofValue,invoke,this]
 have hev:(execOp a.eval o).events P w #[]=#[⟨.obj l,false,false⟩]:=by
  have:=HP (P:=P) (args:=#[val]) (es:=#[]) hl (by rw[hy.1];rfl);have h2:=VY (P:=P) (args:=#[val]) hl (by rw[hy.1];rfl);unfold execOp;simp[hop,resolve,e1,e2,Deferred.ofValue,invoke,this,h2]
 rw[hrun]
 refine .inl ⟨.look (by
  rw[hev];intro ev he;simp at he;subst he;exact .inr (.inr ⟨l,rfl,hlo⟩)),?_⟩
 rw[Qs (Nat.le_refl _)];refine(hy.2 fr w ⟨ho.frame,ho.apart,ho.nodup,ho.owns,λf hf=>ho.has (hF f hf)⟩).mono λown' v w' hp=>?_;obtain⟨rfl,hown,B,GG,⟨c,bx',rfl,hX⟩,hr,hle,hok⟩:=hp;refine hnext (fr.at own') _ w' _ _ (CF.le_at hown) hr ⟨hok.frame,hok.apart,hok.nodup,hok.owns,λf hf=>?_⟩ (hK c bx' GG hX);rcases List.mem_append.1 hf with hf|hf
 ·exact hok.facts f hf
 ·exact f.mono _ _ hle (ho.facts f hf)
end
end W
end
section
open Go.RowKit
namespace W
abbrev RQ:=Bk->Exit->Act->World->Prop
def WDo (P:Program) (n:Nat) (L:List Oper) (hs:List Nat) (b0:List Ow) (F0:List Fct) (p:Plan) (e:Env) (bx:List Ow) (F:List Fct) (T:CF->World->RQ->Prop):Prop:=
 ∀ fr w0 listed a w fuel (Q':RQ),(∀ own a x y,Q' own .normal a x->Rly own fr.sh x y->Q' own .normal a y)->Region.noSelect L.toArray=true->chk L hs p listed=true->Down L.toArray listed->
  T fr w0 Q'->
  ((∃ i∈hs,listed.getD i true=false)->OK fr b0 F0 w)->Kn fr.ds n a e->Rest w0 w->OK fr bx F w->p.len<=fuel->∀ fr0:CF,fr0.le fr->YQ P fr.main fr.sh L.toArray Q' (SR fr0 b0 F0) (QN L hs) fuel listed fr.own a w
section
variable {P:Program} {n:Nat} {L:List Oper} {hs:List Nat} {b0 bx:List Ow} {F0 F:List Fct} {p r s:Plan} {e:Env} {T:CF->World->RQ->Prop}
 {i:Nat} {d:Nat} {op:Op} {ty:TypeId} {pos:String} {af:Array Edge} {g:Option (Nat×Bool)} {v:Value}
def WDo.UF (o:Oper) (hL:L[i]?=some o) (e':Env)
  (hy:∀ fr0 a,Kn fr0.ds n a e->∃ v,Ja P fr0.sh L.toArray (SR fr0 b0 F0) o v a∧Kn fr0.ds n (a.put o.dst v) e')
  (h:WDo P n L hs b0 F0 r e' bx F T):WDo P n L hs b0 F0 (.held i r) e bx F T:=λfr w0 listed a w fuel Q' hP hns hc hd hQ hS hk hr ho hf fr0 hle=>by
 simp only[chk,Bool.and_eq_true] at hc;obtain⟨h1,h2,h3,h4⟩:=hc;obtain⟨f',rfl⟩:∃ f',fuel=f'+1:=⟨fuel - 1,by simp[Plan.len] at hf;omega⟩
 have hri:i∈Region.ready .any L.toArray listed:=by simpa using h3
 have hun:=(mem_ready.1 hri).1;have hOK:=hS ⟨i,by simpa using h1,hun⟩;obtain⟨v,hy1,hy2⟩:=hy fr0 a (hle.nk hk);have hLa:L.toArray[i]?=some o:=by simpa using hL
 refine U3 hLa hns (S:=SR fr0 b0 F0) (λown x y hx hr=>SR.rely hx (by rw[hle.sh] at hr;exact hr)) hP (λlisted j hd hl hj=>Yp hd hl hj (by simpa using h1)) f' listed fr.own a w hd (Region.free_spec hLa h2) hri (by rw[hle.sh];exact hy1) ((SR.iff hle).2 hOK) ?_;exact h fr w0 _ _ w f' Q' hP hns h4 (hd.set hri) hQ (λ⟨j,hj,hjl⟩=>hS ⟨j,hj,getD_some hun j hjl⟩) (hle.kn hy2) hr ho (by simp[Plan.len] at hf;exact hf) fr0 hle
def WDo.y (hL:L[i]?=some ⟨some d,op,ty,pos,af,g⟩) (hy:YO P op ty e b0 F0 v) (hd:Nat.blt d n=true) (hg:gok L e g=some true) (h:WDo P n L hs b0 F0 r ((d,v)::e) bx F T) :
  WDo P n L hs b0 F0 (.held i r) e bx F T:=
 WDo.UF _ hL _ (λfr0 a hk=>⟨v,.inl ⟨Jj hk hg,λown w' ho'=>hy n {fr0 with own:=own} a w' _ rfl rfl hk ho'⟩,hk.put hd v⟩) h
def WDo.fy (hL:L[i]?=some ⟨some d,op,ty,pos,af,g⟩) (hy:YO P op ty e [] [] v) (hd':Nat.blt d n=true) (hg:gok L e g=some true) (h:WDo P n L hs b0 F0 r ((d,v)::e) bx F T):WDo P n L hs b0 F0 (.free i r) e bx F T:=λfr w0 listed a w fuel Q' hP hns hc hd hQ hS hk hr ho hf fr0 hle=>by
 simp only[chk,Bool.and_eq_true] at hc;obtain⟨h2,h3,h4⟩:=hc;obtain⟨f',rfl⟩:∃ f',fuel=f'+1:=⟨fuel - 1,by simp[Plan.len] at hf;omega⟩
 have hri:i∈Region.ready .any L.toArray listed:=by simpa using h3
 have hun:=(mem_ready.1 hri).1;have hLa:L.toArray[i]?=some ⟨some d,op,ty,pos,af,g⟩:=by simpa using hL
 have hy1:Ja P fr.sh L.toArray (λ_ _=>True) ⟨some d,op,ty,pos,af,g⟩ v a:=.inl ⟨Jj hk hg,λown w' _=>by
  have:=hy n ⟨⟨true,λ_=>True,λ_ _ _ _ _ _=>False,λ_ _ _ _ _=>False,λ_=>False⟩,λ_=>False,λ_=>False,λ_=>none,fr.ds⟩ a w' ⟨some d,op,ty,pos,af,g⟩ rfl rfl hk ⟨⟨λ_ _ h=>(by cases h),λk h=>(by rcases h with h|h <;> exact h.elim),λk h=>h.elim⟩,by simp[ids],by simp[ids],by simp,by simp⟩;refine⟨this.1,λev hev=>?_⟩;rcases this.2 ev hev with ⟨ad,_,h5⟩|h5
  ·exact h5.elim False.elim λh=>h.1.elim
  ·rcases h5 with h5|⟨_,_,h5⟩
   ·exact .inr (.inl h5)
   ·exact h5.elim⟩
 refine Ud hLa hns hP f' listed fr.own a w hd (Region.free_spec hLa h2) hri hy1 ?_;exact h fr w0 _ _ w f' Q' hP hns h4 (hd.set hri) hQ (λ⟨j,hj,hjl⟩=>hS ⟨j,hj,getD_some hun j hjl⟩) (hk.put hd' v) hr ho (by simp[Plan.len] at hf;exact hf) fr0 hle
def WDo.l (hT:∀ fr fr' w0 Q',fr.le fr'->T fr w0 Q'->T fr' w0 Q') (hL:L[i]?=some ⟨some d,op,ty,pos,af,g⟩) (hdn:Nat.blt d n=true) (hg:gok L e g=some true)
  (h:LO P op ty e bx F λv bx' F'=>(QN L hs i=true∨(b0.Sublist bx'∧∀ f∈F0,f∈F'))∧WDo P n L hs b0 F0 r ((d,v)::e) bx' F' T):WDo P n L hs b0 F0 (.loud i r) e bx F T:=λfr w0 listed a w fuel Q' hP hns hc hd hQ hS hk hr ho hf fr0 hle=>by
 simp only[chk,Bool.and_eq_true,beq_iff_eq] at hc;obtain⟨h1,hc⟩:=hc;obtain⟨f',rfl⟩:∃ f',fuel=f'+1:=⟨fuel - 1,by simp[Plan.len] at hf;omega⟩
 have hri:i∈Region.ready .any L.toArray listed:=by rw[h1];simp
 refine⟨λh0=>(by rw[h0] at h1;cases h1),λj hj=>?_⟩;rw[h1] at hj;simp at hj;subst hj;have hf:r.len<=f':=by simp[Plan.len] at hf;exact hf
 have hun:=(mem_ready.1 hri).1
 have hlate:QN L hs j=true->¬∃ k∈hs,(listed.setIfInBounds j true).getD k true=false:=λhl ⟨k,hj,hjl⟩=>by
  have h1:=Yp hd hl hri hj;have h2:=getD_some hun k hjl;cases hx:listed[k]? with
  |none=>simp[Array.getD_eq_getD_getElem?,hx] at h1
  |some b=>simp[Array.getD_eq_getD_getElem?,hx] at h1 h2;simp[h1] at h2
 unfold OpR;have hLa:L.toArray[j]?=some ⟨some d,op,ty,pos,af,g⟩:=by simpa using hL
 simp only[hLa];rw[if_pos (Jj hk hg)];intro w1 hw1;refine h n fr a w1 ⟨some d,op,ty,pos,af,g⟩ _ rfl rfl hk (ho.rely hw1) λfr' v w' bx' F' hfr hr' ho' hK=>?_;obtain⟨hl,h⟩:=hK
 have hOK:QN L hs j=false->OK fr' b0 F0 w':=λhf=>by
  rcases hl with hl|⟨h1,h2⟩
  ·rw[hf] at hl;cases hl
  ·exact(ho'.drop h1).less h2
 have hle':=hle.trans hfr;have:=h fr' w0 _ (a.put (some d) v) w' f' Q' (λown a x y hq hr=>hP own a x y hq (by rw[<-hfr.sh];exact hr)) hns hc (hd.set hri) (hT _ _ _ _ hfr hQ) (λhx=>?_) ((hfr.kn hk).put hdn v) ((hr.trans hw1.rest).trans hr') ho' hf fr0 hle'
 ·rw[hfr.main,hfr.sh] at this;exact⟨λhf _=>(SR.iff hle').2 (hOK hf),this⟩
 ·cases hb:QN L hs j with
  |true=>exact absurd hx (hlate hb)
  |false=>exact hOK hb
def WDo.odd (o:Oper) (hL:L[i]?=some o) (hl:QN L hs i=true)
  (h:∀ fr w0 a w Q',T fr w0 Q'->Kn fr.ds n a e->Rest w0 w->OK fr bx F w->OpR P fr.main fr.sh L.toArray i (λ_ own' a' w'=>Q' own' .normal a' w') fr.own a w) :
  WDo P n L hs b0 F0 (.loud i .done) e bx F T:=λfr w0 listed a w fuel Q' hP hns hc hd hQ hS hk hr ho hf fr0 hle=>by
 simp only[chk,Bool.and_eq_true,beq_iff_eq] at hc;obtain⟨h1,hc⟩:=hc;obtain⟨f',rfl⟩:∃ f',fuel=f'+1:=⟨fuel - 1,by simp[Plan.len] at hf;omega⟩
 refine⟨λh0=>(by rw[h0] at h1;cases h1),λj hj=>?_⟩;rw[h1] at hj;simp at hj;subst hj;refine(h fr w0 a w Q' hQ hk hr ho).mono λx own a w hq=>⟨λhf=>(by rw[hl] at hf;cases hf),?_⟩
 exact V6 (by simpa using hc) hq f'
def WDo.draw {id:Nat} (hs:List Nat) (p:Plan) (hm:P.follows .mixedOrders=true) (hc:(Region.noSelect L.toArray && (chk L hs p (Array.replicate L.length false) && Nat.ble p.len L.length))=true)
  (h:WDo P n L hs bx F p e bx F T) {fr:CF} {w0 w:World} {a:Act} {Q:RQ} (hT:T fr w0 (λown e a w=>∃ x,Rly own fr.sh x w∧Q own e a x)) (hk:Kn fr.ds n a e) (hr:Rest w0 w) (ho:OK fr bx F w) :
  wpR P fr.main fr.sh (.region id L.toArray true) Q fr.own a w:=by
 simp only[Bool.and_eq_true] at hc;refine Ug (VL hm λw1 h1 t=>?_);have ho1:OK fr bx F {w1 with drawn:=w1.drawn+1}:=(ho.rely h1).drawn _;refine ZL L.toArray.size t _ _ _ _ (S:=SR fr bx F) (late:=QN L hs) ?_;have:=h fr w0 (Array.replicate L.length false) a {w1 with drawn:=w1.drawn+1} L.length (λown e a w=>∃ x,Rly own fr.sh x w∧Q own e a x) (λown a x y ⟨z,h2,h3⟩ h4=>⟨z,h2.trans h4,h3⟩) hc.1 (by simpa using hc.2.1) ?_ hT (λ_=>ho1) hk ((hr.trans h1.rest).trans (Rest.drawn w1 _)) ho1 (by simpa using Nat.le_of_ble_eq_true hc.2.2) fr (.refl _)
 ·simpa using this
 ·intro j o _ hj;rw[Array.getD_eq_getD_getElem?,Array.getElem?_replicate] at hj;split at hj <;> simp at hj
end
end W
end
section
open Go.RowKit
open Go.Conc hiding base
open Go.ConcN
open Go.ConcR (KK WgAt stA smA rd wr mk Payload DC0)
namespace W
section
variable [Payload] (P:Program) (ty:TypeId) (Wg Bx:Nat)
abbrev RWb:World->World->Prop:=RW ty Wg Bx 1 0 0
def AtDis (g:Goroutine) (w:World):Prop:=∃ g',stepG P false g w=.go g' w #[mk .disable]
def AtRel (g:Goroutine) (w:World):Prop:=∃ g',stepG P false g w=.go g' w #[mk (.releaseMerge (stA Wg))]∧∃ m,Goes P false (RWb ty Wg Bx) DC0 (AtDis P) m g' w
end
section
variable [Payload] {P:Program} {ty:TypeId} {Wg Bx:Nat} {v0:Value}
def K7:∀ a b c,RWb ty Wg Bx a b->RWb ty Wg Bx b c->RWb ty Wg Bx a c:=λ_ _ _ h k=>h.trans k
def clash:∀ (m n:Nat) (g:Goroutine) (w:World),Goes P false (RWb ty Wg Bx) DC0 (AtDis P) m g w->Goes P false (RWb ty Wg Bx) (DWs Wg (λ_ _=>False) (λ_ _=>False) Bx 1 1) (AtR0 P ty Wg Bx 1 0 1 v0) n g w->False:=by
 have one:∀ (n:Nat) (g:Goroutine) (w:World),AtDis P g w->Goes P false (RWb ty Wg Bx) (DWs Wg (λ_ _=>False) (λ_ _=>False) Bx 1 1) (AtR0 P ty Wg Bx 1 0 1 v0) n g w->False:=λn g w ⟨g',h1⟩ h2=>by
  have stp:¬AtR0 P ty Wg Bx 1 0 1 v0 g w:=λ⟨_,_,g2,h3,_⟩=>by
   have:=h1.symm.trans h3;injection this with _ _ h4
   simp[mk] at h4
  cases n with
  |zero=>exact stp (h2 w (RW.refl w))
  |succ n=>
   rcases h2 with h2|⟨_,h2⟩
   ·exact stp (h2 w (RW.refl w))
   ·have:=h2 w (RW.refl w);rw[h1] at this;exact(this.1.2 (mk .disable) (by simp)).2.1 rfl
 intro m;induction m with
 |zero=>exact λn g w h1 h2=>one n g w (h1 w (RW.refl w)) h2
 |succ m ih=>
  intro n g w h1 h2;rcases h1 with h1|⟨_,h1⟩
  ·exact one n g w (h1 w (RW.refl w)) h2
  ·have h1:=h1 w (RW.refl w);cases hst:stepG P false g w with
   |go g' w' es=>
    rw[hst] at h1;obtain⟨⟨rfl,rfl⟩,h9⟩:=h1
    have stp:¬AtR0 P ty Wg Bx 1 0 1 v0 g w':=λ⟨_,_,g2,h3,_⟩=>by
     have:=hst.symm.trans h3;injection this with _ _ h4
     simp at h4
    cases n with
    |zero=>exact stp (h2 w' (RW.refl w'))
    |succ n=>
     rcases h2 with h2|⟨_,h2⟩
     ·exact stp (h2 w' (RW.refl w'))
     ·have:=h2 w' (RW.refl w');rw[hst] at this;exact ih n g' w' h9 this.2
   |_=>rw[hst] at h1;exact h1.elim
def merge_goes:∀ (m n:Nat) (g:Goroutine) (w:World),Goes P false (RWb ty Wg Bx) DC0 (AtRel P ty Wg Bx) m g w->Goes P false (RWb ty Wg Bx) (DWs Wg (λ_ _=>False) (λ_ _=>False) Bx 1 1) (AtR0 P ty Wg Bx 1 0 1 v0) n g w->Goes P false (RWb ty Wg Bx) DC0 (AtR0 P ty Wg Bx 1 0 1 v0) m g w:=by
 have one:∀ (n:Nat) (g:Goroutine) (w:World),AtRel P ty Wg Bx g w->Goes P false (RWb ty Wg Bx) (DWs Wg (λ_ _=>False) (λ_ _=>False) Bx 1 1) (AtR0 P ty Wg Bx 1 0 1 v0) n g w->AtR0 P ty Wg Bx 1 0 1 v0 g w:=λn g w ⟨g',h1,m,h3⟩ h2=>by
  cases n with
  |zero=>exact h2 w (RW.refl w)
  |succ n=>
   rcases h2 with h2|⟨_,h2⟩
   ·exact h2 w (RW.refl w)
   ·have:=h2 w (RW.refl w);rw[h1] at this;exact(clash m n g' w h3 this.2).elim
 intro m;induction m with
 |zero=>exact λn g w h1 h2 w1 hr=>one n g w1 (h1 w1 hr) (Goes.rely K7 h2 hr)
 |succ m ih=>
  intro n g w h1 h2;rcases h1 with h1|⟨hrun,h1⟩
  ·exact .inl λw1 hr=>one n g w1 (h1 w1 hr) (Goes.rely K7 h2 hr)
  ·refine .inr ⟨hrun,λw1 hr=>?_⟩;have h1:=h1 w1 hr;have h2:=Goes.rely K7 h2 hr;cases hst:stepG P false g w1 with
   |go g' w' es=>
    rw[hst] at h1;obtain⟨⟨rfl,rfl⟩,h9⟩:=h1;refine⟨⟨rfl,rfl⟩,?_⟩
    have stp:¬AtR0 P ty Wg Bx 1 0 1 v0 g w':=λ⟨_,_,g2,h3,_⟩=>by
     have:=hst.symm.trans h3;injection this with _ _ h4
     simp at h4
    cases n with
    |zero=>exact absurd (h2 w' (RW.refl w')) stp
    |succ n=>
     rcases h2 with h2|⟨_,h2⟩
     ·exact absurd (h2 w' (RW.refl w')) stp
     ·have:=h2 w' (RW.refl w');rw[hst] at this;exact ih n g' w' h9 this.2
   |_=>rw[hst] at h1;exact h1.elim
end
end W
end
namespace W
open Go.Conc Go.ConcN Go.RowKit Go.Conc.Lib Go.ConcR.Gen Go.ConcN.Gen
open Go.ConcR (KK WgAt stA smA rd wr mk Payload DC0)
section
variable [Payload] {L:WgLink} {Wg Bx:Nat} {v0:Value}
def wlw {w w₁:World} (h:WgLive L.tWg Wg w) (r:RWb L.tWg Wg Bx w w₁):WgLive L.tWg Wg w₁:=r.live h
def done_own {P:Program} (H:WgLib P L) {c:Frame} {cs:List Frame} (w:World) (hF:WgLive L.tWg Wg w) :
  Goes P false (RWb L.tWg Wg Bx) DC0 (AtRel P L.tWg Wg Bx) 23 (Go.Conc.G ((Go.Conc.baseD L.done).at ⟨#[.pointer (some ⟨Wg,0,none⟩),undef,undef,undef],[]⟩ [.code (body_done L)]) (c::cs)) w:=by
 lib_facts
 simp only[body_done,body_add,doneFn,addFn,Option.getD_some]
 u_reg wlw hF
 u_op wlw hF
 u_in wlw hF
 refine goes_call rfl rfl (by k_ne) rfl H.f_add (nm_add L) rfl ⟨by u_nil,?_⟩
 walk_nrmf addFn
 u_c stepG_seq wlw hF
 u_cond true wlw hF
 u_c stepG_seq wlw hF
 u_c stepG_seq wlw hF
 u_reg wlw hF
 u_op wlw hF
 u_op wlw hF
 u_c stepG_region_end wlw hF
 u_cond true wlw hF
 u_reg wlw hF
 u_op wlw hF
 u_conv H.underlying_tWgP H.room_tWg (WgLive.cell0 hF).choose_spec wlw hF
 refine Goes.stop (λw₁ h₁=>?_)
 replace hF:=wlw hF h₁
 clear h₁;refine⟨_,stepG_markAt .releaseMerge (by simp) rfl rfl (by k_ne) rfl H.f_relMerge (x_relMerge_n L) (x_relMerge_b L) (x_relMerge_x L) (x_relMerge_f L) (by simp[Act.eval,stA]),5,?_⟩
 walk_nrm
 u_c stepG_region_end wlw hF
 u_c stepG_seq wlw hF
 u_reg wlw hF
 refine Goes.stop (λw₂ h₂=>?_);exact⟨_,stepG_mark0 .disable (by simp) rfl rfl (by k_ne) rfl H.f_disable (x_disable_n L) (x_disable_b L) (x_disable_x L) (x_disable_f L)⟩
def done_goes {P:Program} (H:WgLib P L) {c:Frame} {cs:List Frame} {qt:Nat} (hcm:c.mode=.returning) (hT:QuitsD P qt 0 (Go.Conc.G c cs)) (w:World) (hK:WgLive L.tWg Wg w∧ConcN.Has Bx 0 v0 w) :
  Goes P false (RWb L.tWg Wg Bx) Go.ConcR.DC0 (AtR0 P L.tWg Wg Bx 1 0 1 v0) 23 (Go.Conc.G ((Go.Conc.baseD L.done).at ⟨#[.pointer (some ⟨Wg,0,none⟩),undef,undef,undef],[]⟩ [.code (body_done L)]) (c::cs)) w:=
 merge_goes 23 23 _ w (done_own H w hK.1) (doneN (k:=1) H hcm hT w hK)
end
end W
end Go.Proofs.YtcpaopfdiahnnaaGreat
