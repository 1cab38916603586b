/- Lemmas for the proof of a law: The executor inside a fence: a range over a function whose body always leaves in its first round. Conditions: none. -/
import Derived.Test.YtaongbhamadlkaaGreatBq8
import Derived.Test.YtaongbhamadlkaaGreatBq7
set_option linter.unusedVariables false
set_option linter.unusedSimpArgs false
set_option linter.unusedSectionVars false
namespace Go.Proofs.YtaongbhamadlkaaGreat
open W Go.RowKit
structure Stab (B:Nat) (u v:World):Prop where
 r:W.Rest u v
 s:u.heap.size≤v.heap.size
 k:∀ k o,u.heap[k]?=some o→(k < B∨o.isCells=true)→v.heap[k]?=some o
theorem Stab.refl (B:Nat) (u:World):Stab B u u:=⟨W.Rest.refl u,Nat.le_refl _,fun _ _ h _=>h⟩
theorem Stab.grown {B:Nat} {u v v':World} {row:Option Nat} (h:Stab B u v) (hg:v.grownBy v' row) (hr:∀ r,row=some r→B≤r∧∃ o:Obj,v.heap[r]?=some o∧o.isCells=false):Stab B u v':=by
 refine⟨h.r.trans ⟨hg.os,hg.tape,hg.output⟩,Nat.le_trans h.s hg.size,fun k o hk hc=>?_⟩
 have h1:=h.k k o hk hc
 rw[hg.block k (Array.getElem?_eq_some_iff.1 h1).1 (fun e=>?_)]
 ·exact h1
 ·obtain⟨h2,o',h3,h4⟩:=hr k e.symm
  rw[h1] at h3;cases h3
  rcases hc with hc|hc
  ·omega
  ·rw[h4] at hc;cases hc
def Ow.cell':Ow→Bool
 |.cells ..=>true
 |.slice ..=>true
 |.obj ..=>false
theorem owned_cells {b:Ow} {H:Array Obj} (h:b.holds H) (hc:Ow.cell' b=true):∀ k∈b.ids,∃ o:Obj,H[k]?=some o∧o.isCells=true:=by
 cases b with
 |cells g t cs=>intro k hk;simp only[Ow.ids,List.mem_singleton] at hk;subst hk;exact⟨_,h,rfl⟩
 |obj g o=>cases hc
 |slice v e sz cs=>
  obtain⟨n,h1,⟨rfl,h2⟩|⟨g,cap,sp,rfl,h3,h4,h5,h6⟩⟩:=h
  ·intro k hk;simp[Ow.ids] at hk
  ·intro k hk;simp only[Ow.ids,List.mem_singleton] at hk;subst hk;exact⟨_,h5,rfl⟩
theorem OK.stab {fr:PH} {bx:List Ow} {Fc:List Fct} {u v:World} {B:Nat} {h0:PH} (ho:OK fr bx (ge h0::Fc) u) (hs:Stab B u v) (hfr:∀ k o,fr k=some o→k < B) (h0B:∀ k o,h0 k=some o→k < B) (hb:∀ b∈bx,Ow.cell' b=true) (hc:∀ f∈Fc,Celly f):OK fr bx (ge h0::Fc) v:=by
 have hi:∀ k o,(k < B∨o.isCells=true)→imm fr bx u.heap k=some o→imm fr bx v.heap k=some o:=fun k o hk h=>by
  obtain⟨a1,a2,a3⟩:=imm_some h
  exact imm_of a1 a2 (hs.k k o a3 hk)
 refine⟨fun k o hk=>hs.k k o (ho.frame k o hk) (.inl (hfr k o hk)),ho.apart,ho.nodup,fun b hbm=>Ow.holds_congr (ho.owns b hbm) fun k hk=>?_,fun f hf=>?_⟩
 ·obtain⟨o,h1,h2⟩:=owned_cells (ho.owns b hbm) (hb b hbm) k hk
  rw[hs.k k o h1 (.inr h2),h1]
 ·rcases List.mem_cons.1 hf with rfl|hf
  ·intro k o hk
   exact hi k o (.inl (h0B k o hk)) (ho.facts _ (List.mem_cons_self ..) k o hk)
  ·exact hc f hf _ _ (fun k c t z hk=>hi k _ (.inr rfl) hk) (ho.facts f (List.mem_cons_of_mem _ hf))
theorem OK.below {fr:PH} {bx:List Ow} {F:List Fct} {u v:World} (ho:OK fr bx F u) (hb:Below u.heap.size u v):OK fr bx F v:=by
 have hi:∀ k o,u.heap[k]?=some o→v.heap[k]?=some o:=fun k o h=>by
  rw[hb.block k (Array.getElem?_eq_some_iff.1 h).1];exact h
 refine⟨fun k o hk=>hi k o (ho.frame k o hk),ho.apart,ho.nodup,fun b hbm=>Ow.holds_congr (ho.owns b hbm) fun k hk=>hb.block k (Ow.lt (ho.owns b hbm) k hk),fun f hf=>f.mono _ _ (fun k o hk=>?_) (ho.facts f hf)⟩
 obtain⟨a1,a2,a3⟩:=imm_some hk
 exact imm_of a1 a2 (hi k o a3)
section
variable {fr:PH} {P:Program} {m n:Nat} {ds:List Deferred×World} {e:Env} {bx:List Ow} {F:List Fct} {Q:List Deferred×World→Post} {α:Type}
def bodyQ (h1:PH) (bx:List Ow) (X:Code→α→List Ow→List Fct→Prop) (x:α):Post
 |.ret=>fun _ bx' F'=>ge h1∈F'∧(∀ b∈bx',Ow.cell' b=true)∧(∀ k∈ids bx,k∈ids bx')∧∃ Fc,(∀ f∈Fc,Has F' f∧Celly f)∧X .ret x bx' Fc
 |.exit i=>fun _ bx' F'=>ge h1∈F'∧(∀ b∈bx',Ow.cell' b=true)∧(∀ k∈ids bx,k∈ids bx')∧∃ Fc,(∀ f∈Fc,Has F' f∧Celly f)∧X (.exit i) x bx' Fc
 |_=>fun _ _ _=>False
def New (F:List Fct) (D:Nat):Prop:=(∀ h,Has F (ge h)→h D=none)∧∀ D',Has F (dF D')→D'≠D
theorem keeps_of {fr:PH} {bx bx':List Ow} {F F':List Fct} {u v:World} (ho:OK fr bx F u) (ho':OK fr bx' F' v) (hg:ge (imm fr bx u.heap)∈F') (hb:∀ b∈bx,Ow.cell' b=true) (hi:∀ k∈ids bx,k∈ids bx'):KeepsOthers u v:=by
 have key:∀ k o,u.heap[k]?=some o→k∉ids bx→v.heap[k]?=some o:=fun k o hk hn=>by
  cases hf:fr k with
  |some o'=>
   have:=ho.frame k o' hf
   rw[hk] at this;cases this
   exact ho'.frame k o hf
  |none=>
   obtain⟨_,_,h⟩:=imm_some (ho'.facts _ hg k o (imm_of hf hn hk))
   exact h
 refine⟨?_,fun k o hk hc=>key k o hk fun hx=>?_⟩
 ·by_cases h0:u.heap.size=0
  ·omega
  ·obtain⟨k,hk⟩:∃ k,k+1=u.heap.size:=⟨u.heap.size - 1,by omega⟩
   have hlt:k < u.heap.size:=by omega
   by_cases hx:k∈ids bx
   ·obtain⟨b,hb1,hb2⟩:=mem_ids.1 (hi k hx)
    have:=Ow.lt (ho'.owns b hb1) k hb2
    omega
   ·have:=key k _ (Array.getElem?_eq_getElem hlt) hx
    have:=(Array.getElem?_eq_some_iff.1 this).1
    omega
 ·obtain⟨b,hb1,hb2⟩:=mem_ids.1 hx
  obtain⟨o',h1,h2⟩:=owned_cells (ho.owns b hb1) (hb b hb1) k hb2
  rw[hk] at h1;cases h1;rw[hc] at h2;cases h2
theorem WI.range {g:Operand} {p d:Tmp} {ty:TypeId} {pos:String} {id:Nat} {body:Code} {gf:Nat} {lb:Array Value} {val:α→Value} {S Sp:List α→Prop} {N:Nat} (X:Code→α→List Ow→List Fct→Prop)
  (hm:1≤m) (hg:ev e g=some (.func (.func gf) #[] lb)) (eg:∀ args w,(callFunc gf args).run P w=.ok (.enter gf args) w) (hp:Nat.blt p n=true) (hd:Nat.blt d n=true) (hb:∀ b∈bx,Ow.cell' b=true)
  (hseq:∀ w,OK fr bx F w→SeqStopsK Fence.wide (m - 1) P gf lb (fun x=>#[val x]) (Below w.heap.size) S Sp N w)
  (hbody:∀ (l:Nat) (x:α) (h1:PH),WI fr (Fence.wide.inRound l) (m - 1 - 1) ([],ds.2) P n body ((d,val x)::(p,val x)::e) bx (ge h1::F) (fun ds' ex e' b' F'=>ds'.2=ds.2∧bodyQ h1 bx X x ex e' b' F'))
  (hdone:∀ D,S []→New F D→Q (mkD D::ds.1,ds.2) .normal e bx (dF D::F))
  (hstop:∀ D c x bx' Fc,Sp [x]→X c x bx' Fc→New F D→WI fr Fence.wide m (mkD D::ds.1,ds.2) P n c e bx' (dF D::(Fc++F)) Q) :
  WI fr Fence.wide m ds P n (.rangeFunc g #[p] (.region id #[{dst:=some d,op:=.assign (.tmp p),type:=ty,pos:=pos,after:=#[],guard:=none}] false) body) e bx F Q:=fun a w hk hr ho=>by
 have hfr:∀ k o,fr k=some o→k < w.heap.size:=fun k o h=>(Array.getElem?_eq_some_iff.1 (ho.frame k o h)).1
 have h0B:∀ k o,imm fr bx w.heap k=some o→k < w.heap.size:=fun k o h=>(Array.getElem?_eq_some_iff.1 (imm_some h).2.2).1
 have hnew:∀ D,w.heap.size≤D→New F D:=fun D hD=>by
  have hn:imm fr bx w.heap D=none:=by
   cases hx:imm fr bx w.heap D with
   |none=>rfl
   |some o=>have:=h0B D o hx;omega
  refine⟨fun h hh=>?_,fun D' hh e=>?_⟩
  ·cases hx:h D with
   |none=>rfl
   |some o=>have:=(ho.has hh) D o hx;rw[hn] at this;cases this
  ·subst e
   have:=ho.has hh
   rw[show(dF D').p (imm fr bx w.heap)=(imm fr bx w.heap D'=_) from rfl,hn] at this
   cases this
 have hdf:∀ (v:World) (bx':List Ow) (D:Nat),w.heap.size≤D→(∀ b∈bx',Ow.cell' b=true)→(∀ b∈bx',b.holds v.heap)→v.heap[D]?=some (.deferred (some []))→(dF D).p (imm fr bx' v.heap):=fun v bx' D hD hb' ho' hv=>by
  refine imm_of ?_ (fun hx=>?_) hv
  ·cases hx:fr D with
   |none=>rfl
   |some o=>have:=hfr D o hx;omega
  ·obtain⟨b,hb1,hb2⟩:=mem_ids.1 hx
   obtain⟨o,h1,h2⟩:=owned_cells (ho' b hb1) (hb' b hb1) D hb2
   rw[hv] at h1;cases h1;cases h2
 refine wpIn_rangeFunc_ownF (F:=Fence.wide) (n:=m) (α:=α) rfl hm (gf:=gf) (lb:=lb) (by rw[eval_defers];exact hk.eval hg) trivial eg (hseq w ho) belowK_t (belowK_b (Nat.le_refl _)) (Below.refl _ _) (fun _=>rfl)
  (fun pre v=>pre=[]∧Below w.heap.size w v)
  (fun c pre v=>∃ x u bx' Fc,pre=[x]∧X c x bx' Fc∧(∀ b∈bx',Ow.cell' b=true)∧(∀ f∈Fc,Celly f)∧W.Rest ds.2 u∧OK fr bx' (ge (imm fr bx w.heap)::Fc) u∧Stab w.heap.size u v)
  (fun s W W' row hs hg hr=>⟨hs.1,hs.2.grown hg hs.2.size (fun k e=>(hr k e).1)⟩)
  (fun c s W W' row hs hg hr=>by
   obtain⟨x,u,bx',Fc,k1,k2,k3,k4,k5,k6,k7⟩:=hs
   exact⟨x,u,bx',Fc,k1,k2,k3,k4,k5,k6,k7.grown hg hr⟩)
  ⟨rfl,Below.refl _ _⟩
  (fun x=>(Act.put (Act.put {tmps:=a.tmps,defers:=[]} (some p) (val x)) (some d) (val x))) ?assign ?body ?done ?stop
 case assign=>
  intro l x u K hK
  have hkp:Kn n (Act.put {tmps:=a.tmps,defers:=[]} (some p) (val x)) ((p,val x)::e):=Kn.put (a:={tmps:=a.tmps,defers:=[]}) ⟨hk.size,rfl,hk.at'⟩ hp (val x)
  have hev:(Act.put {tmps:=a.tmps,defers:=[]} (some p) (val x)).eval (.tmp p)=val x:=hkp.eval (by
   show W.look _ _=_
   rw[W.look_cons,if_pos rfl])
  refine wpIn_region_lit (l:=[{dst:=some d,op:=.assign (.tmp p),type:=ty,pos:=pos,after:=#[],guard:=none}]) ?_
  unfold wpListIn
  rw[if_pos (by simp[Region.wanted])]
  refine⟨fun f _=>trivial,?_⟩
  rw[(Wd.round l).sem _ _ (fun c h=>by cases h)]
  have hrun:(execOp (Act.put {tmps:=a.tmps,defers:=[]} (some p) (val x)).eval {dst:=some d,op:=.assign (.tmp p),type:=ty,pos:=pos,after:=#[],guard:=none}).run P u=.ok (.value (val x)) u:=by
   simp[execOp,hev]
  have ha:({tmps:=(#[p].zip #[val x]).foldl (fun t (p,v)=>t.setIfInBounds p v) a.tmps,defers:=[]}:Act)=Act.put {tmps:=a.tmps,defers:=[]} (some p) (val x):=by
   simp[Act.put]
  first
   |(rw[show(Act.mk ((#[p].zip #[val x]).foldl (fun t (p,v)=>t.setIfInBounds p v) a.tmps) [])=Act.put {tmps:=a.tmps,defers:=[]} (some p) (val x) from ha];rw[hrun];exact hK)
   |skip
 case body=>
  rintro l pre x u ⟨rfl,hB⟩ hlt
  have hou:=OK.below ho hB
  have hka:Kn n (Act.put (Act.put {tmps:=a.tmps,defers:=[]} (some p) (val x)) (some d) (val x)) ((d,val x)::(p,val x)::e):=by
   have h0:Kn n {tmps:=a.tmps,defers:=[]} e:=⟨hk.size,rfl,hk.at'⟩
   exact(h0.put hp (val x)).put hd (val x)
  refine wpIn_mono (hbody l x (imm fr bx u.heap) _ u hka (hr.trans ⟨hB.os,hB.tape,hB.output⟩) (hou.add (f:=ge _) (PH.le.refl _))) fun ex a' v hq=>?_
  obtain⟨a0,ds',rfl,hq⟩:=hq
  have fin:∀ (c:Code) (e':Env) (bx':List Ow) (F':List Fct),W.Rest ds.2 v→OK fr bx' F' v→(ge (imm fr bx u.heap)∈F'∧(∀ b∈bx',Ow.cell' b=true)∧(∀ k∈ids bx,k∈ids bx')∧∃ Fc,(∀ f∈Fc,Has F' f∧Celly f)∧X c x bx' Fc)→
    KeepsOthers u v∧∃ x' u' bx' Fc,[]++[x]=[x']∧X c x' bx' Fc∧(∀ b∈bx',Ow.cell' b=true)∧(∀ f∈Fc,Celly f)∧W.Rest ds.2 u'∧OK fr bx' (ge (imm fr bx w.heap)::Fc) u'∧Stab w.heap.size u' v:=by
   rintro c e' bx' F' h1 h2 ⟨q1,q2,q3,Fc,q4,q5⟩
   refine⟨keeps_of hou h2 q1 hb q3,x,v,bx',Fc,rfl,q5,q2,fun f hf=>(q4 f hf).2,h1,⟨h2.frame,h2.apart,h2.nodup,h2.owns,fun f hf=>?_⟩,Stab.refl _ _⟩
   rcases List.mem_cons.1 hf with rfl|hf
   ·intro k o hk'
    obtain⟨a1,a2,a3⟩:=imm_some hk'
    exact h2.facts _ q1 k o (imm_of a1 a2 (by rw[hB.block k (Array.getElem?_eq_some_iff.1 a3).1];exact a3))
   ·exact h2.has (q4 f hf).1
  cases ex with
  |ret=>obtain⟨e',bx',F',h1,h2,h3,h5,h4⟩:=hq;exact fin .ret e' bx' F' (h5 ▸ h2) h3 h4
  |exit i=>obtain⟨e',bx',F',h1,h2,h3,h5,h4⟩:=hq;exact fin (.exit i) e' bx' F' (h5 ▸ h2) h3 h4
  |normal=>obtain⟨e',bx',F',h1,h2,h3,h5,h4⟩:=hq;exact h4.elim
  |goto l=>exact hq.elim
  |panic l=>exact hq.elim
  |outgrown=>exact hq.elim
 case done=>
  rintro D xs u hD hS ⟨rfl,hB⟩ hu
  have hou:=OK.below ho hB
  exact⟨a,(mkD D::ds.1,ds.2),rfl,e,bx,dF D::F,hk,hr.trans ⟨hB.os,hB.tape,hB.output⟩,hou.add (hdf u bx D hD hb hou.owns hu),hdone D hS (hnew D hD)⟩
 case stop=>
  rintro D c pre v hD hS ⟨x,u,bx',Fc,rfl,k2,k3,k4,k5,k6,k7⟩ hv
  have hou:=OK.stab k6 k7 hfr h0B k3 k4
  have hall:OK fr bx' (dF D::(Fc++F)) v:=⟨hou.frame,hou.apart,hou.nodup,hou.owns,fun f hf=>by
   rcases List.mem_cons.1 hf with rfl|hf
   ·exact hdf v bx' D hD k3 hou.owns hv
   ·rcases List.mem_append.1 hf with hf|hf
    ·exact hou.facts f (List.mem_cons_of_mem _ hf)
    ·exact f.mono _ _ (hou.facts _ (List.mem_cons_self ..)) (ho.facts f hf)⟩
  exact hstop D c x bx' Fc hS k2 (hnew D hD) a v hk (k5.trans k7.r) hall
end
end Go.Proofs.YtaongbhamadlkaaGreat
namespace Go.Proofs.YtaongbhamadlkaaGreat
open W Go.RowKit
section
variable {fr:PH} {P:Program} {F':Fence} {m n:Nat} {ds:List Deferred×World} {e:Env} {bx:List Ow} {F:List Fct} {Q:List Deferred×World→Post} {L:List Oper} {id:Nat}
theorem WI.regionCut (hF:Wd F') (i:Nat) (hd:∀ o∈L.take i,∀ c,o.op≠.defer c) (K:Env→List Ow→List Fct→Prop) (h:WL P n L (L.take i) e bx F K)
  (hK:∀ a w e' bx' F'',Kn n a e'→W.Rest ds.2 w→OK fr bx' F'' w→K e' bx' F''→wpListIn F' m P L.toArray (PI fr n Q) (L.drop i) {a with defers:=ds.1} w) :
  WI fr F' m ds P n (.region id L.toArray false) e bx F Q:=fun a w hk hr ho=>by
 have h1:=h fr ds.2 a w (fun ex a' w'=>ex=.normal∧∃ e' bx' F'',Kn n a' e'∧W.Rest ds.2 w'∧OK fr bx' F'' w'∧K e' bx' F'') (fun a' w' e' bx' F'' h1 h2 h3 h4=>⟨rfl,e',bx',F'',h1,h2,h3,h4⟩) hk hr ho
 have h2:=up_list (m:=m) (l2:=L.drop i) hF ds.1 (Q2:=PI fr n Q) (fun a' w' h=>by
  obtain⟨_,e',bx',F'',k1,k2,k3,k4⟩:=h
  rw[withD_nil k1]
  exact hK a' w' e' bx' F'' k1 k2 k3 k4) (fun ex a w h hn=>absurd h.1 hn) (fun a w h=>by cases h.1) (L.take i) a w hd h1
 rw[withD_nil hk,List.take_append_drop] at h2
 exact wpIn_region_lit h2
theorem wl_in (hF:Wd F') {l:List Oper} (hd:∀ o∈l,∀ c,o.op≠.defer c) (h:WL P n L l e bx F (Q ds .normal)) {a:Act} {w:World} (hk:Kn n a e) (hr:W.Rest ds.2 w) (ho:OK fr bx F w):wpListIn F' m P L.toArray (PI fr n Q) l {a with defers:=ds.1} w:=by
 have h1:=h fr ds.2 a w (fun ex a' w'=>ex=.normal∧post fr n ds.2 (Q ds) .normal a' w') (fun a' w' e' bx' F'' h1 h2 h3 h4=>⟨rfl,e',bx',F'',h1,h2,h3,h4⟩) hk hr ho
 have h2:=up_list (m:=m) (l2:=[]) hF ds.1 (Q2:=PI fr n Q) (fun a' w' h=>by
  obtain⟨_,e',bx',F'',k1,k2,k3,k4⟩:=h
  exact⟨a',ds,withD_nil k1,e',bx',F'',k1,k2,k3,k4⟩) (fun ex a w h hn=>absurd h.1 hn) (fun a w h=>by cases h.1) l a w hd h1
 rwa [withD_nil hk,List.append_nil] at h2
end
def itQ (G:World→List Fct→Prop) (ds:List Deferred×World):Post
 |.normal=>fun _ bx F=>ds.1=[]∧bx=[]∧G ds.2 F
 |.ret=>fun _ bx F=>ds.1=[]∧bx=[]∧G ds.2 F
 |_=>fun _ _ _=>False
theorem calls_it {P:Program} {f:FuncId} {fn:Func} {c:Code} {args:List Value} {F:List Fct} {R:Ending→World→Prop} (m:Nat) (e0:Env) (n:Nat) (hf:P.funcs[f]?=some fn) (hb:fn.body=some c) (hn:fn.ntmps=n) (hres:fn.results=#[])
  (hargs:Nat.ble args.length n=true) (he:W.Sub e0 (parEnv 0 args)) {w0 w:World} (hr:W.Rest w0 w) (ho:OK (fun _=>none) [] F w) (G:World→List Fct→Prop) (h:WI (fun _=>none) Fence.wide m ([],w0) P n c e0 [] F (itQ G))
  (hG:∀ v w' F',W.Rest v w'→OK (fun _=>none) [] F' w'→G v F'→R (.returned (.tuple #[])) w'):CallsIn Fence.wide m P f args.toArray w R:=by
 refine callsIn_of_wp_marks hf hb trivial ?_
 have hargs':args.length≤n:=Nat.le_of_ble_eq_true hargs
 have hk:Kn n {tmps:=args.toArray++Array.replicate (fn.ntmps - args.toArray.size) undef,defers:=[]} e0:=by
  refine Kn.sub (e:=parEnv 0 args) ⟨by simp[hn];omega,rfl,fun k v hk=>?_⟩ he
  obtain⟨_,h2⟩:=look_parEnv _ _ _ _ hk
  simp at h2
  rw[Array.getElem?_append_left (by simpa using (List.getElem?_eq_some_iff.1 h2).1)]
  simpa using h2
 refine wpIn_mono (h _ w hk hr ho) fun ex a' w' hq=>?_
 obtain⟨a0,ds,rfl,hq⟩:=hq
 have fin:∀ bx F',W.Rest ds.2 w'→OK (fun _=>none) bx F' w'→(ds.1=[]∧bx=[]∧G ds.2 F')→LeavesInM Fence.wide m P fn a0.tmps R ds.1 .returning w':=by
  rintro bx F' h1 h2 ⟨h0,rfl,h3⟩
  rw[h0]
  exact⟨_,results_none hres _ _ _,hG _ w' F' h1 h2 h3⟩
 cases ex with
 |normal=>obtain⟨e,b,G,h1,h2,h3,h4⟩:=hq;exact fin b G h2 h3 h4
 |ret=>obtain⟨e,b,G,h1,h2,h3,h4⟩:=hq;exact fin b G h2 h3 h4
 |exit i=>obtain⟨e,b,G,h1,h2,h3,h4⟩:=hq;exact h4.elim
 |goto l=>exact hq.elim
 |panic l=>exact hq.elim
 |outgrown=>exact hq.elim
def jF (W0:World) (J:World→Prop):Fct:=⟨fun h=>∀ v:World,W.Rest W0 v→(∀ k o,h k=some o→v.heap[k]?=some o)→J v,fun _ _ hl hp v hv hx=>hp v hv fun k o hk=>hx k o (hl k o hk)⟩
abbrev Neg (c:Nat→Rat) (e:Nat):Type:={k:Nat // k < e∧c k < 0}
def negs (c:Nat→Rat) (e:Nat):(k:Nat)→k≤e→List (Neg c e)
 |0,_=>[]
 |k+1,h=>if hc:c k < 0 then negs c e k (by omega)++[⟨k,by omega,hc⟩] else negs c e k (by omega)
def ng (c:Nat→Rat) (e k:Nat):List (Neg c e):=if h:k≤e then negs c e k h else[]
theorem ng_le {c:Nat→Rat} {e k:Nat} (h:k≤e):ng c e k=negs c e k h:=dif_pos h
theorem ng_up {c:Nat→Rat} {e k:Nat} (h:k < e) (hc:¬c k < 0):ng c e (k+1)=ng c e k:=by
 rw[ng_le (k:=k+1) (by omega),ng_le (k:=k) (by omega),negs,dif_neg hc]
theorem ng_add {c:Nat→Rat} {e k:Nat} (h:k < e) (hc:c k < 0):ng c e (k+1)=ng c e k++[⟨k,h,hc⟩]:=by
 rw[ng_le (k:=k+1) (by omega),ng_le (k:=k) (by omega),negs,dif_pos hc]
theorem negs_len {c:Nat→Rat} {e:Nat}:∀ (k:Nat) (h:k≤e),(negs c e k h).length≤k
 |0,_=>by simp[negs]
 |k+1,h=>by
  have:=negs_len (c:=c) (e:=e) k (by omega)
  rw[negs];split
  ·simp;omega
  ·omega
theorem negs_nil {c:Nat→Rat} {e:Nat}:∀ (k:Nat) (h:k≤e),negs c e k h=[]→∀ j,j < k→¬c j < 0
 |0,_,_=>fun j hj=>by omega
 |k+1,h,hn=>fun j hj=>by
  rw[negs] at hn
  split at hn
  ·simp at hn
  ·rename_i hc
   by_cases e1:j=k
   ·subst e1;exact hc
   ·exact negs_nil (c:=c) (e:=e) k (by omega) hn j (by omega)
namespace Z
attribute [local irreducible] WC WL WD YO LO LoopEnd W.Fin Scalar SliceT FieldAt Row ArrT AllocT KnS Has W.One SrcE IntT
attribute [local irreducible] WI
set_option maxHeartbeats 4000000 in
set_option maxRecDepth 60000 in
theorem entering_c (m gb gx xg vars mm n w:Nat) (tv cv bv:Value) (mc:Nat→QM) (c:Nat→Rat) (e:Nat) (he:e≤w) (hw:w≤100000) (W0:World) (hW:∀ f∈[ce gb 3 [.int .i64 (e:Int)],ce gx 84 [ptr xg],ce xg 88 [.int .i64 (vars:Int),.int .i64 (mm:Int),.int .i64 (n:Int),tv,cv,bv],fF cv w mc c],f.p (imm (fun _=>none) [] W0.heap)) :
  SeqStopsK Fence.wide m Tryz.prog 172 #[ptr gb,ptr gx] (fun x:Neg c e=>#[.int .i64 (x.1:Int)]) (Below W0.heap.size) (fun xs=>xs=negs c e e (Nat.le_refl _)) (fun pre=>∃ (k:Nat) (hk:k < e) (hc:c k < 0),pre=negs c e k (Nat.le_of_lt hk)++[⟨k,hk,hc⟩]) (e+1) W0:=by
 intro l J Jx W1 hB hJ hJx hY h0
 have hG:∀ v:World,Below W0.heap.size W0 v→∀ f∈[ce gb 3 [.int .i64 (e:Int)],ce gx 84 [ptr xg],ce xg 88 [.int .i64 (vars:Int),.int .i64 (mm:Int),.int .i64 (n:Int),tv,cv,bv],fF cv w mc c],f.p (imm (fun _=>none) [] v.heap):=fun v hv f hf=>
  f.mono _ _ (fun k o hk=>by
   obtain⟨a1,a2,a3⟩:=imm_some hk
   exact imm_of rfl (by simp[ids]) (by rw[hv.block k (Array.getElem?_eq_some_iff.1 a3).1];exact a3)) (hW f hf)
 have jf:∀ (W0:World) (J:List (Neg c e)→World→Prop),AbidesFrom W1.heap.size J→∀ pre v,J pre v→W.Rest W0 v→(jF W0 (J pre)).p (imm (fun _=>none) [] v.heap):=fun W0 J hJ pre v hv hr v' hr' hx=>by
  have hx':∀ k o,v.heap[k]?=some o→v'.heap[k]?=some o:=fun k o h=>hx k o (imm_of rfl (by simp[ids]) h)
  refine hJ pre v v' none hv ⟨hr'.os.trans hr.os.symm,hr'.tape.trans hr.tape.symm,hr'.output.trans hr.output.symm,?_,fun k hk _=>?_⟩ (fun r e=>by cases e)
  ·by_cases h0:v.heap.size=0
   ·omega
   ·obtain⟨k,hk⟩:∃ k,k+1=v.heap.size:=⟨v.heap.size - 1,by omega⟩
    have:=hx' k _ (Array.getElem?_eq_getElem (show k < v.heap.size by omega))
    have:=(Array.getElem?_eq_some_iff.1 this).1
    omega
  ·rw[hx' k _ (Array.getElem?_eq_getElem hk),Array.getElem?_eq_getElem hk]
 have jt:∀ (W0:World) (J:List (Neg c e)→World→Prop) pre F' v,W.Rest W0 v→OK (fun _=>none) [] F' v→Has F' (jF W0 (J pre))→J pre v:=fun W0 J pre F' v hr ho hh=>(ho.has hh) v hr fun k o h=>(imm_some h).2.2
 have hr1:W.Rest W0 W1:=⟨hB.os,hB.tape,hB.output⟩
 have ho1:OK (fun _=>none) [] (jF W0 (J (ng c e 0))::ge (imm (fun _=>none) [] W0.heap)::[ce gb 3 [.int .i64 (e:Int)],ce gx 84 [ptr xg],ce xg 88 [.int .i64 (vars:Int),.int .i64 (mm:Int),.int .i64 (n:Int),tv,cv,bv],fF cv w mc c]) W1:=
  ⟨fun k o h=>(by cases h),fun k hk=>(by simp[ids] at hk),by simp[ids],fun b hb=>(by cases hb),fun f hf=>by
   rcases List.mem_cons.1 hf with rfl|hf
   ·exact jf _ J hJ _ W1 (by rw[ng_le (Nat.zero_le e)];exact h0) hr1
   ·rcases List.mem_cons.1 hf with rfl|hf
    ·intro k o hk
     obtain⟨a1,a2,a3⟩:=imm_some hk
     exact imm_of rfl (by simp[ids]) (by rw[hB.block k (Array.getElem?_eq_some_iff.1 a3).1];exact a3)
    ·exact hG W1 hB f hf⟩
 refine calls_it (args:=[.func (.yield l) #[] #[],ptr gb,ptr gx]) m [(0,.func (.yield l) #[] #[]),(1,ptr gb),(2,ptr gx)] 25 Tryz.func172 rfl Tryz.ntmps172 rfl (by kernel_rfl) suA hr1 ho1
  (fun v F'=>(v=W0∧Has F' (jF W0 (J (ng c e e))))∨∃ (k:Nat) (hk:k < e) (hc:c k < 0),Has F' (jF v (Jx (ng c e k++[⟨k,hk,hc⟩])))) ?_ ?_
 ·refine WI.seq ?_
  refine WI.region Wd.wide (by simp) ?_
  repeat'(first|refine gA ?_|(refine goG ?_;intro g)|(refine goV ?_;intro v))
  refine WI.block ?_
  refine WI.loop (σ:=Nat) (fun k=>[(6,.int .i64 (k:Int)),(5,.int .i64 (e:Int)),(0,.func (.yield l) #[] #[]),(1,ptr gb),(2,ptr gx)]) (fun _=>[]) (fun k=>jF W0 (J (ng c e k))::ge (imm (fun _=>none) [] W0.heap)::[ce gb 3 [.int .i64 (e:Int)],ce gx 84 [ptr xg],ce xg 88 [.int .i64 (vars:Int),.int .i64 (mm:Int),.int .i64 (n:Int),tv,cv,bv],fF cv w mc c]) (fun ds k=>ds=([],W0)∧k≤e) (fun k=>e - k) ?_ 0 ⟨rfl,Nat.zero_le _⟩ suA slA sfA
  rintro ds k ⟨rfl,hk⟩
  refine WI.seq ?_
  refine WI.region Wd.wide (by simp) ?_
  by_cases ck:k < e
  ·repeat'(first|refine gA ?_|(refine goG ?_;intro g)|(refine goV ?_;intro v))
   refine WI.seq ?_
   refine WI.cond (b:=true) rfl ?_
   rw[if_pos rfl]
   refine WI.skip ?_
   refine WI.seq ?_
   refine WI.block ?_
   refine WI.seq ?_
   refine WI.region Wd.wide (by simp) ?_
   repeat'(first|refine gA ?_|(refine goG ?_;intro g)|(refine goV ?_;intro v))
   refine WI.seq ?_
   by_cases hc:c k < 0
   ·have hq:sgn (c k).num < 0:=sgn_neg.2 hc
    refine WI.regionCut Wd.wide 12 (by simp) (fun e' bx' F'=>bx'=[]∧W.Sub [(18,.bool true),(20,.int .i64 (k:Int)),(19,.func (.yield l) #[] #[]),(6,.int .i64 (k:Int)),(5,.int .i64 (e:Int)),(0,.func (.yield l) #[] #[]),(1,ptr gb),(2,ptr gx)] e'∧HasAll F' (jF W0 (J (ng c e k))::ge (imm (fun _=>none) [] W0.heap)::[ce gb 3 [.int .i64 (e:Int)],ce gx 84 [ptr xg],ce xg 88 [.int .i64 (vars:Int),.int .i64 (mm:Int),.int .i64 (n:Int),tv,cv,bv],fF cv w mc c])) ?_ ?_
    ·simp only[List.take_succ_cons,List.take_zero]
     refine WL.fact' (isQ (qv (mc k)) (c k)) (W.Has.q (W.Has.fm (v:=cv) hmA) (by omega)) ?_
     repeat'(first|refine gA ?_|(refine goG ?_;intro g)|(refine goV ?_;intro v))
     first|refine WL.callV (Zn.sign (mc k) (c k)) ?_|refine WD.callV (Zn.sign (mc k) (c k)) ?_
     repeat'(first|refine gA ?_|(refine goG ?_;intro g)|(refine goV ?_;intro v))
     exact⟨rfl,suA,sfA⟩
    ·rintro a u e' bx' F' hk' hr ho ⟨rfl,hs,hh⟩
     simp only[List.drop_succ_cons,List.drop_zero]
     have hk2:=hk'.sub hs
     have ho2:=ho.hasAll hh.all
     have hju:J (ng c e k) u:=jt _ J _ _ u hr ho (hh.all _ (List.mem_cons_self ..))
     have hlen:(ng c e k).length < e+1:=by
      rw[ng_le (Nat.le_of_lt ck)]
      have:=negs_len (c:=c) k (Nat.le_of_lt ck)
      omega
     obtain⟨fn,tmps,assign,body,hy,hR⟩:=hY (ng c e k) ⟨k,ck,hc⟩ u hju hlen
     have hge:∀ k o,imm (fun _=>none) [] W0.heap k=some o→imm (fun _=>none) [] u.heap k=some o:=ho2.facts _ (List.mem_cons_of_mem _ (List.mem_cons_self ..))
     unfold wpListIn
     rw[if_pos (gok_wanted (L:=_) hk2 (by rfl))]
     refine⟨fun f _=>trivial,?_⟩
     rw[Wd.wide.sem _ _ (fun c h=>by cases h),eval_defers]
     have e19:a.eval (.tmp 19)=.func (.yield l) #[] #[]:=hk2.eval rfl
     have e20:a.eval (.tmp 20)=.int .i64 (k:Int):=hk2.eval rfl
     have hrun:∀ ty pos af g,(execOp a.eval {dst:=some 21,op:=.call {callee:=.value (.tmp 19),args:=#[.tmp 20],argTypes:=#[3]},type:=ty,pos:=pos,after:=af,guard:=g}).run Tryz.prog u=.ok (.round l fn tmps assign body) u:=fun ty pos af g=>by
      simp[execOp,resolve,e19,e20,Deferred.ofValue,invoke,hy]
     rw[hrun]
     refine⟨fun h=>(by cases h),hR.mono ?_⟩
     rintro ev u' (⟨rfl,hj,hkp⟩|⟨rfl,hjx⟩)
     ·have hr2:W.Rest W0 u':=hr.trans ⟨hkp.os,hkp.tape,hkp.output⟩
      have hge2:∀ k o,imm (fun _=>none) [] W0.heap k=some o→imm (fun _=>none) [] u'.heap k=some o:=fun k o hk=>by
       obtain⟨_,_,a3⟩:=imm_some hk
       obtain⟨_,_,a4⟩:=imm_some (hge k o hk)
       exact imm_of rfl (by simp[ids]) (by rw[hkp.block k (Array.getElem?_eq_some_iff.1 a3).1];exact a4)
      have ho3:OK (fun _=>none) [] (jF W0 (J (ng c e (k+1)))::ge (imm (fun _=>none) [] W0.heap)::[ce gb 3 [.int .i64 (e:Int)],ce gx 84 [ptr xg],ce xg 88 [.int .i64 (vars:Int),.int .i64 (mm:Int),.int .i64 (n:Int),tv,cv,bv],fF cv w mc c]) u':=⟨fun k o h=>(by cases h),fun k hk=>(by simp[ids] at hk),by simp[ids],fun b hb=>(by cases hb),fun f hf=>by
       rcases List.mem_cons.1 hf with rfl|hf
       ·exact jf _ J hJ _ u' (by rw[ng_add ck hc];exact hj) hr2
       ·rcases List.mem_cons.1 hf with rfl|hf
        ·exact hge2
        ·exact f.mono _ _ hge2 (hW f hf)⟩
      refine wl_in (ds:=([],W0)) (fr:=fun _=>none) (bx:=[]) (e:=(21,.bool true)::[(18,.bool true),(20,.int .i64 (k:Int)),(19,.func (.yield l) #[] #[]),(6,.int .i64 (k:Int)),(5,.int .i64 (e:Int)),(0,.func (.yield l) #[] #[]),(1,ptr gb),(2,ptr gx)]) Wd.wide ?_ ?_ (hk2.put (d:=21) rfl (.bool true)) hr2 ho3
      ·simp
      repeat'(first|refine gA ?_|(refine goG ?_;intro g)|(refine goV ?_;intro v))
      refine WI.cond (b:=false) rfl ?_
      rw[if_neg (by decide)]
      refine WI.skip ?_
      refine WI.region Wd.wide (by simp) ?_
      repeat'(first|refine gA ?_|(refine goG ?_;intro g)|(refine goV ?_;intro v))
      exact⟨k+1,⟨⟨rfl,by omega⟩,by show e - (k+1) < e - k;omega⟩,suA,slA,sfA⟩
     ·have ho3:OK (fun _=>none) [] [jF u' (Jx (ng c e k++[⟨k,ck,hc⟩]))] u':=⟨fun k o h=>(by cases h),fun k hk=>(by simp[ids] at hk),by simp[ids],fun b hb=>(by cases hb),fun f hf=>by
       rcases List.mem_cons.1 hf with rfl|hf
       ·exact jf _ Jx hJx _ u' hjx (W.Rest.refl u')
       ·cases hf⟩
      refine wl_in (ds:=([],u')) (fr:=fun _=>none) (bx:=[]) (e:=(21,.bool false)::[(18,.bool true),(20,.int .i64 (k:Int)),(19,.func (.yield l) #[] #[]),(6,.int .i64 (k:Int)),(5,.int .i64 (e:Int)),(0,.func (.yield l) #[] #[]),(1,ptr gb),(2,ptr gx)]) Wd.wide ?_ ?_ (hk2.put (d:=21) rfl (.bool false)) (W.Rest.refl u') ho3
      ·simp
      repeat'(first|refine gA ?_|(refine goG ?_;intro g)|(refine goV ?_;intro v))
      refine WI.cond (b:=true) rfl ?_
      rw[if_pos rfl]
      refine WI.ret ?_
      exact⟨rfl,rfl,.inr ⟨k,ck,hc,hmA⟩⟩
   ·refine WI.region Wd.wide (by simp) ?_
    have hq:¬sgn (c k).num < 0:=fun h=>hc (sgn_neg.1 h)
    refine WL.fact' (isQ (qv (mc k)) (c k)) (W.Has.q (W.Has.fm (v:=cv) hmA) (by omega)) ?_
    repeat'(first|refine gA ?_|(refine goG ?_;intro g)|(refine goV ?_;intro v))
    first|refine WL.callV (Zn.sign (mc k) (c k)) ?_|refine WD.callV (Zn.sign (mc k) (c k)) ?_
    repeat'(first|refine gA ?_|(refine goG ?_;intro g)|(refine goV ?_;intro v))
    refine WI.cond (b:=false) rfl ?_
    rw[if_neg (by decide)]
    refine WI.skip ?_
    refine WI.region Wd.wide (by simp) ?_
    repeat'(first|refine gA ?_|(refine goG ?_;intro g)|(refine goV ?_;intro v))
    exact⟨k+1,⟨⟨rfl,by omega⟩,by show e - (k+1) < e - k;omega⟩,suA,slA,.cons (by rw[ng_up ck hc];exact hmA) sfA⟩
  ·obtain rfl:k=e:=by omega
   repeat'(first|refine gA ?_|(refine goG ?_;intro g)|(refine goV ?_;intro v))
   refine WI.seq ?_
   refine WI.cond (b:=false) rfl ?_
   rw[if_neg (by decide)]
   refine WI.exit ?_
   exact⟨rfl,rfl,.inl ⟨rfl,hmA⟩⟩
 ·rintro W2 v F' hr ho (⟨rfl,h⟩|⟨k,hk,hc,h⟩)
  ·exact⟨⟨_,rfl⟩,.inl ⟨_,ng_le (Nat.le_refl e),jt _ J _ F' v hr ho h⟩⟩
  ·exact⟨⟨_,rfl⟩,.inr ⟨_,⟨k,hk,hc,by rw[ng_le (Nat.le_of_lt hk)]⟩,jt _ Jx _ F' v hr ho h⟩⟩
end Z
end Go.Proofs.YtaongbhamadlkaaGreat
namespace Go.Proofs.YtaongbhamadlkaaGreat
open W Go.RowKit
namespace Z
attribute [local irreducible] WC WL WD YO LO LoopEnd W.Fin Scalar SliceT FieldAt Row ArrT AllocT KnS Has W.One SrcE IntT
set_option maxHeartbeats 4000000 in
set_option maxRecDepth 60000 in
theorem drive_c (xg vars m n last K:Nat) (tv cv bv:Value) (rv:Nat→Value) (ms0:Nat→Nat→QM) (mc0:Nat→QM) (s:X.St) (hl:last≤n) (hm:m≤1000) (hn:n≤10000) (hK:K≤20000000) (hK0:0 < K)
  (hs:∀ i,i≤m→∀ r,r < m→∀ k,k < n+1→Sq K ((X.drP last s i).t r k)) (hc:∀ i,i≤m→∀ k,k < n+1→Sq K ((X.drP last s i).c k)) :
  FnB Tryz.prog 51 [ptr xg,.int .i64 (last:Int)] (TB xg vars m n tv cv bv rv ms0 mc0 s.b) [mT m (n+1) ms0 s.t,mF (n+1) mc0 s.c] (IsTB xg vars m n tv cv bv rv (X.drP last s m)):=by
 refine fn_of [(0,(ptr xg)),(1,(.int .i64 (last:Int)))] 37 Tryz.func51 rfl Tryz.ntmps51 (by kernel_rfl) rfl suA fun h0=>?_
 repeat'(first|refine gA ?_|(refine goG ?_;intro g)|(refine goV ?_;intro v))
 refine WC.lpP (σ:=Nat×(Nat→Nat→QM)×(Nat→QM)) (fun st=>[(12,.int .i64 (st.1:Int)),(11,.int .i64 (m:Int)),(10,bv),(0,ptr xg),(1,.int .i64 (last:Int))])
  (fun st=>TB xg vars m n tv cv bv rv st.2.1 st.2.2 (X.drP last s st.1).b) (fun st=>[mT m (n+1) st.2.1 (X.drP last s st.1).t,mF (n+1) st.2.2 (X.drP last s st.1).c,ge h0]) (fun st=>st.1≤m) (fun st=>m - st.1) (0,ms0,mc0) (Nat.zero_le _) ?_
 rintro⟨i,ms,mc⟩ hi
 simp only at hi ⊢
 by_cases c:i < m
 ·have hsi:=hs i hi
  have hci:=hc i hi
  have e1:X.drP last s (i+1)=X.drS last (X.drP last s i) i:=rfl
  generalize X.drP last s i=D at *
  by_cases cb:D.b i < last
  ·have e2:X.drP last s (i+1)=D:=by rw[e1,X.drS,if_pos cb]
   repeat'(first|refine gA ?_|(refine goG ?_;intro g)|(refine goV ?_;intro v))
   exact LoopEndP.mk (i+1,ms,mc) (by show i+1≤m;omega) (by show m - (i+1) < m - i;omega) [] (by rw[e2,List.append_nil]) (hG:=by rw[e2];exact .cons hmA (.cons hmA (.cons hmA .nil)))
  ·refine WC.perm (Ow.cells xg 88 [.int .i64 (vars:Int),.int .i64 (m:Int),.int .i64 (n:Int),tv,cv,bv]::Ow.slice tv 24 1 (fnV m rv)::Ow.slice cv 31 4 (qcells (n+1) mc)::Ow.slice bv 3 1 (ints (fnL m D.b))::rowO (n+1) (rv i) (ms i)::rowsX m (n+1) rv ms i) ((((((rows_one c).cons _).cons _).cons _).cons _)) ?_
   repeat'(first|refine gA ?_|(refine goG ?_;intro g)|(refine goV ?_;intro v))
   refine WL.callV (indexF_c (resl (rv i) 0 last 4) last (ms i) (D.t i) 121 [] [] [] (fun k=>decide (D.t i k≠0)) (fun k _=>nonzero_c (ms i k) (D.t i k) [])) ?_ (hF:=.cons (hasB_row (t:=D.t) (m:=m) (ms:=ms) meA hmA c (by omega)) .nil)
   cases hf:X.fstT (fun k=>decide (D.t i k≠0)) last 0 with
   |none=>
    have e2:X.drP last s (i+1)=D:=by rw[e1,X.drS,if_neg cb,hf]
    rw[show optI none= -1 from rfl]
    repeat'(first|refine gA ?_|(refine goG ?_;intro g)|(refine goV ?_;intro v))
    exact LoopEndP.mk (i+1,ms,mc) (by show i+1≤m;omega) (by show m - (i+1) < m - i;omega) [] (by rw[e2,List.append_nil];exact(((((rows_one c).cons _).cons _).cons _).cons _).symm) (hG:=by rw[e2];exact .cons hmA (.cons hmA (.cons hmA .nil)))
   |some k=>
    have hk:=fstT_lt hf
    have e2:X.drP last s (i+1)=X.pv D i k:=by rw[e1,X.drS,if_neg cb,hf]
    rw[show optI (some k)=(k:Int) from rfl]
    repeat'(first|refine gA ?_|(refine goG ?_;intro g)|(refine goV ?_;intro v))
    refine WL.callG (TB xg vars m n tv cv bv rv ms mc D.b) [] (by rw[List.append_nil];exact(((((rows_one c).cons _).cons _).cons _).cons _).symm) (pivot_c xg vars m n tv cv bv rv ms mc D i k K c (by omega) hm hn hK hK0 hsi hci) ?_
    rintro _ _ _ ⟨ms2,mc2,rfl,rfl,rfl⟩
    repeat'(first|refine gA ?_|(refine goG ?_;intro g)|(refine goV ?_;intro v))
    exact LoopEndP.mk (i+1,ms2,mc2) (by show i+1≤m;omega) (by show m - (i+1) < m - i;omega) [] (by rw[e2]) (hG:=by rw[e2];exact .cons hmA (.cons hmA (.cons hmA .nil)))
 ·obtain rfl:m=i:=by omega
  repeat'(first|refine gA ?_|(refine goG ?_;intro g)|(refine goV ?_;intro v))
  exact Fin.p (TB xg vars m n tv cv bv rv ms mc (X.drP last s m).b) [mT m (n+1) ms (X.drP last s m).t,mF (n+1) mc (X.drP last s m).c] (ResE.t0 rfl) meA (List.Sublist.refl _) haA ⟨ms,mc,rfl,rfl,rfl⟩
end Z
end Go.Proofs.YtaongbhamadlkaaGreat
namespace Go.Proofs.YtaongbhamadlkaaGreat
open W Go.RowKit
theorem ResE.c1 {P:Program} {e:Env} {bx:List Ow} {F:List Fct} {fn:Func} {t:Tmp} {ty:TypeId} {g tg:Nat} {v:Value} (h:fn.results=#[.cell t ty]) (hl:W.look e t=some (.pointer (some ⟨g,0,none⟩))) (hb:Ow.cells g tg [v]∈bx) (hr:Scalar P ty):ResE P fn e bx F v:=fun n fr a w hk ho=>by
 have h1:a.tmps[t]?.getD undef=.pointer (some ⟨g,0,none⟩):=by rw[hk.at' _ _ hl];rfl
 have h2:=run_ld (P:=P) (w:=w) (b:=g) (o:=0) (v:=v) hr (by rw[own_cell (ho.owns _ hb)];rfl)
 simp only[results,h]
 simp[h1,asAddr,h2]
def IsEn (f:FuncId) (xg e:Nat):RPost:=fun v B G=>∃ ga gb,v=.func (.func f) #[] #[ptr gb,ptr ga]∧B=[Ow.cells gb 3 [.int .i64 (e:Int)],Ow.cells ga 84 [ptr xg]]∧G=[]
def IsRn (xg vars m n:Nat) (tv cv bv:Value) (rv:Nat→Value) (R:X.St×Option Nat):RPost:=fun v B G=>∃ ms mc,v=.int .i64 (optI R.2)∧B=TB xg vars m n tv cv bv rv ms mc R.1.b∧G=[mT m (n+1) ms R.1.t,mF (n+1) mc R.1.c]
structure RS where
 g5:Nat
 ag:Bool
 Ds:List Nat
 ms:Nat→Nat→QM
 mc:Nat→QM
 s:X.St
 f:Nat
theorem ids_rows {m w:Nat} {rv:Nat→Value} {ms ms2:Nat→Nat→QM}:ids (rowsO m w rv ms)=ids (rowsO m w rv ms2):=by
 unfold rowsO rowsL ids
 rw[List.flatMap_map,List.flatMap_map]
 refine congrArg (fun f=>List.flatMap f _) (funext fun i=>?_)
 show(Ow.slice (rv i) _ 4 _).ids=(Ow.slice (rv i) _ 4 _).ids
 cases hv:rv i with
 |slice a b c=>cases a <;> rfl
 |_=>rfl
theorem ent_of {s:X.St} {e:Nat} {x:Neg s.c e} (h:∃ (k:Nat) (hk:k < e) (hc:s.c k < 0),[x]=negs s.c e k (Nat.le_of_lt hk)++[⟨k,hk,hc⟩]):X.ent s e=some x.1:=by
 obtain⟨k,hk,hc,h⟩:=h
 have h1:negs s.c e k (Nat.le_of_lt hk)=[]:=by
  cases hn:negs s.c e k (Nat.le_of_lt hk) with
  |nil=>rfl
  |cons a l=>rw[hn] at h;simp at h
 rw[h1] at h
 simp only[List.nil_append,List.cons.injEq,and_true] at h
 subst h
 rcases X.ent_spec s e with ⟨_,h2⟩|⟨j,h2,h3,h4,h5⟩
 ·have:=h2 k hk;grind
 ·have h6:=negs_nil k (Nat.le_of_lt hk) h1
  have:j=k:=by
   by_cases c1:j < k
   ·exact absurd h4 (h6 j c1)
   ·by_cases c2:k < j
    ·have:=h5 k c2;grind
    ·omega
  rw[h2,this]
theorem ent_no {s:X.St} {e:Nat} (h:[]=negs s.c e e (Nat.le_refl _)):X.ent s e=none:=by
 rcases X.ent_spec s e with ⟨h2,_⟩|⟨j,h2,h3,h4,h5⟩
 ·exact h2
 ·exact absurd h4 (negs_nil e (Nat.le_refl _) h.symm j h3)
theorem cells_cons {b:Ow} {l:List Ow} (h:Ow.cell' b=true) (hl:∀ x∈l,Ow.cell' x=true):∀ x∈b::l,Ow.cell' x=true:=fun x hx=>by
 rcases List.mem_cons.1 hx with rfl|hx
 ·exact h
 ·exact hl x hx
theorem cells_rows {m w:Nat} {rv:Nat→Value} {ms:Nat→Nat→QM}:∀ x∈rowsO m w rv ms,Ow.cell' x=true:=fun x hx=>by
 obtain⟨i,_,rfl⟩:=List.mem_map.1 hx;rfl
theorem cells_TB {xg vars m n:Nat} {tv cv bv:Value} {rv:Nat→Value} {ms:Nat→Nat→QM} {mc:Nat→QM} {b:Nat→Nat}:∀ x∈TB xg vars m n tv cv bv rv ms mc b,Ow.cell' x=true:=
 cells_cons rfl (cells_cons rfl (cells_cons rfl (cells_cons rfl cells_rows)))
theorem ids_app (l r:List Ow):ids (l++r)=ids l++ids r:=by simp[ids]
theorem ids_cons (b:Ow) (r:List Ow):ids (b::r)=b.ids++ids r:=by simp[ids]
theorem ids_sl {v:Value} {t1 z1 t2 z2:Nat} {c1 c2:List Value}:(Ow.slice v t1 z1 c1).ids=(Ow.slice v t2 z2 c2).ids:=by
 cases v with
 |slice a b c=>cases a <;> rfl
 |_=>rfl
theorem ids_TB {xg vars m n:Nat} {tv cv bv:Value} {rv:Nat→Value} {ms ms2:Nat→Nat→QM} {mc mc2:Nat→QM} {b b2:Nat→Nat}:ids (TB xg vars m n tv cv bv rv ms mc b)=ids (TB xg vars m n tv cv bv rv ms2 mc2 b2):=by
 unfold TB
 rw[ids_cons,ids_cons,ids_cons,ids_cons,ids_cons,ids_cons,ids_cons,ids_cons,ids_rows (ms2:=ms2),ids_sl (v:=cv) (c2:=qcells (n+1) mc2),ids_sl (v:=bv) (c2:=ints (fnL m b2))]
theorem hasB_none {bx:List Ow} {F:List Fct} {f:Fct} {fr:PH} {w:World} (h:HasB bx F f) (ho:OK fr bx F w):f.p (imm (fun _=>none) [] w.heap):=f.mono _ _ (fun k o hk=>by
 obtain⟨_,_,a3⟩:=imm_some hk
 exact imm_of rfl (by simp[ids]) a3) (h fr w ho)
theorem ids_turn {a b b' c:List Ow} (h1:ids b=ids b') (h2:ids a=ids c):∀ k∈ids (a++b),k∈ids (c++b'):=fun k hk=>by
 rw[ids_app,h1,h2] at hk
 rw[ids_app]
 rcases List.mem_append.1 hk with h|h
 ·exact List.mem_append_left _ h
 ·exact List.mem_append_right _ h
theorem has_D {F:List Fct} {Ds:List Nat} {D:Nat} (h:∀ f∈Ds.map dF,f∈F):HasAll (dF D::F) (List.map dF (D::Ds)):=W.HasAll.tail fun f hf=>by
 rcases List.mem_cons.1 hf with rfl|hf
 ·exact List.mem_cons_self ..
 ·exact List.mem_cons_of_mem _ (h f hf)
theorem fin2 {F:List Fct} {f g:Fct} (h1:Celly f) (h2:Celly g) (h3:Has F f) (h4:Has F g):∀ x∈[f,g],Has F x∧Celly x:=fun x hx=>by
 simp only[List.mem_cons,List.not_mem_nil,or_false] at hx
 rcases hx with rfl|rfl
 ·exact⟨h3,h1⟩
 ·exact⟨h4,h2⟩
namespace Z
attribute [local irreducible] WC WL WD YO LO LoopEnd W.Fin Scalar SliceT FieldAt Row ArrT AllocT KnS Has W.One SrcE IntT
theorem entering_o (xg e:Nat):FnB Tryz.prog 115 [ptr xg,.int .i64 (e:Int)] [] [] (IsEn 172 xg e):=by
 refine fn_of [(0,(ptr xg)),(1,(.int .i64 (e:Int)))] 6 Tryz.func115 rfl Tryz.ntmps115 (by kernel_rfl) rfl suA fun h0=>?_
 repeat'(first|refine gA ?_|(refine goG ?_;intro g)|(refine goV ?_;intro v))
 refine WC.ret ?_
 exact Fin.p [_,_] [] (ResE.t1 rfl rfl) meA (List.Sublist.refl _) .nil ⟨_,_,rfl,rfl,rfl⟩
attribute [local irreducible] WI
set_option maxHeartbeats 8000000 in
set_option maxRecDepth 60000 in
theorem run_c (xg vars m n e K f:Nat) (tv cv bv:Value) (rv:Nat→Value) (ms:Nat→Nat→QM) (mc:Nat→QM) (s:X.St) (R:X.St×Option Nat) (he:e≤n) (hm:m≤1000) (hn:n≤10000) (hK:K≤20000000) (hK0:0 < K)
  (hrun:X.runP m n e f s=some R) (I:X.St→Prop) (hI0:I s) (hI:∀ u k r,I u→X.ent u e=some k→X.lev n u k m=some r→I (X.pv u r k))
  (hS:∀ u,I u→(∀ i,i < m→∀ k,k < n+1→Sq K (u.t i k))∧∀ k,k < n+1→Sq K (u.c k)) :
  FnB Tryz.prog 48 [ptr xg,.int .i64 (e:Int)] (TB xg vars m n tv cv bv rv ms mc s.b) [mT m (n+1) ms s.t,mF (n+1) mc s.c] (IsRn xg vars m n tv cv bv rv R):=by
 refine fn_in 10 [(0,ptr xg),(1,.int .i64 (e:Int))] 24 Tryz.func48 rfl Tryz.ntmps48 (by kernel_rfl) rfl suA fun h0 fr w0=>?_
 repeat refine WI.seq ?_
 refine WI.region Wd.wide ?_ ?_
 ·simp
 repeat'(first|refine gA ?_|(refine goG ?_;intro g)|(refine goV ?_;intro v))
 rename_i g2
 revert g;intro g4
 repeat refine WI.seq ?_
 refine WI.region Wd.wide ?_ ?_
 ·simp
 repeat'(first|refine gA ?_|(refine goG ?_;intro g)|(refine goV ?_;intro v))
 revert g;intro g50
 refine WI.block ?_
 refine WI.loop (σ:=RS) (fun st=>[(5,ptr st.g5),(1,.int .i64 (e:Int)),(2,ptr g2),(4,ptr g4)])
  (fun st=>Ow.cells st.g5 4 [.bool st.ag]::Ow.cells g4 3 [.int .i64 0]::Ow.cells g2 84 [ptr xg]::TB xg vars m n tv cv bv rv st.ms st.mc st.s.b)
  (fun st=>mT m (n+1) st.ms st.s.t::mF (n+1) st.mc st.s.c::ge h0::st.Ds.map dF)
  (fun ds st=>ds=(st.Ds.map mkD,w0)∧st.Ds.Nodup∧(∀ D∈st.Ds,h0 D=none)∧I st.s∧if st.ag=true then X.runP m n e st.f st.s=some R else R=(st.s,none))
  (fun st=>2*st.f+if st.ag=true then 1 else 0) ?_ ⟨g50,true,[],ms,mc,s,f⟩ ⟨rfl,List.nodup_nil,by simp,hI0,by rw[if_pos rfl];exact hrun⟩ suA (List.Sublist.refl _ |>.trans (by simp only[];exact slA)) sfA
 rintro ds ⟨g5,ag,Ds,ms,mc,s,f⟩ ⟨rfl,hnd,hh0,hIs,hrs⟩
 simp only at hnd hh0 hIs hrs ⊢
 repeat refine WI.seq ?_
 refine WI.region Wd.wide ?_ ?_
 ·simp
 repeat'(first|refine gA ?_|(refine goG ?_;intro g)|(refine goV ?_;intro v))
 cases ag with
 |false=>
  rw[if_neg (by decide)] at hrs
  subst hrs
  repeat refine WI.seq ?_
  refine WI.cond (b:=false) rfl ?_
  rw[if_neg (by decide)]
  refine WI.exit ?_
  repeat refine WI.seq ?_
  refine WI.region Wd.wide ?_ ?_
  ·simp
  repeat'(first|refine gA ?_|(refine goG ?_;intro g)|(refine goV ?_;intro v))
  refine WI.ret ?_
  exact⟨Ds,_,TB xg vars m n tv cv bv rv ms mc s.b,[mT m (n+1) ms s.t,mF (n+1) mc s.c],[mT m (n+1) ms s.t,mF (n+1) mc s.c],rfl,hnd,fun D hD=>⟨Has.mem (List.mem_cons_of_mem _ (List.mem_cons_of_mem _ (List.mem_cons_of_mem _ (List.mem_map.2 ⟨D,hD,rfl⟩)))),hh0 D hD⟩,fin2 Celly.mT Celly.mF hmA hmA,ResE.c1 rfl rfl meA T.sc3,slA,fun f hf=>Has.mem hf,meA,⟨ms,mc,rfl,rfl,rfl⟩⟩
 |true=>
  rw[if_pos rfl] at hrs
  repeat refine WI.seq ?_
  refine WI.cond (b:=true) rfl ?_
  rw[if_pos rfl]
  refine WI.skip ?_
  repeat refine WI.seq ?_
  refine WI.block ?_
  repeat refine WI.seq ?_
  refine WI.region Wd.wide ?_ ?_
  ·simp
  repeat'(first|refine gA ?_|(refine goG ?_;intro g)|(refine goV ?_;intro v))
  repeat refine WI.seq ?_
  refine WI.region Wd.wide ?_ ?_
  ·simp
  repeat'(first|refine gA ?_|(refine goG ?_;intro g)|(refine goV ?_;intro v))
  refine WL.callK (entering_o xg e) ?_
  rintro _ _ _ ⟨ga,gb,rfl,rfl,rfl⟩
  simp only[List.nil_append,List.cons_append]
  repeat'(first|refine gA ?_|(refine goG ?_;intro g)|(refine goV ?_;intro v))
  repeat refine WI.block ?_
  refine WI.range (α:=Neg s.c e) (val:=fun x=>.int .i64 (x.1:Int)) (S:=fun xs=>xs=negs s.c e e (Nat.le_refl _)) (Sp:=fun pre=>∃ (k:Nat) (hk:k < e) (hc:s.c k < 0),pre=negs s.c e k (Nat.le_of_lt hk)++[⟨k,hk,hc⟩]) (N:=e+1)
   (fun c x bx' Fc=>match X.lev n s x.1 m with
    |none=>c=.ret∧bx'=Ow.cells gb 3 [.int .i64 (e:Int)]::Ow.cells ga 84 [ptr xg]::Ow.cells g5 4 [.bool false]::Ow.cells g4 3 [.int .i64 (x.1:Int)]::Ow.cells g2 84 [ptr xg]::TB xg vars m n tv cv bv rv ms mc s.b∧Fc=[mT m (n+1) ms s.t,mF (n+1) mc s.c]
    |some r=>c=.exit 2∧∃ ms' mc',bx'=Ow.cells gb 3 [.int .i64 (e:Int)]::Ow.cells ga 84 [ptr xg]::Ow.cells g5 4 [.bool true]::Ow.cells g4 3 [.int .i64 0]::Ow.cells g2 84 [ptr xg]::TB xg vars m n tv cv bv rv ms' mc' (X.pv s r x.1).b∧Fc=[mT m (n+1) ms' (X.pv s r x.1).t,mF (n+1) mc' (X.pv s r x.1).c])
   (by decide) rfl (fun _ _=>rfl) rfl rfl ?cells ?seq ?body ?done ?stop
  case cells=>exact cells_cons rfl (cells_cons rfl (cells_cons rfl (cells_cons rfl (cells_cons rfl cells_TB))))
  case seq=>
   intro w ho
   refine entering_c (10 - 1) gb ga xg vars m n (n+1) tv cv bv mc s.c e (by omega) (by omega) w fun f hf=>?_
   simp only[List.mem_cons,List.not_mem_nil,or_false] at hf
   rcases hf with rfl|rfl|rfl|rfl
   ·exact hasB_none (.c meA) ho
   ·exact hasB_none (.c meA) ho
   ·exact hasB_none (.c meA) ho
   ·exact hasB_none (HasB.fF meA hmA) ho
  case body=>
   rintro l x h1
   refine WI.block ?_
   repeat refine WI.seq ?_
   refine WI.region (Wd.round l) ?_ ?_
   ·simp
   have hx:=x.2
   obtain⟨hS1,hS2⟩:=hS s hIs
   repeat'(first|refine gA ?_|(refine goG ?_;intro g)|(refine goV ?_;intro v))
   refine WL.callV (leaving_c xg vars m n tv cv bv rv ms s x.1 K (by omega) hm hn hK hK0 hS1) ?_ (hF:=.cons (.c meA) (.cons (HasB.sV (el:=24) meA) (.cons (HasB.rows slA hmA) (.cons (HasB.sN (el:=3) meA) .nil))))
   repeat'(first|refine gA ?_|(refine goG ?_;intro g)|(refine goV ?_;intro v))
   cases hL:X.lev n s x.1 m with
   |none=>
    rw[show optI none= -1 from rfl]
    repeat refine WI.seq ?_
    refine WI.region (Wd.round l) ?_ ?_
    ·simp
    repeat'(first|refine gA ?_|(refine goG ?_;intro g)|(refine goV ?_;intro v))
    refine WI.cond (b:=true) rfl ?_
    rw[if_pos rfl]
    repeat refine WI.seq ?_
    refine WI.region (Wd.round l) ?_ ?_
    ·simp
    repeat'(first|refine gA ?_|(refine goG ?_;intro g)|(refine goV ?_;intro v))
    refine WI.ret ?_
    exact⟨rfl,meA,cells_cons rfl (cells_cons rfl (cells_cons rfl (cells_cons rfl (cells_cons rfl cells_TB)))),fun k hk=>hk,[mT m (n+1) ms s.t,mF (n+1) mc s.c],fin2 Celly.mT Celly.mF hmA hmA,by dsimp only;rw[hL];exact⟨rfl,rfl,rfl⟩⟩
   |some r=>
    have hr:=lev_lt hL
    rw[show optI (some r)=(r:Int) from rfl]
    repeat refine WI.seq ?_
    refine WI.region (Wd.round l) ?_ ?_
    ·simp
    repeat'(first|refine gA ?_|(refine goG ?_;intro g)|(refine goV ?_;intro v))
    refine WI.cond (b:=false) rfl ?_
    rw[if_neg (by decide)]
    refine WI.skip ?_
    repeat refine WI.seq ?_
    refine WI.region (Wd.round l) ?_ ?_
    ·simp
    repeat'(first|refine gA ?_|(refine goG ?_;intro g)|(refine goV ?_;intro v))
    refine WL.callG (TB xg vars m n tv cv bv rv ms mc s.b) [Ow.cells gb 3 [.int .i64 (e:Int)],Ow.cells ga 84 [ptr xg],Ow.cells g5 4 [.bool false],Ow.cells g4 3 [.int .i64 0],Ow.cells g2 84 [ptr xg]] (List.perm_append_comm (l₁:=[Ow.cells gb 3 [.int .i64 (e:Int)],Ow.cells ga 84 [ptr xg],Ow.cells g5 4 [.bool false],Ow.cells g4 3 [.int .i64 0],Ow.cells g2 84 [ptr xg]])) (pivot_c xg vars m n tv cv bv rv ms mc s r x.1 K hr (by omega) hm hn hK hK0 hS1 hS2) ?_
    rintro _ _ _ ⟨ms2,mc2,rfl,rfl,rfl⟩
    refine WL.perm ([Ow.cells gb 3 [.int .i64 (e:Int)],Ow.cells ga 84 [ptr xg],Ow.cells g5 4 [.bool false],Ow.cells g4 3 [.int .i64 0],Ow.cells g2 84 [ptr xg]]++TB xg vars m n tv cv bv rv ms2 mc2 (X.pv s r x.1).b) List.perm_append_comm ?_
    simp only[List.nil_append,List.cons_append]
    repeat'(first|refine gA ?_|(refine goG ?_;intro g)|(refine goV ?_;intro v))
    repeat refine WI.seq ?_
    refine WI.region (Wd.round l) ?_ ?_
    ·simp
    repeat'(first|refine gA ?_|(refine goG ?_;intro g)|(refine goV ?_;intro v))
    refine WI.exit ?_
    exact⟨rfl,meA,cells_cons rfl (cells_cons rfl (cells_cons rfl (cells_cons rfl (cells_cons rfl cells_TB)))),ids_turn (a:=[Ow.cells gb 3 [.int .i64 (e:Int)],Ow.cells ga 84 [ptr xg],Ow.cells g5 4 [.bool false],Ow.cells g4 3 [.int .i64 0],Ow.cells g2 84 [ptr xg]]) (c:=[Ow.cells gb 3 [.int .i64 (e:Int)],Ow.cells ga 84 [ptr xg],Ow.cells g5 4 [.bool true],Ow.cells g4 3 [.int .i64 0],Ow.cells g2 84 [ptr xg]]) ids_TB rfl,[mT m (n+1) ms2 (X.pv s r x.1).t,mF (n+1) mc2 (X.pv s r x.1).c],fin2 Celly.mT Celly.mF hmA hmA,by dsimp only;rw[hL];exact⟨rfl,ms2,mc2,rfl,rfl⟩⟩
  case done=>
   intro D hS0 hN
   have hEn:=ent_no hS0
   have hD1:D∉Ds:=fun h=>hN.2 D (Has.mem (List.mem_cons_of_mem _ (List.mem_cons_of_mem _ (List.mem_cons_of_mem _ (List.mem_map.2 ⟨D,h,rfl⟩))))) rfl
   have hD0:h0 D=none:=hN.1 h0 hmA
   cases f with
   |zero=>simp[X.runP] at hrs
   |succ f=>
    rw[X.runP,hEn] at hrs
    simp only[Option.some.injEq] at hrs
    repeat refine WI.seq ?_
    refine WI.region Wd.wide ?_ ?_
    ·simp
    repeat'(first|refine gA ?_|(refine goG ?_;intro g)|(refine goV ?_;intro v))
    refine WI.region Wd.wide ?_ ?_
    ·simp
    repeat'(first|refine gA ?_|(refine goG ?_;intro g)|(refine goV ?_;intro v))
    exact⟨⟨_,false,D::Ds,ms,mc,s,f⟩,⟨⟨rfl,List.nodup_cons.2 ⟨hD1,hnd⟩,fun D' hD'=>by
     rcases List.mem_cons.1 hD' with rfl|hD'
     ·exact hD0
     ·exact hh0 D' hD',hIs,hrs.symm⟩,by show 2*f+0 < 2*(f+1)+1;omega⟩,suA,slA,.cons hmA (.cons hmA (.cons hmA (has_D fun f hf=>List.mem_cons_of_mem _ (List.mem_cons_of_mem _ (List.mem_cons_of_mem _ hf)))))⟩
  case stop=>
   intro D c x bx' Fc hSp hX hN
   have hEn:=ent_of hSp
   have hD1:D∉Ds:=fun h=>hN.2 D (Has.mem (List.mem_cons_of_mem _ (List.mem_cons_of_mem _ (List.mem_cons_of_mem _ (List.mem_map.2 ⟨D,h,rfl⟩))))) rfl
   have hD0:h0 D=none:=hN.1 h0 hmA
   have hh1:∀ D'∈D::Ds,h0 D'=none:=fun D' hD'=>by
    rcases List.mem_cons.1 hD' with rfl|hD'
    ·exact hD0
    ·exact hh0 D' hD'
   cases f with
   |zero=>simp[X.runP] at hrs
   |succ f=>
    rw[X.runP,hEn] at hrs
    dsimp only at hrs hX
    cases hL:X.lev n s x.1 m with
    |none=>
     rw[hL] at hX hrs
     simp only[Option.some.injEq] at hrs
     obtain⟨rfl,rfl,rfl⟩:=hX
     subst hrs
     refine WI.ret ?_
     exact⟨D::Ds,_,TB xg vars m n tv cv bv rv ms mc s.b,[mT m (n+1) ms s.t,mF (n+1) mc s.c],[mT m (n+1) ms s.t,mF (n+1) mc s.c],rfl,List.nodup_cons.2 ⟨hD1,hnd⟩,fun D' hD'=>⟨(has_D (D:=D) (Ds:=Ds) (fun f hf=>List.mem_append_right _ (List.mem_cons_of_mem _ (List.mem_cons_of_mem _ (List.mem_cons_of_mem _ hf))))).all _ (List.mem_map.2 ⟨D',hD',rfl⟩),hh1 D' hD'⟩,fin2 Celly.mT Celly.mF hmA hmA,ResE.c1 rfl rfl meA T.sc3,slA,fun f hf=>Has.mem hf,meA,⟨ms,mc,rfl,rfl,rfl⟩⟩
    |some r=>
     rw[hL] at hX hrs
     obtain⟨rfl,ms2,mc2,rfl,rfl⟩:=hX
     refine WI.exit ?_
     repeat refine WI.seq ?_
     refine WI.region Wd.wide ?_ ?_
     ·simp
     repeat'(first|refine gA ?_|(refine goG ?_;intro g)|(refine goV ?_;intro v))
     refine WI.region Wd.wide ?_ ?_
     ·simp
     repeat'(first|refine gA ?_|(refine goG ?_;intro g)|(refine goV ?_;intro v))
     exact⟨⟨_,true,D::Ds,ms2,mc2,X.pv s r x.1,f⟩,⟨⟨rfl,List.nodup_cons.2 ⟨hD1,hnd⟩,hh1,hI s x.1 r hIs hEn hL,hrs⟩,by show 2*f+1 < 2*(f+1)+1;omega⟩,suA,slA,.cons hmA (.cons hmA (.cons hmA (has_D fun f hf=>List.mem_append_right _ (List.mem_cons_of_mem _ (List.mem_cons_of_mem _ (List.mem_cons_of_mem _ hf))))))⟩
end Z
end Go.Proofs.YtaongbhamadlkaaGreat
namespace Go.Proofs.YtaongbhamadlkaaGreat
open W Go.RowKit
section
variable {P:Program} {n:Nat} {L rest:List Oper} {e:Env} {bx:List Ow} {F:List Fct} {Q2:Env→List Ow→List Fct→Prop}
theorem WD.callGC {hs:List Nat} {b0:List Ow} {F0 F':List Fct} {p:Plan} {i d:Nat} {f:FuncId} {x:Operand} {args:List Operand} {ats:Array TypeId} {vs:List Value} {R:RPost} {ty:TypeId} {pos:String} {af:Array Edge} {gd:Option (Nat×Bool)} (first cap:List Value) (ba br:List Ow) (hp:bx.Perm (ba++br)) (hf:FnB P f (first++vs++cap) ba F' R) (hK:∀ v b G,R v b G→WD P n L hs b0 F0 p ((d,v)::e) (b++br) (G++F) Q2)
  (hL:L[i]?=some ⟨some d,.call {callee:=.value x,args:=args.toArray,argTypes:=ats},ty,pos,af,gd⟩:=by exact rfl) (hx:ev e x=some (.func (.func f) first.toArray cap.toArray):=by exact rfl) (hv:Evs e args vs:=by repeat(first|exact Evs.nil|(apply Evs.cons;exact rfl))) (hF:HasAll F F':=by repeat(first|exact HasAll.nil|(apply HasAll.cons;exact hsA)))
  (hd:Nat.blt d n=true:=by exact rfl) (hg:gok L e gd=some true:=by exact rfl) (lt:lateB L hs i=true:=by kernel_rfl):WD P n L hs b0 F0 (.loud i p) e bx F Q2:=
 WD.l hL hd hg (LO.call hx hv ba br hp hf hF.all fun v b G hR=>⟨.inl lt,hK v b G hR⟩)
theorem WL.callGC {F':List Fct} {d:Nat} {f:FuncId} {x:Operand} {args:List Operand} {ats:Array TypeId} {vs:List Value} {R:RPost} {ty:TypeId} {pos:String} {af:Array Edge} {gd:Option (Nat×Bool)} (first cap:List Value) (ba br:List Ow) (hp:bx.Perm (ba++br)) (hf:FnB P f (first++vs++cap) ba F' R) (hK:∀ v b G,R v b G→WL P n L rest ((d,v)::e) (b++br) (G++F) Q2)
  (hx:ev e x=some (.func (.func f) first.toArray cap.toArray):=by exact rfl) (hv:Evs e args vs:=by repeat(first|exact Evs.nil|(apply Evs.cons;exact rfl))) (hF:HasAll F F':=by repeat(first|exact HasAll.nil|(apply HasAll.cons;exact hsA)))
  (hd:Nat.blt d n=true:=by exact rfl) (hg:gok L e gd=some true:=by exact rfl):WL P n L (⟨some d,.call {callee:=.value x,args:=args.toArray,argTypes:=ats},ty,pos,af,gd⟩::rest) e bx F Q2:=
 WL.l hd hg (LO.call hx hv ba br hp hf hF.all hK)
end
theorem YO.lssD {P:Program} {e:Env} {bx:List Ow} {F:List Fct} {ty t t':TypeId} {x y:Operand} {k:IntKind} {i j:Int} (hx:ev e x=some (.int k i)) (hy:ev e y=some (.int k j)):YO P (.binOp .lss t x y t') ty e bx F (.bool (decide (i < j))):=YO.cmp hx hy (by simp)
theorem WC.isSl {P:Program} {n k:Nat} {c:Code} {e:Env} {bx:List Ow} {F:List Fct} {Q:Post} {v:Value} (hk:KnS bx F v k) (h:∀ a c',v=.slice a k c'→WC P n c e bx F Q):WC P n c e bx F Q:=
 WC.pure (p:=∃ a c',v=.slice a k c') (fun fr w ho=>by obtain⟨a,c',h1,_⟩:=(hk fr w ho).is;exact⟨a,c',h1⟩) fun ⟨a,c',h1⟩=>h a c' h1
def rwx (p:X.Lp) (i k j:Nat):Rat:=if j < k then p.A i j else if p.v≤j∧j < p.v+k then p.A i j else 0
theorem rwx_up {p:X.Lp} {i k:Nat} {neg:Bool} (hn:neg=decide (p.b i < 0)) (hk:k < p.v) (j:Nat):upd (upd (rwx p i k) k (if neg=true then -(p.a i k) else p.a i k)) (p.v+k) (if neg=true then -(-(p.a i k)) else -(p.a i k)) j=rwx p i (k+1) j:=by
 have hs:p.sg i=if neg=true then -1 else 1:=by
  unfold X.Lp.sg;rw[hn]
  by_cases c:p.b i < 0 <;> simp[c]
 have h1:(if neg=true then -(p.a i k) else p.a i k)=p.A i k:=by
  unfold X.Lp.A
  rw[if_pos hk,hs]
  cases neg <;> simp <;> grind
 have h2:(if neg=true then -(-(p.a i k)) else -(p.a i k))=p.A i (p.v+k):=by
  unfold X.Lp.A
  rw[if_neg (show ¬p.v+k < p.v by omega),if_pos (show p.v+k < 2*p.v by omega),hs,show p.v+k - p.v=k by omega]
  cases neg <;> simp <;> grind
 rw[h1,h2]
 unfold upd rwx
 by_cases c1:j=p.v+k
 ·subst c1
  rw[if_pos rfl,if_neg (by omega),if_pos (by omega)]
 ·rw[if_neg c1]
  by_cases c2:j=k
  ·subst c2
   rw[if_pos rfl,if_pos (by omega)]
  ·rw[if_neg c2]
   by_cases c3:j < k
   ·rw[if_pos c3,if_pos (by omega)]
   ·rw[if_neg c3,if_neg (show ¬j < k+1 by omega)]
    by_cases c4:p.v≤j∧j < p.v+k
    ·rw[if_pos c4,if_pos (by omega)]
    ·rw[if_neg c4,if_neg (by omega)]
theorem rwx_all {p:X.Lp} {i:Nat} {neg:Bool} (hn:neg=decide (p.b i < 0)) (hi:i < p.m) (f:Nat→Rat) (hf:∀ j,f j=upd (upd (rwx p i p.v) (2*p.v+i) (if neg=true then -(Rat.divInt 1 1) else Rat.divInt 1 1)) p.n (if neg=true then -(p.b i) else p.b i) j) :
  (neg=false→∀ j,j < p.n+1→f j=p.A i j)∧(neg=true→∀ j,j < p.n+1→upd f (p.la+i) (Rat.divInt 1 1) j=p.A i j):=by
 have hs:p.sg i=if neg=true then -1 else 1:=by
  unfold X.Lp.sg;rw[hn]
  by_cases c:p.b i < 0 <;> simp[c]
 have hb:p.b i < 0↔neg=true:=by rw[hn];simp
 have h1:Rat.divInt 1 1=1:=by decide +kernel
 have hla:p.la=2*p.v+p.m:=rfl
 have hnn:p.n=2*p.v+2*p.m:=rfl
 have key:∀ j,j < p.n+1→j≠p.la+i→f j=p.A i j:=fun j hj hne=>by
  rw[hf,h1]
  unfold upd rwx X.Lp.A
  rw[hs]
  by_cases c1:j=p.n
  ·subst c1
   rw[if_pos rfl,if_neg (show ¬p.n < p.v by omega),if_neg (show ¬p.n < 2*p.v by omega),if_neg (show ¬p.n < p.la by omega),if_neg (show ¬p.n < p.n by omega)]
   cases neg <;> simp <;> grind
  ·rw[if_neg c1]
   by_cases c2:j=2*p.v+i
   ·subst c2
    rw[if_pos rfl,if_neg (show ¬2*p.v+i < p.v by omega),if_neg (show ¬2*p.v+i < 2*p.v by omega),if_pos (show 2*p.v+i < p.la by omega),if_pos rfl]
   ·rw[if_neg c2]
    by_cases c3:j < p.v
    ·rw[if_pos c3,if_pos c3]
    ·rw[if_neg c3,if_neg c3]
     by_cases c4:j < 2*p.v
     ·rw[if_pos (show p.v≤j∧j < p.v+p.v by omega),if_pos c4]
     ·rw[if_neg (show ¬(p.v≤j∧j < p.v+p.v) by omega),if_neg c4]
      by_cases c5:j < p.la
      ·rw[if_pos c5,if_neg c2]
      ·rw[if_neg c5,if_pos (show j < p.n by omega),if_neg (fun h=>hne h.1)]
 refine⟨fun hf0 j hj=>?_,fun ht j hj=>?_⟩
 ·by_cases c:j=p.la+i
  ·subst c
   rw[hf,h1]
   unfold upd rwx X.Lp.A
   rw[if_neg (show ¬p.la+i=p.n by omega),if_neg (show ¬p.la+i=2*p.v+i by omega),if_neg (show ¬p.la+i < p.v by omega),if_neg (show ¬(p.v≤p.la+i∧p.la+i < p.v+p.v) by omega),if_neg (show ¬p.la+i < p.v by omega),if_neg (show ¬p.la+i < 2*p.v by omega),if_neg (show ¬p.la+i < p.la by omega),if_pos (show p.la+i < p.n by omega),if_neg (fun h=>by have:=hb.1 h.2;rw[hf0] at this;cases this)]
  ·exact key j hj c
 ·unfold upd
  by_cases c:j=p.la+i
  ·subst c
   rw[if_pos rfl,h1]
   unfold X.Lp.A
   rw[if_neg (show ¬p.la+i < p.v by omega),if_neg (show ¬p.la+i < 2*p.v by omega),if_neg (show ¬p.la+i < p.la by omega),if_pos (show p.la+i < p.n by omega),if_pos ⟨rfl,hb.2 ht⟩]
  ·rw[if_neg c];exact key j hj c
theorem upd_same {α:Type} {f:Nat→α} {i:Nat} {c:α} (h:f i=c):upd f i c=f:=funext fun j=>by
 unfold upd
 by_cases e:j=i
 ·rw[if_pos e,e,h]
 ·rw[if_neg e]
theorem has_tapp {F:List Fct} {i w:Nat} {ms:Nat→Nat→QM} {A:Nat→Nat→Rat} {mx:Nat→QM} {f:Nat→Rat} (h:Has F (mT i w ms A)) (hx:Has F (mF w mx f)) (hf:∀ j,j < w→f j=A i j):Has F (mT (i+1) w (upd ms i mx) A):=fun p hp k hk j hj=>by
 by_cases c:k=i
 ·subst c;rw[upd_at,←hf j hj];exact hx p hp j hj
 ·rw[upd_ne c];exact h p hp k (by omega) j hj
theorem hasT0 {F:List Fct} {w:Nat} {ms:Nat→Nat→QM} {t:Nat→Nat→Rat}:Has F (mT 0 w ms t):=fun p hf i hi=>absurd hi (by omega)
def IsMk (M:Pm) (p:X.Lp):RPost:=fun v B G=>∃ xg tv bv rv ms,v=ptr xg∧B=TM xg p.v p.m p.n tv (.slice none 0 0) bv rv ms p.s0.b∧G=[mT p.m (p.n+1) ms p.A]
namespace Z
attribute [local irreducible] WC WL WD YO LO LoopEnd W.Fin Scalar SliceT FieldAt Row ArrT AllocT KnS Has W.One SrcE IntT
theorem d44 {G G':Prop} (h:G') (s:Bx G'→G:=by
 intro h
 first|(apply WC.draw (id:=13) [0,1,2,3,4,5] (.held 0 (.held 1 (.held 2 (.held 3 (.held 4 (.held 5 (.loud 6 (.loud 7 (.done))))))))) mixed (by kernel_rfl))|(apply WC.draw (id:=15) [0,1,2,3,4,5] (.held 0 (.held 1 (.held 2 (.held 3 (.held 4 (.held 5 (.loud 6 (.loud 7 (.done))))))))) mixed (by kernel_rfl))|(apply WC.draw (id:=16) [0,1,2,3,4,5,6] (.held 0 (.held 1 (.held 2 (.held 3 (.held 4 (.held 5 (.held 6 (.loud 7 (.done))))))))) mixed (by kernel_rfl))|(apply WC.draw (id:=20) [0,1,3] (.held 0 (.held 1 (.loud 2 (.held 3 (.loud 4 (.done)))))) mixed (by kernel_rfl))|fail
 exact Bx.h h):G:=s ⟨h⟩
theorem goYL {G G':Prop} (h:G') (s:Bx G'→G:=by
 intro h
 (apply WD.fy;exact rfl;(first|(apply YO.move;exact rfl)|(apply YO.assign;exact rfl)|exact y_lss|exact y_add|exact y_len|(first|(first|(apply YO.ix1;exact t6A;exact rfl;exact rfl;exact knA;omega)|(apply YO.ix;exact t6A;exact rfl;exact rfl;exact knA;omega)|(apply YO.ix1';exact t6A;exact rfl;exact rfl;exact knA;omega;omega)|(apply YO.ix';exact t6A;exact rfl;exact rfl;exact knA;omega;omega))|(apply YO.ix1;exact t6A;exact rfl;exact rfl;exact knA;(first|omega|(simp only[List.length_set,List.length_replicate];omega)))|(apply YO.ix;exact t6A;exact rfl;exact rfl;exact knA;(first|omega|(simp only[List.length_set,List.length_replicate];omega)))|(apply YO.ix1';exact t6A;exact rfl;exact rfl;exact knA;omega;(first|omega|(simp only[List.length_set,List.length_replicate];omega))))|(first|(apply YO.ldON;exact t2A;exact rfl;exact meA;omega)|(apply YO.ldOV;exact t2A;exact rfl;exact meA;omega)|(apply YO.ldW;exact t4A;exact rfl;exact meA;exact rfl)|(apply YO.ld42;exact t4A;exact rfl;exact meA)|(apply YO.ld40;exact t4A;exact rfl;exact meA)|(apply YO.ld62;exact t4A;exact rfl;exact meA)|(apply YO.ld51;exact t4A;exact rfl;exact meA)|(apply YO.ldFf;exact t4A;exact rfl;exact hmA;omega)|(apply YO.ldOR;exact t4A;exact rfl;exact meA;omega)|(apply YO.ldRf;exact t4A;exact rfl;exact hmA;omega;omega)|(apply YO.ldPl;exact t4A;exact rfl;exact hmA;omega)|(apply YO.ld73;exact t4A;exact rfl;exact meA)|(apply YO.ldWI0;exact t4A;exact rfl;exact meA;(first|omega|(simp only[List.length_set,List.length_replicate];omega)))|(apply YO.ldWF0;exact t4A;exact rfl;exact hmA;(first|omega|(simp only[List.length_set,List.length_replicate];omega)))|(apply YO.ldCI;exact t2A;exact rfl;exact meA;(first|omega|(simp only[List.length_set,List.length_replicate];omega)))|(apply YO.ldFI;exact t2A;exact rfl;exact hmA;(first|omega|(simp only[List.length_set,List.length_replicate];omega)))|(apply YO.ldF;exact t2A;exact rfl;exact hmA;exact rfl)|(apply YO.ldS;exact t2A;exact rfl;exact hsA;omega)|(apply YO.ldB;exact t2A;exact rfl;exact meA;exact rfl)|(apply YO.ldOI;exact t2A;exact rfl;exact meA;(first|omega|(simp only[List.length_set,List.length_replicate];omega))))|exact y_pick|exact y_fieldAddr|(first|(first|(first|(apply YO.eql_t;exact rfl;exact rfl;omega)|(apply YO.eql_f;exact rfl;exact rfl;omega))|(apply YO.eqNil_t;exact t6A;exact rfl;exact knA;assumption)|(apply YO.eqNil_f;exact t6A;exact rfl;exact knA;assumption))|(apply YO.beq_t;exact bool_t;exact rfl;exact rfl;(first|rfl|assumption|decide))|(apply YO.beq_f;exact bool_t;exact rfl;exact rfl;(first|rfl|assumption|decide))|(apply YO.eqNz_t;exact t6A;exact rfl;exact knA;assumption)|(apply YO.eqNz_f;exact t6A;exact rfl;exact knA;assumption))|exact y_neq|(apply YO.nil;exact rfl)|(apply YO.extract;exact rfl;exact rfl)|exact y_gtr|exact y_geq|exact y_leq|(apply YO.sub;exact rfl;exact rfl;omega;omega)|exact y_mul|exact y_rem|exact y_quo|exact y_unot|exact y_uneg|(apply YO.max;exact rfl;exact rfl)|(apply YO.min;exact rfl;exact rfl)|exact y_makeFunc|(first|(first|(apply YO.convU;exact t7A;exact t7A;exact rfl;omega;omega)|(apply YO.convI;exact t7A;exact t7A;exact rfl;omega;omega))|(apply YO.convN;exact t7A;exact t7A;exact rfl;omega;omega))|exact y_shl|(apply YO.shr';exact rfl;exact rfl;omega;omega)|exact y_and|exact y_or|(apply YO.anot;exact rfl;exact rfl)|(first|(first|(apply YO.slice;exact t6A;exact rfl;exact knA;exact Or.inl ⟨rfl,rfl⟩;exact Or.inr ⟨_,rfl,rfl⟩;omega;omega)|(apply YO.slice;exact t6A;exact rfl;exact knA;exact Or.inr ⟨_,rfl,rfl⟩;exact Or.inl ⟨rfl,rfl⟩;omega;omega))|(apply YO.slice3;exact t6A;exact rfl;exact knA;exact rfl;exact rfl;omega;omega)|(apply YO.slice;exact t6A;exact rfl;exact knA;exact Or.inr ⟨_,rfl,rfl⟩;exact Or.inr ⟨_,rfl,rfl⟩;omega;omega)));exact rfl;exact rfl)
 exact Bx.h h):G:=s ⟨h⟩
set_option maxHeartbeats 8000000 in
set_option maxRecDepth 60000 in
theorem made_c (M:Pm) (p:X.Lp) (hv:p.v≤1000) (hm:p.m≤1000):FnB Tryz.prog 44 [pgv M p.v] [] [fP M p] (IsMk M p):=by
 refine fn_of [(0,(pgv M p.v))] 122 Tryz.func44 rfl Tryz.ntmps44 (by kernel_rfl) rfl suA fun h0=>?_
 have hn:p.n=2*p.v+2*p.m:=rfl
 have hla:p.la=2*p.v+p.m:=rfl
 refine WC.addNil 3 1 ?_
 refine WC.addNil 24 1 ?_
 repeat'(first|refine gM ?_|(refine gI ?_;intro g)|(refine gU ?_;intro v)|refine gN ?_ ?_|refine d44 ?_|fail)
 rw[show(2:Int)*(p.v:Int)+2*(p.m:Int)=((p.n:Nat):Int) by rw[hn];simp]
 rename_i gp
 revert g;intro xg
 refine WC.lpP (σ:=Nat×Value×Value×(Nat→Value)×(Nat→Nat→QM)) (fun st=>[(30,.int .i64 (st.1:Int)),(29,.int .i64 (p.m:Int)),(28,M.lv),(4,ptr xg),(3,.int .i64 (p.m:Int)),(1,ptr gp)])
  (fun st=>Ow.cells xg 88 [.int .i64 (p.v:Int),.int .i64 (p.m:Int),.int .i64 (p.n:Int),st.2.1,.slice none 0 0,st.2.2.1]::Ow.cells gp 26 (pcs M p.v)::Ow.slice st.2.1 24 1 (fnV st.1 st.2.2.2.1)::Ow.slice st.2.2.1 3 1 (ints (fnL st.1 p.s0.b))::rowsO st.1 (p.n+1) st.2.2.2.1 st.2.2.2.2)
  (fun st=>[mT st.1 (p.n+1) st.2.2.2.2 p.A,ge h0,fP M p]) (fun st=>st.1≤p.m) (fun st=>p.m - st.1) (0,.slice none 0 0,.slice none 0 0,fun _=>.slice none 0 0,fun _ _=>m00) (Nat.zero_le _) ?_ (hG:=.cons hasT0 (.cons hmA (.cons hmA .nil)))
 rintro⟨i,tv,bv,rv,ms⟩ hi
 simp only at hi ⊢
 by_cases c:i < p.m
 ·refine WC.fact (fF (M.av i) p.v (M.ma i) (p.a i)) (W.Has.pa (M:=M) (gn:=p.v) (ln:=fun _=>p.v) (a:=p.a) (b:=p.b) (g:=p.g) hmA c) ?_
  refine WC.fact (isQ (qv (M.mb i)) (p.b i)) (W.Has.pbq (M:=M) (gn:=p.v) (ln:=fun _=>p.v) (a:=p.a) (b:=p.b) (g:=p.g) hmA c) ?_
  repeat'(first|refine gM ?_|(refine gI ?_;intro g)|(refine gU ?_;intro v)|refine gN ?_ ?_|refine d44 ?_|fail)
  first|refine WL.callV (Zn.sign (M.mb i) (p.b i)) ?_|refine WD.callV (Zn.sign (M.mb i) (p.b i)) ?_
  refine WL.y (YO.lssD rfl rfl) rfl rfl ?_
  have hneg:decide (sgn (p.b i).num < 0)=decide (p.b i < 0):=decide_eq_decide.2 sgn_neg
  rw[hneg]
  generalize hnb:decide (p.b i < 0)=neg
  have hnb':=hnb.symm
  repeat'(first|refine gM ?_|(refine gI ?_;intro g)|(refine gU ?_;intro v)|refine gN ?_ ?_|refine d44 ?_|fail)
  rename_i g6 g7
  revert v;intro lw
  revert g;intro g8
  refine WC.lp (σ:=Nat×(Nat→QM)) (fun st=>[(49,.int .i64 (st.1:Int)),(48,.int .i64 (p.v:Int)),(47,M.av i),(9,.func (.func 113) #[] #[ptr g8,ptr g7]),(8,ptr g8),(7,ptr g7),(6,ptr g6),(5,.int .i64 (i:Int)),(30,.int .i64 (i:Int)),(29,.int .i64 (p.m:Int)),(28,M.lv),(4,ptr xg),(3,.int .i64 (p.m:Int)),(1,ptr gp)])
   (fun st=>Ow.cells g8 4 [.bool neg]::Ow.cells g7 24 [lw]::rowO (p.n+1) lw st.2::Ow.cells g6 60 [M.av i,.bool (M.mb i).1,(M.mb i).2.1,.bool false,(M.mb i).2.2]::Ow.cells xg 88 [.int .i64 (p.v:Int),.int .i64 (p.m:Int),.int .i64 (p.n:Int),tv,.slice none 0 0,bv]::Ow.cells gp 26 (pcs M p.v)::Ow.slice tv 24 1 (fnV i rv)::Ow.slice bv 3 1 (ints (fnL i p.s0.b))::rowsO i (p.n+1) rv ms)
   (fun st=>[mF (p.n+1) st.2 (rwx p i st.1),isQ (qv (M.mb i)) (p.b i),fF (M.av i) p.v (M.ma i) (p.a i),mT i (p.n+1) ms p.A,ge h0,fP M p]) (fun st=>st.1≤p.v) (fun st=>p.v - st.1) (0,fun _=>m00) (Nat.zero_le _) ?_ (hG:=.cons ((W.Has.mF0 (p.n+1)).mFsame fun j _=>by unfold rwx;simp[Nat.not_lt_zero,show ¬(p.v≤j∧j < p.v) by omega]) sfA)
  rintro⟨k,mx⟩ hk
  simp only at hk ⊢
  by_cases ck:k < p.v
  ·refine WC.fact (isQ (qv (M.ma i k)) (p.a i k)) (W.Has.q (W.Has.fm (v:=M.av i) hmA) ck) ?_
   repeat'(first|refine gM ?_|(refine gI ?_;intro g)|(refine gU ?_;intro v)|refine gN ?_ ?_|refine d44 ?_|fail)
   revert g;intro g11
   refine WL.callGC [] [ptr g8,ptr g7] (vs:=[.int .i64 (k:Int),qv (M.ma i k)]) _ (Ow.cells g11 31 (qcs (M.ma i k))::Ow.cells g6 60 [M.av i,.bool (M.mb i).1,(M.mb i).2.1,.bool false,(M.mb i).2.2]::Ow.cells xg 88 [.int .i64 (p.v:Int),.int .i64 (p.m:Int),.int .i64 (p.n:Int),tv,.slice none 0 0,bv]::Ow.cells gp 26 (pcs M p.v)::Ow.slice tv 24 1 (fnV i rv)::Ow.slice bv 3 1 (ints (fnL i p.s0.b))::rowsO i (p.n+1) rv ms) (List.perm_middle (l₁:=[_,_,_])).symm (put_c g8 g7 neg lw (p.n+1) k mx (M.ma i k) (p.a i k) (by omega)) ?_
   rintro _ _ _ ⟨m2,rfl,rfl,rfl⟩
   simp only[List.nil_append,List.cons_append]
   repeat'(first|refine gM ?_|(refine gI ?_;intro g)|(refine gU ?_;intro v)|refine gN ?_ ?_|refine d44 ?_|fail)
   first|refine WL.callK (Zn.neg (m1:=M.ma i k) (a:=p.a i k)) ?_|refine WD.callK (Zn.neg (m1:=M.ma i k) (a:=p.a i k)) ?_|refine LO.callM (Zn.neg (m1:=M.ma i k) (a:=p.a i k)) ?_
   rintro _ _ _ ⟨m3,rfl,rfl,rfl⟩
   simp only[List.nil_append,List.cons_append]
   repeat'(first|refine gM ?_|(refine gI ?_;intro g)|(refine gU ?_;intro v)|refine gN ?_ ?_|refine d44 ?_|fail)
   refine WD.callGC [] [ptr g8,ptr g7] (vs:=[.int .i64 ((p.v+k:Nat):Int),qv m3]) _ _ (.refl _) (put_c g8 g7 neg lw (p.n+1) (p.v+k) (upd mx k m2) m3 (-(p.a i k)) (by omega)) ?_
   rintro _ _ _ ⟨m4,rfl,rfl,rfl⟩
   simp only[List.nil_append,List.cons_append]
   refine WD.fact (mF (p.n+1) (upd (upd mx k m2) (p.v+k) m4) (rwx p i (k+1))) ((W.Has.mFset (k:=p.v+k) (m:=m4) (z:=if neg=true then -(-(p.a i k)) else -(p.a i k)) (W.Has.mFset (k:=k) (ms:=mx) (m:=m2) (qf:=rwx p i k) (z:=if neg=true then -(p.a i k) else p.a i k) hmA hmA) hmA).mFsame fun j _=>rwx_up hnb' ck j) ?_
   repeat'(first|refine gM ?_|(refine gI ?_;intro g)|(refine gU ?_;intro v)|refine gN ?_ ?_|refine d44 ?_|fail)
   exact LoopEnd.mk (k+1,_) (by show k+1≤p.v;omega) (by show p.v - (k+1) < p.v - k;omega)
  ·obtain rfl:k=p.v:=by omega
   refine WC.isSl (v:=lw) (k:=p.n+1) (KnS.oR (ms:=mx) (el:=31) meA) fun la lc hl=>?_
   subst hl
   repeat'(first|refine gM ?_|(refine gI ?_;intro g)|(refine gU ?_;intro v)|refine gN ?_ ?_|refine d44 ?_|fail)
   first|refine WL.callK (Zn.of 1 1 (by decide) (by decide)) ?_|refine WD.callK (Zn.of 1 1 (by decide) (by decide)) ?_|refine LO.callM (Zn.of 1 1 (by decide) (by decide)) ?_
   rintro _ _ _ ⟨m5,rfl,rfl,rfl⟩
   simp only[List.nil_append,List.cons_append]
   repeat'(first|refine gM ?_|(refine gI ?_;intro g)|(refine gU ?_;intro v)|refine gN ?_ ?_|refine d44 ?_|fail)
   refine WD.callGC [] [ptr g8,ptr g7] (vs:=[.int .i64 ((2*p.v+i:Nat):Int),qv m5]) _ _ (.refl _) (put_c g8 g7 neg (.slice la (p.n+1) lc) (p.n+1) (2*p.v+i) mx m5 (Rat.divInt 1 1) (by omega)) ?_
   rintro _ _ _ ⟨m6,rfl,rfl,rfl⟩
   simp only[List.nil_append,List.cons_append]
   repeat'(first|refine gM ?_|(refine gI ?_;intro g)|(refine gU ?_;intro v)|refine gN ?_ ?_|refine d44 ?_|fail)
   refine WD.callGC [] [ptr g8,ptr g7] (vs:=[.int .i64 (p.n:Int),qv (M.mb i)]) _ _ (.refl _) (put_c g8 g7 neg (.slice la (p.n+1) lc) (p.n+1) p.n (upd mx (2*p.v+i) m6) (M.mb i) (p.b i) (by omega)) ?_
   rintro _ _ _ ⟨m7,rfl,rfl,rfl⟩
   simp only[List.nil_append,List.cons_append]
   obtain⟨hA0,hA1⟩:=rwx_all hnb' c (upd (upd (rwx p i p.v) (2*p.v+i) (if neg=true then -(Rat.divInt 1 1) else Rat.divInt 1 1)) p.n (if neg=true then -(p.b i) else p.b i)) (fun _=>rfl)
   refine WD.fact (mF (p.n+1) (upd (upd mx (2*p.v+i) m6) p.n m7) (upd (upd (rwx p i p.v) (2*p.v+i) (if neg=true then -(Rat.divInt 1 1) else Rat.divInt 1 1)) p.n (if neg=true then -(p.b i) else p.b i))) (W.Has.mFset (k:=p.n) (m:=m7) (z:=if neg=true then -(p.b i) else p.b i) (W.Has.mFset (k:=2*p.v+i) (ms:=mx) (m:=m6) (qf:=rwx p i p.v) (z:=if neg=true then -(Rat.divInt 1 1) else Rat.divInt 1 1) hmA hmA) hmA) ?_
   generalize (upd (upd (rwx p i p.v) (2*p.v+i) (if neg=true then -(Rat.divInt 1 1) else Rat.divInt 1 1)) p.n (if neg=true then -(p.b i) else p.b i))=fq at *
   generalize hmz:(upd (upd mx (2*p.v+i) m6) p.n m7)=mz
   repeat'(first|refine gM ?_|(refine gI ?_;intro g)|(refine gU ?_;intro v)|refine gN ?_ ?_|refine d44 ?_|fail)
   cases neg with
   |true=>
    repeat'(first|refine gM ?_|(refine gI ?_;intro g)|(refine gU ?_;intro v)|refine gN ?_ ?_|refine d44 ?_|fail)
    rw[show(2:Int)*(p.v:Int)+(p.m:Int)+(i:Int)=((p.la+i:Nat):Int) by simp[X.Lp.la]]
    first|refine WL.callK (Zn.of 1 1 (by decide) (by decide)) ?_|refine WD.callK (Zn.of 1 1 (by decide) (by decide)) ?_|refine LO.callM (Zn.of 1 1 (by decide) (by decide)) ?_
    rintro _ _ _ ⟨m8,rfl,rfl,rfl⟩
    simp only[List.nil_append,List.cons_append]
    repeat'(first|refine gB ?_|(refine gH ?_;intro g)|(refine gW ?_;intro v)|refine d44 ?_|fail)
    refine WC.drawB (id:=21) [Ow.cells g7 24 [.slice la (p.n+1) lc],Ow.cells xg 88 [.int .i64 (p.v:Int),.int .i64 (p.m:Int),.int .i64 (p.n:Int),tv,.slice none 0 0,bv]] slA [0,2,3,4,5,6,9,10,11,12,13,16,17] (.free 1 (.held 0 (.held 2 (.held 3 (.held 4 (.held 5 (.held 6 (.held 9 (.held 10 (.held 11 (.held 12 (.held 13 (.more 7 (.more 8 (.loud 14 (.loud 15 (.held 16 (.held 17 (.loud 18 (.loud 19 (.loud 20 (.loud 21 (.done))))))))) (.loud 14 (.loud 8 (.loud 15 (.held 16 (.held 17 (.loud 18 (.loud 19 (.loud 20 (.loud 21 (.done))))))))))) (.loud 14 (.loud 7 (.loud 8 (.loud 15 (.held 16 (.held 17 (.loud 18 (.loud 19 (.loud 20 (.loud 21 (.done)))))))))))))))))))))))) mixed (by kernel_rfl) ?_
    refine goYL ?_
    repeat'(first|refine gM ?_|(refine gI ?_;intro g)|(refine gU ?_;intro v)|refine gN ?_ ?_|refine d44 ?_|fail)
    all_goals
     refine goYT ?_
     repeat'(first|refine gB ?_|(refine gH ?_;intro g)|(refine gW ?_;intro v)|refine d44 ?_|fail)
     refine goYT ?_
     repeat'(first|refine gB ?_|(refine gH ?_;intro g)|(refine gW ?_;intro v)|refine d44 ?_|fail)
     apply Exists.intro (i+1,_,_,upd rv i (.slice la (p.n+1) lc),upd ms i (upd mz (p.la+i) m8))
     refine⟨⟨?_,?_⟩,?_,?_,?_⟩
     rotate_left 3
     ·rw[upd_same (f:=p.s0.b) (i:=i) (c:=p.la+i) (if_pos (of_decide_eq_true hnb))]
      (repeat(apply ex_cons;(first|exact List.Perm.refl _|exact List.perm_middle (l₁:=[_])|exact List.perm_middle (l₁:=[_,_])|exact List.perm_middle (l₁:=[_,_,_])|exact List.perm_middle (l₁:=[_,_,_,_])|exact List.perm_middle (l₁:=[_,_,_,_,_])|exact List.perm_middle (l₁:=[_,_,_,_,_,_])|exact List.perm_middle (l₁:=[_,_,_,_,_,_,_])|exact List.perm_middle (l₁:=[_,_,_,_,_,_,_,_])|exact List.perm_middle (l₁:=[_,_,_,_,_,_,_,_,_])|exact List.perm_middle (l₁:=[_,_,_,_,_,_,_,_,_,_])|exact List.perm_middle (l₁:=[_,_,_,_,_,_,_,_,_,_,_])|exact List.perm_middle (l₁:=[_,_,_,_,_,_,_,_,_,_,_,_])|exact List.perm_middle (l₁:=[_,_,_,_,_,_,_,_,_,_,_,_,_])|exact List.perm_middle (l₁:=[_,_,_,_,_,_,_,_,_,_,_,_,_,_]))))
      apply ex_row;(first|exact List.Perm.refl _|exact List.perm_middle (l₁:=[_])|exact List.perm_middle (l₁:=[_,_])|exact List.perm_middle (l₁:=[_,_,_])|exact List.perm_middle (l₁:=[_,_,_,_])|exact List.perm_middle (l₁:=[_,_,_,_,_])|exact List.perm_middle (l₁:=[_,_,_,_,_,_])|exact List.perm_middle (l₁:=[_,_,_,_,_,_,_])|exact List.perm_middle (l₁:=[_,_,_,_,_,_,_,_])|exact List.perm_middle (l₁:=[_,_,_,_,_,_,_,_,_])|exact List.perm_middle (l₁:=[_,_,_,_,_,_,_,_,_,_])|exact List.perm_middle (l₁:=[_,_,_,_,_,_,_,_,_,_,_])|exact List.perm_middle (l₁:=[_,_,_,_,_,_,_,_,_,_,_,_])|exact List.perm_middle (l₁:=[_,_,_,_,_,_,_,_,_,_,_,_,_])|exact List.perm_middle (l₁:=[_,_,_,_,_,_,_,_,_,_,_,_,_,_]));(first|exact ex_tail []|exact ex_tail [_]|exact ex_tail [_,_]|exact ex_tail [_,_,_]|exact ex_tail [_,_,_,_]|exact ex_tail [_,_,_,_,_]|exact ex_tail [_,_,_,_,_,_]|exact ex_tail [_,_,_,_,_,_,_]|exact ex_tail [_,_,_,_,_,_,_,_]|exact ex_tail [_,_,_,_,_,_,_,_,_]|exact ex_tail [_,_,_,_,_,_,_,_,_,_]|exact ex_tail [_,_,_,_,_,_,_,_,_,_,_]|exact ex_tail [_,_,_,_,_,_,_,_,_,_,_,_]|exact ex_tail [_,_,_,_,_,_,_,_,_,_,_,_,_]|exact ex_tail [_,_,_,_,_,_,_,_,_,_,_,_,_,_])
     ·exact .cons (has_tapp (f:=upd fq (p.la+i) (Rat.divInt 1 1)) hmA (W.Has.mFset (qf:=fq) hmA hmA) (hA1 rfl)) (.cons hmA (.cons hmA .nil))
     ·show i+1≤p.m;omega
     ·show p.m - (i+1) < p.m - i;omega
     ·exact suA
   |false=>
    rw[show(2:Int)*(p.v:Int)+(i:Int)=((2*p.v+i:Nat):Int) by simp]
    repeat'(first|refine gB ?_|(refine gH ?_;intro g)|(refine gW ?_;intro v)|refine d44 ?_|fail)
    refine WC.drawB (id:=21) [Ow.cells g7 24 [.slice la (p.n+1) lc],Ow.cells xg 88 [.int .i64 (p.v:Int),.int .i64 (p.m:Int),.int .i64 (p.n:Int),tv,.slice none 0 0,bv]] slA [0,2,3,4,5,6,9,10,11,12,13,16,17] (.free 1 (.held 0 (.held 2 (.held 3 (.held 4 (.held 5 (.held 6 (.held 9 (.held 10 (.held 11 (.held 12 (.held 13 (.more 7 (.more 8 (.loud 14 (.loud 15 (.held 16 (.held 17 (.loud 18 (.loud 19 (.loud 20 (.loud 21 (.done))))))))) (.loud 14 (.loud 8 (.loud 15 (.held 16 (.held 17 (.loud 18 (.loud 19 (.loud 20 (.loud 21 (.done))))))))))) (.loud 14 (.loud 7 (.loud 8 (.loud 15 (.held 16 (.held 17 (.loud 18 (.loud 19 (.loud 20 (.loud 21 (.done)))))))))))))))))))))))) mixed (by kernel_rfl) ?_
    refine goYL ?_
    repeat'(first|refine gM ?_|(refine gI ?_;intro g)|(refine gU ?_;intro v)|refine gN ?_ ?_|refine d44 ?_|fail)
    all_goals
     refine goYT ?_
     repeat'(first|refine gB ?_|(refine gH ?_;intro g)|(refine gW ?_;intro v)|refine d44 ?_|fail)
     refine goYT ?_
     repeat'(first|refine gB ?_|(refine gH ?_;intro g)|(refine gW ?_;intro v)|refine d44 ?_|fail)
     apply Exists.intro (i+1,_,_,upd rv i (.slice la (p.n+1) lc),upd ms i mz)
     refine⟨⟨?_,?_⟩,?_,?_,?_⟩
     rotate_left 3
     ·rw[upd_same (f:=p.s0.b) (i:=i) (c:=2*p.v+i) (if_neg (of_decide_eq_false hnb))]
      (repeat(apply ex_cons;(first|exact List.Perm.refl _|exact List.perm_middle (l₁:=[_])|exact List.perm_middle (l₁:=[_,_])|exact List.perm_middle (l₁:=[_,_,_])|exact List.perm_middle (l₁:=[_,_,_,_])|exact List.perm_middle (l₁:=[_,_,_,_,_])|exact List.perm_middle (l₁:=[_,_,_,_,_,_])|exact List.perm_middle (l₁:=[_,_,_,_,_,_,_])|exact List.perm_middle (l₁:=[_,_,_,_,_,_,_,_])|exact List.perm_middle (l₁:=[_,_,_,_,_,_,_,_,_])|exact List.perm_middle (l₁:=[_,_,_,_,_,_,_,_,_,_])|exact List.perm_middle (l₁:=[_,_,_,_,_,_,_,_,_,_,_])|exact List.perm_middle (l₁:=[_,_,_,_,_,_,_,_,_,_,_,_])|exact List.perm_middle (l₁:=[_,_,_,_,_,_,_,_,_,_,_,_,_])|exact List.perm_middle (l₁:=[_,_,_,_,_,_,_,_,_,_,_,_,_,_]))))
      apply ex_row;(first|exact List.Perm.refl _|exact List.perm_middle (l₁:=[_])|exact List.perm_middle (l₁:=[_,_])|exact List.perm_middle (l₁:=[_,_,_])|exact List.perm_middle (l₁:=[_,_,_,_])|exact List.perm_middle (l₁:=[_,_,_,_,_])|exact List.perm_middle (l₁:=[_,_,_,_,_,_])|exact List.perm_middle (l₁:=[_,_,_,_,_,_,_])|exact List.perm_middle (l₁:=[_,_,_,_,_,_,_,_])|exact List.perm_middle (l₁:=[_,_,_,_,_,_,_,_,_])|exact List.perm_middle (l₁:=[_,_,_,_,_,_,_,_,_,_])|exact List.perm_middle (l₁:=[_,_,_,_,_,_,_,_,_,_,_])|exact List.perm_middle (l₁:=[_,_,_,_,_,_,_,_,_,_,_,_])|exact List.perm_middle (l₁:=[_,_,_,_,_,_,_,_,_,_,_,_,_])|exact List.perm_middle (l₁:=[_,_,_,_,_,_,_,_,_,_,_,_,_,_]));(first|exact ex_tail []|exact ex_tail [_]|exact ex_tail [_,_]|exact ex_tail [_,_,_]|exact ex_tail [_,_,_,_]|exact ex_tail [_,_,_,_,_]|exact ex_tail [_,_,_,_,_,_]|exact ex_tail [_,_,_,_,_,_,_]|exact ex_tail [_,_,_,_,_,_,_,_]|exact ex_tail [_,_,_,_,_,_,_,_,_]|exact ex_tail [_,_,_,_,_,_,_,_,_,_]|exact ex_tail [_,_,_,_,_,_,_,_,_,_,_]|exact ex_tail [_,_,_,_,_,_,_,_,_,_,_,_]|exact ex_tail [_,_,_,_,_,_,_,_,_,_,_,_,_]|exact ex_tail [_,_,_,_,_,_,_,_,_,_,_,_,_,_])
     ·exact .cons (has_tapp (f:=fq) hmA hmA (hA0 rfl)) (.cons hmA (.cons hmA .nil))
     ·show i+1≤p.m;omega
     ·show p.m - (i+1) < p.m - i;omega
     ·exact suA
 ·obtain rfl:p.m=i:=by omega
  repeat'(first|refine gM ?_|(refine gI ?_;intro g)|(refine gU ?_;intro v)|refine gN ?_ ?_|refine d44 ?_|fail)
  refine WC.ret ?_
  exact Fin.p (TM xg p.v p.m p.n tv (.slice none 0 0) bv rv ms p.s0.b) [mT p.m (p.n+1) ms p.A] (ResE.t1 rfl rfl) meA slA haA ⟨xg,tv,bv,rv,ms,rfl,rfl,rfl⟩
end Z
end Go.Proofs.YtaongbhamadlkaaGreat
namespace Go.Proofs.YtaongbhamadlkaaGreat
open W Go.RowKit
section
variable {fr:PH} {w:World} {bx:List Ow} {F:List Fct}
theorem ok_nil {el sz:Nat} (h:OK fr (Ow.slice (.slice none 0 0) el sz []::bx) F w):OK fr bx F w:=h.drop (List.sublist_cons_self _ _)
theorem ok_rows {n:Nat} {rv:Nat→Value} {ms:Nat→Nat→QM}:∀ (l:List Nat) (F:List Fct),OK fr (rowsL l n rv ms++bx) F w→OK fr bx ((l.map fun i=>slC (rv i) n 4 (qcell (ms i)))++F) w
 |[],F,h=>h
 |i::l,F,h=>by
  have h1:=(OK.freeze (n:=n) (sz:=4) h Sel.head (cellsF_len _ _) (by decide) (qcell (ms i)) fun j hj=>cellsF_get hj)
  have h2:=ok_rows l _ (ok_nil h1)
  refine h2.less fun f hf=>?_
  simp only[List.map_cons,List.cons_append,List.mem_cons,List.mem_append] at hf ⊢
  rcases hf with rfl|hf|hf
  ·exact .inr (.inl rfl)
  ·exact .inl hf
  ·exact .inr (.inr hf)
theorem okT {xg vars m n:Nat} {tv cv bv:Value} {rv:Nat→Value} {ms:Nat→Nat→QM} {mc:Nat→QM} {s:X.St} (ho:OK fr (TB xg vars m n tv cv bv rv ms mc s.b++bx) F w) (h1:Has F (mT m (n+1) ms s.t)) (h2:Has F (mF (n+1) mc s.c)) :
  OK fr bx (fF cv (n+1) mc s.c::(TF xg vars m n tv cv bv rv ms s++F)) w:=by
 have a1:=OK.keep ho Rem.head
 have a2:=ok_nil (OK.freeze (n:=m) (sz:=1) a1 Sel.head (by rw[fnV_len,Nat.mul_one]) (by decide) rv fun j hj=>fnV_get (by omega))
 have a3:=ok_nil (OK.freeze (n:=n+1) (sz:=4) a2 Sel.head (cellsF_len _ _) (by decide) (qcell mc) fun j hj=>cellsF_get hj)
 have a4:=ok_nil (OK.freeze (n:=m) (sz:=1) a3 Sel.head (by simp[fnL]) (by decide) (fun i=>.int .i64 (s.b i)) fun j hj=>by
  have hj':j < m:=by omega
  simp[fnL,hj'])
 have a5:=ok_rows _ _ a4
 refine⟨a5.frame,a5.apart,a5.nodup,a5.owns,fun f hf=>?_⟩
 have hF:∀ f∈F,f.p (imm fr bx w.heap):=fun f hf=>a5.facts f (List.mem_append_right _ (by simp[hf]))
 simp only[List.cons_append,List.nil_append,List.mem_cons] at hf
 rcases hf with rfl|rfl|rfl|rfl|rfl|hf
 ·exact⟨a5.facts _ (List.mem_append_right _ (by simp)),h2 _ hF⟩
 ·exact a5.facts _ (List.mem_append_right _ (by simp))
 ·exact a5.facts _ (List.mem_append_right _ (by simp))
 ·exact⟨fun i hi=>a5.facts _ (List.mem_append_left _ (List.mem_map.2 ⟨i,List.mem_range.2 hi,rfl⟩)),h1 _ hF⟩
 ·exact a5.facts _ (List.mem_append_right _ (by simp))
 ·exact hF f hf
theorem WL.freezeT {P:Program} {nn:Nat} {L rest:List Oper} {e:Env} {Q2:Env→List Ow→List Fct→Prop} {xg vars m n:Nat} {tv cv bv:Value} {rv:Nat→Value} {ms:Nat→Nat→QM} {mc:Nat→QM} (s:X.St) {bx':List Ow} (hp:bx.Perm (TB xg vars m n tv cv bv rv ms mc s.b++bx')) (h1:Has F (mT m (n+1) ms s.t)) (h2:Has F (mF (n+1) mc s.c))
  (h:WL P nn L rest e bx' (fF cv (n+1) mc s.c::(TF xg vars m n tv cv bv rv ms s++F)) Q2):WL P nn L rest e bx F Q2:=fun fr w0 a w Q' hQ hk hr ho=>h fr w0 a w Q' hQ hk hr (okT (ho.perm hp) h1 h2)
end
def AnsP (p:X.Lp) (kind xn yn:Nat) (x y:Nat→Rat) (z:Rat):Prop:=
 (kind=1∧xn=0∧yn=p.m∧z=0∧X.IsInf p y)∨(kind=0∧xn=p.v∧yn=p.m∧X.IsOpt p x y z)∨(kind=2∧xn=p.v∧yn=p.v∧z=0∧X.IsUnb p x y)
structure Am where
 xv:Value
 yv:Value
 mx:Nat→QM
 my:Nat→QM
 mz:QM
abbrev acs (M:Am) (kind:Int):List Value:=[.int .i64 kind,M.xv,M.yv,.bool M.mz.1,M.mz.2.1,.bool false,M.mz.2.2]
abbrev agv (M:Am) (kind:Int):Value:=.agg #[.int .i64 kind,M.xv,M.yv,.bool M.mz.1,M.mz.2.1,.bool false,M.mz.2.2]
def fA (M:Am) (xn yn:Nat) (x y:Nat→Rat) (z:Rat):Fct where
 p h:=(fF M.xv xn M.mx x).p h∧(fF M.yv yn M.my y).p h∧(isQ (qv M.mz) z).p h
 mono _ _ hl hp:=⟨(fF _ _ _ _).mono _ _ hl hp.1,(fF _ _ _ _).mono _ _ hl hp.2.1,(isQ _ _).mono _ _ hl hp.2.2⟩
def IsAns (p:X.Lp) (R:Nat):RPost:=fun v B G=>∃ (M:Am) (kind xn yn:Nat) (x y:Nat→Rat) (z:Rat),v=.tuple #[agv M (kind:Nat),.int .i64 0]∧B=[]∧G=[fA M xn yn x y z]∧AnsP p kind xn yn x y z∧(∀ k,k < xn→Sq R (x k))∧(∀ k,k < yn→Sq R (y k))∧Sq R z
end Go.Proofs.YtaongbhamadlkaaGreat
namespace Go.Proofs.YtaongbhamadlkaaGreat
open W Go.RowKit
section
variable {P:Program} {e:Env} {bx:List Ow} {F:List Fct} {ty:TypeId} {x y z u:Operand} {v v2:Value} {n n2:Nat} {i:Int} {m:QM}
theorem ResE.cT {fn:Func} {t s:Tmp} {ty:TypeId} {g tg m:Nat} {cs:List Value} {u:Value} (h:fn.results=#[.cell t ty,.tmp s]) (hl:W.look e t=some (.pointer (some ⟨g,0,none⟩))) (hb:Ow.cells g tg cs∈bx) (hr:Row P ty m) (hm:cs.length=m) (hl2:W.look e s=some u):ResE P fn e bx F (.tuple #[.agg cs.toArray,u]):=fun n fr a w hk ho=>by
 obtain⟨⟨d,hu,hd⟩,hi⟩:=hr
 have h1:a.tmps[t]?.getD undef=.pointer (some ⟨g,0,none⟩):=by rw[hk.at' _ _ hl];rfl
 have h2:=run_loadVar_mid (P:=P) w g 0 ty cs d (fun i v hv=>by rw[Nat.zero_add,own_cell (ho.owns _ hb)];exact hv) hu hd (by rw[hi];simp[hm])
 have h3:a.tmps[s]?.getD undef=u:=by rw[hk.at' _ _ hl2];rfl
 simp only[results,h]
 simp[h1,asAddr,h2,h3]
theorem YO.byP {op:Op} {p:Prop} {r:Value} (hp:∀ fr w,OK fr bx F w→p) (h:p→YO P op ty e bx F r):YO P op ty e bx F r:=fun k fr ac w o hop hty hk ho=>h (hp fr w ho) k fr ac w o hop hty hk ho
theorem YO.buildA0:YO Tryz.prog (.build 33 #[]) ty e bx F (.agg #[.int .i64 0,.slice none 0 0,.slice none 0 0,.bool false,.slice none 0 0,.bool false,.slice none 0 0]):=YO.build (parts:=[]) .nil fun w=>run_build w 33 _ _ (by kernel_rfl)
theorem YO.buildA1 (h1:ev e x=some (.int .i64 i)) (h2:ev e y=some v) (kd:KnS bx F v n):YO Tryz.prog (.build 33 #[(0,x),(2,y)]) ty e bx F (.agg #[.int .i64 i,.slice none 0 0,v,.bool false,.slice none 0 0,.bool false,.slice none 0 0]):=by
 refine YO.byP (p:=∃ a c,v=.slice a n c) (fun fr w ho=>by obtain⟨a,c,h1,_⟩:=(kd fr w ho).is;exact⟨a,c,h1⟩) ?_
 rintro⟨a,c,rfl⟩
 exact YO.build (parts:=[(0,x),(2,y)]) (.cons h1 (.cons h2 .nil)) fun w=>run_build w 33 _ _ (by kernel_rfl)
theorem YO.buildA2 (h1:ev e x=some (.int .i64 i)) (h2:ev e y=some v) (h3:ev e z=some v2) (kd:KnS bx F v n) (kd2:KnS bx F v2 n2):YO Tryz.prog (.build 33 #[(0,x),(1,y),(2,z)]) ty e bx F (.agg #[.int .i64 i,v,v2,.bool false,.slice none 0 0,.bool false,.slice none 0 0]):=by
 refine YO.byP (p:=(∃ a c,v=.slice a n c)∧∃ a c,v2=.slice a n2 c) (fun fr w ho=>by obtain⟨a,c,h1,_⟩:=(kd fr w ho).is;obtain⟨a2,c2,h2,_⟩:=(kd2 fr w ho).is;exact⟨⟨a,c,h1⟩,a2,c2,h2⟩) ?_
 rintro⟨⟨a,c,rfl⟩,a2,c2,rfl⟩
 exact YO.build (parts:=[(0,x),(1,y),(2,z)]) (.cons h1 (.cons h2 (.cons h3 .nil))) fun w=>run_build w 33 _ _ (by kernel_rfl)
theorem YO.buildA3 (h1:ev e x=some (.int .i64 i)) (h2:ev e y=some v) (h3:ev e z=some v2) (h4:ev e u=some (qv m)) (kd:KnS bx F v n) (kd2:KnS bx F v2 n2):YO Tryz.prog (.build 33 #[(0,x),(1,y),(2,z),(3,u)]) ty e bx F (.agg #[.int .i64 i,v,v2,.bool m.1,m.2.1,.bool false,m.2.2]):=by
 refine YO.byP (p:=(∃ a c,v=.slice a n c)∧∃ a c,v2=.slice a n2 c) (fun fr w ho=>by obtain⟨a,c,h1,_⟩:=(kd fr w ho).is;obtain⟨a2,c2,h2,_⟩:=(kd2 fr w ho).is;exact⟨⟨a,c,h1⟩,a2,c2,h2⟩) ?_
 rintro⟨⟨a,c,rfl⟩,a2,c2,rfl⟩
 exact YO.build (parts:=[(0,x),(1,y),(2,z),(3,u)]) (.cons h1 (.cons h2 (.cons h3 (.cons h4 .nil)))) fun w=>run_build w 33 _ _ (by kernel_rfl)
end
theorem vldP_ok {p:X.Lp} (hv:p.v≤48) (hm:p.m≤128):vldP p.v p.m p.v (fun _=>p.v)=0:=by
 unfold vldP
 rw[if_neg (by omega),if_neg]
 rintro(h|h|h)
 ·omega
 ·exact h rfl
 ·rcases X.fstT_spec (fun _=>decide ((p.v:Int)≠p.v)) p.m 0 with ⟨h1,_⟩|⟨j,_,_,_,h4,_⟩
  ·rw[h1] at h;cases h
  ·simp at h4
theorem has_A {F:List Fct} {M:Am} {xn yn:Nat} {x y:Nat→Rat} {z:Rat} (h1:Has F (fF M.xv xn M.mx x)) (h2:Has F (fF M.yv yn M.my y)) (h3:Has F (isQ (qv M.mz) z)):Has F (fA M xn yn x y z):=fun p hp=>⟨h1 p hp,h2 p hp,h3 p hp⟩
theorem run_inv {p:X.Lp} {c1:Nat→Rat} {e:Nat} (he:e≤p.n) {u:X.St} {k r:Nat} (h:X.Inv p.m p.n p.A c1 u) (hk:X.ent u e=some k) (hr:X.lev p.n u k p.m=some r):X.Inv p.m p.n p.A c1 (X.pv u r k):=by
 rcases X.ent_spec u e with ⟨h1,_⟩|⟨j,h1,h2,h3,_⟩
 ·rw[hk] at h1;cases h1
 ·rw[hk] at h1;cases h1
  rcases X.lev_spec p.n u k p.m with ⟨g1,_⟩|⟨q,g1,g2,g3,_⟩
  ·rw[hr] at g1;cases g1
  ·rw[hr] at g1;cases g1
   exact X.Inv.pv h g2 (by omega) (by grind)
namespace Z
attribute [local irreducible] WC WL WD YO LO LoopEnd W.Fin Scalar SliceT FieldAt Row ArrT AllocT KnS Has W.One SrcE IntT
theorem d12 {G G':Prop} (h:G') (s:Bx G'→G:=by
 intro h
 first|(apply WC.draw (id:=5) [0,1,2,3,4,5,6,7] (.held 0 (.held 1 (.held 2 (.held 3 (.held 4 (.held 5 (.held 6 (.held 7 (.loud 8 (.loud 9 (.done))))))))))) mixed (by kernel_rfl))|(apply WC.draw (id:=7) [0,1,2,3,4] (.held 0 (.held 1 (.held 2 (.held 3 (.held 4 (.loud 5 (.done))))))) mixed (by kernel_rfl))|(apply WC.draw (id:=8) [0,1,2,3,4,5,6,7,8,9,11] (.held 0 (.held 1 (.held 2 (.held 3 (.held 4 (.held 5 (.held 6 (.held 7 (.held 8 (.held 9 (.loud 10 (.held 11 (.done))))))))))))) mixed (by kernel_rfl))|(apply WC.drawR (id:=17) [2] [0,1,3,4,5,9] (.held 0 (.held 1 (.held 3 (.held 4 (.held 5 (.loud 2 (.loud 6 (.loud 7 (.loud 8 (.held 9 (.done))))))))))) mixed (by kernel_rfl);(focus((repeat(first|exact Rems.nil _|(apply Rems.cons;exact rfl;(repeat(first|exact Rem.head|apply Rem.tail)))));done)))|fail
 exact Bx.h h):G:=s ⟨h⟩
set_option maxHeartbeats 8000000 in
set_option maxRecDepth 60000 in
theorem solve_c (M:Pm) (p:X.Lp) (K0 K L R:Nat) (hz:X.Szs p K0 K L) (hv:p.v≤48) (hm:p.m≤128) (hR1:2*K+1≤R) (hR2:L≤R) (hR3:p.v*(2*(2*K+1)+1)+1≤R):FnB Tryz.prog 12 [pgv M p.v] [] [fP M p] (IsAns p R):=by
 refine fn_of [(0,(pgv M p.v))] 82 Tryz.func12 rfl Tryz.ntmps12 (by kernel_rfl) rfl suA fun h0=>?_
 have hn:p.n=2*p.v+2*p.m:=rfl
 have hla:p.la=2*p.v+p.m:=rfl
 have hL:=hz.t
 have hKL:=hz.kl
 have hK0:=hz.pos
 have hK:0 < K:=Nat.lt_of_lt_of_le (by omega) hz.k
 obtain⟨F1,x1,hx1⟩:=X.run_ends ((X.ok0 (p:=p) p.n).prc (e':=p.n) p.c1) (Nat.le_refl _)
 obtain⟨hq1,hok1,hq2,hq3⟩:=X.phase1 hx1
 have hi1:X.Inv p.m p.n p.A p.c1 (X.prc p.m p.c1 p.s0):=(X.inv0 (p:=p)).prc p.c1
 repeat'(first|refine gB ?_|(refine gH ?_;intro g)|(refine gW ?_;intro v)|refine goYT ?_|refine d12 ?_|fail)
 rename_i gp
 revert g;intro g2
 refine WL.callV (valid_c M p.m p.v (fun _=>p.v) p.a p.b p.g p.v) ?_ (hF:=.cons (.f hmA) .nil)
 rw[vldP_ok hv hm]
 repeat'(first|refine gB ?_|(refine gH ?_;intro g)|(refine gW ?_;intro v)|refine goYT ?_|refine d12 ?_|fail)
 refine WL.callK (made_c M p (by omega) (by omega)) ?_
 rintro _ _ _ ⟨xg,tv,bv,rv,ms,rfl,rfl,rfl⟩
 refine WL.perm ([Ow.cells g2 33 [.int .i64 0,.slice none 0 0,.slice none 0 0,.bool false,.slice none 0 0,.bool false,.slice none 0 0],Ow.cells gp 26 (pcs M p.v)]++TM xg p.v p.m p.n tv (.slice none 0 0) bv rv ms p.s0.b) List.perm_append_comm ?_
 simp only[List.nil_append,List.cons_append]
 repeat'(first|refine gB ?_|(refine gH ?_;intro g)|(refine gW ?_;intro v)|refine goYT ?_|refine d12 ?_|fail)
 rename_i g5
 revert g;intro g6
 rw[show(2:Int)*(p.v:Int)+(p.m:Int)=((p.la:Nat):Int) by rw[hla];simp]
 refine WL.keep (g:=g6) (t:=3) (cs:=[.int .i64 (p.la:Int)]) (by repeat(first|exact Rem.head|apply Rem.tail)) ?_
 refine WL.keep (g:=gp) (t:=26) (cs:=pcs M p.v) (by repeat(first|exact Rem.head|apply Rem.tail)) ?_
 refine WL.keep (g:=g5) (t:=84) (cs:=[ptr xg]) (by repeat(first|exact Rem.head|apply Rem.tail)) ?_
 refine WL.callG (TM xg p.v p.m p.n tv (.slice none 0 0) bv rv ms p.s0.b) [Ow.cells g2 33 [.int .i64 0,.slice none 0 0,.slice none 0 0,.bool false,.slice none 0 0,.bool false,.slice none 0 0]] (List.perm_append_comm (l₁:=[_])) (price_c xg p.v p.m p.n tv (.slice none 0 0) bv rv ms p.s0 L 46 [] [ptr g6] [ce g6 3 [.int .i64 (p.la:Int)]] p.c1 (fun k hk=>?_) (by omega) (by omega) (by omega) X.inv0.bd (fun i hi k hk=>(hz.T hi1 hi hk).up hKL) (fun i hi k hk=>hz.P hz.c1 X.inv0 hi hk)) ?_
 ·have:=cost1_c g6 k p.la
  rwa [show(if p.la≤k then(1:Rat) else 0)=p.c1 k by unfold X.Lp.c1;by_cases c:p.la≤k <;> simp[c,hk]] at this
 rintro _ _ _ ⟨cv,mc,rfl,rfl,rfl⟩
 refine WL.perm ([Ow.cells g2 33 [.int .i64 0,.slice none 0 0,.slice none 0 0,.bool false,.slice none 0 0,.bool false,.slice none 0 0]]++TB xg p.v p.m p.n tv cv bv rv ms mc p.s0.b) List.perm_append_comm ?_
 refine WL.fact' (mF (p.n+1) mc (X.prc p.m p.c1 p.s0).c) (W.Has.mFsame (qf:=prS p.n p.c1 p.s0 p.m) hmA fun j hj=>X.prS_prc X.inv0.bd X.inv0.u (by unfold X.Lp.c1;simp) hj) ?_
 simp only[List.nil_append,List.cons_append]
 repeat'(first|refine gB ?_|(refine gH ?_;intro g)|(refine gW ?_;intro v)|refine goYT ?_|refine d12 ?_|fail)
 refine WD.callG (TB xg p.v p.m p.n tv cv bv rv ms mc p.s0.b) [Ow.cells g2 33 [.int .i64 0,.slice none 0 0,.slice none 0 0,.bool false,.slice none 0 0,.bool false,.slice none 0 0]] (List.perm_append_comm (l₁:=[_])) (run_c xg p.v p.m p.n p.n L F1 tv cv bv rv ms mc (X.prc p.m p.c1 p.s0) x1 (Nat.le_refl _) (by omega) (by omega) (by omega) (by omega) hx1 (fun u=>X.Inv p.m p.n p.A p.c1 u) hi1 (fun u k r h hk hr=>run_inv (Nat.le_refl _) h hk hr) (fun u hu=>⟨fun i hi k hk=>(hz.T hu hi hk).up hKL,fun k hk=>hz.C hz.c1 hu hk⟩)) ?_
 rintro _ _ _ ⟨ms2,mc2,rfl,rfl,rfl⟩
 refine WD.perm ([Ow.cells g2 33 [.int .i64 0,.slice none 0 0,.slice none 0 0,.bool false,.slice none 0 0,.bool false,.slice none 0 0]]++TB xg p.v p.m p.n tv cv bv rv ms2 mc2 x1.1.b) List.perm_append_comm ?_
 simp only[List.nil_append,List.cons_append]
 refine WD.fact (isQ (qv (mc2 p.n)) (x1.1.c p.n)) (W.Has.q (ms:=mc2) (qf:=x1.1.c) (n:=p.n+1) hmA (by omega)) ?_
 repeat'(first|refine gB ?_|(refine gH ?_;intro g)|(refine gW ?_;intro v)|refine goYT ?_|refine d12 ?_|fail)
 first|refine WL.callV (Zn.sign (mc2 p.n) (x1.1.c p.n)) ?_|refine WD.callV (Zn.sign (mc2 p.n) (x1.1.c p.n)) ?_
 have hsg:=@sgn_neg (x1.1.c p.n)
 by_cases hneg:x1.1.c p.n < 0
 ·have hs:=hsg.2 hneg
  repeat'(first|refine gB ?_|(refine gH ?_;intro g)|(refine gW ?_;intro v)|refine goYT ?_|refine d12 ?_|fail)
  refine WL.freezeT x1.1 (bx':=[Ow.cells g2 33 [.int .i64 0,.slice none 0 0,.slice none 0 0,.bool false,.slice none 0 0,.bool false,.slice none 0 0]]) (List.perm_append_comm (l₁:=[_])) hmA hmA ?_
  simp only[List.cons_append,List.nil_append]
  refine WL.callK (slacks_c xg p.v p.m p.n tv cv bv mc2 x1.1.c (by omega) (by omega) (by omega)) ?_
  rintro yv _ _ ⟨my,rfl,rfl⟩
  simp only[List.nil_append,List.cons_append]
  repeat'(first|refine gB ?_|(refine gH ?_;intro g)|(refine gW ?_;intro v)|refine goYT ?_|refine d12 ?_|fail)
  refine WC.ret ?_
  exact Fin.p [] [fA ⟨.slice none 0 0,yv,fun _=>m00,my,m00⟩ 0 p.m (fun _=>0) (fun r=>x1.1.c (2*p.v+r)) 0] (ResE.cT rfl rfl meA T.r33 rfl rfl) meA (List.nil_sublist _) (.cons (has_A (has_nil0F _ _) hmA hasQ0) .nil) ⟨_,1,0,p.m,_,_,0,rfl,rfl,rfl,.inl ⟨rfl,rfl,rfl,rfl,X.first_inf hx1 hneg⟩,fun k hk=>absurd hk (by omega),fun k hk=>(hz.C hz.c1 hok1.i (by omega)).up hR2,Sq.zero.up (by omega)⟩
 ·have hs:¬sgn (x1.1.c p.n).num < 0:=fun h=>hneg (hsg.1 h)
  have hdr:=X.emp_all (e:=p.n) (last:=p.la) (by omega) hok1 (hq3 hneg)
  have hD:=(hdr p.m (Nat.le_refl _)).1
  repeat'(first|refine gB ?_|(refine gH ?_;intro g)|(refine gW ?_;intro v)|refine goYT ?_|refine d12 ?_|fail)
  refine WL.callG (TB xg p.v p.m p.n tv cv bv rv ms2 mc2 x1.1.b) [Ow.cells g2 33 [.int .i64 0,.slice none 0 0,.slice none 0 0,.bool false,.slice none 0 0,.bool false,.slice none 0 0]] (List.perm_append_comm (l₁:=[_])) (drive_c xg p.v p.m p.n p.la L tv cv bv rv ms2 mc2 x1.1 (by omega) (by omega) (by omega) (by omega) (by omega) (fun i hi r hr k hk=>(hz.T (hdr i hi).1.i hr hk).up hKL) (fun i hi k hk=>hz.C hz.c1 (hdr i hi).1.i hk)) ?_
  rintro _ _ _ ⟨ms3,mc3,rfl,rfl,rfl⟩
  generalize hDD:X.drP p.la x1.1 p.m=D at *
  refine WL.perm ([Ow.cells g2 33 [.int .i64 0,.slice none 0 0,.slice none 0 0,.bool false,.slice none 0 0,.bool false,.slice none 0 0],Ow.slice cv 31 4 (qcells (p.n+1) mc3)]++TM xg p.v p.m p.n tv cv bv rv ms3 D.b) (List.perm_append_comm.trans ((List.perm_middle (l₁:=[_,_])).cons _)) ?_
  simp only[List.nil_append,List.cons_append]
  repeat'(first|refine gB ?_|(refine gH ?_;intro g)|(refine gW ?_;intro v)|refine goYT ?_|refine d12 ?_|fail)
  have hDi:X.Inv p.m p.n p.A p.c2 (X.prc p.m p.c2 D):=hD.i.prc p.c2
  obtain⟨F2,y,hy⟩:=X.run_ends (hD.prc (e':=p.la) p.c2) (show p.la≤p.n by omega)
  have hyi:X.Inv p.m p.n p.A p.c2 y.1:=(X.run_ok (hD.prc (e':=p.la) p.c2) (show p.la≤p.n by omega) hy).i
  have hans:=X.second hx1 hneg (by rw[hDD];exact hy)
  refine WL.callG (TM xg p.v p.m p.n tv cv bv rv ms3 D.b) [Ow.cells g2 33 [.int .i64 0,.slice none 0 0,.slice none 0 0,.bool false,.slice none 0 0,.bool false,.slice none 0 0],Ow.slice cv 31 4 (qcells (p.n+1) mc3)] (List.perm_append_comm (l₁:=[_,_])) (price_c xg p.v p.m p.n tv cv bv rv ms3 D L 52 [] [ptr gp] [ce gp 26 (pcs M p.v),fP M p] p.c2 (fun k hk=>cost2_c M p gp k (by omega)) (by omega) (by omega) (by omega) hD.i.bd (fun i hi k hk=>(hz.T hD.i hi hk).up hKL) (fun i hi k hk=>hz.P hz.c2 hD.i hi hk)) ?_
  rintro _ _ _ ⟨cv2,mc4,rfl,rfl,rfl⟩
  refine WL.perm ([Ow.cells g2 33 [.int .i64 0,.slice none 0 0,.slice none 0 0,.bool false,.slice none 0 0,.bool false,.slice none 0 0],Ow.slice cv 31 4 (qcells (p.n+1) mc3)]++TB xg p.v p.m p.n tv cv2 bv rv ms3 mc4 D.b) List.perm_append_comm ?_
  refine WL.fact' (mF (p.n+1) mc4 (X.prc p.m p.c2 D).c) (W.Has.mFsame (qf:=prS p.n p.c2 D p.m) hmA fun j hj=>X.prS_prc hD.i.bd hD.i.u (by unfold X.Lp.c2;rw[if_neg (by omega),if_neg (by omega)]) hj) ?_
  simp only[List.nil_append,List.cons_append]
  repeat'(first|refine gB ?_|(refine gH ?_;intro g)|(refine gW ?_;intro v)|refine goYT ?_|refine d12 ?_|fail)
  refine WL.callG (TB xg p.v p.m p.n tv cv2 bv rv ms3 mc4 D.b) [Ow.cells g2 33 [.int .i64 0,.slice none 0 0,.slice none 0 0,.bool false,.slice none 0 0,.bool false,.slice none 0 0],Ow.slice cv 31 4 (qcells (p.n+1) mc3)] (List.perm_append_comm (l₁:=[_,_])) (run_c xg p.v p.m p.n p.la L F2 tv cv2 bv rv ms3 mc4 (X.prc p.m p.c2 D) y (by omega) (by omega) (by omega) (by omega) (by omega) hy (fun u=>X.Inv p.m p.n p.A p.c2 u) hDi (fun u k r h hk hr=>run_inv (e:=p.la) (by omega) h hk hr) (fun u hu=>⟨fun i hi k hk=>(hz.T hu hi hk).up hKL,fun k hk=>hz.C hz.c2 hu hk⟩)) ?_
  rintro _ _ _ ⟨ms5,mc5,rfl,rfl,rfl⟩
  refine WL.perm ([Ow.cells g2 33 [.int .i64 0,.slice none 0 0,.slice none 0 0,.bool false,.slice none 0 0,.bool false,.slice none 0 0],Ow.slice cv 31 4 (qcells (p.n+1) mc3)]++TB xg p.v p.m p.n tv cv2 bv rv ms5 mc5 y.1.b) List.perm_append_comm ?_
  simp only[List.nil_append,List.cons_append]
  have hTs:∀ i,i < p.m→∀ k,k < p.n+1→Sq K (y.1.t i k):=fun i hi k hk=>hz.T hyi hi hk
  have hnow:∀ k,nowV p.m p.n y.1 k=X.wt p.m y.1 (fun i=>y.1.t i p.n) k:=X.nowV_wt hyi
  have hxs:(fun k=>nowV p.m p.n y.1 k - nowV p.m p.n y.1 (p.v+k))=X.xs p y.1:=funext fun k=>by rw[hnow,hnow];rfl
  have hnq:∀ k,Sq K (nowV p.m p.n y.1 k):=X.nowV_sz hK fun i hi=>hTs i hi _ (by omega)
  rcases hans with ⟨hy2,hopt⟩|⟨col,hy2,hunb⟩
  ·rw[hy2,show optI none= -1 from rfl]
   repeat'(first|refine gB ?_|(refine gH ?_;intro g)|(refine gW ?_;intro v)|refine goYT ?_|refine d12 ?_|fail)
   refine WL.freezeT y.1 (bx':=_) (List.perm_append_comm (l₁:=[_,_,_])) hmA hmA ?_
   simp only[List.cons_append,List.nil_append]
   refine WL.callK (point_c xg p.v K (.int .i64 (p.m:Int)) (.int .i64 (p.n:Int)) tv cv2 bv 56 [ptr xg] [] (TF xg p.v p.m p.n tv cv2 bv rv ms5 y.1) (nowV p.m p.n y.1) (by omega) (by omega) (fun k _=>now_c xg p.v p.m p.n k tv cv2 bv rv ms5 y.1) (fun k _=>hnq k)) ?_
   rw[hxs]
   rintro xv _ _ ⟨mx,rfl,rfl⟩
   simp only[List.nil_append,List.cons_append]
   repeat'(first|refine gB ?_|(refine gH ?_;intro g)|(refine gW ?_;intro v)|refine goYT ?_|refine d12 ?_|fail)
   refine WD.callK (slacks_c xg p.v p.m p.n tv cv2 bv mc5 y.1.c (by omega) (by omega) (by omega)) ?_
   rintro yv _ _ ⟨my,rfl,rfl⟩
   simp only[List.nil_append,List.cons_append]
   refine WD.fact (fF M.gv p.v M.mg p.g) (W.Has.pg (M:=M) (m:=p.m) (gn:=p.v) (ln:=fun _=>p.v) (a:=p.a) (b:=p.b) (g:=p.g) hmA) ?_
   repeat'(first|refine gB ?_|(refine gH ?_;intro g)|(refine gW ?_;intro v)|refine goYT ?_|refine d12 ?_|fail)
   refine WD.callK (dot_c M.gv xv p.v (2*K+1) M.mg mx p.g (X.xs p y.1) (by omega) hz.d (fun i hi=>(hz.g i hi).up (by have:=hz.k;omega)) (fun i _=>by rw[←hxs];exact((hnq i).sub (hnq _)).up (by omega))) ?_
   rintro _ _ _ ⟨mz,rfl,rfl,rfl⟩
   simp only[List.nil_append,List.cons_append]
   repeat'(first|refine gB ?_|(refine gH ?_;intro g)|(refine gW ?_;intro v)|refine goYT ?_|refine d12 ?_|fail)
   (apply WD.yl;exact rfl;exact y_build;exact rfl;exact rfl)
   repeat'(first|refine gB ?_|(refine gH ?_;intro g)|(refine gW ?_;intro v)|refine goYT ?_|refine d12 ?_|fail)
   refine WC.ret ?_
   exact Fin.p [] [fA ⟨xv,yv,mx,my,mz⟩ p.v p.m (X.xs p y.1) (fun r=>y.1.c (2*p.v+r)) (X.sm p.v fun k=>p.g k*X.xs p y.1 k)] (ResE.cT rfl rfl meA T.r33 rfl rfl) meA (List.nil_sublist _) (.cons (has_A hmA hmA hmA) .nil) ⟨_,0,p.v,p.m,_,_,_,rfl,rfl,rfl,.inr (.inl ⟨rfl,rfl,rfl,hopt⟩),fun k _=>by rw[←hxs];exact((hnq k).sub (hnq _)).up (by omega),fun k hk=>(hz.C hz.c2 hyi (by omega)).up hR2,(X.sq_sm (m:=p.v) (f:=fun k=>p.g k*X.xs p y.1 k) (k:=2*(2*K+1)) fun i hi=>by rw[←hxs];exact(Sq.mul (k:=2*K+1) (l:=2*K+1) ((hz.g i hi).up (by have:=hz.k;omega)) (((hnq i).sub (hnq _)).up (by omega))).up (by omega)).up hR3⟩
  ·rcases X.run_end F2 _ y hy with ⟨h1,_⟩|⟨col',h1,hcl,hcn,_⟩
   ·rw[hy2] at h1;cases h1
   rw[hy2] at h1;cases h1
   rw[hy2,show optI (some col)=(col:Int) from rfl]
   repeat'(first|refine gB ?_|(refine gH ?_;intro g)|(refine gW ?_;intro v)|refine goYT ?_|refine d12 ?_|fail)
   revert g;intro g7
   refine WL.keep (g:=g7) (t:=3) (cs:=[.int .i64 (col:Int)]) (by repeat(first|exact Rem.head|apply Rem.tail)) ?_
   refine WL.freezeT y.1 (bx':=_) (List.perm_append_comm (l₁:=[_,_])) hmA hmA ?_
   simp only[List.cons_append,List.nil_append]
   have hray:(fun k=>rayV p.m y.1 col k - rayV p.m y.1 col (p.v+k))=X.dr p y.1 col:=funext fun k=>by rw[X.rayV_rv hyi hcn,X.rayV_rv hyi hcn];rfl
   refine WL.callK (point_c xg p.v K (.int .i64 (p.m:Int)) (.int .i64 (p.n:Int)) tv cv2 bv 54 [] [ptr g5,ptr g7] (ce g5 84 [ptr xg]::ce g7 3 [.int .i64 (col:Int)]::TF xg p.v p.m p.n tv cv2 bv rv ms5 y.1) (rayV p.m y.1 col) (by omega) (by omega) (fun k _=>rayf_c g5 g7 xg p.v p.m p.n k col tv cv2 bv rv ms5 y.1 (by omega)) (fun k _=>X.rayV_sz hK (fun i hi=>hTs i hi col (by omega)) k)) ?_
   rw[hray]
   rintro yv _ _ ⟨my,rfl,rfl⟩
   simp only[List.nil_append,List.cons_append]
   repeat'(first|refine gB ?_|(refine gH ?_;intro g)|(refine gW ?_;intro v)|refine goYT ?_|refine d12 ?_|fail)
   refine WL.callK (point_c xg p.v K (.int .i64 (p.m:Int)) (.int .i64 (p.n:Int)) tv cv2 bv 56 [ptr xg] [] (TF xg p.v p.m p.n tv cv2 bv rv ms5 y.1) (nowV p.m p.n y.1) (by omega) (by omega) (fun k _=>now_c xg p.v p.m p.n k tv cv2 bv rv ms5 y.1) (fun k _=>hnq k)) ?_
   rw[hxs]
   rintro xv _ _ ⟨mx,rfl,rfl⟩
   simp only[List.nil_append,List.cons_append]
   repeat'(first|refine gB ?_|(refine gH ?_;intro g)|(refine gW ?_;intro v)|refine goYT ?_|refine d12 ?_|fail)
   refine WC.ret ?_
   exact Fin.p [] [fA ⟨xv,yv,mx,my,m00⟩ p.v p.v (X.xs p y.1) (X.dr p y.1 col) 0] (ResE.cT rfl rfl meA T.r33 rfl rfl) meA (List.nil_sublist _) (.cons (has_A hmA hmA hasQ0) .nil) ⟨_,2,p.v,p.v,_,_,0,rfl,rfl,rfl,.inr (.inr ⟨rfl,rfl,rfl,rfl,hunb⟩),fun k _=>by rw[←hxs];exact((hnq k).sub (hnq _)).up (by omega),fun k hk=>by rw[←hray];exact((X.rayV_sz hK (fun i hi=>hTs i hi col (by omega)) k).sub (X.rayV_sz hK (fun i hi=>hTs i hi col (by omega)) _)).up (by omega),Sq.zero.up (by omega)⟩
end Z
end Go.Proofs.YtaongbhamadlkaaGreat
