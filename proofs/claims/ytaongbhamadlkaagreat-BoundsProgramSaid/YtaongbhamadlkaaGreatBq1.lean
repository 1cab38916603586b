/- Lemmas for the proof of a law: A small symbolic executor over the walk's laws: frames as lists of bindings, memory as owned blocks and lasting facts. Conditions: none. -/
import Derived.WalkKit
import Derived.OrdersHeld
import Derived.Deep.MidRow
import Derived.WalkLawsBesides
set_option linter.unusedVariables false
set_option linter.unusedSimpArgs false
set_option linter.unusedSectionVars false
namespace Go.Proofs.YtaongbhamadlkaaGreat
open Go.RowKit
namespace W
abbrev Env:=List (Nat×Value)
def look:Env→Nat→Option Value
 |[],_=>none
 |(k,v)::r,i=>bif Nat.beq k i then some v else look r i
def ev (e:Env):Operand→Option Value
 |.tmp t=>look e t
 |.const v=>some v
 |.global g=>some (.pointer (some ⟨g,0,none⟩))
 |.func f=>some (.func (.func f) #[] #[])
structure Kn (n:Nat) (a:Act) (e:Env):Prop where
 size:a.tmps.size=n
 defers:a.defers=[]
 at':∀ k v,look e k=some v→a.tmps[k]?=some v
theorem look_cons (k:Nat) (v:Value) (r:Env) (i:Nat):look ((k,v)::r) i=if k=i then some v else look r i:=by
 show(bif Nat.beq k i then some v else look r i)=_
 by_cases h:k=i
 ·subst h;simp[Nat.beq_refl]
 ·have:Nat.beq k i=false:=by
   cases hb:Nat.beq k i
   ·rfl
   ·exact absurd (Nat.eq_of_beq_eq_true hb) h
  simp[this,h]
theorem Kn.eval {n:Nat} {a:Act} {e:Env} (h:Kn n a e) {x:Operand} {v:Value} (hx:ev e x=some v):a.eval x=v:=by
 cases x with
 |tmp t=>simp only[ev] at hx;have:=h.at' _ _ hx;simp[Act.eval,Array.getD_eq_getD_getElem?,this]
 |const u=>simpa [ev,Act.eval] using hx
 |global g=>simpa [ev,Act.eval] using hx
 |func f=>simpa [ev,Act.eval] using hx
theorem Kn.put {n:Nat} {a:Act} {e:Env} (h:Kn n a e) {d:Nat} (hd:Nat.blt d n=true) (v:Value):Kn n (a.put (some d) v) ((d,v)::e):=by
 have hd':d < n:=by simpa [Nat.blt_eq] using hd
 refine⟨by simp[Act.put,h.size],by simp[Act.put,h.defers],fun k u hk=>?_⟩
 rw[look_cons] at hk
 simp only[Act.put]
 by_cases hkd:d=k
 ·subst hkd;simp at hk;subst hk
  rw[Array.getElem?_setIfInBounds];simp[h.size,hd']
 ·rw[if_neg hkd] at hk
  rw[Array.getElem?_setIfInBounds,if_neg hkd];exact h.at' _ _ hk
theorem Kn.put_none {n:Nat} {a:Act} {e:Env} (h:Kn n a e) (v:Value):Kn n (a.put none v) e:=by simpa [Act.put] using h
def Sub (e e':Env):Prop:=∀ k v,look e k=some v→look e' k=some v
theorem Sub.nil (e:Env):Sub [] e:=fun k v h=>by simp[look] at h
theorem Sub.cons {k:Nat} {v:Value} {e e':Env} (h:look e' k=some v) (hs:Sub e e'):Sub ((k,v)::e) e':=fun i u hi=>by
 rw[look_cons] at hi
 by_cases hk:k=i
 ·subst hk;simp at hi;subst hi;exact h
 ·rw[if_neg hk] at hi;exact hs _ _ hi
theorem Sub.refl (e:Env):Sub e e:=fun _ _ h=>h
theorem Kn.sub {n:Nat} {a:Act} {e e':Env} (h:Kn n a e) (hs:Sub e' e):Kn n a e':=⟨h.size,h.defers,fun k v hk=>h.at' _ _ (hs _ _ hk)⟩
abbrev PH:=Nat→Option Obj
def PH.le (h h':PH):Prop:=∀ k o,h k=some o→h' k=some o
theorem PH.le.refl (h:PH):h.le h:=fun _ _ x=>x
theorem PH.le.trans {a b c:PH} (h:a.le b) (k:b.le c):a.le c:=fun _ _ x=>k _ _ (h _ _ x)
structure Fct where
 p:PH→Prop
 mono:∀ h h',PH.le h h'→p h→p h'
inductive Ow where
 |cells (g:Nat) (t:TypeId) (cs:List Value)
 |slice (v:Value) (e:TypeId) (sz:Nat) (cs:List Value)
 |obj (g:Nat) (o:Obj)
def Ow.ids:Ow→List Nat
 |.cells g _ _=>[g]
 |.slice (.slice (some a) _ _) _ _ _=>[a.block]
 |.slice _ _ _ _=>[]
 |.obj g _=>[g]
def Ow.holds (H:Array Obj):Ow→Prop
 |.cells g t cs=>H[g]?=some (.cells cs.toArray t (0,0))
 |.slice v e sz cs=>∃ n,cs.length=n*sz∧((v=.slice none 0 0∧n=0)∨
   ∃ g cap sp,v=.slice (some ⟨g,0,none⟩) n cap∧n≤cap∧cap≤maxLen∧H[g]?=some (.cells (cs++sp).toArray e (0,0))∧(cs++sp).length=cap*sz)
 |.obj g o=>H[g]?=some o
def ids (bx:List Ow):List Nat:=bx.flatMap Ow.ids
def imm (fr:PH) (bx:List Ow) (H:Array Obj):PH:=fun k=>if(fr k).isSome ||(ids bx).contains k then none else H[k]?
structure OK (fr:PH) (bx:List Ow) (F:List Fct) (w:World):Prop where
 frame:∀ k o,fr k=some o→w.heap[k]?=some o
 apart:∀ k∈ids bx,fr k=none
 nodup:(ids bx).Nodup
 owns:∀ b∈bx,b.holds w.heap
 facts:∀ f∈F,f.p (imm fr bx w.heap)
structure Rest (w w':World):Prop where
 os:w'.os=w.os
 tape:w'.tape=w.tape
 output:w'.output=w.output
theorem Rest.refl (w:World):Rest w w:=⟨rfl,rfl,rfl⟩
theorem Rest.trans {a b c:World} (h:Rest a b) (k:Rest b c):Rest a c:=⟨k.os.trans h.os,k.tape.trans h.tape,k.output.trans h.output⟩
theorem Rest.drawn (w:World) (n:Nat):Rest w {w with drawn:=n}:=⟨rfl,rfl,rfl⟩
theorem OK.drawn {fr:PH} {bx:List Ow} {F:List Fct} {w:World} (h:OK fr bx F w) (n:Nat):OK fr bx F {w with drawn:=n}:=⟨h.frame,h.apart,h.nodup,h.owns,h.facts⟩
theorem OK.less {fr:PH} {bx:List Ow} {F F':List Fct} {w:World} (h:OK fr bx F w) (hs:∀ f∈F',f∈F):OK fr bx F' w:=⟨h.frame,h.apart,h.nodup,h.owns,fun f hf=>h.facts f (hs f hf)⟩
theorem OK.add {fr:PH} {bx:List Ow} {F:List Fct} {w:World} (h:OK fr bx F w) {f:Fct} (hf:f.p (imm fr bx w.heap)):OK fr bx (f::F) w:=⟨h.frame,h.apart,h.nodup,h.owns,fun g hg=>by
 rcases List.mem_cons.1 hg with rfl|hg
 ·exact hf
 ·exact h.facts g hg⟩
theorem mem_ids {bx:List Ow} {k:Nat}:k∈ids bx↔∃ b∈bx,k∈b.ids:=by simp[ids]
theorem ids_sublist {bx bx':List Ow} (h:bx'.Sublist bx):(ids bx').Sublist (ids bx):=by
 induction h with
 |slnil=>exact .slnil
 |cons a _ ih=>exact ih.trans (by simp[ids])
 |cons_cons a _ ih=>simpa [ids] using ih
theorem OK.drop {fr:PH} {bx bx':List Ow} {F:List Fct} {w:World} (h:OK fr bx F w) (hs:bx'.Sublist bx):OK fr bx' F w:=
 ⟨h.frame,fun k hk=>h.apart k ((ids_sublist hs).subset hk),h.nodup.sublist (ids_sublist hs),fun b hb=>h.owns b (hs.subset hb),fun f hf=>f.mono _ _ (fun k o ho=>by
  unfold imm at *
  split at ho
  ·cases ho
  ·rename_i hc
   rw[if_neg]
   ·exact ho
   ·simp only[Bool.or_eq_true,List.contains_iff_mem] at hc ⊢
    exact fun h'=>hc (h'.imp id fun h''=>(ids_sublist hs).subset h'')) (h.facts f hf)⟩
theorem OK.perm {fr:PH} {bx bx':List Ow} {F:List Fct} {w:World} (h:OK fr bx F w) (hp:bx.Perm bx'):OK fr bx' F w:=by
 have hi:(ids bx).Perm (ids bx'):=hp.flatMap_right _
 refine⟨h.frame,fun k hk=>h.apart k (hi.mem_iff.2 hk),hi.nodup_iff.1 h.nodup,fun b hb=>h.owns b (hp.mem_iff.2 hb),fun f hf=>?_⟩
 have:imm fr bx' w.heap=imm fr bx w.heap:=by
  funext k;unfold imm
  have:(ids bx').contains k=(ids bx).contains k:=by
   rw[Bool.eq_iff_iff];simp[hi.mem_iff]
  rw[this]
 rw[this];exact h.facts f hf
theorem Ow.holds_congr {H H':Array Obj} {b:Ow} (h:b.holds H) (hk:∀ k∈b.ids,H'[k]?=H[k]?):b.holds H':=by
 cases b with
 |cells g t cs=>simp only[Ow.holds,Ow.ids,List.mem_singleton,forall_eq] at *;rw[hk];exact h
 |obj g o=>simp only[Ow.holds,Ow.ids,List.mem_singleton,forall_eq] at *;rw[hk];exact h
 |slice v e sz cs=>
  obtain⟨n,h1,h2|⟨g,cap,sp,rfl,h3,h4,h5,h6⟩⟩:=h
  ·exact⟨n,h1,.inl h2⟩
  ·exact⟨n,h1,.inr ⟨g,cap,sp,rfl,h3,h4,by rw[hk g (by simp[Ow.ids])];exact h5,h6⟩⟩
theorem Ow.lt {H:Array Obj} {b:Ow} (h:b.holds H):∀ k∈b.ids,k < H.size:=by
 cases b with
 |cells g t cs=>simp only[Ow.holds,Ow.ids,List.mem_singleton,forall_eq] at *;exact(Array.getElem?_eq_some_iff.1 h).1
 |obj g o=>simp only[Ow.holds,Ow.ids,List.mem_singleton,forall_eq] at *;exact(Array.getElem?_eq_some_iff.1 h).1
 |slice v e sz cs=>
  obtain⟨n,h1,⟨rfl,h2⟩|⟨g,cap,sp,rfl,h3,h4,h5,h6⟩⟩:=h
  ·simp[Ow.ids]
  ·simp only[Ow.ids,List.mem_singleton,forall_eq];exact(Array.getElem?_eq_some_iff.1 h5).1
theorem OK.step {fr:PH} {ob nb bx:List Ow} {F:List Fct} {w w':World} (h:OK fr (ob++bx) F w)
  (hk:∀ k,k < w.heap.size→k∉ids ob→w'.heap[k]?=w.heap[k]?) (hn:∀ k∈ids nb,k∈ids ob∨w.heap.size≤k) (hd:(ids nb).Nodup) (ho:∀ b∈nb,b.holds w'.heap):OK fr (nb++bx) F w':=by
 have hlt:∀ b∈ob++bx,∀ k∈b.ids,k < w.heap.size:=fun b hb=>Ow.lt (h.owns b hb)
 have hfl:∀ k o,fr k=some o→k < w.heap.size:=fun k o hf=>(Array.getElem?_eq_some_iff.1 (h.frame k o hf)).1
 have hap:=h.apart
 have hnd:=h.nodup
 simp only[ids,List.flatMap_append] at hap hnd
 have hnot:∀ k,k∈ids ob→k∉ids bx:=fun k h1 h2=>(List.nodup_append.1 hnd).2.2 k h1 k h2 rfl
 have hbxlt:∀ k∈ids bx,k < w.heap.size:=fun k hk=>by obtain⟨b,hb,hkb⟩:=mem_ids.1 hk;exact hlt b (by simp[hb]) k hkb
 refine⟨fun k o hf=>?_,fun k hk'=>?_,?_,fun b hb=>?_,fun f hf=>f.mono _ _ (fun k o hio=>?_) (h.facts f hf)⟩
 ·rw[hk k (hfl k o hf) (fun hin=>by have:=hap k (List.mem_append.2 (.inl hin));rw[hf] at this;cases this)];exact h.frame k o hf
 ·simp only[ids,List.flatMap_append,List.mem_append] at hk'
  rcases hk' with hk'|hk'
  ·rcases hn k hk' with h1|h1
   ·exact hap k (List.mem_append.2 (.inl h1))
   ·cases hfk:fr k with
    |none=>rfl
    |some o=>have:=hfl k o hfk;omega
  ·exact hap k (List.mem_append.2 (.inr hk'))
 ·simp only[ids,List.flatMap_append]
  refine List.nodup_append.2 ⟨hd,(List.nodup_append.1 hnd).2.1,?_⟩
  intro k h1 k' h2 he
  subst he
  rcases hn k h1 with h3|h3
  ·exact hnot k h3 h2
  ·have:=hbxlt k h2;omega
 ·rcases List.mem_append.1 hb with hb|hb
  ·exact ho b hb
  ·refine Ow.holds_congr (h.owns b (by simp[hb])) fun k hkb=>hk k (hlt b (by simp[hb]) k hkb) fun hin=>hnot k hin (mem_ids.2 ⟨b,hb,hkb⟩)
 ·unfold imm at *
  split at hio
  ·cases hio
  ·rename_i hc
   have hkl:k < w.heap.size:=(Array.getElem?_eq_some_iff.1 hio).1
   simp only[Bool.or_eq_true,List.contains_iff_mem,ids,List.flatMap_append,List.mem_append,not_or] at hc
   rw[if_neg,hk k hkl hc.2.1]
   ·exact hio
   ·simp only[Bool.or_eq_true,List.contains_iff_mem,ids,List.flatMap_append,List.mem_append,not_or]
    refine⟨hc.1,fun h1=>?_,hc.2.2⟩
    rcases hn k h1 with h3|h3
    ·exact hc.2.1 h3
    ·omega
theorem imm_step {fr:PH} {ob nb bx:List Ow} {F:List Fct} {w w':World} (h:OK fr (ob++bx) F w)
  (hk:∀ k,k < w.heap.size→k∉ids ob→w'.heap[k]?=w.heap[k]?) (hn:∀ k∈ids nb,k∈ids ob∨w.heap.size≤k):(imm fr (ob++bx) w.heap).le (imm fr (nb++bx) w'.heap):=fun k o hio=>by
  unfold imm at *
  split at hio
  ·cases hio
  ·rename_i hc
   have hkl:k < w.heap.size:=(Array.getElem?_eq_some_iff.1 hio).1
   simp only[Bool.or_eq_true,List.contains_iff_mem,ids,List.flatMap_append,List.mem_append,not_or] at hc
   rw[if_neg,hk k hkl hc.2.1]
   ·exact hio
   ·simp only[Bool.or_eq_true,List.contains_iff_mem,ids,List.flatMap_append,List.mem_append,not_or]
    refine⟨hc.1,fun h1=>?_,hc.2.2⟩
    rcases hn k h1 with h3|h3
    ·exact hc.2.1 h3
    ·omega
end W
end Go.Proofs.YtaongbhamadlkaaGreat
namespace Go.Proofs.YtaongbhamadlkaaGreat
open Go.RowKit
namespace W
variable {P:Program}
def YO (P:Program) (op:Op) (ty:TypeId) (e:Env) (bx:List Ow) (F:List Fct) (v:Value):Prop:=
 ∀ n fr a w (o:Oper),o.op=op→o.type=ty→Kn n a e→OK fr bx F w→(execOp a.eval o).run P w=.ok (.value v) w
def LO (P:Program) (op:Op) (ty:TypeId) (e:Env) (bx:List Ow) (F:List Fct) (K:Value→List Ow→List Fct→Prop):Prop:=
 ∀ n fr a w (o:Oper) (next:Act→World→Prop) (Q':Exit→Act→World→Prop),o.op=op→o.type=ty→Kn n a e→OK fr bx F w→
  (∀ v w' bx' F',Rest w w'→OK fr bx' F' w'→K v bx' F'→next (a.put o.dst v) w')→o.upon P a next Q' ((execOp a.eval o).run P w)
theorem LO.mono {op:Op} {ty:TypeId} {e:Env} {bx:List Ow} {F:List Fct} {K K':Value→List Ow→List Fct→Prop} (h:LO P op ty e bx F K) (hk:∀ v b f,K v b f→K' v b f):LO P op ty e bx F K':=
 fun n fr a w o next Q' h1 h2 h3 h4 h5=>h n fr a w o next Q' h1 h2 h3 h4 fun v w' bx' F' r ok k=>h5 v w' bx' F' r ok (hk _ _ _ k)
def gd (L:List Oper) (e:Env) (j:Nat):Option Value:=
 match L[j]? with
 |some o=>match o.dst with
  |some d=>look e d
  |none=>none
 |none=>none
def gok (L:List Oper) (e:Env):Option (Nat×Bool)→Option Bool
 |none=>some true
 |some (j,want)=>match gd L e j with
  |some (.bool b)=>some (b == want)
  |some (.tuple _)=>some false
  |_=>none
theorem gok_wanted {L:List Oper} {e:Env} {n:Nat} {a:Act} {o:Oper} {b:Bool} (hk:Kn n a e) (h:gok L e o.guard=some b):Region.wanted o (yielded L.toArray a.tmps)=b:=by
 unfold Region.wanted
 cases hg:o.guard with
 |none=>rw[hg] at h;simpa [gok] using h
 |some jw=>
  obtain⟨j,want⟩:=jw
  rw[hg] at h
  simp only[gok,gd] at h
  cases hL:L[j]? with
  |none=>simp[hL] at h
  |some oj=>
   simp only[hL] at h
   cases hd:oj.dst with
   |none=>simp[hd] at h
   |some d=>
    simp only[hd] at h
    cases hl:look e d with
    |none=>simp[hl] at h
    |some v=>
     simp only[hl] at h
     have:=hk.at' _ _ hl
     cases v <;> simp at h
     ·simp[yielded,hL,hd,this,←h]
     ·simp[yielded,hL,hd,this,←h]
def WL (P:Program) (n:Nat) (L rest:List Oper) (e:Env) (bx:List Ow) (F:List Fct) (Q:Env→List Ow→List Fct→Prop):Prop:=
 ∀ fr w0 a w (Q':Exit→Act→World→Prop),(∀ a' w' e' bx' F',Kn n a' e'→Rest w0 w'→OK fr bx' F' w'→Q e' bx' F'→Q' .normal a' w')→
  Kn n a e→Rest w0 w→OK fr bx F w→wpList P L.toArray Q' rest a w
section
variable {n:Nat} {L rest:List Oper} {e:Env} {bx:List Ow} {F:List Fct} {Q:Env→List Ow→List Fct→Prop}
 {d:Nat} {op:Op} {ty:TypeId} {pos:String} {af:Array Edge} {g:Option (Nat×Bool)} {v:Value}
theorem WL.nil (h:Q e bx F):WL P n L [] e bx F Q:=fun _ _ _ _ _ hQ hk hr ho=>hQ _ _ _ _ _ hk hr ho h
theorem WL.y (hy:YO P op ty e bx F v) (hd:Nat.blt d n=true) (hg:gok L e g=some true) (h:WL P n L rest ((d,v)::e) bx F Q) :
  WL P n L (⟨some d,op,ty,pos,af,g⟩::rest) e bx F Q:=fun fr w0 a w Q' hQ hk hr ho=>by
 unfold wpList
 rw[if_pos (gok_wanted hk hg)]
 refine .inl ?_
 unfold Oper.wp
 rw[hy n fr a w _ rfl rfl hk ho]
 exact h fr w0 _ w Q' hQ (hk.put hd v) hr ho
theorem WL.skip (hd:Nat.blt d n=true) (hg:gok L e g=some false) (h:WL P n L rest ((d,undef)::e) bx F Q) :
  WL P n L (⟨some d,op,ty,pos,af,g⟩::rest) e bx F Q:=fun fr w0 a w Q' hQ hk hr ho=>by
 unfold wpList
 rw[if_neg (by rw[gok_wanted hk hg];simp)]
 exact h fr w0 _ w Q' hQ (hk.put hd _) hr ho
theorem WL.skip0 (hg:gok L e g=some false) (h:WL P n L rest e bx F Q) :
  WL P n L (⟨none,op,ty,pos,af,g⟩::rest) e bx F Q:=fun fr w0 a w Q' hQ hk hr ho=>by
 unfold wpList
 rw[if_neg (by rw[gok_wanted hk hg];simp)]
 exact h fr w0 _ w Q' hQ (hk.put_none _) hr ho
theorem WL.l (hd:Nat.blt d n=true) (hg:gok L e g=some true) (hl:LO P op ty e bx F fun v bx' F'=>WL P n L rest ((d,v)::e) bx' F' Q) :
  WL P n L (⟨some d,op,ty,pos,af,g⟩::rest) e bx F Q:=fun fr w0 a w Q' hQ hk hr ho=>by
 unfold wpList
 rw[if_pos (gok_wanted hk hg)]
 refine .inl ?_
 unfold Oper.wp
 refine hl n fr a w _ _ _ rfl rfl hk ho fun v w' bx' F' hr' ho' h=>?_
 exact h fr w0 _ w' Q' hQ (hk.put hd v) (hr.trans hr') ho'
theorem WL.l0 (hg:gok L e g=some true) (hl:LO P op ty e bx F fun _ bx' F'=>WL P n L rest e bx' F' Q) :
  WL P n L (⟨none,op,ty,pos,af,g⟩::rest) e bx F Q:=fun fr w0 a w Q' hQ hk hr ho=>by
 unfold wpList
 rw[if_pos (gok_wanted hk hg)]
 refine .inl ?_
 unfold Oper.wp
 refine hl n fr a w _ _ _ rfl rfl hk ho fun v w' bx' F' hr' ho' h=>?_
 exact h fr w0 _ w' Q' hQ (hk.put_none v) (hr.trans hr') ho'
end
section
variable {ops:Array Oper} {Q:Exit→Act→World→Prop} {S:World→Prop} {late:Nat→Bool}
def wpAnyG (P:Program) (ops:Array Oper) (Q:Exit→Act→World→Prop) (S:World→Prop) (late:Nat→Bool):Nat→Array Bool→Act→World→Prop
 |0,listed,a,w=>Region.ready .any ops listed=[]∧Q .normal a w
 |fuel+1,listed,a,w=>(Region.ready .any ops listed=[]→Q .normal a w)∧
   ∀ i∈Region.ready .any ops listed,wpOp P ops Q i (fun a' w'=>(late i=false→S w→S w')∧wpAnyG P ops Q S late fuel (listed.setIfInBounds i true) a' w') a w
theorem wpAny_of_G:∀ (fuel:Nat) (listed:Array Bool) (a:Act) (w:World),wpAnyG P ops Q S late fuel listed a w→wpAny P .any ops Q fuel listed a w
 |0,_,_,_,h=>h
 |fuel+1,_,_,_,h=>⟨h.1,fun i hi=>wpOp_mono (fun _ _ h'=>wpAny_of_G fuel _ _ _ h'.2) (h.2 i hi)⟩
def Down (ops:Array Oper) (listed:Array Bool):Prop:=∀ j o,ops[j]?=some o→listed.getD j false=true→∀ e∈o.after,Region.binds .any e=true→listed.getD e.on false=true
theorem Down.set {listed:Array Bool} {i:Nat} (h:Down ops listed) (hi:i∈Region.ready .any ops listed):Down ops (listed.setIfInBounds i true):=by
 intro j o ho hj e he hb
 refine getD_set_true ?_
 by_cases hij:i=j
 ·subst hij
  obtain⟨_,o',ho',hall⟩:=mem_ready.1 hi
  rw[ho] at ho';cases ho'
  exact hall e he hb
 ·rw[getD_set_ne false hij] at hj
  exact h j o ho hj e he hb
theorem wpAnyG_first {i:Nat} {oi:Oper} {v:Value} (hi:ops[i]?=some oi) (hsel:Region.noSelect ops=true)
  (hQ:∀ c a w,Q (.panic c) (a.put oi.dst v) w→Q (.panic c) a w)
  (hlate:∀ listed j,Down ops listed→late j=true→j∈Region.ready .any ops listed→listed.getD i false=true) :
  ∀ (fuel:Nat) (listed:Array Bool) (a:Act) (w:World),Down ops listed→
   (∀ j oj,ops[j]?=some oj→j≠i→listed.getD j true=false→(∀ e∈oj.after,Region.binds .any e=true→e.on≠i)→oi.apart ops oj=true)→
   i∈Region.ready .any ops listed→YieldsIf P ops S oi v a→S w→
   wpAnyG P ops Q S late fuel (listed.setIfInBounds i true) (a.put oi.dst v) w→wpAnyG P ops Q S late (fuel+1) listed a w:=by
 intro fuel
 induction fuel with
 |zero=>
  intro listed a w _ _ hr hy hS H
  refine⟨fun h=>absurd (h ▸ hr) (by simp),fun j hj=>?_⟩
  by_cases hji:j=i
  ·subst hji;exact hy.wpOp hi hS ⟨fun _ h=>h,H⟩
  ·have h1:=ready_mono hj hji
   rw[H.1] at h1
   cases h1
 |succ fuel ih=>
  intro listed a w hdn hfree hr hy hS H
  refine⟨fun h=>absurd (h ▸ hr) (by simp),fun j hj=>?_⟩
  by_cases hji:j=i
  ·subst hji;exact hy.wpOp hi hS ⟨fun _ h=>h,H⟩
  ·obtain⟨hjun,oj,hoj,hall⟩:=mem_ready.1 hj
   have hiun:listed.getD i true=false:=(mem_ready.1 hr).1
   have hiun':listed.getD i false=false:=by
    cases hx:listed[i]? with
    |none=>simp[Array.getD_eq_getD_getElem?,hx]
    |some b=>simpa [Array.getD_eq_getD_getElem?,hx] using hiun
   have hnot:∀ e∈oj.after,Region.binds .any e=true→e.on≠i:=fun e he hb heq=>by
    have:=hall e he hb;rw[heq,hiun'] at this;cases this
   have hnl:late j=false:=by
    cases hl:late j with
    |false=>rfl
    |true=>have:=hlate listed j hdn hl hj;rw[hiun'] at this;cases this
   have h2:=wpOp_putIf hoj (hfree j oj hoj hji hjun hnot) (fun cs b=>Region.noSelect_spec hsel i oi cs b hi) (fun cs b=>Region.noSelect_spec hsel j oj cs b hoj) hQ hy (H.2 j (ready_mono hj hji))
   refine wpOp_mono (fun a' w' h3=>⟨fun _=>h3.2.1 hnl,ih _ a' w' (hdn.set hj) ?_ (ready_mono hr (Ne.symm hji)) h3.1 (h3.2.1 hnl hS) ?_⟩) h2
   ·intro k ok hk hki hun hno
    refine hfree k ok hk hki ?_ hno
    by_cases hjk:j=k
    ·subst hjk;exact hjun
    ·rw[getD_set_ne true hjk] at hun;exact hun
   ·rw[Array.setIfInBounds_comm _ _ hji]
    exact h3.2.2
theorem wpAnyG_firstP {i:Nat} {oi:Oper} {v:Value} (hi:ops[i]?=some oi) (hsel:Region.noSelect ops=true)
  (hQ:∀ c a w,Q (.panic c) (a.put oi.dst v) w→Q (.panic c) a w) :
  ∀ (fuel:Nat) (listed:Array Bool) (a:Act) (w:World),Down ops listed→
   (∀ j oj,ops[j]?=some oj→j≠i→listed.getD j true=false→(∀ e∈oj.after,Region.binds .any e=true→e.on≠i)→oi.apart ops oj=true)→
   i∈Region.ready .any ops listed→YieldsIf P ops (fun _=>True) oi v a→
   wpAnyG P ops Q S late fuel (listed.setIfInBounds i true) (a.put oi.dst v) w→wpAnyG P ops Q S late (fuel+1) listed a w:=by
 intro fuel
 induction fuel with
 |zero=>
  intro listed a w _ _ hr hy H
  refine⟨fun h=>absurd (h ▸ hr) (by simp),fun j hj=>?_⟩
  by_cases hji:j=i
  ·subst hji;exact hy.wpOp hi trivial ⟨fun _ h=>h,H⟩
  ·have h1:=ready_mono hj hji
   rw[H.1] at h1
   cases h1
 |succ fuel ih=>
  intro listed a w hdn hfree hr hy H
  refine⟨fun h=>absurd (h ▸ hr) (by simp),fun j hj=>?_⟩
  by_cases hji:j=i
  ·subst hji;exact hy.wpOp hi trivial ⟨fun _ h=>h,H⟩
  ·obtain⟨hjun,oj,hoj,hall⟩:=mem_ready.1 hj
   have hiun:listed.getD i true=false:=(mem_ready.1 hr).1
   have hiun':listed.getD i false=false:=by
    cases hx:listed[i]? with
    |none=>simp[Array.getD_eq_getD_getElem?,hx]
    |some b=>simpa [Array.getD_eq_getD_getElem?,hx] using hiun
   have hnot:∀ e∈oj.after,Region.binds .any e=true→e.on≠i:=fun e he hb heq=>by
    have:=hall e he hb;rw[heq,hiun'] at this;cases this
   have h2:=wpOp_putIf hoj (hfree j oj hoj hji hjun hnot) (fun cs b=>Region.noSelect_spec hsel i oi cs b hi) (fun cs b=>Region.noSelect_spec hsel j oj cs b hoj) hQ hy (H.2 j (ready_mono hj hji))
   refine wpOp_mono (fun a' w' h3=>⟨h3.2.1,ih _ a' w' (hdn.set hj) ?_ (ready_mono hr (Ne.symm hji)) h3.1 ?_⟩) h2
   ·intro k ok hk hki hun hno
    refine hfree k ok hk hki ?_ hno
    by_cases hjk:j=k
    ·subst hjk;exact hjun
    ·rw[getD_set_ne true hjk] at hun;exact hun
   ·rw[Array.setIfInBounds_comm _ _ hji]
    exact h3.2.2
end
inductive Plan where
 |done
 |held (i:Nat) (r:Plan)
 |loud (i:Nat) (r:Plan)
 |fork (i:Nat) (r:Plan) (j:Nat) (s:Plan)
 |free (i:Nat) (r:Plan)
 |more (i:Nat) (r:Plan) (s:Plan)
def Plan.heads:Plan→List Nat
 |.more i _ s=>i::s.heads
 |.loud i _=>[i]
 |_=>[]
def anc (L:List Oper) (k:Nat):Nat→Nat→Bool
 |0,_=>false
 |f+1,j=>match L[j]? with
  |none=>false
  |some o=>o.after.any fun e=>Region.binds .any e && (e.on == k ||anc L k f e.on)
def lateB (L:List Oper) (hs:List Nat) (j:Nat):Bool:=hs.all fun k=>anc L k L.length j
theorem anc_listed {L:List Oper} {k:Nat} {listed:Array Bool} (hd:Down L.toArray listed):∀ f j o,L[j]?=some o→(∀ e∈o.after,Region.binds .any e=true→listed.getD e.on false=true)→anc L k f j=true→listed.getD k false=true:=by
 intro f
 induction f with
 |zero=>intro j o _ _ h;simp[anc] at h
 |succ f ih=>
  intro j o ho hall h
  simp only[anc,ho,Array.any_eq_true'] at h
  obtain⟨e,he,h⟩:=h
  simp only[Bool.and_eq_true,Bool.or_eq_true,beq_iff_eq] at h
  have hl:=hall e he h.1
  rcases h.2 with h'|h'
  ·rw[←h'];exact hl
  ·cases hx:L[e.on]? with
   |none=>cases f <;> simp[anc,hx] at h'
   |some oe=>exact ih e.on oe hx (fun e' he' hb'=>hd e.on oe (by simpa using hx) hl e' he' hb') h'
theorem late_listed {L:List Oper} {hs:List Nat} {listed:Array Bool} {i j:Nat} (hd:Down L.toArray listed) (hl:lateB L hs j=true) (hj:j∈Region.ready .any L.toArray listed) (hi:i∈hs):listed.getD i false=true:=by
 obtain⟨_,o,ho,hall⟩:=mem_ready.1 hj
 exact anc_listed hd _ j o (by simpa using ho) hall (List.all_eq_true.1 hl i hi)
mutual
def chk (L:List Oper) (hs:List Nat):Plan→Array Bool→Bool
 |.done,listed=>(Region.ready .any L.toArray listed).isEmpty
 |.held i r,listed=>hs.contains i && (Region.free .any L.toArray listed i && ((Region.ready .any L.toArray listed).contains i && chk L hs r (listed.setIfInBounds i true)))
 |.free i r,listed=>Region.free .any L.toArray listed i && ((Region.ready .any L.toArray listed).contains i && chk L hs r (listed.setIfInBounds i true))
 |.loud i r,listed=>Region.ready .any L.toArray listed == [i] && chk L hs r (listed.setIfInBounds i true)
 |.fork i r j s,listed=>Region.ready .any L.toArray listed == [i,j] && (chk L hs r (listed.setIfInBounds i true) && chk L hs s (listed.setIfInBounds j true))
 |.more i r s,listed=>Region.ready .any L.toArray listed == (i::s.heads) && (chk L hs r (listed.setIfInBounds i true) && chkR L hs s listed)
termination_by structural p=>p
def chkR (L:List Oper) (hs:List Nat):Plan→Array Bool→Bool
 |.done,_=>false
 |.held _ _,_=>false
 |.free _ _,_=>false
 |.fork _ _ _ _,_=>false
 |.loud i r,listed=>chk L hs r (listed.setIfInBounds i true)
 |.more i r s,listed=>chk L hs r (listed.setIfInBounds i true) && chkR L hs s listed
termination_by structural p=>p
end
def Plan.len:Plan→Nat
 |.done=>0
 |.held _ r=>r.len+1
 |.loud _ r=>r.len+1
 |.free _ r=>r.len+1
 |.fork _ r _ s=>max r.len s.len+1
 |.more _ r s=>max (r.len+1) s.len
def WD (P:Program) (n:Nat) (L:List Oper) (hs:List Nat) (b0:List Ow) (F0:List Fct) (p:Plan) (e:Env) (bx:List Ow) (F:List Fct) (Q:Env→List Ow→List Fct→Prop):Prop:=
 ∀ fr w0 listed a w fuel (Q':Exit→Act→World→Prop),(∀ c a a' w,Q' (.panic c) a w→Q' (.panic c) a' w)→Region.noSelect L.toArray=true→chk L hs p listed=true→Down L.toArray listed→
  (∀ a' w' e' bx' F',Kn n a' e'→Rest w0 w'→OK fr bx' F' w'→Q e' bx' F'→Q' .normal a' w')→
  ((∃ i∈hs,listed.getD i true=false)→OK fr b0 F0 w)→Kn n a e→Rest w0 w→OK fr bx F w→p.len≤fuel→wpAnyG P L.toArray Q' (fun w=>OK fr b0 F0 w) (lateB L hs) fuel listed a w
theorem wpAnyG_done {ops:Array Oper} {Q:Exit→Act→World→Prop} {S:World→Prop} {late:Nat→Bool} {listed:Array Bool} {a:Act} {w:World} (hr:Region.ready .any ops listed=[]) (h:Q .normal a w) :
  ∀ fuel,wpAnyG P ops Q S late fuel listed a w
 |0=>⟨hr,h⟩
 |_+1=>⟨fun _=>h,by rw[hr];simp⟩
section
variable {n:Nat} {L:List Oper} {hs:List Nat} {b0 bx:List Ow} {F0 F:List Fct} {p r s:Plan} {e:Env} {Q:Env→List Ow→List Fct→Prop}
 {i:Nat} {d:Nat} {op:Op} {ty:TypeId} {pos:String} {af:Array Edge} {g:Option (Nat×Bool)} {v:Value}
theorem WD.nil (h:Q e bx F):WD P n L hs b0 F0 .done e bx F Q:=fun fr w0 listed a w fuel Q' _ _ hc _ hQ _ hk hr ho _=>
 wpAnyG_done (by simpa [chk] using hc) (hQ _ _ _ _ _ hk hr ho h) fuel
theorem getD_some {listed:Array Bool} {i:Nat} (h:listed.getD i true=false) (j:Nat) (hj:(listed.setIfInBounds i true).getD j true=false):listed.getD j true=false:=by
 by_cases hij:i=j
 ·subst hij;exact h
 ·rw[getD_set_ne true hij] at hj;exact hj
theorem WD.held_of (o:Oper) (hL:L[i]?=some o) (e':Env)
  (hy:∀ fr a w,Kn n a e→OK fr b0 F0 w→∃ v,YieldsIf P L.toArray (fun w=>OK fr b0 F0 w) o v a∧Kn n (a.put o.dst v) e')
  (h:WD P n L hs b0 F0 r e' bx F Q):WD P n L hs b0 F0 (.held i r) e bx F Q:=fun fr w0 listed a w fuel Q' hP hns hc hd hQ hS hk hr ho hf=>by
 simp only[chk,Bool.and_eq_true] at hc
 obtain⟨h1,h2,h3,h4⟩:=hc
 obtain⟨f',rfl⟩:∃ f',fuel=f'+1:=⟨fuel - 1,by simp[Plan.len] at hf;omega⟩
 have hri:i∈Region.ready .any L.toArray listed:=by simpa using h3
 have hun:=(mem_ready.1 hri).1
 have hOK:=hS ⟨i,by simpa using h1,hun⟩
 obtain⟨v,hy1,hy2⟩:=hy fr a w hk hOK
 have hLa:L.toArray[i]?=some o:=by simpa using hL
 refine wpAnyG_first hLa hns (fun c a w=>hP c _ _ w) (fun listed j hd hl hj=>late_listed hd hl hj (by simpa using h1)) f' listed a w hd (Region.free_spec hLa h2) hri hy1 hOK ?_
 exact h fr w0 _ _ w f' Q' hP hns h4 (hd.set hri) hQ (fun ⟨j,hj,hjl⟩=>hS ⟨j,hj,getD_some hun j hjl⟩) hy2 hr ho (by simp[Plan.len] at hf;exact hf)
theorem WD.fy (hL:L[i]?=some ⟨some d,op,ty,pos,af,g⟩) (hy:YO P op ty e [] [] v) (hd':Nat.blt d n=true) (hg:gok L e g=some true) (h:WD P n L hs b0 F0 r ((d,v)::e) bx F Q):WD P n L hs b0 F0 (.free i r) e bx F Q:=fun fr w0 listed a w fuel Q' hP hns hc hd hQ hS hk hr ho hf=>by
 simp only[chk,Bool.and_eq_true] at hc
 obtain⟨h2,h3,h4⟩:=hc
 obtain⟨f',rfl⟩:∃ f',fuel=f'+1:=⟨fuel - 1,by simp[Plan.len] at hf;omega⟩
 have hri:i∈Region.ready .any L.toArray listed:=by simpa using h3
 have hun:=(mem_ready.1 hri).1
 have hLa:L.toArray[i]?=some ⟨some d,op,ty,pos,af,g⟩:=by simpa using hL
 have hy1:YieldsIf P L.toArray (fun _=>True) ⟨some d,op,ty,pos,af,g⟩ v a:=.inl ⟨gok_wanted hk hg,fun w' _=>hy n (fun _=>none) a w' _ rfl rfl hk ⟨fun _ _ h=>(by cases h),fun _ _=>rfl,by simp[ids],by simp,by simp⟩⟩
 refine wpAnyG_firstP hLa hns (fun c a w=>hP c _ _ w) f' listed a w hd (Region.free_spec hLa h2) hri hy1 ?_
 exact h fr w0 _ _ w f' Q' hP hns h4 (hd.set hri) hQ (fun ⟨j,hj,hjl⟩=>hS ⟨j,hj,getD_some hun j hjl⟩) (hk.put hd' v) hr ho (by simp[Plan.len] at hf;exact hf)
theorem WD.y (hL:L[i]?=some ⟨some d,op,ty,pos,af,g⟩) (hy:YO P op ty e b0 F0 v) (hd:Nat.blt d n=true) (hg:gok L e g=some true) (h:WD P n L hs b0 F0 r ((d,v)::e) bx F Q) :
  WD P n L hs b0 F0 (.held i r) e bx F Q:=
 WD.held_of _ hL _ (fun fr a w hk _=>⟨v,.inl ⟨gok_wanted hk hg,fun w' ho'=>hy n fr a w' _ rfl rfl hk ho'⟩,hk.put hd v⟩) h
theorem WD.skip (hL:L[i]?=some ⟨some d,op,ty,pos,af,g⟩) (hd:Nat.blt d n=true) (hg:gok L e g=some false) (h:WD P n L hs b0 F0 r ((d,undef)::e) bx F Q) :
  WD P n L hs b0 F0 (.held i r) e bx F Q:=
 WD.held_of _ hL _ (fun fr a w hk _=>⟨undef,.inr ⟨gok_wanted hk hg,rfl⟩,hk.put hd undef⟩) h
theorem WD.skip0 (hL:L[i]?=some ⟨none,op,ty,pos,af,g⟩) (hg:gok L e g=some false) (h:WD P n L hs b0 F0 r e bx F Q) :
  WD P n L hs b0 F0 (.held i r) e bx F Q:=
 WD.held_of _ hL _ (fun fr a w hk _=>⟨undef,.inr ⟨gok_wanted hk hg,rfl⟩,hk.put_none undef⟩) h
theorem loud_of {fr:PH} {w0:World} {listed:Array Bool} {a:Act} {w:World} {f':Nat} {Q':Exit→Act→World→Prop} (o:Oper) (hL:L[i]?=some o)
  (hP:∀ c a a' w,Q' (.panic c) a w→Q' (.panic c) a' w) (hns:Region.noSelect L.toArray=true) (hc:chk L hs r (listed.setIfInBounds i true)=true) (hd:Down L.toArray listed) (hri:i∈Region.ready .any L.toArray listed)
  (hQ:∀ a' w' e' bx' F',Kn n a' e'→Rest w0 w'→OK fr bx' F' w'→Q e' bx' F'→Q' .normal a' w') (hS:(∃ i∈hs,listed.getD i true=false)→OK fr b0 F0 w)
  (hk:Kn n a e) (hr:Rest w0 w) (ho:OK fr bx F w) (hf:r.len≤f')
  (h:(gok L e o.guard=some false∧∃ e',(∀ a,Kn n a e→Kn n (a.put o.dst undef) e')∧WD P n L hs b0 F0 r e' bx F Q)∨
   (gok L e o.guard=some true∧LO P o.op o.type e bx F fun v bx' F'=>(lateB L hs i=true∨(b0.Sublist bx'∧∀ f∈F0,f∈F'))∧
    ∃ e',(∀ a,Kn n a e→Kn n (a.put o.dst v) e')∧WD P n L hs b0 F0 r e' bx' F' Q)) :
  wpOp P L.toArray Q' i (fun a' w'=>(lateB L hs i=false→OK fr b0 F0 w→OK fr b0 F0 w')∧wpAnyG P L.toArray Q' (fun w=>OK fr b0 F0 w) (lateB L hs) f' (listed.setIfInBounds i true) a' w') a w:=by
 have hun:=(mem_ready.1 hri).1
 have hlate:lateB L hs i=true→¬∃ j∈hs,(listed.setIfInBounds i true).getD j true=false:=fun hl ⟨j,hj,hjl⟩=>by
  have h1:=late_listed hd hl hri hj
  have h2:=getD_some hun j hjl
  cases hx:listed[j]? with
  |none=>simp[Array.getD_eq_getD_getElem?,hx] at h1
  |some b=>simp[Array.getD_eq_getD_getElem?,hx] at h1 h2;simp[h1] at h2
 have hlist:(∃ j∈hs,(listed.setIfInBounds i true).getD j true=false)→∃ j∈hs,listed.getD j true=false:=fun ⟨j,hj,hjl⟩=>⟨j,hj,getD_some hun j hjl⟩
 unfold wpOp
 have hLa:L.toArray[i]?=some o:=by simpa using hL
 simp only[hLa]
 rcases h with ⟨hg,e',he',h⟩|⟨hg,h⟩
 ·rw[if_neg (by rw[gok_wanted hk hg];simp)]
  have key:=h fr w0 _ (a.put o.dst undef) w f' Q' hP hns hc (hd.set hri) hQ (fun hx=>hS (hlist hx)) (he' a hk) hr ho hf
  exact⟨fun _ h=>h,key⟩
 ·rw[if_pos (gok_wanted hk hg)]
  refine .inl ?_
  unfold Oper.wp
  refine h n fr a w o _ _ rfl rfl hk ho fun v w' bx' F' hr' ho' hK=>?_
  obtain⟨hl,e',he',h⟩:=hK
  have hOK:lateB L hs i=false→OK fr b0 F0 w':=fun hf=>by
   rcases hl with hl|⟨h1,h2⟩
   ·rw[hf] at hl;cases hl
   ·exact(ho'.drop h1).less h2
  refine⟨fun hf _=>hOK hf,h fr w0 _ (a.put o.dst v) w' f' Q' hP hns hc (hd.set hri) hQ (fun hx=>?_) (he' a hk) (hr.trans hr') ho' hf⟩
  cases hb:lateB L hs i with
  |true=>exact absurd hx (hlate hb)
  |false=>exact hOK hb
theorem WD.l_of (o:Oper) (hL:L[i]?=some o)
  (h:(gok L e o.guard=some false∧∃ e',(∀ a,Kn n a e→Kn n (a.put o.dst undef) e')∧WD P n L hs b0 F0 r e' bx F Q)∨
   (gok L e o.guard=some true∧LO P o.op o.type e bx F fun v bx' F'=>(lateB L hs i=true∨(b0.Sublist bx'∧∀ f∈F0,f∈F'))∧
    ∃ e',(∀ a,Kn n a e→Kn n (a.put o.dst v) e')∧WD P n L hs b0 F0 r e' bx' F' Q)):WD P n L hs b0 F0 (.loud i r) e bx F Q:=fun fr w0 listed a w fuel Q' hP hns hc hd hQ hS hk hr ho hf=>by
 simp only[chk,Bool.and_eq_true,beq_iff_eq] at hc
 obtain⟨h1,h2⟩:=hc
 obtain⟨f',rfl⟩:∃ f',fuel=f'+1:=⟨fuel - 1,by simp[Plan.len] at hf;omega⟩
 refine⟨fun h0=>(by rw[h0] at h1;cases h1),fun j hj=>?_⟩
 rw[h1] at hj;simp at hj;subst hj
 exact loud_of o hL hP hns h2 hd (by rw[h1];simp) hQ hS hk hr ho (by simp[Plan.len] at hf;exact hf) h
theorem WD.l (hL:L[i]?=some ⟨some d,op,ty,pos,af,g⟩) (hd:Nat.blt d n=true) (hg:gok L e g=some true)
  (hl:LO P op ty e bx F fun v bx' F'=>(lateB L hs i=true∨(b0.Sublist bx'∧∀ f∈F0,f∈F'))∧WD P n L hs b0 F0 r ((d,v)::e) bx' F' Q):WD P n L hs b0 F0 (.loud i r) e bx F Q:=
 WD.l_of _ hL (.inr ⟨hg,hl.mono fun v b f h=>⟨h.1,_,fun _ hk=>hk.put hd v,h.2⟩⟩)
theorem WD.l0 (hL:L[i]?=some ⟨none,op,ty,pos,af,g⟩) (hg:gok L e g=some true)
  (hl:LO P op ty e bx F fun _ bx' F'=>(lateB L hs i=true∨(b0.Sublist bx'∧∀ f∈F0,f∈F'))∧WD P n L hs b0 F0 r e bx' F' Q):WD P n L hs b0 F0 (.loud i r) e bx F Q:=
 WD.l_of _ hL (.inr ⟨hg,hl.mono fun v _ _ h=>⟨h.1,_,fun _ hk=>hk.put_none v,h.2⟩⟩)
theorem WD.lskip (hL:L[i]?=some ⟨some d,op,ty,pos,af,g⟩) (hd:Nat.blt d n=true) (hg:gok L e g=some false) (h:WD P n L hs b0 F0 r ((d,undef)::e) bx F Q):WD P n L hs b0 F0 (.loud i r) e bx F Q:=
 WD.l_of _ hL (.inl ⟨hg,_,fun _ hk=>hk.put hd undef,h⟩)
theorem WD.lskip0 (hL:L[i]?=some ⟨none,op,ty,pos,af,g⟩) (hg:gok L e g=some false) (h:WD P n L hs b0 F0 r e bx F Q):WD P n L hs b0 F0 (.loud i r) e bx F Q:=
 WD.l_of _ hL (.inl ⟨hg,_,fun _ hk=>hk.put_none undef,h⟩)
theorem chk_swap {L:List Oper} {hs:List Nat} {r s:Plan} {i j:Nat} {listed:Array Bool} (h:chk L hs (.fork i r j s) listed=true) :
  Region.ready .any L.toArray listed=[i,j]∧chk L hs r (listed.setIfInBounds i true)=true∧chk L hs s (listed.setIfInBounds j true)=true:=by
 simpa [chk] using h
theorem WD.fork {j:Nat} (oi oj:Oper) (hLi:L[i]?=some oi) (hLj:L[j]?=some oj)
  (h1:(gok L e oi.guard=some false∧∃ e',(∀ a,Kn n a e→Kn n (a.put oi.dst undef) e')∧WD P n L hs b0 F0 r e' bx F Q)∨
   (gok L e oi.guard=some true∧LO P oi.op oi.type e bx F fun v bx' F'=>(lateB L hs i=true∨(b0.Sublist bx'∧∀ f∈F0,f∈F'))∧
    ∃ e',(∀ a,Kn n a e→Kn n (a.put oi.dst v) e')∧WD P n L hs b0 F0 r e' bx' F' Q))
  (h2:(gok L e oj.guard=some false∧∃ e',(∀ a,Kn n a e→Kn n (a.put oj.dst undef) e')∧WD P n L hs b0 F0 s e' bx F Q)∨
   (gok L e oj.guard=some true∧LO P oj.op oj.type e bx F fun v bx' F'=>(lateB L hs j=true∨(b0.Sublist bx'∧∀ f∈F0,f∈F'))∧
    ∃ e',(∀ a,Kn n a e→Kn n (a.put oj.dst v) e')∧WD P n L hs b0 F0 s e' bx' F' Q)):WD P n L hs b0 F0 (.fork i r j s) e bx F Q:=fun fr w0 listed a w fuel Q' hP hns hc hd hQ hS hk hr ho hf=>by
 obtain⟨hc0,hc1,hc2⟩:=chk_swap hc
 obtain⟨f',rfl⟩:∃ f',fuel=f'+1:=⟨fuel - 1,by simp[Plan.len] at hf;omega⟩
 have hf':max r.len s.len≤f':=by simpa [Plan.len] using hf
 refine⟨fun h0=>(by rw[h0] at hc0;cases hc0),fun k hk'=>?_⟩
 rw[hc0] at hk';simp at hk'
 rcases hk' with rfl|rfl
 ·exact loud_of oi hLi hP hns hc1 hd (by rw[hc0];simp) hQ hS hk hr ho (by omega) h1
 ·exact loud_of oj hLj hP hns hc2 hd (by rw[hc0];simp) hQ hS hk hr ho (by omega) h2
def WM (P:Program) (n:Nat) (L:List Oper) (hs:List Nat) (b0:List Ow) (F0:List Fct) (p:Plan) (e:Env) (bx:List Ow) (F:List Fct) (Q:Env→List Ow→List Fct→Prop):Prop:=
 ∀ fr w0 listed a w f' (Q':Exit→Act→World→Prop),(∀ c a a' w,Q' (.panic c) a w→Q' (.panic c) a' w)→Region.noSelect L.toArray=true→chkR L hs p listed=true→Down L.toArray listed→(∀ j∈p.heads,j∈Region.ready .any L.toArray listed)→
  (∀ a' w' e' bx' F',Kn n a' e'→Rest w0 w'→OK fr bx' F' w'→Q e' bx' F'→Q' .normal a' w')→
  ((∃ i∈hs,listed.getD i true=false)→OK fr b0 F0 w)→Kn n a e→Rest w0 w→OK fr bx F w→p.len≤f'+1→∀ j∈p.heads,wpOp P L.toArray Q' j (fun a' w'=>(lateB L hs j=false→OK fr b0 F0 w→OK fr b0 F0 w')∧wpAnyG P L.toArray Q' (fun w=>OK fr b0 F0 w) (lateB L hs) f' (listed.setIfInBounds j true) a' w') a w
theorem WM.one_of (o:Oper) (hL:L[i]?=some o)
  (h:(gok L e o.guard=some false∧∃ e',(∀ a,Kn n a e→Kn n (a.put o.dst undef) e')∧WD P n L hs b0 F0 r e' bx F Q)∨
   (gok L e o.guard=some true∧LO P o.op o.type e bx F fun v bx' F'=>(lateB L hs i=true∨(b0.Sublist bx'∧∀ f∈F0,f∈F'))∧
    ∃ e',(∀ a,Kn n a e→Kn n (a.put o.dst v) e')∧WD P n L hs b0 F0 r e' bx' F' Q)):WM P n L hs b0 F0 (.loud i r) e bx F Q:=fun fr w0 listed a w f' Q' hP hns hc hd hr' hQ hS hk hr ho hf j hj=>by
 simp only[Plan.heads,List.mem_singleton] at hj hr'
 subst hj
 simp only[chkR] at hc
 exact loud_of o hL hP hns hc hd (hr' j rfl) hQ hS hk hr ho (by simp[Plan.len] at hf;exact hf) h
theorem WM.more_of (o:Oper) (hL:L[i]?=some o)
  (h:(gok L e o.guard=some false∧∃ e',(∀ a,Kn n a e→Kn n (a.put o.dst undef) e')∧WD P n L hs b0 F0 r e' bx F Q)∨
   (gok L e o.guard=some true∧LO P o.op o.type e bx F fun v bx' F'=>(lateB L hs i=true∨(b0.Sublist bx'∧∀ f∈F0,f∈F'))∧
    ∃ e',(∀ a,Kn n a e→Kn n (a.put o.dst v) e')∧WD P n L hs b0 F0 r e' bx' F' Q)) (h2:WM P n L hs b0 F0 s e bx F Q):WM P n L hs b0 F0 (.more i r s) e bx F Q:=fun fr w0 listed a w f' Q' hP hns hc hd hr' hQ hS hk hr ho hf j hj=>by
 simp only[chkR,Bool.and_eq_true] at hc
 simp only[Plan.heads,List.mem_cons] at hj hr'
 have hf':max (r.len+1) s.len≤f'+1:=by simpa [Plan.len] using hf
 rcases hj with rfl|hj
 ·exact loud_of o hL hP hns hc.1 hd (hr' j (.inl rfl)) hQ hS hk hr ho (by omega) h
 ·exact h2 fr w0 listed a w f' Q' hP hns hc.2 hd (fun k hk=>hr' k (.inr hk)) hQ hS hk hr ho (by omega) j hj
theorem WD.more_of (h:WM P n L hs b0 F0 (.more i r s) e bx F Q):WD P n L hs b0 F0 (.more i r s) e bx F Q:=fun fr w0 listed a w fuel Q' hP hns hc hd hQ hS hk hr ho hf=>by
 simp only[chk,Bool.and_eq_true,beq_iff_eq] at hc
 obtain⟨hc0,hc1,hc2⟩:=hc
 have hf':max (r.len+1) s.len≤fuel:=by simpa [Plan.len] using hf
 obtain⟨f',rfl⟩:∃ f',fuel=f'+1:=⟨fuel - 1,by omega⟩
 refine⟨fun h0=>(by rw[h0] at hc0;cases hc0),fun k hk'=>?_⟩
 have hrd:∀ j∈(Plan.more i r s).heads,j∈Region.ready .any L.toArray listed:=fun j hj=>by rw[hc0];exact hj
 rw[hc0] at hk'
 exact h fr w0 listed a w f' Q' hP hns (by simp only[chkR,Bool.and_eq_true];exact⟨hc1,hc2⟩) hd hrd hQ hS hk hr ho (by simp[Plan.len];omega) k hk'
theorem WM.one (hL:L[i]?=some ⟨some d,op,ty,pos,af,g⟩) (hd:Nat.blt d n=true) (hg:gok L e g=some true)
  (hl:LO P op ty e bx F fun v bx' F'=>(lateB L hs i=true∨(b0.Sublist bx'∧∀ f∈F0,f∈F'))∧WD P n L hs b0 F0 r ((d,v)::e) bx' F' Q):WM P n L hs b0 F0 (.loud i r) e bx F Q:=
 WM.one_of _ hL (.inr ⟨hg,hl.mono fun v b f h=>⟨h.1,_,fun _ hk=>hk.put hd v,h.2⟩⟩)
theorem WM.one0 (hL:L[i]?=some ⟨none,op,ty,pos,af,g⟩) (hg:gok L e g=some true)
  (hl:LO P op ty e bx F fun _ bx' F'=>(lateB L hs i=true∨(b0.Sublist bx'∧∀ f∈F0,f∈F'))∧WD P n L hs b0 F0 r e bx' F' Q):WM P n L hs b0 F0 (.loud i r) e bx F Q:=
 WM.one_of _ hL (.inr ⟨hg,hl.mono fun v _ _ h=>⟨h.1,_,fun _ hk=>hk.put_none v,h.2⟩⟩)
theorem WM.more (hL:L[i]?=some ⟨some d,op,ty,pos,af,g⟩) (hd:Nat.blt d n=true) (hg:gok L e g=some true)
  (hl:LO P op ty e bx F fun v bx' F'=>(lateB L hs i=true∨(b0.Sublist bx'∧∀ f∈F0,f∈F'))∧WD P n L hs b0 F0 r ((d,v)::e) bx' F' Q) (h2:WM P n L hs b0 F0 s e bx F Q):WM P n L hs b0 F0 (.more i r s) e bx F Q:=
 WM.more_of _ hL (.inr ⟨hg,hl.mono fun v b f h=>⟨h.1,_,fun _ hk=>hk.put hd v,h.2⟩⟩) h2
theorem WM.more0 (hL:L[i]?=some ⟨none,op,ty,pos,af,g⟩) (hg:gok L e g=some true)
  (hl:LO P op ty e bx F fun _ bx' F'=>(lateB L hs i=true∨(b0.Sublist bx'∧∀ f∈F0,f∈F'))∧WD P n L hs b0 F0 r e bx' F' Q) (h2:WM P n L hs b0 F0 s e bx F Q):WM P n L hs b0 F0 (.more i r s) e bx F Q:=
 WM.more_of _ hL (.inr ⟨hg,hl.mono fun v _ _ h=>⟨h.1,_,fun _ hk=>hk.put_none v,h.2⟩⟩) h2
end
end W
end Go.Proofs.YtaongbhamadlkaaGreat
namespace Go.Proofs.YtaongbhamadlkaaGreat
open Go.RowKit
namespace W
variable {P:Program}
def Has (F:List Fct) (f:Fct):Prop:=∀ h,(∀ g∈F,g.p h)→f.p h
theorem Has.mem {F:List Fct} {f:Fct} (h:f∈F):Has F f:=fun _ hf=>hf f h
theorem OK.has {fr:PH} {bx:List Ow} {F:List Fct} {w:World} (h:OK fr bx F w) {f:Fct} (hf:Has F f):f.p (imm fr bx w.heap):=hf _ h.facts
theorem OK.hasAll {fr:PH} {bx:List Ow} {F F':List Fct} {w:World} (h:OK fr bx F w) (hf:∀ f∈F',Has F f):OK fr bx F' w:=⟨h.frame,h.apart,h.nodup,h.owns,fun f hf'=>h.has (hf f hf')⟩
theorem Has.of {F:List Fct} {f g:Fct} (h:Has F f) (hg:∀ h,f.p h→g.p h):Has F g:=fun ph hf=>hg _ (h ph hf)
abbrev Post:=Exit→Env→List Ow→List Fct→Prop
def post (fr:PH) (n:Nat) (w0:World) (Q:Post):Exit→Act→World→Prop
 |.normal,a,w=>∃ e bx F,Kn n a e∧Rest w0 w∧OK fr bx F w∧Q .normal e bx F
 |.exit id,a,w=>∃ e bx F,Kn n a e∧Rest w0 w∧OK fr bx F w∧Q (.exit id) e bx F
 |.ret,a,w=>∃ e bx F,Kn n a e∧Rest w0 w∧OK fr bx F w∧Q .ret e bx F
 |_,_,_=>False
def WC (P:Program) (n:Nat) (c:Code) (e:Env) (bx:List Ow) (F:List Fct) (Q:Post):Prop:=
 ∀ fr w0 a w,Kn n a e→Rest w0 w→OK fr bx F w→c.wp P (post fr n w0 Q) a w
def thenQ (K:Env→List Ow→List Fct→Prop) (Q:Post):Post
 |.normal=>K
 |x=>Q x
def blockQ (id:Nat) (Q:Post):Post
 |.exit i=>bif Nat.beq i id then Q .normal else Q (.exit i)
 |x=>Q x
section
variable {n:Nat} {x y c:Code} {e e':Env} {bx bx':List Ow} {F F':List Fct} {Q:Post} {id:Nat}
theorem WC.seq (h:WC P n x e bx F (thenQ (fun e bx F=>WC P n y e bx F Q) Q)):WC P n (.seq x y) e bx F Q:=fun fr w0 a w hk hr ho=>by
 refine wp_seq (wp_mono (h fr w0 a w hk hr ho) fun ex a' w' hq=>?_)
 cases ex <;> first|exact hq|skip
 obtain⟨e1,b1,F1,h1,h2,h3,h4⟩:=hq
 exact h4 fr w0 a' w' h1 h2 h3
theorem WC.skip (h:Q .normal e bx F):WC P n .skip e bx F Q:=fun _ _ _ _ hk hr ho=>wp_skip ⟨_,_,_,hk,hr,ho,h⟩
theorem WC.label {l:Nat} (h:Q .normal e bx F):WC P n (.label l) e bx F Q:=fun _ _ _ _ hk hr ho=>wp_label ⟨_,_,_,hk,hr,ho,h⟩
theorem WC.exit (h:Q (.exit id) e bx F):WC P n (.exit id) e bx F Q:=fun _ _ _ _ hk hr ho=>wp_exit ⟨_,_,_,hk,hr,ho,h⟩
theorem WC.ret (h:Q .ret e bx F):WC P n .ret e bx F Q:=fun _ _ _ _ hk hr ho=>wp_ret ⟨_,_,_,hk,hr,ho,h⟩
theorem WC.cond_t {o:Operand} (hc:ev e o=some (.bool true)) (h:WC P n x e bx F Q):WC P n (.cond o x y) e bx F Q:=fun fr w0 a w hk hr ho=>
 wp_cond_true (hk.eval hc) (h fr w0 a w hk hr ho)
theorem WC.cond_f {o:Operand} (hc:ev e o=some (.bool false)) (h:WC P n y e bx F Q):WC P n (.cond o x y) e bx F Q:=fun fr w0 a w hk hr ho=>
 wp_cond_false (hk.eval hc) (h fr w0 a w hk hr ho)
theorem WC.block (h:WC P n c e bx F (blockQ id Q)):WC P n (.block id c) e bx F Q:=fun fr w0 a w hk hr ho=>by
 refine wp_block (wp_mono (h fr w0 a w hk hr ho) fun ex a' w' hq=>?_)
 cases ex <;> first|exact hq|skip
 rename_i i
 obtain⟨e1,b1,F1,h1,h2,h3,h4⟩:=hq
 by_cases hi:i=id
 ·subst hi
  simp only[Exit.inBlock,if_true]
  exact⟨e1,b1,F1,h1,h2,h3,by simpa [blockQ,Nat.beq_refl] using h4⟩
 ·simp only[Exit.inBlock,if_neg hi]
  have hb:Nat.beq i id=false:=by
   cases hb:Nat.beq i id
   ·rfl
   ·exact absurd (Nat.eq_of_beq_eq_true hb) hi
  exact⟨e1,b1,F1,h1,h2,h3,by simpa [blockQ,hb] using h4⟩
theorem WC.mono {Q':Post} (h:WC P n c e bx F Q') (hq:∀ x e b f,Q' x e b f→Q x e b f):WC P n c e bx F Q:=fun fr w0 a w hk hr ho=>
 wp_mono (h fr w0 a w hk hr ho) fun ex a' w' hp=>by
  cases ex <;> first|exact hp|(obtain⟨e1,b1,F1,h1,h2,h3,h4⟩:=hp;exact⟨e1,b1,F1,h1,h2,h3,hq _ _ _ _ h4⟩)
theorem WC.weak (hs:Sub e' e) (hb:bx'.Sublist bx) (hf:∀ f∈F',Has F f) (h:WC P n c e' bx' F' Q):WC P n c e bx F Q:=fun fr w0 a w hk hr ho=>
 h fr w0 a w (hk.sub hs) hr ((ho.drop hb).hasAll hf)
theorem WC.region {L:List Oper} (h:WL P n L L e bx F (Q .normal)):WC P n (.region id L.toArray false) e bx F Q:=fun fr w0 a w hk hr ho=>
 wp_region_lit (h fr w0 a w _ (fun a' w' e' bx' F' h1 h2 h3 h4=>⟨e',bx',F',h1,h2,h3,h4⟩) hk hr ho)
theorem WC.draw {L:List Oper} (hs:List Nat) (p:Plan) (hm:P.follows .mixedOrders=true) (hc:(Region.noSelect L.toArray && (chk L hs p (Array.replicate L.length false) && Nat.ble p.len L.length))=true)
  (h:WD P n L hs bx F p e bx F (Q .normal)):WC P n (.region id L.toArray true) e bx F Q:=fun fr w0 a w hk hr ho=>by
 simp only[Bool.and_eq_true] at hc
 refine wp_region_any hm (wpAny_of_G _ _ _ _ (h fr w0 _ a _ _ _ ?_ hc.1 (by simpa using hc.2.1) ?_ (fun a' w' e' bx' F' h1 h2 h3 h4=>⟨e',bx',F',h1,h2,h3,h4⟩) (fun _=>ho.drawn _) hk (hr.trans (Rest.drawn w _)) (ho.drawn _) (by simpa using Nat.le_of_ble_eq_true hc.2.2)))
 ·intro c a a' w h;exact h
 ·intro j o _ hj
  rw[Array.getD_eq_getD_getElem?,Array.getElem?_replicate] at hj
  split at hj <;> simp at hj
theorem least_of {p:Nat→Prop} (h:∃ m,p m):∃ m,p m∧∀ k,p k→m≤k:=by
 obtain⟨m,hm⟩:=h
 induction m using Nat.strongRecOn with
 |_ m ih=>
  by_cases hx:∃ k,k < m∧p k
  ·obtain⟨k,hk,hpk⟩:=hx;exact ih k hk hpk
  ·exact⟨m,hm,fun k hk=>Nat.le_of_not_lt fun hlt=>hx ⟨k,hlt,hk⟩⟩
theorem WC.loop {σ:Type} (E:σ→Env) (B:σ→List Ow) (G:σ→List Fct) (I:σ→Prop) (μ:σ→Nat) (s0:σ)
  (hI:I s0) (hE:Sub (E s0) e) (hB:(B s0).Sublist bx) (hG:∀ f∈G s0,Has F f)
  (hround:∀ s,I s→WC P n c (E s) (B s) (G s) (thenQ (fun e' bx' F'=>∃ s',(I s'∧μ s' < μ s)∧Sub (E s') e'∧(B s').Sublist bx'∧∀ f∈G s',Has F' f) Q)):WC P n (.loop c) e bx F Q:=fun fr w0 a w hk hr ho=>by
 classical
 let p:Act→World→Nat→Prop:=fun a w m=>∃ s,μ s=m∧I s∧Kn n a (E s)∧Rest w0 w∧OK fr (B s) (G s) w
 let μ':Act→World→Nat:=fun a w=>if h:∃ m,p a w m∧∀ k,p a w k→m≤k then Classical.choose h else 0
 have hμ:∀ a w,(∃ m,p a w m)→p a w (μ' a w)∧∀ k,p a w k→μ' a w≤k:=fun a w h=>by
  have hl:=least_of h
  show p a w (if h:_ then Classical.choose h else 0)∧_
  simp only[μ']
  rw[dif_pos hl]
  exact Classical.choose_spec hl
 refine wp_loop (fun a w=>∃ m,p a w m) μ' ⟨μ s0,s0,rfl,hI,hk.sub hE,hr,(ho.drop hB).hasAll hG⟩ fun a w hp=>?_
 obtain⟨⟨s,hs0,hs1,hs2,hs3,hs4⟩,_⟩:=hμ a w hp
 refine wp_mono (hround s hs1 fr w0 a w hs2 hs3 hs4) fun ex a' w' hq=>?_
 cases ex <;> first|exact hq|skip
 obtain⟨e1,b1,F1,h1,h2,h3,s',⟨h4,h5⟩,h6,h7,h8⟩:=hq
 have hp':p a' w' (μ s'):=⟨s',rfl,h4,h1.sub h6,h2,(h3.drop h7).hasAll h8⟩
 exact⟨⟨_,hp'⟩,by have:=(hμ a' w' ⟨_,hp'⟩).2 _ hp';omega⟩
end
def ge (h0:PH):Fct:=⟨fun h=>PH.le h0 h,fun _ _ hl h=>h.trans hl⟩
def Callable (P:Program) (f:FuncId):Prop:=∃ fn,P.funcs[f]?=some fn∧(fn.name == "runtime.NumGoroutine")=false∧fn.body.isNone=false
abbrev RPost:=Value→List Ow→List Fct→Prop
def FnB (P:Program) (f:FuncId) (args:List Value) (bx:List Ow) (F:List Fct) (R:RPost):Prop:=
 Callable P f∧∀ fr w,OK fr bx F w→Calls P f args.toArray w fun e w'=>∃ v bx' F',e=.returned v∧R v bx' F'∧Rest w w'∧(imm fr bx w.heap).le (imm fr bx' w'.heap)∧OK fr bx' F' w'
theorem FnB.mono {f:FuncId} {args:List Value} {bx:List Ow} {F:List Fct} {R R':RPost} (h:FnB P f args bx F R) (hr:∀ v b g,R v b g→R' v b g):FnB P f args bx F R':=
 ⟨h.1,fun fr w ho=>(h.2 fr w ho).mono fun _ _ ⟨v,b,g,h1,h2,h3⟩=>⟨v,b,g,h1,hr _ _ _ h2,h3⟩⟩
def parEnv:Nat→List Value→Env
 |_,[]=>[]
 |k,v::r=>(k,v)::parEnv (k+1) r
theorem look_parEnv (l:List Value):∀ k i v,look (parEnv k l) i=some v→k≤i∧l[i - k]?=some v:=by
 induction l with
 |nil=>intro k i v h;simp[parEnv,look] at h
 |cons u r ih=>
  intro k i v h
  rw[parEnv,look_cons] at h
  by_cases hk:k=i
  ·subst hk;simp at h;subst h;simp
  ·rw[if_neg hk] at h
   obtain⟨h1,h2⟩:=ih _ _ _ h
   refine⟨by omega,?_⟩
   rw[show i - k=(i - (k+1))+1 from by omega,List.getElem?_cons_succ];exact h2
def ResE (P:Program) (fn:Func) (e:Env) (bx:List Ow) (F:List Fct) (v:Value):Prop:=
 ∀ n fr a w,Kn n a e→OK fr bx F w→(results fn a.tmps).run P w=.ok v w
def Fin (P:Program) (fn:Func) (h0:PH) (R:RPost):Env→List Ow→List Fct→Prop:=fun e bx F=>
 ∃ v bx' F',ResE P fn e bx F v∧bx'.Sublist bx∧(∀ f∈F',Has F f)∧ge h0∈F∧R v bx' F'
def retQ (P:Program) (fn:Func) (h0:PH) (R:RPost):Post
 |.normal=>Fin P fn h0 R
 |.ret=>Fin P fn h0 R
 |_=>fun _ _ _=>False
theorem fn_of {f:FuncId} {fn:Func} {c:Code} {args:List Value} {bx:List Ow} {F:List Fct} {R:RPost} (e0:Env) (n:Nat) (hf:P.funcs[f]?=some fn) (hb:fn.body=some c) (hn:fn.ntmps=n)
  (hname:(fn.name == "runtime.NumGoroutine")=false) (hargs:Nat.ble args.length n=true) (he:Sub e0 (parEnv 0 args))
  (h:∀ h0,WC P n c e0 bx (ge h0::F) (retQ P fn h0 R)):FnB P f args bx F R:=by
 refine⟨⟨fn,hf,hname,by rw[hb];rfl⟩,fun fr w ho=>calls_of_wp hf hb ?_⟩
 have hargs':args.length≤n:=Nat.le_of_ble_eq_true hargs
 have hk:Kn n {tmps:=args.toArray++Array.replicate (fn.ntmps - args.toArray.size) undef,defers:=[]} e0:=by
  refine Kn.sub (e:=parEnv 0 args) ⟨by simp[hn];omega,rfl,fun k v hk=>?_⟩ he
  obtain⟨_,h2⟩:=look_parEnv _ _ _ _ hk
  simp at h2
  rw[Array.getElem?_append_left (by simpa using (List.getElem?_eq_some_iff.1 h2).1)]
  simpa using h2
 refine wp_mono (h (imm fr bx w.heap) fr w _ w hk (Rest.refl w) (ho.add (f:=ge _) (PH.le.refl _))) fun ex a' w' hq=>?_
 have fin:∀ e b G,Kn n a' e→Rest w w'→OK fr b G w'→Fin P fn (imm fr bx w.heap) R e b G→a'.defers=[]∧∃ v,(results fn a'.tmps).run P w'=.ok v w'∧
   ∃ v' bx' F',Ending.returned v=.returned v'∧R v' bx' F'∧Rest w w'∧(imm fr bx w.heap).le (imm fr bx' w'.heap)∧OK fr bx' F' w':=by
  rintro e b G h1 h2 h3 ⟨v,bx',F',h4,h5,h6,h7,h8⟩
  have hd:=h3.drop h5
  have:OK fr bx' F' w':=⟨hd.frame,hd.apart,hd.nodup,hd.owns,fun f hf=>hd.has (h6 f hf)⟩
  exact⟨h1.defers,v,h4 n fr a' w' h1 h3,v,bx',F',rfl,h8,h2,hd.facts _ h7,this⟩
 cases ex <;> simp only[post] at hq
 ·obtain⟨e,b,G,h1,h2,h3,h4⟩:=hq;exact fin e b G h1 h2 h3 h4
 ·obtain⟨e,b,G,h1,h2,h3,h4⟩:=hq;exact h4.elim
 ·obtain⟨e,b,G,h1,h2,h3,h4⟩:=hq;exact fin e b G h1 h2 h3 h4
theorem ResE.t1 {fn:Func} {e:Env} {bx:List Ow} {F:List Fct} {v:Value} {t:Tmp} (h:fn.results=#[.tmp t]) (hl:look e t=some v):ResE P fn e bx F v:=fun n fr a w hk _=>by
 rw[results_tmp h,Array.getD_eq_getD_getElem?,hk.at' _ _ hl];rfl
theorem ResE.t0 {fn:Func} {e:Env} {bx:List Ow} {F:List Fct} (h:fn.results=#[]):ResE P fn e bx F (.tuple #[]):=fun n fr a w _ _=>results_none h _ _ _
theorem ResE.t2 {fn:Func} {e:Env} {bx:List Ow} {F:List Fct} {v u:Value} {t s:Tmp} (h:fn.results=#[.tmp t,.tmp s]) (hl:look e t=some v) (hl2:look e s=some u):ResE P fn e bx F (.tuple #[v,u]):=fun n fr a w hk _=>by
 rw[results_tmp2 h,Array.getD_eq_getD_getElem?,hk.at' _ _ hl,Array.getD_eq_getD_getElem?,hk.at' _ _ hl2];rfl
theorem ResE.t3 {fn:Func} {e:Env} {bx:List Ow} {F:List Fct} {v u x:Value} {t s r:Tmp} (h:fn.results=#[.tmp t,.tmp s,.tmp r]) (hl:look e t=some v) (hl2:look e s=some u) (hl3:look e r=some x):ResE P fn e bx F (.tuple #[v,u,x]):=fun n fr a w hk _=>by
 rw[results_tmp3 h,Array.getD_eq_getD_getElem?,hk.at' _ _ hl,Array.getD_eq_getD_getElem?,hk.at' _ _ hl2,Array.getD_eq_getD_getElem?,hk.at' _ _ hl3];rfl
theorem ResE.t4 {fn:Func} {e:Env} {bx:List Ow} {F:List Fct} {v u x y:Value} {t s r q:Tmp} (h:fn.results=#[.tmp t,.tmp s,.tmp r,.tmp q]) (hl:look e t=some v) (hl2:look e s=some u) (hl3:look e r=some x) (hl4:look e q=some y):ResE P fn e bx F (.tuple #[v,u,x,y]):=fun n fr a w hk _=>by
 have:(results fn a.tmps).run P w=.ok (.tuple #[a.tmps.getD t undef,a.tmps.getD s undef,a.tmps.getD r undef,a.tmps.getD q undef]) w:=by simp[results,h]
 rw[this,Array.getD_eq_getD_getElem?,hk.at' _ _ hl,Array.getD_eq_getD_getElem?,hk.at' _ _ hl2,Array.getD_eq_getD_getElem?,hk.at' _ _ hl3,Array.getD_eq_getD_getElem?,hk.at' _ _ hl4];rfl
inductive Evs (e:Env):List Operand→List Value→Prop where
 |nil:Evs e [] []
 |cons {x:Operand} {v:Value} {xs:List Operand} {vs:List Value}:ev e x=some v→Evs e xs vs→Evs e (x::xs) (v::vs)
theorem Evs.map {e:Env} {n:Nat} {a:Act} (hk:Kn n a e) {xs:List Operand} {vs:List Value} (h:Evs e xs vs):xs.map a.eval=vs:=by
 induction h with
 |nil=>rfl
 |cons h1 _ ih=>rw[List.map_cons,hk.eval h1,ih]
theorem imm_frame {fr:PH} {bx:List Ow} {F:List Fct} {w:World} (h:OK fr bx F w) (ba br:List Ow) (hp:bx.Perm (ba++br)) :
  ∃ fr',OK fr' ba F w∧imm fr' ba w.heap=imm fr bx w.heap∧∀ bx' F' w',Rest w w'→(imm fr' ba w.heap).le (imm fr' bx' w'.heap)→OK fr' bx' F' w'→OK fr (bx'++br) (F'++F) w':=by
 have h:=h.perm hp
 have him:imm fr bx w.heap=imm fr (ba++br) w.heap:=by
  have hi:(ids bx).Perm (ids (ba++br)):=hp.flatMap_right _
  funext k;unfold imm
  have:(ids bx).contains k=(ids (ba++br)).contains k:=by rw[Bool.eq_iff_iff];simp[hi.mem_iff]
  rw[this]
 have hap:=h.apart
 have hnd:=h.nodup
 simp only[ids,List.flatMap_append] at hap hnd
 have hlt:∀ k∈ids br,k < w.heap.size:=fun k hk=>by obtain⟨b,hb,hkb⟩:=mem_ids.1 hk;exact Ow.lt (h.owns b (by simp[hb])) k hkb
 let fr':PH:=fun k=>if k∈ids br then w.heap[k]? else fr k
 have hfr':∀ k,(fr' k).isSome=((fr k).isSome ||(ids br).contains k):=fun k=>by
  simp only[fr']
  by_cases hk:k∈ids br
  ·rw[if_pos hk];simp[hk,hlt k hk]
  ·rw[if_neg hk];simp[hk]
 have himm:∀ ba' (H:Array Obj),imm fr' ba' H=imm fr (ba'++br) H:=fun ba' H=>by
  funext k;unfold imm
  rw[hfr']
  have:(ids (ba'++br)).contains k=((ids ba').contains k ||(ids br).contains k):=by rw[Bool.eq_iff_iff];simp[ids]
  rw[this]
  cases(fr k).isSome <;> cases(ids br).contains k <;> cases(ids ba').contains k <;> rfl
 refine⟨fr',⟨?_,?_,?_,fun b hb=>h.owns b (by simp[hb]),?_⟩,?_,?_⟩
 ·intro k o hk
  simp only[fr'] at hk
  split at hk
  ·exact hk
  ·exact h.frame k o hk
 ·intro k hk
  simp only[fr']
  rw[if_neg (show k∉ids br from fun h2=>(List.nodup_append.1 hnd).2.2 k hk k h2 rfl)]
  exact hap k (List.mem_append.2 (.inl hk))
 ·exact(List.nodup_append.1 hnd).1
 ·intro f hf;rw[himm];exact h.facts f hf
 ·rw[himm,him]
 ·intro bx' F' w' hr hle ho
  have hapn:∀ k∈ids bx',fr k=none∧k∉ids br:=fun k hk=>by
   have:=ho.apart k hk
   simp only[fr'] at this
   by_cases hkr:k∈ids br
   ·rw[if_pos hkr] at this
    have:=hlt k hkr
    simp_all
   ·rw[if_neg hkr] at this;exact⟨this,hkr⟩
  refine⟨fun k o hk=>?_,fun k hk=>?_,?_,fun b hb=>?_,fun f hf=>?_⟩
  ·refine ho.frame k o ?_
   simp only[fr']
   rw[if_neg (fun h2=>by have:=hap k (List.mem_append.2 (.inr h2));rw[hk] at this;cases this)];exact hk
  ·simp only[ids,List.flatMap_append,List.mem_append] at hk
   rcases hk with hk|hk
   ·exact(hapn k hk).1
   ·exact hap k (List.mem_append.2 (.inr hk))
  ·simp only[ids,List.flatMap_append]
   exact List.nodup_append.2 ⟨ho.nodup,(List.nodup_append.1 hnd).2.1,fun k h1 k' h2 he=>(hapn k h1).2 (he ▸ h2)⟩
  ·rcases List.mem_append.1 hb with hb|hb
   ·exact ho.owns b hb
   ·refine Ow.holds_congr (h.owns b (by simp[hb])) fun k hk=>?_
    have hkb:k∈ids br:=mem_ids.2 ⟨b,hb,hk⟩
    have hlk:=hlt k hkb
    have hs:w.heap[k]?=some w.heap[k]:=Array.getElem?_eq_getElem hlk
    rw[hs]
    exact ho.frame k _ (by simp only[fr'];rw[if_pos hkb];exact hs)
  ·rw[←himm]
   rcases List.mem_append.1 hf with hf|hf
   ·exact ho.facts f hf
   ·exact f.mono _ _ hle (by rw[himm];exact h.facts f hf)
theorem upon_call {f:FuncId} {args:Array Operand} {ats:Array TypeId} {o:Oper} {a:Act} {w:World} {x:Operand} {first cap:Array Value} {next:Act→World→Prop} {Q':Exit→Act→World→Prop}
  (hc:Callable P f) (hop:o.op=.call {callee:=.value x,args:=args,argTypes:=ats}) (hx:a.eval x=.func (.func f) first cap) {vs:List Value} (hv:(first++args.map a.eval)++cap=vs.toArray)
  (h:Calls P f vs.toArray w fun
   |.returned v,w''=>next (a.put o.dst v) w''
   |.panicked chain,w''=>Q' (.panic chain) a w''
   |.outgrown,_=>LetsOut Q'):o.upon P a next Q' ((execOp a.eval o).run P w):=by
 obtain⟨fn,h1,h2,h3⟩:=hc
 have:(execOp a.eval o).run P w=.ok (.enter f vs.toArray) w:=by
  have h2':¬fn.name= "runtime.NumGoroutine":=by simpa using h2
  have h3':¬fn.body=none:=by cases hb:fn.body <;> simp_all
  simp[execOp,hop,resolve,hx,Deferred.ofValue,invoke,callFunc,hv,program,Sem.run,h1,h2',h3']
 rw[this]
 exact h
theorem LO.call {f:FuncId} {x:Operand} {args:List Operand} {ats:Array TypeId} {ty:TypeId} {e:Env} {bx:List Ow} {F:List Fct} {K:RPost} {first cap:List Value}
  (hx:ev e x=some (.func (.func f) first.toArray cap.toArray)) {vs:List Value} (hv:Evs e args vs) (ba br:List Ow) (hp:bx.Perm (ba++br)) {F':List Fct} {R:RPost} (hf:FnB P f (first++vs++cap) ba F' R)
  (hF:∀ g∈F',Has F g) (hK:∀ v b G,R v b G→K v (b++br) (G++F)):LO P (.call {callee:=.value x,args:=args.toArray,argTypes:=ats}) ty e bx F K:=fun n fr a w o next Q' hop _ hk ho hnext=>by
 obtain⟨fr',h1,h2,h3⟩:=imm_frame ho ba br hp
 refine upon_call hf.1 hop (hk.eval hx) (vs:=first++vs++cap) (by rw[←hv.map hk];simp) ?_
 have h1':OK fr' ba F' w:=⟨h1.frame,h1.apart,h1.nodup,h1.owns,fun g hg=>h1.has (hF g hg)⟩
 refine(hf.2 fr' w h1').mono fun e' w' ⟨v,b,G,he,hR,hr,hle,hok⟩=>?_
 subst he
 exact hnext v w' _ _ hr (h3 b G w' hr hle hok) (hK v b G hR)
end W
end Go.Proofs.YtaongbhamadlkaaGreat
namespace Go.Proofs.YtaongbhamadlkaaGreat
open Go.RowKit
namespace W
variable {P:Program} {e:Env} {bx:List Ow} {F:List Fct} {ty:TypeId}
theorem YO.of {op:Op} {v:Value} (h:∀ n fr a w (o:Oper),o.op=op→Kn n a e→OK fr bx F w→(execOp a.eval o).run P w=.ok (.value v) w):YO P op ty e bx F v:=
 fun n fr a w o h1 _ h3 h4=>h n fr a w o h1 h3 h4
theorem YO.move {x:Operand} {v:Value} (hx:ev e x=some v):YO P (.move x) ty e bx F v:=.of fun n fr a w o hop hk _=>by simp[execOp,hop,hk.eval hx]
theorem YO.assign {x:Operand} {v:Value} (hx:ev e x=some v):YO P (.assign x) ty e bx F v:=.of fun n fr a w o hop hk _=>by simp[execOp,hop,hk.eval hx]
theorem YO.pick_t {c x y:Operand} {v:Value} (hc:ev e c=some (.bool true)) (hx:ev e x=some v):YO P (.pick c x y) ty e bx F v:=
 .of fun n fr a w o hop hk _=>by simp[execOp,hop,hk.eval hx,hk.eval hc,asBool]
theorem YO.pick_f {c x y:Operand} {v:Value} (hc:ev e c=some (.bool false)) (hy:ev e y=some v):YO P (.pick c x y) ty e bx F v:=
 .of fun n fr a w o hop hk _=>by simp[execOp,hop,hk.eval hy,hk.eval hc,asBool]
theorem YO.ii {op:BinOp} {t t':TypeId} {x y:Operand} {k:IntKind} {i j:Int} {v:Value} (hx:ev e x=some (.int k i)) (hy:ev e y=some (.int k j))
  (hr:∀ w,(binOp op t (.int k i) (.int k j)).run P w=.ok v w):YO P (.binOp op t x y t') ty e bx F v:=
 .of fun n fr a w o hop hk _=>by
  have he:∀ w,(eqGuard op t x y (.int k i) (.int k j)).run P w=.ok () w:=fun w=>by
   unfold eqGuard
   cases op <;> simp[Sem.run_pure]
  simp[execOp,hop,hk.eval hx,hk.eval hy,he,hr]
theorem run_add {t:TypeId} {k:IntKind} {i j:Int} (w:World):(binOp .add t (.int k i) (.int k j)).run P w=.ok (.int k (k.wrap (i+j))) w:=by simp[binOp,Op.intArith]
theorem run_sub {t:TypeId} {k:IntKind} {i j:Int} (w:World):(binOp .sub t (.int k i) (.int k j)).run P w=.ok (.int k (k.wrap (i - j))) w:=by simp[binOp,Op.intArith]
theorem run_mul {t:TypeId} {k:IntKind} {i j:Int} (w:World):(binOp .mul t (.int k i) (.int k j)).run P w=.ok (.int k (k.wrap (i*j))) w:=by simp[binOp,Op.intArith]
theorem wrap_i64 {n:Int} (h:-9223372036854775808≤n) (h2:n≤9223372036854775807):IntKind.i64.wrap n=n:=by
 exact IntWalk.i64_in _ ⟨by omega,by omega⟩
theorem wrap_u64 {n:Int} (h:0≤n) (h2:n≤18446744073709551615):IntKind.u64.wrap n=n:=by
 simp only[IntKind.wrap,IntKind.bits,IntKind.signed,Bool.false_and]
 simp;omega
section arith
variable {t t':TypeId} {x y:Operand} {i j:Int}
theorem YO.add (hx:ev e x=some (.int .i64 i)) (hy:ev e y=some (.int .i64 j)) (h1:-9223372036854775808≤i+j) (h2:i+j≤9223372036854775807):YO P (.binOp .add t x y t') ty e bx F (.int .i64 (i+j)):=
 YO.ii hx hy fun w=>by rw[run_add,wrap_i64 h1 h2]
theorem YO.inc {k m:Nat} (hx:ev e x=some (.int .i64 (k:Int))) (hy:ev e y=some (.int .i64 (m:Int))) (h2:k+m≤9223372036854775807):YO P (.binOp .add t x y t') ty e bx F (.int .i64 ((k+m:Nat):Int)):=
 YO.ii hx hy fun w=>by rw[run_add,wrap_i64 (by omega) (by omega)];simp
theorem YO.sub (hx:ev e x=some (.int .i64 i)) (hy:ev e y=some (.int .i64 j)) (h1:-9223372036854775808≤i - j) (h2:i - j≤9223372036854775807):YO P (.binOp .sub t x y t') ty e bx F (.int .i64 (i - j)):=
 YO.ii hx hy fun w=>by rw[run_sub,wrap_i64 h1 h2]
theorem YO.mul (hx:ev e x=some (.int .i64 i)) (hy:ev e y=some (.int .i64 j)) (h1:-9223372036854775808≤i*j) (h2:i*j≤9223372036854775807):YO P (.binOp .mul t x y t') ty e bx F (.int .i64 (i*j)):=
 YO.ii hx hy fun w=>by rw[run_mul,wrap_i64 h1 h2]
theorem YO.quo (hx:ev e x=some (.int .i64 i)) (hy:ev e y=some (.int .i64 j)) (h1:0≤i) (h2:0 < j) (h3:i≤9223372036854775807):YO P (.binOp .quo t x y t') ty e bx F (.int .i64 (i / j)):=
 YO.ii hx hy fun w=>by
  have hj:¬j=0:=by omega
  have h4:i.tdiv j=i / j:=Int.tdiv_eq_ediv_of_nonneg h1
  have h5:i / j≤i:=Int.ediv_le_self _ h1
  have h6:0≤i / j:=Int.ediv_nonneg h1 (by omega)
  simp[binOp,Op.intDiv,hj,h4,wrap_i64 (show -9223372036854775808≤i / j by omega) (by omega)]
theorem YO.rem (hx:ev e x=some (.int .i64 i)) (hy:ev e y=some (.int .i64 j)) (h1:0≤i) (h2:0 < j):YO P (.binOp .rem t x y t') ty e bx F (.int .i64 (i % j)):=
 YO.ii hx hy fun w=>by
  have hj:¬j=0:=by omega
  have h4:i.tmod j=i % j:=Int.tmod_eq_emod_of_nonneg h1
  simp[binOp,Op.intDiv,hj,h4]
theorem YO.tquo (hx:ev e x=some (.int .i64 i)) (hy:ev e y=some (.int .i64 j)) (h2:j≠0):YO P (.binOp .quo t x y t') ty e bx F (.int .i64 (IntKind.i64.wrap (i.tdiv j))):=
 YO.ii hx hy fun w=>by simp[binOp,Op.intDiv,h2]
theorem YO.trem (hx:ev e x=some (.int .i64 i)) (hy:ev e y=some (.int .i64 j)) (h2:j≠0):YO P (.binOp .rem t x y t') ty e bx F (.int .i64 (i.tmod j)):=
 YO.ii hx hy fun w=>by simp[binOp,Op.intDiv,h2]
theorem YO.cmp {op:BinOp} {k:IntKind} {b:Bool} (hx:ev e x=some (.int k i)) (hy:ev e y=some (.int k j))
  (h:(op=.lss∧b=decide (i < j))∨(op=.leq∧b=decide (i≤j))∨(op=.gtr∧b=decide (i > j))∨(op=.geq∧b=decide (i≥j))∨(op=.eql∧b=(i == j))∨(op=.neq∧b=(i != j))):YO P (.binOp op t x y t') ty e bx F (.bool b):=
 YO.ii hx hy fun w=>by rcases h with ⟨rfl,rfl⟩|⟨rfl,rfl⟩|⟨rfl,rfl⟩|⟨rfl,rfl⟩|⟨rfl,rfl⟩|⟨rfl,rfl⟩ <;> simp[binOp,Op.intCmp]
variable {k:IntKind}
theorem YO.lss_t (hx:ev e x=some (.int k i)) (hy:ev e y=some (.int k j)) (h:i < j):YO P (.binOp .lss t x y t') ty e bx F (.bool true):=YO.cmp hx hy (by simp[h])
theorem YO.lss_f (hx:ev e x=some (.int k i)) (hy:ev e y=some (.int k j)) (h:j≤i):YO P (.binOp .lss t x y t') ty e bx F (.bool false):=YO.cmp hx hy (by simp;omega)
theorem YO.leq_t (hx:ev e x=some (.int k i)) (hy:ev e y=some (.int k j)) (h:i≤j):YO P (.binOp .leq t x y t') ty e bx F (.bool true):=YO.cmp hx hy (by simp[h])
theorem YO.leq_f (hx:ev e x=some (.int k i)) (hy:ev e y=some (.int k j)) (h:j < i):YO P (.binOp .leq t x y t') ty e bx F (.bool false):=YO.cmp hx hy (by simp;omega)
theorem YO.gtr_t (hx:ev e x=some (.int k i)) (hy:ev e y=some (.int k j)) (h:j < i):YO P (.binOp .gtr t x y t') ty e bx F (.bool true):=YO.cmp hx hy (by simp[h])
theorem YO.gtr_f (hx:ev e x=some (.int k i)) (hy:ev e y=some (.int k j)) (h:i≤j):YO P (.binOp .gtr t x y t') ty e bx F (.bool false):=YO.cmp hx hy (by simp;omega)
theorem YO.geq_t (hx:ev e x=some (.int k i)) (hy:ev e y=some (.int k j)) (h:j≤i):YO P (.binOp .geq t x y t') ty e bx F (.bool true):=YO.cmp hx hy (by simp[h])
theorem YO.geq_f (hx:ev e x=some (.int k i)) (hy:ev e y=some (.int k j)) (h:i < j):YO P (.binOp .geq t x y t') ty e bx F (.bool false):=YO.cmp hx hy (by simp;omega)
theorem YO.eql_t (hx:ev e x=some (.int k i)) (hy:ev e y=some (.int k j)) (h:i=j):YO P (.binOp .eql t x y t') ty e bx F (.bool true):=YO.cmp hx hy (by simp[h])
theorem YO.eql_f (hx:ev e x=some (.int k i)) (hy:ev e y=some (.int k j)) (h:i≠j):YO P (.binOp .eql t x y t') ty e bx F (.bool false):=YO.cmp hx hy (by simp[h])
theorem YO.neq_t (hx:ev e x=some (.int k i)) (hy:ev e y=some (.int k j)) (h:i≠j):YO P (.binOp .neq t x y t') ty e bx F (.bool true):=YO.cmp hx hy (by simp[h])
theorem YO.neq_f (hx:ev e x=some (.int k i)) (hy:ev e y=some (.int k j)) (h:i=j):YO P (.binOp .neq t x y t') ty e bx F (.bool false):=YO.cmp hx hy (by simp[h])
theorem YO.neg (hx:ev e x=some (.int .i64 i)) (h1:-9223372036854775808≤-i) (h2:-i≤9223372036854775807):YO P (.unOp .neg t x) ty e bx F (.int .i64 (-i)):=
 .of fun n fr a w o hop hk _=>by simp[execOp,hop,hk.eval hx,Op.unary,Op.intArith,wrap_i64 h1 h2]
theorem YO.not {b:Bool} (hx:ev e x=some (.bool b)):YO P (.unOp .not t x) ty e bx F (.bool !b):=
 .of fun n fr a w o hop hk _=>by simp[execOp,hop,hk.eval hx,Op.unary]
theorem YO.not_t (hx:ev e x=some (.bool true)):YO P (.unOp .not t x) ty e bx F (.bool false):=YO.not hx
theorem YO.not_f (hx:ev e x=some (.bool false)):YO P (.unOp .not t x) ty e bx F (.bool true):=YO.not hx
theorem YO.bits {op:BinOp} {v:Value} (hx:ev e x=some (.int k i)) (hy:ev e y=some (.int k j)) (h:∀ w,(binOp op t (.int k i) (.int k j)).run P w=.ok v w):YO P (.binOp op t x y t') ty e bx F v:=YO.ii hx hy h
theorem YO.shl {k':IntKind} (hx:ev e x=some (.int k i)) (hy:ev e y=some (.int k' j)) (h:0≤j):YO P (.binOp .shl t x y t') ty e bx F (.int k (k.wrap (i*2 ^ (min j.toNat k.bits)))):=
 .of fun n fr a w o hop hk _=>by
  have he:∀ w,(eqGuard .shl t x y (.int k i) (.int k' j)).run P w=.ok () w:=fun w=>by unfold eqGuard;simp[Sem.run_pure]
  simp[execOp,hop,hk.eval hx,hk.eval hy,he,binOp,Op.shift,show ¬j < 0 by omega]
theorem YO.shr {k':IntKind} (hx:ev e x=some (.int k i)) (hy:ev e y=some (.int k' j)) (h:0≤j):YO P (.binOp .shr t x y t') ty e bx F (.int k (i.fdiv (2 ^ (min j.toNat k.bits)))):=
 .of fun n fr a w o hop hk _=>by
  have he:∀ w,(eqGuard .shr t x y (.int k i) (.int k' j)).run P w=.ok () w:=fun w=>by unfold eqGuard;simp[Sem.run_pure]
  simp[execOp,hop,hk.eval hx,hk.eval hy,he,binOp,Op.shift,show ¬j < 0 by omega]
end arith
theorem YO.conv {s d:TypeId} {x:Operand} {k k':IntKind} {i:Int} (hd:P.underlying d=some (.int k')) {ds:TypeDesc} (hs:P.underlying s=some ds) (hx:ev e x=some (.int k i)):YO P (.convert s d x) ty e bx F (.int k' (k'.wrap i)):=
 .of fun n fr a w o hop hk _=>by
  simp only[execOp,hop,hk.eval hx,convert,Sem.run_bind,run_underlying hs,run_underlying hd,Result.andThen_ok,Conv.intToInt,Sem.run_pure]
theorem YO.nil {x:Operand} {p:Addr} (hx:ev e x=some (.pointer (some p))):YO P (.nilCheck x) ty e bx F (.pointer (some p)):=
 .of fun n fr a w o hop hk _=>by simp[execOp,hop,hk.eval hx]
theorem YO.extract {x:Operand} {vs:List Value} {v:Value} {i:Nat} (hx:ev e x=some (.tuple vs.toArray)) (hi:vs[i]?=some v):YO P (.extract x i) ty e bx F v:=
 .of fun n fr a w o hop hk _=>by simp[execOp,hop,hk.eval hx,Instr.extract,hi]
theorem YO.makeFunc {fn:Fn} {first cap:List Operand} {vs us:List Value} (h1:Evs e first vs) (h2:Evs e cap us):YO P (.makeFunc fn first.toArray cap.toArray) ty e bx F (.func fn vs.toArray us.toArray):=
 .of fun n fr a w o hop hk _=>by simp[execOp,hop,←h1.map hk,←h2.map hk,Instr.makeFunc]
def FieldAt (P:Program) (s:TypeId) (i off:Nat):Prop:=∃ fs f,P.underlying s=some (.struct fs)∧fs[i]?=some f∧f.offset=off∧∃ ti,P.info? f.type=some ti∧ti.size≠0∧P.cellsOf f.type≠0
theorem run_fieldAt {s i off:Nat} (hf:FieldAt P s i off) (p:Addr) (hp:p.spot=none) (w:World):(Instr.fieldAt s (.pointer (some p)) i).run P w=.ok (.pointer (some ⟨p.block,p.off+off,none⟩)) w:=by
 obtain⟨fs,f,h1,h2,h3,ti,h4,h5,h6⟩:=hf
 obtain⟨b,o,sp⟩:=p
 simp only at hp;subst hp
 simp[Instr.fieldAt,run_underlying h1,h2,Instr.sureAddr,fieldPlace,run_sizeOf w h4,h5,h6,h3,Addr.add_lit]
theorem YO.fieldAddr {s i off:Nat} {x:Operand} {b q:Nat} (hf:FieldAt P s i off) (hx:ev e x=some (.pointer (some ⟨b,q,none⟩))):YO P (.fieldAddr s x i) ty e bx F (.pointer (some ⟨b,q+off,none⟩)):=
 .of fun n fr a w o hop hk _=>by simp[execOp,hop,hk.eval hx,run_fieldAt hf ⟨b,q,none⟩ rfl w]
def eaddr:Value→Nat→Addr
 |.slice (some a) _ _,j=>⟨a.block,a.off+j,none⟩
 |_,j=>⟨0,j,none⟩
theorem eaddr_spot (v:Value) (j:Nat):(eaddr v j).spot=none:=by unfold eaddr;split <;> rfl
theorem eaddr_add (v:Value) (j k:Nat):(⟨(eaddr v j).block,(eaddr v j).off+k,none⟩:Addr)=eaddr v (j+k):=by unfold eaddr;split <;> simp[Nat.add_assoc]
theorem YO.fieldE {s i off:Nat} {x:Operand} {v:Value} {j:Nat} (hf:FieldAt P s i off) (hx:ev e x=some (.pointer (some (eaddr v j)))):YO P (.fieldAddr s x i) ty e bx F (.pointer (some (eaddr v (j+off)))):=
 .of fun n fr a w o hop hk _=>by simp[execOp,hop,hk.eval hx,run_fieldAt hf _ (eaddr_spot v j) w,eaddr_add]
def slC (v:Value) (n sz:Nat) (f:Nat→Value):Fct where
 p h:=∃ a cap,v=.slice a n cap∧n≤cap∧cap≤maxLen∧((a=none∧n=0∧cap=0)∨∃ b off,a=some ⟨b,off,none⟩∧∃ c t fz,h b=some (.cells c t fz)∧∀ j,j < n*sz→c[off+j]?=some (f j))
 mono h h' hl:=by
  rintro⟨a,cap,h1,h2,h3,h4|⟨b,off,h4,c,t,fz,h5,h6⟩⟩
  ·exact⟨a,cap,h1,h2,h3,.inl h4⟩
  ·exact⟨a,cap,h1,h2,h3,.inr ⟨b,off,h4,c,t,fz,hl _ _ h5,h6⟩⟩
structure IsSl (v:Value) (n:Nat):Prop where
 is:∃ a cap,v=.slice a n cap∧n≤cap∧cap≤maxLen∧((a=none∧n=0∧cap=0)∨∃ b off,a=some ⟨b,off,none⟩)
theorem slC_is {v:Value} {n sz:Nat} {f:Nat→Value} {h:PH} (hp:(slC v n sz f).p h):IsSl v n:=by
 obtain⟨a,cap,h1,h2,h3,h4|⟨b,off,h4,_⟩⟩:=hp
 ·exact⟨a,cap,h1,h2,h3,.inl h4⟩
 ·exact⟨a,cap,h1,h2,h3,.inr ⟨b,off,h4⟩⟩
def KnS (bx:List Ow) (F:List Fct) (v:Value) (n:Nat):Prop:=∀ fr w,OK fr bx F w→IsSl v n
theorem KnS.of {f:Fct} {v:Value} {n:Nat} (h:Has F f) (hf:∀ h,f.p h→IsSl v n):KnS bx F v n:=fun _ _ ho=>hf _ (ho.has h)
def SliceT (P:Program) (t el sz:Nat):Prop:=P.underlying t=some (.slice el)∧∃ i,P.info? el=some i∧i.size=sz
theorem SliceT.mk {t el sz:Nat} {i:TypeInfo} (h:P.underlying t=some (.slice el)) (hi:(P.info? el)=some i) (hs:i.size=sz):SliceT P t el sz:=⟨h,i,hi,hs⟩
theorem YO.len {t el sz n:Nat} {x:Operand} {v:Value} (ht:SliceT P t el sz) (hx:ev e x=some v) (hv:KnS bx F v n):YO P (.call {callee:=.builtin .len,args:=#[x],argTypes:=#[t]}) ty e bx F (.int .i64 n):=
 .of fun m fr a w o hop hk ho=>by
  obtain⟨a',cap,rfl,h2,h3,_⟩:=(hv fr w ho).is
  have:IntKind.i64.wrap (n:Int)=n:=wrap_i64 (by omega) (by unfold maxLen at h3;omega)
  simp[execOp,hop,resolve,hk.eval hx,invoke,builtin,Builtin.len_,run_underlying ht.1,goInt,this]
theorem YO.ix {t el sz n:Nat} {x y:Operand} {v:Value} {k:Nat} (ht:SliceT P t el sz) (hx:ev e x=some v) (hy:ev e y=some (.int .i64 (k:Int))) (hv:KnS bx F v n) (hk':k < n) :
  YO P (.indexAddr t x y) ty e bx F (.pointer (some (eaddr v (k*sz)))):=
 .of fun m fr a w o hop hk ho=>by
  obtain⟨hu,i,hi,hsz⟩:=ht
  obtain⟨a',cap,rfl,h2,h3,⟨rfl,h4,_⟩|⟨b,off,rfl⟩⟩:=(hv fr w ho).is
  ·omega
  ·have hz:(0:Int)≤(k:Int)∧(k:Int) < (n:Int):=by omega
   have hc:P.cellsOf el=sz:=by simp[Program.cellsOf,hi,hsz]
   simp[execOp,hop,hk.eval hx,hk.eval hy,Instr.indexAt,asIntOf,run_underlying hu,hz,run_sizeOf w hi,hsz,eaddr,Addr.add_lit,hk',hc]
def Scalar (P:Program) (t:TypeId):Prop:=∃ d,P.underlying t=some d∧d.isRow=false
theorem run_ld {t:TypeId} {w:World} {b o:Nat} {v:Value} (hs:Scalar P t) (hc:w.cell? ⟨b,o,none⟩=some v):(loadVar t ⟨b,o,none⟩).run P w=.ok v w:=by
 obtain⟨d,hu,hd⟩:=hs
 have:(isAgg t).run P w=.ok false w:=by
  cases d <;> simp[TypeDesc.isRow] at hd <;> simp[isAgg,run_underlying hu]
 simp[loadVar,this,hc]
theorem YO.ld {t:TypeId} {x:Operand} {p:Addr} {v:Value} (hs:Scalar P t) (hx:ev e x=some (.pointer (some p))) (hp:p.spot=none) (hc:∀ fr w,OK fr bx F w→w.cell? ⟨p.block,p.off,none⟩=some v):YO P (.load t x) ty e bx F v:=
 .of fun m fr a w o hop hk ho=>by
  obtain⟨b,q,sp⟩:=p
  simp only at hp;subst hp
  simp[execOp,hop,hk.eval hx,Instr.loadAt,Instr.sureAddr,run_ld hs (hc fr w ho)]
theorem imm_heap {fr:PH} {H:Array Obj} {k:Nat} {o:Obj} (h:imm fr bx H k=some o):H[k]?=some o:=by
 unfold imm at h;split at h
 ·cases h
 ·exact h
theorem slC_cell {w:World} {fr:PH} {v:Value} {n sz:Nat} {f:Nat→Value} (h:(slC v n sz f).p (imm fr bx w.heap)) {j:Nat} (hj:j < n*sz):w.cell? ⟨(eaddr v j).block,(eaddr v j).off,none⟩=some (f j):=by
 obtain⟨a,cap,rfl,h2,h3,⟨rfl,h4,_⟩|⟨b,off,rfl,c,t,fz,h5,h6⟩⟩:=h
 ·subst h4;simp at hj
 ·simp[eaddr,World.cell?,imm_heap h5,h6 j hj]
theorem YO.ldS {t:TypeId} {x:Operand} {v:Value} {j n sz:Nat} {f:Nat→Value} (hs:Scalar P t) (hx:ev e x=some (.pointer (some (eaddr v j)))) (hf:Has F (slC v n sz f)) (hj:j < n*sz):YO P (.load t x) ty e bx F (f j):=
 YO.ld hs hx (eaddr_spot _ _) fun fr w ho=>slC_cell (ho.has hf) hj
theorem own_cell {w:World} {g:Nat} {t:TypeId} {cs:List Value} (h:(Ow.cells g t cs).holds w.heap) {q:Nat}:w.cell? ⟨g,q,none⟩=cs[q]?:=by
 simp only[Ow.holds] at h;simp[World.cell?,h]
theorem YO.ldB {t tg:TypeId} {x:Operand} {g q:Nat} {cs:List Value} {v:Value} (hs:Scalar P t) (hx:ev e x=some (.pointer (some ⟨g,q,none⟩))) (hb:Ow.cells g tg cs∈bx) (hv:cs[q]?=some v):YO P (.load t x) ty e bx F v:=
 YO.ld hs hx rfl fun fr w ho=>by rw[own_cell (ho.owns _ hb)];exact hv
theorem own_slice_cell {w:World} {v:Value} {el sz:Nat} {cs:List Value} (h:(Ow.slice v el sz cs).holds w.heap) {j:Nat} {u:Value} (hu:cs[j]?=some u):w.cell? ⟨(eaddr v j).block,(eaddr v j).off,none⟩=some u:=by
 obtain⟨n,h1,⟨rfl,h2⟩|⟨g,cap,sp,rfl,h3,h4,h5,h6⟩⟩:=h
 ·subst h2;simp at h1;subst h1;simp at hu
 ·have hj:j < cs.length:=(List.getElem?_eq_some_iff.1 hu).1
  simp only[eaddr,World.cell?,h5,Nat.zero_add]
  simp[List.getElem?_append_left hj,hu]
theorem YO.ldO {t el sz:TypeId} {x:Operand} {v:Value} {j:Nat} {cs:List Value} {u:Value} (hs:Scalar P t) (hx:ev e x=some (.pointer (some (eaddr v j)))) (hb:Ow.slice v el sz cs∈bx) (hu:cs[j]?=some u):YO P (.load t x) ty e bx F u:=
 YO.ld hs hx (eaddr_spot _ _) fun fr w ho=>own_slice_cell (ho.owns _ hb) hu
def Row (P:Program) (t:TypeId) (m:Nat):Prop:=(∃ d,P.underlying t=some d∧d.isRow=true)∧(P.info? t).map (·.size)=some m
theorem YO.ldRow {t:TypeId} {x:Operand} {p:Addr} {cs:List Value} (hs:Row P t cs.length) (hx:ev e x=some (.pointer (some p))) (hp:p.spot=none) (hc:∀ fr w,OK fr bx F w→∀ i v,cs[i]?=some v→w.cell? ⟨p.block,p.off+i,none⟩=some v):YO P (.load t x) ty e bx F (.agg cs.toArray):=
 .of fun m fr a w o hop hk ho=>by
  obtain⟨b,q,sp⟩:=p
  simp only at hp;subst hp
  obtain⟨⟨d,hu,hd⟩,hi⟩:=hs
  have:=run_loadVar_mid (P:=P) w b q t cs d (fun i v hv=>hc fr w ho i v hv) hu hd hi
  simp[execOp,hop,hk.eval hx,Instr.loadAt,Instr.sureAddr,this]
theorem YO.ldRB {t tg:TypeId} {x:Operand} {g q m:Nat} {cs us:List Value} (hs:Row P t m) (hx:ev e x=some (.pointer (some ⟨g,q,none⟩))) (hb:Ow.cells g tg cs∈bx) (hm:us.length=m) (hu:(cs.drop q).take m=us):YO P (.load t x) ty e bx F (.agg us.toArray):=
 YO.ldRow (by rw[hm];exact hs) hx rfl fun fr w ho i v hv=>by
  rw[own_cell (ho.owns _ hb)]
  subst hu
  rw[List.getElem?_take] at hv
  split at hv
  ·simpa using hv
  ·cases hv
theorem YO.ldRS {t:TypeId} {x:Operand} {v:Value} {j n sz m:Nat} {f:Nat→Value} {us:List Value} (hs:Row P t m) (hx:ev e x=some (.pointer (some (eaddr v j)))) (hf:Has F (slC v n sz f)) (hj:j+m≤n*sz) (hm:us.length=m) (hu:∀ i,i < m→us[i]?=some (f (j+i))):YO P (.load t x) ty e bx F (.agg us.toArray):=
 YO.ldRow (by rw[hm];exact hs) hx (eaddr_spot _ _) fun fr w ho i u hv=>by
  have hi:i < m:=by rw[←hm];exact(List.getElem?_eq_some_iff.1 hv).1
  rw[hu i hi] at hv;cases hv
  have:=slC_cell (ho.has hf) (show j+i < n*sz by omega)
  rw[←eaddr_add] at this;exact this
end W
end Go.Proofs.YtaongbhamadlkaaGreat
namespace Go.Proofs.YtaongbhamadlkaaGreat
open Go.RowKit
namespace W
variable {P:Program} {e:Env} {bx:List Ow} {F:List Fct} {ty:TypeId}
theorem LO.of {op:Op} {K:RPost} (h:∀ n fr a w (o:Oper),o.op=op→Kn n a e→OK fr bx F w→
  ∃ v w' bx' F',((execOp a.eval o).run P w=.ok (.value v) w'∨((execOp a.eval o).run P w=.ok .skip w'∧v=undef))∧Rest w w'∧OK fr bx' F' w'∧K v bx' F'):LO P op ty e bx F K:=
 fun n fr a w o next Q' h1 _ h3 h4 h5=>by
  obtain⟨v,w',bx',F',hr,h6,h7,h8⟩:=h n fr a w o h1 h3 h4
  rcases hr with hr|⟨hr,rfl⟩
  ·rw[hr];exact h5 v w' bx' F' h6 h7 h8
  ·rw[hr];exact h5 undef w' bx' F' h6 h7 h8
theorem OK.alloc {fr:PH} {w:World} (h:OK fr bx F w) (nb:Ow) (o:Obj) (hn:nb.ids=[w.heap.size]) (ho:nb.holds (w.alloc o).heap):OK fr (nb::bx) F (w.alloc o):=by
 have:=OK.step (ob:=[]) (nb:=[nb]) (w':=w.alloc o) (by simpa using h) (fun k hk _=>heap_alloc_old w o hk) (fun k hk=>by simp[ids,hn] at hk;omega) (by simp[ids,hn]) (by simpa using ho)
 simpa using this
theorem LO.alloc {el:TypeId} {K:RPost} {i:TypeInfo} {z:Value} {cs:List Value} (hi:P.info? el=some i) (hz:i.zero=some z) (hc:z.cells.toList=cs)
  (h:∀ g,K (.pointer (some ⟨g,0,none⟩)) (Ow.cells g el cs::bx) F):LO P (.alloc el) ty e bx F K:=.of fun n fr a w o hop hk ho=>by
 subst hc
 refine⟨_,w.alloc (.cells z.cells el),_,F,.inl ?_,⟨rfl,rfl,rfl⟩,ho.alloc (.cells w.heap.size el z.cells.toList) _ rfl ?_,h w.heap.size⟩
 ·simp[execOp,hop,Instr.alloc,zeroValue,typeInfo,hi,hz,newVar,newRow]
 ·simp only[Ow.holds];simpa using heap_alloc_new w (.cells z.cells el)
theorem LO.box {el:TypeId} {x:Operand} {K:RPost} {v:Value} {cs:List Value} (hx:ev e x=some v) (hc:v.cells.toList=cs) (h:∀ g,K (.pointer (some ⟨g,0,none⟩)) (Ow.cells g el cs::bx) F):LO P (.box el x) ty e bx F K:=.of fun n fr a w o hop hk ho=>by
 subst hc
 refine⟨_,w.alloc (.cells v.cells el),_,F,.inl ?_,⟨rfl,rfl,rfl⟩,ho.alloc (.cells w.heap.size el v.cells.toList) _ rfl ?_,h w.heap.size⟩
 ·simp[execOp,hop,hk.eval hx,Instr.box,newVar,newRow]
 ·simp only[Ow.holds];simpa using heap_alloc_new w (.cells v.cells el)
inductive Sel:List Ow→Ow→Ow→List Ow→Prop where
 |head {b b':Ow} {l:List Ow}:Sel (b::l) b b' (b'::l)
 |tail {c b b':Ow} {l l':List Ow}:Sel l b b' l'→Sel (c::l) b b' (c::l')
theorem Sel.split {l l':List Ow} {b b':Ow} (h:Sel l b b' l'):∃ r,l.Perm (b::r)∧l'.Perm (b'::r):=by
 induction h with
 |head=>exact⟨_,.refl _,.refl _⟩
 |tail _ ih=>
  obtain⟨r,h1,h2⟩:=ih
  exact⟨_,(h1.cons _).trans (.swap _ _ _),(h2.cons _).trans (.swap _ _ _)⟩
theorem Sel.mem {l l':List Ow} {b b':Ow} (h:Sel l b b' l'):b∈l:=by
 obtain⟨r,h1,_⟩:=h.split;exact h1.mem_iff.2 (by simp)
theorem OK.sel {fr:PH} {w w':World} {b b':Ow} {bx':List Ow} (h:OK fr bx F w) (hs:Sel bx b b' bx') (hk:∀ k,k < w.heap.size→k∉b.ids→w'.heap[k]?=w.heap[k]?)
  (hn:∀ k∈b'.ids,k∈b.ids∨w.heap.size≤k) (hd:b'.ids.Nodup) (ho:b'.holds w'.heap):OK fr bx' F w':=by
 obtain⟨r,h1,h2⟩:=hs.split
 refine OK.perm (bx:=b'::r) ?_ h2.symm
 exact OK.step (ob:=[b]) (nb:=[b']) (bx:=r) (h.perm h1) (fun k hk1 hk2=>hk k hk1 (by simpa [ids] using hk2)) (fun k hk1=>by simpa [ids] using hn k (by simpa [ids] using hk1)) (by simpa [ids] using hd) (by simpa using ho)
def setMany (cs:List Value) (q:Nat) (vs:List Value):List Value:=cs.take q++vs++cs.drop (q+vs.length)
theorem LO.store {t tg:TypeId} {x y:Operand} {K:RPost} {g q:Nat} {cs cs' vs:List Value} {v:Value} {bx':List Ow} (hx:ev e x=some (.pointer (some ⟨g,q,none⟩))) (hy:ev e y=some v)
  (hvs:v.cells.toList=vs) (hsz:(P.info? t).map (·.size)=some vs.length) (h1:∀ u∈vs,u.oneCell'=true) (hs:Sel bx (.cells g tg cs) (.cells g tg cs') bx') (hfit:q+vs.length≤cs.length) (hcs:setMany cs q vs=cs')
  (h:K undef bx' F):LO P (.store t x y) ty e bx F K:=.of fun n fr a w o hop hk ho=>by
 subst hcs
 have hb:=ho.owns _ hs.mem
 simp only[Ow.holds] at hb
 obtain⟨i,hi,hisz⟩:=Option.map_eq_some_iff.1 hsz
 have hst:=run_storeCells_at P g q tg vs 0 cs.toArray w hb (by simpa using hfit) h1
 have hc:P.cellsOf t=vs.length:=by simp[Program.cellsOf,hi,hisz]
 have hvc:v.cells.size=vs.length:=by rw[←hvs];simp
 refine⟨undef,w.setRow g (setMany cs q vs).toArray,bx',F,.inr ⟨?_,rfl⟩,⟨rfl,rfl,rfl⟩,ho.sel hs ?_ ?_ ?_ ?_,h⟩
 ·simp[execOp,hop,hk.eval hx,hk.eval hy,Instr.storeAt,Instr.sureAddr,storeVar,run_sizeOf w hi,hisz,hvc,hvs,hc,hst,setMany]
 ·intro k _ hk2;exact setRow_other w g k _ (by simpa [Ow.ids] using hk2)
 ·intro k hk1;exact .inl hk1
 ·simp[Ow.ids]
 ·simp only[Ow.holds];exact setRow_heap w g _ _ tg (0,0) hb
theorem LO.storeO {t el sz:TypeId} {x y:Operand} {K:RPost} {v u:Value} {j:Nat} {cs cs':List Value} {bx':List Ow} (hx:ev e x=some (.pointer (some (eaddr v j)))) (hy:ev e y=some u)
  (hsz:(P.info? t).map (·.size)=some 1) (hu:u.cells=#[u]) (h1:u.oneCell'=true) (hs:Sel bx (.slice v el sz cs) (.slice v el sz cs') bx') (hj:j < cs.length) (hcs:cs.set j u=cs')
  (h:K undef bx' F):LO P (.store t x y) ty e bx F K:=.of fun n fr a w o hop hk ho=>by
 subst hcs
 obtain⟨m,h2,⟨rfl,h3⟩|⟨g,cap,sp,rfl,h3,h4,h5,h6⟩⟩:=ho.owns _ hs.mem
 ·subst h3;simp at h2;subst h2;simp at hj
 ·obtain⟨i,hi,hisz⟩:=Option.map_eq_some_iff.1 hsz
  have hst:=run_storeCells_at P g j el [u] 0 (cs++sp).toArray w h5 (by simp;omega) (by simpa using h1)
  have hc:P.cellsOf t=1:=by simp[Program.cellsOf,hi,hisz]
  have heq:(List.take j (cs++sp)++[u]++List.drop (j+1) (cs++sp))=cs.set j u++sp:=by
   rw[List.set_eq_take_append_cons_drop,if_pos hj,List.take_append_of_le_length (by omega),List.drop_append_of_le_length (by omega)];simp
  refine⟨undef,w.setRow g (cs.set j u++sp).toArray,bx',F,.inr ⟨?_,rfl⟩,⟨rfl,rfl,rfl⟩,ho.sel hs ?_ ?_ ?_ ?_,h⟩
  ·rw[←heq]
   simp only[List.length_cons,List.length_nil,Nat.add_zero,Nat.zero_add] at hst
   simp[execOp,hop,hk.eval hx,hk.eval hy,Instr.storeAt,Instr.sureAddr,storeVar,run_sizeOf w hi,hisz,hu,hc,eaddr,hst]
  ·intro k _ hk2;exact setRow_other w g k _ (by simpa [Ow.ids] using hk2)
  ·intro k hk1;exact .inl hk1
  ·simp[Ow.ids]
  ·exact⟨m,by simpa using h2,.inr ⟨g,cap,sp,rfl,h3,h4,setRow_heap w g _ _ el (0,0) h5,by simpa using h6⟩⟩
structure ElemT (P:Program) (t el sz:Nat) (z:Value) (bytes:Nat):Prop where
 u:P.underlying t=some (.slice el)
 i:(P.info? el).map (fun i=>(i.zero,i.size,i.bytes))=some (some z,sz,bytes)
 zs:z.cells.size=sz
 pos:0 < sz
theorem owns_slice {w:World} {B:Nat} {v:Value} {el sz n:Nat} {cs:List Value} (h:w.ownsRow B el sz v n cs):(Ow.slice v el sz cs).holds w.heap:=by
 obtain⟨h1,h2|⟨g,cap,cur,rfl,_,h3,h4,h5,h6,h7⟩⟩:=h
 ·exact⟨n,h1,.inl h2⟩
 ·refine⟨n,h1,.inr ⟨g,cap,cur.toList.drop (n*sz),rfl,h4,h5,?_,?_⟩⟩
  ·rw[←h7,List.take_append_drop];simpa using h3
  ·rw[←h7,List.take_append_drop];simpa using h6
theorem slice_owns {w:World} {v:Value} {el sz:Nat} {cs:List Value} (h:(Ow.slice v el sz cs).holds w.heap):∃ n,w.ownsRow 0 el sz v n cs∧cs.length=n*sz:=by
 obtain⟨n,h1,h2|⟨g,cap,sp,rfl,h3,h4,h5,h6⟩⟩:=h
 ·exact⟨n,⟨h1,.inl h2⟩,h1⟩
 ·exact⟨n,⟨h1,.inr ⟨g,cap,_,rfl,Nat.zero_le _,h5,h3,h4,by simpa using h6,by simp[h1]⟩⟩,h1⟩
def SrcE (bx:List Ow) (F:List Fct) (y:Value) (m sz:Nat) (news:List Value):Prop:=news.length=m*sz∧∀ fr w,OK fr bx F w→
 (y=.slice none 0 0∧m=0)∨∃ ad c,y=.slice (some ad) m c∧∀ j u,news[j]?=some u→w.cell? (ad.add j)=some u
theorem SrcE.fact {v:Value} {n sz:Nat} {f:Nat→Value} (h:Has F (slC v n sz f)):SrcE bx F v n sz ((List.range (n*sz)).map f):=by
 refine⟨by simp,fun fr w ho=>?_⟩
 have hf:=ho.has h
 obtain⟨a,cap,rfl,h2,h3,⟨rfl,rfl,h4⟩|⟨b,off,rfl,h5⟩⟩:=id hf
 ·subst h4;exact .inl ⟨rfl,rfl⟩
 ·refine .inr ⟨_,_,rfl,fun j u hu=>?_⟩
  have hj:j < n*sz:=by simpa using (List.getElem?_eq_some_iff.1 hu).1
  have:=slC_cell hf hj
  simp[hj] at hu
  rw[←hu,Addr.add_lit];exact this
theorem SrcE.own {v:Value} {el sz n:Nat} {cs:List Value} (h:Ow.slice v el sz cs∈bx) (hn:cs.length=n*sz) (hsz:0 < sz):SrcE bx F v n sz cs:=by
 refine⟨hn,fun fr w ho=>?_⟩
 have hh:=ho.owns _ h
 obtain⟨m,h1,⟨rfl,rfl⟩|⟨g,cap,sp,rfl,h3,h4,h5,h6⟩⟩:=id hh
 ·refine .inl ⟨rfl,?_⟩
  have:n*sz=0:=by omega
  rcases Nat.mul_eq_zero.1 this with h|h <;> omega
 ·have:m=n:=Nat.eq_of_mul_eq_mul_right hsz (by omega)
  subst this
  refine .inr ⟨_,_,rfl,fun j u hu=>?_⟩
  have:=own_slice_cell hh hu
  rw[Addr.add_lit];simpa [eaddr] using this
theorem LO.append {t el sz bytes m:Nat} {z:Value} {x y:Operand} {K:RPost} {v yv:Value} {cs news:List Value} {bx':Value→List Ow} (ht:ElemT P t el sz z bytes) (hx:ev e x=some v) (hy:ev e y=some yv)
  (hs:∀ v',Sel bx (.slice v el sz cs) (.slice v' el sz (cs++news)) (bx' v')) (hsrc:SrcE bx F yv m sz news) (h1:∀ u∈news,u.oneCell'=true) (hlen:(cs.length+news.length)*bytes≤140737488355328) (hmax:cs.length+news.length≤9223372036854775807)
  (h:∀ v',K v' (bx' v') F):LO P (.call {callee:=.builtin .append,args:=#[x,y],argTypes:=#[t,t]}) ty e bx F K:=.of fun k fr a w o hop hk ho=>by
 obtain⟨i,hi,hz0,hz1,hz2⟩:=info_parts ht.i
 have hmem:∀ v',Ow.slice v el sz cs∈bx:=fun v'=>(hs v').mem
 obtain⟨n,hown,hcn⟩:=slice_owns (ho.owns _ (hmem v))
 have hnle:n≤cs.length:=by rw[hcn];exact Nat.le_mul_of_pos_right n ht.pos
 have hmle:m≤news.length:=by rw[hsrc.1];exact Nat.le_mul_of_pos_right m ht.pos
 have hb:(n+m)*bytes≤140737488355328:=Nat.le_trans (Nat.mul_le_mul_right bytes (Nat.add_le_add hnle hmle)) hlen
 have fin:∀ v' w',(Builtin.append_ #[t,t] o.type #[v,yv]).run P w=.ok v' w'→w'.ownsRow 0 el sz v' (n+m) (cs++news)→(w.grownBy w' v.ownBlock)→(∀ g,v'.ownBlock=some g→v.ownBlock=some g∨w.heap.size≤g)→
   ∃ v w' bx' F',((execOp a.eval o).run P w=.ok (.value v) w'∨((execOp a.eval o).run P w=.ok .skip w'∧v=undef))∧Rest w w'∧OK fr bx' F' w'∧K v bx' F':=fun v' w' hr how hg hnew=>by
  have hids:∀ u:Value,∀ q,(Ow.slice u el sz q).ids=(match u.ownBlock with|some g=>[g]|none=>[]):=fun u q=>by
   cases u <;> simp[Ow.ids,Value.ownBlock]
   rename_i ad _ _;cases ad <;> simp
  refine⟨v',w',bx' v',F,.inl ?_,⟨hg.os,hg.tape,hg.output⟩,ho.sel (hs v') (fun k hk1 hk2=>hg.block k hk1 ?_) (fun k hk1=>?_) ?_ (owns_slice how),h v'⟩
  ·simp[execOp,hop,resolve,hk.eval hx,hk.eval hy,invoke,builtin,hr]
  ·rw[hids] at hk2;cases hvb:v.ownBlock <;> simp_all
  ·rw[hids] at hk1 ⊢
   cases hvb:v'.ownBlock with
   |none=>rw[hvb] at hk1;simp at hk1
   |some g=>
    rw[hvb] at hk1;simp at hk1;subst hk1
    rcases hnew k hvb with h3|h3
    ·rw[h3];simp
    ·exact .inr h3
  ·rw[hids];cases v'.ownBlock <;> simp
 rcases hsrc.2 fr w ho with ⟨rfl,rfl⟩|⟨ad,c,rfl,hcells⟩
 ·have hn0:news=[]:=List.eq_nil_of_length_eq_zero (by simpa using hsrc.1)
  subst hn0
  have hr:=run_append_owned_none (P:=P) (w:=w) 0 t o.type el i sz ht.u hi v n cs hown
  exact fin v w hr (by simpa using hown) (World.grownBy.refl w _) (fun g hg=>.inl hg)
 ·have hmx:n+m≤maxLen:=by unfold maxLen;omega
  obtain⟨v',w',hr,how,hg,_⟩:=run_append_own (P:=P) w 0 t o.type el i z sz bytes ht.u hi hz0 hz1 hz2 ht.zs ht.pos v n cs hown ad m c news hsrc.1 hcells h1 hmx hb (Nat.zero_le _)
  refine fin v' w' hr how hg ?_
  obtain⟨h2,⟨rfl,h3⟩|⟨g,cap,cur,rfl,_,h3,h4,h5,h6,h7⟩⟩:=id hown
  ·obtain⟨v2,w2,hr2,how2,_,_⟩:=run_append_own (P:=P) w w.heap.size t o.type el i z sz bytes ht.u hi hz0 hz1 hz2 ht.zs ht.pos (.slice none 0 0) n cs ⟨h2,.inl ⟨rfl,h3⟩⟩ ad m c news hsrc.1 hcells h1 hmx hb (Nat.le_refl _)
   rw[hr] at hr2;cases hr2
   exact fun g hg=>.inr (how2.lt g hg).1
  ·by_cases hroom:n+m≤cap
   ·have hr2:=run_append_room (P:=P) w t o.type el i ht.u hi g n cap cur h3 ad m c news (by rw[hz1];exact hsrc.1) hcells h1 hroom (by rw[hz1,hsrc.1,h6,←Nat.add_mul];exact Nat.mul_le_mul_right _ hroom)
    rw[hr] at hr2;cases hr2
    intro g' hg';exact .inl (by simpa [Value.ownBlock] using hg')
   ·have hr2:=run_append_grow (P:=P) w t o.type el i z ht.u hi hz0 ⟨g,0,none⟩ n cap cs (by rw[hz1];exact h2) (hown.cells (g:=g) rfl) ad m c news (by rw[hz1];exact hsrc.1) hcells (by omega) (by unfold maxLen at hmx;omega) (growslice_fits (by omega) (by rw[hz2];exact hb))
    rw[hr] at hr2;cases hr2
    intro g' hg';simp[Value.ownBlock] at hg';exact .inr (by omega)
theorem LO.make {t el sz bytes n:Nat} {z:Value} {x y:Operand} {K:RPost} {cs:List Value} (ht:ElemT P t el sz z bytes) (hx:ev e x=some (.int .i64 (n:Int))) (hy:ev e y=some (.int .i64 (n:Int)))
  (hb:bytes*n≤281474976710656) (hmax:n≤9223372036854775807) (hcs:(madeCells z.cells (n*sz)).toList=cs) (h:∀ v,K v (Ow.slice v el sz cs::bx) F):LO P (.makeSlice t x y) ty e bx F K:=.of fun k fr a w o hop hk ho=>by
 subst hcs
 obtain⟨i,hi,hz0,hz1,hz2⟩:=info_parts ht.i
 obtain⟨w',hr,how,hg⟩:=run_make_full (P:=P) (w:=w) w.heap.size t el i z sz ht.u hi hz0 hz1 .i64 .i64 n (by rw[hz2];exact hb) (by unfold maxLen;omega) (Nat.le_refl _)
 have:=OK.step (ob:=[]) (nb:=[Ow.slice (.slice (some ⟨w.heap.size,0,none⟩) n n) el sz (madeCells z.cells (n*sz)).toList]) (bx:=bx) (F:=F) (fr:=fr) (w:=w) (w':=w') (by simpa using ho)
  (fun k hk _=>hg.block k hk (by simp)) (fun k hk=>by simp[ids,Ow.ids] at hk;omega) (by simp[ids,Ow.ids]) (by simpa using owns_slice how)
 refine⟨_,w',_,F,.inl ?_,⟨hg.os,hg.tape,hg.output⟩,by simpa using this,h _⟩
 simp[execOp,hop,hk.eval hx,hk.eval hy,hr]
theorem LO.buildSlice {t el sz len:Nat} {parts:List (Nat×Operand)} {K:RPost} {us:List Value} {cs:List Value} (hv:Evs e (parts.map (·.2)) us)
  (hr:∀ w,(Instr.buildSlice t len ((parts.map (·.1)).zip us).toArray).run P w=.ok (.slice (some ⟨w.heap.size,0,none⟩) len len) (w.alloc (.cells cs.toArray el))) (hlen:cs.length=len*sz) (hmax:len≤9223372036854775807)
  (h:∀ v,K v (Ow.slice v el sz cs::bx) F):LO P (.buildSlice t len parts.toArray) ty e bx F K:=.of fun k fr a w o hop hk ho=>by
 have hm:=hv.map hk
 refine⟨_,w.alloc (.cells cs.toArray el),_,F,.inl ?_,⟨rfl,rfl,rfl⟩,ho.alloc (Ow.slice (.slice (some ⟨w.heap.size,0,none⟩) len len) el sz cs) _ rfl ?_,h _⟩
 ·have:(parts.map fun x=>(x.1,a.eval x.2))=(parts.map (·.1)).zip us:=by
   rw[←hm];clear hm hv hr hop
   induction parts with
   |nil=>rfl
   |cons p r ih=>simpa using ih
  simp[execOp,hop,this,hr]
 ·exact⟨len,hlen,.inr ⟨w.heap.size,len,[],rfl,Nat.le_refl _,by unfold maxLen;omega,by simpa using heap_alloc_new w _,by simpa using hlen⟩⟩
theorem OK.addNil {fr:PH} {w:World} (h:OK fr bx F w) (el sz:Nat):OK fr (Ow.slice (.slice none 0 0) el sz []::bx) F w:=by
 have:=OK.step (ob:=[]) (nb:=[Ow.slice (.slice none 0 0) el sz []]) (bx:=bx) (F:=F) (fr:=fr) (w:=w) (w':=w) (by simpa using h) (fun _ _ _=>rfl) (fun k hk=>by simp[ids,Ow.ids] at hk) (by simp[ids,Ow.ids]) (by simp[Ow.holds])
 simpa using this
theorem WC.addNil {n:Nat} {c:Code} {Q:Post} (el sz:Nat) (h:WC P n c e (Ow.slice (.slice none 0 0) el sz []::bx) F Q):WC P n c e bx F Q:=fun fr w0 a w hk hr ho=>h fr w0 a w hk hr (ho.addNil el sz)
theorem OK.freeze {fr:PH} {w:World} {v:Value} {el sz n:Nat} {cs:List Value} {bx':List Ow} (h:OK fr bx F w) (hs:Sel bx (.slice v el sz cs) (.slice (.slice none 0 0) el sz []) bx') (hn:cs.length=n*sz) (hsz:0 < sz) (f:Nat→Value) (hf:∀ j,j < n*sz→cs[j]?=some (f j)) :
  OK fr bx' (slC v n sz f::F) w:=by
 obtain⟨r,h1,h2⟩:=hs.split
 have hp:=h.perm h1
 have hd:OK fr r F w:=hp.drop (List.sublist_cons_self _ _)
 refine OK.perm (bx:=Ow.slice (.slice none 0 0) el sz []::r) (OK.addNil (hd.add ?_) el sz) h2.symm
 obtain⟨m,h3,⟨rfl,h4⟩|⟨g,cap,sp,rfl,h4,h5,h6,h7⟩⟩:=h.owns _ hs.mem
 ·subst h4
  have:n=0:=by
   have:n*sz=0:=by omega
   rcases Nat.mul_eq_zero.1 this with h|h <;> omega
  subst this
  exact⟨none,0,rfl,Nat.le_refl _,by simp[maxLen],.inl ⟨rfl,rfl,rfl⟩⟩
 ·have hmn:m=n:=Nat.eq_of_mul_eq_mul_right hsz (by omega)
  subst hmn
  refine⟨_,cap,rfl,h4,h5,.inr ⟨g,0,rfl,(cs++sp).toArray,el,(0,0),?_,fun j hj=>?_⟩⟩
  ·unfold imm
   have hnd:=hp.nodup
   have hap:=hp.apart g (by simp[ids,Ow.ids])
   simp only[ids,List.flatMap_cons,Ow.ids,List.singleton_append,List.nodup_cons] at hnd
   rw[if_neg]
   ·exact h6
   ·simp only[hap,Option.isSome_none,Bool.false_or,List.contains_iff_mem];exact hnd.1
  ·have hj':j < cs.length:=by omega
   simp only[Nat.zero_add,List.getElem?_toArray]
   rw[List.getElem?_append_left hj'];exact hf j hj
theorem WC.freeze {n':Nat} {c:Code} {Q:Post} {v:Value} {el sz n:Nat} {cs:List Value} {bx':List Ow} (hs:Sel bx (.slice v el sz cs) (.slice (.slice none 0 0) el sz []) bx') (hn:cs.length=n*sz) (hsz:0 < sz) (f:Nat→Value) (hf:∀ j,j < n*sz→cs[j]?=some (f j))
  (h:WC P n' c e bx' (slC v n sz f::F) Q):WC P n' c e bx F Q:=fun fr w0 a w hk hr ho=>h fr w0 a w hk hr (ho.freeze hs hn hsz f hf)
end W
end Go.Proofs.YtaongbhamadlkaaGreat
namespace Go.Proofs.YtaongbhamadlkaaGreat
open Go.RowKit
namespace W
variable {P:Program} {e:Env} {bx:List Ow} {F:List Fct} {ty:TypeId}
theorem YO.max {x y:Operand} {i j:Int} {ats:Array TypeId} (hx:ev e x=some (.int .i64 i)) (hy:ev e y=some (.int .i64 j)):YO P (.call {callee:=.builtin .max,args:=#[x,y],argTypes:=ats}) ty e bx F (.int .i64 (Max.max i j)):=
 .of fun n fr a w o hop hk _=>by
  simp only[execOp,hop,resolve,invoke,builtin,Builtin.max_,List.map_toArray,List.map_cons,List.map_nil,hk.eval hx,hk.eval hy]
  have:(if i < j then j else i)=Max.max i j:=by rw[Int.max_def];split <;> split <;> omega
  simp[Builtin.max2,this]
theorem YO.min {x y:Operand} {i j:Int} {ats:Array TypeId} (hx:ev e x=some (.int .i64 i)) (hy:ev e y=some (.int .i64 j)):YO P (.call {callee:=.builtin .min,args:=#[x,y],argTypes:=ats}) ty e bx F (.int .i64 (Min.min i j)):=
 .of fun n fr a w o hop hk _=>by
  simp only[execOp,hop,resolve,invoke,builtin,Builtin.min_,List.map_toArray,List.map_cons,List.map_nil,hk.eval hx,hk.eval hy]
  have:(if j < i then j else i)=Min.min i j:=by rw[Int.min_def];split <;> split <;> omega
  simp[Builtin.min2,this]
theorem YO.build {t:TypeId} {parts:List (Nat×Operand)} {us:List Value} {v:Value} (hv:Evs e (parts.map (·.2)) us)
  (hr:∀ w,(Instr.build t ((parts.map (·.1)).zip us).toArray).run P w=.ok v w):YO P (.build t parts.toArray) ty e bx F v:=
 .of fun n fr a w o hop hk _=>by
  have hm:=hv.map hk
  have:(parts.map fun x=>(x.1,a.eval x.2))=(parts.map (·.1)).zip us:=by
   rw[←hm];clear hm hv hr hop
   induction parts with
   |nil=>rfl
   |cons p r ih=>simpa using ih
  simp[execOp,hop,this,hr]
def IsV (x:Value):RPost:=fun v b G=>v=x∧b=[]∧G=[]
def IsO (el sz:Nat) (cs:List Value):RPost:=fun v b G=>b=[Ow.slice v el sz cs]∧G=[]
inductive HasAll (F:List Fct):List Fct→Prop where
 |nil:HasAll F []
 |cons {g:Fct} {G:List Fct}:Has F g→HasAll F G→HasAll F (g::G)
theorem HasAll.all {F G:List Fct} (h:HasAll F G):∀ g∈G,Has F g:=by
 induction h with
 |nil=>simp
 |cons h _ ih=>intro g hg;rcases List.mem_cons.1 hg with rfl|hg;exact h;exact ih _ hg
theorem LO.callV {f:FuncId} {x:Operand} {args:List Operand} {ats:Array TypeId} {K:RPost} {vs:List Value} {F':List Fct} {u:Value}
  (hx:ev e x=some (.func (.func f) #[] #[])) (hv:Evs e args vs) (hf:FnB P f vs [] F' (IsV u)) (hF:HasAll F F') (hK:K u bx F):LO P (.call {callee:=.value x,args:=args.toArray,argTypes:=ats}) ty e bx F K:=
 LO.call (first:=[]) (cap:=[]) hx hv [] bx (.refl _) (by simpa using hf) hF.all (by rintro _ _ _ ⟨rfl,rfl,rfl⟩;simpa using hK)
theorem LO.callO {f:FuncId} {x:Operand} {args:List Operand} {ats:Array TypeId} {K:RPost} {vs:List Value} {F':List Fct} {el sz:Nat} {cs:List Value}
  (hx:ev e x=some (.func (.func f) #[] #[])) (hv:Evs e args vs) (hf:FnB P f vs [] F' (IsO el sz cs)) (hF:HasAll F F') (hK:∀ v,K v (Ow.slice v el sz cs::bx) F):LO P (.call {callee:=.value x,args:=args.toArray,argTypes:=ats}) ty e bx F K:=
 LO.call (first:=[]) (cap:=[]) hx hv [] bx (.refl _) (by simpa using hf) hF.all (by rintro v _ _ ⟨rfl,rfl⟩;simpa using hK v)
theorem Fin.v {fn:Func} {h0:PH} {u v:Value} (hr:ResE P fn e bx F v) (hg:ge h0∈F) (hu:v=u):Fin P fn h0 (IsV u) e bx F:=⟨v,[],[],hr,List.nil_sublist _,by simp,hg,hu,rfl,rfl⟩
theorem Fin.o {fn:Func} {h0:PH} {el sz:Nat} {cs cs':List Value} {v:Value} (hr:ResE P fn e bx F v) (hg:ge h0∈F) (hb:Ow.slice v el sz cs∈bx) (hc:cs=cs'):Fin P fn h0 (IsO el sz cs') e bx F:=
 ⟨v,[Ow.slice v el sz cs],[],hr,List.singleton_sublist.2 hb,by simp,hg,by rw[hc],rfl⟩
theorem Fin.p {fn:Func} {h0:PH} {R:RPost} {v:Value} (bx':List Ow) (F':List Fct) (hr:ResE P fn e bx F v) (hg:ge h0∈F) (hb:bx'.Sublist bx) (hF:HasAll F F') (h:R v bx' F'):Fin P fn h0 R e bx F:=⟨v,bx',F',hr,hb,hF.all,hg,h⟩
theorem KnS.f {v:Value} {n sz:Nat} {f:Nat→Value} (h:Has F (slC v n sz f)):KnS bx F v n:=.of h fun _ h=>slC_is h
theorem KnS.o {v:Value} {el sz n:Nat} {cs:List Value} (h:Ow.slice v el sz cs∈bx) (hn:cs.length=n*sz) (hsz:0 < sz):KnS bx F v n:=fun fr w ho=>by
 obtain⟨m,h1,⟨rfl,rfl⟩|⟨g,cap,sp,rfl,h3,h4,h5,h6⟩⟩:=ho.owns _ h
 ·have:n=0:=by
   have:n*sz=0:=by omega
   rcases Nat.mul_eq_zero.1 this with h|h <;> omega
  subst this
  exact⟨none,0,rfl,Nat.le_refl _,by simp[maxLen],.inl ⟨rfl,rfl,rfl⟩⟩
 ·have:m=n:=Nat.eq_of_mul_eq_mul_right hsz (by omega)
  subst this
  exact⟨_,cap,rfl,h3,h4,.inr ⟨g,0,rfl⟩⟩
section
variable {n:Nat} {L rest:List Oper} {Q:Env→List Ow→List Fct→Prop} {d:Nat} {op:Op} {pos:String} {af:Array Edge} {g:Option (Nat×Bool)} {v u:Value} {c:Prop}
theorem WL.split [Decidable c] (h1:c→WL P n L rest e bx F Q) (h2:¬c→WL P n L rest e bx F Q):WL P n L rest e bx F Q:=by
 by_cases h:c
 ·exact h1 h
 ·exact h2 h
end
abbrev sI (v:Value) (l:List Int):Fct:=slC v l.length 1 (fun j=>.int .i64 (l.getD j 0))
abbrev ints (l:List Int):List Value:=l.map (Value.int .i64)
theorem YO.ix1 {t el n:Nat} {x y:Operand} {v:Value} {k:Nat} (ht:SliceT P t el 1) (hx:ev e x=some v) (hy:ev e y=some (.int .i64 (k:Int))) (hv:KnS bx F v n) (hk':k < n) :
  YO P (.indexAddr t x y) ty e bx F (.pointer (some (eaddr v k))):=by
 have:=YO.ix (P:=P) (ty:=ty) ht hx hy hv hk'
 rwa [Nat.mul_one] at this
theorem YO.ix1' {t el n:Nat} {x y:Operand} {v:Value} {k:Int} (ht:SliceT P t el 1) (hx:ev e x=some v) (hy:ev e y=some (.int .i64 k)) (hv:KnS bx F v n) (h0:0≤k) (hk':k < n) :
  YO P (.indexAddr t x y) ty e bx F (.pointer (some (eaddr v k.toNat))):=
 YO.ix1 ht hx (by rw[hy,Int.toNat_of_nonneg h0]) hv (by omega)
theorem YO.ix' {t el n sz:Nat} {x y:Operand} {v:Value} {k:Int} (ht:SliceT P t el sz) (hx:ev e x=some v) (hy:ev e y=some (.int .i64 k)) (hv:KnS bx F v n) (h0:0≤k) (hk':k < n) :
  YO P (.indexAddr t x y) ty e bx F (.pointer (some (eaddr v (k.toNat*sz)))):=
 YO.ix ht hx (by rw[hy,Int.toNat_of_nonneg h0]) hv (by omega)
def scalarB (P:Program) (t:TypeId):Bool:=match P.underlying t with
 |some d=>!d.isRow
 |none=>false
theorem Scalar.of {t:TypeId} (h:scalarB P t=true):Scalar P t:=by
 unfold scalarB at h;split at h
 ·rename_i d hd;exact⟨d,hd,by simpa using h⟩
 ·cases h
def fieldB (P:Program) (s i off:Nat):Bool:=match P.underlying s with
 |some (.struct fs)=>match fs[i]? with
  |some f=>f.offset == off && (P.cellsOf f.type != 0 && (P.info? f.type).isSome)
  |none=>false
 |_=>false
theorem FieldAt.of {s i off:Nat} (h:fieldB P s i off=true):FieldAt P s i off:=by
 unfold fieldB at h;split at h
 ·rename_i fs hfs
  split at h
  ·rename_i f hf
   simp only[Bool.and_eq_true,beq_iff_eq,bne_iff_ne,ne_eq,Option.isSome_iff_exists] at h
   obtain⟨h1,h2,ti,h3⟩:=h
   exact⟨fs,f,hfs,hf,h1,ti,h3,by simpa [Program.cellsOf,h3] using h2,h2⟩
  ·cases h
 ·cases h
def sliceB (P:Program) (t el sz:Nat):Bool:=match P.underlying t with
 |some (.slice e)=>e == el && (P.info? el).map (·.size) == some sz
 |_=>false
theorem SliceT.of {t el sz:Nat} (h:sliceB P t el sz=true):SliceT P t el sz:=by
 unfold sliceB at h;split at h
 ·rename_i e he
  simp only[Bool.and_eq_true,beq_iff_eq,Option.map_eq_some_iff] at h
  obtain⟨rfl,i,h2,h3⟩:=h
  exact⟨he,i,h2,h3⟩
 ·cases h
def rowB (P:Program) (t m:Nat):Bool:=match P.underlying t with
 |some d=>d.isRow && (P.info? t).map (·.size) == some m
 |none=>false
theorem Row.of {t m:Nat} (h:rowB P t m=true):Row P t m:=by
 unfold rowB at h;split at h
 ·rename_i d hd
  simp only[Bool.and_eq_true,beq_iff_eq] at h
  exact⟨⟨d,hd,h.1⟩,h.2⟩
 ·cases h
def arrB (P:Program) (t el len sz:Nat):Bool:=match P.underlying t with
 |some (.array n e)=>n == len && (e == el && (P.info? el).map (·.size) == some sz)
 |_=>false
def ArrT (P:Program) (t el len sz:Nat):Prop:=P.underlying t=some (.array len el)∧∃ i,P.info? el=some i∧i.size=sz
theorem ArrT.of {t el len sz:Nat} (h:arrB P t el len sz=true):ArrT P t el len sz:=by
 unfold arrB at h;split at h
 ·rename_i n e he
  simp only[Bool.and_eq_true,beq_iff_eq,Option.map_eq_some_iff] at h
  obtain⟨rfl,rfl,i,h2,h3⟩:=h
  exact⟨he,i,h2,h3⟩
 ·cases h
end W
end Go.Proofs.YtaongbhamadlkaaGreat
