/- Lemmas for a law. Conditions: none. -/
import Derived.Test.YtbnobghgnbockaaGreatZf23
import Derived.Test.YtbnobghgnbockaaGreatProg
import Derived.Test.YtbnobghgnbockaaGreatZf16
set_option linter.all false
set_option maxHeartbeats 32000000
set_option maxRecDepth 100000
namespace Go.Proofs.YtbnobghgnbockaaGreat
section
open Go.RowKit
open Go.Conc hiding base
open Go.ConcN
open Go.ConcR (KK WgAt stA smA rd wr mk wgBlock Payload DC0)
open Go.Conc.Lib (WgLink WgLib)
namespace W
section
variable [Payload]{P:Program}{L:WgLink}{n:Nat}{e:Env}{bx br:List Ow}{F FP:List Fct}{Q:Post}{C N cap m Bx d5:Nat}{ety tint:TypeId}{cs:List Value}{v0:Value}{c6 c7 c8 c11 rest:Code}{t31:Operand}{id5 id0 id1 id9 id10 id12:Nat}
 {o5 o9 oM oG o12:Oper} {capt:Nat->Nat->List Value} {fw:FuncId} {E0 EZ:Nat->Env} {E E1:Nat->Nat->Env} {E2 E3:Nat->Nat->Nat->Env} {Rr:Nat->List Value->Fct->Prop}
def WX.phase(H:WgLib P L)(hX:Has F (isX P))(hp:bx.Perm (Ow.slice (.slice (some ⟨C,0,none⟩) N cap) ety m cs::br))(hm:0<m)(hN:0<N)(hNb:N<1000000000)(hBx:Has F (ce Bx Payload.ety [v0]))(hFP:∀f∈FP,Has F f/\f.free)
  (h5:∀(a:Act) (w:World),(execOp a.eval o5).run P w=.ok (.value (.pointer (some ⟨w.heap.size,0,none⟩))) (w.alloc (wgBlock L.tWg 0 0))/\(execOp a.eval o5).events P w #[]=#[]) (h5g:o5.guard=none) (h5d:o5.dst=some d5) (hd5:Nat.blt d5 n=true) (hE0:∀Wg,Sub (E0 Wg) ((d5,.pointer (some ⟨Wg,0,none⟩))::e))
  (h6:∀Wg l0,WC P n c6 (E0 Wg) [] (geL l0::FP) (λex e' bx' F'=>ex=.normal/\Sub (E Wg 0) e'/\Qu F' (geL l0::FP)))
  (h7:∀Wg l0 i,i<=N->WC P n c7 (E Wg i) [] (geL l0::FP) (λex e' bx' F'=>ex=.normal/\Sub (E1 Wg i) e'/\Qu F' (geL l0::FP)))
  (h7t:∀Wg i,i<=N->ev (E1 Wg i) t31=some (.bool (decide (i<N))))
  (h8:∀Wg l0 i,i<N->WC P n c8 (E1 Wg i) [] (geL l0::FP) (λex e' bx' F'=>ex=.normal/\∃g,Sub (E2 Wg i g) e'/\bx'=[Ow.cells g tint [.int .i64 (i:Int)]]/\Qu F' (geL l0::FP)))
  (h9:∀Wg i g ds (a:Act) (w:World),Kn ds n a (E2 Wg i g)->(execOp a.eval o9).run P w=.ok (.enter L.add #[.pointer (some ⟨Wg,0,none⟩),.int .i64 1]) w/\(execOp a.eval o9).events P w #[]=#[]) (h9g:o9.guard=none) (h9d:∀Wg i g ds a,Kn ds n a (E2 Wg i g)->Kn ds n (a.put o9.dst (.tuple #[])) (E2 Wg i g))
  (hM:∀Wg i g ds (a:Act) (w:World),Kn ds n a (E2 Wg i g)->(execOp a.eval oM).run P w=.ok (.value (.func (.func fw) #[] (capt Wg g).toArray)) w/\(execOp a.eval oM).events P w #[]=#[]) (hMg:oM.guard=none) (hMd:∀Wg i g ds a,Kn ds n a (E2 Wg i g)->Kn ds n (a.put oM.dst (.func (.func fw) #[] (capt Wg g).toArray)) (E3 Wg i g))
  (hG:∀Wg i g ds (a:Act) (w:World),Kn ds n a (E3 Wg i g)->(execOp a.eval oG).run P w=.ok (.spawn {target:=.fn (.func fw) (capt Wg g).toArray,args:=#[]}) w/\(execOp a.eval oG).events P w #[]=#[]) (hGg:oG.guard=none) (hGd:∀Wg i g ds a,Kn ds n a (E3 Wg i g)->Kn ds n (a.put oG.dst undef) (E3 Wg i g))
  (h11:∀Wg l0 i g,i<N->WC P n c11 (E3 Wg i g) [] (geL l0::FP) (λex e' bx' F'=>ex=.normal/\Sub (E Wg (i+1)) e'/\Qu F' (geL l0::FP)))
  (h12:∀Wg ds (a:Act) (w:World),Kn ds n a (E1 Wg N)->(execOp a.eval o12).run P w=.ok (.enter L.wait #[.pointer (some ⟨Wg,0,none⟩)]) w/\(execOp a.eval o12).events P w #[]=#[]) (h12g:o12.guard=none) (h12d:∀Wg ds a,Kn ds n a (E1 Wg N)->Kn ds n (a.put o12.dst (.tuple #[])) (EZ Wg))
  (hW:∀(p:Ph) l1 i g w,p.ty=L.tWg->p.S0 p.Bx->p.C=C->p.m=m->p.N=cap->p.F=Ha P p.hid Rr->i<N->N<=cap->cap<=maxLen->(∀ds,OK (frW p i g ds) [Ow.cells g tint [.int .i64 (i:Int)]] (geL l1::FP) w)->Wrk P p i g (born P {target:=.fn (.func fw) (capt p.Wg g).toArray,args:=#[]}) w)
  (hR:∀Wg vs (fs:Nat->Fct),(∀i,i<N->Rr i (vs i) (fs i)/\(vs i).length=m)->WX P n rest (EZ Wg) br (slC (.slice (some ⟨C,0,none⟩) N cap) N m (Jb m vs)::allF N fs::F) Q) :
  WX P n (.seq (.region id5 #[o5] false) (.seq (.seq c6 (.block id0 (.loop (rnd c7 c8 c11 t31 id0 id1 id9 id10 o9 oM oG)))) (.seq (.region id12 #[o12] false) rest))) e bx F Q:=λfr Ds w0 a w hDn hD hk hr ho b k Cs Stop hb hke hc=>by
 have hmain:fr.main=XG P:=ho.has hX;refine Run.quiet rfl (λ_=>Xc) ?_;refine Run.quiet rfl (λ_=>Yu) ?_;refine Run.stroke (Run P fr.main fr.sh Stop) rfl (λw1 hr1=>?_) λ_ _ _ h=>h
 have hSp:(XG P).Sp fr.sh fr.own (G (b.atR a (.inRegion #[o5] (List.range (#[o5]:Array Oper).size)::.code (.seq (.seq c6 (.block id0 (.loop (rnd c7 c8 c11 t31 id0 id1 id9 id10 o9 oM oG)))) (.seq (.region id12 #[o12] false) rest))::k)) Cs) w1 (Run P fr.main fr.sh Stop):=λhsh=>by
  have ho1:=(ho.rely (w1:=w1) hr1).perm hp;obtain⟨n',hl,⟨hv,_⟩|⟨C',cap',sp,hv,hle,hcap,hblk,hlen⟩⟩:=ho1.owns _ (List.mem_cons_self ..)
  ·cases hv
  cases hv;have hCo:fr.own C/\(fr.mkd Ds).fr C=none:=ho1.apart C (by simp[ids,Ow.ids]);have hnd:=ho1.nodup;simp only[ids,List.flatMap_cons,Ow.ids,List.singleton_append,List.nodup_cons] at hnd;have hbxi:=ho1.has hBx;have hbx1:w1.heap[Bx]?=some (.cells #[v0] Payload.ety (0,0)):=Jg hbxi
  have hvis:∀k o,imm (fr.mkd Ds) (Ow.slice (.slice (some ⟨C,0,none⟩) N cap) ety m cs::br) w1.heap k=some o->(fr.own k/\k≠C)/\(fr.mkd Ds).fr k=none/\k∉ids br:=λk o hk=>by
   have h1:fr.own k\/fr.vs k:=Xs (fr:=fr.mkd Ds) hk;simp only[imm] at hk;split at hk
   ·cases hk
   ·rename_i hx
    simp only[Bool.or_eq_true,List.contains_iff_mem,not_or,ids,List.flatMap_cons,Ow.ids,List.singleton_append,List.mem_cons,Bool.not_eq_true,Option.isSome_eq_false_iff,Option.isNone_iff_eq_none] at hx;exact⟨⟨h1.elim id λh=>absurd h.1 (hsh _),hx.2.1⟩,hx.1,hx.2.2⟩
  let S0:Bk:=λk=>(fr.own k/\k≠C)\/fr.sh k
  let l0:=JV S0 w1
  let hid:Bk:=λk=>S0 k/\((fr.mkd Ds).fr k≠none\/k∈ids br)
  have hlt0:∀k,S0 k->k<w1.heap.size:=λk hk=>ho1.frame.2.1 k (hk.imp And.left id)
  have hl0:∀k o,l0 k=some o->S0 k/\w1.heap[k]?=some o:=λk o hk=>by
   simp only[l0,JV] at hk;split at hk
   ·exact⟨by assumption,hk⟩
   ·cases hk
  have hl0i:∀k,S0 k->l0 k=w1.heap[k]?:=λk hk=>by simp only[l0,JV];rw[if_pos hk]
  have hfl0:∀f∈FP,f.free/\f.p ⟨XG P,ZC hid l0⟩:=λf hf=>⟨(hFP f hf).2,(hFP f hf).2.to (ho1.has (hFP f hf).1) λk o hk=>by
   have h1:=hvis k o hk;have hs:S0 k:=.inl h1.1;unfold ZC;rw[if_neg (λhx=>hx.2.elim (λh=>h h1.2.1) h1.2.2),hl0i k hs];exact Jg hk⟩
  let Wg:=w1.heap.size
  let Kf:GSt:=λown g w=>∃a',g=G (b.at (a'.put o12.dst (.tuple #[])) (.inRegion #[o12] []::.code rest::k)) Cs/\Kn (fr.mkd Ds).ds n a' (E1 Wg N)/\OK (frP L.tWg Wg S0 own (fr.mkd Ds).ds) [] (geL l0::FP) w
  have hnWg:¬S0 Wg:=λhx=>by have:=hlt0 _ hx;omega
  refine phase_stk (hid:=hid) (ety:=ety) (C:=C) (m:=m) (N:=N) (Nc:=cap) (Bx:=Bx) (v0:=v0) (F:=Ha P hid Rr) (So:=λk=>fr.own k/\k≠C) (Fin:=FinW P S0 Kf) (AnchW:=AnW S0 L Wg Kf) (ty:=L.tWg)
   (g1:=G (b.atR (a.put o5.dst (.pointer (some ⟨Wg,0,none⟩))) (.inRegion #[o5] []::.code (.seq (.seq c6 (.block id0 (.loop (rnd c7 c8 c11 t31 id0 id1 id9 id10 o9 oM oG)))) (.seq (.region id12 #[o12] false) rest))::k)) Cs)
   rfl hm hN hNb Ha.mono hCo.1 (λk h=>h.1) (λh=>h.2 rfl) ⟨_,hblk,by simpa [Nat.mul_comm] using hlen⟩ ⟨.inl (hvis Bx _ hbxi).1,⟨_,hbx1,rfl⟩,by show w1.cell? _=_;simp[World.cell?,hbx1]⟩ (Array.getElem?_eq_some_iff.1 hbx1).1 (λd=>?_) (λown g w h=>h.running) (λown g w1' hl h=>anchor_run H hnWg hl h) (λb0 Sh0 w0' d=>?_) (λb0 Sh0 o gv a' w' hMI hFin hrows=>?_) hsh
  ·have:=Vy (P:=P) (m:=true) (b:=b) (cs:=Cs) (i:=0) (rest:=[]) (ops:=#[o5]) (o:=o5) (k:=.code (.seq (.seq c6 (.block id0 (.loop (rnd c7 c8 c11 t31 id0 id1 id9 id10 o9 oM oG)))) (.seq (.region id12 #[o12] false) rest))::k) rfl (wan h5g) (ndf (h5 a (w1.at d)).1 (by simp)) hke (h5 a (w1.at d)).1;rw[listed_none (h5 a (w1.at d)).2] at this;exact this
  ·have hsz:((w1.at d).alloc (wgBlock L.tWg 0 0)).heap.size=w1.heap.size+1:=by
    have:(w1.at d).heap=w1.heap:=rfl;simp[this]
   have hkeep:∀k,k<w1.heap.size->((w1.at d).alloc (wgBlock L.tWg 0 0)).heap[k]?=w1.heap[k]?:=λk hk=>by
    have:(w1.at d).heap=w1.heap:=rfl;simp only[World.alloc,Array.getElem?_push,this];rw[if_neg qo]
   let p:Ph:=⟨L.tWg,Wg,Bx,v0,C,m,cap,ety,b0,S0,Sh0,Ha P hid Rr,w0',hid⟩
   obtain⟨X,hXe⟩:∃X:GSt,∀own g w,Spw P L.tWg Wg S0 (Wrk P p) (AnW S0 L Wg Kf) (b0+N) b0 N own g w=MR P L.tWg Wg S0 X own g w:=by
    cases N<;>exact⟨_,λ_ _ _=>rfl⟩
   have key:=starts (p:=p) (L:=L) (N:=N) (n:=n) (ds:=(fr.mkd Ds).ds) (FP:=geL l0::FP) (E:=E Wg) (E1:=E1 Wg) (E2:=E2 Wg) (E3:=E3 Wg) (c7:=c7) (c8:=c8) (c11:=c11) (rest:=rest) (t31:=t31) (id0:=id0) (id1:=id1) (id9:=id9) (id10:=id10) (id12:=id12) (b:=b) (k:=k) (cs:=Cs) (o9:=o9) (oM:=oM) (oG:=oG) (o12:=o12) (tint:=tint) (capt:=λg=>(capt Wg g).toArray) (fw:=fw) (Kf:=Kf) (b0:=b0) H rfl hnWg hb hke
    (h7 Wg l0) (h7t Wg) (h8 Wg l0) (λi g a w=>h9 Wg i g _ a w) h9g (λi g a=>h9d Wg i g _ a) (λi g a w=>hM Wg i g _ a w) hMg (λi g a=>hMd Wg i g _ a) (λi g a w=>hG Wg i g _ a w) hGg (λi g a=>hGd Wg i g _ a) (h11 Wg l0) (λa w=>h12 Wg _ a w) h12g
    (λi g own w hi hok=>hW p (ZC hid l0) i g w rfl (.inl (hvis Bx _ hbxi).1) rfl rfl rfl rfl hi hle hcap λds=>ok_worker (p:=p) hfl0 (λk o hk=>(hl0 k o hk).1) (λk hk=>⟨w1.heap[k]'(hlt0 k hk.1),by rw[hl0i k hk.1];exact Array.getElem?_eq_getElem _⟩) hok i ds)
    (λown a w hkn hok=>⟨a,rfl,hkn,hok⟩) N (Nat.le_refl _)
   rw[Nat.sub_self] at key
   have ok0:OK (frP L.tWg Wg S0 (λ_=>False) (fr.mkd Ds).ds) [] (geL l0::FP) ((w1.at d).alloc (wgBlock L.tWg 0 0)):=by
    have him:∀k o,l0 k=some o->imm (frP L.tWg Wg S0 (λ_=>False) (fr.mkd Ds).ds) [] ((w1.at d).alloc (wgBlock L.tWg 0 0)).heap k=some o:=λk o hk=>by
     obtain⟨h1,h2⟩:=hl0 k o hk;have h3:=hlt0 k h1;show(if(((none:Option Obj).isSome) ||(ids []).contains k)=true then none else(frP L.tWg Wg S0 (λ_=>False) (fr.mkd Ds).ds).see _ k)=some o;rw[if_neg (by simp[ids]),CF.XV (c:=frP L.tWg Wg S0 (λ_=>False) (fr.mkd Ds).ds) (.inr ⟨h1,λe:k=Wg=>hnWg (e ▸ h1)⟩),hkeep k h3];exact h2
    refine⟨⟨λk o hk=>(by cases hk),λk hk=>?_,λk hk=>⟨?_,λh=>h⟩⟩,λk hk=>(by simp[ids] at hk),by simp[ids],λb hb=>(by cases hb),λf hf=>?_⟩
    ·rcases hk with hk|hk
     ·exact hk.elim
     ·have:=hlt0 k hk;omega
    ·have:k=Wg:=hk;rw[this,hsz];exact Nat.lt_succ_self _
    ·rcases List.mem_cons.1 hf with rfl|hf
     ·exact him
     ·refine(hfl0 f hf).1.to (hfl0 f hf).2 λk o hk=>?_;unfold ZC at hk;split at hk
      ·cases hk
      ·exact him k o hk
   have kn0:Kn (fr.mkd Ds).ds n (a.put o5.dst (.pointer (some ⟨Wg,0,none⟩))) (E0 Wg):=by
    rw[h5d];exact(hk.put hd5 _).sub (hE0 Wg)
   show Spw P L.tWg Wg S0 (Wrk P p) (AnW S0 L Wg Kf) (b0+N) b0 N (λ_=>False) _ _;rw[hXe];refine Run.quiet rfl (λ_=>Jr) ?_;refine Run.quiet rfl (λ_=>Xc) ?_;refine Run.quiet rfl (λ_=>Xc) ?_;refine Z8 (h6 Wg l0) kn0 ok0 hke λJ0 a1 w1' e1 bx1 F1 k1 o1 ⟨s1,f1⟩=>?_;refine Run.quiet rfl (λ_=>Z3) ?_;refine Run.quiet rfl (λ_=>Gk) ?_;have:=key J0 a1 w1' (k1.sub s1) ((o1.drop (List.nil_sublist _)).XR f1.all);show MR P L.tWg Wg S0 X J0 _ w1';rw[<-hXe];exact this
  ·obtain⟨G0,⟨mt,ht⟩,hkf⟩:=hFin;have hsub:∀k,fr.own k->(∃x,o x k\/gv x k)\/(fr.own k/\k≠C)\/k=C:=λk hk=>.inr (by by_cases e:k=C;exact .inr e;exact .inl ⟨hk,e⟩);refine run_tail (by rw[hmain];rfl) mt a' w' ht λw2 hr2=>?_;obtain⟨a2,rfl,hk2,ho2⟩:=hkf w' (.refl _ _ _);rw[<-Frame.atR_of_none hb];refine Run.quiet rfl (λ_=>Jr) ?_
   have hst:∀k,S0 k->w'.heap[k]?=w1.heap[k]?:=λk hk=>by
    have h1:=hlt0 k hk;have h2:l0 k=some w1.heap[k]:=by rw[hl0i k hk];exact Array.getElem?_eq_getElem h1
    rw[Jg (ho2.facts _ (List.mem_cons_self ..) k _ h2)];exact(Array.getElem?_eq_getElem h1).symm
   have hex:∀i,∃vf:List Value×Fct,i<N->Rr i vf.1 vf.2/\VK C m w' i vf.1/\vf.2.free/\∃x,vf.2.p ⟨XG P,ZC hid (JV (λk=>gv x k\/S0 k) w')⟩:=λi=>by
    by_cases hi:i<N
    ·obtain⟨x,vs,h1,f,h2,h3,h4⟩:=hrows i hi;exact⟨(vs,f),λ_=>⟨h2,h1,h3,x,h4⟩⟩
    ·exact⟨([],isX P),λh=>absurd h hi⟩
   let vs:Nat->List Value:=λi=>(hex i).choose.1
   let fs:Nat->Fct:=λi=>(hex i).choose.2
   have hvf:∀i,i<N->Rr i (vs i) (fs i)/\VK C m w' i (vs i)/\(fs i).free/\∃x,(fs i).p ⟨XG P,ZC hid (JV (λk=>gv x k\/S0 k) w')⟩:=λi hi=>(hex i).choose_spec hi;obtain⟨cs',hc1,hc2⟩:=hMI.pay
   have hsee:∀k ob,((∃x,o x k\/gv x k)\/(fr.own k/\k≠C)\/k=C)->(fr.mkd Ds).fr k=none->k∉ids br->w'.heap[k]?=some ob->imm ((fr.at λk=>(∃x,o x k\/gv x k)\/(fr.own k/\k≠C)\/k=C).mkd Ds) br w'.heap k=some ob:=λk ob h1 h2 h3 h4=>by
    show(if(((fr.mkd Ds).fr k).isSome ||(ids br).contains k)=true then none else((fr.at λk=>(∃x,o x k\/gv x k)\/(fr.own k/\k≠C)\/k=C).mkd Ds).see w'.heap k)=some ob;rw[if_neg (by simp[h2,h3]),CF.XV (c:=(fr.at λk=>(∃x,o x k\/gv x k)\/(fr.own k/\k≠C)\/k=C).mkd Ds) (.inl h1)];exact h4
   have hfrC:∀k ob,(fr.mkd Ds).fr k=some ob->S0 k/\w1.heap[k]?=some ob:=λk ob hk=>by
    have:=ho1.frame.1 k ob hk;exact⟨.inl ⟨this.1,λe=>by rw[e,hCo.2] at hk;cases hk⟩,this.2⟩
   have hbrS:∀k,k∈ids br->S0 k:=λk hk=>.inl ⟨(ho1.apart k (by simp only[ids,List.flatMap_cons,List.mem_append];exact .inr hk)).1,λe=>hnd.1 (e ▸ hk)⟩
   have hOK:OK ((fr.at λk=>(∃x,o x k\/gv x k)\/(fr.own k/\k≠C)\/k=C).mkd Ds) br (slC (.slice (some ⟨C,0,none⟩) N cap) N m (Jb m vs)::allF N fs::F) w':=by
    have hF0:∀f∈F,f.p (imm ((fr.at λk=>(∃x,o x k\/gv x k)\/(fr.own k/\k≠C)\/k=C).mkd Ds) br w'.heap):=λf hf=>f.mono (imm (fr.mkd Ds) (Ow.slice (.slice (some ⟨C,0,none⟩) N cap) ety m cs::br) w1.heap) _ (.mk rfl λk ob hk=>by
     have h1:=hvis k ob hk;exact hsee k ob (.inr (.inl h1.1)) h1.2.1 h1.2.2 ((hst k (.inl h1.1)).trans (Jg hk))) (ho1.facts f hf)
    refine⟨⟨λk ob hk=>?_,λk hk=>?_,λk hk=>?_⟩,λk hk=>?_,hnd.2,λb hb=>?_,λf hf=>?_⟩
    ·have h1:=hfrC k ob hk;exact⟨.inr (h1.1.elim .inl λh=>absurd h (hsh k)),(hst k h1.1).trans h1.2⟩
    ·rcases hk with (⟨x,hx⟩|hx|hx)|hx
     ·exact hMI.lt x k hx
     ·exact hMI.lt0 k (.inl hx)
     ·rw[hx];exact hMI.wg.2.1
     ·exact absurd hx (hsh k)
    ·have hk:fr.main.no k:=hk;rw[hmain] at hk;exact hk.elim
    ·have h1:=hbrS k hk;exact⟨.inr (h1.elim .inl λh=>absurd h (hsh k)),(ho1.apart k (by simp only[ids,List.flatMap_cons,List.mem_append];exact .inr hk)).2⟩
    ·exact Ow.JK (ho1.owns b (List.mem_cons_of_mem _ hb)) λk hk=>hst k (hbrS k (Jd.2 ⟨b,hb,hk⟩))
    ·rcases List.mem_cons.1 hf with rfl|hf
     ·refine⟨some ⟨C,0,none⟩,cap,rfl,hle,hcap,.inr ⟨C,0,rfl,cs',ety,(0,0),hsee C _ (.inr (.inr rfl)) hCo.2 hnd.1 hc1,λj hj=>?_⟩⟩;have hjm:j/m<N:=(Nat.div_lt_iff_lt_mul hm).2 hj;have hjr:j%m<m:=Nat.mod_lt _ hm;obtain⟨-,⟨h2,h3⟩,-⟩:=hvf (j/m) hjm;have h4:=h3 (j%m) hjr;rw[Nat.div_add_mod] at h4;have h5:w'.cell? ⟨C,j,none⟩=cs'[j]?:=by simp[World.cell?,show w'.heap[C]?=some (.cells cs' ety (0,0)) from hc1]
      rw[h5] at h4;rw[Nat.zero_add,h4];show _=some (Jb m vs j);unfold Jb;rw[List.getD_eq_getElem?_getD,List.getElem?_eq_getElem (by rw[h2];exact hjr)];rfl
     ·rcases List.mem_cons.1 hf with rfl|hf
      ·intro i hi;obtain⟨-,-,h3,x,h4⟩:=hvf i hi;refine h3.to h4 λk ob hk=>?_;unfold ZC at hk;split at hk
       ·cases hk
       ·rename_i hnh
        unfold JV at hk;split at hk
        ·rename_i hx
         have hkn:k<w'.heap.size:=(Array.getElem?_eq_some_iff.1 hk).1;rcases hx with hx|hx
         ·have hns:¬S0 k:=hMI.frz x k (.inr hx);refine hsee k ob (.inl ⟨x,.inr hx⟩) ?_ (λh=>hns (hbrS k h)) hk;cases hfk:(fr.mkd Ds).fr k with
          |none=>rfl
          |some ob'=>exact absurd (hfrC k ob' hfk).1 hns
         ·refine hsee k ob (.inr (hx.elim .inl λh=>absurd h (hsh k))) ?_ (λh=>hnh ⟨hx,.inr h⟩) hk;cases hfk:(fr.mkd Ds).fr k with
          |none=>rfl
          |some ob'=>exact absurd ⟨hx,.inl (by rw[hfk];simp)⟩ hnh
        ·cases hk
      ·exact hF0 f hf
   exact hR Wg vs fs (λi hi=>⟨(hvf i hi).1,(hvf i hi).2.1.1⟩) (fr.at λk=>(∃x,o x k\/gv x k)\/(fr.own k/\k≠C)\/k=C) Ds w0 _ w2 hDn hD (h12d Wg _ a2 hk2) (((hr.trans hr1.rest).trans hMI.rest).trans hr2.rest) (hOK.rely hr2) b k Cs Stop hb hke λown3 ex a3 w3 hq=>hc own3 ex a3 w3 (postX.up hq hsub)
 rw[<-hmain] at hSp;exact hSp
end
end W
end
section
open W Go.RowKit
inductive Cut:Nat->Nat->List Value->List Value->Prop where
 |done {cs:List Value}:Cut 0 0 cs []
 |take {m:Nat} {c:Value} {cs us:List Value}:Cut 0 m cs us->Cut 0 (m+1) (c::cs) (c::us)
 |drop {q m:Nat} {c:Value} {cs us:List Value}:Cut q m cs us->Cut (q+1) m (c::cs) us
def Cut.len{q m:Nat}{cs us:List Value}(h:Cut q m cs us):us.length=m:=by
 induction h with
 |done=>rfl
 |take _ ih=>simp[ih]
 |drop _ ih=>exact ih
def Cut.eq{q m:Nat}{cs us:List Value}(h:Cut q m cs us):(cs.drop q).take m=us:=by
 induction h with
 |done=>simp
 |take _ ih=>simpa using ih
 |drop _ ih=>simpa using ih
def Cut.get{q m:Nat}{cs us:List Value}(h:Cut q m cs us){i:Nat}(hi:i<m):cs[q+i]?=us[i]?:=by
 rw[<-h.eq,List.getElem?_take,if_pos hi,List.getElem?_drop]
inductive Off(w:Nat):Nat->Nat->Nat->Prop where
 |base {k:Nat}:Off w (k*w) k 0
 |add {j k o a r:Nat}:Off w j k o->o+a=r->Off w (j+a) k r
def Off.eq{w j k o:Nat}(h:Off w j k o):j=k*w+o:=by
 induction h with
 |base=>rfl
 |add _ e ih=>omega
structure Shp(M α:Type) where
 w:Nat
 cs:M->α->List Value
 fc:M->α->Fct
 pos:0<w
 len:∀m a,(cs m a).length=w
def dm{w k j:Nat}(h1:k*w<=j)(h2:j<k*w+w):j/w=k/\j%w=j-k*w:=by
 obtain⟨r,rfl⟩:=Nat.exists_eq_add_of_le h1;have hr:r<w:=qo;rw[Nat.mul_comm k w,Nat.mul_add_div qo,Nat.div_eq_of_lt hr,Nat.mul_add_mod,Nat.mod_eq_of_lt hr];omega
def dm_ne{w k j:Nat}(h0:0<w)(h:¬(k*w<=j/\j<k*w+w)):j/w≠k:=λe=>h (by
 have h1:=Nat.div_add_mod j w;have h2:=Nat.mod_lt j h0;rw[e,Nat.mul_comm] at h1;omega)
def Gq{w:Nat}{f:Nat->List Value}(hl:∀k,(f k).length=w){k r:Nat}(hr:r<w):(f k)[r]?=some (Jb w f (k*w+r)):=by
 have h0:0<w:=qo;unfold Jb;rw[Nat.mul_comm,Nat.mul_add_div h0,Nat.div_eq_of_lt hr,Nat.add_zero,Nat.mul_add_mod,Nat.mod_eq_of_lt hr];exact Yx (hl k) hr
section
variable {M α:Type}{S:Shp M α}{P:Program}{e:Env}{bx bx':List Ow}{F:List Fct}{ty t el:TypeId}{v u:Value}{x y:Operand}{n k j o m:Nat}{ms:Nat->M}{xs:Nat->α}{us:List Value}{K:Qg}{mm:M}{aa:α}
abbrev Z1(S:Shp M α)(ms:Nat->M)(xs:Nat->α)(j:Nat):Value:=Jb S.w (λk=>S.cs (ms k) (xs k)) j
def lF(S:Shp M α)(v:Value)(n:Nat)(ms:Nat->M)(xs:Nat->α):Fct where
 p h:=(slC v n S.w (Z1 S ms xs)).p h/\∀k,k<n->(S.fc (ms k) (xs k)).p h
 mono _ _ hl hp:=⟨(slC _ _ _ _).mono _ _ hl hp.1,λk hk=>(S.fc _ _).mono _ _ hl (hp.2 k hk)⟩
def lM(S:Shp M α)(n:Nat)(ms:Nat->M)(xs:Nat->α):Fct where
 p h:=∀k,k<n->(S.fc (ms k) (xs k)).p h
 mono _ _ hl hp k hk:=(S.fc _ _).mono _ _ hl (hp k hk)
def W.Has.ls(h:Has F (lF S v n ms xs)):Has F (slC v n S.w (Z1 S ms xs)):=λp hf=>(h p hf).1
def W.Has.lm(h:Has F (lF S v n ms xs)):Has F (lM S n ms xs):=λp hf=>(h p hf).2
def W.Has.mk(h:Has F (lM S n ms xs))(hk:k<n):Has F (S.fc (ms k) (xs k)):=λp hf=>h p hf k hk
def W.Has.lk(h:Has F (lF S v n ms xs))(hk:k<n):Has F (S.fc (ms k) (xs k)):=h.lm.mk hk
def W.Has.lnil:Has F (lF S (.slice none 0 0) 0 ms xs):=λp _=>⟨⟨none,0,rfl,Nat.le_refl _,by unfold maxLen;omega,.inl ⟨rfl,rfl,rfl⟩⟩,λk hk=>absurd hk qo⟩
def W.Has.HS:Has F (lM S 0 ms xs):=λp _ k hk=>absurd hk qo
def KnS.lf(h:Has F (lF S v n ms xs)):KnS bx F v n:=KnS.f h.ls
def HT{w k n o m:Nat}(hk:k<n)(ho:o+m<=w):k*w+o+m<=n*w:=by
 have:=Nat.mul_le_mul_right w (Nat.succ_le_of_lt hk);rw[Nat.succ_mul] at this;omega
def cut_le{q m:Nat}{cs us:List Value}(h:Cut q m cs us)(h0:0<m):q+m<=cs.length:=by
 have h1:=h.get (i:=m-1) qo;have h2:=h.len;rw[List.getElem?_eq_getElem (show m-1<us.length by omega)] at h1;have:=(List.getElem?_eq_some_iff.1 h1).1;omega
def YO.ldL(hs:Row P t m)(hx:ev e x=some (.pointer (some (eaddr v j))))(hf:Has F (lF S v n ms xs))(ho:Off S.w j k o)(hk:k<n)(h0:0<m)(hc:Cut o m (S.cs (ms k) (xs k)) us):YO P (.load t x) ty e bx F (.agg us.toArray):=by
 obtain rfl:=ho.eq;have h1:=cut_le hc h0;rw[S.len] at h1
 exact YO.ldRS (us:=us) hs hx hf.ls (HT hk h1) hc.len λi hi=>by
  rw[<-hc.get hi,Nat.add_assoc];exact Gq (λk=>S.len _ _) qo
def YO.ldLs{c:Value}(hs:Qk P t)(hx:ev e x=some (.pointer (some (eaddr v j))))(hf:Has F (lF S v n ms xs))(ho:Off S.w j k o)(hk:k<n)(hc:Cut o 1 (S.cs (ms k) (xs k)) [c]):YO P (.load t x) ty e bx F c:=by
 obtain rfl:=ho.eq;have h1:=cut_le hc qo;rw[S.len] at h1;have h2:=hc.get (i:=0) qo;rw[Nat.add_zero,Gq (λk=>S.len (ms k) (xs k)) qo] at h2;have h3:Z1 S ms xs (k*S.w+o)=c:=by simpa using h2
 rw[<-h3];exact YO.ldS hs hx hf.ls (by have:=HT hk h1;omega)
def YO.ldC{tg g q:Nat}{cs:List Value}(hs:Row P t m)(hx:ev e x=some (.pointer (some ⟨g,q,none⟩)))(hb:Ow.cells g tg cs∈bx)(hc:Cut q m cs us):YO P (.load t x) ty e bx F (.agg us.toArray):=YO.ldRB hs hx hb hc.len hc.eq
def YO.ldCk{tg g q:Nat}{cs:List Value}(hs:Row P t m)(hx:ev e x=some (.pointer (some ⟨g,q,none⟩)))(hb:Has F (ce g tg cs))(hc:Cut q m cs us):YO P (.load t x) ty e bx F (.agg us.toArray):=
 YO.ldRow (by rw[hc.len];exact hs) hx rfl λfr w ho i v hv=>by
  have hi:i<m:=by rw[<-hc.len];exact(List.getElem?_eq_some_iff.1 hv).1
  rw[ce_cell ho hb,hc.get hi];exact hv
abbrev Qt(S:Shp M α)(n:Nat)(ms:Nat->M)(xs:Nat->α):List Value:=XM (n*S.w) (Z1 S ms xs)
abbrev lO(S:Shp M α)(v:Value)(el n:Nat)(ms:Nat->M)(xs:Nat->α):Ow:=Ow.slice v el S.w (Qt S n ms xs)
def KnS.lo(h:lO S v el n ms xs∈bx):KnS bx F v n:=KnS.o h (Qy _ _) S.pos
def UL:Qt S n ms xs++S.cs mm aa=Qt S (n+1) (upd ms n mm) (upd xs n aa):=by
 refine Jn (by rw[List.length_append,Qy,S.len,Nat.succ_mul]) λj hj=>?_;have hp:=S.pos;by_cases h:j<n*S.w
 ·rw[List.getElem?_append_left (by rw[Qy];exact h),QW h];have hn:j/S.w≠n:=by have:=(Nat.div_lt_iff_lt_mul hp).2 h;omega
  show some (Jb S.w _ j)=some (Jb S.w _ j);unfold Jb;simp only;rw[upd_ne hn,upd_ne hn]
 ·have hj2:j<n*S.w+S.w:=by rw[Nat.succ_mul] at hj;exact hj
  obtain⟨hd,hm⟩:=dm (Nat.le_of_not_lt h) hj2;rw[List.getElem?_append_right (by rw[Qy];omega),Qy,Yx (S.len mm aa) qo];show some _=some (Jb S.w _ j);unfold Jb;simp only;rw[hd,hm,QB,QB]
def UM(h:k<n):Q5 (Qt S n ms xs) (k*S.w) (S.cs mm aa)=Qt S n (upd ms k mm) (upd xs k aa):=by
 have hp:=S.pos
 have hle:k*S.w+(S.cs mm aa).length<=(Qt S n ms xs).length:=by
  rw[Qy,S.len];have:=HT (w:=S.w) (o:=0) (m:=S.w) h qo;omega
 refine Jn (by rw[YP hle,Qy]) λj hj=>?_;rw[KT hle,S.len];show _=some (Jb S.w _ j);unfold Jb;simp only;split
 ·rename_i hx
  obtain⟨hd,hm⟩:=dm hx.1 hx.2;rw[Yx (S.len mm aa) qo,hd,hm,QB,QB]
 ·rename_i hx
  have hd:=dm_ne hp hx;rw[QW hj];show some (Jb S.w _ j)=_;unfold Jb;simp only;rw[upd_ne hd,upd_ne hd]
def W.Has.mset(h:Has F (lM S n ms xs))(hm:Has F (S.fc mm aa)):Has F (lM S n (upd ms k mm) (upd xs k aa)):=λp hf i hi=>by
 by_cases c:i=k
 ·subst c;rw[QB,QB];exact hm p hf
 ·rw[upd_ne c,upd_ne c];exact h p hf i hi
def W.Has.mapp(h:Has F (lM S n ms xs))(hm:Has F (S.fc mm aa)):Has F (lM S (n+1) (upd ms n mm) (upd xs n aa)):=λp hf i hi=>by
 by_cases c:i=n
 ·subst c;rw[QB,QB];exact hm p hf
 ·rw[upd_ne c,upd_ne c];exact h p hf i qo
def W.OK.Q3{fr:CF}{w:World}(h:OK fr bx F w)(hs:Sel bx (lO S v el n ms xs) (.slice (.slice none 0 0) el S.w []) bx')(hm:Has F (lM S n ms xs)):OK fr bx' (lF S v n ms xs::F) w:=by
 have h1:=OK.freeze (n:=n) (sz:=S.w) h hs (Qy _ _) S.pos (Z1 S ms xs) λj hj=>QW hj;refine⟨h1.frame,h1.apart,h1.nodup,h1.owns,λf hf=>?_⟩;have hF:∀f∈F,f.p (imm fr bx' w.heap):=λf hf=>h1.facts f (List.mem_cons_of_mem _ hf);rcases List.mem_cons.1 hf with rfl|hf
 ·exact⟨h1.facts _ (List.mem_cons_self ..),hm _ hF⟩
 ·exact hF f hf
def WC.Q3{n':Nat}{c:Code}{Q:Post}(hs:Sel bx (lO S v el n ms xs) (.slice (.slice none 0 0) el S.w []) bx')(hm:Has F (lM S n ms xs))(h:WC P n' c e bx' (lF S v n ms xs::F) Q):WC P n' c e bx F Q:=λfr w0 a w hk hr ho=>h fr w0 a w hk hr (ho.Q3 hs hm)
def WL.Q3{n':Nat}{L rest:List Oper}{Q:Env->List Ow->List Fct->Prop}(hs:Sel bx (lO S v el n ms xs) (.slice (.slice none 0 0) el S.w []) bx')(hm:Has F (lM S n ms xs))(h:WL P n' L rest e bx' (lF S v n ms xs::F) Q):WL P n' L rest e bx F Q:=λfr w0 a w Q' hQ hk hr ho=>h fr w0 a w Q' hQ hk hr (ho.Q3 hs hm)
def Qm.lo(hb:lO S v el n ms xs∈bx)(hm:Has F (lM S n ms xs)):Qm bx F (lF S v n ms xs):=λfr w' ho=>
 ⟨Qm.o hb (Qy _ _) S.pos (λj hj=>QW hj) fr w' ho,Qm.f hm fr w' ho⟩
def LO.storeOL(hx:ev e x=some (.pointer (some (eaddr v (k*S.w)))))(hy:ev e y=some (.agg (S.cs mm aa).toArray))(hr:Row P t S.w)(h1:QP bx F (S.cs mm aa))(hs:Sel bx (lO S v el n ms xs) (lO S v el n (upd ms k mm) (upd xs k aa)) bx')(hk:k<n)
  (h:K undef bx' F):LO P (.store t x y) ty e bx F K:=
 LO.storeOR (vs:=S.cs mm aa) hx hy (by rw[S.len];exact hr) h1 hs (by rw[Qy,S.len];have:=HT (w:=S.w) (o:=0) (m:=S.w) hk qo;omega) (by rw[S.len];exact S.pos) (UM hk) h
def LO.appL{el' t1 b:TypeId}{z:Value}{bx2:Value->List Ow}(he:Xg P t1 el S.w z b)(hx:ev e x=some v)(hy:ev e y=some u)(hu:Ow.slice u el' S.w (S.cs mm aa)∈bx)(h1:QP bx F (S.cs mm aa))(hs:∀v',Sel bx (lO S v el n ms xs) (lO S v' el (n+1) (upd ms n mm) (upd xs n aa)) (bx2 v'))(hb:b<=1000)(hw:S.w<=100)(hl:n<=1000000)(h:∀v',K v' (bx2 v') F) :
  LO P (.call {callee:=.builtin .append,args:=#[x,y],argTypes:=#[t1,t1]}) ty e bx F K:=by
 refine LO.byP (λfr w ho=>h1.all ho) λh1=>?_;have hw1:n*S.w<=1000000*100:=Nat.mul_le_mul hl hw;have hp:=S.pos
 exact LO.append he hx hy (news:=S.cs mm aa) (by rw[UL];exact hs) (Qa.one hu (S.len _ _) qo) h1 (by
  rw[Qy,S.len];have:=Nat.mul_le_mul (show n*S.w+S.w<=100000100 by omega) hb;omega) (by rw[Qy,S.len];omega) h
end
end
section
namespace T
open W
def s31:Qw Tryz.prog 31 88 20:=Qw.of kr
def sc31:Qk Tryz.prog 31:=Qk.of kr
def s32:Qw Tryz.prog 32 93 30:=Qw.of kr
def sc32:Qk Tryz.prog 32:=Qk.of kr
def e32:Xg Tryz.prog 32 93 30 (.agg #[.int .i64 0,.int .i64 0,.bool false,.slice none 0 0,.bool false,.slice none 0 0,.bool false,.slice none 0 0,.bool false,.slice none 0 0,.bool false,.slice none 0 0,.bool false,.slice none 0 0,.bool false,.slice none 0 0,.bool false,.slice none 0 0,.bool false,.slice none 0 0,.bool false,.slice none 0 0,.bool false,.slice none 0 0,.bool false,.slice none 0 0,.bool false,.slice none 0 0,.bool false,.slice none 0 0]) 464:=⟨by kernel_rfl,by kernel_rfl,by kernel_rfl,by decide⟩
def s37:Qw Tryz.prog 37 125 1:=Qw.of kr
def sc37:Qk Tryz.prog 37:=Qk.of kr
def e37:Xg Tryz.prog 37 125 1 (.slice none 0 0) 24:=⟨by kernel_rfl,by kernel_rfl,by kernel_rfl,by decide⟩
def f39_0:Qj Tryz.prog 39 0 0:=Qj.of kr
def r39:Row Tryz.prog 39 1:=Row.of kr
def al39:Qv Tryz.prog 39 [.slice none 0 0]:=Qv.of (z:=.agg #[.slice none 0 0]) kr kr
def f63_0:Qj Tryz.prog 63 0 0:=Qj.of kr
def f63_1:Qj Tryz.prog 63 1 1:=Qj.of kr
def r63:Row Tryz.prog 63 2:=Row.of kr
def al63:Qv Tryz.prog 63 [.int .i64 0,.slice none 0 0]:=Qv.of (z:=.agg #[.int .i64 0,.slice none 0 0]) kr kr
def f77_0:Qj Tryz.prog 77 0 0:=Qj.of kr
def f77_1:Qj Tryz.prog 77 1 4:=Qj.of kr
def r77:Row Tryz.prog 77 8:=Row.of kr
def al77:Qv Tryz.prog 77 [.bool false,.slice none 0 0,.bool false,.slice none 0 0,.bool false,.slice none 0 0,.bool false,.slice none 0 0]:=Qv.of (z:=.agg #[.bool false,.slice none 0 0,.bool false,.slice none 0 0,.bool false,.slice none 0 0,.bool false,.slice none 0 0]) kr kr
def f88_0:Qj Tryz.prog 88 0 0:=Qj.of kr
def f88_1:Qj Tryz.prog 88 1 8:=Qj.of kr
def f88_2:Qj Tryz.prog 88 2 12:=Qj.of kr
def f88_3:Qj Tryz.prog 88 3 16:=Qj.of kr
def r88:Row Tryz.prog 88 20:=Row.of kr
def al88:Qv Tryz.prog 88 [.bool false,.slice none 0 0,.bool false,.slice none 0 0,.bool false,.slice none 0 0,.bool false,.slice none 0 0,.bool false,.slice none 0 0,.bool false,.slice none 0 0,.bool false,.slice none 0 0,.bool false,.slice none 0 0,.bool false,.slice none 0 0,.bool false,.slice none 0 0]:=Qv.of (z:=.agg #[.bool false,.slice none 0 0,.bool false,.slice none 0 0,.bool false,.slice none 0 0,.bool false,.slice none 0 0,.bool false,.slice none 0 0,.bool false,.slice none 0 0,.bool false,.slice none 0 0,.bool false,.slice none 0 0,.bool false,.slice none 0 0,.bool false,.slice none 0 0]) kr kr
def f93_0:Qj Tryz.prog 93 0 0:=Qj.of kr
def f93_1:Qj Tryz.prog 93 1 1:=Qj.of kr
def f93_2:Qj Tryz.prog 93 2 2:=Qj.of kr
def f93_3:Qj Tryz.prog 93 3 10:=Qj.of kr
def f93_4:Qj Tryz.prog 93 4 18:=Qj.of kr
def f93_5:Qj Tryz.prog 93 5 26:=Qj.of kr
def r93:Row Tryz.prog 93 30:=Row.of kr
def al93:Qv Tryz.prog 93 [.int .i64 0,.int .i64 0,.bool false,.slice none 0 0,.bool false,.slice none 0 0,.bool false,.slice none 0 0,.bool false,.slice none 0 0,.bool false,.slice none 0 0,.bool false,.slice none 0 0,.bool false,.slice none 0 0,.bool false,.slice none 0 0,.bool false,.slice none 0 0,.bool false,.slice none 0 0,.bool false,.slice none 0 0,.bool false,.slice none 0 0,.bool false,.slice none 0 0,.bool false,.slice none 0 0]:=Qv.of (z:=.agg #[.int .i64 0,.int .i64 0,.bool false,.slice none 0 0,.bool false,.slice none 0 0,.bool false,.slice none 0 0,.bool false,.slice none 0 0,.bool false,.slice none 0 0,.bool false,.slice none 0 0,.bool false,.slice none 0 0,.bool false,.slice none 0 0,.bool false,.slice none 0 0,.bool false,.slice none 0 0,.bool false,.slice none 0 0,.bool false,.slice none 0 0,.bool false,.slice none 0 0,.bool false,.slice none 0 0]) kr kr
def s125:Qw Tryz.prog 125 127 8:=Qw.of kr
def KS:Qk Tryz.prog 125:=Qk.of kr
def e125:Xg Tryz.prog 125 127 8 (.agg #[.bool false,.slice none 0 0,.bool false,.slice none 0 0,.bool false,.slice none 0 0,.bool false,.slice none 0 0]) 128:=⟨by kernel_rfl,by kernel_rfl,by kernel_rfl,by decide⟩
def f127_0:Qj Tryz.prog 127 0 0:=Qj.of kr
def f127_1:Qj Tryz.prog 127 1 4:=Qj.of kr
def r127:Row Tryz.prog 127 8:=Row.of kr
def al127:Qv Tryz.prog 127 [.bool false,.slice none 0 0,.bool false,.slice none 0 0,.bool false,.slice none 0 0,.bool false,.slice none 0 0]:=Qv.of (z:=.agg #[.bool false,.slice none 0 0,.bool false,.slice none 0 0,.bool false,.slice none 0 0,.bool false,.slice none 0 0]) kr kr
def s159:Qw Tryz.prog 159 163 38:=Qw.of kr
def Vq:Qk Tryz.prog 159:=Qk.of kr
def al159:Qv Tryz.prog 159 [.slice none 0 0]:=Qv.of (z:=.slice none 0 0) kr kr
def e159:Xg Tryz.prog 159 163 38 (.agg #[.bool false,.slice none 0 0,.bool false,.slice none 0 0,.bool false,.slice none 0 0,.bool false,.slice none 0 0,.int .i64 0,.int .i64 0,.bool false,.slice none 0 0,.bool false,.slice none 0 0,.bool false,.slice none 0 0,.bool false,.slice none 0 0,.bool false,.slice none 0 0,.bool false,.slice none 0 0,.bool false,.slice none 0 0,.bool false,.slice none 0 0,.bool false,.slice none 0 0,.bool false,.slice none 0 0,.bool false,.slice none 0 0,.bool false,.slice none 0 0,.bool false,.slice none 0 0,.bool false,.slice none 0 0]) 592:=⟨by kernel_rfl,by kernel_rfl,by kernel_rfl,by decide⟩
def f163_0:Qj Tryz.prog 163 0 0:=Qj.of kr
def f163_1:Qj Tryz.prog 163 1 8:=Qj.of kr
def r163:Row Tryz.prog 163 38:=Row.of kr
def al163:Qv Tryz.prog 163 [.bool false,.slice none 0 0,.bool false,.slice none 0 0,.bool false,.slice none 0 0,.bool false,.slice none 0 0,.int .i64 0,.int .i64 0,.bool false,.slice none 0 0,.bool false,.slice none 0 0,.bool false,.slice none 0 0,.bool false,.slice none 0 0,.bool false,.slice none 0 0,.bool false,.slice none 0 0,.bool false,.slice none 0 0,.bool false,.slice none 0 0,.bool false,.slice none 0 0,.bool false,.slice none 0 0,.bool false,.slice none 0 0,.bool false,.slice none 0 0,.bool false,.slice none 0 0,.bool false,.slice none 0 0]:=Qv.of (z:=.agg #[.bool false,.slice none 0 0,.bool false,.slice none 0 0,.bool false,.slice none 0 0,.bool false,.slice none 0 0,.int .i64 0,.int .i64 0,.bool false,.slice none 0 0,.bool false,.slice none 0 0,.bool false,.slice none 0 0,.bool false,.slice none 0 0,.bool false,.slice none 0 0,.bool false,.slice none 0 0,.bool false,.slice none 0 0,.bool false,.slice none 0 0,.bool false,.slice none 0 0,.bool false,.slice none 0 0,.bool false,.slice none 0 0,.bool false,.slice none 0 0,.bool false,.slice none 0 0,.bool false,.slice none 0 0]) kr kr
def Vj:Qk Tryz.prog 166:=Qk.of kr
end T
end
section
namespace Bl
open X
structure Vc where
 x:Rat
 y:Rat
structure Bd where
 c:Vc
 lo:Rat
 hi:Rat
 st:Rat
structure Tc where
 a:Int
 b:Int
 p:Vc
 q:Vc
 n:Vc
 r:Rat
structure Sc where
 n:Nat
 m:Nat
 B:Nat->Bd
 T:Nat->Tc
def JE(a b:Vc):Rat:=a.x*b.y-a.y*b.x
def XY(a b:Vc):Vc:=⟨a.x-b.x,a.y-b.y⟩
def Sc.at(S:Sc)(k:Nat):Vc:=if k%2=0 then(S.T (k/2)).p else(S.T (k/2)).q
def on(t:Tc)(i:Nat)(f:Vc):Vc:=if t.a=(i:Int) then f else if t.b=(i:Int) then⟨-f.x,-f.y⟩ else⟨0,0⟩
def turn(n:Vc):Vc:=⟨-n.y,n.x⟩
def frc(t:Tc)(u v:Rat):Vc:=⟨u*t.n.x-v*t.n.y,u*t.n.y+v*t.n.x⟩
def ab(a:Rat):Rat:=if a<0 then -a else a
def spn(n:Vc):Rat:=ab n.x+ab n.y
def tch(t:Tc)(i:Nat):Prop:=t.a=(i:Int)\/t.b=(i:Int)
instance (t:Tc)(i:Nat):Decidable (tch t i):=by unfold tch;exact inferInstance
def Bal(S:Sc)(w:Nat->Rat)(u v:Nat->Rat):Prop:=
 (∀k,k<2*S.m->0<=u k/\v k<=(S.T (k/2)).r*u k/\-v k<=(S.T (k/2)).r*u k)/\
 ∀i,i<S.n->sm (2*S.m) (λk=>(on (S.T (k/2)) i (frc (S.T (k/2)) (u k) (v k))).x)=0/\sm (2*S.m) (λk=>(on (S.T (k/2)) i (frc (S.T (k/2)) (u k) (v k))).y)=w i/\
  sm (2*S.m) (λk=>JE (XY (S.at k) (S.B i).c) (on (S.T (k/2)) i (frc (S.T (k/2)) (u k) (v k))))=0/\
  sm (2*S.m) (λk=>if tch (S.T (k/2)) i then spn (S.T (k/2)).n*u k else 0)<=(S.B i).st
def dir(t:Tc)(j:Nat):Vc:=if j%2=0 then t.n else turn t.n
def co3(S:Sc)(i s j:Nat):Rat:=
 if s=0 then(on (S.T (j/4)) i (dir (S.T (j/4)) j)).x else if s=1 then(on (S.T (j/4)) i (dir (S.T (j/4)) j)).y
 else JE (XY (S.at (j/2)) (S.B i).c) (on (S.T (j/4)) i (dir (S.T (j/4)) j))
def sgq(s:Nat):Rat:=if s%2=0 then 1 else -1
def coE(r:Rat)(k s j:Nat):Rat:=if j=2*k then(if s=0 then -1 else -r) else if j=2*k+1 then(if s=0 then 0 else if s=1 then 1 else -1) else 0
def coS(S:Sc)(i j:Nat):Rat:=if j%2=0/\tch (S.T (j/4)) i then spn (S.T (j/4)).n else 0
def lp(S:Sc)(w:Nat->Rat):Lp where
 v:=4*S.m
 m:=6*S.n+6*S.m+S.n
 a r j:=if r<6*S.n then co3 S (r/6) (r%6/2) j*sgq (r%6) else if r<6*S.n+6*S.m then coE (S.T ((r-6*S.n)/6)).r ((r-6*S.n)/3) ((r-6*S.n)%3) j else coS S (r-6*S.n-6*S.m) j
 b r:=if r<6*S.n then(if r%6/2=1 then w (r/6)*sgq (r%6) else 0) else if r<6*S.n+6*S.m then 0 else(S.B (r-6*S.n-6*S.m)).st
 g _:=0
def Uf(f:Nat->Rat):∀n,sm (2*n) f=sm n λk=>f (2*k)+f (2*k+1)
 |0=>rfl
 |n+1=>by
  show sm (2*n+1+1) f=sm n _+_;rw[<-Uf f n];show sm (2*n) f+f (2*n)+f (2*n+1)=_;grind
def on_lin(t:Tc)(i:Nat)(u v:Rat):(on t i (frc t u v)).x=(on t i t.n).x*u+(on t i (turn t.n)).x*v/\(on t i (frc t u v)).y=(on t i t.n).y*u+(on t i (turn t.n)).y*v:=by
 unfold on frc turn;split
 ·constructor<;>grind
 ·split<;>constructor<;>grind
section
variable {S:Sc}{w u v:Nat->Rat}{x:Nat->Rat}
def co3_pair(i s k:Nat):co3 S i s (2*k)*x (2*k)+co3 S i s (2*k+1)*x (2*k+1) =
  if s=0 then(on (S.T (k/2)) i (frc (S.T (k/2)) (x (2*k)) (x (2*k+1)))).x else if s=1 then(on (S.T (k/2)) i (frc (S.T (k/2)) (x (2*k)) (x (2*k+1)))).y
  else JE (XY (S.at k) (S.B i).c) (on (S.T (k/2)) i (frc (S.T (k/2)) (x (2*k)) (x (2*k+1)))):=by
 have h:=on_lin (S.T (k/2)) i (x (2*k)) (x (2*k+1));unfold co3 dir JE;rw[show 2*k/4=k/2 by omega,show(2*k+1)/4=k/2 by omega,show 2*k/2=k by omega,show(2*k+1)/2=k by omega,if_pos (show 2*k%2=0 by omega),if_neg (show ¬(2*k+1)%2=0 by omega)];split
 ·rw[h.1]
 ·split
  ·rw[h.2]
  ·rw[h.1,h.2];grind
def sum3(i s:Nat)(g:Rat):sm (4*S.m) (λj=>co3 S i s j*g*x j)=g*sm (2*S.m) λk=>if s=0 then(on (S.T (k/2)) i (frc (S.T (k/2)) (x (2*k)) (x (2*k+1)))).x else if s=1 then(on (S.T (k/2)) i (frc (S.T (k/2)) (x (2*k)) (x (2*k+1)))).y
  else JE (XY (S.at k) (S.B i).c) (on (S.T (k/2)) i (frc (S.T (k/2)) (x (2*k)) (x (2*k+1)))):=by
 rw[show 4*S.m=2*(2*S.m) by omega,Uf,<-Jt];refine Qd λk _=>?_;rw[<-co3_pair];grind
def sumE{k s:Nat}{r:Rat}(hk:k<2*S.m):sm (4*S.m) (λj=>coE r k s j*x j)=if s=0 then -x (2*k) else if s=1 then x (2*k+1)-r*x (2*k) else -x (2*k+1)-r*x (2*k):=by
 rw[show 4*S.m=2*(2*S.m) by omega,Uf,JQ hk]
 ·unfold coE;rw[if_pos rfl,if_neg (show ¬2*k+1=2*k by omega),if_pos rfl];split
  ·grind
  ·split<;>grind
 ·intro i _ hi;unfold coE;rw[if_neg qo,if_neg qo,if_neg qo,if_neg qo];grind
def sumS(i:Nat):sm (4*S.m) (λj=>coS S i j*x j)=sm (2*S.m) λk=>if tch (S.T (k/2)) i then spn (S.T (k/2)).n*x (2*k) else 0:=by
 rw[show 4*S.m=2*(2*S.m) by omega,Uf];refine Qd λk _=>?_;unfold coS;rw[show 2*k/4=k/2 by omega];rw[if_neg (show ¬((2*k+1)%2=0/\tch (S.T ((2*k+1)/4)) i) from λh=>absurd h.1 qo)];by_cases c:tch (S.T (k/2)) i
 ·rw[if_pos ⟨by omega,c⟩,if_pos c];grind
 ·rw[if_neg (λh=>c h.2),if_neg c];grind
def U1:K3 (lp S w) x↔Bal S w (λk=>x (2*k)) (λk=>x (2*k+1)):=by
 have r3:∀i s,i<S.n->s<6->(sm (lp S w).v (λj=>(lp S w).a (6*i+s) j*x j)=sgq s*sm (2*S.m) λk=>if s/2=0 then(on (S.T (k/2)) i (frc (S.T (k/2)) (x (2*k)) (x (2*k+1)))).x else if s/2=1 then(on (S.T (k/2)) i (frc (S.T (k/2)) (x (2*k)) (x (2*k+1)))).y
  else JE (XY (S.at k) (S.B i).c) (on (S.T (k/2)) i (frc (S.T (k/2)) (x (2*k)) (x (2*k+1)))))/\(lp S w).b (6*i+s)=if s/2=1 then w i*sgq s else 0:=λi s hi hs=>by
  have h1:6*i+s<6*S.n:=qo;have h2:(6*i+s)/6=i:=qo;have h3:(6*i+s)%6=s:=qo;constructor
  ·rw[<-sum3];refine Qd λj _=>?_;show(if 6*i+s<6*S.n then _ else _)*_=_;rw[if_pos h1,h2,h3]
  ·show(if 6*i+s<6*S.n then _ else _)=_;rw[if_pos h1,h2,h3]
 have rE:∀k s,k<2*S.m->s<3->(sm (lp S w).v (λj=>(lp S w).a (6*S.n+(3*k+s)) j*x j)=if s=0 then -x (2*k) else if s=1 then x (2*k+1)-(S.T (k/2)).r*x (2*k) else -x (2*k+1)-(S.T (k/2)).r*x (2*k))/\(lp S w).b (6*S.n+(3*k+s))=0:=λk s hk hs=>by
  have h1:¬6*S.n+(3*k+s)<6*S.n:=qo;have h2:6*S.n+(3*k+s)<6*S.n+6*S.m:=qo;constructor
  ·rw[<-sumE hk];refine Qd λj _=>?_;show(if 6*S.n+(3*k+s)<6*S.n then _ else if 6*S.n+(3*k+s)<6*S.n+6*S.m then _ else _)*_=_;rw[if_neg h1,if_pos h2,show 6*S.n+(3*k+s)-6*S.n=3*k+s by omega,show(3*k+s)/6=k/2 by omega,show(3*k+s)/3=k by omega,show(3*k+s)%3=s by omega]
  ·show(if 6*S.n+(3*k+s)<6*S.n then _ else if 6*S.n+(3*k+s)<6*S.n+6*S.m then _ else _)=_;rw[if_neg h1,if_pos h2]
 have rS:∀i,i<S.n->(sm (lp S w).v (λj=>(lp S w).a (6*S.n+6*S.m+i) j*x j)=sm (2*S.m) λk=>if tch (S.T (k/2)) i then spn (S.T (k/2)).n*x (2*k) else 0)/\(lp S w).b (6*S.n+6*S.m+i)=(S.B i).st:=λi hi=>by
  have h1:¬6*S.n+6*S.m+i<6*S.n:=qo;have h2:¬6*S.n+6*S.m+i<6*S.n+6*S.m:=qo;constructor
  ·rw[<-sumS];refine Qd λj _=>?_;show(if 6*S.n+6*S.m+i<6*S.n then _ else if 6*S.n+6*S.m+i<6*S.n+6*S.m then _ else _)*_=_;rw[if_neg h1,if_neg h2,show 6*S.n+6*S.m+i-6*S.n-6*S.m=i by omega]
  ·show(if 6*S.n+6*S.m+i<6*S.n then _ else if 6*S.n+6*S.m+i<6*S.n+6*S.m then _ else _)=_;rw[if_neg h1,if_neg h2,show 6*S.n+6*S.m+i-6*S.n-6*S.m=i by omega]
 have hm:(lp S w).m=6*S.n+6*S.m+S.n:=rfl;constructor
 ·intro h;refine⟨λk hk=>?_,λi hi=>?_⟩
  ·have l:=λs (hs:s<3)=>h (6*S.n+(3*k+s)) (by rw[hm];omega);have l0:=l 0 qd;rw[(rE k 0 hk qd).1,(rE k 0 hk qd).2] at l0;have l1:=l 1 qd;rw[(rE k 1 hk qd).1,(rE k 1 hk qd).2] at l1;have l2:=l 2 qd;rw[(rE k 2 hk qd).1,(rE k 2 hk qd).2] at l2;simp at l0 l1 l2;refine⟨?_,?_,?_⟩<;>grind
  ·have l:=λs (hs:s<6)=>h (6*i+s) (by rw[hm];omega);have l0:=l 0 qd;rw[(r3 i 0 hi qd).1,(r3 i 0 hi qd).2] at l0;have l1:=l 1 qd;rw[(r3 i 1 hi qd).1,(r3 i 1 hi qd).2] at l1;have l2:=l 2 qd;rw[(r3 i 2 hi qd).1,(r3 i 2 hi qd).2] at l2;have l3:=l 3 qd;rw[(r3 i 3 hi qd).1,(r3 i 3 hi qd).2] at l3;have l4:=l 4 qd;rw[(r3 i 4 hi qd).1,(r3 i 4 hi qd).2] at l4;have l5:=l 5 qd;rw[(r3 i 5 hi qd).1,(r3 i 5 hi qd).2] at l5;have ls:=h (6*S.n+6*S.m+i) (by rw[hm];omega);rw[(rS i hi).1,(rS i hi).2] at ls;simp[sgq] at l0 l1 l2 l3 l4 l5;refine⟨?_,?_,?_,ls⟩<;>grind
 ·rintro⟨h1,h2⟩ r hr;rw[hm] at hr;by_cases c:r<6*S.n
  ·obtain⟨i,s,rfl,hi,hs⟩:∃i s,r=6*i+s/\i<S.n/\s<6:=⟨r/6,r%6,by omega,by omega,by omega⟩
   obtain⟨b1,b2,b3,-⟩:=h2 i hi;rw[(r3 i s hi hs).1,(r3 i s hi hs).2];have:s=0\/s=1\/s=2\/s=3\/s=4\/s=5:=qo;rcases this with rfl|rfl|rfl|rfl|rfl|rfl<;>simp[sgq]<;>grind
  ·by_cases c2:r<6*S.n+6*S.m
   ·obtain⟨k,s,rfl,hk,hs⟩:∃k s,r=6*S.n+(3*k+s)/\k<2*S.m/\s<3:=⟨(r-6*S.n)/3,(r-6*S.n)%3,by omega,by omega,by omega⟩
    obtain⟨b1,b2,b3⟩:=h1 k hk;rw[(rE k s hk hs).1,(rE k s hk hs).2];have:s=0\/s=1\/s=2:=qo;rcases this with rfl|rfl|rfl<;>simp<;>grind
   ·obtain⟨i,rfl,hi⟩:∃i,r=6*S.n+6*S.m+i/\i<S.n:=⟨r-6*S.n-6*S.m,by omega,by omega⟩
    rw[(rS i hi).1,(rS i hi).2];exact(h2 i hi).2.2.2
end
end Bl
end
section
namespace Bl
open X
def BdOk(b:Bd):Prop:=0<b.lo/\b.lo<=b.hi/\0<b.st
def Hn(n:Nat)(t:Tc):Prop:=0<=t.a/\t.a<n/\-1<=t.b/\t.b<n/\t.a≠t.b/\0<=t.r/\¬(t.n.x=0/\t.n.y=0)/\t.n.x*(t.q.x-t.p.x)+t.n.y*(t.q.y-t.p.y)=0
structure Sc.ok(S:Sc):Prop where
 n:S.n<=5
 m:S.m<=10
 B:∀i,i<S.n->BdOk (S.B i)
 T:∀j,j<S.m->Hn S.n (S.T j)
def Sc.wt(S:Sc)(c i:Nat):Rat:=if c/2^i%2=1 then(S.B i).hi else(S.B i).lo
end Bl
end
end Go.Proofs.YtbnobghgnbockaaGreat
