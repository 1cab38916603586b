/- Lemmas for the proof of a law: The shortest path, in plain terms: what the program finds and what the model finds. Conditions: none. -/
import Derived.Test.YtaongbhamadlkaaGreatBq12
import Derived.Test.YtaongbhamadlkaaGreatBq10
import Derived.Test.YtaongbhamadlkaaGreatBq2
import Derived.Shelf.SlIterI.Sorted
import Derived.Shelf.SlGeneric
import Derived.Shelf.SortM.Plain
import Derived.Shelf.SortM.SortNone
import Derived.Ground.GgzProg
import Derived.Ground.SlgmProg
import Derived.RangeFuncBox
import Derived.OwnWalkIn
import Derived.TacticsInMore
import Derived.LoopNIn
import Derived.LoopIn
import Derived.Sort.OwnSorted
import Derived.RangeFuncBound
import Derived.Shelf.Slices.CompactI
import Derived.Shelf.SlicesE.DeleteFunc
set_option maxHeartbeats 8000000
set_option maxRecDepth 60000
set_option linter.unusedVariables false
set_option linter.unusedSimpArgs false
set_option linter.unusedSectionVars false
namespace Go.Proofs.YtaongbhamadlkaaGreat
open W Go.RowKit
def mostS (t:Nat→Option Int) (s:Option Nat) (k:Nat):Option Nat:=match t k with
 |none=>s
 |some d=>match s with
  |none=>some k
  |some j=>if d < (t j).getD 0 then some k else s
def mostK (n:Nat) (bs:List Bd) (a b:Nat):Option Nat:=(List.range n).foldl (mostS (fun k=>ol (tabP n bs b k) a)) none
def mostD (n:Nat) (bs:List Bd) (a b k:Nat):Int:=(ol (tabP n bs b k) a).getD 0
theorem mostK_spec (n:Nat) (bs:List Bd) (a b:Nat):(mostK n bs a b=none∧∀ j,j < n→ol (tabP n bs b j) a=none)∨∃ k d,mostK n bs a b=some k∧k < n∧ol (tabP n bs b k) a=some d∧∀ j e,j < n→ol (tabP n bs b j) a=some e→d≤e∧(j < k→d < e):=by
 unfold mostK
 have main:∀ (t:Nat→Option Int) m,((List.range m).foldl (mostS t) none=none∧∀ j,j < m→t j=none)∨∃ k d,(List.range m).foldl (mostS t) none=some k∧k < m∧t k=some d∧∀ j e,j < m→t j=some e→d≤e∧(j < k→d < e):=by
  intro t m
  induction m with
  |zero=>exact .inl ⟨rfl,fun j h=>by omega⟩
  |succ m ih=>
   rw[List.range_succ,List.foldl_append,List.foldl_cons,List.foldl_nil]
   cases hm:t m with
   |none=>
    rcases ih with ⟨h1,h2⟩|⟨k,d,h1,h2,h3,h4⟩
    ·rw[h1]
     refine .inl ⟨by unfold mostS;rw[hm],fun j hj=>?_⟩
     by_cases c:j=m
     ·rw[c,hm]
     ·exact h2 j (by omega)
    ·rw[h1]
     refine .inr ⟨k,d,by unfold mostS;rw[hm],by omega,h3,fun j e hj he=>?_⟩
     by_cases c:j=m
     ·rw[c,hm] at he;cases he
     ·exact h4 j e (by omega) he
   |some f=>
    rcases ih with ⟨h1,h2⟩|⟨k,d,h1,h2,h3,h4⟩
    ·rw[h1]
     refine .inr ⟨m,f,by unfold mostS;rw[hm],by omega,hm,fun j e hj he=>?_⟩
     by_cases c:j=m
     ·subst c;rw[hm] at he;cases he;exact⟨Int.le_refl _,fun h=>by omega⟩
     ·rw[h2 j (by omega)] at he;cases he
    ·rw[h1]
     by_cases c:f < d
     ·refine .inr ⟨m,f,by unfold mostS;rw[hm];simp only[h3,Option.getD_some];rw[if_pos c],by omega,hm,fun j e hj he=>?_⟩
      by_cases c2:j=m
      ·subst c2;rw[hm] at he;cases he;exact⟨Int.le_refl _,fun h=>by omega⟩
      ·have:=h4 j e (by omega) he
       exact⟨by omega,fun _=>by omega⟩
     ·refine .inr ⟨k,d,by unfold mostS;rw[hm];simp only[h3,Option.getD_some];rw[if_neg c],by omega,h3,fun j e hj he=>?_⟩
      by_cases c2:j=m
      ·subst c2;rw[hm] at he;cases he;exact⟨by omega,fun h=>by omega⟩
      ·exact h4 j e (by omega) he
 exact main (fun k=>ol (tabP n bs b k) a) n
def bett (bs:List Bd) (a b:List Int):Bool:=decide (lenP bs a < lenP bs b∨(lenP bs a=lenP bs b∧(a.length < b.length∨(a.length=b.length∧cmpL a b < 0))))
theorem cmpL_nlt {a b:List Int}:¬cmpL a b < 0↔cmpL b a≤0:=by
 constructor
 ·intro h;exact(cmpL_total a b).resolve_left h
 ·intro h h2
  have:=cmpL_anti (Int.le_of_lt h2) h
  subst this;rw[cmpL_refl] at h2;omega
theorem bett_f {bs:List Bd} {a b:List Int}:bett bs a b=false↔lenP bs b≤lenP bs a∧(lenP bs a=lenP bs b→b.length≤a.length∧(a.length=b.length→cmpL b a≤0)):=by
 unfold bett
 rw[decide_eq_false_iff_not,←cmpL_nlt]
 constructor
 ·intro h
  refine⟨Int.not_lt.1 fun h2=>h (.inl h2),fun h2=>⟨Nat.not_lt.1 fun h3=>h (.inr ⟨h2,.inl h3⟩),fun h3 h4=>h (.inr ⟨h2,.inr ⟨h3,h4⟩⟩)⟩⟩
 ·rintro⟨h1,h2⟩ (h3|⟨h3,h4|⟨h4,h5⟩⟩)
  ·omega
  ·have:=(h2 h3).1;omega
  ·exact(h2 h3).2 h4 h5
theorem bett_trans {bs:List Bd} {a b c:List Int} (h:bett bs a b=false) (h2:bett bs b c=false):bett bs a c=false:=by
 rw[bett_f] at *
 obtain⟨h1,h3⟩:=h
 obtain⟨h4,h5⟩:=h2
 refine⟨by omega,fun h6=>?_⟩
 have h7:=h3 (by omega)
 have h8:=h5 (by omega)
 exact⟨by omega,fun h9=>cmpL_trans (h8.2 (by omega)) (h7.2 (by omega))⟩
theorem bett_refl (bs:List Bd) (a:List Int):bett bs a a=false:=by
 rw[bett_f];exact⟨Int.le_refl _,fun _=>⟨Nat.le_refl _,fun _=>by rw[cmpL_refl];omega⟩⟩
theorem bett_anti {bs:List Bd} {a b:List Int} (h:bett bs a b=false) (h2:bett bs b a=false):a=b:=by
 rw[bett_f] at *
 have h3:=h.2 (by omega)
 have h4:=h2.2 (by omega)
 exact cmpL_anti (h4.2 (by omega)) (h3.2 (by omega))
theorem bett_asym {bs:List Bd} {a b:List Int} (h:bett bs a b=true):bett bs b a=false:=by
 cases h2:bett bs b a with
 |false=>rfl
 |true=>
  unfold bett at h h2
  rw[decide_eq_true_eq] at h h2
  rcases h with h|⟨h3,h⟩ <;> rcases h2 with h2|⟨h4,h2⟩
  ·omega
  ·omega
  ·omega
  ·rcases h with h|⟨h5,h⟩ <;> rcases h2 with h2|⟨h6,h2⟩
   ·omega
   ·omega
   ·omega
   ·exact absurd h (cmpL_nlt.2 (by omega))
def flwE (bs:List Bd) (path:List Int):Option (List Int)→Option (List Int)
 |none=>some path
 |some b=>if bett bs path b then some path else some b
abbrev lstB (met:List Int):Int:=met.getD (met.length - 1) 0
def flwP (bs:List Bd) (to:Int):Nat→List Int→List Int→Option (List Int)→Option (List Int)
 |0,_,_,o=>o
 |c+1,path,met,o=>if lstB met=to then flwE bs path o else
  (List.range bs.length).foldl (fun o i=>if(bg bs i).fr=lstB met∧(bg bs i).to∉met then flwP bs to c (path++[(i:Int)]) (met++[(bg bs i).to]) o else o) o
def tos (bs:List Bd) (l:List Int):List Int:=l.map fun i=>(bg bs i.toNat).to
theorem frs_tos {bs:List Bd} {l:List Int}:∀ {u v:Int},Wlk bs u l v→u::tos bs l=frs bs l++[v]:=by
 induction l with
 |nil=>intro u v h;simp[Wlk] at h;simp[tos,frs,h]
 |cons i l ih=>
  intro u v ⟨h1,h2,h3⟩
  have:=ih h3
  show u::(bg bs i.toNat).to::tos bs l=((bg bs i.toNat).fr::frs bs l)++[v]
  rw[this,h2];rfl
theorem tos_in {n:Nat} {bs:List Bd} (hv:Vld n bs) {l:List Int}:∀ {u v:Int},Wlk bs u l v→∀ x∈tos bs l,0≤x∧x < n:=by
 induction l with
 |nil=>intro u v _ x hx;simp[tos] at hx
 |cons i l ih=>
  intro u v ⟨h1,h2,h3⟩ x hx
  have hx2:x=(bg bs i.toNat).to∨x∈tos bs l:=List.mem_cons.1 hx
  rcases hx2 with rfl|hx2
  ·have:=hv.ok i.toNat (by omega);unfold Bd.ok at this;omega
  ·exact ih h3 x hx2
def Cmp (bs:List Bd) (to:Int) (met q:List Int):Prop:=Wlk bs (lstB met) q to∧(tos bs q).Nodup∧∀ x∈tos bs q,x∉met
theorem lst_mem {met:List Int} (h:met≠[]):lstB met∈met:=by
 have:0 < met.length:=List.length_pos_iff.2 h
 unfold lstB
 rw[List.getD_eq_getElem?_getD,List.getElem?_eq_getElem (show met.length - 1 < met.length by omega),Option.getD_some]
 exact List.getElem_mem _
theorem lst_snoc (met:List Int) (x:Int):lstB (met++[x])=x:=by simp[lstB,List.getD_eq_getElem?_getD]
theorem end_mem {bs:List Bd} {q:List Int}:∀ {u v:Int},Wlk bs u q v→q≠[]→v∈tos bs q:=by
 intro u v h hq
 have h2:=frs_tos h
 have h3:v∈u::tos bs q:=by rw[h2];simp
 rcases List.mem_cons.1 h3 with rfl|h4
 ·cases q with
  |nil=>exact absurd rfl hq
  |cons i q=>
   obtain⟨h5,h6,h7⟩:=h
   have h8:=frs_tos h7
   have:v∈(bg bs i.toNat).to::tos bs q:=by rw[h8];simp
   exact this
 ·exact h4
theorem Cmp.cons {bs:List Bd} {to:Int} {met q:List Int} {i:Nat} (hi:i < bs.length):Cmp bs to met ((i:Int)::q)↔((bg bs i).fr=lstB met∧(bg bs i).to∉met)∧Cmp bs to (met++[(bg bs i).to]) q:=by
 have e:tos bs ((i:Int)::q)=(bg bs i).to::tos bs q:=by simp[tos]
 unfold Cmp
 rw[lst_snoc,e,List.nodup_cons]
 constructor
 ·rintro⟨⟨h1,h2,h3⟩,⟨h4,h5⟩,h6⟩
  rw[Int.toNat_natCast] at h2 h3
  refine⟨⟨h2,h6 _ (List.mem_cons_self ..)⟩,h3,h5,fun x hx hm=>?_⟩
  rcases List.mem_append.1 hm with h7|h7
  ·exact h6 x (List.mem_cons_of_mem _ hx) h7
  ·rw[List.mem_singleton] at h7;subst h7;exact h4 hx
 ·rintro⟨⟨h1,h2⟩,h3,h4,h5⟩
  refine⟨⟨by omega,by rw[Int.toNat_natCast];exact h1,by rw[Int.toNat_natCast];exact h3⟩,⟨fun h=>h5 _ h (by simp),h4⟩,fun x hx hm=>?_⟩
  rcases List.mem_cons.1 hx with rfl|hx
  ·exact h2 hm
  ·exact h5 x hx (List.mem_append_left _ hm)
theorem flw_spec {n:Nat} {bs:List Bd} (hv:Vld n bs) (to:Int):∀ (c:Nat) (path met:List Int) (o:Option (List Int)),met≠[]→met.Nodup→(∀ x∈met,0≤x∧x < n)→met.length+c=n+1→
  (∀ q,Cmp bs to met q→∃ b,flwP bs to c path met o=some b∧bett bs (path++q) b=false)∧(∀ b0,o=some b0→∃ b,flwP bs to c path met o=some b∧bett bs b0 b=false)∧
  (flwP bs to c path met o=o∨∃ q,Cmp bs to met q∧flwP bs to c path met o=some (path++q)):=by
 intro c
 induction c with
 |zero=>intro path met o h1 h2 h3 h4;have:=nodup_le h2 h3;omega
 |succ c ih=>
  intro path met o h1 h2 h3 h4
  rw[flwP]
  by_cases ct:lstB met=to
  ·rw[if_pos ct]
   have hq:∀ q,Cmp bs to met q→q=[]:=fun q hq=>by
    refine Classical.byContradiction fun hn=>?_
    have:=end_mem hq.1 hn
    exact hq.2.2 _ this (by rw[←ct];exact lst_mem h1)
   have h0:Cmp bs to met []:=⟨ct,by simp[tos],fun x hx=>by simp[tos] at hx⟩
   cases o with
   |none=>exact⟨fun q hc=>⟨path,rfl,by rw[hq q hc,List.append_nil];exact bett_refl _ _⟩,fun b0 h=>(by cases h),.inr ⟨[],h0,by rw[List.append_nil];rfl⟩⟩
   |some b=>
    rw[show flwE bs path (some b)=if bett bs path b then some path else some b from rfl]
    by_cases cb:bett bs path b=true
    ·rw[if_pos cb]
     exact⟨fun q hc=>⟨path,rfl,by rw[hq q hc,List.append_nil];exact bett_refl _ _⟩,fun b0 h=>by cases h;exact⟨path,rfl,bett_asym cb⟩,.inr ⟨[],h0,by rw[List.append_nil]⟩⟩
    ·rw[if_neg cb]
     exact⟨fun q hc=>⟨b,rfl,by rw[hq q hc,List.append_nil];simpa using cb⟩,fun b0 h=>by cases h;exact⟨b,rfl,bett_refl _ _⟩,.inl rfl⟩
  ·rw[if_neg ct]
   generalize hg:(fun (o:Option (List Int)) (i:Nat)=>if(bg bs i).fr=lstB met∧(bg bs i).to∉met then flwP bs to c (path++[(i:Int)]) (met++[(bg bs i).to]) o else o)=g
   have main:∀ k,k≤bs.length→
     (∀ (i:Nat) q,i < k→Cmp bs to met ((i:Int)::q)→∃ b,(List.range k).foldl g o=some b∧bett bs (path++(i:Int)::q) b=false)∧(∀ b0,o=some b0→∃ b,(List.range k).foldl g o=some b∧bett bs b0 b=false)∧
     ((List.range k).foldl g o=o∨∃ q,Cmp bs to met q∧(List.range k).foldl g o=some (path++q)):=by
    intro k
    induction k with
    |zero=>intro _;exact⟨fun i q h=>by omega,fun b0 h=>⟨b0,h,bett_refl _ _⟩,.inl rfl⟩
    |succ k ihk=>
     intro hk
     obtain⟨k1,k2,k3⟩:=ihk (by omega)
     rw[List.range_succ,List.foldl_append,List.foldl_cons,List.foldl_nil]
     generalize (List.range k).foldl g o=r at *
     by_cases cc:(bg bs k).fr=lstB met∧(bg bs k).to∉met
     ·have hgk:g r k=flwP bs to c (path++[(k:Int)]) (met++[(bg bs k).to]) r:=by rw[←hg];exact if_pos cc
      have hok:=hv.ok k (by omega)
      unfold Bd.ok at hok
      obtain⟨j1,j2,j3⟩:=ih (path++[(k:Int)]) (met++[(bg bs k).to]) r (by simp) (by
       rw[List.nodup_append]
       exact⟨h2,by simp,fun a ha b hb=>by rw[List.mem_singleton] at hb;subst hb;rintro rfl;exact cc.2 ha⟩) (fun x hx=>by
       rcases List.mem_append.1 hx with h|h
       ·exact h3 x h
       ·rw[List.mem_singleton] at h;subst h;omega) (by simp;omega)
      rw[hgk]
      have ea:∀ q,path++[(k:Int)]++q=path++(k:Int)::q:=fun q=>by simp
      have keep:∀ x,(∃ b,r=some b∧bett bs x b=false)→∃ b,flwP bs to c (path++[(k:Int)]) (met++[(bg bs k).to]) r=some b∧bett bs x b=false:=by
       rintro x ⟨b,hb1,hb2⟩
       obtain⟨b',hb3,hb4⟩:=j2 b hb1
       exact⟨b',hb3,bett_trans hb2 hb4⟩
      refine⟨fun i q hi hq=>?_,fun b0 h=>keep _ (k2 b0 h),?_⟩
      ·by_cases ci:i=k
       ·subst ci
        obtain⟨b,hb1,hb2⟩:=j1 q ((Cmp.cons (by omega)).1 hq).2
        exact⟨b,hb1,by rw[←ea];exact hb2⟩
       ·exact keep _ (k1 i q (by omega) hq)
      ·rcases j3 with j3|⟨q,j3,j4⟩
       ·rw[j3];exact k3
       ·exact .inr ⟨(k:Int)::q,(Cmp.cons (by omega)).2 ⟨cc,j3⟩,by rw[j4,ea]⟩
     ·have hgk:g r k=r:=by rw[←hg];exact if_neg cc
      rw[hgk]
      refine⟨fun i q hi hq=>?_,k2,k3⟩
      by_cases ci:i=k
      ·subst ci;exact absurd ((Cmp.cons (by omega)).1 hq).1 cc
      ·exact k1 i q (by omega) hq
   obtain⟨m1,m2,m3⟩:=main bs.length (Nat.le_refl _)
   refine⟨fun q hq=>?_,m2,m3⟩
   cases q with
   |nil=>exact absurd hq.1 ct
   |cons i q=>
    obtain⟨⟨b1,_⟩,_⟩:=id hq
    have hi:((i.toNat:Nat):Int)=i:=by omega
    rw[←hi] at hq ⊢
    exact m1 i.toNat q (by omega) hq
section
variable {n:Nat} {bs:List Bd} (hv:Vld n bs) {a b:Nat} (ha:a < n) (hb:b < n)
include hv ha hb
theorem Cmp.short {q:List Int} (h:Cmp bs (b:Int) [(a:Int)] q):Wlk bs a q b∧q.length < n:=by
 obtain⟨h1,h2,h3⟩:=h
 refine⟨h1,?_⟩
 have h4:((a:Int)::tos bs q).Nodup:=List.nodup_cons.2 ⟨fun h=>h3 _ h (by simp),h2⟩
 have h5:=nodup_le (n:=n) h4 (fun x hx=>by
  rcases List.mem_cons.1 hx with rfl|hx
  ·omega
  ·exact tos_in hv h1 x hx)
 simp[tos] at h5;omega
omit ha in
theorem short_simple (hs:HasSol bs) {k:Nat} {d:Int} {r:List Int} (hr:r.length=k) (hw:Wlk bs a r b) (hd:lenP bs r=d) (hmin:∀ j e,j < k→ol (tabP n bs b j) a=some e→d < e):Cmp bs (b:Int) [(a:Int)] r:=by
 have cut:∀ p c s w,r=p++c++s→c≠[]→Wlk bs a p w→Wlk bs w c w→Wlk bs w s b→False:=by
  intro p c s w he hc w1 w2 w3
  have hlc:0 < c.length:=List.length_pos_iff.2 hc
  have hnn:¬lenP bs c < 0:=fun h=>(show NegB bs c.length c from⟨rfl,h,w,w2⟩).no hs
  obtain⟨e,e1,e2⟩:=tab_le hv hb (p++s).length a (p++s) rfl (Wlk.app.2 ⟨w,w1,w3⟩)
  have h5:=hmin _ e (by rw[he] at hr;simp only[List.length_append] at hr ⊢;omega) e1
  rw[he,lenP_app,lenP_app] at hd
  rw[lenP_app] at e2;omega
 have hn:(frs bs r++[(b:Int)]).Nodup:=by
  rw[List.nodup_append]
  refine⟨?_,by simp,?_⟩
  ·refine Classical.byContradiction fun h=>?_
   obtain⟨p,c,s,w,h1,h2,h3,h4,h5,h6⟩:=frs_split h hw
   exact cut p c s w h1 h2 h4 h5 h6
  ·intro x hx y hy he
   rw[List.mem_singleton] at hy
   subst he;subst hy
   unfold frs at hx
   obtain⟨i,hi,he⟩:=List.mem_map.1 hx
   obtain⟨p,s,rfl⟩:=List.append_of_mem hi
   obtain⟨w,w1,w2⟩:=Wlk.app.1 hw
   have hwb:w=b:=by rw[←w2.2.1];exact he
   subst hwb
   exact cut p (i::s) [] b (by simp) (by simp) w1 w2 rfl
 rw[←frs_tos hw,List.nodup_cons] at hn
 exact⟨hw,hn.2,fun x hx hm=>by rw[List.mem_singleton] at hm;subst hm;exact hn.1 hx⟩
theorem most_same (hs:HasSol bs):(mostK n bs a b=none∧flwP bs b n [] [(a:Int)] none=none)∨
  ∃ k,mostK n bs a b=some k∧flwP bs b n [] [(a:Int)] none=some (fstP bs (tabL n bs b n) (fun x=>decide (x=mostD n bs a b k)) k a 0 [])∧lenP bs (fstP bs (tabL n bs b n) (fun x=>decide (x=mostD n bs a b k)) k a 0 [])=mostD n bs a b k∧
   Cmp bs (b:Int) [(a:Int)] (fstP bs (tabL n bs b n) (fun x=>decide (x=mostD n bs a b k)) k a 0 [])∧∀ q,q.length < n→Wlk bs a q b→mostD n bs a b k≤lenP bs q:=by
 obtain⟨f1,_,f3⟩:=flw_spec hv (b:Int) n [] [(a:Int)] none (by simp) (by simp) (fun x hx=>by rw[List.mem_singleton] at hx;subst hx;omega) (by simp;omega)
 rcases mostK_spec n bs a b with ⟨h1,h2⟩|⟨k,d,h1,h2,h3,h4⟩
 ·refine .inl ⟨h1,?_⟩
  rcases f3 with f3|⟨q,q1,_⟩
  ·exact f3
  ·obtain⟨q2,q3⟩:=q1.short hv ha hb
   obtain⟨e,e1,_⟩:=tab_le hv hb q.length a q rfl q2
   rw[h2 _ q3] at e1;cases e1
 ·have hD:mostD n bs a b k=d:=by unfold mostD;rw[h3];rfl
  have hall:∀ q,q.length < n→Wlk bs a q b→d≤lenP bs q∧(q.length < k→d < lenP bs q):=fun q hq hw=>by
   obtain⟨e,e1,e2⟩:=tab_le hv hb q.length a q rfl hw
   have:=h4 _ e hq e1
   exact⟨by omega,fun h=>by have:=this.2 h;omega⟩
  have hr:∃ r,fstP bs (tabL n bs b n) (fun x=>decide (x=d)) k a 0 []=r∧r.length=k∧Wlk bs a r b∧lenP bs r=d∧∀ m,m.length=k→Wlk bs a m b→lenP bs m=d→cmpL r m≤0:=by
   by_cases hk:k=0
   ·subst hk
    obtain⟨l,l1,l2,l3⟩:=tab_some hv hb 0 a d h3
    obtain rfl:=List.eq_nil_of_length_eq_zero l1
    refine⟨[],rfl,rfl,l2,l3,fun m hm _ _=>?_⟩
    obtain rfl:=List.eq_nil_of_length_eq_zero hm
    exact Int.le_refl _
   ·have hG:GoodW bs a b k (fun x=>decide (x=d)):=fun p q q' u hl hq w1 w2 w3 hle hg=>by
     have hg2:lenP bs p+lenP bs q=d:=of_decide_eq_true hg
     have:=hall (p++q') (by rw[List.length_append];omega) (Wlk.app.2 ⟨u,w1,w3⟩)
     rw[lenP_app] at this
     exact decide_eq_true (by omega)
    obtain⟨l,l1,l2,l3⟩:=tab_some hv hb k a d h3
    rcases fst_spec hv hb (Nat.pos_of_ne_zero hk) (T:=tabL n bs b n) (fun r hr=>tabL_get (by omega)) (good:=fun x=>decide (x=d)) (fr:=a) ⟨by omega,by omega⟩ hG with ⟨_,g1,g2⟩|⟨g1,_⟩
    ·exact⟨_,rfl,g1.1,g1.2.1,of_decide_eq_true g1.2.2,fun m m1 m2 m3=>g2 m ⟨m1,m2,decide_eq_true m3⟩⟩
    ·exact absurd ⟨l,l1,l2,decide_eq_true l3⟩ g1
  obtain⟨r,hr0,hr1,hr2,hr3,hr4⟩:=hr
  have hc:=short_simple hv hb hs hr1 hr2 hr3 (fun j e hj he=>(h4 j e (by omega) he).2 hj)
  refine .inr ⟨k,h1,?_,?_,?_,fun q h5 h6=>?_⟩
  ·rw[hD,hr0]
   obtain⟨b',b1,b2⟩:=f1 r hc
   rw[List.nil_append] at b2
   rcases f3 with f3|⟨q,q1,q2⟩
   ·rw[f3] at b1;cases b1
   ·rw[q2] at b1
    cases b1
    rw[List.nil_append] at b2 q2
    obtain⟨q3,q4⟩:=q1.short hv ha hb
    have h5:=hall q q4 q3
    rw[q2]
    congr 1
    refine(bett_anti b2 ?_).symm
    rw[bett_f,hr3]
    refine⟨h5.1,fun h6=>⟨Nat.not_lt.1 fun h7=>by have:=h5.2 (by omega);omega,fun h7=>hr4 q (by omega) q3 (by omega)⟩⟩
  ·rw[hD,hr0];exact hr3
  ·rw[hD,hr0];exact hc
  ·rw[hD];exact(hall q h5 h6).1
end
end Go.Proofs.YtaongbhamadlkaaGreat
namespace Go.Proofs.YtaongbhamadlkaaGreat
open W Go.RowKit
def mst (n:Int) (bs:List Bd) (a b:Int):Int×List Int×Int:=
 if validB n bs=true∧(0≤a∧a < n)∧0≤b∧b < n then(match greatP n.toNat bs with
  |none=>(0,cycP n.toNat bs,14)
  |some _=>match mostK n.toNat bs a.toNat b.toNat with
   |none=>(0,[],6)
   |some k=>(mostD n.toNat bs a.toNat b.toNat k,fstP bs (tabL n.toNat bs b.toNat n.toNat) (fun x=>decide (x=mostD n.toNat bs a.toNat b.toNat k)) k a 0 [],0))
 else(0,[],1)
def IsMo (D:Nat) (s:Int×List Int×Int):RPost:=fun v b G=>∃ m uc,v=.tuple #[qv m,uc,.int .i64 s.2.2]∧b=[]∧G=[isQ (qv m) (wq D s.1),sI uc s.2.1]
def mI:Option Nat→Int
 |none=>-1
 |some j=>j
theorem W.Has.mTsnoc {D:Nat} {F:List Fct} {us:Nat→Value} {mss:Nat→Nat→QM} {Tb:List (List (Option Int))} {u:Value} {ml:Nat→QM} {L:List (Option Int)} {k:Nat} (hk:Tb.length=k) (h:Has F (mTB D us mss Tb)) (hu:Has F (fL D u ml L)):Has F (mTB D (upd us k u) (upd mss k ml) (Tb++[L])):=fun p hf i hi=>by
 rw[List.length_append,List.length_singleton] at hi
 by_cases c:i=k
 ·subst c;rw[upd_at,upd_at]
  have:(Tb++[L]).getD i []=L:=by simp[List.getD_eq_getElem?_getD,←hk]
  rw[this];exact hu p hf
 ·rw[upd_ne c,upd_ne c]
  have:(Tb++[L]).getD i []=Tb.getD i []:=by simp only[List.getD_eq_getElem?_getD];rw[List.getElem?_append_left (by omega)]
  rw[this];exact h p hf i (by omega)
section
variable {D:Nat} {F:List Fct} {us:Nat→Value} {mss:Nat→Nat→QM} {n b m k:Nat} {bs:List Bd} {u:Value} {ml:Nat→QM}
theorem W.Has.tabG (h:Has F (mTB D us mss (tabL n bs b m))) (hk:k < m):Has F (fL D (us k) (mss k) (tabP n bs b k)):=by
 have:=W.Has.tl h (k:=k) (by rw[tabL_len];exact hk)
 rwa [tabL_get hk] at this
theorem W.Has.tabS (h:Has F (mTB D us mss (tabL n bs b m))) (hu:Has F (fL D u ml (tabP n bs b m))):Has F (mTB D (upd us m u) (upd mss m ml) (tabL n bs b (m+1))):=by
 rw[tabL_succ];exact W.Has.mTsnoc (tabL_len _ _ _ _) h hu
theorem W.Has.tab1 (hu:Has F (fL D u ml (endP n b))):Has F (mTB D (fun _=>u) (fun _=>ml) (tabL n bs b (0+1))):=fun p hf i hi=>by
 obtain rfl:i=0:=by rw[tabL_len] at hi;omega
 rw[tabL_get (by omega)];exact hu p hf
end
namespace H
open G
attribute [local irreducible] WC WL WD YO LO LoopEnd W.Fin Scalar SliceT FieldAt Row ArrT AllocT KnS Has W.One SrcE IntT
theorem d41 {G G':Prop} (h:G') (s:Bx G'→G:=by
 intro h
 first|(apply WC.draw (id:=11) [0,1,2,3,4,5] (.held 0 (.held 1 (.held 2 (.held 3 (.held 4 (.held 5 (.loud 6 (.loud 7 (.loud 8 (.free 9 (.done))))))))))) mixed (by kernel_rfl))|(apply WC.draw (id:=17) [0,1,2,3,4,5,6,7,8,9,10,11,12,13,14,15,16,17,18,19,20,21,23,24,25] (.held 0 (.held 1 (.held 2 (.held 3 (.held 4 (.held 5 (.held 6 (.held 7 (.held 8 (.held 9 (.held 10 (.held 11 (.held 12 (.held 13 (.held 14 (.held 15 (.held 16 (.held 17 (.held 18 (.held 19 (.held 20 (.held 21 (.loud 22 (.held 23 (.held 24 (.held 25 (.done))))))))))))))))))))))))))) mixed (by kernel_rfl))|(apply WC.draw (id:=23) [0,1,2,3,4,5] (.held 0 (.held 1 (.held 2 (.held 3 (.held 4 (.held 5 (.loud 6 (.loud 7 (.free 8 (.free 9 (.done))))))))))) mixed (by kernel_rfl))|fail
 exact Bx.h h):G:=s ⟨h⟩
theorem most1_c (D:Nat) [Den D] (m md:QM) (k d:Int) (g:Nat):FnB Tryz.prog 106 ([qv m]++[ptr g]) [] [isQ (qv m) (wq D k),andF (ce g 31 (qcs md)) (isQ (qv md) (wq D d))] (IsV (.bool (decide (k=d)))):=by
 refine fn_of [(0,(qv m)),(1,(ptr g))] 7 Tryz.func106 rfl Tryz.ntmps106 (by kernel_rfl) rfl suA fun h0=>?_
 refine WC.andF (f:=ce g 31 (qcs md)) hmA ?_
 repeat'(first|refine gA ?_|(refine goG ?_;intro g)|(refine goV ?_;intro v))
 first|refine WL.callV (samew_c D m md k d) ?_|refine WD.callV (samew_c D m md k d) ?_
 repeat'(first|refine gA ?_|(refine goG ?_;intro g)|(refine goV ?_;intro v))
 exact WC.ret (Fin.v (ResE.t1 rfl rfl) meA rfl)
theorem most_c (D:Nat) [Den D] (vb:Value) (ms:Nat→QM) (bs:List Bd) (n a b:Int) (hf:Fit bs):FnB Tryz.prog 41 [.int .i64 n,vb,.int .i64 a,.int .i64 b] [] [fB D vb ms bs] (IsMo D (mst n bs a b)):=by
 refine fn_of [(0,(.int .i64 n)),(1,vb),(2,(.int .i64 a)),(3,(.int .i64 b))] 129 Tryz.func41 rfl Tryz.ntmps41 (by kernel_rfl) rfl suA fun h0=>?_
 have hq0:∀ F:List Fct,Has F (isQ (qv m00) (wq D 0)):=fun F=>hasQ0w
 repeat'(first|refine gB ?_|(refine gH ?_;intro g)|(refine gW ?_;intro v)|refine goYL ?_|refine d41 ?_|fail)
 first|refine WL.callV (made_c D vb ms bs n) ?_|refine WD.callV (made_c D vb ms bs n) ?_
 repeat'(first|refine gB ?_|(refine gH ?_;intro g)|(refine gW ?_;intro v)|refine goYL ?_|refine d41 ?_|fail)
 have bad:¬(validB n bs=true∧(0≤a∧a < n)∧0≤b∧b < n)→mst n bs a b=(0,[],1):=fun h=>if_neg h
 cases hvb:validB n bs with
 |false=>
  repeat'(first|refine gB ?_|(refine gH ?_;intro g)|(refine gW ?_;intro v)|refine goYL ?_|refine d41 ?_|fail)
  exact WC.ret (Fin.p [] [isQ (qv m00) (wq D 0),sI (.slice none 0 0) []] (ResE.c3 rfl rfl meA T.r31 rfl rfl rfl) meA (List.nil_sublist _) (.cons (hq0 _) (.cons nil0 .nil)) (by rw[bad (by rw[hvb];simp)];exact⟨m00,_,rfl,rfl,rfl⟩))
 |true=>
  by_cases c1:a < 0
  ·repeat'(first|refine gB ?_|(refine gH ?_;intro g)|(refine gW ?_;intro v)|refine goYL ?_|refine d41 ?_|fail)
   exact WC.ret (Fin.p [] [isQ (qv m00) (wq D 0),sI (.slice none 0 0) []] (ResE.c3 rfl rfl meA T.r31 rfl rfl rfl) meA (List.nil_sublist _) (.cons (hq0 _) (.cons nil0 .nil)) (by rw[bad (by omega)];exact⟨m00,_,rfl,rfl,rfl⟩))
  by_cases c2:n≤a
  ·repeat'(first|refine gB ?_|(refine gH ?_;intro g)|(refine gW ?_;intro v)|refine goYL ?_|refine d41 ?_|fail)
   exact WC.ret (Fin.p [] [isQ (qv m00) (wq D 0),sI (.slice none 0 0) []] (ResE.c3 rfl rfl meA T.r31 rfl rfl rfl) meA (List.nil_sublist _) (.cons (hq0 _) (.cons nil0 .nil)) (by rw[bad (by omega)];exact⟨m00,_,rfl,rfl,rfl⟩))
  by_cases c3:b < 0
  ·repeat'(first|refine gB ?_|(refine gH ?_;intro g)|(refine gW ?_;intro v)|refine goYL ?_|refine d41 ?_|fail)
   exact WC.ret (Fin.p [] [isQ (qv m00) (wq D 0),sI (.slice none 0 0) []] (ResE.c3 rfl rfl meA T.r31 rfl rfl rfl) meA (List.nil_sublist _) (.cons (hq0 _) (.cons nil0 .nil)) (by rw[bad (by omega)];exact⟨m00,_,rfl,rfl,rfl⟩))
  by_cases c4:n≤b
  ·repeat'(first|refine gB ?_|(refine gH ?_;intro g)|(refine gW ?_;intro v)|refine goYL ?_|refine d41 ?_|fail)
   exact WC.ret (Fin.p [] [isQ (qv m00) (wq D 0),sI (.slice none 0 0) []] (ResE.c3 rfl rfl meA T.r31 rfl rfl rfl) meA (List.nil_sublist _) (.cons (hq0 _) (.cons nil0 .nil)) (by rw[bad (by omega)];exact⟨m00,_,rfl,rfl,rfl⟩))
  obtain⟨n,rfl,hv⟩:=Vld.of hvb
  obtain⟨a,rfl⟩:∃ k:Nat,a=k:=⟨a.toNat,by omega⟩
  obtain⟨b,rfl⟩:∃ k:Nat,b=k:=⟨b.toNat,by omega⟩
  have hn1:=hv.n1
  have hn2:=hv.n2
  have hs:mst (n:Int) bs a b=(match greatP n bs with
   |none=>(0,cycP n bs,14)
   |some _=>match mostK n bs a b with
    |none=>(0,[],6)
    |some k=>(mostD n bs a b k,fstP bs (tabL n bs b n) (fun x=>decide (x=mostD n bs a b k)) k a 0 [],0)):=by
   unfold mst;rw[if_pos ⟨hvb,by omega⟩];rfl
  repeat'(first|refine gB ?_|(refine gH ?_;intro g)|(refine gW ?_;intro v)|refine goYL ?_|refine d41 ?_|fail)
  first|refine WL.callK (greatest_c D vb ms bs n hv hf) ?_|refine WD.callK (greatest_c D vb ms bs n hv hf) ?_|refine LO.callM (greatest_c D vb ms bs n hv hf) ?_
  rintro rv bb GG hG
  unfold IsGr at hG
  cases hgr:greatP n bs with
  |none=>
   rw[hgr] at hG hs
   obtain⟨rfl,rfl,rfl⟩:=hG
   simp only[List.nil_append]
   repeat'(first|refine gB ?_|(refine gH ?_;intro g)|(refine gW ?_;intro v)|refine goYL ?_|refine d41 ?_|fail)
   first|refine WL.callO (cycle_c D vb ms bs n hv hf) (fun rv=>?_)|refine WD.callO (cycle_c D vb ms bs n hv hf) (fun rv=>?_)
   repeat'(first|refine gB ?_|(refine gH ?_;intro g)|(refine gW ?_;intro v)|refine goYL ?_|refine d41 ?_|fail)
   refine WC.freezeI (l:=cycP n bs) (v:=rv) (el:=3) (by repeat(first|exact Sel.head|apply Sel.tail)) ?_
   exact WC.ret (Fin.p [] [isQ (qv m00) (wq D 0),sI rv (cycP n bs)] (ResE.c3 rfl rfl meA T.r31 rfl rfl rfl) meA (List.nil_sublist _) (.cons (hq0 _) sfA) (by rw[hs];exact⟨m00,_,rfl,rfl,rfl⟩))
  |some x=>
   rw[hgr] at hG hs
   obtain⟨u,mx,rfl,rfl,rfl⟩:=hG
   simp only[List.nil_append,List.cons_append]
   repeat'(first|refine gB ?_|(refine gH ?_;intro g)|(refine gW ?_;intro v)|refine goYL ?_|refine d41 ?_|fail)
   first|refine WL.callK (ends_c D vb n b (by omega) (by omega)) ?_|refine WD.callK (ends_c D vb n b (by omega) (by omega)) ?_|refine LO.callM (ends_c D vb n b (by omega) (by omega)) ?_
   rintro tw _ _ ⟨u0,ml0,rfl,rfl⟩
   simp only[List.nil_append,List.cons_append]
   rw[show([u0]:List Value)=tcells (0+1) (fun _=>u0) from rfl]
   repeat'(first|refine gB ?_|(refine gH ?_;intro g)|(refine gW ?_;intro v)|refine goYL ?_|refine d41 ?_|fail)
   revert g;intro g11;revert g;intro g8
   refine WC.lp (σ:=Nat×Value×(Nat→Value)×(Nat→Nat→QM)) (fun s=>[(63,.int .i64 (s.1:Int)),(62,.int .i64 ((n:Int) - 1)),(15,s.2.1),(11,ptr g11),(8,ptr g8),(2,.int .i64 a),(3,.int .i64 b)])
    (fun s=>[Ow.slice s.2.1 131 1 (tcells (s.1+1) s.2.2.1),Ow.cells g11 123 [.int .i64 n,vb],Ow.cells g8 31 [.bool false,.slice none 0 0,.bool false,.slice none 0 0]])
    (fun s=>[mTB D s.2.2.1 s.2.2.2 (tabL n bs b (s.1+1)),ge h0,fB D vb ms bs]) (fun s=>s.1+1≤n) (fun s=>n - s.1) (0,tw,fun _=>u0,fun _=>ml0) hn1 ?_ suA slA (.cons (W.Has.tab1 hmA) sfA)
   rintro⟨k,tb,us,mss⟩ hk
   simp only at hk ⊢
   by_cases c:k+1 < n
   ·have hkS:=tabP_wth n bs b k
    have hkS2:k*absS bs≤32*14000000:=Nat.mul_le_mul (by omega) hf
    refine WC.fact (fL D (us k) (mss k) (tabP n bs b k)) (W.Has.tabG (us:=us) (m:=k+1) hmA (by omega)) ?_
    repeat'(first|refine gB ?_|(refine gH ?_;intro g)|(refine gW ?_;intro v)|refine goYL ?_|refine d41 ?_|fail)
    first|refine WL.callK (longer_c D vb (us k) ms (mss k) bs n (tabP n bs b k) hv hf (tabP_len n bs b k) (k*absS bs) (by omega) hkS) ?_|refine WD.callK (longer_c D vb (us k) ms (mss k) bs n (tabP n bs b k) hv hf (tabP_len n bs b k) (k*absS bs) (by omega) hkS) ?_|refine LO.callM (longer_c D vb (us k) ms (mss k) bs n (tabP n bs b k) hv hf (tabP_len n bs b k) (k*absS bs) (by omega) hkS) ?_
    rintro u' _ _ ⟨ml,rfl,rfl⟩
    simp only[List.nil_append,List.cons_append]
    repeat'(first|refine gB ?_|(refine gH ?_;intro g)|(refine gW ?_;intro v)|refine goYL ?_|refine d41 ?_|fail)
    exact LoopEnd.mk (k+1,v,upd us (k+1) u',upd mss (k+1) ml) (by show k+1+1≤n;omega) (by show n - (k+1) < n - k;omega) suA slA (.cons (W.Has.tabS hmA hmA) sfA)
   ·obtain rfl:n=k+1:=by omega
    repeat'(first|refine gB ?_|(refine gH ?_;intro g)|(refine gW ?_;intro v)|refine goYL ?_|refine d41 ?_|fail)
    generalize hN:k+1=n at *
    have hwt:∀ j,j < n→((ol (tabP n bs b j) a).getD 0).natAbs≤33*14000000:=fun j hj=>Nat.le_trans (tabP_wth n bs b j a) (Nat.mul_le_mul (by omega) hf)
    have htl:∀ j,(tabP n bs b j).length=n:=fun j=>tabP_len n bs b j
    refine WC.lp (σ:=Nat×Option Nat) (fun s=>[(78,.int .i64 (s.1:Int)),(77,.int .i64 (n:Int)),(76,tb),(17,.int .i64 (mI s.2)),(15,tb),(11,ptr g11),(8,ptr g8),(2,.int .i64 a)])
     (fun _=>[Ow.slice tb 131 1 (tcells n us),Ow.cells g11 123 [.int .i64 n,vb],Ow.cells g8 31 [.bool false,.slice none 0 0,.bool false,.slice none 0 0]])
     (fun _=>[mTB D us mss (tabL n bs b n),ge h0,fB D vb ms bs]) (fun s=>s.1≤n∧s.2=(List.range s.1).foldl (mostS (fun k=>ol (tabP n bs b k) a)) none∧∀ j,s.2=some j→j < n) (fun s=>n - s.1) (0,none) ⟨Nat.zero_le _,rfl,fun j h=>by cases h⟩ ?_
    rintro⟨i,o⟩ ⟨hi,ho,hoj⟩
    simp only at hi ho hoj ⊢
    by_cases ci:i < n
    ·have hstep:(List.range (i+1)).foldl (mostS (fun k=>ol (tabP n bs b k) a)) none=mostS (fun k=>ol (tabP n bs b k) a) o i:=by rw[List.range_succ,List.foldl_append,←ho];rfl
     have hwi:=hwt i ci
     have hli:=htl i
     refine WC.fact (fL D (us i) (mss i) (tabP n bs b i)) (W.Has.tabG (us:=us) (m:=n) hmA ci) ?_
     refine WC.fact (isQ (qv (mss i a)) (wq D (((tabP n bs b i).getD a none).getD 0))) (W.Has.lq (ms:=mss i) (W.Has.lm (v:=us i) hmA) (by omega)) ?_
     cases o with
     |none=>
      rw[show mI none= -1 from rfl]
      repeat'(first|refine gB ?_|(refine gH ?_;intro g)|(refine gW ?_;intro v)|refine goYL ?_|refine d41 ?_|fail)
      cases he:(tabP n bs b i).getD a none with
      |none=>
       have h1:mostS (fun k=>ol (tabP n bs b k) a) (none) i=none:=by unfold mostS;simp only[ol];rw[he]
       rw[h1] at hstep
       rw[show(none:Option Int).isSome=false from rfl]
       repeat'(first|refine gB ?_|(refine gH ?_;intro g)|(refine gW ?_;intro v)|refine goYL ?_|refine d41 ?_|fail)
       exact LoopEnd.mk (i+1,none) ⟨by show i+1≤n;omega,hstep.symm,hoj⟩ (by show n - (i+1) < n - i;omega)
      |some d=>
       rw[show(some d:Option Int).isSome=true from rfl]
       unfold ol at hwi
       rw[he] at hwi
       simp only[Option.getD_some] at hwi ⊢
       have h1:mostS (fun k=>ol (tabP n bs b k) a) none i=some i:=by unfold mostS;simp only[ol];rw[he]
       rw[h1] at hstep
       repeat'(first|refine gB ?_|(refine gH ?_;intro g)|(refine gW ?_;intro v)|refine goYL ?_|refine d41 ?_|fail)
       exact LoopEnd.mk (i+1,some i) ⟨by show i+1≤n;omega,hstep.symm,fun j h=>by cases h;exact ci⟩ (by show n - (i+1) < n - i;omega)
     |some j=>
      have hj:=hoj j rfl
      have hwj:=hwt j hj
      have hlj:=htl j
      rw[show mI (some j)=(j:Int) from rfl]
      refine WC.fact (fL D (us j) (mss j) (tabP n bs b j)) (W.Has.tabG (us:=us) (m:=n) hmA hj) ?_
      refine WC.fact (isQ (qv (mss j a)) (wq D ((ol (tabP n bs b j) a).getD 0))) (W.Has.lq (ms:=mss j) (W.Has.lm (v:=us j) hmA) (by omega)) ?_
      repeat'(first|refine gB ?_|(refine gH ?_;intro g)|(refine gW ?_;intro v)|refine goYL ?_|refine d41 ?_|fail)
      cases he:(tabP n bs b i).getD a none with
      |none=>
       have h1:mostS (fun k=>ol (tabP n bs b k) a) (some j) i=some j:=by unfold mostS;simp only[ol];rw[he]
       rw[h1] at hstep
       rw[show(none:Option Int).isSome=false from rfl]
       repeat'(first|refine gB ?_|(refine gH ?_;intro g)|(refine gW ?_;intro v)|refine goYL ?_|refine d41 ?_|fail)
       exact LoopEnd.mk (i+1,some j) ⟨by show i+1≤n;omega,hstep.symm,hoj⟩ (by show n - (i+1) < n - i;omega)
      |some d=>
       rw[show(some d:Option Int).isSome=true from rfl]
       unfold ol at hwi
       rw[he] at hwi
       simp only[Option.getD_some] at hwi ⊢
       repeat'(first|refine gB ?_|(refine gH ?_;intro g)|(refine gW ?_;intro v)|refine goYL ?_|refine d41 ?_|fail)
       first|refine WL.callV (cmpw_c D (mss i a) (mss j a) d ((ol (tabP n bs b j) a).getD 0) (by unfold Lim;omega) (by unfold Lim;omega)) ?_|refine WD.callV (cmpw_c D (mss i a) (mss j a) d ((ol (tabP n bs b j) a).getD 0) (by unfold Lim;omega) (by unfold Lim;omega)) ?_
       by_cases hlt:d < (ol (tabP n bs b j) a).getD 0
       ·have h1:mostS (fun k=>ol (tabP n bs b k) a) (some j) i=some i:=by unfold mostS;simp only[ol];rw[he];exact if_pos hlt
        rw[h1] at hstep
        rw[cmpI_lt hlt]
        repeat'(first|refine gB ?_|(refine gH ?_;intro g)|(refine gW ?_;intro v)|refine goYL ?_|refine d41 ?_|fail)
        exact LoopEnd.mk (i+1,some i) ⟨by show i+1≤n;omega,hstep.symm,fun j h=>by cases h;exact ci⟩ (by show n - (i+1) < n - i;omega)
       ·have h1:mostS (fun k=>ol (tabP n bs b k) a) (some j) i=some j:=by unfold mostS;simp only[ol];rw[he];exact if_neg hlt
        rw[h1] at hstep
        have h2:0≤cmpI d ((ol (tabP n bs b j) a).getD 0):=by unfold cmpI;rw[if_neg hlt];split <;> omega
        repeat'(first|refine gB ?_|(refine gH ?_;intro g)|(refine gW ?_;intro v)|refine goYL ?_|refine d41 ?_|fail)
        exact LoopEnd.mk (i+1,some j) ⟨by show i+1≤n;omega,hstep.symm,hoj⟩ (by show n - (i+1) < n - i;omega)
    ·obtain rfl:n=i:=by omega
     cases o with
     |none=>
      rw[show mI none= -1 from rfl]
      rw[show mostK n bs a b=none from ho.symm] at hs
      repeat'(first|refine gB ?_|(refine gH ?_;intro g)|(refine gW ?_;intro v)|refine goYL ?_|refine d41 ?_|fail)
      exact WC.ret (Fin.p [] [isQ (qv m00) (wq D 0),sI (.slice none 0 0) []] (ResE.c3 rfl rfl meA T.r31 rfl rfl rfl) meA (List.nil_sublist _) (.cons (hq0 _) (.cons nil0 .nil)) (by rw[hs];exact⟨m00,_,rfl,rfl,rfl⟩))
     |some j=>
      have hj:=hoj j rfl
      have hwj:=hwt j hj
      have hlj:=htl j
      rw[show mI (some j)=(j:Int) from rfl]
      rw[show mostK n bs a b=some j from ho.symm] at hs
      refine WC.fact (fL D (us j) (mss j) (tabP n bs b j)) (W.Has.tabG (us:=us) (m:=n) hmA hj) ?_
      refine WC.fact (isQ (qv (mss j a)) (wq D (mostD n bs a b j))) (W.Has.lq (ms:=mss j) (W.Has.lm (v:=us j) hmA) (by omega)) ?_
      repeat'(first|refine gB ?_|(refine gH ?_;intro g)|(refine gW ?_;intro v)|refine goYL ?_|refine d41 ?_|fail)
      revert g;intro g20
      refine WD.callO (hF:=.cons (.f hmA) (.cons (HasB.fT (k:=n) (el:=131) meA (tabL_len n bs b n) hmA) (.cons (.and (.c meA) (.f hmA)) .nil)))
       (first_c D vb tb ms us mss bs (tabL n bs b n) n hv hf (tabL_ok hf (by omega)) a j (by rw[tabL_len];omega) (by omega) 106 [ptr g20] (andF (ce g20 31 (qcs (mss j a))) (isQ (qv (mss j a)) (wq D (mostD n bs a b j)))) (fun x=>decide (x=mostD n bs a b j)) (fun m k=>most1_c D m (mss j a) k _ g20)) (fun rv=>?_)
      repeat'(first|refine gB ?_|(refine gH ?_;intro g)|(refine gW ?_;intro v)|refine goYL ?_|refine d41 ?_|fail)
      generalize hpp:fstP bs (tabL n bs b n) (fun x=>decide (x=mostD n bs a b j)) j a 0 []=pp at *
      refine WC.freezeI (l:=pp) (v:=rv) (el:=3) (by repeat(first|exact Sel.head|apply Sel.tail)) ?_
      exact WC.ret (Fin.p [] [isQ (qv (mss j a)) (wq D (mostD n bs a b j)),sI rv pp] (ResE.c3 rfl rfl meA T.r31 rfl rfl rfl) meA (List.nil_sublist _) sfA (by rw[hs];exact⟨mss j a,_,rfl,rfl,by rw[←hpp]⟩))
end H
end Go.Proofs.YtaongbhamadlkaaGreat
namespace Go.Proofs.YtaongbhamadlkaaGreat
open W Go.RowKit
theorem Idx.snoc {bs:List Bd} {l:List Int} {i:Nat} (h:Idx bs l) (hi:i < bs.length):Idx bs (l++[(i:Int)]):=fun j hj=>by
 rw[List.length_append,List.length_singleton] at hj
 by_cases c:j < l.length
 ·have:=h j c
  simp only[List.getD_eq_getElem?_getD,List.getElem?_append_left c] at this ⊢;exact this
 ·obtain rfl:j=l.length:=by omega
  simp[List.getD_eq_getElem?_getD];omega
def rslv (n:Int) (bs:List Bd):List Int×List Int×Int:=if validB n bs=true then(if Sol bs (jacs bs n.toNat n.toNat) then(jacs bs n.toNat n.toNat,[],0) else([],rcyc bs n.toNat 1,14)) else([],[],1)
theorem jacs_wth {n:Nat} {bs:List Bd} (hv:Vld n bs) (k:Nat):Wth (k*absS bs) (jacs bs n k):=by
 induction k with
 |zero=>intro v;have:=jacs_zero bs n v;unfold vl at this;rw[this];simp
 |succ k ih=>
  intro v
  rw[Nat.succ_mul]
  rcases jacs_of hv k v with h|⟨b,h1,h2,h3⟩
  ·unfold vl at h;rw[h];have:=ih v;omega
  ·unfold vl at h3;rw[h3]
   have:=ih b.fr.toNat
   obtain⟨i,hi,rfl⟩:=bg_of h1
   have:=@absS_le bs i
   omega
theorem slv_same (n:Int) (bs:List Bd):slv n bs=rslv n bs:=by
 unfold slv rslv
 by_cases h:validB n bs=true
 ·rw[if_pos h,if_pos h]
  obtain⟨m,rfl,hv⟩:=Vld.of h
  rw[Int.toNat_natCast]
  by_cases hs:HasSol bs
  ·rw[great_some hv hs,if_pos ((sol_iff_has hv).2 hs)]
  ·rw[great_none hv hs,if_neg (fun c=>hs ((sol_iff_has hv).1 c)),cyc_same hv hs]
 ·rw[if_neg h,if_neg h]
end Go.Proofs.YtaongbhamadlkaaGreat
namespace Go.Proofs.YtaongbhamadlkaaGreat
open W Go.RowKit
def nxi (l:List Int) (i:Nat):Int:=l.getD (((i:Int)+1) % (l.length:Int)).toNat 0
def Clo (bs:List Bd) (l:List Int):Prop:=∀ i,i < l.length→(bg bs (l.getD i 0).toNat).to=(bg bs (nxi l i).toNat).fr
instance (bs:List Bd) (l:List Int):Decidable (Idx bs l):=by unfold Idx;infer_instance
instance (bs:List Bd) (l:List Int):Decidable (Clo bs l):=by unfold Clo;infer_instance
end Go.Proofs.YtaongbhamadlkaaGreat
namespace Go.Proofs.YtaongbhamadlkaaGreat
open W Go.RowKit
theorem mem_getD {l:List Int} {x:Int}:x∈l↔∃ j,j < l.length∧l.getD j 0=x:=by
 constructor
 ·intro hi
  obtain⟨j,h1,rfl⟩:=List.getElem_of_mem hi
  exact⟨j,h1,by simp[List.getD_eq_getElem?_getD,h1]⟩
 ·rintro⟨j,h1,rfl⟩
  simp[List.getD_eq_getElem?_getD,h1]
end Go.Proofs.YtaongbhamadlkaaGreat
namespace Go.Proofs.YtaongbhamadlkaaGreat
open W Go.RowKit
variable {P:Program} {e:Env} {bx bx':List Ow} {F:List Fct} {ty t el:TypeId} {v u:Value} {x y z:Operand} {D n k:Nat} {ms:Nat→QM} {m:QM} {bs:List Bd} {b:Bd} {q:Rat} {K:RPost}
theorem YO.buildBd {i j:Int} (h1:ev e x=some (.int .i64 i)) (h2:ev e y=some (.int .i64 j)):YO Tryz.prog (.build 77 #[(0,x),(1,y)]) ty e bx F (.agg #[.int .i64 i,.int .i64 j,.bool false,.slice none 0 0,.bool false,.slice none 0 0]):=YO.build (parts:=[(0,x),(1,y)]) (.cons h1 (.cons h2 .nil)) fun w=>run_build w 77 _ _ (by kernel_rfl)
theorem YO.buildBd3 {i j:Int} (h1:ev e x=some (.int .i64 i)) (h2:ev e y=some (.int .i64 j)) (h3:ev e z=some (qv m)):YO Tryz.prog (.build 77 #[(0,x),(1,y),(2,z)]) ty e bx F (.agg #[.int .i64 i,.int .i64 j,.bool m.1,m.2.1,.bool false,m.2.2]):=YO.build (parts:=[(0,x),(1,y),(2,z)]) (.cons h1 (.cons h2 (.cons h3 .nil))) fun w=>run_build w 77 _ _ (by kernel_rfl)
theorem YO.buildSy1 {i:Int} (h1:ev e x=some (.int .i64 i)):YO Tryz.prog (.build 123 #[(0,x)]) ty e bx F (.agg #[.int .i64 i,.slice none 0 0]):=YO.build (parts:=[(0,x)]) (.cons h1 .nil) fun w=>run_build w 123 _ _ (by kernel_rfl)
theorem LO.storeB2 {g:Nat} {tg:TypeId} {c1 c2 d1 d2 d3 d4:Value} (hx:ev e x=some (.pointer (some ⟨g,2,none⟩))) (hy:ev e y=some (qv m)) (hr:Row P t 4) (hq:Has F (isQ (qv m) q)) (hs:Sel bx (.cells g tg [c1,c2,d1,d2,d3,d4]) (.cells g tg [c1,c2,.bool m.1,m.2.1,.bool false,m.2.2]) bx')
  (h:K undef bx' F):LO P (.store t x y) ty e bx F K:=
 LO.byOneL (one_q hq) fun h1=>LO.store (vs:=qcs m) hx hy (by simp[Value.cells]) (by rw[hr.2];rfl) h1 hs (by show 2+4≤6;omega) rfl h
theorem YO.ldOBf (hs:Scalar P t) (hx:ev e x=some (.pointer (some (eaddr v (k*6+0))))) (hb:Ow.slice v el 6 (bcells bs ms)∈bx) (hk:k < bs.length):YO P (.load t x) ty e bx F (.int .i64 (bg bs k).fr):=
 YO.ldO hs hx hb (bcells_get hk (by decide))
theorem YO.ldOBt (hs:Scalar P t) (hx:ev e x=some (.pointer (some (eaddr v (k*6+1))))) (hb:Ow.slice v el 6 (bcells bs ms)∈bx) (hk:k < bs.length):YO P (.load t x) ty e bx F (.int .i64 (bg bs k).to):=
 YO.ldO hs hx hb (bcells_get hk (by decide))
end Go.Proofs.YtaongbhamadlkaaGreat
namespace Go.Proofs.YtaongbhamadlkaaGreat
open W Go.RowKit
attribute [local irreducible] WC WL WD YO LO LoopEnd W.Fin Scalar SliceT FieldAt Row ArrT AllocT KnS Has W.One SrcE IntT
namespace I
set_option maxRecDepth 60000
theorem t1A {G:Prop} (h:G:=by first|((exact H.t1A);done)|fail):G:=h
theorem t2A {G:Prop} (h:G:=by first|((exact H.t2A);done)|fail):G:=h
theorem t3A {G:Prop} (h:G:=by first|((exact H.t3A);done)|fail):G:=h
theorem t5A {G:Prop} (h:G:=by first|((exact H.t5A);done)|fail):G:=h
theorem t6A {G:Prop} (h:G:=by first|((exact H.t6A);done)|fail):G:=h
theorem knA {G:Prop} (h:G:=by first|((exact H.knA);done)|fail):G:=h
theorem hsA {G:Prop} (h:G:=by first|((exact H.hsA);done)|fail):G:=h
theorem y_indexAddr {G:Prop} (h:G:=by first|((exact H.y_indexAddr);done)|fail):G:=h
theorem y_load {G:Prop} (h:G:=by first|(((first|(apply YO.ldW;exact t4A;exact rfl;exact meA;exact rfl)|(apply YO.ld42;exact t4A;exact rfl;exact meA)|(apply YO.ld40;exact t4A;exact rfl;exact meA)|(apply YO.ld62;exact t4A;exact rfl;exact meA)|(apply YO.ld51;exact t4A;exact rfl;exact meA)|(apply YO.ldR;exact t4A;exact rfl;exact hmA;omega)|(apply YO.ldBd;exact t4A;exact rfl;exact hmA;omega)|(apply YO.ldBq;exact t4A;exact rfl;exact hmA;omega)|(apply YO.ldBf;exact t2A;exact rfl;exact hmA;omega)|(apply YO.ldBt;exact t2A;exact rfl;exact hmA;omega)|(apply YO.ldLn;exact t4A;exact rfl;exact hmA;omega)|(apply YO.ldLb;exact t2A;exact rfl;exact hmA;omega)|(apply YO.ldLq;exact t4A;exact rfl;exact hmA;omega)|(apply YO.ldWf;exact t4A;exact rfl;exact hmA;exact rfl)|(apply YO.ldOR;exact t4A;exact rfl;exact meA;omega)|(apply YO.ldOBd;exact t4A;exact rfl;exact meA;omega)|(apply YO.ldOBq;exact t4A;exact rfl;exact meA;omega)|(apply YO.ldOL;exact t4A;exact rfl;exact meA;omega)|(apply YO.ldOT;exact t2A;exact rfl;exact meA;omega)|(apply YO.ldOBf;exact t2A;exact rfl;exact meA;omega)|(apply YO.ldOBt;exact t2A;exact rfl;exact meA;omega)|(apply YO.ldWI0;exact t4A;exact rfl;exact meA;(first|omega|(simp only[List.length_set,List.length_replicate];omega)))|(apply YO.ldWF0;exact t4A;exact rfl;exact hmA;(first|omega|(simp only[List.length_set,List.length_replicate];omega)))|(apply YO.ldCI;exact t2A;exact rfl;exact meA;(first|omega|(simp only[List.length_set,List.length_replicate];omega)))|(apply YO.ldFI;exact t2A;exact rfl;exact hmA;(first|omega|(simp only[List.length_set,List.length_replicate];omega)))|(apply YO.ldF;exact t2A;exact rfl;exact hmA;exact rfl)|(apply YO.ldS;exact t2A;exact rfl;exact hsA;omega)|(apply YO.ldB;exact t2A;exact rfl;exact meA;exact rfl)|(apply YO.ldOI;exact t2A;exact rfl;exact meA;(first|omega|(simp only[List.length_set,List.length_replicate];omega)))));done)|fail):G:=h
theorem y_build {G:Prop} (h:G:=by first|((first|exact H.y_build|(apply YO.buildBd;exact rfl;exact rfl)|(apply YO.buildBd3;exact rfl;exact rfl;exact rfl)|(apply YO.buildSy1;exact rfl));done)|fail):G:=h
theorem go {G G':Prop} (h:G') (s:Bx G'→G:=by
 intro h
 (first
  |refine H.go ?_
  |(apply WL.kl_store;rotate_left;exact rfl;(first|(apply LO.storeOI;exact rfl;exact rfl;exact t3A;exact seA;(first|omega|(simp only[List.length_set];omega)))|(apply LO.storeQ;exact rfl;exact rfl;exact t4A;exact hmA;exact seA;omega)|(apply LO.storeL1;exact rfl;exact rfl;exact t4A;exact hmA;exact seA;omega)|(apply LO.storeOT;exact rfl;exact rfl;exact t3A;(first|exact One.lit rfl rfl|(apply One.sl;exact knA));exact seA;omega)|(apply LO.storeB2;exact rfl;exact rfl;exact t4A;exact hmA;exact seA)|(apply LO.storeBf;exact rfl;exact rfl;exact t3A;exact seA;omega)|(apply LO.storeBt;exact rfl;exact rfl;exact t3A;exact seA;omega)|(apply LO.storeBq;exact rfl;exact rfl;exact t4A;exact hmA;exact seA;omega)|(apply LO.storeI;exact rfl;exact rfl;exact t3A;exact seA;(first|omega|(simp only[List.length_set,List.length_replicate];omega)))|(apply LO.storeWI;exact rfl;exact rfl;exact seA;exact t4A;(first|omega|(simp only[List.length_set,List.length_replicate];omega));(first|(simp only[List.length_map,List.length_set,List.length_replicate,ints];omega)|rfl))|(apply LO.store1;exact rfl;exact rfl;exact t3A;(first|exact One.lit rfl rfl|(apply One.sl;exact knA));exact seA;(first|(simp only[List.length_cons,List.length_nil];omega)|(simp;omega));(first|(simp only[List.set_cons_succ,List.set_cons_zero];exact rfl)|exact rfl))|(apply LO.storeO1;exact rfl;exact rfl;exact t3A;(first|exact One.lit rfl rfl|(apply One.sl;exact knA));exact seA;(first|(simp only[List.length_cons,List.length_nil];omega)|(simp;omega));(first|(simp only[List.set_cons_succ,List.set_cons_zero];exact rfl)|exact rfl))|(apply LO.storeL;exact rfl;exact rfl;exact seA;exact t4A;exact rfl;exact rfl;(repeat(first|exact OneL.nil|(apply OneL.cons;(first|exact One.lit rfl rfl|(apply One.sl;exact knA))))))))
  |fail)
 exact Bx.h h):G:=s ⟨h⟩
theorem goD {G G':Prop} (h:G') (s:Bx G'→G:=by
 intro h
 (first
  |refine H.goD ?_
  |(apply WD.kl_store;exact rfl;rotate_left;exact rfl;(first|(apply LO.storeOI;exact rfl;exact rfl;exact t3A;exact seA;(first|omega|(simp only[List.length_set];omega)))|(apply LO.storeQ;exact rfl;exact rfl;exact t4A;exact hmA;exact seA;omega)|(apply LO.storeL1;exact rfl;exact rfl;exact t4A;exact hmA;exact seA;omega)|(apply LO.storeOT;exact rfl;exact rfl;exact t3A;(first|exact One.lit rfl rfl|(apply One.sl;exact knA));exact seA;omega)|(apply LO.storeB2;exact rfl;exact rfl;exact t4A;exact hmA;exact seA)|(apply LO.storeBf;exact rfl;exact rfl;exact t3A;exact seA;omega)|(apply LO.storeBt;exact rfl;exact rfl;exact t3A;exact seA;omega)|(apply LO.storeBq;exact rfl;exact rfl;exact t4A;exact hmA;exact seA;omega)|(apply LO.storeI;exact rfl;exact rfl;exact t3A;exact seA;(first|omega|(simp only[List.length_set,List.length_replicate];omega)))|(apply LO.storeWI;exact rfl;exact rfl;exact seA;exact t4A;(first|omega|(simp only[List.length_set,List.length_replicate];omega));(first|(simp only[List.length_map,List.length_set,List.length_replicate,ints];omega)|rfl))|(apply LO.store1;exact rfl;exact rfl;exact t3A;(first|exact One.lit rfl rfl|(apply One.sl;exact knA));exact seA;(first|(simp only[List.length_cons,List.length_nil];omega)|(simp;omega));(first|(simp only[List.set_cons_succ,List.set_cons_zero];exact rfl)|exact rfl))|(apply LO.storeO1;exact rfl;exact rfl;exact t3A;(first|exact One.lit rfl rfl|(apply One.sl;exact knA));exact seA;(first|(simp only[List.length_cons,List.length_nil];omega)|(simp;omega));(first|(simp only[List.set_cons_succ,List.set_cons_zero];exact rfl)|exact rfl))|(apply LO.storeL;exact rfl;exact rfl;exact seA;exact t4A;exact rfl;exact rfl;(repeat(first|exact OneL.nil|(apply OneL.cons;(first|exact One.lit rfl rfl|(apply One.sl;exact knA)))))));constructor;exact ltA)
  |fail)
 exact Bx.h h):G:=s ⟨h⟩
theorem goV {G G':Prop} (h:G') (s:Bx G'→G:=by
 intro h
 (first
  |refine H.goV ?_
  |fail)
 exact Bx.h h):G:=s ⟨h⟩
theorem goDV {G G':Prop} (h:G') (s:Bx G'→G:=by
 intro h
 (first
  |refine H.goDV ?_
  |fail)
 exact Bx.h h):G:=s ⟨h⟩
theorem goLV {G G':Prop} (h:G') (s:Bx G'→G:=by
 intro h
 (first
  |refine H.goLV ?_
  |fail)
 exact Bx.h h):G:=s ⟨h⟩
theorem goLS {G G':Prop} (h:G') (s:Bx G'→G:=by
 intro h
 (first
  |((first|(apply LO.storeOI;exact rfl;exact rfl;exact t3A;exact seA;(first|omega|(simp only[List.length_set];omega)))|(apply LO.storeQ;exact rfl;exact rfl;exact t4A;exact hmA;exact seA;omega)|(apply LO.storeL1;exact rfl;exact rfl;exact t4A;exact hmA;exact seA;omega)|(apply LO.storeOT;exact rfl;exact rfl;exact t3A;(first|exact One.lit rfl rfl|(apply One.sl;exact knA));exact seA;omega)|(apply LO.storeB2;exact rfl;exact rfl;exact t4A;exact hmA;exact seA)|(apply LO.storeBf;exact rfl;exact rfl;exact t3A;exact seA;omega)|(apply LO.storeBt;exact rfl;exact rfl;exact t3A;exact seA;omega)|(apply LO.storeBq;exact rfl;exact rfl;exact t4A;exact hmA;exact seA;omega)|(apply LO.storeI;exact rfl;exact rfl;exact t3A;exact seA;(first|omega|(simp only[List.length_set,List.length_replicate];omega)))|(apply LO.storeWI;exact rfl;exact rfl;exact seA;exact t4A;(first|omega|(simp only[List.length_set,List.length_replicate];omega));(first|(simp only[List.length_map,List.length_set,List.length_replicate,ints];omega)|rfl))|(apply LO.store1;exact rfl;exact rfl;exact t3A;(first|exact One.lit rfl rfl|(apply One.sl;exact knA));exact seA;(first|(simp only[List.length_cons,List.length_nil];omega)|(simp;omega));(first|(simp only[List.set_cons_succ,List.set_cons_zero];exact rfl)|exact rfl))|(apply LO.storeO1;exact rfl;exact rfl;exact t3A;(first|exact One.lit rfl rfl|(apply One.sl;exact knA));exact seA;(first|(simp only[List.length_cons,List.length_nil];omega)|(simp;omega));(first|(simp only[List.set_cons_succ,List.set_cons_zero];exact rfl)|exact rfl))|(apply LO.storeL;exact rfl;exact rfl;exact seA;exact t4A;exact rfl;exact rfl;(repeat(first|exact OneL.nil|(apply OneL.cons;(first|exact One.lit rfl rfl|(apply One.sl;exact knA)))))));constructor;exact ltA))
 exact Bx.h h):G:=s ⟨h⟩
theorem goYL {G G':Prop} (h:G') (s:Bx G'→G:=by
 intro h
 refine H.goYL ?_
 exact Bx.h h):G:=s ⟨h⟩
theorem goYT {G G':Prop} (h:G') (s:Bx G'→G:=by
 intro h
 refine H.goYT ?_
 exact Bx.h h):G:=s ⟨h⟩
end I
end Go.Proofs.YtaongbhamadlkaaGreat
namespace Go.Proofs.YtaongbhamadlkaaGreat
open W Go.RowKit
namespace I
open G H
attribute [local irreducible] WC WL WD YO LO LoopEnd W.Fin Scalar SliceT FieldAt Row ArrT AllocT KnS Has W.One SrcE IntT
theorem d25 {G G':Prop} (h:G') (s:Bx G'→G:=by
 intro h
 first|(apply WC.draw (id:=6) [0,1,2,3,4,5,6,7,8] (.held 0 (.held 1 (.held 2 (.held 3 (.held 4 (.held 5 (.held 6 (.held 7 (.held 8 (.done)))))))))) mixed (by kernel_rfl))|fail
 exact Bx.h h):G:=s ⟨h⟩
theorem around_c (n m:Int) (hn:I64 n) (hm:0 < m):FnB Tryz.prog 23 [.int .i64 n,.int .i64 m] [] [] (IsV (.int .i64 (around n m))):=by
 obtain⟨hn,hn2⟩:=hn
 refine fn_of [(0,(.int .i64 n)),(1,(.int .i64 m))] 13 Tryz.func23 rfl Tryz.ntmps23 (by kernel_rfl) rfl suA fun h0=>?_
 by_cases h:n < 0
 ·repeat'(first|refine gA ?_|(refine goG ?_;intro g)|(refine goV ?_;intro v))
  exact WC.ret (Fin.v (ResE.t1 rfl rfl) meA (by simp[around,h]))
 ·repeat'(first|refine gA ?_|(refine goG ?_;intro g)|(refine goV ?_;intro v))
  exact WC.ret (Fin.v (ResE.t1 rfl rfl) meA (by simp[around,h]))
theorem at_c (v:Value) (l:List Int) (i m:Int) (hl:∀ x∈l,I64 x) (hm:0 < m):FnB Tryz.prog 29 [v,.int .i64 i,.int .i64 m] [] [sI v l] (IsV (.int .i64 (atP l i m))):=by
 refine fn_of [(0,v),(1,(.int .i64 i)),(2,(.int .i64 m))] 21 Tryz.func29 rfl Tryz.ntmps29 (by kernel_rfl) rfl suA fun h0=>?_
 refine WC.lenI v l hmA fun hlen=>?_
 by_cases h:i < 0
 ·repeat'(first|refine gA ?_|(refine goG ?_;intro g)|(refine goV ?_;intro v))
  exact WC.ret (Fin.v (ResE.t1 rfl rfl) meA (by simp[atP,h]))
 by_cases h2:(l.length:Int)≤i
 ·repeat'(first|refine gA ?_|(refine goG ?_;intro g)|(refine goV ?_;intro v))
  exact WC.ret (Fin.v (ResE.t1 rfl rfl) meA (by simp[atP,h2]))
 ·repeat'(first|refine gA ?_|(refine goG ?_;intro g)|(refine goV ?_;intro v))
  first|refine WL.callV (around_c _ _ (getD_i64 hl _) hm) ?_|refine WD.callV (around_c _ _ (getD_i64 hl _) hm) ?_
  repeat'(first|refine gA ?_|(refine goG ?_;intro g)|(refine goV ?_;intro v))
  exact WC.ret (Fin.v (ResE.t1 rfl rfl) meA (by simp[atP,h,h2]))
theorem take_c (v:Value) (l:List Int) (m:Nat) (hm2:m≤100):FnB Tryz.prog 38 [v,.int .i64 m] [] [sI v l] (IsO 3 1 (ints (l.take m))):=by
 refine fn_of [(0,v),(1,(.int .i64 m))] 14 Tryz.func38 rfl Tryz.ntmps38 (by kernel_rfl) rfl suA fun h0=>?_
 refine WC.addNil 3 1 ?_
 refine WC.lenI v l hmA fun hlen=>?_
 repeat'(first|refine gA ?_|(refine goG ?_;intro g)|(refine goV ?_;intro v))
 have hmin:(min (l.length:Int) (m:Int))=((min l.length m:Nat):Int):=by omega
 rw[hmin]
 refine WL.y (YO.slice (a:=0) (b:=min l.length m) T.s22 rfl (KnS.f hmA) (.inl ⟨rfl,rfl⟩) (.inr ⟨_,rfl,rfl⟩) (by omega) (by omega)) rfl rfl ?_
 have hs:=fun F (h:Has F (sI v l))=>Has.takeI h (Nat.min_le_left l.length m)
 refine WL.l rfl rfl (LO.app T.e22 rfl rfl (SrcE.ints (hs _ hmA)) (by intro v;repeat(first|exact Sel.head|apply Sel.tail)) (ints_one _) (by simp only[List.length_map,List.length_take,List.length_nil];omega) (by simp only[List.length_map,List.length_take,List.length_nil];omega) fun v'=>?_)
 repeat'(first|refine gA ?_|(refine goG ?_;intro g)|(refine goV ?_;intro v))
 exact WC.ret (Fin.o (ResE.t1 rfl rfl) meA meA (by rw[show l.take (min l.length m)=l.take m from by rw[List.take_eq_take_iff];omega];rfl))
theorem sameInts_c (v u:Value) (l m:List Int):FnB Tryz.prog 25 [v,u] [] [sI v l,sI u m] (IsV (.bool (decide (l=m)))):=by
 refine fn_of [(0,v),(1,u)] 26 Tryz.func25 rfl Tryz.ntmps25 (by kernel_rfl) rfl suA fun h0=>?_
 refine WC.lenI v l hmA fun hlen=>?_
 by_cases hl:l.length=m.length
 ·repeat'(first|refine gB ?_|(refine gH ?_;intro g)|(refine gW ?_;intro v)|refine d25 ?_|fail)
  refine WC.lp (σ:=Nat) (fun k=>[(5,.int .i64 (k:Int)),(0,v),(1,u)]) (fun _=>[]) (fun _=>[ge h0,sI v l,sI u m]) (fun k=>k≤l.length∧∀ j,j < k→l.getD j 0=m.getD j 0) (fun k=>l.length - k) 0 ⟨Nat.zero_le _,fun j h=>by omega⟩ ?_
  rintro k ⟨hk,hn⟩
  by_cases hlt:k < l.length
  ·by_cases he:l.getD k 0=m.getD k 0
   ·repeat'(first|refine gB ?_|(refine gH ?_;intro g)|(refine gW ?_;intro v)|refine d25 ?_|fail)
    refine LoopEnd.mk (k+1) ⟨by omega,fun j hj=>?_⟩ (by show l.length - (k+1) < l.length - k;omega)
    by_cases hjk:j=k
    ·subst hjk;exact he
    ·exact hn j (by omega)
   ·repeat'(first|refine gB ?_|(refine gH ?_;intro g)|(refine gW ?_;intro v)|refine d25 ?_|fail)
    exact WC.ret (Fin.v (ResE.t1 rfl rfl) meA (by rw[decide_eq_false];rintro rfl;exact he rfl))
  ·repeat'(first|refine gB ?_|(refine gH ?_;intro g)|(refine gW ?_;intro v)|refine d25 ?_|fail)
   exact WC.ret (Fin.v (ResE.t1 rfl rfl) meA (by rw[decide_eq_true];exact same_all hl (fun j hj=>hn j (by omega))))
 ·have hl':(l.length:Int)≠m.length:=by omega
  repeat'(first|refine gB ?_|(refine gH ?_;intro g)|(refine gW ?_;intro v)|refine d25 ?_|fail)
  exact WC.ret (Fin.v (ResE.t1 rfl rfl) meA (by rw[decide_eq_false];rintro rfl;exact hl rfl))
end I
end Go.Proofs.YtaongbhamadlkaaGreat
namespace Go.Proofs.YtaongbhamadlkaaGreat
open Go.RowKit Go.Maps Go.Sort Go.Shelf
def laySorted_ren:Go.Shelf.Ren:=⟨fun|6=>164|8=>199|9=>83|11=>212|13=>140|12=>139|23=>192|24=>193|14=>183|15=>184|16=>185|17=>186|18=>187|19=>188|20=>189|21=>190|22=>191|25=>203|26=>204|27=>205|28=>206|29=>207|30=>208|31=>213|n=>n,fun|26=>3|28=>171|24=>22|0=>0|3=>3|37=>156|48=>188|50=>162|4=>4|40=>181|39=>180|45=>185|5=>5|9=>9|51=>195|55=>199|57=>204|58=>205|33=>111|n=>n,fun|n=>n⟩
theorem laySorted:SlLaysZI.n6 Tryz.prog laySorted_ren:={
 mixed:=by kernel_rfl
 f6:=⟨ "slices.Sorted[int]",by decide,Tryz.func164.trans (congrArg some (by kernel_rfl))⟩
 f8:=⟨ "slices.Collect[int]",by decide,Tryz.func199.trans (congrArg some (by kernel_rfl))⟩
 f11:=⟨ "slices.AppendSeq[[]int,int]",by decide,Tryz.func212.trans (congrArg some (by kernel_rfl))⟩
 t0:=Tryz.underlying0
 a0:=Tryz.isAgg0
 z0:=Tryz.sizeOf0
 v0:=Tryz.zeroValue0
 t24:=Tryz.underlying22
 a24:=Tryz.isAgg22
 z24:=Tryz.sizeOf22
 v24:=Tryz.zeroValue22
 t26:=Tryz.underlying3
 a26:=Tryz.isAgg3
 z26:=Tryz.sizeOf3
 v26:=Tryz.zeroValue3
 t28:=Tryz.underlying171
 a28:=Tryz.isAgg171
 z28:=Tryz.sizeOf171
 v28:=Tryz.zeroValue171
 i26:=by kernel_rfl}
section
attribute [local go_sem] Oper.semAt_some
variable {P:Program} {ρ:Ren}
set_option maxRecDepth 100000 in
theorem appendValues_in (L:SlLaysZI.n11 P ρ) (F:Fence) (n:Nat) (h11:F.fn (ρ.f 11)) (hro:F.round=none) (hn:2≤n) (g:Nat) (lb:Array Value) (hFg:F.fn g) (eg:∀ args w,(callFunc g args).run P w=.ok (.enter g args) w)
  (zs:List Int) (hN:zs.length≤maxLen) (hNb:zs.length*8≤140737488355328) (w:World) (hseq:∀ (l:Nat) (J:List Int→World→Prop) (W:World),(∀ pre W1,J pre W1→Below w.heap.size w W1)→(∀ pre x W1,J pre W1→pre.length < zs.length→YieldAt F (n - 1 - 1) P l #[encZ x] W1 fun e W'=>e=.returned (.bool true)∧J (pre++[x]) W')→J [] W→CallsIn F (n - 1) P g (#[.func (.yield l) #[] #[]]++lb) W fun e W'=>(∃ v,e=.returned v)∧J zs W') :
  CallsIn F n P (ρ.f 11) #[.slice none 0 0,.func (.func g) #[] lb] w fun e w'=>∃ (v:Value),e=.returned v∧w'.ownsRow w.heap.size (ρ.t 26) 1 v zs.length (zs.map encZ)∧Below w.heap.size w w':=by
 have h1:1≤n:=by omega
 have mixed:=L.mixed;have t0:=L.t0;have a0:=L.a0;have z0:=L.z0;have v0:=L.v0;have t24:=L.t24;have a24:=L.a24;have z24:=L.z24;have v24:=L.v24;have t26:=L.t26;have a26:=L.a26;have z26:=L.z26;have v26:=L.v26;have t28:=L.t28;have a28:=L.a28;have z28:=L.z28;have v28:=L.v28
 have hne:ρ.t 24≠ρ.t 26:=fun e=>by have h:=L.t24;rw[e,L.t26] at h;cases h
 have u0:=run_underlying L.t0;have u24:=run_underlying L.t24;have u26:=run_underlying L.t26;have u28:=run_underlying L.t28
 obtain⟨_,_,FG⟩:=L.f11
 refine callsIn_of_wp_marks FG rfl h11 ?_ hro
 simp only[SlBodyZ.n11_ntmps ρ,List.size_toArray,List.length_cons,List.length_nil,Nat.reduceAdd,Nat.reduceSub,Array.replicate_succ,Array.replicate_zero,List.push_toArray,List.append_toArray,List.nil_append,List.cons_append]
 gi_wp2
 refine wpIn_rangeFunc ?_
 intro fn hfn
 rw[hro]
 obtain⟨W0,hW0⟩:∃ W0,w.alloc (.cells #[.slice none 0 0] (ρ.t 24))=W0:=⟨_,rfl⟩
 have hs0:W0.heap.size=w.heap.size+1:=by rw[←hW0];simp
 have hv0:W0.heap[w.heap.size]?=some (.cells #[.slice none 0 0] (ρ.t 24) (0,0)):=by rw[←hW0];exact World.alloc_heap_new w _
 have hb0:Below w.heap.size w W0:=by rw[←hW0];exact(Below.refl _ w).alloc (Nat.le_refl _) _
 rw[hW0]
 obtain⟨W1,hW1⟩:∃ W1,(W0.alloc (.deferred (some []))).alloc (.loop (AnyZI.apRec ρ fn (.func (.func g) #[] lb) w.heap.size W0.heap.size .ready none))=W1:=⟨_,rfl⟩
 have hold:∀ k,k < W0.heap.size→W1.heap[k]?=W0.heap[k]?:=fun k hk=>by
  rw[←hW1];exact(Below.heap_alloc _ _ k (by simp;omega)).trans (Below.heap_alloc _ _ k hk)
 have hb1:Below w.heap.size w W1:=by rw[←hW1];exact(hb0.alloc hb0.size _).alloc (by have:=hb0.size;simp;omega) _
 have hs1:W1.heap.size=W0.heap.size+2:=by rw[←hW1];simp
 have hM:AnyZI.ApAt ρ w fn (.func (.func g) #[] lb) w.heap.size (W0.heap.size+1) W0.heap.size [] W1:=
  ⟨⟨_,(hold w.heap.size (by omega)).trans hv0,⟨rfl,.inl ⟨rfl,rfl⟩⟩,by simp⟩,
   by rw[←hW1];have:=World.alloc_heap_new (W0.alloc (.deferred (some []))) (.loop (AnyZI.apRec ρ fn (.func (.func g) #[] lb) w.heap.size W0.heap.size .ready none));rwa [World.size_alloc] at this,
   by rw[←hW1];exact(Below.heap_alloc _ _ _ (by simp)).trans (World.alloc_heap_new W0 _),hb1⟩
 refine⟨W0.heap.size+1,[{target:=.collected W0.heap.size,args:=#[]}],W1,{target:=.fn (.func g) lb,args:=#[.func (.yield (W0.heap.size+1)) #[] #[]]},W1,g,
  #[.func (.yield (W0.heap.size+1)) #[] #[]]++lb,W1,?_,?_,?_,?_,fun _=>h1,?_⟩
 ·rw[←hW1];exact run_enterLoop_outer _ _ _ _ _
 ·simp[resolve,go_sem]
 ·intro f' hf';simp[Target.leads] at hf';subst hf';exact hFg
 ·simp[invoke,go_sem,eg]
 ·refine(hseq (W0.heap.size+1) (AnyZI.ApAt ρ w fn (.func (.func g) #[] lb) w.heap.size (W0.heap.size+1) W0.heap.size) W1 (fun pre W1 h=>h.below)
   (fun pre x W hJ hl=>by
    obtain⟨fn',tmps,assign,body,hy,hR⟩:=AnyZI.apYield {L with} F (n - 1 - 1) w fn hfn (.func (.func g) #[] lb) w.heap.size (W0.heap.size+1) W0.heap.size (by omega) (by omega) (by omega) (Nat.le_refl _) (by omega) zs.length hN hNb pre x W hJ hl
    exact⟨fn',tmps,assign,body,hy,hR.mono fun e W' h=>⟨h.1,h.2.1⟩⟩) hM).mono ?_
  rintro e W2 ⟨⟨v0,rfl⟩,h2⟩
  obtain⟨v,hv,hrow,hnil⟩:=h2.box
  have hend:=run_endLoop (P:=P) h2.L (by simp[AnyZI.apRec])
  obtain⟨W3,hW3⟩:∃ W3,W2.putObj (W0.heap.size+1) (.loop {AnyZI.apRec ρ fn (.func (.func g) #[] lb) w.heap.size W0.heap.size .ready none with state:=.exhausted})=W3:=⟨_,rfl⟩
  rw[hW3] at hend
  have hg3:W2.grownBy W3 (some (W0.heap.size+1)):=by rw[←hW3];exact grownBy_putObj_a _ _ _
  have hv3:W3.heap[w.heap.size]?=some (.cells #[v] (ρ.t 24) (0,0)):=by rw[←hW3];exact(World.putObj_heap_other (by omega)).trans hv
  have hK3:W3.heap[W0.heap.size]?=some (.deferred (some [])):=by rw[←hW3];exact(World.putObj_heap_other (by omega)).trans h2.K
  have hrow3:=hrow.kept hg3 (ownsRow_ne_a hrow h2.L (fun cur e=>by first|cases e|exact hne (Obj.cells.inj e).2.1))
  have hb3:Below w.heap.size w W3:=h2.below.grown hg3 h2.below.size (fun k e=>by cases e;omega)
  obtain⟨hc3,hf3⟩:=cell_of_box_a hv3
  clear hW3
  refine⟨none,W3,hend,?_⟩
  gi_wp2
  rw[←hs0]
  refine⟨by simp,.inl ⟨_,_,rfl,run_takeDeferred hK3,?_⟩⟩
  exact⟨_,results_tmp rfl _ _ _,v,rfl,hrow3.kept (grownBy_putObj_a _ _ _) (ownsRow_ne_a hrow3 hK3 (fun cur e=>by first|cases e|exact hne (Obj.cells.inj e).2.1)),hb3.grown (grownBy_putObj_a _ _ _) hb3.size (fun k e=>by cases e;omega)⟩
def upto {α:Type} (f:Nat→α) (k:Nat):List α:=(List.range k).map f
theorem upto_succ {α:Type} (f:Nat→α) (k:Nat):upto f (k+1)=upto f k++[f k]:=by simp[upto,List.range_succ]
theorem upto_length {α:Type} (f:Nat→α) (k:Nat):(upto f k).length=k:=by simp[upto]
theorem upto_all (zs:List Int):upto (fun j=>zs[j]?.getD 0) zs.length=zs:=by
 apply List.ext_getElem
 ·simp[upto]
 ·intro i h1 h2
  simp[upto,h2]
set_option maxRecDepth 100000 in
theorem values1_in (F:Fence) (n:Nat) (h7:F.fn 200) (hro:F.round=none) (hn:1≤n) (w0:World) (l Bs n₀ b off len cap:Nat) (zs:List Int) (hreach:len*8≤140737488351232) (hb:b < n₀) (hBs0:Bs < n₀) (J:List Int→World→Prop)
  (hJ:∀ pre W,J pre W→Below n₀ w0 W)
  (hY:∀ pre x W,J pre W→pre.length < len→YieldAt F (n - 1) Tryz.prog l #[.int .i64 x] W fun e W'=>e=.returned (.bool true)∧J (pre++[x]) W')
  (W:World) (hBs:w0.cell? ⟨Bs,0,none⟩=some (.slice (some ⟨b,off,none⟩) len cap)) (hc:∀ j,j < len→w0.cell? ⟨b,off+j,none⟩=some (.int .i64 (zs[j]?.getD 0))) (h0:J [] W) :
  CallsIn F n Tryz.prog 200 #[.func (.yield l) #[] #[],.pointer (some ⟨Bs,0,none⟩)] W fun e W'=>(∃ v,e=.returned v)∧J (upto (fun j=>zs[j]?.getD 0) len) W':=by
 have hBs':W.cell? ⟨Bs,0,none⟩=some (.slice (some ⟨b,off,none⟩) len cap):=((hJ [] W h0).cell (p:=⟨Bs,0,none⟩) hBs0).trans hBs
 refine callsIn_of_wp Tryz.func200 rfl h7 ?_ hro
 simp only[Tryz.ntmps200,List.size_toArray,List.length_cons,List.length_nil,Nat.reduceAdd,Nat.reduceSub,Array.replicate_succ,Array.replicate_zero,List.push_toArray,List.append_toArray,List.nil_append,List.cons_append]
 gi_wp2
 gi_loopw [7] (fun i wr=>∃ k:Nat,k≤len∧i=.int .i64 k∧J (upto (fun j=>zs[j]?.getD 0) k) wr)
  (fun i _=>len - (intOf i).toNat)
 case atStart=>exact⟨0,Nat.zero_le _,rfl,h0⟩
 case round=>
  obtain⟨k,hk,rfl,hJs⟩:=hrel
  have hcx:k < len→wr.cell? ⟨b,off+k,none⟩=some (.int .i64 (zs[k]?.getD 0)):=fun h=>((hJ _ _ hJs).cell (p:=⟨b,off+k,none⟩) hb).trans (hc k h)
  by_cases hlt:k < len
  ·obtain⟨fn,tmps,assign,body,hy,hR⟩:=hY _ (zs[k]?.getD 0) wr hJs (by rw[upto_length];exact hlt)
   have hcx':=hcx hlt
   gi_wp2
   refine hR.mono ?_
   rintro e W3 ⟨rfl,hJ3⟩
   gi_wp2
   go_roundw
   case rel=>exact⟨k+1,by omega,by simp,by rw[upto_succ];exact hJ3⟩
   case measure=>simp[intOf];omega
  ·obtain rfl:k=len:=by omega
   gi_wp2
   go_end0
   exact⟨⟨_,rfl⟩,hJs⟩
set_option maxRecDepth 100000 in
theorem values1_nil_in (F:Fence) (n:Nat) (h7:F.fn 200) (hro:F.round=none) (l Bs:Nat) (J:List Int→World→Prop) (W:World) (hBs:W.cell? ⟨Bs,0,none⟩=some (.slice none 0 0)) (h0:J [] W) :
  CallsIn F n Tryz.prog 200 #[.func (.yield l) #[] #[],.pointer (some ⟨Bs,0,none⟩)] W fun e W'=>(∃ v,e=.returned v)∧J [] W':=by
 refine callsIn_of_wp Tryz.func200 rfl h7 ?_ hro
 simp only[Tryz.ntmps200,List.size_toArray,List.length_cons,List.length_nil,Nat.reduceAdd,Nat.reduceSub,Array.replicate_succ,Array.replicate_zero,List.push_toArray,List.append_toArray,List.nil_append,List.cons_append]
 gi_wp2
 gi_loopw [7] (fun i wr=>i=.int .i64 0∧J [] wr) (fun _ _=>0)
 case atStart=>exact⟨rfl,h0⟩
 case round=>
  obtain⟨rfl,hJs⟩:=hrel
  gi_wp2
  go_end0
  exact⟨⟨_,rfl⟩,hJs⟩
end
end Go.Proofs.YtaongbhamadlkaaGreat
namespace Go.Proofs.YtaongbhamadlkaaGreat
open Go.RowKit Go.Maps Go.Sort Go.Shelf
section
variable {P:Program} {ρ:Ren}
set_option maxRecDepth 100000 in
theorem collectValues_in (L:SlLaysZI.n8 P ρ) (F:Fence) (n:Nat) (h8:F.fn (ρ.f 8)) (h11:F.fn (ρ.f 11)) (hro:F.round=none) (hn:3≤n) (g:Nat) (lb:Array Value) (hFg:F.fn g) (eg:∀ args w,(callFunc g args).run P w=.ok (.enter g args) w)
  (zs:List Int) (hN:zs.length≤maxLen) (hNb:zs.length*8≤140737488355328) (w:World) (hseq:∀ (W0:World),Below w.heap.size w W0→∀ (l:Nat) (J:List Int→World→Prop) (W:World),(∀ pre W1,J pre W1→Below W0.heap.size W0 W1)→(∀ pre x W1,J pre W1→pre.length < zs.length→YieldAt F (n - 1 - 1 - 1) P l #[encZ x] W1 fun e W'=>e=.returned (.bool true)∧J (pre++[x]) W')→J [] W→CallsIn F (n - 1 - 1) P g (#[.func (.yield l) #[] #[]]++lb) W fun e W'=>(∃ v,e=.returned v)∧J zs W') :
  CallsIn F n P (ρ.f 8) #[.func (.func g) #[] lb] w fun e w'=>∃ (v:Value),e=.returned v∧w'.ownsRow w.heap.size (ρ.t 26) 1 v zs.length (zs.map encZ)∧Below w.heap.size w w':=by
 have h1:1≤n:=by omega
 have e11:∀ args w,(callFunc (ρ.f 11) args).run P w=.ok (.enter (ρ.f 11) args) w:=L.f11.enters rfl
 have mixed:=L.mixed;have t0:=L.t0;have a0:=L.a0;have z0:=L.z0;have v0:=L.v0;have t24:=L.t24;have a24:=L.a24;have z24:=L.z24;have v24:=L.v24;have t26:=L.t26;have a26:=L.a26;have z26:=L.z26;have v26:=L.v26;have t28:=L.t28;have a28:=L.a28;have z28:=L.z28;have v28:=L.v28
 have u0:=run_underlying L.t0;have u24:=run_underlying L.t24;have u26:=run_underlying L.t26;have u28:=run_underlying L.t28
 obtain⟨_,_,FG⟩:=L.f8
 refine callsIn_of_wp FG rfl h8 ?_ hro
 simp only[SlBodyZ.n8_ntmps ρ,List.size_toArray,List.length_cons,List.length_nil,Nat.reduceAdd,Nat.reduceSub,Array.replicate_succ,Array.replicate_zero,List.push_toArray,List.append_toArray,List.nil_append,List.cons_append]
 gi_wp2_with (gi_at_fn (ρ.f 11);refine(appendValues_in {L with} F (n - 1) h11 hro (by omega) g lb hFg eg zs hN hNb _ (fun l J W=>hseq w (Below.refl _ w) l J W)).mono ?_;rintro e w' ⟨v,rfl,hrow,hb⟩)
 go_ret
 exact⟨v,rfl,hrow,hb⟩
set_option maxRecDepth 100000 in
theorem sortedValues_in (L:SlLaysZI.n6 P ρ) (F:Fence) (n:Nat) (h6:F.fn (ρ.f 6)) (h8:F.fn (ρ.f 8)) (h9:F.fn (ρ.f 9)) (h11:F.fn (ρ.f 11)) (hro:F.round=none) (hn:4≤n) (hsort:AnyZI.SortsIn P ρ F (n - 1)) (e9:∀ args w,(callFunc (ρ.f 9) args).run P w=.ok (.enter (ρ.f 9) args) w) (g:Nat) (lb:Array Value) (hFg:F.fn g) (eg:∀ args w,(callFunc g args).run P w=.ok (.enter g args) w)
  (zs:List Int) (hN:zs.length≤maxLen) (hNb:zs.length*8≤140737488355328) (w:World) (hseq:∀ (W0:World),Below w.heap.size w W0→∀ (l:Nat) (J:List Int→World→Prop) (W:World),(∀ pre W1,J pre W1→Below W0.heap.size W0 W1)→(∀ pre x W1,J pre W1→pre.length < zs.length→YieldAt F (n - 1 - 1 - 1 - 1) P l #[encZ x] W1 fun e W'=>e=.returned (.bool true)∧J (pre++[x]) W')→J [] W→CallsIn F (n - 1 - 1 - 1) P g (#[.func (.yield l) #[] #[]]++lb) W fun e W'=>(∃ v,e=.returned v)∧J zs W') :
  CallsIn F n P (ρ.f 6) #[.func (.func g) #[] lb] w fun e w'=>∃ (v:Value),e=.returned v∧
   w'.ownsRow w.heap.size (ρ.t 26) 1 v zs.length ((zs.mergeSort (fun x y=>decide (x≤y))).map encZ)∧Below w.heap.size w w':=by
 have h1:1≤n:=by omega
 have e8:∀ args w,(callFunc (ρ.f 8) args).run P w=.ok (.enter (ρ.f 8) args) w:=L.f8.enters rfl
 have mixed:=L.mixed;have t0:=L.t0;have a0:=L.a0;have z0:=L.z0;have v0:=L.v0;have t24:=L.t24;have a24:=L.a24;have z24:=L.z24;have v24:=L.v24;have t26:=L.t26;have a26:=L.a26;have z26:=L.z26;have v26:=L.v26;have t28:=L.t28;have a28:=L.a28;have z28:=L.z28;have v28:=L.v28
 have u0:=run_underlying L.t0;have u24:=run_underlying L.t24;have u26:=run_underlying L.t26;have u28:=run_underlying L.t28
 obtain⟨_,_,FG⟩:=L.f6
 refine callsIn_of_wp FG rfl h6 ?_ hro
 simp only[SlBodyZ.n6_ntmps ρ,List.size_toArray,List.length_cons,List.length_nil,Nat.reduceAdd,Nat.reduceSub,Array.replicate_succ,Array.replicate_zero,List.push_toArray,List.append_toArray,List.nil_append,List.cons_append]
 gi_wp2_with (gi_at_fn (ρ.f 8);refine(collectValues_in {L with} F (n - 1) h8 h11 hro (by omega) g lb hFg eg zs hN hNb _ hseq).mono ?_;rintro e W ⟨v,rfl,hrow,hb⟩)
 rcases hrow.2 with ⟨rfl,hz⟩|⟨gb,cap,cur,rfl,hbase,hgb,r1,r2,r3,r4⟩
 · -- nothing came: the nil slice is sorted and handed back
   have hss:zs=[]:=List.eq_nil_of_length_eq_zero hz
   subst hss
   gi_wp2_with (gi_at_fn (ρ.f 9);refine(hsort.2 none 0 W).mono ?_;rintro e w' ⟨rfl,rfl⟩)
   go_ret
   exact⟨.slice none 0 0,rfl,by simpa using hrow,hb⟩
 ·have hH:Holds encZ W gb 0 zs.toArray:=holds_of_block_i hgb (by simpa using r4)
  have hgl:gb < W.heap.size:=(Array.getElem?_eq_some_iff.1 hgb).1
  have hsz:zs.length < 4611686018427387904:=by omega
  have cS:=hsort.1 gb 0 cap zs W hH hgl hsz
  gi_wp2_with (gi_at_fn (ρ.f 9);refine cS.mono ?_;rintro e w' ⟨rfl,nn,os,rfl⟩)
  go_ret
  exact⟨_,rfl,ownsRow_sorted_i (by simp) hbase hgb r1 r2 r3,hb.grown (grownBy_sorted_i _) hb.size (fun j hj=>by cases hj;exact hbase)⟩
end
theorem laySorts (m:Nat):AnyZI.SortsIn Tryz.prog laySorted_ren Fence.wide m:=
 ⟨fun blk off cap ss W hH hblk hsz=>callsIn_wide.2 (AnyM.slices_Sort_int laySort blk off cap ss W hH hblk hsz),
  fun p cap W=>callsIn_wide.2 (AnyM.slices_Sort_int_none laySort p cap W)⟩
open W in
theorem sorted_c (g:Nat) (u:Value) (l:List Int) (hl:l.length≤1000000):FnB Tryz.prog 164 [.func (.func 200) #[] #[.pointer (some ⟨g,0,none⟩)]] [] [ce g 22 [u],sI u l] (IsO 3 1 (ints (srt l))):=by
 refine⟨⟨Tryz.f164,Tryz.func164,by kernel_rfl,by kernel_rfl⟩,fun fr w ho=>?_⟩
 have h1:=imm_heap (ho.facts _ (.head _))
 have h2:=ho.facts (sI u l) (.tail _ (.head _))
 have hgl:g < w.heap.size:=(Array.getElem?_eq_some_iff.1 h1).1
 have hcg:w.cell? ⟨g,0,none⟩=some u:=by
  have:=ce_cell ho (Has.mem (.head _):Has _ (ce g 22 [u])) 0
  simpa using this
 have key:CallsIn Fence.wide 5 Tryz.prog 164 #[.func (.func 200) #[] #[.pointer (some ⟨g,0,none⟩)]] w fun e w'=>∃ (v:Value),e=.returned v∧w'.ownsRow w.heap.size 3 1 v l.length ((srt l).map encZ)∧RowKit.Below w.heap.size w w':=by
  have:=sortedValues_in (ρ:=laySorted_ren) laySorted Fence.wide 5 trivial trivial trivial trivial rfl (by omega) (laySorts _) (enters_of Tryz.func83 (by kernel_rfl) rfl) 200 #[.pointer (some ⟨g,0,none⟩)] trivial (enters_of Tryz.func200 (by kernel_rfl) rfl) l (by unfold maxLen;omega) (by omega) w (fun W0 hW0 lp J W hJ hY h0=>by
   have hgl0:g < W0.heap.size:=Nat.lt_of_lt_of_le hgl hW0.size
   have hcg0:W0.cell? ⟨g,0,none⟩=some u:=(hW0.cell (p:=⟨g,0,none⟩) hgl).trans hcg
   have h3:=h2
   obtain⟨a,cap,rfl,hcap,hmax,⟨rfl,hz,rfl⟩|⟨b,off,rfl,c,t,fz,hb,hc⟩⟩:=h3
   ·have hl0:l=[]:=List.eq_nil_of_length_eq_zero hz
    subst hl0
    exact values1_nil_in Fence.wide _ trivial rfl lp g J W (((hJ [] W h0).cell (p:=⟨g,0,none⟩) hgl0).trans hcg0) h0
   ·have hbh:=imm_heap hb
    have hbl:b < w.heap.size:=(Array.getElem?_eq_some_iff.1 hbh).1
    have hcell:∀ j,j < l.length→W0.cell? ⟨b,off+j,none⟩=some (.int .i64 (l[j]?.getD 0)):=fun j hj=>by
     refine(hW0.cell (p:=⟨b,off+j,none⟩) hbl).trans ?_
     have:=slC_cell h2 (j:=j) (by simpa using hj)
     simpa [eaddr,List.getD_eq_getElem?_getD] using this
    have:=values1_in Fence.wide _ trivial rfl (by omega) W0 lp g W0.heap.size b off l.length cap l (by omega) (Nat.lt_of_lt_of_le hbl hW0.size) hgl0 J hJ hY W hcg0 hcell h0
    rw[upto_all] at this;exact this)
  exact this
 refine((callsIn_wide (n:=5)).1 key).mono ?_
 rintro e w' ⟨v,rfl,hrow,hb⟩
 have hown:=owns_slice hrow
 have hmap:(srt l).map encZ=ints (srt l):=rfl
 rw[hmap] at hown
 have hids:∀ k∈ids [Ow.slice v 3 1 (ints (srt l))],k∈ids []∨w.heap.size≤k:=by
  intro k hk
  right
  obtain⟨_,⟨rfl,_⟩|⟨g',cap,cur,rfl,hbase,_⟩⟩:=hrow
  ·simp[ids,Ow.ids] at hk
  ·simp[ids,Ow.ids] at hk;omega
 have hkeep:∀ k,k < w.heap.size→k∉ids []→w'.heap[k]?=w.heap[k]?:=fun k hk _=>hb.block k hk
 refine⟨v,[Ow.slice v 3 1 (ints (srt l))],[],rfl,⟨rfl,rfl⟩,⟨hb.os,hb.tape,hb.output⟩,?_,?_⟩
 ·have:=imm_step (ob:=[]) (bx:=[]) (nb:=[Ow.slice v 3 1 (ints (srt l))]) ho hkeep hids
  simpa using this
 ·have:=OK.step (ob:=[]) (bx:=[]) (nb:=[Ow.slice v 3 1 (ints (srt l))]) ho hkeep hids (by
   obtain⟨_,⟨rfl,_⟩|⟨g',cap,cur,rfl,hbase,_⟩⟩:=hrow
   ·simp[ids,Ow.ids]
   ·simp[ids,Ow.ids]) (fun b hb2=>by rw[List.mem_singleton] at hb2;subst hb2;exact hown)
  exact this.less (fun f hf=>by cases hf)
end Go.Proofs.YtaongbhamadlkaaGreat
namespace Go.Proofs.YtaongbhamadlkaaGreat
open Go.RowKit Go.Sort Go.Shelf
open W
theorem neg_gives (W:World) (x:Int):FnGives Tryz.prog 166 #[] #[.int .i64 x] (.bool (decide (x < 0))) W:=by
 unfold FnGives
 show Calls Tryz.prog 166 #[.int .i64 x] W _
 go_enter Tryz.func166,Tryz.ntmps166
 go_wp2
 go_ret
 exact⟨rfl,0,rfl⟩
theorem eq_gives (W:World) (x y:Int) (g:Nat) (hc:W.cell? ⟨g,0,none⟩=some (.int .i64 y)):FnGives Tryz.prog 168 #[.pointer (some ⟨g,0,none⟩)] #[.int .i64 x] (.bool (decide (x=y))) W:=by
 unfold FnGives
 show Calls Tryz.prog 168 #[.int .i64 x,.pointer (some ⟨g,0,none⟩)] W _
 go_enter Tryz.func168,Tryz.ntmps168
 go_wp2
 go_ret
 exact⟨rfl,0,rfl⟩
end Go.Proofs.YtaongbhamadlkaaGreat
namespace Go.Proofs.YtaongbhamadlkaaGreat
open W Go.RowKit
theorem fidx_in {l:List Int} {p:Int→Bool}:0≤fidx (fun i=>p (l.getD i 0)) l.length 0↔∃ x∈l,p x=true:=by
 rw[fidx_has]
 constructor
 ·rintro⟨j,_,h1,h2⟩
  exact⟨_,mem_getD.2 ⟨j,by omega,rfl⟩,h2⟩
 ·rintro⟨x,hx,h⟩
  obtain⟨j,h1,rfl⟩:=mem_getD.1 hx
  exact⟨j,Nat.zero_le _,by omega,h⟩
def IsIt (u:Value):RPost:=fun v b G=>∃ g,v=.func (.func 200) #[] #[ptr g]∧b=[]∧G=[ce g 22 [u]]
namespace I
open G H
attribute [local irreducible] WC WL WD YO LO LoopEnd W.Fin Scalar SliceT FieldAt Row ArrT AllocT KnS Has W.One SrcE IntT
theorem d84 {G G':Prop} (h:G') (s:Bx G'→G:=by
 intro h
 first|(apply WC.draw (id:=6) [0,1,2,3,4,5,6,7,8,9] (.held 0 (.held 1 (.held 2 (.held 3 (.held 4 (.held 5 (.held 6 (.held 7 (.held 8 (.held 9 (.done))))))))))) mixed (by kernel_rfl))|(apply WC.draw (id:=11) [0,1,2,3,4,5,6,7,8,9] (.held 0 (.held 1 (.held 2 (.held 3 (.held 4 (.held 5 (.held 6 (.held 7 (.held 8 (.held 9 (.done))))))))))) mixed (by kernel_rfl))|fail
 exact Bx.h h):G:=s ⟨h⟩
theorem values_c (u:Value) (l:List Int):FnB Tryz.prog 165 [u] [] [sI u l] (IsIt u):=by
 refine fn_of [(0,u)] 4 Tryz.func165 rfl Tryz.ntmps165 (by kernel_rfl) rfl suA fun h0=>?_
 repeat'(first|refine gA ?_|(refine goG ?_;intro g)|(refine goV ?_;intro v))
 refine WC.keep (g:=g) (t:=22) (cs:=[u]) (by repeat(first|exact Rem.head|apply Rem.tail)) ?_
 exact WC.ret (Fin.p [] [ce g 22 [u]] (ResE.t1 rfl rfl) meA (List.nil_sublist _) haA ⟨g,rfl,rfl,rfl⟩)
theorem indexF_c (u:Value) (l:List Int) (f:FuncId) (cap:List Value) (fG:Fct) (p:Int→Bool) (hp:∀ x,FnB Tryz.prog f ([.int .i64 x]++cap) [] [fG] (IsV (.bool (p x)))) :
  FnB Tryz.prog 138 [u,.func (.func f) #[] cap.toArray] [] [sI u l,fG] (IsV (.int .i64 (fidx (fun i=>p (l.getD i 0)) l.length 0))):=by
 refine fn_of [(0,u),(1,(.func (.func f) #[] cap.toArray))] 19 Tryz.func138 rfl Tryz.ntmps138 (by kernel_rfl) rfl suA fun h0=>?_
 refine WC.lenI u l hmA fun hlen=>?_
 repeat'(first|refine gA ?_|(refine goG ?_;intro g)|(refine goV ?_;intro v))
 refine WC.lp (σ:=Nat) (fun i=>[(8,.int .i64 (i:Int)),(7,.int .i64 (l.length:Int)),(0,u),(1,.func (.func f) #[] cap.toArray)]) (fun _=>[]) (fun _=>[ge h0,sI u l,fG]) (fun i=>i≤l.length∧fidx (fun i=>p (l.getD i 0)) (l.length - i) i=fidx (fun i=>p (l.getD i 0)) l.length 0) (fun i=>l.length - i) 0 ⟨by omega,rfl⟩ ?_
 rintro i ⟨hi,hs⟩
 by_cases c:i < l.length
 ·rw[show l.length - i=l.length - (i+1)+1 by omega,fidx] at hs
  repeat'(first|refine gA ?_|(refine goG ?_;intro g)|(refine goV ?_;intro v))
  refine WL.callF [] cap (hp (l.getD i 0)) ?_
  rintro _ _ _ ⟨rfl,rfl,rfl⟩
  rw[List.nil_append]
  cases h:p (l.getD i 0) with
  |true=>
   rw[h,if_pos rfl] at hs
   repeat'(first|refine gA ?_|(refine goG ?_;intro g)|(refine goV ?_;intro v))
   exact WC.ret (Fin.v (ResE.t1 rfl rfl) meA (by rw[hs]))
  |false=>
   rw[h,if_neg (by simp)] at hs
   repeat'(first|refine gA ?_|(refine goG ?_;intro g)|(refine goV ?_;intro v))
   exact LoopEnd.mk (i+1) ⟨by omega,hs⟩ (by show l.length - (i+1) < l.length - i;omega)
 ·rw[show l.length - i=0 by omega,fidx] at hs
  repeat'(first|refine gA ?_|(refine goG ?_;intro g)|(refine goV ?_;intro v))
  exact WC.ret (Fin.v (ResE.t1 rfl rfl) meA (by rw[←hs]))
theorem containsF_c (u:Value) (l:List Int) (f:FuncId) (cap:List Value) (fG:Fct) (p:Int→Bool) (hp:∀ x,FnB Tryz.prog f ([.int .i64 x]++cap) [] [fG] (IsV (.bool (p x)))) :
  FnB Tryz.prog 78 [u,.func (.func f) #[] cap.toArray] [] [sI u l,fG] (IsV (.bool (decide (∃ x∈l,p x=true)))):=by
 refine fn_of [(0,u),(1,(.func (.func f) #[] cap.toArray))] 9 Tryz.func78 rfl Tryz.ntmps78 (by kernel_rfl) rfl suA fun h0=>?_
 rw[show decide (∃ x∈l,p x=true)=decide (0≤fidx (fun i=>p (l.getD i 0)) l.length 0) from decide_eq_decide.2 fidx_in.symm]
 repeat'(first|refine gA ?_|(refine goG ?_;intro g)|(refine goV ?_;intro v))
 first|refine WL.callV (indexF_c u l f cap fG p hp) ?_|refine WD.callV (indexF_c u l f cap fG p hp) ?_
 by_cases c:0≤fidx (fun i=>p (l.getD i 0)) l.length 0
 ·rw[decide_eq_true c]
  repeat'(first|refine gA ?_|(refine goG ?_;intro g)|(refine goV ?_;intro v))
  exact WC.ret (Fin.v (ResE.t1 rfl rfl) meA rfl)
 ·rw[decide_eq_false c]
  repeat'(first|refine gA ?_|(refine goG ?_;intro g)|(refine goV ?_;intro v))
  exact WC.ret (Fin.v (ResE.t1 rfl rfl) meA rfl)
theorem index_c (u:Value) (l:List Int) (x:Int):FnB Tryz.prog 122 [u,.int .i64 x] [] [sI u l] (IsV (.int .i64 (fidx (fun i=>decide (x=l.getD i 0)) l.length 0))):=by
 refine fn_of [(0,u),(1,(.int .i64 x))] 19 Tryz.func122 rfl Tryz.ntmps122 (by kernel_rfl) rfl suA fun h0=>?_
 refine WC.lenI u l hmA fun hlen=>?_
 repeat'(first|refine gA ?_|(refine goG ?_;intro g)|(refine goV ?_;intro v))
 refine WC.lp (σ:=Nat) (fun i=>[(8,.int .i64 (i:Int)),(7,.int .i64 (l.length:Int)),(0,u),(1,.int .i64 x)]) (fun _=>[]) (fun _=>[ge h0,sI u l]) (fun i=>i≤l.length∧fidx (fun i=>decide (x=l.getD i 0)) (l.length - i) i=fidx (fun i=>decide (x=l.getD i 0)) l.length 0) (fun i=>l.length - i) 0 ⟨by omega,rfl⟩ ?_
 rintro i ⟨hi,hs⟩
 by_cases c:i < l.length
 ·rw[show l.length - i=l.length - (i+1)+1 by omega,fidx] at hs
  by_cases h:x=l.getD i 0
  ·rw[decide_eq_true h,if_pos rfl] at hs
   repeat'(first|refine gA ?_|(refine goG ?_;intro g)|(refine goV ?_;intro v))
   exact WC.ret (Fin.v (ResE.t1 rfl rfl) meA (by rw[hs]))
  ·rw[decide_eq_false h,if_neg (by simp)] at hs
   repeat'(first|refine gA ?_|(refine goG ?_;intro g)|(refine goV ?_;intro v))
   exact LoopEnd.mk (i+1) ⟨by omega,hs⟩ (by show l.length - (i+1) < l.length - i;omega)
 ·rw[show l.length - i=0 by omega,fidx] at hs
  repeat'(first|refine gA ?_|(refine goG ?_;intro g)|(refine goV ?_;intro v))
  exact WC.ret (Fin.v (ResE.t1 rfl rfl) meA (by rw[←hs]))
theorem contains_c (u:Value) (l:List Int) (x:Int):FnB Tryz.prog 141 [u,.int .i64 x] [] [sI u l] (IsV (.bool (decide (x∈l)))):=by
 refine fn_of [(0,u),(1,(.int .i64 x))] 9 Tryz.func141 rfl Tryz.ntmps141 (by kernel_rfl) rfl suA fun h0=>?_
 have hx:(x∈l)↔0≤fidx (fun i=>decide (x=l.getD i 0)) l.length 0:=by
  have:=@fidx_in l (fun y=>decide (x=y))
  rw[this];simp
 rw[show decide (x∈l)=decide (0≤fidx (fun i=>decide (x=l.getD i 0)) l.length 0) from decide_eq_decide.2 hx]
 repeat'(first|refine gA ?_|(refine goG ?_;intro g)|(refine goV ?_;intro v))
 first|refine WL.callV (index_c u l x) ?_|refine WD.callV (index_c u l x) ?_
 by_cases c:0≤fidx (fun i=>decide (x=l.getD i 0)) l.length 0
 ·rw[decide_eq_true c]
  repeat'(first|refine gA ?_|(refine goG ?_;intro g)|(refine goV ?_;intro v))
  exact WC.ret (Fin.v (ResE.t1 rfl rfl) meA rfl)
 ·rw[decide_eq_false c]
  repeat'(first|refine gA ?_|(refine goG ?_;intro g)|(refine goV ?_;intro v))
  exact WC.ret (Fin.v (ResE.t1 rfl rfl) meA rfl)
theorem clone_c (u:Value) (l:List Int) (hl:l.length≤1000000):FnB Tryz.prog 81 [u] [] [sI u l] (IsO 3 1 (ints l)):=by
 refine fn_of [(0,u)] 8 Tryz.func81 rfl Tryz.ntmps81 (by kernel_rfl) rfl suA fun h0=>?_
 cases hn:isNil u with
 |true=>
  refine WC.nil0 (v:=u) (l:=l) hmA hn fun h=>?_
  subst h
  repeat'(first|refine gA ?_|(refine goG ?_;intro g)|(refine goV ?_;intro v))
  refine WC.addNil 3 1 ?_
  exact WC.ret (Fin.o (v:=.slice none 0 0) (cs:=ints []) (ResE.t1 rfl rfl) meA (.head _) rfl)
 |false=>
  repeat'(first|refine gA ?_|(refine goG ?_;intro g)|(refine goV ?_;intro v))
  exact WC.ret (Fin.o (ResE.t1 rfl rfl) meA meA (List.nil_append _))
theorem compact0_c (v:Value) (l:List Int) (hl:l.length=0):FnB Tryz.prog 84 [v] [Ow.slice v 3 1 (ints l)] [] (IsO 3 1 (ints l)):=by
 refine fn_of [(0,v)] 61 Tryz.func84 rfl Tryz.ntmps84 (by kernel_rfl) rfl suA fun h0=>?_
 repeat'(first|refine gB ?_|(refine gH ?_;intro g)|(refine gW ?_;intro v)|refine d84 ?_|fail)
 exact WC.ret (Fin.o (ResE.t1 rfl rfl) meA meA rfl)
theorem compactA_c (v:Value) (l:List Int) (hl:l.length≤1000000):FnB Tryz.prog 84 [v] [Ow.slice v 3 1 (ints l)] [] (IsO 3 1 (ints (Lib.compact l))):=by
 cases l with
 |nil=>exact compact0_c v [] rfl
 |cons a l=>exact compact_c v (a::l) hl (by simp)
theorem delete0_c (v:Value) (f:FuncId) (cap:List Value) (fG:Fct) (p:Int→Bool) (hp:∀ x,FnB Tryz.prog f ([.int .i64 x]++cap) [] [fG] (IsV (.bool (p x)))) :
  FnB Tryz.prog 80 [v,.func (.func f) #[] cap.toArray] [Ow.slice v 3 1 (ints [])] [fG] (IsO 3 1 (ints [])):=by
 refine fn_of [(0,v),(1,(.func (.func f) #[] cap.toArray))] 42 Tryz.func80 rfl Tryz.ntmps80 (by kernel_rfl) rfl suA fun h0=>?_
 repeat'(first|refine gA ?_|(refine goG ?_;intro g)|(refine goV ?_;intro v))
 first|refine WL.callV (indexF_c v [] f cap fG p hp) ?_|refine WD.callV (indexF_c v [] f cap fG p hp) ?_
 rw[show fidx (fun i=>p (([]:List Int).getD i 0)) ([]:List Int).length 0= -1 from rfl]
 repeat'(first|refine gA ?_|(refine goG ?_;intro g)|(refine goV ?_;intro v))
 exact WC.ret (Fin.o (ResE.t1 rfl rfl) meA meA rfl)
theorem core1_c (x:Int):FnB Tryz.prog 163 ([.int .i64 x]++[]) [] [ttF] (IsV (.bool (decide (x < -1)))):=by
 refine fn_of [(0,(.int .i64 x))] 5 Tryz.func163 rfl Tryz.ntmps163 (by kernel_rfl) rfl suA fun h0=>?_
 by_cases c:x < -1
 ·repeat'(first|refine gA ?_|(refine goG ?_;intro g)|(refine goV ?_;intro v))
  exact WC.ret (Fin.v (ResE.t1 rfl rfl) meA (by rw[decide_eq_true c]))
 ·repeat'(first|refine gA ?_|(refine goG ?_;intro g)|(refine goV ?_;intro v))
  exact WC.ret (Fin.v (ResE.t1 rfl rfl) meA (by rw[decide_eq_false c]))
theorem core2_c (x:Int):FnB Tryz.prog 166 ([.int .i64 x]++[]) [] [ttF] (IsV (.bool (decide (x < 0)))):=by
 refine fn_of [(0,(.int .i64 x))] 5 Tryz.func166 rfl Tryz.ntmps166 (by kernel_rfl) rfl suA fun h0=>?_
 by_cases c:x < 0
 ·repeat'(first|refine gA ?_|(refine goG ?_;intro g)|(refine goV ?_;intro v))
  exact WC.ret (Fin.v (ResE.t1 rfl rfl) meA (by rw[decide_eq_true c]))
 ·repeat'(first|refine gA ?_|(refine goG ?_;intro g)|(refine goV ?_;intro v))
  exact WC.ret (Fin.v (ResE.t1 rfl rfl) meA (by rw[decide_eq_false c]))
theorem core3_c (x y:Int) (g:Nat):FnB Tryz.prog 168 ([.int .i64 x]++[ptr g]) [] [ce g 3 [.int .i64 y]] (IsV (.bool (decide (x=y)))):=by
 refine fn_of [(0,(.int .i64 x)),(1,(ptr g))] 7 Tryz.func168 rfl Tryz.ntmps168 (by kernel_rfl) rfl suA fun h0=>?_
 by_cases c:x=y
 ·repeat'(first|refine gA ?_|(refine goG ?_;intro g)|(refine goV ?_;intro v))
  exact WC.ret (Fin.v (ResE.t1 rfl rfl) meA (by rw[decide_eq_true c]))
 ·repeat'(first|refine gA ?_|(refine goG ?_;intro g)|(refine goV ?_;intro v))
  exact WC.ret (Fin.v (ResE.t1 rfl rfl) meA (by rw[decide_eq_false c]))
end I
open Go.Sort in
theorem delNeg_c (v:Value) (l:List Int) (hl:l.length≤1000000):FnB Tryz.prog 80 [v,.func (.func 166) #[] #[]] [Ow.slice v 3 1 (ints l)] [ttF] (IsO 3 1 (ints (l.filter fun x=>!decide (x < 0)))):=by
 cases l with
 |nil=>exact I.delete0_c v 166 [] ttF _ I.core2_c
 |cons a l=>exact delete_row hl (by simp) (fun x=>decide (x < 0)) _ _ (enters_of Tryz.func166 (by kernel_rfl) rfl) fun fr w b cap hv ho=>⟨fun W x _=>neg_gives W x,fun n os dk x _=>neg_gives _ x⟩
open Go.Sort in
theorem delEq_c (v:Value) (l:List Int) (y:Int) (g:Nat) (hl:l.length≤1000000):FnB Tryz.prog 80 [v,.func (.func 168) #[] #[ptr g]] [Ow.slice v 3 1 (ints l)] [ce g 3 [.int .i64 y]] (IsO 3 1 (ints (l.filter fun x=>!decide (x=y)))):=by
 cases l with
 |nil=>exact I.delete0_c v 168 [ptr g] _ _ fun x=>I.core3_c x y g
 |cons a l=>
   refine delete_row hl (by simp) (fun x=>decide (x=y)) _ _ (enters_of Tryz.func168 (by kernel_rfl) rfl) ?_
   intro fr w b cap hv ho
   have hf:=ho.facts _ (.head _)
   have hg:w.heap[g]?=some (.cells #[.int .i64 y] 3 (0,0)):=imm_heap hf
   have hgl:g < w.heap.size:=(Array.getElem?_eq_some_iff.1 hg).1
   have hgb:g≠b:=by
    rintro rfl
    have:imm fr [Ow.slice v 3 1 (ints (a::l))] w.heap g=none:=by
     unfold imm;rw[if_pos];subst hv;simp[ids,Ow.ids]
    have h2:imm fr [Ow.slice v 3 1 (ints (a::l))] w.heap g=some (.cells #[.int .i64 y] 3 (0,0)):=hf
    rw[this] at h2;cases h2
   have hc:w.cell? ⟨g,0,none⟩=some (.int .i64 y):=by unfold World.cell?;rw[hg];rfl
   refine⟨fun W x hW=>eq_gives W x y g ((hW.cell (p:=⟨g,0,none⟩) hgl).trans hc),fun n os dk x _=>eq_gives _ x y g ?_⟩
   unfold World.cell? sortWorld
   rw[Sort.heap_grow_old _ os (by simpa using hgl)]
   have:(putRow (Value.int .i64) (Sort.ahead w n) b 0 dk).heap[g]?=w.heap[g]?:=by
    unfold putRow mapBlock
    show(w.heap.modify b _)[g]?=_
    rw[Array.getElem?_modify,if_neg (fun h=>hgb h.symm)]
   rw[this,hg];rfl
end Go.Proofs.YtaongbhamadlkaaGreat
namespace Go.Proofs.YtaongbhamadlkaaGreat
open W Go.RowKit
instance:Den 6:=⟨by decide,by decide⟩
def sure (l:List Int):Bool:=decide (atP l 1 3=0)
def sysX (l:List Int) (n:Int) (i:Nat):Int:=
 if sure l=true then max (atP l (4*i+4) 20 - 4) 0+3*(atP l (4*i+3) n % 3) - 3*(atP l (4*i+2) n % 3)+2*atP l (4*i+2) n - 2*atP l (4*i+3) n else atP l (4*i+4) 20 - 4
def sysK (l:List Int) (i:Nat):Nat:=if sure l=true then 6 else if atP l (4*i+5) 3=0 then 6 else if atP l (4*i+5) 3=1 then 3 else 2
def sysB (l:List Int) (n:Int) (i:Nat):Bd:=⟨atP l (4*i+2) n,atP l (4*i+3) n,sysX l n i*sysK l i⟩
def sysT (l:List Int) (n:Int) (k:Nat):List Bd:=(List.range k).map (sysB l n)
theorem sysT_len (l:List Int) (n:Int) (k:Nat):(sysT l n k).length=k:=by simp[sysT]
theorem sysT_succ (l:List Int) (n:Int) (k:Nat):sysT l n (k+1)=sysT l n k++[sysB l n k]:=by simp[sysT,List.range_succ]
theorem sysT_get (l:List Int) (n:Int) {k i:Nat} (h:i < k):bg (sysT l n k) i=sysB l n i:=by
 unfold bg sysT;simp[List.getD_eq_getElem?_getD,h]
def sysN (l:List Int) (most:Int):Int:=1+atP l 0 most
def sysC (l:List Int):Nat:=min 14 ((l.length+1) / 4)
def sysL (l:List Int) (most:Int):List Bd:=sysT l (sysN l most) (sysC l)
theorem sysX_le {l:List Int} {n:Int} (hn:0 < n) (hn2:n≤10) (i:Nat):(sysX l n i).natAbs≤60:=by
 have h1:=@atP_lt l (4*i+4) 20 (by decide)
 have h2:=@atP_lt l (4*i+3) n hn
 have h3:=@atP_lt l (4*i+2) n hn
 unfold sysX
 split <;> omega
theorem sysB_w {l:List Int} {n:Int} (hn:0 < n) (hn2:n≤10) (i:Nat):(sysB l n i).w.natAbs≤360:=by
 have h:=@sysX_le l n hn hn2 i
 show(sysX l n i*sysK l i).natAbs≤360
 rw[Int.natAbs_mul]
 have h2:((sysK l i:Nat):Int).natAbs≤6:=by unfold sysK;split <;> (try split) <;> (try split) <;> decide
 exact Nat.mul_le_mul h h2
theorem absS_app (a b:List Bd):absS (a++b)=absS a+absS b:=by simp[absS]
theorem sysT_abs {l:List Int} {n:Int} (hn:0 < n) (hn2:n≤10) (k:Nat):absS (sysT l n k)≤k*360:=by
 induction k with
 |zero=>simp[sysT,absS]
 |succ k ih=>
  rw[sysT_succ,absS_app,Nat.succ_mul]
  have:=@sysB_w l n hn hn2 k
  simp[absS] at *;omega
def IsSys (D:Nat) (n:Int) (bs:List Bd):RPost:=fun v b G=>∃ vb ms,v=.tuple #[.int .i64 n,vb]∧b=[]∧G=[fB D vb ms bs]
theorem hasmB0 {D:Nat} {F:List Fct} {ms:Nat→QM}:Has F (mB D ms []):=fun _ _ i hi=>by simp at hi
namespace I
open G H
attribute [local irreducible] WC WL WD YO LO LoopEnd W.Fin Scalar SliceT FieldAt Row ArrT AllocT KnS Has W.One SrcE IntT
theorem system_c (u:Value) (l:List Int) (most:Int) (hl:∀ x∈l,I64 x) (hm:0 < most) (hm2:most≤8):FnB Tryz.prog 37 [u,.int .i64 most] [] [sI u l] (IsSys 6 (sysN l most) (sysL l most)):=by
 refine fn_of [(0,u),(1,(.int .i64 most))] 90 Tryz.func37 rfl Tryz.ntmps37 (by kernel_rfl) rfl suA fun h0=>?_
 refine WC.lenI u l hmA fun hlen=>?_
 have hN:=@atP_lt l 0 most hm
 refine WC.addNil 77 6 ?_
 repeat'(first|refine gA ?_|(refine goG ?_;intro g)|(refine goV ?_;intro v))
 first|refine WL.callV (at_c u l 0 most hl hm) ?_|refine WD.callV (at_c u l 0 most hl hm) ?_
 repeat'(first|refine gA ?_|(refine goG ?_;intro g)|(refine goV ?_;intro v))
 first|refine WL.callV (at_c u l 1 3 hl (by decide)) ?_|refine WD.callV (at_c u l 1 3 hl (by decide)) ?_
 repeat'(first|refine gA ?_|(refine goG ?_;intro g)|(refine goV ?_;intro v))
 refine WL.k_eql (v:=.bool (sure l)) (YO.cmp rfl rfl (.inr (.inr (.inr (.inr (.inl ⟨rfl,rfl⟩)))))) rfl rfl ?_
 unfold sysL sysN
 generalize hn:1+atP l 0 most=n at *
 have hn0:0 < n:=by omega
 have hn10:n≤10:=by omega
 repeat'(first|refine gA ?_|(refine goG ?_;intro g)|(refine goV ?_;intro v))
 refine WC.lp (σ:=Nat×Value×(Nat→QM)) (fun s=>[(9,.int .i64 (s.1:Int)),(8,s.2.1),(7,.bool (sure l)),(6,.int .i64 n),(0,u)]) (fun s=>[Ow.slice s.2.1 77 6 (bcells (sysT l n s.1) s.2.2)])
  (fun s=>[mB 6 s.2.2 (sysT l n s.1),ge h0,sI u l]) (fun s=>s.1≤sysC l) (fun s=>14 - s.1) (0,.slice none 0 0,fun _=>m00) (Nat.zero_le _) ?_ suA slA (.cons hasmB0 sfA)
 rintro⟨i,vb,ms⟩ hi
 simp only at hi ⊢
 have hil:i≤14:=by unfold sysC at hi;omega
 have hcl:=sysT_len l n i
 by_cases c1:4*(i:Int)+2 < l.length
 ·by_cases c2:i < 14
  ·have hic:i+1≤sysC l:=by unfold sysC;omega
   have a2:=@atP_lt l (4*i+2) n hn0
   have a3:=@atP_lt l (4*i+3) n hn0
   have a4:=@atP_lt l (4*i+4) 20 (by decide)
   have a5:=@atP_lt l (4*i+5) 3 (by decide)
   repeat'(first|refine gA ?_|(refine goG ?_;intro g)|(refine goV ?_;intro v))
   first|refine WL.callV (at_c u l (4*i+2) n hl hn0) ?_|refine WD.callV (at_c u l (4*i+2) n hl hn0) ?_
   repeat'(first|refine gA ?_|(refine goG ?_;intro g)|(refine goV ?_;intro v))
   first|refine WL.callV (at_c u l (4*i+3) n hl hn0) ?_|refine WD.callV (at_c u l (4*i+3) n hl hn0) ?_
   repeat'(first|refine gA ?_|(refine goG ?_;intro g)|(refine goV ?_;intro v))
   first|refine WL.callV (at_c u l (4*i+4) 20 hl (by decide)) ?_|refine WD.callV (at_c u l (4*i+4) 20 hl (by decide)) ?_
   repeat'(first|refine gA ?_|(refine goG ?_;intro g)|(refine goV ?_;intro v))
   revert g;intro g10
   have hX:=@sysX_le l n hn0 hn10 i
   have hk5:(6:Int)=(1+atP l (4*i+5) 3)*((if atP l (4*i+5) 3=0 then 6 else if atP l (4*i+5) 3=1 then 3 else 2:Nat):Int):=by
    rcases(show atP l (4*i+5) 3=0∨atP l (4*i+5) 3=1∨atP l (4*i+5) 3=2 by omega) with h|h|h <;> rw[h] <;> rfl
   cases hsu:sure l with
   |true=>
    have hXe:max (atP l (4*i+4) 20 - 4) 0+3*(atP l (4*i+3) n % 3) - 3*(atP l (4*i+2) n % 3)+2*atP l (4*i+2) n - 2*atP l (4*i+3) n=sysX l n i:=by unfold sysX;rw[if_pos hsu]
    have hK:sysK l i=6:=by unfold sysK;rw[if_pos hsu]
    repeat'(first|refine gA ?_|(refine goG ?_;intro g)|(refine goV ?_;intro v))
    rw[hXe]
    first|refine WL.callV (at_c u l (4*i+5) 3 hl (by decide)) ?_|refine WD.callV (at_c u l (4*i+5) 3 hl (by decide)) ?_
    repeat'(first|refine gA ?_|(refine goG ?_;intro g)|(refine goV ?_;intro v))
    first|refine WL.callK (rofw_c 6 (sysX l n i) (1+atP l (4*i+5) 3) _ hk5 (by omega) (by unfold B2;omega) (by unfold B2;omega)) ?_|refine WD.callK (rofw_c 6 (sysX l n i) (1+atP l (4*i+5) 3) _ hk5 (by omega) (by unfold B2;omega) (by unfold B2;omega)) ?_|refine LO.callM (rofw_c 6 (sysX l n i) (1+atP l (4*i+5) 3) _ hk5 (by omega) (by unfold B2;omega) (by unfold B2;omega)) ?_
    rintro _ _ _ ⟨m2,rfl,rfl,rfl⟩
    simp only[List.nil_append,List.cons_append]
    repeat'(first|refine gA ?_|(refine goG ?_;intro g)|(refine goV ?_;intro v))
    first|refine WL.callK (rofw_c 6 (sysX l n i) 1 6 (by decide) (by decide) (by unfold B2;omega) (by decide)) ?_|refine WD.callK (rofw_c 6 (sysX l n i) 1 6 (by decide) (by decide) (by unfold B2;omega) (by decide)) ?_|refine LO.callM (rofw_c 6 (sysX l n i) 1 6 (by decide) (by decide) (by unfold B2;omega) (by decide)) ?_
    rintro _ _ _ ⟨m3,rfl,rfl,rfl⟩
    simp only[List.nil_append,List.cons_append]
    repeat'(first|refine gA ?_|(refine goG ?_;intro g)|(refine goV ?_;intro v))
    refine WL.l rfl rfl (LO.bsB1 (b:=sysB l n i) (m:=m3) rfl (fun v=>?_))
    refine WL.fact' (isQ (qv m3) (wq 6 (sysB l n i).w)) (by show Has _ (isQ (qv m3) (wq 6 (sysX l n i*sysK l i)));rw[hK];exact hmA) ?_
    repeat'(first|refine gA ?_|(refine goG ?_;intro g)|(refine goV ?_;intro v))
    refine LoopEnd.mk (i+1,v,upd ms (sysT l n i).length m3) hic (by show 14 - (i+1) < 14 - i;omega) suA (by show List.Sublist [Ow.slice v 77 6 (bcells (sysT l n (i+1)) _)] _;rw[sysT_succ];exact slA) (HasAll.cons ?_ sfA)
    show Has _ (mB 6 _ (sysT l n (i+1)))
    rw[sysT_succ]
    exact W.Has.mBapp hmA hmA
   |false=>
    have hXe:atP l (4*i+4) 20 - 4=sysX l n i:=by unfold sysX;rw[if_neg (by rw[hsu];simp)]
    rw[hXe]
    repeat'(first|refine gA ?_|(refine goG ?_;intro g)|(refine goV ?_;intro v))
    first|refine WL.callV (at_c u l (4*i+5) 3 hl (by decide)) ?_|refine WD.callV (at_c u l (4*i+5) 3 hl (by decide)) ?_
    repeat'(first|refine gA ?_|(refine goG ?_;intro g)|(refine goV ?_;intro v))
    first|refine WL.callK (rofw_c 6 (sysX l n i) (1+atP l (4*i+5) 3) _ hk5 (by omega) (by unfold B2;omega) (by unfold B2;omega)) ?_|refine WD.callK (rofw_c 6 (sysX l n i) (1+atP l (4*i+5) 3) _ hk5 (by omega) (by unfold B2;omega) (by unfold B2;omega)) ?_|refine LO.callM (rofw_c 6 (sysX l n i) (1+atP l (4*i+5) 3) _ hk5 (by omega) (by unfold B2;omega) (by unfold B2;omega)) ?_
    rintro _ _ _ ⟨m2,rfl,rfl,rfl⟩
    simp only[List.nil_append,List.cons_append]
    have hK:sysK l i=(if atP l (4*i+5) 3=0 then 6 else if atP l (4*i+5) 3=1 then 3 else 2:Nat):=by unfold sysK;simp[hsu]
    repeat'(first|refine gA ?_|(refine goG ?_;intro g)|(refine goV ?_;intro v))
    refine WL.l rfl rfl (LO.bsB1 (b:=sysB l n i) (m:=m2) rfl (fun v=>?_))
    refine WL.fact' (isQ (qv m2) (wq 6 (sysB l n i).w)) (by show Has _ (isQ (qv m2) (wq 6 (sysX l n i*sysK l i)));rw[hK];exact hmA) ?_
    repeat'(first|refine gA ?_|(refine goG ?_;intro g)|(refine goV ?_;intro v))
    refine LoopEnd.mk (i+1,v,upd ms (sysT l n i).length m2) hic (by show 14 - (i+1) < 14 - i;omega) suA (by show List.Sublist [Ow.slice v 77 6 (bcells (sysT l n (i+1)) _)] _;rw[sysT_succ];exact slA) (HasAll.cons ?_ sfA)
    show Has _ (mB 6 _ (sysT l n (i+1)))
    rw[sysT_succ]
    exact W.Has.mBapp hmA hmA
  ·have hie:i=sysC l:=by unfold sysC at hi ⊢;omega
   repeat'(first|refine gA ?_|(refine goG ?_;intro g)|(refine goV ?_;intro v))
   refine WC.freezeB (D:=6) (el:=77) vb ms (sysT l n i) (by repeat(first|exact Sel.head|apply Sel.tail)) hmA ?_
   exact WC.ret (Fin.p [] [fB 6 vb ms (sysT l n i)] (ResE.t2 rfl rfl rfl) meA (List.nil_sublist _) haA ⟨vb,ms,rfl,rfl,by rw[←hie]⟩)
 ·have hie:i=sysC l:=by unfold sysC at hi ⊢;omega
  repeat'(first|refine gA ?_|(refine goG ?_;intro g)|(refine goV ?_;intro v))
  refine WC.freezeB (D:=6) (el:=77) vb ms (sysT l n i) (by repeat(first|exact Sel.head|apply Sel.tail)) hmA ?_
  exact WC.ret (Fin.p [] [fB 6 vb ms (sysT l n i)] (ResE.t2 rfl rfl rfl) meA (List.nil_sublist _) haA ⟨vb,ms,rfl,rfl,by rw[←hie]⟩)
end I
end Go.Proofs.YtaongbhamadlkaaGreat
namespace Go.Proofs.YtaongbhamadlkaaGreat
open W Go.RowKit
def inG (gs list:List Int) (i:Nat):Bool:=decide (gs.getD i 0 < 0) ||decide (gs.getD i 0∈list)
def partK (bs:List Bd) (gs list:List Int) (k:Nat):List Bd:=((List.range k).filter (inG gs list)).map (bg bs)
def part (bs:List Bd) (gs list:List Int):List Bd:=partK bs gs list bs.length
theorem partK_succ (bs:List Bd) (gs list:List Int) (k:Nat):partK bs gs list (k+1)=if inG gs list k=true then partK bs gs list k++[bg bs k] else partK bs gs list k:=by
 unfold partK
 rw[List.range_succ,List.filter_append,List.map_append]
 by_cases h:inG gs list k=true
 ·rw[if_pos h];simp[h]
 ·rw[if_neg h];simp[h]
theorem partK_len (bs:List Bd) (gs list:List Int) (k:Nat):(partK bs gs list k).length≤k:=by
 unfold partK
 rw[List.length_map]
 exact Nat.le_trans (List.length_filter_le _ _) (by simp)
theorem part_mem {bs:List Bd} {gs list:List Int} {b:Bd} (h:b∈part bs gs list):b∈bs:=by
 unfold part partK at h
 obtain⟨i,hi,rfl⟩:=List.mem_map.1 h
 exact bg_mem (List.mem_range.1 (List.mem_filter.1 hi).1)
theorem part_abs (bs:List Bd) (gs list:List Int):absS (part bs gs list)≤absS bs:=by
 have:∀ k,k≤bs.length→absS (partK bs gs list k)≤absS (bs.take k):=by
  intro k
  induction k with
  |zero=>intro _;simp[partK,absS]
  |succ k ih=>
   intro hk
   rw[partK_succ,absS_take (by omega)]
   have:=ih (by omega)
   split
   ·rw[absS_app];simp[absS] at this ⊢;omega
   ·omega
 have h:=this bs.length (Nat.le_refl _)
 rw[List.take_of_length_le (Nat.le_refl _)] at h
 exact h
theorem Vld.part {n:Nat} {bs:List Bd} (h:Vld n bs) (gs list:List Int):Vld n (part bs gs list):=by
 have hl:=partK_len bs gs list bs.length
 refine⟨h.n1,h.n2,Nat.le_trans hl h.l,fun i hi=>h.mem (part_mem (gs:=gs) (list:=list) (bg_mem hi))⟩
def sv (n:Nat) (bs:List Bd) (gs list:List Int):Bool:=(greatP n (part bs gs list)).isSome
def coreL (gs:List Int):List Int:=(Lib.compact (srt gs)).filter fun x=>!decide (x < 0)
def coreS (n:Nat) (bs:List Bd) (gs list:List Int) (g:Int):List Int:=if sv n bs gs (list.filter fun x=>!decide (x=g))=true then list else list.filter fun x=>!decide (x=g)
def cor (n:Int) (bs:List Bd) (gs:List Int):List Int×Int:=
 if validB n bs=true∧gs.length=bs.length∧¬∃ x∈gs,decide (x < -1)=true then(if sv n.toNat bs gs (coreL gs)=true then([],6) else((coreL gs).foldl (coreS n.toNat bs gs) (coreL gs),0)) else([],1)
def IsCo (s:List Int×Int):RPost:=fun v b G=>∃ uc,v=.tuple #[uc,.int .i64 s.2]∧b=[]∧G=[sI uc s.1]
theorem coreS_len (n:Nat) (bs:List Bd) (gs:List Int) (l:List Int):∀ list:List Int,(l.foldl (coreS n bs gs) list).length≤list.length:=by
 induction l with
 |nil=>intro list;exact Nat.le_refl _
 |cons a l ih=>
  intro list
  rw[List.foldl_cons]
  refine Nat.le_trans (ih _) ?_
  unfold coreS
  split
  ·exact Nat.le_refl _
  ·exact List.length_filter_le _ _
theorem coreL_len (gs:List Int):(coreL gs).length≤gs.length:=Nat.le_trans (List.length_filter_le _ _) (Nat.le_trans (compact_le _) (by rw[srt_len];exact Nat.le_refl _))
namespace I
open G H
attribute [local irreducible] WC WL WD YO LO LoopEnd W.Fin Scalar SliceT FieldAt Row ArrT AllocT KnS Has W.One SrcE IntT
theorem solvable_c (D:Nat) [Den D] (vb ug ul:Value) (ms:Nat→QM) (bs:List Bd) (gs list:List Int) (n:Nat) (hv:Vld n bs) (hf:Fit bs) (hg:gs.length=bs.length) :
  FnB Tryz.prog 167 [.agg #[.int .i64 n,vb],ug,ul] [] [fB D vb ms bs,sI ug gs,sI ul list] (IsV (.bool (sv n bs gs list))):=by
 refine fn_of [(0,(.agg #[.int .i64 n,vb])),(1,ug),(2,ul)] 49 Tryz.func167 rfl Tryz.ntmps167 (by kernel_rfl) rfl suA fun h0=>?_
 have hvl:=hv.l
 refine WC.addNil 77 6 ?_
 repeat'(first|refine gA ?_|(refine goG ?_;intro g)|(refine goV ?_;intro v))
 revert g;intro g7;revert g;intro g3
 refine WC.lp (σ:=Nat×Value×(Nat→QM)) (fun s=>[(18,.int .i64 (s.1:Int)),(16,vb),(17,.int .i64 (bs.length:Int)),(7,ptr g7),(1,ug),(2,ul)])
  (fun s=>[Ow.cells g7 123 [.int .i64 n,s.2.1],Ow.slice s.2.1 77 6 (bcells (partK bs gs list s.1) s.2.2)])
  (fun s=>[mB D s.2.2 (partK bs gs list s.1),ge h0,fB D vb ms bs,sI ug gs,sI ul list]) (fun s=>s.1≤bs.length) (fun s=>bs.length - s.1) (0,.slice none 0 0,fun _=>m00) (Nat.zero_le _) ?_ suA slA (.cons hasmB0 sfA)
 rintro⟨i,vp,mp⟩ hi
 simp only at hi ⊢
 have hpl:=partK_len bs gs list i
 by_cases c:i < bs.length
 ·have hps:=partK_succ bs gs list i
  refine WC.fact (isQ (qv (ms i)) (wq D (bg bs i).w)) (W.Has.b (W.Has.bm (v:=vb) hmA) c) ?_
  by_cases c1:gs.getD i 0 < 0
  ·have hin:inG gs list i=true:=by unfold inG;rw[decide_eq_true c1,Bool.true_or]
   rw[if_pos hin] at hps
   repeat'(first|refine gA ?_|(refine goG ?_;intro g)|(refine goV ?_;intro v))
   refine LoopEnd.mk (i+1,v,upd mp (partK bs gs list i).length (ms i)) (by show i+1≤bs.length;omega) (by show bs.length - (i+1) < bs.length - i;omega) suA (by show List.Sublist [_,Ow.slice v 77 6 (bcells (partK bs gs list (i+1)) _)] _;rw[hps];exact slA) (HasAll.cons ?_ sfA)
   show Has _ (mB D _ (partK bs gs list (i+1)))
   rw[hps]
   exact W.Has.mBapp hmA hmA
  ·repeat'(first|refine gA ?_|(refine goG ?_;intro g)|(refine goV ?_;intro v))
   first|refine WL.callV (contains_c ul list (gs.getD i 0)) ?_|refine WD.callV (contains_c ul list (gs.getD i 0)) ?_
   by_cases c2:gs.getD i 0∈list
   ·have hin:inG gs list i=true:=by unfold inG;rw[decide_eq_true c2,Bool.or_true]
    rw[if_pos hin] at hps
    rw[decide_eq_true c2]
    repeat'(first|refine gA ?_|(refine goG ?_;intro g)|(refine goV ?_;intro v))
    refine LoopEnd.mk (i+1,v,upd mp (partK bs gs list i).length (ms i)) (by show i+1≤bs.length;omega) (by show bs.length - (i+1) < bs.length - i;omega) suA (by show List.Sublist [_,Ow.slice v 77 6 (bcells (partK bs gs list (i+1)) _)] _;rw[hps];exact slA) (HasAll.cons ?_ sfA)
    show Has _ (mB D _ (partK bs gs list (i+1)))
    rw[hps]
    exact W.Has.mBapp hmA hmA
   ·have hin:inG gs list i=false:=by unfold inG;rw[decide_eq_false c2,decide_eq_false c1];rfl
    rw[if_neg (by rw[hin];simp)] at hps
    rw[decide_eq_false c2]
    repeat'(first|refine gA ?_|(refine goG ?_;intro g)|(refine goV ?_;intro v))
    exact LoopEnd.mk (i+1,vp,mp) (by show i+1≤bs.length;omega) (by show bs.length - (i+1) < bs.length - i;omega) suA (by show List.Sublist [_,Ow.slice vp 77 6 (bcells (partK bs gs list (i+1)) mp)] _;rw[hps];exact slA) (HasAll.cons (by rw[hps];exact hmA) sfA)
 ·obtain rfl:i=bs.length:=by omega
  repeat'(first|refine gA ?_|(refine goG ?_;intro g)|(refine goV ?_;intro v))
  refine WL.freezeB (D:=D) (el:=77) vp mp (partK bs gs list bs.length) (by repeat(first|exact Sel.head|apply Sel.tail)) hmA ?_
  first|refine WL.callK (greatest_c D vp mp (part bs gs list) n (hv.part gs list) (by have:=part_abs bs gs list;unfold Fit at *;omega)) ?_|refine WD.callK (greatest_c D vp mp (part bs gs list) n (hv.part gs list) (by have:=part_abs bs gs list;unfold Fit at *;omega)) ?_|refine LO.callM (greatest_c D vp mp (part bs gs list) n (hv.part gs list) (by have:=part_abs bs gs list;unfold Fit at *;omega)) ?_
  rintro rv bb GG hG
  unfold IsGr at hG
  have hsv:sv n bs gs list=(greatP n (part bs gs list)).isSome:=rfl
  cases hgr:greatP n (part bs gs list) with
  |some x=>
   rw[hgr] at hG hsv
   obtain⟨u,mx,rfl,rfl,rfl⟩:=hG
   repeat'(first|refine gA ?_|(refine goG ?_;intro g)|(refine goV ?_;intro v))
   exact WC.ret (Fin.v (ResE.t1 rfl rfl) meA (by rw[hsv];rfl))
  |none=>
   rw[hgr] at hG hsv
   obtain⟨rfl,rfl,rfl⟩:=hG
   repeat'(first|refine gA ?_|(refine goG ?_;intro g)|(refine goV ?_;intro v))
   exact WC.ret (Fin.v (ResE.t1 rfl rfl) meA (by rw[hsv];rfl))
end I
end Go.Proofs.YtaongbhamadlkaaGreat
