/- Lemmas for the proof of a law: The first negative cycle, in plain terms: what the program finds and what the model finds. Conditions: none. -/
import Derived.Test.YtaongbhamadlkaaGreatBq11
import Derived.Test.YtaongbhamadlkaaGreatBq3
import Derived.Scope
set_option maxHeartbeats 8000000
set_option linter.unusedVariables false
set_option linter.unusedSimpArgs false
set_option linter.unusedSectionVars false
namespace Go.Proofs.YtaongbhamadlkaaGreat
open W Go.RowKit
def frs (bs:List Bd) (l:List Int):List Int:=l.map fun i=>(bg bs i.toNat).fr
theorem frs_app (bs:List Bd) (l m:List Int):frs bs (l++m)=frs bs l++frs bs m:=by simp[frs]
theorem not_nodup:∀ {l:List Int},¬l.Nodup→∃ a x b c,l=a++x::b++x::c:=by
 intro l
 induction l with
 |nil=>intro h;simp at h
 |cons y l ih=>
  intro h
  rw[List.nodup_cons] at h
  by_cases c:y∈l
  ·obtain⟨b,r,hl⟩:=List.append_of_mem c
   exact⟨[],y,b,r,by simp[hl]⟩
  ·obtain⟨a,x,b,r,hl⟩:=ih fun h2=>h ⟨c,h2⟩
   exact⟨y::a,x,b,r,by simp[hl]⟩
theorem frs_split {bs:List Bd} {l:List Int} (h:¬(frs bs l).Nodup) {u v:Int} (hw:Wlk bs u l v):∃ a b c w,l=a++b++c∧b≠[]∧c≠[]∧Wlk bs u a w∧Wlk bs w b w∧Wlk bs w c v:=by
 obtain⟨a,x,b,c,he⟩:=not_nodup h
 unfold frs at he
 rw[List.append_assoc,List.cons_append] at he
 obtain⟨l1,r,rfl,h1,h2⟩:=List.map_eq_append_iff.1 he
 obtain⟨i,r2,rfl,h3,h4⟩:=List.map_eq_cons_iff.1 h2
 obtain⟨l2,r3,rfl,h5,h6⟩:=List.map_eq_append_iff.1 h4
 obtain⟨j,l3,rfl,h7,h8⟩:=List.map_eq_cons_iff.1 h6
 obtain⟨w,w1,w2⟩:=Wlk.app.1 hw
 obtain⟨w2a,w2b,w2c⟩:=w2
 obtain⟨w',w3,w4⟩:=Wlk.app.1 w2c
 obtain⟨w4a,w4b,w4c⟩:=w4
 have hw1:w=x:=by rw[←w2b,←h3]
 have hw2:w'=x:=by rw[←w4b,←h7]
 subst hw1;subst hw2
 exact⟨l1,i::l2,j::l3,w',by simp,by simp,by simp,w1,⟨w2a,w2b,w3⟩,⟨w4a,w4b,w4c⟩⟩
theorem frs_in {n:Nat} {bs:List Bd} (hv:Vld n bs) {l:List Int}:∀ {u v:Int},Wlk bs u l v→∀ x∈frs bs l,0≤x∧x < n:=by
 induction l with
 |nil=>intro u v _ x hx;simp[frs] at hx
 |cons i l ih=>
  intro u v ⟨h1,h2,h3⟩ x hx
  simp only[frs,List.map_cons,List.mem_cons] at hx
  rcases hx with rfl|hx
  ·have:=hv.ok i.toNat (by omega);unfold Bd.ok at this;omega
  ·exact ih h3 x hx
theorem nodup_le {n:Nat} {l:List Int} (h:l.Nodup) (hb:∀ x∈l,0≤x∧x < n):l.length≤n:=by
 refine Nat.not_lt.1 fun hc=>?_
 have hg:∀ i,i < l.length→l.getD i 0∈l:=fun i hi=>by simp[List.getD_eq_getElem?_getD,hi]
 obtain⟨i,j,h1,h2,h3⟩:=pige n (fun i=>(l.getD i 0).toNat) (fun i hi=>by have:=hb _ (hg i (by omega));omega)
 have h4:=hb _ (hg i (by omega))
 have h5:=hb _ (hg j (by omega))
 have h6:l.getD i 0=l.getD j 0:=by omega
 rw[List.getD_eq_getElem?_getD,List.getD_eq_getElem?_getD,List.getElem?_eq_getElem (show i < l.length by omega),List.getElem?_eq_getElem (show j < l.length by omega),Option.getD_some,Option.getD_some] at h6
 exact List.pairwise_iff_getElem.1 h i j (by omega) (by omega) h1 h6
theorem Wlk.len {n:Nat} {bs:List Bd} (hv:Vld n bs) {l:List Int} {u v:Int} (hw:Wlk bs u l v) (h:(frs bs l).Nodup):l.length≤n:=by
 have:=nodup_le h (frs_in hv hw)
 simpa [frs] using this
def NegMin (bs:List Bd) (m:Nat):Prop:=(∃ l,NegB bs m l)∧∀ k l,NegB bs k l→m≤k
theorem neg_min {bs:List Bd} (h:∃ m l,NegB bs m l):∃ m,NegMin bs m:=by
 obtain⟨m,h1,h2⟩:=least_of h
 exact⟨m,h1,fun k l hk=>h2 k ⟨l,hk⟩⟩
theorem NegMin.nodup {bs:List Bd} {m:Nat} (h:NegMin bs m) {l:List Int} (hl:NegB bs m l):(frs bs l).Nodup:=by
 refine Classical.byContradiction fun hc=>?_
 obtain⟨h1,h2,u,h3⟩:=hl
 obtain⟨a,b,c,w,rfl,hb,hcn,w1,w2,w3⟩:=frs_split hc h3
 have lb:0 < b.length:=List.length_pos_iff.2 hb
 have lc:0 < c.length:=List.length_pos_iff.2 hcn
 rw[lenP_app,lenP_app] at h2
 simp only[List.length_append] at h1
 by_cases hn:lenP bs b < 0
 ·have:=h.2 _ b ⟨rfl,hn,w,w2⟩
  omega
 ·have:=h.2 _ (a++c) ⟨rfl,by rw[lenP_app];omega,u,Wlk.app.2 ⟨w,w1,w3⟩⟩
  rw[List.length_append] at this
  omega
theorem NegMin.le {n:Nat} {bs:List Bd} (hv:Vld n bs) {m:Nat} (h:NegMin bs m):m≤n:=by
 obtain⟨l,hl⟩:=h.1
 have h1:=h.nodup hl
 obtain⟨h2,_,u,h3⟩:=hl
 rw[←h2];exact h3.len hv h1
theorem NegMin.pos {bs:List Bd} {m:Nat} (h:NegMin bs m):0 < m:=by
 obtain⟨l,hl⟩:=h.1
 exact hl.pos
def negAt (n:Nat) (bs:List Bd) (k v:Nat):Bool:=match ol (tabP n bs v k) v with
 |none=>false
 |some d=>decide (d < 0)
def anyNeg (n:Nat) (bs:List Bd) (k:Nat):Bool:=(List.range n).any (negAt n bs k)
def cmany (n:Nat) (bs:List Bd):Nat→Nat→Nat
 |0,k=>k
 |c+1,k=>if anyNeg n bs (k+1) then k+1 else cmany n bs c (k+1)
def lss0 (x:Int):Bool:=decide (x < 0)
def tabL (n:Nat) (bs:List Bd) (v k:Nat):List (List (Option Int)):=(List.range k).map (tabP n bs v)
theorem tabL_len (n:Nat) (bs:List Bd) (v k:Nat):(tabL n bs v k).length=k:=by simp[tabL]
theorem tabL_get {n:Nat} {bs:List Bd} {v k r:Nat} (h:r < k):(tabL n bs v k).getD r []=tabP n bs v r:=by
 simp[tabL,List.getD_eq_getElem?_getD,h]
theorem tabL_succ (n:Nat) (bs:List Bd) (v k:Nat):tabL n bs v (k+1)=tabL n bs v k++[tabP n bs v k]:=by simp[tabL,List.range_succ]
def cycV (n:Nat) (bs:List Bd) (many v:Nat):List Int:=fstP bs (tabL n bs v (many+1)) lss0 many v 0 []
def cycS (f:Nat→List Int) (out:List Int) (v:Nat):List Int:=if 0 < (f v).length∧(out.length=0∨cmpL (f v) out < 0) then f v else out
def cycP (n:Nat) (bs:List Bd):List Int:=(List.range n).foldl (cycS (cycV n bs (cmany n bs n 0))) []
section
variable {n:Nat} {bs:List Bd} (hv:Vld n bs)
include hv
theorem negAt_iff {k v:Nat} (h:v < n):negAt n bs k v=true↔∃ l,l.length=k∧Wlk bs v l v∧lenP bs l < 0:=by
 unfold negAt
 constructor
 ·intro hn
  cases hd:ol (tabP n bs v k) v with
  |none=>rw[hd] at hn;cases hn
  |some d=>
   rw[hd] at hn
   obtain⟨l,l1,l2,l3⟩:=tab_some hv h k _ _ hd
   exact⟨l,l1,l2,by rw[l3];exact of_decide_eq_true hn⟩
 ·rintro⟨l,l1,l2,l3⟩
  obtain⟨d,d1,d2⟩:=tab_le hv h k v l l1 l2
  rw[d1];exact decide_eq_true (by omega)
theorem Wlk.at0 {l:List Int} {u v:Int} (h:Wlk bs u l v) (hl:l≠[]):0≤u∧u < n:=by
 cases l with
 |nil=>exact absurd rfl hl
 |cons i l=>
  obtain⟨h1,h2,h3⟩:=h
  have:=hv.ok i.toNat (by omega);unfold Bd.ok at this;omega
theorem NegB.at0 {m:Nat} {l:List Int} (h:NegB bs m l):∃ v:Nat,v < n∧Wlk bs v l v:=by
 have hp:=h.pos
 obtain⟨h1,h2,u,h3⟩:=h
 have:=Wlk.at0 hv h3 (by intro h;subst h;simp at h1;omega)
 exact⟨u.toNat,by omega,by rw[show((u.toNat:Nat):Int)=u by omega];exact h3⟩
theorem anyNeg_iff (k:Nat):anyNeg n bs k=true↔∃ l,NegB bs k l:=by
 unfold anyNeg
 rw[List.any_eq_true]
 constructor
 ·rintro⟨v,hm,hn⟩
  rw[List.mem_range] at hm
  obtain⟨l,l1,l2,l3⟩:=(negAt_iff hv hm).1 hn
  exact⟨l,l1,l3,v,l2⟩
 ·rintro⟨l,hl⟩
  obtain⟨v,v1,v2⟩:=hl.at0 hv
  exact⟨v,by rw[List.mem_range];exact v1,(negAt_iff hv v1).2 ⟨l,hl.1,v2,hl.2.1⟩⟩
theorem cmany_min {m:Nat} (h:NegMin bs m):∀ c k,k+c=n→k < m→cmany n bs c k=m:=by
 intro c
 induction c with
 |zero=>intro k h1 h2;have:=h.le hv;omega
 |succ c ih=>
  intro k h1 h2
  rw[cmany]
  by_cases hk:k+1=m
  ·rw[if_pos ((anyNeg_iff hv _).2 (by rw[hk];exact h.1)),hk]
  ·rw[if_neg (fun hc=>by obtain⟨l,hl⟩:=(anyNeg_iff hv _).1 hc;have:=h.2 _ _ hl;omega)]
   exact ih (k+1) (by omega) (by omega)
omit hv in
theorem goodW_lss0 {many v:Nat} {fr:Int}:GoodW bs fr v many lss0:=fun p q q' u _ _ _ _ _ hle hg=>by
 unfold lss0 at *
 rw[decide_eq_true_eq] at *;omega
theorem cycV_spec {m v:Nat} (hm:0 < m) (hvn:v < n) :
  ((∃ q,q.length=m∧Wlk bs v q v∧lenP bs q < 0)∧Fst (fun q=>q.length=m∧Wlk bs v q v∧lenP bs q < 0) (cycV n bs m v))∨
  ((¬∃ q,q.length=m∧Wlk bs v q v∧lenP bs q < 0)∧cycV n bs m v=[]):=by
 have:=fst_spec hv hvn hm (T:=tabL n bs v (m+1)) (fun r hr=>tabL_get (by omega)) (good:=lss0) (fr:=v) ⟨by omega,by omega⟩ goodW_lss0
 unfold cycV
 simpa only[lss0,decide_eq_true_eq] using this
theorem cycO_spec {m:Nat} (hm:0 < m):∀ k,k≤n→
  ((∃ q v,v < k∧q.length=m∧Wlk bs v q v∧lenP bs q < 0)∧Fst (fun q=>∃ v:Nat,v < k∧q.length=m∧Wlk bs v q v∧lenP bs q < 0) ((List.range k).foldl (cycS (cycV n bs m)) []))∨
  ((¬∃ q v,v < k∧q.length=m∧Wlk bs v q v∧lenP bs q < 0)∧(List.range k).foldl (cycS (cycV n bs m)) []=[]):=by
 intro k
 induction k with
 |zero=>intro _;exact .inr ⟨fun ⟨q,v,h,_⟩=>by omega,rfl⟩
 |succ k ih=>
  intro hk
  rw[List.range_succ,List.foldl_append,List.foldl_cons,List.foldl_nil]
  generalize (List.range k).foldl (cycS (cycV n bs m)) []=out at *
  unfold cycS
  rcases cycV_spec hv hm (show k < n by omega) with ⟨h1,h2⟩|⟨h1,h2⟩
  ·left
   obtain⟨q,q1,q2,q3⟩:=h1
   refine⟨⟨q,k,by omega,q1,q2,q3⟩,?_⟩
   have hl:0 < (cycV n bs m k).length:=by rw[h2.1.1];exact hm
   rcases ih (by omega) with ⟨i1,i2⟩|⟨i1,i2⟩
   ·have ho:out.length≠0:=by obtain⟨_,_,hh,_⟩:=i2.1;omega
    have hin:∀ q,(∃ v:Nat,v < k+1∧q.length=m∧Wlk bs v q v∧lenP bs q < 0)→(∃ v:Nat,v < k∧q.length=m∧Wlk bs v q v∧lenP bs q < 0)∨(q.length=m∧Wlk bs k q k∧lenP bs q < 0):=by
     rintro q ⟨v,v1,v2⟩
     by_cases c:v=k
     ·subst c;exact .inr v2
     ·exact .inl ⟨v,by omega,v2⟩
    by_cases c:cmpL (cycV n bs m k) out < 0
    ·rw[if_pos ⟨hl,.inr c⟩]
     refine⟨⟨k,by omega,h2.1⟩,fun q hq=>?_⟩
     rcases hin q hq with h3|h3
     ·exact cmpL_trans (by omega) (i2.2 q h3)
     ·exact h2.2 q h3
    ·rw[if_neg (fun h=>h.2.elim ho c)]
     have c2:cmpL out (cycV n bs m k)≤0:=(cmpL_total _ _).resolve_left c
     obtain⟨v,v1,v2⟩:=i2.1
     refine⟨⟨v,by omega,v2⟩,fun q hq=>?_⟩
     rcases hin q hq with h3|h3
     ·exact i2.2 q h3
     ·exact cmpL_trans c2 (h2.2 q h3)
   ·rw[if_pos ⟨hl,.inl (by rw[i2];rfl)⟩]
    refine⟨⟨k,by omega,h2.1⟩,fun q hq=>?_⟩
    obtain⟨v,v1,v2⟩:=hq
    by_cases c:v=k
    ·subst c;exact h2.2 q v2
    ·exact absurd ⟨q,v,by omega,v2⟩ i1
  ·rw[h2,if_neg (fun h=>by simp at h)]
   rcases ih (by omega) with ⟨⟨q,v,i1,i3⟩,i2⟩|⟨i1,i2⟩
   ·left
    refine⟨⟨q,v,by omega,i3⟩,i2.congr fun q=>⟨?_,?_⟩⟩
    ·rintro⟨v,v1,v2⟩;exact⟨v,by omega,v2⟩
    ·rintro⟨v,v1,v2⟩
     by_cases c:v=k
     ·subst c;exact absurd ⟨q,v2⟩ h1
     ·exact⟨v,by omega,v2⟩
   ·right
    refine⟨?_,i2⟩
    rintro⟨q,v,v1,v2⟩
    by_cases c:v=k
    ·subst c;exact h1 ⟨q,v2⟩
    ·exact i1 ⟨q,v,by omega,v2⟩
theorem cycP_spec {m:Nat} (h:NegMin bs m):Fst (NegB bs m) (cycP n bs):=by
 unfold cycP
 rw[cmany_min hv h n 0 (by omega) h.pos]
 obtain⟨l,hl⟩:=h.1
 obtain⟨v,v1,v2⟩:=hl.at0 hv
 rcases cycO_spec hv h.pos n (Nat.le_refl _) with ⟨_,h2⟩|⟨h1,_⟩
 ·refine h2.congr fun q=>⟨?_,fun hq=>?_⟩
  ·rintro⟨v,v1,v2,v3,v4⟩;exact⟨v2,v4,v,v3⟩
  ·obtain⟨v,v1,v2⟩:=hq.at0 hv
   exact⟨v,v1,hq.1,v2,hq.2.1⟩
 ·exact absurd ⟨l,v,v1,hl.1,v2,hl.2.1⟩ h1
end
def firstNE (f:Nat→List Int):Nat→Nat→List Int
 |0,_=>[]
 |c+1,i=>if 0 < (f i).length then f i else firstNE f c (i+1)
theorem firstNE_spec (f:Nat→List Int):∀ c i,(firstNE f c i=[]∧∀ j,i≤j→j < i+c→f j=[])∨∃ j,i≤j∧j < i+c∧firstNE f c i=f j∧f j≠[]∧∀ k,i≤k→k < j→f k=[]:=by
 intro c
 induction c with
 |zero=>intro i;exact .inl ⟨rfl,fun j h1 h2=>by omega⟩
 |succ c ih=>
  intro i
  rw[firstNE]
  by_cases h:0 < (f i).length
  ·rw[if_pos h];exact .inr ⟨i,Nat.le_refl _,by omega,rfl,List.length_pos_iff.1 h,fun k h1 h2=>by omega⟩
  ·rw[if_neg h]
   have h0:f i=[]:=List.eq_nil_of_length_eq_zero (by omega)
   rcases ih (i+1) with ⟨h1,h2⟩|⟨j,h1,h2,h3,h4,h5⟩
   ·refine .inl ⟨h1,fun j h3 h4=>?_⟩
    by_cases c:j=i
    ·subst c;exact h0
    ·exact h2 j (by omega) (by omega)
   ·refine .inr ⟨j,by omega,by omega,h3,h4,fun k h6 h7=>?_⟩
    by_cases c:k=i
    ·subst c;exact h0
    ·exact h5 k (by omega) h7
def beg (bs:List Bd) (l:List Int):Int:=(bg bs (l.getD 0 0).toNat).fr
def fin (bs:List Bd) (l:List Int):Int:=(bg bs (l.getD (l.length - 1) 0).toNat).to
def rndP (bs:List Bd):Nat→List Int→List Int
 |0,l=>if fin bs l=beg bs l∧lenP bs l < 0 then l else[]
 |c+1,l=>if fin bs l∈frs bs l then[] else firstNE (fun i=>if(bg bs i).fr=fin bs l then rndP bs c (l++[(i:Int)]) else[]) bs.length 0
def rcyc (bs:List Bd):Nat→Nat→List Int
 |0,_=>[]
 |c+1,many=>if 0 < (firstNE (fun i=>rndP bs (many - 1) [(i:Int)]) bs.length 0).length then firstNE (fun i=>rndP bs (many - 1) [(i:Int)]) bs.length 0 else rcyc bs c (many+1)
theorem fin_snoc (bs:List Bd) (i:Int) (l:List Int):fin bs (l++[i])=(bg bs i.toNat).to:=by
 unfold fin;simp[List.getD_eq_getElem?_getD]
theorem rnd_spec {bs:List Bd}:∀ (c:Nat) (l:List Int),l≠[]→Wlk bs (beg bs l) l (fin bs l)→(frs bs l).Nodup→
  ((∃ q,q.length=c∧Wlk bs (fin bs l) q (beg bs l)∧lenP bs (l++q) < 0∧(frs bs (l++q)).Nodup)∧∃ q,rndP bs c l=l++q∧Fst (fun q=>q.length=c∧Wlk bs (fin bs l) q (beg bs l)∧lenP bs (l++q) < 0∧(frs bs (l++q)).Nodup) q)∨
  ((¬∃ q,q.length=c∧Wlk bs (fin bs l) q (beg bs l)∧lenP bs (l++q) < 0∧(frs bs (l++q)).Nodup)∧rndP bs c l=[]):=by
 intro c
 induction c with
 |zero=>
  intro l hl hw hn
  rw[rndP]
  by_cases h:fin bs l=beg bs l∧lenP bs l < 0
  ·rw[if_pos h]
   left
   have h0:([]:List Int).length=0∧Wlk bs (fin bs l) [] (beg bs l)∧lenP bs (l++[]) < 0∧(frs bs (l++[])).Nodup:=⟨rfl,h.1,by simpa using h.2,by simpa using hn⟩
   refine⟨⟨[],h0⟩,[],by simp,h0,fun m hm=>?_⟩
   obtain rfl:=List.eq_nil_of_length_eq_zero hm.1
   exact Int.le_refl _
  ·rw[if_neg h]
   right
   refine⟨?_,rfl⟩
   rintro⟨q,q1,q2,q3,_⟩
   obtain rfl:=List.eq_nil_of_length_eq_zero q1
   exact h ⟨q2,by simpa using q3⟩
 |succ c ih=>
  intro l hl hw hn
  rw[rndP]
  by_cases h:fin bs l∈frs bs l
  ·rw[if_pos h]
   right
   refine⟨?_,rfl⟩
   rintro⟨q,q1,q2,q3,q4⟩
   cases q with
   |nil=>simp at q1
   |cons i q=>
    obtain⟨_,h2,_⟩:=q2
    rw[frs_app,List.nodup_append] at q4
    exact q4.2.2 _ h _ (by show _∈(bg bs i.toNat).fr::_;rw[h2];exact List.mem_cons_self ..) rfl
  ·rw[if_neg h]
   -- one bound more
   have step:∀ i:Nat,i < bs.length→(bg bs i).fr=fin bs l→(l++[(i:Int)])≠[]∧beg bs (l++[(i:Int)])=beg bs l∧Wlk bs (beg bs (l++[(i:Int)])) (l++[(i:Int)]) (fin bs (l++[(i:Int)]))∧(frs bs (l++[(i:Int)])).Nodup:=by
    intro i hi hf
    have hb:beg bs (l++[(i:Int)])=beg bs l:=by
     cases l with
     |nil=>exact absurd rfl hl
     |cons j l=>rfl
    refine⟨by simp,hb,?_,?_⟩
    ·rw[hb,fin_snoc,Int.toNat_natCast]
     exact Wlk.app.2 ⟨_,hw,by rw[←hf];exact Wlk.one hi⟩
    ·rw[frs_app,List.nodup_append]
     refine⟨hn,by simp[frs],?_⟩
     intro a ha b hb2 he
     have hb3:b=(bg bs i).fr:=by
      have:b∈[(bg bs (i:Int).toNat).fr]:=hb2
      rw[List.mem_singleton,Int.toNat_natCast] at this;exact this
     subst he;subst hb3
     rw[hf] at ha;exact h ha
   have key:∀ (i:Nat) (q:List Int),i < bs.length→(((i:Int)::q).length=c+1∧Wlk bs (fin bs l) ((i:Int)::q) (beg bs l)∧lenP bs (l++(i:Int)::q) < 0∧(frs bs (l++(i:Int)::q)).Nodup↔
     (bg bs i).fr=fin bs l∧q.length=c∧Wlk bs (fin bs (l++[(i:Int)])) q (beg bs (l++[(i:Int)]))∧lenP bs (l++[(i:Int)]++q) < 0∧(frs bs (l++[(i:Int)]++q)).Nodup):=by
    intro i q hi
    rw[fin_snoc,Int.toNat_natCast,List.append_assoc]
    have hb:beg bs (l++[(i:Int)])=beg bs l:=by
     cases l with
     |nil=>exact absurd rfl hl
     |cons j l=>rfl
    rw[hb]
    constructor
    ·rintro⟨h1,⟨h2,h3,h4⟩,h5,h6⟩
     rw[Int.toNat_natCast] at h3 h4
     exact⟨h3,by simpa using h1,h4,h5,h6⟩
    ·rintro⟨h3,h1,h4,h5,h6⟩
     exact⟨by simpa using h1,⟨by omega,by rw[Int.toNat_natCast];exact h3,by rw[Int.toNat_natCast];exact h4⟩,h5,h6⟩
   rcases firstNE_spec (fun i=>if(bg bs i).fr=fin bs l then rndP bs c (l++[(i:Int)]) else[]) bs.length 0 with ⟨h1,h2⟩|⟨j,_,h3,h4,h5,h6⟩
   ·right
    refine⟨?_,h1⟩
    rintro⟨q,hq⟩
    cases q with
    |nil=>have:=hq.1;simp at this
    |cons i q=>
     obtain⟨_,⟨b1,_,_⟩,_,_⟩:=id hq
     have hi:((i.toNat:Nat):Int)=i:=by omega
     rw[←hi] at hq
     obtain⟨k1,k2⟩:=(key i.toNat q (by omega)).1 hq
     have h7:=h2 i.toNat (by omega) (by omega)
     try simp only at h7
     rw[if_pos k1] at h7
     obtain⟨s1,s2,s3,s4⟩:=step i.toNat (by omega) k1
     rcases ih _ s1 s3 s4 with ⟨_,q',e1,_⟩|⟨e1,_⟩
     ·rw[e1] at h7;simp at h7
     ·exact e1 ⟨q,k2⟩
   ·rw[Nat.zero_add] at h3
    try simp only at h5
    by_cases k1:(bg bs j).fr=fin bs l
    ·rw[if_pos k1] at h5
     obtain⟨s1,s2,s3,s4⟩:=step j h3 k1
     rcases ih _ s1 s3 s4 with ⟨_,q',e1,e2⟩|⟨_,e1⟩
     ·left
      have hq:=(key j q' h3).2 ⟨k1,e2.1⟩
      refine⟨⟨_,hq⟩,(j:Int)::q',?_,hq,?_⟩
      ·rw[h4];(try simp only);rw[if_pos k1,e1];simp
      ·intro m hm
       cases m with
       |nil=>have:=hm.1;simp at this
       |cons i m=>
        obtain⟨_,⟨b1,_,_⟩,_,_⟩:=id hm
        have hi:((i.toNat:Nat):Int)=i:=by omega
        rw[←hi] at hm
        obtain⟨k2,k3⟩:=(key i.toNat m (by omega)).1 hm
        have hij:¬i < j:=fun hlt=>by
                  have h7:=h6 i.toNat (by omega) (by omega)
                  try simp only at h7
                  rw[if_pos k2] at h7
                  obtain⟨s1,s2,s3,s4⟩:=step i.toNat (by omega) k2
                  rcases ih _ s1 s3 s4 with ⟨_,q',e1,_⟩|⟨e1,_⟩
                  ·rw[e1] at h7;simp at h7
                  ·exact e1 ⟨m,k3⟩
        simp only[cmpL]
        by_cases c4:(j:Int) < i
        ·rw[if_pos c4];omega
        ·rw[if_neg c4,if_neg hij]
         obtain rfl:i=j:=by omega
         rw[Int.toNat_natCast] at k3
         exact e2.2 m k3
     ·exact absurd e1 h5
    ·rw[if_neg k1] at h5;exact absurd rfl h5
section
variable {n:Nat} {bs:List Bd} (hv:Vld n bs)
include hv
omit hv in
theorem rnds_spec (many:Nat) (hm:0 < many) :
  ((∃ l,NegB bs many l∧(frs bs l).Nodup)∧Fst (fun l=>NegB bs many l∧(frs bs l).Nodup) (firstNE (fun i=>rndP bs (many - 1) [(i:Int)]) bs.length 0))∨
  ((¬∃ l,NegB bs many l∧(frs bs l).Nodup)∧firstNE (fun i=>rndP bs (many - 1) [(i:Int)]) bs.length 0=[]):=by
 have one:∀ i:Nat,i < bs.length→[(i:Int)]≠[]∧Wlk bs (beg bs [(i:Int)]) [(i:Int)] (fin bs [(i:Int)])∧(frs bs [(i:Int)]).Nodup:=fun i hi=>⟨by simp,by simpa [beg,fin] using Wlk.one hi,by simp[frs]⟩
 have key:∀ (i:Nat) (q:List Int),i < bs.length→(NegB bs many ((i:Int)::q)∧(frs bs ((i:Int)::q)).Nodup↔
   (q.length=many - 1∧Wlk bs (fin bs [(i:Int)]) q (beg bs [(i:Int)])∧lenP bs ([(i:Int)]++q) < 0∧(frs bs ([(i:Int)]++q)).Nodup)):=by
  intro i q hi
  have e1:fin bs [(i:Int)]=(bg bs i).to:=by simp[fin]
  have e2:beg bs [(i:Int)]=(bg bs i).fr:=by simp[beg]
  rw[e1,e2]
  constructor
  ·rintro⟨⟨h1,h2,u,h3,h4,h5⟩,h6⟩
   rw[Int.toNat_natCast] at h4 h5
   exact⟨by simp at h1;omega,by rw[h4];exact h5,h2,h6⟩
  ·rintro⟨h1,h2,h3,h4⟩
   exact⟨⟨by simp;omega,h3,(bg bs i).fr,by omega,by rw[Int.toNat_natCast],by rw[Int.toNat_natCast];exact h2⟩,h4⟩
 have at':∀ l,NegB bs many l→∃ (i:Nat) (q:List Int),i < bs.length∧l=(i:Int)::q:=by
  intro l hl
  obtain⟨h1,h2,u,h3⟩:=hl
  cases l with
  |nil=>simp at h1;omega
  |cons i q=>obtain⟨b1,_⟩:=h3;exact⟨i.toNat,q,by omega,by rw[show((i.toNat:Nat):Int)=i by omega]⟩
 rcases firstNE_spec (fun i=>rndP bs (many - 1) [(i:Int)]) bs.length 0 with ⟨h1,h2⟩|⟨j,_,h3,h4,h5,h6⟩
 ·right
  refine⟨?_,h1⟩
  rintro⟨l,hl⟩
  obtain⟨i,q,hi,rfl⟩:=at' l hl.1
  have k2:=(key i q hi).1 hl
  obtain⟨s1,s3,s4⟩:=one i hi
  have h7:=h2 i (by omega) (by omega)
  rcases rnd_spec _ _ s1 s3 s4 with ⟨_,q',e1,_⟩|⟨e1,_⟩
  ·(try simp only at h7);rw[e1] at h7;simp at h7
  ·exact e1 ⟨q,k2⟩
 ·rw[Nat.zero_add] at h3
  try simp only at h5
  obtain⟨s1,s3,s4⟩:=one j h3
  rcases rnd_spec _ _ s1 s3 s4 with ⟨_,q',e1,e2⟩|⟨_,e1⟩
  ·left
   have hq:=(key j q' h3).2 e2.1
   refine⟨⟨_,hq⟩,?_⟩
   rw[h4];(try simp only);rw[e1]
   refine⟨hq,fun m hm=>?_⟩
   obtain⟨i,q,hi,rfl⟩:=at' m hm.1
   have k3:=(key i q hi).1 hm
   have hij:¬i < j:=fun hlt=>by
    have h7:=h6 i (by omega) hlt
    obtain⟨s1,s3,s4⟩:=one i hi
    rcases rnd_spec _ _ s1 s3 s4 with ⟨_,q',e1,_⟩|⟨e1,_⟩
    ·(try simp only at h7);rw[e1] at h7;simp at h7
    ·exact e1 ⟨q,k3⟩
   show cmpL ((j:Int)::q') ((i:Int)::q)≤0
   simp only[cmpL]
   by_cases c4:(j:Int) < i
   ·rw[if_pos c4];omega
   ·rw[if_neg c4,if_neg (by omega)]
    obtain rfl:i=j:=by omega
    exact e2.2 q k3
  ·exact absurd e1 h5
theorem rcyc_min {m:Nat} (h:NegMin bs m):∀ c many,0 < many→many+c=n+1→many≤m→Fst (NegB bs m) (rcyc bs c many):=by
 intro c
 induction c with
 |zero=>intro many _ h1 h2;have:=h.le hv;omega
 |succ c ih=>
  intro many h0 h1 h2
  rw[rcyc]
  rcases rnds_spec (bs:=bs) many h0 with ⟨⟨l,hl⟩,h4⟩|⟨h3,h4⟩
  ·have h5:=h.2 _ _ hl.1
   obtain rfl:many=m:=by omega
   rw[if_pos (by rw[h4.1.1.1];exact h0)]
   exact h4.congr fun q=>⟨fun hq=>hq.1,fun hq=>⟨hq,h.nodup hq⟩⟩
  ·have h5:many≠m:=by
    rintro rfl
    obtain⟨l,hl⟩:=h.1
    exact h3 ⟨l,hl,h.nodup hl⟩
   rw[h4,if_neg (by simp)]
   exact ih (many+1) (by omega) (by omega) (by omega)
theorem cyc_same (h:¬HasSol bs):cycP n bs=rcyc bs n 1:=by
 obtain⟨m,hm⟩:=neg_min ((neg_iffB hv).2 h)
 exact(cycP_spec hv hm).eq (rcyc_min hv hm n 1 (by omega) (by omega) hm.pos)
theorem cyc_neg (h:¬HasSol bs):∃ m,0 < m∧m≤n∧NegB bs m (cycP n bs):=by
 obtain⟨m,hm⟩:=neg_min ((neg_iffB hv).2 h)
 exact⟨m,hm.pos,hm.le hv,(cycP_spec hv hm).1⟩
end
end Go.Proofs.YtaongbhamadlkaaGreat
namespace Go.Proofs.YtaongbhamadlkaaGreat
open W Go.RowKit
def mTB (D:Nat) (vs:Nat→Value) (mss:Nat→Nat→QM) (Tb:List (List (Option Int))):Fct where
 p h:=∀ i,i < Tb.length→(fL D (vs i) (mss i) (Tb.getD i [])).p h
 mono _ _ hl hp i hi:=(fL _ _ _ _).mono _ _ hl (hp i hi)
def fT (D:Nat) (v:Value) (vs:Nat→Value) (mss:Nat→Nat→QM) (Tb:List (List (Option Int))):Fct where
 p h:=(slC v Tb.length 1 vs).p h∧(mTB D vs mss Tb).p h
 mono _ _ hl hp:=⟨(slC _ _ _ _).mono _ _ hl hp.1,(mTB _ _ _ _).mono _ _ hl hp.2⟩
section
variable {D:Nat} {F:List Fct} {bx:List Ow} {v:Value} {vs:Nat→Value} {mss:Nat→Nat→QM} {Tb:List (List (Option Int))} {k:Nat}
theorem W.Has.ts (h:Has F (fT D v vs mss Tb)):Has F (slC v Tb.length 1 vs):=fun p hf=>(h p hf).1
theorem W.Has.tmB (h:Has F (fT D v vs mss Tb)):Has F (mTB D vs mss Tb):=fun p hf=>(h p hf).2
theorem W.Has.tl (h:Has F (mTB D vs mss Tb)) (hk:k < Tb.length):Has F (fL D (vs k) (mss k) (Tb.getD k [])):=fun p hf=>h p hf k hk
end
theorem WC.andF {P:Program} {nn:Nat} {c:Code} {e:Env} {bx:List Ow} {F:List Fct} {Q:Post} {f g:Fct} (h:Has F (andF f g)) (hK:WC P nn c e bx (f::g::F) Q):WC P nn c e bx F Q:=
 WC.fact f (W.Has.l h) (by
  refine WC.fact g (fun p hf=>(h p fun x hx=>hf x (List.mem_cons_of_mem _ hx)).2) ?_
  exact WC.weak (Sub.refl _) (List.Sublist.refl _) (fun x hx=>Has.mem (by simp only[List.mem_cons] at hx ⊢;rcases hx with h|h|h;exact .inr (.inl h);exact .inl h;exact .inr (.inr h))) hK)
structure TabOK (n:Nat) (Tb:List (List (Option Int))):Prop where
 len:∀ r,r < Tb.length→(Tb.getD r []).length=n
 wth:∀ r,WthL 450000000 (Tb.getD r [])
namespace G
attribute [local irreducible] WC WL WD YO LO LoopEnd W.Fin Scalar SliceT FieldAt Row ArrT AllocT KnS Has W.One SrcE IntT
theorem d162 {G G':Prop} (h:G') (s:Bx G'→G:=by
 intro h
 first|(apply WC.draw (id:=1) [0,1,2,3,4,5,6,7] (.held 0 (.held 1 (.held 2 (.held 3 (.held 4 (.held 5 (.held 6 (.held 7 (.loud 8 (.loud 9 (.done))))))))))) mixed (by kernel_rfl))|(apply WC.draw (id:=2) [0,1,2,3,4,5,6,7,8,9,10,11,12,13,14,18,19] (.held 0 (.held 1 (.held 2 (.held 3 (.held 4 (.held 5 (.held 6 (.held 7 (.held 8 (.held 9 (.held 10 (.held 11 (.held 12 (.held 13 (.held 14 (.loud 15 (.loud 16 (.loud 17 (.held 18 (.held 19 (.done))))))))))))))))))))) mixed (by kernel_rfl))|fail
 exact Bx.h h):G:=s ⟨h⟩
theorem WD.callF {P:Program} {n i d:Nat} {L:List Oper} {e:Env} {bx b0:List Ow} {F F0 F':List Fct} {hs:List Nat} {rp:Plan} {Q:Env→List Ow→List Fct→Prop} {ty:TypeId} {pos:String} {af:Array Edge} {g:Option (Nat×Bool)} {f:FuncId} {x:Operand} {args:List Operand} {ats:Array TypeId} {vs:List Value} {R:RPost} (first cap:List Value) (hf:FnB P f (first++vs++cap) [] F' R) (hK:∀ v b G,R v b G→WD P n L hs b0 F0 rp ((d,v)::e) (b++bx) F Q) (hL:L[i]?=some ⟨some d,.call {callee:=.value x,args:=args.toArray,argTypes:=ats},ty,pos,af,g⟩:=by exact rfl) (hx:ev e x=some (.func (.func f) first.toArray cap.toArray):=by exact rfl) (hv:Evs e args vs:=by repeat(first|exact Evs.nil|(apply Evs.cons;exact rfl))) (hF:HasAllB bx F F':=by repeat(first|exact HasAllB.nil|(apply HasAllB.cons;(first|(focus(apply HasB.oI;exact meA;done))|(focus(apply HasB.c;exact meA;done))|(focus(apply HasB.f;exact hsA;done))|(focus(apply HasB.fR;exact meA;exact hmA;done))|(focus(apply HasB.fB;exact meA;exact hmA;done))|(focus(apply HasB.fL;exact meA;exact hmA;done))|(focus(apply HasB.and;(focus(apply HasB.c;exact meA;done));(focus(apply HasB.c;exact meA;done));done))))))
  (hd:Nat.blt d n=true:=by exact rfl) (hg:gok L e g=some true:=by exact rfl) (lt:lateB L hs i=true∨(b0.Sublist bx∧∀ f∈F0,f∈F):=by(first|(focus(apply Or.inr;constructor;(repeat(first|exact List.Sublist.refl _|exact List.nil_sublist _|apply List.Sublist.cons_cons|apply List.Sublist.cons));(first|exact fun _ h=>h|(intro f hf;(repeat(first|exact hf|apply List.Mem.tail))));done))|(apply Or.inl;kernel_rfl))):WD P n L hs b0 F0 (.loud i rp) e bx F Q:=
 WD.l hL hd hg (LO.callR hx hv hf hF fun v b G hR=>⟨lt.imp id fun h=>⟨h.1.trans (List.sublist_append_right _ _),h.2⟩,hK v b G hR⟩)
abbrev fst1F (D:Nat) (tv:Value) (vs:Nat→Value) (mss:Nat→Nat→QM) (Tb:List (List (Option Int))) (g6 g13 g7 g9 g12:Nat) (r:Nat) (at' sum:Int) (msum:QM) (gf:Value) (fG:Fct):Fct:=
 andF (ce g6 129 [tv]) (andF (ce g13 3 [.int .i64 r]) (andF (ce g7 3 [.int .i64 at']) (andF (ce g9 136 [gf]) (andF (ce g12 31 (qcs msum)) (andF (isQ (qv msum) (wq D sum)) (andF (fT D tv vs mss Tb) fG))))))
set_option maxRecDepth 60000 in
theorem first1_c (D:Nat) [Den D] (tv:Value) (vs:Nat→Value) (mss:Nat→Nat→QM) (Tb:List (List (Option Int))) (g6 g13 g7 g9 g12:Nat) (r n:Nat) (at' sum:Int) (msum:QM) (f:FuncId) (cap:List Value) (fG:Fct) (good:Int→Bool)
  (hg:∀ (m:QM) (k:Int),FnB Tryz.prog f ([qv m]++cap) [] [isQ (qv m) (wq D k),fG] (IsV (.bool (good k)))) (bs:List Bd) (m:QM) (i:Nat) (hT:TabOK n Tb) (hr:r < Tb.length) (hto:0≤(bg bs i).to∧(bg bs i).to < n) (hw:(bg bs i).w.natAbs≤14000000) (hs:Lim sum) :
  FnB Tryz.prog 162 ([bv (bg bs i) m]++[ptr g6,ptr g13,ptr g7,ptr g9,ptr g12]) [] [isQ (qv m) (wq D (bg bs i).w),fst1F D tv vs mss Tb g6 g13 g7 g9 g12 r at' sum msum (.func (.func f) #[] cap.toArray) fG] (IsV (.bool (nxtP bs Tb good r at' sum i))):=by
 refine fn_of [(0,(bv (bg bs i) m)),(1,(ptr g6)),(2,(ptr g13)),(3,(ptr g7)),(4,(ptr g9)),(5,(ptr g12))] 36 Tryz.func162 rfl Tryz.ntmps162 (by kernel_rfl) rfl suA fun h0=>?_
 refine WC.andF (f:=ce g6 129 [tv]) hmA ?_
 iterate 6 refine WC.andF (Has.mem (.tail _ (.head _))) ?_
 have hTl:=hT.len r hr
 have hTw:=hT.wth r (bg bs i).to.toNat
 refine WC.fact (slC tv Tb.length 1 vs) (W.Has.ts (mss:=mss) (D:=D) hmA) ?_
 refine WC.fact (fL D (vs r) (mss r) (Tb.getD r [])) (W.Has.tl (W.Has.tmB (v:=tv) hmA) hr) ?_
 refine WC.fact (isQ (qv (mss r (bg bs i).to.toNat)) (wq D (((Tb.getD r []).getD (bg bs i).to.toNat none).getD 0))) (W.Has.lq (ms:=mss r) (W.Has.lm (v:=vs r) hmA) (by omega)) ?_
 unfold Lim at hs
 unfold nxtP
 repeat'(first|refine gB ?_|(refine gH ?_;intro g)|(refine gW ?_;intro v)|refine d162 ?_|fail)
 revert g;intro g8;revert g;intro g6'
 by_cases c:(bg bs i).fr=at'
 ·rw[decide_eq_true c,Bool.true_and]
  cases he:(Tb.getD r []).getD (bg bs i).to.toNat none with
  |none=>
   rw[show(none:Option Int).isSome=false from rfl]
   repeat'(first|refine gB ?_|(refine gH ?_;intro g)|(refine gW ?_;intro v)|refine d162 ?_|fail)
   exact WC.ret (Fin.v (ResE.t1 rfl rfl) meA rfl)
  |some e=>
   rw[he] at hTw
   simp only[Option.getD_some] at hTw ⊢
   rw[show(some e:Option Int).isSome=true from rfl]
   repeat'(first|refine gB ?_|(refine gH ?_;intro g)|(refine gW ?_;intro v)|refine d162 ?_|fail)
   first|refine WL.callK (addw_c D m (mss r (bg bs i).to.toNat) (bg bs i).w e (by unfold Lim;omega) (by unfold Lim;omega)) ?_|refine WD.callK (addw_c D m (mss r (bg bs i).to.toNat) (bg bs i).w e (by unfold Lim;omega) (by unfold Lim;omega)) ?_|refine LO.callM (addw_c D m (mss r (bg bs i).to.toNat) (bg bs i).w e (by unfold Lim;omega) (by unfold Lim;omega)) ?_
   rintro _ _ _ ⟨m2,rfl,rfl,rfl⟩
   simp only[List.nil_append,List.cons_append]
   repeat'(first|refine gB ?_|(refine gH ?_;intro g)|(refine gW ?_;intro v)|refine d162 ?_|fail)
   first|refine WL.callK (addw_c D msum m2 sum ((bg bs i).w+e) (by unfold Lim;omega) (by unfold Lim;omega)) ?_|refine WD.callK (addw_c D msum m2 sum ((bg bs i).w+e) (by unfold Lim;omega) (by unfold Lim;omega)) ?_|refine LO.callM (addw_c D msum m2 sum ((bg bs i).w+e) (by unfold Lim;omega) (by unfold Lim;omega)) ?_
   rintro _ _ _ ⟨m3,rfl,rfl,rfl⟩
   simp only[List.nil_append,List.cons_append]
   repeat'(first|refine gB ?_|(refine gH ?_;intro g)|(refine gW ?_;intro v)|refine d162 ?_|fail)
   refine WD.callF [] cap (hg m3 (sum+((bg bs i).w+e))) ?_
   rintro _ _ _ ⟨rfl,rfl,rfl⟩
   rw[List.nil_append]
   repeat'(first|refine gB ?_|(refine gH ?_;intro g)|(refine gW ?_;intro v)|refine d162 ?_|fail)
   exact WC.ret (Fin.v (ResE.t1 rfl rfl) meA rfl)
 ·rw[decide_eq_false c,Bool.false_and]
  repeat'(first|refine gB ?_|(refine gH ?_;intro g)|(refine gW ?_;intro v)|refine d162 ?_|fail)
  exact WC.ret (Fin.v (ResE.t1 rfl rfl) meA rfl)
end G
end Go.Proofs.YtaongbhamadlkaaGreat
namespace Go.Proofs.YtaongbhamadlkaaGreat
open W Go.RowKit
attribute [local irreducible] WC WL WD YO LO LoopEnd W.Fin Scalar SliceT FieldAt Row ArrT AllocT KnS Has W.One SrcE IntT
namespace G
set_option maxRecDepth 60000
theorem goYT {G G':Prop} (h:G') (s:Bx G'→G:=by
 intro h
 (apply WD.yl;exact rfl;(first|(apply YO.move;exact rfl)|(apply YO.assign;exact rfl)|exact y_lss|exact y_add|exact y_len|(first|(first|(apply YO.ix1;exact t6A;exact rfl;exact rfl;exact knA;omega)|(apply YO.ix;exact t6A;exact rfl;exact rfl;exact knA;omega)|(apply YO.ix1';exact t6A;exact rfl;exact rfl;exact knA;omega;omega)|(apply YO.ix';exact t6A;exact rfl;exact rfl;exact knA;omega;omega))|(apply YO.ix1;exact t6A;exact rfl;exact rfl;exact knA;(first|omega|(simp only[List.length_set,List.length_replicate];omega)))|(apply YO.ix;exact t6A;exact rfl;exact rfl;exact knA;(first|omega|(simp only[List.length_set,List.length_replicate];omega)))|(apply YO.ix1';exact t6A;exact rfl;exact rfl;exact knA;omega;(first|omega|(simp only[List.length_set,List.length_replicate];omega))))|(first|(apply YO.ldW;exact t4A;exact rfl;exact meA;exact rfl)|(apply YO.ld42;exact t4A;exact rfl;exact meA)|(apply YO.ld40;exact t4A;exact rfl;exact meA)|(apply YO.ld62;exact t4A;exact rfl;exact meA)|(apply YO.ld51;exact t4A;exact rfl;exact meA)|(apply YO.ldR;exact t4A;exact rfl;exact hmA;omega)|(apply YO.ldBd;exact t4A;exact rfl;exact hmA;omega)|(apply YO.ldBq;exact t4A;exact rfl;exact hmA;omega)|(apply YO.ldBf;exact t2A;exact rfl;exact hmA;omega)|(apply YO.ldBt;exact t2A;exact rfl;exact hmA;omega)|(apply YO.ldLn;exact t4A;exact rfl;exact hmA;omega)|(apply YO.ldLb;exact t2A;exact rfl;exact hmA;omega)|(apply YO.ldLq;exact t4A;exact rfl;exact hmA;omega)|(apply YO.ldWf;exact t4A;exact rfl;exact hmA;exact rfl)|(apply YO.ldOR;exact t4A;exact rfl;exact meA;omega)|(apply YO.ldOBd;exact t4A;exact rfl;exact meA;omega)|(apply YO.ldOBq;exact t4A;exact rfl;exact meA;omega)|(apply YO.ldOL;exact t4A;exact rfl;exact meA;omega)|(apply YO.ldWI0;exact t4A;exact rfl;exact meA;(first|omega|(simp only[List.length_set,List.length_replicate];omega)))|(apply YO.ldWF0;exact t4A;exact rfl;exact hmA;(first|omega|(simp only[List.length_set,List.length_replicate];omega)))|(apply YO.ldCI;exact t2A;exact rfl;exact meA;(first|omega|(simp only[List.length_set,List.length_replicate];omega)))|(apply YO.ldFI;exact t2A;exact rfl;exact hmA;(first|omega|(simp only[List.length_set,List.length_replicate];omega)))|(apply YO.ldF;exact t2A;exact rfl;exact hmA;exact rfl)|(apply YO.ldS;exact t2A;exact rfl;exact hsA;omega)|(apply YO.ldB;exact t2A;exact rfl;exact meA;exact rfl)|(apply YO.ldOI;exact t2A;exact rfl;exact meA;(first|omega|(simp only[List.length_set,List.length_replicate];omega))))|exact y_pick|exact y_fieldAddr|(first|(first|(first|(apply YO.eql_t;exact rfl;exact rfl;omega)|(apply YO.eql_f;exact rfl;exact rfl;omega))|(apply YO.eqNil_t;exact t6A;exact rfl;exact knA;assumption)|(apply YO.eqNil_f;exact t6A;exact rfl;exact knA;assumption))|(apply YO.beq_t;exact bool_t;exact rfl;exact rfl;(first|rfl|assumption|decide))|(apply YO.beq_f;exact bool_t;exact rfl;exact rfl;(first|rfl|assumption|decide)))|exact y_neq|(apply YO.nil;exact rfl)|(apply YO.extract;exact rfl;exact rfl)|exact y_gtr|exact y_geq|exact y_leq|(apply YO.sub;exact rfl;exact rfl;omega;omega)|exact y_mul|exact y_rem|exact y_quo|exact y_unot|exact y_uneg|(apply YO.max;exact rfl;exact rfl)|(apply YO.min;exact rfl;exact rfl)|exact y_makeFunc|(first|(first|(apply YO.convU;exact t7A;exact t7A;exact rfl;omega;omega)|(apply YO.convI;exact t7A;exact t7A;exact rfl;omega;omega))|(apply YO.convN;exact t7A;exact t7A;exact rfl;omega;omega))|exact y_shl|(apply YO.shr';exact rfl;exact rfl;omega;omega)|exact y_and|exact y_or|(apply YO.anot;exact rfl;exact rfl)|(first|(first|(apply YO.slice;exact t6A;exact rfl;exact knA;exact Or.inl ⟨rfl,rfl⟩;exact Or.inr ⟨_,rfl,rfl⟩;omega;omega)|(apply YO.slice;exact t6A;exact rfl;exact knA;exact Or.inr ⟨_,rfl,rfl⟩;exact Or.inl ⟨rfl,rfl⟩;omega;omega))|(apply YO.slice3;exact t6A;exact rfl;exact knA;exact rfl;exact rfl;omega;omega)));exact rfl;exact rfl)
 exact Bx.h h):G:=s ⟨h⟩
end G
end Go.Proofs.YtaongbhamadlkaaGreat
namespace Go.Proofs.YtaongbhamadlkaaGreat
open W Go.RowKit
namespace G
attribute [local irreducible] WC WL WD YO LO LoopEnd W.Fin Scalar SliceT FieldAt Row ArrT AllocT KnS Has W.One SrcE IntT
theorem d105 {G G':Prop} (h:G') (s:Bx G'→G:=by
 intro h
 first|(apply WC.drawR (id:=10) [12] [1,2,3,4,5,6,8,9,10,11,12,13] (.held 1 (.held 2 (.held 3 (.held 4 (.held 5 (.held 6 (.held 8 (.held 9 (.held 10 (.held 11 (.held 12 (.held 13 (.loud 0 (.loud 7 (.loud 14 (.loud 15 (.done))))))))))))))))) mixed (by kernel_rfl);(focus((repeat(first|exact Rems.nil _|(apply Rems.cons;exact rfl;(repeat(first|exact Rem.head|apply Rem.tail)))));done)))|fail
 exact Bx.h h):G:=s ⟨h⟩
set_option maxRecDepth 60000 in
theorem first_c (D:Nat) [Den D] (vb tv:Value) (ms:Nat→QM) (vs:Nat→Value) (mss:Nat→Nat→QM) (bs:List Bd) (Tb:List (List (Option Int))) (n:Nat) (hv:Vld n bs) (hf:Fit bs) (hT:TabOK n Tb) (at0:Int) (many:Nat) (hm:many≤Tb.length) (hm2:many≤33)
  (f:FuncId) (cap:List Value) (fG:Fct) (good:Int→Bool) (hg:∀ (m:QM) (k:Int),FnB Tryz.prog f ([qv m]++cap) [] [isQ (qv m) (wq D k),fG] (IsV (.bool (good k)))) :
  FnB Tryz.prog 105 [.agg #[.int .i64 n,vb],tv,.int .i64 at0,.int .i64 many,.func (.func f) #[] cap.toArray] [] [fB D vb ms bs,fT D tv vs mss Tb,fG] (IsO 3 1 (ints (fstP bs Tb good many at0 0 []))):=by
 refine fn_of [(0,(.agg #[.int .i64 n,vb])),(1,tv),(2,(.int .i64 at0)),(3,(.int .i64 many)),(4,(.func (.func f) #[] cap.toArray))] 48 Tryz.func105 rfl Tryz.ntmps105 (by kernel_rfl) rfl suA fun h0=>?_
 unfold Fit at hf
 have hvl:=hv.l
 refine WC.fact (isQ (qv m00) (wq D 0)) hasQ0w ?_
 refine WC.fact (slC tv Tb.length 1 vs) (W.Has.ts (mss:=mss) (D:=D) hmA) ?_
 refine WC.addNil 3 1 ?_
 repeat'(first|refine gB ?_|(refine gH ?_;intro g)|(refine gW ?_;intro v)|refine goYT ?_|refine d105 ?_|fail)
 revert g;intro g13;revert g;intro g12;revert g;intro g9;revert g;intro g7;revert g;intro g6;revert g;intro g5
 refine WC.lp (σ:=Nat×Nat×Value×List Int×Int×Int×QM) (fun s=>[(13,ptr s.2.1),(12,ptr g12),(11,s.2.2.1),(9,ptr g9),(7,ptr g7),(6,ptr g6),(5,ptr g5)])
  (fun s=>[Ow.cells s.2.1 3 [.int .i64 ((s.1:Int) - 1)],Ow.cells g12 31 (qcs s.2.2.2.2.2.2),Ow.cells g9 136 [.func (.func f) #[] cap.toArray],Ow.cells g7 3 [.int .i64 s.2.2.2.2.1],Ow.cells g6 129 [tv],Ow.cells g5 123 [.int .i64 n,vb],Ow.slice s.2.2.1 3 1 (ints s.2.2.2.1)])
  (fun s=>[isQ (qv s.2.2.2.2.2.2) (wq D s.2.2.2.2.2.1),slC tv Tb.length 1 vs,ge h0,fB D vb ms bs,fT D tv vs mss Tb,fG])
  (fun s=>s.1+s.2.2.2.1.length=many∧s.2.2.2.2.2.1=lenP bs s.2.2.2.1∧fstP bs Tb good s.1 s.2.2.2.2.1 s.2.2.2.2.2.1 s.2.2.2.1=fstP bs Tb good many at0 0 []) (fun s=>s.1) (many,g13,.slice none 0 0,[],at0,0,m00) ⟨by simp,rfl,rfl⟩ ?_
 rintro⟨r,g13,uo,out,at',sum,msum⟩ ⟨hr,hsum,hfst⟩
 simp only at hr hsum hfst ⊢
 have hlen:=@lenP_le bs out
 rw[←hsum] at hlen
 have hlen2:out.length*absS bs≤33*14000000:=Nat.mul_le_mul (by omega) hf
 cases r with
 |zero=>
  rw[fstP] at hfst
  repeat'(first|refine gB ?_|(refine gH ?_;intro g)|(refine gW ?_;intro v)|refine goYT ?_|refine d105 ?_|fail)
  exact WC.ret (Fin.o (ResE.t1 rfl rfl) meA meA (by rw[hfst]))
 |succ r=>
  rw[fstP] at hfst
  rw[show(((r+1:Nat):Int) - 1)=(r:Int) by omega]
  repeat'(first|refine gB ?_|(refine gH ?_;intro g)|(refine gW ?_;intro v)|refine goYT ?_|refine d105 ?_|fail)
  refine WL.callV (hF:=.cons (.f hmA) (.cons (.and (.c meA) (.and (.c meA) (.and (.c meA) (.and (.c meA) (.and (.c meA) (.and (.f hmA) (.and (.f hmA) (.f hmA)))))))) .nil)) (indexB_c D vb ms bs 162 [ptr g6,ptr g13,ptr g7,ptr g9,ptr g12] (fst1F D tv vs mss Tb g6 g13 g7 g9 g12 r at' sum msum (.func (.func f) #[] cap.toArray) fG) (nxtP bs Tb good r at' sum)
   (fun i hi=>first1_c D tv vs mss Tb g6 g13 g7 g9 g12 r n at' sum msum f cap fG good hg bs (ms i) i hT (by omega) (by have:=hv.ok i hi;unfold Bd.ok at this;omega) (Nat.le_trans absS_le hf) (by unfold Lim;omega))) ?_
  have hsp:=fidx_spec (nxtP bs Tb good r at' sum) bs.length 0
  generalize fidx (nxtP bs Tb good r at' sum) bs.length 0=j at *
  by_cases cj:j < 0
  ·rw[if_pos cj] at hfst
   repeat'(first|refine gB ?_|(refine gH ?_;intro g)|(refine gW ?_;intro v)|refine goYT ?_|refine d105 ?_|fail)
   refine WC.addNil 3 1 ?_
   exact WC.ret (Fin.o (v:=.slice none 0 0) (cs:=ints []) (ResE.t1 rfl rfl) meA (.head _) (by rw[←hfst]))
  ·rw[if_neg cj] at hfst
   obtain⟨j,rfl⟩:∃ k:Nat,j=k:=⟨j.toNat,by omega⟩
   have hj:j < bs.length:=by rcases hsp with ⟨h1,_⟩|⟨k,h1,_,h3,_⟩ <;> omega
   have hw:=@absS_le bs j
   rw[Int.toNat_natCast] at hfst
   refine WL.fact' (isQ (qv (ms j)) (wq D (bg bs j).w)) (W.Has.b (W.Has.bm (v:=vb) hmA) hj) ?_
   repeat'(first|refine gB ?_|(refine gH ?_;intro g)|(refine gW ?_;intro v)|refine goYT ?_|refine d105 ?_|fail)
   first|refine WL.callK (addw_c D msum (ms j) sum (bg bs j).w (by unfold Lim;omega) (by unfold Lim;omega)) ?_|refine WD.callK (addw_c D msum (ms j) sum (bg bs j).w (by unfold Lim;omega) (by unfold Lim;omega)) ?_|refine LO.callM (addw_c D msum (ms j) sum (bg bs j).w (by unfold Lim;omega) (by unfold Lim;omega)) ?_
   rintro _ _ _ ⟨m2,rfl,rfl,rfl⟩
   simp only[List.nil_append,List.cons_append]
   repeat'(first|refine gB ?_|(refine gH ?_;intro g)|(refine gW ?_;intro v)|refine goYT ?_|refine d105 ?_|fail)
   exact LoopEnd.mk (r,g,v,out++[(j:Int)],(bg bs j).to,sum+(bg bs j).w,m2) ⟨by show r+(out++[(j:Int)]).length=many;simp;omega,by show _=lenP bs (out++[(j:Int)]);rw[lenP_snoc,←hsum,Int.toNat_natCast],hfst⟩ (Nat.lt_succ_self r) suA (by simp only[←ints_snoc];exact slA) sfA
end G
end Go.Proofs.YtaongbhamadlkaaGreat
namespace Go.Proofs.YtaongbhamadlkaaGreat
open W Go.RowKit
section
variable {P:Program} {n:Nat} {c x y:Code} {L rest:List Oper} {e:Env} {bx bx' r:List Ow} {F:List Fct} {Q:Post} {Q2:Env→List Ow→List Fct→Prop}
theorem WC.permB (hp:bx.Perm (bx'++r)) (h:WC P n c e bx' F Q):WC P n c e bx F Q:=fun fr w0 a w hk hr ho=>h fr w0 a w hk hr ((ho.perm hp).drop (List.sublist_append_left _ _))
theorem WL.permB (hp:bx.Perm (bx'++r)) (h:WL P n L rest e bx' F Q2):WL P n L rest e bx F Q2:=fun fr w0 a w Q' hQ hk hr ho=>h fr w0 a w Q' hQ hk hr ((ho.perm hp).drop (List.sublist_append_left _ _))
theorem WC.cutQ {σ:Type} (E:σ→Env) (B:σ→List Ow) (G:σ→List Fct) (I:σ→Prop)
  (h1:WC P n x e bx F (thenQ (fun e' bx' F'=>∃ s,I s∧W.Sub (E s) e'∧(∃ r,bx'.Perm (B s++r))∧HasAll F' (G s)) Q))
  (h2:∀ s,I s→WC P n y (E s) (B s) (G s) Q):WC P n x e bx F (thenQ (fun e bx F=>WC P n y e bx F Q) Q):=
 h1.mono fun ex e b f h=>by
  cases ex <;> first|exact h|skip
  obtain⟨s,h3,h4,⟨r,h5⟩,h6⟩:=h
  exact fun fr w0 a w hk hr ho=>h2 s h3 fr w0 a w (hk.sub h4) hr (((ho.perm h5).drop (List.sublist_append_left _ _)).hasAll h6.all)
end
def tcells (n:Nat) (f:Nat→Value):List Value:=(List.range n).map f
theorem tcells_len (n:Nat) (f:Nat→Value):(tcells n f).length=n:=by simp[tcells]
theorem tcells_get {n:Nat} {f:Nat→Value} {j:Nat} (h:j < n):(tcells n f)[j]?=some (f j):=by simp[tcells,h]
theorem tcells_set {n k:Nat} {f:Nat→Value} {u:Value}:(tcells n f).set k u=tcells n (upd f k u):=by
 apply List.ext_getElem?
 intro j
 rw[List.getElem?_set,tcells_len]
 by_cases c:k=j
 ·subst c
  rw[if_pos rfl]
  by_cases h:k < n
  ·rw[if_pos h,tcells_get h,upd_at]
  ·rw[if_neg h,List.getElem?_eq_none (by rw[tcells_len];omega)]
 ·rw[if_neg c]
  by_cases h:j < n
  ·rw[tcells_get h,tcells_get h,upd_ne (fun h=>c h.symm)]
  ·rw[List.getElem?_eq_none (by rw[tcells_len];omega),List.getElem?_eq_none (by rw[tcells_len];omega)]
theorem tcells_app {n:Nat} {f:Nat→Value} {u:Value}:tcells n f++[u]=tcells (n+1) (upd f n u):=by
 unfold tcells
 rw[List.range_succ,List.map_append]
 congr 1
 ·apply List.map_congr_left
  intro j hj
  rw[List.mem_range] at hj
  rw[upd_ne (by omega)]
 ·simp[upd_at]
section
variable {P:Program} {e:Env} {bx bx':List Ow} {F:List Fct} {ty t el:TypeId} {v u:Value} {x y:Operand} {n k:Nat} {f:Nat→Value} {K:RPost}
theorem KnS.oT (h:Ow.slice v el 1 (tcells n f)∈bx):KnS bx F v n:=KnS.o h (by rw[tcells_len];omega) (by decide)
theorem YO.ldOT (hs:Scalar P t) (hx:ev e x=some (.pointer (some (eaddr v k)))) (hb:Ow.slice v el 1 (tcells n f)∈bx) (hk:k < n):YO P (.load t x) ty e bx F (f k):=YO.ldO hs hx hb (tcells_get hk)
theorem HasB.oT (hb:Ow.slice v el 1 (tcells n f)∈bx):HasB bx F (slC v n 1 f):=HasB.o hb (by rw[tcells_len];omega) (by decide) fun j hj=>tcells_get (by omega)
theorem LO.storeOT (hx:ev e x=some (.pointer (some (eaddr v k)))) (hy:ev e y=some u) (hz:(P.info? t).map (·.size)=some 1) (hu:One bx F u) (hs:Sel bx (.slice v el 1 (tcells n f)) (.slice v el 1 (tcells n (upd f k u))) bx') (hk:k < n)
  (h:K undef bx' F):LO P (.store t x y) ty e bx F K:=
 LO.storeO1 hx hy hz hu hs (by rw[tcells_len];exact hk) tcells_set h
theorem LO.makeTT {i:Int} (hx:ev e x=some (.int .i64 i)) (hy:ev e y=some (.int .i64 i)) (hi:NatI i n) (hb:n≤1000000) (h:∀ v,K v (Ow.slice v 129 1 (tcells n (fun _=>.slice none 0 0))::bx) F):LO Tryz.prog (.makeSlice 168 x y) ty e bx F K:=by
 obtain rfl:=hi.eq
 refine LO.make T.e168 hx hy (by omega) (by omega) ?_ h
 have:=madeF n 1 (.slice none 0 0) (fun _=>.slice none 0 0) rfl (by decide) (fun j=>by rw[Nat.mod_one];rfl)
 rw[this,Nat.mul_one];rfl
theorem LO.appTT {el':TypeId} {bx2:Value→List Ow} {w:Value} (hx:ev e x=some v) (hy:ev e y=some u) (hu:Ow.slice u el' 1 [w]∈bx) (hm:One bx F w) (hs:∀ v',Sel bx (.slice v 131 1 (tcells n f)) (.slice v' 131 1 (tcells (n+1) (upd f n w))) (bx2 v')) (hl:n≤1000000) (h:∀ v',K v' (bx2 v') F) :
  LO Tryz.prog (.call {callee:=.builtin .append,args:=#[x,y],argTypes:=#[129,129]}) ty e bx F K:=by
 refine LO.byP (fun fr w ho=>(hm fr w ho).2) fun h1=>?_
 exact LO.append T.e129 hx hy (news:=[w]) (by rw[tcells_app];exact hs) (SrcE.one hu rfl (by decide)) (by simpa using h1) (by rw[tcells_len];show(n+1)*24≤_;omega) (by rw[tcells_len];show n+1≤_;omega) h
end
def tbO (f:Nat→Ow) (n:Nat):List Ow:=(List.range n).map f
def tbX (f:Nat→Ow) (n v:Nat):List Ow:=((List.range n).erase v).map f
theorem tbO_perm {f:Nat→Ow} {n v:Nat} (h:v < n):(tbO f n).Perm (f v::tbX f n v):=by
 unfold tbO tbX
 exact(List.perm_cons_erase (List.mem_range.2 h)).map f
theorem tbX_congr {f g:Nat→Ow} {n v:Nat} (h:∀ x,x≠v→f x=g x):tbX f n v=tbX g n v:=by
 unfold tbX
 apply List.map_congr_left
 intro x hx
 exact h x ((List.Nodup.mem_erase_iff List.nodup_range).1 hx).1
theorem tbO_mem {f:Nat→Ow} {n v:Nat} (h:v < n):f v∈tbO f n:=List.mem_map.2 ⟨v,List.mem_range.2 h,rfl⟩
theorem tbO_congr {f g:Nat→Ow} {n:Nat} (h:∀ x,x < n→f x=g x):tbO f n=tbO g n:=by
 unfold tbO
 apply List.map_congr_left
 intro x hx
 exact h x (List.mem_range.1 hx)
theorem tb_swap {f f':Nat→Ow} {n v:Nat} (h:v < n) (hf:∀ x,x≠v→f' x=f x):(f' v::tbO f n).Perm (tbO f' n++[f v]):=by
 refine((tbO_perm (f:=f) h).cons _).trans ?_
 refine List.Perm.trans ?_ ((tbO_perm (f:=f') h).symm.append_right _)
 rw[tbX_congr (f:=f') (g:=f) hf]
 exact((List.perm_append_singleton _ _).symm).cons _
theorem tb_back {f f':Nat→Ow} {n v:Nat} (h:v < n) (hf:∀ x,x≠v→f' x=f x):(f' v::tbX f n v).Perm (tbO f' n):=by
 rw[←tbX_congr (f:=f') (g:=f) hf]
 exact(tbO_perm h).symm
theorem perm_in2 {X A B:Ow} {T T':List Ow} (h:(X::T).Perm T'):(X::A::B::T).Perm (A::B::T'):=
 (List.Perm.swap A X _).trans (((List.Perm.swap B X _).trans (h.cons B)).cons A)
theorem WC.addNils {P:Program} {nn:Nat} {c:Code} {e:Env} {bx:List Ow} {F:List Fct} {Q:Post} (f:Nat→Ow) (el sz n:Nat) (hf:∀ x,f x=Ow.slice (.slice none 0 0) el sz []) (h:WC P nn c e (tbO f n++bx) F Q):WC P nn c e bx F Q:=by
 induction n generalizing bx with
 |zero=>exact h
 |succ n ih=>
  refine WC.addNil el sz (ih ?_)
  have:tbO f (n+1)++bx=tbO f n++Ow.slice (.slice none 0 0) el sz []::bx:=by simp[tbO,List.range_succ,hf]
  rw[←this];exact h
end Go.Proofs.YtaongbhamadlkaaGreat
namespace Go.Proofs.YtaongbhamadlkaaGreat
open W Go.RowKit
attribute [local irreducible] WC WL WD YO LO LoopEnd W.Fin Scalar SliceT FieldAt Row ArrT AllocT KnS Has W.One SrcE IntT
namespace H
set_option maxRecDepth 60000
theorem t1A {G:Prop} (h:G:=by first|((exact G.t1A);done)|fail):G:=h
theorem t2A {G:Prop} (h:G:=by first|((exact G.t2A);done)|fail):G:=h
theorem t3A {G:Prop} (h:G:=by first|((exact G.t3A);done)|fail):G:=h
theorem t5A {G:Prop} (h:G:=by first|((exact G.t5A);done)|fail):G:=h
theorem t6A {G:Prop} (h:G:=by first|((exact G.t6A);done)|fail):G:=h
theorem knA {G:Prop} (h:G:=by first|((first|(focus(apply KnS.oT;exact meA;done))|exact G.knA);done)|fail):G:=h
theorem hsA {G:Prop} (h:G:=by first|((exact G.hsA);done)|fail):G:=h
theorem y_indexAddr {G:Prop} (h:G:=by first|((exact G.y_indexAddr);done)|fail):G:=h
theorem y_load {G:Prop} (h:G:=by first|(((first|(apply YO.ldW;exact t4A;exact rfl;exact meA;exact rfl)|(apply YO.ld42;exact t4A;exact rfl;exact meA)|(apply YO.ld40;exact t4A;exact rfl;exact meA)|(apply YO.ld62;exact t4A;exact rfl;exact meA)|(apply YO.ld51;exact t4A;exact rfl;exact meA)|(apply YO.ldR;exact t4A;exact rfl;exact hmA;omega)|(apply YO.ldBd;exact t4A;exact rfl;exact hmA;omega)|(apply YO.ldBq;exact t4A;exact rfl;exact hmA;omega)|(apply YO.ldBf;exact t2A;exact rfl;exact hmA;omega)|(apply YO.ldBt;exact t2A;exact rfl;exact hmA;omega)|(apply YO.ldLn;exact t4A;exact rfl;exact hmA;omega)|(apply YO.ldLb;exact t2A;exact rfl;exact hmA;omega)|(apply YO.ldLq;exact t4A;exact rfl;exact hmA;omega)|(apply YO.ldWf;exact t4A;exact rfl;exact hmA;exact rfl)|(apply YO.ldOR;exact t4A;exact rfl;exact meA;omega)|(apply YO.ldOBd;exact t4A;exact rfl;exact meA;omega)|(apply YO.ldOBq;exact t4A;exact rfl;exact meA;omega)|(apply YO.ldOL;exact t4A;exact rfl;exact meA;omega)|(apply YO.ldOT;exact t2A;exact rfl;exact meA;omega)|(apply YO.ldWI0;exact t4A;exact rfl;exact meA;(first|omega|(simp only[List.length_set,List.length_replicate];omega)))|(apply YO.ldWF0;exact t4A;exact rfl;exact hmA;(first|omega|(simp only[List.length_set,List.length_replicate];omega)))|(apply YO.ldCI;exact t2A;exact rfl;exact meA;(first|omega|(simp only[List.length_set,List.length_replicate];omega)))|(apply YO.ldFI;exact t2A;exact rfl;exact hmA;(first|omega|(simp only[List.length_set,List.length_replicate];omega)))|(apply YO.ldF;exact t2A;exact rfl;exact hmA;exact rfl)|(apply YO.ldS;exact t2A;exact rfl;exact hsA;omega)|(apply YO.ldB;exact t2A;exact rfl;exact meA;exact rfl)|(apply YO.ldOI;exact t2A;exact rfl;exact meA;(first|omega|(simp only[List.length_set,List.length_replicate];omega)))));done)|fail):G:=h
theorem y_build {G:Prop} (h:G:=by first|((exact G.y_build);done)|fail):G:=h
theorem go {G G':Prop} (h:G') (s:Bx G'→G:=by
 intro h
 (first
  |refine G.go ?_
  |(apply WL.kl_store;rotate_left;exact rfl;(first|(apply LO.storeOI;exact rfl;exact rfl;exact t3A;exact seA;(first|omega|(simp only[List.length_set];omega)))|(apply LO.storeQ;exact rfl;exact rfl;exact t4A;exact hmA;exact seA;omega)|(apply LO.storeL1;exact rfl;exact rfl;exact t4A;exact hmA;exact seA;omega)|(apply LO.storeOT;exact rfl;exact rfl;exact t3A;(first|exact One.lit rfl rfl|(apply One.sl;exact knA));exact seA;omega)|(apply LO.storeI;exact rfl;exact rfl;exact t3A;exact seA;(first|omega|(simp only[List.length_set,List.length_replicate];omega)))|(apply LO.storeWI;exact rfl;exact rfl;exact seA;exact t4A;(first|omega|(simp only[List.length_set,List.length_replicate];omega));(first|(simp only[List.length_map,List.length_set,List.length_replicate,ints];omega)|rfl))|(apply LO.store1;exact rfl;exact rfl;exact t3A;(first|exact One.lit rfl rfl|(apply One.sl;exact knA));exact seA;(first|(simp only[List.length_cons,List.length_nil];omega)|(simp;omega));(first|(simp only[List.set_cons_succ,List.set_cons_zero];exact rfl)|exact rfl))|(apply LO.storeO1;exact rfl;exact rfl;exact t3A;(first|exact One.lit rfl rfl|(apply One.sl;exact knA));exact seA;(first|(simp only[List.length_cons,List.length_nil];omega)|(simp;omega));(first|(simp only[List.set_cons_succ,List.set_cons_zero];exact rfl)|exact rfl))|(apply LO.storeL;exact rfl;exact rfl;exact seA;exact t4A;exact rfl;exact rfl;(repeat(first|exact OneL.nil|(apply OneL.cons;(first|exact One.lit rfl rfl|(apply One.sl;exact knA))))))))
  |fail)
 exact Bx.h h):G:=s ⟨h⟩
theorem goD {G G':Prop} (h:G') (s:Bx G'→G:=by
 intro h
 (first
  |refine G.goD ?_
  |(apply WD.kl_store;exact rfl;rotate_left;exact rfl;(first|(apply LO.storeOI;exact rfl;exact rfl;exact t3A;exact seA;(first|omega|(simp only[List.length_set];omega)))|(apply LO.storeQ;exact rfl;exact rfl;exact t4A;exact hmA;exact seA;omega)|(apply LO.storeL1;exact rfl;exact rfl;exact t4A;exact hmA;exact seA;omega)|(apply LO.storeOT;exact rfl;exact rfl;exact t3A;(first|exact One.lit rfl rfl|(apply One.sl;exact knA));exact seA;omega)|(apply LO.storeI;exact rfl;exact rfl;exact t3A;exact seA;(first|omega|(simp only[List.length_set,List.length_replicate];omega)))|(apply LO.storeWI;exact rfl;exact rfl;exact seA;exact t4A;(first|omega|(simp only[List.length_set,List.length_replicate];omega));(first|(simp only[List.length_map,List.length_set,List.length_replicate,ints];omega)|rfl))|(apply LO.store1;exact rfl;exact rfl;exact t3A;(first|exact One.lit rfl rfl|(apply One.sl;exact knA));exact seA;(first|(simp only[List.length_cons,List.length_nil];omega)|(simp;omega));(first|(simp only[List.set_cons_succ,List.set_cons_zero];exact rfl)|exact rfl))|(apply LO.storeO1;exact rfl;exact rfl;exact t3A;(first|exact One.lit rfl rfl|(apply One.sl;exact knA));exact seA;(first|(simp only[List.length_cons,List.length_nil];omega)|(simp;omega));(first|(simp only[List.set_cons_succ,List.set_cons_zero];exact rfl)|exact rfl))|(apply LO.storeL;exact rfl;exact rfl;exact seA;exact t4A;exact rfl;exact rfl;(repeat(first|exact OneL.nil|(apply OneL.cons;(first|exact One.lit rfl rfl|(apply One.sl;exact knA)))))));constructor;exact ltA)
  |fail)
 exact Bx.h h):G:=s ⟨h⟩
theorem goV {G G':Prop} (h:G') (s:Bx G'→G:=by
 intro h
 (first
  |(apply WL.kl_ms;rotate_left;exact rfl;exact rfl;(apply LO.makeI;exact rfl;exact rfl;(repeat(first|(with_reducible apply NatI.add)|(with_reducible exact NatI.one)|exact NatI.cast _));omega))
  |(apply WL.kl_ms;rotate_left;exact rfl;exact rfl;(apply LO.makeR;exact rfl;exact rfl;(repeat(first|(with_reducible apply NatI.add)|(with_reducible exact NatI.one)|exact NatI.cast _));omega))
  |(apply WL.kl_ms;rotate_left;exact rfl;exact rfl;(apply LO.makeLnB;exact rfl;exact rfl;(repeat(first|(with_reducible apply NatI.add)|(with_reducible exact NatI.one)|exact NatI.cast _));omega))
  |(apply WL.kl_ms;rotate_left;exact rfl;exact rfl;(apply LO.makeTT;exact rfl;exact rfl;(repeat(first|(with_reducible apply NatI.add)|(with_reducible exact NatI.one)|exact NatI.cast _));omega))
  |(apply WL.kl_bs;rotate_left;exact rfl;exact rfl;(apply LO.bsR0))
  |(apply WL.kl_bs;rotate_left;exact rfl;exact rfl;(apply LO.bsB0))
  |(apply WL.kl_bs;rotate_left;exact rfl;exact rfl;(apply LO.bsR1;exact rfl))
  |(apply WL.kl_bs;rotate_left;exact rfl;exact rfl;(apply LO.bsB1;exact rfl))
  |(apply WL.kl_bs;rotate_left;exact rfl;exact rfl;(apply LO.bsT1;exact rfl;exact knA))
  |(apply WL.kl_app;rotate_left;exact rfl;exact rfl;(apply LO.appTT;exact rfl;exact rfl;exact meA;(apply One.sl;exact knA);(intro _;exact seA);omega))
  |(apply WL.kl_app;rotate_left;exact rfl;exact rfl;(apply LO.appRo;exact rfl;exact rfl;exact meA;exact hmA;omega;(intro _;exact seA);omega))
  |(apply WL.kl_app;rotate_left;exact rfl;exact rfl;(apply LO.appBf;exact rfl;exact rfl;exact hmA;(intro _;exact seA);omega))
  |(apply WL.kl_app;rotate_left;exact rfl;exact rfl;(apply LO.appR1;exact rfl;exact rfl;exact meA;exact hmA;(intro _;exact seA);omega))
  |(apply WL.kl_app;rotate_left;exact rfl;exact rfl;(apply LO.appB1;exact rfl;exact rfl;exact meA;exact hmA;(intro _;exact seA);omega))
  |(apply WL.kl_app;rotate_left;exact rfl;exact rfl;(apply LO.appT1;exact rfl;exact rfl;exact meA;(first|exact One.lit rfl rfl|(apply One.sl;exact knA));(intro _;exact seA);(simp only[List.length_append,List.length_cons,List.length_nil,List.length_map,List.length_range];omega)))
  |(apply WL.kl_bs;rotate_left;exact rfl;exact rfl;apply LO.bs1;exact t6A;(repeat(first|exact EvP.nil|(apply EvP.cons;exact rfl)));(intro _;kernel_rfl);exact rfl;omega)
  |(apply WL.kl_app;rotate_left;exact rfl;exact rfl;apply LO.app;exact t5A;exact rfl;exact rfl;(first|(focus(apply SrcE.ints;exact hmA;done))|(focus(apply SrcE.own1;exact meA;done))|(focus(apply SrcE.one;exact meA;exact rfl;decide;done)));(intro v;exact seA);exact onA;exact leA;exact leA))
 exact Bx.h h):G:=s ⟨h⟩
theorem goDV {G G':Prop} (h:G') (s:Bx G'→G:=by
 intro h
 (first
  |(apply WD.kl_ms;exact rfl;rotate_left;exact rfl;exact rfl;(apply LO.makeI;exact rfl;exact rfl;(repeat(first|(with_reducible apply NatI.add)|(with_reducible exact NatI.one)|exact NatI.cast _));omega);apply allAnd;(intro _;exact ltA))
  |(apply WD.kl_ms;exact rfl;rotate_left;exact rfl;exact rfl;(apply LO.makeR;exact rfl;exact rfl;(repeat(first|(with_reducible apply NatI.add)|(with_reducible exact NatI.one)|exact NatI.cast _));omega);apply allAnd;(intro _;exact ltA))
  |(apply WD.kl_ms;exact rfl;rotate_left;exact rfl;exact rfl;(apply LO.makeLnB;exact rfl;exact rfl;(repeat(first|(with_reducible apply NatI.add)|(with_reducible exact NatI.one)|exact NatI.cast _));omega);apply allAnd;(intro _;exact ltA))
  |(apply WD.kl_ms;exact rfl;rotate_left;exact rfl;exact rfl;(apply LO.makeTT;exact rfl;exact rfl;(repeat(first|(with_reducible apply NatI.add)|(with_reducible exact NatI.one)|exact NatI.cast _));omega);apply allAnd;(intro _;exact ltA))
  |(apply WD.kl_bs;exact rfl;rotate_left;exact rfl;exact rfl;(apply LO.bsR0);apply allAnd;(intro _;exact ltA))
  |(apply WD.kl_bs;exact rfl;rotate_left;exact rfl;exact rfl;(apply LO.bsB0);apply allAnd;(intro _;exact ltA))
  |(apply WD.kl_bs;exact rfl;rotate_left;exact rfl;exact rfl;(apply LO.bsR1;exact rfl);apply allAnd;(intro _;exact ltA))
  |(apply WD.kl_bs;exact rfl;rotate_left;exact rfl;exact rfl;(apply LO.bsB1;exact rfl);apply allAnd;(intro _;exact ltA))
  |(apply WD.kl_bs;exact rfl;rotate_left;exact rfl;exact rfl;(apply LO.bsT1;exact rfl;exact knA);apply allAnd;(intro _;exact ltA))
  |(apply WD.kl_app;exact rfl;rotate_left;exact rfl;exact rfl;(apply LO.appTT;exact rfl;exact rfl;exact meA;(apply One.sl;exact knA);(intro _;exact seA);omega);apply allAnd;(intro _;exact ltA))
  |(apply WD.kl_app;exact rfl;rotate_left;exact rfl;exact rfl;(apply LO.appRo;exact rfl;exact rfl;exact meA;exact hmA;omega;(intro _;exact seA);omega);apply allAnd;(intro _;exact ltA))
  |(apply WD.kl_app;exact rfl;rotate_left;exact rfl;exact rfl;(apply LO.appBf;exact rfl;exact rfl;exact hmA;(intro _;exact seA);omega);apply allAnd;(intro _;exact ltA))
  |(apply WD.kl_app;exact rfl;rotate_left;exact rfl;exact rfl;(apply LO.appR1;exact rfl;exact rfl;exact meA;exact hmA;(intro _;exact seA);omega);apply allAnd;(intro _;exact ltA))
  |(apply WD.kl_app;exact rfl;rotate_left;exact rfl;exact rfl;(apply LO.appB1;exact rfl;exact rfl;exact meA;exact hmA;(intro _;exact seA);omega);apply allAnd;(intro _;exact ltA))
  |(apply WD.kl_app;exact rfl;rotate_left;exact rfl;exact rfl;(apply LO.appT1;exact rfl;exact rfl;exact meA;(first|exact One.lit rfl rfl|(apply One.sl;exact knA));(intro _;exact seA);(simp only[List.length_append,List.length_cons,List.length_nil,List.length_map,List.length_range];omega));apply allAnd;(intro _;exact ltA))
  |(apply WD.kl_bs;exact rfl;rotate_left;exact rfl;exact rfl;apply LO.bs1;exact t6A;(repeat(first|exact EvP.nil|(apply EvP.cons;exact rfl)));(intro _;kernel_rfl);exact rfl;omega;apply allAnd;(intro _;exact ltA))
  |(apply WD.kl_app;exact rfl;rotate_left;exact rfl;exact rfl;apply LO.app;exact t5A;exact rfl;exact rfl;(first|(focus(apply SrcE.ints;exact hmA;done))|(focus(apply SrcE.own1;exact meA;done))|(focus(apply SrcE.one;exact meA;exact rfl;decide;done)));(intro v;exact seA);exact onA;exact leA;exact leA;apply allAnd;(intro _;exact ltA)))
 exact Bx.h h):G:=s ⟨h⟩
theorem goLV {G G':Prop} (h:G') (s:Bx G'→G:=by
 intro h
 (first
  |(apply LO.bs1;exact t6A;(repeat(first|exact EvP.nil|(apply EvP.cons;exact rfl)));(intro _;kernel_rfl);exact rfl;omega;apply allAnd;(intro _;exact ltA))
  |(apply LO.app;exact t5A;exact rfl;exact rfl;(first|(focus(apply SrcE.ints;exact hmA;done))|(focus(apply SrcE.own1;exact meA;done))|(focus(apply SrcE.one;exact meA;exact rfl;decide;done)));(intro v;exact seA);exact onA;exact leA;exact leA;apply allAnd;(intro _;exact ltA))
  |((apply LO.makeI;exact rfl;exact rfl;(repeat(first|(with_reducible apply NatI.add)|(with_reducible exact NatI.one)|exact NatI.cast _));omega);apply allAnd;(intro _;exact ltA))
  |((apply LO.makeR;exact rfl;exact rfl;(repeat(first|(with_reducible apply NatI.add)|(with_reducible exact NatI.one)|exact NatI.cast _));omega);apply allAnd;(intro _;exact ltA))
  |((apply LO.makeLnB;exact rfl;exact rfl;(repeat(first|(with_reducible apply NatI.add)|(with_reducible exact NatI.one)|exact NatI.cast _));omega);apply allAnd;(intro _;exact ltA))
  |((apply LO.makeTT;exact rfl;exact rfl;(repeat(first|(with_reducible apply NatI.add)|(with_reducible exact NatI.one)|exact NatI.cast _));omega);apply allAnd;(intro _;exact ltA))
  |((apply LO.bsR0);apply allAnd;(intro _;exact ltA))
  |((apply LO.bsB0);apply allAnd;(intro _;exact ltA))
  |((apply LO.bsR1;exact rfl);apply allAnd;(intro _;exact ltA))
  |((apply LO.bsB1;exact rfl);apply allAnd;(intro _;exact ltA))
  |((apply LO.bsT1;exact rfl;exact knA);apply allAnd;(intro _;exact ltA))
  |((apply LO.appTT;exact rfl;exact rfl;exact meA;(apply One.sl;exact knA);(intro _;exact seA);omega);apply allAnd;(intro _;exact ltA))
  |((apply LO.appRo;exact rfl;exact rfl;exact meA;exact hmA;omega;(intro _;exact seA);omega);apply allAnd;(intro _;exact ltA))
  |((apply LO.appBf;exact rfl;exact rfl;exact hmA;(intro _;exact seA);omega);apply allAnd;(intro _;exact ltA))
  |((apply LO.appR1;exact rfl;exact rfl;exact meA;exact hmA;(intro _;exact seA);omega);apply allAnd;(intro _;exact ltA))
  |((apply LO.appB1;exact rfl;exact rfl;exact meA;exact hmA;(intro _;exact seA);omega);apply allAnd;(intro _;exact ltA))
  |((apply LO.appT1;exact rfl;exact rfl;exact meA;(first|exact One.lit rfl rfl|(apply One.sl;exact knA));(intro _;exact seA);(simp only[List.length_append,List.length_cons,List.length_nil,List.length_map,List.length_range];omega));apply allAnd;(intro _;exact ltA)))
 exact Bx.h h):G:=s ⟨h⟩
theorem goLS {G G':Prop} (h:G') (s:Bx G'→G:=by
 intro h
 (first
  |((first|(apply LO.storeOI;exact rfl;exact rfl;exact t3A;exact seA;(first|omega|(simp only[List.length_set];omega)))|(apply LO.storeQ;exact rfl;exact rfl;exact t4A;exact hmA;exact seA;omega)|(apply LO.storeL1;exact rfl;exact rfl;exact t4A;exact hmA;exact seA;omega)|(apply LO.storeOT;exact rfl;exact rfl;exact t3A;(first|exact One.lit rfl rfl|(apply One.sl;exact knA));exact seA;omega)|(apply LO.storeI;exact rfl;exact rfl;exact t3A;exact seA;(first|omega|(simp only[List.length_set,List.length_replicate];omega)))|(apply LO.storeWI;exact rfl;exact rfl;exact seA;exact t4A;(first|omega|(simp only[List.length_set,List.length_replicate];omega));(first|(simp only[List.length_map,List.length_set,List.length_replicate,ints];omega)|rfl))|(apply LO.store1;exact rfl;exact rfl;exact t3A;(first|exact One.lit rfl rfl|(apply One.sl;exact knA));exact seA;(first|(simp only[List.length_cons,List.length_nil];omega)|(simp;omega));(first|(simp only[List.set_cons_succ,List.set_cons_zero];exact rfl)|exact rfl))|(apply LO.storeO1;exact rfl;exact rfl;exact t3A;(first|exact One.lit rfl rfl|(apply One.sl;exact knA));exact seA;(first|(simp only[List.length_cons,List.length_nil];omega)|(simp;omega));(first|(simp only[List.set_cons_succ,List.set_cons_zero];exact rfl)|exact rfl))|(apply LO.storeL;exact rfl;exact rfl;exact seA;exact t4A;exact rfl;exact rfl;(repeat(first|exact OneL.nil|(apply OneL.cons;(first|exact One.lit rfl rfl|(apply One.sl;exact knA)))))));constructor;exact ltA))
 exact Bx.h h):G:=s ⟨h⟩
theorem goYL {G G':Prop} (h:G') (s:Bx G'→G:=by
 intro h
 (apply WD.fy;exact rfl;(first|(apply YO.move;exact rfl)|(apply YO.assign;exact rfl)|exact y_lss|exact y_add|exact y_len|exact y_indexAddr|exact y_load|exact y_pick|exact y_fieldAddr|exact y_eql|exact y_neq|(apply YO.nil;exact rfl)|(apply YO.extract;exact rfl;exact rfl)|exact y_gtr|exact y_geq|exact y_leq|(apply YO.sub;exact rfl;exact rfl;omega;omega)|exact y_mul|exact y_rem|exact y_quo|exact y_unot|exact y_uneg|(apply YO.max;exact rfl;exact rfl)|(apply YO.min;exact rfl;exact rfl)|exact y_makeFunc|exact y_conv|exact y_shl|(apply YO.shr';exact rfl;exact rfl;omega;omega)|exact y_and|exact y_or|(apply YO.anot;exact rfl;exact rfl)|exact y_slice);exact rfl;exact rfl)
 exact Bx.h h):G:=s ⟨h⟩
theorem goYT {G G':Prop} (h:G') (s:Bx G'→G:=by
 intro h
 (apply WD.yl;exact rfl;(first|(apply YO.move;exact rfl)|(apply YO.assign;exact rfl)|exact y_lss|exact y_add|exact y_len|exact y_indexAddr|exact y_load|exact y_pick|exact y_fieldAddr|exact y_eql|exact y_neq|(apply YO.nil;exact rfl)|(apply YO.extract;exact rfl;exact rfl)|exact y_gtr|exact y_geq|exact y_leq|(apply YO.sub;exact rfl;exact rfl;omega;omega)|exact y_mul|exact y_rem|exact y_quo|exact y_unot|exact y_uneg|(apply YO.max;exact rfl;exact rfl)|(apply YO.min;exact rfl;exact rfl)|exact y_makeFunc|exact y_conv|exact y_shl|(apply YO.shr';exact rfl;exact rfl;omega;omega)|exact y_and|exact y_or|(apply YO.anot;exact rfl;exact rfl)|exact y_slice);exact rfl;exact rfl)
 exact Bx.h h):G:=s ⟨h⟩
end H
end Go.Proofs.YtaongbhamadlkaaGreat
namespace Go.Proofs.YtaongbhamadlkaaGreat
open W Go.RowKit
theorem cmpL_drop {l m:List Int} {i:Nat} (h1:i < l.length) (h2:i < m.length):cmpL (l.drop i) (m.drop i)=if cmpI (l.getD i 0) (m.getD i 0)≠0 then cmpI (l.getD i 0) (m.getD i 0) else cmpL (l.drop (i+1)) (m.drop (i+1)):=by
 rw[List.drop_eq_getElem_cons h1,List.drop_eq_getElem_cons h2,cmpL,List.getD_eq_getElem?_getD,List.getD_eq_getElem?_getD,List.getElem?_eq_getElem h1,List.getElem?_eq_getElem h2,Option.getD_some,Option.getD_some]
 unfold cmpI
 split
 ·rfl
 ·split
  ·rfl
  ·simp
namespace H
attribute [local irreducible] WC WL WD YO LO LoopEnd W.Fin Scalar SliceT FieldAt Row ArrT AllocT KnS Has W.One SrcE IntT
set_option maxRecDepth 60000 in
theorem compare_c (u v:Value) (l m:List Int):FnB Tryz.prog 160 [u,v] [] [sI u l,sI v m] (IsV (.int .i64 (cmpL l m))):=by
 refine fn_of [(0,u),(1,v)] 36 Tryz.func160 rfl Tryz.ntmps160 (by kernel_rfl) rfl suA fun h0=>?_
 refine WC.lenI u l hmA fun hl1=>?_
 refine WC.lenI v m hmA fun hl2=>?_
 repeat'(first|refine gA ?_|(refine goG ?_;intro g)|(refine goV ?_;intro v))
 refine WC.lp (σ:=Nat) (fun s=>[(11,.int .i64 (s:Int)),(9,u),(10,.int .i64 (l.length:Int)),(0,u),(1,v)]) (fun _=>[]) (fun _=>[ge h0,sI u l,sI v m]) (fun i=>i≤l.length∧i≤m.length∧cmpL l m=cmpL (l.drop i) (m.drop i)) (fun i=>l.length - i) 0 ⟨by omega,by omega,rfl⟩ ?_
 rintro i ⟨h1,h2,h3⟩
 by_cases c1:i < l.length
 ·by_cases c2:i < m.length
  ·rw[cmpL_drop c1 c2] at h3
   repeat'(first|refine gA ?_|(refine goG ?_;intro g)|(refine goV ?_;intro v))
   first|refine WL.callV (cmpc_c (l.getD i 0) (m.getD i 0)) ?_|refine WD.callV (cmpc_c (l.getD i 0) (m.getD i 0)) ?_
   by_cases c3:cmpI (l.getD i 0) (m.getD i 0)=0
   ·rw[if_neg (by simpa using c3)] at h3
    repeat'(first|refine gA ?_|(refine goG ?_;intro g)|(refine goV ?_;intro v))
    exact LoopEnd.mk (i+1) ⟨by omega,by omega,h3⟩ (by show l.length - (i+1) < l.length - i;omega)
   ·rw[if_pos c3] at h3
    repeat'(first|refine gA ?_|(refine goG ?_;intro g)|(refine goV ?_;intro v))
    exact WC.ret (Fin.v (ResE.t1 rfl rfl) meA (by rw[h3]))
  ·obtain rfl:i=m.length:=by omega
   rw[List.drop_eq_getElem_cons c1,List.drop_length] at h3
   repeat'(first|refine gA ?_|(refine goG ?_;intro g)|(refine goV ?_;intro v))
   exact WC.ret (Fin.v (ResE.t1 rfl rfl) meA (by rw[h3];rfl))
 ·obtain rfl:i=l.length:=by omega
  rw[List.drop_length] at h3
  by_cases c2:l.length < m.length
  ·rw[List.drop_eq_getElem_cons c2] at h3
   repeat'(first|refine gA ?_|(refine goG ?_;intro g)|(refine goV ?_;intro v))
   exact WC.ret (Fin.v (ResE.t1 rfl rfl) meA (by rw[h3];rfl))
  ·rw[show l.length=m.length by omega,List.drop_length] at h3
   repeat'(first|refine gA ?_|(refine goG ?_;intro g)|(refine goV ?_;intro v))
   exact WC.ret (Fin.v (ResE.t1 rfl rfl) meA (by rw[h3];rfl))
end H
end Go.Proofs.YtaongbhamadlkaaGreat
namespace Go.Proofs.YtaongbhamadlkaaGreat
open W Go.RowKit
def mTT (D:Nat) (us:Nat→Nat→Value) (mss:Nat→Nat→Nat→QM) (n:Nat) (bs:List Bd) (ln:Nat→Nat):Fct where
 p h:=∀ v,v < n→∀ k,k < ln v→(fL D (us v k) (mss v k) (tabP n bs v k)).p h
 mono _ _ hl hp v hv k hk:=(fL _ _ _ _).mono _ _ hl (hp v hv k hk)
def tbR (tv:Nat→Value) (us:Nat→Nat→Value) (ln:Nat→Nat) (v:Nat):Ow:=Ow.slice (tv v) 131 1 (tcells (ln v) (us v))
section
variable {D:Nat} {F:List Fct} {us:Nat→Nat→Value} {mss:Nat→Nat→Nat→QM} {n:Nat} {bs:List Bd} {ln ln':Nat→Nat} {v k:Nat} {u:Value} {ml:Nat→QM}
theorem W.Has.tt (h:Has F (mTT D us mss n bs ln)) (hv:v < n) (hk:k < ln v):Has F (fL D (us v k) (mss v k) (tabP n bs v k)):=fun p hf=>h p hf v hv k hk
theorem W.Has.tt0 (h:∀ v,v < n→ln v=0):Has F (mTT D us mss n bs ln):=fun p _ v hv k hk=>by rw[h v hv] at hk;omega
theorem W.Has.ttC (h:Has F (mTT D us mss n bs ln)) (he:∀ v,v < n→ln' v≤ln v):Has F (mTT D us mss n bs ln'):=fun p hf v hv k hk=>h p hf v hv k (by have:=he v hv;omega)
theorem W.Has.ttS (h:Has F (mTT D us mss n bs ln)) (hk:ln v=k) (hu:Has F (fL D u ml (tabP n bs v k))):Has F (mTT D (upd us v (upd (us v) k u)) (upd mss v (upd (mss v) k ml)) n bs (upd ln v (k+1))):=fun p hf w hw k' hk'=>by
 by_cases c:w=v
 ·subst c
  rw[upd_at] at hk'
  rw[upd_at,upd_at]
  by_cases c2:k'=k
  ·subst c2;rw[upd_at,upd_at];exact hu p hf
  ·rw[upd_ne c2,upd_ne c2];exact h p hf w hw k' (by omega)
 ·rw[upd_ne c] at hk'
  rw[upd_ne c,upd_ne c];exact h p hf w hw k' hk'
theorem W.Has.ttT (h:Has F (mTT D us mss n bs ln)) (hv:v < n) (hk:ln v=k):Has F (mTB D (us v) (mss v) (tabL n bs v k)):=fun p hf i hi=>by
 rw[tabL_len] at hi
 rw[tabL_get hi];exact h p hf v hv i (by omega)
end
theorem tabL_ok {n:Nat} {bs:List Bd} (hf:Fit bs) {v k:Nat} (hk:k≤33):TabOK n (tabL n bs v k):=by
 unfold Fit at hf
 refine⟨fun r hr=>?_,fun r=>?_⟩
 ·rw[tabL_len] at hr;rw[tabL_get hr];exact tabP_len _ _ _ _
 ·by_cases hr:r < k
  ·rw[tabL_get hr]
   exact(tabP_wth n bs v r).mono (Nat.le_trans (Nat.mul_le_mul (show r≤32 by omega) hf) (by decide))
  ·intro i
   simp[tabL,List.getD_eq_getElem?_getD,hr]
def lnS (v a b:Nat):Nat→Nat:=fun x=>if x < v then a else b
theorem lnS_at {v a b:Nat}:lnS v a b v=b:=by simp[lnS]
theorem lnS_lt {v a b x:Nat} (h:x < v):lnS v a b x=a:=by simp[lnS,h]
theorem lnS_upd {v k:Nat}:upd (lnS v (k+1) k) v (k+1)=lnS (v+1) (k+1) k:=by
 funext x
 unfold upd lnS
 by_cases c:x=v
 ·subst c;simp
 ·rw[if_neg c]
  by_cases c2:x < v
  ·rw[if_pos c2,if_pos (by omega)]
  ·rw[if_neg c2,if_neg (by omega)]
theorem tbR_upd {tv:Nat→Value} {us:Nat→Nat→Value} {ln:Nat→Nat} {v x:Nat} {tw:Value} {g:Nat→Value} {m:Nat} (h:x≠v):tbR (upd tv v tw) (upd us v g) (upd ln v m) x=tbR tv us ln x:=by
 unfold tbR;rw[upd_ne h,upd_ne h,upd_ne h]
def ttF:Fct:=⟨fun _=>True,fun _ _ _ _=>trivial⟩
theorem has_tt {F:List Fct}:Has F ttF:=fun _ _=>trivial
theorem lss0_sgn (k:Int):lss0 k=decide (sgn k < 0):=by
 unfold lss0 sgn
 by_cases h:k < 0
 ·simp[h]
 ·by_cases h2:k=0 <;> simp[h,h2]
theorem HasB.fT {D:Nat} {bx:List Ow} {F:List Fct} {v:Value} {el k:Nat} {us:Nat→Value} {ms:Nat→Nat→QM} {Tb:List (List (Option Int))} (h:Ow.slice v el 1 (tcells k us)∈bx) (hk:Tb.length=k) (hm:Has F (mTB D us ms Tb)):HasB bx F (fT D v us ms Tb):=fun fr w ho=>
 ⟨by rw[hk];exact HasB.oT h fr w ho,HasB.f hm fr w ho⟩
theorem cmany_t {n:Nat} {bs:List Bd} {k:Nat} (hk:k < n) (h:anyNeg n bs (k+1)=true):cmany n bs (n - k) k=k+1:=by
 rw[show n - k=n - (k+1)+1 by omega,cmany,if_pos h]
theorem cmany_f {n:Nat} {bs:List Bd} {k:Nat} (hk:k < n) (h:anyNeg n bs (k+1)=false):cmany n bs (n - k) k=cmany n bs (n - (k+1)) (k+1):=by
 rw[show n - k=n - (k+1)+1 by omega,cmany,if_neg (by simp[h])]
namespace H
open G
attribute [local irreducible] WC WL WD YO LO LoopEnd W.Fin Scalar SliceT FieldAt Row ArrT AllocT KnS Has W.One SrcE IntT
theorem d102 {G G':Prop} (h:G') (s:Bx G'→G:=by
 intro h
 first|(apply WC.draw (id:=13) [2,3,4,5,6,7,8] (.free 0 (.free 1 (.held 2 (.held 3 (.held 4 (.held 5 (.held 6 (.held 7 (.held 8 (.loud 9 (.loud 10 (.loud 11 (.loud 12 (.loud 13 (.done))))))))))))))) mixed (by kernel_rfl))|fail
 exact Bx.h h):G:=s ⟨h⟩
set_option maxRecDepth 60000 in
theorem cycle1_c (D:Nat) [Den D] (m:QM) (k:Int):FnB Tryz.prog 159 ([qv m]++[]) [] [isQ (qv m) (wq D k),ttF] (IsV (.bool (lss0 k))):=by
 refine fn_of [(0,(qv m))] 6 Tryz.func159 rfl Tryz.ntmps159 (by kernel_rfl) rfl suA fun h0=>?_
 repeat'(first|refine gA ?_|(refine goG ?_;intro g)|(refine goV ?_;intro v))
 first|refine WL.callV (signw_c D m k) ?_|refine WD.callV (signw_c D m k) ?_
 rw[lss0_sgn]
 by_cases h:sgn k < 0
 ·repeat'(first|refine gA ?_|(refine goG ?_;intro g)|(refine goV ?_;intro v))
  exact WC.ret (Fin.v (ResE.t1 rfl rfl) meA (by rw[decide_eq_true h]))
 ·repeat'(first|refine gA ?_|(refine goG ?_;intro g)|(refine goV ?_;intro v))
  exact WC.ret (Fin.v (ResE.t1 rfl rfl) meA (by rw[decide_eq_false h]))
set_option maxRecDepth 60000 in
theorem cycle_c (D:Nat) [Den D] (vb:Value) (ms:Nat→QM) (bs:List Bd) (n:Nat) (hv:Vld n bs) (hf:Fit bs):FnB Tryz.prog 102 [.agg #[.int .i64 n,vb]] [] [fB D vb ms bs] (IsO 3 1 (ints (cycP n bs))):=by
 refine fn_of [(0,(.agg #[.int .i64 n,vb]))] 109 Tryz.func102 rfl Tryz.ntmps102 (by kernel_rfl) rfl suA fun h0=>?_
 have hvl:=hv.l
 have hn1:=hv.n1
 have hn2:=hv.n2
 repeat'(first|refine gB ?_|(refine gH ?_;intro g)|(refine gW ?_;intro v)|refine goYL ?_|refine goYT ?_|refine d102 ?_|fail)
 refine WC.scope ?_
 repeat'(first|refine gB ?_|(refine gH ?_;intro g)|(refine gW ?_;intro v)|refine goYL ?_|refine goYT ?_|refine d102 ?_|fail)
 refine WC.addNils (tbR (fun _=>.slice none 0 0) (fun _ _=>.bool false) (lnS 0 1 0)) 131 1 n (fun _=>rfl) ?_
 refine WC.permB (bx':=Ow.slice v 129 1 (tcells n (fun _=>.slice none 0 0))::Ow.cells g 123 [.int .i64 n,vb]::tbO (tbR (fun _=>.slice none 0 0) (fun _ _=>.bool false) (lnS 0 1 0)) n) (r:=[]) (by rw[List.append_nil];exact List.perm_append_comm) ?_
 revert g;intro g1;revert v;intro tt
 refine WC.lpP (σ:=Nat×(Nat→Value)×(Nat→Nat→Value)×(Nat→Nat→Nat→QM)) (fun s=>[(20,.int .i64 (s.1:Int)),(19,.int .i64 (n:Int)),(3,tt),(1,ptr g1)])
  (fun s=>Ow.slice tt 129 1 (tcells n s.2.1)::Ow.cells g1 123 [.int .i64 n,vb]::tbO (tbR s.2.1 s.2.2.1 (lnS s.1 1 0)) n)
  (fun s=>[mTT D s.2.2.1 s.2.2.2 n bs (lnS s.1 1 0),ge h0,fB D vb ms bs]) (fun s=>s.1≤n) (fun s=>n - s.1) (0,fun _=>.slice none 0 0,fun _ _=>.bool false,fun _ _ _=>m00) (Nat.zero_le _) ?_ suA (List.Sublist.refl _) (.cons (W.Has.tt0 fun v _=>rfl) sfA)
 ·rintro⟨v,tv,us,mss⟩ hvn
  simp only at hvn ⊢
  by_cases c:v < n
  ·repeat'(first|refine gB ?_|(refine gH ?_;intro g)|(refine gW ?_;intro v)|refine goYL ?_|refine goYT ?_|refine d102 ?_|fail)
   first|refine WL.callK (ends_c D vb n v (by omega) c) ?_|refine WD.callK (ends_c D vb n v (by omega) c) ?_|refine LO.callM (ends_c D vb n v (by omega) c) ?_
   rintro tw _ _ ⟨u,ml,rfl,rfl⟩
   simp only[List.nil_append,List.cons_append]
   repeat'(first|refine gB ?_|(refine gH ?_;intro g)|(refine gW ?_;intro v)|refine goYL ?_|refine goYT ?_|refine d102 ?_|fail)
   have hfv:tbR (upd tv v tw) (upd us v (upd (us v) 0 u)) (lnS (v+1) 1 0) v=Ow.slice tw 131 1 [u]:=by
    unfold tbR;rw[upd_at,upd_at,lnS_lt (by omega)];simp[tcells,upd_at]
   have hfx:∀ x,x≠v→tbR (upd tv v tw) (upd us v (upd (us v) 0 u)) (lnS (v+1) 1 0) x=tbR tv us (lnS v 1 0) x:=fun x hx=>by
    rw[←lnS_upd];exact tbR_upd hx
   refine LoopEndP.mk (v+1,upd tv v tw,upd us v (upd (us v) 0 u),upd mss v (upd (mss v) 0 ml)) (by show v+1≤n;omega) (by show n - (v+1) < n - v;omega) [tbR tv us (lnS v 1 0) v] ?_ suA (.cons ?_ sfA)
   ·rw[←hfv];exact perm_in2 (tb_swap c hfx)
   ·show Has _ (mTT D _ _ n bs (lnS (v+1) 1 0))
    rw[←lnS_upd];exact W.Has.ttS (ln:=lnS v 1 0) hmA lnS_at hmA
  ·obtain rfl:n=v:=by omega
   generalize hB:Code.block 2 _=B2
   repeat'(first|refine gB ?_|(refine gH ?_;intro g)|(refine gW ?_;intro v)|refine goYL ?_|refine goYT ?_|refine d102 ?_|fail)
   rw[←hB];clear hB B2
   rw[tbO_congr (g:=tbR tv us (fun _=>0+1)) (fun x hx=>by unfold tbR;rw[lnS_lt hx])]
   refine WC.fact (mTT D us mss n bs (fun _=>0+1)) (W.Has.ttC (ln:=lnS n 1 0) hmA (fun x hx=>by rw[lnS_lt hx];exact Nat.le_refl _)) ?_
   refine WC.cutQ (σ:=Nat×(Nat→Value)×(Nat→Nat→Value)×(Nat→Nat→Nat→QM)) (fun s=>[(5,.int .i64 (s.1:Int)),(3,tt),(1,ptr g1)])
    (fun s=>Ow.slice tt 129 1 (tcells n s.2.1)::Ow.cells g1 123 [.int .i64 n,vb]::tbO (tbR s.2.1 s.2.2.1 (fun _=>s.1+1)) n)
    (fun s=>[mTT D s.2.2.1 s.2.2.2 n bs (fun _=>s.1+1),ge h0,fB D vb ms bs]) (fun s=>s.1≤n∧s.1=cmany n bs n 0) ?_ ?_
   ·repeat'(first|refine gB ?_|(refine gH ?_;intro g)|(refine gW ?_;intro v)|refine goYL ?_|refine goYT ?_|refine d102 ?_|fail)
    refine WC.lpP (σ:=Nat×(Nat→Value)×(Nat→Nat→Value)×(Nat→Nat→Nat→QM)) (fun s=>[(5,.int .i64 (s.1:Int)),(3,tt),(1,ptr g1)])
     (fun s=>Ow.slice tt 129 1 (tcells n s.2.1)::Ow.cells g1 123 [.int .i64 n,vb]::tbO (tbR s.2.1 s.2.2.1 (fun _=>s.1+1)) n)
     (fun s=>[mTT D s.2.2.1 s.2.2.2 n bs (fun _=>s.1+1),ge h0,fB D vb ms bs]) (fun s=>s.1≤n∧cmany n bs (n - s.1) s.1=cmany n bs n 0) (fun s=>n - s.1) (0,tv,us,mss) ⟨Nat.zero_le _,rfl⟩ ?_ suA (List.Sublist.refl _) sfA
    clear hvn c tv us mss
    rintro⟨k,tv,us,mss⟩ ⟨hk,hcm⟩
    simp only at hk hcm ⊢
    by_cases ck:k < n
    ·repeat'(first|refine gB ?_|(refine gH ?_;intro g)|(refine gW ?_;intro v)|refine goYL ?_|refine goYT ?_|refine d102 ?_|fail)
     rw[tbO_congr (g:=tbR tv us (lnS 0 (k+2) (k+1))) (fun x hx=>by unfold tbR;simp[lnS])]
     refine WC.fact (mTT D us mss n bs (lnS 0 (k+2) (k+1))) (W.Has.ttC (ln:=fun _=>k+1) hmA (fun x hx=>by simp[lnS])) ?_
     refine WC.lpP (σ:=Nat×(Nat→Value)×(Nat→Nat→Value)×(Nat→Nat→Nat→QM)) (fun s=>[(38,.int .i64 (s.1:Int)),(37,.int .i64 (n:Int)),(36,tt),(5,.int .i64 ((k:Int)+1)),(3,tt),(1,ptr g1)])
         (fun s=>Ow.slice tt 129 1 (tcells n s.2.1)::Ow.cells g1 123 [.int .i64 n,vb]::tbO (tbR s.2.1 s.2.2.1 (lnS s.1 (k+2) (k+1))) n)
         (fun s=>[mTT D s.2.2.1 s.2.2.2 n bs (lnS s.1 (k+2) (k+1)),ge h0,fB D vb ms bs]) (fun s=>s.1≤n) (fun s=>n - s.1) (0,tv,us,mss) (Nat.zero_le _) ?_ suA (List.Sublist.refl _) sfA
     rintro⟨i,tv,us,mss⟩ hvn
     simp only at hvn ⊢
     by_cases c:i < n
     ·have hkS:=tabP_wth n bs i k
      have hkS2:k*absS bs≤32*14000000:=Nat.mul_le_mul (by omega) hf
      refine WC.permB (bx':=Ow.slice tt 129 1 (tcells n tv)::Ow.cells g1 123 [.int .i64 n,vb]::Ow.slice (tv i) 131 1 (tcells (k+1) (us i))::tbX (tbR tv us (lnS i (k+2) (k+1))) n i) (r:=[]) (by
       rw[List.append_nil,show Ow.slice (tv i) 131 1 (tcells (k+1) (us i))=tbR tv us (lnS i (k+2) (k+1)) i from by unfold tbR;rw[lnS_at]]
       exact((tbO_perm c).cons _).cons _) ?_
      refine WC.fact (fL D (us i k) (mss i k) (tabP n bs i k)) (W.Has.tt (ln:=lnS i (k+2) (k+1)) hmA c (by rw[lnS_at];omega)) ?_
      repeat'(first|refine gB ?_|(refine gH ?_;intro g)|(refine gW ?_;intro v)|refine goYL ?_|refine goYT ?_|refine d102 ?_|fail)
      rw[show((k:Int)+1 - 1).toNat=k by omega]
      first|refine WL.callK (longer_c D vb (us i k) ms (mss i k) bs n (tabP n bs i k) hv hf (tabP_len n bs i k) (k*absS bs) (by omega) hkS) ?_|refine WD.callK (longer_c D vb (us i k) ms (mss i k) bs n (tabP n bs i k) hv hf (tabP_len n bs i k) (k*absS bs) (by omega) hkS) ?_|refine LO.callM (longer_c D vb (us i k) ms (mss i k) bs n (tabP n bs i k) hv hf (tabP_len n bs i k) (k*absS bs) (by omega) hkS) ?_
      rintro u' _ _ ⟨ml,rfl,rfl⟩
      simp only[List.nil_append,List.cons_append]
      repeat'(first|refine gB ?_|(refine gH ?_;intro g)|(refine gW ?_;intro v)|refine goYL ?_|refine goYT ?_|refine d102 ?_|fail)
      revert v;intro v2;revert v;intro v1
      have hfv:tbR (upd tv i v2) (upd us i (upd (us i) (k+1) u')) (lnS (i+1) (k+2) (k+1)) i=Ow.slice v2 131 1 (tcells (k+1+1) (upd (us i) (k+1) u')):=by
       unfold tbR;rw[upd_at,upd_at,lnS_lt (by omega)]
      have hfx:∀ x,x≠i→tbR (upd tv i v2) (upd us i (upd (us i) (k+1) u')) (lnS (i+1) (k+2) (k+1)) x=tbR tv us (lnS i (k+2) (k+1)) x:=fun x hx=>by
       rw[←lnS_upd];exact tbR_upd hx
      refine LoopEndP.mk (i+1,upd tv i v2,upd us i (upd (us i) (k+1) u'),upd mss i (upd (mss i) (k+1) ml)) (by show i+1≤n;omega) (by show n - (i+1) < n - i;omega) [Ow.slice v1 131 1 [u']] ?_ suA (.cons ?_ sfA)
      ·refine List.Perm.trans ?_ (List.perm_append_singleton _ _).symm
       rw[←hfv]
       exact(((tb_back c hfx).cons _).cons _).cons _
      ·show Has _ (mTT D _ _ n bs (lnS (i+1) (k+2) (k+1)))
       rw[←lnS_upd];exact W.Has.ttS (ln:=lnS i (k+2) (k+1)) hmA lnS_at hmA
     ·obtain rfl:n=i:=by omega
      rw[tbO_congr (g:=tbR tv us (fun _=>k+1+1)) (fun x hx=>by unfold tbR;rw[lnS_lt hx])]
      refine WC.fact (mTT D us mss n bs (fun _=>k+1+1)) (W.Has.ttC (ln:=lnS n (k+2) (k+1)) hmA (fun x hx=>by rw[lnS_lt hx];exact Nat.le_refl _)) ?_
      repeat'(first|refine gB ?_|(refine gH ?_;intro g)|(refine gW ?_;intro v)|refine goYL ?_|refine goYT ?_|refine d102 ?_|fail)
      refine WC.lpP (σ:=Nat) (fun s=>[(59,.int .i64 (s:Int)),(58,.int .i64 (n:Int)),(57,tt),(5,.int .i64 ((k:Int)+1)),(3,tt),(1,ptr g1)])
       (fun s=>Ow.slice tt 129 1 (tcells n tv)::Ow.cells g1 123 [.int .i64 n,vb]::tbO (tbR tv us (fun _=>k+1+1)) n)
       (fun s=>[mTT D us mss n bs (fun _=>k+1+1),ge h0,fB D vb ms bs]) (fun s=>s≤n∧∀ x,x < s→negAt n bs (k+1) x=false) (fun s=>n - s) 0 ⟨Nat.zero_le _,fun x hx=>by omega⟩ ?_ suA (List.Sublist.refl _) sfA
      clear hvn c
      rintro v ⟨hvn,hneg⟩
      by_cases c:v < n
      ·refine WC.permB (bx':=Ow.slice tt 129 1 (tcells n tv)::Ow.cells g1 123 [.int .i64 n,vb]::Ow.slice (tv v) 131 1 (tcells (k+1+1) (us v))::tbX (tbR tv us (fun _=>k+1+1)) n v) (r:=[]) (by
        rw[List.append_nil]
        exact((tbO_perm (f:=tbR tv us (fun _=>k+1+1)) c).cons _).cons _) ?_
       refine WC.fact (fL D (us v (k+1)) (mss v (k+1)) (tabP n bs v (k+1))) (W.Has.tt (ln:=fun _=>k+1+1) hmA c (by omega)) ?_
       have htl:=tabP_len n bs v (k+1)
       refine WC.fact (isQ (qv (mss v (k+1) v)) (wq D (((tabP n bs v (k+1)).getD v none).getD 0))) (W.Has.lq (ms:=mss v (k+1)) (W.Has.lm (v:=us v (k+1)) hmA) (by omega)) ?_
       repeat'(first|refine gA ?_|(refine goG ?_;intro g)|(refine goV ?_;intro v))
       have back:(Ow.slice tt 129 1 (tcells n tv)::Ow.cells g1 123 [.int .i64 n,vb]::Ow.slice (tv v) 131 1 (tcells (k+1+1) (us v))::tbX (tbR tv us (fun _=>k+1+1)) n v).Perm (Ow.slice tt 129 1 (tcells n tv)::Ow.cells g1 123 [.int .i64 n,vb]::tbO (tbR tv us (fun _=>k+1+1)) n):=((tbO_perm (f:=tbR tv us (fun _=>k+1+1)) c).symm.cons _).cons _
       cases he:(tabP n bs v (k+1)).getD v none with
       |none=>
        rw[show(none:Option Int).isSome=false from rfl]
        have hn0:negAt n bs (k+1) v=false:=by unfold negAt ol;rw[he]
        repeat'(first|refine gB ?_|(refine gH ?_;intro g)|(refine gW ?_;intro v)|refine goYL ?_|refine goYT ?_|refine d102 ?_|fail)
        exact LoopEndP.mk (v+1) ⟨by omega,fun x hx=>if h:x=v then by rw[h];exact hn0 else hneg x (by omega)⟩ (by show n - (v+1) < n - v;omega) [_] ((back.cons _).trans (List.perm_append_singleton _ _).symm) suA sfA
       |some d=>
        rw[show(some d:Option Int).isSome=true from rfl]
        simp only[Option.getD_some]
        repeat'(first|refine gB ?_|(refine gH ?_;intro g)|(refine gW ?_;intro v)|refine goYL ?_|refine goYT ?_|refine d102 ?_|fail)
        first|refine WL.callV (signw_c D (mss v (k+1) v) d) ?_|refine WD.callV (signw_c D (mss v (k+1) v) d) ?_
        by_cases hd:sgn d < 0
        ·have hn0:negAt n bs (k+1) v=true:=by unfold negAt ol;rw[he];show lss0 d=true;rw[lss0_sgn,decide_eq_true hd]
         have hany:anyNeg n bs (k+1)=true:=List.any_eq_true.2 ⟨v,List.mem_range.2 c,hn0⟩
         rw[cmany_t ck hany] at hcm
         repeat'(first|refine gB ?_|(refine gH ?_;intro g)|(refine gW ?_;intro v)|refine goYL ?_|refine goYT ?_|refine d102 ?_|fail)
         exact⟨(k+1,tv,us,mss),⟨by show k+1≤n;omega,hcm⟩,suA,⟨[_],(back.cons _).trans (List.perm_append_singleton _ _).symm⟩,sfA⟩
        ·have hn0:negAt n bs (k+1) v=false:=by unfold negAt ol;rw[he];show lss0 d=false;rw[lss0_sgn,decide_eq_false hd]
         repeat'(first|refine gB ?_|(refine gH ?_;intro g)|(refine gW ?_;intro v)|refine goYL ?_|refine goYT ?_|refine d102 ?_|fail)
         exact LoopEndP.mk (v+1) ⟨by omega,fun x hx=>if h:x=v then by rw[h];exact hn0 else hneg x (by omega)⟩ (by show n - (v+1) < n - v;omega) [_] ((back.cons _).trans (List.perm_append_singleton _ _).symm) suA sfA
      ·obtain rfl:n=v:=by omega
       have hany:anyNeg n bs (k+1)=false:=by
        unfold anyNeg
        rw[List.any_eq_false]
        intro x hx
        rw[hneg x (List.mem_range.1 hx)];simp
       rw[cmany_f ck hany] at hcm
       repeat'(first|refine gB ?_|(refine gH ?_;intro g)|(refine gW ?_;intro v)|refine goYL ?_|refine goYT ?_|refine d102 ?_|fail)
       exact LoopEndP.mk (k+1,tv,us,mss) ⟨by show k+1≤n;omega,hcm⟩ (by show n - (k+1) < n - k;omega) [] (by rw[List.append_nil]) suA sfA
    ·obtain rfl:n=k:=by omega
     rw[Nat.sub_self,cmany] at hcm
     repeat'(first|refine gB ?_|(refine gH ?_;intro g)|(refine gW ?_;intro v)|refine goYL ?_|refine goYT ?_|refine d102 ?_|fail)
     exact⟨(n,tv,us,mss),⟨Nat.le_refl _,hcm⟩,suA,⟨[],by rw[List.append_nil]⟩,sfA⟩
   ·clear hvn c tv us mss
    rintro⟨many,tv,us,mss⟩ ⟨hk,hcm⟩
    simp only at hk hcm ⊢
    refine WC.addNil 3 1 ?_
    repeat'(first|refine gB ?_|(refine gH ?_;intro g)|(refine gW ?_;intro v)|refine goYL ?_|refine goYT ?_|refine d102 ?_|fail)
    refine WC.lpP (σ:=Nat×Value×List Int) (fun s=>[(82,.int .i64 (s.1:Int)),(81,.int .i64 (n:Int)),(80,tt),(11,s.2.1),(5,.int .i64 (many:Int)),(3,tt),(1,ptr g1)])
     (fun s=>Ow.slice s.2.1 3 1 (ints s.2.2)::Ow.slice tt 129 1 (tcells n tv)::Ow.cells g1 123 [.int .i64 n,vb]::tbO (tbR tv us (fun _=>many+1)) n)
     (fun s=>[mTT D us mss n bs (fun _=>many+1),ge h0,fB D vb ms bs]) (fun s=>s.1≤n∧s.2.2=(List.range s.1).foldl (cycS (cycV n bs many)) []) (fun s=>n - s.1) (0,.slice none 0 0,[]) ⟨Nat.zero_le _,rfl⟩ ?_ suA (List.Sublist.refl _) sfA
    rintro⟨v,uo,out⟩ ⟨hvn,hout⟩
    simp only at hvn hout ⊢
    by_cases c:v < n
    ·have hstep:(List.range (v+1)).foldl (cycS (cycV n bs many)) []=if 0 < (cycV n bs many v).length∧(out.length=0∨cmpL (cycV n bs many v) out < 0) then cycV n bs many v else out:=by rw[List.range_succ,List.foldl_append,←hout];rfl
     repeat'(first|refine gB ?_|(refine gH ?_;intro g)|(refine gW ?_;intro v)|refine goYL ?_|refine goYT ?_|refine d102 ?_|fail)
     refine WL.callO (hF:=.cons (.f hmA) (.cons (HasB.fT (k:=many+1) (el:=131) (.tail _ (.tail _ (.tail _ (tbO_mem (f:=tbR tv us (fun _=>many+1)) c)))) (tabL_len n bs v (many+1)) (W.Has.ttT (ln:=fun _=>many+1) hmA c rfl)) (.cons (.f has_tt) .nil)))
         (first_c D vb (tv v) ms (us v) (mss v) bs (tabL n bs v (many+1)) n hv hf (tabL_ok hf (by omega)) v many (by rw[tabL_len];omega) (by omega) 159 [] ttF lss0 (fun m k=>cycle1_c D m k)) (fun rv=>?_)
     rw[show fstP bs (tabL n bs v (many+1)) lss0 many v 0 []=cycV n bs many v from rfl]
     generalize cycV n bs many v=cv at *
     by_cases c1:0 < cv.length
     ·by_cases c2:out.length=0
      ·rw[if_pos ⟨c1,.inl c2⟩] at hstep
       repeat'(first|refine gB ?_|(refine gH ?_;intro g)|(refine gW ?_;intro v)|refine goYL ?_|refine goYT ?_|refine d102 ?_|fail)
       exact LoopEndP.mk (v+1,rv,cv) ⟨by show v+1≤n;omega,hstep.symm⟩ (by show n - (v+1) < n - v;omega) [Ow.slice uo 3 1 (ints out)] (((List.perm_append_singleton _ _).symm).cons _) suA sfA
      ·repeat'(first|refine gB ?_|(refine gH ?_;intro g)|(refine gW ?_;intro v)|refine goYL ?_|refine goYT ?_|refine d102 ?_|fail)
       first|refine WL.callV (compare_c rv uo cv out) ?_|refine WD.callV (compare_c rv uo cv out) ?_
       by_cases c3:cmpL cv out < 0
       ·rw[if_pos ⟨c1,.inr c3⟩] at hstep
        repeat'(first|refine gB ?_|(refine gH ?_;intro g)|(refine gW ?_;intro v)|refine goYL ?_|refine goYT ?_|refine d102 ?_|fail)
        exact LoopEndP.mk (v+1,rv,cv) ⟨by show v+1≤n;omega,hstep.symm⟩ (by show n - (v+1) < n - v;omega) [Ow.slice uo 3 1 (ints out)] (((List.perm_append_singleton _ _).symm).cons _) suA sfA
       ·rw[if_neg (fun h=>h.2.elim c2 c3)] at hstep
        repeat'(first|refine gB ?_|(refine gH ?_;intro g)|(refine gW ?_;intro v)|refine goYL ?_|refine goYT ?_|refine d102 ?_|fail)
        exact LoopEndP.mk (v+1,uo,out) ⟨by show v+1≤n;omega,hstep.symm⟩ (by show n - (v+1) < n - v;omega) [Ow.slice rv 3 1 (ints cv)] ((List.perm_append_singleton _ _).symm) suA sfA
     ·rw[if_neg (fun h=>c1 h.1)] at hstep
      repeat'(first|refine gB ?_|(refine gH ?_;intro g)|(refine gW ?_;intro v)|refine goYL ?_|refine goYT ?_|refine d102 ?_|fail)
      exact LoopEndP.mk (v+1,uo,out) ⟨by show v+1≤n;omega,hstep.symm⟩ (by show n - (v+1) < n - v;omega) [Ow.slice rv 3 1 (ints cv)] ((List.perm_append_singleton _ _).symm) suA sfA
    ·obtain rfl:n=v:=by omega
     repeat'(first|refine gB ?_|(refine gH ?_;intro g)|(refine gW ?_;intro v)|refine goYL ?_|refine goYT ?_|refine d102 ?_|fail)
     exact WC.ret (Fin.o (ResE.t1 rfl rfl) meA meA (by rw[hout,hcm];rfl))
end H
end Go.Proofs.YtaongbhamadlkaaGreat
namespace Go.Proofs.YtaongbhamadlkaaGreat
open W Go.RowKit
def bfr (l:List Int) (i:Nat):Int:=l.getD ((((i+l.length:Nat):Int) - 1) % (l.length:Int)).toNat 0
def Cyc (bs:List Bd) (l:List Int):Prop:=∀ i,i < l.length→(0≤l.getD i 0∧l.getD i 0 < bs.length)∧(0≤bfr l i∧bfr l i < bs.length)∧(bg bs (bfr l i).toNat).to=(bg bs (l.getD i 0).toNat).fr
instance (bs:List Bd) (l:List Int):Decidable (Cyc bs l):=by unfold Cyc;infer_instance
def negP (bs:List Bd) (l:List Int):Bool:=decide (Cyc bs l∧lenP bs l < 0)
def vioB (bs:List Bd) (x:List Int) (i:Nat):Bool:=decide (0 < cmpI (vl x (bg bs i).to.toNat - vl x (bg bs i).fr.toNat) (bg bs i).w)
theorem cmpI_pos {a b:Int}:0 < cmpI a b↔b < a:=by
 unfold cmpI;split
 ·omega
 ·split <;> omega
theorem vio_sol {bs:List Bd} {x:List Int}:Sol bs x↔¬0≤fidx (vioB bs x) bs.length 0:=by
 rw[fidx_has]
 unfold vioB
 constructor
 ·rintro h ⟨j,_,h2,h3⟩
  have:=h j (by omega)
  rw[decide_eq_true_eq,cmpI_pos] at h3
  unfold vl at h3;omega
 ·intro h j hj
  refine Classical.byContradiction fun hc=>h ⟨j,Nat.zero_le _,by omega,?_⟩
  rw[decide_eq_true_eq,cmpI_pos]
  unfold vl;omega
namespace H
open G
attribute [local irreducible] WC WL WD YO LO LoopEnd W.Fin Scalar SliceT FieldAt Row ArrT AllocT KnS Has W.One SrcE IntT
theorem d170 {G G':Prop} (h:G') (s:Bx G'→G:=by
 intro h
 first|(apply WC.draw (id:=8) [0,1,2,3,4,5,6,7,8,9,10,11,12,13,14,15,16,17,18,19,20,21,22,23] (.held 0 (.held 1 (.held 2 (.held 3 (.held 4 (.held 5 (.held 6 (.held 7 (.held 8 (.held 9 (.held 10 (.held 11 (.held 12 (.held 13 (.held 14 (.held 15 (.held 16 (.held 17 (.held 18 (.held 19 (.held 20 (.held 21 (.held 22 (.held 23 (.done))))))))))))))))))))))))) mixed (by kernel_rfl))|(apply WC.draw (id:=10) [0,1,2,3,4,5,6] (.held 0 (.held 1 (.held 2 (.held 3 (.held 4 (.held 5 (.held 6 (.loud 7 (.loud 8 (.done)))))))))) mixed (by kernel_rfl))|fail
 exact Bx.h h):G:=s ⟨h⟩
theorem d201 {G G':Prop} (h:G') (s:Bx G'→G:=by
 intro h
 first|(apply WC.draw (id:=1) [0,1,2,3,4,5,6,7,8,9,11,12,14,15] (.held 0 (.held 1 (.held 2 (.held 3 (.held 4 (.held 5 (.held 6 (.held 7 (.held 8 (.held 9 (.held 11 (.held 12 (.loud 10 (.loud 13 (.held 14 (.held 15 (.done))))))))))))))))) mixed (by kernel_rfl))|fail
 exact Bx.h h):G:=s ⟨h⟩
set_option maxRecDepth 60000 in
theorem solves1_c (D:Nat) [Den D] (v:Value) (mx:Nat→QM) (x:List Int) (n:Nat) (g:Nat) (bs:List Bd) (m:QM) (i:Nat) (hb:(bg bs i).ok n) (hl:x.length=n) (hx:FitX x) (hw:(bg bs i).w.natAbs≤14000000) (hxs:(vl x (bg bs i).to.toNat - vl x (bg bs i).fr.toNat).natAbs≤500000000) :
  FnB Tryz.prog 201 ([bv (bg bs i) m]++[ptr g]) [] [isQ (qv m) (wq D (bg bs i).w),andF (ce g 24 [v]) (fR D v mx x)] (IsV (.bool (vioB bs x i))):=by
 refine fn_of [(0,(bv (bg bs i) m)),(1,(ptr g))] 19 Tryz.func201 rfl Tryz.ntmps201 (by kernel_rfl) rfl suA fun h0=>?_
 refine WC.andF (f:=ce g 24 [v]) hmA ?_
 obtain⟨⟨a1,a2⟩,a3,a4⟩:=hb
 have x1:=hx (bg bs i).fr.toNat
 have x2:=hx (bg bs i).to.toNat
 refine WC.fact (isQ (qv (mx (bg bs i).fr.toNat)) (wq D (x.getD (bg bs i).fr.toNat 0))) (W.Has.qB (W.Has.rm (v:=v) hmA) (by omega)) ?_
 refine WC.fact (isQ (qv (mx (bg bs i).to.toNat)) (wq D (x.getD (bg bs i).to.toNat 0))) (W.Has.qB (W.Has.rm (v:=v) hmA) (by omega)) ?_
 unfold vioB
 repeat'(first|refine gB ?_|(refine gH ?_;intro g)|(refine gW ?_;intro v)|refine d201 ?_|fail)
 first|refine WL.callK (subw_c D (mx (bg bs i).to.toNat) (mx (bg bs i).fr.toNat) (x.getD (bg bs i).to.toNat 0) (x.getD (bg bs i).fr.toNat 0) (by unfold Lim;omega) (by unfold Lim;omega)) ?_|refine WD.callK (subw_c D (mx (bg bs i).to.toNat) (mx (bg bs i).fr.toNat) (x.getD (bg bs i).to.toNat 0) (x.getD (bg bs i).fr.toNat 0) (by unfold Lim;omega) (by unfold Lim;omega)) ?_|refine LO.callM (subw_c D (mx (bg bs i).to.toNat) (mx (bg bs i).fr.toNat) (x.getD (bg bs i).to.toNat 0) (x.getD (bg bs i).fr.toNat 0) (by unfold Lim;omega) (by unfold Lim;omega)) ?_
 rintro _ _ _ ⟨m2,rfl,rfl,rfl⟩
 simp only[List.nil_append,List.cons_append]
 repeat'(first|refine gB ?_|(refine gH ?_;intro g)|(refine gW ?_;intro v)|refine d201 ?_|fail)
 first|refine WL.callV (cmpw_c D m2 m (x.getD (bg bs i).to.toNat 0 - x.getD (bg bs i).fr.toNat 0) (bg bs i).w (by unfold Lim;exact hxs) (by unfold Lim;omega)) ?_|refine WD.callV (cmpw_c D m2 m (x.getD (bg bs i).to.toNat 0 - x.getD (bg bs i).fr.toNat 0) (bg bs i).w (by unfold Lim;exact hxs) (by unfold Lim;omega)) ?_
 by_cases c:0 < cmpI (x.getD (bg bs i).to.toNat 0 - x.getD (bg bs i).fr.toNat 0) (bg bs i).w
 ·repeat'(first|refine gB ?_|(refine gH ?_;intro g)|(refine gW ?_;intro v)|refine d201 ?_|fail)
  exact WC.ret (Fin.v (ResE.t1 rfl rfl) meA (by rw[decide_eq_true c]))
 ·repeat'(first|refine gB ?_|(refine gH ?_;intro g)|(refine gW ?_;intro v)|refine d201 ?_|fail)
  exact WC.ret (Fin.v (ResE.t1 rfl rfl) meA (by rw[decide_eq_false c]))
set_option maxRecDepth 60000 in
theorem psolves_c (D:Nat) [Den D] (vb v:Value) (ms mx:Nat→QM) (bs:List Bd) (x:List Int) (n:Nat) (hv:Vld n bs) (hf:Fit bs) (hx:∀ i,(x.getD i 0).natAbs≤250000000) :
  FnB Tryz.prog 169 [.agg #[.int .i64 n,vb],v] [] [fB D vb ms bs,fR D v mx x] (IsV (.bool (decide (x.length=n∧Sol bs x)))):=by
 refine fn_of [(0,(.agg #[.int .i64 n,vb])),(1,v)] 17 Tryz.func169 rfl Tryz.ntmps169 (by kernel_rfl) rfl suA fun h0=>?_
 have hfx:FitX x:=fun i=>Nat.le_trans (hx i) (by decide)
 unfold Fit at hf
 refine WC.lenF (W.Has.rsB (D:=D) (v:=v) (ms:=mx) (qs:=x) hmA) fun hlen=>?_
 by_cases c:x.length=n
 ·repeat'(first|refine gA ?_|(refine goG ?_;intro g)|(refine goV ?_;intro v))
  revert g;intro g3;revert g;intro g2
  refine WL.callV (hF:=.cons (.f hmA) (.cons (.and (.c meA) (.f hmA)) .nil)) (containsB_c D vb ms bs 201 [ptr g3] (andF (ce g3 24 [v]) (fR D v mx x)) (vioB bs x)
   (fun i hi=>solves1_c D v mx x n g3 bs (ms i) i (hv.ok i hi) c hfx (Nat.le_trans absS_le hf) (by have h1:=hx (bg bs i).to.toNat;have h2:=hx (bg bs i).fr.toNat;unfold vl;omega))) ?_
  by_cases c2:0≤fidx (vioB bs x) bs.length 0
  ·rw[decide_eq_true c2]
   repeat'(first|refine gA ?_|(refine goG ?_;intro g)|(refine goV ?_;intro v))
   exact WC.ret (Fin.v (ResE.t1 rfl rfl) meA (by rw[decide_eq_false (fun h=>vio_sol.1 h.2 c2)]))
  ·rw[decide_eq_false c2]
   repeat'(first|refine gA ?_|(refine goG ?_;intro g)|(refine goV ?_;intro v))
   exact WC.ret (Fin.v (ResE.t1 rfl rfl) meA (by rw[decide_eq_true ⟨c,vio_sol.2 c2⟩]))
 ·repeat'(first|refine gA ?_|(refine goG ?_;intro g)|(refine goV ?_;intro v))
  exact WC.ret (Fin.v (ResE.t1 rfl rfl) meA (by rw[decide_eq_false (fun h=>c h.1)]))
set_option maxRecDepth 60000 in
theorem negative_c (D:Nat) [Den D] (vb v:Value) (ms:Nat→QM) (bs:List Bd) (l:List Int) (n:Int) (hl:l.length≤1000000) (hb:l.length*absS bs≤400000000) (hf:Fit bs) (hbl:bs.length≤1000000) :
  FnB Tryz.prog 170 [.agg #[.int .i64 n,vb],v] [] [fB D vb ms bs,sI v l] (IsV (.bool (negP bs l))):=by
 refine fn_of [(0,(.agg #[.int .i64 n,vb])),(1,v)] 73 Tryz.func170 rfl Tryz.ntmps170 (by kernel_rfl) rfl suA fun h0=>?_
 unfold Fit at hf
 refine WC.fact (isQ (qv m00) (wq D 0)) hasQ0w ?_
 repeat'(first|refine gB ?_|(refine gH ?_;intro g)|(refine gW ?_;intro v)|refine d170 ?_|fail)
 revert g;intro g5;revert g;intro g2
 refine WC.lp (σ:=Nat×Int×QM) (fun s=>[(12,.int .i64 (s.1:Int)),(11,.int .i64 (l.length:Int)),(10,v),(5,ptr g5),(2,ptr g2),(1,v)]) (fun s=>[Ow.cells g5 31 (qcs s.2.2),Ow.cells g2 123 [.int .i64 n,vb]])
  (fun s=>[isQ (qv s.2.2) (wq D s.2.1),ge h0,fB D vb ms bs,sI v l]) (fun s=>s.1≤l.length∧s.2.1=lenP bs (l.take s.1)∧∀ i,i < s.1→(0≤l.getD i 0∧l.getD i 0 < bs.length)∧(0≤bfr l i∧bfr l i < bs.length)∧(bg bs (bfr l i).toNat).to=(bg bs (l.getD i 0).toNat).fr) (fun s=>l.length - s.1) (0,0,m00) ⟨by omega,by simp[lenP],fun i h=>by omega⟩ ?_
 rintro⟨i,k,m⟩ ⟨hi,hk,hall⟩
 simp only at hi hk hall ⊢
 have hkb:=@lenP_take_le bs l i
 rw[←hk] at hkb
 by_cases c:i < l.length
 ·have no:¬((0≤l.getD i 0∧l.getD i 0 < bs.length)∧(0≤bfr l i∧bfr l i < bs.length)∧(bg bs (bfr l i).toNat).to=(bg bs (l.getD i 0).toNat).fr)→negP bs l=false:=fun h=>decide_eq_false fun hc=>h (hc.1 i c)
  have hm1:0≤(((i+l.length:Nat):Int) - 1) % (l.length:Int):=Int.emod_nonneg _ (by omega)
  have hm2:(((i+l.length:Nat):Int) - 1) % (l.length:Int) < l.length:=Int.emod_lt_of_pos _ (by omega)
  by_cases c1:l.getD i 0 < 0
  ·repeat'(first|refine gB ?_|(refine gH ?_;intro g)|(refine gW ?_;intro v)|refine d170 ?_|fail)
   exact WC.ret (Fin.v (ResE.t1 rfl rfl) meA (by rw[no (by omega)]))
  by_cases c2:(bs.length:Int)≤l.getD i 0
  ·repeat'(first|refine gB ?_|(refine gH ?_;intro g)|(refine gW ?_;intro v)|refine d170 ?_|fail)
   exact WC.ret (Fin.v (ResE.t1 rfl rfl) meA (by rw[no (by omega)]))
  refine WC.fact (isQ (qv (ms (l.getD i 0).toNat)) (wq D (bg bs (l.getD i 0).toNat).w)) (W.Has.b (W.Has.bm (v:=vb) hmA) (by omega)) ?_
  have hw:=@absS_le bs (l.getD i 0).toNat
  have hbq:bfr l i=l.getD ((((i+l.length:Nat):Int) - 1) % (l.length:Int)).toNat 0:=rfl
  by_cases c3:l.getD ((((i+l.length:Nat):Int) - 1) % (l.length:Int)).toNat 0 < 0
  ·repeat'(first|refine gB ?_|(refine gH ?_;intro g)|(refine gW ?_;intro v)|refine d170 ?_|fail)
   exact WC.ret (Fin.v (ResE.t1 rfl rfl) meA (by rw[no (by omega)]))
  by_cases c4:(bs.length:Int)≤l.getD ((((i+l.length:Nat):Int) - 1) % (l.length:Int)).toNat 0
  ·repeat'(first|refine gB ?_|(refine gH ?_;intro g)|(refine gW ?_;intro v)|refine d170 ?_|fail)
   exact WC.ret (Fin.v (ResE.t1 rfl rfl) meA (by rw[no (by omega)]))
  by_cases c5:(bg bs (l.getD ((((i+l.length:Nat):Int) - 1) % (l.length:Int)).toNat 0).toNat).to=(bg bs (l.getD i 0).toNat).fr
  ·repeat'(first|refine gB ?_|(refine gH ?_;intro g)|(refine gW ?_;intro v)|refine d170 ?_|fail)
   first|refine WL.callK (addw_c D m (ms (l.getD i 0).toNat) k (bg bs (l.getD i 0).toNat).w (by unfold Lim;omega) (by unfold Lim;omega)) ?_|refine WD.callK (addw_c D m (ms (l.getD i 0).toNat) k (bg bs (l.getD i 0).toNat).w (by unfold Lim;omega) (by unfold Lim;omega)) ?_|refine LO.callM (addw_c D m (ms (l.getD i 0).toNat) k (bg bs (l.getD i 0).toNat).w (by unfold Lim;omega) (by unfold Lim;omega)) ?_
   rintro _ _ _ ⟨m2,rfl,rfl,rfl⟩
   simp only[List.nil_append,List.cons_append]
   repeat'(first|refine gB ?_|(refine gH ?_;intro g)|(refine gW ?_;intro v)|refine d170 ?_|fail)
   refine LoopEnd.mk (i+1,k+(bg bs (l.getD i 0).toNat).w,m2) ⟨by show i+1≤_;omega,by show _=lenP bs (l.take (i+1));rw[lenP_take c,←hk],fun j hj=>?_⟩ (by show l.length - (i+1) < l.length - i;omega)
   by_cases hji:j=i
   ·subst hji;rw[hbq];exact⟨⟨by omega,by omega⟩,⟨by omega,by omega⟩,c5⟩
   ·exact hall j (by have:j < i+1:=hj;omega)
  ·repeat'(first|refine gB ?_|(refine gH ?_;intro g)|(refine gW ?_;intro v)|refine d170 ?_|fail)
   exact WC.ret (Fin.v (ResE.t1 rfl rfl) meA (by rw[no (fun h=>c5 h.2.2)]))
 ·repeat'(first|refine gB ?_|(refine gH ?_;intro g)|(refine gW ?_;intro v)|refine d170 ?_|fail)
  first|refine WL.callV (signw_c D m k) ?_|refine WD.callV (signw_c D m k) ?_
  rw[List.take_of_length_le (by omega)] at hk
  have hcy:Cyc bs l:=fun j hj=>hall j (by omega)
  by_cases h:sgn k < 0
  ·have h2:k < 0:=by have:=lss0_sgn k;rw[decide_eq_true h] at this;exact of_decide_eq_true this
   repeat'(first|refine gB ?_|(refine gH ?_;intro g)|(refine gW ?_;intro v)|refine d170 ?_|fail)
   exact WC.ret (Fin.v (ResE.t1 rfl rfl) meA (by unfold negP;rw[decide_eq_true ⟨hcy,by omega⟩]))
  ·have h2:¬k < 0:=by have:=lss0_sgn k;rw[decide_eq_false h] at this;exact of_decide_eq_false this
   repeat'(first|refine gB ?_|(refine gH ?_;intro g)|(refine gW ?_;intro v)|refine d170 ?_|fail)
   exact WC.ret (Fin.v (ResE.t1 rfl rfl) meA (by unfold negP;rw[decide_eq_false (fun hc=>h2 (by omega))]))
end H
end Go.Proofs.YtaongbhamadlkaaGreat
namespace Go.Proofs.YtaongbhamadlkaaGreat
open W Go.RowKit
theorem hasfR0 {D:Nat} {F:List Fct} {ms:Nat→QM}:Has F (fR D (.slice none 0 0) ms []):=fun _ _=>⟨⟨none,0,rfl,Nat.le_refl _,by simp[maxLen],.inl ⟨rfl,rfl,rfl⟩⟩,fun i hi=>by simp at hi⟩
def slv (n:Int) (bs:List Bd):List Int×List Int×Int:=if validB n bs=true then(match greatP n.toNat bs with|some x=>(x,[],0)|none=>([],cycP n.toNat bs,14)) else([],[],1)
def IsSv (D:Nat) (s:List Int×List Int×Int):RPost:=fun v b G=>∃ ux mx uc,v=.tuple #[ux,uc,.int .i64 s.2.2]∧b=[]∧G=[fR D ux mx s.1,sI uc s.2.1]
def chk (n:Int) (bs:List Bd) (x l:List Int):Int:=if validB n bs=true then(if(l.length=0∧x.length=n.toNat∧Sol bs x)∨(x.length=0∧negP bs l=true) then 0 else 22) else 1
namespace H
open G
attribute [local irreducible] WC WL WD YO LO LoopEnd W.Fin Scalar SliceT FieldAt Row ArrT AllocT KnS Has W.One SrcE IntT
set_option maxRecDepth 60000 in
theorem solve_c (D:Nat) [Den D] (vb:Value) (ms:Nat→QM) (bs:List Bd) (n:Int) (hf:Fit bs):FnB Tryz.prog 40 [.int .i64 n,vb] [] [fB D vb ms bs] (IsSv D (slv n bs)):=by
 refine fn_of [(0,(.int .i64 n)),(1,vb)] 28 Tryz.func40 rfl Tryz.ntmps40 (by kernel_rfl) rfl suA fun h0=>?_
 have hr0:∀ F:List Fct,Has F (fR D (.slice none 0 0) (fun _=>m00) []):=fun F=>hasfR0
 repeat'(first|refine gA ?_|(refine goG ?_;intro g)|(refine goV ?_;intro v))
 first|refine WL.callV (made_c D vb ms bs n) ?_|refine WD.callV (made_c D vb ms bs n) ?_
 repeat'(first|refine gA ?_|(refine goG ?_;intro g)|(refine goV ?_;intro v))
 cases hvb:validB n bs with
 |false=>
  repeat'(first|refine gA ?_|(refine goG ?_;intro g)|(refine goV ?_;intro v))
  exact WC.ret (Fin.p [] [fR D (.slice none 0 0) (fun _=>m00) [],sI (.slice none 0 0) []] (ResE.t3 rfl rfl rfl rfl) meA (List.nil_sublist _) (.cons (hr0 _) (.cons nil0 .nil)) (by unfold slv;rw[hvb];exact⟨_,_,_,rfl,rfl,rfl⟩))
 |true=>
  obtain⟨m,rfl,hv⟩:=Vld.of hvb
  repeat'(first|refine gA ?_|(refine goG ?_;intro g)|(refine goV ?_;intro v))
  have hs:slv (m:Int) bs=(match greatP m bs with|some x=>(x,[],0)|none=>([],cycP m bs,14)):=by unfold slv;rw[if_pos hvb];rfl
  first|refine WL.callK (greatest_c D vb ms bs m hv hf) ?_|refine WD.callK (greatest_c D vb ms bs m hv hf) ?_|refine LO.callM (greatest_c D vb ms bs m hv hf) ?_
  rintro rv bb GG hG
  unfold IsGr at hG
  cases hgr:greatP m bs with
  |none=>
   rw[hgr] at hG hs
   obtain⟨rfl,rfl,rfl⟩:=hG
   simp only[List.nil_append]
   repeat'(first|refine gA ?_|(refine goG ?_;intro g)|(refine goV ?_;intro v))
   first|refine WL.callO (cycle_c D vb ms bs m hv hf) (fun rv=>?_)|refine WD.callO (cycle_c D vb ms bs m hv hf) (fun rv=>?_)
   repeat'(first|refine gA ?_|(refine goG ?_;intro g)|(refine goV ?_;intro v))
   refine WC.freezeI (l:=cycP m bs) (v:=rv) (el:=3) (by repeat(first|exact Sel.head|apply Sel.tail)) ?_
   exact WC.ret (Fin.p [] [fR D (.slice none 0 0) (fun _=>m00) [],sI rv (cycP m bs)] (ResE.t3 rfl rfl rfl rfl) meA (List.nil_sublist _) (.cons (hr0 _) sfA) (by rw[hs];exact⟨_,_,_,rfl,rfl,rfl⟩))
  |some x=>
   rw[hgr] at hG hs
   obtain⟨u,mx,rfl,rfl,rfl⟩:=hG
   simp only[List.nil_append,List.cons_append]
   repeat'(first|refine gA ?_|(refine goG ?_;intro g)|(refine goV ?_;intro v))
   exact WC.ret (Fin.p [] [fR D u mx x,sI (.slice none 0 0) []] (ResE.t3 rfl rfl rfl rfl) meA (List.nil_sublist _) (.cons hmA (.cons nil0 .nil)) (by rw[hs];exact⟨_,_,_,rfl,rfl,rfl⟩))
set_option maxRecDepth 60000 in
theorem check_c (D:Nat) [Den D] (vb ux uc:Value) (ms mx:Nat→QM) (bs:List Bd) (x l:List Int) (n:Int) (hf:Fit bs) (hl:l.length≤1000000) (hb:l.length*absS bs≤400000000) (hx:∀ i,(x.getD i 0).natAbs≤250000000) :
  FnB Tryz.prog 110 [.int .i64 n,vb,ux,uc] [] [fB D vb ms bs,fR D ux mx x,sI uc l] (IsV (.int .i64 (chk n bs x l))):=by
 refine fn_of [(0,(.int .i64 n)),(1,vb),(2,ux),(3,uc)] 37 Tryz.func110 rfl Tryz.ntmps110 (by kernel_rfl) rfl suA fun h0=>?_
 refine WC.lenF (W.Has.rsB (D:=D) (v:=ux) (ms:=mx) (qs:=x) hmA) fun hlen=>?_
 repeat'(first|refine gA ?_|(refine goG ?_;intro g)|(refine goV ?_;intro v))
 first|refine WL.callV (made_c D vb ms bs n) ?_|refine WD.callV (made_c D vb ms bs n) ?_
 repeat'(first|refine gA ?_|(refine goG ?_;intro g)|(refine goV ?_;intro v))
 cases hvb:validB n bs with
 |false=>
  repeat'(first|refine gA ?_|(refine goG ?_;intro g)|(refine goV ?_;intro v))
  exact WC.ret (Fin.v (ResE.t1 rfl rfl) meA (by unfold chk;rw[hvb];rfl))
 |true=>
  obtain⟨m,rfl,hv⟩:=Vld.of hvb
  have hvl:=hv.l
  have hs:chk (m:Int) bs x l=if(l.length=0∧x.length=m∧Sol bs x)∨(x.length=0∧negP bs l=true) then 0 else 22:=by unfold chk;rw[if_pos hvb];rfl
  have fin:∀ r:Int,r=chk (m:Int) bs x l→Value.int .i64 r=.int .i64 (chk (m:Int) bs x l):=fun r hr=>by rw[hr]
  by_cases c1:l.length=0
  ·repeat'(first|refine gA ?_|(refine goG ?_;intro g)|(refine goV ?_;intro v))
   first|refine WL.callV (psolves_c D vb ux ms mx bs x m hv hf hx) ?_|refine WD.callV (psolves_c D vb ux ms mx bs x m hv hf hx) ?_
   by_cases c2:x.length=m∧Sol bs x
   ·rw[if_pos (.inl ⟨c1,c2⟩)] at hs
    rw[decide_eq_true c2]
    repeat'(first|refine gA ?_|(refine goG ?_;intro g)|(refine goV ?_;intro v))
    exact WC.ret (Fin.v (ResE.t1 rfl rfl) meA (fin _ hs.symm))
   ·rw[decide_eq_false c2]
    repeat'(first|refine gA ?_|(refine goG ?_;intro g)|(refine goV ?_;intro v))
    by_cases c3:x.length=0
    ·repeat'(first|refine gA ?_|(refine goG ?_;intro g)|(refine goV ?_;intro v))
     first|refine WL.callV (negative_c D vb uc ms bs l m hl hb hf (by omega)) ?_|refine WD.callV (negative_c D vb uc ms bs l m hl hb hf (by omega)) ?_
     cases c4:negP bs l with
     |true=>
      rw[if_pos (.inr ⟨c3,c4⟩)] at hs
      repeat'(first|refine gA ?_|(refine goG ?_;intro g)|(refine goV ?_;intro v))
      exact WC.ret (Fin.v (ResE.t1 rfl rfl) meA (fin _ hs.symm))
     |false=>
      rw[if_neg (fun h=>h.elim (fun h=>c2 h.2) (fun h=>by rw[c4] at h;cases h.2))] at hs
      repeat'(first|refine gA ?_|(refine goG ?_;intro g)|(refine goV ?_;intro v))
      exact WC.ret (Fin.v (ResE.t1 rfl rfl) meA (fin _ hs.symm))
    ·rw[if_neg (fun h=>h.elim (fun h=>c2 h.2) (fun h=>c3 h.1))] at hs
     repeat'(first|refine gA ?_|(refine goG ?_;intro g)|(refine goV ?_;intro v))
     exact WC.ret (Fin.v (ResE.t1 rfl rfl) meA (fin _ hs.symm))
  ·repeat'(first|refine gA ?_|(refine goG ?_;intro g)|(refine goV ?_;intro v))
   by_cases c3:x.length=0
   ·repeat'(first|refine gA ?_|(refine goG ?_;intro g)|(refine goV ?_;intro v))
    first|refine WL.callV (negative_c D vb uc ms bs l m hl hb hf (by omega)) ?_|refine WD.callV (negative_c D vb uc ms bs l m hl hb hf (by omega)) ?_
    cases c4:negP bs l with
    |true=>
     rw[if_pos (.inr ⟨c3,c4⟩)] at hs
     repeat'(first|refine gA ?_|(refine goG ?_;intro g)|(refine goV ?_;intro v))
     exact WC.ret (Fin.v (ResE.t1 rfl rfl) meA (fin _ hs.symm))
    |false=>
     rw[if_neg (fun h=>h.elim (fun h=>c1 h.1) (fun h=>by rw[c4] at h;cases h.2))] at hs
     repeat'(first|refine gA ?_|(refine goG ?_;intro g)|(refine goV ?_;intro v))
     exact WC.ret (Fin.v (ResE.t1 rfl rfl) meA (fin _ hs.symm))
   ·rw[if_neg (fun h=>h.elim (fun h=>c1 h.1) (fun h=>c3 h.1))] at hs
    repeat'(first|refine gA ?_|(refine goG ?_;intro g)|(refine goV ?_;intro v))
    exact WC.ret (Fin.v (ResE.t1 rfl rfl) meA (fin _ hs.symm))
end H
end Go.Proofs.YtaongbhamadlkaaGreat
