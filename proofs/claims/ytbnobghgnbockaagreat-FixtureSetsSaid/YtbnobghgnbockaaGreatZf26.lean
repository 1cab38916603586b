/- Lemmas for a law. Conditions: none. -/
import Derived.KernelRfl
import Derived.Test.YtbnobghgnbockaaGreatZf25
import Derived.Test.YtbnobghgnbockaaGreatZf17
set_option linter.all false
set_option maxHeartbeats 32000000
set_option maxRecDepth 100000
namespace Go.Proofs.YtbnobghgnbockaaGreat
section
namespace Fx
def kmax(n many:Int)(l:List Int):Nat->Option Nat
 |0=>none
 |k+1=>if l.getD k 0=n-many+(k:Int) then kmax n many l k else some k
def U3(l:List Int)(i:Nat):Nat->List Int
 |0=>l
 |f+1=>U3 (l.set i (l.getD (i-1) 0+1)) (i+1) f
def nxt(n many:Int)(l:List Int):Option (List Int):=
 match kmax n many l l.length with
 |none=>none
 |some k=>some (U3 (l.set k (l.getD k 0+1)) (k+1) (l.length-(k+1)))
def chsF(n many:Int):Nat->List Int->List (List Int)
 |0,_=>[]
 |f+1,l=>l::match nxt n many l with|none=>[]|some l'=>chsF n many f l'
def start(many:Nat):List Int:=(List.range many).map Int.ofNat
def chs(n many:Nat):List (List Int):=chsF n many 100 (start many)
def J5(n:Nat):Nat->List (List Int)
 |0=>[]
 |k+1=>J5 n k++chs n k
def Jk(n most:Int):List (List Int):=if n<0\/8<n\/most<0 then[] else J5 n.toNat (min n.toNat most.toNat+1)
def numbers(bits:Nat):Nat->List Int
 |0=>[]
 |n+1=>numbers bits n++if bits/2^n%2=1 then[(n:Int)] else[]
def lexlt:List Int->List Int->Bool
 |a::l,b::m=>if a=b then lexlt l m else decide (a<b)
 |_,_=>false
def before(a b:List Int):Bool:=if a.length=b.length then lexlt a b else decide (a.length<b.length)
def place(s:List Int)(out:List (List Int)):Nat->Nat
 |0=>0
 |k+1=>if before s (out.getD k []) then place s out k else k+1
def JH(out:List (List Int))(s:List Int):List (List Int):=out.take (place s out out.length)++s::out.drop (place s out out.length)
def QS(n:Nat)(most:Int):Nat->List (List Int)
 |0=>[]
 |b+1=>let out:=QS n most b;let s:=numbers b n;if(s.length:Int) > most then out else JH out s
def Hw(n most:Int):List (List Int):=if n<0\/8<n then[] else QS n.toNat most (2^n.toNat)
def le(a b:List Int):Prop:=before b a=false
def lex_anti:∀{a b:List Int},a.length=b.length->lexlt a b=false->lexlt b a=false->a=b
 |[],[],_,_,_=>rfl
 |x::a,y::b,h,h1,h2=>by
  unfold lexlt at h1 h2;by_cases c:x=y
  ·subst c;rw[if_pos rfl] at h1 h2;rw[lex_anti (by simpa using h) h1 h2]
  ·rw[if_neg c] at h1;rw[if_neg (λh=>c h.symm)] at h2;simp only[decide_eq_false_iff_not] at h1 h2;omega
def lex_trans:∀{a b c:List Int},a.length=b.length->b.length=c.length->lexlt b a=false->lexlt c b=false->lexlt c a=false
 |[],[],[],_,_,_,_=>rfl
 |x::a,y::b,z::c,h,h',h1,h2=>by
  unfold lexlt at h1 h2 ⊢;by_cases e1:y=x
  ·subst e1;rw[if_pos rfl] at h1;by_cases e2:z=y
   ·subst e2;rw[if_pos rfl] at h2 ⊢;exact lex_trans (by simpa using h) (by simpa using h') h1 h2
   ·rw[if_neg e2] at h2 ⊢;exact h2
  ·rw[if_neg e1] at h1;by_cases e2:z=y
   ·subst e2;rw[if_neg e1];exact h1
   ·rw[if_neg e2] at h2;simp only[decide_eq_false_iff_not] at h1 h2;rw[if_neg qo];simp only[decide_eq_false_iff_not];omega
def le_anti{a b:List Int}(h1:le a b)(h2:le b a):a=b:=by
 unfold le before at h1 h2;by_cases c:a.length=b.length
 ·rw[if_pos c.symm] at h1;rw[if_pos c] at h2;exact lex_anti c h2 h1
 ·rw[if_neg (λh=>c h.symm)] at h1;rw[if_neg c] at h2;simp only[decide_eq_false_iff_not] at h1 h2;omega
def le_trans{a b c:List Int}(h1:le a b)(h2:le b c):le a c:=by
 unfold le before at h1 h2 ⊢;by_cases e1:b.length=a.length
 ·rw[if_pos e1] at h1;by_cases e2:c.length=b.length
  ·rw[if_pos e2] at h2;rw[if_pos (e2.trans e1)];exact lex_trans e1.symm e2.symm h1 h2
  ·rw[if_neg e2] at h2;rw[if_neg qo];simp only[decide_eq_false_iff_not] at h2 ⊢;omega
 ·rw[if_neg e1] at h1;simp only[decide_eq_false_iff_not] at h1;by_cases e2:c.length=b.length
  ·rw[if_neg qo];simp only[decide_eq_false_iff_not];omega
  ·rw[if_neg e2] at h2;simp only[decide_eq_false_iff_not] at h2;rw[if_neg qo];simp only[decide_eq_false_iff_not];omega
def KX:∀{l m:List (List Int)},l.Perm m->l.Pairwise le->m.Pairwise le->l=m
 |[],m,h,_,_=>(List.Perm.nil_eq h)
 |a::l,m,h,h1,h2=>by
  cases m with
  |nil=>exact absurd h.length_eq (by simp)
  |cons b m=>
   have e:a=b:=by
    have i1:a∈b::m:=h.mem_iff.1 (List.mem_cons_self ..);have i2:b∈a::l:=h.mem_iff.2 (List.mem_cons_self ..);rcases List.mem_cons.1 i1 with rfl|i1
    ·rfl
    rcases List.mem_cons.1 i2 with rfl|i2
    ·rfl
    exact le_anti ((List.pairwise_cons.1 h1).1 b i2) ((List.pairwise_cons.1 h2).1 a i1)
   subst e;rw[KX h.cons_inv (List.pairwise_cons.1 h1).2 (List.pairwise_cons.1 h2).2]
def ins_perm(out:List (List Int))(s:List Int):(JH out s).Perm (s::out):=by
 unfold JH;refine List.perm_middle.trans ?_;rw[List.take_append_drop]
def U0{s:List Int}{out:List (List Int)}:∀k,k<=out.length->place s out k<=k/\(∀j,place s out k<=j->j<k->before s (out.getD j [])=true)/\(0<place s out k->before s (out.getD (place s out k-1) [])=false)
 |0,_=>⟨Nat.le_refl _,λj _ h=>absurd h qo,λh=>absurd h (by show ¬0<0;omega)⟩
 |k+1,hk=>by
  unfold place;by_cases c:before s (out.getD k [])=true
  ·rw[if_pos c];obtain⟨h1,h2,h3⟩:=U0 (s:=s) (out:=out) k qo;refine⟨by omega,λj a b=>?_,h3⟩;by_cases e:j=k
   ·subst e;exact c
   ·exact h2 j a qo
  ·rw[if_neg c];exact⟨Nat.le_refl _,λj a b=>absurd b qo,λ_=>by simpa using c⟩
def bef_le{a b:List Int}(h:before a b=true):le a b:=by
 unfold le before at *;by_cases c:a.length=b.length
 ·rw[if_pos c] at h;rw[if_pos c.symm]
  have:∀{a b:List Int},lexlt a b=true->lexlt b a=false:=by
   intro a;induction a with
   |nil=>intro b h;cases b<;>simp[lexlt] at h
   |cons x a ih=>
    intro b h;cases b with
    |nil=>simp[lexlt] at h
    |cons y b=>
     unfold lexlt at h ⊢;by_cases c:x=y
     ·subst c;rw[if_pos rfl] at h ⊢;exact ih h
     ·rw[if_neg c] at h;rw[if_neg (λh=>c h.symm)];simp only[decide_eq_true_eq] at h;simp only[decide_eq_false_iff_not];omega
  exact this h
 ·rw[if_neg c] at h;rw[if_neg (λh=>c h.symm)];simp only[decide_eq_true_eq] at h;simp only[decide_eq_false_iff_not];omega
def ins_sorted{out:List (List Int)}{s:List Int}(h:out.Pairwise le):(JH out s).Pairwise le:=by
 obtain⟨h1,h2,h3⟩:=U0 (s:=s) (out:=out) out.length (Nat.le_refl _);unfold JH;generalize place s out out.length=p at *
 have hd:∀x∈out.drop p,le s x:=λx hx=>by
  obtain⟨i,hi,rfl⟩:=List.mem_iff_getElem.1 hx;rw[List.length_drop] at hi;have:=h2 (p+i) qo qo;rw[List.getD_eq_getElem?_getD,List.getElem?_eq_getElem qo] at this;rw[List.getElem_drop];exact bef_le this
 have ht:∀x∈out.take p,le x s:=λx hx=>by
  obtain⟨i,hi,rfl⟩:=List.mem_iff_getElem.1 hx;rw[List.length_take] at hi;have h4:=h3 qo;rw[List.getD_eq_getElem?_getD,List.getElem?_eq_getElem qo] at h4;rw[List.getElem_take];by_cases e:i=p-1
  ·subst e;exact h4
  ·exact le_trans (List.pairwise_iff_getElem.1 h i (p-1) qo qo qo) h4
 refine List.pairwise_append.2 ⟨h.sublist (List.take_sublist _ _),List.pairwise_cons.2 ⟨hd,h.sublist (List.drop_sublist _ _)⟩,λa ha b hb=>?_⟩;rcases List.mem_cons.1 hb with rfl|hb
 ·exact ht a ha
 ·exact le_trans (ht a ha) (hd b hb)
def rsF(n:Nat)(most:Int):∀b,(QS n most b).Pairwise le/\(QS n most b).Perm (((List.range b).map λi=>numbers i n).filter λs=>decide ((s.length:Int)<=most))
 |0=>⟨List.Pairwise.nil,List.Perm.nil⟩
 |b+1=>by
  obtain⟨h1,h2⟩:=rsF n most b;show(if((numbers b n).length:Int) > most then QS n most b else JH (QS n most b) (numbers b n)).Pairwise le/\_;rw[List.range_succ,List.map_append,List.filter_append];show(if((numbers b n).length:Int) > most then QS n most b else JH (QS n most b) (numbers b n)).Pairwise le/\(if((numbers b n).length:Int) > most then QS n most b else JH (QS n most b) (numbers b n)).Perm _;by_cases c:((numbers b n).length:Int) > most
  ·rw[if_pos c];refine⟨h1,?_⟩;rw[show([b].map λi=>numbers i n).filter (λs=>decide ((s.length:Int)<=most))=[] by simp;omega,List.append_nil];exact h2
  ·rw[if_neg c];refine⟨ins_sorted h1,(ins_perm _ _).trans ?_⟩;rw[show([b].map λi=>numbers i n).filter (λs=>decide ((s.length:Int)<=most))=[numbers b n] by simp;omega];exact(List.Perm.cons _ h2).trans (List.perm_append_comm (l₁:=[numbers b n]))
def upB:List (List Int)->Bool
 |a::b::l=>!before b a && upB (b::l)
 |_=>true
def upB_le:∀{l:List (List Int)},upB l=true->l.Pairwise le
 |[],_=>List.Pairwise.nil
 |[_],_=>List.pairwise_singleton _ _
 |a::b::l,h=>by
  unfold upB at h;rw[Bool.and_eq_true] at h;have ih:=upB_le h.2;have hab:le a b:=by unfold le;simpa using h.1
  refine List.pairwise_cons.2 ⟨λx hx=>?_,ih⟩;rcases List.mem_cons.1 hx with rfl|hx
  ·exact hab
  ·exact le_trans hab ((List.pairwise_cons.1 ih).1 x hx)
def chkS(n:Nat):Bool:=upB (J5 n (n+1)) && (J5 n (n+1)).isPerm ((List.range (2^n)).map λi=>numbers i n) && (List.range (n+1)).all λk=>(J5 n (n+1)).filter (λs=>decide (s.length<=k)) == J5 n (k+1)
def chk0:(List.range 6).all chkS=true:=by kernel_rfl
def chk6:chkS 6=true:=by kernel_rfl
def chk7:chkS 7=true:=by kernel_rfl
def chk8:chkS 8=true:=by kernel_rfl
def chk_all(n:Nat)(h:n<=8):chkS n=true:=by
 by_cases c:n<6
 ·exact List.all_eq_true.1 chk0 n (List.mem_range.2 c)
 ·have:n=6\/n=7\/n=8:=qo;rcases this with rfl|rfl|rfl
  ·exact chk6
  ·exact chk7
  ·exact chk8
def KL(b:Nat):∀n,(numbers b n).length<=n
 |0=>Nat.le_refl _
 |n+1=>by
  have:=KL b n;unfold numbers;rw[List.length_append];split<;>simp<;>omega
def rsF_k(n k:Nat)(hn:n<=8)(hk:k<=n):QS n (k:Nat) (2^n)=J5 n (k+1):=by
 have h:=chk_all n hn;unfold chkS at h;rw[Bool.and_eq_true,Bool.and_eq_true] at h;obtain⟨⟨h1,h2⟩,h3⟩:=h;have h4:=eq_of_beq (List.all_eq_true.1 h3 k (List.mem_range.2 qo));have h5:=(List.isPerm_iff.1 h2).filter λs=>decide (s.length<=k);obtain⟨r1,r2⟩:=rsF n (k:Nat) (2^n);rw[<-h4];refine KX (r2.trans ?_) r1 ((upB_le h1).sublist List.filter_sublist);have e:(λs:List Int=>decide ((s.length:Int)<=((k:Nat):Int)))=λs=>decide (s.length<=k):=funext λs=>decide_eq_decide.2 qo;rw[e];exact h5.symm
def Hh(n most:Int):Hw n most=Jk n most:=by
 unfold Hw Jk;by_cases c:n<0\/8<n
 ·rw[if_pos c,if_pos qo]
 rw[if_neg c];obtain⟨N,rfl⟩:∃N:Nat,n=(N:Int):=⟨n.toNat,by omega⟩
 rw[Int.toNat_natCast];by_cases m0:most<0
 ·rw[if_pos qo];have h:=(rsF N most (2^N)).2;have:((List.range (2^N)).map λi=>numbers i N).filter (λs=>decide ((s.length:Int)<=most))=[]:=List.filter_eq_nil_iff.2 λs _=>by simp;omega
  rw[this] at h;exact h.eq_nil
 rw[if_neg qo];by_cases m1:most.toNat<=N
 ·rw[Nat.min_eq_right m1,<-rsF_k N most.toNat qo m1,Int.toNat_of_nonneg qo]
 ·rw[Nat.min_eq_left qo,<-rsF_k N N qo (Nat.le_refl _)];refine KX ((rsF N most _).2.trans ?_) (rsF N most _).1 (rsF N _ _).1;refine List.Perm.trans ?_ (rsF N (N:Nat) _).2.symm
  have e:∀s∈(List.range (2^N)).map (λi=>numbers i N),decide ((s.length:Int)<=most)=decide ((s.length:Int)<=((N:Nat):Int)):=λs hs=>by
   obtain⟨i,_,rfl⟩:=List.mem_map.1 hs;have:=KL i N;exact decide_eq_decide.2 qo
  rw[List.filter_congr e]
end Fx
end
section
namespace Bl
open X
def scL(n:Nat)(B:Nat->Bd)(t0:Tc)(L:List Tc):Sc:=⟨n,L.length,B,λj=>L.getD j t0⟩
end Bl
end
section
namespace Fx
def mem_sets{n most:Int}(h0:0<=n)(h8:n<=8){s:List Int}:s∈Jk n most↔∃b,b<2^n.toNat/\s=numbers b n.toNat/\(s.length:Int)<=most:=by
 rw[<-Hh];unfold Hw;rw[if_neg qo,(rsF n.toNat most _).2.mem_iff];simp only[List.mem_filter,List.mem_map,List.mem_range,decide_eq_true_eq];constructor
 ·rintro⟨⟨b,h1,rfl⟩,h2⟩;exact⟨b,h1,rfl,h2⟩
 ·rintro⟨b,h1,rfl,h2⟩;exact⟨⟨b,h1,rfl⟩,h2⟩
def mem_num{b:Nat}{x:Int}:∀{n:Nat},x∈numbers b n↔∃i,i<n/\x=(i:Int)/\b/2^i%2=1
 |0=>⟨λh=>absurd h (by simp[numbers]),λ⟨i,h,_⟩=>absurd h qo⟩
 |n+1=>by
  unfold numbers;rw[List.mem_append,mem_num (n:=n)];constructor
  ·rintro(⟨i,h1,h2,h3⟩|h)
   ·exact⟨i,by omega,h2,h3⟩
   ·split at h
    ·rename_i c
     rw[List.mem_singleton] at h;exact⟨n,by omega,h,c⟩
    ·exact absurd h (by simp)
  ·rintro⟨i,h1,h2,h3⟩;by_cases c:i=n
   ·subst c;right;rw[if_pos h3];simp[h2]
   ·exact .inl ⟨i,by omega,h2,h3⟩
def num_lt{b n:Nat}{x:Int}(h:x∈numbers b n):0<=x/\x<(n:Int):=by
 obtain⟨i,h1,h2,_⟩:=mem_num.1 h;omega
def QK(t:List Bl.Tc)(props:List (List Bl.Tc))(s:List Int):List Bl.Tc:=t++s.flatMap λk=>props.getD k.toNat []
def QX(t:List Bl.Tc)(props:List (List Bl.Tc))(most:Int):List (List Int):=(Jk (props.length:Int) most).filter λs=>decide ((QK t props s).length<=10)
def YX(C:List (List Int))(P:List Int->Prop)(i:Nat):Prop:=i<C.length/\P (C.getD i [])/\∀j,j<i->¬P (C.getD j [])
def NoneS(C:List (List Int))(P:List Int->Prop):Prop:=∀j,j<C.length->¬P (C.getD j [])
section
variable {C D:List (List Int)}{P:List Int->Prop}{i j:Nat}
def YX.eq(h1:YX C P i)(h2:YX C P j):i=j:=by
 rcases Nat.lt_trichotomy i j with h|h|h
 ·exact absurd h1.2.1 (h2.2.2 i h)
 ·exact h
 ·exact absurd h2.2.1 (h1.2.2 j h)
def YX.none(h1:YX C P i)(h2:NoneS C P):False:=h2 i h1.1 h1.2.1
end
end Fx
end
section
open W Go.RowKit
open Bl (Vc Bd Tc Sc)
def Sv(K:Nat)(a:Vc):Prop:=Sq K a.x/\Sq K a.y
def WD.frz{hs:List Nat}{b0:List Ow}{F0:List Fct}{r:Plan}{el n':Nat}{bx bx':List Ow}{L:List Oper}{Q2:Env->List Ow->List Fct->Prop}{F:List Fct}{P:Program}{e:Env}(v:Value)(n:Nat)(ms:Nat->QM)(q:Nat->Rat)(hs':Sel bx (.slice v el 4 (Qe n ms)) (.slice (.slice none 0 0) el 4 []) bx')(hm:Has F (mF n ms q))(h:WD P n' L hs b0 F0 r e bx' (fF v n ms q::F) Q2):WD P n' L hs b0 F0 r e bx F Q2:=λfr w0 listed a w fuel Q' h1 h2 h3 h4 h5 h6 hk hr ho hf=>h fr w0 listed a w fuel Q' h1 h2 h3 h4 h5 h6 hk hr (okF ho hs' hm) hf
def mF2{F:List Fct}{m m':QM}{a b:Rat}{f:Nat->QM}(h1:Has F (isQ (qv m) a))(h2:Has F (isQ (qv m') b)):Has F (mF 2 (upd (upd f 0 m) 1 m') (λi=>if i=0 then a else b)):=λp hf i hi=>by
 match i,hi with
 |0,_=>exact h1 p hf
 |1,_=>exact h2 p hf
def sm2(a b:Rat):X.sm 2 (λi=>if i=0 then a else b)=a+b:=by
 show 0+(if 0=0 then a else b)+(if 1=0 then a else b)=_;simp;grind
attribute [local irreducible] WC WL WD YO LO Qq W.Fin Qk Qw Qj Row QJ Qv KnS Has W.One Qa Qs
namespace K
def t0A{G:Prop}(h:G:=by first|((first|exact Go.Proofs.YtbnobghgnbockaaGreat.t0A|exact T.f39_0|exact T.f63_0|exact T.f63_1|exact T.f77_0|exact T.f77_1|exact T.f88_0|exact T.f88_1|exact T.f88_2|exact T.f88_3|exact T.f93_0|exact T.f93_1|exact T.f93_2|exact T.f93_3|exact T.f93_4|exact T.f93_5|exact T.f127_0|exact T.f127_1|exact T.f163_0|exact T.f163_1);done)|fail):G:=h
theorem LO.X2:True:=trivial
def t1A{G:Prop}(h:G:=by first|((first|exact Go.Proofs.YtbnobghgnbockaaGreat.t1A|exact T.al39|exact T.al63|exact T.al77|exact T.al88|exact T.al93|exact T.al127|exact T.al159|exact T.al163);done)|fail):G:=h
def t2A{G:Prop}(h:G:=by first|((first|exact Go.Proofs.YtbnobghgnbockaaGreat.t2A|exact T.sc31|exact T.sc32|exact T.sc37|exact T.KS|exact T.Vq|exact T.Vj);done)|fail):G:=h
def t3A{G:Prop}(h:G:=by first|((first|exact Go.Proofs.YtbnobghgnbockaaGreat.t3A);done)|fail):G:=h
def t4A{G:Prop}(h:G:=by first|((first|exact Go.Proofs.YtbnobghgnbockaaGreat.t4A|exact T.r39|exact T.r63|exact T.r77|exact T.r88|exact T.r93|exact T.r127|exact T.r163);done)|fail):G:=h
def t5A{G:Prop}(h:G:=by first|((first|exact Go.Proofs.YtbnobghgnbockaaGreat.t5A|exact T.e32|exact T.e37|exact T.e125|exact T.e159);done)|fail):G:=h
def t6A{G:Prop}(h:G:=by first|((first|exact Go.Proofs.YtbnobghgnbockaaGreat.t6A|exact T.s31|exact T.s32|exact T.s37|exact T.s125|exact T.s159);done)|fail):G:=h
def knA{G:Prop}(h:G:=by first|((first|exact Z.knA|(focus(apply KnS.lf;exact hmA;done))|(focus(apply KnS.lo;exact meA;done))|(focus(apply KnS.vx1;exact hmA;done))|(focus(apply KnS.vx2;exact hmA;done)));done)|fail):G:=h
def hsA{G:Prop}(h:G:=by first|((first|exact Z.hsA|(focus(apply W.Has.vx;exact hmA;done))|(focus(apply W.Has.vy;exact hmA;done))|(focus(apply W.Has.vof;exact hmA;exact hmA;done))|(focus(apply W.Has.bc;exact hmA;done))|(focus(apply W.Has.tn;exact hmA;done))|(focus(apply W.Has.et;exact hmA;done))|exact hasV0);done)|fail):G:=h
def Xh{G:Prop}(h:G:=by first|((first|exact Z.Xh|(apply YO.buildV;exact rfl;exact rfl)|exact YO.buildV0|(apply YO.buildP;exact rfl;exact rfl)|(apply YO.buildE;exact rfl;exact rfl)|(apply YO.buildLb;exact rfl)|(apply YO.buildL2;exact rfl;exact knA;exact rfl)|(apply YO.buildPr;exact rfl;exact rfl;exact knA));done)|fail):G:=h
def Jj{G:Prop}(h:G:=by first|((exact Z.Jj);done)|fail):G:=h
def Yt{G:Prop}(h:G:=by first|((first|(apply YO.ldC;exact t4A;exact rfl;exact meA;(repeat(first|exact Cut.done|apply Cut.take|apply Cut.drop)))|(apply YO.ldL;exact t4A;exact rfl;exact hmA;(first|exact Off.base|(apply Off.add;exact Off.base;((try simp only[Nat.zero_add,Nat.mul_one,Nat.reduceAdd,Nat.reduceMul]);exact rfl))|(apply Off.add;apply Off.add;exact Off.base;((try simp only[Nat.zero_add,Nat.mul_one,Nat.reduceAdd,Nat.reduceMul]);exact rfl);((try simp only[Nat.zero_add,Nat.mul_one,Nat.reduceAdd,Nat.reduceMul]);exact rfl))|(apply Off.add;apply Off.add;apply Off.add;exact Off.base;((try simp only[Nat.zero_add,Nat.mul_one,Nat.reduceAdd,Nat.reduceMul]);exact rfl);((try simp only[Nat.zero_add,Nat.mul_one,Nat.reduceAdd,Nat.reduceMul]);exact rfl);((try simp only[Nat.zero_add,Nat.mul_one,Nat.reduceAdd,Nat.reduceMul]);exact rfl)));omega;decide;(repeat(first|exact Cut.done|apply Cut.take|apply Cut.drop)))|(apply YO.ldLs;exact t2A;exact rfl;exact hmA;(first|exact Off.base|(apply Off.add;exact Off.base;((try simp only[Nat.zero_add,Nat.mul_one,Nat.reduceAdd,Nat.reduceMul]);exact rfl))|(apply Off.add;apply Off.add;exact Off.base;((try simp only[Nat.zero_add,Nat.mul_one,Nat.reduceAdd,Nat.reduceMul]);exact rfl);((try simp only[Nat.zero_add,Nat.mul_one,Nat.reduceAdd,Nat.reduceMul]);exact rfl))|(apply Off.add;apply Off.add;apply Off.add;exact Off.base;((try simp only[Nat.zero_add,Nat.mul_one,Nat.reduceAdd,Nat.reduceMul]);exact rfl);((try simp only[Nat.zero_add,Nat.mul_one,Nat.reduceAdd,Nat.reduceMul]);exact rfl);((try simp only[Nat.zero_add,Nat.mul_one,Nat.reduceAdd,Nat.reduceMul]);exact rfl)));omega;(repeat(first|exact Cut.done|apply Cut.take|apply Cut.drop)))|(apply YO.ldCk;exact t4A;exact rfl;exact hmA;(repeat(first|exact Cut.done|apply Cut.take|apply Cut.drop)))|exact Z.Yt);done)|fail):G:=h
def Zd{G:Prop}(h:G:=by first|((exact Z.Zd);done)|fail):G:=h
def Xo{G:Prop}(h:G:=by first|((exact Z.Xo);done)|fail):G:=h
def Ze{G:Prop}(h:G:=by first|(((first|(apply YO.shl';exact rfl;exact rfl;omega;omega;(first|omega|decide);(first|omega|decide))|(apply YO.shl1;exact rfl;exact rfl;omega)));done)|fail):G:=h
def go{G G':Prop}(h:G')(s:Bx G'->G:=by
 intro h
 (first|(apply WL.Jx;rotate_left;exact rfl;(first|(apply LO.KW;exact rfl;exact rfl;exact t4A;exact seA;exact rfl;(first|(focus(apply V9;exact hmA;done))|(focus(apply one_b;exact hmA;done))|(focus(apply one_e;exact hmA;done))|(focus(apply ZT;exact hmA;done))))|(apply LO.storeC;exact rfl;exact rfl;exact t4A;exact seA;(repeat(first|exact Pt.nil|apply Pt.cons|apply Pt.skip));(repeat(first|exact QP.nil|(apply QP.cons;(first|exact One.lit rfl rfl|(apply One.sl;exact knA))))))|(apply LO.Xy;exact rfl;exact rfl;exact t3A;exact seA;(first|omega|(simp only[List.length_set];omega)))|(apply LO.KZ;exact rfl;exact rfl;exact t4A;exact hmA;exact seA;omega)|(apply LO.Xv;exact rfl;exact rfl;exact t3A;(first|exact One.lit rfl rfl|(apply One.sl;exact knA));exact seA;(first|(simp only[List.length_cons,List.length_nil];omega)|(simp;omega));(first|(simp only[List.set_cons_succ,List.set_cons_zero];exact rfl)|exact rfl))|(apply LO.JF;exact rfl;exact rfl;exact t3A;(first|exact One.lit rfl rfl|(apply One.sl;exact knA));exact seA;(first|(simp only[List.length_cons,List.length_nil];omega)|(simp;omega));(first|(simp only[List.set_cons_succ,List.set_cons_zero];exact rfl)|exact rfl))|(apply LO.X2;exact rfl;exact rfl;exact seA;exact t4A;exact rfl;exact rfl;(repeat(first|exact QP.nil|(apply QP.cons;(first|exact One.lit rfl rfl|(apply One.sl;exact knA))))))))|refine Z.go ?_|fail)
 exact Bx.h h):G:=s ⟨h⟩
def goD{G G':Prop}(h:G')(s:Bx G'->G:=by
 intro h
 (first|(apply WD.Jx;exact rfl;rotate_left;exact rfl;(first|(apply LO.KW;exact rfl;exact rfl;exact t4A;exact seA;exact rfl;(first|(focus(apply V9;exact hmA;done))|(focus(apply one_b;exact hmA;done))|(focus(apply one_e;exact hmA;done))|(focus(apply ZT;exact hmA;done))))|(apply LO.storeC;exact rfl;exact rfl;exact t4A;exact seA;(repeat(first|exact Pt.nil|apply Pt.cons|apply Pt.skip));(repeat(first|exact QP.nil|(apply QP.cons;(first|exact One.lit rfl rfl|(apply One.sl;exact knA))))))|(apply LO.Xy;exact rfl;exact rfl;exact t3A;exact seA;(first|omega|(simp only[List.length_set];omega)))|(apply LO.KZ;exact rfl;exact rfl;exact t4A;exact hmA;exact seA;omega)|(apply LO.Xv;exact rfl;exact rfl;exact t3A;(first|exact One.lit rfl rfl|(apply One.sl;exact knA));exact seA;(first|(simp only[List.length_cons,List.length_nil];omega)|(simp;omega));(first|(simp only[List.set_cons_succ,List.set_cons_zero];exact rfl)|exact rfl))|(apply LO.JF;exact rfl;exact rfl;exact t3A;(first|exact One.lit rfl rfl|(apply One.sl;exact knA));exact seA;(first|(simp only[List.length_cons,List.length_nil];omega)|(simp;omega));(first|(simp only[List.set_cons_succ,List.set_cons_zero];exact rfl)|exact rfl))|(apply LO.X2;exact rfl;exact rfl;exact seA;exact t4A;exact rfl;exact rfl;(repeat(first|exact QP.nil|(apply QP.cons;(first|exact One.lit rfl rfl|(apply One.sl;exact knA)))))));constructor;exact ltA)|refine Z.goD ?_|fail)
 exact Bx.h h):G:=s ⟨h⟩
def goV{G G':Prop}(h:G')(s:Bx G'->G:=by
 intro h
 (first|(apply WL.ZL;rotate_left;exact rfl;exact rfl;(apply LO.V5;exact rfl;exact rfl;(repeat(first|(with_reducible apply QT.dbl)|(with_reducible apply QT.add)|(with_reducible exact QT.one)|exact QT.cast _));omega))|(apply WL.ZL;rotate_left;exact rfl;exact rfl;(apply LO.makePu;exact rfl;exact rfl;(repeat(first|(with_reducible apply QT.dbl)|(with_reducible apply QT.add)|(with_reducible exact QT.one)|exact QT.cast _));omega))|(apply WL.Jo;rotate_left;exact rfl;exact rfl;(apply LO.bsR2;exact rfl;exact rfl))|(apply WL.Jo;rotate_left;exact rfl;exact rfl;(apply LO.bsE2;exact rfl;exact rfl))|(apply WL.Jo;rotate_left;exact rfl;exact rfl;(apply LO.bsL1;exact rfl;exact knA))|(apply WL.Jo;rotate_left;exact rfl;exact rfl;(apply LO.bsL3;exact rfl;exact rfl;exact rfl;exact knA;exact knA;exact knA))|(apply WL.Q9;rotate_left;exact rfl;exact rfl;(apply LO.appR2;exact rfl;exact rfl;exact meA;exact hmA;exact hmA;(intro _;exact seA);omega))|(apply WL.Q9;rotate_left;exact rfl;exact rfl;(apply LO.appE2;exact rfl;exact rfl;exact meA;exact hmA;(intro _;exact seA);omega))|(apply WL.Q9;rotate_left;exact rfl;exact rfl;(apply LO.appLn;exact rfl;exact rfl;exact meA;exact hmA;(intro _;exact seA);omega))|(apply WL.Q9;rotate_left;exact rfl;exact rfl;(apply LO.appLn3;exact rfl;exact rfl;exact meA;exact hmA;exact hmA;exact hmA;(intro _;exact seA);omega))|refine Z.goV ?_|fail)
 exact Bx.h h):G:=s ⟨h⟩
def goDV{G G':Prop}(h:G')(s:Bx G'->G:=by
 intro h
 (first|(apply WD.ZL;exact rfl;rotate_left;exact rfl;exact rfl;(apply LO.V5;exact rfl;exact rfl;(repeat(first|(with_reducible apply QT.dbl)|(with_reducible apply QT.add)|(with_reducible exact QT.one)|exact QT.cast _));omega);apply Qb;(intro _;exact ltA))|(apply WD.ZL;exact rfl;rotate_left;exact rfl;exact rfl;(apply LO.makePu;exact rfl;exact rfl;(repeat(first|(with_reducible apply QT.dbl)|(with_reducible apply QT.add)|(with_reducible exact QT.one)|exact QT.cast _));omega);apply Qb;(intro _;exact ltA))|(apply WD.Jo;exact rfl;rotate_left;exact rfl;exact rfl;(apply LO.bsR2;exact rfl;exact rfl);apply Qb;(intro _;exact ltA))|(apply WD.Jo;exact rfl;rotate_left;exact rfl;exact rfl;(apply LO.bsE2;exact rfl;exact rfl);apply Qb;(intro _;exact ltA))|(apply WD.Jo;exact rfl;rotate_left;exact rfl;exact rfl;(apply LO.bsL1;exact rfl;exact knA);apply Qb;(intro _;exact ltA))|(apply WD.Jo;exact rfl;rotate_left;exact rfl;exact rfl;(apply LO.bsL3;exact rfl;exact rfl;exact rfl;exact knA;exact knA;exact knA);apply Qb;(intro _;exact ltA))|(apply WD.Q9;exact rfl;rotate_left;exact rfl;exact rfl;(apply LO.appR2;exact rfl;exact rfl;exact meA;exact hmA;exact hmA;(intro _;exact seA);omega);apply Qb;(intro _;exact ltA))|(apply WD.Q9;exact rfl;rotate_left;exact rfl;exact rfl;(apply LO.appE2;exact rfl;exact rfl;exact meA;exact hmA;(intro _;exact seA);omega);apply Qb;(intro _;exact ltA))|(apply WD.Q9;exact rfl;rotate_left;exact rfl;exact rfl;(apply LO.appLn;exact rfl;exact rfl;exact meA;exact hmA;(intro _;exact seA);omega);apply Qb;(intro _;exact ltA))|(apply WD.Q9;exact rfl;rotate_left;exact rfl;exact rfl;(apply LO.appLn3;exact rfl;exact rfl;exact meA;exact hmA;exact hmA;exact hmA;(intro _;exact seA);omega);apply Qb;(intro _;exact ltA))|refine Z.goDV ?_|fail)
 exact Bx.h h):G:=s ⟨h⟩
def goLV{G G':Prop}(h:G')(s:Bx G'->G:=by
 intro h
 (first|((apply LO.V5;exact rfl;exact rfl;(repeat(first|(with_reducible apply QT.dbl)|(with_reducible apply QT.add)|(with_reducible exact QT.one)|exact QT.cast _));omega);apply Qb;(intro _;exact ltA))|((apply LO.makePu;exact rfl;exact rfl;(repeat(first|(with_reducible apply QT.dbl)|(with_reducible apply QT.add)|(with_reducible exact QT.one)|exact QT.cast _));omega);apply Qb;(intro _;exact ltA))|((apply LO.bsR2;exact rfl;exact rfl);apply Qb;(intro _;exact ltA))|((apply LO.bsE2;exact rfl;exact rfl);apply Qb;(intro _;exact ltA))|((apply LO.bsL1;exact rfl;exact knA);apply Qb;(intro _;exact ltA))|((apply LO.bsL3;exact rfl;exact rfl;exact rfl;exact knA;exact knA;exact knA);apply Qb;(intro _;exact ltA))|((apply LO.appR2;exact rfl;exact rfl;exact meA;exact hmA;exact hmA;(intro _;exact seA);omega);apply Qb;(intro _;exact ltA))|((apply LO.appE2;exact rfl;exact rfl;exact meA;exact hmA;(intro _;exact seA);omega);apply Qb;(intro _;exact ltA))|((apply LO.appLn;exact rfl;exact rfl;exact meA;exact hmA;(intro _;exact seA);omega);apply Qb;(intro _;exact ltA))|((apply LO.appLn3;exact rfl;exact rfl;exact meA;exact hmA;exact hmA;exact hmA;(intro _;exact seA);omega);apply Qb;(intro _;exact ltA))|refine Z.goLV ?_|fail)
 exact Bx.h h):G:=s ⟨h⟩
def goLS{G G':Prop}(h:G')(s:Bx G'->G:=by
 intro h
 (first|((first|(apply LO.KW;exact rfl;exact rfl;exact t4A;exact seA;exact rfl;(first|(focus(apply V9;exact hmA;done))|(focus(apply one_b;exact hmA;done))|(focus(apply one_e;exact hmA;done))|(focus(apply ZT;exact hmA;done))))|(apply LO.storeC;exact rfl;exact rfl;exact t4A;exact seA;(repeat(first|exact Pt.nil|apply Pt.cons|apply Pt.skip));(repeat(first|exact QP.nil|(apply QP.cons;(first|exact One.lit rfl rfl|(apply One.sl;exact knA))))))|(apply LO.Xy;exact rfl;exact rfl;exact t3A;exact seA;(first|omega|(simp only[List.length_set];omega)))|(apply LO.KZ;exact rfl;exact rfl;exact t4A;exact hmA;exact seA;omega)|(apply LO.Xv;exact rfl;exact rfl;exact t3A;(first|exact One.lit rfl rfl|(apply One.sl;exact knA));exact seA;(first|(simp only[List.length_cons,List.length_nil];omega)|(simp;omega));(first|(simp only[List.set_cons_succ,List.set_cons_zero];exact rfl)|exact rfl))|(apply LO.JF;exact rfl;exact rfl;exact t3A;(first|exact One.lit rfl rfl|(apply One.sl;exact knA));exact seA;(first|(simp only[List.length_cons,List.length_nil];omega)|(simp;omega));(first|(simp only[List.set_cons_succ,List.set_cons_zero];exact rfl)|exact rfl))|(apply LO.X2;exact rfl;exact rfl;exact seA;exact t4A;exact rfl;exact rfl;(repeat(first|exact QP.nil|(apply QP.cons;(first|exact One.lit rfl rfl|(apply One.sl;exact knA)))))));constructor;exact ltA))
 exact Bx.h h):G:=s ⟨h⟩
def Zp{G G':Prop}(h:G')(s:Bx G'->G:=by
 intro h;refine Z.Zp ?_;exact Bx.h h):G:=s ⟨h⟩
def goYL{G G':Prop}(h:G')(s:Bx G'->G:=by
 intro h
 (apply WD.fy;exact rfl;(first|(apply YO.move;exact rfl)|(apply YO.assign;exact rfl)|exact Kz|exact Z9|exact Kx|exact Jj|exact Yt|exact YQ|exact Q7|exact Zd|exact Kw|(apply YO.nil;exact rfl)|(apply YO.extract;exact rfl;exact rfl)|exact Kj|exact Kq|exact Vp|(apply YO.sub;exact rfl;exact rfl;omega;omega)|exact Kk|exact Ku|exact Kv|exact YJ|exact ZX|(apply YO.max;exact rfl;exact rfl)|(apply YO.min;exact rfl;exact rfl)|exact J3|exact KE|exact Ze|(apply YO.shr';exact rfl;exact rfl;omega;omega)|exact Vo|exact y_or|exact Xo);exact rfl;exact rfl)
 exact Bx.h h):G:=s ⟨h⟩
section
variable {P:Program}{n:Nat}{L rest:List Oper}{e:Env}{bx b0:List Ow}{F F0:List Fct}{Q:Env->List Ow->List Fct->Prop}{d i:Nat}{ty:TypeId}{pos:String}{af:Array Edge}{g:Option (Nat×Bool)}{hs:List Nat}{r:Plan}
 {f:FuncId} {x:Operand} {args:List Operand} {ats:Array TypeId} {vs cs:List Value} {F':List Fct} {u:Value} {el sz:Nat}
def WL.Yv(hf:FnB P f vs [] F' (IsV u))(hK:WL P n L rest ((d,u)::e) bx F Q)(hx:ev e x=some (.func (.func f) #[] #[]):=by exact rfl)(hv:Evs e args vs:=by repeat(first|exact Evs.nil|(apply Evs.cons;exact rfl)))(hF:Qp bx F F':=by repeat(first|exact Qp.nil|(apply Qp.cons;(first|(focus(apply Qm.oI;exact meA;done))|(focus(apply Qm.c;exact meA;done))|(focus(apply Qm.f;exact hsA;done))|(focus(apply Qm.fF;exact meA;exact hmA;done))|(focus(apply Qm.rows;(repeat(first|exact List.Sublist.refl _|apply List.Sublist.cons));exact hmA;done))|(focus(apply Qm.sV;exact meA;done))|(focus(apply Qm.sN;exact meA;done))))))
  (hd:Nat.blt d n=true:=by exact rfl) (hg:gok L e g=some true:=by exact rfl):WL P n L (⟨some d,.call {callee:=.value x,args:=args.toArray,argTypes:=ats},ty,pos,af,g⟩::rest) e bx F Q:=
 WL.l hd hg (LO.Ke hx hv hf hF hK)
def WL.callO(hf:FnB P f vs [] F' (IsO el sz cs))(hK:∀v,WL P n L rest ((d,v)::e) (Ow.slice v el sz cs::bx) F Q)(hx:ev e x=some (.func (.func f) #[] #[]):=by exact rfl)(hv:Evs e args vs:=by repeat(first|exact Evs.nil|(apply Evs.cons;exact rfl)))(hF:Qp bx F F':=by repeat(first|exact Qp.nil|(apply Qp.cons;(first|(focus(apply Qm.oI;exact meA;done))|(focus(apply Qm.c;exact meA;done))|(focus(apply Qm.f;exact hsA;done))|(focus(apply Qm.fF;exact meA;exact hmA;done))|(focus(apply Qm.rows;(repeat(first|exact List.Sublist.refl _|apply List.Sublist.cons));exact hmA;done))|(focus(apply Qm.sV;exact meA;done))|(focus(apply Qm.sN;exact meA;done))))))
  (hd:Nat.blt d n=true:=by exact rfl) (hg:gok L e g=some true:=by exact rfl):WL P n L (⟨some d,.call {callee:=.value x,args:=args.toArray,argTypes:=ats},ty,pos,af,g⟩::rest) e bx F Q:=
 WL.l hd hg (LO.callRO hx hv hf hF hK)
def WD.Yv(hf:FnB P f vs [] F' (IsV u))(hK:WD P n L hs b0 F0 r ((d,u)::e) bx F Q)(hL:L[i]?=some ⟨some d,.call {callee:=.value x,args:=args.toArray,argTypes:=ats},ty,pos,af,g⟩:=by exact rfl)(hx:ev e x=some (.func (.func f) #[] #[]):=by exact rfl)(hv:Evs e args vs:=by repeat(first|exact Evs.nil|(apply Evs.cons;exact rfl)))(hF:Qp bx F F':=by repeat(first|exact Qp.nil|(apply Qp.cons;(first|(focus(apply Qm.oI;exact meA;done))|(focus(apply Qm.c;exact meA;done))|(focus(apply Qm.f;exact hsA;done))|(focus(apply Qm.fF;exact meA;exact hmA;done))|(focus(apply Qm.rows;(repeat(first|exact List.Sublist.refl _|apply List.Sublist.cons));exact hmA;done))|(focus(apply Qm.sV;exact meA;done))|(focus(apply Qm.sN;exact meA;done))))))
  (hd:Nat.blt d n=true:=by exact rfl) (hg:gok L e g=some true:=by exact rfl) (lt:QF L hs i=true\/(b0.Sublist bx/\∀f∈F0,f∈F):=by exact ltA):WD P n L hs b0 F0 (.loud i r) e bx F Q:=
 WD.l hL hd hg (LO.Ke hx hv hf hF ⟨lt,hK⟩)
end
end K
end
section
open W Go.RowKit
open Bl (Vc)
def nsum{n K i:Nat}{q:Nat->Rat}(hK:n*(K+1)+1<=400000000)(hi:i<=n)(h:∀i,i<n->Sq K (q i)):Sm (X.sm i q):=
 (X.Zh λj hj=>h j qo).sm (by have:=Nat.mul_le_mul_right (K+1) hi;omega)
namespace K
attribute [local irreducible] WC WL WD YO LO Qq W.Fin Qk Qw Qj Row QJ Qv KnS Has W.One Qa Qs
def d109{G G':Prop}(h:G')(s:Bx G'->G:=by
 intro h;first|refine gB ?_|(apply WC.draw (id:=1) [0,1,2,3,5,6,7,8] (.h 0<|.h 1<|.h 2<|.h 3<|.h 5<|.h 6<|.h 7<|.h 8<|.l 4<|.l 9<|.l 10<|.l 11<|.l 12<|.l 13 .done) mixed kr)|fail
 exact Bx.h h):G:=s ⟨h⟩
def d110{G G':Prop}(h:G')(s:Bx G'->G:=by
 intro h;first|refine gB ?_|(apply WC.draw (id:=1) [0,1,2,3,5,6,7,8,10] (.h 0<|.h 1<|.h 2<|.h 3<|.h 5<|.h 6<|.h 7<|.h 8<|.l 4<|.l 9<|.h 10<|.l 11 .done) mixed kr)|fail
 exact Bx.h h):G:=s ⟨h⟩
def d173{G G':Prop}(h:G')(s:Bx G'->G:=by
 intro h;first|refine gB ?_|(apply WC.draw (id:=1) [0,1,2,3,5,6,7,8,10] (.h 0<|.h 1<|.h 2<|.h 3<|.h 5<|.h 6<|.h 7<|.h 8<|.l 4<|.l 9<|.h 10<|.l 11 .done) mixed kr)|fail
 exact Bx.h h):G:=s ⟨h⟩
def d174{G G':Prop}(h:G')(s:Bx G'->G:=by
 intro h;first|refine gB ?_|(apply WC.draw (id:=1) [0,1,2,4,5,6,8] (.h 0<|.h 1<|.h 2<|.h 4<|.h 5<|.h 6<|.l 3<|.l 7<|.h 8<|.l 9 .done) mixed kr)|fail
 exact Bx.h h):G:=s ⟨h⟩
def d177{G G':Prop}(h:G')(s:Bx G'->G:=by
 intro h;first|refine gB ?_|(apply WC.draw (id:=1) [0,1,2,3,5,6,7,8] (.h 0<|.h 1<|.h 2<|.h 3<|.h 5<|.h 6<|.h 7<|.h 8<|.l 4<|.l 9<|.l 10<|.l 11<|.l 12 .done) mixed kr)|fail
 exact Bx.h h):G:=s ⟨h⟩
def sum_c(v:Value)(n K:Nat)(ms:Nat->QM)(q:Nat->Rat)(hK:n*(K+1)+1<=400000000)(hk:K<=400000000)(h:∀i,i<n->Sq K (q i)):FnB Tryz.prog 183 [v] [] [fF v n ms q] (IsR (X.sm n q)):=by
 refine fO [(0,v)] 17 Tryz.func183 Tryz.ntmps183 λh0=>?_;refine WC.lenF (v:=v) (m:=n) (W.Has.fs (ms:=ms) (qf:=q) hmA) λhm=>?_;repeat'(first|intro(g:Nat)|refine gA ?_|intro v)
 revert g;intro g3;refine WC.lp (σ:=Nat×QM) (λst=>[(8,.int .i64 (st.1:Int)),(7,.int .i64 (n:Int)),(6,v),(3,ptr g3),(2,ptr g)]) (λst=>[Ow.cells g3 75 (qcs st.2),Ow.cells g 75 (qcs m00)]) (λst=>[isQ (qv st.2) (X.sm st.1 q),ge h0,fF v n ms q]) (λst=>st.1<=n) (λst=>n-st.1) (0,m00) (Nat.zero_le _) ?_ (hG:=.cons Jm haA);rintro⟨i,m⟩ hi;simp only at hi ⊢;by_cases c:i<n
 ·refine WC.fact (isQ (qv (ms i)) (q i)) (W.Has.q (W.Has.fm (v:=v) hmA) c) ?_;repeat'(first|intro(g:Nat)|refine gA ?_|intro v)
  refine cW (Zn.add m (ms i) (X.sm i q) (q i) (nsum hK hi h) ((h i c).sm hk)) λm2=>?_;repeat'(first|intro(g:Nat)|refine gA ?_|intro v)
  exact Qq.mk (i+1,m2) (by simp only;omega) (by simp only;omega)
 ·obtain rfl:i=n:=qo;repeat'(first|intro(g:Nat)|refine gA ?_|intro v)
  refine WC.ret ?_;exact Fp [isQ (qv m) (X.sm i q)] (rcV T.r75) haA ⟨m,rfl,rfl,rfl⟩
def vadd_c(m1 m2:VM)(a b:Vc)(K:Nat)(hK:K<=100000000)(ha:Sv K a)(hb:Sv K b):FnB Tryz.prog 173 [vv m1,vv m2] [] [fV m1 a,fV m2 b] (IsVc (⟨a.x+b.x,a.y+b.y⟩)):=by
 refine fO [(0,(vv m1)),(1,(vv m2))] 16 Tryz.func173 Tryz.ntmps173 λh0=>?_;repeat'(first|intro(g:Nat)|refine d173 ?_|intro v)
 refine cW (Zn.add m1.1 m2.1 a.x b.x (ha.1.sm qo) (hb.1.sm qo)) λn1=>?_;repeat'(first|intro(g:Nat)|refine d173 ?_|intro v)
 refine cW (Zn.add m1.2 m2.2 a.y b.y (ha.2.sm qo) (hb.2.sm qo)) λn2=>?_;repeat'(first|intro(g:Nat)|refine d173 ?_|intro v)
 refine WC.ret ?_;exact Fp [fV (n1,n2) (⟨a.x+b.x,a.y+b.y⟩)] (rcV T.r77) haA ⟨(n1,n2),rfl,rfl,rfl⟩
def vsub_c(m1 m2:VM)(a b:Vc)(K:Nat)(hK:K<=100000000)(ha:Sv K a)(hb:Sv K b):FnB Tryz.prog 110 [vv m1,vv m2] [] [fV m1 a,fV m2 b] (IsVc (Bl.XY a b)):=by
 refine fO [(0,(vv m1)),(1,(vv m2))] 16 Tryz.func110 Tryz.ntmps110 λh0=>?_;repeat'(first|intro(g:Nat)|refine d110 ?_|intro v)
 refine cW (Zn.sub m1.1 m2.1 a.x b.x (ha.1.sm qo) (hb.1.sm qo)) λn1=>?_;repeat'(first|intro(g:Nat)|refine d110 ?_|intro v)
 refine cW (Zn.sub m1.2 m2.2 a.y b.y (ha.2.sm qo) (hb.2.sm qo)) λn2=>?_;repeat'(first|intro(g:Nat)|refine d110 ?_|intro v)
 refine WC.ret ?_;exact Fp [fV (n1,n2) (Bl.XY a b)] (rcV T.r77) haA ⟨(n1,n2),rfl,rfl,rfl⟩
def Vl(m1:VM)(mk:QM)(a:Vc)(k:Rat)(K:Nat)(hK:K<=100000000)(ha:Sv K a)(hk:Sq K k):FnB Tryz.prog 174 [vv m1,qv mk] [] [fV m1 a,isQ (qv mk) k] (IsVc ⟨a.x*k,a.y*k⟩):=by
 refine fO [(0,(vv m1)),(1,(qv mk))] 14 Tryz.func174 Tryz.ntmps174 λh0=>?_;repeat'(first|intro(g:Nat)|refine d174 ?_|intro v)
 refine cW (Zn.mul m1.1 mk a.x k (ha.1.sm qo) (hk.sm qo)) λn1=>?_;repeat'(first|intro(g:Nat)|refine d174 ?_|intro v)
 refine cW (Zn.mul m1.2 mk a.y k (ha.2.sm qo) (hk.sm qo)) λn2=>?_;repeat'(first|intro(g:Nat)|refine d174 ?_|intro v)
 refine WC.ret ?_;exact Fp [fV (n1,n2) ⟨a.x*k,a.y*k⟩] (rcV T.r77) haA ⟨(n1,n2),rfl,rfl,rfl⟩
def vcross_c(m1 m2:VM)(a b:Vc)(K:Nat)(hK:K<=10000000)(ha:Sv K a)(hb:Sv K b):FnB Tryz.prog 109 [vv m1,vv m2] [] [fV m1 a,fV m2 b] (IsR (Bl.JE a b)):=by
 refine fO [(0,(vv m1)),(1,(vv m2))] 18 Tryz.func109 Tryz.ntmps109 λh0=>?_;repeat'(first|intro(g:Nat)|refine d109 ?_|intro v)
 refine cW (Zn.mul m1.1 m2.2 a.x b.y (ha.1.sm qo) (hb.2.sm qo)) λn1=>?_;repeat'(first|intro(g:Nat)|refine d109 ?_|intro v)
 refine cW (Zn.mul m1.2 m2.1 a.y b.x (ha.2.sm qo) (hb.1.sm qo)) λn2=>?_;repeat'(first|intro(g:Nat)|refine d109 ?_|intro v)
 refine cW (Zn.neg n2 (a.y*b.x)) λn3=>?_;repeat'(first|intro(g:Nat)|refine d109 ?_|intro v)
 refine WD.frz v 2 (upd (upd (λ_=>m00) 0 n1) 1 n3) (λi=>if i=0 then a.x*b.y else -(a.y*b.x)) (by repeat(first|exact Sel.head|apply Sel.tail)) (mF2 hmA hmA) ?_;refine cW (sum_c v 2 (K+K) (upd (upd (λ_=>m00) 0 n1) 1 n3) (λi=>if i=0 then a.x*b.y else -(a.y*b.x)) qo qo (λi _=>by show Sq _ (if _ then _ else _);split;exact ha.1.mul hb.2;exact(ha.2.mul hb.1).neg)) λn4=>?_;rw[sm2,show a.x*b.y+ -(a.y*b.x)=Bl.JE a b by unfold Bl.JE;grind];repeat'(first|intro(g:Nat)|refine d109 ?_|intro v)
 refine WC.ret ?_;exact Fp [isQ (qv n4) (Bl.JE a b)] (rcV T.r75) haA ⟨n4,rfl,rfl,rfl⟩
def vdot_c(m1 m2:VM)(a b:Vc)(K:Nat)(hK:K<=10000000)(ha:Sv K a)(hb:Sv K b):FnB Tryz.prog 177 [vv m1,vv m2] [] [fV m1 a,fV m2 b] (IsR (a.x*b.x+a.y*b.y)):=by
 refine fO [(0,(vv m1)),(1,(vv m2))] 17 Tryz.func177 Tryz.ntmps177 λh0=>?_;repeat'(first|intro(g:Nat)|refine d177 ?_|intro v)
 refine cW (Zn.mul m1.1 m2.1 a.x b.x (ha.1.sm qo) (hb.1.sm qo)) λn1=>?_;repeat'(first|intro(g:Nat)|refine d177 ?_|intro v)
 refine cW (Zn.mul m1.2 m2.2 a.y b.y (ha.2.sm qo) (hb.2.sm qo)) λn3=>?_;repeat'(first|intro(g:Nat)|refine d177 ?_|intro v)
 refine WD.frz v 2 (upd (upd (λ_=>m00) 0 n1) 1 n3) (λi=>if i=0 then a.x*b.x else a.y*b.y) (by repeat(first|exact Sel.head|apply Sel.tail)) (mF2 hmA hmA) ?_;refine cW (sum_c v 2 (K+K) (upd (upd (λ_=>m00) 0 n1) 1 n3) (λi=>if i=0 then a.x*b.x else a.y*b.y) qo qo (λi _=>by show Sq _ (if _ then _ else _);split;exact ha.1.mul hb.1;exact ha.2.mul hb.2)) λn4=>?_;rw[sm2];repeat'(first|intro(g:Nat)|refine d177 ?_|intro v)
 refine WC.ret ?_;exact Fp [isQ (qv n4) (a.x*b.x+a.y*b.y)] (rcV T.r75) haA ⟨n4,rfl,rfl,rfl⟩
def vsame_c(m1 m2:VM)(a b:Vc):FnB Tryz.prog 175 [vv m1,vv m2] [] [fV m1 a,fV m2 b] (IsV (.bool (decide (a.x=b.x/\a.y=b.y)))):=by
 refine fO [(0,(vv m1)),(1,(vv m2))] 17 Tryz.func175 Tryz.ntmps175 λh0=>?_;repeat'(first|intro(g:Nat)|refine gA ?_|intro v)
 refine cV (Zn.same m1.1 m2.1 a.x b.x) ?_;by_cases c:a.x=b.x
 ·rw[decide_eq_true c];repeat'(first|intro(g:Nat)|refine gA ?_|intro v)
  refine cV (Zn.same m1.2 m2.2 a.y b.y) ?_;repeat'(first|intro(g:Nat)|refine gA ?_|intro v)
  refine WC.ret ?_;exact Fin.v (Qh.t1 rfl rfl) meA (by simp[c])
 ·rw[decide_eq_false c];repeat'(first|intro(g:Nat)|refine gA ?_|intro v)
  refine WC.ret ?_;exact Fin.v (Qh.t1 rfl rfl) meA (by simp[c])
end K
end
end Go.Proofs.YtbnobghgnbockaaGreat
