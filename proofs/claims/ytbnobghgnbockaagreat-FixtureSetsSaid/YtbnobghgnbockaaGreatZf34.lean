/- Lemmas for a law. Conditions: none. -/
import Derived.Test.YtbnobghgnbockaaGreatZf33
import Derived.Test.YtbnobghgnbockaaGreatProg
set_option linter.all false
set_option maxHeartbeats 32000000
set_option maxRecDepth 100000
namespace Go.Proofs.YtbnobghgnbockaaGreat
section
namespace Fx
open Bl X
def QR(a b:Int):Tc:=⟨0,-1,⟨Rat.divInt a 2,0⟩,⟨Rat.divInt b 2,0⟩,⟨((0:Int):Rat),((1:Int):Rat)⟩,0⟩
def exB:Bd:=⟨⟨((1:Int):Rat),((1:Int):Rat)⟩,Rat.divInt 1 1,Rat.divInt 2 1,Rat.divInt 10 1⟩
structure ExS(S:Sc):Prop where
 n:S.n=1
 B:S.B 0=exB
 T:∀j,j<S.m->∃a b,S.T j=QR a b
def ex_frc(a b:Int)(u v:Rat):on (QR a b) 0 (frc (QR a b) u v)=⟨-v,u⟩:=by
 have e:on (QR a b) 0 (frc (QR a b) u v)=frc (QR a b) u v:=if_pos rfl;rw[e];show Vc.mk (u*((0:Int):Rat)-v*((1:Int):Rat)) (u*((1:Int):Rat)+v*((0:Int):Rat))=_;have c0:((0:Int):Rat)=0:=rfl;have c1:((1:Int):Rat)=1:=rfl;rw[c0,c1,Vc.mk.injEq];constructor<;>grind
def K9{S:Sc}(h:ExS S){w u v:Nat->Rat}:Bal S w u v↔(∀k,k<2*S.m->0<=u k/\v k=0)/\sm (2*S.m) u=w 0/\sm (2*S.m) (λk=>((S.at k).x-1)*u k)=0/\sm (2*S.m) u<=10:=by
 have c1:((1:Int):Rat)=1:=rfl;have d10:Rat.divInt 10 1=10:=by decide +kernel
 have hr:∀k,k<2*S.m->(S.T (k/2)).r=0:=λk hk=>by
  obtain⟨a,b,e⟩:=h.T (k/2) qo;rw[e];rfl
 have hv:(∀k,k<2*S.m->0<=u k/\v k<=(S.T (k/2)).r*u k/\-v k<=(S.T (k/2)).r*u k)↔∀k,k<2*S.m->0<=u k/\v k=0:=by
  constructor
  ·intro g k hk;have:=g k hk;rw[hr k hk] at this;refine⟨this.1,?_⟩;grind
  ·intro g k hk;have:=g k hk;rw[hr k hk];refine⟨this.1,by grind,by grind⟩
 unfold Bal;rw[hv,h.n];refine and_congr_right λg=>?_
 have e1:sm (2*S.m) (λk=>(on (S.T (k/2)) 0 (frc (S.T (k/2)) (u k) (v k))).x)=sm (2*S.m) λ_=>0:=Qd λk hk=>by
  obtain⟨a,b,e⟩:=h.T (k/2) qo;rw[e,ex_frc,(g k hk).2];grind
 have e2:sm (2*S.m) (λk=>(on (S.T (k/2)) 0 (frc (S.T (k/2)) (u k) (v k))).y)=sm (2*S.m) u:=Qd λk hk=>by
  obtain⟨a,b,e⟩:=h.T (k/2) qo;rw[e,ex_frc]
 have e3:sm (2*S.m) (λk=>JE (XY (S.at k) (S.B 0).c) (on (S.T (k/2)) 0 (frc (S.T (k/2)) (u k) (v k))))=sm (2*S.m) λk=>((S.at k).x-1)*u k:=Qd λk hk=>by
  obtain⟨a,b,e⟩:=h.T (k/2) qo;rw[e,ex_frc,(g k hk).2,h.B];show((S.at k).x-((1:Int):Rat))*u k-((S.at k).y-((1:Int):Rat))* -0=_;rw[c1];grind
 have e4:sm (2*S.m) (λk=>if tch (S.T (k/2)) 0 then spn (S.T (k/2)).n*u k else 0)=sm (2*S.m) u:=Qd λk hk=>by
  obtain⟨a,b,e⟩:=h.T (k/2) qo;rw[e,if_pos (show tch (QR a b) 0 from .inl rfl)]
  have:spn (QR a b).n=1:=by
   show spn ⟨((0:Int):Rat),((1:Int):Rat)⟩=1;decide +kernel
  rw[this];grind
 have z:∀n,sm n (λ_=>(0:Rat))=0:=λn=>by
  induction n with
  |zero=>rfl
  |succ n ih=>show sm n _+0=0;rw[ih];grind
 have hst:(S.B 0).st=10:=by rw[h.B];exact d10
 constructor
 ·intro q;obtain⟨a,b,c,d⟩:=q 0 qd;rw[e2] at b;rw[e3] at c;rw[e4,hst] at d;exact⟨b,c,d⟩
 ·rintro⟨b,c,d⟩ i hi;obtain rfl:i=0:=qo;rw[e1,e2,e3,e4,hst,z];exact⟨rfl,b,c,d⟩
def exC(L:List Tc):Sc:=scL 1 (λ_=>exB) (QR 0 0) L
def HW{L:List Tc}(h:∀x∈L,∃a b,x=QR a b):ExS (exC L):=⟨rfl,rfl,UW h⟩
def HV(L:List Tc)(c:Nat):(exC L).wt c 0=1\/(exC L).wt c 0=2:=by
 have d1:Rat.divInt 1 1=1:=by decide +kernel
 have d2:Rat.divInt 2 1=2:=by decide +kernel
 unfold Sc.wt;split
 ·exact .inr d2
 ·exact .inl d1
def sup1(a b:Int):∀x∈[QR a b],∃a b,x=QR a b:=λx hx=>⟨a,b,List.mem_singleton.1 hx⟩
def HU:¬Js 1 (λ_=>exB) (QR 0 0) []:=λh=>by
 obtain⟨x,hx⟩:=h 0 qd;have h2:=((K9 (HW (L:=[]) λx hx=>(List.not_mem_nil hx).elim)).1 (U1.1 hx)).2.1;have h3:(0:Rat)=(exC []).wt 0 0:=h2;rcases HV [] 0 with e|e<;>rw[e] at h3<;>exact absurd h3 qd
def sm2(f:Nat->Rat):sm (2*1) f=f 0+f 1:=by show 0+f 0+f 1=_;rw[Rat.zero_add]
def sm4(f:Nat->Rat):sm (2*2) f=f 0+f 1+f 2+f 3:=by show 0+f 0+f 1+f 2+f 3=_;rw[Rat.zero_add]
def Ko{a b:Int}(h:(a<2/\b<2)\/(2<a/\2<b)):¬Js 1 (λ_=>exB) (QR 0 0) [QR a b]:=λhs=>by
 obtain⟨x,hx⟩:=hs 0 qd;obtain⟨h1,h2,h3,h4⟩:=(K9 (HW (sup1 a b))).1 (U1.1 hx);have a0:=(h1 0 (by show 0<2*1;decide)).1;have a1:=(h1 1 (by show 1<2*1;decide)).1;have h2:sm (2*1) (λk=>x (2*k))=_:=h2;have h3:sm (2*1) (λk=>_*x (2*k))=0:=h3;rw[sm2] at h2 h3;have h3:(Rat.divInt a 2-1)*x (2*0)+(Rat.divInt b 2-1)*x (2*1)=0:=h3
 have ha:Rat.divInt a 2*2=(a:Rat):=by
  rw[Rat.divInt_eq_div,Rat.div_def,Rat.mul_assoc];have:((2:Int):Rat)⁻¹*2=1:=by decide +kernel
  rw[this,Rat.mul_one]
 have hb:Rat.divInt b 2*2=(b:Rat):=by
  rw[Rat.divInt_eq_div,Rat.div_def,Rat.mul_assoc];have:((2:Int):Rat)⁻¹*2=1:=by decide +kernel
  rw[this,Rat.mul_one]
 have hw:0<x (2*0)+x (2*1):=by
  rcases HV [QR a b] 0 with e|e
  ·have h2:_=(1:Rat):=h2.trans e;rw[h2];decide
  ·have h2:_=(2:Rat):=h2.trans e;rw[h2];decide
 generalize x (2*0)=p at *;generalize x (2*1)=q at *;generalize Rat.divInt a 2=A at *;generalize Rat.divInt b 2=B at *;rcases h with ⟨h5,h6⟩|⟨h5,h6⟩
 ·have i1:A<1:=by
   have:(a:Rat)<((2:Int):Rat):=by exact_mod_cast h5
   have c2:((2:Int):Rat)=2:=rfl;rw[c2] at this;grind
  have i2:B<1:=by
   have:(b:Rat)<((2:Int):Rat):=by exact_mod_cast h6
   have c2:((2:Int):Rat)=2:=rfl;rw[c2] at this;grind
  have j1:0<=(1-A)*p:=Rat.mul_nonneg (by grind) a0;have j2:0<=(1-B)*q:=Rat.mul_nonneg (by grind) a1;rcases(Rat.le_iff_lt_or_eq ..).1 a0 with c|c
  ·have:=Rat.mul_pos (show 0<1-A by grind) c;grind
  ·have:=Rat.mul_pos (show 0<1-B by grind) (show 0<q by grind);grind
 ·have i1:1<A:=by
   have:((2:Int):Rat)<(a:Rat):=by exact_mod_cast h5
   have c2:((2:Int):Rat)=2:=rfl;rw[c2] at this;grind
  have i2:1<B:=by
   have:((2:Int):Rat)<(b:Rat):=by exact_mod_cast h6
   have c2:((2:Int):Rat)=2:=rfl;rw[c2] at this;grind
  have j1:0<=(A-1)*p:=Rat.mul_nonneg (by grind) a0;have j2:0<=(B-1)*q:=Rat.mul_nonneg (by grind) a1;rcases(Rat.le_iff_lt_or_eq ..).1 a0 with c|c
  ·have:=Rat.mul_pos (show 0<A-1 by grind) c;grind
  ·have:=Rat.mul_pos (show 0<B-1 by grind) (show 0<q by grind);grind
def ex_mid:Js 1 (λ_=>exB) (QR 0 0) [QR 1 3]:=λc _=>by
 have hw:=HV [QR 1 3] c;generalize hq:(exC [QR 1 3]).wt c 0=w at hw;refine⟨λj=>if j%2=0 then Rat.divInt 1 2*w else 0,U1.2 ((K9 (HW (sup1 1 3))).2 ⟨λk _=>?_,?_,?_,?_⟩)⟩
 ·rw[if_pos qo,if_neg qo];rcases hw with rfl|rfl<;>exact⟨by decide +kernel,rfl⟩
 ·show sm (2*1) _=(exC [QR 1 3]).wt c 0;rw[sm2,hq];rcases hw with rfl|rfl<;>decide +kernel
 ·show sm (2*1) _=0;rw[sm2];show(Rat.divInt 1 2-1)*(Rat.divInt 1 2*w)+(Rat.divInt 3 2-1)*(Rat.divInt 1 2*w)=0;rcases hw with rfl|rfl<;>decide +kernel
 ·show sm (2*1) _<=10;rw[sm2];rcases hw with rfl|rfl<;>decide +kernel
def ex_two:Js 1 (λ_=>exB) (QR 0 0) [QR 0 1,QR 3 4]:=λc _=>by
 have hw:=HV [QR 0 1,QR 3 4] c
 have hs:∀x∈[QR 0 1,QR 3 4],∃a b,x=QR a b:=λx hx=>by
  rcases List.mem_cons.1 hx with e|hx
  ·exact⟨0,1,e⟩
  ·exact⟨3,4,List.mem_singleton.1 hx⟩
 generalize hq:(exC [QR 0 1,QR 3 4]).wt c 0=w at hw;refine⟨λj=>if j=0\/j=6 then Rat.divInt 1 2*w else 0,U1.2 ((K9 (HW hs)).2 ⟨λk _=>⟨?_,if_neg qo⟩,?_,?_,?_⟩)⟩
 ·show 0<=if 2*k=0\/2*k=6 then _ else _;split
  ·rcases hw with rfl|rfl<;>decide +kernel
  ·decide
 ·show sm (2*2) _=(exC [QR 0 1,QR 3 4]).wt c 0;rw[sm4,hq];rcases hw with rfl|rfl<;>decide +kernel
 ·show sm (2*2) _=0;rw[sm4];show(Rat.divInt 0 2-1)*(Rat.divInt 1 2*w)+(Rat.divInt 1 2-1)*0+(Rat.divInt 3 2-1)*0+(Rat.divInt 4 2-1)*(Rat.divInt 1 2*w)=0;rcases hw with rfl|rfl<;>decide +kernel
 ·show sm (2*2) _<=10;rw[sm4];rcases hw with rfl|rfl<;>decide +kernel
def exP:List (List Tc):=[[QR 0 1],[QR 3 4],[QR 1 3]]
def Y9:List (List Tc):=[[QR 0 1],[QR 3 4]]
def Ya:QX [] exP 2=[[],[0],[1],[2],[0,1],[0,2],[1,2]]/\QX [] Y9 2=[[],[0],[1],[0,1]]/\QX [] Y9 1=[[],[0],[1]]/\Jk 3 2=[[],[0],[1],[2],[0,1],[0,2],[1,2]]:=by
 have h1:Jk 3 2=[[],[0],[1],[2],[0,1],[0,2],[1,2]]:=by decide +kernel
 have h2:Jk 2 2=[[],[0],[1],[0,1]]:=by decide +kernel
 have h3:Jk 2 1=[[],[0],[1]]:=by decide +kernel
 refine⟨?_,?_,?_,h1⟩
 ·show(Jk 3 2).filter _=_;rw[h1];rfl
 ·show(Jk 2 2).filter _=_;rw[h2];rfl
 ·show(Jk 2 1).filter _=_;rw[h3];rfl
def Km:Ans (QX [] exP 2) (StP 1 (λ_=>exB) (QR 0 0) [] exP) (some 3)/\Ans (QX [] Y9 2) (StP 1 (λ_=>exB) (QR 0 0) [] Y9) (some 3)/\Ans (QX [] Y9 1) (StP 1 (λ_=>exB) (QR 0 0) [] Y9) none:=by
 obtain⟨h1,h2,h3,_⟩:=Ya;rw[h1,h2,h3];have three:∀j,j<3->j=0\/j=1\/j=2:=λj h=>by omega
 refine⟨⟨by decide,ex_mid,λj hj=>?_⟩,⟨by decide,ex_two,λj hj=>?_⟩,λj hj=>?_⟩
 ·rcases three j hj with rfl|rfl|rfl
  ·exact HU
  ·exact Ko (.inl ⟨by decide,by decide⟩)
  ·exact Ko (.inr ⟨by decide,by decide⟩)
 ·rcases three j hj with rfl|rfl|rfl
  ·exact HU
  ·exact Ko (.inl ⟨by decide,by decide⟩)
  ·exact Ko (.inr ⟨by decide,by decide⟩)
 ·rcases three j hj with rfl|rfl|rfl
  ·exact HU
  ·exact Ko (.inl ⟨by decide,by decide⟩)
  ·exact Ko (.inr ⟨by decide,by decide⟩)
end Fx
end
section
open W Go.RowKit
open Bl (Vc Bd Tc Sc)
abbrev d0:Tc:=Fx.QR 0 0
abbrev tl(L:List Tc)(j:Nat):Tc:=L.getD j d0
abbrev sl(C:List (List Int))(j:Nat):List Int:=C.getD j []
abbrev pl(C:List (List Tc))(j:Nat):List Tc:=C.getD j []
abbrev Qn:Shp Value (List Int):=⟨1,λm _=>[m],λm a=>sI m a,by decide,λ_ _=>rfl⟩
abbrev tlS:Shp (Value×(Nat->ToM)) (List Tc):=⟨1,λm _=>[m.1],λm a=>lF Qo m.1 a.length m.2 (tl a),by decide,λ_ _=>rfl⟩
def YV{α:Type}(n:Nat)(f g:Nat->α)(j:Nat):α:=if j<n then f j else g (j-n)
def VN{α:Type}(C:List α)(s d:α):upd (λj=>C.getD j d) C.length s=λj=>(C++[s]).getD j d:=funext λj=>by
 unfold upd;simp only[List.getD_eq_getElem?_getD];by_cases e:j=C.length
 ·subst e;rw[if_pos rfl];simp
 ·rw[if_neg e];by_cases h:j<C.length
  ·rw[List.getElem?_append_left h]
  ·rw[List.getElem?_append_right qo,List.getElem?_eq_none qo];obtain⟨q,hq⟩:∃q,j-C.length=q+1:=⟨j-C.length-1,by omega⟩
   rw[hq];simp
def UY{α:Type}(C D:List α)(d:α):YV C.length (λj=>C.getD j d) (λj=>D.getD j d)=λj=>(C++D).getD j d:=funext λj=>by
 unfold YV;simp only[List.getD_eq_getElem?_getD];by_cases h:j<C.length
 ·rw[if_pos h,List.getElem?_append_left h]
 ·rw[if_neg h,List.getElem?_append_right qo]
section
variable {M α:Type}{S:Shp M α}{P:Program}{e:Env}{bx bx':List Ow}{F:List Fct}{ty t el:TypeId}{v u:Value}{x y:Operand}{n k:Nat}{ms ms2:Nat->M}{xs xs2:Nat->α}{K:Qg}
def lcells_cat2:Qt S n ms xs++Qt S k ms2 xs2=Qt S (n+k) (YV n ms ms2) (YV n xs xs2):=by
 have hp:=S.pos;refine Jn (by rw[List.length_append,Qy,Qy,Nat.add_mul]) λj hj=>?_;by_cases h:j<n*S.w
 ·rw[List.getElem?_append_left (by rw[Qy];exact h),QW h];have hn:j/S.w<n:=(Nat.div_lt_iff_lt_mul hp).2 h;show some (Jb S.w _ j)=some (Jb S.w _ j);unfold Jb YV;simp only;rw[if_pos hn,if_pos hn]
 ·rw[Nat.add_mul] at hj;rw[List.getElem?_append_right (by rw[Qy];omega),Qy,QW qo]
  have hd:j/S.w=n+(j-n*S.w)/S.w:=by
   obtain⟨r,hr⟩:=Nat.exists_eq_add_of_le (Nat.le_of_not_lt h);rw[hr,Nat.add_sub_cancel_left,Nat.mul_comm n,Nat.mul_add_div hp]
  have hm:j%S.w=(j-n*S.w)%S.w:=by
   obtain⟨r,hr⟩:=Nat.exists_eq_add_of_le (Nat.le_of_not_lt h);rw[hr,Nat.add_sub_cancel_left,Nat.mul_comm n,Nat.mul_add_mod]
  show some (Jb S.w _ _)=some (Jb S.w _ j);unfold Jb YV;simp only;rw[hd,hm,if_neg (Nat.not_lt.2 (Nat.le_add_right _ _)),if_neg (Nat.not_lt.2 (Nat.le_add_right _ _)),Nat.add_sub_cancel_left]
def W.Has.mcat2(h:Has F (lM S n ms xs))(h2:Has F (lM S k ms2 xs2)):Has F (lM S (n+k) (YV n ms ms2) (YV n xs xs2)):=λp hf i hi=>by
 unfold YV;by_cases c:i<n
 ·rw[if_pos c,if_pos c];exact h p hf i c
 ·rw[if_neg c,if_neg c];exact h2 p hf (i-n) qo
def H3(h:∀j,j<k->QP bx F (S.cs (ms2 j) (xs2 j))){fr:CF}{w:World}(ho:OK fr bx F w):∀u∈Qt S k ms2 xs2,u.oneCell'=true:=λu hu=>by
 have hp:=S.pos;unfold Qt XM at hu;obtain⟨j,hj,rfl⟩:=List.mem_map.1 hu;have hj:=List.mem_range.1 hj;have h1:j/S.w<k:=(Nat.div_lt_iff_lt_mul hp).2 hj;refine(h _ h1).all ho _ ?_;unfold Z1 Jb;have hm:=Nat.mod_lt j hp;rw[List.getD_eq_getElem?_getD,List.getElem?_eq_getElem (by rw[S.len];exact hm)];exact List.getElem_mem _
def LO.appLF{t1 b:TypeId}{z:Value}{bx2:Value->List Ow}(he:Xg P t1 el S.w z b)(hx:ev e x=some v)(hy:ev e y=some u)(hu:Has F (lF S u k ms2 xs2))(h1:∀j,j<k->QP bx F (S.cs (ms2 j) (xs2 j)))
  (hs:∀v',Sel bx (lO S v el n ms xs) (lO S v' el (n+k) (YV n ms ms2) (YV n xs xs2)) (bx2 v')) (hb:b<=1000) (hw:S.w<=100) (hl:n+k<=1000000) (h:∀v',K v' (bx2 v') F) :
  LO P (.call {callee:=.builtin .append,args:=#[x,y],argTypes:=#[t1,t1]}) ty e bx F K:=by
 refine LO.byP (λfr w ho=>H3 h1 ho) λh1=>?_;have hw1:(n+k)*S.w<=1000000*100:=Nat.mul_le_mul hl hw;have hl2:(Qt S n ms xs).length+(Qt S k ms2 xs2).length=(n+k)*S.w:=by rw[Qy,Qy,Nat.add_mul]
 exact LO.append he hx hy (news:=Qt S k ms2 xs2) (by rw[lcells_cat2];exact hs) (Qa.fact hu.ls) h1 (by
  rw[hl2];have:=Nat.mul_le_mul (show(n+k)*S.w<=100000000 by omega) hb;omega) (by rw[hl2];omega) h
def lcells_lt{ys:Nat->α}{ns:Nat->M}(h:∀j,j<n->S.cs (ms j) (xs j)=S.cs (ns j) (ys j)):Qt S n ms xs=Qt S n ns ys:=by
 refine Jn (Qy _ _) λj hj=>?_;rw[QW hj];show some (Jb S.w _ j)=some (Jb S.w _ j);unfold Jb;simp only;rw[h _ ((Nat.div_lt_iff_lt_mul S.pos).2 hj)]
end
end
section
open W Go.RowKit
open Bl (Vc Bd Tc Sc)
namespace Z
attribute [local irreducible] WC WL WD YO LO Qq W.Fin Qk Qw Qj Row QJ Qv KnS Has W.One Qa Qs
def cloneI_c(u:Value)(l:List Int)(hn:l.length<=1000):FnB Tryz.prog 61 [u] [] [sI u l] (IsO 3 1 (ints l)):=by
 refine fO [(0,u)] 8 Tryz.func61 Tryz.ntmps61 λh0=>?_;cases hnl:isNil u with
 |true=>
  refine WC.Vs (v:=u) (l:=l) hmA hnl λh=>?_;subst h;repeat'(first|intro(g:Nat)|refine gP ?_|intro v)
  refine WC.Q8 3 1 ?_;refine WC.ret ?_;exact Fin.o (Qh.t1 rfl rfl) meA meA rfl
 |false=>
  repeat'(first|intro(g:Nat)|refine gP ?_|intro v)
  refine WC.ret ?_;exact Fin.o (Qh.t1 rfl rfl) meA meA rfl
end Z
end
section
namespace Fx
def goodB(n many:Int):Nat->List Int->Bool
 |0,_=>false
 |f+1,l=>(l.all λx=>decide (0<=x/\x<=20)) && match nxt n many l with|none=>true|some l'=>goodB n many f l'
def chkG:Bool:=(List.range 9).all λn=>(List.range (n+1)).all λk=>goodB (n:Nat) (k:Nat) 100 (start k)
def chkG_ok:chkG=true:=by kernel_rfl
def good_all(n:Nat)(hn:n<=8)(k:Nat)(hk:k<=n):goodB (n:Nat) (k:Nat) 100 (start k)=true:=
 List.all_eq_true.1 (List.all_eq_true.1 chkG_ok n (List.mem_range.2 qo)) k (List.mem_range.2 qo)
def good_bd{n many:Int}{f:Nat}{l:List Int}(h:goodB n many (f+1) l=true):(∀x∈l,0<=x/\x<=20)/\∀l',nxt n many l=some l'->goodB n many f l'=true:=by
 unfold goodB at h;rw[Bool.and_eq_true] at h;refine⟨λx hx=>of_decide_eq_true (List.all_eq_true.1 h.1 x hx),λl' e=>?_⟩;have h2:=h.2;rw[e] at h2;exact h2
def kmax_go{n many:Int}{l:List Int}{j:Nat}(h:l.getD j 0=n-many+(j:Int)):kmax n many l (j+1)=kmax n many l j:=if_pos h
def kmax_stop{n many:Int}{l:List Int}{j:Nat}(h:¬l.getD j 0=n-many+(j:Int)):kmax n many l (j+1)=some j:=if_neg h
def kmax_lt{n many:Int}{l:List Int}:∀{j k:Nat},kmax n many l j=some k->k<j
 |0,_,h=>by cases h
 |j+1,k,h=>by
  unfold kmax at h;split at h
  ·have:=kmax_lt h;omega
  ·cases h;omega
def nxt_none{n many:Int}{l:List Int}(h:kmax n many l l.length=none):nxt n many l=none:=by unfold nxt;rw[h]
def nxt_some{n many:Int}{l:List Int}{k:Nat}(h:kmax n many l l.length=some k):nxt n many l=some (U3 (l.set k (l.getD k 0+1)) (k+1) (l.length-(k+1))):=by unfold nxt;rw[h]
def chs_le(n many:Int):∀f l,(chsF n many f l).length<=f
 |0,_=>by simp[chsF]
 |f+1,l=>by
  unfold chsF;cases h:nxt n many l with
  |none=>simp
  |some l'=>have:=chs_le n many f l';simp;omega
def Vw(n:Nat):∀k,(J5 n k).length<=100*k
 |0=>by simp[J5]
 |k+1=>by
  unfold J5;have:=Vw n k;have:=chs_le n k 100 (start k);unfold chs;rw[List.length_append];omega
def Uu(n most:Int):(Jk n most).length<=900:=by
 unfold Jk;split
 ·simp
 ·have:=Vw n.toNat (min n.toNat most.toNat+1);omega
def UO{l:List Int}{j:Nat}(h:j<l.length):l.getD j 0∈l:=by
 rw[List.getD_eq_getElem?_getD,List.getElem?_eq_getElem h];exact List.getElem_mem h
def all_set{P:Int->Prop}{l:List Int}{j:Nat}{y:Int}(h:∀x∈l,P x)(hy:P y):∀x∈l.set j y,P x:=λx hx=>by
 rcases List.mem_or_eq_of_mem_set hx with h1|h1
 ·exact h x h1
 ·exact h1 ▸ hy
def start_len(k:Nat):(start k).length=k:=by simp[start]
def Zz(many i:Nat):List Int:=(List.range i).map Int.ofNat++List.replicate (many-i) 0
def fill_0(many:Nat):Zz many 0=List.replicate many 0:=by simp[Zz]
def fill_all(many:Nat):Zz many many=start many:=by simp[Zz,start]
def fill_len{many i:Nat}(h:i<=many):(Zz many i).length=many:=by simp[Zz];omega
def fill_set{many i:Nat}(h:i<many):(Zz many i).set i (i:Int)=Zz many (i+1):=by
 unfold Zz;rw[List.set_append_right _ _ (by simp)];obtain⟨q,hq⟩:∃q,many-i=q+1:=⟨many-i-1,by omega⟩
 rw[show many-(i+1)=q by omega,hq,List.range_succ,List.replicate_succ];simp
def sets_K{N M:Nat}{most:Int}(hN:N<=8)(hM:(M:Int)=max 0 (min (N:Int) most+1)):Jk (N:Int) most=J5 N M:=by
 unfold Jk;by_cases c:most<0
 ·rw[if_pos (.inr (.inr c))];obtain rfl:M=0:=qo;rfl
 ·rw[if_neg qo];have:min ((N:Int).toNat) most.toNat+1=M:=qo;rw[this];rfl
end Fx
end
section
open W Go.RowKit
open Bl (Vc Bd Tc Sc)
def AddB(P:Program)(g5 gn gm n many:Nat)(hx:PH)(l:Nat)(r:Loop):Prop:=∀(v:Value) (ms:Nat->Value) (C:List (List Int)) (u:Value) (s:List Int),C.length<=3000->
 Um P l r u [Ow.cells gm 3 [.int .i64 (many:Int)],Ow.cells gn 3 [.int .i64 (n:Int)],lO Qn v 28 C.length ms (sl C),Ow.cells g5 25 [v]] [lM Qn C.length ms (sl C),sI u s,ge hx]
  (λbx' G=>∃v' ms',bx'=[Ow.cells gm 3 [.int .i64 (many:Int)],Ow.cells gn 3 [.int .i64 (n:Int)],lO Qn v' 28 (C++[s]).length ms' (sl (C++[s])),Ow.cells g5 25 [v']]/\G=[lM Qn (C++[s]).length ms' (sl (C++[s]))])
def jm:Nat->Int
 |0=>-1
 |k+1=>(k:Int)
def jm_eq(k:Nat):(k:Int)-1=jm k:=by cases k<;>simp[jm]<;>omega
namespace Z
attribute [local irreducible] WC WL WD YO LO Qq W.Fin Qk Qw Qj Row QJ Qv KnS Has W.One Qa Qs
def d60{G G':Prop}(h:G')(s:Bx G'->G:=by
 intro h;first|refine gF ?_|(apply WC.draw (id:=8) [0,1,2,3,4,5,6,7,8,9,10,11,12,13] (.h 0<|.h 1<|.h 2<|.h 3<|.h 4<|.h 5<|.h 6<|.h 7<|.h 8<|.h 9<|.h 10<|.h 11<|.h 12<|.h 13 .done) mixed kr)|fail
 exact Bx.h h):G:=s ⟨h⟩
attribute [local irreducible] Um
def chosen1_c(l:Nat)(r:Loop)(g5 gn gm n many:Nat)(hn:n<=8)(hmn:many<=n)(hx:PH)(v0:Value)(ms0:Nat->Value)(C0:List (List Int))(hC:C0.length<=2000)(hY:AddB Tryz.prog g5 gn gm n many hx l r) :
  FnB Tryz.prog 60 [.func (.yield l) #[] #[],ptr gm,ptr gn] [Ow.obj l (.loop r),Ow.cells gm 3 [.int .i64 (many:Int)],Ow.cells gn 3 [.int .i64 (n:Int)],lO Qn v0 28 C0.length ms0 (sl C0),Ow.cells g5 25 [v0]] [lM Qn C0.length ms0 (sl C0),ge hx]
   (RgP l r (λbx' G=>∃v' ms',bx'=[Ow.cells gm 3 [.int .i64 (many:Int)],Ow.cells gn 3 [.int .i64 (n:Int)],lO Qn v' 28 (C0++Fx.chs n many).length ms' (sl (C0++Fx.chs n many)),Ow.cells g5 25 [v']]/\G=[lM Qn (C0++Fx.chs n many).length ms' (sl (C0++Fx.chs n many))]) (λ_ _ _=>False)):=by
 refine fO [(0,(.func (.yield l) #[] #[])),(1,(ptr gm)),(2,(ptr gn))] 66 Tryz.func60 Tryz.ntmps60 λh0=>?_;repeat'(first|intro(g:Nat)|refine d60 ?_|intro v)
 revert v;intro v4;simp only[List.length_replicate];rw[<-Fx.fill_0];refine WC.Xd (σ:=Unit) (λ_=>[(4,v4),(0,.func (.yield l) #[] #[]),(1,ptr gm),(2,ptr gn)]) (λ_=>Ow.slice v4 3 1 (ints (Fx.start many))::[Ow.obj l (.loop r),Ow.cells gm 3 [.int .i64 (many:Int)],Ow.cells gn 3 [.int .i64 (n:Int)],lO Qn v0 28 C0.length ms0 (sl C0),Ow.cells g5 25 [v0]]) (λ_=>[lM Qn (C0).length ms0 (sl (C0)),ge h0,ge hx]) (λ_=>True) ?_ ?_
 ·refine WC.lp (σ:=Nat) (λi=>[(12,.int .i64 (i:Int)),(11,.int .i64 (many:Int)),(4,v4),(0,.func (.yield l) #[] #[]),(1,ptr gm),(2,ptr gn)]) (λi=>Ow.slice v4 3 1 (ints (Fx.Zz many i))::[Ow.obj l (.loop r),Ow.cells gm 3 [.int .i64 (many:Int)],Ow.cells gn 3 [.int .i64 (n:Int)],lO Qn v0 28 C0.length ms0 (sl C0),Ow.cells g5 25 [v0]]) (λ_=>[lM Qn (C0).length ms0 (sl (C0)),ge h0,ge hx]) (λi=>i<=many) (λi=>many-i) 0 (Nat.zero_le _) ?_;rintro i hi;have hl:=Fx.fill_len hi;by_cases d:i<many
  ·repeat'(first|intro(g:Nat)|refine d60 ?_|intro v)
   simp only[Int.toNat_natCast,Fx.fill_set d];exact Qq.mk (i+1) qo qo
  ·obtain rfl:i=many:=qo;repeat'(first|intro(g:Nat)|refine d60 ?_|intro v)
   rw[Fx.fill_all];exact QG () trivial
 rintro⟨⟩ _;refine WC.perm [Ow.obj l (.loop r),Ow.cells gm 3 [.int .i64 (many:Int)],Ow.cells gn 3 [.int .i64 (n:Int)],lO Qn v0 28 (C0).length ms0 (sl (C0)),Ow.cells g5 25 [v0],Ow.slice v4 3 1 (ints (Fx.start many))] (List.perm_append_comm (l₁:=[_])) ?_;repeat'(first|intro(g:Nat)|refine d60 ?_|intro v)
 refine WC.lp (σ:=List Int×Nat×List (List Int)×Value×(Nat->Value)) (λ_=>[(4,v4),(0,.func (.yield l) #[] #[]),(1,ptr gm),(2,ptr gn)]) (λst=>[Ow.obj l (.loop r),Ow.cells gm 3 [.int .i64 (many:Int)],Ow.cells gn 3 [.int .i64 (n:Int)],lO Qn st.2.2.2.1 28 (st.2.2.1).length st.2.2.2.2 (sl (st.2.2.1)),Ow.cells g5 25 [st.2.2.2.1],Ow.slice v4 3 1 (ints st.1)]) (λst=>[lM Qn (st.2.2.1).length st.2.2.2.2 (sl (st.2.2.1)),ge h0,ge hx])
  (λst=>st.1.length=many/\Fx.goodB n many st.2.1 st.1=true/\st.2.2.1++Fx.chsF n many st.2.1 st.1=C0++Fx.chs n many/\st.2.2.1.length+st.2.1<=C0.length+100) (λst=>st.2.1) (Fx.start many,100,C0,v0,ms0) ⟨Fx.start_len many,Fx.good_all n hn many hmn,rfl,Nat.le_refl _⟩ ?_
 rintro⟨L,f,C,v,ms⟩ ⟨hL,hg,hc,hl⟩;simp only at hL hg hc hl ⊢;cases f with
 |zero=>cases hg
 |succ f=>
 obtain⟨hb,hg2⟩:=Fx.good_bd hg;repeat'(first|intro(g:Nat)|refine d60 ?_|intro v)
 first|refine WL.callO (cloneI_c v4 L qo) (λrv=>?_)|refine WD.callO (cloneI_c v4 L qo) (λrv=>?_)
 refine WL.QD (v:=rv) (l:=L) (by repeat(first|exact Sel.head|apply Sel.tail)) ?_;refine WL.l rfl rfl (LO.yieldC (hY v ms C rv L qo) rfl rfl [Ow.slice v4 3 1 (ints L),Ow.slice (.slice none 0 0) 3 1 []] (List.perm_append_comm (l₁:=[_])) (F0:=_) (λf hf=>?_) λbx' G hX=>?_)
 ·simp only[List.mem_cons,List.not_mem_nil,or_false] at hf;rcases hf with rfl|rfl|rfl
  ·exact hmA
  ·exact hmA
  ·exact hmA
 obtain⟨v',ms',rfl,rfl⟩:=hX;refine sNn ?_;repeat'(first|intro(g:Nat)|refine d60 ?_|intro v)
 rw[jm_eq];refine WC.Xd (σ:=Nat) (λj=>[(6,.int .i64 (jm j)),(4,v4),(0,.func (.yield l) #[] #[]),(1,ptr gm),(2,ptr gn)]) (λ_=>[Ow.obj l (.loop r),Ow.cells gm 3 [.int .i64 (many:Int)],Ow.cells gn 3 [.int .i64 (n:Int)],lO Qn v' 28 (C++[L]).length ms' (sl (C++[L])),Ow.cells g5 25 [v'],Ow.slice v4 3 1 (ints L)]) (λ_=>[lM Qn (C++[L]).length ms' (sl (C++[L])),ge h0,ge hx]) (λj=>(j=0/\Fx.kmax n many L L.length=none)\/∃k,j=k+1/\Fx.kmax n many L L.length=some k) ?_ ?_
 ·refine WC.lp (σ:=Nat) (λj=>[(6,.int .i64 (jm j)),(4,v4),(0,.func (.yield l) #[] #[]),(1,ptr gm),(2,ptr gn)]) (λ_=>[Ow.obj l (.loop r),Ow.cells gm 3 [.int .i64 (many:Int)],Ow.cells gn 3 [.int .i64 (n:Int)],lO Qn v' 28 (C++[L]).length ms' (sl (C++[L])),Ow.cells g5 25 [v'],Ow.slice v4 3 1 (ints L)]) (λ_=>[lM Qn (C++[L]).length ms' (sl (C++[L])),ge h0,ge hx]) (λj=>j<=L.length/\Fx.kmax n many L L.length=Fx.kmax n many L j) (λj=>j) many ⟨by omega,by rw[hL]⟩ ?_;rintro j ⟨hj,hk⟩;cases j with
  |zero=>
   show WC _ _ _ ((6,.int .i64 (-1))::_) _ _ _;repeat'(first|intro(g:Nat)|refine d60 ?_|intro v)
   exact QG 0 (.inl ⟨rfl,hk⟩)
  |succ k=>
   show WC _ _ _ ((6,.int .i64 (k:Int))::_) _ _ _;by_cases he:L.getD k 0=n-many+(k:Int)
   ·repeat'(first|intro(g:Nat)|refine d60 ?_|intro v)
    rw[jm_eq];exact Qq.mk k ⟨by omega,hk.trans (Fx.kmax_go he)⟩ qo
   ·repeat'(first|intro(g:Nat)|refine d60 ?_|intro v)
    exact QG (k+1) (.inr ⟨k,rfl,hk.trans (Fx.kmax_stop he)⟩)
 rintro j (⟨rfl,hk⟩|⟨k,rfl,hk⟩)
 ·show WC _ _ _ ((6,.int .i64 (-1))::_) _ _ _;repeat'(first|intro(g:Nat)|refine d60 ?_|intro v)
  refine WC.ret ?_
  have hfin:C++[L]=C0++Fx.chs n many:=by
   rw[<-hc];show _=C++L::(match Fx.nxt n many L with|none=>[]|some l'=>_);rw[Fx.nxt_none hk]
  rw[hfin];exact Fin.p _ _ (Qh.t0 rfl) meA slA haA (.inl ⟨_,rfl,_,_,rfl,rfl⟩)
 have hkl:=Fx.kmax_lt hk;have hq:=hb _ (Fx.UO hkl);show WC _ _ _ ((6,.int .i64 (k:Int))::_) _ _ _;repeat'(first|intro(g:Nat)|refine d60 ?_|intro v)
 generalize hR:Fx.U3 (L.set k (L.getD k 0+1)) (k+1) (L.length-(k+1))=R;refine WC.lp (σ:=Nat×List Int) (λst=>[(7,.int .i64 (st.1:Int)),(4,v4),(0,.func (.yield l) #[] #[]),(1,ptr gm),(2,ptr gn)]) (λst=>[Ow.obj l (.loop r),Ow.cells gm 3 [.int .i64 (many:Int)],Ow.cells gn 3 [.int .i64 (n:Int)],lO Qn v' 28 (C++[L]).length ms' (sl (C++[L])),Ow.cells g5 25 [v'],Ow.slice v4 3 1 (ints st.2)]) (λ_=>[lM Qn (C++[L]).length ms' (sl (C++[L])),ge h0,ge hx]) (λst=>k+1<=st.1/\st.1<=L.length/\st.2.length=L.length/\Fx.U3 st.2 st.1 (L.length-st.1)=R/\∀x∈st.2,0<=x/\x<=21+(st.1:Int)) (λst=>L.length-st.1) (k+1,L.set k (L.getD k 0+1)) ⟨Nat.le_refl _,by simp only;omega,by simp,hR,Fx.all_set (λx hx=>by have:=hb x hx;simp only;omega) (by simp only;omega)⟩ ?_;rintro⟨i,L1⟩ ⟨h1,h2,h3,h4,h5⟩;simp only at h1 h2 h3 h4 h5 ⊢;by_cases d:i<L.length
 ·obtain⟨p,rfl⟩:∃p,i=p+1:=⟨i-1,by omega⟩
  have hp:(((p+1:Nat):Int)-1).toNat=p:=qo;have hq2:=h5 _ (Fx.UO (l:=L1) (j:=(((p+1:Nat):Int)-1).toNat) qo);repeat'(first|intro(g:Nat)|refine d60 ?_|intro v)
  simp only[Int.toNat_natCast,hp];rw[hp] at hq2;refine Qq.mk (p+1+1,L1.set (p+1) (L1.getD p 0+1)) ⟨by simp only;omega,by simp only;omega,by simp only[List.length_set];omega,?_,Fx.all_set (λx hx=>by have:=h5 x hx;simp only;omega) (by simp only;omega)⟩ (by simp only;omega);rw[show L.length-(p+1)=L.length-(p+1+1)+1 by omega] at h4;exact h4
 ·obtain rfl:i=L.length:=qo;rw[Nat.sub_self] at h4;have h4:L1=R:=h4;subst h4;repeat'(first|intro(g:Nat)|refine d60 ?_|intro v)
  have hnx:=Fx.nxt_some hk;rw[hR] at hnx;refine Qq.mk (L1,f,C++[L],v',ms') ⟨by simp only;omega,hg2 _ hnx,?_,by simp only[List.length_append,List.length_singleton];omega⟩ (by simp only;omega);rw[<-hc];show(C++[L])++_=C++L::(match Fx.nxt n many L with|none=>[]|some l'=>_);rw[hnx,List.append_assoc];rfl
end Z
end
section
open W Go.RowKit
open Bl (Vc Bd Tc Sc)
def IsCh(f:FuncId)(n many:Nat):Qg:=λv B G=>∃gm gn,v=.func (.func f) #[] #[ptr gm,ptr gn]/\B=[Ow.cells gm 3 [.int .i64 (many:Int)],Ow.cells gn 3 [.int .i64 (n:Int)]]/\G=[]
def IsSets(C:List (List Int)):Qg:=λv B G=>∃ms,B=[lO Qn v 28 C.length ms (sl C)]/\G=[lM Qn C.length ms (sl C)]
namespace Z
attribute [local irreducible] WC WL WD YO LO Qq W.Fin Qk Qw Qj Row QJ Qv KnS Has W.One Qa Qs
def chosen_c(n many:Nat):FnB Tryz.prog 32 [.int .i64 (n:Int),.int .i64 (many:Int)] [] [] (IsCh 60 n many):=by
 refine fO [(0,(.int .i64 (n:Int))),(1,(.int .i64 (many:Int)))] 6 Tryz.func32 Tryz.ntmps32 λh0=>?_;repeat'(first|intro(g:Nat)|refine gP ?_|intro v)
 refine WC.ret ?_;exact Fin.p [_,_] [] (Qh.t1 rfl rfl) meA (List.Sublist.refl _) .nil ⟨_,_,rfl,rfl,rfl⟩
end Z
end
section
namespace T
open W
def a22:QJ Tryz.prog 22 3 2 1:=QJ.of kr
def s24:Qw Tryz.prog 24 22 2:=Qw.of kr
end T
end
section
open W Go.RowKit
open Bl (Vc Bd Tc Sc)
section
variable {e:Env}{bx bx':List Ow}{F:List Fct}{ty t el:TypeId}{x y z u r s:Operand}{v w:Value}{K:Qg}{tm:ToM}{tc:Tc}{bm:BM}{b:Bd}{v1 v2 v3:VM}{n1 n2 n3:QM}{A B:Int}{n m:Nat}
def y_bodyX(h1:ev e x=some (vv v1))(h2:ev e y=some (qv n1))(h3:ev e z=some (qv n2))(h4:ev e u=some (qv n3)):YO Tryz.prog (.build 88 #[(0,x),(1,y),(2,z),(3,u)]) ty e bx F (bv ⟨v1,n1,n2,n3⟩):=y_body h1 h2 h3 h4
def LO.bsB1(hx:ev e x=some (bv bm))(h:∀v,K v (Ow.slice v 88 20 (bcs bm)::bx) F):LO Tryz.prog (.buildSlice 31 1 #[(0,x)]) ty e bx F K:=
 LO.buildSlice (el:=88) (sz:=20) (parts:=[(0,x)]) (us:=[bv bm]) (cs:=bcs bm) (.cons hx .nil) (λ_=>by kernel_rfl) rfl qd h
end
section
variable {P:Program}{e:Env}{bx:List Ow}{F:List Fct}{ty t:TypeId}{x:Operand}{M:Pm}{m gn i:Nat}{ln:Nat->Nat}{a:Nat->Nat->Rat}{b g:Nat->Rat}
def YO.ldPa(hs:Qk P t)(hx:ev e x=some (.pointer (some (eaddr M.lv (i*5+0)))))(h:W.Has F (fPg M m gn ln a b g))(hi:i<m):YO P (.load t x) ty e bx F (M.av i):=by
 have h1:=YO.ldS (ty:=ty) (bx:=bx) hs hx h.pl (show i*5+0<m*5 by omega)
 rwa [US _ _ _ (by decide:0<5)] at h1
def YO.ldPb(hs:Row P t 4)(hx:ev e x=some (.pointer (some (eaddr M.lv (i*5+1)))))(h:W.Has F (fPg M m gn ln a b g))(hi:i<m):YO P (.load t x) ty e bx F (qv (M.mb i)):=
 YO.ldRS (us:=qcs (M.mb i)) hs hx h.pl qo rfl λk hk=>by
  rw[show i*5+1+k=i*5+(1+k) by omega,US _ _ _ qo];match k,hk with|0,_=>rfl|1,_=>rfl|2,_=>rfl|3,_=>rfl
end
namespace K
namespace Q
attribute [local irreducible] WC WL WD YO LO Qq W.Fin Qk Qw Qj Row QJ Qv KnS Has W.One Qa Qs
def goE{G G':Prop}(h:G')(s:Bx G'->G:=by
 intro h
 (first|(apply WL.Jf;fail;exact rfl;exact rfl)|(apply WL.Ym;(first|(apply YO.ldPa;(first|exact T.sc3|exact T.sc4|exact T.sc28|exact T.sc61|exact T.KR|exact T.U9|exact T.Vx|exact T.Vz|exact T.sc31|exact T.sc32|exact T.sc37|exact T.KS|exact T.Vq|exact T.Vj);exact rfl;exact hmA;omega)|(apply YO.ldPb;(first|exact T.r73|exact T.r75|exact T.r118|exact T.r122|exact T.r141|exact T.r39|exact T.r63|exact T.r77|exact T.r88|exact T.r93|exact T.r127|exact T.r163);exact rfl;exact hmA;omega));exact rfl;exact rfl)|(apply WL.XD;(first|(apply y_bodyX;exact rfl;exact rfl;exact rfl;exact rfl));exact rfl;exact rfl)|(apply WL.Jx;rotate_left;exact rfl;fail)|(apply WD.Jf;exact rfl;fail;exact rfl;exact rfl)|(apply WD.Ym;exact rfl;(first|(apply YO.ldPa;(first|exact T.sc3|exact T.sc4|exact T.sc28|exact T.sc61|exact T.KR|exact T.U9|exact T.Vx|exact T.Vz|exact T.sc31|exact T.sc32|exact T.sc37|exact T.KS|exact T.Vq|exact T.Vj);exact rfl;exact hmA;omega)|(apply YO.ldPb;(first|exact T.r73|exact T.r75|exact T.r118|exact T.r122|exact T.r141|exact T.r39|exact T.r63|exact T.r77|exact T.r88|exact T.r93|exact T.r127|exact T.r163);exact rfl;exact hmA;omega));exact rfl;exact rfl)|(apply WD.XD;exact rfl;(first|(apply y_bodyX;exact rfl;exact rfl;exact rfl;exact rfl));exact rfl;exact rfl)|(apply WD.Jx;exact rfl;rotate_left;exact rfl;fail;constructor;exact ltA)|(fail;constructor;exact ltA)|fail)
 exact Bx.h h):G:=s ⟨h⟩
def goEG{G G':Prop}(h:G')(s:Bx G'->G:=by
 intro h
 (first|(apply WL.Xz;rotate_left;exact rfl;exact rfl;apply LO.XZ;fail)|(apply WD.Xz;exact rfl;rotate_left;exact rfl;exact rfl;apply LO.XZ;fail;apply Qb;(intro _;exact ltA))|(apply LO.XZ;fail;apply Qb;(intro _;exact ltA))|fail)
 exact Bx.h h):G:=s ⟨h⟩
def goEV{G G':Prop}(h:G')(s:Bx G'->G:=by
 intro h
 (first|(apply WL.Q9;rotate_left;exact rfl;exact rfl;(first|(apply LO.VV;exact rfl;exact rfl;exact hmA;(intro _;exact seA);omega;omega)|fail))|(apply WD.Q9;exact rfl;rotate_left;exact rfl;exact rfl;(first|(apply LO.VV;exact rfl;exact rfl;exact hmA;(intro _;exact seA);omega;omega)|fail);apply Qb;(intro _;exact ltA))|((first|(apply LO.VV;exact rfl;exact rfl;exact hmA;(intro _;exact seA);omega;omega)|fail);apply Qb;(intro _;exact ltA))|(apply WL.Jo;rotate_left;exact rfl;exact rfl;(apply LO.bsB1;exact rfl))|(apply WD.Jo;exact rfl;rotate_left;exact rfl;exact rfl;(apply LO.bsB1;exact rfl);apply Qb;(intro _;exact ltA))|((apply LO.bsB1;exact rfl);apply Qb;(intro _;exact ltA))|fail)
 exact Bx.h h):G:=s ⟨h⟩
end Q
end K
end
end Go.Proofs.YtbnobghgnbockaaGreat
