/- Lemmas. Conditions: none. -/
import Derived.Test.YtbnobghgnbockaaGreatZk34
import Derived.Test.YtbnobghgnbockaaGreatProg
set_option linter.all false
set_option maxHeartbeats 0
set_option maxRecDepth 100000
namespace Go.Proofs.YtbnobghgnbockaaGreat
open Tryz (prog)
namespace Fx
open Bl
def some_below(l:nd):∀j,j<(Q7 l).m->-1<=((Q7 l).T j).b/\((Q7 l).T j).b<((Q7 l).T j).a:=by
 have hT:∀i j,j<(twT l i).1->-1<=((twT l i).2 j).b/\((twT l i).2 j).b<((twT l i).2 j).a:=by
  intro i;induction i with
  |zero=>exact λj hj=>absurd hj (bY _)
  |succ i ih=>
   intro j;unfold twT;split
   .intro hj;have hj:j<(twT l i).1+1:=hj;by_cases c:j=(twT l i).1
    .subst c;simp only[QF];show -1<=(i:Int)-1/\(i:Int)-1<(i:Int);omega
    .simp only[Qt c];exact ih j qo
   .exact ih j
 have hm:=Kw l;unfold Q7;split
 .intro j _;show(-1:Int)<=-1/\(-1:Int)<0;decide
 .unfold X2;split
  .intro j hj;have hj:j<(twT l (Qs l)).1+1:=hj;by_cases c:j=(twT l (Qs l)).1
   .subst c;simp only[QF];show(-1:Int)<=-1/\(-1:Int)<(Qs l:Int)-1;omega
   .simp only[Qt c];exact hT _ j qo
  .exact hT _
def Zl(t:Tc):Tc:=⟨t.a,t.b,t.p,⟨Rat.divInt 1 2*(t.p.x+t.q.x),Rat.divInt 1 2*(t.p.y+t.q.y)⟩,t.n,t.r⟩
def Xr(l:nd):Nat:=min 2 (Q7 l).n
def X0(deal:nd):Nat:=(1+atP deal 0 5/2).toNat
def Yp(k:Nat)(t:Tc)(ps:List (List Tc)):List (List Tc):=ps.set k (ps.getD k []++[t])
def dealS(n K:Nat)(T:Nat->Tc)(deal:nd):Nat->List Tc×List (List Tc)
 |0=>([],List.replicate K [])
 |i+1=>
  if(T i).a<(n:Int) then
   let k:=(atP deal (2*(i:Int)+1) ((K:Int)+1)).toNat
   let p:=if k=K then((dealS n K T deal i).1++[T i],(dealS n K T deal i).2) else((dealS n K T deal i).1,Yp k (T i) (dealS n K T deal i).2)
   if i=0/\atP deal 2 3=0 then(p.1,Yp (atP deal (2*(i:Int)+3) (K:Int)).toNat (Zl (T i)) p.2) else p
  else dealS n K T deal i
def Yr(l deal:nd):List Tc:=(dealS (Xr l) (X0 deal) (Q7 l).T deal (Q7 l).m).1
def Xm(l deal:nd):List (List Tc):=(dealS (Xr l) (X0 deal) (Q7 l).T deal (Q7 l).m).2
def G7(deal:nd):1<=X0 deal/\X0 deal<=3:=by
 have h:=QP (l:=deal) (i:=0) (m:=5) qd;unfold X0;omega
def someN_lt(l:nd):1<=Xr l/\Xr l<=2:=by
 have h:=H4 l;unfold Xr;omega
def Gr(k:Nat)(t:Tc)(ps:List (List Tc)):(Yp k t ps).length=ps.length:=by unfold Yp;rw[bZ]
def Z4{P:Tc->Prop}{k:Nat}{t:Tc}{ps:List (List Tc)}(ht:P t)(h:∀p∈ps,∀x∈p,P x):∀p∈Yp k t ps,∀x∈p,P x:=by
 intro p hp x hx;rcases List.mem_or_eq_of_mem_set hp with h1|h1
 .exact h p h1 x hx
 .subst h1;rcases List.mem_append.1 hx with h2|h2
  .rw[List.getD_eq_getElem?_getD] at h2;cases e:ps[k]? with
   |none=>rw[e] at h2;cases h2
   |some q=>rw[e] at h2;exact h q (bQ e) x h2
  .rw[bG] at h2;subst h2;exact ht
section
variable {n K:Nat}{T:Nat->Tc}{deal:nd}
def KS:∀i,(dealS n K T deal i).2.length=K
 |0=>bC
 |i+1=>by
  have ih:=KS i;unfold dealS;split
  .dsimp only;split<;>split<;>simp only[Gr,ih]
  .exact ih
def deal_all{P:Tc->Prop}:∀i,(∀j,j<i->(T j).a<(n:Int)->P (T j)/\P (Zl (T j)))->(∀x∈(dealS n K T deal i).1,P x)/\∀p∈(dealS n K T deal i).2,∀x∈p,P x
 |0,_=>⟨λx hx=>(aW hx).elim,λp hp x hx=>(aW ((List.mem_replicate.1 hp).2 ▸ hx)).elim⟩
 |i+1,h=>by
  obtain⟨h1,h2⟩:=deal_all i (λj hj=>h j qo);unfold dealS;split
  case isTrue c=>
   obtain⟨h3,h4⟩:=h i qo c;dsimp only
   have h5:∀x∈(dealS n K T deal i).1++[T i],P x:=λx hx=>by
    rcases List.mem_append.1 hx with a|a
    .exact h1 x a
    .rw[bG] at a;subst a;exact h3
   split<;>split
   .exact⟨h5,Z4 h4 h2⟩
   .exact⟨h1,Z4 h4 (Z4 h3 h2)⟩
   .exact⟨h5,h2⟩
   .exact⟨h1,Z4 h3 h2⟩
  .exact⟨h1,h2⟩
end
def half_ok{n:Nat}{t:Tc}(h:Y0 n t):Y0 n (Zl t):=by
 obtain⟨h1,h2,h3,h4,h5,h6,h7,h8⟩:=h;refine⟨h1,h2,h3,h4,h5,h6,h7,?_⟩;show t.n.x*(Rat.divInt 1 2*(t.p.x+t.q.x)-t.p.x)+t.n.y*(Rat.divInt 1 2*(t.p.y+t.q.y)-t.p.y)=0;have e:Rat.divInt 1 2*2=1:=by decide +kernel
 generalize Rat.divInt 1 2=d at *;grind
def TcF(D A:Nat)(t:Tc):Prop:=Fv D A t.p/\Fv D A t.q/\Fv D A t.n/\Fr D A t.r
def half_fr{D A:Nat}{t:Tc}(h:TcF D A t):TcF (D*2) (A*2) t/\TcF (D*2) (A*2) (Zl t):=by
 obtain⟨h1,h2,h3,h4⟩:=h
 have g:∀{p q:Rat},Fr D A p->Fr D A q->Fr (D*2) (A*2) (Rat.divInt 1 2*(p+q)):=λ{p q} hp hq=>by
  have:=(Fr.of (a:=1) (A:=1) (D:=2) qd qd).mul (hp.add hq);rw[aY D 2];exact this.up qo
 have s:∀{v:Vc},Fv D A v->Fv (D*2) (A*2) v:=λhv=>⟨hv.1.sc 2,hv.2.sc 2⟩
 exact⟨⟨s h1,s h2,s h3,h4.sc 2⟩,s h1,⟨g h1.1 h2.1,g h1.2 h2.2⟩,s h3,h4.sc 2⟩
def case_all(l deal:nd):(∀x∈Yr l deal,Y0 (Xr l) x/\TcF 120 4800 x)/\∀p∈Xm l deal,∀x∈p,Y0 (Xr l) x/\TcF 120 4800 x:=by
 refine deal_all (P:=λx=>Y0 (Xr l) x/\TcF 120 4800 x) _ λj hj ha=>?_;have h1:=(some_ok l).T j hj;have h2:TcF 60 2400 ((Q7 l).T j):=(DF l).T j hj;have h3:=some_below l j hj
 have h4:Y0 (Xr l) ((Q7 l).T j):=by
  obtain⟨a,b,c,d,e⟩:=h1;exact⟨a,ha,c,by omega,e⟩
 have h5:=half_fr h2;exact⟨⟨h4,h5.1⟩,half_ok h4,h5.2⟩
def caseP_len(l deal:nd):(Xm l deal).length=X0 deal:=KS _
end Fx
namespace Fx
open Bl
def Ans(C:List nd)(P:nd->Prop):Option Nat->Prop
 |some i=>Yh C P i
 |none=>NoneS C P
section
variable {n:Nat}{B:Nat->Bd}{t0:Tc}{t p:List Tc}{ps:List (List Tc)}{m:Int}{a b:Option Nat}
def StP(n:Nat)(B:Nat->Bd)(t0:Tc)(t:List Tc)(ps:List (List Tc))(s:nd):Prop:=JH n B t0 (Ql t ps s)
end
end Fx
namespace Fx
open Bl
def Vm{P:Tc->Prop}{t:List Tc}{ps:List (List Tc)}(h1:∀x∈t,P x)(h2:∀p∈ps,∀x∈p,P x)(s:nd):∀x∈Ql t ps s,P x:=by
 intro x hx;rcases List.mem_append.1 hx with h|h
 .exact h1 x h
 .obtain⟨k,_,h⟩:=List.mem_flatMap.1 h;rw[List.getD_eq_getElem?_getD] at h;cases e:ps[k.toNat]? with
  |none=>rw[e] at h;exact(aW h).elim
  |some q=>rw[e] at h;exact h2 q (bQ e) x h
def BdF(D A:Nat)(b:Bd):Prop:=Fv D A b.c/\Fr D A b.lo/\Fr D A b.hi/\Fr D A b.st
section
variable {n:Nat}{B:Nat->Bd}{t0:Tc}{L:List Tc}
def Hg{P:Tc->Prop}(h:∀x∈L,P x):∀j,j<L.length->P (L.getD j t0):=by
 intro j hj;rw[List.getD_eq_getElem?_getD,List.getElem?_eq_getElem hj];exact h _ (cD hj)
def scL_ok(hn:n<=5)(hL:L.length<=10)(hB:∀i,i<n->BdOk (B i))(hT:∀x∈L,Y0 n x):(scL n B t0 L).ok:=⟨hn,hL,hB,Hg hT⟩
def scL_fs{D A:Nat}(hB:∀i,i<n->BdF D A (B i))(hT:∀x∈L,TcF D A x):Fs D A (scL n B t0 L):=⟨hB,Hg hT⟩
end
def Hz{t:List Tc}{ps:List (List Tc)}{m:Int}{s:nd}(h:s∈Qa t ps m):(Ql t ps s).length<=10:=by
 have:=(List.mem_filter.1 h).2;exact ao this
end Fx
namespace Fx
open Bl X
def Ju(a b:Int):Tc:=⟨0,-1,⟨Rat.divInt a 2,0⟩,⟨Rat.divInt b 2,0⟩,⟨((0:Int):Rat),((1:Int):Rat)⟩,0⟩
def exB:Bd:=⟨⟨((1:Int):Rat),((1:Int):Rat)⟩,Rat.divInt 1 1,Rat.divInt 2 1,Rat.divInt 10 1⟩
structure ExS(S:Sc):Prop where
 n:S.n=1
 B:S.B 0=exB
 T:∀j,j<S.m->∃a b,S.T j=Ju a b
def ex_frc(a b:Int)(u v:Rat):on (Ju a b) 0 (frc (Ju a b) u v)=⟨-v,u⟩:=by
 have e:on (Ju a b) 0 (frc (Ju a b) u v)=frc (Ju a b) u v:=ah rfl;rw[e];show Vc.mk (u*((0:Int):Rat)-v*((1:Int):Rat)) (u*((1:Int):Rat)+v*((0:Int):Rat))=_;have c0:((0:Int):Rat)=0:=rfl;have c1:((1:Int):Rat)=1:=rfl;rw[c0,c1,Vc.mk.injEq];constructor<;>grind
def VW{S:Sc}(h:ExS S){w u v:nf}:Bal S w u v↔(∀k,k<2*S.m->0<=u k/\v k=0)/\sm (2*S.m) u=w 0/\sm (2*S.m) (λk=>((S.at k).x-1)*u k)=0/\sm (2*S.m) u<=10:=by
 have c1:((1:Int):Rat)=1:=rfl;have d10:Rat.divInt 10 1=10:=by decide +kernel
 have hr:∀k,k<2*S.m->(S.T (k/2)).r=0:=λk hk=>by
  obtain⟨a,b,e⟩:=h.T (k/2) qo;rw[e];rfl
 have hv:(∀k,k<2*S.m->0<=u k/\v k<=(S.T (k/2)).r*u k/\-v k<=(S.T (k/2)).r*u k)↔∀k,k<2*S.m->0<=u k/\v k=0:=by
  constructor
  .intro g k hk;have:=g k hk;rw[hr k hk] at this;refine⟨this.1,?_⟩;grind
  .intro g k hk;have:=g k hk;rw[hr k hk];refine⟨this.1,by grind,by grind⟩
 unfold Bal;rw[hv,h.n];refine and_congr_right λg=>?_
 have e1:sm (2*S.m) (λk=>(on (S.T (k/2)) 0 (frc (S.T (k/2)) (u k) (v k))).x)=sm (2*S.m) λ_=>0:=Qb λk hk=>by
  obtain⟨a,b,e⟩:=h.T (k/2) qo;rw[e,ex_frc,(g k hk).2];grind
 have e2:sm (2*S.m) (λk=>(on (S.T (k/2)) 0 (frc (S.T (k/2)) (u k) (v k))).y)=sm (2*S.m) u:=Qb λk hk=>by
  obtain⟨a,b,e⟩:=h.T (k/2) qo;rw[e,ex_frc]
 have e3:sm (2*S.m) (λk=>JZ (Jl (S.at k) (S.B 0).c) (on (S.T (k/2)) 0 (frc (S.T (k/2)) (u k) (v k))))=sm (2*S.m) λk=>((S.at k).x-1)*u k:=Qb λk hk=>by
  obtain⟨a,b,e⟩:=h.T (k/2) qo;rw[e,ex_frc,(g k hk).2,h.B];show((S.at k).x-((1:Int):Rat))*u k-((S.at k).y-((1:Int):Rat))* -0=_;rw[c1];grind
 have e4:sm (2*S.m) (λk=>if tch (S.T (k/2)) 0 then spn (S.T (k/2)).n*u k else 0)=sm (2*S.m) u:=Qb λk hk=>by
  obtain⟨a,b,e⟩:=h.T (k/2) qo;rw[e,ah (show tch (Ju a b) 0 from .inl rfl)]
  have:spn (Ju a b).n=1:=by
   show spn ⟨((0:Int):Rat),((1:Int):Rat)⟩=1;decide +kernel
  rw[this];grind
 have z:∀n,sm n (λ_=>(0:Rat))=0:=λn=>by
  induction n with
  |zero=>rfl
  |succ n ih=>show sm n _+0=0;rw[ih];grind
 have hst:(S.B 0).st=10:=by rw[h.B];exact d10
 constructor
 .intro q;obtain⟨a,b,c,d⟩:=q 0 qd;rw[e2] at b;rw[e3] at c;rw[e4,hst] at d;exact⟨b,c,d⟩
 .rintro⟨b,c,d⟩ i hi;obtain rfl:i=0:=qo;rw[e1,e2,e3,e4,hst,z];exact⟨rfl,b,c,d⟩
def exC(L:List Tc):Sc:=scL 1 (λ_=>exB) (Ju 0 0) L
def FC{L:List Tc}(h:∀x∈L,∃a b,x=Ju a b):ExS (exC L):=⟨rfl,rfl,Hg h⟩
def FA(L:List Tc)(c:Nat):(exC L).wt c 0=1\/(exC L).wt c 0=2:=by
 have d1:Rat.divInt 1 1=1:=by decide +kernel
 have d2:Rat.divInt 2 1=2:=by decide +kernel
 unfold Sc.wt;split
 .exact .inr d2
 .exact .inl d1
def sup1(a b:Int):∀x∈[Ju a b],∃a b,x=Ju a b:=λx hx=>⟨a,b,List.mem_singleton.1 hx⟩
def FL:¬JH 1 (λ_=>exB) (Ju 0 0) []:=λh=>by
 obtain⟨x,hx⟩:=h 0 qd;have h2:=((VW (FC (L:=[]) λx hx=>(aW hx).elim)).1 (YS.1 hx)).2.1;have h3:(0:Rat)=(exC []).wt 0 0:=h2;rcases FA [] 0 with e|e<;>rw[e] at h3<;>exact absurd h3 qd
def sm2(f:nf):sm (2*1) f=f 0+f 1:=by show 0+f 0+f 1=_;rw[Rat.zero_add]
def sm4(f:nf):sm (2*2) f=f 0+f 1+f 2+f 3:=by show 0+f 0+f 1+f 2+f 3=_;rw[Rat.zero_add]
def UR{a b:Int}(h:(a<2/\b<2)\/(2<a/\2<b)):¬JH 1 (λ_=>exB) (Ju 0 0) [Ju a b]:=λhs=>by
 obtain⟨x,hx⟩:=hs 0 qd;obtain⟨h1,h2,h3,h4⟩:=(VW (FC (sup1 a b))).1 (YS.1 hx);have a0:=(h1 0 (by show 0<2*1;decide)).1;have a1:=(h1 1 (by show 1<2*1;decide)).1;have h2:sm (2*1) (λk=>x (2*k))=_:=h2;have h3:sm (2*1) (λk=>_*x (2*k))=0:=h3;rw[sm2] at h2 h3;have h3:(Rat.divInt a 2-1)*x (2*0)+(Rat.divInt b 2-1)*x (2*1)=0:=h3
 have ha:Rat.divInt a 2*2=(a:Rat):=by
  rw[eA,Rat.div_def,Rat.mul_assoc];have:((2:Int):Rat)⁻¹*2=1:=by decide +kernel
  rw[this,cX]
 have hb:Rat.divInt b 2*2=(b:Rat):=by
  rw[eA,Rat.div_def,Rat.mul_assoc];have:((2:Int):Rat)⁻¹*2=1:=by decide +kernel
  rw[this,cX]
 have hw:0<x (2*0)+x (2*1):=by
  rcases FA [Ju a b] 0 with e|e
  .have h2:_=(1:Rat):=h2.trans e;rw[h2];decide
  .have h2:_=(2:Rat):=h2.trans e;rw[h2];decide
 generalize x (2*0)=p at *;generalize x (2*1)=q at *;generalize Rat.divInt a 2=A at *;generalize Rat.divInt b 2=B at *;rcases h with ⟨h5,h6⟩|⟨h5,h6⟩
 .have i1:A<1:=by
   have:(a:Rat)<((2:Int):Rat):=by exact_mod_cast h5
   have c2:((2:Int):Rat)=2:=rfl;rw[c2] at this;grind
  have i2:B<1:=by
   have:(b:Rat)<((2:Int):Rat):=by exact_mod_cast h6
   have c2:((2:Int):Rat)=2:=rfl;rw[c2] at this;grind
  have j1:0<=(1-A)*p:=bD (by grind) a0;have j2:0<=(1-B)*q:=bD (by grind) a1;rcases(Rat.le_iff_lt_or_eq ..).1 a0 with c|c
  .have:=dH (show 0<1-A by grind) c;grind
  .have:=dH (show 0<1-B by grind) (show 0<q by grind);grind
 .have i1:1<A:=by
   have:((2:Int):Rat)<(a:Rat):=by exact_mod_cast h5
   have c2:((2:Int):Rat)=2:=rfl;rw[c2] at this;grind
  have i2:1<B:=by
   have:((2:Int):Rat)<(b:Rat):=by exact_mod_cast h6
   have c2:((2:Int):Rat)=2:=rfl;rw[c2] at this;grind
  have j1:0<=(A-1)*p:=bD (by grind) a0;have j2:0<=(B-1)*q:=bD (by grind) a1;rcases(Rat.le_iff_lt_or_eq ..).1 a0 with c|c
  .have:=dH (show 0<A-1 by grind) c;grind
  .have:=dH (show 0<B-1 by grind) (show 0<q by grind);grind
def ex_mid:JH 1 (λ_=>exB) (Ju 0 0) [Ju 1 3]:=λc _=>by
 have hw:=FA [Ju 1 3] c;generalize hq:(exC [Ju 1 3]).wt c 0=w at hw;refine⟨λj=>if j%2=0 then Rat.divInt 1 2*w else 0,YS.2 ((VW (FC (sup1 1 3))).2 ⟨λk _=>?_,?_,?_,?_⟩)⟩
 .rw[ah qo,ae qo];rcases hw with rfl|rfl<;>exact⟨by decide +kernel,rfl⟩
 .show sm (2*1) _=(exC [Ju 1 3]).wt c 0;rw[sm2,hq];rcases hw with rfl|rfl<;>decide +kernel
 .show sm (2*1) _=0;rw[sm2];show(Rat.divInt 1 2-1)*(Rat.divInt 1 2*w)+(Rat.divInt 3 2-1)*(Rat.divInt 1 2*w)=0;rcases hw with rfl|rfl<;>decide +kernel
 .show sm (2*1) _<=10;rw[sm2];rcases hw with rfl|rfl<;>decide +kernel
def ex_two:JH 1 (λ_=>exB) (Ju 0 0) [Ju 0 1,Ju 3 4]:=λc _=>by
 have hw:=FA [Ju 0 1,Ju 3 4] c
 have hs:∀x∈[Ju 0 1,Ju 3 4],∃a b,x=Ju a b:=λx hx=>by
  rcases List.mem_cons.1 hx with e|hx
  .exact⟨0,1,e⟩
  .exact⟨3,4,List.mem_singleton.1 hx⟩
 generalize hq:(exC [Ju 0 1,Ju 3 4]).wt c 0=w at hw;refine⟨λj=>if j=0\/j=6 then Rat.divInt 1 2*w else 0,YS.2 ((VW (FC hs)).2 ⟨λk _=>⟨?_,ae qo⟩,?_,?_,?_⟩)⟩
 .show 0<=if 2*k=0\/2*k=6 then _ else _;split
  .rcases hw with rfl|rfl<;>decide +kernel
  .decide
 .show sm (2*2) _=(exC [Ju 0 1,Ju 3 4]).wt c 0;rw[sm4,hq];rcases hw with rfl|rfl<;>decide +kernel
 .show sm (2*2) _=0;rw[sm4];show(Rat.divInt 0 2-1)*(Rat.divInt 1 2*w)+(Rat.divInt 1 2-1)*0+(Rat.divInt 3 2-1)*0+(Rat.divInt 4 2-1)*(Rat.divInt 1 2*w)=0;rcases hw with rfl|rfl<;>decide +kernel
 .show sm (2*2) _<=10;rw[sm4];rcases hw with rfl|rfl<;>decide +kernel
def exP:List (List Tc):=[[Ju 0 1],[Ju 3 4],[Ju 1 3]]
def Kh:List (List Tc):=[[Ju 0 1],[Ju 3 4]]
def Zk:Qa [] exP 2=[[],[0],[1],[2],[0,1],[0,2],[1,2]]/\Qa [] Kh 2=[[],[0],[1],[0,1]]/\Qa [] Kh 1=[[],[0],[1]]/\Jm 3 2=[[],[0],[1],[2],[0,1],[0,2],[1,2]]:=by
 have h1:Jm 3 2=[[],[0],[1],[2],[0,1],[0,2],[1,2]]:=by decide +kernel
 have h2:Jm 2 2=[[],[0],[1],[0,1]]:=by decide +kernel
 have h3:Jm 2 1=[[],[0],[1]]:=by decide +kernel
 refine⟨?_,?_,?_,h1⟩
 .show(Jm 3 2).filter _=_;rw[h1];rfl
 .show(Jm 2 2).filter _=_;rw[h2];rfl
 .show(Jm 2 1).filter _=_;rw[h3];rfl
def UP:Ans (Qa [] exP 2) (StP 1 (λ_=>exB) (Ju 0 0) [] exP) (some 3)/\Ans (Qa [] Kh 2) (StP 1 (λ_=>exB) (Ju 0 0) [] Kh) (some 3)/\Ans (Qa [] Kh 1) (StP 1 (λ_=>exB) (Ju 0 0) [] Kh) none:=by
 obtain⟨h1,h2,h3,_⟩:=Zk;rw[h1,h2,h3];have three:∀j,j<3->j=0\/j=1\/j=2:=λj h=>by omega
 refine⟨⟨by decide,ex_mid,λj hj=>?_⟩,⟨by decide,ex_two,λj hj=>?_⟩,λj hj=>?_⟩
 .rcases three j hj with rfl|rfl|rfl
  .exact FL
  .exact UR (.inl ⟨by decide,by decide⟩)
  .exact UR (.inr ⟨by decide,by decide⟩)
 .rcases three j hj with rfl|rfl|rfl
  .exact FL
  .exact UR (.inl ⟨by decide,by decide⟩)
  .exact UR (.inr ⟨by decide,by decide⟩)
 .rcases three j hj with rfl|rfl|rfl
  .exact FL
  .exact UR (.inl ⟨by decide,by decide⟩)
  .exact UR (.inr ⟨by decide,by decide⟩)
end Fx
section
open W Go.RowKit
open Bl (Vc Bd Tc Sc)
abbrev d0:Tc:=Fx.Ju 0 0
abbrev tl(L:List Tc)(j:Nat):Tc:=L.getD j d0
abbrev sl(C:List nd)(j:Nat):nd:=C.getD j []
abbrev pl(C:List (List Tc))(j:Nat):List Tc:=C.getD j []
abbrev Qp:Shp nA nd:=⟨1,λm _=>[m],λm a=>sI m a,by decide,λ_ _=>rfl⟩
abbrev tlS:Shp (nA×(Nat->ToM)) (List Tc):=⟨1,λm _=>[m.1],λm a=>lF Qu m.1 a.length m.2 (tl a),by decide,λ_ _=>rfl⟩
def Zs{α:Type}(n:Nat)(f g:Nat->α)(j:Nat):α:=if j<n then f j else g (j-n)
def GD{α:Type}(C:List α)(s d:α):Qy (λj=>C.getD j d) C.length s=λj=>(C++[s]).getD j d:=funext λj=>by
 unfold Qy;simp only[List.getD_eq_getElem?_getD];by_cases e:j=C.length
 .subst e;rw[ah rfl];simp
 .rw[ae e];by_cases h:j<C.length
  .rw[List.getElem?_append_left h]
  .rw[List.getElem?_append_right qo,List.getElem?_eq_none qo];obtain⟨q,hq⟩:∃q,j-C.length=q+1:=⟨j-C.length-1,by omega⟩
   rw[hq];simp
def Hf{α:Type}(C D:List α)(d:α):Zs C.length (λj=>C.getD j d) (λj=>D.getD j d)=λj=>(C++D).getD j d:=funext λj=>by
 unfold Zs;simp only[List.getD_eq_getElem?_getD];by_cases h:j<C.length
 .rw[ah h,List.getElem?_append_left h]
 .rw[ae h,List.getElem?_append_right qo]
section
variable {M α:Type}{S:Shp M α}{P:nh}{e:Env}{bx bx':nw}{F:nc}{ty t el:nl}{v u:nA}{x y:ni}{n k:Nat}{ms ms2:Nat->M}{xs xs2:Nat->α}{K:Qd}
def lcells_cat2:QG S n ms xs++QG S k ms2 xs2=QG S (n+k) (Zs n ms ms2) (Zs n xs xs2):=by
 have hp:=S.pos;refine Js (by rw[List.length_append,Qg,Qg,Nat.add_mul]) λj hj=>?_;by_cases h:j<n*S.w
 .rw[List.getElem?_append_left (by rw[Qg];exact h),QU h];have hn:j/S.w<n:=(bK hp).2 h;show some (JG S.w _ j)=some (JG S.w _ j);unfold JG Zs;simp only;rw[ah hn,ah hn]
 .rw[Nat.add_mul] at hj;rw[List.getElem?_append_right (by rw[Qg];omega),Qg,QU qo]
  have hd:j/S.w=n+(j-n*S.w)/S.w:=by
   obtain⟨r,hr⟩:=dL (aP h);rw[hr,cN,aY n,cG hp]
  have hm:j%S.w=(j-n*S.w)%S.w:=by
   obtain⟨r,hr⟩:=dL (aP h);rw[hr,cN,aY n,cF]
  show some (JG S.w _ _)=some (JG S.w _ j);unfold JG Zs;simp only;rw[hd,hm,ae (Nat.not_lt.2 (Nat.le_add_right _ _)),ae (Nat.not_lt.2 (Nat.le_add_right _ _)),cN]
def W.Has.mcat2(h:Has F (lM S n ms xs))(h2:Has F (lM S k ms2 xs2)):Has F (lM S (n+k) (Zs n ms ms2) (Zs n xs xs2)):=λp hf i hi=>by
 unfold Zs;by_cases c:i<n
 .rw[ah c,ah c];exact h p hf i c
 .rw[ae c,ae c];exact h2 p hf (i-n) qo
def Df(h:∀j,j<k->QB bx F (S.cs (ms2 j) (xs2 j))){fr:CF}{w:nm}(ho:OK fr bx F w):∀u∈QG S k ms2 xs2,u.oneCell'=true:=λu hu=>by
 have hp:=S.pos;unfold QG JQ at hu;obtain⟨j,hj,rfl⟩:=List.mem_map.1 hu;have hj:=List.mem_range.1 hj;have h1:j/S.w<k:=(bK hp).2 hj;refine(h _ h1).all ho _ ?_;unfold Zo JG;have hm:=bw j hp;rw[List.getD_eq_getElem?_getD,List.getElem?_eq_getElem (by rw[S.len];exact hm)];exact cD _
def LO.appLF{t1 b:nl}{z:nA}{bx2:nA->nw}(he:Xl P t1 el S.w z b)(hx:ev e x=some v)(hy:ev e y=some u)(hu:Has F (lF S u k ms2 xs2))(h1:∀j,j<k->QB bx F (S.cs (ms2 j) (xs2 j)))
  (hs:∀v',Sel bx (lO S v el n ms xs) (lO S v' el (n+k) (Zs n ms ms2) (Zs n xs xs2)) (bx2 v')) (hb:b<=1000) (hw:S.w<=100) (hl:n+k<=1000000) (h:∀v',K v' (bx2 v') F) :
  LO P (.call {callee:=.builtin .append,args:=#[x,y],argTypes:=#[t1,t1]}) ty e bx F K:=by
 refine LO.byP (λfr w ho=>Df h1 ho) λh1=>?_;have hw1:(n+k)*S.w<=1000000*100:=aO hl hw;have hl2:(QG S n ms xs).length+(QG S k ms2 xs2).length=(n+k)*S.w:=by rw[Qg,Qg,Nat.add_mul]
 exact LO.append he hx hy (news:=QG S k ms2 xs2) (by rw[lcells_cat2];exact hs) (Qo.fact hu.ls) h1 (by
  rw[hl2];have:=aO (show(n+k)*S.w<=100000000 by omega) hb;omega) (by rw[hl2];omega) h
def lcells_lt{ys:Nat->α}{ns:Nat->M}(h:∀j,j<n->S.cs (ms j) (xs j)=S.cs (ns j) (ys j)):QG S n ms xs=QG S n ns ys:=by
 refine Js (Qg _ _) λj hj=>?_;rw[QU hj];show some (JG S.w _ j)=some (JG S.w _ j);unfold JG;simp only;rw[h _ ((bK S.pos).2 hj)]
end
namespace Z
attribute [local irreducible] WC WL WD YO LO Qq W.Fin Qk Qh Qj Row QZ Qv KnS Has W.One Qo QX
def cloneI_c(u:nA)(l:nd)(hn:l.length<=1000):FnB prog 61 [u] [] [sI u l] (IsO 3 1 (ints l)):=by
 refine fO [(0,u)] 8 Tryz.func61 Tryz.ntmps61 λh0=>?_;cases hnl:isNil u with
 |true=>
  refine WC.Gv (v:=u) (l:=l) hmA hnl λh=>?_;subst h;refine gPr ?_;refine WC.QL 3 1 ?_;exact wq92
 |false=>
  refine gPr ?_;intro v v;exact wq92
end Z
end
namespace Fx
def goodB(n many:Int):Nat->nd->Bool
 |0,_=>false
 |f+1,l=>(l.all λx=>decide (0<=x/\x<=20)) && match nxt n many l with|none=>true|some l'=>goodB n many f l'
def chkG:Bool:=(List.range 9).all λn=>(List.range (n+1)).all λk=>goodB (n:Nat) (k:Nat) 100 (start k)
def chkG_ok:chkG=true:=by kernel_rfl
def good_all(n:Nat)(hn:n<=8)(k:Nat)(hk:k<=n):goodB (n:Nat) (k:Nat) 100 (start k)=true:=
 List.all_eq_true.1 (List.all_eq_true.1 chkG_ok n (List.mem_range.2 qo)) k (List.mem_range.2 qo)
def good_bd{n many:Int}{f:Nat}{l:nd}(h:goodB n many (f+1) l=true):(∀x∈l,0<=x/\x<=20)/\∀l',nxt n many l=some l'->goodB n many f l'=true:=by
 unfold goodB at h;rw[aE] at h;refine⟨λx hx=>ao (List.all_eq_true.1 h.1 x hx),λl' e=>?_⟩;have h2:=h.2;rw[e] at h2;exact h2
def kmax_go{n many:Int}{l:nd}{j:Nat}(h:l.getD j 0=n-many+(j:Int)):kmax n many l (j+1)=kmax n many l j:=ah h
def kmax_stop{n many:Int}{l:nd}{j:Nat}(h:¬l.getD j 0=n-many+(j:Int)):kmax n many l (j+1)=some j:=ae h
def kmax_lt{n many:Int}{l:nd}:∀{j k:Nat},kmax n many l j=some k->k<j
 |0,_,h=>by cases h
 |j+1,k,h=>by
  unfold kmax at h;split at h
  .have:=kmax_lt h;omega
  .cases h;omega
def nxt_none{n many:Int}{l:nd}(h:kmax n many l l.length=none):nxt n many l=none:=by unfold nxt;rw[h]
def nxt_some{n many:Int}{l:nd}{k:Nat}(h:kmax n many l l.length=some k):nxt n many l=some (HF (l.set k (l.getD k 0+1)) (k+1) (l.length-(k+1))):=by unfold nxt;rw[h]
def chs_le(n many:Int):∀f l,(chsF n many f l).length<=f
 |0,_=>by simp[chsF]
 |f+1,l=>by
  unfold chsF;cases h:nxt n many l with
  |none=>simp
  |some l'=>have:=chs_le n many f l';simp;omega
def HS(n:Nat):∀k,(XZ n k).length<=100*k
 |0=>by simp[XZ]
 |k+1=>by
  unfold XZ;have:=HS n k;have:=chs_le n k 100 (start k);unfold chs;rw[List.length_append];omega
def YL(n most:Int):(Jm n most).length<=900:=by
 unfold Jm;split
 .simp
 .have:=HS n.toNat (min n.toNat most.toNat+1);omega
def Uw{l:nd}{j:Nat}(h:j<l.length):l.getD j 0∈l:=by
 rw[List.getD_eq_getElem?_getD,List.getElem?_eq_getElem h];exact cD h
def all_set{P:Int->Prop}{l:nd}{j:Nat}{y:Int}(h:∀x∈l,P x)(hy:P y):∀x∈l.set j y,P x:=λx hx=>by
 rcases List.mem_or_eq_of_mem_set hx with h1|h1
 .exact h x h1
 .exact h1 ▸ hy
def start_len(k:Nat):(start k).length=k:=by simp[start]
def Kl(many i:Nat):nd:=(List.range i).map Int.ofNat++List.replicate (many-i) 0
def fill_0(many:Nat):Kl many 0=List.replicate many 0:=by simp[Kl]
def fill_all(many:Nat):Kl many many=start many:=by simp[Kl,start]
def fill_len{many i:Nat}(h:i<=many):(Kl many i).length=many:=by simp[Kl];omega
def fill_set{many i:Nat}(h:i<many):(Kl many i).set i (i:Int)=Kl many (i+1):=by
 unfold Kl;rw[List.set_append_right _ _ (by simp)];obtain⟨q,hq⟩:∃q,many-i=q+1:=⟨many-i-1,by omega⟩
 rw[show many-(i+1)=q by omega,hq,cH,eh];simp
def sets_K{N M:Nat}{most:Int}(hN:N<=8)(hM:(M:Int)=max 0 (min (N:Int) most+1)):Jm (N:Int) most=XZ N M:=by
 unfold Jm;by_cases c:most<0
 .rw[ah (.inr (.inr c))];obtain rfl:M=0:=qo;rfl
 .rw[ae qo];have:min ((N:Int).toNat) most.toNat+1=M:=qo;rw[this];rfl
end Fx
section
open W Go.RowKit
open Bl (Vc Bd Tc Sc)
def AddB(P:nh)(g5 gn gm n many:Nat)(hx:PH)(l:Nat)(r:Loop):Prop:=∀(v:nA) (ms:ng) (C:List nd) (u:nA) (s:nd),C.length<=3000->
 V6 P l r u [Ow.cells gm 3 [nj many],Ow.cells gn 3 [nj n],lO Qp v 28 C.length ms (sl C),Ow.cells g5 25 [v]] [lM Qp C.length ms (sl C),sI u s,ge hx]
  (λbx' G=>∃v' ms',bx'=[Ow.cells gm 3 [nj many],Ow.cells gn 3 [nj n],lO Qp v' 28 (C++[s]).length ms' (sl (C++[s])),Ow.cells g5 25 [v']]/\G=[lM Qp (C++[s]).length ms' (sl (C++[s]))])
def jm:Nat->Int
 |0=>-1
 |k+1=>(k:Int)
def jm_eq(k:Nat):(k:Int)-1=jm k:=by cases k<;>simp[jm]<;>omega
namespace Z
attribute [local irreducible] WC WL WD YO LO Qq W.Fin Qk Qh Qj Row QZ Qv KnS Has W.One Qo QX
def d60{G G':Prop}(h:G')(s:Bx G'->G:=by
 intro h;first|refine gF ?_|(apply WC.draw (id:=8) [0,1,2,3,4,5,6,7,8,9,10,11,12,13] (.h 0<|.h 1<|.h 2<|.h 3<|.h 4<|.h 5<|.h 6<|.h 7<|.h 8<|.h 9<|.h 10<|.h 11<|.h 12<|.h 13 .done) mixed kr)|fail
 exact Bx.h h):G:=s ⟨h⟩
def d60r{G G':Prop}(h:G')(s:Bx G'->G:=by
 intro h;repeat'(first|intro(zQ:Nat)|refine d60 ?_|intro zQ)
 repeat revert zQ
 exact Bx.h h):G:=s ⟨h⟩

attribute [local irreducible] V6
def chosen1_c(l:Nat)(r:Loop)(g5 gn gm n many:Nat)(hn:n<=8)(hmn:many<=n)(hx:PH)(v0:nA)(ms0:ng)(C0:List nd)(hC:C0.length<=2000)(hY:AddB prog g5 gn gm n many hx l r) :
  FnB prog 60 [.func (.yield l) #[] #[],ptr gm,ptr gn] [Ow.obj l (.loop r),Ow.cells gm 3 [.int .i64 (many:Int)],Ow.cells gn 3 [.int .i64 (n:Int)],lO Qp v0 28 C0.length ms0 (sl C0),Ow.cells g5 25 [v0]] [lM Qp C0.length ms0 (sl C0),ge hx]
   (RgP l r (λbx' G=>∃v' ms',bx'=[Ow.cells gm 3 [.int .i64 (many:Int)],Ow.cells gn 3 [.int .i64 (n:Int)],lO Qp v' 28 (C0++Fx.chs n many).length ms' (sl (C0++Fx.chs n many)),Ow.cells g5 25 [v']]/\G=[lM Qp (C0++Fx.chs n many).length ms' (sl (C0++Fx.chs n many))]) (λ_ _ _=>False)):=by
 refine fO [(0,(.func (.yield l) #[] #[])),(1,(ptr gm)),(2,(ptr gn))] 66 Tryz.func60 Tryz.ntmps60 λh0=>?_;refine d60r ?_;intro v;revert v;intro v4;simp only[bC];rw[<-Fx.fill_0];refine WC.JK (σ:=Unit) (λ_=>[(4,v4),(0,.func (.yield l) #[] #[]),(1,ptr gm),(2,ptr gn)]) (λ_=>Ow.slice v4 3 1 (ints (Fx.start many))::[Ow.obj l (.loop r),Ow.cells gm 3 [.int .i64 (many:Int)],Ow.cells gn 3 [.int .i64 (n:Int)],lO Qp v0 28 C0.length ms0 (sl C0),Ow.cells g5 25 [v0]]) (λ_=>[lM Qp (C0).length ms0 (sl (C0)),ge h0,ge hx]) (λ_=>True) ?_ ?_
 .refine WC.lp (σ:=Nat) (λi=>[(12,.int .i64 (i:Int)),(11,.int .i64 (many:Int)),(4,v4),(0,.func (.yield l) #[] #[]),(1,ptr gm),(2,ptr gn)]) (λi=>Ow.slice v4 3 1 (ints (Fx.Kl many i))::[Ow.obj l (.loop r),Ow.cells gm 3 [.int .i64 (many:Int)],Ow.cells gn 3 [.int .i64 (n:Int)],lO Qp v0 28 C0.length ms0 (sl C0),Ow.cells g5 25 [v0]]) (λ_=>[lM Qp (C0).length ms0 (sl (C0)),ge h0,ge hx]) (λi=>i<=many) (λi=>many-i) 0 (aj _) ?_;rintro i hi;have hl:=Fx.fill_len hi;by_cases d:i<many
  .refine d60r ?_;simp only[be,Fx.fill_set d];exact Qq.mk (i+1) qo qo
  .obtain rfl:i=many:=qo;refine d60r ?_;rw[Fx.fill_all];exact Qr () trivial
 rintro⟨⟩ _;refine WC.perm [Ow.obj l (.loop r),Ow.cells gm 3 [.int .i64 (many:Int)],Ow.cells gn 3 [.int .i64 (n:Int)],lO Qp v0 28 (C0).length ms0 (sl (C0)),Ow.cells g5 25 [v0],Ow.slice v4 3 1 (ints (Fx.start many))] (ay (l₁:=[_])) ?_;refine d60r ?_
 refine WC.lp (σ:=nd×Nat×List nd×nA×ng) (λ_=>[(4,v4),(0,.func (.yield l) #[] #[]),(1,ptr gm),(2,ptr gn)]) (λst=>[Ow.obj l (.loop r),Ow.cells gm 3 [.int .i64 (many:Int)],Ow.cells gn 3 [.int .i64 (n:Int)],lO Qp st.2.2.2.1 28 (st.2.2.1).length st.2.2.2.2 (sl (st.2.2.1)),Ow.cells g5 25 [st.2.2.2.1],Ow.slice v4 3 1 (ints st.1)]) (λst=>[lM Qp (st.2.2.1).length st.2.2.2.2 (sl (st.2.2.1)),ge h0,ge hx])
  (λst=>st.1.length=many/\Fx.goodB n many st.2.1 st.1=true/\st.2.2.1++Fx.chsF n many st.2.1 st.1=C0++Fx.chs n many/\st.2.2.1.length+st.2.1<=C0.length+100) (λst=>st.2.1) (Fx.start many,100,C0,v0,ms0) ⟨Fx.start_len many,Fx.good_all n hn many hmn,rfl,ai _⟩ ?_
 rintro⟨L,f,C,v,ms⟩ ⟨hL,hg,hc,hl⟩;simp only at hL hg hc hl ⊢;cases f with
 |zero=>cases hg
 |succ f=>
 obtain⟨hb,hg2⟩:=Fx.good_bd hg;refine d60r ?_;first|refine WL.callO (cloneI_c v4 L qo) (λrv=>?_)|refine WD.callO (cloneI_c v4 L qo) (λrv=>?_)
 refine WL.Q6 (v:=rv) (l:=L) wq3 ?_;refine WL.l rfl rfl (LO.yieldC (hY v ms C rv L qo) rfl rfl [Ow.slice v4 3 1 (ints L),Ow.slice (.slice none 0 0) 3 1 []] (ay (l₁:=[_])) (F0:=_) (λf hf=>?_) λbx' G hX=>?_)
 .simp only[bq,aW,di] at hf;rcases hf with rfl|rfl|rfl
  .exact hmA
  .exact hmA
  .exact hmA
 obtain⟨v',ms',rfl,rfl⟩:=hX;refine sNn ?_;refine d60r ?_;rw[jm_eq];refine WC.JK (σ:=Nat) (λj=>[(6,.int .i64 (jm j)),(4,v4),(0,.func (.yield l) #[] #[]),(1,ptr gm),(2,ptr gn)]) (λ_=>[Ow.obj l (.loop r),Ow.cells gm 3 [.int .i64 (many:Int)],Ow.cells gn 3 [.int .i64 (n:Int)],lO Qp v' 28 (C++[L]).length ms' (sl (C++[L])),Ow.cells g5 25 [v'],Ow.slice v4 3 1 (ints L)]) (λ_=>[lM Qp (C++[L]).length ms' (sl (C++[L])),ge h0,ge hx]) (λj=>(j=0/\Fx.kmax n many L L.length=none)\/∃k,j=k+1/\Fx.kmax n many L L.length=some k) ?_ ?_
 .refine WC.lp (σ:=Nat) (λj=>[(6,.int .i64 (jm j)),(4,v4),(0,.func (.yield l) #[] #[]),(1,ptr gm),(2,ptr gn)]) (λ_=>[Ow.obj l (.loop r),Ow.cells gm 3 [.int .i64 (many:Int)],Ow.cells gn 3 [.int .i64 (n:Int)],lO Qp v' 28 (C++[L]).length ms' (sl (C++[L])),Ow.cells g5 25 [v'],Ow.slice v4 3 1 (ints L)]) (λ_=>[lM Qp (C++[L]).length ms' (sl (C++[L])),ge h0,ge hx]) (λj=>j<=L.length/\Fx.kmax n many L L.length=Fx.kmax n many L j) (λj=>j) many ⟨by omega,by rw[hL]⟩ ?_;rintro j ⟨hj,hk⟩;cases j with
  |zero=>
   show WC _ _ _ ((6,.int .i64 (-1))::_) _ _ _;refine d60r ?_;exact Qr 0 (.inl ⟨rfl,hk⟩)
  |succ k=>
   show WC _ _ _ ((6,.int .i64 (k:Int))::_) _ _ _;by_cases he:L.getD k 0=n-many+(k:Int)
   .refine d60r ?_;rw[jm_eq];exact Qq.mk k ⟨by omega,hk.trans (Fx.kmax_go he)⟩ qo
   .refine d60r ?_;exact Qr (k+1) (.inr ⟨k,rfl,hk.trans (Fx.kmax_stop he)⟩)
 rintro j (⟨rfl,hk⟩|⟨k,rfl,hk⟩)
 .show WC _ _ _ ((6,.int .i64 (-1))::_) _ _ _;refine d60r ?_;refine WC.ret ?_
  have hfin:C++[L]=C0++Fx.chs n many:=by
   rw[<-hc];show _=C++L::(match Fx.nxt n many L with|none=>[]|some l'=>_);rw[Fx.nxt_none hk]
  rw[hfin];exact Fin.p _ _ (Qf.t0 rfl) meA slA haA (.inl ⟨_,rfl,_,_,rfl,rfl⟩)
 have hkl:=Fx.kmax_lt hk;have hq:=hb _ (Fx.Uw hkl);show WC _ _ _ ((6,.int .i64 (k:Int))::_) _ _ _;refine d60r ?_;generalize hR:Fx.HF (L.set k (L.getD k 0+1)) (k+1) (L.length-(k+1))=R;refine WC.lp (σ:=Nat×nd) (λst=>[(7,.int .i64 (st.1:Int)),(4,v4),(0,.func (.yield l) #[] #[]),(1,ptr gm),(2,ptr gn)]) (λst=>[Ow.obj l (.loop r),Ow.cells gm 3 [.int .i64 (many:Int)],Ow.cells gn 3 [.int .i64 (n:Int)],lO Qp v' 28 (C++[L]).length ms' (sl (C++[L])),Ow.cells g5 25 [v'],Ow.slice v4 3 1 (ints st.2)]) (λ_=>[lM Qp (C++[L]).length ms' (sl (C++[L])),ge h0,ge hx]) (λst=>k+1<=st.1/\st.1<=L.length/\st.2.length=L.length/\Fx.HF st.2 st.1 (L.length-st.1)=R/\∀x∈st.2,0<=x/\x<=21+(st.1:Int)) (λst=>L.length-st.1) (k+1,L.set k (L.getD k 0+1)) ⟨ai _,by simp only;omega,by simp,hR,Fx.all_set (λx hx=>by have:=hb x hx;simp only;omega) wq14⟩ ?_;rintro⟨i,L1⟩ ⟨h1,h2,h3,h4,h5⟩;simp only at h1 h2 h3 h4 h5 ⊢;by_cases d:i<L.length
 .obtain⟨p,rfl⟩:∃p,i=p+1:=⟨i-1,by omega⟩
  have hp:(((p+1:Nat):Int)-1).toNat=p:=qo;have hq2:=h5 _ (Fx.Uw (l:=L1) (j:=(((p+1:Nat):Int)-1).toNat) qo);refine d60r ?_;simp only[be,hp];rw[hp] at hq2;refine Qq.mk (p+1+1,L1.set (p+1) (L1.getD p 0+1)) ⟨by simp only;omega,by simp only;omega,by simp only[bZ];omega,?_,Fx.all_set (λx hx=>by have:=h5 x hx;simp only;omega) wq14⟩ wq14;rw[show L.length-(p+1)=L.length-(p+1+1)+1 by omega] at h4;exact h4
 .obtain rfl:i=L.length:=qo;rw[df] at h4;have h4:L1=R:=h4;subst h4;refine d60r ?_;have hnx:=Fx.nxt_some hk;rw[hR] at hnx;refine Qq.mk (L1,f,C++[L],v',ms') ⟨by simp only;omega,hg2 _ hnx,?_,by simp only[List.length_append,bt];omega⟩ wq14;rw[<-hc];show(C++[L])++_=C++L::(match Fx.nxt n many L with|none=>[]|some l'=>_);rw[hnx,List.append_assoc];rfl
end Z
def IsCh(f:np)(n many:Nat):Qd:=λv B G=>∃gm gn,v=.func (.func f) #[] #[ptr gm,ptr gn]/\B=[Ow.cells gm 3 [nj many],Ow.cells gn 3 [nj n]]/\G=[]
def IsSets(C:List nd):Qd:=λv B G=>∃ms,B=[lO Qp v 28 C.length ms (sl C)]/\G=[lM Qp C.length ms (sl C)]
namespace Z
attribute [local irreducible] WC WL WD YO LO Qq W.Fin Qk Qh Qj Row QZ Qv KnS Has W.One Qo QX
def chosen_c(n many:Nat):FnB prog 32 [nj n,nj many] [] [] (IsCh 60 n many):=by
 refine fO [(0,(nj n)),(1,(nj many))] 6 Tryz.func32 Tryz.ntmps32 λh0=>?_;refine gPr ?_;intro g g;exact wq95
end Z
end
namespace T
open W
def a22:QZ prog 22 3 2 1:=QZ.of kr
def r22:Row prog 22 2:=Row.of kr
def al22:Qv prog 22 [nj 0,nj 0]:=Qv.of (z:=.agg #[nj 0,nj 0]) kr kr
def s24:Qh prog 24 22 2:=Qh.of kr
def f53_0:Qj prog 53 0 0:=Qj.of kr
def GF:Qj prog 53 1 1:=Qj.of kr
def r53:Row prog 53 2:=Row.of kr
def al53:Qv prog 53 [nz,nz]:=Qv.of (z:=.agg #[nz,nz]) kr kr
end T
end Go.Proofs.YtbnobghgnbockaaGreat
