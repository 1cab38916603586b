/- Lemmas. Conditions: none. -/
import Derived.Test.YtbnobghgnbockaaGreatZk13
set_option linter.all false
set_option maxHeartbeats 0
set_option maxRecDepth 100000
namespace Go.Proofs.YtbnobghgnbockaaGreat
open Tryz (prog)
open W Go.RowKit
def rplus_step{a b o:nd}{k:Nat}{c v:Int}(hk:o.length=k)(hd:Dg o)(hv:val o+BB^k*c=val (a.take k)+val (b.take k))(hx:v=a.getD k 0+b.getD k 0+c)(h0:0<=v) :
  Dg (o++[v%1000000000])/\val (o++[v%1000000000])+BB^(k+1)*(v/1000000000)=val (a.take (k+1))+val (b.take (k+1)):=by
 refine⟨hd.snoc ⟨by omega,by show _<(1000000000:Int);omega⟩,?_⟩;rw[Y9,hk,Jq,Jq,Ko,Int.mul_assoc]
 have e:BB^k*v=BB^k*(v%1000000000)+BB^k*(BB*(v/1000000000)):=by
  rw[<-Int.mul_add];congr 1;show v=v%1000000000+1000000000*(v/1000000000);omega
 rw[hx,Int.mul_add,Int.mul_add] at e;rw[<-hx] at e;omega
def Ve{a b o:nd}{k:Nat}{c v c':Int}(hk:o.length=k)(hd:Dg o)(hv:val o=val (a.take k)-val (b.take k)+BB^k*c)(hx:Dgt v)(he:v=a.getD k 0-b.getD k 0-c+BB*c') :
  Dg (o++[v])/\val (o++[v])=val (a.take (k+1))-val (b.take (k+1))+BB^(k+1)*c':=by
 refine⟨hd.snoc hx,?_⟩;rw[Y9,hk,hv,Jq,Jq,Ko,he];simp only[Int.mul_add,bH,Int.mul_assoc];omega
attribute [local irreducible] WC WL WD YO LO Qq W.Fin Qk Qh Qj Row QZ Qv KnS Has W.One Qo QX
namespace Rn
open Dvz Dvv Adc Rm
def d64{G G':Prop}(h:G')(s:Bx G'->G:=by
 intro h;first|refine gB ?_|(apply WC.draw (id:=9) [0,1,2,3,4,5,6,7,8,9,10,11,12,13,14,15,16,17,18,19,20] (.h 0<|.h 1<|.h 2<|.h 3<|.h 4<|.h 5<|.h 6<|.h 7<|.h 8<|.h 9<|.h 10<|.h 11<|.h 12<|.h 13<|.h 14<|.h 15<|.h 16<|.h 17<|.h 18<|.h 19<|.h 20 .done) mixed kr)|fail
 exact Bx.h h):G:=s ⟨h⟩
def d64r{G G':Prop}(h:G')(s:Bx G'->G:=by
 intro h;repeat'(first|intro(zQ:Nat)|refine d64 ?_|intro zQ)
 repeat revert zQ
 exact Bx.h h):G:=s ⟨h⟩

def d66{G G':Prop}(h:G')(s:Bx G'->G:=by
 intro h;first|refine gB ?_|(apply WC.draw (id:=2) [0,1,2,3,4,5] (.h 0<|.h 1<|.h 2<|.h 3<|.h 4<|.h 5<|.l 6<|.l 7<|.l 8 .done) mixed kr)|(apply WC.draw (id:=4) [0,1,2,3,4,5] (.h 0<|.h 1<|.h 2<|.h 3<|.h 4<|.h 5<|.l 6<|.l 7<|.l 8 .done) mixed kr)|(apply WC.draw (id:=5) [0,1,2,3,4,5] (.h 0<|.h 1<|.h 2<|.h 3<|.h 4<|.h 5<|.l 6<|.l 7<|.l 8 .done) mixed kr)|fail
 exact Bx.h h):G:=s ⟨h⟩
def d66r{G G':Prop}(h:G')(s:Bx G'->G:=by
 intro h;repeat'(first|intro(zQ:Nat)|refine d66 ?_|intro zQ)
 repeat revert zQ
 exact Bx.h h):G:=s ⟨h⟩

def d145{G G':Prop}(h:G')(s:Bx G'->G:=by
 intro h;first|refine gB ?_|(apply WC.draw (id:=6) [0,1,2,3,4,5,7,8,9,10] (.h 0<|.h 1<|.h 2<|.h 3<|.h 4<|.h 5<|.h 8<|.l 6<|.h 7<|.h 9<|.h 10 .done) mixed kr)|fail
 exact Bx.h h):G:=s ⟨h⟩
def d145r{G G':Prop}(h:G')(s:Bx G'->G:=by
 intro h;repeat'(first|intro(zQ:Nat)|refine d145 ?_|intro zQ)
 repeat revert zQ
 exact Bx.h h):G:=s ⟨h⟩

def YO.bneq2{e:Env}{bx:nw}{F:nc}{ty t':nl}{x y:ni}{a b:Bool}(hx:ev e x=some (.bool a))(hy:ev e y=some (.bool b)):YO prog (.binOp .neq 4 x y t') ty e bx F (.bool (!(a == b))):=YO.bne Yw hx hy
def goB{G G':Prop}(h:G')(s:Bx G'->G:=by
 intro h
 first
  |(apply WL.YE;exact wq35;exact rfl;exact rfl)
  |(apply WD.YE;exact rfl;exact wq35;exact rfl;exact rfl)
  |(apply WD.ZF;exact rfl;(apply YO.bneq2;exact rfl;exact rfl);exact rfl;exact rfl)
  |(apply WL.ZF;(apply YO.bneq2;exact rfl;exact rfl);exact rfl;exact rfl)
 exact Bx.h h):G:=s ⟨h⟩
def rplus_c(u w:nA)(a b:nd)(ha:Dg a)(hb:Dg b)(hl:a.length<=1000000000)(hl2:b.length<=1000000000):FnB prog 143 [u,w] [] [sI u a,sI w b] (IsDg (val a+val b) (max a.length b.length+1)):=by
 refine fO [(0,u),(1,w)] 42 Tryz.func143 Tryz.ntmps143 λh0=>?_;obtain⟨M,hM⟩:∃M,max a.length b.length=M:=⟨_,rfl⟩
 rw[hM];refine gAr ?_;refine WC.QL 3 1 ?_
 refine WC.lp (σ:=Nat×nd×Int×nA) (λs=>[(7,nj (s.1:Int)),(6,nj s.2.2.1),(5,s.2.2.2),(0,u),(1,w)]) (λs=>[Ow.slice s.2.2.2 3 1 (ints s.2.1)]) (λ_=>[ge h0,sI u a,sI w b])
  (λs=>s.1<=M+1/\s.2.1.length=s.1/\(s.2.2.1=0\/s.2.2.1=1)/\Dg s.2.1/\val s.2.1+BB^s.1*s.2.2.1=val (a.take s.1)+val (b.take s.1)/\(s.1=M+1->s.2.2.1=0)) (λs=>2*(M-s.1)+s.2.2.1.toNat) (0,[],0,nz) ⟨by simp,rfl,.inl rfl,.nil,by simp[val],λh=>rfl⟩ ?_
 rintro⟨k,o,c,v⟩ ⟨hk,ho,hc01,hd,hv,hend⟩;simp only at hk ho hc01 hd hv hend ⊢;have h1:0<=a.getD k 0/\a.getD k 0<1000000000:=ha.any k;have h2:0<=b.getD k 0/\b.getD k 0<1000000000:=hb.any k;have hol:o.length<=1000000001:=qo;by_cases hgo:k<a.length\/k<b.length\/0<c
 .have hst:=rplus_step (a:=a) (b:=b) (o:=o) (k:=k) (c:=c) (v:=a.getD k 0+b.getD k 0+c) ho hd hv rfl qo;have hq:(a.getD k 0+b.getD k 0+c)/1000000000=0\/(a.getD k 0+b.getD k 0+c)/1000000000=1:=qo;have hz1:a.length<=k->a.getD k 0=0:=λh=>Ym h;have hz2:b.length<=k->b.getD k 0=0:=λh=>Ym h
  have hover:M<=k->(a.getD k 0+b.getD k 0+c)/1000000000=0:=λh=>by
   have:=hz1 qo;have:=hz2 qo;omega
  have hkM:k<=M:=by
   by_cases h:k=M+1
   .have:=hend h;omega
   .omega
  have hsp:k<a.length\/(¬k<a.length/\k<b.length)\/(¬k<a.length/\¬k<b.length/\0<c):=qo;rcases hsp with c1|⟨c1,c2⟩|⟨c1,c2,c3⟩
  all_goals
   refine gAr ?_;refine cV (Z6 u a k) ?_;refine gAr ?_;refine cV (Z6 w b k) ?_;repeat'(first|intro(g:Nat)|refine gA ?_|intro v)
   rw[XS];exact Qq.mk (k+1,_,_,_) ⟨by show k+1<=M+1;omega,by simp[ho],hq,hst.1,hst.2,λh=>hover (by have h:k+1=M+1:=h;omega)⟩ (by show 2*(M-(k+1))+((a.getD k 0+b.getD k 0+c)/1000000000).toNat<2*(M-k)+c.toNat;omega)
 .have c1:¬k<a.length:=qo;have c2:¬k<b.length:=qo;have c3:c=0:=qo;subst c3;have hval:val o=val a+val b:=by rw[KJ qo,KJ qo] at hv;simpa using hv
  refine gAr ?_;refine WC.Q6 (l:=o) (v:=v) (el:=3) wq3 ?_;exact wq109
def Yz(u w:nA)(a b:nd)(ha:Dg a)(hb:Dg b)(hl:a.length<=1000000000)(hl2:b.length<=a.length)(hle:val b<=val a) :
  FnB prog 145 [u,w] [] [sI u a,sI w b] (IsDg (val a-val b) a.length):=by
 refine fO [(0,u),(1,w)] 34 Tryz.func145 Tryz.ntmps145 λh0=>?_;refine d145r ?_;refine WC.QL 3 1 ?_
 refine WC.lp (σ:=Nat×nd×Int×nA) (λs=>[(7,nj (s.1:Int)),(6,nj s.2.2.1),(5,s.2.2.2),(0,u),(1,w)]) (λs=>[Ow.slice s.2.2.2 3 1 (ints s.2.1)]) (λ_=>[ge h0,sI u a,sI w b])
  (λs=>s.1<=a.length/\s.2.1.length=s.1/\(s.2.2.1=0\/s.2.2.1=1)/\Dg s.2.1/\val s.2.1=val (a.take s.1)-val (b.take s.1)+BB^s.1*s.2.2.1) (λs=>a.length-s.1) (0,[],0,nz) ⟨by simp,rfl,.inl rfl,.nil,by simp[val]⟩ ?_
 rintro⟨k,o,c,v⟩ ⟨hk,ho,hc01,hd,hv⟩;simp only at hk ho hc01 hd hv ⊢;by_cases hlt:k<a.length
 .have h1:0<=a.getD k 0/\a.getD k 0<1000000000:=ha.any k;have h2:0<=b.getD k 0/\b.getD k 0<1000000000:=hb.any k;by_cases hneg:a.getD k 0-b.getD k 0-c<0
  .have hst:=Ve (a:=a) (b:=b) (o:=o) (k:=k) (c:=c) (c':=1) (v:=a.getD k 0-b.getD k 0-c+1000000000) ho hd hv ⟨by omega,by show _<(1000000000:Int);omega⟩ rfl;refine d145r ?_;refine cV (Z6 w b k) ?_;refine d145r ?_;intro v v;rw[XS];exact Qq.mk (k+1,_,1,_) ⟨by show k+1<=a.length;omega,by simp[ho],.inr rfl,hst.1,hst.2⟩ wq40
  .have hst:=Ve (a:=a) (b:=b) (o:=o) (k:=k) (c:=c) (c':=0) (v:=a.getD k 0-b.getD k 0-c) ho hd hv ⟨by omega,by show _<(1000000000:Int);omega⟩ (by simp);refine d145r ?_;refine cV (Z6 w b k) ?_;refine d145r ?_;intro v v;rw[XS];exact Qq.mk (k+1,_,0,_) ⟨by show k+1<=a.length;omega,by simp[ho],.inl rfl,hst.1,hst.2⟩ wq40
 .obtain rfl:k=a.length:=qo
  have hval:val o=val a-val b:=by
   rw[aQ,bo hl2] at hv;have h3:=Xn hd;rw[ho] at h3;have hp:=Xx a.length;rcases hc01 with rfl|rfl
   .simpa using hv
   .rw[eR] at hv;omega
  refine d145r ?_;refine WC.Q6 (l:=o) (v:=v) (el:=3) wq3 ?_;exact wq109
def tiny_val{n:Nat}(h:n<B2):(Qx n).getD 1 0*1000000000+(Qx n).getD 0 0=n:=by
 have h':n<1000000000000000000:=h;rcases Fa h with ⟨h1,e⟩|⟨_,e,h2⟩|⟨_,e,h2⟩
 .rw[e,h1];rfl
 .rw[e];show(0:Int)*_+_=_;simp
 .rw[e];show((n/1000000000:Nat):Int)*1000000000+((n%1000000000:Nat):Int)=n;omega
def U7(u:nA)(n:Nat)(hn:n<B2):FnB prog 201 [u] [] [sI u (Qx n)] (IsV (nj n)):=by
 refine fO [(0,u)] 9 Tryz.func201 Tryz.ntmps201 λh0=>?_;have hv:=tiny_val hn;have h1:0<=(Qx n).getD 1 0/\(Qx n).getD 1 0<1000000000:=(Qe n).any 1;have h2:0<=(Qx n).getD 0 0/\(Qx n).getD 0 0<1000000000:=(Qe n).any 0;refine gAr ?_;refine cV (Z6 u (Qx n) 1) ?_;refine gAr ?_;refine cV (Z6 u (Qx n) 0) ?_;refine gAr ?_;rw[hv];exact wq4
def rneg_c(v:nA)(z:Int):FnB prog 134 [v] [] [isZ v z] (IsZ (-z)):=by
 refine fO [(0,v)] 9 Tryz.func134 Tryz.ntmps134 λh0=>?_;refine WC.Jw hmA λn1 d1 hv hb1=>?_;subst hv;refine WC.fact (sI d1 (Qx z.natAbs)) (QH hmA) ?_;cases n1 with
 |true=>
  have hz:z<0:=ao hb1.symm;refine gAr ?_;intro g g;refine cK (QE d1 false (Qx z.natAbs) (-z) (Qe _) (by rw[Qw];omega) (λhne=>by rw[Qw] at hne;rw[bO];simp only[aH,al];omega)) ?_;rintro _ _ _ ⟨nb,d,rfl,hb,rfl,rfl⟩;refine gAs ?_;exact wq100
 |false=>
  have hz:¬z<0:=ap hb1.symm;refine gAr ?_;intro g g;refine cK (QE d1 true (Qx z.natAbs) (-z) (Qe _) (by rw[Qw];omega) (λhne=>by rw[Qw] at hne;rw[bO];simp only[aH,al];omega)) ?_;rintro _ _ _ ⟨nb,d,rfl,hb,rfl,rfl⟩;refine gAs ?_;exact wq100
def HG(v1 v2:nA)(x y:Int):FnB prog 203 [v1,v2] [] [isZ v1 x,isZ v2 y] (IsV (nj (X9 x y))):=by
 refine fO [(0,v1),(1,v2)] 24 Tryz.func203 Tryz.ntmps203 λh0=>?_;refine WC.Jw (v:=v1) (z:=x) hmA λn1 d1 hv hb1=>?_;subst hv;refine WC.Jw (v:=v2) (z:=y) hmA λn2 d2 hv hb2=>?_;subst hv;refine WC.fact (sI d1 (Qx x.natAbs)) (QH hmA) ?_;refine WC.fact (sI d2 (Qx y.natAbs)) (QH hmA) ?_;cases n1 with
 |true=>
  have hx:x<0:=ao hb1.symm;cases n2 with
  |true=>
   have hy:y<0:=ao hb2.symm;refine gAr ?_;intro g g;refine cV (Xy d2 d1 y.natAbs x.natAbs) ?_;rw[cmpI_nn hx hy];refine gAr ?_;exact wq4
  |false=>
   have hy:¬y<0:=ap hb2.symm;refine gAr ?_;intro g g;refine WC.ret ?_;exact Fin.v (Qf.t1 rfl rfl) meA (by rw[VX qo])
 |false=>
  have hx:¬x<0:=ap hb1.symm;cases n2 with
  |true=>
   have hy:y<0:=ao hb2.symm;refine gAr ?_;intro g g;refine WC.ret ?_;exact Fin.v (Qf.t1 rfl rfl) meA (by rw[VJ qo])
  |false=>
   have hy:¬y<0:=ap hb2.symm;refine gAr ?_;intro g g;refine cV (Xy d1 d2 x.natAbs y.natAbs) ?_;rw[cmpI_pp hx hy];refine gAr ?_;exact wq4
def radd_c(v1 v2:nA)(x y:Int)(h1:(Qx x.natAbs).length<=1000000000)(h2:(Qx y.natAbs).length<=1000000000):FnB prog 66 [v1,v2] [] [isZ v1 x,isZ v2 y] (IsZ (x+y)):=by
 refine fO [(0,v1),(1,v2)] 40 Tryz.func66 Tryz.ntmps66 λh0=>?_;refine WC.Jw (v:=v1) (z:=x) hmA λn1 d1 hv hb1=>?_;subst hv;refine WC.Jw (v:=v2) (z:=y) hmA λn2 d2 hv hb2=>?_;subst hv;refine WC.fact (sI d1 (Qx x.natAbs)) (QH hmA) ?_;refine WC.fact (sI d2 (Qx y.natAbs)) (QH hmA) ?_;cases n1 with
 |true=>
  have hx:x<0:=ao hb1.symm;cases n2 with
  |true=>
   have hy:y<0:=ao hb2.symm;refine d66r ?_;intro g g g;refine cK (rplus_c d1 d2 (Qx x.natAbs) (Qx y.natAbs) (Qe _) (Qe _) h1 h2) ?_;rintro u _ _ ⟨l,rfl,rfl,hd,hv,hl⟩;refine sNn ?_;rw[Qw,Qw] at hv;refine d66r ?_;refine cK (QE u true l (x+y) hd wq81 (λ_=>by rw[bO,aH];omega)) ?_;rintro _ _ _ ⟨nb,d,rfl,hb,rfl,rfl⟩;refine sNn ?_;refine d66r ?_;exact wq23
  |false=>
   have hy:¬y<0:=ap hb2.symm;refine d66r ?_;intro g g g;refine cV (Xy d1 d2 x.natAbs y.natAbs) ?_;by_cases c:x.natAbs<y.natAbs
   .rw[XY c];have hlen:(Qx x.natAbs).length<=(Qx y.natAbs).length:=aP λh=>by have:=QC h;omega
    refine d66r ?_;refine cK (Yz d2 d1 (Qx y.natAbs) (Qx x.natAbs) (Qe _) (Qe _) h2 hlen wq64) ?_;rintro u _ _ ⟨l,rfl,rfl,hd,hv,hl⟩;refine sNn ?_;rw[Qw,Qw] at hv;refine d66r ?_;refine cK (QE u false l (x+y) hd wq81 (λ_=>by rw[bO,al];omega)) ?_;rintro _ _ _ ⟨nb,d,rfl,hb,rfl,rfl⟩;refine sNn ?_;refine d66r ?_;exact wq23
   .have hc0:Xa x.natAbs y.natAbs=0\/Xa x.natAbs y.natAbs=1:=by
     by_cases c2:y.natAbs<x.natAbs
     .exact .inr (X4 c2)
     .rw[show x.natAbs=y.natAbs by omega];exact .inl (Z5 _)
    have hlen:(Qx y.natAbs).length<=(Qx x.natAbs).length:=aP λh=>by have:=QC h;omega
    refine d66r ?_;refine cK (Yz d1 d2 (Qx x.natAbs) (Qx y.natAbs) (Qe _) (Qe _) h1 hlen wq64) ?_;rintro u _ _ ⟨l,rfl,rfl,hd,hv,hl⟩;refine sNn ?_;rw[Qw,Qw] at hv;refine d66r ?_;refine cK (QE u true l (x+y) hd wq81 (λhne=>by rw[hv] at hne;rw[bO,aH];omega)) ?_;rintro _ _ _ ⟨nb,d,rfl,hb,rfl,rfl⟩;refine sNn ?_;refine d66r ?_;exact wq23
 |false=>
  have hx:¬x<0:=ap hb1.symm;cases n2 with
  |true=>
   have hy:y<0:=ao hb2.symm;refine d66r ?_;intro g g g;refine cV (Xy d1 d2 x.natAbs y.natAbs) ?_;by_cases c:x.natAbs<y.natAbs
   .rw[XY c];have hlen:(Qx x.natAbs).length<=(Qx y.natAbs).length:=aP λh=>by have:=QC h;omega
    refine d66r ?_;refine cK (Yz d2 d1 (Qx y.natAbs) (Qx x.natAbs) (Qe _) (Qe _) h2 hlen wq64) ?_;rintro u _ _ ⟨l,rfl,rfl,hd,hv,hl⟩;refine sNn ?_;rw[Qw,Qw] at hv;refine d66r ?_;refine cK (QE u true l (x+y) hd wq81 (λ_=>by rw[bO,aH];omega)) ?_;rintro _ _ _ ⟨nb,d,rfl,hb,rfl,rfl⟩;refine sNn ?_;refine d66r ?_;exact wq23
   .have hc0:Xa x.natAbs y.natAbs=0\/Xa x.natAbs y.natAbs=1:=by
     by_cases c2:y.natAbs<x.natAbs
     .exact .inr (X4 c2)
     .rw[show x.natAbs=y.natAbs by omega];exact .inl (Z5 _)
    have hlen:(Qx y.natAbs).length<=(Qx x.natAbs).length:=aP λh=>by have:=QC h;omega
    refine d66r ?_;refine cK (Yz d1 d2 (Qx x.natAbs) (Qx y.natAbs) (Qe _) (Qe _) h1 hlen wq64) ?_;rintro u _ _ ⟨l,rfl,rfl,hd,hv,hl⟩;refine sNn ?_;rw[Qw,Qw] at hv;refine d66r ?_;refine cK (QE u false l (x+y) hd wq81 (λhne=>by rw[hv] at hne;rw[bO,al];omega)) ?_;rintro _ _ _ ⟨nb,d,rfl,hb,rfl,rfl⟩;refine sNn ?_;refine d66r ?_;exact wq23
  |false=>
   have hy:¬y<0:=ap hb2.symm;refine d66r ?_;intro g g g;refine cK (rplus_c d1 d2 (Qx x.natAbs) (Qx y.natAbs) (Qe _) (Qe _) h1 h2) ?_;rintro u _ _ ⟨l,rfl,rfl,hd,hv,hl⟩;refine sNn ?_;rw[Qw,Qw] at hv;refine d66r ?_;refine cK (QE u false l (x+y) hd wq81 (λ_=>by rw[bO,al];omega)) ?_;rintro _ _ _ ⟨nb,d,rfl,hb,rfl,rfl⟩;refine sNn ?_;refine d66r ?_;exact wq23
def mu_split{o:nd}{i k:Nat}(hd:Dg o)(v:Int)(hv:0<=v)(h:v<=999999999999999999):Dgt (v%1000000000)/\Dgt (v/1000000000)/\v%1000000000+BB*(v/1000000000)=v:=⟨⟨by omega,by show _<(1000000000:Int);omega⟩,⟨by omega,by show _<(1000000000:Int);omega⟩,by show _+1000000000*_=_;omega⟩
def ZS(v1 v2:nA)(x y:Int)(h1:(Qx x.natAbs).length<=1000000000)(h2:(Qx y.natAbs).length<=1000000000):FnB prog 64 [v1,v2] [] [isZ v1 x,isZ v2 y] (IsZ (x*y)):=by
 refine fO [(0,v1),(1,v2)] 76 Tryz.func64 Tryz.ntmps64 λh0=>?_;refine WC.Jw (v:=v1) (z:=x) hmA λn1 d1 hv hb1=>?_;subst hv;refine WC.Jw (v:=v2) (z:=y) hmA λn2 d2 hv hb2=>?_;subst hv;refine WC.fact (sI d1 (Qx x.natAbs)) (QH hmA) ?_;refine WC.fact (sI d2 (Qx y.natAbs)) (QH hmA) ?_;obtain⟨a,ha⟩:∃a,Qx x.natAbs=a:=⟨_,rfl⟩
 obtain⟨b,hb⟩:∃b,Qx y.natAbs=b:=⟨_,rfl⟩
 have hda:Dg a:=ha ▸ Qe _;have hdb:Dg b:=hb ▸ Qe _;have hab:=Uu x y;have hne:=@H9 x y;rw[ha] at h1 hab hne ⊢;rw[hb] at h2 hab hne ⊢;refine d64r ?_;intro g g g v;rename_i g2 g3
 revert g;intro g4
 refine WC.lp (σ:=Nat×nd) (λs=>[(6,.int .i64 (s.1:Int)),(5,v),(2,ptr g2),(3,ptr g3),(4,ptr g4)]) (λs=>[Ow.slice v 3 1 (ints s.2),Ow.cells g4 73 [.bool false,.slice none 0 0],Ow.cells g3 73 [.bool n2,d2],Ow.cells g2 73 [.bool n1,d1]]) (λ_=>[ge h0,sI d1 a,sI d2 b])
  (λs=>s.1<=a.length/\Mu a b s.2 s.1 0 0) (λs=>a.length-s.1) (0,List.replicate (a.length+b.length) 0) ⟨by simp,Mu.z⟩ ?_
 rintro⟨i,o⟩ ⟨hi,hm⟩;simp only at hi hm ⊢;have hol:=hm.l;by_cases hlt:i<a.length
 .refine d64r ?_
  refine WC.lp (σ:=Nat×nd×Int) (λs=>[(8,.int .i64 (s.1:Int)),(7,.int .i64 s.2.2),(6,.int .i64 (i:Int)),(5,v),(2,ptr g2),(3,ptr g3),(4,ptr g4)]) (λs=>[Ow.slice v 3 1 (ints s.2.1),Ow.cells g4 73 [.bool false,.slice none 0 0],Ow.cells g3 73 [.bool n2,d2],Ow.cells g2 73 [.bool n1,d1]]) (λ_=>[ge h0,sI d1 a,sI d2 b])
   (λs=>s.1<=b.length/\Mu a b s.2.1 i s.1 s.2.2) (λs=>b.length-s.1) (0,o,0) ⟨by simp,hm⟩ ?_
  rintro⟨k,o2,c⟩ ⟨hk,hm2⟩;simp only at hk hm2 ⊢;have hol2:=hm2.l;by_cases hkl:k<b.length
  .have hbd:=mu_bd (hm2.d.any (i+k)) (hda.any i) (hdb.any k) hm2.cd;obtain⟨q1,q2,q3⟩:=mu_split (i:=i) (k:=k) hm2.d (o2.getD (i+k) 0+a.getD i 0*b.getD k 0+c) hbd.1 hbd.2.1;have hst:=hm2.step hlt hkl q1 q2 q3;have hx:0<=o2.getD (i+k) 0/\o2.getD (i+k) 0<1000000000:=hm2.d.any (i+k);have hcd:0<=c/\c<1000000000:=hm2.cd;have hP1:0<=a.getD i 0*b.getD k 0:=qo;have hP2:a.getD i 0*b.getD k 0<=9223372036854775807:=qo;refine d64r ?_;exact Qq.mk (k+1,_,_) ⟨by show k+1<=b.length;omega,hst⟩ (by show b.length-(k+1)<b.length-k;omega)
  .obtain rfl:k=b.length:=qo;refine d64r ?_;exact Qq.mk (i+1,_) ⟨by show i+1<=a.length;omega,hm2.row hlt⟩ (by show a.length-(i+1)<a.length-i;omega)
 .obtain rfl:i=a.length:=qo;obtain⟨h3,h4⟩:=hm.fin;refine d64r ?_;refine WL.Q6 (l:=o) (v:=v) (el:=3) wq3 ?_;refine cK (QE v (!(n1 == n2)) o (x*y) h3 (by rw[hab,h4]) (λhxy=>sign_mul hb1 hb2 (hne (by rw[<-h4];exact hxy)))) ?_;rintro _ _ _ ⟨nb,d,rfl,hb,rfl,rfl⟩;refine sNn ?_;refine d64r ?_;exact wq63
end Rn
namespace Ro
open Dvz Dvv Adc Rm Rn
def d202{G G':Prop}(h:G')(s:Bx G'->G:=by
 intro h;first|refine gB ?_|(apply WC.draw (id:=4) [0,1,2,3,4,5] (.h 0<|.h 1<|.h 2<|.h 3<|.h 4<|.h 5 .done) mixed kr)|fail
 exact Bx.h h):G:=s ⟨h⟩
def d202r{G G':Prop}(h:G')(s:Bx G'->G:=by
 intro h;repeat'(first|intro(zQ:Nat)|refine d202 ?_|intro zQ)
 repeat revert zQ
 exact Bx.h h):G:=s ⟨h⟩

def goB{G G':Prop}(h:G')(s:Bx G'->G:=by
 intro h
 first
  |(apply WL.Y3;exact wq55;exact rfl;exact rfl)
  |(apply WD.ZF;exact rfl;(apply Rn.YO.bneq2;exact rfl;exact rfl);exact rfl;exact rfl)
  |(apply WL.ZF;(apply Rn.YO.bneq2;exact rfl;exact rfl);exact rfl;exact rfl)
 exact Bx.h h):G:=s ⟨h⟩
def IsLL(m n:Nat):Qd:=λv b G=>∃a la c,v=.tuple #[a,c]/\b=[]/\G=[sI a la,sI c (Qx n)]/\Dg la/\val la=(m:Int)
def rdivided2_c(u w:nA)(m n:Nat)(hm:m<B2)(hn:n<B2)(h0n:n≠0):FnB prog 202 [u,w] [] [sI u (Qx m),sI w (Qx n)] (IsLL (m/n) (m%n)):=by
 refine fO [(0,u),(1,w)] 95 Tryz.func202 Tryz.ntmps202 λh0=>?_;have hm':m<1000000000000000000:=hm;have hn':n<1000000000000000000:=hn;have q1:m/n<=m:=bR _ _;have q2:m%n<n:=bw _ qo;have e1:(m:Int)/(n:Int)=((m/n:Nat):Int):=by simp
 have e2:(m:Int) % (n:Int)=((m%n:Nat):Int):=by simp
 have l1:(Qx m).length<=2:=Jx (k:=2) hm;have l2:(Qx n).length<=2:=Jx (k:=2) hn;refine d202r ?_;refine cV (U7 u m hm) ?_;refine d202r ?_;refine cV (U7 w n hn) ?_;refine d202r ?_;rw[e1];refine cK (HB ((m/n:Nat):Int) (by generalize m/n=z at *;omega) (by generalize m/n=z at *;omega)) ?_;rintro _ _ _ ⟨n1,d1,rfl,hb1,rfl,rfl⟩;refine sNn ?_;refine d202r ?_;intro g;refine cV (U7 u m hm) ?_;refine d202r ?_;refine cV (U7 w n hn) ?_;refine d202r ?_;rw[e2];refine cK (HB ((m%n:Nat):Int) (by generalize m%n=z at *;omega) (by generalize m%n=z at *;omega)) ?_;rintro _ _ _ ⟨n2,d2,rfl,hb2,rfl,rfl⟩;refine sNn ?_;refine d202r ?_;intro g;refine WC.fact (sI d1 (Qx (m/n))) (Jy hmA) ?_;refine WC.fact (sI d2 (Qx (m%n))) (Jy hmA) ?_;refine WC.ret ?_;exact Fp [sI d1 (Qx (m/n)),sI d2 (Qx (m%n))] (Qf.t2 rfl rfl rfl) haA ⟨d1,_,d2,rfl,rfl,rfl,Qe _,Qw _⟩
def VO(u:nA)(n k:Nat)(hn:Lz n)(hk:k<1000000000):FnB prog 222 [u,nj k] [] [sI u (Qx n)] (λv B G=>B=[]/\G=[sI v (Qx (n*k))]):=by
 refine fO [(0,u),(1,(nj k))] 13 Tryz.func222 Tryz.ntmps222 λh0=>?_;refine gAr ?_;refine cK (QE u false (Qx n) (n:Int) (Qe _) (by rw[Qw];simp) (λ_=>Q5 _)) ?_;rintro _ _ _ ⟨n1,d1,rfl,hb1,rfl,rfl⟩;refine gAs ?_;refine cK (HB (k:Int) qo qo) ?_;rintro _ _ _ ⟨n2,d2,rfl,hb2,rfl,rfl⟩;refine gAs ?_;refine cK (ZS (.agg #[.bool n1,d1]) (.agg #[.bool n2,d2]) (n:Int) (k:Int) hn (Lz.of (show k<1000000000000000000 by omega))) ?_;rintro _ _ _ ⟨n3,d3,rfl,hb3,rfl,rfl⟩;refine sNn ?_;rw[show(n:Int)*(k:Int)=((n*k:Nat):Int) by simp];refine gAr ?_;intro g;refine WC.fact (sI d3 (Qx (n*k))) (Jy hmA) ?_;refine WC.ret ?_;exact Fp [sI d3 (Qx (n*k))] (Qf.t1 rfl rfl) haA ⟨rfl,rfl⟩
def rdivided_c(u w:nA)(m n:Nat)(hm:Lz m)(hn:Lz n)(h0n:n≠0):FnB prog 202 [u,w] [] [sI u (Qx m),sI w (Qx n)] (IsLL (m/n) (m%n)):=by
 by_cases c0:m<B2/\n<B2
 .exact rdivided2_c u w m n c0.1 c0.2 h0n
 refine fO [(0,u),(1,w)] 95 Tryz.func202 Tryz.ntmps202 λh0=>?_
 have hsp:2<(Qx m).length\/((Qx m).length<=2/\2<(Qx n).length):=by
  by_cases c1:m<B2
  .have:=Y8 (n:=n) (λh=>c0 ⟨c1,h⟩);omega
  .have:=Y8 c1;omega
 have hst:Sh (Qx m) (n:Int) (List.replicate (Qx m).length 0) (Qx m).length ((0:Nat):Int):=Sh.z0 qo
 have hbig:∀k,val ((Qx m).drop k)<=(m:Int):=λk=>by
  by_cases h:k<=(Qx m).length
  .have e:=JU (Qx m) k h;rw[Qw] at e;have h1:=QJ ((Qe m).take k);have h2:=QJ ((Qe m).drop k);have h3:=Xx k;have h4:=aC (show(1:Int)<=BB^k by omega) h2;omega
  .rw[XK qo];omega
 have hdm:=Qe m;have hm0:Lz m:=hm;generalize hA:Qx m=A at *;have hlA:A.length<=1000000000:=by rw[<-hA];exact hm
 rcases hsp with hsp|⟨hsp,hsp2⟩
 all_goals
  repeat'(first|intro(g:Nat)|refine d202 ?_|intro v)
  revert v;intro vq
  refine WC.lp (σ:=Nat×nd×Nat×nA) (λs=>[(10,.int .i64 ((s.1:Int)-1)),(9,s.2.2.2),(8,vq),(0,u),(1,w),(4,.slice none 0 0),(5,.slice none 0 0)]) (λs=>[Ow.slice vq 3 1 (ints s.2.1)]) (λs=>[ge h0,sI u A,sI w (Qx n),sI s.2.2.2 (Qx s.2.2.1)])
   (λs=>s.1<=A.length/\Sh A (n:Int) s.2.1 s.1 (s.2.2.1:Int)) (λs=>s.1) (A.length,List.replicate A.length 0,0,.slice none 0 0) ⟨ai _,hst⟩ ?_ (hG:=.cons hmA (.cons hmA (.cons hmA (.cons (by simpa [JJ] using Gv) .nil))))
  rintro⟨k,o,r,rv⟩ ⟨hk,hs⟩;simp only at hk hs ⊢;have hol:=hs.l;have hr0:=hs.r0;match k,hk,hs with
  |k+1,hk,hs=>
   have e1:((k+1:Nat):Int)-1=(k:Int):=qo;rw[e1];have hst:=hs.step qo hdm rfl rfl;have hak:0<=A.getD k 0/\A.getD k 0<1000000000:=hdm.any k;have hrn:r<n:=qo;have hr0':=J4 (bE hrn);have hn':(Qx n).length<=1000000000:=hn;repeat'(first|intro(g:Nat)|refine d202 ?_|intro v)
   revert v;intro v';have hv2:∃R:Nat,(R:Int)=(r:Int)*BB+A.getD k 0:=⟨((r:Int)*BB+A.getD k 0).toNat,by unfold BB;omega⟩
   obtain⟨R,hR⟩:=hv2;rw[<-hR] at hst;refine WL.Q6 (l:=A.getD k 0::Qx r) (v:=v') (el:=3) wq3 ?_;have hvl:val (A.getD k 0::Qx r)=(R:Int):=by rw[val,Qw,hR,aT];omega
   refine cK (QE v' false (A.getD k 0::Qx r) (R:Int) (.cons hak (Qe _)) (by rw[hvl];simp) (λ_=>Q5 _)) ?_;rintro _ _ _ ⟨n1,d1,rfl,hb1,rfl,rfl⟩;refine sNn ?_;repeat'(first|intro(g:Nat)|refine d202 ?_|intro v)
   refine WL.QD (sI d1 (Qx R)) (Jy hmA) ?_;refine cV (Xy d1 w R n) ?_
   have hRm:R<=m:=by
    have h1:=hbig k;have h2:=hs.v;have h3:=JY (l:=A) (j:=k) qo;have h4:=bU (show(0:Int)<=n by omega) (QJ (hs.d.drop (k+1)));have h5:=am (show(r:Int)<=val (A.drop (k+1)) by omega) (show(0:Int)<=BB by decide);have h6:(r:Int)*BB=BB*(r:Int):=aT ..;omega
   have hRz:=hm0.le hRm
   have hRB:R<n*(999999999+1):=by
    have h1:=aC (show(r:Int)<=n-1 by omega) (show(0:Int)<=BB by decide);rw[cZ] at h1;unfold BB at *;omega
   have hs0:(Xa R n<0/\R<n*(0+1))\/0<=Xa R n:=by
    by_cases h:R<n
    .left;rw[XY h];exact⟨by decide,by omega⟩
    .right;unfold Xa;rw[ae h];split<;>decide
   rcases hs0 with ⟨c1,c2⟩|c1
   .refine d202r ?_
    refine WC.lp (σ:=Nat×Nat) (λs=>[(12,.int .i64 (s.1:Int)),(13,.int .i64 (s.2:Int)),(10,.int .i64 (k:Int)),(9,d1),(8,vq),(0,u),(1,w),(4,.slice none 0 0),(5,.slice none 0 0)]) (λ_=>[Ow.slice vq 3 1 (ints o)]) (λ_=>[ge h0,sI u A,sI w (Qx n),sI d1 (Qx R)])
     (λs=>s.1<=s.2/\s.2<1000000000/\n*s.1<=R/\R<n*(s.2+1)) (λs=>s.2-s.1) (0,0) ⟨by decide,by decide,by show n*0<=R;omega,c2⟩ ?_
    rintro⟨lo,hi⟩ ⟨i1,i2,i3,i4⟩;simp only at i1 i2 i3 i4 ⊢;by_cases c3:lo<hi
    .refine d202r ?_;rw[show(((lo+hi:Nat):Int)+1)/2=(((lo+hi+1)/2:Nat):Int) by omega];have b1:lo<(lo+hi+1)/2:=qo;have b2:(lo+hi+1)/2<=hi:=qo;generalize (lo+hi+1)/2=mid at *;refine WL.Jj (VO w n mid hn qo) ?_;rintro v1 _ _ ⟨rfl,rfl⟩;refine sNn ?_;refine d202r ?_;refine cV (Xy v1 d1 (n*mid) R) ?_;by_cases c4:n*mid<=R
     .have c5:Xa (n*mid) R<=0:=by unfold Xa;split;decide;rw[ae qo];decide
      refine d202r ?_;exact Qq.mk (mid,hi) ⟨b2,i2,c4,i4⟩ (by show hi-mid<hi-lo;omega)
     .have c5:¬Xa (n*mid) R<=0:=by rw[X4 qo];decide
      refine d202r ?_;rw[show((mid:Nat):Int)-1=((mid-1:Nat):Int) by omega];exact Qq.mk (lo,mid-1) ⟨by show lo<=mid-1;omega,by show mid-1<1000000000;omega,i3,by show R<n*(mid-1+1);rw[show mid-1+1=mid by omega];omega⟩ (by show mid-1-lo<hi-lo;omega)
    .obtain rfl:lo=hi:=qo;have hdiv:R/n=lo:=Nat.div_eq_of_lt_le (by rw[aY];exact i3) (by rw[aY];exact i4);have hmod:R%n+n*lo=R:=by rw[<-hdiv];exact Nat.mod_add_div R n
     have hm2:R%n<n:=bw _ qo;rw[show(R:Int)/(n:Int)=(lo:Int) by rw[<-hdiv];simp,show(R:Int) % (n:Int)=((R%n:Nat):Int) by simp] at hst;refine d202r ?_;refine WL.Jj (VO w n lo hn qo) ?_;rintro v1 _ _ ⟨rfl,rfl⟩;refine sNn ?_;refine d202r ?_;refine WL.Jj (Yz d1 v1 (Qx R) (Qx (n*lo)) (Qe _) (Qe _) hRz (J4 i3) wq64) ?_;rintro v2 _ _ ⟨l2,rfl,rfl,hd2,hv2,hl2⟩;refine sNn ?_;rw[Qw,Qw] at hv2;refine d202r ?_;refine cK (QE v2 false l2 ((R%n:Nat):Int) hd2 (by rw[hv2];omega) (λ_=>Q5 _)) ?_;rintro _ _ _ ⟨n3,d3,rfl,hb3,rfl,rfl⟩;refine sNn ?_;refine WL.QD (sI d3 (Qx (R%n))) (Jy hmA) ?_;repeat'(first|intro(g:Nat)|refine d202 ?_|intro v)
     exact Qq.mk (k,o.set k (lo:Int),R%n,d3) ⟨by show k<=A.length;omega,hst⟩ (by show k<k+1;omega)
   .refine d202r ?_
    refine WC.lp (σ:=Nat×Nat) (λs=>[(12,.int .i64 (s.1:Int)),(13,.int .i64 (s.2:Int)),(10,.int .i64 (k:Int)),(9,d1),(8,vq),(0,u),(1,w),(4,.slice none 0 0),(5,.slice none 0 0)]) (λ_=>[Ow.slice vq 3 1 (ints o)]) (λ_=>[ge h0,sI u A,sI w (Qx n),sI d1 (Qx R)])
     (λs=>s.1<=s.2/\s.2<1000000000/\n*s.1<=R/\R<n*(s.2+1)) (λs=>s.2-s.1) (0,999999999) ⟨by decide,by decide,by show n*0<=R;omega,hRB⟩ ?_
    rintro⟨lo,hi⟩ ⟨i1,i2,i3,i4⟩;simp only at i1 i2 i3 i4 ⊢;by_cases c3:lo<hi
    .refine d202r ?_;rw[show(((lo+hi:Nat):Int)+1)/2=(((lo+hi+1)/2:Nat):Int) by omega];have b1:lo<(lo+hi+1)/2:=qo;have b2:(lo+hi+1)/2<=hi:=qo;generalize (lo+hi+1)/2=mid at *;refine WL.Jj (VO w n mid hn qo) ?_;rintro v1 _ _ ⟨rfl,rfl⟩;refine sNn ?_;refine d202r ?_;refine cV (Xy v1 d1 (n*mid) R) ?_;by_cases c4:n*mid<=R
     .have c5:Xa (n*mid) R<=0:=by unfold Xa;split;decide;rw[ae qo];decide
      refine d202r ?_;exact Qq.mk (mid,hi) ⟨b2,i2,c4,i4⟩ (by show hi-mid<hi-lo;omega)
     .have c5:¬Xa (n*mid) R<=0:=by rw[X4 qo];decide
      refine d202r ?_;rw[show((mid:Nat):Int)-1=((mid-1:Nat):Int) by omega];exact Qq.mk (lo,mid-1) ⟨by show lo<=mid-1;omega,by show mid-1<1000000000;omega,i3,by show R<n*(mid-1+1);rw[show mid-1+1=mid by omega];omega⟩ (by show mid-1-lo<hi-lo;omega)
    .obtain rfl:lo=hi:=qo;have hdiv:R/n=lo:=Nat.div_eq_of_lt_le (by rw[aY];exact i3) (by rw[aY];exact i4);have hmod:R%n+n*lo=R:=by rw[<-hdiv];exact Nat.mod_add_div R n
     have hm2:R%n<n:=bw _ qo;rw[show(R:Int)/(n:Int)=(lo:Int) by rw[<-hdiv];simp,show(R:Int) % (n:Int)=((R%n:Nat):Int) by simp] at hst;refine d202r ?_;refine WL.Jj (VO w n lo hn qo) ?_;rintro v1 _ _ ⟨rfl,rfl⟩;refine sNn ?_;refine d202r ?_;refine WL.Jj (Yz d1 v1 (Qx R) (Qx (n*lo)) (Qe _) (Qe _) hRz (J4 i3) wq64) ?_;rintro v2 _ _ ⟨l2,rfl,rfl,hd2,hv2,hl2⟩;refine sNn ?_;rw[Qw,Qw] at hv2;refine d202r ?_;refine cK (QE v2 false l2 ((R%n:Nat):Int) hd2 (by rw[hv2];omega) (λ_=>Q5 _)) ?_;rintro _ _ _ ⟨n3,d3,rfl,hb3,rfl,rfl⟩;refine sNn ?_;refine WL.QD (sI d3 (Qx (R%n))) (Jy hmA) ?_;repeat'(first|intro(g:Nat)|refine d202 ?_|intro v)
     exact Qq.mk (k,o.set k (lo:Int),R%n,d3) ⟨by show k<=A.length;omega,hst⟩ (by show k<k+1;omega)
  |0,hk,hs=>
   refine d202r ?_;obtain⟨z1,z2,z3⟩:=hs.fin;have hvA:val A=(m:Int):=by rw[<-hA,Qw]
   rw[hvA] at z2 z3;refine WC.Q6 (l:=o) (v:=vq) (el:=3) wq3 ?_
   obtain rfl:r=m%n:=by have:(r:Int)=((m%n:Nat):Int):=by rw[z3];simp
                        omega
   refine WC.ret ?_;exact Fp [sI vq o,sI rv (Qx (m%n))] (Qf.t2 rfl rfl rfl) haA ⟨_,_,_,rfl,rfl,rfl,z1,by rw[z2];simp⟩
end Ro
end Go.Proofs.YtbnobghgnbockaaGreat
