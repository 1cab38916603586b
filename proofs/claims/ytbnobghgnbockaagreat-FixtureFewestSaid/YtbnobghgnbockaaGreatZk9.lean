/- Lemmas. Conditions: none. -/
import Derived.Test.YtbnobghgnbockaaGreatZk8
set_option linter.all false
set_option maxHeartbeats 0
set_option maxRecDepth 100000
namespace Go.Proofs.YtbnobghgnbockaaGreat
open Tryz (prog)
section
open W Go.RowKit
def nrm_take{l:nd}{n:Nat}(hn:n<=l.length)(h:0<n->l.getD (n-1) 0≠0):Nrm (l.take n):=λh0=>by
 have e:(l.take n).length=n:=by simp;omega
 rw[e] at h0 ⊢;rw[Z9 qo];exact h h0
def YT{l:nd}{n:Nat}(hn:n<=l.length)(hz:∀j,n<=j->j<l.length->l.getD j 0=0):val (l.take n)=val l:=by
 have:∀k,n+k<=l.length->val (l.take (n+k))=val (l.take n):=λk=>by
  induction k with
  |zero=>intro _;rfl
  |succ k ih=>
   intro hk;rw[show n+(k+1)=(n+k)+1 by omega,KX qo,hz (n+k) qo qo,ih qo];omega
 have:=this (l.length-n) qo;rw[show n+(l.length-n)=l.length by omega,aQ] at this;exact this.symm
def Hk{l:nd}{n:Nat}(hd:Dg l)(hn:n<=l.length)(hz:∀j,n<=j->j<l.length->l.getD j 0=0)(h:0<n->l.getD (n-1) 0≠0):l.take n=Qx (val l).toNat:=by
 rw[<-YT hn hz];exact digs_val (hd.take n) (nrm_take hn h)
attribute [local irreducible] WC WL WD YO LO Qq W.Fin Qk Qh Qj Row QZ Qv KnS Has W.One Qo QX
def Zy(u:nA)(nb:Bool)(l:nd)(z:Int)(hd:Dg l)(hz:z.natAbs=(val l).toNat)(hb:val l≠0->nb=decide (z<0)):FnB prog 208 [.bool nb,u] [] [sI u l] (IsZ z):=by
 refine fO [(0,(.bool nb)),(1,u)] 29 Tryz.func208 Tryz.ntmps208 λh0=>?_;refine WC.ZE u l hmA λhlen=>?_;have hv0:=QJ hd;refine gAr ?_;intro g;refine WC.lp (σ:=Nat) (λn=>[(5,.int .i64 (n:Int)),(0,.bool nb),(1,u),(4,ptr g)]) (λ_=>[Ow.cells g 73 [.bool false,.slice none 0 0]]) (λ_=>[ge h0,sI u l]) (λn=>n<=l.length/\∀j,n<=j->j<l.length->l.getD j 0=0) (λn=>n) l.length ⟨by simp,λj h1 h2=>by omega⟩ ?_;rintro n ⟨hn,hzr⟩;by_cases h:0<n
 .have e1:((n:Int)-1).toNat=n-1:=qo;by_cases h2:l.getD (n-1) 0=0
  .have h3:l.getD ((n:Int)-1).toNat 0=0:=by rw[e1];exact h2
   refine gAr ?_;exact Qq.mk (n-1) ⟨by omega,λj h4 h5=>if hj:j=n-1 then hj ▸ h2 else hzr j qo h5⟩ qo (by rw[show((n-1:Nat):Int)=(n:Int)-1 by omega];exact suA)
  .have h3:l.getD ((n:Int)-1).toNat 0≠0:=by rw[e1];exact h2
   have hc:=Hk hd hn hzr (λ_=>h2)
   have hvne:val l≠0:=λhv=>by
    rw[hv] at hc;have:(l.take n).length=n:=by simp;omega
    rw[hc] at this;simp[JJ] at this;omega
   refine gAr ?_;refine WL.QD (sI (resl3 u n n) (l.take n)) (Has.res3 hmA hn) ?_;rw[hc,<-hz];refine gAr ?_;refine WC.fact (isZ (.agg #[.bool nb,resl3 u n n]) z) (JC (hb hvne) hmA) ?_;refine WC.ret ?_;exact Fp [isZ (.agg #[.bool nb,resl3 u n n]) z] (rcV T.r73) haA ⟨nb,_,rfl,hb hvne,rfl,rfl⟩
 .obtain rfl:n=0:=qo;have hc:=Hk hd hn hzr (λh=>absurd h qo)
  have hv:val l=0:=by
   have:=YT hn hzr;simpa [val] using this.symm
  have hz0:z=0:=by rw[hv] at hz;simp at hz;exact hz
  subst hz0;refine gAr ?_;exact wq53
end
section
open W Go.RowKit
def digs_3{n:Nat}(h:1000000000*1000000000<=n)(h2:n<1000000000*1000000000*1000000000):Qx n=[((n%1000000000:Nat):Int),((n/1000000000%1000000000:Nat):Int),((n/1000000000/1000000000:Nat):Int)]:=by
 rw[Xz qo,digs_2 qo qo]
attribute [local irreducible] WC WL WD YO LO Qq W.Fin Qk Qh Qj Row QZ Qv KnS Has W.One Qo QX
def XJ(nb:Bool)(n:Nat)(z:Int)(hn:n<18446744073709551616)(hz:z.natAbs=n)(hb:n≠0->nb=decide (z<0)):FnB prog 210 [.bool nb,.int .u64 n] [] [] (IsZ z):=by
 refine fO [(0,(.bool nb)),(1,(.int .u64 n))] 43 Tryz.func210 Tryz.ntmps210 λh0=>?_;by_cases c0:n=0
 .subst c0;have hz0:z=0:=qo;subst hz0;refine gAr ?_;intro g;exact wq53
 have hb:=hb c0;by_cases c1:n<1000000000
 .have hd:=J1 c0 c1;refine gAr ?_;intro g v;refine WC.Q6 (l:=Qx z.natAbs) (v:=v) (el:=3) wq96 ?_;refine WC.fact (isZ (.agg #[.bool nb,v]) z) (JC hb hmA) ?_;exact wq66
 by_cases c2:n<1000000000*1000000000
 .have hd:=digs_2 qo c2;have e1:(n:Int)%1000000000=((n%1000000000:Nat):Int):=qo;have e2:(n:Int)/1000000000=((n/1000000000:Nat):Int):=qo;have c3:(n:Int)<1000000000000000000:=qo;refine gAr ?_;intro g v;rw[e1,e2];refine WC.Q6 (l:=Qx z.natAbs) (v:=v) (el:=3) wq96 ?_;refine WC.fact (isZ (.agg #[.bool nb,v]) z) (JC hb hmA) ?_;exact wq66
 .have hd:=digs_3 (n:=n) qo qo;have e1:(n:Int)%1000000000=((n%1000000000:Nat):Int):=qo;have e2:(n:Int)/1000000000%1000000000=((n/1000000000%1000000000:Nat):Int):=qo;have e3:(n:Int)/1000000000/1000000000=((n/1000000000/1000000000:Nat):Int):=qo;have c3:¬(n:Int)<1000000000000000000:=qo;refine gAr ?_;intro g v;rw[e1,e2,e3];refine WC.Q6 (l:=Qx z.natAbs) (v:=v) (el:=3) wq96 ?_;refine WC.fact (isZ (.agg #[.bool nb,v]) z) (JC hb hmA) ?_;exact wq66
def iof_c(n:Int)(h1:-9223372036854775808<=n)(h2:n<=9223372036854775807):FnB prog 182 [nj n] [] [] (IsZ n):=by
 refine fO [(0,(nj n))] 14 Tryz.func182 Tryz.ntmps182 λh0=>?_;by_cases c:n<0
 .have hd:=aq c;refine gAr ?_;intro g;rw[show 18446744073709551616-(n+18446744073709551616)=((n.natAbs:Nat):Int) by omega];refine cK (XJ true n.natAbs n qo rfl (λ_=>hd.symm)) ?_;rintro _ _ _ ⟨nb,d,rfl,hb,rfl,rfl⟩;refine gAs ?_;refine WC.ret ?_;exact Fp [isZ (.agg #[.bool nb,d]) n] (rcV T.r73) haA ⟨nb,_,rfl,hb,rfl,rfl⟩
 .have hd:=ak c;refine gAr ?_;intro g;rw[show n=((n.natAbs:Nat):Int) by omega];refine cK (XJ false n.natAbs (n.natAbs:Int) qo rfl (λ_=>by simp)) ?_;rintro _ _ _ ⟨nb,d,rfl,hb,rfl,rfl⟩;refine gAs ?_;refine WC.ret ?_;exact Fp [isZ (.agg #[.bool nb,d]) (n.natAbs:Int)] (rcV T.r73) haA ⟨nb,_,rfl,hb,rfl,rfl⟩
def G2(v:nA)(z:Int):FnB prog 197 [v] [] [isZ v z] (IsZ (-z)):=by
 refine fO [(0,v)] 14 Tryz.func197 Tryz.ntmps197 λh0=>?_;refine WC.Jw hmA λnb d hv hb=>?_;subst hv;have hl:=QN (n:=z.natAbs);have key:∀b:Bool,b=decide (-z<0)->Has [ge h0,isZ (.agg #[.bool nb,d]) z] (isZ (.agg #[.bool b,d]) (-z)):=λb h=>JC h (by rw[cp];exact QH hmA);cases nb with
 |true=>
  have hz:z<0:=ao hb.symm;have h2:false=decide (-z<0):=by simp;omega
  refine gAr ?_;intro g g;refine WC.fact (isZ (.agg #[nq,d]) (-z)) (key _ h2) ?_;exact wq98
 |false=>
  have hz:¬z<0:=ap hb.symm;by_cases c:z=0
  .have hl0:=hl.2 (by omega:z.natAbs=0);have h2:false=decide (-z<0):=by simp;omega
   refine gAr ?_;intro g g;refine WC.fact (isZ (.agg #[nq,d]) (-z)) (key _ h2) ?_;exact wq98
  .have hl0:0<(Qx z.natAbs).length:=by
    have:(Qx z.natAbs).length≠0:=λh=>by have:=hl.1 h;omega
    omega
   have h2:true=decide (-z<0):=by simp;omega
   refine gAr ?_;intro g g;refine WC.fact (isZ (.agg #[.bool true,d]) (-z)) (key _ h2) ?_;refine WC.ret ?_;exact Fp [isZ (.agg #[.bool true,d]) (-z)] (rcV T.r73) haA ⟨_,_,rfl,h2,rfl,rfl⟩
def sgn(z:Int):Int:=if z<0 then -1 else if z=0 then 0 else 1
def isign_c(v:nA)(z:Int):FnB prog 164 [v] [] [isZ v z] (IsV (nj (sgn z))):=by
 refine fO [(0,v)] 11 Tryz.func164 Tryz.ntmps164 λh0=>?_;refine WC.Jw hmA λnb d hv hb=>?_;subst hv;have hl:=QN (n:=z.natAbs);cases nb with
 |true=>
  have hz:z<0:=ao hb.symm;refine gAr ?_;intro g;refine WC.ret ?_;exact Fin.v (Qf.t1 rfl rfl) meA (by rw[sgn,ah hz])
 |false=>
  have hz:¬z<0:=ap hb.symm;by_cases c:z=0
  .have hl0:=hl.2 (by omega:z.natAbs=0);refine gAr ?_;intro g;refine WC.ret ?_;exact Fin.v (Qf.t1 rfl rfl) meA (by rw[sgn,ae hz,ah c])
  .have hl0:0<(Qx z.natAbs).length:=by
    have:(Qx z.natAbs).length≠0:=λh=>by have:=hl.1 h;omega
    omega
   refine gAr ?_;intro g;refine WC.ret ?_;exact Fin.v (Qf.t1 rfl rfl) meA (by rw[sgn,ae hz,ae c])
end
def Ym{l:nd}{k:Nat}(h:l.length<=k):l.getD k 0=0:=by
 rw[List.getD_eq_getElem?_getD,List.getElem?_eq_none qo];rfl
def Jq(l:nd)(k:Nat):val (l.take (k+1))=val (l.take k)+BB^k*l.getD k 0:=by
 by_cases h:k<l.length
 .exact KX h
 .rw[Ym qo,bo qo,bo qo];omega
def U9{l:nd}{k:Nat}(h:k<l.length):val l=val (l.take k)+BB^k*(l.getD k 0+BB*val (l.drop (k+1))):=by
 have e:l=l.take k++(l.getD k 0::l.drop (k+1)):=by
  rw[show l.getD k 0=l[k] by simp[List.getD_eq_getElem?_getD,h],<-dE h,cl]
 have h2:=congrArg val e;rw[UQ,val,ar,aF qo] at h2;exact h2
def Dg.drop{l:nd}(h:Dg l)(n:Nat):Dg (l.drop n):=λj hj=>by
 have:=h (n+j) (by simp at hj;omega);simpa [List.getD_eq_getElem?_getD,List.getElem?_drop] using this
def GZ{a b:nd}{k:Nat}(hl:a.length=b.length)(h:∀j,k<=j->j<a.length->a.getD j 0=b.getD j 0):a.drop k=b.drop k:=by
 apply cE
 .simp[hl]
 .intro i h1 h2;have:=h (k+i) qo (by simp at h1;omega);simp at h1 h2;simpa [List.getD_eq_getElem?_getD,show k+i<a.length by omega,show k+i<b.length by omega] using this
def val_lt_at{a b:nd}{k:Nat}(ha:Dg a)(hb:Dg b)(hl:a.length=b.length)(hk:k<a.length)(h:∀j,k<j->j<a.length->a.getD j 0=b.getD j 0)(hlt:a.getD k 0<b.getD k 0):val a<val b:=by
 rw[U9 hk,U9 (show k<b.length by omega),GZ hl (λj h1 h2=>h j qo h2)];have h1:=Xn (ha.take k);have h2:=QJ (hb.take k);rw[ar,aF qo] at h1;have hp:=Xx k;generalize BB^k=p at *;generalize val (b.drop (k+1))=D
 have e:p*(b.getD k 0+BB*D)=p*(a.getD k 0+BB*D)+p*(b.getD k 0-a.getD k 0):=by
  rw[<-Int.mul_add];congr 1;omega
 have e2:p*1<=p*(b.getD k 0-a.getD k 0):=am qo qo;omega
def KA{a b:nd}(hl:a.length=b.length)(h:∀j,j<a.length->a.getD j 0=b.getD j 0):a=b:=by
 have:=GZ (k:=0) hl (λj _ h2=>h j h2);simpa using this
def QC{m n:Nat}(h:(Qx m).length<(Qx n).length):m<n:=by
 have h1:=@Yd m
 have h2:1000000000^((Qx n).length-1)<=n:=by
  have hk:(Qx n).length-1<(Qx n).length:=qo;have h3:=U9 hk;rw[Qw] at h3;have h4:=QJ ((Qe n).take ((Qx n).length-1));have h5:=QJ ((Qe n).drop ((Qx n).length-1+1));have h6:=(Qe n) _ hk;have h7:=ZV n qo;have hp:=Xx ((Qx n).length-1);have hc:((1000000000^((Qx n).length-1):Nat):Int)=BB^((Qx n).length-1):=by simp
  rw[<-hc] at h3 hp;generalize 1000000000^((Qx n).length-1)=p at *;generalize (Qx n).getD ((Qx n).length-1) 0=t at *
  have h8:1<=t+BB*val ((Qx n).drop ((Qx n).length-1+1)):=by
   have:0<=t:=h6.1;have:0<=BB*val ((Qx n).drop ((Qx n).length-1+1)):=bU qd h5;omega
  have h9:(p:Int)*1<=p*(t+BB*val ((Qx n).drop ((Qx n).length-1+1))):=am h8 qo;omega
 have h3:1000000000^(Qx m).length<=1000000000^((Qx n).length-1):=aA qd qo;omega
def Xa(m n:Nat):Int:=if m<n then -1 else if n<m then 1 else 0
def X9(m n:Int):Int:=if m<n then -1 else if n<m then 1 else 0
def XY{m n:Nat}(h:m<n):Xa m n= -1:=by rw[Xa,ah h]
def X4{m n:Nat}(h:n<m):Xa m n=1:=by rw[Xa,ae qo,ah h]
def Z5(m:Nat):Xa m m=0:=by rw[Xa,ae qo,ae qo]
def digs_inj{m n:Nat}(h:Qx m=Qx n):m=n:=by
 have:=Qw m;have h2:=Qw n;rw[h] at this;omega
def YG{m n k:Nat}(hl:(Qx m).length=(Qx n).length)(hk:k<(Qx m).length)(h:∀j,k<j->j<(Qx m).length->(Qx m).getD j 0=(Qx n).getD j 0)(hlt:(Qx m).getD k 0<(Qx n).getD k 0):m<n:=by
 have:=val_lt_at (Qe m) (Qe n) hl hk h hlt;rw[Qw,Qw] at this;omega
def Vy{m n:Nat}(hl:(Qx m).length=(Qx n).length)(h:∀j,j<(Qx m).length->(Qx m).getD j 0=(Qx n).getD j 0):m=n:=digs_inj (KA hl h)
def Ko(k:Nat):BB^(k+1)=BB^k*BB:=eD ..
def Dg.snoc{l:nd}{x:Int}(h:Dg l)(hx:Dgt x):Dg (l++[x]):=h.app (.cons hx .nil)
def Y9(l:nd)(x:Int):val (l++[x])=val l+BB^l.length*x:=by rw[UQ];simp[val]
def plus_step{a b o:nd}{k:Nat}{c v:Int}(hk:k<o.length)(hd:Dg (o.take k))(hv:val (o.take k)+BB^k*c=val (a.take k)+val (b.take k))(c':Int)(hx:Dgt v)(he:v+BB*c'=a.getD k 0+b.getD k 0+c) :
  Dg ((o.set k v).take (k+1))/\val ((o.set k v).take (k+1))+BB^(k+1)*c'=val (a.take (k+1))+val (b.take (k+1)):=by
 rw[X5 hk];refine⟨hd.snoc hx,?_⟩;rw[Y9,ar,aF qo,Jq,Jq,Ko];have e:=congrArg (BB^k*·) he;simp only[Int.mul_add] at e;rw[Int.mul_assoc];generalize BB^k*(BB*c')=q1 at *;generalize BB^k*v=q2 at *;generalize BB^k*a.getD k 0=q3 at *;generalize BB^k*b.getD k 0=q4 at *;generalize BB^k*c=q5 at *;omega
def plus_end{a b o:nd}{c:Int}(h:o.length=a.length+1)(hb:b.length<=a.length)(hd:Dg (o.take a.length))(hv:val (o.take a.length)+BB^a.length*c=val (a.take a.length)+val (b.take a.length))(hc:Dgt c) :
  Dg (o.set a.length c)/\val (o.set a.length c)=val a+val b:=by
 have hk:a.length<o.length:=qo
 have e:o.set a.length c=o.take a.length++[c]:=by
  rw[<-X5 hk,bo (by simp;omega)]
 rw[e];refine⟨hd.snoc hc,?_⟩;rw[Y9,ar,aF qo,hv,aQ,bo hb]
structure Mi(a b o:nd)(k:Nat)(c:Int):Prop where
 l:o.length=a.length
 d:Dg (o.take k)
 v:val (o.take k)=val (a.take k)-val (b.take k)+BB^k*c
 c0:c=0\/c=1
 at':k<a.length->o.getD k 0=a.getD k 0-c
 r:∀j,k<j->j<a.length->o.getD j 0=a.getD j 0
def Mi.z{a b:nd}:Mi a b a 0 0:=⟨rfl,by simp[Dg.nil],by simp[val],.inl rfl,λ_=>by omega,λj _ _=>rfl⟩
def Mi.end'{a b o:nd}{c:Int}(hb:b.length<=a.length)(h:Mi a b o a.length c)(hle:val b<=val a):c=0/\Dg o/\val o=val a-val b:=by
 have hv:=h.v;have hd:=h.d;rw[<-h.l,aQ] at hd;rw[<-h.l,aQ,h.l,aQ,bo hb] at hv;have h1:=Xn hd;rw[h.l] at h1;have hp:=Xx a.length;rcases h.c0 with hc|hc
 .subst hc;exact⟨rfl,hd,by rw[hv];simp⟩
 .subst hc;rw[eR] at hv;omega
def Mi.last{a b o:nd}{k:Nat}{c:Int}(ha:Dg a)(hbd:Dg b)(hb:b.length<=a.length)(h:Mi a b o k c)(hle:val b<=val a)(hk:k+1=a.length):0<=a.getD k 0-c-b.getD k 0:=by
 have hv:=h.v;have e1:=Jq a k;have e2:=Jq b k;rw[hk,aQ] at e1;rw[hk,bo hb] at e2;have h1:=Xn h.d;have h2:=QJ h.d;rw[ar,h.l,aF qo] at h1;have hp:=Xx k;refine Int.not_lt.1 λhlt=>?_;have e3:BB^k*(a.getD k 0-c-b.getD k 0)<=BB^k*(-1):=am qo qo;rw[bH,bH] at e3;omega
def Mi.step{a b o:nd}{k:Nat}{c:Int}(h:Mi a b o k c)(hk:k<a.length){v c':Int}(hx:Dgt v)(hc:c'=0\/c'=1)(he:v=a.getD k 0-c-b.getD k 0+BB*c'){o':nd}(hl:o'.length=a.length)(ht:o'.take (k+1)=o.take k++[v])(hat:k+1<a.length->o'.getD (k+1) 0=a.getD (k+1) 0-c')(hr:∀j,k+1<j->j<a.length->o'.getD j 0=a.getD j 0):Mi a b o' (k+1) c':=by
 refine⟨hl,by rw[ht];exact h.d.snoc hx,?_,hc,hat,hr⟩;rw[ht,Y9,ar,h.l,aF qo,h.v,Jq,Jq,Ko,he];simp only[Int.mul_add,bH,Int.mul_assoc];omega
structure Mu(a b o:nd)(i k:Nat)(c:Int):Prop where
 l:o.length=a.length+b.length
 d:Dg o
 cd:Dgt c
 v:val o+BB^(i+k)*c=val (a.take i)*val b+BB^i*(a.getD i 0*val (b.take k))
 r:∀j,i+b.length<=j->o.getD j 0=0
def Mu.z{a b:nd}:Mu a b (List.replicate (a.length+b.length) 0) 0 0 0:=⟨by simp,Dg.rep _,⟨by decide,by decide⟩,by rw[VR];simp[val],λj _=>by
 simp only[List.getD_eq_getElem?_getD,List.getElem?_replicate];split<;>rfl⟩
def mu_bd{x d e c:Int}(hx:Dgt x)(hd:Dgt d)(he:Dgt e)(hc:Dgt c):0<=x+d*e+c/\x+d*e+c<=999999999999999999/\0<=d*e/\d*e<=999999998000000001:=by
 have hx':0<=x/\x<1000000000:=hx;have hd':0<=d/\d<1000000000:=hd;have he':0<=e/\e<1000000000:=he;have hc':0<=c/\c<1000000000:=hc;have h1:0<=d*e:=bU hd'.1 he'.1;have h2:d*e<=999999999*999999999:=fd qo qo he'.1 qo;omega
def Mu.step{a b o:nd}{i k:Nat}{c:Int}(h:Mu a b o i k c)(hi:i<a.length)(hk:k<b.length){w q:Int}(hw:Dgt w)(hq:Dgt q)(he:w+BB*q=o.getD (i+k) 0+a.getD i 0*b.getD k 0+c):Mu a b (o.set (i+k) w) i (k+1) q:=by
 have hl:=h.l;refine⟨by simpa using hl,h.d.set hw,hq,?_,λj hj=>?_⟩
 .rw[X6 qo,Jq];have hv:=h.v;have e:=congrArg (BB^(i+k)*·) he;simp only[Int.mul_add] at e;rw[show i+(k+1)=(i+k)+1 by omega,Ko,bH,Int.mul_add,Int.mul_add]
  have e2:BB^i*(a.getD i 0*(BB^k*b.getD k 0))=BB^(i+k)*(a.getD i 0*b.getD k 0):=by
   rw[Int.pow_add];simp only[Int.mul_assoc,cR]
  rw[e2,Int.mul_assoc];omega
 .rw[Jc,ae (λhx=>by omega)];exact h.r j hj
def Mu.row{a b o:nd}{i:Nat}{c:Int}(h:Mu a b o i b.length c)(hi:i<a.length):Mu a b (o.set (i+b.length) c) (i+1) 0 0:=by
 have hl:=h.l;refine⟨by simpa using hl,h.d.set h.cd,⟨by decide,by decide⟩,?_,λj hj=>?_⟩
 .rw[X6 qo,h.r _ (ai _)];have hv:=h.v;rw[aQ] at hv;rw[Jq,cf,Int.mul_assoc];simp only[fa,val,eF,eC,eI];omega
 .rw[Jc,ae (λhx=>by omega)];exact h.r j qo
def Mu.fin{a b o:nd}(h:Mu a b o a.length 0 0):Dg o/\val o=val a*val b:=by
 have hv:=h.v;rw[aQ] at hv;simp only[fa,val,eF,eI] at hv;exact⟨h.d,hv⟩
section
open W Go.RowKit
attribute [local irreducible] WC WL WD YO LO Qq W.Fin Qk Qh Qj Row QZ Qv KnS Has W.One Qo QX
def plus0_c(u w:nA)(a b:nd)(u' w':nA)(a' b':nd)(ha:Dg a)(hb:Dg b)(hl:a.length<=1000000000)(hl2:b.length<=a.length)(hsw:(u=u'/\w=w'/\a=a'/\b=b'/\¬a'.length<b'.length)\/(w=u'/\u=w'/\b=a'/\a=b'/\a'.length<b'.length)) :
  FnB prog 212 [u',w'] [] [sI u' a',sI w' b'] (IsDg (val a+val b) (a.length+1)):=by
 refine fO [(0,u'),(1,w')] 56 Tryz.func212 Tryz.ntmps212 λh0=>?_;rcases hsw with ⟨rfl,rfl,rfl,rfl,hc⟩|⟨rfl,rfl,rfl,rfl,hc⟩
 all_goals
  repeat'(first|intro(g:Nat)|refine gA ?_|intro v)
  refine WC.lp (σ:=Nat×nd×Int) (λs=>[(23,nj (s.1:Int)),(22,nj (a.length:Int)),(21,u),(5,v),(6,nj s.2.2),(0,u),(1,w)]) (λs=>[Ow.slice v 3 1 (ints s.2.1)]) (λ_=>[ge h0,sI u a,sI w b])
   (λs=>s.1<=a.length/\s.2.1.length=a.length+1/\(s.2.2=0\/s.2.2=1)/\Dg (s.2.1.take s.1)/\val (s.2.1.take s.1)+BB^s.1*s.2.2=val (a.take s.1)+val (b.take s.1)) (λs=>a.length-s.1) (0,List.replicate (a.length+1) 0,0) ⟨by simp,by simp,.inl rfl,by simp[Dg.nil],by simp[val]⟩ ?_
  rintro⟨k,o,c⟩ ⟨hk,ho,hc01,hd,hv⟩;simp only at hk ho hc01 hd hv ⊢;by_cases hlt:k<a.length
  .have h1:0<=a.getD k 0/\a.getD k 0<1000000000:=ha.any k;have h2:0<=b.getD k 0/\b.getD k 0<1000000000:=hb.any k;have hst:=λx c' h3 h4=>plus_step (a:=a) (b:=b) (o:=o) (k:=k) (c:=c) (v:=x) qo hd hv c' h3 h4;by_cases hkb:k<b.length
   .by_cases hcy:1000000000<=a.getD k 0+c+b.getD k 0
    .refine gAr ?_;obtain⟨h5,h6⟩:=hst (a.getD k 0+c+b.getD k 0-1000000000) 1 ⟨by omega,by show _<(1000000000:Int);omega⟩ (by show _+(1000000000:Int)*1=_;omega);exact Qq.mk (k+1,o.set k (a.getD k 0+c+b.getD k 0-1000000000),1) ⟨by show k+1<=a.length;omega,by simpa using ho,.inr rfl,h5,h6⟩ wq40
    .refine gAr ?_;obtain⟨h5,h6⟩:=hst (a.getD k 0+c+b.getD k 0) 0 ⟨by omega,by show _<(1000000000:Int);omega⟩ (by show _+(1000000000:Int)*0=_;omega);exact Qq.mk (k+1,o.set k (a.getD k 0+c+b.getD k 0),0) ⟨by show k+1<=a.length;omega,by simpa using ho,.inl rfl,h5,h6⟩ wq40
   .have hb0:b.getD k 0=0:=Ym qo;by_cases hcy:1000000000<=a.getD k 0+c
    .refine gAr ?_;obtain⟨h5,h6⟩:=hst (a.getD k 0+c-1000000000) 1 ⟨by omega,by show _<(1000000000:Int);omega⟩ (by show _+(1000000000:Int)*1=_;omega);exact Qq.mk (k+1,o.set k (a.getD k 0+c-1000000000),1) ⟨by show k+1<=a.length;omega,by simpa using ho,.inr rfl,h5,h6⟩ wq40
    .refine gAr ?_;obtain⟨h5,h6⟩:=hst (a.getD k 0+c) 0 ⟨by omega,by show _<(1000000000:Int);omega⟩ (by show _+(1000000000:Int)*0=_;omega);exact Qq.mk (k+1,o.set k (a.getD k 0+c),0) ⟨by show k+1<=a.length;omega,by simpa using ho,.inl rfl,h5,h6⟩ wq40
  .obtain rfl:k=a.length:=qo;obtain⟨h5,h6⟩:=plus_end ho hl2 hd hv ⟨by omega,by show c<(1000000000:Int);omega⟩;refine gAr ?_;refine WC.Q6 (l:=o.set a.length c) (v:=v) (el:=3) wq3 ?_;refine WC.ret ?_;exact Fp [sI v (o.set a.length c)] (Qf.t1 rfl rfl) haA ⟨_,rfl,rfl,h5,h6,by simp;omega⟩
def Db(u w:nA)(a b:nd)(ha:Dg a)(hb:Dg b)(hl:a.length<=1000000000)(hl2:b.length<=1000000000):FnB prog 212 [u,w] [] [sI u a,sI w b] (IsDg (val a+val b) (max a.length b.length+1)):=by
 by_cases c:a.length<b.length
 .have:=plus0_c w u b a u w a b hb ha hl2 qo (.inr ⟨rfl,rfl,rfl,rfl,c⟩)
  rwa [Int.add_comm,show b.length+1=max a.length b.length+1 by omega] at this
 .have:=plus0_c u w a b u w a b ha hb hl qo (.inl ⟨rfl,rfl,rfl,rfl,c⟩)
  rwa [show a.length+1=max a.length b.length+1 by omega] at this
end
section
open W Go.RowKit
def Mi.step0{a b o:nd}{k:Nat}{c v:Int}(h:Mi a b o k c)(hk:k<a.length)(hx:Dgt v)(he:v=a.getD k 0-c-b.getD k 0):Mi a b (o.set k v) (k+1) 0:=by
 refine h.step hk hx (.inl rfl) (by rw[he];simp) (by simpa using h.l) (X5 (by rw[h.l];exact hk)) (λh1=>?_) (λj h1 h2=>?_)
 .rw[Jc,ae (λhx=>by omega),h.r _ qo h1];omega
 .rw[Jc,ae (λhx=>by omega),h.r _ qo h2]
def Mi.step1{a b o:nd}{k:Nat}{c v:Int}(h:Mi a b o k c)(hk:k+1<a.length)(hx:Dgt v)(he:v=a.getD k 0-c-b.getD k 0+1000000000):Mi a b ((o.set k v).set (k+1) ((o.set k v).getD (k+1) 0-1)) (k+1) 1:=by
 have e1:(o.set k v).getD (k+1) 0=a.getD (k+1) 0:=by rw[Jc,ae (λhx=>by omega),h.r _ qo hk]
 refine h.step qo hx (.inr rfl) (by rw[he];rfl) (by simpa using h.l) ?_ (λh1=>?_) (λj h1 h2=>?_)
 .rw[List.take_set_of_le (ai _),X5 (by rw[h.l];omega)]
 .rw[Jc,ah ⟨rfl,by simp[h.l];omega⟩,e1]
 .rw[Jc,ae (λhx=>by omega),Jc,ae (λhx=>by omega),h.r _ qo h2]
namespace Mns
attribute [local irreducible] WC WL WD YO LO Qq W.Fin Qk Qh Qj Row QZ Qv KnS Has W.One Qo QX
def d214{G G':Prop}(h:G')(s:Bx G'->G:=by
 intro h;first|refine gB ?_|(apply WC.draw (id:=7) [0,1,2,3,4,5,6,7,8,9] (.h 0<|.h 1<|.h 2<|.h 3<|.h 4<|.h 5<|.h 6<|.h 7<|.h 8<|.h 9<|.l 10 .done) mixed kr)|fail
 exact Bx.h h):G:=s ⟨h⟩
def d214r{G G':Prop}(h:G')(s:Bx G'->G:=by
 intro h;repeat'(first|intro(zQ:Nat)|refine d214 ?_|intro zQ)
 repeat revert zQ
 exact Bx.h h):G:=s ⟨h⟩

def goB{G G':Prop}(h:G')(s:Bx G'->G:=by
 intro h
 first
  |(apply WL.l;exact rfl;exact rfl;apply LO.copyI;exact wq50;exact rfl;exact rfl;exact seA;exact hmA;(simp only[bC]);omega)
 exact Bx.h h):G:=s ⟨h⟩
def Kz(u w:nA)(a b:nd)(ha:Dg a)(hb:Dg b)(hl:a.length<=1000000000)(hl2:b.length<=a.length)(h0a:0<a.length)(hle:val b<=val a) :
  FnB prog 214 [u,w] [] [sI u a,sI w b] (IsDg (val a-val b) a.length):=by
 refine fO [(0,u),(1,w)] 52 Tryz.func214 Tryz.ntmps214 λh0=>?_;refine d214r ?_;intro v
 refine WC.lp (σ:=Nat×nd×Int) (λs=>[(15,nj (s.1:Int)),(14,nj (a.length:Int)),(5,v),(0,u),(1,w)]) (λs=>[Ow.slice v 3 1 (ints s.2.1)]) (λ_=>[ge h0,sI u a,sI w b])
  (λs=>s.1<=a.length/\Mi a b s.2.1 s.1 s.2.2) (λs=>a.length-s.1) (0,a,0) ⟨by simp,Mi.z⟩ ?_
 rintro⟨k,o,c⟩ ⟨hk,hm⟩;simp only at hk hm ⊢;have hol:=hm.l;by_cases hlt:k<a.length
 .have h1:0<=a.getD k 0/\a.getD k 0<1000000000:=ha.any k;have h2:0<=b.getD k 0/\b.getD k 0<1000000000:=hb.any k;have hc:=hm.c0;have hok:o.getD k 0=a.getD k 0-c:=hm.at' hlt;have hlast:=hm.last ha hb hl2 hle;by_cases hkb:k<b.length
  .have e1:(o.set k (o.getD k 0-b.getD k 0)).getD k 0=o.getD k 0-b.getD k 0:=by rw[Jc,ah ⟨rfl,by omega⟩]
   by_cases hneg:o.getD k 0-b.getD k 0<0
   .have hk2:k+1<a.length:=by
     refine Nat.lt_of_not_le λhx=>?_;have:=hlast qo;omega
    have hs:=hm.step1 hk2 (v:=o.getD k 0-b.getD k 0+1000000000) ⟨by omega,by show _<(1000000000:Int);omega⟩ qo;have hx:=ha.any (k+1);have hx':0<=a.getD (k+1) 0/\a.getD (k+1) 0<1000000000:=hx;have e3:(o.set k (o.getD k 0-b.getD k 0+1000000000)).getD (k+1) 0=a.getD (k+1) 0:=by rw[Jc,ae (λhx=>by omega),hm.r _ qo hk2]
    have e4:((k:Int)+1).toNat=k+1:=qo;have hng2:(o.set k (o.getD k 0-b.getD k 0)).getD k 0<0:=by rw[e1];exact hneg
    refine d214r ?_;simp only[e1,List.set_set];refine d214r ?_;exact Qq.mk (k+1,_,1) ⟨by show k+1<=a.length;omega,hs⟩ wq40
   .have hs:=hm.step0 hlt (v:=o.getD k 0-b.getD k 0) ⟨by omega,by show _<(1000000000:Int);omega⟩ qo;have hng2:¬(o.set k (o.getD k 0-b.getD k 0)).getD k 0<0:=by rw[e1];exact hneg
    refine d214r ?_;exact Qq.mk (k+1,_,0) ⟨by show k+1<=a.length;omega,hs⟩ wq40
  .have hb0:b.getD k 0=0:=Ym qo;by_cases hneg:o.getD k 0<0
   .have hk2:k+1<a.length:=by
     refine Nat.lt_of_not_le λhx=>?_;have:=hlast qo;omega
    have hs:=hm.step1 hk2 (v:=o.getD k 0+1000000000) ⟨by omega,by show _<(1000000000:Int);omega⟩ qo;have hx':0<=a.getD (k+1) 0/\a.getD (k+1) 0<1000000000:=ha.any (k+1);have e3:(o.set k (o.getD k 0+1000000000)).getD (k+1) 0=a.getD (k+1) 0:=by rw[Jc,ae (λhx=>by omega),hm.r _ qo hk2]
    rw[e3] at hs;refine d214r ?_;rw[e3];refine d214r ?_;exact Qq.mk (k+1,_,1) ⟨by show k+1<=a.length;omega,hs⟩ wq40
   .have hs:=hm.step0 hlt (v:=o.getD k 0) ⟨by omega,by show _<(1000000000:Int);omega⟩ qo
    have e5:o.set k (o.getD k 0)=o:=by
     apply eB;intro j;rw[List.getElem?_set];split
     .rename_i hj;subst hj;rw[ah qo];simp[List.getD_eq_getElem?_getD,show k<o.length by omega]
     .rfl
    rw[e5] at hs;refine d214r ?_;exact Qq.mk (k+1,o,0) ⟨by show k+1<=a.length;omega,hs⟩ wq40
 .obtain rfl:k=a.length:=qo;obtain⟨h4,h5,h6⟩:=hm.end' hl2 hle;refine d214r ?_;refine WC.Q6 (l:=o) (v:=v) (el:=3) wq3 ?_;refine WC.ret ?_;exact Fp [sI v o] (Qf.t1 rfl rfl) haA ⟨_,rfl,rfl,h5,h6,by omega⟩
end Mns
end
section
open W Go.RowKit
def UN{n:Nat}(h:(Qx n).length=1):n≠0/\n<1000000000:=by
 have h1:=@Yd n;rw[h] at h1;exact⟨λh2=>by have:=QN.2 h2;omega,by simpa using h1⟩
def sign_mul{x y:Int}{a b:Bool}(ha:a=decide (x<0))(hb:b=decide (y<0))(h:x*y≠0):(!(a == b))=decide (x*y<0):=by
 have hx:x≠0:=λhx=>h (by rw[hx];simp);have hy:y≠0:=λhy=>h (by rw[hy];simp);subst ha hb;rcases Int.lt_or_lt_of_ne hx with h1|h1<;>rcases Int.lt_or_lt_of_ne hy with h2|h2
 .have:=Int.mul_pos_of_neg_of_neg h1 h2;rw[aq h1,aq h2,ak qo];rfl
 .have:=Int.mul_neg_of_neg_of_pos h1 h2;rw[aq h1,ak qo,aq this];rfl
 .have:=Int.mul_neg_of_pos_of_neg h1 h2;rw[ak qo,aq h2,aq this];rfl
 .have:=eQ h1 h2;rw[ak qo,ak qo,ak qo];rfl
def Uu(x y:Int):(x*y).natAbs=(val (Qx x.natAbs)*val (Qx y.natAbs)).toNat:=by
 rw[Qw,Qw,bp];have:((x.natAbs:Int)*(y.natAbs:Int))=((x.natAbs*y.natAbs:Nat):Int):=by simp
 rw[this,be]
def H9{x y:Int}(h:val (Qx x.natAbs)*val (Qx y.natAbs)≠0):x*y≠0:=λhxy=>by
 rw[Qw,Qw] at h;rcases Int.mul_eq_zero.1 hxy with rfl|rfl<;>simp at h
attribute [local irreducible] WC WL WD YO LO Qq W.Fin Qk Qh Qj Row QZ Qv KnS Has W.One Qo QX
def d168{G G':Prop}(h:G')(s:Bx G'->G:=by
 intro h;first|refine gB ?_|(apply WC.draw (id:=1) [0,1,2,3,4,5] (.h 0<|.h 1<|.h 2<|.h 3<|.h 4<|.h 5 .done) mixed kr)|(apply WC.draw (id:=3) [0,1,2,3,4,5,6,7,8,9,10,11,12,13] (.h 0<|.h 1<|.h 2<|.h 3<|.h 4<|.h 5<|.h 6<|.h 7<|.h 8<|.h 9<|.h 10<|.h 11<|.h 12<|.h 13<|.l 14<|.l 15 .done) mixed kr)|fail
 exact Bx.h h):G:=s ⟨h⟩
def d168r{G G':Prop}(h:G')(s:Bx G'->G:=by
 intro h;repeat'(first|intro(zQ:Nat)|refine d168 ?_|intro zQ)
 repeat revert zQ
 exact Bx.h h):G:=s ⟨h⟩

def YO.bneq{e:Env}{bx:nw}{F:nc}{ty t':nl}{x y:ni}{a b:Bool}(hx:ev e x=some (.bool a))(hy:ev e y=some (.bool b)):YO prog (.binOp .neq 4 x y t') ty e bx F (.bool (!(a == b))):=YO.bne Yw hx hy
namespace Mlt
def goB{G G':Prop}(h:G')(s:Bx G'->G:=by
 intro h
 first
  |(apply WD.ZF;exact rfl;(apply YO.bneq;exact rfl;exact rfl);exact rfl;exact rfl)
  |(apply WL.ZF;(apply YO.bneq;exact rfl;exact rfl);exact rfl;exact rfl)
  |(apply WL.YE;exact wq35;exact rfl;exact rfl)
 exact Bx.h h):G:=s ⟨h⟩
def ZA(v1 v2:nA)(x y:Int)(h1:(Qx x.natAbs).length<=1000000000)(h2:(Qx y.natAbs).length<=1000000000):FnB prog 168 [v1,v2] [] [isZ v1 x,isZ v2 y] (IsZ (x*y)):=by
 refine fO [(0,v1),(1,v2)] 100 Tryz.func168 Tryz.ntmps168 λh0=>?_;refine WC.Jw (v:=v1) (z:=x) hmA λn1 d1 hv hb1=>?_;subst hv;refine WC.Jw (v:=v2) (z:=y) hmA λn2 d2 hv hb2=>?_;subst hv;obtain⟨a,ha⟩:∃a,Qx x.natAbs=a:=⟨_,rfl⟩
 obtain⟨b,hb⟩:∃b,Qx y.natAbs=b:=⟨_,rfl⟩
 have hda:Dg a:=ha ▸ Qe _;have hdb:Dg b:=hb ▸ Qe _;have hab:=Uu x y;have hne:=@H9 x y;have hl1:=@UN x.natAbs;have hl2:=@UN y.natAbs;have hg1:=λh=>@J1 x.natAbs h;have hg2:=λh=>@J1 y.natAbs h;refine WC.fact (sI d1 (Qx x.natAbs)) (QH hmA) ?_;refine WC.fact (sI d2 (Qx y.natAbs)) (QH hmA) ?_;rw[ha] at h1 hab hne hl1 hg1 ⊢;rw[hb] at h2 hab hne hl2 hg2 ⊢;by_cases c1:a.length=1/\b.length=1
 .obtain⟨c1,c2⟩:=c1;have hx:=hl1 c1;have hy:=hl2 c2;have hg1:=hg1 hx.1 hx.2;have hg2:=hg2 hy.1 hy.2;have ea:a.getD 0 0=(x.natAbs:Int):=by rw[hg1];rfl
  have eb:b.getD 0 0=(y.natAbs:Int):=by rw[hg2];rfl
  have hp:x.natAbs*y.natAbs<=999999999*999999999:=aO qo qo;have hp2:((x.natAbs:Int)*(y.natAbs:Int))=((x.natAbs*y.natAbs:Nat):Int):=by simp
  have q1:0<=(x.natAbs:Int)*(y.natAbs:Int):=qo;have q2:(x.natAbs:Int)*(y.natAbs:Int)<=18446744073709551615:=qo;have ea':a.getD (0:Int).toNat 0=(x.natAbs:Int):=ea;have eb':b.getD (0:Int).toNat 0=(y.natAbs:Int):=eb;have h3:0<=a.getD (0:Int).toNat 0:=qo;have h4:0<=b.getD (0:Int).toNat 0:=qo;have h5:0<=a.getD (0:Int).toNat 0*b.getD (0:Int).toNat 0:=by rw[ea',eb'];exact q1
  have h6:a.getD (0:Int).toNat 0*b.getD (0:Int).toNat 0<=18446744073709551615:=by rw[ea',eb'];exact q2
  refine d168r ?_;intro g g g;rw[show a.getD (0:Int).toNat 0*b.getD (0:Int).toNat 0=((x.natAbs*y.natAbs:Nat):Int) by rw[ea',eb',hp2]];refine cK (XJ (!(n1 == n2)) (x.natAbs*y.natAbs) (x*y) qo (bp x y) (λhxy=>sign_mul hb1 hb2 (by rw[Ne,<-Int.natAbs_eq_zero,bp];exact hxy))) ?_;rintro _ _ _ ⟨nb,d,rfl,hb,rfl,rfl⟩;refine sNn ?_;refine d168r ?_;exact wq63
 .have hmk:(List.replicate (a.length+b.length) (0:Int)).length=a.length+b.length:=by simp
  have key:¬(a.length=1/\b.length=1):=c1;have hsplit:(¬a.length=1)\/(a.length=1/\¬b.length=1):=qo;rcases hsplit with c2|⟨c2,c3⟩
  all_goals
   repeat'(first|intro(g:Nat)|refine d168 ?_|intro v)
   rename_i g2 g3
   revert g;intro g4
   refine WC.lp (σ:=Nat×nd) (λs=>[(49,.int .i64 (s.1:Int)),(48,.int .i64 (a.length:Int)),(47,d1),(5,d1),(6,d2),(7,v),(2,ptr g2),(3,ptr g3),(4,ptr g4)]) (λs=>[Ow.slice v 3 1 (ints s.2),Ow.cells g4 73 [.bool false,.slice none 0 0],Ow.cells g3 73 [.bool n2,d2],Ow.cells g2 73 [.bool n1,d1]]) (λ_=>[ge h0,sI d1 a,sI d2 b])
    (λs=>s.1<=a.length/\Mu a b s.2 s.1 0 0) (λs=>a.length-s.1) (0,List.replicate (a.length+b.length) 0) ⟨by simp,Mu.z⟩ ?_
   rintro⟨i,o⟩ ⟨hi,hm⟩;simp only at hi hm ⊢;have hol:=hm.l;by_cases hlt:i<a.length
   .refine d168r ?_
    refine WC.lp (σ:=Nat×nd×Int) (λs=>[(56,.int .i64 (s.1:Int)),(55,.int .i64 (b.length:Int)),(54,d2),(10,.int .i64 s.2.2),(8,.int .i64 (i:Int)),(9,.int .i64 (a.getD i 0)),(49,.int .i64 (i:Int)),(48,.int .i64 (a.length:Int)),(47,d1),(5,d1),(6,d2),(7,v),(2,ptr g2),(3,ptr g3),(4,ptr g4)]) (λs=>[Ow.slice v 3 1 (ints s.2.1),Ow.cells g4 73 [.bool false,.slice none 0 0],Ow.cells g3 73 [.bool n2,d2],Ow.cells g2 73 [.bool n1,d1]]) (λ_=>[ge h0,sI d1 a,sI d2 b])
     (λs=>s.1<=b.length/\Mu a b s.2.1 i s.1 s.2.2) (λs=>b.length-s.1) (0,o,0) ⟨by simp,hm⟩ ?_
    rintro⟨k,o2,c⟩ ⟨hk,hm2⟩;simp only at hk hm2 ⊢;have hol2:=hm2.l;by_cases hkl:k<b.length
    .have hbd:=mu_bd (hm2.d.any (i+k)) (hda.any i) (hdb.any k) hm2.cd;have eik:((i:Int)+(k:Int)).toNat=i+k:=qo;have hst:=λw q hw hq he=>hm2.step hlt hkl (w:=w) (q:=q) hw hq he;have eo:o2.getD ((i:Int)+(k:Int)).toNat 0=o2.getD (i+k) 0:=by rw[eik]
     have hP1:0<=a.getD i 0*b.getD k 0:=qo;have hP2:a.getD i 0*b.getD k 0<=9223372036854775807:=qo;have hx:0<=o2.getD (i+k) 0/\o2.getD (i+k) 0<1000000000:=hm2.d.any (i+k);have hcd:0<=c/\c<1000000000:=hm2.cd;have hst:=hst (o2.getD (i+k) 0+a.getD i 0*b.getD k 0+c-(o2.getD (i+k) 0+a.getD i 0*b.getD k 0+c)/1000000000*1000000000) ((o2.getD (i+k) 0+a.getD i 0*b.getD k 0+c)/1000000000) ⟨by omega,by show _<(1000000000:Int);omega⟩ ⟨by omega,by show _<(1000000000:Int);omega⟩ (by show _+(1000000000:Int)*_=_;omega);refine d168r ?_;exact Qq.mk (k+1,_,_) ⟨by show k+1<=b.length;omega,hst⟩ (by show b.length-(k+1)<b.length-k;omega)
    .obtain rfl:k=b.length:=qo;have eik:((i:Int)+(b.length:Int)).toNat=i+b.length:=qo;refine d168r ?_;exact Qq.mk (i+1,_) ⟨by show i+1<=a.length;omega,hm2.row hlt⟩ (by show a.length-(i+1)<a.length-i;omega)
   .obtain rfl:i=a.length:=qo;obtain⟨h3,h4⟩:=hm.fin;refine d168r ?_;refine WL.Q6 (l:=o) (v:=v) (el:=3) wq3 ?_;refine cK (Zy v (!(n1 == n2)) o (x*y) h3 (by rw[hab,h4]) (λhxy=>sign_mul hb1 hb2 (hne (by rw[<-h4];exact hxy)))) ?_;rintro _ _ _ ⟨nb,d,rfl,hb,rfl,rfl⟩;refine sNn ?_;refine d168r ?_;exact wq63
end Mlt
end
section
open W Go.RowKit
attribute [local irreducible] WC WL WD YO LO Qq W.Fin Qk Qh Qj Row QZ Qv KnS Has W.One Qo QX
def d213{G G':Prop}(h:G')(s:Bx G'->G:=by
 intro h;first|refine gB ?_|(apply WC.draw (id:=6) [0,1,2,3,4,5,6,7,8] (.h 0<|.h 1<|.h 2<|.h 3<|.h 4<|.h 5<|.h 6<|.h 7<|.h 8 .done) mixed kr)|(apply WC.draw (id:=7) [0,1,2,3,4,5,6,7,9] (.h 0<|.h 1<|.h 2<|.h 3<|.h 4<|.h 5<|.h 6<|.h 7<|.l 8<|.h 9 .done) mixed kr)|fail
 exact Bx.h h):G:=s ⟨h⟩
def d213r{G G':Prop}(h:G')(s:Bx G'->G:=by
 intro h;repeat'(first|intro(zQ:Nat)|refine d213 ?_|intro zQ)
 repeat revert zQ
 exact Bx.h h):G:=s ⟨h⟩

def isNaN_c(a:Int):FnB prog 229 [nj a] [] [] (IsV nq):=by
 refine fO [(0,(nj a))] 6 Tryz.func229 Tryz.ntmps229 λh0=>?_;refine gAr ?_;exact wq4
def cmpc_c(a b:Int):FnB prog 226 [nj a,nj b] [] [] (IsV (nj (X9 a b))):=by
 refine fO [(0,(nj a)),(1,(nj b))] 20 Tryz.func226 Tryz.ntmps226 λh0=>?_;refine gAr ?_;refine cV (isNaN_c a) ?_;refine gAr ?_;refine cV (isNaN_c b) ?_;by_cases h1:a<b
 .refine gAr ?_;refine WC.ret ?_;exact Fin.v (Qf.t1 rfl rfl) meA (by rw[X9,ah h1])
 .by_cases h2:b<a
  .refine gAr ?_;refine WC.ret ?_;exact Fin.v (Qf.t1 rfl rfl) meA (by rw[X9,ae h1,ah h2])
  .refine gAr ?_;refine WC.ret ?_;exact Fin.v (Qf.t1 rfl rfl) meA (by rw[X9,ae h1,ae h2])
def VX{m n:Int}(h:m<n):X9 m n= -1:=by rw[X9,ah h]
def VJ{m n:Int}(h:n<m):X9 m n=1:=by rw[X9,ae qo,ah h]
def Yn(u w:nA)(m n:Nat):FnB prog 213 [u,w] [] [sI u (Qx m),sI w (Qx n)] (IsV (.int .i64 (Xa m n))):=by
 refine fO [(0,u),(1,w)] 41 Tryz.func213 Tryz.ntmps213 λh0=>?_;obtain⟨a,ha⟩:∃a,Qx m=a:=⟨_,rfl⟩
 obtain⟨b,hb⟩:∃b,Qx n=b:=⟨_,rfl⟩
 have hcl:=λhl=>@QC m n hl;have hcg:=λhl=>@QC n m hl;have hlt:=λk hl=>@YG m n k hl;have hgt:=λk hl=>@YG n m k hl;have heq:=λhl=>@Vy m n hl;rw[ha,hb] at *;refine WC.ZE u a hmA λhlen=>?_;refine WC.ZE w b hmA λhlen2=>?_;by_cases c0:a.length=b.length
 .refine d213r ?_;refine WC.lp (σ:=Nat) (λk=>[(5,.int .i64 ((k:Int)-1)),(0,u),(1,w)]) (λ_=>[]) (λ_=>[ge h0,sI u a,sI w b]) (λk=>k<=a.length/\∀j,k<=j->j<a.length->a.getD j 0=b.getD j 0) (λk=>k) a.length ⟨ai _,λj _ _=>by omega⟩ ?_;rintro k ⟨hk,hs⟩;by_cases h:0<k
  .have e1:((k:Int)-1).toNat=k-1:=qo;by_cases c1:a.getD (k-1) 0=b.getD (k-1) 0
   .have c1':a.getD ((k:Int)-1).toNat 0=b.getD ((k:Int)-1).toNat 0:=by rw[e1];exact c1
    refine d213r ?_;exact Qq.mk (k-1) ⟨by omega,λj h4 h5=>if hj:j=k-1 then hj ▸ c1 else hs j qo h5⟩ qo wq134
   .have c1':a.getD ((k:Int)-1).toNat 0≠b.getD ((k:Int)-1).toNat 0:=by rw[e1];exact c1
    refine d213r ?_;refine cV (cmpc_c (a.getD ((k:Int)-1).toNat 0) (b.getD ((k:Int)-1).toNat 0)) ?_;rw[e1]
    have hv:X9 (a.getD (k-1) 0) (b.getD (k-1) 0)=Xa m n:=by
     by_cases c2:a.getD (k-1) 0<b.getD (k-1) 0
     .rw[VX c2,XY (hlt (k-1) c0 qo (λj h4 h5=>hs j qo h5) c2)]
     .rw[VJ qo,X4 (hgt (k-1) c0.symm qo (λj h4 h5=>(hs j qo qo).symm) qo)]
    rw[hv];refine d213r ?_;exact wq4
  .obtain rfl:k=0:=qo;have hmn:=heq c0 λj hj=>hs j qo hj;refine d213r ?_;exact wq126
 .refine d213r ?_;refine cV (cmpc_c (a.length:Int) (b.length:Int)) ?_
  have hv:X9 (a.length:Int) (b.length:Int)=Xa m n:=by
   by_cases c2:a.length<b.length
   .rw[VX qo,XY (hcl c2)]
   .rw[VJ qo,X4 (hcg qo)]
  rw[hv];refine d213r ?_;exact wq4
end
end Go.Proofs.YtbnobghgnbockaaGreat
