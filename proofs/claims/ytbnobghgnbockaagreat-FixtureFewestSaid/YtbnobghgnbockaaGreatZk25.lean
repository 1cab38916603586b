/- Lemmas. Conditions: none. -/
import Derived.Test.YtbnobghgnbockaaGreatProg
import Derived.Test.YtbnobghgnbockaaGreatZk24
set_option linter.all false
set_option maxHeartbeats 0
set_option maxRecDepth 100000
namespace Go.Proofs.YtbnobghgnbockaaGreat
open Tryz (prog)
namespace T
open W
def s31:Qh prog 31 88 20:=Qh.of kr
def DK:Qk prog 31:=Qk.of kr
def e31:Xl prog 31 88 20 (.agg #[nq,nz,nq,nz,nq,nz,nq,nz,nq,nz,nq,nz,nq,nz,nq,nz,nq,nz,nq,nz]) 320:=⟨by kernel_rfl,by kernel_rfl,by kernel_rfl,by decide⟩
def s32:Qh prog 32 93 30:=Qh.of kr
def DW:Qk prog 32:=Qk.of kr
def e32:Xl prog 32 93 30 (.agg #[nj 0,nj 0,nq,nz,nq,nz,nq,nz,nq,nz,nq,nz,nq,nz,nq,nz,nq,nz,nq,nz,nq,nz,nq,nz,nq,nz,nq,nz,nq,nz]) 464:=⟨by kernel_rfl,by kernel_rfl,by kernel_rfl,by decide⟩
def z32:(prog.info? 32).map (·.size)=some 1:=by kernel_rfl
def s37:Qh prog 37 125 1:=Qh.of kr
def DV:Qk prog 37:=Qk.of kr
def e37:Xl prog 37 125 1 nz 24:=⟨by kernel_rfl,by kernel_rfl,by kernel_rfl,by decide⟩
def f39_0:Qj prog 39 0 0:=Qj.of kr
def r39:Row prog 39 1:=Row.of kr
def al39:Qv prog 39 [nz]:=Qv.of (z:=.agg #[nz]) kr kr
def f63_0:Qj prog 63 0 0:=Qj.of kr
def f63_1:Qj prog 63 1 1:=Qj.of kr
def r63:Row prog 63 2:=Row.of kr
def al63:Qv prog 63 [nj 0,nz]:=Qv.of (z:=.agg #[nj 0,nz]) kr kr
def f77_0:Qj prog 77 0 0:=Qj.of kr
def f77_1:Qj prog 77 1 4:=Qj.of kr
def r77:Row prog 77 8:=Row.of kr
def al77:Qv prog 77 [nq,nz,nq,nz,nq,nz,nq,nz]:=Qv.of (z:=.agg #[nq,nz,nq,nz,nq,nz,nq,nz]) kr kr
def f88_0:Qj prog 88 0 0:=Qj.of kr
def f88_1:Qj prog 88 1 8:=Qj.of kr
def f88_2:Qj prog 88 2 12:=Qj.of kr
def f88_3:Qj prog 88 3 16:=Qj.of kr
def r88:Row prog 88 20:=Row.of kr
def al88:Qv prog 88 [nq,nz,nq,nz,nq,nz,nq,nz,nq,nz,nq,nz,nq,nz,nq,nz,nq,nz,nq,nz]:=Qv.of (z:=.agg #[nq,nz,nq,nz,nq,nz,nq,nz,nq,nz,nq,nz,nq,nz,nq,nz,nq,nz,nq,nz]) kr kr
def f93_0:Qj prog 93 0 0:=Qj.of kr
def f93_1:Qj prog 93 1 1:=Qj.of kr
def f93_2:Qj prog 93 2 2:=Qj.of kr
def f93_3:Qj prog 93 3 10:=Qj.of kr
def f93_4:Qj prog 93 4 18:=Qj.of kr
def f93_5:Qj prog 93 5 26:=Qj.of kr
def r93:Row prog 93 30:=Row.of kr
def al93:Qv prog 93 [nj 0,nj 0,nq,nz,nq,nz,nq,nz,nq,nz,nq,nz,nq,nz,nq,nz,nq,nz,nq,nz,nq,nz,nq,nz,nq,nz,nq,nz,nq,nz]:=Qv.of (z:=.agg #[nj 0,nj 0,nq,nz,nq,nz,nq,nz,nq,nz,nq,nz,nq,nz,nq,nz,nq,nz,nq,nz,nq,nz,nq,nz,nq,nz,nq,nz,nq,nz]) kr kr
def s125:Qh prog 125 127 8:=Qh.of kr
def Kt:Qk prog 125:=Qk.of kr
def e125:Xl prog 125 127 8 (.agg #[nq,nz,nq,nz,nq,nz,nq,nz]) 128:=⟨by kernel_rfl,by kernel_rfl,by kernel_rfl,by decide⟩
def f127_0:Qj prog 127 0 0:=Qj.of kr
def f127_1:Qj prog 127 1 4:=Qj.of kr
def r127:Row prog 127 8:=Row.of kr
def al127:Qv prog 127 [nq,nz,nq,nz,nq,nz,nq,nz]:=Qv.of (z:=.agg #[nq,nz,nq,nz,nq,nz,nq,nz]) kr kr
def s159:Qh prog 159 163 38:=Qh.of kr
def Un:Qk prog 159:=Qk.of kr
def al159:Qv prog 159 [nz]:=Qv.of (z:=nz) kr kr
def e159:Xl prog 159 163 38 (.agg #[nq,nz,nq,nz,nq,nz,nq,nz,nj 0,nj 0,nq,nz,nq,nz,nq,nz,nq,nz,nq,nz,nq,nz,nq,nz,nq,nz,nq,nz,nq,nz,nq,nz,nq,nz,nq,nz,nq,nz]) 592:=⟨by kernel_rfl,by kernel_rfl,by kernel_rfl,by decide⟩
def f163_0:Qj prog 163 0 0:=Qj.of kr
def f163_1:Qj prog 163 1 8:=Qj.of kr
def r163:Row prog 163 38:=Row.of kr
def al163:Qv prog 163 [nq,nz,nq,nz,nq,nz,nq,nz,nj 0,nj 0,nq,nz,nq,nz,nq,nz,nq,nz,nq,nz,nq,nz,nq,nz,nq,nz,nq,nz,nq,nz,nq,nz,nq,nz,nq,nz,nq,nz]:=Qv.of (z:=.agg #[nq,nz,nq,nz,nq,nz,nq,nz,nj 0,nj 0,nq,nz,nq,nz,nq,nz,nq,nz,nq,nz,nq,nz,nq,nz,nq,nz,nq,nz,nq,nz,nq,nz,nq,nz,nq,nz,nq,nz]) kr kr
def Ul:Qk prog 166:=Qk.of kr
end T
namespace Bl
open X
structure Vc where
 x:Rat
 y:Rat
structure Bd where
 c:Vc
 lo:Rat
 hi:Rat
 st:Rat
structure Tc where
 a:Int
 b:Int
 p:Vc
 q:Vc
 n:Vc
 r:Rat
structure Sc where
 n:Nat
 m:Nat
 B:Nat->Bd
 T:Nat->Tc
def JZ(a b:Vc):Rat:=a.x*b.y-a.y*b.x
def Jl(a b:Vc):Vc:=⟨a.x-b.x,a.y-b.y⟩
def Sc.at(S:Sc)(k:Nat):Vc:=if k%2=0 then(S.T (k/2)).p else(S.T (k/2)).q
def on(t:Tc)(i:Nat)(f:Vc):Vc:=if t.a=(i:Int) then f else if t.b=(i:Int) then⟨-f.x,-f.y⟩ else⟨0,0⟩
def turn(n:Vc):Vc:=⟨-n.y,n.x⟩
def frc(t:Tc)(u v:Rat):Vc:=⟨u*t.n.x-v*t.n.y,u*t.n.y+v*t.n.x⟩
def ab(a:Rat):Rat:=if a<0 then -a else a
def spn(n:Vc):Rat:=ab n.x+ab n.y
def tch(t:Tc)(i:Nat):Prop:=t.a=(i:Int)\/t.b=(i:Int)
instance (t:Tc)(i:Nat):Decidable (tch t i):=by unfold tch;exact inferInstance
def Bal(S:Sc)(w:nf)(u v:nf):Prop:=
 (∀k,k<2*S.m->0<=u k/\v k<=(S.T (k/2)).r*u k/\-v k<=(S.T (k/2)).r*u k)/\
 ∀i,i<S.n->sm (2*S.m) (λk=>(on (S.T (k/2)) i (frc (S.T (k/2)) (u k) (v k))).x)=0/\sm (2*S.m) (λk=>(on (S.T (k/2)) i (frc (S.T (k/2)) (u k) (v k))).y)=w i/\
  sm (2*S.m) (λk=>JZ (Jl (S.at k) (S.B i).c) (on (S.T (k/2)) i (frc (S.T (k/2)) (u k) (v k))))=0/\
  sm (2*S.m) (λk=>if tch (S.T (k/2)) i then spn (S.T (k/2)).n*u k else 0)<=(S.B i).st
def dir(t:Tc)(j:Nat):Vc:=if j%2=0 then t.n else turn t.n
def co3(S:Sc)(i s j:Nat):Rat:=
 if s=0 then(on (S.T (j/4)) i (dir (S.T (j/4)) j)).x else if s=1 then(on (S.T (j/4)) i (dir (S.T (j/4)) j)).y
 else JZ (Jl (S.at (j/2)) (S.B i).c) (on (S.T (j/4)) i (dir (S.T (j/4)) j))
def sgq(s:Nat):Rat:=if s%2=0 then 1 else -1
def coE(r:Rat)(k s j:Nat):Rat:=if j=2*k then(if s=0 then -1 else -r) else if j=2*k+1 then(if s=0 then 0 else if s=1 then 1 else -1) else 0
def coS(S:Sc)(i j:Nat):Rat:=if j%2=0/\tch (S.T (j/4)) i then spn (S.T (j/4)).n else 0
def lp(S:Sc)(w:nf):Lp where
 v:=4*S.m
 m:=6*S.n+6*S.m+S.n
 a r j:=if r<6*S.n then co3 S (r/6) (r%6/2) j*sgq (r%6) else if r<6*S.n+6*S.m then coE (S.T ((r-6*S.n)/6)).r ((r-6*S.n)/3) ((r-6*S.n)%3) j else coS S (r-6*S.n-6*S.m) j
 b r:=if r<6*S.n then(if r%6/2=1 then w (r/6)*sgq (r%6) else 0) else if r<6*S.n+6*S.m then 0 else(S.B (r-6*S.n-6*S.m)).st
 g _:=0
def VL(f:nf):∀n,sm (2*n) f=sm n λk=>f (2*k)+f (2*k+1)
 |0=>rfl
 |n+1=>by
  show sm (2*n+1+1) f=sm n _+_;rw[<-VL f n];show sm (2*n) f+f (2*n)+f (2*n+1)=_;grind
def on_lin(t:Tc)(i:Nat)(u v:Rat):(on t i (frc t u v)).x=(on t i t.n).x*u+(on t i (turn t.n)).x*v/\(on t i (frc t u v)).y=(on t i t.n).y*u+(on t i (turn t.n)).y*v:=by
 unfold on frc turn;split
 .constructor<;>grind
 .split<;>constructor<;>grind
section
variable {S:Sc}{w u v:nf}{x:nf}
def co3_pair(i s k:Nat):co3 S i s (2*k)*x (2*k)+co3 S i s (2*k+1)*x (2*k+1) =
  if s=0 then(on (S.T (k/2)) i (frc (S.T (k/2)) (x (2*k)) (x (2*k+1)))).x else if s=1 then(on (S.T (k/2)) i (frc (S.T (k/2)) (x (2*k)) (x (2*k+1)))).y
  else JZ (Jl (S.at k) (S.B i).c) (on (S.T (k/2)) i (frc (S.T (k/2)) (x (2*k)) (x (2*k+1)))):=by
 have h:=on_lin (S.T (k/2)) i (x (2*k)) (x (2*k+1));unfold co3 dir JZ;rw[show 2*k/4=k/2 by omega,show(2*k+1)/4=k/2 by omega,show 2*k/2=k by omega,show(2*k+1)/2=k by omega,ah (show 2*k%2=0 by omega),ae (show ¬(2*k+1)%2=0 by omega)];split
 .rw[h.1]
 .split
  .rw[h.2]
  .rw[h.1,h.2];grind
def sum3(i s:Nat)(g:Rat):sm (4*S.m) (λj=>co3 S i s j*g*x j)=g*sm (2*S.m) λk=>if s=0 then(on (S.T (k/2)) i (frc (S.T (k/2)) (x (2*k)) (x (2*k+1)))).x else if s=1 then(on (S.T (k/2)) i (frc (S.T (k/2)) (x (2*k)) (x (2*k+1)))).y
  else JZ (Jl (S.at k) (S.B i).c) (on (S.T (k/2)) i (frc (S.T (k/2)) (x (2*k)) (x (2*k+1)))):=by
 rw[show 4*S.m=2*(2*S.m) by omega,VL,<-J7];refine Qb λk _=>?_;rw[<-co3_pair];grind
def sumE{k s:Nat}{r:Rat}(hk:k<2*S.m):sm (4*S.m) (λj=>coE r k s j*x j)=if s=0 then -x (2*k) else if s=1 then x (2*k+1)-r*x (2*k) else -x (2*k+1)-r*x (2*k):=by
 rw[show 4*S.m=2*(2*S.m) by omega,VL,J8 hk]
 .unfold coE;rw[ah rfl,ae (show ¬2*k+1=2*k by omega),ah rfl];split
  .grind
  .split<;>grind
 .intro i _ hi;unfold coE;rw[ae qo,ae qo,ae qo,ae qo];grind
def sumS(i:Nat):sm (4*S.m) (λj=>coS S i j*x j)=sm (2*S.m) λk=>if tch (S.T (k/2)) i then spn (S.T (k/2)).n*x (2*k) else 0:=by
 rw[show 4*S.m=2*(2*S.m) by omega,VL];refine Qb λk _=>?_;unfold coS;rw[show 2*k/4=k/2 by omega];rw[ae (show ¬((2*k+1)%2=0/\tch (S.T ((2*k+1)/4)) i) from λh=>absurd h.1 qo)];by_cases c:tch (S.T (k/2)) i
 .rw[ah ⟨by omega,c⟩,ah c];grind
 .rw[ae (λh=>c h.2),ae c];grind
def YS:UF (lp S w) x↔Bal S w (λk=>x (2*k)) (λk=>x (2*k+1)):=by
 have r3:∀i s,i<S.n->s<6->(sm (lp S w).v (λj=>(lp S w).a (6*i+s) j*x j)=sgq s*sm (2*S.m) λk=>if s/2=0 then(on (S.T (k/2)) i (frc (S.T (k/2)) (x (2*k)) (x (2*k+1)))).x else if s/2=1 then(on (S.T (k/2)) i (frc (S.T (k/2)) (x (2*k)) (x (2*k+1)))).y
  else JZ (Jl (S.at k) (S.B i).c) (on (S.T (k/2)) i (frc (S.T (k/2)) (x (2*k)) (x (2*k+1)))))/\(lp S w).b (6*i+s)=if s/2=1 then w i*sgq s else 0:=λi s hi hs=>by
  have h1:6*i+s<6*S.n:=qo;have h2:(6*i+s)/6=i:=qo;have h3:(6*i+s)%6=s:=qo;constructor
  .rw[<-sum3];refine Qb λj _=>?_;show(if 6*i+s<6*S.n then _ else _)*_=_;rw[ah h1,h2,h3]
  .show(if 6*i+s<6*S.n then _ else _)=_;rw[ah h1,h2,h3]
 have rE:∀k s,k<2*S.m->s<3->(sm (lp S w).v (λj=>(lp S w).a (6*S.n+(3*k+s)) j*x j)=if s=0 then -x (2*k) else if s=1 then x (2*k+1)-(S.T (k/2)).r*x (2*k) else -x (2*k+1)-(S.T (k/2)).r*x (2*k))/\(lp S w).b (6*S.n+(3*k+s))=0:=λk s hk hs=>by
  have h1:¬6*S.n+(3*k+s)<6*S.n:=qo;have h2:6*S.n+(3*k+s)<6*S.n+6*S.m:=qo;constructor
  .rw[<-sumE hk];refine Qb λj _=>?_;show(if 6*S.n+(3*k+s)<6*S.n then _ else if 6*S.n+(3*k+s)<6*S.n+6*S.m then _ else _)*_=_;rw[ae h1,ah h2,show 6*S.n+(3*k+s)-6*S.n=3*k+s by omega,show(3*k+s)/6=k/2 by omega,show(3*k+s)/3=k by omega,show(3*k+s)%3=s by omega]
  .show(if 6*S.n+(3*k+s)<6*S.n then _ else if 6*S.n+(3*k+s)<6*S.n+6*S.m then _ else _)=_;rw[ae h1,ah h2]
 have rS:∀i,i<S.n->(sm (lp S w).v (λj=>(lp S w).a (6*S.n+6*S.m+i) j*x j)=sm (2*S.m) λk=>if tch (S.T (k/2)) i then spn (S.T (k/2)).n*x (2*k) else 0)/\(lp S w).b (6*S.n+6*S.m+i)=(S.B i).st:=λi hi=>by
  have h1:¬6*S.n+6*S.m+i<6*S.n:=qo;have h2:¬6*S.n+6*S.m+i<6*S.n+6*S.m:=qo;constructor
  .rw[<-sumS];refine Qb λj _=>?_;show(if 6*S.n+6*S.m+i<6*S.n then _ else if 6*S.n+6*S.m+i<6*S.n+6*S.m then _ else _)*_=_;rw[ae h1,ae h2,show 6*S.n+6*S.m+i-6*S.n-6*S.m=i by omega]
  .show(if 6*S.n+6*S.m+i<6*S.n then _ else if 6*S.n+6*S.m+i<6*S.n+6*S.m then _ else _)=_;rw[ae h1,ae h2,show 6*S.n+6*S.m+i-6*S.n-6*S.m=i by omega]
 have hm:(lp S w).m=6*S.n+6*S.m+S.n:=rfl;constructor
 .intro h;refine⟨λk hk=>?_,λi hi=>?_⟩
  .have l:=λs (hs:s<3)=>h (6*S.n+(3*k+s)) (by rw[hm];omega);have l0:=l 0 qd;rw[(rE k 0 hk qd).1,(rE k 0 hk qd).2] at l0;have l1:=l 1 qd;rw[(rE k 1 hk qd).1,(rE k 1 hk qd).2] at l1;have l2:=l 2 qd;rw[(rE k 2 hk qd).1,(rE k 2 hk qd).2] at l2;simp at l0 l1 l2;refine⟨?_,?_,?_⟩<;>grind
  .have l:=λs (hs:s<6)=>h (6*i+s) (by rw[hm];omega);have l0:=l 0 qd;rw[(r3 i 0 hi qd).1,(r3 i 0 hi qd).2] at l0;have l1:=l 1 qd;rw[(r3 i 1 hi qd).1,(r3 i 1 hi qd).2] at l1;have l2:=l 2 qd;rw[(r3 i 2 hi qd).1,(r3 i 2 hi qd).2] at l2;have l3:=l 3 qd;rw[(r3 i 3 hi qd).1,(r3 i 3 hi qd).2] at l3;have l4:=l 4 qd;rw[(r3 i 4 hi qd).1,(r3 i 4 hi qd).2] at l4;have l5:=l 5 qd;rw[(r3 i 5 hi qd).1,(r3 i 5 hi qd).2] at l5;have ls:=h (6*S.n+6*S.m+i) (by rw[hm];omega);rw[(rS i hi).1,(rS i hi).2] at ls;simp[sgq] at l0 l1 l2 l3 l4 l5;refine⟨?_,?_,?_,ls⟩<;>grind
 .rintro⟨h1,h2⟩ r hr;rw[hm] at hr;by_cases c:r<6*S.n
  .obtain⟨i,s,rfl,hi,hs⟩:∃i s,r=6*i+s/\i<S.n/\s<6:=⟨r/6,r%6,by omega,by omega,by omega⟩
   obtain⟨b1,b2,b3,-⟩:=h2 i hi;rw[(r3 i s hi hs).1,(r3 i s hi hs).2];have:s=0\/s=1\/s=2\/s=3\/s=4\/s=5:=qo;rcases this with rfl|rfl|rfl|rfl|rfl|rfl<;>simp[sgq]<;>grind
  .by_cases c2:r<6*S.n+6*S.m
   .obtain⟨k,s,rfl,hk,hs⟩:∃k s,r=6*S.n+(3*k+s)/\k<2*S.m/\s<3:=⟨(r-6*S.n)/3,(r-6*S.n)%3,by omega,by omega,by omega⟩
    obtain⟨b1,b2,b3⟩:=h1 k hk;rw[(rE k s hk hs).1,(rE k s hk hs).2];have:s=0\/s=1\/s=2:=qo;rcases this with rfl|rfl|rfl<;>simp<;>grind
   .obtain⟨i,rfl,hi⟩:∃i,r=6*S.n+6*S.m+i/\i<S.n:=⟨r-6*S.n-6*S.m,by omega,by omega⟩
    rw[(rS i hi).1,(rS i hi).2];exact(h2 i hi).2.2.2
end
end Bl
namespace Bl
open X
def BdOk(b:Bd):Prop:=0<b.lo/\b.lo<=b.hi/\0<b.st
def Y0(n:Nat)(t:Tc):Prop:=0<=t.a/\t.a<n/\-1<=t.b/\t.b<n/\t.a≠t.b/\0<=t.r/\¬(t.n.x=0/\t.n.y=0)/\t.n.x*(t.q.x-t.p.x)+t.n.y*(t.q.y-t.p.y)=0
structure Sc.ok(S:Sc):Prop where
 n:S.n<=5
 m:S.m<=10
 B:∀i,i<S.n->BdOk (S.B i)
 T:∀j,j<S.m->Y0 S.n (S.T j)
def Sc.wt(S:Sc)(c i:Nat):Rat:=if c/2^i%2=1 then(S.B i).hi else(S.B i).lo
end Bl
section
open W Go.RowKit
open Bl (Vc Bd Tc Sc)
abbrev VM:=QM×QM
abbrev vcs(m:VM):ne:=[.bool m.1.1,m.1.2.1,nq,m.1.2.2,.bool m.2.1,m.2.2.1,nq,m.2.2.2]
abbrev vv(m:VM):nA:=.agg #[.bool m.1.1,m.1.2.1,nq,m.1.2.2,.bool m.2.1,m.2.2.1,nq,m.2.2.2]
def fV(m:VM)(a:Vc):Fct where
 p h:=(isQ (qv m.1) a.x).p h/\(isQ (qv m.2) a.y).p h
 mono _ _ hl hp:=⟨(isQ _ _).mono _ _ hl hp.1,(isQ _ _).mono _ _ hl hp.2⟩
structure BM where
 c:VM
 lo:QM
 hi:QM
 st:QM
abbrev bcs(m:BM):ne:=[.bool m.c.1.1,m.c.1.2.1,nq,m.c.1.2.2,.bool m.c.2.1,m.c.2.2.1,nq,m.c.2.2.2,.bool m.lo.1,m.lo.2.1,nq,m.lo.2.2,.bool m.hi.1,m.hi.2.1,nq,m.hi.2.2,.bool m.st.1,m.st.2.1,nq,m.st.2.2]
abbrev bv(m:BM):nA:=.agg (bcs m).toArray
def fB(m:BM)(b:Bd):Fct where
 p h:=(fV m.c b.c).p h/\(isQ (qv m.lo) b.lo).p h/\(isQ (qv m.hi) b.hi).p h/\(isQ (qv m.st) b.st).p h
 mono _ _ hl hp:=⟨(fV _ _).mono _ _ hl hp.1,(isQ _ _).mono _ _ hl hp.2.1,(isQ _ _).mono _ _ hl hp.2.2.1,(isQ _ _).mono _ _ hl hp.2.2.2⟩
structure ToM where
 p:VM
 q:VM
 n:VM
 r:QM
abbrev tcs(m:ToM)(t:Tc):ne:=[nj t.a,nj t.b,.bool m.p.1.1,m.p.1.2.1,nq,m.p.1.2.2,.bool m.p.2.1,m.p.2.2.1,nq,m.p.2.2.2,.bool m.q.1.1,m.q.1.2.1,nq,m.q.1.2.2,.bool m.q.2.1,m.q.2.2.1,nq,m.q.2.2.2,
 .bool m.n.1.1,m.n.1.2.1,nq,m.n.1.2.2,.bool m.n.2.1,m.n.2.2.1,nq,m.n.2.2.2,.bool m.r.1,m.r.2.1,nq,m.r.2.2]
abbrev tv(m:ToM)(t:Tc):nA:=.agg (tcs m t).toArray
def fT(m:ToM)(t:Tc):Fct where
 p h:=(fV m.p t.p).p h/\(fV m.q t.q).p h/\(fV m.n t.n).p h/\(isQ (qv m.r) t.r).p h
 mono _ _ hl hp:=⟨(fV _ _).mono _ _ hl hp.1,(fV _ _).mono _ _ hl hp.2.1,(fV _ _).mono _ _ hl hp.2.2.1,(isQ _ _).mono _ _ hl hp.2.2.2⟩
structure EM where
 at':VM
 t:ToM
structure Ed where
 at':Vc
 t:Tc
abbrev ecs(m:EM)(e:Ed):ne:=vcs m.at'++tcs m.t e.t
abbrev edv(m:EM)(e:Ed):nA:=.agg (ecs m e).toArray
def fE(m:EM)(e:Ed):Fct where
 p h:=(fV m.at' e.at').p h/\(fT m.t e.t).p h
 mono _ _ hl hp:=⟨(fV _ _).mono _ _ hl hp.1,(fT _ _).mono _ _ hl hp.2⟩
abbrev Jt:Shp VM Vc:=⟨8,λm _=>vcs m,fV,by decide,λ_ _=>rfl⟩
abbrev QQ:Shp BM Bd:=⟨20,λm _=>bcs m,fB,by decide,λ_ _=>rfl⟩
abbrev Qu:Shp ToM Tc:=⟨30,tcs,fT,by decide,λ_ _=>rfl⟩
abbrev JO:Shp EM Ed:=⟨38,ecs,fE,by decide,λ_ _=>rfl⟩
abbrev plS:Shp (nA×(Nat->VM)) (Nat×(Nat->Vc)):=⟨1,λm _=>[m.1],λm a=>lF Jt m.1 a.1 m.2 a.2,by decide,λ_ _=>rfl⟩
section
variable {F:nc}{bx:nw}{m:VM}{a:Vc}{bm:BM}{b:Bd}{tm:ToM}{t:Tc}{em:EM}{ed:Ed}
def W.Has.vx(h:Has F (fV m a)):Has F (isQ (qv m.1) a.x):=λp hf=>(h p hf).1
def W.Has.vy(h:Has F (fV m a)):Has F (isQ (qv m.2) a.y):=λp hf=>(h p hf).2
def W.Has.vof(h1:Has F (isQ (qv m.1) a.x))(h2:Has F (isQ (qv m.2) a.y)):Has F (fV m a):=λp hf=>⟨h1 p hf,h2 p hf⟩
def W.Has.bc(h:Has F (fB bm b)):Has F (fV bm.c b.c):=λp hf=>(h p hf).1
def W.Has.bl(h:Has F (fB bm b)):Has F (isQ (qv bm.lo) b.lo):=λp hf=>(h p hf).2.1
def W.Has.bh(h:Has F (fB bm b)):Has F (isQ (qv bm.hi) b.hi):=λp hf=>(h p hf).2.2.1
def W.Has.bs(h:Has F (fB bm b)):Has F (isQ (qv bm.st) b.st):=λp hf=>(h p hf).2.2.2
def W.Has.bof(h1:Has F (fV bm.c b.c))(h2:Has F (isQ (qv bm.lo) b.lo))(h3:Has F (isQ (qv bm.hi) b.hi))(h4:Has F (isQ (qv bm.st) b.st)):Has F (fB bm b):=λp hf=>⟨h1 p hf,h2 p hf,h3 p hf,h4 p hf⟩
def W.Has.tp(h:Has F (fT tm t)):Has F (fV tm.p t.p):=λp hf=>(h p hf).1
def W.Has.tq(h:Has F (fT tm t)):Has F (fV tm.q t.q):=λp hf=>(h p hf).2.1
def W.Has.tn(h:Has F (fT tm t)):Has F (fV tm.n t.n):=λp hf=>(h p hf).2.2.1
def W.Has.trr(h:Has F (fT tm t)):Has F (isQ (qv tm.r) t.r):=λp hf=>(h p hf).2.2.2
def W.Has.tof(h1:Has F (fV tm.p t.p))(h2:Has F (fV tm.q t.q))(h3:Has F (fV tm.n t.n))(h4:Has F (isQ (qv tm.r) t.r)):Has F (fT tm t):=λp hf=>⟨h1 p hf,h2 p hf,h3 p hf,h4 p hf⟩
def W.Has.ea(h:Has F (fE em ed)):Has F (fV em.at' ed.at'):=λp hf=>(h p hf).1
def W.Has.et(h:Has F (fE em ed)):Has F (fT em.t ed.t):=λp hf=>(h p hf).2
def W.Has.eof(h1:Has F (fV em.at' ed.at'))(h2:Has F (fT em.t ed.t)):Has F (fE em ed):=λp hf=>⟨h1 p hf,h2 p hf⟩
def Ud(h:Has F (fV m a)):QB bx F (vcs m):=
 .cons (One.lit rfl rfl) (.cons (One.sl (KnS.q1 h.vx)) (.cons (One.lit rfl rfl) (.cons (One.sl (KnS.q2 h.vx)) (.cons (One.lit rfl rfl) (.cons (One.sl (KnS.q1 h.vy)) (.cons (One.lit rfl rfl) (.cons (One.sl (KnS.q2 h.vy)) .nil)))))))
def W.QB.app{l k:ne}(h1:QB bx F l)(h2:QB bx F k):QB bx F (l++k):=by
 induction h1 with
 |nil=>exact h2
 |cons h _ ih=>exact .cons h ih
def one_b(h:Has F (fB bm b)):QB bx F (bcs bm):=(Ud h.bc).app ((ZM h.bl).app ((ZM h.bh).app (ZM h.bs)))
def Vd(h:Has F (fT tm t)):QB bx F (tcs tm t):=.cons (One.lit rfl rfl) (.cons (One.lit rfl rfl) ((Ud h.tp).app ((Ud h.tq).app ((Ud h.tn).app (ZM h.trr)))))
def one_e(h:Has F (fE em ed)):QB bx F (ecs em ed):=(Ud h.ea).app (Vd h.et)
end
section
variable {F:nc}{bx:nw}{m:VM}{a:Vc}
def hasV0:Has F (fV (m00,m00) ⟨0,0⟩):=W.Has.vof Jr Jr
def KnS.vx1(h:Has F (fV m a)):KnS bx F m.1.2.1 (Qx (a.x.num).natAbs).length:=KnS.q1 h.vx
def KnS.vx2(h:Has F (fV m a)):KnS bx F m.1.2.2 (Qx (qz a.x).natAbs).length:=KnS.q2 h.vx
def KnS.vy1(h:Has F (fV m a)):KnS bx F m.2.2.1 (Qx (a.y.num).natAbs).length:=KnS.q1 h.vy
def KnS.vy2(h:Has F (fV m a)):KnS bx F m.2.2.2 (Qx (qz a.y).natAbs).length:=KnS.q2 h.vy
end
def Vo(a:Vc):Qd:=λv B G=>∃m:VM,v=vv m/\B=[]/\G=[fV m a]
inductive Pt:Nat->ne->ne->ne->Prop where
 |nil {cs:ne}:Pt 0 [] cs cs
 |cons {u c:nA} {us cs cs':ne}:Pt 0 us cs cs'->Pt 0 (u::us) (c::cs) (u::cs')
 |skip {q:Nat} {c:nA} {us cs cs':ne}:Pt q us cs cs'->Pt (q+1) us (c::cs) (c::cs')
def Pt.eq{q:Nat}{us cs cs':ne}(h:Pt q us cs cs'):Jp cs q us=cs'/\q+us.length<=cs.length:=by
 induction h with
 |nil=>simp[Jp]
 |cons _ ih=>simp only[Jp,fa,bn,aR,aK,List.drop_succ_cons] at ih ⊢;exact⟨by rw[<-ih.1];rfl,by omega⟩
 |skip _ ih=>simp only[Jp,List.take_succ_cons,aX,aK] at ih ⊢;exact⟨by rw[<-ih.1,Nat.add_right_comm];rfl,by omega⟩
section
variable {P:nh}{e:Env}{bx bx':nw}{F:nc}{ty t tg:nl}{x y z:ni}{g q m:Nat}{cs cs' us:ne}{K:Qd}{a b:VM}{m1 m2:QM}{v:nA}
def LO.storeC(hx:ev e x=some (.pointer (some ⟨g,q,none⟩)))(hy:ev e y=some (.agg us.toArray))(hr:Row P t us.length)(hs:Sel bx (.cells g tg cs) (.cells g tg cs') bx')(hp:Pt q us cs cs')(h1:QB bx F us)(h:K undef bx' F):LO P (.store t x y) ty e bx F K:=
 LO.FV h1 λh1=>LO.store hx hy (vs:=us) (by simp[Value.cells]) hr.2 h1 hs hp.eq.2 hp.eq.1 h
def LO.J3{us:ne}(hx:ev e x=some (.pointer (some ⟨g,0,none⟩)))(hy:ev e y=some (.agg us.toArray))(hr:Row P t us.length)(hs:Sel bx (.cells g tg cs) (.cells g tg us) bx')(hl:cs.length=us.length)(h1:QB bx F us)(h:K undef bx' F):LO P (.store t x y) ty e bx F K:=
 LO.FV h1 λh1=>LO.store hx hy (vs:=us) (by simp[Value.cells]) hr.2 h1 hs qo (by simp[Jp,<-hl]) h
def YO.shl1{k:Nat}{t':nl}(hx:ev e x=some (nj 1))(hy:ev e y=some (nj k))(h:k<=60):YO P (.binOp .shl t x y t') ty e bx F (nj ((2^k:Nat):Int)):=by
 have h1:2^k<=2^60:=aA qd h;have h2:(1:Int)*2^((k:Int)).toNat=((2^k:Nat):Int):=by rw[be,cO];simp
 have h3:∀N:Nat,N<=2^60->-9223372036854775808<=(N:Int)/\(N:Int)<=9223372036854775807:=λN hN=>by omega
 have:=YO.shl' (P:=P) (bx:=bx) (F:=F) (ty:=ty) (t:=t) (t':=t') hx hy qo qo (by rw[h2];exact(h3 _ h1).1) (by rw[h2];exact(h3 _ h1).2)
 rwa [h2] at this
def YO.buildV(hx:ev e x=some (qv m1))(hy:ev e y=some (qv m2)):YO prog (.build 77 #[(0,x),(1,y)]) ty e bx F (vv (m1,m2)):=YO.build (parts:=[(0,x),(1,y)]) (.cons hx (.cons hy .nil)) λ_=>by kernel_rfl
def YO.buildV0:YO prog (.build 77 #[]) ty e bx F (vv (m00,m00)):=YO.build (parts:=[]) .nil λ_=>by kernel_rfl
def YO.buildP(hx:ev e x=some (qv m1))(hy:ev e y=some (qv m2)):YO prog (.build 127 #[(0,x),(1,y)]) ty e bx F (vv (m1,m2)):=YO.build (parts:=[(0,x),(1,y)]) (.cons hx (.cons hy .nil)) λ_=>by kernel_rfl
def LO.bsR2{m m':QM}(hx:ev e x=some (qv m))(hy:ev e y=some (qv m'))(h:∀v,K v (Ow.slice v 75 4 (Qc 2 (Qy (Qy (λ_=>m00) 0 m) 1 m'))::bx) F):LO prog (.buildSlice 61 2 #[(0,x),(1,y)]) ty e bx F K:=by
 refine LO.buildSlice (el:=75) (sz:=4) (parts:=[(0,x),(1,y)]) (us:=[qv m,qv m']) (cs:=qcs m++qcs m') (.cons hx (.cons hy .nil)) (λ_=>by kernel_rfl) rfl qd λv=>?_;have:=h v
 rwa [<-XQ,<-XQ,show Qc 0 (λ_=>m00)=[] from rfl,bn] at this
end
structure LnM where
 a:nA
 m:Nat->QM
 b:QM
structure LnX where
 n:Nat
 a:nf
 b:Rat
def fLx(m:LnM)(x:LnX):Fct where
 p h:=(fF m.a x.n m.m x.a).p h/\(isQ (qv m.b) x.b).p h
 mono _ _ hl hp:=⟨(fF _ _ _ _).mono _ _ hl hp.1,(isQ _ _).mono _ _ hl hp.2⟩
abbrev lcs(m:LnM):ne:=[m.a,.bool m.b.1,m.b.2.1,nq,m.b.2.2]
abbrev Qm:Shp LnM LnX:=⟨5,λm _=>lcs m,fLx,by decide,λ_ _=>rfl⟩
def Jd.dbl{i:Int}{n:Nat}(h:Jd i n):Jd (2*i) (2*n):=by
 have e:=h.eq;subst e;have:(2*(n:Int))=((2*n:Nat):Int):=by simp
 rw[this];exact Jd.cast _
section
variable {M α:Type}{S:Shp M α}{P:nh}{e:Env}{bx bx':nw}{F:nc}{ty t el:nl}{v u:nA}{x y z:ni}{n k:Nat}{ms:Nat->M}{xs:Nat->α}{K:Qd}{mm m2 m3:M}{lm l2 l3:LnM}{lx:LnX}
def W.Has.la(h:Has F (fLx lm lx)):Has F (fF lm.a lx.n lm.m lx.a):=λp hf=>(h p hf).1
def W.Has.lb(h:Has F (fLx lm lx)):Has F (isQ (qv lm.b) lx.b):=λp hf=>(h p hf).2
def W.Has.lof(h1:Has F (fF lm.a lx.n lm.m lx.a))(h2:Has F (isQ (qv lm.b) lx.b)):Has F (fLx lm lx):=λp hf=>⟨h1 p hf,h2 p hf⟩
def ZL(h:Has F (fLx lm lx)):QB bx F (lcs lm):=.cons (One.sl (KnS.ff h.la)) (ZM h.lb)
def Ut{α:Type}{xs:Nat->α}{n:Nat}:Qy xs n (xs n)=xs:=by funext i;unfold Qy;split<;>simp_all
def Jk:QG S n ms xs++S.cs mm (xs n)=QG S (n+1) (Qy ms n mm) xs:=by
 have:=HQ (S:=S) (n:=n) (ms:=ms) (xs:=xs) (mm:=mm) (aa:=xs n)
 rwa [Ut] at this
def Yj:QG S n ms xs++S.cs (ms n) (xs n)=QG S (n+1) ms xs:=by
 have:=Jk (S:=S) (n:=n) (ms:=ms) (xs:=xs) (mm:=ms n)
 rwa [Ut] at this
def W.Has.mappS(h:Has F (lM S n ms xs))(hm:Has F (S.fc (ms n) (xs n))):Has F (lM S (n+1) ms xs):=by
 have:=h.mapp hm
 rwa [Ut,Ut] at this
def W.Has.Xb(h:Has F (lM S n ms xs))(hm:Has F (S.fc mm (xs n))):Has F (lM S (n+1) (Qy ms n mm) xs):=by
 have:=h.mapp hm
 rwa [Ut] at this
def made_l(m0:M)(x0:α){z:nA}(hz:z.cells.toList=S.cs m0 x0):(madeCells z.cells (n*S.w)).toList=QG S n (λ_=>m0) (λ_=>x0):=
 madeF n S.w z _ (by rw[<-Array.length_toList,hz,S.len]) S.pos λj=>by
  have hl:j%S.w<(S.cs m0 x0).length:=by rw[S.len];exact bw _ S.pos
  rw[<-Array.getElem?_toList,hz];show _=some (JG S.w (λ_=>S.cs m0 x0) j);unfold JG;rw[List.getD_eq_getElem?_getD,List.getElem?_eq_getElem hl];rfl
def LO.makeL{t1 b:nl}{z:nA}{i:Int}(m0:M)(x0:α)(he:Xl P t1 el S.w z b)(hz:z.cells.toList=S.cs m0 x0)(hx:ev e x=some (nj i))(hy:ev e y=some (nj i))(hi:Jd i n)(hn:n<=1000000)(hb:b<=1000)(h:∀v,K v (lO S v el n (λ_=>m0) (λ_=>x0)::bx) F):LO P (.makeSlice t1 x y) ty e bx F K:=by
 obtain rfl:=hi.eq;have:=aO hb hn;exact LO.make he hx hy qo qo (made_l m0 x0 hz) h
def LO.appG{el' t1 b:nl}{n' c:Nat}{z:nA}{news:ne}{ms':Nat->M}{xs':Nat->α}{bx2:nA->nw}(he:Xl P t1 el S.w z b)(hx:ev e x=some v)(hy:ev e y=some u)(hu:Ow.slice u el' S.w news∈bx)(hn:QG S n ms xs++news=QG S n' ms' xs')(hc:news.length=c*S.w)(h1:QB bx F news)(hs:∀v',Sel bx (lO S v el n ms xs) (lO S v' el n' ms' xs') (bx2 v'))(hb:b<=1000)(hw:S.w<=100)(hl:n<=1000000)(hc2:c<=10)(h:∀v',K v' (bx2 v') F) :
  LO P (.call {callee:=.builtin .append,args:=#[x,y],argTypes:=#[t1,t1]}) ty e bx F K:=by
 refine LO.byP (λfr w ho=>h1.all ho) λh1=>?_;have hw1:n*S.w<=1000000*100:=aO hl hw;have hw2:c*S.w<=10*100:=aO hc2 hw;have hp:=S.pos
 exact LO.append he hx hy (news:=news) (by rw[hn];exact hs) (Qo.own hu hc hp) h1 (by
  rw[Qg,hc];have:=aO (show n*S.w+c*S.w<=100001000 by omega) hb;omega) (by rw[Qg,hc];omega) h
end
def edT(T:Nat->Tc)(k:Nat):Ed:=⟨if k%2=0 then(T (k/2)).p else(T (k/2)).q,T (k/2)⟩
def edM(T:Nat->ToM)(k:Nat):EM:=⟨if k%2=0 then(T (k/2)).p else(T (k/2)).q,T (k/2)⟩
def edT_0(T:Nat->Tc)(i:Nat):edT T (2*i)=⟨(T i).p,T i⟩/\edT T (2*i+1)=⟨(T i).q,T i⟩:=by
 unfold edT;rw[ah (show 2*i%2=0 by omega),ae (show ¬(2*i+1)%2=0 by omega),show 2*i/2=i by omega,show(2*i+1)/2=i by omega];exact⟨rfl,rfl⟩
def edM_0(T:Nat->ToM)(i:Nat):edM T (2*i)=⟨(T i).p,T i⟩/\edM T (2*i+1)=⟨(T i).q,T i⟩:=by
 unfold edM;rw[ah (show 2*i%2=0 by omega),ae (show ¬(2*i+1)%2=0 by omega),show 2*i/2=i by omega,show(2*i+1)/2=i by omega];exact⟨rfl,rfl⟩
section
variable {e:Env}{bx bx':nw}{F:nc}{ty t el:nl}{v u:nA}{x y z:ni}{n k:Nat}{K:Qd}{lm l2 l3:LnM}{vm:VM}{tm:ToM}{tc:Tc}{m m':QM}{vs:Int}
def YO.buildE(hx:ev e x=some (vv vm))(hy:ev e y=some (tv tm tc)):YO prog (.build 163 #[(0,x),(1,y)]) ty e bx F (.agg (vcs vm++tcs tm tc).toArray):=YO.build (parts:=[(0,x),(1,y)]) (.cons hx (.cons hy .nil)) λ_=>by kernel_rfl
def LO.bsE2{a1 a2:VM}{t1 t2:ToM}{c1 c2:Tc}(hx:ev e x=some (.agg (vcs a1++tcs t1 c1).toArray))(hy:ev e y=some (.agg (vcs a2++tcs t2 c2).toArray))(h:∀v,K v (Ow.slice v 163 38 ((vcs a1++tcs t1 c1)++(vcs a2++tcs t2 c2))::bx) F):LO prog (.buildSlice 159 2 #[(0,x),(1,y)]) ty e bx F K:=
 LO.buildSlice (el:=163) (sz:=38) (parts:=[(0,x),(1,y)]) (us:=[.agg (vcs a1++tcs t1 c1).toArray,.agg (vcs a2++tcs t2 c2).toArray]) (cs:=(vcs a1++tcs t1 c1)++(vcs a2++tcs t2 c2)) (.cons hx (.cons hy .nil)) (λ_=>by kernel_rfl) rfl qd h
def YO.buildLb(hx:ev e x=some (qv m)):YO prog (.build 141 #[(1,x)]) ty e bx F (.agg #[nz,.bool m.1,m.2.1,nq,m.2.2]):=YO.build (parts:=[(1,x)]) (.cons hx .nil) λ_=>by kernel_rfl
def YO.buildL2{n':Nat}(hx:ev e x=some v)(hv:KnS bx F v n')(hy:ev e y=some (qv m)):YO prog (.build 141 #[(0,x),(1,y)]) ty e bx F (.agg #[v,.bool m.1,m.2.1,nq,m.2.2]):=λn1 fr a w o h1 h2 h3 h4=>by
 obtain⟨a',c,rfl,_⟩:=(hv fr w h4).is;exact YO.build (parts:=[(0,x),(1,y)]) (us:=[.slice a' n' c,qv m]) (.cons hx (.cons hy .nil)) (λ_=>by kernel_rfl) n1 fr a w o h1 h2 h3 h4
def YO.buildPr{n':Nat}(hx:ev e x=some (nj vs))(hy:ev e y=some v)(hv:KnS bx F v n'):YO prog (.build 118 #[(0,x),(2,y)]) ty e bx F (.agg #[nj vs,nz,v]):=λn1 fr a w o h1 h2 h3 h4=>by
 obtain⟨a',c,rfl,_⟩:=(hv fr w h4).is;exact YO.build (parts:=[(0,x),(2,y)]) (us:=[nj vs,.slice a' n' c]) (.cons hx (.cons hy .nil)) (λ_=>by kernel_rfl) n1 fr a w o h1 h2 h3 h4
def LO.bsL1{n':Nat}{a:nA}{b:QM}(hx:ev e x=some (.agg #[a,.bool b.1,b.2.1,nq,b.2.2]))(hv:KnS bx F a n')(h:∀v,K v (Ow.slice v 141 5 [a,.bool b.1,b.2.1,nq,b.2.2]::bx) F):LO prog (.buildSlice 116 1 #[(0,x)]) ty e bx F K:=by
 refine LO.byP (p:=∃a' c,a=.slice a' n' c) (λfr w ho=>by obtain⟨a',c,h1,_⟩:=(hv fr w ho).is;exact⟨a',c,h1⟩) ?_;rintro⟨a',c,rfl⟩;exact LO.buildSlice (parts:=[(0,x)]) (us:=[.agg #[.slice a' n' c,.bool b.1,b.2.1,nq,b.2.2]]) (cs:=[.slice a' n' c,.bool b.1,b.2.1,nq,b.2.2]) (.cons hx .nil) (λ_=>by kernel_rfl) rfl qd h
def LO.bsL3{n1 n2 n3:Nat}{a a2 a3:nA}{b b2 b3:QM}(hx:ev e x=some (.agg #[a,.bool b.1,b.2.1,nq,b.2.2]))(hy:ev e y=some (.agg #[a2,.bool b2.1,b2.2.1,nq,b2.2.2]))(hz:ev e z=some (.agg #[a3,.bool b3.1,b3.2.1,nq,b3.2.2]))(hv:KnS bx F a n1)(hv2:KnS bx F a2 n2)(hv3:KnS bx F a3 n3)
  (h:∀v,K v (Ow.slice v 141 5 ([a,.bool b.1,b.2.1,nq,b.2.2]++([a2,.bool b2.1,b2.2.1,nq,b2.2.2]++[a3,.bool b3.1,b3.2.1,nq,b3.2.2]))::bx) F):LO prog (.buildSlice 116 3 #[(0,x),(1,y),(2,z)]) ty e bx F K:=by
 refine LO.byP (p:=(∃a' c,a=.slice a' n1 c)/\(∃a' c,a2=.slice a' n2 c)/\∃a' c,a3=.slice a' n3 c) (λfr w ho=>?_) ?_
 .obtain⟨a1,c1,h1,_⟩:=(hv fr w ho).is;obtain⟨a2,c2,h2,_⟩:=(hv2 fr w ho).is;obtain⟨a3,c3,h3,_⟩:=(hv3 fr w ho).is;exact⟨⟨a1,c1,h1⟩,⟨a2,c2,h2⟩,⟨a3,c3,h3⟩⟩
 rintro⟨⟨a',c,rfl⟩,⟨a2',c2,rfl⟩,⟨a3',c3,rfl⟩⟩;exact LO.buildSlice (parts:=[(0,x),(1,y),(2,z)]) (us:=[.agg #[.slice a' n1 c,.bool b.1,b.2.1,nq,b.2.2],.agg #[.slice a2' n2 c2,.bool b2.1,b2.2.1,nq,b2.2.2],.agg #[.slice a3' n3 c3,.bool b3.1,b3.2.1,nq,b3.2.2]]) (.cons hx (.cons hy (.cons hz .nil))) (λ_=>by kernel_rfl) rfl qd h
def LO.appLn{el':nl}{a:nA}{b:QM}{mq:Nat->QM}{ms:Nat->LnM}{xs:Nat->LnX}{bx2:nA->nw}(hx:ev e x=some v)(hy:ev e y=some u)(hu:Ow.slice u el' 5 [a,.bool b.1,b.2.1,nq,b.2.2]∈bx)(hm:Has F (fLx ⟨a,mq,b⟩ (xs n)))(hs:∀v',Sel bx (lO Qm v 141 n ms xs) (lO Qm v' 141 (n+1) (Qy ms n ⟨a,mq,b⟩) xs) (bx2 v'))(hl:n<=1000000)(h:∀v',K v' (bx2 v') F) :
  LO prog (.call {callee:=.builtin .append,args:=#[x,y],argTypes:=#[116,116]}) ty e bx F K:=
 LO.appG (S:=Qm) (c:=1) T.e116 hx hy hu (Jk (S:=Qm) (mm:=⟨a,mq,b⟩)) rfl (ZL hm) hs qd qd hl qd h
def LO.FW{el':nl}{a a2 a3:nA}{b b2 b3:QM}{mq mq2 mq3:Nat->QM}{ms:Nat->LnM}{xs:Nat->LnX}{bx2:nA->nw}(hx:ev e x=some v)(hy:ev e y=some u)(hu:Ow.slice u el' 5 ([a,.bool b.1,b.2.1,.bool false,b.2.2]++([a2,.bool b2.1,b2.2.1,.bool false,b2.2.2]++[a3,.bool b3.1,b3.2.1,.bool false,b3.2.2]))∈bx)
  (hm:Has F (fLx ⟨a,mq,b⟩ (xs n))) (hm2:Has F (fLx ⟨a2,mq2,b2⟩ (xs (n+1)))) (hm3:Has F (fLx ⟨a3,mq3,b3⟩ (xs (n+2)))) (hs:∀v',Sel bx (lO Qm v 141 n ms xs) (lO Qm v' 141 (n+3) (Qy (Qy (Qy ms n ⟨a,mq,b⟩) (n+1) ⟨a2,mq2,b2⟩) (n+2) ⟨a3,mq3,b3⟩) xs) (bx2 v')) (hl:n<=1000000) (h:∀v',K v' (bx2 v') F) :
  LO prog (.call {callee:=.builtin .append,args:=#[x,y],argTypes:=#[116,116]}) ty e bx F K:=
 LO.appG (S:=Qm) (c:=3) T.e116 hx hy hu (by
  rw[<-Jk (S:=Qm) (n:=n+2),<-Jk (S:=Qm) (n:=n+1),<-Jk (S:=Qm) (n:=n),List.append_assoc,List.append_assoc]) rfl ((ZL hm).app ((ZL hm2).app (ZL hm3))) hs qd qd hl qd h
def LO.appE2{el':nl}{i:Nat}{A:Nat->ToM}{A':Nat->Tc}{bx2:nA->nw}(hx:ev e x=some v)(hy:ev e y=some u)(hu:Ow.slice u el' 38 (ecs ⟨(A i).p,A i⟩ ⟨(A' i).p,A' i⟩++ecs ⟨(A i).q,A i⟩ ⟨(A' i).q,A' i⟩)∈bx)(hm:Has F (fT (A i) (A' i)))(hs:∀v',Sel bx (lO JO v 163 (2*i) (edM A) (edT A')) (lO JO v' 163 (2*(i+1)) (edM A) (edT A')) (bx2 v'))(hl:i<=1000)(h:∀v',K v' (bx2 v') F) :
  LO prog (.call {callee:=.builtin .append,args:=#[x,y],argTypes:=#[159,159]}) ty e bx F K:=
 LO.appG (c:=2) T.e159 hx hy hu (by
  have h1:=Yj (S:=JO) (n:=2*i) (ms:=edM A) (xs:=edT A');have h2:=Yj (S:=JO) (n:=2*i+1) (ms:=edM A) (xs:=edT A');rw[<-h1,(edT_0 A' i).1,(edM_0 A i).1,(edT_0 A' i).2,(edM_0 A i).2,List.append_assoc] at h2;exact h2) rfl ((one_e (W.Has.eof (W.Has.tp hm) hm)).app (one_e (W.Has.eof (W.Has.tq hm) hm))) hs qd qd qo qd h
def LO.makePu{i:Int}(hx:ev e x=some (nj i))(hy:ev e y=some (nj i))(hi:Jd i n)(hn:n<=1000000)(h:∀v,K v (lO Jt v 127 n (λ_=>(m00,m00)) (λ_=>⟨0,0⟩)::bx) F):LO prog (.makeSlice 125 x y) ty e bx F K:=LO.makeL (S:=Jt) (m00,m00) ⟨0,0⟩ T.e125 rfl hx hy hi hn qd h
def LO.appR2{el':nl}{ms:Nat->QM}{a b:Rat}{bx2:nA->nw}(hx:ev e x=some v)(hy:ev e y=some u)(hu:Ow.slice u el' 4 (Qc 2 (Qy (Qy (λ_=>m00) 0 m) 1 m'))∈bx)(hm:Has F (isQ (qv m) a))(hm':Has F (isQ (qv m') b))(hs:∀v',Sel bx (.slice v 75 4 (Qc n ms)) (.slice v' 75 4 (Qc (n+2) (Qy (Qy ms n m) (n+1) m'))) (bx2 v'))(hl:n<=1000000)(h:∀v',K v' (bx2 v') F) :
  LO prog (.call {callee:=.builtin .append,args:=#[x,y],argTypes:=#[61,61]}) ty e bx F K:=by
 have e2:Qc 2 (Qy (Qy (λ_=>m00) 0 m) 1 m')=qcs m++qcs m':=by
  rw[<-XQ,<-XQ,show Qc 0 (λ_=>m00)=[] from rfl,bn]
 rw[e2] at hu;refine LO.byP (λfr w ho=>((ZM (bx:=bx) hm).app (ZM hm')).all ho) λh1=>?_;exact LO.append T.e61 hx hy (news:=qcs m++qcs m') (by rw[<-List.append_assoc,XQ,XQ];exact hs) (Qo.own (n:=2) hu rfl qd) h1 (by rw[Qg];show(n*4+8)*64<=_;omega) (by rw[Qg];show n*4+8<=_;omega) h
end
end
end Go.Proofs.YtbnobghgnbockaaGreat
