/- Lemmas for a law. Conditions: none. -/
import Derived.Test.YtcpaopfdiahnnaaGreatZb6
import Derived.Test.YtcpaopfdiahnnaaGreatZb3
import Derived.Conc.Beside
import Derived.Conc.CrowdTrace
import Derived.Conc.CrowdInv
set_option linter.all false
set_option maxHeartbeats 32000000
set_option maxRecDepth 100000
namespace Go.Proofs.YtcpaopfdiahnnaaGreat
section
namespace X
section
variable {p:Lp} {c0:Nat->Rat} {s:St}
def dual (h:Inv p.m p.n p.A c0 s) (hc:∀ j,2*p.v<=j->j < p.la->c0 j=0) :
  (∀ k,k < p.v->s.c k=c0 k+sm p.m λr=>s.c (2*p.v+r)*p.a r k)∧(∀ k,k < p.v->s.c (p.v+k)=c0 (p.v+k) - sm p.m λr=>s.c (2*p.v+r)*p.a r k)∧s.c p.n=c0 p.n+sm p.m λr=>s.c (2*p.v+r)*p.b r:=by
 obtain⟨w,hw⟩:=h.w
 have hy:∀ r,r < p.m->s.c (2*p.v+r)= -(w r*p.sg r):=λr hr=>by
  rw[hw _ (by unfold Lp.n;omega),hc _ qo (by unfold Lp.la;omega)]
  rw[JW hr (λi hi hir=>by
   unfold Lp.A Lp.la;rw[if_neg qo,if_neg qo,if_pos qo,if_neg qo];grind)]
  unfold Lp.A Lp.la;rw[if_neg qo,if_neg qo,if_pos qo,if_pos rfl];grind
 refine⟨λk hk=>?_,λk hk=>?_,?_⟩
 ·rw[hw k (by unfold Lp.n;omega)]
  rw[show(sm p.m λr=>w r*p.A r k)=sm p.m λr=>(-1)*(s.c (2*p.v+r)*p.a r k) from Qh λr hr=>by
   rw[hy r hr];unfold Lp.A;rw[if_pos hk];grind]
  rw[JK];grind
 ·rw[hw _ (by unfold Lp.n;omega)]
  congr 1
  exact Qh λr hr=>by
   rw[hy r hr];unfold Lp.A;rw[if_neg qo,if_pos qo,show p.v+k - p.v=k by omega];grind
 ·rw[hw _ (Nat.le_refl _)]
  rw[show(sm p.m λr=>w r*p.A r p.n)=sm p.m λr=>(-1)*(s.c (2*p.v+r)*p.b r) from Qh λr hr=>by
   rw[hy r hr,A_n];grind]
  rw[JK];grind
def xs (p:Lp) (s:St) (k:Nat):Rat:=wt p.m s (λi=>s.t i p.n) k - wt p.m s (λi=>s.t i p.n) (p.v+k)
def HV {m:Nat} {q:Nat->Rat} (h:∀ i,i < m->0<=q i) (j:Nat):0<=wt m s q j:=Uq λi hi=>by
 by_cases e:s.b i=j
 ·rw[if_pos e];exact h i hi
 ·rw[if_neg e];exact Rat.le_refl
def HZ {r:Nat} {x y:Rat} (h:p.sg r*x=p.sg r*y):x=y:=by
 have h1:=@sg_sq p r;have h2:p.sg r*(p.sg r*x)=p.sg r*(p.sg r*y):=by rw[h]
 grind
def primal {e:Nat} (h:Ok p.m p.n e p.A c0 s) (he:∀ i,i < p.m->p.la<=s.b i->s.t i p.n=0) {r:Nat} (hr:r < p.m):sm p.v (λk=>p.a r k*xs p s k)<=p.b r:=by
 have h1:=h.i.r r hr p.n (Nat.le_refl _);rw[A_n,row_sum he] at h1;have h2:=HZ h1;have h3:=HV (s:=s) h.f (2*p.v+r);unfold xs;grind
def value (h:Inv p.m p.n p.A p.c2 s):s.c p.n=sm p.v λk=>p.g k*xs p s k:=by
 rw[h.cost (Nat.le_refl _),c2_sum];have:p.c2 p.n=0:=by unfold Lp.c2 Lp.n;rw[if_neg qo,if_neg qo]
 rw[this];unfold xs;grind
def UB (a b:Nat):(if a=b then(1:Rat) else 0)=if b=a then 1 else 0:=by
 by_cases e:a=b
 ·rw[if_pos e,if_pos e.symm]
 ·rw[if_neg e,if_neg (λh=>e h.symm)]
def rv (p:Lp) (s:St) (col j:Nat):Rat:=(if j=col then 1 else 0) - wt p.m s (λi=>s.t i col) j
def dr (p:Lp) (s:St) (col k:Nat):Rat:=rv p s col k - rv p s col (p.v+k)
def ray_line (h:Inv p.m p.n p.A c0 s) {col:Nat} (hc:col < p.la) (he:∀ i,i < p.m->p.la<=s.b i->s.t i col=0) (hn:∀ i,i < p.m->s.t i col<=0) {r:Nat} (hr:r < p.m):sm p.v (λk=>p.a r k*dr p s col k)<=0:=by
 have hcn:col<=p.n:=by unfold Lp.la Lp.n at *;omega
 have h1:=h.r r hr col hcn;rw[row_sum he] at h1;have h2:=A_eq (p:=p) (r:=r) hc 1;have h3:0<=wt p.m s (λi=>-s.t i col) (2*p.v+r):=HV (λi hi=>by have:=hn i hi;grind) _
 have h4:wt p.m s (λi=>-s.t i col) (2*p.v+r)=(-1)*wt p.m s (λi=>s.t i col) (2*p.v+r):=by
  unfold wt;rw[<-JK];exact Qh λi _=>by split <;> grind
 have h5:p.A r col*1=p.A r col:=by grind
 rw[h5,h1] at h2;have h6:=HZ h2
 have h7:(sm p.v λk=>p.a r k*dr p s col k)=sm p.v (λk=>p.a r k*((if col=k then 1 else 0) - (if col=p.v+k then 1 else 0))) - sm p.v (λk=>p.a r k*(wt p.m s (λi=>s.t i col) k - wt p.m s (λi=>s.t i col) (p.v+k))):=by
  rw[<-Zd]
  exact Qh λk _=>by
   unfold dr rv;have e1:=UB k col;have e2:=UB (p.v+k) col;rw[e1,e2];grind
 rw[h7];by_cases e:col=2*p.v+r
 ·rw[if_pos e] at h6;grind
 ·rw[if_neg e] at h6;grind
def ray_goal (h:Inv p.m p.n p.A p.c2 s) {col:Nat} (hc:col < p.la) (hn:s.c col < 0):0 < sm p.v λk=>p.g k*dr p s col k:=by
 have hcn:col<=p.n:=by unfold Lp.la Lp.n at *;omega
 have h1:=h.cost hcn;rw[c2_sum] at h1;have h2:=c2_eq (p:=p) col 1
 have h7:(sm p.v λk=>p.g k*dr p s col k)=sm p.v (λk=>p.g k*((if col=k then 1 else 0) - (if col=p.v+k then 1 else 0))) - sm p.v (λk=>p.g k*(wt p.m s (λi=>s.t i col) k - wt p.m s (λi=>s.t i col) (p.v+k))):=by
  rw[<-Zd]
  exact Qh λk _=>by
   unfold dr rv;have e1:=UB k col;have e2:=UB (p.v+k) col;rw[e1,e2];grind
 rw[h7];grind
def U4 (p:Lp) (y:Nat->Rat):Prop:=(∀ r,r < p.m->0<=y r)∧(∀ k,k < p.v->sm p.m (λr=>y r*p.a r k)=0)∧sm p.m (λr=>y r*p.b r) < 0
def Ur (p:Lp) (x:Nat->Rat):Prop:=∀ r,r < p.m->sm p.v (λk=>p.a r k*x k)<=p.b r
def IsOpt (p:Lp) (x y:Nat->Rat) (z:Rat):Prop:=Ur p x∧(∀ r,r < p.m->0<=y r)∧(∀ k,k < p.v->sm p.m (λr=>y r*p.a r k)=p.g k)∧sm p.m (λr=>y r*p.b r)=z∧sm p.v (λk=>p.g k*x k)=z
def IsUnb (p:Lp) (x d:Nat->Rat):Prop:=Ur p x∧(∀ r,r < p.m->sm p.v (λk=>p.a r k*d k)<=0)∧0 < sm p.v λk=>p.g k*d k
def first_inf {F:Nat} {x:St×Option Nat} (hx:runP p.m p.n p.n F (prc p.m p.c1 p.s0)=some x) (hn:x.1.c p.n < 0):U4 p (λr=>x.1.c (2*p.v+r)):=by
 obtain⟨_,h2,h3,_⟩:=phase1 hx;obtain⟨d1,d2,d3⟩:=dual h2.i (λj h1 h2=>by unfold Lp.c1;rw[if_neg qo]);have z:∀ j,j < p.la->p.c1 j=0:=λj h=>by unfold Lp.c1;rw[if_neg qo]
 have zn:p.c1 p.n=0:=by unfold Lp.c1;rw[if_neg qo]
 refine⟨λr hr=>h3 _ (by unfold Lp.n;omega),λk hk=>?_,?_⟩
 ·have e1:=d1 k hk;have e2:=d2 k hk;have e3:=h3 k (by unfold Lp.n;omega);have e4:=h3 (p.v+k) (by unfold Lp.n;omega);rw[z _ (by unfold Lp.la;omega)] at e1 e2;grind
 ·rw[zn] at d3;grind
def second {F G:Nat} {x y:St×Option Nat} (hx:runP p.m p.n p.n F (prc p.m p.c1 p.s0)=some x) (hn:¬x.1.c p.n < 0) (hy:runP p.m p.n p.la G (prc p.m p.c2 (drP p.la x.1 p.m))=some y) :
  (y.2=none∧IsOpt p (xs p y.1) (λr=>y.1.c (2*p.v+r)) (sm p.v λk=>p.g k*xs p y.1 k))∨∃ col,y.2=some col∧IsUnb p (xs p y.1) (dr p y.1 col):=by
 obtain⟨_,h2,_,h4⟩:=phase1 hx;have hl:p.la<=p.n:=by unfold Lp.la Lp.n;omega
 obtain⟨k1,k2⟩:=HM (e:=p.n) hl h2 (h4 hn) p.m (Nat.le_refl _);have hk:Ok p.m p.n p.la p.A p.c2 (prc p.m p.c2 (drP p.la x.1 p.m)):=k1.prc p.c2;obtain⟨hok,hem⟩:=run_ind (P:=λs=>Ok p.m p.n p.la p.A p.c2 s∧Emp p.m p.n p.la s p.m) (λs s' h hs=>⟨h.1.stp hl hs,emp_stp (Nat.le_refl _) h.1 hl h.2 hs⟩) G _ y ⟨hk,k2⟩ hy;have hpt:Ur p (xs p y.1):=λr hr=>primal hok (λi hi hb=>(hem i hi hb).1) hr;rcases Gm G _ y hy with ⟨g1,g2⟩|⟨col,g1,g2,g3,g4⟩
 ·refine .inl ⟨g1,hpt,λr hr=>g2 _ (by unfold Lp.la;omega),λk hk=>?_,?_,rfl⟩
  ·obtain⟨d1,d2,_⟩:=dual hok.i (λj h1 h2=>by unfold Lp.c2 Lp.la at *;rw[if_neg qo,if_neg qo]);have e1:=d1 k hk;have e2:=d2 k hk;have e3:=g2 k (by unfold Lp.la;omega);have e4:=g2 (p.v+k) (by unfold Lp.la;omega);have z1:p.c2 k= -p.g k:=by unfold Lp.c2;rw[if_pos hk]
   have z2:p.c2 (p.v+k)=p.g k:=by unfold Lp.c2;rw[if_neg qo,if_pos qo,show p.v+k - p.v=k by omega]
   rw[z1] at e1;rw[z2] at e2;grind
  ·obtain⟨_,_,d3⟩:=dual hok.i (λj h1 h2=>by unfold Lp.c2 Lp.la at *;rw[if_neg qo,if_neg qo]);have z:p.c2 p.n=0:=by unfold Lp.c2 Lp.n;rw[if_neg qo,if_neg qo]
   rw[z,value hok.i] at d3;grind
 ·exact .inr ⟨col,g1,hpt,λr hr=>ray_line hok.i g2 (λi hi hb=>(hem i hi hb).2 hi col g2) g4 hr,ray_goal hok.i g2 g3⟩
end
end X
end
section
namespace X
section
variable {p:Lp}
def sm_swap {y x:Nat->Rat}:(sm p.v λk=>(sm p.m λr=>y r*p.a r k)*x k)=sm p.m λr=>y r*sm p.v λk=>p.a r k*x k:=by
 rw[show(sm p.v λk=>(sm p.m λr=>y r*p.a r k)*x k)=sm p.v λk=>sm p.m λr=>y r*(p.a r k*x k) from Qh λk _=>by
  rw[<-Xq];exact Qh λr _=>by grind]
 rw[Xn];exact Qh λr _=>JK _ _
def pt_le {x y:Nat->Rat} {h:Nat->Rat} (hx:Ur p x) (hy:∀ r,r < p.m->0<=y r) (hg:∀ k,k < p.v->sm p.m (λr=>y r*p.a r k)=h k):sm p.v (λk=>h k*x k)<=sm p.m λr=>y r*p.b r:=by
 rw[show(sm p.v λk=>h k*x k)=sm p.v λk=>(sm p.m λr=>y r*p.a r k)*x k from Qh λk hk=>by rw[hg k hk],sm_swap];refine sm_le λr hr=>?_;have h1:=Rat.mul_nonneg (hy r hr) (show 0<=p.b r - sm p.v (λk=>p.a r k*x k) by have:=hx r hr;grind);grind
def Yw {x y:Nat->Rat} (h:U4 p y):¬Ur p x:=λhx=>by
 have h1:=pt_le hx h.1 (h:=λ_=>0) h.2.1;rw[JX (λ_ _=>by grind)] at h1;have:=h.2.2;grind
end
end X
end
section
namespace Bl
open X
structure Vc where
 x:Rat
 y:Rat
structure Bd where
 c:Vc
 lo:Rat
 hi:Rat
 st:Rat
structure Tc where
 a:Int
 b:Int
 p:Vc
 q:Vc
 n:Vc
 r:Rat
structure Sc where
 n:Nat
 m:Nat
 B:Nat->Bd
 T:Nat->Tc
def Jw (a b:Vc):Rat:=a.x*b.y - a.y*b.x
def Q4 (a b:Vc):Vc:=⟨a.x - b.x,a.y - b.y⟩
def Sc.at (S:Sc) (k:Nat):Vc:=if k % 2=0 then(S.T (k / 2)).p else(S.T (k / 2)).q
def on (t:Tc) (i:Nat) (f:Vc):Vc:=if t.a=(i:Int) then f else if t.b=(i:Int) then⟨-f.x,-f.y⟩ else⟨0,0⟩
def turn (n:Vc):Vc:=⟨-n.y,n.x⟩
def frc (t:Tc) (u v:Rat):Vc:=⟨u*t.n.x - v*t.n.y,u*t.n.y+v*t.n.x⟩
def ab (a:Rat):Rat:=if a < 0 then -a else a
def spn (n:Vc):Rat:=ab n.x+ab n.y
def tch (t:Tc) (i:Nat):Prop:=t.a=(i:Int)∨t.b=(i:Int)
instance (t:Tc) (i:Nat):Decidable (tch t i):=by unfold tch;exact inferInstance
def Bal (S:Sc) (w:Nat->Rat) (u v:Nat->Rat):Prop:=
 (∀ k,k < 2*S.m->0<=u k∧v k<=(S.T (k / 2)).r*u k∧-v k<=(S.T (k / 2)).r*u k)∧
 ∀ i,i < S.n->sm (2*S.m) (λk=>(on (S.T (k / 2)) i (frc (S.T (k / 2)) (u k) (v k))).x)=0∧sm (2*S.m) (λk=>(on (S.T (k / 2)) i (frc (S.T (k / 2)) (u k) (v k))).y)=w i∧
  sm (2*S.m) (λk=>Jw (Q4 (S.at k) (S.B i).c) (on (S.T (k / 2)) i (frc (S.T (k / 2)) (u k) (v k))))=0∧
  sm (2*S.m) (λk=>if tch (S.T (k / 2)) i then spn (S.T (k / 2)).n*u k else 0)<=(S.B i).st
def dir (t:Tc) (j:Nat):Vc:=if j % 2=0 then t.n else turn t.n
def co3 (S:Sc) (i s j:Nat):Rat:=
 if s=0 then(on (S.T (j / 4)) i (dir (S.T (j / 4)) j)).x else if s=1 then(on (S.T (j / 4)) i (dir (S.T (j / 4)) j)).y
 else Jw (Q4 (S.at (j / 2)) (S.B i).c) (on (S.T (j / 4)) i (dir (S.T (j / 4)) j))
def sgq (s:Nat):Rat:=if s % 2=0 then 1 else -1
def coE (r:Rat) (k s j:Nat):Rat:=if j=2*k then(if s=0 then -1 else -r) else if j=2*k+1 then(if s=0 then 0 else if s=1 then 1 else -1) else 0
def coS (S:Sc) (i j:Nat):Rat:=if j % 2=0∧tch (S.T (j / 4)) i then spn (S.T (j / 4)).n else 0
def lp (S:Sc) (w:Nat->Rat):Lp where
 v:=4*S.m
 m:=6*S.n+6*S.m+S.n
 a r j:=if r < 6*S.n then co3 S (r / 6) (r % 6 / 2) j*sgq (r % 6) else if r < 6*S.n+6*S.m then coE (S.T ((r - 6*S.n) / 6)).r ((r - 6*S.n) / 3) ((r - 6*S.n) % 3) j else coS S (r - 6*S.n - 6*S.m) j
 b r:=if r < 6*S.n then(if r % 6 / 2=1 then w (r / 6)*sgq (r % 6) else 0) else if r < 6*S.n+6*S.m then 0 else(S.B (r - 6*S.n - 6*S.m)).st
 g _:=0
def UM (f:Nat->Rat):∀ n,sm (2*n) f=sm n λk=>f (2*k)+f (2*k+1)
 |0=>rfl
 |n+1=>by
  show sm (2*n+1+1) f=sm n _+_;rw[<-UM f n];show sm (2*n) f+f (2*n)+f (2*n+1)=_;grind
def on_lin (t:Tc) (i:Nat) (u v:Rat):(on t i (frc t u v)).x=(on t i t.n).x*u+(on t i (turn t.n)).x*v∧(on t i (frc t u v)).y=(on t i t.n).y*u+(on t i (turn t.n)).y*v:=by
 unfold on frc turn;split
 ·constructor <;> grind
 ·split <;> constructor <;> grind
section
variable {S:Sc} {w u v:Nat->Rat} {x:Nat->Rat}
def co3_pair (i s k:Nat):co3 S i s (2*k)*x (2*k)+co3 S i s (2*k+1)*x (2*k+1) =
  if s=0 then(on (S.T (k / 2)) i (frc (S.T (k / 2)) (x (2*k)) (x (2*k+1)))).x else if s=1 then(on (S.T (k / 2)) i (frc (S.T (k / 2)) (x (2*k)) (x (2*k+1)))).y
  else Jw (Q4 (S.at k) (S.B i).c) (on (S.T (k / 2)) i (frc (S.T (k / 2)) (x (2*k)) (x (2*k+1)))):=by
 have h:=on_lin (S.T (k / 2)) i (x (2*k)) (x (2*k+1));unfold co3 dir Jw;rw[show 2*k / 4=k / 2 by omega,show(2*k+1) / 4=k / 2 by omega,show 2*k / 2=k by omega,show(2*k+1) / 2=k by omega,if_pos (show 2*k % 2=0 by omega),if_neg (show ¬(2*k+1) % 2=0 by omega)];split
 ·rw[h.1]
 ·split
  ·rw[h.2]
  ·rw[h.1,h.2];grind
def sum3 (i s:Nat) (g:Rat):sm (4*S.m) (λj=>co3 S i s j*g*x j)=g*sm (2*S.m) λk=>if s=0 then(on (S.T (k / 2)) i (frc (S.T (k / 2)) (x (2*k)) (x (2*k+1)))).x else if s=1 then(on (S.T (k / 2)) i (frc (S.T (k / 2)) (x (2*k)) (x (2*k+1)))).y
  else Jw (Q4 (S.at k) (S.B i).c) (on (S.T (k / 2)) i (frc (S.T (k / 2)) (x (2*k)) (x (2*k+1)))):=by
 rw[show 4*S.m=2*(2*S.m) by omega,UM,<-JK];refine Qh λk _=>?_;rw[<-co3_pair];grind
def sumE {k s:Nat} {r:Rat} (hk:k < 2*S.m):sm (4*S.m) (λj=>coE r k s j*x j)=if s=0 then -x (2*k) else if s=1 then x (2*k+1) - r*x (2*k) else -x (2*k+1) - r*x (2*k):=by
 rw[show 4*S.m=2*(2*S.m) by omega,UM,JW hk]
 ·unfold coE;rw[if_pos rfl,if_neg (show ¬2*k+1=2*k by omega),if_pos rfl];split
  ·grind
  ·split <;> grind
 ·intro i _ hi;unfold coE;rw[if_neg qo,if_neg qo,if_neg qo,if_neg qo];grind
def sumS (i:Nat):sm (4*S.m) (λj=>coS S i j*x j)=sm (2*S.m) λk=>if tch (S.T (k / 2)) i then spn (S.T (k / 2)).n*x (2*k) else 0:=by
 rw[show 4*S.m=2*(2*S.m) by omega,UM];refine Qh λk _=>?_;unfold coS;rw[show 2*k / 4=k / 2 by omega];rw[if_neg (show ¬((2*k+1) % 2=0∧tch (S.T ((2*k+1) / 4)) i) from λh=>absurd h.1 qo)];by_cases c:tch (S.T (k / 2)) i
 ·rw[if_pos ⟨by omega,c⟩,if_pos c];grind
 ·rw[if_neg (λh=>c h.2),if_neg c];grind
def Xt:Ur (lp S w) x↔Bal S w (λk=>x (2*k)) (λk=>x (2*k+1)):=by
 have r3:∀ i s,i < S.n->s < 6->(sm (lp S w).v (λj=>(lp S w).a (6*i+s) j*x j)=sgq s*sm (2*S.m) λk=>if s / 2=0 then(on (S.T (k / 2)) i (frc (S.T (k / 2)) (x (2*k)) (x (2*k+1)))).x else if s / 2=1 then(on (S.T (k / 2)) i (frc (S.T (k / 2)) (x (2*k)) (x (2*k+1)))).y
  else Jw (Q4 (S.at k) (S.B i).c) (on (S.T (k / 2)) i (frc (S.T (k / 2)) (x (2*k)) (x (2*k+1)))))∧(lp S w).b (6*i+s)=if s / 2=1 then w i*sgq s else 0:=λi s hi hs=>by
  have h1:6*i+s < 6*S.n:=qo;have h2:(6*i+s) / 6=i:=qo;have h3:(6*i+s) % 6=s:=qo;constructor
  ·rw[<-sum3];refine Qh λj _=>?_;show(if 6*i+s < 6*S.n then _ else _)*_=_;rw[if_pos h1,h2,h3]
  ·show(if 6*i+s < 6*S.n then _ else _)=_;rw[if_pos h1,h2,h3]
 have rE:∀ k s,k < 2*S.m->s < 3->(sm (lp S w).v (λj=>(lp S w).a (6*S.n+(3*k+s)) j*x j)=if s=0 then -x (2*k) else if s=1 then x (2*k+1) - (S.T (k / 2)).r*x (2*k) else -x (2*k+1) - (S.T (k / 2)).r*x (2*k))∧(lp S w).b (6*S.n+(3*k+s))=0:=λk s hk hs=>by
  have h1:¬6*S.n+(3*k+s) < 6*S.n:=qo;have h2:6*S.n+(3*k+s) < 6*S.n+6*S.m:=qo;constructor
  ·rw[<-sumE hk];refine Qh λj _=>?_;show(if 6*S.n+(3*k+s) < 6*S.n then _ else if 6*S.n+(3*k+s) < 6*S.n+6*S.m then _ else _)*_=_;rw[if_neg h1,if_pos h2,show 6*S.n+(3*k+s) - 6*S.n=3*k+s by omega,show(3*k+s) / 6=k / 2 by omega,show(3*k+s) / 3=k by omega,show(3*k+s) % 3=s by omega]
  ·show(if 6*S.n+(3*k+s) < 6*S.n then _ else if 6*S.n+(3*k+s) < 6*S.n+6*S.m then _ else _)=_;rw[if_neg h1,if_pos h2]
 have rS:∀ i,i < S.n->(sm (lp S w).v (λj=>(lp S w).a (6*S.n+6*S.m+i) j*x j)=sm (2*S.m) λk=>if tch (S.T (k / 2)) i then spn (S.T (k / 2)).n*x (2*k) else 0)∧(lp S w).b (6*S.n+6*S.m+i)=(S.B i).st:=λi hi=>by
  have h1:¬6*S.n+6*S.m+i < 6*S.n:=qo;have h2:¬6*S.n+6*S.m+i < 6*S.n+6*S.m:=qo;constructor
  ·rw[<-sumS];refine Qh λj _=>?_;show(if 6*S.n+6*S.m+i < 6*S.n then _ else if 6*S.n+6*S.m+i < 6*S.n+6*S.m then _ else _)*_=_;rw[if_neg h1,if_neg h2,show 6*S.n+6*S.m+i - 6*S.n - 6*S.m=i by omega]
  ·show(if 6*S.n+6*S.m+i < 6*S.n then _ else if 6*S.n+6*S.m+i < 6*S.n+6*S.m then _ else _)=_;rw[if_neg h1,if_neg h2,show 6*S.n+6*S.m+i - 6*S.n - 6*S.m=i by omega]
 have hm:(lp S w).m=6*S.n+6*S.m+S.n:=rfl;constructor
 ·intro h;refine⟨λk hk=>?_,λi hi=>?_⟩
  ·have l:=λs (hs:s < 3)=>h (6*S.n+(3*k+s)) (by rw[hm];omega);have l0:=l 0 qd;rw[(rE k 0 hk qd).1,(rE k 0 hk qd).2] at l0;have l1:=l 1 qd;rw[(rE k 1 hk qd).1,(rE k 1 hk qd).2] at l1;have l2:=l 2 qd;rw[(rE k 2 hk qd).1,(rE k 2 hk qd).2] at l2;simp at l0 l1 l2;refine⟨?_,?_,?_⟩ <;> grind
  ·have l:=λs (hs:s < 6)=>h (6*i+s) (by rw[hm];omega);have l0:=l 0 qd;rw[(r3 i 0 hi qd).1,(r3 i 0 hi qd).2] at l0;have l1:=l 1 qd;rw[(r3 i 1 hi qd).1,(r3 i 1 hi qd).2] at l1;have l2:=l 2 qd;rw[(r3 i 2 hi qd).1,(r3 i 2 hi qd).2] at l2;have l3:=l 3 qd;rw[(r3 i 3 hi qd).1,(r3 i 3 hi qd).2] at l3;have l4:=l 4 qd;rw[(r3 i 4 hi qd).1,(r3 i 4 hi qd).2] at l4;have l5:=l 5 qd;rw[(r3 i 5 hi qd).1,(r3 i 5 hi qd).2] at l5;have ls:=h (6*S.n+6*S.m+i) (by rw[hm];omega);rw[(rS i hi).1,(rS i hi).2] at ls;simp[sgq] at l0 l1 l2 l3 l4 l5;refine⟨?_,?_,?_,ls⟩ <;> grind
 ·rintro⟨h1,h2⟩ r hr;rw[hm] at hr;by_cases c:r < 6*S.n
  ·obtain⟨i,s,rfl,hi,hs⟩:∃ i s,r=6*i+s∧i < S.n∧s < 6:=⟨r / 6,r % 6,by omega,by omega,by omega⟩
   obtain⟨b1,b2,b3,-⟩:=h2 i hi;rw[(r3 i s hi hs).1,(r3 i s hi hs).2];have:s=0∨s=1∨s=2∨s=3∨s=4∨s=5:=qo;rcases this with rfl|rfl|rfl|rfl|rfl|rfl <;> simp[sgq] <;> grind
  ·by_cases c2:r < 6*S.n+6*S.m
   ·obtain⟨k,s,rfl,hk,hs⟩:∃ k s,r=6*S.n+(3*k+s)∧k < 2*S.m∧s < 3:=⟨(r - 6*S.n) / 3,(r - 6*S.n) % 3,by omega,by omega,by omega⟩
    obtain⟨b1,b2,b3⟩:=h1 k hk;rw[(rE k s hk hs).1,(rE k s hk hs).2];have:s=0∨s=1∨s=2:=qo;rcases this with rfl|rfl|rfl <;> simp <;> grind
   ·obtain⟨i,rfl,hi⟩:∃ i,r=6*S.n+6*S.m+i∧i < S.n:=⟨r - 6*S.n - 6*S.m,by omega,by omega⟩
    rw[(rS i hi).1,(rS i hi).2];exact(h2 i hi).2.2.2
end
end Bl
end
section
namespace Bl
open X
def rle {a b:Rat} (h:a=b):a<=b:=h ▸ Rat.le_refl
section
variable {S S':Sc} {w w' u v u' v':Nat->Rat}
def Bal.congr (h:Bal S w u v) (hu:∀ k,k < 2*S.m->u k=u' k∧v k=v' k) (hw:∀ i,i < S.n->w i=w' i):Bal S w' u' v':=by
 refine⟨λk hk=>?_,λi hi=>?_⟩
 ·rw[<-(hu k hk).1,<-(hu k hk).2];exact h.1 k hk
 ·rw[<-hw i hi];have h2:=h.2 i hi;refine⟨?_,?_,?_,?_⟩
  ·rw[<-h2.1];exact Qh λk hk=>by rw[(hu k hk).1,(hu k hk).2]
  ·rw[<-h2.2.1];exact Qh λk hk=>by rw[(hu k hk).1,(hu k hk).2]
  ·rw[<-h2.2.2.1];exact Qh λk hk=>by rw[(hu k hk).1,(hu k hk).2]
  ·refine Rat.le_trans (rle ?_) h2.2.2.2;exact Qh λk hk=>by rw[(hu k hk).1]
end
def BdOk (b:Bd):Prop:=0 < b.lo∧b.lo<=b.hi∧0 < b.st
def Us (n:Nat) (t:Tc):Prop:=0<=t.a∧t.a < n∧-1<=t.b∧t.b < n∧t.a≠t.b∧0<=t.r∧¬(t.n.x=0∧t.n.y=0)∧t.n.x*(t.q.x - t.p.x)+t.n.y*(t.q.y - t.p.y)=0
structure Sc.ok (S:Sc):Prop where
 n:S.n<=5
 m:S.m<=10
 B:∀ i,i < S.n->BdOk (S.B i)
 T:∀ j,j < S.m->Us S.n (S.T j)
def Sc.wt (S:Sc) (c i:Nat):Rat:=if c / 2 ^ i % 2=1 then(S.B i).hi else(S.B i).lo
end Bl
end
section
def Fr (D A:Nat) (q:Rat):Prop:=∃ a:Int,q*(D:Rat)=(a:Rat)∧a.natAbs<=A
section
variable {D E A B:Nat} {p q:Rat}
def Fr.up (h:Fr D A q) (hA:A<=B):Fr D B q:=by
 obtain⟨a,h1,h2⟩:=h;exact⟨a,h1,Nat.le_trans h2 hA⟩
def Fr.mkr (h:Fr D A q) (hD:D≠0):∃ a:Int,q=mkRat a D∧a.natAbs<=A:=by
 obtain⟨a,h1,h2⟩:=h;refine⟨a,?_,h2⟩;have hD':(D:Rat)≠0:=by exact_mod_cast hD
 rw[Rat.mkRat_eq_div,<-h1,Rat.div_def,Rat.mul_assoc,Rat.mul_inv_cancel _ hD',Rat.mul_one]
def Fr.of {a:Int} {D:Nat} (hD:D≠0) (h:a.natAbs<=A):Fr D A (Rat.divInt a D):=by
 refine⟨a,?_,h⟩;have hD':(D:Rat)≠0:=by exact_mod_cast hD
 rw[Rat.divInt_ofNat,Rat.mkRat_eq_div,Rat.div_def,Rat.mul_assoc,Rat.inv_mul_cancel _ hD',Rat.mul_one]
def Fr.int (a:Int) (h:a.natAbs<=A):Fr 1 A (a:Rat):=⟨a,by grind,h⟩
def Fr.sc (c:Nat) (h:Fr D A q):Fr (D*c) (A*c) q:=by
 obtain⟨a,h1,h2⟩:=h;refine⟨a*c,?_,?_⟩
 ·rw[Rat.natCast_mul,Rat.intCast_mul,<-Rat.mul_assoc,h1];rfl
 ·rw[Int.natAbs_mul];exact Nat.mul_le_mul_right _ h2
def Fr.sc' {c:Nat} (h:Fr D A q) (hE:D*c=E) (hB:A*c<=B):Fr E B q:=hE ▸ (h.sc c).up hB
def Fr.add (h1:Fr D A p) (h2:Fr D B q):Fr D (A+B) (p+q):=by
 obtain⟨a,h1,h3⟩:=h1;obtain⟨b,h2,h4⟩:=h2;exact⟨a+b,by rw[Rat.intCast_add,Rat.add_mul,h1,h2],by omega⟩
def Fr.neg (h1:Fr D A p):Fr D A (-p):=by
 obtain⟨a,h1,h3⟩:=h1;exact⟨-a,by rw[Rat.intCast_neg,Rat.neg_mul,h1],by omega⟩
def Fr.sub (h1:Fr D A p) (h2:Fr D B q):Fr D (A+B) (p - q):=by
 rw[Rat.sub_eq_add_neg];exact h1.add h2.neg
def Fr.mul (h1:Fr D A p) (h2:Fr E B q):Fr (D*E) (A*B) (p*q):=by
 obtain⟨a,h1,h3⟩:=h1;obtain⟨b,h2,h4⟩:=h2;refine⟨a*b,?_,?_⟩
 ·rw[Rat.natCast_mul,Rat.intCast_mul,<-h1,<-h2];grind
 ·rw[Int.natAbs_mul];exact Nat.mul_le_mul h3 h4
def Fr.zero:Fr D A 0:=⟨0,by grind,Nat.zero_le _⟩
end
def Fv (D A:Nat) (a:Bl.Vc):Prop:=Fr D A a.x∧Fr D A a.y
namespace Bl
open X
structure Fs (D A:Nat) (S:Sc):Prop where
 B:∀ i,i < S.n->Fv D A (S.B i).c∧Fr D A (S.B i).lo∧Fr D A (S.B i).hi∧Fr D A (S.B i).st
 T:∀ j,j < S.m->Fv D A (S.T j).p∧Fv D A (S.T j).q∧Fv D A (S.T j).n∧Fr D A (S.T j).r
def Sat (S:Sc) (c:Nat):Prop:=∃ x,Ur (lp S (S.wt c)) x
end Bl
end
section
open Go.RowKit
open Go.Conc hiding base G
open Go.ConcN (sumTo sumTo_upd upd_ne upd_same)
namespace W
structure Frm (P:Program) (sh own:Bk) (gs:Array Goroutine) (w:World) (t:Trace) (q:Nat->Nat) (Shun:Loc->Prop):Prop where
 leav:Leavers P t gs q
 ct:Go.ConcN.CT Shun (λ_ _=>False) (λ_ _=>False) t (gs.size - 1)
 over:t.HandedOver
 hears:Deaf t 0=0
 seen:∀ op∈t,op.act.low w.heap.size
 shun:∀ l,Shun l->∃ a,l=.cell a∧a.block < w.heap.size∧¬own a.block∧¬sh a.block
 lt:∀ k,own k∨sh k->k < w.heap.size
def Frm.past {P:Program} {sh own:Bk} {gs:Array Goroutine} {w:World} {t:Trace} {q:Nat->Nat} {Shun:Loc->Prop} (h:Frm P sh own gs w t q Shun):Past Shun w.heap.size t:=by
 refine⟨h.ct.nr,λi a ha _=>?_,h.over,h.hears,h.seen⟩;by_cases hs:Shun a.loc
 ·obtain⟨x,hx,hxa⟩:=touch_of ha;obtain⟨h1,h2⟩:=h.ct.quiet i x a hx hxa hs;cases hk:a.kind with
  |plain=>exact absurd hk h1
  |atomic=>exact .inr ⟨hs,rfl⟩
  |said=>
   have:=knows_own hx;rw[h2 hk] at this;exact .inl this
 ·exact .inl (h.ct.free a.loc hs (λ_ _ _=>⟨λh=>h,λh=>h⟩) i a ha rfl)
def noApart (Shun:Loc->Prop):Go.ConcN.Apart Shun (λ_ _=>False) (λ_ _=>False):=⟨λ_ _ _ h=>h.elim,λ_ _ _ h=>h.elim,λ_ _ h=>h.elim,λ_ _ h=>h.elim⟩
def Stk (P:Program) (sh own:Bk) (g:Goroutine) (w:World) (K:Bk->Goroutine->World->Prop):Prop:=
 ∀ gs sl t q Shun,gs[0]?=some g->Frm P sh own gs w t q Shun->
  ∃ N gs' g' w' sl' t' q' Shun' own',runNT P N (crowd gs w sl) t=(.next (crowd gs' w' sl'),t')∧gs'[0]?=some g'∧Frm P sh own' gs' w' t' q' Shun'∧K own' g' w'
def mainMd (P:Program):Md:=⟨true,λ_=>True,λ_ _ _ _ _ _=>False,Stk P,λ_=>False⟩
def VK {P:Program} {m m' m'':Machine} {t t' t'':Trace} {N K:Nat} (h:runNT P N m t=(.next m',t')) (hk:runNT P K m' t'=(.next m'',t'')):runNT P (N+K) m t=(.next m'',t''):=by
 rw[runNT_add,h];exact hk
def Rly.at (own sh:Bk) (w:World) (d:Nat):Rly own sh w (w.at d):=⟨⟨rfl,rfl,rfl⟩,Nat.le_refl _,λ_ _ _=>rfl⟩
def evL_of {own sh:Bk} {Shun:Loc->Prop} {B:Nat} {e:Event} (h:X0 own sh e) (hl:∀ k,own k∨sh k->k < B) (hs:∀ a:Addr,own a.block∨sh a.block->¬Shun (.cell a)) (hso:∀ r,¬Shun (.obj r)):(∀ x,(MemAct.ofEvent e).touch?=some x->¬Shun x.loc)∧e.loc≠.mark .disable∧e.loc≠.mark .enable∧(MemAct.ofEvent e).low B:=by
 rcases h with ⟨a,hl',ho⟩|⟨m,rfl,hn⟩|⟨r,hl',ho⟩
 ·obtain⟨loc,wr,sy⟩:=e;simp only at hl';subst hl';have ho':own a.block∨sh a.block:=ho.imp id And.left;refine⟨λx hx hsx=>?_,by simp,by simp,?_⟩
  ·have:x.loc=.cell a:=by
    cases wr <;> cases sy <;> simp[MemAct.ofEvent,MemAct.touch?] at hx <;> subst hx <;> rfl
   rw[this] at hsx;exact hs a ho' hsx
  ·exact hl _ ho'
 ·refine⟨λx hx _=>?_,by simpa using hn.ne_disable,by simpa using hn.ne_enable,?_⟩
  ·have:(MemAct.mark m).touch?=some x:=hx;rw[hn.touch] at this;cases this
  ·unfold Go.Conc.Neutral at hn;subst hn;trivial
 ·obtain⟨loc,wr,sy⟩:=e;simp only at hl';subst hl';refine⟨λx hx hsx=>?_,by simp,by simp,?_⟩
  ·have:x.loc=.obj r:=by
    cases wr <;> cases sy <;> simp[MemAct.ofEvent,MemAct.touch?] at hx <;> subst hx <;> rfl
   rw[this] at hsx;exact hso r hsx
  ·have:=hl _ (.inl ho);cases wr <;> cases sy <;> exact this
section
variable {P:Program} {sh own:Bk} {Shun:Loc->Prop} {g:Goroutine}
def evL_weak {Shun:Loc->Prop} {B:Nat} {e:Event} (h:(∀ x,(MemAct.ofEvent e).touch?=some x->¬Shun x.loc)∧e.loc≠.mark .disable∧e.loc≠.mark .enable∧(MemAct.ofEvent e).low B):EvL Shun B e:=⟨λx hx hs=>absurd hs (h.1 x hx),h.2⟩
def Frm.at {gs:Array Goroutine} {w:World} {t:Trace} {q:Nat->Nat} (h:Frm P sh own gs w t q Shun) (d:Nat):Frm P sh own gs (w.at d) t q Shun:=⟨h.leav,h.ct,h.over,h.hears,h.seen,h.shun,h.lt⟩
def Frm.awake {gs:Array Goroutine} {w:World} {t:Trace} {q:Nat->Nat} (h:Frm P sh own gs w t q Shun) (h0:gs[0]?=some g) (hrun:g.status=.running):∀ x∈gs,awake x:=by
 intro x hx;obtain⟨i,hi,rfl⟩:=Array.mem_iff_getElem.1 hx;rcases Nat.eq_zero_or_pos i with rfl|hpos
 ·have:gs[0]=g:=by simpa [Array.getElem?_eq_getElem hi] using h0
  rw[this];exact awake_of (.inl hrun)
 ·exact awake_of ((h.leav.old i _ hpos (Array.getElem?_eq_getElem hi)).status.elim .inl λy=>.inr (.inr y))
def Frm.slip {gs:Array Goroutine} {w:World} {t:Trace} {q:Nat->Nat} {sl:Option (Nat×Nat)} (h:Frm P sh own gs w t q Shun) (h0:gs[0]?=some g) (hrun:g.status=.running) {i:Nat} {x:Goroutine} (hpos:0 < i) (hi:gs[i]?=some x) (hx:x.status=.running) :
  ∃ gs' q' ops,runT P (crowd gs w sl) i=(.next (crowd gs' w sl),ops)∧gs'.size=gs.size∧gs'[0]?=some g∧Frm P sh own gs' w (t++ops) q' Shun∧sumTo gs.size q' < sumTo gs.size q:=by
 have hq:=h.leav.old i x hpos hi;have hi0:(i == 0)=false:=by simp;omega
 have hlt:i < gs.size:=(Array.getElem?_eq_some_iff.1 hi).1;cases hqi:q i with
 |zero=>rw[hqi] at hq;rw[hq.1] at hx;cases hx
 |succ k=>
  rw[hqi] at hq;rcases hq with ⟨hf,_⟩|⟨_,g',es,hm,hstp,hq'⟩
  ·rw[hf] at hx;cases hx
  have hrunT:=runT_crowd_go (P:=P) (w:=w) (sl:=sl) (i:=i) hi (by rw[hi0];exact hstp w)
  have hsum:sumTo gs.size (Go.ConcN.upd q i k)+(k+1)=sumTo gs.size q+k:=by
   have:=sumTo_upd q k id hlt;simpa [hqi] using this
  refine⟨_,Go.ConcN.upd q i k,_,hrunT,by simp,?_,⟨⟨λj y hj hy=>?_,λj hj=>?_⟩,?_,handedOver_app h.over λop hop=>.inr (by obtain⟨e,he,rfl⟩:=Go.Conc.mem_ofEvents hop;exact touch_mute (hm e he)),(Deaf_other t (g:=0) (g':=i) qo _ (λop hop=>by obtain⟨e,_,rfl⟩:=Go.Conc.mem_ofEvents hop;rfl)).trans h.hears,
   seen_app h.seen λop hop=>by obtain⟨e,he,rfl⟩:=Go.Conc.mem_ofEvents hop;exact low_mute (hm e he) _,h.shun,h.lt⟩,by omega⟩
  ·have hne:i≠0:=qo;rw[Array.getElem?_setIfInBounds_ne hne,Array.getElem?_map,h0];simp[woken_run hrun]
  ·by_cases hji:i=j
   ·subst hji;rw[Array.getElem?_setIfInBounds_self_of_lt (by simpa using hlt)] at hy;obtain rfl:=Option.some.inj hy;rw[upd_same,Deaf_own];exact hq'
   ·rw[Array.getElem?_setIfInBounds_ne hji,Array.getElem?_map] at hy;obtain⟨z,hz,rfl⟩:=Option.map_eq_some_iff.1 hy;have hqj:=h.leav.old j z hj hz;rw[woken_quitsD hqj,upd_ne q k (Ne.symm hji),Deaf_other t hji _ (λop hop=>by obtain⟨e,_,rfl⟩:=Go.Conc.mem_ofEvents hop;rfl)];exact hqj
  ·rw[Deaf_other t (g':=i) (by simp at hj;omega) _ (λop hop=>by obtain⟨e,_,rfl⟩:=Go.Conc.mem_ofEvents hop;rfl)];exact h.leav.above j (by simpa using hj)
  ·have:=h.ct.appW (noApart Shun) (k:=i) qo qo (u:=MemOp.ofEvents i x.frame.fn x.frame.place es) λop hop=>by
    obtain⟨e,he,rfl⟩:=Go.Conc.mem_ofEvents hop;exact⟨rfl,λy hy=>by rw[touch_mute (hm e he)] at hy;cases hy⟩
   simpa using this
def Frm.own0 {gs:Array Goroutine} {w w':World} {t:Trace} {q:Nat->Nat} {sl:Option (Nat×Nat)} (h:Frm P sh own gs w t q Shun) (h0:gs[0]?=some g) {g':Goroutine} {es:Array Event} (hgo:stepG P true g w=.go g' w' es) (hG:XH own sh w w' es) :
  ∃ gs' ops,runT P (crowd gs w sl) 0=(.next (crowd gs' w' sl),ops)∧gs'.size=gs.size∧gs'[0]?=some g'∧Frm P sh (grow own w w') gs' w' (t++ops) q Shun:=by
 have hrunT:=runT_crowd_go (P:=P) (sl:=sl) (i:=0) h0 (show stepG P (0 == 0) g w=_ from hgo);have hlt:0 < gs.size:=(Array.getElem?_eq_some_iff.1 h0).1
 have hlt':∀ k,grow own w w' k∨sh k->k < w'.heap.size:=λk hk=>by
  rcases hk with (hk|hk)|hk
  ·exact Nat.lt_of_lt_of_le (h.lt k (.inl hk)) hG.size
  ·exact hk.2
  ·exact Nat.lt_of_lt_of_le (h.lt k (.inr hk)) hG.size
 have hev:∀ e∈es,(∀ x,(MemAct.ofEvent e).touch?=some x->¬Shun x.loc)∧e.loc≠.mark .disable∧e.loc≠.mark .enable∧(MemAct.ofEvent e).low w'.heap.size:=λe he=>by
  refine evL_of (hG.evs e he) hlt' (λa ha hs=>?_) λr hr=>by obtain⟨a,h1,_⟩:=h.shun _ hr;cases h1
  obtain⟨b,hb,h1,h2,h3⟩:=h.shun _ hs;cases hb;rcases ha with (ha|ha)|ha
  ·exact h2 ha
  ·omega
  ·exact h3 ha
 refine⟨_,_,hrunT,by simp,by simp[hlt],⟨⟨λj x hj hx=>?_,λj hj=>?_⟩,?_,handedOver_app h.over λop hop=>.inl (by obtain⟨e,he,rfl⟩:=Go.Conc.mem_ofEvents hop;rfl),?_,seen_app (λop hop=>MemAct.low_mono hG.size (h.seen op hop)) λop hop=>by obtain⟨e,he,rfl⟩:=Go.Conc.mem_ofEvents hop;exact(hev e he).2.2.2,λl hl=>?_,hlt'⟩⟩
 ·have hne:0≠j:=qo;rw[Array.getElem?_setIfInBounds_ne hne,Array.getElem?_map] at hx;obtain⟨y,hy,rfl⟩:=Option.map_eq_some_iff.1 hx;have hq:=h.leav.old j y hj hy;rw[woken_quitsD hq,Deaf_other t qo _ (λop hop=>by obtain⟨e,_,rfl⟩:=Go.Conc.mem_ofEvents hop;rfl)];exact hq
 ·rw[Deaf_other t (g':=0) (by simp at hj;omega) _ (λop hop=>by obtain⟨e,_,rfl⟩:=Go.Conc.mem_ofEvents hop;rfl)];exact h.leav.above j (by simpa using hj)
 ·have:=h.ct.app0 (noApart Shun) (u:=MemOp.ofEvents 0 g.frame.fn g.frame.place es) λop hop=>by
   obtain⟨e,he,rfl⟩:=Go.Conc.mem_ofEvents hop;exact⟨rfl,λy hy=>.inr ⟨(hev e he).1 y hy,λ_ _ _ h=>h,λ_ _ _ _ h=>h⟩⟩
  simpa using this
 ·rw[Deaf_own,deafBehind_still (λe he=>⟨(hev e he).2.1,(hev e he).2.2.1⟩)];exact h.hears
 ·obtain⟨a,rfl,h1,h2,h3⟩:=h.shun l hl;exact⟨a,rfl,Nat.lt_of_lt_of_le h1 hG.size,λhk=>hk.elim h2 λhk=>by omega,h3⟩
def step_beside (hrun:g.status=.running):∀ (M:Nat) (gs:Array Goroutine) (w:World) (sl:Option (Nat×Nat)) (t:Trace) (q:Nat->Nat),sumTo gs.size q<=M->gs[0]?=some g->Frm P sh own gs w t q Shun->
  (∀ d,∃ g' w' es,stepG P true g (w.at d)=.go g' w' es∧XH own sh (w.at d) w' es)->
  ∃ N d g' w' es gs' sl' t' q',stepG P true g (w.at d)=.go g' w' es∧XH own sh (w.at d) w' es∧runNT P N (crowd gs w sl) t=(.next (crowd gs' w' sl'),t')∧gs'[0]?=some g'∧Frm P sh (grow own (w.at d) w') gs' w' t' q' Shun:=by
 intro M;induction M with
 |zero=>
  intro gs w sl t q hM h0 hF hst;obtain⟨i,x,d,sl',hi,hx,hstp⟩:=crowd_pick (P:=P) (w:=w) (sl:=sl) (hF.awake h0 hrun) ⟨0,g,h0,hrun⟩;rcases Nat.eq_zero_or_pos i with rfl|hpos
  ·obtain⟨g',w',es,hgo,hG⟩:=hst d;obtain⟨gs',ops,h1,_,h2,h3⟩:=(hF.at d).own0 (sl:=sl') h0 hgo hG;exact⟨1,d,g',w',es,gs',sl',_,q,hgo,hG,by simp only[runNT,hstp,h1],h2,h3⟩
  ·obtain⟨gs',q',ops,h1,h2,h3,h4,h5⟩:=(hF.at d).slip (sl:=sl') h0 hrun hpos hi hx;omega
 |succ M ih=>
  intro gs w sl t q hM h0 hF hst;obtain⟨i,x,d,sl',hi,hx,hstp⟩:=crowd_pick (P:=P) (w:=w) (sl:=sl) (hF.awake h0 hrun) ⟨0,g,h0,hrun⟩;rcases Nat.eq_zero_or_pos i with rfl|hpos
  ·obtain⟨g',w',es,hgo,hG⟩:=hst d;obtain⟨gs',ops,h1,_,h2,h3⟩:=(hF.at d).own0 (sl:=sl') h0 hgo hG;exact⟨1,d,g',w',es,gs',sl',_,q,hgo,hG,by simp only[runNT,hstp,h1],h2,h3⟩
  ·obtain⟨gs',q',ops,h1,h2,h3,h4,h5⟩:=(hF.at d).slip (sl:=sl') h0 hrun hpos hi hx;obtain⟨N,d2,g',w',es,gs2,sl2,t2,q2,e1,e2,e3,e4,e5⟩:=ih gs' (w.at d) sl' (t++ops) q' (by rw[h2];omega) h3 h4 hst;refine⟨N+1,d2,g',w',es,gs2,sl2,t2,q2,e1,e2,?_,e4,e5⟩;simp only[runNT,hstp,h1];exact e3
end
def run_main {P:Program} {sh:Bk} {Stop:Bk->Goroutine->World->Prop} {own:Bk} {g:Goroutine} {w:World} (h:Run P (mainMd P) sh Stop own g w) :
  ∀ gs sl t q Shun,gs[0]?=some g->Frm P sh own gs w t q Shun->
   ∃ N gs' g' w' sl' t' q' Shun' own',runNT P N (crowd gs w sl) t=(.next (crowd gs' w' sl'),t')∧gs'[0]?=some g'∧Frm P sh own' gs' w' t' q' Shun'∧∀ w1,Rly own' sh w' w1->Stop own' g' w1:=by
 induction h with
 |stop h=>intro gs sl t q Shun h0 hF;exact⟨0,gs,_,_,sl,t,q,Shun,_,rfl,h0,hF,h⟩
 |@step own g w g' w' es own' h1 h2 h3 ih=>
  intro gs sl t q Shun h0 hF;obtain⟨N,d,g1,w1,es1,gs1,sl1,t1,q1,e1,e2,e3,e4,e5⟩:=step_beside h1 (sumTo gs.size q) gs w sl t q (Nat.le_refl _) h0 hF λd=>let h:=h2 _ (Rly.at own sh w d) trivial;⟨_,_,_,h.1,h.2.elim And.left False.elim⟩;obtain⟨e6,e8⟩:=h2 _ (Rly.at own sh w d) trivial;have e8:=e8.elim And.right False.elim
  have e7:g1=g' (w.at d)∧w1=w' (w.at d):=by
   have:=e1.symm.trans e6;injection this with a b
   exact⟨a,b⟩
  obtain⟨rfl,rfl⟩:=e7;obtain⟨K,gs2,g2,w2,sl2,t2,q2,S2,own2,k1,k2,k3,k4⟩:=ih _ (Rly.at own sh w d) trivial gs1 sl1 t1 q1 Shun e4 (by rw[e8];exact e5);exact⟨N+K,gs2,g2,w2,sl2,t2,q2,S2,own2,VK e3 k1,k2,k3,k4⟩
 |@stroke own g w K h1 h2 h3 ih=>
  intro gs sl t q Shun h0 hF;obtain⟨N,gs1,g1,w1,sl1,t1,q1,S1,XE,e1,e2,e3,e4⟩:=h2 w (.refl _ _ _) gs sl t q Shun h0 hF;obtain⟨N2,gs2,g2,w2,sl2,t2,q2,S2,own2,k1,k2,k3,k4⟩:=ih XE g1 w1 e4 gs1 sl1 t1 q1 S1 e2 e3;exact⟨N+N2,gs2,g2,w2,sl2,t2,q2,S2,own2,VK e1 k1,k2,k3,k4⟩
def HU (P:Program) (sh:Bk) (Post:Value->World->Prop) (own:Bk) (g:Goroutine) (w:World):Prop:=
 g.status=.running∧∃ v es,stepG P true g w=.ended (.done v) w es∧(∀ e∈es,X0 own sh e)∧Post v w
def KQ {P:Program} {sh:Bk} {Post:Value->World->Prop} {own:Bk} {g:Goroutine} {w:World} (h:Run P (mainMd P) sh (HU P sh Post) own g w)
  {gs:Array Goroutine} {sl:Option (Nat×Nat)} {t:Trace} {q:Nat->Nat} {Shun:Loc->Prop} (h0:gs[0]?=some g) (hF:Frm P sh own gs w t q Shun) :
  ∃ N last o w' t',runNT P (N+1) (crowd gs w sl) t=(.ended o w',t')∧runN P N (crowd gs w sl)=.next last∧step P last=.ended o w'∧Go.Conc.Good P Post last o w' t':=by
 obtain⟨N,gs1,g1,w1,sl1,t1,q1,S1,XE,e1,e2,e3,e4⟩:=run_main h gs sl t q Shun h0 hF
 obtain⟨K,last,o,w',t',k1,k2,k3,k4⟩:=beside_ends (P:=P) (Shun:=S1) (B:=w1.heap.size) (D:=λ_ _ es=>∀ e∈es,EvL S1 w1.heap.size e) (Post:=Post) (sl:=sl1) (n:=0) (λ_ _ _ h=>h) e2 e3.leav e3.past (by
  rintro w2 ⟨d,rfl⟩;obtain⟨h1,v,es,h2,h3,h4⟩:=e4 _ (Rly.at XE sh w1 d);refine⟨h1,v,es,h2,λe he=>evL_weak (evL_of (h3 e he) e3.lt (λa ha hs=>?_) λr hr=>by obtain⟨a,c1,_⟩:=e3.shun _ hr;cases c1),h4⟩;obtain⟨b,hb,c1,c2,c3⟩:=e3.shun _ hs;cases hb;exact ha.elim c2 c3)
 refine⟨N+K,last,o,w',t',?_,?_,k3,k4⟩
 ·rw[Nat.add_assoc,runNT_add,e1];exact k1
 ·rw[runN_add,<-runNT_fst P _ _ t,e1];exact k2
end W
end
section
open Go.RowKit
open Go.Conc hiding base G
namespace W
inductive Tr:Type where
 |leaf
 |node (f:World->Tr)
inductive Tr.lt:Tr->Tr->Prop where
 |mk (f:World->Tr) (w:World):Tr.lt (f w) (.node f)
def Tr.acc:∀ t:Tr,Acc Tr.lt t
 |.leaf=>⟨_,λy h=>by cases h⟩
 |.node f=>⟨_,λy h=>by cases h with|mk _ w=>exact Tr.acc (f w)⟩
def Dn (n:Nat) (F' F:Nat->Tr):Prop:=∃ i,i < n∧Tr.lt (F' i) (F i)∧∀ k,k≠i->F' k=F k
def Dn.acc:∀ (n:Nat) (F:Nat->Tr),Acc (Dn n) F
 |0,F=>⟨_,λF' ⟨i,h,_⟩=>by omega⟩
 |n+1,F=>by
  have key:∀ t:Tr,∀ F:Nat->Tr,F n=t->Acc (Dn (n+1)) F:=by
   intro t;induction Tr.acc t with
   |intro t _ ih=>
    intro F;induction Dn.acc n F with
    |intro F _ ih2=>
     intro hF;refine⟨_,λF' hd=>?_⟩;obtain⟨i,hi,hlt,hsame⟩:=hd;by_cases h:i=n
     ·subst h;exact ih (F' i) (hF ▸ hlt) F' rfl
     ·exact ih2 F' ⟨i,by omega,hlt,hsame⟩ (by rw[hsame n (Ne.symm h)];exact hF)
  exact key _ F rfl
def Dn.upd {n i:Nat} {F:Nat->Tr} {t:Tr} (hi:i < n) (h:Tr.lt t (F i)):Dn n (Go.ConcN.upd F i t) F:=⟨i,hi,by rw[Go.ConcN.upd_same];exact h,λk hk=>Go.ConcN.upd_ne F t hk⟩
section
variable (P:Program) (main:Md) (sh:Bk) (Stop:Bk->Goroutine->World->Prop)
inductive RunT:Tr->Bk->Goroutine->World->Prop where
 |stop {own:Bk} {g:Goroutine} {w:World}:(∀ w1,Rly own sh w w1->Stop own g w1)->RunT .leaf own g w
 |step {own:Bk} {g:Goroutine} {w:World} (f:World->Tr) (g':World->Goroutine) (w':World->World) (es:World->Array Event) (own':World->Bk):g.status=.running->
   (∀ w1,Rly own sh w w1->main.inv w1->stepG P main.b g w1=.go (g' w1) (w' w1) (es w1)∧Fair main sh own w1 (w' w1) (es w1) (own' w1))->
   (∀ w1,Rly own sh w w1->main.inv w1->RunT (f w1) (own' w1) (g' w1) (w' w1))->RunT (.node f) own g w
end
section
variable {P:Program} {main:Md} {sh:Bk} {Stop Stop':Bk->Goroutine->World->Prop} {own:Bk} {g:Goroutine} {w w1:World}
def Run.tree (hm:∀ sh own g w K,¬main.Sp sh own g w K) (h:Run P main sh Stop own g w):∃ t,RunT P main sh Stop t own g w:=by
 classical
 induction h with
 |stop h=>exact⟨_,.stop h⟩
 |@step own g w g' w' es own' h1 h2 h3 ih=>
  have ih':∀ w1,Rly own sh w w1∧main.inv w1->∃ t,RunT P main sh Stop t (own' w1) (g' w1) (w' w1):=λw1 h=>ih w1 h.1 h.2;refine⟨_,.step (λw1=>if hx:Rly own sh w w1∧main.inv w1 then(ih' w1 hx).choose else .leaf) g' w' es own' h1 h2 λw1 k1 k2=>?_⟩;rw[dif_pos (show Rly own sh w w1∧main.inv w1 from⟨k1,k2⟩)];exact(ih' w1 ⟨k1,k2⟩).choose_spec
 |stroke K h1 h2 h3 ih=>exact absurd (h2 _ (Rly.refl _ _ _)) (hm _ _ _ _ _)
def RunT.rely {t:Tr} (h:RunT P main sh Stop t own g w) (hr:Rly own sh w w1):RunT P main sh Stop t own g w1:=by
 cases h with
 |stop h=>exact .stop λw2 h2=>h w2 (hr.trans h2)
 |step f g' w' es own' h1 h2 h3=>exact .step f g' w' es own' h1 (λw2 h=>h2 w2 (hr.trans h)) λw2 h=>h3 w2 (hr.trans h)
def Run.bind (h:Run P main sh Stop own g w) (hk:∀ own g w,Stop own g w->Run P main sh Stop' own g w):Run P main sh Stop' own g w:=by
 induction h with
 |stop h=>exact hk _ _ _ (h _ (Rly.refl _ _ _))
 |step g' w' es own' h1 h2 _ ih=>exact .step g' w' es own' h1 h2 ih
 |stroke K h1 h2 _ ih=>exact .stroke K h1 h2 ih
end
end W
end
section
open Go.RowKit
open Go.Conc hiding base G
open Go.ConcN (CT PermW Apart Ok0 OkW RelBy ShN)
namespace W
def NT (t:Trace) (l:Loc):Prop:=∀ i a,touchAt t i=some a->a.loc≠l
def Hn {B:Nat} {x:MemAct} {a:Touch} (h:x.low B) (ha:x.touch?=some a):a.loc.low B:=by
 cases x with
 |access e=>simp only[MemAct.touch?,Option.some.injEq] at ha;subst ha;exact h
 |mark m=>cases m <;> simp[MemAct.touch?] at ha <;> subst ha <;> exact h
 |_=>simp[MemAct.touch?] at ha
def NT.cell {t:Trace} {B:Nat} (h:∀ op∈t,op.act.low B) {a:Addr} (ha:B<=a.block):NT t (.cell a):=λi x hx e=>by
 obtain⟨op,ho,hox⟩:=touch_of hx;have:=Hn (h op (Array.mem_of_getElem? ho)) hox;rw[e] at this;exact absurd this (by show ¬a.block < B;omega)
def NT.obj {t:Trace} {B:Nat} (h:∀ op∈t,op.act.low B) {r:Nat} (hr:B<=r):NT t (.obj r):=λi x hx e=>by
 obtain⟨op,ho,hox⟩:=touch_of hx;have:=Hn (h op (Array.mem_of_getElem? ho)) hox;rw[e] at this;exact absurd this (by show ¬r < B;omega)
def NT.perm {t:Trace} {l:Loc} (h:NT t l) (g:Nat):Perm t g l:=λi a ha e=>absurd e (h i a ha)
def UU {Sh Sh':Loc->Prop} {Own Own' Rd Rd':Nat->Loc->Prop} {t:Trace} {j:Nat} (h:CT Sh Own Rd t j) (hs:∀ l,Sh' l->Sh l∨NT t l) (hs2:∀ l,Sh l->Sh' l)
  (ho:∀ k,1<=k->k<=j->∀ l,Own' k l->Own k l∨NT t l) (ho2:∀ k,1<=k->k<=j->∀ l,Own k l->Own' k l) (hr:∀ k,1<=k->k<=j->∀ l,Rd' k l↔Rd k l):CT Sh' Own' Rd' t j:=by
 refine⟨λi op x hi hx hsx=>?_,λk k1 kj l hl=>(ho k k1 kj l hl).elim (h.own k k1 kj l) λx=>x.perm _,λk k1 kj l hl=>h.rd k k1 kj l ((hr k k1 kj l).1 hl),λl hl hn=>h.free l (λx=>hl (hs2 l x)) λk k1 kj=>⟨λx=>(hn k k1 kj).1 (ho2 k k1 kj l x),λx=>(hn k k1 kj).2 ((hr k k1 kj l).2 x)⟩,
  λl hl hn=>h.mine l (λx=>hl (hs2 l x)) λk k1 kj x=>hn k k1 kj (ho2 k k1 kj l x),h.nr,h.gs⟩
 rcases hs _ hsx with h1|h1
 ·exact h.quiet i op x hi hx h1
 ·exact absurd rfl (h1 i x (by rw[touchAt_of hi];exact hx))
def ct_join {Sh:Loc->Prop} {Own Rd:Nat->Loc->Prop} {t:Trace} {j:Nat} (h:CT Sh Own Rd t j) (hk:∀ l,¬Sh l->Perm t 0 l):CT Sh (λ_ _=>False) (λ_ _=>False) t j:=
 ⟨h.quiet,λ_ _ _ _ h=>h.elim,λ_ _ _ _ h=>h.elim,λl hl _=>hk l hl,λl hl _=>.of (hk l hl),h.nr,h.gs⟩
def HO (b:Nat) (t:Trace):Prop:=∀ i g,t.g? i=some g->g≠0->g<=b->t.counts i->∃ k,t.g? k=some 0∧HappensBefore t i k
def HO.app {b:Nat} {t u:Trace} (h:HO b t) (hu:∀ op∈u,op.g=0∨b < op.g∨op.act.touch?=none):HO b (t++u):=by
 intro i g hg hne hle hc;obtain⟨x,hx,hz⟩:=hc;obtain⟨op,hop,hox⟩:=touch_of hx;rcases getElem?_append_cases hop with ⟨hi,hop'⟩|⟨_,hopu⟩
 ·obtain⟨j,hj,hb⟩:=h i g (by simpa [Trace.g?,getElem?_append_old hi] using hg) hne hle ((counts_old hi).1 ⟨x,hx,hz⟩)
  have hjl:j < t.size:=by
   unfold Trace.g? at hj;obtain⟨z,hz,_⟩:=Option.map_eq_some_iff.1 hj;exact lt_size_of_getElem? hz
  exact⟨j,by simpa [Trace.g?,getElem?_append_old hjl] using hj,hb_app u hb⟩
 ·have hgo:op.g=g:=by simpa [Trace.g?,hop] using hg
  rcases hu op hopu with h0|h0|h0
  ·exact absurd (hgo ▸ h0) hne
  ·omega
  ·rw[h0] at hox;cases hox
end W
end
end Go.Proofs.YtcpaopfdiahnnaaGreat
