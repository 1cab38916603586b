/- Lemmas for a law. Conditions: none. -/
import Derived.Test.YtcpaopfdiahnnaaGreatZb37
import Derived.Test.YtcpaopfdiahnnaaGreatZb4
import Derived.Test.YtcpaopfdiahnnaaGreatZb7
import Derived.Test.YtcpaopfdiahnnaaGreatZb15
import Derived.Test.YtcpaopfdiahnnaaGreatZb16
import Derived.Test.YtcpaopfdiahnnaaGreatZb22
import Derived.Test.YtcpaopfdiahnnaaGreatZb24
import Derived.Test.YtcpaopfdiahnnaaGreatZb25
import Derived.Test.YtcpaopfdiahnnaaGreatZb34
import Derived.Test.YtcpaopfdiahnnaaGreatZb35
import Derived.Test.YtcpaopfdiahnnaaGreatZb36
import Derived.Test.YtcpaopfdiahnnaaGreatZb1
set_option linter.all false
set_option maxHeartbeats 32000000
set_option maxRecDepth 100000
namespace Go.Proofs.YtcpaopfdiahnnaaGreat
section
open Go.RowKit
namespace W
variable {P:Program} {n:Nat} {L rest:List Oper} {e:Env} {bx b0:List Ow} {F F0:List Fct} {Q:Env->List Ow->List Fct->Prop} {d j:Nat} {ty:TypeId} {pos:String} {af:Array Edge} {g:Option (Nat×Bool)} {v:Value} {hs:List Nat} {r:Plan}
def WD.YW {x:Operand} {i:Nat} (hL:L[j]?=some ⟨some d,.extract x i,ty,pos,af,g⟩) (hy:YO P (.extract x i) ty e b0 F0 v) (hd:Nat.blt d n=true) (hg:gok L e g=some true) (h:WD P n L hs b0 F0 r ((d,v)::e) bx F Q):WD P n L hs b0 F0 (.held j r) e bx F Q:=WD.y hL hy hd hg h
end W
end
section
namespace Bl
open X
section
variable {S S':Sc} {w w' u v u' v':Nat->Rat}
def Bal.same (h:Bal S w u v) (hn:S'.n=S.n) (hm:S'.m=S.m) (hT:∀ j,j < S.m->S'.T j=S.T j) (hB:∀ i,i < S.n->(S'.B i).c=(S.B i).c∧(S.B i).st<=(S'.B i).st):Bal S' w u v:=by
 have hat:∀ k,k < 2*S.m->S'.at k=S.at k∧S'.T (k / 2)=S.T (k / 2):=λk hk=>by
  have:=hT (k / 2) qo;unfold Sc.at;rw[this];exact⟨rfl,rfl⟩
 refine⟨λk hk=>?_,λi hi=>?_⟩
 ·rw[hm] at hk;rw[(hat k hk).2];exact h.1 k hk
 ·rw[hn] at hi;have h2:=h.2 i hi;rw[hm];refine⟨?_,?_,?_,?_⟩
  ·rw[<-h2.1];exact Qh λk hk=>by rw[(hat k hk).2]
  ·rw[<-h2.2.1];exact Qh λk hk=>by rw[(hat k hk).2]
  ·rw[<-h2.2.2.1];exact Qh λk hk=>by rw[(hat k hk).2,(hat k hk).1,(hB i hi).1]
  ·refine Rat.le_trans ?_ (hB i hi).2;refine Rat.le_trans (rle ?_) h2.2.2.2;exact Qh λk hk=>by rw[(hat k hk).2]
def on_mix (t:Tc) (i:Nat) (N:Nat) (s:Nat->Rat) (u v:Nat->Rat):(on t i (frc t (sm N λc=>s c*u c) (sm N λc=>s c*v c))).x=sm N (λc=>s c*(on t i (frc t (u c) (v c))).x)∧(on t i (frc t (sm N λc=>s c*u c) (sm N λc=>s c*v c))).y=sm N (λc=>s c*(on t i (frc t (u c) (v c))).y):=by
 have h:=on_lin t i (sm N λc=>s c*u c) (sm N λc=>s c*v c);rw[h.1,h.2,<-JK,<-JK,<-VF,<-JK,<-JK,<-VF];constructor
 ·exact Qh λc _=>by rw[(on_lin t i (u c) (v c)).1];grind
 ·exact Qh λc _=>by rw[(on_lin t i (u c) (v c)).2];grind
def Bal.mix {N:Nat} {s:Nat->Rat} {w u v:Nat->Nat->Rat} (hs:∀ c,c < N->0<=s c) (h1:sm N s=1) (h:∀ c,c < N->Bal S (w c) (u c) (v c)) :
  Bal S (λi=>sm N λc=>s c*w c i) (λk=>sm N λc=>s c*u c k) (λk=>sm N λc=>s c*v c k):=by
 refine⟨λk hk=>⟨?_,?_,?_⟩,λi hi=>⟨?_,?_,?_,?_⟩⟩
 ·exact Uq λc hc=>Rat.mul_nonneg (hs c hc) ((h c hc).1 k hk).1
 ·rw[<-JK]
  exact sm_le λc hc=>by
   have:=Rat.mul_le_mul_of_nonneg_left ((h c hc).1 k hk).2.1 (hs c hc);grind
 ·rw[<-JK]
  have e:-(sm N λc=>s c*v c k)=sm N λc=>s c* -v c k:=by
   have:=JK (-1) (f:=λc=>s c*v c k) N;rw[show(sm N λc=>s c* -v c k)=sm N λc=>-1*(s c*v c k) from Qh λc _=>by grind,this];grind
  rw[e]
  exact sm_le λc hc=>by
   have:=Rat.mul_le_mul_of_nonneg_left ((h c hc).1 k hk).2.2 (hs c hc);grind
 ·rw[show(sm (2*S.m) λk=>(on (S.T (k / 2)) i (frc (S.T (k / 2)) (sm N λc=>s c*u c k) (sm N λc=>s c*v c k))).x)=sm (2*S.m) λk=>sm N λc=>s c*(on (S.T (k / 2)) i (frc (S.T (k / 2)) (u c k) (v c k))).x from Qh λk _=>(on_mix ..).1,Xn];exact JX λc hc=>by rw[JK,((h c hc).2 i hi).1];grind
 ·rw[show(sm (2*S.m) λk=>(on (S.T (k / 2)) i (frc (S.T (k / 2)) (sm N λc=>s c*u c k) (sm N λc=>s c*v c k))).y)=sm (2*S.m) λk=>sm N λc=>s c*(on (S.T (k / 2)) i (frc (S.T (k / 2)) (u c k) (v c k))).y from Qh λk _=>(on_mix ..).2,Xn];exact Qh λc hc=>by rw[JK,((h c hc).2 i hi).2.1]
 ·have e:∀ k,Jw (Q4 (S.at k) (S.B i).c) (on (S.T (k / 2)) i (frc (S.T (k / 2)) (sm N λc=>s c*u c k) (sm N λc=>s c*v c k)))=sm N λc=>s c*Jw (Q4 (S.at k) (S.B i).c) (on (S.T (k / 2)) i (frc (S.T (k / 2)) (u c k) (v c k))):=λk=>by
   unfold Jw;rw[(on_mix ..).1,(on_mix ..).2,<-JK,<-JK,<-Zd];exact Qh λc _=>by grind
  rw[Qh λk _=>e k,Xn];exact JX λc hc=>by rw[JK,((h c hc).2 i hi).2.2.1];grind
 ·have e:∀ k,(if tch (S.T (k / 2)) i then spn (S.T (k / 2)).n*sm N (λc=>s c*u c k) else 0)=sm N λc=>s c*(if tch (S.T (k / 2)) i then spn (S.T (k / 2)).n*u c k else 0):=λk=>by
   by_cases t:tch (S.T (k / 2)) i
   ·simp only[if_pos t];rw[<-JK];exact Qh λc _=>by grind
   ·simp only[if_neg t];rw[JX λc _=>by grind]
  rw[Qh λk _=>e k,Xn]
  have:sm N (λc=>sm (2*S.m) λk=>s c*(if tch (S.T (k / 2)) i then spn (S.T (k / 2)).n*u c k else 0))<=sm N λc=>s c*(S.B i).st:=sm_le λc hc=>by
   rw[JK];exact Rat.mul_le_mul_of_nonneg_left ((h c hc).2 i hi).2.2.2 (hs c hc)
  refine Rat.le_trans this (rle ?_);rw[Xq,h1];grind
end
end Bl
end
section
open W Go.RowKit
section
variable {M α:Type} {S:Shp M α} {P:Program} {e:Env} {bx bx':List Ow} {F:List Fct} {ty t el:TypeId} {v u:Value} {x y:Operand} {n k j o m:Nat} {ms:Nat->M} {xs:Nat->α} {us:List Value} {K:Qd} {mm:M} {aa:α}
def YO.ldLs {c:Value} (hs:Qw P t) (hx:ev e x=some (.pointer (some (eaddr v j)))) (hf:Has F (lF S v n ms xs)) (ho:Off S.w j k o) (hk:k < n) (hc:Cut o 1 (S.cs (ms k) (xs k)) [c]):YO P (.load t x) ty e bx F c:=by
 obtain rfl:=ho.eq;have h1:=cut_le hc qo;rw[S.len] at h1;have h2:=hc.get (i:=0) qo;rw[Nat.add_zero,Kt (λk=>S.len (ms k) (xs k)) qo] at h2;have h3:HQ S ms xs (k*S.w+o)=c:=by simpa using h2
 rw[<-h3];exact YO.ldS hs hx hf.ls (by have:=Z0 hk h1;omega)
def YO.ldOL (hs:Row P t m) (hx:ev e x=some (.pointer (some (eaddr v j)))) (hb:lO S v el n ms xs∈bx) (ho:Off S.w j k o) (hk:k < n) (h0:0 < m) (hc:Cut o m (S.cs (ms k) (xs k)) us):YO P (.load t x) ty e bx F (.agg us.toArray):=by
 obtain rfl:=ho.eq;have h1:=cut_le hc h0;rw[S.len] at h1
 exact YO.ldRO (us:=us) hs hx hb hc.len λi hi=>by
  have h2:=Z0 hk h1;rw[<-hc.get hi,QE qo,Nat.add_assoc];exact(Kt (f:=λk=>S.cs (ms k) (xs k)) (λk=>S.len _ _) qo).symm
end
end
section
open W Go.RowKit
namespace Rn
open Dvz Dvv Adc Rm
attribute [local irreducible] WC WL WD YO LO Qq W.Fin Qw Qu Qj Row QQ Qy KnS Has W.One Ql Qr
def cmp0 (z:Int):XG z 0=sgn z:=by unfold XG sgn;split <;> (try split) <;> first|rfl|(split <;> first|rfl|omega)|omega
def rsign_c (v:Value) (z:Int):FnB Tryz.prog 157 [v] [] [isZ v z] (IsV (.int .i64 (sgn z))):=by
 refine fO [(0,v)] 6 Tryz.func157 Tryz.ntmps157 λh0=>?_;refine WC.QR hmA λn1 d1 hv hb1=>?_;subst hv;repeat'(first|intro(g:Nat)|refine gA ?_|intro v)
 refine WL.QG (isZ (.agg #[.bool false,.slice none 0 0]) 0) Vh ?_;refine cV (Vt (.agg #[.bool n1,d1]) (.agg #[.bool false,.slice none 0 0]) z 0) ?_;rw[cmp0];repeat'(first|intro(g:Nat)|refine gA ?_|intro v)
 refine WC.ret ?_;exact Fin.v (Qv.t1 rfl rfl) meA rfl
end Rn
end
section
open W Go.RowKit
namespace Rp
open Dvz Dvv Adc Rm Rn Ro Rtm Rtc
attribute [local irreducible] WC WL WD YO LO Qq W.Fin Qw Qu Qj Row QQ Qy KnS Has W.One Ql Qr
def d103 {G G':Prop} (h:G') (s:Bx G'->G:=by
 intro h;first|refine gB ?_|(apply WC.draw (id:=6) [0,1,2,3,4,5,6,7,8,9,10] (.h 0<|.h 1<|.h 2<|.h 3<|.h 4<|.h 5<|.h 6<|.h 7<|.h 8<|.h 9<|.h 10 .done) mixed kr)|fail
 exact Bx.h h):G:=s ⟨h⟩
def isame_c (v1 v2:Value) (x y:Int):FnB Tryz.prog 103 [v1,v2] [] [isZ v1 x,isZ v2 y] (IsV (.bool (decide (x=y)))):=by
 refine fO [(0,v1),(1,v2)] 38 Tryz.func103 Tryz.ntmps103 λh0=>?_;refine WC.QR (v:=v1) (z:=x) hmA λn1 d1 hv hb1=>?_;subst hv;refine WC.QR (v:=v2) (z:=y) hmA λn2 d2 hv hb2=>?_;subst hv;refine WC.fact (sI d1 (Qx x.natAbs)) (Qo hmA) ?_;refine WC.fact (sI d2 (Qx y.natAbs)) (Qo hmA) ?_;have hd:=digs_eq hb1 hb2;generalize Qx x.natAbs=a at *;generalize Qx y.natAbs=b at *;refine WC.K4 d1 a hmA λhlen=>?_;by_cases c1:n1=n2
 ·subst c1;by_cases c2:a.length=b.length
  ·repeat'(first|intro(g:Nat)|refine d103 ?_|intro v)
   rename_i g2
   revert g;intro g3;refine WC.lp (σ:=Nat) (λk=>[(5,.int .i64 (k:Int)),(2,ptr g2),(3,ptr g3)]) (λ_=>[Ow.cells g3 62 [.bool n1,d2],Ow.cells g2 62 [.bool n1,d1]]) (λ_=>[ge h0,sI d1 a,sI d2 b]) (λk=>k<=a.length∧∀ j,j < k->a.getD j 0=b.getD j 0) (λk=>a.length - k) 0 ⟨by simp,λj hj=>by omega⟩ ?_;rintro k ⟨hk,hs⟩;by_cases h:k < a.length
   ·by_cases c3:a.getD k 0=b.getD k 0
    ·repeat'(first|intro(g:Nat)|refine d103 ?_|intro v)
     exact Qq.mk (k+1) ⟨by omega,λj hj=>if hjk:j=k then hjk ▸ c3 else hs j qo⟩ qo
    ·repeat'(first|intro(g:Nat)|refine d103 ?_|intro v)
     refine WC.ret ?_;exact Fin.v (Qv.t1 rfl rfl) meA (by rw[decide_eq_false (λhe=>c3 (by rw[(hd.2 he).2]))])
   ·repeat'(first|intro(g:Nat)|refine d103 ?_|intro v)
    refine WC.ret ?_;exact Fin.v (Qv.t1 rfl rfl) meA (by rw[decide_eq_true (hd.1 ⟨rfl,Z3 c2 (λj hj=>hs j qo)⟩)])
  ·repeat'(first|intro(g:Nat)|refine d103 ?_|intro v)
   refine WC.ret ?_;exact Fin.v (Qv.t1 rfl rfl) meA (by rw[decide_eq_false (λhe=>c2 (by rw[(hd.2 he).2]))])
 ·repeat'(first|intro(g:Nat)|refine d103 ?_|intro v)
  refine WC.ret ?_;exact Fin.v (Qv.t1 rfl rfl) meA (by rw[decide_eq_false (λhe=>c1 (hd.2 he).1)])
def rqsign_c (v:Value) (q:Rat):FnB Tryz.prog 84 [v] [] [isQ v q] (IsV (.int .i64 (sgn q.num))):=by
 refine fO [(0,v)] 6 Tryz.func84 Tryz.ntmps84 λh0=>?_;refine WC.JV (v:=v) (q:=q) hmA λn1 d1 d2 hv hb1=>?_;subst hv;refine WC.fact (isZ (.agg #[.bool n1,d1]) q.num) (Jg hmA) ?_;repeat'(first|intro(g:Nat)|refine gA ?_|intro v)
 refine cV (rsign_c (.agg #[.bool n1,d1]) q.num) ?_;repeat'(first|intro(g:Nat)|refine gA ?_|intro v)
 refine WC.ret ?_;exact Fin.v (Qv.t1 rfl rfl) meA rfl
def rqsame_c (v1 v2:Value) (a b:Rat):FnB Tryz.prog 41 [v1,v2] [] [isQ v1 a,isQ v2 b] (IsV (.bool (decide (a=b)))):=by
 refine fO [(0,v1),(1,v2)] 17 Tryz.func41 Tryz.ntmps41 λh0=>?_;refine WC.JV (v:=v1) (q:=a) hmA λn1 d1 d2 hv hb1=>?_;subst hv;refine WC.JV (v:=v2) (q:=b) hmA λn2 d3 d4 hv hb2=>?_;subst hv;repeat'(first|intro(g:Nat)|refine gA ?_|intro v)
 refine cV (isame_c (.agg #[.bool n1,d1]) (.agg #[.bool n2,d3]) a.num b.num) ?_;by_cases c:a.num=b.num
 ·rw[decide_eq_true c];repeat'(first|intro(g:Nat)|refine gA ?_|intro v)
  refine cV (isame_c (.agg #[.bool false,d2]) (.agg #[.bool false,d4]) (qz a) (qz b)) ?_;rw[show decide (qz a=qz b)=decide (a=b) by rw[decide_eq_decide];exact⟨λh=>qz_inj c h,λh=>by rw[h]⟩];repeat'(first|intro(g:Nat)|refine gA ?_|intro v)
  refine WC.ret ?_;exact Fin.v (Qv.t1 rfl rfl) meA rfl
 ·rw[decide_eq_false c];repeat'(first|intro(g:Nat)|refine gA ?_|intro v)
  refine WC.ret ?_;exact Fin.v (Qv.t1 rfl rfl) meA (by rw[decide_eq_false (λh=>c (by rw[h]))])
end Rp
end
section
open W Go.RowKit
namespace Zn
section
variable (m1 m2:QM) (a b:Rat)
def ZE:FnB Tryz.prog 84 [qv m1] [] [isQ (qv m1) a] (IsV (.int .i64 (sgn a.num))):=Rp.rqsign_c _ _
def rsame:FnB Tryz.prog 41 [qv m1,qv m2] [] [isQ (qv m1) a,isQ (qv m2) b] (IsV (.bool (decide (a=b)))):=Rp.rqsame_c _ _ _ _
end
end Zn
end
section
open W Go.RowKit
open Bl (Vc Bd Tc Sc)
namespace K
attribute [local irreducible] WC WL WD YO LO Qq W.Fin Qw Qu Qj Row QQ Qy KnS Has W.One Ql Qr
def d135 {G G':Prop} (h:G') (s:Bx G'->G:=by
 intro h;first|refine gF ?_|(apply WC.draw (id:=1) [0,1,2,3,5,6,7,8] (.h 0<|.h 1<|.h 2<|.h 3<|.h 5<|.h 6<|.h 7<|.h 8<|.l 4<|.l 9<|.l 10<|.l 11 .done) mixed kr)|fail
 exact Bx.h h):G:=s ⟨h⟩
def Hz (n:Nat) (hn:n<=60):FnB Tryz.prog 15 [.int .i64 (n:Int)] [] [] (IsV (.int .i64 ((2 ^ n:Nat):Int))):=by
 refine fO [(0,(.int .i64 (n:Int)))] 13 Tryz.func15 Tryz.ntmps15 λh0=>?_;repeat'(first|intro(g:Nat)|refine gP ?_|intro v)
 refine WC.Xf (σ:=Unit) (λ_=>[(3,.int .i64 ((2 ^ n:Nat):Int))]) (λ_=>[]) (λ_=>[ge h0]) (λ_=>True) ?_ ?_
 ·refine WC.lp (σ:=Nat) (λi=>[(4,.int .i64 (i:Int)),(3,.int .i64 ((2 ^ i:Nat):Int)),(0,.int .i64 (n:Int))]) (λ_=>[]) (λ_=>[ge h0]) (λi=>i<=n) (λi=>n - i) 0 (Nat.zero_le _) ?_;intro i hi;have h60:2 ^ i<=2 ^ 60:=Nat.pow_le_pow_right qd qo;have hd:(2:Int)*((2 ^ i:Nat):Int)=((2 ^ (i+1):Nat):Int):=by rw[Nat.pow_succ];omega
  obtain⟨N,hN⟩:∃ N,2 ^ i=N:=⟨_,rfl⟩
  by_cases c:i < n
  ·repeat'(first|intro(g:Nat)|refine gP ?_|intro v)
   rw[hd];exact Qq.mk (i+1) qo qo
  ·obtain rfl:i=n:=qo;repeat'(first|intro(g:Nat)|refine gP ?_|intro v)
   exact QZ () trivial
 ·rintro⟨⟩ _;repeat'(first|intro(g:Nat)|refine gP ?_|intro v)
  refine WC.ret ?_;exact Fin.v (Qv.t1 rfl rfl) meA rfl
def rvdot_c (m1 m2:VM) (a b:Vc) (K:Nat) (hK:K<=10000000) (ha:Sv K a) (hb:Sv K b):FnB Tryz.prog 135 [vv m1,vv m2] [] [fV m1 a,fV m2 b] (IsR (a.x*b.x+a.y*b.y)):=by
 refine fO [(0,(vv m1)),(1,(vv m2))] 16 Tryz.func135 Tryz.ntmps135 λh0=>?_;refine WC.fact (isQ (qv m1.1) a.x) (W.Has.vx (m:=m1) hmA) ?_;refine WC.fact (isQ (qv m1.2) a.y) (W.Has.vy (m:=m1) hmA) ?_;refine WC.fact (isQ (qv m2.1) b.x) (W.Has.vx (m:=m2) hmA) ?_;refine WC.fact (isQ (qv m2.2) b.y) (W.Has.vy (m:=m2) hmA) ?_;repeat'(first|intro(g:Nat)|refine d135 ?_|intro v)
 refine cW (Zn.Zh m1.1 m2.1 a.x b.x (ha.1.sm qo) (hb.1.sm qo)) λn1=>?_;repeat'(first|intro(g:Nat)|refine d135 ?_|intro v)
 refine cW (Zn.Zh m1.2 m2.2 a.y b.y (ha.2.sm qo) (hb.2.sm qo)) λn2=>?_;repeat'(first|intro(g:Nat)|refine d135 ?_|intro v)
 refine cW (Zn.UZ n1 n2 (a.x*b.x) (a.y*b.y) ((ha.1.mul hb.1).sm qo) ((ha.2.mul hb.2).sm qo)) λn3=>?_;repeat'(first|intro(g:Nat)|refine d135 ?_|intro v)
 refine WC.ret ?_;exact Fp [isQ (qv n3) (a.x*b.x+a.y*b.y)] (rcV T.r64) haA ⟨n3,rfl,rfl,rfl⟩
end K
end
section
open Bl (Vc Bd Tc Sc)
namespace Bl
def some_n (l:List Int):1<=(Ye l).n∧(Ye l).n<=3∧(Ye l).m<=4:=by
 have hm:=ZK l;have h1:=(Uv l (Qa l) hm.2).1;unfold Ye;split
 ·exact⟨by show 1<=1;decide,by show 1<=3;decide,by show 1<=4;decide⟩
 ·unfold XJ;split
  ·exact⟨hm.1,hm.2,by show(twT l (Qa l)).1+1<=4;omega⟩
  ·exact⟨hm.1,hm.2,by show(twT l (Qa l)).1<=4;omega⟩
end Bl
end
section
open W Go.RowKit
open Bl (Vc Bd Tc Sc)
namespace K
attribute [local irreducible] WC WL WD YO LO Qq W.Fin Qw Qu Qj Row QQ Qy KnS Has W.One Ql Qr
def size_c (m:QM) (a:Rat):FnB Tryz.prog 88 [qv m] [] [isQ (qv m) a] (IsR (Bl.ab a)):=by
 refine fO [(0,(qv m))] 9 Tryz.func88 Tryz.ntmps88 λh0=>?_;repeat'(first|intro(g:Nat)|refine gP ?_|intro v)
 refine cV (Zn.ZE m a) ?_;by_cases h:sgn a.num < 0
 ·repeat'(first|intro(g:Nat)|refine gP ?_|intro v)
  refine cW (Zn.rneg m a) λn1=>?_;repeat'(first|intro(g:Nat)|refine gP ?_|intro v)
  refine WC.ret ?_;exact Fp [isQ (qv n1) (Bl.ab a)] (rcV T.r64) (.cons (by rw[ab_p h];exact hmA) .nil) ⟨n1,rfl,rfl,rfl⟩
 ·repeat'(first|intro(g:Nat)|refine gP ?_|intro v)
  refine WC.ret ?_;exact Fp [isQ (qv m) (Bl.ab a)] (rcV T.r64) (.cons (by rw[ab_n h];exact hmA) .nil) ⟨m,rfl,rfl,rfl⟩
end K
end
section
open W Go.RowKit
open Bl (Vc Bd Tc Sc)
namespace K
namespace Q
attribute [local irreducible] WC WL WD YO LO Qq W.Fin Qw Qu Qj Row QQ Qy KnS Has W.One Ql Qr
def d38 {G G':Prop} (h:G') (s:Bx G'->G:=by
 intro h;first|refine gE ?_|(apply WC.draw (id:=1) [0,1,2,3,4,6,7,8,9,10] (.h 0<|.h 1<|.h 2<|.h 3<|.h 4<|.h 6<|.h 7<|.h 8<|.h 9<|.h 10<|.m 5 (.m 11 (.m 12 (.l 13<|.l 14 .done) (.l 13<|.l 12<|.l 14 .done)) (.l 13<|.l 11<|.l 12<|.l 14 .done)) (.l 13<|.l 5<|.l 11<|.l 12<|.l 14 .done)) mixed kr)|(apply WC.draw (id:=2) [0,1,2,3,4,6,7,8,9,10] (.h 0<|.h 1<|.h 2<|.h 3<|.h 4<|.h 6<|.h 7<|.h 8<|.h 9<|.h 10<|.m 5 (.m 11 (.m 12 (.l 13<|.l 14 .done) (.l 13<|.l 12<|.l 14 .done)) (.l 13<|.l 11<|.l 12<|.l 14 .done)) (.l 13<|.l 5<|.l 11<|.l 12<|.l 14 .done)) mixed kr)|(apply WC.draw (id:=6) [0,2,4] (.h 0<|.h 2<|.l 1<|.l 3<|.h 4<|.l 5 .done) mixed kr)|fail
 exact Bx.h h):G:=s ⟨h⟩
def d70 {G G':Prop} (h:G') (s:Bx G'->G:=by
 intro h;first|refine gF ?_|(apply WC.draw (id:=2) [0,1,2,3,5,6,7,8] (.h 0<|.h 1<|.h 2<|.h 3<|.h 5<|.h 6<|.h 7<|.h 8<|.l 4<|.l 9<|.l 10<|.l 11 .done) mixed kr)|fail
 exact Bx.h h):G:=s ⟨h⟩
def d74 {G G':Prop} (h:G') (s:Bx G'->G:=by
 intro h;first|refine gF ?_|(apply WC.draw (id:=1) [0,1,3,4] (.h 0<|.h 1<|.h 3<|.h 4<|.l 2<|.l 5<|.l 6<|.l 7 .done) mixed kr)|fail
 exact Bx.h h):G:=s ⟨h⟩
def rspan_c (m:VM) (a:Vc) (K:Nat) (hK:K<=1000000) (ha:Sv K a):FnB Tryz.prog 74 [vv m] [] [fV m a] (IsR (Bl.spn a)):=by
 refine fO [(0,(vv m))] 10 Tryz.func74 Tryz.ntmps74 λh0=>?_;refine WC.fact (isQ (qv m.1) a.x) (W.Has.vx (m:=m) hmA) ?_;refine WC.fact (isQ (qv m.2) a.y) (W.Has.vy (m:=m) hmA) ?_;repeat'(first|intro(g:Nat)|refine d74 ?_|intro v)
 refine cW (size_c m.1 a.x) λn1=>?_;repeat'(first|intro(g:Nat)|refine d74 ?_|intro v)
 refine cW (size_c m.2 a.y) λn2=>?_;repeat'(first|intro(g:Nat)|refine d74 ?_|intro v)
 refine cW (Zn.UZ n1 n2 (Bl.ab a.x) (Bl.ab a.y) (ha.1.ab.sm qo) (ha.2.ab.sm qo)) λn3=>?_;repeat'(first|intro(g:Nat)|refine d74 ?_|intro v)
 refine WC.ret ?_;exact Fp [isQ (qv n3) (Bl.ab a.x+Bl.ab a.y)] (rcV T.r64) haA ⟨n3,rfl,rfl,rfl⟩
def rat_c (M:SM) (S:Sc) (k:Nat) (hk:k < 2*S.m) (hm:S.m<=1000):FnB Tryz.prog 71 [M.t,.int .i64 (k:Int)] [] [fSt M S] (KA (S.at k)):=by
 refine fO [(0,M.t),(1,(.int .i64 (k:Int)))] 20 Tryz.func71 Tryz.ntmps71 λh0=>?_;obtain⟨j,hj⟩:∃ j,k / 2=j:=⟨_,rfl⟩
 have hq:(k:Int) / 2=(j:Int):=qo;have hk2:j < S.m:=qo;by_cases c:k % 2=0
 ·have e:S.at k=(S.T j).p:=by rw[<-hj];exact if_pos c
  rw[e];have c2:(k:Int) % 2=0:=qo;refine go ?_
  (refine goG ?_;intro g)
  apply WL.nil;apply WC.seq;apply WC.seq;apply WC.region
  (apply WL.Yu;(apply YO.move;exact rfl);exact rfl;exact rfl)
  (apply WL.Zj;exact Ze;exact rfl;exact rfl)
  (apply WL.Ve;exact Y0;exact rfl;exact rfl)
  apply WL.nil
  (apply WC.cond_t;exact rfl)
  apply WC.seq;apply WC.region
  (apply WL.Yu;(apply YO.move;exact rfl);exact rfl;exact rfl)
  (apply WL.Yu;(apply YO.move;exact rfl);exact rfl;exact rfl)
  (apply WL.YV;exact YG;exact rfl;exact rfl)
  rw[hq]
  (apply WL.Jt;exact Q5;exact rfl;exact rfl)
  (apply WL.Js;exact QT;exact rfl;exact rfl)
  (apply WL.YN;(apply YO.ldL;exact t4A;exact rfl;exact hmA;(apply Off.add;exact Off.base;((try simp only[Nat.zero_add,Nat.mul_one,Nat.reduceAdd,Nat.reduceMul]);exact rfl));omega;decide;(repeat(first|exact Cut.done|apply Cut.take|apply Cut.drop)));exact rfl;exact rfl)
  refine WL.QG (fV (M.T j).p (S.T j).p) (W.Has.tp (tm:=M.T j) (t:=S.T j) (W.Has.lk (S:=Qb) (v:=M.t) hmA qo)) ?_;repeat'(first|intro(g:Nat)|refine gP ?_|intro v)
  refine WC.ret ?_;exact Fp [fV (M.T j).p (S.T j).p] (rcV T.r75) haA ⟨(M.T j).p,rfl,rfl,rfl⟩
 ·have e:S.at k=(S.T j).q:=by rw[<-hj];exact if_neg c
  rw[e];have c2:¬(k:Int) % 2=0:=qo;refine go ?_
  (refine goG ?_;intro g)
  apply WL.nil;apply WC.seq;apply WC.seq;apply WC.region
  (apply WL.Yu;(apply YO.move;exact rfl);exact rfl;exact rfl)
  (apply WL.Zj;exact Ze;exact rfl;exact rfl)
  (apply WL.Ve;exact Y0;exact rfl;exact rfl)
  apply WL.nil
  (apply WC.cond_f;exact rfl)
  apply WC.skip;apply WC.seq;apply WC.region
  (apply WL.Yu;(apply YO.move;exact rfl);exact rfl;exact rfl)
  (apply WL.Yu;(apply YO.move;exact rfl);exact rfl;exact rfl)
  (apply WL.YV;exact YG;exact rfl;exact rfl)
  rw[hq]
  (apply WL.Jt;exact Q5;exact rfl;exact rfl)
  (apply WL.Js;exact QT;exact rfl;exact rfl)
  (apply WL.YN;(apply YO.ldL;exact t4A;exact rfl;exact hmA;(apply Off.add;exact Off.base;((try simp only[Nat.zero_add,Nat.mul_one,Nat.reduceAdd,Nat.reduceMul]);exact rfl));omega;decide;(repeat(first|exact Cut.done|apply Cut.take|apply Cut.drop)));exact rfl;exact rfl)
  refine WL.QG (fV (M.T j).q (S.T j).q) (W.Has.tq (tm:=M.T j) (t:=S.T j) (W.Has.lk (S:=Qb) (v:=M.t) hmA qo)) ?_;repeat'(first|intro(g:Nat)|refine gP ?_|intro v)
  refine WC.ret ?_;exact Fp [fV (M.T j).q (S.T j).q] (rcV T.r75) haA ⟨(M.T j).q,rfl,rfl,rfl⟩
def rforce_c (tm:ToM) (t:Tc) (pm:VM) (p:Vc) (i:Nat) (K Kp:Nat) (hK:K+Kp<=100000000) (ht:Sv K t.n) (hp:Sv Kp p) (hi:i<=1000):FnB Tryz.prog 38 [tv tm t,vv pm,.int .i64 (i:Int)] [] [fT tm t,fV pm p] (KA (Bl.on t i (Bl.frc t p.x p.y))):=by
 refine fO [(0,(tv tm t)),(1,(vv pm)),(2,(.int .i64 (i:Int)))] 52 Tryz.func38 Tryz.ntmps38 λh0=>?_;refine WC.fact (fV tm.n t.n) (W.Has.tn (tm:=tm) hmA) ?_;refine WC.fact (isQ (qv tm.n.1) t.n.x) (W.Has.vx (m:=tm.n) hmA) ?_;refine WC.fact (isQ (qv tm.n.2) t.n.y) (W.Has.vy (m:=tm.n) hmA) ?_;refine WC.fact (isQ (qv pm.1) p.x) (W.Has.vx (m:=pm) hmA) ?_;refine WC.fact (isQ (qv pm.2) p.y) (W.Has.vy (m:=pm) hmA) ?_;have z1:=hp.1.mul ht.1;have z2:=hp.2.mul ht.2;have z3:=hp.1.mul ht.2;have z4:=hp.2.mul ht.1;have c14:=Zn.Zh pm.1 tm.n.1 p.x t.n.x (hp.1.sm qo) (ht.1.sm qo);have c20:=Zn.Zh pm.2 tm.n.2 p.y t.n.y (hp.2.sm qo) (ht.2.sm qo);have c21:=λn1 n2=>Zn.rsub n1 n2 (p.x*t.n.x) (p.y*t.n.y) (z1.sm qo) (z2.sm qo);have c27:=Zn.Zh pm.1 tm.n.2 p.x t.n.y (hp.1.sm qo) (ht.2.sm qo);have c33:=Zn.Zh pm.2 tm.n.1 p.y t.n.x (hp.2.sm qo) (ht.1.sm qo);have c34:=λn1 n2=>Zn.UZ n1 n2 (p.x*t.n.y) (p.y*t.n.x) (z3.sm qo) (z4.sm qo);repeat'(first|intro(g:Nat)|refine gP ?_|intro v)
 revert g;intro g6;revert g;intro g4;revert g;intro g3;refine WC.keep (g:=g3) (t:=79) (cs:=tcs tm t) (by repeat(first|exact Rem.head|apply Rem.tail)) ?_;refine WC.keep (g:=g4) (t:=83) (cs:=vcs pm) (by repeat(first|exact Rem.head|apply Rem.tail)) ?_;refine WC.YJ (σ:=Nat×QM) (λs=>[(7,ptr s.1),(3,ptr g3),(4,ptr g4),(2,.int .i64 (i:Int)),(6,ptr g6)]) (λs=>[Ow.cells s.1 64 (qcs s.2),Ow.cells g6 75 (vcs (m00,m00))]) (λs=>[isQ (qv s.2) (Bl.frc t p.x p.y).x,ce g3 79 (tcs tm t),ce g4 83 (vcs pm),isQ (qv pm.2) p.y,isQ (qv pm.1) p.x,isQ (qv tm.n.2) t.n.y,isQ (qv tm.n.1) t.n.x,ge h0]) (λ_=>True) ?_ ?_
 ·repeat'(first|intro(g:Nat)|refine d38 ?_|refine gN ?_ ?_|refine cW (c14) λzm=>?_|refine cW (c20) λzm=>?_|refine cW (c21 _ _) λzm=>?_|intro v)
  all_goals(apply Ex2;refine⟨trivial,?_,?_,?_⟩;(focus(repeat(first|exact Sub.nil _|refine Sub.cons rfl ?_)));(focus(repeat(first|exact Q9.nil _|(apply Q9.cons;(repeat(first|exact Rem.head|apply Rem.tail))))));(focus(repeat(first|exact Qk.nil|(apply Qk.cons;exact hsA)))))
 rintro⟨g7,mx⟩ _;simp only;repeat'(first|intro(g:Nat)|refine gP ?_|intro v)
 refine WC.YJ (σ:=Nat×QM) (λs=>[(8,ptr s.1),(7,ptr g7),(3,ptr g3),(2,.int .i64 (i:Int)),(6,ptr g6)]) (λs=>[Ow.cells s.1 64 (qcs s.2),Ow.cells g7 64 (qcs mx),Ow.cells g6 75 (vcs (m00,m00))]) (λs=>[isQ (qv s.2) (Bl.frc t p.x p.y).y,isQ (qv mx) (Bl.frc t p.x p.y).x,ce g3 79 (tcs tm t),ge h0]) (λ_=>True) ?_ ?_
 ·repeat'(first|intro(g:Nat)|refine d38 ?_|refine gN ?_ ?_|refine cW (c27) λzm=>?_|refine cW (c33) λzm=>?_|refine cW (c34 _ _) λzm=>?_|intro v)
  all_goals(apply Ex2;refine⟨trivial,?_,?_,?_⟩;(focus(repeat(first|exact Sub.nil _|refine Sub.cons rfl ?_)));(focus(repeat(first|exact Q9.nil _|(apply Q9.cons;(repeat(first|exact Rem.head|apply Rem.tail))))));(focus(repeat(first|exact Qk.nil|(apply Qk.cons;exact hsA)))))
 rintro⟨g8,my⟩ _;simp only;by_cases c:t.a=(i:Int)
 ·have e:Bl.on t i (Bl.frc t p.x p.y)=Bl.frc t p.x p.y:=if_pos c;rw[e];repeat'(first|intro(g:Nat)|refine d38 ?_|refine gN ?_ ?_|intro v)
  refine WC.ret ?_;exact Fp [fV (mx,my) (Bl.frc t p.x p.y)] (rcV T.r75) (.cons (W.Has.vof (m:=(mx,my)) (a:=Bl.frc t p.x p.y) hmA hmA) .nil) ⟨(mx,my),rfl,rfl,rfl⟩
 ·by_cases d:t.b=(i:Int)
  ·have e:Bl.on t i (Bl.frc t p.x p.y)=⟨-(Bl.frc t p.x p.y).x,-(Bl.frc t p.x p.y).y⟩:=by unfold Bl.on;rw[if_neg c,if_pos d]
   rw[e];repeat'(first|intro(g:Nat)|refine d38 ?_|refine gN ?_ ?_|intro v)
   refine cW (Zn.rneg mx (Bl.frc t p.x p.y).x) λn1=>?_;repeat'(first|intro(g:Nat)|refine d38 ?_|refine gN ?_ ?_|intro v)
   refine cW (Zn.rneg my (Bl.frc t p.x p.y).y) λn2=>?_;repeat'(first|intro(g:Nat)|refine d38 ?_|refine gN ?_ ?_|intro v)
   refine WC.ret ?_;exact Fp [fV (n1,n2) ⟨-(Bl.frc t p.x p.y).x,-(Bl.frc t p.x p.y).y⟩] (rcV T.r75) (.cons (W.Has.vof (m:=(n1,n2)) (a:=⟨-(Bl.frc t p.x p.y).x,-(Bl.frc t p.x p.y).y⟩) hmA hmA) .nil) ⟨(n1,n2),rfl,rfl,rfl⟩
  ·have e:Bl.on t i (Bl.frc t p.x p.y)=⟨0,0⟩:=by unfold Bl.on;rw[if_neg c,if_neg d]
   rw[e];repeat'(first|intro(g:Nat)|refine d38 ?_|refine gN ?_ ?_|intro v)
   refine WC.ret ?_;exact Fp [fV (m00,m00) ⟨0,0⟩] (rcV T.r75) (.cons hasV0 .nil) ⟨(m00,m00),rfl,rfl,rfl⟩
def rtorque_c (m1 m2 m3:VM) (f a b:Vc) (K:Nat) (hK:K<=10000000) (hf:Sv K f) (ha:Sv K a) (hb:Sv K b):FnB Tryz.prog 70 [vv m1,vv m2,vv m3] [] [fV m1 f,fV m2 a,fV m3 b] (IsR (Bl.Jw (Bl.Q4 a b) f)):=by
 refine fO [(0,(vv m1)),(1,(vv m2)),(2,(vv m3))] 22 Tryz.func70 Tryz.ntmps70 λh0=>?_;refine WC.fact (isQ (qv m1.1) f.x) (W.Has.vx (m:=m1) hmA) ?_;refine WC.fact (isQ (qv m1.2) f.y) (W.Has.vy (m:=m1) hmA) ?_;have zx:=ha.1.sub hb.1;have zy:=ha.2.sub hb.2;repeat'(first|intro(g:Nat)|refine d70 ?_|intro v)
 refine cW (rvsub_c m2 m3 a b K qo ha hb) λm10=>?_;refine WL.QG (isQ (qv m10.1) (Bl.Q4 a b).x) (W.Has.vx (m:=m10) hmA) ?_;refine WL.QG (isQ (qv m10.2) (Bl.Q4 a b).y) (W.Has.vy (m:=m10) hmA) ?_;repeat'(first|intro(g:Nat)|refine d70 ?_|intro v)
 refine cW (Zn.Zh m10.1 m1.2 (Bl.Q4 a b).x f.y (zx.sm qo) (hf.2.sm qo)) λn1=>?_;repeat'(first|intro(g:Nat)|refine d70 ?_|intro v)
 refine cW (Zn.Zh m10.2 m1.1 (Bl.Q4 a b).y f.x (zy.sm qo) (hf.1.sm qo)) λn2=>?_;repeat'(first|intro(g:Nat)|refine d70 ?_|intro v)
 refine cW (Zn.rsub n1 n2 ((Bl.Q4 a b).x*f.y) ((Bl.Q4 a b).y*f.x) ((zx.mul hf.2).sm qo) ((zy.mul hf.1).sm qo)) λn3=>?_;repeat'(first|intro(g:Nat)|refine d70 ?_|intro v)
 refine WC.ret ?_;exact Fp [isQ (qv n3) (Bl.Jw (Bl.Q4 a b) f)] (rcV T.r64) haA ⟨n3,rfl,rfl,rfl⟩
end Q
end K
end
section
open Bl (Vc Bd Tc Sc)
namespace Bl
section
variable {S:Sc}
def Bal.sat {w u v:Nat->Rat} {c:Nat} (h:Bal S w u v) (hw:∀ i,i < S.n->w i=S.wt c i):Sat S c:=by
 refine⟨λj=>if j % 2=0 then u (j / 2) else v (j / 2),Xt.2 (h.congr (λk _=>⟨?_,?_⟩) hw)⟩
 ·simp only[if_pos (show 2*k % 2=0 by omega)];rw[show 2*k / 2=k by omega]
 ·simp only[if_neg (show ¬(2*k+1) % 2=0 by omega)];rw[show(2*k+1) / 2=k by omega]
def fv_up {D A B:Nat} {a:Vc} (h:Fv D A a) (hB:A<=B):Fv D B a:=⟨h.1.up hB,h.2.up hB⟩
def Fs.up {D A B:Nat} (h:Fs D A S) (hB:A<=B):Fs D B S:=
 ⟨λi hi=>let ⟨a,b,c,d⟩:=h.B i hi;⟨fv_up a hB,b.up hB,c.up hB,d.up hB⟩,λj hj=>let ⟨a,b,c,d⟩:=h.T j hj;⟨fv_up a hB,fv_up b hB,fv_up c hB,d.up hB⟩⟩
end
end Bl
end
section
open W Go.RowKit
open Bl (Vc Bd Tc Sc)
section
variable {M α:Type} {S:Shp M α} {P:Program} {e:Env} {bx bx':List Ow} {F:List Fct} {ty t el:TypeId} {v u:Value} {x y:Operand} {n k o:Nat} {ms:Nat->M} {xs:Nat->α} {K:Qd} {mm:M} {aa:α} {vs:List Value}
def lcells_setP (h:k < n) (ho:o+vs.length<=S.w) (hv:∀ i,i < S.w->(S.cs mm aa)[i]?=if o<=i∧i < o+vs.length then vs[i - o]? else(S.cs (ms k) (xs k))[i]?):Q7 (QV S n ms xs) (k*S.w+o) vs=QV S n (upd ms k mm) (upd xs k aa):=by
 have hp:=S.pos
 have hle:k*S.w+o+vs.length<=(QV S n ms xs).length:=by
  rw[Qg];exact Z0 h ho
 refine Xx (by rw[Yt hle,Qg]) λj hj=>?_;rw[Zf hle];by_cases hx:k*S.w<=j∧j < k*S.w+S.w
 ·obtain⟨i,rfl⟩:=Nat.exists_eq_add_of_le hx.1;have hi:i < S.w:=qo;have e1:=Kt (f:=λc=>S.cs (upd ms k mm c) (upd xs k aa c)) (λc=>S.len _ _) (k:=k) hi;show _=some (JA S.w (λc=>S.cs (upd ms k mm c) (upd xs k aa c)) (k*S.w+i));rw[<-e1];show _=(S.cs (upd ms k mm k) (upd xs k aa k))[i]?;rw[QJ,QJ,hv i hi];by_cases c:o<=i∧i < o+vs.length
  ·rw[if_pos c,if_pos qo,show k*S.w+i - (k*S.w+o)=i - o by omega]
  ·rw[if_neg c,if_neg qo,QE qo];exact(Kt (f:=λc=>S.cs (ms c) (xs c)) (λc=>S.len _ _) (k:=k) hi).symm
 ·have hd:=dm_ne hp hx;rw[if_neg (λc=>hx ⟨by omega,by omega⟩),QE hj];show some (JA S.w _ j)=some (JA S.w _ j);unfold JA;simp only;rw[upd_ne hd,upd_ne hd]
def LO.storeOP (hx:ev e x=some (.pointer (some (eaddr v (k*S.w+o))))) (hy:ev e y=some (.agg vs.toArray)) (hr:Row P t vs.length) (h1:QC bx F vs) (hs:Sel bx (lO S v el n ms xs) (lO S v el n (upd ms k mm) (upd xs k aa)) bx') (hk:k < n) (h0:0 < vs.length) (ho:o+vs.length<=S.w)
  (hv:∀ i,i < S.w->(S.cs mm aa)[i]?=if o<=i∧i < o+vs.length then vs[i - o]? else(S.cs (ms k) (xs k))[i]?) (h:K undef bx' F):LO P (.store t x y) ty e bx F K:=
 LO.UP (vs:=vs) hx hy hr h1 hs (by rw[Qg];exact Z0 hk ho) h0 (lcells_setP hk ho hv) h
def one_sh {fr:CF} {w:World} (ho:OK fr bx F w) (h1:∀ j,j < n->QC bx F (S.cs (ms j) (xs j))):∀ c∈QV S n ms xs,c.oneCell'=true:=λc hc=>by
 simp only[QV,XL,List.mem_map,List.mem_range] at hc;obtain⟨j,hj,rfl⟩:=hc;have hp:=S.pos;have hd:j / S.w < n:=(Nat.div_lt_iff_lt_mul hp).2 hj;have hm:j % S.w < S.w:=Nat.mod_lt _ hp;exact(h1 _ hd).all ho _ (List.mem_of_getElem? (X5 (S.len _ _) hm))
def LO.appL0 {t1 b:TypeId} {z:Value} {bx2:Value->List Ow} (he:XU P t1 el S.w z b) (hx:ev e x=some v) (hy:ev e y=some u) (hu:Has F (lF S u n ms xs)) (h1:∀ j,j < n->QC bx F (S.cs (ms j) (xs j))) (hs:∀ v',Sel bx (.slice v el S.w []) (lO S v' el n ms xs) (bx2 v')) (hb:b<=1000) (hw:S.w<=100) (hl:n<=1000000) (h:∀ v',K v' (bx2 v') F) :
  LO P (.call {callee:=.builtin .append,args:=#[x,y],argTypes:=#[t1,t1]}) ty e bx F K:=by
 refine LO.byP (λfr w ho=>one_sh ho h1) λh1=>?_;have hw1:n*S.w<=1000000*100:=Nat.mul_le_mul hl hw;refine LO.append he hx hy (cs:=[]) (news:=QV S n ms xs) hs (Ql.fact hu.ls) h1 ?_ ?_ h
 ·rw[Qg];have:(0+n*S.w)*b<=(0+1000000*100)*1000:=Nat.mul_le_mul qo hb;exact Nat.le_trans this qd
 ·rw[Qg];exact Nat.le_trans (show([]:List Value).length+n*S.w<=1000000*100 by simpa using hw1) qd
end
section
variable {e:Env} {bx bx':List Ow} {F:List Fct} {ty t el:TypeId} {v u:Value} {x y:Operand} {n k:Nat} {K:Qd}
def LO.appB0 {ms:Nat->BM} {xs:Nat->Bd} {bx2:Value->List Ow} (hx:ev e x=some v) (hy:ev e y=some u) (hu:Has F (lF Qm u n ms xs)) (hs:∀ v',Sel bx (.slice v 88 20 []) (lO Qm v' 88 n ms xs) (bx2 v')) (hl:n<=1000000) (h:∀ v',K v' (bx2 v') F) :
  LO Tryz.prog (.call {callee:=.builtin .append,args:=#[x,y],argTypes:=#[23,23]}) ty e bx F K:=
 LO.appL0 (S:=Qm) T.e23 hx hy hu (λj hj=>one_b (hu.lk hj)) hs qd qd hl h
def LO.bsB0 (h:∀ v,K v (Ow.slice v 88 20 []::bx) F):LO Tryz.prog (.buildSlice 23 0 #[]) ty e bx F K:=LO.buildSlice (parts:=[]) (us:=[]) (cs:=[]) .nil (λ_=>by kernel_rfl) rfl qd h
end
end
section
open W Go.RowKit
open Bl (Vc Bd Tc Sc)
def YO.quoj {P:Program} {e:Env} {bx:List Ow} {F:List Fct} {ty t t':TypeId} {x y:Operand} {i c:Int} {j:Nat} (hx:ev e x=some (.int .i64 i)) (hy:ev e y=some (.int .i64 c)) (hq:i / c=(j:Int)) (h1:0<=i) (h2:0 < c) (h3:i<=9223372036854775807):YO P (.binOp .quo t x y t') ty e bx F (.int .i64 (j:Int)):=hq ▸ YO.quo hx hy h1 h2 h3
def Off.b {w w' k:Nat} (h:w=w'):Off w (k*w') k 0:=by subst h;exact .base
namespace K
namespace Q
namespace R
attribute [local irreducible] WC WL WD YO LO Qq W.Fin Qw Qu Qj Row QQ Qy KnS Has W.One Ql Qr
def YG {G:Prop} (h:G:=by first|((first|(apply YO.quoj;exact rfl;exact rfl;assumption;omega;omega;omega)|exact Go.Proofs.YtcpaopfdiahnnaaGreat.K.YG);done)|fail):G:=h
def oF {G:Prop} (h:G:=by first|((first|(with_reducible apply Off.b;exact rfl)|(with_reducible apply Off.add;with_reducible apply Off.b;exact rfl;((try simp only[Nat.zero_add,Nat.mul_one,Nat.reduceAdd,Nat.reduceMul]);exact rfl))|(with_reducible apply Off.add;with_reducible apply Off.add;with_reducible apply Off.b;exact rfl;((try simp only[Nat.zero_add,Nat.mul_one,Nat.reduceAdd,Nat.reduceMul]);exact rfl);((try simp only[Nat.zero_add,Nat.mul_one,Nat.reduceAdd,Nat.reduceMul]);exact rfl)));done)|fail):G:=h
def Yn {G:Prop} (h:G:=by first|((first|(apply YO.ldL;exact t4A;exact rfl;exact hmA;exact oF;omega;decide;(repeat(first|exact Cut.done|apply Cut.take|apply Cut.drop)))|(apply YO.ldLs;exact t2A;exact rfl;exact hmA;exact oF;omega;(repeat(first|exact Cut.done|apply Cut.take|apply Cut.drop)))|(apply YO.ldOL;exact t4A;exact rfl;exact meA;exact oF;omega;decide;(repeat(first|exact Cut.done|apply Cut.take|apply Cut.drop)))|(apply YO.ldPl1;exact rfl;exact hmA;omega)|exact Go.Proofs.YtcpaopfdiahnnaaGreat.K.Yn);done)|fail):G:=h
def goE {G G':Prop} (h:G') (s:Bx G'->G:=by
 intro h
 (first|(apply WL.Jz;rotate_left;exact rfl;(first|(apply LO.UO;exact rfl;exact rfl;(first|exact T.r36|exact T.r62|exact T.r64|exact T.K6|exact T.VT|exact T.r48|exact T.r50|exact T.r75|exact T.r79|exact T.r83|exact T.r88|exact T.Gb|exact T.r26|exact T.UX);exact hmA;exact seA;omega)|(apply LO.UR;exact rfl;exact rfl;(first|exact T.r36|exact T.r62|exact T.r64|exact T.K6|exact T.VT|exact T.r48|exact T.r50|exact T.r75|exact T.r79|exact T.r83|exact T.r88|exact T.Gb|exact T.r26|exact T.UX);exact hmA;exact seA;omega)|fail))|(apply WD.Jz;exact rfl;rotate_left;exact rfl;(first|(apply LO.UO;exact rfl;exact rfl;(first|exact T.r36|exact T.r62|exact T.r64|exact T.K6|exact T.VT|exact T.r48|exact T.r50|exact T.r75|exact T.r79|exact T.r83|exact T.r88|exact T.Gb|exact T.r26|exact T.UX);exact hmA;exact seA;omega)|(apply LO.UR;exact rfl;exact rfl;(first|exact T.r36|exact T.r62|exact T.r64|exact T.K6|exact T.VT|exact T.r48|exact T.r50|exact T.r75|exact T.r79|exact T.r83|exact T.r88|exact T.Gb|exact T.r26|exact T.UX);exact hmA;exact seA;omega)|fail);constructor;(first|(focus(apply Or.inr;constructor;(repeat(first|exact List.Sublist.refl _|exact List.nil_sublist _|apply List.Sublist.cons_cons|apply List.Sublist.cons));(first|exact λ_ h=>h|(intro f hf;(repeat(first|exact hf|apply List.Mem.tail))));done))|(apply Or.inl;kernel_rfl)))|((first|(apply LO.UO;exact rfl;exact rfl;(first|exact T.r36|exact T.r62|exact T.r64|exact T.K6|exact T.VT|exact T.r48|exact T.r50|exact T.r75|exact T.r79|exact T.r83|exact T.r88|exact T.Gb|exact T.r26|exact T.UX);exact hmA;exact seA;omega)|(apply LO.UR;exact rfl;exact rfl;(first|exact T.r36|exact T.r62|exact T.r64|exact T.K6|exact T.VT|exact T.r48|exact T.r50|exact T.r75|exact T.r79|exact T.r83|exact T.r88|exact T.Gb|exact T.r26|exact T.UX);exact hmA;exact seA;omega)|fail);constructor;(first|(focus(apply Or.inr;constructor;(repeat(first|exact List.Sublist.refl _|exact List.nil_sublist _|apply List.Sublist.cons_cons|apply List.Sublist.cons));(first|exact λ_ h=>h|(intro f hf;(repeat(first|exact hf|apply List.Mem.tail))));done))|(apply Or.inl;kernel_rfl)))|refine Go.Proofs.YtcpaopfdiahnnaaGreat.K.Q.goE ?_|fail)
 exact Bx.h h):G:=s ⟨h⟩
def goEV {G G':Prop} (h:G') (s:Bx G'->G:=by
 intro h
 (first|(apply WL.Jv;rotate_left;exact rfl;exact rfl;(first|(apply LO.appB0;exact rfl;exact rfl;exact hmA;(intro _;exact seA);omega)|(apply LO.appT0;exact rfl;exact rfl;exact hmA;(intro _;exact seA);omega)|fail))|(apply WD.Jv;exact rfl;rotate_left;exact rfl;exact rfl;(first|(apply LO.appB0;exact rfl;exact rfl;exact hmA;(intro _;exact seA);omega)|(apply LO.appT0;exact rfl;exact rfl;exact hmA;(intro _;exact seA);omega)|fail);apply Qc;(intro _;(first|(focus(apply Or.inr;constructor;(repeat(first|exact List.Sublist.refl _|exact List.nil_sublist _|apply List.Sublist.cons_cons|apply List.Sublist.cons));(first|exact λ_ h=>h|(intro f hf;(repeat(first|exact hf|apply List.Mem.tail))));done))|(apply Or.inl;kernel_rfl))))|((first|(apply LO.appB0;exact rfl;exact rfl;exact hmA;(intro _;exact seA);omega)|(apply LO.appT0;exact rfl;exact rfl;exact hmA;(intro _;exact seA);omega)|fail);apply Qc;(intro _;(first|(focus(apply Or.inr;constructor;(repeat(first|exact List.Sublist.refl _|exact List.nil_sublist _|apply List.Sublist.cons_cons|apply List.Sublist.cons));(first|exact λ_ h=>h|(intro f hf;(repeat(first|exact hf|apply List.Mem.tail))));done))|(apply Or.inl;kernel_rfl))))|(apply WL.JU;rotate_left;exact rfl;exact rfl;(apply LO.bsB0))|(apply WD.JU;exact rfl;rotate_left;exact rfl;exact rfl;(apply LO.bsB0);apply Qc;(intro _;(first|(focus(apply Or.inr;constructor;(repeat(first|exact List.Sublist.refl _|exact List.nil_sublist _|apply List.Sublist.cons_cons|apply List.Sublist.cons));(first|exact λ_ h=>h|(intro f hf;(repeat(first|exact hf|apply List.Mem.tail))));done))|(apply Or.inl;kernel_rfl))))|((apply LO.bsB0);apply Qc;(intro _;(first|(focus(apply Or.inr;constructor;(repeat(first|exact List.Sublist.refl _|exact List.nil_sublist _|apply List.Sublist.cons_cons|apply List.Sublist.cons));(first|exact λ_ h=>h|(intro f hf;(repeat(first|exact hf|apply List.Mem.tail))));done))|(apply Or.inl;kernel_rfl))))|(apply WL.JU;rotate_left;exact rfl;exact rfl;(apply LO.bsT0))|(apply WD.JU;exact rfl;rotate_left;exact rfl;exact rfl;(apply LO.bsT0);apply Qc;(intro _;(first|(focus(apply Or.inr;constructor;(repeat(first|exact List.Sublist.refl _|exact List.nil_sublist _|apply List.Sublist.cons_cons|apply List.Sublist.cons));(first|exact λ_ h=>h|(intro f hf;(repeat(first|exact hf|apply List.Mem.tail))));done))|(apply Or.inl;kernel_rfl))))|((apply LO.bsT0);apply Qc;(intro _;(first|(focus(apply Or.inr;constructor;(repeat(first|exact List.Sublist.refl _|exact List.nil_sublist _|apply List.Sublist.cons_cons|apply List.Sublist.cons));(first|exact λ_ h=>h|(intro f hf;(repeat(first|exact hf|apply List.Mem.tail))));done))|(apply Or.inl;kernel_rfl))))|refine Go.Proofs.YtcpaopfdiahnnaaGreat.K.Q.goEV ?_|fail)
 exact Bx.h h):G:=s ⟨h⟩
def y_sc {G:Prop} (h:G:=by first|((apply U1;exact rfl;exact rfl;exact KnS.lo meA;exact KnS.lo meA);done)|fail):G:=h
def goYB {G G':Prop} (h:G') (s:Bx G'->G:=by
 intro h
 (first|(apply WD.yl;exact rfl;exact y_sc;exact rfl;exact rfl)|refine Go.Proofs.YtcpaopfdiahnnaaGreat.K.goYB ?_|fail)
 exact Bx.h h):G:=s ⟨h⟩
def goLY {G G':Prop} (h:G') (s:Bx G'->G:=by
 intro h
 (first|(apply LO.ofY;exact y_sc;constructor;exact(by(first|(focus(apply Or.inr;constructor;(repeat(first|exact List.Sublist.refl _|exact List.nil_sublist _|apply List.Sublist.cons_cons|apply List.Sublist.cons));(first|exact λ_ h=>h|(intro f hf;(repeat(first|exact hf|apply List.Mem.tail))));done))|(apply Or.inl;kernel_rfl))))|refine Go.Proofs.YtcpaopfdiahnnaaGreat.K.goLY ?_|fail)
 exact Bx.h h):G:=s ⟨h⟩
end R
end Q
end K
end
end Go.Proofs.YtcpaopfdiahnnaaGreat
