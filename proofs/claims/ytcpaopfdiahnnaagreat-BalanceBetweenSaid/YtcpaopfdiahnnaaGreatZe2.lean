/- Lemmas for a law. Conditions: none. -/
import Derived.Test.YtcpaopfdiahnnaaGreatZb37
import Derived.Test.YtcpaopfdiahnnaaGreatZe1
import Derived.Test.YtcpaopfdiahnnaaGreatZb24
import Derived.Test.YtcpaopfdiahnnaaGreatZb1
set_option linter.all false
set_option maxHeartbeats 32000000
set_option maxRecDepth 100000
namespace Go.Proofs.YtcpaopfdiahnnaaGreat
section
open W Go.RowKit
open Bl (Vc Bd Tc Sc)
namespace K
namespace Q
attribute [local irreducible] WC WL WD YO LO Qq W.Fin Qw Qu Qj Row QQ Qy KnS Has W.One Ql Qr
def d78 {G G':Prop} (h:G') (s:Bx G'->G:=by
 intro h;first|refine gF ?_|(apply WC.draw (id:=4) [0,1,2,3,5,6,7,8,11] (.h 0<|.h 1<|.h 2<|.h 3<|.h 5<|.h 6<|.h 7<|.h 8<|.l 4<|.l 9<|.l 10<|.h 11 .done) mixed kr)|fail
 exact Bx.h h):G:=s ⟨h⟩
def Ht (v:Value) (z:Int):FnB Tryz.prog 154 [v] [] [isZ v z] (IsV (.bool true)):=by
 refine fO [(0,v)] 41 Tryz.func154 Tryz.ntmps154 λh0=>?_;refine WC.QR (v:=v) (z:=z) hmA λn1 d1 hv hb1=>?_;subst hv;refine WC.fact (sI d1 (Qx z.natAbs)) (Qo hmA) ?_;have hd:=Qf z.natAbs;have hn:=Y5 z.natAbs;have hl:=@QK z.natAbs;generalize Qx z.natAbs=l at *;refine WC.K4 d1 l hmA λhlen=>?_;repeat'(first|intro(g:Nat)|refine gP ?_|intro v)
 revert g;intro g1;refine WC.keep (g:=g1) (t:=62) (cs:=[.bool n1,d1]) (by repeat(first|exact Rem.head|apply Rem.tail)) ?_;refine WC.lp (σ:=Nat) (λi=>[(3,.int .i64 (i:Int)),(1,ptr g1)]) (λ_=>[]) (λ_=>[ce g1 62 [.bool n1,d1],ge h0,sI d1 l]) (λi=>i<=l.length) (λi=>l.length - i) 0 (Nat.zero_le _) ?_;intro i hi;by_cases c:i < l.length
 ·have hdi:=hd.in i c;repeat'(first|intro(g:Nat)|refine gP ?_|intro v)
  exact Qq.mk (i+1) qo qo
 ·by_cases c0:l.length=0
  ·obtain rfl:n1=false:=by rw[hb1,decide_eq_false];have:=hl.1 c0;omega
   repeat'(first|intro(g:Nat)|refine gP ?_|intro v)
   refine WC.ret ?_;exact Fin.v (Qv.t1 rfl rfl) meA rfl
  ·have h1:=hn qo;rw[show l.length - 1=((l.length:Int) - 1).toNat by omega] at h1;repeat'(first|intro(g:Nat)|refine gP ?_|intro v)
   refine WC.ret ?_;exact Fin.v (Qv.t1 rfl rfl) meA rfl
def Xy (m:QM) (q:Rat) (hq:Sm q):FnB Tryz.prog 83 [qv m] [] [isQ (qv m) q] (IsV (.bool true)):=by
 refine fO [(0,(qv m))] 34 Tryz.func83 Tryz.ntmps83 λh0=>?_;refine WC.fact (isZ (.agg #[.bool m.1,m.2.1]) q.num) (Jg hmA) ?_;refine WC.fact (isZ (.agg #[.bool false,m.2.2]) (qz q)) (Vu hmA) ?_;refine WC.fact (sI m.2.2 (Qx (qz q).natAbs)) (Zm hmA) ?_;have hl:=@Zv q;repeat'(first|intro(g:Nat)|refine gP ?_|intro v)
 refine cV (Ht (.agg #[.bool m.1,m.2.1]) q.num) ?_;repeat'(first|intro(g:Nat)|refine gP ?_|intro v)
 refine cV (Ht (.agg #[.bool false,m.2.2]) (qz q)) ?_;repeat'(first|intro(g:Nat)|refine gP ?_|intro v)
 refine cV (Rp.UA (.agg #[.bool false,m.2.2]) (qz q)) ?_;have h1:qz q≠1:=by unfold qz;split <;> omega
 rw[decide_eq_false h1];by_cases c:q.den=1
 ·have h2:=hl.2 c;repeat'(first|intro(g:Nat)|refine gP ?_|intro v)
  refine WC.ret ?_;exact Fin.v (Qv.t1 rfl rfl) meA rfl
 ·have h2:(Qx (qz q).natAbs).length≠0:=λh=>c (hl.1 h);have h3:qz q=(q.den:Int):=by unfold qz;rw[if_neg c]
  have hgcd:Int.gcd q.num (qz q)=1:=by rw[h3];exact q.reduced
  repeat'(first|intro(g:Nat)|refine gP ?_|intro v)
  refine cK (Ro.rgcd_c (.agg #[.bool m.1,m.2.1]) (.agg #[.bool false,m.2.2]) q.num (qz q) (Sm.w hq.1) (by rw[h3,Int.natAbs_natCast];exact Sm.w hq.2)) ?_;rintro _ _ _ ⟨n1,d1,rfl,hb1,rfl,rfl⟩;refine sNn ?_;repeat'(first|intro(g:Nat)|refine gP ?_|intro v)
  refine cV (Rp.UA (.agg #[.bool n1,d1]) _) ?_;repeat'(first|intro(g:Nat)|refine gP ?_|intro v)
  refine WC.ret ?_;exact Fin.v (Qv.t1 rfl rfl) meA (by rw[hgcd];rfl)
def Gr (m:VM) (a:Vc) (K:Nat) (hK:K<=10000000) (ha:Sv K a):FnB Tryz.prog 134 [vv m] [] [fV m a] (IsV (.bool true)):=by
 refine fO [(0,(vv m))] 11 Tryz.func134 Tryz.ntmps134 λh0=>?_;repeat'(first|intro(g:Nat)|refine gP ?_|intro v)
 refine cV (Xy m.1 a.x (ha.1.sm qo)) ?_;repeat'(first|intro(g:Nat)|refine gP ?_|intro v)
 refine cV (Xy m.2 a.y (ha.2.sm qo)) ?_;repeat'(first|intro(g:Nat)|refine gP ?_|intro v)
 refine WC.ret ?_;exact Fin.v (Qv.t1 rfl rfl) meA rfl
def rbody_c (m:BM) (b:Bd) (K:Nat) (hK:K<=10000000) (hs:Sb K b) (hb:Bl.BdOk b):FnB Tryz.prog 77 [bv m] [] [fB m b] (IsV (.bool true)):=by
 refine fO [(0,(bv m))] 43 Tryz.func77 Tryz.ntmps77 λh0=>?_;refine WC.fact (fV m.c b.c) (W.Has.bc (bm:=m) hmA) ?_;refine WC.fact (isQ (qv m.lo) b.lo) (W.Has.bl (b:=b) hmA) ?_;refine WC.fact (isQ (qv m.hi) b.hi) (W.Has.bh (b:=b) hmA) ?_;refine WC.fact (isQ (qv m.st) b.st) (W.Has.bs (b:=b) hmA) ?_;have h1:=ZZ.2 hb.1;have h2:=Rat.not_lt.2 hb.2.1;have h3:=ZZ.2 hb.2.2;have h4:0<=J6 b.hi b.lo:=Int.not_lt.1 λh=>h2 (Kj.1 h);repeat'(first|intro(g:Nat)|refine gP ?_|intro v)
 refine cV (Gr m.c b.c K hK hs.1) ?_;repeat'(first|intro(g:Nat)|refine gP ?_|intro v)
 refine cV (Xy m.lo b.lo (hs.2.1.sm qo)) ?_;repeat'(first|intro(g:Nat)|refine gP ?_|intro v)
 refine cV (Xy m.hi b.hi (hs.2.2.1.sm qo)) ?_;repeat'(first|intro(g:Nat)|refine gP ?_|intro v)
 refine cV (Xy m.st b.st (hs.2.2.2.sm qo)) ?_;repeat'(first|intro(g:Nat)|refine gP ?_|intro v)
 refine cV (Zn.ZE m.lo b.lo) ?_;repeat'(first|intro(g:Nat)|refine gP ?_|intro v)
 refine cV (Zn.rcmp m.hi m.lo b.hi b.lo (hs.2.2.1.sm qo) (hs.2.1.sm qo)) ?_;repeat'(first|intro(g:Nat)|refine gP ?_|intro v)
 refine cV (Zn.ZE m.st b.st) ?_;repeat'(first|intro(g:Nat)|refine gP ?_|intro v)
 refine WC.ret ?_;exact Fin.v (Qv.t1 rfl rfl) meA rfl
def rtouch_c (m:ToM) (t:Tc) (n K:Nat) (hK:K<=1000000) (hs:St K t) (ht:Bl.Us n t) (hn:n<=1000):FnB Tryz.prog 78 [tv m t,.int .i64 (n:Int)] [] [fT m t] (IsV (.bool true)):=by
 refine fO [(0,(tv m t)),(1,(.int .i64 (n:Int)))] 94 Tryz.func78 Tryz.ntmps78 λh0=>?_;refine WC.fact (fV m.p t.p) (W.Has.tp (tm:=m) hmA) ?_;refine WC.fact (fV m.q t.q) (W.Has.tq (tm:=m) hmA) ?_;refine WC.fact (fV m.n t.n) (W.Has.tn (tm:=m) hmA) ?_;refine WC.fact (isQ (qv m.n.1) t.n.x) (W.Has.vx (m:=m.n) hmA) ?_;refine WC.fact (isQ (qv m.n.2) t.n.y) (W.Has.vy (m:=m.n) hmA) ?_;refine WC.fact (isQ (qv m.r) t.r) (W.Has.trr (t:=t) hmA) ?_;obtain⟨a1,a2,b1,b2,ab,r0,n0,pq⟩:=ht;have h1:0<=sgn t.r.num:=Int.not_lt.1 λh=>Rat.not_lt.2 r0 (JB.1 h);repeat'(first|intro(g:Nat)|refine d78 ?_|intro v)
 refine cV (Gr m.p t.p K qo hs.1) ?_;repeat'(first|intro(g:Nat)|refine d78 ?_|intro v)
 refine cV (Gr m.q t.q K qo hs.2.1) ?_;repeat'(first|intro(g:Nat)|refine d78 ?_|intro v)
 refine cV (Gr m.n t.n K qo hs.2.2.1) ?_;repeat'(first|intro(g:Nat)|refine d78 ?_|intro v)
 refine cV (Xy m.r t.r (hs.2.2.2.sm qo)) ?_;repeat'(first|intro(g:Nat)|refine d78 ?_|intro v)
 refine cW (rvdot_c m.n m.q t.n t.q K qo hs.2.2.1 hs.2.1) λn1=>?_;repeat'(first|intro(g:Nat)|refine d78 ?_|intro v)
 refine cW (rvdot_c m.n m.p t.n t.p K qo hs.2.2.1 hs.1) λn2=>?_;repeat'(first|intro(g:Nat)|refine d78 ?_|intro v)
 refine cV (Zn.rsame n1 n2 (t.n.x*t.q.x+t.n.y*t.q.y) (t.n.x*t.p.x+t.n.y*t.p.y)) ?_;rw[decide_eq_true (show t.n.x*t.q.x+t.n.y*t.q.y=t.n.x*t.p.x+t.n.y*t.p.y by have:t.n.x*(t.q.x - t.p.x)+t.n.y*(t.q.y - t.p.y)=0:=pq;grind)];repeat'(first|intro(g:Nat)|refine d78 ?_|intro v)
 refine cV (Zn.ZE m.n.1 t.n.x) ?_;by_cases hx:t.n.x=0
 ·have hx1:=QS.2 hx;have hy:¬sgn t.n.y.num=0:=λh=>n0 ⟨hx,QS.1 h⟩;repeat'(first|intro(g:Nat)|refine d78 ?_|intro v)
  refine cV (Zn.ZE m.n.2 t.n.y) ?_;repeat'(first|intro(g:Nat)|refine d78 ?_|intro v)
  refine cV (Zn.ZE m.r t.r) ?_;repeat'(first|intro(g:Nat)|refine d78 ?_|intro v)
  refine WC.ret ?_;exact Fin.v (Qv.t1 rfl rfl) meA rfl
 ·have hx1:¬sgn t.n.x.num=0:=λh=>hx (QS.1 h);repeat'(first|intro(g:Nat)|refine d78 ?_|intro v)
  refine cV (Zn.ZE m.r t.r) ?_;repeat'(first|intro(g:Nat)|refine d78 ?_|intro v)
  refine WC.ret ?_;exact Fin.v (Qv.t1 rfl rfl) meA rfl
def rvalid_c (M:SM) (S:Sc) (K:Nat) (hK:K<=1000000) (hs:Ss K S) (ho:S.ok):FnB Tryz.prog 23 [M.l,M.t] [] [fSl M S,fSt M S] (IsV (.int .i64 0)):=by
 refine fO [(0,M.l),(1,M.t)] 41 Tryz.func23 Tryz.ntmps23 λh0=>?_;have hn:=ho.n;have hm:=ho.m;repeat'(first|intro(g:Nat)|refine gP ?_|intro v)
 refine WC.Xf (σ:=Unit) (λ_=>[(0,M.l),(1,M.t)]) (λ_=>[]) (λ_=>[ge h0,fSl M S,fSt M S]) (λ_=>True) ?_ ?_
 ·refine WC.lp (σ:=Nat) (λi=>[(5,.int .i64 (i:Int)),(0,M.l),(1,M.t)]) (λ_=>[]) (λ_=>[ge h0,fSl M S,fSt M S]) (λi=>i<=S.n) (λi=>S.n - i) 0 (Nat.zero_le _) ?_;intro i hi;by_cases c:i < S.n
  ·refine WC.fact (fB (M.B i) (S.B i)) (W.Has.lk (S:=Qm) (v:=M.l) hmA c) ?_;repeat'(first|intro(g:Nat)|refine gP ?_|intro v)
   refine cV (rbody_c (M.B i) (S.B i) K qo (hs.B i c) (ho.B i c)) ?_;repeat'(first|intro(g:Nat)|refine gP ?_|intro v)
   exact Qq.mk (i+1) qo qo
  ·obtain rfl:i=S.n:=qo;repeat'(first|intro(g:Nat)|refine gP ?_|intro v)
   exact QZ () trivial
 ·rintro⟨⟩ _;repeat'(first|intro(g:Nat)|refine gP ?_|intro v)
  refine WC.lp (σ:=Nat) (λi=>[(6,.int .i64 (i:Int)),(0,M.l),(1,M.t)]) (λ_=>[]) (λ_=>[ge h0,fSl M S,fSt M S]) (λi=>i<=S.m) (λi=>S.m - i) 0 (Nat.zero_le _) ?_;intro i hi;by_cases c:i < S.m
  ·refine WC.fact (fT (M.T i) (S.T i)) (W.Has.lk (S:=Qb) (v:=M.t) hmA c) ?_;repeat'(first|intro(g:Nat)|refine gP ?_|intro v)
   refine cV (rtouch_c (M.T i) (S.T i) S.n K hK (hs.T i c) (ho.T i c) qo) ?_;repeat'(first|intro(g:Nat)|refine gP ?_|intro v)
   exact Qq.mk (i+1) qo qo
  ·obtain rfl:i=S.m:=qo;repeat'(first|intro(g:Nat)|refine gP ?_|intro v)
   refine WC.ret ?_;exact Fin.v (Qv.t1 rfl rfl) meA rfl
def HX (pv:Value) (n K:Nat) (mp:Nat->VM) (xs:Nat->Vc) (hn:n<=1000) (hK:K<=400000000) (hx:∀ k,k < n->Sv K (xs k)):FnB Tryz.prog 86 [pv,.int .i64 (n:Int)] [] [lF QD pv n mp xs] (IsV (.bool true)):=by
 refine fO [(0,pv),(1,(.int .i64 (n:Int)))] 35 Tryz.func86 Tryz.ntmps86 λh0=>?_;repeat'(first|intro(g:Nat)|refine gP ?_|intro v)
 refine WC.lp (σ:=Nat) (λi=>[(6,.int .i64 (i:Int)),(5,.bool true),(0,pv)]) (λ_=>[]) (λ_=>[ge h0,lF QD pv n mp xs]) (λi=>i<=n) (λi=>n - i) 0 (Nat.zero_le _) ?_;intro i hi;by_cases c:i < n
 ·refine WC.fact (fV (mp i) (xs i)) (W.Has.lk (S:=QD) (v:=pv) hmA c) ?_;refine WC.fact (isQ (qv (mp i).1) (xs i).x) (W.Has.vx (m:=mp i) hmA) ?_;refine WC.fact (isQ (qv (mp i).2) (xs i).y) (W.Has.vy (m:=mp i) hmA) ?_;repeat'(first|intro(g:Nat)|refine gP ?_|intro v)
  refine cV (Xy (mp i).1 (xs i).x ((hx i c).1.sm qo)) ?_;repeat'(first|intro(g:Nat)|refine gP ?_|intro v)
  refine cV (Xy (mp i).2 (xs i).y ((hx i c).2.sm qo)) ?_;repeat'(first|intro(g:Nat)|refine gP ?_|intro v)
  exact Qq.mk (i+1) qo qo
 ·obtain rfl:i=n:=qo;repeat'(first|intro(g:Nat)|refine gP ?_|intro v)
  refine WC.ret ?_;exact Fin.v (Qv.t1 rfl rfl) meA rfl
end Q
end K
end
section
open W Go.RowKit
open Bl (Vc Bd Tc Sc)
def stK_step {S:Sc} {xs:Nat->Vc} {k i j:Nat} (hj:k / 2=j):stK S xs (k+1) i=stK S xs k i+(if Bl.tch (S.T j) i then Bl.spn (S.T j).n*(xs k).x else 0):=by subst hj;rfl
def GW {S:Sc} {xs:Nat->Vc} {K Kp E:Nat} (hs:Ss K S) (hx:∀ k,k < 2*S.m->Sv Kp (xs k)) (hE:2*S.m*(Kp+2*K+5)+1<=E) {k:Nat} (hk:k<=2*S.m) (i:Nat):Sq E (stK S xs k i):=by
 have h1:=X.XC (m:=k) (f:=λj=>if Bl.tch (S.T (j / 2)) i then Bl.spn (S.T (j / 2)).n*(xs j).x else 0) (k:=Kp+2*K+4) λj hj=>by
  show Sq _ (if _ then _ else _);split
  ·have ht:=(hs.T (j / 2) qo).2.2.1;unfold Bl.spn;exact((ht.1.ab.add ht.2.ab).mul (hx j qo).1).up qo
  ·exact Sq.zero.up qo
 have h2:k*(Kp+2*K+4+1)<=2*S.m*(Kp+2*K+5):=Nat.mul_le_mul_right _ hk;exact h1.up qo
namespace K
namespace Q
namespace R
attribute [local irreducible] WC WL WD YO LO Qq W.Fin Qw Qu Qj Row QQ Qy KnS Has W.One Ql Qr
def d50 {G G':Prop} (h:G') (s:Bx G'->G:=by
 intro h;first|refine gF ?_|(apply WC.draw (id:=12) [0,1,2,3,4,5,6,7,8,9,10,11] (.h 0<|.h 1<|.h 2<|.h 3<|.h 4<|.h 5<|.h 6<|.h 7<|.h 8<|.h 9<|.h 10<|.h 11<|.l 12<|.l 13<|.l 14<|.l 15 .done) mixed kr)|fail
 exact Bx.h h):G:=s ⟨h⟩
def rstress_c (M:SM) (S:Sc) (pv:Value) (mp:Nat->VM) (xs:Nat->Vc) (K Kp E:Nat) (hK:K<=1000000) (hKp:Kp<=10000000) (hE:2*S.m*(Kp+2*K+5)+1<=E) (hE2:E<=400000000) (hs:Ss K S) (ho:S.ok) (hx:∀ k,k < 2*S.m->Sv Kp (xs k)):FnB Tryz.prog 50 [M.l,M.t,pv] [] [fSl M S,fSt M S,lF QD pv (2*S.m) mp xs] (IsF S.n (stK S xs (2*S.m))):=by
 refine fO [(0,M.l),(1,M.t),(2,pv)] 73 Tryz.func50 Tryz.ntmps50 λh0=>?_;have hn:=ho.n;have hm:=ho.m;have hmc:(2*(S.m:Int))=((2*S.m:Nat):Int):=qo;refine WC.Jd 64 4 ?_;repeat'(first|intro(g:Nat)|refine d50 ?_|intro v)
 refine cV (rvalid_c M S K hK hs ho) ?_;repeat'(first|intro(g:Nat)|refine d50 ?_|intro v)
 rw[hmc];refine cV (HX pv (2*S.m) Kp mp xs qo qo hx) ?_;repeat'(first|intro(g:Nat)|refine d50 ?_|intro v)
 refine WC.lp (σ:=Nat×Value×(Nat->QM)) (λst=>[(8,.int .i64 (st.1:Int)),(7,st.2.1),(0,M.l),(1,M.t),(2,pv)]) (λst=>[Ow.slice st.2.1 64 4 (Qe st.1 st.2.2)]) (λst=>[mF st.1 st.2.2 (stK S xs (2*S.m)),ge h0,lF QD pv (2*S.m) mp xs,fSl M S,fSt M S]) (λst=>st.1<=S.n) (λst=>S.n - st.1) (0,.slice none 0 0,λ_=>m00) (Nat.zero_le _) ?_ (hG:=.cons (W.Has.mFn _ _) haA);rintro⟨i,v,ms⟩ hi;simp only at hi ⊢;by_cases c1:i < S.n
 ·repeat'(first|intro(g:Nat)|refine d50 ?_|intro v)
  revert g;intro g9;refine WC.Xf (σ:=QM) (λ_=>[(9,ptr g9),(8,.int .i64 (i:Int)),(7,v),(0,M.l),(1,M.t),(2,pv)]) (λmq=>[Ow.cells g9 64 (qcs mq),Ow.slice v 64 4 (Qe i ms)]) (λmq=>[isQ (qv mq) (stK S xs (2*S.m) i),mF i ms (stK S xs (2*S.m)),ge h0,lF QD pv (2*S.m) mp xs,fSl M S,fSt M S]) (λ_=>True) ?_ ?_
  ·refine WC.lp (σ:=Nat×QM) (λst=>[(10,.int .i64 (st.1:Int)),(9,ptr g9),(8,.int .i64 (i:Int)),(7,v),(0,M.l),(1,M.t),(2,pv)]) (λst=>[Ow.cells g9 64 (qcs st.2),Ow.slice v 64 4 (Qe i ms)]) (λst=>[isQ (qv st.2) (stK S xs st.1 i),mF i ms (stK S xs (2*S.m)),ge h0,lF QD pv (2*S.m) mp xs,fSl M S,fSt M S]) (λst=>st.1<=2*S.m) (λst=>2*S.m - st.1) (0,m00) (Nat.zero_le _) ?_ (hG:=.cons (show W.Has _ (isQ (qv m00) (stK S xs 0 i)) from Jy) haA);rintro⟨k,mq⟩ hk;simp only at hk ⊢;by_cases d:k < 2*S.m
   ·obtain⟨j,hq⟩:∃ j:Nat,(k:Int) / 2=(j:Int):=⟨k / 2,by omega⟩
    have hkj:k / 2=j:=qo;have hj:j < S.m:=qo;refine WC.fact (fV (mp k) (xs k)) (W.Has.lk (S:=QD) (v:=pv) hmA d) ?_;refine WC.fact (isQ (qv (mp k).1) (xs k).x) (W.Has.vx (m:=mp k) hmA) ?_;refine WC.fact (fT (M.T j) (S.T j)) (W.Has.lk (S:=Qb) (v:=M.t) hmA hj) ?_;refine WC.fact (fV (M.T j).n (S.T j).n) (W.Has.tn (tm:=M.T j) hmA) ?_;have hsn:Sv K (S.T j).n:=(hs.T j hj).2.2.1;have hsp:Sq (2*K+1) (Bl.spn (S.T j).n):=(hsn.1.ab.add hsn.2.ab).up qo;have hz:Sq (Kp+2*K+4) ((xs k).x*Bl.spn (S.T j).n):=((hx k d).1.mul hsp).up qo;by_cases ht:Bl.tch (S.T j) i
    ·have hst:=stK_step (S:=S) (xs:=xs) (i:=i) hkj;rw[if_pos ht,Rat.mul_comm] at hst;rcases(show(S.T j).a=(i:Int)∨¬(S.T j).a=(i:Int)∧(S.T j).b=(i:Int) by have:_∨_:=ht;omega) with ha|⟨ha,hb⟩
     ·repeat'(first|intro(g:Nat)|refine d50 ?_|intro v)
      refine cW (rspan_c (M.T j).n (S.T j).n K hK hsn) λn1=>?_;repeat'(first|intro(g:Nat)|refine d50 ?_|intro v)
      refine cW (Zn.Zh (mp k).1 n1 (xs k).x (Bl.spn (S.T j).n) ((hx k d).1.sm qo) (hsp.sm qo)) λn2=>?_;repeat'(first|intro(g:Nat)|refine d50 ?_|intro v)
      refine cW (Zn.UZ mq n2 (stK S xs k i) ((xs k).x*Bl.spn (S.T j).n) ((GW hs hx hE hk _).sm qo) (hz.sm qo)) λn3=>?_;repeat'(first|intro(g:Nat)|refine d50 ?_|intro v)
      exact Qq.mk (k+1,n3) (by simp only;omega) (by simp only;omega) (hG:=.cons (by rw[hst];exact hmA) haA)
     ·repeat'(first|intro(g:Nat)|refine d50 ?_|intro v)
      refine cW (rspan_c (M.T j).n (S.T j).n K hK hsn) λn1=>?_;repeat'(first|intro(g:Nat)|refine d50 ?_|intro v)
      refine cW (Zn.Zh (mp k).1 n1 (xs k).x (Bl.spn (S.T j).n) ((hx k d).1.sm qo) (hsp.sm qo)) λn2=>?_;repeat'(first|intro(g:Nat)|refine d50 ?_|intro v)
      refine cW (Zn.UZ mq n2 (stK S xs k i) ((xs k).x*Bl.spn (S.T j).n) ((GW hs hx hE hk _).sm qo) (hz.sm qo)) λn3=>?_;repeat'(first|intro(g:Nat)|refine d50 ?_|intro v)
      exact Qq.mk (k+1,n3) (by simp only;omega) (by simp only;omega) (hG:=.cons (by rw[hst];exact hmA) haA)
    ·have hst:=stK_step (S:=S) (xs:=xs) (i:=i) hkj;rw[if_neg ht,Rat.add_zero] at hst;have ha:¬(S.T j).a=(i:Int):=λh=>ht (.inl h);have hb:¬(S.T j).b=(i:Int):=λh=>ht (.inr h);repeat'(first|intro(g:Nat)|refine d50 ?_|intro v)
     exact Qq.mk (k+1,mq) (by simp only;omega) (by simp only;omega) (hG:=.cons (by rw[hst];exact hmA) haA)
   ·obtain rfl:k=2*S.m:=qo;repeat'(first|intro(g:Nat)|refine d50 ?_|intro v)
    exact QZ mq trivial
  ·intro mq _;repeat'(first|intro(g:Nat)|refine d50 ?_|intro v)
   exact Qq.mk (i+1,_,upd ms i mq) (by simp only;omega) (by simp only;omega) (hG:=.cons (W.Has.QW (W.Has.Ul (qf:=stK S xs (2*S.m)) hmA (m:=mq) (z:=stK S xs (2*S.m) i) hmA) (λk hk=>by unfold upd;split;(rename_i e;rw[e]);rfl)) haA)
 ·obtain rfl:i=S.n:=qo;repeat'(first|intro(g:Nat)|refine d50 ?_|intro v)
  refine WC.Jh v S.n ms (stK S xs (2*S.m)) (by repeat(first|exact Sel.head|apply Sel.tail)) hmA ?_;refine WC.ret ?_;exact Fp [fF v S.n ms (stK S xs (2*S.m))] (Qv.t1 rfl rfl) haA ⟨ms,rfl,rfl⟩
end R
end Q
end K
end
section
open W Go.RowKit
open Bl (Vc Bd Tc Sc)
def pfz (S:Sc) (xs:Nat->Vc) (i k:Nat):Vc:=⟨X.sm k (λj=>(oE S xs i j).x),X.sm k (λj=>(oE S xs i j).y)⟩
section
variable {S:Sc} {xs:Nat->Vc} {K Kp A B C:Nat}
def Gw (h0K:0 < K) (hs:Ss K S) (hx:∀ k,k < 2*S.m->Sv Kp (xs k)) (hA:2*Kp+2*K+5<=A) {i k:Nat} (hk:k < 2*S.m):Sv A (oE S xs i k):=by
 have hnn:=(hs.T (k / 2) qo).2.2.1;have hf:Sv A (Bl.frc (S.T (k / 2)) (xs k).x (xs k).y):=⟨(((hx k hk).1.mul hnn.1).sub ((hx k hk).2.mul hnn.2)).up qo,(((hx k hk).1.mul hnn.2).add ((hx k hk).2.mul hnn.1)).up qo⟩
 exact on_sz qo hf
def pfz_sz (h0K:0 < K) (hs:Ss K S) (hx:∀ k,k < 2*S.m->Sv Kp (xs k)) (hA:2*Kp+2*K+5<=A) (hC:2*S.m*(A+1)+1<=C) {i k:Nat} (hk:k<=2*S.m):Sv C (pfz S xs i k):=by
 have h1:=X.XC (m:=k) (f:=λj=>(oE S xs i j).x) (k:=A) λj hj=>(Gw h0K hs hx hA (i:=i) (show j < 2*S.m by omega)).1;have h2:=X.XC (m:=k) (f:=λj=>(oE S xs i j).y) (k:=A) λj hj=>(Gw h0K hs hx hA (i:=i) (show j < 2*S.m by omega)).2;have h3:=Nat.mul_le_mul_right (A+1) hk;exact⟨h1.up qo,h2.up qo⟩
def tqx_szG (h0K:0 < K) (hs:Ss K S) (hx:∀ k,k < 2*S.m->Sv Kp (xs k)) (hA:2*Kp+2*K+5<=A) (hB:2*A+4*K+9<=B) (hC:2*S.m*(B+1)+1<=C) {i k:Nat} (hi:i < S.n) (hk:k<=2*S.m):Sq C (tqx S xs i k)∧∀ j,j < 2*S.m->Sq B (Bl.Jw (Bl.Q4 (S.at j) (S.B i).c) (oE S xs i j)):=by
 have hc:∀ j,j < 2*S.m->Sq B (Bl.Jw (Bl.Q4 (S.at j) (S.B i).c) (oE S xs i j)):=λj hj=>by
  have ht:=hs.T (j / 2) qo
  have hat:Sv K (S.at j):=by
   unfold Bl.Sc.at;split
   ·exact ht.1
   ·exact ht.2.1
  have ho:=Gw h0K hs hx hA (i:=i) hj;exact(((hat.1.sub (hs.B i hi).1.1).mul ho.2).sub ((hat.2.sub (hs.B i hi).1.2).mul ho.1)).up qo
 have h1:=X.XC (m:=k) (f:=λj=>Bl.Jw (Bl.Q4 (S.at j) (S.B i).c) (oE S xs i j)) (k:=B) λj hj=>hc j qo;have h3:=Nat.mul_le_mul_right (B+1) hk;exact⟨h1.up qo,hc⟩
end
def Kr {S:Sc} {w:Nat->Rat} {xs:Nat->Vc} {i:Nat}:okB S w xs i↔(pfz S xs i (2*S.m)).x=0∧(pfz S xs i (2*S.m)).y=w i∧tqx S xs i (2*S.m)=0∧stK S xs (2*S.m) i<=(S.B i).st:=by
 have:(pfx S w xs i (2*S.m)).y= -(w i)+(pfz S xs i (2*S.m)).y:=rfl;constructor
 ·rintro⟨⟨h1,h2⟩,h3,h4⟩;exact⟨h1,by grind,h3,h4⟩
 ·rintro⟨h1,h2,h3,h4⟩;exact⟨⟨h1,by grind⟩,h3,h4⟩
def ab_le {q r:Rat}:Bl.ab q<=r↔q<=r∧-q<=r:=by unfold Bl.ab;split <;> constructor <;> intro h <;> grind
def ab_okE {S:Sc} {xs:Nat->Vc} {k j:Nat} (hj:k / 2=j):okE S xs k↔0<=(xs k).x∧Bl.ab (xs k).y<=(S.T j).r*(xs k).x:=by
 subst hj;unfold okE;rw[ab_le]
namespace K
namespace Q
namespace R
attribute [local irreducible] WC WL WD YO LO Qq W.Fin Qw Qu Qj Row QQ Qy KnS Has W.One Ql Qr
def d29 {G G':Prop} (h:G') (s:Bx G'->G:=by
 intro h;first|refine gE ?_|(apply WC.draw (id:=6) [0,1,2,3,4,6,7,8,9,10,11,12,14,15,16,17,18,19,20,21,22,23,24,27,28] (.h 0<|.h 1<|.h 2<|.h 3<|.h 4<|.l 5<|.h 6<|.h 7<|.h 8<|.h 9<|.h 10<|.h 11<|.h 12<|.h 14<|.h 15<|.h 16<|.h 17<|.h 18<|.h 19<|.h 20<|.h 21<|.h 22<|.h 23<|.h 24<|.l 13<|.l 25<|.l 26<|.h 27<|.h 28 .done) mixed kr)|(apply WC.draw (id:=17) [0,1,2,3,4,5,6,7,8,9] (.h 0<|.h 1<|.h 2<|.h 3<|.h 4<|.h 5<|.h 6<|.h 7<|.h 8<|.h 9<|.m 10 (.l 11<|.l 12 .done) (.l 11<|.l 10<|.l 12 .done)) mixed kr)|(apply WC.draw (id:=19) [0,1,2,3,5,6,7,8,9] (.h 0<|.h 1<|.h 2<|.h 3<|.h 5<|.h 6<|.h 7<|.h 8<|.h 9<|.l 4<|.l 10<|.l 11<|.l 12 .done) mixed kr)|(apply WC.draw (id:=20) [0,1,3,4,5,6,7,8,9,10,12,13,14,15,17,18,19,20,21,22,23,24,25,26,27,28,30,31] (.h 0<|.h 1<|.l 2<|.h 3<|.h 4<|.h 5<|.h 6<|.h 7<|.h 8<|.h 9<|.h 10<|.l 11<|.h 12<|.h 13<|.h 14<|.h 15<|.l 16<|.h 17<|.h 18<|.h 19<|.h 20<|.h 21<|.h 22<|.h 23<|.h 24<|.h 25<|.h 26<|.h 27<|.h 28<|.l 29<|.h 30<|.h 31 .done) mixed kr)|fail
 exact Bx.h h):G:=s ⟨h⟩
def rbal_c (M:SM) (S:Sc) (wv pv:Value) (mw:Nat->QM) (w:Nat->Rat) (mp:Nat->VM) (xs:Nat->Vc) (K Kp A B C D E:Nat) (h0K:0 < K) (hK:K<=1000) (hKp:Kp<=10000000) (hA:2*Kp+2*K+5<=A) (hA2:A<=9000000) (hB:2*A+4*K+9<=B) (hB2:B<=100000000) (hC:2*S.m*(A+1)+1<=C) (hC2:A+C<=100000000) (hD:2*S.m*(B+1)+1<=D) (hD2:D<=400000000) (hE:2*S.m*(Kp+2*K+5)+1<=E) (hE2:E<=400000000) (hs:Ss K S) (ho:S.ok) (hw:∀ i,i < S.n->Sq K (w i)) (hx:∀ k,k < 2*S.m->Sv Kp (xs k)) :
  FnB Tryz.prog 29 [M.l,M.t,wv,pv] [] [fSl M S,fSt M S,fF wv S.n mw w,lF QD pv (2*S.m) mp xs] (IsBo (BalX S w xs)):=by
 refine fO [(0,M.l),(1,M.t),(2,wv),(3,pv)] 131 Tryz.func29 Tryz.ntmps29 λh0=>?_;have hn:=ho.n;have hm:=ho.m;have hmc:(2*(S.m:Int))=((2*S.m:Nat):Int):=qo;repeat'(first|intro(g:Nat)|refine d29 ?_|refine gN ?_ ?_|intro v)
 rw[hmc];refine cV (HX pv (2*S.m) Kp mp xs qo qo hx) ?_;repeat'(first|intro(g:Nat)|refine d29 ?_|refine gN ?_ ?_|intro v)
 refine WC.Xf (σ:=Unit) (λ_=>[(0,M.l),(1,M.t),(2,wv),(3,pv)]) (λ_=>[]) (λ_=>[ge h0,lF QD pv (2*S.m) mp xs,fF wv S.n mw w,fSl M S,fSt M S]) (λ_=>∀ k,k < 2*S.m->okE S xs k) ?_ ?_
 ·refine WC.lp (σ:=Nat) (λk=>[(9,.int .i64 (k:Int)),(0,M.l),(1,M.t),(2,wv),(3,pv)]) (λ_=>[]) (λ_=>[ge h0,lF QD pv (2*S.m) mp xs,fF wv S.n mw w,fSl M S,fSt M S]) (λk=>k<=2*S.m∧∀ j,j < k->okE S xs j) (λk=>2*S.m - k) 0 ⟨Nat.zero_le _,λj h=>absurd h qo⟩ ?_;rintro k ⟨hk,hok⟩;by_cases d:k < 2*S.m
  ·obtain⟨j,hq⟩:∃ j:Nat,(k:Int) / 2=(j:Int):=⟨k / 2,by omega⟩
   have hkj:k / 2=j:=qo;have hj:j < S.m:=qo;refine WC.fact (fV (mp k) (xs k)) (W.Has.lk (S:=QD) (v:=pv) hmA d) ?_;refine WC.fact (isQ (qv (mp k).1) (xs k).x) (W.Has.vx (m:=mp k) hmA) ?_;refine WC.fact (isQ (qv (mp k).2) (xs k).y) (W.Has.vy (m:=mp k) hmA) ?_;refine WC.fact (fT (M.T j) (S.T j)) (W.Has.lk (S:=Qb) (v:=M.t) hmA hj) ?_;refine WC.fact (isQ (qv (M.T j).r) (S.T j).r) (W.Has.trr (tm:=M.T j) hmA) ?_;have hr:Sq K (S.T j).r:=(hs.T j hj).2.2.2;have hrx:Sq (Kp+K+2) ((S.T j).r*(xs k).x):=(hr.mul (hx k d).1).up qo;have hsg:=@JB (xs k).x;have hE:=ab_okE (S:=S) (xs:=xs) hkj;repeat'(first|intro(g:Nat)|refine d29 ?_|refine gN ?_ ?_|intro v)
   refine cV (Zn.ZE (mp k).1 (xs k).x) ?_;by_cases h1:(xs k).x < 0
   ·have hs1:=hsg.2 h1;repeat'(first|intro(g:Nat)|refine d29 ?_|refine gN ?_ ?_|intro v)
    refine WC.ret ?_;exact Fp [] (Qv.t1 rfl rfl) .nil ⟨false,rfl,⟨λh=>absurd h qd,λh=>absurd (h.1 k d).1 (by grind)⟩,rfl,rfl⟩
   ·have hs1:¬sgn (xs k).x.num < 0:=λh=>h1 (hsg.1 h);repeat'(first|intro(g:Nat)|refine d29 ?_|refine gN ?_ ?_|intro v)
    refine cW (size_c (mp k).2 (xs k).y) λn1=>?_;repeat'(first|intro(g:Nat)|refine d29 ?_|refine gN ?_ ?_|intro v)
    refine cW (Zn.Zh (M.T j).r (mp k).1 (S.T j).r (xs k).x (hr.sm qo) ((hx k d).1.sm qo)) λn2=>?_;repeat'(first|intro(g:Nat)|refine d29 ?_|refine gN ?_ ?_|intro v)
    refine cV (Zn.rcmp n1 n2 (Bl.ab (xs k).y) ((S.T j).r*(xs k).x) ((hx k d).2.ab.sm qo) (hrx.sm qo)) ?_;by_cases h2:(S.T j).r*(xs k).x < Bl.ab (xs k).y
    ·have hs2:=Jm.2 h2;repeat'(first|intro(g:Nat)|refine d29 ?_|refine gN ?_ ?_|intro v)
     refine WC.ret ?_;exact Fp [] (Qv.t1 rfl rfl) .nil ⟨false,rfl,⟨λh=>absurd h qd,λh=>absurd (hE.1 (h.1 k d)).2 (by grind)⟩,rfl,rfl⟩
    ·have hs2:¬0 < J6 (Bl.ab (xs k).y) ((S.T j).r*(xs k).x):=λh=>h2 (Jm.1 h);repeat'(first|intro(g:Nat)|refine d29 ?_|refine gN ?_ ?_|intro v)
     refine Qq.mk (k+1) ⟨by omega,λi hi=>?_⟩ qo;by_cases e:i=k
     ·subst e;exact hE.2 ⟨by grind,by grind⟩
     ·exact hok i qo
  ·obtain rfl:k=2*S.m:=qo;repeat'(first|intro(g:Nat)|refine d29 ?_|refine gN ?_ ?_|intro v)
   exact QZ () hok
 ·rintro⟨⟩ hokE;repeat'(first|intro(g:Nat)|refine d29 ?_|refine gN ?_ ?_|intro v)
  refine cK (rstress_c M S pv mp xs K Kp E qo qo hE hE2 hs ho hx) ?_;rintro sv _ _ ⟨mst,rfl,rfl⟩;refine sNn ?_;repeat'(first|intro(g:Nat)|refine d29 ?_|refine gN ?_ ?_|intro v)
  refine WC.lp (σ:=Nat) (λi=>[(11,.int .i64 (i:Int)),(10,sv),(0,M.l),(1,M.t),(2,wv),(3,pv)]) (λ_=>[]) (λ_=>[ge h0,lF QD pv (2*S.m) mp xs,fF wv S.n mw w,fF sv S.n mst (stK S xs (2*S.m)),fSl M S,fSt M S]) (λi=>i<=S.n∧∀ j,j < i->okB S w xs j) (λi=>S.n - i) 0 ⟨Nat.zero_le _,λj h=>absurd h qo⟩ ?_;rintro i ⟨hi,hokB⟩;by_cases d:i < S.n
  ·repeat'(first|intro(g:Nat)|refine d29 ?_|refine gN ?_ ?_|intro v)
   revert g;intro g13;revert g;intro g12;refine WC.fact (fB (M.B i) (S.B i)) (W.Has.lk (S:=Qm) (v:=M.l) hmA d) ?_;refine WC.fact (fV (M.B i).c (S.B i).c) (W.Has.bc (bm:=M.B i) hmA) ?_;refine WC.Xf (σ:=VM×QM) (λst=>[(11,.int .i64 (i:Int)),(12,ptr g12),(13,ptr g13),(10,sv),(0,M.l),(1,M.t),(2,wv),(3,pv)]) (λst=>[Ow.cells g13 64 (qcs st.2),Ow.cells g12 75 (vcs st.1)]) (λst=>[fV st.1 (pfz S xs i (2*S.m)),isQ (qv st.2) (tqx S xs i (2*S.m)),fB (M.B i) (S.B i),ge h0,lF QD pv (2*S.m) mp xs,fF wv S.n mw w,fF sv S.n mst (stK S xs (2*S.m)),fSl M S,fSt M S]) (λ_=>True) ?_ ?_
   ·refine WC.lp (σ:=Nat×VM×QM) (λst=>[(14,.int .i64 (st.1:Int)),(11,.int .i64 (i:Int)),(12,ptr g12),(13,ptr g13),(10,sv),(0,M.l),(1,M.t),(2,wv),(3,pv)]) (λst=>[Ow.cells g13 64 (qcs st.2.2),Ow.cells g12 75 (vcs st.2.1)]) (λst=>[fV st.2.1 (pfz S xs i st.1),isQ (qv st.2.2) (tqx S xs i st.1),fV (M.B i).c (S.B i).c,fB (M.B i) (S.B i),ge h0,lF QD pv (2*S.m) mp xs,fF wv S.n mw w,fF sv S.n mst (stK S xs (2*S.m)),fSl M S,fSt M S]) (λst=>st.1<=2*S.m) (λst=>2*S.m - st.1) (0,(m00,m00),m00) (Nat.zero_le _) ?_ (hG:=.cons (show W.Has _ (fV (m00,m00) (pfz S xs i 0)) from hasV0) (.cons (show W.Has _ (isQ (qv m00) (tqx S xs i 0)) from Jy) haA));rintro⟨k,vm,mt⟩ hk;simp only at hk ⊢;by_cases d2:k < 2*S.m
    ·obtain⟨j,hq⟩:∃ j:Nat,(k:Int) / 2=(j:Int):=⟨k / 2,by omega⟩
     have hkj:k / 2=j:=qo;have hj:j < S.m:=qo;refine WC.fact (fV (mp k) (xs k)) (W.Has.lk (S:=QD) (v:=pv) hmA d2) ?_;refine WC.fact (fT (M.T j) (S.T j)) (W.Has.lk (S:=Qb) (v:=M.t) hmA hj) ?_;have hnn:Sv K (S.T j).n:=(hs.T j hj).2.2.1
     have hat:Sv K (S.at k):=by
         unfold Bl.Sc.at;split
         ·exact(hs.T _ qo).1
         ·exact(hs.T _ qo).2.1
     have hoE:=Gw h0K hs hx hA (i:=i) d2;have hpf:=pfz_sz h0K hs hx hA hC (i:=i) (k:=k) hk;have htq:=tqx_szG h0K hs hx hA hB hD (i:=i) (k:=k) d hk;have hoE':Bl.on (S.T j) i (Bl.frc (S.T j) (xs k).x (xs k).y)=oE S xs i k:=by unfold oE;rw[hkj]
     repeat'(first|intro(g:Nat)|refine d29 ?_|refine gN ?_ ?_|intro v)
     all_goals
         refine cW (rforce_c (M.T j) (S.T j) (mp k) (xs k) i K Kp qo hnn (hx k d2) qo) λa1=>?_;rw[hoE'];repeat'(first|intro(g:Nat)|refine d29 ?_|refine gN ?_ ?_|intro v)
         refine cW (XK vm a1 (pfz S xs i k) (oE S xs i k) (A+C) qo ⟨hpf.1.up qo,hpf.2.up qo⟩ ⟨hoE.1.up qo,hoE.2.up qo⟩) λa2=>?_;repeat'(first|intro(g:Nat)|refine d29 ?_|refine gN ?_ ?_|intro v)
         refine cW (rat_c M S k d2 qo) λa3=>?_;repeat'(first|intro(g:Nat)|refine d29 ?_|refine gN ?_ ?_|intro v)
         refine cW (rtorque_c a1 a3 (M.B i).c (oE S xs i k) (S.at k) (S.B i).c (A+K) qo ⟨hoE.1.up qo,hoE.2.up qo⟩ ⟨hat.1.up qo,hat.2.up qo⟩ ⟨(hs.B i d).1.1.up qo,(hs.B i d).1.2.up qo⟩) λa4=>?_;repeat'(first|intro(g:Nat)|refine d29 ?_|refine gN ?_ ?_|intro v)
         refine cW (Zn.UZ mt a4 (tqx S xs i k) (Bl.Jw (Bl.Q4 (S.at k) (S.B i).c) (oE S xs i k)) (htq.1.sm qo) ((htq.2 k d2).sm qo)) λa5=>?_;repeat'(first|intro(g:Nat)|refine d29 ?_|refine gN ?_ ?_|intro v)
         exact Qq.mk (k+1,a2,a5) (by simp only;omega) (by simp only;omega) (hG:=.cons (show W.Has _ (fV a2 ⟨(pfz S xs i k).x+(oE S xs i k).x,(pfz S xs i k).y+(oE S xs i k).y⟩) from hmA) (.cons (show W.Has _ (isQ (qv a5) (tqx S xs i k+Bl.Jw (Bl.Q4 (S.at k) (S.B i).c) (oE S xs i k))) from hmA) haA))
    ·obtain rfl:k=2*S.m:=qo;repeat'(first|intro(g:Nat)|refine d29 ?_|refine gN ?_ ?_|intro v)
     exact QZ (vm,mt) trivial
   ·rintro⟨vm,mt⟩ _;simp only;refine WC.fact (isQ (qv vm.1) (pfz S xs i (2*S.m)).x) (W.Has.vx (m:=vm) hmA) ?_;refine WC.fact (isQ (qv vm.2) (pfz S xs i (2*S.m)).y) (W.Has.vy (m:=vm) hmA) ?_;refine WC.fact (isQ (qv (M.B i).st) (S.B i).st) (W.Has.bs (bm:=M.B i) hmA) ?_;refine WC.fact (isQ (qv (mw i)) (w i)) (W.Has.q (W.Has.fm (v:=wv) (n:=S.n) (ms:=mw) (qf:=w) hmA) d) ?_;refine WC.fact (isQ (qv (mst i)) (stK S xs (2*S.m) i)) (W.Has.q (W.Has.fm (v:=sv) (n:=S.n) (ms:=mst) (qf:=stK S xs (2*S.m)) hmA) d) ?_;repeat'(first|intro(g:Nat)|refine d29 ?_|refine gN ?_ ?_|intro v)
    refine cV (Zn.ZE vm.1 (pfz S xs i (2*S.m)).x) ?_;by_cases e1:(pfz S xs i (2*S.m)).x=0
    ·have hs1:=QS.2 e1;repeat'(first|intro(g:Nat)|refine d29 ?_|refine gN ?_ ?_|intro v)
     refine cV (Zn.rsame vm.2 (mw i) (pfz S xs i (2*S.m)).y (w i)) ?_;by_cases e2:(pfz S xs i (2*S.m)).y=w i
     ·rw[decide_eq_true e2];repeat'(first|intro(g:Nat)|refine d29 ?_|refine gN ?_ ?_|intro v)
      refine cV (Zn.ZE mt (tqx S xs i (2*S.m))) ?_;by_cases e3:tqx S xs i (2*S.m)=0
      ·have hs3:=QS.2 e3;repeat'(first|intro(g:Nat)|refine d29 ?_|refine gN ?_ ?_|intro v)
       refine cV (Zn.rcmp (mst i) (M.B i).st (stK S xs (2*S.m) i) (S.B i).st ((GW hs hx hE (Nat.le_refl _) i).sm qo) ((hs.B i d).2.2.2.sm qo)) ?_;by_cases e4:(S.B i).st < stK S xs (2*S.m) i
       ·have hs4:=Jm.2 e4;repeat'(first|intro(g:Nat)|refine d29 ?_|refine gN ?_ ?_|intro v)
        refine WC.ret ?_;exact Fp [] (Qv.t1 rfl rfl) .nil ⟨false,rfl,⟨λh=>absurd h qd,λh=>absurd (Kr.1 ((YD.1 h).2 i d)).2.2.2 (by grind)⟩,rfl,rfl⟩
       ·have hs4:¬0 < J6 (stK S xs (2*S.m) i) (S.B i).st:=λh=>e4 (Jm.1 h);repeat'(first|intro(g:Nat)|refine d29 ?_|refine gN ?_ ?_|intro v)
        refine Qq.mk (i+1) ⟨by omega,λj hj=>?_⟩ qo;by_cases e:j=i
        ·subst e;exact Kr.2 ⟨e1,e2,e3,by grind⟩
        ·exact hokB j qo
      ·have hs3:¬sgn (tqx S xs i (2*S.m)).num=0:=λh=>e3 (QS.1 h);repeat'(first|intro(g:Nat)|refine d29 ?_|refine gN ?_ ?_|intro v)
       refine WC.ret ?_;exact Fp [] (Qv.t1 rfl rfl) .nil ⟨false,rfl,⟨λh=>absurd h qd,λh=>absurd (Kr.1 ((YD.1 h).2 i d)).2.2.1 e3⟩,rfl,rfl⟩
     ·rw[decide_eq_false e2];repeat'(first|intro(g:Nat)|refine d29 ?_|refine gN ?_ ?_|intro v)
      refine WC.ret ?_;exact Fp [] (Qv.t1 rfl rfl) .nil ⟨false,rfl,⟨λh=>absurd h qd,λh=>absurd (Kr.1 ((YD.1 h).2 i d)).2.1 e2⟩,rfl,rfl⟩
    ·have hs1:¬sgn (pfz S xs i (2*S.m)).x.num=0:=λh=>e1 (QS.1 h);repeat'(first|intro(g:Nat)|refine d29 ?_|refine gN ?_ ?_|intro v)
     refine WC.ret ?_;exact Fp [] (Qv.t1 rfl rfl) .nil ⟨false,rfl,⟨λh=>absurd h qd,λh=>absurd (Kr.1 ((YD.1 h).2 i d)).1 e1⟩,rfl,rfl⟩
  ·obtain rfl:i=S.n:=qo;repeat'(first|intro(g:Nat)|refine d29 ?_|refine gN ?_ ?_|intro v)
   refine WC.ret ?_;exact Fp [] (Qv.t1 rfl rfl) .nil ⟨true,rfl,⟨λ_=>YD.2 ⟨hokE,hokB⟩,λ_=>rfl⟩,rfl,rfl⟩
end R
end Q
end K
end
section
open Bl (Vc Bd Tc Sc)
def shS (m:List Int):Nat->Int
 |0=>0
 |k+1=>shS m k+atP m (k:Int) 5
def shD (m:List Int) (n:Nat):Int:=if shS m n=0 then(n:Int) else shS m n
def shA (m:List Int) (n k:Nat):Int:=if shS m n=0 then 1 else atP m (k:Int) 5
def shr (m:List Int) (n k:Nat):Rat:=Rat.divInt (shA m n k) (shD m n)
def at5 (m:List Int) (k:Int):0<=atP m k 5∧atP m k 5 < 5:=by
 unfold atP;split
 ·decide
 ·exact Jk qd
def shS_le (m:List Int):∀ k,0<=shS m k∧shS m k<=4*(k:Int)
 |0=>⟨Int.le_refl _,Int.le_refl _⟩
 |k+1=>by
  have h:=shS_le m k;have h2:=at5 m (k:Int);show 0<=shS m k+_∧shS m k+_<=_;omega
def shA_le (m:List Int) (n k:Nat):0<=shA m n k∧shA m n k<=4:=by
 have:=at5 m (k:Int);unfold shA;split <;> omega
def shD_pos (m:List Int) {n:Nat} (hn:0 < n):0 < shD m n∧shD m n<=4*(n:Int):=by
 have:=shS_le m n;unfold shD;split <;> omega
def shr_nn (m:List Int) {n:Nat} (hn:0 < n) (k:Nat):0<=shr m n k:=Bl.Kw (shA_le m n k).1 (shD_pos m hn).1
def shA_sum (m:List Int) (n:Nat):∀ k,(X.sm k λj=>(shA m n j:Rat))=if shS m n=0 then((k:Int):Rat) else((shS m k:Int):Rat)
 |0=>by split <;> rfl
 |k+1=>by
  show X.sm k _+_=_;rw[shA_sum m n k];unfold shA;split
  ·show((k:Int):Rat)+((1:Int):Rat)=(((k+1:Nat):Int):Rat);rw[<-Rat.intCast_add];rfl
  ·show _=((shS m k+atP m (k:Int) 5:Int):Rat);rw[Rat.intCast_add]
def shr_sum (m:List Int) {n:Nat} (hn:0 < n):X.sm n (shr m n)=1:=by
 have hd:=(shD_pos m hn).1
 have h0:((shD m n:Int):Rat)≠0:=by
  intro h;have:shD m n=0:=by exact_mod_cast h
  omega
 have e:X.sm n (shr m n)=X.sm n (λj=>(shA m n j:Rat)*((shD m n:Int):Rat)⁻¹):=X.Qh λj _=>by
  show Rat.divInt _ _=_;rw[Rat.divInt_eq_div,Rat.div_def]
 rw[e,X.Xq,shA_sum];have e2:(if shS m n=0 then((n:Int):Rat) else((shS m n:Int):Rat))=((shD m n:Int):Rat):=by unfold shD;split <;> rfl
 rw[e2,Rat.mul_inv_cancel _ h0]
namespace Bl
def fixS (w:Nat->Rat) (S:Sc):Sc:=⟨S.n,S.m,λi=>⟨(S.B i).c,w i,w i,(S.B i).st⟩,S.T⟩
section
variable {S:Sc} {w:Nat->Rat}
def fix_ok (h:S.ok) (hw:∀ i,i < S.n->0 < w i):(fixS w S).ok:=by
 refine⟨h.n,h.m,λi hi=>?_,h.T⟩;obtain⟨_,_,c⟩:=h.B i hi;exact⟨hw i hi,Rat.le_refl,c⟩
def fix_sat {u v:Nat->Rat} (h:Bal S w u v) (c:Nat):Sat (fixS w S) c:=
 (Bal.same (S':=fixS w S) h rfl rfl (λ_ _=>rfl) λi _=>⟨rfl,Rat.le_refl⟩).sat λi _=>by
  show w i=if _ then w i else w i;split <;> rfl
def fix_fs {D A B:Nat} (h:Fs D A S) (hw:∀ i,i < S.n->Fr D B (w i)):Fs D (A+B) (fixS w S):=by
 have h':=h.up (Nat.le_add_right A B);exact⟨λi hi=>⟨(h'.B i hi).1,(hw i hi).up (Nat.le_add_left _ _),(hw i hi).up (Nat.le_add_left _ _),(h'.B i hi).2.2.2⟩,h'.T⟩
def Fs.sc' {D A c E B:Nat} (h:Fs D A S) (hE:D*c=E) (hB:A*c<=B):Fs E B S:=
 have v:∀ {a:Vc},Fv D A a->Fv E B a:=λh=>⟨h.1.sc' hE hB,h.2.sc' hE hB⟩
 ⟨λi hi=>let ⟨a,b,c,d⟩:=h.B i hi;⟨v a,b.sc' hE hB,c.sc' hE hB,d.sc' hE hB⟩,λj hj=>let ⟨a,b,c,d⟩:=h.T j hj;⟨v a,v b,v c,d.sc' hE hB⟩⟩
def wt_fr {D A:Nat} (h:Fs D A S) (c:Nat) {i:Nat} (hi:i < S.n):Fr D A (S.wt c i):=by
 unfold Sc.wt;split
 ·exact(h.B i hi).2.2.1
 ·exact(h.B i hi).2.1
end
end Bl
def fr_sum {D A:Nat} {f:Nat->Rat}:∀ {n:Nat},(∀ k,k < n->Fr D A (f k))->Fr D (n*A) (X.sm n f)
 |0,_=>(Fr.zero:Fr D 0 0).up qo
 |n+1,h=>((fr_sum λk hk=>h k qo).add (h n qo)).up (by rw[Nat.succ_mul];exact Nat.le_refl _)
def mixW (S:Sc) (N:Nat) (s:Nat->Rat) (i:Nat):Rat:=X.sm N λc=>s c*S.wt c i
def mixW_pos {S:Sc} {N:Nat} {s:Nat->Rat} (h:S.ok) (hs:∀ c,c < N->0<=s c) (h1:X.sm N s=1) {i:Nat} (hi:i < S.n):0 < mixW S N s i:=by
 have hlo:0 < (S.B i).lo:=(h.B i hi).1
 have hle:∀ c,(S.B i).lo<=S.wt c i:=λc=>by
  have:=(h.B i hi).2.1;unfold Bl.Sc.wt;split
  ·exact this
  ·exact Rat.le_refl
 have h2:(X.sm N λc=>s c*(S.B i).lo)<=mixW S N s i:=X.sm_le λc hc=>Rat.mul_le_mul_of_nonneg_left (hle c) (hs c hc);rw[X.Xq,h1] at h2;grind
end
end Go.Proofs.YtcpaopfdiahnnaaGreat
