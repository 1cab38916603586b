/- Lemmas for a law. Conditions: none. -/
import Derived.Test.YtbnobghgnbockaaGreatZf26
set_option linter.all false
set_option maxHeartbeats 32000000
set_option maxRecDepth 100000
namespace Go.Proofs.YtbnobghgnbockaaGreat
section
open W Go.RowKit
def Dg.in{l:List Int}(h:Dg l)(i:Nat)(hi:i<l.length):0<=l.getD i 0/\l.getD i 0<1000000000:=h.any i
namespace K
attribute [local irreducible] WC WL WD YO LO Qq W.Fin Qk Qw Qj Row QJ Qv KnS Has W.One Qa Qs
def digitOk_c(d:Int)(h:0<=d/\d<1000000000):FnB Tryz.prog 207 [.int .i64 d] [] [] (IsV (.bool false)):=by
 refine fO [(0,(.int .i64 d))] 9 Tryz.func207 Tryz.ntmps207 λh0=>?_;obtain⟨h1,h2⟩:=h;repeat'(first|intro(g:Nat)|refine gA ?_|intro v)
 refine WC.ret ?_;exact Fin.v (Qh.t1 rfl rfl) meA rfl
def noIndexI_c(v:Value)(l:List Int)(f:FuncId)(hf:∀i,i<l.length->FnB Tryz.prog f [.int .i64 (l.getD i 0)] [] [] (IsV (.bool false))):FnB Tryz.prog 223 [v,.func (.func f) #[] #[]] [] [sI v l] (IsV (.int .i64 (-1))):=by
 refine fO [(0,v),(1,(.func (.func f) #[] #[]))] 19 Tryz.func223 Tryz.ntmps223 λh0=>?_;refine WC.K5 v l hmA λhm=>?_;repeat'(first|intro(g:Nat)|refine gA ?_|intro v)
 refine WC.lp (σ:=Nat) (λi=>[(8,.int .i64 (i:Int)),(7,.int .i64 (l.length:Int)),(0,v),(1,.func (.func f) #[] #[])]) (λ_=>[]) (λ_=>[ge h0,sI v l]) (λi=>i<=l.length) (λi=>l.length-i) 0 (Nat.zero_le _) ?_;intro i hi;by_cases c:i<l.length
 ·repeat'(first|intro(g:Nat)|refine gA ?_|intro v)
  refine WL.J9 [] [] (vs:=[.int .i64 (l.getD i 0)]) (by simpa using hf i c) ?_;rintro _ _ _ ⟨rfl,rfl,rfl⟩;refine sNn ?_;repeat'(first|intro(g:Nat)|refine gA ?_|intro v)
  exact Qq.mk (i+1) qo qo
 ·obtain rfl:i=l.length:=qo;repeat'(first|intro(g:Nat)|refine gA ?_|intro v)
  refine WC.ret ?_;exact Fin.v (Qh.t1 rfl rfl) meA rfl
def Vt(v:Value)(l:List Int)(f:FuncId)(hf:∀i,i<l.length->FnB Tryz.prog f [.int .i64 (l.getD i 0)] [] [] (IsV (.bool false))):FnB Tryz.prog 206 [v,.func (.func f) #[] #[]] [] [sI v l] (IsV (.bool false)):=by
 refine fO [(0,v),(1,(.func (.func f) #[] #[]))] 9 Tryz.func206 Tryz.ntmps206 λh0=>?_;repeat'(first|intro(g:Nat)|refine gA ?_|intro v)
 refine cV (noIndexI_c v l f hf) ?_;repeat'(first|intro(g:Nat)|refine gA ?_|intro v)
 refine WC.ret ?_;exact Fin.v (Qh.t1 rfl rfl) meA rfl
def ivalid_c(v:Value)(z:Int):FnB Tryz.prog 161 [v] [] [isZ v z] (IsV (.bool true)):=by
 refine fO [(0,v)] 32 Tryz.func161 Tryz.ntmps161 λh0=>?_;refine WC.Q6 (v:=v) (z:=z) hmA λn1 d1 hv hb1=>?_;subst hv;refine WC.fact (sI d1 (Qx z.natAbs)) (QV hmA) ?_;have hd:=Qf z.natAbs;have hn:=ZU z.natAbs;have hl:=@QY z.natAbs;generalize Qx z.natAbs=l at *;refine WC.K5 d1 l hmA λhlen=>?_;repeat'(first|intro(g:Nat)|refine gA ?_|intro v)
 refine cV (Vt d1 l _ λi hi=>digitOk_c _ (hd.in i hi)) ?_;by_cases c:l.length=0
 ·obtain rfl:n1=false:=by rw[hb1,decide_eq_false];have:=hl.1 c;omega
  repeat'(first|intro(g:Nat)|refine gA ?_|intro v)
  refine WC.ret ?_;exact Fin.v (Qh.t1 rfl rfl) meA rfl
 ·have h1:=hn qo;rw[show l.length-1=((l.length:Int)-1).toNat by omega] at h1;repeat'(first|intro(g:Nat)|refine gA ?_|intro v)
  refine WC.ret ?_;exact Fin.v (Qh.t1 rfl rfl) meA rfl
def Xk(m:QM)(q:Rat)(hq:Sm q):FnB Tryz.prog 78 [qv m] [] [isQ (qv m) q] (IsV (.bool true)):=by
 refine fO [(0,(qv m))] 36 Tryz.func78 Tryz.ntmps78 λh0=>?_;refine WC.fact (isZ (.agg #[.bool m.1,m.2.1]) q.num) (JS hmA) ?_;refine WC.fact (isZ (.agg #[.bool false,m.2.2]) (qz q)) (hasQ_Q hmA) ?_;refine WC.fact (sI m.2.2 (Qx (qz q).natAbs)) (Uj hmA) ?_;have hl:=@Ks q;repeat'(first|intro(g:Nat)|refine gA ?_|intro v)
 refine cV (ivalid_c (.agg #[.bool m.1,m.2.1]) q.num) ?_;repeat'(first|intro(g:Nat)|refine gA ?_|intro v)
 refine cV (ivalid_c (.agg #[.bool false,m.2.2]) (qz q)) ?_;repeat'(first|intro(g:Nat)|refine gA ?_|intro v)
 refine cV (Rtm.Vb (.agg #[.bool false,m.2.2]) (qz q)) ?_;have h1:qz q≠1:=by unfold qz;split<;>omega
 rw[decide_eq_false h1];by_cases c:q.den=1
 ·have h2:=hl.2 c;repeat'(first|intro(g:Nat)|refine gA ?_|intro v)
  refine WC.ret ?_;exact Fin.v (Qh.t1 rfl rfl) meA rfl
 ·have h2:(Qx (qz q).natAbs).length≠0:=λh=>c (hl.1 h);have h3:qz q=(q.den:Int):=by unfold qz;rw[if_neg c]
  have hgcd:Int.gcd q.num (qz q)=1:=by rw[h3];exact q.reduced
  repeat'(first|intro(g:Nat)|refine gA ?_|intro v)
  refine cK (Dvz.gcd_c (.agg #[.bool m.1,m.2.1]) (.agg #[.bool false,m.2.2]) q.num (qz q) (Sm.w hq.1) (by rw[h3,Int.natAbs_natCast];exact Sm.w hq.2)) ?_;rintro _ _ _ ⟨n1,d1,rfl,hb1,rfl,rfl⟩;refine sNn ?_;repeat'(first|intro(g:Nat)|refine gA ?_|intro v)
  refine cV (Rtm.Vb (.agg #[.bool n1,d1]) _) ?_;repeat'(first|intro(g:Nat)|refine gA ?_|intro v)
  refine WC.ret ?_;exact Fin.v (Qh.t1 rfl rfl) meA (by rw[hgcd];rfl)
end K
end
section
open W Go.RowKit
open Bl (Vc Bd Tc Sc)
def Sb(K:Nat)(b:Bd):Prop:=Sv K b.c/\Sq K b.lo/\Sq K b.hi/\Sq K b.st
def St(K:Nat)(t:Tc):Prop:=Sv K t.p/\Sv K t.q/\Sv K t.n/\Sq K t.r
namespace K
attribute [local irreducible] WC WL WD YO LO Qq W.Fin Qk Qw Qj Row QJ Qv KnS Has W.One Qa Qs
def d85{G G':Prop}(h:G')(s:Bx G'->G:=by
 intro h;first|refine gB ?_|(apply WC.draw (id:=3) [0,1,3,4,5,6,7,9,10,11,12,13,14,15,16,17,21,22,23] (.h 0<|.h 1<|.l 2<|.h 3<|.h 4<|.h 5<|.h 6<|.h 7<|.l 8<|.h 9<|.h 10<|.h 11<|.h 12<|.h 13<|.h 14<|.h 15<|.h 16<|.h 17<|.l 18<|.l 19<|.l 20<|.h 21<|.h 22<|.h 23 .done) mixed kr)|fail
 exact Bx.h h):G:=s ⟨h⟩
def Uk(m:VM)(a:Vc)(K:Nat)(hK:K<=10000000)(ha:Sv K a):FnB Tryz.prog 176 [vv m] [] [fV m a] (IsV (.bool true)):=by
 refine fO [(0,(vv m))] 11 Tryz.func176 Tryz.ntmps176 λh0=>?_;repeat'(first|intro(g:Nat)|refine gA ?_|intro v)
 refine cV (Xk m.1 a.x (ha.1.sm qo)) ?_;repeat'(first|intro(g:Nat)|refine gA ?_|intro v)
 refine cV (Xk m.2 a.y (ha.2.sm qo)) ?_;repeat'(first|intro(g:Nat)|refine gA ?_|intro v)
 refine WC.ret ?_;exact Fin.v (Qh.t1 rfl rfl) meA rfl
def isBody_c(m:BM)(b:Bd)(K:Nat)(hK:K<=10000000)(hs:Sb K b)(hb:Bl.BdOk b):FnB Tryz.prog 84 [bv m] [] [fB m b] (IsV (.bool true)):=by
 refine fO [(0,(bv m))] 43 Tryz.func84 Tryz.ntmps84 λh0=>?_;refine WC.fact (fV m.c b.c) (W.Has.bc (bm:=m) hmA) ?_;refine WC.fact (isQ (qv m.lo) b.lo) (W.Has.bl (b:=b) hmA) ?_;refine WC.fact (isQ (qv m.hi) b.hi) (W.Has.bh (b:=b) hmA) ?_;refine WC.fact (isQ (qv m.st) b.st) (W.Has.bs (b:=b) hmA) ?_;have h1:=Gw.2 hb.1;have h2:=Rat.not_lt.2 hb.2.1;have h3:=Gw.2 hb.2.2;have h4:Y8 b.lo b.hi<=0:=Int.not_lt.1 λh=>h2 (Yb.1 h);repeat'(first|intro(g:Nat)|refine gA ?_|intro v)
 refine cV (Uk m.c b.c K hK hs.1) ?_;repeat'(first|intro(g:Nat)|refine gA ?_|intro v)
 refine cV (Xk m.lo b.lo (hs.2.1.sm qo)) ?_;repeat'(first|intro(g:Nat)|refine gA ?_|intro v)
 refine cV (Xk m.hi b.hi (hs.2.2.1.sm qo)) ?_;repeat'(first|intro(g:Nat)|refine gA ?_|intro v)
 refine cV (Xk m.st b.st (hs.2.2.2.sm qo)) ?_;repeat'(first|intro(g:Nat)|refine gA ?_|intro v)
 refine cV (Zn.sign m.lo b.lo) ?_;repeat'(first|intro(g:Nat)|refine gA ?_|intro v)
 refine cV (Zn.cmp m.lo m.hi b.lo b.hi (hs.2.1.sm qo) (hs.2.2.1.sm qo)) ?_;repeat'(first|intro(g:Nat)|refine gA ?_|intro v)
 refine cV (Zn.sign m.st b.st) ?_;repeat'(first|intro(g:Nat)|refine gA ?_|intro v)
 refine WC.ret ?_;exact Fin.v (Qh.t1 rfl rfl) meA rfl
def isTouch_c(m:ToM)(t:Tc)(n K:Nat)(hK:K<=1000000)(hs:St K t)(ht:Bl.Hn n t)(hn:n<=1000):FnB Tryz.prog 85 [tv m t,.int .i64 (n:Int)] [] [fT m t] (IsV (.bool true)):=by
 refine fO [(0,(tv m t)),(1,(.int .i64 (n:Int)))] 79 Tryz.func85 Tryz.ntmps85 λh0=>?_;refine WC.fact (fV m.p t.p) (W.Has.tp (tm:=m) hmA) ?_;refine WC.fact (fV m.q t.q) (W.Has.tq (tm:=m) hmA) ?_;refine WC.fact (fV m.n t.n) (W.Has.tn (tm:=m) hmA) ?_;refine WC.fact (isQ (qv m.r) t.r) (W.Has.trr (t:=t) hmA) ?_;obtain⟨a1,a2,b1,b2,ab,r0,n0,pq⟩:=ht;have h1:0<=sgn t.r.num:=Int.not_lt.1 λh=>Rat.not_lt.2 r0 (Xn.1 h);repeat'(first|intro(g:Nat)|refine d85 ?_|intro v)
 refine cV (Uk m.p t.p K qo hs.1) ?_;repeat'(first|intro(g:Nat)|refine d85 ?_|intro v)
 refine cV (Uk m.q t.q K qo hs.2.1) ?_;repeat'(first|intro(g:Nat)|refine d85 ?_|intro v)
 refine cV (Uk m.n t.n K qo hs.2.2.1) ?_;repeat'(first|intro(g:Nat)|refine d85 ?_|intro v)
 refine cV (Xk m.r t.r (hs.2.2.2.sm qo)) ?_;repeat'(first|intro(g:Nat)|refine d85 ?_|intro v)
 refine cV (Zn.sign m.r t.r) ?_;repeat'(first|intro(g:Nat)|refine d85 ?_|intro v)
 refine cV (vsame_c m.n (m00,m00) t.n ⟨0,0⟩) ?_;rw[decide_eq_false n0];repeat'(first|intro(g:Nat)|refine d85 ?_|intro v)
 refine cW (vsub_c m.q m.p t.q t.p K qo hs.2.1 hs.1) λm2=>?_;repeat'(first|intro(g:Nat)|refine d85 ?_|intro v)
 refine cW (vdot_c m.n m2 t.n (Bl.XY t.q t.p) (K+K+1) qo ⟨hs.2.2.1.1.up qo,hs.2.2.1.2.up qo⟩ ⟨hs.2.1.1.sub hs.1.1,hs.2.1.2.sub hs.1.2⟩) λn2=>?_;repeat'(first|intro(g:Nat)|refine d85 ?_|intro v)
 refine cV (Zn.sign n2 (t.n.x*(Bl.XY t.q t.p).x+t.n.y*(Bl.XY t.q t.p).y)) ?_;rw[show t.n.x*(Bl.XY t.q t.p).x+t.n.y*(Bl.XY t.q t.p).y=0 from pq,(JO.2 rfl:sgn (0:Rat).num=0)];repeat'(first|intro(g:Nat)|refine d85 ?_|intro v)
 refine WC.ret ?_;exact Fin.v (Qh.t1 rfl rfl) meA rfl
end K
end
section
open W Go.RowKit
open Bl (Vc Bd Tc Sc)
structure Ss(K:Nat)(S:Sc):Prop where
 B:∀i,i<S.n->Sb K (S.B i)
 T:∀j,j<S.m->St K (S.T j)
structure SM where
 l:Value
 t:Value
 B:Nat->BM
 T:Nat->ToM
abbrev fSl(M:SM)(S:Sc):Fct:=lF XU M.l S.n M.B S.B
abbrev fSt(M:SM)(S:Sc):Fct:=lF Qo M.t S.m M.T S.T
def ab_p{q:Rat}(h:sgn q.num<0):Bl.ab q= -q:=if_pos (Xn.1 h)
def ab_n{q:Rat}(h:¬sgn q.num<0):Bl.ab q=q:=if_neg λx=>h (Xn.2 x)
def Sq.ab{K:Nat}{q:Rat}(h:Sq K q):Sq K (Bl.ab q):=by unfold Bl.ab;split;exact h.neg;exact h
def di1(n:Int):Rat.divInt n 1=(n:Rat):=by
 show Rat.divInt n ((1:Nat):Int)=_;rw[Rat.divInt_ofNat,Rat.mkRat_one]
def sq_int(K:Nat)(hK:0<K)(n:Int)(h:n.natAbs<1000000000):Sq K (Rat.divInt n 1):=by
 rw[di1];exact Sq.int (by by_cases h0:n.natAbs=0;(rw[h0,Jq];exact Nat.zero_le _);rw[Jl qo h];exact hK) hK
namespace K
attribute [local irreducible] WC WL WD YO LO Qq W.Fin Qk Qw Qj Row QJ Qv KnS Has W.One Qa Qs
def d104{G G':Prop}(h:G')(s:Bx G'->G:=by
 intro h;first|refine gB ?_|(apply WC.draw (id:=5) [0] (.h 0<|.l 1<|.l 2<|.l 3 .done) mixed kr)|fail
 exact Bx.h h):G:=s ⟨h⟩
def d105{G G':Prop}(h:G')(s:Bx G'->G:=by
 intro h;first|refine gB ?_|(apply WC.draw (id:=1) [0,1,3,4,5] (.h 0<|.h 1<|.h 3<|.h 4<|.l 2<|.h 5<|.l 6 .done) mixed kr)|fail
 exact Bx.h h):G:=s ⟨h⟩
def Y6(M:SM)(S:Sc)(K:Nat)(hK:K<=1000000)(hs:Ss K S)(ho:S.ok):FnB Tryz.prog 49 [M.l,M.t] [] [fSl M S,fSt M S] (IsV (.int .i64 0)):=by
 refine fO [(0,M.l),(1,M.t)] 39 Tryz.func49 Tryz.ntmps49 λh0=>?_;have hn:=ho.n;have hm:=ho.m;repeat'(first|intro(g:Nat)|refine gA ?_|intro v)
 refine WC.Xd (σ:=Unit) (λ_=>[(0,M.l),(1,M.t),(4,.int .i64 0)]) (λ_=>[]) (λ_=>[ge h0,fSl M S,fSt M S]) (λ_=>True) ?_ ?_
 ·refine WC.lp (σ:=Nat) (λi=>[(19,.int .i64 (i:Int)),(18,.int .i64 (S.n:Int)),(17,M.l),(0,M.l),(1,M.t),(4,.int .i64 0)]) (λ_=>[]) (λ_=>[ge h0,fSl M S,fSt M S]) (λi=>i<=S.n) (λi=>S.n-i) 0 (Nat.zero_le _) ?_;intro i hi;by_cases c:i<S.n
  ·refine WC.fact (fB (M.B i) (S.B i)) (W.Has.lk (S:=XU) (v:=M.l) hmA c) ?_;repeat'(first|intro(g:Nat)|refine gA ?_|intro v)
   refine cV (isBody_c (M.B i) (S.B i) K qo (hs.B i c) (ho.B i c)) ?_;repeat'(first|intro(g:Nat)|refine gA ?_|intro v)
   exact Qq.mk (i+1) qo qo
  ·repeat'(first|intro(g:Nat)|refine gA ?_|intro v)
   exact QG () trivial
 ·rintro⟨⟩ _;repeat'(first|intro(g:Nat)|refine gA ?_|intro v)
  refine WC.lp (σ:=Nat) (λi=>[(29,.int .i64 (i:Int)),(28,.int .i64 (S.m:Int)),(27,M.t),(0,M.l),(1,M.t),(4,.int .i64 0)]) (λ_=>[]) (λ_=>[ge h0,fSl M S,fSt M S]) (λi=>i<=S.m) (λi=>S.m-i) 0 (Nat.zero_le _) ?_;intro i hi;by_cases c:i<S.m
  ·refine WC.fact (fT (M.T i) (S.T i)) (W.Has.lk (S:=Qo) (v:=M.t) hmA c) ?_;repeat'(first|intro(g:Nat)|refine gA ?_|intro v)
   refine cV (isTouch_c (M.T i) (S.T i) S.n K hK (hs.T i c) (ho.T i c) qo) ?_;repeat'(first|intro(g:Nat)|refine gA ?_|intro v)
   exact Qq.mk (i+1) qo qo
  ·repeat'(first|intro(g:Nat)|refine gA ?_|intro v)
   refine WC.ret ?_;exact Fin.v (Qh.t1 rfl rfl) meA rfl
def across_c(m:VM)(a:Vc):FnB Tryz.prog 105 [vv m] [] [fV m a] (IsVc (Bl.turn a)):=by
 refine fO [(0,(vv m))] 9 Tryz.func105 Tryz.ntmps105 λh0=>?_;repeat'(first|intro(g:Nat)|refine d105 ?_|intro v)
 refine cW (Zn.neg m.2 a.y) λn1=>?_;repeat'(first|intro(g:Nat)|refine d105 ?_|intro v)
 refine WC.ret ?_;exact Fp [fV (n1,m.1) (Bl.turn a)] (rcV T.r77) (.cons (W.Has.vof hmA (W.Has.vx (a:=a) hmA)) .nil) ⟨(n1,m.1),rfl,rfl,rfl⟩
def span_c(m:VM)(a:Vc)(K:Nat)(hK:K<=1000000)(ha:Sv K a):FnB Tryz.prog 186 [vv m] [] [fV m a] (IsR (Bl.spn a)):=by
 refine fO [(0,(vv m))] 24 Tryz.func186 Tryz.ntmps186 λh0=>?_;repeat'(first|intro(g:Nat)|refine gA ?_|intro v)
 refine cV (Zn.sign m.1 a.x) ?_;refine WL.QE (isQ (qv m.1) a.x) (W.Has.vx (a:=a) hmA) ?_;refine WL.QE (isQ (qv m.2) a.y) (W.Has.vy (a:=a) hmA) ?_;unfold Bl.spn;by_cases c:sgn a.x.num<0
 ·rw[ab_p c];repeat'(first|intro(g:Nat)|refine gA ?_|intro v)
  refine cW (Zn.neg m.1 a.x) λn1=>?_;repeat'(first|intro(g:Nat)|refine gA ?_|intro v)
  refine cV (Zn.sign m.2 a.y) ?_;by_cases d:sgn a.y.num<0
  ·rw[ab_p d];repeat'(first|intro(g:Nat)|refine gA ?_|intro v)
   refine cW (Zn.neg m.2 a.y) λn2=>?_;repeat'(first|intro(g:Nat)|refine gA ?_|intro v)
   refine cW (Zn.add n1 n2 (-a.x) (-a.y) (ha.1.neg.sm qo) (ha.2.neg.sm qo)) λn3=>?_;repeat'(first|intro(g:Nat)|refine gA ?_|intro v)
   refine WC.ret ?_;exact Fp [isQ (qv n3) (-a.x+ -a.y)] (rcV T.r75) haA ⟨n3,rfl,rfl,rfl⟩
  ·rw[ab_n d];repeat'(first|intro(g:Nat)|refine gA ?_|intro v)
   refine cW (Zn.add n1 m.2 (-a.x) (a.y) (ha.1.neg.sm qo) (ha.2.sm qo)) λn3=>?_;repeat'(first|intro(g:Nat)|refine gA ?_|intro v)
   refine WC.ret ?_;exact Fp [isQ (qv n3) (-a.x+a.y)] (rcV T.r75) haA ⟨n3,rfl,rfl,rfl⟩
 ·rw[ab_n c];repeat'(first|intro(g:Nat)|refine gA ?_|intro v)
  refine cV (Zn.sign m.2 a.y) ?_;by_cases d:sgn a.y.num<0
  ·rw[ab_p d];repeat'(first|intro(g:Nat)|refine gA ?_|intro v)
   refine cW (Zn.neg m.2 a.y) λn2=>?_;repeat'(first|intro(g:Nat)|refine gA ?_|intro v)
   refine cW (Zn.add m.1 n2 (a.x) (-a.y) (ha.1.sm qo) (ha.2.neg.sm qo)) λn3=>?_;repeat'(first|intro(g:Nat)|refine gA ?_|intro v)
   refine WC.ret ?_;exact Fp [isQ (qv n3) (a.x+ -a.y)] (rcV T.r75) haA ⟨n3,rfl,rfl,rfl⟩
  ·rw[ab_n d];repeat'(first|intro(g:Nat)|refine gA ?_|intro v)
   refine cW (Zn.add m.1 m.2 (a.x) (a.y) (ha.1.sm qo) (ha.2.sm qo)) λn3=>?_;repeat'(first|intro(g:Nat)|refine gA ?_|intro v)
   refine WC.ret ?_;exact Fp [isQ (qv n3) (a.x+a.y)] (rcV T.r75) haA ⟨n3,rfl,rfl,rfl⟩
def on_c(me:EM)(e:Ed)(i:Nat)(mv:VM)(f:Vc)(K:Nat)(h0K:0<K)(hK:K<=1000000)(hf:Sv K f)(hi:i<=1000):FnB Tryz.prog 104 [edv me e,.int .i64 (i:Int),vv mv] [] [fV mv f] (IsVc (Bl.on e.t i f)):=by
 refine fO [(0,(edv me e)),(1,(.int .i64 (i:Int))),(2,(vv mv))] 23 Tryz.func104 Tryz.ntmps104 λh0=>?_;by_cases c:e.t.a=(i:Int)
 ·have e1:Bl.on e.t i f=f:=if_pos c;rw[e1];repeat'(first|intro(g:Nat)|refine d104 ?_|intro v)
  refine WC.ret ?_;exact Fp [fV mv f] (rcV T.r77) haA ⟨mv,rfl,rfl,rfl⟩
 ·by_cases d:e.t.b=(i:Int)
  ·have e1:Bl.on e.t i f=⟨f.x*Rat.divInt (-1) 1,f.y*Rat.divInt (-1) 1⟩:=by
    unfold Bl.on;rw[if_neg c,if_pos d];exact congr (congrArg Vc.mk (by rw[di1];grind)) (by rw[di1];grind)
   rw[e1];repeat'(first|intro(g:Nat)|refine d104 ?_|intro v)
   refine cW (Zn.of (-1) 1 qd qd) λn1=>?_;repeat'(first|intro(g:Nat)|refine d104 ?_|intro v)
   refine cW (Vl mv n1 f (Rat.divInt (-1) 1) K qo hf (sq_int K h0K (-1) qd)) λm2=>?_;repeat'(first|intro(g:Nat)|refine d104 ?_|intro v)
   refine WC.ret ?_;exact Fp [fV m2 ⟨f.x*Rat.divInt (-1) 1,f.y*Rat.divInt (-1) 1⟩] (rcV T.r77) haA ⟨m2,rfl,rfl,rfl⟩
  ·have e1:Bl.on e.t i f=⟨0,0⟩:=by unfold Bl.on;rw[if_neg c,if_neg d]
   rw[e1];repeat'(first|intro(g:Nat)|refine d104 ?_|intro v)
   refine WC.ret ?_;exact Fp [fV (m00,m00) ⟨0,0⟩] (rcV T.r77) haA ⟨(m00,m00),rfl,rfl,rfl⟩
end K
end
section
open W Go.RowKit
inductive ZK:List Ow->List Ow->Prop where
 |nil:ZK [] []
 |drop {v:Value} {el sz:Nat} {cs:List Value} {l l':List Ow}:ZK l l'->ZK (.slice v el sz cs::l) l'
 |keep {b:Ow} {l l':List Ow}:ZK l l'->ZK (b::l) (b::l')
def ZK.sub{l l':List Ow}(h:ZK l l'):l'.Sublist l:=by
 induction h with
 |nil=>exact .slnil
 |drop _ ih=>exact ih.cons _
 |keep _ ih=>exact ih.cons_cons _
def WC.drawS{P:Program}{n:Nat}{L:List Oper}{e:Env}{bx b0:List Ow}{F:List Fct}{id:Nat}{Q:Post}(hs:List Nat)(p:Plan)(hm:P.follows .mixedOrders=true)(hc:(Region.noSelect L.toArray && (chk L hs p (Array.replicate L.length false) && Nat.ble p.len L.length))=true)
  (hr:ZK bx b0) (h:WD P n L hs b0 F p e bx F (Q .normal)):WC P n (.region id L.toArray true) e bx F Q:=WC.drawB b0 hr.sub hs p hm hc h
def fcj(l:List Fct):Fct:=⟨λh=>∀f∈l,f.p h,λ_ _ hl h f hf=>f.mono _ _ hl (h f hf)⟩
def W.Has.cj{F:List Fct}:∀{l:List Fct},Qu F l->Has F (fcj l):=λh p hf f hfl=>h.all f hfl p hf
def W.FnB.cj{P:Program}{f:FuncId}{args:List Value}{bx:List Ow}{g:Fct}{l:List Fct}{R:Qg}(h:FnB P f args bx (g::l) R):FnB P f args bx [g,fcj l] R:=
 ⟨h.1,λfr w ho=>h.2 fr w ⟨ho.frame,ho.apart,ho.nodup,ho.owns,λk hk=>by
  rcases List.mem_cons.1 hk with rfl|hk
  ·exact ho.facts _ (List.mem_cons_self ..)
  ·exact ho.facts (fcj l) (by simp) k hk⟩⟩
def W.FnB.cj2{P:Program}{f:FuncId}{args:List Value}{bx:List Ow}{g g2:Fct}{l:List Fct}{R:Qg}(h:FnB P f args bx (g::g2::l) R):FnB P f args bx [g,g2,fcj l] R:=
 ⟨h.1,λfr w ho=>h.2 fr w ⟨ho.frame,ho.apart,ho.nodup,ho.owns,λk hk=>by
  rcases List.mem_cons.1 hk with rfl|hk
  ·exact ho.facts _ (by simp)
  ·rcases List.mem_cons.1 hk with rfl|hk
   ·exact ho.facts _ (by simp)
   ·exact ho.facts (fcj l) (by simp) k hk⟩⟩
section
variable {P:Program}{e:Env}{bx:List Ow}{F:List Fct}{fn:Func}{t s r:Tmp}{ty ty':TypeId}{g g' tg tg' m m':Nat}{cs cs':List Value}{x:Value}
def W.Qh.ccx(h:fn.results=#[.cell t ty,.cell s ty',.tmp r])(hl:W.look e t=some (.pointer (some ⟨g,0,none⟩)))(hb:Ow.cells g tg cs∈bx)(hr:Row P ty m)(hm:cs.length=m)(hl2:W.look e s=some (.pointer (some ⟨g',0,none⟩)))(hb2:Ow.cells g' tg' cs'∈bx)(hr':Row P ty' m')(hm2:cs'.length=m')(hx:W.look e r=some x) :
  Qh P fn e bx F (.tuple #[.agg cs.toArray,.agg cs'.toArray,x]):=λn fr a w hk ho=>by
 have he:=Zm (P:=P) (fr:=fr) (w:=w) (t:=ty) (b:=g) (q:=0) (cs:=cs) (es:=#[]) (by rw[hm];exact hr) (λ_ _=>.inl (ho.own hb (by simp[Ow.ids]))) (λi v hv=>by rw[Nat.zero_add,Jz (ho.owns _ hb)];exact hv) (Reads.none fr);have he2:=Zm (P:=P) (fr:=fr) (w:=w) (t:=ty') (b:=g') (q:=0) (cs:=cs') (by rw[hm2];exact hr') (λ_ _=>.inl (ho.own hb2 (by simp[Ow.ids]))) (λi v hv=>by rw[Nat.zero_add,Jz (ho.owns _ hb2)];exact hv) he;obtain⟨⟨d,hu,hd⟩,hi⟩:=hr;obtain⟨⟨d',hu',hd'⟩,hi'⟩:=hr';have h1:a.tmps[t]?.getD undef=.pointer (some ⟨g,0,none⟩):=by rw[hk.at' _ _ hl];rfl
 have h2:=run_loadVar_mid (P:=P) w g 0 ty cs d (λi v hv=>by rw[Nat.zero_add,Jz (ho.owns _ hb)];exact hv) hu hd (by rw[hi];simp[hm]);have h3:a.tmps[s]?.getD undef=.pointer (some ⟨g',0,none⟩):=by rw[hk.at' _ _ hl2];rfl
 have h4:=run_loadVar_mid (P:=P) w g' 0 ty' cs' d' (λi v hv=>by rw[Nat.zero_add,Jz (ho.owns _ hb2)];exact hv) hu' hd' (by rw[hi'];simp[hm2]);have h5:a.tmps[r]?.getD undef=x:=by rw[hk.at' _ _ hx];rfl
 simp only[results,h];refine⟨by simp[h1,asAddr,h2,h3,h4,h5],?_⟩;have h6:=he2.ok;simpa [h1,asAddr,h2,h3,h4,h5] using h6
end
end
section
open W Go.RowKit
open Bl (Vc Bd Tc Sc)
def IsEnds(M:SM)(S:Sc):Qg:=λv B G=>B=[]/\G=[lF Jc v (2*S.m) (edM M.T) (edT S.T)]
def IsR2(p q:Rat):Qg:=λv B G=>∃m1 m2:QM,v=.tuple #[qv m1,qv m2]/\B=[]/\G=[isQ (qv m1) p,isQ (qv m2) q]
def W.Has.edk{M:SM}{S:Sc}{F:List Fct}{i:Nat}(h:Has F (fT (M.T i) (S.T i))):Has F (fE (edM M.T (2*i)) (edT S.T (2*i)))/\Has F (fE (edM M.T (2*i+1)) (edT S.T (2*i+1))):=by
 rw[(edT_0 ..).1,(edT_0 ..).2,(edM_0 ..).1,(edM_0 ..).2];exact⟨W.Has.eof h.tp h,W.Has.eof h.tq h⟩
namespace K
attribute [local irreducible] WC WL WD YO LO Qq W.Fin Qk Qw Qj Row QJ Qv KnS Has W.One Qa Qs
def d103{G G':Prop}(h:G')(s:Bx G'->G:=by
 intro h;first|refine gB ?_|(apply WC.draw (id:=1) [0,1,2,3,4,5,6,9,10,11,12,13,14,15] (.h 0<|.h 1<|.h 2<|.h 3<|.h 4<|.h 5<|.h 6<|.h 9<|.h 10<|.h 11<|.h 12<|.h 13<|.h 14<|.h 15<|.l 7<|.l 8<|.l 16<|.l 17<|.l 18<|.l 19<|.l 20 .done) mixed kr)|fail
 exact Bx.h h):G:=s ⟨h⟩
def d108{G G':Prop}(h:G')(s:Bx G'->G:=by
 intro h;first|refine gB ?_|(apply WC.draw (id:=1) [0,1,2,3,5] (.h 0<|.h 1<|.h 2<|.h 3<|.h 5<|.l 4<|.l 6<|.l 7 .done) mixed kr)|fail
 exact Bx.h h):G:=s ⟨h⟩
def ends_c(M:SM)(S:Sc)(ho:S.ok):FnB Tryz.prog 99 [M.t] [] [fSt M S] (IsEnds M S):=by
 refine fO [(0,M.t)] 25 Tryz.func99 Tryz.ntmps99 λh0=>?_;have hm:=ho.m;refine WC.Q8 163 38 ?_;repeat'(first|intro(g:Nat)|refine gA ?_|intro v)
 refine WC.lp (σ:=Nat×Value) (λst=>[(8,.int .i64 (st.1:Int)),(7,.int .i64 (S.m:Int)),(6,M.t),(3,st.2)]) (λst=>[lO Jc st.2 163 (2*st.1) (edM M.T) (edT S.T)]) (λst=>[lM Jc (2*st.1) (edM M.T) (edT S.T),ge h0,fSt M S]) (λst=>st.1<=S.m) (λst=>S.m-st.1) (0,.slice none 0 0) (Nat.zero_le _) ?_ (hG:=.cons W.Has.HS haA);rintro⟨i,v⟩ hi;simp only at hi ⊢;by_cases c:i<S.m
 ·refine WC.fact (fT (M.T i) (S.T i)) (W.Has.lk (S:=Qo) (v:=M.t) hmA c) ?_;repeat'(first|intro(g:Nat)|refine gA ?_|intro v)
  exact Qq.mk (i+1,_) (by simp only;omega) (by simp only;omega) (hG:=.cons (((W.Has.mem (by repeat(first|exact List.Mem.head _|apply List.Mem.tail)):Has _ (lM Jc (2*i) (edM M.T) (edT S.T))).mappS (W.Has.edk (M:=M) (S:=S) hmA).1).mappS (W.Has.edk (M:=M) (S:=S) hmA).2) haA)
 ·obtain rfl:i=S.m:=qo;repeat'(first|intro(g:Nat)|refine gA ?_|intro v)
  refine WC.Q3 (S:=Jc) (n:=2*S.m) (ms:=edM M.T) (xs:=edT S.T) (by repeat(first|exact Sel.head|apply Sel.tail)) hmA ?_;refine WC.ret ?_;exact Fp [lF Jc v (2*S.m) (edM M.T) (edT S.T)] (Qh.t1 rfl rfl) haA ⟨rfl,rfl⟩
def Hd(M:SM)(S:Sc)(c:Nat)(hn:S.n<=5)(hc:c<2^S.n):FnB Tryz.prog 83 [M.l,.int .i64 (c:Int)] [] [fSl M S] (IsF S.n (S.wt c)):=by
 refine fO [(0,M.l),(1,(.int .i64 (c:Int)))] 46 Tryz.func83 Tryz.ntmps83 λh0=>?_;have h32:2^S.n<=2^5:=Nat.pow_le_pow_right qd hn;obtain⟨N,hN⟩:∃N,2^S.n=N:=⟨_,rfl⟩
 have hc':c<32:=qo;have hcN:(c:Int)<((2^S.n:Nat):Int):=qo;refine WC.Q8 75 4 ?_;repeat'(first|intro(g:Nat)|refine gA ?_|intro v)
 refine WC.lp (σ:=Nat×Value×(Nat->QM)) (λst=>[(24,.int .i64 (st.1:Int)),(23,.int .i64 (S.n:Int)),(22,M.l),(1,.int .i64 (c:Int)),(5,st.2.1)]) (λst=>[Ow.slice st.2.1 75 4 (Qe st.1 st.2.2)]) (λst=>[mF st.1 st.2.2 (S.wt c),ge h0,fSl M S]) (λst=>st.1<=S.n) (λst=>S.n-st.1) (0,.slice none 0 0,λ_=>m00) (Nat.zero_le _) ?_ (hG:=.cons (W.Has.mFn _ _) haA);rintro⟨i,v,ms⟩ hi;simp only at hi ⊢;by_cases c1:i<S.n
 ·refine WC.fact (fB (M.B i) (S.B i)) (W.Has.lk (S:=XU) (v:=M.l) hmA c1) ?_;refine WC.fact (isQ (qv (M.B i).lo) (S.B i).lo) (W.Has.bl (b:=S.B i) hmA) ?_;refine WC.fact (isQ (qv (M.B i).hi) (S.B i).hi) (W.Has.bh (b:=S.B i) hmA) ?_;have hq:(c:Int)/2^((i:Int)).toNat=((c/2^i:Nat):Int):=by rw[Int.toNat_natCast];simp
  have hq2:c/2^i<=c:=Nat.div_le_self _ _
  have hX:0<=(c:Int)/2^((i:Int)).toNat/\(c:Int)/2^((i:Int)).toNat<=31/\((c:Int)/2^((i:Int)).toNat%2=1↔c/2^i%2=1):=by
   rw[hq];generalize c/2^i=X at *;omega
  obtain⟨hX0,hX1,hX2⟩:=hX;by_cases c2:c/2^i%2=1
  ·have hw:S.wt c i=(S.B i).hi:=if_pos c2;repeat'(first|intro(g:Nat)|refine gA ?_|intro v)
   exact Qq.mk (i+1,_,upd ms i (M.B i).hi) (by simp only;omega) (by simp only;omega) (hG:=.cons (W.Has.QH (W.Has.mFapp (qf:=S.wt c) hmA (m:=(M.B i).hi) (z:=(S.B i).hi) hmA) (λk hk=>by unfold upd;split;(rename_i e;rw[e,hw]);rfl)) haA)
  ·have hw:S.wt c i=(S.B i).lo:=if_neg c2;repeat'(first|intro(g:Nat)|refine gA ?_|intro v)
   exact Qq.mk (i+1,_,upd ms i (M.B i).lo) (by simp only;omega) (by simp only;omega) (hG:=.cons (W.Has.QH (W.Has.mFapp (qf:=S.wt c) hmA (m:=(M.B i).lo) (z:=(S.B i).lo) hmA) (λk hk=>by unfold upd;split;(rename_i e;rw[e,hw]);rfl)) haA)
 ·obtain rfl:i=S.n:=qo;repeat'(first|intro(g:Nat)|refine gA ?_|intro v)
  refine WC.JP v S.n ms (S.wt c) (by repeat(first|exact Sel.head|apply Sel.tail)) hmA ?_;refine WC.ret ?_;exact Fp [fF v S.n ms (S.wt c)] (Qh.t1 rfl rfl) haA ⟨ms,rfl,rfl⟩
def forcex_c(me:EM)(e:Ed)(mv:VM)(f:Vc):FnB Tryz.prog 106 [edv me e,vv mv] [] [fV mv f] (IsR f.x):=by
 refine fO [(0,(edv me e)),(1,(vv mv))] 7 Tryz.func106 Tryz.ntmps106 λh0=>?_;refine WC.fact (isQ (qv mv.1) f.x) (W.Has.vx (a:=f) hmA) ?_;refine WC.fact (isQ (qv mv.2) f.y) (W.Has.vy (a:=f) hmA) ?_;repeat'(first|intro(g:Nat)|refine gA ?_|intro v)
 refine WC.ret ?_;exact Fp [isQ (qv mv.1) f.x] (rcV T.r75) haA ⟨mv.1,rfl,rfl,rfl⟩
def forcey_c(me:EM)(e:Ed)(mv:VM)(f:Vc):FnB Tryz.prog 107 [edv me e,vv mv] [] [fV mv f] (IsR f.y):=by
 refine fO [(0,(edv me e)),(1,(vv mv))] 7 Tryz.func107 Tryz.ntmps107 λh0=>?_;refine WC.fact (isQ (qv mv.1) f.x) (W.Has.vx (a:=f) hmA) ?_;refine WC.fact (isQ (qv mv.2) f.y) (W.Has.vy (a:=f) hmA) ?_;repeat'(first|intro(g:Nat)|refine gA ?_|intro v)
 refine WC.ret ?_;exact Fp [isQ (qv mv.2) f.y] (rcV T.r75) haA ⟨mv.2,rfl,rfl,rfl⟩
def torque_c(me:EM)(e:Ed)(mv:VM)(f:Vc)(gb:Nat)(mb:BM)(b:Bd)(K:Nat)(hK:K<=1000000)(he:Sv K e.at')(hf:Sv K f)(hb:Sv K b.c):FnB Tryz.prog 108 [edv me e,vv mv,ptr gb] [] [fV mv f,fE me e,ce gb 88 (bcs mb),fB mb b] (IsR (Bl.JE (Bl.XY e.at' b.c) f)):=by
 refine fO [(0,(edv me e)),(1,(vv mv)),(2,(ptr gb))] 13 Tryz.func108 Tryz.ntmps108 λh0=>?_;refine WC.fact (fV me.at' e.at') (W.Has.ea (ed:=e) hmA) ?_;refine WC.fact (fV mb.c b.c) (W.Has.bc (bm:=mb) hmA) ?_;repeat'(first|intro(g:Nat)|refine d108 ?_|intro v)
 refine cW (vsub_c me.at' mb.c e.at' b.c K qo he hb) λm2=>?_;repeat'(first|intro(g:Nat)|refine d108 ?_|intro v)
 refine cW (vcross_c m2 mv (Bl.XY e.at' b.c) f (K+K+1) qo ⟨he.1.sub hb.1,he.2.sub hb.2⟩ ⟨hf.1.up qo,hf.2.up qo⟩) λn2=>?_;repeat'(first|intro(g:Nat)|refine d108 ?_|intro v)
 refine WC.ret ?_;exact Fp [isQ (qv n2) (Bl.JE (Bl.XY e.at' b.c) f)] (rcV T.r75) haA ⟨n2,rfl,rfl,rfl⟩
def part_c(gf gi:Nat)(i:Nat)(hi:i<=1000)(ff:FuncId)(fc:List Value)(me:EM)(e:Ed)(K:Nat)(h0K:0<K)(hK:K<=1000000)(hn:Sv K e.t.n)(G:Vc->Rat)(Fc:Fct)
  (hf:∀mv f,Sv K f->FnB Tryz.prog ff ([]++[edv me e,vv mv]++fc) [] [fV mv f,fE me e,Fc] (IsR (G f))) :
  FnB Tryz.prog 103 [edv me e,ptr gf,ptr gi] [] [fE me e,ce gf 166 [.func (.func ff) #[] fc.toArray],ce gi 3 [.int .i64 (i:Int)],Fc] (IsR2 (G (Bl.on e.t i e.t.n)) (G (Bl.on e.t i (Bl.turn e.t.n)))):=by
 refine fO [(0,(edv me e)),(1,(ptr gf)),(2,(ptr gi))] 25 Tryz.func103 Tryz.ntmps103 λh0=>?_;refine WC.fact (fT me.t e.t) (W.Has.et (em:=me) hmA) ?_;refine WC.fact (fV me.t.n e.t.n) (W.Has.tn (tm:=me.t) hmA) ?_
 have hs:∀f,Sv K f->Sv K (Bl.on e.t i f):=λf h=>by
  unfold Bl.on;split
  ·exact h
  ·split
   ·exact⟨h.1.neg,h.2.neg⟩
   ·exact⟨Sq.zero.up h0K,Sq.zero.up h0K⟩
 have hn2:Sv K (Bl.turn e.t.n):=⟨hn.2.neg,hn.1⟩
 repeat'(first|intro(g:Nat)|refine d103 ?_|intro v)
 refine cW (on_c me e i me.t.n e.t.n K h0K hK hn hi) λm2=>?_;repeat'(first|intro(g:Nat)|refine d103 ?_|intro v)
 refine WD.J9 [] fc (vs:=[edv me e,vv m2]) (hf m2 _ (hs _ hn)) ?_;rintro _ _ _ ⟨n1,rfl,rfl,rfl⟩;refine sNn ?_;repeat'(first|intro(g:Nat)|refine d103 ?_|intro v)
 refine cW (across_c me.t.n e.t.n) λm3=>?_;repeat'(first|intro(g:Nat)|refine d103 ?_|intro v)
 refine cW (on_c me e i m3 (Bl.turn e.t.n) K h0K hK hn2 hi) λm4=>?_;repeat'(first|intro(g:Nat)|refine d103 ?_|intro v)
 refine WD.J9 [] fc (vs:=[edv me e,vv m4]) (hf m4 _ (hs _ hn2)) ?_;rintro _ _ _ ⟨n2,rfl,rfl,rfl⟩;refine sNn ?_;repeat'(first|intro(g:Nat)|refine d103 ?_|intro v)
 refine WC.ret ?_;exact Fp [isQ (qv n1) (G (Bl.on e.t i e.t.n)),isQ (qv n2) (G (Bl.on e.t i (Bl.turn e.t.n)))] (Qh.cc rfl rfl rfl meA meA T.r75 rfl T.r75 rfl) haA ⟨n1,n2,rfl,rfl,rfl⟩
end K
end
section
open W Go.RowKit
open Bl (Vc Bd Tc Sc)
def IsPart(i:Nat)(f:Value)(gi:Nat):Qg:=λv B G=>∃gf,v=.func (.func 103) #[] #[ptr gf,ptr gi]/\B=[]/\G=[ce gf 166 [f]]
def co2(fx fy:Nat->Rat)(s:Rat)(j:Nat):Rat:=(if j%2=0 then fx (j/2) else fy (j/2))*s
def IsAdd(g4:Nat)(vars:Int)(gv:Value)(n:Nat)(ms:Nat->LnM)(xs:Nat->LnX):Qg:=λv B G=>∃lv mm,v=.tuple #[]/\B=[Ow.cells g4 118 [.int .i64 vars,lv,gv],lO Qr lv 141 (n+1) (upd ms n mm) xs]/\G=[fLx mm (xs n)]
namespace K
attribute [local irreducible] WC WL WD YO LO Qq W.Fin Qk Qw Qj Row QJ Qv KnS Has W.One Qa Qs
def d100{G G':Prop}(h:G')(s:Bx G'->G:=by
 intro h;first|refine gM ?_|refine goYL ?_|(apply WC.draw (id:=1) [0,1,4,5] (.h 0<|.h 1<|.h 5<|.m 2 (.m 3 (.h 4<|.m 6 (.m 7 (.l 8<|.l 9<|.l 10 .done) (.l 8<|.l 7<|.l 9<|.l 10 .done)) (.m 7 (.m 6 (.l 8<|.l 9<|.l 10 .done) (.l 8<|.l 6<|.l 9<|.l 10 .done)) (.l 8<|.m 6 (.l 7<|.l 9<|.l 10 .done) (.l 7<|.l 6<|.l 9<|.l 10 .done)))) (.m 7 (.m 3 (.h 4<|.m 6 (.l 8<|.l 9<|.l 10 .done) (.l 8<|.l 6<|.l 9<|.l 10 .done)) (.l 8<|.l 3<|.h 4<|.l 6<|.l 9<|.l 10 .done)) (.l 8<|.m 3 (.h 4<|.m 6 (.l 7<|.l 9<|.l 10 .done) (.l 7<|.l 6<|.l 9<|.l 10 .done)) (.l 7<|.l 3<|.h 4<|.l 6<|.l 9<|.l 10 .done)))) (.m 7 (.m 2 (.m 3 (.h 4<|.m 6 (.l 8<|.l 9<|.l 10 .done) (.l 8<|.l 6<|.l 9<|.l 10 .done)) (.l 8<|.l 3<|.h 4<|.l 6<|.l 9<|.l 10 .done)) (.l 8<|.l 2<|.l 3<|.h 4<|.l 6<|.l 9<|.l 10 .done)) (.l 8<|.m 2 (.m 3 (.h 4<|.m 6 (.l 7<|.l 9<|.l 10 .done) (.l 7<|.l 6<|.l 9<|.l 10 .done)) (.l 7<|.l 3<|.h 4<|.l 6<|.l 9<|.l 10 .done)) (.l 7<|.l 2<|.l 3<|.h 4<|.l 6<|.l 9<|.l 10 .done)))) mixed kr)|(apply WC.draw (id:=6) [0,1,2,3,5,6] (.h 0<|.h 1<|.h 2<|.h 3<|.h 5<|.h 6<|.l 4<|.l 7<|.l 8<|.l 9<|.f 10<|.l 11 .done) mixed kr)|fail
 exact Bx.h h):G:=s ⟨h⟩
def H4(gi:Nat)(i:Nat)(ff:FuncId)(fc:List Value):FnB Tryz.prog 102 [.func (.func ff) #[] fc.toArray,ptr gi] [] [] (IsPart i (.func (.func ff) #[] fc.toArray) gi):=by
 refine fO [(0,(.func (.func ff) #[] fc.toArray)),(1,(ptr gi))] 5 Tryz.func102 Tryz.ntmps102 λh0=>?_;repeat'(first|intro(g:Nat)|refine gA ?_|intro v)
 refine WC.keep Rem.head ?_;refine WC.ret ?_;exact Fp [ce g 166 [.func (.func ff) #[] fc.toArray]] (Qh.t1 rfl rfl) haA ⟨g,rfl,rfl,rfl⟩
def Uo(g3 g4:Nat)(va:Value)(E n:Nat)(em:Nat->EM)(ed:Nat->Ed)(sign:Int)(hsg:sign.natAbs<1000)(mb:QM)(most:Rat)(lv gv:Value)(vars:Int)(ms:Nat->LnM)(xs:Nat->LnX)(ff:FuncId)(fc:List Value)(Fc:Fct)(fx fy:Nat->Rat)(K:Nat)(h0K:0<K)(hK:K<=1000000)(hE:E<=1000)(hn:n<=1000)
  (hmost:Sq K most) (hfx:∀k,k<E->Sq K (fx k)) (hfy:∀k,k<E->Sq K (fy k)) (hxs:xs n=⟨2*E,co2 fx fy (Rat.divInt sign 1),most*Rat.divInt sign 1⟩)
  (hf:∀k,k<E->FnB Tryz.prog ff ([]++[edv (em k) (ed k)]++fc) [] [fE (em k) (ed k),Fc] (IsR2 (fx k) (fy k))) :
  FnB Tryz.prog 100 [.int .i64 sign,qv mb,.func (.func ff) #[] fc.toArray,ptr g3,ptr g4] [Ow.cells g4 118 [.int .i64 vars,lv,gv],lO Qr lv 141 n ms xs] [isQ (qv mb) most,ce g3 159 [va],lF Jc va E em ed,Fc] (IsAdd g4 vars gv n ms xs):=by
 refine fO [(0,(.int .i64 sign)),(1,(qv mb)),(2,(.func (.func ff) #[] fc.toArray)),(3,(ptr g3)),(4,(ptr g4))] 51 Tryz.func100 Tryz.ntmps100 λh0=>?_;have hs2:Sq K (Rat.divInt sign 1):=sq_int K h0K sign qo;repeat'(first|intro(g:Nat)|refine gA ?_|intro v)
 refine WC.cutP (σ:=Nat×Nat×QM×QM) (λs=>[(8,ptr s.1),(9,ptr s.2.1),(2,.func (.func ff) #[] fc.toArray),(3,ptr g3),(4,ptr g4)])
  (λs=>[Ow.cells s.1 141 [.slice none 0 0,.bool s.2.2.1.1,s.2.2.1.2.1,.bool false,s.2.2.1.2.2],Ow.cells s.2.1 75 (qcs s.2.2.2),Ow.cells g4 118 [.int .i64 vars,lv,gv],lO Qr lv 141 n ms xs])
  (λs=>[isQ (qv s.2.2.1) (most*Rat.divInt sign 1),isQ (qv s.2.2.2) (Rat.divInt sign 1),ge h0,ce g3 159 [va],lF Jc va E em ed,Fc]) (λ_=>True) ?_ ?_
 ·repeat'(first|intro(g:Nat)|refine d100 ?_|refine gN ?_ ?_|refine cW (Zn.of sign 1 (by show _<1000000000000000000;omega) qd) λzm=>?_|refine cW (Zn.mul mb _ most (Rat.divInt sign 1) (hmost.sm qo) (hs2.sm qo)) λzm=>?_|intro v)
  all_goals(apply Ex4;refine⟨trivial,?_,?_,?_⟩;(focus(repeat(first|exact Sub.nil _|refine Sub.cons rfl ?_)));(focus(repeat(first|exact Ye.nil _|(apply Ye.cons;(repeat(first|exact Rem.head|apply Rem.tail))))));(focus(repeat(first|exact Qu.nil|(apply Qu.cons;exact hsA)))))
 rintro⟨g8,g9,n2,n3⟩ _;simp only;refine WC.Q8 75 4 ?_;repeat'(first|intro(g:Nat)|refine d100 ?_|refine gN ?_ ?_|intro v)
 refine WC.lp (σ:=Nat×Value×(Nat->QM)) (λst=>[(23,.int .i64 (st.1:Int)),(22,.int .i64 (E:Int)),(21,va),(8,ptr g8),(9,ptr g9),(2,.func (.func ff) #[] fc.toArray),(3,ptr g3),(4,ptr g4)])
  (λst=>[Ow.slice st.2.1 75 4 (Qe (2*st.1) st.2.2),Ow.cells g8 141 [st.2.1,.bool n2.1,n2.2.1,.bool false,n2.2.2],Ow.cells g9 75 (qcs n3),Ow.cells g4 118 [.int .i64 vars,lv,gv],lO Qr lv 141 n ms xs])
  (λst=>[mF (2*st.1) st.2.2 (co2 fx fy (Rat.divInt sign 1)),isQ (qv n2) (most*Rat.divInt sign 1),isQ (qv n3) (Rat.divInt sign 1),ge h0,ce g3 159 [va],lF Jc va E em ed,Fc]) (λst=>st.1<=E) (λst=>E-st.1) (0,.slice none 0 0,λ_=>m00) (Nat.zero_le _) ?_ (hG:=.cons (W.Has.mFn _ _) haA)
 rintro⟨k,vq,mq⟩ hk;simp only at hk ⊢;by_cases c:k<E
 ·refine WC.fact (fE (em k) (ed k)) (W.Has.lk (S:=Jc) (v:=va) hmA c) ?_;repeat'(first|intro(g:Nat)|refine d100 ?_|refine gN ?_ ?_|intro v)
  refine WL.J9 [] fc (vs:=[edv (em k) (ed k)]) (hf k c) ?_;rintro _ _ _ ⟨m1,m2,rfl,rfl,rfl⟩;refine sNn ?_;repeat'(first|intro(g:Nat)|refine d100 ?_|refine gN ?_ ?_|intro v)
  refine cW (Zn.mul m1 n3 (fx k) (Rat.divInt sign 1) ((hfx k c).sm qo) (hs2.sm qo)) λn4=>?_;repeat'(first|intro(g:Nat)|refine d100 ?_|refine gN ?_ ?_|intro v)
  refine cW (Zn.mul m2 n3 (fy k) (Rat.divInt sign 1) ((hfy k c).sm qo) (hs2.sm qo)) λn5=>?_;repeat'(first|intro(g:Nat)|refine d100 ?_|refine gN ?_ ?_|intro v)
  have e1:co2 fx fy (Rat.divInt sign 1) (2*k)=fx k*Rat.divInt sign 1:=by unfold co2;rw[if_pos qo,show 2*k/2=k by omega]
  have e2:co2 fx fy (Rat.divInt sign 1) (2*k+1)=fy k*Rat.divInt sign 1:=by unfold co2;rw[if_neg qo,show(2*k+1)/2=k by omega]
  exact Qq.mk (k+1,_,upd (upd mq (2*k) n4) (2*k+1) n5) (by simp only;omega) (by simp only;omega) (hG:=.cons (W.Has.QH (W.Has.mFapp (W.Has.mFapp (n:=2*k) (qf:=co2 fx fy (Rat.divInt sign 1)) hmA (m:=n4) (z:=fx k*Rat.divInt sign 1) hmA) (m:=n5) (z:=fy k*Rat.divInt sign 1) hmA) (λj hj=>by unfold upd;split;(rename_i e;rw[e];exact e2.symm);split;(rename_i e;rw[e];exact e1.symm);rfl)) haA)
 ·obtain rfl:k=E:=qo;repeat'(first|intro(g:Nat)|refine d100 ?_|refine gN ?_ ?_|intro v)
  refine WL.JP vq (2*k) mq (co2 fx fy (Rat.divInt sign 1)) (by repeat(first|exact Sel.head|apply Sel.tail)) hmA ?_;refine WL.QE (fLx ⟨vq,mq,n2⟩ (xs n)) (by rw[hxs];exact W.Has.lof hmA hmA) ?_;repeat'(first|intro(g:Nat)|refine d100 ?_|refine gN ?_ ?_|intro v)
  exact Fin.p [_,_] [fLx ⟨vq,mq,n2⟩ (xs n)] (Qh.t0 rfl) meA slA haA ⟨_,⟨vq,mq,n2⟩,rfl,rfl,rfl⟩
end K
end
section
open W Go.RowKit
open Bl (Vc Bd Tc Sc)
def LO.ofY{P:Program}{e:Env}{bx:List Ow}{F:List Fct}{ty:TypeId}{op:Op}{r:Value}{K:Qg}(hy:YO P op ty e bx F r)(h:K r bx F):LO P op ty e bx F K:=λn fr a w o K' h1 h2 h3 h4 h5=>by
 have:=hy n fr a w o h1 h2 h3 h4;rw[this.1];refine .inl ⟨.look this.2,?_⟩;rw[Ql (Nat.le_refl _)];exact h5 fr r w bx F (.refl _) (Rest.refl w) h4 h
attribute [local irreducible] WC WL WD YO LO Qq W.Fin Qk Qw Qj Row QJ Qv KnS Has W.One Qa Qs
namespace K
def goYB{G G':Prop}(h:G')(s:Bx G'->G:=by
 intro h
 (apply WD.yl;exact rfl;(first|exact Xh|(first|(first|(apply YO.slice;exact t6A;exact rfl;exact knA;exact Or.inl ⟨rfl,rfl⟩;exact Or.inr ⟨_,rfl,rfl⟩;omega;omega)|(apply YO.slice;exact t6A;exact rfl;exact knA;exact Or.inr ⟨_,rfl,rfl⟩;exact Or.inl ⟨rfl,rfl⟩;omega;omega))|(apply YO.slice3;exact t6A;exact rfl;exact knA;exact rfl;exact rfl;omega;omega)|(apply YO.slice;exact t6A;exact rfl;exact knA;exact Or.inr ⟨_,rfl,rfl⟩;exact Or.inr ⟨_,rfl,rfl⟩;omega;omega))|(apply YO.extract;exact rfl;exact rfl)|exact Q7|(first|(first|(apply YO.ix1;exact t6A;exact rfl;exact rfl;exact knA;omega)|(apply YO.ix;exact t6A;exact rfl;exact rfl;exact knA;omega)|(apply YO.Yl;exact t6A;exact rfl;exact rfl;exact knA;omega;omega)|(apply YO.ix';exact t6A;exact rfl;exact rfl;exact knA;omega;omega))|(apply YO.ix1;exact t6A;exact rfl;exact rfl;exact knA;(first|omega|(simp only[List.length_set,List.length_replicate];omega)))|(apply YO.ix;exact t6A;exact rfl;exact rfl;exact knA;(first|omega|(simp only[List.length_set,List.length_replicate];omega)))|(apply YO.Yl;exact t6A;exact rfl;exact rfl;exact knA;omega;(first|omega|(simp only[List.length_set,List.length_replicate];omega))))|(first|(apply YO.ldC;exact t4A;exact rfl;exact meA;(repeat(first|exact Cut.done|apply Cut.take|apply Cut.drop)))|(apply YO.ldL;exact t4A;exact rfl;exact hmA;(first|exact Off.base|(apply Off.add;exact Off.base;((try simp only[Nat.zero_add,Nat.mul_one,Nat.reduceAdd,Nat.reduceMul]);exact rfl))|(apply Off.add;apply Off.add;exact Off.base;((try simp only[Nat.zero_add,Nat.mul_one,Nat.reduceAdd,Nat.reduceMul]);exact rfl);((try simp only[Nat.zero_add,Nat.mul_one,Nat.reduceAdd,Nat.reduceMul]);exact rfl))|(apply Off.add;apply Off.add;apply Off.add;exact Off.base;((try simp only[Nat.zero_add,Nat.mul_one,Nat.reduceAdd,Nat.reduceMul]);exact rfl);((try simp only[Nat.zero_add,Nat.mul_one,Nat.reduceAdd,Nat.reduceMul]);exact rfl);((try simp only[Nat.zero_add,Nat.mul_one,Nat.reduceAdd,Nat.reduceMul]);exact rfl)));omega;decide;(repeat(first|exact Cut.done|apply Cut.take|apply Cut.drop)))|(apply YO.ldLs;exact t2A;exact rfl;exact hmA;(first|exact Off.base|(apply Off.add;exact Off.base;((try simp only[Nat.zero_add,Nat.mul_one,Nat.reduceAdd,Nat.reduceMul]);exact rfl))|(apply Off.add;apply Off.add;exact Off.base;((try simp only[Nat.zero_add,Nat.mul_one,Nat.reduceAdd,Nat.reduceMul]);exact rfl);((try simp only[Nat.zero_add,Nat.mul_one,Nat.reduceAdd,Nat.reduceMul]);exact rfl))|(apply Off.add;apply Off.add;apply Off.add;exact Off.base;((try simp only[Nat.zero_add,Nat.mul_one,Nat.reduceAdd,Nat.reduceMul]);exact rfl);((try simp only[Nat.zero_add,Nat.mul_one,Nat.reduceAdd,Nat.reduceMul]);exact rfl);((try simp only[Nat.zero_add,Nat.mul_one,Nat.reduceAdd,Nat.reduceMul]);exact rfl)));omega;(repeat(first|exact Cut.done|apply Cut.take|apply Cut.drop)))|(apply YO.ldCk;exact t4A;exact rfl;exact hmA;(repeat(first|exact Cut.done|apply Cut.take|apply Cut.drop)))|(apply YO.ldON;exact t2A;exact rfl;exact meA;omega)|(apply YO.ldOV;exact t2A;exact rfl;exact meA;omega)|(apply YO.ldW;exact t4A;exact rfl;exact meA;exact rfl)|(apply YO.ld42;exact t4A;exact rfl;exact meA)|(apply YO.ld40;exact t4A;exact rfl;exact meA)|(apply YO.ld51;exact t4A;exact rfl;exact meA)|(apply YO.ldFf;exact t4A;exact rfl;exact hmA;omega)|(apply YO.ldOR;exact t4A;exact rfl;exact meA;omega)|(apply YO.ldRf;exact t4A;exact rfl;exact hmA;omega;omega)|(apply YO.ldPl;exact t4A;exact rfl;exact hmA;omega)|(apply YO.ldF;exact t2A;exact rfl;exact hmA;exact rfl)|(apply YO.ldS;exact t2A;exact rfl;exact hsA;omega)|(apply YO.ldB;exact t2A;exact rfl;exact meA;exact rfl)|(apply YO.Kr;exact t2A;exact rfl;exact meA;(first|omega|(simp only[List.length_set,List.length_replicate];omega))))|fail);exact rfl;exact rfl)
 exact Bx.h h):G:=s ⟨h⟩
def goLY{G G':Prop}(h:G')(s:Bx G'->G:=by
 intro h
 (apply LO.ofY;(first|exact Xh|(first|(first|(apply YO.slice;exact t6A;exact rfl;exact knA;exact Or.inl ⟨rfl,rfl⟩;exact Or.inr ⟨_,rfl,rfl⟩;omega;omega)|(apply YO.slice;exact t6A;exact rfl;exact knA;exact Or.inr ⟨_,rfl,rfl⟩;exact Or.inl ⟨rfl,rfl⟩;omega;omega))|(apply YO.slice3;exact t6A;exact rfl;exact knA;exact rfl;exact rfl;omega;omega)|(apply YO.slice;exact t6A;exact rfl;exact knA;exact Or.inr ⟨_,rfl,rfl⟩;exact Or.inr ⟨_,rfl,rfl⟩;omega;omega))|(apply YO.extract;exact rfl;exact rfl)|exact Q7|(first|(first|(apply YO.ix1;exact t6A;exact rfl;exact rfl;exact knA;omega)|(apply YO.ix;exact t6A;exact rfl;exact rfl;exact knA;omega)|(apply YO.Yl;exact t6A;exact rfl;exact rfl;exact knA;omega;omega)|(apply YO.ix';exact t6A;exact rfl;exact rfl;exact knA;omega;omega))|(apply YO.ix1;exact t6A;exact rfl;exact rfl;exact knA;(first|omega|(simp only[List.length_set,List.length_replicate];omega)))|(apply YO.ix;exact t6A;exact rfl;exact rfl;exact knA;(first|omega|(simp only[List.length_set,List.length_replicate];omega)))|(apply YO.Yl;exact t6A;exact rfl;exact rfl;exact knA;omega;(first|omega|(simp only[List.length_set,List.length_replicate];omega))))|(first|(apply YO.ldC;exact t4A;exact rfl;exact meA;(repeat(first|exact Cut.done|apply Cut.take|apply Cut.drop)))|(apply YO.ldL;exact t4A;exact rfl;exact hmA;(first|exact Off.base|(apply Off.add;exact Off.base;((try simp only[Nat.zero_add,Nat.mul_one,Nat.reduceAdd,Nat.reduceMul]);exact rfl))|(apply Off.add;apply Off.add;exact Off.base;((try simp only[Nat.zero_add,Nat.mul_one,Nat.reduceAdd,Nat.reduceMul]);exact rfl);((try simp only[Nat.zero_add,Nat.mul_one,Nat.reduceAdd,Nat.reduceMul]);exact rfl))|(apply Off.add;apply Off.add;apply Off.add;exact Off.base;((try simp only[Nat.zero_add,Nat.mul_one,Nat.reduceAdd,Nat.reduceMul]);exact rfl);((try simp only[Nat.zero_add,Nat.mul_one,Nat.reduceAdd,Nat.reduceMul]);exact rfl);((try simp only[Nat.zero_add,Nat.mul_one,Nat.reduceAdd,Nat.reduceMul]);exact rfl)));omega;decide;(repeat(first|exact Cut.done|apply Cut.take|apply Cut.drop)))|(apply YO.ldLs;exact t2A;exact rfl;exact hmA;(first|exact Off.base|(apply Off.add;exact Off.base;((try simp only[Nat.zero_add,Nat.mul_one,Nat.reduceAdd,Nat.reduceMul]);exact rfl))|(apply Off.add;apply Off.add;exact Off.base;((try simp only[Nat.zero_add,Nat.mul_one,Nat.reduceAdd,Nat.reduceMul]);exact rfl);((try simp only[Nat.zero_add,Nat.mul_one,Nat.reduceAdd,Nat.reduceMul]);exact rfl))|(apply Off.add;apply Off.add;apply Off.add;exact Off.base;((try simp only[Nat.zero_add,Nat.mul_one,Nat.reduceAdd,Nat.reduceMul]);exact rfl);((try simp only[Nat.zero_add,Nat.mul_one,Nat.reduceAdd,Nat.reduceMul]);exact rfl);((try simp only[Nat.zero_add,Nat.mul_one,Nat.reduceAdd,Nat.reduceMul]);exact rfl)));omega;(repeat(first|exact Cut.done|apply Cut.take|apply Cut.drop)))|(apply YO.ldCk;exact t4A;exact rfl;exact hmA;(repeat(first|exact Cut.done|apply Cut.take|apply Cut.drop)))|(apply YO.ldON;exact t2A;exact rfl;exact meA;omega)|(apply YO.ldOV;exact t2A;exact rfl;exact meA;omega)|(apply YO.ldW;exact t4A;exact rfl;exact meA;exact rfl)|(apply YO.ld42;exact t4A;exact rfl;exact meA)|(apply YO.ld40;exact t4A;exact rfl;exact meA)|(apply YO.ld51;exact t4A;exact rfl;exact meA)|(apply YO.ldFf;exact t4A;exact rfl;exact hmA;omega)|(apply YO.ldOR;exact t4A;exact rfl;exact meA;omega)|(apply YO.ldRf;exact t4A;exact rfl;exact hmA;omega;omega)|(apply YO.ldPl;exact t4A;exact rfl;exact hmA;omega)|(apply YO.ldF;exact t2A;exact rfl;exact hmA;exact rfl)|(apply YO.ldS;exact t2A;exact rfl;exact hsA;omega)|(apply YO.ldB;exact t2A;exact rfl;exact meA;exact rfl)|(apply YO.Kr;exact t2A;exact rfl;exact meA;(first|omega|(simp only[List.length_set,List.length_replicate];omega))))|fail);constructor;exact ltA)
 exact Bx.h h):G:=s ⟨h⟩
end K
end
end Go.Proofs.YtbnobghgnbockaaGreat
