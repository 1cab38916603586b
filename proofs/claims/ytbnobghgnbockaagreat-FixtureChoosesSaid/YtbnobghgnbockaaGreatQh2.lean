/- Lemmas. Conditions: none. -/
import Derived.Test.YtbnobghgnbockaaGreatZk40
import Derived.Test.YtbnobghgnbockaaGreatZk41
import Derived.Test.YtbnobghgnbockaaGreatQh1
import Derived.Test.YtbnobghgnbockaaGreatZk15
import Derived.Test.YtbnobghgnbockaaGreatZk32
import Derived.Test.YtbnobghgnbockaaGreatZk1
set_option linter.all false
set_option maxHeartbeats 0
set_option maxRecDepth 100000
namespace Go.Proofs.YtbnobghgnbockaaGreat
open Go.Proofs.Tryz (prog)
open W Go.RowKit
open Bl (Vc Bd Tc Sc)
def YO.quoj{P:nh}{e:Env}{bx:nw}{F:nc}{ty t t':nl}{x y:ni}{i c:Int}{j:Nat}(hx:ev e x=some (.int .i64 i))(hy:ev e y=some (.int .i64 c))(hq:i/c=(j:Int))(h1:0<=i)(h2:0<c)(h3:i<=9223372036854775807):YO P (.binOp .quo t x y t') ty e bx F (.int .i64 (j:Int)):=hq ▸ YO.quo hx hy h1 h2 h3
def Off.b{w w' k:Nat}(h:w=w'):Off w (k*w') k 0:=by subst h;exact .base
section
attribute [local irreducible] WC WL WD YO LO Qq W.Fin Qk Qh Qj Row QZ Qv KnS Has W.One Qo QX
namespace K
namespace Q
namespace R
def Zq{G:Prop}(h:G:=by first|((first|(apply YO.quoj;exact rfl;exact rfl;assumption;omega;omega;omega)|exact Go.Proofs.YtbnobghgnbockaaGreat.K.Zq);done)|fail):G:=h
def oF{G:Prop}(h:G:=by first|((first|(with_reducible apply Off.b;exact rfl)|(with_reducible apply Off.add;with_reducible apply Off.b;exact rfl;exact wq2)|(with_reducible apply Off.add;with_reducible apply Off.add;with_reducible apply Off.b;exact rfl;exact wq2;exact wq2));done)|fail):G:=h
def YU{G:Prop}(h:G:=by first|((first|(apply YO.ldL;exact t4A;exact rfl;exact hmA;exact oF;omega;decide;exact wq13)|(apply YO.ldLs;exact t2A;exact rfl;exact hmA;exact oF;omega;exact wq13)|(apply YO.ldPl1;exact rfl;exact hmA;omega)|exact Go.Proofs.YtbnobghgnbockaaGreat.K.YU);done)|fail):G:=h
def goE{G G':Prop}(h:G')(s:Bx G'->G:=by
 intro h
 (first|(apply WL.Q4;rotate_left;exact rfl;fail)|(apply WD.Q4;exact rfl;rotate_left;exact rfl;fail;constructor;(first|exact wq1|(apply Or.inl;kernel_rfl)))|(fail;constructor;(first|exact wq1|(apply Or.inl;kernel_rfl)))|refine Go.Proofs.YtbnobghgnbockaaGreat.K.Q.goE ?_|fail)
 exact Bx.h h):G:=s ⟨h⟩
def goEV{G G':Prop}(h:G')(s:Bx G'->G:=by
 intro h
 (first|(apply WL.Jn;rotate_left;exact rfl;exact rfl;fail)|(apply WD.Jn;exact rfl;rotate_left;exact rfl;exact rfl;fail;apply Qn;(intro _;(first|exact wq1|(apply Or.inl;kernel_rfl))))|(fail;apply Qn;(intro _;(first|exact wq1|(apply Or.inl;kernel_rfl))))|(apply WL.JW;rotate_left;exact rfl;exact rfl;(apply LO.bsT0))|(apply WD.JW;exact rfl;rotate_left;exact rfl;exact rfl;(apply LO.bsT0);apply Qn;(intro _;(first|exact wq1|(apply Or.inl;kernel_rfl))))|((apply LO.bsT0);apply Qn;(intro _;(first|exact wq1|(apply Or.inl;kernel_rfl))))|refine Go.Proofs.YtbnobghgnbockaaGreat.K.Q.goEV ?_|fail)
 exact Bx.h h):G:=s ⟨h⟩
def y_sc{G:Prop}(h:G:=by first|((apply VT;exact rfl;exact rfl;exact KnS.lo meA;exact KnS.lo meA);done)|fail):G:=h
def goYB{G G':Prop}(h:G')(s:Bx G'->G:=by
 intro h
 (first|(apply WD.yl;exact rfl;exact y_sc;exact rfl;exact rfl)|refine Go.Proofs.YtbnobghgnbockaaGreat.K.goYB ?_|fail)
 exact Bx.h h):G:=s ⟨h⟩
def goLY{G G':Prop}(h:G')(s:Bx G'->G:=by
 intro h
 (first|(apply LO.ofY;exact y_sc;constructor;exact(by(first|exact wq1|(apply Or.inl;kernel_rfl))))|refine Go.Proofs.YtbnobghgnbockaaGreat.K.goLY ?_|fail)
 exact Bx.h h):G:=s ⟨h⟩
end R
end Q
end K
namespace K
namespace Q
def d77{G G':Prop}(h:G')(s:Bx G'->G:=by
 intro h;first|refine gF ?_|(apply WC.draw (id:=4) [0,1,2,3,5,6,7,8,11] (.h 0<|.h 1<|.h 2<|.h 3<|.h 5<|.h 6<|.h 7<|.h 8<|.l 4<|.l 9<|.l 10<|.h 11 .done) mixed kr)|fail
 exact Bx.h h):G:=s ⟨h⟩
def d77r{G G':Prop}(h:G')(s:Bx G'->G:=by
 intro h;repeat'(first|intro(zQ:Nat)|refine d77 ?_|intro zQ)
 repeat revert zQ
 exact Bx.h h):G:=s ⟨h⟩

def Fq(v:nA)(z:Int):FnB prog 153 [v] [] [isZ v z] (IsV (.bool true)):=by
 refine fO [(0,v)] 41 Tryz.func153 Tryz.ntmps153 λh0=>?_;refine WC.Jw (v:=v) (z:=z) hmA λn1 d1 hv hb1=>?_;subst hv;refine WC.fact (sI d1 (Qx z.natAbs)) (QH hmA) ?_;have hd:=Qe z.natAbs;have hn:=ZV z.natAbs;have hl:=@QN z.natAbs;generalize Qx z.natAbs=l at *;refine WC.ZE d1 l hmA λhlen=>?_;refine gPr ?_;intro g;revert g;intro g1;refine WC.keep (g:=g1) (t:=73) (cs:=[.bool n1,d1]) wq11 ?_;refine WC.lp (σ:=Nat) (λi=>[(3,nj i),(1,ptr g1)]) (λ_=>[]) (λ_=>[ce g1 73 [.bool n1,d1],ge h0,sI d1 l]) (λi=>i<=l.length) (λi=>l.length-i) 0 (aj _) ?_;intro i hi;by_cases c:i<l.length
 .have hdi:=hd.in i c;refine gPr ?_;exact Qq.mk (i+1) qo qo
 .by_cases c0:l.length=0
  .obtain rfl:n1=false:=by rw[hb1,ak];have:=hl.1 c0;omega
   refine gPr ?_;exact wq4
  .have h1:=hn qo;rw[show l.length-1=((l.length:Int)-1).toNat by omega] at h1;refine gPr ?_;exact wq4
def Xd(m:QM)(q:Rat)(hq:Sm q):FnB prog 71 [qv m] [] [isQ (qv m) q] (IsV (.bool true)):=by
 refine fO [(0,(qv m))] 34 Tryz.func71 Tryz.ntmps71 λh0=>?_;refine WC.fact (isZ (.agg #[.bool m.1,m.2.1]) q.num) (JX hmA) ?_;refine WC.fact (isZ (.agg #[nq,m.2.2]) (qz q)) (Hb hmA) ?_;refine WC.fact (sI m.2.2 (Qx (qz q).natAbs)) (Kq hmA) ?_;have hl:=@ZO q;refine gPr ?_;intro g;refine cV (Fq (.agg #[.bool m.1,m.2.1]) q.num) ?_;refine gPr ?_;refine cV (Fq (.agg #[nq,m.2.2]) (qz q)) ?_;refine gPr ?_;refine cV (Rp.VB (.agg #[nq,m.2.2]) (qz q)) ?_;have h1:qz q≠1:=by unfold qz;split<;>omega
 rw[ak h1];by_cases c:q.den=1
 .have h2:=hl.2 c;refine gPr ?_;exact wq4
 .have h2:(Qx (qz q).natAbs).length≠0:=λh=>c (hl.1 h);have h3:qz q=(q.den:Int):=by unfold qz;rw[ae c]
  have hgcd:Int.gcd q.num (qz q)=1:=by rw[h3];exact q.reduced
  refine gPr ?_;refine cK (Ro.rgcd_c (.agg #[.bool m.1,m.2.1]) (.agg #[nq,m.2.2]) q.num (qz q) (Sm.w hq.1) (by rw[h3,aG];exact Sm.w hq.2)) ?_;rintro _ _ _ ⟨n1,d1,rfl,hb1,rfl,rfl⟩;refine gPs ?_;refine cV (Rp.VB (.agg #[.bool n1,d1]) _) ?_;refine gPr ?_;exact wq123
def DX(m:VM)(a:Vc)(K:Nat)(hK:K<=10000000)(ha:Sv K a):FnB prog 159 [vv m] [] [fV m a] (IsV (.bool true)):=by
 refine fO [(0,(vv m))] 11 Tryz.func159 Tryz.ntmps159 λh0=>?_;refine gPr ?_;intro g;refine cV (Xd m.1 a.x (ha.1.sm qo)) ?_;refine gPr ?_;refine cV (Xd m.2 a.y (ha.2.sm qo)) ?_;refine gPr ?_;exact wq4
def rbody_c(m:BM)(b:Bd)(K:Nat)(hK:K<=10000000)(hs:Sb K b)(hb:Bl.BdOk b):FnB prog 76 [bv m] [] [fB m b] (IsV (.bool true)):=by
 refine fO [(0,(bv m))] 43 Tryz.func76 Tryz.ntmps76 λh0=>?_;refine WC.fact (fV m.c b.c) (W.Has.bc (bm:=m) hmA) ?_;refine WC.fact (isQ (qv m.lo) b.lo) (W.Has.bl (b:=b) hmA) ?_;refine WC.fact (isQ (qv m.hi) b.hi) (W.Has.bh (b:=b) hmA) ?_;refine WC.fact (isQ (qv m.st) b.st) (W.Has.bs (b:=b) hmA) ?_;have h1:=Ur.2 hb.1;have h2:=Rat.not_lt.2 hb.2.1;have h3:=Ur.2 hb.2.2;have h4:0<=XN b.hi b.lo:=Int.not_lt.1 λh=>h2 (VZ.1 h);refine gPr ?_;intro g;refine cV (DX m.c b.c K hK hs.1) ?_;refine gPr ?_;refine cV (Xd m.lo b.lo (hs.2.1.sm qo)) ?_;refine gPr ?_;refine cV (Xd m.hi b.hi (hs.2.2.1.sm qo)) ?_;refine gPr ?_;refine cV (Xd m.st b.st (hs.2.2.2.sm qo)) ?_;refine gPr ?_;refine cV (Zn.Y5 m.lo b.lo) ?_;refine gPr ?_;refine cV (Zn.rcmp m.hi m.lo b.hi b.lo (hs.2.2.1.sm qo) (hs.2.1.sm qo)) ?_;refine gPr ?_;refine cV (Zn.Y5 m.st b.st) ?_;refine gPr ?_;exact wq4
def rtouch_c(m:ToM)(t:Tc)(n K:Nat)(hK:K<=1000000)(hs:St K t)(ht:Bl.Y0 n t)(hn:n<=1000):FnB prog 77 [tv m t,nj n] [] [fT m t] (IsV (.bool true)):=by
 refine fO [(0,(tv m t)),(1,(nj n))] 94 Tryz.func77 Tryz.ntmps77 λh0=>?_;refine WC.fact (fV m.p t.p) (W.Has.tp (tm:=m) hmA) ?_;refine WC.fact (fV m.q t.q) (W.Has.tq (tm:=m) hmA) ?_;refine WC.fact (fV m.n t.n) (W.Has.tn (tm:=m) hmA) ?_;refine WC.fact (isQ (qv m.n.1) t.n.x) (W.Has.vx (m:=m.n) hmA) ?_;refine WC.fact (isQ (qv m.n.2) t.n.y) (W.Has.vy (m:=m.n) hmA) ?_;refine WC.fact (isQ (qv m.r) t.r) (W.Has.trr (t:=t) hmA) ?_;obtain⟨a1,a2,b1,b2,ab,r0,n0,pq⟩:=ht;have h1:0<=sgn t.r.num:=Int.not_lt.1 λh=>Rat.not_lt.2 r0 (Xq.1 h);refine d77r ?_;intro g;refine cV (DX m.p t.p K qo hs.1) ?_;refine d77r ?_;refine cV (DX m.q t.q K qo hs.2.1) ?_;refine d77r ?_;refine cV (DX m.n t.n K qo hs.2.2.1) ?_;refine d77r ?_;refine cV (Xd m.r t.r (hs.2.2.2.sm qo)) ?_;refine d77r ?_;refine cW (rvdot_c m.n m.q t.n t.q K qo hs.2.2.1 hs.2.1) λn1=>?_;refine d77r ?_;refine cW (rvdot_c m.n m.p t.n t.p K qo hs.2.2.1 hs.1) λn2=>?_;refine d77r ?_;refine cV (Zn.rsame n1 n2 (t.n.x*t.q.x+t.n.y*t.q.y) (t.n.x*t.p.x+t.n.y*t.p.y)) ?_;rw[aq (show t.n.x*t.q.x+t.n.y*t.q.y=t.n.x*t.p.x+t.n.y*t.p.y by have:t.n.x*(t.q.x-t.p.x)+t.n.y*(t.q.y-t.p.y)=0:=pq;grind)];refine d77r ?_;refine cV (Zn.Y5 m.n.1 t.n.x) ?_;by_cases hx:t.n.x=0
 .have hx1:=Je.2 hx;have hy:¬sgn t.n.y.num=0:=λh=>n0 ⟨hx,Je.1 h⟩;refine d77r ?_;refine cV (Zn.Y5 m.n.2 t.n.y) ?_;refine d77r ?_;refine cV (Zn.Y5 m.r t.r) ?_;refine d77r ?_;exact wq4
 .have hx1:¬sgn t.n.x.num=0:=λh=>hx (Je.1 h);refine d77r ?_;refine cV (Zn.Y5 m.r t.r) ?_;refine d77r ?_;exact wq4
def HM(M:SM)(S:Sc)(K:Nat)(hK:K<=1000000)(hs:Ss K S)(ho:S.ok):FnB prog 45 [M.l,M.t] [] [fSl M S,fSt M S] (IsV (nj 0)):=by
 refine fO [(0,M.l),(1,M.t)] 41 Tryz.func45 Tryz.ntmps45 λh0=>?_;have hn:=ho.n;have hm:=ho.m;refine gPr ?_;refine WC.JK (σ:=Unit) (λ_=>[(0,M.l),(1,M.t)]) (λ_=>[]) (λ_=>[ge h0,fSl M S,fSt M S]) (λ_=>True) ?_ ?_
 .refine WC.lp (σ:=Nat) (λi=>[(5,nj i),(0,M.l),(1,M.t)]) (λ_=>[]) (λ_=>[ge h0,fSl M S,fSt M S]) (λi=>i<=S.n) (λi=>S.n-i) 0 (aj _) ?_;intro i hi;by_cases c:i<S.n
  .refine WC.fact (fB (M.B i) (S.B i)) (W.Has.lk (S:=QQ) (v:=M.l) hmA c) ?_;refine gPr ?_;refine cV (rbody_c (M.B i) (S.B i) K qo (hs.B i c) (ho.B i c)) ?_;refine gPr ?_;exact Qq.mk (i+1) qo qo
  .obtain rfl:i=S.n:=qo;refine gPr ?_;exact Qr () trivial
 .rintro⟨⟩ _;refine gPr ?_;refine WC.lp (σ:=Nat) (λi=>[(6,nj i),(0,M.l),(1,M.t)]) (λ_=>[]) (λ_=>[ge h0,fSl M S,fSt M S]) (λi=>i<=S.m) (λi=>S.m-i) 0 (aj _) ?_;intro i hi;by_cases c:i<S.m
  .refine WC.fact (fT (M.T i) (S.T i)) (W.Has.lk (S:=Qu) (v:=M.t) hmA c) ?_;refine gPr ?_;refine cV (rtouch_c (M.T i) (S.T i) S.n K hK (hs.T i c) (ho.T i c) qo) ?_;refine gPr ?_;exact Qq.mk (i+1) qo qo
  .obtain rfl:i=S.m:=qo;refine gPr ?_;exact wq4
def Fz(pv:nA)(n K:Nat)(mp:Nat->VM)(xs:Nat->Vc)(hn:n<=1000)(hK:K<=400000000)(hx:∀k,k<n->Sv K (xs k)):FnB prog 155 [pv,nj n] [] [lF Jt pv n mp xs] (IsV (.bool true)):=by
 refine fO [(0,pv),(1,(nj n))] 35 Tryz.func155 Tryz.ntmps155 λh0=>?_;refine gPr ?_;refine WC.lp (σ:=Nat) (λi=>[(6,nj i),(5,.bool true),(0,pv)]) (λ_=>[]) (λ_=>[ge h0,lF Jt pv n mp xs]) (λi=>i<=n) (λi=>n-i) 0 (aj _) ?_;intro i hi;by_cases c:i<n
 .refine WC.fact (fV (mp i) (xs i)) (W.Has.lk (S:=Jt) (v:=pv) hmA c) ?_;refine WC.fact (isQ (qv (mp i).1) (xs i).x) (W.Has.vx (m:=mp i) hmA) ?_;refine WC.fact (isQ (qv (mp i).2) (xs i).y) (W.Has.vy (m:=mp i) hmA) ?_;refine gPr ?_;refine cV (Xd (mp i).1 (xs i).x ((hx i c).1.sm qo)) ?_;refine gPr ?_;refine cV (Xd (mp i).2 (xs i).y ((hx i c).2.sm qo)) ?_;refine gPr ?_;exact Qq.mk (i+1) qo qo
 .obtain rfl:i=n:=qo;refine gPr ?_;exact wq4
end Q
end K
def stK_step{S:Sc}{xs:Nat->Vc}{k i j:Nat}(hj:k/2=j):stK S xs (k+1) i=stK S xs k i+(if Bl.tch (S.T j) i then Bl.spn (S.T j).n*(xs k).x else 0):=by subst hj;rfl
def DC{S:Sc}{xs:Nat->Vc}{K Kp E:Nat}(hs:Ss K S)(hx:∀k,k<2*S.m->Sv Kp (xs k))(hE:2*S.m*(Kp+2*K+5)+1<=E){k:Nat}(hk:k<=2*S.m)(i:Nat):Sq E (stK S xs k i):=by
 have h1:=X.YM (m:=k) (f:=λj=>if Bl.tch (S.T (j/2)) i then Bl.spn (S.T (j/2)).n*(xs j).x else 0) (k:=Kp+2*K+4) λj hj=>by
  show Sq _ (if _ then _ else _);split
  .have ht:=(hs.T (j/2) qo).2.2.1;unfold Bl.spn;exact((ht.1.ab.add ht.2.ab).mul (hx j qo).1).up qo
  .exact Sq.zero.up qo
 have h2:k*(Kp+2*K+4+1)<=2*S.m*(Kp+2*K+5):=aM _ hk;exact h1.up qo
namespace K
namespace Q
namespace R
def d157{G G':Prop}(h:G')(s:Bx G'->G:=by
 intro h;first|refine gF ?_|(apply WC.draw (id:=12) [0,1,2,3,4,5,6,7,8,9,10,11] (.h 0<|.h 1<|.h 2<|.h 3<|.h 4<|.h 5<|.h 6<|.h 7<|.h 8<|.h 9<|.h 10<|.h 11<|.l 12<|.l 13<|.l 14<|.l 15 .done) mixed kr)|fail
 exact Bx.h h):G:=s ⟨h⟩
def d157r{G G':Prop}(h:G')(s:Bx G'->G:=by
 intro h;repeat'(first|intro(zQ:Nat)|refine d157 ?_|intro zQ)
 repeat revert zQ
 exact Bx.h h):G:=s ⟨h⟩

def rstress_c(M:SM)(S:Sc)(pv:nA)(mp:Nat->VM)(xs:Nat->Vc)(K Kp E:Nat)(hK:K<=1000000)(hKp:Kp<=10000000)(hE:2*S.m*(Kp+2*K+5)+1<=E)(hE2:E<=400000000)(hs:Ss K S)(ho:S.ok)(hx:∀k,k<2*S.m->Sv Kp (xs k)):FnB prog 157 [M.l,M.t,pv] [] [fSl M S,fSt M S,lF Jt pv (2*S.m) mp xs] (IsF S.n (stK S xs (2*S.m))):=by
 refine fO [(0,M.l),(1,M.t),(2,pv)] 73 Tryz.func157 Tryz.ntmps157 λh0=>?_;have hn:=ho.n;have hm:=ho.m;have hmc:(2*(S.m:Int))=((2*S.m:Nat):Int):=qo;refine WC.QL 75 4 ?_;refine d157r ?_;refine cV (HM M S K hK hs ho) ?_;refine d157r ?_;rw[hmc];refine cV (Fz pv (2*S.m) Kp mp xs qo qo hx) ?_;refine d157r ?_;refine WC.lp (σ:=Nat×nA×(Nat->QM)) (λst=>[(8,nj (st.1:Int)),(7,st.2.1),(0,M.l),(1,M.t),(2,pv)]) (λst=>[Ow.slice st.2.1 75 4 (Qc st.1 st.2.2)]) (λst=>[mF st.1 st.2.2 (stK S xs (2*S.m)),ge h0,lF Jt pv (2*S.m) mp xs,fSl M S,fSt M S]) (λst=>st.1<=S.n) (λst=>S.n-st.1) (0,nz,λ_=>m00) (aj _) ?_ (hG:=.cons (W.Has.mFn _ _) haA);rintro⟨i,v,ms⟩ hi;simp only at hi ⊢;by_cases c1:i<S.n
 .refine d157r ?_;intro g;revert g;intro g9;refine WC.JK (σ:=QM) (λ_=>[(9,ptr g9),(8,nj i),(7,v),(0,M.l),(1,M.t),(2,pv)]) (λmq=>[Ow.cells g9 75 (qcs mq),Ow.slice v 75 4 (Qc i ms)]) (λmq=>[isQ (qv mq) (stK S xs (2*S.m) i),mF i ms (stK S xs (2*S.m)),ge h0,lF Jt pv (2*S.m) mp xs,fSl M S,fSt M S]) (λ_=>True) ?_ ?_
  .refine WC.lp (σ:=Nat×QM) (λst=>[(10,nj (st.1:Int)),(9,ptr g9),(8,nj i),(7,v),(0,M.l),(1,M.t),(2,pv)]) (λst=>[Ow.cells g9 75 (qcs st.2),Ow.slice v 75 4 (Qc i ms)]) (λst=>[isQ (qv st.2) (stK S xs st.1 i),mF i ms (stK S xs (2*S.m)),ge h0,lF Jt pv (2*S.m) mp xs,fSl M S,fSt M S]) (λst=>st.1<=2*S.m) (λst=>2*S.m-st.1) (0,m00) (aj _) ?_ (hG:=.cons (show W.Has _ (isQ (qv m00) (stK S xs 0 i)) from Jr) haA);rintro⟨k,mq⟩ hk;simp only at hk ⊢;by_cases d:k<2*S.m
   .obtain⟨j,hq⟩:∃j:Nat,(k:Int)/2=(j:Int):=⟨k/2,by omega⟩
    have hkj:k/2=j:=qo;have hj:j<S.m:=qo;refine WC.fact (fV (mp k) (xs k)) (W.Has.lk (S:=Jt) (v:=pv) hmA d) ?_;refine WC.fact (isQ (qv (mp k).1) (xs k).x) (W.Has.vx (m:=mp k) hmA) ?_;refine WC.fact (fT (M.T j) (S.T j)) (W.Has.lk (S:=Qu) (v:=M.t) hmA hj) ?_;refine WC.fact (fV (M.T j).n (S.T j).n) (W.Has.tn (tm:=M.T j) hmA) ?_;have hsn:Sv K (S.T j).n:=(hs.T j hj).2.2.1;have hsp:Sq (2*K+1) (Bl.spn (S.T j).n):=(hsn.1.ab.add hsn.2.ab).up qo;have hz:Sq (Kp+2*K+4) ((xs k).x*Bl.spn (S.T j).n):=((hx k d).1.mul hsp).up qo;by_cases ht:Bl.tch (S.T j) i
    .have hst:=stK_step (S:=S) (xs:=xs) (i:=i) hkj;rw[ah ht,Rat.mul_comm] at hst;rcases(show(S.T j).a=(i:Int)\/¬(S.T j).a=(i:Int)/\(S.T j).b=(i:Int) by have:_\/_:=ht;omega) with ha|⟨ha,hb⟩
     .refine d157r ?_;refine cW (Dt (M.T j).n (S.T j).n K hK hsn) λn1=>?_;refine d157r ?_;refine cW (Zn.ZQ (mp k).1 n1 (xs k).x (Bl.spn (S.T j).n) ((hx k d).1.sm qo) (hsp.sm qo)) λn2=>?_;refine d157r ?_;refine cW (Zn.Kg mq n2 (stK S xs k i) ((xs k).x*Bl.spn (S.T j).n) ((DC hs hx hE hk _).sm qo) (hz.sm qo)) λn3=>?_;refine d157r ?_;exact Qq.mk (k+1,n3) wq14 wq14 (hG:=.cons (by rw[hst];exact hmA) haA)
     .refine d157r ?_;refine cW (Dt (M.T j).n (S.T j).n K hK hsn) λn1=>?_;refine d157r ?_;refine cW (Zn.ZQ (mp k).1 n1 (xs k).x (Bl.spn (S.T j).n) ((hx k d).1.sm qo) (hsp.sm qo)) λn2=>?_;refine d157r ?_;refine cW (Zn.Kg mq n2 (stK S xs k i) ((xs k).x*Bl.spn (S.T j).n) ((DC hs hx hE hk _).sm qo) (hz.sm qo)) λn3=>?_;refine d157r ?_;exact Qq.mk (k+1,n3) wq14 wq14 (hG:=.cons (by rw[hst];exact hmA) haA)
    .have hst:=stK_step (S:=S) (xs:=xs) (i:=i) hkj;rw[ae ht,Rat.add_zero] at hst;have ha:¬(S.T j).a=(i:Int):=λh=>ht (.inl h);have hb:¬(S.T j).b=(i:Int):=λh=>ht (.inr h);refine d157r ?_;exact Qq.mk (k+1,mq) wq14 wq14 (hG:=.cons (by rw[hst];exact hmA) haA)
   .obtain rfl:k=2*S.m:=qo;refine d157r ?_;exact Qr mq trivial
  .intro mq _;refine d157r ?_;intro v v;exact Qq.mk (i+1,_,Qy ms i mq) wq14 wq14 (hG:=.cons (W.Has.QK (W.Has.Zm (qf:=stK S xs (2*S.m)) hmA (m:=mq) (z:=stK S xs (2*S.m) i) hmA) (λk hk=>by unfold Qy;split;(rename_i e;rw[e]);rfl)) haA)
 .obtain rfl:i=S.n:=qo;refine d157r ?_;refine WC.Jh v S.n ms (stK S xs (2*S.m)) wq3 hmA ?_;refine WC.ret ?_;exact Fp [fF v S.n ms (stK S xs (2*S.m))] (Qf.t1 rfl rfl) haA ⟨ms,rfl,rfl⟩
end R
end Q
end K
def pfz(S:Sc)(xs:Nat->Vc)(i k:Nat):Vc:=⟨X.sm k (λj=>(oE S xs i j).x),X.sm k (λj=>(oE S xs i j).y)⟩
section
variable {S:Sc}{xs:Nat->Vc}{K Kp A B C:Nat}
def Dv(h0K:0<K)(hs:Ss K S)(hx:∀k,k<2*S.m->Sv Kp (xs k))(hA:2*Kp+2*K+5<=A){i k:Nat}(hk:k<2*S.m):Sv A (oE S xs i k):=by
 have hnn:=(hs.T (k/2) qo).2.2.1;have hf:Sv A (Bl.frc (S.T (k/2)) (xs k).x (xs k).y):=⟨(((hx k hk).1.mul hnn.1).sub ((hx k hk).2.mul hnn.2)).up qo,(((hx k hk).1.mul hnn.2).add ((hx k hk).2.mul hnn.1)).up qo⟩
 exact on_sz qo hf
def pfz_sz(h0K:0<K)(hs:Ss K S)(hx:∀k,k<2*S.m->Sv Kp (xs k))(hA:2*Kp+2*K+5<=A)(hC:2*S.m*(A+1)+1<=C){i k:Nat}(hk:k<=2*S.m):Sv C (pfz S xs i k):=by
 have h1:=X.YM (m:=k) (f:=λj=>(oE S xs i j).x) (k:=A) λj hj=>(Dv h0K hs hx hA (i:=i) (show j<2*S.m by omega)).1;have h2:=X.YM (m:=k) (f:=λj=>(oE S xs i j).y) (k:=A) λj hj=>(Dv h0K hs hx hA (i:=i) (show j<2*S.m by omega)).2;have h3:=aM (A+1) hk;exact⟨h1.up qo,h2.up qo⟩
def tqx_szG(h0K:0<K)(hs:Ss K S)(hx:∀k,k<2*S.m->Sv Kp (xs k))(hA:2*Kp+2*K+5<=A)(hB:2*A+4*K+9<=B)(hC:2*S.m*(B+1)+1<=C){i k:Nat}(hi:i<S.n)(hk:k<=2*S.m):Sq C (tqx S xs i k)/\∀j,j<2*S.m->Sq B (Bl.JZ (Bl.Jl (S.at j) (S.B i).c) (oE S xs i j)):=by
 have hc:∀j,j<2*S.m->Sq B (Bl.JZ (Bl.Jl (S.at j) (S.B i).c) (oE S xs i j)):=λj hj=>by
  have ht:=hs.T (j/2) qo
  have hat:Sv K (S.at j):=by
   unfold Bl.Sc.at;split
   .exact ht.1
   .exact ht.2.1
  have ho:=Dv h0K hs hx hA (i:=i) hj;exact(((hat.1.sub (hs.B i hi).1.1).mul ho.2).sub ((hat.2.sub (hs.B i hi).1.2).mul ho.1)).up qo
 have h1:=X.YM (m:=k) (f:=λj=>Bl.JZ (Bl.Jl (S.at j) (S.B i).c) (oE S xs i j)) (k:=B) λj hj=>hc j qo;have h3:=aM (B+1) hk;exact⟨h1.up qo,hc⟩
end
def Uf{S:Sc}{w:nf}{xs:Nat->Vc}{i:Nat}:okB S w xs i↔(pfz S xs i (2*S.m)).x=0/\(pfz S xs i (2*S.m)).y=w i/\tqx S xs i (2*S.m)=0/\stK S xs (2*S.m) i<=(S.B i).st:=by
 have:(pfx S w xs i (2*S.m)).y= -(w i)+(pfz S xs i (2*S.m)).y:=rfl;constructor
 .rintro⟨⟨h1,h2⟩,h3,h4⟩;exact⟨h1,by grind,h3,h4⟩
 .rintro⟨h1,h2,h3,h4⟩;exact⟨⟨h1,by grind⟩,h3,h4⟩
def ab_le{q r:Rat}:Bl.ab q<=r↔q<=r/\-q<=r:=by unfold Bl.ab;split<;>constructor<;>intro h<;>grind
def ab_okE{S:Sc}{xs:Nat->Vc}{k j:Nat}(hj:k/2=j):okE S xs k↔0<=(xs k).x/\Bl.ab (xs k).y<=(S.T j).r*(xs k).x:=by
 subst hj;unfold okE;rw[ab_le]
namespace K
namespace Q
namespace R
def d74{G G':Prop}(h:G')(s:Bx G'->G:=by
 intro h;first|refine gE ?_|(apply WC.draw (id:=6) [0,1,2,3,4,6,7,8,9,10,11,12,14,15,16,17,18,19,20,21,22,23,24,27,28] (.h 0<|.h 1<|.h 2<|.h 3<|.h 4<|.l 5<|.h 6<|.h 7<|.h 8<|.h 9<|.h 10<|.h 11<|.h 12<|.h 14<|.h 15<|.h 16<|.h 17<|.h 18<|.h 19<|.h 20<|.h 21<|.h 22<|.h 23<|.h 24<|.l 13<|.l 25<|.l 26<|.h 27<|.h 28 .done) mixed kr)|(apply WC.draw (id:=17) [0,1,2,3,4,5,6,7,8,9] (.h 0<|.h 1<|.h 2<|.h 3<|.h 4<|.h 5<|.h 6<|.h 7<|.h 8<|.h 9<|.m 10 (.l 11<|.l 12 .done) (.l 11<|.l 10<|.l 12 .done)) mixed kr)|(apply WC.draw (id:=19) [0,1,2,3,5,6,7,8,9] (.h 0<|.h 1<|.h 2<|.h 3<|.h 5<|.h 6<|.h 7<|.h 8<|.h 9<|.l 4<|.l 10<|.l 11<|.l 12 .done) mixed kr)|(apply WC.draw (id:=20) [0,1,3,4,5,6,7,8,9,10,12,13,14,15,17,18,19,20,21,22,23,24,25,26,27,28,30,31] (.h 0<|.h 1<|.l 2<|.h 3<|.h 4<|.h 5<|.h 6<|.h 7<|.h 8<|.h 9<|.h 10<|.l 11<|.h 12<|.h 13<|.h 14<|.h 15<|.l 16<|.h 17<|.h 18<|.h 19<|.h 20<|.h 21<|.h 22<|.h 23<|.h 24<|.h 25<|.h 26<|.h 27<|.h 28<|.l 29<|.h 30<|.h 31 .done) mixed kr)|fail
 exact Bx.h h):G:=s ⟨h⟩
def d74r{G G':Prop}(h:G')(s:Bx G'->G:=by
 intro h;repeat'(first|intro(zQ:Nat)|refine d74 ?_|intro zQ)
 repeat revert zQ
 exact Bx.h h):G:=s ⟨h⟩

def rbal_c(M:SM)(S:Sc)(wv pv:nA)(mw:Nat->QM)(w:nf)(mp:Nat->VM)(xs:Nat->Vc)(K Kp A B C D E:Nat)(h0K:0<K)(hK:K<=1000)(hKp:Kp<=10000000)(hA:2*Kp+2*K+5<=A)(hA2:A<=9000000)(hB:2*A+4*K+9<=B)(hB2:B<=100000000)(hC:2*S.m*(A+1)+1<=C)(hC2:A+C<=100000000)(hD:2*S.m*(B+1)+1<=D)(hD2:D<=400000000)(hE:2*S.m*(Kp+2*K+5)+1<=E)(hE2:E<=400000000)(hs:Ss K S)(ho:S.ok)(hw:∀i,i<S.n->Sq K (w i))(hx:∀k,k<2*S.m->Sv Kp (xs k)) :
  FnB prog 74 [M.l,M.t,wv,pv] [] [fSl M S,fSt M S,fF wv S.n mw w,lF Jt pv (2*S.m) mp xs] (IsBo (BalX S w xs)):=by
 refine fO [(0,M.l),(1,M.t),(2,wv),(3,pv)] 131 Tryz.func74 Tryz.ntmps74 λh0=>?_;have hn:=ho.n;have hm:=ho.m;have hmc:(2*(S.m:Int))=((2*S.m:Nat):Int):=qo;refine d74r ?_;rw[hmc];refine cV (Fz pv (2*S.m) Kp mp xs qo qo hx) ?_;refine d74r ?_;refine WC.JK (σ:=Unit) (λ_=>[(0,M.l),(1,M.t),(2,wv),(3,pv)]) (λ_=>[]) (λ_=>[ge h0,lF Jt pv (2*S.m) mp xs,fF wv S.n mw w,fSl M S,fSt M S]) (λ_=>∀k,k<2*S.m->okE S xs k) ?_ ?_
 .refine WC.lp (σ:=Nat) (λk=>[(9,nj k),(0,M.l),(1,M.t),(2,wv),(3,pv)]) (λ_=>[]) (λ_=>[ge h0,lF Jt pv (2*S.m) mp xs,fF wv S.n mw w,fSl M S,fSt M S]) (λk=>k<=2*S.m/\∀j,j<k->okE S xs j) (λk=>2*S.m-k) 0 ⟨aj _,λj h=>absurd h qo⟩ ?_;rintro k ⟨hk,hok⟩;by_cases d:k<2*S.m
  .obtain⟨j,hq⟩:∃j:Nat,(k:Int)/2=(j:Int):=⟨k/2,by omega⟩
   have hkj:k/2=j:=qo;have hj:j<S.m:=qo;refine WC.fact (fV (mp k) (xs k)) (W.Has.lk (S:=Jt) (v:=pv) hmA d) ?_;refine WC.fact (isQ (qv (mp k).1) (xs k).x) (W.Has.vx (m:=mp k) hmA) ?_;refine WC.fact (isQ (qv (mp k).2) (xs k).y) (W.Has.vy (m:=mp k) hmA) ?_;refine WC.fact (fT (M.T j) (S.T j)) (W.Has.lk (S:=Qu) (v:=M.t) hmA hj) ?_;refine WC.fact (isQ (qv (M.T j).r) (S.T j).r) (W.Has.trr (tm:=M.T j) hmA) ?_;have hr:Sq K (S.T j).r:=(hs.T j hj).2.2.2;have hrx:Sq (Kp+K+2) ((S.T j).r*(xs k).x):=(hr.mul (hx k d).1).up qo;have hsg:=@Xq (xs k).x;have hE:=ab_okE (S:=S) (xs:=xs) hkj;refine d74r ?_;refine cV (Zn.Y5 (mp k).1 (xs k).x) ?_;by_cases h1:(xs k).x<0
   .have hs1:=hsg.2 h1;refine d74r ?_;exact wq82
   .have hs1:¬sgn (xs k).x.num<0:=λh=>h1 (hsg.1 h);refine d74r ?_;refine cW (size_c (mp k).2 (xs k).y) λn1=>?_;refine d74r ?_;refine cW (Zn.ZQ (M.T j).r (mp k).1 (S.T j).r (xs k).x (hr.sm qo) ((hx k d).1.sm qo)) λn2=>?_;refine d74r ?_;refine cV (Zn.rcmp n1 n2 (Bl.ab (xs k).y) ((S.T j).r*(xs k).x) ((hx k d).2.ab.sm qo) (hrx.sm qo)) ?_;by_cases h2:(S.T j).r*(xs k).x<Bl.ab (xs k).y
    .have hs2:=JE.2 h2;refine d74r ?_;refine WC.ret ?_;exact Fp [] (Qf.t1 rfl rfl) .nil ⟨false,rfl,⟨λh=>absurd h qd,λh=>absurd (hE.1 (h.1 k d)).2 (by grind)⟩,rfl,rfl⟩
    .have hs2:¬0<XN (Bl.ab (xs k).y) ((S.T j).r*(xs k).x):=λh=>h2 (JE.1 h);refine d74r ?_;refine Qq.mk (k+1) ⟨by omega,λi hi=>?_⟩ qo;by_cases e:i=k
     .subst e;exact hE.2 ⟨by grind,by grind⟩
     .exact hok i qo
  .obtain rfl:k=2*S.m:=qo;refine d74r ?_;exact Qr () hok
 .rintro⟨⟩ hokE;refine d74r ?_;refine cK (rstress_c M S pv mp xs K Kp E qo qo hE hE2 hs ho hx) ?_;rintro sv _ _ ⟨mst,rfl,rfl⟩;refine sNn ?_;refine d74r ?_;refine WC.lp (σ:=Nat) (λi=>[(11,nj i),(10,sv),(0,M.l),(1,M.t),(2,wv),(3,pv)]) (λ_=>[]) (λ_=>[ge h0,lF Jt pv (2*S.m) mp xs,fF wv S.n mw w,fF sv S.n mst (stK S xs (2*S.m)),fSl M S,fSt M S]) (λi=>i<=S.n/\∀j,j<i->okB S w xs j) (λi=>S.n-i) 0 ⟨aj _,λj h=>absurd h qo⟩ ?_;rintro i ⟨hi,hokB⟩;by_cases d:i<S.n
  .refine d74r ?_;intro g g;revert g;intro g13;revert g;intro g12;refine WC.fact (fB (M.B i) (S.B i)) (W.Has.lk (S:=QQ) (v:=M.l) hmA d) ?_;refine WC.fact (fV (M.B i).c (S.B i).c) (W.Has.bc (bm:=M.B i) hmA) ?_;refine WC.JK (σ:=VM×QM) (λst=>[(11,nj i),(12,ptr g12),(13,ptr g13),(10,sv),(0,M.l),(1,M.t),(2,wv),(3,pv)]) (λst=>[Ow.cells g13 75 (qcs st.2),Ow.cells g12 77 (vcs st.1)]) (λst=>[fV st.1 (pfz S xs i (2*S.m)),isQ (qv st.2) (tqx S xs i (2*S.m)),fB (M.B i) (S.B i),ge h0,lF Jt pv (2*S.m) mp xs,fF wv S.n mw w,fF sv S.n mst (stK S xs (2*S.m)),fSl M S,fSt M S]) (λ_=>True) ?_ ?_
   .refine WC.lp (σ:=Nat×VM×QM) (λst=>[(14,nj (st.1:Int)),(11,nj i),(12,ptr g12),(13,ptr g13),(10,sv),(0,M.l),(1,M.t),(2,wv),(3,pv)]) (λst=>[Ow.cells g13 75 (qcs st.2.2),Ow.cells g12 77 (vcs st.2.1)]) (λst=>[fV st.2.1 (pfz S xs i st.1),isQ (qv st.2.2) (tqx S xs i st.1),fV (M.B i).c (S.B i).c,fB (M.B i) (S.B i),ge h0,lF Jt pv (2*S.m) mp xs,fF wv S.n mw w,fF sv S.n mst (stK S xs (2*S.m)),fSl M S,fSt M S]) (λst=>st.1<=2*S.m) (λst=>2*S.m-st.1) (0,(m00,m00),m00) (aj _) ?_ (hG:=.cons (show W.Has _ (fV (m00,m00) (pfz S xs i 0)) from hasV0) (.cons (show W.Has _ (isQ (qv m00) (tqx S xs i 0)) from Jr) haA));rintro⟨k,vm,mt⟩ hk;simp only at hk ⊢;by_cases d2:k<2*S.m
    .obtain⟨j,hq⟩:∃j:Nat,(k:Int)/2=(j:Int):=⟨k/2,by omega⟩
     have hkj:k/2=j:=qo;have hj:j<S.m:=qo;refine WC.fact (fV (mp k) (xs k)) (W.Has.lk (S:=Jt) (v:=pv) hmA d2) ?_;refine WC.fact (fT (M.T j) (S.T j)) (W.Has.lk (S:=Qu) (v:=M.t) hmA hj) ?_;have hnn:Sv K (S.T j).n:=(hs.T j hj).2.2.1
     have hat:Sv K (S.at k):=by
         unfold Bl.Sc.at;split
         .exact(hs.T _ qo).1
         .exact(hs.T _ qo).2.1
     have hoE:=Dv h0K hs hx hA (i:=i) d2;have hpf:=pfz_sz h0K hs hx hA hC (i:=i) (k:=k) hk;have htq:=tqx_szG h0K hs hx hA hB hD (i:=i) (k:=k) d hk;have hoE':Bl.on (S.T j) i (Bl.frc (S.T j) (xs k).x (xs k).y)=oE S xs i k:=by unfold oE;rw[hkj]
     repeat'(first|intro(g:Nat)|refine d74 ?_|refine gN ?_ ?_|intro v)
     all_goals
         refine cW (rforce_c (M.T j) (S.T j) (mp k) (xs k) i K Kp qo hnn (hx k d2) qo) λa1=>?_;rw[hoE'];repeat'(first|intro(g:Nat)|refine d74 ?_|refine gN ?_ ?_|intro v)
         refine cW (Uc vm a1 (pfz S xs i k) (oE S xs i k) (A+C) qo ⟨hpf.1.up qo,hpf.2.up qo⟩ ⟨hoE.1.up qo,hoE.2.up qo⟩) λa2=>?_;refine d74r ?_;refine cW (rat_c M S k d2 qo) λa3=>?_;refine d74r ?_;refine cW (Fu a1 a3 (M.B i).c (oE S xs i k) (S.at k) (S.B i).c (A+K) qo ⟨hoE.1.up qo,hoE.2.up qo⟩ ⟨hat.1.up qo,hat.2.up qo⟩ ⟨(hs.B i d).1.1.up qo,(hs.B i d).1.2.up qo⟩) λa4=>?_;refine d74r ?_;refine cW (Zn.Kg mt a4 (tqx S xs i k) (Bl.JZ (Bl.Jl (S.at k) (S.B i).c) (oE S xs i k)) (htq.1.sm qo) ((htq.2 k d2).sm qo)) λa5=>?_;refine d74r ?_;exact Qq.mk (k+1,a2,a5) wq14 wq14 (hG:=.cons (show W.Has _ (fV a2 ⟨(pfz S xs i k).x+(oE S xs i k).x,(pfz S xs i k).y+(oE S xs i k).y⟩) from hmA) (.cons (show W.Has _ (isQ (qv a5) (tqx S xs i k+Bl.JZ (Bl.Jl (S.at k) (S.B i).c) (oE S xs i k))) from hmA) haA))
    .obtain rfl:k=2*S.m:=qo;refine d74r ?_;exact Qr (vm,mt) trivial
   .rintro⟨vm,mt⟩ _;simp only;refine WC.fact (isQ (qv vm.1) (pfz S xs i (2*S.m)).x) (W.Has.vx (m:=vm) hmA) ?_;refine WC.fact (isQ (qv vm.2) (pfz S xs i (2*S.m)).y) (W.Has.vy (m:=vm) hmA) ?_;refine WC.fact (isQ (qv (M.B i).st) (S.B i).st) (W.Has.bs (bm:=M.B i) hmA) ?_;refine WC.fact (isQ (qv (mw i)) (w i)) (W.Has.q (W.Has.fm (v:=wv) (n:=S.n) (ms:=mw) (qf:=w) hmA) d) ?_;refine WC.fact (isQ (qv (mst i)) (stK S xs (2*S.m) i)) (W.Has.q (W.Has.fm (v:=sv) (n:=S.n) (ms:=mst) (qf:=stK S xs (2*S.m)) hmA) d) ?_;refine d74r ?_;refine cV (Zn.Y5 vm.1 (pfz S xs i (2*S.m)).x) ?_;by_cases e1:(pfz S xs i (2*S.m)).x=0
    .have hs1:=Je.2 e1;refine d74r ?_;refine cV (Zn.rsame vm.2 (mw i) (pfz S xs i (2*S.m)).y (w i)) ?_;by_cases e2:(pfz S xs i (2*S.m)).y=w i
     .rw[aq e2];refine d74r ?_;refine cV (Zn.Y5 mt (tqx S xs i (2*S.m))) ?_;by_cases e3:tqx S xs i (2*S.m)=0
      .have hs3:=Je.2 e3;refine d74r ?_;refine cV (Zn.rcmp (mst i) (M.B i).st (stK S xs (2*S.m) i) (S.B i).st ((DC hs hx hE (ai _) i).sm qo) ((hs.B i d).2.2.2.sm qo)) ?_;by_cases e4:(S.B i).st<stK S xs (2*S.m) i
       .have hs4:=JE.2 e4;refine d74r ?_;refine WC.ret ?_;exact Fp [] (Qf.t1 rfl rfl) .nil ⟨false,rfl,⟨λh=>absurd h qd,λh=>absurd (Uf.1 ((Zj.1 h).2 i d)).2.2.2 (by grind)⟩,rfl,rfl⟩
       .have hs4:¬0<XN (stK S xs (2*S.m) i) (S.B i).st:=λh=>e4 (JE.1 h);refine d74r ?_;refine Qq.mk (i+1) ⟨by omega,λj hj=>?_⟩ qo;by_cases e:j=i
        .subst e;exact Uf.2 ⟨e1,e2,e3,by grind⟩
        .exact hokB j qo
      .have hs3:¬sgn (tqx S xs i (2*S.m)).num=0:=λh=>e3 (Je.1 h);refine d74r ?_;refine WC.ret ?_;exact Fp [] (Qf.t1 rfl rfl) .nil ⟨false,rfl,⟨λh=>absurd h qd,λh=>absurd (Uf.1 ((Zj.1 h).2 i d)).2.2.1 e3⟩,rfl,rfl⟩
     .rw[ak e2];refine d74r ?_;refine WC.ret ?_;exact Fp [] (Qf.t1 rfl rfl) .nil ⟨false,rfl,⟨λh=>absurd h qd,λh=>absurd (Uf.1 ((Zj.1 h).2 i d)).2.1 e2⟩,rfl,rfl⟩
    .have hs1:¬sgn (pfz S xs i (2*S.m)).x.num=0:=λh=>e1 (Je.1 h);refine d74r ?_;refine WC.ret ?_;exact Fp [] (Qf.t1 rfl rfl) .nil ⟨false,rfl,⟨λh=>absurd h qd,λh=>absurd (Uf.1 ((Zj.1 h).2 i d)).1 e1⟩,rfl,rfl⟩
  .obtain rfl:i=S.n:=qo;refine d74r ?_;exact wq91
end R
end Q
end K
namespace K
namespace Q
namespace R
def HP(M:SM)(S:Sc)(c:Nat)(hn:S.n<=5)(hc:c<2^S.n):FnB prog 75 [M.l,nj c] [] [fSl M S] (IsF S.n (S.wt c)):=by
 refine fO [(0,M.l),(1,(nj c))] 49 Tryz.func75 Tryz.ntmps75 λh0=>?_;have h32:2^S.n<=2^5:=aA qd hn;have hcn:=UA S.n qo;have hcN:¬(c:Int)>=((2^S.n:Nat):Int):=qo;have hc':c<32:=qo;refine WC.QL 75 4 ?_;refine gPr ?_;refine cV (hcn) ?_;generalize 2^S.n=N at *;refine gPr ?_;refine WC.lp (σ:=Nat×nA×(Nat->QM)) (λst=>[(6,nj (st.1:Int)),(5,st.2.1),(1,nj ((c/2^st.1:Nat):Int)),(0,M.l)]) (λst=>[Ow.slice st.2.1 75 4 (Qc st.1 st.2.2)]) (λst=>[mF st.1 st.2.2 (S.wt c),ge h0,fSl M S]) (λst=>st.1<=S.n) (λst=>S.n-st.1) (0,nz,λ_=>m00) (aj _) ?_ (hE:=by simp only[Nat.pow_zero,Nat.div_one];exact suA) (hG:=.cons (W.Has.mFn _ _) haA);rintro⟨i,v,ms⟩ hi;simp only at hi ⊢;by_cases c1:i<S.n
 .refine WC.fact (fB (M.B i) (S.B i)) (W.Has.lk (S:=QQ) (v:=M.l) hmA c1) ?_;refine WC.fact (isQ (qv (M.B i).lo) (S.B i).lo) (W.Has.bl (b:=S.B i) hmA) ?_;refine WC.fact (isQ (qv (M.B i).hi) (S.B i).hi) (W.Has.bh (b:=S.B i) hmA) ?_;have hq2:c/2^i<=c:=bR _ _;have hX:c/2^i/2=c/2^(i+1):=by rw[Nat.div_div_eq_div_mul,cP]
  have hwt:S.wt c i=if c/2^i%2=1 then(S.B i).hi else(S.B i).lo:=rfl;obtain⟨Y,hY⟩:∃Y,c/2^(i+1)=Y:=⟨_,rfl⟩
  rw[hY] at hX;generalize c/2^i=X at *;have hq:(X:Int)/2=(Y:Int):=qo;by_cases c2:X%2=1
  .have hr:(X:Int)%2=1:=qo;rw[ah c2] at hwt;refine gPr ?_;intro v v;exact Qq.mk (i+1,_,Qy ms i (M.B i).hi) wq14 wq14 (hE:=by simp only;rw[hY];exact suA) (hG:=.cons (W.Has.QK (W.Has.Zm (qf:=S.wt c) hmA (m:=(M.B i).hi) (z:=(S.B i).hi) hmA) (λk hk=>by unfold Qy;split;(rename_i e;rw[e,hwt]);rfl)) haA)
  .have hr:¬(X:Int)%2=1:=qo;rw[ae c2] at hwt;refine gPr ?_;intro v v;exact Qq.mk (i+1,_,Qy ms i (M.B i).lo) wq14 wq14 (hE:=by simp only;rw[hY];exact suA) (hG:=.cons (W.Has.QK (W.Has.Zm (qf:=S.wt c) hmA (m:=(M.B i).lo) (z:=(S.B i).lo) hmA) (λk hk=>by unfold Qy;split;(rename_i e;rw[e,hwt]);rfl)) haA)
 .obtain rfl:i=S.n:=qo;refine gPr ?_;refine WC.Jh v S.n ms (S.wt c) wq3 hmA ?_;exact wq110
end R
end Q
end K
def IsLn(x:LnX):Qd:=λv B G=>∃lm:LnM,v=lnw lm/\B=[]/\G=[fLx lm x]
namespace K
namespace Q
namespace R
def d151{G G':Prop}(h:G')(s:Bx G'->G:=by
 intro h;first|refine gF ?_|refine Vp ?_|(apply WC.draw (id:=5) [0,1,2,3,4,5,6] (.h 0<|.h 1<|.h 2<|.h 3<|.h 4<|.h 5<|.h 6<|.l 7<|.l 8<|.l 9<|.f 10<|.l 11 .done) mixed kr)|fail
 exact Bx.h h):G:=s ⟨h⟩
def d151r{G G':Prop}(h:G')(s:Bx G'->G:=by
 intro h;repeat'(first|intro(zQ:Nat)|refine d151 ?_|intro zQ)
 repeat revert zQ
 exact Bx.h h):G:=s ⟨h⟩

def ZT(lm:LnM)(x:LnX)(hn:x.n<=1000):FnB prog 151 [lnw lm] [] [fLx lm x] (IsLn ⟨x.n,λk=>-x.a k,-x.b⟩):=by
 refine fO [(0,(lnw lm))] 28 Tryz.func151 Tryz.ntmps151 λh0=>?_;refine WC.fact (fF lm.a x.n lm.m x.a) (W.Has.la (lm:=lm) (lx:=x) hmA) ?_;refine WC.fact (isQ (qv lm.b) x.b) (W.Has.lb (lm:=lm) (lx:=x) hmA) ?_;refine WC.QL 75 4 ?_;refine d151r ?_;intro g g;revert g;intro g2;revert g;intro g1;refine WL.keep (g:=g1) (t:=141) (cs:=lcs lm) wq11 ?_;refine cW (Zn.rneg lm.b x.b) λq=>?_;refine d151r ?_;intro g;revert g;intro g3;refine WC.lp (σ:=Nat×nA×(Nat->QM)) (λst=>[(4,nj (st.1:Int)),(3,ptr g3),(2,ptr g2),(1,ptr g1)]) (λst=>[Ow.cells g3 141 [st.2.1,.bool q.1,q.2.1,nq,q.2.2],Ow.cells g2 141 [nz,nq,nz,nq,nz],Ow.slice st.2.1 75 4 (Qc st.1 st.2.2)]) (λst=>[mF st.1 st.2.2 (λk=>-x.a k),isQ (qv q) (-x.b),ce g1 141 (lcs lm),fF lm.a x.n lm.m x.a,ge h0]) (λst=>st.1<=x.n) (λst=>x.n-st.1) (0,nz,λ_=>m00) (aj _) ?_ (hG:=.cons (W.Has.mFn _ _) haA);rintro⟨i,v,ms⟩ hi;simp only at hi ⊢;by_cases c:i<x.n
 .refine WC.fact (isQ (qv (lm.m i)) (x.a i)) (W.Has.q (W.Has.fm (v:=lm.a) hmA) c) ?_;refine d151r ?_;refine cW (Zn.rneg (lm.m i) (x.a i)) λn1=>?_;refine d151r ?_;intro v v;exact Qq.mk (i+1,_,Qy ms i n1) wq14 wq14 (hG:=.cons (W.Has.QK (W.Has.Zm (qf:=λk=>-x.a k) hmA (m:=n1) (z:=-x.a i) hmA) (λk hk=>by unfold Qy;split;(rename_i e;rw[e]);rfl)) haA)
 .obtain rfl:i=x.n:=qo;refine d151r ?_;show WC _ _ _ _ _ _ _;refine WC.Jh v x.n ms (λk=>-x.a k) wq3 hmA ?_;refine WC.ret ?_;exact Fp [fLx ⟨v,ms,q⟩ ⟨x.n,λk=>-x.a k,-x.b⟩] (rcV T.r141) (.cons (W.Has.lof (lm:=⟨v,ms,q⟩) (lx:=⟨x.n,λk=>-x.a k,-x.b⟩) hmA hmA) .nil) ⟨⟨v,ms,q⟩,rfl,rfl,rfl⟩
end R
end Q
end K
def lpX(S:Sc)(w:nf)(r:Nat):LnX:=⟨4*S.m,(Bl.lp S w).a r,(Bl.lp S w).b r⟩
section
variable {S:Sc}{w:nf}{i t k:Nat}
def lpX_p(hi:i<S.n)(ht:t<3):lpX S w (6*i+2*t)=⟨4*S.m,Bl.co3 S i t,if t=1 then w i else 0⟩:=by
 unfold lpX Bl.lp;simp only[ah (show 6*i+2*t<6*S.n by omega),show(6*i+2*t)/6=i by omega,show(6*i+2*t)%6=2*t by omega,show 2*t/2=t by omega];have e:Bl.sgq (2*t)=1:=ah qo;rw[e]
 congr 1
 .funext j;grind
 .split<;>grind
def lpX_n(hi:i<S.n)(ht:t<3):lpX S w (6*i+2*t+1)=⟨4*S.m,λj=>-(Bl.co3 S i t j),-(if t=1 then w i else 0)⟩:=by
 unfold lpX Bl.lp;simp only[ah (show 6*i+2*t+1<6*S.n by omega),show(6*i+2*t+1)/6=i by omega,show(6*i+2*t+1)%6=2*t+1 by omega,show(2*t+1)/2=t by omega];have e:Bl.sgq (2*t+1)= -1:=ae qo;rw[e]
 congr 1
 .funext j;grind
 .split<;>grind
def lpX_E(hk:k<2*S.m)(ht:t<3):lpX S w (6*S.n+(3*k+t))=⟨4*S.m,Bl.coE (S.T (k/2)).r k t,0⟩:=by
 unfold lpX Bl.lp;simp only[ae (show ¬6*S.n+(3*k+t)<6*S.n by omega),ah (show 6*S.n+(3*k+t)<6*S.n+6*S.m by omega),show 6*S.n+(3*k+t)-6*S.n=3*k+t by omega,show(3*k+t)/6=k/2 by omega,show(3*k+t)/3=k by omega,show(3*k+t)%3=t by omega]
def lpX_S:lpX S w (6*S.n+(6*S.m+i))=⟨4*S.m,Bl.coS S i,(S.B i).st⟩:=by
 unfold lpX Bl.lp;simp only[ae (show ¬6*S.n+(6*S.m+i)<6*S.n by omega),ae (show ¬6*S.n+(6*S.m+i)<6*S.n+6*S.m by omega),show 6*S.n+(6*S.m+i)-6*S.n-6*S.m=i by omega]
end
end
def fP_of2{F:nc}{S:Sc}{w:nf}{v gv:nA}{ms:Nat->LnM}(h:Has F (lF Qm v (Bl.lp S w).m ms (lpX S w)))(hg:Has F (fF gv (4*S.m) (λ_=>m00) (λ_=>0))):Has F (fP ⟨v,gv,λi=>(ms i).a,λi=>(ms i).m,λi=>(ms i).b,λ_=>m00⟩ (Bl.lp S w)):=λp hf=>
 let h1:=h p hf
 ⟨h1.1,λi hi=>(h1.2 i hi).1,λi hi=>(h1.2 i hi).2,hg p hf⟩
end Go.Proofs.YtbnobghgnbockaaGreat
