/- Lemmas. Conditions: none. -/
import Derived.Test.YtbnobghgnbockaaGreatZk41
import Derived.Test.YtbnobghgnbockaaGreatZk13
import Derived.Test.YtbnobghgnbockaaGreatZk15
import Derived.Test.YtbnobghgnbockaaGreatZk16
import Derived.Test.YtbnobghgnbockaaGreatZk17
import Derived.Test.YtbnobghgnbockaaGreatZk25
import Derived.Test.YtbnobghgnbockaaGreatZk34
import Derived.Test.YtbnobghgnbockaaGreatProg
import Derived.Test.YtbnobghgnbockaaGreatZk5
import Derived.Test.YtbnobghgnbockaaGreatZk40
import Derived.Test.YtbnobghgnbockaaGreatZk37
import Derived.Test.YtbnobghgnbockaaGreatZk38
import Derived.Test.YtbnobghgnbockaaGreatZk1
set_option linter.all false
set_option maxHeartbeats 0
set_option maxRecDepth 100000
namespace Go.Proofs.YtbnobghgnbockaaGreat
open Go.Proofs.Tryz (prog)
open W Go.RowKit
section
attribute [local irreducible] WC WL WD YO LO Qq W.Fin Qk Qh Qj Row QZ Qv KnS Has W.One Qo QX
namespace Rn
open Dvz Dvv Adc Rm
def cmp0(z:Int):X9 z 0=sgn z:=by unfold X9 sgn;split<;>(try split)<;>first|rfl|(split<;>first|rfl|omega)|omega
def rsign_c(v:nA)(z:Int):FnB prog 154 [v] [] [isZ v z] (IsV (nj (sgn z))):=by
 refine fO [(0,v)] 6 Tryz.func154 Tryz.ntmps154 λh0=>?_;refine WC.Jw hmA λn1 d1 hv hb1=>?_;subst hv;refine gAr ?_;intro g;refine WL.QD (isZ (.agg #[nq,nz]) 0) Hc ?_;refine cV (HG (.agg #[.bool n1,d1]) (.agg #[nq,nz]) z 0) ?_;rw[cmp0];refine gAr ?_;exact wq4
end Rn
namespace Rp
open Dvz Dvv Adc Rm Rn Ro Rtm Rtc
def d205{G G':Prop}(h:G')(s:Bx G'->G:=by
 intro h;first|refine gB ?_|(apply WC.draw (id:=6) [0,1,2,3,4,5,6,7,8,9,10] (.h 0<|.h 1<|.h 2<|.h 3<|.h 4<|.h 5<|.h 6<|.h 7<|.h 8<|.h 9<|.h 10 .done) mixed kr)|fail
 exact Bx.h h):G:=s ⟨h⟩
def d205r{G G':Prop}(h:G')(s:Bx G'->G:=by
 intro h;repeat'(first|intro(zQ:Nat)|refine d205 ?_|intro zQ)
 repeat revert zQ
 exact Bx.h h):G:=s ⟨h⟩

def isame_c(v1 v2:nA)(x y:Int):FnB prog 205 [v1,v2] [] [isZ v1 x,isZ v2 y] (IsV (.bool (decide (x=y)))):=by
 refine fO [(0,v1),(1,v2)] 38 Tryz.func205 Tryz.ntmps205 λh0=>?_;refine WC.Jw (v:=v1) (z:=x) hmA λn1 d1 hv hb1=>?_;subst hv;refine WC.Jw (v:=v2) (z:=y) hmA λn2 d2 hv hb2=>?_;subst hv;refine WC.fact (sI d1 (Qx x.natAbs)) (QH hmA) ?_;refine WC.fact (sI d2 (Qx y.natAbs)) (QH hmA) ?_;have hd:=digs_eq hb1 hb2;generalize Qx x.natAbs=a at *;generalize Qx y.natAbs=b at *;refine WC.ZE d1 a hmA λhlen=>?_;by_cases c1:n1=n2
 .subst c1;by_cases c2:a.length=b.length
  .refine d205r ?_;intro g g;rename_i g2
   revert g;intro g3;refine WC.lp (σ:=Nat) (λk=>[(5,.int .i64 (k:Int)),(2,ptr g2),(3,ptr g3)]) (λ_=>[Ow.cells g3 73 [.bool n1,d2],Ow.cells g2 73 [.bool n1,d1]]) (λ_=>[ge h0,sI d1 a,sI d2 b]) (λk=>k<=a.length/\∀j,j<k->a.getD j 0=b.getD j 0) (λk=>a.length-k) 0 ⟨by simp,λj hj=>by omega⟩ ?_;rintro k ⟨hk,hs⟩;by_cases h:k<a.length
   .by_cases c3:a.getD k 0=b.getD k 0
    .refine d205r ?_;exact Qq.mk (k+1) ⟨by omega,λj hj=>if hjk:j=k then hjk ▸ c3 else hs j qo⟩ qo
    .refine d205r ?_;refine WC.ret ?_;exact Fin.v (Qf.t1 rfl rfl) meA (by rw[ak (λhe=>c3 (by rw[(hd.2 he).2]))])
   .refine d205r ?_;refine WC.ret ?_;exact Fin.v (Qf.t1 rfl rfl) meA (by rw[aq (hd.1 ⟨rfl,KA c2 (λj hj=>hs j qo)⟩)])
  .refine d205r ?_;intro g g;refine WC.ret ?_;exact Fin.v (Qf.t1 rfl rfl) meA (by rw[ak (λhe=>c2 (by rw[(hd.2 he).2]))])
 .refine d205r ?_;intro g g;refine WC.ret ?_;exact Fin.v (Qf.t1 rfl rfl) meA (by rw[ak (λhe=>c1 (hd.2 he).1)])
def rqsign_c(v:nA)(q:Rat):FnB prog 72 [v] [] [isQ v q] (IsV (nj (sgn q.num))):=by
 refine fO [(0,v)] 6 Tryz.func72 Tryz.ntmps72 λh0=>?_;refine WC.JM (v:=v) (q:=q) hmA λn1 d1 d2 hv hb1=>?_;subst hv;refine WC.fact (isZ (.agg #[.bool n1,d1]) q.num) (JX hmA) ?_;refine gAr ?_;intro g;refine cV (rsign_c (.agg #[.bool n1,d1]) q.num) ?_;refine gAr ?_;exact wq4
def rqsame_c(v1 v2:nA)(a b:Rat):FnB prog 158 [v1,v2] [] [isQ v1 a,isQ v2 b] (IsV (.bool (decide (a=b)))):=by
 refine fO [(0,v1),(1,v2)] 17 Tryz.func158 Tryz.ntmps158 λh0=>?_;refine WC.JM (v:=v1) (q:=a) hmA λn1 d1 d2 hv hb1=>?_;subst hv;refine WC.JM (v:=v2) (q:=b) hmA λn2 d3 d4 hv hb2=>?_;subst hv;refine gAr ?_;intro g g;refine cV (isame_c (.agg #[.bool n1,d1]) (.agg #[.bool n2,d3]) a.num b.num) ?_;by_cases c:a.num=b.num
 .rw[aq c];refine gAr ?_;refine cV (isame_c (.agg #[nq,d2]) (.agg #[nq,d4]) (qz a) (qz b)) ?_;rw[show decide (qz a=qz b)=decide (a=b) by rw[dK];exact⟨λh=>qz_inj c h,λh=>by rw[h]⟩];refine gAr ?_;exact wq4
 .rw[ak c];refine gAr ?_;exact wq105
end Rp
end
namespace Zn
section
variable (m1 m2:QM)(a b:Rat)
def rneg:FnB prog 137 [qv m1] [] [isQ (qv m1) a] (IsR (-a)):=YJ (Rp.rqneg_c _ _)
def Y5:FnB prog 72 [qv m1] [] [isQ (qv m1) a] (IsV (nj (sgn a.num))):=Rp.rqsign_c _ _
def rsame:FnB prog 158 [qv m1,qv m2] [] [isQ (qv m1) a,isQ (qv m2) b] (IsV (.bool (decide (a=b)))):=Rp.rqsame_c _ _ _ _
end
end Zn
section
open Bl (Vc Bd Tc Sc)
abbrev lnw(m:LnM):nA:=.agg #[m.a,.bool m.b.1,m.b.2.1,nq,m.b.2.2]
end
section
open Bl (Vc Bd Tc Sc)
def Sv.up{K L:Nat}{a:Vc}(h:Sv K a)(hk:K<=L):Sv L a:=⟨h.1.up hk,h.2.up hk⟩
attribute [local irreducible] WC WL WD YO LO Qq W.Fin Qk Qh Qj Row QZ Qv KnS Has W.One Qo QX
end
def has_p0{F:nc}{m:QM}{a:Rat}(h:W.Has F (isQ (qv m) a)):W.Has F (fV (m,m00) ⟨a,0⟩):=λp hf=>⟨h p hf,Jr p hf⟩
section
attribute [local irreducible] WC WL WD YO LO Qq W.Fin Qk Qh Qj Row QZ Qv KnS Has W.One Qo QX
section
open Bl (Vc Bd Tc Sc)
namespace K
def d160{G G':Prop}(h:G')(s:Bx G'->G:=by
 intro h;first|refine gF ?_|(apply WC.draw (id:=1) [0,1,2,3,5,6,7,8] (.h 0<|.h 1<|.h 2<|.h 3<|.h 5<|.h 6<|.h 7<|.h 8<|.l 4<|.l 9<|.l 10<|.l 11 .done) mixed kr)|fail
 exact Bx.h h):G:=s ⟨h⟩
def UA(n:Nat)(hn:n<=60):FnB prog 73 [nj n] [] [] (IsV (nj ((2^n:Nat):Int))):=by
 refine fO [(0,(nj n))] 13 Tryz.func73 Tryz.ntmps73 λh0=>?_;refine gPr ?_;refine WC.JK (σ:=Unit) (λ_=>[(3,nj ((2^n:Nat):Int))]) (λ_=>[]) (λ_=>[ge h0]) (λ_=>True) ?_ ?_
 .refine WC.lp (σ:=Nat) (λi=>[(4,nj i),(3,nj ((2^i:Nat):Int)),(0,nj n)]) (λ_=>[]) (λ_=>[ge h0]) (λi=>i<=n) (λi=>n-i) 0 (aj _) ?_;intro i hi;have h60:2^i<=2^60:=aA qd qo;have hd:(2:Int)*((2^i:Nat):Int)=((2^(i+1):Nat):Int):=by rw[cP];omega
  obtain⟨N,hN⟩:∃N,2^i=N:=⟨_,rfl⟩
  by_cases c:i<n
  .refine gPr ?_;rw[hd];exact Qq.mk (i+1) qo qo
  .obtain rfl:i=n:=qo;refine gPr ?_;exact Qr () trivial
 .rintro⟨⟩ _;refine gPr ?_;exact wq4
def rvdot_c(m1 m2:VM)(a b:Vc)(K:Nat)(hK:K<=10000000)(ha:Sv K a)(hb:Sv K b):FnB prog 160 [vv m1,vv m2] [] [fV m1 a,fV m2 b] (IsR (a.x*b.x+a.y*b.y)):=by
 refine fO [(0,(vv m1)),(1,(vv m2))] 16 Tryz.func160 Tryz.ntmps160 λh0=>?_;refine WC.fact (isQ (qv m1.1) a.x) (W.Has.vx (m:=m1) hmA) ?_;refine WC.fact (isQ (qv m1.2) a.y) (W.Has.vy (m:=m1) hmA) ?_;refine WC.fact (isQ (qv m2.1) b.x) (W.Has.vx (m:=m2) hmA) ?_;refine WC.fact (isQ (qv m2.2) b.y) (W.Has.vy (m:=m2) hmA) ?_;repeat'(first|intro(g:Nat)|refine d160 ?_|intro v)
 refine cW (Zn.ZQ m1.1 m2.1 a.x b.x (ha.1.sm qo) (hb.1.sm qo)) λn1=>?_;repeat'(first|intro(g:Nat)|refine d160 ?_|intro v)
 refine cW (Zn.ZQ m1.2 m2.2 a.y b.y (ha.2.sm qo) (hb.2.sm qo)) λn2=>?_;repeat'(first|intro(g:Nat)|refine d160 ?_|intro v)
 refine cW (Zn.Kg n1 n2 (a.x*b.x) (a.y*b.y) ((ha.1.mul hb.1).sm qo) ((ha.2.mul hb.2).sm qo)) λn3=>?_;repeat'(first|intro(g:Nat)|refine d160 ?_|intro v)
 refine WC.ret ?_;exact Fp [isQ (qv n3) (a.x*b.x+a.y*b.y)] (rcV T.r75) haA ⟨n3,rfl,rfl,rfl⟩
end K
def y_push0{e:Env}{bx:nw}{F:nc}{ty:nl}{x:ni}{m:QM}(hx:ev e x=some (qv m)):YO prog (.build 127 #[(0,x)]) ty e bx F (vv (m,m00)):=YO.build (parts:=[(0,x)]) (.cons hx .nil) λ_=>by kernel_rfl
def y_push1{e:Env}{bx:nw}{F:nc}{ty:nl}{x:ni}{m:QM}(hx:ev e x=some (qv m)):YO prog (.build 127 #[(1,x)]) ty e bx F (vv (m00,m)):=YO.build (parts:=[(1,x)]) (.cons hx .nil) λ_=>by kernel_rfl
namespace K
def size_c(m:QM)(a:Rat):FnB prog 156 [qv m] [] [isQ (qv m) a] (IsR (Bl.ab a)):=by
 refine fO [(0,(qv m))] 9 Tryz.func156 Tryz.ntmps156 λh0=>?_;refine gPr ?_;intro g g;refine cV (Zn.Y5 m a) ?_;by_cases h:sgn a.num<0
 .refine gPr ?_;refine cW (Zn.rneg m a) λn1=>?_;refine gPr ?_;refine WC.ret ?_;exact Fp [isQ (qv n1) (Bl.ab a)] (rcV T.r75) (.cons (by rw[ab_p h];exact hmA) .nil) ⟨n1,rfl,rfl,rfl⟩
 .refine gPr ?_;refine WC.ret ?_;exact Fp [isQ (qv m) (Bl.ab a)] (rcV T.r75) (.cons (by rw[ab_n h];exact hmA) .nil) ⟨m,rfl,rfl,rfl⟩
def KC(j:Nat)(hj:j<=1000):FnB prog 148 [nj j] [] [] (Vo (if j%2=0 then⟨1,0⟩ else⟨0,1⟩)):=by
 refine fO [(0,(nj j))] 12 Tryz.func148 Tryz.ntmps148 λh0=>?_;refine gPr ?_;intro g;refine cW (Zn.rof 1 1 qd qd) λn1=>?_;rw[show Rat.divInt 1 1=1 by decide +kernel];by_cases h:j%2=0
 .rw[ah h];have h2:((j:Int)%2)=0:=qo;refine WL.QD (fV (n1,m00) ⟨1,0⟩) (has_p0 hmA) ?_;refine gPr ?_;intro g;refine WL.y (y_push0 (m:=n1) rfl) qr qr ?_;refine gPr ?_;refine WC.ret ?_;exact Fp [fV (n1,m00) ⟨1,0⟩] (rcV T.r127) haA ⟨(n1,m00),rfl,rfl,rfl⟩
 .rw[ae h];have h2:¬((j:Int)%2)=0:=qo;refine WL.QD (fV (m00,n1) ⟨0,1⟩) (has_v0 hmA) ?_;refine gPr ?_;intro g;refine WL.y (y_push1 (m:=n1) rfl) qr qr ?_;refine gPr ?_;refine WC.ret ?_;exact Fp [fV (m00,n1) ⟨0,1⟩] (rcV T.r127) haA ⟨(m00,n1),rfl,rfl,rfl⟩
end K
end
end
namespace T
open W
def s47:Qh prog 47 98 2:=Qh.of kr
def sc47:Qk prog 47:=Qk.of kr
def e47:Xl prog 47 98 2 (.agg #[nj 0,nz]) 32:=⟨by kernel_rfl,by kernel_rfl,by kernel_rfl,by decide⟩
def z47:(prog.info? 47).map (·.size)=some 1:=by kernel_rfl
def f49_0:Qj prog 49 0 0:=Qj.of kr
def f49_1:Qj prog 49 1 1:=Qj.of kr
def GH:Qj prog 49 2 2:=Qj.of kr
def r49:Row prog 49 3:=Row.of kr
def al49:Qv prog 49 [nz,nz,nz]:=Qv.of (z:=.agg #[nz,nz,nz]) kr kr
def Vu:Qj prog 98 0 0:=Qj.of kr
def Vh:Qj prog 98 1 1:=Qj.of kr
def r98:Row prog 98 2:=Row.of kr
end T
section
open Bl (Vc Bd Tc Sc)
section
variable {e:Env}{bx:nw}{F:nc}{ty:nl}{x y:ni}{K:Qd}{v w yv:nA}{n m:Nat}
def y_mch2(hx:ev e x=some v)(hy:ev e y=some w)(hv:KnS bx F v n)(hw:KnS bx F w m):YO prog (.build 49 #[(0,x),(1,y)]) ty e bx F (.agg #[v,w,nz]):=λk fr a w0 o h1 h2 h3 h4=>by
 obtain⟨a',c,rfl,_⟩:=(hv fr w0 h4).is;obtain⟨a'',c',rfl,_⟩:=(hw fr w0 h4).is;exact YO.build (parts:=[(0,x),(1,y)]) (us:=[.slice a' n c,.slice a'' m c']) (.cons hx (.cons hy .nil)) (λ_=>by kernel_rfl) k fr a w0 o h1 h2 h3 h4
def y_mfall{c:Int}(hx:ev e x=some (nj c))(hy:ev e y=some yv)(hv:KnS bx F yv n):YO prog (.build 98 #[(0,x),(1,y)]) ty e bx F (.agg #[nj c,yv]):=λk fr a w0 o h1 h2 h3 h4=>by
 obtain⟨a',c',rfl,_⟩:=(hv fr w0 h4).is;exact YO.build (parts:=[(0,x),(1,y)]) (us:=[nj c,.slice a' n c']) (.cons hx (.cons hy .nil)) (λ_=>by kernel_rfl) k fr a w0 o h1 h2 h3 h4
def LO.bsMf{c:Int}(hx:ev e x=some (.agg #[nj c,yv]))(hv:KnS bx F yv n)(h:∀u,K u (Ow.slice u 98 2 [nj c,yv]::bx) F):LO prog (.buildSlice 47 1 #[(0,x)]) ty e bx F K:=by
 refine LO.byP (p:=∃a d,yv=.slice a n d) (λfr w' ho=>?_) ?_
 .obtain⟨a1,c1,h1,_⟩:=(hv fr w' ho).is;exact⟨a1,c1,h1⟩
 rintro⟨a',d,rfl⟩;exact LO.buildSlice (el:=98) (sz:=2) (parts:=[(0,x)]) (us:=[.agg #[nj c,.slice a' n d]]) (cs:=[nj c,.slice a' n d]) (.cons hx .nil) (λ_=>by kernel_rfl) rfl qd h
end
def upd_self{α:Type}{f:Nat->α}{i:Nat}:Qy f i (f i)=f:=funext λj=>by
 by_cases h:j=i
 .subst h;exact QF
 .exact Qt h
def YO.ldFall{e:Env}{bx:nw}{F:nc}{ty t:nl}{x:ni}{v:nA}{n k:Nat}{fm:Nat->nA×(Nat->QM)}{fx:Nat->Nat×Nat×nf}(hs:Row prog t 2)(hx:ev e x=some (.pointer (some (eaddr v (k*2)))))(hf:W.Has F (lF Q1 v n fm fx))(hk:k<n):YO prog (.load t x) ty e bx F (.agg #[nj ((fx k).1:Int),(fm k).1]):=
 YO.ldRS (us:=[nj ((fx k).1:Int),(fm k).1]) hs hx hf.ls (show k*2+2<=n*2 by omega) rfl λi hi=>VE (w:=2) (f:=λk=>[nj ((fx k).1:Int),(fm k).1]) (λ_=>rfl) (k:=k) hi
def knS_nil'{bx:nw}{F:nc}:KnS bx F nz 0:=λ_ _ _=>⟨none,0,rfl,ai _,by unfold maxLen;omega,.inl ⟨rfl,rfl,rfl⟩⟩
def ss_up'{S:Sc}{K L:Nat}(h:Ss K S)(hk:K<=L):Ss L S:=⟨λi hi=>let ⟨a,b,c,d⟩:=h.B i hi;⟨a.up hk,b.up hk,c.up hk,d.up hk⟩,λj hj=>let ⟨a,b,c,d⟩:=h.T j hj;⟨a.up hk,b.up hk,c.up hk,d.up hk⟩⟩
def IsMch(pv cv:nA)(n:Nat)(fm:Nat->nA×(Nat->QM))(fx:Nat->Nat×Nat×nf):Qd:=λv bx G=>∃fv,v=.agg #[pv,cv,fv]/\bx=[]/\G=[lF Q1 fv n fm fx]
namespace K
namespace Q
namespace Y
namespace V
attribute [local irreducible] WC WL WD YO LO Qq W.Fin Qk Qh Qj Row QZ Qv KnS Has W.One Qo QX
def d18{G G':Prop}(h:G')(s:Bx G'->G:=by
 intro h;first|refine gA ?_|refine goE ?_|refine goD ?_|refine goXD ?_|refine goLS ?_|refine goLY ?_|refine goYB ?_|refine Vp ?_|refine Zt ?_|(apply WC.draw (id:=5) [0,2,3,4,5,6,7,8,9,10,11,12,13,14] (.h 0<|.h 2<|.h 3<|.h 4<|.h 5<|.h 6<|.h 7<|.h 8<|.h 9<|.h 10<|.h 11<|.h 12<|.h 13<|.h 14<|.m 1 (.l 15<|.l 16<|.f 17<|.l 18 .done) (.l 15<|.l 1<|.l 16<|.f 17<|.l 18 .done)) mixed kr)|fail
 exact Bx.h h):G:=s ⟨h⟩
def goE{G G':Prop}(h:G')(s:Bx G'->G:=by
 intro h
 (first|(apply WL.QS;(first|exact wq151|exact wq145);exact rfl;exact rfl)|(apply WL.Xs;exact wq154;exact rfl;exact rfl)|(apply WL.Uj;exact wq148;exact rfl;exact rfl)|(apply WL.Jz;exact wq29;exact rfl;exact rfl)|(apply WL.XG;exact wq130;exact rfl;exact rfl)|(apply WL.Q4;rotate_left;exact rfl;(first|(apply LO.Xu;exact rfl;exact rfl;exact T.z47;exact wq5;exact seA;exact wq12;exact wq10)|(apply LO.J3;exact rfl;exact rfl;exact T.r49;exact seA;exact rfl;exact wq136)|fail))|(apply WD.QS;exact rfl;(first|exact wq151|exact wq145);exact rfl;exact rfl)|(apply WD.Xs;exact rfl;exact wq154;exact rfl;exact rfl)|(apply WD.Uj;exact rfl;exact wq148;exact rfl;exact rfl)|(apply WD.Jz;exact rfl;exact wq29;exact rfl;exact rfl)|(apply WD.XG;exact rfl;exact wq130;exact rfl;exact rfl)|(apply WD.Q4;exact rfl;rotate_left;exact rfl;(first|(apply LO.Xu;exact rfl;exact rfl;exact T.z47;exact wq5;exact seA;exact wq12;exact wq10)|(apply LO.J3;exact rfl;exact rfl;exact T.r49;exact seA;exact rfl;exact wq136)|fail);constructor;(first|exact wq1|(apply Or.inl;kernel_rfl)))|((first|(apply LO.Xu;exact rfl;exact rfl;exact T.z47;exact wq5;exact seA;exact wq12;exact wq10)|(apply LO.J3;exact rfl;exact rfl;exact T.r49;exact seA;exact rfl;exact wq136)|fail);constructor;(first|exact wq1|(apply Or.inl;kernel_rfl)))|refine Go.Proofs.YtbnobghgnbockaaGreat.K.Q.Y.goE ?_|fail)
 exact Bx.h h):G:=s ⟨h⟩
def QT{G G':Prop}(h:G')(s:Bx G'->G:=by
 intro h
 (first|(apply WL.JS;rotate_left;exact rfl;exact rfl;apply LO.J6;(first|exact T.al49|fail))|(apply WD.JS;exact rfl;rotate_left;exact rfl;exact rfl;apply LO.J6;(first|exact T.al49|fail);apply Qn;(intro _;(first|exact wq1|(apply Or.inl;kernel_rfl))))|(apply LO.J6;(first|exact T.al49|fail);apply Qn;(intro _;(first|exact wq1|(apply Or.inl;kernel_rfl))))|refine Go.Proofs.YtbnobghgnbockaaGreat.K.Q.Y.QT ?_|fail)
 exact Bx.h h):G:=s ⟨h⟩
def model_c(pv cv fv:nA)(n n1 n2:Nat)(f1 f2:ng)(fm:Nat->nA×(Nat->QM))(fx:Nat->Nat×Nat×nf)(hn:n<=1000):FnB prog 18 [.agg #[pv,cv,fv]] [] [slC pv n1 1 f1,slC cv n2 1 f2,lF Q1 fv n fm fx] (IsMch pv cv n fm fx):=by
 refine fO [(0,(.agg #[pv,cv,fv]))] 37 Tryz.func18 Tryz.ntmps18 λh0=>?_;refine WC.QL 98 2 ?_;repeat'(first|intro(g:Nat)|refine d18 ?_|(refine QT ?_;intro g)|(refine Q9 ?_;intro g)|(refine Q0 ?_;intro v)|apply WD.Xg|refine WM.more qr qr qr ?_ ?_|refine WM.one qr qr qr ?_|refine WM.Vg qr qr ?_ ?_|refine WM.HZ qr qr ?_|(refine Hd ?_;intro g)|(refine KH ?_;intro v)|intro v)
 revert g;intro g3;revert g;intro g2;revert g;intro g1;refine WC.JK (σ:=nA) (λv=>[(3,ptr g3),(2,ptr g2)]) (λv=>[Ow.cells g3 49 [pv,cv,v],Ow.cells g2 49 [nz,nz,nz],lO Q1 v 98 n fm fx]) (λ_=>[ge h0,slC pv n1 1 f1,slC cv n2 1 f2,lF Q1 fv n fm fx]) (λ_=>True) ?_ ?_
 .refine WC.lp (σ:=Nat×nA) (λst=>[(4,nj (st.1:Int)),(3,ptr g3),(2,ptr g2),(1,ptr g1)]) (λst=>[Ow.cells g3 49 [pv,cv,st.2],Ow.cells g2 49 [nz,nz,nz],Ow.cells g1 42 [pv,cv,fv],lO Q1 st.2 98 st.1 fm fx]) (λ_=>[ge h0,slC pv n1 1 f1,slC cv n2 1 f2,lF Q1 fv n fm fx]) (λst=>st.1<=n) (λst=>n-st.1) (0,nz) (aj _) ?_;rintro⟨i,ov⟩ hi;simp only at hi ⊢;by_cases d:i<n
  .refine WC.fact (fF (fm i).1 (fx i).2.1 (fm i).2 (fx i).2.2) (W.Has.lk (S:=Q1) (v:=fv) (ms:=fm) (xs:=fx) hmA d) ?_;repeat'(first|intro(g:Nat)|refine d18 ?_|(refine QT ?_;intro g)|(refine Q9 ?_;intro g)|(refine Q0 ?_;intro v)|apply WD.Xg|refine WM.more qr qr qr ?_ ?_|refine WM.one qr qr qr ?_|refine WM.Vg qr qr ?_ ?_|refine WM.HZ qr qr ?_|(refine Hd ?_;intro g)|(refine KH ?_;intro v)|intro v)
   refine WD.y rfl (y_mfall rfl rfl (KnS.ff (v:=(fm i).1) hmA)) qr qr ?_;repeat'(first|intro(g:Nat)|refine d18 ?_|(refine QT ?_;intro g)|(refine Q9 ?_;intro g)|(refine Q0 ?_;intro v)|apply WD.Xg|refine WM.more qr qr qr ?_ ?_|refine WM.one qr qr qr ?_|refine WM.Vg qr qr ?_ ?_|refine WM.HZ qr qr ?_|(refine Hd ?_;intro g)|(refine KH ?_;intro v)|intro v)
   .refine LO.ofY (YO.ldB T.sc47 rfl meA rfl) ⟨(by(first|exact wq1|(apply Or.inl;kernel_rfl))),?_⟩;refine WD.l rfl rfl rfl (LO.bsMf (c:=((fx i).1:Int)) rfl (KnS.ff (v:=(fm i).1) hmA) λv33=>?_);refine⟨(by(first|exact wq1|(apply Or.inl;kernel_rfl))),?_⟩;refine WD.l rfl rfl rfl (LO.appL (S:=Q1) (ms:=fm) (xs:=fx) (n:=i) (mm:=fm i) (aa:=fx i) T.e47 rfl rfl meA (.cons (One.lit rfl rfl) (.cons (One.sl (KnS.ff (v:=(fm i).1) hmA)) .nil)) (λv'=>by repeat(first|exact Sel.head|apply Sel.tail)) qd qd qo λv34=>?_);refine⟨(by(first|exact wq1|(apply Or.inl;kernel_rfl))),?_⟩;repeat'(first|intro(g:Nat)|refine d18 ?_|(refine QT ?_;intro g)|(refine Q9 ?_;intro g)|(refine Q0 ?_;intro v)|apply WD.Xg|refine WM.more qr qr qr ?_ ?_|refine WM.one qr qr qr ?_|refine WM.Vg qr qr ?_ ?_|refine WM.HZ qr qr ?_|(refine Hd ?_;intro g)|(refine KH ?_;intro v)|intro v)
    refine WD.fy rfl (YO.QR T.GH rfl qr) qr qr ?_;repeat'(first|intro(g:Nat)|refine d18 ?_|(refine QT ?_;intro g)|(refine Q9 ?_;intro g)|(refine Q0 ?_;intro v)|apply WD.Xg|refine WM.more qr qr qr ?_ ?_|refine WM.one qr qr qr ?_|refine WM.Vg qr qr ?_ ?_|refine WM.HZ qr qr ?_|(refine Hd ?_;intro g)|(refine KH ?_;intro v)|intro v)
    exact Qq.mk (i+1,v34) wq14 wq14 (hB:=by simp only[upd_self];exact slA)
   .refine LO.bsMf (c:=((fx i).1:Int)) rfl (KnS.ff (v:=(fm i).1) hmA) λv33=>?_;refine⟨(by(first|exact wq1|(apply Or.inl;kernel_rfl))),?_⟩;refine WD.yl rfl (YO.ldB T.sc47 rfl meA rfl) qr qr ?_;refine WD.l rfl rfl rfl (LO.appL (S:=Q1) (ms:=fm) (xs:=fx) (n:=i) (mm:=fm i) (aa:=fx i) T.e47 rfl rfl meA (.cons (One.lit rfl rfl) (.cons (One.sl (KnS.ff (v:=(fm i).1) hmA)) .nil)) (λv'=>by repeat(first|exact Sel.head|apply Sel.tail)) qd qd qo λv34=>?_);refine⟨(by(first|exact wq1|(apply Or.inl;kernel_rfl))),?_⟩;repeat'(first|intro(g:Nat)|refine d18 ?_|(refine QT ?_;intro g)|(refine Q9 ?_;intro g)|(refine Q0 ?_;intro v)|apply WD.Xg|refine WM.more qr qr qr ?_ ?_|refine WM.one qr qr qr ?_|refine WM.Vg qr qr ?_ ?_|refine WM.HZ qr qr ?_|(refine Hd ?_;intro g)|(refine KH ?_;intro v)|intro v)
    refine WD.fy rfl (YO.QR T.GH rfl qr) qr qr ?_;repeat'(first|intro(g:Nat)|refine d18 ?_|(refine QT ?_;intro g)|(refine Q9 ?_;intro g)|(refine Q0 ?_;intro v)|apply WD.Xg|refine WM.more qr qr qr ?_ ?_|refine WM.one qr qr qr ?_|refine WM.Vg qr qr ?_ ?_|refine WM.HZ qr qr ?_|(refine Hd ?_;intro g)|(refine KH ?_;intro v)|intro v)
    exact Qq.mk (i+1,v34) wq14 wq14 (hB:=by simp only[upd_self];exact slA)
  .obtain rfl:i=n:=qo;repeat'(first|intro(g:Nat)|refine d18 ?_|(refine QT ?_;intro g)|(refine Q9 ?_;intro g)|(refine Q0 ?_;intro v)|apply WD.Xg|refine WM.more qr qr qr ?_ ?_|refine WM.one qr qr qr ?_|refine WM.Vg qr qr ?_ ?_|refine WM.HZ qr qr ?_|(refine Hd ?_;intro g)|(refine KH ?_;intro v)|intro v)
   exact Qr ov trivial
 intro ov _;refine WC.QA (S:=Q1) (v:=ov) (n:=n) (ms:=fm) (xs:=fx) wq3 (W.Has.lm (v:=fv) hmA) ?_;repeat'(first|intro(g:Nat)|refine d18 ?_|(refine QT ?_;intro g)|(refine Q9 ?_;intro g)|(refine Q0 ?_;intro v)|apply WD.Xg|refine WM.more qr qr qr ?_ ?_|refine WM.one qr qr qr ?_|refine WM.Vg qr qr ?_ ?_|refine WM.HZ qr qr ?_|(refine Hd ?_;intro g)|(refine KH ?_;intro v)|intro v)
 refine WC.ret ?_;exact Fp [_] (rcV T.r49) (.cons hmA .nil) ⟨_,rfl,rfl,rfl⟩
def error_c(lv tv pv:nA)(n:Nat)(bm:Nat->BM)(B:Nat->Bd)(t:List Tc)(P:List (List Tc))(tm:Nat->ToM)(pm:Nat->nA×(Nat->ToM))(most:Int)(hn:n<=5)(ht:t.length<=10)(hP8:P.length<=8)(hm0:0<=most)(hm8:most<=8) :
  FnB prog 20 [lv,tv,pv,nj most] [] [lF QQ lv n bm B,lF Qu tv t.length tm (tl t),lF tlS pv P.length pm (pl P)] (IsV (nj 0)):=by
 refine fO [(0,lv),(1,tv),(2,pv),(3,(nj most))] 28 Tryz.func20 Tryz.ntmps20 λh0=>?_;repeat'(first|intro(g:Nat)|refine gA ?_|refine goE ?_|(refine QT ?_;intro g)|intro v)
 exact wq4
end V
end Y
end Q
end K
namespace K
namespace Q
attribute [local irreducible] WC WL WD YO LO Qq W.Fin Qk Qh Qj Row QZ Qv KnS Has W.One Qo QX
def d147{G G':Prop}(h:G')(s:Bx G'->G:=by
 intro h;first|refine gE ?_|(apply WC.draw (id:=1) [0,1,2,3,4,6,7,8,9,10] (.h 0<|.h 1<|.h 2<|.h 3<|.h 4<|.h 6<|.h 7<|.h 8<|.h 9<|.h 10<|.m 5 (.m 11 (.m 12 (.l 13<|.l 14 .done) (.l 13<|.l 12<|.l 14 .done)) (.l 13<|.l 11<|.l 12<|.l 14 .done)) (.l 13<|.l 5<|.l 11<|.l 12<|.l 14 .done)) mixed kr)|(apply WC.draw (id:=2) [0,1,2,3,4,6,7,8,9,10] (.h 0<|.h 1<|.h 2<|.h 3<|.h 4<|.h 6<|.h 7<|.h 8<|.h 9<|.h 10<|.m 5 (.m 11 (.m 12 (.l 13<|.l 14 .done) (.l 13<|.l 12<|.l 14 .done)) (.l 13<|.l 11<|.l 12<|.l 14 .done)) (.l 13<|.l 5<|.l 11<|.l 12<|.l 14 .done)) mixed kr)|(apply WC.draw (id:=6) [0,2,4] (.h 0<|.h 2<|.l 1<|.l 3<|.h 4<|.l 5 .done) mixed kr)|fail
 exact Bx.h h):G:=s ⟨h⟩
def d147r{G G':Prop}(h:G')(s:Bx G'->G:=by
 intro h;repeat'(first|intro(zQ:Nat)|refine d147 ?_|intro zQ)
 repeat revert zQ
 exact Bx.h h):G:=s ⟨h⟩

def d149{G G':Prop}(h:G')(s:Bx G'->G:=by
 intro h;first|refine gF ?_|(apply WC.draw (id:=2) [0,1,2,3,5,6,7,8] (.h 0<|.h 1<|.h 2<|.h 3<|.h 5<|.h 6<|.h 7<|.h 8<|.l 4<|.l 9<|.l 10<|.l 11 .done) mixed kr)|fail
 exact Bx.h h):G:=s ⟨h⟩
def d149r{G G':Prop}(h:G')(s:Bx G'->G:=by
 intro h;repeat'(first|intro(zQ:Nat)|refine d149 ?_|intro zQ)
 repeat revert zQ
 exact Bx.h h):G:=s ⟨h⟩

def d152{G G':Prop}(h:G')(s:Bx G'->G:=by
 intro h;first|refine gF ?_|(apply WC.draw (id:=1) [0,1,3,4] (.h 0<|.h 1<|.h 3<|.h 4<|.l 2<|.l 5<|.l 6<|.l 7 .done) mixed kr)|fail
 exact Bx.h h):G:=s ⟨h⟩
def Dt(m:VM)(a:Vc)(K:Nat)(hK:K<=1000000)(ha:Sv K a):FnB prog 152 [vv m] [] [fV m a] (IsR (Bl.spn a)):=by
 refine fO [(0,(vv m))] 10 Tryz.func152 Tryz.ntmps152 λh0=>?_;refine WC.fact (isQ (qv m.1) a.x) (W.Has.vx (m:=m) hmA) ?_;refine WC.fact (isQ (qv m.2) a.y) (W.Has.vy (m:=m) hmA) ?_;repeat'(first|intro(g:Nat)|refine d152 ?_|intro v)
 refine cW (size_c m.1 a.x) λn1=>?_;repeat'(first|intro(g:Nat)|refine d152 ?_|intro v)
 refine cW (size_c m.2 a.y) λn2=>?_;repeat'(first|intro(g:Nat)|refine d152 ?_|intro v)
 refine cW (Zn.Kg n1 n2 (Bl.ab a.x) (Bl.ab a.y) (ha.1.ab.sm qo) (ha.2.ab.sm qo)) λn3=>?_;repeat'(first|intro(g:Nat)|refine d152 ?_|intro v)
 refine WC.ret ?_;exact Fp [isQ (qv n3) (Bl.ab a.x+Bl.ab a.y)] (rcV T.r75) haA ⟨n3,rfl,rfl,rfl⟩
def rat_c(M:SM)(S:Sc)(k:Nat)(hk:k<2*S.m)(hm:S.m<=1000):FnB prog 150 [M.t,.int .i64 (k:Int)] [] [fSt M S] (Vo (S.at k)):=by
 refine fO [(0,M.t),(1,(.int .i64 (k:Int)))] 20 Tryz.func150 Tryz.ntmps150 λh0=>?_;obtain⟨j,hj⟩:∃j,k/2=j:=⟨_,rfl⟩
 have hq:(k:Int)/2=(j:Int):=qo;have hk2:j<S.m:=qo;by_cases c:k%2=0
 .have e:S.at k=(S.T j).p:=by rw[<-hj];exact ah c
  rw[e];have c2:(k:Int)%2=0:=qo;refine go ?_
  (refine goG ?_;intro g)
  apply WL.nil;apply WC.seq;apply WC.seq;apply WC.region
  (apply WL.YZ;exact wq46;exact rfl;exact rfl)
  (apply WL.ZD;exact Z3;exact rfl;exact rfl)
  (apply WL.Uq;exact Zp;exact rfl;exact rfl)
  apply WL.nil
  (apply WC.cond_t;exact rfl)
  apply WC.seq;apply WC.region
  (apply WL.YZ;exact wq46;exact rfl;exact rfl)
  (apply WL.YZ;exact wq46;exact rfl;exact rfl)
  (apply WL.Y3;exact Zq;exact rfl;exact rfl)
  rw[hq]
  (apply WL.Jz;exact Jf;exact rfl;exact rfl)
  (apply WL.QS;exact Jv;exact rfl;exact rfl)
  (apply WL.Xs;exact wq158;exact rfl;exact rfl)
  refine WL.QD (fV (M.T j).p (S.T j).p) (W.Has.tp (tm:=M.T j) (t:=S.T j) (W.Has.lk (S:=Qu) (v:=M.t) hmA qo)) ?_;refine gPr ?_;refine WC.ret ?_;exact Fp [fV (M.T j).p (S.T j).p] (rcV T.r77) haA ⟨(M.T j).p,rfl,rfl,rfl⟩
 .have e:S.at k=(S.T j).q:=by rw[<-hj];exact ae c
  rw[e];have c2:¬(k:Int)%2=0:=qo;refine go ?_
  (refine goG ?_;intro g)
  apply WL.nil;apply WC.seq;apply WC.seq;apply WC.region
  (apply WL.YZ;exact wq46;exact rfl;exact rfl)
  (apply WL.ZD;exact Z3;exact rfl;exact rfl)
  (apply WL.Uq;exact Zp;exact rfl;exact rfl)
  apply WL.nil
  (apply WC.cond_f;exact rfl)
  apply WC.skip;apply WC.seq;apply WC.region
  (apply WL.YZ;exact wq46;exact rfl;exact rfl)
  (apply WL.YZ;exact wq46;exact rfl;exact rfl)
  (apply WL.Y3;exact Zq;exact rfl;exact rfl)
  rw[hq]
  (apply WL.Jz;exact Jf;exact rfl;exact rfl)
  (apply WL.QS;exact Jv;exact rfl;exact rfl)
  (apply WL.Xs;exact wq158;exact rfl;exact rfl)
  refine WL.QD (fV (M.T j).q (S.T j).q) (W.Has.tq (tm:=M.T j) (t:=S.T j) (W.Has.lk (S:=Qu) (v:=M.t) hmA qo)) ?_;refine gPr ?_;refine WC.ret ?_;exact Fp [fV (M.T j).q (S.T j).q] (rcV T.r77) haA ⟨(M.T j).q,rfl,rfl,rfl⟩
def rforce_c(tm:ToM)(t:Tc)(pm:VM)(p:Vc)(i:Nat)(K Kp:Nat)(hK:K+Kp<=100000000)(ht:Sv K t.n)(hp:Sv Kp p)(hi:i<=1000):FnB prog 147 [tv tm t,vv pm,nj i] [] [fT tm t,fV pm p] (Vo (Bl.on t i (Bl.frc t p.x p.y))):=by
 refine fO [(0,(tv tm t)),(1,(vv pm)),(2,(nj i))] 52 Tryz.func147 Tryz.ntmps147 λh0=>?_;refine WC.fact (fV tm.n t.n) (W.Has.tn (tm:=tm) hmA) ?_;refine WC.fact (isQ (qv tm.n.1) t.n.x) (W.Has.vx (m:=tm.n) hmA) ?_;refine WC.fact (isQ (qv tm.n.2) t.n.y) (W.Has.vy (m:=tm.n) hmA) ?_;refine WC.fact (isQ (qv pm.1) p.x) (W.Has.vx (m:=pm) hmA) ?_;refine WC.fact (isQ (qv pm.2) p.y) (W.Has.vy (m:=pm) hmA) ?_;have z1:=hp.1.mul ht.1;have z2:=hp.2.mul ht.2;have z3:=hp.1.mul ht.2;have z4:=hp.2.mul ht.1;have c14:=Zn.ZQ pm.1 tm.n.1 p.x t.n.x (hp.1.sm qo) (ht.1.sm qo);have c20:=Zn.ZQ pm.2 tm.n.2 p.y t.n.y (hp.2.sm qo) (ht.2.sm qo);have c21:=λn1 n2=>Zn.rsub n1 n2 (p.x*t.n.x) (p.y*t.n.y) (z1.sm qo) (z2.sm qo);have c27:=Zn.ZQ pm.1 tm.n.2 p.x t.n.y (hp.1.sm qo) (ht.2.sm qo);have c33:=Zn.ZQ pm.2 tm.n.1 p.y t.n.x (hp.2.sm qo) (ht.1.sm qo);have c34:=λn1 n2=>Zn.Kg n1 n2 (p.x*t.n.y) (p.y*t.n.x) (z3.sm qo) (z4.sm qo);refine gPr ?_;intro g g g;revert g;intro g6;revert g;intro g4;revert g;intro g3;refine WC.keep (g:=g3) (t:=93) (cs:=tcs tm t) wq11 ?_;refine WC.keep (g:=g4) (t:=127) (cs:=vcs pm) wq11 ?_;refine WC.YH (σ:=Nat×QM) (λs=>[(7,ptr s.1),(3,ptr g3),(4,ptr g4),(2,nj i),(6,ptr g6)]) (λs=>[Ow.cells s.1 75 (qcs s.2),Ow.cells g6 77 (vcs (m00,m00))]) (λs=>[isQ (qv s.2) (Bl.frc t p.x p.y).x,ce g3 93 (tcs tm t),ce g4 127 (vcs pm),isQ (qv pm.2) p.y,isQ (qv pm.1) p.x,isQ (qv tm.n.2) t.n.y,isQ (qv tm.n.1) t.n.x,ge h0]) (λ_=>True) ?_ ?_
 .repeat'(first|intro(g:Nat)|refine d147 ?_|refine gN ?_ ?_|refine cW (c14) λzm=>?_|refine cW (c20) λzm=>?_|refine cW (c21 _ _) λzm=>?_|intro v)
  all_goals(apply Ex2;refine⟨trivial,?_,?_,?_⟩;(focus(repeat(first|exact Sub.nil _|refine Sub.cons rfl ?_)));exact wq137;exact wq26)
 rintro⟨g7,mx⟩ _;simp only;refine gPr ?_;refine WC.YH (σ:=Nat×QM) (λs=>[(8,ptr s.1),(7,ptr g7),(3,ptr g3),(2,nj i),(6,ptr g6)]) (λs=>[Ow.cells s.1 75 (qcs s.2),Ow.cells g7 75 (qcs mx),Ow.cells g6 77 (vcs (m00,m00))]) (λs=>[isQ (qv s.2) (Bl.frc t p.x p.y).y,isQ (qv mx) (Bl.frc t p.x p.y).x,ce g3 93 (tcs tm t),ge h0]) (λ_=>True) ?_ ?_
 .repeat'(first|intro(g:Nat)|refine d147 ?_|refine gN ?_ ?_|refine cW (c27) λzm=>?_|refine cW (c33) λzm=>?_|refine cW (c34 _ _) λzm=>?_|intro v)
  all_goals(apply Ex2;refine⟨trivial,?_,?_,?_⟩;(focus(repeat(first|exact Sub.nil _|refine Sub.cons rfl ?_)));exact wq137;exact wq26)
 rintro⟨g8,my⟩ _;simp only;by_cases c:t.a=(i:Int)
 .have e:Bl.on t i (Bl.frc t p.x p.y)=Bl.frc t p.x p.y:=ah c;rw[e];refine d147r ?_;refine WC.ret ?_;exact Fp [fV (mx,my) (Bl.frc t p.x p.y)] (rcV T.r77) (.cons (W.Has.vof (m:=(mx,my)) (a:=Bl.frc t p.x p.y) hmA hmA) .nil) ⟨(mx,my),rfl,rfl,rfl⟩
 .by_cases d:t.b=(i:Int)
  .have e:Bl.on t i (Bl.frc t p.x p.y)=⟨-(Bl.frc t p.x p.y).x,-(Bl.frc t p.x p.y).y⟩:=by unfold Bl.on;rw[ae c,ah d]
   rw[e];refine d147r ?_;refine cW (Zn.rneg mx (Bl.frc t p.x p.y).x) λn1=>?_;refine d147r ?_;refine cW (Zn.rneg my (Bl.frc t p.x p.y).y) λn2=>?_;refine d147r ?_;refine WC.ret ?_;exact Fp [fV (n1,n2) ⟨-(Bl.frc t p.x p.y).x,-(Bl.frc t p.x p.y).y⟩] (rcV T.r77) (.cons (W.Has.vof (m:=(n1,n2)) (a:=⟨-(Bl.frc t p.x p.y).x,-(Bl.frc t p.x p.y).y⟩) hmA hmA) .nil) ⟨(n1,n2),rfl,rfl,rfl⟩
  .have e:Bl.on t i (Bl.frc t p.x p.y)=⟨0,0⟩:=by unfold Bl.on;rw[ae c,ae d]
   rw[e];refine d147r ?_;refine WC.ret ?_;exact Fp [fV (m00,m00) ⟨0,0⟩] (rcV T.r77) (.cons hasV0 .nil) ⟨(m00,m00),rfl,rfl,rfl⟩
def Fu(m1 m2 m3:VM)(f a b:Vc)(K:Nat)(hK:K<=10000000)(hf:Sv K f)(ha:Sv K a)(hb:Sv K b):FnB prog 149 [vv m1,vv m2,vv m3] [] [fV m1 f,fV m2 a,fV m3 b] (IsR (Bl.JZ (Bl.Jl a b) f)):=by
 refine fO [(0,(vv m1)),(1,(vv m2)),(2,(vv m3))] 22 Tryz.func149 Tryz.ntmps149 λh0=>?_;refine WC.fact (isQ (qv m1.1) f.x) (W.Has.vx (m:=m1) hmA) ?_;refine WC.fact (isQ (qv m1.2) f.y) (W.Has.vy (m:=m1) hmA) ?_;have zx:=ha.1.sub hb.1;have zy:=ha.2.sub hb.2;refine d149r ?_;intro g g g g;refine cW (rvsub_c m2 m3 a b K qo ha hb) λm10=>?_;refine WL.QD (isQ (qv m10.1) (Bl.Jl a b).x) (W.Has.vx (m:=m10) hmA) ?_;refine WL.QD (isQ (qv m10.2) (Bl.Jl a b).y) (W.Has.vy (m:=m10) hmA) ?_;refine d149r ?_;intro g;refine cW (Zn.ZQ m10.1 m1.2 (Bl.Jl a b).x f.y (zx.sm qo) (hf.2.sm qo)) λn1=>?_;refine d149r ?_;refine cW (Zn.ZQ m10.2 m1.1 (Bl.Jl a b).y f.x (zy.sm qo) (hf.1.sm qo)) λn2=>?_;refine d149r ?_;refine cW (Zn.rsub n1 n2 ((Bl.Jl a b).x*f.y) ((Bl.Jl a b).y*f.x) ((zx.mul hf.2).sm qo) ((zy.mul hf.1).sm qo)) λn3=>?_;refine d149r ?_;refine WC.ret ?_;exact Fp [isQ (qv n3) (Bl.JZ (Bl.Jl a b) f)] (rcV T.r75) haA ⟨n3,rfl,rfl,rfl⟩
end Q
end K
section
variable {e:Env}{bx bx':nw}{F:nc}{ty t el:nl}{v u:nA}{x y:ni}{n k:Nat}{K:Qd}
end
end
end Go.Proofs.YtbnobghgnbockaaGreat
