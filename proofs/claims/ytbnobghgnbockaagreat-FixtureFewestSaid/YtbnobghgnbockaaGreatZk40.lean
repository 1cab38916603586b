/- Lemmas. Conditions: none. -/
import Derived.Test.YtbnobghgnbockaaGreatZk39
set_option linter.all false
set_option maxHeartbeats 0
set_option maxRecDepth 100000
namespace Go.Proofs.YtbnobghgnbockaaGreat
open Tryz (prog)
section
open W Go.RowKit
open Bl (Vc Bd Tc Sc)
def fsx(a:Nat->nf)(y:nf)(i j k:Nat):Rat:=X.sm (if k<j then i+1 else i) λr=>y r*a r k
def fsx_up{a:Nat->nf}{y:nf}{i j:Nat}(k:Nat):Qy (fsx a y i j) j (fsx a y i j j+y i*a i j) k=fsx a y i (j+1) k:=by
 by_cases c:k=j
 .subst c;rw[QF];unfold fsx;rw[ae qo,ah qo];rfl
 .rw[Qt c];unfold fsx;by_cases d:k<j
  .rw[ah d,ah qo]
  .rw[ae d,ae qo]
def fsx_next{a:Nat->nf}{y:nf}{i v k:Nat}(hk:k<v):fsx a y i v k=fsx a y (i+1) 0 k:=by
 unfold fsx;rw[ah hk,ae qo]
def sum_sz{y f:nf}{Ky Ka m i:Nat}(hy:∀r,r<m->Sq Ky (y r))(hf:∀r,r<m->Sq Ka (f r))(hi:i<=m):Sq (m*(Ky+Ka+1)+1) (X.sm i λr=>y r*f r):=
 (X.YM (m:=i) λr hr=>(hy r qo).mul (hf r qo)).up (by have:=aM (Ky+Ka+1) hi;omega)
namespace K
namespace Q
attribute [local irreducible] WC WL WD YO LO Qq W.Fin Qk Qh Qj Row QZ Qv KnS Has W.One Qo QX
def d46{G G':Prop}(h:G')(s:Bx G'->G:=by
 intro h;first|refine gF ?_|(apply WC.draw (id:=15) [0,1,2,3,4,5,6,7,10] (.h 0<|.h 1<|.h 2<|.h 3<|.h 4<|.h 5<|.h 6<|.h 7<|.l 8<|.l 9<|.h 10<|.l 11 .done) mixed kr)|(apply WC.draw (id:=17) [0,1,2,3,4,5,6,7] (.h 0<|.h 1<|.h 2<|.h 3<|.h 4<|.h 5<|.h 6<|.h 7<|.l 8<|.l 9<|.l 10 .done) mixed kr)|fail
 exact Bx.h h):G:=s ⟨h⟩
def d46r{G G':Prop}(h:G')(s:Bx G'->G:=by
 intro h;repeat'(first|intro(zQ:Nat)|refine d46 ?_|intro zQ)
 repeat revert zQ
 exact Bx.h h):G:=s ⟨h⟩

def falls_c(M:SM)(S:Sc)(c Ly:Nat)(yv:nA)(my:Nat->QM)(y:nf)(K Ky:Nat)(hc:c<2^S.n)(h0K:0<K)(hK:K<=3)(hs:Ss K S)(ho:S.ok)(hL:Ly<=1000)(hy:∀k,k<Ly->Sq Ky (y k))(hKy:(6*S.n+6*S.m+S.n)*(Ky+22)+Ky+30<=400000000) :
  FnB prog 46 [M.l,M.t,.agg #[.int .i64 (c:Int),yv]] [] [fSl M S,fSt M S,fF yv Ly my y] (IsEr (Ly=(Bl.lp S (S.wt c)).m/\X.Vw (Bl.lp S (S.wt c)) y)):=by
 have hn:=ho.n;have hm:=ho.m;have hz:=lp_szs h0K hK hs ho (wt_sz hs c);have hpb:=G6 M S c hc K h0K qo hs ho;obtain⟨p,hp⟩:∃p,Bl.lp S (S.wt c)=p:=⟨_,rfl⟩
 have hpv:p.v=4*S.m:=by rw[<-hp];rfl
 have hpm:p.m=6*S.n+6*S.m+S.n:=by rw[<-hp];rfl
 unfold FX at hpb;rw[hp,<-hpv] at hpb;rw[hp] at hz ⊢;have h32:2^S.n<=2^5:=aA qd hn;obtain⟨N2,hN2⟩:∃N2,2^S.n=N2:=⟨_,rfl⟩
 refine fO [(0,M.l),(1,M.t),(2,(.agg #[.int .i64 (c:Int),yv]))] 111 Tryz.func46 Tryz.ntmps46 λh0=>?_;refine d46r ?_;intro g;revert g;intro g5;refine cW (hpb) λMp=>?_;refine WL.QD (fF Mp.gv p.v Mp.mg p.g) (W.Has.pg (M:=Mp) (m:=p.m) (gn:=p.v) (ln:=λ_=>p.v) (a:=p.a) (b:=p.b) hmA) ?_;refine d46r ?_;intro g;revert g;intro g7;refine WL.keep (g:=g5) (t:=63) (cs:=[.int .i64 (c:Int),yv]) wq11 ?_;refine WL.keep (g:=g7) (t:=118) (cs:=pcs Mp p.v) wq11 ?_;by_cases hl:Ly=p.m
 .subst hl;refine d46r ?_;(repeat(first|intro(g:Nat)|intro v));revert g;intro g10;revert v;intro sv;refine WC.JK (σ:=(Nat->QM)×QM) (λst=>[(9,sv),(10,ptr g10)]) (λst=>[Ow.cells g10 75 (qcs st.2),Ow.slice sv 75 4 (Qc p.v st.1)]) (λst=>[mF p.v st.1 (fsx p.a y p.m 0),isQ (qv st.2) (X.sm p.m λr=>y r*p.b r),ge h0]) (λ_=>∀r,r<p.m->0<=y r) ?_ ?_
  .refine WC.lp (σ:=Nat×(Nat->QM)×QM) (λst=>[(50,.int .i64 (st.1:Int)),(49,.int .i64 (p.m:Int)),(48,yv),(9,sv),(10,ptr g10),(5,ptr g5),(7,ptr g7)]) (λst=>[Ow.cells g10 75 (qcs st.2.2),Ow.slice sv 75 4 (Qc p.v st.2.1)]) (λst=>[mF p.v st.2.1 (fsx p.a y st.1 0),isQ (qv st.2.2) (X.sm st.1 λr=>y r*p.b r),ge h0,ce g5 63 [.int .i64 (c:Int),yv],ce g7 118 (pcs Mp p.v),fP Mp p,fF yv p.m my y]) (λst=>st.1<=p.m/\∀r,r<st.1->0<=y r) (λst=>p.m-st.1) (0,λ_=>m00,m00) ⟨aj _,λr h=>absurd h qo⟩ ?_ (hG:=.cons ((W.Has.mF0 p.v).QK λk _=>rfl) (.cons Jr haA));rintro⟨i,ms,mr⟩ ⟨hi,hok⟩;simp only at hi hok ⊢;by_cases d:i<p.m
   .refine WC.fact (fF (Mp.av i) p.v (Mp.ma i) (p.a i)) (W.Has.pa (M:=Mp) (m:=p.m) (gn:=p.v) (ln:=λ_=>p.v) (a:=p.a) (b:=p.b) (g:=p.g) hmA d) ?_;refine WC.fact (isQ (qv (Mp.mb i)) (p.b i)) (W.Has.pbq (M:=Mp) (m:=p.m) (gn:=p.v) (ln:=λ_=>p.v) (a:=p.a) (b:=p.b) (g:=p.g) hmA d) ?_;refine WC.fact (isQ (qv (my i)) (y i)) (W.Has.q (W.Has.fm (v:=yv) (n:=p.m) (ms:=my) (qf:=y) hmA) d) ?_;have hyi:=hy i d;have hKy2:p.m*(Ky+22)+Ky+30<=400000000:=by rw[hpm];exact hKy
    have hKy3:Ky+22<=400000000:=qo;refine d46r ?_;intro g;revert g;intro g12;refine cV (XF (my i) (y i) (hyi.sm qo)) ?_;refine d46r ?_;refine cV (Zn.sign (my i) (y i)) ?_;have hsg:=@Xq (y i);by_cases hneg:y i<0
    .have hs1:=hsg.2 hneg;refine d46r ?_;refine WC.ret ?_;exact Fp [] (Qf.t1 rfl rfl) .nil ⟨22,rfl,.inr rfl,⟨λh=>absurd h qd,λh=>absurd (h.2.1 i d) (by grind)⟩,rfl,rfl⟩
    .have hs1:¬sgn (y i).num<0:=λh=>hneg (hsg.1 h);refine d46r ?_;refine WC.JK (σ:=Nat->QM) (λms=>[(11,.int .i64 (i:Int)),(12,ptr g12),(50,.int .i64 (i:Int)),(49,.int .i64 (p.m:Int)),(48,yv),(9,sv),(10,ptr g10),(5,ptr g5),(7,ptr g7)]) (λms=>[Ow.cells g12 75 (qcs (my i)),Ow.cells g10 75 (qcs mr),Ow.slice sv 75 4 (Qc p.v ms)]) (λms=>[mF p.v ms (fsx p.a y (i+1) 0),isQ (qv mr) (X.sm i λr=>y r*p.b r),isQ (qv (Mp.mb i)) (p.b i),isQ (qv (my i)) (y i),ge h0,ce g5 63 [.int .i64 (c:Int),yv],ce g7 118 (pcs Mp p.v),fP Mp p,fF yv p.m my y]) (λ_=>True) ?_ ?_
     .refine WC.lp (σ:=Nat×(Nat->QM)) (λst=>[(70,.int .i64 (st.1:Int)),(69,.int .i64 (p.v:Int)),(68,Mp.av i),(11,.int .i64 (i:Int)),(12,ptr g12),(50,.int .i64 (i:Int)),(49,.int .i64 (p.m:Int)),(48,yv),(9,sv),(10,ptr g10),(5,ptr g5),(7,ptr g7)]) (λst=>[Ow.cells g12 75 (qcs (my i)),Ow.cells g10 75 (qcs mr),Ow.slice sv 75 4 (Qc p.v st.2)]) (λst=>[mF p.v st.2 (fsx p.a y i st.1),fF (Mp.av i) p.v (Mp.ma i) (p.a i),isQ (qv mr) (X.sm i λr=>y r*p.b r),isQ (qv (Mp.mb i)) (p.b i),isQ (qv (my i)) (y i),ge h0,ce g5 63 [.int .i64 (c:Int),yv],ce g7 118 (pcs Mp p.v),fP Mp p,fF yv p.m my y]) (λst=>st.1<=p.v) (λst=>p.v-st.1) (0,ms) (aj _) ?_;rintro⟨j,ms⟩ hj;simp only at hj ⊢;by_cases dj:j<p.v
      .refine WC.fact (isQ (qv (Mp.ma i j)) (p.a i j)) (W.Has.q (W.Has.fm (v:=Mp.av i) (n:=p.v) (ms:=Mp.ma i) (qf:=p.a i) hmA) dj) ?_;refine WC.fact (isQ (qv (ms j)) (fsx p.a y i j j)) (W.Has.q (n:=p.v) (ms:=ms) (qf:=fsx p.a y i j) hmA dj) ?_;have haj:=hz.a i d j dj;have hsz:Sq (p.m*(Ky+22)+1) (fsx p.a y i j j):=by unfold fsx;rw[ae qo];exact sum_sz hy (λr hr=>hz.a r hr j dj) hi
       refine d46r ?_;intro g
       all_goals
        refine cW (Zn.mul (my i) (Mp.ma i j) (y i) (p.a i j) (hyi.sm qo) (haj.sm qo)) λn1=>?_;refine d46r ?_
       all_goals
        refine cW (Zn.add (ms j) n1 (fsx p.a y i j j) (y i*p.a i j) (hsz.sm qo) ((hyi.mul haj).sm qo)) λn2=>?_;refine d46r ?_;exact Qq.mk (j+1,Qy ms j n2) wq14 wq14 (hG:=.cons ((W.Has.J0 (n:=p.v) (k:=j) (ms:=ms) (m:=n2) (qf:=fsx p.a y i j) hmA hmA).QK λk _=>fsx_up k) haA)
      .obtain rfl:j=p.v:=qo;refine d46r ?_;exact Qr ms trivial (hG:=.cons (W.Has.QK (n:=p.v) (ms:=ms) (qf:=fsx p.a y i p.v) hmA λk hk=>fsx_next hk) haA)
     .intro ms _;have hsz:Sq (p.m*(Ky+22)+1) (X.sm i λr=>y r*p.b r):=sum_sz hy (λr hr=>hz.b r hr) hi;refine d46r ?_
      all_goals
       refine cW (Zn.mul (my i) (Mp.mb i) (y i) (p.b i) (hyi.sm qo) ((hz.b i d).sm qo)) λn1=>?_;refine d46r ?_
      all_goals
       refine cW (Zn.add mr n1 (X.sm i λr=>y r*p.b r) (y i*p.b i) (hsz.sm qo) ((hyi.mul (hz.b i d)).sm qo)) λn2=>?_;refine d46r ?_
       exact Qq.mk (i+1,ms,n2) ⟨by simp only;omega,λr hr=>by
        by_cases e:r=i
        .subst e;grind
        .exact hok r (by simp only at hr;omega)⟩ wq14 (hG:=.cons hmA (.cons (show W.Has _ (isQ (qv n2) ((X.sm i λr=>y r*p.b r)+y i*p.b i)) from hmA) haA))
   .obtain rfl:i=p.m:=qo;refine d46r ?_;exact Qr (ms,mr) hok
  .rintro⟨ms,mr⟩ hok;refine d46r ?_;refine WC.JK (σ:=Unit) (λ_=>[(10,ptr g10)]) (λ_=>[Ow.cells g10 75 (qcs mr),Ow.slice sv 75 4 (Qc p.v ms)]) (λ_=>[isQ (qv mr) (X.sm p.m λr=>y r*p.b r),ge h0]) (λ_=>∀k,k<p.v->(X.sm p.m λr=>y r*p.a r k)=0) ?_ ?_
   .refine WC.lp (σ:=Nat) (λk=>[(100,.int .i64 (k:Int)),(99,.int .i64 (p.v:Int)),(98,sv),(10,ptr g10)]) (λ_=>[Ow.cells g10 75 (qcs mr),Ow.slice sv 75 4 (Qc p.v ms)]) (λ_=>[isQ (qv mr) (X.sm p.m λr=>y r*p.b r),ge h0,mF p.v ms (fsx p.a y p.m 0)]) (λk=>k<=p.v/\∀j,j<k->(X.sm p.m λr=>y r*p.a r j)=0) (λk=>p.v-k) 0 ⟨aj _,λj h=>absurd h qo⟩ ?_;rintro k ⟨hk,hz0⟩;by_cases d:k<p.v
    .have hq:fsx p.a y p.m 0 k=X.sm p.m λr=>y r*p.a r k:=by unfold fsx;rw[ae qo]
     refine WC.fact (isQ (qv (ms k)) (X.sm p.m λr=>y r*p.a r k)) (by rw[<-hq];exact W.Has.q (n:=p.v) (ms:=ms) (qf:=fsx p.a y p.m 0) hmA d) ?_;refine d46r ?_;intro g;refine cV (Zn.sign (ms k) (X.sm p.m λr=>y r*p.a r k)) ?_;have hsg:=@Je (X.sm p.m λr=>y r*p.a r k);by_cases h0':(X.sm p.m λr=>y r*p.a r k)=0
     .have hs1:=hsg.2 h0';refine d46r ?_;refine Qq.mk (k+1) ⟨by omega,λj hj=>?_⟩ qo;by_cases e:j=k
      .subst e;exact h0'
      .exact hz0 j qo
     .have hs1:¬sgn (X.sm p.m λr=>y r*p.a r k).num=0:=λh=>h0' (hsg.1 h);refine d46r ?_;refine WC.ret ?_;exact Fp [] (Qf.t1 rfl rfl) .nil ⟨22,rfl,.inr rfl,⟨λh=>absurd h qd,λh=>absurd (h.2.2.1 k d) h0'⟩,rfl,rfl⟩
    .obtain rfl:k=p.v:=qo;refine d46r ?_;exact Qr () hz0
   .rintro⟨⟩ hz0;refine d46r ?_;refine cV (Zn.sign mr (X.sm p.m λr=>y r*p.b r)) ?_;have hsg:=@Xq (X.sm p.m λr=>y r*p.b r);by_cases hn0:(X.sm p.m λr=>y r*p.b r)<0
    .have hs1:=hsg.2 hn0;refine d46r ?_;refine WC.ret ?_;exact Fp [] (Qf.t1 rfl rfl) .nil ⟨0,rfl,.inl rfl,⟨λ_=>⟨rfl,hok,hz0,hn0⟩,λ_=>rfl⟩,rfl,rfl⟩
    .have hs1:¬sgn (X.sm p.m λr=>y r*p.b r).num<0:=λh=>hn0 (hsg.1 h);refine d46r ?_;refine WC.ret ?_;exact Fp [] (Qf.t1 rfl rfl) .nil ⟨22,rfl,.inr rfl,⟨λh=>absurd h qd,λh=>absurd h.2.2.2 hn0⟩,rfl,rfl⟩
 .refine d46r ?_;refine WC.ret ?_;exact Fp [] (Qf.t1 rfl rfl) .nil ⟨22,rfl,.inr rfl,⟨λh=>absurd h qd,λh=>absurd h.1 hl⟩,rfl,rfl⟩
end Q
end K
abbrev Q1:Shp (nA×(Nat->QM)) (Nat×Nat×nf):=⟨2,λm a=>[nj (a.1:Int),m.1],λm a=>fF m.1 a.2.1 m.2 a.2.2,by decide,λ_ _=>rfl⟩
def ZX(S:Sc)(a:Nat×Nat×nf):Prop:=a.1<2^S.n/\a.2.1=(Bl.lp S (S.wt a.1)).m/\X.Vw (Bl.lp S (S.wt a.1)) a.2.2/\∀k,k<a.2.1->Sq (yB S) (a.2.2 k)
section
variable {e:Env}{bx:nw}{F:nc}{ty:nl}{x:ni}{K:Qd}{yv:nA}{n:Nat}
def LO.bsFall{c:Int}(hx:ev e x=some (.agg #[nj c,yv]))(hv:KnS bx F yv n)(h:∀u,K u (Ow.slice u 63 2 [nj c,yv]::bx) F):LO prog (.buildSlice 40 1 #[(0,x)]) ty e bx F K:=by
 refine LO.byP (p:=∃a d,yv=.slice a n d) (λfr w' ho=>?_) ?_
 .obtain⟨a1,c1,h1,_⟩:=(hv fr w' ho).is;exact⟨a1,c1,h1⟩
 rintro⟨a',d,rfl⟩;exact LO.buildSlice (el:=63) (sz:=2) (parts:=[(0,x)]) (us:=[.agg #[nj c,.slice a' n d]]) (cs:=[nj c,.slice a' n d]) (.cons hx .nil) (λ_=>by kernel_rfl) rfl qd h
end
section
variable (n:Nat)(B:Nat->Bd)(t:List Tc)(P:List (List Tc))(most:Int)
abbrev scP(s:nd):Sc:=Bl.scL n B d0 (Fx.Ql t P s)
abbrev stP(s:nd):Prop:=Fx.StP n B d0 t P s
def fall_no{n:Nat}{B:Nat->Bd}{t:List Tc}{P:List (List Tc)}{s:nd}{a:Nat×Nat×nf}(h:ZX (scP n B t P s) a):¬stP n B t P s:=λhs=>by
 obtain⟨x,hx⟩:=hs a.1 h.1;exact X.inf_no h.2.2.1 hx
def IsChoice:Qd:=λv bx G=>bx=[]/\∃(fv:nA) (fm:Nat->nA×(Nat->QM)) (fx:Nat->Nat×Nat×nf),
 ((∃(i:Nat) (pv cv:nA) (cm:Nat->nA×(Nat->VM)) (xs:Nat->nf),Fx.Yh (Fx.Qa t P most) (stP n B t P) i/\v=.tuple #[.agg #[pv,cv,fv],nj 0]/\
   G=[sI pv (sl (Fx.Qa t P most) i),lF plS cv (2^n) cm (λc=>psh (2*(scP n B t P (sl (Fx.Qa t P most) i)).m) (xs c)),lF Q1 fv i fm fx]/\(∀j,j<i->ZX (scP n B t P (sl (Fx.Qa t P most) j)) (fx j))/\
   ∀c,c<2^n->X.UF (Bl.lp (scP n B t P (sl (Fx.Qa t P most) i)) ((scP n B t P (sl (Fx.Qa t P most) i)).wt c)) (xs c)/\∀k,k<4*(scP n B t P (sl (Fx.Qa t P most) i)).m->Sq RA (xs c k))\/
  (Fx.NoneS (Fx.Qa t P most) (stP n B t P)/\v=.tuple #[.agg #[nz,nz,fv],nj 16]/\G=[lF Q1 fv (Fx.Qa t P most).length fm fx]/\∀j,j<(Fx.Qa t P most).length->ZX (scP n B t P (sl (Fx.Qa t P most) j)) (fx j)))
end
namespace K
namespace Q
namespace Y
attribute [local irreducible] WC WL WD YO LO Qq W.Fin Qk Qh Qj Row QZ Qv KnS Has W.One Qo QX
def d16{G G':Prop}(h:G')(s:Bx G'->G:=by
 intro h;first|refine gE ?_|refine goLY ?_|refine goYB ?_|refine Vp ?_|refine Zt ?_|(apply WC.draw (id:=12) [0,2] (.h 0<|.h 2<|.m 1 (.l 3<|.f 4<|.l 5 .done) (.l 3<|.l 1<|.f 4<|.l 5 .done)) mixed kr)|fail
 exact Bx.h h):G:=s ⟨h⟩
def d16r{G G':Prop}(h:G')(s:Bx G'->G:=by
 intro h;repeat'(first|intro(zQ:Nat)|refine d16 ?_|intro zQ)
 repeat revert zQ
 exact Bx.h h):G:=s ⟨h⟩

def ZK(lv tv pv:nA)(n:Nat)(bm:Nat->BM)(B:Nat->Bd)(t:List Tc)(P:List (List Tc))(tm:Nat->ToM)(pm:Nat->nA×(Nat->ToM))(most:Int)(K:Nat)(hn:n<=5)(ht:t.length<=10)(hP8:P.length<=8)(hP:∀p∈P,p.length<=100)(hm0:0<=most)(hm8:most<=8)(h0K:0<K)(hK:K<=3)
  (hS:∀s∈Fx.Qa t P most,(scP n B t P s).ok/\Ss K (scP n B t P s)) :
  FnB prog 16 [lv,tv,pv,nj most] [] [isX prog,lF QQ lv n bm B,lF Qu tv t.length tm (tl t),lF tlS pv P.length pm (pl P)] (IsChoice n B t P most):=by
 refine fO [(0,lv),(1,tv),(2,pv),(3,(nj most))] 66 Tryz.func16 Tryz.ntmps16 λh0=>?_;refine d16r ?_;intro g;revert g;intro g8;refine cK (KR tv pv t P tm pm lv n bm B most hn ht hP8 hP hm0 hm8) ?_;rintro _ _ _ ⟨r,sm,rfl,rfl,rfl⟩;refine sNn ?_;refine d16r ?_;intro g;revert g;intro g12;have hcl:(Fx.Qa t P most).length<=900:=aL (bL _ _) (Fx.YL _ _);refine WC.QL 63 2 ?_;refine WC.JK (σ:=nA×(Nat->nA×(Nat->QM))×(Nat->Nat×Nat×nf)) (λst=>[(12,ptr g12),(8,ptr g8)]) (λst=>[lO Q1 st.1 63 (Fx.Qa t P most).length st.2.1 st.2.2,Ow.cells g12 42 [nz,nz,st.1],Ow.cells g8 42 [nz,nz,nz]]) (λst=>[lM Q1 (Fx.Qa t P most).length st.2.1 st.2.2,ge h0]) (λst=>∀j,j<(Fx.Qa t P most).length->ZX (scP n B t P (sl (Fx.Qa t P most) j)) (st.2.2 j)) ?_ ?_
 .refine WC.lp (σ:=Nat×nA×(Nat->nA×(Nat->QM))×(Nat->Nat×Nat×nf)) (λst=>[(32,nj (st.1:Int)),(31,nj ((Fx.Qa t P most).length:Int)),(30,r),(12,ptr g12),(8,ptr g8),(0,lv),(1,tv),(2,pv)]) (λst=>[lO Q1 st.2.1 63 st.1 st.2.2.1 st.2.2.2,Ow.cells g12 42 [nz,nz,st.2.1],Ow.cells g8 42 [nz,nz,nz]]) (λst=>[lM Q1 st.1 st.2.2.1 st.2.2.2,ge h0,isX prog,lF QQ lv n bm B,lF Qu tv t.length tm (tl t),lF tlS pv P.length pm (pl P),lF Qp r (Fx.Qa t P most).length sm (sl (Fx.Qa t P most))]) (λst=>st.1<=(Fx.Qa t P most).length/\∀j,j<st.1->ZX (scP n B t P (sl (Fx.Qa t P most) j)) (st.2.2.2 j)) (λst=>(Fx.Qa t P most).length-st.1) (0,nz,λ_=>(nz,λ_=>m00),λ_=>(0,0,λ_=>0)) ⟨aj _,λj hj=>absurd hj (bY j)⟩ ?_ (hG:=.cons W.Has.Uy haA);rintro⟨i,fv,fm,fx⟩ ⟨hi,hfx⟩;simp only at hi hfx ⊢;by_cases d:i<(Fx.Qa t P most).length
  .have hmem:=Yu d;obtain⟨hok,hsz⟩:=hS _ hmem;have hst:=Zx hP8 hmem;refine WC.fact (sI (sm i) (sl (Fx.Qa t P most) i)) (W.Has.lk (S:=Qp) (v:=r) (ms:=sm) (xs:=sl (Fx.Qa t P most)) hmA d) ?_;refine d16r ?_;refine cK (VC tv pv (sm i) t P (sl (Fx.Qa t P most) i) tm pm qo hP qo hst.2 qo) ?_;rintro v41 _ _ ⟨tm2,rfl,rfl⟩;refine sNn ?_;refine d16r ?_;refine cK (decide_c ⟨lv,v41,bm,tm2⟩ (scP n B t P (sl (Fx.Qa t P most) i)) K h0K hK hsz hok) ?_;rintro _ _ _ ⟨rfl,⟨cv,cm,xs,rfl,rfl,hpt⟩|⟨c,yv,my,y,rfl,rfl,hc,hinf,hy,hprev⟩⟩
   .refine sNn ?_;repeat'(first|intro(g:Nat)|refine d16 ?_|refine gN ?_ ?_|intro v)
    all_goals
     refine WD.fy rfl (YO.QR T.f42_1 rfl qr) qr qr ?_;refine d16r ?_;refine WC.QA (S:=Q1) (v:=fv) (n:=i) (ms:=fm) (xs:=fx) wq3 hmA ?_;refine WC.ret ?_;exact Fp [_,_,_] (Qf.cT rfl rfl meA T.r42 rfl rfl) (.cons hmA (.cons hmA (.cons hmA .nil))) ⟨rfl,fv,fm,fx,.inl ⟨i,sm i,cv,cm,xs,⟨d,λc hc=>⟨_,(hpt c hc).1⟩,λj hj=>fall_no (hfx j hj)⟩,rfl,rfl,hfx,hpt⟩⟩
   .refine sNn ?_;refine d16r ?_;intro g g;refine WL.l rfl rfl (LO.bsFall (c:=(c:Int)) rfl (KnS.ff (v:=yv) hmA) λv61=>?_);refine WL.l rfl rfl (LO.appL (S:=Q1) (ms:=fm) (xs:=fx) (n:=i) (mm:=(yv,my)) (aa:=(c,(Bl.lp (scP n B t P (sl (Fx.Qa t P most) i)) ((scP n B t P (sl (Fx.Qa t P most) i)).wt c)).m,y)) T.e40 rfl rfl meA (.cons (One.lit rfl rfl) (.cons (One.sl (KnS.ff (v:=yv) hmA)) .nil)) (λv'=>by repeat(first|exact Sel.head|apply Sel.tail)) qd qd qo λv62=>?_);refine d16r ?_;refine Qq.mk (i+1,v62,Qy fm i (yv,my),Qy fx i (c,(Bl.lp (scP n B t P (sl (Fx.Qa t P most) i)) ((scP n B t P (sl (Fx.Qa t P most) i)).wt c)).m,y)) ⟨by simp only;omega,λj hj=>?_⟩ wq14 (hG:=.cons (W.Has.mapp (S:=Q1) (n:=i) (ms:=fm) (xs:=fx) (mm:=(yv,my)) (aa:=(c,(Bl.lp (scP n B t P (sl (Fx.Qa t P most) i)) ((scP n B t P (sl (Fx.Qa t P most) i)).wt c)).m,y)) hmA hmA) haA);simp only at hj ⊢;by_cases e:j=i
    .subst e;rw[QF];exact⟨hc,rfl,hinf,hy⟩
    .rw[Qt e];exact hfx j qo
  .obtain rfl:i=(Fx.Qa t P most).length:=qo;refine d16r ?_;exact Qr (fv,fm,fx) hfx
 rintro⟨fv,fm,fx⟩ hfx;simp only at hfx ⊢;refine d16r ?_;refine WC.QA (S:=Q1) (v:=fv) (n:=(Fx.Qa t P most).length) (ms:=fm) (xs:=fx) wq3 hmA ?_;refine WC.ret ?_;exact Fp [_] (Qf.cT rfl rfl meA T.r42 rfl rfl) (.cons hmA .nil) ⟨rfl,fv,fm,fx,.inr ⟨λj hj=>fall_no (hfx j hj),rfl,rfl,hfx⟩⟩
end Y
end Q
end K
namespace K
namespace Q
namespace Y
attribute [local irreducible] WC WL WD YO LO Qq W.Fin Qk Qh Qj Row QZ Qv KnS Has W.One Qo QX
def d23{G G':Prop}(h:G')(s:Bx G'->G:=by
 intro h;first|refine gF ?_|(apply WC.draw (id:=10) [0,1,2,3,4,5,6,8,10] (.h 0<|.h 1<|.h 2<|.h 3<|.h 4<|.h 5<|.h 6<|.h 8<|.l 7<|.l 9<|.h 10 .done) mixed kr)|(apply WC.draw (id:=17) [0,1,2,3,4,5,7,8,9,10,11,12,13,14,15,17,18,20,21] (.h 0<|.h 1<|.h 2<|.h 3<|.h 4<|.h 5<|.l 6<|.h 7<|.h 8<|.h 9<|.h 10<|.h 11<|.h 12<|.h 13<|.h 14<|.h 15<|.h 17<|.h 18<|.l 16<|.l 19<|.h 20<|.h 21 .done) mixed kr)|fail
 exact Bx.h h):G:=s ⟨h⟩
def d23r{G G':Prop}(h:G')(s:Bx G'->G:=by
 intro h;repeat'(first|intro(zQ:Nat)|refine d23 ?_|intro zQ)
 repeat revert zQ
 exact Bx.h h):G:=s ⟨h⟩

def d47{G G':Prop}(h:G')(s:Bx G'->G:=by
 intro h;first|refine gF ?_|(apply WC.draw (id:=6) [0,1,2,3,4,5,6,7,8] (.h 0<|.h 1<|.h 2<|.h 3<|.h 4<|.h 5<|.h 6<|.h 7<|.h 8 .done) mixed kr)|fail
 exact Bx.h h):G:=s ⟨h⟩
def d47r{G G':Prop}(h:G')(s:Bx G'->G:=by
 intro h;repeat'(first|intro(zQ:Nat)|refine d47 ?_|intro zQ)
 repeat revert zQ
 exact Bx.h h):G:=s ⟨h⟩

def equalI_c(v u:nA)(l:nd)(hl:l.length<=1000):FnB prog 47 [v,u] [] [sI v l,sI u l] (IsV (.bool true)):=by
 refine fO [(0,v),(1,u)] 26 Tryz.func47 Tryz.ntmps47 λh0=>?_;refine d47r ?_;refine WC.lp (σ:=Nat) (λk=>[(13,nj k),(12,nj (l.length:Int)),(0,v),(1,u)]) (λ_=>[]) (λ_=>[ge h0,sI v l,sI u l]) (λk=>k<=l.length) (λk=>l.length-k) 0 (aj _) ?_;intro k hk;by_cases d:k<l.length
 .refine d47r ?_;exact Qq.mk (k+1) qo qo
 .obtain rfl:k=l.length:=qo;refine d47r ?_;exact wq4
def check_c(lv tv pv:nA)(n:Nat)(bm:Nat->BM)(B:Nat->Bd)(t:List Tc)(P:List (List Tc))(tm:Nat->ToM)(pm:Nat->nA×(Nat->ToM))(most:Int)(K:Nat)(hn:n<=5)(ht:t.length<=10)(hP8:P.length<=8)(hP:∀p∈P,p.length<=100)(hm0:0<=most)(hm8:most<=8)(h0K:0<K)(hK:K<=3)
  (hS:∀s∈Fx.Qa t P most,(scP n B t P s).ok/\Ss K (scP n B t P s)) (hY:∀s∈Fx.Qa t P most,(6*n+6*(scP n B t P s).m+n)*(yB (scP n B t P s)+22)+yB (scP n B t P s)+30<=400000000/\(Bl.lp (scP n B t P s) ((scP n B t P s).wt 0)).m<=1000)
  (sv cv fv:nA) (fm:Nat->nA×(Nat->QM)) (fx:Nat->Nat×Nat×nf) (i:Nat) (cm:Nat->nA×(Nat->VM)) (xs:Nat->nf) (hi:i<(Fx.Qa t P most).length) (hf:∀j,j<i->ZX (scP n B t P (sl (Fx.Qa t P most) j)) (fx j))
  (hx:∀c,c<2^n->X.UF (Bl.lp (scP n B t P (sl (Fx.Qa t P most) i)) ((scP n B t P (sl (Fx.Qa t P most) i)).wt c)) (xs c)/\∀k,k<4*(scP n B t P (sl (Fx.Qa t P most) i)).m->Sq RA (xs c k)) :
  FnB prog 23 [lv,tv,pv,nj most,.agg #[sv,cv,fv]] [] [lF QQ lv n bm B,lF Qu tv t.length tm (tl t),lF tlS pv P.length pm (pl P),sI sv (sl (Fx.Qa t P most) i),lF plS cv (2^n) cm (λc=>psh (2*(scP n B t P (sl (Fx.Qa t P most) i)).m) (xs c)),lF Q1 fv i fm fx] (IsV (nj 0)):=by
 refine fO [(0,lv),(1,tv),(2,pv),(3,(nj most)),(4,(.agg #[sv,cv,fv]))] 89 Tryz.func23 Tryz.ntmps23 λh0=>?_;have hcl:(Fx.Qa t P most).length<=900:=aL (bL _ _) (Fx.YL _ _);refine d23r ?_;intro g;revert g;intro g9;refine cK (KR tv pv t P tm pm lv n bm B most hn ht hP8 hP hm0 hm8) ?_;rintro _ _ _ ⟨r,sm,rfl,rfl,rfl⟩;refine sNn ?_;refine d23r ?_;refine WC.JK (σ:=Unit) (λ_=>[(11,r),(13,nj i),(9,ptr g9),(0,lv),(1,tv),(2,pv),(10,nj 0)]) (λ_=>[Ow.cells g9 42 [sv,cv,fv]]) (λ_=>[ge h0,lF QQ lv n bm B,lF Qu tv t.length tm (tl t),lF tlS pv P.length pm (pl P),sI sv (sl (Fx.Qa t P most) i),lF plS cv (2^n) cm (λc=>psh (2*(scP n B t P (sl (Fx.Qa t P most) i)).m) (xs c)),lF Q1 fv i fm fx,lF Qp r (Fx.Qa t P most).length sm (sl (Fx.Qa t P most))]) (λ_=>True) ?_ ?_
 .refine WC.lp (σ:=Nat) (λj=>[(37,nj j),(36,nj i),(35,fv),(11,r),(13,nj i),(9,ptr g9),(0,lv),(1,tv),(2,pv),(10,nj 0)]) (λ_=>[Ow.cells g9 42 [sv,cv,fv]]) (λ_=>[ge h0,lF QQ lv n bm B,lF Qu tv t.length tm (tl t),lF tlS pv P.length pm (pl P),sI sv (sl (Fx.Qa t P most) i),lF plS cv (2^n) cm (λc=>psh (2*(scP n B t P (sl (Fx.Qa t P most) i)).m) (xs c)),lF Q1 fv i fm fx,lF Qp r (Fx.Qa t P most).length sm (sl (Fx.Qa t P most))]) (λj=>j<=i) (λj=>i-j) 0 (aj _) ?_;rintro j hj;by_cases d:j<i
  .have hmem:=Yu (show j<(Fx.Qa t P most).length by omega);obtain⟨hok,hsz⟩:=hS _ hmem;obtain⟨hy1,hy2⟩:=hY _ hmem;obtain⟨f1,f2,f3,f4⟩:=hf j d;have hst:=Zx hP8 hmem;refine WC.fact (sI (sm j) (sl (Fx.Qa t P most) j)) (W.Has.lk (S:=Qp) (v:=r) (ms:=sm) (xs:=sl (Fx.Qa t P most)) hmA qo) ?_;refine WC.fact (fF (fm j).1 (fx j).2.1 (fm j).2 (fx j).2.2) (W.Has.lk (S:=Q1) (v:=fv) (ms:=fm) (xs:=fx) hmA d) ?_;refine d23r ?_;intro g;refine cK (VC tv pv (sm j) t P (sl (Fx.Qa t P most) j) tm pm qo hP qo hst.2 qo) ?_;rintro v49 _ _ ⟨tm2,rfl,rfl⟩;refine sNn ?_;refine d23r ?_;refine cK (falls_c ⟨lv,v49,bm,tm2⟩ (scP n B t P (sl (Fx.Qa t P most) j)) (fx j).1 (fx j).2.1 (fm j).1 (fm j).2 (fx j).2.2 K (yB (scP n B t P (sl (Fx.Qa t P most) j))) f1 h0K hK hsz hok (by rw[f2];exact hy2) f4 hy1) ?_;rintro _ _ _ ⟨z,rfl,hz1,hz2,rfl,rfl⟩;obtain rfl:z=0:=hz2.2 ⟨f2,f3⟩;refine sNn ?_;refine d23r ?_;exact Qq.mk (j+1) qo qo
  .obtain rfl:j=i:=qo;refine d23r ?_;exact Qr () trivial
 rintro⟨⟩ _;have hmem:=Yu hi;obtain⟨hok,hsz⟩:=hS _ hmem;have hst:=Zx hP8 hmem;refine WC.fact (sI (sm i) (sl (Fx.Qa t P most) i)) (W.Has.lk (S:=Qp) (v:=r) (ms:=sm) (xs:=sl (Fx.Qa t P most)) hmA hi) ?_;refine d23r ?_;refine cV (equalI_c sv (sm i) (sl (Fx.Qa t P most) i) qo) ?_;refine d23r ?_;refine cK (VC tv pv (sm i) t P (sl (Fx.Qa t P most) i) tm pm qo hP qo hst.2 qo) ?_;rintro v83 _ _ ⟨tm2,rfl,rfl⟩;refine sNn ?_;refine d23r ?_;have h32:2^n<=2^5:=aA qd hn;refine cK (holds_c ⟨lv,v83,bm,tm2⟩ (scP n B t P (sl (Fx.Qa t P most) i)) cv (2^n) cm (λc=>(psh (2*(scP n B t P (sl (Fx.Qa t P most) i)).m) (xs c)).2) K RA h0K qo qd qo hsz hok (λc hc k hk=>⟨(hx c hc).2 (2*k) qo,(hx c hc).2 (2*k+1) qo⟩)) ?_;rintro _ _ _ ⟨z,rfl,hz1,hz2,rfl,rfl⟩;obtain rfl:z=0:=hz2.2 ⟨rfl,λc hc=>Bl.YS.1 (hx c hc).1⟩;refine sNn ?_;refine d23r ?_;exact wq4
end Y
end Q
end K
end
namespace Fx
open Bl X
def exB_ok:BdOk exB/\BdF 2 20 exB:=⟨⟨by decide +kernel,by decide +kernel,by decide +kernel⟩,⟨(Fr.int (A:=1) 1 qd).sc' (c:=2) rfl qd,(Fr.int (A:=1) 1 qd).sc' (c:=2) rfl qd⟩,(Fr.of (a:=1) (D:=1) (A:=1) qd qd).sc' (D:=1) (A:=1) (c:=2) rfl qd,(Fr.of (a:=2) (D:=1) (A:=2) qd qd).sc' (D:=1) (A:=2) (c:=2) rfl qd,(Fr.of (a:=10) (D:=1) (A:=10) qd qd).sc' (D:=1) (A:=10) (c:=2) rfl qd⟩
def supT_ok{a b:Int}(ha:a.natAbs<=20)(hb:b.natAbs<=20):Y0 1 (Ju a b)/\TcF 2 20 (Ju a b):=by
 refine⟨⟨by show(0:Int)<=0;decide,by show(0:Int)<1;decide,by show(-1:Int)<=-1;decide,by show(-1:Int)<1;decide,by show(0:Int)≠-1;decide,by show(0:Rat)<=0;decide,λh=>absurd h.2 wq133,?_⟩,⟨(Fr.of (D:=2) qd ha),Fr.zero⟩,⟨(Fr.of (D:=2) qd hb),Fr.zero⟩,⟨(Fr.int (A:=0) 0 qd).sc' (c:=2) rfl qd,(Fr.int (A:=1) 1 qd).sc' (c:=2) rfl qd⟩,Fr.zero⟩;show((0:Int):Rat)*_+((1:Int):Rat)*((0:Rat)-0)=0;grind
def FN:(∀p∈exP,∀x∈p,Y0 1 x/\TcF 2 20 x)/\∀p∈Kh,∀x∈p,Y0 1 x/\TcF 2 20 x:=by
 have s:∀{a b:Int},a.natAbs<=20->b.natAbs<=20->∀x∈[Ju a b],Y0 1 x/\TcF 2 20 x:=λha hb x hx=>by
  rw[List.mem_singleton.1 hx];exact supT_ok ha hb
 refine⟨λp hp=>?_,λp hp=>?_⟩
 .rcases List.mem_cons.1 hp with rfl|hp
  .exact s qd qd
  .rcases List.mem_cons.1 hp with rfl|hp
   .exact s qd qd
   .rw[List.mem_singleton.1 hp];exact s qd qd
 .rcases List.mem_cons.1 hp with rfl|hp
  .exact s qd qd
  .rw[List.mem_singleton.1 hp];exact s qd qd
def ex_ok{ps:List (List Tc)}(h:∀p∈ps,∀x∈p,Y0 1 x/\TcF 2 20 x){s:nd}(hl:(Ql [] ps s).length<=10):(scL 1 (λ_=>exB) (Ju 0 0) (Ql [] ps s)).ok/\Fs 2 20 (scL 1 (λ_=>exB) (Ju 0 0) (Ql [] ps s)):=by
 have h3:=Vm (λx hx=>(aW hx).elim) h s;exact⟨scL_ok qd hl (λ_ _=>exB_ok.1) λx hx=>(h3 x hx).1,scL_fs (λ_ _=>exB_ok.2) λx hx=>(h3 x hx).2⟩
end Fx
section
open W Go.RowKit
open Bl (Vc Bd Tc Sc)
def IsSup(a b:Int):Qd:=λv B G=>∃tm:Nat->ToM,B=[]/\G=[lF Qu v [Fx.Ju a b].length tm (tl [Fx.Ju a b])]
def pm3{α:Type}(a b c:α)(j:Nat):α:=if j=0 then a else if j=1 then b else c
section
variable {e:Env}{bx:nw}{F:nc}{ty:nl}{x y z:ni}{K:Qd}
def y_vecX{m:QM}(hx:ev e x=some (qv m)):YO prog (.build 77 #[(0,x)]) ty e bx F (vv (m,m00)):=YO.build (parts:=[(0,x)]) (.cons hx .nil) λ_=>by kernel_rfl
def y_sup{v1 v2 v3:VM}{a b:Int}(h1:ev e x=some (vv v1))(h2:ev e y=some (vv v2))(h3:ev e z=some (vv v3)):YO prog (.build 93 #[(0,.const (nj 0)),(1,.const (nj (-1))),(2,x),(3,y),(4,z)]) ty e bx F (tv ⟨v1,v2,v3,m00⟩ (Fx.Ju a b)):=
 YO.build (parts:=[(0,.const (nj 0)),(1,.const (nj (-1))),(2,x),(3,y),(4,z)]) (.cons rfl (.cons rfl (.cons h1 (.cons h2 (.cons h3 .nil))))) λ_=>by kernel_rfl
def LO.bsTL{tm:ToM}{tc:Tc}(hx:ev e x=some (tv tm tc))(h:∀v,K v (lO Qu v 93 [tc].length (λ_=>tm) (tl [tc])::bx) F):LO prog (.buildSlice 32 1 #[(0,x)]) ty e bx F K:=
 LO.bsT1 (tm:=tm) (tc:=tc) hx λv=>by
  have h1:=h v
  have h2:QG Qu 1 (λ_=>tm) (λ_=>tc)=QG Qu [tc].length (λ_=>tm) (tl [tc]):=lcells_lt λj hj=>by
   obtain rfl:j=0:=qo;rfl
  unfold lO at h1 ⊢;rw[h2];exact h1
def has_sup{v1 v2 v3:VM}{a b:Int}(h1:W.Has F (fV v1 ⟨Rat.divInt a 2,0⟩))(h2:W.Has F (fV v2 ⟨Rat.divInt b 2,0⟩))(h3:W.Has F (fV v3 ⟨((0:Int):Rat),((1:Int):Rat)⟩)):W.Has F (lM Qu [Fx.Ju a b].length (λ_=>(⟨v1,v2,v3,m00⟩:ToM)) (tl [Fx.Ju a b])):=λp hf i hi=>by
 obtain rfl:i=0:=by have:i<1:=hi;omega
 exact⟨h1 p hf,h2 p hf,h3 p hf,Jr p hf⟩
def has_vec1{m:QM}{q:Rat}(h:W.Has F (isQ (qv m) q)):W.Has F (fV (m,m00) ⟨q,0⟩):=λp hf=>⟨h p hf,Jr p hf⟩
end
namespace K
namespace Q
namespace Y
attribute [local irreducible] WC WL WD YO LO Qq W.Fin Qk Qh Qj Row QZ Qv KnS Has W.One Qo QX
def U4(a b:Int)(ha:a.natAbs<=100)(hb:b.natAbs<=100):FnB prog 35 [nj a,nj b] [] [] (IsSup a b):=by
 refine fO [(0,(nj a)),(1,(nj b))] 14 Tryz.func35 Tryz.ntmps35 λh0=>?_;refine gPr ?_;refine cW (Zn.rof a 2 (Zv qo qo) qd) λn1=>?_;refine WL.y (y_vecX (m:=n1) rfl) qr qr ?_;refine WL.QD (fV (n1,m00) ⟨Rat.divInt a 2,0⟩) (has_vec1 hmA) ?_;refine gPr ?_;refine cW (Zn.rof b 2 (Zv qo qo) qd) λn2=>?_;refine WL.y (y_vecX (m:=n2) rfl) qr qr ?_;refine WL.QD (fV (n2,m00) ⟨Rat.divInt b 2,0⟩) (has_vec1 hmA) ?_;refine gPr ?_;refine cW (UJ 0 1 qd qd) λv3=>?_;refine WL.y (y_sup (v1:=(n1,m00)) (v2:=(n2,m00)) (v3:=v3) (a:=a) (b:=b) rfl rfl rfl) qr qr ?_;refine WL.l rfl rfl (LO.bsTL (tm:=⟨(n1,m00),(n2,m00),v3,m00⟩) (tc:=Fx.Ju a b) rfl λv13=>?_);refine WL.QA (S:=Qu) (v:=v13) (n:=[Fx.Ju a b].length) (ms:=λ_=>⟨(n1,m00),(n2,m00),v3,m00⟩) (xs:=tl [Fx.Ju a b]) wq3 (has_sup hmA hmA hmA) ?_;refine gPr ?_;refine WC.ret ?_;exact Fp [_] (Qf.t1 rfl rfl) (.cons hmA .nil) ⟨_,rfl,rfl⟩
end Y
end Q
end K
abbrev UO:Nat->Bd:=λ_=>Fx.exB
def ex_hS{ps:List (List Tc)}{m:Int}(h:∀p∈ps,∀x∈p,Bl.Y0 1 x/\Fx.TcF 2 20 x):∀s∈Fx.Qa [] ps m,(scP 1 UO [] ps s).ok/\Ss 1 (scP 1 UO [] ps s):=λs hs=>by
 obtain⟨h1,h2⟩:=Fx.ex_ok h (Fx.Hz hs);exact⟨h1,Fs.ss h2 qd qd qd⟩
def ex_y(m:Nat)(hm:m<=2):(6*1+6*m+1)*(nL (6*1+6*m+1)+nK (6*1+6*m+1)+1+22)+(nL (6*1+6*m+1)+nK (6*1+6*m+1)+1)+30<=400000000/\6*1+6*m+1<=1000:=by
 have:m=0\/m=1\/m=2:=qo;rcases this with rfl|rfl|rfl<;>decide
def ex_hY:∀s∈Fx.Qa [] Fx.exP 2,(6*1+6*(scP 1 UO [] Fx.exP s).m+1)*(yB (scP 1 UO [] Fx.exP s)+22)+yB (scP 1 UO [] Fx.exP s)+30<=400000000/\(Bl.lp (scP 1 UO [] Fx.exP s) ((scP 1 UO [] Fx.exP s).wt 0)).m<=1000:=λs hs=>by
 rw[Fx.Zk.1] at hs
 have hm:(scP 1 UO [] Fx.exP s).m<=2:=by
  show(Fx.Ql [] Fx.exP s).length<=2;simp only[bq,aW,di] at hs;rcases hs with rfl|rfl|rfl|rfl|rfl|rfl|rfl<;>decide
 exact ex_y _ hm
def ex_P:(∀p∈Fx.exP,p.length<=100)/\∀p∈Fx.Kh,p.length<=100:=by
 constructor
 .intro p hp;simp only[Fx.exP,bq,aW,di] at hp;rcases hp with rfl|rfl|rfl<;>decide
 .intro p hp;simp only[Fx.Kh,bq,aW,di] at hp;rcases hp with rfl|rfl<;>decide
section
variable {e:Env}{bx:nw}{F:nc}{ty:nl}{x y z:ni}{K:Qd}
def LO.bsP3{v0 v1 v2:nA}{n0 n1 n2:Nat}{t0 t1 t2:Nat->ToM}{xs:Nat->List Tc}(h0:ev e x=some v0)(h1:ev e y=some v1)(h2:ev e z=some v2)(k0:KnS bx F v0 n0)(k1:KnS bx F v1 n1)(k2:KnS bx F v2 n2)
  (h:∀u,K u (lO tlS u 32 3 (pm3 (v0,t0) (v1,t1) (v2,t2)) xs::bx) F):LO prog (.buildSlice 33 3 #[(0,x),(1,y),(2,z)]) ty e bx F K:=by
 refine LO.byP (p:=(∃a d,v0=.slice a n0 d)/\(∃a d,v1=.slice a n1 d)/\∃a d,v2=.slice a n2 d) (λfr w' ho=>?_) ?_
 .obtain⟨a0,c0,e0,_⟩:=(k0 fr w' ho).is;obtain⟨a1,c1,e1,_⟩:=(k1 fr w' ho).is;obtain⟨a2,c2,e2,_⟩:=(k2 fr w' ho).is;exact⟨⟨a0,c0,e0⟩,⟨a1,c1,e1⟩,⟨a2,c2,e2⟩⟩
 rintro⟨⟨a0,c0,rfl⟩,⟨a1,c1,rfl⟩,⟨a2,c2,rfl⟩⟩;exact LO.buildSlice (el:=32) (sz:=1) (parts:=[(0,x),(1,y),(2,z)]) (us:=[.slice a0 n0 c0,.slice a1 n1 c1,.slice a2 n2 c2]) (cs:=[.slice a0 n0 c0,.slice a1 n1 c1,.slice a2 n2 c2]) (.cons h0 (.cons h1 (.cons h2 .nil))) (λ_=>by kernel_rfl) rfl qd h
def has_ex{v0 v1 v2:nA}{t0 t1 t2:Nat->ToM}(h0:W.Has F (lF Qu v0 [Fx.Ju 0 1].length t0 (tl [Fx.Ju 0 1])))(h1:W.Has F (lF Qu v1 [Fx.Ju 3 4].length t1 (tl [Fx.Ju 3 4])))(h2:W.Has F (lF Qu v2 [Fx.Ju 1 3].length t2 (tl [Fx.Ju 1 3]))):W.Has F (lM tlS 3 (pm3 (v0,t0) (v1,t1) (v2,t2)) (pl Fx.exP)):=λp hf i hi=>by
 match i,hi with
 |0,_=>exact h0 p hf
 |1,_=>exact h1 p hf
 |2,_=>exact h2 p hf
def has_ex2{u:nA}{pm:Nat->nA×(Nat->ToM)}(h:W.Has F (lF tlS u 3 pm (pl Fx.exP))):W.Has F (lF tlS (resl u 0 2 1) 2 pm (pl Fx.Kh)):=λp hf=>by
 obtain⟨h1,h2⟩:=W.Has.takeL (S:=tlS) h (show 2<=3 by decide) p hf;refine⟨Y7 h1 λj _=>rfl,λq hq=>?_⟩;have h3:=h2 q hq;match q,hq with
 |0,_=>exact h3
 |1,_=>exact h3
end
namespace K
namespace Q
namespace Y
attribute [local irreducible] WC WL WD YO LO Qq W.Fin Qk Qh Qj Row QZ Qv KnS Has W.One Qo QX
def lives_c:FnB prog 14 [] [] [isX prog] (IsV (.bool true)):=by
 refine fO [] 94 Tryz.func14 Tryz.ntmps14 λh0=>?_;refine gPr ?_;refine cW (UJ 1 1 qd qd) λm10=>?_;refine gPr ?_;refine cW (Zn.rof 1 1 qd qd) λn11=>?_;refine gPr ?_;refine cW (Zn.rof 2 1 qd qd) λn12=>?_;refine gPr ?_;refine cW (Zn.rof 10 1 qd qd) λn13=>?_;refine gPr ?_;intro v;revert v;intro bl;rw[cells_B1 (bm:=⟨m10,n11,n12,n13⟩) (b:=Fx.exB)];refine WL.QA (S:=QQ) (v:=bl) (n:=1) (ms:=λ_=>⟨m10,n11,n12,n13⟩) (xs:=UO) wq3 (F5 (S:=QQ) (m:=⟨m10,n11,n12,n13⟩) (x:=Fx.exB) (W.Has.bof (bm:=⟨m10,n11,n12,n13⟩) (b:=Fx.exB) hmA hmA hmA hmA)) ?_;refine gPr ?_;refine cK (U4 0 1 qd qd) ?_;rintro v16 _ _ ⟨t0,rfl,rfl⟩;refine gPs ?_;refine cK (U4 3 4 qd qd) ?_;rintro v17 _ _ ⟨t1,rfl,rfl⟩;refine gPs ?_;refine cK (U4 1 3 qd qd) ?_;rintro v18 _ _ ⟨t2,rfl,rfl⟩;refine sNn ?_;refine WL.l rfl rfl (LO.bsP3 (t0:=t0) (t1:=t1) (t2:=t2) (xs:=pl Fx.exP) rfl rfl rfl (KnS.lf (S:=Qu) (v:=v16) hmA) (KnS.lf (S:=Qu) (v:=v17) hmA) (KnS.lf (S:=Qu) (v:=v18) hmA) λpv=>?_);refine WL.QA (S:=tlS) (v:=pv) (n:=3) (ms:=pm3 (v16,t0) (v17,t1) (v18,t2)) (xs:=pl Fx.exP) wq3 (has_ex hmA hmA hmA) ?_;generalize hpm:pm3 (v16,t0) (v17,t1) (v18,t2)=pm;refine WL.QD (lF tlS (resl pv 0 2 1) 2 pm (pl Fx.Kh)) (has_ex2 hmA) ?_;refine WL.QD (lF Qu nz 0 t0 (tl [])) W.Has.lnil ?_;refine gPr ?_;refine cK (ZK bl nz pv 1 (λ_=>⟨m10,n11,n12,n13⟩) UO [] Fx.exP t0 pm 2 1 qd qd qd ex_P.1 qd qd qd qd (ex_hS Fx.FN.1)) ?_;rintro _ _ _ ⟨rfl,fv,fm,fx,⟨i,sv,cv,cm,xs,hfi,rfl,rfl,hfx,hpt⟩|⟨hno,rfl,rfl,hfx⟩⟩;case inr=>exact(Fx.Yh.none Fx.UP.1 hno).elim
 obtain rfl:i=3:=Fx.Yh.eq hfi Fx.UP.1;refine gPs ?_;intro g;revert g;intro g3;refine WL.y (YO.slice (a:=0) (b:=2) T.s33 rfl (KnS.lf (S:=tlS) (v:=pv) (n:=3) (ms:=pm) (xs:=pl Fx.exP) hmA) (Or.inl ⟨rfl,rfl⟩) (Or.inr ⟨_,rfl,rfl⟩) qd qd) qr qr ?_;refine cK (ZK bl nz (resl pv 0 2 1) 1 (λ_=>⟨m10,n11,n12,n13⟩) UO [] Fx.Kh t0 pm 2 1 qd qd qd ex_P.2 qd qd qd qd (ex_hS Fx.FN.2)) ?_;rintro _ _ _ ⟨rfl,fv2,fm2,fx2,⟨i,sv2,cv2,cm2,xs2,hfi2,rfl,rfl,hfx2,hpt2⟩|⟨hno2,rfl,rfl,hfx2⟩⟩;case inr=>exact(Fx.Yh.none Fx.UP.2.1 hno2).elim
 obtain rfl:i=3:=Fx.Yh.eq hfi2 Fx.UP.2.1;refine gPs ?_;intro g;revert g;intro g5;refine WL.y (YO.slice (a:=0) (b:=2) T.s33 rfl (KnS.lf (S:=tlS) (v:=pv) (n:=3) (ms:=pm) (xs:=pl Fx.exP) hmA) (Or.inl ⟨rfl,rfl⟩) (Or.inr ⟨_,rfl,rfl⟩) qd qd) qr qr ?_;refine cK (ZK bl nz (resl pv 0 2 1) 1 (λ_=>⟨m10,n11,n12,n13⟩) UO [] Fx.Kh t0 pm 1 1 qd qd qd ex_P.2 qd qd qd qd (ex_hS Fx.FN.2)) ?_;rintro _ _ _ ⟨rfl,fv3,fm3,fx3,⟨i,sv3,cv3,cm3,xs3,hfi3,rfl,rfl,hfx3,hpt3⟩|⟨hno3,rfl,rfl,hfx3⟩⟩;case inl=>exact(Fx.Yh.none hfi3 Fx.UP.2.2).elim
 refine gPs ?_;intro g;revert g;intro g7;refine cK (sets_c 3 2 ⟨by decide,by decide⟩ ⟨by decide,by decide⟩) ?_;rintro v9 _ _ ⟨sm,rfl,rfl⟩;refine sNn ?_;refine WL.QA (S:=Qp) (v:=v9) (n:=(Fx.Jm 3 2).length) (ms:=sm) (xs:=sl (Fx.Jm 3 2)) wq3 hmA ?_;have e1:sl (Fx.Qa [] Fx.exP 2) 3=[2]:=by rw[Fx.Zk.1];rfl
 have e2:sl (Fx.Qa [] Fx.Kh 2) 3=[0,1]:=by rw[Fx.Zk.2.1];rfl
 have e3:(Fx.Qa [] Fx.Kh 1).length=3:=by rw[Fx.Zk.2.2.1];rfl
 have e4:(Fx.Jm 3 2).length=7:=by rw[Fx.Zk.2.2.2];rfl
 have e5:sl (Fx.Jm 3 2) 6=[1,2]:=by rw[Fx.Zk.2.2.2];rfl
 have c1:=λv=>YV sv v (sl (Fx.Qa [] Fx.exP 2) 3) [2];rw[aq e1] at c1;have c2:=λv=>YV sv2 v (sl (Fx.Qa [] Fx.Kh 2) 3) [0,1];rw[aq e2] at c2;have c3:=λv=>YV (sm 6) v (sl (Fx.Jm 3 2) 6) [1,2];rw[aq e5] at c3;refine gPr ?_;intro v;refine cV (c1 _) ?_;refine gPr ?_;intro v;refine cV (c2 _) ?_;refine gPr ?_;refine cV (check_c bl nz pv 1 (λ_=>⟨m10,n11,n12,n13⟩) UO [] Fx.exP t0 pm 2 1 qd qd qd ex_P.1 qd qd qd qd (ex_hS Fx.FN.1) ex_hY sv cv fv fm fx 3 cm xs Fx.UP.1.1 hfx hpt) ?_;refine gPr ?_;intro v;rw[show Int.toNat 6=6 from rfl];refine WL.QD (sI (sm 6) (sl (Fx.Jm 3 2) 6)) (W.Has.lk (S:=Qp) (v:=v9) (ms:=sm) (xs:=sl (Fx.Jm 3 2)) hmA qo) ?_;refine cV (c3 _) ?_;refine gPr ?_;exact wq4
end Y
end Q
end K
def case_ok2(l deal:nd){P:List (List Tc)}(hP:∀p∈P,p∈Fx.Xm l deal){s:nd}(hl:(Fx.Ql (Fx.Yr l deal) P s).length<=10) :
  (scP (Fx.Xr l) (Bl.Q7 l).B (Fx.Yr l deal) P s).ok/\Ss 1 (scP (Fx.Xr l) (Bl.Q7 l).B (Fx.Yr l deal) P s):=by
 obtain⟨h1,h2⟩:=Fx.case_all l deal;have h3:=Fx.Vm h1 (λp hp=>h2 p (hP p hp)) s;have hn:=Bl.H4 l;have hN:Fx.Xr l=min 2 (Bl.Q7 l).n:=rfl;refine⟨Fx.scL_ok qo hl (λi hi=>(Bl.some_ok l).B i qo) λx hx=>(h3 x hx).1,Fs.ss (D:=120) (A:=4800) (Fx.scL_fs (λi hi=>?_) λx hx=>(h3 x hx).2) qd qd qd⟩;have hb:=(Bl.DF l).B i qo;obtain⟨b1,b2,b3,b4⟩:=hb;have up:∀{q:Rat},Fr 60 2400 q->Fr 120 4800 q:=λh=>h.sc' (c:=2) rfl qd;exact⟨⟨up b1.1,up b1.2⟩,up b2,up b3,up b4⟩
def FY(l deal:nd):(Fx.Yr l deal).length<=10/\(Fx.Xm l deal).length<=3/\1<=(Fx.Xm l deal).length/\(∀p∈Fx.Xm l deal,p.length<=100)/\∀p∈Fx.Xm l deal,p.length<=10:=by
 have hm:=(Bl.H4 l).2.2;obtain⟨h1,h2⟩:=FH (n:=Fx.Xr l) (K:=Fx.X0 deal) (T:=(Bl.Q7 l).T) (deal:=deal) (Bl.Q7 l).m;have hk:=Fx.G7 deal;have hl:=Fx.caseP_len l deal
 have h10:∀p∈Fx.Xm l deal,p.length<=10:=by
  intro p hp;obtain⟨q,hq,rfl⟩:=List.mem_iff_getElem.1 hp;have h3:=h2 q;have h4:pl (Fx.Xm l deal) q=(Fx.Xm l deal)[q]:=by rw[pl,List.getD_eq_getElem?_getD,List.getElem?_eq_getElem hq];rfl
  have h5:(pl (Fx.Xm l deal) q).length<=2*(Bl.Q7 l).m:=h3;rw[<-h4];omega
 have h1':(Fx.Yr l deal).length<=(Bl.Q7 l).m:=h1;exact⟨by omega,by omega,by omega,λp hp=>aL (h10 p hp) qd,h10⟩
end
end Go.Proofs.YtbnobghgnbockaaGreat
