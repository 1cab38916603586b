/- Lemmas for a law. Conditions: none. -/
import Derived.Test.YtcpaopfdiahnnaaGreatMv36
set_option linter.all false
set_option maxHeartbeats 32000000
set_option maxRecDepth 100000
namespace Go.Proofs.YtcpaopfdiahnnaaGreat
section
open W Go.RowKit
open Bl (Vc Bd Tc Sc)
def fsx (a:Nat->Nat->Rat) (y:Nat->Rat) (i j k:Nat):Rat:=X.sm (if k < j then i+1 else i) λr=>y r*a r k
def fsx_up {a:Nat->Nat->Rat} {y:Nat->Rat} {i j:Nat} (k:Nat):upd (fsx a y i j) j (fsx a y i j j+y i*a i j) k=fsx a y i (j+1) k:=by
 by_cases c:k=j
 ·subst c;rw[QE];unfold fsx;rw[if_neg qo,if_pos qo];rfl
 ·rw[upd_ne c];unfold fsx;by_cases d:k < j
  ·rw[if_pos d,if_pos qo]
  ·rw[if_neg d,if_neg qo]
def fsx_next {a:Nat->Nat->Rat} {y:Nat->Rat} {i v k:Nat} (hk:k < v):fsx a y i v k=fsx a y (i+1) 0 k:=by
 unfold fsx;rw[if_pos hk,if_neg qo]
def sum_sz {y f:Nat->Rat} {Ky Ka m i:Nat} (hy:∀ r,r < m->Sq Ky (y r)) (hf:∀ r,r < m->Sq Ka (f r)) (hi:i<=m):Sq (m*(Ky+Ka+1)+1) (X.sm i λr=>y r*f r):=
 (X.Zx (m:=i) λr hr=>(hy r qo).mul (hf r qo)).up (by have:=Nat.mul_le_mul_right (Ky+Ka+1) hi;omega)
namespace K
namespace Q
attribute [local irreducible] WC WL WD YO LO Qq W.Fin Qw Qy Qx Row QX Qv KnS Has W.One Ql QQ
def d32 {G G':Prop} (h:G') (s:Bx G'->G:=by
 intro h;first|refine gF ?_|(apply WC.draw (id:=15) [0,1,2,3,4,5,6,7,10] (.h 0<|.h 1<|.h 2<|.h 3<|.h 4<|.h 5<|.h 6<|.h 7<|.l 8<|.l 9<|.h 10<|.l 11 .done) mixed kr)|(apply WC.draw (id:=17) [0,1,2,3,4,5,6,7] (.h 0<|.h 1<|.h 2<|.h 3<|.h 4<|.h 5<|.h 6<|.h 7<|.l 8<|.l 9<|.l 10 .done) mixed kr)|fail
 exact Bx.h h):G:=s ⟨h⟩
def falls_c (M:SM) (S:Sc) (c Ly:Nat) (yv:Value) (my:Nat->QM) (y:Nat->Rat) (K Ky:Nat) (hc:c < 2 ^ S.n) (h0K:0 < K) (hK:K<=3) (hs:Ss K S) (ho:S.ok) (hL:Ly<=1000) (hy:∀ k,k < Ly->Sq Ky (y k)) (hKy:(6*S.n+6*S.m+S.n)*(Ky+22)+Ky+30<=400000000) :
  FnB Tryz.prog 32 [M.l,M.t,.agg #[.int .i64 (c:Int),yv]] [] [fSl M S,fSt M S,fF yv Ly my y] (IsEr (Ly=(Bl.lp S (S.wt c)).m∧X.Vq (Bl.lp S (S.wt c)) y)):=by
 have hn:=ho.n;have hm:=ho.m;have hz:=lp_szs h0K hK hs ho (wt_sz hs c);have hpb:=Kg M S c hc K h0K qo hs ho;obtain⟨p,hp⟩:∃ p,Bl.lp S (S.wt c)=p:=⟨_,rfl⟩
 have hpv:p.v=4*S.m:=by rw[<-hp];rfl
 have hpm:p.m=6*S.n+6*S.m+S.n:=by rw[<-hp];rfl
 unfold IsProb at hpb;rw[hp,<-hpv] at hpb;rw[hp] at hz ⊢;have h32:2 ^ S.n<=2 ^ 5:=Nat.pow_le_pow_right qd hn;obtain⟨N2,hN2⟩:∃ N2,2 ^ S.n=N2:=⟨_,rfl⟩
 refine fO [(0,M.l),(1,M.t),(2,(.agg #[.int .i64 (c:Int),yv]))] 111 Tryz.func32 Tryz.ntmps32 λh0=>?_;repeat'(first|intro(g:Nat)|refine d32 ?_|intro v)
 revert g;intro g5;refine cW (hpb) λMp=>?_;refine WL.QP (fF Mp.gv p.v Mp.mg p.g) (W.Has.pg (M:=Mp) (m:=p.m) (gn:=p.v) (ln:=λ_=>p.v) (a:=p.a) (b:=p.b) hmA) ?_;repeat'(first|intro(g:Nat)|refine d32 ?_|intro v)
 revert g;intro g7;refine WL.keep (g:=g5) (t:=50) (cs:=[.int .i64 (c:Int),yv]) (by repeat(first|exact Rem.head|apply Rem.tail)) ?_;refine WL.keep (g:=g7) (t:=36) (cs:=pcs Mp p.v) (by repeat(first|exact Rem.head|apply Rem.tail)) ?_;by_cases hl:Ly=p.m
 ·subst hl;repeat'(first|intro(g:Nat)|refine d32 ?_|intro v)
  revert g;intro g10;revert v;intro sv;refine WC.Yu (σ:=(Nat->QM)×QM) (λst=>[(9,sv),(10,ptr g10)]) (λst=>[Ow.cells g10 64 (qcs st.2),Ow.slice sv 64 4 (Qe p.v st.1)]) (λst=>[mF p.v st.1 (fsx p.a y p.m 0),isQ (qv st.2) (X.sm p.m λr=>y r*p.b r),ge h0]) (λ_=>∀ r,r < p.m->0<=y r) ?_ ?_
  ·refine WC.lp (σ:=Nat×(Nat->QM)×QM) (λst=>[(50,.int .i64 (st.1:Int)),(49,.int .i64 (p.m:Int)),(48,yv),(9,sv),(10,ptr g10),(5,ptr g5),(7,ptr g7)]) (λst=>[Ow.cells g10 64 (qcs st.2.2),Ow.slice sv 64 4 (Qe p.v st.2.1)]) (λst=>[mF p.v st.2.1 (fsx p.a y st.1 0),isQ (qv st.2.2) (X.sm st.1 λr=>y r*p.b r),ge h0,ce g5 50 [.int .i64 (c:Int),yv],ce g7 36 (pcs Mp p.v),fP Mp p,fF yv p.m my y]) (λst=>st.1<=p.m∧∀ r,r < st.1->0<=y r) (λst=>p.m - st.1) (0,λ_=>m00,m00) ⟨Nat.zero_le _,λr h=>absurd h qo⟩ ?_ (hG:=.cons ((W.Has.mF0 p.v).QV λk _=>rfl) (.cons Ja haA));rintro⟨i,ms,mr⟩ ⟨hi,hok⟩;simp only at hi hok ⊢;by_cases d:i < p.m
   ·refine WC.fact (fF (Mp.av i) p.v (Mp.ma i) (p.a i)) (W.Has.pa (M:=Mp) (m:=p.m) (gn:=p.v) (ln:=λ_=>p.v) (a:=p.a) (b:=p.b) (g:=p.g) hmA d) ?_;refine WC.fact (isQ (qv (Mp.mb i)) (p.b i)) (W.Has.pbq (M:=Mp) (m:=p.m) (gn:=p.v) (ln:=λ_=>p.v) (a:=p.a) (b:=p.b) (g:=p.g) hmA d) ?_;refine WC.fact (isQ (qv (my i)) (y i)) (W.Has.q (W.Has.fm (v:=yv) (n:=p.m) (ms:=my) (qf:=y) hmA) d) ?_;have hyi:=hy i d;have hKy2:p.m*(Ky+22)+Ky+30<=400000000:=by rw[hpm];exact hKy
    have hKy3:Ky+22<=400000000:=qo;repeat'(first|intro(g:Nat)|refine d32 ?_|intro v)
    revert g;intro g12;refine cV (Xx (my i) (y i) (hyi.sm qo)) ?_;repeat'(first|intro(g:Nat)|refine d32 ?_|intro v)
    refine cV (Zn.sign (my i) (y i)) ?_;have hsg:=@Xe (y i);by_cases hneg:y i < 0
    ·have hs1:=hsg.2 hneg;repeat'(first|intro(g:Nat)|refine d32 ?_|intro v)
     refine WC.ret ?_;exact Fp [] (Qu.t1 rfl rfl) .nil ⟨22,rfl,.inr rfl,⟨λh=>absurd h qd,λh=>absurd (h.2.1 i d) (by grind)⟩,rfl,rfl⟩
    ·have hs1:¬sgn (y i).num < 0:=λh=>hneg (hsg.1 h);repeat'(first|intro(g:Nat)|refine d32 ?_|intro v)
     refine WC.Yu (σ:=Nat->QM) (λms=>[(11,.int .i64 (i:Int)),(12,ptr g12),(50,.int .i64 (i:Int)),(49,.int .i64 (p.m:Int)),(48,yv),(9,sv),(10,ptr g10),(5,ptr g5),(7,ptr g7)]) (λms=>[Ow.cells g12 64 (qcs (my i)),Ow.cells g10 64 (qcs mr),Ow.slice sv 64 4 (Qe p.v ms)]) (λms=>[mF p.v ms (fsx p.a y (i+1) 0),isQ (qv mr) (X.sm i λr=>y r*p.b r),isQ (qv (Mp.mb i)) (p.b i),isQ (qv (my i)) (y i),ge h0,ce g5 50 [.int .i64 (c:Int),yv],ce g7 36 (pcs Mp p.v),fP Mp p,fF yv p.m my y]) (λ_=>True) ?_ ?_
     ·refine WC.lp (σ:=Nat×(Nat->QM)) (λst=>[(70,.int .i64 (st.1:Int)),(69,.int .i64 (p.v:Int)),(68,Mp.av i),(11,.int .i64 (i:Int)),(12,ptr g12),(50,.int .i64 (i:Int)),(49,.int .i64 (p.m:Int)),(48,yv),(9,sv),(10,ptr g10),(5,ptr g5),(7,ptr g7)]) (λst=>[Ow.cells g12 64 (qcs (my i)),Ow.cells g10 64 (qcs mr),Ow.slice sv 64 4 (Qe p.v st.2)]) (λst=>[mF p.v st.2 (fsx p.a y i st.1),fF (Mp.av i) p.v (Mp.ma i) (p.a i),isQ (qv mr) (X.sm i λr=>y r*p.b r),isQ (qv (Mp.mb i)) (p.b i),isQ (qv (my i)) (y i),ge h0,ce g5 50 [.int .i64 (c:Int),yv],ce g7 36 (pcs Mp p.v),fP Mp p,fF yv p.m my y]) (λst=>st.1<=p.v) (λst=>p.v - st.1) (0,ms) (Nat.zero_le _) ?_;rintro⟨j,ms⟩ hj;simp only at hj ⊢;by_cases dj:j < p.v
      ·refine WC.fact (isQ (qv (Mp.ma i j)) (p.a i j)) (W.Has.q (W.Has.fm (v:=Mp.av i) (n:=p.v) (ms:=Mp.ma i) (qf:=p.a i) hmA) dj) ?_;refine WC.fact (isQ (qv (ms j)) (fsx p.a y i j j)) (W.Has.q (n:=p.v) (ms:=ms) (qf:=fsx p.a y i j) hmA dj) ?_;have haj:=hz.a i d j dj;have hsz:Sq (p.m*(Ky+22)+1) (fsx p.a y i j j):=by unfold fsx;rw[if_neg qo];exact sum_sz hy (λr hr=>hz.a r hr j dj) hi
       repeat'(first|intro(g:Nat)|refine d32 ?_|intro v)
       all_goals
        refine cW (Zn.mul (my i) (Mp.ma i j) (y i) (p.a i j) (hyi.sm qo) (haj.sm qo)) λn1=>?_;repeat'(first|intro(g:Nat)|refine d32 ?_|intro v)
       all_goals
        refine cW (Zn.add (ms j) n1 (fsx p.a y i j j) (y i*p.a i j) (hsz.sm qo) ((hyi.mul haj).sm qo)) λn2=>?_;repeat'(first|intro(g:Nat)|refine d32 ?_|intro v)
        exact Qq.mk (j+1,upd ms j n2) (by simp only;omega) (by simp only;omega) (hG:=.cons ((W.Has.JP (n:=p.v) (k:=j) (ms:=ms) (m:=n2) (qf:=fsx p.a y i j) hmA hmA).QV λk _=>fsx_up k) haA)
      ·obtain rfl:j=p.v:=qo;repeat'(first|intro(g:Nat)|refine d32 ?_|intro v)
       exact QY ms trivial (hG:=.cons (W.Has.QV (n:=p.v) (ms:=ms) (qf:=fsx p.a y i p.v) hmA λk hk=>fsx_next hk) haA)
     ·intro ms _;have hsz:Sq (p.m*(Ky+22)+1) (X.sm i λr=>y r*p.b r):=sum_sz hy (λr hr=>hz.b r hr) hi;repeat'(first|intro(g:Nat)|refine d32 ?_|intro v)
      all_goals
       refine cW (Zn.mul (my i) (Mp.mb i) (y i) (p.b i) (hyi.sm qo) ((hz.b i d).sm qo)) λn1=>?_;repeat'(first|intro(g:Nat)|refine d32 ?_|intro v)
      all_goals
       refine cW (Zn.add mr n1 (X.sm i λr=>y r*p.b r) (y i*p.b i) (hsz.sm qo) ((hyi.mul (hz.b i d)).sm qo)) λn2=>?_;repeat'(first|intro(g:Nat)|refine d32 ?_|intro v)
       exact Qq.mk (i+1,ms,n2) ⟨by simp only;omega,λr hr=>by
        by_cases e:r=i
        ·subst e;grind
        ·exact hok r (by simp only at hr;omega)⟩ (by simp only;omega) (hG:=.cons hmA (.cons (show W.Has _ (isQ (qv n2) ((X.sm i λr=>y r*p.b r)+y i*p.b i)) from hmA) haA))
   ·obtain rfl:i=p.m:=qo;repeat'(first|intro(g:Nat)|refine d32 ?_|intro v)
    exact QY (ms,mr) hok
  ·rintro⟨ms,mr⟩ hok;repeat'(first|intro(g:Nat)|refine d32 ?_|intro v)
   refine WC.Yu (σ:=Unit) (λ_=>[(10,ptr g10)]) (λ_=>[Ow.cells g10 64 (qcs mr),Ow.slice sv 64 4 (Qe p.v ms)]) (λ_=>[isQ (qv mr) (X.sm p.m λr=>y r*p.b r),ge h0]) (λ_=>∀ k,k < p.v->(X.sm p.m λr=>y r*p.a r k)=0) ?_ ?_
   ·refine WC.lp (σ:=Nat) (λk=>[(100,.int .i64 (k:Int)),(99,.int .i64 (p.v:Int)),(98,sv),(10,ptr g10)]) (λ_=>[Ow.cells g10 64 (qcs mr),Ow.slice sv 64 4 (Qe p.v ms)]) (λ_=>[isQ (qv mr) (X.sm p.m λr=>y r*p.b r),ge h0,mF p.v ms (fsx p.a y p.m 0)]) (λk=>k<=p.v∧∀ j,j < k->(X.sm p.m λr=>y r*p.a r j)=0) (λk=>p.v - k) 0 ⟨Nat.zero_le _,λj h=>absurd h qo⟩ ?_;rintro k ⟨hk,hz0⟩;by_cases d:k < p.v
    ·have hq:fsx p.a y p.m 0 k=X.sm p.m λr=>y r*p.a r k:=by unfold fsx;rw[if_neg qo]
     refine WC.fact (isQ (qv (ms k)) (X.sm p.m λr=>y r*p.a r k)) (by rw[<-hq];exact W.Has.q (n:=p.v) (ms:=ms) (qf:=fsx p.a y p.m 0) hmA d) ?_;repeat'(first|intro(g:Nat)|refine d32 ?_|intro v)
     refine cV (Zn.sign (ms k) (X.sm p.m λr=>y r*p.a r k)) ?_;have hsg:=@J0 (X.sm p.m λr=>y r*p.a r k);by_cases h0':(X.sm p.m λr=>y r*p.a r k)=0
     ·have hs1:=hsg.2 h0';repeat'(first|intro(g:Nat)|refine d32 ?_|intro v)
      refine Qq.mk (k+1) ⟨by omega,λj hj=>?_⟩ qo;by_cases e:j=k
      ·subst e;exact h0'
      ·exact hz0 j qo
     ·have hs1:¬sgn (X.sm p.m λr=>y r*p.a r k).num=0:=λh=>h0' (hsg.1 h);repeat'(first|intro(g:Nat)|refine d32 ?_|intro v)
      refine WC.ret ?_;exact Fp [] (Qu.t1 rfl rfl) .nil ⟨22,rfl,.inr rfl,⟨λh=>absurd h qd,λh=>absurd (h.2.2.1 k d) h0'⟩,rfl,rfl⟩
    ·obtain rfl:k=p.v:=qo;repeat'(first|intro(g:Nat)|refine d32 ?_|intro v)
     exact QY () hz0
   ·rintro⟨⟩ hz0;repeat'(first|intro(g:Nat)|refine d32 ?_|intro v)
    refine cV (Zn.sign mr (X.sm p.m λr=>y r*p.b r)) ?_;have hsg:=@Xe (X.sm p.m λr=>y r*p.b r);by_cases hn0:(X.sm p.m λr=>y r*p.b r) < 0
    ·have hs1:=hsg.2 hn0;repeat'(first|intro(g:Nat)|refine d32 ?_|intro v)
     refine WC.ret ?_;exact Fp [] (Qu.t1 rfl rfl) .nil ⟨0,rfl,.inl rfl,⟨λ_=>⟨rfl,hok,hz0,hn0⟩,λ_=>rfl⟩,rfl,rfl⟩
    ·have hs1:¬sgn (X.sm p.m λr=>y r*p.b r).num < 0:=λh=>hn0 (hsg.1 h);repeat'(first|intro(g:Nat)|refine d32 ?_|intro v)
     refine WC.ret ?_;exact Fp [] (Qu.t1 rfl rfl) .nil ⟨22,rfl,.inr rfl,⟨λh=>absurd h qd,λh=>absurd h.2.2.2 hn0⟩,rfl,rfl⟩
 ·repeat'(first|intro(g:Nat)|refine d32 ?_|intro v)
  refine WC.ret ?_;exact Fp [] (Qu.t1 rfl rfl) .nil ⟨22,rfl,.inr rfl,⟨λh=>absurd h qd,λh=>absurd h.1 hl⟩,rfl,rfl⟩
end Q
end K
end
section
open W Go.RowKit
open Bl (Vc Bd Tc Sc)
def VA {M α:Type} {S:Shp M α} {ms:Nat->M} {xs:Nat->α}:S.cs (ms 0) (xs 0)++S.cs (ms 1) (xs 1)=QG S 2 ms xs:=by
 rw[<-JH (n:=1),<-JH (n:=0)];rw[show QG S 0 ms xs=[] from by unfold QG XN;simp,List.nil_append]
def V9 {M α:Type} {S:Shp M α} {F:List Fct} {ms:Nat->M} {xs:Nat->α} (h0:W.Has F (S.fc (ms 0) (xs 0))) (h1:W.Has F (S.fc (ms 1) (xs 1))):W.Has F (lM S 2 ms xs):=λp hf i hi=>by
 match i,hi with
 |0,_=>exact h0 p hf
 |1,_=>exact h1 p hf
section
variable {e:Env} {bx:List Ow} {F:List Fct} {ty:TypeId} {x y:Operand} {K:Qd} {a b:VM} {v w:Value} {n m:Nat}
def LO.bsP2 (hx:ev e x=some (vv a)) (hy:ev e y=some (vv b)) (h:∀ v,K v (Ow.slice v 83 8 (vcs a++vcs b)::bx) F):LO Tryz.prog (.buildSlice 59 2 #[(0,x),(1,y)]) ty e bx F K:=
 LO.buildSlice (el:=83) (sz:=8) (parts:=[(0,x),(1,y)]) (us:=[vv a,vv b]) (cs:=vcs a++vcs b) (.cons hx (.cons hy .nil)) (λ_=>by kernel_rfl) rfl qd h
def LO.bsPP2 (hx:ev e x=some v) (hy:ev e y=some w) (hv:KnS bx F v n) (hw:KnS bx F w m) (h:∀ u,K u (Ow.slice u 59 1 [v,w]::bx) F):LO Tryz.prog (.buildSlice 46 2 #[(0,x),(1,y)]) ty e bx F K:=by
 refine LO.byP (p:=(∃ a c,v=.slice a n c)∧∃ a c,w=.slice a m c) (λfr w' ho=>?_) ?_
 ·obtain⟨a1,c1,h1,_⟩:=(hv fr w' ho).is;obtain⟨a2,c2,h2,_⟩:=(hw fr w' ho).is;exact⟨⟨a1,c1,h1⟩,⟨a2,c2,h2⟩⟩
 rintro⟨⟨a',c,rfl⟩,⟨a2',c2,rfl⟩⟩;exact LO.buildSlice (el:=59) (sz:=1) (parts:=[(0,x),(1,y)]) (us:=[.slice a' n c,.slice a2' m c2]) (cs:=[.slice a' n c,.slice a2' m c2]) (.cons hx (.cons hy .nil)) (λ_=>by kernel_rfl) rfl qd h
def y_cert1 (hx:ev e x=some v) (hv:KnS bx F v n):YO Tryz.prog (.build 48 #[(0,x)]) ty e bx F (.agg #[v]):=λk fr a w0 o h1 h2 h3 h4=>by
 obtain⟨a',c,rfl,_⟩:=(hv fr w0 h4).is;exact YO.build (parts:=[(0,x)]) (us:=[.slice a' n c]) (.cons hx .nil) (λ_=>by kernel_rfl) k fr a w0 o h1 h2 h3 h4
end
def owM (v1 v2:Value) (m1 m2:QM) (i:Nat):Value×(Nat->VM):=if i=0 then(v1,λ_=>(m1,m00)) else(v2,λ_=>(m2,m00))
def owX (c:Nat) (_:Nat):Vc:=⟨if c=0 then Rat.divInt 1 2 else 1,0⟩
def ow_bal:∀ c,c < 2 ^ (Bl.exS 1 10).n->BalX (Bl.exS 1 10) ((Bl.exS 1 10).wt c) (owX c):=λc hc=>by
 have hc:c < 2:=hc;have h:=λ(q:Rat) h0 hq=>Bl.ex_own (q:=q) h0 hq;match c,hc with
 |0,_=>
  refine(h (Rat.divInt 1 2) (by decide +kernel) (by decide +kernel)).congr (λk _=>⟨rfl,rfl⟩) λi hi=>?_;have hi:i < 1:=hi;obtain rfl:i=0:=qo;rw[Bl.Yn.1];decide +kernel
 |1,_=>
  refine(h 1 qd (by decide +kernel)).congr (λk _=>⟨rfl,rfl⟩) λi hi=>?_;have hi:i < 1:=hi;obtain rfl:i=0:=qo;rw[Bl.Yn.2];decide +kernel
def ow_sz:∀ c,c < 2 ^ (Bl.exS 1 10).n->∀ k,k < 2*(Bl.exS 1 10).m->Sv 1 (owX c k):=λc _ k _=>by
 refine⟨?_,Sq.zero⟩;show Sq 1 (if c=0 then _ else _);split
 ·exact(Fr.of (D:=2) (A:=1) qd qd).sq qd qd qd
 ·exact X.Km
namespace K
namespace Q
attribute [local irreducible] WC WL WD YO LO Qq W.Fin Qw Qy Qx Row QX Qv KnS Has W.One Ql QQ
def d22 {G G':Prop} (h:G') (s:Bx G'->G:=by
 intro h;first|refine gF ?_|refine gY ?_|(apply WC.draw (id:=6) [0,1,2,3,5,7,8,9,10,12,14,15] (.h 0<|.h 1<|.h 2<|.h 3<|.h 5<|.l 4<|.l 6<|.h 7<|.h 8<|.h 9<|.h 10<|.h 12<|.l 11<|.l 13<|.h 14<|.h 15 .done) mixed kr)|(apply WC.draw (id:=16) [0,1,2,3,4,5,6,7,8,9,10,11,12,13,14,16,18,19,20,21,23,25,26,27,28,31,32,33,34,36,37,38,39,42,43,44] (.h 0<|.h 1<|.h 2<|.h 3<|.h 4<|.h 5<|.h 6<|.h 7<|.h 8<|.h 9<|.h 10<|.h 11<|.h 12<|.h 13<|.h 14<|.h 16<|.l 15<|.l 17<|.h 18<|.h 19<|.h 20<|.h 21<|.h 23<|.l 22<|.l 24<|.h 25<|.h 26<|.h 27<|.h 28<|.l 29<|.l 30<|.h 31<|.h 32<|.h 33<|.h 34<|.h 36<|.h 37<|.h 38<|.h 39<|.l 35<|.l 40<|.l 41<|.h 42<|.h 43<|.h 44 .done) mixed kr)|fail
 exact Bx.h h):G:=s ⟨h⟩
def lives_c:FnB Tryz.prog 22 [] [] [isX Tryz.prog] (IsV (.bool true)):=by
 refine fO [] 146 Tryz.func22 Tryz.ntmps22 λh0=>?_;have o1:(Bl.exS 1 10).ok:=Bl.exS_ok qd;have s1:Ss 1 (Bl.exS 1 10):=Bl.exS_ss qd ((Fr.int (A:=10) 10 qd).sq qd qd qd);have o2:(Bl.exS 1 1).ok:=Bl.exS_ok qd;have s2:Ss 1 (Bl.exS 1 1):=Bl.exS_ss qd X.Km;have o3:(Bl.exS 3 10).ok:=Bl.exS_ok qd;have s3:Ss 1 (Bl.exS 3 10):=Bl.exS_ss qd ((Fr.int (A:=10) 10 qd).sq qd qd qd);repeat'(first|intro(g:Nat)|refine d22 ?_|intro v)
 refine cW (Yb 1 1 qd qd) λm18=>?_;repeat'(first|intro(g:Nat)|refine d22 ?_|intro v)
 refine cW (VB m18 ⟨((1:Int):Rat),((1:Int):Rat)⟩) λmb=>?_;repeat'(first|intro(g:Nat)|refine d22 ?_|intro v)
 revert v;intro bl;rw[ZQ (bm:=mb) (b:=⟨⟨((1:Int):Rat),((1:Int):Rat)⟩,1,2,10⟩)];refine WL.QA (S:=Qt) (v:=bl) (n:=1) (ms:=λ_=>mb) (xs:=λ_=>⟨⟨((1:Int):Rat),((1:Int):Rat)⟩,1,2,10⟩) (by repeat(first|exact Sel.head|apply Sel.tail)) (ZG (S:=Qt) (m:=mb) (x:=⟨⟨((1:Int):Rat),((1:Int):Rat)⟩,1,2,10⟩) hmA) ?_;refine cK (XU) ?_;rintro fv _ _ ⟨tm,rfl,rfl⟩;refine sNn ?_;repeat'(first|intro(g:Nat)|refine d22 ?_|intro v)
 refine cK (Yh ⟨bl,fv,λ_=>mb,λ_=>tm⟩ (Bl.exS 1 10) 1 qd qd s1 o1) ?_;rintro _ _ _ ⟨rfl,⟨cv,ms,xs,rfl,rfl,hpt⟩|⟨c,yv,my,y,rfl,rfl,hc,hinf,hy,hprev⟩⟩
 case inr=>
  exfalso;have hc:c < 2:=hc;have:c=0∨c=1:=qo;rcases this with rfl|rfl
  ·obtain⟨x,hx⟩:=Bl.ex_sat (st:=10) (c:=0) (by rw[Bl.Yn.1];decide) (by rw[Bl.Yn.1];decide);exact X.Zf hinf hx
  ·obtain⟨x,hx⟩:=Bl.ex_sat (st:=10) (c:=1) (by rw[Bl.Yn.2];decide) (by rw[Bl.Yn.2];decide);exact X.Zf hinf hx
 refine sNn ?_;repeat'(first|intro(g:Nat)|refine d22 ?_|intro v)
 refine cW (Zn.rof 1 1 qd qd) λn28=>?_;rw[show Rat.divInt 1 1=1 by decide +kernel];refine WL.y (y_push0 (m:=n28) rfl) qr qr ?_;refine WL.QP (fV (n28,m00) ⟨1,0⟩) (has_p0 hmA) ?_;repeat'(first|intro(g:Nat)|refine d22 ?_|intro v)
 refine cW (Zn.rof 1 2 qd qd) λn30=>?_;refine WL.y (y_push0 (m:=n30) rfl) qr qr ?_;refine WL.QP (fV (n30,m00) ⟨Rat.divInt 1 2,0⟩) (has_p0 hmA) ?_;repeat'(first|intro(g:Nat)|refine d22 ?_|intro v)
 refine WL.l rfl rfl (LO.bsP2 (a:=(n30,m00)) (b:=(n30,m00)) rfl rfl λv34=>?_);rw[show vcs (n30,m00)++vcs (n30,m00)=QG Jf 2 (λ_=>(n30,m00)) (owX 0) from VA (S:=Jf) (ms:=λ_=>(n30,m00)) (xs:=owX 0)];refine WL.QA (S:=Jf) (v:=v34) (n:=2) (ms:=λ_=>(n30,m00)) (xs:=owX 0) (by repeat(first|exact Sel.head|apply Sel.tail)) (V9 (S:=Jf) (ms:=λ_=>(n30,m00)) (xs:=owX 0) hmA hmA) ?_;repeat'(first|intro(g:Nat)|refine d22 ?_|intro v)
 refine WL.l rfl rfl (LO.bsP2 (a:=(n28,m00)) (b:=(n28,m00)) rfl rfl λv37=>?_);rw[show vcs (n28,m00)++vcs (n28,m00)=QG Jf 2 (λ_=>(n28,m00)) (owX 1) from VA (S:=Jf) (ms:=λ_=>(n28,m00)) (xs:=owX 1)];refine WL.QA (S:=Jf) (v:=v37) (n:=2) (ms:=λ_=>(n28,m00)) (xs:=owX 1) (by repeat(first|exact Sel.head|apply Sel.tail)) (V9 (S:=Jf) (ms:=λ_=>(n28,m00)) (xs:=owX 1) hmA hmA) ?_;refine WL.l rfl rfl (LO.bsPP2 rfl rfl (KnS.lf (S:=Jf) (n:=2) (ms:=λ_=>(n30,m00)) (xs:=owX 0) hmA) (KnS.lf (S:=Jf) (n:=2) (ms:=λ_=>(n28,m00)) (xs:=owX 1) hmA) λv38=>?_);rw[show[v34,v37]=QG plS 2 (owM v34 v37 n30 n28) (λc=>(2,owX c)) from VA (S:=plS) (ms:=owM v34 v37 n30 n28) (xs:=λc=>(2,owX c))];refine WL.QA (S:=plS) (v:=v38) (n:=2) (ms:=owM v34 v37 n30 n28) (xs:=λc=>(2,owX c)) (by repeat(first|exact Sel.head|apply Sel.tail)) (V9 (S:=plS) (ms:=owM v34 v37 n30 n28) (xs:=λc=>(2,owX c)) hmA hmA) ?_;refine WL.y (y_cert1 rfl (KnS.lf (S:=plS) (n:=2) (ms:=owM v34 v37 n30 n28) (xs:=λc=>(2,owX c)) hmA)) qr qr ?_;repeat'(first|intro(g:Nat)|refine d22 ?_|intro v)
 refine cK (XU) ?_;rintro fv2 _ _ ⟨tm2,rfl,rfl⟩;refine sNn ?_;repeat'(first|intro(g:Nat)|refine d22 ?_|intro v)
 refine cK (holds_c ⟨bl,fv2,λ_=>mb,λ_=>tm2⟩ (Bl.exS 1 10) cv (2 ^ (Bl.exS 1 10).n) ms (λc=>(psh (2*(Bl.exS 1 10).m) (xs c)).2) 1 RA qd qd qd qd s1 o1 (λc hc k hk=>⟨(hpt c hc).2 (2*k) qo,(hpt c hc).2 (2*k+1) qo⟩)) ?_;rintro _ _ _ ⟨z,rfl,hz1,hz2,rfl,rfl⟩;obtain rfl:z=0:=hz2.2 ⟨rfl,λc hc=>Bl.Kd.1 (hpt c hc).1⟩;refine sNn ?_;repeat'(first|intro(g:Nat)|refine d22 ?_|intro v)
 refine cK (XU) ?_;rintro fv3 _ _ ⟨tm3,rfl,rfl⟩;refine sNn ?_;repeat'(first|intro(g:Nat)|refine d22 ?_|intro v)
 refine cK (holds_c ⟨bl,fv3,λ_=>mb,λ_=>tm3⟩ (Bl.exS 1 10) v38 (2 ^ (Bl.exS 1 10).n) (owM v34 v37 n30 n28) owX 1 1 qd qd qd qd s1 o1 ow_sz) ?_;rintro _ _ _ ⟨z,rfl,hz3,hz4,rfl,rfl⟩;obtain rfl:z=0:=hz4.2 ⟨rfl,ow_bal⟩;refine sNn ?_;repeat'(first|intro(g:Nat)|refine d22 ?_|intro v)
 refine cW (Yb 1 1 qd qd) λm56=>?_;repeat'(first|intro(g:Nat)|refine d22 ?_|intro v)
 refine cW (VB m56 ⟨((1:Int):Rat),((1:Int):Rat)⟩) λmw=>?_;repeat'(first|intro(g:Nat)|refine d22 ?_|intro v)
 revert v;intro bw;refine cW (Zn.rof 1 1 qd qd) λn60=>?_;rw[show Rat.divInt 1 1=1 by decide +kernel];refine WL.y (YO.ix (k:=0) T.s23 rfl rfl (KnS.o1B (bm:=mw) (by exact meA)) qd) qr qr ?_;refine WL.y (YO.Kh T.f88_3 rfl) qr qr ?_;refine WL.l0 rfl (LO.HJ (vs:=qcs n60) (j:=0*20+16) (cs:=bcs mw) (cs':=bcs ⟨mw.c,mw.lo,mw.hi,n60⟩) rfl rfl T.r64 (YX hmA) (by repeat(first|exact Sel.head|apply Sel.tail)) (by show 20<=20;decide) (by show 0 < 4;decide) rfl ?_);refine WL.QP (fB ⟨mw.c,mw.lo,mw.hi,n60⟩ ⟨⟨((1:Int):Rat),((1:Int):Rat)⟩,1,2,1⟩) (W.Has.bof (bm:=⟨mw.c,mw.lo,mw.hi,n60⟩) (b:=⟨⟨((1:Int):Rat),((1:Int):Rat)⟩,1,2,1⟩) (W.Has.bc (bm:=mw) (b:=⟨⟨((1:Int):Rat),((1:Int):Rat)⟩,1,2,10⟩) hmA) (W.Has.bl (bm:=mw) (b:=⟨⟨((1:Int):Rat),((1:Int):Rat)⟩,1,2,10⟩) hmA) (W.Has.bh (bm:=mw) (b:=⟨⟨((1:Int):Rat),((1:Int):Rat)⟩,1,2,10⟩) hmA) hmA) ?_;rw[ZQ (bm:=⟨mw.c,mw.lo,mw.hi,n60⟩) (b:=⟨⟨((1:Int):Rat),((1:Int):Rat)⟩,1,2,1⟩)];refine WL.QA (S:=Qt) (v:=bw) (n:=1) (ms:=λ_=>⟨mw.c,mw.lo,mw.hi,n60⟩) (xs:=λ_=>⟨⟨((1:Int):Rat),((1:Int):Rat)⟩,1,2,1⟩) (by repeat(first|exact Sel.head|apply Sel.tail)) (ZG (S:=Qt) (m:=⟨mw.c,mw.lo,mw.hi,n60⟩) (x:=⟨⟨((1:Int):Rat),((1:Int):Rat)⟩,1,2,1⟩) hmA) ?_;repeat'(first|intro(g:Nat)|refine d22 ?_|intro v)
 refine cK (XU) ?_;rintro fv4 _ _ ⟨tm4,rfl,rfl⟩;refine sNn ?_;repeat'(first|intro(g:Nat)|refine d22 ?_|intro v)
 refine cK (Yh ⟨bw,fv4,λ_=>⟨mw.c,mw.lo,mw.hi,n60⟩,λ_=>tm4⟩ (Bl.exS 1 1) 1 qd qd s2 o2) ?_;rintro _ _ _ ⟨rfl,⟨cv2,ms2,xs2,rfl,rfl,hpt2⟩|⟨c,yv,my,y,rfl,rfl,hc,hinf,hy,hprev⟩⟩;case inl=>exact absurd ⟨_,(hpt2 1 qd).1⟩ (Bl.ex_no (x:=1) (st:=1) (c:=1) (by rw[Bl.Yn.2];decide))
 obtain rfl:c=1:=by
  have hc:c < 2:=hc;have:c=0∨c=1:=qo;rcases this with rfl|rfl
  ·obtain⟨x,hx⟩:=Bl.ex_sat (st:=1) (c:=0) (by rw[Bl.Yn.1];decide) (by rw[Bl.Yn.1];decide);exact absurd hx (X.Zf hinf)
  ·rfl
 refine sNn ?_;repeat'(first|intro(g:Nat)|refine d22 ?_|intro v)
 refine cW (Yb 3 1 qd qd) λm70=>?_;repeat'(first|intro(g:Nat)|refine d22 ?_|intro v)
 refine cW (VB m70 ⟨((3:Int):Rat),((1:Int):Rat)⟩) λmo=>?_;repeat'(first|intro(g:Nat)|refine d22 ?_|intro v)
 revert v;intro bo;rw[ZQ (bm:=mo) (b:=⟨⟨((3:Int):Rat),((1:Int):Rat)⟩,1,2,10⟩)];refine WL.QA (S:=Qt) (v:=bo) (n:=1) (ms:=λ_=>mo) (xs:=λ_=>⟨⟨((3:Int):Rat),((1:Int):Rat)⟩,1,2,10⟩) (by repeat(first|exact Sel.head|apply Sel.tail)) (ZG (S:=Qt) (m:=mo) (x:=⟨⟨((3:Int):Rat),((1:Int):Rat)⟩,1,2,10⟩) hmA) ?_;refine cK (XU) ?_;rintro fv5 _ _ ⟨tm5,rfl,rfl⟩;refine sNn ?_;repeat'(first|intro(g:Nat)|refine d22 ?_|intro v)
 refine cK (Yh ⟨bo,fv5,λ_=>mo,λ_=>tm5⟩ (Bl.exS 3 10) 1 qd qd s3 o3) ?_;rintro _ _ _ ⟨rfl,⟨cv3,ms3,xs3,rfl,rfl,hpt3⟩|⟨c,yv3,my3,y3,rfl,rfl,hc3,hinf3,hy3,hprev3⟩⟩;case inl=>exact absurd ⟨_,(hpt3 0 qd).1⟩ (Bl.ex_off (st:=10) (c:=0) (by decide +kernel))
 obtain rfl:c=0:=by
  have hc:c < 2:=hc3;have:c=0∨c=1:=qo;rcases this with rfl|rfl
  ·rfl
  ·exact absurd (hprev3 0 qd) (Bl.ex_off (st:=10) (c:=0) (by decide +kernel))
 refine sNn ?_;repeat'(first|intro(g:Nat)|refine d22 ?_|intro v)
 refine cK (XU) ?_;rintro fv6 _ _ ⟨tm6,rfl,rfl⟩;refine sNn ?_;repeat'(first|intro(g:Nat)|refine d22 ?_|intro v)
 refine cW (Kg ⟨bl,fv6,λ_=>mb,λ_=>tm6⟩ (Bl.exS 1 10) 1 qd 1 qd qd s1 o1) λMp=>?_;have hp13:(Bl.lp (Bl.exS 1 10) ((Bl.exS 1 10).wt 1)).m=13:=rfl;generalize hpp:Bl.lp (Bl.exS 1 10) ((Bl.exS 1 10).wt 1)=p at *;have hp4:p.v=4:=by rw[<-hpp];rfl
 rw[show((4*(Bl.exS 1 10).m:Nat):Int)=((p.v:Nat):Int) from by rw[hp4];rfl];refine WL.QP (fF Mp.gv p.v Mp.mg p.g) (W.Has.pg (M:=Mp) (m:=p.m) (gn:=p.v) (ln:=λ_=>p.v) (a:=p.a) (b:=p.b) hmA) ?_;repeat'(first|intro(g:Nat)|refine d22 ?_|intro v)
 refine cK (XU) ?_;rintro fv7 _ _ ⟨tm7,rfl,rfl⟩;refine sNn ?_;repeat'(first|intro(g:Nat)|refine d22 ?_|intro v)
 refine cK (falls_c ⟨bw,fv7,λ_=>⟨mw.c,mw.lo,mw.hi,n60⟩,λ_=>tm7⟩ (Bl.exS 1 1) 1 (Bl.lp (Bl.exS 1 1) ((Bl.exS 1 1).wt 1)).m yv my y 1 (yB (Bl.exS 1 1)) qd qd qd s2 o2 qd hy qd) ?_;rintro _ _ _ ⟨z,rfl,hz5,hz6,rfl,rfl⟩;obtain rfl:z=0:=hz6.2 ⟨rfl,hinf⟩;refine sNn ?_;repeat'(first|intro(g:Nat)|refine d22 ?_|intro v)
 refine cK (XU) ?_;rintro fv8 _ _ ⟨tm8,rfl,rfl⟩;refine sNn ?_;repeat'(first|intro(g:Nat)|refine d22 ?_|intro v)
 refine cK (falls_c ⟨bo,fv8,λ_=>mo,λ_=>tm8⟩ (Bl.exS 3 10) 0 (Bl.lp (Bl.exS 3 10) ((Bl.exS 3 10).wt 0)).m yv3 my3 y3 1 (yB (Bl.exS 3 10)) qd qd qd s3 o3 qd hy3 qd) ?_;rintro _ _ _ ⟨z,rfl,hz7,hz8,rfl,rfl⟩;obtain rfl:z=0:=hz8.2 ⟨rfl,hinf3⟩;refine sNn ?_;repeat'(first|intro(g:Nat)|refine d22 ?_|intro v)
 refine cK (KZ ⟨bl,fv,λ_=>mb,λ_=>tm⟩ (Bl.exS 1 10) 1 qd qd) ?_;rintro wv _ _ ⟨mwv,rfl,rfl⟩;refine sNn ?_;have hn1:(Bl.exS 1 10).n=1:=rfl;repeat'(first|intro(g:Nat)|refine d22 ?_|intro v)
 refine WD.y rfl (YO.ldPl1 (n:=2) (i:=1) (ms:=owM v34 v37 n30 n28) (xs:=λc=>(2,owX c)) rfl hmA qd) qr qr ?_;rw[show(owM v34 v37 n30 n28 1).1=v37 from rfl];repeat'(first|intro(g:Nat)|refine d22 ?_|intro v)
 refine cK (XU) ?_;rintro fv9 _ _ ⟨tm9,rfl,rfl⟩;refine sNn ?_;repeat'(first|intro(g:Nat)|refine d22 ?_|intro v)
 refine cK (stress_c ⟨bl,fv9,λ_=>mb,λ_=>tm9⟩ (Bl.exS 1 10) v37 (λ_=>(n28,m00)) (owX 1) 1 1 qd qd qd s1 o1 (ow_sz 1 qd)) ?_;rintro sv _ _ ⟨msv,rfl,rfl⟩;refine sNn ?_;repeat'(first|intro(g:Nat)|refine d22 ?_|intro v)
 refine WC.ret ?_;exact Fin.v (Qu.t1 rfl rfl) meA rfl
end Q
end K
end
section
open W Go.RowKit
open Bl (Vc Bd Tc Sc)
def share_fr {a b:Int} (ha:1<=a∧a<=6) (hb:1<=b∧b<=3):Fr 6 36 (Rat.divInt a b)∧0 < Rat.divInt a b:=by
 refine⟨?_,Bl.divpos qo qo⟩;have:b=1∨b=2∨b=3:=qo;rcases this with rfl|rfl|rfl
 ·exact(Fr.of (D:=1) (A:=6) qd qo).sc' (c:=6) rfl qd
 ·exact(Fr.of (D:=2) (A:=6) qd qo).sc' (c:=3) rfl qd
 ·exact(Fr.of (D:=3) (A:=6) qd qo).sc' (c:=2) rfl qd
def tdiv6 {n:Int} (h:I64 n):I64 (n.tdiv 6):=by
 have h1:=Int.natAbs_tdiv n 6;have h2:(6:Int).natAbs=6:=rfl;rw[h2] at h1;have h3:(n.tdiv 6).natAbs=n.natAbs / 6:=h1;unfold I64 at *;omega
def YO.tquo6 {P:Program} {e:Env} {bx:List Ow} {F:List Fct} {ty t t':TypeId} {x y:Operand} {n:Int} (hx:ev e x=some (.int .i64 n)) (hy:ev e y=some (.int .i64 6)) (h:I64 n):YO P (.binOp .quo t x y t') ty e bx F (.int .i64 (n.tdiv 6)):=by
 have h2:=tdiv6 h;have h1:=YO.tquo (P:=P) (bx:=bx) (F:=F) (ty:=ty) (t:=t) (t':=t') hx hy qd
 rwa [wrap_i64 h2.1 h2.2] at h1
namespace K
namespace Q
attribute [local irreducible] WC WL WD YO LO Qq W.Fin Qw Qy Qx Row QX Qv KnS Has W.One Ql QQ
def d6 {G G':Prop} (h:G') (s:Bx G'->G:=by
 intro h;first|refine gE ?_|(apply WC.draw (id:=2) [0,1,2,4,5,7,9,11,12,13,15] (.h 0<|.h 1<|.h 2<|.h 5<|.h 9<|.h 12<|.h 13<|.m 3 (.h 4<|.m 6 (.h 7<|.m 8 (.m 10 (.h 11<|.m 14 (.h 15<|.m 16 (.m 17 (.l 18<|.l 19 .done) (.l 18<|.l 17<|.l 19 .done)) (.l 18<|.l 16<|.l 17<|.l 19 .done)) (.l 18<|.l 14<|.h 15<|.l 16<|.l 17<|.l 19 .done)) (.l 18<|.l 10<|.h 11<|.l 14<|.h 15<|.l 16<|.l 17<|.l 19 .done)) (.l 18<|.l 8<|.l 10<|.h 11<|.l 14<|.h 15<|.l 16<|.l 17<|.l 19 .done)) (.l 18<|.l 6<|.h 7<|.l 8<|.l 10<|.h 11<|.l 14<|.h 15<|.l 16<|.l 17<|.l 19 .done)) (.l 18<|.l 3<|.h 4<|.l 6<|.h 7<|.l 8<|.l 10<|.h 11<|.l 14<|.h 15<|.l 16<|.l 17<|.l 19 .done)) mixed kr)|fail
 exact Bx.h h):G:=s ⟨h⟩
def movedLaw_c (lv:Value) (l:List Int) (n2 n3 n4:Int) (b:Bool) (hl:∀ x∈l,I64 x) (h2:I64 n2) (h3:I64 n3) (h4:I64 n4):FnB Tryz.prog 6 [lv,.bool b,.int .i64 n2,.int .i64 n3,.int .i64 n4] [] [isX Tryz.prog,sI lv l] (IsV (.bool true)):=by
 refine fO [(0,lv),(1,(.bool b)),(2,(.int .i64 n2)),(3,(.int .i64 n3)),(4,(.int .i64 n4))] 70 Tryz.func6 Tryz.ntmps6 λh0=>?_;have hok:=Bl.some_ok l;have hfs:=Bl.some_fs l;have hss:=Fs.ss hfs qd qd qd;generalize hS:Bl.UA l=S at *;have a2:=@Yy n2 9 qd;have a3:=@Yy n3 9 qd;have a4:=@Yy n4 6 qd;have h4':I64 (n4.tdiv 6):=tdiv6 h4;have a5:=@Yy (n4.tdiv 6) 3 qd;have c24:=YK n2 9 h2 qd;have c27:=YK n3 9 h3 qd;have c31:=YK n4 6 h4 qd;have c35:=YK (n4.tdiv 6) 3 h4' qd;generalize Yx n2 9=x2 at *;generalize Yx n3 9=x3 at *;generalize Yx n4 6=x4 at *;generalize Yx (n4.tdiv 6) 3=x5 at *;obtain⟨kf,k0⟩:=share_fr (a:=1+x4) (b:=1+x5) qo qo;have bf:Fv 1 4 ⟨((x2 - 4:Int):Rat),((x3 - 4:Int):Rat)⟩:=⟨Fr.int _ qo,Fr.int _ qo⟩
 have hsb:(if b=true then(-1:Rat) else 1)=1∨(if b=true then(-1:Rat) else 1)= -1:=by cases b;exact .inl rfl;exact .inr rfl
 have hsq:(if b=true then(-1:Rat) else 1)*(if b=true then(-1:Rat) else 1)=1:=by rcases hsb with h|h <;> rw[h] <;> decide +kernel
 have c29:=Yb (x2 - 4) (x3 - 4) (Yk qo qo) (Yk qo qo);have c37:=Zn.rof (1+x4) (1+x5) (Yk qo qo) (Yk qo qo);have c38:=λM mb mk=>mirrored_c M S b mb mk ⟨((x2 - 4:Int):Rat),((x3 - 4:Int):Rat)⟩ (Rat.divInt (1+x4) (1+x5)) hss hok (bf.sv qd qd qd) (kf.sq qd qd qd);have ok2:=Bl.mv_ok (b:=⟨((x2 - 4:Int):Rat),((x3 - 4:Int):Rat)⟩) k0 hsq hok;have ss2:=Fs.ss (Bl.mv_fs (c:=0) hsb kf bf qd hfs) qd qd qd;have sat2:=λc=>Bl.mv_sat (S:=S) (b:=⟨((x2 - 4:Int):Rat),((x3 - 4:Int):Rat)⟩) k0 hsq c;have n2':(Bl.mvS (if b=true then -1 else 1) (Rat.divInt (1+x4) (1+x5)) ⟨((x2 - 4:Int):Rat),((x3 - 4:Int):Rat)⟩ S).n=S.n:=rfl;generalize Bl.mvS (if b=true then -1 else 1) (Rat.divInt (1+x4) (1+x5)) ⟨((x2 - 4:Int):Rat),((x3 - 4:Int):Rat)⟩ S=S2 at *;repeat'(first|intro(g:Nat)|refine d6 ?_|refine gN ?_ ?_|intro v)
 refine cK (some_c lv l hl) ?_;rw[hS];rintro _ _ _ ⟨M,rfl,rfl,rfl⟩;refine sNn ?_;repeat'(first|intro(g:Nat)|refine gP ?_|intro v)
 revert g;intro g11;refine WC.Zh (σ:=Nat×SM) (λst=>[(12,ptr st.1),(11,ptr g11)]) (λst=>[Ow.cells st.1 26 [st.2.l,st.2.t],Ow.cells g11 26 [M.l,M.t]]) (λst=>[fSl st.2 S2,fSt st.2 S2,fSl M S,fSt M S,ge h0,isX Tryz.prog]) (λ_=>True) ?_ ?_
 ·repeat'(first|intro(g:Nat)|refine d6 ?_|refine gN ?_ ?_|intro v)
  refine WD.y rfl (YO.tquo6 rfl rfl h4) qr qr ?_;repeat'(first|intro(g:Nat)|refine d6 ?_|refine gN ?_ ?_|refine cU (c24) ?_|refine cU (c27) ?_|refine cW (c29) λzm=>?_|refine cU (c31) ?_|refine cU (c35) ?_|refine cW (c37) λzm=>?_|refine cW (c38 M _ _) λzm=>?_|intro v)
  all_goals(apply Ex2;refine⟨trivial,?_,?_,?_⟩;(focus(repeat(first|exact Sub.nil _|refine Sub.cons rfl ?_)));(focus(repeat(first|exact Jt.nil _|(apply Jt.cons;(repeat(first|exact Rem.head|apply Rem.tail))))));(focus(repeat(first|exact Qk.nil|(apply Qk.cons;exact hsA)))))
 rintro⟨g12,M2⟩ _;simp only;have pow2:2 ^ S2.n=2 ^ S.n:=by rw[n2']
 repeat'(first|intro(g:Nat)|refine d6 ?_|refine gN ?_ ?_|intro v)
 refine cK (Yh M S 1 qd qd hss hok) ?_;rintro _ _ _ ⟨rfl,⟨cv,ms,xs,rfl,rfl,hpt⟩|⟨c,yv,my,y,rfl,rfl,hc,hinf,hy,hprev⟩⟩
 ·refine sNn ?_;repeat'(first|intro(g:Nat)|refine d6 ?_|refine gN ?_ ?_|intro v)
  refine cK (Yh M2 S2 1 qd qd ss2 ok2) ?_;rintro _ _ _ ⟨rfl,⟨cv2,ms2,xs2,rfl,rfl,hpt2⟩|⟨c2,yv2,my2,y2,rfl,rfl,hc2,hinf2,hy2,hprev2⟩⟩
  case inr=>
   obtain⟨x,hx⟩:=(sat2 c2).2 ⟨_,(hpt c2 qo).1⟩;exact absurd hx (X.Zf hinf2)
  refine sNn ?_;repeat'(first|intro(g:Nat)|refine d6 ?_|refine gN ?_ ?_|intro v)
  refine cV (lives_c) ?_;repeat'(first|intro(g:Nat)|refine d6 ?_|refine gN ?_ ?_|intro v)
  refine WC.ret ?_;exact Fin.v (Qu.t1 rfl rfl) meA rfl
 ·refine sNn ?_;repeat'(first|intro(g:Nat)|refine d6 ?_|refine gN ?_ ?_|intro v)
  refine cK (Yh M2 S2 1 qd qd ss2 ok2) ?_;rintro _ _ _ ⟨rfl,⟨cv2,ms2,xs2,rfl,rfl,hpt2⟩|⟨c2,yv2,my2,y2,rfl,rfl,hc2,hinf2,hy2,hprev2⟩⟩
  case inl=>
   obtain⟨x,hx⟩:=(sat2 c).1 ⟨_,(hpt2 c qo).1⟩;exact absurd hx (X.Zf hinf)
  obtain rfl:c=c2:=by
   rcases Nat.lt_trichotomy c c2 with h|h|h
   ·obtain⟨x,hx⟩:=(sat2 c).1 (hprev2 c h);exact absurd hx (X.Zf hinf)
   ·exact h
   ·obtain⟨x,hx⟩:=(sat2 c2).2 (hprev c2 h);exact absurd hx (X.Zf hinf2)
  refine sNn ?_;repeat'(first|intro(g:Nat)|refine d6 ?_|refine gN ?_ ?_|intro v)
  refine cV (lives_c) ?_;repeat'(first|intro(g:Nat)|refine d6 ?_|refine gN ?_ ?_|intro v)
  refine WC.ret ?_;exact Fin.v (Qu.t1 rfl rfl) meA rfl
end Q
end K
end
section
open Go.RowKit
open Go.Conc hiding base G
open Go.Conc (base enter_at)
open Go.Conc (G)
namespace W
section
variable {P:Program} {sh own:Bk} {w:World} {a:Act}
def stepG_top {main:Bool} {fn:Func} {b:Frame} {todo:List Item} {v:Value} (hn:b.kind=.normal) (hd:a.defers=[]) (hf:P.funcs[b.fn]?=some fn) (hi:P.inits.idxOf? b.fn=none) (hr:(results fn a.tmps).run P w=.ok v w) :
  stepG P true (G {b.atR a todo with mode:=.returning} []) w=.ended (.done v) w (seen P b.fn ((results fn a.tmps).events P w #[])):=by
 simp[G,stepG,unwind,doReturn,Frame.atR,hn,hd,hf,hr,hi,GStep.after]
def Vm {main:Md} {fn:Func} {f:FuncId} (hm:main.b=true) (hf:P.funcs[f]?=some fn) (hi:P.inits.idxOf? f=none) {tmps:Array Value} {todo:List Item} {v:Value} {Post:Value->World->Prop} :
  ∀ (Ds:List Nat) (w:World),Ds.Nodup->(∀ D∈Ds,own D∧w.heap[D]?=some (.deferred (some [])))->
   (∀ w1,Unm own sh Ds w w1->(results fn tmps).run P w1=.ok v w1∧(∀ ev∈(results fn tmps).events P w1 #[],XW own sh ev)∧Post v w1)->
   Run P main sh (VU P sh Post) own (G {(base f).atR ⟨tmps,Ds.map mkD⟩ todo with mode:=.returning} []) w
 |[],w,_,_,h=>by
  refine Run.stop λw2 h2=>?_;obtain⟨h3,h4,h5⟩:=h w2 ⟨h2.rest,h2.size,λk k1 k2 _=>h2.keep k k1 k2⟩;exact⟨rfl,v,_,stepG_top (main:=true) (b:=base f) rfl rfl hf hi h3,λe he=>h4 e (Jp he),h5⟩
 |D::Ds,w,hn,hD,h=>by
  refine Run.go rfl λw2 h2=>?_;obtain⟨hn1,hn2⟩:=List.nodup_cons.1 hn;obtain⟨d1,d2⟩:=hD D (List.mem_cons_self ..);have hlt:∀ D'∈D::Ds,D' < w.heap.size:=λD' h'=>(Array.getElem?_eq_some_iff.1 (hD D' h').2).1;have hsame:∀ D'∈D::Ds,w2.heap[D']?=some (.deferred (some [])):=λD' h'=>by rw[h2.keep D' (hlt D' h') (.inl (hD D' h').1)];exact(hD D' h').2
  refine⟨_,_,_,UD (hsame D (List.mem_cons_self ..)),⟨⟨rfl,rfl,rfl⟩,by simp,λk _ hk=>World.putObj_heap_other (λe=>hk (e ▸ d1)),λe he=>?_⟩,?_⟩
  ·have he:=Jp he;have hh:=hsame D (List.mem_cons_self ..);rw[XK hh] at he;simp at he;rcases he with rfl|rfl <;> exact .inr (.inr ⟨D,rfl,.inl d1⟩)
  ·rw[Qo (by simp)];refine Vm hm hf hi (v:=v) Ds _ hn2 (λD' h'=>⟨(hD D' (List.mem_cons_of_mem _ h')).1,?_⟩) λw1 h1=>?_
   ·rw[World.putObj_heap_other (λe=>by subst e;exact hn1 h')];exact hsame D' (List.mem_cons_of_mem _ h')
   ·refine h w1 ⟨h2.rest.trans (Rest.trans (b:=w2.putObj D (.deferred none)) ⟨rfl,rfl,rfl⟩ h1.rest),Nat.le_trans h2.size (by simpa using h1.size),λk k1 k2 k3=>?_⟩;have k4:k∉Ds:=λhx=>k3 (List.mem_cons_of_mem _ hx);rw[h1.keep k (by simpa using Nat.lt_of_lt_of_le k1 h2.size) k2 k4,World.putObj_heap_other (λe=>k3 (by rw[<-e];exact List.mem_cons_self ..)),h2.keep k k1 k2]
def calls_top {main:Md} (hm:main.b=true) {f:FuncId} (hi:P.inits.idxOf? f=none) {args:Array Value} {K:Bk->Value->World->Prop} {Post:Value->World->Prop} (h:YZ P main sh f args own w K) (hK:∀ own' v w',K own' v w'->Post v w') :
  Run P main sh (VU P sh Post) own (G (Frame.enter P f args .normal) []) w:=by
 obtain⟨fn,cd,hf,hname,hb,hwp⟩:=h;rw[enter_at _ hf hb,<-Frame.atR_of_none (b:=base f) rfl]
 have hleave:∀ (own':Bk) (a':Act) (w':World) (todo:List Item),bodyR P sh fn K own' .ret a' w'->Run P main sh (VU P sh Post) own' (G {(base f).atR a' todo with mode:=.returning} []) w':=by
  rintro own' ⟨tmps,ds⟩ w' todo ⟨Ds,hd,q1,q2,v,q3⟩;simp only at hd;subst hd;exact Vm hm hf hi Ds w' q1 q2 λw1 h1=>⟨(q3 w1 h1).1,(q3 w1 h1).2.1,hK _ _ _ (q3 w1 h1).2.2⟩
 refine hwp (base f) [] [] _ rfl (by simp[base]) λown' e a' w' q=>?_;cases e with
 |normal=>exact Run.quiet rfl (λ_=>sg_end rfl) (hleave own' a' w' [] q)
 |ret=>exact⟨λ_ todo=>hleave own' a' w' todo q,λh=>absurd rfl h⟩
 |exit id=>exact q.elim
 |goto l=>exact q.elim
 |panic ch=>exact q.elim
 |outgrown=>exact q.elim
end
def Ext (V1 V2:World):Prop:=∀ (k:Nat) (o:Obj),V1.heap[k]?=some o->V2.heap[k]?=some o
def law_leaves {P:Program} {f:FuncId} {args:List Value} {F:List Fct} {v0:Value} {V1:World} (hi:P.inits.idxOf? f=none) (hf:FnB P f args [] (isX P::F) (IsV v0)) (hF:∀ g∈F,g.p ⟨Xo P,λk=>V1.heap[k]?⟩) :
  ∃ M last o w' t',runNT P (M+1) (solo (G (Frame.enter P f args.toArray .normal) []) V1) #[]=(.ended o w',t')∧runN P M (solo (G (Frame.enter P f args.toArray .normal) []) V1)=.next last∧step P last=.ended o w'∧
   Conc.Good P (λv V2=>v=v0∧Rest V1 V2∧Ext V1 V2) last o w' t':=by
 let fr:CF:=⟨Xo P,λ_=>False,λk=>k < V1.heap.size,λ_=>none,[]⟩
 have him:imm fr [] V1.heap=⟨Xo P,λk=>V1.heap[k]?⟩:=by
  unfold imm CF.see
  congr 1
  funext k
  simp[fr,ids];by_cases h:k < V1.heap.size
  ·simp[h,CF.vs,CF.no,Xo]
  ·simp[h,CF.vs,CF.no,Xo]
 have ho:OK fr [] (isX P::F) V1:=⟨⟨λ_ _ h=>(by cases h),λk hk=>hk.elim id False.elim,λk hk=>hk.elim⟩,by simp[ids],by simp[ids],by simp,λg hg=>by
  rw[him];rcases List.mem_cons.1 hg with rfl|hg
  ·rfl
  ·exact hF g hg⟩
 have hrun:=calls_top (main:=Xo P) rfl hi (Post:=λv V2=>v=v0∧Rest V1 V2∧Ext V1 V2) (hf.2 fr V1 ho) (by
  rintro own' v V2 ⟨h0,b,G,h1,h2,h3,h4⟩;obtain⟨h6,h7,h8⟩:=h1;subst h6 h7;refine⟨rfl,h2,λk o hk=>?_⟩;rw[him] at h3;exact Ju (h3.2 k o hk))
 have hlt:∀ k,(k < V1.heap.size∨False)->k < V1.heap.size:=λk h=>h.elim id False.elim
 have hct:Go.ConcN.CT (λ_=>False) (λ_ _=>False) (λ_ _=>False) (#[]:Trace) 0:=by
  have:=Go.ConcN.CT.lone (Sh:=λ_=>False) (Own:=λ_ _=>False) (Rd:=λ_ _=>False) (u:=(#[]:Trace)) (λop hop=>absurd hop (by simp)) (λop hop=>absurd hop (by simp));simpa using this
 have hp:=past_nil
 obtain⟨N,last,o,w',t',e1,e2,e3,e4⟩:=ZP (run_mainX (λ_ h=>h) hrun) (gs:=#[G (Frame.enter P f args.toArray .normal) []]) (sl:=none) (t:=#[]) (q:=λ_=>0) (Shun:=λ_=>False) rfl
  ⟨leavers_one P _,hct,by simp[Trace.HandedOver,Trace.g?],rfl,by simp,λl hl=>hl.elim,hlt⟩
 rw[solo_eq_crowd];exact⟨N,last,o,w',t',e1,e2,e3,e4⟩
end W
end
end Go.Proofs.YtcpaopfdiahnnaaGreat
