/- Lemmas. Conditions: none. -/
import Derived.Test.YtbnobghgnbockaaGreatQh3
set_option linter.all false
set_option maxHeartbeats 0
set_option maxRecDepth 100000
namespace Go.Proofs.YtbnobghgnbockaaGreat
open Go.Proofs.Tryz (prog)
section
open W Go.RowKit
open Bl (Vc Bd Tc Sc)
def clv(p:X.Lp)(v r:Nat):Rat:=if v<p.v then p.a r v else p.b r
namespace K
namespace Q
namespace R
namespace FO
attribute [local irreducible] WC WL WD YO LO Qq W.Fin Qk Qh Qj Row QZ Qv KnS Has W.One Qo QX
theorem d42{G G':Prop}(h:G')(s:Bx G'->G:=by
 intro h;first|refine gA ?_|refine goE ?_|refine goD ?_|refine goXD ?_|(apply WC.draw (id:=19) [0,1,2,3,4,5,6,7,8,9,10,11,12,13,14] (.h 0<|.h 1<|.h 2<|.h 3<|.h 4<|.h 5<|.h 6<|.h 7<|.h 8<|.h 9<|.h 10<|.h 11<|.h 12<|.h 13<|.h 14<|.l 15<|.l 16<|.l 17 .done) mixed kr)|(apply WC.draw (id:=20) [0,1,2,3,4,5,6,7,8,9,10,11] (.h 0<|.h 1<|.h 2<|.h 3<|.h 4<|.h 5<|.h 6<|.h 7<|.h 8<|.h 9<|.h 10<|.h 11<|.l 12<|.l 13<|.l 14 .done) mixed kr)|fail
 exact Bx.h h):G:=s ⟨h⟩
theorem goE{G G':Prop}(h:G')(s:Bx G'->G:=by
 intro h
 (first|(apply WL.QS;exact wq145;exact rfl;exact rfl)|(apply WL.Xs;exact wq155;exact rfl;exact rfl)|(apply WL.Q4;rotate_left;exact rfl;(first|(apply LO.J3;exact rfl;exact rfl;exact T.r98;exact seA;exact rfl;exact wq136)|fail))|(apply WD.QS;exact rfl;exact wq145;exact rfl;exact rfl)|(apply WD.Xs;exact rfl;exact wq155;exact rfl;exact rfl)|(apply WD.Q4;exact rfl;rotate_left;exact rfl;(first|(apply LO.J3;exact rfl;exact rfl;exact T.r98;exact seA;exact rfl;exact wq136)|fail);constructor;(first|exact wq1|(apply Or.inl;kernel_rfl)))|((first|(apply LO.J3;exact rfl;exact rfl;exact T.r98;exact seA;exact rfl;exact wq136)|fail);constructor;(first|exact wq1|(apply Or.inl;kernel_rfl)))|refine Go.Proofs.YtbnobghgnbockaaGreat.K.Q.R.goE ?_|fail)
 exact Bx.h h):G:=s ⟨h⟩
theorem QT{G G':Prop}(h:G')(s:Bx G'->G:=by
 intro h
 (first|(apply WL.JS;rotate_left;exact rfl;exact rfl;apply LO.J6;fail)|(apply WD.JS;exact rfl;rotate_left;exact rfl;exact rfl;apply LO.J6;fail;apply Qn;(intro _;(first|exact wq1|(apply Or.inl;kernel_rfl))))|(apply LO.J6;fail;apply Qn;(intro _;(first|exact wq1|(apply Or.inl;kernel_rfl))))|refine Go.Proofs.YtbnobghgnbockaaGreat.K.Q.QT ?_|fail)
 exact Bx.h h):G:=s ⟨h⟩
theorem HE(M:SM)(S:Sc)(c:Nat)(yv:nA)(mq:Nat->QM)(yq:nf)(K Ky:Nat)(hc:c<2^S.n)(h0K:0<K)(hK:K<=3)(hs:Ss K S)(ho:S.ok)(hyq:∀k,k<(Bl.lp S (S.wt c)).m->Sq Ky (yq k))(hKy:(6*S.n+6*S.m+S.n)*(Ky+22)+Ky+30<=400000000)(hinf:X.Vw (Bl.lp S (S.wt c)) yq) :
  FnB prog 42 [M.l,M.t,.agg #[.int .i64 (c:Int),yv]] [] [fSl M S,fSt M S,fF yv (Bl.lp S (S.wt c)).m mq yq] (IsV (.int .i64 0)):=by
 have hn:=ho.n;have hm:=ho.m;have hz:=lp_szs h0K hK hs ho (wt_sz hs c);have hpb:=rproblem_c M S c hc K h0K qo hs ho;obtain⟨p,hp⟩:∃p,Bl.lp S (S.wt c)=p:=⟨_,rfl⟩
 have hpv:p.v=4*S.m:=by rw[<-hp];rfl
 have hpm:p.m=6*S.n+6*S.m+S.n:=by rw[<-hp];rfl
 unfold FX at hpb;rw[hp,<-hpv] at hpb;rw[hp] at hz hinf hyq ⊢;obtain⟨hy0,hyv,hyb⟩:=hinf;have h32:2^S.n<=2^5:=aA qd hn;obtain⟨N2,hN2⟩:∃N2,2^S.n=N2:=⟨_,rfl⟩
 have hKy2:p.m*(Ky+22)+Ky+30<=400000000:=by rw[hpm];exact hKy
 refine fO [(0,M.l),(1,M.t),(2,(.agg #[.int .i64 (c:Int),yv]))] 130 Tryz.func42 Tryz.ntmps42 λh0=>?_;repeat'(first|intro(g:Nat)|refine d42 ?_|(refine QT ?_;intro g)|(refine Q9 ?_;intro g)|(refine Q0 ?_;intro v)|intro v)
 revert g;intro g5;refine cW (hpb) λMp=>?_;refine WL.QD (fF Mp.gv p.v Mp.mg p.g) (W.Has.pg (M:=Mp) (m:=p.m) (gn:=p.v) (ln:=λ_=>p.v) (a:=p.a) (b:=p.b) hmA) ?_;repeat'(first|intro(g:Nat)|refine d42 ?_|(refine QT ?_;intro g)|(refine Q9 ?_;intro g)|(refine Q0 ?_;intro v)|intro v)
 revert g;intro g7;refine WC.keep (g:=g5) (t:=98) (cs:=[.int .i64 (c:Int),yv]) wq11 ?_;refine WC.keep (g:=g7) (t:=118) (cs:=pcs Mp p.v) wq11 ?_;refine WC.JK (σ:=Unit) (λ_=>[(5,ptr g5),(7,ptr g7)]) (λ_=>[]) (λ_=>[fF yv p.m mq yq,ge h0,ce g5 98 [.int .i64 (c:Int),yv],ce g7 118 (pcs Mp p.v),fP Mp p]) (λ_=>True) ?_ ?_
 .refine WC.lp (σ:=Nat) (λi=>[(9,.int .i64 (i:Int)),(5,ptr g5),(7,ptr g7)]) (λ_=>[]) (λ_=>[fF yv p.m mq yq,ge h0,ce g5 98 [.int .i64 (c:Int),yv],ce g7 118 (pcs Mp p.v),fP Mp p]) (λi=>i<=p.m) (λi=>p.m-i) 0 (aj _) ?_;rintro i hi;by_cases d:i<p.m
  .refine WC.fact (isQ (qv (mq i)) (yq i)) (W.Has.q (W.Has.fm (v:=yv) (n:=p.m) (ms:=mq) (qf:=yq) hmA) d) ?_;have hyi:=hyq i d
   have hKy3:Ky+22<=400000000:=by
    have:=aO (show 1<=p.m by omega) (ai (Ky+22));omega
   have hsg:=@Xq (yq i);have hs1:¬sgn (yq i).num<0:=λh=>absurd (hsg.1 h) (by have:=hy0 i d;grind);repeat'(first|intro(g:Nat)|refine d42 ?_|(refine QT ?_;intro g)|(refine Q9 ?_;intro g)|(refine Q0 ?_;intro v)|intro v)
   refine cV (Xd (mq i) (yq i) (hyi.sm qo)) ?_;repeat'(first|intro(g:Nat)|refine d42 ?_|(refine QT ?_;intro g)|(refine Q9 ?_;intro g)|(refine Q0 ?_;intro v)|intro v)
   refine cV (Zn.Y5 (mq i) (yq i)) ?_;repeat'(first|intro(g:Nat)|refine d42 ?_|(refine QT ?_;intro g)|(refine Q9 ?_;intro g)|(refine Q0 ?_;intro v)|intro v)
   exact Qq.mk (i+1) qo qo
  .obtain rfl:i=p.m:=qo;repeat'(first|intro(g:Nat)|refine d42 ?_|(refine QT ?_;intro g)|(refine Q9 ?_;intro g)|(refine Q0 ?_;intro v)|intro v)
   exact Qr () trivial
 .rintro⟨⟩ _;repeat'(first|intro(g:Nat)|refine d42 ?_|(refine QT ?_;intro g)|(refine Q9 ?_;intro g)|(refine Q0 ?_;intro v)|intro v)
  refine WC.lp (σ:=Nat) (λv=>[(10,.int .i64 (v:Int)),(5,ptr g5),(7,ptr g7)]) (λ_=>[]) (λ_=>[fF yv p.m mq yq,ge h0,ce g5 98 [.int .i64 (c:Int),yv],ce g7 118 (pcs Mp p.v),fP Mp p]) (λv=>v<=p.v+1) (λv=>p.v+1-v) 0 (aj _) ?_;rintro v hv;by_cases dv:v<p.v+1
  .repeat'(first|intro(g:Nat)|refine d42 ?_|(refine QT ?_;intro g)|(refine Q9 ?_;intro g)|(refine Q0 ?_;intro v)|intro v)
   revert g;intro g11;refine WC.JK (σ:=QM) (λ_=>[(11,ptr g11),(10,.int .i64 (v:Int)),(5,ptr g5),(7,ptr g7)]) (λst=>[Ow.cells g11 75 (qcs st)]) (λst=>[isQ (qv st) (X.sm p.m λr=>yq r*clv p v r),fF yv p.m mq yq,ge h0,ce g5 98 [.int .i64 (c:Int),yv],ce g7 118 (pcs Mp p.v),fP Mp p]) (λ_=>True) ?_ ?_
   .refine WC.lp (σ:=Nat×QM) (λst=>[(12,.int .i64 (st.1:Int)),(11,ptr g11),(10,.int .i64 (v:Int)),(5,ptr g5),(7,ptr g7)]) (λst=>[Ow.cells g11 75 (qcs st.2)]) (λst=>[isQ (qv st.2) (X.sm st.1 λr=>yq r*clv p v r),fF yv p.m mq yq,ge h0,ce g5 98 [.int .i64 (c:Int),yv],ce g7 118 (pcs Mp p.v),fP Mp p]) (λst=>st.1<=p.m) (λst=>p.m-st.1) (0,m00) (aj _) ?_ (hG:=.cons Jr haA);rintro⟨i,mr⟩ hi;simp only at hi ⊢;by_cases d:i<p.m
    .refine WC.fact (fF (Mp.av i) p.v (Mp.ma i) (p.a i)) (W.Has.pa (M:=Mp) (m:=p.m) (gn:=p.v) (ln:=λ_=>p.v) (a:=p.a) (b:=p.b) (g:=p.g) hmA d) ?_;refine WC.fact (isQ (qv (Mp.mb i)) (p.b i)) (W.Has.pbq (M:=Mp) (m:=p.m) (gn:=p.v) (ln:=λ_=>p.v) (a:=p.a) (b:=p.b) (g:=p.g) hmA d) ?_;refine WC.fact (isQ (qv (mq i)) (yq i)) (W.Has.q (W.Has.fm (v:=yv) (n:=p.m) (ms:=mq) (qf:=yq) hmA) d) ?_;have hyi:=hyq i d
     have hcl:∀r,r<p.m->Sq 21 (clv p v r):=λr hr=>by
         unfold clv;split
         .exact hz.a r hr v (by assumption)
         .exact hz.b r hr
     have hsz:Sq (p.m*(Ky+22)+1) (X.sm i λr=>yq r*clv p v r):=sum_sz hyq hcl hi;by_cases e:v<p.v
     .have ec:clv p v i=p.a i v:=ah e;have hci:=hcl i d;rw[ec] at hci;refine WC.fact (isQ (qv (Mp.ma i v)) (p.a i v)) (W.Has.q (W.Has.fm (v:=Mp.av i) (n:=p.v) (ms:=Mp.ma i) (qf:=p.a i) hmA) e) ?_;repeat'(first|intro(g:Nat)|refine d42 ?_|(refine QT ?_;intro g)|(refine Q9 ?_;intro g)|(refine Q0 ?_;intro v)|intro v)
      all_goals
       refine cW (Zn.ZQ (mq i) (Mp.ma i v) (yq i) (p.a i v) (hyi.sm qo) (hci.sm qo)) λn1=>?_;repeat'(first|intro(g:Nat)|refine d42 ?_|(refine QT ?_;intro g)|(refine Q9 ?_;intro g)|(refine Q0 ?_;intro v)|intro v)
      all_goals
       refine cW (Zn.Kg mr n1 (X.sm i λr=>yq r*clv p v r) (yq i*p.a i v) (hsz.sm qo) ((hyi.mul hci).sm qo)) λn2=>?_;repeat'(first|intro(g:Nat)|refine d42 ?_|(refine QT ?_;intro g)|(refine Q9 ?_;intro g)|(refine Q0 ?_;intro v)|intro v)
       exact Qq.mk (i+1,n2) wq14 wq14 (hG:=.cons (show W.Has _ (isQ (qv n2) ((X.sm i λr=>yq r*clv p v r)+yq i*clv p v i)) from ec ▸ hmA) haA)
     .have ec:clv p v i=p.b i:=ae e;have hci:=hcl i d;rw[ec] at hci;repeat'(first|intro(g:Nat)|refine d42 ?_|(refine QT ?_;intro g)|(refine Q9 ?_;intro g)|(refine Q0 ?_;intro v)|intro v)
      all_goals
       refine cW (Zn.ZQ (mq i) (Mp.mb i) (yq i) (p.b i) (hyi.sm qo) (hci.sm qo)) λn1=>?_;repeat'(first|intro(g:Nat)|refine d42 ?_|(refine QT ?_;intro g)|(refine Q9 ?_;intro g)|(refine Q0 ?_;intro v)|intro v)
      all_goals
       refine cW (Zn.Kg mr n1 (X.sm i λr=>yq r*clv p v r) (yq i*p.b i) (hsz.sm qo) ((hyi.mul hci).sm qo)) λn2=>?_;repeat'(first|intro(g:Nat)|refine d42 ?_|(refine QT ?_;intro g)|(refine Q9 ?_;intro g)|(refine Q0 ?_;intro v)|intro v)
       exact Qq.mk (i+1,n2) wq14 wq14 (hG:=.cons (show W.Has _ (isQ (qv n2) ((X.sm i λr=>yq r*clv p v r)+yq i*clv p v i)) from ec ▸ hmA) haA)
    .obtain rfl:i=p.m:=qo;repeat'(first|intro(g:Nat)|refine d42 ?_|(refine QT ?_;intro g)|(refine Q9 ?_;intro g)|(refine Q0 ?_;intro v)|intro v)
     exact Qr mr trivial
   .intro mr _;have hsg:=@Xq (X.sm p.m λr=>yq r*clv p v r);have hs0:=@Je (X.sm p.m λr=>yq r*clv p v r);by_cases e:v<p.v
    .have hve:¬(v:Int)=(p.v:Int):=qo;have hs1:=hs0.2 (by have:=hyv v e;unfold clv;simpa only[ah e] using this);repeat'(first|intro(g:Nat)|refine d42 ?_|(refine QT ?_;intro g)|(refine Q9 ?_;intro g)|(refine Q0 ?_;intro v)|intro v)
     refine cV (Zn.Y5 mr (X.sm p.m λr=>yq r*clv p v r)) ?_;repeat'(first|intro(g:Nat)|refine d42 ?_|(refine QT ?_;intro g)|(refine Q9 ?_;intro g)|(refine Q0 ?_;intro v)|intro v)
     exact Qq.mk (v+1) qo qo
    .obtain rfl:v=p.v:=qo;have hs1:=hsg.2 (by have:=hyb;unfold clv;simpa only[ae (Nat.lt_irrefl _)] using this);repeat'(first|intro(g:Nat)|refine d42 ?_|(refine QT ?_;intro g)|(refine Q9 ?_;intro g)|(refine Q0 ?_;intro v)|intro v)
     refine cV (Zn.Y5 mr (X.sm p.m λr=>yq r*clv p p.v r)) ?_;repeat'(first|intro(g:Nat)|refine d42 ?_|(refine QT ?_;intro g)|(refine Q9 ?_;intro g)|(refine Q0 ?_;intro v)|intro v)
     exact Qq.mk (p.v+1) qo qo
  .obtain rfl:v=p.v+1:=qo;repeat'(first|intro(g:Nat)|refine d42 ?_|(refine QT ?_;intro g)|(refine Q9 ?_;intro g)|(refine Q0 ?_;intro v)|intro v)
   exact wq4
end FO
end R
end Q
end K
namespace K
namespace Q
namespace Y
namespace V
attribute [local irreducible] WC WL WD YO LO Qq W.Fin Qk Qh Qj Row QZ Qv KnS Has W.One Qo QX
theorem d17{G G':Prop}(h:G')(s:Bx G'->G:=by
 intro h;first|refine gA ?_|refine goE ?_|refine goD ?_|refine goXD ?_|(apply WC.draw (id:=10) [0,1,2,3,4,5,6,8,9,10,11,12,14] (.h 0<|.h 1<|.h 2<|.h 3<|.h 4<|.h 5<|.h 6<|.h 8<|.h 9<|.h 10<|.h 11<|.h 12<|.l 7<|.l 13<|.h 14 .done) mixed kr)|(apply WC.draw (id:=17) [0,1,2,4,5,6,7,8,9,11,12,14,15] (.h 0<|.h 1<|.h 2<|.l 3<|.h 4<|.h 5<|.h 6<|.h 7<|.h 8<|.h 9<|.h 11<|.h 12<|.l 10<|.l 13<|.h 14<|.h 15 .done) mixed kr)|fail
 exact Bx.h h):G:=s ⟨h⟩
theorem rcheckS_c(lv tv pv:nA)(n:Nat)(bm:Nat->BM)(B:Nat->Bd)(t:List Tc)(P:List (List Tc))(tm:Nat->ToM)(pm:Nat->nA×(Nat->ToM))(most:Int)(K:Nat)(hn:n<=5)(ht:t.length<=10)(hP8:P.length<=8)(hP:∀p∈P,p.length<=100)(hm0:0<=most)(hm8:most<=8)(h0K:0<K)(hK:K<=3)
  (hS:∀s∈Fx.Qa t P most,(scP n B t P s).ok/\Ss K (scP n B t P s)) (hY:∀s∈Fx.Qa t P most,(6*n+6*(scP n B t P s).m+n)*(yB (scP n B t P s)+22)+yB (scP n B t P s)+30<=400000000)
  (sv cv fv:nA) (fm:Nat->nA×(Nat->QM)) (fx:Nat->Nat×Nat×nf) (i:Nat) (cm:Nat->nA×(Nat->VM)) (xs:Nat->nf) (hi:i<(Fx.Qa t P most).length) (hf:∀j,j<i->ZX (scP n B t P (sl (Fx.Qa t P most) j)) (fx j))
  (hx:∀c,c<2^n->X.UF (Bl.lp (scP n B t P (sl (Fx.Qa t P most) i)) ((scP n B t P (sl (Fx.Qa t P most) i)).wt c)) (xs c)/\∀k,k<4*(scP n B t P (sl (Fx.Qa t P most) i)).m->Sq RA (xs c k)) :
  FnB prog 17 [lv,tv,pv,.int .i64 most,.agg #[sv,cv,fv]] [] [lF QQ lv n bm B,lF Qu tv t.length tm (tl t),lF tlS pv P.length pm (pl P),sI sv (sl (Fx.Qa t P most) i),lF plS cv (2^n) cm (λc=>psh (2*(scP n B t P (sl (Fx.Qa t P most) i)).m) (xs c)),lF Q1 fv i fm fx] (IsV (.int .i64 0)):=by
 refine fO [(0,lv),(1,tv),(2,pv),(3,(.int .i64 most)),(4,(.agg #[sv,cv,fv]))] 93 Tryz.func17 Tryz.ntmps17 λh0=>?_;have hcl:(Fx.Qa t P most).length<=900:=aL (bL _ _) (Fx.YL _ _);have he:=error_c lv tv pv n bm B t P tm pm most hn ht hP8 hm0 hm8;repeat'(first|intro(g:Nat)|refine d17 ?_|(refine QT ?_;intro g)|(refine Q9 ?_;intro g)|(refine Q0 ?_;intro v)|intro v)
 revert g;intro g9;refine cV (he) ?_;repeat'(first|intro(g:Nat)|refine d17 ?_|(refine QT ?_;intro g)|(refine Q9 ?_;intro g)|(refine Q0 ?_;intro v)|intro v)
 refine cK (Dl tv pv t P tm pm most ⟨by omega,by omega⟩ ht hP8 hP) ?_;rintro r _ _ ⟨sm,rfl,rfl⟩;refine sNn ?_;repeat'(first|intro(g:Nat)|refine d17 ?_|(refine QT ?_;intro g)|(refine Q9 ?_;intro g)|(refine Q0 ?_;intro v)|intro v)
 refine WC.JK (σ:=Unit) (λ_=>[(12,r),(9,ptr g9),(0,lv),(1,tv),(2,pv),(10,.int .i64 0)]) (λ_=>[Ow.cells g9 49 [sv,cv,fv]]) (λ_=>[ge h0,lF QQ lv n bm B,lF Qu tv t.length tm (tl t),lF tlS pv P.length pm (pl P),sI sv (sl (Fx.Qa t P most) i),lF plS cv (2^n) cm (λc=>psh (2*(scP n B t P (sl (Fx.Qa t P most) i)).m) (xs c)),lF Q1 fv i fm fx,lF Qp r (Fx.Qa t P most).length sm (sl (Fx.Qa t P most))]) (λ_=>True) ?_ ?_
 .refine WC.lp (σ:=Nat) (λj=>[(13,.int .i64 (j:Int)),(12,r),(9,ptr g9),(0,lv),(1,tv),(2,pv),(10,.int .i64 0)]) (λ_=>[Ow.cells g9 49 [sv,cv,fv]]) (λ_=>[ge h0,lF QQ lv n bm B,lF Qu tv t.length tm (tl t),lF tlS pv P.length pm (pl P),sI sv (sl (Fx.Qa t P most) i),lF plS cv (2^n) cm (λc=>psh (2*(scP n B t P (sl (Fx.Qa t P most) i)).m) (xs c)),lF Q1 fv i fm fx,lF Qp r (Fx.Qa t P most).length sm (sl (Fx.Qa t P most))]) (λj=>j<=i) (λj=>i-j) 0 (aj _) ?_;rintro j hj;by_cases d:j<i
  .have hmem:=Yu (show j<(Fx.Qa t P most).length by omega);obtain⟨hok,hsz⟩:=hS _ hmem;have hy1:=hY _ hmem;obtain⟨f1,f2,f3,f4⟩:=hf j d;have hst:=Zx hP8 hmem;refine WC.fact (sI (sm j) (sl (Fx.Qa t P most) j)) (W.Has.lk (S:=Qp) (v:=r) (ms:=sm) (xs:=sl (Fx.Qa t P most)) hmA qo) ?_;refine WC.fact (fF (fm j).1 (fx j).2.1 (fm j).2 (fx j).2.2) (W.Has.lk (S:=Q1) (v:=fv) (ms:=fm) (xs:=fx) hmA d) ?_;rw[f2];have hfa:=λv tm2=>R.FO.HE ⟨lv,v,bm,tm2⟩ (scP n B t P (sl (Fx.Qa t P most) j)) (fx j).1 (fm j).1 (fm j).2 (fx j).2.2 K (yB (scP n B t P (sl (Fx.Qa t P most) j))) f1 h0K hK hsz hok (by rw[<-f2];exact f4) hy1 f3;repeat'(first|intro(g:Nat)|refine d17 ?_|(refine QT ?_;intro g)|(refine Q9 ?_;intro g)|(refine Q0 ?_;intro v)|(refine cK (Z0 tv pv t P tm pm (sm j) (sl (Fx.Qa t P most) j) qo hP qo hst.2 qo) ?_;rintro _ _ _ ⟨_,rfl,rfl⟩;refine sNn ?_)|refine cU (hfa _ _) ?_|intro v)
   trace_state
   all_goals exact Qq.mk (j+1) qo qo
  .obtain rfl:j=i:=qo;repeat'(first|intro(g:Nat)|refine d17 ?_|(refine QT ?_;intro g)|(refine Q9 ?_;intro g)|(refine Q0 ?_;intro v)|intro v)
   exact Qr () trivial
 intro _ _;have hmem:=Yu hi;obtain⟨hok,hsz⟩:=hS _ hmem;have hst:=Zx hP8 hmem;refine WC.fact (sI (sm i) (sl (Fx.Qa t P most) i)) (W.Has.lk (S:=Qp) (v:=r) (ms:=sm) (xs:=sl (Fx.Qa t P most)) hmA hi) ?_;have h32:2^n<=2^5:=aA qd hn;have hii:¬(i:Int)=((Fx.Qa t P most).length:Int):=qo;have c80:=YV sv (sm i) (sl (Fx.Qa t P most) i) (sl (Fx.Qa t P most) i);rw[aq rfl] at c80;have hho:=λv tm2=>R.rholdsOk_c ⟨lv,v,bm,tm2⟩ (scP n B t P (sl (Fx.Qa t P most) i)) cv (2^n) cm (λc=>(psh (2*(scP n B t P (sl (Fx.Qa t P most) i)).m) (xs c)).2) qo (ss_up' hsz qo) hok (λc hc k hk=>⟨((hx c hc).2 (2*k) qo).up qd,((hx c hc).2 (2*k+1) qo).up qd⟩) rfl λc hc=>Bl.YS.1 (hx c hc).1;repeat'(first|intro(g:Nat)|refine d17 ?_|(refine QT ?_;intro g)|(refine Q9 ?_;intro g)|(refine Q0 ?_;intro v)|refine cU (c80) ?_|(refine cK (Z0 tv pv t P tm pm (sm i) (sl (Fx.Qa t P most) i) qo hP qo hst.2 qo) ?_;rintro _ _ _ ⟨_,rfl,rfl⟩;refine sNn ?_)|refine cU (hho _ _) ?_|intro v)
 all_goals
  exact wq4
theorem rcheckN_c(lv tv pv:nA)(n:Nat)(bm:Nat->BM)(B:Nat->Bd)(t:List Tc)(P:List (List Tc))(tm:Nat->ToM)(pm:Nat->nA×(Nat->ToM))(most:Int)(K:Nat)(hn:n<=5)(ht:t.length<=10)(hP8:P.length<=8)(hP:∀p∈P,p.length<=100)(hm0:0<=most)(hm8:most<=8)(h0K:0<K)(hK:K<=3)
  (hS:∀s∈Fx.Qa t P most,(scP n B t P s).ok/\Ss K (scP n B t P s)) (hY:∀s∈Fx.Qa t P most,(6*n+6*(scP n B t P s).m+n)*(yB (scP n B t P s)+22)+yB (scP n B t P s)+30<=400000000)
  (sv cv fv:nA) (fm:Nat->nA×(Nat->QM)) (fx:Nat->Nat×Nat×nf) (hf:∀j,j<(Fx.Qa t P most).length->ZX (scP n B t P (sl (Fx.Qa t P most) j)) (fx j)) (es:sv=.slice none 0 0) (ec:cv=.slice none 0 0) :
  FnB prog 17 [lv,tv,pv,.int .i64 most,.agg #[sv,cv,fv]] [] [lF QQ lv n bm B,lF Qu tv t.length tm (tl t),lF tlS pv P.length pm (pl P),lF Q1 fv (Fx.Qa t P most).length fm fx] (IsV (.int .i64 16)):=by
 subst es ec;refine fO [(0,lv),(1,tv),(2,pv),(3,(.int .i64 most)),(4,(.agg #[.slice none 0 0,.slice none 0 0,fv]))] 93 Tryz.func17 Tryz.ntmps17 λh0=>?_;have hcl:(Fx.Qa t P most).length<=900:=aL (bL _ _) (Fx.YL _ _);have he:=error_c lv tv pv n bm B t P tm pm most hn ht hP8 hm0 hm8;repeat'(first|intro(g:Nat)|refine d17 ?_|(refine QT ?_;intro g)|(refine Q9 ?_;intro g)|(refine Q0 ?_;intro v)|intro v)
 revert g;intro g9;refine cV (he) ?_;repeat'(first|intro(g:Nat)|refine d17 ?_|(refine QT ?_;intro g)|(refine Q9 ?_;intro g)|(refine Q0 ?_;intro v)|intro v)
 refine cK (Dl tv pv t P tm pm most ⟨by omega,by omega⟩ ht hP8 hP) ?_;rintro r _ _ ⟨sm,rfl,rfl⟩;refine sNn ?_;repeat'(first|intro(g:Nat)|refine d17 ?_|(refine QT ?_;intro g)|(refine Q9 ?_;intro g)|(refine Q0 ?_;intro v)|intro v)
 refine WC.JK (σ:=Unit) (λ_=>[(12,r),(9,ptr g9),(0,lv),(1,tv),(2,pv),(10,.int .i64 0)]) (λ_=>[Ow.cells g9 49 [.slice none 0 0,.slice none 0 0,fv]]) (λ_=>[ge h0,lF QQ lv n bm B,lF Qu tv t.length tm (tl t),lF tlS pv P.length pm (pl P),lF Q1 fv (Fx.Qa t P most).length fm fx,lF Qp r (Fx.Qa t P most).length sm (sl (Fx.Qa t P most))]) (λ_=>True) ?_ ?_
 .refine WC.lp (σ:=Nat) (λj=>[(13,.int .i64 (j:Int)),(12,r),(9,ptr g9),(0,lv),(1,tv),(2,pv),(10,.int .i64 0)]) (λ_=>[Ow.cells g9 49 [.slice none 0 0,.slice none 0 0,fv]]) (λ_=>[ge h0,lF QQ lv n bm B,lF Qu tv t.length tm (tl t),lF tlS pv P.length pm (pl P),lF Q1 fv (Fx.Qa t P most).length fm fx,lF Qp r (Fx.Qa t P most).length sm (sl (Fx.Qa t P most))]) (λj=>j<=(Fx.Qa t P most).length) (λj=>(Fx.Qa t P most).length-j) 0 (aj _) ?_;rintro j hj;by_cases d:j<(Fx.Qa t P most).length
  .have hmem:=Yu (show j<(Fx.Qa t P most).length by omega);obtain⟨hok,hsz⟩:=hS _ hmem;have hy1:=hY _ hmem;obtain⟨f1,f2,f3,f4⟩:=hf j d;have hst:=Zx hP8 hmem;refine WC.fact (sI (sm j) (sl (Fx.Qa t P most) j)) (W.Has.lk (S:=Qp) (v:=r) (ms:=sm) (xs:=sl (Fx.Qa t P most)) hmA qo) ?_;refine WC.fact (fF (fm j).1 (fx j).2.1 (fm j).2 (fx j).2.2) (W.Has.lk (S:=Q1) (v:=fv) (ms:=fm) (xs:=fx) hmA d) ?_;rw[f2];have hfa:=λv tm2=>R.FO.HE ⟨lv,v,bm,tm2⟩ (scP n B t P (sl (Fx.Qa t P most) j)) (fx j).1 (fm j).1 (fm j).2 (fx j).2.2 K (yB (scP n B t P (sl (Fx.Qa t P most) j))) f1 h0K hK hsz hok (by rw[<-f2];exact f4) hy1 f3;repeat'(first|intro(g:Nat)|refine d17 ?_|(refine QT ?_;intro g)|(refine Q9 ?_;intro g)|(refine Q0 ?_;intro v)|(refine cK (Z0 tv pv t P tm pm (sm j) (sl (Fx.Qa t P most) j) qo hP qo hst.2 qo) ?_;rintro _ _ _ ⟨_,rfl,rfl⟩;refine sNn ?_)|refine cU (hfa _ _) ?_|intro v)
   all_goals exact Qq.mk (j+1) qo qo
  .obtain rfl:j=(Fx.Qa t P most).length:=qo;repeat'(first|intro(g:Nat)|refine d17 ?_|(refine QT ?_;intro g)|(refine Q9 ?_;intro g)|(refine Q0 ?_;intro v)|intro v)
   exact Qr () trivial
 intro _ _;repeat'(first|intro(g:Nat)|refine d17 ?_|(refine QT ?_;intro g)|(refine Q9 ?_;intro g)|(refine Q0 ?_;intro v)|intro v)
 exact wq4
end V
end Y
end Q
end K
namespace Fx
def tot:List (List Tc)->Nat
 |[]=>0
 |p::ps=>p.length+tot ps
theorem DM(t:Tc):∀(k:Nat) (ps:List (List Tc)),tot (ps.set k (ps.getD k []++[t]))<=tot ps+1
 |_,[]=>aj _
 |0,p::ps=>by simp[tot];omega
 |k+1,p::ps=>by
  have:=DM t k ps;simp only[ez,bg,tot];omega
theorem tot_rep:∀K:Nat,tot (List.replicate K [])=0
 |0=>rfl
 |K+1=>by rw[eh];simp[tot,tot_rep K]
def Gb(ps:List (List Tc)):Nat->Nat
 |0=>0
 |n+1=>Gb ps n+(ps.getD n []).length
theorem Fb(p:List Tc)(ps:List (List Tc)):∀n,Gb (p::ps) (n+1)=p.length+Gb ps n
 |0=>by simp[Gb]
 |n+1=>by
  have:=Fb p ps n;show Gb (p::ps) (n+1)+((p::ps).getD (n+1) []).length=p.length+(Gb ps n+(ps.getD n []).length);rw[this,bg];omega
theorem totN_le:∀(ps:List (List Tc)) (n:Nat),Gb ps n<=tot ps
 |[],n=>by
  induction n with
  |zero=>exact ai _
  |succ n ih=>unfold Gb;simpa [tot] using ih
 |p::ps,0=>aj _
 |p::ps,n+1=>by
  have:=totN_le ps n;rw[Fb];unfold tot;omega
theorem num_tot(ps:List (List Tc))(b:Nat):∀n,((numbers b n).flatMap λk=>ps.getD k.toNat []).length<=Gb ps n
 |0=>ai _
 |n+1=>by
  have:=num_tot ps b n;unfold numbers Gb;rw[aS,List.length_append];split
  .simp only[aZ,eM,aU,be];omega
  .simp only[eM,bF];omega
theorem touches_tot{t:List Tc}{ps:List (List Tc)}{most:Int}{s:nd}(h8:ps.length<=8)(h:s∈Qa t ps most):(Ql t ps s).length<=t.length+tot ps:=by
 obtain⟨b,_,rfl,_⟩:=(Uv qo qo).1 (List.mem_filter.1 h).1;unfold Ql;rw[List.length_append];have h1:=num_tot ps b (ps.length:Int).toNat;have h2:=totN_le ps (ps.length:Int).toNat;omega
theorem deal_tot{n K:Nat}{T:Nat->Tc}{deal:nd}:∀i,(dealS n K T deal i).1.length+tot (dealS n K T deal i).2<=if i=0 then 0 else i+1
 |0=>by show 0+tot (List.replicate K [])<=0;rw[tot_rep];exact ai _
 |i+1=>by
  have ih:=deal_tot (n:=n) (K:=K) (T:=T) (deal:=deal) i;rw[ae (Nat.succ_ne_zero i)];unfold dealS;split
  .have a1:=DM (T i) (atP deal (2*(i:Int)+1) ((K:Int)+1)).toNat (dealS n K T deal i).2;have a2:=λps=>DM (Zl (T i)) (atP deal (2*(i:Int)+3) (K:Int)).toNat ps;by_cases hi:i=0
   .rw[ah hi] at ih;simp only;split<;>split<;>simp only[List.length_append,bt,Yp]<;>first|omega|(have a3:=a2 (dealS n K T deal i).2;omega)|(have a3:=a2 ((dealS n K T deal i).2.set (atP deal (2*(i:Int)+1) ((K:Int)+1)).toNat ((dealS n K T deal i).2.getD (atP deal (2*(i:Int)+1) ((K:Int)+1)).toNat []++[T i]));omega)
   .rw[ae hi] at ih;have hn:¬(i=0/\atP deal 2 3=0):=λh=>hi h.1;simp only[ae hn];split<;>simp only[List.length_append,bt,Yp]<;>omega
  .by_cases hi:i=0
   .rw[ah hi] at ih;omega
   .rw[ae hi] at ih;omega
theorem case_five(l deal:nd)(most:Int)(s:nd)(h:s∈Qa (Yr l deal) (Xm l deal) most):(Ql (Yr l deal) (Xm l deal) s).length<=5:=by
 have hm:=(Bl.H4 l).2.2;have h8:=(FY l deal).2.1;have h1:=touches_tot qo h;have h2:=deal_tot (n:=Xr l) (K:=X0 deal) (T:=(Bl.Q7 l).T) (deal:=deal) (Bl.Q7 l).m;have h3:(Yr l deal).length+tot (Xm l deal)<=if(Bl.Q7 l).m=0 then 0 else(Bl.Q7 l).m+1:=h2;split at h3<;>omega
end Fx
theorem case_y{S:Sc}(hn:S.n<=2)(hm:S.m<=5):(6*S.n+6*S.m+S.n)*(yB S+22)+yB S+30<=400000000:=by
 have hM:6*S.n+6*S.m+S.n<=44:=qo;have hk:nK (6*S.n+6*S.m+S.n)<=92599:=by unfold nK;omega
 have hl:nL (6*S.n+6*S.m+S.n)<=4075347:=by
  unfold nL;have:=aO hM (show nK (6*S.n+6*S.m+S.n)+22<=92621 by omega);omega
 have hy:yB S<=4167947:=by unfold yB;omega
 have:=aO hM (show yB S+22<=4167969 by omega);omega
theorem has_slN{F:nc}{k:Nat}{f:ng}:W.Has F (slC nz 0 k f):=λp _=>⟨none,0,rfl,ai _,by simp[maxLen],.inl ⟨rfl,rfl,rfl⟩⟩
namespace K
namespace Q
namespace Y
namespace V
attribute [local irreducible] WC WL WD YO LO Qq W.Fin Qk Qh Qj Row QZ Qv KnS Has W.One Qo QX
theorem d4{G G':Prop}(h:G')(s:Bx G'->G:=by
 intro h;first|refine gA ?_|refine goE ?_|refine goD ?_|refine goXD ?_|(apply WC.draw (id:=4) [0,1,2,3,4,5,6,7,8,9,10,11,12,13,14,17,18,19,20,22,23] (.h 0<|.h 1<|.h 2<|.h 3<|.h 4<|.h 5<|.h 6<|.h 7<|.h 8<|.h 9<|.h 10<|.h 11<|.h 12<|.h 13<|.h 14<|.h 17<|.l 15<|.l 16<|.h 18<|.h 19<|.h 20<|.l 21<|.h 22<|.h 23 .done) mixed kr)|fail
 exact Bx.h h):G:=s ⟨h⟩
theorem FU(lv dv:nA)(l deal:nd)(n:Int)(hl:∀x∈l,I64 x)(hd:∀x∈deal,I64 x)(hn:I64 n):FnB prog 4 [lv,dv,nj n] [] [isX prog,sI lv l,sI dv deal] (IsV (.bool true)):=by
 refine fO [(0,lv),(1,dv),(2,(nj n))] 50 Tryz.func4 Tryz.ntmps4 λh0=>?_;obtain⟨s1,s2,s3,s4,s5⟩:=FY l deal;have hN:=Fx.someN_lt l;have hok:=λ(mo:Int) (s:nd) (hs:s∈Fx.Qa (Fx.Yr l deal) (Fx.Xm l deal) mo)=>case_ok2 l deal (λ_ h=>h) (Fx.Hz hs);have h5:=λmo=>Fx.case_five l deal mo;have hcs:=some24_c lv dv l deal hl hd;generalize Fx.Xr l=N at *;generalize (Bl.Q7 l).B=B at *;generalize Fx.Yr l deal=t at *;generalize Fx.Xm l deal=P at *;have a1:=@UE n 3 qd;have c15:=V9 n 3 hn qd;generalize ZZ n 3=mo at *;have hY:∀s∈Fx.Qa t P mo,(6*N+6*(scP N B t P s).m+N)*(yB (scP N B t P s)+22)+yB (scP N B t P s)+30<=400000000:=λs hs=>case_y (S:=scP N B t P s) (by show N<=2;omega) (h5 mo s hs);have c48:=lives_c;have hcl:(Fx.Qa t P mo).length<=900:=aL (bL _ _) (Fx.YL _ _);repeat'(first|intro(g:Nat)|refine d4 ?_|(refine QT ?_;intro g)|(refine Q9 ?_;intro g)|(refine Q0 ?_;intro v)|intro v)
 refine cK (hcs) ?_;rintro _ _ _ ⟨bv,tv,pv,bm,tm,pm,rfl,rfl,rfl⟩;refine sNn ?_;repeat'(first|intro(g:Nat)|refine d4 ?_|(refine QT ?_;intro g)|(refine Q9 ?_;intro g)|(refine Q0 ?_;intro v)|intro v)
 revert g;intro g7;refine cV (c15) ?_;repeat'(first|intro(g:Nat)|refine d4 ?_|(refine QT ?_;intro g)|(refine Q9 ?_;intro g)|(refine Q0 ?_;intro v)|intro v)
 refine cK (ZK bv tv pv N bm B t P tm pm mo 1 qo s1 qo s4 qo qo qd qd (hok mo)) ?_;rintro _ _ _ ⟨rfl,fv,fm,fx,⟨i,sv,cv,cm,xs,hfi,rfl,rfl,hf,hx⟩|⟨hno,rfl,rfl,hf⟩⟩
 .refine sNn ?_;refine WL.QD (slC cv (2^N) 1 (Zo plS cm λc=>psh (2*(scP N B t P (sl (Fx.Qa t P mo) i)).m) (xs c))) (W.Has.ls (S:=plS) (v:=cv) hmA) ?_;have hi:=hfi.1;repeat'(first|intro(g:Nat)|refine d4 ?_|(refine QT ?_;intro g)|(refine Q9 ?_;intro g)|(refine Q0 ?_;intro v)|intro v)
  refine cW (model_c sv cv fv i (sl (Fx.Qa t P mo) i).length (2^N) _ _ fm fx qo) λfv2=>?_;repeat'(first|intro(g:Nat)|refine d4 ?_|(refine QT ?_;intro g)|(refine Q9 ?_;intro g)|(refine Q0 ?_;intro v)|intro v)
  refine cV (rcheckS_c bv tv pv N bm B t P tm pm mo 1 qo s1 qo s4 qo qo qd qd (hok mo) hY sv cv fv2 fm fx i cm xs hi hf hx) ?_;repeat'(first|intro(g:Nat)|refine d4 ?_|(refine QT ?_;intro g)|(refine Q9 ?_;intro g)|(refine Q0 ?_;intro v)|intro v)
  refine cV (c48) ?_;repeat'(first|intro(g:Nat)|refine d4 ?_|(refine QT ?_;intro g)|(refine Q9 ?_;intro g)|(refine Q0 ?_;intro v)|intro v)
  exact wq4
 .refine sNn ?_;refine WL.QD (slC nz 0 1 λ_=>nz) has_slN ?_;repeat'(first|intro(g:Nat)|refine d4 ?_|(refine QT ?_;intro g)|(refine Q9 ?_;intro g)|(refine Q0 ?_;intro v)|intro v)
  refine cW (model_c nz nz fv (Fx.Qa t P mo).length 0 0 (λ_=>nz) (λ_=>nz) fm fx qo) λfv2=>?_;repeat'(first|intro(g:Nat)|refine d4 ?_|(refine QT ?_;intro g)|(refine Q9 ?_;intro g)|(refine Q0 ?_;intro v)|intro v)
  refine cV (rcheckN_c bv tv pv N bm B t P tm pm mo 1 qo s1 qo s4 qo qo qd qd (hok mo) hY nz nz fv2 fm fx hf rfl rfl) ?_;repeat'(first|intro(g:Nat)|refine d4 ?_|(refine QT ?_;intro g)|(refine Q9 ?_;intro g)|(refine Q0 ?_;intro v)|intro v)
  refine cV (c48) ?_;repeat'(first|intro(g:Nat)|refine d4 ?_|(refine QT ?_;intro g)|(refine Q9 ?_;intro g)|(refine Q0 ?_;intro v)|intro v)
  exact wq4
end V
end Y
end Q
end K
end
end Go.Proofs.YtbnobghgnbockaaGreat
