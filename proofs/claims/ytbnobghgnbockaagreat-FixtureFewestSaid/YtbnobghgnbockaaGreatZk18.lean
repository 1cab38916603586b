/- Lemmas. Conditions: none. -/
import Derived.Test.YtbnobghgnbockaaGreatZk17
import Derived.Conc.Beside
import Derived.Conc.CrowdTrace
import Derived.Conc.CrowdInv
set_option linter.all false
set_option maxHeartbeats 0
set_option maxRecDepth 100000
namespace Go.Proofs.YtbnobghgnbockaaGreat
open Tryz (prog)
section
open W Go.RowKit
abbrev TB(xg vars m n:Nat)(tv cv bv:nA)(rv:ng)(ms:Nat->Nat->QM)(mc:Nat->QM)(b:Nat->Nat):nw:=
 Ow.cells xg 177 [nj vars,nj m,nj n,tv,cv,bv]::Ow.slice tv 61 1 (fnV m rv)::Ow.slice cv 75 4 (Qc (n+1) mc)::Ow.slice bv 3 1 (ints (fnL m b))::Xc m (n+1) rv ms
def IsTB(xg vars m n:Nat)(tv cv bv:nA)(rv:ng)(s:X.St):Qd:=λv B G=>∃ms mc,v=.tuple #[]/\B=TB xg vars m n tv cv bv rv ms mc s.b/\G=[mT m (n+1) ms s.t,mF (n+1) mc s.c]
def dvx(l:nf)(d:Rat)(k j:Nat):Rat:=if j<k then l j/d else l j
def dvx_up{l:nf}{d:Rat}{k:Nat}(i:Nat):Qy (dvx l d k) k (dvx l d k k/d) i=dvx l d (k+1) i:=by
 unfold dvx Qy;by_cases c:i=k
 .subst c;simp
 .by_cases c2:i<k
  .simp[c,c2,show i<k+1 by omega]
  .simp[c,c2,show ¬i<k+1 by omega]
def pvx(s:X.St)(row col i j k:Nat):Rat:=if j=row then s.t row k/s.t row col else if j<i then s.t j k-s.t j col*(s.t row k/s.t row col) else s.t j k
namespace Z
attribute [local irreducible] WC WL WD YO LO Qq W.Fin Qk Qh Qj Row QZ Qv KnS Has W.One Qo QX
def d193{G G':Prop}(h:G')(s:Bx G'->G:=by
 intro h;first|refine gB ?_|(apply WC.draw (id:=4) [0,1,2,3,4,5,6,7,8,9,11] (.h 0<|.h 1<|.h 2<|.h 3<|.h 4<|.h 5<|.h 6<|.h 7<|.h 8<|.h 9<|.l 10<|.h 11<|.l 12 .done) mixed kr)|(apply WC.draw (id:=12) [0,1,2,3,4,5,6,7,8,9,10,11] (.h 0<|.h 1<|.h 2<|.h 3<|.h 4<|.h 5<|.h 6<|.h 7<|.h 8<|.h 9<|.h 10<|.h 11<|.l 12 .done) mixed kr)|fail
 exact Bx.h h):G:=s ⟨h⟩
def d193r{G G':Prop}(h:G')(s:Bx G'->G:=by
 intro h;repeat'(first|intro(zQ:Nat)|refine d193 ?_|intro zQ)
 repeat revert zQ
 exact Bx.h h):G:=s ⟨h⟩

def pivot_c(xg vars m n:Nat)(tv cv bv:nA)(rv:ng)(ms:Nat->Nat->QM)(mc:Nat->QM)(s:X.St)(row col K:Nat)(hrow:row<m)(hcol:col<n)(hm:m<=1000)(hn:n<=10000)(hK:K<=20000000)(hK0:0<K)(hs:∀i,i<m->∀k,k<n+1->Sq K (s.t i k))(hc:∀k,k<n+1->Sq K (s.c k)) :
  FnB prog 193 [ptr xg,nj row,nj col] (TB xg vars m n tv cv bv rv ms mc s.b) [mT m (n+1) ms s.t,mF (n+1) mc s.c] (IsTB xg vars m n tv cv bv rv (X.pv s row col)):=by
 refine fO [(0,(ptr xg)),(1,(nj row)),(2,(nj col))] 91 Tryz.func193 Tryz.ntmps193 λh0=>?_;have hsm:∀{q},Sq K q->Sm q:=λh=>h.sm qo;refine WC.perm (Ow.cells xg 177 [nj vars,nj m,nj n,tv,cv,bv]::Ow.slice tv 61 1 (fnV m rv)::Ow.slice cv 75 4 (Qc (n+1) mc)::Ow.slice bv 3 1 (ints (fnL m s.b))::Yv (n+1) (rv row) (ms row)::Kr m (n+1) rv ms row) ((((((Xp hrow).cons _).cons _).cons _).cons _)) ?_;refine WC.fact (isQ (qv (ms row col)) (s.t row col)) (W.Has.qt hmA hrow qo) ?_;refine WC.fact (mF (n+1) (ms row) (s.t row)) (W.Has.tm hmA hrow) ?_;refine d193r ?_;intro g;revert g;intro g6;have hd:=hs row hrow col qo
 refine WC.lp (σ:=Nat×(Nat->QM)) (λst=>[(29,nj (st.1:Int)),(28,nj ((n+1:Nat):Int)),(27,rv row),(0,ptr xg),(1,nj row),(2,nj col),(6,ptr g6)])
  (λst=>Ow.cells g6 75 (qcs (ms row col))::Ow.cells xg 177 [nj vars,nj m,nj n,tv,cv,bv]::Ow.slice tv 61 1 (fnV m rv)::Ow.slice cv 75 4 (Qc (n+1) mc)::Ow.slice bv 3 1 (ints (fnL m s.b))::Yv (n+1) (rv row) st.2::Kr m (n+1) rv ms row)
  (λst=>[isQ (qv (ms row col)) (s.t row col),mF (n+1) st.2 (dvx (s.t row) (s.t row col) st.1),mT m (n+1) ms s.t,mF (n+1) mc s.c,ge h0]) (λst=>st.1<=n+1) (λst=>n+1-st.1) (0,ms row) (aj _) ?_ (hG:=.cons hmA (.cons (W.Has.QK (qf:=s.t row) hmA λi _=>by simp[dvx]) (.cons hmA (.cons hmA (.cons hmA .nil)))))
 rintro⟨k,mx⟩ hk;simp only at hk ⊢;by_cases c:k<n+1
 .refine WC.fact (isQ (qv (mx k)) (dvx (s.t row) (s.t row col) k k)) (W.Has.q (ms:=mx) hmA c) ?_;have hw:dvx (s.t row) (s.t row col) k k=s.t row k:=by simp[dvx]
  refine d193r ?_;intro g;refine cW (Zn.div (mx k) (ms row col) (dvx (s.t row) (s.t row col) k k) (s.t row col) (by rw[hw];exact hsm (hs row hrow k c)) (hsm hd)) λm2=>?_;refine WD.fact (mF (n+1) (Qy mx k m2) (dvx (s.t row) (s.t row col) (k+1))) ((W.Has.J0 (k:=k) (ms:=mx) (m:=m2) (qf:=dvx (s.t row) (s.t row col) k) hmA hmA).QK λi _=>dvx_up i) ?_;refine d193r ?_;exact Qq.mk (k+1,_) (by show k+1<=n+1;omega) (by show n+1-(k+1)<n+1-k;omega)
 .obtain rfl:k=n+1:=qo;refine d193r ?_;refine WC.fact (mT m (n+1) (Qy ms row mx) (pvx s row col 0)) ((W.Has.tset (ms:=ms) (tq:=s.t) (i:=row) hmA (x:=mx) hmA).tsame λi _ k hk=>?_) ?_
  .unfold Qy pvx dvx;by_cases c:i=row
   .simp[c,hk]
   .simp[c]
  refine WC.perm (Ow.cells g6 75 (qcs (ms row col))::Ow.cells xg 177 [nj vars,nj m,nj n,tv,cv,bv]::Ow.slice tv 61 1 (fnV m rv)::Ow.slice cv 75 4 (Qc (n+1) mc)::Ow.slice bv 3 1 (ints (fnL m s.b))::Xc m (n+1) rv (Qy ms row mx)) ((((((rows_upd hrow).symm.cons _).cons _).cons _).cons _).cons _) ?_
  refine WC.lpP (σ:=Nat×(Nat->Nat->QM)) (λst=>[(52,nj (st.1:Int)),(51,nj m),(50,tv),(0,ptr xg),(1,nj row),(2,nj col)])
   (λst=>Ow.cells xg 177 [nj vars,nj m,nj n,tv,cv,bv]::Ow.slice tv 61 1 (fnV m rv)::Ow.slice cv 75 4 (Qc (n+1) mc)::Ow.slice bv 3 1 (ints (fnL m s.b))::Xc m (n+1) rv st.2)
   (λst=>[mT m (n+1) st.2 (pvx s row col st.1),mF (n+1) mc s.c,ge h0]) (λst=>st.1<=m) (λst=>m-st.1) (0,Qy ms row mx) (aj _) ?_
  clear c hk;rintro⟨i,mt⟩ hi;simp only at hi ⊢;have hdq:∀k,k<n+1->Sq (2*K) (s.t row k/s.t row col):=λk hk=>(Sq.div hK0 (hs row hrow k hk) hd).up qo;have hrq:∀k,k<n+1->Sq (2*K) (pvx s row col i row k):=λk hk=>by unfold pvx;rw[ah rfl];exact hdq k hk
  by_cases ci:i<m
  .by_cases cr:i=row
   .refine d193r ?_
    exact XW.mk (i+1,mt) wq111 wq56 [] (by rw[aU]) (hG:=.cons (W.Has.tsame (tq:=pvx s row col i) hmA λj _ k _=>by
     unfold pvx;by_cases c1:j=row
     .rw[ah c1,ah c1]
     .rw[ae c1,ae c1];by_cases c2:j<i
      .rw[ah c2,ah qo]
      .rw[ae c2,ae qo]) (.cons hmA (.cons hmA .nil)))
   .have hiq:∀k,k<n+1->Sq (2*K) (pvx s row col i i k):=λk hk=>by unfold pvx;rw[ae cr,ae qo];exact(hs i ci k hk).up qo
    refine d193r ?_;refine WL.QD (mF (n+1) (mt i) (pvx s row col i i)) (W.Has.tm hmA ci) ?_;refine WL.QD (mF (n+1) (mt row) (pvx s row col i row)) (W.Has.tm hmA hrow) ?_;refine WL.Zc [Yv (n+1) (rv i) (mt i),Yv (n+1) (rv row) (mt row)] (Ow.cells xg 177 [nj vars,nj m,nj n,tv,cv,bv]::Ow.slice tv 61 1 (fnV m rv)::Ow.slice cv 75 4 (Qc (n+1) mc)::Ow.slice bv 3 1 (ints (fnL m s.b))::Fj m (n+1) rv mt row i) (perm6 (rows_two hrow ci cr)) (wipe_c (rv i) (rv row) (n+1) col (2*K) (mt i) (mt row) (pvx s row col i i) (pvx s row col i row) qo qo qo hiq hrq) ?_;rintro _ _ _ ⟨mi,rfl,rfl,rfl⟩;refine sNn ?_;refine WL.QD (mT m (n+1) (Qy mt i mi) (pvx s row col (i+1))) ((W.Has.tset (ms:=mt) (tq:=pvx s row col i) (i:=i) hmA (x:=mi) hmA).tsame λj _ k _=>?_) ?_
    .unfold Qy;by_cases c1:j=i
     .subst c1;rw[ah rfl];unfold pvx;rw[ae cr,ae qo,ah rfl,ae cr,ae qo,ae cr,ah qo]
     .rw[ae c1];unfold pvx;by_cases c3:j=row
      .rw[ah c3,ah c3]
      .rw[ae c3,ae c3];by_cases c2:j<i
       .rw[ah c2,ah qo]
       .rw[ae c2,ae qo]
    refine d193r ?_;exact XW.mk (i+1,Qy mt i mi) wq111 wq56 [] (by rw[aU];exact(perm6 (Dr hrow ci cr)).symm)
  .obtain rfl:m=i:=qo;refine d193r ?_;refine WD.fact (mF (n+1) (mt row) (pvx s row col m row)) (W.Has.tm hmA hrow) ?_;refine WD.Zc [Ow.slice cv 75 4 (Qc (n+1) mc),Yv (n+1) (rv row) (mt row)] (Ow.cells xg 177 [nj vars,nj m,nj n,tv,cv,bv]::Ow.slice tv 61 1 (fnV m rv)::Ow.slice bv 3 1 (ints (fnL m s.b))::Kr m (n+1) rv mt row) (perm5 (Xp hrow)) (wipe_c cv (rv row) (n+1) col (2*K) mc (mt row) s.c (pvx s row col m row) qo qo qo (λk hk=>(hc k hk).up qo) hrq) ?_;rintro _ _ _ ⟨mc2,rfl,rfl,rfl⟩;refine sNn ?_;refine WD.perm (Ow.cells xg 177 [nj vars,nj m,nj n,tv,cv,bv]::Ow.slice tv 61 1 (fnV m rv)::Ow.slice cv 75 4 (Qc (n+1) mc2)::Ow.slice bv 3 1 (ints (fnL m s.b))::Xc m (n+1) rv mt) (perm5 (Xp hrow)).symm ?_;have hfl:=fnL_len m s.b;refine d193r ?_;rw[fnL_set]
   exact Fin.p (TB xg vars m n tv cv bv rv mt mc2 (X.pv s row col).b) [mT m (n+1) mt (X.pv s row col).t,mF (n+1) mc2 (X.pv s row col).c] (Qf.t0 rfl) meA (aI _) (.cons (W.Has.tsame (tq:=pvx s row col m) hmA λj hj k _=>by
    unfold pvx X.pv;simp only;by_cases c1:j=row
    .rw[ah c1,ah c1]
    .rw[ae c1,ae c1,ah hj]) (.cons (W.Has.QK (qf:=λk=>s.c k-s.c col*pvx s row col m row k) hmA λk _=>by unfold pvx X.pv;simp) .nil)) ⟨mt,mc2,rfl,rfl,rfl⟩
end Z
abbrev TF(xg vars m n:Nat)(tv cv bv:nA)(rv:ng)(ms:Nat->Nat->QM)(s:X.St):nc:=
 [ce xg 177 [nj vars,nj m,nj n,tv,cv,bv],sV tv m rv,rF m (n+1) rv ms s.t,sN bv m s.b]
def Yx:Option Nat->Int
 |none=>-1
 |some r=>r
def Dx{n:Nat}{s:X.St}{k:Nat}:∀{i r:Nat},X.lev n s k i=some r->r<i
 |0,_,h=>by simp[X.lev] at h
 |i+1,r,h=>by
  rw[X.lev] at h;split at h
  .have:=Dx h;omega
  .split at h
   .cases h;omega
   .rename_i q hq
    have:=Dx hq;split at h<;>(cases h;omega)
def lst(n:Nat)(s:X.St)(k i:Nat):Rat:=match X.lev n s k i with
 |none=>0
 |some r=>s.t r n/s.t r k
def le_iff{q:Rat}:sgn q.num<=0↔q<=0:=by
 have:=@Ur q;rw[<-Rat.not_lt,<-this];omega
namespace Z
attribute [local irreducible] WC WL WD YO LO Qq W.Fin Qk Qh Qj Row QZ Qv KnS Has W.One Qo QX
def d192{G G':Prop}(h:G')(s:Bx G'->G:=by
 intro h;first|refine gM ?_|(apply WC.draw (id:=7) [0,1,2,3,4,5,6,7,8,9,10] (.h 0<|.h 1<|.h 2<|.h 3<|.h 4<|.h 5<|.h 6<|.h 7<|.h 8<|.h 9<|.h 10<|.m 11 (.l 12<|.l 13 .done) (.l 12<|.l 11<|.l 13 .done)) mixed kr)|(apply WC.draw (id:=11) [0,1,2,3,4,5,6,7,8,9,10,11,12,13,14,15,16,17,18,19,20,21,22] (.h 0<|.h 1<|.h 2<|.h 3<|.h 4<|.h 5<|.h 6<|.h 7<|.h 8<|.h 9<|.h 10<|.h 11<|.h 12<|.h 13<|.h 14<|.h 15<|.h 16<|.h 17<|.h 18<|.h 19<|.h 20<|.h 21<|.h 22 .done) mixed kr)|(apply WC.draw (id:=12) [0,1,2] (.h 0<|.h 1<|.h 2<|.l 3 .done) mixed kr)|fail
 exact Bx.h h):G:=s ⟨h⟩
def d192r{G G':Prop}(h:G')(s:Bx G'->G:=by
 intro h;repeat'(first|intro(zQ:Nat)|refine d192 ?_|intro zQ)
 repeat revert zQ
 exact Bx.h h):G:=s ⟨h⟩

def leaving_c(xg vars m n:Nat)(tv cv bv:nA)(rv:ng)(ms:Nat->Nat->QM)(s:X.St)(col K:Nat)(hcol:col<n)(hm:m<=1000)(hn:n<=10000)(hK:K<=20000000)(hK0:0<K)(hs:∀i,i<m->∀k,k<n+1->Sq K (s.t i k)) :
  FnB prog 192 [ptr xg,.int .i64 (col:Int)] [] (TF xg vars m n tv cv bv rv ms s) (IsV (.int .i64 (Yx (X.lev n s col m)))):=by
 refine fO [(0,(ptr xg)),(1,(.int .i64 (col:Int)))] 71 Tryz.func192 Tryz.ntmps192 λh0=>?_;have hsm:∀{q},Sq K q->Sm q:=λh=>h.sm qo;refine d192r ?_;intro g;revert g;intro g6
 refine WC.lp (σ:=Nat×Int×QM×Rat) (λst=>[(5,.int .i64 st.2.1),(16,.int .i64 (st.1:Int)),(15,.int .i64 (m:Int)),(14,tv),(0,ptr xg),(1,.int .i64 (col:Int)),(6,ptr g6)]) (λst=>[Ow.cells g6 75 (qcs st.2.2.1)])
  (λst=>isQ (qv st.2.2.1) st.2.2.2::ge h0::TF xg vars m n tv cv bv rv ms s) (λst=>st.1<=m/\st.2.1=Yx (X.lev n s col st.1)/\st.2.2.2=lst n s col st.1) (λst=>m-st.1) (0,-1,m00,0) ⟨aj _,rfl,rfl⟩ ?_ (hG:=.cons Jr sfA)
 rintro⟨i,bi,ml,ql⟩ ⟨hi,hbi,hql⟩;simp only at hi hbi hql ⊢;by_cases c:i<m
 .refine WC.fact (isQ (qv (ms i col)) (s.t i col)) (W.Has.qt (W.Has.rt (rv:=rv) hmA) c qo) ?_;refine WC.fact (isQ (qv (ms i n)) (s.t i n)) (W.Has.qt (W.Has.rt (rv:=rv) hmA) c qo) ?_;refine d192r ?_;refine cV (Zn.sign (ms i col) (s.t i col)) ?_;by_cases c1:s.t i col<=0
  .have hz:=le_iff.2 c1;have e1:X.lev n s col (i+1)=X.lev n s col i:=by rw[X.lev,ah c1]
   have e2:lst n s col (i+1)=lst n s col i:=by unfold lst;rw[e1]
   refine d192r ?_;exact Qq.mk (i+1,bi,ml,ql) ⟨by show i+1<=m;omega,by rw[e1];exact hbi,by rw[e2];exact hql⟩ wq56
  .have hz:¬sgn (s.t i col).num<=0:=λh=>c1 (le_iff.1 h);have hdv:Sq (2*K) (s.t i n/s.t i col):=(Sq.div hK0 (hs i c n qo) (hs i c col qo)).up qo;refine gAr ?_
   refine WC.YH (σ:=Nat×QM) (λst=>[(9,ptr st.1),(7,.int .i64 (i:Int)),(5,.int .i64 bi),(16,.int .i64 (i:Int)),(15,.int .i64 (m:Int)),(14,tv),(0,ptr xg),(1,.int .i64 (col:Int)),(6,ptr g6)]) (λst=>[Ow.cells st.1 75 (qcs st.2),Ow.cells g6 75 (qcs ml)])
    (λst=>isQ (qv st.2) (s.t i n/s.t i col)::isQ (qv ml) ql::ge h0::TF xg vars m n tv cv bv rv ms s) (λ_=>True) ?_ ?_
   .repeat'(first|intro(g:Nat)|refine d192 ?_|refine gN ?_ ?_|refine cW (Zn.div (ms i n) (ms i col) (s.t i n) (s.t i col) (hsm (hs i c n qo)) (hsm (hs i c col qo))) λzm=>?_|intro v)
    all_goals(apply Ex2;refine⟨trivial,?_,?_,?_⟩;(focus(repeat(first|exact Sub.nil _|refine Sub.cons rfl ?_)));exact wq137;exact wq26)
   rintro⟨g9,mq⟩ _;simp only;cases hL:X.lev n s col i with
   |none=>
    rw[hL] at hbi;have hb1:bi= -1:=hbi;have e1:X.lev n s col (i+1)=some i:=by rw[X.lev,ae c1,hL]
    refine d192r ?_;exact Qq.mk (i+1,(i:Int),mq,_) ⟨by show i+1<=m;omega,by show(i:Int)=Yx (X.lev n s col (i+1));rw[e1];rfl,by unfold lst;rw[e1]⟩ wq56
   |some r=>
    rw[hL] at hbi;obtain rfl:bi=(r:Int):=hbi;have hri:=Dx hL;have hq:ql=s.t r n/s.t r col:=by rw[hql];unfold lst;rw[hL]
    have hlq:Sq (2*K) ql:=by rw[hq];exact(Sq.div hK0 (hs r qo n qo) (hs r qo col qo)).up qo
    refine d192r ?_;refine cV (Zn.cmp mq ml (s.t i n/s.t i col) ql (hdv.sm qo) (hlq.sm qo)) ?_;have hlt:=@VZ (s.t i n/s.t i col) ql;have heq:=@cmpQ_eq (s.t i n/s.t i col) ql;generalize XN (s.t i n/s.t i col) ql=cq at *;by_cases k1:cq<0
    .have e1:X.lev n s col (i+1)=some i:=by rw[X.lev,ae c1,hL];exact ah (.inl (by rw[<-hq];exact hlt.1 k1))
     refine d192r ?_;exact Qq.mk (i+1,(i:Int),mq,_) ⟨by show i+1<=m;omega,by show(i:Int)=Yx (X.lev n s col (i+1));rw[e1];rfl,by unfold lst;rw[e1]⟩ wq56
    .by_cases k2:cq=0
     .by_cases k3:s.b i<s.b r
      .have e1:X.lev n s col (i+1)=some i:=by rw[X.lev,ae c1,hL];exact ah (.inr ⟨by rw[<-hq];exact heq.1 k2,k3⟩)
       refine d192r ?_;exact Qq.mk (i+1,(i:Int),mq,_) ⟨by show i+1<=m;omega,by show(i:Int)=Yx (X.lev n s col (i+1));rw[e1];rfl,by unfold lst;rw[e1]⟩ wq56
      .have e1:X.lev n s col (i+1)=some r:=by rw[X.lev,ae c1,hL];exact ae (by rw[<-hq];rintro(h|h);exact k1 (hlt.2 h);exact k3 h.2)
       refine d192r ?_;exact Qq.mk (i+1,(r:Int),ml,ql) ⟨by show i+1<=m;omega,by show(r:Int)=Yx (X.lev n s col (i+1));rw[e1];rfl,by unfold lst;rw[e1];exact hq⟩ wq56
     .have e1:X.lev n s col (i+1)=some r:=by rw[X.lev,ae c1,hL];exact ae (by rw[<-hq];rintro(h|h);exact k1 (hlt.2 h);exact k2 (heq.2 h.1))
      refine d192r ?_;exact Qq.mk (i+1,(r:Int),ml,ql) ⟨by show i+1<=m;omega,by show(r:Int)=Yx (X.lev n s col (i+1));rw[e1];rfl,by unfold lst;rw[e1];exact hq⟩ wq56
 .obtain rfl:m=i:=qo;rw[<-hbi];refine d192r ?_;exact wq4
end Z
def IsF(n:Nat)(q:nf):Qd:=λv B G=>∃ms,B=[]/\G=[fF v n ms q]
def VV{p:Nat->Bool}{n i:Nat}(h:i<n):X.fstT p (n-i) i=if p i=true then some i else X.fstT p (n-(i+1)) (i+1):=by
 rw[show n-i=n-(i+1)+1 by omega,X.fstT]
def GN{F:nc}(ms:Nat->QM)(q:nf):Has F (fF nz 0 ms q):=λp hf=>⟨⟨none,0,rfl,ai _,by unfold maxLen;omega,.inl ⟨rfl,rfl,rfl⟩⟩,λi hi=>absurd hi qo⟩
namespace Z
attribute [local irreducible] WC WL WD YO LO Qq W.Fin Qk Qh Qj Row QZ Qv KnS Has W.One Qo QX
def index_c(v:nA)(m k:Nat)(b:Nat->Nat):FnB prog 198 [v,nj k] [] [sN v m b] (IsV (nj (Yx (X.fstT (λi=>decide (b i=k)) m 0)))):=by
 refine fO [(0,v),(1,(nj k))] 19 Tryz.func198 Tryz.ntmps198 λh0=>?_;refine WC.lenF (v:=v) (m:=m) hmA λhm=>?_;refine gAr ?_;refine WC.lp (σ:=Nat) (λi=>[(8,nj i),(7,nj m),(0,v),(1,nj k)]) (λ_=>[]) (λ_=>[ge h0,sN v m b]) (λi=>i<=m/\X.fstT (λi=>decide (b i=k)) m 0=X.fstT (λi=>decide (b i=k)) (m-i) i) (λi=>m-i) 0 ⟨aj _,rfl⟩ ?_;rintro i ⟨hi,he⟩;by_cases c:i<m
 .rw[VV c] at he;by_cases c1:b i=k
  .rw[ah (aq c1)] at he;rw[he];refine gAr ?_;exact wq4
  .rw[ae (by simpa using c1)] at he;refine gAr ?_;exact Qq.mk (i+1) ⟨by omega,he⟩ qo
 .obtain rfl:m=i:=qo;rw[df,X.fstT] at he;rw[he];refine gAr ?_;exact wq4
def indexF_c(v:nA)(n:Nat)(ms:Nat->QM)(q:nf)(f:np)(first cap:ne)(Fc:nc)(p:Nat->Bool)
  (hf:∀i,i<n->FnB prog f (first++[qv (ms i)]++cap) [] (isQ (qv (ms i)) (q i)::Fc) (IsV (.bool (p i)))) :
  FnB prog 195 [v,.func (.func f) first.toArray cap.toArray] [] (fF v n ms q::Fc) (IsV (nj (Yx (X.fstT p n 0)))):=by
 refine fO [(0,v),(1,(.func (.func f) first.toArray cap.toArray))] 19 Tryz.func195 Tryz.ntmps195 λh0=>?_;refine WC.lenF (v:=v) (m:=n) (W.Has.fs (ms:=ms) (qf:=q) hmA) λhm=>?_;refine gAr ?_;refine WC.lp (σ:=Nat) (λi=>[(8,nj i),(7,nj n),(0,v),(1,.func (.func f) first.toArray cap.toArray)]) (λ_=>[]) (λ_=>ge h0::fF v n ms q::Fc) (λi=>i<=n/\X.fstT p n 0=X.fstT p (n-i) i) (λi=>n-i) 0 ⟨aj _,rfl⟩ ?_ (hG:=.cons hmA (.cons hmA (Qz.tail nv)));rintro i ⟨hi,he⟩;by_cases c:i<n
 .rw[VV c] at he;refine gAr ?_;refine WL.XV first cap (vs:=[qv (ms i)]) (hf i c) ?_ (hF:=.cons (W.Has.q (W.Has.fm (v:=v) hmA) c) (Qz.tail nv))
  rintro _ _ _ ⟨rfl,rfl,rfl⟩;refine sNn ?_;cases hp:p i with
  |true=>
   rw[ah hp] at he;rw[he];refine gAr ?_;exact wq4
  |false=>
   rw[ae (by rw[hp];decide)] at he;refine gAr ?_;exact Qq.mk (i+1) ⟨by omega,he⟩ qo (hG:=.cons hmA (.cons hmA (Qz.tail nv)))
 .obtain rfl:n=i:=qo;rw[df,X.fstT] at he;rw[he];refine gAr ?_;exact wq4
def clone_c(u:nA)(n:Nat)(ms:Nat->QM)(q:nf)(hn:n<=1000000):FnB prog 194 [u] [] [fF u n ms q] (IsF n q):=by
 refine fO [(0,u)] 8 Tryz.func194 Tryz.ntmps194 λh0=>?_;cases hnl:isNil u with
 |true=>
  refine WC.nilF (v:=u) (m:=n) (ms:=ms) (q:=q) hmA hnl λh=>?_;subst h;refine gAr ?_;refine WC.ret ?_;exact Fp [fF nz 0 ms q] (Qf.t1 rfl rfl) (.cons (GN _ _) .nil) ⟨ms,rfl,rfl⟩
 |false=>
  refine gAr ?_;intro v v;refine WC.Jh v n ms q wq3 (W.Has.fm (v:=u) hmA) ?_;refine WC.ret ?_;exact Fp [fF v n ms q] (Qf.t1 rfl rfl) haA ⟨ms,rfl,rfl⟩
end Z
end
section
open Go.RowKit
open Go.Conc hiding base G
open Go.ConcN (sumTo sumTo_upd upd_ne upd_same)
namespace W
structure Frm(P:nh)(sh own:Bk)(gs:Array Goroutine)(w:nm)(t:Trace)(q:Nat->Nat)(Shun:Loc->Prop):Prop where
 leav:Leavers P t gs q
 ct:Go.ConcN.CT Shun (λ_ _=>False) (λ_ _=>False) t (gs.size-1)
 over:t.HandedOver
 hears:Deaf t 0=0
 seen:∀op∈t,op.act.low w.heap.size
 shun:∀l,Shun l->∃a,l=.cell a/\a.block<w.heap.size/\¬own a.block/\¬sh a.block
 lt:∀k,own k\/sh k->k<w.heap.size
def Frm.past{P:nh}{sh own:Bk}{gs:Array Goroutine}{w:nm}{t:Trace}{q:Nat->Nat}{Shun:Loc->Prop}(h:Frm P sh own gs w t q Shun):Past Shun w.heap.size t:=by
 refine⟨h.ct.nr,λi a ha _=>?_,h.over,h.hears,h.seen⟩;by_cases hs:Shun a.loc
 .obtain⟨x,hx,hxa⟩:=touch_of ha;obtain⟨h1,h2⟩:=h.ct.quiet i x a hx hxa hs;cases hk:a.kind with
  |plain=>exact absurd hk h1
  |atomic=>exact .inr ⟨hs,rfl⟩
  |said=>
   have:=knows_own hx;rw[h2 hk] at this;exact .inl this
 .exact .inl (h.ct.free a.loc hs (λ_ _ _=>⟨λh=>h,λh=>h⟩) i a ha rfl)
def noApart(Shun:Loc->Prop):Go.ConcN.Apart Shun (λ_ _=>False) (λ_ _=>False):=⟨λ_ _ _ h=>h.elim,λ_ _ _ h=>h.elim,λ_ _ h=>h.elim,λ_ _ h=>h.elim⟩
def Stk(P:nh)(sh own:Bk)(g:Goroutine)(w:nm)(K:Bk->Goroutine->nm->Prop):Prop:=
 ∀gs sl t q Shun,gs[0]?=some g->Frm P sh own gs w t q Shun->
  ∃N gs' g' w' sl' t' q' Shun' own',runNT P N (crowd gs w sl) t=(.next (crowd gs' w' sl'),t')/\gs'[0]?=some g'/\Frm P sh own' gs' w' t' q' Shun'/\K own' g' w'
def mainMd(P:nh):Md:=⟨true,λ_=>True,λ_ _ _ _ _ _=>False,Stk P,λ_=>False⟩
def HA{P:nh}{m m' m'':Machine}{t t' t'':Trace}{N K:Nat}(h:runNT P N m t=(.next m',t'))(hk:runNT P K m' t'=(.next m'',t'')):runNT P (N+K) m t=(.next m'',t''):=by
 rw[runNT_add,h];exact hk
def Rly.at(own sh:Bk)(w:nm)(d:Nat):Rly own sh w (w.at d):=⟨⟨rfl,rfl,rfl⟩,ai _,λ_ _ _=>rfl⟩
def evL_of{own sh:Bk}{Shun:Loc->Prop}{B:Nat}{e:Event}(h:Yk own sh e)(hl:∀k,own k\/sh k->k<B)(hs:∀a:Addr,own a.block\/sh a.block->¬Shun (.cell a))(hso:∀r,¬Shun (.obj r)):(∀x,(MemAct.ofEvent e).touch?=some x->¬Shun x.loc)/\e.loc≠.mark .disable/\e.loc≠.mark .enable/\(MemAct.ofEvent e).low B:=by
 rcases h with ⟨a,hl',ho⟩|⟨m,rfl,hn⟩|⟨r,hl',ho⟩
 .obtain⟨loc,wr,sy⟩:=e;simp only at hl';subst hl';have ho':own a.block\/sh a.block:=ho.imp id eJ;refine⟨λx hx hsx=>?_,by simp,by simp,?_⟩
  .have:x.loc=.cell a:=by
    cases wr<;>cases sy<;>simp[MemAct.ofEvent,MemAct.touch?] at hx<;>subst hx<;>rfl
   rw[this] at hsx;exact hs a ho' hsx
  .exact hl _ ho'
 .refine⟨λx hx _=>?_,by simpa using hn.ne_disable,by simpa using hn.ne_enable,?_⟩
  .have:(MemAct.mark m).touch?=some x:=hx;rw[hn.touch] at this;cases this
  .unfold Go.Conc.Neutral at hn;subst hn;trivial
 .obtain⟨loc,wr,sy⟩:=e;simp only at hl';subst hl';refine⟨λx hx hsx=>?_,by simp,by simp,?_⟩
  .have:x.loc=.obj r:=by
    cases wr<;>cases sy<;>simp[MemAct.ofEvent,MemAct.touch?] at hx<;>subst hx<;>rfl
   rw[this] at hsx;exact hso r hsx
  .have:=hl _ (.inl ho);cases wr<;>cases sy<;>exact this
section
variable {P:nh}{sh own:Bk}{Shun:Loc->Prop}{g:Goroutine}
def evL_weak{Shun:Loc->Prop}{B:Nat}{e:Event}(h:(∀x,(MemAct.ofEvent e).touch?=some x->¬Shun x.loc)/\e.loc≠.mark .disable/\e.loc≠.mark .enable/\(MemAct.ofEvent e).low B):EvL Shun B e:=⟨λx hx hs=>absurd hs (h.1 x hx),h.2⟩
def Frm.at{gs:Array Goroutine}{w:nm}{t:Trace}{q:Nat->Nat}(h:Frm P sh own gs w t q Shun)(d:Nat):Frm P sh own gs (w.at d) t q Shun:=⟨h.leav,h.ct,h.over,h.hears,h.seen,h.shun,h.lt⟩
def Frm.awake{gs:Array Goroutine}{w:nm}{t:Trace}{q:Nat->Nat}(h:Frm P sh own gs w t q Shun)(h0:gs[0]?=some g)(hrun:g.status=.running):∀x∈gs,awake x:=by
 intro x hx;obtain⟨i,hi,rfl⟩:=Array.mem_iff_getElem.1 hx;rcases bT i with rfl|hpos
 .have:gs[0]=g:=by simpa [Array.getElem?_eq_getElem hi] using h0
  rw[this];exact awake_of (.inl hrun)
 .exact awake_of ((h.leav.old i _ hpos (Array.getElem?_eq_getElem hi)).status.elim .inl λy=>.inr (.inr y))
def Frm.slip{gs:Array Goroutine}{w:nm}{t:Trace}{q:Nat->Nat}{sl:Option (Nat×Nat)}(h:Frm P sh own gs w t q Shun)(h0:gs[0]?=some g)(hrun:g.status=.running){i:Nat}{x:Goroutine}(hpos:0<i)(hi:gs[i]?=some x)(hx:x.status=.running) :
  ∃gs' q' ops,runT P (crowd gs w sl) i=(.next (crowd gs' w sl),ops)/\gs'.size=gs.size/\gs'[0]?=some g/\Frm P sh own gs' w (t++ops) q' Shun/\sumTo gs.size q'<sumTo gs.size q:=by
 have hq:=h.leav.old i x hpos hi;have hi0:(i == 0)=false:=by simp;omega
 have hlt:i<gs.size:=(Array.getElem?_eq_some_iff.1 hi).1;cases hqi:q i with
 |zero=>rw[hqi] at hq;rw[hq.1] at hx;cases hx
 |succ k=>
  rw[hqi] at hq;rcases hq with ⟨hf,_⟩|⟨_,g',es,hm,hstp,hq'⟩
  .rw[hf] at hx;cases hx
  have hrunT:=runT_crowd_go (P:=P) (w:=w) (sl:=sl) (i:=i) hi (by rw[hi0];exact hstp w)
  have hsum:sumTo gs.size (Go.ConcN.upd q i k)+(k+1)=sumTo gs.size q+k:=by
   have:=sumTo_upd q k id hlt;simpa [hqi] using this
  refine⟨_,Go.ConcN.upd q i k,_,hrunT,by simp,?_,⟨⟨λj y hj hy=>?_,λj hj=>?_⟩,?_,handedOver_app h.over λop hop=>.inr (by obtain⟨e,he,rfl⟩:=Go.Conc.mem_ofEvents hop;exact touch_mute (hm e he)),(Deaf_other t (g:=0) (g':=i) qo _ (λop hop=>by obtain⟨e,_,rfl⟩:=Go.Conc.mem_ofEvents hop;rfl)).trans h.hears,
   seen_app h.seen λop hop=>by obtain⟨e,he,rfl⟩:=Go.Conc.mem_ofEvents hop;exact low_mute (hm e he) _,h.shun,h.lt⟩,by omega⟩
  .have hne:i≠0:=qo;rw[Array.getElem?_setIfInBounds_ne hne,Array.getElem?_map,h0];simp[woken_run hrun]
  .by_cases hji:i=j
   .subst hji;rw[Array.getElem?_setIfInBounds_self_of_lt (by simpa using hlt)] at hy;obtain rfl:=dS hy;rw[upd_same,Deaf_own];exact hq'
   .rw[Array.getElem?_setIfInBounds_ne hji,Array.getElem?_map] at hy;obtain⟨z,hz,rfl⟩:=Option.map_eq_some_iff.1 hy;have hqj:=h.leav.old j z hj hz;rw[woken_quitsD hqj,upd_ne q k (dO hji),Deaf_other t hji _ (λop hop=>by obtain⟨e,_,rfl⟩:=Go.Conc.mem_ofEvents hop;rfl)];exact hqj
  .rw[Deaf_other t (g':=i) (by simp at hj;omega) _ (λop hop=>by obtain⟨e,_,rfl⟩:=Go.Conc.mem_ofEvents hop;rfl)];exact h.leav.above j (by simpa using hj)
  .have:=h.ct.appW (noApart Shun) (k:=i) qo qo (u:=MemOp.ofEvents i x.frame.fn x.frame.place es) λop hop=>by
    obtain⟨e,he,rfl⟩:=Go.Conc.mem_ofEvents hop;exact⟨rfl,λy hy=>by rw[touch_mute (hm e he)] at hy;cases hy⟩
   simpa using this
def Frm.own0{gs:Array Goroutine}{w w':nm}{t:Trace}{q:Nat->Nat}{sl:Option (Nat×Nat)}(h:Frm P sh own gs w t q Shun)(h0:gs[0]?=some g){g':Goroutine}{es:Array Event}(hgo:stepG P true g w=.go g' w' es)(hG:X8 own sh w w' es) :
  ∃gs' ops,runT P (crowd gs w sl) 0=(.next (crowd gs' w' sl),ops)/\gs'.size=gs.size/\gs'[0]?=some g'/\Frm P sh (grow own w w') gs' w' (t++ops) q Shun:=by
 have hrunT:=runT_crowd_go (P:=P) (sl:=sl) (i:=0) h0 (show stepG P (0 == 0) g w=_ from hgo);have hlt:0<gs.size:=(Array.getElem?_eq_some_iff.1 h0).1
 have hlt':∀k,grow own w w' k\/sh k->k<w'.heap.size:=λk hk=>by
  rcases hk with (hk|hk)|hk
  .exact aw (h.lt k (.inl hk)) hG.size
  .exact hk.2
  .exact aw (h.lt k (.inr hk)) hG.size
 have hev:∀e∈es,(∀x,(MemAct.ofEvent e).touch?=some x->¬Shun x.loc)/\e.loc≠.mark .disable/\e.loc≠.mark .enable/\(MemAct.ofEvent e).low w'.heap.size:=λe he=>by
  refine evL_of (hG.evs e he) hlt' (λa ha hs=>?_) λr hr=>by obtain⟨a,h1,_⟩:=h.shun _ hr;cases h1
  obtain⟨b,hb,h1,h2,h3⟩:=h.shun _ hs;cases hb;rcases ha with (ha|ha)|ha
  .exact h2 ha
  .omega
  .exact h3 ha
 refine⟨_,_,hrunT,by simp,by simp[hlt],⟨⟨λj x hj hx=>?_,λj hj=>?_⟩,?_,handedOver_app h.over λop hop=>.inl (by obtain⟨e,he,rfl⟩:=Go.Conc.mem_ofEvents hop;rfl),?_,seen_app (λop hop=>MemAct.low_mono hG.size (h.seen op hop)) λop hop=>by obtain⟨e,he,rfl⟩:=Go.Conc.mem_ofEvents hop;exact(hev e he).2.2.2,λl hl=>?_,hlt'⟩⟩
 .have hne:0≠j:=qo;rw[Array.getElem?_setIfInBounds_ne hne,Array.getElem?_map] at hx;obtain⟨y,hy,rfl⟩:=Option.map_eq_some_iff.1 hx;have hq:=h.leav.old j y hj hy;rw[woken_quitsD hq,Deaf_other t qo _ (λop hop=>by obtain⟨e,_,rfl⟩:=Go.Conc.mem_ofEvents hop;rfl)];exact hq
 .rw[Deaf_other t (g':=0) (by simp at hj;omega) _ (λop hop=>by obtain⟨e,_,rfl⟩:=Go.Conc.mem_ofEvents hop;rfl)];exact h.leav.above j (by simpa using hj)
 .have:=h.ct.app0 (noApart Shun) (u:=MemOp.ofEvents 0 g.frame.fn g.frame.place es) λop hop=>by
   obtain⟨e,he,rfl⟩:=Go.Conc.mem_ofEvents hop;exact⟨rfl,λy hy=>.inr ⟨(hev e he).1 y hy,λ_ _ _ h=>h,λ_ _ _ _ h=>h⟩⟩
  simpa using this
 .rw[Deaf_own,deafBehind_still (λe he=>⟨(hev e he).2.1,(hev e he).2.2.1⟩)];exact h.hears
 .obtain⟨a,rfl,h1,h2,h3⟩:=h.shun l hl;exact⟨a,rfl,aw h1 hG.size,λhk=>hk.elim h2 λhk=>by omega,h3⟩
def step_beside(hrun:g.status=.running):∀(M:Nat) (gs:Array Goroutine) (w:nm) (sl:Option (Nat×Nat)) (t:Trace) (q:Nat->Nat),sumTo gs.size q<=M->gs[0]?=some g->Frm P sh own gs w t q Shun->
  (∀d,∃g' w' es,stepG P true g (w.at d)=.go g' w' es/\X8 own sh (w.at d) w' es)->
  ∃N d g' w' es gs' sl' t' q',stepG P true g (w.at d)=.go g' w' es/\X8 own sh (w.at d) w' es/\runNT P N (crowd gs w sl) t=(.next (crowd gs' w' sl'),t')/\gs'[0]?=some g'/\Frm P sh (grow own (w.at d) w') gs' w' t' q' Shun:=by
 intro M;induction M with
 |zero=>
  intro gs w sl t q hM h0 hF hst;obtain⟨i,x,d,sl',hi,hx,hstp⟩:=crowd_pick (P:=P) (w:=w) (sl:=sl) (hF.awake h0 hrun) ⟨0,g,h0,hrun⟩;rcases bT i with rfl|hpos
  .obtain⟨g',w',es,hgo,hG⟩:=hst d;obtain⟨gs',ops,h1,_,h2,h3⟩:=(hF.at d).own0 (sl:=sl') h0 hgo hG;exact⟨1,d,g',w',es,gs',sl',_,q,hgo,hG,by simp only[runNT,hstp,h1],h2,h3⟩
  .obtain⟨gs',q',ops,h1,h2,h3,h4,h5⟩:=(hF.at d).slip (sl:=sl') h0 hrun hpos hi hx;omega
 |succ M ih=>
  intro gs w sl t q hM h0 hF hst;obtain⟨i,x,d,sl',hi,hx,hstp⟩:=crowd_pick (P:=P) (w:=w) (sl:=sl) (hF.awake h0 hrun) ⟨0,g,h0,hrun⟩;rcases bT i with rfl|hpos
  .obtain⟨g',w',es,hgo,hG⟩:=hst d;obtain⟨gs',ops,h1,_,h2,h3⟩:=(hF.at d).own0 (sl:=sl') h0 hgo hG;exact⟨1,d,g',w',es,gs',sl',_,q,hgo,hG,by simp only[runNT,hstp,h1],h2,h3⟩
  .obtain⟨gs',q',ops,h1,h2,h3,h4,h5⟩:=(hF.at d).slip (sl:=sl') h0 hrun hpos hi hx;obtain⟨N,d2,g',w',es,gs2,sl2,t2,q2,e1,e2,e3,e4,e5⟩:=ih gs' (w.at d) sl' (t++ops) q' (by rw[h2];omega) h3 h4 hst;refine⟨N+1,d2,g',w',es,gs2,sl2,t2,q2,e1,e2,?_,e4,e5⟩;simp only[runNT,hstp,h1];exact e3
end
def run_main{P:nh}{sh:Bk}{Stop:Bk->Goroutine->nm->Prop}{own:Bk}{g:Goroutine}{w:nm}(h:Run P (mainMd P) sh Stop own g w) :
  ∀gs sl t q Shun,gs[0]?=some g->Frm P sh own gs w t q Shun->
   ∃N gs' g' w' sl' t' q' Shun' own',runNT P N (crowd gs w sl) t=(.next (crowd gs' w' sl'),t')/\gs'[0]?=some g'/\Frm P sh own' gs' w' t' q' Shun'/\∀w1,Rly own' sh w' w1->Stop own' g' w1:=by
 induction h with
 |stop h=>intro gs sl t q Shun h0 hF;exact⟨0,gs,_,_,sl,t,q,Shun,_,rfl,h0,hF,h⟩
 |@step own g w g' w' es own' h1 h2 h3 ih=>
  intro gs sl t q Shun h0 hF;obtain⟨N,d,g1,w1,es1,gs1,sl1,t1,q1,e1,e2,e3,e4,e5⟩:=step_beside h1 (sumTo gs.size q) gs w sl t q (ai _) h0 hF λd=>let h:=h2 _ (Rly.at own sh w d) trivial;⟨_,_,_,h.1,h.2.elim eJ False.elim⟩;obtain⟨e6,e8⟩:=h2 _ (Rly.at own sh w d) trivial;have e8:=e8.elim And.right False.elim
  have e7:g1=g' (w.at d)/\w1=w' (w.at d):=by
   have:=e1.symm.trans e6;injection this with a b
   exact⟨a,b⟩
  obtain⟨rfl,rfl⟩:=e7;obtain⟨K,gs2,g2,w2,sl2,t2,q2,S2,own2,k1,k2,k3,k4⟩:=ih _ (Rly.at own sh w d) trivial gs1 sl1 t1 q1 Shun e4 (by rw[e8];exact e5);exact⟨N+K,gs2,g2,w2,sl2,t2,q2,S2,own2,HA e3 k1,k2,k3,k4⟩
 |@stroke own g w K h1 h2 h3 ih=>
  intro gs sl t q Shun h0 hF;obtain⟨N,gs1,g1,w1,sl1,t1,q1,S1,Xt,e1,e2,e3,e4⟩:=h2 w (.refl _ _ _) gs sl t q Shun h0 hF;obtain⟨N2,gs2,g2,w2,sl2,t2,q2,S2,own2,k1,k2,k3,k4⟩:=ih Xt g1 w1 e4 gs1 sl1 t1 q1 S1 e2 e3;exact⟨N+N2,gs2,g2,w2,sl2,t2,q2,S2,own2,HA e1 k1,k2,k3,k4⟩
def FQ(P:nh)(sh:Bk)(Post:nA->nm->Prop)(own:Bk)(g:Goroutine)(w:nm):Prop:=
 g.status=.running/\∃v es,stepG P true g w=.ended (.done v) w es/\(∀e∈es,Yk own sh e)/\Post v w
def Ub{P:nh}{sh:Bk}{Post:nA->nm->Prop}{own:Bk}{g:Goroutine}{w:nm}(h:Run P (mainMd P) sh (FQ P sh Post) own g w)
  {gs:Array Goroutine} {sl:Option (Nat×Nat)} {t:Trace} {q:Nat->Nat} {Shun:Loc->Prop} (h0:gs[0]?=some g) (hF:Frm P sh own gs w t q Shun) :
  ∃N last o w' t',runNT P (N+1) (crowd gs w sl) t=(.ended o w',t')/\runN P N (crowd gs w sl)=.next last/\step P last=.ended o w'/\Go.Conc.Good P Post last o w' t':=by
 obtain⟨N,gs1,g1,w1,sl1,t1,q1,S1,Xt,e1,e2,e3,e4⟩:=run_main h gs sl t q Shun h0 hF
 obtain⟨K,last,o,w',t',k1,k2,k3,k4⟩:=beside_ends (P:=P) (Shun:=S1) (B:=w1.heap.size) (D:=λ_ _ es=>∀e∈es,EvL S1 w1.heap.size e) (Post:=Post) (sl:=sl1) (n:=0) (λ_ _ _ h=>h) e2 e3.leav e3.past (by
  rintro w2 ⟨d,rfl⟩;obtain⟨h1,v,es,h2,h3,h4⟩:=e4 _ (Rly.at Xt sh w1 d);refine⟨h1,v,es,h2,λe he=>evL_weak (evL_of (h3 e he) e3.lt (λa ha hs=>?_) λr hr=>by obtain⟨a,c1,_⟩:=e3.shun _ hr;cases c1),h4⟩;obtain⟨b,hb,c1,c2,c3⟩:=e3.shun _ hs;cases hb;exact ha.elim c2 c3)
 refine⟨N+K,last,o,w',t',?_,?_,k3,k4⟩
 .rw[er,runNT_add,e1];exact k1
 .rw[runN_add,<-runNT_fst P _ _ t,e1];exact k2
end W
end
section
open Go.RowKit
open Go.Conc hiding base G
namespace W
inductive Tr:Type where
 |leaf
 |node (f:nm->Tr)
inductive Tr.lt:Tr->Tr->Prop where
 |mk (f:nm->Tr) (w:nm):Tr.lt (f w) (.node f)
def Tr.acc:∀t:Tr,Acc Tr.lt t
 |.leaf=>⟨_,λy h=>by cases h⟩
 |.node f=>⟨_,λy h=>by cases h with|mk _ w=>exact Tr.acc (f w)⟩
def Dn(n:Nat)(F' F:Nat->Tr):Prop:=∃i,i<n/\Tr.lt (F' i) (F i)/\∀k,k≠i->F' k=F k
def Dn.acc:∀(n:Nat) (F:Nat->Tr),Acc (Dn n) F
 |0,F=>⟨_,λF' ⟨i,h,_⟩=>by omega⟩
 |n+1,F=>by
  have key:∀t:Tr,∀F:Nat->Tr,F n=t->Acc (Dn (n+1)) F:=by
   intro t;induction Tr.acc t with
   |intro t _ ih=>
    intro F;induction Dn.acc n F with
    |intro F _ ih2=>
     intro hF;refine⟨_,λF' hd=>?_⟩;obtain⟨i,hi,hlt,hsame⟩:=hd;by_cases h:i=n
     .subst h;exact ih (F' i) (hF ▸ hlt) F' rfl
     .exact ih2 F' ⟨i,by omega,hlt,hsame⟩ (by rw[hsame n (dO h)];exact hF)
  exact key _ F rfl
def Dn.upd{n i:Nat}{F:Nat->Tr}{t:Tr}(hi:i<n)(h:Tr.lt t (F i)):Dn n (Go.ConcN.upd F i t) F:=⟨i,hi,by rw[Go.ConcN.upd_same];exact h,λk hk=>Go.ConcN.upd_ne F t hk⟩
section
variable (P:nh)(main:Md)(sh:Bk)(Stop:Bk->Goroutine->nm->Prop)
inductive RunT:Tr->Bk->Goroutine->nm->Prop where
 |stop {own:Bk} {g:Goroutine} {w:nm}:(∀w1,Rly own sh w w1->Stop own g w1)->RunT .leaf own g w
 |step {own:Bk} {g:Goroutine} {w:nm} (f:nm->Tr) (g':nm->Goroutine) (w':nm->nm) (es:nm->Array Event) (own':nm->Bk):g.status=.running->
   (∀w1,Rly own sh w w1->main.inv w1->stepG P main.b g w1=.go (g' w1) (w' w1) (es w1)/\Fair main sh own w1 (w' w1) (es w1) (own' w1))->
   (∀w1,Rly own sh w w1->main.inv w1->RunT (f w1) (own' w1) (g' w1) (w' w1))->RunT (.node f) own g w
end
section
variable {P:nh}{main:Md}{sh:Bk}{Stop Stop':Bk->Goroutine->nm->Prop}{own:Bk}{g:Goroutine}{w w1:nm}
def Run.tree(hm:∀sh own g w K,¬main.Sp sh own g w K)(h:Run P main sh Stop own g w):∃t,RunT P main sh Stop t own g w:=by
 classical
 induction h with
 |stop h=>exact⟨_,.stop h⟩
 |@step own g w g' w' es own' h1 h2 h3 ih=>
  have ih':∀w1,Rly own sh w w1/\main.inv w1->∃t,RunT P main sh Stop t (own' w1) (g' w1) (w' w1):=λw1 h=>ih w1 h.1 h.2;refine⟨_,.step (λw1=>if hx:Rly own sh w w1/\main.inv w1 then(ih' w1 hx).choose else .leaf) g' w' es own' h1 h2 λw1 k1 k2=>?_⟩;rw[dif_pos (show Rly own sh w w1/\main.inv w1 from⟨k1,k2⟩)];exact(ih' w1 ⟨k1,k2⟩).choose_spec
 |stroke K h1 h2 h3 ih=>exact absurd (h2 _ (Rly.refl _ _ _)) (hm _ _ _ _ _)
def RunT.rely{t:Tr}(h:RunT P main sh Stop t own g w)(hr:Rly own sh w w1):RunT P main sh Stop t own g w1:=by
 cases h with
 |stop h=>exact .stop λw2 h2=>h w2 (hr.trans h2)
 |step f g' w' es own' h1 h2 h3=>exact .step f g' w' es own' h1 (λw2 h=>h2 w2 (hr.trans h)) λw2 h=>h3 w2 (hr.trans h)
def Run.bind(h:Run P main sh Stop own g w)(hk:∀own g w,Stop own g w->Run P main sh Stop' own g w):Run P main sh Stop' own g w:=by
 induction h with
 |stop h=>exact hk _ _ _ (h _ (Rly.refl _ _ _))
 |step g' w' es own' h1 h2 _ ih=>exact .step g' w' es own' h1 h2 ih
 |stroke K h1 h2 _ ih=>exact .stroke K h1 h2 ih
end
end W
end
section
open Go.RowKit
open Go.Conc hiding base G
open Go.ConcN (CT PermW Apart Ok0 OkW RelBy ShN)
namespace W
def NT(t:Trace)(l:Loc):Prop:=∀i a,touchAt t i=some a->a.loc≠l
def GR{B:Nat}{x:MemAct}{a:Touch}(h:x.low B)(ha:x.touch?=some a):a.loc.low B:=by
 cases x with
 |access e=>simp only[MemAct.touch?,b8] at ha;subst ha;exact h
 |mark m=>cases m<;>simp[MemAct.touch?] at ha<;>subst ha<;>exact h
 |_=>simp[MemAct.touch?] at ha
def NT.cell{t:Trace}{B:Nat}(h:∀op∈t,op.act.low B){a:Addr}(ha:B<=a.block):NT t (.cell a):=λi x hx e=>by
 obtain⟨op,ho,hox⟩:=touch_of hx;have:=GR (h op (bX ho)) hox;rw[e] at this;exact absurd this (by show ¬a.block<B;omega)
def NT.obj{t:Trace}{B:Nat}(h:∀op∈t,op.act.low B){r:Nat}(hr:B<=r):NT t (.obj r):=λi x hx e=>by
 obtain⟨op,ho,hox⟩:=touch_of hx;have:=GR (h op (bX ho)) hox;rw[e] at this;exact absurd this (by show ¬r<B;omega)
def NT.perm{t:Trace}{l:Loc}(h:NT t l)(g:Nat):Perm t g l:=λi a ha e=>absurd e (h i a ha)
def VK{Sh Sh':Loc->Prop}{Own Own' Rd Rd':Nat->Loc->Prop}{t:Trace}{j:Nat}(h:CT Sh Own Rd t j)(hs:∀l,Sh' l->Sh l\/NT t l)(hs2:∀l,Sh l->Sh' l)
  (ho:∀k,1<=k->k<=j->∀l,Own' k l->Own k l\/NT t l) (ho2:∀k,1<=k->k<=j->∀l,Own k l->Own' k l) (hr:∀k,1<=k->k<=j->∀l,Rd' k l↔Rd k l):CT Sh' Own' Rd' t j:=by
 refine⟨λi op x hi hx hsx=>?_,λk k1 kj l hl=>(ho k k1 kj l hl).elim (h.own k k1 kj l) λx=>x.perm _,λk k1 kj l hl=>h.rd k k1 kj l ((hr k k1 kj l).1 hl),λl hl hn=>h.free l (λx=>hl (hs2 l x)) λk k1 kj=>⟨λx=>(hn k k1 kj).1 (ho2 k k1 kj l x),λx=>(hn k k1 kj).2 ((hr k k1 kj l).2 x)⟩,
  λl hl hn=>h.mine l (λx=>hl (hs2 l x)) λk k1 kj x=>hn k k1 kj (ho2 k k1 kj l x),h.nr,h.gs⟩
 rcases hs _ hsx with h1|h1
 .exact h.quiet i op x hi hx h1
 .exact absurd rfl (h1 i x (by rw[touchAt_of hi];exact hx))
def ct_join{Sh:Loc->Prop}{Own Rd:Nat->Loc->Prop}{t:Trace}{j:Nat}(h:CT Sh Own Rd t j)(hk:∀l,¬Sh l->Perm t 0 l):CT Sh (λ_ _=>False) (λ_ _=>False) t j:=
 ⟨h.quiet,λ_ _ _ _ h=>h.elim,λ_ _ _ _ h=>h.elim,λl hl _=>hk l hl,λl hl _=>.of (hk l hl),h.nr,h.gs⟩
def HO(b:Nat)(t:Trace):Prop:=∀i g,t.g? i=some g->g≠0->g<=b->t.counts i->∃k,t.g? k=some 0/\HappensBefore t i k
def HO.app{b:Nat}{t u:Trace}(h:HO b t)(hu:∀op∈u,op.g=0\/b<op.g\/op.act.touch?=none):HO b (t++u):=by
 intro i g hg hne hle hc;obtain⟨x,hx,hz⟩:=hc;obtain⟨op,hop,hox⟩:=touch_of hx;rcases getElem?_append_cases hop with ⟨hi,hop'⟩|⟨_,hopu⟩
 .obtain⟨j,hj,hb⟩:=h i g (by simpa [Trace.g?,getElem?_append_old hi] using hg) hne hle ((counts_old hi).1 ⟨x,hx,hz⟩)
  have hjl:j<t.size:=by
   unfold Trace.g? at hj;obtain⟨z,hz,_⟩:=Option.map_eq_some_iff.1 hj;exact lt_size_of_getElem? hz
  exact⟨j,by simpa [Trace.g?,getElem?_append_old hjl] using hj,hb_app u hb⟩
 .have hgo:op.g=g:=by simpa [Trace.g?,hop] using hg
  rcases hu op hopu with h0|h0|h0
  .exact absurd (hgo ▸ h0) hne
  .omega
  .rw[h0] at hox;cases hox
end W
end
end Go.Proofs.YtbnobghgnbockaaGreat
