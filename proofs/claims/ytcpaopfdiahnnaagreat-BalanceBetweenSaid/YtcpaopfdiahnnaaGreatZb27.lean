/- Lemmas for a law. Conditions: none. -/
import Derived.Test.YtcpaopfdiahnnaaGreatZb26
set_option linter.all false
set_option maxHeartbeats 32000000
set_option maxRecDepth 100000
namespace Go.Proofs.YtcpaopfdiahnnaaGreat
section
open W Go.RowKit
def wpx (l r:Nat->Rat) (f:Rat) (k j:Nat):Rat:=if j < k then l j - f*r j else l j
def wpx_up {l r:Nat->Rat} {f:Rat} {k:Nat} (i:Nat):upd (wpx l r f k) k (wpx l r f k k - f*r k) i=wpx l r f (k+1) i:=by
 unfold wpx upd;by_cases c:i=k
 ·subst c;simp
 ·by_cases c2:i < k
  ·simp[c,c2,show i < k+1 by omega]
  ·simp[c,c2,show ¬i < k+1 by omega]
def wpx_keep {l r:Nat->Rat} {f:Rat} {k:Nat} (h:r k=0) (i:Nat):wpx l r f k i=wpx l r f (k+1) i:=by
 unfold wpx;by_cases c:i=k
 ·subst c;simp[h];grind
 ·by_cases c2:i < k
  ·simp[c2,show i < k+1 by omega]
  ·simp[c2,show ¬i < k+1 by omega]
def IsWp (lv rw:Value) (n:Nat) (mr:Nat->QM) (z:Nat->Rat):Qd:=λv B G=>∃ ml,v=.tuple #[]∧B=[Ow.slice lv 64 4 (Qe n ml),Ow.slice rw 64 4 (Qe n mr)]∧G=[mF n ml z]
namespace Z
attribute [local irreducible] WC WL WD YO LO Qq W.Fin Qw Qu Qj Row QQ Qy KnS Has W.One Ql Qr
def d180 {G G':Prop} (h:G') (s:Bx G'->G:=by
 intro h;first|refine gB ?_|(apply WC.draw (id:=6) [0,1,2,3,4,5,6,7,10] (.h 0<|.h 1<|.h 2<|.h 3<|.h 4<|.h 5<|.h 6<|.h 7<|.l 8<|.l 9<|.h 10<|.l 11 .done) mixed kr)|fail
 exact Bx.h h):G:=s ⟨h⟩
def wipe_c (lv rw:Value) (n col K:Nat) (ml mr:Nat->QM) (l r:Nat->Rat) (hc:col < n) (hn:n<=100000) (hK:K<=100000000) (hl:∀ k,k < n->Sq K (l k)) (hr:∀ k,k < n->Sq K (r k)) :
  FnB Tryz.prog 180 [lv,rw,.int .i64 (col:Int)] [Ow.slice lv 64 4 (Qe n ml),Ow.slice rw 64 4 (Qe n mr)] [mF n ml l,mF n mr r] (IsWp lv rw n mr (λk=>l k - l col*r k)):=by
 refine fO [(0,lv),(1,rw),(2,(.int .i64 (col:Int)))] 38 Tryz.func180 Tryz.ntmps180 λh0=>?_;have hsm:∀ {q},Sq K q->Sm q:=λh=>h.sm qo;refine WC.fact (isQ (qv (ml col)) (l col)) (W.Has.q hmA hc) ?_;repeat'(first|intro(g:Nat)|refine d180 ?_|intro v)
 refine cV (Zn.sign (ml col) (l col)) ?_;revert g;intro g6;by_cases c0:l col=0
 ·have hz:=QS.2 c0;repeat'(first|intro(g:Nat)|refine d180 ?_|intro v)
  refine WC.fact (mF n ml (λk=>l k - l col*r k)) (W.Has.QW (qf:=l) hmA (λi _=>by rw[c0];grind)) ?_;refine WC.ret ?_;exact Fin.p [Ow.slice lv 64 4 (Qe n ml),Ow.slice rw 64 4 (Qe n mr)] [mF n ml (λk=>l k - l col*r k)] (Qv.t0 rfl) meA slA haA ⟨_,rfl,rfl,rfl⟩
 have hz:¬sgn (l col).num=0:=λh=>c0 (QS.1 h);repeat'(first|intro(g:Nat)|refine d180 ?_|intro v)
 refine WC.lp (σ:=Nat×(Nat->QM)) (λs=>[(18,.int .i64 (s.1:Int)),(17,.int .i64 (n:Int)),(16,rw),(0,lv),(6,ptr g6)]) (λs=>[Ow.cells g6 64 (qcs (ml col)),Ow.slice lv 64 4 (Qe n s.2),Ow.slice rw 64 4 (Qe n mr)])
  (λs=>[isQ (qv (ml col)) (l col),mF n s.2 (wpx l r (l col) s.1),mF n mr r,ge h0]) (λs=>s.1<=n) (λs=>n - s.1) (0,ml) (Nat.zero_le _) ?_ (hG:=.cons hmA (.cons (W.Has.QW (qf:=l) hmA λi _=>by simp[wpx]) (.cons hmA (.cons hmA .nil))))
 rintro⟨k,mx⟩ hk;simp only at hk ⊢;by_cases c:k < n
 ·refine WC.fact (isQ (qv (mr k)) (r k)) (W.Has.q (ms:=mr) hmA c) ?_;refine WC.fact (isQ (qv (mx k)) (wpx l r (l col) k k)) (W.Has.q (ms:=mx) hmA c) ?_;have hw:wpx l r (l col) k k=l k:=by simp[wpx]
  repeat'(first|intro(g:Nat)|refine d180 ?_|intro v)
  refine cV (Zn.sign (mr k) (r k)) ?_;by_cases c1:r k=0
  ·have hz1:=QS.2 c1;repeat'(first|intro(g:Nat)|refine d180 ?_|intro v)
   exact Qq.mk (k+1,mx) (by show k+1<=n;omega) (by show n - (k+1) < n - k;omega) (hG:=.cons hmA (.cons (W.Has.QW (qf:=wpx l r (l col) k) hmA λi _=>wpx_keep c1 i) (.cons hmA (.cons hmA .nil))))
  ·have hz1:¬sgn (r k).num=0:=λh=>c1 (QS.1 h);repeat'(first|intro(g:Nat)|refine d180 ?_|intro v)
   refine cW (Zn.mul (ml col) (mr k) (l col) (r k) (hsm (hl col hc)) (hsm (hr k c))) λm1=>?_;repeat'(first|intro(g:Nat)|refine d180 ?_|intro v)
   refine cW (Zn.sub (mx k) m1 (wpx l r (l col) k k) (l col*r k) (by rw[hw];exact hsm (hl k c)) (((hl col hc).mul (hr k c)).sm qo)) λm2=>?_;refine WD.fact (mF n (upd mx k m2) (wpx l r (l col) (k+1))) ((W.Has.J3 (k:=k) (ms:=mx) (m:=m2) (qf:=wpx l r (l col) k) hmA hmA).QW λi _=>wpx_up i) ?_;repeat'(first|intro(g:Nat)|refine d180 ?_|intro v)
   exact Qq.mk (k+1,_) (by show k+1<=n;omega) (by show n - (k+1) < n - k;omega)
 ·obtain rfl:k=n:=qo;repeat'(first|intro(g:Nat)|refine d180 ?_|intro v)
  exact Fin.p [Ow.slice lv 64 4 (Qe k mx),Ow.slice rw 64 4 (Qe k mr)] [mF k mx (λj=>l j - l col*r j)] (Qv.t0 rfl) meA slA (.cons (W.Has.QW (qf:=wpx l r (l col) k) hmA (λi hi=>by simp[wpx,hi])) .nil) ⟨_,rfl,rfl,rfl⟩
end Z
end
section
open W Go.RowKit
abbrev TB (xg vars m n:Nat) (tv cv bv:Value) (rv:Nat->Value) (ms:Nat->Nat->QM) (mc:Nat->QM) (b:Nat->Nat):List Ow:=
 Ow.cells xg 157 [.int .i64 (vars:Int),.int .i64 (m:Int),.int .i64 (n:Int),tv,cv,bv]::Ow.slice tv 34 1 (fnV m rv)::Ow.slice cv 64 4 (Qe (n+1) mc)::Ow.slice bv 3 1 (ints (fnL m b))::J4 m (n+1) rv ms
def IsTB (xg vars m n:Nat) (tv cv bv:Value) (rv:Nat->Value) (s:X.St):Qd:=λv B G=>∃ ms mc,v=.tuple #[]∧B=TB xg vars m n tv cv bv rv ms mc s.b∧G=[mT m (n+1) ms s.t,mF (n+1) mc s.c]
def dvx (l:Nat->Rat) (d:Rat) (k j:Nat):Rat:=if j < k then l j / d else l j
def dvx_up {l:Nat->Rat} {d:Rat} {k:Nat} (i:Nat):upd (dvx l d k) k (dvx l d k k / d) i=dvx l d (k+1) i:=by
 unfold dvx upd;by_cases c:i=k
 ·subst c;simp
 ·by_cases c2:i < k
  ·simp[c,c2,show i < k+1 by omega]
  ·simp[c,c2,show ¬i < k+1 by omega]
def pvx (s:X.St) (row col i j k:Nat):Rat:=if j=row then s.t row k / s.t row col else if j < i then s.t j k - s.t j col*(s.t row k / s.t row col) else s.t j k
namespace Z
attribute [local irreducible] WC WL WD YO LO Qq W.Fin Qw Qu Qj Row QQ Qy KnS Has W.One Ql Qr
def d183 {G G':Prop} (h:G') (s:Bx G'->G:=by
 intro h;first|refine gB ?_|(apply WC.draw (id:=4) [0,1,2,3,4,5,6,7,8,9,11] (.h 0<|.h 1<|.h 2<|.h 3<|.h 4<|.h 5<|.h 6<|.h 7<|.h 8<|.h 9<|.l 10<|.h 11<|.l 12 .done) mixed kr)|(apply WC.draw (id:=12) [0,1,2,3,4,5,6,7,8,9,10,11] (.h 0<|.h 1<|.h 2<|.h 3<|.h 4<|.h 5<|.h 6<|.h 7<|.h 8<|.h 9<|.h 10<|.h 11<|.l 12 .done) mixed kr)|fail
 exact Bx.h h):G:=s ⟨h⟩
def pivot_c (xg vars m n:Nat) (tv cv bv:Value) (rv:Nat->Value) (ms:Nat->Nat->QM) (mc:Nat->QM) (s:X.St) (row col K:Nat) (hrow:row < m) (hcol:col < n) (hm:m<=1000) (hn:n<=10000) (hK:K<=20000000) (hK0:0 < K) (hs:∀ i,i < m->∀ k,k < n+1->Sq K (s.t i k)) (hc:∀ k,k < n+1->Sq K (s.c k)) :
  FnB Tryz.prog 183 [ptr xg,.int .i64 (row:Int),.int .i64 (col:Int)] (TB xg vars m n tv cv bv rv ms mc s.b) [mT m (n+1) ms s.t,mF (n+1) mc s.c] (IsTB xg vars m n tv cv bv rv (X.pv s row col)):=by
 refine fO [(0,(ptr xg)),(1,(.int .i64 (row:Int))),(2,(.int .i64 (col:Int)))] 91 Tryz.func183 Tryz.ntmps183 λh0=>?_;have hsm:∀ {q},Sq K q->Sm q:=λh=>h.sm qo;refine WC.perm (Ow.cells xg 157 [.int .i64 (vars:Int),.int .i64 (m:Int),.int .i64 (n:Int),tv,cv,bv]::Ow.slice tv 34 1 (fnV m rv)::Ow.slice cv 64 4 (Qe (n+1) mc)::Ow.slice bv 3 1 (ints (fnL m s.b))::XO (n+1) (rv row) (ms row)::ZD m (n+1) rv ms row) ((((((J9 hrow).cons _).cons _).cons _).cons _)) ?_;refine WC.fact (isQ (qv (ms row col)) (s.t row col)) (W.Has.qt hmA hrow qo) ?_;refine WC.fact (mF (n+1) (ms row) (s.t row)) (W.Has.tm hmA hrow) ?_;repeat'(first|intro(g:Nat)|refine d183 ?_|intro v)
 revert g;intro g6;have hd:=hs row hrow col qo
 refine WC.lp (σ:=Nat×(Nat->QM)) (λst=>[(29,.int .i64 (st.1:Int)),(28,.int .i64 ((n+1:Nat):Int)),(27,rv row),(0,ptr xg),(1,.int .i64 (row:Int)),(2,.int .i64 (col:Int)),(6,ptr g6)])
  (λst=>Ow.cells g6 64 (qcs (ms row col))::Ow.cells xg 157 [.int .i64 (vars:Int),.int .i64 (m:Int),.int .i64 (n:Int),tv,cv,bv]::Ow.slice tv 34 1 (fnV m rv)::Ow.slice cv 64 4 (Qe (n+1) mc)::Ow.slice bv 3 1 (ints (fnL m s.b))::XO (n+1) (rv row) st.2::ZD m (n+1) rv ms row)
  (λst=>[isQ (qv (ms row col)) (s.t row col),mF (n+1) st.2 (dvx (s.t row) (s.t row col) st.1),mT m (n+1) ms s.t,mF (n+1) mc s.c,ge h0]) (λst=>st.1<=n+1) (λst=>n+1 - st.1) (0,ms row) (Nat.zero_le _) ?_ (hG:=.cons hmA (.cons (W.Has.QW (qf:=s.t row) hmA λi _=>by simp[dvx]) (.cons hmA (.cons hmA (.cons hmA .nil)))))
 rintro⟨k,mx⟩ hk;simp only at hk ⊢;by_cases c:k < n+1
 ·refine WC.fact (isQ (qv (mx k)) (dvx (s.t row) (s.t row col) k k)) (W.Has.q (ms:=mx) hmA c) ?_;have hw:dvx (s.t row) (s.t row col) k k=s.t row k:=by simp[dvx]
  repeat'(first|intro(g:Nat)|refine d183 ?_|intro v)
  refine cW (Zn.div (mx k) (ms row col) (dvx (s.t row) (s.t row col) k k) (s.t row col) (by rw[hw];exact hsm (hs row hrow k c)) (hsm hd)) λm2=>?_;refine WD.fact (mF (n+1) (upd mx k m2) (dvx (s.t row) (s.t row col) (k+1))) ((W.Has.J3 (k:=k) (ms:=mx) (m:=m2) (qf:=dvx (s.t row) (s.t row col) k) hmA hmA).QW λi _=>dvx_up i) ?_;repeat'(first|intro(g:Nat)|refine d183 ?_|intro v)
  exact Qq.mk (k+1,_) (by show k+1<=n+1;omega) (by show n+1 - (k+1) < n+1 - k;omega)
 ·obtain rfl:k=n+1:=qo;repeat'(first|intro(g:Nat)|refine d183 ?_|intro v)
  refine WC.fact (mT m (n+1) (upd ms row mx) (pvx s row col 0)) ((W.Has.tset (ms:=ms) (tq:=s.t) (i:=row) hmA (x:=mx) hmA).tsame λi _ k hk=>?_) ?_
  ·unfold upd pvx dvx;by_cases c:i=row
   ·simp[c,hk]
   ·simp[c]
  refine WC.perm (Ow.cells g6 64 (qcs (ms row col))::Ow.cells xg 157 [.int .i64 (vars:Int),.int .i64 (m:Int),.int .i64 (n:Int),tv,cv,bv]::Ow.slice tv 34 1 (fnV m rv)::Ow.slice cv 64 4 (Qe (n+1) mc)::Ow.slice bv 3 1 (ints (fnL m s.b))::J4 m (n+1) rv (upd ms row mx)) ((((((rows_upd hrow).symm.cons _).cons _).cons _).cons _).cons _) ?_
  refine WC.lpP (σ:=Nat×(Nat->Nat->QM)) (λst=>[(52,.int .i64 (st.1:Int)),(51,.int .i64 (m:Int)),(50,tv),(0,ptr xg),(1,.int .i64 (row:Int)),(2,.int .i64 (col:Int))])
   (λst=>Ow.cells xg 157 [.int .i64 (vars:Int),.int .i64 (m:Int),.int .i64 (n:Int),tv,cv,bv]::Ow.slice tv 34 1 (fnV m rv)::Ow.slice cv 64 4 (Qe (n+1) mc)::Ow.slice bv 3 1 (ints (fnL m s.b))::J4 m (n+1) rv st.2)
   (λst=>[mT m (n+1) st.2 (pvx s row col st.1),mF (n+1) mc s.c,ge h0]) (λst=>st.1<=m) (λst=>m - st.1) (0,upd ms row mx) (Nat.zero_le _) ?_
  clear c hk;rintro⟨i,mt⟩ hi;simp only at hi ⊢;have hdq:∀ k,k < n+1->Sq (2*K) (s.t row k / s.t row col):=λk hk=>(Sq.div hK0 (hs row hrow k hk) hd).up qo;have hrq:∀ k,k < n+1->Sq (2*K) (pvx s row col i row k):=λk hk=>by unfold pvx;rw[if_pos rfl];exact hdq k hk
  by_cases ci:i < m
  ·by_cases cr:i=row
   ·repeat'(first|intro(g:Nat)|refine d183 ?_|intro v)
    exact Xh.mk (i+1,mt) (by show i+1<=m;omega) (by show m - (i+1) < m - i;omega) [] (by rw[List.append_nil]) (hG:=.cons (W.Has.tsame (tq:=pvx s row col i) hmA λj _ k _=>by
     unfold pvx;by_cases c1:j=row
     ·rw[if_pos c1,if_pos c1]
     ·rw[if_neg c1,if_neg c1];by_cases c2:j < i
      ·rw[if_pos c2,if_pos qo]
      ·rw[if_neg c2,if_neg qo]) (.cons hmA (.cons hmA .nil)))
   ·have hiq:∀ k,k < n+1->Sq (2*K) (pvx s row col i i k):=λk hk=>by unfold pvx;rw[if_neg cr,if_neg qo];exact(hs i ci k hk).up qo
    repeat'(first|intro(g:Nat)|refine d183 ?_|intro v)
    refine WL.QG (mF (n+1) (mt i) (pvx s row col i i)) (W.Has.tm hmA ci) ?_;refine WL.QG (mF (n+1) (mt row) (pvx s row col i row)) (W.Has.tm hmA hrow) ?_;refine WL.Y3 [XO (n+1) (rv i) (mt i),XO (n+1) (rv row) (mt row)] (Ow.cells xg 157 [.int .i64 (vars:Int),.int .i64 (m:Int),.int .i64 (n:Int),tv,cv,bv]::Ow.slice tv 34 1 (fnV m rv)::Ow.slice cv 64 4 (Qe (n+1) mc)::Ow.slice bv 3 1 (ints (fnL m s.b))::HJ m (n+1) rv mt row i) (perm6 (rows_two hrow ci cr)) (wipe_c (rv i) (rv row) (n+1) col (2*K) (mt i) (mt row) (pvx s row col i i) (pvx s row col i row) qo qo qo hiq hrq) ?_;rintro _ _ _ ⟨mi,rfl,rfl,rfl⟩;refine sNn ?_;refine WL.QG (mT m (n+1) (upd mt i mi) (pvx s row col (i+1))) ((W.Has.tset (ms:=mt) (tq:=pvx s row col i) (i:=i) hmA (x:=mi) hmA).tsame λj _ k _=>?_) ?_
    ·unfold upd;by_cases c1:j=i
     ·subst c1;rw[if_pos rfl];unfold pvx;rw[if_neg cr,if_neg qo,if_pos rfl,if_neg cr,if_neg qo,if_neg cr,if_pos qo]
     ·rw[if_neg c1];unfold pvx;by_cases c3:j=row
      ·rw[if_pos c3,if_pos c3]
      ·rw[if_neg c3,if_neg c3];by_cases c2:j < i
       ·rw[if_pos c2,if_pos qo]
       ·rw[if_neg c2,if_neg qo]
    repeat'(first|intro(g:Nat)|refine d183 ?_|intro v)
    exact Xh.mk (i+1,upd mt i mi) (by show i+1<=m;omega) (by show m - (i+1) < m - i;omega) [] (by rw[List.append_nil];exact(perm6 (Gl hrow ci cr)).symm)
  ·obtain rfl:m=i:=qo;repeat'(first|intro(g:Nat)|refine d183 ?_|intro v)
   refine WD.fact (mF (n+1) (mt row) (pvx s row col m row)) (W.Has.tm hmA hrow) ?_;refine WD.Y3 [Ow.slice cv 64 4 (Qe (n+1) mc),XO (n+1) (rv row) (mt row)] (Ow.cells xg 157 [.int .i64 (vars:Int),.int .i64 (m:Int),.int .i64 (n:Int),tv,cv,bv]::Ow.slice tv 34 1 (fnV m rv)::Ow.slice bv 3 1 (ints (fnL m s.b))::ZD m (n+1) rv mt row) (perm5 (J9 hrow)) (wipe_c cv (rv row) (n+1) col (2*K) mc (mt row) s.c (pvx s row col m row) qo qo qo (λk hk=>(hc k hk).up qo) hrq) ?_;rintro _ _ _ ⟨mc2,rfl,rfl,rfl⟩;refine sNn ?_;refine WD.perm (Ow.cells xg 157 [.int .i64 (vars:Int),.int .i64 (m:Int),.int .i64 (n:Int),tv,cv,bv]::Ow.slice tv 34 1 (fnV m rv)::Ow.slice cv 64 4 (Qe (n+1) mc2)::Ow.slice bv 3 1 (ints (fnL m s.b))::J4 m (n+1) rv mt) (perm5 (J9 hrow)).symm ?_;have hfl:=fnL_len m s.b;repeat'(first|intro(g:Nat)|refine d183 ?_|intro v)
   rw[fnL_set]
   exact Fin.p (TB xg vars m n tv cv bv rv mt mc2 (X.pv s row col).b) [mT m (n+1) mt (X.pv s row col).t,mF (n+1) mc2 (X.pv s row col).c] (Qv.t0 rfl) meA (List.Sublist.refl _) (.cons (W.Has.tsame (tq:=pvx s row col m) hmA λj hj k _=>by
    unfold pvx X.pv;simp only;by_cases c1:j=row
    ·rw[if_pos c1,if_pos c1]
    ·rw[if_neg c1,if_neg c1,if_pos hj]) (.cons (W.Has.QW (qf:=λk=>s.c k - s.c col*pvx s row col m row k) hmA λk _=>by unfold pvx X.pv;simp) .nil)) ⟨mt,mc2,rfl,rfl,rfl⟩
end Z
end
section
open W Go.RowKit
abbrev TF (xg vars m n:Nat) (tv cv bv:Value) (rv:Nat->Value) (ms:Nat->Nat->QM) (s:X.St):List Fct:=
 [ce xg 157 [.int .i64 (vars:Int),.int .i64 (m:Int),.int .i64 (n:Int),tv,cv,bv],sV tv m rv,rF m (n+1) rv ms s.t,sN bv m s.b]
def XM:Option Nat->Int
 |none=>-1
 |some r=>r
def H9 {n:Nat} {s:X.St} {k:Nat}:∀ {i r:Nat},X.lev n s k i=some r->r < i
 |0,_,h=>by simp[X.lev] at h
 |i+1,r,h=>by
  rw[X.lev] at h;split at h
  ·have:=H9 h;omega
  ·split at h
   ·cases h;omega
   ·rename_i q hq
    have:=H9 hq;split at h <;> (cases h;omega)
def lst (n:Nat) (s:X.St) (k i:Nat):Rat:=match X.lev n s k i with
 |none=>0
 |some r=>s.t r n / s.t r k
def le_iff {q:Rat}:sgn q.num<=0↔q<=0:=by
 have:=@ZZ q;rw[<-Rat.not_lt,<-this];omega
namespace Z
attribute [local irreducible] WC WL WD YO LO Qq W.Fin Qw Qu Qj Row QQ Qy KnS Has W.One Ql Qr
def d182 {G G':Prop} (h:G') (s:Bx G'->G:=by
 intro h;first|refine gM ?_|(apply WC.draw (id:=7) [0,1,2,3,4,5,6,7,8,9,10] (.h 0<|.h 1<|.h 2<|.h 3<|.h 4<|.h 5<|.h 6<|.h 7<|.h 8<|.h 9<|.h 10<|.m 11 (.l 12<|.l 13 .done) (.l 12<|.l 11<|.l 13 .done)) mixed kr)|(apply WC.draw (id:=11) [0,1,2,3,4,5,6,7,8,9,10,11,12,13,14,15,16,17,18,19,20,21,22] (.h 0<|.h 1<|.h 2<|.h 3<|.h 4<|.h 5<|.h 6<|.h 7<|.h 8<|.h 9<|.h 10<|.h 11<|.h 12<|.h 13<|.h 14<|.h 15<|.h 16<|.h 17<|.h 18<|.h 19<|.h 20<|.h 21<|.h 22 .done) mixed kr)|(apply WC.draw (id:=12) [0,1,2] (.h 0<|.h 1<|.h 2<|.l 3 .done) mixed kr)|fail
 exact Bx.h h):G:=s ⟨h⟩
def leaving_c (xg vars m n:Nat) (tv cv bv:Value) (rv:Nat->Value) (ms:Nat->Nat->QM) (s:X.St) (col K:Nat) (hcol:col < n) (hm:m<=1000) (hn:n<=10000) (hK:K<=20000000) (hK0:0 < K) (hs:∀ i,i < m->∀ k,k < n+1->Sq K (s.t i k)) :
  FnB Tryz.prog 182 [ptr xg,.int .i64 (col:Int)] [] (TF xg vars m n tv cv bv rv ms s) (IsV (.int .i64 (XM (X.lev n s col m)))):=by
 refine fO [(0,(ptr xg)),(1,(.int .i64 (col:Int)))] 71 Tryz.func182 Tryz.ntmps182 λh0=>?_;have hsm:∀ {q},Sq K q->Sm q:=λh=>h.sm qo;repeat'(first|intro(g:Nat)|refine d182 ?_|refine gN ?_ ?_|intro v)
 revert g;intro g6
 refine WC.lp (σ:=Nat×Int×QM×Rat) (λst=>[(5,.int .i64 st.2.1),(16,.int .i64 (st.1:Int)),(15,.int .i64 (m:Int)),(14,tv),(0,ptr xg),(1,.int .i64 (col:Int)),(6,ptr g6)]) (λst=>[Ow.cells g6 64 (qcs st.2.2.1)])
  (λst=>isQ (qv st.2.2.1) st.2.2.2::ge h0::TF xg vars m n tv cv bv rv ms s) (λst=>st.1<=m∧st.2.1=XM (X.lev n s col st.1)∧st.2.2.2=lst n s col st.1) (λst=>m - st.1) (0,-1,m00,0) ⟨Nat.zero_le _,rfl,rfl⟩ ?_ (hG:=.cons Jy sfA)
 rintro⟨i,bi,ml,ql⟩ ⟨hi,hbi,hql⟩;simp only at hi hbi hql ⊢;by_cases c:i < m
 ·refine WC.fact (isQ (qv (ms i col)) (s.t i col)) (W.Has.qt (W.Has.rt (rv:=rv) hmA) c qo) ?_;refine WC.fact (isQ (qv (ms i n)) (s.t i n)) (W.Has.qt (W.Has.rt (rv:=rv) hmA) c qo) ?_;repeat'(first|intro(g:Nat)|refine d182 ?_|refine gN ?_ ?_|intro v)
  refine cV (Zn.sign (ms i col) (s.t i col)) ?_;by_cases c1:s.t i col<=0
  ·have hz:=le_iff.2 c1;have e1:X.lev n s col (i+1)=X.lev n s col i:=by rw[X.lev,if_pos c1]
   have e2:lst n s col (i+1)=lst n s col i:=by unfold lst;rw[e1]
   repeat'(first|intro(g:Nat)|refine d182 ?_|refine gN ?_ ?_|intro v)
   exact Qq.mk (i+1,bi,ml,ql) ⟨by show i+1<=m;omega,by rw[e1];exact hbi,by rw[e2];exact hql⟩ (by show m - (i+1) < m - i;omega)
  ·have hz:¬sgn (s.t i col).num<=0:=λh=>c1 (le_iff.1 h);have hdv:Sq (2*K) (s.t i n / s.t i col):=(Sq.div hK0 (hs i c n qo) (hs i c col qo)).up qo;repeat'(first|intro(g:Nat)|refine gA ?_|intro v)
   refine WC.YJ (σ:=Nat×QM) (λst=>[(9,ptr st.1),(7,.int .i64 (i:Int)),(5,.int .i64 bi),(16,.int .i64 (i:Int)),(15,.int .i64 (m:Int)),(14,tv),(0,ptr xg),(1,.int .i64 (col:Int)),(6,ptr g6)]) (λst=>[Ow.cells st.1 64 (qcs st.2),Ow.cells g6 64 (qcs ml)])
    (λst=>isQ (qv st.2) (s.t i n / s.t i col)::isQ (qv ml) ql::ge h0::TF xg vars m n tv cv bv rv ms s) (λ_=>True) ?_ ?_
   ·repeat'(first|intro(g:Nat)|refine d182 ?_|refine gN ?_ ?_|refine cW (Zn.div (ms i n) (ms i col) (s.t i n) (s.t i col) (hsm (hs i c n qo)) (hsm (hs i c col qo))) λzm=>?_|intro v)
    all_goals(apply Ex2;refine⟨trivial,?_,?_,?_⟩;(focus(repeat(first|exact Sub.nil _|refine Sub.cons rfl ?_)));(focus(repeat(first|exact Q9.nil _|(apply Q9.cons;(repeat(first|exact Rem.head|apply Rem.tail))))));(focus(repeat(first|exact Qk.nil|(apply Qk.cons;exact hsA)))))
   rintro⟨g9,mq⟩ _;simp only;cases hL:X.lev n s col i with
   |none=>
    rw[hL] at hbi;have hb1:bi= -1:=hbi;have e1:X.lev n s col (i+1)=some i:=by rw[X.lev,if_neg c1,hL]
    repeat'(first|intro(g:Nat)|refine d182 ?_|refine gN ?_ ?_|intro v)
    exact Qq.mk (i+1,(i:Int),mq,_) ⟨by show i+1<=m;omega,by show(i:Int)=XM (X.lev n s col (i+1));rw[e1];rfl,by unfold lst;rw[e1]⟩ (by show m - (i+1) < m - i;omega)
   |some r=>
    rw[hL] at hbi;obtain rfl:bi=(r:Int):=hbi;have hri:=H9 hL;have hq:ql=s.t r n / s.t r col:=by rw[hql];unfold lst;rw[hL]
    have hlq:Sq (2*K) ql:=by rw[hq];exact(Sq.div hK0 (hs r qo n qo) (hs r qo col qo)).up qo
    repeat'(first|intro(g:Nat)|refine d182 ?_|refine gN ?_ ?_|intro v)
    refine cV (Zn.cmp mq ml (s.t i n / s.t i col) ql (hdv.sm qo) (hlq.sm qo)) ?_;have hlt:=@Kj (s.t i n / s.t i col) ql;have heq:=@cmpQ_eq (s.t i n / s.t i col) ql;generalize J6 (s.t i n / s.t i col) ql=cq at *;by_cases k1:cq < 0
    ·have e1:X.lev n s col (i+1)=some i:=by rw[X.lev,if_neg c1,hL];exact if_pos (.inl (by rw[<-hq];exact hlt.1 k1))
     repeat'(first|intro(g:Nat)|refine d182 ?_|refine gN ?_ ?_|intro v)
     exact Qq.mk (i+1,(i:Int),mq,_) ⟨by show i+1<=m;omega,by show(i:Int)=XM (X.lev n s col (i+1));rw[e1];rfl,by unfold lst;rw[e1]⟩ (by show m - (i+1) < m - i;omega)
    ·by_cases k2:cq=0
     ·by_cases k3:s.b i < s.b r
      ·have e1:X.lev n s col (i+1)=some i:=by rw[X.lev,if_neg c1,hL];exact if_pos (.inr ⟨by rw[<-hq];exact heq.1 k2,k3⟩)
       repeat'(first|intro(g:Nat)|refine d182 ?_|refine gN ?_ ?_|intro v)
       exact Qq.mk (i+1,(i:Int),mq,_) ⟨by show i+1<=m;omega,by show(i:Int)=XM (X.lev n s col (i+1));rw[e1];rfl,by unfold lst;rw[e1]⟩ (by show m - (i+1) < m - i;omega)
      ·have e1:X.lev n s col (i+1)=some r:=by rw[X.lev,if_neg c1,hL];exact if_neg (by rw[<-hq];rintro(h|h);exact k1 (hlt.2 h);exact k3 h.2)
       repeat'(first|intro(g:Nat)|refine d182 ?_|refine gN ?_ ?_|intro v)
       exact Qq.mk (i+1,(r:Int),ml,ql) ⟨by show i+1<=m;omega,by show(r:Int)=XM (X.lev n s col (i+1));rw[e1];rfl,by unfold lst;rw[e1];exact hq⟩ (by show m - (i+1) < m - i;omega)
     ·have e1:X.lev n s col (i+1)=some r:=by rw[X.lev,if_neg c1,hL];exact if_neg (by rw[<-hq];rintro(h|h);exact k1 (hlt.2 h);exact k2 (heq.2 h.1))
      repeat'(first|intro(g:Nat)|refine d182 ?_|refine gN ?_ ?_|intro v)
      exact Qq.mk (i+1,(r:Int),ml,ql) ⟨by show i+1<=m;omega,by show(r:Int)=XM (X.lev n s col (i+1));rw[e1];rfl,by unfold lst;rw[e1];exact hq⟩ (by show m - (i+1) < m - i;omega)
 ·obtain rfl:m=i:=qo;rw[<-hbi];repeat'(first|intro(g:Nat)|refine d182 ?_|refine gN ?_ ?_|intro v)
  refine WC.ret ?_;exact Fin.v (Qv.t1 rfl rfl) meA rfl
end Z
end
section
open W Go.RowKit
def IsF (n:Nat) (q:Nat->Rat):Qd:=λv B G=>∃ ms,B=[]∧G=[fF v n ms q]
def UG {p:Nat->Bool} {n i:Nat} (h:i < n):X.fstT p (n - i) i=if p i=true then some i else X.fstT p (n - (i+1)) (i+1):=by
 rw[show n - i=n - (i+1)+1 by omega,X.fstT]
def He {F:List Fct} (ms:Nat->QM) (q:Nat->Rat):Has F (fF (.slice none 0 0) 0 ms q):=λp hf=>⟨⟨none,0,rfl,Nat.le_refl _,by unfold maxLen;omega,.inl ⟨rfl,rfl,rfl⟩⟩,λi hi=>absurd hi qo⟩
namespace Z
attribute [local irreducible] WC WL WD YO LO Qq W.Fin Qw Qu Qj Row QQ Qy KnS Has W.One Ql Qr
def index_c (v:Value) (m k:Nat) (b:Nat->Nat):FnB Tryz.prog 187 [v,.int .i64 (k:Int)] [] [sN v m b] (IsV (.int .i64 (XM (X.fstT (λi=>decide (b i=k)) m 0)))):=by
 refine fO [(0,v),(1,(.int .i64 (k:Int)))] 19 Tryz.func187 Tryz.ntmps187 λh0=>?_;refine WC.lenF (v:=v) (m:=m) hmA λhm=>?_;repeat'(first|intro(g:Nat)|refine gA ?_|intro v)
 refine WC.lp (σ:=Nat) (λi=>[(8,.int .i64 (i:Int)),(7,.int .i64 (m:Int)),(0,v),(1,.int .i64 (k:Int))]) (λ_=>[]) (λ_=>[ge h0,sN v m b]) (λi=>i<=m∧X.fstT (λi=>decide (b i=k)) m 0=X.fstT (λi=>decide (b i=k)) (m - i) i) (λi=>m - i) 0 ⟨Nat.zero_le _,rfl⟩ ?_;rintro i ⟨hi,he⟩;by_cases c:i < m
 ·rw[UG c] at he;by_cases c1:b i=k
  ·rw[if_pos (decide_eq_true c1)] at he;rw[he];repeat'(first|intro(g:Nat)|refine gA ?_|intro v)
   refine WC.ret ?_;exact Fin.v (Qv.t1 rfl rfl) meA rfl
  ·rw[if_neg (by simpa using c1)] at he;repeat'(first|intro(g:Nat)|refine gA ?_|intro v)
   exact Qq.mk (i+1) ⟨by omega,he⟩ qo
 ·obtain rfl:m=i:=qo;rw[Nat.sub_self,X.fstT] at he;rw[he];repeat'(first|intro(g:Nat)|refine gA ?_|intro v)
  refine WC.ret ?_;exact Fin.v (Qv.t1 rfl rfl) meA rfl
def indexF_c (v:Value) (n:Nat) (ms:Nat->QM) (q:Nat->Rat) (f:FuncId) (first cap:List Value) (Fc:List Fct) (p:Nat->Bool)
  (hf:∀ i,i < n->FnB Tryz.prog f (first++[qv (ms i)]++cap) [] (isQ (qv (ms i)) (q i)::Fc) (IsV (.bool (p i)))) :
  FnB Tryz.prog 185 [v,.func (.func f) first.toArray cap.toArray] [] (fF v n ms q::Fc) (IsV (.int .i64 (XM (X.fstT p n 0)))):=by
 refine fO [(0,v),(1,(.func (.func f) first.toArray cap.toArray))] 19 Tryz.func185 Tryz.ntmps185 λh0=>?_;refine WC.lenF (v:=v) (m:=n) (W.Has.fs (ms:=ms) (qf:=q) hmA) λhm=>?_;repeat'(first|intro(g:Nat)|refine gA ?_|intro v)
 refine WC.lp (σ:=Nat) (λi=>[(8,.int .i64 (i:Int)),(7,.int .i64 (n:Int)),(0,v),(1,.func (.func f) first.toArray cap.toArray)]) (λ_=>[]) (λ_=>ge h0::fF v n ms q::Fc) (λi=>i<=n∧X.fstT p n 0=X.fstT p (n - i) i) (λi=>n - i) 0 ⟨Nat.zero_le _,rfl⟩ ?_ (hG:=.cons hmA (.cons hmA (Qk.tail λ_ h=>by(repeat(first|exact h|apply List.mem_cons_of_mem)))));rintro i ⟨hi,he⟩;by_cases c:i < n
 ·rw[UG c] at he;repeat'(first|intro(g:Nat)|refine gA ?_|intro v)
  refine WL.Xw first cap (vs:=[qv (ms i)]) (hf i c) ?_ (hF:=.cons (W.Has.q (W.Has.fm (v:=v) hmA) c) (Qk.tail λ_ h=>by(repeat(first|exact h|apply List.mem_cons_of_mem))))
  rintro _ _ _ ⟨rfl,rfl,rfl⟩;refine sNn ?_;cases hp:p i with
  |true=>
   rw[if_pos hp] at he;rw[he];repeat'(first|intro(g:Nat)|refine gA ?_|intro v)
   refine WC.ret ?_;exact Fin.v (Qv.t1 rfl rfl) meA rfl
  |false=>
   rw[if_neg (by rw[hp];decide)] at he;repeat'(first|intro(g:Nat)|refine gA ?_|intro v)
   exact Qq.mk (i+1) ⟨by omega,he⟩ qo (hG:=.cons hmA (.cons hmA (Qk.tail λ_ h=>by(repeat(first|exact h|apply List.mem_cons_of_mem)))))
 ·obtain rfl:n=i:=qo;rw[Nat.sub_self,X.fstT] at he;rw[he];repeat'(first|intro(g:Nat)|refine gA ?_|intro v)
  refine WC.ret ?_;exact Fin.v (Qv.t1 rfl rfl) meA rfl
def clone_c (u:Value) (n:Nat) (ms:Nat->QM) (q:Nat->Rat) (hn:n<=1000000):FnB Tryz.prog 184 [u] [] [fF u n ms q] (IsF n q):=by
 refine fO [(0,u)] 8 Tryz.func184 Tryz.ntmps184 λh0=>?_;cases hnl:isNil u with
 |true=>
  refine WC.nilF (v:=u) (m:=n) (ms:=ms) (q:=q) hmA hnl λh=>?_;subst h;repeat'(first|intro(g:Nat)|refine gA ?_|intro v)
  refine WC.ret ?_;exact Fp [fF (.slice none 0 0) 0 ms q] (Qv.t1 rfl rfl) (.cons (He _ _) .nil) ⟨ms,rfl,rfl⟩
 |false=>
  repeat'(first|intro(g:Nat)|refine gA ?_|intro v)
  refine WC.Jh v n ms q (by repeat(first|exact Sel.head|apply Sel.tail)) (W.Has.fm (v:=u) hmA) ?_;refine WC.ret ?_;exact Fp [fF v n ms q] (Qv.t1 rfl rfl) haA ⟨ms,rfl,rfl⟩
end Z
end
section
open W Go.RowKit
inductive Z6:List Ow->List Ow->Prop where
 |nil:Z6 [] []
 |drop {v:Value} {el sz:Nat} {cs:List Value} {l l':List Ow}:Z6 l l'->Z6 (.slice v el sz cs::l) l'
 |keep {b:Ow} {l l':List Ow}:Z6 l l'->Z6 (b::l) (b::l')
def Z6.sub {l l':List Ow} (h:Z6 l l'):l'.Sublist l:=by
 induction h with
 |nil=>exact .slnil
 |drop _ ih=>exact ih.cons _
 |keep _ ih=>exact ih.cons_cons _
def WC.drawS {P:Program} {n:Nat} {L:List Oper} {e:Env} {bx b0:List Ow} {F:List Fct} {id:Nat} {Q:Post} (hs:List Nat) (p:Plan) (hm:P.follows .mixedOrders=true) (hc:(Region.noSelect L.toArray && (chk L hs p (Array.replicate L.length false) && Nat.ble p.len L.length))=true)
  (hr:Z6 bx b0) (h:WD P n L hs b0 F p e bx F (Q .normal)):WC P n (.region id L.toArray true) e bx F Q:=WC.drawB b0 hr.sub hs p hm hc h
def fcj (l:List Fct):Fct:=⟨λh=>∀ f∈l,f.p h,λ_ _ hl h f hf=>f.mono _ _ hl (h f hf)⟩
def W.Has.cj {F:List Fct}:∀ {l:List Fct},Qk F l->Has F (fcj l):=λh p hf f hfl=>h.all f hfl p hf
def W.FnB.cj {P:Program} {f:FuncId} {args:List Value} {bx:List Ow} {g:Fct} {l:List Fct} {R:Qd} (h:FnB P f args bx (g::l) R):FnB P f args bx [g,fcj l] R:=
 ⟨h.1,λfr w ho=>h.2 fr w ⟨ho.frame,ho.apart,ho.nodup,ho.owns,λk hk=>by
  rcases List.mem_cons.1 hk with rfl|hk
  ·exact ho.facts _ (List.mem_cons_self ..)
  ·exact ho.facts (fcj l) (by simp) k hk⟩⟩
def W.FnB.cj2 {P:Program} {f:FuncId} {args:List Value} {bx:List Ow} {g g2:Fct} {l:List Fct} {R:Qd} (h:FnB P f args bx (g::g2::l) R):FnB P f args bx [g,g2,fcj l] R:=
 ⟨h.1,λfr w ho=>h.2 fr w ⟨ho.frame,ho.apart,ho.nodup,ho.owns,λk hk=>by
  rcases List.mem_cons.1 hk with rfl|hk
  ·exact ho.facts _ (by simp)
  ·rcases List.mem_cons.1 hk with rfl|hk
   ·exact ho.facts _ (by simp)
   ·exact ho.facts (fcj l) (by simp) k hk⟩⟩
section
variable {P:Program} {e:Env} {bx:List Ow} {F:List Fct} {fn:Func} {t s r:Tmp} {ty ty':TypeId} {g g' tg tg' m m':Nat} {cs cs':List Value} {x:Value}
def W.Qv.ccx (h:fn.results=#[.cell t ty,.cell s ty',.tmp r]) (hl:W.look e t=some (.pointer (some ⟨g,0,none⟩))) (hb:Ow.cells g tg cs∈bx) (hr:Row P ty m) (hm:cs.length=m) (hl2:W.look e s=some (.pointer (some ⟨g',0,none⟩))) (hb2:Ow.cells g' tg' cs'∈bx) (hr':Row P ty' m') (hm2:cs'.length=m') (hx:W.look e r=some x) :
  Qv P fn e bx F (.tuple #[.agg cs.toArray,.agg cs'.toArray,x]):=λn fr a w hk ho=>by
 have he:=ZM (P:=P) (fr:=fr) (w:=w) (t:=ty) (b:=g) (q:=0) (cs:=cs) (es:=#[]) (by rw[hm];exact hr) (λ_ _=>.inl (ho.own hb (by simp[Ow.ids]))) (λi v hv=>by rw[Nat.zero_add,Je (ho.owns _ hb)];exact hv) (Reads.none fr);have he2:=ZM (P:=P) (fr:=fr) (w:=w) (t:=ty') (b:=g') (q:=0) (cs:=cs') (by rw[hm2];exact hr') (λ_ _=>.inl (ho.own hb2 (by simp[Ow.ids]))) (λi v hv=>by rw[Nat.zero_add,Je (ho.owns _ hb2)];exact hv) he;obtain⟨⟨d,hu,hd⟩,hi⟩:=hr;obtain⟨⟨d',hu',hd'⟩,hi'⟩:=hr';have h1:a.tmps[t]?.getD undef=.pointer (some ⟨g,0,none⟩):=by rw[hk.at' _ _ hl];rfl
 have h2:=run_loadVar_mid (P:=P) w g 0 ty cs d (λi v hv=>by rw[Nat.zero_add,Je (ho.owns _ hb)];exact hv) hu hd (by rw[hi];simp[hm]);have h3:a.tmps[s]?.getD undef=.pointer (some ⟨g',0,none⟩):=by rw[hk.at' _ _ hl2];rfl
 have h4:=run_loadVar_mid (P:=P) w g' 0 ty' cs' d' (λi v hv=>by rw[Nat.zero_add,Je (ho.owns _ hb2)];exact hv) hu' hd' (by rw[hi'];simp[hm2]);have h5:a.tmps[r]?.getD undef=x:=by rw[hk.at' _ _ hx];rfl
 simp only[results,h];refine⟨by simp[h1,asAddr,h2,h3,h4,h5],?_⟩;have h6:=he2.ok;simpa [h1,asAddr,h2,h3,h4,h5] using h6
end
end
section
open W Go.RowKit
open Bl (Vc Bd Tc Sc)
def IsEnds (M:SM) (S:Sc):Qd:=λv B G=>B=[]∧G=[lF JY v (2*S.m) (edM M.T) (edT S.T)]
def IsR2 (p q:Rat):Qd:=λv B G=>∃ m1 m2:QM,v=.tuple #[qv m1,qv m2]∧B=[]∧G=[isQ (qv m1) p,isQ (qv m2) q]
def W.Has.edk {M:SM} {S:Sc} {F:List Fct} {i:Nat} (h:Has F (fT (M.T i) (S.T i))):Has F (fE (edM M.T (2*i)) (edT S.T (2*i)))∧Has F (fE (edM M.T (2*i+1)) (edT S.T (2*i+1))):=by
 rw[(edT_0 ..).1,(edT_0 ..).2,(edM_0 ..).1,(edM_0 ..).2];exact⟨W.Has.eof h.tp h,W.Has.eof h.tq h⟩
namespace K
attribute [local irreducible] WC WL WD YO LO Qq W.Fin Qw Qu Qj Row QQ Qy KnS Has W.One Ql Qr
def d60 {G G':Prop} (h:G') (s:Bx G'->G:=by
 intro h;first|refine gB ?_|(apply WC.draw (id:=1) [0,1,2,3,4,5,6,9,10,11,12,13,14,15] (.h 0<|.h 1<|.h 2<|.h 3<|.h 4<|.h 5<|.h 6<|.h 9<|.h 10<|.h 11<|.h 12<|.h 13<|.h 14<|.h 15<|.l 7<|.l 8<|.l 16<|.l 17<|.l 18<|.l 19<|.l 20 .done) mixed kr)|fail
 exact Bx.h h):G:=s ⟨h⟩
def d65 {G G':Prop} (h:G') (s:Bx G'->G:=by
 intro h;first|refine gB ?_|(apply WC.draw (id:=1) [0,1,2,3,5] (.h 0<|.h 1<|.h 2<|.h 3<|.h 5<|.l 4<|.l 6<|.l 7 .done) mixed kr)|fail
 exact Bx.h h):G:=s ⟨h⟩
def ends_c (M:SM) (S:Sc) (ho:S.ok):FnB Tryz.prog 56 [M.t] [] [fSt M S] (IsEnds M S):=by
 refine fO [(0,M.t)] 25 Tryz.func56 Tryz.ntmps56 λh0=>?_;have hm:=ho.m;refine WC.Jd 112 38 ?_;repeat'(first|intro(g:Nat)|refine gA ?_|intro v)
 refine WC.lp (σ:=Nat×Value) (λst=>[(8,.int .i64 (st.1:Int)),(7,.int .i64 (S.m:Int)),(6,M.t),(3,st.2)]) (λst=>[lO JY st.2 112 (2*st.1) (edM M.T) (edT S.T)]) (λst=>[lM JY (2*st.1) (edM M.T) (edT S.T),ge h0,fSt M S]) (λst=>st.1<=S.m) (λst=>S.m - st.1) (0,.slice none 0 0) (Nat.zero_le _) ?_ (hG:=.cons W.Has.Gk haA);rintro⟨i,v⟩ hi;simp only at hi ⊢;by_cases c:i < S.m
 ·refine WC.fact (fT (M.T i) (S.T i)) (W.Has.lk (S:=Qb) (v:=M.t) hmA c) ?_;repeat'(first|intro(g:Nat)|refine gA ?_|intro v)
  exact Qq.mk (i+1,_) (by simp only;omega) (by simp only;omega) (hG:=.cons (((W.Has.mem (by repeat(first|exact List.Mem.head _|apply List.Mem.tail)):Has _ (lM JY (2*i) (edM M.T) (edT S.T))).mappS (W.Has.edk (M:=M) (S:=S) hmA).1).mappS (W.Has.edk (M:=M) (S:=S) hmA).2) haA)
 ·obtain rfl:i=S.m:=qo;repeat'(first|intro(g:Nat)|refine gA ?_|intro v)
  refine WC.QB (S:=JY) (n:=2*S.m) (ms:=edM M.T) (xs:=edT S.T) (by repeat(first|exact Sel.head|apply Sel.tail)) hmA ?_;refine WC.ret ?_;exact Fp [lF JY v (2*S.m) (edM M.T) (edT S.T)] (Qv.t1 rfl rfl) haA ⟨rfl,rfl⟩
def ZW (M:SM) (S:Sc) (c:Nat) (hn:S.n<=5) (hc:c < 2 ^ S.n):FnB Tryz.prog 20 [M.l,.int .i64 (c:Int)] [] [fSl M S] (IsF S.n (S.wt c)):=by
 refine fO [(0,M.l),(1,(.int .i64 (c:Int)))] 46 Tryz.func20 Tryz.ntmps20 λh0=>?_;have h32:2 ^ S.n<=2 ^ 5:=Nat.pow_le_pow_right qd hn;obtain⟨N,hN⟩:∃ N,2 ^ S.n=N:=⟨_,rfl⟩
 have hc':c < 32:=qo;have hcN:(c:Int) < ((2 ^ S.n:Nat):Int):=qo;refine WC.Jd 64 4 ?_;repeat'(first|intro(g:Nat)|refine gA ?_|intro v)
 refine WC.lp (σ:=Nat×Value×(Nat->QM)) (λst=>[(24,.int .i64 (st.1:Int)),(23,.int .i64 (S.n:Int)),(22,M.l),(1,.int .i64 (c:Int)),(5,st.2.1)]) (λst=>[Ow.slice st.2.1 64 4 (Qe st.1 st.2.2)]) (λst=>[mF st.1 st.2.2 (S.wt c),ge h0,fSl M S]) (λst=>st.1<=S.n) (λst=>S.n - st.1) (0,.slice none 0 0,λ_=>m00) (Nat.zero_le _) ?_ (hG:=.cons (W.Has.mFn _ _) haA);rintro⟨i,v,ms⟩ hi;simp only at hi ⊢;by_cases c1:i < S.n
 ·refine WC.fact (fB (M.B i) (S.B i)) (W.Has.lk (S:=Qm) (v:=M.l) hmA c1) ?_;refine WC.fact (isQ (qv (M.B i).lo) (S.B i).lo) (W.Has.bl (b:=S.B i) hmA) ?_;refine WC.fact (isQ (qv (M.B i).hi) (S.B i).hi) (W.Has.bh (b:=S.B i) hmA) ?_;have hq:(c:Int) / 2 ^ ((i:Int)).toNat=((c / 2 ^ i:Nat):Int):=by rw[Int.toNat_natCast];simp
  have hq2:c / 2 ^ i<=c:=Nat.div_le_self _ _
  have hX:0<=(c:Int) / 2 ^ ((i:Int)).toNat∧(c:Int) / 2 ^ ((i:Int)).toNat<=31∧((c:Int) / 2 ^ ((i:Int)).toNat % 2=1↔c / 2 ^ i % 2=1):=by
   rw[hq];generalize c / 2 ^ i=X at *;omega
  obtain⟨hX0,hX1,hX2⟩:=hX;by_cases c2:c / 2 ^ i % 2=1
  ·have hw:S.wt c i=(S.B i).hi:=if_pos c2;repeat'(first|intro(g:Nat)|refine gA ?_|intro v)
   exact Qq.mk (i+1,_,upd ms i (M.B i).hi) (by simp only;omega) (by simp only;omega) (hG:=.cons (W.Has.QW (W.Has.Ul (qf:=S.wt c) hmA (m:=(M.B i).hi) (z:=(S.B i).hi) hmA) (λk hk=>by unfold upd;split;(rename_i e;rw[e,hw]);rfl)) haA)
  ·have hw:S.wt c i=(S.B i).lo:=if_neg c2;repeat'(first|intro(g:Nat)|refine gA ?_|intro v)
   exact Qq.mk (i+1,_,upd ms i (M.B i).lo) (by simp only;omega) (by simp only;omega) (hG:=.cons (W.Has.QW (W.Has.Ul (qf:=S.wt c) hmA (m:=(M.B i).lo) (z:=(S.B i).lo) hmA) (λk hk=>by unfold upd;split;(rename_i e;rw[e,hw]);rfl)) haA)
 ·obtain rfl:i=S.n:=qo;repeat'(first|intro(g:Nat)|refine gA ?_|intro v)
  refine WC.Jh v S.n ms (S.wt c) (by repeat(first|exact Sel.head|apply Sel.tail)) hmA ?_;refine WC.ret ?_;exact Fp [fF v S.n ms (S.wt c)] (Qv.t1 rfl rfl) haA ⟨ms,rfl,rfl⟩
def forcex_c (me:EM) (e:Ed) (mv:VM) (f:Vc):FnB Tryz.prog 63 [edv me e,vv mv] [] [fV mv f] (IsR f.x):=by
 refine fO [(0,(edv me e)),(1,(vv mv))] 7 Tryz.func63 Tryz.ntmps63 λh0=>?_;refine WC.fact (isQ (qv mv.1) f.x) (W.Has.vx (a:=f) hmA) ?_;refine WC.fact (isQ (qv mv.2) f.y) (W.Has.vy (a:=f) hmA) ?_;repeat'(first|intro(g:Nat)|refine gA ?_|intro v)
 refine WC.ret ?_;exact Fp [isQ (qv mv.1) f.x] (rcV T.r64) haA ⟨mv.1,rfl,rfl,rfl⟩
def forcey_c (me:EM) (e:Ed) (mv:VM) (f:Vc):FnB Tryz.prog 64 [edv me e,vv mv] [] [fV mv f] (IsR f.y):=by
 refine fO [(0,(edv me e)),(1,(vv mv))] 7 Tryz.func64 Tryz.ntmps64 λh0=>?_;refine WC.fact (isQ (qv mv.1) f.x) (W.Has.vx (a:=f) hmA) ?_;refine WC.fact (isQ (qv mv.2) f.y) (W.Has.vy (a:=f) hmA) ?_;repeat'(first|intro(g:Nat)|refine gA ?_|intro v)
 refine WC.ret ?_;exact Fp [isQ (qv mv.2) f.y] (rcV T.r64) haA ⟨mv.2,rfl,rfl,rfl⟩
def torque_c (me:EM) (e:Ed) (mv:VM) (f:Vc) (gb:Nat) (mb:BM) (b:Bd) (K:Nat) (hK:K<=1000000) (he:Sv K e.at') (hf:Sv K f) (hb:Sv K b.c):FnB Tryz.prog 65 [edv me e,vv mv,ptr gb] [] [fV mv f,fE me e,ce gb 88 (bcs mb),fB mb b] (IsR (Bl.Jw (Bl.Q4 e.at' b.c) f)):=by
 refine fO [(0,(edv me e)),(1,(vv mv)),(2,(ptr gb))] 13 Tryz.func65 Tryz.ntmps65 λh0=>?_;refine WC.fact (fV me.at' e.at') (W.Has.ea (ed:=e) hmA) ?_;refine WC.fact (fV mb.c b.c) (W.Has.bc (bm:=mb) hmA) ?_;repeat'(first|intro(g:Nat)|refine d65 ?_|intro v)
 refine cW (vsub_c me.at' mb.c e.at' b.c K qo he hb) λm2=>?_;repeat'(first|intro(g:Nat)|refine d65 ?_|intro v)
 refine cW (vcross_c m2 mv (Bl.Q4 e.at' b.c) f (K+K+1) qo ⟨he.1.sub hb.1,he.2.sub hb.2⟩ ⟨hf.1.up qo,hf.2.up qo⟩) λn2=>?_;repeat'(first|intro(g:Nat)|refine d65 ?_|intro v)
 refine WC.ret ?_;exact Fp [isQ (qv n2) (Bl.Jw (Bl.Q4 e.at' b.c) f)] (rcV T.r64) haA ⟨n2,rfl,rfl,rfl⟩
def part_c (gf gi:Nat) (i:Nat) (hi:i<=1000) (ff:FuncId) (fc:List Value) (me:EM) (e:Ed) (K:Nat) (h0K:0 < K) (hK:K<=1000000) (hn:Sv K e.t.n) (G:Vc->Rat) (Fc:Fct)
  (hf:∀ mv f,Sv K f->FnB Tryz.prog ff ([]++[edv me e,vv mv]++fc) [] [fV mv f,fE me e,Fc] (IsR (G f))) :
  FnB Tryz.prog 60 [edv me e,ptr gf,ptr gi] [] [fE me e,ce gf 115 [.func (.func ff) #[] fc.toArray],ce gi 3 [.int .i64 (i:Int)],Fc] (IsR2 (G (Bl.on e.t i e.t.n)) (G (Bl.on e.t i (Bl.turn e.t.n)))):=by
 refine fO [(0,(edv me e)),(1,(ptr gf)),(2,(ptr gi))] 25 Tryz.func60 Tryz.ntmps60 λh0=>?_;refine WC.fact (fT me.t e.t) (W.Has.et (em:=me) hmA) ?_;refine WC.fact (fV me.t.n e.t.n) (W.Has.tn (tm:=me.t) hmA) ?_
 have hs:∀ f,Sv K f->Sv K (Bl.on e.t i f):=λf h=>by
  unfold Bl.on;split
  ·exact h
  ·split
   ·exact⟨h.1.neg,h.2.neg⟩
   ·exact⟨Sq.zero.up h0K,Sq.zero.up h0K⟩
 have hn2:Sv K (Bl.turn e.t.n):=⟨hn.2.neg,hn.1⟩
 repeat'(first|intro(g:Nat)|refine d60 ?_|intro v)
 refine cW (on_c me e i me.t.n e.t.n K h0K hK hn hi) λm2=>?_;repeat'(first|intro(g:Nat)|refine d60 ?_|intro v)
 refine WD.Xw [] fc (vs:=[edv me e,vv m2]) (hf m2 _ (hs _ hn)) ?_;rintro _ _ _ ⟨n1,rfl,rfl,rfl⟩;refine sNn ?_;repeat'(first|intro(g:Nat)|refine d60 ?_|intro v)
 refine cW (across_c me.t.n e.t.n) λm3=>?_;repeat'(first|intro(g:Nat)|refine d60 ?_|intro v)
 refine cW (on_c me e i m3 (Bl.turn e.t.n) K h0K hK hn2 hi) λm4=>?_;repeat'(first|intro(g:Nat)|refine d60 ?_|intro v)
 refine WD.Xw [] fc (vs:=[edv me e,vv m4]) (hf m4 _ (hs _ hn2)) ?_;rintro _ _ _ ⟨n2,rfl,rfl,rfl⟩;refine sNn ?_;repeat'(first|intro(g:Nat)|refine d60 ?_|intro v)
 refine WC.ret ?_;exact Fp [isQ (qv n1) (G (Bl.on e.t i e.t.n)),isQ (qv n2) (G (Bl.on e.t i (Bl.turn e.t.n)))] (Qv.cc rfl rfl rfl meA meA T.r64 rfl T.r64 rfl) haA ⟨n1,n2,rfl,rfl,rfl⟩
end K
end
end Go.Proofs.YtcpaopfdiahnnaaGreat
