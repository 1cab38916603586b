/- Lemmas for a law. Conditions: none. -/
import Derived.Test.YtbnobghgnbockaaGreatZg40
set_option linter.all false
set_option maxHeartbeats 32000000
set_option maxRecDepth 100000
namespace Go.Proofs.YtbnobghgnbockaaGreat
section
open W Go.RowKit
open Bl (Vc Bd Tc Sc)
abbrev JC:Shp (Value×(Nat->QM)) (Nat×Nat×(Nat->Rat)):=⟨2,λm a=>[.int .i64 (a.1:Int),m.1],λm a=>fF m.1 a.2.1 m.2 a.2.2,by decide,λ_ _=>rfl⟩
def UK(S:Sc)(a:Nat×Nat×(Nat->Rat)):Prop:=a.1<2^S.n/\a.2.1=(Bl.lp S (S.wt a.1)).m/\X.VB (Bl.lp S (S.wt a.1)) a.2.2/\∀k,k<a.2.1->Sq (yB S) (a.2.2 k)
section
variable {e:Env}{bx:List Ow}{F:List Fct}{ty:TypeId}{x:Operand}{K:Qf}{yv:Value}{n:Nat}
def LO.bsFall{c:Int}(hx:ev e x=some (.agg #[.int .i64 c,yv]))(hv:KnS bx F yv n)(h:∀u,K u (Ow.slice u 63 2 [.int .i64 c,yv]::bx) F):LO Tryz.prog (.buildSlice 40 1 #[(0,x)]) ty e bx F K:=by
 refine LO.byP (p:=∃a d,yv=.slice a n d) (λfr w' ho=>?_) ?_
 .obtain⟨a1,c1,h1,_⟩:=(hv fr w' ho).is;exact⟨a1,c1,h1⟩
 rintro⟨a',d,rfl⟩;exact LO.buildSlice (el:=63) (sz:=2) (parts:=[(0,x)]) (us:=[.agg #[.int .i64 c,.slice a' n d]]) (cs:=[.int .i64 c,.slice a' n d]) (.cons hx .nil) (λ_=>by kernel_rfl) rfl qd h
end
section
variable (n:Nat)(B:Nat->Bd)(t:List Tc)(P:List (List Tc))(most:Int)
abbrev scP(s:List Int):Sc:=Bl.scL n B d0 (Fx.Qe t P s)
abbrev stP(s:List Int):Prop:=Fx.StP n B d0 t P s
def fall_no{n:Nat}{B:Nat->Bd}{t:List Tc}{P:List (List Tc)}{s:List Int}{a:Nat×Nat×(Nat->Rat)}(h:UK (scP n B t P s) a):¬stP n B t P s:=λhs=>by
 obtain⟨x,hx⟩:=hs a.1 h.1;exact X.inf_no h.2.2.1 hx
def IsChoice:Qf:=λv bx G=>bx=[]/\∃(fv:Value) (fm:Nat->Value×(Nat->QM)) (fx:Nat->Nat×Nat×(Nat->Rat)),
 ((∃(i:Nat) (pv cv:Value) (cm:Nat->Value×(Nat->VM)) (xs:Nat->Nat->Rat),Fx.Jf (Fx.Qc t P most) (stP n B t P) i/\v=.tuple #[.agg #[pv,cv,fv],.int .i64 0]/\
   G=[sI pv (sl (Fx.Qc t P most) i),lF plS cv (2^n) cm (λc=>psh (2*(scP n B t P (sl (Fx.Qc t P most) i)).m) (xs c)),lF JC fv i fm fx]/\(∀j,j<i->UK (scP n B t P (sl (Fx.Qc t P most) j)) (fx j))/\
   ∀c,c<2^n->X.Vy (Bl.lp (scP n B t P (sl (Fx.Qc t P most) i)) ((scP n B t P (sl (Fx.Qc t P most) i)).wt c)) (xs c)/\∀k,k<4*(scP n B t P (sl (Fx.Qc t P most) i)).m->Sq RA (xs c k))\/
  (Fx.U8 (Fx.Qc t P most) (stP n B t P)/\v=.tuple #[.agg #[.slice none 0 0,.slice none 0 0,fv],.int .i64 16]/\G=[lF JC fv (Fx.Qc t P most).length fm fx]/\∀j,j<(Fx.Qc t P most).length->UK (scP n B t P (sl (Fx.Qc t P most) j)) (fx j)))
end
namespace K
namespace Q
namespace Y
attribute [local irreducible] WC WL WD YO LO Qq W.Fin Qv Qh Qj Row QV Qy KnS Has W.One Qp QJ
def d16{G G':Prop}(h:G')(s:Bx G'->G:=by
 intro h;first|refine gE ?_|refine goLY ?_|refine goYB ?_|refine Vh ?_|refine Z2 ?_|(apply WC.draw (id:=12) [0,2] (.h 0<|.h 2<|.m 1 (.l 3<|.f 4<|.l 5 .done) (.l 3<|.l 1<|.f 4<|.l 5 .done)) mixed kr)|fail
 exact Bx.h h):G:=s ⟨h⟩
def KE(lv tv pv:Value)(n:Nat)(bm:Nat->BM)(B:Nat->Bd)(t:List Tc)(P:List (List Tc))(tm:Nat->ToM)(pm:Nat->Value×(Nat->ToM))(most:Int)(K:Nat)(hn:n<=5)(ht:t.length<=10)(hP8:P.length<=8)(hP:∀p∈P,p.length<=100)(hm0:0<=most)(hm8:most<=8)(h0K:0<K)(hK:K<=3)
  (hS:∀s∈Fx.Qc t P most,(scP n B t P s).ok/\Ss K (scP n B t P s)) :
  FnB Tryz.prog 16 [lv,tv,pv,.int .i64 most] [] [isX Tryz.prog,lF Qo lv n bm B,lF Qz tv t.length tm (tl t),lF tlS pv P.length pm (pl P)] (IsChoice n B t P most):=by
 refine fO [(0,lv),(1,tv),(2,pv),(3,(.int .i64 most))] 66 Tryz.func16 Tryz.ntmps16 λh0=>?_;repeat'(first|intro(g:Nat)|refine d16 ?_|refine gN ?_ ?_|intro v)
 revert g;intro g8;refine cK (KG tv pv t P tm pm lv n bm B most hn ht hP8 hP hm0 hm8) ?_;rintro _ _ _ ⟨r,sm,rfl,rfl,rfl⟩;refine sNn ?_;repeat'(first|intro(g:Nat)|refine d16 ?_|refine gN ?_ ?_|intro v)
 revert g;intro g12;have hcl:(Fx.Qc t P most).length<=900:=Nat.le_trans (List.length_filter_le _ _) (Fx.Ue _ _);refine WC.QP 63 2 ?_;refine WC.JS (σ:=Value×(Nat->Value×(Nat->QM))×(Nat->Nat×Nat×(Nat->Rat))) (λst=>[(12,ptr g12),(8,ptr g8)]) (λst=>[lO JC st.1 63 (Fx.Qc t P most).length st.2.1 st.2.2,Ow.cells g12 42 [.slice none 0 0,.slice none 0 0,st.1],Ow.cells g8 42 [.slice none 0 0,.slice none 0 0,.slice none 0 0]]) (λst=>[lM JC (Fx.Qc t P most).length st.2.1 st.2.2,ge h0]) (λst=>∀j,j<(Fx.Qc t P most).length->UK (scP n B t P (sl (Fx.Qc t P most) j)) (st.2.2 j)) ?_ ?_
 .refine WC.lp (σ:=Nat×Value×(Nat->Value×(Nat->QM))×(Nat->Nat×Nat×(Nat->Rat))) (λst=>[(32,.int .i64 (st.1:Int)),(31,.int .i64 ((Fx.Qc t P most).length:Int)),(30,r),(12,ptr g12),(8,ptr g8),(0,lv),(1,tv),(2,pv)]) (λst=>[lO JC st.2.1 63 st.1 st.2.2.1 st.2.2.2,Ow.cells g12 42 [.slice none 0 0,.slice none 0 0,st.2.1],Ow.cells g8 42 [.slice none 0 0,.slice none 0 0,.slice none 0 0]]) (λst=>[lM JC st.1 st.2.2.1 st.2.2.2,ge h0,isX Tryz.prog,lF Qo lv n bm B,lF Qz tv t.length tm (tl t),lF tlS pv P.length pm (pl P),lF Qm r (Fx.Qc t P most).length sm (sl (Fx.Qc t P most))]) (λst=>st.1<=(Fx.Qc t P most).length/\∀j,j<st.1->UK (scP n B t P (sl (Fx.Qc t P most) j)) (st.2.2.2 j)) (λst=>(Fx.Qc t P most).length-st.1) (0,.slice none 0 0,λ_=>(.slice none 0 0,λ_=>m00),λ_=>(0,0,λ_=>0)) ⟨Nat.zero_le _,λj hj=>absurd hj (Nat.not_lt_zero j)⟩ ?_ (hG:=.cons W.Has.Z3 haA);rintro⟨i,fv,fm,fx⟩ ⟨hi,hfx⟩;simp only at hi hfx ⊢;by_cases d:i<(Fx.Qc t P most).length
  .have hmem:=Zx d;obtain⟨hok,hsz⟩:=hS _ hmem;have hst:=Ve hP8 hmem;refine WC.fact (sI (sm i) (sl (Fx.Qc t P most) i)) (W.Has.lk (S:=Qm) (v:=r) (ms:=sm) (xs:=sl (Fx.Qc t P most)) hmA d) ?_;repeat'(first|intro(g:Nat)|refine d16 ?_|refine gN ?_ ?_|intro v)
   refine cK (VZ tv pv (sm i) t P (sl (Fx.Qc t P most) i) tm pm qo hP qo hst.2 qo) ?_;rintro v41 _ _ ⟨tm2,rfl,rfl⟩;refine sNn ?_;repeat'(first|intro(g:Nat)|refine d16 ?_|refine gN ?_ ?_|intro v)
   refine cK (decide_c ⟨lv,v41,bm,tm2⟩ (scP n B t P (sl (Fx.Qc t P most) i)) K h0K hK hsz hok) ?_;rintro _ _ _ ⟨rfl,⟨cv,cm,xs,rfl,rfl,hpt⟩|⟨c,yv,my,y,rfl,rfl,hc,hinf,hy,hprev⟩⟩
   .refine sNn ?_;repeat'(first|intro(g:Nat)|refine d16 ?_|refine gN ?_ ?_|intro v)
    all_goals
     refine WD.fy rfl (YO.Jb T.f42_1 rfl qr) qr qr ?_;repeat'(first|intro(g:Nat)|refine d16 ?_|refine gN ?_ ?_|intro v)
     refine WC.QY (S:=JC) (v:=fv) (n:=i) (ms:=fm) (xs:=fx) wq3 hmA ?_;refine WC.ret ?_;exact Fp [_,_,_] (Qg.cT rfl rfl meA T.r42 rfl rfl) (.cons hmA (.cons hmA (.cons hmA .nil))) ⟨rfl,fv,fm,fx,.inl ⟨i,sm i,cv,cm,xs,⟨d,λc hc=>⟨_,(hpt c hc).1⟩,λj hj=>fall_no (hfx j hj)⟩,rfl,rfl,hfx,hpt⟩⟩
   .refine sNn ?_;repeat'(first|intro(g:Nat)|refine d16 ?_|refine gN ?_ ?_|intro v)
    refine WL.l rfl rfl (LO.bsFall (c:=(c:Int)) rfl (KnS.ff (v:=yv) hmA) λv61=>?_);refine WL.l rfl rfl (LO.appL (S:=JC) (ms:=fm) (xs:=fx) (n:=i) (mm:=(yv,my)) (aa:=(c,(Bl.lp (scP n B t P (sl (Fx.Qc t P most) i)) ((scP n B t P (sl (Fx.Qc t P most) i)).wt c)).m,y)) T.e40 rfl rfl meA (.cons (One.lit rfl rfl) (.cons (One.sl (KnS.ff (v:=yv) hmA)) .nil)) (λv'=>by repeat(first|exact Sel.head|apply Sel.tail)) qd qd qo λv62=>?_);repeat'(first|intro(g:Nat)|refine d16 ?_|refine gN ?_ ?_|intro v)
    refine Qq.mk (i+1,v62,upd fm i (yv,my),upd fx i (c,(Bl.lp (scP n B t P (sl (Fx.Qc t P most) i)) ((scP n B t P (sl (Fx.Qc t P most) i)).wt c)).m,y)) ⟨by simp only;omega,λj hj=>?_⟩ wq18 (hG:=.cons (W.Has.mapp (S:=JC) (n:=i) (ms:=fm) (xs:=fx) (mm:=(yv,my)) (aa:=(c,(Bl.lp (scP n B t P (sl (Fx.Qc t P most) i)) ((scP n B t P (sl (Fx.Qc t P most) i)).wt c)).m,y)) hmA hmA) haA);simp only at hj ⊢;by_cases e:j=i
    .subst e;rw[QU];exact⟨hc,rfl,hinf,hy⟩
    .rw[upd_ne e];exact hfx j qo
  .obtain rfl:i=(Fx.Qc t P most).length:=qo;repeat'(first|intro(g:Nat)|refine d16 ?_|refine gN ?_ ?_|intro v)
   exact Qs (fv,fm,fx) hfx
 rintro⟨fv,fm,fx⟩ hfx;simp only at hfx ⊢;repeat'(first|intro(g:Nat)|refine d16 ?_|refine gN ?_ ?_|intro v)
 refine WC.QY (S:=JC) (v:=fv) (n:=(Fx.Qc t P most).length) (ms:=fm) (xs:=fx) wq3 hmA ?_;refine WC.ret ?_;exact Fp [_] (Qg.cT rfl rfl meA T.r42 rfl rfl) (.cons hmA .nil) ⟨rfl,fv,fm,fx,.inr ⟨λj hj=>fall_no (hfx j hj),rfl,rfl,hfx⟩⟩
end Y
end Q
end K
namespace K
namespace Q
namespace Y
attribute [local irreducible] WC WL WD YO LO Qq W.Fin Qv Qh Qj Row QV Qy KnS Has W.One Qp QJ
def d23{G G':Prop}(h:G')(s:Bx G'->G:=by
 intro h;first|refine gF ?_|(apply WC.draw (id:=10) [0,1,2,3,4,5,6,8,10] (.h 0<|.h 1<|.h 2<|.h 3<|.h 4<|.h 5<|.h 6<|.h 8<|.l 7<|.l 9<|.h 10 .done) mixed kr)|(apply WC.draw (id:=17) [0,1,2,3,4,5,7,8,9,10,11,12,13,14,15,17,18,20,21] (.h 0<|.h 1<|.h 2<|.h 3<|.h 4<|.h 5<|.l 6<|.h 7<|.h 8<|.h 9<|.h 10<|.h 11<|.h 12<|.h 13<|.h 14<|.h 15<|.h 17<|.h 18<|.l 16<|.l 19<|.h 20<|.h 21 .done) mixed kr)|fail
 exact Bx.h h):G:=s ⟨h⟩
def d47{G G':Prop}(h:G')(s:Bx G'->G:=by
 intro h;first|refine gF ?_|(apply WC.draw (id:=6) [0,1,2,3,4,5,6,7,8] (.h 0<|.h 1<|.h 2<|.h 3<|.h 4<|.h 5<|.h 6<|.h 7<|.h 8 .done) mixed kr)|fail
 exact Bx.h h):G:=s ⟨h⟩
def equalI_c(v u:Value)(l:List Int)(hl:l.length<=1000):FnB Tryz.prog 47 [v,u] [] [sI v l,sI u l] (IsV (.bool true)):=by
 refine fO [(0,v),(1,u)] 26 Tryz.func47 Tryz.ntmps47 λh0=>?_;repeat'(first|intro(g:Nat)|refine d47 ?_|intro v)
 refine WC.lp (σ:=Nat) (λk=>[(13,.int .i64 (k:Int)),(12,.int .i64 (l.length:Int)),(0,v),(1,u)]) (λ_=>[]) (λ_=>[ge h0,sI v l,sI u l]) (λk=>k<=l.length) (λk=>l.length-k) 0 (Nat.zero_le _) ?_;intro k hk;by_cases d:k<l.length
 .repeat'(first|intro(g:Nat)|refine d47 ?_|intro v)
  exact Qq.mk (k+1) qo qo
 .obtain rfl:k=l.length:=qo;repeat'(first|intro(g:Nat)|refine d47 ?_|intro v)
  exact wq6
def check_c(lv tv pv:Value)(n:Nat)(bm:Nat->BM)(B:Nat->Bd)(t:List Tc)(P:List (List Tc))(tm:Nat->ToM)(pm:Nat->Value×(Nat->ToM))(most:Int)(K:Nat)(hn:n<=5)(ht:t.length<=10)(hP8:P.length<=8)(hP:∀p∈P,p.length<=100)(hm0:0<=most)(hm8:most<=8)(h0K:0<K)(hK:K<=3)
  (hS:∀s∈Fx.Qc t P most,(scP n B t P s).ok/\Ss K (scP n B t P s)) (hY:∀s∈Fx.Qc t P most,(6*n+6*(scP n B t P s).m+n)*(yB (scP n B t P s)+22)+yB (scP n B t P s)+30<=400000000/\(Bl.lp (scP n B t P s) ((scP n B t P s).wt 0)).m<=1000)
  (sv cv fv:Value) (fm:Nat->Value×(Nat->QM)) (fx:Nat->Nat×Nat×(Nat->Rat)) (i:Nat) (cm:Nat->Value×(Nat->VM)) (xs:Nat->Nat->Rat) (hi:i<(Fx.Qc t P most).length) (hf:∀j,j<i->UK (scP n B t P (sl (Fx.Qc t P most) j)) (fx j))
  (hx:∀c,c<2^n->X.Vy (Bl.lp (scP n B t P (sl (Fx.Qc t P most) i)) ((scP n B t P (sl (Fx.Qc t P most) i)).wt c)) (xs c)/\∀k,k<4*(scP n B t P (sl (Fx.Qc t P most) i)).m->Sq RA (xs c k)) :
  FnB Tryz.prog 23 [lv,tv,pv,.int .i64 most,.agg #[sv,cv,fv]] [] [lF Qo lv n bm B,lF Qz tv t.length tm (tl t),lF tlS pv P.length pm (pl P),sI sv (sl (Fx.Qc t P most) i),lF plS cv (2^n) cm (λc=>psh (2*(scP n B t P (sl (Fx.Qc t P most) i)).m) (xs c)),lF JC fv i fm fx] (IsV (.int .i64 0)):=by
 refine fO [(0,lv),(1,tv),(2,pv),(3,(.int .i64 most)),(4,(.agg #[sv,cv,fv]))] 89 Tryz.func23 Tryz.ntmps23 λh0=>?_;have hcl:(Fx.Qc t P most).length<=900:=Nat.le_trans (List.length_filter_le _ _) (Fx.Ue _ _);repeat'(first|intro(g:Nat)|refine d23 ?_|intro v)
 revert g;intro g9;refine cK (KG tv pv t P tm pm lv n bm B most hn ht hP8 hP hm0 hm8) ?_;rintro _ _ _ ⟨r,sm,rfl,rfl,rfl⟩;refine sNn ?_;repeat'(first|intro(g:Nat)|refine d23 ?_|intro v)
 refine WC.JS (σ:=Unit) (λ_=>[(11,r),(13,.int .i64 (i:Int)),(9,ptr g9),(0,lv),(1,tv),(2,pv),(10,.int .i64 0)]) (λ_=>[Ow.cells g9 42 [sv,cv,fv]]) (λ_=>[ge h0,lF Qo lv n bm B,lF Qz tv t.length tm (tl t),lF tlS pv P.length pm (pl P),sI sv (sl (Fx.Qc t P most) i),lF plS cv (2^n) cm (λc=>psh (2*(scP n B t P (sl (Fx.Qc t P most) i)).m) (xs c)),lF JC fv i fm fx,lF Qm r (Fx.Qc t P most).length sm (sl (Fx.Qc t P most))]) (λ_=>True) ?_ ?_
 .refine WC.lp (σ:=Nat) (λj=>[(37,.int .i64 (j:Int)),(36,.int .i64 (i:Int)),(35,fv),(11,r),(13,.int .i64 (i:Int)),(9,ptr g9),(0,lv),(1,tv),(2,pv),(10,.int .i64 0)]) (λ_=>[Ow.cells g9 42 [sv,cv,fv]]) (λ_=>[ge h0,lF Qo lv n bm B,lF Qz tv t.length tm (tl t),lF tlS pv P.length pm (pl P),sI sv (sl (Fx.Qc t P most) i),lF plS cv (2^n) cm (λc=>psh (2*(scP n B t P (sl (Fx.Qc t P most) i)).m) (xs c)),lF JC fv i fm fx,lF Qm r (Fx.Qc t P most).length sm (sl (Fx.Qc t P most))]) (λj=>j<=i) (λj=>i-j) 0 (Nat.zero_le _) ?_;rintro j hj;by_cases d:j<i
  .have hmem:=Zx (show j<(Fx.Qc t P most).length by omega);obtain⟨hok,hsz⟩:=hS _ hmem;obtain⟨hy1,hy2⟩:=hY _ hmem;obtain⟨f1,f2,f3,f4⟩:=hf j d;have hst:=Ve hP8 hmem;refine WC.fact (sI (sm j) (sl (Fx.Qc t P most) j)) (W.Has.lk (S:=Qm) (v:=r) (ms:=sm) (xs:=sl (Fx.Qc t P most)) hmA qo) ?_;refine WC.fact (fF (fm j).1 (fx j).2.1 (fm j).2 (fx j).2.2) (W.Has.lk (S:=JC) (v:=fv) (ms:=fm) (xs:=fx) hmA d) ?_;repeat'(first|intro(g:Nat)|refine d23 ?_|intro v)
   refine cK (VZ tv pv (sm j) t P (sl (Fx.Qc t P most) j) tm pm qo hP qo hst.2 qo) ?_;rintro v49 _ _ ⟨tm2,rfl,rfl⟩;refine sNn ?_;repeat'(first|intro(g:Nat)|refine d23 ?_|intro v)
   refine cK (falls_c ⟨lv,v49,bm,tm2⟩ (scP n B t P (sl (Fx.Qc t P most) j)) (fx j).1 (fx j).2.1 (fm j).1 (fm j).2 (fx j).2.2 K (yB (scP n B t P (sl (Fx.Qc t P most) j))) f1 h0K hK hsz hok (by rw[f2];exact hy2) f4 hy1) ?_;rintro _ _ _ ⟨z,rfl,hz1,hz2,rfl,rfl⟩;obtain rfl:z=0:=hz2.2 ⟨f2,f3⟩;refine sNn ?_;repeat'(first|intro(g:Nat)|refine d23 ?_|intro v)
   exact Qq.mk (j+1) qo qo
  .obtain rfl:j=i:=qo;repeat'(first|intro(g:Nat)|refine d23 ?_|intro v)
   exact Qs () trivial
 rintro⟨⟩ _;have hmem:=Zx hi;obtain⟨hok,hsz⟩:=hS _ hmem;have hst:=Ve hP8 hmem;refine WC.fact (sI (sm i) (sl (Fx.Qc t P most) i)) (W.Has.lk (S:=Qm) (v:=r) (ms:=sm) (xs:=sl (Fx.Qc t P most)) hmA hi) ?_;repeat'(first|intro(g:Nat)|refine d23 ?_|intro v)
 refine cV (equalI_c sv (sm i) (sl (Fx.Qc t P most) i) qo) ?_;repeat'(first|intro(g:Nat)|refine d23 ?_|intro v)
 refine cK (VZ tv pv (sm i) t P (sl (Fx.Qc t P most) i) tm pm qo hP qo hst.2 qo) ?_;rintro v83 _ _ ⟨tm2,rfl,rfl⟩;refine sNn ?_;repeat'(first|intro(g:Nat)|refine d23 ?_|intro v)
 have h32:2^n<=2^5:=Nat.pow_le_pow_right qd hn;refine cK (holds_c ⟨lv,v83,bm,tm2⟩ (scP n B t P (sl (Fx.Qc t P most) i)) cv (2^n) cm (λc=>(psh (2*(scP n B t P (sl (Fx.Qc t P most) i)).m) (xs c)).2) K RA h0K qo qd qo hsz hok (λc hc k hk=>⟨(hx c hc).2 (2*k) qo,(hx c hc).2 (2*k+1) qo⟩)) ?_;rintro _ _ _ ⟨z,rfl,hz1,hz2,rfl,rfl⟩;obtain rfl:z=0:=hz2.2 ⟨rfl,λc hc=>Bl.YQ.1 (hx c hc).1⟩;refine sNn ?_;repeat'(first|intro(g:Nat)|refine d23 ?_|intro v)
 exact wq6
end Y
end Q
end K
end
namespace Fx
open Bl X
def exB_ok:BdOk exB/\BdF 2 20 exB:=⟨⟨by decide +kernel,by decide +kernel,by decide +kernel⟩,⟨(Fr.int (A:=1) 1 qd).sc' (c:=2) rfl qd,(Fr.int (A:=1) 1 qd).sc' (c:=2) rfl qd⟩,(Fr.of (a:=1) (D:=1) (A:=1) qd qd).sc' (D:=1) (A:=1) (c:=2) rfl qd,(Fr.of (a:=2) (D:=1) (A:=2) qd qd).sc' (D:=1) (A:=2) (c:=2) rfl qd,(Fr.of (a:=10) (D:=1) (A:=10) qd qd).sc' (D:=1) (A:=10) (c:=2) rfl qd⟩
def supT_ok{a b:Int}(ha:a.natAbs<=20)(hb:b.natAbs<=20):YE 1 (Q6 a b)/\TcF 2 20 (Q6 a b):=by
 refine⟨⟨by show(0:Int)<=0;decide,by show(0:Int)<1;decide,by show(-1:Int)<=-1;decide,by show(-1:Int)<1;decide,by show(0:Int)≠-1;decide,by show(0:Rat)<=0;decide,λh=>absurd h.2 wq120,?_⟩,⟨(Fr.of (D:=2) qd ha),Fr.zero⟩,⟨(Fr.of (D:=2) qd hb),Fr.zero⟩,⟨(Fr.int (A:=0) 0 qd).sc' (c:=2) rfl qd,(Fr.int (A:=1) 1 qd).sc' (c:=2) rfl qd⟩,Fr.zero⟩;show((0:Int):Rat)*_+((1:Int):Rat)*((0:Rat)-0)=0;grind
def Fa:(∀p∈exP,∀x∈p,YE 1 x/\TcF 2 20 x)/\∀p∈Z1,∀x∈p,YE 1 x/\TcF 2 20 x:=by
 have s:∀{a b:Int},a.natAbs<=20->b.natAbs<=20->∀x∈[Q6 a b],YE 1 x/\TcF 2 20 x:=λha hb x hx=>by
  rw[List.mem_singleton.1 hx];exact supT_ok ha hb
 refine⟨λp hp=>?_,λp hp=>?_⟩
 .rcases List.mem_cons.1 hp with rfl|hp
  .exact s qd qd
  .rcases List.mem_cons.1 hp with rfl|hp
   .exact s qd qd
   .rw[List.mem_singleton.1 hp];exact s qd qd
 .rcases List.mem_cons.1 hp with rfl|hp
  .exact s qd qd
  .rw[List.mem_singleton.1 hp];exact s qd qd
def ex_ok{ps:List (List Tc)}(h:∀p∈ps,∀x∈p,YE 1 x/\TcF 2 20 x){s:List Int}(hl:(Qe [] ps s).length<=10):(scL 1 (λ_=>exB) (Q6 0 0) (Qe [] ps s)).ok/\Fs 2 20 (scL 1 (λ_=>exB) (Q6 0 0) (Qe [] ps s)):=by
 have h3:=YF (λx hx=>(List.not_mem_nil hx).elim) h s;exact⟨Dy qd hl (λ_ _=>exB_ok.1) λx hx=>(h3 x hx).1,HV (λ_ _=>exB_ok.2) λx hx=>(h3 x hx).2⟩
end Fx
section
open W Go.RowKit
open Bl (Vc Bd Tc Sc)
def IsSup(a b:Int):Qf:=λv B G=>∃tm:Nat->ToM,B=[]/\G=[lF Qz v [Fx.Q6 a b].length tm (tl [Fx.Q6 a b])]
def pm3{α:Type}(a b c:α)(j:Nat):α:=if j=0 then a else if j=1 then b else c
section
variable {e:Env}{bx:List Ow}{F:List Fct}{ty:TypeId}{x y z:Operand}{K:Qf}
def y_vecX{m:QM}(hx:ev e x=some (qv m)):YO Tryz.prog (.build 77 #[(0,x)]) ty e bx F (vv (m,m00)):=YO.build (parts:=[(0,x)]) (.cons hx .nil) λ_=>by kernel_rfl
def y_sup{v1 v2 v3:VM}{a b:Int}(h1:ev e x=some (vv v1))(h2:ev e y=some (vv v2))(h3:ev e z=some (vv v3)):YO Tryz.prog (.build 93 #[(0,.const (.int .i64 0)),(1,.const (.int .i64 (-1))),(2,x),(3,y),(4,z)]) ty e bx F (tv ⟨v1,v2,v3,m00⟩ (Fx.Q6 a b)):=
 YO.build (parts:=[(0,.const (.int .i64 0)),(1,.const (.int .i64 (-1))),(2,x),(3,y),(4,z)]) (.cons rfl (.cons rfl (.cons h1 (.cons h2 (.cons h3 .nil))))) λ_=>by kernel_rfl
def LO.bsTL{tm:ToM}{tc:Tc}(hx:ev e x=some (tv tm tc))(h:∀v,K v (lO Qz v 93 [tc].length (λ_=>tm) (tl [tc])::bx) F):LO Tryz.prog (.buildSlice 32 1 #[(0,x)]) ty e bx F K:=
 LO.bsT1 (tm:=tm) (tc:=tc) hx λv=>by
  have h1:=h v
  have h2:QX Qz 1 (λ_=>tm) (λ_=>tc)=QX Qz [tc].length (λ_=>tm) (tl [tc]):=lcells_lt λj hj=>by
   obtain rfl:j=0:=qo;rfl
  unfold lO at h1 ⊢;rw[h2];exact h1
def has_sup{v1 v2 v3:VM}{a b:Int}(h1:W.Has F (fV v1 ⟨Rat.divInt a 2,0⟩))(h2:W.Has F (fV v2 ⟨Rat.divInt b 2,0⟩))(h3:W.Has F (fV v3 ⟨((0:Int):Rat),((1:Int):Rat)⟩)):W.Has F (lM Qz [Fx.Q6 a b].length (λ_=>(⟨v1,v2,v3,m00⟩:ToM)) (tl [Fx.Q6 a b])):=λp hf i hi=>by
 obtain rfl:i=0:=by have:i<1:=hi;omega
 exact⟨h1 p hf,h2 p hf,h3 p hf,JA p hf⟩
def has_vec1{m:QM}{q:Rat}(h:W.Has F (isQ (qv m) q)):W.Has F (fV (m,m00) ⟨q,0⟩):=λp hf=>⟨h p hf,JA p hf⟩
end
namespace K
namespace Q
namespace Y
attribute [local irreducible] WC WL WD YO LO Qq W.Fin Qv Qh Qj Row QV Qy KnS Has W.One Qp QJ
def UR(a b:Int)(ha:a.natAbs<=100)(hb:b.natAbs<=100):FnB Tryz.prog 35 [.int .i64 a,.int .i64 b] [] [] (IsSup a b):=by
 refine fO [(0,(.int .i64 a)),(1,(.int .i64 b))] 14 Tryz.func35 Tryz.ntmps35 λh0=>?_;repeat'(first|intro(g:Nat)|refine gP ?_|intro v)
 refine cW (Zn.rof a 2 (Yr qo qo) qd) λn1=>?_;refine WL.y (y_vecX (m:=n1) rfl) qr qr ?_;refine WL.QE (fV (n1,m00) ⟨Rat.divInt a 2,0⟩) (has_vec1 hmA) ?_;repeat'(first|intro(g:Nat)|refine gP ?_|intro v)
 refine cW (Zn.rof b 2 (Yr qo qo) qd) λn2=>?_;refine WL.y (y_vecX (m:=n2) rfl) qr qr ?_;refine WL.QE (fV (n2,m00) ⟨Rat.divInt b 2,0⟩) (has_vec1 hmA) ?_;repeat'(first|intro(g:Nat)|refine gP ?_|intro v)
 refine cW (Kh 0 1 qd qd) λv3=>?_;refine WL.y (y_sup (v1:=(n1,m00)) (v2:=(n2,m00)) (v3:=v3) (a:=a) (b:=b) rfl rfl rfl) qr qr ?_;refine WL.l rfl rfl (LO.bsTL (tm:=⟨(n1,m00),(n2,m00),v3,m00⟩) (tc:=Fx.Q6 a b) rfl λv13=>?_);refine WL.QY (S:=Qz) (v:=v13) (n:=[Fx.Q6 a b].length) (ms:=λ_=>⟨(n1,m00),(n2,m00),v3,m00⟩) (xs:=tl [Fx.Q6 a b]) wq3 (has_sup hmA hmA hmA) ?_;repeat'(first|intro(g:Nat)|refine gP ?_|intro v)
 refine WC.ret ?_;exact Fp [_] (Qg.t1 rfl rfl) (.cons hmA .nil) ⟨_,rfl,rfl⟩
end Y
end Q
end K
abbrev UD:Nat->Bd:=λ_=>Fx.exB
def ex_hS{ps:List (List Tc)}{m:Int}(h:∀p∈ps,∀x∈p,Bl.YE 1 x/\Fx.TcF 2 20 x):∀s∈Fx.Qc [] ps m,(scP 1 UD [] ps s).ok/\Ss 1 (scP 1 UD [] ps s):=λs hs=>by
 obtain⟨h1,h2⟩:=Fx.ex_ok h (Fx.Za hs);exact⟨h1,Fs.ss h2 qd qd qd⟩
def ex_y(m:Nat)(hm:m<=2):(6*1+6*m+1)*(nL (6*1+6*m+1)+nK (6*1+6*m+1)+1+22)+(nL (6*1+6*m+1)+nK (6*1+6*m+1)+1)+30<=400000000/\6*1+6*m+1<=1000:=by
 have:m=0\/m=1\/m=2:=qo;rcases this with rfl|rfl|rfl<;>decide
def ex_hY:∀s∈Fx.Qc [] Fx.exP 2,(6*1+6*(scP 1 UD [] Fx.exP s).m+1)*(yB (scP 1 UD [] Fx.exP s)+22)+yB (scP 1 UD [] Fx.exP s)+30<=400000000/\(Bl.lp (scP 1 UD [] Fx.exP s) ((scP 1 UD [] Fx.exP s).wt 0)).m<=1000:=λs hs=>by
 rw[Fx.Y6.1] at hs
 have hm:(scP 1 UD [] Fx.exP s).m<=2:=by
  show(Fx.Qe [] Fx.exP s).length<=2;simp only[List.mem_cons,List.not_mem_nil,or_false] at hs;rcases hs with rfl|rfl|rfl|rfl|rfl|rfl|rfl<;>decide
 exact ex_y _ hm
def ex_P:(∀p∈Fx.exP,p.length<=100)/\∀p∈Fx.Z1,p.length<=100:=by
 constructor
 .intro p hp;simp only[Fx.exP,List.mem_cons,List.not_mem_nil,or_false] at hp;rcases hp with rfl|rfl|rfl<;>decide
 .intro p hp;simp only[Fx.Z1,List.mem_cons,List.not_mem_nil,or_false] at hp;rcases hp with rfl|rfl<;>decide
section
variable {e:Env}{bx:List Ow}{F:List Fct}{ty:TypeId}{x y z:Operand}{K:Qf}
def LO.bsP3{v0 v1 v2:Value}{n0 n1 n2:Nat}{t0 t1 t2:Nat->ToM}{xs:Nat->List Tc}(h0:ev e x=some v0)(h1:ev e y=some v1)(h2:ev e z=some v2)(k0:KnS bx F v0 n0)(k1:KnS bx F v1 n1)(k2:KnS bx F v2 n2)
  (h:∀u,K u (lO tlS u 32 3 (pm3 (v0,t0) (v1,t1) (v2,t2)) xs::bx) F):LO Tryz.prog (.buildSlice 33 3 #[(0,x),(1,y),(2,z)]) ty e bx F K:=by
 refine LO.byP (p:=(∃a d,v0=.slice a n0 d)/\(∃a d,v1=.slice a n1 d)/\∃a d,v2=.slice a n2 d) (λfr w' ho=>?_) ?_
 .obtain⟨a0,c0,e0,_⟩:=(k0 fr w' ho).is;obtain⟨a1,c1,e1,_⟩:=(k1 fr w' ho).is;obtain⟨a2,c2,e2,_⟩:=(k2 fr w' ho).is;exact⟨⟨a0,c0,e0⟩,⟨a1,c1,e1⟩,⟨a2,c2,e2⟩⟩
 rintro⟨⟨a0,c0,rfl⟩,⟨a1,c1,rfl⟩,⟨a2,c2,rfl⟩⟩;exact LO.buildSlice (el:=32) (sz:=1) (parts:=[(0,x),(1,y),(2,z)]) (us:=[.slice a0 n0 c0,.slice a1 n1 c1,.slice a2 n2 c2]) (cs:=[.slice a0 n0 c0,.slice a1 n1 c1,.slice a2 n2 c2]) (.cons h0 (.cons h1 (.cons h2 .nil))) (λ_=>by kernel_rfl) rfl qd h
def has_ex{v0 v1 v2:Value}{t0 t1 t2:Nat->ToM}(h0:W.Has F (lF Qz v0 [Fx.Q6 0 1].length t0 (tl [Fx.Q6 0 1])))(h1:W.Has F (lF Qz v1 [Fx.Q6 3 4].length t1 (tl [Fx.Q6 3 4])))(h2:W.Has F (lF Qz v2 [Fx.Q6 1 3].length t2 (tl [Fx.Q6 1 3]))):W.Has F (lM tlS 3 (pm3 (v0,t0) (v1,t1) (v2,t2)) (pl Fx.exP)):=λp hf i hi=>by
 match i,hi with
 |0,_=>exact h0 p hf
 |1,_=>exact h1 p hf
 |2,_=>exact h2 p hf
def has_ex2{u:Value}{pm:Nat->Value×(Nat->ToM)}(h:W.Has F (lF tlS u 3 pm (pl Fx.exP))):W.Has F (lF tlS (resl u 0 2 1) 2 pm (pl Fx.Z1)):=λp hf=>by
 obtain⟨h1,h2⟩:=W.Has.takeL (S:=tlS) h (show 2<=3 by decide) p hf;refine⟨Yc h1 λj _=>rfl,λq hq=>?_⟩;have h3:=h2 q hq;match q,hq with
 |0,_=>exact h3
 |1,_=>exact h3
end
namespace K
namespace Q
namespace Y
attribute [local irreducible] WC WL WD YO LO Qq W.Fin Qv Qh Qj Row QV Qy KnS Has W.One Qp QJ
def K8:FnB Tryz.prog 14 [] [] [isX Tryz.prog] (IsV (.bool true)):=by
 refine fO [] 94 Tryz.func14 Tryz.ntmps14 λh0=>?_;repeat'(first|intro(g:Nat)|refine gP ?_|intro v)
 refine cW (Kh 1 1 qd qd) λm10=>?_;repeat'(first|intro(g:Nat)|refine gP ?_|intro v)
 refine cW (Zn.rof 1 1 qd qd) λn11=>?_;repeat'(first|intro(g:Nat)|refine gP ?_|intro v)
 refine cW (Zn.rof 2 1 qd qd) λn12=>?_;repeat'(first|intro(g:Nat)|refine gP ?_|intro v)
 refine cW (Zn.rof 10 1 qd qd) λn13=>?_;repeat'(first|intro(g:Nat)|refine gP ?_|intro v)
 revert v;intro bl;rw[cells_B1 (bm:=⟨m10,n11,n12,n13⟩) (b:=Fx.exB)];refine WL.QY (S:=Qo) (v:=bl) (n:=1) (ms:=λ_=>⟨m10,n11,n12,n13⟩) (xs:=UD) wq3 (FK (S:=Qo) (m:=⟨m10,n11,n12,n13⟩) (x:=Fx.exB) (W.Has.bof (bm:=⟨m10,n11,n12,n13⟩) (b:=Fx.exB) hmA hmA hmA hmA)) ?_;repeat'(first|intro(g:Nat)|refine gP ?_|intro v)
 refine cK (UR 0 1 qd qd) ?_;rintro v16 _ _ ⟨t0,rfl,rfl⟩;refine sNn ?_;repeat'(first|intro(g:Nat)|refine gP ?_|intro v)
 refine cK (UR 3 4 qd qd) ?_;rintro v17 _ _ ⟨t1,rfl,rfl⟩;refine sNn ?_;repeat'(first|intro(g:Nat)|refine gP ?_|intro v)
 refine cK (UR 1 3 qd qd) ?_;rintro v18 _ _ ⟨t2,rfl,rfl⟩;refine sNn ?_;refine WL.l rfl rfl (LO.bsP3 (t0:=t0) (t1:=t1) (t2:=t2) (xs:=pl Fx.exP) rfl rfl rfl (KnS.lf (S:=Qz) (v:=v16) hmA) (KnS.lf (S:=Qz) (v:=v17) hmA) (KnS.lf (S:=Qz) (v:=v18) hmA) λpv=>?_);refine WL.QY (S:=tlS) (v:=pv) (n:=3) (ms:=pm3 (v16,t0) (v17,t1) (v18,t2)) (xs:=pl Fx.exP) wq3 (has_ex hmA hmA hmA) ?_;generalize hpm:pm3 (v16,t0) (v17,t1) (v18,t2)=pm;refine WL.QE (lF tlS (resl pv 0 2 1) 2 pm (pl Fx.Z1)) (has_ex2 hmA) ?_;refine WL.QE (lF Qz (.slice none 0 0) 0 t0 (tl [])) W.Has.lnil ?_;repeat'(first|intro(g:Nat)|refine gP ?_|intro v)
 refine cK (KE bl (.slice none 0 0) pv 1 (λ_=>⟨m10,n11,n12,n13⟩) UD [] Fx.exP t0 pm 2 1 qd qd qd ex_P.1 qd qd qd qd (ex_hS Fx.Fa.1)) ?_;rintro _ _ _ ⟨rfl,fv,fm,fx,⟨i,sv,cv,cm,xs,hfi,rfl,rfl,hfx,hpt⟩|⟨hno,rfl,rfl,hfx⟩⟩;case inr=>exact(Fx.Jf.none Fx.UE.1 hno).elim
 obtain rfl:i=3:=Fx.Jf.eq hfi Fx.UE.1;refine sNn ?_;repeat'(first|intro(g:Nat)|refine gP ?_|intro v)
 revert g;intro g3;refine WL.y (YO.slice (a:=0) (b:=2) T.s33 rfl (KnS.lf (S:=tlS) (v:=pv) (n:=3) (ms:=pm) (xs:=pl Fx.exP) hmA) (Or.inl ⟨rfl,rfl⟩) (Or.inr ⟨_,rfl,rfl⟩) qd qd) qr qr ?_;refine cK (KE bl (.slice none 0 0) (resl pv 0 2 1) 1 (λ_=>⟨m10,n11,n12,n13⟩) UD [] Fx.Z1 t0 pm 2 1 qd qd qd ex_P.2 qd qd qd qd (ex_hS Fx.Fa.2)) ?_;rintro _ _ _ ⟨rfl,fv2,fm2,fx2,⟨i,sv2,cv2,cm2,xs2,hfi2,rfl,rfl,hfx2,hpt2⟩|⟨hno2,rfl,rfl,hfx2⟩⟩;case inr=>exact(Fx.Jf.none Fx.UE.2.1 hno2).elim
 obtain rfl:i=3:=Fx.Jf.eq hfi2 Fx.UE.2.1;refine sNn ?_;repeat'(first|intro(g:Nat)|refine gP ?_|intro v)
 revert g;intro g5;refine WL.y (YO.slice (a:=0) (b:=2) T.s33 rfl (KnS.lf (S:=tlS) (v:=pv) (n:=3) (ms:=pm) (xs:=pl Fx.exP) hmA) (Or.inl ⟨rfl,rfl⟩) (Or.inr ⟨_,rfl,rfl⟩) qd qd) qr qr ?_;refine cK (KE bl (.slice none 0 0) (resl pv 0 2 1) 1 (λ_=>⟨m10,n11,n12,n13⟩) UD [] Fx.Z1 t0 pm 1 1 qd qd qd ex_P.2 qd qd qd qd (ex_hS Fx.Fa.2)) ?_;rintro _ _ _ ⟨rfl,fv3,fm3,fx3,⟨i,sv3,cv3,cm3,xs3,hfi3,rfl,rfl,hfx3,hpt3⟩|⟨hno3,rfl,rfl,hfx3⟩⟩;case inl=>exact(Fx.Jf.none hfi3 Fx.UE.2.2).elim
 refine sNn ?_;repeat'(first|intro(g:Nat)|refine gP ?_|intro v)
 revert g;intro g7;refine cK (sets_c 3 2 ⟨by decide,by decide⟩ ⟨by decide,by decide⟩) ?_;rintro v9 _ _ ⟨sm,rfl,rfl⟩;refine sNn ?_;refine WL.QY (S:=Qm) (v:=v9) (n:=(Fx.QO 3 2).length) (ms:=sm) (xs:=sl (Fx.QO 3 2)) wq3 hmA ?_;have e1:sl (Fx.Qc [] Fx.exP 2) 3=[2]:=by rw[Fx.Y6.1];rfl
 have e2:sl (Fx.Qc [] Fx.Z1 2) 3=[0,1]:=by rw[Fx.Y6.2.1];rfl
 have e3:(Fx.Qc [] Fx.Z1 1).length=3:=by rw[Fx.Y6.2.2.1];rfl
 have e4:(Fx.QO 3 2).length=7:=by rw[Fx.Y6.2.2.2];rfl
 have e5:sl (Fx.QO 3 2) 6=[1,2]:=by rw[Fx.Y6.2.2.2];rfl
 have c1:=λv=>XA sv v (sl (Fx.Qc [] Fx.exP 2) 3) [2];rw[decide_eq_true e1] at c1;have c2:=λv=>XA sv2 v (sl (Fx.Qc [] Fx.Z1 2) 3) [0,1];rw[decide_eq_true e2] at c2;have c3:=λv=>XA (sm 6) v (sl (Fx.QO 3 2) 6) [1,2];rw[decide_eq_true e5] at c3;repeat'(first|intro(g:Nat)|refine gP ?_|intro v)
 refine cV (c1 _) ?_;repeat'(first|intro(g:Nat)|refine gP ?_|intro v)
 refine cV (c2 _) ?_;repeat'(first|intro(g:Nat)|refine gP ?_|intro v)
 refine cV (check_c bl (.slice none 0 0) pv 1 (λ_=>⟨m10,n11,n12,n13⟩) UD [] Fx.exP t0 pm 2 1 qd qd qd ex_P.1 qd qd qd qd (ex_hS Fx.Fa.1) ex_hY sv cv fv fm fx 3 cm xs Fx.UE.1.1 hfx hpt) ?_;repeat'(first|intro(g:Nat)|refine gP ?_|intro v)
 rw[show Int.toNat 6=6 from rfl];refine WL.QE (sI (sm 6) (sl (Fx.QO 3 2) 6)) (W.Has.lk (S:=Qm) (v:=v9) (ms:=sm) (xs:=sl (Fx.QO 3 2)) hmA qo) ?_;refine cV (c3 _) ?_;repeat'(first|intro(g:Nat)|refine gP ?_|intro v)
 exact wq6
end Y
end Q
end K
def FnB.monoG{P:Program}{f:FuncId}{args:List Value}{bx:List Ow}{F:List Fct}{R R':Qf}(h:FnB P f args bx F R)(hr:∀v b g,R v b g->∃g',(∀x∈g',W.Has g x)/\R' v b g'):FnB P f args bx F R':=
 ⟨h.1,λfr w ho=>(h.2 fr w ho).mono λ_ _ _ ⟨h0,b,g,h2,h3,h4,h5⟩=>by
  obtain⟨g',h6,h7⟩:=hr _ _ _ h2;exact⟨h0,b,g',h7,h3,h4,h5.frame,h5.apart,h5.nodup,h5.owns,λx hx=>h5.has (h6 x hx)⟩⟩
def selS(C:List (List Int)):Option Nat->List Int
 |some i=>sl C i
 |none=>[]
def Zb(C:List (List Int)):Option Nat->Nat
 |some i=>i
 |none=>C.length
def Y0:Option Nat->Int
 |some _=>0
 |none=>16
def IsCh2(C:List (List Int))(Q:List Int->Prop):Qf:=λv bx G=>bx=[]/\∃(a:Option Nat) (pv cv fv:Value) (cn:Nat) (cf:Nat->Value) (fm:Nat->Value×(Nat->QM)) (fx:Nat->Nat×Nat×(Nat->Rat)),
 v=.tuple #[.agg #[pv,cv,fv],.int .i64 (Y0 a)]/\Fx.Ans C Q a/\Zb C a<=C.length/\G=[sI pv (selS C a),slC cv cn 1 cf,lF JC fv (Zb C a) fm fx]
def has_slC0{F:List Fct}{f:Nat->Value}:W.Has F (slC (.slice none 0 0) 0 1 f):=λp _=>⟨none,0,rfl,Nat.le_refl _,by simp[maxLen],.inl ⟨rfl,rfl,rfl⟩⟩
def KD(l deal:List Int){P:List (List Tc)}(hP:∀p∈P,p∈Fx.Jo l deal){s:List Int}(hl:(Fx.Qe (Fx.JP l deal) P s).length<=10) :
  (scP (Fx.Jn l) (Bl.QL l).B (Fx.JP l deal) P s).ok/\Ss 1 (scP (Fx.Jn l) (Bl.QL l).B (Fx.JP l deal) P s):=by
 obtain⟨h1,h2⟩:=Fx.KF l deal;have h3:=Fx.YF h1 (λp hp=>h2 p (hP p hp)) s;have hn:=Bl.Dd l;have hN:Fx.Jn l=min 2 (Bl.QL l).n:=rfl;refine⟨Fx.Dy qo hl (λi hi=>(Bl.VY l).B i qo) λx hx=>(h3 x hx).1,Fs.ss (D:=120) (A:=4800) (Fx.HV (λi hi=>?_) λx hx=>(h3 x hx).2) qd qd qd⟩;have hb:=(Bl.Ua l).B i qo;obtain⟨b1,b2,b3,b4⟩:=hb;have up:∀{q:Rat},Fr 60 2400 q->Fr 120 4800 q:=λh=>h.sc' (c:=2) rfl qd;exact⟨⟨up b1.1,up b1.2⟩,up b2,up b3,up b4⟩
def Fj(l deal:List Int):(Fx.JP l deal).length<=10/\(Fx.Jo l deal).length<=3/\1<=(Fx.Jo l deal).length/\(∀p∈Fx.Jo l deal,p.length<=100)/\∀p∈Fx.Jo l deal,p.length<=10:=by
 have hm:=(Bl.Dd l).2.2;obtain⟨h1,h2⟩:=Fw (n:=Fx.Jn l) (K:=Fx.Yj deal) (T:=(Bl.QL l).T) (deal:=deal) (Bl.QL l).m;have hk:=Fx.GC deal;have hl:=Fx.caseP_len l deal
 have h10:∀p∈Fx.Jo l deal,p.length<=10:=by
  intro p hp;obtain⟨q,hq,rfl⟩:=List.mem_iff_getElem.1 hp;have h3:=h2 q;have h4:pl (Fx.Jo l deal) q=(Fx.Jo l deal)[q]:=by rw[pl,List.getD_eq_getElem?_getD,List.getElem?_eq_getElem hq];rfl
  have h5:(pl (Fx.Jo l deal) q).length<=2*(Bl.QL l).m:=h3;rw[<-h4];omega
 have h1':(Fx.JP l deal).length<=(Bl.QL l).m:=h1;exact⟨by omega,by omega,by omega,λp hp=>Nat.le_trans (h10 p hp) qd,h10⟩
namespace K
namespace Q
namespace Y
def Yf(lv tv pv:Value)(n:Nat)(bm:Nat->BM)(B:Nat->Bd)(t:List Tc)(P:List (List Tc))(tm:Nat->ToM)(pm:Nat->Value×(Nat->ToM))(most:Int)(K:Nat)(hn:n<=5)(ht:t.length<=10)(hP8:P.length<=8)(hP:∀p∈P,p.length<=100)(hm0:0<=most)(hm8:most<=8)(h0K:0<K)(hK:K<=3)
  (hS:∀s∈Fx.Qc t P most,(scP n B t P s).ok/\Ss K (scP n B t P s)) :
  FnB Tryz.prog 16 [lv,tv,pv,.int .i64 most] [] [isX Tryz.prog,lF Qo lv n bm B,lF Qz tv t.length tm (tl t),lF tlS pv P.length pm (pl P)] (IsCh2 (Fx.Qc t P most) (stP n B t P)):=by
 refine FnB.monoG (KE lv tv pv n bm B t P tm pm most K hn ht hP8 hP hm0 hm8 h0K hK hS) λv b g h=>?_;obtain⟨rfl,fv,fm,fx,⟨i,sv,cv,cm,xs,hfi,rfl,rfl,_,_⟩|⟨hno,rfl,rfl,_⟩⟩:=h
 .refine⟨[sI sv (sl (Fx.Qc t P most) i),slC cv (2^n) 1 (ZU plS cm λc=>psh (2*(scP n B t P (sl (Fx.Qc t P most) i)).m) (xs c)),lF JC fv i fm fx],λx hx=>?_,rfl,some i,sv,cv,fv,_,_,fm,fx,rfl,hfi,Nat.le_of_lt hfi.1,rfl⟩;simp only[List.mem_cons,List.not_mem_nil,or_false] at hx;rcases hx with rfl|rfl|rfl
  .exact Has.mem (by simp)
  .exact W.Has.ls (S:=plS) (Has.mem (List.mem_cons_of_mem _ (List.mem_cons_self ..)))
  .exact Has.mem (by simp)
 .refine⟨[sI (.slice none 0 0) [],slC (.slice none 0 0) 0 1 λ_=>.slice none 0 0,lF JC fv (Fx.Qc t P most).length fm fx],λx hx=>?_,rfl,none,_,_,fv,_,_,fm,fx,rfl,hno,Nat.le_refl _,rfl⟩;simp only[List.mem_cons,List.not_mem_nil,or_false] at hx;rcases hx with rfl|rfl|rfl
  .exact has_sI0
  .exact has_slC0
  .exact Has.mem (by simp)
end Y
end Q
end K
end
section
open Go.RowKit
open Go.Conc hiding base G
open Go.Conc (base enter_at)
open Go.Conc (G)
namespace W
section
variable {P:Program}{sh own:Bk}{w:World}{a:Act}
def stepG_top{main:Bool}{fn:Func}{b:Frame}{todo:List Item}{v:Value}(hn:b.kind=.normal)(hd:a.defers=[])(hf:P.funcs[b.fn]?=some fn)(hi:P.inits.idxOf? b.fn=none)(hr:(results fn a.tmps).run P w=.ok v w) :
  stepG P true (G {b.atR a todo with mode:=.returning} []) w=.ended (.done v) w (seen P b.fn ((results fn a.tmps).events P w #[])):=by
 simp[G,stepG,unwind,doReturn,Frame.atR,hn,hd,hf,hr,hi,GStep.after]
def GK{main:Md}{fn:Func}{f:FuncId}(hm:main.b=true)(hf:P.funcs[f]?=some fn)(hi:P.inits.idxOf? f=none){tmps:Array Value}{todo:List Item}{v:Value}{Post:Value->World->Prop} :
  ∀(Ds:List Nat) (w:World),Ds.Nodup->(∀D∈Ds,own D/\w.heap[D]?=some (.deferred (some [])))->
   (∀w1,Unm own sh Ds w w1->(results fn tmps).run P w1=.ok v w1/\(∀ev∈(results fn tmps).events P w1 #[],X7 own sh ev)/\Post v w1)->
   Run P main sh (G5 P sh Post) own (G {(base f).atR ⟨tmps,Ds.map mkD⟩ todo with mode:=.returning} []) w
 |[],w,_,_,h=>by
  refine Run.stop λw2 h2=>?_;obtain⟨h3,h4,h5⟩:=h w2 ⟨h2.rest,h2.size,λk k1 k2 _=>h2.keep k k1 k2⟩;exact⟨rfl,v,_,stepG_top (main:=true) (b:=base f) rfl rfl hf hi h3,λe he=>h4 e (JY he),h5⟩
 |D::Ds,w,hn,hD,h=>by
  refine Run.go rfl λw2 h2=>?_;obtain⟨hn1,hn2⟩:=List.nodup_cons.1 hn;obtain⟨d1,d2⟩:=hD D (List.mem_cons_self ..);have hlt:∀D'∈D::Ds,D'<w.heap.size:=λD' h'=>(Array.getElem?_eq_some_iff.1 (hD D' h').2).1;have hsame:∀D'∈D::Ds,w2.heap[D']?=some (.deferred (some [])):=λD' h'=>by rw[h2.keep D' (hlt D' h') (.inl (hD D' h').1)];exact(hD D' h').2
  refine⟨_,_,_,HH (hsame D (List.mem_cons_self ..)),⟨⟨rfl,rfl,rfl⟩,by simp,λk _ hk=>World.putObj_heap_other (λe=>hk (e ▸ d1)),λe he=>?_⟩,?_⟩
  .have he:=JY he;have hh:=hsame D (List.mem_cons_self ..);rw[Yk hh] at he;simp at he;rcases he with rfl|rfl<;>exact .inr (.inr ⟨D,rfl,.inl d1⟩)
  .rw[Qt (by simp)];refine GK hm hf hi (v:=v) Ds _ hn2 (λD' h'=>⟨(hD D' (List.mem_cons_of_mem _ h')).1,?_⟩) λw1 h1=>?_
   .rw[World.putObj_heap_other (λe=>by subst e;exact hn1 h')];exact hsame D' (List.mem_cons_of_mem _ h')
   .refine h w1 ⟨h2.rest.trans (Rest.trans (b:=w2.putObj D (.deferred none)) ⟨rfl,rfl,rfl⟩ h1.rest),Nat.le_trans h2.size (by simpa using h1.size),λk k1 k2 k3=>?_⟩;have k4:k∉Ds:=λhx=>k3 (List.mem_cons_of_mem _ hx);rw[h1.keep k (by simpa using Nat.lt_of_lt_of_le k1 h2.size) k2 k4,World.putObj_heap_other (λe=>k3 (by rw[<-e];exact List.mem_cons_self ..)),h2.keep k k1 k2]
def calls_top{main:Md}(hm:main.b=true){f:FuncId}(hi:P.inits.idxOf? f=none){args:Array Value}{K:Bk->Value->World->Prop}{Post:Value->World->Prop}(h:Zc P main sh f args own w K)(hK:∀own' v w',K own' v w'->Post v w') :
  Run P main sh (G5 P sh Post) own (G (Frame.enter P f args .normal) []) w:=by
 obtain⟨fn,cd,hf,hname,hb,hwp⟩:=h;rw[enter_at _ hf hb,<-Frame.atR_of_none (b:=base f) rfl]
 have hleave:∀(own':Bk) (a':Act) (w':World) (todo:List Item),bodyR P sh fn K own' .ret a' w'->Run P main sh (G5 P sh Post) own' (G {(base f).atR a' todo with mode:=.returning} []) w':=by
  rintro own' ⟨tmps,ds⟩ w' todo ⟨Ds,hd,q1,q2,v,q3⟩;simp only at hd;subst hd;exact GK hm hf hi Ds w' q1 q2 λw1 h1=>⟨(q3 w1 h1).1,(q3 w1 h1).2.1,hK _ _ _ (q3 w1 h1).2.2⟩
 refine hwp (base f) [] [] _ rfl (by simp[base]) λown' e a' w' q=>?_;cases e with
 |normal=>exact Run.quiet rfl (λ_=>sg_end rfl) (hleave own' a' w' [] q)
 |ret=>exact⟨λ_ todo=>hleave own' a' w' todo q,λh=>absurd rfl h⟩
 |exit id=>exact q.elim
 |goto l=>exact q.elim
 |panic ch=>exact q.elim
 |outgrown=>exact q.elim
end
def Ext(V1 V2:World):Prop:=∀(k:Nat) (o:Obj),V1.heap[k]?=some o->V2.heap[k]?=some o
def Kr{P:Program}{f:FuncId}{args:List Value}{F:List Fct}{v0:Value}{V1:World}(hi:P.inits.idxOf? f=none)(hf:FnB P f args [] (isX P::F) (IsV v0))(hF:∀g∈F,g.p ⟨XZ P,λk=>V1.heap[k]?⟩) :
  ∃M last o w' t',runNT P (M+1) (solo (G (Frame.enter P f args.toArray .normal) []) V1) #[]=(.ended o w',t')/\runN P M (solo (G (Frame.enter P f args.toArray .normal) []) V1)=.next last/\step P last=.ended o w'/\
   Conc.Good P (λv V2=>v=v0/\Rest V1 V2/\Ext V1 V2) last o w' t':=by
 let fr:CF:=⟨XZ P,λ_=>False,λk=>k<V1.heap.size,λ_=>none,[]⟩
 have him:imm fr [] V1.heap=⟨XZ P,λk=>V1.heap[k]?⟩:=by
  unfold imm CF.see
  congr 1
  funext k
  simp[fr,ids];by_cases h:k<V1.heap.size
  .simp[h,CF.vs,CF.no,XZ]
  .simp[h,CF.vs,CF.no,XZ]
 have ho:OK fr [] (isX P::F) V1:=⟨⟨λ_ _ h=>(by cases h),λk hk=>hk.elim id False.elim,λk hk=>hk.elim⟩,by simp[ids],by simp[ids],by simp,λg hg=>by
  rw[him];rcases List.mem_cons.1 hg with rfl|hg
  .rfl
  .exact hF g hg⟩
 have hrun:=calls_top (main:=XZ P) rfl hi (Post:=λv V2=>v=v0/\Rest V1 V2/\Ext V1 V2) (hf.2 fr V1 ho) (by
  rintro own' v V2 ⟨h0,b,G,h1,h2,h3,h4⟩;obtain⟨h6,h7,h8⟩:=h1;subst h6 h7;refine⟨rfl,h2,λk o hk=>?_⟩;rw[him] at h3;exact JX (h3.2 k o hk))
 have hlt:∀k,(k<V1.heap.size\/False)->k<V1.heap.size:=λk h=>h.elim id False.elim
 have hct:Go.ConcN.CT (λ_=>False) (λ_ _=>False) (λ_ _=>False) (#[]:Trace) 0:=by
  have:=Go.ConcN.CT.lone (Sh:=λ_=>False) (Own:=λ_ _=>False) (Rd:=λ_ _=>False) (u:=(#[]:Trace)) (λop hop=>absurd hop (by simp)) (λop hop=>absurd hop (by simp));simpa using this
 have hp:=past_nil
 obtain⟨N,last,o,w',t',e1,e2,e3,e4⟩:=Uy (run_mainX (λ_ h=>h) hrun) (gs:=#[G (Frame.enter P f args.toArray .normal) []]) (sl:=none) (t:=#[]) (q:=λ_=>0) (Shun:=λ_=>False) rfl
  ⟨leavers_one P _,hct,by simp[Trace.HandedOver,Trace.g?],rfl,by simp,λl hl=>hl.elim,hlt⟩
 rw[solo_eq_crowd];exact⟨N,last,o,w',t',e1,e2,e3,e4⟩
end W
end
end Go.Proofs.YtbnobghgnbockaaGreat
