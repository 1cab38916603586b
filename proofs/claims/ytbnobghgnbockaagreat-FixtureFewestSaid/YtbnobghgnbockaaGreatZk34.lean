/- Lemmas. Conditions: none. -/
import Derived.Test.YtbnobghgnbockaaGreatZk33
import Derived.Test.YtbnobghgnbockaaGreatZk26
set_option linter.all false
set_option maxHeartbeats 0
set_option maxRecDepth 100000
namespace Go.Proofs.YtbnobghgnbockaaGreat
open Tryz (prog)
section
open W Go.RowKit
open Bl (Vc Bd Tc Sc)
def IsBo(p:Prop):Qd:=λv B G=>∃b:Bool,v=.bool b/\(b=true↔p)/\B=[]/\G=[]
abbrev BalX(S:Sc)(w:nf)(xs:Nat->Vc):Prop:=Bl.Bal S w (λk=>(xs k).x) λk=>(xs k).y
def okE(S:Sc)(xs:Nat->Vc)(k:Nat):Prop:=0<=(xs k).x/\(xs k).y<=(S.T (k/2)).r*(xs k).x/\-(xs k).y<=(S.T (k/2)).r*(xs k).x
def oE(S:Sc)(xs:Nat->Vc)(i k:Nat):Vc:=Bl.on (S.T (k/2)) i (Bl.frc (S.T (k/2)) (xs k).x (xs k).y)
def pfx(S:Sc)(w:nf)(xs:Nat->Vc)(i k:Nat):Vc:=⟨X.sm k (λj=>(oE S xs i j).x),-(w i)+X.sm k (λj=>(oE S xs i j).y)⟩
def tqx(S:Sc)(xs:Nat->Vc)(i k:Nat):Rat:=X.sm k λj=>Bl.JZ (Bl.Jl (S.at j) (S.B i).c) (oE S xs i j)
def okB(S:Sc)(w:nf)(xs:Nat->Vc)(i:Nat):Prop:=((pfx S w xs i (2*S.m)).x=0/\(pfx S w xs i (2*S.m)).y=0)/\tqx S xs i (2*S.m)=0/\stK S xs (2*S.m) i<=(S.B i).st
def pfx_step{S:Sc}{w:nf}{xs:Nat->Vc}{i k:Nat}:(⟨(pfx S w xs i k).x+(oE S xs i k).x,(pfx S w xs i k).y+(oE S xs i k).y⟩:Vc)=pfx S w xs i (k+1):=by
 show Vc.mk _ (-(w i)+X.sm k _+_)=Vc.mk _ (-(w i)+(X.sm k _+_));rw[Rat.add_assoc];rfl
def frc_eq{t:Tc}{u v:Rat}:(⟨t.n.x*u+(Bl.turn t.n).x*v,t.n.y*u+(Bl.turn t.n).y*v⟩:Vc)=Bl.frc t u v:=by
 unfold Bl.frc Bl.turn;simp only[Vc.mk.injEq];constructor<;>grind
def Zj{S:Sc}{w:nf}{xs:Nat->Vc}:BalX S w xs↔(∀k,k<2*S.m->okE S xs k)/\∀i,i<S.n->okB S w xs i:=by
 constructor
 .intro h;refine⟨h.1,λi hi=>?_⟩;obtain⟨h1,h2,h3,h4⟩:=h.2 i hi;refine⟨⟨h1,?_⟩,h3,h4⟩;show -(w i)+X.sm (2*S.m) (λj=>(oE S xs i j).y)=0;have:X.sm (2*S.m) (λj=>(oE S xs i j).y)=w i:=h2;rw[this];grind
 .rintro⟨h1,h⟩;refine⟨h1,λi hi=>?_⟩;obtain⟨⟨h2,h3⟩,h4,h5⟩:=h i hi;refine⟨h2,?_,h4,h5⟩;have h3':-(w i)+X.sm (2*S.m) (λj=>(oE S xs i j).y)=0:=h3;show X.sm (2*S.m) (λj=>(oE S xs i j).y)=w i;grind
def oE_sz{S:Sc}{xs:Nat->Vc}{K Kp:Nat}(h0K:0<K)(hK:K<=1000)(hKp:Kp<=400000)(hs:Ss K S)(hx:∀k,k<2*S.m->Sv Kp (xs k)){i k:Nat}(hk:k<2*S.m):Sv 900000 (oE S xs i k)/\Sv 900000 (Bl.frc (S.T (k/2)) (xs k).x (xs k).y):=by
 have hnn:=(hs.T (k/2) qo).2.2.1;have hf:Sv 900000 (Bl.frc (S.T (k/2)) (xs k).x (xs k).y):=⟨(((hx k hk).1.mul hnn.1).sub ((hx k hk).2.mul hnn.2)).up qo,(((hx k hk).1.mul hnn.2).add ((hx k hk).2.mul hnn.1)).up qo⟩
 exact⟨on_sz qo hf,hf⟩
def pfx_sz{S:Sc}{w:nf}{xs:Nat->Vc}{K Kp:Nat}(h0K:0<K)(hK:K<=1000)(hKp:Kp<=400000)(hs:Ss K S)(hm:S.m<=10)(hx:∀k,k<2*S.m->Sv Kp (xs k)){i k:Nat}(hw:Sq K (w i))(hk:k<=2*S.m):Sv 40000000 (pfx S w xs i k):=by
 have h1:=X.YM (m:=k) (f:=λj=>(oE S xs i j).x) (k:=900000) λj hj=>(oE_sz h0K hK hKp hs hx (i:=i) (show j<2*S.m by omega)).1.1;have h2:=X.YM (m:=k) (f:=λj=>(oE S xs i j).y) (k:=900000) λj hj=>(oE_sz h0K hK hKp hs hx (i:=i) (show j<2*S.m by omega)).1.2;exact⟨h1.up qo,(hw.neg.add h2).up qo⟩
def tqx_sz{S:Sc}{xs:Nat->Vc}{K Kp:Nat}(h0K:0<K)(hK:K<=1000)(hKp:Kp<=400000)(hs:Ss K S)(hm:S.m<=10)(hx:∀k,k<2*S.m->Sv Kp (xs k)){i k:Nat}(hi:i<S.n)(hk:k<=2*S.m):Sq 60000000 (tqx S xs i k)/\∀j,j<2*S.m->Sq 2000000 (Bl.JZ (Bl.Jl (S.at j) (S.B i).c) (oE S xs i j)):=by
 have hc:∀j,j<2*S.m->Sq 2000000 (Bl.JZ (Bl.Jl (S.at j) (S.B i).c) (oE S xs i j)):=λj hj=>by
  have ht:=hs.T (j/2) qo
  have hat:Sv K (S.at j):=by
   unfold Bl.Sc.at;split
   .exact ht.1
   .exact ht.2.1
  have ho:=(oE_sz h0K hK hKp hs hx (i:=i) hj).1;exact(((hat.1.sub (hs.B i hi).1.1).mul ho.2).sub ((hat.2.sub (hs.B i hi).1.2).mul ho.1)).up qo
 have h1:=X.YM (m:=k) (f:=λj=>Bl.JZ (Bl.Jl (S.at j) (S.B i).c) (oE S xs i j)) (k:=2000000) λj hj=>hc j qo;exact⟨h1.up qo,hc⟩
def y_vec1{e:Env}{bx:nw}{F:nc}{ty:nl}{x:ni}{m:QM}(hx:ev e x=some (qv m)):YO prog (.build 77 #[(1,x)]) ty e bx F (vv (m00,m)):=YO.build (parts:=[(1,x)]) (.cons hx .nil) λ_=>by kernel_rfl
def has_v0{F:nc}{m:QM}{a:Rat}(h:W.Has F (isQ (qv m) a)):W.Has F (fV (m00,m) ⟨0,a⟩):=λp hf=>⟨Jr p hf,h p hf⟩
def has_v0'{S:Sc}{xs:Nat->Vc}{w:nf}{i:Nat}{F:nc}{m:QM}(h:W.Has F (isQ (qv m) (-(w i)))):W.Has F (fV (m00,m) (pfx S w xs i 0)):=λp hf=>by
 refine⟨Jr p hf,?_⟩;show(isQ (qv m) (-(w i)+0)).p p;rw[show -(w i)+0= -(w i) by grind];exact h p hf
namespace K
attribute [local irreducible] WC WL WD YO LO Qq W.Fin Qk Qh Qj Row QZ Qv KnS Has W.One Qo QX
def d82{G G':Prop}(h:G')(s:Bx G'->G:=by
 intro h;first|refine gE ?_|(apply WC.draw (id:=7) [0,1,2,3,4,5,6,7] (.h 0<|.h 1<|.h 2<|.h 3<|.h 4<|.h 5<|.h 6<|.h 7<|.m 8 (.l 9<|.l 10 .done) (.l 9<|.l 8<|.l 10 .done)) mixed kr)|(apply WC.draw (id:=8) [0,1,2,3,4,6,7,8,9,10,11,12,13,15,16,17,18,19,20,21,22,24,26,27] (.h 0<|.h 1<|.h 2<|.h 3<|.h 4<|.l 5<|.h 6<|.h 7<|.h 8<|.h 9<|.h 10<|.h 11<|.h 12<|.h 13<|.l 14<|.h 15<|.h 16<|.h 17<|.h 18<|.h 19<|.h 20<|.h 21<|.h 22<|.h 24<|.l 23<|.l 25<|.h 26<|.h 27 .done) mixed kr)|(apply WC.draw (id:=19) [0,1,2,3,4,5,6,7,8,9,11,12,13,15,16,17,18,19] (.h 0<|.h 1<|.h 2<|.h 3<|.h 4<|.h 5<|.h 6<|.h 7<|.h 8<|.h 9<|.h 11<|.h 12<|.h 13<|.h 15<|.h 16<|.h 17<|.h 18<|.h 19<|.m 10 (.m 14 (.m 20 (.m 21 (.m 22 (.l 23<|.l 24 .done) (.l 23<|.l 22<|.l 24 .done)) (.l 23<|.l 21<|.l 22<|.l 24 .done)) (.l 23<|.l 20<|.l 21<|.l 22<|.l 24 .done)) (.l 23<|.l 14<|.l 20<|.l 21<|.l 22<|.l 24 .done)) (.l 23<|.l 10<|.l 14<|.l 20<|.l 21<|.l 22<|.l 24 .done)) mixed kr)|(apply WC.draw (id:=21) [0,1,2,3,4,6] (.h 0<|.h 1<|.h 2<|.h 3<|.h 4<|.h 6<|.l 5<|.l 7<|.l 8<|.l 9 .done) mixed kr)|(apply WC.draw (id:=23) [0,1,3,4,5,7,8,9,10,11,12,13,14,15,17,18] (.h 0<|.h 1<|.l 2<|.h 3<|.h 4<|.h 5<|.l 6<|.h 7<|.h 8<|.h 9<|.h 10<|.h 11<|.h 12<|.h 13<|.h 14<|.h 15<|.l 16<|.h 17<|.h 18 .done) mixed kr)|fail
 exact Bx.h h):G:=s ⟨h⟩
def d82r{G G':Prop}(h:G')(s:Bx G'->G:=by
 intro h;repeat'(first|intro(zQ:Nat)|refine d82 ?_|intro zQ)
 repeat revert zQ
 exact Bx.h h):G:=s ⟨h⟩

def balance_c(M:SM)(S:Sc)(wv pv:nA)(mw:Nat->QM)(w:nf)(mp:Nat->VM)(xs:Nat->Vc)(K Kp:Nat)(h0K:0<K)(hK:K<=1000)(hKp:Kp<=400000)(hs:Ss K S)(ho:S.ok)(hw:∀i,i<S.n->Sq K (w i))(hx:∀k,k<2*S.m->Sv Kp (xs k)) :
  FnB prog 82 [M.l,M.t,wv,pv] [] [fSl M S,fSt M S,fF wv S.n mw w,lF Jt pv (2*S.m) mp xs] (IsBo (BalX S w xs)):=by
 refine fO [(0,M.l),(1,M.t),(2,wv),(3,pv)] 155 Tryz.func82 Tryz.ntmps82 λh0=>?_;have hn:=ho.n;have hm:=ho.m;have hmc:(2*(S.m:Int))=((2*S.m:Nat):Int):=qo;refine d82r ?_;rw[hmc];refine cV (Vv pv (2*S.m) mp xs Kp qo qo hx) ?_;refine d82r ?_;refine cK (ends_c M S ho) ?_;rintro va _ _ ⟨rfl,rfl⟩;refine sNn ?_;refine d82r ?_;refine WC.JK (σ:=Unit) (λ_=>[(9,va),(0,M.l),(1,M.t),(2,wv),(3,pv)]) (λ_=>[]) (λ_=>[ge h0,lF JO va (2*S.m) (edM M.T) (edT S.T),lF Jt pv (2*S.m) mp xs,fF wv S.n mw w,fSl M S,fSt M S]) (λ_=>∀k,k<2*S.m->okE S xs k) ?_ ?_
 .refine WC.lp (σ:=Nat) (λk=>[(31,.int .i64 (k:Int)),(30,.int .i64 ((2*S.m:Nat):Int)),(29,va),(9,va),(0,M.l),(1,M.t),(2,wv),(3,pv)]) (λ_=>[]) (λ_=>[ge h0,lF JO va (2*S.m) (edM M.T) (edT S.T),lF Jt pv (2*S.m) mp xs,fF wv S.n mw w,fSl M S,fSt M S]) (λk=>k<=2*S.m/\∀j,j<k->okE S xs j) (λk=>2*S.m-k) 0 ⟨aj _,λj h=>absurd h qo⟩ ?_;rintro k ⟨hk,hok⟩;by_cases d:k<2*S.m
  .refine WC.fact (fE (edM M.T k) (edT S.T k)) (W.Has.lk (S:=JO) (v:=va) hmA d) ?_;refine WC.fact (fT (edM M.T k).t (edT S.T k).t) (W.Has.et (em:=edM M.T k) hmA) ?_;refine WC.fact (isQ (qv (edM M.T k).t.r) (edT S.T k).t.r) (W.Has.trr (tm:=(edM M.T k).t) hmA) ?_;refine WC.fact (fV (mp k) (xs k)) (W.Has.lk (S:=Jt) (v:=pv) hmA d) ?_;refine WC.fact (isQ (qv (mp k).1) (xs k).x) (W.Has.vx (m:=mp k) hmA) ?_;refine WC.fact (isQ (qv (mp k).2) (xs k).y) (W.Has.vy (m:=mp k) hmA) ?_;have hr:Sq K (edT S.T k).t.r:=(hs.T (k/2) qo).2.2.2;have hrx:Sq 500000 ((edT S.T k).t.r*(xs k).x):=(hr.mul (hx k d).1).up qo;have hsg:=@Xq (xs k).x;repeat'(first|intro(g:Nat)|refine d82 ?_|refine gN ?_ ?_|intro v)
   all_goals
    refine cW (Zn.mul (edM M.T k).t.r (mp k).1 (edT S.T k).t.r (xs k).x (hr.sm qo) ((hx k d).1.sm qo)) λn1=>?_;repeat'(first|intro(g:Nat)|refine d82 ?_|refine gN ?_ ?_|intro v)
   all_goals
    refine cV (Zn.sign (mp k).1 (xs k).x) ?_;by_cases h1:(xs k).x<0
    .have hs1:=hsg.2 h1;refine d82r ?_;exact wq82
    .have hs1:¬sgn (xs k).x.num<0:=λh=>h1 (hsg.1 h);refine d82r ?_;refine cV (Zn.cmp (mp k).2 n1 (xs k).y ((edT S.T k).t.r*(xs k).x) ((hx k d).2.sm qo) (hrx.sm qo)) ?_;by_cases h2:(edT S.T k).t.r*(xs k).x<(xs k).y
     .have hs2:=JE.2 h2;refine d82r ?_;refine WC.ret ?_;exact Fp [] (Qf.t1 rfl rfl) .nil ⟨false,rfl,⟨λh=>absurd h qd,λh=>absurd (h.1 k d).2.1 (by show ¬(xs k).y<=(edT S.T k).t.r*(xs k).x;grind)⟩,rfl,rfl⟩
     .have hs2:¬0<XN (xs k).y ((edT S.T k).t.r*(xs k).x):=λh=>h2 (JE.1 h);refine d82r ?_;refine cW (Zn.neg (mp k).2 (xs k).y) λn2=>?_;refine d82r ?_;refine cV (Zn.cmp n2 n1 (-(xs k).y) ((edT S.T k).t.r*(xs k).x) ((hx k d).2.neg.sm qo) (hrx.sm qo)) ?_;by_cases h3:(edT S.T k).t.r*(xs k).x < -(xs k).y
      .have hs3:=JE.2 h3;refine d82r ?_;refine WC.ret ?_;exact Fp [] (Qf.t1 rfl rfl) .nil ⟨false,rfl,⟨λh=>absurd h qd,λh=>absurd (h.1 k d).2.2 (by show ¬-(xs k).y<=(edT S.T k).t.r*(xs k).x;grind)⟩,rfl,rfl⟩
      .have hs3:¬0<XN (-(xs k).y) ((edT S.T k).t.r*(xs k).x):=λh=>h3 (JE.1 h);refine d82r ?_;refine Qq.mk (k+1) ⟨by omega,λj hj=>?_⟩ qo;by_cases e:j=k
       .subst e;exact⟨by grind,by show(xs j).y<=(edT S.T j).t.r*(xs j).x;grind,by show -(xs j).y<=(edT S.T j).t.r*(xs j).x;grind⟩
       .exact hok j qo
  .obtain rfl:k=2*S.m:=qo;refine d82r ?_;exact Qr () hok
 .rintro⟨⟩ hokE;refine d82r ?_;refine cK (stress_c M S pv mp xs K Kp h0K qo qo hs ho hx) ?_;rintro sv _ _ ⟨mst,rfl,rfl⟩;refine sNn ?_;refine d82r ?_;refine WC.lp (σ:=Nat) (λi=>[(80,.int .i64 (i:Int)),(79,.int .i64 (S.n:Int)),(78,M.l),(13,sv),(9,va),(0,M.l),(1,M.t),(2,wv),(3,pv)]) (λ_=>[]) (λ_=>[ge h0,lF JO va (2*S.m) (edM M.T) (edT S.T),lF Jt pv (2*S.m) mp xs,fF wv S.n mw w,fF sv S.n mst (stK S xs (2*S.m)),fSl M S,fSt M S]) (λi=>i<=S.n/\∀j,j<i->okB S w xs j) (λi=>S.n-i) 0 ⟨aj _,λj h=>absurd h qo⟩ ?_;rintro i ⟨hi,hokB⟩;by_cases d:i<S.n
  .refine WC.fact (fB (M.B i) (S.B i)) (W.Has.lk (S:=QQ) (v:=M.l) hmA d) ?_;refine WC.fact (isQ (qv (mw i)) (w i)) (W.Has.q (W.Has.fm (v:=wv) (n:=S.n) (ms:=mw) (qf:=w) hmA) d) ?_;refine d82r ?_;intro g;refine cW (Zn.neg (mw i) (w i)) λn1=>?_;refine d82r ?_;refine WL.y (y_vec1 (m:=n1) rfl) qr qr ?_;refine d82r ?_;intro g g;revert g;intro g17;revert g;intro g16;revert g;intro g15;refine WC.keep (g:=g15) (t:=88) (cs:=bcs (M.B i)) wq11 ?_;refine WC.fact (fV (m00,n1) (pfx S w xs i 0)) (has_v0' hmA) ?_;refine WC.fact (isQ (qv m00) (tqx S xs i 0)) Jr ?_;refine WC.JK (σ:=VM×QM) (λst=>[(14,.int .i64 (i:Int)),(15,ptr g15),(16,ptr g16),(17,ptr g17),(80,.int .i64 (i:Int)),(79,.int .i64 (S.n:Int)),(78,M.l),(13,sv),(9,va),(0,M.l),(1,M.t),(2,wv),(3,pv)]) (λst=>[Ow.cells g17 75 (qcs st.2),Ow.cells g16 77 (vcs st.1)]) (λst=>[fV st.1 (pfx S w xs i (2*S.m)),isQ (qv st.2) (tqx S xs i (2*S.m)),fB (M.B i) (S.B i),ce g15 88 (bcs (M.B i)),ge h0,lF JO va (2*S.m) (edM M.T) (edT S.T),lF Jt pv (2*S.m) mp xs,fF wv S.n mw w,fF sv S.n mst (stK S xs (2*S.m)),fSl M S,fSt M S]) (λ_=>True) ?_ ?_
   .refine WC.lp (σ:=Nat×VM×QM) (λst=>[(94,.int .i64 (st.1:Int)),(93,.int .i64 ((2*S.m:Nat):Int)),(92,va),(14,.int .i64 (i:Int)),(15,ptr g15),(16,ptr g16),(17,ptr g17),(80,.int .i64 (i:Int)),(79,.int .i64 (S.n:Int)),(78,M.l),(13,sv),(9,va),(0,M.l),(1,M.t),(2,wv),(3,pv)]) (λst=>[Ow.cells g17 75 (qcs st.2.2),Ow.cells g16 77 (vcs st.2.1)]) (λst=>[fV st.2.1 (pfx S w xs i st.1),isQ (qv st.2.2) (tqx S xs i st.1),fB (M.B i) (S.B i),ce g15 88 (bcs (M.B i)),ge h0,lF JO va (2*S.m) (edM M.T) (edT S.T),lF Jt pv (2*S.m) mp xs,fF wv S.n mw w,fF sv S.n mst (stK S xs (2*S.m)),fSl M S,fSt M S]) (λst=>st.1<=2*S.m) (λst=>2*S.m-st.1) (0,(m00,n1),m00) (aj _) ?_;rintro⟨k,vm,mt⟩ hk;simp only at hk ⊢;by_cases d2:k<2*S.m
    .refine WC.fact (fE (edM M.T k) (edT S.T k)) (W.Has.lk (S:=JO) (v:=va) hmA d2) ?_;refine WC.fact (fT (edM M.T k).t (edT S.T k).t) (W.Has.et (em:=edM M.T k) hmA) ?_;refine WC.fact (fV (edM M.T k).t.n (edT S.T k).t.n) (W.Has.tn (tm:=(edM M.T k).t) hmA) ?_;refine WC.fact (fV (edM M.T k).at' (edT S.T k).at') (W.Has.ea (em:=edM M.T k) hmA) ?_;refine WC.fact (fV (mp k) (xs k)) (W.Has.lk (S:=Jt) (v:=pv) hmA d2) ?_;refine WC.fact (isQ (qv (mp k).1) (xs k).x) (W.Has.vx (m:=mp k) hmA) ?_;refine WC.fact (isQ (qv (mp k).2) (xs k).y) (W.Has.vy (m:=mp k) hmA) ?_;refine WC.fact (fV (M.B i).c (S.B i).c) (W.Has.bc (bm:=M.B i) hmA) ?_;have hnn:Sv K (edT S.T k).t.n:=(hs.T (k/2) qo).2.2.1
     have hat:Sv K (edT S.T k).at':=by
         unfold edT;simp only;split
         .exact(hs.T _ qo).1
         .exact(hs.T _ qo).2.1
     have hoE:=oE_sz h0K hK hKp hs hx (i:=i) d2;have hpf:=pfx_sz h0K hK hKp hs hm hx (i:=i) (k:=k) (hw i d) hk;have htq:=tqx_sz h0K hK hKp hs hm hx (i:=i) (k:=k) d hk;have hvs:Sv 900000 (Bl.Jl (edT S.T k).at' (S.B i).c):=⟨(hat.1.sub (hs.B i d).1.1).up qo,(hat.2.sub (hs.B i d).1.2).up qo⟩
     repeat'(first|intro(g:Nat)|refine d82 ?_|refine gN ?_ ?_|intro v)
     all_goals
         refine cW (Gq (edM M.T k).t.n (mp k).1 (edT S.T k).t.n (xs k).x (Kp+K) qo ⟨hnn.1.up qo,hnn.2.up qo⟩ ((hx k d2).1.up qo)) λa1=>?_;repeat'(first|intro(g:Nat)|refine d82 ?_|refine gN ?_ ?_|intro v)
     all_goals
         refine cW (across_c (edM M.T k).t.n (edT S.T k).t.n) λa2=>?_;repeat'(first|intro(g:Nat)|refine d82 ?_|refine gN ?_ ?_|intro v)
     all_goals
         refine cW (Gq a2 (mp k).2 (Bl.turn (edT S.T k).t.n) (xs k).y (Kp+K) qo ⟨hnn.2.neg.up qo,hnn.1.up qo⟩ ((hx k d2).2.up qo)) λa3=>?_;repeat'(first|intro(g:Nat)|refine d82 ?_|refine gN ?_ ?_|intro v)
     all_goals
         refine cW (vadd_c a1 a3 ⟨(edT S.T k).t.n.x*(xs k).x,(edT S.T k).t.n.y*(xs k).x⟩ ⟨(Bl.turn (edT S.T k).t.n).x*(xs k).y,(Bl.turn (edT S.T k).t.n).y*(xs k).y⟩ 900000 qo ⟨(hnn.1.mul (hx k d2).1).up qo,(hnn.2.mul (hx k d2).1).up qo⟩ ⟨(hnn.2.neg.mul (hx k d2).2).up qo,(hnn.1.mul (hx k d2).2).up qo⟩) λa4=>?_;first|refine WD.fact (fV a4 (Bl.frc (edT S.T k).t (xs k).x (xs k).y)) (by rw[<-frc_eq];exact hmA) ?_|refine WL.QD (fV a4 (Bl.frc (edT S.T k).t (xs k).x (xs k).y)) (by rw[<-frc_eq];exact hmA) ?_
         repeat'(first|intro(g:Nat)|refine d82 ?_|refine gN ?_ ?_|intro v)
     all_goals
         refine cW (on_c (edM M.T k) (edT S.T k) i a4 (Bl.frc (edT S.T k).t (xs k).x (xs k).y) 900000 qo qo hoE.2 qo) λa5=>?_;first|refine WD.fact (fV a5 (oE S xs i k)) (show W.Has _ (fV a5 (Bl.on (edT S.T k).t i (Bl.frc (edT S.T k).t (xs k).x (xs k).y))) from hmA) ?_|refine WL.QD (fV a5 (oE S xs i k)) (show W.Has _ (fV a5 (Bl.on (edT S.T k).t i (Bl.frc (edT S.T k).t (xs k).x (xs k).y))) from hmA) ?_
         repeat'(first|intro(g:Nat)|refine d82 ?_|refine gN ?_ ?_|intro v)
     all_goals
         refine cW (vadd_c vm a5 (pfx S w xs i k) (oE S xs i k) 40000000 qo hpf ⟨hoE.1.1.up qo,hoE.1.2.up qo⟩) λa6=>?_;refine d82r ?_;refine cW (vsub_c (edM M.T k).at' (M.B i).c (edT S.T k).at' (S.B i).c K qo hat (hs.B i d).1) λa7=>?_;refine d82r ?_;refine cW (vcross_c a7 a5 (Bl.Jl (edT S.T k).at' (S.B i).c) (oE S xs i k) 900000 qo hvs hoE.1) λn8=>?_;refine d82r ?_;refine cW (Zn.add mt n8 (tqx S xs i k) (Bl.JZ (Bl.Jl (edT S.T k).at' (S.B i).c) (oE S xs i k)) (htq.1.sm qo) ((htq.2 k d2).sm qo)) λn9=>?_;refine d82r ?_;exact Qq.mk (k+1,a6,n9) wq14 wq14 (hG:=.cons (by rw[<-pfx_step];exact hmA) (.cons (show W.Has _ (isQ (qv n9) (tqx S xs i k+Bl.JZ (Bl.Jl (edT S.T k).at' (S.B i).c) (oE S xs i k))) from hmA) haA))
    .obtain rfl:k=2*S.m:=qo;refine d82r ?_;exact Qr (vm,mt) trivial
   .rintro⟨vm,mt⟩ _;simp only;refine WC.fact (fV (m00,m00) ⟨0,0⟩) (has_v0 Jr) ?_;refine WC.fact (isQ (qv (M.B i).st) (S.B i).st) (W.Has.bs (bm:=M.B i) hmA) ?_;refine WC.fact (isQ (qv (mst i)) (stK S xs (2*S.m) i)) (W.Has.q (W.Has.fm (v:=sv) (n:=S.n) (ms:=mst) (qf:=stK S xs (2*S.m)) hmA) d) ?_;refine d82r ?_;refine cV (vsame_c vm (m00,m00) (pfx S w xs i (2*S.m)) ⟨0,0⟩) ?_;by_cases e1:(pfx S w xs i (2*S.m)).x=0/\(pfx S w xs i (2*S.m)).y=0
    .rw[show decide ((pfx S w xs i (2*S.m)).x=(⟨0,0⟩:Vc).x/\(pfx S w xs i (2*S.m)).y=(⟨0,0⟩:Vc).y)=true from aq e1];refine d82r ?_;refine cV (Zn.sign mt (tqx S xs i (2*S.m))) ?_;by_cases e2:tqx S xs i (2*S.m)=0
     .have hs2:=Je.2 e2;refine d82r ?_;refine cV (Zn.cmp (mst i) (M.B i).st (stK S xs (2*S.m) i) (S.B i).st ((stK_sz (K:=K) qo qo hs hm hx qo i).sm qo) ((hs.B i d).2.2.2.sm qo)) ?_;by_cases e3:(S.B i).st<stK S xs (2*S.m) i
      .have hs3:=JE.2 e3;refine d82r ?_;refine WC.ret ?_;exact Fp [] (Qf.t1 rfl rfl) .nil ⟨false,rfl,⟨λh=>absurd h qd,λh=>absurd ((Zj.1 h).2 i d).2.2 (by grind)⟩,rfl,rfl⟩
      .have hs3:¬0<XN (stK S xs (2*S.m) i) (S.B i).st:=λh=>e3 (JE.1 h);refine d82r ?_;refine Qq.mk (i+1) ⟨by omega,λj hj=>?_⟩ qo;by_cases e:j=i
       .subst e;exact⟨e1,e2,by grind⟩
       .exact hokB j qo
     .have hs2:¬sgn (tqx S xs i (2*S.m)).num=0:=λh=>e2 (Je.1 h);refine d82r ?_;refine WC.ret ?_;exact Fp [] (Qf.t1 rfl rfl) .nil ⟨false,rfl,⟨λh=>absurd h qd,λh=>absurd ((Zj.1 h).2 i d).2.1 e2⟩,rfl,rfl⟩
    .rw[show decide ((pfx S w xs i (2*S.m)).x=(⟨0,0⟩:Vc).x/\(pfx S w xs i (2*S.m)).y=(⟨0,0⟩:Vc).y)=false from ak e1];refine d82r ?_;refine WC.ret ?_;exact Fp [] (Qf.t1 rfl rfl) .nil ⟨false,rfl,⟨λh=>absurd h qd,λh=>absurd ((Zj.1 h).2 i d).1 e1⟩,rfl,rfl⟩
  .obtain rfl:i=S.n:=qo;refine d82r ?_;exact wq91
end K
def IsEr(p:Prop):Qd:=λv B G=>∃z:Int,v=nj z/\(z=0\/z=22)/\(z=0↔p)/\B=[]/\G=[]
def YO.ldPl1{e:Env}{bx:nw}{F:nc}{ty:nl}{x:ni}{v:nA}{n i:Nat}{ms:Nat->nA×(Nat->VM)}{xs:Nat->Nat×(Nat->Vc)}(hx:ev e x=some (.pointer (some (eaddr v i))))(h:W.Has F (lF plS v n ms xs))(hi:i<n):YO prog (.load 125 x) ty e bx F (ms i).1:=by
 have h1:=YO.ldS (P:=prog) (ty:=ty) (bx:=bx) T.Kt hx h.ls (j:=i) (show i<n*1 by omega)
 have e:Zo plS ms xs i=(ms i).1:=by
  show JG 1 (λk=>[(ms k).1]) i=_;unfold JG;rw[Nat.div_one,dI];rfl
 rwa [e] at h1
namespace K
attribute [local irreducible] WC WL WD YO LO Qq W.Fin Qk Qh Qj Row QZ Qv KnS Has W.One Qo QX
def d48{G G':Prop}(h:G')(s:Bx G'->G:=by
 intro h;first|refine gF ?_|(apply WC.draw (id:=4) [0,1,2,3,4,5,6] (.h 0<|.h 1<|.h 2<|.h 3<|.h 4<|.h 5<|.h 6 .done) mixed kr)|fail
 exact Bx.h h):G:=s ⟨h⟩
def d48r{G G':Prop}(h:G')(s:Bx G'->G:=by
 intro h;repeat'(first|intro(zQ:Nat)|refine d48 ?_|intro zQ)
 repeat revert zQ
 exact Bx.h h):G:=s ⟨h⟩

def holds_c(M:SM)(S:Sc)(cv:nA)(N:Nat)(ms:Nat->nA×(Nat->VM))(xs:Nat->Nat->Vc)(K Kp:Nat)(h0K:0<K)(hK:K<=1000)(hKp:Kp<=400000)(hN:N<=1000)(hs:Ss K S)(ho:S.ok)(hx:∀c,c<N->∀k,k<2*S.m->Sv Kp (xs c k)) :
  FnB prog 48 [M.l,M.t,.agg #[cv]] [] [fSl M S,fSt M S,lF plS cv N ms λc=>(2*S.m,xs c)] (IsEr (N=2^S.n/\∀c,c<2^S.n->BalX S (S.wt c) (xs c))):=by
 refine fO [(0,M.l),(1,M.t),(2,(.agg #[cv]))] 40 Tryz.func48 Tryz.ntmps48 λh0=>?_;have hn:=ho.n;have hm:=ho.m;have h32:2^S.n<=2^5:=aA qd hn;obtain⟨N2,hN2⟩:∃N2,2^S.n=N2:=⟨_,rfl⟩
 refine d48r ?_;intro g;refine cV (Kv M S K qo hs ho) ?_;by_cases hc:N=2^S.n
 .have hc2:(N:Int)=((2^S.n:Nat):Int):=qo;refine d48r ?_;refine WC.JK (σ:=Unit) (λ_=>[]) (λ_=>[]) (λ_=>[ge h0]) (λ_=>∀c,c<N->BalX S (S.wt c) (xs c)) ?_ ?_
  .refine WC.lp (σ:=Nat) (λi=>[(26,nj i),(25,nj N),(24,cv),(0,M.l),(1,M.t)]) (λ_=>[]) (λ_=>[ge h0,lF plS cv N ms λc=>(2*S.m,xs c),fSl M S,fSt M S]) (λi=>i<=N/\∀j,j<i->BalX S (S.wt j) (xs j)) (λi=>N-i) 0 ⟨aj _,λj h=>absurd h qo⟩ ?_;rintro i ⟨hi,hok⟩;by_cases d:i<N
   .refine WC.fact (lF Jt (ms i).1 (2*S.m) (ms i).2 (xs i)) (W.Has.lk (S:=plS) (v:=cv) (n:=N) (ms:=ms) (xs:=λc=>(2*S.m,xs c)) hmA d) ?_;refine d48r ?_;refine WL.y (YO.ldPl1 (n:=N) (ms:=ms) (xs:=λc=>(2*S.m,xs c)) rfl hmA d) qr qr ?_;refine d48r ?_;refine cK (Fl M S i hn qo) ?_;rintro wv _ _ ⟨mw,rfl,rfl⟩;refine sNn ?_;refine d48r ?_;refine cK (balance_c M S wv (ms i).1 mw (S.wt i) (ms i).2 (xs i) K Kp h0K hK hKp hs ho (wt_sz hs i) (hx i d)) ?_;rintro _ _ _ ⟨b,rfl,hb,rfl,rfl⟩;refine sNn ?_;cases b with
    |true=>
     refine d48r ?_;refine Qq.mk (i+1) ⟨by omega,λj hj=>?_⟩ qo;by_cases e:j=i
     .subst e;exact hb.1 rfl
     .exact hok j qo
    |false=>
     refine d48r ?_;refine WC.ret ?_;exact Fp [] (Qf.t1 rfl rfl) .nil ⟨22,rfl,.inr rfl,⟨λh=>absurd h qd,λh=>absurd (hb.2 (h.2 i qo)) qd⟩,rfl,rfl⟩
   .obtain rfl:i=N:=qo;refine d48r ?_;exact Qr () hok
  .rintro⟨⟩ hok;refine d48r ?_;refine WC.ret ?_;exact Fp [] (Qf.t1 rfl rfl) .nil ⟨0,rfl,.inl rfl,⟨λ_=>⟨hc,λc h=>hok c qo⟩,λ_=>rfl⟩,rfl,rfl⟩
 .have hc2:¬(N:Int)=((2^S.n:Nat):Int):=qo;refine d48r ?_;refine WC.ret ?_;exact Fp [] (Qf.t1 rfl rfl) .nil ⟨22,rfl,.inr rfl,⟨λh=>absurd h qd,λh=>absurd h.1 hc⟩,rfl,rfl⟩
end K
namespace K
attribute [local irreducible] WC WL WD YO LO Qq W.Fin Qk Qh Qj Row QZ Qv KnS Has W.One Qo QX
def d44{G G':Prop}(h:G')(s:Bx G'->G:=by
 intro h;first|refine gF ?_|(apply WC.draw (id:=1) [0,1,2,3,5,6,7,8,10] (.h 0<|.h 1<|.h 2<|.h 3<|.h 5<|.h 6<|.h 7<|.h 8<|.l 4<|.l 9<|.h 10<|.l 11 .done) mixed kr)|fail
 exact Bx.h h):G:=s ⟨h⟩
def d139{G G':Prop}(h:G')(s:Bx G'->G:=by
 intro h;first|refine gF ?_|(apply WC.draw (id:=1) [0,1,2,4,5,6,8] (.h 0<|.h 1<|.h 2<|.h 4<|.h 5<|.h 6<|.l 3<|.l 7<|.h 8<|.l 9 .done) mixed kr)|fail
 exact Bx.h h):G:=s ⟨h⟩
def d140{G G':Prop}(h:G')(s:Bx G'->G:=by
 intro h;first|refine gF ?_|(apply WC.draw (id:=1) [0,1,2,3,5,6,7,8,10] (.h 0<|.h 1<|.h 2<|.h 3<|.h 5<|.h 6<|.h 7<|.h 8<|.l 4<|.l 9<|.h 10<|.l 11 .done) mixed kr)|fail
 exact Bx.h h):G:=s ⟨h⟩
def UJ(a b:Int)(ha:a.natAbs<1000000000000000000)(hb:b.natAbs<1000000000000000000):FnB prog 29 [nj a,nj b] [] [] (Vo ⟨(a:Rat),(b:Rat)⟩):=by
 refine fO [(0,(nj a)),(1,(nj b))] 10 Tryz.func29 Tryz.ntmps29 λh0=>?_;refine gPr ?_;intro g;refine cW (Zn.rof a 1 ha qd) λn1=>?_;rw[di1];refine gPr ?_;refine cW (Zn.rof b 1 hb qd) λn2=>?_;rw[di1];refine gPr ?_;refine WC.ret ?_;exact Fp [fV (n1,n2) ⟨(a:Rat),(b:Rat)⟩] (rcV T.r77) (.cons (W.Has.vof (m:=(n1,n2)) (a:=⟨(a:Rat),(b:Rat)⟩) hmA hmA) .nil) ⟨(n1,n2),rfl,rfl,rfl⟩
def Uc(m1 m2:VM)(a b:Vc)(K:Nat)(hK:K<=100000000)(ha:Sv K a)(hb:Sv K b):FnB prog 44 [vv m1,vv m2] [] [fV m1 a,fV m2 b] (Vo (⟨a.x+b.x,a.y+b.y⟩)):=by
 refine fO [(0,(vv m1)),(1,(vv m2))] 16 Tryz.func44 Tryz.ntmps44 λh0=>?_;repeat'(first|intro(g:Nat)|refine d44 ?_|intro v)
 refine cW (Zn.Kg m1.1 m2.1 a.x b.x (ha.1.sm qo) (hb.1.sm qo)) λn1=>?_;repeat'(first|intro(g:Nat)|refine d44 ?_|intro v)
 refine cW (Zn.Kg m1.2 m2.2 a.y b.y (ha.2.sm qo) (hb.2.sm qo)) λn2=>?_;repeat'(first|intro(g:Nat)|refine d44 ?_|intro v)
 refine WC.ret ?_;exact Fp [fV (n1,n2) ⟨a.x+b.x,a.y+b.y⟩] (rcV T.r77) haA ⟨(n1,n2),rfl,rfl,rfl⟩
def rvsub_c(m1 m2:VM)(a b:Vc)(K:Nat)(hK:K<=100000000)(ha:Sv K a)(hb:Sv K b):FnB prog 140 [vv m1,vv m2] [] [fV m1 a,fV m2 b] (Vo (Bl.Jl a b)):=by
 refine fO [(0,(vv m1)),(1,(vv m2))] 16 Tryz.func140 Tryz.ntmps140 λh0=>?_;repeat'(first|intro(g:Nat)|refine d140 ?_|intro v)
 refine cW (Zn.rsub m1.1 m2.1 a.x b.x (ha.1.sm qo) (hb.1.sm qo)) λn1=>?_;repeat'(first|intro(g:Nat)|refine d140 ?_|intro v)
 refine cW (Zn.rsub m1.2 m2.2 a.y b.y (ha.2.sm qo) (hb.2.sm qo)) λn2=>?_;repeat'(first|intro(g:Nat)|refine d140 ?_|intro v)
 exact wq106
def rvscale_c(m1:VM)(mk:QM)(a:Vc)(k:Rat)(K:Nat)(hK:K<=100000000)(ha:Sv K a)(hk:Sq K k):FnB prog 139 [vv m1,qv mk] [] [fV m1 a,isQ (qv mk) k] (Vo ⟨a.x*k,a.y*k⟩):=by
 refine fO [(0,(vv m1)),(1,(qv mk))] 14 Tryz.func139 Tryz.ntmps139 λh0=>?_;repeat'(first|intro(g:Nat)|refine d139 ?_|intro v)
 refine cW (Zn.ZQ m1.1 mk a.x k (ha.1.sm qo) (hk.sm qo)) λn1=>?_;repeat'(first|intro(g:Nat)|refine d139 ?_|intro v)
 refine cW (Zn.ZQ m1.2 mk a.y k (ha.2.sm qo) (hk.sm qo)) λn2=>?_;repeat'(first|intro(g:Nat)|refine d139 ?_|intro v)
 exact wq101
end K
def IsBdv(b:Bd):Qd:=λv B G=>∃mb:BM,v=bv mb/\B=[]/\G=[fB mb b]
def y_body{e:Env}{bx:nw}{F:nc}{ty:nl}{x y z u:ni}{m:VM}{n1 n2 n3:QM}(h1:ev e x=some (vv m))(h2:ev e y=some (qv n1))(h3:ev e z=some (qv n2))(h4:ev e u=some (qv n3)):YO prog (.build 88 #[(0,x),(1,y),(2,z),(3,u)]) ty e bx F (bv ⟨m,n1,n2,n3⟩):=YO.build (parts:=[(0,x),(1,y),(2,z),(3,u)]) (.cons h1 (.cons h2 (.cons h3 (.cons h4 .nil)))) λ_=>by kernel_rfl
def LO.bsT1{e:Env}{bx:nw}{F:nc}{ty:nl}{x:ni}{tm:ToM}{tc:Tc}{K:Qd}(hx:ev e x=some (tv tm tc))(h:∀v,K v (lO Qu v 93 1 (λ_=>tm) (λ_=>tc)::bx) F):LO prog (.buildSlice 32 1 #[(0,x)]) ty e bx F K:=by
 have e1:tcs tm tc=QG Qu 1 (λ_=>tm) λ_=>tc:=(Yj (S:=Qu) (n:=0) (ms:=λ_=>tm) (xs:=λ_=>tc))
 exact LO.buildSlice (el:=93) (sz:=30) (parts:=[(0,x)]) (us:=[tv tm tc]) (cs:=tcs tm tc) (.cons hx .nil) (λ_=>by kernel_rfl) rfl qd λv=>by
  have:=h v;unfold lO at this;rw[<-e1] at this;exact this
def I64(n:Int):Prop:=-9223372036854775808<=n/\n<=9223372036854775807
def ZZ(n m:Int):Int:=(if n<0 then -(n+1) else n)%m
def UE{n m:Int}(hm:0<m):0<=ZZ n m/\ZZ n m<m:=⟨cL _ qo,bN _ hm⟩
def getD_i64{l:nd}(hl:∀x∈l,I64 x)(k:Nat):I64 (l.getD k 0):=by
 rw[List.getD_eq_getElem?_getD];cases h:l[k]? with
 |none=>simp[I64]
 |some x=>simpa using hl x (bQ h)
def atP(l:nd)(i m:Int):Int:=if i<0\/(l.length:Int)<=i then 0 else ZZ (l.getD i.toNat 0) m
def QP{l:nd}{i m:Int}(hm:0<m):0<=atP l i m/\atP l i m<m:=by
 unfold atP;split
 .omega
 .exact UE hm
namespace K
attribute [local irreducible] WC WL WD YO LO Qq W.Fin Qk Qh Qj Row QZ Qv KnS Has W.One Qo QX
def V9(n m:Int)(hn:I64 n)(hm:0<m):FnB prog 10 [nj n,nj m] [] [] (IsV (nj (ZZ n m))):=by
 obtain⟨hn,hn2⟩:=hn;refine fO [(0,(nj n)),(1,(nj m))] 13 Tryz.func10 Tryz.ntmps10 λh0=>?_;by_cases h:n<0
 .refine gPr ?_;exact WC.ret (Fin.v (Qf.t1 rfl rfl) meA (by simp[ZZ,h]))
 .refine gPr ?_;exact WC.ret (Fin.v (Qf.t1 rfl rfl) meA (by simp[ZZ,h]))
def Zr(v:nA)(l:nd)(i m:Int)(hl:∀x∈l,I64 x)(hm:0<m):FnB prog 37 [v,nj i,nj m] [] [sI v l] (IsV (nj (atP l i m))):=by
 refine fO [(0,v),(1,(nj i)),(2,(nj m))] 21 Tryz.func37 Tryz.ntmps37 λh0=>?_;refine WC.ZE v l hmA λhlen=>?_;by_cases h:i<0
 .refine gPr ?_;exact WC.ret (Fin.v (Qf.t1 rfl rfl) meA (by simp[atP,h]))
 by_cases h2:(l.length:Int)<=i
 .refine gPr ?_;exact WC.ret (Fin.v (Qf.t1 rfl rfl) meA (by simp[atP,h2]))
 .refine gPr ?_;refine cV (V9 _ _ (getD_i64 hl _) hm) ?_;refine gPr ?_;exact WC.ret (Fin.v (Qf.t1 rfl rfl) meA (by simp[atP,h,h2]))
end K
end
section
open Bl (Vc Bd Tc Sc)
namespace Bl
def ZB(l:nd):Rat:=Rat.divInt (2+atP l 5 3) 2
def Ge(k:Int):Int:=[40,40,40,9,5,2].getD k.toNat 0
def plB(c:Vc)(l:nd):Bd:=⟨c,ZB l,ZB l+Rat.divInt (atP l 6 3) 2,(Ge (atP l 7 6):Rat)⟩
def slN(k:Int):Int×Int:=[(1,2),(-1,3),(1,1),(-3,4)].getD k.toNat (1,2)
def slP(l:nd):Vc:=⟨(atP l 2 4:Rat),((1:Int):Rat)⟩
def slQ(l:nd):Vc:=⟨(slP l).x+(((slN (atP l 1 4)).2:Int):Rat),(slP l).y+((-(slN (atP l 1 4)).1:Int):Rat)⟩
def slC(l:nd):Vc:=⟨(slP l).x+(Jl (slQ l) (slP l)).x*Rat.divInt (atP l 3 13-1) 10+((0:Int):Rat),(slP l).y+(Jl (slQ l) (slP l)).y*Rat.divInt (atP l 3 13-1) 10+((1:Int):Rat)⟩
def slT(l:nd):Tc:=⟨0,-1,slP l,slQ l,⟨((slN (atP l 1 4)).1:Rat),((slN (atP l 1 4)).2:Rat)⟩,Rat.divInt (atP l 4 9) 6⟩
def U0(l:nd):Sc:=⟨1,1,λ_=>plB (slC l) l,λ_=>slT l⟩
def tcF(a b:Int)(x y:Rat)(h:Int)(r:Rat):Tc:=⟨a,b,⟨x,(h:Rat)⟩,⟨y,(h:Rat)⟩,⟨((0:Int):Rat),((1:Int):Rat)⟩,r⟩
def Qs(l:nd):Nat:=[1,2,1,2,1,2,1,3].getD (atP l 1 8).toNat 1
def twR(l:nd):Rat:=Rat.divInt (atP l 2 4) 3
def twL(l:nd):Nat->Rat×Rat
 |0=>(((0:Int):Rat),((1+atP l 3 5:Int):Rat))
 |i+1=>((twL l i).1+Rat.divInt (atP l (8+2*(i:Int)) 7-2) 2,(twL l i).1+Rat.divInt (atP l (8+2*(i:Int)) 7-2) 2+((2+atP l (9+2*(i:Int)) 3:Int):Rat))
def twA(l:nd)(i:Nat):Rat:=if(twL l (i+1)).1<(twL l i).1 then(twL l i).1 else(twL l (i+1)).1
def twB(l:nd)(i:Nat):Rat:=if(twL l i).2<(twL l (i+1)).2 then(twL l i).2 else(twL l (i+1)).2
def tw0:Tc:=⟨0,-1,⟨0,0⟩,⟨0,0⟩,⟨0,0⟩,0⟩
def twT(l:nd):Nat->Nat×(Nat->Tc)
 |0=>(0,λ_=>tw0)
 |i+1=>if twA l i<=twB l i then((twT l i).1+1,Qy (twT l i).2 (twT l i).1 (tcF (i:Int) ((i:Int)-1) (twA l i) (twB l i) (i:Int) (twR l))) else twT l i
def twC(l:nd)(i:Nat):Vc:=⟨((twL l (i+1)).1+(twL l (i+1)).2)*Rat.divInt 1 2,Rat.divInt (2*(i:Int)+1) 2⟩
def Xe(l:nd)(i:Nat):Bd:=plB (twC l i) (l.drop i)
def twW(l:nd)(n:Nat):Tc:=⟨(n:Int)-1,-1,⟨(twL l n).1,(((n:Int)-1:Int):Rat)⟩,⟨(twL l n).1+((0:Int):Rat),(((n:Int)-1:Int):Rat)+((1:Int):Rat)⟩,⟨((1:Int):Rat),((0:Int):Rat)⟩,twR l⟩
def X2(l:nd):Sc:=if atP l 4 3=0 then⟨Qs l,(twT l (Qs l)).1+1,Xe l,Qy (twT l (Qs l)).2 (twT l (Qs l)).1 (twW l (Qs l))⟩ else⟨Qs l,(twT l (Qs l)).1,Xe l,(twT l (Qs l)).2⟩
def Q7(l:nd):Sc:=if atP l 0 4=0 then U0 l else X2 l
def six{k:Int}(h:0<=k/\k<6):k=0\/k=1\/k=2\/k=3\/k=4\/k=5:=qo
def DL{k:Int}(h:0<=k/\k<6):0<Ge k/\Ge k<=40:=by
 rcases six h with rfl|rfl|rfl|rfl|rfl|rfl<;>decide
def slN_lt{k:Int}(h:0<=k/\k<4):(slN k).1≠0/\(slN k).1.natAbs<=4/\(slN k).2.natAbs<=4:=by
 have:k=0\/k=1\/k=2\/k=3:=qo;rcases this with rfl|rfl|rfl|rfl<;>decide
def Kw(l:nd):1<=Qs l/\Qs l<=3:=by
 unfold Qs;have h:=QP (l:=l) (i:=1) (m:=8) qd;generalize atP l 1 8=k at h;have:k=0\/k=1\/k=2\/k=3\/k=4\/k=5\/k=6\/k=7:=qo;rcases this with rfl|rfl|rfl|rfl|rfl|rfl|rfl|rfl<;>decide
def divpos{a b:Int}(ha:0<a)(hb:0<b):0<Rat.divInt a b:=by
 obtain⟨d,rfl⟩:=Int.eq_ofNat_of_zero_le (aN hb);rw[ca,eL,Rat.div_def];exact dH (by exact_mod_cast ha) (Rat.inv_pos.2 (by exact_mod_cast hb))
def divnn{a b:Int}(ha:0<=a)(hb:0<b):0<=Rat.divInt a b:=by
 rcases Int.lt_or_eq_of_le ha with h|h
 .exact Rat.le_of_lt (divpos h hb)
 .rw[<-h,eU];exact eP
def plB_ok(c:Vc)(l:nd):BdOk (plB c l):=by
 have h5:=QP (l:=l) (i:=5) (m:=3) qd;have h6:=QP (l:=l) (i:=6) (m:=3) qd;have h7:=DL (QP (l:=l) (i:=7) (m:=6) qd);refine⟨divpos qo qd,?_,?_⟩
 .have:=divnn h6.1 (b:=2) qd;show ZB l<=ZB l+_;grind
 .show(0:Rat)<((Ge _:Int):Rat)
  exact_mod_cast h7.1
def plB_fr{c:Vc}{l:nd}(hc:Fv 60 2400 c):Fv 60 2400 (plB c l).c/\Fr 60 2400 (plB c l).lo/\Fr 60 2400 (plB c l).hi/\Fr 60 2400 (plB c l).st:=by
 have h5:=QP (l:=l) (i:=5) (m:=3) qd;have h6:=QP (l:=l) (i:=6) (m:=3) qd;have h7:=DL (QP (l:=l) (i:=7) (m:=6) qd);have hl:Fr 2 4 (ZB l):=Fr.of (D:=2) qd qo;refine⟨hc,hl.sc' (c:=30) rfl qd,?_,?_⟩
 .exact(hl.add (Fr.of (D:=2) (A:=2) qd qo)).sc' (c:=30) rfl qd
 .exact(Fr.int (A:=40) _ qo).sc' (c:=60) rfl qd
def slope_ok(l:nd):(U0 l).ok:=by
 have hn:=slN_lt (QP (l:=l) (i:=1) (m:=4) qd);have h4:=QP (l:=l) (i:=4) (m:=9) qd;refine⟨by show 1<=5;decide,by show 1<=10;decide,λi _=>plB_ok _ _,λj _=>?_⟩;show Y0 1 (slT l);refine⟨by show(0:Int)<=0;decide,by show(0:Int)<1;decide,by show(-1:Int)<=-1;decide,by show(-1:Int)<1;decide,by show(0:Int)≠-1;decide,divnn h4.1 qd,λh=>hn.1 ?_,?_⟩
 .have:=h.1;show(slN _).1=0;have e:(((slN (atP l 1 4)).1:Int):Rat)=0:=this
  exact_mod_cast e
 .show(((slN (atP l 1 4)).1:Int):Rat)*((slP l).x+(((slN (atP l 1 4)).2:Int):Rat)-(slP l).x)+(((slN (atP l 1 4)).2:Int):Rat)*((slP l).y+((-(slN (atP l 1 4)).1:Int):Rat)-(slP l).y)=0;rw[dR];grind
def slope_fs(l:nd):Fs 60 2400 (U0 l):=by
 have hn:=slN_lt (QP (l:=l) (i:=1) (m:=4) qd);have h2:=QP (l:=l) (i:=2) (m:=4) qd;have h3:=QP (l:=l) (i:=3) (m:=13) qd;have h4:=QP (l:=l) (i:=4) (m:=9) qd;have hp:Fv 1 4 (slP l):=⟨Fr.int _ qo,Fr.int _ qd⟩
 have hq:Fv 1 8 (slQ l):=⟨(hp.1.add (Fr.int (A:=4) _ hn.2.2)).up qd,(hp.2.add (Fr.int (A:=4) _ qo)).up qd⟩
 have hd:Fv 1 12 (Jl (slQ l) (slP l)):=⟨(hq.1.sub hp.1).up qd,(hq.2.sub hp.2).up qd⟩
 have hx:Fr 10 12 (Rat.divInt (atP l 3 13-1) 10):=Fr.of (D:=10) qd qo
 have hc:Fv 60 2400 (slC l):=by
  refine⟨?_,?_⟩
  .exact(((hp.1.sc' (c:=10) (E:=10) (B:=40) rfl qd).add (hd.1.mul hx)).add ((Fr.int (A:=0) 0 qd).sc' (c:=10) (E:=10) (B:=0) rfl qd)).sc' (c:=6) rfl qd
  .exact(((hp.2.sc' (c:=10) (E:=10) (B:=40) rfl qd).add (hd.2.mul hx)).add ((Fr.int (A:=1) 1 qd).sc' (c:=10) (E:=10) (B:=10) rfl qd)).sc' (c:=6) rfl qd
 refine⟨λi _=>plB_fr hc,λj _=>?_⟩;exact⟨⟨hp.1.sc' (c:=60) rfl qd,hp.2.sc' (c:=60) rfl qd⟩,⟨hq.1.sc' (c:=60) rfl qd,hq.2.sc' (c:=60) rfl qd⟩,⟨(Fr.int (A:=4) _ hn.2.1).sc' (c:=60) rfl qd,(Fr.int (A:=4) _ hn.2.2).sc' (c:=60) rfl qd⟩,(Fr.of (D:=6) (A:=8) qd qo).sc' (c:=10) rfl qd⟩
def X3(l:nd):∀i,Fr 2 (4*i+10) (twL l i).1/\Fr 2 (4*i+10) (twL l i).2
 |0=>by
  have h:=QP (l:=l) (i:=3) (m:=5) qd;exact⟨(Fr.int (A:=0) 0 qd).sc' (c:=2) rfl qd,(Fr.int (A:=5) _ qo).sc' (c:=2) rfl qd⟩
 |i+1=>by
  have h:=QP (l:=l) (i:=8+2*(i:Int)) (m:=7) qd;have h2:=QP (l:=l) (i:=9+2*(i:Int)) (m:=3) qd
  have hl:∀k,Fr 2 (4*k) (twL l k).1:=λk=>by
   induction k with
   |zero=>exact(Fr.int (A:=0) 0 qd).sc' (c:=2) rfl qd
   |succ k ih=>
    have h:=QP (l:=l) (i:=8+2*(k:Int)) (m:=7) qd;exact(ih.add (Fr.of (D:=2) (A:=4) qd qo)).up qo
  have e:=(hl i).add (Fr.of (a:=atP l (8+2*(i:Int)) 7-2) (D:=2) (A:=4) qd qo);exact⟨e.up qo,(e.add ((Fr.int (A:=4) (2+atP l (9+2*(i:Int)) 3) qo).sc' (c:=2) (E:=2) (B:=8) rfl qd)).up qo⟩
def H7(l:nd):∀i,i<=3->(twT l i).1<=i/\∀n,i<=n->∀j,j<(twT l i).1->Y0 n ((twT l i).2 j)/\Fv 60 2400 ((twT l i).2 j).p/\Fv 60 2400 ((twT l i).2 j).q/\Fv 60 2400 ((twT l i).2 j).n/\Fr 60 2400 ((twT l i).2 j).r
 |0,_=>⟨ai _,λn _ j hj=>absurd hj (bY _)⟩
 |i+1,hi=>by
  obtain⟨h1,h2⟩:=H7 l i qo;unfold twT;split
  .refine⟨by show(twT l i).1+1<=i+1;omega,λn hn j hj=>?_⟩;have hj:j<(twT l i).1+1:=hj;by_cases c:j=(twT l i).1
   .subst c;simp only[QF];have hr:=QP (l:=l) (i:=2) (m:=4) qd
    have hA:Fr 2 40 (twA l i):=by
     unfold twA;split
     .exact(X3 l i).1.up qo
     .exact(X3 l (i+1)).1.up qo
    have hB:Fr 2 40 (twB l i):=by
     unfold twB;split
     .exact(X3 l i).2.up qo
     .exact(X3 l (i+1)).2.up qo
    have hh:Fr 60 2400 (((i:Int):Int):Rat):=(Fr.int (A:=3) _ qo).sc' (c:=60) rfl qd;refine⟨⟨by show(0:Int)<=(i:Int);omega,by show(i:Int)<(n:Int);omega,by show(-1:Int)<=(i:Int)-1;omega,by show(i:Int)-1<(n:Int);omega,by show(i:Int)≠(i:Int)-1;omega,divnn hr.1 qd,λh=>absurd h.2 wq133,?_⟩,⟨hA.sc' (c:=30) rfl qd,hh⟩,⟨hB.sc' (c:=30) rfl qd,hh⟩,⟨(Fr.int (A:=1) _ qd).sc' (c:=60) rfl qd,(Fr.int (A:=1) _ qd).sc' (c:=60) rfl qd⟩,(Fr.of (D:=3) (A:=3) qd qo).sc' (c:=20) rfl qd⟩;show((0:Int):Rat)*(twB l i-twA l i)+((1:Int):Rat)*(((i:Int):Rat)-((i:Int):Rat))=0;grind
   .simp only[Qt c];exact h2 n qo j qo
  .exact⟨by omega,λn hn=>h2 n qo⟩
def VP(l:nd)(i:Nat)(hi:i<3):BdOk (Xe l i)/\Fv 60 2400 (Xe l i).c/\Fr 60 2400 (Xe l i).lo/\Fr 60 2400 (Xe l i).hi/\Fr 60 2400 (Xe l i).st:=by
 have h:=X3 l (i+1);have h1:Fr 2 1 (Rat.divInt 1 2):=Fr.of (D:=2) qd qd;exact⟨plB_ok _ _,plB_fr ⟨((h.1.add h.2).mul h1).sc' (c:=15) rfl qo,(Fr.of (D:=2) (A:=7) qd qo).sc' (c:=30) rfl qd⟩⟩
def tower_ok(l:nd):(X2 l).ok/\Fs 60 2400 (X2 l):=by
 have hm:=Kw l;obtain⟨h1,h2⟩:=H7 l (Qs l) hm.2;have h2:=h2 (Qs l) (ai _);unfold X2;split
 .have hr:=QP (l:=l) (i:=2) (m:=4) qd;have hL:=(X3 l (Qs l)).1
  have hW:Y0 (Qs l) (twW l (Qs l))/\Fv 60 2400 (twW l (Qs l)).p/\Fv 60 2400 (twW l (Qs l)).q/\Fv 60 2400 (twW l (Qs l)).n/\Fr 60 2400 (twW l (Qs l)).r:=by
   have hL':Fr 60 900 (twL l (Qs l)).1:=hL.sc' (c:=30) rfl qo;have hh:Fr 60 180 ((((Qs l:Int)-1:Int)):Rat):=(Fr.int (A:=3) _ qo).sc' (c:=60) rfl qd;refine⟨⟨by show(0:Int)<=(Qs l:Int)-1;omega,by show(Qs l:Int)-1<_;omega,by show(-1:Int)<=-1;decide,by show(-1:Int)<_;omega,by show(Qs l:Int)-1≠-1;omega,divnn hr.1 qd,λh=>absurd h.1 wq133,?_⟩,⟨hL'.up qd,hh.up qd⟩,⟨(hL'.add (Fr.zero (A:=0))).up qd,(hh.add ((Fr.int (A:=1) 1 qd).sc' (c:=60) (E:=60) (B:=60) rfl qd)).up qd⟩,⟨(Fr.int (A:=1) _ qd).sc' (c:=60) rfl qd,(Fr.int (A:=1) _ qd).sc' (c:=60) rfl qd⟩,(Fr.of (D:=3) (A:=3) qd qo).sc' (c:=20) rfl qd⟩;show((1:Int):Rat)*((twL l (Qs l)).1+((0:Int):Rat)-(twL l (Qs l)).1)+((0:Int):Rat)*((((Qs l:Int)-1:Int):Rat)+((1:Int):Rat)-(((Qs l:Int)-1:Int):Rat))=0;grind
  have hT:∀j,j<(twT l (Qs l)).1+1->Y0 (Qs l) (Qy (twT l (Qs l)).2 (twT l (Qs l)).1 (twW l (Qs l)) j)/\Fv 60 2400 (Qy (twT l (Qs l)).2 (twT l (Qs l)).1 (twW l (Qs l)) j).p/\Fv 60 2400 (Qy (twT l (Qs l)).2 (twT l (Qs l)).1 (twW l (Qs l)) j).q/\Fv 60 2400 (Qy (twT l (Qs l)).2 (twT l (Qs l)).1 (twW l (Qs l)) j).n/\Fr 60 2400 (Qy (twT l (Qs l)).2 (twT l (Qs l)).1 (twW l (Qs l)) j).r:=λj hj=>by
   by_cases c:j=(twT l (Qs l)).1
   .subst c;rw[QF];exact hW
   .rw[Qt c];exact h2 j qo
  exact⟨⟨by show Qs l<=5;omega,by show(twT l (Qs l)).1+1<=10;omega,λi hi=>(VP l i wq127).1,λj hj=>(hT j hj).1⟩,λi hi=>(VP l i wq127).2,λj hj=>(hT j hj).2⟩
 .exact⟨⟨by show Qs l<=5;omega,by show(twT l (Qs l)).1<=10;omega,λi hi=>(VP l i wq127).1,λj hj=>(h2 j hj).1⟩,λi hi=>(VP l i wq127).2,λj hj=>(h2 j hj).2⟩
def some_ok(l:nd):(Q7 l).ok:=by unfold Q7;split;exact slope_ok l;exact(tower_ok l).1
def DF(l:nd):Fs 60 2400 (Q7 l):=by unfold Q7;split;exact slope_fs l;exact(tower_ok l).2
def H4(l:nd):1<=(Q7 l).n/\(Q7 l).n<=3/\(Q7 l).m<=4:=by
 have hm:=Kw l;have h1:=(H7 l (Qs l) hm.2).1;unfold Q7;split
 .exact⟨by show 1<=1;decide,by show 1<=3;decide,by show 1<=4;decide⟩
 .unfold X2;split
  .exact⟨hm.1,hm.2,by show(twT l (Qs l)).1+1<=4;omega⟩
  .exact⟨hm.1,hm.2,by show(twT l (Qs l)).1<=4;omega⟩
end Bl
end
namespace Fx
open Bl
def JH(n:Nat)(B:Nat->Bd)(t0:Tc)(L:List Tc):Prop:=∀c,c<2^n->Sat (scL n B t0 L) c
end Fx
end Go.Proofs.YtbnobghgnbockaaGreat
