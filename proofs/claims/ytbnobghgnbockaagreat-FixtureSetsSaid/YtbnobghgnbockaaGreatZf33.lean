/- Lemmas for a law. Conditions: none. -/
import Derived.Test.YtbnobghgnbockaaGreatZf32
set_option linter.all false
set_option maxHeartbeats 32000000
set_option maxRecDepth 100000
namespace Go.Proofs.YtbnobghgnbockaaGreat
section
open W Go.RowKit
open Bl (Vc Bd Tc Sc)
def stK(S:Sc)(xs:Nat->Vc)(k i:Nat):Rat:=X.sm k λj=>if Bl.tch (S.T (j/2)) i then Bl.spn (S.T (j/2)).n*(xs j).x else 0
def stK_at{S:Sc}{xs:Nat->Vc}{k i a:Nat}{x:Rat}(h1:(S.T (k/2)).a=(a:Int))(h2:(S.T (k/2)).b<0)(hx:x=Bl.spn (S.T (k/2)).n*(xs k).x):upd (stK S xs k) a (stK S xs k a+x) i=stK S xs (k+1) i:=by
 have ht:Bl.tch (S.T (k/2)) i↔i=a:=by
  constructor
  ·rintro(h|h)<;>omega
  ·intro h;exact .inl qo
 show _=stK S xs k i+(if Bl.tch (S.T (k/2)) i then _ else _);by_cases e:i=a
 ·rw[if_pos (ht.2 e)];subst e;rw[QB,hx]
 ·rw[if_neg (λh=>e (ht.1 h)),upd_ne e];grind
def stK_ab{S:Sc}{xs:Nat->Vc}{k i a b:Nat}{x:Rat}(h1:(S.T (k/2)).a=(a:Int))(h2:(S.T (k/2)).b=(b:Int))(hab:a≠b)(hx:x=Bl.spn (S.T (k/2)).n*(xs k).x):upd (upd (stK S xs k) a (stK S xs k a+x)) b (upd (stK S xs k) a (stK S xs k a+x) b+x) i=stK S xs (k+1) i:=by
 have ht:Bl.tch (S.T (k/2)) i↔i=a\/i=b:=by
  constructor
  ·rintro(h|h)
   ·exact .inl qo
   ·exact .inr qo
  ·rintro(h|h)
   ·exact .inl qo
   ·exact .inr qo
 show _=stK S xs k i+(if Bl.tch (S.T (k/2)) i then _ else _);rw[upd_ne (Ne.symm hab)];by_cases e:i=b
 ·rw[if_pos (ht.2 (.inr e))];subst e;rw[QB,hx]
 ·rw[upd_ne e];by_cases e2:i=a
  ·rw[if_pos (ht.2 (.inl e2))];subst e2;rw[QB,hx]
  ·rw[if_neg (λh=>(ht.1 h).elim e2 e),upd_ne e2];grind
def stK_sz{S:Sc}{xs:Nat->Vc}{K Kp:Nat}(hK:K<=1000000)(hKp:Kp<=1000000)(hs:Ss K S)(hm:S.m<=10)(hx:∀k,k<2*S.m->Sv Kp (xs k)){k:Nat}(hk:k<=2*S.m)(i:Nat):Sq 70000000 (stK S xs k i):=by
 have h1:=X.Zh (m:=k) (f:=λj=>if Bl.tch (S.T (j/2)) i then Bl.spn (S.T (j/2)).n*(xs j).x else 0) (k:=3000001) λj hj=>by
  show Sq _ (if _ then _ else _);split
  ·have ht:=(hs.T (j/2) qo).2.2.1;unfold Bl.spn;exact((ht.1.ab.add ht.2.ab).mul (hx j qo).1).up qo
  ·exact Sq.zero.up qo
 exact h1.up qo
namespace K
attribute [local irreducible] WC WL WD YO LO Qq W.Fin Qk Qw Qj Row QJ Qv KnS Has W.One Qa Qs
def d172{G G':Prop}(h:G')(s:Bx G'->G:=by
 intro h;first|refine gE ?_|(apply WC.draw (id:=7) [0,1,2,4,5,6,7,8] (.h 0<|.h 1<|.h 2<|.h 4<|.h 5<|.h 6<|.h 7<|.h 8<|.m 3 (.m 9 (.l 10<|.l 11 .done) (.l 10<|.l 9<|.l 11 .done)) (.l 10<|.l 3<|.l 9<|.l 11 .done)) mixed kr)|(apply WC.draw (id:=8) [0,1,2,3,4,5,6,7,8,9,10,12] (.h 0<|.h 1<|.h 2<|.h 3<|.h 4<|.h 5<|.h 6<|.h 7<|.h 8<|.h 9<|.h 10<|.l 11<|.h 12<|.l 13 .done) mixed kr)|(apply WC.draw (id:=10) [0,1,2,3,4,5,6,7,8,9,10,12] (.h 0<|.h 1<|.h 2<|.h 3<|.h 4<|.h 5<|.h 6<|.h 7<|.h 8<|.h 9<|.h 10<|.l 11<|.h 12<|.l 13 .done) mixed kr)|fail
 exact Bx.h h):G:=s ⟨h⟩
def KA(v:Value)(n:Nat)(ms:Nat->VM)(xs:Nat->Vc)(K:Nat)(hK:K<=100000000)(hn:n<=1000)(hx:∀i,i<n->Sv K (xs i)):FnB Tryz.prog 170 [v,.int .i64 (n:Int)] [] [lF JD v n ms xs] (IsV (.bool true)):=by
 refine fO [(0,v),(1,(.int .i64 (n:Int)))] 28 Tryz.func170 Tryz.ntmps170 λh0=>?_;repeat'(first|intro(g:Nat)|refine gP ?_|intro v)
 refine WC.Xd (σ:=Unit) (λ_=>[(0,v),(1,.int .i64 (n:Int))]) (λ_=>[]) (λ_=>[ge h0,lF JD v n ms xs]) (λ_=>True) ?_ ?_
 ·refine WC.lp (σ:=Nat) (λi=>[(9,.int .i64 (i:Int)),(8,.int .i64 (n:Int)),(7,v),(0,v),(1,.int .i64 (n:Int))]) (λ_=>[]) (λ_=>[ge h0,lF JD v n ms xs]) (λi=>i<=n) (λi=>n-i) 0 (Nat.zero_le _) ?_;intro i hi;by_cases c:i<n
  ·refine WC.fact (fV (ms i) (xs i)) (W.Has.lk (S:=JD) (v:=v) hmA c) ?_;refine WC.fact (isQ (qv (ms i).1) (xs i).x) (W.Has.vx (m:=ms i) hmA) ?_;refine WC.fact (isQ (qv (ms i).2) (xs i).y) (W.Has.vy (m:=ms i) hmA) ?_;repeat'(first|intro(g:Nat)|refine gP ?_|intro v)
   refine cV (Xk (ms i).1 (xs i).x ((hx i c).1.sm qo)) ?_;repeat'(first|intro(g:Nat)|refine gP ?_|intro v)
   refine cV (Xk (ms i).2 (xs i).y ((hx i c).2.sm qo)) ?_;repeat'(first|intro(g:Nat)|refine gP ?_|intro v)
   exact Qq.mk (i+1) qo qo
  ·obtain rfl:i=n:=qo;repeat'(first|intro(g:Nat)|refine gP ?_|intro v)
   exact QG () trivial
 ·rintro⟨⟩ _;repeat'(first|intro(g:Nat)|refine gP ?_|intro v)
  refine WC.ret ?_;exact Fin.v (Qh.t1 rfl rfl) meA rfl
def stress_c(M:SM)(S:Sc)(pv:Value)(mp:Nat->VM)(xs:Nat->Vc)(K Kp:Nat)(h0K:0<K)(hK:K<=1000000)(hKp:Kp<=1000000)(hs:Ss K S)(ho:S.ok)(hx:∀k,k<2*S.m->Sv Kp (xs k)):FnB Tryz.prog 172 [M.l,M.t,pv] [] [fSl M S,fSt M S,lF JD pv (2*S.m) mp xs] (IsF S.n (stK S xs (2*S.m))):=by
 refine fO [(0,M.l),(1,M.t),(2,pv)] 76 Tryz.func172 Tryz.ntmps172 λh0=>?_;have hn:=ho.n;have hm:=ho.m;have hmc:(2*(S.m:Int))=((2*S.m:Nat):Int):=qo;repeat'(first|intro(g:Nat)|refine d172 ?_|refine gN ?_ ?_|intro v)
 refine cV (Y6 M S K hK hs ho) ?_;repeat'(first|intro(g:Nat)|refine d172 ?_|refine gN ?_ ?_|intro v)
 rw[hmc];refine cV (KA pv (2*S.m) mp xs Kp qo qo hx) ?_;repeat'(first|intro(g:Nat)|refine d172 ?_|refine gN ?_ ?_|intro v)
 refine cK (ends_c M S ho) ?_;rintro va _ _ ⟨rfl,rfl⟩;refine sNn ?_;repeat'(first|intro(g:Nat)|refine d172 ?_|refine gN ?_ ?_|intro v)
 revert v;intro ov;refine WC.Xd (σ:=Nat->QM) (λ_=>[(7,ov)]) (λmq=>[Ow.slice ov 75 4 (Qe S.n mq)]) (λmq=>[mF S.n mq (stK S xs (2*S.m)),ge h0]) (λ_=>True) ?_ ?_
 ·refine WC.lp (σ:=Nat×(Nat->QM)) (λst=>[(29,.int .i64 (st.1:Int)),(28,.int .i64 ((2*S.m:Nat):Int)),(27,va),(7,ov),(0,M.l),(1,M.t),(2,pv)]) (λst=>[Ow.slice ov 75 4 (Qe S.n st.2)]) (λst=>[mF S.n st.2 (stK S xs st.1),ge h0,lF Jc va (2*S.m) (edM M.T) (edT S.T),lF JD pv (2*S.m) mp xs,fSl M S,fSt M S]) (λst=>st.1<=2*S.m) (λst=>2*S.m-st.1) (0,λ_=>m00) (Nat.zero_le _) ?_ (hG:=.cons (W.Has.QH (W.Has.mF0 _) λj _=>rfl) haA);rintro⟨k,mq⟩ hk;simp only at hk ⊢;by_cases d:k<2*S.m
  ·refine WC.fact (fE (edM M.T k) (edT S.T k)) (W.Has.lk (S:=Jc) (v:=va) hmA d) ?_;refine WC.fact (fT (edM M.T k).t (edT S.T k).t) (W.Has.et (em:=edM M.T k) hmA) ?_;refine WC.fact (fV (edM M.T k).t.n (edT S.T k).t.n) (W.Has.tn (tm:=(edM M.T k).t) hmA) ?_;refine WC.fact (fV (mp k) (xs k)) (W.Has.lk (S:=JD) (v:=pv) hmA d) ?_;refine WC.fact (isQ (qv (mp k).1) (xs k).x) (W.Has.vx (m:=mp k) hmA) ?_;have hsn:Sv K (edT S.T k).t.n:=(hs.T (k/2) qo).2.2.1;have hsp:Sq (2*K+1) (Bl.spn (edT S.T k).t.n):=(hsn.1.ab.add hsn.2.ab).up qo;obtain⟨ht1,ht2,ht3,ht4,ht5,_⟩:=ho.T (k/2) qo;have ha1:0<=(edT S.T k).t.a:=ht1;have ha2:(edT S.T k).t.a<S.n:=ht2;have hb1:-1<=(edT S.T k).t.b:=ht3;have hb2:(edT S.T k).t.b<S.n:=ht4;have hz:Sq 4000000 (Bl.spn (edT S.T k).t.n*(xs k).x):=(hsp.mul (hx k d).1).up qo;repeat'(first|intro(g:Nat)|refine d172 ?_|refine gN ?_ ?_|intro v)
   all_goals
    refine cW (span_c (edM M.T k).t.n (edT S.T k).t.n K hK hsn) λn5=>?_;repeat'(first|intro(g:Nat)|refine d172 ?_|refine gN ?_ ?_|intro v)
   all_goals
    refine cW (Zn.mul n5 (mp k).1 (Bl.spn (edT S.T k).t.n) (xs k).x (hsp.sm qo) ((hx k d).1.sm qo)) λn6=>?_;repeat'(first|intro(g:Nat)|refine d172 ?_|refine gN ?_ ?_|intro v)
   all_goals
    refine cW (Zn.add (mq (edT S.T k).t.a.toNat) n6 (stK S xs k (edT S.T k).t.a.toNat) (Bl.spn (edT S.T k).t.n*(xs k).x) ((stK_sz hK hKp hs hm hx hk _).sm qo) (hz.sm qo)) λn7=>?_;by_cases hb:0<=(edT S.T k).t.b
    ·have hab:(edT S.T k).t.b.toNat≠(edT S.T k).t.a.toNat:=λh=>ht5 (by show(edT S.T k).t.a=(edT S.T k).t.b;omega);refine WD.fact (mF S.n (upd mq (edT S.T k).t.a.toNat n7) (upd (stK S xs k) (edT S.T k).t.a.toNat (stK S xs k (edT S.T k).t.a.toNat+Bl.spn (edT S.T k).t.n*(xs k).x))) (W.Has.JL hmA hmA) ?_;repeat'(first|intro(g:Nat)|refine d172 ?_|refine gN ?_ ?_|intro v)
     refine cW (Zn.add (upd mq (edT S.T k).t.a.toNat n7 (edT S.T k).t.b.toNat) n6 (upd (stK S xs k) (edT S.T k).t.a.toNat (stK S xs k (edT S.T k).t.a.toNat+Bl.spn (edT S.T k).t.n*(xs k).x) (edT S.T k).t.b.toNat) (Bl.spn (edT S.T k).t.n*(xs k).x) (by rw[upd_ne hab];exact(stK_sz hK hKp hs hm hx hk _).sm qo) (hz.sm qo)) λn8=>?_;repeat'(first|intro(g:Nat)|refine d172 ?_|refine gN ?_ ?_|intro v)
     exact Qq.mk (k+1,_) (by simp only;omega) (by simp only;omega) (hG:=.cons (W.Has.QH (W.Has.JL (W.Has.JL (qf:=stK S xs k) hmA (z:=stK S xs k (edT S.T k).t.a.toNat+Bl.spn (edT S.T k).t.n*(xs k).x) hmA) (z:=upd (stK S xs k) (edT S.T k).t.a.toNat (stK S xs k (edT S.T k).t.a.toNat+Bl.spn (edT S.T k).t.n*(xs k).x) (edT S.T k).t.b.toNat+Bl.spn (edT S.T k).t.n*(xs k).x) hmA) λj _=>stK_ab (by show(edT S.T k).t.a=_;omega) (by show(edT S.T k).t.b=_;omega) (Ne.symm hab) rfl) haA)
    ·repeat'(first|intro(g:Nat)|refine d172 ?_|refine gN ?_ ?_|intro v)
     exact Qq.mk (k+1,_) (by simp only;omega) (by simp only;omega) (hG:=.cons (W.Has.QH (W.Has.JL (qf:=stK S xs k) hmA (z:=stK S xs k (edT S.T k).t.a.toNat+Bl.spn (edT S.T k).t.n*(xs k).x) hmA) λj _=>stK_at (by show(edT S.T k).t.a=_;omega) (by show(edT S.T k).t.b<0;omega) rfl) haA)
  ·obtain rfl:k=2*S.m:=qo;repeat'(first|intro(g:Nat)|refine d172 ?_|refine gN ?_ ?_|intro v)
   exact QG mq trivial
 ·rintro mq _;refine WC.JP ov S.n mq (stK S xs (2*S.m)) (by repeat(first|exact Sel.head|apply Sel.tail)) hmA ?_;repeat'(first|intro(g:Nat)|refine d172 ?_|refine gN ?_ ?_|intro v)
  refine WC.ret ?_;exact Fp [fF ov S.n mq (stK S xs (2*S.m))] (Qh.t1 rfl rfl) haA ⟨mq,rfl,rfl⟩
end K
end
section
open W Go.RowKit
open Bl (Vc Bd Tc Sc)
def IsBo(p:Prop):Qg:=λv B G=>∃b:Bool,v=.bool b/\(b=true↔p)/\B=[]/\G=[]
abbrev BalX(S:Sc)(w:Nat->Rat)(xs:Nat->Vc):Prop:=Bl.Bal S w (λk=>(xs k).x) λk=>(xs k).y
def okE(S:Sc)(xs:Nat->Vc)(k:Nat):Prop:=0<=(xs k).x/\(xs k).y<=(S.T (k/2)).r*(xs k).x/\-(xs k).y<=(S.T (k/2)).r*(xs k).x
def oE(S:Sc)(xs:Nat->Vc)(i k:Nat):Vc:=Bl.on (S.T (k/2)) i (Bl.frc (S.T (k/2)) (xs k).x (xs k).y)
def pfx(S:Sc)(w:Nat->Rat)(xs:Nat->Vc)(i k:Nat):Vc:=⟨X.sm k (λj=>(oE S xs i j).x),-(w i)+X.sm k (λj=>(oE S xs i j).y)⟩
def tqx(S:Sc)(xs:Nat->Vc)(i k:Nat):Rat:=X.sm k λj=>Bl.JE (Bl.XY (S.at j) (S.B i).c) (oE S xs i j)
def okB(S:Sc)(w:Nat->Rat)(xs:Nat->Vc)(i:Nat):Prop:=((pfx S w xs i (2*S.m)).x=0/\(pfx S w xs i (2*S.m)).y=0)/\tqx S xs i (2*S.m)=0/\stK S xs (2*S.m) i<=(S.B i).st
def pfx_step{S:Sc}{w:Nat->Rat}{xs:Nat->Vc}{i k:Nat}:(⟨(pfx S w xs i k).x+(oE S xs i k).x,(pfx S w xs i k).y+(oE S xs i k).y⟩:Vc)=pfx S w xs i (k+1):=by
 show Vc.mk _ (-(w i)+X.sm k _+_)=Vc.mk _ (-(w i)+(X.sm k _+_));rw[Rat.add_assoc];rfl
def frc_eq{t:Tc}{u v:Rat}:(⟨t.n.x*u+(Bl.turn t.n).x*v,t.n.y*u+(Bl.turn t.n).y*v⟩:Vc)=Bl.frc t u v:=by
 unfold Bl.frc Bl.turn;simp only[Vc.mk.injEq];constructor<;>grind
def Ho{S:Sc}{w:Nat->Rat}{xs:Nat->Vc}:BalX S w xs↔(∀k,k<2*S.m->okE S xs k)/\∀i,i<S.n->okB S w xs i:=by
 constructor
 ·intro h;refine⟨h.1,λi hi=>?_⟩;obtain⟨h1,h2,h3,h4⟩:=h.2 i hi;refine⟨⟨h1,?_⟩,h3,h4⟩;show -(w i)+X.sm (2*S.m) (λj=>(oE S xs i j).y)=0;have:X.sm (2*S.m) (λj=>(oE S xs i j).y)=w i:=h2;rw[this];grind
 ·rintro⟨h1,h⟩;refine⟨h1,λi hi=>?_⟩;obtain⟨⟨h2,h3⟩,h4,h5⟩:=h i hi;refine⟨h2,?_,h4,h5⟩;have h3':-(w i)+X.sm (2*S.m) (λj=>(oE S xs i j).y)=0:=h3;show X.sm (2*S.m) (λj=>(oE S xs i j).y)=w i;grind
def oE_sz{S:Sc}{xs:Nat->Vc}{K Kp:Nat}(h0K:0<K)(hK:K<=1000)(hKp:Kp<=400000)(hs:Ss K S)(hx:∀k,k<2*S.m->Sv Kp (xs k)){i k:Nat}(hk:k<2*S.m):Sv 900000 (oE S xs i k)/\Sv 900000 (Bl.frc (S.T (k/2)) (xs k).x (xs k).y):=by
 have hnn:=(hs.T (k/2) qo).2.2.1;have hf:Sv 900000 (Bl.frc (S.T (k/2)) (xs k).x (xs k).y):=⟨(((hx k hk).1.mul hnn.1).sub ((hx k hk).2.mul hnn.2)).up qo,(((hx k hk).1.mul hnn.2).add ((hx k hk).2.mul hnn.1)).up qo⟩
 exact⟨on_sz qo hf,hf⟩
def pfx_sz{S:Sc}{w:Nat->Rat}{xs:Nat->Vc}{K Kp:Nat}(h0K:0<K)(hK:K<=1000)(hKp:Kp<=400000)(hs:Ss K S)(hm:S.m<=10)(hx:∀k,k<2*S.m->Sv Kp (xs k)){i k:Nat}(hw:Sq K (w i))(hk:k<=2*S.m):Sv 40000000 (pfx S w xs i k):=by
 have h1:=X.Zh (m:=k) (f:=λj=>(oE S xs i j).x) (k:=900000) λj hj=>(oE_sz h0K hK hKp hs hx (i:=i) (show j<2*S.m by omega)).1.1;have h2:=X.Zh (m:=k) (f:=λj=>(oE S xs i j).y) (k:=900000) λj hj=>(oE_sz h0K hK hKp hs hx (i:=i) (show j<2*S.m by omega)).1.2;exact⟨h1.up qo,(hw.neg.add h2).up qo⟩
def tqx_sz{S:Sc}{xs:Nat->Vc}{K Kp:Nat}(h0K:0<K)(hK:K<=1000)(hKp:Kp<=400000)(hs:Ss K S)(hm:S.m<=10)(hx:∀k,k<2*S.m->Sv Kp (xs k)){i k:Nat}(hi:i<S.n)(hk:k<=2*S.m):Sq 60000000 (tqx S xs i k)/\∀j,j<2*S.m->Sq 2000000 (Bl.JE (Bl.XY (S.at j) (S.B i).c) (oE S xs i j)):=by
 have hc:∀j,j<2*S.m->Sq 2000000 (Bl.JE (Bl.XY (S.at j) (S.B i).c) (oE S xs i j)):=λj hj=>by
  have ht:=hs.T (j/2) qo
  have hat:Sv K (S.at j):=by
   unfold Bl.Sc.at;split
   ·exact ht.1
   ·exact ht.2.1
  have ho:=(oE_sz h0K hK hKp hs hx (i:=i) hj).1;exact(((hat.1.sub (hs.B i hi).1.1).mul ho.2).sub ((hat.2.sub (hs.B i hi).1.2).mul ho.1)).up qo
 have h1:=X.Zh (m:=k) (f:=λj=>Bl.JE (Bl.XY (S.at j) (S.B i).c) (oE S xs i j)) (k:=2000000) λj hj=>hc j qo;exact⟨h1.up qo,hc⟩
def y_vec1{e:Env}{bx:List Ow}{F:List Fct}{ty:TypeId}{x:Operand}{m:QM}(hx:ev e x=some (qv m)):YO Tryz.prog (.build 77 #[(1,x)]) ty e bx F (vv (m00,m)):=YO.build (parts:=[(1,x)]) (.cons hx .nil) λ_=>by kernel_rfl
def has_v0{F:List Fct}{m:QM}{a:Rat}(h:W.Has F (isQ (qv m) a)):W.Has F (fV (m00,m) ⟨0,a⟩):=λp hf=>⟨Jm p hf,h p hf⟩
def has_v0'{S:Sc}{xs:Nat->Vc}{w:Nat->Rat}{i:Nat}{F:List Fct}{m:QM}(h:W.Has F (isQ (qv m) (-(w i)))):W.Has F (fV (m00,m) (pfx S w xs i 0)):=λp hf=>by
 refine⟨Jm p hf,?_⟩;show(isQ (qv m) (-(w i)+0)).p p;rw[show -(w i)+0= -(w i) by grind];exact h p hf
namespace K
attribute [local irreducible] WC WL WD YO LO Qq W.Fin Qk Qw Qj Row QJ Qv KnS Has W.One Qa Qs
def d82{G G':Prop}(h:G')(s:Bx G'->G:=by
 intro h;first|refine gE ?_|(apply WC.draw (id:=7) [0,1,2,3,4,5,6,7] (.h 0<|.h 1<|.h 2<|.h 3<|.h 4<|.h 5<|.h 6<|.h 7<|.m 8 (.l 9<|.l 10 .done) (.l 9<|.l 8<|.l 10 .done)) mixed kr)|(apply WC.draw (id:=8) [0,1,2,3,4,6,7,8,9,10,11,12,13,15,16,17,18,19,20,21,22,24,26,27] (.h 0<|.h 1<|.h 2<|.h 3<|.h 4<|.l 5<|.h 6<|.h 7<|.h 8<|.h 9<|.h 10<|.h 11<|.h 12<|.h 13<|.l 14<|.h 15<|.h 16<|.h 17<|.h 18<|.h 19<|.h 20<|.h 21<|.h 22<|.h 24<|.l 23<|.l 25<|.h 26<|.h 27 .done) mixed kr)|(apply WC.draw (id:=19) [0,1,2,3,4,5,6,7,8,9,11,12,13,15,16,17,18,19] (.h 0<|.h 1<|.h 2<|.h 3<|.h 4<|.h 5<|.h 6<|.h 7<|.h 8<|.h 9<|.h 11<|.h 12<|.h 13<|.h 15<|.h 16<|.h 17<|.h 18<|.h 19<|.m 10 (.m 14 (.m 20 (.m 21 (.m 22 (.l 23<|.l 24 .done) (.l 23<|.l 22<|.l 24 .done)) (.l 23<|.l 21<|.l 22<|.l 24 .done)) (.l 23<|.l 20<|.l 21<|.l 22<|.l 24 .done)) (.l 23<|.l 14<|.l 20<|.l 21<|.l 22<|.l 24 .done)) (.l 23<|.l 10<|.l 14<|.l 20<|.l 21<|.l 22<|.l 24 .done)) mixed kr)|(apply WC.draw (id:=21) [0,1,2,3,4,6] (.h 0<|.h 1<|.h 2<|.h 3<|.h 4<|.h 6<|.l 5<|.l 7<|.l 8<|.l 9 .done) mixed kr)|(apply WC.draw (id:=23) [0,1,3,4,5,7,8,9,10,11,12,13,14,15,17,18] (.h 0<|.h 1<|.l 2<|.h 3<|.h 4<|.h 5<|.l 6<|.h 7<|.h 8<|.h 9<|.h 10<|.h 11<|.h 12<|.h 13<|.h 14<|.h 15<|.l 16<|.h 17<|.h 18 .done) mixed kr)|fail
 exact Bx.h h):G:=s ⟨h⟩
def balance_c(M:SM)(S:Sc)(wv pv:Value)(mw:Nat->QM)(w:Nat->Rat)(mp:Nat->VM)(xs:Nat->Vc)(K Kp:Nat)(h0K:0<K)(hK:K<=1000)(hKp:Kp<=400000)(hs:Ss K S)(ho:S.ok)(hw:∀i,i<S.n->Sq K (w i))(hx:∀k,k<2*S.m->Sv Kp (xs k)) :
  FnB Tryz.prog 82 [M.l,M.t,wv,pv] [] [fSl M S,fSt M S,fF wv S.n mw w,lF JD pv (2*S.m) mp xs] (IsBo (BalX S w xs)):=by
 refine fO [(0,M.l),(1,M.t),(2,wv),(3,pv)] 155 Tryz.func82 Tryz.ntmps82 λh0=>?_;have hn:=ho.n;have hm:=ho.m;have hmc:(2*(S.m:Int))=((2*S.m:Nat):Int):=qo;repeat'(first|intro(g:Nat)|refine d82 ?_|refine gN ?_ ?_|intro v)
 rw[hmc];refine cV (KA pv (2*S.m) mp xs Kp qo qo hx) ?_;repeat'(first|intro(g:Nat)|refine d82 ?_|refine gN ?_ ?_|intro v)
 refine cK (ends_c M S ho) ?_;rintro va _ _ ⟨rfl,rfl⟩;refine sNn ?_;repeat'(first|intro(g:Nat)|refine d82 ?_|refine gN ?_ ?_|intro v)
 refine WC.Xd (σ:=Unit) (λ_=>[(9,va),(0,M.l),(1,M.t),(2,wv),(3,pv)]) (λ_=>[]) (λ_=>[ge h0,lF Jc va (2*S.m) (edM M.T) (edT S.T),lF JD pv (2*S.m) mp xs,fF wv S.n mw w,fSl M S,fSt M S]) (λ_=>∀k,k<2*S.m->okE S xs k) ?_ ?_
 ·refine WC.lp (σ:=Nat) (λk=>[(31,.int .i64 (k:Int)),(30,.int .i64 ((2*S.m:Nat):Int)),(29,va),(9,va),(0,M.l),(1,M.t),(2,wv),(3,pv)]) (λ_=>[]) (λ_=>[ge h0,lF Jc va (2*S.m) (edM M.T) (edT S.T),lF JD pv (2*S.m) mp xs,fF wv S.n mw w,fSl M S,fSt M S]) (λk=>k<=2*S.m/\∀j,j<k->okE S xs j) (λk=>2*S.m-k) 0 ⟨Nat.zero_le _,λj h=>absurd h qo⟩ ?_;rintro k ⟨hk,hok⟩;by_cases d:k<2*S.m
  ·refine WC.fact (fE (edM M.T k) (edT S.T k)) (W.Has.lk (S:=Jc) (v:=va) hmA d) ?_;refine WC.fact (fT (edM M.T k).t (edT S.T k).t) (W.Has.et (em:=edM M.T k) hmA) ?_;refine WC.fact (isQ (qv (edM M.T k).t.r) (edT S.T k).t.r) (W.Has.trr (tm:=(edM M.T k).t) hmA) ?_;refine WC.fact (fV (mp k) (xs k)) (W.Has.lk (S:=JD) (v:=pv) hmA d) ?_;refine WC.fact (isQ (qv (mp k).1) (xs k).x) (W.Has.vx (m:=mp k) hmA) ?_;refine WC.fact (isQ (qv (mp k).2) (xs k).y) (W.Has.vy (m:=mp k) hmA) ?_;have hr:Sq K (edT S.T k).t.r:=(hs.T (k/2) qo).2.2.2;have hrx:Sq 500000 ((edT S.T k).t.r*(xs k).x):=(hr.mul (hx k d).1).up qo;have hsg:=@Xn (xs k).x;repeat'(first|intro(g:Nat)|refine d82 ?_|refine gN ?_ ?_|intro v)
   all_goals
    refine cW (Zn.mul (edM M.T k).t.r (mp k).1 (edT S.T k).t.r (xs k).x (hr.sm qo) ((hx k d).1.sm qo)) λn1=>?_;repeat'(first|intro(g:Nat)|refine d82 ?_|refine gN ?_ ?_|intro v)
   all_goals
    refine cV (Zn.sign (mp k).1 (xs k).x) ?_;by_cases h1:(xs k).x<0
    ·have hs1:=hsg.2 h1;repeat'(first|intro(g:Nat)|refine d82 ?_|refine gN ?_ ?_|intro v)
     refine WC.ret ?_;exact Fp [] (Qh.t1 rfl rfl) .nil ⟨false,rfl,⟨λh=>absurd h qd,λh=>absurd (h.1 k d).1 (by grind)⟩,rfl,rfl⟩
    ·have hs1:¬sgn (xs k).x.num<0:=λh=>h1 (hsg.1 h);repeat'(first|intro(g:Nat)|refine d82 ?_|refine gN ?_ ?_|intro v)
     refine cV (Zn.cmp (mp k).2 n1 (xs k).y ((edT S.T k).t.r*(xs k).x) ((hx k d).2.sm qo) (hrx.sm qo)) ?_;by_cases h2:(edT S.T k).t.r*(xs k).x<(xs k).y
     ·have hs2:=Yb.2 h2;repeat'(first|intro(g:Nat)|refine d82 ?_|refine gN ?_ ?_|intro v)
      refine WC.ret ?_;exact Fp [] (Qh.t1 rfl rfl) .nil ⟨false,rfl,⟨λh=>absurd h qd,λh=>absurd (h.1 k d).2.1 (by show ¬(xs k).y<=(edT S.T k).t.r*(xs k).x;grind)⟩,rfl,rfl⟩
     ·have hs2:¬0<Y8 (xs k).y ((edT S.T k).t.r*(xs k).x):=λh=>h2 (Yb.1 h);repeat'(first|intro(g:Nat)|refine d82 ?_|refine gN ?_ ?_|intro v)
      refine cW (Zn.neg (mp k).2 (xs k).y) λn2=>?_;repeat'(first|intro(g:Nat)|refine d82 ?_|refine gN ?_ ?_|intro v)
      refine cV (Zn.cmp n2 n1 (-(xs k).y) ((edT S.T k).t.r*(xs k).x) ((hx k d).2.neg.sm qo) (hrx.sm qo)) ?_;by_cases h3:(edT S.T k).t.r*(xs k).x < -(xs k).y
      ·have hs3:=Yb.2 h3;repeat'(first|intro(g:Nat)|refine d82 ?_|refine gN ?_ ?_|intro v)
       refine WC.ret ?_;exact Fp [] (Qh.t1 rfl rfl) .nil ⟨false,rfl,⟨λh=>absurd h qd,λh=>absurd (h.1 k d).2.2 (by show ¬-(xs k).y<=(edT S.T k).t.r*(xs k).x;grind)⟩,rfl,rfl⟩
      ·have hs3:¬0<Y8 (-(xs k).y) ((edT S.T k).t.r*(xs k).x):=λh=>h3 (Yb.1 h);repeat'(first|intro(g:Nat)|refine d82 ?_|refine gN ?_ ?_|intro v)
       refine Qq.mk (k+1) ⟨by omega,λj hj=>?_⟩ qo;by_cases e:j=k
       ·subst e;exact⟨by grind,by show(xs j).y<=(edT S.T j).t.r*(xs j).x;grind,by show -(xs j).y<=(edT S.T j).t.r*(xs j).x;grind⟩
       ·exact hok j qo
  ·obtain rfl:k=2*S.m:=qo;repeat'(first|intro(g:Nat)|refine d82 ?_|refine gN ?_ ?_|intro v)
   exact QG () hok
 ·rintro⟨⟩ hokE;repeat'(first|intro(g:Nat)|refine d82 ?_|refine gN ?_ ?_|intro v)
  refine cK (stress_c M S pv mp xs K Kp h0K qo qo hs ho hx) ?_;rintro sv _ _ ⟨mst,rfl,rfl⟩;refine sNn ?_;repeat'(first|intro(g:Nat)|refine d82 ?_|refine gN ?_ ?_|intro v)
  refine WC.lp (σ:=Nat) (λi=>[(80,.int .i64 (i:Int)),(79,.int .i64 (S.n:Int)),(78,M.l),(13,sv),(9,va),(0,M.l),(1,M.t),(2,wv),(3,pv)]) (λ_=>[]) (λ_=>[ge h0,lF Jc va (2*S.m) (edM M.T) (edT S.T),lF JD pv (2*S.m) mp xs,fF wv S.n mw w,fF sv S.n mst (stK S xs (2*S.m)),fSl M S,fSt M S]) (λi=>i<=S.n/\∀j,j<i->okB S w xs j) (λi=>S.n-i) 0 ⟨Nat.zero_le _,λj h=>absurd h qo⟩ ?_;rintro i ⟨hi,hokB⟩;by_cases d:i<S.n
  ·refine WC.fact (fB (M.B i) (S.B i)) (W.Has.lk (S:=XU) (v:=M.l) hmA d) ?_;refine WC.fact (isQ (qv (mw i)) (w i)) (W.Has.q (W.Has.fm (v:=wv) (n:=S.n) (ms:=mw) (qf:=w) hmA) d) ?_;repeat'(first|intro(g:Nat)|refine d82 ?_|refine gN ?_ ?_|intro v)
   refine cW (Zn.neg (mw i) (w i)) λn1=>?_;repeat'(first|intro(g:Nat)|refine d82 ?_|refine gN ?_ ?_|intro v)
   refine WL.y (y_vec1 (m:=n1) rfl) qr qr ?_;repeat'(first|intro(g:Nat)|refine d82 ?_|refine gN ?_ ?_|intro v)
   revert g;intro g17;revert g;intro g16;revert g;intro g15;refine WC.keep (g:=g15) (t:=88) (cs:=bcs (M.B i)) (by repeat(first|exact Rem.head|apply Rem.tail)) ?_;refine WC.fact (fV (m00,n1) (pfx S w xs i 0)) (has_v0' hmA) ?_;refine WC.fact (isQ (qv m00) (tqx S xs i 0)) Jm ?_;refine WC.Xd (σ:=VM×QM) (λst=>[(14,.int .i64 (i:Int)),(15,ptr g15),(16,ptr g16),(17,ptr g17),(80,.int .i64 (i:Int)),(79,.int .i64 (S.n:Int)),(78,M.l),(13,sv),(9,va),(0,M.l),(1,M.t),(2,wv),(3,pv)]) (λst=>[Ow.cells g17 75 (qcs st.2),Ow.cells g16 77 (vcs st.1)]) (λst=>[fV st.1 (pfx S w xs i (2*S.m)),isQ (qv st.2) (tqx S xs i (2*S.m)),fB (M.B i) (S.B i),ce g15 88 (bcs (M.B i)),ge h0,lF Jc va (2*S.m) (edM M.T) (edT S.T),lF JD pv (2*S.m) mp xs,fF wv S.n mw w,fF sv S.n mst (stK S xs (2*S.m)),fSl M S,fSt M S]) (λ_=>True) ?_ ?_
   ·refine WC.lp (σ:=Nat×VM×QM) (λst=>[(94,.int .i64 (st.1:Int)),(93,.int .i64 ((2*S.m:Nat):Int)),(92,va),(14,.int .i64 (i:Int)),(15,ptr g15),(16,ptr g16),(17,ptr g17),(80,.int .i64 (i:Int)),(79,.int .i64 (S.n:Int)),(78,M.l),(13,sv),(9,va),(0,M.l),(1,M.t),(2,wv),(3,pv)]) (λst=>[Ow.cells g17 75 (qcs st.2.2),Ow.cells g16 77 (vcs st.2.1)]) (λst=>[fV st.2.1 (pfx S w xs i st.1),isQ (qv st.2.2) (tqx S xs i st.1),fB (M.B i) (S.B i),ce g15 88 (bcs (M.B i)),ge h0,lF Jc va (2*S.m) (edM M.T) (edT S.T),lF JD pv (2*S.m) mp xs,fF wv S.n mw w,fF sv S.n mst (stK S xs (2*S.m)),fSl M S,fSt M S]) (λst=>st.1<=2*S.m) (λst=>2*S.m-st.1) (0,(m00,n1),m00) (Nat.zero_le _) ?_;rintro⟨k,vm,mt⟩ hk;simp only at hk ⊢;by_cases d2:k<2*S.m
    ·refine WC.fact (fE (edM M.T k) (edT S.T k)) (W.Has.lk (S:=Jc) (v:=va) hmA d2) ?_;refine WC.fact (fT (edM M.T k).t (edT S.T k).t) (W.Has.et (em:=edM M.T k) hmA) ?_;refine WC.fact (fV (edM M.T k).t.n (edT S.T k).t.n) (W.Has.tn (tm:=(edM M.T k).t) hmA) ?_;refine WC.fact (fV (edM M.T k).at' (edT S.T k).at') (W.Has.ea (em:=edM M.T k) hmA) ?_;refine WC.fact (fV (mp k) (xs k)) (W.Has.lk (S:=JD) (v:=pv) hmA d2) ?_;refine WC.fact (isQ (qv (mp k).1) (xs k).x) (W.Has.vx (m:=mp k) hmA) ?_;refine WC.fact (isQ (qv (mp k).2) (xs k).y) (W.Has.vy (m:=mp k) hmA) ?_;refine WC.fact (fV (M.B i).c (S.B i).c) (W.Has.bc (bm:=M.B i) hmA) ?_;have hnn:Sv K (edT S.T k).t.n:=(hs.T (k/2) qo).2.2.1
     have hat:Sv K (edT S.T k).at':=by
         unfold edT;simp only;split
         ·exact(hs.T _ qo).1
         ·exact(hs.T _ qo).2.1
     have hoE:=oE_sz h0K hK hKp hs hx (i:=i) d2;have hpf:=pfx_sz h0K hK hKp hs hm hx (i:=i) (k:=k) (hw i d) hk;have htq:=tqx_sz h0K hK hKp hs hm hx (i:=i) (k:=k) d hk;have hvs:Sv 900000 (Bl.XY (edT S.T k).at' (S.B i).c):=⟨(hat.1.sub (hs.B i d).1.1).up qo,(hat.2.sub (hs.B i d).1.2).up qo⟩
     repeat'(first|intro(g:Nat)|refine d82 ?_|refine gN ?_ ?_|intro v)
     all_goals
         refine cW (Vl (edM M.T k).t.n (mp k).1 (edT S.T k).t.n (xs k).x (Kp+K) qo ⟨hnn.1.up qo,hnn.2.up qo⟩ ((hx k d2).1.up qo)) λa1=>?_;repeat'(first|intro(g:Nat)|refine d82 ?_|refine gN ?_ ?_|intro v)
     all_goals
         refine cW (across_c (edM M.T k).t.n (edT S.T k).t.n) λa2=>?_;repeat'(first|intro(g:Nat)|refine d82 ?_|refine gN ?_ ?_|intro v)
     all_goals
         refine cW (Vl a2 (mp k).2 (Bl.turn (edT S.T k).t.n) (xs k).y (Kp+K) qo ⟨hnn.2.neg.up qo,hnn.1.up qo⟩ ((hx k d2).2.up qo)) λa3=>?_;repeat'(first|intro(g:Nat)|refine d82 ?_|refine gN ?_ ?_|intro v)
     all_goals
         refine cW (vadd_c a1 a3 ⟨(edT S.T k).t.n.x*(xs k).x,(edT S.T k).t.n.y*(xs k).x⟩ ⟨(Bl.turn (edT S.T k).t.n).x*(xs k).y,(Bl.turn (edT S.T k).t.n).y*(xs k).y⟩ 900000 qo ⟨(hnn.1.mul (hx k d2).1).up qo,(hnn.2.mul (hx k d2).1).up qo⟩ ⟨(hnn.2.neg.mul (hx k d2).2).up qo,(hnn.1.mul (hx k d2).2).up qo⟩) λa4=>?_;first|refine WD.fact (fV a4 (Bl.frc (edT S.T k).t (xs k).x (xs k).y)) (by rw[<-frc_eq];exact hmA) ?_|refine WL.QE (fV a4 (Bl.frc (edT S.T k).t (xs k).x (xs k).y)) (by rw[<-frc_eq];exact hmA) ?_
         repeat'(first|intro(g:Nat)|refine d82 ?_|refine gN ?_ ?_|intro v)
     all_goals
         refine cW (on_c (edM M.T k) (edT S.T k) i a4 (Bl.frc (edT S.T k).t (xs k).x (xs k).y) 900000 qo qo hoE.2 qo) λa5=>?_;first|refine WD.fact (fV a5 (oE S xs i k)) (show W.Has _ (fV a5 (Bl.on (edT S.T k).t i (Bl.frc (edT S.T k).t (xs k).x (xs k).y))) from hmA) ?_|refine WL.QE (fV a5 (oE S xs i k)) (show W.Has _ (fV a5 (Bl.on (edT S.T k).t i (Bl.frc (edT S.T k).t (xs k).x (xs k).y))) from hmA) ?_
         repeat'(first|intro(g:Nat)|refine d82 ?_|refine gN ?_ ?_|intro v)
     all_goals
         refine cW (vadd_c vm a5 (pfx S w xs i k) (oE S xs i k) 40000000 qo hpf ⟨hoE.1.1.up qo,hoE.1.2.up qo⟩) λa6=>?_;repeat'(first|intro(g:Nat)|refine d82 ?_|refine gN ?_ ?_|intro v)
         refine cW (vsub_c (edM M.T k).at' (M.B i).c (edT S.T k).at' (S.B i).c K qo hat (hs.B i d).1) λa7=>?_;repeat'(first|intro(g:Nat)|refine d82 ?_|refine gN ?_ ?_|intro v)
         refine cW (vcross_c a7 a5 (Bl.XY (edT S.T k).at' (S.B i).c) (oE S xs i k) 900000 qo hvs hoE.1) λn8=>?_;repeat'(first|intro(g:Nat)|refine d82 ?_|refine gN ?_ ?_|intro v)
         refine cW (Zn.add mt n8 (tqx S xs i k) (Bl.JE (Bl.XY (edT S.T k).at' (S.B i).c) (oE S xs i k)) (htq.1.sm qo) ((htq.2 k d2).sm qo)) λn9=>?_;repeat'(first|intro(g:Nat)|refine d82 ?_|refine gN ?_ ?_|intro v)
         exact Qq.mk (k+1,a6,n9) (by simp only;omega) (by simp only;omega) (hG:=.cons (by rw[<-pfx_step];exact hmA) (.cons (show W.Has _ (isQ (qv n9) (tqx S xs i k+Bl.JE (Bl.XY (edT S.T k).at' (S.B i).c) (oE S xs i k))) from hmA) haA))
    ·obtain rfl:k=2*S.m:=qo;repeat'(first|intro(g:Nat)|refine d82 ?_|refine gN ?_ ?_|intro v)
     exact QG (vm,mt) trivial
   ·rintro⟨vm,mt⟩ _;simp only;refine WC.fact (fV (m00,m00) ⟨0,0⟩) (has_v0 Jm) ?_;refine WC.fact (isQ (qv (M.B i).st) (S.B i).st) (W.Has.bs (bm:=M.B i) hmA) ?_;refine WC.fact (isQ (qv (mst i)) (stK S xs (2*S.m) i)) (W.Has.q (W.Has.fm (v:=sv) (n:=S.n) (ms:=mst) (qf:=stK S xs (2*S.m)) hmA) d) ?_;repeat'(first|intro(g:Nat)|refine d82 ?_|refine gN ?_ ?_|intro v)
    refine cV (vsame_c vm (m00,m00) (pfx S w xs i (2*S.m)) ⟨0,0⟩) ?_;by_cases e1:(pfx S w xs i (2*S.m)).x=0/\(pfx S w xs i (2*S.m)).y=0
    ·rw[show decide ((pfx S w xs i (2*S.m)).x=(⟨0,0⟩:Vc).x/\(pfx S w xs i (2*S.m)).y=(⟨0,0⟩:Vc).y)=true from decide_eq_true e1];repeat'(first|intro(g:Nat)|refine d82 ?_|refine gN ?_ ?_|intro v)
     refine cV (Zn.sign mt (tqx S xs i (2*S.m))) ?_;by_cases e2:tqx S xs i (2*S.m)=0
     ·have hs2:=JO.2 e2;repeat'(first|intro(g:Nat)|refine d82 ?_|refine gN ?_ ?_|intro v)
      refine cV (Zn.cmp (mst i) (M.B i).st (stK S xs (2*S.m) i) (S.B i).st ((stK_sz (K:=K) qo qo hs hm hx qo i).sm qo) ((hs.B i d).2.2.2.sm qo)) ?_;by_cases e3:(S.B i).st<stK S xs (2*S.m) i
      ·have hs3:=Yb.2 e3;repeat'(first|intro(g:Nat)|refine d82 ?_|refine gN ?_ ?_|intro v)
       refine WC.ret ?_;exact Fp [] (Qh.t1 rfl rfl) .nil ⟨false,rfl,⟨λh=>absurd h qd,λh=>absurd ((Ho.1 h).2 i d).2.2 (by grind)⟩,rfl,rfl⟩
      ·have hs3:¬0<Y8 (stK S xs (2*S.m) i) (S.B i).st:=λh=>e3 (Yb.1 h);repeat'(first|intro(g:Nat)|refine d82 ?_|refine gN ?_ ?_|intro v)
       refine Qq.mk (i+1) ⟨by omega,λj hj=>?_⟩ qo;by_cases e:j=i
       ·subst e;exact⟨e1,e2,by grind⟩
       ·exact hokB j qo
     ·have hs2:¬sgn (tqx S xs i (2*S.m)).num=0:=λh=>e2 (JO.1 h);repeat'(first|intro(g:Nat)|refine d82 ?_|refine gN ?_ ?_|intro v)
      refine WC.ret ?_;exact Fp [] (Qh.t1 rfl rfl) .nil ⟨false,rfl,⟨λh=>absurd h qd,λh=>absurd ((Ho.1 h).2 i d).2.1 e2⟩,rfl,rfl⟩
    ·rw[show decide ((pfx S w xs i (2*S.m)).x=(⟨0,0⟩:Vc).x/\(pfx S w xs i (2*S.m)).y=(⟨0,0⟩:Vc).y)=false from decide_eq_false e1];repeat'(first|intro(g:Nat)|refine d82 ?_|refine gN ?_ ?_|intro v)
     refine WC.ret ?_;exact Fp [] (Qh.t1 rfl rfl) .nil ⟨false,rfl,⟨λh=>absurd h qd,λh=>absurd ((Ho.1 h).2 i d).1 e1⟩,rfl,rfl⟩
  ·obtain rfl:i=S.n:=qo;repeat'(first|intro(g:Nat)|refine d82 ?_|refine gN ?_ ?_|intro v)
   refine WC.ret ?_;exact Fp [] (Qh.t1 rfl rfl) .nil ⟨true,rfl,⟨λ_=>Ho.2 ⟨hokE,hokB⟩,λ_=>rfl⟩,rfl,rfl⟩
end K
end
section
open W Go.RowKit
open Bl (Vc Bd Tc Sc)
def IsEr(p:Prop):Qg:=λv B G=>∃z:Int,v=.int .i64 z/\(z=0\/z=22)/\(z=0↔p)/\B=[]/\G=[]
def YO.ldPl1{e:Env}{bx:List Ow}{F:List Fct}{ty:TypeId}{x:Operand}{v:Value}{n i:Nat}{ms:Nat->Value×(Nat->VM)}{xs:Nat->Nat×(Nat->Vc)}(hx:ev e x=some (.pointer (some (eaddr v i))))(h:W.Has F (lF plS v n ms xs))(hi:i<n):YO Tryz.prog (.load 125 x) ty e bx F (ms i).1:=by
 have h1:=YO.ldS (P:=Tryz.prog) (ty:=ty) (bx:=bx) T.KS hx h.ls (j:=i) (show i<n*1 by omega)
 have e:Z1 plS ms xs i=(ms i).1:=by
  show Jb 1 (λk=>[(ms k).1]) i=_;unfold Jb;rw[Nat.div_one,Nat.mod_one];rfl
 rwa [e] at h1
namespace K
attribute [local irreducible] WC WL WD YO LO Qq W.Fin Qk Qw Qj Row QJ Qv KnS Has W.One Qa Qs
def d48{G G':Prop}(h:G')(s:Bx G'->G:=by
 intro h;first|refine gF ?_|(apply WC.draw (id:=4) [0,1,2,3,4,5,6] (.h 0<|.h 1<|.h 2<|.h 3<|.h 4<|.h 5<|.h 6 .done) mixed kr)|fail
 exact Bx.h h):G:=s ⟨h⟩
def holds_c(M:SM)(S:Sc)(cv:Value)(N:Nat)(ms:Nat->Value×(Nat->VM))(xs:Nat->Nat->Vc)(K Kp:Nat)(h0K:0<K)(hK:K<=1000)(hKp:Kp<=400000)(hN:N<=1000)(hs:Ss K S)(ho:S.ok)(hx:∀c,c<N->∀k,k<2*S.m->Sv Kp (xs c k)) :
  FnB Tryz.prog 48 [M.l,M.t,.agg #[cv]] [] [fSl M S,fSt M S,lF plS cv N ms λc=>(2*S.m,xs c)] (IsEr (N=2^S.n/\∀c,c<2^S.n->BalX S (S.wt c) (xs c))):=by
 refine fO [(0,M.l),(1,M.t),(2,(.agg #[cv]))] 40 Tryz.func48 Tryz.ntmps48 λh0=>?_;have hn:=ho.n;have hm:=ho.m;have h32:2^S.n<=2^5:=Nat.pow_le_pow_right qd hn;obtain⟨N2,hN2⟩:∃N2,2^S.n=N2:=⟨_,rfl⟩
 repeat'(first|intro(g:Nat)|refine d48 ?_|intro v)
 refine cV (Y6 M S K qo hs ho) ?_;by_cases hc:N=2^S.n
 ·have hc2:(N:Int)=((2^S.n:Nat):Int):=qo;repeat'(first|intro(g:Nat)|refine d48 ?_|intro v)
  refine WC.Xd (σ:=Unit) (λ_=>[]) (λ_=>[]) (λ_=>[ge h0]) (λ_=>∀c,c<N->BalX S (S.wt c) (xs c)) ?_ ?_
  ·refine WC.lp (σ:=Nat) (λi=>[(26,.int .i64 (i:Int)),(25,.int .i64 (N:Int)),(24,cv),(0,M.l),(1,M.t)]) (λ_=>[]) (λ_=>[ge h0,lF plS cv N ms λc=>(2*S.m,xs c),fSl M S,fSt M S]) (λi=>i<=N/\∀j,j<i->BalX S (S.wt j) (xs j)) (λi=>N-i) 0 ⟨Nat.zero_le _,λj h=>absurd h qo⟩ ?_;rintro i ⟨hi,hok⟩;by_cases d:i<N
   ·refine WC.fact (lF JD (ms i).1 (2*S.m) (ms i).2 (xs i)) (W.Has.lk (S:=plS) (v:=cv) (n:=N) (ms:=ms) (xs:=λc=>(2*S.m,xs c)) hmA d) ?_;repeat'(first|intro(g:Nat)|refine d48 ?_|intro v)
    refine WL.y (YO.ldPl1 (n:=N) (ms:=ms) (xs:=λc=>(2*S.m,xs c)) rfl hmA d) qr qr ?_;repeat'(first|intro(g:Nat)|refine d48 ?_|intro v)
    refine cK (Hd M S i hn qo) ?_;rintro wv _ _ ⟨mw,rfl,rfl⟩;refine sNn ?_;repeat'(first|intro(g:Nat)|refine d48 ?_|intro v)
    refine cK (balance_c M S wv (ms i).1 mw (S.wt i) (ms i).2 (xs i) K Kp h0K hK hKp hs ho (wt_sz hs i) (hx i d)) ?_;rintro _ _ _ ⟨b,rfl,hb,rfl,rfl⟩;refine sNn ?_;cases b with
    |true=>
     repeat'(first|intro(g:Nat)|refine d48 ?_|intro v)
     refine Qq.mk (i+1) ⟨by omega,λj hj=>?_⟩ qo;by_cases e:j=i
     ·subst e;exact hb.1 rfl
     ·exact hok j qo
    |false=>
     repeat'(first|intro(g:Nat)|refine d48 ?_|intro v)
     refine WC.ret ?_;exact Fp [] (Qh.t1 rfl rfl) .nil ⟨22,rfl,.inr rfl,⟨λh=>absurd h qd,λh=>absurd (hb.2 (h.2 i qo)) qd⟩,rfl,rfl⟩
   ·obtain rfl:i=N:=qo;repeat'(first|intro(g:Nat)|refine d48 ?_|intro v)
    exact QG () hok
  ·rintro⟨⟩ hok;repeat'(first|intro(g:Nat)|refine d48 ?_|intro v)
   refine WC.ret ?_;exact Fp [] (Qh.t1 rfl rfl) .nil ⟨0,rfl,.inl rfl,⟨λ_=>⟨hc,λc h=>hok c qo⟩,λ_=>rfl⟩,rfl,rfl⟩
 ·have hc2:¬(N:Int)=((2^S.n:Nat):Int):=qo;repeat'(first|intro(g:Nat)|refine d48 ?_|intro v)
  refine WC.ret ?_;exact Fp [] (Qh.t1 rfl rfl) .nil ⟨22,rfl,.inr rfl,⟨λh=>absurd h qd,λh=>absurd h.1 hc⟩,rfl,rfl⟩
end K
end
section
open W Go.RowKit
open Bl (Vc Bd Tc Sc)
namespace K
attribute [local irreducible] WC WL WD YO LO Qq W.Fin Qk Qw Qj Row QJ Qv KnS Has W.One Qa Qs
def vof_c(a b:Int)(ha:a.natAbs<1000000000000000000)(hb:b.natAbs<1000000000000000000):FnB Tryz.prog 29 [.int .i64 a,.int .i64 b] [] [] (IsVc ⟨(a:Rat),(b:Rat)⟩):=by
 refine fO [(0,(.int .i64 a)),(1,(.int .i64 b))] 10 Tryz.func29 Tryz.ntmps29 λh0=>?_;repeat'(first|intro(g:Nat)|refine gP ?_|intro v)
 refine cW (Zn.rof a 1 ha qd) λn1=>?_;rw[di1];repeat'(first|intro(g:Nat)|refine gP ?_|intro v)
 refine cW (Zn.rof b 1 hb qd) λn2=>?_;rw[di1];repeat'(first|intro(g:Nat)|refine gP ?_|intro v)
 refine WC.ret ?_;exact Fp [fV (n1,n2) ⟨(a:Rat),(b:Rat)⟩] (rcV T.r77) (.cons (W.Has.vof (m:=(n1,n2)) (a:=⟨(a:Rat),(b:Rat)⟩) hmA hmA) .nil) ⟨(n1,n2),rfl,rfl,rfl⟩
end K
end
section
open W Go.RowKit
open Bl (Vc Bd Tc Sc)
def y_body{e:Env}{bx:List Ow}{F:List Fct}{ty:TypeId}{x y z u:Operand}{m:VM}{n1 n2 n3:QM}(h1:ev e x=some (vv m))(h2:ev e y=some (qv n1))(h3:ev e z=some (qv n2))(h4:ev e u=some (qv n3)):YO Tryz.prog (.build 88 #[(0,x),(1,y),(2,z),(3,u)]) ty e bx F (bv ⟨m,n1,n2,n3⟩):=YO.build (parts:=[(0,x),(1,y),(2,z),(3,u)]) (.cons h1 (.cons h2 (.cons h3 (.cons h4 .nil)))) λ_=>by kernel_rfl
def LO.bsT1{e:Env}{bx:List Ow}{F:List Fct}{ty:TypeId}{x:Operand}{tm:ToM}{tc:Tc}{K:Qg}(hx:ev e x=some (tv tm tc))(h:∀v,K v (lO Qo v 93 1 (λ_=>tm) (λ_=>tc)::bx) F):LO Tryz.prog (.buildSlice 32 1 #[(0,x)]) ty e bx F K:=by
 have e1:tcs tm tc=Qt Qo 1 (λ_=>tm) λ_=>tc:=(Yj (S:=Qo) (n:=0) (ms:=λ_=>tm) (xs:=λ_=>tc))
 exact LO.buildSlice (el:=93) (sz:=30) (parts:=[(0,x)]) (us:=[tv tm tc]) (cs:=tcs tm tc) (.cons hx .nil) (λ_=>by kernel_rfl) rfl qd λv=>by
  have:=h v;unfold lO at this;rw[<-e1] at this;exact this
end
section
open W Go.RowKit
open Bl (Vc Bd Tc Sc)
def I64(n:Int):Prop:=-9223372036854775808<=n/\n<=9223372036854775807
def Zl(n m:Int):Int:=(if n<0 then -(n+1) else n)%m
def VY{n m:Int}(hm:0<m):0<=Zl n m/\Zl n m<m:=⟨Int.emod_nonneg _ qo,Int.emod_lt_of_pos _ hm⟩
namespace K
attribute [local irreducible] WC WL WD YO LO Qq W.Fin Qk Qw Qj Row QJ Qv KnS Has W.One Qa Qs
def around_c(n m:Int)(hn:I64 n)(hm:0<m):FnB Tryz.prog 10 [.int .i64 n,.int .i64 m] [] [] (IsV (.int .i64 (Zl n m))):=by
 obtain⟨hn,hn2⟩:=hn;refine fO [(0,(.int .i64 n)),(1,(.int .i64 m))] 13 Tryz.func10 Tryz.ntmps10 λh0=>?_;by_cases h:n<0
 ·repeat'(first|intro(g:Nat)|refine gP ?_|intro v)
  exact WC.ret (Fin.v (Qh.t1 rfl rfl) meA (by simp[Zl,h]))
 ·repeat'(first|intro(g:Nat)|refine gP ?_|intro v)
  exact WC.ret (Fin.v (Qh.t1 rfl rfl) meA (by simp[Zl,h]))
end K
end
section
namespace Fx
open Bl
def Js(n:Nat)(B:Nat->Bd)(t0:Tc)(L:List Tc):Prop:=∀c,c<2^n->Sat (scL n B t0 L) c
end Fx
end
section
namespace Fx
open Bl
def TcF(D A:Nat)(t:Tc):Prop:=Fv D A t.p/\Fv D A t.q/\Fv D A t.n/\Fr D A t.r
end Fx
end
section
namespace Fx
open Bl
def Ans(C:List (List Int))(P:List Int->Prop):Option Nat->Prop
 |some i=>YX C P i
 |none=>NoneS C P
section
variable {n:Nat}{B:Nat->Bd}{t0:Tc}{t p:List Tc}{ps:List (List Tc)}{m:Int}{a b:Option Nat}
def StP(n:Nat)(B:Nat->Bd)(t0:Tc)(t:List Tc)(ps:List (List Tc))(s:List Int):Prop:=Js n B t0 (QK t ps s)
end
end Fx
end
section
namespace Fx
open Bl
def touches_all{P:Tc->Prop}{t:List Tc}{ps:List (List Tc)}(h1:∀x∈t,P x)(h2:∀p∈ps,∀x∈p,P x)(s:List Int):∀x∈QK t ps s,P x:=by
 intro x hx;rcases List.mem_append.1 hx with h|h
 ·exact h1 x h
 ·obtain⟨k,_,h⟩:=List.mem_flatMap.1 h;rw[List.getD_eq_getElem?_getD] at h;cases e:ps[k.toNat]? with
  |none=>rw[e] at h;exact(List.not_mem_nil h).elim
  |some q=>rw[e] at h;exact h2 q (List.mem_of_getElem? e) x h
def BdF(D A:Nat)(b:Bd):Prop:=Fv D A b.c/\Fr D A b.lo/\Fr D A b.hi/\Fr D A b.st
section
variable {n:Nat}{B:Nat->Bd}{t0:Tc}{L:List Tc}
def UW{P:Tc->Prop}(h:∀x∈L,P x):∀j,j<L.length->P (L.getD j t0):=by
 intro j hj;rw[List.getD_eq_getElem?_getD,List.getElem?_eq_getElem hj];exact h _ (List.getElem_mem hj)
def scL_ok(hn:n<=5)(hL:L.length<=10)(hB:∀i,i<n->BdOk (B i))(hT:∀x∈L,Hn n x):(scL n B t0 L).ok:=⟨hn,hL,hB,UW hT⟩
def scL_fs{D A:Nat}(hB:∀i,i<n->BdF D A (B i))(hT:∀x∈L,TcF D A x):Fs D A (scL n B t0 L):=⟨hB,UW hT⟩
end
def cand_ten{t:List Tc}{ps:List (List Tc)}{m:Int}{s:List Int}(h:s∈QX t ps m):(QK t ps s).length<=10:=by
 have:=(List.mem_filter.1 h).2;exact of_decide_eq_true this
end Fx
end
end Go.Proofs.YtbnobghgnbockaaGreat
