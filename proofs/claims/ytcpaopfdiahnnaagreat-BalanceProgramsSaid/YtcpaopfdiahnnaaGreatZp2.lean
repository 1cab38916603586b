/- Lemmas for a law. Conditions: none. -/
import Derived.Test.YtcpaopfdiahnnaaGreatZb37
import Derived.Test.YtcpaopfdiahnnaaGreatZp1
import Derived.Test.YtcpaopfdiahnnaaGreatZb30
import Derived.Test.YtcpaopfdiahnnaaGreatZb31
import Derived.Test.YtcpaopfdiahnnaaGreatZb1
set_option linter.all false
set_option maxHeartbeats 32000000
set_option maxRecDepth 100000
namespace Go.Proofs.YtcpaopfdiahnnaaGreat
section
open W Go.RowKit
open Bl (Vc Bd Tc Sc)
def stK_step {S:Sc} {xs:Nat->Vc} {k i j:Nat} (hj:k / 2=j):stK S xs (k+1) i=stK S xs k i+(if Bl.tch (S.T j) i then Bl.spn (S.T j).n*(xs k).x else 0):=by subst hj;rfl
def GW {S:Sc} {xs:Nat->Vc} {K Kp E:Nat} (hs:Ss K S) (hx:∀ k,k < 2*S.m->Sv Kp (xs k)) (hE:2*S.m*(Kp+2*K+5)+1<=E) {k:Nat} (hk:k<=2*S.m) (i:Nat):Sq E (stK S xs k i):=by
 have h1:=X.XC (m:=k) (f:=λj=>if Bl.tch (S.T (j / 2)) i then Bl.spn (S.T (j / 2)).n*(xs j).x else 0) (k:=Kp+2*K+4) λj hj=>by
  show Sq _ (if _ then _ else _);split
  ·have ht:=(hs.T (j / 2) qo).2.2.1;unfold Bl.spn;exact((ht.1.ab.add ht.2.ab).mul (hx j qo).1).up qo
  ·exact Sq.zero.up qo
 have h2:k*(Kp+2*K+4+1)<=2*S.m*(Kp+2*K+5):=Nat.mul_le_mul_right _ hk;exact h1.up qo
namespace K
namespace Q
namespace R
attribute [local irreducible] WC WL WD YO LO Qq W.Fin Qw Qu Qj Row QQ Qy KnS Has W.One Ql Qr
def d50 {G G':Prop} (h:G') (s:Bx G'->G:=by
 intro h;first|refine gF ?_|(apply WC.draw (id:=12) [0,1,2,3,4,5,6,7,8,9,10,11] (.h 0<|.h 1<|.h 2<|.h 3<|.h 4<|.h 5<|.h 6<|.h 7<|.h 8<|.h 9<|.h 10<|.h 11<|.l 12<|.l 13<|.l 14<|.l 15 .done) mixed kr)|fail
 exact Bx.h h):G:=s ⟨h⟩
def rstress_c (M:SM) (S:Sc) (pv:Value) (mp:Nat->VM) (xs:Nat->Vc) (K Kp E:Nat) (hK:K<=1000000) (hKp:Kp<=10000000) (hE:2*S.m*(Kp+2*K+5)+1<=E) (hE2:E<=400000000) (hs:Ss K S) (ho:S.ok) (hx:∀ k,k < 2*S.m->Sv Kp (xs k)):FnB Tryz.prog 50 [M.l,M.t,pv] [] [fSl M S,fSt M S,lF QD pv (2*S.m) mp xs] (IsF S.n (stK S xs (2*S.m))):=by
 refine fO [(0,M.l),(1,M.t),(2,pv)] 73 Tryz.func50 Tryz.ntmps50 λh0=>?_;have hn:=ho.n;have hm:=ho.m;have hmc:(2*(S.m:Int))=((2*S.m:Nat):Int):=qo;refine WC.Jd 64 4 ?_;repeat'(first|intro(g:Nat)|refine d50 ?_|intro v)
 refine cV (rvalid_c M S K hK hs ho) ?_;repeat'(first|intro(g:Nat)|refine d50 ?_|intro v)
 rw[hmc];refine cV (HX pv (2*S.m) Kp mp xs qo qo hx) ?_;repeat'(first|intro(g:Nat)|refine d50 ?_|intro v)
 refine WC.lp (σ:=Nat×Value×(Nat->QM)) (λst=>[(8,.int .i64 (st.1:Int)),(7,st.2.1),(0,M.l),(1,M.t),(2,pv)]) (λst=>[Ow.slice st.2.1 64 4 (Qe st.1 st.2.2)]) (λst=>[mF st.1 st.2.2 (stK S xs (2*S.m)),ge h0,lF QD pv (2*S.m) mp xs,fSl M S,fSt M S]) (λst=>st.1<=S.n) (λst=>S.n - st.1) (0,.slice none 0 0,λ_=>m00) (Nat.zero_le _) ?_ (hG:=.cons (W.Has.mFn _ _) haA);rintro⟨i,v,ms⟩ hi;simp only at hi ⊢;by_cases c1:i < S.n
 ·repeat'(first|intro(g:Nat)|refine d50 ?_|intro v)
  revert g;intro g9;refine WC.Xf (σ:=QM) (λ_=>[(9,ptr g9),(8,.int .i64 (i:Int)),(7,v),(0,M.l),(1,M.t),(2,pv)]) (λmq=>[Ow.cells g9 64 (qcs mq),Ow.slice v 64 4 (Qe i ms)]) (λmq=>[isQ (qv mq) (stK S xs (2*S.m) i),mF i ms (stK S xs (2*S.m)),ge h0,lF QD pv (2*S.m) mp xs,fSl M S,fSt M S]) (λ_=>True) ?_ ?_
  ·refine WC.lp (σ:=Nat×QM) (λst=>[(10,.int .i64 (st.1:Int)),(9,ptr g9),(8,.int .i64 (i:Int)),(7,v),(0,M.l),(1,M.t),(2,pv)]) (λst=>[Ow.cells g9 64 (qcs st.2),Ow.slice v 64 4 (Qe i ms)]) (λst=>[isQ (qv st.2) (stK S xs st.1 i),mF i ms (stK S xs (2*S.m)),ge h0,lF QD pv (2*S.m) mp xs,fSl M S,fSt M S]) (λst=>st.1<=2*S.m) (λst=>2*S.m - st.1) (0,m00) (Nat.zero_le _) ?_ (hG:=.cons (show W.Has _ (isQ (qv m00) (stK S xs 0 i)) from Jy) haA);rintro⟨k,mq⟩ hk;simp only at hk ⊢;by_cases d:k < 2*S.m
   ·obtain⟨j,hq⟩:∃ j:Nat,(k:Int) / 2=(j:Int):=⟨k / 2,by omega⟩
    have hkj:k / 2=j:=qo;have hj:j < S.m:=qo;refine WC.fact (fV (mp k) (xs k)) (W.Has.lk (S:=QD) (v:=pv) hmA d) ?_;refine WC.fact (isQ (qv (mp k).1) (xs k).x) (W.Has.vx (m:=mp k) hmA) ?_;refine WC.fact (fT (M.T j) (S.T j)) (W.Has.lk (S:=Qb) (v:=M.t) hmA hj) ?_;refine WC.fact (fV (M.T j).n (S.T j).n) (W.Has.tn (tm:=M.T j) hmA) ?_;have hsn:Sv K (S.T j).n:=(hs.T j hj).2.2.1;have hsp:Sq (2*K+1) (Bl.spn (S.T j).n):=(hsn.1.ab.add hsn.2.ab).up qo;have hz:Sq (Kp+2*K+4) ((xs k).x*Bl.spn (S.T j).n):=((hx k d).1.mul hsp).up qo;by_cases ht:Bl.tch (S.T j) i
    ·have hst:=stK_step (S:=S) (xs:=xs) (i:=i) hkj;rw[if_pos ht,Rat.mul_comm] at hst;rcases(show(S.T j).a=(i:Int)∨¬(S.T j).a=(i:Int)∧(S.T j).b=(i:Int) by have:_∨_:=ht;omega) with ha|⟨ha,hb⟩
     ·repeat'(first|intro(g:Nat)|refine d50 ?_|intro v)
      refine cW (rspan_c (M.T j).n (S.T j).n K hK hsn) λn1=>?_;repeat'(first|intro(g:Nat)|refine d50 ?_|intro v)
      refine cW (Zn.Zh (mp k).1 n1 (xs k).x (Bl.spn (S.T j).n) ((hx k d).1.sm qo) (hsp.sm qo)) λn2=>?_;repeat'(first|intro(g:Nat)|refine d50 ?_|intro v)
      refine cW (Zn.UZ mq n2 (stK S xs k i) ((xs k).x*Bl.spn (S.T j).n) ((GW hs hx hE hk _).sm qo) (hz.sm qo)) λn3=>?_;repeat'(first|intro(g:Nat)|refine d50 ?_|intro v)
      exact Qq.mk (k+1,n3) (by simp only;omega) (by simp only;omega) (hG:=.cons (by rw[hst];exact hmA) haA)
     ·repeat'(first|intro(g:Nat)|refine d50 ?_|intro v)
      refine cW (rspan_c (M.T j).n (S.T j).n K hK hsn) λn1=>?_;repeat'(first|intro(g:Nat)|refine d50 ?_|intro v)
      refine cW (Zn.Zh (mp k).1 n1 (xs k).x (Bl.spn (S.T j).n) ((hx k d).1.sm qo) (hsp.sm qo)) λn2=>?_;repeat'(first|intro(g:Nat)|refine d50 ?_|intro v)
      refine cW (Zn.UZ mq n2 (stK S xs k i) ((xs k).x*Bl.spn (S.T j).n) ((GW hs hx hE hk _).sm qo) (hz.sm qo)) λn3=>?_;repeat'(first|intro(g:Nat)|refine d50 ?_|intro v)
      exact Qq.mk (k+1,n3) (by simp only;omega) (by simp only;omega) (hG:=.cons (by rw[hst];exact hmA) haA)
    ·have hst:=stK_step (S:=S) (xs:=xs) (i:=i) hkj;rw[if_neg ht,Rat.add_zero] at hst;have ha:¬(S.T j).a=(i:Int):=λh=>ht (.inl h);have hb:¬(S.T j).b=(i:Int):=λh=>ht (.inr h);repeat'(first|intro(g:Nat)|refine d50 ?_|intro v)
     exact Qq.mk (k+1,mq) (by simp only;omega) (by simp only;omega) (hG:=.cons (by rw[hst];exact hmA) haA)
   ·obtain rfl:k=2*S.m:=qo;repeat'(first|intro(g:Nat)|refine d50 ?_|intro v)
    exact QZ mq trivial
  ·intro mq _;repeat'(first|intro(g:Nat)|refine d50 ?_|intro v)
   exact Qq.mk (i+1,_,upd ms i mq) (by simp only;omega) (by simp only;omega) (hG:=.cons (W.Has.QW (W.Has.Ul (qf:=stK S xs (2*S.m)) hmA (m:=mq) (z:=stK S xs (2*S.m) i) hmA) (λk hk=>by unfold upd;split;(rename_i e;rw[e]);rfl)) haA)
 ·obtain rfl:i=S.n:=qo;repeat'(first|intro(g:Nat)|refine d50 ?_|intro v)
  refine WC.Jh v S.n ms (stK S xs (2*S.m)) (by repeat(first|exact Sel.head|apply Sel.tail)) hmA ?_;refine WC.ret ?_;exact Fp [fF v S.n ms (stK S xs (2*S.m))] (Qv.t1 rfl rfl) haA ⟨ms,rfl,rfl⟩
end R
end Q
end K
end
section
open W Go.RowKit
open Bl (Vc Bd Tc Sc)
def pfz (S:Sc) (xs:Nat->Vc) (i k:Nat):Vc:=⟨X.sm k (λj=>(oE S xs i j).x),X.sm k (λj=>(oE S xs i j).y)⟩
section
variable {S:Sc} {xs:Nat->Vc} {K Kp A B C:Nat}
def Gw (h0K:0 < K) (hs:Ss K S) (hx:∀ k,k < 2*S.m->Sv Kp (xs k)) (hA:2*Kp+2*K+5<=A) {i k:Nat} (hk:k < 2*S.m):Sv A (oE S xs i k):=by
 have hnn:=(hs.T (k / 2) qo).2.2.1;have hf:Sv A (Bl.frc (S.T (k / 2)) (xs k).x (xs k).y):=⟨(((hx k hk).1.mul hnn.1).sub ((hx k hk).2.mul hnn.2)).up qo,(((hx k hk).1.mul hnn.2).add ((hx k hk).2.mul hnn.1)).up qo⟩
 exact on_sz qo hf
def pfz_sz (h0K:0 < K) (hs:Ss K S) (hx:∀ k,k < 2*S.m->Sv Kp (xs k)) (hA:2*Kp+2*K+5<=A) (hC:2*S.m*(A+1)+1<=C) {i k:Nat} (hk:k<=2*S.m):Sv C (pfz S xs i k):=by
 have h1:=X.XC (m:=k) (f:=λj=>(oE S xs i j).x) (k:=A) λj hj=>(Gw h0K hs hx hA (i:=i) (show j < 2*S.m by omega)).1;have h2:=X.XC (m:=k) (f:=λj=>(oE S xs i j).y) (k:=A) λj hj=>(Gw h0K hs hx hA (i:=i) (show j < 2*S.m by omega)).2;have h3:=Nat.mul_le_mul_right (A+1) hk;exact⟨h1.up qo,h2.up qo⟩
def tqx_szG (h0K:0 < K) (hs:Ss K S) (hx:∀ k,k < 2*S.m->Sv Kp (xs k)) (hA:2*Kp+2*K+5<=A) (hB:2*A+4*K+9<=B) (hC:2*S.m*(B+1)+1<=C) {i k:Nat} (hi:i < S.n) (hk:k<=2*S.m):Sq C (tqx S xs i k)∧∀ j,j < 2*S.m->Sq B (Bl.Jw (Bl.Q4 (S.at j) (S.B i).c) (oE S xs i j)):=by
 have hc:∀ j,j < 2*S.m->Sq B (Bl.Jw (Bl.Q4 (S.at j) (S.B i).c) (oE S xs i j)):=λj hj=>by
  have ht:=hs.T (j / 2) qo
  have hat:Sv K (S.at j):=by
   unfold Bl.Sc.at;split
   ·exact ht.1
   ·exact ht.2.1
  have ho:=Gw h0K hs hx hA (i:=i) hj;exact(((hat.1.sub (hs.B i hi).1.1).mul ho.2).sub ((hat.2.sub (hs.B i hi).1.2).mul ho.1)).up qo
 have h1:=X.XC (m:=k) (f:=λj=>Bl.Jw (Bl.Q4 (S.at j) (S.B i).c) (oE S xs i j)) (k:=B) λj hj=>hc j qo;have h3:=Nat.mul_le_mul_right (B+1) hk;exact⟨h1.up qo,hc⟩
end
def Kr {S:Sc} {w:Nat->Rat} {xs:Nat->Vc} {i:Nat}:okB S w xs i↔(pfz S xs i (2*S.m)).x=0∧(pfz S xs i (2*S.m)).y=w i∧tqx S xs i (2*S.m)=0∧stK S xs (2*S.m) i<=(S.B i).st:=by
 have:(pfx S w xs i (2*S.m)).y= -(w i)+(pfz S xs i (2*S.m)).y:=rfl;constructor
 ·rintro⟨⟨h1,h2⟩,h3,h4⟩;exact⟨h1,by grind,h3,h4⟩
 ·rintro⟨h1,h2,h3,h4⟩;exact⟨⟨h1,by grind⟩,h3,h4⟩
def ab_le {q r:Rat}:Bl.ab q<=r↔q<=r∧-q<=r:=by unfold Bl.ab;split <;> constructor <;> intro h <;> grind
def ab_okE {S:Sc} {xs:Nat->Vc} {k j:Nat} (hj:k / 2=j):okE S xs k↔0<=(xs k).x∧Bl.ab (xs k).y<=(S.T j).r*(xs k).x:=by
 subst hj;unfold okE;rw[ab_le]
namespace K
namespace Q
namespace R
attribute [local irreducible] WC WL WD YO LO Qq W.Fin Qw Qu Qj Row QQ Qy KnS Has W.One Ql Qr
def d29 {G G':Prop} (h:G') (s:Bx G'->G:=by
 intro h;first|refine gE ?_|(apply WC.draw (id:=6) [0,1,2,3,4,6,7,8,9,10,11,12,14,15,16,17,18,19,20,21,22,23,24,27,28] (.h 0<|.h 1<|.h 2<|.h 3<|.h 4<|.l 5<|.h 6<|.h 7<|.h 8<|.h 9<|.h 10<|.h 11<|.h 12<|.h 14<|.h 15<|.h 16<|.h 17<|.h 18<|.h 19<|.h 20<|.h 21<|.h 22<|.h 23<|.h 24<|.l 13<|.l 25<|.l 26<|.h 27<|.h 28 .done) mixed kr)|(apply WC.draw (id:=17) [0,1,2,3,4,5,6,7,8,9] (.h 0<|.h 1<|.h 2<|.h 3<|.h 4<|.h 5<|.h 6<|.h 7<|.h 8<|.h 9<|.m 10 (.l 11<|.l 12 .done) (.l 11<|.l 10<|.l 12 .done)) mixed kr)|(apply WC.draw (id:=19) [0,1,2,3,5,6,7,8,9] (.h 0<|.h 1<|.h 2<|.h 3<|.h 5<|.h 6<|.h 7<|.h 8<|.h 9<|.l 4<|.l 10<|.l 11<|.l 12 .done) mixed kr)|(apply WC.draw (id:=20) [0,1,3,4,5,6,7,8,9,10,12,13,14,15,17,18,19,20,21,22,23,24,25,26,27,28,30,31] (.h 0<|.h 1<|.l 2<|.h 3<|.h 4<|.h 5<|.h 6<|.h 7<|.h 8<|.h 9<|.h 10<|.l 11<|.h 12<|.h 13<|.h 14<|.h 15<|.l 16<|.h 17<|.h 18<|.h 19<|.h 20<|.h 21<|.h 22<|.h 23<|.h 24<|.h 25<|.h 26<|.h 27<|.h 28<|.l 29<|.h 30<|.h 31 .done) mixed kr)|fail
 exact Bx.h h):G:=s ⟨h⟩
def rbal_c (M:SM) (S:Sc) (wv pv:Value) (mw:Nat->QM) (w:Nat->Rat) (mp:Nat->VM) (xs:Nat->Vc) (K Kp A B C D E:Nat) (h0K:0 < K) (hK:K<=1000) (hKp:Kp<=10000000) (hA:2*Kp+2*K+5<=A) (hA2:A<=9000000) (hB:2*A+4*K+9<=B) (hB2:B<=100000000) (hC:2*S.m*(A+1)+1<=C) (hC2:A+C<=100000000) (hD:2*S.m*(B+1)+1<=D) (hD2:D<=100000000) (hE:2*S.m*(Kp+2*K+5)+1<=E) (hE2:E<=400000000) (hs:Ss K S) (ho:S.ok) (hw:∀ i,i < S.n->Sq K (w i)) (hx:∀ k,k < 2*S.m->Sv Kp (xs k)) :
  FnB Tryz.prog 29 [M.l,M.t,wv,pv] [] [fSl M S,fSt M S,fF wv S.n mw w,lF QD pv (2*S.m) mp xs] (IsBo (BalX S w xs)):=by
 refine fO [(0,M.l),(1,M.t),(2,wv),(3,pv)] 131 Tryz.func29 Tryz.ntmps29 λh0=>?_;have hn:=ho.n;have hm:=ho.m;have hmc:(2*(S.m:Int))=((2*S.m:Nat):Int):=qo;repeat'(first|intro(g:Nat)|refine d29 ?_|refine gN ?_ ?_|intro v)
 rw[hmc];refine cV (HX pv (2*S.m) Kp mp xs qo qo hx) ?_;repeat'(first|intro(g:Nat)|refine d29 ?_|refine gN ?_ ?_|intro v)
 refine WC.Xf (σ:=Unit) (λ_=>[(0,M.l),(1,M.t),(2,wv),(3,pv)]) (λ_=>[]) (λ_=>[ge h0,lF QD pv (2*S.m) mp xs,fF wv S.n mw w,fSl M S,fSt M S]) (λ_=>∀ k,k < 2*S.m->okE S xs k) ?_ ?_
 ·refine WC.lp (σ:=Nat) (λk=>[(9,.int .i64 (k:Int)),(0,M.l),(1,M.t),(2,wv),(3,pv)]) (λ_=>[]) (λ_=>[ge h0,lF QD pv (2*S.m) mp xs,fF wv S.n mw w,fSl M S,fSt M S]) (λk=>k<=2*S.m∧∀ j,j < k->okE S xs j) (λk=>2*S.m - k) 0 ⟨Nat.zero_le _,λj h=>absurd h qo⟩ ?_;rintro k ⟨hk,hok⟩;by_cases d:k < 2*S.m
  ·obtain⟨j,hq⟩:∃ j:Nat,(k:Int) / 2=(j:Int):=⟨k / 2,by omega⟩
   have hkj:k / 2=j:=qo;have hj:j < S.m:=qo;refine WC.fact (fV (mp k) (xs k)) (W.Has.lk (S:=QD) (v:=pv) hmA d) ?_;refine WC.fact (isQ (qv (mp k).1) (xs k).x) (W.Has.vx (m:=mp k) hmA) ?_;refine WC.fact (isQ (qv (mp k).2) (xs k).y) (W.Has.vy (m:=mp k) hmA) ?_;refine WC.fact (fT (M.T j) (S.T j)) (W.Has.lk (S:=Qb) (v:=M.t) hmA hj) ?_;refine WC.fact (isQ (qv (M.T j).r) (S.T j).r) (W.Has.trr (tm:=M.T j) hmA) ?_;have hr:Sq K (S.T j).r:=(hs.T j hj).2.2.2;have hrx:Sq (Kp+K+2) ((S.T j).r*(xs k).x):=(hr.mul (hx k d).1).up qo;have hsg:=@JB (xs k).x;have hE:=ab_okE (S:=S) (xs:=xs) hkj;repeat'(first|intro(g:Nat)|refine d29 ?_|refine gN ?_ ?_|intro v)
   refine cV (Zn.ZE (mp k).1 (xs k).x) ?_;by_cases h1:(xs k).x < 0
   ·have hs1:=hsg.2 h1;repeat'(first|intro(g:Nat)|refine d29 ?_|refine gN ?_ ?_|intro v)
    refine WC.ret ?_;exact Fp [] (Qv.t1 rfl rfl) .nil ⟨false,rfl,⟨λh=>absurd h qd,λh=>absurd (h.1 k d).1 (by grind)⟩,rfl,rfl⟩
   ·have hs1:¬sgn (xs k).x.num < 0:=λh=>h1 (hsg.1 h);repeat'(first|intro(g:Nat)|refine d29 ?_|refine gN ?_ ?_|intro v)
    refine cW (size_c (mp k).2 (xs k).y) λn1=>?_;repeat'(first|intro(g:Nat)|refine d29 ?_|refine gN ?_ ?_|intro v)
    refine cW (Zn.Zh (M.T j).r (mp k).1 (S.T j).r (xs k).x (hr.sm qo) ((hx k d).1.sm qo)) λn2=>?_;repeat'(first|intro(g:Nat)|refine d29 ?_|refine gN ?_ ?_|intro v)
    refine cV (Zn.rcmp n1 n2 (Bl.ab (xs k).y) ((S.T j).r*(xs k).x) ((hx k d).2.ab.sm qo) (hrx.sm qo)) ?_;by_cases h2:(S.T j).r*(xs k).x < Bl.ab (xs k).y
    ·have hs2:=Jm.2 h2;repeat'(first|intro(g:Nat)|refine d29 ?_|refine gN ?_ ?_|intro v)
     refine WC.ret ?_;exact Fp [] (Qv.t1 rfl rfl) .nil ⟨false,rfl,⟨λh=>absurd h qd,λh=>absurd (hE.1 (h.1 k d)).2 (by grind)⟩,rfl,rfl⟩
    ·have hs2:¬0 < J6 (Bl.ab (xs k).y) ((S.T j).r*(xs k).x):=λh=>h2 (Jm.1 h);repeat'(first|intro(g:Nat)|refine d29 ?_|refine gN ?_ ?_|intro v)
     refine Qq.mk (k+1) ⟨by omega,λi hi=>?_⟩ qo;by_cases e:i=k
     ·subst e;exact hE.2 ⟨by grind,by grind⟩
     ·exact hok i qo
  ·obtain rfl:k=2*S.m:=qo;repeat'(first|intro(g:Nat)|refine d29 ?_|refine gN ?_ ?_|intro v)
   exact QZ () hok
 ·rintro⟨⟩ hokE;repeat'(first|intro(g:Nat)|refine d29 ?_|refine gN ?_ ?_|intro v)
  refine cK (rstress_c M S pv mp xs K Kp E qo qo hE hE2 hs ho hx) ?_;rintro sv _ _ ⟨mst,rfl,rfl⟩;refine sNn ?_;repeat'(first|intro(g:Nat)|refine d29 ?_|refine gN ?_ ?_|intro v)
  refine WC.lp (σ:=Nat) (λi=>[(11,.int .i64 (i:Int)),(10,sv),(0,M.l),(1,M.t),(2,wv),(3,pv)]) (λ_=>[]) (λ_=>[ge h0,lF QD pv (2*S.m) mp xs,fF wv S.n mw w,fF sv S.n mst (stK S xs (2*S.m)),fSl M S,fSt M S]) (λi=>i<=S.n∧∀ j,j < i->okB S w xs j) (λi=>S.n - i) 0 ⟨Nat.zero_le _,λj h=>absurd h qo⟩ ?_;rintro i ⟨hi,hokB⟩;by_cases d:i < S.n
  ·repeat'(first|intro(g:Nat)|refine d29 ?_|refine gN ?_ ?_|intro v)
   revert g;intro g13;revert g;intro g12;refine WC.fact (fB (M.B i) (S.B i)) (W.Has.lk (S:=Qm) (v:=M.l) hmA d) ?_;refine WC.fact (fV (M.B i).c (S.B i).c) (W.Has.bc (bm:=M.B i) hmA) ?_;refine WC.Xf (σ:=VM×QM) (λst=>[(11,.int .i64 (i:Int)),(12,ptr g12),(13,ptr g13),(10,sv),(0,M.l),(1,M.t),(2,wv),(3,pv)]) (λst=>[Ow.cells g13 64 (qcs st.2),Ow.cells g12 75 (vcs st.1)]) (λst=>[fV st.1 (pfz S xs i (2*S.m)),isQ (qv st.2) (tqx S xs i (2*S.m)),fB (M.B i) (S.B i),ge h0,lF QD pv (2*S.m) mp xs,fF wv S.n mw w,fF sv S.n mst (stK S xs (2*S.m)),fSl M S,fSt M S]) (λ_=>True) ?_ ?_
   ·refine WC.lp (σ:=Nat×VM×QM) (λst=>[(14,.int .i64 (st.1:Int)),(11,.int .i64 (i:Int)),(12,ptr g12),(13,ptr g13),(10,sv),(0,M.l),(1,M.t),(2,wv),(3,pv)]) (λst=>[Ow.cells g13 64 (qcs st.2.2),Ow.cells g12 75 (vcs st.2.1)]) (λst=>[fV st.2.1 (pfz S xs i st.1),isQ (qv st.2.2) (tqx S xs i st.1),fV (M.B i).c (S.B i).c,fB (M.B i) (S.B i),ge h0,lF QD pv (2*S.m) mp xs,fF wv S.n mw w,fF sv S.n mst (stK S xs (2*S.m)),fSl M S,fSt M S]) (λst=>st.1<=2*S.m) (λst=>2*S.m - st.1) (0,(m00,m00),m00) (Nat.zero_le _) ?_ (hG:=.cons (show W.Has _ (fV (m00,m00) (pfz S xs i 0)) from hasV0) (.cons (show W.Has _ (isQ (qv m00) (tqx S xs i 0)) from Jy) haA));rintro⟨k,vm,mt⟩ hk;simp only at hk ⊢;by_cases d2:k < 2*S.m
    ·obtain⟨j,hq⟩:∃ j:Nat,(k:Int) / 2=(j:Int):=⟨k / 2,by omega⟩
     have hkj:k / 2=j:=qo;have hj:j < S.m:=qo;refine WC.fact (fV (mp k) (xs k)) (W.Has.lk (S:=QD) (v:=pv) hmA d2) ?_;refine WC.fact (fT (M.T j) (S.T j)) (W.Has.lk (S:=Qb) (v:=M.t) hmA hj) ?_;have hnn:Sv K (S.T j).n:=(hs.T j hj).2.2.1
     have hat:Sv K (S.at k):=by
         unfold Bl.Sc.at;split
         ·exact(hs.T _ qo).1
         ·exact(hs.T _ qo).2.1
     have hoE:=Gw h0K hs hx hA (i:=i) d2;have hpf:=pfz_sz h0K hs hx hA hC (i:=i) (k:=k) hk;have htq:=tqx_szG h0K hs hx hA hB hD (i:=i) (k:=k) d hk;have hoE':Bl.on (S.T j) i (Bl.frc (S.T j) (xs k).x (xs k).y)=oE S xs i k:=by unfold oE;rw[hkj]
     repeat'(first|intro(g:Nat)|refine d29 ?_|refine gN ?_ ?_|intro v)
     all_goals
         refine cW (rforce_c (M.T j) (S.T j) (mp k) (xs k) i K Kp qo hnn (hx k d2) qo) λa1=>?_;rw[hoE'];repeat'(first|intro(g:Nat)|refine d29 ?_|refine gN ?_ ?_|intro v)
         refine cW (XK vm a1 (pfz S xs i k) (oE S xs i k) (A+C) qo ⟨hpf.1.up qo,hpf.2.up qo⟩ ⟨hoE.1.up qo,hoE.2.up qo⟩) λa2=>?_;repeat'(first|intro(g:Nat)|refine d29 ?_|refine gN ?_ ?_|intro v)
         refine cW (rat_c M S k d2 qo) λa3=>?_;repeat'(first|intro(g:Nat)|refine d29 ?_|refine gN ?_ ?_|intro v)
         refine cW (rtorque_c a1 a3 (M.B i).c (oE S xs i k) (S.at k) (S.B i).c (A+K) qo ⟨hoE.1.up qo,hoE.2.up qo⟩ ⟨hat.1.up qo,hat.2.up qo⟩ ⟨(hs.B i d).1.1.up qo,(hs.B i d).1.2.up qo⟩) λa4=>?_;repeat'(first|intro(g:Nat)|refine d29 ?_|refine gN ?_ ?_|intro v)
         refine cW (Zn.UZ mt a4 (tqx S xs i k) (Bl.Jw (Bl.Q4 (S.at k) (S.B i).c) (oE S xs i k)) (htq.1.sm qo) ((htq.2 k d2).sm qo)) λa5=>?_;repeat'(first|intro(g:Nat)|refine d29 ?_|refine gN ?_ ?_|intro v)
         exact Qq.mk (k+1,a2,a5) (by simp only;omega) (by simp only;omega) (hG:=.cons (show W.Has _ (fV a2 ⟨(pfz S xs i k).x+(oE S xs i k).x,(pfz S xs i k).y+(oE S xs i k).y⟩) from hmA) (.cons (show W.Has _ (isQ (qv a5) (tqx S xs i k+Bl.Jw (Bl.Q4 (S.at k) (S.B i).c) (oE S xs i k))) from hmA) haA))
    ·obtain rfl:k=2*S.m:=qo;repeat'(first|intro(g:Nat)|refine d29 ?_|refine gN ?_ ?_|intro v)
     exact QZ (vm,mt) trivial
   ·rintro⟨vm,mt⟩ _;simp only;refine WC.fact (isQ (qv vm.1) (pfz S xs i (2*S.m)).x) (W.Has.vx (m:=vm) hmA) ?_;refine WC.fact (isQ (qv vm.2) (pfz S xs i (2*S.m)).y) (W.Has.vy (m:=vm) hmA) ?_;refine WC.fact (isQ (qv (M.B i).st) (S.B i).st) (W.Has.bs (bm:=M.B i) hmA) ?_;refine WC.fact (isQ (qv (mw i)) (w i)) (W.Has.q (W.Has.fm (v:=wv) (n:=S.n) (ms:=mw) (qf:=w) hmA) d) ?_;refine WC.fact (isQ (qv (mst i)) (stK S xs (2*S.m) i)) (W.Has.q (W.Has.fm (v:=sv) (n:=S.n) (ms:=mst) (qf:=stK S xs (2*S.m)) hmA) d) ?_;repeat'(first|intro(g:Nat)|refine d29 ?_|refine gN ?_ ?_|intro v)
    refine cV (Zn.ZE vm.1 (pfz S xs i (2*S.m)).x) ?_;by_cases e1:(pfz S xs i (2*S.m)).x=0
    ·have hs1:=QS.2 e1;repeat'(first|intro(g:Nat)|refine d29 ?_|refine gN ?_ ?_|intro v)
     refine cV (Zn.rsame vm.2 (mw i) (pfz S xs i (2*S.m)).y (w i)) ?_;by_cases e2:(pfz S xs i (2*S.m)).y=w i
     ·rw[decide_eq_true e2];repeat'(first|intro(g:Nat)|refine d29 ?_|refine gN ?_ ?_|intro v)
      refine cV (Zn.ZE mt (tqx S xs i (2*S.m))) ?_;by_cases e3:tqx S xs i (2*S.m)=0
      ·have hs3:=QS.2 e3;repeat'(first|intro(g:Nat)|refine d29 ?_|refine gN ?_ ?_|intro v)
       refine cV (Zn.rcmp (mst i) (M.B i).st (stK S xs (2*S.m) i) (S.B i).st ((GW hs hx hE (Nat.le_refl _) i).sm qo) ((hs.B i d).2.2.2.sm qo)) ?_;by_cases e4:(S.B i).st < stK S xs (2*S.m) i
       ·have hs4:=Jm.2 e4;repeat'(first|intro(g:Nat)|refine d29 ?_|refine gN ?_ ?_|intro v)
        refine WC.ret ?_;exact Fp [] (Qv.t1 rfl rfl) .nil ⟨false,rfl,⟨λh=>absurd h qd,λh=>absurd (Kr.1 ((YD.1 h).2 i d)).2.2.2 (by grind)⟩,rfl,rfl⟩
       ·have hs4:¬0 < J6 (stK S xs (2*S.m) i) (S.B i).st:=λh=>e4 (Jm.1 h);repeat'(first|intro(g:Nat)|refine d29 ?_|refine gN ?_ ?_|intro v)
        refine Qq.mk (i+1) ⟨by omega,λj hj=>?_⟩ qo;by_cases e:j=i
        ·subst e;exact Kr.2 ⟨e1,e2,e3,by grind⟩
        ·exact hokB j qo
      ·have hs3:¬sgn (tqx S xs i (2*S.m)).num=0:=λh=>e3 (QS.1 h);repeat'(first|intro(g:Nat)|refine d29 ?_|refine gN ?_ ?_|intro v)
       refine WC.ret ?_;exact Fp [] (Qv.t1 rfl rfl) .nil ⟨false,rfl,⟨λh=>absurd h qd,λh=>absurd (Kr.1 ((YD.1 h).2 i d)).2.2.1 e3⟩,rfl,rfl⟩
     ·rw[decide_eq_false e2];repeat'(first|intro(g:Nat)|refine d29 ?_|refine gN ?_ ?_|intro v)
      refine WC.ret ?_;exact Fp [] (Qv.t1 rfl rfl) .nil ⟨false,rfl,⟨λh=>absurd h qd,λh=>absurd (Kr.1 ((YD.1 h).2 i d)).2.1 e2⟩,rfl,rfl⟩
    ·have hs1:¬sgn (pfz S xs i (2*S.m)).x.num=0:=λh=>e1 (QS.1 h);repeat'(first|intro(g:Nat)|refine d29 ?_|refine gN ?_ ?_|intro v)
     refine WC.ret ?_;exact Fp [] (Qv.t1 rfl rfl) .nil ⟨false,rfl,⟨λh=>absurd h qd,λh=>absurd (Kr.1 ((YD.1 h).2 i d)).1 e1⟩,rfl,rfl⟩
  ·obtain rfl:i=S.n:=qo;repeat'(first|intro(g:Nat)|refine d29 ?_|refine gN ?_ ?_|intro v)
   refine WC.ret ?_;exact Fp [] (Qv.t1 rfl rfl) .nil ⟨true,rfl,⟨λ_=>YD.2 ⟨hokE,hokB⟩,λ_=>rfl⟩,rfl,rfl⟩
end R
end Q
end K
end
section
open W Go.RowKit
open Bl (Vc Bd Tc Sc)
namespace K
namespace Q
namespace R
attribute [local irreducible] WC WL WD YO LO Qq W.Fin Qw Qu Qj Row QQ Qy KnS Has W.One Ql Qr
def rweights_c (M:SM) (S:Sc) (c:Nat) (hn:S.n<=5) (hc:c < 2 ^ S.n):FnB Tryz.prog 21 [M.l,.int .i64 (c:Int)] [] [fSl M S] (IsF S.n (S.wt c)):=by
 refine fO [(0,M.l),(1,(.int .i64 (c:Int)))] 49 Tryz.func21 Tryz.ntmps21 λh0=>?_;have h32:2 ^ S.n<=2 ^ 5:=Nat.pow_le_pow_right qd hn;have hcn:=Hz S.n qo;have hcN:¬(c:Int)>=((2 ^ S.n:Nat):Int):=qo;have hc':c < 32:=qo;refine WC.Jd 64 4 ?_;repeat'(first|intro(g:Nat)|refine gP ?_|intro v)
 refine cV (hcn) ?_;generalize 2 ^ S.n=N at *;repeat'(first|intro(g:Nat)|refine gP ?_|intro v)
 refine WC.lp (σ:=Nat×Value×(Nat->QM)) (λst=>[(6,.int .i64 (st.1:Int)),(5,st.2.1),(1,.int .i64 ((c / 2 ^ st.1:Nat):Int)),(0,M.l)]) (λst=>[Ow.slice st.2.1 64 4 (Qe st.1 st.2.2)]) (λst=>[mF st.1 st.2.2 (S.wt c),ge h0,fSl M S]) (λst=>st.1<=S.n) (λst=>S.n - st.1) (0,.slice none 0 0,λ_=>m00) (Nat.zero_le _) ?_ (hE:=by simp only[Nat.pow_zero,Nat.div_one];exact suA) (hG:=.cons (W.Has.mFn _ _) haA);rintro⟨i,v,ms⟩ hi;simp only at hi ⊢;by_cases c1:i < S.n
 ·refine WC.fact (fB (M.B i) (S.B i)) (W.Has.lk (S:=Qm) (v:=M.l) hmA c1) ?_;refine WC.fact (isQ (qv (M.B i).lo) (S.B i).lo) (W.Has.bl (b:=S.B i) hmA) ?_;refine WC.fact (isQ (qv (M.B i).hi) (S.B i).hi) (W.Has.bh (b:=S.B i) hmA) ?_;have hq2:c / 2 ^ i<=c:=Nat.div_le_self _ _;have hX:c / 2 ^ i / 2=c / 2 ^ (i+1):=by rw[Nat.div_div_eq_div_mul,Nat.pow_succ]
  have hwt:S.wt c i=if c / 2 ^ i % 2=1 then(S.B i).hi else(S.B i).lo:=rfl;obtain⟨Y,hY⟩:∃ Y,c / 2 ^ (i+1)=Y:=⟨_,rfl⟩
  rw[hY] at hX;generalize c / 2 ^ i=X at *;have hq:(X:Int) / 2=(Y:Int):=qo;by_cases c2:X % 2=1
  ·have hr:(X:Int) % 2=1:=qo;rw[if_pos c2] at hwt;repeat'(first|intro(g:Nat)|refine gP ?_|intro v)
   exact Qq.mk (i+1,_,upd ms i (M.B i).hi) (by simp only;omega) (by simp only;omega) (hE:=by simp only;rw[hY];exact suA) (hG:=.cons (W.Has.QW (W.Has.Ul (qf:=S.wt c) hmA (m:=(M.B i).hi) (z:=(S.B i).hi) hmA) (λk hk=>by unfold upd;split;(rename_i e;rw[e,hwt]);rfl)) haA)
  ·have hr:¬(X:Int) % 2=1:=qo;rw[if_neg c2] at hwt;repeat'(first|intro(g:Nat)|refine gP ?_|intro v)
   exact Qq.mk (i+1,_,upd ms i (M.B i).lo) (by simp only;omega) (by simp only;omega) (hE:=by simp only;rw[hY];exact suA) (hG:=.cons (W.Has.QW (W.Has.Ul (qf:=S.wt c) hmA (m:=(M.B i).lo) (z:=(S.B i).lo) hmA) (λk hk=>by unfold upd;split;(rename_i e;rw[e,hwt]);rfl)) haA)
 ·obtain rfl:i=S.n:=qo;repeat'(first|intro(g:Nat)|refine gP ?_|intro v)
  refine WC.Jh v S.n ms (S.wt c) (by repeat(first|exact Sel.head|apply Sel.tail)) hmA ?_;refine WC.ret ?_;exact Fp [fF v S.n ms (S.wt c)] (Qv.t1 rfl rfl) haA ⟨ms,rfl,rfl⟩
end R
end Q
end K
end
section
open W Go.RowKit
def most (p:X.Lp) (op:Bool) (r:Nat):Rat:=if op=true then 0 else p.b r
def Xv (p:X.Lp) (xn:Nat) (x:Nat->Rat) (op:Bool):Bool:=decide (xn=p.v) && !(X.fstT (λr=>decide (most p op r < X.sm p.v λk=>p.a r k*x k)) p.m 0).isSome
def Dok (n K:Nat):Prop:=n*(2*K+1)+1+2*K<=400000000
def dot_sm {n K:Nat} {a b:Nat->Rat} (hd:Dok n K) (ha:∀ i,i < n->Sq K (a i)) (hb:∀ i,i < n->Sq K (b i)):Sm (X.sm n λi=>a i*b i):=by
 unfold Dok at hd;exact(X.XC (m:=n) (f:=λi=>a i*b i) (k:=2*K) λi hi=>(Sq.mul (ha i hi) (hb i hi)).up qo).sm qo
def Dok.k {n K:Nat} (h:Dok n K):K<=400000000:=by unfold Dok at h;omega
def cmp_gt {a b:Rat}:0 < J6 a b↔b < a:=by
 have h1:=@Kj a b;have h2:=@cmpQ_eq a b;constructor
 ·intro h;rcases(Rat.le_total:a<=b∨b<=a) with h3|h3
  ·by_cases e:a=b
   ·rw[h2.2 e] at h;omega
   ·have:a < b:=by grind
    have:=h1.2 this;omega
  ·by_cases e:a=b
   ·rw[h2.2 e] at h;omega
   ·grind
 ·intro h;by_cases c:J6 a b < 0
  ·have:=h1.1 c;grind
  ·by_cases c2:J6 a b=0
   ·have:=h2.1 c2;grind
   ·omega
namespace Z
attribute [local irreducible] WC WL WD YO LO Qq W.Fin Qw Qu Qj Row QQ Qy KnS Has W.One Ql Qr
def Y4 {G G':Prop} (h:G') (s:Bx G'->G:=by
 intro h;first|refine gB ?_|(apply WC.draw (id:=4) [0,1,2,4,6,7] (.h 0<|.h 1<|.h 2<|.h 4<|.l 3<|.l 5<|.h 6<|.h 7 .done) mixed kr)|fail
 exact Bx.h h):G:=s ⟨h⟩
def holds1_c (M:Pm) (p:X.Lp) (K g5 g4 r:Nat) (op:Bool) (xv:Value) (mx:Nat->QM) (x:Nat->Rat) (hr:r < p.m) (hd:Dok p.v K) (hv:p.v<=1000) (ha:∀ r,r < p.m->∀ k,k < p.v->Sq K (p.a r k)) (hb:∀ r,r < p.m->Sq K (p.b r)) (hx:∀ k,k < p.v->Sq K (x k)) (hK:0 < K) :
  FnB Tryz.prog 216 [lnv M r,ptr g5,ptr g4] [] [fP M p,ce g5 4 [.bool op],ce g4 34 [xv],fF xv p.v mx x] (IsV (.bool (decide (most p op r < X.sm p.v λk=>p.a r k*x k)))):=by
 refine fO [(0,(lnv M r)),(1,(ptr g5)),(2,(ptr g4))] 17 Tryz.func216 Tryz.ntmps216 λh0=>?_;refine WC.fact (fF (M.av r) p.v (M.ma r) (p.a r)) (W.Has.pa (M:=M) (m:=p.m) (gn:=p.v) (ln:=λ_=>p.v) (a:=p.a) (b:=p.b) (g:=p.g) hmA hr) ?_;refine WC.fact (isQ (qv (M.mb r)) (p.b r)) (W.Has.pbq (M:=M) (m:=p.m) (gn:=p.v) (ln:=λ_=>p.v) (a:=p.a) (b:=p.b) (g:=p.g) hmA hr) ?_;have hsm:=dot_sm (a:=p.a r) (b:=x) hd (ha r hr) hx;have hgt:=@cmp_gt (X.sm p.v λk=>p.a r k*x k) (most p op r)
 have hmo:Sm (most p op r):=by
  unfold most;split
  ·exact(Sq.zero.up hK).sm hd.k
  ·exact(hb r hr).sm hd.k
 cases op with
 |true=>
  have e:most p true r=0:=rfl;rw[e] at hgt hmo ⊢;refine WC.fact (isQ (qv m00) 0) Jy ?_;repeat'(first|intro(g:Nat)|refine Y4 ?_|intro v)
  refine WD.QH (Hk (M.av r) xv p.v K (M.ma r) mx (p.a r) x qo hd (ha r hr) hx) ?_;rintro _ _ _ ⟨m1,rfl,rfl,rfl⟩;refine sNn ?_;repeat'(first|intro(g:Nat)|refine Y4 ?_|intro v)
  refine WD.QH (Zn.cmp m1 m00 _ 0 hsm hmo) ?_;rintro _ _ _ ⟨rfl,rfl,rfl⟩;refine sNn ?_;by_cases c:0 < X.sm p.v λk=>p.a r k*x k
  ·have c':=hgt.2 c;repeat'(first|intro(g:Nat)|refine Y4 ?_|intro v)
   refine WC.ret ?_;exact Fin.v (Qv.t1 rfl rfl) meA (by rw[decide_eq_true c])
  ·have c':J6 (X.sm p.v λk=>p.a r k*x k) 0<=0:=Int.not_lt.1 λh=>c (hgt.1 h);repeat'(first|intro(g:Nat)|refine Y4 ?_|intro v)
   refine WC.ret ?_;exact Fin.v (Qv.t1 rfl rfl) meA (by rw[decide_eq_false c])
 |false=>
  have e:most p false r=p.b r:=rfl;rw[e] at hgt hmo ⊢;repeat'(first|intro(g:Nat)|refine Y4 ?_|intro v)
  refine WD.QH (Hk (M.av r) xv p.v K (M.ma r) mx (p.a r) x qo hd (ha r hr) hx) ?_;rintro _ _ _ ⟨m1,rfl,rfl,rfl⟩;refine sNn ?_;repeat'(first|intro(g:Nat)|refine Y4 ?_|intro v)
  refine WD.QH (Zn.cmp m1 (M.mb r) _ (p.b r) hsm hmo) ?_;rintro _ _ _ ⟨rfl,rfl,rfl⟩;refine sNn ?_;by_cases c:p.b r < X.sm p.v λk=>p.a r k*x k
  ·have c':=hgt.2 c;repeat'(first|intro(g:Nat)|refine Y4 ?_|intro v)
   refine WC.ret ?_;exact Fin.v (Qv.t1 rfl rfl) meA (by rw[decide_eq_true c])
  ·have c':J6 (X.sm p.v λk=>p.a r k*x k) (p.b r)<=0:=Int.not_lt.1 λh=>c (hgt.1 h);repeat'(first|intro(g:Nat)|refine Y4 ?_|intro v)
   refine WC.ret ?_;exact Fin.v (Qv.t1 rfl rfl) meA (by rw[decide_eq_false c])
def Zo (M:Pm) (p:X.Lp) (K xn:Nat) (op:Bool) (xv:Value) (mx:Nat->QM) (x:Nat->Rat) (hd:Dok p.v K) (hv:p.v<=1000) (ha:∀ r,r < p.m->∀ k,k < p.v->Sq K (p.a r k)) (hb:∀ r,r < p.m->Sq K (p.b r)) (hx:∀ k,k < xn->Sq K (x k)) (hK:0 < K) :
  FnB Tryz.prog 190 [pgv M p.v,xv,.bool op] [] [fP M p,fF xv xn mx x] (IsV (.bool (Xv p xn x op))):=by
 refine fO [(0,(pgv M p.v)),(1,xv),(2,(.bool op))] 19 Tryz.func190 Tryz.ntmps190 λh0=>?_;by_cases c:xn=p.v
 ·subst c;repeat'(first|intro(g:Nat)|refine gA ?_|intro v)
  rename_i g3 g4
  revert g;intro g5;refine WL.XR (Uc M p.m p.v (λ_=>p.v) p.a p.b p.g 216 [] [ptr g5,ptr g4] [ce g5 4 [.bool op],ce g4 34 [xv],fF xv p.v mx x] (λr=>decide (most p op r < X.sm p.v λk=>p.a r k*x k)) (λr hr=>holds1_c M p K g5 g4 r op xv mx x hr hd hv ha hb hx hK)) ?_ (hF:=.cons (.f hmA) (.cons (.c meA) (.cons (.c meA) (.cons (.f hmA) .nil))));have hh:Xv p p.v x op= !(X.fstT (λr=>decide (most p op r < X.sm p.v λk=>p.a r k*x k)) p.m 0).isSome:=by unfold Xv;rw[decide_eq_true rfl];rfl
  cases hx:(X.fstT (λr=>decide (most p op r < X.sm p.v λk=>p.a r k*x k)) p.m 0).isSome with
  |true=>
   repeat'(first|intro(g:Nat)|refine gA ?_|intro v)
   refine WC.ret ?_;exact Fin.v (Qv.t1 rfl rfl) meA (by rw[hh,hx];rfl)
  |false=>
   repeat'(first|intro(g:Nat)|refine gA ?_|intro v)
   refine WC.ret ?_;exact Fin.v (Qv.t1 rfl rfl) meA (by rw[hh,hx];rfl)
 ·repeat'(first|intro(g:Nat)|refine gA ?_|intro v)
  refine WC.ret ?_;exact Fin.v (Qv.t1 rfl rfl) meA (by unfold Xv;rw[decide_eq_false c];rfl)
end Z
end
section
open W Go.RowKit
def Jf (p:X.Lp) (yn:Nat) (y g:Nat->Rat):Bool:=decide (yn=p.m) && !(X.fstT (λr=>decide (y r < 0)) yn 0).isSome && !(X.fstT (λk=>decide (¬(X.sm p.m λr=>p.a r k*y r)=g k)) p.v 0).isSome
def XT (p:X.Lp) (y:Nat->Rat):Rat:=X.sm p.m λr=>p.b r*y r
def KC (p:X.Lp) (yn:Nat) (y g:Nat->Rat):Qd:=λv B G=>∃ m,v=.tuple #[qv m,.bool (Jf p yn y g)]∧B=[]∧G=[isQ (qv m) (if Jf p yn y g=true then XT p y else 0)]
def clx (c:Nat->Rat) (k j:Nat):Rat:=if j < k then c j else 0
def clx_up {c:Nat->Rat} {k:Nat} (i:Nat):upd (clx c k) k (c k) i=clx c (k+1) i:=by
 unfold clx upd;by_cases e:i=k
 ·subst e;simp
 ·by_cases c2:i < k
  ·simp[e,c2,show i < k+1 by omega]
  ·simp[e,c2,show ¬i < k+1 by omega]
namespace Z
attribute [local irreducible] WC WL WD YO LO Qq W.Fin Qw Qu Qj Row QQ Qy KnS Has W.One Ql Qr
def containsF_c (v0:Value) (n:Nat) (ms:Nat->QM) (q:Nat->Rat) (f:FuncId) (first cap:List Value) (Fc:List Fct) (p:Nat->Bool)
  (hf:∀ i,i < n->FnB Tryz.prog f (first++[qv (ms i)]++cap) [] (isQ (qv (ms i)) (q i)::Fc) (IsV (.bool (p i)))) :
  FnB Tryz.prog 211 [v0,.func (.func f) first.toArray cap.toArray] [] (fF v0 n ms q::Fc) (IsV (.bool (X.fstT p n 0).isSome)):=by
 refine fO [(0,v0),(1,(.func (.func f) first.toArray cap.toArray))] 9 Tryz.func211 Tryz.ntmps211 λh0=>?_;repeat'(first|intro(g:Nat)|refine gA ?_|intro v)
 refine WL.XR (indexF_c v0 n ms q f first cap Fc p hf) ?_ (hF:=.cons (.f hmA) (K2 λ_ h=>by(repeat(first|exact h|apply List.mem_cons_of_mem))));cases hp:X.fstT p n 0 with
 |none=>
  rw[show XM none= -1 from rfl];repeat'(first|intro(g:Nat)|refine gA ?_|intro v)
  refine WC.ret ?_;exact Fin.v (Qv.t1 rfl rfl) meA rfl
 |some k=>
  rw[show XM (some k)=(k:Int) from rfl];repeat'(first|intro(g:Nat)|refine gA ?_|intro v)
  refine WC.ret ?_;exact Fin.v (Qv.t1 rfl rfl) meA rfl
def negf_c (m:QM) (q:Rat):FnB Tryz.prog 212 [qv m] [] [isQ (qv m) q] (IsV (.bool (decide (q < 0)))):=by
 refine fO [(0,(qv m))] 6 Tryz.func212 Tryz.ntmps212 λh0=>?_;have hs:=@JB q;repeat'(first|intro(g:Nat)|refine gA ?_|intro v)
 refine cV (Zn.sign m q) ?_;by_cases c:q < 0
 ·have c':=hs.2 c;repeat'(first|intro(g:Nat)|refine gA ?_|intro v)
  refine WC.ret ?_;exact Fin.v (Qv.t1 rfl rfl) meA (by rw[decide_eq_true c])
 ·have c':0<=sgn q.num:=Int.not_lt.1 λh=>c (hs.1 h);repeat'(first|intro(g:Nat)|refine gA ?_|intro v)
  refine WC.ret ?_;exact Fin.v (Qv.t1 rfl rfl) meA (by rw[decide_eq_false c])
def aof_c (M:Pm) (p:X.Lp) (g9 r k:Nat) (hr:r < p.m) (hk:k < p.v):FnB Tryz.prog 214 [lnv M r,ptr g9] [] [ce g9 3 [.int .i64 (k:Int)],fP M p] (IsR (p.a r k)):=by
 refine fO [(0,(lnv M r)),(1,(ptr g9))] 9 Tryz.func214 Tryz.ntmps214 λh0=>?_;refine WC.fact (fF (M.av r) p.v (M.ma r) (p.a r)) (W.Has.pa (M:=M) (m:=p.m) (gn:=p.v) (ln:=λ_=>p.v) (a:=p.a) (b:=p.b) (g:=p.g) hmA hr) ?_;refine WC.fact (isQ (qv (M.ma r k)) (p.a r k)) (W.Has.q (W.Has.fm (v:=M.av r) hmA) hk) ?_;refine WC.fact (isQ (qv (M.mb r)) (p.b r)) (W.Has.pbq (M:=M) (m:=p.m) (gn:=p.v) (ln:=λ_=>p.v) (a:=p.a) (b:=p.b) (g:=p.g) hmA hr) ?_;repeat'(first|intro(g:Nat)|refine gA ?_|intro v)
 refine WC.ret ?_;exact Fp [isQ (qv (M.ma r k)) (p.a r k)] (rcV T.r64) haA ⟨_,rfl,rfl,rfl⟩
def bof_c (M:Pm) (p:X.Lp) (r:Nat) (hr:r < p.m):FnB Tryz.prog 215 [lnv M r] [] [fP M p] (IsR (p.b r)):=by
 refine fO [(0,(lnv M r))] 5 Tryz.func215 Tryz.ntmps215 λh0=>?_;refine WC.fact (fF (M.av r) p.v (M.ma r) (p.a r)) (W.Has.pa (M:=M) (m:=p.m) (gn:=p.v) (ln:=λ_=>p.v) (a:=p.a) (b:=p.b) (g:=p.g) hmA hr) ?_;refine WC.fact (isQ (qv (M.mb r)) (p.b r)) (W.Has.pbq (M:=M) (m:=p.m) (gn:=p.v) (ln:=λ_=>p.v) (a:=p.a) (b:=p.b) (g:=p.g) hmA hr) ?_;repeat'(first|intro(g:Nat)|refine gA ?_|intro v)
 refine WC.ret ?_;exact Fp [isQ (qv (M.mb r)) (p.b r)] (rcV T.r64) haA ⟨_,rfl,rfl,rfl⟩
def column_c (M:Pm) (p:X.Lp) (K g3 g4:Nat) (yv:Value) (my:Nat->QM) (y:Nat->Rat) (f:FuncId) (first cap:List Value) (Fc:List Fct) (c:Nat->Rat)
  (hf:∀ r,r < p.m->FnB Tryz.prog f (first++[lnv M r]++cap) [] Fc (IsR (c r))) (hd:Dok p.m K) (hm:p.m<=1000) (hc:∀ r,r < p.m->Sq K (c r)) (hy:∀ r,r < p.m->Sq K (y r)) :
  FnB Tryz.prog 213 [.func (.func f) first.toArray cap.toArray,ptr g3,ptr g4] [] (ce g3 36 (pcs M p.v)::ce g4 34 [yv]::fF yv p.m my y::fP M p::Fc) (IsR (X.sm p.m λr=>c r*y r)):=by
 refine fO [(0,(.func (.func f) first.toArray cap.toArray)),(1,(ptr g3)),(2,(ptr g4))] 30 Tryz.func213 Tryz.ntmps213 λh0=>?_;repeat'(first|intro(g:Nat)|refine gA ?_|intro v)
 revert v;intro lw;revert g;intro g2
 refine WC.lp (σ:=Nat×(Nat->QM)) (λst=>[(15,.int .i64 (st.1:Int)),(14,.int .i64 (p.m:Int)),(13,M.lv),(5,lw),(0,.func (.func f) first.toArray cap.toArray),(1,ptr g3),(2,ptr g4),(4,ptr g2)]) (λst=>[Ow.slice lw 64 4 (Qe p.m st.2),Ow.cells g2 64 (qcs m00)])
  (λst=>mF p.m st.2 (clx c st.1)::ge h0::ce g3 36 (pcs M p.v)::ce g4 34 [yv]::fF yv p.m my y::fP M p::Fc) (λst=>st.1<=p.m) (λst=>p.m - st.1) (0,λ_=>m00) (Nat.zero_le _) ?_ (hG:=.cons ((W.Has.mF0 p.m).QW λi _=>by simp[clx]) (.cons hmA (.cons hmA (.cons hmA (.cons hmA (.cons hmA (Qk.tail λ_ h=>by(repeat(first|exact h|apply List.mem_cons_of_mem)))))))))
 rintro⟨k,mx⟩ hk;simp only at hk ⊢;by_cases ck:k < p.m
 ·refine WC.fact (isQ (qv (M.mb k)) (p.b k)) (W.Has.pbq (M:=M) (m:=p.m) (gn:=p.v) (ln:=λ_=>p.v) (a:=p.a) (b:=p.b) (g:=p.g) hmA ck) ?_;refine WC.fact (fF (M.av k) p.v (M.ma k) (p.a k)) (W.Has.pa (M:=M) (m:=p.m) (gn:=p.v) (ln:=λ_=>p.v) (a:=p.a) (b:=p.b) (g:=p.g) hmA ck) ?_;repeat'(first|intro(g:Nat)|refine gA ?_|intro v)
  refine WL.Xw first cap (vs:=[lnv M k]) (hf k ck) ?_ (hF:=Qk.tail λ_ h=>by(repeat(first|exact h|apply List.mem_cons_of_mem)))
  rintro _ _ _ ⟨m1,rfl,rfl,rfl⟩;refine sNn ?_;refine WL.QG (mF p.m (upd mx k m1) (clx c (k+1))) ((W.Has.J3 (k:=k) (ms:=mx) (m:=m1) (qf:=clx c k) hmA hmA).QW λi _=>clx_up i) ?_;repeat'(first|intro(g:Nat)|refine gA ?_|intro v)
  exact Qq.mk (k+1,_) (by show k+1<=p.m;omega) (by show p.m - (k+1) < p.m - k;omega) (hG:=.cons hmA (.cons hmA (.cons hmA (.cons hmA (.cons hmA (.cons hmA (Qk.tail λ_ h=>by(repeat(first|exact h|apply List.mem_cons_of_mem)))))))))
 ·obtain rfl:k=p.m:=qo;repeat'(first|intro(g:Nat)|refine gA ?_|intro v)
  refine WL.Jh lw p.m mx (clx c p.m) (by repeat(first|exact Sel.head|apply Sel.tail)) hmA ?_;have he:(X.sm p.m λr=>clx c p.m r*y r)=X.sm p.m λr=>c r*y r:=X.Qh λr hr=>by unfold clx;rw[if_pos hr]
  refine WL.QH (Hk lw yv p.m K mx my (clx c p.m) y qo hd (λr hr=>by unfold clx;rw[if_pos hr];exact hc r hr) hy) ?_;rw[he];rintro _ _ _ ⟨m1,rfl,rfl,rfl⟩;refine sNn ?_;repeat'(first|intro(g:Nat)|refine gA ?_|intro v)
  refine WC.ret ?_;exact Fp [isQ (qv m1) (X.sm p.m λr=>c r*y r)] (rcV T.r64) haA ⟨_,rfl,rfl,rfl⟩
def sums_c (M:Pm) (p:X.Lp) (K yn:Nat) (yv gw:Value) (my mg:Nat->QM) (y gf:Nat->Rat) (hd:Dok p.m K) (hv:p.v<=1000) (hm:p.m<=1000) (ha:∀ r,r < p.m->∀ k,k < p.v->Sq K (p.a r k)) (hb:∀ r,r < p.m->Sq K (p.b r)) (hy:∀ r,r < yn->Sq K (y r)) :
  FnB Tryz.prog 189 [pgv M p.v,yv,gw] [] [fP M p,fF yv yn my y,fF gw p.v mg gf] (KC p yn y gf):=by
 refine fO [(0,(pgv M p.v)),(1,yv),(2,gw)] 40 Tryz.func189 Tryz.ntmps189 λh0=>?_;have zero:Jf p yn y gf=false->KC p yn y gf (.tuple #[qv m00,.bool false]) [] [isQ (qv m00) 0]:=λh=>⟨m00,by rw[h],rfl,by rw[h];rfl⟩
 refine WC.lenF (v:=M.lv) (m:=p.m) (W.Has.pl (M:=M) (m:=p.m) (gn:=p.v) (ln:=λ_=>p.v) (a:=p.a) (b:=p.b) (g:=p.g) hmA) λhmm=>?_;by_cases c:yn=p.m
 ·subst c;repeat'(first|intro(g:Nat)|refine gB ?_|intro v)
  rename_i g3 g4
  revert g;intro g6;refine WL.XR (containsF_c yv p.m my y 212 [] [] [] (λr=>decide (y r < 0)) (λr _=>negf_c (my r) (y r))) ?_ (hF:=.cons (.f hmA) .nil);cases hx:(X.fstT (λr=>decide (y r < 0)) p.m 0).isSome with
  |true=>
   repeat'(first|intro(g:Nat)|refine gB ?_|intro v)
   refine WC.ret ?_;have h0:Jf p p.m y gf=false:=by unfold Jf;rw[hx];simp
   exact Fp [isQ (qv m00) 0] (Qv.cT rfl rfl meA T.r64 rfl rfl) (.cons Jy .nil) (zero h0)
  |false=>
   have hok:Jf p p.m y gf= !(X.fstT (λk=>decide (¬(X.sm p.m λr=>p.a r k*y r)=gf k)) p.v 0).isSome:=by unfold Jf;rw[hx];simp
   repeat'(first|intro(g:Nat)|refine gB ?_|intro v)
   refine WC.keep (g:=g3) (t:=36) (cs:=pcs M p.v) (by repeat(first|exact Rem.head|apply Rem.tail)) ?_;refine WC.keep (g:=g4) (t:=34) (cs:=[yv]) (by repeat(first|exact Rem.head|apply Rem.tail)) ?_
   refine WC.lp (σ:=Nat) (λk=>[(24,.int .i64 (k:Int)),(23,.int .i64 (p.v:Int)),(8,.func (.func 213) #[] #[ptr g3,ptr g4]),(2,gw),(6,ptr g6)]) (λ_=>[Ow.cells g6 64 (qcs m00)])
    (λ_=>[ge h0,ce g3 36 (pcs M p.v),ce g4 34 [yv],fP M p,fF yv p.m my y,fF gw p.v mg gf]) (λk=>k<=p.v∧X.fstT (λk=>decide (¬(X.sm p.m λr=>p.a r k*y r)=gf k)) p.v 0=X.fstT (λk=>decide (¬(X.sm p.m λr=>p.a r k*y r)=gf k)) (p.v - k) k) (λk=>p.v - k) 0 ⟨Nat.zero_le _,rfl⟩ ?_
   rintro k ⟨hk,he⟩;by_cases ck:k < p.v
   ·rw[UG ck] at he;refine WC.fact (isQ (qv (mg k)) (gf k)) (W.Has.q (W.Has.fm (v:=gw) hmA) ck) ?_;repeat'(first|intro(g:Nat)|refine gB ?_|intro v)
    revert g;intro g9;refine WC.keep (g:=g9) (t:=3) (cs:=[.int .i64 (k:Int)]) (by repeat(first|exact Rem.head|apply Rem.tail)) ?_;repeat refine WC.seq ?_
    refine WC.draw (id:=7) [0,1,3,4,5,6,8] (.h 0<|.h 1<|.h 3<|.h 4<|.h 5<|.h 6<|.l 2<|.l 7<|.h 8 .done) mixed kr ?_;repeat'(first|intro(g:Nat)|refine gB ?_|intro v)
    refine WD.Xw [] [ptr g3,ptr g4] (vs:=[.func (.func 214) #[] #[ptr g9]]) (column_c M p K g3 g4 yv my y 214 [] [ptr g9] [ce g9 3 [.int .i64 (k:Int)],fP M p] (λr=>p.a r k) (λr hr=>aof_c M p g9 r k hr ck) hd hm (λr hr=>ha r hr k ck) hy) ?_;rintro _ _ _ ⟨m1,rfl,rfl,rfl⟩;refine sNn ?_;repeat'(first|intro(g:Nat)|refine gB ?_|intro v)
    refine WD.QH (Zn.same m1 (mg k) (X.sm p.m λr=>p.a r k*y r) (gf k)) ?_;rintro _ _ _ ⟨rfl,rfl,rfl⟩;refine sNn ?_;by_cases cs:(X.sm p.m λr=>p.a r k*y r)=gf k
    ·rw[if_neg (by simp[cs])] at he;rw[decide_eq_true cs];repeat'(first|intro(g:Nat)|refine gB ?_|intro v)
     exact Qq.mk (k+1) ⟨by omega,he⟩ qo
    ·rw[if_pos (decide_eq_true cs)] at he;rw[decide_eq_false cs];repeat'(first|intro(g:Nat)|refine gB ?_|intro v)
     refine WC.ret ?_;have h0:Jf p p.m y gf=false:=by rw[hok,he];rfl
     exact Fp [isQ (qv m00) 0] (Qv.cT rfl rfl meA T.r64 rfl rfl) (.cons Jy .nil) (zero h0)
   ·obtain rfl:k=p.v:=qo;rw[Nat.sub_self,X.fstT] at he;rw[he] at hok;repeat'(first|intro(g:Nat)|refine gB ?_|intro v)
    refine WL.Xw [] [ptr g3,ptr g4] (vs:=[.func (.func 215) #[] #[]]) (column_c M p K g3 g4 yv my y 215 [] [] [fP M p] p.b (λr hr=>bof_c M p r hr) hd hm hb hy) ?_;rintro _ _ _ ⟨m1,rfl,rfl,rfl⟩;refine sNn ?_;repeat'(first|intro(g:Nat)|refine gB ?_|intro v)
    refine WC.ret ?_;exact Fp [isQ (qv m1) (X.sm p.m λr=>p.b r*y r)] (Qv.cT rfl rfl meA T.r64 rfl rfl) haA ⟨m1,by rw[hok];rfl,rfl,by rw[hok];rfl⟩
 ·repeat'(first|intro(g:Nat)|refine gB ?_|intro v)
  refine WC.ret ?_;have h0:Jf p yn y gf=false:=by unfold Jf;rw[decide_eq_false c];rfl
  exact Fp [isQ (qv m00) 0] (Qv.cT rfl rfl meA T.r64 rfl rfl) (.cons Jy .nil) (zero h0)
end Z
end
end Go.Proofs.YtcpaopfdiahnnaaGreat
