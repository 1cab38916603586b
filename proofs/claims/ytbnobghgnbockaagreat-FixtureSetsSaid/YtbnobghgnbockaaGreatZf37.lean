/- Lemmas for a law. Conditions: none. -/
import Derived.Test.YtbnobghgnbockaaGreatZf36
set_option linter.all false
set_option maxHeartbeats 32000000
set_option maxRecDepth 100000
namespace Go.Proofs.YtbnobghgnbockaaGreat
section
open W Go.RowKit
open Bl (Vc Bd Tc Sc)
def Hu{l m:List Int}(hl:l.length=m.length)(h:∀j,j<l.length->l.getD j 0=m.getD j 0):l=m:=by
 apply List.ext_getElem hl;intro i h1 h2;have:=h i h1;simpa [List.getD_eq_getElem?_getD,h1,h2] using this
def lex_at:∀(k:Nat) (a b:List Int),a.length=b.length->(∀j,j<k->a.getD j 0=b.getD j 0)->k<a.length->a.getD k 0≠b.getD k 0->Fx.lexlt a b=decide (a.getD k 0<b.getD k 0)
 |_,[],_,_,_,h,_=>absurd h (Nat.not_lt_zero _)
 |_,_::_,[],hl,_,_,_=>by simp at hl
 |0,x::a,y::b,_,_,_,hn=>by
  have hn:x≠y:=hn;unfold Fx.lexlt;rw[if_neg hn];rfl
 |k+1,x::a,y::b,hl,hj,hk,hn=>by
  have h0:x=y:=hj 0 (Nat.succ_pos _);unfold Fx.lexlt;rw[if_pos h0];exact lex_at k a b (by simpa using hl) (λj h=>hj (j+1) qo) (by simpa using hk) hn
def lex_same:∀a:List Int,Fx.lexlt a a=false
 |[]=>rfl
 |x::a=>by unfold Fx.lexlt;rw[if_pos rfl];exact lex_same a
def num_le(b:Nat):∀n,(Fx.numbers b n).length<=n
 |0=>by simp[Fx.numbers]
 |n+1=>by
  have:=num_le b n;unfold Fx.numbers;rw[List.length_append];split<;>simp<;>omega
namespace K
namespace Q
namespace Y
attribute [local irreducible] WC WL WD YO LO Qq W.Fin Qk Qw Qj Row QJ Qv KnS Has W.One Qa Qs
def d13{G G':Prop}(h:G')(s:Bx G'->G:=by
 intro h;first|refine gF ?_|(apply WC.draw (id:=6) [0,1,2,3,4,5,6,7,8] (.h 0<|.h 1<|.h 2<|.h 3<|.h 4<|.h 5<|.h 6<|.h 7<|.h 8 .done) mixed kr)|fail
 exact Bx.h h):G:=s ⟨h⟩
def d34{G G':Prop}(h:G')(s:Bx G'->G:=by
 intro h;first|refine gF ?_|(apply WC.draw (id:=6) [0,1,2,3,4,5,6,7,8] (.h 0<|.h 1<|.h 2<|.h 3<|.h 4<|.h 5<|.h 6<|.h 7<|.h 8 .done) mixed kr)|(apply WC.draw (id:=7) [0,1,2,3,4,5,6,7,8,9] (.h 0<|.h 1<|.h 2<|.h 3<|.h 4<|.h 5<|.h 6<|.h 7<|.h 8<|.h 9 .done) mixed kr)|fail
 exact Bx.h h):G:=s ⟨h⟩
def Yr(v u:Value)(l m:List Int):FnB Tryz.prog 13 [v,u] [] [sI v l,sI u m] (IsV (.bool (decide (l=m)))):=by
 refine fO [(0,v),(1,u)] 26 Tryz.func13 Tryz.ntmps13 λh0=>?_;refine WC.K5 v l hmA λhlen=>?_;by_cases hl:l.length=m.length
 ·repeat'(first|intro(g:Nat)|refine d13 ?_|intro v)
  refine WC.lp (σ:=Nat) (λk=>[(5,.int .i64 (k:Int)),(0,v),(1,u)]) (λ_=>[]) (λ_=>[ge h0,sI v l,sI u m]) (λk=>k<=l.length/\∀j,j<k->l.getD j 0=m.getD j 0) (λk=>l.length-k) 0 ⟨Nat.zero_le _,λj h=>by omega⟩ ?_;rintro k ⟨hk,hn⟩;by_cases hlt:k<l.length
  ·by_cases he:l.getD k 0=m.getD k 0
   ·repeat'(first|intro(g:Nat)|refine d13 ?_|intro v)
    refine Qq.mk (k+1) ⟨by omega,λj hj=>?_⟩ (by show l.length-(k+1)<l.length-k;omega);by_cases hjk:j=k
    ·subst hjk;exact he
    ·exact hn j qo
   ·repeat'(first|intro(g:Nat)|refine d13 ?_|intro v)
    exact WC.ret (Fin.v (Qh.t1 rfl rfl) meA (by rw[decide_eq_false];rintro rfl;exact he rfl))
  ·repeat'(first|intro(g:Nat)|refine d13 ?_|intro v)
   exact WC.ret (Fin.v (Qh.t1 rfl rfl) meA (by rw[decide_eq_true];exact Hu hl (λj hj=>hn j qo)))
 ·have hl':(l.length:Int)≠m.length:=qo;repeat'(first|intro(g:Nat)|refine d13 ?_|intro v)
  exact WC.ret (Fin.v (Qh.t1 rfl rfl) meA (by rw[decide_eq_false];rintro rfl;exact hl rfl))
def before_c(v u:Value)(l m:List Int):FnB Tryz.prog 34 [v,u] [] [sI v l,sI u m] (IsV (.bool (Fx.before l m))):=by
 refine fO [(0,v),(1,u)] 40 Tryz.func34 Tryz.ntmps34 λh0=>?_;refine WC.K5 v l hmA λhlen=>?_;by_cases hl:l.length=m.length
 ·have hb:Fx.before l m=Fx.lexlt l m:=if_pos hl;rw[hb];repeat'(first|intro(g:Nat)|refine d34 ?_|intro v)
  refine WC.lp (σ:=Nat) (λk=>[(5,.int .i64 (k:Int)),(0,v),(1,u)]) (λ_=>[]) (λ_=>[ge h0,sI v l,sI u m]) (λk=>k<=l.length/\∀j,j<k->l.getD j 0=m.getD j 0) (λk=>l.length-k) 0 ⟨Nat.zero_le _,λj h=>by omega⟩ ?_;rintro k ⟨hk,hn⟩;by_cases hlt:k<l.length
  ·by_cases he:l.getD k 0=m.getD k 0
   ·repeat'(first|intro(g:Nat)|refine d34 ?_|intro v)
    refine Qq.mk (k+1) ⟨by omega,λj hj=>?_⟩ (by show l.length-(k+1)<l.length-k;omega);by_cases hjk:j=k
    ·subst hjk;exact he
    ·exact hn j qo
   ·have hx:=lex_at k l m hl hn hlt he;by_cases hq:l.getD k 0<m.getD k 0
    ·repeat'(first|intro(g:Nat)|refine d34 ?_|intro v)
     exact WC.ret (Fin.v (Qh.t1 rfl rfl) meA (by rw[hx,decide_eq_true hq]))
    ·repeat'(first|intro(g:Nat)|refine d34 ?_|intro v)
     exact WC.ret (Fin.v (Qh.t1 rfl rfl) meA (by rw[hx,decide_eq_false hq]))
  ·obtain rfl:=Hu hl (λj hj=>hn j qo);repeat'(first|intro(g:Nat)|refine d34 ?_|intro v)
   exact WC.ret (Fin.v (Qh.t1 rfl rfl) meA (by rw[lex_same]))
 ·have hb:Fx.before l m=decide (l.length<m.length):=if_neg hl;rw[hb];by_cases hq:l.length<m.length
  ·repeat'(first|intro(g:Nat)|refine d34 ?_|intro v)
   exact WC.ret (Fin.v (Qh.t1 rfl rfl) meA (by rw[decide_eq_true hq]))
  ·repeat'(first|intro(g:Nat)|refine d34 ?_|intro v)
   exact WC.ret (Fin.v (Qh.t1 rfl rfl) meA (by rw[decide_eq_false hq]))
def V8(b n:Nat)(hb:b<=256)(hn:n<=8):FnB Tryz.prog 33 [.int .i64 (b:Int),.int .i64 (n:Int)] [] [] (IsO 3 1 (ints (Fx.numbers b n))):=by
 refine fO [(0,(.int .i64 (b:Int))),(1,(.int .i64 (n:Int)))] 23 Tryz.func33 Tryz.ntmps33 λh0=>?_;refine WC.Q8 3 1 ?_;repeat'(first|intro(g:Nat)|refine gP ?_|intro v)
 refine WC.Xd (σ:=Value) (λv=>[(5,v)]) (λv=>[Ow.slice v 3 1 (ints (Fx.numbers b n))]) (λ_=>[ge h0]) (λ_=>True) ?_ ?_
 ·refine WC.lp (σ:=Nat×Value) (λst=>[(6,.int .i64 (st.1:Int)),(5,st.2),(0,.int .i64 (b:Int)),(1,.int .i64 (n:Int))]) (λst=>[Ow.slice st.2 3 1 (ints (Fx.numbers b st.1))]) (λ_=>[ge h0]) (λst=>st.1<=n) (λst=>n-st.1) (0,.slice none 0 0) (Nat.zero_le _) ?_;rintro⟨k,v⟩ hk;simp only at hk ⊢;have hnl:=num_le b k;by_cases d:k<n
  ·have he:((b:Int)/2^((k:Int)).toNat)=((b/2^k:Nat):Int):=by simp
   have hu:Fx.numbers b (k+1)=Fx.numbers b k++if b/2^k%2=1 then[(k:Int)] else[]:=rfl;obtain⟨q,hq⟩:∃q,b/2^k=q:=⟨_,rfl⟩
   have hq2:q<=b:=by rw[<-hq];exact Nat.div_le_self _ _
   rw[hq] at he hu;repeat'(first|intro(g:Nat)|refine gP ?_|intro v)
   rw[he];by_cases c:q%2=1
   ·rw[if_pos c] at hu;repeat'(first|intro(g:Nat)|refine gP ?_|intro v)
    refine Qq.mk (k+1,_) (by simp only;omega) (by simp only;omega) (hB:=?_);simp only;rw[hu,<-Xb];exact slA
   ·rw[if_neg c,List.append_nil] at hu;repeat'(first|intro(g:Nat)|refine gP ?_|intro v)
    refine Qq.mk (k+1,v) (by simp only;omega) (by simp only;omega) (hB:=?_);simp only;rw[hu];exact slA
  ·obtain rfl:k=n:=qo;repeat'(first|intro(g:Nat)|refine gP ?_|intro v)
   exact QG v trivial
 intro v _;repeat'(first|intro(g:Nat)|refine gP ?_|intro v)
 refine WC.ret ?_;exact Fin.o (Qh.t1 rfl rfl) meA meA rfl
end Y
end Q
end K
end
section
open W Go.RowKit
open Bl (Vc Bd Tc Sc)
def IsSetsF(C:List (List Int)):Qg:=λv B G=>∃ms,B=[]/\G=[lF Qn v C.length ms (sl C)]
def UT(s:List Int)(C:List (List Int)):∀k,Fx.place s C k<=k
 |0=>Nat.le_refl _
 |k+1=>by
  have:=UT s C k;unfold Fx.place;split<;>omega
def insertS_len(C:List (List Int))(s:List Int):(Fx.JH C s).length=C.length+1:=by
 have:=UT s C C.length;unfold Fx.JH;rw[List.length_append,List.length_take,List.length_cons,List.length_drop];omega
def Hv(n:Nat)(most:Int):∀b,(Fx.QS n most b).length<=b
 |0=>by simp[Fx.QS]
 |b+1=>by
  have:=Hv n most b;unfold Fx.QS;simp only;split
  ·omega
  ·rw[insertS_len];omega
section
variable {F:List Fct}{v:Value}{C:List (List Int)}{ms:Nat->Value}{k:Nat}
def VR(h:W.Has F (lF Qn v C.length ms (sl C)))(hk:k<=C.length):W.Has F (lF Qn (resl v 0 k 1) (C.take k).length ms (sl (C.take k))):=λp hf=>by
 obtain⟨h1,h2⟩:=W.Has.takeL (S:=Qn) h hk p hf;rw[List.length_take,Nat.min_eq_left hk];refine⟨Yh h1 λj _=>row1.trans row1.symm,λq hq=>?_⟩;have h3:=h2 q hq;rw[sl,List.getD_eq_getElem?_getD,List.getElem?_take,if_pos hq,<-List.getD_eq_getElem?_getD];exact h3
def VO(h:W.Has F (lF Qn v C.length ms (sl C)))(hk:k<=C.length):W.Has F (lF Qn (resl v k C.length 1) (C.drop k).length (λq=>ms (k+q)) (sl (C.drop k))):=λp hf=>by
 obtain⟨h1,h2⟩:=h p hf;rw[List.length_drop];have h3:=YM (lo:=k) h1 hk (Nat.le_refl _);refine⟨Yh h3 λj _=>by rw[row1,row1,Nat.mul_one],λq hq=>?_⟩;have h4:=h2 (k+q) qo;rw[sl,List.getD_eq_getElem?_getD,List.getElem?_drop,<-List.getD_eq_getElem?_getD];exact h4
end
namespace K
namespace Q
namespace Y
attribute [local irreducible] WC WL WD YO LO Qq W.Fin Qk Qw Qj Row QJ Qv KnS Has W.One Qa Qs
def d12{G G':Prop}(h:G')(s:Bx G'->G:=by
 intro h;first|refine gE ?_|refine goYL ?_|(apply WC.draw (id:=12) [1,2,3,5,8,9,10] (.h 1<|.h 2<|.h 3<|.h 5<|.h 8<|.h 9<|.h 10<|.m 0 (.m 4 (.l 6<|.l 7<|.l 11<|.f 12 .done) (.l 6<|.l 4<|.l 7<|.l 11<|.f 12 .done)) (.l 6<|.l 0<|.l 4<|.l 7<|.l 11<|.f 12 .done)) mixed kr)|fail
 exact Bx.h h):G:=s ⟨h⟩
def rsets_c(n most:Int)(hn:I64 n)(hm:I64 most):FnB Tryz.prog 12 [.int .i64 n,.int .i64 most] [] [] (IsSetsF (Fx.Hw n most)):=by
 obtain⟨hn1,hn2⟩:=hn;obtain⟨hm1,hm2⟩:=hm;refine fO [(0,(.int .i64 n)),(1,(.int .i64 most))] 57 Tryz.func12 Tryz.ntmps12 λh0=>?_;by_cases h:n<0\/8<n
 ·have hz:Fx.Hw n most=[]:=if_pos qo;rw[hz];rcases h with h|h
  ·repeat'(first|intro(g:Nat)|refine d12 ?_|refine gN ?_ ?_|intro v)
   refine WC.ret ?_;exact Fp [lF Qn (.slice none 0 0) 0 (λ_=>.slice none 0 0) (sl [])] (Qh.t1 rfl rfl) (.cons W.Has.lnil .nil) ⟨_,rfl,rfl⟩
  ·repeat'(first|intro(g:Nat)|refine d12 ?_|refine gN ?_ ?_|intro v)
   refine WC.ret ?_;exact Fp [lF Qn (.slice none 0 0) 0 (λ_=>.slice none 0 0) (sl [])] (Qh.t1 rfl rfl) (.cons W.Has.lnil .nil) ⟨_,rfl,rfl⟩
 obtain⟨N,rfl⟩:∃N:Nat,n=(N:Int):=⟨n.toNat,by omega⟩
 have hN:N<=8:=qo;have hz:Fx.Hw (N:Int) most=Fx.QS N most (2^N):=if_neg qo;rw[hz];have h256:2^N<=2^8:=Nat.pow_le_pow_right qd hN;generalize hQ:2^N=Q at *;refine WC.Q8 28 1 ?_;repeat'(first|intro(g:Nat)|refine d12 ?_|refine gN ?_ ?_|intro v)
 refine WC.Xd (σ:=Value×(Nat->Value)) (λst=>[(5,st.1)]) (λst=>[lO Qn st.1 28 (Fx.QS N most Q).length st.2 (sl (Fx.QS N most Q))]) (λst=>[lM Qn (Fx.QS N most Q).length st.2 (sl (Fx.QS N most Q)),ge h0]) (λ_=>True) ?_ ?_
 ·refine WC.lp (σ:=Nat×Value×(Nat->Value)) (λst=>[(6,.int .i64 (st.1:Int)),(5,st.2.1),(0,.int .i64 (N:Int)),(1,.int .i64 most)]) (λst=>[lO Qn st.2.1 28 (Fx.QS N most st.1).length st.2.2 (sl (Fx.QS N most st.1))]) (λst=>[lM Qn (Fx.QS N most st.1).length st.2.2 (sl (Fx.QS N most st.1)),ge h0]) (λst=>st.1<=Q) (λst=>Q-st.1) (0,.slice none 0 0,λ_=>.slice none 0 0) (Nat.zero_le _) ?_ (hG:=.cons W.Has.HS haA);rintro⟨b,ov,om⟩ hb;simp only at hb ⊢;have hle:=Hv N most b;have hu:Fx.QS N most (b+1)=if((Fx.numbers b N).length:Int) > most then Fx.QS N most b else Fx.JH (Fx.QS N most b) (Fx.numbers b N):=rfl;generalize hC:Fx.QS N most b=C at *;by_cases d:b<Q
  ·repeat'(first|intro(g:Nat)|refine d12 ?_|refine gN ?_ ?_|intro v)
   rw[hQ];repeat'(first|intro(g:Nat)|refine d12 ?_|refine gN ?_ ?_|intro v)
   first|refine WL.callO (V8 b N qo hN) (λrv=>?_)|refine WD.callO (V8 b N qo hN) (λrv=>?_)
   have hnl:=num_le b N;generalize hs:Fx.numbers b N=s at *;refine WL.QD (v:=rv) (l:=s) (by repeat(first|exact Sel.head|apply Sel.tail)) ?_;by_cases c:(s.length:Int) > most
   ·rw[if_pos c] at hu;repeat'(first|intro(g:Nat)|refine d12 ?_|refine gN ?_ ?_|intro v)
    refine Qq.mk (b+1,ov,om) (by simp only;omega) (by simp only;omega) (hB:=by simp only;rw[hu];exact slA) (hG:=by simp only;rw[hu];exact haA)
   ·rw[if_neg c] at hu;repeat'(first|intro(g:Nat)|refine d12 ?_|refine gN ?_ ?_|intro v)
    refine WC.Q3 (S:=Qn) (v:=ov) (n:=C.length) (ms:=om) (xs:=sl C) (by repeat(first|exact Sel.head|apply Sel.tail)) hmA ?_;refine WC.Xd (σ:=Nat) (λk=>[(8,.int .i64 (k:Int)),(7,rv),(6,.int .i64 (b:Int)),(5,ov),(0,.int .i64 (N:Int)),(1,.int .i64 most)]) (λ_=>[]) (λ_=>[lF Qn ov C.length om (sl C),sI rv s,ge h0]) (λk=>k=Fx.place s C C.length) ?_ ?_
    ·refine WC.lp (σ:=Nat) (λk=>[(8,.int .i64 (k:Int)),(7,rv),(6,.int .i64 (b:Int)),(5,ov),(0,.int .i64 (N:Int)),(1,.int .i64 most)]) (λ_=>[]) (λ_=>[lF Qn ov C.length om (sl C),sI rv s,ge h0]) (λk=>k<=C.length/\Fx.place s C C.length=Fx.place s C k) (λk=>k) C.length ⟨Nat.le_refl _,rfl⟩ ?_;rintro k ⟨hk,hp⟩;cases k with
     |zero=>
      repeat'(first|intro(g:Nat)|refine d12 ?_|refine gN ?_ ?_|intro v)
      exact QG 0 hp.symm
     |succ j=>
      have hj:(((j+1:Nat):Int)-1).toNat=j:=qo;have hpl:Fx.place s C (j+1)=if Fx.before s (C.getD j []) then Fx.place s C j else j+1:=rfl;refine WC.fact (sI (om j) (sl C j)) (W.Has.lk (S:=Qn) (v:=ov) (ms:=om) (xs:=sl C) hmA qo) ?_;repeat'(first|intro(g:Nat)|refine d12 ?_|refine gN ?_ ?_|intro v)
      rw[hj];refine cV (before_c rv (om j) s (sl C j)) ?_;cases hq:Fx.before s (sl C j) with
      |true=>
       rw[if_pos hq] at hpl;repeat'(first|intro(g:Nat)|refine d12 ?_|refine gN ?_ ?_|intro v)
       rw[show(((j+1:Nat):Int)-1)=(j:Int) by omega];exact Qq.mk j ⟨by omega,hp.trans hpl⟩ qo
      |false=>
       rw[if_neg (by show ¬Fx.before s (sl C j)=true;rw[hq];decide)] at hpl;repeat'(first|intro(g:Nat)|refine d12 ?_|refine gN ?_ ?_|intro v)
       exact QG (j+1) (hp.trans hpl).symm
    rintro k hk;have hkl:k<=C.length:=hk ▸ UT s C C.length;refine WC.fact (lF Qn (resl ov 0 k 1) (C.take k).length om (sl (C.take k))) (VR hmA hkl) ?_;refine WC.fact (lF Qn (resl ov k C.length 1) (C.drop k).length (λq=>om (k+q)) (sl (C.drop k))) (VO (v:=ov) (ms:=om) hmA hkl) ?_;have hl1:(C.take k).length<=300:=by rw[List.length_take];omega
    have hl2:(C.drop k).length<=300:=by rw[List.length_drop];omega
    have hl3:(C.take k++[s]).length<=301:=by rw[List.length_append,List.length_singleton];omega
    have hins:C.take k++[s]++C.drop k=Fx.JH C s:=by rw[hk];unfold Fx.JH;rw[List.append_assoc];rfl
    have hlm:∀F,W.Has F (lF Qn ov C.length om (sl C))->W.Has F (sI rv s)->W.Has F (lM Qn (C.take k++[s]++C.drop k).length (YV (C.take k++[s]).length (upd om (C.take k).length rv) (λq=>om (k+q))) (sl (C.take k++[s]++C.drop k))):=λF h1 h2=>
     lM_cat (S:=Qn) (lM_snoc (S:=Qn) (VR h1 hkl).lm h2) (VO h1 hkl).lm
    repeat'(first|intro(g:Nat)|refine d12 ?_|refine gN ?_ ?_|intro v)
    all_goals
     rw[hins];refine Qq.mk (b+1,_,YV (C.take k++[s]).length (upd om (C.take k).length rv) (λq=>om (k+q))) (by simp only;omega) (by simp only;omega) (hB:=by simp only;rw[hu];exact slA) (hG:=.cons (by simp only;rw[hu,<-hins];exact hlm _ hmA hmA) haA)
  ·obtain rfl:b=Q:=qo;repeat'(first|intro(g:Nat)|refine d12 ?_|refine gN ?_ ?_|intro v)
   rw[hQ];repeat'(first|intro(g:Nat)|refine d12 ?_|refine gN ?_ ?_|intro v)
   rw[hC];exact QG (ov,om) trivial
 rintro⟨ov,om⟩ _;simp only;refine WC.Q3 (S:=Qn) (v:=ov) (n:=(Fx.QS N most Q).length) (ms:=om) (xs:=sl (Fx.QS N most Q)) (by repeat(first|exact Sel.head|apply Sel.tail)) hmA ?_;repeat'(first|intro(g:Nat)|refine d12 ?_|refine gN ?_ ?_|intro v)
 refine WC.ret ?_;exact Fp [_] (Qh.t1 rfl rfl) sfA ⟨om,rfl,rfl⟩
end Y
end Q
end K
end
section
open W Go.RowKit
open Bl (Vc Bd Tc Sc)
def lt18{a:Int}(h1:-100000<=a)(h2:a<=100000):a.natAbs<1000000000000000000:=qo
def Fr.sq{D A:Nat}{q:Rat}(h:Fr D A q)(hD:D≠0)(h1:D<1000000000)(h2:A<1000000000):Sq 1 q:=by
 obtain⟨a,rfl,h3⟩:=h.mkr hD;refine di_num a D hD ?_ ?_
 ·by_cases c:a.natAbs=0
  ·rw[c,Jq];exact Nat.zero_le _
  ·rw[Jl qo qo];exact Nat.le_refl _
 ·rw[Jl qo h1];exact Nat.le_refl _
def Fv.sv{D A:Nat}{a:Vc}(h:Fv D A a)(hD:D≠0)(h1:D<1000000000)(h2:A<1000000000):Sv 1 a:=⟨h.1.sq hD h1 h2,h.2.sq hD h1 h2⟩
def Fs.ss{D A:Nat}{S:Sc}(h:Bl.Fs D A S)(hD:D≠0)(h1:D<1000000000)(h2:A<1000000000):Ss 1 S:=
 ⟨λi hi=>let ⟨a,b,c,d⟩:=h.B i hi;⟨a.sv hD h1 h2,b.sq hD h1 h2,c.sq hD h1 h2,d.sq hD h1 h2⟩,λj hj=>let ⟨a,b,c,d⟩:=h.T j hj;⟨a.sv hD h1 h2,b.sv hD h1 h2,c.sv hD h1 h2,d.sq hD h1 h2⟩⟩
end
section
open W Go.RowKit
open Bl (Vc Bd Tc Sc)
def cells_B1{bm:BM}{b:Bd}:bcs bm=Qt XU 1 (λ_=>bm) (λ_=>b):=Yj (S:=XU) (n:=0) (ms:=λ_=>bm) (xs:=λ_=>b)
def has_lM1{M α:Type}{S:Shp M α}{F:List Fct}{m:M}{x:α}(h:W.Has F (S.fc m x)):W.Has F (lM S 1 (λ_=>m) λ_=>x):=λp hf i _=>h p hf
end
section
namespace Fx
open Bl X
def exB_ok:BdOk exB/\BdF 2 20 exB:=⟨⟨by decide +kernel,by decide +kernel,by decide +kernel⟩,⟨(Fr.int (A:=1) 1 qd).sc' (c:=2) rfl qd,(Fr.int (A:=1) 1 qd).sc' (c:=2) rfl qd⟩,(Fr.of (a:=1) (D:=1) (A:=1) qd qd).sc' (D:=1) (A:=1) (c:=2) rfl qd,(Fr.of (a:=2) (D:=1) (A:=2) qd qd).sc' (D:=1) (A:=2) (c:=2) rfl qd,(Fr.of (a:=10) (D:=1) (A:=10) qd qd).sc' (D:=1) (A:=10) (c:=2) rfl qd⟩
def supT_ok{a b:Int}(ha:a.natAbs<=20)(hb:b.natAbs<=20):Hn 1 (QR a b)/\TcF 2 20 (QR a b):=by
 refine⟨⟨by show(0:Int)<=0;decide,by show(0:Int)<1;decide,by show(-1:Int)<=-1;decide,by show(-1:Int)<1;decide,by show(0:Int)≠-1;decide,by show(0:Rat)<=0;decide,λh=>absurd h.2 (by show ¬((1:Int):Rat)=0;decide),?_⟩,⟨(Fr.of (D:=2) qd ha),Fr.zero⟩,⟨(Fr.of (D:=2) qd hb),Fr.zero⟩,⟨(Fr.int (A:=0) 0 qd).sc' (c:=2) rfl qd,(Fr.int (A:=1) 1 qd).sc' (c:=2) rfl qd⟩,Fr.zero⟩;show((0:Int):Rat)*_+((1:Int):Rat)*((0:Rat)-0)=0;grind
def HY:(∀p∈exP,∀x∈p,Hn 1 x/\TcF 2 20 x)/\∀p∈Y9,∀x∈p,Hn 1 x/\TcF 2 20 x:=by
 have s:∀{a b:Int},a.natAbs<=20->b.natAbs<=20->∀x∈[QR a b],Hn 1 x/\TcF 2 20 x:=λha hb x hx=>by
  rw[List.mem_singleton.1 hx];exact supT_ok ha hb
 refine⟨λp hp=>?_,λp hp=>?_⟩
 ·rcases List.mem_cons.1 hp with rfl|hp
  ·exact s qd qd
  ·rcases List.mem_cons.1 hp with rfl|hp
   ·exact s qd qd
   ·rw[List.mem_singleton.1 hp];exact s qd qd
 ·rcases List.mem_cons.1 hp with rfl|hp
  ·exact s qd qd
  ·rw[List.mem_singleton.1 hp];exact s qd qd
def ex_ok{ps:List (List Tc)}(h:∀p∈ps,∀x∈p,Hn 1 x/\TcF 2 20 x){s:List Int}(hl:(QK [] ps s).length<=10):(scL 1 (λ_=>exB) (QR 0 0) (QK [] ps s)).ok/\Fs 2 20 (scL 1 (λ_=>exB) (QR 0 0) (QK [] ps s)):=by
 have h3:=touches_all (λx hx=>(List.not_mem_nil hx).elim) h s;exact⟨scL_ok qd hl (λ_ _=>exB_ok.1) λx hx=>(h3 x hx).1,scL_fs (λ_ _=>exB_ok.2) λx hx=>(h3 x hx).2⟩
end Fx
end
section
open W Go.RowKit
open Bl (Vc Bd Tc Sc)
def IsSup(a b:Int):Qg:=λv B G=>∃tm:Nat->ToM,B=[]/\G=[lF Qo v [Fx.QR a b].length tm (tl [Fx.QR a b])]
def pm3{α:Type}(a b c:α)(j:Nat):α:=if j=0 then a else if j=1 then b else c
section
variable {e:Env}{bx:List Ow}{F:List Fct}{ty:TypeId}{x y z:Operand}{K:Qg}
def y_vecX{m:QM}(hx:ev e x=some (qv m)):YO Tryz.prog (.build 77 #[(0,x)]) ty e bx F (vv (m,m00)):=YO.build (parts:=[(0,x)]) (.cons hx .nil) λ_=>by kernel_rfl
def y_sup{v1 v2 v3:VM}{a b:Int}(h1:ev e x=some (vv v1))(h2:ev e y=some (vv v2))(h3:ev e z=some (vv v3)):YO Tryz.prog (.build 93 #[(0,.const (.int .i64 0)),(1,.const (.int .i64 (-1))),(2,x),(3,y),(4,z)]) ty e bx F (tv ⟨v1,v2,v3,m00⟩ (Fx.QR a b)):=
 YO.build (parts:=[(0,.const (.int .i64 0)),(1,.const (.int .i64 (-1))),(2,x),(3,y),(4,z)]) (.cons rfl (.cons rfl (.cons h1 (.cons h2 (.cons h3 .nil))))) λ_=>by kernel_rfl
def LO.bsTL{tm:ToM}{tc:Tc}(hx:ev e x=some (tv tm tc))(h:∀v,K v (lO Qo v 93 [tc].length (λ_=>tm) (tl [tc])::bx) F):LO Tryz.prog (.buildSlice 32 1 #[(0,x)]) ty e bx F K:=
 LO.bsT1 (tm:=tm) (tc:=tc) hx λv=>by
  have h1:=h v
  have h2:Qt Qo 1 (λ_=>tm) (λ_=>tc)=Qt Qo [tc].length (λ_=>tm) (tl [tc]):=lcells_lt λj hj=>by
   obtain rfl:j=0:=qo;rfl
  unfold lO at h1 ⊢;rw[h2];exact h1
def has_sup{v1 v2 v3:VM}{a b:Int}(h1:W.Has F (fV v1 ⟨Rat.divInt a 2,0⟩))(h2:W.Has F (fV v2 ⟨Rat.divInt b 2,0⟩))(h3:W.Has F (fV v3 ⟨((0:Int):Rat),((1:Int):Rat)⟩)):W.Has F (lM Qo [Fx.QR a b].length (λ_=>(⟨v1,v2,v3,m00⟩:ToM)) (tl [Fx.QR a b])):=λp hf i hi=>by
 obtain rfl:i=0:=by have:i<1:=hi;omega
 exact⟨h1 p hf,h2 p hf,h3 p hf,Jm p hf⟩
def has_vec1{m:QM}{q:Rat}(h:W.Has F (isQ (qv m) q)):W.Has F (fV (m,m00) ⟨q,0⟩):=λp hf=>⟨h p hf,Jm p hf⟩
end
namespace K
namespace Q
namespace Y
attribute [local irreducible] WC WL WD YO LO Qq W.Fin Qk Qw Qj Row QJ Qv KnS Has W.One Qa Qs
def KV(a b:Int)(ha:a.natAbs<=100)(hb:b.natAbs<=100):FnB Tryz.prog 35 [.int .i64 a,.int .i64 b] [] [] (IsSup a b):=by
 refine fO [(0,(.int .i64 a)),(1,(.int .i64 b))] 14 Tryz.func35 Tryz.ntmps35 λh0=>?_;repeat'(first|intro(g:Nat)|refine gP ?_|intro v)
 refine cW (Zn.rof a 2 (lt18 qo qo) qd) λn1=>?_;refine WL.y (y_vecX (m:=n1) rfl) qr qr ?_;refine WL.QE (fV (n1,m00) ⟨Rat.divInt a 2,0⟩) (has_vec1 hmA) ?_;repeat'(first|intro(g:Nat)|refine gP ?_|intro v)
 refine cW (Zn.rof b 2 (lt18 qo qo) qd) λn2=>?_;refine WL.y (y_vecX (m:=n2) rfl) qr qr ?_;refine WL.QE (fV (n2,m00) ⟨Rat.divInt b 2,0⟩) (has_vec1 hmA) ?_;repeat'(first|intro(g:Nat)|refine gP ?_|intro v)
 refine cW (vof_c 0 1 qd qd) λv3=>?_;refine WL.y (y_sup (v1:=(n1,m00)) (v2:=(n2,m00)) (v3:=v3) (a:=a) (b:=b) rfl rfl rfl) qr qr ?_;refine WL.l rfl rfl (LO.bsTL (tm:=⟨(n1,m00),(n2,m00),v3,m00⟩) (tc:=Fx.QR a b) rfl λv13=>?_);refine WL.Q3 (S:=Qo) (v:=v13) (n:=[Fx.QR a b].length) (ms:=λ_=>⟨(n1,m00),(n2,m00),v3,m00⟩) (xs:=tl [Fx.QR a b]) (by repeat(first|exact Sel.head|apply Sel.tail)) (has_sup hmA hmA hmA) ?_;repeat'(first|intro(g:Nat)|refine gP ?_|intro v)
 refine WC.ret ?_;exact Fp [_] (Qh.t1 rfl rfl) (.cons hmA .nil) ⟨_,rfl,rfl⟩
end Y
end Q
end K
end
section
open W Go.RowKit
open Bl (Vc Bd Tc Sc)
abbrev Kl:Nat->Bd:=λ_=>Fx.exB
def ex_hS{ps:List (List Tc)}{m:Int}(h:∀p∈ps,∀x∈p,Bl.Hn 1 x/\Fx.TcF 2 20 x):∀s∈Fx.QX [] ps m,(scP 1 Kl [] ps s).ok/\Ss 1 (scP 1 Kl [] ps s):=λs hs=>by
 obtain⟨h1,h2⟩:=Fx.ex_ok h (Fx.cand_ten hs);exact⟨h1,Fs.ss h2 qd qd qd⟩
def ex_y(m:Nat)(hm:m<=2):(6*1+6*m+1)*(nL (6*1+6*m+1)+nK (6*1+6*m+1)+1+22)+(nL (6*1+6*m+1)+nK (6*1+6*m+1)+1)+30<=400000000/\6*1+6*m+1<=1000:=by
 have:m=0\/m=1\/m=2:=qo;rcases this with rfl|rfl|rfl<;>decide
def ex_hY:∀s∈Fx.QX [] Fx.exP 2,(6*1+6*(scP 1 Kl [] Fx.exP s).m+1)*(yB (scP 1 Kl [] Fx.exP s)+22)+yB (scP 1 Kl [] Fx.exP s)+30<=400000000/\(Bl.lp (scP 1 Kl [] Fx.exP s) ((scP 1 Kl [] Fx.exP s).wt 0)).m<=1000:=λs hs=>by
 rw[Fx.Ya.1] at hs
 have hm:(scP 1 Kl [] Fx.exP s).m<=2:=by
  show(Fx.QK [] Fx.exP s).length<=2;simp only[List.mem_cons,List.not_mem_nil,or_false] at hs;rcases hs with rfl|rfl|rfl|rfl|rfl|rfl|rfl<;>decide
 exact ex_y _ hm
def ex_P:(∀p∈Fx.exP,p.length<=100)/\∀p∈Fx.Y9,p.length<=100:=by
 constructor
 ·intro p hp;simp only[Fx.exP,List.mem_cons,List.not_mem_nil,or_false] at hp;rcases hp with rfl|rfl|rfl<;>decide
 ·intro p hp;simp only[Fx.Y9,List.mem_cons,List.not_mem_nil,or_false] at hp;rcases hp with rfl|rfl<;>decide
section
variable {e:Env}{bx:List Ow}{F:List Fct}{ty:TypeId}{x y z:Operand}{K:Qg}
def LO.bsP3{v0 v1 v2:Value}{n0 n1 n2:Nat}{t0 t1 t2:Nat->ToM}{xs:Nat->List Tc}(h0:ev e x=some v0)(h1:ev e y=some v1)(h2:ev e z=some v2)(k0:KnS bx F v0 n0)(k1:KnS bx F v1 n1)(k2:KnS bx F v2 n2)
  (h:∀u,K u (lO tlS u 32 3 (pm3 (v0,t0) (v1,t1) (v2,t2)) xs::bx) F):LO Tryz.prog (.buildSlice 33 3 #[(0,x),(1,y),(2,z)]) ty e bx F K:=by
 refine LO.byP (p:=(∃a d,v0=.slice a n0 d)/\(∃a d,v1=.slice a n1 d)/\∃a d,v2=.slice a n2 d) (λfr w' ho=>?_) ?_
 ·obtain⟨a0,c0,e0,_⟩:=(k0 fr w' ho).is;obtain⟨a1,c1,e1,_⟩:=(k1 fr w' ho).is;obtain⟨a2,c2,e2,_⟩:=(k2 fr w' ho).is;exact⟨⟨a0,c0,e0⟩,⟨a1,c1,e1⟩,⟨a2,c2,e2⟩⟩
 rintro⟨⟨a0,c0,rfl⟩,⟨a1,c1,rfl⟩,⟨a2,c2,rfl⟩⟩;exact LO.buildSlice (el:=32) (sz:=1) (parts:=[(0,x),(1,y),(2,z)]) (us:=[.slice a0 n0 c0,.slice a1 n1 c1,.slice a2 n2 c2]) (cs:=[.slice a0 n0 c0,.slice a1 n1 c1,.slice a2 n2 c2]) (.cons h0 (.cons h1 (.cons h2 .nil))) (λ_=>by kernel_rfl) rfl qd h
def has_ex{v0 v1 v2:Value}{t0 t1 t2:Nat->ToM}(h0:W.Has F (lF Qo v0 [Fx.QR 0 1].length t0 (tl [Fx.QR 0 1])))(h1:W.Has F (lF Qo v1 [Fx.QR 3 4].length t1 (tl [Fx.QR 3 4])))(h2:W.Has F (lF Qo v2 [Fx.QR 1 3].length t2 (tl [Fx.QR 1 3]))):W.Has F (lM tlS 3 (pm3 (v0,t0) (v1,t1) (v2,t2)) (pl Fx.exP)):=λp hf i hi=>by
 match i,hi with
 |0,_=>exact h0 p hf
 |1,_=>exact h1 p hf
 |2,_=>exact h2 p hf
def has_ex2{u:Value}{pm:Nat->Value×(Nat->ToM)}(h:W.Has F (lF tlS u 3 pm (pl Fx.exP))):W.Has F (lF tlS (resl u 0 2 1) 2 pm (pl Fx.Y9)):=λp hf=>by
 obtain⟨h1,h2⟩:=W.Has.takeL (S:=tlS) h (show 2<=3 by decide) p hf;refine⟨Yh h1 λj _=>rfl,λq hq=>?_⟩;have h3:=h2 q hq;match q,hq with
 |0,_=>exact h3
 |1,_=>exact h3
end
namespace K
namespace Q
namespace Y
attribute [local irreducible] WC WL WD YO LO Qq W.Fin Qk Qw Qj Row QJ Qv KnS Has W.One Qa Qs
def lives_c:FnB Tryz.prog 14 [] [] [isX Tryz.prog] (IsV (.bool true)):=by
 refine fO [] 94 Tryz.func14 Tryz.ntmps14 λh0=>?_;repeat'(first|intro(g:Nat)|refine gP ?_|intro v)
 refine cW (vof_c 1 1 qd qd) λm10=>?_;repeat'(first|intro(g:Nat)|refine gP ?_|intro v)
 refine cW (Zn.rof 1 1 qd qd) λn11=>?_;repeat'(first|intro(g:Nat)|refine gP ?_|intro v)
 refine cW (Zn.rof 2 1 qd qd) λn12=>?_;repeat'(first|intro(g:Nat)|refine gP ?_|intro v)
 refine cW (Zn.rof 10 1 qd qd) λn13=>?_;repeat'(first|intro(g:Nat)|refine gP ?_|intro v)
 revert v;intro bl;rw[cells_B1 (bm:=⟨m10,n11,n12,n13⟩) (b:=Fx.exB)];refine WL.Q3 (S:=XU) (v:=bl) (n:=1) (ms:=λ_=>⟨m10,n11,n12,n13⟩) (xs:=Kl) (by repeat(first|exact Sel.head|apply Sel.tail)) (has_lM1 (S:=XU) (m:=⟨m10,n11,n12,n13⟩) (x:=Fx.exB) (W.Has.bof (bm:=⟨m10,n11,n12,n13⟩) (b:=Fx.exB) hmA hmA hmA hmA)) ?_;repeat'(first|intro(g:Nat)|refine gP ?_|intro v)
 refine cK (KV 0 1 qd qd) ?_;rintro v16 _ _ ⟨t0,rfl,rfl⟩;refine sNn ?_;repeat'(first|intro(g:Nat)|refine gP ?_|intro v)
 refine cK (KV 3 4 qd qd) ?_;rintro v17 _ _ ⟨t1,rfl,rfl⟩;refine sNn ?_;repeat'(first|intro(g:Nat)|refine gP ?_|intro v)
 refine cK (KV 1 3 qd qd) ?_;rintro v18 _ _ ⟨t2,rfl,rfl⟩;refine sNn ?_;refine WL.l rfl rfl (LO.bsP3 (t0:=t0) (t1:=t1) (t2:=t2) (xs:=pl Fx.exP) rfl rfl rfl (KnS.lf (S:=Qo) (v:=v16) hmA) (KnS.lf (S:=Qo) (v:=v17) hmA) (KnS.lf (S:=Qo) (v:=v18) hmA) λpv=>?_);refine WL.Q3 (S:=tlS) (v:=pv) (n:=3) (ms:=pm3 (v16,t0) (v17,t1) (v18,t2)) (xs:=pl Fx.exP) (by repeat(first|exact Sel.head|apply Sel.tail)) (has_ex hmA hmA hmA) ?_;generalize hpm:pm3 (v16,t0) (v17,t1) (v18,t2)=pm;refine WL.QE (lF tlS (resl pv 0 2 1) 2 pm (pl Fx.Y9)) (has_ex2 hmA) ?_;refine WL.QE (lF Qo (.slice none 0 0) 0 t0 (tl [])) W.Has.lnil ?_;repeat'(first|intro(g:Nat)|refine gP ?_|intro v)
 refine cK (Ut bl (.slice none 0 0) pv 1 (λ_=>⟨m10,n11,n12,n13⟩) Kl [] Fx.exP t0 pm 2 1 qd qd qd ex_P.1 qd qd qd qd (ex_hS Fx.HY.1)) ?_;rintro _ _ _ ⟨rfl,fv,fm,fx,⟨i,sv,cv,cm,xs,hfi,rfl,rfl,hfx,hpt⟩|⟨hno,rfl,rfl,hfx⟩⟩;case inr=>exact(Fx.YX.none Fx.Km.1 hno).elim
 obtain rfl:i=3:=Fx.YX.eq hfi Fx.Km.1;refine sNn ?_;repeat'(first|intro(g:Nat)|refine gP ?_|intro v)
 revert g;intro g3;refine WL.y (YO.slice (a:=0) (b:=2) T.s33 rfl (KnS.lf (S:=tlS) (v:=pv) (n:=3) (ms:=pm) (xs:=pl Fx.exP) hmA) (Or.inl ⟨rfl,rfl⟩) (Or.inr ⟨_,rfl,rfl⟩) qd qd) qr qr ?_;refine cK (Ut bl (.slice none 0 0) (resl pv 0 2 1) 1 (λ_=>⟨m10,n11,n12,n13⟩) Kl [] Fx.Y9 t0 pm 2 1 qd qd qd ex_P.2 qd qd qd qd (ex_hS Fx.HY.2)) ?_;rintro _ _ _ ⟨rfl,fv2,fm2,fx2,⟨i,sv2,cv2,cm2,xs2,hfi2,rfl,rfl,hfx2,hpt2⟩|⟨hno2,rfl,rfl,hfx2⟩⟩;case inr=>exact(Fx.YX.none Fx.Km.2.1 hno2).elim
 obtain rfl:i=3:=Fx.YX.eq hfi2 Fx.Km.2.1;refine sNn ?_;repeat'(first|intro(g:Nat)|refine gP ?_|intro v)
 revert g;intro g5;refine WL.y (YO.slice (a:=0) (b:=2) T.s33 rfl (KnS.lf (S:=tlS) (v:=pv) (n:=3) (ms:=pm) (xs:=pl Fx.exP) hmA) (Or.inl ⟨rfl,rfl⟩) (Or.inr ⟨_,rfl,rfl⟩) qd qd) qr qr ?_;refine cK (Ut bl (.slice none 0 0) (resl pv 0 2 1) 1 (λ_=>⟨m10,n11,n12,n13⟩) Kl [] Fx.Y9 t0 pm 1 1 qd qd qd ex_P.2 qd qd qd qd (ex_hS Fx.HY.2)) ?_;rintro _ _ _ ⟨rfl,fv3,fm3,fx3,⟨i,sv3,cv3,cm3,xs3,hfi3,rfl,rfl,hfx3,hpt3⟩|⟨hno3,rfl,rfl,hfx3⟩⟩;case inl=>exact(Fx.YX.none hfi3 Fx.Km.2.2).elim
 refine sNn ?_;repeat'(first|intro(g:Nat)|refine gP ?_|intro v)
 revert g;intro g7;refine cK (sets_c 3 2 ⟨by decide,by decide⟩ ⟨by decide,by decide⟩) ?_;rintro v9 _ _ ⟨sm,rfl,rfl⟩;refine sNn ?_;refine WL.Q3 (S:=Qn) (v:=v9) (n:=(Fx.Jk 3 2).length) (ms:=sm) (xs:=sl (Fx.Jk 3 2)) (by repeat(first|exact Sel.head|apply Sel.tail)) hmA ?_;have e1:sl (Fx.QX [] Fx.exP 2) 3=[2]:=by rw[Fx.Ya.1];rfl
 have e2:sl (Fx.QX [] Fx.Y9 2) 3=[0,1]:=by rw[Fx.Ya.2.1];rfl
 have e3:(Fx.QX [] Fx.Y9 1).length=3:=by rw[Fx.Ya.2.2.1];rfl
 have e4:(Fx.Jk 3 2).length=7:=by rw[Fx.Ya.2.2.2];rfl
 have e5:sl (Fx.Jk 3 2) 6=[1,2]:=by rw[Fx.Ya.2.2.2];rfl
 have c1:=λv=>Yr sv v (sl (Fx.QX [] Fx.exP 2) 3) [2];rw[decide_eq_true e1] at c1;have c2:=λv=>Yr sv2 v (sl (Fx.QX [] Fx.Y9 2) 3) [0,1];rw[decide_eq_true e2] at c2;have c3:=λv=>Yr (sm 6) v (sl (Fx.Jk 3 2) 6) [1,2];rw[decide_eq_true e5] at c3;repeat'(first|intro(g:Nat)|refine gP ?_|intro v)
 refine cV (c1 _) ?_;repeat'(first|intro(g:Nat)|refine gP ?_|intro v)
 refine cV (c2 _) ?_;repeat'(first|intro(g:Nat)|refine gP ?_|intro v)
 refine cV (check_c bl (.slice none 0 0) pv 1 (λ_=>⟨m10,n11,n12,n13⟩) Kl [] Fx.exP t0 pm 2 1 qd qd qd ex_P.1 qd qd qd qd (ex_hS Fx.HY.1) ex_hY sv cv fv fm fx 3 cm xs Fx.Km.1.1 hfx hpt) ?_;repeat'(first|intro(g:Nat)|refine gP ?_|intro v)
 rw[show Int.toNat 6=6 from rfl];refine WL.QE (sI (sm 6) (sl (Fx.Jk 3 2) 6)) (W.Has.lk (S:=Qn) (v:=v9) (ms:=sm) (xs:=sl (Fx.Jk 3 2)) hmA qo) ?_;refine cV (c3 _) ?_;repeat'(first|intro(g:Nat)|refine gP ?_|intro v)
 refine WC.ret ?_;exact Fin.v (Qh.t1 rfl rfl) meA rfl
end Y
end Q
end K
end
section
open W Go.RowKit
section
variable {P:Program}{e:Env}{bx:List Ow}{F:List Fct}{ty t el:TypeId}{v:Value}{x y:Operand}{j len sz:Nat}{K:Qg}
def YO.ixE{i:Int}(ht:QJ P t el len sz)(hx:ev e x=some (.pointer (some (eaddr v j))))(hy:ev e y=some (.int .i64 i))(h0:0<=i)(hk:i<len):YO P (.indexAddr t x y) ty e bx F (.pointer (some (eaddr v (j+i.toNat*sz)))):=by
 have he:eaddr v j=⟨(eaddr v j).block,(eaddr v j).off,none⟩:=by
  have h:=JR v j;cases h2:eaddr v j;rw[h2] at h;simp only at h;subst h;rfl
 rw[he] at hx;have h:=YO.ixBI (ty:=ty) (bx:=bx) (F:=F) ht hx hy h0 hk;rw[Y0] at h;exact h
def y_arr2{a b:Int}(hx:ev e x=some (.int .i64 a))(hy:ev e y=some (.int .i64 b)):YO Tryz.prog (.build 22 #[(0,x),(1,y)]) ty e bx F (.agg #[.int .i64 a,.int .i64 b]):=YO.build (parts:=[(0,x),(1,y)]) (.cons hx (.cons hy .nil)) λ_=>by kernel_rfl
def LO.bsN2{a1 a2 b1 b2:Int}(hx:ev e x=some (.agg #[.int .i64 a1,.int .i64 a2]))(hy:ev e y=some (.agg #[.int .i64 b1,.int .i64 b2]))(h:∀v,K v (Ow.slice v 22 2 (ints [a1,a2,b1,b2])::bx) F):LO Tryz.prog (.buildSlice 24 2 #[(0,x),(1,y)]) ty e bx F K:=
 LO.buildSlice (el:=22) (sz:=2) (parts:=[(0,x),(1,y)]) (us:=[.agg #[.int .i64 a1,.int .i64 a2],.agg #[.int .i64 b1,.int .i64 b2]]) (cs:=ints [a1,a2,b1,b2]) (.cons hx (.cons hy .nil)) (λ_=>by kernel_rfl) rfl qd h
def pair_at{a b c d:Int}{i:Nat}(hi:i<2):(ints [a,b,c,d])[i*2+0]?=some (.int .i64 (if i=0 then a else c))/\(ints [a,b,c,d])[i*2+1]?=some (.int .i64 (if i=0 then b else d)):=by
 match i,hi with
 |0,_=>exact⟨rfl,rfl⟩
 |1,_=>exact⟨rfl,rfl⟩
end
namespace K
namespace Q
namespace Y
attribute [local irreducible] WC WL WD YO LO Qq W.Fin Qk Qw Qj Row QJ Qv KnS Has W.One Qa Qs
def d3{G G':Prop}(h:G')(s:Bx G'->G:=by
 intro h;first|refine gF ?_|(apply WC.draw (id:=5) [0,1,2,3,4,5,6,7,8,9,11] (.h 0<|.h 1<|.h 2<|.h 3<|.h 4<|.h 5<|.h 6<|.h 7<|.h 8<|.h 9<|.l 10<|.h 11 .done) mixed kr)|(apply WC.draw (id:=6) [0,1,2,3,4,5,6,7,8,9,11] (.h 0<|.h 1<|.h 2<|.h 3<|.h 4<|.h 5<|.h 6<|.h 7<|.h 8<|.h 9<|.l 10<|.h 11 .done) mixed kr)|(apply WC.draw (id:=12) [0,1,2,3,4,5,6,7,9] (.h 0<|.h 1<|.h 2<|.h 3<|.h 4<|.h 5<|.h 6<|.h 7<|.l 8<|.h 9 .done) mixed kr)|fail
 exact Bx.h h):G:=s ⟨h⟩
def setsLaw_c(n m:Int)(hn:I64 n)(hm:I64 m):FnB Tryz.prog 3 [.int .i64 n,.int .i64 m] [] [isX Tryz.prog] (IsV (.bool true)):=by
 refine fO [(0,(.int .i64 n)),(1,(.int .i64 m))] 67 Tryz.func3 Tryz.ntmps3 λh0=>?_;repeat'(first|intro(g:Nat)|refine d3 ?_|intro v)
 refine WL.y (y_arr2 rfl rfl) qr qr ?_;repeat'(first|intro(g:Nat)|refine d3 ?_|intro v)
 refine cV (around_c n 9 hn qd) ?_;repeat'(first|intro(g:Nat)|refine d3 ?_|intro v)
 refine cV (around_c m 10 hm qd) ?_;refine WL.y (y_arr2 rfl rfl) qr qr ?_;refine WL.l rfl rfl (LO.bsN2 rfl rfl λpv=>?_);have a1:=@VY n 9 qd;have a2:=@VY m 10 qd;generalize Zl n 9=n2 at *;generalize Zl m 10=m2 at *;repeat'(first|intro(g:Nat)|refine d3 ?_|intro v)
 refine WC.Xd (σ:=Unit) (λ_=>[]) (λ_=>[]) (λ_=>[ge h0,isX Tryz.prog]) (λ_=>True) ?_ ?_
 ·refine WC.lp (σ:=Nat) (λi=>[(6,.int .i64 (i:Int)),(5,pv)]) (λ_=>[Ow.slice pv 22 2 (ints [n,m,n2,m2])]) (λ_=>[ge h0,isX Tryz.prog]) (λi=>i<=2) (λi=>2-i) 0 qd ?_;intro i hi;by_cases d:i<2
  ·obtain⟨hp1,hp2⟩:=pair_at (a:=n) (b:=m) (c:=n2) (d:=m2) d
   have i1:I64 (if i=0 then n else n2):=by
    split
    ·exact hn
    ·exact⟨by omega,by omega⟩
   have i2:I64 (if i=0 then m else m2):=by
    split
    ·exact hm
    ·exact⟨by omega,by omega⟩
   generalize (if i=0 then n else n2)=p at *;generalize (if i=0 then m else m2)=q at *;repeat'(first|intro(g:Nat)|refine d3 ?_|intro v)
   refine WD.y rfl (YO.ix T.s24 rfl rfl (KnS.o (el:=22) (sz:=2) (n:=2) (cs:=ints [n,m,n2,m2]) (by exact meA) rfl qd) d) qr qr ?_;refine WD.y rfl (YO.ixE T.a22 rfl rfl qd qd) qr qr ?_;refine WD.y rfl (YO.ldO T.sc3 rfl (by exact meA) hp1) qr qr ?_;repeat'(first|intro(g:Nat)|refine d3 ?_|intro v)
   refine WD.y rfl (YO.ix T.s24 rfl rfl (KnS.o (el:=22) (sz:=2) (n:=2) (cs:=ints [n,m,n2,m2]) (by exact meA) rfl qd) d) qr qr ?_;refine WD.y rfl (YO.ixE T.a22 rfl rfl qd qd) qr qr ?_;refine WD.y rfl (YO.ldO T.sc3 rfl (by exact meA) hp2) qr qr ?_;repeat'(first|intro(g:Nat)|refine d3 ?_|intro v)
   refine cK (sets_c p q i1 i2) ?_;rintro v7 _ _ ⟨sm,rfl,rfl⟩;refine sNn ?_;repeat'(first|intro(g:Nat)|refine d3 ?_|intro v)
   refine WD.y rfl (YO.ix T.s24 rfl rfl (KnS.o (el:=22) (sz:=2) (n:=2) (cs:=ints [n,m,n2,m2]) (by exact meA) rfl qd) d) qr qr ?_;refine WD.y rfl (YO.ixE T.a22 rfl rfl qd qd) qr qr ?_;refine WD.y rfl (YO.ldO T.sc3 rfl (by exact meA) hp1) qr qr ?_;repeat'(first|intro(g:Nat)|refine d3 ?_|intro v)
   refine WD.y rfl (YO.ix T.s24 rfl rfl (KnS.o (el:=22) (sz:=2) (n:=2) (cs:=ints [n,m,n2,m2]) (by exact meA) rfl qd) d) qr qr ?_;refine WD.y rfl (YO.ixE T.a22 rfl rfl qd qd) qr qr ?_;refine WD.y rfl (YO.ldO T.sc3 rfl (by exact meA) hp2) qr qr ?_;repeat'(first|intro(g:Nat)|refine d3 ?_|intro v)
   have hrs:=rsets_c p q i1 i2;rw[Fx.Hh] at hrs;refine cK (hrs) ?_;rintro v8 _ _ ⟨rm,rfl,rfl⟩;refine sNn ?_;have hle:=Fx.Uu p q;generalize Fx.Jk p q=C at *;repeat'(first|intro(g:Nat)|refine d3 ?_|intro v)
   refine WC.Q3 (S:=Qn) (v:=v7) (n:=C.length) (ms:=sm) (xs:=sl C) (by repeat(first|exact Sel.head|apply Sel.tail)) hmA ?_;refine WC.lp (σ:=Nat) (λk=>[(9,.int .i64 (k:Int)),(8,v8),(7,v7),(6,.int .i64 (i:Int)),(5,pv)]) (λ_=>[Ow.slice pv 22 2 (ints [n,m,n2,m2])]) (λ_=>[lF Qn v7 C.length sm (sl C),lF Qn v8 C.length rm (sl C),ge h0,isX Tryz.prog]) (λk=>k<=C.length) (λk=>C.length-k) 0 (Nat.zero_le _) ?_;intro k hk;by_cases d2:k<C.length
   ·refine WC.fact (sI (sm k) (sl C k)) (W.Has.lk (S:=Qn) (v:=v7) (ms:=sm) (xs:=sl C) hmA d2) ?_;refine WC.fact (sI (rm k) (sl C k)) (W.Has.lk (S:=Qn) (v:=v8) (ms:=rm) (xs:=sl C) hmA d2) ?_;have c:=Yr (sm k) (rm k) (sl C k) (sl C k);rw[decide_eq_true rfl] at c;repeat'(first|intro(g:Nat)|refine d3 ?_|intro v)
    refine cV (c) ?_;repeat'(first|intro(g:Nat)|refine d3 ?_|intro v)
    exact Qq.mk (k+1) qo qo
   ·obtain rfl:k=C.length:=qo;repeat'(first|intro(g:Nat)|refine d3 ?_|intro v)
    exact Qq.mk (i+1) qo qo
  ·obtain rfl:i=2:=qo;repeat'(first|intro(g:Nat)|refine d3 ?_|intro v)
   exact QG () trivial
 rintro⟨⟩ _;repeat'(first|intro(g:Nat)|refine d3 ?_|intro v)
 refine cV (lives_c) ?_;repeat'(first|intro(g:Nat)|refine d3 ?_|intro v)
 refine WC.ret ?_;exact Fin.v (Qh.t1 rfl rfl) meA rfl
end Y
end Q
end K
end
section
open Go.RowKit
open Go.Conc hiding base G
open Go.Conc (base enter_at)
open Go.Conc (G)
namespace W
section
variable {P:Program}{sh own:Bk}{w:World}{a:Act}
def stepG_top{main:Bool}{fn:Func}{b:Frame}{todo:List Item}{v:Value}(hn:b.kind=.normal)(hd:a.defers=[])(hf:P.funcs[b.fn]?=some fn)(hi:P.inits.idxOf? b.fn=none)(hr:(results fn a.tmps).run P w=.ok v w) :
  stepG P true (G {b.atR a todo with mode:=.returning} []) w=.ended (.done v) w (seen P b.fn ((results fn a.tmps).events P w #[])):=by
 simp[G,stepG,unwind,doReturn,Frame.atR,hn,hd,hf,hr,hi,GStep.after]
def V3{main:Md}{fn:Func}{f:FuncId}(hm:main.b=true)(hf:P.funcs[f]?=some fn)(hi:P.inits.idxOf? f=none){tmps:Array Value}{todo:List Item}{v:Value}{Post:Value->World->Prop} :
  ∀(Ds:List Nat) (w:World),Ds.Nodup->(∀D∈Ds,own D/\w.heap[D]?=some (.deferred (some [])))->
   (∀w1,Unm own sh Ds w w1->(results fn tmps).run P w1=.ok v w1/\(∀ev∈(results fn tmps).events P w1 #[],XX own sh ev)/\Post v w1)->
   Run P main sh (Hc P sh Post) own (G {(base f).atR ⟨tmps,Ds.map mkD⟩ todo with mode:=.returning} []) w
 |[],w,_,_,h=>by
  refine Run.stop λw2 h2=>?_;obtain⟨h3,h4,h5⟩:=h w2 ⟨h2.rest,h2.size,λk k1 k2 _=>h2.keep k k1 k2⟩;exact⟨rfl,v,_,stepG_top (main:=true) (b:=base f) rfl rfl hf hi h3,λe he=>h4 e (Je he),h5⟩
 |D::Ds,w,hn,hD,h=>by
  refine Run.go rfl λw2 h2=>?_;obtain⟨hn1,hn2⟩:=List.nodup_cons.1 hn;obtain⟨d1,d2⟩:=hD D (List.mem_cons_self ..);have hlt:∀D'∈D::Ds,D'<w.heap.size:=λD' h'=>(Array.getElem?_eq_some_iff.1 (hD D' h').2).1;have hsame:∀D'∈D::Ds,w2.heap[D']?=some (.deferred (some [])):=λD' h'=>by rw[h2.keep D' (hlt D' h') (.inl (hD D' h').1)];exact(hD D' h').2
  refine⟨_,_,_,Vv (hsame D (List.mem_cons_self ..)),⟨⟨rfl,rfl,rfl⟩,by simp,λk _ hk=>World.putObj_heap_other (λe=>hk (e ▸ d1)),λe he=>?_⟩,?_⟩
  ·have he:=Je he;have hh:=hsame D (List.mem_cons_self ..);rw[XH hh] at he;simp at he;rcases he with rfl|rfl<;>exact .inr (.inr ⟨D,rfl,.inl d1⟩)
  ·rw[Ql (by simp)];refine V3 hm hf hi (v:=v) Ds _ hn2 (λD' h'=>⟨(hD D' (List.mem_cons_of_mem _ h')).1,?_⟩) λw1 h1=>?_
   ·rw[World.putObj_heap_other (λe=>by subst e;exact hn1 h')];exact hsame D' (List.mem_cons_of_mem _ h')
   ·refine h w1 ⟨h2.rest.trans (Rest.trans (b:=w2.putObj D (.deferred none)) ⟨rfl,rfl,rfl⟩ h1.rest),Nat.le_trans h2.size (by simpa using h1.size),λk k1 k2 k3=>?_⟩;have k4:k∉Ds:=λhx=>k3 (List.mem_cons_of_mem _ hx);rw[h1.keep k (by simpa using Nat.lt_of_lt_of_le k1 h2.size) k2 k4,World.putObj_heap_other (λe=>k3 (by rw[<-e];exact List.mem_cons_self ..)),h2.keep k k1 k2]
def calls_top{main:Md}(hm:main.b=true){f:FuncId}(hi:P.inits.idxOf? f=none){args:Array Value}{K:Bk->Value->World->Prop}{Post:Value->World->Prop}(h:YW P main sh f args own w K)(hK:∀own' v w',K own' v w'->Post v w') :
  Run P main sh (Hc P sh Post) own (G (Frame.enter P f args .normal) []) w:=by
 obtain⟨fn,cd,hf,hname,hb,hwp⟩:=h;rw[enter_at _ hf hb,<-Frame.atR_of_none (b:=base f) rfl]
 have hleave:∀(own':Bk) (a':Act) (w':World) (todo:List Item),bodyR P sh fn K own' .ret a' w'->Run P main sh (Hc P sh Post) own' (G {(base f).atR a' todo with mode:=.returning} []) w':=by
  rintro own' ⟨tmps,ds⟩ w' todo ⟨Ds,hd,q1,q2,v,q3⟩;simp only at hd;subst hd;exact V3 hm hf hi Ds w' q1 q2 λw1 h1=>⟨(q3 w1 h1).1,(q3 w1 h1).2.1,hK _ _ _ (q3 w1 h1).2.2⟩
 refine hwp (base f) [] [] _ rfl (by simp[base]) λown' e a' w' q=>?_;cases e with
 |normal=>exact Run.quiet rfl (λ_=>sg_end rfl) (hleave own' a' w' [] q)
 |ret=>exact⟨λ_ todo=>hleave own' a' w' todo q,λh=>absurd rfl h⟩
 |exit id=>exact q.elim
 |goto l=>exact q.elim
 |panic ch=>exact q.elim
 |outgrown=>exact q.elim
end
def Ext(V1 V2:World):Prop:=∀(k:Nat) (o:Obj),V1.heap[k]?=some o->V2.heap[k]?=some o
def law_leaves{P:Program}{f:FuncId}{args:List Value}{F:List Fct}{v0:Value}{V1:World}(hi:P.inits.idxOf? f=none)(hf:FnB P f args [] (isX P::F) (IsV v0))(hF:∀g∈F,g.p ⟨XG P,λk=>V1.heap[k]?⟩) :
  ∃M last o w' t',runNT P (M+1) (solo (G (Frame.enter P f args.toArray .normal) []) V1) #[]=(.ended o w',t')/\runN P M (solo (G (Frame.enter P f args.toArray .normal) []) V1)=.next last/\step P last=.ended o w'/\
   Conc.Good P (λv V2=>v=v0/\Rest V1 V2/\Ext V1 V2) last o w' t':=by
 let fr:CF:=⟨XG P,λ_=>False,λk=>k<V1.heap.size,λ_=>none,[]⟩
 have him:imm fr [] V1.heap=⟨XG P,λk=>V1.heap[k]?⟩:=by
  unfold imm CF.see
  congr 1
  funext k
  simp[fr,ids];by_cases h:k<V1.heap.size
  ·simp[h,CF.vs,CF.no,XG]
  ·simp[h,CF.vs,CF.no,XG]
 have ho:OK fr [] (isX P::F) V1:=⟨⟨λ_ _ h=>(by cases h),λk hk=>hk.elim id False.elim,λk hk=>hk.elim⟩,by simp[ids],by simp[ids],by simp,λg hg=>by
  rw[him];rcases List.mem_cons.1 hg with rfl|hg
  ·rfl
  ·exact hF g hg⟩
 have hrun:=calls_top (main:=XG P) rfl hi (Post:=λv V2=>v=v0/\Rest V1 V2/\Ext V1 V2) (hf.2 fr V1 ho) (by
  rintro own' v V2 ⟨h0,b,G,h1,h2,h3,h4⟩;obtain⟨h6,h7,h8⟩:=h1;subst h6 h7;refine⟨rfl,h2,λk o hk=>?_⟩;rw[him] at h3;exact Jg (h3.2 k o hk))
 have hlt:∀k,(k<V1.heap.size\/False)->k<V1.heap.size:=λk h=>h.elim id False.elim
 have hct:Go.ConcN.CT (λ_=>False) (λ_ _=>False) (λ_ _=>False) (#[]:Trace) 0:=by
  have:=Go.ConcN.CT.lone (Sh:=λ_=>False) (Own:=λ_ _=>False) (Rd:=λ_ _=>False) (u:=(#[]:Trace)) (λop hop=>absurd hop (by simp)) (λop hop=>absurd hop (by simp));simpa using this
 have hp:=past_nil
 obtain⟨N,last,o,w',t',e1,e2,e3,e4⟩:=Z2 (run_mainX (λ_ h=>h) hrun) (gs:=#[G (Frame.enter P f args.toArray .normal) []]) (sl:=none) (t:=#[]) (q:=λ_=>0) (Shun:=λ_=>False) rfl
  ⟨leavers_one P _,hct,by simp[Trace.HandedOver,Trace.g?],rfl,by simp,λl hl=>hl.elim,hlt⟩
 rw[solo_eq_crowd];exact⟨N,last,o,w',t',e1,e2,e3,e4⟩
end W
end
end Go.Proofs.YtbnobghgnbockaaGreat
