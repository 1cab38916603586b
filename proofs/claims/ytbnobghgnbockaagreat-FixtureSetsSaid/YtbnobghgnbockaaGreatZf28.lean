/- Lemmas for a law. Conditions: none. -/
import Derived.Test.YtbnobghgnbockaaGreatZf27
set_option linter.all false
set_option maxHeartbeats 32000000
set_option maxRecDepth 100000
namespace Go.Proofs.YtbnobghgnbockaaGreat
section
open W Go.RowKit
open Bl (Vc Bd Tc Sc)
def IsZer(E:Nat)(mb:QM):Qg:=λv B G=>∃va,v=.agg #[va,.bool mb.1,mb.2.1,.bool false,mb.2.2]/\B=[Ow.slice va 75 4 (Qe (2*E) λ_=>m00)]/\G=[]
def JJ(S:Sc)(r:Nat):LnX:=if r<3*(2*S.m) then⟨2*(2*S.m),Bl.coE (S.T (r/6)).r (r/3) (r%3),0⟩ else⟨2*(2*S.m),Bl.coS S (r-3*(2*S.m)),(S.B (r-3*(2*S.m))).st⟩
def limX_E{S:Sc}{i:Nat}(h:i<2*S.m):JJ S (3*i)=⟨2*(2*S.m),Bl.coE (S.T (i/2)).r i 0,0⟩/\JJ S (3*i+1)=⟨2*(2*S.m),Bl.coE (S.T (i/2)).r i 1,0⟩/\JJ S (3*i+2)=⟨2*(2*S.m),Bl.coE (S.T (i/2)).r i 2,0⟩:=by
 unfold JJ;rw[if_pos qo,if_pos qo,if_pos qo,show 3*i/6=i/2 by omega,show 3*i/3=i by omega,show 3*i%3=0 by omega,show(3*i+1)/6=i/2 by omega,show(3*i+1)/3=i by omega,show(3*i+1)%3=1 by omega,show(3*i+2)/6=i/2 by omega,show(3*i+2)/3=i by omega,show(3*i+2)%3=2 by omega];exact⟨rfl,rfl,rfl⟩
def limX_S{S:Sc}{i:Nat}:JJ S (3*(2*S.m)+i)=⟨2*(2*S.m),Bl.coS S i,(S.B i).st⟩:=by
 unfold JJ;rw[if_neg qo,show 3*(2*S.m)+i-3*(2*S.m)=i by omega]
def coE_0(r:Rat)(i j:Nat):upd (λ_=>0) ((2*(i:Int)).toNat) (-1) j=Bl.coE r i 0 j:=by
 unfold upd Bl.coE;rw[show(2*(i:Int)).toNat=2*i by omega];split
 ·rfl
 ·split<;>rfl
def coE_s(r a b:Rat)(i s j:Nat)(ha:a= -r)(hs:s=1/\b=1\/s=2/\b= -1):upd (upd (λ_=>0) ((2*(i:Int)).toNat) a) ((2*(i:Int)+1).toNat) b j=Bl.coE r i s j:=by
 unfold upd Bl.coE;rw[show(2*(i:Int)).toNat=2*i by omega,show(2*(i:Int)+1).toNat=2*i+1 by omega];by_cases h1:j=2*i+1
 ·rw[if_pos h1,if_neg qo,if_pos h1,if_neg qo];rcases hs with ⟨rfl,rfl⟩|⟨rfl,rfl⟩
  ·rw[if_pos rfl]
  ·rw[if_neg qd]
 ·rw[if_neg h1];by_cases h2:j=2*i
  ·rw[if_pos h2,if_pos h2,if_neg qo,ha]
  ·rw[if_neg h2,if_neg h2,if_neg h1]
def K4(S:Sc)(i k j:Nat):Rat:=if j<2*k then Bl.coS S i j else 0
def coSk_t{S:Sc}{i k:Nat}(h:Bl.tch (S.T (k/2)) i)(j:Nat):upd (K4 S i k) ((2*(k:Int)).toNat) (Bl.spn (S.T (k/2)).n) j=K4 S i (k+1) j:=by
 unfold upd K4 Bl.coS;rw[show(2*(k:Int)).toNat=2*k by omega];by_cases h1:j=2*k
 ·rw[if_pos h1,if_pos qo,show j/4=k/2 by omega,if_pos ⟨by omega,h⟩]
 ·rw[if_neg h1];by_cases h2:j<2*k
  ·rw[if_pos h2,if_pos (show j<2*(k+1) by omega)]
  ·rw[if_neg h2];by_cases h3:j<2*(k+1)
   ·rw[if_pos h3,if_neg (λh=>by omega)]
   ·rw[if_neg h3]
def coSk_n{S:Sc}{i k:Nat}(h:¬Bl.tch (S.T (k/2)) i)(j:Nat):K4 S i k j=K4 S i (k+1) j:=by
 unfold K4 Bl.coS;by_cases h2:j<2*k
 ·rw[if_pos h2,if_pos (show j<2*(k+1) by omega)]
 ·rw[if_neg h2];by_cases h3:j<2*(k+1)
  ·rw[if_pos h3,if_neg (λhx=>h (by rw[show j/4=k/2 by omega] at hx;exact hx.2))]
  ·rw[if_neg h3]
def IsLim(S:Sc):Qg:=λv B G=>∃ms,B=[]/\G=[lF Qr v (3*(2*S.m)+S.n) ms (JJ S)]
namespace K
attribute [local irreducible] WC WL WD YO LO Qq W.Fin Qk Qw Qj Row QJ Qv KnS Has W.One Qa Qs
def d111{G G':Prop}(h:G')(s:Bx G'->G:=by
 intro h;first|refine gB ?_|refine gY ?_|(apply WC.draw (id:=9) [0,1,2,3,4,6] (.h 0<|.h 1<|.h 2<|.h 3<|.h 4<|.l 5<|.h 6<|.l 7 .done) mixed kr)|(apply WC.drawS (id:=10) [0,1,2,3,4,5,6,7,8,9,10] (.h 0<|.h 1<|.h 2<|.h 3<|.h 4<|.h 5<|.h 6<|.h 7<|.h 8<|.h 9<|.h 10<|.l 11<|.l 12<|.l 13<|.l 14 .done) mixed kr;(focus((repeat(first|exact ZK.nil|apply ZK.drop|apply ZK.keep));done)))|(apply WC.drawS (id:=11) [0,1,2,3,4,5,6,7,8,9,10] (.h 0<|.h 1<|.h 2<|.h 3<|.h 4<|.h 5<|.h 6<|.h 7<|.h 8<|.h 9<|.h 10<|.l 11<|.l 12<|.l 13<|.l 14<|.l 15 .done) mixed kr;(focus((repeat(first|exact ZK.nil|apply ZK.drop|apply ZK.keep));done)))|(apply WC.draw (id:=22) [0,1,2,3,4,5,6,8] (.h 0<|.h 1<|.h 2<|.h 3<|.h 4<|.h 5<|.h 6<|.l 7<|.h 8<|.l 9 .done) mixed kr)|fail
 exact Bx.h h):G:=s ⟨h⟩
def d185{G G':Prop}(h:G')(s:Bx G'->G:=by
 intro h;first|refine gB ?_|refine gY ?_|(apply WC.draw (id:=1) [0,1,2,4] (.h 0<|.h 1<|.h 2<|.h 4<|.l 3<|.l 5<|.l 6 .done) mixed kr)|fail
 exact Bx.h h):G:=s ⟨h⟩
def Ub(g3:Nat)(va:Value)(E:Nat)(em:Nat->EM)(ed:Nat->Ed)(mb:QM)(most:Rat)(hE:E<=1000):FnB Tryz.prog 185 [qv mb,ptr g3] [] [isQ (qv mb) most,ce g3 159 [va],lF Jc va E em ed] (IsZer E mb):=by
 refine fO [(0,(qv mb)),(1,(ptr g3))] 10 Tryz.func185 Tryz.ntmps185 λh0=>?_;repeat'(first|intro(g:Nat)|refine d185 ?_|intro v)
 refine WC.ret ?_;exact Fin.p [_] [] (Qh.cV rfl rfl meA T.r141 rfl) meA slA .nil ⟨v,rfl,rfl,rfl⟩
def limits_c(M:SM)(S:Sc)(va:Value)(K:Nat)(h0K:0<K)(hK:K<=1000000)(hs:Ss K S)(ho:S.ok):FnB Tryz.prog 111 [M.l,va] [] [fSl M S,lF Jc va (2*S.m) (edM M.T) (edT S.T),fSt M S] (IsLim S):=by
 refine fO [(0,M.l),(1,va)] 128 Tryz.func111 Tryz.ntmps111 λh0=>?_;have hn:=ho.n;have hm:=ho.m;repeat'(first|intro(g:Nat)|refine d111 ?_|intro v)
 refine cW (Zn.of 1 1 qd qd) λn1=>?_;rw[show Rat.divInt 1 1=1 by decide +kernel];repeat'(first|intro(g:Nat)|refine d111 ?_|intro v)
 revert g;intro g7;refine WC.keep (g:=g) (t:=159) (cs:=[va]) (by repeat(first|exact Rem.head|apply Rem.tail)) ?_;revert g;intro g3;refine WC.Q8 141 5 ?_
 refine WC.Xd (σ:=Value×(Nat->LnM)) (λst=>[(0,M.l),(3,ptr g3),(5,st.1),(6,.func (.func 185) #[] #[ptr g3])]) (λst=>[lO Qr st.1 141 (3*(2*S.m)) st.2 (JJ S)])
  (λst=>[lM Qr (3*(2*S.m)) st.2 (JJ S),ge h0,ce g3 159 [va],fSl M S,lF Jc va (2*S.m) (edM M.T) (edT S.T),fSt M S]) (λ_=>True) ?_ ?_
 ·refine WC.lp (σ:=Nat×Value×(Nat->LnM)) (λst=>[(23,.int .i64 (st.1:Int)),(22,.int .i64 ((2*S.m:Nat):Int)),(21,va),(0,M.l),(3,ptr g3),(5,st.2.1),(6,.func (.func 185) #[] #[ptr g3]),(7,ptr g7)])
   (λst=>[lO Qr st.2.1 141 (3*st.1) st.2.2 (JJ S),Ow.cells g7 75 (qcs n1)])
   (λst=>[lM Qr (3*st.1) st.2.2 (JJ S),isQ (qv n1) 1,ge h0,ce g3 159 [va],fSl M S,lF Jc va (2*S.m) (edM M.T) (edT S.T),fSt M S]) (λst=>st.1<=2*S.m) (λst=>2*S.m-st.1) (0,.slice none 0 0,λ_=>⟨.slice none 0 0,λ_=>m00,m00⟩) (Nat.zero_le _) ?_ (hG:=.cons W.Has.HS haA)
  rintro⟨i,lv,ms⟩ hi;simp only at hi ⊢;by_cases c:i<2*S.m
  ·refine WC.fact (fE (edM M.T i) (edT S.T i)) (W.Has.lk (S:=Jc) (v:=va) hmA c) ?_;refine WC.fact (fT (edM M.T i).t (edT S.T i).t) (W.Has.et (em:=edM M.T i) hmA) ?_;refine WC.fact (isQ (qv (edM M.T i).t.r) (edT S.T i).t.r) (W.Has.trr (t:=(edT S.T i).t) hmA) ?_;repeat'(first|intro(g:Nat)|refine d111 ?_|intro v)
   refine cW (Zn.neg (edM M.T i).t.r (edT S.T i).t.r) λn2=>?_;repeat'(first|intro(g:Nat)|refine d111 ?_|intro v)
   refine WL.J9 [] [ptr g3] (vs:=[qv m00]) (Ub g3 va (2*S.m) (edM M.T) (edT S.T) m00 0 qo) ?_;rintro _ _ _ ⟨v1,rfl,rfl,rfl⟩;refine sNn ?_;repeat'(first|intro(g:Nat)|refine d111 ?_|intro v)
   refine WL.J9 [] [ptr g3] (vs:=[qv m00]) (Ub g3 va (2*S.m) (edM M.T) (edT S.T) m00 0 qo) ?_;rintro _ _ _ ⟨v2,rfl,rfl,rfl⟩;refine sNn ?_;repeat'(first|intro(g:Nat)|refine d111 ?_|intro v)
   refine WL.J9 [] [ptr g3] (vs:=[qv m00]) (Ub g3 va (2*S.m) (edM M.T) (edT S.T) m00 0 qo) ?_;rintro _ _ _ ⟨v3,rfl,rfl,rfl⟩;refine sNn ?_;repeat'(first|intro(g:Nat)|refine d111 ?_|intro v)
   refine cW (Zn.neg n1 1) λn3=>?_;repeat'(first|intro(g:Nat)|refine d111 ?_|intro v)
   refine cW (Zn.neg n1 1) λn4=>?_;repeat'(first|intro(g:Nat)|refine d111 ?_|intro v)
   obtain⟨e0,e1,e2⟩:=limX_E c;refine WL.JP v1 (2*(2*S.m)) (upd (λ_=>m00) (2*(i:Int)).toNat n3) (Bl.coE (S.T (i/2)).r i 0) (by repeat(first|exact Sel.head|apply Sel.tail)) (W.Has.QH (W.Has.JL (W.Has.mF0 _) (z:=-1) hmA) λj _=>coE_0 _ i j) ?_;refine WL.JP v2 (2*(2*S.m)) (upd (upd (λ_=>m00) (2*(i:Int)).toNat n2) (2*(i:Int)+1).toNat n1) (Bl.coE (S.T (i/2)).r i 1) (by repeat(first|exact Sel.head|apply Sel.tail)) (W.Has.QH (W.Has.JL (W.Has.JL (W.Has.mF0 _) (z:=-(edT S.T i).t.r) hmA) (z:=1) hmA) λj _=>coE_s _ _ _ i 1 j rfl (.inl ⟨rfl,rfl⟩)) ?_;refine WL.JP v3 (2*(2*S.m)) (upd (upd (λ_=>m00) (2*(i:Int)).toNat n2) (2*(i:Int)+1).toNat n4) (Bl.coE (S.T (i/2)).r i 2) (by repeat(first|exact Sel.head|apply Sel.tail)) (W.Has.QH (W.Has.JL (W.Has.JL (W.Has.mF0 _) (z:=-(edT S.T i).t.r) hmA) (z:=-1) hmA) λj _=>coE_s _ _ _ i 2 j rfl (.inr ⟨rfl,rfl⟩)) ?_;refine WL.QE (fLx ⟨v1,upd (λ_=>m00) (2*(i:Int)).toNat n3,m00⟩ (JJ S (3*i))) (by rw[e0];exact W.Has.lof hmA Jm) ?_;refine WL.QE (fLx ⟨v2,upd (upd (λ_=>m00) (2*(i:Int)).toNat n2) (2*(i:Int)+1).toNat n1,m00⟩ (JJ S (3*i+1))) (by rw[e1];exact W.Has.lof hmA Jm) ?_;refine WL.QE (fLx ⟨v3,upd (upd (λ_=>m00) (2*(i:Int)).toNat n2) (2*(i:Int)+1).toNat n4,m00⟩ (JJ S (3*i+2))) (by rw[e2];exact W.Has.lof hmA Jm) ?_;repeat'(first|intro(g:Nat)|refine d111 ?_|intro v)
   exact Qq.mk (i+1,_,_) (by simp only;omega) (by simp only;omega) (hG:=.cons (W.Has.YC (W.Has.YC (W.Has.YC (S:=Qr) (n:=3*i) (ms:=ms) (xs:=JJ S) hmA (mm:=⟨v1,_,m00⟩) hmA) (mm:=⟨v2,_,m00⟩) hmA) (mm:=⟨v3,_,m00⟩) hmA) haA)
  ·obtain rfl:i=2*S.m:=qo;repeat'(first|intro(g:Nat)|refine d111 ?_|intro v)
   exact QG (lv,ms) trivial
 ·rintro⟨lv,ms⟩ _;simp only;repeat'(first|intro(g:Nat)|refine d111 ?_|intro v)
  refine WC.lp (σ:=Nat×Value×(Nat->LnM)) (λst=>[(84,.int .i64 (st.1:Int)),(83,.int .i64 (S.n:Int)),(82,M.l),(3,ptr g3),(5,st.2.1),(6,.func (.func 185) #[] #[ptr g3])])
   (λst=>[lO Qr st.2.1 141 (3*(2*S.m)+st.1) st.2.2 (JJ S)])
   (λst=>[lM Qr (3*(2*S.m)+st.1) st.2.2 (JJ S),ge h0,ce g3 159 [va],fSl M S,lF Jc va (2*S.m) (edM M.T) (edT S.T),fSt M S]) (λst=>st.1<=S.n) (λst=>S.n-st.1) (0,lv,ms) (Nat.zero_le _) ?_
  rintro⟨i,lv,ms⟩ hi;simp only at hi ⊢;by_cases c:i<S.n
  ·refine WC.fact (fB (M.B i) (S.B i)) (W.Has.lk (S:=XU) (v:=M.l) hmA c) ?_;refine WC.fact (isQ (qv (M.B i).st) (S.B i).st) (W.Has.bs (b:=S.B i) hmA) ?_;repeat'(first|intro(g:Nat)|refine d111 ?_|intro v)
   refine WL.J9 [] [ptr g3] (vs:=[qv (M.B i).st]) (Ub g3 va (2*S.m) (edM M.T) (edT S.T) (M.B i).st (S.B i).st qo) ?_;rintro _ _ _ ⟨v1,rfl,rfl,rfl⟩;refine sNn ?_;repeat'(first|intro(g:Nat)|refine d111 ?_|intro v)
   revert g;intro g16
   refine WC.Xd (σ:=Nat->QM) (λ_=>[(14,.int .i64 (i:Int)),(16,ptr g16),(84,.int .i64 (i:Int)),(83,.int .i64 (S.n:Int)),(82,M.l),(3,ptr g3),(5,lv),(6,.func (.func 185) #[] #[ptr g3])])
    (λmq=>[Ow.cells g16 141 [v1,.bool (M.B i).st.1,(M.B i).st.2.1,.bool false,(M.B i).st.2.2],Ow.slice v1 75 4 (Qe (2*(2*S.m)) mq),lO Qr lv 141 (3*(2*S.m)+i) ms (JJ S)])
    (λmq=>[mF (2*(2*S.m)) mq (Bl.coS S i),isQ (qv (M.B i).st) (S.B i).st,lM Qr (3*(2*S.m)+i) ms (JJ S),ge h0,ce g3 159 [va],fSl M S,lF Jc va (2*S.m) (edM M.T) (edT S.T),fSt M S]) (λ_=>True) ?_ ?_
   ·refine WC.lp (σ:=Nat×(Nat->QM)) (λst=>[(95,.int .i64 (st.1:Int)),(94,.int .i64 ((2*S.m:Nat):Int)),(93,va),(14,.int .i64 (i:Int)),(16,ptr g16),(84,.int .i64 (i:Int)),(83,.int .i64 (S.n:Int)),(82,M.l),(3,ptr g3),(5,lv),(6,.func (.func 185) #[] #[ptr g3])])
     (λst=>[Ow.cells g16 141 [v1,.bool (M.B i).st.1,(M.B i).st.2.1,.bool false,(M.B i).st.2.2],Ow.slice v1 75 4 (Qe (2*(2*S.m)) st.2),lO Qr lv 141 (3*(2*S.m)+i) ms (JJ S)])
     (λst=>[mF (2*(2*S.m)) st.2 (K4 S i st.1),isQ (qv (M.B i).st) (S.B i).st,lM Qr (3*(2*S.m)+i) ms (JJ S),ge h0,ce g3 159 [va],fSl M S,lF Jc va (2*S.m) (edM M.T) (edT S.T),fSt M S]) (λst=>st.1<=2*S.m) (λst=>2*S.m-st.1) (0,λ_=>m00) (Nat.zero_le _) ?_ (hG:=.cons (W.Has.QH (W.Has.mF0 _) λj _=>by unfold K4;rw[if_neg qo]) haA)
    rintro⟨k,mq⟩ hk;simp only at hk ⊢;by_cases d:k<2*S.m
    ·refine WC.fact (fE (edM M.T k) (edT S.T k)) (W.Has.lk (S:=Jc) (v:=va) hmA d) ?_;refine WC.fact (fT (edM M.T k).t (edT S.T k).t) (W.Has.et (em:=edM M.T k) hmA) ?_;refine WC.fact (fV (edM M.T k).t.n (edT S.T k).t.n) (W.Has.tn (tm:=(edM M.T k).t) hmA) ?_;have hsn:Sv K (edT S.T k).t.n:=(hs.T (k/2) qo).2.2.1;by_cases d1:(edT S.T k).t.a=(i:Int)
     ·repeat'(first|intro(g:Nat)|refine d111 ?_|intro v)
      refine cW (span_c (edM M.T k).t.n (edT S.T k).t.n K hK hsn) λn5=>?_;repeat'(first|intro(g:Nat)|refine d111 ?_|intro v)
      exact Qq.mk (k+1,_) (by simp only;omega) (by simp only;omega) (hG:=.cons (W.Has.QH (W.Has.JL (qf:=K4 S i k) hmA (z:=Bl.spn (edT S.T k).t.n) hmA) λj _=>coSk_t (.inl d1) j) haA)
     ·by_cases d2:(edT S.T k).t.b=(i:Int)
      ·repeat'(first|intro(g:Nat)|refine d111 ?_|intro v)
       refine cW (span_c (edM M.T k).t.n (edT S.T k).t.n K hK hsn) λn5=>?_;repeat'(first|intro(g:Nat)|refine d111 ?_|intro v)
       exact Qq.mk (k+1,_) (by simp only;omega) (by simp only;omega) (hG:=.cons (W.Has.QH (W.Has.JL (qf:=K4 S i k) hmA (z:=Bl.spn (edT S.T k).t.n) hmA) λj _=>coSk_t (.inr d2) j) haA)
      ·repeat'(first|intro(g:Nat)|refine d111 ?_|intro v)
       exact Qq.mk (k+1,mq) (by simp only;omega) (by simp only;omega) (hG:=.cons (W.Has.QH (qf:=K4 S i k) hmA λj _=>coSk_n (λh=>h.elim d1 d2) j) haA)
    ·obtain rfl:k=2*S.m:=qo;repeat'(first|intro(g:Nat)|refine d111 ?_|intro v)
     exact QG mq trivial (hG:=.cons (W.Has.QH (qf:=K4 S i (2*S.m)) hmA λj hj=>if_pos hj) haA)
   ·intro mq _;repeat'(first|intro(g:Nat)|refine d111 ?_|intro v)
    refine WL.JP v1 (2*(2*S.m)) mq (Bl.coS S i) (by repeat(first|exact Sel.head|apply Sel.tail)) hmA ?_;refine WL.QE (fLx ⟨v1,mq,(M.B i).st⟩ (JJ S (3*(2*S.m)+i))) (by rw[limX_S];exact W.Has.lof hmA hmA) ?_;repeat'(first|intro(g:Nat)|refine d111 ?_|intro v)
    exact Qq.mk (i+1,_,_) (by simp only;omega) (by simp only;omega) (hG:=.cons (W.Has.YC (S:=Qr) (n:=3*(2*S.m)+i) (ms:=ms) (xs:=JJ S) hmA (mm:=⟨v1,mq,(M.B i).st⟩) hmA) haA)
  ·obtain rfl:i=S.n:=qo;repeat'(first|intro(g:Nat)|refine d111 ?_|intro v)
   refine WC.Q3 (S:=Qr) (n:=3*(2*S.m)+S.n) (ms:=ms) (xs:=JJ S) (by repeat(first|exact Sel.head|apply Sel.tail)) hmA ?_;refine WC.ret ?_;exact Fp [lF Qr lv (3*(2*S.m)+S.n) ms (JJ S)] (Qh.t1 rfl rfl) haA ⟨ms,rfl,rfl⟩
end K
end
section
open W Go.RowKit
open Bl (Vc Bd Tc Sc)
def cat{α:Type}(n:Nat)(f g:Nat->α)(j:Nat):α:=if j<n then f j else g (j-n)
section
variable {M α:Type}{S:Shp M α}{P:Program}{e:Env}{bx bx':List Ow}{F:List Fct}{ty t el:TypeId}{v u:Value}{x y z:Operand}{n k:Nat}{ms ms2:Nat->M}{xs xs2:Nat->α}{K:Qg}
def lcells_cat(hx:∀j,j<k->xs (n+j)=xs2 j):Qt S n ms xs++Qt S k ms2 xs2=Qt S (n+k) (cat n ms ms2) xs:=by
 have hp:=S.pos;refine Jn (by rw[List.length_append,Qy,Qy,Nat.add_mul]) λj hj=>?_;by_cases h:j<n*S.w
 ·rw[List.getElem?_append_left (by rw[Qy];exact h),QW h];have hn:j/S.w<n:=(Nat.div_lt_iff_lt_mul hp).2 h;show some (Jb S.w _ j)=some (Jb S.w _ j);unfold Jb cat;simp only;rw[if_pos hn]
 ·have hj2:j-n*S.w<k*S.w:=by rw[Nat.add_mul] at hj;omega
  rw[List.getElem?_append_right (by rw[Qy];omega),Qy,QW hj2];have e1:j=n*S.w+(j-n*S.w):=qo
  have hd:j/S.w=n+(j-n*S.w)/S.w:=by
   conv=>lhs;rw[e1]
   rw[Nat.mul_comm n,Nat.mul_add_div hp]
  have hm:j%S.w=(j-n*S.w)%S.w:=by
   conv=>lhs;rw[e1]
   rw[Nat.mul_comm n,Nat.mul_add_mod]
  have hk:(j-n*S.w)/S.w<k:=(Nat.div_lt_iff_lt_mul hp).2 hj2;show some (Jb S.w _ _)=some (Jb S.w _ j);unfold Jb cat;simp only;rw[hd,hm];generalize (j-n*S.w)/S.w=q at *;have h1:¬n+q<n:=qo;have h2:n+q-n=q:=qo;rw[if_neg h1,h2,hx _ hk]
def W.Has.mcat(h:Has F (lM S n ms xs))(h2:Has F (lM S k ms2 xs2))(hx:∀j,j<k->xs (n+j)=xs2 j):Has F (lM S (n+k) (cat n ms ms2) xs):=λp hf i hi=>by
 unfold cat;by_cases c:i<n
 ·rw[if_pos c];exact h p hf i c
 ·rw[if_neg c];have:=h2 p hf (i-n) qo;rw[<-hx (i-n) qo,show n+(i-n)=i by omega] at this;exact this
end
section
variable {e:Env}{bx bx':List Ow}{F:List Fct}{ty t el:TypeId}{v u:Value}{x y z:Operand}{n k:Nat}{ms ms2:Nat->LnM}{xs xs2:Nat->LnX}{K:Qg}
def one_ls{fr:CF}{w:World}(ho:OK fr bx F w)(hm:Has F (lM Qr k ms2 xs2)):∀c∈Qt Qr k ms2 xs2,c.oneCell'=true:=λc hc=>by
 simp only[Qt,XM,List.mem_map,List.mem_range] at hc;obtain⟨j,hj,rfl⟩:=hc;have hj5:j<k*5:=hj;have:=(one_l (bx:=bx) (hm.mk (k:=j/5) qo)).all ho;have hr:=Yx (l:=lcs (ms2 (j/5))) (r:=j%5) (n:=5) rfl qo;exact this _ (List.mem_of_getElem? hr)
def LO.VV{bx2:Value->List Ow}(hx:ev e x=some v)(hy:ev e y=some u)(hu:Has F (lF Qr u k ms2 xs2))(hs:∀v',Sel bx (lO Qr v 141 n ms xs) (lO Qr v' 141 (n+k) (cat n ms ms2) (cat n xs xs2)) (bx2 v'))(hl:n<=1000000)(hl2:k<=1000000)(h:∀v',K v' (bx2 v') F) :
  LO Tryz.prog (.call {callee:=.builtin .append,args:=#[x,y],argTypes:=#[116,116]}) ty e bx F K:=by
 refine LO.byP (λfr w ho=>one_ls ho hu.lm) λh1=>?_
 exact LO.append T.e116 hx hy (cs:=Qt Qr n ms xs) (news:=Qt Qr k ms2 xs2) (by
  have e2:=lcells_cat (S:=Qr) (n:=n) (k:=k) (ms:=ms) (ms2:=ms2) (xs:=cat n xs xs2) (xs2:=xs2) (λj _=>by unfold cat;rw[if_neg qo,show n+j-n=j by omega]);intro v';have e3:Qt Qr n ms xs++Qt Qr k ms2 xs2=Qt Qr (n+k) (cat n ms ms2) (cat n xs xs2):=e2;rw[e3];exact hs v') (Qa.fact hu.ls) h1 (by rw[Qy,Qy];show(n*5+k*5)*88<=_;omega) (by rw[Qy,Qy];show n*5+k*5<=_;omega) h
end
attribute [local irreducible] WC WL WD YO LO Qq W.Fin Qk Qw Qj Row QJ Qv KnS Has W.One Qa Qs
namespace K
def goE{G G':Prop}(h:G')(s:Bx G'->G:=by
 intro h
 (first|(apply WL.Jx;rotate_left;exact rfl;(first|fail|fail))|(apply WD.Jx;exact rfl;rotate_left;exact rfl;(first|fail|fail);constructor;exact ltA)|((first|fail|fail);constructor;exact ltA)|fail)
 exact Bx.h h):G:=s ⟨h⟩
def goEG{G G':Prop}(h:G')(s:Bx G'->G:=by
 intro h
 (first|(apply WL.Xz;rotate_left;exact rfl;exact rfl;apply LO.XZ;(first|fail|fail))|(apply WD.Xz;exact rfl;rotate_left;exact rfl;exact rfl;apply LO.XZ;(first|fail|fail);apply Qb;(intro _;exact ltA))|(apply LO.XZ;(first|fail|fail);apply Qb;(intro _;exact ltA))|fail)
 exact Bx.h h):G:=s ⟨h⟩
def goEV{G G':Prop}(h:G')(s:Bx G'->G:=by
 intro h
 (first|(apply WL.Q9;rotate_left;exact rfl;exact rfl;(first|(apply LO.VV;exact rfl;exact rfl;exact hmA;(intro _;exact seA);omega;omega)|fail))|(apply WD.Q9;exact rfl;rotate_left;exact rfl;exact rfl;(first|(apply LO.VV;exact rfl;exact rfl;exact hmA;(intro _;exact seA);omega;omega)|fail);apply Qb;(intro _;exact ltA))|((first|(apply LO.VV;exact rfl;exact rfl;exact hmA;(intro _;exact seA);omega;omega)|fail);apply Qb;(intro _;exact ltA))|fail)
 exact Bx.h h):G:=s ⟨h⟩
end K
end
section
open W Go.RowKit
open Bl (Vc Bd Tc Sc)
def W.FnB.more{P:Program}{f:FuncId}{args:List Value}{bx:List Ow}{F F':List Fct}{R:Qg}(h:FnB P f args bx F R)(hs:∀g∈F,g∈F'):FnB P f args bx F' R:=⟨h.1,λfr w ho=>h.2 fr w (ho.less hs)⟩
def Gp(S:Sc)(i t:Nat)(e:Ed)(f:Vc):Rat:=if t=0 then f.x else if t=1 then f.y else Bl.JE (Bl.XY e.at' (S.B i).c) f
def gx(S:Sc)(i t k:Nat):Rat:=Gp S i t (edT S.T k) (Bl.on (S.T (k/2)) i (S.T (k/2)).n)
def gy(S:Sc)(i t k:Nat):Rat:=Gp S i t (edT S.T k) (Bl.on (S.T (k/2)) i (Bl.turn (S.T (k/2)).n))
def sgi(j:Nat):Int:=if j%2=0 then 1 else -1
def prX(S:Sc)(w:Nat->Rat)(r:Nat):LnX:=if r<6*S.n then⟨2*(2*S.m),co2 (gx S (r/6) (r%6/2)) (gy S (r/6) (r%6/2)) (Rat.divInt (sgi r) 1),(if r%6/2=1 then w (r/6) else 0)*Rat.divInt (sgi r) 1⟩ else JJ S (r-6*S.n)
def prX_b{S:Sc}{w:Nat->Rat}{i t j:Nat}(hi:i<S.n)(ht:t<3)(hj:j<2):prX S w (6*i+(2*t+j))=⟨2*(2*S.m),co2 (gx S i t) (gy S i t) (Rat.divInt (sgi j) 1),(if t=1 then w i else 0)*Rat.divInt (sgi j) 1⟩:=by
 unfold prX;rw[if_pos qo,show(6*i+(2*t+j))/6=i by omega,show(6*i+(2*t+j))%6/2=t by omega,show sgi (6*i+(2*t+j))=sgi j by unfold sgi;rw[show(6*i+(2*t+j))%2=j%2 by omega]]
def JY(S:Sc)(M:SM)(i t gi gb gf:Nat):Fct:=fcj [ce gf 166 [.func (.func (if t=0 then 106 else if t=1 then 107 else 108)) #[] (if t=2 then[ptr gb] else[]).toArray],ce gi 3 [.int .i64 (i:Int)],fcj [ce gb 88 (bcs (M.B i)),fB (M.B i) (S.B i)]]
namespace K
attribute [local irreducible] WC WL WD YO LO Qq W.Fin Qk Qw Qj Row QJ Qv KnS Has W.One Qa Qs
def parts_c(S:Sc)(M:SM)(i t gi gb gf:Nat)(ht:t<3)(hi:i<S.n)(hn:S.n<=5)(K:Nat)(h0K:0<K)(hK:K<=100000)(hs:Ss K S)(k:Nat)(hk:k<2*S.m) :
  FnB Tryz.prog 103 ([]++[edv (edM M.T k) (edT S.T k)]++[ptr gf,ptr gi]) [] [fE (edM M.T k) (edT S.T k),JY S M i t gi gb gf] (IsR2 (gx S i t k) (gy S i t k)):=by
 have hk2:k/2<S.m:=qo;have hn2:Sv K (edT S.T k).t.n:=(hs.T _ hk2).2.2.1
 have hat:Sv K (edT S.T k).at':=by
  unfold edT;simp only;split
  ·exact(hs.T _ hk2).1
  ·exact(hs.T _ hk2).2.1
 refine W.FnB.cj ?_;match t,ht with
 |0,_=>exact part_c gf gi i qo 106 [] (edM M.T k) (edT S.T k) K h0K qo hn2 (Gp S i 0 (edT S.T k)) _ λmv f _=>(forcex_c (edM M.T k) (edT S.T k) mv f).more (by simp)
 |1,_=>exact part_c gf gi i qo 107 [] (edM M.T k) (edT S.T k) K h0K qo hn2 (Gp S i 1 (edT S.T k)) _ λmv f _=>(forcey_c (edM M.T k) (edT S.T k) mv f).more (by simp)
 |2,_=>exact part_c gf gi i qo 108 [ptr gb] (edM M.T k) (edT S.T k) K h0K qo hn2 (Gp S i 2 (edT S.T k)) _ λmv f hf=>W.FnB.cj2 (torque_c (edM M.T k) (edT S.T k) mv f gb (M.B i) (S.B i) K qo hat hf (hs.B i hi).1)
def Kg(S:Sc)(M:SM)(w:Nat->Rat)(i t j gi gb gf g3 g4:Nat)(va lv gv:Value)(ms:Nat->LnM)(mb:QM)(ho:S.ok)(ht:t<3)(hj:j<2)(hi:i<S.n)(K:Nat)(h0K:0<K)(hK:K<=100000)(hs:Ss K S)(hw:∀i,i<S.n->Sq K (w i)) :
  FnB Tryz.prog 100 [.int .i64 (sgi j),qv mb,.func (.func 103) #[] #[ptr gf,ptr gi],ptr g3,ptr g4] [Ow.cells g4 118 [.int .i64 (2*((2*S.m:Nat):Int)),lv,gv],lO Qr lv 141 (6*i+(2*t+j)) ms (prX S w)]
   [isQ (qv mb) (if t=1 then w i else 0),ce g3 159 [va],lF Jc va (2*S.m) (edM M.T) (edT S.T),JY S M i t gi gb gf] (IsAdd g4 (2*((2*S.m:Nat):Int)) gv (6*i+(2*t+j)) ms (prX S w)):=by
 have hn:=ho.n;have hm:=ho.m;have hsn:∀k,k<2*S.m->Sv K (S.T (k/2)).n:=λk hk=>(hs.T (k/2) qo).2.2.1
 have hsa:∀k,k<2*S.m->Sv K (edT S.T k).at':=λk hk=>by
  unfold edT;simp only;split
  ·exact(hs.T _ qo).1
  ·exact(hs.T _ qo).2.1
 have hon:∀k f,Sv K f->Sv K (Bl.on (S.T (k/2)) i f):=λk f h=>by
  unfold Bl.on;split
  ·exact h
  ·split
   ·exact⟨h.1.neg,h.2.neg⟩
   ·exact⟨Sq.zero.up h0K,Sq.zero.up h0K⟩
 have hg:∀k f,k<2*S.m->Sv K f->Sq (6*K+3) (Gp S i t (edT S.T k) f):=λk f hk hf=>by
  unfold Gp;split
  ·exact hf.1.up qo
  ·split
   ·exact hf.2.up qo
   ·have h1:=((hsa k hk).1.sub (hs.B i hi).1.1).mul hf.2;have h2:=((hsa k hk).2.sub (hs.B i hi).1.2).mul hf.1;exact(h1.sub h2).up qo
 refine Uo g3 g4 va (2*S.m) _ (edM M.T) (edT S.T) (sgi j) (by unfold sgi;split<;>decide) mb _ lv gv _ ms (prX S w) _ [ptr gf,ptr gi] _ (gx S i t) (gy S i t) (6*K+3) qo qo qo qo ?_ (λk hk=>hg k _ hk (hon k _ (hsn k hk))) (λk hk=>hg k _ hk (hon k _ ⟨(hsn k hk).2.neg,(hsn k hk).1⟩)) (prX_b hi ht hj) λk hk=>parts_c S M i t gi gb gf ht hi hn K h0K hK hs k hk;split
 ·exact(hw i hi).up qo
 ·exact Sq.zero.up qo
end K
end
section
open W Go.RowKit
abbrev TM(xg vars m n:Nat)(tv cv bv:Value)(rv:Nat->Value)(ms:Nat->Nat->QM)(b:Nat->Nat):List Ow:=
 Ow.cells xg 177 [.int .i64 (vars:Int),.int .i64 (m:Int),.int .i64 (n:Int),tv,cv,bv]::Ow.slice tv 61 1 (fnV m rv)::Ow.slice bv 3 1 (ints (fnL m b))::JB m (n+1) rv ms
def cs0(n:Nat)(c1:Nat->Rat)(j:Nat):Rat:=if j<n then c1 j else 0
def prS(n:Nat)(c1:Nat->Rat)(s:X.St):Nat->Nat->Rat
 |0=>cs0 n c1
 |i+1=>λj=>prS n c1 s i j-prS n c1 s i (s.b i)*s.t i j
def csx(n:Nat)(c1:Nat->Rat)(k j:Nat):Rat:=if j<k/\j<n then c1 j else 0
def csx_up{n:Nat}{c1:Nat->Rat}{k:Nat}(hk:k<n)(i:Nat):upd (csx n c1 k) k (c1 k) i=csx n c1 (k+1) i:=by
 unfold csx upd;by_cases c:i=k
 ·subst c;simp[hk]
 ·by_cases c2:i<k
  ·simp[c,c2,show i<k+1 by omega]
  ·simp[c,c2,show ¬i<k+1 by omega]
def IsPr(xg vars m n:Nat)(tv bv:Value)(rv:Nat->Value)(ms:Nat->Nat->QM)(b:Nat->Nat)(z:Nat->Rat):Qg:=λv B G=>∃cv mc,v=.tuple #[]/\B=TB xg vars m n tv cv bv rv ms mc b/\G=[mF (n+1) mc z]
namespace Z
attribute [local irreducible] WC WL WD YO LO Qq W.Fin Qk Qw Qj Row QJ Qv KnS Has W.One Qa Qs
def d114{G G':Prop}(h:G')(s:Bx G'->G:=by
 intro h;first|refine gB ?_|(apply WC.draw (id:=4) [0,1,2,3,4,5,6,8] (.h 0<|.h 1<|.h 2<|.h 3<|.h 4<|.h 5<|.h 6<|.l 7<|.h 8<|.l 9 .done) mixed kr)|(apply WC.draw (id:=9) [0,1,2,3,4,5,6,7,8,9,10,11] (.h 0<|.h 1<|.h 2<|.h 3<|.h 4<|.h 5<|.h 6<|.h 7<|.h 8<|.h 9<|.h 10<|.h 11<|.l 12 .done) mixed kr)|fail
 exact Bx.h h):G:=s ⟨h⟩
def price_c(xg vars m n:Nat)(tv cv0 bv:Value)(rv:Nat->Value)(ms:Nat->Nat->QM)(s:X.St)(K:Nat)(f:FuncId)(first cap:List Value)(Fc:List Fct)(c1:Nat->Rat)
  (hf:∀k:Nat,k<n->FnB Tryz.prog f (first++[.int .i64 (k:Int)]++cap) [] Fc (IsR (c1 k)))
  (hm:m<=1000) (hn:n<=10000) (hK:K<=100000000) (hb:∀i,i<m->s.b i<n) (hs:∀i,i<m->∀k,k<n+1->Sq K (s.t i k)) (hc:∀i,i<=m->∀k,k<n+1->Sq K (prS n c1 s i k)) :
  FnB Tryz.prog 114 [ptr xg,.func (.func f) first.toArray cap.toArray] (TM xg vars m n tv cv0 bv rv ms s.b) (mT m (n+1) ms s.t::Fc) (IsPr xg vars m n tv bv rv ms s.b (prS n c1 s m)):=by
 refine fO [(0,(ptr xg)),(1,(.func (.func f) first.toArray cap.toArray))] 57 Tryz.func114 Tryz.ntmps114 λh0=>?_;repeat'(first|intro(g:Nat)|refine d114 ?_|intro v)
 revert v;intro cv;have hb0:(∀r,(0:Nat)=r->True):=λ_ _=>trivial
 refine WC.lp (σ:=Nat×(Nat->QM)) (λst=>[(20,.int .i64 (st.1:Int)),(19,.int .i64 (n:Int)),(0,ptr xg),(1,.func (.func f) first.toArray cap.toArray)])
  (λst=>Ow.slice cv 75 4 (Qe (n+1) st.2)::Ow.cells xg 177 [.int .i64 (vars:Int),.int .i64 (m:Int),.int .i64 (n:Int),tv,cv,bv]::Ow.slice tv 61 1 (fnV m rv)::Ow.slice bv 3 1 (ints (fnL m s.b))::JB m (n+1) rv ms)
  (λst=>mF (n+1) st.2 (csx n c1 st.1)::ge h0::mT m (n+1) ms s.t::Fc) (λst=>st.1<=n) (λst=>n-st.1) (0,λ_=>m00) (Nat.zero_le _) ?_ (hG:=.cons ((W.Has.mF0 (n+1)).QH λi _=>by simp[csx]) (.cons hmA (.cons hmA (Qu.tail λ_ h=>by(repeat(first|exact h|apply List.mem_cons_of_mem))))))
 rintro⟨k,mx⟩ hk;simp only at hk ⊢;by_cases c:k<n
 ·repeat'(first|intro(g:Nat)|refine d114 ?_|intro v)
  refine WD.J9 first cap (vs:=[.int .i64 (k:Int)]) (hf k c) ?_ (hF:=(Qu.tail λ_ h=>by(repeat(first|exact h|apply List.mem_cons_of_mem))))
  rintro _ _ _ ⟨mk,rfl,rfl,rfl⟩;refine sNn ?_;refine WD.fact (mF (n+1) (upd mx k mk) (csx n c1 (k+1))) ((W.Has.JL (k:=k) (ms:=mx) (m:=mk) (qf:=csx n c1 k) hmA hmA).QH λi _=>csx_up c i) ?_;repeat'(first|intro(g:Nat)|refine d114 ?_|intro v)
  exact Qq.mk (k+1,_) (by show k+1<=n;omega) (by show n-(k+1)<n-k;omega) (hG:=.cons hmA (.cons hmA (.cons hmA (Qu.tail λ_ h=>by(repeat(first|exact h|apply List.mem_cons_of_mem))))))
 ·obtain rfl:n=k:=qo;repeat'(first|intro(g:Nat)|refine d114 ?_|intro v)
  refine WC.perm (Ow.cells xg 177 [.int .i64 (vars:Int),.int .i64 (m:Int),.int .i64 (n:Int),tv,cv,bv]::Ow.slice tv 61 1 (fnV m rv)::Ow.slice cv 75 4 (Qe (n+1) mx)::Ow.slice bv 3 1 (ints (fnL m s.b))::JB m (n+1) rv ms) (perm3 _ _ _ _) ?_
  refine WC.lpP (σ:=Nat×(Nat->QM)) (λst=>[(38,.int .i64 (st.1:Int)),(37,.int .i64 (m:Int)),(36,bv),(0,ptr xg)])
   (λst=>Ow.cells xg 177 [.int .i64 (vars:Int),.int .i64 (m:Int),.int .i64 (n:Int),tv,cv,bv]::Ow.slice tv 61 1 (fnV m rv)::Ow.slice cv 75 4 (Qe (n+1) st.2)::Ow.slice bv 3 1 (ints (fnL m s.b))::JB m (n+1) rv ms)
   (λst=>[mF (n+1) st.2 (prS n c1 s st.1),ge h0,mT m (n+1) ms s.t]) (λst=>st.1<=m) (λst=>m-st.1) (0,mx) (Nat.zero_le _) ?_ (hG:=.cons (W.Has.QH (qf:=csx n c1 n) hmA λi _=>by unfold csx prS cs0;by_cases h:i<n<;>simp[h]) (.cons hmA (.cons hmA .nil)))
  clear c hk;rintro⟨i,my⟩ hi;simp only at hi ⊢;by_cases ci:i<m
  ·have hbi:=hb i ci;repeat'(first|intro(g:Nat)|refine d114 ?_|intro v)
   refine WD.fact (mF (n+1) (ms i) (s.t i)) (W.Has.tm hmA ci) ?_;refine WD.YZ [Ow.slice cv 75 4 (Qe (n+1) my),XW (n+1) (rv i) (ms i)] (Ow.cells xg 177 [.int .i64 (vars:Int),.int .i64 (m:Int),.int .i64 (n:Int),tv,cv,bv]::Ow.slice tv 61 1 (fnV m rv)::Ow.slice bv 3 1 (ints (fnL m s.b))::Zy m (n+1) rv ms i) (perm5 (JM ci)) (wipe_c cv (rv i) (n+1) (s.b i) K my (ms i) (prS n c1 s i) (s.t i) qo qo hK (hc i hi) (hs i ci)) ?_;rintro _ _ _ ⟨mz,rfl,rfl,rfl⟩;refine sNn ?_;repeat'(first|intro(g:Nat)|refine d114 ?_|intro v)
   exact J7.mk (i+1,mz) (by show i+1<=m;omega) (by show m-(i+1)<m-i;omega) [] (by rw[List.append_nil];exact(perm5 (JM ci)).symm)
  ·obtain rfl:m=i:=qo;repeat'(first|intro(g:Nat)|refine d114 ?_|intro v)
   exact Fin.p (TB xg vars m n tv cv bv rv ms my s.b) [mF (n+1) my (prS n c1 s m)] (Qh.t0 rfl) meA (List.Sublist.refl _) haA ⟨cv,my,rfl,rfl,rfl⟩
end Z
end
section
open W Go.RowKit
def qcell_sh(ms:Nat->QM)(lo j:Nat):JU ms (lo*4+j)=JU (λi=>ms (lo+i)) j:=by
 unfold JU;rw[show(lo*4+j)/4=lo+j/4 by omega,show(lo*4+j)%4=j%4 by omega]
def W.Has.subF{F:List Fct}{v:Value}{n lo hi:Nat}{ms:Nat->QM}{q:Nat->Rat}(h:Has F (fF v n ms q))(h1:lo<=hi)(h2:hi<=n):Has F (fF (resl v lo hi 4) (hi-lo) (λi=>ms (lo+i)) (λi=>q (lo+i))):=λp hf=>by
 have h3:=Has.sub h.fs h1 h2 p hf;refine⟨?_,λi hi'=>h.fm p hf (lo+i) qo⟩;have:(λj=>JU ms (lo*4+j))=JU (λi=>ms (lo+i)):=funext λj=>qcell_sh ms lo j
 rwa [this] at h3
def W.Has.subM{F:List Fct}{v:Value}{n lo m:Nat}{ms:Nat->QM}{q:Nat->Rat}(h:Has F (fF v n ms q))(h2:lo+m<=n):Has F (fF (resl v lo (lo+m) 4) m (λi=>ms (lo+i)) (λi=>q (lo+i))):=by
 have:=W.Has.subF h (lo:=lo) (hi:=lo+m) qo h2
 rwa [Nat.add_sub_cancel_left] at this
def Zt(m n:Nat)(s:X.St)(k:Nat):Rat:=match X.fstT (λi=>decide (s.b i=k)) m 0 with
 |none=>0
 |some i=>s.t i n
def Zq(m:Nat)(s:X.St)(col k:Nat):Rat:=if k=col then 1 else match X.fstT (λi=>decide (s.b i=k)) m 0 with
 |none=>0
 |some i=>-s.t i col
def ZB{p:Nat->Bool}{m i:Nat}(h:X.fstT p m 0=some i):i<m:=by
 rcases X.Xe p m 0 with ⟨h1,_⟩|⟨j,h1,_,h3,_⟩
 ·rw[h] at h1;cases h1
 ·rw[h] at h1;cases h1;omega
namespace Z
attribute [local irreducible] WC WL WD YO LO Qq W.Fin Qk Qw Qj Row QJ Qv KnS Has W.One Qa Qs
def d117{G G':Prop}(h:G')(s:Bx G'->G:=by
 intro h;first|refine gB ?_|(apply WC.draw (id:=1) [0,1,2,3,4,5,6,7,8,9,10,11,12,13,14,15,16,17,18,19,21] (.h 0<|.h 1<|.h 2<|.h 3<|.h 4<|.h 5<|.h 6<|.h 7<|.h 8<|.h 9<|.h 10<|.h 11<|.h 12<|.h 13<|.h 14<|.h 15<|.h 16<|.h 17<|.h 18<|.h 19<|.l 20<|.h 21 .done) mixed kr)|fail
 exact Bx.h h):G:=s ⟨h⟩
def d124{G G':Prop}(h:G')(s:Bx G'->G:=by
 intro h;first|refine gB ?_|(apply WC.draw (id:=3) [0,1,2,3,4,5,6,7,8,9,10,11,12] (.h 0<|.h 1<|.h 2<|.h 3<|.h 4<|.h 5<|.h 6<|.h 7<|.h 8<|.h 9<|.h 10<|.h 11<|.h 12<|.l 13 .done) mixed kr)|fail
 exact Bx.h h):G:=s ⟨h⟩
def slacks_c(xg vars m n:Nat)(tv cv bv:Value)(mc:Nat->QM)(c:Nat->Rat)(hv:vars<=1000)(hm:m<=1000)(hn:2*vars+m<=n+1) :
  FnB Tryz.prog 117 [ptr xg] [] [ce xg 177 [.int .i64 (vars:Int),.int .i64 (m:Int),.int .i64 (n:Int),tv,cv,bv],fF cv (n+1) mc c] (IsF m (λr=>c (2*vars+r))):=by
 refine fO [(0,(ptr xg))] 24 Tryz.func117 Tryz.ntmps117 λh0=>?_;repeat'(first|intro(g:Nat)|refine d117 ?_|intro v)
 rw[show(2:Int)*(vars:Int)+(m:Int)=((2*vars+m:Nat):Int) by simp,show(2:Int)*(vars:Int)=((2*vars:Nat):Int) by simp];repeat'(first|intro(g:Nat)|refine d117 ?_|intro v)
 refine WD.fact (fF (resl cv (2*vars) (2*vars+m) 4) m (λi=>mc (2*vars+i)) (λi=>c (2*vars+i))) (W.Has.subM (v:=cv) (ms:=mc) (q:=c) hmA hn) ?_;first|refine WD.QA (clone_c (resl cv (2*vars) (2*vars+m) 4) m (λi=>mc (2*vars+i)) (λi=>c (2*vars+i)) qo) ?_|skip
 rintro v1 _ _ ⟨ms1,rfl,rfl⟩;refine sNn ?_;repeat'(first|intro(g:Nat)|refine d117 ?_|intro v)
 refine WC.ret ?_;exact Fp [fF v1 m ms1 (λi=>c (2*vars+i))] (Qh.t1 rfl rfl) haA ⟨ms1,rfl,rfl⟩
def now_c(xg vars m n k:Nat)(tv cv bv:Value)(rv:Nat->Value)(ms:Nat->Nat->QM)(s:X.St) :
  FnB Tryz.prog 124 [ptr xg,.int .i64 (k:Int)] [] (TF xg vars m n tv cv bv rv ms s) (IsR (Zt m n s k)):=by
 refine fO [(0,(ptr xg)),(1,(.int .i64 (k:Int)))] 28 Tryz.func124 Tryz.ntmps124 λh0=>?_;repeat'(first|intro(g:Nat)|refine d124 ?_|intro v)
 refine cV (index_c bv m k s.b) ?_;cases hf:X.fstT (λi=>decide (s.b i=k)) m 0 with
 |none=>
  have e:Zt m n s k=0:=by unfold Zt;rw[hf]
  rw[e];rw[show Xt none= -1 from rfl];repeat'(first|intro(g:Nat)|refine d124 ?_|intro v)
  refine WC.ret ?_;exact Fp [isQ (qv m00) 0] (rcV T.r75) (.cons Jm .nil) ⟨m00,rfl,rfl,rfl⟩
 |some i=>
  have hi:=ZB hf;have e:Zt m n s k=s.t i n:=by unfold Zt;rw[hf]
  rw[e];rw[show Xt (some i)=(i:Int) from rfl];refine WL.QE (isQ (qv (ms i n)) (s.t i n)) (W.Has.qt (W.Has.rt (rv:=rv) hmA) hi qo) ?_;repeat'(first|intro(g:Nat)|refine d124 ?_|intro v)
  refine WC.ret ?_;exact Fp [isQ (qv (ms i n)) (s.t i n)] (rcV T.r75) haA ⟨ms i n,rfl,rfl,rfl⟩
def ray_c(xg vars m n k col:Nat)(tv cv bv:Value)(rv:Nat->Value)(ms:Nat->Nat->QM)(s:X.St)(hcol:col<n) :
  FnB Tryz.prog 123 [ptr xg,.int .i64 (k:Int),.int .i64 (col:Int)] [] (TF xg vars m n tv cv bv rv ms s) (IsR (Zq m s col k)):=by
 refine fO [(0,(ptr xg)),(1,(.int .i64 (k:Int))),(2,(.int .i64 (col:Int)))] 32 Tryz.func123 Tryz.ntmps123 λh0=>?_;by_cases ck:k=col
 ·have e:Zq m s col k=1:=by unfold Zq;rw[if_pos ck]
  rw[e];repeat'(first|intro(g:Nat)|refine gA ?_|intro v)
  refine cW (Zn.of 1 1 qd qd) λm1=>?_;rw[show Rat.divInt 1 1=1 by decide +kernel];repeat'(first|intro(g:Nat)|refine gA ?_|intro v)
  refine WC.ret ?_;exact Fp [isQ (qv m1) 1] (rcV T.r75) haA ⟨m1,rfl,rfl,rfl⟩
 repeat'(first|intro(g:Nat)|refine gA ?_|intro v)
 refine cV (index_c bv m k s.b) ?_;cases hf:X.fstT (λi=>decide (s.b i=k)) m 0 with
 |none=>
  have e:Zq m s col k=0:=by unfold Zq;rw[if_neg ck,hf]
  rw[e];rw[show Xt none= -1 from rfl];repeat'(first|intro(g:Nat)|refine gA ?_|intro v)
  refine WC.ret ?_;exact Fp [isQ (qv m00) 0] (rcV T.r75) (.cons Jm .nil) ⟨m00,rfl,rfl,rfl⟩
 |some i=>
  have hi:=ZB hf;have e:Zq m s col k= -s.t i col:=by unfold Zq;rw[if_neg ck,hf]
  rw[e];rw[show Xt (some i)=(i:Int) from rfl];refine WL.QE (isQ (qv (ms i col)) (s.t i col)) (W.Has.qt (W.Has.rt (rv:=rv) hmA) hi qo) ?_;repeat'(first|intro(g:Nat)|refine gA ?_|intro v)
  refine cW (Zn.neg (ms i col) (s.t i col)) λm1=>?_;repeat'(first|intro(g:Nat)|refine gA ?_|intro v)
  refine WC.ret ?_;exact Fp [isQ (qv m1) (-s.t i col)] (rcV T.r75) haA ⟨m1,rfl,rfl,rfl⟩
end Z
end
section
namespace X
structure Szs(p:Lp)(K0 K L:Nat):Prop where
 pos:0<K0
 a:∀r,r<p.m->∀k,k<p.v->Sq K0 (p.a r k)
 b:∀r,r<p.m->Sq K0 (p.b r)
 g:∀k,k<p.v->Sq K0 (p.g k)
 k:2*(p.m*(50*K0+2)+1)+K0<=K
 v:p.v<=48
 m:p.m<=128
 l:p.m*(K0+K+1)+1+K0+1<=L
 t:L<=20000000
 kl:K<=L
 d:p.v*(2*(2*K+1)+1)+1+2*(2*K+1)<=400000000
def sq_one:Sq 1 1:=by
 constructor
 ·show(Qx 1).length<=1;rw[Jl qd qd];decide
 ·show(Qx 1).length<=1;rw[Jl qd qd];decide
section
variable {p:Lp}{K0 K L:Nat}
def Lp.dl(p:Lp)(r:Nat):Nat:=dp (λk=>if k<p.v then p.a r k else p.b r) (p.v+1)
def Gz{r:Nat}{x y:Rat}{B:Nat}(h:∃z:Int,y*x=z/\z.natAbs<=B):∃z:Int,y*(p.sg r*x)=z/\z.natAbs<=B:=by
 obtain⟨z,h1,h2⟩:=h;unfold Lp.sg;split
 ·exact⟨-z,by rw[Rat.intCast_neg,<-h1];grind,by rw[Int.natAbs_neg];exact h2⟩
 ·exact⟨z,by rw[<-h1];grind,h2⟩
def lt_pow{k x:Nat}(h:(Qx x).length<=k):x<=1000000000^k:=Nat.le_of_lt (Nat.lt_of_lt_of_le XF (Nat.pow_le_pow_right qd h))
def Szs.dA(h:Szs p K0 K L){r:Nat}(hr:r<p.m)(j:Nat):∃z:Int,(p.dl r:Rat)*p.A r j=z/\z.natAbs<=(1000000000^K0)^(p.v+2):=by
 have hq:∀k,k<p.v+1->Sq K0 (if k<p.v then p.a r k else p.b r):=λk _=>by
  split
  ·exact h.a r hr k (by assumption)
  ·exact h.b r hr
 have hd:p.dl r<=(1000000000^K0)^(p.v+1):=dp_le λk hk=>lt_pow (hq k hk).2;have hW:1<=1000000000^K0:=Nat.pow_pos qd;have hb:p.dl r<=(1000000000^K0)^(p.v+2):=Nat.le_trans hd (Nat.pow_le_pow_right hW qo)
 have hx:∀k,k<p.v+1->∃z:Int,(p.dl r:Rat)*(if k<p.v then p.a r k else p.b r)=z/\z.natAbs<=(1000000000^K0)^(p.v+2):=λk hk=>by
  obtain⟨z,h1,h2⟩:=dp_int (f:=λk=>if k<p.v then p.a r k else p.b r) hk;refine⟨z,h1,Nat.le_trans h2 ?_⟩;rw[show p.v+2=(p.v+1)+1 from rfl,Nat.pow_succ];exact Nat.mul_le_mul hd (lt_pow (hq k hk).1)
 have ha:∀k,k<p.v->∃z:Int,(p.dl r:Rat)*p.a r k=z/\z.natAbs<=(1000000000^K0)^(p.v+2):=λk hk=>by
  have:=hx k qo;rwa [if_pos hk] at this
 have h1:∃z:Int,(p.dl r:Rat)*(1:Rat)=z/\z.natAbs<=(1000000000^K0)^(p.v+2):=⟨(p.dl r:Int),by rw[Rat.mul_one];rfl,hb⟩
 have h0:∃z:Int,(p.dl r:Rat)*(0:Rat)=z/\z.natAbs<=(1000000000^K0)^(p.v+2):=⟨0,by rw[Rat.mul_zero];rfl,Nat.zero_le _⟩
 unfold Lp.A;split
 ·exact Gz (ha j (by assumption))
 ·split
  ·obtain⟨z,h3,h4⟩:=Gz (p:=p) (r:=r) (ha (j-p.v) qo);exact⟨-z,by rw[Rat.intCast_neg,<-h3];grind,by rw[Int.natAbs_neg];exact h4⟩
  ·split
   ·split
    ·obtain⟨z,h3,h4⟩:=Gz (p:=p) (r:=r) h1;exact⟨z,by rw[<-h3];grind,h4⟩
    ·exact h0
   ·split
    ·split
     ·exact h1
     ·exact h0
    ·have:=hx p.v qo;rw[if_neg qo] at this;exact Gz this
def Szs.T(h:Szs p K0 K L){c1:Nat->Rat}{s:St}(hi:Inv p.m p.n p.A c1 s){i:Nat}(him:i<p.m){j:Nat}(hj:j<p.n+1):Sq K (s.t i j):=by
 obtain⟨a,b,_,h2,h3,h4⟩:=hi.ratio inv0 (f:=λr=>(p.dl r:Rat)) (λr hr i hi=>A_art hi) (λr hr hx=>by
  have:=dp_pos (f:=λk=>if k<p.v then p.a r k else p.b r) (p.v+1);have h5:p.dl r=0:=by exact_mod_cast hx
  unfold Lp.dl at h5;omega) (λr hr j _=>h.dA hr j) him (j:=j) qo
 have hl:(Qx ((1000000000^K0)^(p.v+2))).length<=50*K0+1:=by
  refine Nat.le_trans (QN (k:=K0*(p.v+2)+1) ?_) ?_
  ·rw[<-Nat.pow_mul];exact Nat.pow_lt_pow_right qd qo
  ·have:=Nat.mul_le_mul_left K0 (show p.v+2<=50 by have:=h.v;omega);omega
 have hb:=bdt_len hl (m:=p.m) (by have:=h.m;omega);have hk:=h.k;rw[h2];refine(Sq.div (k:=p.m*(50*K0+2)+1) (l:=p.m*(50*K0+2)+1) qo (Sq.int (Nat.le_trans (Jp h3) hb) qo) (Sq.int (Nat.le_trans (Jp h4) hb) qo)).up qo
def Szs.c1(h:Szs p K0 K L)(j:Nat):Sq K0 (p.c1 j):=by
 unfold Lp.c1;split
 ·exact sq_one.up h.pos
 ·exact Sq.zero.up h.pos
def Szs.c2(h:Szs p K0 K L)(j:Nat):Sq K0 (p.c2 j):=by
 unfold Lp.c2;split
 ·exact(h.g j (by assumption)).neg
 ·split
  ·exact h.g _ qo
  ·exact Sq.zero.up h.pos
def Szs.sum(h:Szs p K0 K L){c1:Nat->Rat}(hc:∀j,Sq K0 (c1 j)){s:St}(hs:∀i,i<p.m->∀j,j<p.n+1->Sq K (s.t i j)){x:Rat}(hx:Sq K0 x){i:Nat}(hi:i<=p.m){j:Nat}(hj:j<p.n+1):Sq L (x-sm i λr=>c1 (s.b r)*s.t r j):=by
 have h1:=Zh (m:=i) (f:=λr=>c1 (s.b r)*s.t r j) (k:=K0+K) λr hr=>(hc _).mul (hs r qo j hj);refine(hx.sub h1).up ?_;have:=Nat.mul_le_mul_right (K0+K+1) hi;have:=h.l;omega
def Szs.C(h:Szs p K0 K L){c1:Nat->Rat}(hc:∀j,Sq K0 (c1 j)){s:St}(hi:Inv p.m p.n p.A c1 s){j:Nat}(hj:j<p.n+1):Sq L (s.c j):=by
 rw[hi.cost qo];exact h.sum hc (λi him j hj=>h.T hi him hj) (hc j) (Nat.le_refl _) hj
def prS_eq{n m:Nat}{c1:Nat->Rat}{s:St}(hb:∀i,i<m->s.b i<n)(hu:∀i,i<m->∀k,k<m->s.t i (s.b k)=if i=k then 1 else 0):∀i,i<=m->∀j,prS n c1 s i j=cs0 n c1 j-sm i λr=>c1 (s.b r)*s.t r j:=by
 intro i;induction i with
 |zero=>intro _ j;show cs0 n c1 j=cs0 n c1 j-0;grind
 |succ i ih=>
  intro hi j
  have e:prS n c1 s i (s.b i)=c1 (s.b i):=by
   rw[ih qo,Ja λr hr=>by rw[hu r qo i qo,if_neg qo];grind];unfold cs0;rw[if_pos (hb i qo)];grind
  show prS n c1 s i j-prS n c1 s i (s.b i)*s.t i j=_;rw[e,ih qo];show _=cs0 n c1 j-(sm i (λr=>c1 (s.b r)*s.t r j)+c1 (s.b i)*s.t i j);grind
def prS_prc{n m:Nat}{c1:Nat->Rat}{s:St}(hb:∀i,i<m->s.b i<n)(hu:∀i,i<m->∀k,k<m->s.t i (s.b k)=if i=k then 1 else 0)(hn:c1 n=0){j:Nat}(hj:j<n+1):prS n c1 s m j=(prc m c1 s).c j:=by
 rw[prS_eq hb hu m (Nat.le_refl _)];show cs0 n c1 j-_=c1 j-_
 congr 1
 unfold cs0;split
 ·rfl
 ·rw[show j=n by omega,hn]
def Szs.P(h:Szs p K0 K L){c1 c0:Nat->Rat}(hc:∀j,Sq K0 (c1 j)){s:St}(hi:Inv p.m p.n p.A c0 s){i:Nat}(him:i<=p.m){j:Nat}(hj:j<p.n+1):Sq L (prS p.n c1 s i j):=by
 rw[prS_eq hi.bd hi.u i him];refine h.sum hc (λi him j hj=>h.T hi him hj) ?_ him hj;unfold cs0;split
 ·exact hc j
 ·exact Sq.zero.up h.pos
def nowV_wt{m n:Nat}{A:Nat->Nat->Rat}{c0:Nat->Rat}{s:St}(h:Inv m n A c0 s)(k:Nat):Zt m n s k=wt m s (λi=>s.t i n) k:=by
 unfold Zt wt;rcases Xe (λi=>decide (s.b i=k)) m 0 with ⟨h1,h2⟩|⟨i,h1,_,h3,h4,_⟩
 ·rw[h1];exact(Ja λi hi=>if_neg (of_decide_eq_false (h2 i qo qo))).symm
 ·rw[h1];have hb:=of_decide_eq_true h4;rw[JQ (r:=i) qo λj hj hne=>if_neg λhx=>hne (h.inj hj qo (by rw[hx,hb])),if_pos hb]
def nowV_sz{m n K:Nat}{s:St}(hK:0<K)(hs:∀i,i<m->Sq K (s.t i n))(k:Nat):Sq K (Zt m n s k):=by
 unfold Zt;cases hf:fstT (λi=>decide (s.b i=k)) m 0 with
 |none=>exact Sq.zero.up hK
 |some i=>exact hs i (ZB hf)
def H8{m K:Nat}{s:St}{col:Nat}(hK:0<K)(hs:∀i,i<m->Sq K (s.t i col))(k:Nat):Sq K (Zq m s col k):=by
 unfold Zq;split
 ·exact sq_one.up hK
 ·cases hf:fstT (λi=>decide (s.b i=k)) m 0 with
  |none=>exact Sq.zero.up hK
  |some i=>exact(hs i (ZB hf)).neg
def rayV_rv{p:Lp}{c0:Nat->Rat}{s:St}(h:Inv p.m p.n p.A c0 s){col:Nat}(hc:s.c col<0)(k:Nat):Zq p.m s col k=rv p s col k:=by
 unfold Zq rv;by_cases e:k=col
 ·rw[if_pos e,if_pos e];subst e;have h0:wt p.m s (λi=>s.t i k) k=0:=Ja λi hi=>if_neg λhb=>h.non hc ⟨i,hi,hb⟩;rw[h0];grind
 ·rw[if_neg e,if_neg e];unfold wt;rcases Xe (λi=>decide (s.b i=k)) p.m 0 with ⟨h1,h2⟩|⟨i,h1,_,h3,h4,_⟩
  ·rw[h1,Ja λi hi=>if_neg (of_decide_eq_false (h2 i qo qo))];grind
  ·rw[h1];have hb:=of_decide_eq_true h4;rw[JQ (r:=i) qo λj hj hne=>if_neg λhx=>hne (h.inj hj qo (by rw[hx,hb])),if_pos hb];show -s.t i col=0-s.t i col;grind
end
end X
end
end Go.Proofs.YtbnobghgnbockaaGreat
