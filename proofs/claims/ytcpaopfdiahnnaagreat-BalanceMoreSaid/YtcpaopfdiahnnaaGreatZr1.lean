/- Lemmas for a law. Conditions: none. -/
import Derived.Test.YtcpaopfdiahnnaaGreatZb7
import Derived.Test.YtcpaopfdiahnnaaGreatZb15
import Derived.Test.YtcpaopfdiahnnaaGreatZb16
import Derived.Test.YtcpaopfdiahnnaaGreatZb24
import Derived.Test.YtcpaopfdiahnnaaGreatZb22
import Derived.Test.YtcpaopfdiahnnaaGreatZb25
import Derived.Test.YtcpaopfdiahnnaaGreatZb34
import Derived.Test.YtcpaopfdiahnnaaGreatRows
import Derived.Test.YtcpaopfdiahnnaaGreatZb37
import Derived.ProofKit
import Derived.ChangeSlices
import Derived.Conc.LeavingOf
import Derived.Test.YtcpaopfdiahnnaaGreatZb35
import Derived.Test.YtcpaopfdiahnnaaGreatZb36
import Derived.Test.YtcpaopfdiahnnaaGreatZb1
set_option linter.all false
set_option maxHeartbeats 32000000
set_option maxRecDepth 100000
namespace Go.Proofs.YtcpaopfdiahnnaaGreat
section
namespace Bl
open X
section
variable {S S':Sc} {w w' u v u' v':Nat->Rat}
def Bal.same (h:Bal S w u v) (hn:S'.n=S.n) (hm:S'.m=S.m) (hT:∀ j,j < S.m->S'.T j=S.T j) (hB:∀ i,i < S.n->(S'.B i).c=(S.B i).c∧(S.B i).st<=(S'.B i).st):Bal S' w u v:=by
 have hat:∀ k,k < 2*S.m->S'.at k=S.at k∧S'.T (k / 2)=S.T (k / 2):=λk hk=>by
  have:=hT (k / 2) qo;unfold Sc.at;rw[this];exact⟨rfl,rfl⟩
 refine⟨λk hk=>?_,λi hi=>?_⟩
 ·rw[hm] at hk;rw[(hat k hk).2];exact h.1 k hk
 ·rw[hn] at hi;have h2:=h.2 i hi;rw[hm];refine⟨?_,?_,?_,?_⟩
  ·rw[<-h2.1];exact Qh λk hk=>by rw[(hat k hk).2]
  ·rw[<-h2.2.1];exact Qh λk hk=>by rw[(hat k hk).2]
  ·rw[<-h2.2.2.1];exact Qh λk hk=>by rw[(hat k hk).2,(hat k hk).1,(hB i hi).1]
  ·refine Rat.le_trans ?_ (hB i hi).2;refine Rat.le_trans (rle ?_) h2.2.2.2;exact Qh λk hk=>by rw[(hat k hk).2]
def Bal.rough (h:Bal S w u v) (hn:S'.n=S.n) (hm:S'.m=S.m) (hB:∀ i,i < S.n->S'.B i=S.B i) (hT:∀ j,j < S.m->∃ r,(S.T j).r<=r∧S'.T j={S.T j with r:=r}):Bal S' w u v:=by
 have hat:∀ k,k < 2*S.m->S'.at k=S.at k∧(∀ i f,on (S'.T (k / 2)) i f=on (S.T (k / 2)) i f)∧(∀ u v,frc (S'.T (k / 2)) u v=frc (S.T (k / 2)) u v)∧(S.T (k / 2)).r<=(S'.T (k / 2)).r∧(S'.T (k / 2)).n=(S.T (k / 2)).n∧∀ i,tch (S'.T (k / 2)) i↔tch (S.T (k / 2)) i:=λk hk=>by
  obtain⟨r,h1,h2⟩:=hT (k / 2) qo;unfold Sc.at;rw[h2];exact⟨rfl,λ_ _=>rfl,λ_ _=>rfl,h1,rfl,λ_=>Iff.rfl⟩
 refine⟨λk hk=>?_,λi hi=>?_⟩
 ·rw[hm] at hk;have h1:=h.1 k hk;have:=Rat.mul_le_mul_of_nonneg_right (hat k hk).2.2.2.1 h1.1;exact⟨h1.1,Rat.le_trans h1.2.1 this,Rat.le_trans h1.2.2 this⟩
 ·rw[hn] at hi;have h2:=h.2 i hi;rw[hm,hB i hi];refine⟨?_,?_,?_,?_⟩
  ·rw[<-h2.1];exact Qh λk hk=>by rw[(hat k hk).2.1,(hat k hk).2.2.1]
  ·rw[<-h2.2.1];exact Qh λk hk=>by rw[(hat k hk).2.1,(hat k hk).2.2.1]
  ·rw[<-h2.2.2.1];exact Qh λk hk=>by rw[(hat k hk).2.1,(hat k hk).2.2.1,(hat k hk).1]
  ·refine Rat.le_trans (rle ?_) h2.2.2.2;refine Qh λk hk=>?_;rw[(hat k hk).2.2.2.2.1];by_cases c:tch (S.T (k / 2)) i
   ·rw[if_pos c,if_pos (((hat k hk).2.2.2.2.2 i).2 c)]
   ·rw[if_neg c,if_neg (λx=>c (((hat k hk).2.2.2.2.2 i).1 x))]
def ZQ (t:Tc) (i:Nat):on t i (frc t 0 0)=⟨0,0⟩:=by
 unfold on frc;split
 ·exact congr (congrArg Vc.mk (by grind)) (by grind)
 ·split
  ·exact congr (congrArg Vc.mk (by grind)) (by grind)
  ·rfl
def Bal.more (h:Bal S w u v) (hn:S'.n=S.n) (hm:S'.m=S.m+1) (hB:∀ i,i < S.n->S'.B i=S.B i) (hT:∀ j,j < S.m->S'.T j=S.T j):Bal S' w (λk=>if k < 2*S.m then u k else 0) (λk=>if k < 2*S.m then v k else 0):=by
 have hat:∀ k,k < 2*S.m->S'.at k=S.at k∧S'.T (k / 2)=S.T (k / 2):=λk hk=>by
  have:=hT (k / 2) qo;unfold Sc.at;rw[this];exact⟨rfl,rfl⟩
 have e2:∀ f:Nat->Rat,f (2*S.m)=0->f (2*S.m+1)=0->sm (2*S'.m) f=sm (2*S.m) f:=λf h1 h2=>by
  rw[hm,show 2*(S.m+1)=2*S.m+1+1 by omega];show sm (2*S.m) f+f (2*S.m)+f (2*S.m+1)=_;rw[h1,h2];grind
 have z1:¬2*S.m < 2*S.m:=qo;have z2:¬2*S.m+1 < 2*S.m:=qo;refine⟨λk hk=>?_,λi hi=>?_⟩
 ·by_cases c:k < 2*S.m
  ·simp only[if_pos c];rw[(hat k c).2];exact h.1 k c
  ·simp only[if_neg c];exact⟨Rat.le_refl,by grind,by grind⟩
 ·rw[hn] at hi;have h2:=h.2 i hi;rw[hB i hi];refine⟨?_,?_,?_,?_⟩
  ·rw[e2 _ (by simp only[if_neg z1];rw[ZQ]) (by simp only[if_neg z2];rw[ZQ]),<-h2.1];exact Qh λk hk=>by simp only[if_pos hk];rw[(hat k hk).2]
  ·rw[e2 _ (by simp only[if_neg z1];rw[ZQ]) (by simp only[if_neg z2];rw[ZQ]),<-h2.2.1];exact Qh λk hk=>by simp only[if_pos hk];rw[(hat k hk).2]
  ·rw[e2 _ (by simp only[if_neg z1];rw[ZQ];unfold Jw;grind) (by simp only[if_neg z2];rw[ZQ];unfold Jw;grind),<-h2.2.2.1];exact Qh λk hk=>by simp only[if_pos hk];rw[(hat k hk).2,(hat k hk).1]
  ·rw[e2 _ (by simp only[if_neg z1];split <;> grind) (by simp only[if_neg z2];split <;> grind)];refine Rat.le_trans (rle ?_) h2.2.2.2;exact Qh λk hk=>by simp only[if_pos hk];rw[(hat k hk).2]
def on_all {n:Nat} (t:Tc) (f:Vc) (ha:0<=t.a∧t.a < n) (hb:-1<=t.b∧t.b < n) (hab:t.a≠t.b):sm n (λi=>(on t i f).x)=(if t.b= -1 then f.x else 0)∧sm n (λi=>(on t i f).y)=(if t.b= -1 then f.y else 0):=by
 obtain⟨a,ea⟩:=Int.eq_ofNat_of_zero_le ha.1;have hna:a < n:=qo;by_cases c:t.b= -1
 ·rw[if_pos c,if_pos c]
  have o:∀ i,on t i f=if i=a then f else⟨0,0⟩:=λi=>by
   unfold on;by_cases e:i=a
   ·rw[if_pos qo,if_pos e]
   ·rw[if_neg qo,if_neg qo,if_neg e]
  constructor
  ·rw[JW hna λi _ hi=>by rw[o,if_neg hi],o,if_pos rfl]
  ·rw[JW hna λi _ hi=>by rw[o,if_neg hi],o,if_pos rfl]
 ·obtain⟨b,eb⟩:=Int.eq_ofNat_of_zero_le (show 0<=t.b by omega);have hnb:b < n:=qo;have hne:a≠b:=qo;rw[if_neg c,if_neg c]
  have o:∀ i,on t i f=if i=a then f else if i=b then⟨-f.x,-f.y⟩ else⟨0,0⟩:=λi=>by
   unfold on;by_cases e:i=a
   ·rw[if_pos qo,if_pos e]
   ·by_cases e2:i=b
    ·rw[if_neg qo,if_pos qo,if_neg e,if_pos e2]
    ·rw[if_neg qo,if_neg qo,if_neg e,if_neg e2]
  have s2:∀ g:Nat->Rat,(∀ i,i≠a->i≠b->g i=0)->sm n g=g a+g b:=λg hg=>by
   rw[KZ hna,JW hnb λi _ hi=>?_,if_neg (λe=>hne e.symm)];by_cases e:i=a
   ·rw[if_pos e]
   ·rw[if_neg e];exact hg i e hi
  constructor
  ·rw[s2 _ λi h1 h2=>by rw[o,if_neg h1,if_neg h2],o,o,if_pos rfl,if_neg (λe=>hne e.symm),if_pos rfl];grind
  ·rw[s2 _ λi h1 h2=>by rw[o,if_neg h1,if_neg h2],o,o,if_pos rfl,if_neg (λe=>hne e.symm),if_pos rfl];grind
def Bal.carried (h:Bal S w u v) (hT:∀ j,j < S.m->(0<=(S.T j).a∧(S.T j).a < S.n)∧(-1<=(S.T j).b∧(S.T j).b < S.n)∧(S.T j).a≠(S.T j).b) :
  sm (2*S.m) (λk=>if(S.T (k / 2)).b= -1 then(frc (S.T (k / 2)) (u k) (v k)).x else 0)=0∧sm (2*S.m) (λk=>if(S.T (k / 2)).b= -1 then(frc (S.T (k / 2)) (u k) (v k)).y else 0)=sm S.n w:=by
 have e:=λk (hk:k < 2*S.m)=>on_all (S.T (k / 2)) (frc (S.T (k / 2)) (u k) (v k)) (hT (k / 2) qo).1 (hT (k / 2) qo).2.1 (hT (k / 2) qo).2.2;constructor
 ·rw[Qh λk hk=>(e k hk).1.symm,Xn];exact JX λi hi=>(h.2 i hi).1
 ·rw[Qh λk hk=>(e k hk).2.symm,Xn];exact Qh λi hi=>(h.2 i hi).2.1
end
end Bl
end
section
open W Go.RowKit
section
variable {M α:Type} {S:Shp M α} {P:Program} {e:Env} {bx bx':List Ow} {F:List Fct} {ty t el:TypeId} {v u:Value} {x y:Operand} {n k j o m:Nat} {ms:Nat->M} {xs:Nat->α} {us:List Value} {K:Qd} {mm:M} {aa:α}
def YO.ldLs {c:Value} (hs:Qw P t) (hx:ev e x=some (.pointer (some (eaddr v j)))) (hf:Has F (lF S v n ms xs)) (ho:Off S.w j k o) (hk:k < n) (hc:Cut o 1 (S.cs (ms k) (xs k)) [c]):YO P (.load t x) ty e bx F c:=by
 obtain rfl:=ho.eq;have h1:=cut_le hc qo;rw[S.len] at h1;have h2:=hc.get (i:=0) qo;rw[Nat.add_zero,Kt (λk=>S.len (ms k) (xs k)) qo] at h2;have h3:HQ S ms xs (k*S.w+o)=c:=by simpa using h2
 rw[<-h3];exact YO.ldS hs hx hf.ls (by have:=Z0 hk h1;omega)
def YO.ldOL (hs:Row P t m) (hx:ev e x=some (.pointer (some (eaddr v j)))) (hb:lO S v el n ms xs∈bx) (ho:Off S.w j k o) (hk:k < n) (h0:0 < m) (hc:Cut o m (S.cs (ms k) (xs k)) us):YO P (.load t x) ty e bx F (.agg us.toArray):=by
 obtain rfl:=ho.eq;have h1:=cut_le hc h0;rw[S.len] at h1
 exact YO.ldRO (us:=us) hs hx hb hc.len λi hi=>by
  have h2:=Z0 hk h1;rw[<-hc.get hi,QE qo,Nat.add_assoc];exact(Kt (f:=λk=>S.cs (ms k) (xs k)) (λk=>S.len _ _) qo).symm
end
end
section
open W Go.RowKit
namespace Rp
open Dvz Dvv Adc Rm Rn Ro Rtm Rtc
attribute [local irreducible] WC WL WD YO LO Qq W.Fin Qw Qu Qj Row QQ Qy KnS Has W.One Ql Qr
def d103 {G G':Prop} (h:G') (s:Bx G'->G:=by
 intro h;first|refine gB ?_|(apply WC.draw (id:=6) [0,1,2,3,4,5,6,7,8,9,10] (.h 0<|.h 1<|.h 2<|.h 3<|.h 4<|.h 5<|.h 6<|.h 7<|.h 8<|.h 9<|.h 10 .done) mixed kr)|fail
 exact Bx.h h):G:=s ⟨h⟩
def isame_c (v1 v2:Value) (x y:Int):FnB Tryz.prog 103 [v1,v2] [] [isZ v1 x,isZ v2 y] (IsV (.bool (decide (x=y)))):=by
 refine fO [(0,v1),(1,v2)] 38 Tryz.func103 Tryz.ntmps103 λh0=>?_;refine WC.QR (v:=v1) (z:=x) hmA λn1 d1 hv hb1=>?_;subst hv;refine WC.QR (v:=v2) (z:=y) hmA λn2 d2 hv hb2=>?_;subst hv;refine WC.fact (sI d1 (Qx x.natAbs)) (Qo hmA) ?_;refine WC.fact (sI d2 (Qx y.natAbs)) (Qo hmA) ?_;have hd:=digs_eq hb1 hb2;generalize Qx x.natAbs=a at *;generalize Qx y.natAbs=b at *;refine WC.K4 d1 a hmA λhlen=>?_;by_cases c1:n1=n2
 ·subst c1;by_cases c2:a.length=b.length
  ·repeat'(first|intro(g:Nat)|refine d103 ?_|intro v)
   rename_i g2
   revert g;intro g3;refine WC.lp (σ:=Nat) (λk=>[(5,.int .i64 (k:Int)),(2,ptr g2),(3,ptr g3)]) (λ_=>[Ow.cells g3 62 [.bool n1,d2],Ow.cells g2 62 [.bool n1,d1]]) (λ_=>[ge h0,sI d1 a,sI d2 b]) (λk=>k<=a.length∧∀ j,j < k->a.getD j 0=b.getD j 0) (λk=>a.length - k) 0 ⟨by simp,λj hj=>by omega⟩ ?_;rintro k ⟨hk,hs⟩;by_cases h:k < a.length
   ·by_cases c3:a.getD k 0=b.getD k 0
    ·repeat'(first|intro(g:Nat)|refine d103 ?_|intro v)
     exact Qq.mk (k+1) ⟨by omega,λj hj=>if hjk:j=k then hjk ▸ c3 else hs j qo⟩ qo
    ·repeat'(first|intro(g:Nat)|refine d103 ?_|intro v)
     refine WC.ret ?_;exact Fin.v (Qv.t1 rfl rfl) meA (by rw[decide_eq_false (λhe=>c3 (by rw[(hd.2 he).2]))])
   ·repeat'(first|intro(g:Nat)|refine d103 ?_|intro v)
    refine WC.ret ?_;exact Fin.v (Qv.t1 rfl rfl) meA (by rw[decide_eq_true (hd.1 ⟨rfl,Z3 c2 (λj hj=>hs j qo)⟩)])
  ·repeat'(first|intro(g:Nat)|refine d103 ?_|intro v)
   refine WC.ret ?_;exact Fin.v (Qv.t1 rfl rfl) meA (by rw[decide_eq_false (λhe=>c2 (by rw[(hd.2 he).2]))])
 ·repeat'(first|intro(g:Nat)|refine d103 ?_|intro v)
  refine WC.ret ?_;exact Fin.v (Qv.t1 rfl rfl) meA (by rw[decide_eq_false (λhe=>c1 (hd.2 he).1)])
def rqsame_c (v1 v2:Value) (a b:Rat):FnB Tryz.prog 41 [v1,v2] [] [isQ v1 a,isQ v2 b] (IsV (.bool (decide (a=b)))):=by
 refine fO [(0,v1),(1,v2)] 17 Tryz.func41 Tryz.ntmps41 λh0=>?_;refine WC.JV (v:=v1) (q:=a) hmA λn1 d1 d2 hv hb1=>?_;subst hv;refine WC.JV (v:=v2) (q:=b) hmA λn2 d3 d4 hv hb2=>?_;subst hv;repeat'(first|intro(g:Nat)|refine gA ?_|intro v)
 refine cV (isame_c (.agg #[.bool n1,d1]) (.agg #[.bool n2,d3]) a.num b.num) ?_;by_cases c:a.num=b.num
 ·rw[decide_eq_true c];repeat'(first|intro(g:Nat)|refine gA ?_|intro v)
  refine cV (isame_c (.agg #[.bool false,d2]) (.agg #[.bool false,d4]) (qz a) (qz b)) ?_;rw[show decide (qz a=qz b)=decide (a=b) by rw[decide_eq_decide];exact⟨λh=>qz_inj c h,λh=>by rw[h]⟩];repeat'(first|intro(g:Nat)|refine gA ?_|intro v)
  refine WC.ret ?_;exact Fin.v (Qv.t1 rfl rfl) meA rfl
 ·rw[decide_eq_false c];repeat'(first|intro(g:Nat)|refine gA ?_|intro v)
  refine WC.ret ?_;exact Fin.v (Qv.t1 rfl rfl) meA (by rw[decide_eq_false (λh=>c (by rw[h]))])
end Rp
end
section
open W Go.RowKit
namespace Zn
section
variable (m1 m2:QM) (a b:Rat)
def rsame:FnB Tryz.prog 41 [qv m1,qv m2] [] [isQ (qv m1) a,isQ (qv m2) b] (IsV (.bool (decide (a=b)))):=Rp.rqsame_c _ _ _ _
end
end Zn
end
section
open Bl (Vc Bd Tc Sc)
namespace Bl
def some_n (l:List Int):1<=(Ye l).n∧(Ye l).n<=3∧(Ye l).m<=4:=by
 have hm:=ZK l;have h1:=(Uv l (Qa l) hm.2).1;unfold Ye;split
 ·exact⟨by show 1<=1;decide,by show 1<=3;decide,by show 1<=4;decide⟩
 ·unfold XJ;split
  ·exact⟨hm.1,hm.2,by show(twT l (Qa l)).1+1<=4;omega⟩
  ·exact⟨hm.1,hm.2,by show(twT l (Qa l)).1<=4;omega⟩
end Bl
end
section
open Go.ChangeShapes Go.WideShapes Go.ChangeAt Go.RowKit
open W
section
variable {H:Type} {enc:TypeId×Value->H} {P:Program} {V1:World}
def Zb {t:TypeId} {b0:Nat} {v:Value} {d:DataW H} {p:List MemPlace} (ht:P.underlying t=some (.int .i64)) (hv:Value.okWide P V1 .any b0 t v) (h:DataW.Trod enc P V1 0 (λ_=>true) true t v d p):∃ n,v=.int .i64 n∧I64 n∧Again enc P V1 t v d p:=by
 obtain⟨n,rfl,rfl,rfl,wa⟩:=open_int ht hv h;refine⟨n,rfl,?_,λV2 sp _ _=>shut_int ht wa⟩;simp[Lit.wf,IntKind.min,IntKind.max,IntKind.signed,IntKind.bits] at wa;unfold I64;omega
end
end
section
open W Go.RowKit
open Bl (Vc Bd Tc Sc)
namespace K
namespace Q
attribute [local irreducible] WC WL WD YO LO Qq W.Fin Qw Qu Qj Row QQ Qy KnS Has W.One Ql Qr
def d38 {G G':Prop} (h:G') (s:Bx G'->G:=by
 intro h;first|refine gE ?_|(apply WC.draw (id:=1) [0,1,2,3,4,6,7,8,9,10] (.h 0<|.h 1<|.h 2<|.h 3<|.h 4<|.h 6<|.h 7<|.h 8<|.h 9<|.h 10<|.m 5 (.m 11 (.m 12 (.l 13<|.l 14 .done) (.l 13<|.l 12<|.l 14 .done)) (.l 13<|.l 11<|.l 12<|.l 14 .done)) (.l 13<|.l 5<|.l 11<|.l 12<|.l 14 .done)) mixed kr)|(apply WC.draw (id:=2) [0,1,2,3,4,6,7,8,9,10] (.h 0<|.h 1<|.h 2<|.h 3<|.h 4<|.h 6<|.h 7<|.h 8<|.h 9<|.h 10<|.m 5 (.m 11 (.m 12 (.l 13<|.l 14 .done) (.l 13<|.l 12<|.l 14 .done)) (.l 13<|.l 11<|.l 12<|.l 14 .done)) (.l 13<|.l 5<|.l 11<|.l 12<|.l 14 .done)) mixed kr)|(apply WC.draw (id:=6) [0,2,4] (.h 0<|.h 2<|.l 1<|.l 3<|.h 4<|.l 5 .done) mixed kr)|fail
 exact Bx.h h):G:=s ⟨h⟩
def rforce_c (tm:ToM) (t:Tc) (pm:VM) (p:Vc) (i:Nat) (K Kp:Nat) (hK:K+Kp<=100000000) (ht:Sv K t.n) (hp:Sv Kp p) (hi:i<=1000):FnB Tryz.prog 38 [tv tm t,vv pm,.int .i64 (i:Int)] [] [fT tm t,fV pm p] (KA (Bl.on t i (Bl.frc t p.x p.y))):=by
 refine fO [(0,(tv tm t)),(1,(vv pm)),(2,(.int .i64 (i:Int)))] 52 Tryz.func38 Tryz.ntmps38 λh0=>?_;refine WC.fact (fV tm.n t.n) (W.Has.tn (tm:=tm) hmA) ?_;refine WC.fact (isQ (qv tm.n.1) t.n.x) (W.Has.vx (m:=tm.n) hmA) ?_;refine WC.fact (isQ (qv tm.n.2) t.n.y) (W.Has.vy (m:=tm.n) hmA) ?_;refine WC.fact (isQ (qv pm.1) p.x) (W.Has.vx (m:=pm) hmA) ?_;refine WC.fact (isQ (qv pm.2) p.y) (W.Has.vy (m:=pm) hmA) ?_;have z1:=hp.1.mul ht.1;have z2:=hp.2.mul ht.2;have z3:=hp.1.mul ht.2;have z4:=hp.2.mul ht.1;have c14:=Zn.Zh pm.1 tm.n.1 p.x t.n.x (hp.1.sm qo) (ht.1.sm qo);have c20:=Zn.Zh pm.2 tm.n.2 p.y t.n.y (hp.2.sm qo) (ht.2.sm qo);have c21:=λn1 n2=>Zn.rsub n1 n2 (p.x*t.n.x) (p.y*t.n.y) (z1.sm qo) (z2.sm qo);have c27:=Zn.Zh pm.1 tm.n.2 p.x t.n.y (hp.1.sm qo) (ht.2.sm qo);have c33:=Zn.Zh pm.2 tm.n.1 p.y t.n.x (hp.2.sm qo) (ht.1.sm qo);have c34:=λn1 n2=>Zn.UZ n1 n2 (p.x*t.n.y) (p.y*t.n.x) (z3.sm qo) (z4.sm qo);repeat'(first|intro(g:Nat)|refine gP ?_|intro v)
 revert g;intro g6;revert g;intro g4;revert g;intro g3;refine WC.keep (g:=g3) (t:=79) (cs:=tcs tm t) (by repeat(first|exact Rem.head|apply Rem.tail)) ?_;refine WC.keep (g:=g4) (t:=83) (cs:=vcs pm) (by repeat(first|exact Rem.head|apply Rem.tail)) ?_;refine WC.YJ (σ:=Nat×QM) (λs=>[(7,ptr s.1),(3,ptr g3),(4,ptr g4),(2,.int .i64 (i:Int)),(6,ptr g6)]) (λs=>[Ow.cells s.1 64 (qcs s.2),Ow.cells g6 75 (vcs (m00,m00))]) (λs=>[isQ (qv s.2) (Bl.frc t p.x p.y).x,ce g3 79 (tcs tm t),ce g4 83 (vcs pm),isQ (qv pm.2) p.y,isQ (qv pm.1) p.x,isQ (qv tm.n.2) t.n.y,isQ (qv tm.n.1) t.n.x,ge h0]) (λ_=>True) ?_ ?_
 ·repeat'(first|intro(g:Nat)|refine d38 ?_|refine gN ?_ ?_|refine cW (c14) λzm=>?_|refine cW (c20) λzm=>?_|refine cW (c21 _ _) λzm=>?_|intro v)
  all_goals(apply Ex2;refine⟨trivial,?_,?_,?_⟩;(focus(repeat(first|exact Sub.nil _|refine Sub.cons rfl ?_)));(focus(repeat(first|exact Q9.nil _|(apply Q9.cons;(repeat(first|exact Rem.head|apply Rem.tail))))));(focus(repeat(first|exact Qk.nil|(apply Qk.cons;exact hsA)))))
 rintro⟨g7,mx⟩ _;simp only;repeat'(first|intro(g:Nat)|refine gP ?_|intro v)
 refine WC.YJ (σ:=Nat×QM) (λs=>[(8,ptr s.1),(7,ptr g7),(3,ptr g3),(2,.int .i64 (i:Int)),(6,ptr g6)]) (λs=>[Ow.cells s.1 64 (qcs s.2),Ow.cells g7 64 (qcs mx),Ow.cells g6 75 (vcs (m00,m00))]) (λs=>[isQ (qv s.2) (Bl.frc t p.x p.y).y,isQ (qv mx) (Bl.frc t p.x p.y).x,ce g3 79 (tcs tm t),ge h0]) (λ_=>True) ?_ ?_
 ·repeat'(first|intro(g:Nat)|refine d38 ?_|refine gN ?_ ?_|refine cW (c27) λzm=>?_|refine cW (c33) λzm=>?_|refine cW (c34 _ _) λzm=>?_|intro v)
  all_goals(apply Ex2;refine⟨trivial,?_,?_,?_⟩;(focus(repeat(first|exact Sub.nil _|refine Sub.cons rfl ?_)));(focus(repeat(first|exact Q9.nil _|(apply Q9.cons;(repeat(first|exact Rem.head|apply Rem.tail))))));(focus(repeat(first|exact Qk.nil|(apply Qk.cons;exact hsA)))))
 rintro⟨g8,my⟩ _;simp only;by_cases c:t.a=(i:Int)
 ·have e:Bl.on t i (Bl.frc t p.x p.y)=Bl.frc t p.x p.y:=if_pos c;rw[e];repeat'(first|intro(g:Nat)|refine d38 ?_|refine gN ?_ ?_|intro v)
  refine WC.ret ?_;exact Fp [fV (mx,my) (Bl.frc t p.x p.y)] (rcV T.r75) (.cons (W.Has.vof (m:=(mx,my)) (a:=Bl.frc t p.x p.y) hmA hmA) .nil) ⟨(mx,my),rfl,rfl,rfl⟩
 ·by_cases d:t.b=(i:Int)
  ·have e:Bl.on t i (Bl.frc t p.x p.y)=⟨-(Bl.frc t p.x p.y).x,-(Bl.frc t p.x p.y).y⟩:=by unfold Bl.on;rw[if_neg c,if_pos d]
   rw[e];repeat'(first|intro(g:Nat)|refine d38 ?_|refine gN ?_ ?_|intro v)
   refine cW (Zn.rneg mx (Bl.frc t p.x p.y).x) λn1=>?_;repeat'(first|intro(g:Nat)|refine d38 ?_|refine gN ?_ ?_|intro v)
   refine cW (Zn.rneg my (Bl.frc t p.x p.y).y) λn2=>?_;repeat'(first|intro(g:Nat)|refine d38 ?_|refine gN ?_ ?_|intro v)
   refine WC.ret ?_;exact Fp [fV (n1,n2) ⟨-(Bl.frc t p.x p.y).x,-(Bl.frc t p.x p.y).y⟩] (rcV T.r75) (.cons (W.Has.vof (m:=(n1,n2)) (a:=⟨-(Bl.frc t p.x p.y).x,-(Bl.frc t p.x p.y).y⟩) hmA hmA) .nil) ⟨(n1,n2),rfl,rfl,rfl⟩
  ·have e:Bl.on t i (Bl.frc t p.x p.y)=⟨0,0⟩:=by unfold Bl.on;rw[if_neg c,if_neg d]
   rw[e];repeat'(first|intro(g:Nat)|refine d38 ?_|refine gN ?_ ?_|intro v)
   refine WC.ret ?_;exact Fp [fV (m00,m00) ⟨0,0⟩] (rcV T.r75) (.cons hasV0 .nil) ⟨(m00,m00),rfl,rfl,rfl⟩
end Q
end K
end
section
open Bl (Vc Bd Tc Sc)
namespace Bl
def some_m (l:List Int):(Ye l).m<=4:=by
 have h2:=(ZK l).2;have h:=(Uv l (Qa l) h2).1;unfold Ye;split
 ·show(1:Nat)<=4;decide
 ·unfold XJ;split
  ·exact Nat.succ_le_succ (Nat.le_trans h h2)
  ·exact Nat.le_succ_of_le (Nat.le_trans h h2)
def addT (t:Tc) (S:Sc):Sc:=⟨S.n,S.m+1,S.B,upd S.T S.m t⟩
def strB (x:Rat) (b:Bd):Bd:=⟨b.c,b.lo,b.hi,b.st+x⟩
def rghT (x:Rat) (t:Tc):Tc:=⟨t.a,t.b,t.p,t.q,t.n,t.r+x⟩
def strS (k:Nat) (x:Rat) (S:Sc):Sc:=⟨S.n,S.m,upd S.B k (strB x (S.B k)),S.T⟩
def rghS (k:Nat) (x:Rat) (S:Sc):Sc:=⟨S.n,S.m,S.B,upd S.T k (rghT x (S.T k))⟩
section
variable {S:Sc}
def Bal.sat {w u v:Nat->Rat} {c:Nat} (h:Bal S w u v) (hw:∀ i,i < S.n->w i=S.wt c i):Sat S c:=by
 refine⟨λj=>if j % 2=0 then u (j / 2) else v (j / 2),Xt.2 (h.congr (λk _=>⟨?_,?_⟩) hw)⟩
 ·simp only[if_pos (show 2*k % 2=0 by omega)];rw[show 2*k / 2=k by omega]
 ·simp only[if_neg (show ¬(2*k+1) % 2=0 by omega)];rw[show(2*k+1) / 2=k by omega]
def addT_sat {t:Tc} {c:Nat} (h:Sat S c):Sat (addT t S) c:=by
 obtain⟨x,hx⟩:=h;exact(Bal.more (S':=addT t S) (Xt.1 hx) rfl rfl (λ_ _=>rfl) (λj hj=>upd_ne qo)).sat λ_ _=>rfl
def str_le {x:Rat} (hx:0<=x) (q:Rat):q<=q+x:=by grind
def strS_sat {k:Nat} {x:Rat} (hx:0<=x) {c:Nat} (h:Sat S c):Sat (strS k x S) c:=by
 obtain⟨y,hy⟩:=h;refine(Bal.same (S':=strS k x S) (Xt.1 hy) rfl rfl (λ_ _=>rfl) (λi hi=>?_)).sat λi hi=>?_
 ·show(upd S.B k _ i).c=_∧_<=(upd S.B k _ i).st;by_cases e:i=k
  ·subst e;rw[QJ];exact⟨rfl,str_le hx _⟩
  ·rw[upd_ne e];exact⟨rfl,Rat.le_refl⟩
 ·show S.wt c i=if c / 2 ^ i % 2=1 then(upd S.B k _ i).hi else(upd S.B k _ i).lo;by_cases e:i=k
  ·subst e;rw[QJ];rfl
  ·rw[upd_ne e];rfl
def rghS_sat {k:Nat} {x:Rat} (hx:0<=x) {c:Nat} (h:Sat S c):Sat (rghS k x S) c:=by
 obtain⟨y,hy⟩:=h;refine(Bal.rough (S':=rghS k x S) (Xt.1 hy) rfl rfl (λ_ _=>rfl) (λj hj=>?_)).sat λi hi=>rfl;show ∃ r,_∧upd S.T k _ j=_;by_cases e:j=k
 ·subst e;rw[QJ];exact⟨_,str_le hx _,rfl⟩
 ·rw[upd_ne e];exact⟨_,Rat.le_refl,rfl⟩
def addT_ok {t:Tc} (h:S.ok) (hm:S.m<=9) (ht:Us S.n t):(addT t S).ok:=by
 refine⟨h.n,by show S.m+1<=10;omega,h.B,λj hj=>?_⟩;have hj:j < S.m+1:=hj;show Us S.n (upd S.T S.m t j);by_cases e:j=S.m
 ·subst e;rw[QJ];exact ht
 ·rw[upd_ne e];exact h.T j qo
def strS_ok {k:Nat} {x:Rat} (hx:0<=x) (h:S.ok):(strS k x S).ok:=by
 refine⟨h.n,h.m,λi hi=>?_,h.T⟩;have hi:i < S.n:=hi;show BdOk (upd S.B k _ i);by_cases e:i=k
 ·subst e;rw[QJ];obtain⟨a,b,c⟩:=h.B i hi;exact⟨a,b,by show 0 < (S.B i).st+x;grind⟩
 ·rw[upd_ne e];exact h.B i hi
def rghS_ok {k:Nat} {x:Rat} (hx:0<=x) (h:S.ok):(rghS k x S).ok:=by
 refine⟨h.n,h.m,h.B,λj hj=>?_⟩;have hj:j < S.m:=hj;show Us S.n (upd S.T k _ j);by_cases e:j=k
 ·subst e;rw[QJ];obtain⟨a,b,c,d,e,f,g⟩:=h.T j hj;exact⟨a,b,c,d,e,by show 0<=(S.T j).r+x;grind,g⟩
 ·rw[upd_ne e];exact h.T j hj
def fv_up {D A B:Nat} {a:Vc} (h:Fv D A a) (hB:A<=B):Fv D B a:=⟨h.1.up hB,h.2.up hB⟩
def Fs.up {D A B:Nat} (h:Fs D A S) (hB:A<=B):Fs D B S:=
 ⟨λi hi=>let ⟨a,b,c,d⟩:=h.B i hi;⟨fv_up a hB,b.up hB,c.up hB,d.up hB⟩,λj hj=>let ⟨a,b,c,d⟩:=h.T j hj;⟨fv_up a hB,fv_up b hB,fv_up c hB,d.up hB⟩⟩
def addT_fs {D A:Nat} {t:Tc} (h:Fs D A S) (ht:Fv D A t.p∧Fv D A t.q∧Fv D A t.n∧Fr D A t.r):Fs D A (addT t S):=by
 refine⟨h.B,λj hj=>?_⟩;have hj:j < S.m+1:=hj;show Fv D A (upd S.T S.m t j).p∧Fv D A (upd S.T S.m t j).q∧Fv D A (upd S.T S.m t j).n∧Fr D A (upd S.T S.m t j).r;by_cases e:j=S.m
 ·subst e;rw[QJ];exact ht
 ·rw[upd_ne e];exact h.T j qo
def strS_fs {D A B k:Nat} {x:Rat} (h:Fs D A S) (hx:Fr D B x):Fs D (A+B) (strS k x S):=by
 have h':=h.up (Nat.le_add_right A B);refine⟨λi hi=>?_,h'.T⟩;have hi:i < S.n:=hi;show Fv D (A+B) (upd S.B k _ i).c∧Fr D (A+B) (upd S.B k _ i).lo∧Fr D (A+B) (upd S.B k _ i).hi∧Fr D (A+B) (upd S.B k _ i).st;by_cases e:i=k
 ·subst e;rw[QJ];obtain⟨a,b,c,_⟩:=h'.B i hi;exact⟨a,b,c,(h.B i hi).2.2.2.add hx⟩
 ·rw[upd_ne e];exact h'.B i hi
def rghS_fs {D A B k:Nat} {x:Rat} (h:Fs D A S) (hx:Fr D B x):Fs D (A+B) (rghS k x S):=by
 have h':=h.up (Nat.le_add_right A B);refine⟨h'.B,λj hj=>?_⟩;have hj:j < S.m:=hj;show Fv D (A+B) (upd S.T k _ j).p∧Fv D (A+B) (upd S.T k _ j).q∧Fv D (A+B) (upd S.T k _ j).n∧Fr D (A+B) (upd S.T k _ j).r;by_cases e:j=k
 ·subst e;rw[QJ];obtain⟨a,b,c,_⟩:=h'.T j hj;exact⟨a,b,c,(h.T j hj).2.2.2.add hx⟩
 ·rw[upd_ne e];exact h'.T j hj
def sat_m {c:Nat} (h:S.ok) (hn:0 < S.n) (hs:Sat S c):0 < S.m:=by
 obtain⟨x,hx⟩:=hs;have hb:=(Xt.1 hx).2 0 hn;refine Nat.pos_of_ne_zero λe=>?_;have h0:=hb.2.1;rw[e] at h0;have h1:(0:Rat)=S.wt c 0:=h0;obtain⟨a,b,_⟩:=h.B 0 hn;unfold Sc.wt at h1;split at h1 <;> grind
def pt_carried {c:Nat} {x:Nat->Rat} (h:S.ok) (hx:X.Ur (lp S (S.wt c)) x) :
  X.sm (2*S.m) (λk=>if(S.T (k / 2)).b= -1 then(frc (S.T (k / 2)) (x (2*k)) (x (2*k+1))).x else 0)=0∧X.sm (2*S.m) (λk=>if(S.T (k / 2)).b= -1 then(frc (S.T (k / 2)) (x (2*k)) (x (2*k+1))).y else 0)=X.sm S.n (S.wt c):=
 (Xt.1 hx).carried λj hj=>let ⟨a,b,c,d,e,_⟩:=h.T j hj;⟨⟨a,b⟩,⟨c,d⟩,e⟩
def moT (a:Int) (n0 p0 p1:Int):Tc:=⟨a,-1,⟨(p0:Rat),(p1:Rat)⟩,⟨(p0:Rat)+((1:Int):Rat),(p1:Rat)+ -(n0:Rat)⟩,⟨(n0:Rat),((1:Int):Rat)⟩,Rat.divInt 1 2⟩
def moT_ok {n:Nat} {a n0 p0 p1:Int} (h0:0<=a) (h1:a < n):Us n (moT a n0 p0 p1):=by
 refine⟨h0,h1,by show(-1:Int)<=-1;decide,by show(-1:Int) < n;omega,by show a≠-1;omega,Kw qd qd,λh=>?_,?_⟩
 ·have e:((1:Int):Rat)=0:=h.2;exact absurd e qd
 ·show(n0:Rat)*((p0:Rat)+((1:Int):Rat) - (p0:Rat))+((1:Int):Rat)*((p1:Rat)+ -(n0:Rat) - (p1:Rat))=0;grind
def moT_fs {a n0 p0 p1:Int} (h0:n0.natAbs<=10) (h1:p0.natAbs<=10) (h2:p1.natAbs<=10):Fv 60 2400 (moT a n0 p0 p1).p∧Fv 60 2400 (moT a n0 p0 p1).q∧Fv 60 2400 (moT a n0 p0 p1).n∧Fr 60 2400 (moT a n0 p0 p1).r:=by
 have e0:Fr 1 10 (n0:Rat):=Fr.int _ h0;have e1:Fr 1 10 (p0:Rat):=Fr.int _ h1;have e2:Fr 1 10 (p1:Rat):=Fr.int _ h2;have o:Fr 1 10 ((1:Int):Rat):=Fr.int _ qd;have s:∀ {A:Nat} {q:Rat},A<=40->Fr 1 A q->Fr 60 2400 q:=λhA h=>(h.up hA).sc' (c:=60) rfl qd;exact⟨⟨s qd e1,s qd e2⟩,⟨s qd (e1.add o),s qd (e2.add e0.neg)⟩,⟨s qd e0,s qd o⟩,Fr.sc' (D:=2) (A:=1) (c:=30) (Fr.of (a:=1) (D:=2) qd qd) rfl qd⟩
end
end Bl
end
section
open W Go.RowKit
open Bl (Vc Bd Tc Sc)
section
variable {M α:Type} {S:Shp M α} {P:Program} {e:Env} {bx bx':List Ow} {F:List Fct} {ty t el:TypeId} {v u:Value} {x y:Operand} {n k o:Nat} {ms:Nat->M} {xs:Nat->α} {K:Qd} {mm:M} {aa:α} {vs:List Value}
def lcells_setP (h:k < n) (ho:o+vs.length<=S.w) (hv:∀ i,i < S.w->(S.cs mm aa)[i]?=if o<=i∧i < o+vs.length then vs[i - o]? else(S.cs (ms k) (xs k))[i]?):Q7 (QV S n ms xs) (k*S.w+o) vs=QV S n (upd ms k mm) (upd xs k aa):=by
 have hp:=S.pos
 have hle:k*S.w+o+vs.length<=(QV S n ms xs).length:=by
  rw[Qg];exact Z0 h ho
 refine Xx (by rw[Yt hle,Qg]) λj hj=>?_;rw[Zf hle];by_cases hx:k*S.w<=j∧j < k*S.w+S.w
 ·obtain⟨i,rfl⟩:=Nat.exists_eq_add_of_le hx.1;have hi:i < S.w:=qo;have e1:=Kt (f:=λc=>S.cs (upd ms k mm c) (upd xs k aa c)) (λc=>S.len _ _) (k:=k) hi;show _=some (JA S.w (λc=>S.cs (upd ms k mm c) (upd xs k aa c)) (k*S.w+i));rw[<-e1];show _=(S.cs (upd ms k mm k) (upd xs k aa k))[i]?;rw[QJ,QJ,hv i hi];by_cases c:o<=i∧i < o+vs.length
  ·rw[if_pos c,if_pos qo,show k*S.w+i - (k*S.w+o)=i - o by omega]
  ·rw[if_neg c,if_neg qo,QE qo];exact(Kt (f:=λc=>S.cs (ms c) (xs c)) (λc=>S.len _ _) (k:=k) hi).symm
 ·have hd:=dm_ne hp hx;rw[if_neg (λc=>hx ⟨by omega,by omega⟩),QE hj];show some (JA S.w _ j)=some (JA S.w _ j);unfold JA;simp only;rw[upd_ne hd,upd_ne hd]
def LO.storeOP (hx:ev e x=some (.pointer (some (eaddr v (k*S.w+o))))) (hy:ev e y=some (.agg vs.toArray)) (hr:Row P t vs.length) (h1:QC bx F vs) (hs:Sel bx (lO S v el n ms xs) (lO S v el n (upd ms k mm) (upd xs k aa)) bx') (hk:k < n) (h0:0 < vs.length) (ho:o+vs.length<=S.w)
  (hv:∀ i,i < S.w->(S.cs mm aa)[i]?=if o<=i∧i < o+vs.length then vs[i - o]? else(S.cs (ms k) (xs k))[i]?) (h:K undef bx' F):LO P (.store t x y) ty e bx F K:=
 LO.UP (vs:=vs) hx hy hr h1 hs (by rw[Qg];exact Z0 hk ho) h0 (lcells_setP hk ho hv) h
def one_sh {fr:CF} {w:World} (ho:OK fr bx F w) (h1:∀ j,j < n->QC bx F (S.cs (ms j) (xs j))):∀ c∈QV S n ms xs,c.oneCell'=true:=λc hc=>by
 simp only[QV,XL,List.mem_map,List.mem_range] at hc;obtain⟨j,hj,rfl⟩:=hc;have hp:=S.pos;have hd:j / S.w < n:=(Nat.div_lt_iff_lt_mul hp).2 hj;have hm:j % S.w < S.w:=Nat.mod_lt _ hp;exact(h1 _ hd).all ho _ (List.mem_of_getElem? (X5 (S.len _ _) hm))
def LO.appL0 {t1 b:TypeId} {z:Value} {bx2:Value->List Ow} (he:XU P t1 el S.w z b) (hx:ev e x=some v) (hy:ev e y=some u) (hu:Has F (lF S u n ms xs)) (h1:∀ j,j < n->QC bx F (S.cs (ms j) (xs j))) (hs:∀ v',Sel bx (.slice v el S.w []) (lO S v' el n ms xs) (bx2 v')) (hb:b<=1000) (hw:S.w<=100) (hl:n<=1000000) (h:∀ v',K v' (bx2 v') F) :
  LO P (.call {callee:=.builtin .append,args:=#[x,y],argTypes:=#[t1,t1]}) ty e bx F K:=by
 refine LO.byP (λfr w ho=>one_sh ho h1) λh1=>?_;have hw1:n*S.w<=1000000*100:=Nat.mul_le_mul hl hw;refine LO.append he hx hy (cs:=[]) (news:=QV S n ms xs) hs (Ql.fact hu.ls) h1 ?_ ?_ h
 ·rw[Qg];have:(0+n*S.w)*b<=(0+1000000*100)*1000:=Nat.mul_le_mul qo hb;exact Nat.le_trans this qd
 ·rw[Qg];exact Nat.le_trans (show([]:List Value).length+n*S.w<=1000000*100 by simpa using hw1) qd
end
section
variable {e:Env} {bx bx':List Ow} {F:List Fct} {ty t el:TypeId} {v u:Value} {x y:Operand} {n k:Nat} {K:Qd}
def LO.appB0 {ms:Nat->BM} {xs:Nat->Bd} {bx2:Value->List Ow} (hx:ev e x=some v) (hy:ev e y=some u) (hu:Has F (lF Qm u n ms xs)) (hs:∀ v',Sel bx (.slice v 88 20 []) (lO Qm v' 88 n ms xs) (bx2 v')) (hl:n<=1000000) (h:∀ v',K v' (bx2 v') F) :
  LO Tryz.prog (.call {callee:=.builtin .append,args:=#[x,y],argTypes:=#[23,23]}) ty e bx F K:=
 LO.appL0 (S:=Qm) T.e23 hx hy hu (λj hj=>one_b (hu.lk hj)) hs qd qd hl h
def LO.appT0 {ms:Nat->ToM} {xs:Nat->Tc} {bx2:Value->List Ow} (hx:ev e x=some v) (hy:ev e y=some u) (hu:Has F (lF Qb u n ms xs)) (hs:∀ v',Sel bx (.slice v 79 30 []) (lO Qb v' 79 n ms xs) (bx2 v')) (hl:n<=1000000) (h:∀ v',K v' (bx2 v') F) :
  LO Tryz.prog (.call {callee:=.builtin .append,args:=#[x,y],argTypes:=#[24,24]}) ty e bx F K:=
 LO.appL0 (S:=Qb) T.e24 hx hy hu (λj hj=>Vm (hu.lk hj)) hs qd qd hl h
def LO.bsB0 (h:∀ v,K v (Ow.slice v 88 20 []::bx) F):LO Tryz.prog (.buildSlice 23 0 #[]) ty e bx F K:=LO.buildSlice (parts:=[]) (us:=[]) (cs:=[]) .nil (λ_=>by kernel_rfl) rfl qd h
def LO.bsT0 (h:∀ v,K v (Ow.slice v 79 30 []::bx) F):LO Tryz.prog (.buildSlice 24 0 #[]) ty e bx F K:=LO.buildSlice (parts:=[]) (us:=[]) (cs:=[]) .nil (λ_=>by kernel_rfl) rfl qd h
def LO.UO {m:QM} {q:Rat} {ms:Nat->BM} {xs:Nat->Bd} (hx:ev e x=some (.pointer (some (eaddr v (k*20+16))))) (hy:ev e y=some (qv m)) (hr:Row Tryz.prog t 4) (hq:Has F (isQ (qv m) q)) (hs:Sel bx (lO Qm v el n ms xs) (lO Qm v el n (upd ms k ⟨(ms k).c,(ms k).lo,(ms k).hi,m⟩) (upd xs k ⟨(xs k).c,(xs k).lo,(xs k).hi,q⟩)) bx') (hk:k < n) (h:K undef bx' F):LO Tryz.prog (.store t x y) ty e bx F K:=
 LO.storeOP (S:=Qm) (o:=16) (vs:=qcs m) hx hy hr (Yr hq) hs hk (by show 0 < 4;decide) (by show 16+4<=20;decide) (λi hi=>by
  have hi:i < 20:=hi;show(bcs _)[i]?=if 16<=i∧i < 20 then(qcs m)[i - 16]? else(bcs (ms k))[i]?;by_cases c:16<=i∧i < 20
  ·rw[if_pos c];have:i=16∨i=17∨i=18∨i=19:=qo;rcases this with rfl|rfl|rfl|rfl <;> rfl
  ·rw[if_neg c];have a:∀ i,i < 16->(bcs ⟨(ms k).c,(ms k).lo,(ms k).hi,m⟩)[i]?=(bcs (ms k))[i]?:=λi hi=>match i,hi with
   |0,_=>rfl|1,_=>rfl|2,_=>rfl|3,_=>rfl|4,_=>rfl|5,_=>rfl|6,_=>rfl|7,_=>rfl|8,_=>rfl|9,_=>rfl|10,_=>rfl|11,_=>rfl|12,_=>rfl|13,_=>rfl|14,_=>rfl|15,_=>rfl|j+16,h=>absurd h qo
   exact a i qo) h
def LO.UR {m:QM} {q:Rat} {ms:Nat->ToM} {xs:Nat->Tc} (hx:ev e x=some (.pointer (some (eaddr v (k*30+26))))) (hy:ev e y=some (qv m)) (hr:Row Tryz.prog t 4) (hq:Has F (isQ (qv m) q)) (hs:Sel bx (lO Qb v el n ms xs) (lO Qb v el n (upd ms k ⟨(ms k).p,(ms k).q,(ms k).n,m⟩) (upd xs k ⟨(xs k).a,(xs k).b,(xs k).p,(xs k).q,(xs k).n,q⟩)) bx') (hk:k < n) (h:K undef bx' F):LO Tryz.prog (.store t x y) ty e bx F K:=
 LO.storeOP (S:=Qb) (o:=26) (vs:=qcs m) hx hy hr (Yr hq) hs hk (by show 0 < 4;decide) (by show 26+4<=30;decide) (λi hi=>by
  have hi:i < 30:=hi;show(tcs _ _)[i]?=if 26<=i∧i < 30 then(qcs m)[i - 26]? else(tcs (ms k) (xs k))[i]?;by_cases c:26<=i∧i < 30
  ·rw[if_pos c];have:i=26∨i=27∨i=28∨i=29:=qo;rcases this with rfl|rfl|rfl|rfl <;> rfl
  ·rw[if_neg c];have a:∀ i,i < 26->(tcs ⟨(ms k).p,(ms k).q,(ms k).n,m⟩ ⟨(xs k).a,(xs k).b,(xs k).p,(xs k).q,(xs k).n,q⟩)[i]?=(tcs (ms k) (xs k))[i]?:=λi hi=>match i,hi with
   |0,_=>rfl|1,_=>rfl|2,_=>rfl|3,_=>rfl|4,_=>rfl|5,_=>rfl|6,_=>rfl|7,_=>rfl|8,_=>rfl|9,_=>rfl|10,_=>rfl|11,_=>rfl|12,_=>rfl|13,_=>rfl|14,_=>rfl|15,_=>rfl
   |16,_=>rfl|17,_=>rfl|18,_=>rfl|19,_=>rfl|20,_=>rfl|21,_=>rfl|22,_=>rfl|23,_=>rfl|24,_=>rfl|25,_=>rfl|j+26,h=>absurd h qo
   exact a i qo) h
end
end
section
open W Go.RowKit
open Bl (Vc Bd Tc Sc)
def YO.quoj {P:Program} {e:Env} {bx:List Ow} {F:List Fct} {ty t t':TypeId} {x y:Operand} {i c:Int} {j:Nat} (hx:ev e x=some (.int .i64 i)) (hy:ev e y=some (.int .i64 c)) (hq:i / c=(j:Int)) (h1:0<=i) (h2:0 < c) (h3:i<=9223372036854775807):YO P (.binOp .quo t x y t') ty e bx F (.int .i64 (j:Int)):=hq ▸ YO.quo hx hy h1 h2 h3
def Off.b {w w' k:Nat} (h:w=w'):Off w (k*w') k 0:=by subst h;exact .base
namespace K
namespace Q
namespace R
attribute [local irreducible] WC WL WD YO LO Qq W.Fin Qw Qu Qj Row QQ Qy KnS Has W.One Ql Qr
def YG {G:Prop} (h:G:=by first|((first|(apply YO.quoj;exact rfl;exact rfl;assumption;omega;omega;omega)|exact Go.Proofs.YtcpaopfdiahnnaaGreat.K.YG);done)|fail):G:=h
def oF {G:Prop} (h:G:=by first|((first|(with_reducible apply Off.b;exact rfl)|(with_reducible apply Off.add;with_reducible apply Off.b;exact rfl;((try simp only[Nat.zero_add,Nat.mul_one,Nat.reduceAdd,Nat.reduceMul]);exact rfl))|(with_reducible apply Off.add;with_reducible apply Off.add;with_reducible apply Off.b;exact rfl;((try simp only[Nat.zero_add,Nat.mul_one,Nat.reduceAdd,Nat.reduceMul]);exact rfl);((try simp only[Nat.zero_add,Nat.mul_one,Nat.reduceAdd,Nat.reduceMul]);exact rfl)));done)|fail):G:=h
def Yn {G:Prop} (h:G:=by first|((first|(apply YO.ldL;exact t4A;exact rfl;exact hmA;exact oF;omega;decide;(repeat(first|exact Cut.done|apply Cut.take|apply Cut.drop)))|(apply YO.ldLs;exact t2A;exact rfl;exact hmA;exact oF;omega;(repeat(first|exact Cut.done|apply Cut.take|apply Cut.drop)))|(apply YO.ldOL;exact t4A;exact rfl;exact meA;exact oF;omega;decide;(repeat(first|exact Cut.done|apply Cut.take|apply Cut.drop)))|(apply YO.ldPl1;exact rfl;exact hmA;omega)|exact Go.Proofs.YtcpaopfdiahnnaaGreat.K.Yn);done)|fail):G:=h
def goE {G G':Prop} (h:G') (s:Bx G'->G:=by
 intro h
 (first|(apply WL.Jz;rotate_left;exact rfl;(first|(apply LO.UO;exact rfl;exact rfl;(first|exact T.r36|exact T.r62|exact T.r64|exact T.K6|exact T.VT|exact T.r48|exact T.r50|exact T.r75|exact T.r79|exact T.r83|exact T.r88|exact T.Gb|exact T.r26|exact T.UX);exact hmA;exact seA;omega)|(apply LO.UR;exact rfl;exact rfl;(first|exact T.r36|exact T.r62|exact T.r64|exact T.K6|exact T.VT|exact T.r48|exact T.r50|exact T.r75|exact T.r79|exact T.r83|exact T.r88|exact T.Gb|exact T.r26|exact T.UX);exact hmA;exact seA;omega)|fail))|(apply WD.Jz;exact rfl;rotate_left;exact rfl;(first|(apply LO.UO;exact rfl;exact rfl;(first|exact T.r36|exact T.r62|exact T.r64|exact T.K6|exact T.VT|exact T.r48|exact T.r50|exact T.r75|exact T.r79|exact T.r83|exact T.r88|exact T.Gb|exact T.r26|exact T.UX);exact hmA;exact seA;omega)|(apply LO.UR;exact rfl;exact rfl;(first|exact T.r36|exact T.r62|exact T.r64|exact T.K6|exact T.VT|exact T.r48|exact T.r50|exact T.r75|exact T.r79|exact T.r83|exact T.r88|exact T.Gb|exact T.r26|exact T.UX);exact hmA;exact seA;omega)|fail);constructor;(first|(focus(apply Or.inr;constructor;(repeat(first|exact List.Sublist.refl _|exact List.nil_sublist _|apply List.Sublist.cons_cons|apply List.Sublist.cons));(first|exact λ_ h=>h|(intro f hf;(repeat(first|exact hf|apply List.Mem.tail))));done))|(apply Or.inl;kernel_rfl)))|((first|(apply LO.UO;exact rfl;exact rfl;(first|exact T.r36|exact T.r62|exact T.r64|exact T.K6|exact T.VT|exact T.r48|exact T.r50|exact T.r75|exact T.r79|exact T.r83|exact T.r88|exact T.Gb|exact T.r26|exact T.UX);exact hmA;exact seA;omega)|(apply LO.UR;exact rfl;exact rfl;(first|exact T.r36|exact T.r62|exact T.r64|exact T.K6|exact T.VT|exact T.r48|exact T.r50|exact T.r75|exact T.r79|exact T.r83|exact T.r88|exact T.Gb|exact T.r26|exact T.UX);exact hmA;exact seA;omega)|fail);constructor;(first|(focus(apply Or.inr;constructor;(repeat(first|exact List.Sublist.refl _|exact List.nil_sublist _|apply List.Sublist.cons_cons|apply List.Sublist.cons));(first|exact λ_ h=>h|(intro f hf;(repeat(first|exact hf|apply List.Mem.tail))));done))|(apply Or.inl;kernel_rfl)))|refine Go.Proofs.YtcpaopfdiahnnaaGreat.K.Q.goE ?_|fail)
 exact Bx.h h):G:=s ⟨h⟩
def goEV {G G':Prop} (h:G') (s:Bx G'->G:=by
 intro h
 (first|(apply WL.Jv;rotate_left;exact rfl;exact rfl;(first|(apply LO.appB0;exact rfl;exact rfl;exact hmA;(intro _;exact seA);omega)|(apply LO.appT0;exact rfl;exact rfl;exact hmA;(intro _;exact seA);omega)|fail))|(apply WD.Jv;exact rfl;rotate_left;exact rfl;exact rfl;(first|(apply LO.appB0;exact rfl;exact rfl;exact hmA;(intro _;exact seA);omega)|(apply LO.appT0;exact rfl;exact rfl;exact hmA;(intro _;exact seA);omega)|fail);apply Qc;(intro _;(first|(focus(apply Or.inr;constructor;(repeat(first|exact List.Sublist.refl _|exact List.nil_sublist _|apply List.Sublist.cons_cons|apply List.Sublist.cons));(first|exact λ_ h=>h|(intro f hf;(repeat(first|exact hf|apply List.Mem.tail))));done))|(apply Or.inl;kernel_rfl))))|((first|(apply LO.appB0;exact rfl;exact rfl;exact hmA;(intro _;exact seA);omega)|(apply LO.appT0;exact rfl;exact rfl;exact hmA;(intro _;exact seA);omega)|fail);apply Qc;(intro _;(first|(focus(apply Or.inr;constructor;(repeat(first|exact List.Sublist.refl _|exact List.nil_sublist _|apply List.Sublist.cons_cons|apply List.Sublist.cons));(first|exact λ_ h=>h|(intro f hf;(repeat(first|exact hf|apply List.Mem.tail))));done))|(apply Or.inl;kernel_rfl))))|(apply WL.JU;rotate_left;exact rfl;exact rfl;(apply LO.bsB0))|(apply WD.JU;exact rfl;rotate_left;exact rfl;exact rfl;(apply LO.bsB0);apply Qc;(intro _;(first|(focus(apply Or.inr;constructor;(repeat(first|exact List.Sublist.refl _|exact List.nil_sublist _|apply List.Sublist.cons_cons|apply List.Sublist.cons));(first|exact λ_ h=>h|(intro f hf;(repeat(first|exact hf|apply List.Mem.tail))));done))|(apply Or.inl;kernel_rfl))))|((apply LO.bsB0);apply Qc;(intro _;(first|(focus(apply Or.inr;constructor;(repeat(first|exact List.Sublist.refl _|exact List.nil_sublist _|apply List.Sublist.cons_cons|apply List.Sublist.cons));(first|exact λ_ h=>h|(intro f hf;(repeat(first|exact hf|apply List.Mem.tail))));done))|(apply Or.inl;kernel_rfl))))|(apply WL.JU;rotate_left;exact rfl;exact rfl;(apply LO.bsT0))|(apply WD.JU;exact rfl;rotate_left;exact rfl;exact rfl;(apply LO.bsT0);apply Qc;(intro _;(first|(focus(apply Or.inr;constructor;(repeat(first|exact List.Sublist.refl _|exact List.nil_sublist _|apply List.Sublist.cons_cons|apply List.Sublist.cons));(first|exact λ_ h=>h|(intro f hf;(repeat(first|exact hf|apply List.Mem.tail))));done))|(apply Or.inl;kernel_rfl))))|((apply LO.bsT0);apply Qc;(intro _;(first|(focus(apply Or.inr;constructor;(repeat(first|exact List.Sublist.refl _|exact List.nil_sublist _|apply List.Sublist.cons_cons|apply List.Sublist.cons));(first|exact λ_ h=>h|(intro f hf;(repeat(first|exact hf|apply List.Mem.tail))));done))|(apply Or.inl;kernel_rfl))))|refine Go.Proofs.YtcpaopfdiahnnaaGreat.K.Q.goEV ?_|fail)
 exact Bx.h h):G:=s ⟨h⟩
def y_sc {G:Prop} (h:G:=by first|((apply U1;exact rfl;exact rfl;exact KnS.lo meA;exact KnS.lo meA);done)|fail):G:=h
def goYB {G G':Prop} (h:G') (s:Bx G'->G:=by
 intro h
 (first|(apply WD.yl;exact rfl;exact y_sc;exact rfl;exact rfl)|refine Go.Proofs.YtcpaopfdiahnnaaGreat.K.goYB ?_|fail)
 exact Bx.h h):G:=s ⟨h⟩
def goLY {G G':Prop} (h:G') (s:Bx G'->G:=by
 intro h
 (first|(apply LO.ofY;exact y_sc;constructor;exact(by(first|(focus(apply Or.inr;constructor;(repeat(first|exact List.Sublist.refl _|exact List.nil_sublist _|apply List.Sublist.cons_cons|apply List.Sublist.cons));(first|exact λ_ h=>h|(intro f hf;(repeat(first|exact hf|apply List.Mem.tail))));done))|(apply Or.inl;kernel_rfl))))|refine Go.Proofs.YtcpaopfdiahnnaaGreat.K.goLY ?_|fail)
 exact Bx.h h):G:=s ⟨h⟩
end R
end Q
end K
end
end Go.Proofs.YtcpaopfdiahnnaaGreat
