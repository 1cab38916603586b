/- The law BalanceMoved returns true for every input and leaves its arguments as they were. Conditions: none. -/
import Derived.Test.YtcpaopfdiahnnaaGreatZb7
import Derived.Test.YtcpaopfdiahnnaaGreatZb5
import Derived.Test.YtcpaopfdiahnnaaGreatZb35
import Derived.Test.YtcpaopfdiahnnaaGreatZb36
import Derived.Test.YtcpaopfdiahnnaaGreatZb37
import Derived.Test.YtcpaopfdiahnnaaGreatRows
import Derived.Test.YtcpaopfdiahnnaaGreatZb34
import Derived.ProofKit
import Derived.ChangeSlices
import Derived.Conc.LeavingOf
import Derived.Test.YtcpaopfdiahnnaaGreatZb1
set_option linter.all false
set_option maxHeartbeats 32000000
set_option maxRecDepth 100000
namespace Go.Proofs.YtcpaopfdiahnnaaGreat
section
namespace Bl
open X
section
variable {S S':Sc} {w w' u v u' v':Nat->Rat}
def mir (s:Rat) (a:Vc):Vc:=⟨s*a.x,a.y⟩
structure Mv (S S':Sc) (s k:Rat) (b:Vc):Prop where
 n:S'.n=S.n
 m:S'.m=S.m
 kp:0 < k
 sq:s*s=1
 B:∀ i,i < S.n->(S'.B i).c=⟨(mir s (S.B i).c).x+b.x,(mir s (S.B i).c).y+b.y⟩∧(S'.B i).st=(S.B i).st*k
 T:∀ j,j < S.m->(S'.T j).a=(S.T j).a∧(S'.T j).b=(S.T j).b∧(S'.T j).r=(S.T j).r∧(S'.T j).n=mir s (S.T j).n∧(S'.T j).p=⟨(mir s (S.T j).p).x+b.x,(mir s (S.T j).p).y+b.y⟩∧(S'.T j).q=⟨(mir s (S.T j).q).x+b.x,(mir s (S.T j).q).y+b.y⟩
theorem ab_mir {s:Rat} (hs:s*s=1) (a:Rat):ab (s*a)=ab a:=by
 have:s=1∨s= -1:=by
  have h:(s - 1)*(s+1)=0:=by grind
  rcases Rat.mul_eq_zero.1 h with h|h
  ·exact .inl (by grind)
  ·exact .inr (by grind)
 rcases this with rfl|rfl
 ·rw[Rat.one_mul]
 ·unfold ab;split <;> split <;> grind
theorem Mv.bal {s k:Rat} {b:Vc} (h:Mv S S' s k b) (hb:Bal S w u v):Bal S' (λi=>w i*k) (λj=>u j*k) (λj=>s*(v j*k)):=by
 have hk0:0<=k:=Rat.le_of_lt h.kp;have hT:=λj (hj:j < 2*S.m)=>h.T (j / 2) qo
 have hf:∀ j i,j < 2*S.m->on (S'.T (j / 2)) i (frc (S'.T (j / 2)) (u j*k) (s*(v j*k)))=⟨s*k*(on (S.T (j / 2)) i (frc (S.T (j / 2)) (u j) (v j))).x,k*(on (S.T (j / 2)) i (frc (S.T (j / 2)) (u j) (v j))).y⟩:=λj i hj=>by
  obtain⟨h1,h2,h3,h4,h5,h6⟩:=hT j hj;have hs:=h.sq;unfold on frc;rw[h1,h2,h4];unfold mir;simp only;split
  ·exact congr (congrArg Vc.mk (by grind)) (by grind)
  ·split
   ·exact congr (congrArg Vc.mk (by grind)) (by grind)
   ·exact congr (congrArg Vc.mk (by grind)) (by grind)
 have ha:∀ j i,j < 2*S.m->i < S.n->Q4 (S'.at j) (S'.B i).c=mir s (Q4 (S.at j) (S.B i).c):=λj i hj hi=>by
  obtain⟨h1,h2,h3,h4,h5,h6⟩:=hT j hj;unfold Q4 Sc.at mir;rw[(h.B i hi).1];split
  ·rw[h5];unfold mir;exact congr (congrArg Vc.mk (by grind)) (by grind)
  ·rw[h6];unfold mir;exact congr (congrArg Vc.mk (by grind)) (by grind)
 refine⟨λj hj=>?_,λi hi=>?_⟩
 ·rw[h.m] at hj;obtain⟨h1,h2,h3⟩:=hb.1 j hj;rw[(hT j hj).2.2.1];have e1:=Rat.mul_le_mul_of_nonneg_right h2 hk0;have e2:=Rat.mul_le_mul_of_nonneg_right h3 hk0
  have:s=1∨s= -1:=by
   have h0:(s - 1)*(s+1)=0:=by have:=h.sq;grind
   rcases Rat.mul_eq_zero.1 h0 with h|h
   ·exact .inl (by grind)
   ·exact .inr (by grind)
  refine⟨Rat.mul_nonneg h1 hk0,?_,?_⟩ <;> rcases this with rfl|rfl <;> grind
 ·rw[h.n] at hi;obtain⟨h1,h2,h3,h4⟩:=hb.2 i hi;rw[h.m];refine⟨?_,?_,?_,?_⟩
  ·rw[Qh λj hj=>by rw[hf j i hj],JK,h1];grind
  ·rw[Qh λj hj=>by rw[hf j i hj],JK,h2];grind
  ·rw[Qh (g:=λj=>s*k*Jw (Q4 (S.at j) (S.B i).c) (on (S.T (j / 2)) i (frc (S.T (j / 2)) (u j) (v j)))) λj hj=>by
    rw[hf j i hj,ha j i hj hi];unfold Jw mir;simp only;grind,JK,h3];grind
  ·rw[(h.B i hi).2];refine Rat.le_trans (rle ?_) (Rat.mul_le_mul_of_nonneg_right h4 hk0);rw[<-Xq];refine Qh λj hj=>?_;obtain⟨t1,t2,t3,t4,t5,t6⟩:=hT j hj;have ht:tch (S'.T (j / 2)) i↔tch (S.T (j / 2)) i:=by unfold tch;rw[t1,t2]
   have hsp:spn (S'.T (j / 2)).n=spn (S.T (j / 2)).n:=by rw[t4];unfold spn mir;rw[ab_mir h.sq]
   rw[hsp];by_cases c:tch (S.T (j / 2)) i
   ·rw[if_pos c,if_pos (ht.2 c)];grind
   ·rw[if_neg c,if_neg (λx=>c (ht.1 x))];grind
theorem Mv.back {s k:Rat} {b:Vc} (h:Mv S S' s k b):Mv S' S s k⁻¹ ⟨-(s*b.x),-b.y⟩:=by
 have hs:=h.sq
 have hm:∀ a:Vc,(⟨(mir s ⟨(mir s a).x+b.x,(mir s a).y+b.y⟩).x+ -(s*b.x),(mir s ⟨(mir s a).x+b.x,(mir s a).y+b.y⟩).y+ -b.y⟩:Vc)=a:=λa=>by
  unfold mir;simp only;obtain⟨x,y⟩:=a;exact congr (congrArg Vc.mk (by grind)) (by grind)
 have hk:k≠0:=λe=>by have:=h.kp;rw[e] at this;exact absurd this qd
 refine⟨h.n.symm,h.m.symm,Rat.inv_pos.2 h.kp,h.sq,λi hi=>?_,λj hj=>?_⟩
 ·rw[h.n] at hi;rw[(h.B i hi).1,(h.B i hi).2];exact⟨(hm _).symm,by rw[Rat.mul_assoc,Rat.mul_inv_cancel _ hk,Rat.mul_one]⟩
 ·rw[h.m] at hj;obtain⟨h1,h2,h3,h4,h5,h6⟩:=h.T j hj;refine⟨h1.symm,h2.symm,h3.symm,?_,?_,?_⟩
  ·rw[h4];unfold mir;simp only;rw[<-Rat.mul_assoc,h.sq,Rat.one_mul]
  ·rw[h5];exact(hm _).symm
  ·rw[h6];exact(hm _).symm
end
end Bl
end
section
namespace Bl
open X
section
variable {S S':Sc}
theorem Mv.sat {s k:Rat} {b:Vc} (h:Mv S S' s k b) (hw:∀ i,i < S.n->(S'.B i).lo=(S.B i).lo*k∧(S'.B i).hi=(S.B i).hi*k) {c:Nat} (hs:Sat S c):Sat S' c:=by
 obtain⟨x,hx⟩:=hs;refine⟨λj=>if j % 2=0 then x j*k else s*(x j*k),Xt.2 ((h.bal (Xt.1 hx)).congr (λj _=>⟨?_,?_⟩) λi hi=>?_)⟩
 ·simp only[if_pos (show 2*j % 2=0 by omega)]
 ·simp only[if_neg (show ¬(2*j+1) % 2=0 by omega)]
 ·rw[h.n] at hi;unfold Sc.wt;rw[(hw i hi).1,(hw i hi).2];split <;> rfl
def mvB (s k:Rat) (b:Vc) (B:Bd):Bd:=⟨⟨(mir s B.c).x+b.x,(mir s B.c).y+b.y⟩,B.lo*k,B.hi*k,B.st*k⟩
def mvT (s:Rat) (b:Vc) (t:Tc):Tc:=⟨t.a,t.b,⟨(mir s t.p).x+b.x,(mir s t.p).y+b.y⟩,⟨(mir s t.q).x+b.x,(mir s t.q).y+b.y⟩,mir s t.n,t.r⟩
def mvS (s k:Rat) (b:Vc) (S:Sc):Sc:=⟨S.n,S.m,λi=>mvB s k b (S.B i),λj=>mvT s b (S.T j)⟩
theorem mv_is {s k:Rat} {b:Vc} (hk:0 < k) (hs:s*s=1):Mv S (mvS s k b S) s k b:=⟨rfl,rfl,hk,hs,λ_ _=>⟨rfl,rfl⟩,λ_ _=>⟨rfl,rfl,rfl,rfl,rfl,rfl⟩⟩
theorem mv_sat {s k:Rat} {b:Vc} (hk:0 < k) (hs:s*s=1) (c:Nat):Sat (mvS s k b S) c↔Sat S c:=by
 have h:=mv_is (S:=S) (b:=b) hk hs;have k0:k≠0:=λe=>by rw[e] at hk;exact absurd hk qd
 refine⟨h.back.sat λi hi=>?_,h.sat λi hi=>⟨rfl,rfl⟩⟩;show(S.B i).lo=(S.B i).lo*k*k⁻¹∧(S.B i).hi=(S.B i).hi*k*k⁻¹;rw[Rat.mul_assoc,Rat.mul_assoc,Rat.mul_inv_cancel _ k0,Rat.mul_one,Rat.mul_one];exact⟨rfl,rfl⟩
theorem mv_ok {s k:Rat} {b:Vc} (hk:0 < k) (hs:s*s=1) (h:S.ok):(mvS s k b S).ok:=by
 refine⟨h.n,h.m,λi hi=>?_,λj hj=>?_⟩
 ·obtain⟨h1,h2,h3⟩:=h.B i hi;exact⟨Rat.mul_pos h1 hk,Rat.mul_le_mul_of_nonneg_right h2 (Rat.le_of_lt hk),Rat.mul_pos h3 hk⟩
 ·obtain⟨h1,h2,h3,h4,h5,h6,h7,h8⟩:=h.T j hj;refine⟨h1,h2,h3,h4,h5,h6,λhz=>h7 ⟨?_,hz.2⟩,?_⟩
  ·have e:s*(S.T j).n.x=0:=hz.1;have:s*(s*(S.T j).n.x)=0:=by rw[e];grind
   rw[<-Rat.mul_assoc,hs] at this;grind
  ·show s*(S.T j).n.x*(s*(S.T j).q.x+b.x - (s*(S.T j).p.x+b.x))+(S.T j).n.y*((S.T j).q.y+b.y - ((S.T j).p.y+b.y))=0;grind
theorem Gz {s:Rat} (hs:s=1∨s= -1) {D A:Nat} {a:Vc} (h:Fv D A a):Fv D A (mir s a):=by
 unfold mir;rcases hs with rfl|rfl
 ·exact⟨by show Fr D A (1*a.x);rw[Rat.one_mul];exact h.1,h.2⟩
 ·exact⟨by show Fr D A (-1*a.x);rw[show -1*a.x= -a.x by grind];exact h.1.neg,h.2⟩
theorem mv_fs {s k:Rat} {b:Vc} {D A c:Nat} (hs:s=1∨s= -1) (hk:Fr 6 36 k) (hb:Fv 1 4 b) (hA:D<=A) (h:Fs D A S):Fs (D*6) (A*36) (mvS s k b S):=by
 have e1:∀ {q:Rat},Fr D A q->Fr (D*6) (A*36) q:=λh=>h.sc' rfl qo;have e2:∀ {q:Rat},Fr D A q->Fr (D*6) (A*36) (q*k):=λh=>h.mul hk;have ea:∀ {q r:Rat},Fr D A q->Fr 1 4 r->Fr (D*6) (A*36) (q+r):=λh h2=>((h.sc 6).add (h2.sc' (E:=D*6) (B:=4*(D*6)) (c:=D*6) qo qo)).up qo;have ev:∀ {a:Vc},Fv D A a->Fv (D*6) (A*36) ⟨(mir s a).x+b.x,(mir s a).y+b.y⟩:=λh=>⟨ea (Gz hs h).1 hb.1,ea (Gz hs h).2 hb.2⟩
 refine⟨λi hi=>?_,λj hj=>?_⟩
 ·obtain⟨h1,h2,h3,h4⟩:=h.B i hi;exact⟨ev h1,e2 h2,e2 h3,e2 h4⟩
 ·obtain⟨h1,h2,h3,h4⟩:=h.T j hj;exact⟨ev h1,ev h2,⟨e1 (Gz hs h3).1,e1 (Gz hs h3).2⟩,e1 h4⟩
end
end Bl
end
section
open W Go.RowKit
open Bl (Vc Bd Tc Sc)
section
variable {e:Env} {bx bx':List Ow} {F:List Fct} {ty t el:TypeId} {x y z u r s:Operand} {v w:Value} {K:Qd} {tm:ToM} {tc:Tc} {bm:BM} {b:Bd} {v1 v2 v3:VM} {n1 n2 n3:QM} {A B:Int} {n m:Nat}
theorem LO.appTx {el':TypeId} {ms:Nat->ToM} {xs:Nat->Tc} {bx2:Value->List Ow} (hx:ev e x=some v) (hy:ev e y=some w) (hu:Ow.slice w el' 30 (tcs tm (xs n))∈bx) (hm:Has F (fT tm (xs n))) (hs:∀ v',Sel bx (lO Qb v 79 n ms xs) (lO Qb v' 79 (n+1) (upd ms n tm) xs) (bx2 v')) (hl:n<=1000000) (h:∀ v',K v' (bx2 v') F) :
  LO Tryz.prog (.call {callee:=.builtin .append,args:=#[x,y],argTypes:=#[24,24]}) ty e bx F K:=
 LO.appG (S:=Qb) (c:=1) T.e24 hx hy hu (JQ (S:=Qb) (mm:=tm)) rfl (Vm hm) hs qd qd hl qd h
end
end
section
open W Go.RowKit
open Bl (Vc Bd Tc Sc)
namespace K
namespace Q
attribute [local irreducible] WC WL WD YO LO Qq W.Fin Qw Qu Qj Row QQ Qy KnS Has W.One Ql Qr
theorem d97 {G G':Prop} (h:G') (s:Bx G'->G:=by
 intro h;first|refine gF ?_|(apply WC.draw (id:=2) [0,1,3,4,5] (.h 0<|.h 1<|.h 3<|.h 4<|.l 2<|.h 5<|.l 6 .done) mixed kr)|fail
 exact Bx.h h):G:=s ⟨h⟩
theorem turned_c (m:VM) (a:Vc) (b:Bool):FnB Tryz.prog 97 [vv m,.bool b] [] [fV m a] (KA (Bl.mir (if b=true then -1 else 1) a)):=by
 refine fO [(0,(vv m)),(1,(.bool b))] 13 Tryz.func97 Tryz.ntmps97 λh0=>?_;refine WC.fact (isQ (qv m.1) a.x) (W.Has.vx (m:=m) hmA) ?_;refine WC.fact (isQ (qv m.2) a.y) (W.Has.vy (m:=m) hmA) ?_;cases b with
 |true=>
  have e:Bl.mir (if true=true then -1 else 1) a=⟨-a.x,a.y⟩:=by unfold Bl.mir;rw[if_pos rfl];exact congr (congrArg Vc.mk (by grind)) rfl
  rw[e];repeat'(first|intro(g:Nat)|refine d97 ?_|intro v)
  refine cW (Zn.rneg m.1 a.x) λn1=>?_;repeat'(first|intro(g:Nat)|refine d97 ?_|intro v)
  refine WC.ret ?_;exact Fp [fV (n1,m.2) ⟨-a.x,a.y⟩] (rcV T.r75) (.cons (W.Has.vof (m:=(n1,m.2)) (a:=⟨-a.x,a.y⟩) hmA hmA) .nil) ⟨(n1,m.2),rfl,rfl,rfl⟩
 |false=>
  have e:Bl.mir (if false=true then -1 else 1) a=a:=by unfold Bl.mir;rw[if_neg qd,Rat.one_mul]
  rw[e];repeat'(first|intro(g:Nat)|refine d97 ?_|intro v)
  refine WC.ret ?_;exact Fp [fV m a] (rcV T.r75) haA ⟨m,rfl,rfl,rfl⟩
end Q
end K
end
section
open W Go.RowKit
open Bl (Vc Bd Tc Sc)
theorem mir_sq {s:Rat} (hs:s=1∨s= -1) {a:Vc} {K:Nat} (h:Sv K a):Sv K (Bl.mir s a):=by
 unfold Bl.mir;rcases hs with rfl|rfl
 ·exact⟨by show Sq K (1*a.x);rw[Rat.one_mul];exact h.1,h.2⟩
 ·exact⟨by show Sq K (-1*a.x);rw[show -1*a.x= -a.x by grind];exact h.1.neg,h.2⟩
namespace K
namespace Q
attribute [local irreducible] WC WL WD YO LO Qq W.Fin Qw Qu Qj Row QQ Qy KnS Has W.One Ql Qr
theorem d35 {G G':Prop} (h:G') (s:Bx G'->G:=by
 intro h;first|refine gF ?_|refine H3 ?_|(apply WC.draw (id:=6) [0,1,2,3,4,6,8,9,10,12,13,14,16,17,18,20] (.h 0<|.h 1<|.h 2<|.h 3<|.h 4<|.h 6<|.h 8<|.h 9<|.h 10<|.h 12<|.h 13<|.h 14<|.h 16<|.h 17<|.h 18<|.l 5<|.l 7<|.l 11<|.l 15<|.l 19<|.h 20<|.l 21<|.l 22<|.f 23<|.l 24 .done) mixed kr)|(apply WC.draw (id:=11) [0,1,2,3,4,5,6,7,8,10,12,13,14,16,18,19,20,22,23,24] (.h 0<|.h 1<|.h 2<|.h 3<|.h 4<|.h 5<|.h 6<|.h 7<|.h 8<|.h 10<|.h 12<|.h 13<|.h 14<|.h 16<|.h 18<|.h 19<|.h 20<|.h 22<|.h 23<|.l 9<|.l 11<|.l 15<|.l 17<|.l 21<|.h 24<|.l 25<|.l 26<|.f 27<|.l 28 .done) mixed kr)|fail
 exact Bx.h h):G:=s ⟨h⟩
theorem mirrored_c (M:SM) (S:Sc) (b:Bool) (mb:VM) (mk:QM) (by_:Vc) (k:Rat) (hs:Ss 1 S) (ho:S.ok) (hb:Sv 1 by_) (hk:Sq 1 k) :
  FnB Tryz.prog 35 [.agg #[M.l,M.t],.bool b,vv mb,qv mk] [] [fSl M S,fSt M S,fV mb by_,isQ (qv mk) k] (IsScv (Bl.mvS (if b=true then -1 else 1) k by_ S)):=by
 refine fO [(0,(.agg #[M.l,M.t])),(1,(.bool b)),(2,(vv mb)),(3,(qv mk))] 91 Tryz.func35 Tryz.ntmps35 λh0=>?_;have hn:=ho.n;have hm:=ho.m;have htn:=λm a=>turned_c m a b;have hs1:(if b=true then(-1:Rat) else 1)=1∨(if b=true then(-1:Rat) else 1)= -1:=by cases b;exact .inl rfl;exact .inr rfl
 generalize (if b=true then(-1:Rat) else 1)=s at *;repeat'(first|intro(g:Nat)|refine d35 ?_|intro v)
 revert g;intro g9;revert g;intro g8;revert g;intro g7;revert g;intro g6;revert g;intro g4;refine WC.keep (g:=g4) (t:=26) (cs:=[M.l,M.t]) (by repeat(first|exact Rem.head|apply Rem.tail)) ?_;refine WC.keep (g:=g6) (t:=75) (cs:=vcs mb) (by repeat(first|exact Rem.head|apply Rem.tail)) ?_;refine WC.keep (g:=g7) (t:=64) (cs:=qcs mk) (by repeat(first|exact Rem.head|apply Rem.tail)) ?_;refine WC.Jd 88 20 ?_;refine WC.Xf (σ:=Value×(Nat->BM)) (λst=>[(4,ptr g4),(6,ptr g6),(7,ptr g7),(9,ptr g9),(8,ptr g8),(1,.bool b)]) (λst=>[lO Qm st.1 88 S.n st.2 (λi=>Bl.mvB s k by_ (S.B i)),Ow.cells g9 26 [st.1,.slice none 0 0],Ow.cells g8 26 [.slice none 0 0,.slice none 0 0]]) (λst=>[lM Qm S.n st.2 (λi=>Bl.mvB s k by_ (S.B i)),ce g4 26 [M.l,M.t],ce g6 75 (vcs mb),ce g7 64 (qcs mk),fV mb by_,isQ (qv mk) k,ge h0,fSl M S,fSt M S]) (λ_=>True) ?_ ?_
 ·refine WC.lp (σ:=Nat×Value×(Nat->BM)) (λst=>[(10,.int .i64 (st.1:Int)),(4,ptr g4),(6,ptr g6),(7,ptr g7),(9,ptr g9),(8,ptr g8),(1,.bool b)]) (λst=>[lO Qm st.2.1 88 st.1 st.2.2 (λi=>Bl.mvB s k by_ (S.B i)),Ow.cells g9 26 [st.2.1,.slice none 0 0],Ow.cells g8 26 [.slice none 0 0,.slice none 0 0]]) (λst=>[lM Qm st.1 st.2.2 (λi=>Bl.mvB s k by_ (S.B i)),ce g4 26 [M.l,M.t],ce g6 75 (vcs mb),ce g7 64 (qcs mk),fV mb by_,isQ (qv mk) k,ge h0,fSl M S,fSt M S]) (λst=>st.1<=S.n) (λst=>S.n - st.1) (0,.slice none 0 0,λ_=>⟨(m00,m00),m00,m00,m00⟩) (Nat.zero_le _) ?_ (hG:=.cons W.Has.Gk haA);rintro⟨i,bl,mB⟩ hi;simp only at hi ⊢;by_cases d:i < S.n
  ·obtain⟨z1,z2,z3,z4⟩:=hs.B i d;refine WC.fact (fB (M.B i) (S.B i)) (W.Has.lk (S:=Qm) (v:=M.l) hmA d) ?_;refine WC.fact (fV (M.B i).c (S.B i).c) (W.Has.bc (bm:=M.B i) hmA) ?_;refine WC.fact (isQ (qv (M.B i).lo) (S.B i).lo) (W.Has.bl (bm:=M.B i) hmA) ?_;refine WC.fact (isQ (qv (M.B i).hi) (S.B i).hi) (W.Has.bh (bm:=M.B i) hmA) ?_;refine WC.fact (isQ (qv (M.B i).st) (S.B i).st) (W.Has.bs (bm:=M.B i) hmA) ?_;repeat'(first|intro(g:Nat)|refine d35 ?_|intro v)
   refine cW (htn (M.B i).c (S.B i).c) λm31=>?_;repeat'(first|intro(g:Nat)|refine d35 ?_|intro v)
   refine cW (XK m31 mb (Bl.mir s (S.B i).c) by_ 1 qd (mir_sq hs1 z1) hb) λm33=>?_;repeat'(first|intro(g:Nat)|refine d35 ?_|intro v)
   refine cW (Zn.Zh (M.B i).lo mk (S.B i).lo k (z2.sm qd) (hk.sm qd)) λn37=>?_;repeat'(first|intro(g:Nat)|refine d35 ?_|intro v)
   refine cW (Zn.Zh (M.B i).hi mk (S.B i).hi k (z3.sm qd) (hk.sm qd)) λn41=>?_;repeat'(first|intro(g:Nat)|refine d35 ?_|intro v)
   refine cW (Zn.Zh (M.B i).st mk (S.B i).st k (z4.sm qd) (hk.sm qd)) λn45=>?_;refine WD.fact (fB ⟨m33,n37,n41,n45⟩ (Bl.mvB s k by_ (S.B i))) (W.Has.bof (bm:=⟨m33,n37,n41,n45⟩) (b:=Bl.mvB s k by_ (S.B i)) hmA hmA hmA hmA) ?_;repeat'(first|intro(g:Nat)|refine d35 ?_|intro v)
   revert v;intro v47;refine WD.l rfl rfl rfl (LO.appBd (bm:=⟨m33,n37,n41,n45⟩) (n:=i) (ms:=mB) (xs:=(λi=>Bl.mvB s k by_ (S.B i))) rfl rfl meA hmA (λv'=>by repeat(first|exact Sel.head|apply Sel.tail)) qo λbl2=>?_);refine⟨.inl kr,?_⟩;refine WD.fy rfl (YO.Yx T.Hd rfl qr) qr qr ?_;repeat'(first|intro(g:Nat)|refine d35 ?_|intro v)
   exact Qq.mk (i+1,bl2,upd mB i ⟨m33,n37,n41,n45⟩) (by simp only;omega) (by simp only;omega) (hG:=.cons (W.Has.Yg (S:=Qm) (n:=i) (ms:=mB) (xs:=(λi=>Bl.mvB s k by_ (S.B i))) (mm:=⟨m33,n37,n41,n45⟩) hmA hmA) haA)
  ·obtain rfl:i=S.n:=qo;repeat'(first|intro(g:Nat)|refine d35 ?_|intro v)
   exact QZ (bl,mB) trivial
 rintro⟨bl,mB⟩ _;simp only;refine WC.QB (S:=Qm) (v:=bl) (n:=S.n) (ms:=mB) (xs:=(λi=>Bl.mvB s k by_ (S.B i))) (by repeat(first|exact Sel.head|apply Sel.tail)) hmA ?_;refine WC.Jd 79 30 ?_;repeat'(first|intro(g:Nat)|refine d35 ?_|intro v)
 refine WC.Xf (σ:=Value×(Nat->ToM)) (λst=>[(4,ptr g4),(6,ptr g6),(7,ptr g7),(9,ptr g9),(8,ptr g8),(1,.bool b)]) (λst=>[lO Qb st.1 79 S.m st.2 (λj=>Bl.mvT s by_ (S.T j)),Ow.cells g9 26 [bl,st.1],Ow.cells g8 26 [.slice none 0 0,.slice none 0 0]]) (λst=>[lM Qb S.m st.2 (λj=>Bl.mvT s by_ (S.T j)),lF Qm bl S.n mB (λi=>Bl.mvB s k by_ (S.B i)),ce g4 26 [M.l,M.t],ce g6 75 (vcs mb),ce g7 64 (qcs mk),fV mb by_,isQ (qv mk) k,ge h0,fSl M S,fSt M S]) (λ_=>True) ?_ ?_
 ·refine WC.lp (σ:=Nat×Value×(Nat->ToM)) (λst=>[(12,.int .i64 (st.1:Int)),(4,ptr g4),(6,ptr g6),(7,ptr g7),(9,ptr g9),(8,ptr g8),(1,.bool b)]) (λst=>[lO Qb st.2.1 79 st.1 st.2.2 (λj=>Bl.mvT s by_ (S.T j)),Ow.cells g9 26 [bl,st.2.1],Ow.cells g8 26 [.slice none 0 0,.slice none 0 0]]) (λst=>[lM Qb st.1 st.2.2 (λj=>Bl.mvT s by_ (S.T j)),lF Qm bl S.n mB (λi=>Bl.mvB s k by_ (S.B i)),ce g4 26 [M.l,M.t],ce g6 75 (vcs mb),ce g7 64 (qcs mk),fV mb by_,isQ (qv mk) k,ge h0,fSl M S,fSt M S]) (λst=>st.1<=S.m) (λst=>S.m - st.1) (0,.slice none 0 0,λ_=>⟨(m00,m00),(m00,m00),(m00,m00),m00⟩) (Nat.zero_le _) ?_ (hG:=.cons W.Has.Gk haA);rintro⟨j,tl,mT⟩ hj;simp only at hj ⊢;by_cases d:j < S.m
  ·obtain⟨z1,z2,z3,z4⟩:=hs.T j d;refine WC.fact (fT (M.T j) (S.T j)) (W.Has.lk (S:=Qb) (v:=M.t) hmA d) ?_;refine WC.fact (fV (M.T j).p (S.T j).p) (W.Has.tp (tm:=M.T j) hmA) ?_;refine WC.fact (fV (M.T j).q (S.T j).q) (W.Has.tq (tm:=M.T j) hmA) ?_;refine WC.fact (fV (M.T j).n (S.T j).n) (W.Has.tn (tm:=M.T j) hmA) ?_;refine WC.fact (isQ (qv (M.T j).r) (S.T j).r) (W.Has.trr (tm:=M.T j) hmA) ?_;repeat'(first|intro(g:Nat)|refine d35 ?_|intro v)
   refine cW (htn (M.T j).p (S.T j).p) λm71=>?_;repeat'(first|intro(g:Nat)|refine d35 ?_|intro v)
   refine cW (XK m71 mb (Bl.mir s (S.T j).p) by_ 1 qd (mir_sq hs1 z1) hb) λm73=>?_;repeat'(first|intro(g:Nat)|refine d35 ?_|intro v)
   refine cW (htn (M.T j).q (S.T j).q) λm77=>?_;repeat'(first|intro(g:Nat)|refine d35 ?_|intro v)
   refine cW (XK m77 mb (Bl.mir s (S.T j).q) by_ 1 qd (mir_sq hs1 z2) hb) λm79=>?_;repeat'(first|intro(g:Nat)|refine d35 ?_|intro v)
   refine cW (htn (M.T j).n (S.T j).n) λm83=>?_;refine WD.fact (fT ⟨m73,m79,m83,(M.T j).r⟩ (Bl.mvT s by_ (S.T j))) (W.Has.tof (tm:=⟨m73,m79,m83,(M.T j).r⟩) (t:=Bl.mvT s by_ (S.T j)) hmA hmA hmA hmA) ?_;repeat'(first|intro(g:Nat)|refine d35 ?_|intro v)
   revert v;intro v87;refine WD.l rfl rfl rfl (LO.appTx (tm:=⟨m73,m79,m83,(M.T j).r⟩) (n:=j) (ms:=mT) (xs:=(λj=>Bl.mvT s by_ (S.T j))) rfl rfl meA hmA (λv'=>by repeat(first|exact Sel.head|apply Sel.tail)) qo λtl2=>?_);refine⟨.inl kr,?_⟩;refine WD.fy rfl (YO.Yx T.Un rfl qr) qr qr ?_;repeat'(first|intro(g:Nat)|refine d35 ?_|intro v)
   exact Qq.mk (j+1,tl2,upd mT j ⟨m73,m79,m83,(M.T j).r⟩) (by simp only;omega) (by simp only;omega) (hG:=.cons (W.Has.Yg (S:=Qb) (n:=j) (ms:=mT) (xs:=(λj=>Bl.mvT s by_ (S.T j))) (mm:=⟨m73,m79,m83,(M.T j).r⟩) hmA hmA) haA)
  ·obtain rfl:j=S.m:=qo;repeat'(first|intro(g:Nat)|refine d35 ?_|intro v)
   exact QZ (tl,mT) trivial
 rintro⟨tl,mT⟩ _;simp only;refine WC.QB (S:=Qb) (v:=tl) (n:=S.m) (ms:=mT) (xs:=(λj=>Bl.mvT s by_ (S.T j))) (by repeat(first|exact Sel.head|apply Sel.tail)) hmA ?_;repeat'(first|intro(g:Nat)|refine d35 ?_|intro v)
 refine WC.ret ?_;exact Fp [lF Qm bl S.n mB (λi=>Bl.mvB s k by_ (S.B i)),lF Qb tl S.m mT (λj=>Bl.mvT s by_ (S.T j))] (rcV T.r26) haA ⟨⟨bl,tl,mB,mT⟩,rfl,rfl,rfl⟩
end Q
end K
end
section
open W Go.RowKit
open Bl (Vc Bd Tc Sc)
theorem share_fr {a b:Int} (ha:1<=a∧a<=6) (hb:1<=b∧b<=3):Fr 6 36 (Rat.divInt a b)∧0 < Rat.divInt a b:=by
 refine⟨?_,Bl.divpos qo qo⟩;have:b=1∨b=2∨b=3:=qo;rcases this with rfl|rfl|rfl
 ·exact(Fr.of (D:=1) (A:=6) qd qo).sc' (c:=6) rfl qd
 ·exact(Fr.of (D:=2) (A:=6) qd qo).sc' (c:=3) rfl qd
 ·exact(Fr.of (D:=3) (A:=6) qd qo).sc' (c:=2) rfl qd
theorem tdiv6 {n:Int} (h:I64 n):I64 (n.tdiv 6):=by
 have h1:=Int.natAbs_tdiv n 6;have h2:(6:Int).natAbs=6:=rfl;rw[h2] at h1;have h3:(n.tdiv 6).natAbs=n.natAbs / 6:=h1;unfold I64 at *;omega
theorem YO.tquo6 {P:Program} {e:Env} {bx:List Ow} {F:List Fct} {ty t t':TypeId} {x y:Operand} {n:Int} (hx:ev e x=some (.int .i64 n)) (hy:ev e y=some (.int .i64 6)) (h:I64 n):YO P (.binOp .quo t x y t') ty e bx F (.int .i64 (n.tdiv 6)):=by
 have h2:=tdiv6 h;have h1:=YO.tquo (P:=P) (bx:=bx) (F:=F) (ty:=ty) (t:=t) (t':=t') hx hy qd
 rwa [wrap_i64 h2.1 h2.2] at h1
namespace K
namespace Q
attribute [local irreducible] WC WL WD YO LO Qq W.Fin Qw Qu Qj Row QQ Qy KnS Has W.One Ql Qr
theorem d6 {G G':Prop} (h:G') (s:Bx G'->G:=by
 intro h;first|refine gE ?_|(apply WC.draw (id:=2) [0,1,2,4,5,7,9,11,12,13,15] (.h 0<|.h 1<|.h 2<|.h 5<|.h 9<|.h 12<|.h 13<|.m 3 (.h 4<|.m 6 (.h 7<|.m 8 (.m 10 (.h 11<|.m 14 (.h 15<|.m 16 (.m 17 (.l 18<|.l 19 .done) (.l 18<|.l 17<|.l 19 .done)) (.l 18<|.l 16<|.l 17<|.l 19 .done)) (.l 18<|.l 14<|.h 15<|.l 16<|.l 17<|.l 19 .done)) (.l 18<|.l 10<|.h 11<|.l 14<|.h 15<|.l 16<|.l 17<|.l 19 .done)) (.l 18<|.l 8<|.l 10<|.h 11<|.l 14<|.h 15<|.l 16<|.l 17<|.l 19 .done)) (.l 18<|.l 6<|.h 7<|.l 8<|.l 10<|.h 11<|.l 14<|.h 15<|.l 16<|.l 17<|.l 19 .done)) (.l 18<|.l 3<|.h 4<|.l 6<|.h 7<|.l 8<|.l 10<|.h 11<|.l 14<|.h 15<|.l 16<|.l 17<|.l 19 .done)) mixed kr)|fail
 exact Bx.h h):G:=s ⟨h⟩
theorem movedLaw_c (lv:Value) (l:List Int) (n2 n3 n4:Int) (b:Bool) (hl:∀ x∈l,I64 x) (h2:I64 n2) (h3:I64 n3) (h4:I64 n4):FnB Tryz.prog 6 [lv,.bool b,.int .i64 n2,.int .i64 n3,.int .i64 n4] [] [isX Tryz.prog,sI lv l] (IsV (.bool true)):=by
 refine fO [(0,lv),(1,(.bool b)),(2,(.int .i64 n2)),(3,(.int .i64 n3)),(4,(.int .i64 n4))] 70 Tryz.func6 Tryz.ntmps6 λh0=>?_;have hok:=Bl.GZ l;have hfs:=Bl.GX l;have hss:=Fs.ss hfs qd qd qd;generalize hS:Bl.Ye l=S at *;have a2:=@Jk n2 9 qd;have a3:=@Jk n3 9 qd;have a4:=@Jk n4 6 qd;have h4':I64 (n4.tdiv 6):=tdiv6 h4;have a5:=@Jk (n4.tdiv 6) 3 qd;have c24:=Jl n2 9 h2 qd;have c27:=Jl n3 9 h3 qd;have c31:=Jl n4 6 h4 qd;have c35:=Jl (n4.tdiv 6) 3 h4' qd;generalize JZ n2 9=x2 at *;generalize JZ n3 9=x3 at *;generalize JZ n4 6=x4 at *;generalize JZ (n4.tdiv 6) 3=x5 at *;obtain⟨kf,k0⟩:=share_fr (a:=1+x4) (b:=1+x5) qo qo;have bf:Fv 1 4 ⟨((x2 - 4:Int):Rat),((x3 - 4:Int):Rat)⟩:=⟨Fr.int _ qo,Fr.int _ qo⟩
 have hsb:(if b=true then(-1:Rat) else 1)=1∨(if b=true then(-1:Rat) else 1)= -1:=by cases b;exact .inl rfl;exact .inr rfl
 have hsq:(if b=true then(-1:Rat) else 1)*(if b=true then(-1:Rat) else 1)=1:=by rcases hsb with h|h <;> rw[h] <;> decide +kernel
 have c29:=Ya (x2 - 4) (x3 - 4) (XD qo qo) (XD qo qo);have c37:=Zn.rof (1+x4) (1+x5) (XD qo qo) (XD qo qo);have c38:=λM mb mk=>mirrored_c M S b mb mk ⟨((x2 - 4:Int):Rat),((x3 - 4:Int):Rat)⟩ (Rat.divInt (1+x4) (1+x5)) hss hok (bf.sv qd qd qd) (kf.sq qd qd qd);have ok2:=Bl.mv_ok (b:=⟨((x2 - 4:Int):Rat),((x3 - 4:Int):Rat)⟩) k0 hsq hok;have ss2:=Fs.ss (Bl.mv_fs (c:=0) hsb kf bf qd hfs) qd qd qd;have sat2:=λc=>Bl.mv_sat (S:=S) (b:=⟨((x2 - 4:Int):Rat),((x3 - 4:Int):Rat)⟩) k0 hsq c;have n2':(Bl.mvS (if b=true then -1 else 1) (Rat.divInt (1+x4) (1+x5)) ⟨((x2 - 4:Int):Rat),((x3 - 4:Int):Rat)⟩ S).n=S.n:=rfl;generalize Bl.mvS (if b=true then -1 else 1) (Rat.divInt (1+x4) (1+x5)) ⟨((x2 - 4:Int):Rat),((x3 - 4:Int):Rat)⟩ S=S2 at *;repeat'(first|intro(g:Nat)|refine d6 ?_|refine gN ?_ ?_|intro v)
 refine cK (some_c lv l hl) ?_;rw[hS];rintro _ _ _ ⟨M,rfl,rfl,rfl⟩;refine sNn ?_;repeat'(first|intro(g:Nat)|refine gP ?_|intro v)
 revert g;intro g11;refine WC.YJ (σ:=Nat×SM) (λst=>[(12,ptr st.1),(11,ptr g11)]) (λst=>[Ow.cells st.1 26 [st.2.l,st.2.t],Ow.cells g11 26 [M.l,M.t]]) (λst=>[fSl st.2 S2,fSt st.2 S2,fSl M S,fSt M S,ge h0,isX Tryz.prog]) (λ_=>True) ?_ ?_
 ·repeat'(first|intro(g:Nat)|refine d6 ?_|refine gN ?_ ?_|intro v)
  refine WD.y rfl (YO.tquo6 rfl rfl h4) qr qr ?_;repeat'(first|intro(g:Nat)|refine d6 ?_|refine gN ?_ ?_|refine cU (c24) ?_|refine cU (c27) ?_|refine cW (c29) λzm=>?_|refine cU (c31) ?_|refine cU (c35) ?_|refine cW (c37) λzm=>?_|refine cW (c38 M _ _) λzm=>?_|intro v)
  all_goals(apply Ex2;refine⟨trivial,?_,?_,?_⟩;(focus(repeat(first|exact Sub.nil _|refine Sub.cons rfl ?_)));(focus(repeat(first|exact Q9.nil _|(apply Q9.cons;(repeat(first|exact Rem.head|apply Rem.tail))))));(focus(repeat(first|exact Qk.nil|(apply Qk.cons;exact hsA)))))
 rintro⟨g12,M2⟩ _;simp only;have pow2:2 ^ S2.n=2 ^ S.n:=by rw[n2']
 repeat'(first|intro(g:Nat)|refine d6 ?_|refine gN ?_ ?_|intro v)
 refine cK (Xd M S 1 qd qd hss hok) ?_;rintro _ _ _ ⟨rfl,⟨cv,ms,xs,rfl,rfl,hpt⟩|⟨c,yv,my,y,rfl,rfl,hc,hinf,hy,hprev⟩⟩
 ·refine sNn ?_;repeat'(first|intro(g:Nat)|refine d6 ?_|refine gN ?_ ?_|intro v)
  refine cK (Xd M2 S2 1 qd qd ss2 ok2) ?_;rintro _ _ _ ⟨rfl,⟨cv2,ms2,xs2,rfl,rfl,hpt2⟩|⟨c2,yv2,my2,y2,rfl,rfl,hc2,hinf2,hy2,hprev2⟩⟩
  case inr=>
   obtain⟨x,hx⟩:=(sat2 c2).2 ⟨_,(hpt c2 qo).1⟩;exact absurd hx (X.Yw hinf2)
  refine sNn ?_;repeat'(first|intro(g:Nat)|refine d6 ?_|refine gN ?_ ?_|intro v)
  refine cV (Zr) ?_;repeat'(first|intro(g:Nat)|refine d6 ?_|refine gN ?_ ?_|intro v)
  refine WC.ret ?_;exact Fin.v (Qv.t1 rfl rfl) meA rfl
 ·refine sNn ?_;repeat'(first|intro(g:Nat)|refine d6 ?_|refine gN ?_ ?_|intro v)
  refine cK (Xd M2 S2 1 qd qd ss2 ok2) ?_;rintro _ _ _ ⟨rfl,⟨cv2,ms2,xs2,rfl,rfl,hpt2⟩|⟨c2,yv2,my2,y2,rfl,rfl,hc2,hinf2,hy2,hprev2⟩⟩
  case inl=>
   obtain⟨x,hx⟩:=(sat2 c).1 ⟨_,(hpt2 c qo).1⟩;exact absurd hx (X.Yw hinf)
  obtain rfl:c=c2:=by
   rcases Nat.lt_trichotomy c c2 with h|h|h
   ·obtain⟨x,hx⟩:=(sat2 c).1 (hprev2 c h);exact absurd hx (X.Yw hinf)
   ·exact h
   ·obtain⟨x,hx⟩:=(sat2 c2).2 (hprev c2 h);exact absurd hx (X.Yw hinf2)
  refine sNn ?_;repeat'(first|intro(g:Nat)|refine d6 ?_|refine gN ?_ ?_|intro v)
  refine cV (Zr) ?_;repeat'(first|intro(g:Nat)|refine d6 ?_|refine gN ?_ ?_|intro v)
  refine WC.ret ?_;exact Fin.v (Qv.t1 rfl rfl) meA rfl
end Q
end K
end
section
open Go.ChangeShapes Go.WideShapes Go.ChangeAt Go.RowKit
open W
section
variable {H:Type} {enc:TypeId×Value->H} {P:Program} {V1:World}
theorem Zb {t:TypeId} {b0:Nat} {v:Value} {d:DataW H} {p:List MemPlace} (ht:P.underlying t=some (.int .i64)) (hv:Value.okWide P V1 .any b0 t v) (h:DataW.Trod enc P V1 0 (λ_=>true) true t v d p):∃ n,v=.int .i64 n∧I64 n∧Again enc P V1 t v d p:=by
 obtain⟨n,rfl,rfl,rfl,wa⟩:=open_int ht hv h;refine⟨n,rfl,?_,λV2 sp _ _=>shut_int ht wa⟩;simp[Lit.wf,IntKind.min,IntKind.max,IntKind.signed,IntKind.bits] at wa;unfold I64;omega
theorem arg_bool {t:TypeId} {b0:Nat} {v:Value} {d:DataW H} {p:List MemPlace} (ht:P.underlying t=some .bool) (hv:Value.okWide P V1 .any b0 t v) (h:DataW.Trod enc P V1 0 (λ_=>true) true t v d p):∃ b,v=.bool b∧Again enc P V1 t v d p:=by
 obtain⟨b,rfl,rfl,rfl⟩:=open_bool ht hv h;exact⟨b,rfl,λV2 sp _ _=>shut_bool ht b⟩
end
end
section
open Go.ChangeShapes Go.WideShapes Go.ChangeAt Go.RowKit
open W
theorem Tryz.Vf:Tryz.prog.underlying 3=some (.int .i64):=by kernel_rfl
theorem Tryz.sl22:Tryz.prog.underlying 22=some (.slice 3):=by kernel_rfl
theorem Tryz.Z8:Tryz.prog.underlying 4=some .bool:=by kernel_rfl
theorem Tryz.one3:Tryz.prog.cellsOf 3=1:=by kernel_rfl
theorem balanceMoved_lifted (os:Os) (started:os.Started) (H:Type) (enc:TypeId×Value->H) :
  ReturnsInLeavingWide {} Tryz.checked os 6 .any (Rows.balanceMovedSpec.pre6 enc Tryz.prog Tryz.f6 Rows.balanceMovedRow.domain false) (Rows.balanceMovedSpec.post enc Tryz.prog Tryz.f6 false true false false):=by
 refine returnsInLeavingWide_of_change_sized (C:=Tryz.checked) Tryz.own started Tryz.func6
  (ChangeSpec.witness6 (enc:=enc) (C:=Tryz.checked) false ⟨#[],#[.slice none 0 0,.bool false,.int .i64 0,.int .i64 0,.int .i64 0],[]⟩ 8 kr kr kr kr) ?_
 intro V1 base args ds gs before hval0 hW hcnd hwt _;have hval:∀ (j:Nat) t v,Tryz.f6.params[j]?=some t->args[j]?=some v->Value.okWide Tryz.prog V1 .any base t v:=hval0;have hW':=hW;obtain⟨p,q,hA0,hV,rfl,hfz,hnd⟩:=hW;have hA:DataW.TrodAll enc Tryz.prog V1 0 (λ_=>true) true Tryz.f6.params.toList args.toList ds p:=hA0;rw[Tryz.params6] at hA hval;obtain⟨args⟩:=args;obtain⟨v0,a1,d0,e1,p0,q1,rfl,rfl,rfl,h0,hA⟩:=trodAll_cons hA;obtain⟨v1,a2,d1,e2,p1,q2,rfl,rfl,rfl,h1,hA⟩:=trodAll_cons hA;obtain⟨v2,a3,d2,e3,p2,q3,rfl,rfl,rfl,h2,hA⟩:=trodAll_cons hA;obtain⟨v3,a4,d3,e4,p3,q4,rfl,rfl,rfl,h3,hA⟩:=trodAll_cons hA;obtain⟨v4,a5,d4,e5,p4,q5,rfl,rfl,rfl,h4,hA⟩:=trodAll_cons hA;obtain⟨rfl,rfl,rfl⟩:=trodAll_nil hA;obtain⟨rfl,rfl⟩:=trodVars_none hV;obtain⟨l0,hl0,f0,g0⟩:=U8 Tryz.sl22 Tryz.Vf Tryz.one3 (hval 0 22 v0 rfl rfl) h0;obtain⟨b1,rfl,g1⟩:=arg_bool Tryz.Z8 (hval 1 4 v1 rfl rfl) h1;obtain⟨n2,rfl,hl2,g2⟩:=Zb Tryz.Vf (hval 2 3 v2 rfl rfl) h2;obtain⟨n3,rfl,hl3,g3⟩:=Zb Tryz.Vf (hval 3 3 v3 rfl rfl) h3;obtain⟨n4,rfl,hl4,g4⟩:=Zb Tryz.Vf (hval 4 3 v4 rfl rfl) h4;simp only[List.append_nil] at hW'
 have hfacts:∀ g∈[sI v0 l0],g.p ⟨Xc Tryz.prog,λk=>V1.heap[k]?⟩:=λg hg=>by
  simp only[List.mem_cons,List.not_mem_nil,or_false] at hg;subst hg;exact f0
 obtain⟨M,last,o,w',t',r1,r2,r3,r4⟩:=ZR kr (K.Q.movedLaw_c v0 l0 n2 n3 n4 b1 hl0 hl2 hl3 hl4) hfacts;refine⟨M,last,o,w',t',r1,r2,r3,r4.mono λv hh2=>?_⟩;obtain⟨rfl,hr,hE⟩:=hh2
 ·refine(Vs hW' (λ_ _ _=>trodAll_mk1 (shut_bool Tryz.Z8 _)) (λsp hsp=>?_) (λ_=>rfl) hr hE (ok_one kr rfl (okWide_bool_mk Tryz.Z8 _)));have:=(Q8.cons g0 (Q8.cons g1 (Q8.cons g2 (Q8.cons g3 (Q8.cons g4 Q8.nil))))) w' sp hE (by simpa using hsp);simp only[List.append_nil] at this;show DataW.TrodAll enc Tryz.prog w' 0 sp true Tryz.f6.params.toList _ _ _;rw[Tryz.params6];exact this
theorem balanceMoved_holds:Rows.BalanceMovedSaid:=
 OpenClaim.holds_of_wide_leaving 6 Tryz.f6 rfl rfl rfl rfl rfl rfl rfl ⟨rfl,rfl,rfl,rfl,rfl⟩ rfl rfl rfl rfl rfl kr Tryz.func6 kr
  (of_decide_eq_true kr) (by unfold Func.isWrapper;first|(rw[if_pos (by decide +kernel)];kernel_rfl)|(rw[if_neg (by decide +kernel)];exact⟨rfl,rfl⟩))
  (λos started H enc _=>balanceMoved_lifted os started H enc)
#print axioms balanceMoved_holds
end
end Go.Proofs.YtcpaopfdiahnnaaGreat
