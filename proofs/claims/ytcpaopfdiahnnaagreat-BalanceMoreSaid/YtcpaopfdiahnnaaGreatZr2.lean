/- Lemmas for a law. Conditions: none. -/
import Derived.Test.YtcpaopfdiahnnaaGreatZr1
import Derived.Test.YtcpaopfdiahnnaaGreatZb37
import Derived.Test.YtcpaopfdiahnnaaGreatZb1
set_option linter.all false
set_option maxHeartbeats 32000000
set_option maxRecDepth 100000
namespace Go.Proofs.YtcpaopfdiahnnaaGreat
section
open W Go.RowKit
open Bl (Vc Bd Tc Sc)
def mfx (S:Sc) (x:Nat->Rat) (k:Nat):Rat:=if(S.T (k / 2)).b= -1 then(Bl.frc (S.T (k / 2)) (x (2*k)) (x (2*k+1))).x else 0
def mfy (S:Sc) (x:Nat->Rat) (k:Nat):Rat:=if(S.T (k / 2)).b= -1 then(Bl.frc (S.T (k / 2)) (x (2*k)) (x (2*k+1))).y else 0
def mf_sz {S:Sc} {x:Nat->Rat} {i:Nat} (hs:Ss 1 S) (hm:S.m<=10) (hu:∀ k,k < 2*S.m->Sv RA ⟨x (2*k),x (2*k+1)⟩) (hi:i<=2*S.m):Sv 40000000 ⟨X.sm i (mfx S x),X.sm i (mfy S x)⟩:=by
 have hf:∀ k,k < 2*S.m->Sv 900000 (Bl.frc (S.T (k / 2)) (x (2*k)) (x (2*k+1))):=λk hk=>(Hp (xs:=λk=>⟨x (2*k),x (2*k+1)⟩) (K:=1) (Kp:=RA) qd qd qd hs hu (i:=0) hk).2
 have h1:=X.XC (m:=i) (f:=mfx S x) (k:=900000) λj hj=>by
  unfold mfx;split
  ·exact(hf j qo).1
  ·exact Sq.zero.up qo
 have h2:=X.XC (m:=i) (f:=mfy S x) (k:=900000) λj hj=>by
  unfold mfy;split
  ·exact(hf j qo).2
  ·exact Sq.zero.up qo
 exact⟨h1.up qo,h2.up qo⟩
def mf_step {S:Sc} {x:Nat->Rat} {i j:Nat} (hij:i / 2=j) (hb:(S.T j).b= -1):(⟨X.sm i (mfx S x)+(Bl.frc (S.T j) (x (2*i)) (x (2*i+1))).x,X.sm i (mfy S x)+(Bl.frc (S.T j) (x (2*i)) (x (2*i+1))).y⟩:Vc)=⟨X.sm (i+1) (mfx S x),X.sm (i+1) (mfy S x)⟩:=by
 subst hij;show _=Vc.mk (X.sm i (mfx S x)+mfx S x i) (X.sm i (mfy S x)+mfy S x i);unfold mfx mfy;rw[if_pos hb,if_pos hb]
def mf_stay {S:Sc} {x:Nat->Rat} {i j:Nat} (hij:i / 2=j) (hb:¬(S.T j).b= -1):(⟨X.sm i (mfx S x),X.sm i (mfy S x)⟩:Vc)=⟨X.sm (i+1) (mfx S x),X.sm (i+1) (mfy S x)⟩:=by
 subst hij;show _=Vc.mk (X.sm i (mfx S x)+mfx S x i) (X.sm i (mfy S x)+mfy S x i);rw[show mfx S x i=0 from if_neg hb,show mfy S x i=0 from if_neg hb,Rat.add_zero,Rat.add_zero]
def tdiv9 {n:Int} (h:I64 n):I64 (n.tdiv 9):=by
 have h1:=Int.natAbs_tdiv n 9;have h2:(9:Int).natAbs=9:=rfl;rw[h2] at h1;have h3:(n.tdiv 9).natAbs=n.natAbs / 9:=h1;unfold I64 at *;omega
def YO.tquo9 {P:Program} {e:Env} {bx:List Ow} {F:List Fct} {ty t t':TypeId} {x y:Operand} {n:Int} (hx:ev e x=some (.int .i64 n)) (hy:ev e y=some (.int .i64 9)) (h:I64 n):YO P (.binOp .quo t x y t') ty e bx F (.int .i64 (n.tdiv 9)):=by
 have h2:=tdiv9 h;have h1:=YO.tquo (P:=P) (bx:=bx) (F:=F) (ty:=ty) (t:=t) (t':=t') hx hy qd
 rwa [wrap_i64 h2.1 h2.2] at h1
def Mor (S S':Sc):Prop:=S'.ok∧Ss 1 S'∧S'.n=S.n∧∀ c,Bl.Sat S c->Bl.Sat S' c
namespace K
namespace Q
namespace R
attribute [local irreducible] WC WL WD YO LO Qq W.Fin Qw Qu Qj Row QQ Qy KnS Has W.One Ql Qr
def d7 {G G':Prop} (h:G') (s:Bx G'->G:=by
 intro h;first|refine gE ?_|refine goLY ?_|refine goYB ?_|refine H3 ?_|refine ZO ?_|(apply WC.draw (id:=15) [0,1,2,3,4,5,6,7,8,9,10,11,12,13,14,15,16,17,18,19,20,21] (.h 0<|.h 1<|.h 2<|.h 3<|.h 4<|.h 5<|.h 6<|.h 7<|.h 8<|.h 9<|.h 10<|.h 11<|.h 12<|.h 13<|.h 14<|.h 15<|.h 16<|.h 17<|.h 18<|.h 19<|.h 20<|.h 21<|.l 22<|.l 23<|.l 24 .done) mixed kr)|(apply WC.draw (id:=21) [0,1,2,3,4] (.h 0<|.h 1<|.h 2<|.h 3<|.h 4<|.l 5<|.l 6 .done) mixed kr)|(apply WC.draw (id:=24) [1,2,5,6] (.h 1<|.h 2<|.h 5<|.h 6<|.m 0 (.m 3 (.m 4 (.m 7 (.m 8 (.l 9<|.l 10 .done) (.l 9<|.l 8<|.l 10 .done)) (.l 9<|.l 7<|.l 8<|.l 10 .done)) (.l 9<|.l 4<|.l 7<|.l 8<|.l 10 .done)) (.m 4 (.m 3 (.m 7 (.m 8 (.l 9<|.l 10 .done) (.l 9<|.l 8<|.l 10 .done)) (.l 9<|.l 7<|.l 8<|.l 10 .done)) (.l 9<|.l 3<|.l 7<|.l 8<|.l 10 .done)) (.l 9<|.m 3 (.l 4<|.l 7<|.l 8<|.l 10 .done) (.l 4<|.l 3<|.l 7<|.l 8<|.l 10 .done)))) (.m 4 (.m 0 (.m 3 (.m 7 (.m 8 (.l 9<|.l 10 .done) (.l 9<|.l 8<|.l 10 .done)) (.l 9<|.l 7<|.l 8<|.l 10 .done)) (.l 9<|.l 3<|.l 7<|.l 8<|.l 10 .done)) (.l 9<|.l 0<|.l 3<|.l 7<|.l 8<|.l 10 .done)) (.l 9<|.m 0 (.m 3 (.l 4<|.l 7<|.l 8<|.l 10 .done) (.l 4<|.l 3<|.l 7<|.l 8<|.l 10 .done)) (.l 4<|.l 0<|.l 3<|.l 7<|.l 8<|.l 10 .done)))) mixed kr)|(apply WC.draw (id:=31) [0,1,2,3,4,5,7,8,9,10,11,12,14,16,18] (.h 0<|.h 1<|.h 2<|.h 3<|.h 4<|.h 5<|.h 7<|.h 8<|.h 9<|.h 10<|.h 11<|.h 12<|.h 16<|.l 6<|.l 13<|.h 14<|.l 15<|.l 17<|.h 18<|.l 19<|.l 20<|.f 21<|.l 22 .done) mixed kr)|(apply WC.draw (id:=34) [0,1,2,3,4,5,6,7,8,9,11,14,15] (.h 0<|.h 1<|.h 2<|.h 3<|.h 4<|.h 5<|.h 6<|.h 7<|.h 8<|.h 9<|.l 10<|.h 11<|.l 12<|.l 13<|.h 14<|.h 15<|.l 16 .done) mixed kr)|(apply WC.draw (id:=27) [0,1,2,3,4,5,6,7,8,9,11,14,15] (.h 0<|.h 1<|.h 2<|.h 3<|.h 4<|.h 5<|.h 6<|.h 7<|.h 8<|.h 9<|.l 10<|.h 11<|.l 12<|.l 13<|.h 14<|.h 15<|.l 16 .done) mixed kr)|fail
 exact Bx.h h):G:=s ⟨h⟩
def rforceA_c (tm:ToM) (t:Tc) (pm:VM) (p:Vc) (K Kp:Nat) (hK:K+Kp<=100000000) (ht:Sv K t.n) (hp:Sv Kp p) (h0:0<=t.a) (h1:t.a<=1000):FnB Tryz.prog 38 [tv tm t,vv pm,.int .i64 t.a] [] [fT tm t,fV pm p] (KA (Bl.frc t p.x p.y)):=by
 obtain⟨a,ha⟩:∃ a:Nat,t.a=(a:Int):=⟨t.a.toNat,by omega⟩
 have h:=rforce_c tm t pm p a K Kp hK ht hp qo;rw[show Bl.on t a (Bl.frc t p.x p.y)=Bl.frc t p.x p.y from if_pos ha] at h;rw[ha];exact h
def moreLaw_c (lv:Value) (l:List Int) (n1 n2 n3:Int) (hl:∀ x∈l,I64 x) (h1:I64 n1) (h2:I64 n2) (h3:I64 n3):FnB Tryz.prog 7 [lv,.int .i64 n1,.int .i64 n2,.int .i64 n3] [] [isX Tryz.prog,sI lv l] (IsV (.bool true)):=by
 refine fO [(0,lv),(1,(.int .i64 n1)),(2,(.int .i64 n2)),(3,(.int .i64 n3))] 237 Tryz.func7 Tryz.ntmps7 λh0=>?_;have hok:=Bl.GZ l;have hfs:=Bl.GX l;have hsn:=Bl.some_n l;have hsm:=Bl.some_m l;have hss:=Fs.ss hfs qd qd qd;generalize hS:Bl.Ye l=S at *;repeat'(first|intro(g:Nat)|refine d7 ?_|refine gN ?_ ?_|intro v)
 refine cK (some_c lv l hl) ?_;rw[hS];rintro _ _ _ ⟨M,rfl,rfl,rfl⟩;refine sNn ?_;repeat'(first|intro(g:Nat)|refine gP ?_|intro v)
 revert g;intro g9;repeat'(first|intro(g:Nat)|refine d7 ?_|refine gN ?_ ?_|intro v)
 refine cK (Xd M S 1 qd qd hss hok) ?_;rintro _ _ _ ⟨rfl,⟨cv,ms,xs,rfl,rfl,hpt⟩|⟨c,yv,my,y,rfl,rfl,hc,hinf,hy,hprev⟩⟩
 case inr=>
  refine sNn ?_;repeat'(first|intro(g:Nat)|refine d7 ?_|refine gN ?_ ?_|intro v)
  refine cV (Zr) ?_;repeat'(first|intro(g:Nat)|refine d7 ?_|refine gN ?_ ?_|intro v)
  refine WC.ret ?_;exact Fin.v (Qv.t1 rfl rfl) meA rfl
 refine sNn ?_;have hm9:¬(S.m:Int) > 9:=qo;repeat'(first|intro(g:Nat)|refine d7 ?_|refine gN ?_ ?_|intro v)
 revert g;intro g11;revert g;intro g10;refine WC.keep (g:=g9) (t:=26) (cs:=[M.l,M.t]) (by repeat(first|exact Rem.head|apply Rem.tail)) ?_;refine WC.keep (g:=g10) (t:=48) (cs:=[cv]) (by repeat(first|exact Rem.head|apply Rem.tail)) ?_;have hm:0 < S.m:=Bl.sat_m (c:=0) hok hsn.1 ⟨_,(hpt 0 (Nat.two_pow_pos _)).1⟩;have h32:2 ^ S.n<=2 ^ 3:=Nat.pow_le_pow_right qd hsn.2.1;generalize hN:2 ^ S.n=N at *;refine WC.Xf (σ:=Unit) (λ_=>[(9,ptr g9),(1,.int .i64 n1),(2,.int .i64 n2),(3,.int .i64 n3)]) (λ_=>[]) (λ_=>[ce g9 26 [M.l,M.t],fSl M S,fSt M S,ge h0,isX Tryz.prog]) (λ_=>True) ?_ ?_
 ·refine WC.lp (σ:=Nat) (λc=>[(13,.int .i64 (c:Int)),(10,ptr g10),(9,ptr g9),(1,.int .i64 n1),(2,.int .i64 n2),(3,.int .i64 n3)]) (λ_=>[]) (λ_=>[ce g10 48 [cv],ce g9 26 [M.l,M.t],lF plS cv N ms (λc=>psh (2*S.m) (xs c)),fSl M S,fSt M S,ge h0,isX Tryz.prog]) (λc=>c<=N) (λc=>N - c) 0 (Nat.zero_le _) ?_;intro c hc;by_cases d:c < N
  ·refine WC.fact (lF QD (ms c).1 (2*S.m) (ms c).2 (psh (2*S.m) (xs c)).2) (W.Has.lk (S:=plS) (v:=cv) (n:=N) (ms:=ms) (xs:=λc=>psh (2*S.m) (xs c)) hmA d) ?_;repeat'(first|intro(g:Nat)|refine d7 ?_|refine gN ?_ ?_|intro v)
   revert g;intro g14;have hu:∀ k,k < 2*S.m->Sv RA ⟨xs c (2*k),xs c (2*k+1)⟩:=λk hk=>⟨(hpt c d).2 _ qo,(hpt c d).2 _ qo⟩
   refine WC.fact (fV (m00,m00) ⟨X.sm 0 (mfx S (xs c)),X.sm 0 (mfy S (xs c))⟩) hasV0 ?_;refine WC.Xf (σ:=VM) (λst=>[(14,ptr g14),(13,.int .i64 (c:Int)),(10,ptr g10),(9,ptr g9),(1,.int .i64 n1),(2,.int .i64 n2),(3,.int .i64 n3)]) (λst=>[Ow.cells g14 75 (vcs st)]) (λst=>[fV st ⟨X.sm (2*S.m) (mfx S (xs c)),X.sm (2*S.m) (mfy S (xs c))⟩,ce g10 48 [cv],ce g9 26 [M.l,M.t],lF plS cv N ms (λc=>psh (2*S.m) (xs c)),fSl M S,fSt M S,ge h0,isX Tryz.prog]) (λ_=>True) ?_ ?_
   ·refine WC.lp (σ:=Nat×VM) (λst=>[(15,.int .i64 (st.1:Int)),(14,ptr g14),(13,.int .i64 (c:Int)),(10,ptr g10),(9,ptr g9),(1,.int .i64 n1),(2,.int .i64 n2),(3,.int .i64 n3)]) (λst=>[Ow.cells g14 75 (vcs st.2)]) (λst=>[fV st.2 ⟨X.sm st.1 (mfx S (xs c)),X.sm st.1 (mfy S (xs c))⟩,lF QD (ms c).1 (2*S.m) (ms c).2 (psh (2*S.m) (xs c)).2,ce g10 48 [cv],ce g9 26 [M.l,M.t],lF plS cv N ms (λc=>psh (2*S.m) (xs c)),fSl M S,fSt M S,ge h0,isX Tryz.prog]) (λst=>st.1<=2*S.m) (λst=>2*S.m - st.1) (0,(m00,m00)) (Nat.zero_le _) ?_;rintro⟨i,vm⟩ hi;simp only at hi ⊢;by_cases d2:i < 2*S.m
    ·obtain⟨j,hq⟩:∃ j:Nat,(i:Int) / 2=(j:Int):=⟨i / 2,by omega⟩
     have hij:i / 2=j:=qo;have hj:j < S.m:=qo;have hto:=hok.T j hj;have ha0:=hto.1;have ha1:=hto.2.1;refine WC.fact (fV ((ms c).2 i) ⟨xs c (2*i),xs c (2*i+1)⟩) (W.Has.lk (S:=QD) (v:=(ms c).1) (n:=2*S.m) (ms:=(ms c).2) (xs:=(psh (2*S.m) (xs c)).2) hmA d2) ?_;refine WC.fact (fT (M.T j) (S.T j)) (W.Has.lk (S:=Qb) (v:=M.t) hmA hj) ?_;by_cases hb:(S.T j).b= -1
     ·have hsz:=mf_sz (i:=i) hss qo hu hi;repeat'(first|intro(g:Nat)|refine d7 ?_|refine gN ?_ ?_|intro v)
      refine cW (rforceA_c (M.T j) (S.T j) ((ms c).2 i) ⟨xs c (2*i),xs c (2*i+1)⟩ 1 RA qd (hss.T j hj).2.2.1 (hu i d2) qo qo) λa1=>?_;repeat'(first|intro(g:Nat)|refine d7 ?_|refine gN ?_ ?_|intro v)
      refine cW (XK vm a1 ⟨X.sm i (mfx S (xs c)),X.sm i (mfy S (xs c))⟩ (Bl.frc (S.T j) (xs c (2*i)) (xs c (2*i+1))) 40000000 qd hsz (by have h:=(Hp (xs:=λk=>⟨xs c (2*k),xs c (2*k+1)⟩) (K:=1) (Kp:=RA) qd qd qd hss hu (i:=0) d2).2;rw[hij] at h;exact⟨h.1.up qo,h.2.up qo⟩)) λa2=>?_;repeat'(first|intro(g:Nat)|refine d7 ?_|refine gN ?_ ?_|intro v)
      exact Qq.mk (i+1,a2) (by simp only;omega) (by simp only;omega) (hG:=.cons (by rw[<-mf_step hij hb];exact hmA) haA)
     ·repeat'(first|intro(g:Nat)|refine d7 ?_|refine gN ?_ ?_|intro v)
      exact Qq.mk (i+1,vm) (by simp only;omega) (by simp only;omega) (hG:=.cons (by rw[<-mf_stay hij hb];exact hmA) haA)
    ·obtain rfl:i=2*S.m:=qo;repeat'(first|intro(g:Nat)|refine d7 ?_|refine gN ?_ ?_|intro v)
     exact QZ vm trivial
   ·rintro vm _;have hcar:=Bl.pt_carried hok (hpt c d).1;have hcx:X.sm (2*S.m) (mfx S (xs c))=0:=hcar.1;have hcy:X.sm (2*S.m) (mfy S (xs c))=X.sm S.n (S.wt c):=hcar.2;rw[hcx,hcy];refine WC.fact (isQ (qv vm.1) 0) (W.Has.vx (m:=vm) (a:=⟨0,X.sm S.n (S.wt c)⟩) hmA) ?_;refine WC.fact (isQ (qv vm.2) (X.sm S.n (S.wt c))) (W.Has.vy (m:=vm) (a:=⟨0,X.sm S.n (S.wt c)⟩) hmA) ?_;repeat'(first|intro(g:Nat)|refine d7 ?_|refine gN ?_ ?_|intro v)
    revert g;intro g16;refine cK (ZW M S c qo qo) ?_;rintro wv _ _ ⟨mw,rfl,rfl⟩;refine sNn ?_
    have hwt:∀ i,i < S.n->Sq 1 (S.wt c i):=λi hi=>by
     unfold Bl.Sc.wt;split
     ·exact(hss.B i hi).2.2.1
     ·exact(hss.B i hi).2.1
    repeat'(first|intro(g:Nat)|refine d7 ?_|refine gN ?_ ?_|intro v)
    refine WC.Xf (σ:=QM) (λst=>[(16,ptr g16),(14,ptr g14),(13,.int .i64 (c:Int)),(10,ptr g10),(9,ptr g9),(1,.int .i64 n1),(2,.int .i64 n2),(3,.int .i64 n3)]) (λst=>[Ow.cells g16 64 (qcs st),Ow.cells g14 75 (vcs vm)]) (λst=>[isQ (qv st) (X.sm S.n (S.wt c)),isQ (qv vm.1) 0,isQ (qv vm.2) (X.sm S.n (S.wt c)),ce g10 48 [cv],ce g9 26 [M.l,M.t],lF plS cv N ms (λc=>psh (2*S.m) (xs c)),fSl M S,fSt M S,ge h0,isX Tryz.prog]) (λ_=>True) ?_ ?_
    ·refine WC.lp (σ:=Nat×QM) (λst=>[(18,.int .i64 (st.1:Int)),(17,wv),(16,ptr g16),(14,ptr g14),(13,.int .i64 (c:Int)),(10,ptr g10),(9,ptr g9),(1,.int .i64 n1),(2,.int .i64 n2),(3,.int .i64 n3)]) (λst=>[Ow.cells g16 64 (qcs st.2),Ow.cells g14 75 (vcs vm)]) (λst=>[isQ (qv st.2) (X.sm st.1 (S.wt c)),fF wv S.n mw (S.wt c),isQ (qv vm.1) 0,isQ (qv vm.2) (X.sm S.n (S.wt c)),ce g10 48 [cv],ce g9 26 [M.l,M.t],lF plS cv N ms (λc=>psh (2*S.m) (xs c)),fSl M S,fSt M S,ge h0,isX Tryz.prog]) (λst=>st.1<=S.n) (λst=>S.n - st.1) (0,m00) (Nat.zero_le _) ?_ (hG:=.cons (show W.Has _ (isQ (qv m00) (X.sm 0 (S.wt c))) from Jy) haA);rintro⟨i,mq⟩ hi;simp only at hi ⊢;by_cases d3:i < S.n
     ·refine WC.fact (isQ (qv (mw i)) (S.wt c i)) (W.Has.q (W.Has.fm (v:=wv) (n:=S.n) (ms:=mw) (qf:=S.wt c) hmA) d3) ?_;repeat'(first|intro(g:Nat)|refine d7 ?_|refine gN ?_ ?_|intro v)
      refine cW (Zn.add mq (mw i) (X.sm i (S.wt c)) (S.wt c i) (nsum (n:=S.n) (K:=1) qo hi hwt) ((hwt i d3).sm qd)) λm2=>?_;repeat'(first|intro(g:Nat)|refine d7 ?_|refine gN ?_ ?_|intro v)
      exact Qq.mk (i+1,m2) (by simp only;omega) (by simp only;omega) (hG:=.cons (show W.Has _ (isQ (qv m2) (X.sm i (S.wt c)+S.wt c i)) from hmA) haA)
     ·obtain rfl:i=S.n:=qo;repeat'(first|intro(g:Nat)|refine d7 ?_|refine gN ?_ ?_|intro v)
      exact QZ mq trivial
    ·intro mq _;repeat'(first|intro(g:Nat)|refine d7 ?_|refine gN ?_ ?_|intro v)
     refine cV (Zn.sign vm.1 0) ?_;rw[(QS.2 rfl:sgn (0:Rat).num=0)];repeat'(first|intro(g:Nat)|refine d7 ?_|refine gN ?_ ?_|intro v)
     refine cV (Zn.rsame vm.2 mq (X.sm S.n (S.wt c)) (X.sm S.n (S.wt c))) ?_;rw[decide_eq_true rfl];repeat'(first|intro(g:Nat)|refine d7 ?_|refine gN ?_ ?_|intro v)
     exact Qq.mk (c+1) qo qo
  ·obtain rfl:c=N:=qo;repeat'(first|intro(g:Nat)|refine d7 ?_|refine gN ?_ ?_|intro v)
   exact QZ () trivial
 ·rintro⟨⟩ _;apply WC.seq;refine WC.YJ (σ:=Nat×Value×Value) (λs=>[(19,ptr s.1),(9,ptr g9),(1,.int .i64 n1),(2,.int .i64 n2),(3,.int .i64 n3)]) (λs=>[Ow.cells s.1 26 [s.2.1,s.2.2],lO Qm s.2.1 88 S.n M.B S.B,lO Qb s.2.2 79 S.m M.T S.T]) (λ_=>[ce g9 26 [M.l,M.t],fSl M S,fSt M S,ge h0,isX Tryz.prog]) (λ_=>True) ?_ ?_
  ·repeat'(first|intro(g:Nat)|refine d7 ?_|refine gN ?_ ?_|intro v)
   all_goals(apply Ex3;refine⟨trivial,?_,?_,?_⟩;(focus(repeat(first|exact Sub.nil _|refine Sub.cons rfl ?_)));(focus(repeat(first|exact Q9.nil _|(apply Q9.cons;(repeat(first|exact Rem.head|apply Rem.tail))))));(focus(repeat(first|exact Qk.nil|(apply Qk.cons;exact hsA)))))
  rintro⟨g19,vb,vt⟩ _;simp only;have hnpos:(0:Int) < (S.n:Int):=qo;have hmpos:(0:Int) < (S.m:Int):=qo;have r1:=@Jk n1 3 qd;have c0:=Jl n1 3 h1 qd;repeat'(first|intro(g:Nat)|refine d7 ?_|refine gN ?_ ?_|intro v)
  refine cV (c0) ?_;generalize JZ n1 3=r at *;apply WL.nil;show WC _ _ _ _ _ _ _;refine WC.YJ (σ:=Nat×SM×Sc) (λst=>[(19,ptr st.1)]) (λst=>[Ow.cells st.1 26 [st.2.1.l,st.2.1.t],lO Qm st.2.1.l 88 st.2.2.n st.2.1.B st.2.2.B,lO Qb st.2.1.t 79 st.2.2.m st.2.1.T st.2.2.T]) (λst=>[lM Qm st.2.2.n st.2.1.B st.2.2.B,lM Qb st.2.2.m st.2.1.T st.2.2.T,ge h0,isX Tryz.prog]) (λst=>Mor S st.2.2) ?_ ?_
  ·by_cases d0:r=0
   ·subst d0;have c5:=Jl n2 5 h2 qd;have l5:=@Jk n2 5 qd;have c9:=Jl n3 9 h3 qd;have l9:=@Jk n3 9 qd;have c4:=Jl (n3.tdiv 9) 4 (tdiv9 h3) qd;have l4:=@Jk (n3.tdiv 9) 4 qd;have cn:=Jl n2 (S.n:Int) h2 hnpos;have ln:=@Jk n2 (S.n:Int) hnpos;generalize JZ n2 5=x5 at *;generalize JZ n3 9=x9 at *;generalize JZ (n3.tdiv 9) 4=x4 at *;generalize JZ n2 (S.n:Int)=xn at *;have tok:=Bl.moT_ok (n0:=x5 - 2) (p0:=x9 - 2) (p1:=x4) ln.1 ln.2;have tfs:=Bl.moT_fs (a:=xn) (n0:=x5 - 2) (p0:=x9 - 2) (p1:=x4) qo qo qo;have mor:Mor S (Bl.addT (Bl.moT xn (x5 - 2) (x9 - 2) x4) S):=⟨Bl.addT_ok hok qo tok,Fs.ss (Bl.addT_fs hfs tfs) qd qd qd,rfl,λc hc=>Bl.addT_sat hc⟩
    have zv:∀ {a b:Int},a.natAbs<=10->b.natAbs<=10->Sv 1 ⟨(a:Rat),(b:Rat)⟩:=λha hb=>Fv.sv (D:=1) (A:=10) ⟨Fr.int _ ha,Fr.int _ hb⟩ qd qd qd;repeat'(first|intro(g:Nat)|refine d7 ?_|refine gN ?_ ?_|intro v)
    refine cV (c5) ?_;repeat'(first|intro(g:Nat)|refine d7 ?_|refine gN ?_ ?_|intro v)
    refine cW (Ya (x5 - 2) 1 (XD qo qo) qd) λmn=>?_;repeat'(first|intro(g:Nat)|refine d7 ?_|refine gN ?_ ?_|intro v)
    revert g;intro g20;refine cV (c9) ?_;repeat'(first|intro(g:Nat)|refine d7 ?_|refine gN ?_ ?_|intro v)
    refine WL.y (YO.tquo9 rfl rfl h3) (by exact rfl) (by exact rfl) ?_;repeat'(first|intro(g:Nat)|refine d7 ?_|refine gN ?_ ?_|intro v)
    refine cV (c4) ?_;repeat'(first|intro(g:Nat)|refine d7 ?_|refine gN ?_ ?_|intro v)
    refine cW (Ya (x9 - 2) x4 (XD qo qo) (XD qo qo)) λmp=>?_;repeat'(first|intro(g:Nat)|refine d7 ?_|refine gN ?_ ?_|intro v)
    revert g;intro g21;refine cV (cn) ?_;refine WD.fact (isQ (qv mn.1) ((x5 - 2:Int):Rat)) (W.Has.vx (m:=mn) (a:=⟨((x5 - 2:Int):Rat),((1:Int):Rat)⟩) hmA) ?_;refine WD.fact (isQ (qv mn.2) ((1:Int):Rat)) (W.Has.vy (m:=mn) (a:=⟨((x5 - 2:Int):Rat),((1:Int):Rat)⟩) hmA) ?_;repeat'(first|intro(g:Nat)|refine d7 ?_|refine gN ?_ ?_|intro v)
    refine cW (Zn.neg mn.1 ((x5 - 2:Int):Rat)) λq1=>?_;repeat'(first|intro(g:Nat)|refine d7 ?_|refine gN ?_ ?_|intro v)
    refine WD.fact (fV (mn.2,q1) ⟨((1:Int):Rat),-((x5 - 2:Int):Rat)⟩) (W.Has.vof (m:=(mn.2,q1)) (a:=⟨((1:Int):Rat),-((x5 - 2:Int):Rat)⟩) hmA hmA) ?_;refine cW (XK mp (mn.2,q1) ⟨((x9 - 2:Int):Rat),(x4:Rat)⟩ ⟨((1:Int):Rat),-((x5 - 2:Int):Rat)⟩ 1 qd (zv qo qo) ⟨(zv (a:=1) (b:=1) qd qd).1,(zv (a:=x5 - 2) (b:=1) qo qd).1.neg⟩) λmq=>?_;repeat'(first|intro(g:Nat)|refine d7 ?_|refine gN ?_ ?_|intro v)
    refine cW (Zn.rof 1 2 qd qd) λqr=>?_;refine WD.fact (fT ⟨mp,mq,mn,qr⟩ (Bl.moT xn (x5 - 2) (x9 - 2) x4)) (W.Has.tof (tm:=⟨mp,mq,mn,qr⟩) (t:=Bl.moT xn (x5 - 2) (x9 - 2) x4) hmA hmA hmA hmA) ?_;refine WD.fact (lM Qm S.n M.B S.B) (W.Has.lm (v:=M.l) hmA) ?_;refine WD.fact (lM Qb (S.m+1) (upd M.T S.m ⟨mp,mq,mn,qr⟩) (upd S.T S.m (Bl.moT xn (x5 - 2) (x9 - 2) x4))) (W.Has.mapp (S:=Qb) (mm:=⟨mp,mq,mn,qr⟩) (aa:=Bl.moT xn (x5 - 2) (x9 - 2) x4) (W.Has.lm (v:=M.t) hmA) hmA) ?_;repeat'(first|intro(g:Nat)|refine d7 ?_|refine gN ?_ ?_|intro v)
    revert v;intro v197;refine WD.l rfl rfl rfl (LO.appTu (tm:=⟨mp,mq,mn,qr⟩) (tc:=Bl.moT xn (x5 - 2) (x9 - 2) x4) (n:=S.m) (ms:=M.T) (xs:=S.T) rfl rfl meA hmA (λv'=>by repeat(first|exact Sel.head|apply Sel.tail)) qo λvt2=>?_);refine⟨.inl kr,?_⟩;refine WD.fy rfl (YO.Yx T.Un rfl (by exact rfl)) (by exact rfl) (by exact rfl) ?_;repeat'(first|intro(g:Nat)|refine d7 ?_|refine gN ?_ ?_|intro v)
    refine⟨(g19,⟨vb,vt2,M.B,upd M.T S.m ⟨mp,mq,mn,qr⟩⟩,Bl.addT (Bl.moT xn (x5 - 2) (x9 - 2) x4) S),mor,Sub.cons rfl (Sub.nil _),?_,haA⟩
    (repeat(first|exact Q9.nil _|(apply Q9.cons;(repeat(first|exact Rem.head|apply Rem.tail)))))
   ·by_cases d1:r=1
    ·subst d1;have cn:=Jl n2 (S.n:Int) h2 hnpos;have ln:=@Jk n2 (S.n:Int) hnpos;have c9:=Jl n3 9 h3 qd;have l9:=@Jk n3 9 qd;generalize JZ n3 9=x9 at *;obtain⟨k,hk⟩:∃ k:Nat,JZ n2 (S.n:Int)=(k:Int):=⟨(JZ n2 (S.n:Int)).toNat,by omega⟩
     rw[hk] at cn ln;have mor:Mor S (Bl.strS k (Rat.divInt (1+x9) 2) S):=⟨Bl.strS_ok (Bl.Kw qo qd) hok,Fs.ss (Bl.strS_fs hfs (Fr.sc' (D:=2) (A:=9) (c:=30) (Fr.of (a:=1+x9) (D:=2) qd qo) rfl qd:Fr 60 270 _)) qd qd qd,rfl,λc hc=>Bl.strS_sat (Bl.Kw qo qd) hc⟩
     refine WC.fact (fB (M.B k) (S.B k)) (W.Has.lk (S:=Qm) (v:=M.l) hmA qo) ?_;refine WC.fact (fV (M.B k).c (S.B k).c) (W.Has.bc (bm:=M.B k) hmA) ?_;refine WC.fact (isQ (qv (M.B k).lo) (S.B k).lo) (W.Has.bl (bm:=M.B k) hmA) ?_;refine WC.fact (isQ (qv (M.B k).hi) (S.B k).hi) (W.Has.bh (bm:=M.B k) hmA) ?_;refine WC.fact (isQ (qv (M.B k).st) (S.B k).st) (W.Has.bs (bm:=M.B k) hmA) ?_;have zst:Sq 1 (S.B k).st:=(hss.B k qo).2.2.2;have zx:Sq 1 (Rat.divInt (1+x9) 2):=(Fr.of (a:=1+x9) (D:=2) (A:=9) qd qo).sq qd qd qd;repeat'(first|intro(g:Nat)|refine d7 ?_|refine gN ?_ ?_|intro v)
     refine cV (cn) ?_;repeat'(first|intro(g:Nat)|refine d7 ?_|refine gN ?_ ?_|intro v)
     refine cV (c9) ?_;repeat'(first|intro(g:Nat)|refine d7 ?_|refine gN ?_ ?_|intro v)
     refine cW (Zn.rof (1+x9) 2 (XD qo qo) qd) λq1=>?_;repeat'(first|intro(g:Nat)|refine d7 ?_|refine gN ?_ ?_|intro v)
     refine cW (Zn.add (M.B k).st q1 (S.B k).st (Rat.divInt (1+x9) 2) (zst.sm qd) (zx.sm qd)) λq2=>?_;refine WD.fact (lM Qb S.m M.T S.T) (W.Has.lm (v:=M.t) hmA) ?_;refine WD.fact (lM Qm S.n (upd M.B k ⟨(M.B k).c,(M.B k).lo,(M.B k).hi,q2⟩) (upd S.B k (Bl.strB (Rat.divInt (1+x9) 2) (S.B k)))) (W.Has.mset (S:=Qm) (mm:=⟨(M.B k).c,(M.B k).lo,(M.B k).hi,q2⟩) (aa:=Bl.strB (Rat.divInt (1+x9) 2) (S.B k)) (W.Has.lm (v:=M.l) hmA) (W.Has.bof (bm:=⟨(M.B k).c,(M.B k).lo,(M.B k).hi,q2⟩) (b:=Bl.strB (Rat.divInt (1+x9) 2) (S.B k)) hmA hmA hmA hmA)) ?_;refine goD ?_;apply WD.Jz;exact rfl;rotate_left;exact rfl;refine LO.UO (k:=k) (m:=q2) (q:=(S.B k).st+Rat.divInt (1+x9) 2) (ms:=M.B) (xs:=S.B) (v:=vb) (n:=S.n) rfl rfl T.r64 hmA (by repeat(first|exact Sel.head|apply Sel.tail)) qo ?_;constructor;exact(by(first|(focus(apply Or.inr;constructor;(repeat(first|exact List.Sublist.refl _|exact List.nil_sublist _|apply List.Sublist.cons_cons|apply List.Sublist.cons));(first|exact λ_ h=>h|(intro f hf;(repeat(first|exact hf|apply List.Mem.tail))));done))|(apply Or.inl;kernel_rfl)));repeat'(first|intro(g:Nat)|refine d7 ?_|refine gN ?_ ?_|intro v)
     refine⟨(g19,⟨vb,vt,upd M.B k ⟨(M.B k).c,(M.B k).lo,(M.B k).hi,q2⟩,M.T⟩,Bl.strS k (Rat.divInt (1+x9) 2) S),mor,Sub.cons rfl (Sub.nil _),?_,haA⟩
     (repeat(first|exact Q9.nil _|(apply Q9.cons;(repeat(first|exact Rem.head|apply Rem.tail)))))
    ·have cm:=Jl n2 (S.m:Int) h2 hmpos;have lm:=@Jk n2 (S.m:Int) hmpos;have c9:=Jl n3 9 h3 qd;have l9:=@Jk n3 9 qd;generalize JZ n3 9=x9 at *;obtain⟨k,hk⟩:∃ k:Nat,JZ n2 (S.m:Int)=(k:Int):=⟨(JZ n2 (S.m:Int)).toNat,by omega⟩
     rw[hk] at cm lm;have mor:Mor S (Bl.rghS k (Rat.divInt (1+x9) 4) S):=⟨Bl.rghS_ok (Bl.Kw qo qd) hok,Fs.ss (Bl.rghS_fs hfs (Fr.sc' (D:=4) (A:=9) (c:=15) (Fr.of (a:=1+x9) (D:=4) qd qo) rfl qd:Fr 60 135 _)) qd qd qd,rfl,λc hc=>Bl.rghS_sat (Bl.Kw qo qd) hc⟩
     refine WC.fact (fT (M.T k) (S.T k)) (W.Has.lk (S:=Qb) (v:=M.t) hmA qo) ?_;refine WC.fact (fV (M.T k).p (S.T k).p) (W.Has.tp (tm:=M.T k) hmA) ?_;refine WC.fact (fV (M.T k).q (S.T k).q) (W.Has.tq (tm:=M.T k) hmA) ?_;refine WC.fact (fV (M.T k).n (S.T k).n) (W.Has.tn (tm:=M.T k) hmA) ?_;refine WC.fact (isQ (qv (M.T k).r) (S.T k).r) (W.Has.trr (tm:=M.T k) hmA) ?_;have zr:Sq 1 (S.T k).r:=(hss.T k qo).2.2.2;have zx:Sq 1 (Rat.divInt (1+x9) 4):=(Fr.of (a:=1+x9) (D:=4) (A:=9) qd qo).sq qd qd qd;repeat'(first|intro(g:Nat)|refine d7 ?_|refine gN ?_ ?_|intro v)
     refine cV (cm) ?_;repeat'(first|intro(g:Nat)|refine d7 ?_|refine gN ?_ ?_|intro v)
     refine cV (c9) ?_;repeat'(first|intro(g:Nat)|refine d7 ?_|refine gN ?_ ?_|intro v)
     refine cW (Zn.rof (1+x9) 4 (XD qo qo) qd) λq1=>?_;repeat'(first|intro(g:Nat)|refine d7 ?_|refine gN ?_ ?_|intro v)
     refine cW (Zn.add (M.T k).r q1 (S.T k).r (Rat.divInt (1+x9) 4) (zr.sm qd) (zx.sm qd)) λq2=>?_;refine WD.fact (lM Qm S.n M.B S.B) (W.Has.lm (v:=M.l) hmA) ?_;refine WD.fact (lM Qb S.m (upd M.T k ⟨(M.T k).p,(M.T k).q,(M.T k).n,q2⟩) (upd S.T k (Bl.rghT (Rat.divInt (1+x9) 4) (S.T k)))) (W.Has.mset (S:=Qb) (mm:=⟨(M.T k).p,(M.T k).q,(M.T k).n,q2⟩) (aa:=Bl.rghT (Rat.divInt (1+x9) 4) (S.T k)) (W.Has.lm (v:=M.t) hmA) (W.Has.tof (tm:=⟨(M.T k).p,(M.T k).q,(M.T k).n,q2⟩) (t:=Bl.rghT (Rat.divInt (1+x9) 4) (S.T k)) hmA hmA hmA hmA)) ?_;refine goD ?_;apply WD.Jz;exact rfl;rotate_left;exact rfl;refine LO.UR (k:=k) (m:=q2) (q:=(S.T k).r+Rat.divInt (1+x9) 4) (ms:=M.T) (xs:=S.T) (v:=vt) (n:=S.m) rfl rfl T.r64 hmA (by repeat(first|exact Sel.head|apply Sel.tail)) qo ?_;constructor;exact(by(first|(focus(apply Or.inr;constructor;(repeat(first|exact List.Sublist.refl _|exact List.nil_sublist _|apply List.Sublist.cons_cons|apply List.Sublist.cons));(first|exact λ_ h=>h|(intro f hf;(repeat(first|exact hf|apply List.Mem.tail))));done))|(apply Or.inl;kernel_rfl)));repeat'(first|intro(g:Nat)|refine d7 ?_|refine gN ?_ ?_|intro v)
     refine⟨(g19,⟨vb,vt,M.B,upd M.T k ⟨(M.T k).p,(M.T k).q,(M.T k).n,q2⟩⟩,Bl.rghS k (Rat.divInt (1+x9) 4) S),mor,Sub.cons rfl (Sub.nil _),?_,haA⟩
     (repeat(first|exact Q9.nil _|(apply Q9.cons;(repeat(first|exact Rem.head|apply Rem.tail)))))
  ·rintro⟨g19',M',S'⟩ hmor;obtain⟨ok2,ss2,n2',sat2⟩:=hmor;simp only;refine WC.QB (S:=Qm) (n:=S'.n) (ms:=M'.B) (xs:=S'.B) (by repeat(first|exact Sel.head|apply Sel.tail)) hmA ?_;refine WC.QB (S:=Qb) (n:=S'.m) (ms:=M'.T) (xs:=S'.T) (by repeat(first|exact Sel.head|apply Sel.tail)) hmA ?_;repeat'(first|intro(g:Nat)|refine d7 ?_|refine gN ?_ ?_|intro v)
   refine cK (Xd M' S' 1 qd qd ss2 ok2) ?_;rintro _ _ _ ⟨rfl,⟨cv2,ms2,xs2,rfl,rfl,hpt2⟩|⟨c2,yv2,my2,y2,rfl,rfl,hc2,hinf2,hy2,hprev2⟩⟩
   case inr=>
    have n2'':S'.n=S.n:=n2';rw[n2'',hN] at hc2;obtain⟨x,hx⟩:=sat2 c2 ⟨_,(hpt c2 hc2).1⟩;exact absurd hx (X.Yw hinf2)
   refine sNn ?_;repeat'(first|intro(g:Nat)|refine d7 ?_|refine gN ?_ ?_|intro v)
   refine cV (Zr) ?_;repeat'(first|intro(g:Nat)|refine d7 ?_|refine gN ?_ ?_|intro v)
   refine WC.ret ?_;exact Fin.v (Qv.t1 rfl rfl) meA rfl
end R
end Q
end K
end
end Go.Proofs.YtcpaopfdiahnnaaGreat
