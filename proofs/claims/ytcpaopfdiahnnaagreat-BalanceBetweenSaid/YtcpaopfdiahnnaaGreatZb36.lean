/- Lemmas for a law. Conditions: none. -/
import Derived.Test.YtcpaopfdiahnnaaGreatZb35
set_option linter.all false
set_option maxHeartbeats 32000000
set_option maxRecDepth 100000
namespace Go.Proofs.YtcpaopfdiahnnaaGreat
section
open W Go.RowKit
open Bl (Vc Bd Tc Sc)
def twL_sq (l:List Int) (i:Nat) (hi:i<=4):Sq 1 (Bl.twL l i).1∧Sq 1 (Bl.twL l i).2:=⟨(Bl.XX l i).1.sq qd qd qo,(Bl.XX l i).2.sq qd qd qo⟩
def Ym {F:List Fct} {m:QM} {a b:Rat} (h:W.Has F (isQ (qv m) a)) (e:a=b):W.Has F (isQ (qv m) b):=e ▸ h
def WC.cut4 {P:Program} {n:Nat} {e:Env} {bx:List Ow} {F:List Fct} {Q:Post} {x1 x2 x3 x4 y:Code} {σ:Type} (E:σ->Env) (B:σ->List Ow) (G:σ->List Fct) (I:σ->Prop)
  (h1:WC P n x1 e bx F (Xm (λe bx F=>WC P n x2 e bx F (Xm (λe bx F=>WC P n x3 e bx F (Xm (λe bx F=>WC P n x4 e bx F (Xm (λe' bx' F'=>∃ s,I s∧W.Sub (E s) e'∧(B s).Sublist bx'∧Qk F' (G s)) Q)) Q)) Q)) Q))
  (h2:∀ s,I s->WC P n y (E s) (B s) (G s) Q):WC P n (.seq x1 (.seq x2 (.seq x3 (.seq x4 y)))) e bx F Q:=
 WC.seq (h1.mono λex e b f h=>by
  cases ex <;> first|exact h|skip
  exact WC.seq (h.mono λex e b f h=>by
   cases ex <;> first|exact h|skip
   exact WC.seq (h.mono λex e b f h=>by
    cases ex <;> first|exact h|skip
    exact WC.cut E B G I h h2)))
def has_sInil {F:List Fct}:W.Has F (sI (.slice none 0 0) []):=λp _=>⟨none,0,rfl,Nat.le_refl _,by simp[maxLen],.inl ⟨rfl,rfl,rfl⟩⟩
namespace K
namespace Q
attribute [local irreducible] WC WL WD YO LO Qq W.Fin Qw Qu Qj Row QQ Qy KnS Has W.One Ql Qr
def d54 {G G':Prop} (h:G') (s:Bx G'->G:=by
 intro h;first|refine gE ?_|refine H3 ?_|(apply WC.draw (id:=9) [0,1,2,3,4,6] (.h 0<|.h 1<|.h 2<|.h 3<|.h 4<|.m 5 (.h 6<|.m 7 (.m 8 (.l 9<|.l 10 .done) (.l 9<|.l 8<|.l 10 .done)) (.l 9<|.l 7<|.l 8<|.l 10 .done)) (.l 9<|.l 5<|.h 6<|.l 7<|.l 8<|.l 10 .done)) mixed kr)|(apply WC.draw (id:=10) [0,1,2,3,4,6] (.h 0<|.h 1<|.h 2<|.h 3<|.h 4<|.m 5 (.h 6<|.m 7 (.m 8 (.l 9<|.l 10 .done) (.l 9<|.l 8<|.l 10 .done)) (.l 9<|.l 7<|.l 8<|.l 10 .done)) (.l 9<|.l 5<|.h 6<|.l 7<|.l 8<|.l 10 .done)) mixed kr)|(apply WC.draw (id:=14) [0,1,2,3,7,8,9,11,12] (.h 0<|.h 1<|.h 2<|.h 3<|.h 7<|.h 8<|.h 9<|.h 12<|.l 4<|.l 5<|.l 6<|.l 10<|.h 11<|.l 13<|.l 14<|.l 15<|.f 16<|.l 17 .done) mixed kr)|(apply WC.draw (id:=22) [0,1,2,3,4,5,6,7,8] (.h 0<|.h 1<|.h 2<|.h 3<|.h 4<|.h 5<|.h 6<|.h 7<|.h 8<|.l 9<|.l 10<|.l 11<|.f 12<|.l 13 .done) mixed kr)|(apply WC.draw (id:=26) [0,1,2,4] (.h 0<|.h 1<|.h 2<|.m 3 (.h 4<|.l 5<|.l 6 .done) (.l 5<|.l 3<|.h 4<|.l 6 .done)) mixed kr)|(apply WC.draw (id:=27) [0,1,2,3,4,5,9,10] (.h 0<|.h 1<|.h 2<|.h 3<|.h 4<|.h 5<|.h 9<|.l 6<|.l 7<|.l 8<|.h 10<|.l 11<|.l 12<|.f 13<|.l 14 .done) mixed kr)|fail
 exact Bx.h h):G:=s ⟨h⟩
def tower_c (lv:Value) (l:List Int) (hl:∀ x∈l,I64 x):FnB Tryz.prog 54 [lv] [] [sI lv l] (IsScv (Bl.XJ l)):=by
 refine fO [(0,lv)] 129 Tryz.func54 Tryz.ntmps54 λh0=>?_;refine WC.K4 lv l hmA λhlen=>?_;have h1:=QA (l:=l) (i:=1) (m:=8) qd;have h2:=QA (l:=l) (i:=2) (m:=4) qd;have h3:=QA (l:=l) (i:=3) (m:=5) qd;have h4:=QA (l:=l) (i:=4) (m:=3) qd;have hm:=Bl.ZK l
 have hMany:[1,2,1,2,1,2,1,(3:Int)].getD (atP l 1 8).toNat 0=(Bl.Qa l:Int):=by
  unfold Bl.Qa;have:(atP l 1 8).toNat < 8:=qo;generalize (atP l 1 8).toNat=k at this;match k,this with|0,_=>rfl|1,_=>rfl|2,_=>rfl|3,_=>rfl|4,_=>rfl|5,_=>rfl|6,_=>rfl|7,_=>rfl
 obtain⟨k1,hk1⟩:∃ k:Nat,atP l 1 8=(k:Int):=⟨(atP l 1 8).toNat,by omega⟩
 have c1:=Z7 lv l 1 8 hl qd;rw[hk1] at c1 hMany h1;have hr1:Sq 1 (Bl.twR l):=(Fr.of (D:=3) (A:=3) qd qo).sq qd qd qd;repeat'(first|intro(g:Nat)|refine d54 ?_|refine gN ?_ ?_|intro v)
 revert g;intro g3;revert g;intro g2;have hints:ints [1,2,1,2,1,2,1,3]=[.int .i64 1,.int .i64 2,.int .i64 1,.int .i64 2,.int .i64 1,.int .i64 2,.int .i64 1,.int .i64 3]:=rfl;rw[<-hints];refine cV (c1) ?_;refine WL.y (YO.ZP T.s22 rfl rfl (KnS.oI (el:=3) (l:=[1,2,1,2,1,2,1,3]) (by exact meA)) qo (by show(k1:Int) < 8;omega)) qr qr ?_;refine WL.y (YO.ZS T.sc3 (el:=3) (l:=[1,2,1,2,1,2,1,3]) rfl (by exact meA) (by show(k1:Int).toNat < 8;omega)) qr qr ?_;rw[hMany];obtain⟨N,hN⟩:∃ N,Bl.Qa l=N:=⟨_,rfl⟩
 rw[hN];rw[hN] at hm hMany;repeat'(first|intro(g:Nat)|refine gP ?_|intro v)
 refine cV (Z7 lv l 2 4 hl qd) ?_;repeat'(first|intro(g:Nat)|refine gP ?_|intro v)
 refine cW (Zn.rof (atP l 2 4) 3 (XD qo qo) qd) λmr=>?_;repeat'(first|intro(g:Nat)|refine gP ?_|intro v)
 revert g;intro g5;refine cW (Zn.rof 0 1 qd qd) λmlo=>?_;rw[di1];repeat'(first|intro(g:Nat)|refine gP ?_|intro v)
 revert g;intro g6;refine cV (Z7 lv l 3 5 hl qd) ?_;repeat'(first|intro(g:Nat)|refine gP ?_|intro v)
 refine cW (Zn.rof (1+atP l 3 5) 1 (XD qo qo) qd) λmhi=>?_;rw[di1];repeat'(first|intro(g:Nat)|refine gP ?_|intro v)
 revert g;intro g7;refine WC.keep (g:=g5) (t:=64) (cs:=qcs mr) (by repeat(first|exact Rem.head|apply Rem.tail)) ?_;refine WC.Jd 79 30 ?_;refine WC.Jd 88 20 ?_
 refine WC.Xf (σ:=Value×(Nat->BM)×Value×(Nat->ToM)×QM) (λst=>[(4,.int .i64 (N:Int)),(5,ptr g5),(6,ptr g6),(3,ptr g3),(0,lv),(2,ptr g2)]) (λst=>[lO Qm st.1 88 N st.2.1 (Bl.J2 l),lO Qb st.2.2.1 79 (Bl.twT l N).1 st.2.2.2.1 (Bl.twT l N).2,Ow.cells g6 64 (qcs st.2.2.2.2),Ow.cells g3 26 [st.1,st.2.2.1],Ow.cells g2 26 [.slice none 0 0,.slice none 0 0]])
  (λst=>[lM Qm N st.2.1 (Bl.J2 l),lM Qb (Bl.twT l N).1 st.2.2.2.1 (Bl.twT l N).2,isQ (qv st.2.2.2.2) (Bl.twL l N).1,isQ (qv mr) (Bl.twR l),ce g5 64 (qcs mr),ge h0,sI lv l]) (λ_=>True) ?_ ?_
 ·refine WC.lp (σ:=Nat×Value×(Nat->BM)×Value×(Nat->ToM)×QM×QM) (λst=>[(8,.int .i64 (st.1:Int)),(4,.int .i64 (N:Int)),(5,ptr g5),(6,ptr g6),(7,ptr g7),(3,ptr g3),(0,lv),(2,ptr g2)]) (λst=>[lO Qm st.2.1 88 st.1 st.2.2.1 (Bl.J2 l),lO Qb st.2.2.2.1 79 (Bl.twT l st.1).1 st.2.2.2.2.1 (Bl.twT l st.1).2,Ow.cells g7 64 (qcs st.2.2.2.2.2.2),Ow.cells g6 64 (qcs st.2.2.2.2.2.1),Ow.cells g3 26 [st.2.1,st.2.2.2.1],Ow.cells g2 26 [.slice none 0 0,.slice none 0 0]])
   (λst=>[lM Qm st.1 st.2.2.1 (Bl.J2 l),lM Qb (Bl.twT l st.1).1 st.2.2.2.2.1 (Bl.twT l st.1).2,isQ (qv st.2.2.2.2.2.1) (Bl.twL l st.1).1,isQ (qv st.2.2.2.2.2.2) (Bl.twL l st.1).2,isQ (qv mr) (Bl.twR l),ce g5 64 (qcs mr),ge h0,sI lv l]) (λst=>st.1<=N) (λst=>N - st.1) (0,.slice none 0 0,λ_=>⟨(m00,m00),m00,m00,m00⟩,.slice none 0 0,λ_=>⟨(m00,m00),(m00,m00),(m00,m00),m00⟩,mlo,mhi) (Nat.zero_le _) ?_ (hG:=.cons W.Has.Gk (.cons W.Has.Gk haA))
  rintro⟨i,bl,mB,tl,mT,mlo,mhi⟩ hi;simp only at hi ⊢;by_cases d:i < N
  ·have hi3:i<=2:=qo;have q8:=QA (l:=l) (i:=8+2*(i:Int)) (m:=7) qd;have q9:=QA (l:=l) (i:=9+2*(i:Int)) (m:=3) qd;obtain⟨sL,sH⟩:=twL_sq l i qo;obtain⟨sL',sH'⟩:=twL_sq l (i+1) qo;have c38:=Z7 lv l (8+2*(i:Int)) 7 hl qd;have c40:=Zn.rof (atP l (8+2*(i:Int)) 7 - 2) 2 (XD qo qo) qd;have c41:=λm=>Zn.UZ mlo m (Bl.twL l i).1 (Rat.divInt (atP l (8+2*(i:Int)) 7 - 2) 2) (sL.sm qd) (((Fr.of (D:=2) (A:=4) qd qo).sq qd qd qd).sm qd);repeat'(first|intro(g:Nat)|refine gP ?_|intro v)
   refine WC.YJ (σ:=Nat×QM) (λst=>[(9,ptr st.1),(8,.int .i64 (i:Int)),(4,.int .i64 (N:Int)),(5,ptr g5),(6,ptr g6),(7,ptr g7),(3,ptr g3),(0,lv),(2,ptr g2)]) (λst=>[Ow.cells st.1 64 (qcs st.2),lO Qm bl 88 i mB (Bl.J2 l),lO Qb tl 79 (Bl.twT l i).1 mT (Bl.twT l i).2,Ow.cells g7 64 (qcs mhi),Ow.cells g6 64 (qcs mlo),Ow.cells g3 26 [bl,tl],Ow.cells g2 26 [.slice none 0 0,.slice none 0 0]])
    (λst=>[isQ (qv st.2) (Bl.twL l (i+1)).1,lM Qm i mB (Bl.J2 l),lM Qb (Bl.twT l i).1 mT (Bl.twT l i).2,isQ (qv mlo) (Bl.twL l i).1,isQ (qv mhi) (Bl.twL l i).2,isQ (qv mr) (Bl.twR l),ce g5 64 (qcs mr),ge h0,sI lv l]) (λ_=>True) ?_ ?_
   ·repeat'(first|intro(g:Nat)|refine d54 ?_|refine gN ?_ ?_|refine cU (c38) ?_|refine cW (c40) λzm=>?_|refine cW (c41 _) λzm=>?_|intro v)
    all_goals(apply Ex2;refine⟨trivial,?_,?_,?_⟩;(focus(repeat(first|exact Sub.nil _|refine Sub.cons rfl ?_)));(focus(repeat(first|exact Q9.nil _|(apply Q9.cons;(repeat(first|exact Rem.head|apply Rem.tail))))));(focus(repeat(first|exact Qk.nil|(apply Qk.cons;exact hsA)))))
   rintro⟨g9,mx⟩ _;simp only;have c47:=Z7 lv l (9+2*(i:Int)) 3 hl qd;have c49:=Zn.rof (2+atP l (9+2*(i:Int)) 3) 1 (XD qo qo) qd;rw[di1] at c49;have c50:=λm=>Zn.UZ mx m (Bl.twL l (i+1)).1 ((2+atP l (9+2*(i:Int)) 3:Int):Rat) (sL'.sm qd) (((Fr.int (A:=4) (2+atP l (9+2*(i:Int)) 3) qo).sq qd qd qd).sm qd);repeat'(first|intro(g:Nat)|refine gP ?_|intro v)
   refine WC.YJ (σ:=Nat×QM) (λst=>[(10,ptr st.1),(9,ptr g9),(8,.int .i64 (i:Int)),(4,.int .i64 (N:Int)),(5,ptr g5),(6,ptr g6),(7,ptr g7),(3,ptr g3),(0,lv),(2,ptr g2)]) (λst=>[Ow.cells st.1 64 (qcs st.2),Ow.cells g9 64 (qcs mx),lO Qm bl 88 i mB (Bl.J2 l),lO Qb tl 79 (Bl.twT l i).1 mT (Bl.twT l i).2,Ow.cells g7 64 (qcs mhi),Ow.cells g6 64 (qcs mlo),Ow.cells g3 26 [bl,tl],Ow.cells g2 26 [.slice none 0 0,.slice none 0 0]])
    (λst=>[isQ (qv st.2) (Bl.twL l (i+1)).2,isQ (qv mx) (Bl.twL l (i+1)).1,lM Qm i mB (Bl.J2 l),lM Qb (Bl.twT l i).1 mT (Bl.twT l i).2,isQ (qv mlo) (Bl.twL l i).1,isQ (qv mhi) (Bl.twL l i).2,isQ (qv mr) (Bl.twR l),ce g5 64 (qcs mr),ge h0,sI lv l]) (λ_=>True) ?_ ?_
   ·repeat'(first|intro(g:Nat)|refine d54 ?_|refine gN ?_ ?_|refine cU (c47) ?_|refine cW (c49) λzm=>?_|refine cW (c50 _) λzm=>?_|intro v)
    all_goals(apply Ex2;refine⟨trivial,?_,?_,?_⟩;(focus(repeat(first|exact Sub.nil _|refine Sub.cons rfl ?_)));(focus(repeat(first|exact Q9.nil _|(apply Q9.cons;(repeat(first|exact Rem.head|apply Rem.tail))))));(focus(repeat(first|exact Qk.nil|(apply Qk.cons;exact hsA)))))
   rintro⟨g10,my⟩ _;simp only;refine WC.cut (σ:=Unit) (λ_=>[(11,.slice none 0 0),(10,ptr g10),(9,ptr g9),(8,.int .i64 (i:Int)),(4,.int .i64 (N:Int)),(5,ptr g5),(6,ptr g6),(7,ptr g7),(3,ptr g3),(0,lv),(2,ptr g2)]) (λ_=>[Ow.cells g10 64 (qcs my),Ow.cells g9 64 (qcs mx),lO Qm bl 88 i mB (Bl.J2 l),lO Qb tl 79 (Bl.twT l i).1 mT (Bl.twT l i).2,Ow.cells g7 64 (qcs mhi),Ow.cells g6 64 (qcs mlo),Ow.cells g3 26 [bl,tl],Ow.cells g2 26 [.slice none 0 0,.slice none 0 0]]) (λ_=>[isQ (qv my) (Bl.twL l (i+1)).2,isQ (qv mx) (Bl.twL l (i+1)).1,lM Qm i mB (Bl.J2 l),lM Qb (Bl.twT l i).1 mT (Bl.twT l i).2,isQ (qv mlo) (Bl.twL l i).1,isQ (qv mhi) (Bl.twL l i).2,isQ (qv mr) (Bl.twR l),ce g5 64 (qcs mr),ge h0,sI lv l]) (λ_=>True) ?_ ?_
   ·repeat'(first|intro(g:Nat)|refine gP ?_|intro v)
    exact QZ () trivial
   rintro⟨⟩ _;refine WC.cut (σ:=Value) (λpv=>[(11,pv),(10,ptr g10),(9,ptr g9),(8,.int .i64 (i:Int)),(4,.int .i64 (N:Int)),(5,ptr g5),(6,ptr g6),(7,ptr g7),(3,ptr g3),(0,lv),(2,ptr g2)]) (λ_=>[Ow.cells g10 64 (qcs my),Ow.cells g9 64 (qcs mx),lO Qm bl 88 i mB (Bl.J2 l),lO Qb tl 79 (Bl.twT l i).1 mT (Bl.twT l i).2,Ow.cells g7 64 (qcs mhi),Ow.cells g6 64 (qcs mlo),Ow.cells g3 26 [bl,tl],Ow.cells g2 26 [.slice none 0 0,.slice none 0 0]]) (λpv=>[sI pv (l.drop i),isQ (qv my) (Bl.twL l (i+1)).2,isQ (qv mx) (Bl.twL l (i+1)).1,lM Qm i mB (Bl.J2 l),lM Qb (Bl.twT l i).1 mT (Bl.twT l i).2,isQ (qv mlo) (Bl.twL l i).1,isQ (qv mhi) (Bl.twL l i).2,isQ (qv mr) (Bl.twR l),ce g5 64 (qcs mr),ge h0,sI lv l]) (λ_=>True) ?_ ?_
   ·by_cases hil:i < l.length
    ·repeat'(first|intro(g:Nat)|refine gP ?_|intro v)
     refine QZ _ trivial (hG:=.cons (Has.dropI (v:=lv) (l:=l) (lo:=i) hmA qo) haA)
    ·repeat'(first|intro(g:Nat)|refine gP ?_|intro v)
     refine QZ _ trivial (hG:=.cons (by rw[List.drop_eq_nil_of_le qo];exact has_sInil) haA)
   intro pv _;have hl2:∀ x∈l.drop i,I64 x:=λx hx=>hl x (List.mem_of_mem_drop hx);have f1:=Bl.XX l (i+1);have sS:Sq 1 ((Bl.twL l (i+1)).1+(Bl.twL l (i+1)).2):=(f1.1.add f1.2).sq qd qd qo;repeat'(first|intro(g:Nat)|refine gP ?_|intro v)
   refine WC.cutT (σ:=Value×BM) (λst=>[(10,ptr g10),(9,ptr g9),(8,.int .i64 (i:Int)),(4,.int .i64 (N:Int)),(5,ptr g5),(6,ptr g6),(7,ptr g7),(3,ptr g3),(0,lv),(2,ptr g2)]) (λst=>[Ow.cells g10 64 (qcs my),Ow.cells g9 64 (qcs mx),lO Qm st.1 88 (i+1) (upd mB i st.2) (Bl.J2 l),lO Qb tl 79 (Bl.twT l i).1 mT (Bl.twT l i).2,Ow.cells g7 64 (qcs mhi),Ow.cells g6 64 (qcs mlo),Ow.cells g3 26 [st.1,tl],Ow.cells g2 26 [.slice none 0 0,.slice none 0 0]]) (λst=>[isQ (qv my) (Bl.twL l (i+1)).2,isQ (qv mx) (Bl.twL l (i+1)).1,lM Qm (i+1) (upd mB i st.2) (Bl.J2 l),lM Qb (Bl.twT l i).1 mT (Bl.twT l i).2,isQ (qv mlo) (Bl.twL l i).1,isQ (qv mhi) (Bl.twL l i).2,isQ (qv mr) (Bl.twR l),ce g5 64 (qcs mr),ge h0,sI lv l]) (λ_=>True) ?_ ?_
   ·repeat'(first|intro(g:Nat)|refine d54 ?_|refine gN ?_ ?_|intro v)
    refine cW (Zn.UZ mx my (Bl.twL l (i+1)).1 (Bl.twL l (i+1)).2 (sL'.sm qd) (sH'.sm qd)) λn62=>?_;repeat'(first|intro(g:Nat)|refine d54 ?_|refine gN ?_ ?_|intro v)
    refine cW (Zn.rof 1 2 qd qd) λn63=>?_;repeat'(first|intro(g:Nat)|refine d54 ?_|refine gN ?_ ?_|intro v)
    refine cW (Zn.Zh n62 n63 ((Bl.twL l (i+1)).1+(Bl.twL l (i+1)).2) (Rat.divInt 1 2) (sS.sm qd) (((Fr.of (D:=2) (A:=1) qd qd).sq qd qd qd).sm qd)) λn64=>?_;repeat'(first|intro(g:Nat)|refine d54 ?_|refine gN ?_ ?_|intro v)
    refine cW (Zn.rof (2*(i:Int)+1) 2 (XD qo qo) qd) λn68=>?_;refine WD.fact (fV (n64,n68) (Bl.twC l i)) (W.Has.vof (m:=(n64,n68)) (a:=Bl.twC l i) hmA hmA) ?_;repeat'(first|intro(g:Nat)|refine d54 ?_|refine gN ?_ ?_|intro v)
    refine cW (plain_c (n64,n68) (Bl.twC l i) pv (l.drop i) hl2) λm71=>?_;refine WD.fact (fB m71 (Bl.J2 l i)) hmA ?_;repeat'(first|intro(g:Nat)|refine d54 ?_|refine gN ?_ ?_|intro v)
    revert v;intro v72;refine WD.l rfl rfl rfl (LO.appBd (bm:=m71) (n:=i) (ms:=mB) (xs:=Bl.J2 l) rfl rfl meA hmA (λv'=>by repeat(first|exact Sel.head|apply Sel.tail)) qo λbl2=>?_);refine⟨.inl kr,?_⟩;refine WD.fy rfl (YO.Yx T.Hd rfl qr) qr qr ?_;repeat'(first|intro(g:Nat)|refine d54 ?_|refine gN ?_ ?_|intro v)
    exact QZ (bl2,m71) trivial (hG:=.cons hmA (.cons hmA (.cons (W.Has.Yg (S:=Qm) (n:=i) (ms:=mB) (xs:=Bl.J2 l) (mm:=m71) hmA hmA) haA)))
   rintro⟨bl2,m71⟩ _;simp only;have cA:=Zn.rcmp mx mlo (Bl.twL l (i+1)).1 (Bl.twL l i).1 (sL'.sm qd) (sL.sm qd);have cB:=Zn.rcmp my mhi (Bl.twL l (i+1)).2 (Bl.twL l i).2 (sH'.sm qd) (sH.sm qd);refine WC.cut4 (σ:=Nat×Nat×QM×QM) (λst=>[(13,ptr st.2.1),(12,ptr st.1),(10,ptr g10),(9,ptr g9),(8,.int .i64 (i:Int)),(4,.int .i64 (N:Int)),(5,ptr g5),(6,ptr g6),(7,ptr g7),(3,ptr g3),(0,lv),(2,ptr g2)]) (λst=>[Ow.cells st.2.1 64 (qcs st.2.2.2),Ow.cells st.1 64 (qcs st.2.2.1),Ow.cells g10 64 (qcs my),Ow.cells g9 64 (qcs mx),lO Qm bl2 88 (i+1) (upd mB i m71) (Bl.J2 l),lO Qb tl 79 (Bl.twT l i).1 mT (Bl.twT l i).2,Ow.cells g7 64 (qcs mhi),Ow.cells g6 64 (qcs mlo),Ow.cells g3 26 [bl2,tl],Ow.cells g2 26 [.slice none 0 0,.slice none 0 0]]) (λst=>[isQ (qv st.2.2.1) (Bl.twA l i),isQ (qv st.2.2.2) (Bl.twB l i),isQ (qv my) (Bl.twL l (i+1)).2,isQ (qv mx) (Bl.twL l (i+1)).1,lM Qm (i+1) (upd mB i m71) (Bl.J2 l),lM Qb (Bl.twT l i).1 mT (Bl.twT l i).2,isQ (qv mlo) (Bl.twL l i).1,isQ (qv mhi) (Bl.twL l i).2,isQ (qv mr) (Bl.twR l),ce g5 64 (qcs mr),ge h0,sI lv l]) (λ_=>True) ?_ ?_
   ·repeat'(first|intro(g:Nat)|refine d54 ?_|refine gN ?_ ?_|intro v)
    refine cV (cA) ?_;by_cases ha:(Bl.twL l (i+1)).1 < (Bl.twL l i).1
    ·have ha2:=Kj.2 ha;repeat'(first|intro(g:Nat)|refine d54 ?_|refine gN ?_ ?_|intro v)
     refine cV (cB) ?_;by_cases hb:(Bl.twL l i).2 < (Bl.twL l (i+1)).2
     ·have hb2:=Jm.2 hb;repeat'(first|intro(g:Nat)|refine d54 ?_|refine gN ?_ ?_|intro v)
      refine QZ (_,_,mlo,mhi) trivial (hG:=.cons (Ym (a:=(Bl.twL l i).1) hmA (by unfold Bl.twA;rw[if_pos ha])) (.cons (Ym (a:=(Bl.twL l i).2) hmA (by unfold Bl.twB;rw[if_pos hb])) haA))
     ·have hb2:¬0 < J6 (Bl.twL l (i+1)).2 (Bl.twL l i).2:=λh=>hb (Jm.1 h);repeat'(first|intro(g:Nat)|refine d54 ?_|refine gN ?_ ?_|intro v)
      refine QZ (_,_,mlo,my) trivial (hG:=.cons (Ym (a:=(Bl.twL l i).1) hmA (by unfold Bl.twA;rw[if_pos ha])) (.cons (Ym (a:=(Bl.twL l (i+1)).2) hmA (by unfold Bl.twB;rw[if_neg hb])) haA))
    ·have ha2:¬J6 (Bl.twL l (i+1)).1 (Bl.twL l i).1 < 0:=λh=>ha (Kj.1 h);repeat'(first|intro(g:Nat)|refine d54 ?_|refine gN ?_ ?_|intro v)
     refine cV (cB) ?_;by_cases hb:(Bl.twL l i).2 < (Bl.twL l (i+1)).2
     ·have hb2:=Jm.2 hb;repeat'(first|intro(g:Nat)|refine d54 ?_|refine gN ?_ ?_|intro v)
      refine QZ (_,_,mx,mhi) trivial (hG:=.cons (Ym (a:=(Bl.twL l (i+1)).1) hmA (by unfold Bl.twA;rw[if_neg ha])) (.cons (Ym (a:=(Bl.twL l i).2) hmA (by unfold Bl.twB;rw[if_pos hb])) haA))
     ·have hb2:¬0 < J6 (Bl.twL l (i+1)).2 (Bl.twL l i).2:=λh=>hb (Jm.1 h);repeat'(first|intro(g:Nat)|refine d54 ?_|refine gN ?_ ?_|intro v)
      refine QZ (_,_,mx,my) trivial (hG:=.cons (Ym (a:=(Bl.twL l (i+1)).1) hmA (by unfold Bl.twA;rw[if_neg ha])) (.cons (Ym (a:=(Bl.twL l (i+1)).2) hmA (by unfold Bl.twB;rw[if_neg hb])) haA))
   rintro⟨g12,g13,mA,mB2⟩ _;simp only
   have hA:Fr 2 40 (Bl.twA l i):=by
    unfold Bl.twA;split
    ·exact(Bl.XX l i).1.up qo
    ·exact(Bl.XX l (i+1)).1.up qo
   have hB:Fr 2 40 (Bl.twB l i):=by
    unfold Bl.twB;split
    ·exact(Bl.XX l i).2.up qo
    ·exact(Bl.XX l (i+1)).2.up qo
   have sA:=hA.sq qd qd qd;have sB:=hB.sq qd qd qd;repeat'(first|intro(g:Nat)|refine d54 ?_|refine gN ?_ ?_|intro v)
   refine cV (Zn.rcmp mA mB2 (Bl.twA l i) (Bl.twB l i) (sA.sm qd) (sB.sm qd)) ?_;by_cases hab:Bl.twA l i<=Bl.twB l i
   ·have hab2:J6 (Bl.twA l i) (Bl.twB l i)<=0:=by
     have:=@Jm (Bl.twA l i) (Bl.twB l i);by_cases c:0 < J6 (Bl.twA l i) (Bl.twB l i)
     ·have:=this.1 c;grind
     ·omega
    repeat'(first|intro(g:Nat)|refine d54 ?_|refine gN ?_ ?_|intro v)
    refine cW (flat_c (i:Int) ((i:Int) - 1) (i:Int) mA mB2 mr (Bl.twA l i) (Bl.twB l i) (Bl.twR l) (XD qo qo)) λtm=>?_;repeat'(first|intro(g:Nat)|refine d54 ?_|refine gN ?_ ?_|intro v)
    revert v;intro v101;refine WD.l rfl rfl rfl (LO.appTu (tm:=tm) (tc:=Bl.tcF (i:Int) ((i:Int) - 1) (Bl.twA l i) (Bl.twB l i) (i:Int) (Bl.twR l)) (n:=(Bl.twT l i).1) (ms:=mT) (xs:=(Bl.twT l i).2) rfl rfl meA hmA (λv'=>by repeat(first|exact Sel.head|apply Sel.tail)) (by have:=(Bl.Uv l i qo).1;omega) λtl2=>?_);refine⟨.inl kr,?_⟩;refine WD.fy rfl (YO.Yx T.Un rfl qr) qr qr ?_;repeat'(first|intro(g:Nat)|refine d54 ?_|refine gN ?_ ?_|intro v)
    have eT:Bl.twT l (i+1)=((Bl.twT l i).1+1,upd (Bl.twT l i).2 (Bl.twT l i).1 (Bl.tcF (i:Int) ((i:Int) - 1) (Bl.twA l i) (Bl.twB l i) (i:Int) (Bl.twR l))):=by
     show(if _ then _ else _)=_;rw[if_pos hab]
    have eT1:(Bl.twT l i).1+1=(Bl.twT l (i+1)).1:=by rw[eT]
    have eT2:upd (Bl.twT l i).2 (Bl.twT l i).1 (Bl.tcF (i:Int) ((i:Int) - 1) (Bl.twA l i) (Bl.twB l i) (i:Int) (Bl.twR l))=(Bl.twT l (i+1)).2:=by rw[eT]
    rw[eT1,eT2];exact Qq.mk (i+1,bl2,upd mB i m71,tl2,upd mT (Bl.twT l i).1 tm,mx,my) (by simp only;omega) (by simp only;omega) (hG:=.cons hmA (.cons (by simp only;rw[<-eT1,<-eT2];exact W.Has.mapp (S:=Qb) (n:=(Bl.twT l i).1) (ms:=mT) (xs:=(Bl.twT l i).2) (mm:=tm) (aa:=Bl.tcF (i:Int) ((i:Int) - 1) (Bl.twA l i) (Bl.twB l i) (i:Int) (Bl.twR l)) hmA hmA) haA))
   ·have hab2:¬J6 (Bl.twA l i) (Bl.twB l i)<=0:=by
     have:=(@Jm (Bl.twA l i) (Bl.twB l i)).2 (by grind);omega
    repeat'(first|intro(g:Nat)|refine d54 ?_|refine gN ?_ ?_|intro v)
    have eT:Bl.twT l i=Bl.twT l (i+1):=by
     show _=(if _ then _ else _);rw[if_neg hab]
    rw[eT];exact Qq.mk (i+1,bl2,upd mB i m71,tl,mT,mx,my) (by simp only;omega) (by simp only;omega)
  ·obtain rfl:i=N:=qo;repeat'(first|intro(g:Nat)|refine d54 ?_|refine gN ?_ ?_|intro v)
   exact QZ (bl,mB,tl,mT,mlo) trivial
 ·rintro⟨bl,mB,tl,mT,mlo⟩ _;simp only;obtain⟨sL,sH⟩:=twL_sq l N qo;have hmT:=(Bl.Uv l N qo).1;repeat'(first|intro(g:Nat)|refine d54 ?_|refine gN ?_ ?_|intro v)
  refine cV (Z7 lv l 4 3 hl qd) ?_;by_cases h:atP l 4 3=0
  ·have c112:=Zn.rof ((N:Int) - 1) 1 (XD qo qo) qd;rw[di1] at c112;repeat'(first|intro(g:Nat)|refine gP ?_|intro v)
   refine WC.YJ (σ:=Nat×QM) (λst=>[(14,ptr st.1),(4,.int .i64 (N:Int)),(5,ptr g5),(3,ptr g3),(2,ptr g2)]) (λst=>[Ow.cells st.1 75 (vcs (mlo,st.2)),lO Qm bl 88 N mB (Bl.J2 l),lO Qb tl 79 (Bl.twT l N).1 mT (Bl.twT l N).2,Ow.cells g3 26 [bl,tl],Ow.cells g2 26 [.slice none 0 0,.slice none 0 0]])
    (λst=>[isQ (qv st.2) ((((N:Int) - 1:Int)):Rat),lM Qm N mB (Bl.J2 l),lM Qb (Bl.twT l N).1 mT (Bl.twT l N).2,isQ (qv mlo) (Bl.twL l N).1,isQ (qv mr) (Bl.twR l),ce g5 64 (qcs mr),ge h0]) (λ_=>True) ?_ ?_
   ·repeat'(first|intro(g:Nat)|refine d54 ?_|refine gN ?_ ?_|refine cW (c112) λzm=>?_|intro v)
    all_goals(apply Ex2;refine⟨trivial,?_,?_,?_⟩;(focus(repeat(first|exact Sub.nil _|refine Sub.cons rfl ?_)));(focus(repeat(first|exact Q9.nil _|(apply Q9.cons;(repeat(first|exact Rem.head|apply Rem.tail))))));(focus(repeat(first|exact Qk.nil|(apply Qk.cons;exact hsA)))))
   rintro⟨g14,mh⟩ _;simp only;refine WC.fact (fV (mlo,mh) (Bl.twW l N).p) (W.Has.vof (m:=(mlo,mh)) (a:=(Bl.twW l N).p) hmA hmA) ?_;have sN:Sq 1 ((((N:Int) - 1:Int)):Rat):=(Fr.int (A:=3) _ qo).sq qd qd qd;repeat'(first|intro(g:Nat)|refine d54 ?_|refine gN ?_ ?_|intro v)
   refine cW (Ya 0 1 qd qd) λm120=>?_;repeat'(first|intro(g:Nat)|refine d54 ?_|refine gN ?_ ?_|intro v)
   refine cW (XK (mlo,mh) m120 (Bl.twW l N).p ⟨((0:Int):Rat),((1:Int):Rat)⟩ 1 qd ⟨sL,sN⟩ (Uz qd qd qd)) λm121=>?_;repeat'(first|intro(g:Nat)|refine d54 ?_|refine gN ?_ ?_|intro v)
   refine cW (Ya 1 0 qd qd) λm122=>?_;refine WD.fact (fT ⟨(mlo,mh),m121,m122,mr⟩ (Bl.twW l N)) (W.Has.tof (tm:=⟨(mlo,mh),m121,m122,mr⟩) (t:=Bl.twW l N) hmA hmA hmA hmA) ?_;repeat'(first|intro(g:Nat)|refine d54 ?_|refine gN ?_ ?_|intro v)
   refine WD.y rfl (GF (v1:=(mlo,mh)) (v2:=m121) (v3:=m122) (n1:=mr) rfl rfl rfl rfl rfl rfl) qr qr ?_;repeat'(first|intro(g:Nat)|refine d54 ?_|refine gN ?_ ?_|intro v)
   revert v;intro v125;refine WD.l rfl rfl rfl (LO.appTu (tm:=⟨(mlo,mh),m121,m122,mr⟩) (tc:=Bl.twW l N) (n:=(Bl.twT l N).1) (ms:=mT) (xs:=(Bl.twT l N).2) rfl rfl meA hmA (λv'=>by repeat(first|exact Sel.head|apply Sel.tail)) qo λtl2=>?_);refine⟨.inl kr,?_⟩;refine WD.fy rfl (YO.Yx T.Un rfl qr) qr qr ?_;repeat(refine goD ?_)
   have eS:Bl.XJ l=⟨N,(Bl.twT l N).1+1,Bl.J2 l,upd (Bl.twT l N).2 (Bl.twT l N).1 (Bl.twW l N)⟩:=by unfold Bl.XJ;rw[if_pos h,hN]
   refine WC.fact (lM Qb ((Bl.twT l N).1+1) (upd mT (Bl.twT l N).1 ⟨(mlo,mh),m121,m122,mr⟩) (upd (Bl.twT l N).2 (Bl.twT l N).1 (Bl.twW l N))) (W.Has.mapp (S:=Qb) (n:=(Bl.twT l N).1) (ms:=mT) (xs:=(Bl.twT l N).2) (mm:=⟨(mlo,mh),m121,m122,mr⟩) (aa:=Bl.twW l N) hmA hmA) ?_;refine WC.QB (S:=Qm) (v:=bl) (n:=N) (ms:=mB) (xs:=Bl.J2 l) (by repeat(first|exact Sel.head|apply Sel.tail)) hmA ?_;refine WC.QB (S:=Qb) (v:=tl2) (n:=(Bl.twT l N).1+1) (ms:=upd mT (Bl.twT l N).1 ⟨(mlo,mh),m121,m122,mr⟩) (xs:=upd (Bl.twT l N).2 (Bl.twT l N).1 (Bl.twW l N)) (by repeat(first|exact Sel.head|apply Sel.tail)) hmA ?_;repeat'(first|intro(g:Nat)|refine d54 ?_|refine gN ?_ ?_|intro v)
   refine WC.ret ?_;exact Fp [lF Qm bl N mB (Bl.J2 l),lF Qb tl2 ((Bl.twT l N).1+1) (upd mT (Bl.twT l N).1 ⟨(mlo,mh),m121,m122,mr⟩) (upd (Bl.twT l N).2 (Bl.twT l N).1 (Bl.twW l N))] (rcV T.r26) haA ⟨⟨bl,tl2,mB,upd mT (Bl.twT l N).1 ⟨(mlo,mh),m121,m122,mr⟩⟩,rfl,rfl,by rw[eS]⟩
  ·repeat'(first|intro(g:Nat)|refine gP ?_|intro v)
   have eS:Bl.XJ l=⟨N,(Bl.twT l N).1,Bl.J2 l,(Bl.twT l N).2⟩:=by unfold Bl.XJ;rw[if_neg h,hN]
   refine WC.QB (S:=Qm) (v:=bl) (n:=N) (ms:=mB) (xs:=Bl.J2 l) (by repeat(first|exact Sel.head|apply Sel.tail)) hmA ?_;refine WC.QB (S:=Qb) (v:=tl) (n:=(Bl.twT l N).1) (ms:=mT) (xs:=(Bl.twT l N).2) (by repeat(first|exact Sel.head|apply Sel.tail)) hmA ?_;repeat'(first|intro(g:Nat)|refine d54 ?_|refine gN ?_ ?_|intro v)
   refine WC.ret ?_;exact Fp [lF Qm bl N mB (Bl.J2 l),lF Qb tl ((Bl.twT l N).1) (mT) ((Bl.twT l N).2)] (rcV T.r26) haA ⟨⟨bl,tl,mB,mT⟩,rfl,rfl,by rw[eS]⟩
end Q
end K
end
section
open W Go.RowKit
open Bl (Vc Bd Tc Sc)
namespace K
namespace Q
attribute [local irreducible] WC WL WD YO LO Qq W.Fin Qw Qu Qj Row QQ Qy KnS Has W.One Ql Qr
def some_c (lv:Value) (l:List Int) (hl:∀ x∈l,I64 x):FnB Tryz.prog 11 [lv] [] [sI lv l] (IsScv (Bl.Ye l)):=by
 refine fO [(0,lv)] 10 Tryz.func11 Tryz.ntmps11 λh0=>?_;repeat'(first|intro(g:Nat)|refine gP ?_|intro v)
 refine cV (Z7 lv l 0 4 hl qd) ?_;unfold Bl.Ye;by_cases h:atP l 0 4=0
 ·rw[if_pos h];repeat'(first|intro(g:Nat)|refine gP ?_|intro v)
  refine cW (slope_c lv l hl) λM=>?_;repeat'(first|intro(g:Nat)|refine gP ?_|intro v)
  refine WC.ret ?_;exact Fp [fSl M (Bl.K9 l),fSt M (Bl.K9 l)] (rcV T.r26) haA ⟨M,rfl,rfl,rfl⟩
 ·rw[if_neg h];repeat'(first|intro(g:Nat)|refine gP ?_|intro v)
  refine cW (tower_c lv l hl) λM=>?_;repeat'(first|intro(g:Nat)|refine gP ?_|intro v)
  refine WC.ret ?_;exact Fp [fSl M (Bl.XJ l),fSt M (Bl.XJ l)] (rcV T.r26) haA ⟨M,rfl,rfl,rfl⟩
end Q
end K
end
section
open Bl (Vc Bd Tc Sc)
namespace Bl
open X
def exS (x:Int) (st:Rat):Sc:=⟨1,1,λ_=>⟨⟨(x:Rat),((1:Int):Rat)⟩,1,2,st⟩,λ_=>flr⟩
def exS_ok {x:Int} {st:Rat} (h:0 < st):(exS x st).ok:=by
 refine⟨by show 1<=5;decide,by show 1<=10;decide,λi _=>⟨by show(0:Rat) < 1;decide,by show(1:Rat)<=2;decide,h⟩,λj _=>?_⟩;show Us 1 flr;refine⟨by decide,by decide,by decide,by decide,by decide,by show(0:Rat)<=Rat.divInt 1 2;decide +kernel,by decide +kernel,by decide +kernel⟩
def exS_ss {x:Int} {st:Rat} (hx:x.natAbs < 1000) (h:Sq 1 st):Ss 1 (exS x st):=by
 refine⟨λi _=>⟨Uz qd qo qd,Uj,?_,h⟩,λj _=>⟨⟨Sq.zero,Sq.zero⟩,Uz qd qd qd,Uz qd qd qd,(Fr.of (D:=2) (A:=1) qd qd).sq qd qd qd⟩⟩;show Sq 1 2;exact(Fr.int (A:=2) 2 qd).sq qd qd qd
def YB {x:Int} {st:Rat}:(exS x st).wt 0 0=1∧(exS x st).wt 1 0=2:=⟨by show(if 0 / 2 ^ 0 % 2=1 then(2:Rat) else 1)=1;decide,by show(if 1 / 2 ^ 0 % 2=1 then(2:Rat) else 1)=2;decide⟩
def sm2' (f:Nat->Rat):sm (2*1) f=f 0+f 1:=by show 0+f 0+f 1=_;rw[Rat.zero_add]
def ex_on (u v:Rat):on flr 0 (frc flr u v)=⟨u*((0:Int):Rat) - v*((1:Int):Rat),u*((1:Int):Rat)+v*((0:Int):Rat)⟩:=if_pos rfl
def HR {x:Int} {st:Rat} {w u v:Nat->Rat}:Bal (exS x st) w u v↔(∀ k,k < 2->0<=u k∧v k<=Rat.divInt 1 2*u k∧-v k<=Rat.divInt 1 2*u k)∧v 0+v 1=0∧u 0+u 1=w 0∧2*u 1=(x:Rat)*(u 0+u 1)∧u 0+u 1<=st:=by
 have hT:∀ k,(exS x st).T k=flr:=λ_=>rfl;have hB:∀ i,(exS x st).B i=⟨⟨(x:Rat),((1:Int):Rat)⟩,1,2,st⟩:=λ_=>rfl;have a0:(exS x st).at 0=⟨0,0⟩:=rfl;have a1:(exS x st).at 1=⟨((2:Int):Rat),((0:Int):Rat)⟩:=rfl;have hs:spn flr.n=1:=by decide +kernel
 have ht:tch flr 0:=.inl rfl;have c0:((0:Int):Rat)=0:=rfl;have c1:((1:Int):Rat)=1:=rfl;have c2:((2:Int):Rat)=2:=rfl;have hr:flr.r=Rat.divInt 1 2:=rfl;have key:∀ i,i < (exS x st).n->i=0:=λi hi=>by have:i < 1:=hi;omega
 unfold Bal;show(∀ k,k < 2*1->_)∧(∀ i,i < 1->sm (2*1) _=0∧sm (2*1) _=w i∧sm (2*1) _=0∧sm (2*1) _<=_)↔_;simp only[hT,hr,sm2',hB];constructor
 ·rintro⟨h1,h2⟩;obtain⟨e1,e2,e3,e4⟩:=h2 0 qd;rw[ex_on,ex_on] at e1 e2 e3;rw[a0,a1] at e3;rw[if_pos ht,if_pos ht,hs] at e4;unfold Jw Q4 at e3;simp only[c0,c1,c2] at e1 e2 e3 e4;refine⟨h1,by grind,by grind,by grind,by grind⟩
 ·rintro⟨h1,h2,h3,h4,h5⟩;refine⟨h1,λi hi=>?_⟩;obtain rfl:i=0:=qo;rw[ex_on,ex_on,a0,a1,if_pos ht,if_pos ht,hs];unfold Jw Q4;simp only[c0,c1,c2];refine⟨by grind,by grind,by grind,by grind⟩
def ex_sat {st:Rat} {c:Nat} (hw:(exS 1 st).wt c 0<=st) (h0:0<=(exS 1 st).wt c 0):Sat (exS 1 st) c:=by
 generalize hq:(exS 1 st).wt c 0=w at hw h0;refine⟨λj=>if j % 2=0 then Rat.divInt 1 2*w else 0,Xt.2 (HR.2 ⟨λk _=>?_,?_⟩)⟩
 ·rw[if_pos qo,if_neg qo];have d2:Rat.divInt 1 2*2=1:=by decide +kernel
  have:0<=Rat.divInt 1 2*w:=Rat.mul_nonneg (by decide +kernel) h0;have:0<=Rat.divInt 1 2*(Rat.divInt 1 2*w):=Rat.mul_nonneg (by decide +kernel) this;refine⟨by grind,by grind,by grind⟩
 ·have d2:Rat.divInt 1 2*2=1:=by decide +kernel
  have c1:((1:Int):Rat)=1:=rfl;rw[hq];simp only[c1];have e2:Rat.divInt 1 2*w+Rat.divInt 1 2*w=w:=by grind
  refine⟨by show(0:Rat)+0=0;grind,e2,?_,?_⟩
  ·show 2*(Rat.divInt 1 2*w)=1*(Rat.divInt 1 2*w+Rat.divInt 1 2*w);grind
  ·show Rat.divInt 1 2*w+Rat.divInt 1 2*w<=st;rw[e2];exact hw
def ex_no {x:Int} {st:Rat} {c:Nat} (hw:st < (exS x st).wt c 0):¬Sat (exS x st) c:=λ⟨y,hy⟩=>by
 obtain⟨h1,h2,h3,h4,h5⟩:=HR.1 (Xt.1 hy);grind
def ex_off {st:Rat} {c:Nat} (hw:0 < (exS 3 st).wt c 0):¬Sat (exS 3 st) c:=λ⟨y,hy⟩=>by
 obtain⟨h1,h2,h3,h4,h5⟩:=HR.1 (Xt.1 hy);have a0:=(h1 0 qd).1;have a1:=(h1 1 qd).1;have c3:((3:Int):Rat)=3:=rfl;rw[c3] at h4;grind
def ex_own {q:Rat} (h0:0<=q) (hq:q*2<=10):Bal (exS 1 10) (λ_=>q*2) (λ_=>q) (λ_=>0):=by
 have c1:((1:Int):Rat)=1:=rfl;refine HR.2 ⟨λk _=>?_,by show(0:Rat)+0=0;grind,by grind,by rw[c1];grind,by grind⟩;have:0<=Rat.divInt 1 2*q:=Rat.mul_nonneg (by decide +kernel) h0;refine⟨h0,by grind,by grind⟩
end Bl
end
section
open W Go.RowKit
open Bl (Vc Bd Tc Sc)
def fsx (a:Nat->Nat->Rat) (y:Nat->Rat) (i j k:Nat):Rat:=X.sm (if k < j then i+1 else i) λr=>y r*a r k
def fsx_up {a:Nat->Nat->Rat} {y:Nat->Rat} {i j:Nat} (k:Nat):upd (fsx a y i j) j (fsx a y i j j+y i*a i j) k=fsx a y i (j+1) k:=by
 by_cases c:k=j
 ·subst c;rw[QJ];unfold fsx;rw[if_neg qo,if_pos qo];rfl
 ·rw[upd_ne c];unfold fsx;by_cases d:k < j
  ·rw[if_pos d,if_pos qo]
  ·rw[if_neg d,if_neg qo]
def fsx_next {a:Nat->Nat->Rat} {y:Nat->Rat} {i v k:Nat} (hk:k < v):fsx a y i v k=fsx a y (i+1) 0 k:=by
 unfold fsx;rw[if_pos hk,if_neg qo]
def sum_sz {y f:Nat->Rat} {Ky Ka m i:Nat} (hy:∀ r,r < m->Sq Ky (y r)) (hf:∀ r,r < m->Sq Ka (f r)) (hi:i<=m):Sq (m*(Ky+Ka+1)+1) (X.sm i λr=>y r*f r):=
 (X.XC (m:=i) λr hr=>(hy r qo).mul (hf r qo)).up (by have:=Nat.mul_le_mul_right (Ky+Ka+1) hi;omega)
namespace K
namespace Q
attribute [local irreducible] WC WL WD YO LO Qq W.Fin Qw Qu Qj Row QQ Qy KnS Has W.One Ql Qr
def d32 {G G':Prop} (h:G') (s:Bx G'->G:=by
 intro h;first|refine gF ?_|(apply WC.draw (id:=15) [0,1,2,3,4,5,6,7,10] (.h 0<|.h 1<|.h 2<|.h 3<|.h 4<|.h 5<|.h 6<|.h 7<|.l 8<|.l 9<|.h 10<|.l 11 .done) mixed kr)|(apply WC.draw (id:=17) [0,1,2,3,4,5,6,7] (.h 0<|.h 1<|.h 2<|.h 3<|.h 4<|.h 5<|.h 6<|.h 7<|.l 8<|.l 9<|.l 10 .done) mixed kr)|fail
 exact Bx.h h):G:=s ⟨h⟩
def HS (M:SM) (S:Sc) (c Ly:Nat) (yv:Value) (my:Nat->QM) (y:Nat->Rat) (K Ky:Nat) (hc:c < 2 ^ S.n) (h0K:0 < K) (hK:K<=3) (hs:Ss K S) (ho:S.ok) (hL:Ly<=1000) (hy:∀ k,k < Ly->Sq Ky (y k)) (hKy:(6*S.n+6*S.m+S.n)*(Ky+22)+Ky+30<=400000000) :
  FnB Tryz.prog 32 [M.l,M.t,.agg #[.int .i64 (c:Int),yv]] [] [fSl M S,fSt M S,fF yv Ly my y] (IsEr (Ly=(Bl.lp S (S.wt c)).m∧X.U4 (Bl.lp S (S.wt c)) y)):=by
 have hn:=ho.n;have hm:=ho.m;have hz:=lp_szs h0K hK hs ho (HY hs c);have hpb:=ZX M S c hc K h0K qo hs ho;obtain⟨p,hp⟩:∃ p,Bl.lp S (S.wt c)=p:=⟨_,rfl⟩
 have hpv:p.v=4*S.m:=by rw[<-hp];rfl
 have hpm:p.m=6*S.n+6*S.m+S.n:=by rw[<-hp];rfl
 unfold IsProb at hpb;rw[hp,<-hpv] at hpb;rw[hp] at hz ⊢;have h32:2 ^ S.n<=2 ^ 5:=Nat.pow_le_pow_right qd hn;obtain⟨N2,hN2⟩:∃ N2,2 ^ S.n=N2:=⟨_,rfl⟩
 refine fO [(0,M.l),(1,M.t),(2,(.agg #[.int .i64 (c:Int),yv]))] 111 Tryz.func32 Tryz.ntmps32 λh0=>?_;repeat'(first|intro(g:Nat)|refine d32 ?_|intro v)
 revert g;intro g5;refine cW (hpb) λMp=>?_;refine WL.QG (fF Mp.gv p.v Mp.mg p.g) (W.Has.pg (M:=Mp) (m:=p.m) (gn:=p.v) (ln:=λ_=>p.v) (a:=p.a) (b:=p.b) hmA) ?_;repeat'(first|intro(g:Nat)|refine d32 ?_|intro v)
 revert g;intro g7;refine WL.keep (g:=g5) (t:=50) (cs:=[.int .i64 (c:Int),yv]) (by repeat(first|exact Rem.head|apply Rem.tail)) ?_;refine WL.keep (g:=g7) (t:=36) (cs:=pcs Mp p.v) (by repeat(first|exact Rem.head|apply Rem.tail)) ?_;by_cases hl:Ly=p.m
 ·subst hl;repeat'(first|intro(g:Nat)|refine d32 ?_|intro v)
  revert g;intro g10;revert v;intro sv;refine WC.Xf (σ:=(Nat->QM)×QM) (λst=>[(9,sv),(10,ptr g10)]) (λst=>[Ow.cells g10 64 (qcs st.2),Ow.slice sv 64 4 (Qe p.v st.1)]) (λst=>[mF p.v st.1 (fsx p.a y p.m 0),isQ (qv st.2) (X.sm p.m λr=>y r*p.b r),ge h0]) (λ_=>∀ r,r < p.m->0<=y r) ?_ ?_
  ·refine WC.lp (σ:=Nat×(Nat->QM)×QM) (λst=>[(50,.int .i64 (st.1:Int)),(49,.int .i64 (p.m:Int)),(48,yv),(9,sv),(10,ptr g10),(5,ptr g5),(7,ptr g7)]) (λst=>[Ow.cells g10 64 (qcs st.2.2),Ow.slice sv 64 4 (Qe p.v st.2.1)]) (λst=>[mF p.v st.2.1 (fsx p.a y st.1 0),isQ (qv st.2.2) (X.sm st.1 λr=>y r*p.b r),ge h0,ce g5 50 [.int .i64 (c:Int),yv],ce g7 36 (pcs Mp p.v),fP Mp p,fF yv p.m my y]) (λst=>st.1<=p.m∧∀ r,r < st.1->0<=y r) (λst=>p.m - st.1) (0,λ_=>m00,m00) ⟨Nat.zero_le _,λr h=>absurd h qo⟩ ?_ (hG:=.cons ((W.Has.mF0 p.v).QW λk _=>rfl) (.cons Jy haA));rintro⟨i,ms,mr⟩ ⟨hi,hok⟩;simp only at hi hok ⊢;by_cases d:i < p.m
   ·refine WC.fact (fF (Mp.av i) p.v (Mp.ma i) (p.a i)) (W.Has.pa (M:=Mp) (m:=p.m) (gn:=p.v) (ln:=λ_=>p.v) (a:=p.a) (b:=p.b) (g:=p.g) hmA d) ?_;refine WC.fact (isQ (qv (Mp.mb i)) (p.b i)) (W.Has.pbq (M:=Mp) (m:=p.m) (gn:=p.v) (ln:=λ_=>p.v) (a:=p.a) (b:=p.b) (g:=p.g) hmA d) ?_;refine WC.fact (isQ (qv (my i)) (y i)) (W.Has.q (W.Has.fm (v:=yv) (n:=p.m) (ms:=my) (qf:=y) hmA) d) ?_;have hyi:=hy i d;have hKy2:p.m*(Ky+22)+Ky+30<=400000000:=by rw[hpm];exact hKy
    have hKy3:Ky+22<=400000000:=qo;repeat'(first|intro(g:Nat)|refine d32 ?_|intro v)
    revert g;intro g12;refine cV (Xa (my i) (y i) (hyi.sm qo)) ?_;repeat'(first|intro(g:Nat)|refine d32 ?_|intro v)
    refine cV (Zn.sign (my i) (y i)) ?_;have hsg:=@JB (y i);by_cases hneg:y i < 0
    ·have hs1:=hsg.2 hneg;repeat'(first|intro(g:Nat)|refine d32 ?_|intro v)
     refine WC.ret ?_;exact Fp [] (Qv.t1 rfl rfl) .nil ⟨22,rfl,.inr rfl,⟨λh=>absurd h qd,λh=>absurd (h.2.1 i d) (by grind)⟩,rfl,rfl⟩
    ·have hs1:¬sgn (y i).num < 0:=λh=>hneg (hsg.1 h);repeat'(first|intro(g:Nat)|refine d32 ?_|intro v)
     refine WC.Xf (σ:=Nat->QM) (λms=>[(11,.int .i64 (i:Int)),(12,ptr g12),(50,.int .i64 (i:Int)),(49,.int .i64 (p.m:Int)),(48,yv),(9,sv),(10,ptr g10),(5,ptr g5),(7,ptr g7)]) (λms=>[Ow.cells g12 64 (qcs (my i)),Ow.cells g10 64 (qcs mr),Ow.slice sv 64 4 (Qe p.v ms)]) (λms=>[mF p.v ms (fsx p.a y (i+1) 0),isQ (qv mr) (X.sm i λr=>y r*p.b r),isQ (qv (Mp.mb i)) (p.b i),isQ (qv (my i)) (y i),ge h0,ce g5 50 [.int .i64 (c:Int),yv],ce g7 36 (pcs Mp p.v),fP Mp p,fF yv p.m my y]) (λ_=>True) ?_ ?_
     ·refine WC.lp (σ:=Nat×(Nat->QM)) (λst=>[(70,.int .i64 (st.1:Int)),(69,.int .i64 (p.v:Int)),(68,Mp.av i),(11,.int .i64 (i:Int)),(12,ptr g12),(50,.int .i64 (i:Int)),(49,.int .i64 (p.m:Int)),(48,yv),(9,sv),(10,ptr g10),(5,ptr g5),(7,ptr g7)]) (λst=>[Ow.cells g12 64 (qcs (my i)),Ow.cells g10 64 (qcs mr),Ow.slice sv 64 4 (Qe p.v st.2)]) (λst=>[mF p.v st.2 (fsx p.a y i st.1),fF (Mp.av i) p.v (Mp.ma i) (p.a i),isQ (qv mr) (X.sm i λr=>y r*p.b r),isQ (qv (Mp.mb i)) (p.b i),isQ (qv (my i)) (y i),ge h0,ce g5 50 [.int .i64 (c:Int),yv],ce g7 36 (pcs Mp p.v),fP Mp p,fF yv p.m my y]) (λst=>st.1<=p.v) (λst=>p.v - st.1) (0,ms) (Nat.zero_le _) ?_;rintro⟨j,ms⟩ hj;simp only at hj ⊢;by_cases dj:j < p.v
      ·refine WC.fact (isQ (qv (Mp.ma i j)) (p.a i j)) (W.Has.q (W.Has.fm (v:=Mp.av i) (n:=p.v) (ms:=Mp.ma i) (qf:=p.a i) hmA) dj) ?_;refine WC.fact (isQ (qv (ms j)) (fsx p.a y i j j)) (W.Has.q (n:=p.v) (ms:=ms) (qf:=fsx p.a y i j) hmA dj) ?_;have haj:=hz.a i d j dj;have hsz:Sq (p.m*(Ky+22)+1) (fsx p.a y i j j):=by unfold fsx;rw[if_neg qo];exact sum_sz hy (λr hr=>hz.a r hr j dj) hi
       repeat'(first|intro(g:Nat)|refine d32 ?_|intro v)
       all_goals
        refine cW (Zn.mul (my i) (Mp.ma i j) (y i) (p.a i j) (hyi.sm qo) (haj.sm qo)) λn1=>?_;repeat'(first|intro(g:Nat)|refine d32 ?_|intro v)
       all_goals
        refine cW (Zn.add (ms j) n1 (fsx p.a y i j j) (y i*p.a i j) (hsz.sm qo) ((hyi.mul haj).sm qo)) λn2=>?_;repeat'(first|intro(g:Nat)|refine d32 ?_|intro v)
        exact Qq.mk (j+1,upd ms j n2) (by simp only;omega) (by simp only;omega) (hG:=.cons ((W.Has.J3 (n:=p.v) (k:=j) (ms:=ms) (m:=n2) (qf:=fsx p.a y i j) hmA hmA).QW λk _=>fsx_up k) haA)
      ·obtain rfl:j=p.v:=qo;repeat'(first|intro(g:Nat)|refine d32 ?_|intro v)
       exact QZ ms trivial (hG:=.cons (W.Has.QW (n:=p.v) (ms:=ms) (qf:=fsx p.a y i p.v) hmA λk hk=>fsx_next hk) haA)
     ·intro ms _;have hsz:Sq (p.m*(Ky+22)+1) (X.sm i λr=>y r*p.b r):=sum_sz hy (λr hr=>hz.b r hr) hi;repeat'(first|intro(g:Nat)|refine d32 ?_|intro v)
      all_goals
       refine cW (Zn.mul (my i) (Mp.mb i) (y i) (p.b i) (hyi.sm qo) ((hz.b i d).sm qo)) λn1=>?_;repeat'(first|intro(g:Nat)|refine d32 ?_|intro v)
      all_goals
       refine cW (Zn.add mr n1 (X.sm i λr=>y r*p.b r) (y i*p.b i) (hsz.sm qo) ((hyi.mul (hz.b i d)).sm qo)) λn2=>?_;repeat'(first|intro(g:Nat)|refine d32 ?_|intro v)
       exact Qq.mk (i+1,ms,n2) ⟨by simp only;omega,λr hr=>by
        by_cases e:r=i
        ·subst e;grind
        ·exact hok r (by simp only at hr;omega)⟩ (by simp only;omega) (hG:=.cons hmA (.cons (show W.Has _ (isQ (qv n2) ((X.sm i λr=>y r*p.b r)+y i*p.b i)) from hmA) haA))
   ·obtain rfl:i=p.m:=qo;repeat'(first|intro(g:Nat)|refine d32 ?_|intro v)
    exact QZ (ms,mr) hok
  ·rintro⟨ms,mr⟩ hok;repeat'(first|intro(g:Nat)|refine d32 ?_|intro v)
   refine WC.Xf (σ:=Unit) (λ_=>[(10,ptr g10)]) (λ_=>[Ow.cells g10 64 (qcs mr),Ow.slice sv 64 4 (Qe p.v ms)]) (λ_=>[isQ (qv mr) (X.sm p.m λr=>y r*p.b r),ge h0]) (λ_=>∀ k,k < p.v->(X.sm p.m λr=>y r*p.a r k)=0) ?_ ?_
   ·refine WC.lp (σ:=Nat) (λk=>[(100,.int .i64 (k:Int)),(99,.int .i64 (p.v:Int)),(98,sv),(10,ptr g10)]) (λ_=>[Ow.cells g10 64 (qcs mr),Ow.slice sv 64 4 (Qe p.v ms)]) (λ_=>[isQ (qv mr) (X.sm p.m λr=>y r*p.b r),ge h0,mF p.v ms (fsx p.a y p.m 0)]) (λk=>k<=p.v∧∀ j,j < k->(X.sm p.m λr=>y r*p.a r j)=0) (λk=>p.v - k) 0 ⟨Nat.zero_le _,λj h=>absurd h qo⟩ ?_;rintro k ⟨hk,hz0⟩;by_cases d:k < p.v
    ·have hq:fsx p.a y p.m 0 k=X.sm p.m λr=>y r*p.a r k:=by unfold fsx;rw[if_neg qo]
     refine WC.fact (isQ (qv (ms k)) (X.sm p.m λr=>y r*p.a r k)) (by rw[<-hq];exact W.Has.q (n:=p.v) (ms:=ms) (qf:=fsx p.a y p.m 0) hmA d) ?_;repeat'(first|intro(g:Nat)|refine d32 ?_|intro v)
     refine cV (Zn.sign (ms k) (X.sm p.m λr=>y r*p.a r k)) ?_;have hsg:=@QS (X.sm p.m λr=>y r*p.a r k);by_cases h0':(X.sm p.m λr=>y r*p.a r k)=0
     ·have hs1:=hsg.2 h0';repeat'(first|intro(g:Nat)|refine d32 ?_|intro v)
      refine Qq.mk (k+1) ⟨by omega,λj hj=>?_⟩ qo;by_cases e:j=k
      ·subst e;exact h0'
      ·exact hz0 j qo
     ·have hs1:¬sgn (X.sm p.m λr=>y r*p.a r k).num=0:=λh=>h0' (hsg.1 h);repeat'(first|intro(g:Nat)|refine d32 ?_|intro v)
      refine WC.ret ?_;exact Fp [] (Qv.t1 rfl rfl) .nil ⟨22,rfl,.inr rfl,⟨λh=>absurd h qd,λh=>absurd (h.2.2.1 k d) h0'⟩,rfl,rfl⟩
    ·obtain rfl:k=p.v:=qo;repeat'(first|intro(g:Nat)|refine d32 ?_|intro v)
     exact QZ () hz0
   ·rintro⟨⟩ hz0;repeat'(first|intro(g:Nat)|refine d32 ?_|intro v)
    refine cV (Zn.sign mr (X.sm p.m λr=>y r*p.b r)) ?_;have hsg:=@JB (X.sm p.m λr=>y r*p.b r);by_cases hn0:(X.sm p.m λr=>y r*p.b r) < 0
    ·have hs1:=hsg.2 hn0;repeat'(first|intro(g:Nat)|refine d32 ?_|intro v)
     refine WC.ret ?_;exact Fp [] (Qv.t1 rfl rfl) .nil ⟨0,rfl,.inl rfl,⟨λ_=>⟨rfl,hok,hz0,hn0⟩,λ_=>rfl⟩,rfl,rfl⟩
    ·have hs1:¬sgn (X.sm p.m λr=>y r*p.b r).num < 0:=λh=>hn0 (hsg.1 h);repeat'(first|intro(g:Nat)|refine d32 ?_|intro v)
     refine WC.ret ?_;exact Fp [] (Qv.t1 rfl rfl) .nil ⟨22,rfl,.inr rfl,⟨λh=>absurd h qd,λh=>absurd h.2.2.2 hn0⟩,rfl,rfl⟩
 ·repeat'(first|intro(g:Nat)|refine d32 ?_|intro v)
  refine WC.ret ?_;exact Fp [] (Qv.t1 rfl rfl) .nil ⟨22,rfl,.inr rfl,⟨λh=>absurd h qd,λh=>absurd h.1 hl⟩,rfl,rfl⟩
end Q
end K
end
end Go.Proofs.YtcpaopfdiahnnaaGreat
