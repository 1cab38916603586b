/- Lemmas for a law. Conditions: none. -/
import Derived.Test.YtcpaopfdiahnnaaGreatMv35
set_option linter.all false
set_option maxHeartbeats 32000000
set_option maxRecDepth 100000
namespace Go.Proofs.YtcpaopfdiahnnaaGreat
section
open W Go.RowKit
open Bl (Vc Bd Tc Sc)
def twL_sq (l:List Int) (i:Nat) (hi:i<=4):Sq 1 (Bl.twL l i).1∧Sq 1 (Bl.twL l i).2:=⟨(Bl.Xf l i).1.sq qd qd qo,(Bl.Xf l i).2.sq qd qd qo⟩
def X5 {F:List Fct} {m:QM} {a b:Rat} (h:W.Has F (isQ (qv m) a)) (e:a=b):W.Has F (isQ (qv m) b):=e ▸ h
def WC.cut4 {P:Program} {n:Nat} {e:Env} {bx:List Ow} {F:List Fct} {Q:Post} {x1 x2 x3 x4 y:Code} {σ:Type} (E:σ->Env) (B:σ->List Ow) (G:σ->List Fct) (I:σ->Prop)
  (h1:WC P n x1 e bx F (Xw (λe bx F=>WC P n x2 e bx F (Xw (λe bx F=>WC P n x3 e bx F (Xw (λe bx F=>WC P n x4 e bx F (Xw (λe' bx' F'=>∃ s,I s∧W.Sub (E s) e'∧(B s).Sublist bx'∧Qk F' (G s)) Q)) Q)) Q)) Q))
  (h2:∀ s,I s->WC P n y (E s) (B s) (G s) Q):WC P n (.seq x1 (.seq x2 (.seq x3 (.seq x4 y)))) e bx F Q:=
 WC.seq (h1.mono λex e b f h=>by
  cases ex <;> first|exact h|skip
  exact WC.seq (h.mono λex e b f h=>by
   cases ex <;> first|exact h|skip
   exact WC.seq (h.mono λex e b f h=>by
    cases ex <;> first|exact h|skip
    exact WC.cut E B G I h h2)))
def has_sInil {F:List Fct}:W.Has F (sI (.slice none 0 0) []):=λp _=>⟨none,0,rfl,Nat.le_refl _,by simp[maxLen],.inl ⟨rfl,rfl,rfl⟩⟩
namespace K
namespace Q
attribute [local irreducible] WC WL WD YO LO Qq W.Fin Qw Qy Qx Row QX Qv KnS Has W.One Ql QQ
def d54 {G G':Prop} (h:G') (s:Bx G'->G:=by
 intro h;first|refine gE ?_|refine goYL ?_|(apply WC.draw (id:=9) [0,1,2,3,4,6] (.h 0<|.h 1<|.h 2<|.h 3<|.h 4<|.m 5 (.h 6<|.m 7 (.m 8 (.l 9<|.l 10 .done) (.l 9<|.l 8<|.l 10 .done)) (.l 9<|.l 7<|.l 8<|.l 10 .done)) (.l 9<|.l 5<|.h 6<|.l 7<|.l 8<|.l 10 .done)) mixed kr)|(apply WC.draw (id:=10) [0,1,2,3,4,6] (.h 0<|.h 1<|.h 2<|.h 3<|.h 4<|.m 5 (.h 6<|.m 7 (.m 8 (.l 9<|.l 10 .done) (.l 9<|.l 8<|.l 10 .done)) (.l 9<|.l 7<|.l 8<|.l 10 .done)) (.l 9<|.l 5<|.h 6<|.l 7<|.l 8<|.l 10 .done)) mixed kr)|(apply WC.draw (id:=14) [0,1,2,3,7,8,9,11,12] (.h 0<|.h 1<|.h 2<|.h 3<|.h 7<|.h 8<|.h 9<|.h 12<|.l 4<|.l 5<|.l 6<|.l 10<|.h 11<|.l 13<|.l 14<|.l 15<|.f 16<|.l 17 .done) mixed kr)|(apply WC.draw (id:=22) [0,1,2,3,4,5,6,7,8] (.h 0<|.h 1<|.h 2<|.h 3<|.h 4<|.h 5<|.h 6<|.h 7<|.h 8<|.l 9<|.l 10<|.l 11<|.f 12<|.l 13 .done) mixed kr)|(apply WC.draw (id:=26) [0,1,2,4] (.h 0<|.h 1<|.h 2<|.m 3 (.h 4<|.l 5<|.l 6 .done) (.l 5<|.l 3<|.h 4<|.l 6 .done)) mixed kr)|(apply WC.draw (id:=27) [0,1,2,3,4,5,9,10] (.h 0<|.h 1<|.h 2<|.h 3<|.h 4<|.h 5<|.h 9<|.l 6<|.l 7<|.l 8<|.h 10<|.l 11<|.l 12<|.f 13<|.l 14 .done) mixed kr)|fail
 exact Bx.h h):G:=s ⟨h⟩
def tower_c (lv:Value) (l:List Int) (hl:∀ x∈l,I64 x):FnB Tryz.prog 54 [lv] [] [sI lv l] (IsScv (Bl.X3 l)):=by
 refine fO [(0,lv)] 129 Tryz.func54 Tryz.ntmps54 λh0=>?_;refine WC.Us lv l hmA λhlen=>?_;have h1:=QU (l:=l) (i:=1) (m:=8) qd;have h2:=QU (l:=l) (i:=2) (m:=4) qd;have h3:=QU (l:=l) (i:=3) (m:=5) qd;have h4:=QU (l:=l) (i:=4) (m:=3) qd;have hm:=Bl.VK l
 have hMany:[1,2,1,2,1,2,1,(3:Int)].getD (atP l 1 8).toNat 0=(Bl.Qa l:Int):=by
  unfold Bl.Qa;have:(atP l 1 8).toNat < 8:=qo;generalize (atP l 1 8).toNat=k at this;match k,this with|0,_=>rfl|1,_=>rfl|2,_=>rfl|3,_=>rfl|4,_=>rfl|5,_=>rfl|6,_=>rfl|7,_=>rfl
 obtain⟨k1,hk1⟩:∃ k:Nat,atP l 1 8=(k:Int):=⟨(atP l 1 8).toNat,by omega⟩
 have c1:=Zs lv l 1 8 hl qd;rw[hk1] at c1 hMany h1;have hr1:Sq 1 (Bl.twR l):=(Fr.of (D:=3) (A:=3) qd qo).sq qd qd qd;repeat'(first|intro(g:Nat)|refine d54 ?_|refine gN ?_ ?_|intro v)
 revert g;intro g3;revert g;intro g2;have hints:ints [1,2,1,2,1,2,1,3]=[.int .i64 1,.int .i64 2,.int .i64 1,.int .i64 2,.int .i64 1,.int .i64 2,.int .i64 1,.int .i64 3]:=rfl;rw[<-hints];refine cV (c1) ?_;refine WL.y (YO.Zd T.s22 rfl rfl (KnS.oI (el:=3) (l:=[1,2,1,2,1,2,1,3]) (by exact meA)) qo (by show(k1:Int) < 8;omega)) qr qr ?_;refine WL.y (YO.Zb T.sc3 (el:=3) (l:=[1,2,1,2,1,2,1,3]) rfl (by exact meA) (by show(k1:Int).toNat < 8;omega)) qr qr ?_;rw[hMany];obtain⟨N,hN⟩:∃ N,Bl.Qa l=N:=⟨_,rfl⟩
 rw[hN];rw[hN] at hm hMany;repeat'(first|intro(g:Nat)|refine gP ?_|intro v)
 refine cV (Zs lv l 2 4 hl qd) ?_;repeat'(first|intro(g:Nat)|refine gP ?_|intro v)
 refine cW (Zn.rof (atP l 2 4) 3 (Yk qo qo) qd) λmr=>?_;repeat'(first|intro(g:Nat)|refine gP ?_|intro v)
 revert g;intro g5;refine cW (Zn.rof 0 1 qd qd) λmlo=>?_;rw[di1];repeat'(first|intro(g:Nat)|refine gP ?_|intro v)
 revert g;intro g6;refine cV (Zs lv l 3 5 hl qd) ?_;repeat'(first|intro(g:Nat)|refine gP ?_|intro v)
 refine cW (Zn.rof (1+atP l 3 5) 1 (Yk qo qo) qd) λmhi=>?_;rw[di1];repeat'(first|intro(g:Nat)|refine gP ?_|intro v)
 revert g;intro g7;refine WC.keep (g:=g5) (t:=64) (cs:=qcs mr) (by repeat(first|exact Rem.head|apply Rem.tail)) ?_;refine WC.Jb 79 30 ?_;refine WC.Jb 88 20 ?_
 refine WC.Yu (σ:=Value×(Nat->BM)×Value×(Nat->ToM)×QM) (λst=>[(4,.int .i64 (N:Int)),(5,ptr g5),(6,ptr g6),(3,ptr g3),(0,lv),(2,ptr g2)]) (λst=>[lO Qt st.1 88 N st.2.1 (Bl.JA l),lO Qn st.2.2.1 79 (Bl.twT l N).1 st.2.2.2.1 (Bl.twT l N).2,Ow.cells g6 64 (qcs st.2.2.2.2),Ow.cells g3 26 [st.1,st.2.2.1],Ow.cells g2 26 [.slice none 0 0,.slice none 0 0]])
  (λst=>[lM Qt N st.2.1 (Bl.JA l),lM Qn (Bl.twT l N).1 st.2.2.2.1 (Bl.twT l N).2,isQ (qv st.2.2.2.2) (Bl.twL l N).1,isQ (qv mr) (Bl.twR l),ce g5 64 (qcs mr),ge h0,sI lv l]) (λ_=>True) ?_ ?_
 ·refine WC.lp (σ:=Nat×Value×(Nat->BM)×Value×(Nat->ToM)×QM×QM) (λst=>[(8,.int .i64 (st.1:Int)),(4,.int .i64 (N:Int)),(5,ptr g5),(6,ptr g6),(7,ptr g7),(3,ptr g3),(0,lv),(2,ptr g2)]) (λst=>[lO Qt st.2.1 88 st.1 st.2.2.1 (Bl.JA l),lO Qn st.2.2.2.1 79 (Bl.twT l st.1).1 st.2.2.2.2.1 (Bl.twT l st.1).2,Ow.cells g7 64 (qcs st.2.2.2.2.2.2),Ow.cells g6 64 (qcs st.2.2.2.2.2.1),Ow.cells g3 26 [st.2.1,st.2.2.2.1],Ow.cells g2 26 [.slice none 0 0,.slice none 0 0]])
   (λst=>[lM Qt st.1 st.2.2.1 (Bl.JA l),lM Qn (Bl.twT l st.1).1 st.2.2.2.2.1 (Bl.twT l st.1).2,isQ (qv st.2.2.2.2.2.1) (Bl.twL l st.1).1,isQ (qv st.2.2.2.2.2.2) (Bl.twL l st.1).2,isQ (qv mr) (Bl.twR l),ce g5 64 (qcs mr),ge h0,sI lv l]) (λst=>st.1<=N) (λst=>N - st.1) (0,.slice none 0 0,λ_=>⟨(m00,m00),m00,m00,m00⟩,.slice none 0 0,λ_=>⟨(m00,m00),(m00,m00),(m00,m00),m00⟩,mlo,mhi) (Nat.zero_le _) ?_ (hG:=.cons W.Has.mnil (.cons W.Has.mnil haA))
  rintro⟨i,bl,mB,tl,mT,mlo,mhi⟩ hi;simp only at hi ⊢;by_cases d:i < N
  ·have hi3:i<=2:=qo;have q8:=QU (l:=l) (i:=8+2*(i:Int)) (m:=7) qd;have q9:=QU (l:=l) (i:=9+2*(i:Int)) (m:=3) qd;obtain⟨sL,sH⟩:=twL_sq l i qo;obtain⟨sL',sH'⟩:=twL_sq l (i+1) qo;have c38:=Zs lv l (8+2*(i:Int)) 7 hl qd;have c40:=Zn.rof (atP l (8+2*(i:Int)) 7 - 2) 2 (Yk qo qo) qd;have c41:=λm=>Zn.radd mlo m (Bl.twL l i).1 (Rat.divInt (atP l (8+2*(i:Int)) 7 - 2) 2) (sL.sm qd) (((Fr.of (D:=2) (A:=4) qd qo).sq qd qd qd).sm qd);repeat'(first|intro(g:Nat)|refine gP ?_|intro v)
   refine WC.Zh (σ:=Nat×QM) (λst=>[(9,ptr st.1),(8,.int .i64 (i:Int)),(4,.int .i64 (N:Int)),(5,ptr g5),(6,ptr g6),(7,ptr g7),(3,ptr g3),(0,lv),(2,ptr g2)]) (λst=>[Ow.cells st.1 64 (qcs st.2),lO Qt bl 88 i mB (Bl.JA l),lO Qn tl 79 (Bl.twT l i).1 mT (Bl.twT l i).2,Ow.cells g7 64 (qcs mhi),Ow.cells g6 64 (qcs mlo),Ow.cells g3 26 [bl,tl],Ow.cells g2 26 [.slice none 0 0,.slice none 0 0]])
    (λst=>[isQ (qv st.2) (Bl.twL l (i+1)).1,lM Qt i mB (Bl.JA l),lM Qn (Bl.twT l i).1 mT (Bl.twT l i).2,isQ (qv mlo) (Bl.twL l i).1,isQ (qv mhi) (Bl.twL l i).2,isQ (qv mr) (Bl.twR l),ce g5 64 (qcs mr),ge h0,sI lv l]) (λ_=>True) ?_ ?_
   ·repeat'(first|intro(g:Nat)|refine d54 ?_|refine gN ?_ ?_|refine cU (c38) ?_|refine cW (c40) λzm=>?_|refine cW (c41 _) λzm=>?_|intro v)
    all_goals(apply Ex2;refine⟨trivial,?_,?_,?_⟩;(focus(repeat(first|exact Sub.nil _|refine Sub.cons rfl ?_)));(focus(repeat(first|exact Jt.nil _|(apply Jt.cons;(repeat(first|exact Rem.head|apply Rem.tail))))));(focus(repeat(first|exact Qk.nil|(apply Qk.cons;exact hsA)))))
   rintro⟨g9,mx⟩ _;simp only;have c47:=Zs lv l (9+2*(i:Int)) 3 hl qd;have c49:=Zn.rof (2+atP l (9+2*(i:Int)) 3) 1 (Yk qo qo) qd;rw[di1] at c49;have c50:=λm=>Zn.radd mx m (Bl.twL l (i+1)).1 ((2+atP l (9+2*(i:Int)) 3:Int):Rat) (sL'.sm qd) (((Fr.int (A:=4) (2+atP l (9+2*(i:Int)) 3) qo).sq qd qd qd).sm qd);repeat'(first|intro(g:Nat)|refine gP ?_|intro v)
   refine WC.Zh (σ:=Nat×QM) (λst=>[(10,ptr st.1),(9,ptr g9),(8,.int .i64 (i:Int)),(4,.int .i64 (N:Int)),(5,ptr g5),(6,ptr g6),(7,ptr g7),(3,ptr g3),(0,lv),(2,ptr g2)]) (λst=>[Ow.cells st.1 64 (qcs st.2),Ow.cells g9 64 (qcs mx),lO Qt bl 88 i mB (Bl.JA l),lO Qn tl 79 (Bl.twT l i).1 mT (Bl.twT l i).2,Ow.cells g7 64 (qcs mhi),Ow.cells g6 64 (qcs mlo),Ow.cells g3 26 [bl,tl],Ow.cells g2 26 [.slice none 0 0,.slice none 0 0]])
    (λst=>[isQ (qv st.2) (Bl.twL l (i+1)).2,isQ (qv mx) (Bl.twL l (i+1)).1,lM Qt i mB (Bl.JA l),lM Qn (Bl.twT l i).1 mT (Bl.twT l i).2,isQ (qv mlo) (Bl.twL l i).1,isQ (qv mhi) (Bl.twL l i).2,isQ (qv mr) (Bl.twR l),ce g5 64 (qcs mr),ge h0,sI lv l]) (λ_=>True) ?_ ?_
   ·repeat'(first|intro(g:Nat)|refine d54 ?_|refine gN ?_ ?_|refine cU (c47) ?_|refine cW (c49) λzm=>?_|refine cW (c50 _) λzm=>?_|intro v)
    all_goals(apply Ex2;refine⟨trivial,?_,?_,?_⟩;(focus(repeat(first|exact Sub.nil _|refine Sub.cons rfl ?_)));(focus(repeat(first|exact Jt.nil _|(apply Jt.cons;(repeat(first|exact Rem.head|apply Rem.tail))))));(focus(repeat(first|exact Qk.nil|(apply Qk.cons;exact hsA)))))
   rintro⟨g10,my⟩ _;simp only;refine WC.cut (σ:=Unit) (λ_=>[(11,.slice none 0 0),(10,ptr g10),(9,ptr g9),(8,.int .i64 (i:Int)),(4,.int .i64 (N:Int)),(5,ptr g5),(6,ptr g6),(7,ptr g7),(3,ptr g3),(0,lv),(2,ptr g2)]) (λ_=>[Ow.cells g10 64 (qcs my),Ow.cells g9 64 (qcs mx),lO Qt bl 88 i mB (Bl.JA l),lO Qn tl 79 (Bl.twT l i).1 mT (Bl.twT l i).2,Ow.cells g7 64 (qcs mhi),Ow.cells g6 64 (qcs mlo),Ow.cells g3 26 [bl,tl],Ow.cells g2 26 [.slice none 0 0,.slice none 0 0]]) (λ_=>[isQ (qv my) (Bl.twL l (i+1)).2,isQ (qv mx) (Bl.twL l (i+1)).1,lM Qt i mB (Bl.JA l),lM Qn (Bl.twT l i).1 mT (Bl.twT l i).2,isQ (qv mlo) (Bl.twL l i).1,isQ (qv mhi) (Bl.twL l i).2,isQ (qv mr) (Bl.twR l),ce g5 64 (qcs mr),ge h0,sI lv l]) (λ_=>True) ?_ ?_
   ·repeat'(first|intro(g:Nat)|refine gP ?_|intro v)
    exact QY () trivial
   rintro⟨⟩ _;refine WC.cut (σ:=Value) (λpv=>[(11,pv),(10,ptr g10),(9,ptr g9),(8,.int .i64 (i:Int)),(4,.int .i64 (N:Int)),(5,ptr g5),(6,ptr g6),(7,ptr g7),(3,ptr g3),(0,lv),(2,ptr g2)]) (λ_=>[Ow.cells g10 64 (qcs my),Ow.cells g9 64 (qcs mx),lO Qt bl 88 i mB (Bl.JA l),lO Qn tl 79 (Bl.twT l i).1 mT (Bl.twT l i).2,Ow.cells g7 64 (qcs mhi),Ow.cells g6 64 (qcs mlo),Ow.cells g3 26 [bl,tl],Ow.cells g2 26 [.slice none 0 0,.slice none 0 0]]) (λpv=>[sI pv (l.drop i),isQ (qv my) (Bl.twL l (i+1)).2,isQ (qv mx) (Bl.twL l (i+1)).1,lM Qt i mB (Bl.JA l),lM Qn (Bl.twT l i).1 mT (Bl.twT l i).2,isQ (qv mlo) (Bl.twL l i).1,isQ (qv mhi) (Bl.twL l i).2,isQ (qv mr) (Bl.twR l),ce g5 64 (qcs mr),ge h0,sI lv l]) (λ_=>True) ?_ ?_
   ·by_cases hil:i < l.length
    ·repeat'(first|intro(g:Nat)|refine gP ?_|intro v)
     refine QY _ trivial (hG:=.cons (Has.dropI (v:=lv) (l:=l) (lo:=i) hmA qo) haA)
    ·repeat'(first|intro(g:Nat)|refine gP ?_|intro v)
     refine QY _ trivial (hG:=.cons (by rw[List.drop_eq_nil_of_le qo];exact has_sInil) haA)
   intro pv _;have hl2:∀ x∈l.drop i,I64 x:=λx hx=>hl x (List.mem_of_mem_drop hx);have f1:=Bl.Xf l (i+1);have sS:Sq 1 ((Bl.twL l (i+1)).1+(Bl.twL l (i+1)).2):=(f1.1.add f1.2).sq qd qd qo;repeat'(first|intro(g:Nat)|refine gP ?_|intro v)
   refine WC.cutT (σ:=Value×BM) (λst=>[(10,ptr g10),(9,ptr g9),(8,.int .i64 (i:Int)),(4,.int .i64 (N:Int)),(5,ptr g5),(6,ptr g6),(7,ptr g7),(3,ptr g3),(0,lv),(2,ptr g2)]) (λst=>[Ow.cells g10 64 (qcs my),Ow.cells g9 64 (qcs mx),lO Qt st.1 88 (i+1) (upd mB i st.2) (Bl.JA l),lO Qn tl 79 (Bl.twT l i).1 mT (Bl.twT l i).2,Ow.cells g7 64 (qcs mhi),Ow.cells g6 64 (qcs mlo),Ow.cells g3 26 [st.1,tl],Ow.cells g2 26 [.slice none 0 0,.slice none 0 0]]) (λst=>[isQ (qv my) (Bl.twL l (i+1)).2,isQ (qv mx) (Bl.twL l (i+1)).1,lM Qt (i+1) (upd mB i st.2) (Bl.JA l),lM Qn (Bl.twT l i).1 mT (Bl.twT l i).2,isQ (qv mlo) (Bl.twL l i).1,isQ (qv mhi) (Bl.twL l i).2,isQ (qv mr) (Bl.twR l),ce g5 64 (qcs mr),ge h0,sI lv l]) (λ_=>True) ?_ ?_
   ·repeat'(first|intro(g:Nat)|refine d54 ?_|refine gN ?_ ?_|intro v)
    refine cW (Zn.radd mx my (Bl.twL l (i+1)).1 (Bl.twL l (i+1)).2 (sL'.sm qd) (sH'.sm qd)) λn62=>?_;repeat'(first|intro(g:Nat)|refine d54 ?_|refine gN ?_ ?_|intro v)
    refine cW (Zn.rof 1 2 qd qd) λn63=>?_;repeat'(first|intro(g:Nat)|refine d54 ?_|refine gN ?_ ?_|intro v)
    refine cW (Zn.rmul n62 n63 ((Bl.twL l (i+1)).1+(Bl.twL l (i+1)).2) (Rat.divInt 1 2) (sS.sm qd) (((Fr.of (D:=2) (A:=1) qd qd).sq qd qd qd).sm qd)) λn64=>?_;repeat'(first|intro(g:Nat)|refine d54 ?_|refine gN ?_ ?_|intro v)
    refine cW (Zn.rof (2*(i:Int)+1) 2 (Yk qo qo) qd) λn68=>?_;refine WD.fact (fV (n64,n68) (Bl.twC l i)) (W.Has.vof (m:=(n64,n68)) (a:=Bl.twC l i) hmA hmA) ?_;repeat'(first|intro(g:Nat)|refine d54 ?_|refine gN ?_ ?_|intro v)
    refine cW (plain_c (n64,n68) (Bl.twC l i) pv (l.drop i) hl2) λm71=>?_;refine WD.fact (fB m71 (Bl.JA l i)) hmA ?_;repeat'(first|intro(g:Nat)|refine d54 ?_|refine gN ?_ ?_|intro v)
    revert v;intro v72;refine WD.l rfl rfl rfl (LO.appBd (bm:=m71) (n:=i) (ms:=mB) (xs:=Bl.JA l) rfl rfl meA hmA (λv'=>by repeat(first|exact Sel.head|apply Sel.tail)) qo λbl2=>?_);refine⟨.inl kr,?_⟩;refine WD.fy rfl (YO.Yz T.Ve rfl qr) qr qr ?_;repeat'(first|intro(g:Nat)|refine d54 ?_|refine gN ?_ ?_|intro v)
    exact QY (bl2,m71) trivial (hG:=.cons hmA (.cons hmA (.cons (W.Has.X8 (S:=Qt) (n:=i) (ms:=mB) (xs:=Bl.JA l) (mm:=m71) hmA hmA) haA)))
   rintro⟨bl2,m71⟩ _;simp only;have cA:=Zn.rcmp mx mlo (Bl.twL l (i+1)).1 (Bl.twL l i).1 (sL'.sm qd) (sL.sm qd);have cB:=Zn.rcmp my mhi (Bl.twL l (i+1)).2 (Bl.twL l i).2 (sH'.sm qd) (sH.sm qd);refine WC.cut4 (σ:=Nat×Nat×QM×QM) (λst=>[(13,ptr st.2.1),(12,ptr st.1),(10,ptr g10),(9,ptr g9),(8,.int .i64 (i:Int)),(4,.int .i64 (N:Int)),(5,ptr g5),(6,ptr g6),(7,ptr g7),(3,ptr g3),(0,lv),(2,ptr g2)]) (λst=>[Ow.cells st.2.1 64 (qcs st.2.2.2),Ow.cells st.1 64 (qcs st.2.2.1),Ow.cells g10 64 (qcs my),Ow.cells g9 64 (qcs mx),lO Qt bl2 88 (i+1) (upd mB i m71) (Bl.JA l),lO Qn tl 79 (Bl.twT l i).1 mT (Bl.twT l i).2,Ow.cells g7 64 (qcs mhi),Ow.cells g6 64 (qcs mlo),Ow.cells g3 26 [bl2,tl],Ow.cells g2 26 [.slice none 0 0,.slice none 0 0]]) (λst=>[isQ (qv st.2.2.1) (Bl.twA l i),isQ (qv st.2.2.2) (Bl.twB l i),isQ (qv my) (Bl.twL l (i+1)).2,isQ (qv mx) (Bl.twL l (i+1)).1,lM Qt (i+1) (upd mB i m71) (Bl.JA l),lM Qn (Bl.twT l i).1 mT (Bl.twT l i).2,isQ (qv mlo) (Bl.twL l i).1,isQ (qv mhi) (Bl.twL l i).2,isQ (qv mr) (Bl.twR l),ce g5 64 (qcs mr),ge h0,sI lv l]) (λ_=>True) ?_ ?_
   ·repeat'(first|intro(g:Nat)|refine d54 ?_|refine gN ?_ ?_|intro v)
    refine cV (cA) ?_;by_cases ha:(Bl.twL l (i+1)).1 < (Bl.twL l i).1
    ·have ha2:=VN.2 ha;repeat'(first|intro(g:Nat)|refine d54 ?_|refine gN ?_ ?_|intro v)
     refine cV (cB) ?_;by_cases hb:(Bl.twL l i).2 < (Bl.twL l (i+1)).2
     ·have hb2:=JB.2 hb;repeat'(first|intro(g:Nat)|refine d54 ?_|refine gN ?_ ?_|intro v)
      refine QY (_,_,mlo,mhi) trivial (hG:=.cons (X5 (a:=(Bl.twL l i).1) hmA (by unfold Bl.twA;rw[if_pos ha])) (.cons (X5 (a:=(Bl.twL l i).2) hmA (by unfold Bl.twB;rw[if_pos hb])) haA))
     ·have hb2:¬0 < XQ (Bl.twL l (i+1)).2 (Bl.twL l i).2:=λh=>hb (JB.1 h);repeat'(first|intro(g:Nat)|refine d54 ?_|refine gN ?_ ?_|intro v)
      refine QY (_,_,mlo,my) trivial (hG:=.cons (X5 (a:=(Bl.twL l i).1) hmA (by unfold Bl.twA;rw[if_pos ha])) (.cons (X5 (a:=(Bl.twL l (i+1)).2) hmA (by unfold Bl.twB;rw[if_neg hb])) haA))
    ·have ha2:¬XQ (Bl.twL l (i+1)).1 (Bl.twL l i).1 < 0:=λh=>ha (VN.1 h);repeat'(first|intro(g:Nat)|refine d54 ?_|refine gN ?_ ?_|intro v)
     refine cV (cB) ?_;by_cases hb:(Bl.twL l i).2 < (Bl.twL l (i+1)).2
     ·have hb2:=JB.2 hb;repeat'(first|intro(g:Nat)|refine d54 ?_|refine gN ?_ ?_|intro v)
      refine QY (_,_,mx,mhi) trivial (hG:=.cons (X5 (a:=(Bl.twL l (i+1)).1) hmA (by unfold Bl.twA;rw[if_neg ha])) (.cons (X5 (a:=(Bl.twL l i).2) hmA (by unfold Bl.twB;rw[if_pos hb])) haA))
     ·have hb2:¬0 < XQ (Bl.twL l (i+1)).2 (Bl.twL l i).2:=λh=>hb (JB.1 h);repeat'(first|intro(g:Nat)|refine d54 ?_|refine gN ?_ ?_|intro v)
      refine QY (_,_,mx,my) trivial (hG:=.cons (X5 (a:=(Bl.twL l (i+1)).1) hmA (by unfold Bl.twA;rw[if_neg ha])) (.cons (X5 (a:=(Bl.twL l (i+1)).2) hmA (by unfold Bl.twB;rw[if_neg hb])) haA))
   rintro⟨g12,g13,mA,mB2⟩ _;simp only
   have hA:Fr 2 40 (Bl.twA l i):=by
    unfold Bl.twA;split
    ·exact(Bl.Xf l i).1.up qo
    ·exact(Bl.Xf l (i+1)).1.up qo
   have hB:Fr 2 40 (Bl.twB l i):=by
    unfold Bl.twB;split
    ·exact(Bl.Xf l i).2.up qo
    ·exact(Bl.Xf l (i+1)).2.up qo
   have sA:=hA.sq qd qd qd;have sB:=hB.sq qd qd qd;repeat'(first|intro(g:Nat)|refine d54 ?_|refine gN ?_ ?_|intro v)
   refine cV (Zn.rcmp mA mB2 (Bl.twA l i) (Bl.twB l i) (sA.sm qd) (sB.sm qd)) ?_;by_cases hab:Bl.twA l i<=Bl.twB l i
   ·have hab2:XQ (Bl.twA l i) (Bl.twB l i)<=0:=by
     have:=@JB (Bl.twA l i) (Bl.twB l i);by_cases c:0 < XQ (Bl.twA l i) (Bl.twB l i)
     ·have:=this.1 c;grind
     ·omega
    repeat'(first|intro(g:Nat)|refine d54 ?_|refine gN ?_ ?_|intro v)
    refine cW (flat_c (i:Int) ((i:Int) - 1) (i:Int) mA mB2 mr (Bl.twA l i) (Bl.twB l i) (Bl.twR l) (Yk qo qo)) λtm=>?_;repeat'(first|intro(g:Nat)|refine d54 ?_|refine gN ?_ ?_|intro v)
    revert v;intro v101;refine WD.l rfl rfl rfl (LO.appTu (tm:=tm) (tc:=Bl.tcF (i:Int) ((i:Int) - 1) (Bl.twA l i) (Bl.twB l i) (i:Int) (Bl.twR l)) (n:=(Bl.twT l i).1) (ms:=mT) (xs:=(Bl.twT l i).2) rfl rfl meA hmA (λv'=>by repeat(first|exact Sel.head|apply Sel.tail)) (by have:=(Bl.HZ l i qo).1;omega) λtl2=>?_);refine⟨.inl kr,?_⟩;refine WD.fy rfl (YO.Yz T.Ub rfl qr) qr qr ?_;repeat'(first|intro(g:Nat)|refine d54 ?_|refine gN ?_ ?_|intro v)
    have eT:Bl.twT l (i+1)=((Bl.twT l i).1+1,upd (Bl.twT l i).2 (Bl.twT l i).1 (Bl.tcF (i:Int) ((i:Int) - 1) (Bl.twA l i) (Bl.twB l i) (i:Int) (Bl.twR l))):=by
     show(if _ then _ else _)=_;rw[if_pos hab]
    have eT1:(Bl.twT l i).1+1=(Bl.twT l (i+1)).1:=by rw[eT]
    have eT2:upd (Bl.twT l i).2 (Bl.twT l i).1 (Bl.tcF (i:Int) ((i:Int) - 1) (Bl.twA l i) (Bl.twB l i) (i:Int) (Bl.twR l))=(Bl.twT l (i+1)).2:=by rw[eT]
    rw[eT1,eT2];exact Qq.mk (i+1,bl2,upd mB i m71,tl2,upd mT (Bl.twT l i).1 tm,mx,my) (by simp only;omega) (by simp only;omega) (hG:=.cons hmA (.cons (by simp only;rw[<-eT1,<-eT2];exact W.Has.mapp (S:=Qn) (n:=(Bl.twT l i).1) (ms:=mT) (xs:=(Bl.twT l i).2) (mm:=tm) (aa:=Bl.tcF (i:Int) ((i:Int) - 1) (Bl.twA l i) (Bl.twB l i) (i:Int) (Bl.twR l)) hmA hmA) haA))
   ·have hab2:¬XQ (Bl.twA l i) (Bl.twB l i)<=0:=by
     have:=(@JB (Bl.twA l i) (Bl.twB l i)).2 (by grind);omega
    repeat'(first|intro(g:Nat)|refine d54 ?_|refine gN ?_ ?_|intro v)
    have eT:Bl.twT l i=Bl.twT l (i+1):=by
     show _=(if _ then _ else _);rw[if_neg hab]
    rw[eT];exact Qq.mk (i+1,bl2,upd mB i m71,tl,mT,mx,my) (by simp only;omega) (by simp only;omega)
  ·obtain rfl:i=N:=qo;repeat'(first|intro(g:Nat)|refine d54 ?_|refine gN ?_ ?_|intro v)
   exact QY (bl,mB,tl,mT,mlo) trivial
 ·rintro⟨bl,mB,tl,mT,mlo⟩ _;simp only;obtain⟨sL,sH⟩:=twL_sq l N qo;have hmT:=(Bl.HZ l N qo).1;repeat'(first|intro(g:Nat)|refine d54 ?_|refine gN ?_ ?_|intro v)
  refine cV (Zs lv l 4 3 hl qd) ?_;by_cases h:atP l 4 3=0
  ·have c112:=Zn.rof ((N:Int) - 1) 1 (Yk qo qo) qd;rw[di1] at c112;repeat'(first|intro(g:Nat)|refine gP ?_|intro v)
   refine WC.Zh (σ:=Nat×QM) (λst=>[(14,ptr st.1),(4,.int .i64 (N:Int)),(5,ptr g5),(3,ptr g3),(2,ptr g2)]) (λst=>[Ow.cells st.1 75 (vcs (mlo,st.2)),lO Qt bl 88 N mB (Bl.JA l),lO Qn tl 79 (Bl.twT l N).1 mT (Bl.twT l N).2,Ow.cells g3 26 [bl,tl],Ow.cells g2 26 [.slice none 0 0,.slice none 0 0]])
    (λst=>[isQ (qv st.2) ((((N:Int) - 1:Int)):Rat),lM Qt N mB (Bl.JA l),lM Qn (Bl.twT l N).1 mT (Bl.twT l N).2,isQ (qv mlo) (Bl.twL l N).1,isQ (qv mr) (Bl.twR l),ce g5 64 (qcs mr),ge h0]) (λ_=>True) ?_ ?_
   ·repeat'(first|intro(g:Nat)|refine d54 ?_|refine gN ?_ ?_|refine cW (c112) λzm=>?_|intro v)
    all_goals(apply Ex2;refine⟨trivial,?_,?_,?_⟩;(focus(repeat(first|exact Sub.nil _|refine Sub.cons rfl ?_)));(focus(repeat(first|exact Jt.nil _|(apply Jt.cons;(repeat(first|exact Rem.head|apply Rem.tail))))));(focus(repeat(first|exact Qk.nil|(apply Qk.cons;exact hsA)))))
   rintro⟨g14,mh⟩ _;simp only;refine WC.fact (fV (mlo,mh) (Bl.twW l N).p) (W.Has.vof (m:=(mlo,mh)) (a:=(Bl.twW l N).p) hmA hmA) ?_;have sN:Sq 1 ((((N:Int) - 1:Int)):Rat):=(Fr.int (A:=3) _ qo).sq qd qd qd;repeat'(first|intro(g:Nat)|refine d54 ?_|refine gN ?_ ?_|intro v)
   refine cW (Yb 0 1 qd qd) λm120=>?_;repeat'(first|intro(g:Nat)|refine d54 ?_|refine gN ?_ ?_|intro v)
   refine cW (Yp (mlo,mh) m120 (Bl.twW l N).p ⟨((0:Int):Rat),((1:Int):Rat)⟩ 1 qd ⟨sL,sN⟩ (Kr qd qd qd)) λm121=>?_;repeat'(first|intro(g:Nat)|refine d54 ?_|refine gN ?_ ?_|intro v)
   refine cW (Yb 1 0 qd qd) λm122=>?_;refine WD.fact (fT ⟨(mlo,mh),m121,m122,mr⟩ (Bl.twW l N)) (W.Has.tof (tm:=⟨(mlo,mh),m121,m122,mr⟩) (t:=Bl.twW l N) hmA hmA hmA hmA) ?_;repeat'(first|intro(g:Nat)|refine d54 ?_|refine gN ?_ ?_|intro v)
   refine WD.y rfl (HY (v1:=(mlo,mh)) (v2:=m121) (v3:=m122) (n1:=mr) rfl rfl rfl rfl rfl rfl) qr qr ?_;repeat'(first|intro(g:Nat)|refine d54 ?_|refine gN ?_ ?_|intro v)
   revert v;intro v125;refine WD.l rfl rfl rfl (LO.appTu (tm:=⟨(mlo,mh),m121,m122,mr⟩) (tc:=Bl.twW l N) (n:=(Bl.twT l N).1) (ms:=mT) (xs:=(Bl.twT l N).2) rfl rfl meA hmA (λv'=>by repeat(first|exact Sel.head|apply Sel.tail)) qo λtl2=>?_);refine⟨.inl kr,?_⟩;refine WD.fy rfl (YO.Yz T.Ub rfl qr) qr qr ?_;repeat(refine goD ?_)
   have eS:Bl.X3 l=⟨N,(Bl.twT l N).1+1,Bl.JA l,upd (Bl.twT l N).2 (Bl.twT l N).1 (Bl.twW l N)⟩:=by unfold Bl.X3;rw[if_pos h,hN]
   refine WC.fact (lM Qn ((Bl.twT l N).1+1) (upd mT (Bl.twT l N).1 ⟨(mlo,mh),m121,m122,mr⟩) (upd (Bl.twT l N).2 (Bl.twT l N).1 (Bl.twW l N))) (W.Has.mapp (S:=Qn) (n:=(Bl.twT l N).1) (ms:=mT) (xs:=(Bl.twT l N).2) (mm:=⟨(mlo,mh),m121,m122,mr⟩) (aa:=Bl.twW l N) hmA hmA) ?_;refine WC.QA (S:=Qt) (v:=bl) (n:=N) (ms:=mB) (xs:=Bl.JA l) (by repeat(first|exact Sel.head|apply Sel.tail)) hmA ?_;refine WC.QA (S:=Qn) (v:=tl2) (n:=(Bl.twT l N).1+1) (ms:=upd mT (Bl.twT l N).1 ⟨(mlo,mh),m121,m122,mr⟩) (xs:=upd (Bl.twT l N).2 (Bl.twT l N).1 (Bl.twW l N)) (by repeat(first|exact Sel.head|apply Sel.tail)) hmA ?_;repeat'(first|intro(g:Nat)|refine d54 ?_|refine gN ?_ ?_|intro v)
   refine WC.ret ?_;exact Fp [lF Qt bl N mB (Bl.JA l),lF Qn tl2 ((Bl.twT l N).1+1) (upd mT (Bl.twT l N).1 ⟨(mlo,mh),m121,m122,mr⟩) (upd (Bl.twT l N).2 (Bl.twT l N).1 (Bl.twW l N))] (rcV T.r26) haA ⟨⟨bl,tl2,mB,upd mT (Bl.twT l N).1 ⟨(mlo,mh),m121,m122,mr⟩⟩,rfl,rfl,by rw[eS]⟩
  ·repeat'(first|intro(g:Nat)|refine gP ?_|intro v)
   have eS:Bl.X3 l=⟨N,(Bl.twT l N).1,Bl.JA l,(Bl.twT l N).2⟩:=by unfold Bl.X3;rw[if_neg h,hN]
   refine WC.QA (S:=Qt) (v:=bl) (n:=N) (ms:=mB) (xs:=Bl.JA l) (by repeat(first|exact Sel.head|apply Sel.tail)) hmA ?_;refine WC.QA (S:=Qn) (v:=tl) (n:=(Bl.twT l N).1) (ms:=mT) (xs:=(Bl.twT l N).2) (by repeat(first|exact Sel.head|apply Sel.tail)) hmA ?_;repeat'(first|intro(g:Nat)|refine d54 ?_|refine gN ?_ ?_|intro v)
   refine WC.ret ?_;exact Fp [lF Qt bl N mB (Bl.JA l),lF Qn tl ((Bl.twT l N).1) (mT) ((Bl.twT l N).2)] (rcV T.r26) haA ⟨⟨bl,tl,mB,mT⟩,rfl,rfl,by rw[eS]⟩
end Q
end K
end
section
open W Go.RowKit
open Bl (Vc Bd Tc Sc)
def mir_sq {s:Rat} (hs:s=1∨s= -1) {a:Vc} {K:Nat} (h:Sv K a):Sv K (Bl.mir s a):=by
 unfold Bl.mir;rcases hs with rfl|rfl
 ·exact⟨by show Sq K (1*a.x);rw[Rat.one_mul];exact h.1,h.2⟩
 ·exact⟨by show Sq K (-1*a.x);rw[show -1*a.x= -a.x by grind];exact h.1.neg,h.2⟩
namespace K
namespace Q
attribute [local irreducible] WC WL WD YO LO Qq W.Fin Qw Qy Qx Row QX Qv KnS Has W.One Ql QQ
def d35 {G G':Prop} (h:G') (s:Bx G'->G:=by
 intro h;first|refine gF ?_|refine goYL ?_|(apply WC.draw (id:=6) [0,1,2,3,4,6,8,9,10,12,13,14,16,17,18,20] (.h 0<|.h 1<|.h 2<|.h 3<|.h 4<|.h 6<|.h 8<|.h 9<|.h 10<|.h 12<|.h 13<|.h 14<|.h 16<|.h 17<|.h 18<|.l 5<|.l 7<|.l 11<|.l 15<|.l 19<|.h 20<|.l 21<|.l 22<|.f 23<|.l 24 .done) mixed kr)|(apply WC.draw (id:=11) [0,1,2,3,4,5,6,7,8,10,12,13,14,16,18,19,20,22,23,24] (.h 0<|.h 1<|.h 2<|.h 3<|.h 4<|.h 5<|.h 6<|.h 7<|.h 8<|.h 10<|.h 12<|.h 13<|.h 14<|.h 16<|.h 18<|.h 19<|.h 20<|.h 22<|.h 23<|.l 9<|.l 11<|.l 15<|.l 17<|.l 21<|.h 24<|.l 25<|.l 26<|.f 27<|.l 28 .done) mixed kr)|fail
 exact Bx.h h):G:=s ⟨h⟩
def some_c (lv:Value) (l:List Int) (hl:∀ x∈l,I64 x):FnB Tryz.prog 11 [lv] [] [sI lv l] (IsScv (Bl.UA l)):=by
 refine fO [(0,lv)] 10 Tryz.func11 Tryz.ntmps11 λh0=>?_;repeat'(first|intro(g:Nat)|refine gP ?_|intro v)
 refine cV (Zs lv l 0 4 hl qd) ?_;unfold Bl.UA;by_cases h:atP l 0 4=0
 ·rw[if_pos h];repeat'(first|intro(g:Nat)|refine gP ?_|intro v)
  refine cW (slope_c lv l hl) λM=>?_;repeat'(first|intro(g:Nat)|refine gP ?_|intro v)
  refine WC.ret ?_;exact Fp [fSl M (Bl.Kc l),fSt M (Bl.Kc l)] (rcV T.r26) haA ⟨M,rfl,rfl,rfl⟩
 ·rw[if_neg h];repeat'(first|intro(g:Nat)|refine gP ?_|intro v)
  refine cW (tower_c lv l hl) λM=>?_;repeat'(first|intro(g:Nat)|refine gP ?_|intro v)
  refine WC.ret ?_;exact Fp [fSl M (Bl.X3 l),fSt M (Bl.X3 l)] (rcV T.r26) haA ⟨M,rfl,rfl,rfl⟩
def mirrored_c (M:SM) (S:Sc) (b:Bool) (mb:VM) (mk:QM) (by_:Vc) (k:Rat) (hs:Ss 1 S) (ho:S.ok) (hb:Sv 1 by_) (hk:Sq 1 k) :
  FnB Tryz.prog 35 [.agg #[M.l,M.t],.bool b,vv mb,qv mk] [] [fSl M S,fSt M S,fV mb by_,isQ (qv mk) k] (IsScv (Bl.mvS (if b=true then -1 else 1) k by_ S)):=by
 refine fO [(0,(.agg #[M.l,M.t])),(1,(.bool b)),(2,(vv mb)),(3,(qv mk))] 91 Tryz.func35 Tryz.ntmps35 λh0=>?_;have hn:=ho.n;have hm:=ho.m;have htn:=λm a=>turned_c m a b;have hs1:(if b=true then(-1:Rat) else 1)=1∨(if b=true then(-1:Rat) else 1)= -1:=by cases b;exact .inl rfl;exact .inr rfl
 generalize (if b=true then(-1:Rat) else 1)=s at *;repeat'(first|intro(g:Nat)|refine d35 ?_|intro v)
 revert g;intro g9;revert g;intro g8;revert g;intro g7;revert g;intro g6;revert g;intro g4;refine WC.keep (g:=g4) (t:=26) (cs:=[M.l,M.t]) (by repeat(first|exact Rem.head|apply Rem.tail)) ?_;refine WC.keep (g:=g6) (t:=75) (cs:=vcs mb) (by repeat(first|exact Rem.head|apply Rem.tail)) ?_;refine WC.keep (g:=g7) (t:=64) (cs:=qcs mk) (by repeat(first|exact Rem.head|apply Rem.tail)) ?_;refine WC.Jb 88 20 ?_;refine WC.Yu (σ:=Value×(Nat->BM)) (λst=>[(4,ptr g4),(6,ptr g6),(7,ptr g7),(9,ptr g9),(8,ptr g8),(1,.bool b)]) (λst=>[lO Qt st.1 88 S.n st.2 (λi=>Bl.mvB s k by_ (S.B i)),Ow.cells g9 26 [st.1,.slice none 0 0],Ow.cells g8 26 [.slice none 0 0,.slice none 0 0]]) (λst=>[lM Qt S.n st.2 (λi=>Bl.mvB s k by_ (S.B i)),ce g4 26 [M.l,M.t],ce g6 75 (vcs mb),ce g7 64 (qcs mk),fV mb by_,isQ (qv mk) k,ge h0,fSl M S,fSt M S]) (λ_=>True) ?_ ?_
 ·refine WC.lp (σ:=Nat×Value×(Nat->BM)) (λst=>[(10,.int .i64 (st.1:Int)),(4,ptr g4),(6,ptr g6),(7,ptr g7),(9,ptr g9),(8,ptr g8),(1,.bool b)]) (λst=>[lO Qt st.2.1 88 st.1 st.2.2 (λi=>Bl.mvB s k by_ (S.B i)),Ow.cells g9 26 [st.2.1,.slice none 0 0],Ow.cells g8 26 [.slice none 0 0,.slice none 0 0]]) (λst=>[lM Qt st.1 st.2.2 (λi=>Bl.mvB s k by_ (S.B i)),ce g4 26 [M.l,M.t],ce g6 75 (vcs mb),ce g7 64 (qcs mk),fV mb by_,isQ (qv mk) k,ge h0,fSl M S,fSt M S]) (λst=>st.1<=S.n) (λst=>S.n - st.1) (0,.slice none 0 0,λ_=>⟨(m00,m00),m00,m00,m00⟩) (Nat.zero_le _) ?_ (hG:=.cons W.Has.mnil haA);rintro⟨i,bl,mB⟩ hi;simp only at hi ⊢;by_cases d:i < S.n
  ·obtain⟨z1,z2,z3,z4⟩:=hs.B i d;refine WC.fact (fB (M.B i) (S.B i)) (W.Has.lk (S:=Qt) (v:=M.l) hmA d) ?_;refine WC.fact (fV (M.B i).c (S.B i).c) (W.Has.bc (bm:=M.B i) hmA) ?_;refine WC.fact (isQ (qv (M.B i).lo) (S.B i).lo) (W.Has.bl (bm:=M.B i) hmA) ?_;refine WC.fact (isQ (qv (M.B i).hi) (S.B i).hi) (W.Has.bh (bm:=M.B i) hmA) ?_;refine WC.fact (isQ (qv (M.B i).st) (S.B i).st) (W.Has.bs (bm:=M.B i) hmA) ?_;repeat'(first|intro(g:Nat)|refine d35 ?_|intro v)
   refine cW (htn (M.B i).c (S.B i).c) λm31=>?_;repeat'(first|intro(g:Nat)|refine d35 ?_|intro v)
   refine cW (Yp m31 mb (Bl.mir s (S.B i).c) by_ 1 qd (mir_sq hs1 z1) hb) λm33=>?_;repeat'(first|intro(g:Nat)|refine d35 ?_|intro v)
   refine cW (Zn.rmul (M.B i).lo mk (S.B i).lo k (z2.sm qd) (hk.sm qd)) λn37=>?_;repeat'(first|intro(g:Nat)|refine d35 ?_|intro v)
   refine cW (Zn.rmul (M.B i).hi mk (S.B i).hi k (z3.sm qd) (hk.sm qd)) λn41=>?_;repeat'(first|intro(g:Nat)|refine d35 ?_|intro v)
   refine cW (Zn.rmul (M.B i).st mk (S.B i).st k (z4.sm qd) (hk.sm qd)) λn45=>?_;refine WD.fact (fB ⟨m33,n37,n41,n45⟩ (Bl.mvB s k by_ (S.B i))) (W.Has.bof (bm:=⟨m33,n37,n41,n45⟩) (b:=Bl.mvB s k by_ (S.B i)) hmA hmA hmA hmA) ?_;repeat'(first|intro(g:Nat)|refine d35 ?_|intro v)
   revert v;intro v47;refine WD.l rfl rfl rfl (LO.appBd (bm:=⟨m33,n37,n41,n45⟩) (n:=i) (ms:=mB) (xs:=(λi=>Bl.mvB s k by_ (S.B i))) rfl rfl meA hmA (λv'=>by repeat(first|exact Sel.head|apply Sel.tail)) qo λbl2=>?_);refine⟨.inl kr,?_⟩;refine WD.fy rfl (YO.Yz T.Ve rfl qr) qr qr ?_;repeat'(first|intro(g:Nat)|refine d35 ?_|intro v)
   exact Qq.mk (i+1,bl2,upd mB i ⟨m33,n37,n41,n45⟩) (by simp only;omega) (by simp only;omega) (hG:=.cons (W.Has.X8 (S:=Qt) (n:=i) (ms:=mB) (xs:=(λi=>Bl.mvB s k by_ (S.B i))) (mm:=⟨m33,n37,n41,n45⟩) hmA hmA) haA)
  ·obtain rfl:i=S.n:=qo;repeat'(first|intro(g:Nat)|refine d35 ?_|intro v)
   exact QY (bl,mB) trivial
 rintro⟨bl,mB⟩ _;simp only;refine WC.QA (S:=Qt) (v:=bl) (n:=S.n) (ms:=mB) (xs:=(λi=>Bl.mvB s k by_ (S.B i))) (by repeat(first|exact Sel.head|apply Sel.tail)) hmA ?_;refine WC.Jb 79 30 ?_;repeat'(first|intro(g:Nat)|refine d35 ?_|intro v)
 refine WC.Yu (σ:=Value×(Nat->ToM)) (λst=>[(4,ptr g4),(6,ptr g6),(7,ptr g7),(9,ptr g9),(8,ptr g8),(1,.bool b)]) (λst=>[lO Qn st.1 79 S.m st.2 (λj=>Bl.mvT s by_ (S.T j)),Ow.cells g9 26 [bl,st.1],Ow.cells g8 26 [.slice none 0 0,.slice none 0 0]]) (λst=>[lM Qn S.m st.2 (λj=>Bl.mvT s by_ (S.T j)),lF Qt bl S.n mB (λi=>Bl.mvB s k by_ (S.B i)),ce g4 26 [M.l,M.t],ce g6 75 (vcs mb),ce g7 64 (qcs mk),fV mb by_,isQ (qv mk) k,ge h0,fSl M S,fSt M S]) (λ_=>True) ?_ ?_
 ·refine WC.lp (σ:=Nat×Value×(Nat->ToM)) (λst=>[(12,.int .i64 (st.1:Int)),(4,ptr g4),(6,ptr g6),(7,ptr g7),(9,ptr g9),(8,ptr g8),(1,.bool b)]) (λst=>[lO Qn st.2.1 79 st.1 st.2.2 (λj=>Bl.mvT s by_ (S.T j)),Ow.cells g9 26 [bl,st.2.1],Ow.cells g8 26 [.slice none 0 0,.slice none 0 0]]) (λst=>[lM Qn st.1 st.2.2 (λj=>Bl.mvT s by_ (S.T j)),lF Qt bl S.n mB (λi=>Bl.mvB s k by_ (S.B i)),ce g4 26 [M.l,M.t],ce g6 75 (vcs mb),ce g7 64 (qcs mk),fV mb by_,isQ (qv mk) k,ge h0,fSl M S,fSt M S]) (λst=>st.1<=S.m) (λst=>S.m - st.1) (0,.slice none 0 0,λ_=>⟨(m00,m00),(m00,m00),(m00,m00),m00⟩) (Nat.zero_le _) ?_ (hG:=.cons W.Has.mnil haA);rintro⟨j,tl,mT⟩ hj;simp only at hj ⊢;by_cases d:j < S.m
  ·obtain⟨z1,z2,z3,z4⟩:=hs.T j d;refine WC.fact (fT (M.T j) (S.T j)) (W.Has.lk (S:=Qn) (v:=M.t) hmA d) ?_;refine WC.fact (fV (M.T j).p (S.T j).p) (W.Has.tp (tm:=M.T j) hmA) ?_;refine WC.fact (fV (M.T j).q (S.T j).q) (W.Has.tq (tm:=M.T j) hmA) ?_;refine WC.fact (fV (M.T j).n (S.T j).n) (W.Has.tn (tm:=M.T j) hmA) ?_;refine WC.fact (isQ (qv (M.T j).r) (S.T j).r) (W.Has.trr (tm:=M.T j) hmA) ?_;repeat'(first|intro(g:Nat)|refine d35 ?_|intro v)
   refine cW (htn (M.T j).p (S.T j).p) λm71=>?_;repeat'(first|intro(g:Nat)|refine d35 ?_|intro v)
   refine cW (Yp m71 mb (Bl.mir s (S.T j).p) by_ 1 qd (mir_sq hs1 z1) hb) λm73=>?_;repeat'(first|intro(g:Nat)|refine d35 ?_|intro v)
   refine cW (htn (M.T j).q (S.T j).q) λm77=>?_;repeat'(first|intro(g:Nat)|refine d35 ?_|intro v)
   refine cW (Yp m77 mb (Bl.mir s (S.T j).q) by_ 1 qd (mir_sq hs1 z2) hb) λm79=>?_;repeat'(first|intro(g:Nat)|refine d35 ?_|intro v)
   refine cW (htn (M.T j).n (S.T j).n) λm83=>?_;refine WD.fact (fT ⟨m73,m79,m83,(M.T j).r⟩ (Bl.mvT s by_ (S.T j))) (W.Has.tof (tm:=⟨m73,m79,m83,(M.T j).r⟩) (t:=Bl.mvT s by_ (S.T j)) hmA hmA hmA hmA) ?_;repeat'(first|intro(g:Nat)|refine d35 ?_|intro v)
   revert v;intro v87;refine WD.l rfl rfl rfl (LO.appTx (tm:=⟨m73,m79,m83,(M.T j).r⟩) (n:=j) (ms:=mT) (xs:=(λj=>Bl.mvT s by_ (S.T j))) rfl rfl meA hmA (λv'=>by repeat(first|exact Sel.head|apply Sel.tail)) qo λtl2=>?_);refine⟨.inl kr,?_⟩;refine WD.fy rfl (YO.Yz T.Ub rfl qr) qr qr ?_;repeat'(first|intro(g:Nat)|refine d35 ?_|intro v)
   exact Qq.mk (j+1,tl2,upd mT j ⟨m73,m79,m83,(M.T j).r⟩) (by simp only;omega) (by simp only;omega) (hG:=.cons (W.Has.X8 (S:=Qn) (n:=j) (ms:=mT) (xs:=(λj=>Bl.mvT s by_ (S.T j))) (mm:=⟨m73,m79,m83,(M.T j).r⟩) hmA hmA) haA)
  ·obtain rfl:j=S.m:=qo;repeat'(first|intro(g:Nat)|refine d35 ?_|intro v)
   exact QY (tl,mT) trivial
 rintro⟨tl,mT⟩ _;simp only;refine WC.QA (S:=Qn) (v:=tl) (n:=S.m) (ms:=mT) (xs:=(λj=>Bl.mvT s by_ (S.T j))) (by repeat(first|exact Sel.head|apply Sel.tail)) hmA ?_;repeat'(first|intro(g:Nat)|refine d35 ?_|intro v)
 refine WC.ret ?_;exact Fp [lF Qt bl S.n mB (λi=>Bl.mvB s k by_ (S.B i)),lF Qn tl S.m mT (λj=>Bl.mvT s by_ (S.T j))] (rcV T.r26) haA ⟨⟨bl,tl,mB,mT⟩,rfl,rfl,rfl⟩
end Q
end K
end
section
open Bl (Vc Bd Tc Sc)
namespace Bl
open X
def exS (x:Int) (st:Rat):Sc:=⟨1,1,λ_=>⟨⟨(x:Rat),((1:Int):Rat)⟩,1,2,st⟩,λ_=>flr⟩
def exS_ok {x:Int} {st:Rat} (h:0 < st):(exS x st).ok:=by
 refine⟨by show 1<=5;decide,by show 1<=10;decide,λi _=>⟨by show(0:Rat) < 1;decide,by show(1:Rat)<=2;decide,h⟩,λj _=>?_⟩;show TcOk 1 flr;refine⟨by decide,by decide,by decide,by decide,by decide,by show(0:Rat)<=Rat.divInt 1 2;decide +kernel,by decide +kernel,by decide +kernel⟩
def exS_ss {x:Int} {st:Rat} (hx:x.natAbs < 1000) (h:Sq 1 st):Ss 1 (exS x st):=by
 refine⟨λi _=>⟨Kr qd qo qd,Km,?_,h⟩,λj _=>⟨⟨Sq.zero,Sq.zero⟩,Kr qd qd qd,Kr qd qd qd,(Fr.of (D:=2) (A:=1) qd qd).sq qd qd qd⟩⟩;show Sq 1 2;exact(Fr.int (A:=2) 2 qd).sq qd qd qd
def Yn {x:Int} {st:Rat}:(exS x st).wt 0 0=1∧(exS x st).wt 1 0=2:=⟨by show(if 0 / 2 ^ 0 % 2=1 then(2:Rat) else 1)=1;decide,by show(if 1 / 2 ^ 0 % 2=1 then(2:Rat) else 1)=2;decide⟩
def sm2' (f:Nat->Rat):sm (2*1) f=f 0+f 1:=by show 0+f 0+f 1=_;rw[Rat.zero_add]
def ex_on (u v:Rat):on flr 0 (frc flr u v)=⟨u*((0:Int):Rat) - v*((1:Int):Rat),u*((1:Int):Rat)+v*((0:Int):Rat)⟩:=if_pos rfl
def V0 {x:Int} {st:Rat} {w u v:Nat->Rat}:Bal (exS x st) w u v↔(∀ k,k < 2->0<=u k∧v k<=Rat.divInt 1 2*u k∧-v k<=Rat.divInt 1 2*u k)∧v 0+v 1=0∧u 0+u 1=w 0∧2*u 1=(x:Rat)*(u 0+u 1)∧u 0+u 1<=st:=by
 have hT:∀ k,(exS x st).T k=flr:=λ_=>rfl;have hB:∀ i,(exS x st).B i=⟨⟨(x:Rat),((1:Int):Rat)⟩,1,2,st⟩:=λ_=>rfl;have a0:(exS x st).at 0=⟨0,0⟩:=rfl;have a1:(exS x st).at 1=⟨((2:Int):Rat),((0:Int):Rat)⟩:=rfl;have hs:spn flr.n=1:=by decide +kernel
 have ht:tch flr 0:=.inl rfl;have c0:((0:Int):Rat)=0:=rfl;have c1:((1:Int):Rat)=1:=rfl;have c2:((2:Int):Rat)=2:=rfl;have hr:flr.r=Rat.divInt 1 2:=rfl;have key:∀ i,i < (exS x st).n->i=0:=λi hi=>by have:i < 1:=hi;omega
 unfold Bal;show(∀ k,k < 2*1->_)∧(∀ i,i < 1->sm (2*1) _=0∧sm (2*1) _=w i∧sm (2*1) _=0∧sm (2*1) _<=_)↔_;simp only[hT,hr,sm2',hB];constructor
 ·rintro⟨h1,h2⟩;obtain⟨e1,e2,e3,e4⟩:=h2 0 qd;rw[ex_on,ex_on] at e1 e2 e3;rw[a0,a1] at e3;rw[if_pos ht,if_pos ht,hs] at e4;unfold Jm Jz at e3;simp only[c0,c1,c2] at e1 e2 e3 e4;refine⟨h1,by grind,by grind,by grind,by grind⟩
 ·rintro⟨h1,h2,h3,h4,h5⟩;refine⟨h1,λi hi=>?_⟩;obtain rfl:i=0:=qo;rw[ex_on,ex_on,a0,a1,if_pos ht,if_pos ht,hs];unfold Jm Jz;simp only[c0,c1,c2];refine⟨by grind,by grind,by grind,by grind⟩
def ex_sat {st:Rat} {c:Nat} (hw:(exS 1 st).wt c 0<=st) (h0:0<=(exS 1 st).wt c 0):Sat (exS 1 st) c:=by
 generalize hq:(exS 1 st).wt c 0=w at hw h0;refine⟨λj=>if j % 2=0 then Rat.divInt 1 2*w else 0,Kd.2 (V0.2 ⟨λk _=>?_,?_⟩)⟩
 ·rw[if_pos qo,if_neg qo];have d2:Rat.divInt 1 2*2=1:=by decide +kernel
  have:0<=Rat.divInt 1 2*w:=Rat.mul_nonneg (by decide +kernel) h0;have:0<=Rat.divInt 1 2*(Rat.divInt 1 2*w):=Rat.mul_nonneg (by decide +kernel) this;refine⟨by grind,by grind,by grind⟩
 ·have d2:Rat.divInt 1 2*2=1:=by decide +kernel
  have c1:((1:Int):Rat)=1:=rfl;rw[hq];simp only[c1];have e2:Rat.divInt 1 2*w+Rat.divInt 1 2*w=w:=by grind
  refine⟨by show(0:Rat)+0=0;grind,e2,?_,?_⟩
  ·show 2*(Rat.divInt 1 2*w)=1*(Rat.divInt 1 2*w+Rat.divInt 1 2*w);grind
  ·show Rat.divInt 1 2*w+Rat.divInt 1 2*w<=st;rw[e2];exact hw
def ex_no {x:Int} {st:Rat} {c:Nat} (hw:st < (exS x st).wt c 0):¬Sat (exS x st) c:=λ⟨y,hy⟩=>by
 obtain⟨h1,h2,h3,h4,h5⟩:=V0.1 (Kd.1 hy);grind
def ex_off {st:Rat} {c:Nat} (hw:0 < (exS 3 st).wt c 0):¬Sat (exS 3 st) c:=λ⟨y,hy⟩=>by
 obtain⟨h1,h2,h3,h4,h5⟩:=V0.1 (Kd.1 hy);have a0:=(h1 0 qd).1;have a1:=(h1 1 qd).1;have c3:((3:Int):Rat)=3:=rfl;rw[c3] at h4;grind
def ex_own {q:Rat} (h0:0<=q) (hq:q*2<=10):Bal (exS 1 10) (λ_=>q*2) (λ_=>q) (λ_=>0):=by
 have c1:((1:Int):Rat)=1:=rfl;refine V0.2 ⟨λk _=>?_,by show(0:Rat)+0=0;grind,by grind,by rw[c1];grind,by grind⟩;have:0<=Rat.divInt 1 2*q:=Rat.mul_nonneg (by decide +kernel) h0;refine⟨h0,by grind,by grind⟩
end Bl
end
end Go.Proofs.YtcpaopfdiahnnaaGreat
