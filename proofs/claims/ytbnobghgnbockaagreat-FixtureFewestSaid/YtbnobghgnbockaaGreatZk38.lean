/- Lemmas. Conditions: none. -/
import Derived.Test.YtbnobghgnbockaaGreatZk37
set_option linter.all false
set_option maxHeartbeats 0
set_option maxRecDepth 100000
namespace Go.Proofs.YtbnobghgnbockaaGreat
open W Go.RowKit
open Bl (Vc Bd Tc Sc)
def twL_sq(l:nd)(i:Nat)(hi:i<=4):Sq 1 (Bl.twL l i).1/\Sq 1 (Bl.twL l i).2:=⟨(Bl.X3 l i).1.sq qd qd qo,(Bl.X3 l i).2.sq qd qd qo⟩
def YD{F:nc}{m:QM}{a b:Rat}(h:W.Has F (isQ (qv m) a))(e:a=b):W.Has F (isQ (qv m) b):=e ▸ h
def WC.cut4{P:nh}{n:Nat}{e:Env}{bx:nw}{F:nc}{Q:Post}{x1 x2 x3 x4 y:Code}{σ:Type}(E:σ->Env)(B:σ->nw)(G:σ->nc)(I:σ->Prop)
  (h1:WC P n x1 e bx F (XB (λe bx F=>WC P n x2 e bx F (XB (λe bx F=>WC P n x3 e bx F (XB (λe bx F=>WC P n x4 e bx F (XB (λe' bx' F'=>∃s,I s/\W.Sub (E s) e'/\(B s).Sublist bx'/\Qz F' (G s)) Q)) Q)) Q)) Q))
  (h2:∀s,I s->WC P n y (E s) (B s) (G s) Q):WC P n (.seq x1 (.seq x2 (.seq x3 (.seq x4 y)))) e bx F Q:=
 WC.seq (h1.mono λex e b f h=>by
  cases ex<;>first|exact h|skip
  exact WC.seq (h.mono λex e b f h=>by
   cases ex<;>first|exact h|skip
   exact WC.seq (h.mono λex e b f h=>by
    cases ex<;>first|exact h|skip
    exact WC.cut E B G I h h2)))
def has_sInil{F:nc}:W.Has F (sI nz []):=λp _=>⟨none,0,rfl,ai _,by simp[maxLen],.inl ⟨rfl,rfl,rfl⟩⟩
attribute [local irreducible] WC WL WD YO LO Qq W.Fin Qk Qh Qj Row QZ Qv KnS Has W.One Qo QX
namespace K
namespace Q
def d63{G G':Prop}(h:G')(s:Bx G'->G:=by
 intro h;first|refine gE ?_|refine Vp ?_|(apply WC.draw (id:=9) [0,1,2,3,4,6] (.h 0<|.h 1<|.h 2<|.h 3<|.h 4<|.m 5 (.h 6<|.m 7 (.m 8 (.l 9<|.l 10 .done) (.l 9<|.l 8<|.l 10 .done)) (.l 9<|.l 7<|.l 8<|.l 10 .done)) (.l 9<|.l 5<|.h 6<|.l 7<|.l 8<|.l 10 .done)) mixed kr)|(apply WC.draw (id:=10) [0,1,2,3,4,6] (.h 0<|.h 1<|.h 2<|.h 3<|.h 4<|.m 5 (.h 6<|.m 7 (.m 8 (.l 9<|.l 10 .done) (.l 9<|.l 8<|.l 10 .done)) (.l 9<|.l 7<|.l 8<|.l 10 .done)) (.l 9<|.l 5<|.h 6<|.l 7<|.l 8<|.l 10 .done)) mixed kr)|(apply WC.draw (id:=14) [0,1,2,3,7,8,9,11,12] (.h 0<|.h 1<|.h 2<|.h 3<|.h 7<|.h 8<|.h 9<|.h 12<|.l 4<|.l 5<|.l 6<|.l 10<|.h 11<|.l 13<|.l 14<|.l 15<|.f 16<|.l 17 .done) mixed kr)|(apply WC.draw (id:=22) [0,1,2,3,4,5,6,7,8] (.h 0<|.h 1<|.h 2<|.h 3<|.h 4<|.h 5<|.h 6<|.h 7<|.h 8<|.l 9<|.l 10<|.l 11<|.f 12<|.l 13 .done) mixed kr)|(apply WC.draw (id:=26) [0,1,2,4] (.h 0<|.h 1<|.h 2<|.m 3 (.h 4<|.l 5<|.l 6 .done) (.l 5<|.l 3<|.h 4<|.l 6 .done)) mixed kr)|(apply WC.draw (id:=27) [0,1,2,3,4,5,9,10] (.h 0<|.h 1<|.h 2<|.h 3<|.h 4<|.h 5<|.h 9<|.l 6<|.l 7<|.l 8<|.h 10<|.l 11<|.l 12<|.f 13<|.l 14 .done) mixed kr)|fail
 exact Bx.h h):G:=s ⟨h⟩
def d63r{G G':Prop}(h:G')(s:Bx G'->G:=by
 intro h;repeat'(first|intro(zQ:Nat)|refine d63 ?_|intro zQ)
 repeat revert zQ
 exact Bx.h h):G:=s ⟨h⟩

def tower_c(lv:nA)(l:nd)(hl:∀x∈l,I64 x):FnB Tryz.prog 63 [lv] [] [sI lv l] (IsScv (Bl.X2 l)):=by
 refine fO [(0,lv)] 129 Tryz.func63 Tryz.ntmps63 λh0=>?_;refine WC.ZE lv l hmA λhlen=>?_;have h1:=QP (l:=l) (i:=1) (m:=8) qd;have h2:=QP (l:=l) (i:=2) (m:=4) qd;have h3:=QP (l:=l) (i:=3) (m:=5) qd;have h4:=QP (l:=l) (i:=4) (m:=3) qd;have hm:=Bl.Kw l
 have hMany:[1,2,1,2,1,2,1,(3:Int)].getD (atP l 1 8).toNat 0=(Bl.Qs l:Int):=by
  unfold Bl.Qs;have:(atP l 1 8).toNat<8:=qo;generalize (atP l 1 8).toNat=k at this;match k,this with|0,_=>rfl|1,_=>rfl|2,_=>rfl|3,_=>rfl|4,_=>rfl|5,_=>rfl|6,_=>rfl|7,_=>rfl
 obtain⟨k1,hk1⟩:∃k:Nat,atP l 1 8=(k:Int):=⟨(atP l 1 8).toNat,by omega⟩
 have c1:=Zr lv l 1 8 hl qd;rw[hk1] at c1 hMany h1;have hr1:Sq 1 (Bl.twR l):=(Fr.of (D:=3) (A:=3) qd qo).sq qd qd qd;refine d63r ?_;(repeat(first|intro(g:Nat)|intro v));revert g;intro g3;revert g;intro g2;have hints:ints [1,2,1,2,1,2,1,3]=[.int .i64 1,.int .i64 2,.int .i64 1,.int .i64 2,.int .i64 1,.int .i64 2,.int .i64 1,.int .i64 3]:=rfl;rw[<-hints];refine cV (c1) ?_;refine WL.y (YO.XT T.s28 rfl rfl (KnS.oI (el:=3) (l:=[1,2,1,2,1,2,1,3]) (by exact meA)) qo (by show(k1:Int)<8;omega)) qr qr ?_;refine WL.y (YO.KD T.sc3 (el:=3) (l:=[1,2,1,2,1,2,1,3]) rfl (by exact meA) (by show(k1:Int).toNat<8;omega)) qr qr ?_;rw[hMany];obtain⟨N,hN⟩:∃N,Bl.Qs l=N:=⟨_,rfl⟩
 rw[hN];rw[hN] at hm hMany;refine gPr ?_;refine cV (Zr lv l 2 4 hl qd) ?_;refine gPr ?_;refine cW (Zn.rof (atP l 2 4) 3 (Zv qo qo) qd) λmr=>?_;refine gPr ?_;intro g;revert g;intro g5;refine cW (Zn.rof 0 1 qd qd) λmlo=>?_;rw[di1];refine gPr ?_;intro g;revert g;intro g6;refine cV (Zr lv l 3 5 hl qd) ?_;refine gPr ?_;refine cW (Zn.rof (1+atP l 3 5) 1 (Zv qo qo) qd) λmhi=>?_;rw[di1];refine gPr ?_;intro g;revert g;intro g7;refine WC.keep (g:=g5) (t:=75) (cs:=qcs mr) wq11 ?_;refine WC.QL 93 30 ?_;refine WC.QL 88 20 ?_
 refine WC.JK (σ:=nA×(Nat->BM)×nA×(Nat->ToM)×QM) (λst=>[(4,.int .i64 (N:Int)),(5,ptr g5),(6,ptr g6),(3,ptr g3),(0,lv),(2,ptr g2)]) (λst=>[lO QQ st.1 88 N st.2.1 (Bl.Xe l),lO Qu st.2.2.1 93 (Bl.twT l N).1 st.2.2.2.1 (Bl.twT l N).2,Ow.cells g6 75 (qcs st.2.2.2.2),Ow.cells g3 53 [st.1,st.2.2.1],Ow.cells g2 53 [.slice none 0 0,.slice none 0 0]])
  (λst=>[lM QQ N st.2.1 (Bl.Xe l),lM Qu (Bl.twT l N).1 st.2.2.2.1 (Bl.twT l N).2,isQ (qv st.2.2.2.2) (Bl.twL l N).1,isQ (qv mr) (Bl.twR l),ce g5 75 (qcs mr),ge h0,sI lv l]) (λ_=>True) ?_ ?_
 .refine WC.lp (σ:=Nat×nA×(Nat->BM)×nA×(Nat->ToM)×QM×QM) (λst=>[(8,.int .i64 (st.1:Int)),(4,.int .i64 (N:Int)),(5,ptr g5),(6,ptr g6),(7,ptr g7),(3,ptr g3),(0,lv),(2,ptr g2)]) (λst=>[lO QQ st.2.1 88 st.1 st.2.2.1 (Bl.Xe l),lO Qu st.2.2.2.1 93 (Bl.twT l st.1).1 st.2.2.2.2.1 (Bl.twT l st.1).2,Ow.cells g7 75 (qcs st.2.2.2.2.2.2),Ow.cells g6 75 (qcs st.2.2.2.2.2.1),Ow.cells g3 53 [st.2.1,st.2.2.2.1],Ow.cells g2 53 [.slice none 0 0,.slice none 0 0]])
   (λst=>[lM QQ st.1 st.2.2.1 (Bl.Xe l),lM Qu (Bl.twT l st.1).1 st.2.2.2.2.1 (Bl.twT l st.1).2,isQ (qv st.2.2.2.2.2.1) (Bl.twL l st.1).1,isQ (qv st.2.2.2.2.2.2) (Bl.twL l st.1).2,isQ (qv mr) (Bl.twR l),ce g5 75 (qcs mr),ge h0,sI lv l]) (λst=>st.1<=N) (λst=>N-st.1) (0,.slice none 0 0,λ_=>⟨(m00,m00),m00,m00,m00⟩,.slice none 0 0,λ_=>⟨(m00,m00),(m00,m00),(m00,m00),m00⟩,mlo,mhi) (aj _) ?_ (hG:=.cons W.Has.Uy (.cons W.Has.Uy haA))
  rintro⟨i,bl,mB,tl,mT,mlo,mhi⟩ hi;simp only at hi ⊢;by_cases d:i<N
  .have hi3:i<=2:=qo;have q8:=QP (l:=l) (i:=8+2*(i:Int)) (m:=7) qd;have q9:=QP (l:=l) (i:=9+2*(i:Int)) (m:=3) qd;obtain⟨sL,sH⟩:=twL_sq l i qo;obtain⟨sL',sH'⟩:=twL_sq l (i+1) qo;have c38:=Zr lv l (8+2*(i:Int)) 7 hl qd;have c40:=Zn.rof (atP l (8+2*(i:Int)) 7-2) 2 (Zv qo qo) qd;have c41:=λm=>Zn.Kg mlo m (Bl.twL l i).1 (Rat.divInt (atP l (8+2*(i:Int)) 7-2) 2) (sL.sm qd) (((Fr.of (D:=2) (A:=4) qd qo).sq qd qd qd).sm qd);refine gPr ?_
   refine WC.YH (σ:=Nat×QM) (λst=>[(9,ptr st.1),(8,.int .i64 (i:Int)),(4,.int .i64 (N:Int)),(5,ptr g5),(6,ptr g6),(7,ptr g7),(3,ptr g3),(0,lv),(2,ptr g2)]) (λst=>[Ow.cells st.1 75 (qcs st.2),lO QQ bl 88 i mB (Bl.Xe l),lO Qu tl 93 (Bl.twT l i).1 mT (Bl.twT l i).2,Ow.cells g7 75 (qcs mhi),Ow.cells g6 75 (qcs mlo),Ow.cells g3 53 [bl,tl],Ow.cells g2 53 [.slice none 0 0,.slice none 0 0]])
    (λst=>[isQ (qv st.2) (Bl.twL l (i+1)).1,lM QQ i mB (Bl.Xe l),lM Qu (Bl.twT l i).1 mT (Bl.twT l i).2,isQ (qv mlo) (Bl.twL l i).1,isQ (qv mhi) (Bl.twL l i).2,isQ (qv mr) (Bl.twR l),ce g5 75 (qcs mr),ge h0,sI lv l]) (λ_=>True) ?_ ?_
   .repeat'(first|intro(g:Nat)|refine d63 ?_|refine gN ?_ ?_|refine cU (c38) ?_|refine cW (c40) λzm=>?_|refine cW (c41 _) λzm=>?_|intro v)
    all_goals(apply Ex2;refine⟨trivial,?_,?_,?_⟩;(focus(repeat(first|exact Sub.nil _|refine Sub.cons rfl ?_)));exact wq137;exact wq26)
   rintro⟨g9,mx⟩ _;simp only;have c47:=Zr lv l (9+2*(i:Int)) 3 hl qd;have c49:=Zn.rof (2+atP l (9+2*(i:Int)) 3) 1 (Zv qo qo) qd;rw[di1] at c49;have c50:=λm=>Zn.Kg mx m (Bl.twL l (i+1)).1 ((2+atP l (9+2*(i:Int)) 3:Int):Rat) (sL'.sm qd) (((Fr.int (A:=4) (2+atP l (9+2*(i:Int)) 3) qo).sq qd qd qd).sm qd);refine gPr ?_
   refine WC.YH (σ:=Nat×QM) (λst=>[(10,ptr st.1),(9,ptr g9),(8,.int .i64 (i:Int)),(4,.int .i64 (N:Int)),(5,ptr g5),(6,ptr g6),(7,ptr g7),(3,ptr g3),(0,lv),(2,ptr g2)]) (λst=>[Ow.cells st.1 75 (qcs st.2),Ow.cells g9 75 (qcs mx),lO QQ bl 88 i mB (Bl.Xe l),lO Qu tl 93 (Bl.twT l i).1 mT (Bl.twT l i).2,Ow.cells g7 75 (qcs mhi),Ow.cells g6 75 (qcs mlo),Ow.cells g3 53 [bl,tl],Ow.cells g2 53 [.slice none 0 0,.slice none 0 0]])
    (λst=>[isQ (qv st.2) (Bl.twL l (i+1)).2,isQ (qv mx) (Bl.twL l (i+1)).1,lM QQ i mB (Bl.Xe l),lM Qu (Bl.twT l i).1 mT (Bl.twT l i).2,isQ (qv mlo) (Bl.twL l i).1,isQ (qv mhi) (Bl.twL l i).2,isQ (qv mr) (Bl.twR l),ce g5 75 (qcs mr),ge h0,sI lv l]) (λ_=>True) ?_ ?_
   .repeat'(first|intro(g:Nat)|refine d63 ?_|refine gN ?_ ?_|refine cU (c47) ?_|refine cW (c49) λzm=>?_|refine cW (c50 _) λzm=>?_|intro v)
    all_goals(apply Ex2;refine⟨trivial,?_,?_,?_⟩;(focus(repeat(first|exact Sub.nil _|refine Sub.cons rfl ?_)));exact wq137;exact wq26)
   rintro⟨g10,my⟩ _;simp only;refine WC.cut (σ:=Unit) (λ_=>[(11,.slice none 0 0),(10,ptr g10),(9,ptr g9),(8,.int .i64 (i:Int)),(4,.int .i64 (N:Int)),(5,ptr g5),(6,ptr g6),(7,ptr g7),(3,ptr g3),(0,lv),(2,ptr g2)]) (λ_=>[Ow.cells g10 75 (qcs my),Ow.cells g9 75 (qcs mx),lO QQ bl 88 i mB (Bl.Xe l),lO Qu tl 93 (Bl.twT l i).1 mT (Bl.twT l i).2,Ow.cells g7 75 (qcs mhi),Ow.cells g6 75 (qcs mlo),Ow.cells g3 53 [bl,tl],Ow.cells g2 53 [.slice none 0 0,.slice none 0 0]]) (λ_=>[isQ (qv my) (Bl.twL l (i+1)).2,isQ (qv mx) (Bl.twL l (i+1)).1,lM QQ i mB (Bl.Xe l),lM Qu (Bl.twT l i).1 mT (Bl.twT l i).2,isQ (qv mlo) (Bl.twL l i).1,isQ (qv mhi) (Bl.twL l i).2,isQ (qv mr) (Bl.twR l),ce g5 75 (qcs mr),ge h0,sI lv l]) (λ_=>True) ?_ ?_
   .refine gPr ?_;exact Qr () trivial
   rintro⟨⟩ _;refine WC.cut (σ:=nA) (λpv=>[(11,pv),(10,ptr g10),(9,ptr g9),(8,.int .i64 (i:Int)),(4,.int .i64 (N:Int)),(5,ptr g5),(6,ptr g6),(7,ptr g7),(3,ptr g3),(0,lv),(2,ptr g2)]) (λ_=>[Ow.cells g10 75 (qcs my),Ow.cells g9 75 (qcs mx),lO QQ bl 88 i mB (Bl.Xe l),lO Qu tl 93 (Bl.twT l i).1 mT (Bl.twT l i).2,Ow.cells g7 75 (qcs mhi),Ow.cells g6 75 (qcs mlo),Ow.cells g3 53 [bl,tl],Ow.cells g2 53 [.slice none 0 0,.slice none 0 0]]) (λpv=>[sI pv (l.drop i),isQ (qv my) (Bl.twL l (i+1)).2,isQ (qv mx) (Bl.twL l (i+1)).1,lM QQ i mB (Bl.Xe l),lM Qu (Bl.twT l i).1 mT (Bl.twT l i).2,isQ (qv mlo) (Bl.twL l i).1,isQ (qv mhi) (Bl.twL l i).2,isQ (qv mr) (Bl.twR l),ce g5 75 (qcs mr),ge h0,sI lv l]) (λ_=>True) ?_ ?_
   .by_cases hil:i<l.length
    .refine gPr ?_;refine Qr _ trivial (hG:=.cons (Has.dropI (v:=lv) (l:=l) (lo:=i) hmA qo) haA)
    .refine gPr ?_;refine Qr _ trivial (hG:=.cons (by rw[List.drop_eq_nil_of_le qo];exact has_sInil) haA)
   intro pv _;have hl2:∀x∈l.drop i,I64 x:=λx hx=>hl x (List.mem_of_mem_drop hx);have f1:=Bl.X3 l (i+1);have sS:Sq 1 ((Bl.twL l (i+1)).1+(Bl.twL l (i+1)).2):=(f1.1.add f1.2).sq qd qd qo;refine gPr ?_;refine WC.cutT (σ:=nA×BM) (λst=>[(10,ptr g10),(9,ptr g9),(8,.int .i64 (i:Int)),(4,.int .i64 (N:Int)),(5,ptr g5),(6,ptr g6),(7,ptr g7),(3,ptr g3),(0,lv),(2,ptr g2)]) (λst=>[Ow.cells g10 75 (qcs my),Ow.cells g9 75 (qcs mx),lO QQ st.1 88 (i+1) (Qy mB i st.2) (Bl.Xe l),lO Qu tl 93 (Bl.twT l i).1 mT (Bl.twT l i).2,Ow.cells g7 75 (qcs mhi),Ow.cells g6 75 (qcs mlo),Ow.cells g3 53 [st.1,tl],Ow.cells g2 53 [.slice none 0 0,.slice none 0 0]]) (λst=>[isQ (qv my) (Bl.twL l (i+1)).2,isQ (qv mx) (Bl.twL l (i+1)).1,lM QQ (i+1) (Qy mB i st.2) (Bl.Xe l),lM Qu (Bl.twT l i).1 mT (Bl.twT l i).2,isQ (qv mlo) (Bl.twL l i).1,isQ (qv mhi) (Bl.twL l i).2,isQ (qv mr) (Bl.twR l),ce g5 75 (qcs mr),ge h0,sI lv l]) (λ_=>True) ?_ ?_
   .refine d63r ?_;refine cW (Zn.Kg mx my (Bl.twL l (i+1)).1 (Bl.twL l (i+1)).2 (sL'.sm qd) (sH'.sm qd)) λn62=>?_;refine d63r ?_;refine cW (Zn.rof 1 2 qd qd) λn63=>?_;refine d63r ?_;refine cW (Zn.ZQ n62 n63 ((Bl.twL l (i+1)).1+(Bl.twL l (i+1)).2) (Rat.divInt 1 2) (sS.sm qd) (((Fr.of (D:=2) (A:=1) qd qd).sq qd qd qd).sm qd)) λn64=>?_;refine d63r ?_;refine cW (Zn.rof (2*(i:Int)+1) 2 (Zv qo qo) qd) λn68=>?_;refine WD.fact (fV (n64,n68) (Bl.twC l i)) (W.Has.vof (m:=(n64,n68)) (a:=Bl.twC l i) hmA hmA) ?_;refine d63r ?_;refine cW (plain_c (n64,n68) (Bl.twC l i) pv (l.drop i) hl2) λm71=>?_;refine WD.fact (fB m71 (Bl.Xe l i)) hmA ?_;refine d63r ?_;intro v;revert v;intro v72;refine WD.l rfl rfl rfl (LO.appBd (bm:=m71) (n:=i) (ms:=mB) (xs:=Bl.Xe l) rfl rfl meA hmA (λv'=>by repeat(first|exact Sel.head|apply Sel.tail)) qo λbl2=>?_);refine⟨.inl kr,?_⟩;refine WD.fy rfl (YO.QR T.f53_0 rfl qr) qr qr ?_;refine d63r ?_;exact Qr (bl2,m71) trivial (hG:=.cons hmA (.cons hmA (.cons (W.Has.Xb (S:=QQ) (n:=i) (ms:=mB) (xs:=Bl.Xe l) (mm:=m71) hmA hmA) haA)))
   rintro⟨bl2,m71⟩ _;simp only;have cA:=Zn.rcmp mx mlo (Bl.twL l (i+1)).1 (Bl.twL l i).1 (sL'.sm qd) (sL.sm qd);have cB:=Zn.rcmp my mhi (Bl.twL l (i+1)).2 (Bl.twL l i).2 (sH'.sm qd) (sH.sm qd);refine WC.cut4 (σ:=Nat×Nat×QM×QM) (λst=>[(13,ptr st.2.1),(12,ptr st.1),(10,ptr g10),(9,ptr g9),(8,.int .i64 (i:Int)),(4,.int .i64 (N:Int)),(5,ptr g5),(6,ptr g6),(7,ptr g7),(3,ptr g3),(0,lv),(2,ptr g2)]) (λst=>[Ow.cells st.2.1 75 (qcs st.2.2.2),Ow.cells st.1 75 (qcs st.2.2.1),Ow.cells g10 75 (qcs my),Ow.cells g9 75 (qcs mx),lO QQ bl2 88 (i+1) (Qy mB i m71) (Bl.Xe l),lO Qu tl 93 (Bl.twT l i).1 mT (Bl.twT l i).2,Ow.cells g7 75 (qcs mhi),Ow.cells g6 75 (qcs mlo),Ow.cells g3 53 [bl2,tl],Ow.cells g2 53 [.slice none 0 0,.slice none 0 0]]) (λst=>[isQ (qv st.2.2.1) (Bl.twA l i),isQ (qv st.2.2.2) (Bl.twB l i),isQ (qv my) (Bl.twL l (i+1)).2,isQ (qv mx) (Bl.twL l (i+1)).1,lM QQ (i+1) (Qy mB i m71) (Bl.Xe l),lM Qu (Bl.twT l i).1 mT (Bl.twT l i).2,isQ (qv mlo) (Bl.twL l i).1,isQ (qv mhi) (Bl.twL l i).2,isQ (qv mr) (Bl.twR l),ce g5 75 (qcs mr),ge h0,sI lv l]) (λ_=>True) ?_ ?_
   .refine d63r ?_;intro g g;refine cV (cA) ?_;by_cases ha:(Bl.twL l (i+1)).1<(Bl.twL l i).1
    .have ha2:=VZ.2 ha;refine d63r ?_;refine cV (cB) ?_;by_cases hb:(Bl.twL l i).2<(Bl.twL l (i+1)).2
     .have hb2:=JE.2 hb;refine d63r ?_;refine Qr (_,_,mlo,mhi) trivial (hG:=.cons (YD (a:=(Bl.twL l i).1) hmA (by unfold Bl.twA;rw[ah ha])) (.cons (YD (a:=(Bl.twL l i).2) hmA (by unfold Bl.twB;rw[ah hb])) haA))
     .have hb2:¬0<XN (Bl.twL l (i+1)).2 (Bl.twL l i).2:=λh=>hb (JE.1 h);refine d63r ?_;refine Qr (_,_,mlo,my) trivial (hG:=.cons (YD (a:=(Bl.twL l i).1) hmA (by unfold Bl.twA;rw[ah ha])) (.cons (YD (a:=(Bl.twL l (i+1)).2) hmA (by unfold Bl.twB;rw[ae hb])) haA))
    .have ha2:¬XN (Bl.twL l (i+1)).1 (Bl.twL l i).1<0:=λh=>ha (VZ.1 h);refine d63r ?_;refine cV (cB) ?_;by_cases hb:(Bl.twL l i).2<(Bl.twL l (i+1)).2
     .have hb2:=JE.2 hb;refine d63r ?_;refine Qr (_,_,mx,mhi) trivial (hG:=.cons (YD (a:=(Bl.twL l (i+1)).1) hmA (by unfold Bl.twA;rw[ae ha])) (.cons (YD (a:=(Bl.twL l i).2) hmA (by unfold Bl.twB;rw[ah hb])) haA))
     .have hb2:¬0<XN (Bl.twL l (i+1)).2 (Bl.twL l i).2:=λh=>hb (JE.1 h);refine d63r ?_;refine Qr (_,_,mx,my) trivial (hG:=.cons (YD (a:=(Bl.twL l (i+1)).1) hmA (by unfold Bl.twA;rw[ae ha])) (.cons (YD (a:=(Bl.twL l (i+1)).2) hmA (by unfold Bl.twB;rw[ae hb])) haA))
   rintro⟨g12,g13,mA,mB2⟩ _;simp only
   have hA:Fr 2 40 (Bl.twA l i):=by
    unfold Bl.twA;split
    .exact(Bl.X3 l i).1.up qo
    .exact(Bl.X3 l (i+1)).1.up qo
   have hB:Fr 2 40 (Bl.twB l i):=by
    unfold Bl.twB;split
    .exact(Bl.X3 l i).2.up qo
    .exact(Bl.X3 l (i+1)).2.up qo
   have sA:=hA.sq qd qd qd;have sB:=hB.sq qd qd qd;refine d63r ?_;refine cV (Zn.rcmp mA mB2 (Bl.twA l i) (Bl.twB l i) (sA.sm qd) (sB.sm qd)) ?_;by_cases hab:Bl.twA l i<=Bl.twB l i
   .have hab2:XN (Bl.twA l i) (Bl.twB l i)<=0:=by
     have:=@JE (Bl.twA l i) (Bl.twB l i);by_cases c:0<XN (Bl.twA l i) (Bl.twB l i)
     .have:=this.1 c;grind
     .omega
    refine d63r ?_;refine cW (flat_c (i:Int) ((i:Int)-1) (i:Int) mA mB2 mr (Bl.twA l i) (Bl.twB l i) (Bl.twR l) (Zv qo qo)) λtm=>?_;refine d63r ?_;intro v;revert v;intro v101;refine WD.l rfl rfl rfl (LO.appTu (tm:=tm) (tc:=Bl.tcF (i:Int) ((i:Int)-1) (Bl.twA l i) (Bl.twB l i) (i:Int) (Bl.twR l)) (n:=(Bl.twT l i).1) (ms:=mT) (xs:=(Bl.twT l i).2) rfl rfl meA hmA (λv'=>by repeat(first|exact Sel.head|apply Sel.tail)) (by have:=(Bl.H7 l i qo).1;omega) λtl2=>?_);refine⟨.inl kr,?_⟩;refine WD.fy rfl (YO.QR T.GF rfl qr) qr qr ?_;refine d63r ?_
    have eT:Bl.twT l (i+1)=((Bl.twT l i).1+1,Qy (Bl.twT l i).2 (Bl.twT l i).1 (Bl.tcF (i:Int) ((i:Int)-1) (Bl.twA l i) (Bl.twB l i) (i:Int) (Bl.twR l))):=by
     show(if _ then _ else _)=_;rw[ah hab]
    have eT1:(Bl.twT l i).1+1=(Bl.twT l (i+1)).1:=by rw[eT]
    have eT2:Qy (Bl.twT l i).2 (Bl.twT l i).1 (Bl.tcF (i:Int) ((i:Int)-1) (Bl.twA l i) (Bl.twB l i) (i:Int) (Bl.twR l))=(Bl.twT l (i+1)).2:=by rw[eT]
    rw[eT1,eT2];exact Qq.mk (i+1,bl2,Qy mB i m71,tl2,Qy mT (Bl.twT l i).1 tm,mx,my) wq14 wq14 (hG:=.cons hmA (.cons (by simp only;rw[<-eT1,<-eT2];exact W.Has.mapp (S:=Qu) (n:=(Bl.twT l i).1) (ms:=mT) (xs:=(Bl.twT l i).2) (mm:=tm) (aa:=Bl.tcF (i:Int) ((i:Int)-1) (Bl.twA l i) (Bl.twB l i) (i:Int) (Bl.twR l)) hmA hmA) haA))
   .have hab2:¬XN (Bl.twA l i) (Bl.twB l i)<=0:=by
     have:=(@JE (Bl.twA l i) (Bl.twB l i)).2 (by grind);omega
    refine d63r ?_
    have eT:Bl.twT l i=Bl.twT l (i+1):=by
     show _=(if _ then _ else _);rw[ae hab]
    rw[eT];exact Qq.mk (i+1,bl2,Qy mB i m71,tl,mT,mx,my) wq14 wq14
  .obtain rfl:i=N:=qo;refine d63r ?_;exact Qr (bl,mB,tl,mT,mlo) trivial
 .rintro⟨bl,mB,tl,mT,mlo⟩ _;simp only;obtain⟨sL,sH⟩:=twL_sq l N qo;have hmT:=(Bl.H7 l N qo).1;refine d63r ?_;refine cV (Zr lv l 4 3 hl qd) ?_;by_cases h:atP l 4 3=0
  .have c112:=Zn.rof ((N:Int)-1) 1 (Zv qo qo) qd;rw[di1] at c112;refine gPr ?_
   refine WC.YH (σ:=Nat×QM) (λst=>[(14,ptr st.1),(4,.int .i64 (N:Int)),(5,ptr g5),(3,ptr g3),(2,ptr g2)]) (λst=>[Ow.cells st.1 77 (vcs (mlo,st.2)),lO QQ bl 88 N mB (Bl.Xe l),lO Qu tl 93 (Bl.twT l N).1 mT (Bl.twT l N).2,Ow.cells g3 53 [bl,tl],Ow.cells g2 53 [.slice none 0 0,.slice none 0 0]])
    (λst=>[isQ (qv st.2) ((((N:Int)-1:Int)):Rat),lM QQ N mB (Bl.Xe l),lM Qu (Bl.twT l N).1 mT (Bl.twT l N).2,isQ (qv mlo) (Bl.twL l N).1,isQ (qv mr) (Bl.twR l),ce g5 75 (qcs mr),ge h0]) (λ_=>True) ?_ ?_
   .repeat'(first|intro(g:Nat)|refine d63 ?_|refine gN ?_ ?_|refine cW (c112) λzm=>?_|intro v)
    all_goals(apply Ex2;refine⟨trivial,?_,?_,?_⟩;(focus(repeat(first|exact Sub.nil _|refine Sub.cons rfl ?_)));exact wq137;exact wq26)
   rintro⟨g14,mh⟩ _;simp only;refine WC.fact (fV (mlo,mh) (Bl.twW l N).p) (W.Has.vof (m:=(mlo,mh)) (a:=(Bl.twW l N).p) hmA hmA) ?_;have sN:Sq 1 ((((N:Int)-1:Int)):Rat):=(Fr.int (A:=3) _ qo).sq qd qd qd;refine d63r ?_;refine cW (UJ 0 1 qd qd) λm120=>?_;refine d63r ?_;refine cW (Uc (mlo,mh) m120 (Bl.twW l N).p ⟨((0:Int):Rat),((1:Int):Rat)⟩ 1 qd ⟨sL,sN⟩ (sv_int qd qd qd)) λm121=>?_;refine d63r ?_;refine cW (UJ 1 0 qd qd) λm122=>?_;refine WD.fact (fT ⟨(mlo,mh),m121,m122,mr⟩ (Bl.twW l N)) (W.Has.tof (tm:=⟨(mlo,mh),m121,m122,mr⟩) (t:=Bl.twW l N) hmA hmA hmA hmA) ?_;refine d63r ?_;refine WD.y rfl (D1 (v1:=(mlo,mh)) (v2:=m121) (v3:=m122) (n1:=mr) rfl rfl rfl rfl rfl rfl) qr qr ?_;refine d63r ?_;intro v;revert v;intro v125;refine WD.l rfl rfl rfl (LO.appTu (tm:=⟨(mlo,mh),m121,m122,mr⟩) (tc:=Bl.twW l N) (n:=(Bl.twT l N).1) (ms:=mT) (xs:=(Bl.twT l N).2) rfl rfl meA hmA (λv'=>by repeat(first|exact Sel.head|apply Sel.tail)) qo λtl2=>?_);refine⟨.inl kr,?_⟩;refine WD.fy rfl (YO.QR T.GF rfl qr) qr qr ?_;repeat(refine goD ?_)
   have eS:Bl.X2 l=⟨N,(Bl.twT l N).1+1,Bl.Xe l,Qy (Bl.twT l N).2 (Bl.twT l N).1 (Bl.twW l N)⟩:=by unfold Bl.X2;rw[ah h,hN]
   refine WC.fact (lM Qu ((Bl.twT l N).1+1) (Qy mT (Bl.twT l N).1 ⟨(mlo,mh),m121,m122,mr⟩) (Qy (Bl.twT l N).2 (Bl.twT l N).1 (Bl.twW l N))) (W.Has.mapp (S:=Qu) (n:=(Bl.twT l N).1) (ms:=mT) (xs:=(Bl.twT l N).2) (mm:=⟨(mlo,mh),m121,m122,mr⟩) (aa:=Bl.twW l N) hmA hmA) ?_;refine WC.QA (S:=QQ) (v:=bl) (n:=N) (ms:=mB) (xs:=Bl.Xe l) wq3 hmA ?_;refine WC.QA (S:=Qu) (v:=tl2) (n:=(Bl.twT l N).1+1) (ms:=Qy mT (Bl.twT l N).1 ⟨(mlo,mh),m121,m122,mr⟩) (xs:=Qy (Bl.twT l N).2 (Bl.twT l N).1 (Bl.twW l N)) wq3 hmA ?_;refine d63r ?_;refine WC.ret ?_;exact Fp [lF QQ bl N mB (Bl.Xe l),lF Qu tl2 ((Bl.twT l N).1+1) (Qy mT (Bl.twT l N).1 ⟨(mlo,mh),m121,m122,mr⟩) (Qy (Bl.twT l N).2 (Bl.twT l N).1 (Bl.twW l N))] (rcV T.r53) haA ⟨⟨bl,tl2,mB,Qy mT (Bl.twT l N).1 ⟨(mlo,mh),m121,m122,mr⟩⟩,rfl,rfl,by rw[eS]⟩
  .refine gPr ?_;have eS:Bl.X2 l=⟨N,(Bl.twT l N).1,Bl.Xe l,(Bl.twT l N).2⟩:=by unfold Bl.X2;rw[ae h,hN]
   refine WC.QA (S:=QQ) (v:=bl) (n:=N) (ms:=mB) (xs:=Bl.Xe l) wq3 hmA ?_;refine WC.QA (S:=Qu) (v:=tl) (n:=(Bl.twT l N).1) (ms:=mT) (xs:=(Bl.twT l N).2) wq3 hmA ?_;refine d63r ?_;refine WC.ret ?_;exact Fp [lF QQ bl N mB (Bl.Xe l),lF Qu tl ((Bl.twT l N).1) (mT) ((Bl.twT l N).2)] (rcV T.r53) haA ⟨⟨bl,tl,mB,mT⟩,rfl,rfl,by rw[eS]⟩
end Q
end K
namespace K
namespace Q
def some_c(lv:nA)(l:nd)(hl:∀x∈l,I64 x):FnB Tryz.prog 36 [lv] [] [sI lv l] (IsScv (Bl.Q7 l)):=by
 refine fO [(0,lv)] 10 Tryz.func36 Tryz.ntmps36 λh0=>?_;refine gPr ?_;intro g;refine cV (Zr lv l 0 4 hl qd) ?_;unfold Bl.Q7;by_cases h:atP l 0 4=0
 .rw[ah h];refine gPr ?_;refine cW (slope_c lv l hl) λM=>?_;refine gPr ?_;refine WC.ret ?_;exact Fp [fSl M (Bl.U0 l),fSt M (Bl.U0 l)] (rcV T.r53) haA ⟨M,rfl,rfl,rfl⟩
 .rw[ae h];refine gPr ?_;refine cW (tower_c lv l hl) λM=>?_;refine gPr ?_;refine WC.ret ?_;exact Fp [fSl M (Bl.X2 l),fSt M (Bl.X2 l)] (rcV T.r53) haA ⟨M,rfl,rfl,rfl⟩
end Q
end K
end Go.Proofs.YtbnobghgnbockaaGreat
