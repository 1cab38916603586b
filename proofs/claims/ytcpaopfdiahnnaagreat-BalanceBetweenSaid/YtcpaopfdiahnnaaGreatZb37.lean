/- Lemmas for a law. Conditions: none. -/
import Derived.Test.YtcpaopfdiahnnaaGreatZb36
import Derived.Test.YtcpaopfdiahnnaaGreatRows
import Derived.ProofKit
import Derived.ChangeSlices
import Derived.Conc.LeavingOf
set_option linter.all false
set_option maxHeartbeats 32000000
set_option maxRecDepth 100000
namespace Go.Proofs.YtcpaopfdiahnnaaGreat
section
open W Go.RowKit
open Bl (Vc Bd Tc Sc)
def HB {M α:Type} {S:Shp M α} {ms:Nat->M} {xs:Nat->α}:S.cs (ms 0) (xs 0)++S.cs (ms 1) (xs 1)=QV S 2 ms xs:=by
 rw[<-JO (n:=1),<-JO (n:=0)];rw[show QV S 0 ms xs=[] from by unfold QV XL;simp,List.nil_append]
def H4 {M α:Type} {S:Shp M α} {F:List Fct} {ms:Nat->M} {xs:Nat->α} (h0:W.Has F (S.fc (ms 0) (xs 0))) (h1:W.Has F (S.fc (ms 1) (xs 1))):W.Has F (lM S 2 ms xs):=λp hf i hi=>by
 match i,hi with
 |0,_=>exact h0 p hf
 |1,_=>exact h1 p hf
section
variable {e:Env} {bx:List Ow} {F:List Fct} {ty:TypeId} {x y:Operand} {K:Qd} {a b:VM} {v w:Value} {n m:Nat}
def LO.bsP2 (hx:ev e x=some (vv a)) (hy:ev e y=some (vv b)) (h:∀ v,K v (Ow.slice v 83 8 (vcs a++vcs b)::bx) F):LO Tryz.prog (.buildSlice 59 2 #[(0,x),(1,y)]) ty e bx F K:=
 LO.buildSlice (el:=83) (sz:=8) (parts:=[(0,x),(1,y)]) (us:=[vv a,vv b]) (cs:=vcs a++vcs b) (.cons hx (.cons hy .nil)) (λ_=>by kernel_rfl) rfl qd h
def LO.bsPP2 (hx:ev e x=some v) (hy:ev e y=some w) (hv:KnS bx F v n) (hw:KnS bx F w m) (h:∀ u,K u (Ow.slice u 59 1 [v,w]::bx) F):LO Tryz.prog (.buildSlice 46 2 #[(0,x),(1,y)]) ty e bx F K:=by
 refine LO.byP (p:=(∃ a c,v=.slice a n c)∧∃ a c,w=.slice a m c) (λfr w' ho=>?_) ?_
 ·obtain⟨a1,c1,h1,_⟩:=(hv fr w' ho).is;obtain⟨a2,c2,h2,_⟩:=(hw fr w' ho).is;exact⟨⟨a1,c1,h1⟩,⟨a2,c2,h2⟩⟩
 rintro⟨⟨a',c,rfl⟩,⟨a2',c2,rfl⟩⟩;exact LO.buildSlice (el:=59) (sz:=1) (parts:=[(0,x),(1,y)]) (us:=[.slice a' n c,.slice a2' m c2]) (cs:=[.slice a' n c,.slice a2' m c2]) (.cons hx (.cons hy .nil)) (λ_=>by kernel_rfl) rfl qd h
def y_cert1 (hx:ev e x=some v) (hv:KnS bx F v n):YO Tryz.prog (.build 48 #[(0,x)]) ty e bx F (.agg #[v]):=λk fr a w0 o h1 h2 h3 h4=>by
 obtain⟨a',c,rfl,_⟩:=(hv fr w0 h4).is;exact YO.build (parts:=[(0,x)]) (us:=[.slice a' n c]) (.cons hx .nil) (λ_=>by kernel_rfl) k fr a w0 o h1 h2 h3 h4
end
def owM (v1 v2:Value) (m1 m2:QM) (i:Nat):Value×(Nat->VM):=if i=0 then(v1,λ_=>(m1,m00)) else(v2,λ_=>(m2,m00))
def owX (c:Nat) (_:Nat):Vc:=⟨if c=0 then Rat.divInt 1 2 else 1,0⟩
def ow_bal:∀ c,c < 2 ^ (Bl.exS 1 10).n->BalX (Bl.exS 1 10) ((Bl.exS 1 10).wt c) (owX c):=λc hc=>by
 have hc:c < 2:=hc;have h:=λ(q:Rat) h0 hq=>Bl.ex_own (q:=q) h0 hq;match c,hc with
 |0,_=>
  refine(h (Rat.divInt 1 2) (by decide +kernel) (by decide +kernel)).congr (λk _=>⟨rfl,rfl⟩) λi hi=>?_;have hi:i < 1:=hi;obtain rfl:i=0:=qo;rw[Bl.YB.1];decide +kernel
 |1,_=>
  refine(h 1 qd (by decide +kernel)).congr (λk _=>⟨rfl,rfl⟩) λi hi=>?_;have hi:i < 1:=hi;obtain rfl:i=0:=qo;rw[Bl.YB.2];decide +kernel
def ow_sz:∀ c,c < 2 ^ (Bl.exS 1 10).n->∀ k,k < 2*(Bl.exS 1 10).m->Sv 1 (owX c k):=λc _ k _=>by
 refine⟨?_,Sq.zero⟩;show Sq 1 (if c=0 then _ else _);split
 ·exact(Fr.of (D:=2) (A:=1) qd qd).sq qd qd qd
 ·exact X.Uj
namespace K
namespace Q
attribute [local irreducible] WC WL WD YO LO Qq W.Fin Qw Qu Qj Row QQ Qy KnS Has W.One Ql Qr
def d22 {G G':Prop} (h:G') (s:Bx G'->G:=by
 intro h;first|refine gF ?_|refine gY ?_|(apply WC.draw (id:=6) [0,1,2,3,5,7,8,9,10,12,14,15] (.h 0<|.h 1<|.h 2<|.h 3<|.h 5<|.l 4<|.l 6<|.h 7<|.h 8<|.h 9<|.h 10<|.h 12<|.l 11<|.l 13<|.h 14<|.h 15 .done) mixed kr)|(apply WC.draw (id:=16) [0,1,2,3,4,5,6,7,8,9,10,11,12,13,14,16,18,19,20,21,23,25,26,27,28,31,32,33,34,36,37,38,39,42,43,44] (.h 0<|.h 1<|.h 2<|.h 3<|.h 4<|.h 5<|.h 6<|.h 7<|.h 8<|.h 9<|.h 10<|.h 11<|.h 12<|.h 13<|.h 14<|.h 16<|.l 15<|.l 17<|.h 18<|.h 19<|.h 20<|.h 21<|.h 23<|.l 22<|.l 24<|.h 25<|.h 26<|.h 27<|.h 28<|.l 29<|.l 30<|.h 31<|.h 32<|.h 33<|.h 34<|.h 36<|.h 37<|.h 38<|.h 39<|.l 35<|.l 40<|.l 41<|.h 42<|.h 43<|.h 44 .done) mixed kr)|fail
 exact Bx.h h):G:=s ⟨h⟩
def Zr:FnB Tryz.prog 22 [] [] [isX Tryz.prog] (IsV (.bool true)):=by
 refine fO [] 146 Tryz.func22 Tryz.ntmps22 λh0=>?_;have o1:(Bl.exS 1 10).ok:=Bl.exS_ok qd;have s1:Ss 1 (Bl.exS 1 10):=Bl.exS_ss qd ((Fr.int (A:=10) 10 qd).sq qd qd qd);have o2:(Bl.exS 1 1).ok:=Bl.exS_ok qd;have s2:Ss 1 (Bl.exS 1 1):=Bl.exS_ss qd X.Uj;have o3:(Bl.exS 3 10).ok:=Bl.exS_ok qd;have s3:Ss 1 (Bl.exS 3 10):=Bl.exS_ss qd ((Fr.int (A:=10) 10 qd).sq qd qd qd);repeat'(first|intro(g:Nat)|refine d22 ?_|intro v)
 refine cW (Ya 1 1 qd qd) λm18=>?_;repeat'(first|intro(g:Nat)|refine d22 ?_|intro v)
 refine cW (HD m18 ⟨((1:Int):Rat),((1:Int):Rat)⟩) λmb=>?_;repeat'(first|intro(g:Nat)|refine d22 ?_|intro v)
 revert v;intro bl;rw[Kq (bm:=mb) (b:=⟨⟨((1:Int):Rat),((1:Int):Rat)⟩,1,2,10⟩)];refine WL.QB (S:=Qm) (v:=bl) (n:=1) (ms:=λ_=>mb) (xs:=λ_=>⟨⟨((1:Int):Rat),((1:Int):Rat)⟩,1,2,10⟩) (by repeat(first|exact Sel.head|apply Sel.tail)) (Kg (S:=Qm) (m:=mb) (x:=⟨⟨((1:Int):Rat),((1:Int):Rat)⟩,1,2,10⟩) hmA) ?_;refine cK (X2) ?_;rintro fv _ _ ⟨tm,rfl,rfl⟩;refine sNn ?_;repeat'(first|intro(g:Nat)|refine d22 ?_|intro v)
 refine cK (Xd ⟨bl,fv,λ_=>mb,λ_=>tm⟩ (Bl.exS 1 10) 1 qd qd s1 o1) ?_;rintro _ _ _ ⟨rfl,⟨cv,ms,xs,rfl,rfl,hpt⟩|⟨c,yv,my,y,rfl,rfl,hc,hinf,hy,hprev⟩⟩
 case inr=>
  exfalso;have hc:c < 2:=hc;have:c=0∨c=1:=qo;rcases this with rfl|rfl
  ·obtain⟨x,hx⟩:=Bl.ex_sat (st:=10) (c:=0) (by rw[Bl.YB.1];decide) (by rw[Bl.YB.1];decide);exact X.Yw hinf hx
  ·obtain⟨x,hx⟩:=Bl.ex_sat (st:=10) (c:=1) (by rw[Bl.YB.2];decide) (by rw[Bl.YB.2];decide);exact X.Yw hinf hx
 refine sNn ?_;repeat'(first|intro(g:Nat)|refine d22 ?_|intro v)
 refine cW (Zn.rof 1 1 qd qd) λn28=>?_;rw[show Rat.divInt 1 1=1 by decide +kernel];refine WL.y (y_push0 (m:=n28) rfl) qr qr ?_;refine WL.QG (fV (n28,m00) ⟨1,0⟩) (has_p0 hmA) ?_;repeat'(first|intro(g:Nat)|refine d22 ?_|intro v)
 refine cW (Zn.rof 1 2 qd qd) λn30=>?_;refine WL.y (y_push0 (m:=n30) rfl) qr qr ?_;refine WL.QG (fV (n30,m00) ⟨Rat.divInt 1 2,0⟩) (has_p0 hmA) ?_;repeat'(first|intro(g:Nat)|refine d22 ?_|intro v)
 refine WL.l rfl rfl (LO.bsP2 (a:=(n30,m00)) (b:=(n30,m00)) rfl rfl λv34=>?_);rw[show vcs (n30,m00)++vcs (n30,m00)=QV QD 2 (λ_=>(n30,m00)) (owX 0) from HB (S:=QD) (ms:=λ_=>(n30,m00)) (xs:=owX 0)];refine WL.QB (S:=QD) (v:=v34) (n:=2) (ms:=λ_=>(n30,m00)) (xs:=owX 0) (by repeat(first|exact Sel.head|apply Sel.tail)) (H4 (S:=QD) (ms:=λ_=>(n30,m00)) (xs:=owX 0) hmA hmA) ?_;repeat'(first|intro(g:Nat)|refine d22 ?_|intro v)
 refine WL.l rfl rfl (LO.bsP2 (a:=(n28,m00)) (b:=(n28,m00)) rfl rfl λv37=>?_);rw[show vcs (n28,m00)++vcs (n28,m00)=QV QD 2 (λ_=>(n28,m00)) (owX 1) from HB (S:=QD) (ms:=λ_=>(n28,m00)) (xs:=owX 1)];refine WL.QB (S:=QD) (v:=v37) (n:=2) (ms:=λ_=>(n28,m00)) (xs:=owX 1) (by repeat(first|exact Sel.head|apply Sel.tail)) (H4 (S:=QD) (ms:=λ_=>(n28,m00)) (xs:=owX 1) hmA hmA) ?_;refine WL.l rfl rfl (LO.bsPP2 rfl rfl (KnS.lf (S:=QD) (n:=2) (ms:=λ_=>(n30,m00)) (xs:=owX 0) hmA) (KnS.lf (S:=QD) (n:=2) (ms:=λ_=>(n28,m00)) (xs:=owX 1) hmA) λv38=>?_);rw[show[v34,v37]=QV plS 2 (owM v34 v37 n30 n28) (λc=>(2,owX c)) from HB (S:=plS) (ms:=owM v34 v37 n30 n28) (xs:=λc=>(2,owX c))];refine WL.QB (S:=plS) (v:=v38) (n:=2) (ms:=owM v34 v37 n30 n28) (xs:=λc=>(2,owX c)) (by repeat(first|exact Sel.head|apply Sel.tail)) (H4 (S:=plS) (ms:=owM v34 v37 n30 n28) (xs:=λc=>(2,owX c)) hmA hmA) ?_;refine WL.y (y_cert1 rfl (KnS.lf (S:=plS) (n:=2) (ms:=owM v34 v37 n30 n28) (xs:=λc=>(2,owX c)) hmA)) qr qr ?_;repeat'(first|intro(g:Nat)|refine d22 ?_|intro v)
 refine cK (X2) ?_;rintro fv2 _ _ ⟨tm2,rfl,rfl⟩;refine sNn ?_;repeat'(first|intro(g:Nat)|refine d22 ?_|intro v)
 refine cK (Zo ⟨bl,fv2,λ_=>mb,λ_=>tm2⟩ (Bl.exS 1 10) cv (2 ^ (Bl.exS 1 10).n) ms (λc=>(psh (2*(Bl.exS 1 10).m) (xs c)).2) 1 RA qd qd qd qd s1 o1 (λc hc k hk=>⟨(hpt c hc).2 (2*k) qo,(hpt c hc).2 (2*k+1) qo⟩)) ?_;rintro _ _ _ ⟨z,rfl,hz1,hz2,rfl,rfl⟩;obtain rfl:z=0:=hz2.2 ⟨rfl,λc hc=>Bl.Xt.1 (hpt c hc).1⟩;refine sNn ?_;repeat'(first|intro(g:Nat)|refine d22 ?_|intro v)
 refine cK (X2) ?_;rintro fv3 _ _ ⟨tm3,rfl,rfl⟩;refine sNn ?_;repeat'(first|intro(g:Nat)|refine d22 ?_|intro v)
 refine cK (Zo ⟨bl,fv3,λ_=>mb,λ_=>tm3⟩ (Bl.exS 1 10) v38 (2 ^ (Bl.exS 1 10).n) (owM v34 v37 n30 n28) owX 1 1 qd qd qd qd s1 o1 ow_sz) ?_;rintro _ _ _ ⟨z,rfl,hz3,hz4,rfl,rfl⟩;obtain rfl:z=0:=hz4.2 ⟨rfl,ow_bal⟩;refine sNn ?_;repeat'(first|intro(g:Nat)|refine d22 ?_|intro v)
 refine cW (Ya 1 1 qd qd) λm56=>?_;repeat'(first|intro(g:Nat)|refine d22 ?_|intro v)
 refine cW (HD m56 ⟨((1:Int):Rat),((1:Int):Rat)⟩) λmw=>?_;repeat'(first|intro(g:Nat)|refine d22 ?_|intro v)
 revert v;intro bw;refine cW (Zn.rof 1 1 qd qd) λn60=>?_;rw[show Rat.divInt 1 1=1 by decide +kernel];refine WL.y (YO.ix (k:=0) T.s23 rfl rfl (KnS.o1B (bm:=mw) (by exact meA)) qd) qr qr ?_;refine WL.y (YO.KT T.f88_3 rfl) qr qr ?_;refine WL.l0 rfl (LO.UP (vs:=qcs n60) (j:=0*20+16) (cs:=bcs mw) (cs':=bcs ⟨mw.c,mw.lo,mw.hi,n60⟩) rfl rfl T.r64 (Yr hmA) (by repeat(first|exact Sel.head|apply Sel.tail)) (by show 20<=20;decide) (by show 0 < 4;decide) rfl ?_);refine WL.QG (fB ⟨mw.c,mw.lo,mw.hi,n60⟩ ⟨⟨((1:Int):Rat),((1:Int):Rat)⟩,1,2,1⟩) (W.Has.bof (bm:=⟨mw.c,mw.lo,mw.hi,n60⟩) (b:=⟨⟨((1:Int):Rat),((1:Int):Rat)⟩,1,2,1⟩) (W.Has.bc (bm:=mw) (b:=⟨⟨((1:Int):Rat),((1:Int):Rat)⟩,1,2,10⟩) hmA) (W.Has.bl (bm:=mw) (b:=⟨⟨((1:Int):Rat),((1:Int):Rat)⟩,1,2,10⟩) hmA) (W.Has.bh (bm:=mw) (b:=⟨⟨((1:Int):Rat),((1:Int):Rat)⟩,1,2,10⟩) hmA) hmA) ?_;rw[Kq (bm:=⟨mw.c,mw.lo,mw.hi,n60⟩) (b:=⟨⟨((1:Int):Rat),((1:Int):Rat)⟩,1,2,1⟩)];refine WL.QB (S:=Qm) (v:=bw) (n:=1) (ms:=λ_=>⟨mw.c,mw.lo,mw.hi,n60⟩) (xs:=λ_=>⟨⟨((1:Int):Rat),((1:Int):Rat)⟩,1,2,1⟩) (by repeat(first|exact Sel.head|apply Sel.tail)) (Kg (S:=Qm) (m:=⟨mw.c,mw.lo,mw.hi,n60⟩) (x:=⟨⟨((1:Int):Rat),((1:Int):Rat)⟩,1,2,1⟩) hmA) ?_;repeat'(first|intro(g:Nat)|refine d22 ?_|intro v)
 refine cK (X2) ?_;rintro fv4 _ _ ⟨tm4,rfl,rfl⟩;refine sNn ?_;repeat'(first|intro(g:Nat)|refine d22 ?_|intro v)
 refine cK (Xd ⟨bw,fv4,λ_=>⟨mw.c,mw.lo,mw.hi,n60⟩,λ_=>tm4⟩ (Bl.exS 1 1) 1 qd qd s2 o2) ?_;rintro _ _ _ ⟨rfl,⟨cv2,ms2,xs2,rfl,rfl,hpt2⟩|⟨c,yv,my,y,rfl,rfl,hc,hinf,hy,hprev⟩⟩;case inl=>exact absurd ⟨_,(hpt2 1 qd).1⟩ (Bl.ex_no (x:=1) (st:=1) (c:=1) (by rw[Bl.YB.2];decide))
 obtain rfl:c=1:=by
  have hc:c < 2:=hc;have:c=0∨c=1:=qo;rcases this with rfl|rfl
  ·obtain⟨x,hx⟩:=Bl.ex_sat (st:=1) (c:=0) (by rw[Bl.YB.1];decide) (by rw[Bl.YB.1];decide);exact absurd hx (X.Yw hinf)
  ·rfl
 refine sNn ?_;repeat'(first|intro(g:Nat)|refine d22 ?_|intro v)
 refine cW (Ya 3 1 qd qd) λm70=>?_;repeat'(first|intro(g:Nat)|refine d22 ?_|intro v)
 refine cW (HD m70 ⟨((3:Int):Rat),((1:Int):Rat)⟩) λmo=>?_;repeat'(first|intro(g:Nat)|refine d22 ?_|intro v)
 revert v;intro bo;rw[Kq (bm:=mo) (b:=⟨⟨((3:Int):Rat),((1:Int):Rat)⟩,1,2,10⟩)];refine WL.QB (S:=Qm) (v:=bo) (n:=1) (ms:=λ_=>mo) (xs:=λ_=>⟨⟨((3:Int):Rat),((1:Int):Rat)⟩,1,2,10⟩) (by repeat(first|exact Sel.head|apply Sel.tail)) (Kg (S:=Qm) (m:=mo) (x:=⟨⟨((3:Int):Rat),((1:Int):Rat)⟩,1,2,10⟩) hmA) ?_;refine cK (X2) ?_;rintro fv5 _ _ ⟨tm5,rfl,rfl⟩;refine sNn ?_;repeat'(first|intro(g:Nat)|refine d22 ?_|intro v)
 refine cK (Xd ⟨bo,fv5,λ_=>mo,λ_=>tm5⟩ (Bl.exS 3 10) 1 qd qd s3 o3) ?_;rintro _ _ _ ⟨rfl,⟨cv3,ms3,xs3,rfl,rfl,hpt3⟩|⟨c,yv3,my3,y3,rfl,rfl,hc3,hinf3,hy3,hprev3⟩⟩;case inl=>exact absurd ⟨_,(hpt3 0 qd).1⟩ (Bl.ex_off (st:=10) (c:=0) (by decide +kernel))
 obtain rfl:c=0:=by
  have hc:c < 2:=hc3;have:c=0∨c=1:=qo;rcases this with rfl|rfl
  ·rfl
  ·exact absurd (hprev3 0 qd) (Bl.ex_off (st:=10) (c:=0) (by decide +kernel))
 refine sNn ?_;repeat'(first|intro(g:Nat)|refine d22 ?_|intro v)
 refine cK (X2) ?_;rintro fv6 _ _ ⟨tm6,rfl,rfl⟩;refine sNn ?_;repeat'(first|intro(g:Nat)|refine d22 ?_|intro v)
 refine cW (ZX ⟨bl,fv6,λ_=>mb,λ_=>tm6⟩ (Bl.exS 1 10) 1 qd 1 qd qd s1 o1) λMp=>?_;have hp13:(Bl.lp (Bl.exS 1 10) ((Bl.exS 1 10).wt 1)).m=13:=rfl;generalize hpp:Bl.lp (Bl.exS 1 10) ((Bl.exS 1 10).wt 1)=p at *;have hp4:p.v=4:=by rw[<-hpp];rfl
 rw[show((4*(Bl.exS 1 10).m:Nat):Int)=((p.v:Nat):Int) from by rw[hp4];rfl];refine WL.QG (fF Mp.gv p.v Mp.mg p.g) (W.Has.pg (M:=Mp) (m:=p.m) (gn:=p.v) (ln:=λ_=>p.v) (a:=p.a) (b:=p.b) hmA) ?_;repeat'(first|intro(g:Nat)|refine d22 ?_|intro v)
 refine cK (X2) ?_;rintro fv7 _ _ ⟨tm7,rfl,rfl⟩;refine sNn ?_;repeat'(first|intro(g:Nat)|refine d22 ?_|intro v)
 refine cK (HS ⟨bw,fv7,λ_=>⟨mw.c,mw.lo,mw.hi,n60⟩,λ_=>tm7⟩ (Bl.exS 1 1) 1 (Bl.lp (Bl.exS 1 1) ((Bl.exS 1 1).wt 1)).m yv my y 1 (yB (Bl.exS 1 1)) qd qd qd s2 o2 qd hy qd) ?_;rintro _ _ _ ⟨z,rfl,hz5,hz6,rfl,rfl⟩;obtain rfl:z=0:=hz6.2 ⟨rfl,hinf⟩;refine sNn ?_;repeat'(first|intro(g:Nat)|refine d22 ?_|intro v)
 refine cK (X2) ?_;rintro fv8 _ _ ⟨tm8,rfl,rfl⟩;refine sNn ?_;repeat'(first|intro(g:Nat)|refine d22 ?_|intro v)
 refine cK (HS ⟨bo,fv8,λ_=>mo,λ_=>tm8⟩ (Bl.exS 3 10) 0 (Bl.lp (Bl.exS 3 10) ((Bl.exS 3 10).wt 0)).m yv3 my3 y3 1 (yB (Bl.exS 3 10)) qd qd qd s3 o3 qd hy3 qd) ?_;rintro _ _ _ ⟨z,rfl,hz7,hz8,rfl,rfl⟩;obtain rfl:z=0:=hz8.2 ⟨rfl,hinf3⟩;refine sNn ?_;repeat'(first|intro(g:Nat)|refine d22 ?_|intro v)
 refine cK (ZW ⟨bl,fv,λ_=>mb,λ_=>tm⟩ (Bl.exS 1 10) 1 qd qd) ?_;rintro wv _ _ ⟨mwv,rfl,rfl⟩;refine sNn ?_;have hn1:(Bl.exS 1 10).n=1:=rfl;repeat'(first|intro(g:Nat)|refine d22 ?_|intro v)
 refine WD.y rfl (YO.ldPl1 (n:=2) (i:=1) (ms:=owM v34 v37 n30 n28) (xs:=λc=>(2,owX c)) rfl hmA qd) qr qr ?_;rw[show(owM v34 v37 n30 n28 1).1=v37 from rfl];repeat'(first|intro(g:Nat)|refine d22 ?_|intro v)
 refine cK (X2) ?_;rintro fv9 _ _ ⟨tm9,rfl,rfl⟩;refine sNn ?_;repeat'(first|intro(g:Nat)|refine d22 ?_|intro v)
 refine cK (stress_c ⟨bl,fv9,λ_=>mb,λ_=>tm9⟩ (Bl.exS 1 10) v37 (λ_=>(n28,m00)) (owX 1) 1 1 qd qd qd s1 o1 (ow_sz 1 qd)) ?_;rintro sv _ _ ⟨msv,rfl,rfl⟩;refine sNn ?_;repeat'(first|intro(g:Nat)|refine d22 ?_|intro v)
 refine WC.ret ?_;exact Fin.v (Qv.t1 rfl rfl) meA rfl
end Q
end K
end
section
open Go.RowKit
open Go.Conc hiding base G
open Go.Conc (base enter_at)
open Go.Conc (G)
namespace W
section
variable {P:Program} {sh own:Bk} {w:World} {a:Act}
def stepG_top {main:Bool} {fn:Func} {b:Frame} {todo:List Item} {v:Value} (hn:b.kind=.normal) (hd:a.defers=[]) (hf:P.funcs[b.fn]?=some fn) (hi:P.inits.idxOf? b.fn=none) (hr:(results fn a.tmps).run P w=.ok v w) :
  stepG P true (G {b.atR a todo with mode:=.returning} []) w=.ended (.done v) w (seen P b.fn ((results fn a.tmps).events P w #[])):=by
 simp[G,stepG,unwind,doReturn,Frame.atR,hn,hd,hf,hr,hi,GStep.after]
def Ha {main:Md} {fn:Func} {f:FuncId} (hm:main.b=true) (hf:P.funcs[f]?=some fn) (hi:P.inits.idxOf? f=none) {tmps:Array Value} {todo:List Item} {v:Value} {Post:Value->World->Prop} :
  ∀ (Ds:List Nat) (w:World),Ds.Nodup->(∀ D∈Ds,own D∧w.heap[D]?=some (.deferred (some [])))->
   (∀ w1,Unm own sh Ds w w1->(results fn tmps).run P w1=.ok v w1∧(∀ ev∈(results fn tmps).events P w1 #[],X0 own sh ev)∧Post v w1)->
   Run P main sh (HU P sh Post) own (G {(base f).atR ⟨tmps,Ds.map mkD⟩ todo with mode:=.returning} []) w
 |[],w,_,_,h=>by
  refine Run.stop λw2 h2=>?_;obtain⟨h3,h4,h5⟩:=h w2 ⟨h2.rest,h2.size,λk k1 k2 _=>h2.keep k k1 k2⟩;exact⟨rfl,v,_,stepG_top (main:=true) (b:=base f) rfl rfl hf hi h3,λe he=>h4 e (JF he),h5⟩
 |D::Ds,w,hn,hD,h=>by
  refine Run.go rfl λw2 h2=>?_;obtain⟨hn1,hn2⟩:=List.nodup_cons.1 hn;obtain⟨d1,d2⟩:=hD D (List.mem_cons_self ..);have hlt:∀ D'∈D::Ds,D' < w.heap.size:=λD' h'=>(Array.getElem?_eq_some_iff.1 (hD D' h').2).1;have hsame:∀ D'∈D::Ds,w2.heap[D']?=some (.deferred (some [])):=λD' h'=>by rw[h2.keep D' (hlt D' h') (.inl (hD D' h').1)];exact(hD D' h').2
  refine⟨_,_,_,VH (hsame D (List.mem_cons_self ..)),⟨⟨rfl,rfl,rfl⟩,by simp,λk _ hk=>World.putObj_heap_other (λe=>hk (e ▸ d1)),λe he=>?_⟩,?_⟩
  ·have he:=JF he;have hh:=hsame D (List.mem_cons_self ..);rw[XS hh] at he;simp at he;rcases he with rfl|rfl <;> exact .inr (.inr ⟨D,rfl,.inl d1⟩)
  ·rw[Qs (by simp)];refine Ha hm hf hi (v:=v) Ds _ hn2 (λD' h'=>⟨(hD D' (List.mem_cons_of_mem _ h')).1,?_⟩) λw1 h1=>?_
   ·rw[World.putObj_heap_other (λe=>by subst e;exact hn1 h')];exact hsame D' (List.mem_cons_of_mem _ h')
   ·refine h w1 ⟨h2.rest.trans (Rest.trans (b:=w2.putObj D (.deferred none)) ⟨rfl,rfl,rfl⟩ h1.rest),Nat.le_trans h2.size (by simpa using h1.size),λk k1 k2 k3=>?_⟩;have k4:k∉Ds:=λhx=>k3 (List.mem_cons_of_mem _ hx);rw[h1.keep k (by simpa using Nat.lt_of_lt_of_le k1 h2.size) k2 k4,World.putObj_heap_other (λe=>k3 (by rw[<-e];exact List.mem_cons_self ..)),h2.keep k k1 k2]
def calls_top {main:Md} (hm:main.b=true) {f:FuncId} (hi:P.inits.idxOf? f=none) {args:Array Value} {K:Bk->Value->World->Prop} {Post:Value->World->Prop} (h:Y2 P main sh f args own w K) (hK:∀ own' v w',K own' v w'->Post v w') :
  Run P main sh (HU P sh Post) own (G (Frame.enter P f args .normal) []) w:=by
 obtain⟨fn,cd,hf,hname,hb,hwp⟩:=h;rw[enter_at _ hf hb,<-Frame.atR_of_none (b:=base f) rfl]
 have hleave:∀ (own':Bk) (a':Act) (w':World) (todo:List Item),bodyR P sh fn K own' .ret a' w'->Run P main sh (HU P sh Post) own' (G {(base f).atR a' todo with mode:=.returning} []) w':=by
  rintro own' ⟨tmps,ds⟩ w' todo ⟨Ds,hd,q1,q2,v,q3⟩;simp only at hd;subst hd;exact Ha hm hf hi Ds w' q1 q2 λw1 h1=>⟨(q3 w1 h1).1,(q3 w1 h1).2.1,hK _ _ _ (q3 w1 h1).2.2⟩
 refine hwp (base f) [] [] _ rfl (by simp[base]) λown' e a' w' q=>?_;cases e with
 |normal=>exact Run.quiet rfl (λ_=>sg_end rfl) (hleave own' a' w' [] q)
 |ret=>exact⟨λ_ todo=>hleave own' a' w' todo q,λh=>absurd rfl h⟩
 |exit id=>exact q.elim
 |goto l=>exact q.elim
 |panic ch=>exact q.elim
 |outgrown=>exact q.elim
end
def Ext (V1 V2:World):Prop:=∀ (k:Nat) (o:Obj),V1.heap[k]?=some o->V2.heap[k]?=some o
def ZR {P:Program} {f:FuncId} {args:List Value} {F:List Fct} {v0:Value} {V1:World} (hi:P.inits.idxOf? f=none) (hf:FnB P f args [] (isX P::F) (IsV v0)) (hF:∀ g∈F,g.p ⟨Xc P,λk=>V1.heap[k]?⟩) :
  ∃ M last o w' t',runNT P (M+1) (solo (G (Frame.enter P f args.toArray .normal) []) V1) #[]=(.ended o w',t')∧runN P M (solo (G (Frame.enter P f args.toArray .normal) []) V1)=.next last∧step P last=.ended o w'∧
   Conc.Good P (λv V2=>v=v0∧Rest V1 V2∧Ext V1 V2) last o w' t':=by
 let fr:CF:=⟨Xc P,λ_=>False,λk=>k < V1.heap.size,λ_=>none,[]⟩
 have him:imm fr [] V1.heap=⟨Xc P,λk=>V1.heap[k]?⟩:=by
  unfold imm CF.see
  congr 1
  funext k
  simp[fr,ids];by_cases h:k < V1.heap.size
  ·simp[h,CF.vs,CF.no,Xc]
  ·simp[h,CF.vs,CF.no,Xc]
 have ho:OK fr [] (isX P::F) V1:=⟨⟨λ_ _ h=>(by cases h),λk hk=>hk.elim id False.elim,λk hk=>hk.elim⟩,by simp[ids],by simp[ids],by simp,λg hg=>by
  rw[him];rcases List.mem_cons.1 hg with rfl|hg
  ·rfl
  ·exact hF g hg⟩
 have hrun:=calls_top (main:=Xc P) rfl hi (Post:=λv V2=>v=v0∧Rest V1 V2∧Ext V1 V2) (hf.2 fr V1 ho) (by
  rintro own' v V2 ⟨h0,b,G,h1,h2,h3,h4⟩;obtain⟨h6,h7,h8⟩:=h1;subst h6 h7;refine⟨rfl,h2,λk o hk=>?_⟩;rw[him] at h3;exact Jr (h3.2 k o hk))
 have hlt:∀ k,(k < V1.heap.size∨False)->k < V1.heap.size:=λk h=>h.elim id False.elim
 have hct:Go.ConcN.CT (λ_=>False) (λ_ _=>False) (λ_ _=>False) (#[]:Trace) 0:=by
  have:=Go.ConcN.CT.lone (Sh:=λ_=>False) (Own:=λ_ _=>False) (Rd:=λ_ _=>False) (u:=(#[]:Trace)) (λop hop=>absurd hop (by simp)) (λop hop=>absurd hop (by simp));simpa using this
 have hp:=past_nil
 obtain⟨N,last,o,w',t',e1,e2,e3,e4⟩:=KQ (run_mainX (λ_ h=>h) hrun) (gs:=#[G (Frame.enter P f args.toArray .normal) []]) (sl:=none) (t:=#[]) (q:=λ_=>0) (Shun:=λ_=>False) rfl
  ⟨leavers_one P _,hct,by simp[Trace.HandedOver,Trace.g?],rfl,by simp,λl hl=>hl.elim,hlt⟩
 rw[solo_eq_crowd];exact⟨N,last,o,w',t',e1,e2,e3,e4⟩
end W
end
section
open Go.ChangeShapes Go.WideShapes Go.ChangeAt Go.RowKit
open W
def Again {H:Type} (enc:TypeId×Value->H) (P:Program) (V1:World) (t:TypeId) (v:Value) (d:DataW H) (p:List MemPlace):Prop:=
 ∀ (V2:World) (sp:Nat->Bool),Ext V1 V2->(∀ q∈p,sp q.block=true)->DataW.Trod enc P V2 0 sp true t v d p
def Q8 {H:Type} (enc:TypeId×Value->H) (P:Program) (V1:World) (ts:List TypeId) (vs:List Value) (ds:List (DataW H)) (p:List MemPlace):Prop:=
 ∀ (V2:World) (sp:Nat->Bool),Ext V1 V2->(∀ q∈p,sp q.block=true)->DataW.TrodAll enc P V2 0 sp true ts vs ds p
section
variable {H:Type} {enc:TypeId×Value->H} {P:Program} {V1:World}
def Q8.nil:Q8 enc P V1 [] [] [] []:=λ_ _ _ _=>rfl
def Q8.cons {t:TypeId} {ts:List TypeId} {v:Value} {vs:List Value} {d:DataW H} {ds:List (DataW H)} {p q:List MemPlace} (h:Again enc P V1 t v d p) (h2:Q8 enc P V1 ts vs ds q):Q8 enc P V1 (t::ts) (v::vs) (d::ds) (p++q):=λV2 sp he hs=>
 ⟨p,q,h V2 sp he λx hx=>hs x (List.mem_append_left _ hx),h2 V2 sp he λx hx=>hs x (List.mem_append_right _ hx),rfl⟩
def Ext_cell {V2:World} (h:Ext V1 V2) {a:Addr} {v:Value} (hc:V1.cell? a=some v):V2.cell? a=some v:=by
 unfold World.cell? at hc ⊢;cases ho:V1.heap[a.block]? with
 |none=>rw[ho] at hc;cases hc
 |some o=>rw[h _ _ ho];rw[ho] at hc;exact hc
def U8 {t e:TypeId} {b0:Nat} {v:Value} {d:DataW H} {p:List MemPlace} (ht:P.underlying t=some (.slice e)) (he:P.underlying e=some (.int .i64)) (hc:P.cellsOf e=1) (hv:Value.okWide P V1 .any b0 t v) (h:DataW.Trod enc P V1 0 (λ_=>true) true t v d p) :
  ∃ l:List Int,(∀ x∈l,I64 x)∧(sI v l).p ⟨Xc P,λk=>V1.heap[k]?⟩∧Again enc P V1 t v d p:=by
 obtain⟨fuel,hf⟩:=h;have hval:=hv;obtain⟨a0,len,cap,rfl⟩:=okWide_slice ht hv;rcases open_ints ht he hc hf with ⟨hcs,hx⟩|⟨a,len',cap',zs,hcs,_,hl,hm,hz,hx,hcell,hwz⟩
 ·simp[Value.cells] at hcs;obtain⟨rfl,rfl,rfl⟩:=hcs;simp only[Prod.mk.injEq] at hx;obtain⟨rfl,rfl⟩:=hx;exact⟨[],by simp,⟨none,0,rfl,Nat.le_refl _,by simp[maxLen],.inl ⟨rfl,rfl,rfl⟩⟩,λV2 sp _ _=>shut_slice_nil ht⟩
 ·simp[Value.cells] at hcs;obtain⟨rfl,rfl,rfl⟩:=hcs;simp only[Prod.mk.injEq] at hx;obtain⟨rfl,rfl⟩:=hx;simp only[if_true] at hz;simp only[Value.okWide,ht,Cell.okWide,Cell.ok] at hval;obtain⟨_,_,_,hsp,row,cells,hsh,_⟩:=hval;obtain⟨b,off,spot⟩:=a;simp only at hsp;subst hsp
  have hblk:∃ c el fz,V1.heap[b]?=some (.cells c el fz):=by
   unfold World.shape? at hsh;simp only at hsh;split at hsh
   ·rename_i c el fz hh;exact⟨c,el,fz,hh⟩
   ·cases hsh
  obtain⟨c,el,fz,hh⟩:=hblk;have hlz:(zs.take len).length=len:=by simp;omega
  refine⟨zs.take len,λx hx=>?_,?_,λV2 sp hE hs=>?_⟩
  ·have wa:=hwz x (List.mem_of_mem_take hx);simp[Lit.wf,IntKind.min,IntKind.max,IntKind.signed,IntKind.bits] at wa;unfold I64;omega
  ·show(slC _ (zs.take len).length 1 _).p _;rw[hlz];refine⟨_,cap,rfl,hl,hm,.inr ⟨b,off,rfl,c,el,fz,hh,λj hj=>?_⟩⟩;have hcj:=hcell j qo;simp only[World.cell?,Addr.add_lit,hh] at hcj;simp only[Option.isSome_none,Bool.false_eq_true,if_false] at hcj;rw[hcj];simp only[List.getD_eq_getElem?_getD,List.getElem?_take];rw[if_pos qo]
  ·by_cases hz0:zs.length=0
   ·have hc0:cap=0:=qo;have hl0:len=0:=qo;subst hc0;subst hl0;have t0:=shut_ints (enc:=enc) (w:=V2) (base:=0) (spare:=sp) (held:=true) (a:=⟨b,off,none⟩) (len:=0) (cap:=0) (zs:=zs) 0 ht he hc (Nat.zero_le _) (Nat.le_refl _) hm (by simp[hz0]) (λi hi=>by omega) hwz;exact⟨2,by simpa [Value.cells] using t0⟩
   ·have hspb:sp b=true:=hs (.cell b off) (MemPlace.mem_row.2 ⟨0,by omega,by simp⟩);have t0:=shut_ints (enc:=enc) (w:=V2) (base:=0) (spare:=sp) (held:=true) (a:=⟨b,off,none⟩) (len:=len) (cap:=cap) (zs:=zs) 0 ht he hc (Nat.zero_le _) hl hm (by simp[hspb,hz]) (λi hi=>Ext_cell hE (hcell i hi)) hwz;exact⟨2,by simpa [Value.cells] using t0⟩
def Vs {f:Func} {s:ChangeSpec} {V2:World} {args:Array Value} {ds gs:List (DataW H)} {before:List MemPlace} {v:Value}
  (hW:DataW.Whole enc P f.params.toList s.vars false V1 args.toList ds gs before)
  (hres:∀ (b:Nat) (sp:Nat->Bool) (hd:Bool),DataW.TrodAll enc P V2 b sp hd f.resultTypes.toList (v.resultList f.resultTypes.size) (s.fn H (ds++gs)).results [])
  (hargs:∀ sp:Nat->Bool,(∀ p∈before,sp p.block=true)->DataW.TrodAll enc P V2 0 sp true f.params.toList args.toList (s.fn H (ds++gs)).args before)
  (hvars:∀ sp:Nat->Bool,DataW.TrodVars enc P V2 sp s.vars (s.fn H (ds++gs)).vars [])
  (hr:W.Rest V1 V2) (hE:Ext V1 V2)
  (hok:∀ (j:Nat) (t:TypeId) (r:Value),f.resultTypes[j]?=some t->(v.resultList f.resultTypes.size)[j]?=some r->Value.okWide P V2 .any 0 t r) :
  s.post enc P f false true false false V1 args v V2:=by
 have hold:∀ p∈before,(λb=>decide (b < V1.heap.size)) p.block=true:=λp hp=>by simpa using hW.lt p hp
 refine⟨ds,gs,before,[],before,[],hW,hres _ _ _,hargs _ hold,hvars _,⟨hr.os,hr.output,λi hi=>?_⟩,λh=>by cases h⟩;have hk:=hE i V1.heap[i] (Array.getElem?_eq_getElem hi);rw[hk,Array.getElem?_eq_getElem hi];cases V1.heap[i] <;> simp
end
def Tryz.own:ownKnob Tryz.prog.godebug=none:=by kernel_rfl
end
end Go.Proofs.YtcpaopfdiahnnaaGreat
