/- Lemmas. Conditions: none. -/
import Derived.Test.YtbnobghgnbockaaGreatZk25
set_option linter.all false
set_option maxHeartbeats 0
set_option maxRecDepth 100000
namespace Go.Proofs.YtbnobghgnbockaaGreat
open Tryz (prog)
open W Go.RowKit
section
open Bl (Vc Bd Tc Sc)
def Sv(K:Nat)(a:Vc):Prop:=Sq K a.x/\Sq K a.y
def WD.frz{hs:List Nat}{b0:nw}{F0:nc}{r:Plan}{el n':Nat}{bx bx':nw}{L:List Oper}{Q2:Env->nw->nc->Prop}{F:nc}{P:nh}{e:Env}(v:nA)(n:Nat)(ms:Nat->QM)(q:nf)(hs':Sel bx (.slice v el 4 (Qc n ms)) (.slice nz el 4 []) bx')(hm:Has F (mF n ms q))(h:WD P n' L hs b0 F0 r e bx' (fF v n ms q::F) Q2):WD P n' L hs b0 F0 r e bx F Q2:=λfr w0 listed a w fuel Q' h1 h2 h3 h4 h5 h6 hk hr ho hf=>h fr w0 listed a w fuel Q' h1 h2 h3 h4 h5 h6 hk hr (okF ho hs' hm) hf
def mF2{F:nc}{m m':QM}{a b:Rat}{f:Nat->QM}(h1:Has F (isQ (qv m) a))(h2:Has F (isQ (qv m') b)):Has F (mF 2 (Qy (Qy f 0 m) 1 m') (λi=>if i=0 then a else b)):=λp hf i hi=>by
 match i,hi with
 |0,_=>exact h1 p hf
 |1,_=>exact h2 p hf
def sm2(a b:Rat):X.sm 2 (λi=>if i=0 then a else b)=a+b:=by
 show 0+(if 0=0 then a else b)+(if 1=0 then a else b)=_;simp;grind
attribute [local irreducible] WC WL WD YO LO Qq W.Fin Qk Qh Qj Row QZ Qv KnS Has W.One Qo QX
namespace K
def t0A{G:Prop}(h:G:=by first|((first|exact Go.Proofs.YtbnobghgnbockaaGreat.t0A|exact T.f39_0|exact T.f63_0|exact T.f63_1|exact T.f77_0|exact T.f77_1|exact T.f88_0|exact T.f88_1|exact T.f88_2|exact T.f88_3|exact T.f93_0|exact T.f93_1|exact T.f93_2|exact T.f93_3|exact T.f93_4|exact T.f93_5|exact T.f127_0|exact T.f127_1|exact T.f163_0|exact T.f163_1);done)|fail):G:=h
theorem LO.YY:True:=trivial
def t1A{G:Prop}(h:G:=by first|((first|exact Go.Proofs.YtbnobghgnbockaaGreat.t1A|exact T.al39|exact T.al63|exact T.al77|exact T.al88|exact T.al93|exact T.al127|exact T.al159|exact T.al163);done)|fail):G:=h
def t2A{G:Prop}(h:G:=by first|((first|exact Go.Proofs.YtbnobghgnbockaaGreat.t2A|exact T.DK|exact T.DW|exact T.DV|exact T.Kt|exact T.Un|exact T.Ul);done)|fail):G:=h
def t3A{G:Prop}(h:G:=by first|((first|exact Go.Proofs.YtbnobghgnbockaaGreat.t3A|exact T.z32);done)|fail):G:=h
def t4A{G:Prop}(h:G:=by first|((first|exact Go.Proofs.YtbnobghgnbockaaGreat.t4A|exact wq161);done)|fail):G:=h
def t5A{G:Prop}(h:G:=by first|((first|exact Go.Proofs.YtbnobghgnbockaaGreat.t5A|exact T.e31|exact T.e32|exact T.e37|exact T.e125|exact T.e159);done)|fail):G:=h
def t6A{G:Prop}(h:G:=by first|((first|exact Go.Proofs.YtbnobghgnbockaaGreat.t6A|exact wq79);done)|fail):G:=h
def knA{G:Prop}(h:G:=by first|((first|exact Z.knA|(focus(apply KnS.lf;exact hmA;done))|(focus(apply KnS.lo;exact meA;done))|(focus(apply KnS.vx1;exact hmA;done))|(focus(apply KnS.vx2;exact hmA;done))|(focus(apply KnS.vy1;exact hmA;done))|(focus(apply KnS.vy2;exact hmA;done)));done)|fail):G:=h
def hsA{G:Prop}(h:G:=by first|((first|exact Z.hsA|(focus(apply W.Has.vx;exact hmA;done))|(focus(apply W.Has.vy;exact hmA;done))|(focus(apply W.Has.vof;exact hmA;exact hmA;done))|(focus(apply W.Has.bc;exact hmA;done))|(focus(apply W.Has.tn;exact hmA;done))|(focus(apply W.Has.et;exact hmA;done))|exact hasV0);done)|fail):G:=h
def XA{G:Prop}(h:G:=by first|((first|exact Z.XA|(apply YO.buildV;exact rfl;exact rfl)|exact YO.buildV0|(apply YO.buildP;exact rfl;exact rfl)|(apply YO.buildE;exact rfl;exact rfl)|(apply YO.buildLb;exact rfl)|(apply YO.buildL2;exact rfl;exact knA;exact rfl)|(apply YO.buildPr;exact rfl;exact rfl;exact knA));done)|fail):G:=h
def Jf{G:Prop}(h:G:=by first|((exact Z.Jf);done)|fail):G:=h
def YU{G:Prop}(h:G:=by first|((first|exact wq135|exact Z.YU);done)|fail):G:=h
def Zp{G:Prop}(h:G:=by first|((exact Z.Zp);done)|fail):G:=h
def X7{G:Prop}(h:G:=by first|((exact Z.X7);done)|fail):G:=h
def KZ{G:Prop}(h:G:=by first|(((first|exact wq108|(apply YO.shl1;exact rfl;exact rfl;omega)));done)|fail):G:=h
def go{G G':Prop}(h:G')(s:Bx G'->G:=by
 intro h
 (first|(apply WL.Q4;rotate_left;exact rfl;(first|(apply LO.J3;exact rfl;exact rfl;exact t4A;exact seA;exact rfl;exact wq47)|(apply LO.storeC;exact rfl;exact rfl;exact t4A;exact seA;exact wq94;exact wq136)|(apply LO.XE;exact rfl;exact rfl;exact t3A;exact seA;exact wq25)|(apply LO.U3;exact rfl;exact rfl;exact t4A;exact hmA;exact seA;omega)|(apply LO.Xu;exact rfl;exact rfl;exact t3A;exact wq5;exact seA;exact wq12;exact wq10)|(apply LO.J2;exact rfl;exact rfl;exact t3A;exact wq5;exact seA;exact wq12;exact wq10)|(apply LO.YY;exact rfl;exact rfl;exact seA;exact t4A;exact rfl;exact rfl;exact wq136)))|refine Z.go ?_|fail)
 exact Bx.h h):G:=s ⟨h⟩
def goD{G G':Prop}(h:G')(s:Bx G'->G:=by
 intro h
 (first|(apply WD.Q4;exact rfl;rotate_left;exact rfl;(first|(apply LO.J3;exact rfl;exact rfl;exact t4A;exact seA;exact rfl;exact wq47)|(apply LO.storeC;exact rfl;exact rfl;exact t4A;exact seA;exact wq94;exact wq136)|(apply LO.XE;exact rfl;exact rfl;exact t3A;exact seA;exact wq25)|(apply LO.U3;exact rfl;exact rfl;exact t4A;exact hmA;exact seA;omega)|(apply LO.Xu;exact rfl;exact rfl;exact t3A;exact wq5;exact seA;exact wq12;exact wq10)|(apply LO.J2;exact rfl;exact rfl;exact t3A;exact wq5;exact seA;exact wq12;exact wq10)|(apply LO.YY;exact rfl;exact rfl;exact seA;exact t4A;exact rfl;exact rfl;exact wq136));constructor;exact ltA)|refine Z.goD ?_|fail)
 exact Bx.h h):G:=s ⟨h⟩
def goV{G G':Prop}(h:G')(s:Bx G'->G:=by
 intro h
 (first|(apply WL.Ux;rotate_left;exact rfl;exact rfl;(apply LO.GS;exact rfl;exact rfl;(repeat(first|(with_reducible apply Jd.dbl)|(with_reducible apply Jd.add)|(with_reducible exact Jd.one)|exact Jd.cast _));omega))|(apply WL.Ux;rotate_left;exact rfl;exact rfl;(apply LO.makePu;exact rfl;exact rfl;(repeat(first|(with_reducible apply Jd.dbl)|(with_reducible apply Jd.add)|(with_reducible exact Jd.one)|exact Jd.cast _));omega))|(apply WL.JW;rotate_left;exact rfl;exact rfl;(apply LO.bsR2;exact rfl;exact rfl))|(apply WL.JW;rotate_left;exact rfl;exact rfl;(apply LO.bsE2;exact rfl;exact rfl))|(apply WL.JW;rotate_left;exact rfl;exact rfl;(apply LO.bsL1;exact rfl;exact knA))|(apply WL.JW;rotate_left;exact rfl;exact rfl;(apply LO.bsL3;exact rfl;exact rfl;exact rfl;exact knA;exact knA;exact knA))|(apply WL.Jn;rotate_left;exact rfl;exact rfl;(apply LO.appR2;exact rfl;exact rfl;exact meA;exact hmA;exact hmA;(intro _;exact seA);omega))|(apply WL.Jn;rotate_left;exact rfl;exact rfl;(apply LO.appE2;exact rfl;exact rfl;exact meA;exact hmA;(intro _;exact seA);omega))|(apply WL.Jn;rotate_left;exact rfl;exact rfl;(apply LO.appLn;exact rfl;exact rfl;exact meA;exact hmA;(intro _;exact seA);omega))|(apply WL.Jn;rotate_left;exact rfl;exact rfl;(apply LO.FW;exact rfl;exact rfl;exact meA;exact hmA;exact hmA;exact hmA;(intro _;exact seA);omega))|refine Z.goV ?_|fail)
 exact Bx.h h):G:=s ⟨h⟩
def Q0{G G':Prop}(h:G')(s:Bx G'->G:=by
 intro h
 (first|(apply WD.Ux;exact rfl;rotate_left;exact rfl;exact rfl;(apply LO.GS;exact rfl;exact rfl;(repeat(first|(with_reducible apply Jd.dbl)|(with_reducible apply Jd.add)|(with_reducible exact Jd.one)|exact Jd.cast _));omega);apply Qn;(intro _;exact ltA))|(apply WD.Ux;exact rfl;rotate_left;exact rfl;exact rfl;(apply LO.makePu;exact rfl;exact rfl;(repeat(first|(with_reducible apply Jd.dbl)|(with_reducible apply Jd.add)|(with_reducible exact Jd.one)|exact Jd.cast _));omega);apply Qn;(intro _;exact ltA))|(apply WD.JW;exact rfl;rotate_left;exact rfl;exact rfl;(apply LO.bsR2;exact rfl;exact rfl);apply Qn;(intro _;exact ltA))|(apply WD.JW;exact rfl;rotate_left;exact rfl;exact rfl;(apply LO.bsE2;exact rfl;exact rfl);apply Qn;(intro _;exact ltA))|(apply WD.JW;exact rfl;rotate_left;exact rfl;exact rfl;(apply LO.bsL1;exact rfl;exact knA);apply Qn;(intro _;exact ltA))|(apply WD.JW;exact rfl;rotate_left;exact rfl;exact rfl;(apply LO.bsL3;exact rfl;exact rfl;exact rfl;exact knA;exact knA;exact knA);apply Qn;(intro _;exact ltA))|(apply WD.Jn;exact rfl;rotate_left;exact rfl;exact rfl;(apply LO.appR2;exact rfl;exact rfl;exact meA;exact hmA;exact hmA;(intro _;exact seA);omega);apply Qn;(intro _;exact ltA))|(apply WD.Jn;exact rfl;rotate_left;exact rfl;exact rfl;(apply LO.appE2;exact rfl;exact rfl;exact meA;exact hmA;(intro _;exact seA);omega);apply Qn;(intro _;exact ltA))|(apply WD.Jn;exact rfl;rotate_left;exact rfl;exact rfl;(apply LO.appLn;exact rfl;exact rfl;exact meA;exact hmA;(intro _;exact seA);omega);apply Qn;(intro _;exact ltA))|(apply WD.Jn;exact rfl;rotate_left;exact rfl;exact rfl;(apply LO.FW;exact rfl;exact rfl;exact meA;exact hmA;exact hmA;exact hmA;(intro _;exact seA);omega);apply Qn;(intro _;exact ltA))|refine Z.Q0 ?_|fail)
 exact Bx.h h):G:=s ⟨h⟩
def KH{G G':Prop}(h:G')(s:Bx G'->G:=by
 intro h
 (first|((apply LO.GS;exact rfl;exact rfl;(repeat(first|(with_reducible apply Jd.dbl)|(with_reducible apply Jd.add)|(with_reducible exact Jd.one)|exact Jd.cast _));omega);apply Qn;(intro _;exact ltA))|((apply LO.makePu;exact rfl;exact rfl;(repeat(first|(with_reducible apply Jd.dbl)|(with_reducible apply Jd.add)|(with_reducible exact Jd.one)|exact Jd.cast _));omega);apply Qn;(intro _;exact ltA))|((apply LO.bsR2;exact rfl;exact rfl);apply Qn;(intro _;exact ltA))|((apply LO.bsE2;exact rfl;exact rfl);apply Qn;(intro _;exact ltA))|((apply LO.bsL1;exact rfl;exact knA);apply Qn;(intro _;exact ltA))|((apply LO.bsL3;exact rfl;exact rfl;exact rfl;exact knA;exact knA;exact knA);apply Qn;(intro _;exact ltA))|((apply LO.appR2;exact rfl;exact rfl;exact meA;exact hmA;exact hmA;(intro _;exact seA);omega);apply Qn;(intro _;exact ltA))|((apply LO.appE2;exact rfl;exact rfl;exact meA;exact hmA;(intro _;exact seA);omega);apply Qn;(intro _;exact ltA))|((apply LO.appLn;exact rfl;exact rfl;exact meA;exact hmA;(intro _;exact seA);omega);apply Qn;(intro _;exact ltA))|((apply LO.FW;exact rfl;exact rfl;exact meA;exact hmA;exact hmA;exact hmA;(intro _;exact seA);omega);apply Qn;(intro _;exact ltA))|refine Z.KH ?_|fail)
 exact Bx.h h):G:=s ⟨h⟩
def goLS{G G':Prop}(h:G')(s:Bx G'->G:=by
 intro h
 (first|((first|(apply LO.J3;exact rfl;exact rfl;exact t4A;exact seA;exact rfl;exact wq47)|(apply LO.storeC;exact rfl;exact rfl;exact t4A;exact seA;exact wq94;exact wq136)|(apply LO.XE;exact rfl;exact rfl;exact t3A;exact seA;exact wq25)|(apply LO.U3;exact rfl;exact rfl;exact t4A;exact hmA;exact seA;omega)|(apply LO.Xu;exact rfl;exact rfl;exact t3A;exact wq5;exact seA;exact wq12;exact wq10)|(apply LO.J2;exact rfl;exact rfl;exact t3A;exact wq5;exact seA;exact wq12;exact wq10)|(apply LO.YY;exact rfl;exact rfl;exact seA;exact t4A;exact rfl;exact rfl;exact wq136));constructor;exact ltA))
 exact Bx.h h):G:=s ⟨h⟩
def Zt{G G':Prop}(h:G')(s:Bx G'->G:=by
 intro h;refine Z.Zt ?_;exact Bx.h h):G:=s ⟨h⟩
def Vp{G G':Prop}(h:G')(s:Bx G'->G:=by
 intro h
 (apply WD.fy;exact rfl;exact wq159;exact rfl;exact rfl)
 exact Bx.h h):G:=s ⟨h⟩
section
variable {P:nh}{n:Nat}{L rest:List Oper}{e:Env}{bx b0:nw}{F F0:nc}{Q:Env->nw->nc->Prop}{d i:Nat}{ty:nl}{pos:String}{af:Array Edge}{g:Option (Nat×Bool)}{hs:List Nat}{r:Plan}
 {f:np} {x:ni} {args:List ni} {ats:Array nl} {vs cs:ne} {F':nc} {u:nA} {el sz:Nat}
def WL.Y1(hf:FnB P f vs [] F' (IsV u))(hK:WL P n L rest ((d,u)::e) bx F Q)(hx:ev e x=some (.func (.func f) #[] #[]):=by exact rfl)(hv:Evs e args vs:=by repeat(first|exact Evs.nil|(apply Evs.cons;exact rfl)))(hF:QY bx F F':=by repeat(first|exact QY.nil|(apply QY.cons;exact wq15)))
  (hd:Nat.blt d n=true:=by exact rfl) (hg:gok L e g=some true:=by exact rfl):WL P n L (⟨some d,.call {callee:=.value x,args:=args.toArray,argTypes:=ats},ty,pos,af,g⟩::rest) e bx F Q:=
 WL.l hd hg (LO.UC hx hv hf hF hK)
def WL.callO(hf:FnB P f vs [] F' (IsO el sz cs))(hK:∀v,WL P n L rest ((d,v)::e) (Ow.slice v el sz cs::bx) F Q)(hx:ev e x=some (.func (.func f) #[] #[]):=by exact rfl)(hv:Evs e args vs:=by repeat(first|exact Evs.nil|(apply Evs.cons;exact rfl)))(hF:QY bx F F':=by repeat(first|exact QY.nil|(apply QY.cons;exact wq15)))
  (hd:Nat.blt d n=true:=by exact rfl) (hg:gok L e g=some true:=by exact rfl):WL P n L (⟨some d,.call {callee:=.value x,args:=args.toArray,argTypes:=ats},ty,pos,af,g⟩::rest) e bx F Q:=
 WL.l hd hg (LO.callRO hx hv hf hF hK)
def WD.Y1(hf:FnB P f vs [] F' (IsV u))(hK:WD P n L hs b0 F0 r ((d,u)::e) bx F Q)(hL:L[i]?=some ⟨some d,.call {callee:=.value x,args:=args.toArray,argTypes:=ats},ty,pos,af,g⟩:=by exact rfl)(hx:ev e x=some (.func (.func f) #[] #[]):=by exact rfl)(hv:Evs e args vs:=by repeat(first|exact Evs.nil|(apply Evs.cons;exact rfl)))(hF:QY bx F F':=by repeat(first|exact QY.nil|(apply QY.cons;exact wq15)))
  (hd:Nat.blt d n=true:=by exact rfl) (hg:gok L e g=some true:=by exact rfl) (lt:Q3 L hs i=true\/(b0.Sublist bx/\∀f∈F0,f∈F):=by exact ltA):WD P n L hs b0 F0 (.loud i r) e bx F Q:=
 WD.l hL hd hg (LO.UC hx hv hf hF ⟨lt,hK⟩)
end
end K
end
section
open Bl (Vc)
def nsum{n K i:Nat}{q:nf}(hK:n*(K+1)+1<=400000000)(hi:i<=n)(h:∀i,i<n->Sq K (q i)):Sm (X.sm i q):=
 (X.YM λj hj=>h j qo).sm (by have:=aM (K+1) hi;omega)
namespace K
attribute [local irreducible] WC WL WD YO LO Qq W.Fin Qk Qh Qj Row QZ Qv KnS Has W.One Qo QX
def d109{G G':Prop}(h:G')(s:Bx G'->G:=by
 intro h;first|refine gB ?_|(apply WC.draw (id:=1) [0,1,2,3,5,6,7,8] (.h 0<|.h 1<|.h 2<|.h 3<|.h 5<|.h 6<|.h 7<|.h 8<|.l 4<|.l 9<|.l 10<|.l 11<|.l 12<|.l 13 .done) mixed kr)|fail
 exact Bx.h h):G:=s ⟨h⟩
def d109r{G G':Prop}(h:G')(s:Bx G'->G:=by
 intro h;repeat'(first|intro(zQ:Nat)|refine d109 ?_|intro zQ)
 repeat revert zQ
 exact Bx.h h):G:=s ⟨h⟩

def d110{G G':Prop}(h:G')(s:Bx G'->G:=by
 intro h;first|refine gB ?_|(apply WC.draw (id:=1) [0,1,2,3,5,6,7,8,10] (.h 0<|.h 1<|.h 2<|.h 3<|.h 5<|.h 6<|.h 7<|.h 8<|.l 4<|.l 9<|.h 10<|.l 11 .done) mixed kr)|fail
 exact Bx.h h):G:=s ⟨h⟩
def d173{G G':Prop}(h:G')(s:Bx G'->G:=by
 intro h;first|refine gB ?_|(apply WC.draw (id:=1) [0,1,2,3,5,6,7,8,10] (.h 0<|.h 1<|.h 2<|.h 3<|.h 5<|.h 6<|.h 7<|.h 8<|.l 4<|.l 9<|.h 10<|.l 11 .done) mixed kr)|fail
 exact Bx.h h):G:=s ⟨h⟩
def d174{G G':Prop}(h:G')(s:Bx G'->G:=by
 intro h;first|refine gB ?_|(apply WC.draw (id:=1) [0,1,2,4,5,6,8] (.h 0<|.h 1<|.h 2<|.h 4<|.h 5<|.h 6<|.l 3<|.l 7<|.h 8<|.l 9 .done) mixed kr)|fail
 exact Bx.h h):G:=s ⟨h⟩
def d177{G G':Prop}(h:G')(s:Bx G'->G:=by
 intro h;first|refine gB ?_|(apply WC.draw (id:=1) [0,1,2,3,5,6,7,8] (.h 0<|.h 1<|.h 2<|.h 3<|.h 5<|.h 6<|.h 7<|.h 8<|.l 4<|.l 9<|.l 10<|.l 11<|.l 12 .done) mixed kr)|fail
 exact Bx.h h):G:=s ⟨h⟩
def sum_c(v:nA)(n K:Nat)(ms:Nat->QM)(q:nf)(hK:n*(K+1)+1<=400000000)(hk:K<=400000000)(h:∀i,i<n->Sq K (q i)):FnB prog 183 [v] [] [fF v n ms q] (IsR (X.sm n q)):=by
 refine fO [(0,v)] 17 Tryz.func183 Tryz.ntmps183 λh0=>?_;refine WC.lenF (v:=v) (m:=n) (W.Has.fs (ms:=ms) (qf:=q) hmA) λhm=>?_;refine gAr ?_;intro g g;revert g;intro g3;refine WC.lp (σ:=Nat×QM) (λst=>[(8,nj (st.1:Int)),(7,nj n),(6,v),(3,ptr g3),(2,ptr g)]) (λst=>[Ow.cells g3 75 (qcs st.2),Ow.cells g 75 (qcs m00)]) (λst=>[isQ (qv st.2) (X.sm st.1 q),ge h0,fF v n ms q]) (λst=>st.1<=n) (λst=>n-st.1) (0,m00) (aj _) ?_ (hG:=.cons Jr haA);rintro⟨i,m⟩ hi;simp only at hi ⊢;by_cases c:i<n
 .refine WC.fact (isQ (qv (ms i)) (q i)) (W.Has.q (W.Has.fm (v:=v) hmA) c) ?_;refine gAr ?_;intro g;refine cW (Zn.add m (ms i) (X.sm i q) (q i) (nsum hK hi h) ((h i c).sm hk)) λm2=>?_;refine gAr ?_;exact Qq.mk (i+1,m2) wq14 wq14
 .obtain rfl:i=n:=qo;refine gAr ?_;refine WC.ret ?_;exact Fp [isQ (qv m) (X.sm i q)] (rcV T.r75) haA ⟨m,rfl,rfl,rfl⟩
def vadd_c(m1 m2:VM)(a b:Vc)(K:Nat)(hK:K<=100000000)(ha:Sv K a)(hb:Sv K b):FnB prog 173 [vv m1,vv m2] [] [fV m1 a,fV m2 b] (Vo (⟨a.x+b.x,a.y+b.y⟩)):=by
 refine fO [(0,(vv m1)),(1,(vv m2))] 16 Tryz.func173 Tryz.ntmps173 λh0=>?_;repeat'(first|intro(g:Nat)|refine d173 ?_|intro v)
 refine cW (Zn.add m1.1 m2.1 a.x b.x (ha.1.sm qo) (hb.1.sm qo)) λn1=>?_;repeat'(first|intro(g:Nat)|refine d173 ?_|intro v)
 refine cW (Zn.add m1.2 m2.2 a.y b.y (ha.2.sm qo) (hb.2.sm qo)) λn2=>?_;repeat'(first|intro(g:Nat)|refine d173 ?_|intro v)
 refine WC.ret ?_;exact Fp [fV (n1,n2) (⟨a.x+b.x,a.y+b.y⟩)] (rcV T.r77) haA ⟨(n1,n2),rfl,rfl,rfl⟩
def vsub_c(m1 m2:VM)(a b:Vc)(K:Nat)(hK:K<=100000000)(ha:Sv K a)(hb:Sv K b):FnB prog 110 [vv m1,vv m2] [] [fV m1 a,fV m2 b] (Vo (Bl.Jl a b)):=by
 refine fO [(0,(vv m1)),(1,(vv m2))] 16 Tryz.func110 Tryz.ntmps110 λh0=>?_;repeat'(first|intro(g:Nat)|refine d110 ?_|intro v)
 refine cW (Zn.sub m1.1 m2.1 a.x b.x (ha.1.sm qo) (hb.1.sm qo)) λn1=>?_;repeat'(first|intro(g:Nat)|refine d110 ?_|intro v)
 refine cW (Zn.sub m1.2 m2.2 a.y b.y (ha.2.sm qo) (hb.2.sm qo)) λn2=>?_;repeat'(first|intro(g:Nat)|refine d110 ?_|intro v)
 exact wq106
def Gq(m1:VM)(mk:QM)(a:Vc)(k:Rat)(K:Nat)(hK:K<=100000000)(ha:Sv K a)(hk:Sq K k):FnB prog 174 [vv m1,qv mk] [] [fV m1 a,isQ (qv mk) k] (Vo ⟨a.x*k,a.y*k⟩):=by
 refine fO [(0,(vv m1)),(1,(qv mk))] 14 Tryz.func174 Tryz.ntmps174 λh0=>?_;repeat'(first|intro(g:Nat)|refine d174 ?_|intro v)
 refine cW (Zn.mul m1.1 mk a.x k (ha.1.sm qo) (hk.sm qo)) λn1=>?_;repeat'(first|intro(g:Nat)|refine d174 ?_|intro v)
 refine cW (Zn.mul m1.2 mk a.y k (ha.2.sm qo) (hk.sm qo)) λn2=>?_;repeat'(first|intro(g:Nat)|refine d174 ?_|intro v)
 exact wq101
def vcross_c(m1 m2:VM)(a b:Vc)(K:Nat)(hK:K<=10000000)(ha:Sv K a)(hb:Sv K b):FnB prog 109 [vv m1,vv m2] [] [fV m1 a,fV m2 b] (IsR (Bl.JZ a b)):=by
 refine fO [(0,(vv m1)),(1,(vv m2))] 18 Tryz.func109 Tryz.ntmps109 λh0=>?_;refine d109r ?_;intro g g g;refine cW (Zn.mul m1.1 m2.2 a.x b.y (ha.1.sm qo) (hb.2.sm qo)) λn1=>?_;refine d109r ?_;refine cW (Zn.mul m1.2 m2.1 a.y b.x (ha.2.sm qo) (hb.1.sm qo)) λn2=>?_;refine d109r ?_;refine cW (Zn.neg n2 (a.y*b.x)) λn3=>?_;refine d109r ?_;intro v;refine WD.frz v 2 (Qy (Qy (λ_=>m00) 0 n1) 1 n3) (λi=>if i=0 then a.x*b.y else -(a.y*b.x)) wq3 (mF2 hmA hmA) ?_;refine cW (sum_c v 2 (K+K) (Qy (Qy (λ_=>m00) 0 n1) 1 n3) (λi=>if i=0 then a.x*b.y else -(a.y*b.x)) qo qo (λi _=>by show Sq _ (if _ then _ else _);split;exact ha.1.mul hb.2;exact(ha.2.mul hb.1).neg)) λn4=>?_;rw[sm2,show a.x*b.y+ -(a.y*b.x)=Bl.JZ a b by unfold Bl.JZ;grind];refine d109r ?_;refine WC.ret ?_;exact Fp [isQ (qv n4) (Bl.JZ a b)] (rcV T.r75) haA ⟨n4,rfl,rfl,rfl⟩
def vdot_c(m1 m2:VM)(a b:Vc)(K:Nat)(hK:K<=10000000)(ha:Sv K a)(hb:Sv K b):FnB prog 177 [vv m1,vv m2] [] [fV m1 a,fV m2 b] (IsR (a.x*b.x+a.y*b.y)):=by
 refine fO [(0,(vv m1)),(1,(vv m2))] 17 Tryz.func177 Tryz.ntmps177 λh0=>?_;repeat'(first|intro(g:Nat)|refine d177 ?_|intro v)
 refine cW (Zn.mul m1.1 m2.1 a.x b.x (ha.1.sm qo) (hb.1.sm qo)) λn1=>?_;repeat'(first|intro(g:Nat)|refine d177 ?_|intro v)
 refine cW (Zn.mul m1.2 m2.2 a.y b.y (ha.2.sm qo) (hb.2.sm qo)) λn3=>?_;repeat'(first|intro(g:Nat)|refine d177 ?_|intro v)
 refine WD.frz v 2 (Qy (Qy (λ_=>m00) 0 n1) 1 n3) (λi=>if i=0 then a.x*b.x else a.y*b.y) wq3 (mF2 hmA hmA) ?_;refine cW (sum_c v 2 (K+K) (Qy (Qy (λ_=>m00) 0 n1) 1 n3) (λi=>if i=0 then a.x*b.x else a.y*b.y) qo qo (λi _=>by show Sq _ (if _ then _ else _);split;exact ha.1.mul hb.1;exact ha.2.mul hb.2)) λn4=>?_;rw[sm2];repeat'(first|intro(g:Nat)|refine d177 ?_|intro v)
 refine WC.ret ?_;exact Fp [isQ (qv n4) (a.x*b.x+a.y*b.y)] (rcV T.r75) haA ⟨n4,rfl,rfl,rfl⟩
def vsame_c(m1 m2:VM)(a b:Vc):FnB prog 175 [vv m1,vv m2] [] [fV m1 a,fV m2 b] (IsV (.bool (decide (a.x=b.x/\a.y=b.y)))):=by
 refine fO [(0,(vv m1)),(1,(vv m2))] 17 Tryz.func175 Tryz.ntmps175 λh0=>?_;refine gAr ?_;intro g g;refine cV (Zn.same m1.1 m2.1 a.x b.x) ?_;by_cases c:a.x=b.x
 .rw[aq c];refine gAr ?_;refine cV (Zn.same m1.2 m2.2 a.y b.y) ?_;refine gAr ?_;exact wq67
 .rw[ak c];refine gAr ?_;exact wq67
end K
end
def Dg.in{l:nd}(h:Dg l)(i:Nat)(hi:i<l.length):0<=l.getD i 0/\l.getD i 0<1000000000:=h.any i
namespace K
attribute [local irreducible] WC WL WD YO LO Qq W.Fin Qk Qh Qj Row QZ Qv KnS Has W.One Qo QX
def digitOk_c(d:Int)(h:0<=d/\d<1000000000):FnB prog 207 [nj d] [] [] (IsV nq):=by
 refine fO [(0,(nj d))] 9 Tryz.func207 Tryz.ntmps207 λh0=>?_;obtain⟨h1,h2⟩:=h;refine gAr ?_;exact wq4
def noIndexI_c(v:nA)(l:nd)(f:np)(hf:∀i,i<l.length->FnB prog f [nj (l.getD i 0)] [] [] (IsV nq)):FnB prog 223 [v,.func (.func f) #[] #[]] [] [sI v l] (IsV (nj (-1))):=by
 refine fO [(0,v),(1,(.func (.func f) #[] #[]))] 19 Tryz.func223 Tryz.ntmps223 λh0=>?_;refine WC.ZE v l hmA λhm=>?_;refine gAr ?_;refine WC.lp (σ:=Nat) (λi=>[(8,nj i),(7,nj (l.length:Int)),(0,v),(1,.func (.func f) #[] #[])]) (λ_=>[]) (λ_=>[ge h0,sI v l]) (λi=>i<=l.length) (λi=>l.length-i) 0 (aj _) ?_;intro i hi;by_cases c:i<l.length
 .refine gAr ?_;refine WL.XV [] [] (vs:=[nj (l.getD i 0)]) (by simpa using hf i c) ?_;rintro _ _ _ ⟨rfl,rfl,rfl⟩;refine gAs ?_;exact Qq.mk (i+1) qo qo
 .obtain rfl:i=l.length:=qo;refine gAr ?_;exact wq4
def Gy(v:nA)(l:nd)(f:np)(hf:∀i,i<l.length->FnB prog f [nj (l.getD i 0)] [] [] (IsV nq)):FnB prog 206 [v,.func (.func f) #[] #[]] [] [sI v l] (IsV nq):=by
 refine fO [(0,v),(1,(.func (.func f) #[] #[]))] 9 Tryz.func206 Tryz.ntmps206 λh0=>?_;refine gAr ?_;refine cV (noIndexI_c v l f hf) ?_;refine gAr ?_;exact wq4
def ivalid_c(v:nA)(z:Int):FnB prog 161 [v] [] [isZ v z] (IsV (.bool true)):=by
 refine fO [(0,v)] 32 Tryz.func161 Tryz.ntmps161 λh0=>?_;refine WC.Jw (v:=v) (z:=z) hmA λn1 d1 hv hb1=>?_;subst hv;refine WC.fact (sI d1 (Qx z.natAbs)) (QH hmA) ?_;have hd:=Qe z.natAbs;have hn:=ZV z.natAbs;have hl:=@QN z.natAbs;generalize Qx z.natAbs=l at *;refine WC.ZE d1 l hmA λhlen=>?_;refine gAr ?_;intro g;refine cV (Gy d1 l _ λi hi=>digitOk_c _ (hd.in i hi)) ?_;by_cases c:l.length=0
 .obtain rfl:n1=false:=by rw[hb1,ak];have:=hl.1 c;omega
  refine gAr ?_;exact wq4
 .have h1:=hn qo;rw[show l.length-1=((l.length:Int)-1).toNat by omega] at h1;refine gAr ?_;exact wq4
def XF(m:QM)(q:Rat)(hq:Sm q):FnB prog 78 [qv m] [] [isQ (qv m) q] (IsV (.bool true)):=by
 refine fO [(0,(qv m))] 36 Tryz.func78 Tryz.ntmps78 λh0=>?_;refine WC.fact (isZ (.agg #[.bool m.1,m.2.1]) q.num) (JX hmA) ?_;refine WC.fact (isZ (.agg #[nq,m.2.2]) (qz q)) (Hb hmA) ?_;refine WC.fact (sI m.2.2 (Qx (qz q).natAbs)) (Kq hmA) ?_;have hl:=@ZO q;refine gAr ?_;intro g;refine cV (ivalid_c (.agg #[.bool m.1,m.2.1]) q.num) ?_;refine gAr ?_;refine cV (ivalid_c (.agg #[nq,m.2.2]) (qz q)) ?_;refine gAr ?_;refine cV (Rtm.KC (.agg #[nq,m.2.2]) (qz q)) ?_;have h1:qz q≠1:=by unfold qz;split<;>omega
 rw[ak h1];by_cases c:q.den=1
 .have h2:=hl.2 c;refine gAr ?_;exact wq4
 .have h2:(Qx (qz q).natAbs).length≠0:=λh=>c (hl.1 h);have h3:qz q=(q.den:Int):=by unfold qz;rw[ae c]
  have hgcd:Int.gcd q.num (qz q)=1:=by rw[h3];exact q.reduced
  refine gAr ?_;refine cK (Dvz.gcd_c (.agg #[.bool m.1,m.2.1]) (.agg #[nq,m.2.2]) q.num (qz q) (Sm.w hq.1) (by rw[h3,aG];exact Sm.w hq.2)) ?_;rintro _ _ _ ⟨n1,d1,rfl,hb1,rfl,rfl⟩;refine gAs ?_;refine cV (Rtm.KC (.agg #[.bool n1,d1]) _) ?_;refine gAr ?_;exact wq123
end K
section
open Bl (Vc Bd Tc Sc)
def Sb(K:Nat)(b:Bd):Prop:=Sv K b.c/\Sq K b.lo/\Sq K b.hi/\Sq K b.st
def St(K:Nat)(t:Tc):Prop:=Sv K t.p/\Sv K t.q/\Sv K t.n/\Sq K t.r
namespace K
attribute [local irreducible] WC WL WD YO LO Qq W.Fin Qk Qh Qj Row QZ Qv KnS Has W.One Qo QX
def d85{G G':Prop}(h:G')(s:Bx G'->G:=by
 intro h;first|refine gB ?_|(apply WC.draw (id:=3) [0,1,3,4,5,6,7,9,10,11,12,13,14,15,16,17,21,22,23] (.h 0<|.h 1<|.l 2<|.h 3<|.h 4<|.h 5<|.h 6<|.h 7<|.l 8<|.h 9<|.h 10<|.h 11<|.h 12<|.h 13<|.h 14<|.h 15<|.h 16<|.h 17<|.l 18<|.l 19<|.l 20<|.h 21<|.h 22<|.h 23 .done) mixed kr)|fail
 exact Bx.h h):G:=s ⟨h⟩
def d85r{G G':Prop}(h:G')(s:Bx G'->G:=by
 intro h;repeat'(first|intro(zQ:Nat)|refine d85 ?_|intro zQ)
 repeat revert zQ
 exact Bx.h h):G:=s ⟨h⟩

def VF(m:VM)(a:Vc)(K:Nat)(hK:K<=10000000)(ha:Sv K a):FnB prog 176 [vv m] [] [fV m a] (IsV (.bool true)):=by
 refine fO [(0,(vv m))] 11 Tryz.func176 Tryz.ntmps176 λh0=>?_;refine gAr ?_;intro g;refine cV (XF m.1 a.x (ha.1.sm qo)) ?_;refine gAr ?_;refine cV (XF m.2 a.y (ha.2.sm qo)) ?_;refine gAr ?_;exact wq4
def isBody_c(m:BM)(b:Bd)(K:Nat)(hK:K<=10000000)(hs:Sb K b)(hb:Bl.BdOk b):FnB prog 84 [bv m] [] [fB m b] (IsV (.bool true)):=by
 refine fO [(0,(bv m))] 43 Tryz.func84 Tryz.ntmps84 λh0=>?_;refine WC.fact (fV m.c b.c) (W.Has.bc (bm:=m) hmA) ?_;refine WC.fact (isQ (qv m.lo) b.lo) (W.Has.bl (b:=b) hmA) ?_;refine WC.fact (isQ (qv m.hi) b.hi) (W.Has.bh (b:=b) hmA) ?_;refine WC.fact (isQ (qv m.st) b.st) (W.Has.bs (b:=b) hmA) ?_;have h1:=Ur.2 hb.1;have h2:=Rat.not_lt.2 hb.2.1;have h3:=Ur.2 hb.2.2;have h4:XN b.lo b.hi<=0:=Int.not_lt.1 λh=>h2 (JE.1 h);refine gAr ?_;intro g;refine cV (VF m.c b.c K hK hs.1) ?_;refine gAr ?_;refine cV (XF m.lo b.lo (hs.2.1.sm qo)) ?_;refine gAr ?_;refine cV (XF m.hi b.hi (hs.2.2.1.sm qo)) ?_;refine gAr ?_;refine cV (XF m.st b.st (hs.2.2.2.sm qo)) ?_;refine gAr ?_;refine cV (Zn.sign m.lo b.lo) ?_;refine gAr ?_;refine cV (Zn.cmp m.lo m.hi b.lo b.hi (hs.2.1.sm qo) (hs.2.2.1.sm qo)) ?_;refine gAr ?_;refine cV (Zn.sign m.st b.st) ?_;refine gAr ?_;exact wq4
def isTouch_c(m:ToM)(t:Tc)(n K:Nat)(hK:K<=1000000)(hs:St K t)(ht:Bl.Y0 n t)(hn:n<=1000):FnB prog 85 [tv m t,nj n] [] [fT m t] (IsV (.bool true)):=by
 refine fO [(0,(tv m t)),(1,(nj n))] 79 Tryz.func85 Tryz.ntmps85 λh0=>?_;refine WC.fact (fV m.p t.p) (W.Has.tp (tm:=m) hmA) ?_;refine WC.fact (fV m.q t.q) (W.Has.tq (tm:=m) hmA) ?_;refine WC.fact (fV m.n t.n) (W.Has.tn (tm:=m) hmA) ?_;refine WC.fact (isQ (qv m.r) t.r) (W.Has.trr (t:=t) hmA) ?_;obtain⟨a1,a2,b1,b2,ab,r0,n0,pq⟩:=ht;have h1:0<=sgn t.r.num:=Int.not_lt.1 λh=>Rat.not_lt.2 r0 (Xq.1 h);refine d85r ?_;intro g;refine cV (VF m.p t.p K qo hs.1) ?_;refine d85r ?_;refine cV (VF m.q t.q K qo hs.2.1) ?_;refine d85r ?_;refine cV (VF m.n t.n K qo hs.2.2.1) ?_;refine d85r ?_;refine cV (XF m.r t.r (hs.2.2.2.sm qo)) ?_;refine d85r ?_;refine cV (Zn.sign m.r t.r) ?_;refine d85r ?_;refine cV (vsame_c m.n (m00,m00) t.n ⟨0,0⟩) ?_;rw[ak n0];refine d85r ?_;refine cW (vsub_c m.q m.p t.q t.p K qo hs.2.1 hs.1) λm2=>?_;refine d85r ?_;refine cW (vdot_c m.n m2 t.n (Bl.Jl t.q t.p) (K+K+1) qo ⟨hs.2.2.1.1.up qo,hs.2.2.1.2.up qo⟩ ⟨hs.2.1.1.sub hs.1.1,hs.2.1.2.sub hs.1.2⟩) λn2=>?_;refine d85r ?_;refine cV (Zn.sign n2 (t.n.x*(Bl.Jl t.q t.p).x+t.n.y*(Bl.Jl t.q t.p).y)) ?_;rw[show t.n.x*(Bl.Jl t.q t.p).x+t.n.y*(Bl.Jl t.q t.p).y=0 from pq,(Je.2 rfl:sgn (0:Rat).num=0)];refine d85r ?_;exact wq4
end K
structure Ss(K:Nat)(S:Sc):Prop where
 B:∀i,i<S.n->Sb K (S.B i)
 T:∀j,j<S.m->St K (S.T j)
structure SM where
 l:nA
 t:nA
 B:Nat->BM
 T:Nat->ToM
abbrev fSl(M:SM)(S:Sc):Fct:=lF QQ M.l S.n M.B S.B
abbrev fSt(M:SM)(S:Sc):Fct:=lF Qu M.t S.m M.T S.T
def ab_p{q:Rat}(h:sgn q.num<0):Bl.ab q= -q:=ah (Xq.1 h)
def ab_n{q:Rat}(h:¬sgn q.num<0):Bl.ab q=q:=ae λx=>h (Xq.2 x)
def Sq.ab{K:Nat}{q:Rat}(h:Sq K q):Sq K (Bl.ab q):=by unfold Bl.ab;split;exact h.neg;exact h
def di1(n:Int):Rat.divInt n 1=(n:Rat):=by
 show Rat.divInt n ((1:Nat):Int)=_;rw[ca,Rat.mkRat_one]
def DD(K:Nat)(hK:0<K)(n:Int)(h:n.natAbs<1000000000):Sq K (Rat.divInt n 1):=by
 rw[di1];exact Sq.int (by by_cases h0:n.natAbs=0;(rw[h0,JJ];exact aj _);rw[J1 qo h];exact hK) hK
namespace K
attribute [local irreducible] WC WL WD YO LO Qq W.Fin Qk Qh Qj Row QZ Qv KnS Has W.One Qo QX
def d104{G G':Prop}(h:G')(s:Bx G'->G:=by
 intro h;first|refine gB ?_|(apply WC.draw (id:=5) [0] (.h 0<|.l 1<|.l 2<|.l 3 .done) mixed kr)|fail
 exact Bx.h h):G:=s ⟨h⟩
def d104r{G G':Prop}(h:G')(s:Bx G'->G:=by
 intro h;repeat'(first|intro(zQ:Nat)|refine d104 ?_|intro zQ)
 repeat revert zQ
 exact Bx.h h):G:=s ⟨h⟩

def d105{G G':Prop}(h:G')(s:Bx G'->G:=by
 intro h;first|refine gB ?_|(apply WC.draw (id:=1) [0,1,3,4,5] (.h 0<|.h 1<|.h 3<|.h 4<|.l 2<|.h 5<|.l 6 .done) mixed kr)|fail
 exact Bx.h h):G:=s ⟨h⟩
def Kv(M:SM)(S:Sc)(K:Nat)(hK:K<=1000000)(hs:Ss K S)(ho:S.ok):FnB prog 49 [M.l,M.t] [] [fSl M S,fSt M S] (IsV (nj 0)):=by
 refine fO [(0,M.l),(1,M.t)] 39 Tryz.func49 Tryz.ntmps49 λh0=>?_;have hn:=ho.n;have hm:=ho.m;refine gAr ?_;refine WC.JK (σ:=Unit) (λ_=>[(0,M.l),(1,M.t),(4,nj 0)]) (λ_=>[]) (λ_=>[ge h0,fSl M S,fSt M S]) (λ_=>True) ?_ ?_
 .refine WC.lp (σ:=Nat) (λi=>[(19,nj i),(18,nj (S.n:Int)),(17,M.l),(0,M.l),(1,M.t),(4,nj 0)]) (λ_=>[]) (λ_=>[ge h0,fSl M S,fSt M S]) (λi=>i<=S.n) (λi=>S.n-i) 0 (aj _) ?_;intro i hi;by_cases c:i<S.n
  .refine WC.fact (fB (M.B i) (S.B i)) (W.Has.lk (S:=QQ) (v:=M.l) hmA c) ?_;refine gAr ?_;intro g;refine cV (isBody_c (M.B i) (S.B i) K qo (hs.B i c) (ho.B i c)) ?_;refine gAr ?_;exact Qq.mk (i+1) qo qo
  .refine gAr ?_;exact Qr () trivial
 .rintro⟨⟩ _;refine gAr ?_;refine WC.lp (σ:=Nat) (λi=>[(29,nj i),(28,nj (S.m:Int)),(27,M.t),(0,M.l),(1,M.t),(4,nj 0)]) (λ_=>[]) (λ_=>[ge h0,fSl M S,fSt M S]) (λi=>i<=S.m) (λi=>S.m-i) 0 (aj _) ?_;intro i hi;by_cases c:i<S.m
  .refine WC.fact (fT (M.T i) (S.T i)) (W.Has.lk (S:=Qu) (v:=M.t) hmA c) ?_;refine gAr ?_;intro g;refine cV (isTouch_c (M.T i) (S.T i) S.n K hK (hs.T i c) (ho.T i c) qo) ?_;refine gAr ?_;exact Qq.mk (i+1) qo qo
  .refine gAr ?_;exact wq4
def across_c(m:VM)(a:Vc):FnB prog 105 [vv m] [] [fV m a] (Vo (Bl.turn a)):=by
 refine fO [(0,(vv m))] 9 Tryz.func105 Tryz.ntmps105 λh0=>?_;repeat'(first|intro(g:Nat)|refine d105 ?_|intro v)
 refine cW (Zn.neg m.2 a.y) λn1=>?_;repeat'(first|intro(g:Nat)|refine d105 ?_|intro v)
 refine WC.ret ?_;exact Fp [fV (n1,m.1) (Bl.turn a)] (rcV T.r77) (.cons (W.Has.vof hmA (W.Has.vx (a:=a) hmA)) .nil) ⟨(n1,m.1),rfl,rfl,rfl⟩
def span_c(m:VM)(a:Vc)(K:Nat)(hK:K<=1000000)(ha:Sv K a):FnB prog 186 [vv m] [] [fV m a] (IsR (Bl.spn a)):=by
 refine fO [(0,(vv m))] 24 Tryz.func186 Tryz.ntmps186 λh0=>?_;refine gAr ?_;intro g g;refine cV (Zn.sign m.1 a.x) ?_;refine WL.QD (isQ (qv m.1) a.x) (W.Has.vx (a:=a) hmA) ?_;refine WL.QD (isQ (qv m.2) a.y) (W.Has.vy (a:=a) hmA) ?_;unfold Bl.spn;by_cases c:sgn a.x.num<0
 .rw[ab_p c];refine gAr ?_;refine cW (Zn.neg m.1 a.x) λn1=>?_;refine gAr ?_;refine cV (Zn.sign m.2 a.y) ?_;by_cases d:sgn a.y.num<0
  .rw[ab_p d];refine gAr ?_;refine cW (Zn.neg m.2 a.y) λn2=>?_;refine gAr ?_;refine cW (Zn.add n1 n2 (-a.x) (-a.y) (ha.1.neg.sm qo) (ha.2.neg.sm qo)) λn3=>?_;refine gAr ?_;refine WC.ret ?_;exact Fp [isQ (qv n3) (-a.x+ -a.y)] (rcV T.r75) haA ⟨n3,rfl,rfl,rfl⟩
  .rw[ab_n d];refine gAr ?_;refine cW (Zn.add n1 m.2 (-a.x) (a.y) (ha.1.neg.sm qo) (ha.2.sm qo)) λn3=>?_;refine gAr ?_;refine WC.ret ?_;exact Fp [isQ (qv n3) (-a.x+a.y)] (rcV T.r75) haA ⟨n3,rfl,rfl,rfl⟩
 .rw[ab_n c];refine gAr ?_;refine cV (Zn.sign m.2 a.y) ?_;by_cases d:sgn a.y.num<0
  .rw[ab_p d];refine gAr ?_;refine cW (Zn.neg m.2 a.y) λn2=>?_;refine gAr ?_;refine cW (Zn.add m.1 n2 (a.x) (-a.y) (ha.1.sm qo) (ha.2.neg.sm qo)) λn3=>?_;refine gAr ?_;refine WC.ret ?_;exact Fp [isQ (qv n3) (a.x+ -a.y)] (rcV T.r75) haA ⟨n3,rfl,rfl,rfl⟩
  .rw[ab_n d];refine gAr ?_;refine cW (Zn.add m.1 m.2 (a.x) (a.y) (ha.1.sm qo) (ha.2.sm qo)) λn3=>?_;refine gAr ?_;refine WC.ret ?_;exact Fp [isQ (qv n3) (a.x+a.y)] (rcV T.r75) haA ⟨n3,rfl,rfl,rfl⟩
def on_c(me:EM)(e:Ed)(i:Nat)(mv:VM)(f:Vc)(K:Nat)(h0K:0<K)(hK:K<=1000000)(hf:Sv K f)(hi:i<=1000):FnB prog 104 [edv me e,nj i,vv mv] [] [fV mv f] (Vo (Bl.on e.t i f)):=by
 refine fO [(0,(edv me e)),(1,(nj i)),(2,(vv mv))] 23 Tryz.func104 Tryz.ntmps104 λh0=>?_;by_cases c:e.t.a=(i:Int)
 .have e1:Bl.on e.t i f=f:=ah c;rw[e1];refine d104r ?_;intro g g g;refine WC.ret ?_;exact Fp [fV mv f] (rcV T.r77) haA ⟨mv,rfl,rfl,rfl⟩
 .by_cases d:e.t.b=(i:Int)
  .have e1:Bl.on e.t i f=⟨f.x*Rat.divInt (-1) 1,f.y*Rat.divInt (-1) 1⟩:=by
    unfold Bl.on;rw[ae c,ah d];exact congr (congrArg Vc.mk (by rw[di1];grind)) (by rw[di1];grind)
   rw[e1];refine d104r ?_;intro g g g;refine cW (Zn.of (-1) 1 qd qd) λn1=>?_;refine d104r ?_;refine cW (Gq mv n1 f (Rat.divInt (-1) 1) K qo hf (DD K h0K (-1) qd)) λm2=>?_;refine d104r ?_;refine WC.ret ?_;exact Fp [fV m2 ⟨f.x*Rat.divInt (-1) 1,f.y*Rat.divInt (-1) 1⟩] (rcV T.r77) haA ⟨m2,rfl,rfl,rfl⟩
  .have e1:Bl.on e.t i f=⟨0,0⟩:=by unfold Bl.on;rw[ae c,ae d]
   rw[e1];refine d104r ?_;intro g g g;refine WC.ret ?_;exact Fp [fV (m00,m00) ⟨0,0⟩] (rcV T.r77) haA ⟨(m00,m00),rfl,rfl,rfl⟩
end K
end
inductive KM:nw->nw->Prop where
 |nil:KM [] []
 |drop {v:nA} {el sz:Nat} {cs:ne} {l l':nw}:KM l l'->KM (.slice v el sz cs::l) l'
 |keep {b:Ow} {l l':nw}:KM l l'->KM (b::l) (b::l')
def KM.sub{l l':nw}(h:KM l l'):l'.Sublist l:=by
 induction h with
 |nil=>exact .slnil
 |drop _ ih=>exact ih.cons _
 |keep _ ih=>exact ih.cons_cons _
def WC.drawS{P:nh}{n:Nat}{L:List Oper}{e:Env}{bx b0:nw}{F:nc}{id:Nat}{Q:Post}(hs:List Nat)(p:Plan)(hm:P.follows .mixedOrders=true)(hc:(Region.noSelect L.toArray && (chk L hs p (Array.replicate L.length false) && Nat.ble p.len L.length))=true)
  (hr:KM bx b0) (h:WD P n L hs b0 F p e bx F (Q .normal)):WC P n (.region id L.toArray true) e bx F Q:=WC.Hw b0 hr.sub hs p hm hc h
def fcj(l:nc):Fct:=⟨λh=>∀f∈l,f.p h,λ_ _ hl h f hf=>f.mono _ _ hl (h f hf)⟩
def W.Has.cj{F:nc}:∀{l:nc},Qz F l->Has F (fcj l):=λh p hf f hfl=>h.all f hfl p hf
def W.FnB.cj{P:nh}{f:np}{args:ne}{bx:nw}{g:Fct}{l:nc}{R:Qd}(h:FnB P f args bx (g::l) R):FnB P f args bx [g,fcj l] R:=
 ⟨h.1,λfr w ho=>h.2 fr w ⟨ho.frame,ho.apart,ho.nodup,ho.owns,λk hk=>by
  rcases List.mem_cons.1 hk with rfl|hk
  .exact ho.facts _ (an ..)
  .exact ho.facts (fcj l) (by simp) k hk⟩⟩
def W.FnB.cj2{P:nh}{f:np}{args:ne}{bx:nw}{g g2:Fct}{l:nc}{R:Qd}(h:FnB P f args bx (g::g2::l) R):FnB P f args bx [g,g2,fcj l] R:=
 ⟨h.1,λfr w ho=>h.2 fr w ⟨ho.frame,ho.apart,ho.nodup,ho.owns,λk hk=>by
  rcases List.mem_cons.1 hk with rfl|hk
  .exact ho.facts _ (by simp)
  .rcases List.mem_cons.1 hk with rfl|hk
   .exact ho.facts _ (by simp)
   .exact ho.facts (fcj l) (by simp) k hk⟩⟩
section
variable {P:nh}{e:Env}{bx:nw}{F:nc}{fn:Func}{t s r:Tmp}{ty ty':nl}{g g' tg tg' m m':Nat}{cs cs':ne}{x:nA}
def W.Qf.ccx(h:fn.results=#[.cell t ty,.cell s ty',.tmp r])(hl:W.look e t=some (.pointer (some ⟨g,0,none⟩)))(hb:Ow.cells g tg cs∈bx)(hr:Row P ty m)(hm:cs.length=m)(hl2:W.look e s=some (.pointer (some ⟨g',0,none⟩)))(hb2:Ow.cells g' tg' cs'∈bx)(hr':Row P ty' m')(hm2:cs'.length=m')(hx:W.look e r=some x) :
  Qf P fn e bx F (.tuple #[.agg cs.toArray,.agg cs'.toArray,x]):=λn fr a w hk ho=>by
 have he:=KU (P:=P) (fr:=fr) (w:=w) (t:=ty) (b:=g) (q:=0) (cs:=cs) (es:=#[]) (by rw[hm];exact hr) (λ_ _=>.inl (ho.own hb (by simp[Ow.ids]))) (λi v hv=>by rw[aR,JV (ho.owns _ hb)];exact hv) (Reads.none fr);have he2:=KU (P:=P) (fr:=fr) (w:=w) (t:=ty') (b:=g') (q:=0) (cs:=cs') (by rw[hm2];exact hr') (λ_ _=>.inl (ho.own hb2 (by simp[Ow.ids]))) (λi v hv=>by rw[aR,JV (ho.owns _ hb2)];exact hv) he;obtain⟨⟨d,hu,hd⟩,hi⟩:=hr;obtain⟨⟨d',hu',hd'⟩,hi'⟩:=hr';have h1:a.tmps[t]?.getD undef=.pointer (some ⟨g,0,none⟩):=by rw[hk.at' _ _ hl];rfl
 have h2:=run_loadVar_mid (P:=P) w g 0 ty cs d (λi v hv=>by rw[aR,JV (ho.owns _ hb)];exact hv) hu hd (by rw[hi];simp[hm]);have h3:a.tmps[s]?.getD undef=.pointer (some ⟨g',0,none⟩):=by rw[hk.at' _ _ hl2];rfl
 have h4:=run_loadVar_mid (P:=P) w g' 0 ty' cs' d' (λi v hv=>by rw[aR,JV (ho.owns _ hb2)];exact hv) hu' hd' (by rw[hi'];simp[hm2]);have h5:a.tmps[r]?.getD undef=x:=by rw[hk.at' _ _ hx];rfl
 simp only[results,h];refine⟨by simp[h1,asAddr,h2,h3,h4,h5],?_⟩;have h6:=he2.ok;simpa [h1,asAddr,h2,h3,h4,h5] using h6
end
end Go.Proofs.YtbnobghgnbockaaGreat
