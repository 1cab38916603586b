/- Lemmas for a law. Conditions: none. -/
import Derived.Test.YtcpaopfdiahnnaaGreatZb25
set_option linter.all false
set_option maxHeartbeats 32000000
set_option maxRecDepth 100000
namespace Go.Proofs.YtcpaopfdiahnnaaGreat
section
open W Go.RowKit
open Bl (Vc Bd Tc Sc)
def Sv (K:Nat) (a:Vc):Prop:=Sq K a.x∧Sq K a.y
def WD.frz {hs:List Nat} {b0:List Ow} {F0:List Fct} {r:Plan} {el n':Nat} {bx bx':List Ow} {L:List Oper} {Q2:Env->List Ow->List Fct->Prop} {F:List Fct} {P:Program} {e:Env} (v:Value) (n:Nat) (ms:Nat->QM) (q:Nat->Rat) (hs':Sel bx (.slice v el 4 (Qe n ms)) (.slice (.slice none 0 0) el 4 []) bx') (hm:Has F (mF n ms q)) (h:WD P n' L hs b0 F0 r e bx' (fF v n ms q::F) Q2):WD P n' L hs b0 F0 r e bx F Q2:=λfr w0 listed a w fuel Q' h1 h2 h3 h4 h5 h6 hk hr ho hf=>h fr w0 listed a w fuel Q' h1 h2 h3 h4 h5 h6 hk hr (okF ho hs' hm) hf
def mF2 {F:List Fct} {m m':QM} {a b:Rat} {f:Nat->QM} (h1:Has F (isQ (qv m) a)) (h2:Has F (isQ (qv m') b)):Has F (mF 2 (upd (upd f 0 m) 1 m') (λi=>if i=0 then a else b)):=λp hf i hi=>by
 match i,hi with
 |0,_=>exact h1 p hf
 |1,_=>exact h2 p hf
def sm2 (a b:Rat):X.sm 2 (λi=>if i=0 then a else b)=a+b:=by
 show 0+(if 0=0 then a else b)+(if 1=0 then a else b)=_;simp;grind
attribute [local irreducible] WC WL WD YO LO Qq W.Fin Qw Qu Qj Row QQ Qy KnS Has W.One Ql Qr
namespace K
def t0A {G:Prop} (h:G:=by first|((first|exact Go.Proofs.YtcpaopfdiahnnaaGreat.t0A|exact T.f48_0|exact T.f50_0|exact T.f50_1|exact T.f75_0|exact T.f75_1|exact T.f79_0|exact T.f79_1|exact T.f79_2|exact T.f79_3|exact T.f79_4|exact T.f79_5|exact T.f83_0|exact T.f83_1|exact T.f88_0|exact T.f88_1|exact T.f88_2|exact T.f88_3|exact T.f112_0|exact T.f112_1);done)|fail):G:=h
theorem LO.Yc:True:=trivial
def t1A {G:Prop} (h:G:=by first|((first|exact Go.Proofs.YtcpaopfdiahnnaaGreat.t1A|exact T.al48|exact T.al50|exact T.al75|exact T.al79|exact T.al83|exact T.al88|exact T.al106|exact T.al112);done)|fail):G:=h
def t2A {G:Prop} (h:G:=by first|((first|exact Go.Proofs.YtcpaopfdiahnnaaGreat.t2A|exact T.sc23|exact T.sc24|exact T.sc46|exact T.sc59|exact T.sc106|exact T.sc115);done)|fail):G:=h
def t3A {G:Prop} (h:G:=by first|((first|exact Go.Proofs.YtcpaopfdiahnnaaGreat.t3A);done)|fail):G:=h
def t4A {G:Prop} (h:G:=by first|((first|exact Go.Proofs.YtcpaopfdiahnnaaGreat.t4A|exact T.r48|exact T.r50|exact T.r75|exact T.r79|exact T.r83|exact T.r88|exact T.Gb);done)|fail):G:=h
def t5A {G:Prop} (h:G:=by first|((first|exact Go.Proofs.YtcpaopfdiahnnaaGreat.t5A|exact T.e23|exact T.e24|exact T.e46|exact T.e59|exact T.e106);done)|fail):G:=h
def t6A {G:Prop} (h:G:=by first|((first|exact Go.Proofs.YtcpaopfdiahnnaaGreat.t6A|exact T.s23|exact T.s24|exact T.s46|exact T.s59|exact T.s106);done)|fail):G:=h
def knA {G:Prop} (h:G:=by first|((first|exact Z.knA|(focus(apply KnS.lf;exact hmA;done))|(focus(apply KnS.lo;exact meA;done))|(focus(apply KnS.vx1;exact hmA;done))|(focus(apply KnS.vx2;exact hmA;done))|(focus(apply KnS.vy1;exact hmA;done))|(focus(apply KnS.vy2;exact hmA;done)));done)|fail):G:=h
def hsA {G:Prop} (h:G:=by first|((first|exact Z.hsA|(focus(apply W.Has.vx;exact hmA;done))|(focus(apply W.Has.vy;exact hmA;done))|(focus(apply W.Has.vof;exact hmA;exact hmA;done))|(focus(apply W.Has.bc;exact hmA;done))|(focus(apply W.Has.tn;exact hmA;done))|(focus(apply W.Has.et;exact hmA;done))|exact hasV0);done)|fail):G:=h
def Xp {G:Prop} (h:G:=by first|((first|exact Z.Xp|(apply YO.buildV;exact rfl;exact rfl)|exact YO.buildV0|(apply YO.buildP;exact rfl;exact rfl)|(apply YO.buildE;exact rfl;exact rfl)|(apply YO.buildLb;exact rfl)|(apply YO.buildL2;exact rfl;exact knA;exact rfl)|(apply YO.buildPr;exact rfl;exact rfl;exact knA));done)|fail):G:=h
def Q5 {G:Prop} (h:G:=by first|((exact Z.Q5);done)|fail):G:=h
def Yn {G:Prop} (h:G:=by first|((first|(apply YO.ldC;exact t4A;exact rfl;exact meA;(repeat(first|exact Cut.done|apply Cut.take|apply Cut.drop)))|(apply YO.ldL;exact t4A;exact rfl;exact hmA;(first|exact Off.base|(apply Off.add;exact Off.base;((try simp only[Nat.zero_add,Nat.mul_one,Nat.reduceAdd,Nat.reduceMul]);exact rfl))|(apply Off.add;apply Off.add;exact Off.base;((try simp only[Nat.zero_add,Nat.mul_one,Nat.reduceAdd,Nat.reduceMul]);exact rfl);((try simp only[Nat.zero_add,Nat.mul_one,Nat.reduceAdd,Nat.reduceMul]);exact rfl))|(apply Off.add;apply Off.add;apply Off.add;exact Off.base;((try simp only[Nat.zero_add,Nat.mul_one,Nat.reduceAdd,Nat.reduceMul]);exact rfl);((try simp only[Nat.zero_add,Nat.mul_one,Nat.reduceAdd,Nat.reduceMul]);exact rfl);((try simp only[Nat.zero_add,Nat.mul_one,Nat.reduceAdd,Nat.reduceMul]);exact rfl)));omega;decide;(repeat(first|exact Cut.done|apply Cut.take|apply Cut.drop)))|(apply YO.ldLs;exact t2A;exact rfl;exact hmA;(first|exact Off.base|(apply Off.add;exact Off.base;((try simp only[Nat.zero_add,Nat.mul_one,Nat.reduceAdd,Nat.reduceMul]);exact rfl))|(apply Off.add;apply Off.add;exact Off.base;((try simp only[Nat.zero_add,Nat.mul_one,Nat.reduceAdd,Nat.reduceMul]);exact rfl);((try simp only[Nat.zero_add,Nat.mul_one,Nat.reduceAdd,Nat.reduceMul]);exact rfl))|(apply Off.add;apply Off.add;apply Off.add;exact Off.base;((try simp only[Nat.zero_add,Nat.mul_one,Nat.reduceAdd,Nat.reduceMul]);exact rfl);((try simp only[Nat.zero_add,Nat.mul_one,Nat.reduceAdd,Nat.reduceMul]);exact rfl);((try simp only[Nat.zero_add,Nat.mul_one,Nat.reduceAdd,Nat.reduceMul]);exact rfl)));omega;(repeat(first|exact Cut.done|apply Cut.take|apply Cut.drop)))|(apply YO.ldCk;exact t4A;exact rfl;exact hmA;(repeat(first|exact Cut.done|apply Cut.take|apply Cut.drop)))|(apply YO.ldOL;exact t4A;exact rfl;exact meA;(first|exact Off.base|(apply Off.add;exact Off.base;((try simp only[Nat.zero_add,Nat.mul_one,Nat.reduceAdd,Nat.reduceMul]);exact rfl))|(apply Off.add;apply Off.add;exact Off.base;((try simp only[Nat.zero_add,Nat.mul_one,Nat.reduceAdd,Nat.reduceMul]);exact rfl);((try simp only[Nat.zero_add,Nat.mul_one,Nat.reduceAdd,Nat.reduceMul]);exact rfl))|(apply Off.add;apply Off.add;apply Off.add;exact Off.base;((try simp only[Nat.zero_add,Nat.mul_one,Nat.reduceAdd,Nat.reduceMul]);exact rfl);((try simp only[Nat.zero_add,Nat.mul_one,Nat.reduceAdd,Nat.reduceMul]);exact rfl);((try simp only[Nat.zero_add,Nat.mul_one,Nat.reduceAdd,Nat.reduceMul]);exact rfl)));omega;decide;(repeat(first|exact Cut.done|apply Cut.take|apply Cut.drop)))|exact Z.Yn);done)|fail):G:=h
def Y0 {G:Prop} (h:G:=by first|((exact Z.Y0);done)|fail):G:=h
def XY {G:Prop} (h:G:=by first|((exact Z.XY);done)|fail):G:=h
def ZA {G:Prop} (h:G:=by first|(((first|(apply YO.shl';exact rfl;exact rfl;omega;omega;(first|omega|decide);(first|omega|decide))|(apply YO.shl1;exact rfl;exact rfl;omega)));done)|fail):G:=h
def go {G G':Prop} (h:G') (s:Bx G'->G:=by
 intro h
 (first|(apply WL.Jz;rotate_left;exact rfl;(first|(apply LO.YX;exact rfl;exact rfl;exact t4A;exact seA;exact rfl;(first|(focus(apply Vm;exact hmA;done))|(focus(apply one_b;exact hmA;done))|(focus(apply one_e;exact hmA;done))|(focus(apply ZH;exact hmA;done))))|(apply LO.storeC;exact rfl;exact rfl;exact t4A;exact seA;(repeat(first|exact Pt.nil|apply Pt.cons|apply Pt.skip));(repeat(first|exact QC.nil|(apply QC.cons;(first|exact One.lit rfl rfl|(apply One.sl;exact knA))))))|(apply LO.Xl;exact rfl;exact rfl;exact t3A;exact seA;(first|omega|(simp only[List.length_set];omega)))|(apply LO.Ux;exact rfl;exact rfl;exact t4A;exact hmA;exact seA;omega)|(apply LO.Yb;exact rfl;exact rfl;exact t3A;(first|exact One.lit rfl rfl|(apply One.sl;exact knA));exact seA;(first|(simp only[List.length_cons,List.length_nil];omega)|(simp;omega));(first|(simp only[List.set_cons_succ,List.set_cons_zero];exact rfl)|exact rfl))|(apply LO.Xj;exact rfl;exact rfl;exact t3A;(first|exact One.lit rfl rfl|(apply One.sl;exact knA));exact seA;(first|(simp only[List.length_cons,List.length_nil];omega)|(simp;omega));(first|(simp only[List.set_cons_succ,List.set_cons_zero];exact rfl)|exact rfl))|(apply LO.Yc;exact rfl;exact rfl;exact seA;exact t4A;exact rfl;exact rfl;(repeat(first|exact QC.nil|(apply QC.cons;(first|exact One.lit rfl rfl|(apply One.sl;exact knA))))))))|refine Z.go ?_|fail)
 exact Bx.h h):G:=s ⟨h⟩
def goD {G G':Prop} (h:G') (s:Bx G'->G:=by
 intro h
 (first|(apply WD.Jz;exact rfl;rotate_left;exact rfl;(first|(apply LO.YX;exact rfl;exact rfl;exact t4A;exact seA;exact rfl;(first|(focus(apply Vm;exact hmA;done))|(focus(apply one_b;exact hmA;done))|(focus(apply one_e;exact hmA;done))|(focus(apply ZH;exact hmA;done))))|(apply LO.storeC;exact rfl;exact rfl;exact t4A;exact seA;(repeat(first|exact Pt.nil|apply Pt.cons|apply Pt.skip));(repeat(first|exact QC.nil|(apply QC.cons;(first|exact One.lit rfl rfl|(apply One.sl;exact knA))))))|(apply LO.Xl;exact rfl;exact rfl;exact t3A;exact seA;(first|omega|(simp only[List.length_set];omega)))|(apply LO.Ux;exact rfl;exact rfl;exact t4A;exact hmA;exact seA;omega)|(apply LO.Yb;exact rfl;exact rfl;exact t3A;(first|exact One.lit rfl rfl|(apply One.sl;exact knA));exact seA;(first|(simp only[List.length_cons,List.length_nil];omega)|(simp;omega));(first|(simp only[List.set_cons_succ,List.set_cons_zero];exact rfl)|exact rfl))|(apply LO.Xj;exact rfl;exact rfl;exact t3A;(first|exact One.lit rfl rfl|(apply One.sl;exact knA));exact seA;(first|(simp only[List.length_cons,List.length_nil];omega)|(simp;omega));(first|(simp only[List.set_cons_succ,List.set_cons_zero];exact rfl)|exact rfl))|(apply LO.Yc;exact rfl;exact rfl;exact seA;exact t4A;exact rfl;exact rfl;(repeat(first|exact QC.nil|(apply QC.cons;(first|exact One.lit rfl rfl|(apply One.sl;exact knA)))))));constructor;exact ltA)|refine Z.goD ?_|fail)
 exact Bx.h h):G:=s ⟨h⟩
def goV {G G':Prop} (h:G') (s:Bx G'->G:=by
 intro h
 (first|(apply WL.Kb;rotate_left;exact rfl;exact rfl;(apply LO.Hl;exact rfl;exact rfl;(repeat(first|(with_reducible apply Q6.dbl)|(with_reducible apply Q6.add)|(with_reducible exact Q6.one)|exact Q6.cast _));omega))|(apply WL.Kb;rotate_left;exact rfl;exact rfl;(apply LO.makePu;exact rfl;exact rfl;(repeat(first|(with_reducible apply Q6.dbl)|(with_reducible apply Q6.add)|(with_reducible exact Q6.one)|exact Q6.cast _));omega))|(apply WL.JU;rotate_left;exact rfl;exact rfl;(apply LO.bsR2;exact rfl;exact rfl))|(apply WL.JU;rotate_left;exact rfl;exact rfl;(apply LO.bsE2;exact rfl;exact rfl))|(apply WL.JU;rotate_left;exact rfl;exact rfl;(apply LO.bsL1;exact rfl;exact knA))|(apply WL.JU;rotate_left;exact rfl;exact rfl;(apply LO.bsL3;exact rfl;exact rfl;exact rfl;exact knA;exact knA;exact knA))|(apply WL.Jv;rotate_left;exact rfl;exact rfl;(apply LO.appR2;exact rfl;exact rfl;exact meA;exact hmA;exact hmA;(intro _;exact seA);omega))|(apply WL.Jv;rotate_left;exact rfl;exact rfl;(apply LO.appE2;exact rfl;exact rfl;exact meA;exact hmA;(intro _;exact seA);omega))|(apply WL.Jv;rotate_left;exact rfl;exact rfl;(apply LO.appLn;exact rfl;exact rfl;exact meA;exact hmA;(intro _;exact seA);omega))|(apply WL.Jv;rotate_left;exact rfl;exact rfl;(apply LO.appLn3;exact rfl;exact rfl;exact meA;exact hmA;exact hmA;exact hmA;(intro _;exact seA);omega))|refine Z.goV ?_|fail)
 exact Bx.h h):G:=s ⟨h⟩
def goDV {G G':Prop} (h:G') (s:Bx G'->G:=by
 intro h
 (first|(apply WD.Kb;exact rfl;rotate_left;exact rfl;exact rfl;(apply LO.Hl;exact rfl;exact rfl;(repeat(first|(with_reducible apply Q6.dbl)|(with_reducible apply Q6.add)|(with_reducible exact Q6.one)|exact Q6.cast _));omega);apply Qc;(intro _;exact ltA))|(apply WD.Kb;exact rfl;rotate_left;exact rfl;exact rfl;(apply LO.makePu;exact rfl;exact rfl;(repeat(first|(with_reducible apply Q6.dbl)|(with_reducible apply Q6.add)|(with_reducible exact Q6.one)|exact Q6.cast _));omega);apply Qc;(intro _;exact ltA))|(apply WD.JU;exact rfl;rotate_left;exact rfl;exact rfl;(apply LO.bsR2;exact rfl;exact rfl);apply Qc;(intro _;exact ltA))|(apply WD.JU;exact rfl;rotate_left;exact rfl;exact rfl;(apply LO.bsE2;exact rfl;exact rfl);apply Qc;(intro _;exact ltA))|(apply WD.JU;exact rfl;rotate_left;exact rfl;exact rfl;(apply LO.bsL1;exact rfl;exact knA);apply Qc;(intro _;exact ltA))|(apply WD.JU;exact rfl;rotate_left;exact rfl;exact rfl;(apply LO.bsL3;exact rfl;exact rfl;exact rfl;exact knA;exact knA;exact knA);apply Qc;(intro _;exact ltA))|(apply WD.Jv;exact rfl;rotate_left;exact rfl;exact rfl;(apply LO.appR2;exact rfl;exact rfl;exact meA;exact hmA;exact hmA;(intro _;exact seA);omega);apply Qc;(intro _;exact ltA))|(apply WD.Jv;exact rfl;rotate_left;exact rfl;exact rfl;(apply LO.appE2;exact rfl;exact rfl;exact meA;exact hmA;(intro _;exact seA);omega);apply Qc;(intro _;exact ltA))|(apply WD.Jv;exact rfl;rotate_left;exact rfl;exact rfl;(apply LO.appLn;exact rfl;exact rfl;exact meA;exact hmA;(intro _;exact seA);omega);apply Qc;(intro _;exact ltA))|(apply WD.Jv;exact rfl;rotate_left;exact rfl;exact rfl;(apply LO.appLn3;exact rfl;exact rfl;exact meA;exact hmA;exact hmA;exact hmA;(intro _;exact seA);omega);apply Qc;(intro _;exact ltA))|refine Z.goDV ?_|fail)
 exact Bx.h h):G:=s ⟨h⟩
def goLV {G G':Prop} (h:G') (s:Bx G'->G:=by
 intro h
 (first|((apply LO.Hl;exact rfl;exact rfl;(repeat(first|(with_reducible apply Q6.dbl)|(with_reducible apply Q6.add)|(with_reducible exact Q6.one)|exact Q6.cast _));omega);apply Qc;(intro _;exact ltA))|((apply LO.makePu;exact rfl;exact rfl;(repeat(first|(with_reducible apply Q6.dbl)|(with_reducible apply Q6.add)|(with_reducible exact Q6.one)|exact Q6.cast _));omega);apply Qc;(intro _;exact ltA))|((apply LO.bsR2;exact rfl;exact rfl);apply Qc;(intro _;exact ltA))|((apply LO.bsE2;exact rfl;exact rfl);apply Qc;(intro _;exact ltA))|((apply LO.bsL1;exact rfl;exact knA);apply Qc;(intro _;exact ltA))|((apply LO.bsL3;exact rfl;exact rfl;exact rfl;exact knA;exact knA;exact knA);apply Qc;(intro _;exact ltA))|((apply LO.appR2;exact rfl;exact rfl;exact meA;exact hmA;exact hmA;(intro _;exact seA);omega);apply Qc;(intro _;exact ltA))|((apply LO.appE2;exact rfl;exact rfl;exact meA;exact hmA;(intro _;exact seA);omega);apply Qc;(intro _;exact ltA))|((apply LO.appLn;exact rfl;exact rfl;exact meA;exact hmA;(intro _;exact seA);omega);apply Qc;(intro _;exact ltA))|((apply LO.appLn3;exact rfl;exact rfl;exact meA;exact hmA;exact hmA;exact hmA;(intro _;exact seA);omega);apply Qc;(intro _;exact ltA))|refine Z.goLV ?_|fail)
 exact Bx.h h):G:=s ⟨h⟩
def goLS {G G':Prop} (h:G') (s:Bx G'->G:=by
 intro h
 (first|((first|(apply LO.YX;exact rfl;exact rfl;exact t4A;exact seA;exact rfl;(first|(focus(apply Vm;exact hmA;done))|(focus(apply one_b;exact hmA;done))|(focus(apply one_e;exact hmA;done))|(focus(apply ZH;exact hmA;done))))|(apply LO.storeC;exact rfl;exact rfl;exact t4A;exact seA;(repeat(first|exact Pt.nil|apply Pt.cons|apply Pt.skip));(repeat(first|exact QC.nil|(apply QC.cons;(first|exact One.lit rfl rfl|(apply One.sl;exact knA))))))|(apply LO.Xl;exact rfl;exact rfl;exact t3A;exact seA;(first|omega|(simp only[List.length_set];omega)))|(apply LO.Ux;exact rfl;exact rfl;exact t4A;exact hmA;exact seA;omega)|(apply LO.Yb;exact rfl;exact rfl;exact t3A;(first|exact One.lit rfl rfl|(apply One.sl;exact knA));exact seA;(first|(simp only[List.length_cons,List.length_nil];omega)|(simp;omega));(first|(simp only[List.set_cons_succ,List.set_cons_zero];exact rfl)|exact rfl))|(apply LO.Xj;exact rfl;exact rfl;exact t3A;(first|exact One.lit rfl rfl|(apply One.sl;exact knA));exact seA;(first|(simp only[List.length_cons,List.length_nil];omega)|(simp;omega));(first|(simp only[List.set_cons_succ,List.set_cons_zero];exact rfl)|exact rfl))|(apply LO.Yc;exact rfl;exact rfl;exact seA;exact t4A;exact rfl;exact rfl;(repeat(first|exact QC.nil|(apply QC.cons;(first|exact One.lit rfl rfl|(apply One.sl;exact knA)))))));constructor;exact ltA))
 exact Bx.h h):G:=s ⟨h⟩
def ZO {G G':Prop} (h:G') (s:Bx G'->G:=by
 intro h;refine Z.ZO ?_;exact Bx.h h):G:=s ⟨h⟩
def H3 {G G':Prop} (h:G') (s:Bx G'->G:=by
 intro h
 (apply WD.fy;exact rfl;(first|(apply YO.move;exact rfl)|(apply YO.assign;exact rfl)|exact KD|exact KU|exact KF|exact Q5|exact Yn|exact YR|exact QT|exact Y0|exact KB|(apply YO.nil;exact rfl)|(apply YO.extract;exact rfl;exact rfl)|exact KG|exact KH|exact VP|(apply YO.sub;exact rfl;exact rfl;omega;omega)|exact KE|exact Ze|exact YG|exact YT|exact YS|(apply YO.max;exact rfl;exact rfl)|(apply YO.min;exact rfl;exact rfl)|exact JG|exact Uf|exact ZA|(apply YO.shr';exact rfl;exact rfl;omega;omega)|exact VO|exact y_or|exact XY);exact rfl;exact rfl)
 exact Bx.h h):G:=s ⟨h⟩
section
variable {P:Program} {n:Nat} {L rest:List Oper} {e:Env} {bx b0:List Ow} {F F0:List Fct} {Q:Env->List Ow->List Fct->Prop} {d i:Nat} {ty:TypeId} {pos:String} {af:Array Edge} {g:Option (Nat×Bool)} {hs:List Nat} {r:Plan}
 {f:FuncId} {x:Operand} {args:List Operand} {ats:Array TypeId} {vs cs:List Value} {F':List Fct} {u:Value} {el sz:Nat}
def WL.XR (hf:FnB P f vs [] F' (IsV u)) (hK:WL P n L rest ((d,u)::e) bx F Q) (hx:ev e x=some (.func (.func f) #[] #[]):=by exact rfl) (hv:Evs e args vs:=by repeat(first|exact Evs.nil|(apply Evs.cons;exact rfl))) (hF:QY bx F F':=by repeat(first|exact QY.nil|(apply QY.cons;(first|(focus(apply QF.oI;exact meA;done))|(focus(apply QF.c;exact meA;done))|(focus(apply QF.f;exact hsA;done))|(focus(apply QF.fF;exact meA;exact hmA;done))|(focus(apply QF.rows;(repeat(first|exact List.Sublist.refl _|apply List.Sublist.cons));exact hmA;done))|(focus(apply QF.sV;exact meA;done))|(focus(apply QF.sN;exact meA;done))))))
  (hd:Nat.blt d n=true:=by exact rfl) (hg:gok L e g=some true:=by exact rfl):WL P n L (⟨some d,.call {callee:=.value x,args:=args.toArray,argTypes:=ats},ty,pos,af,g⟩::rest) e bx F Q:=
 WL.l hd hg (LO.KO hx hv hf hF hK)
def WD.XR (hf:FnB P f vs [] F' (IsV u)) (hK:WD P n L hs b0 F0 r ((d,u)::e) bx F Q) (hL:L[i]?=some ⟨some d,.call {callee:=.value x,args:=args.toArray,argTypes:=ats},ty,pos,af,g⟩:=by exact rfl) (hx:ev e x=some (.func (.func f) #[] #[]):=by exact rfl) (hv:Evs e args vs:=by repeat(first|exact Evs.nil|(apply Evs.cons;exact rfl))) (hF:QY bx F F':=by repeat(first|exact QY.nil|(apply QY.cons;(first|(focus(apply QF.oI;exact meA;done))|(focus(apply QF.c;exact meA;done))|(focus(apply QF.f;exact hsA;done))|(focus(apply QF.fF;exact meA;exact hmA;done))|(focus(apply QF.rows;(repeat(first|exact List.Sublist.refl _|apply List.Sublist.cons));exact hmA;done))|(focus(apply QF.sV;exact meA;done))|(focus(apply QF.sN;exact meA;done))))))
  (hd:Nat.blt d n=true:=by exact rfl) (hg:gok L e g=some true:=by exact rfl) (lt:QN L hs i=true∨(b0.Sublist bx∧∀ f∈F0,f∈F):=by exact ltA):WD P n L hs b0 F0 (.loud i r) e bx F Q:=
 WD.l hL hd hg (LO.KO hx hv hf hF ⟨lt,hK⟩)
end
end K
end
section
open W Go.RowKit
open Bl (Vc)
def nsum {n K i:Nat} {q:Nat->Rat} (hK:n*(K+1)+1<=400000000) (hi:i<=n) (h:∀ i,i < n->Sq K (q i)):Sm (X.sm i q):=
 (X.XC λj hj=>h j qo).sm (by have:=Nat.mul_le_mul_right (K+1) hi;omega)
namespace K
attribute [local irreducible] WC WL WD YO LO Qq W.Fin Qw Qu Qj Row QQ Qy KnS Has W.One Ql Qr
def d66 {G G':Prop} (h:G') (s:Bx G'->G:=by
 intro h;first|refine gB ?_|(apply WC.draw (id:=1) [0,1,2,3,5,6,7,8] (.h 0<|.h 1<|.h 2<|.h 3<|.h 5<|.h 6<|.h 7<|.h 8<|.l 4<|.l 9<|.l 10<|.l 11<|.l 12<|.l 13 .done) mixed kr)|fail
 exact Bx.h h):G:=s ⟨h⟩
def d67 {G G':Prop} (h:G') (s:Bx G'->G:=by
 intro h;first|refine gB ?_|(apply WC.draw (id:=1) [0,1,2,3,5,6,7,8,10] (.h 0<|.h 1<|.h 2<|.h 3<|.h 5<|.h 6<|.h 7<|.h 8<|.l 4<|.l 9<|.h 10<|.l 11 .done) mixed kr)|fail
 exact Bx.h h):G:=s ⟨h⟩
def d129 {G G':Prop} (h:G') (s:Bx G'->G:=by
 intro h;first|refine gB ?_|(apply WC.draw (id:=1) [0,1,2,4,5,6,8] (.h 0<|.h 1<|.h 2<|.h 4<|.h 5<|.h 6<|.l 3<|.l 7<|.h 8<|.l 9 .done) mixed kr)|fail
 exact Bx.h h):G:=s ⟨h⟩
def d168 {G G':Prop} (h:G') (s:Bx G'->G:=by
 intro h;first|refine gB ?_|(apply WC.draw (id:=1) [0,1,2,3,5,6,7,8,10] (.h 0<|.h 1<|.h 2<|.h 3<|.h 5<|.h 6<|.h 7<|.h 8<|.l 4<|.l 9<|.h 10<|.l 11 .done) mixed kr)|fail
 exact Bx.h h):G:=s ⟨h⟩
def d193 {G G':Prop} (h:G') (s:Bx G'->G:=by
 intro h;first|refine gB ?_|(apply WC.draw (id:=1) [0,1,2,3,5,6,7,8] (.h 0<|.h 1<|.h 2<|.h 3<|.h 5<|.h 6<|.h 7<|.h 8<|.l 4<|.l 9<|.l 10<|.l 11<|.l 12 .done) mixed kr)|fail
 exact Bx.h h):G:=s ⟨h⟩
def sum_c (v:Value) (n K:Nat) (ms:Nat->QM) (q:Nat->Rat) (hK:n*(K+1)+1<=400000000) (hk:K<=400000000) (h:∀ i,i < n->Sq K (q i)):FnB Tryz.prog 130 [v] [] [fF v n ms q] (IsR (X.sm n q)):=by
 refine fO [(0,v)] 17 Tryz.func130 Tryz.ntmps130 λh0=>?_;refine WC.lenF (v:=v) (m:=n) (W.Has.fs (ms:=ms) (qf:=q) hmA) λhm=>?_;repeat'(first|intro(g:Nat)|refine gA ?_|intro v)
 revert g;intro g3;refine WC.lp (σ:=Nat×QM) (λst=>[(8,.int .i64 (st.1:Int)),(7,.int .i64 (n:Int)),(6,v),(3,ptr g3),(2,ptr g)]) (λst=>[Ow.cells g3 64 (qcs st.2),Ow.cells g 64 (qcs m00)]) (λst=>[isQ (qv st.2) (X.sm st.1 q),ge h0,fF v n ms q]) (λst=>st.1<=n) (λst=>n - st.1) (0,m00) (Nat.zero_le _) ?_ (hG:=.cons Jy haA);rintro⟨i,m⟩ hi;simp only at hi ⊢;by_cases c:i < n
 ·refine WC.fact (isQ (qv (ms i)) (q i)) (W.Has.q (W.Has.fm (v:=v) hmA) c) ?_;repeat'(first|intro(g:Nat)|refine gA ?_|intro v)
  refine cW (Zn.add m (ms i) (X.sm i q) (q i) (nsum hK hi h) ((h i c).sm hk)) λm2=>?_;repeat'(first|intro(g:Nat)|refine gA ?_|intro v)
  exact Qq.mk (i+1,m2) (by simp only;omega) (by simp only;omega)
 ·obtain rfl:i=n:=qo;repeat'(first|intro(g:Nat)|refine gA ?_|intro v)
  refine WC.ret ?_;exact Fp [isQ (qv m) (X.sm i q)] (rcV T.r64) haA ⟨m,rfl,rfl,rfl⟩
def vadd_c (m1 m2:VM) (a b:Vc) (K:Nat) (hK:K<=100000000) (ha:Sv K a) (hb:Sv K b):FnB Tryz.prog 168 [vv m1,vv m2] [] [fV m1 a,fV m2 b] (KA (⟨a.x+b.x,a.y+b.y⟩)):=by
 refine fO [(0,(vv m1)),(1,(vv m2))] 16 Tryz.func168 Tryz.ntmps168 λh0=>?_;repeat'(first|intro(g:Nat)|refine d168 ?_|intro v)
 refine cW (Zn.add m1.1 m2.1 a.x b.x (ha.1.sm qo) (hb.1.sm qo)) λn1=>?_;repeat'(first|intro(g:Nat)|refine d168 ?_|intro v)
 refine cW (Zn.add m1.2 m2.2 a.y b.y (ha.2.sm qo) (hb.2.sm qo)) λn2=>?_;repeat'(first|intro(g:Nat)|refine d168 ?_|intro v)
 refine WC.ret ?_;exact Fp [fV (n1,n2) (⟨a.x+b.x,a.y+b.y⟩)] (rcV T.r75) haA ⟨(n1,n2),rfl,rfl,rfl⟩
def vsub_c (m1 m2:VM) (a b:Vc) (K:Nat) (hK:K<=100000000) (ha:Sv K a) (hb:Sv K b):FnB Tryz.prog 67 [vv m1,vv m2] [] [fV m1 a,fV m2 b] (KA (Bl.Q4 a b)):=by
 refine fO [(0,(vv m1)),(1,(vv m2))] 16 Tryz.func67 Tryz.ntmps67 λh0=>?_;repeat'(first|intro(g:Nat)|refine d67 ?_|intro v)
 refine cW (Zn.sub m1.1 m2.1 a.x b.x (ha.1.sm qo) (hb.1.sm qo)) λn1=>?_;repeat'(first|intro(g:Nat)|refine d67 ?_|intro v)
 refine cW (Zn.sub m1.2 m2.2 a.y b.y (ha.2.sm qo) (hb.2.sm qo)) λn2=>?_;repeat'(first|intro(g:Nat)|refine d67 ?_|intro v)
 refine WC.ret ?_;exact Fp [fV (n1,n2) (Bl.Q4 a b)] (rcV T.r75) haA ⟨(n1,n2),rfl,rfl,rfl⟩
def VN (m1:VM) (mk:QM) (a:Vc) (k:Rat) (K:Nat) (hK:K<=100000000) (ha:Sv K a) (hk:Sq K k):FnB Tryz.prog 129 [vv m1,qv mk] [] [fV m1 a,isQ (qv mk) k] (KA ⟨a.x*k,a.y*k⟩):=by
 refine fO [(0,(vv m1)),(1,(qv mk))] 14 Tryz.func129 Tryz.ntmps129 λh0=>?_;repeat'(first|intro(g:Nat)|refine d129 ?_|intro v)
 refine cW (Zn.mul m1.1 mk a.x k (ha.1.sm qo) (hk.sm qo)) λn1=>?_;repeat'(first|intro(g:Nat)|refine d129 ?_|intro v)
 refine cW (Zn.mul m1.2 mk a.y k (ha.2.sm qo) (hk.sm qo)) λn2=>?_;repeat'(first|intro(g:Nat)|refine d129 ?_|intro v)
 refine WC.ret ?_;exact Fp [fV (n1,n2) ⟨a.x*k,a.y*k⟩] (rcV T.r75) haA ⟨(n1,n2),rfl,rfl,rfl⟩
def vcross_c (m1 m2:VM) (a b:Vc) (K:Nat) (hK:K<=10000000) (ha:Sv K a) (hb:Sv K b):FnB Tryz.prog 66 [vv m1,vv m2] [] [fV m1 a,fV m2 b] (IsR (Bl.Jw a b)):=by
 refine fO [(0,(vv m1)),(1,(vv m2))] 18 Tryz.func66 Tryz.ntmps66 λh0=>?_;repeat'(first|intro(g:Nat)|refine d66 ?_|intro v)
 refine cW (Zn.mul m1.1 m2.2 a.x b.y (ha.1.sm qo) (hb.2.sm qo)) λn1=>?_;repeat'(first|intro(g:Nat)|refine d66 ?_|intro v)
 refine cW (Zn.mul m1.2 m2.1 a.y b.x (ha.2.sm qo) (hb.1.sm qo)) λn2=>?_;repeat'(first|intro(g:Nat)|refine d66 ?_|intro v)
 refine cW (Zn.neg n2 (a.y*b.x)) λn3=>?_;repeat'(first|intro(g:Nat)|refine d66 ?_|intro v)
 refine WD.frz v 2 (upd (upd (λ_=>m00) 0 n1) 1 n3) (λi=>if i=0 then a.x*b.y else -(a.y*b.x)) (by repeat(first|exact Sel.head|apply Sel.tail)) (mF2 hmA hmA) ?_;refine cW (sum_c v 2 (K+K) (upd (upd (λ_=>m00) 0 n1) 1 n3) (λi=>if i=0 then a.x*b.y else -(a.y*b.x)) qo qo (λi _=>by show Sq _ (if _ then _ else _);split;exact ha.1.mul hb.2;exact(ha.2.mul hb.1).neg)) λn4=>?_;rw[sm2,show a.x*b.y+ -(a.y*b.x)=Bl.Jw a b by unfold Bl.Jw;grind];repeat'(first|intro(g:Nat)|refine d66 ?_|intro v)
 refine WC.ret ?_;exact Fp [isQ (qv n4) (Bl.Jw a b)] (rcV T.r64) haA ⟨n4,rfl,rfl,rfl⟩
def vdot_c (m1 m2:VM) (a b:Vc) (K:Nat) (hK:K<=10000000) (ha:Sv K a) (hb:Sv K b):FnB Tryz.prog 193 [vv m1,vv m2] [] [fV m1 a,fV m2 b] (IsR (a.x*b.x+a.y*b.y)):=by
 refine fO [(0,(vv m1)),(1,(vv m2))] 17 Tryz.func193 Tryz.ntmps193 λh0=>?_;repeat'(first|intro(g:Nat)|refine d193 ?_|intro v)
 refine cW (Zn.mul m1.1 m2.1 a.x b.x (ha.1.sm qo) (hb.1.sm qo)) λn1=>?_;repeat'(first|intro(g:Nat)|refine d193 ?_|intro v)
 refine cW (Zn.mul m1.2 m2.2 a.y b.y (ha.2.sm qo) (hb.2.sm qo)) λn3=>?_;repeat'(first|intro(g:Nat)|refine d193 ?_|intro v)
 refine WD.frz v 2 (upd (upd (λ_=>m00) 0 n1) 1 n3) (λi=>if i=0 then a.x*b.x else a.y*b.y) (by repeat(first|exact Sel.head|apply Sel.tail)) (mF2 hmA hmA) ?_;refine cW (sum_c v 2 (K+K) (upd (upd (λ_=>m00) 0 n1) 1 n3) (λi=>if i=0 then a.x*b.x else a.y*b.y) qo qo (λi _=>by show Sq _ (if _ then _ else _);split;exact ha.1.mul hb.1;exact ha.2.mul hb.2)) λn4=>?_;rw[sm2];repeat'(first|intro(g:Nat)|refine d193 ?_|intro v)
 refine WC.ret ?_;exact Fp [isQ (qv n4) (a.x*b.x+a.y*b.y)] (rcV T.r64) haA ⟨n4,rfl,rfl,rfl⟩
def vsame_c (m1 m2:VM) (a b:Vc):FnB Tryz.prog 169 [vv m1,vv m2] [] [fV m1 a,fV m2 b] (IsV (.bool (decide (a.x=b.x∧a.y=b.y)))):=by
 refine fO [(0,(vv m1)),(1,(vv m2))] 17 Tryz.func169 Tryz.ntmps169 λh0=>?_;repeat'(first|intro(g:Nat)|refine gA ?_|intro v)
 refine cV (Zn.same m1.1 m2.1 a.x b.x) ?_;by_cases c:a.x=b.x
 ·rw[decide_eq_true c];repeat'(first|intro(g:Nat)|refine gA ?_|intro v)
  refine cV (Zn.same m1.2 m2.2 a.y b.y) ?_;repeat'(first|intro(g:Nat)|refine gA ?_|intro v)
  refine WC.ret ?_;exact Fin.v (Qv.t1 rfl rfl) meA (by simp[c])
 ·rw[decide_eq_false c];repeat'(first|intro(g:Nat)|refine gA ?_|intro v)
  refine WC.ret ?_;exact Fin.v (Qv.t1 rfl rfl) meA (by simp[c])
end K
end
section
open W Go.RowKit
def Dg.in {l:List Int} (h:Dg l) (i:Nat) (hi:i < l.length):0<=l.getD i 0∧l.getD i 0 < 1000000000:=h.any i
namespace K
attribute [local irreducible] WC WL WD YO LO Qq W.Fin Qw Qu Qj Row QQ Qy KnS Has W.One Ql Qr
def digitOk_c (d:Int) (h:0<=d∧d < 1000000000):FnB Tryz.prog 203 [.int .i64 d] [] [] (IsV (.bool false)):=by
 refine fO [(0,(.int .i64 d))] 9 Tryz.func203 Tryz.ntmps203 λh0=>?_;obtain⟨h1,h2⟩:=h;repeat'(first|intro(g:Nat)|refine gA ?_|intro v)
 refine WC.ret ?_;exact Fin.v (Qv.t1 rfl rfl) meA rfl
def noIndexI_c (v:Value) (l:List Int) (f:FuncId) (hf:∀ i,i < l.length->FnB Tryz.prog f [.int .i64 (l.getD i 0)] [] [] (IsV (.bool false))):FnB Tryz.prog 220 [v,.func (.func f) #[] #[]] [] [sI v l] (IsV (.int .i64 (-1))):=by
 refine fO [(0,v),(1,(.func (.func f) #[] #[]))] 19 Tryz.func220 Tryz.ntmps220 λh0=>?_;refine WC.K4 v l hmA λhm=>?_;repeat'(first|intro(g:Nat)|refine gA ?_|intro v)
 refine WC.lp (σ:=Nat) (λi=>[(8,.int .i64 (i:Int)),(7,.int .i64 (l.length:Int)),(0,v),(1,.func (.func f) #[] #[])]) (λ_=>[]) (λ_=>[ge h0,sI v l]) (λi=>i<=l.length) (λi=>l.length - i) 0 (Nat.zero_le _) ?_;intro i hi;by_cases c:i < l.length
 ·repeat'(first|intro(g:Nat)|refine gA ?_|intro v)
  refine WL.Xw [] [] (vs:=[.int .i64 (l.getD i 0)]) (by simpa using hf i c) ?_;rintro _ _ _ ⟨rfl,rfl,rfl⟩;refine sNn ?_;repeat'(first|intro(g:Nat)|refine gA ?_|intro v)
  exact Qq.mk (i+1) qo qo
 ·obtain rfl:i=l.length:=qo;repeat'(first|intro(g:Nat)|refine gA ?_|intro v)
  refine WC.ret ?_;exact Fin.v (Qv.t1 rfl rfl) meA rfl
def VS (v:Value) (l:List Int) (f:FuncId) (hf:∀ i,i < l.length->FnB Tryz.prog f [.int .i64 (l.getD i 0)] [] [] (IsV (.bool false))):FnB Tryz.prog 202 [v,.func (.func f) #[] #[]] [] [sI v l] (IsV (.bool false)):=by
 refine fO [(0,v),(1,(.func (.func f) #[] #[]))] 9 Tryz.func202 Tryz.ntmps202 λh0=>?_;repeat'(first|intro(g:Nat)|refine gA ?_|intro v)
 refine cV (noIndexI_c v l f hf) ?_;repeat'(first|intro(g:Nat)|refine gA ?_|intro v)
 refine WC.ret ?_;exact Fin.v (Qv.t1 rfl rfl) meA rfl
def ivalid_c (v:Value) (z:Int):FnB Tryz.prog 164 [v] [] [isZ v z] (IsV (.bool true)):=by
 refine fO [(0,v)] 32 Tryz.func164 Tryz.ntmps164 λh0=>?_;refine WC.QR (v:=v) (z:=z) hmA λn1 d1 hv hb1=>?_;subst hv;refine WC.fact (sI d1 (Qx z.natAbs)) (Qo hmA) ?_;have hd:=Qf z.natAbs;have hn:=Y5 z.natAbs;have hl:=@QK z.natAbs;generalize Qx z.natAbs=l at *;refine WC.K4 d1 l hmA λhlen=>?_;repeat'(first|intro(g:Nat)|refine gA ?_|intro v)
 refine cV (VS d1 l _ λi hi=>digitOk_c _ (hd.in i hi)) ?_;by_cases c:l.length=0
 ·obtain rfl:n1=false:=by rw[hb1,decide_eq_false];have:=hl.1 c;omega
  repeat'(first|intro(g:Nat)|refine gA ?_|intro v)
  refine WC.ret ?_;exact Fin.v (Qv.t1 rfl rfl) meA rfl
 ·have h1:=hn qo;rw[show l.length - 1=((l.length:Int) - 1).toNat by omega] at h1;repeat'(first|intro(g:Nat)|refine gA ?_|intro v)
  refine WC.ret ?_;exact Fin.v (Qv.t1 rfl rfl) meA rfl
def Xa (m:QM) (q:Rat) (hq:Sm q):FnB Tryz.prog 94 [qv m] [] [isQ (qv m) q] (IsV (.bool true)):=by
 refine fO [(0,(qv m))] 36 Tryz.func94 Tryz.ntmps94 λh0=>?_;refine WC.fact (isZ (.agg #[.bool m.1,m.2.1]) q.num) (Jg hmA) ?_;refine WC.fact (isZ (.agg #[.bool false,m.2.2]) (qz q)) (Vu hmA) ?_;refine WC.fact (sI m.2.2 (Qx (qz q).natAbs)) (Zm hmA) ?_;have hl:=@Zv q;repeat'(first|intro(g:Nat)|refine gA ?_|intro v)
 refine cV (ivalid_c (.agg #[.bool m.1,m.2.1]) q.num) ?_;repeat'(first|intro(g:Nat)|refine gA ?_|intro v)
 refine cV (ivalid_c (.agg #[.bool false,m.2.2]) (qz q)) ?_;repeat'(first|intro(g:Nat)|refine gA ?_|intro v)
 refine cV (Rtm.VC (.agg #[.bool false,m.2.2]) (qz q)) ?_;have h1:qz q≠1:=by unfold qz;split <;> omega
 rw[decide_eq_false h1];by_cases c:q.den=1
 ·have h2:=hl.2 c;repeat'(first|intro(g:Nat)|refine gA ?_|intro v)
  refine WC.ret ?_;exact Fin.v (Qv.t1 rfl rfl) meA rfl
 ·have h2:(Qx (qz q).natAbs).length≠0:=λh=>c (hl.1 h);have h3:qz q=(q.den:Int):=by unfold qz;rw[if_neg c]
  have hgcd:Int.gcd q.num (qz q)=1:=by rw[h3];exact q.reduced
  repeat'(first|intro(g:Nat)|refine gA ?_|intro v)
  refine cK (Dvz.gcd_c (.agg #[.bool m.1,m.2.1]) (.agg #[.bool false,m.2.2]) q.num (qz q) (Sm.w hq.1) (by rw[h3,Int.natAbs_natCast];exact Sm.w hq.2)) ?_;rintro _ _ _ ⟨n1,d1,rfl,hb1,rfl,rfl⟩;refine sNn ?_;repeat'(first|intro(g:Nat)|refine gA ?_|intro v)
  refine cV (Rtm.VC (.agg #[.bool n1,d1]) _) ?_;repeat'(first|intro(g:Nat)|refine gA ?_|intro v)
  refine WC.ret ?_;exact Fin.v (Qv.t1 rfl rfl) meA (by rw[hgcd];rfl)
end K
end
section
open W Go.RowKit
open Bl (Vc Bd Tc Sc)
def Sb (K:Nat) (b:Bd):Prop:=Sv K b.c∧Sq K b.lo∧Sq K b.hi∧Sq K b.st
def St (K:Nat) (t:Tc):Prop:=Sv K t.p∧Sv K t.q∧Sv K t.n∧Sq K t.r
namespace K
attribute [local irreducible] WC WL WD YO LO Qq W.Fin Qw Qu Qj Row QQ Qy KnS Has W.One Ql Qr
def d127 {G G':Prop} (h:G') (s:Bx G'->G:=by
 intro h;first|refine gB ?_|(apply WC.draw (id:=3) [0,1,3,4,5,6,7,9,10,11,12,13,14,15,16,17,21,22,23] (.h 0<|.h 1<|.l 2<|.h 3<|.h 4<|.h 5<|.h 6<|.h 7<|.l 8<|.h 9<|.h 10<|.h 11<|.h 12<|.h 13<|.h 14<|.h 15<|.h 16<|.h 17<|.l 18<|.l 19<|.l 20<|.h 21<|.h 22<|.h 23 .done) mixed kr)|fail
 exact Bx.h h):G:=s ⟨h⟩
def UE (m:VM) (a:Vc) (K:Nat) (hK:K<=10000000) (ha:Sv K a):FnB Tryz.prog 192 [vv m] [] [fV m a] (IsV (.bool true)):=by
 refine fO [(0,(vv m))] 11 Tryz.func192 Tryz.ntmps192 λh0=>?_;repeat'(first|intro(g:Nat)|refine gA ?_|intro v)
 refine cV (Xa m.1 a.x (ha.1.sm qo)) ?_;repeat'(first|intro(g:Nat)|refine gA ?_|intro v)
 refine cV (Xa m.2 a.y (ha.2.sm qo)) ?_;repeat'(first|intro(g:Nat)|refine gA ?_|intro v)
 refine WC.ret ?_;exact Fin.v (Qv.t1 rfl rfl) meA rfl
def isBody_c (m:BM) (b:Bd) (K:Nat) (hK:K<=10000000) (hs:Sb K b) (hb:Bl.BdOk b):FnB Tryz.prog 126 [bv m] [] [fB m b] (IsV (.bool true)):=by
 refine fO [(0,(bv m))] 43 Tryz.func126 Tryz.ntmps126 λh0=>?_;refine WC.fact (fV m.c b.c) (W.Has.bc (bm:=m) hmA) ?_;refine WC.fact (isQ (qv m.lo) b.lo) (W.Has.bl (b:=b) hmA) ?_;refine WC.fact (isQ (qv m.hi) b.hi) (W.Has.bh (b:=b) hmA) ?_;refine WC.fact (isQ (qv m.st) b.st) (W.Has.bs (b:=b) hmA) ?_;have h1:=ZZ.2 hb.1;have h2:=Rat.not_lt.2 hb.2.1;have h3:=ZZ.2 hb.2.2;have h4:J6 b.lo b.hi<=0:=Int.not_lt.1 λh=>h2 (Jm.1 h);repeat'(first|intro(g:Nat)|refine gA ?_|intro v)
 refine cV (UE m.c b.c K hK hs.1) ?_;repeat'(first|intro(g:Nat)|refine gA ?_|intro v)
 refine cV (Xa m.lo b.lo (hs.2.1.sm qo)) ?_;repeat'(first|intro(g:Nat)|refine gA ?_|intro v)
 refine cV (Xa m.hi b.hi (hs.2.2.1.sm qo)) ?_;repeat'(first|intro(g:Nat)|refine gA ?_|intro v)
 refine cV (Xa m.st b.st (hs.2.2.2.sm qo)) ?_;repeat'(first|intro(g:Nat)|refine gA ?_|intro v)
 refine cV (Zn.sign m.lo b.lo) ?_;repeat'(first|intro(g:Nat)|refine gA ?_|intro v)
 refine cV (Zn.cmp m.lo m.hi b.lo b.hi (hs.2.1.sm qo) (hs.2.2.1.sm qo)) ?_;repeat'(first|intro(g:Nat)|refine gA ?_|intro v)
 refine cV (Zn.sign m.st b.st) ?_;repeat'(first|intro(g:Nat)|refine gA ?_|intro v)
 refine WC.ret ?_;exact Fin.v (Qv.t1 rfl rfl) meA rfl
def isTouch_c (m:ToM) (t:Tc) (n K:Nat) (hK:K<=1000000) (hs:St K t) (ht:Bl.Us n t) (hn:n<=1000):FnB Tryz.prog 127 [tv m t,.int .i64 (n:Int)] [] [fT m t] (IsV (.bool true)):=by
 refine fO [(0,(tv m t)),(1,(.int .i64 (n:Int)))] 79 Tryz.func127 Tryz.ntmps127 λh0=>?_;refine WC.fact (fV m.p t.p) (W.Has.tp (tm:=m) hmA) ?_;refine WC.fact (fV m.q t.q) (W.Has.tq (tm:=m) hmA) ?_;refine WC.fact (fV m.n t.n) (W.Has.tn (tm:=m) hmA) ?_;refine WC.fact (isQ (qv m.r) t.r) (W.Has.trr (t:=t) hmA) ?_;obtain⟨a1,a2,b1,b2,ab,r0,n0,pq⟩:=ht;have h1:0<=sgn t.r.num:=Int.not_lt.1 λh=>Rat.not_lt.2 r0 (JB.1 h);repeat'(first|intro(g:Nat)|refine d127 ?_|intro v)
 refine cV (UE m.p t.p K qo hs.1) ?_;repeat'(first|intro(g:Nat)|refine d127 ?_|intro v)
 refine cV (UE m.q t.q K qo hs.2.1) ?_;repeat'(first|intro(g:Nat)|refine d127 ?_|intro v)
 refine cV (UE m.n t.n K qo hs.2.2.1) ?_;repeat'(first|intro(g:Nat)|refine d127 ?_|intro v)
 refine cV (Xa m.r t.r (hs.2.2.2.sm qo)) ?_;repeat'(first|intro(g:Nat)|refine d127 ?_|intro v)
 refine cV (Zn.sign m.r t.r) ?_;repeat'(first|intro(g:Nat)|refine d127 ?_|intro v)
 refine cV (vsame_c m.n (m00,m00) t.n ⟨0,0⟩) ?_;rw[decide_eq_false n0];repeat'(first|intro(g:Nat)|refine d127 ?_|intro v)
 refine cW (vsub_c m.q m.p t.q t.p K qo hs.2.1 hs.1) λm2=>?_;repeat'(first|intro(g:Nat)|refine d127 ?_|intro v)
 refine cW (vdot_c m.n m2 t.n (Bl.Q4 t.q t.p) (K+K+1) qo ⟨hs.2.2.1.1.up qo,hs.2.2.1.2.up qo⟩ ⟨hs.2.1.1.sub hs.1.1,hs.2.1.2.sub hs.1.2⟩) λn2=>?_;repeat'(first|intro(g:Nat)|refine d127 ?_|intro v)
 refine cV (Zn.sign n2 (t.n.x*(Bl.Q4 t.q t.p).x+t.n.y*(Bl.Q4 t.q t.p).y)) ?_;rw[show t.n.x*(Bl.Q4 t.q t.p).x+t.n.y*(Bl.Q4 t.q t.p).y=0 from pq,(QS.2 rfl:sgn (0:Rat).num=0)];repeat'(first|intro(g:Nat)|refine d127 ?_|intro v)
 refine WC.ret ?_;exact Fin.v (Qv.t1 rfl rfl) meA rfl
end K
end
section
open W Go.RowKit
open Bl (Vc Bd Tc Sc)
structure Ss (K:Nat) (S:Sc):Prop where
 B:∀ i,i < S.n->Sb K (S.B i)
 T:∀ j,j < S.m->St K (S.T j)
structure SM where
 l:Value
 t:Value
 B:Nat->BM
 T:Nat->ToM
abbrev fSl (M:SM) (S:Sc):Fct:=lF Qm M.l S.n M.B S.B
abbrev fSt (M:SM) (S:Sc):Fct:=lF Qb M.t S.m M.T S.T
def ab_p {q:Rat} (h:sgn q.num < 0):Bl.ab q= -q:=if_pos (JB.1 h)
def ab_n {q:Rat} (h:¬sgn q.num < 0):Bl.ab q=q:=if_neg λx=>h (JB.2 x)
def Sq.ab {K:Nat} {q:Rat} (h:Sq K q):Sq K (Bl.ab q):=by unfold Bl.ab;split;exact h.neg;exact h
def di1 (n:Int):Rat.divInt n 1=(n:Rat):=by
 show Rat.divInt n ((1:Nat):Int)=_;rw[Rat.divInt_ofNat,Rat.mkRat_one]
def GK (K:Nat) (hK:0 < K) (n:Int) (h:n.natAbs < 1000000000):Sq K (Rat.divInt n 1):=by
 rw[di1];exact Sq.int (by by_cases h0:n.natAbs=0;(rw[h0,Ju];exact Nat.zero_le _);rw[JH qo h];exact hK) hK
namespace K
attribute [local irreducible] WC WL WD YO LO Qq W.Fin Qw Qu Qj Row QQ Qy KnS Has W.One Ql Qr
def d61 {G G':Prop} (h:G') (s:Bx G'->G:=by
 intro h;first|refine gB ?_|(apply WC.draw (id:=5) [0] (.h 0<|.l 1<|.l 2<|.l 3 .done) mixed kr)|fail
 exact Bx.h h):G:=s ⟨h⟩
def d62 {G G':Prop} (h:G') (s:Bx G'->G:=by
 intro h;first|refine gB ?_|(apply WC.draw (id:=1) [0,1,3,4,5] (.h 0<|.h 1<|.h 3<|.h 4<|.l 2<|.h 5<|.l 6 .done) mixed kr)|fail
 exact Bx.h h):G:=s ⟨h⟩
def YP (M:SM) (S:Sc) (K:Nat) (hK:K<=1000000) (hs:Ss K S) (ho:S.ok):FnB Tryz.prog 55 [M.l,M.t] [] [fSl M S,fSt M S] (IsV (.int .i64 0)):=by
 refine fO [(0,M.l),(1,M.t)] 39 Tryz.func55 Tryz.ntmps55 λh0=>?_;have hn:=ho.n;have hm:=ho.m;repeat'(first|intro(g:Nat)|refine gA ?_|intro v)
 refine WC.Xf (σ:=Unit) (λ_=>[(0,M.l),(1,M.t),(4,.int .i64 0)]) (λ_=>[]) (λ_=>[ge h0,fSl M S,fSt M S]) (λ_=>True) ?_ ?_
 ·refine WC.lp (σ:=Nat) (λi=>[(19,.int .i64 (i:Int)),(18,.int .i64 (S.n:Int)),(17,M.l),(0,M.l),(1,M.t),(4,.int .i64 0)]) (λ_=>[]) (λ_=>[ge h0,fSl M S,fSt M S]) (λi=>i<=S.n) (λi=>S.n - i) 0 (Nat.zero_le _) ?_;intro i hi;by_cases c:i < S.n
  ·refine WC.fact (fB (M.B i) (S.B i)) (W.Has.lk (S:=Qm) (v:=M.l) hmA c) ?_;repeat'(first|intro(g:Nat)|refine gA ?_|intro v)
   refine cV (isBody_c (M.B i) (S.B i) K qo (hs.B i c) (ho.B i c)) ?_;repeat'(first|intro(g:Nat)|refine gA ?_|intro v)
   exact Qq.mk (i+1) qo qo
  ·repeat'(first|intro(g:Nat)|refine gA ?_|intro v)
   exact QZ () trivial
 ·rintro⟨⟩ _;repeat'(first|intro(g:Nat)|refine gA ?_|intro v)
  refine WC.lp (σ:=Nat) (λi=>[(29,.int .i64 (i:Int)),(28,.int .i64 (S.m:Int)),(27,M.t),(0,M.l),(1,M.t),(4,.int .i64 0)]) (λ_=>[]) (λ_=>[ge h0,fSl M S,fSt M S]) (λi=>i<=S.m) (λi=>S.m - i) 0 (Nat.zero_le _) ?_;intro i hi;by_cases c:i < S.m
  ·refine WC.fact (fT (M.T i) (S.T i)) (W.Has.lk (S:=Qb) (v:=M.t) hmA c) ?_;repeat'(first|intro(g:Nat)|refine gA ?_|intro v)
   refine cV (isTouch_c (M.T i) (S.T i) S.n K hK (hs.T i c) (ho.T i c) qo) ?_;repeat'(first|intro(g:Nat)|refine gA ?_|intro v)
   exact Qq.mk (i+1) qo qo
  ·repeat'(first|intro(g:Nat)|refine gA ?_|intro v)
   refine WC.ret ?_;exact Fin.v (Qv.t1 rfl rfl) meA rfl
def across_c (m:VM) (a:Vc):FnB Tryz.prog 62 [vv m] [] [fV m a] (KA (Bl.turn a)):=by
 refine fO [(0,(vv m))] 9 Tryz.func62 Tryz.ntmps62 λh0=>?_;repeat'(first|intro(g:Nat)|refine d62 ?_|intro v)
 refine cW (Zn.neg m.2 a.y) λn1=>?_;repeat'(first|intro(g:Nat)|refine d62 ?_|intro v)
 refine WC.ret ?_;exact Fp [fV (n1,m.1) (Bl.turn a)] (rcV T.r75) (.cons (W.Has.vof hmA (W.Has.vx (a:=a) hmA)) .nil) ⟨(n1,m.1),rfl,rfl,rfl⟩
def span_c (m:VM) (a:Vc) (K:Nat) (hK:K<=1000000) (ha:Sv K a):FnB Tryz.prog 107 [vv m] [] [fV m a] (IsR (Bl.spn a)):=by
 refine fO [(0,(vv m))] 24 Tryz.func107 Tryz.ntmps107 λh0=>?_;repeat'(first|intro(g:Nat)|refine gA ?_|intro v)
 refine cV (Zn.sign m.1 a.x) ?_;refine WL.QG (isQ (qv m.1) a.x) (W.Has.vx (a:=a) hmA) ?_;refine WL.QG (isQ (qv m.2) a.y) (W.Has.vy (a:=a) hmA) ?_;unfold Bl.spn;by_cases c:sgn a.x.num < 0
 ·rw[ab_p c];repeat'(first|intro(g:Nat)|refine gA ?_|intro v)
  refine cW (Zn.neg m.1 a.x) λn1=>?_;repeat'(first|intro(g:Nat)|refine gA ?_|intro v)
  refine cV (Zn.sign m.2 a.y) ?_;by_cases d:sgn a.y.num < 0
  ·rw[ab_p d];repeat'(first|intro(g:Nat)|refine gA ?_|intro v)
   refine cW (Zn.neg m.2 a.y) λn2=>?_;repeat'(first|intro(g:Nat)|refine gA ?_|intro v)
   refine cW (Zn.add n1 n2 (-a.x) (-a.y) (ha.1.neg.sm qo) (ha.2.neg.sm qo)) λn3=>?_;repeat'(first|intro(g:Nat)|refine gA ?_|intro v)
   refine WC.ret ?_;exact Fp [isQ (qv n3) (-a.x+ -a.y)] (rcV T.r64) haA ⟨n3,rfl,rfl,rfl⟩
  ·rw[ab_n d];repeat'(first|intro(g:Nat)|refine gA ?_|intro v)
   refine cW (Zn.add n1 m.2 (-a.x) (a.y) (ha.1.neg.sm qo) (ha.2.sm qo)) λn3=>?_;repeat'(first|intro(g:Nat)|refine gA ?_|intro v)
   refine WC.ret ?_;exact Fp [isQ (qv n3) (-a.x+a.y)] (rcV T.r64) haA ⟨n3,rfl,rfl,rfl⟩
 ·rw[ab_n c];repeat'(first|intro(g:Nat)|refine gA ?_|intro v)
  refine cV (Zn.sign m.2 a.y) ?_;by_cases d:sgn a.y.num < 0
  ·rw[ab_p d];repeat'(first|intro(g:Nat)|refine gA ?_|intro v)
   refine cW (Zn.neg m.2 a.y) λn2=>?_;repeat'(first|intro(g:Nat)|refine gA ?_|intro v)
   refine cW (Zn.add m.1 n2 (a.x) (-a.y) (ha.1.sm qo) (ha.2.neg.sm qo)) λn3=>?_;repeat'(first|intro(g:Nat)|refine gA ?_|intro v)
   refine WC.ret ?_;exact Fp [isQ (qv n3) (a.x+ -a.y)] (rcV T.r64) haA ⟨n3,rfl,rfl,rfl⟩
  ·rw[ab_n d];repeat'(first|intro(g:Nat)|refine gA ?_|intro v)
   refine cW (Zn.add m.1 m.2 (a.x) (a.y) (ha.1.sm qo) (ha.2.sm qo)) λn3=>?_;repeat'(first|intro(g:Nat)|refine gA ?_|intro v)
   refine WC.ret ?_;exact Fp [isQ (qv n3) (a.x+a.y)] (rcV T.r64) haA ⟨n3,rfl,rfl,rfl⟩
def on_c (me:EM) (e:Ed) (i:Nat) (mv:VM) (f:Vc) (K:Nat) (h0K:0 < K) (hK:K<=1000000) (hf:Sv K f) (hi:i<=1000):FnB Tryz.prog 61 [edv me e,.int .i64 (i:Int),vv mv] [] [fV mv f] (KA (Bl.on e.t i f)):=by
 refine fO [(0,(edv me e)),(1,(.int .i64 (i:Int))),(2,(vv mv))] 23 Tryz.func61 Tryz.ntmps61 λh0=>?_;by_cases c:e.t.a=(i:Int)
 ·have e1:Bl.on e.t i f=f:=if_pos c;rw[e1];repeat'(first|intro(g:Nat)|refine d61 ?_|intro v)
  refine WC.ret ?_;exact Fp [fV mv f] (rcV T.r75) haA ⟨mv,rfl,rfl,rfl⟩
 ·by_cases d:e.t.b=(i:Int)
  ·have e1:Bl.on e.t i f=⟨f.x*Rat.divInt (-1) 1,f.y*Rat.divInt (-1) 1⟩:=by
    unfold Bl.on;rw[if_neg c,if_pos d];exact congr (congrArg Vc.mk (by rw[di1];grind)) (by rw[di1];grind)
   rw[e1];repeat'(first|intro(g:Nat)|refine d61 ?_|intro v)
   refine cW (Zn.of (-1) 1 qd qd) λn1=>?_;repeat'(first|intro(g:Nat)|refine d61 ?_|intro v)
   refine cW (VN mv n1 f (Rat.divInt (-1) 1) K qo hf (GK K h0K (-1) qd)) λm2=>?_;repeat'(first|intro(g:Nat)|refine d61 ?_|intro v)
   refine WC.ret ?_;exact Fp [fV m2 ⟨f.x*Rat.divInt (-1) 1,f.y*Rat.divInt (-1) 1⟩] (rcV T.r75) haA ⟨m2,rfl,rfl,rfl⟩
  ·have e1:Bl.on e.t i f=⟨0,0⟩:=by unfold Bl.on;rw[if_neg c,if_neg d]
   rw[e1];repeat'(first|intro(g:Nat)|refine d61 ?_|intro v)
   refine WC.ret ?_;exact Fp [fV (m00,m00) ⟨0,0⟩] (rcV T.r75) haA ⟨(m00,m00),rfl,rfl,rfl⟩
end K
end
end Go.Proofs.YtcpaopfdiahnnaaGreat
