/- Lemmas for a law. Conditions: none. -/
import Derived.Test.YtcpaopfdiahnnaaGreatZb11
set_option linter.all false
set_option maxHeartbeats 32000000
set_option maxRecDepth 100000
namespace Go.Proofs.YtcpaopfdiahnnaaGreat
section
open W Go.RowKit
attribute [local irreducible] WC WL WD YO LO Qq W.Fin Qw Qu Qj Row QQ Qy KnS Has W.One Ql Qr
structure Bx (p:Prop):Prop where
 h:p
def gA {G G':Prop} (h:G') (s:Bx G'->G:=by
 intro h
 (first|refine go ?_|refine goX ?_|refine goB ?_|refine goG ?_|refine goV ?_|fail)
 exact Bx.h h):G:=s ⟨h⟩
def gB {G G':Prop} (h:G') (s:Bx G'->G:=by
 intro h
 (first|refine go ?_|refine goX ?_|refine goB ?_|refine goD ?_|refine goXD ?_|refine goG ?_|refine goDG ?_|refine goV ?_|refine goDV ?_|fail)
 exact Bx.h h):G:=s ⟨h⟩
def gM {G G':Prop} (h:G') (s:Bx G'->G:=by
 intro h
 (first|refine go ?_|refine goX ?_|refine goB ?_|refine goD ?_|refine goXD ?_|apply WD.UC|refine WM.one qr qr qr ?_|refine goLS ?_|refine goG ?_|refine goDG ?_|refine goLG ?_|refine goV ?_|refine goDV ?_|refine goLV ?_|fail)
 exact Bx.h h):G:=s ⟨h⟩
def gY {G G':Prop} (h:G') (s:Bx G'->G:=by
 intro h
 (first|refine goLY ?_|refine goYB ?_|refine ZO ?_|fail)
 exact Bx.h h):G:=s ⟨h⟩
def gN {G A B:Prop} (h1:A) (h2:B) (s:Bx A->Bx B->G:=by
 intro h1 h2
 (first|refine WM.more qr qr qr ?_ ?_|fail)
 exact Bx.h h1;exact Bx.h h2):G:=s ⟨h1⟩ ⟨h2⟩
def gE {G G':Prop} (h:G') (s:Bx G'->G:=by
 intro h
 (first|refine go ?_|refine goX ?_|refine goB ?_|refine goE ?_|refine goD ?_|refine goXD ?_|apply WD.UC|refine WM.one qr qr qr ?_|refine goLS ?_|refine goG ?_|refine goEG ?_|refine goDG ?_|refine goLG ?_|refine goV ?_|refine goEV ?_|refine goDV ?_|refine goLV ?_|fail)
 exact Bx.h h):G:=s ⟨h⟩
def gF {G G':Prop} (h:G') (s:Bx G'->G:=by
 intro h
 (first|refine go ?_|refine goX ?_|refine goB ?_|refine goE ?_|refine goD ?_|refine goXD ?_|refine goG ?_|refine goEG ?_|refine goDG ?_|refine goV ?_|refine goEV ?_|refine goDV ?_|fail)
 exact Bx.h h):G:=s ⟨h⟩
def gP {G G':Prop} (h:G') (s:Bx G'->G:=by
 intro h
 (first|refine go ?_|refine goX ?_|refine goB ?_|refine goE ?_|refine goG ?_|refine goEG ?_|refine goV ?_|refine goEV ?_|fail)
 exact Bx.h h):G:=s ⟨h⟩
def cK {P:Program} {f:FuncId} {vs:List Value} {F':List Fct} {R:Qd} {G G':Prop} (hf:FnB P f vs [] F' R) (h:G') (s:FnB P f vs [] F' R->Bx G'->G:=by
 intro hf h;first|(refine WL.QH (hv:=?hvQ) hf ?_;(case hvQ=>((repeat(first|exact Evs.nil|(apply Evs.cons;exact rfl)));done));exact Bx.h h)|(refine WD.QH (hv:=?hvQ) hf ?_;(case hvQ=>((repeat(first|exact Evs.nil|(apply Evs.cons;exact rfl)));done));exact Bx.h h)|(refine LO.callM (hv:=?hvQ) hf ?_;(case hvQ=>((repeat(first|exact Evs.nil|(apply Evs.cons;exact rfl)));done));exact Bx.h h)|fail):G:=s hf ⟨h⟩
def cW {P:Program} {f:FuncId} {vs:List Value} {F':List Fct} {R:Qd} {M:Type} {G:Prop} {G':M->Prop} (hf:FnB P f vs [] F' R) (h:∀ m,G' m) (s:FnB P f vs [] F' R->Bx (∀ m,G' m)->G:=by
 intro hf h;first|(refine WL.QH (hv:=?hvQ) hf ?_;(case hvQ=>((repeat(first|exact Evs.nil|(apply Evs.cons;exact rfl)));done));rintro _ _ _ ⟨m,rfl,rfl,rfl⟩;simp only[List.nil_append,List.cons_append];exact Bx.h h m)|(refine WD.QH (hv:=?hvQ) hf ?_;(case hvQ=>((repeat(first|exact Evs.nil|(apply Evs.cons;exact rfl)));done));rintro _ _ _ ⟨m,rfl,rfl,rfl⟩;simp only[List.nil_append,List.cons_append];exact Bx.h h m)|(refine LO.callM (hv:=?hvQ) hf ?_;(case hvQ=>((repeat(first|exact Evs.nil|(apply Evs.cons;exact rfl)));done));rintro _ _ _ ⟨m,rfl,rfl,rfl⟩;simp only[List.nil_append,List.cons_append];exact Bx.h h m)|fail):G:=s hf ⟨h⟩
def sNn {G G':Prop} (h:G') (s:Bx G'->G:=by
 intro h;simp only[List.nil_append,List.cons_append];exact Bx.h h):G:=s ⟨h⟩
def cU {P:Program} {f:FuncId} {vs:List Value} {F':List Fct} {R:Qd} {G G':Prop} (hf:FnB P f vs [] F' R) (h:G') (s:FnB P f vs [] F' R->Bx G'->G:=by
 intro hf h;first|(refine WL.QH (hv:=?hvQ) hf ?_;(case hvQ=>((repeat(first|exact Evs.nil|(apply Evs.cons;exact rfl)));done));rintro _ _ _ ⟨rfl,rfl,rfl⟩;simp only[List.nil_append,List.cons_append];exact Bx.h h)|(refine WD.QH (hv:=?hvQ) hf ?_;(case hvQ=>((repeat(first|exact Evs.nil|(apply Evs.cons;exact rfl)));done));rintro _ _ _ ⟨rfl,rfl,rfl⟩;simp only[List.nil_append,List.cons_append];exact Bx.h h)|(refine LO.callM (hv:=?hvQ) hf ?_;(case hvQ=>((repeat(first|exact Evs.nil|(apply Evs.cons;exact rfl)));done));rintro _ _ _ ⟨rfl,rfl,rfl⟩;simp only[List.nil_append,List.cons_append];exact Bx.h h)|fail):G:=s hf ⟨h⟩
def cV {P:Program} {f:FuncId} {vs:List Value} {F':List Fct} {u:Value} {G G':Prop} (hf:FnB P f vs [] F' (IsV u)) (h:G') (s:FnB P f vs [] F' (IsV u)->Bx G'->G:=by
 intro hf h;first|(refine WL.XR hf ?_;exact Bx.h h)|(refine WD.XR hf ?_;exact Bx.h h)|fail):G:=s hf ⟨h⟩
def Qc {α:Type} {p q:α->Prop} (h1:∀ a,p a) (h2:∀ a,q a):∀ a,p a∧q a:=λa=>⟨h1 a,h2 a⟩
def meA {G:Prop} (h:G:=by first|(((repeat(first|exact List.Mem.head _|apply List.Mem.tail)));done)|fail):G:=h
def hmA {G:Prop} (h:G:=by first|(((focus(apply Has.mem;(repeat(first|exact List.Mem.head _|apply List.Mem.tail));done)));done)|fail):G:=h
def sfA {G:Prop} (h:G:=by first|((repeat(first|exact Qk.nil|(apply Qk.cons;(focus(apply Has.mem;(repeat(first|exact List.Mem.head _|apply List.Mem.tail));done)))));done)|fail):G:=h
def suA {G:Prop} (h:G:=by first|((repeat(first|exact Sub.nil _|refine Sub.cons rfl ?_));done)|fail):G:=h
def slA {G:Prop} (h:G:=by first|((repeat(first|exact List.Sublist.refl _|exact List.nil_sublist _|apply List.Sublist.cons_cons|apply List.Sublist.cons));done)|fail):G:=h
def evA {G:Prop} (h:G:=by first|((repeat(first|exact Evs.nil|(apply Evs.cons;exact rfl)));done)|fail):G:=h
def seA {G:Prop} (h:G:=by first|(((repeat(first|exact Sel.head|apply Sel.tail)));done)|fail):G:=h
def t0A {G:Prop} (h:G:=by first|(((first|exact T.f36_0|exact T.f36_1|exact T.f36_2|exact T.f62_0|exact T.f62_1|exact T.f64_0|exact T.f64_1|exact T.f101_0|exact T.f101_1|exact T.f101_2|exact T.f101_3|exact T.f110_0|exact T.f110_1|exact T.f157_0|exact T.f157_1|exact T.f157_2|exact T.f157_3|exact T.f157_4|exact T.f157_5));done)|fail):G:=h
def t1A {G:Prop} (h:G:=by first|(((first|exact T.al3|exact T.al4|exact T.al34|exact T.al36|exact T.al62|exact T.al64|exact T.al101|exact T.al110|exact T.al130|exact T.al154));done)|fail):G:=h
def t2A {G:Prop} (h:G:=by first|(((first|exact T.sc3|exact T.sc4|exact T.sc22|exact T.sc33|exact T.sc34|exact T.sc95|exact T.sc130|exact T.sc154));done)|fail):G:=h
def t3A {G:Prop} (h:G:=by first|(((first|exact T.z3));done)|fail):G:=h
def t4A {G:Prop} (h:G:=by first|(((first|exact T.r36|exact T.r62|exact T.r64|exact T.K6|exact T.VT));done)|fail):G:=h
def t5A {G:Prop} (h:G:=by first|(((first|exact T.e22|exact T.e33|exact T.e34|exact T.e95|exact T.e130));done)|fail):G:=h
def t6A {G:Prop} (h:G:=by first|(((first|exact T.s22|exact T.s33|exact T.s34|exact T.s95|exact T.s130));done)|fail):G:=h
def t7A {G:Prop} (h:G:=by first|(((first|exact T.u3|exact T.u135));done)|fail):G:=h
def knA {G:Prop} (h:G:=by first|(((first|(focus(apply KnS.f;exact hmA;done))|(focus(apply KnS.oI;exact meA;done))|(focus(apply KnS.o1;exact meA;done))|(focus(apply KnS.zd;exact hmA;done))|(focus(apply KnS.q1;exact hmA;done))|(focus(apply KnS.q2;exact hmA;done))));done)|fail):G:=h
def hsA {G:Prop} (h:G:=by first|(((first|exact hmA|(focus(apply Jg;exact hmA;done))|(focus(apply Vu;exact hmA;done))|exact Vh|exact YC|(focus(apply Qo;exact hmA;done))|(focus(apply hasQ_d1;exact hmA;done))|(focus(apply Zm;exact hmA;done))));done)|fail):G:=h
def haA {G:Prop} (h:G:=by first|((repeat(first|exact Qk.nil|(apply Qk.cons;exact hsA)));done)|fail):G:=h
def ltA {G:Prop} (h:G:=by first|(((first|(focus(apply Or.inr;constructor;(repeat(first|exact List.Sublist.refl _|exact List.nil_sublist _|apply List.Sublist.cons_cons|apply List.Sublist.cons));(first|exact λ_ h=>h|(intro f hf;(repeat(first|exact hf|apply List.Mem.tail))));done))|(apply Or.inl;kernel_rfl)));done)|fail):G:=h
def onA {G:Prop} (h:G:=by first|(((first|exact Ke _|(intro u hu;simp only[List.mem_cons,List.not_mem_nil,or_false] at hu;first|(subst hu;rfl)|(rcases hu with rfl|rfl|rfl <;> rfl))));done)|fail):G:=h
def leA {G:Prop} (h:G:=by first|(((simp only[List.length_map,List.length_append,List.length_cons,List.length_nil,List.length_replicate,List.length_take];omega));done)|fail):G:=h
def Q5 {G:Prop} (h:G:=by first|(((first|(first|(apply YO.ix1;exact t6A;exact rfl;exact rfl;exact knA;omega)|(apply YO.ix;exact t6A;exact rfl;exact rfl;exact knA;omega)|(apply YO.ZP;exact t6A;exact rfl;exact rfl;exact knA;omega;omega)|(apply YO.ix';exact t6A;exact rfl;exact rfl;exact knA;omega;omega))|(apply YO.ix1;exact t6A;exact rfl;exact rfl;exact knA;(first|omega|(simp only[List.length_set];omega)))|(apply YO.ix;exact t6A;exact rfl;exact rfl;exact knA;(first|omega|(simp only[List.length_set];omega)))|(apply YO.ZP;exact t6A;exact rfl;exact rfl;exact knA;omega;(first|omega|(simp only[List.length_set];omega)))));done)|fail):G:=h
def Yn {G:Prop} (h:G:=by first|(((first|(apply YO.ldW;exact t4A;exact rfl;exact meA;exact rfl)|(apply YO.ld42;exact t4A;exact rfl;exact meA)|(apply YO.ld40;exact t4A;exact rfl;exact meA)|(apply YO.ld51;exact t4A;exact rfl;exact meA)|(apply YO.ldF;exact t2A;exact rfl;exact hmA;exact rfl)|(apply YO.ldS;exact t2A;exact rfl;exact hsA;omega)|(apply YO.ldB;exact t2A;exact rfl;exact meA;exact rfl)|(apply YO.ZS;exact t2A;exact rfl;exact meA;(first|omega|(simp only[List.length_set];omega)))));done)|fail):G:=h
def XY {G:Prop} (h:G:=by first|(((first|(first|(apply YO.slice;exact t6A;exact rfl;exact knA;exact Or.inl ⟨rfl,rfl⟩;exact Or.inr ⟨_,rfl,rfl⟩;omega;omega)|(apply YO.slice;exact t6A;exact rfl;exact knA;exact Or.inr ⟨_,rfl,rfl⟩;exact Or.inl ⟨rfl,rfl⟩;omega;omega))|(apply YO.slice3;exact t6A;exact rfl;exact knA;exact rfl;exact rfl;omega;omega)));done)|fail):G:=h
def Y0 {G:Prop} (h:G:=by first|(((first|(first|(first|(apply YO.eql_t;exact rfl;exact rfl;omega)|(apply YO.eql_f;exact rfl;exact rfl;omega)))|(apply YO.beq_t;exact XN;exact rfl;exact rfl;(first|rfl|assumption|decide))|(apply YO.beq_f;exact XN;exact rfl;exact rfl;(first|rfl|assumption|decide))));done)|fail):G:=h
def Xp {G:Prop} (h:G:=by first|(((first|(apply YO.buildZ;exact rfl;exact rfl;exact knA)|exact YO.buildZ0|exact YO.buildQ0|(apply YO.buildQ1;exact rfl)|(apply YO.buildQ2;exact rfl;exact rfl)));done)|fail):G:=h
def KF {G:Prop} (h:G:=by first|(((apply YO.len;exact t6A;exact rfl;exact knA));done)|fail):G:=h
def QT {G:Prop} (h:G:=by first|(((first|(apply YO.KT;exact t0A;exact rfl)|(apply YO.Yx;exact t0A;exact rfl;((try simp only[Nat.zero_add,Nat.mul_one,Nat.reduceAdd,Nat.reduceMul]);exact rfl))));done)|fail):G:=h
def Uf {G:Prop} (h:G:=by first|(((first|(first|(apply YO.convU;exact t7A;exact t7A;exact rfl;omega;omega)|(apply YO.convI;exact t7A;exact t7A;exact rfl;omega;omega))|(apply YO.convN;exact t7A;exact t7A;exact rfl;omega;omega)));done)|fail):G:=h
def KB {G:Prop} (h:G:=by first|(((first|(first|(apply YO.neq_t;exact rfl;exact rfl;omega)|(apply YO.neq_f;exact rfl;exact rfl;omega))|(apply YO.bne_t;exact XN;exact rfl;exact rfl;(first|rfl|assumption|decide))|(apply YO.bne_f;exact XN;exact rfl;exact rfl;(first|rfl|assumption|decide))));done)|fail):G:=h
def JG {G:Prop} (h:G:=by first|(((apply YO.makeFunc;(repeat(first|exact Evs.nil|(apply Evs.cons;exact rfl)));(repeat(first|exact Evs.nil|(apply Evs.cons;exact rfl)))));done)|fail):G:=h
def YG {G:Prop} (h:G:=by first|(((first|(apply YO.quo;exact rfl;exact rfl;omega;omega;omega)|(apply YO.uquo;exact rfl;exact rfl;omega;omega;omega)));done)|fail):G:=h
def VO {G:Prop} (h:G:=by first|(((first|(apply YO.and1;exact rfl;exact rfl;omega;omega)|(apply YO.and;exact rfl;exact rfl;omega;omega;omega;omega)));done)|fail):G:=h
def KE {G:Prop} (h:G:=by first|(((first|(apply YO.mul;exact rfl;exact rfl;omega;omega)|(apply YO.umul;exact rfl;exact rfl;omega;omega)));done)|fail):G:=h
def Ze {G:Prop} (h:G:=by first|(((first|(apply YO.rem;exact rfl;exact rfl;omega;omega)|(apply YO.urem;exact rfl;exact rfl;omega;omega)));done)|fail):G:=h
def KU {G:Prop} (h:G:=by first|(((first|(apply YO.inc;exact rfl;exact rfl;omega)|(apply YO.add;exact rfl;exact rfl;omega;omega)));done)|fail):G:=h
def KD {G:Prop} (h:G:=by first|(((first|(apply YO.lss_t;exact rfl;exact rfl;omega)|(apply YO.lss_f;exact rfl;exact rfl;omega)));done)|fail):G:=h
def KG {G:Prop} (h:G:=by first|(((first|(apply YO.gtr_t;exact rfl;exact rfl;omega)|(apply YO.gtr_f;exact rfl;exact rfl;omega)));done)|fail):G:=h
def KH {G:Prop} (h:G:=by first|(((first|(apply YO.geq_t;exact rfl;exact rfl;omega)|(apply YO.geq_f;exact rfl;exact rfl;omega)));done)|fail):G:=h
def VP {G:Prop} (h:G:=by first|(((first|(apply YO.leq_t;exact rfl;exact rfl;omega)|(apply YO.leq_f;exact rfl;exact rfl;omega)));done)|fail):G:=h
def ZA {G:Prop} (h:G:=by first|(((apply YO.shl';exact rfl;exact rfl;omega;omega;(first|omega|decide);(first|omega|decide)));done)|fail):G:=h
def YS {G:Prop} (h:G:=by first|(((first|(apply YO.neg;exact rfl;omega;omega)|(apply YO.uneg;exact rfl;omega;omega)));done)|fail):G:=h
def YR {G:Prop} (h:G:=by first|(((first|(apply YO.pick_t;exact rfl;exact rfl)|(apply YO.pick_f;exact rfl;exact rfl)));done)|fail):G:=h
def YT {G:Prop} (h:G:=by first|(((first|(apply YO.not_t;exact rfl)|(apply YO.not_f;exact rfl)));done)|fail):G:=h
def y_or {G:Prop} (h:G:=by first|(((apply YO.or;exact rfl;exact rfl;omega;omega;omega;omega));done)|fail):G:=h
def go {G G':Prop} (h:G') (s:Bx G'->G:=by
 intro h
 (first|apply WL.nil|(apply WL.skg;exact rfl;exact rfl)|(apply WL.Yu;(apply YO.move;exact rfl);exact rfl;exact rfl)|(apply WL.YK;(apply YO.assign;exact rfl);exact rfl;exact rfl)|(apply WL.k_lss;exact KD;exact rfl;exact rfl)|(apply WL.k_add;exact KU;exact rfl;exact rfl)|(apply WL.k_len;exact KF;exact rfl;exact rfl)|(apply WL.Jt;exact Q5;exact rfl;exact rfl)|(apply WL.YN;exact Yn;exact rfl;exact rfl)|(apply WL.Vb;exact YR;exact rfl;exact rfl)|(apply WL.Js;exact QT;exact rfl;exact rfl)|(apply WL.Ve;exact Y0;exact rfl;exact rfl)|(apply WL.Zq;exact KB;exact rfl;exact rfl)|(apply WL.k_nil;(apply YO.nil;exact rfl);exact rfl;exact rfl)|(apply WL.YW;(apply YO.extract;exact rfl;exact rfl);exact rfl;exact rfl)|(apply WL.k_gtr;exact KG;exact rfl;exact rfl)|(apply WL.k_geq;exact KH;exact rfl;exact rfl)|(apply WL.k_leq;exact VP;exact rfl;exact rfl)|(apply WL.k_sub;(apply YO.sub;exact rfl;exact rfl;omega;omega);exact rfl;exact rfl)|(apply WL.Yo;exact KE;exact rfl;exact rfl)|(apply WL.Zj;exact Ze;exact rfl;exact rfl)|(apply WL.YV;exact YG;exact rfl;exact rfl)|(apply WL.Vn;exact YT;exact rfl;exact rfl)|(apply WL.Va;exact YS;exact rfl;exact rfl)|(apply WL.k_max;(apply YO.max;exact rfl;exact rfl);exact rfl;exact rfl)|(apply WL.k_min;(apply YO.min;exact rfl;exact rfl);exact rfl;exact rfl)|(apply WL.Yy;exact JG;exact rfl;exact rfl)|(apply WL.Vd;exact Uf;exact rfl;exact rfl)|(apply WL.k_shl;exact ZA;exact rfl;exact rfl)|(apply WL.k_shr;(apply YO.shr';exact rfl;exact rfl;omega;omega);exact rfl;exact rfl)|(apply WL.k_and;exact VO;exact rfl;exact rfl)|(apply WL.Zp;exact XY;exact rfl;exact rfl)|(apply WL.YA;exact Xp;exact rfl;exact rfl)|apply WC.seq|apply WC.region|apply WC.block|(apply WC.cond_t;exact rfl)|(apply WC.cond_f;exact rfl)|apply WC.exit|apply WC.skip|apply WC.label|(apply WL.Jz;rotate_left;exact rfl;(first|(apply LO.Xl;exact rfl;exact rfl;exact t3A;exact seA;(first|omega|(simp only[List.length_set];omega)))|(apply LO.Yb;exact rfl;exact rfl;exact t3A;(first|exact One.lit rfl rfl|(apply One.sl;exact knA));exact seA;(first|(simp only[List.length_cons,List.length_nil];omega)|(simp;omega));(first|(simp only[List.set_cons_succ,List.set_cons_zero];exact rfl)|exact rfl))|(apply LO.Xj;exact rfl;exact rfl;exact t3A;(first|exact One.lit rfl rfl|(apply One.sl;exact knA));exact seA;(first|(simp only[List.length_cons,List.length_nil];omega)|(simp;omega));(first|(simp only[List.set_cons_succ,List.set_cons_zero];exact rfl)|exact rfl))|(apply LO.Yc;exact rfl;exact rfl;exact seA;exact t4A;exact rfl;exact rfl;(repeat(first|exact QC.nil|(apply QC.cons;(first|exact One.lit rfl rfl|(apply One.sl;exact knA)))))))))
 repeat(first|apply WL.nil|(apply WL.skg;exact rfl;exact rfl)|(apply WL.Yu;(apply YO.move;exact rfl);exact rfl;exact rfl)|(apply WL.YK;(apply YO.assign;exact rfl);exact rfl;exact rfl)|(apply WL.k_lss;exact KD;exact rfl;exact rfl)|(apply WL.k_add;exact KU;exact rfl;exact rfl)|(apply WL.k_len;exact KF;exact rfl;exact rfl)|(apply WL.Jt;exact Q5;exact rfl;exact rfl)|(apply WL.YN;exact Yn;exact rfl;exact rfl)|(apply WL.Vb;exact YR;exact rfl;exact rfl)|(apply WL.Js;exact QT;exact rfl;exact rfl)|(apply WL.Ve;exact Y0;exact rfl;exact rfl)|(apply WL.Zq;exact KB;exact rfl;exact rfl)|(apply WL.k_nil;(apply YO.nil;exact rfl);exact rfl;exact rfl)|(apply WL.YW;(apply YO.extract;exact rfl;exact rfl);exact rfl;exact rfl)|(apply WL.k_gtr;exact KG;exact rfl;exact rfl)|(apply WL.k_geq;exact KH;exact rfl;exact rfl)|(apply WL.k_leq;exact VP;exact rfl;exact rfl)|(apply WL.k_sub;(apply YO.sub;exact rfl;exact rfl;omega;omega);exact rfl;exact rfl)|(apply WL.Yo;exact KE;exact rfl;exact rfl)|(apply WL.Zj;exact Ze;exact rfl;exact rfl)|(apply WL.YV;exact YG;exact rfl;exact rfl)|(apply WL.Vn;exact YT;exact rfl;exact rfl)|(apply WL.Va;exact YS;exact rfl;exact rfl)|(apply WL.k_max;(apply YO.max;exact rfl;exact rfl);exact rfl;exact rfl)|(apply WL.k_min;(apply YO.min;exact rfl;exact rfl);exact rfl;exact rfl)|(apply WL.Yy;exact JG;exact rfl;exact rfl)|(apply WL.Vd;exact Uf;exact rfl;exact rfl)|(apply WL.k_shl;exact ZA;exact rfl;exact rfl)|(apply WL.k_shr;(apply YO.shr';exact rfl;exact rfl;omega;omega);exact rfl;exact rfl)|(apply WL.k_and;exact VO;exact rfl;exact rfl)|(apply WL.Zp;exact XY;exact rfl;exact rfl)|(apply WL.YA;exact Xp;exact rfl;exact rfl)|apply WC.seq|apply WC.region|apply WC.block|(apply WC.cond_t;exact rfl)|(apply WC.cond_f;exact rfl)|apply WC.exit|apply WC.skip|apply WC.label|(apply WL.Jz;rotate_left;exact rfl;(first|(apply LO.Xl;exact rfl;exact rfl;exact t3A;exact seA;(first|omega|(simp only[List.length_set];omega)))|(apply LO.Yb;exact rfl;exact rfl;exact t3A;(first|exact One.lit rfl rfl|(apply One.sl;exact knA));exact seA;(first|(simp only[List.length_cons,List.length_nil];omega)|(simp;omega));(first|(simp only[List.set_cons_succ,List.set_cons_zero];exact rfl)|exact rfl))|(apply LO.Xj;exact rfl;exact rfl;exact t3A;(first|exact One.lit rfl rfl|(apply One.sl;exact knA));exact seA;(first|(simp only[List.length_cons,List.length_nil];omega)|(simp;omega));(first|(simp only[List.set_cons_succ,List.set_cons_zero];exact rfl)|exact rfl))|(apply LO.Yc;exact rfl;exact rfl;exact seA;exact t4A;exact rfl;exact rfl;(repeat(first|exact QC.nil|(apply QC.cons;(first|exact One.lit rfl rfl|(apply One.sl;exact knA)))))))))
 exact Bx.h h):G:=s ⟨h⟩
def goD {G G':Prop} (h:G') (s:Bx G'->G:=by
 intro h
 (first|apply WD.nil|(apply WD.skg;exact rfl;exact rfl;exact rfl)|(apply WD.skgl;exact rfl;exact rfl;exact rfl)|(apply WD.Yu;exact rfl;(apply YO.move;exact rfl);exact rfl;exact rfl)|(apply WD.YK;exact rfl;(apply YO.assign;exact rfl);exact rfl;exact rfl)|(apply WD.k_lss;exact rfl;exact KD;exact rfl;exact rfl)|(apply WD.k_add;exact rfl;exact KU;exact rfl;exact rfl)|(apply WD.k_len;exact rfl;exact KF;exact rfl;exact rfl)|(apply WD.Jt;exact rfl;exact Q5;exact rfl;exact rfl)|(apply WD.YN;exact rfl;exact Yn;exact rfl;exact rfl)|(apply WD.Vb;exact rfl;exact YR;exact rfl;exact rfl)|(apply WD.Js;exact rfl;exact QT;exact rfl;exact rfl)|(apply WD.Ve;exact rfl;exact Y0;exact rfl;exact rfl)|(apply WD.Zq;exact rfl;exact KB;exact rfl;exact rfl)|(apply WD.k_nil;exact rfl;(apply YO.nil;exact rfl);exact rfl;exact rfl)|(apply WD.YW;exact rfl;(apply YO.extract;exact rfl;exact rfl);exact rfl;exact rfl)|(apply WD.k_gtr;exact rfl;exact KG;exact rfl;exact rfl)|(apply WD.k_geq;exact rfl;exact KH;exact rfl;exact rfl)|(apply WD.k_sub;exact rfl;(apply YO.sub;exact rfl;exact rfl;omega;omega);exact rfl;exact rfl)|(apply WD.Yo;exact rfl;exact KE;exact rfl;exact rfl)|(apply WD.Zj;exact rfl;exact Ze;exact rfl;exact rfl)|(apply WD.YV;exact rfl;exact YG;exact rfl;exact rfl)|(apply WD.Vn;exact rfl;exact YT;exact rfl;exact rfl)|(apply WD.Va;exact rfl;exact YS;exact rfl;exact rfl)|(apply WD.Yy;exact rfl;exact JG;exact rfl;exact rfl)|(apply WD.Vd;exact rfl;exact Uf;exact rfl;exact rfl)|(apply WD.k_shl;exact rfl;exact ZA;exact rfl;exact rfl)|(apply WD.Zp;exact rfl;exact XY;exact rfl;exact rfl)|(apply WD.YA;exact rfl;exact Xp;exact rfl;exact rfl)|(apply WD.Jz;exact rfl;rotate_left;exact rfl;(first|(apply LO.Xl;exact rfl;exact rfl;exact t3A;exact seA;(first|omega|(simp only[List.length_set];omega)))|(apply LO.Yb;exact rfl;exact rfl;exact t3A;(first|exact One.lit rfl rfl|(apply One.sl;exact knA));exact seA;(first|(simp only[List.length_cons,List.length_nil];omega)|(simp;omega));(first|(simp only[List.set_cons_succ,List.set_cons_zero];exact rfl)|exact rfl))|(apply LO.Xj;exact rfl;exact rfl;exact t3A;(first|exact One.lit rfl rfl|(apply One.sl;exact knA));exact seA;(first|(simp only[List.length_cons,List.length_nil];omega)|(simp;omega));(first|(simp only[List.set_cons_succ,List.set_cons_zero];exact rfl)|exact rfl))|(apply LO.Yc;exact rfl;exact rfl;exact seA;exact t4A;exact rfl;exact rfl;(repeat(first|exact QC.nil|(apply QC.cons;(first|exact One.lit rfl rfl|(apply One.sl;exact knA)))))));constructor;exact ltA))
 repeat(first|apply WD.nil|(apply WD.skg;exact rfl;exact rfl;exact rfl)|(apply WD.skgl;exact rfl;exact rfl;exact rfl)|(apply WD.Yu;exact rfl;(apply YO.move;exact rfl);exact rfl;exact rfl)|(apply WD.YK;exact rfl;(apply YO.assign;exact rfl);exact rfl;exact rfl)|(apply WD.k_lss;exact rfl;exact KD;exact rfl;exact rfl)|(apply WD.k_add;exact rfl;exact KU;exact rfl;exact rfl)|(apply WD.k_len;exact rfl;exact KF;exact rfl;exact rfl)|(apply WD.Jt;exact rfl;exact Q5;exact rfl;exact rfl)|(apply WD.YN;exact rfl;exact Yn;exact rfl;exact rfl)|(apply WD.Vb;exact rfl;exact YR;exact rfl;exact rfl)|(apply WD.Js;exact rfl;exact QT;exact rfl;exact rfl)|(apply WD.Ve;exact rfl;exact Y0;exact rfl;exact rfl)|(apply WD.Zq;exact rfl;exact KB;exact rfl;exact rfl)|(apply WD.k_nil;exact rfl;(apply YO.nil;exact rfl);exact rfl;exact rfl)|(apply WD.YW;exact rfl;(apply YO.extract;exact rfl;exact rfl);exact rfl;exact rfl)|(apply WD.k_gtr;exact rfl;exact KG;exact rfl;exact rfl)|(apply WD.k_geq;exact rfl;exact KH;exact rfl;exact rfl)|(apply WD.k_sub;exact rfl;(apply YO.sub;exact rfl;exact rfl;omega;omega);exact rfl;exact rfl)|(apply WD.Yo;exact rfl;exact KE;exact rfl;exact rfl)|(apply WD.Zj;exact rfl;exact Ze;exact rfl;exact rfl)|(apply WD.YV;exact rfl;exact YG;exact rfl;exact rfl)|(apply WD.Vn;exact rfl;exact YT;exact rfl;exact rfl)|(apply WD.Va;exact rfl;exact YS;exact rfl;exact rfl)|(apply WD.Yy;exact rfl;exact JG;exact rfl;exact rfl)|(apply WD.Vd;exact rfl;exact Uf;exact rfl;exact rfl)|(apply WD.k_shl;exact rfl;exact ZA;exact rfl;exact rfl)|(apply WD.Zp;exact rfl;exact XY;exact rfl;exact rfl)|(apply WD.YA;exact rfl;exact Xp;exact rfl;exact rfl)|(apply WD.Jz;exact rfl;rotate_left;exact rfl;(first|(apply LO.Xl;exact rfl;exact rfl;exact t3A;exact seA;(first|omega|(simp only[List.length_set];omega)))|(apply LO.Yb;exact rfl;exact rfl;exact t3A;(first|exact One.lit rfl rfl|(apply One.sl;exact knA));exact seA;(first|(simp only[List.length_cons,List.length_nil];omega)|(simp;omega));(first|(simp only[List.set_cons_succ,List.set_cons_zero];exact rfl)|exact rfl))|(apply LO.Xj;exact rfl;exact rfl;exact t3A;(first|exact One.lit rfl rfl|(apply One.sl;exact knA));exact seA;(first|(simp only[List.length_cons,List.length_nil];omega)|(simp;omega));(first|(simp only[List.set_cons_succ,List.set_cons_zero];exact rfl)|exact rfl))|(apply LO.Yc;exact rfl;exact rfl;exact seA;exact t4A;exact rfl;exact rfl;(repeat(first|exact QC.nil|(apply QC.cons;(first|exact One.lit rfl rfl|(apply One.sl;exact knA)))))));constructor;exact ltA))
 exact Bx.h h):G:=s ⟨h⟩
def goG {G G':Prop} (h:G') (s:Bx G'->G:=by
 intro h
 (first|(apply WL.Yh;rotate_left;exact rfl;exact rfl;apply LO.YF;(first|exact t1A))|(apply WL.kl_box;rotate_left;exact rfl;exact rfl;(first|(apply LO.boxA;exact rfl)|(apply LO.box1;exact rfl;(first|exact One.lit rfl rfl|(apply One.sl;exact knA))))))
 exact Bx.h h):G:=s ⟨h⟩
def goV {G G':Prop} (h:G') (s:Bx G'->G:=by
 intro h
 (first|(apply WL.Kb;rotate_left;exact rfl;exact rfl;(apply LO.makeI;exact rfl;exact rfl;(repeat(first|(with_reducible apply Q6.add)|(with_reducible exact Q6.one)|exact Q6.cast _));omega))|(apply WL.JU;rotate_left;exact rfl;exact rfl;apply LO.bs1;exact t6A;(repeat(first|exact EvP.nil|(apply EvP.cons;exact rfl)));(intro _;kernel_rfl);exact rfl;omega)|(apply WL.Jv;rotate_left;exact rfl;exact rfl;apply LO.app;exact t5A;exact rfl;exact rfl;(first|(focus(apply Ql.ints;exact hmA;done))|(focus(apply Ql.XE;exact meA;done))|(focus(apply Ql.one;exact meA;exact rfl;decide;done)));(intro v;exact seA);exact onA;exact leA;exact leA))
 exact Bx.h h):G:=s ⟨h⟩
def goDG {G G':Prop} (h:G') (s:Bx G'->G:=by
 intro h
 (first|(apply WD.Yh;exact rfl;rotate_left;exact rfl;exact rfl;apply LO.YF;(first|exact t1A);apply Qc;(intro _;exact ltA)))
 exact Bx.h h):G:=s ⟨h⟩
def goDV {G G':Prop} (h:G') (s:Bx G'->G:=by
 intro h
 (first|(apply WD.Kb;exact rfl;rotate_left;exact rfl;exact rfl;(apply LO.makeI;exact rfl;exact rfl;(repeat(first|(with_reducible apply Q6.add)|(with_reducible exact Q6.one)|exact Q6.cast _));omega);apply Qc;(intro _;exact ltA))|(apply WD.JU;exact rfl;rotate_left;exact rfl;exact rfl;apply LO.bs1;exact t6A;(repeat(first|exact EvP.nil|(apply EvP.cons;exact rfl)));(intro _;kernel_rfl);exact rfl;omega;apply Qc;(intro _;exact ltA))|(apply WD.Jv;exact rfl;rotate_left;exact rfl;exact rfl;apply LO.app;exact t5A;exact rfl;exact rfl;(first|(focus(apply Ql.ints;exact hmA;done))|(focus(apply Ql.XE;exact meA;done))|(focus(apply Ql.one;exact meA;exact rfl;decide;done)));(intro v;exact seA);exact onA;exact leA;exact leA;apply Qc;(intro _;exact ltA)))
 exact Bx.h h):G:=s ⟨h⟩
def goLG {G G':Prop} (h:G') (s:Bx G'->G:=by
 intro h
 (first|(apply LO.YF;(first|exact t1A);apply Qc;(intro _;exact ltA))|((first|(apply LO.boxA;exact rfl)|(apply LO.box1;exact rfl;(first|exact One.lit rfl rfl|(apply One.sl;exact knA))));apply Qc;(intro _;exact ltA)))
 exact Bx.h h):G:=s ⟨h⟩
def goLV {G G':Prop} (h:G') (s:Bx G'->G:=by
 intro h
 (first|(apply LO.bs1;exact t6A;(repeat(first|exact EvP.nil|(apply EvP.cons;exact rfl)));(intro _;kernel_rfl);exact rfl;omega;apply Qc;(intro _;exact ltA))|(apply LO.app;exact t5A;exact rfl;exact rfl;(first|(focus(apply Ql.ints;exact hmA;done))|(focus(apply Ql.XE;exact meA;done))|(focus(apply Ql.one;exact meA;exact rfl;decide;done)));(intro v;exact seA);exact onA;exact leA;exact leA;apply Qc;(intro _;exact ltA))|((apply LO.makeI;exact rfl;exact rfl;(repeat(first|(with_reducible apply Q6.add)|(with_reducible exact Q6.one)|exact Q6.cast _));omega);apply Qc;(intro _;exact ltA)))
 exact Bx.h h):G:=s ⟨h⟩
def goLS {G G':Prop} (h:G') (s:Bx G'->G:=by
 intro h
 (first|((first|(apply LO.Xl;exact rfl;exact rfl;exact t3A;exact seA;(first|omega|(simp only[List.length_set];omega)))|(apply LO.Yb;exact rfl;exact rfl;exact t3A;(first|exact One.lit rfl rfl|(apply One.sl;exact knA));exact seA;(first|(simp only[List.length_cons,List.length_nil];omega)|(simp;omega));(first|(simp only[List.set_cons_succ,List.set_cons_zero];exact rfl)|exact rfl))|(apply LO.Xj;exact rfl;exact rfl;exact t3A;(first|exact One.lit rfl rfl|(apply One.sl;exact knA));exact seA;(first|(simp only[List.length_cons,List.length_nil];omega)|(simp;omega));(first|(simp only[List.set_cons_succ,List.set_cons_zero];exact rfl)|exact rfl))|(apply LO.Yc;exact rfl;exact rfl;exact seA;exact t4A;exact rfl;exact rfl;(repeat(first|exact QC.nil|(apply QC.cons;(first|exact One.lit rfl rfl|(apply One.sl;exact knA)))))));constructor;exact ltA))
 exact Bx.h h):G:=s ⟨h⟩
section
variable {P:Program} {n:Nat} {L rest:List Oper} {e:Env} {bx b0:List Ow} {F F0:List Fct} {Q:Env->List Ow->List Fct->Prop} {d i:Nat} {ty:TypeId} {pos:String} {af:Array Edge} {g:Option (Nat×Bool)} {hs:List Nat} {r:Plan}
 {f:FuncId} {x:Operand} {args:List Operand} {ats:Array TypeId} {vs cs:List Value} {F':List Fct} {u:Value} {el sz:Nat}
def WL.XR (hf:FnB P f vs [] F' (IsV u)) (hK:WL P n L rest ((d,u)::e) bx F Q) (hx:ev e x=some (.func (.func f) #[] #[]):=by exact rfl) (hv:Evs e args vs:=by repeat(first|exact Evs.nil|(apply Evs.cons;exact rfl))) (hF:QY bx F F':=by repeat(first|exact QY.nil|(apply QY.cons;(first|(focus(apply QF.oI;exact meA;done))|(focus(apply QF.c;exact meA;done))|(focus(apply QF.f;exact hsA;done))))))
  (hd:Nat.blt d n=true:=by exact rfl) (hg:gok L e g=some true:=by exact rfl):WL P n L (⟨some d,.call {callee:=.value x,args:=args.toArray,argTypes:=ats},ty,pos,af,g⟩::rest) e bx F Q:=
 WL.l hd hg (LO.KO hx hv hf hF hK)
def WD.XR (hf:FnB P f vs [] F' (IsV u)) (hK:WD P n L hs b0 F0 r ((d,u)::e) bx F Q) (hL:L[i]?=some ⟨some d,.call {callee:=.value x,args:=args.toArray,argTypes:=ats},ty,pos,af,g⟩:=by exact rfl) (hx:ev e x=some (.func (.func f) #[] #[]):=by exact rfl) (hv:Evs e args vs:=by repeat(first|exact Evs.nil|(apply Evs.cons;exact rfl))) (hF:QY bx F F':=by repeat(first|exact QY.nil|(apply QY.cons;(first|(focus(apply QF.oI;exact meA;done))|(focus(apply QF.c;exact meA;done))|(focus(apply QF.f;exact hsA;done))))))
  (hd:Nat.blt d n=true:=by exact rfl) (hg:gok L e g=some true:=by exact rfl) (lt:QN L hs i=true∨(b0.Sublist bx∧∀ f∈F0,f∈F):=by exact ltA):WD P n L hs b0 F0 (.loud i r) e bx F Q:=
 WD.l hL hd hg (LO.KO hx hv hf hF ⟨lt,hK⟩)
end
end
section
open W Go.RowKit
namespace W
inductive Rem:List Ow->Ow->List Ow->Prop where
 |head {b:Ow} {l:List Ow}:Rem (b::l) b l
 |tail {b c:Ow} {l l':List Ow}:Rem l b l'->Rem (c::l) b (c::l')
def Rem.perm {l l':List Ow} {b:Ow} (h:Rem l b l'):l.Perm (b::l'):=by
 induction h with
 |head=>exact .refl _
 |tail _ ih=>exact(ih.cons _).trans (.swap _ _ _)
section
variable {P:Program} {n:Nat} {L rest:List Oper} {e:Env} {bx bx' b0 ba br:List Ow} {F F0 F':List Fct} {c:Code} {g:Nat} {t:TypeId} {cs:List Value} {hs:List Nat} {r:Plan}
def OK.keep {fr:CF} {w:World} (h:OK fr bx F w) (hr:Rem bx (.cells g t cs) bx'):OK fr bx' (ce g t cs::F) w:=by
 have hp:=h.perm hr.perm;have hd:OK fr bx' F w:=hp.drop (List.sublist_cons_self _ _);refine hd.add (f:=ce g t cs) ?_;have hh:=hp.owns _ List.mem_cons_self;have hnd:=hp.nodup;have hap:=hp.apart g (by simp[ids,Ow.ids]);simp only[ids,List.flatMap_cons,Ow.ids,List.singleton_append,List.nodup_cons] at hnd;show(if((fr.fr g).isSome ||(ids bx').contains g)=true then none else fr.see w.heap g)=_;rw[if_neg,CF.XP (.inl hap.1)]
 ·exact hh
 ·simp only[hap.2,Option.isSome_none,Bool.false_or,List.contains_iff_mem];exact hnd.1
def WL.keep {Q:Env->List Ow->List Fct->Prop} (hr:Rem bx (.cells g t cs) bx') (h:WL P n L rest e bx' (ce g t cs::F) Q):WL P n L rest e bx F Q:=λfr w0 a w Q' hQ hk hrr ho=>h fr w0 a w Q' hQ hk hrr (ho.keep hr)
def WC.keep {Q:Post} (hr:Rem bx (.cells g t cs) bx') (h:WC P n c e bx' (ce g t cs::F) Q):WC P n c e bx F Q:=λfr w0 a w hk hrr ho=>h fr w0 a w hk hrr (ho.keep hr)
variable {f:FuncId} {x:Operand} {args:List Operand} {ats:Array TypeId} {vs first cap:List Value} {R:Qd} {Q:Env->List Ow->List Fct->Prop} {d:Nat} {ty:TypeId} {pos:String} {af:Array Edge} {gd:Option (Nat×Bool)}
def WL.Y3 (ba br:List Ow) (hp:bx.Perm (ba++br)) (hf:FnB P f vs ba F' R) (hK:∀ v b G,R v b G->WL P n L rest ((d,v)::e) (b++br) (G++F) Q) (hx:ev e x=some (.func (.func f) #[] #[]):=by exact rfl) (hv:Evs e args vs:=by repeat(first|exact Evs.nil|(apply Evs.cons;exact rfl))) (hF:Qk F F':=by repeat(first|exact Qk.nil|(apply Qk.cons;exact hsA)))
  (hd:Nat.blt d n=true:=by exact rfl) (hg:gok L e gd=some true:=by exact rfl):WL P n L (⟨some d,.call {callee:=.value x,args:=args.toArray,argTypes:=ats},ty,pos,af,gd⟩::rest) e bx F Q:=
 WL.l hd hg (LO.call (first:=[]) (cap:=[]) hx hv ba br hp (by simpa using hf) hF.all hK)
def WL.QH (hf:FnB P f vs [] F' R) (hK:∀ v b G,R v b G->WL P n L rest ((d,v)::e) (b++bx) (G++F) Q) (hx:ev e x=some (.func (.func f) #[] #[]):=by exact rfl) (hv:Evs e args vs:=by repeat(first|exact Evs.nil|(apply Evs.cons;exact rfl))) (hF:Qk F F':=by repeat(first|exact Qk.nil|(apply Qk.cons;exact hsA)))
  (hd:Nat.blt d n=true:=by exact rfl) (hg:gok L e gd=some true:=by exact rfl):WL P n L (⟨some d,.call {callee:=.value x,args:=args.toArray,argTypes:=ats},ty,pos,af,gd⟩::rest) e bx F Q:=
 WL.l hd hg (LO.call (first:=[]) (cap:=[]) hx hv [] bx (.refl _) (by simpa using hf) hF.all hK)
def WD.QH {i:Nat} (hf:FnB P f vs [] F' R) (hK:∀ v b G,R v b G->WD P n L hs b0 F0 r ((d,v)::e) (b++bx) (G++F) Q) (hL:L[i]?=some ⟨some d,.call {callee:=.value x,args:=args.toArray,argTypes:=ats},ty,pos,af,gd⟩:=by exact rfl) (hx:ev e x=some (.func (.func f) #[] #[]):=by exact rfl) (hv:Evs e args vs:=by repeat(first|exact Evs.nil|(apply Evs.cons;exact rfl))) (hF:Qk F F':=by repeat(first|exact Qk.nil|(apply Qk.cons;exact hsA)))
  (hd:Nat.blt d n=true:=by exact rfl) (hg:gok L e gd=some true:=by exact rfl) (lt:QN L hs i=true∨(b0.Sublist bx∧∀ f∈F0,f∈F):=by(first|(focus(apply Or.inr;constructor;(repeat(first|exact List.Sublist.refl _|exact List.nil_sublist _|apply List.Sublist.cons_cons|apply List.Sublist.cons));(first|exact λ_ h=>h|(intro f hf;(repeat(first|exact hf|apply List.Mem.tail))));done))|(apply Or.inl;kernel_rfl))):WD P n L hs b0 F0 (.loud i r) e bx F Q:=
 WD.l hL hd hg (LO.call (first:=[]) (cap:=[]) hx hv [] bx (.refl _) (by simpa using hf) hF.all λv b G hR=>⟨lt.imp id λh=>⟨h.1.trans (List.sublist_append_right _ _),λf hf=>List.mem_append_right _ (h.2 f hf)⟩,hK v b G hR⟩)
def LO.callM {i:Nat} (hf:FnB P f vs [] F' R) (hK:∀ v b G,R v b G->WD P n L hs b0 F0 r ((d,v)::e) (b++bx) (G++F) Q) (hx:ev e x=some (.func (.func f) #[] #[]):=by exact rfl) (hv:Evs e args vs:=by repeat(first|exact Evs.nil|(apply Evs.cons;exact rfl))) (hF:Qk F F':=by repeat(first|exact Qk.nil|(apply Qk.cons;exact hsA)))
  (lt:QN L hs i=true∨(b0.Sublist bx∧∀ f∈F0,f∈F):=by(first|(focus(apply Or.inr;constructor;(repeat(first|exact List.Sublist.refl _|exact List.nil_sublist _|apply List.Sublist.cons_cons|apply List.Sublist.cons));(first|exact λ_ h=>h|(intro f hf;(repeat(first|exact hf|apply List.Mem.tail))));done))|(apply Or.inl;kernel_rfl))):LO P (.call {callee:=.value x,args:=args.toArray,argTypes:=ats}) ty e bx F λv bx' F'=>(QN L hs i=true∨(b0.Sublist bx'∧∀ f∈F0,f∈F'))∧WD P n L hs b0 F0 r ((d,v)::e) bx' F' Q:=
 LO.call (first:=[]) (cap:=[]) hx hv [] bx (.refl _) (by simpa using hf) hF.all λv b G hR=>⟨lt.imp id λh=>⟨h.1.trans (List.sublist_append_right _ _),λf hf=>List.mem_append_right _ (h.2 f hf)⟩,hK v b G hR⟩
end
section
variable {P:Program} {n:Nat} {L:List Oper} {e:Env} {bx b0:List Ow} {F F0:List Fct} {hs:List Nat} {r s:Plan} {Q:Env->List Ow->List Fct->Prop} {i j:Nat}
def loud_y {fr fr0:CF} {w0:World} {listed:Array Bool} {a:Act} {w:World} {f':Nat} {Q':Bk->Exit->Act->World->Prop} {v:Value} {e':Env} (o:Oper) (hL:L[i]?=some o) (hle:fr0.le fr)
  (hP:∀ own a x y,Q' own .normal a x->Rly own fr.sh x y->Q' own .normal a y) (hns:Region.noSelect L.toArray=true) (hc:chk L hs r (listed.setIfInBounds i true)=true) (hd:Down L.toArray listed) (hri:i∈Region.ready .any L.toArray listed)
  (hQ:∀ fr' a' w' e' bx' F',fr.le fr'->Kn fr'.ds n a' e'->Rest w0 w'->OK fr' bx' F' w'->Q e' bx' F'->Q' fr'.own .normal a' w') (hS:(∃ i∈hs,listed.getD i true=false)->OK fr b0 F0 w)
  (hk:Kn fr.ds n a e) (hr:Rest w0 w) (ho:OK fr bx F w) (hf:r.len<=f')
  (hg:gok L e o.guard=some true) (hy:YO P o.op o.type e bx F v) (he':Kn fr.ds n (a.put o.dst v) e') (h:WD P n L hs b0 F0 r e' bx F Q) :
  OpR P fr.main fr.sh L.toArray i (λx own' a' w'=>(QN L hs i=false->SR fr0 b0 F0 fr.own x->SR fr0 b0 F0 own' w')∧YQ P fr.main fr.sh L.toArray Q' (SR fr0 b0 F0) (QN L hs) f' (listed.setIfInBounds i true) own' a' w') fr.own a w:=by
 have hun:=(mem_ready.1 hri).1;have hlist:(∃ j∈hs,(listed.setIfInBounds i true).getD j true=false)->∃ j∈hs,listed.getD j true=false:=λ⟨j,hj,hjl⟩=>⟨j,hj,getD_some hun j hjl⟩
 unfold OpR;have hLa:L.toArray[i]?=some o:=by simpa using hL
 simp only[hLa];rw[if_pos (Jj hk hg)];intro w1 hw1;have ho1:=ho.rely hw1;have hv:=hy n fr a w1 o rfl rfl hk ho1;rw[hv.1];refine .inl ⟨.look hv.2,?_⟩;rw[Qs (Nat.le_refl _)];exact⟨λ_ h=>h,h fr w0 _ (a.put o.dst v) w1 f' Q' hP hns hc (hd.set hri) hQ (λhx=>(hS (hlist hx)).rely hw1) he' (hr.trans hw1.rest) ho1 hf fr0 hle⟩
variable {d:Nat} {op:Op} {ty:TypeId} {pos:String} {af:Array Edge} {g:Option (Nat×Bool)} {v:Value}
def WD.yl (hL:L[i]?=some ⟨some d,op,ty,pos,af,g⟩) (hy:YO P op ty e bx F v) (hd:Nat.blt d n=true) (hg:gok L e g=some true) (h:WD P n L hs b0 F0 r ((d,v)::e) bx F Q):WD P n L hs b0 F0 (.loud i r) e bx F Q:=λfr w0 listed a w fuel Q' hP hns hc hdn hQ hS hk hr ho hf fr0 hle=>by
 simp only[chk,Bool.and_eq_true,beq_iff_eq] at hc;obtain⟨h1,h2⟩:=hc;obtain⟨f',rfl⟩:∃ f',fuel=f'+1:=⟨fuel - 1,by simp[Plan.len] at hf;omega⟩
 refine⟨λh0=>(by rw[h0] at h1;cases h1),λj hj=>?_⟩;rw[h1] at hj;simp at hj;subst hj;exact loud_y _ hL hle hP hns h2 hdn (by rw[h1];simp) hQ hS hk hr ho (by simp[Plan.len] at hf;exact hf) hg hy (hk.put hd v) h
def WC.drawB {id:Nat} {Q:Post} (b0:List Ow) (hb:b0.Sublist bx) (hs:List Nat) (p:Plan) (hm:P.follows .mixedOrders=true) (hc:(Region.noSelect L.toArray && (chk L hs p (Array.replicate L.length false) && Nat.ble p.len L.length))=true)
  (h:WD P n L hs b0 F p e bx F (Q .normal)):WC P n (.region id L.toArray true) e bx F Q:=λfr w0 a w hk hr ho=>by
 simp only[Bool.and_eq_true] at hc;refine Ug (VL hm λw1 h1 t=>?_);have ho1:OK fr bx F {w1 with drawn:=w1.drawn+1}:=(ho.rely h1).drawn _;refine ZL L.toArray.size t _ _ _ _ (S:=SR fr b0 F) (late:=QN L hs) ?_;have:=h fr w0 (Array.replicate L.length false) a {w1 with drawn:=w1.drawn+1} L.length (λown e a w=>∃ x,Rly own fr.sh x w∧post fr n w0 Q own e a x) (λown a x y ⟨z,h2,h3⟩ h4=>⟨z,h2.trans h4,h3⟩) hc.1 (by simpa using hc.2.1) ?_ (λfr' a' w' e' bx' F' hf h1 h2 h3 h4=>⟨w',.refl _ _ _,hf.own,e',bx',F',hf.nk h1,h2,by rw[hf.at];exact h3,h4⟩) (λ_=>ho1.drop hb) hk ((hr.trans h1.rest).trans (Rest.drawn w1 _)) ho1 (by simpa using Nat.le_of_ble_eq_true hc.2.2) fr (.refl _)
 ·simpa using this
 ·intro j o _ hj;rw[Array.getD_eq_getD_getElem?,Array.getElem?_replicate] at hj;split at hj <;> simp at hj
def WC.cutT {x y:Code} {Q:Post} {σ:Type} (E:σ->Env) (B:σ->List Ow) (G:σ->List Fct) (I:σ->Prop)
  (h1:WC P n x e bx F (Xm (λe' bx' F'=>∃ s,I s∧Sub (E s) e'∧(B s).Sublist bx'∧Qk F' (G s)) Q))
  (h2:∀ s,I s->WC P n y (E s) (B s) (G s) Q):WC P n x e bx F (Xm (λe bx F=>WC P n y e bx F Q) Q):=
 h1.mono λex e b f h=>by
  cases ex <;> first|exact h|skip
  obtain⟨s,h3,h4,h5,h6⟩:=h;exact(h2 s h3).weak h4 h5 h6.all
end
inductive Y1 (e:Env):List Nat->List Ow->List Ow->Prop where
 |nil (bx:List Ow):Y1 e [] bx bx
 |cons {t:Nat} {ts:List Nat} {g:Nat} {ty:TypeId} {cs:List Value} {bx b1 b0:List Ow}:look e t=some (.pointer (some ⟨g,0,none⟩))->Rem bx (.cells g ty cs) b1->Y1 e ts b1 b0->Y1 e (t::ts) bx b0
def Rem.sub {l l':List Ow} {b:Ow} (h:Rem l b l'):l'.Sublist l:=by
 induction h with
 |head=>exact List.sublist_cons_self _ _
 |tail _ ih=>exact ih.cons_cons _
def Y1.sub {e:Env} {ts:List Nat} {bx b0:List Ow} (h:Y1 e ts bx b0):b0.Sublist bx:=by
 induction h with
 |nil=>exact List.Sublist.refl _
 |cons _ h2 _ ih=>exact ih.trans h2.sub
def WC.Hw {P:Program} {n:Nat} {L:List Oper} {e:Env} {bx b0:List Ow} {F:List Fct} {id:Nat} {Q:Post} (ts:List Nat) (hs:List Nat) (p:Plan) (hm:P.follows .mixedOrders=true) (hc:(Region.noSelect L.toArray && (chk L hs p (Array.replicate L.length false) && Nat.ble p.len L.length))=true)
  (hr:Y1 e ts bx b0) (h:WD P n L hs b0 F p e bx F (Q .normal)):WC P n (.region id L.toArray true) e bx F Q:=WC.drawB b0 hr.sub hs p hm hc h
inductive Q9:List Ow->List Ow->Prop where
 |nil (l:List Ow):Q9 [] l
 |cons {b:Ow} {B l l':List Ow}:Rem l b l'->Q9 B l'->Q9 (b::B) l
def Q9.ok {B l:List Ow} (h:Q9 B l):∃ r,l.Perm (B++r):=by
 induction h with
 |nil l=>exact⟨l,.refl _⟩
 |cons h1 _ ih=>
  obtain⟨r,h2⟩:=ih;exact⟨r,h1.perm.trans (h2.cons _)⟩
def OK.subP {fr:CF} {B l:List Ow} {F:List Fct} {w:World} (h:OK fr l F w) (hs:Q9 B l):OK fr B F w:=by
 obtain⟨r,h1⟩:=hs.ok;exact(h.perm h1).drop (List.sublist_append_left _ _)
def WC.YJ {P:Program} {n:Nat} {e:Env} {bx:List Ow} {F:List Fct} {x y:Code} {Q:Post} {σ:Type} (E:σ->Env) (B:σ->List Ow) (G:σ->List Fct) (I:σ->Prop)
  (h1:WC P n x e bx F (Xm (λe' bx' F'=>∃ s,I s∧Sub (E s) e'∧Q9 (B s) bx'∧Qk F' (G s)) Q))
  (h2:∀ s,I s->WC P n y (E s) (B s) (G s) Q):WC P n x e bx F (Xm (λe bx F=>WC P n y e bx F Q) Q):=
 h1.mono λex e b f h=>by
  cases ex <;> first|exact h|skip
  obtain⟨s,h3,h4,h5,h6⟩:=h;exact λfr w0 a w hk hr ho=>h2 s h3 fr w0 a w (hk.sub h4) hr ((ho.subP h5).Yk h6.all)
def Ex2 {α1:Type} {α2:Type} {p:α1×α2->Prop} (a1:α1) (a2:α2) (h:p (a1,a2)):∃ s,p s:=⟨_,h⟩
def Ex3 {α1:Type} {α2:Type} {α3:Type} {p:α1×α2×α3->Prop} (a1:α1) (a2:α2) (a3:α3) (h:p (a1,a2,a3)):∃ s,p s:=⟨_,h⟩
def Ex4 {α1:Type} {α2:Type} {α3:Type} {α4:Type} {p:α1×α2×α3×α4->Prop} (a1:α1) (a2:α2) (a3:α3) (a4:α4) (h:p (a1,a2,a3,a4)):∃ s,p s:=⟨_,h⟩
def Ex6 {α1:Type} {α2:Type} {α3:Type} {α4:Type} {α5:Type} {α6:Type} {p:α1×α2×α3×α4×α5×α6->Prop} (a1:α1) (a2:α2) (a3:α3) (a4:α4) (a5:α5) (a6:α6) (h:p (a1,a2,a3,a4,a5,a6)):∃ s,p s:=⟨_,h⟩
def Ex7 {α1:Type} {α2:Type} {α3:Type} {α4:Type} {α5:Type} {α6:Type} {α7:Type} {p:α1×α2×α3×α4×α5×α6×α7->Prop} (a1:α1) (a2:α2) (a3:α3) (a4:α4) (a5:α5) (a6:α6) (a7:α7) (h:p (a1,a2,a3,a4,a5,a6,a7)):∃ s,p s:=⟨_,h⟩
def Ex9 {α1:Type} {α2:Type} {α3:Type} {α4:Type} {α5:Type} {α6:Type} {α7:Type} {α8:Type} {α9:Type} {p:α1×α2×α3×α4×α5×α6×α7×α8×α9->Prop} (a1:α1) (a2:α2) (a3:α3) (a4:α4) (a5:α5) (a6:α6) (a7:α7) (a8:α8) (a9:α9) (h:p (a1,a2,a3,a4,a5,a6,a7,a8,a9)):∃ s,p s:=⟨_,h⟩
end W
end
end Go.Proofs.YtcpaopfdiahnnaaGreat
