/- Lemmas for a law. Conditions: none. -/
import Derived.Test.YtbnobghgnbockaaGreatZf6
set_option linter.all false
set_option maxHeartbeats 32000000
set_option maxRecDepth 100000
namespace Go.Proofs.YtbnobghgnbockaaGreat
section
open W Go.RowKit
attribute [local irreducible] WC WL WD YO LO Qq W.Fin Qk Qw Qj Row QJ Qv KnS Has W.One Qa Qs
structure Bx(p:Prop):Prop where
 h:p
def gA{G G':Prop}(h:G')(s:Bx G'->G:=by
 intro h
 (first|refine go ?_|refine goX ?_|refine goB ?_|refine goG ?_|refine goV ?_|fail)
 exact Bx.h h):G:=s ⟨h⟩
def gB{G G':Prop}(h:G')(s:Bx G'->G:=by
 intro h
 (first|refine go ?_|refine goX ?_|refine goB ?_|refine goD ?_|refine goXD ?_|refine goG ?_|refine goDG ?_|refine goV ?_|refine goDV ?_|fail)
 exact Bx.h h):G:=s ⟨h⟩
def gM{G G':Prop}(h:G')(s:Bx G'->G:=by
 intro h
 (first|refine go ?_|refine goX ?_|refine goB ?_|refine goD ?_|refine goXD ?_|apply WD.Uv|refine WM.one qr qr qr ?_|refine WM.one0 qr qr ?_|refine goLS ?_|refine goG ?_|refine goDG ?_|refine goLG ?_|refine goV ?_|refine goDV ?_|refine goLV ?_|fail)
 exact Bx.h h):G:=s ⟨h⟩
def gY{G G':Prop}(h:G')(s:Bx G'->G:=by
 intro h
 (first|refine goLY ?_|refine goYB ?_|refine Zp ?_|fail)
 exact Bx.h h):G:=s ⟨h⟩
def gN{G A B:Prop}(h1:A)(h2:B)(s:Bx A->Bx B->G:=by
 intro h1 h2
 (first|refine WM.more qr qr qr ?_ ?_|fail)
 exact Bx.h h1;exact Bx.h h2):G:=s ⟨h1⟩ ⟨h2⟩
def gE{G G':Prop}(h:G')(s:Bx G'->G:=by
 intro h
 (first|refine go ?_|refine goX ?_|refine goB ?_|refine goE ?_|refine goD ?_|refine goXD ?_|apply WD.Uv|refine WM.one qr qr qr ?_|refine WM.one0 qr qr ?_|refine goLS ?_|refine goG ?_|refine goEG ?_|refine goDG ?_|refine goLG ?_|refine goV ?_|refine goEV ?_|refine goDV ?_|refine goLV ?_|fail)
 exact Bx.h h):G:=s ⟨h⟩
def gF{G G':Prop}(h:G')(s:Bx G'->G:=by
 intro h
 (first|refine go ?_|refine goX ?_|refine goB ?_|refine goE ?_|refine goD ?_|refine goXD ?_|refine goG ?_|refine goEG ?_|refine goDG ?_|refine goV ?_|refine goEV ?_|refine goDV ?_|fail)
 exact Bx.h h):G:=s ⟨h⟩
def gP{G G':Prop}(h:G')(s:Bx G'->G:=by
 intro h
 (first|refine go ?_|refine goX ?_|refine goB ?_|refine goE ?_|refine goG ?_|refine goEG ?_|refine goV ?_|refine goEV ?_|fail)
 exact Bx.h h):G:=s ⟨h⟩
def cK{P:Program}{f:FuncId}{vs:List Value}{F':List Fct}{R:Qg}{G G':Prop}(hf:FnB P f vs [] F' R)(h:G')(s:FnB P f vs [] F' R->Bx G'->G:=by
 intro hf h;first|(refine WL.QA (hv:=?hvQ) hf ?_;(case hvQ=>((repeat(first|exact Evs.nil|(apply Evs.cons;exact rfl)));done));exact Bx.h h)|(refine WD.QA (hv:=?hvQ) hf ?_;(case hvQ=>((repeat(first|exact Evs.nil|(apply Evs.cons;exact rfl)));done));exact Bx.h h)|(refine LO.callM (hv:=?hvQ) hf ?_;(case hvQ=>((repeat(first|exact Evs.nil|(apply Evs.cons;exact rfl)));done));exact Bx.h h)|fail):G:=s hf ⟨h⟩
def cW{P:Program}{f:FuncId}{vs:List Value}{F':List Fct}{R:Qg}{M:Type}{G:Prop}{G':M->Prop}(hf:FnB P f vs [] F' R)(h:∀m,G' m)(s:FnB P f vs [] F' R->Bx (∀m,G' m)->G:=by
 intro hf h;first|(refine WL.QA (hv:=?hvQ) hf ?_;(case hvQ=>((repeat(first|exact Evs.nil|(apply Evs.cons;exact rfl)));done));rintro _ _ _ ⟨m,rfl,rfl,rfl⟩;simp only[List.nil_append,List.cons_append];exact Bx.h h m)|(refine WD.QA (hv:=?hvQ) hf ?_;(case hvQ=>((repeat(first|exact Evs.nil|(apply Evs.cons;exact rfl)));done));rintro _ _ _ ⟨m,rfl,rfl,rfl⟩;simp only[List.nil_append,List.cons_append];exact Bx.h h m)|(refine LO.callM (hv:=?hvQ) hf ?_;(case hvQ=>((repeat(first|exact Evs.nil|(apply Evs.cons;exact rfl)));done));rintro _ _ _ ⟨m,rfl,rfl,rfl⟩;simp only[List.nil_append,List.cons_append];exact Bx.h h m)|fail):G:=s hf ⟨h⟩
def sNn{G G':Prop}(h:G')(s:Bx G'->G:=by
 intro h;simp only[List.nil_append,List.cons_append];exact Bx.h h):G:=s ⟨h⟩
def cV{P:Program}{f:FuncId}{vs:List Value}{F':List Fct}{u:Value}{G G':Prop}(hf:FnB P f vs [] F' (IsV u))(h:G')(s:FnB P f vs [] F' (IsV u)->Bx G'->G:=by
 intro hf h;first|(refine WL.Yv hf ?_;exact Bx.h h)|(refine WD.Yv hf ?_;exact Bx.h h)|fail):G:=s hf ⟨h⟩
def Qb{α:Type}{p q:α->Prop}(h1:∀a,p a)(h2:∀a,q a):∀a,p a/\q a:=λa=>⟨h1 a,h2 a⟩
def meA{G:Prop}(h:G:=by first|(((repeat(first|exact List.Mem.head _|apply List.Mem.tail)));done)|fail):G:=h
def hmA{G:Prop}(h:G:=by first|(((focus(apply Has.mem;(repeat(first|exact List.Mem.head _|apply List.Mem.tail));done)));done)|fail):G:=h
def sfA{G:Prop}(h:G:=by first|((repeat(first|exact Qu.nil|(apply Qu.cons;(focus(apply Has.mem;(repeat(first|exact List.Mem.head _|apply List.Mem.tail));done)))));done)|fail):G:=h
def suA{G:Prop}(h:G:=by first|((repeat(first|exact Sub.nil _|refine Sub.cons rfl ?_));done)|fail):G:=h
def slA{G:Prop}(h:G:=by first|((repeat(first|exact List.Sublist.refl _|exact List.nil_sublist _|apply List.Sublist.cons_cons|apply List.Sublist.cons));done)|fail):G:=h
def evA{G:Prop}(h:G:=by first|((repeat(first|exact Evs.nil|(apply Evs.cons;exact rfl)));done)|fail):G:=h
def seA{G:Prop}(h:G:=by first|(((repeat(first|exact Sel.head|apply Sel.tail)));done)|fail):G:=h
def t0A{G:Prop}(h:G:=by first|(((first|exact T.f73_0|exact T.f73_1|exact T.f75_0|exact T.f75_1|exact T.f118_0|exact T.f118_1|exact T.f118_2|exact T.f122_0|exact T.f122_1|exact T.f122_2|exact T.f141_0|exact T.f141_1|exact T.f177_0|exact T.f177_1|exact T.f177_2|exact T.f177_3|exact T.f177_4|exact T.f177_5));done)|fail):G:=h
def t1A{G:Prop}(h:G:=by first|(((first|exact T.al3|exact T.al4|exact T.al61|exact T.al73|exact T.al75|exact T.al104|exact T.al118|exact T.al122|exact T.al141|exact T.al173));done)|fail):G:=h
def t2A{G:Prop}(h:G:=by first|(((first|exact T.sc3|exact T.sc4|exact T.sc28|exact T.sc61|exact T.KR|exact T.U9|exact T.Vx|exact T.Vz));done)|fail):G:=h
def t3A{G:Prop}(h:G:=by first|(((first|exact T.z3|exact T.z28));done)|fail):G:=h
def t4A{G:Prop}(h:G:=by first|(((first|exact T.r73|exact T.r75|exact T.r118|exact T.r122|exact T.r141));done)|fail):G:=h
def t5A{G:Prop}(h:G:=by first|(((first|exact T.e28|exact T.e61|exact T.e104|exact T.e116|exact T.e175));done)|fail):G:=h
def t6A{G:Prop}(h:G:=by first|(((first|exact T.s28|exact T.s61|exact T.s104|exact T.s116|exact T.s175));done)|fail):G:=h
def t7A{G:Prop}(h:G:=by first|(((first|exact T.u3|exact T.u109));done)|fail):G:=h
def knA{G:Prop}(h:G:=by first|(((first|(focus(apply KnS.f;exact hmA;done))|(focus(apply KnS.oI;exact meA;done))|(focus(apply KnS.o1;exact meA;done))|(focus(apply KnS.zd;exact hmA;done))|(focus(apply KnS.q1;exact hmA;done))|(focus(apply KnS.q2;exact hmA;done))));done)|fail):G:=h
def hsA{G:Prop}(h:G:=by first|(((first|exact hmA|(focus(apply JS;exact hmA;done))|(focus(apply hasQ_Q;exact hmA;done))|exact HE|exact Yn|(focus(apply QV;exact hmA;done))|(focus(apply hasQ_d1;exact hmA;done))|(focus(apply Uj;exact hmA;done))));done)|fail):G:=h
def haA{G:Prop}(h:G:=by first|((repeat(first|exact Qu.nil|(apply Qu.cons;exact hsA)));done)|fail):G:=h
def ltA{G:Prop}(h:G:=by first|(((first|(focus(apply Or.inr;constructor;(repeat(first|exact List.Sublist.refl _|exact List.nil_sublist _|apply List.Sublist.cons_cons|apply List.Sublist.cons));(first|exact λ_ h=>h|(intro f hf;(repeat(first|exact hf|apply List.Mem.tail))));done))|(apply Or.inl;kernel_rfl)));done)|fail):G:=h
def onA{G:Prop}(h:G:=by first|(((first|exact ZA _|(intro u hu;simp only[List.mem_cons,List.not_mem_nil,or_false] at hu;first|(subst hu;rfl)|(rcases hu with rfl|rfl|rfl<;>rfl))));done)|fail):G:=h
def leA{G:Prop}(h:G:=by first|(((simp only[List.length_map,List.length_append,List.length_cons,List.length_nil,List.length_replicate,List.length_take];omega));done)|fail):G:=h
def Jj{G:Prop}(h:G:=by first|(((first|(first|(apply YO.ix1;exact t6A;exact rfl;exact rfl;exact knA;omega)|(apply YO.ix;exact t6A;exact rfl;exact rfl;exact knA;omega)|(apply YO.Yl;exact t6A;exact rfl;exact rfl;exact knA;omega;omega)|(apply YO.ix';exact t6A;exact rfl;exact rfl;exact knA;omega;omega))|(apply YO.ix1;exact t6A;exact rfl;exact rfl;exact knA;(first|omega|(simp only[List.length_set];omega)))|(apply YO.ix;exact t6A;exact rfl;exact rfl;exact knA;(first|omega|(simp only[List.length_set];omega)))|(apply YO.Yl;exact t6A;exact rfl;exact rfl;exact knA;omega;(first|omega|(simp only[List.length_set];omega)))));done)|fail):G:=h
def Yt{G:Prop}(h:G:=by first|(((first|(apply YO.ldW;exact t4A;exact rfl;exact meA;exact rfl)|(apply YO.ld42;exact t4A;exact rfl;exact meA)|(apply YO.ld40;exact t4A;exact rfl;exact meA)|(apply YO.ld51;exact t4A;exact rfl;exact meA)|(apply YO.ldF;exact t2A;exact rfl;exact hmA;exact rfl)|(apply YO.ldS;exact t2A;exact rfl;exact hsA;omega)|(apply YO.ldB;exact t2A;exact rfl;exact meA;exact rfl)|(apply YO.Kr;exact t2A;exact rfl;exact meA;(first|omega|(simp only[List.length_set];omega)))));done)|fail):G:=h
def Xo{G:Prop}(h:G:=by first|(((first|(first|(apply YO.slice;exact t6A;exact rfl;exact knA;exact Or.inl ⟨rfl,rfl⟩;exact Or.inr ⟨_,rfl,rfl⟩;omega;omega)|(apply YO.slice;exact t6A;exact rfl;exact knA;exact Or.inr ⟨_,rfl,rfl⟩;exact Or.inl ⟨rfl,rfl⟩;omega;omega))|(apply YO.slice3;exact t6A;exact rfl;exact knA;exact rfl;exact rfl;omega;omega)));done)|fail):G:=h
def Zd{G:Prop}(h:G:=by first|(((first|(first|(first|(apply YO.eql_t;exact rfl;exact rfl;omega)|(apply YO.eql_f;exact rfl;exact rfl;omega))|(apply YO.Y2;exact t6A;exact rfl;exact knA;assumption)|(apply YO.Y1;exact t6A;exact rfl;exact knA;assumption))|(apply YO.beq_t;exact XK;exact rfl;exact rfl;(first|rfl|assumption|decide))|(apply YO.beq_f;exact XK;exact rfl;exact rfl;(first|rfl|assumption|decide))));done)|fail):G:=h
def Xh{G:Prop}(h:G:=by first|(((first|(apply YO.buildZ;exact rfl;exact rfl;exact knA)|exact YO.buildZ0|exact YO.buildQ0|(apply YO.buildQ1;exact rfl)|(apply YO.buildQ2;exact rfl;exact rfl)));done)|fail):G:=h
def Q7{G:Prop}(h:G:=by first|(((first|(apply YO.Zo;exact t0A;exact rfl)|(apply YO.YH;exact t0A;exact rfl;((try simp only[Nat.zero_add,Nat.mul_one,Nat.reduceAdd,Nat.reduceMul]);exact rfl))));done)|fail):G:=h
def Kx{G:Prop}(h:G:=by first|(((apply YO.len;exact t6A;exact rfl;exact knA));done)|fail):G:=h
def KE{G:Prop}(h:G:=by first|(((first|(first|(apply YO.VG;exact t7A;exact t7A;exact rfl;omega;omega)|(apply YO.convI;exact t7A;exact t7A;exact rfl;omega;omega))|(apply YO.convN;exact t7A;exact t7A;exact rfl;omega;omega)));done)|fail):G:=h
def Kw{G:Prop}(h:G:=by first|(((first|(first|(apply YO.neq_t;exact rfl;exact rfl;omega)|(apply YO.neq_f;exact rfl;exact rfl;omega))|(apply YO.bne_t;exact XK;exact rfl;exact rfl;(first|rfl|assumption|decide))|(apply YO.bne_f;exact XK;exact rfl;exact rfl;(first|rfl|assumption|decide))));done)|fail):G:=h
def J3{G:Prop}(h:G:=by first|(((apply YO.makeFunc;(repeat(first|exact Evs.nil|(apply Evs.cons;exact rfl)));(repeat(first|exact Evs.nil|(apply Evs.cons;exact rfl)))));done)|fail):G:=h
def Kv{G:Prop}(h:G:=by first|(((first|(apply YO.quo;exact rfl;exact rfl;omega;omega;omega)|(apply YO.uquo;exact rfl;exact rfl;omega;omega;omega)));done)|fail):G:=h
def Vo{G:Prop}(h:G:=by first|(((first|(apply YO.and1;exact rfl;exact rfl;omega;omega)|(apply YO.and;exact rfl;exact rfl;omega;omega;omega;omega)));done)|fail):G:=h
def Kk{G:Prop}(h:G:=by first|(((first|(apply YO.mul;exact rfl;exact rfl;omega;omega)|(apply YO.umul;exact rfl;exact rfl;omega;omega)));done)|fail):G:=h
def Ku{G:Prop}(h:G:=by first|(((first|(apply YO.rem;exact rfl;exact rfl;omega;omega)|(apply YO.urem;exact rfl;exact rfl;omega;omega)));done)|fail):G:=h
def Z9{G:Prop}(h:G:=by first|(((first|(apply YO.inc;exact rfl;exact rfl;omega)|(apply YO.add;exact rfl;exact rfl;omega;omega)));done)|fail):G:=h
def Kz{G:Prop}(h:G:=by first|(((first|(apply YO.lss_t;exact rfl;exact rfl;omega)|(apply YO.lss_f;exact rfl;exact rfl;omega)));done)|fail):G:=h
def Kj{G:Prop}(h:G:=by first|(((first|(apply YO.gtr_t;exact rfl;exact rfl;omega)|(apply YO.gtr_f;exact rfl;exact rfl;omega)));done)|fail):G:=h
def Kq{G:Prop}(h:G:=by first|(((first|(apply YO.geq_t;exact rfl;exact rfl;omega)|(apply YO.geq_f;exact rfl;exact rfl;omega)));done)|fail):G:=h
def Vp{G:Prop}(h:G:=by first|(((first|(apply YO.leq_t;exact rfl;exact rfl;omega)|(apply YO.leq_f;exact rfl;exact rfl;omega)));done)|fail):G:=h
def Ze{G:Prop}(h:G:=by first|(((apply YO.shl';exact rfl;exact rfl;omega;omega;(first|omega|decide);(first|omega|decide)));done)|fail):G:=h
def ZX{G:Prop}(h:G:=by first|(((first|(apply YO.neg;exact rfl;omega;omega)|(apply YO.uneg;exact rfl;omega;omega)));done)|fail):G:=h
def YQ{G:Prop}(h:G:=by first|(((first|(apply YO.pick_t;exact rfl;exact rfl)|(apply YO.pick_f;exact rfl;exact rfl)));done)|fail):G:=h
def YJ{G:Prop}(h:G:=by first|(((first|(apply YO.not_t;exact rfl)|(apply YO.not_f;exact rfl)));done)|fail):G:=h
def y_or{G:Prop}(h:G:=by first|(((apply YO.or;exact rfl;exact rfl;omega;omega;omega;omega));done)|fail):G:=h
def go{G G':Prop}(h:G')(s:Bx G'->G:=by
 intro h
 (first|apply WL.nil|(apply WL.skg;exact rfl;exact rfl)|(apply WL.UE;(apply YO.move;exact rfl);exact rfl;exact rfl)|(apply WL.XS;(apply YO.assign;exact rfl);exact rfl;exact rfl)|(apply WL.k_lss;exact Kz;exact rfl;exact rfl)|(apply WL.k_add;exact Z9;exact rfl;exact rfl)|(apply WL.UF;exact Kx;exact rfl;exact rfl)|(apply WL.JW;exact Jj;exact rfl;exact rfl)|(apply WL.Ym;exact Yt;exact rfl;exact rfl)|(apply WL.UB;exact YQ;exact rfl;exact rfl)|(apply WL.Jf;exact Q7;exact rfl;exact rfl)|(apply WL.UG;exact Zd;exact rfl;exact rfl)|(apply WL.YD;exact Kw;exact rfl;exact rfl)|(apply WL.k_nil;(apply YO.nil;exact rfl);exact rfl;exact rfl)|(apply WL.VT;(apply YO.extract;exact rfl;exact rfl);exact rfl;exact rfl)|(apply WL.k_gtr;exact Kj;exact rfl;exact rfl)|(apply WL.k_geq;exact Kq;exact rfl;exact rfl)|(apply WL.k_leq;exact Vp;exact rfl;exact rfl)|(apply WL.k_sub;(apply YO.sub;exact rfl;exact rfl;omega;omega);exact rfl;exact rfl)|(apply WL.X8;exact Kk;exact rfl;exact rfl)|(apply WL.ZN;exact Ku;exact rfl;exact rfl)|(apply WL.YE;exact Kv;exact rfl;exact rfl)|(apply WL.UA;exact YJ;exact rfl;exact rfl)|(apply WL.k_uneg;exact ZX;exact rfl;exact rfl)|(apply WL.k_max;(apply YO.max;exact rfl;exact rfl);exact rfl;exact rfl)|(apply WL.k_min;(apply YO.min;exact rfl;exact rfl);exact rfl;exact rfl)|(apply WL.UD;exact J3;exact rfl;exact rfl)|(apply WL.Zs;exact KE;exact rfl;exact rfl)|(apply WL.UC;exact Ze;exact rfl;exact rfl)|(apply WL.k_shr;(apply YO.shr';exact rfl;exact rfl;omega;omega);exact rfl;exact rfl)|(apply WL.k_and;exact Vo;exact rfl;exact rfl)|(apply WL.X9;exact Xo;exact rfl;exact rfl)|(apply WL.XD;exact Xh;exact rfl;exact rfl)|apply WC.seq|apply WC.region|apply WC.block|(apply WC.cond_t;exact rfl)|(apply WC.cond_f;exact rfl)|apply WC.exit|apply WC.skip|apply WC.label|(apply WL.Jx;rotate_left;exact rfl;(first|(apply LO.Xy;exact rfl;exact rfl;exact t3A;exact seA;(first|omega|(simp only[List.length_set];omega)))|(apply LO.Xv;exact rfl;exact rfl;exact t3A;(first|exact One.lit rfl rfl|(apply One.sl;exact knA));exact seA;(first|(simp only[List.length_cons,List.length_nil];omega)|(simp;omega));(first|(simp only[List.set_cons_succ,List.set_cons_zero];exact rfl)|exact rfl))|(apply LO.JF;exact rfl;exact rfl;exact t3A;(first|exact One.lit rfl rfl|(apply One.sl;exact knA));exact seA;(first|(simp only[List.length_cons,List.length_nil];omega)|(simp;omega));(first|(simp only[List.set_cons_succ,List.set_cons_zero];exact rfl)|exact rfl))|(apply LO.X2;exact rfl;exact rfl;exact seA;exact t4A;exact rfl;exact rfl;(repeat(first|exact QP.nil|(apply QP.cons;(first|exact One.lit rfl rfl|(apply One.sl;exact knA)))))))))
 repeat(first|apply WL.nil|(apply WL.skg;exact rfl;exact rfl)|(apply WL.UE;(apply YO.move;exact rfl);exact rfl;exact rfl)|(apply WL.XS;(apply YO.assign;exact rfl);exact rfl;exact rfl)|(apply WL.k_lss;exact Kz;exact rfl;exact rfl)|(apply WL.k_add;exact Z9;exact rfl;exact rfl)|(apply WL.UF;exact Kx;exact rfl;exact rfl)|(apply WL.JW;exact Jj;exact rfl;exact rfl)|(apply WL.Ym;exact Yt;exact rfl;exact rfl)|(apply WL.UB;exact YQ;exact rfl;exact rfl)|(apply WL.Jf;exact Q7;exact rfl;exact rfl)|(apply WL.UG;exact Zd;exact rfl;exact rfl)|(apply WL.YD;exact Kw;exact rfl;exact rfl)|(apply WL.k_nil;(apply YO.nil;exact rfl);exact rfl;exact rfl)|(apply WL.VT;(apply YO.extract;exact rfl;exact rfl);exact rfl;exact rfl)|(apply WL.k_gtr;exact Kj;exact rfl;exact rfl)|(apply WL.k_geq;exact Kq;exact rfl;exact rfl)|(apply WL.k_leq;exact Vp;exact rfl;exact rfl)|(apply WL.k_sub;(apply YO.sub;exact rfl;exact rfl;omega;omega);exact rfl;exact rfl)|(apply WL.X8;exact Kk;exact rfl;exact rfl)|(apply WL.ZN;exact Ku;exact rfl;exact rfl)|(apply WL.YE;exact Kv;exact rfl;exact rfl)|(apply WL.UA;exact YJ;exact rfl;exact rfl)|(apply WL.k_uneg;exact ZX;exact rfl;exact rfl)|(apply WL.k_max;(apply YO.max;exact rfl;exact rfl);exact rfl;exact rfl)|(apply WL.k_min;(apply YO.min;exact rfl;exact rfl);exact rfl;exact rfl)|(apply WL.UD;exact J3;exact rfl;exact rfl)|(apply WL.Zs;exact KE;exact rfl;exact rfl)|(apply WL.UC;exact Ze;exact rfl;exact rfl)|(apply WL.k_shr;(apply YO.shr';exact rfl;exact rfl;omega;omega);exact rfl;exact rfl)|(apply WL.k_and;exact Vo;exact rfl;exact rfl)|(apply WL.X9;exact Xo;exact rfl;exact rfl)|(apply WL.XD;exact Xh;exact rfl;exact rfl)|apply WC.seq|apply WC.region|apply WC.block|(apply WC.cond_t;exact rfl)|(apply WC.cond_f;exact rfl)|apply WC.exit|apply WC.skip|apply WC.label|(apply WL.Jx;rotate_left;exact rfl;(first|(apply LO.Xy;exact rfl;exact rfl;exact t3A;exact seA;(first|omega|(simp only[List.length_set];omega)))|(apply LO.Xv;exact rfl;exact rfl;exact t3A;(first|exact One.lit rfl rfl|(apply One.sl;exact knA));exact seA;(first|(simp only[List.length_cons,List.length_nil];omega)|(simp;omega));(first|(simp only[List.set_cons_succ,List.set_cons_zero];exact rfl)|exact rfl))|(apply LO.JF;exact rfl;exact rfl;exact t3A;(first|exact One.lit rfl rfl|(apply One.sl;exact knA));exact seA;(first|(simp only[List.length_cons,List.length_nil];omega)|(simp;omega));(first|(simp only[List.set_cons_succ,List.set_cons_zero];exact rfl)|exact rfl))|(apply LO.X2;exact rfl;exact rfl;exact seA;exact t4A;exact rfl;exact rfl;(repeat(first|exact QP.nil|(apply QP.cons;(first|exact One.lit rfl rfl|(apply One.sl;exact knA)))))))))
 exact Bx.h h):G:=s ⟨h⟩
def goD{G G':Prop}(h:G')(s:Bx G'->G:=by
 intro h
 (first|apply WD.nil|(apply WD.skg;exact rfl;exact rfl;exact rfl)|(apply WD.skgl;exact rfl;exact rfl;exact rfl)|(apply WD.UE;exact rfl;(apply YO.move;exact rfl);exact rfl;exact rfl)|(apply WD.XS;exact rfl;(apply YO.assign;exact rfl);exact rfl;exact rfl)|(apply WD.k_lss;exact rfl;exact Kz;exact rfl;exact rfl)|(apply WD.k_add;exact rfl;exact Z9;exact rfl;exact rfl)|(apply WD.UF;exact rfl;exact Kx;exact rfl;exact rfl)|(apply WD.JW;exact rfl;exact Jj;exact rfl;exact rfl)|(apply WD.Ym;exact rfl;exact Yt;exact rfl;exact rfl)|(apply WD.UB;exact rfl;exact YQ;exact rfl;exact rfl)|(apply WD.Jf;exact rfl;exact Q7;exact rfl;exact rfl)|(apply WD.UG;exact rfl;exact Zd;exact rfl;exact rfl)|(apply WD.YD;exact rfl;exact Kw;exact rfl;exact rfl)|(apply WD.k_nil;exact rfl;(apply YO.nil;exact rfl);exact rfl;exact rfl)|(apply WD.k_gtr;exact rfl;exact Kj;exact rfl;exact rfl)|(apply WD.k_geq;exact rfl;exact Kq;exact rfl;exact rfl)|(apply WD.k_sub;exact rfl;(apply YO.sub;exact rfl;exact rfl;omega;omega);exact rfl;exact rfl)|(apply WD.X8;exact rfl;exact Kk;exact rfl;exact rfl)|(apply WD.ZN;exact rfl;exact Ku;exact rfl;exact rfl)|(apply WD.YE;exact rfl;exact Kv;exact rfl;exact rfl)|(apply WD.UA;exact rfl;exact YJ;exact rfl;exact rfl)|(apply WD.Zs;exact rfl;exact KE;exact rfl;exact rfl)|(apply WD.UC;exact rfl;exact Ze;exact rfl;exact rfl)|(apply WD.X9;exact rfl;exact Xo;exact rfl;exact rfl)|(apply WD.XD;exact rfl;exact Xh;exact rfl;exact rfl)|(apply WD.Jx;exact rfl;rotate_left;exact rfl;(first|(apply LO.Xy;exact rfl;exact rfl;exact t3A;exact seA;(first|omega|(simp only[List.length_set];omega)))|(apply LO.Xv;exact rfl;exact rfl;exact t3A;(first|exact One.lit rfl rfl|(apply One.sl;exact knA));exact seA;(first|(simp only[List.length_cons,List.length_nil];omega)|(simp;omega));(first|(simp only[List.set_cons_succ,List.set_cons_zero];exact rfl)|exact rfl))|(apply LO.JF;exact rfl;exact rfl;exact t3A;(first|exact One.lit rfl rfl|(apply One.sl;exact knA));exact seA;(first|(simp only[List.length_cons,List.length_nil];omega)|(simp;omega));(first|(simp only[List.set_cons_succ,List.set_cons_zero];exact rfl)|exact rfl))|(apply LO.X2;exact rfl;exact rfl;exact seA;exact t4A;exact rfl;exact rfl;(repeat(first|exact QP.nil|(apply QP.cons;(first|exact One.lit rfl rfl|(apply One.sl;exact knA)))))));constructor;exact ltA))
 repeat(first|apply WD.nil|(apply WD.skg;exact rfl;exact rfl;exact rfl)|(apply WD.skgl;exact rfl;exact rfl;exact rfl)|(apply WD.UE;exact rfl;(apply YO.move;exact rfl);exact rfl;exact rfl)|(apply WD.XS;exact rfl;(apply YO.assign;exact rfl);exact rfl;exact rfl)|(apply WD.k_lss;exact rfl;exact Kz;exact rfl;exact rfl)|(apply WD.k_add;exact rfl;exact Z9;exact rfl;exact rfl)|(apply WD.UF;exact rfl;exact Kx;exact rfl;exact rfl)|(apply WD.JW;exact rfl;exact Jj;exact rfl;exact rfl)|(apply WD.Ym;exact rfl;exact Yt;exact rfl;exact rfl)|(apply WD.UB;exact rfl;exact YQ;exact rfl;exact rfl)|(apply WD.Jf;exact rfl;exact Q7;exact rfl;exact rfl)|(apply WD.UG;exact rfl;exact Zd;exact rfl;exact rfl)|(apply WD.YD;exact rfl;exact Kw;exact rfl;exact rfl)|(apply WD.k_nil;exact rfl;(apply YO.nil;exact rfl);exact rfl;exact rfl)|(apply WD.k_gtr;exact rfl;exact Kj;exact rfl;exact rfl)|(apply WD.k_geq;exact rfl;exact Kq;exact rfl;exact rfl)|(apply WD.k_sub;exact rfl;(apply YO.sub;exact rfl;exact rfl;omega;omega);exact rfl;exact rfl)|(apply WD.X8;exact rfl;exact Kk;exact rfl;exact rfl)|(apply WD.ZN;exact rfl;exact Ku;exact rfl;exact rfl)|(apply WD.YE;exact rfl;exact Kv;exact rfl;exact rfl)|(apply WD.UA;exact rfl;exact YJ;exact rfl;exact rfl)|(apply WD.Zs;exact rfl;exact KE;exact rfl;exact rfl)|(apply WD.UC;exact rfl;exact Ze;exact rfl;exact rfl)|(apply WD.X9;exact rfl;exact Xo;exact rfl;exact rfl)|(apply WD.XD;exact rfl;exact Xh;exact rfl;exact rfl)|(apply WD.Jx;exact rfl;rotate_left;exact rfl;(first|(apply LO.Xy;exact rfl;exact rfl;exact t3A;exact seA;(first|omega|(simp only[List.length_set];omega)))|(apply LO.Xv;exact rfl;exact rfl;exact t3A;(first|exact One.lit rfl rfl|(apply One.sl;exact knA));exact seA;(first|(simp only[List.length_cons,List.length_nil];omega)|(simp;omega));(first|(simp only[List.set_cons_succ,List.set_cons_zero];exact rfl)|exact rfl))|(apply LO.JF;exact rfl;exact rfl;exact t3A;(first|exact One.lit rfl rfl|(apply One.sl;exact knA));exact seA;(first|(simp only[List.length_cons,List.length_nil];omega)|(simp;omega));(first|(simp only[List.set_cons_succ,List.set_cons_zero];exact rfl)|exact rfl))|(apply LO.X2;exact rfl;exact rfl;exact seA;exact t4A;exact rfl;exact rfl;(repeat(first|exact QP.nil|(apply QP.cons;(first|exact One.lit rfl rfl|(apply One.sl;exact knA)))))));constructor;exact ltA))
 exact Bx.h h):G:=s ⟨h⟩
def goG{G G':Prop}(h:G')(s:Bx G'->G:=by
 intro h
 (first|(apply WL.Xz;rotate_left;exact rfl;exact rfl;apply LO.XZ;(first|exact t1A))|(apply WL.kl_box;rotate_left;exact rfl;exact rfl;(first|(apply LO.boxA;exact rfl)|(apply LO.box1;exact rfl;(first|exact One.lit rfl rfl|(apply One.sl;exact knA))))))
 exact Bx.h h):G:=s ⟨h⟩
def goV{G G':Prop}(h:G')(s:Bx G'->G:=by
 intro h
 (first|(apply WL.ZL;rotate_left;exact rfl;exact rfl;(apply LO.makeI;exact rfl;exact rfl;(repeat(first|(with_reducible apply QT.add)|(with_reducible exact QT.one)|exact QT.cast _));omega))|(apply WL.Jo;rotate_left;exact rfl;exact rfl;apply LO.bs1;exact t6A;(repeat(first|exact EvP.nil|(apply EvP.cons;exact rfl)));(intro _;kernel_rfl);exact rfl;omega)|(apply WL.Q9;rotate_left;exact rfl;exact rfl;apply LO.app;exact t5A;exact rfl;exact rfl;(first|(focus(apply Qa.ints;exact hmA;done))|(focus(apply Qa.J0;exact meA;done))|(focus(apply Qa.one;exact meA;exact rfl;decide;done)));(intro v;exact seA);exact onA;exact leA;exact leA))
 exact Bx.h h):G:=s ⟨h⟩
def goDG{G G':Prop}(h:G')(s:Bx G'->G:=by
 intro h
 (first|(apply WD.Xz;exact rfl;rotate_left;exact rfl;exact rfl;apply LO.XZ;(first|exact t1A);apply Qb;(intro _;exact ltA)))
 exact Bx.h h):G:=s ⟨h⟩
def goDV{G G':Prop}(h:G')(s:Bx G'->G:=by
 intro h
 (first|(apply WD.ZL;exact rfl;rotate_left;exact rfl;exact rfl;(apply LO.makeI;exact rfl;exact rfl;(repeat(first|(with_reducible apply QT.add)|(with_reducible exact QT.one)|exact QT.cast _));omega);apply Qb;(intro _;exact ltA))|(apply WD.Jo;exact rfl;rotate_left;exact rfl;exact rfl;apply LO.bs1;exact t6A;(repeat(first|exact EvP.nil|(apply EvP.cons;exact rfl)));(intro _;kernel_rfl);exact rfl;omega;apply Qb;(intro _;exact ltA))|(apply WD.Q9;exact rfl;rotate_left;exact rfl;exact rfl;apply LO.app;exact t5A;exact rfl;exact rfl;(first|(focus(apply Qa.ints;exact hmA;done))|(focus(apply Qa.J0;exact meA;done))|(focus(apply Qa.one;exact meA;exact rfl;decide;done)));(intro v;exact seA);exact onA;exact leA;exact leA;apply Qb;(intro _;exact ltA)))
 exact Bx.h h):G:=s ⟨h⟩
def goLG{G G':Prop}(h:G')(s:Bx G'->G:=by
 intro h
 (first|(apply LO.XZ;(first|exact t1A);apply Qb;(intro _;exact ltA))|((first|(apply LO.boxA;exact rfl)|(apply LO.box1;exact rfl;(first|exact One.lit rfl rfl|(apply One.sl;exact knA))));apply Qb;(intro _;exact ltA)))
 exact Bx.h h):G:=s ⟨h⟩
def goLV{G G':Prop}(h:G')(s:Bx G'->G:=by
 intro h
 (first|(apply LO.bs1;exact t6A;(repeat(first|exact EvP.nil|(apply EvP.cons;exact rfl)));(intro _;kernel_rfl);exact rfl;omega;apply Qb;(intro _;exact ltA))|(apply LO.app;exact t5A;exact rfl;exact rfl;(first|(focus(apply Qa.ints;exact hmA;done))|(focus(apply Qa.J0;exact meA;done))|(focus(apply Qa.one;exact meA;exact rfl;decide;done)));(intro v;exact seA);exact onA;exact leA;exact leA;apply Qb;(intro _;exact ltA))|((apply LO.makeI;exact rfl;exact rfl;(repeat(first|(with_reducible apply QT.add)|(with_reducible exact QT.one)|exact QT.cast _));omega);apply Qb;(intro _;exact ltA)))
 exact Bx.h h):G:=s ⟨h⟩
def goLS{G G':Prop}(h:G')(s:Bx G'->G:=by
 intro h
 (first|((first|(apply LO.Xy;exact rfl;exact rfl;exact t3A;exact seA;(first|omega|(simp only[List.length_set];omega)))|(apply LO.Xv;exact rfl;exact rfl;exact t3A;(first|exact One.lit rfl rfl|(apply One.sl;exact knA));exact seA;(first|(simp only[List.length_cons,List.length_nil];omega)|(simp;omega));(first|(simp only[List.set_cons_succ,List.set_cons_zero];exact rfl)|exact rfl))|(apply LO.JF;exact rfl;exact rfl;exact t3A;(first|exact One.lit rfl rfl|(apply One.sl;exact knA));exact seA;(first|(simp only[List.length_cons,List.length_nil];omega)|(simp;omega));(first|(simp only[List.set_cons_succ,List.set_cons_zero];exact rfl)|exact rfl))|(apply LO.X2;exact rfl;exact rfl;exact seA;exact t4A;exact rfl;exact rfl;(repeat(first|exact QP.nil|(apply QP.cons;(first|exact One.lit rfl rfl|(apply One.sl;exact knA)))))));constructor;exact ltA))
 exact Bx.h h):G:=s ⟨h⟩
section
variable {P:Program}{n:Nat}{L rest:List Oper}{e:Env}{bx b0:List Ow}{F F0:List Fct}{Q:Env->List Ow->List Fct->Prop}{d i:Nat}{ty:TypeId}{pos:String}{af:Array Edge}{g:Option (Nat×Bool)}{hs:List Nat}{r:Plan}
 {f:FuncId} {x:Operand} {args:List Operand} {ats:Array TypeId} {vs cs:List Value} {F':List Fct} {u:Value} {el sz:Nat}
def WL.Yv(hf:FnB P f vs [] F' (IsV u))(hK:WL P n L rest ((d,u)::e) bx F Q)(hx:ev e x=some (.func (.func f) #[] #[]):=by exact rfl)(hv:Evs e args vs:=by repeat(first|exact Evs.nil|(apply Evs.cons;exact rfl)))(hF:Qp bx F F':=by repeat(first|exact Qp.nil|(apply Qp.cons;(first|(focus(apply Qm.oI;exact meA;done))|(focus(apply Qm.c;exact meA;done))|(focus(apply Qm.f;exact hsA;done))))))
  (hd:Nat.blt d n=true:=by exact rfl) (hg:gok L e g=some true:=by exact rfl):WL P n L (⟨some d,.call {callee:=.value x,args:=args.toArray,argTypes:=ats},ty,pos,af,g⟩::rest) e bx F Q:=
 WL.l hd hg (LO.Ke hx hv hf hF hK)
def WD.Yv(hf:FnB P f vs [] F' (IsV u))(hK:WD P n L hs b0 F0 r ((d,u)::e) bx F Q)(hL:L[i]?=some ⟨some d,.call {callee:=.value x,args:=args.toArray,argTypes:=ats},ty,pos,af,g⟩:=by exact rfl)(hx:ev e x=some (.func (.func f) #[] #[]):=by exact rfl)(hv:Evs e args vs:=by repeat(first|exact Evs.nil|(apply Evs.cons;exact rfl)))(hF:Qp bx F F':=by repeat(first|exact Qp.nil|(apply Qp.cons;(first|(focus(apply Qm.oI;exact meA;done))|(focus(apply Qm.c;exact meA;done))|(focus(apply Qm.f;exact hsA;done))))))
  (hd:Nat.blt d n=true:=by exact rfl) (hg:gok L e g=some true:=by exact rfl) (lt:QF L hs i=true\/(b0.Sublist bx/\∀f∈F0,f∈F):=by exact ltA):WD P n L hs b0 F0 (.loud i r) e bx F Q:=
 WD.l hL hd hg (LO.Ke hx hv hf hF ⟨lt,hK⟩)
end
end
section
open W Go.RowKit
namespace W
inductive Rem:List Ow->Ow->List Ow->Prop where
 |head {b:Ow} {l:List Ow}:Rem (b::l) b l
 |tail {b c:Ow} {l l':List Ow}:Rem l b l'->Rem (c::l) b (c::l')
def Rem.perm{l l':List Ow}{b:Ow}(h:Rem l b l'):l.Perm (b::l'):=by
 induction h with
 |head=>exact .refl _
 |tail _ ih=>exact(ih.cons _).trans (.swap _ _ _)
section
variable {P:Program}{n:Nat}{L rest:List Oper}{e:Env}{bx bx' b0 ba br:List Ow}{F F0 F':List Fct}{c:Code}{g:Nat}{t:TypeId}{cs:List Value}{hs:List Nat}{r:Plan}
def OK.keep{fr:CF}{w:World}(h:OK fr bx F w)(hr:Rem bx (.cells g t cs) bx'):OK fr bx' (ce g t cs::F) w:=by
 have hp:=h.perm hr.perm;have hd:OK fr bx' F w:=hp.drop (List.sublist_cons_self _ _);refine hd.add (f:=ce g t cs) ?_;have hh:=hp.owns _ List.mem_cons_self;have hnd:=hp.nodup;have hap:=hp.apart g (by simp[ids,Ow.ids]);simp only[ids,List.flatMap_cons,Ow.ids,List.singleton_append,List.nodup_cons] at hnd;show(if((fr.fr g).isSome ||(ids bx').contains g)=true then none else fr.see w.heap g)=_;rw[if_neg,CF.XV (.inl hap.1)]
 ·exact hh
 ·simp only[hap.2,Option.isSome_none,Bool.false_or,List.contains_iff_mem];exact hnd.1
def WL.keep{Q:Env->List Ow->List Fct->Prop}(hr:Rem bx (.cells g t cs) bx')(h:WL P n L rest e bx' (ce g t cs::F) Q):WL P n L rest e bx F Q:=λfr w0 a w Q' hQ hk hrr ho=>h fr w0 a w Q' hQ hk hrr (ho.keep hr)
def WC.keep{Q:Post}(hr:Rem bx (.cells g t cs) bx')(h:WC P n c e bx' (ce g t cs::F) Q):WC P n c e bx F Q:=λfr w0 a w hk hrr ho=>h fr w0 a w hk hrr (ho.keep hr)
variable {f:FuncId}{x:Operand}{args:List Operand}{ats:Array TypeId}{vs first cap:List Value}{R:Qg}{Q:Env->List Ow->List Fct->Prop}{d:Nat}{ty:TypeId}{pos:String}{af:Array Edge}{gd:Option (Nat×Bool)}
def WL.YZ(ba br:List Ow)(hp:bx.Perm (ba++br))(hf:FnB P f vs ba F' R)(hK:∀v b G,R v b G->WL P n L rest ((d,v)::e) (b++br) (G++F) Q)(hx:ev e x=some (.func (.func f) #[] #[]):=by exact rfl)(hv:Evs e args vs:=by repeat(first|exact Evs.nil|(apply Evs.cons;exact rfl)))(hF:Qu F F':=by repeat(first|exact Qu.nil|(apply Qu.cons;exact hsA)))
  (hd:Nat.blt d n=true:=by exact rfl) (hg:gok L e gd=some true:=by exact rfl):WL P n L (⟨some d,.call {callee:=.value x,args:=args.toArray,argTypes:=ats},ty,pos,af,gd⟩::rest) e bx F Q:=
 WL.l hd hg (LO.call (first:=[]) (cap:=[]) hx hv ba br hp (by simpa using hf) hF.all hK)
def WL.QA(hf:FnB P f vs [] F' R)(hK:∀v b G,R v b G->WL P n L rest ((d,v)::e) (b++bx) (G++F) Q)(hx:ev e x=some (.func (.func f) #[] #[]):=by exact rfl)(hv:Evs e args vs:=by repeat(first|exact Evs.nil|(apply Evs.cons;exact rfl)))(hF:Qu F F':=by repeat(first|exact Qu.nil|(apply Qu.cons;exact hsA)))
  (hd:Nat.blt d n=true:=by exact rfl) (hg:gok L e gd=some true:=by exact rfl):WL P n L (⟨some d,.call {callee:=.value x,args:=args.toArray,argTypes:=ats},ty,pos,af,gd⟩::rest) e bx F Q:=
 WL.l hd hg (LO.call (first:=[]) (cap:=[]) hx hv [] bx (.refl _) (by simpa using hf) hF.all hK)
def WD.QA{i:Nat}(hf:FnB P f vs [] F' R)(hK:∀v b G,R v b G->WD P n L hs b0 F0 r ((d,v)::e) (b++bx) (G++F) Q)(hL:L[i]?=some ⟨some d,.call {callee:=.value x,args:=args.toArray,argTypes:=ats},ty,pos,af,gd⟩:=by exact rfl)(hx:ev e x=some (.func (.func f) #[] #[]):=by exact rfl)(hv:Evs e args vs:=by repeat(first|exact Evs.nil|(apply Evs.cons;exact rfl)))(hF:Qu F F':=by repeat(first|exact Qu.nil|(apply Qu.cons;exact hsA)))
  (hd:Nat.blt d n=true:=by exact rfl) (hg:gok L e gd=some true:=by exact rfl) (lt:QF L hs i=true\/(b0.Sublist bx/\∀f∈F0,f∈F):=by(first|(focus(apply Or.inr;constructor;(repeat(first|exact List.Sublist.refl _|exact List.nil_sublist _|apply List.Sublist.cons_cons|apply List.Sublist.cons));(first|exact λ_ h=>h|(intro f hf;(repeat(first|exact hf|apply List.Mem.tail))));done))|(apply Or.inl;kernel_rfl))):WD P n L hs b0 F0 (.loud i r) e bx F Q:=
 WD.l hL hd hg (LO.call (first:=[]) (cap:=[]) hx hv [] bx (.refl _) (by simpa using hf) hF.all λv b G hR=>⟨lt.imp id λh=>⟨h.1.trans (List.sublist_append_right _ _),λf hf=>List.mem_append_right _ (h.2 f hf)⟩,hK v b G hR⟩)
def LO.callM{i:Nat}(hf:FnB P f vs [] F' R)(hK:∀v b G,R v b G->WD P n L hs b0 F0 r ((d,v)::e) (b++bx) (G++F) Q)(hx:ev e x=some (.func (.func f) #[] #[]):=by exact rfl)(hv:Evs e args vs:=by repeat(first|exact Evs.nil|(apply Evs.cons;exact rfl)))(hF:Qu F F':=by repeat(first|exact Qu.nil|(apply Qu.cons;exact hsA)))
  (lt:QF L hs i=true\/(b0.Sublist bx/\∀f∈F0,f∈F):=by(first|(focus(apply Or.inr;constructor;(repeat(first|exact List.Sublist.refl _|exact List.nil_sublist _|apply List.Sublist.cons_cons|apply List.Sublist.cons));(first|exact λ_ h=>h|(intro f hf;(repeat(first|exact hf|apply List.Mem.tail))));done))|(apply Or.inl;kernel_rfl))):LO P (.call {callee:=.value x,args:=args.toArray,argTypes:=ats}) ty e bx F λv bx' F'=>(QF L hs i=true\/(b0.Sublist bx'/\∀f∈F0,f∈F'))/\WD P n L hs b0 F0 r ((d,v)::e) bx' F' Q:=
 LO.call (first:=[]) (cap:=[]) hx hv [] bx (.refl _) (by simpa using hf) hF.all λv b G hR=>⟨lt.imp id λh=>⟨h.1.trans (List.sublist_append_right _ _),λf hf=>List.mem_append_right _ (h.2 f hf)⟩,hK v b G hR⟩
end
section
variable {P:Program}{n:Nat}{L:List Oper}{e:Env}{bx b0:List Ow}{F F0:List Fct}{hs:List Nat}{r s:Plan}{Q:Env->List Ow->List Fct->Prop}{i j:Nat}
def loud_y{fr fr0:CF}{w0:World}{listed:Array Bool}{a:Act}{w:World}{f':Nat}{Q':Bk->Exit->Act->World->Prop}{v:Value}{e':Env}(o:Oper)(hL:L[i]?=some o)(hle:fr0.le fr)
  (hP:∀own a x y,Q' own .normal a x->Rly own fr.sh x y->Q' own .normal a y) (hns:Region.noSelect L.toArray=true) (hc:chk L hs r (listed.setIfInBounds i true)=true) (hd:Down L.toArray listed) (hri:i∈Region.ready .any L.toArray listed)
  (hQ:∀fr' a' w' e' bx' F',fr.le fr'->Kn fr'.ds n a' e'->Rest w0 w'->OK fr' bx' F' w'->Q e' bx' F'->Q' fr'.own .normal a' w') (hS:(∃i∈hs,listed.getD i true=false)->OK fr b0 F0 w)
  (hk:Kn fr.ds n a e) (hr:Rest w0 w) (ho:OK fr bx F w) (hf:r.len<=f')
  (hg:gok L e o.guard=some true) (hy:YO P o.op o.type e bx F v) (he':Kn fr.ds n (a.put o.dst v) e') (h:WD P n L hs b0 F0 r e' bx F Q) :
  OpR P fr.main fr.sh L.toArray i (λx own' a' w'=>(QF L hs i=false->SR fr0 b0 F0 fr.own x->SR fr0 b0 F0 own' w')/\Yk P fr.main fr.sh L.toArray Q' (SR fr0 b0 F0) (QF L hs) f' (listed.setIfInBounds i true) own' a' w') fr.own a w:=by
 have hun:=(mem_ready.1 hri).1;have hlist:(∃j∈hs,(listed.setIfInBounds i true).getD j true=false)->∃j∈hs,listed.getD j true=false:=λ⟨j,hj,hjl⟩=>⟨j,hj,getD_some hun j hjl⟩
 unfold OpR;have hLa:L.toArray[i]?=some o:=by simpa using hL
 simp only[hLa];rw[if_pos (Q1 hk hg)];intro w1 hw1;have ho1:=ho.rely hw1;have hv:=hy n fr a w1 o rfl rfl hk ho1;rw[hv.1];refine .inl ⟨.look hv.2,?_⟩;rw[Ql (Nat.le_refl _)];exact⟨λ_ h=>h,h fr w0 _ (a.put o.dst v) w1 f' Q' hP hns hc (hd.set hri) hQ (λhx=>(hS (hlist hx)).rely hw1) he' (hr.trans hw1.rest) ho1 hf fr0 hle⟩
variable {d:Nat}{op:Op}{ty:TypeId}{pos:String}{af:Array Edge}{g:Option (Nat×Bool)}{v:Value}
def WD.yl(hL:L[i]?=some ⟨some d,op,ty,pos,af,g⟩)(hy:YO P op ty e bx F v)(hd:Nat.blt d n=true)(hg:gok L e g=some true)(h:WD P n L hs b0 F0 r ((d,v)::e) bx F Q):WD P n L hs b0 F0 (.loud i r) e bx F Q:=λfr w0 listed a w fuel Q' hP hns hc hdn hQ hS hk hr ho hf fr0 hle=>by
 simp only[chk,Bool.and_eq_true,beq_iff_eq] at hc;obtain⟨h1,h2⟩:=hc;obtain⟨f',rfl⟩:∃f',fuel=f'+1:=⟨fuel-1,by simp[Plan.len] at hf;omega⟩
 refine⟨λh0=>(by rw[h0] at h1;cases h1),λj hj=>?_⟩;rw[h1] at hj;simp at hj;subst hj;exact loud_y _ hL hle hP hns h2 hdn (by rw[h1];simp) hQ hS hk hr ho (by simp[Plan.len] at hf;exact hf) hg hy (hk.put hd v) h
def WC.drawB{id:Nat}{Q:Post}(b0:List Ow)(hb:b0.Sublist bx)(hs:List Nat)(p:Plan)(hm:P.follows .mixedOrders=true)(hc:(Region.noSelect L.toArray && (chk L hs p (Array.replicate L.length false) && Nat.ble p.len L.length))=true)
  (h:WD P n L hs b0 F p e bx F (Q .normal)):WC P n (.region id L.toArray true) e bx F Q:=λfr w0 a w hk hr ho=>by
 simp only[Bool.and_eq_true] at hc;refine KD (Vm hm λw1 h1 t=>?_);have ho1:OK fr bx F {w1 with drawn:=w1.drawn+1}:=(ho.rely h1).drawn _;refine Za L.toArray.size t _ _ _ _ (S:=SR fr b0 F) (late:=QF L hs) ?_;have:=h fr w0 (Array.replicate L.length false) a {w1 with drawn:=w1.drawn+1} L.length (λown e a w=>∃x,Rly own fr.sh x w/\post fr n w0 Q own e a x) (λown a x y ⟨z,h2,h3⟩ h4=>⟨z,h2.trans h4,h3⟩) hc.1 (by simpa using hc.2.1) ?_ (λfr' a' w' e' bx' F' hf h1 h2 h3 h4=>⟨w',.refl _ _ _,hf.own,e',bx',F',hf.nk h1,h2,by rw[hf.at];exact h3,h4⟩) (λ_=>ho1.drop hb) hk ((hr.trans h1.rest).trans (Rest.drawn w1 _)) ho1 (by simpa using Nat.le_of_ble_eq_true hc.2.2) fr (.refl _)
 ·simpa using this
 ·intro j o _ hj;rw[Array.getD_eq_getD_getElem?,Array.getElem?_replicate] at hj;split at hj<;>simp at hj
end
inductive Y7(e:Env):List Nat->List Ow->List Ow->Prop where
 |nil (bx:List Ow):Y7 e [] bx bx
 |cons {t:Nat} {ts:List Nat} {g:Nat} {ty:TypeId} {cs:List Value} {bx b1 b0:List Ow}:look e t=some (.pointer (some ⟨g,0,none⟩))->Rem bx (.cells g ty cs) b1->Y7 e ts b1 b0->Y7 e (t::ts) bx b0
def Rem.sub{l l':List Ow}{b:Ow}(h:Rem l b l'):l'.Sublist l:=by
 induction h with
 |head=>exact List.sublist_cons_self _ _
 |tail _ ih=>exact ih.cons_cons _
def Y7.sub{e:Env}{ts:List Nat}{bx b0:List Ow}(h:Y7 e ts bx b0):b0.Sublist bx:=by
 induction h with
 |nil=>exact List.Sublist.refl _
 |cons _ h2 _ ih=>exact ih.trans h2.sub
def WC.drawR{P:Program}{n:Nat}{L:List Oper}{e:Env}{bx b0:List Ow}{F:List Fct}{id:Nat}{Q:Post}(ts:List Nat)(hs:List Nat)(p:Plan)(hm:P.follows .mixedOrders=true)(hc:(Region.noSelect L.toArray && (chk L hs p (Array.replicate L.length false) && Nat.ble p.len L.length))=true)
  (hr:Y7 e ts bx b0) (h:WD P n L hs b0 F p e bx F (Q .normal)):WC P n (.region id L.toArray true) e bx F Q:=WC.drawB b0 hr.sub hs p hm hc h
inductive Ye:List Ow->List Ow->Prop where
 |nil (l:List Ow):Ye [] l
 |cons {b:Ow} {B l l':List Ow}:Rem l b l'->Ye B l'->Ye (b::B) l
def Ye.ok{B l:List Ow}(h:Ye B l):∃r,l.Perm (B++r):=by
 induction h with
 |nil l=>exact⟨l,.refl _⟩
 |cons h1 _ ih=>
  obtain⟨r,h2⟩:=ih;exact⟨r,h1.perm.trans (h2.cons _)⟩
def OK.subP{fr:CF}{B l:List Ow}{F:List Fct}{w:World}(h:OK fr l F w)(hs:Ye B l):OK fr B F w:=by
 obtain⟨r,h1⟩:=hs.ok;exact(h.perm h1).drop (List.sublist_append_left _ _)
def WC.cutP{P:Program}{n:Nat}{e:Env}{bx:List Ow}{F:List Fct}{x y:Code}{Q:Post}{σ:Type}(E:σ->Env)(B:σ->List Ow)(G:σ->List Fct)(I:σ->Prop)
  (h1:WC P n x e bx F (Yg (λe' bx' F'=>∃s,I s/\Sub (E s) e'/\Ye (B s) bx'/\Qu F' (G s)) Q))
  (h2:∀s,I s->WC P n y (E s) (B s) (G s) Q):WC P n x e bx F (Yg (λe bx F=>WC P n y e bx F Q) Q):=
 h1.mono λex e b f h=>by
  cases ex<;>first|exact h|skip
  obtain⟨s,h3,h4,h5,h6⟩:=h;exact λfr w0 a w hk hr ho=>h2 s h3 fr w0 a w (hk.sub h4) hr ((ho.subP h5).XR h6.all)
def Ex2{α1:Type}{α2:Type}{p:α1×α2->Prop}(a1:α1)(a2:α2)(h:p (a1,a2)):∃s,p s:=⟨_,h⟩
def Ex4{α1:Type}{α2:Type}{α3:Type}{α4:Type}{p:α1×α2×α3×α4->Prop}(a1:α1)(a2:α2)(a3:α3)(a4:α4)(h:p (a1,a2,a3,a4)):∃s,p s:=⟨_,h⟩
def Ex7{α1:Type}{α2:Type}{α3:Type}{α4:Type}{α5:Type}{α6:Type}{α7:Type}{p:α1×α2×α3×α4×α5×α6×α7->Prop}(a1:α1)(a2:α2)(a3:α3)(a4:α4)(a5:α5)(a6:α6)(a7:α7)(h:p (a1,a2,a3,a4,a5,a6,a7)):∃s,p s:=⟨_,h⟩
def Ex9{α1:Type}{α2:Type}{α3:Type}{α4:Type}{α5:Type}{α6:Type}{α7:Type}{α8:Type}{α9:Type}{p:α1×α2×α3×α4×α5×α6×α7×α8×α9->Prop}(a1:α1)(a2:α2)(a3:α3)(a4:α4)(a5:α5)(a6:α6)(a7:α7)(a8:α8)(a9:α9)(h:p (a1,a2,a3,a4,a5,a6,a7,a8,a9)):∃s,p s:=⟨_,h⟩
end W
end
section
open W Go.RowKit
def nrm_take{l:List Int}{n:Nat}(hn:n<=l.length)(h:0<n->l.getD (n-1) 0≠0):Nrm (l.take n):=λh0=>by
 have e:(l.take n).length=n:=by simp;omega
 rw[e] at h0 ⊢;rw[Y3 qo];exact h h0
def Yw{l:List Int}{n:Nat}(hn:n<=l.length)(hz:∀j,n<=j->j<l.length->l.getD j 0=0):val (l.take n)=val l:=by
 have:∀k,n+k<=l.length->val (l.take (n+k))=val (l.take n):=λk=>by
  induction k with
  |zero=>intro _;rfl
  |succ k ih=>
   intro hk;rw[show n+(k+1)=(n+k)+1 by omega,Zf qo,hz (n+k) qo qo,ih qo];omega
 have:=this (l.length-n) qo;rw[show n+(l.length-n)=l.length by omega,List.take_length] at this;exact this.symm
def UQ{l:List Int}{n:Nat}(hd:Dg l)(hn:n<=l.length)(hz:∀j,n<=j->j<l.length->l.getD j 0=0)(h:0<n->l.getD (n-1) 0≠0):l.take n=Qx (val l).toNat:=by
 rw[<-Yw hn hz];exact digs_val (hd.take n) (nrm_take hn h)
attribute [local irreducible] WC WL WD YO LO Qq W.Fin Qk Qw Qj Row QJ Qv KnS Has W.One Qa Qs
def Yo(u:Value)(nb:Bool)(l:List Int)(z:Int)(hd:Dg l)(hz:z.natAbs=(val l).toNat)(hb:val l≠0->nb=decide (z<0)):FnB Tryz.prog 208 [.bool nb,u] [] [sI u l] (IsZ z):=by
 refine fO [(0,(.bool nb)),(1,u)] 29 Tryz.func208 Tryz.ntmps208 λh0=>?_;refine WC.K5 u l hmA λhlen=>?_;have hv0:=Qc hd;repeat'(first|intro(g:Nat)|refine gA ?_|intro v)
 refine WC.lp (σ:=Nat) (λn=>[(5,.int .i64 (n:Int)),(0,.bool nb),(1,u),(4,ptr g)]) (λ_=>[Ow.cells g 73 [.bool false,.slice none 0 0]]) (λ_=>[ge h0,sI u l]) (λn=>n<=l.length/\∀j,n<=j->j<l.length->l.getD j 0=0) (λn=>n) l.length ⟨by simp,λj h1 h2=>by omega⟩ ?_;rintro n ⟨hn,hzr⟩;by_cases h:0<n
 ·have e1:((n:Int)-1).toNat=n-1:=qo;by_cases h2:l.getD (n-1) 0=0
  ·have h3:l.getD ((n:Int)-1).toNat 0=0:=by rw[e1];exact h2
   repeat'(first|intro(g:Nat)|refine gA ?_|intro v)
   exact Qq.mk (n-1) ⟨by omega,λj h4 h5=>if hj:j=n-1 then hj ▸ h2 else hzr j qo h5⟩ qo (by rw[show((n-1:Nat):Int)=(n:Int)-1 by omega];exact suA)
  ·have h3:l.getD ((n:Int)-1).toNat 0≠0:=by rw[e1];exact h2
   have hc:=UQ hd hn hzr (λ_=>h2)
   have hvne:val l≠0:=λhv=>by
    rw[hv] at hc;have:(l.take n).length=n:=by simp;omega
    rw[hc] at this;simp[Jq] at this;omega
   repeat'(first|intro(g:Nat)|refine gA ?_|intro v)
   refine WL.QE (sI (resl3 u n n) (l.take n)) (Has.res3 hmA hn) ?_;rw[hc,<-hz];repeat'(first|intro(g:Nat)|refine gA ?_|intro v)
   refine WC.fact (isZ (.agg #[.bool nb,resl3 u n n]) z) (Jh (hb hvne) hmA) ?_;refine WC.ret ?_;exact Fp [isZ (.agg #[.bool nb,resl3 u n n]) z] (rcV T.r73) haA ⟨nb,_,rfl,hb hvne,rfl,rfl⟩
 ·obtain rfl:n=0:=qo;have hc:=UQ hd hn hzr (λh=>absurd h qo)
  have hv:val l=0:=by
   have:=Yw hn hzr;simpa [val] using this.symm
  have hz0:z=0:=by rw[hv] at hz;simp at hz;exact hz
  subst hz0;repeat'(first|intro(g:Nat)|refine gA ?_|intro v)
  refine WC.ret ?_;exact Fp [isZ (.agg #[.bool false,.slice none 0 0]) 0] (rcV T.r73) (.cons HE .nil) ⟨false,_,rfl,rfl,rfl,rfl⟩
end
end Go.Proofs.YtbnobghgnbockaaGreat
