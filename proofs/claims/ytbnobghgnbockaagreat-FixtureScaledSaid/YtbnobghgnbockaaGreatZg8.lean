/- Lemmas for a law. Conditions: none. -/
import Derived.Test.YtbnobghgnbockaaGreatZg6
set_option linter.all false
set_option maxHeartbeats 32000000
set_option maxRecDepth 100000
namespace Go.Proofs.YtbnobghgnbockaaGreat
open W Go.RowKit
section
attribute [local irreducible] WC WL WD YO LO Qq W.Fin Qv Qh Qj Row QV Qy KnS Has W.One Qp QJ
structure Bx(p:Prop):Prop where
 h:p
def gA{G G':Prop}(h:G')(s:Bx G'->G:=by
 intro h
 (first|refine go ?_|refine goX ?_|refine goB ?_|refine goG ?_|refine goV ?_|fail)
 exact Bx.h h):G:=s ⟨h⟩
def gB{G G':Prop}(h:G')(s:Bx G'->G:=by
 intro h
 (first|refine go ?_|refine goX ?_|refine goB ?_|refine goD ?_|refine goXD ?_|refine goG ?_|refine goDG ?_|refine goV ?_|refine goDV ?_|fail)
 exact Bx.h h):G:=s ⟨h⟩
def gM{G G':Prop}(h:G')(s:Bx G'->G:=by
 intro h
 (first|refine go ?_|refine goX ?_|refine goB ?_|refine goD ?_|refine goXD ?_|apply WD.VJ|refine WM.one qr qr qr ?_|refine WM.one0 qr qr ?_|refine goLS ?_|refine goG ?_|refine goDG ?_|refine goLG ?_|refine goV ?_|refine goDV ?_|refine goLV ?_|fail)
 exact Bx.h h):G:=s ⟨h⟩
def gY{G G':Prop}(h:G')(s:Bx G'->G:=by
 intro h
 (first|refine goLY ?_|refine goYB ?_|refine Z2 ?_|fail)
 exact Bx.h h):G:=s ⟨h⟩
def gN{G A B:Prop}(h1:A)(h2:B)(s:Bx A->Bx B->G:=by
 intro h1 h2
 (first|refine WM.more qr qr qr ?_ ?_|fail)
 exact Bx.h h1;exact Bx.h h2):G:=s ⟨h1⟩ ⟨h2⟩
def gE{G G':Prop}(h:G')(s:Bx G'->G:=by
 intro h
 (first|refine go ?_|refine goX ?_|refine goB ?_|refine goE ?_|refine goD ?_|refine goXD ?_|apply WD.VJ|refine WM.one qr qr qr ?_|refine WM.one0 qr qr ?_|refine goLS ?_|refine goG ?_|refine goEG ?_|refine goDG ?_|refine goLG ?_|refine goV ?_|refine goEV ?_|refine goDV ?_|refine goLV ?_|fail)
 exact Bx.h h):G:=s ⟨h⟩
def gF{G G':Prop}(h:G')(s:Bx G'->G:=by
 intro h
 (first|refine go ?_|refine goX ?_|refine goB ?_|refine goE ?_|refine goD ?_|refine goXD ?_|refine goG ?_|refine goEG ?_|refine goDG ?_|refine goV ?_|refine goEV ?_|refine goDV ?_|fail)
 exact Bx.h h):G:=s ⟨h⟩
def gP{G G':Prop}(h:G')(s:Bx G'->G:=by
 intro h
 (first|refine go ?_|refine goX ?_|refine goB ?_|refine goE ?_|refine goG ?_|refine goEG ?_|refine goV ?_|refine goEV ?_|fail)
 exact Bx.h h):G:=s ⟨h⟩
def cK{P:Program}{f:FuncId}{vs:List Value}{F':List Fct}{R:Qf}{G G':Prop}(hf:FnB P f vs [] F' R)(h:G')(s:FnB P f vs [] F' R->Bx G'->G:=by
 intro hf h;first|(refine WL.Q3 (hv:=?hvQ) hf ?_;(case hvQ=>(exact wq30;done));exact Bx.h h)|(refine WD.Q3 (hv:=?hvQ) hf ?_;(case hvQ=>(exact wq30;done));exact Bx.h h)|(refine LO.callM (hv:=?hvQ) hf ?_;(case hvQ=>(exact wq30;done));exact Bx.h h)|fail):G:=s hf ⟨h⟩
def cW{P:Program}{f:FuncId}{vs:List Value}{F':List Fct}{R:Qf}{M:Type}{G:Prop}{G':M->Prop}(hf:FnB P f vs [] F' R)(h:∀m,G' m)(s:FnB P f vs [] F' R->Bx (∀m,G' m)->G:=by
 intro hf h;first|(refine WL.Q3 (hv:=?hvQ) hf ?_;(case hvQ=>(exact wq30;done));rintro _ _ _ ⟨m,rfl,rfl,rfl⟩;simp only[List.nil_append,List.cons_append];exact Bx.h h m)|(refine WD.Q3 (hv:=?hvQ) hf ?_;(case hvQ=>(exact wq30;done));rintro _ _ _ ⟨m,rfl,rfl,rfl⟩;simp only[List.nil_append,List.cons_append];exact Bx.h h m)|(refine LO.callM (hv:=?hvQ) hf ?_;(case hvQ=>(exact wq30;done));rintro _ _ _ ⟨m,rfl,rfl,rfl⟩;simp only[List.nil_append,List.cons_append];exact Bx.h h m)|fail):G:=s hf ⟨h⟩
def sNn{G G':Prop}(h:G')(s:Bx G'->G:=by
 intro h;simp only[List.nil_append,List.cons_append];exact Bx.h h):G:=s ⟨h⟩
def cU{P:Program}{f:FuncId}{vs:List Value}{F':List Fct}{R:Qf}{G G':Prop}(hf:FnB P f vs [] F' R)(h:G')(s:FnB P f vs [] F' R->Bx G'->G:=by
 intro hf h;first|(refine WL.Q3 (hv:=?hvQ) hf ?_;(case hvQ=>(exact wq30;done));rintro _ _ _ ⟨rfl,rfl,rfl⟩;simp only[List.nil_append,List.cons_append];exact Bx.h h)|(refine WD.Q3 (hv:=?hvQ) hf ?_;(case hvQ=>(exact wq30;done));rintro _ _ _ ⟨rfl,rfl,rfl⟩;simp only[List.nil_append,List.cons_append];exact Bx.h h)|(refine LO.callM (hv:=?hvQ) hf ?_;(case hvQ=>(exact wq30;done));rintro _ _ _ ⟨rfl,rfl,rfl⟩;simp only[List.nil_append,List.cons_append];exact Bx.h h)|fail):G:=s hf ⟨h⟩
def cV{P:Program}{f:FuncId}{vs:List Value}{F':List Fct}{u:Value}{G G':Prop}(hf:FnB P f vs [] F' (IsV u))(h:G')(s:FnB P f vs [] F' (IsV u)->Bx G'->G:=by
 intro hf h;first|(refine WL.YM hf ?_;exact Bx.h h)|(refine WD.YM hf ?_;exact Bx.h h)|fail):G:=s hf ⟨h⟩
def Qn{α:Type}{p q:α->Prop}(h1:∀a,p a)(h2:∀a,q a):∀a,p a/\q a:=λa=>⟨h1 a,h2 a⟩
def meA{G:Prop}(h:G:=by first|((exact wq68);done)|fail):G:=h
def hmA{G:Prop}(h:G:=by first|(((focus(apply Has.mem;exact wq68;done)));done)|fail):G:=h
def sfA{G:Prop}(h:G:=by first|((repeat(first|exact Qw.nil|(apply Qw.cons;(focus(apply Has.mem;exact wq68;done)))));done)|fail):G:=h
def suA{G:Prop}(h:G:=by first|((repeat(first|exact Sub.nil _|refine Sub.cons rfl ?_));done)|fail):G:=h
def slA{G:Prop}(h:G:=by first|((repeat(first|exact wq10|apply List.Sublist.cons_cons|apply List.Sublist.cons));done)|fail):G:=h
def evA{G:Prop}(h:G:=by first|(exact wq30;done)|fail):G:=h
def seA{G:Prop}(h:G:=by first|((exact wq3);done)|fail):G:=h
def t0A{G:Prop}(h:G:=by first|(((first|exact T.f73_0|exact T.f73_1|exact T.f75_0|exact T.f75_1|exact T.f118_0|exact T.f118_1|exact T.f118_2|exact T.f122_0|exact T.f122_1|exact T.f122_2|exact T.f141_0|exact T.f141_1|exact T.f177_0|exact T.f177_1|exact T.f177_2|exact T.f177_3|exact T.f177_4|exact T.f177_5));done)|fail):G:=h
def t1A{G:Prop}(h:G:=by first|(((first|exact T.al3|exact T.al4|exact T.al61|exact T.al73|exact T.al75|exact T.al104|exact T.al118|exact T.al122|exact T.al141|exact T.al173));done)|fail):G:=h
def t2A{G:Prop}(h:G:=by first|((exact wq150);done)|fail):G:=h
def t3A{G:Prop}(h:G:=by first|(((first|exact T.z3|exact T.z28));done)|fail):G:=h
def t4A{G:Prop}(h:G:=by first|((exact wq144);done)|fail):G:=h
def t5A{G:Prop}(h:G:=by first|(((first|exact T.e28|exact T.e61|exact T.e104|exact T.e116|exact T.e175));done)|fail):G:=h
def t6A{G:Prop}(h:G:=by first|((exact wq73);done)|fail):G:=h
def t7A{G:Prop}(h:G:=by first|(((first|exact T.u3|exact T.u109));done)|fail):G:=h
def knA{G:Prop}(h:G:=by first|(((first|(focus(apply KnS.f;exact hmA;done))|(focus(apply KnS.oI;exact meA;done))|(focus(apply KnS.o1;exact meA;done))|(focus(apply KnS.zd;exact hmA;done))|(focus(apply KnS.q1;exact hmA;done))|(focus(apply KnS.q2;exact hmA;done))));done)|fail):G:=h
def hsA{G:Prop}(h:G:=by first|(((first|exact hmA|(focus(apply Jp;exact hmA;done))|(focus(apply FX;exact hmA;done))|exact FZ|exact Y7|(focus(apply QH;exact hmA;done))|(focus(apply hasQ_d1;exact hmA;done))|(focus(apply KT;exact hmA;done))));done)|fail):G:=h
def haA{G:Prop}(h:G:=by first|((repeat(first|exact Qw.nil|(apply Qw.cons;exact hsA)));done)|fail):G:=h
def ltA{G:Prop}(h:G:=by first|(((first|exact wq1|(apply Or.inl;kernel_rfl)));done)|fail):G:=h
def onA{G:Prop}(h:G:=by first|(((first|exact K4 _|(intro u hu;simp only[List.mem_cons,List.not_mem_nil,or_false] at hu;first|(subst hu;rfl)|(rcases hu with rfl|rfl|rfl<;>rfl))));done)|fail):G:=h
def leA{G:Prop}(h:G:=by first|(((simp only[List.length_map,List.length_append,List.length_cons,List.length_nil,List.length_replicate,List.length_take];omega));done)|fail):G:=h
def Jd{G:Prop}(h:G:=by first|((exact wq146);done)|fail):G:=h
def Zv{G:Prop}(h:G:=by first|((exact wq152);done)|fail):G:=h
def X1{G:Prop}(h:G:=by first|((exact wq13);done)|fail):G:=h
def Kg{G:Prop}(h:G:=by first|((exact wq22);done)|fail):G:=h
def XG{G:Prop}(h:G:=by first|(((first|(apply YO.buildZ;exact rfl;exact rfl;exact knA)|exact YO.buildZ0|exact YO.buildQ0|(apply YO.buildQ1;exact rfl)|(apply YO.buildQ2;exact rfl;exact rfl)));done)|fail):G:=h
def Jw{G:Prop}(h:G:=by first|(((first|(apply YO.J3;exact t0A;exact rfl)|(apply YO.Jb;exact t0A;exact rfl;exact wq2)));done)|fail):G:=h
def Us{G:Prop}(h:G:=by first|(((apply YO.len;exact t6A;exact rfl;exact knA));done)|fail):G:=h
def U5{G:Prop}(h:G:=by first|((exact wq31);done)|fail):G:=h
def UJ{G:Prop}(h:G:=by first|(((first|(first|(apply YO.neq_t;exact rfl;exact rfl;omega)|(apply YO.neq_f;exact rfl;exact rfl;omega))|(apply YO.bne_t;exact X9;exact rfl;exact rfl;exact wq153)|(apply YO.bne_f;exact X9;exact rfl;exact rfl;exact wq153)));done)|fail):G:=h
def Xl{G:Prop}(h:G:=by first|(((apply YO.makeFunc;exact wq30;exact wq30));done)|fail):G:=h
def UX{G:Prop}(h:G:=by first|(((first|exact wq51|(apply YO.uquo;exact rfl;exact rfl;omega;omega;omega)));done)|fail):G:=h
def HS{G:Prop}(h:G:=by first|(((first|(apply YO.and1;exact rfl;exact rfl;omega;omega)|(apply YO.and;exact rfl;exact rfl;omega;omega;omega;omega)));done)|fail):G:=h
def UQ{G:Prop}(h:G:=by first|(((first|exact wq34|(apply YO.umul;exact rfl;exact rfl;omega;omega)));done)|fail):G:=h
def UZ{G:Prop}(h:G:=by first|(((first|exact wq74|(apply YO.urem;exact rfl;exact rfl;omega;omega)));done)|fail):G:=h
def Uo{G:Prop}(h:G:=by first|(((first|(apply YO.inc;exact rfl;exact rfl;omega)|(apply YO.add;exact rfl;exact rfl;omega;omega)));done)|fail):G:=h
def Ut{G:Prop}(h:G:=by first|(((first|(apply YO.lss_t;exact rfl;exact rfl;omega)|(apply YO.lss_f;exact rfl;exact rfl;omega)));done)|fail):G:=h
def Ur{G:Prop}(h:G:=by first|(((first|(apply YO.gtr_t;exact rfl;exact rfl;omega)|(apply YO.gtr_f;exact rfl;exact rfl;omega)));done)|fail):G:=h
def Up{G:Prop}(h:G:=by first|(((first|(apply YO.geq_t;exact rfl;exact rfl;omega)|(apply YO.geq_f;exact rfl;exact rfl;omega)));done)|fail):G:=h
def HT{G:Prop}(h:G:=by first|(((first|(apply YO.leq_t;exact rfl;exact rfl;omega)|(apply YO.leq_f;exact rfl;exact rfl;omega)));done)|fail):G:=h
def Kd{G:Prop}(h:G:=by first|((exact wq98);done)|fail):G:=h
def Zu{G:Prop}(h:G:=by first|(((first|(apply YO.neg;exact rfl;omega;omega)|(apply YO.uneg;exact rfl;omega;omega)));done)|fail):G:=h
def Zy{G:Prop}(h:G:=by first|(((first|(apply YO.pick_t;exact rfl;exact rfl)|(apply YO.pick_f;exact rfl;exact rfl)));done)|fail):G:=h
def Zh{G:Prop}(h:G:=by first|(((first|(apply YO.not_t;exact rfl)|(apply YO.not_f;exact rfl)));done)|fail):G:=h
def y_or{G:Prop}(h:G:=by first|(((apply YO.or;exact rfl;exact rfl;omega;omega;omega;omega));done)|fail):G:=h
def go{G G':Prop}(h:G')(s:Bx G'->G:=by
 intro h
 (first|apply WL.nil|(apply WL.skg;exact rfl;exact rfl)|(apply WL.Hy;exact wq141;exact rfl;exact rfl)|(apply WL.Yp;exact wq57;exact rfl;exact rfl)|(apply WL.k_lss;exact Ut;exact rfl;exact rfl)|(apply WL.k_add;exact Uo;exact rfl;exact rfl)|(apply WL.Hw;exact Us;exact rfl;exact rfl)|(apply WL.JK;exact Jd;exact rfl;exact rfl)|(apply WL.Y8;exact Zv;exact rfl;exact rfl)|(apply WL.Hu;exact Zy;exact rfl;exact rfl)|(apply WL.JZ;exact Jw;exact rfl;exact rfl)|(apply WL.Hk;exact Kg;exact rfl;exact rfl)|(apply WL.Zs;exact UJ;exact rfl;exact rfl)|(apply WL.k_nil;exact wq151;exact rfl;exact rfl)|(apply WL.YR;exact wq37;exact rfl;exact rfl)|(apply WL.k_gtr;exact Ur;exact rfl;exact rfl)|(apply WL.k_geq;exact Up;exact rfl;exact rfl)|(apply WL.k_leq;exact HT;exact rfl;exact rfl)|(apply WL.k_sub;exact wq39;exact rfl;exact rfl)|(apply WL.YW;exact UQ;exact rfl;exact rfl)|(apply WL.K5;exact UZ;exact rfl;exact rfl)|(apply WL.Zt;exact UX;exact rfl;exact rfl)|(apply WL.Hf;exact Zh;exact rfl;exact rfl)|(apply WL.Hg;exact Zu;exact rfl;exact rfl)|(apply WL.k_max;(apply YO.max;exact rfl;exact rfl);exact rfl;exact rfl)|(apply WL.k_min;(apply YO.min;exact rfl;exact rfl);exact rfl;exact rfl)|(apply WL.Hv;exact Xl;exact rfl;exact rfl)|(apply WL.Ko;exact U5;exact rfl;exact rfl)|(apply WL.Hh;exact Kd;exact rfl;exact rfl)|(apply WL.k_shr;exact wq138;exact rfl;exact rfl)|(apply WL.k_and;exact HS;exact rfl;exact rfl)|(apply WL.YV;exact X1;exact rfl;exact rfl)|(apply WL.Yu;exact XG;exact rfl;exact rfl)|apply WC.seq|apply WC.region|apply WC.block|(apply WC.cond_t;exact rfl)|(apply WC.cond_f;exact rfl)|apply WC.exit|apply WC.skip|apply WC.label|(apply WL.Jc;rotate_left;exact rfl;(first|(apply LO.XY;exact rfl;exact rfl;exact t3A;exact seA;exact wq27)|(apply LO.XV;exact rfl;exact rfl;exact t3A;exact wq7;exact seA;exact wq12;exact wq11)|(apply LO.JB;exact rfl;exact rfl;exact t3A;exact wq7;exact seA;exact wq12;exact wq11)|(apply LO.YJ;exact rfl;exact rfl;exact seA;exact t4A;exact rfl;exact rfl;exact wq125))))
 repeat(first|apply WL.nil|(apply WL.skg;exact rfl;exact rfl)|(apply WL.Hy;exact wq141;exact rfl;exact rfl)|(apply WL.Yp;exact wq57;exact rfl;exact rfl)|(apply WL.k_lss;exact Ut;exact rfl;exact rfl)|(apply WL.k_add;exact Uo;exact rfl;exact rfl)|(apply WL.Hw;exact Us;exact rfl;exact rfl)|(apply WL.JK;exact Jd;exact rfl;exact rfl)|(apply WL.Y8;exact Zv;exact rfl;exact rfl)|(apply WL.Hu;exact Zy;exact rfl;exact rfl)|(apply WL.JZ;exact Jw;exact rfl;exact rfl)|(apply WL.Hk;exact Kg;exact rfl;exact rfl)|(apply WL.Zs;exact UJ;exact rfl;exact rfl)|(apply WL.k_nil;exact wq151;exact rfl;exact rfl)|(apply WL.YR;exact wq37;exact rfl;exact rfl)|(apply WL.k_gtr;exact Ur;exact rfl;exact rfl)|(apply WL.k_geq;exact Up;exact rfl;exact rfl)|(apply WL.k_leq;exact HT;exact rfl;exact rfl)|(apply WL.k_sub;exact wq39;exact rfl;exact rfl)|(apply WL.YW;exact UQ;exact rfl;exact rfl)|(apply WL.K5;exact UZ;exact rfl;exact rfl)|(apply WL.Zt;exact UX;exact rfl;exact rfl)|(apply WL.Hf;exact Zh;exact rfl;exact rfl)|(apply WL.Hg;exact Zu;exact rfl;exact rfl)|(apply WL.k_max;(apply YO.max;exact rfl;exact rfl);exact rfl;exact rfl)|(apply WL.k_min;(apply YO.min;exact rfl;exact rfl);exact rfl;exact rfl)|(apply WL.Hv;exact Xl;exact rfl;exact rfl)|(apply WL.Ko;exact U5;exact rfl;exact rfl)|(apply WL.Hh;exact Kd;exact rfl;exact rfl)|(apply WL.k_shr;exact wq138;exact rfl;exact rfl)|(apply WL.k_and;exact HS;exact rfl;exact rfl)|(apply WL.YV;exact X1;exact rfl;exact rfl)|(apply WL.Yu;exact XG;exact rfl;exact rfl)|apply WC.seq|apply WC.region|apply WC.block|(apply WC.cond_t;exact rfl)|(apply WC.cond_f;exact rfl)|apply WC.exit|apply WC.skip|apply WC.label|(apply WL.Jc;rotate_left;exact rfl;(first|(apply LO.XY;exact rfl;exact rfl;exact t3A;exact seA;exact wq27)|(apply LO.XV;exact rfl;exact rfl;exact t3A;exact wq7;exact seA;exact wq12;exact wq11)|(apply LO.JB;exact rfl;exact rfl;exact t3A;exact wq7;exact seA;exact wq12;exact wq11)|(apply LO.YJ;exact rfl;exact rfl;exact seA;exact t4A;exact rfl;exact rfl;exact wq125))))
 exact Bx.h h):G:=s ⟨h⟩
def goD{G G':Prop}(h:G')(s:Bx G'->G:=by
 intro h
 (first|apply WD.nil|(apply WD.skg;exact rfl;exact rfl;exact rfl)|(apply WD.skgl;exact rfl;exact rfl;exact rfl)|(apply WD.Hy;exact rfl;exact wq141;exact rfl;exact rfl)|(apply WD.Yp;exact rfl;exact wq57;exact rfl;exact rfl)|(apply WD.k_lss;exact rfl;exact Ut;exact rfl;exact rfl)|(apply WD.k_add;exact rfl;exact Uo;exact rfl;exact rfl)|(apply WD.Hw;exact rfl;exact Us;exact rfl;exact rfl)|(apply WD.JK;exact rfl;exact Jd;exact rfl;exact rfl)|(apply WD.Y8;exact rfl;exact Zv;exact rfl;exact rfl)|(apply WD.Hu;exact rfl;exact Zy;exact rfl;exact rfl)|(apply WD.JZ;exact rfl;exact Jw;exact rfl;exact rfl)|(apply WD.Hk;exact rfl;exact Kg;exact rfl;exact rfl)|(apply WD.Zs;exact rfl;exact UJ;exact rfl;exact rfl)|(apply WD.k_nil;exact rfl;exact wq151;exact rfl;exact rfl)|(apply WD.YR;exact rfl;exact wq37;exact rfl;exact rfl)|(apply WD.k_gtr;exact rfl;exact Ur;exact rfl;exact rfl)|(apply WD.k_geq;exact rfl;exact Up;exact rfl;exact rfl)|(apply WD.k_sub;exact rfl;exact wq39;exact rfl;exact rfl)|(apply WD.YW;exact rfl;exact UQ;exact rfl;exact rfl)|(apply WD.K5;exact rfl;exact UZ;exact rfl;exact rfl)|(apply WD.Zt;exact rfl;exact UX;exact rfl;exact rfl)|(apply WD.Hf;exact rfl;exact Zh;exact rfl;exact rfl)|(apply WD.Hg;exact rfl;exact Zu;exact rfl;exact rfl)|(apply WD.Ko;exact rfl;exact U5;exact rfl;exact rfl)|(apply WD.Hh;exact rfl;exact Kd;exact rfl;exact rfl)|(apply WD.YV;exact rfl;exact X1;exact rfl;exact rfl)|(apply WD.Yu;exact rfl;exact XG;exact rfl;exact rfl)|(apply WD.Jc;exact rfl;rotate_left;exact rfl;(first|(apply LO.XY;exact rfl;exact rfl;exact t3A;exact seA;exact wq27)|(apply LO.XV;exact rfl;exact rfl;exact t3A;exact wq7;exact seA;exact wq12;exact wq11)|(apply LO.JB;exact rfl;exact rfl;exact t3A;exact wq7;exact seA;exact wq12;exact wq11)|(apply LO.YJ;exact rfl;exact rfl;exact seA;exact t4A;exact rfl;exact rfl;exact wq125));constructor;exact ltA))
 repeat(first|apply WD.nil|(apply WD.skg;exact rfl;exact rfl;exact rfl)|(apply WD.skgl;exact rfl;exact rfl;exact rfl)|(apply WD.Hy;exact rfl;exact wq141;exact rfl;exact rfl)|(apply WD.Yp;exact rfl;exact wq57;exact rfl;exact rfl)|(apply WD.k_lss;exact rfl;exact Ut;exact rfl;exact rfl)|(apply WD.k_add;exact rfl;exact Uo;exact rfl;exact rfl)|(apply WD.Hw;exact rfl;exact Us;exact rfl;exact rfl)|(apply WD.JK;exact rfl;exact Jd;exact rfl;exact rfl)|(apply WD.Y8;exact rfl;exact Zv;exact rfl;exact rfl)|(apply WD.Hu;exact rfl;exact Zy;exact rfl;exact rfl)|(apply WD.JZ;exact rfl;exact Jw;exact rfl;exact rfl)|(apply WD.Hk;exact rfl;exact Kg;exact rfl;exact rfl)|(apply WD.Zs;exact rfl;exact UJ;exact rfl;exact rfl)|(apply WD.k_nil;exact rfl;exact wq151;exact rfl;exact rfl)|(apply WD.YR;exact rfl;exact wq37;exact rfl;exact rfl)|(apply WD.k_gtr;exact rfl;exact Ur;exact rfl;exact rfl)|(apply WD.k_geq;exact rfl;exact Up;exact rfl;exact rfl)|(apply WD.k_sub;exact rfl;exact wq39;exact rfl;exact rfl)|(apply WD.YW;exact rfl;exact UQ;exact rfl;exact rfl)|(apply WD.K5;exact rfl;exact UZ;exact rfl;exact rfl)|(apply WD.Zt;exact rfl;exact UX;exact rfl;exact rfl)|(apply WD.Hf;exact rfl;exact Zh;exact rfl;exact rfl)|(apply WD.Hg;exact rfl;exact Zu;exact rfl;exact rfl)|(apply WD.Ko;exact rfl;exact U5;exact rfl;exact rfl)|(apply WD.Hh;exact rfl;exact Kd;exact rfl;exact rfl)|(apply WD.YV;exact rfl;exact X1;exact rfl;exact rfl)|(apply WD.Yu;exact rfl;exact XG;exact rfl;exact rfl)|(apply WD.Jc;exact rfl;rotate_left;exact rfl;(first|(apply LO.XY;exact rfl;exact rfl;exact t3A;exact seA;exact wq27)|(apply LO.XV;exact rfl;exact rfl;exact t3A;exact wq7;exact seA;exact wq12;exact wq11)|(apply LO.JB;exact rfl;exact rfl;exact t3A;exact wq7;exact seA;exact wq12;exact wq11)|(apply LO.YJ;exact rfl;exact rfl;exact seA;exact t4A;exact rfl;exact rfl;exact wq125));constructor;exact ltA))
 exact Bx.h h):G:=s ⟨h⟩
def goG{G G':Prop}(h:G')(s:Bx G'->G:=by
 intro h
 (first|(apply WL.XX;rotate_left;exact rfl;exact rfl;apply LO.X8;(first|exact t1A))|(apply WL.kl_box;rotate_left;exact rfl;exact rfl;(first|(apply LO.boxA;exact rfl)|(apply LO.box1;exact rfl;exact wq7))))
 exact Bx.h h):G:=s ⟨h⟩
def goV{G G':Prop}(h:G')(s:Bx G'->G:=by
 intro h
 (first|(apply WL.K6;rotate_left;exact rfl;exact rfl;(apply LO.makeI;exact rfl;exact rfl;(repeat(first|(with_reducible apply Q9.add)|(with_reducible exact Q9.one)|exact Q9.cast _));omega))|(apply WL.JW;rotate_left;exact rfl;exact rfl;apply LO.bs1;exact t6A;exact wq84;(intro _;kernel_rfl);exact rfl;omega)|(apply WL.Jy;rotate_left;exact rfl;exact rfl;apply LO.app;exact t5A;exact rfl;exact rfl;exact wq47;(intro v;exact seA);exact onA;exact leA;exact leA))
 exact Bx.h h):G:=s ⟨h⟩
def goDG{G G':Prop}(h:G')(s:Bx G'->G:=by
 intro h
 (first|(apply WD.XX;exact rfl;rotate_left;exact rfl;exact rfl;apply LO.X8;(first|exact t1A);apply Qn;(intro _;exact ltA)))
 exact Bx.h h):G:=s ⟨h⟩
def goDV{G G':Prop}(h:G')(s:Bx G'->G:=by
 intro h
 (first|(apply WD.K6;exact rfl;rotate_left;exact rfl;exact rfl;(apply LO.makeI;exact rfl;exact rfl;(repeat(first|(with_reducible apply Q9.add)|(with_reducible exact Q9.one)|exact Q9.cast _));omega);apply Qn;(intro _;exact ltA))|(apply WD.JW;exact rfl;rotate_left;exact rfl;exact rfl;apply LO.bs1;exact t6A;exact wq84;(intro _;kernel_rfl);exact rfl;omega;apply Qn;(intro _;exact ltA))|(apply WD.Jy;exact rfl;rotate_left;exact rfl;exact rfl;apply LO.app;exact t5A;exact rfl;exact rfl;exact wq47;(intro v;exact seA);exact onA;exact leA;exact leA;apply Qn;(intro _;exact ltA)))
 exact Bx.h h):G:=s ⟨h⟩
def goLG{G G':Prop}(h:G')(s:Bx G'->G:=by
 intro h
 (first|(apply LO.X8;(first|exact t1A);apply Qn;(intro _;exact ltA))|((first|(apply LO.boxA;exact rfl)|(apply LO.box1;exact rfl;exact wq7));apply Qn;(intro _;exact ltA)))
 exact Bx.h h):G:=s ⟨h⟩
def goLV{G G':Prop}(h:G')(s:Bx G'->G:=by
 intro h
 (first|(apply LO.bs1;exact t6A;exact wq84;(intro _;kernel_rfl);exact rfl;omega;apply Qn;(intro _;exact ltA))|(apply LO.app;exact t5A;exact rfl;exact rfl;exact wq47;(intro v;exact seA);exact onA;exact leA;exact leA;apply Qn;(intro _;exact ltA))|((apply LO.makeI;exact rfl;exact rfl;(repeat(first|(with_reducible apply Q9.add)|(with_reducible exact Q9.one)|exact Q9.cast _));omega);apply Qn;(intro _;exact ltA)))
 exact Bx.h h):G:=s ⟨h⟩
def goLS{G G':Prop}(h:G')(s:Bx G'->G:=by
 intro h
 (first|((first|(apply LO.XY;exact rfl;exact rfl;exact t3A;exact seA;exact wq27)|(apply LO.XV;exact rfl;exact rfl;exact t3A;exact wq7;exact seA;exact wq12;exact wq11)|(apply LO.JB;exact rfl;exact rfl;exact t3A;exact wq7;exact seA;exact wq12;exact wq11)|(apply LO.YJ;exact rfl;exact rfl;exact seA;exact t4A;exact rfl;exact rfl;exact wq125));constructor;exact ltA))
 exact Bx.h h):G:=s ⟨h⟩
section
variable {P:Program}{n:Nat}{L rest:List Oper}{e:Env}{bx b0:List Ow}{F F0:List Fct}{Q:Env->List Ow->List Fct->Prop}{d i:Nat}{ty:TypeId}{pos:String}{af:Array Edge}{g:Option (Nat×Bool)}{hs:List Nat}{r:Plan}
 {f:FuncId} {x:Operand} {args:List Operand} {ats:Array TypeId} {vs cs:List Value} {F':List Fct} {u:Value} {el sz:Nat}
def WL.YM(hf:FnB P f vs [] F' (IsV u))(hK:WL P n L rest ((d,u)::e) bx F Q)(hx:ev e x=some (.func (.func f) #[] #[]):=by exact rfl)(hv:Evs e args vs:=by repeat(first|exact Evs.nil|(apply Evs.cons;exact rfl)))(hF:QZ bx F F':=by repeat(first|exact QZ.nil|(apply QZ.cons;exact wq29)))
  (hd:Nat.blt d n=true:=by exact rfl) (hg:gok L e g=some true:=by exact rfl):WL P n L (⟨some d,.call {callee:=.value x,args:=args.toArray,argTypes:=ats},ty,pos,af,g⟩::rest) e bx F Q:=
 WL.l hd hg (LO.UU hx hv hf hF hK)
def WD.YM(hf:FnB P f vs [] F' (IsV u))(hK:WD P n L hs b0 F0 r ((d,u)::e) bx F Q)(hL:L[i]?=some ⟨some d,.call {callee:=.value x,args:=args.toArray,argTypes:=ats},ty,pos,af,g⟩:=by exact rfl)(hx:ev e x=some (.func (.func f) #[] #[]):=by exact rfl)(hv:Evs e args vs:=by repeat(first|exact Evs.nil|(apply Evs.cons;exact rfl)))(hF:QZ bx F F':=by repeat(first|exact QZ.nil|(apply QZ.cons;exact wq29)))
  (hd:Nat.blt d n=true:=by exact rfl) (hg:gok L e g=some true:=by exact rfl) (lt:QR L hs i=true\/(b0.Sublist bx/\∀f∈F0,f∈F):=by exact ltA):WD P n L hs b0 F0 (.loud i r) e bx F Q:=
 WD.l hL hd hg (LO.UU hx hv hf hF ⟨lt,hK⟩)
end
end
namespace W
inductive Rem:List Ow->Ow->List Ow->Prop where
 |head {b:Ow} {l:List Ow}:Rem (b::l) b l
 |tail {b c:Ow} {l l':List Ow}:Rem l b l'->Rem (c::l) b (c::l')
def Rem.perm{l l':List Ow}{b:Ow}(h:Rem l b l'):l.Perm (b::l'):=by
 induction h with
 |head=>exact .refl _
 |tail _ ih=>exact(ih.cons _).trans (.swap _ _ _)
section
variable {P:Program}{n:Nat}{L rest:List Oper}{e:Env}{bx bx' b0 ba br:List Ow}{F F0 F':List Fct}{c:Code}{g:Nat}{t:TypeId}{cs:List Value}{hs:List Nat}{r:Plan}
def OK.keep{fr:CF}{w:World}(h:OK fr bx F w)(hr:Rem bx (.cells g t cs) bx'):OK fr bx' (ce g t cs::F) w:=by
 have hp:=h.perm hr.perm;have hd:OK fr bx' F w:=hp.drop (List.sublist_cons_self _ _);refine hd.add (f:=ce g t cs) ?_;have hh:=hp.owns _ List.mem_cons_self;have hnd:=hp.nodup;have hap:=hp.apart g (by simp[ids,Ow.ids]);simp only[ids,List.flatMap_cons,Ow.ids,List.singleton_append,List.nodup_cons] at hnd;show(if((fr.fr g).isSome ||(ids bx').contains g)=true then none else fr.see w.heap g)=_;rw[if_neg,CF.Yz (.inl hap.1)]
 .exact hh
 .simp only[hap.2,Option.isSome_none,Bool.false_or,List.contains_iff_mem];exact hnd.1
def WL.keep{Q:Env->List Ow->List Fct->Prop}(hr:Rem bx (.cells g t cs) bx')(h:WL P n L rest e bx' (ce g t cs::F) Q):WL P n L rest e bx F Q:=λfr w0 a w Q' hQ hk hrr ho=>h fr w0 a w Q' hQ hk hrr (ho.keep hr)
def WC.keep{Q:Post}(hr:Rem bx (.cells g t cs) bx')(h:WC P n c e bx' (ce g t cs::F) Q):WC P n c e bx F Q:=λfr w0 a w hk hrr ho=>h fr w0 a w hk hrr (ho.keep hr)
variable {f:FuncId}{x:Operand}{args:List Operand}{ats:Array TypeId}{vs first cap:List Value}{R:Qf}{Q:Env->List Ow->List Fct->Prop}{d:Nat}{ty:TypeId}{pos:String}{af:Array Edge}{gd:Option (Nat×Bool)}
def WL.Zg(ba br:List Ow)(hp:bx.Perm (ba++br))(hf:FnB P f vs ba F' R)(hK:∀v b G,R v b G->WL P n L rest ((d,v)::e) (b++br) (G++F) Q)(hx:ev e x=some (.func (.func f) #[] #[]):=by exact rfl)(hv:Evs e args vs:=by repeat(first|exact Evs.nil|(apply Evs.cons;exact rfl)))(hF:Qw F F':=by repeat(first|exact Qw.nil|(apply Qw.cons;exact hsA)))
  (hd:Nat.blt d n=true:=by exact rfl) (hg:gok L e gd=some true:=by exact rfl):WL P n L (⟨some d,.call {callee:=.value x,args:=args.toArray,argTypes:=ats},ty,pos,af,gd⟩::rest) e bx F Q:=
 WL.l hd hg (LO.call (first:=[]) (cap:=[]) hx hv ba br hp (by simpa using hf) hF.all hK)
def WL.Q3(hf:FnB P f vs [] F' R)(hK:∀v b G,R v b G->WL P n L rest ((d,v)::e) (b++bx) (G++F) Q)(hx:ev e x=some (.func (.func f) #[] #[]):=by exact rfl)(hv:Evs e args vs:=by repeat(first|exact Evs.nil|(apply Evs.cons;exact rfl)))(hF:Qw F F':=by repeat(first|exact Qw.nil|(apply Qw.cons;exact hsA)))
  (hd:Nat.blt d n=true:=by exact rfl) (hg:gok L e gd=some true:=by exact rfl):WL P n L (⟨some d,.call {callee:=.value x,args:=args.toArray,argTypes:=ats},ty,pos,af,gd⟩::rest) e bx F Q:=
 WL.l hd hg (LO.call (first:=[]) (cap:=[]) hx hv [] bx (.refl _) (by simpa using hf) hF.all hK)
def WD.Q3{i:Nat}(hf:FnB P f vs [] F' R)(hK:∀v b G,R v b G->WD P n L hs b0 F0 r ((d,v)::e) (b++bx) (G++F) Q)(hL:L[i]?=some ⟨some d,.call {callee:=.value x,args:=args.toArray,argTypes:=ats},ty,pos,af,gd⟩:=by exact rfl)(hx:ev e x=some (.func (.func f) #[] #[]):=by exact rfl)(hv:Evs e args vs:=by repeat(first|exact Evs.nil|(apply Evs.cons;exact rfl)))(hF:Qw F F':=by repeat(first|exact Qw.nil|(apply Qw.cons;exact hsA)))
  (hd:Nat.blt d n=true:=by exact rfl) (hg:gok L e gd=some true:=by exact rfl) (lt:QR L hs i=true\/(b0.Sublist bx/\∀f∈F0,f∈F):=by(first|exact wq1|(apply Or.inl;kernel_rfl))):WD P n L hs b0 F0 (.loud i r) e bx F Q:=
 WD.l hL hd hg (LO.call (first:=[]) (cap:=[]) hx hv [] bx (.refl _) (by simpa using hf) hF.all λv b G hR=>⟨lt.imp id λh=>⟨h.1.trans (List.sublist_append_right _ _),λf hf=>List.mem_append_right _ (h.2 f hf)⟩,hK v b G hR⟩)
def LO.callM{i:Nat}(hf:FnB P f vs [] F' R)(hK:∀v b G,R v b G->WD P n L hs b0 F0 r ((d,v)::e) (b++bx) (G++F) Q)(hx:ev e x=some (.func (.func f) #[] #[]):=by exact rfl)(hv:Evs e args vs:=by repeat(first|exact Evs.nil|(apply Evs.cons;exact rfl)))(hF:Qw F F':=by repeat(first|exact Qw.nil|(apply Qw.cons;exact hsA)))
  (lt:QR L hs i=true\/(b0.Sublist bx/\∀f∈F0,f∈F):=by(first|exact wq1|(apply Or.inl;kernel_rfl))):LO P (.call {callee:=.value x,args:=args.toArray,argTypes:=ats}) ty e bx F λv bx' F'=>(QR L hs i=true\/(b0.Sublist bx'/\∀f∈F0,f∈F'))/\WD P n L hs b0 F0 r ((d,v)::e) bx' F' Q:=
 LO.call (first:=[]) (cap:=[]) hx hv [] bx (.refl _) (by simpa using hf) hF.all λv b G hR=>⟨lt.imp id λh=>⟨h.1.trans (List.sublist_append_right _ _),λf hf=>List.mem_append_right _ (h.2 f hf)⟩,hK v b G hR⟩
end
section
variable {P:Program}{n:Nat}{L:List Oper}{e:Env}{bx b0:List Ow}{F F0:List Fct}{hs:List Nat}{r s:Plan}{Q:Env->List Ow->List Fct->Prop}{i j:Nat}
def loud_y{fr fr0:CF}{w0:World}{listed:Array Bool}{a:Act}{w:World}{f':Nat}{Q':Bk->Exit->Act->World->Prop}{v:Value}{e':Env}(o:Oper)(hL:L[i]?=some o)(hle:fr0.le fr)
  (hP:∀own a x y,Q' own .normal a x->Rly own fr.sh x y->Q' own .normal a y) (hns:Region.noSelect L.toArray=true) (hc:chk L hs r (listed.setIfInBounds i true)=true) (hd:Down L.toArray listed) (hri:i∈Region.ready .any L.toArray listed)
  (hQ:∀fr' a' w' e' bx' F',fr.le fr'->Kn fr'.ds n a' e'->Rest w0 w'->OK fr' bx' F' w'->Q e' bx' F'->Q' fr'.own .normal a' w') (hS:(∃i∈hs,listed.getD i true=false)->OK fr b0 F0 w)
  (hk:Kn fr.ds n a e) (hr:Rest w0 w) (ho:OK fr bx F w) (hf:r.len<=f')
  (hg:gok L e o.guard=some true) (hy:YO P o.op o.type e bx F v) (he':Kn fr.ds n (a.put o.dst v) e') (h:WD P n L hs b0 F0 r e' bx F Q) :
  OpR P fr.main fr.sh L.toArray i (λx own' a' w'=>(QR L hs i=false->SR fr0 b0 F0 fr.own x->SR fr0 b0 F0 own' w')/\YD P fr.main fr.sh L.toArray Q' (SR fr0 b0 F0) (QR L hs) f' (listed.setIfInBounds i true) own' a' w') fr.own a w:=by
 have hun:=(mem_ready.1 hri).1;have hlist:(∃j∈hs,(listed.setIfInBounds i true).getD j true=false)->∃j∈hs,listed.getD j true=false:=λ⟨j,hj,hjl⟩=>⟨j,hj,getD_some hun j hjl⟩
 unfold OpR;have hLa:L.toArray[i]?=some o:=by simpa using hL
 simp only[hLa];rw[if_pos (Jx hk hg)];intro w1 hw1;have ho1:=ho.rely hw1;have hv:=hy n fr a w1 o rfl rfl hk ho1;rw[hv.1];refine .inl ⟨.look hv.2,?_⟩;rw[Qt (Nat.le_refl _)];exact⟨λ_ h=>h,h fr w0 _ (a.put o.dst v) w1 f' Q' hP hns hc (hd.set hri) hQ (λhx=>(hS (hlist hx)).rely hw1) he' (hr.trans hw1.rest) ho1 hf fr0 hle⟩
variable {d:Nat}{op:Op}{ty:TypeId}{pos:String}{af:Array Edge}{g:Option (Nat×Bool)}{v:Value}
def WD.yl(hL:L[i]?=some ⟨some d,op,ty,pos,af,g⟩)(hy:YO P op ty e bx F v)(hd:Nat.blt d n=true)(hg:gok L e g=some true)(h:WD P n L hs b0 F0 r ((d,v)::e) bx F Q):WD P n L hs b0 F0 (.loud i r) e bx F Q:=λfr w0 listed a w fuel Q' hP hns hc hdn hQ hS hk hr ho hf fr0 hle=>by
 simp only[chk,Bool.and_eq_true,beq_iff_eq] at hc;obtain⟨h1,h2⟩:=hc;obtain⟨f',rfl⟩:∃f',fuel=f'+1:=⟨fuel-1,by simp[Plan.len] at hf;omega⟩
 refine⟨λh0=>(by rw[h0] at h1;cases h1),λj hj=>?_⟩;rw[h1] at hj;simp at hj;subst hj;exact loud_y _ hL hle hP hns h2 hdn (by rw[h1];simp) hQ hS hk hr ho wq66 hg hy (hk.put hd v) h
def WC.V3{id:Nat}{Q:Post}(b0:List Ow)(hb:b0.Sublist bx)(hs:List Nat)(p:Plan)(hm:P.follows .mixedOrders=true)(hc:(Region.noSelect L.toArray && (chk L hs p (Array.replicate L.length false) && Nat.ble p.len L.length))=true)
  (h:WD P n L hs b0 F p e bx F (Q .normal)):WC P n (.region id L.toArray true) e bx F Q:=λfr w0 a w hk hr ho=>by
 simp only[Bool.and_eq_true] at hc;refine U4 (HR hm λw1 h1 t=>?_);have ho1:OK fr bx F {w1 with drawn:=w1.drawn+1}:=(ho.rely h1).drawn _;refine Kc L.toArray.size t _ _ _ _ (S:=SR fr b0 F) (late:=QR L hs) ?_;have:=h fr w0 (Array.replicate L.length false) a {w1 with drawn:=w1.drawn+1} L.length (λown e a w=>∃x,Rly own fr.sh x w/\post fr n w0 Q own e a x) (λown a x y ⟨z,h2,h3⟩ h4=>⟨z,h2.trans h4,h3⟩) hc.1 (by simpa using hc.2.1) ?_ (λfr' a' w' e' bx' F' hf h1 h2 h3 h4=>⟨w',.refl _ _ _,hf.own,e',bx',F',hf.nk h1,h2,by rw[hf.at];exact h3,h4⟩) (λ_=>ho1.drop hb) hk ((hr.trans h1.rest).trans (Rest.drawn w1 _)) ho1 (by simpa using Nat.le_of_ble_eq_true hc.2.2) fr (.refl _)
 .simpa using this
 .intro j o _ hj;rw[Array.getD_eq_getD_getElem?,Array.getElem?_replicate] at hj;split at hj<;>simp at hj
def WC.cutT{x y:Code}{Q:Post}{σ:Type}(E:σ->Env)(B:σ->List Ow)(G:σ->List Fct)(I:σ->Prop)
  (h1:WC P n x e bx F (XU (λe' bx' F'=>∃s,I s/\Sub (E s) e'/\(B s).Sublist bx'/\Qw F' (G s)) Q))
  (h2:∀s,I s->WC P n y (E s) (B s) (G s) Q):WC P n x e bx F (XU (λe bx F=>WC P n y e bx F Q) Q):=
 h1.mono λex e b f h=>by
  cases ex<;>first|exact h|skip
  obtain⟨s,h3,h4,h5,h6⟩:=h;exact(h2 s h3).weak h4 h5 h6.all
end
inductive Z0(e:Env):List Nat->List Ow->List Ow->Prop where
 |nil (bx:List Ow):Z0 e [] bx bx
 |cons {t:Nat} {ts:List Nat} {g:Nat} {ty:TypeId} {cs:List Value} {bx b1 b0:List Ow}:look e t=some (.pointer (some ⟨g,0,none⟩))->Rem bx (.cells g ty cs) b1->Z0 e ts b1 b0->Z0 e (t::ts) bx b0
def Rem.sub{l l':List Ow}{b:Ow}(h:Rem l b l'):l'.Sublist l:=by
 induction h with
 |head=>exact List.sublist_cons_self _ _
 |tail _ ih=>exact ih.cons_cons _
def Z0.sub{e:Env}{ts:List Nat}{bx b0:List Ow}(h:Z0 e ts bx b0):b0.Sublist bx:=by
 induction h with
 |nil=>exact List.Sublist.refl _
 |cons _ h2 _ ih=>exact ih.trans h2.sub
def WC.drawR{P:Program}{n:Nat}{L:List Oper}{e:Env}{bx b0:List Ow}{F:List Fct}{id:Nat}{Q:Post}(ts:List Nat)(hs:List Nat)(p:Plan)(hm:P.follows .mixedOrders=true)(hc:(Region.noSelect L.toArray && (chk L hs p (Array.replicate L.length false) && Nat.ble p.len L.length))=true)
  (hr:Z0 e ts bx b0) (h:WD P n L hs b0 F p e bx F (Q .normal)):WC P n (.region id L.toArray true) e bx F Q:=WC.V3 b0 hr.sub hs p hm hc h
inductive Ju:List Ow->List Ow->Prop where
 |nil (l:List Ow):Ju [] l
 |cons {b:Ow} {B l l':List Ow}:Rem l b l'->Ju B l'->Ju (b::B) l
def Ju.ok{B l:List Ow}(h:Ju B l):∃r,l.Perm (B++r):=by
 induction h with
 |nil l=>exact⟨l,.refl _⟩
 |cons h1 _ ih=>
  obtain⟨r,h2⟩:=ih;exact⟨r,h1.perm.trans (h2.cons _)⟩
def OK.subP{fr:CF}{B l:List Ow}{F:List Fct}{w:World}(h:OK fr l F w)(hs:Ju B l):OK fr B F w:=by
 obtain⟨r,h1⟩:=hs.ok;exact(h.perm h1).drop (List.sublist_append_left _ _)
def WC.Y4{P:Program}{n:Nat}{e:Env}{bx:List Ow}{F:List Fct}{x y:Code}{Q:Post}{σ:Type}(E:σ->Env)(B:σ->List Ow)(G:σ->List Fct)(I:σ->Prop)
  (h1:WC P n x e bx F (XU (λe' bx' F'=>∃s,I s/\Sub (E s) e'/\Ju (B s) bx'/\Qw F' (G s)) Q))
  (h2:∀s,I s->WC P n y (E s) (B s) (G s) Q):WC P n x e bx F (XU (λe bx F=>WC P n y e bx F Q) Q):=
 h1.mono λex e b f h=>by
  cases ex<;>first|exact h|skip
  obtain⟨s,h3,h4,h5,h6⟩:=h;exact λfr w0 a w hk hr ho=>h2 s h3 fr w0 a w (hk.sub h4) hr ((ho.subP h5).Ym h6.all)
def Ex2{α1:Type}{α2:Type}{p:α1×α2->Prop}(a1:α1)(a2:α2)(h:p (a1,a2)):∃s,p s:=⟨_,h⟩
def Ex3{α1:Type}{α2:Type}{α3:Type}{p:α1×α2×α3->Prop}(a1:α1)(a2:α2)(a3:α3)(h:p (a1,a2,a3)):∃s,p s:=⟨_,h⟩
def Ex4{α1:Type}{α2:Type}{α3:Type}{α4:Type}{p:α1×α2×α3×α4->Prop}(a1:α1)(a2:α2)(a3:α3)(a4:α4)(h:p (a1,a2,a3,a4)):∃s,p s:=⟨_,h⟩
def Ex6{α1:Type}{α2:Type}{α3:Type}{α4:Type}{α5:Type}{α6:Type}{p:α1×α2×α3×α4×α5×α6->Prop}(a1:α1)(a2:α2)(a3:α3)(a4:α4)(a5:α5)(a6:α6)(h:p (a1,a2,a3,a4,a5,a6)):∃s,p s:=⟨_,h⟩
def Ex7{α1:Type}{α2:Type}{α3:Type}{α4:Type}{α5:Type}{α6:Type}{α7:Type}{p:α1×α2×α3×α4×α5×α6×α7->Prop}(a1:α1)(a2:α2)(a3:α3)(a4:α4)(a5:α5)(a6:α6)(a7:α7)(h:p (a1,a2,a3,a4,a5,a6,a7)):∃s,p s:=⟨_,h⟩
def Ex9{α1:Type}{α2:Type}{α3:Type}{α4:Type}{α5:Type}{α6:Type}{α7:Type}{α8:Type}{α9:Type}{p:α1×α2×α3×α4×α5×α6×α7×α8×α9->Prop}(a1:α1)(a2:α2)(a3:α3)(a4:α4)(a5:α5)(a6:α6)(a7:α7)(a8:α8)(a9:α9)(h:p (a1,a2,a3,a4,a5,a6,a7,a8,a9)):∃s,p s:=⟨_,h⟩
end W
end Go.Proofs.YtbnobghgnbockaaGreat
