/- Lemmas. Conditions: none. -/
import Derived.Test.YtbnobghgnbockaaGreatZk6
set_option linter.all false
set_option maxHeartbeats 0
set_option maxRecDepth 100000
namespace Go.Proofs.YtbnobghgnbockaaGreat
open W Go.RowKit
section
attribute [local irreducible] WC WL WD YO LO Qq W.Fin Qk Qh Qj Row QZ Qv KnS Has W.One Qo QX
structure Bx(p:Prop):Prop where
 h:p
def gA{G G':Prop}(h:G')(s:Bx G'->G:=by
 intro h
 (first|refine go ?_|refine goX ?_|refine goB ?_|refine goG ?_|refine goV ?_|fail)
 exact Bx.h h):G:=s ⟨h⟩
def gAr{G G':Prop}(h:G')(s:Bx G'->G:=by
 intro h;repeat'(first|intro(zQ:Nat)|refine gA ?_|intro zQ)
 repeat revert zQ
 exact Bx.h h):G:=s ⟨h⟩

def gAs{G G':Prop}(h:G')(s:Bx G'->G:=by
 intro h;refine sNn ?_;refine gAr ?_;exact Bx.h h):G:=s ⟨h⟩

def gB{G G':Prop}(h:G')(s:Bx G'->G:=by
 intro h
 (first|refine go ?_|refine goX ?_|refine goB ?_|refine goD ?_|refine goXD ?_|refine goG ?_|refine Q9 ?_|refine goV ?_|refine Q0 ?_|fail)
 exact Bx.h h):G:=s ⟨h⟩
def gBr{G G':Prop}(h:G')(s:Bx G'->G:=by
 intro h;repeat'(first|intro(zQ:Nat)|refine gB ?_|intro zQ)
 repeat revert zQ
 exact Bx.h h):G:=s ⟨h⟩

def gM{G G':Prop}(h:G')(s:Bx G'->G:=by
 intro h
 (first|refine go ?_|refine goX ?_|refine goB ?_|refine goD ?_|refine goXD ?_|apply WD.Xg|refine WM.one qr qr qr ?_|refine WM.HZ qr qr ?_|refine goLS ?_|refine goG ?_|refine Q9 ?_|refine Hd ?_|refine goV ?_|refine Q0 ?_|refine KH ?_|fail)
 exact Bx.h h):G:=s ⟨h⟩
def gY{G G':Prop}(h:G')(s:Bx G'->G:=by
 intro h
 (first|refine goLY ?_|refine goYB ?_|refine Zt ?_|fail)
 exact Bx.h h):G:=s ⟨h⟩
def gN{G A B:Prop}(h1:A)(h2:B)(s:Bx A->Bx B->G:=by
 intro h1 h2
 (first|refine WM.more qr qr qr ?_ ?_|fail)
 exact Bx.h h1;exact Bx.h h2):G:=s ⟨h1⟩ ⟨h2⟩
def gE{G G':Prop}(h:G')(s:Bx G'->G:=by
 intro h
 (first|refine go ?_|refine goX ?_|refine goB ?_|refine goE ?_|refine goD ?_|refine goXD ?_|apply WD.Xg|refine WM.one qr qr qr ?_|refine WM.HZ qr qr ?_|refine goLS ?_|refine goG ?_|refine QT ?_|refine Q9 ?_|refine Hd ?_|refine goV ?_|refine goEV ?_|refine Q0 ?_|refine KH ?_|fail)
 exact Bx.h h):G:=s ⟨h⟩
def gF{G G':Prop}(h:G')(s:Bx G'->G:=by
 intro h
 (first|refine go ?_|refine goX ?_|refine goB ?_|refine goE ?_|refine goD ?_|refine goXD ?_|refine goG ?_|refine QT ?_|refine Q9 ?_|refine goV ?_|refine goEV ?_|refine Q0 ?_|fail)
 exact Bx.h h):G:=s ⟨h⟩
def gP{G G':Prop}(h:G')(s:Bx G'->G:=by
 intro h
 (first|refine go ?_|refine goX ?_|refine goB ?_|refine goE ?_|refine goG ?_|refine QT ?_|refine goV ?_|refine goEV ?_|fail)
 exact Bx.h h):G:=s ⟨h⟩
def gPr{G G':Prop}(h:G')(s:Bx G'->G:=by
 intro h;repeat'(first|intro(zQ:Nat)|refine gP ?_|intro zQ)
 repeat revert zQ
 exact Bx.h h):G:=s ⟨h⟩

def gPs{G G':Prop}(h:G')(s:Bx G'->G:=by
 intro h;refine sNn ?_;refine gPr ?_;exact Bx.h h):G:=s ⟨h⟩

def cK{P:nh}{f:np}{vs:ne}{F':nc}{R:Qd}{G G':Prop}(hf:FnB P f vs [] F' R)(h:G')(s:FnB P f vs [] F' R->Bx G'->G:=by
 intro hf h;first|(refine WL.Jj (hv:=?hvQ) hf ?_;(case hvQ=>(exact wq30;done));exact Bx.h h)|(refine WD.Jj (hv:=?hvQ) hf ?_;(case hvQ=>(exact wq30;done));exact Bx.h h)|(refine LO.callM (hv:=?hvQ) hf ?_;(case hvQ=>(exact wq30;done));exact Bx.h h)|fail):G:=s hf ⟨h⟩
def cW{P:nh}{f:np}{vs:ne}{F':nc}{R:Qd}{M:Type}{G:Prop}{G':M->Prop}(hf:FnB P f vs [] F' R)(h:∀m,G' m)(s:FnB P f vs [] F' R->Bx (∀m,G' m)->G:=by
 intro hf h;first|(refine WL.Jj (hv:=?hvQ) hf ?_;(case hvQ=>(exact wq30;done));rintro _ _ _ ⟨m,rfl,rfl,rfl⟩;simp only[bn,aX];exact Bx.h h m)|(refine WD.Jj (hv:=?hvQ) hf ?_;(case hvQ=>(exact wq30;done));rintro _ _ _ ⟨m,rfl,rfl,rfl⟩;simp only[bn,aX];exact Bx.h h m)|(refine LO.callM (hv:=?hvQ) hf ?_;(case hvQ=>(exact wq30;done));rintro _ _ _ ⟨m,rfl,rfl,rfl⟩;simp only[bn,aX];exact Bx.h h m)|fail):G:=s hf ⟨h⟩
def sNn{G G':Prop}(h:G')(s:Bx G'->G:=by
 intro h;simp only[bn,aX];exact Bx.h h):G:=s ⟨h⟩
def cU{P:nh}{f:np}{vs:ne}{F':nc}{R:Qd}{G G':Prop}(hf:FnB P f vs [] F' R)(h:G')(s:FnB P f vs [] F' R->Bx G'->G:=by
 intro hf h;first|(refine WL.Jj (hv:=?hvQ) hf ?_;(case hvQ=>(exact wq30;done));rintro _ _ _ ⟨rfl,rfl,rfl⟩;simp only[bn,aX];exact Bx.h h)|(refine WD.Jj (hv:=?hvQ) hf ?_;(case hvQ=>(exact wq30;done));rintro _ _ _ ⟨rfl,rfl,rfl⟩;simp only[bn,aX];exact Bx.h h)|(refine LO.callM (hv:=?hvQ) hf ?_;(case hvQ=>(exact wq30;done));rintro _ _ _ ⟨rfl,rfl,rfl⟩;simp only[bn,aX];exact Bx.h h)|fail):G:=s hf ⟨h⟩
def cV{P:nh}{f:np}{vs:ne}{F':nc}{u:nA}{G G':Prop}(hf:FnB P f vs [] F' (IsV u))(h:G')(s:FnB P f vs [] F' (IsV u)->Bx G'->G:=by
 intro hf h;first|(refine WL.Y1 hf ?_;exact Bx.h h)|(refine WD.Y1 hf ?_;exact Bx.h h)|fail):G:=s hf ⟨h⟩
def Qn{α:Type}{p q:α->Prop}(h1:∀a,p a)(h2:∀a,q a):∀a,p a/\q a:=λa=>⟨h1 a,h2 a⟩
def meA{G:Prop}(h:G:=by first|((exact wq74);done)|fail):G:=h
def hmA{G:Prop}(h:G:=by first|(((focus(apply Has.mem;exact wq74;done)));done)|fail):G:=h
def sfA{G:Prop}(h:G:=by first|((repeat(first|exact Qz.nil|(apply Qz.cons;(focus(apply Has.mem;exact wq74;done)))));done)|fail):G:=h
def suA{G:Prop}(h:G:=by first|((repeat(first|exact Sub.nil _|refine Sub.cons rfl ?_));done)|fail):G:=h
def slA{G:Prop}(h:G:=by first|((repeat(first|exact wq6|apply List.Sublist.cons_cons|apply List.Sublist.cons));done)|fail):G:=h
def evA{G:Prop}(h:G:=by first|(exact wq30;done)|fail):G:=h
def seA{G:Prop}(h:G:=by first|((exact wq3);done)|fail):G:=h
def t0A{G:Prop}(h:G:=by first|(((first|exact T.f73_0|exact T.f73_1|exact T.f75_0|exact T.f75_1|exact T.f118_0|exact T.f118_1|exact T.f118_2|exact T.f122_0|exact T.f122_1|exact T.f122_2|exact T.f141_0|exact T.f141_1|exact T.f177_0|exact T.f177_1|exact T.f177_2|exact T.f177_3|exact T.f177_4|exact T.f177_5));done)|fail):G:=h
def t1A{G:Prop}(h:G:=by first|(((first|exact T.al3|exact T.al4|exact T.al61|exact T.al73|exact T.al75|exact T.al104|exact T.al118|exact T.al122|exact T.al141|exact T.al173));done)|fail):G:=h
def t2A{G:Prop}(h:G:=by first|((exact wq160);done)|fail):G:=h
def t3A{G:Prop}(h:G:=by first|(((first|exact T.z3|exact T.z28));done)|fail):G:=h
def t4A{G:Prop}(h:G:=by first|((exact wq162);done)|fail):G:=h
def t5A{G:Prop}(h:G:=by first|(((first|exact T.e28|exact T.e61|exact T.e104|exact T.e116|exact T.e175));done)|fail):G:=h
def t6A{G:Prop}(h:G:=by first|((exact wq50);done)|fail):G:=h
def t7A{G:Prop}(h:G:=by first|(((first|exact T.u3|exact T.u109));done)|fail):G:=h
def knA{G:Prop}(h:G:=by first|(((first|(focus(apply KnS.f;exact hmA;done))|(focus(apply KnS.oI;exact meA;done))|(focus(apply KnS.o1;exact meA;done))|(focus(apply KnS.zd;exact hmA;done))|(focus(apply KnS.q1;exact hmA;done))|(focus(apply KnS.q2;exact hmA;done))));done)|fail):G:=h
def hsA{G:Prop}(h:G:=by first|(((first|exact hmA|(focus(apply JX;exact hmA;done))|(focus(apply Hb;exact hmA;done))|exact Hc|exact Zw|(focus(apply QH;exact hmA;done))|(focus(apply hasQ_d1;exact hmA;done))|(focus(apply Kq;exact hmA;done))));done)|fail):G:=h
def haA{G:Prop}(h:G:=by first|((repeat(first|exact Qz.nil|(apply Qz.cons;exact hsA)));done)|fail):G:=h
def ltA{G:Prop}(h:G:=by first|(((first|exact wq1|(apply Or.inl;kernel_rfl)));done)|fail):G:=h
def onA{G:Prop}(h:G:=by first|(((first|exact K9 _|(intro u hu;simp only[bq,aW,di] at hu;first|(subst hu;rfl)|(rcases hu with rfl|rfl|rfl<;>rfl))));done)|fail):G:=h
def leA{G:Prop}(h:G:=by first|(((simp only[List.length_map,List.length_append,aK,bF,bC,ar];omega));done)|fail):G:=h
def Jf{G:Prop}(h:G:=by first|((exact wq164);done)|fail):G:=h
def YU{G:Prop}(h:G:=by first|((exact wq169);done)|fail):G:=h
def X7{G:Prop}(h:G:=by first|((exact wq16);done)|fail):G:=h
def Zp{G:Prop}(h:G:=by first|((exact wq21);done)|fail):G:=h
def XA{G:Prop}(h:G:=by first|(((first|(apply YO.buildZ;exact rfl;exact rfl;exact knA)|exact YO.buildZ0|exact YO.buildQ0|(apply YO.buildQ1;exact rfl)|(apply YO.buildQ2;exact rfl;exact rfl)));done)|fail):G:=h
def Jv{G:Prop}(h:G:=by first|(((first|(apply YO.Q8;exact t0A;exact rfl)|(apply YO.QR;exact t0A;exact rfl;exact wq2)));done)|fail):G:=h
def UY{G:Prop}(h:G:=by first|(((apply YO.len;exact t6A;exact rfl;exact knA));done)|fail):G:=h
def Vx{G:Prop}(h:G:=by first|((exact wq31);done)|fail):G:=h
def UG{G:Prop}(h:G:=by first|(((first|(first|(apply YO.neq_t;exact rfl;exact rfl;omega)|(apply YO.neq_f;exact rfl;exact rfl;omega))|(apply YO.bne_t;exact Yw;exact rfl;exact rfl;exact wq170)|(apply YO.bne_f;exact Yw;exact rfl;exact rfl;exact wq170)));done)|fail):G:=h
def XX{G:Prop}(h:G:=by first|(((apply YO.makeFunc;exact wq30;exact wq30));done)|fail):G:=h
def Zq{G:Prop}(h:G:=by first|(((first|exact wq55|(apply YO.uquo;exact rfl;exact rfl;omega;omega;omega)));done)|fail):G:=h
def Gx{G:Prop}(h:G:=by first|(((first|(apply YO.and1;exact rfl;exact rfl;omega;omega)|(apply YO.and;exact rfl;exact rfl;omega;omega;omega;omega)));done)|fail):G:=h
def UH{G:Prop}(h:G:=by first|(((first|exact wq35|(apply YO.umul;exact rfl;exact rfl;omega;omega)));done)|fail):G:=h
def Z3{G:Prop}(h:G:=by first|(((first|exact wq80|(apply YO.urem;exact rfl;exact rfl;omega;omega)));done)|fail):G:=h
def UZ{G:Prop}(h:G:=by first|(((first|(apply YO.inc;exact rfl;exact rfl;omega)|(apply YO.add;exact rfl;exact rfl;omega;omega)));done)|fail):G:=h
def UU{G:Prop}(h:G:=by first|(((first|(apply YO.lss_t;exact rfl;exact rfl;omega)|(apply YO.lss_f;exact rfl;exact rfl;omega)));done)|fail):G:=h
def UW{G:Prop}(h:G:=by first|(((first|(apply YO.gtr_t;exact rfl;exact rfl;omega)|(apply YO.gtr_f;exact rfl;exact rfl;omega)));done)|fail):G:=h
def UK{G:Prop}(h:G:=by first|(((first|(apply YO.geq_t;exact rfl;exact rfl;omega)|(apply YO.geq_f;exact rfl;exact rfl;omega)));done)|fail):G:=h
def Gz{G:Prop}(h:G:=by first|(((first|(apply YO.leq_t;exact rfl;exact rfl;omega)|(apply YO.leq_f;exact rfl;exact rfl;omega)));done)|fail):G:=h
def KZ{G:Prop}(h:G:=by first|((exact wq108);done)|fail):G:=h
def Ze{G:Prop}(h:G:=by first|(((first|(apply YO.neg;exact rfl;omega;omega)|(apply YO.uneg;exact rfl;omega;omega)));done)|fail):G:=h
def Zd{G:Prop}(h:G:=by first|(((first|(apply YO.pick_t;exact rfl;exact rfl)|(apply YO.pick_f;exact rfl;exact rfl)));done)|fail):G:=h
def Zb{G:Prop}(h:G:=by first|(((first|(apply YO.not_t;exact rfl)|(apply YO.not_f;exact rfl)));done)|fail):G:=h
def y_or{G:Prop}(h:G:=by first|(((apply YO.or;exact rfl;exact rfl;omega;omega;omega;omega));done)|fail):G:=h
def go{G G':Prop}(h:G')(s:Bx G'->G:=by
 intro h
 (first|apply WL.nil|(apply WL.skg;exact rfl;exact rfl)|(apply WL.YZ;exact wq46;exact rfl;exact rfl)|(apply WL.YX;exact wq62;exact rfl;exact rfl)|(apply WL.k_lss;exact UU;exact rfl;exact rfl)|(apply WL.k_add;exact UZ;exact rfl;exact rfl)|(apply WL.Uj;exact UY;exact rfl;exact rfl)|(apply WL.Jz;exact Jf;exact rfl;exact rfl)|(apply WL.Xs;exact YU;exact rfl;exact rfl)|(apply WL.Hm;exact Zd;exact rfl;exact rfl)|(apply WL.QS;exact Jv;exact rfl;exact rfl)|(apply WL.Uq;exact Zp;exact rfl;exact rfl)|(apply WL.ZF;exact UG;exact rfl;exact rfl)|(apply WL.k_nil;exact wq168;exact rfl;exact rfl)|(apply WL.Y2;exact wq39;exact rfl;exact rfl)|(apply WL.k_gtr;exact UW;exact rfl;exact rfl)|(apply WL.k_geq;exact UK;exact rfl;exact rfl)|(apply WL.k_leq;exact Gz;exact rfl;exact rfl)|(apply WL.k_sub;exact wq41;exact rfl;exact rfl)|(apply WL.YE;exact UH;exact rfl;exact rfl)|(apply WL.ZD;exact Z3;exact rfl;exact rfl)|(apply WL.Y3;exact Zq;exact rfl;exact rfl)|(apply WL.Hr;exact Zb;exact rfl;exact rfl)|(apply WL.Hp;exact Ze;exact rfl;exact rfl)|(apply WL.k_max;(apply YO.max;exact rfl;exact rfl);exact rfl;exact rfl)|(apply WL.k_min;(apply YO.min;exact rfl;exact rfl);exact rfl;exact rfl)|(apply WL.Hl;exact XX;exact rfl;exact rfl)|(apply WL.KF;exact Vx;exact rfl;exact rfl)|(apply WL.Ho;exact KZ;exact rfl;exact rfl)|(apply WL.k_shr;exact wq153;exact rfl;exact rfl)|(apply WL.k_and;exact Gx;exact rfl;exact rfl)|(apply WL.YB;exact X7;exact rfl;exact rfl)|(apply WL.XG;exact XA;exact rfl;exact rfl)|apply WC.seq|apply WC.region|apply WC.block|(apply WC.cond_t;exact rfl)|(apply WC.cond_f;exact rfl)|apply WC.exit|apply WC.skip|apply WC.label|(apply WL.Q4;rotate_left;exact rfl;(first|(apply LO.XE;exact rfl;exact rfl;exact t3A;exact seA;exact wq25)|(apply LO.Xu;exact rfl;exact rfl;exact t3A;exact wq5;exact seA;exact wq12;exact wq10)|(apply LO.J2;exact rfl;exact rfl;exact t3A;exact wq5;exact seA;exact wq12;exact wq10)|(apply LO.YY;exact rfl;exact rfl;exact seA;exact t4A;exact rfl;exact rfl;exact wq136))))
 repeat(first|apply WL.nil|(apply WL.skg;exact rfl;exact rfl)|(apply WL.YZ;exact wq46;exact rfl;exact rfl)|(apply WL.YX;exact wq62;exact rfl;exact rfl)|(apply WL.k_lss;exact UU;exact rfl;exact rfl)|(apply WL.k_add;exact UZ;exact rfl;exact rfl)|(apply WL.Uj;exact UY;exact rfl;exact rfl)|(apply WL.Jz;exact Jf;exact rfl;exact rfl)|(apply WL.Xs;exact YU;exact rfl;exact rfl)|(apply WL.Hm;exact Zd;exact rfl;exact rfl)|(apply WL.QS;exact Jv;exact rfl;exact rfl)|(apply WL.Uq;exact Zp;exact rfl;exact rfl)|(apply WL.ZF;exact UG;exact rfl;exact rfl)|(apply WL.k_nil;exact wq168;exact rfl;exact rfl)|(apply WL.Y2;exact wq39;exact rfl;exact rfl)|(apply WL.k_gtr;exact UW;exact rfl;exact rfl)|(apply WL.k_geq;exact UK;exact rfl;exact rfl)|(apply WL.k_leq;exact Gz;exact rfl;exact rfl)|(apply WL.k_sub;exact wq41;exact rfl;exact rfl)|(apply WL.YE;exact UH;exact rfl;exact rfl)|(apply WL.ZD;exact Z3;exact rfl;exact rfl)|(apply WL.Y3;exact Zq;exact rfl;exact rfl)|(apply WL.Hr;exact Zb;exact rfl;exact rfl)|(apply WL.Hp;exact Ze;exact rfl;exact rfl)|(apply WL.k_max;(apply YO.max;exact rfl;exact rfl);exact rfl;exact rfl)|(apply WL.k_min;(apply YO.min;exact rfl;exact rfl);exact rfl;exact rfl)|(apply WL.Hl;exact XX;exact rfl;exact rfl)|(apply WL.KF;exact Vx;exact rfl;exact rfl)|(apply WL.Ho;exact KZ;exact rfl;exact rfl)|(apply WL.k_shr;exact wq153;exact rfl;exact rfl)|(apply WL.k_and;exact Gx;exact rfl;exact rfl)|(apply WL.YB;exact X7;exact rfl;exact rfl)|(apply WL.XG;exact XA;exact rfl;exact rfl)|apply WC.seq|apply WC.region|apply WC.block|(apply WC.cond_t;exact rfl)|(apply WC.cond_f;exact rfl)|apply WC.exit|apply WC.skip|apply WC.label|(apply WL.Q4;rotate_left;exact rfl;(first|(apply LO.XE;exact rfl;exact rfl;exact t3A;exact seA;exact wq25)|(apply LO.Xu;exact rfl;exact rfl;exact t3A;exact wq5;exact seA;exact wq12;exact wq10)|(apply LO.J2;exact rfl;exact rfl;exact t3A;exact wq5;exact seA;exact wq12;exact wq10)|(apply LO.YY;exact rfl;exact rfl;exact seA;exact t4A;exact rfl;exact rfl;exact wq136))))
 exact Bx.h h):G:=s ⟨h⟩
def goD{G G':Prop}(h:G')(s:Bx G'->G:=by
 intro h
 (first|apply WD.nil|(apply WD.skg;exact rfl;exact rfl;exact rfl)|(apply WD.skgl;exact rfl;exact rfl;exact rfl)|(apply WD.YZ;exact rfl;exact wq46;exact rfl;exact rfl)|(apply WD.YX;exact rfl;exact wq62;exact rfl;exact rfl)|(apply WD.k_lss;exact rfl;exact UU;exact rfl;exact rfl)|(apply WD.k_add;exact rfl;exact UZ;exact rfl;exact rfl)|(apply WD.Uj;exact rfl;exact UY;exact rfl;exact rfl)|(apply WD.Jz;exact rfl;exact Jf;exact rfl;exact rfl)|(apply WD.Xs;exact rfl;exact YU;exact rfl;exact rfl)|(apply WD.Hm;exact rfl;exact Zd;exact rfl;exact rfl)|(apply WD.QS;exact rfl;exact Jv;exact rfl;exact rfl)|(apply WD.Uq;exact rfl;exact Zp;exact rfl;exact rfl)|(apply WD.ZF;exact rfl;exact UG;exact rfl;exact rfl)|(apply WD.k_nil;exact rfl;exact wq168;exact rfl;exact rfl)|(apply WD.Y2;exact rfl;exact wq39;exact rfl;exact rfl)|(apply WD.k_gtr;exact rfl;exact UW;exact rfl;exact rfl)|(apply WD.k_geq;exact rfl;exact UK;exact rfl;exact rfl)|(apply WD.k_sub;exact rfl;exact wq41;exact rfl;exact rfl)|(apply WD.YE;exact rfl;exact UH;exact rfl;exact rfl)|(apply WD.ZD;exact rfl;exact Z3;exact rfl;exact rfl)|(apply WD.Y3;exact rfl;exact Zq;exact rfl;exact rfl)|(apply WD.Hr;exact rfl;exact Zb;exact rfl;exact rfl)|(apply WD.Hp;exact rfl;exact Ze;exact rfl;exact rfl)|(apply WD.KF;exact rfl;exact Vx;exact rfl;exact rfl)|(apply WD.Ho;exact rfl;exact KZ;exact rfl;exact rfl)|(apply WD.YB;exact rfl;exact X7;exact rfl;exact rfl)|(apply WD.XG;exact rfl;exact XA;exact rfl;exact rfl)|(apply WD.Q4;exact rfl;rotate_left;exact rfl;(first|(apply LO.XE;exact rfl;exact rfl;exact t3A;exact seA;exact wq25)|(apply LO.Xu;exact rfl;exact rfl;exact t3A;exact wq5;exact seA;exact wq12;exact wq10)|(apply LO.J2;exact rfl;exact rfl;exact t3A;exact wq5;exact seA;exact wq12;exact wq10)|(apply LO.YY;exact rfl;exact rfl;exact seA;exact t4A;exact rfl;exact rfl;exact wq136));constructor;exact ltA))
 repeat(first|apply WD.nil|(apply WD.skg;exact rfl;exact rfl;exact rfl)|(apply WD.skgl;exact rfl;exact rfl;exact rfl)|(apply WD.YZ;exact rfl;exact wq46;exact rfl;exact rfl)|(apply WD.YX;exact rfl;exact wq62;exact rfl;exact rfl)|(apply WD.k_lss;exact rfl;exact UU;exact rfl;exact rfl)|(apply WD.k_add;exact rfl;exact UZ;exact rfl;exact rfl)|(apply WD.Uj;exact rfl;exact UY;exact rfl;exact rfl)|(apply WD.Jz;exact rfl;exact Jf;exact rfl;exact rfl)|(apply WD.Xs;exact rfl;exact YU;exact rfl;exact rfl)|(apply WD.Hm;exact rfl;exact Zd;exact rfl;exact rfl)|(apply WD.QS;exact rfl;exact Jv;exact rfl;exact rfl)|(apply WD.Uq;exact rfl;exact Zp;exact rfl;exact rfl)|(apply WD.ZF;exact rfl;exact UG;exact rfl;exact rfl)|(apply WD.k_nil;exact rfl;exact wq168;exact rfl;exact rfl)|(apply WD.Y2;exact rfl;exact wq39;exact rfl;exact rfl)|(apply WD.k_gtr;exact rfl;exact UW;exact rfl;exact rfl)|(apply WD.k_geq;exact rfl;exact UK;exact rfl;exact rfl)|(apply WD.k_sub;exact rfl;exact wq41;exact rfl;exact rfl)|(apply WD.YE;exact rfl;exact UH;exact rfl;exact rfl)|(apply WD.ZD;exact rfl;exact Z3;exact rfl;exact rfl)|(apply WD.Y3;exact rfl;exact Zq;exact rfl;exact rfl)|(apply WD.Hr;exact rfl;exact Zb;exact rfl;exact rfl)|(apply WD.Hp;exact rfl;exact Ze;exact rfl;exact rfl)|(apply WD.KF;exact rfl;exact Vx;exact rfl;exact rfl)|(apply WD.Ho;exact rfl;exact KZ;exact rfl;exact rfl)|(apply WD.YB;exact rfl;exact X7;exact rfl;exact rfl)|(apply WD.XG;exact rfl;exact XA;exact rfl;exact rfl)|(apply WD.Q4;exact rfl;rotate_left;exact rfl;(first|(apply LO.XE;exact rfl;exact rfl;exact t3A;exact seA;exact wq25)|(apply LO.Xu;exact rfl;exact rfl;exact t3A;exact wq5;exact seA;exact wq12;exact wq10)|(apply LO.J2;exact rfl;exact rfl;exact t3A;exact wq5;exact seA;exact wq12;exact wq10)|(apply LO.YY;exact rfl;exact rfl;exact seA;exact t4A;exact rfl;exact rfl;exact wq136));constructor;exact ltA))
 exact Bx.h h):G:=s ⟨h⟩
def goG{G G':Prop}(h:G')(s:Bx G'->G:=by
 intro h
 (first|(apply WL.JS;rotate_left;exact rfl;exact rfl;apply LO.J6;(first|exact t1A))|(apply WL.kl_box;rotate_left;exact rfl;exact rfl;(first|(apply LO.boxA;exact rfl)|(apply LO.box1;exact rfl;exact wq5))))
 exact Bx.h h):G:=s ⟨h⟩
def goV{G G':Prop}(h:G')(s:Bx G'->G:=by
 intro h
 (first|(apply WL.Ux;rotate_left;exact rfl;exact rfl;(apply LO.makeI;exact rfl;exact rfl;(repeat(first|(with_reducible apply Jd.add)|(with_reducible exact Jd.one)|exact Jd.cast _));omega))|(apply WL.JW;rotate_left;exact rfl;exact rfl;apply LO.bs1;exact t6A;exact wq93;(intro _;kernel_rfl);exact rfl;omega)|(apply WL.Jn;rotate_left;exact rfl;exact rfl;apply LO.app;exact t5A;exact rfl;exact rfl;exact wq51;(intro v;exact seA);exact onA;exact leA;exact leA))
 exact Bx.h h):G:=s ⟨h⟩
def Q9{G G':Prop}(h:G')(s:Bx G'->G:=by
 intro h
 (first|(apply WD.JS;exact rfl;rotate_left;exact rfl;exact rfl;apply LO.J6;(first|exact t1A);apply Qn;(intro _;exact ltA)))
 exact Bx.h h):G:=s ⟨h⟩
def Q0{G G':Prop}(h:G')(s:Bx G'->G:=by
 intro h
 (first|(apply WD.Ux;exact rfl;rotate_left;exact rfl;exact rfl;(apply LO.makeI;exact rfl;exact rfl;(repeat(first|(with_reducible apply Jd.add)|(with_reducible exact Jd.one)|exact Jd.cast _));omega);apply Qn;(intro _;exact ltA))|(apply WD.JW;exact rfl;rotate_left;exact rfl;exact rfl;apply LO.bs1;exact t6A;exact wq93;(intro _;kernel_rfl);exact rfl;omega;apply Qn;(intro _;exact ltA))|(apply WD.Jn;exact rfl;rotate_left;exact rfl;exact rfl;apply LO.app;exact t5A;exact rfl;exact rfl;exact wq51;(intro v;exact seA);exact onA;exact leA;exact leA;apply Qn;(intro _;exact ltA)))
 exact Bx.h h):G:=s ⟨h⟩
def Hd{G G':Prop}(h:G')(s:Bx G'->G:=by
 intro h
 (first|(apply LO.J6;(first|exact t1A);apply Qn;(intro _;exact ltA))|((first|(apply LO.boxA;exact rfl)|(apply LO.box1;exact rfl;exact wq5));apply Qn;(intro _;exact ltA)))
 exact Bx.h h):G:=s ⟨h⟩
def KH{G G':Prop}(h:G')(s:Bx G'->G:=by
 intro h
 (first|(apply LO.bs1;exact t6A;exact wq93;(intro _;kernel_rfl);exact rfl;omega;apply Qn;(intro _;exact ltA))|(apply LO.app;exact t5A;exact rfl;exact rfl;exact wq51;(intro v;exact seA);exact onA;exact leA;exact leA;apply Qn;(intro _;exact ltA))|((apply LO.makeI;exact rfl;exact rfl;(repeat(first|(with_reducible apply Jd.add)|(with_reducible exact Jd.one)|exact Jd.cast _));omega);apply Qn;(intro _;exact ltA)))
 exact Bx.h h):G:=s ⟨h⟩
def goLS{G G':Prop}(h:G')(s:Bx G'->G:=by
 intro h
 (first|((first|(apply LO.XE;exact rfl;exact rfl;exact t3A;exact seA;exact wq25)|(apply LO.Xu;exact rfl;exact rfl;exact t3A;exact wq5;exact seA;exact wq12;exact wq10)|(apply LO.J2;exact rfl;exact rfl;exact t3A;exact wq5;exact seA;exact wq12;exact wq10)|(apply LO.YY;exact rfl;exact rfl;exact seA;exact t4A;exact rfl;exact rfl;exact wq136));constructor;exact ltA))
 exact Bx.h h):G:=s ⟨h⟩
section
variable {P:nh}{n:Nat}{L rest:List Oper}{e:Env}{bx b0:nw}{F F0:nc}{Q:Env->nw->nc->Prop}{d i:Nat}{ty:nl}{pos:String}{af:Array Edge}{g:Option (Nat×Bool)}{hs:List Nat}{r:Plan}
 {f:np} {x:ni} {args:List ni} {ats:Array nl} {vs cs:ne} {F':nc} {u:nA} {el sz:Nat}
def WL.Y1(hf:FnB P f vs [] F' (IsV u))(hK:WL P n L rest ((d,u)::e) bx F Q)(hx:ev e x=some (.func (.func f) #[] #[]):=by exact rfl)(hv:Evs e args vs:=by repeat(first|exact Evs.nil|(apply Evs.cons;exact rfl)))(hF:QY bx F F':=by repeat(first|exact QY.nil|(apply QY.cons;exact wq28)))
  (hd:Nat.blt d n=true:=by exact rfl) (hg:gok L e g=some true:=by exact rfl):WL P n L (⟨some d,.call {callee:=.value x,args:=args.toArray,argTypes:=ats},ty,pos,af,g⟩::rest) e bx F Q:=
 WL.l hd hg (LO.UC hx hv hf hF hK)
def WD.Y1(hf:FnB P f vs [] F' (IsV u))(hK:WD P n L hs b0 F0 r ((d,u)::e) bx F Q)(hL:L[i]?=some ⟨some d,.call {callee:=.value x,args:=args.toArray,argTypes:=ats},ty,pos,af,g⟩:=by exact rfl)(hx:ev e x=some (.func (.func f) #[] #[]):=by exact rfl)(hv:Evs e args vs:=by repeat(first|exact Evs.nil|(apply Evs.cons;exact rfl)))(hF:QY bx F F':=by repeat(first|exact QY.nil|(apply QY.cons;exact wq28)))
  (hd:Nat.blt d n=true:=by exact rfl) (hg:gok L e g=some true:=by exact rfl) (lt:Q3 L hs i=true\/(b0.Sublist bx/\∀f∈F0,f∈F):=by exact ltA):WD P n L hs b0 F0 (.loud i r) e bx F Q:=
 WD.l hL hd hg (LO.UC hx hv hf hF ⟨lt,hK⟩)
end
end
namespace W
inductive Rem:nw->Ow->nw->Prop where
 |head {b:Ow} {l:nw}:Rem (b::l) b l
 |tail {b c:Ow} {l l':nw}:Rem l b l'->Rem (c::l) b (c::l')
def Rem.perm{l l':nw}{b:Ow}(h:Rem l b l'):l.Perm (b::l'):=by
 induction h with
 |head=>exact .refl _
 |tail _ ih=>exact(ih.cons _).trans (.swap _ _ _)
section
variable {P:nh}{n:Nat}{L rest:List Oper}{e:Env}{bx bx' b0 ba br:nw}{F F0 F':nc}{c:Code}{g:Nat}{t:nl}{cs:ne}{hs:List Nat}{r:Plan}
def OK.keep{fr:CF}{w:nm}(h:OK fr bx F w)(hr:Rem bx (.cells g t cs) bx'):OK fr bx' (ce g t cs::F) w:=by
 have hp:=h.perm hr.perm;have hd:OK fr bx' F w:=hp.drop (bA _ _);refine hd.add (f:=ce g t cs) ?_;have hh:=hp.owns _ an;have hnd:=hp.nodup;have hap:=hp.apart g (by simp[ids,Ow.ids]);simp only[ids,aZ,Ow.ids,bf,cI] at hnd;show(if((fr.fr g).isSome ||(ids bx').contains g)=true then none else fr.see w.heap g)=_;rw[ae,CF.Yy (.inl hap.1)]
 .exact hh
 .simp only[hap.2,ey,Bool.false_or,bu];exact hnd.1
def WL.keep{Q:Env->nw->nc->Prop}(hr:Rem bx (.cells g t cs) bx')(h:WL P n L rest e bx' (ce g t cs::F) Q):WL P n L rest e bx F Q:=λfr w0 a w Q' hQ hk hrr ho=>h fr w0 a w Q' hQ hk hrr (ho.keep hr)
def WC.keep{Q:Post}(hr:Rem bx (.cells g t cs) bx')(h:WC P n c e bx' (ce g t cs::F) Q):WC P n c e bx F Q:=λfr w0 a w hk hrr ho=>h fr w0 a w hk hrr (ho.keep hr)
variable {f:np}{x:ni}{args:List ni}{ats:Array nl}{vs first cap:ne}{R:Qd}{Q:Env->nw->nc->Prop}{d:Nat}{ty:nl}{pos:String}{af:Array Edge}{gd:Option (Nat×Bool)}
def WL.Zc(ba br:nw)(hp:bx.Perm (ba++br))(hf:FnB P f vs ba F' R)(hK:∀v b G,R v b G->WL P n L rest ((d,v)::e) (b++br) (G++F) Q)(hx:ev e x=some (.func (.func f) #[] #[]):=by exact rfl)(hv:Evs e args vs:=by repeat(first|exact Evs.nil|(apply Evs.cons;exact rfl)))(hF:Qz F F':=by repeat(first|exact Qz.nil|(apply Qz.cons;exact hsA)))
  (hd:Nat.blt d n=true:=by exact rfl) (hg:gok L e gd=some true:=by exact rfl):WL P n L (⟨some d,.call {callee:=.value x,args:=args.toArray,argTypes:=ats},ty,pos,af,gd⟩::rest) e bx F Q:=
 WL.l hd hg (LO.call (first:=[]) (cap:=[]) hx hv ba br hp (by simpa using hf) hF.all hK)
def WL.Jj(hf:FnB P f vs [] F' R)(hK:∀v b G,R v b G->WL P n L rest ((d,v)::e) (b++bx) (G++F) Q)(hx:ev e x=some (.func (.func f) #[] #[]):=by exact rfl)(hv:Evs e args vs:=by repeat(first|exact Evs.nil|(apply Evs.cons;exact rfl)))(hF:Qz F F':=by repeat(first|exact Qz.nil|(apply Qz.cons;exact hsA)))
  (hd:Nat.blt d n=true:=by exact rfl) (hg:gok L e gd=some true:=by exact rfl):WL P n L (⟨some d,.call {callee:=.value x,args:=args.toArray,argTypes:=ats},ty,pos,af,gd⟩::rest) e bx F Q:=
 WL.l hd hg (LO.call (first:=[]) (cap:=[]) hx hv [] bx (.refl _) (by simpa using hf) hF.all hK)
def WD.Jj{i:Nat}(hf:FnB P f vs [] F' R)(hK:∀v b G,R v b G->WD P n L hs b0 F0 r ((d,v)::e) (b++bx) (G++F) Q)(hL:L[i]?=some ⟨some d,.call {callee:=.value x,args:=args.toArray,argTypes:=ats},ty,pos,af,gd⟩:=by exact rfl)(hx:ev e x=some (.func (.func f) #[] #[]):=by exact rfl)(hv:Evs e args vs:=by repeat(first|exact Evs.nil|(apply Evs.cons;exact rfl)))(hF:Qz F F':=by repeat(first|exact Qz.nil|(apply Qz.cons;exact hsA)))
  (hd:Nat.blt d n=true:=by exact rfl) (hg:gok L e gd=some true:=by exact rfl) (lt:Q3 L hs i=true\/(b0.Sublist bx/\∀f∈F0,f∈F):=by(first|exact wq1|(apply Or.inl;kernel_rfl))):WD P n L hs b0 F0 (.loud i r) e bx F Q:=
 WD.l hL hd hg (LO.call (first:=[]) (cap:=[]) hx hv [] bx (.refl _) (by simpa using hf) hF.all λv b G hR=>⟨lt.imp id λh=>⟨h.1.trans (dD _ _),λf hf=>aV _ (h.2 f hf)⟩,hK v b G hR⟩)
def LO.callM{i:Nat}(hf:FnB P f vs [] F' R)(hK:∀v b G,R v b G->WD P n L hs b0 F0 r ((d,v)::e) (b++bx) (G++F) Q)(hx:ev e x=some (.func (.func f) #[] #[]):=by exact rfl)(hv:Evs e args vs:=by repeat(first|exact Evs.nil|(apply Evs.cons;exact rfl)))(hF:Qz F F':=by repeat(first|exact Qz.nil|(apply Qz.cons;exact hsA)))
  (lt:Q3 L hs i=true\/(b0.Sublist bx/\∀f∈F0,f∈F):=by(first|exact wq1|(apply Or.inl;kernel_rfl))):LO P (.call {callee:=.value x,args:=args.toArray,argTypes:=ats}) ty e bx F λv bx' F'=>(Q3 L hs i=true\/(b0.Sublist bx'/\∀f∈F0,f∈F'))/\WD P n L hs b0 F0 r ((d,v)::e) bx' F' Q:=
 LO.call (first:=[]) (cap:=[]) hx hv [] bx (.refl _) (by simpa using hf) hF.all λv b G hR=>⟨lt.imp id λh=>⟨h.1.trans (dD _ _),λf hf=>aV _ (h.2 f hf)⟩,hK v b G hR⟩
end
section
variable {P:nh}{n:Nat}{L:List Oper}{e:Env}{bx b0:nw}{F F0:nc}{hs:List Nat}{r s:Plan}{Q:Env->nw->nc->Prop}{i j:Nat}
def loud_y{fr fr0:CF}{w0:nm}{listed:Array Bool}{a:Act}{w:nm}{f':Nat}{Q':Bk->Exit->Act->nm->Prop}{v:nA}{e':Env}(o:Oper)(hL:L[i]?=some o)(hle:fr0.le fr)
  (hP:∀own a x y,Q' own .normal a x->Rly own fr.sh x y->Q' own .normal a y) (hns:Region.noSelect L.toArray=true) (hc:chk L hs r (listed.setIfInBounds i true)=true) (hd:Down L.toArray listed) (hri:i∈Region.ready .any L.toArray listed)
  (hQ:∀fr' a' w' e' bx' F',fr.le fr'->Kn fr'.ds n a' e'->Rest w0 w'->OK fr' bx' F' w'->Q e' bx' F'->Q' fr'.own .normal a' w') (hS:(∃i∈hs,listed.getD i true=false)->OK fr b0 F0 w)
  (hk:Kn fr.ds n a e) (hr:Rest w0 w) (ho:OK fr bx F w) (hf:r.len<=f')
  (hg:gok L e o.guard=some true) (hy:YO P o.op o.type e bx F v) (he':Kn fr.ds n (a.put o.dst v) e') (h:WD P n L hs b0 F0 r e' bx F Q) :
  OpR P fr.main fr.sh L.toArray i (λx own' a' w'=>(Q3 L hs i=false->SR fr0 b0 F0 fr.own x->SR fr0 b0 F0 own' w')/\YP P fr.main fr.sh L.toArray Q' (SR fr0 b0 F0) (Q3 L hs) f' (listed.setIfInBounds i true) own' a' w') fr.own a w:=by
 have hun:=(mem_ready.1 hri).1;have hlist:(∃j∈hs,(listed.setIfInBounds i true).getD j true=false)->∃j∈hs,listed.getD j true=false:=λ⟨j,hj,hjl⟩=>⟨j,hj,getD_some hun j hjl⟩
 unfold OpR;have hLa:L.toArray[i]?=some o:=by simpa using hL
 simp only[hLa];rw[ah (Ja hk hg)];intro w1 hw1;have ho1:=ho.rely hw1;have hv:=hy n fr a w1 o rfl rfl hk ho1;rw[hv.1];refine .inl ⟨.look hv.2,?_⟩;rw[QW (ai _)];exact⟨λ_ h=>h,h fr w0 _ (a.put o.dst v) w1 f' Q' hP hns hc (hd.set hri) hQ (λhx=>(hS (hlist hx)).rely hw1) he' (hr.trans hw1.rest) ho1 hf fr0 hle⟩
variable {d:Nat}{op:Op}{ty:nl}{pos:String}{af:Array Edge}{g:Option (Nat×Bool)}{v:nA}
def WD.yl(hL:L[i]?=some ⟨some d,op,ty,pos,af,g⟩)(hy:YO P op ty e bx F v)(hd:Nat.blt d n=true)(hg:gok L e g=some true)(h:WD P n L hs b0 F0 r ((d,v)::e) bx F Q):WD P n L hs b0 F0 (.loud i r) e bx F Q:=λfr w0 listed a w fuel Q' hP hns hc hdn hQ hS hk hr ho hf fr0 hle=>by
 simp only[chk,aE,co] at hc;obtain⟨h1,h2⟩:=hc;obtain⟨f',rfl⟩:∃f',fuel=f'+1:=⟨fuel-1,by simp[Plan.len] at hf;omega⟩
 refine⟨λh0=>(by rw[h0] at h1;cases h1),λj hj=>?_⟩;rw[h1] at hj;simp at hj;subst hj;exact loud_y _ hL hle hP hns h2 hdn (by rw[h1];simp) hQ hS hk hr ho wq72 hg hy (hk.put hd v) h
def WC.Hw{id:Nat}{Q:Post}(b0:nw)(hb:b0.Sublist bx)(hs:List Nat)(p:Plan)(hm:P.follows .mixedOrders=true)(hc:(Region.noSelect L.toArray && (chk L hs p (Array.replicate L.length false) && Nat.ble p.len L.length))=true)
  (h:WD P n L hs b0 F p e bx F (Q .normal)):WC P n (.region id L.toArray true) e bx F Q:=λfr w0 a w hk hr ho=>by
 simp only[aE] at hc;refine Vj (Gj hm λw1 h1 t=>?_);have ho1:OK fr bx F {w1 with drawn:=w1.drawn+1}:=(ho.rely h1).drawn _;refine KY L.toArray.size t _ _ _ _ (S:=SR fr b0 F) (late:=Q3 L hs) ?_;have:=h fr w0 (Array.replicate L.length false) a {w1 with drawn:=w1.drawn+1} L.length (λown e a w=>∃x,Rly own fr.sh x w/\post fr n w0 Q own e a x) (λown a x y ⟨z,h2,h3⟩ h4=>⟨z,h2.trans h4,h3⟩) hc.1 (by simpa using hc.2.1) ?_ (λfr' a' w' e' bx' F' hf h1 h2 h3 h4=>⟨w',.refl _ _ _,hf.own,e',bx',F',hf.nk h1,h2,by rw[hf.at];exact h3,h4⟩) (λ_=>ho1.drop hb) hk ((hr.trans h1.rest).trans (Rest.drawn w1 _)) ho1 (by simpa using bV hc.2.2) fr (.refl _)
 .simpa using this
 .intro j o _ hj;rw[aB,Array.getElem?_replicate] at hj;split at hj<;>simp at hj
def WC.cutT{x y:Code}{Q:Post}{σ:Type}(E:σ->Env)(B:σ->nw)(G:σ->nc)(I:σ->Prop)
  (h1:WC P n x e bx F (XB (λe' bx' F'=>∃s,I s/\Sub (E s) e'/\(B s).Sublist bx'/\Qz F' (G s)) Q))
  (h2:∀s,I s->WC P n y (E s) (B s) (G s) Q):WC P n x e bx F (XB (λe bx F=>WC P n y e bx F Q) Q):=
 h1.mono λex e b f h=>by
  cases ex<;>first|exact h|skip
  obtain⟨s,h3,h4,h5,h6⟩:=h;exact(h2 s h3).weak h4 h5 h6.all
end
inductive Ku(e:Env):List Nat->nw->nw->Prop where
 |nil (bx:nw):Ku e [] bx bx
 |cons {t:Nat} {ts:List Nat} {g:Nat} {ty:nl} {cs:ne} {bx b1 b0:nw}:look e t=some (.pointer (some ⟨g,0,none⟩))->Rem bx (.cells g ty cs) b1->Ku e ts b1 b0->Ku e (t::ts) bx b0
def Rem.sub{l l':nw}{b:Ow}(h:Rem l b l'):l'.Sublist l:=by
 induction h with
 |head=>exact bA _ _
 |tail _ ih=>exact ih.cons_cons _
def Ku.sub{e:Env}{ts:List Nat}{bx b0:nw}(h:Ku e ts bx b0):b0.Sublist bx:=by
 induction h with
 |nil=>exact aI _
 |cons _ h2 _ ih=>exact ih.trans h2.sub
def WC.drawR{P:nh}{n:Nat}{L:List Oper}{e:Env}{bx b0:nw}{F:nc}{id:Nat}{Q:Post}(ts:List Nat)(hs:List Nat)(p:Plan)(hm:P.follows .mixedOrders=true)(hc:(Region.noSelect L.toArray && (chk L hs p (Array.replicate L.length false) && Nat.ble p.len L.length))=true)
  (hr:Ku e ts bx b0) (h:WD P n L hs b0 F p e bx F (Q .normal)):WC P n (.region id L.toArray true) e bx F Q:=WC.Hw b0 hr.sub hs p hm hc h
inductive Jb:nw->nw->Prop where
 |nil (l:nw):Jb [] l
 |cons {b:Ow} {B l l':nw}:Rem l b l'->Jb B l'->Jb (b::B) l
def Jb.ok{B l:nw}(h:Jb B l):∃r,l.Perm (B++r):=by
 induction h with
 |nil l=>exact⟨l,.refl _⟩
 |cons h1 _ ih=>
  obtain⟨r,h2⟩:=ih;exact⟨r,h1.perm.trans (h2.cons _)⟩
def OK.subP{fr:CF}{B l:nw}{F:nc}{w:nm}(h:OK fr l F w)(hs:Jb B l):OK fr B F w:=by
 obtain⟨r,h1⟩:=hs.ok;exact(h.perm h1).drop (dJ _ _)
def WC.YH{P:nh}{n:Nat}{e:Env}{bx:nw}{F:nc}{x y:Code}{Q:Post}{σ:Type}(E:σ->Env)(B:σ->nw)(G:σ->nc)(I:σ->Prop)
  (h1:WC P n x e bx F (XB (λe' bx' F'=>∃s,I s/\Sub (E s) e'/\Jb (B s) bx'/\Qz F' (G s)) Q))
  (h2:∀s,I s->WC P n y (E s) (B s) (G s) Q):WC P n x e bx F (XB (λe bx F=>WC P n y e bx F Q) Q):=
 h1.mono λex e b f h=>by
  cases ex<;>first|exact h|skip
  obtain⟨s,h3,h4,h5,h6⟩:=h;exact λfr w0 a w hk hr ho=>h2 s h3 fr w0 a w (hk.sub h4) hr ((ho.subP h5).YQ h6.all)
def Ex2{α1:Type}{α2:Type}{p:α1×α2->Prop}(a1:α1)(a2:α2)(h:p (a1,a2)):∃s,p s:=⟨_,h⟩
def Ex3{α1:Type}{α2:Type}{α3:Type}{p:α1×α2×α3->Prop}(a1:α1)(a2:α2)(a3:α3)(h:p (a1,a2,a3)):∃s,p s:=⟨_,h⟩
def Ex4{α1:Type}{α2:Type}{α3:Type}{α4:Type}{p:α1×α2×α3×α4->Prop}(a1:α1)(a2:α2)(a3:α3)(a4:α4)(h:p (a1,a2,a3,a4)):∃s,p s:=⟨_,h⟩
def Ex6{α1:Type}{α2:Type}{α3:Type}{α4:Type}{α5:Type}{α6:Type}{p:α1×α2×α3×α4×α5×α6->Prop}(a1:α1)(a2:α2)(a3:α3)(a4:α4)(a5:α5)(a6:α6)(h:p (a1,a2,a3,a4,a5,a6)):∃s,p s:=⟨_,h⟩
def Ex7{α1:Type}{α2:Type}{α3:Type}{α4:Type}{α5:Type}{α6:Type}{α7:Type}{p:α1×α2×α3×α4×α5×α6×α7->Prop}(a1:α1)(a2:α2)(a3:α3)(a4:α4)(a5:α5)(a6:α6)(a7:α7)(h:p (a1,a2,a3,a4,a5,a6,a7)):∃s,p s:=⟨_,h⟩
def Ex9{α1:Type}{α2:Type}{α3:Type}{α4:Type}{α5:Type}{α6:Type}{α7:Type}{α8:Type}{α9:Type}{p:α1×α2×α3×α4×α5×α6×α7×α8×α9->Prop}(a1:α1)(a2:α2)(a3:α3)(a4:α4)(a5:α5)(a6:α6)(a7:α7)(a8:α8)(a9:α9)(h:p (a1,a2,a3,a4,a5,a6,a7,a8,a9)):∃s,p s:=⟨_,h⟩
end W
end Go.Proofs.YtbnobghgnbockaaGreat
