/- Lemmas for a law. Conditions: none. -/
import Derived.Test.YtcpaopfdiahnnaaGreatZb24
set_option linter.all false
set_option maxHeartbeats 32000000
set_option maxRecDepth 100000
namespace Go.Proofs.YtcpaopfdiahnnaaGreat
section
open W Go.RowKit
attribute [local irreducible] WC WL WD YO LO Qq W.Fin Qw Qu Qj Row QQ Qy KnS Has W.One Ql Qr
namespace Z
def knA {G:Prop} (h:G:=by first|((first|(focus(apply KnS.oN;exact meA;done))|(focus(apply KnS.oV;exact meA;done))|exact Go.Proofs.YtcpaopfdiahnnaaGreat.knA|(focus(apply KnS.ff;exact hmA;done))|(focus(apply KnS.oR;exact meA;done))|(focus(apply KnS.rf;exact hmA;omega;done))|(focus(apply KnS.pl;exact hmA;done)));done)|fail):G:=h
def hsA {G:Prop} (h:G:=by first|((first|exact Go.Proofs.YtcpaopfdiahnnaaGreat.hsA|(focus(apply W.Has.q;exact hmA;omega;done))|(focus(apply W.Has.qt;exact hmA;omega;omega;done))|(focus(apply W.Has.pbq;exact hmA;omega;done)));done)|fail):G:=h
def Q5 {G:Prop} (h:G:=by first|((first|exact Go.Proofs.YtcpaopfdiahnnaaGreat.Q5|(apply YO.ix1;exact t6A;exact rfl;exact rfl;exact knA;(first|omega|(simp only[List.length_set,List.length_replicate];omega)))|(apply YO.ix;exact t6A;exact rfl;exact rfl;exact knA;(first|omega|(simp only[List.length_set,List.length_replicate];omega)))|(apply YO.ZP;exact t6A;exact rfl;exact rfl;exact knA;omega;(first|omega|(simp only[List.length_set,List.length_replicate];omega))));done)|fail):G:=h
def Xp {G:Prop} (h:G:=by first|((first|exact Go.Proofs.YtcpaopfdiahnnaaGreat.Xp|(apply YO.buildTb;exact rfl;exact rfl;exact rfl)|(apply YO.buildA1;exact rfl;exact rfl;exact knA)|(apply YO.buildA2;exact rfl;exact rfl;exact rfl;exact knA;exact knA)|(apply YO.buildA3;exact rfl;exact rfl;exact rfl;exact rfl;exact knA;exact knA));done)|fail):G:=h
def Y0 {G:Prop} (h:G:=by first|((first|exact Go.Proofs.YtcpaopfdiahnnaaGreat.Y0|(apply YO.eqNz_t;exact t6A;exact rfl;exact knA;assumption)|(apply YO.eqNz_f;exact t6A;exact rfl;exact knA;assumption));done)|fail):G:=h
def XY {G:Prop} (h:G:=by first|((first|exact Go.Proofs.YtcpaopfdiahnnaaGreat.XY|(apply YO.slice;exact t6A;exact rfl;exact knA;exact Or.inr ⟨_,rfl,rfl⟩;exact Or.inr ⟨_,rfl,rfl⟩;omega;omega));done)|fail):G:=h
def Yn {G:Prop} (h:G:=by first|(((first|(apply YO.ldON;exact t2A;exact rfl;exact meA;omega)|(apply YO.ldOV;exact t2A;exact rfl;exact meA;omega)|(apply YO.ldW;exact t4A;exact rfl;exact meA;exact rfl)|(apply YO.ld42;exact t4A;exact rfl;exact meA)|(apply YO.ld40;exact t4A;exact rfl;exact meA)|(apply YO.ld51;exact t4A;exact rfl;exact meA)|(apply YO.ldFf;exact t4A;exact rfl;exact hmA;omega)|(apply YO.ldOR;exact t4A;exact rfl;exact meA;omega)|(apply YO.ldRf;exact t4A;exact rfl;exact hmA;omega;omega)|(apply YO.ldPl;exact t4A;exact rfl;exact hmA;omega)|(apply YO.ld73;exact t4A;exact rfl;exact meA)|(apply YO.ldF;exact t2A;exact rfl;exact hmA;exact rfl)|(apply YO.ldS;exact t2A;exact rfl;exact hsA;omega)|(apply YO.ldB;exact t2A;exact rfl;exact meA;exact rfl)|(apply YO.ZS;exact t2A;exact rfl;exact meA;(first|omega|(simp only[List.length_set,List.length_replicate];omega)))));done)|fail):G:=h
def go {G G':Prop} (h:G') (s:Bx G'->G:=by
 intro h
 (first|refine Go.Proofs.YtcpaopfdiahnnaaGreat.go ?_|(apply WL.Jz;rotate_left;exact rfl;(first|(apply LO.Xl;exact rfl;exact rfl;exact t3A;exact seA;(first|omega|(simp only[List.length_set];omega)))|(apply LO.Ux;exact rfl;exact rfl;exact t4A;exact hmA;exact seA;omega)|(apply LO.Yb;exact rfl;exact rfl;exact t3A;(first|exact One.lit rfl rfl|(apply One.sl;exact knA));exact seA;(first|(simp only[List.length_cons,List.length_nil];omega)|(simp;omega));(first|(simp only[List.set_cons_succ,List.set_cons_zero];exact rfl)|exact rfl))|(apply LO.Xj;exact rfl;exact rfl;exact t3A;(first|exact One.lit rfl rfl|(apply One.sl;exact knA));exact seA;(first|(simp only[List.length_cons,List.length_nil];omega)|(simp;omega));(first|(simp only[List.set_cons_succ,List.set_cons_zero];exact rfl)|exact rfl))|(apply LO.Yc;exact rfl;exact rfl;exact seA;exact t4A;exact rfl;exact rfl;(repeat(first|exact QC.nil|(apply QC.cons;(first|exact One.lit rfl rfl|(apply One.sl;exact knA))))))))|fail)
 exact Bx.h h):G:=s ⟨h⟩
def goD {G G':Prop} (h:G') (s:Bx G'->G:=by
 intro h
 (first|refine Go.Proofs.YtcpaopfdiahnnaaGreat.goD ?_|(apply WD.Jz;exact rfl;rotate_left;exact rfl;(first|(apply LO.Xl;exact rfl;exact rfl;exact t3A;exact seA;(first|omega|(simp only[List.length_set];omega)))|(apply LO.Ux;exact rfl;exact rfl;exact t4A;exact hmA;exact seA;omega)|(apply LO.Yb;exact rfl;exact rfl;exact t3A;(first|exact One.lit rfl rfl|(apply One.sl;exact knA));exact seA;(first|(simp only[List.length_cons,List.length_nil];omega)|(simp;omega));(first|(simp only[List.set_cons_succ,List.set_cons_zero];exact rfl)|exact rfl))|(apply LO.Xj;exact rfl;exact rfl;exact t3A;(first|exact One.lit rfl rfl|(apply One.sl;exact knA));exact seA;(first|(simp only[List.length_cons,List.length_nil];omega)|(simp;omega));(first|(simp only[List.set_cons_succ,List.set_cons_zero];exact rfl)|exact rfl))|(apply LO.Yc;exact rfl;exact rfl;exact seA;exact t4A;exact rfl;exact rfl;(repeat(first|exact QC.nil|(apply QC.cons;(first|exact One.lit rfl rfl|(apply One.sl;exact knA)))))));constructor;exact ltA)|fail)
 exact Bx.h h):G:=s ⟨h⟩
def goV {G G':Prop} (h:G') (s:Bx G'->G:=by
 intro h
 (first|(apply WL.Kb;rotate_left;exact rfl;exact rfl;(apply LO.Hl;exact rfl;exact rfl;(repeat(first|(with_reducible apply Q6.add)|(with_reducible exact Q6.one)|exact Q6.cast _));omega))|(apply WL.JU;rotate_left;exact rfl;exact rfl;(apply LO.bsR0))|(apply WL.JU;rotate_left;exact rfl;exact rfl;(apply LO.bsR1;exact rfl))|(apply WL.JU;rotate_left;exact rfl;exact rfl;(apply LO.bsV1;exact rfl;exact knA))|(apply WL.Jv;rotate_left;exact rfl;exact rfl;(apply LO.appR1;exact rfl;exact rfl;exact meA;exact hmA;(intro _;exact seA);omega))|(apply WL.Jv;rotate_left;exact rfl;exact rfl;(apply LO.appFf;exact rfl;exact rfl;exact hmA;(intro _;exact seA);omega))|(apply WL.Jv;rotate_left;exact rfl;exact rfl;(apply LO.appVV;exact rfl;exact rfl;exact meA;(apply One.sl;exact knA);(intro _;exact seA);omega))|(apply WL.Jv;rotate_left;exact rfl;exact rfl;(apply LO.appNN;exact rfl;exact rfl;exact meA;(intro _;exact seA);omega))|refine Go.Proofs.YtcpaopfdiahnnaaGreat.goV ?_|fail)
 exact Bx.h h):G:=s ⟨h⟩
def goDV {G G':Prop} (h:G') (s:Bx G'->G:=by
 intro h
 (first|(apply WD.Kb;exact rfl;rotate_left;exact rfl;exact rfl;(apply LO.Hl;exact rfl;exact rfl;(repeat(first|(with_reducible apply Q6.add)|(with_reducible exact Q6.one)|exact Q6.cast _));omega);apply Qc;(intro _;exact ltA))|(apply WD.JU;exact rfl;rotate_left;exact rfl;exact rfl;(apply LO.bsR0);apply Qc;(intro _;exact ltA))|(apply WD.JU;exact rfl;rotate_left;exact rfl;exact rfl;(apply LO.bsR1;exact rfl);apply Qc;(intro _;exact ltA))|(apply WD.JU;exact rfl;rotate_left;exact rfl;exact rfl;(apply LO.bsV1;exact rfl;exact knA);apply Qc;(intro _;exact ltA))|(apply WD.Jv;exact rfl;rotate_left;exact rfl;exact rfl;(apply LO.appR1;exact rfl;exact rfl;exact meA;exact hmA;(intro _;exact seA);omega);apply Qc;(intro _;exact ltA))|(apply WD.Jv;exact rfl;rotate_left;exact rfl;exact rfl;(apply LO.appFf;exact rfl;exact rfl;exact hmA;(intro _;exact seA);omega);apply Qc;(intro _;exact ltA))|(apply WD.Jv;exact rfl;rotate_left;exact rfl;exact rfl;(apply LO.appVV;exact rfl;exact rfl;exact meA;(apply One.sl;exact knA);(intro _;exact seA);omega);apply Qc;(intro _;exact ltA))|(apply WD.Jv;exact rfl;rotate_left;exact rfl;exact rfl;(apply LO.appNN;exact rfl;exact rfl;exact meA;(intro _;exact seA);omega);apply Qc;(intro _;exact ltA))|refine Go.Proofs.YtcpaopfdiahnnaaGreat.goDV ?_|fail)
 exact Bx.h h):G:=s ⟨h⟩
def goLV {G G':Prop} (h:G') (s:Bx G'->G:=by
 intro h
 (first|((apply LO.Hl;exact rfl;exact rfl;(repeat(first|(with_reducible apply Q6.add)|(with_reducible exact Q6.one)|exact Q6.cast _));omega);apply Qc;(intro _;exact ltA))|((apply LO.bsR0);apply Qc;(intro _;exact ltA))|((apply LO.bsR1;exact rfl);apply Qc;(intro _;exact ltA))|((apply LO.bsV1;exact rfl;exact knA);apply Qc;(intro _;exact ltA))|((apply LO.appR1;exact rfl;exact rfl;exact meA;exact hmA;(intro _;exact seA);omega);apply Qc;(intro _;exact ltA))|((apply LO.appFf;exact rfl;exact rfl;exact hmA;(intro _;exact seA);omega);apply Qc;(intro _;exact ltA))|((apply LO.appVV;exact rfl;exact rfl;exact meA;(apply One.sl;exact knA);(intro _;exact seA);omega);apply Qc;(intro _;exact ltA))|((apply LO.appNN;exact rfl;exact rfl;exact meA;(intro _;exact seA);omega);apply Qc;(intro _;exact ltA))|refine Go.Proofs.YtcpaopfdiahnnaaGreat.goLV ?_|fail)
 exact Bx.h h):G:=s ⟨h⟩
def goLS {G G':Prop} (h:G') (s:Bx G'->G:=by
 intro h
 (first|((first|(apply LO.Xl;exact rfl;exact rfl;exact t3A;exact seA;(first|omega|(simp only[List.length_set];omega)))|(apply LO.Ux;exact rfl;exact rfl;exact t4A;exact hmA;exact seA;omega)|(apply LO.Yb;exact rfl;exact rfl;exact t3A;(first|exact One.lit rfl rfl|(apply One.sl;exact knA));exact seA;(first|(simp only[List.length_cons,List.length_nil];omega)|(simp;omega));(first|(simp only[List.set_cons_succ,List.set_cons_zero];exact rfl)|exact rfl))|(apply LO.Xj;exact rfl;exact rfl;exact t3A;(first|exact One.lit rfl rfl|(apply One.sl;exact knA));exact seA;(first|(simp only[List.length_cons,List.length_nil];omega)|(simp;omega));(first|(simp only[List.set_cons_succ,List.set_cons_zero];exact rfl)|exact rfl))|(apply LO.Yc;exact rfl;exact rfl;exact seA;exact t4A;exact rfl;exact rfl;(repeat(first|exact QC.nil|(apply QC.cons;(first|exact One.lit rfl rfl|(apply One.sl;exact knA)))))));constructor;exact ltA))
 exact Bx.h h):G:=s ⟨h⟩
def ZO {G G':Prop} (h:G') (s:Bx G'->G:=by
 intro h
 (apply WD.yl;exact rfl;(first|(apply YO.move;exact rfl)|(apply YO.assign;exact rfl)|exact KD|exact KU|exact KF|exact Q5|exact Yn|exact YR|exact QT|exact Y0|exact KB|(apply YO.nil;exact rfl)|(apply YO.extract;exact rfl;exact rfl)|exact KG|exact KH|exact VP|(apply YO.sub;exact rfl;exact rfl;omega;omega)|exact KE|exact Ze|exact YG|exact YT|exact YS|(apply YO.max;exact rfl;exact rfl)|(apply YO.min;exact rfl;exact rfl)|exact JG|exact Uf|exact ZA|(apply YO.shr';exact rfl;exact rfl;omega;omega)|exact VO|exact y_or|exact XY);exact rfl;exact rfl)
 exact Bx.h h):G:=s ⟨h⟩
section
variable {P:Program} {n:Nat} {L rest:List Oper} {e:Env} {bx b0:List Ow} {F F0:List Fct} {Q:Env->List Ow->List Fct->Prop} {d i:Nat} {ty:TypeId} {pos:String} {af:Array Edge} {g:Option (Nat×Bool)} {hs:List Nat} {r:Plan}
 {f:FuncId} {x:Operand} {args:List Operand} {ats:Array TypeId} {vs cs:List Value} {F':List Fct} {u:Value} {el sz:Nat}
def WL.XR (hf:FnB P f vs [] F' (IsV u)) (hK:WL P n L rest ((d,u)::e) bx F Q) (hx:ev e x=some (.func (.func f) #[] #[]):=by exact rfl) (hv:Evs e args vs:=by repeat(first|exact Evs.nil|(apply Evs.cons;exact rfl))) (hF:QY bx F F':=by repeat(first|exact QY.nil|(apply QY.cons;(first|(focus(apply QF.oI;exact meA;done))|(focus(apply QF.c;exact meA;done))|(focus(apply QF.f;exact hsA;done))|(focus(apply QF.fF;exact meA;exact hmA;done))|(focus(apply QF.rows;(repeat(first|exact List.Sublist.refl _|apply List.Sublist.cons));exact hmA;done))|(focus(apply QF.sV;exact meA;done))|(focus(apply QF.sN;exact meA;done))))))
  (hd:Nat.blt d n=true:=by exact rfl) (hg:gok L e g=some true:=by exact rfl):WL P n L (⟨some d,.call {callee:=.value x,args:=args.toArray,argTypes:=ats},ty,pos,af,g⟩::rest) e bx F Q:=
 WL.l hd hg (LO.KO hx hv hf hF hK)
def WD.XR (hf:FnB P f vs [] F' (IsV u)) (hK:WD P n L hs b0 F0 r ((d,u)::e) bx F Q) (hL:L[i]?=some ⟨some d,.call {callee:=.value x,args:=args.toArray,argTypes:=ats},ty,pos,af,g⟩:=by exact rfl) (hx:ev e x=some (.func (.func f) #[] #[]):=by exact rfl) (hv:Evs e args vs:=by repeat(first|exact Evs.nil|(apply Evs.cons;exact rfl))) (hF:QY bx F F':=by repeat(first|exact QY.nil|(apply QY.cons;(first|(focus(apply QF.oI;exact meA;done))|(focus(apply QF.c;exact meA;done))|(focus(apply QF.f;exact hsA;done))|(focus(apply QF.fF;exact meA;exact hmA;done))|(focus(apply QF.rows;(repeat(first|exact List.Sublist.refl _|apply List.Sublist.cons));exact hmA;done))|(focus(apply QF.sV;exact meA;done))|(focus(apply QF.sN;exact meA;done))))))
  (hd:Nat.blt d n=true:=by exact rfl) (hg:gok L e g=some true:=by exact rfl) (lt:QN L hs i=true∨(b0.Sublist bx∧∀ f∈F0,f∈F):=by exact ltA):WD P n L hs b0 F0 (.loud i r) e bx F Q:=
 WD.l hL hd hg (LO.KO hx hv hf hF ⟨lt,hK⟩)
end
end Z
end
section
namespace X
def del (c:Nat->Nat->Rat) (j:Nat):Nat->Nat->Rat:=λk=>if k < j then c k else c (k+1)
def rep (c:Nat->Nat->Rat) (i:Nat) (v:Nat->Rat):Nat->Nat->Rat:=λk=>if k=i then v else c k
def sgn (j:Nat):Rat:=if j % 2=0 then 1 else -1
def dt:Nat->(Nat->Nat->Rat)->Rat
 |0,_=>1
 |m+1,c=>sm (m+1) λj=>sgn j*c j m*dt m (del c j)
section
variable {m i j k:Nat} {c d:Nat->Nat->Rat} {u v:Nat->Rat}
def dt_congr:∀ {m:Nat} {c d:Nat->Nat->Rat},(∀ j,j < m->∀ r,r < m->c j r=d j r)->dt m c=dt m d
 |0,_,_,_=>rfl
 |m+1,c,d,h=>Qh λj hj=>by
  rw[h j hj m qo,dt_congr (m:=m) (c:=del c j) (d:=del d j) λk hk r hr=>by
   unfold del;split
   ·exact h k qo r qo
   ·exact h (k+1) qo r qo]
def YE:del (rep c i u) i=del c i:=by
 funext k;unfold del rep
 by_cases h:k < i
 ·rw[if_pos h,if_pos h,if_neg qo]
 ·rw[if_neg h,if_neg h,if_neg qo]
def HC (h:j≠i):del (rep c i u) j=rep (del c j) (if i < j then i else i - 1) u:=by
 funext k;unfold del rep
 by_cases h1:k < j
 ·rw[if_pos h1];by_cases h2:k=i
  ·rw[if_pos h2,if_pos (by rw[if_pos qo];omega)]
  ·rw[if_neg h2,if_neg (by split <;> omega)];exact(if_pos h1).symm
 ·rw[if_neg h1];by_cases h2:k+1=i
  ·rw[if_pos h2,if_pos (by rw[if_neg qo];omega)]
  ·rw[if_neg h2,if_neg (by split <;> omega)];exact(if_neg h1).symm
def KR (a b:Rat):∀ {m:Nat} {c:Nat->Nat->Rat} {i:Nat},i < m->dt m (rep c i λr=>a*u r+b*v r)=a*dt m (rep c i u)+b*dt m (rep c i v)
 |0,_,_,h=>by omega
 |m+1,c,i,h=>by
  rw[dt,dt,dt,<-JK,<-JK,<-VF];refine Qh λj hj=>?_;by_cases e:j=i
  ·subst e;rw[YE,YE,YE];unfold rep;rw[if_pos rfl,if_pos rfl,if_pos rfl];grind
  ·rw[HC e,HC e,HC e,KR a b (m:=m) (by split <;> omega)];unfold rep;rw[if_neg e,if_neg e,if_neg e];grind
def VQ:rep c i (c i)=c:=by
 funext k;unfold rep;split
 ·rename_i h;rw[h]
 ·rfl
def dt_zero (h:i < m):dt m (rep c i λ_=>0)=0:=by
 have:=KR (u:=λ_=>0) (v:=λ_=>0) 0 0 (c:=c) h;simp only[Rat.zero_mul,Rat.add_zero] at this;exact this
def dt_sum (t:Nat->Rat) (w:Nat->Nat->Rat) (h:i < m):∀ n,dt m (rep c i λr=>sm n λk=>t k*w k r)=sm n λk=>t k*dt m (rep c i (w k))
 |0=>dt_zero h
 |n+1=>by
  have:=KR (u:=λr=>sm n λk=>t k*w k r) (v:=w n) 1 (t n) (c:=c) h;simp only[sm];rw[<-dt_sum t w h n];simp only[Rat.one_mul] at this;exact this
def sm_two {f:Nat->Rat}:∀ {n:Nat},i+1 < n->(∀ k,k < n->k≠i->k≠i+1->f k=0)->sm n f=f i+f (i+1)
 |0,h,_=>by omega
 |n+1,h,h2=>by
  rw[sm];by_cases e:i+1=n
  ·subst e;rw[JW (r:=i) qo λk hk hne=>h2 k qo hne qo]
  ·rw[sm_two (n:=n) qo λk hk=>h2 k qo,h2 n qo qo qo];grind
def sgn_succ (i:Nat):sgn (i+1)= -sgn i:=by
 unfold sgn;by_cases h:i % 2=0
 ·rw[if_pos h,if_neg qo]
 ·rw[if_neg h,if_pos qo];grind
def HL:∀ {m:Nat} {c:Nat->Nat->Rat} {i:Nat},i+1 < m->c i=c (i+1)->dt m c=0
 |0,_,_,h,_=>by omega
 |m+1,c,i,h,e=>by
  rw[dt,sm_two (i:=i) h λk hk h1 h2=>?_]
  ·have:del c i=del c (i+1):=by
    funext k;unfold del
    by_cases h1:k < i
    ·rw[if_pos h1,if_pos qo]
    ·rw[if_neg h1];by_cases h2:k=i
     ·subst h2;rw[if_pos qo,e]
     ·rw[if_neg qo]
   rw[this,<-e,sgn_succ];grind
  ·by_cases h3:k < i
   ·have:dt m (del c k)=0:=HL (i:=i - 1) qo (by
     unfold del;rw[if_neg qo,if_neg qo,show i - 1+1=i by omega];exact e)
    rw[this];grind
   ·have:dt m (del c k)=0:=HL (i:=i) qo (by
     unfold del;rw[if_pos qo,if_pos qo];exact e)
    rw[this];grind
def sw (c:Nat->Nat->Rat) (i:Nat):Nat->Nat->Rat:=rep (rep c i (c (i+1))) (i+1) (c i)
def dt_sw (h:i+1 < m):dt m (sw c i)= -dt m c:=by
 have F:∀ x y:Nat->Rat,dt m (rep (rep c i x) (i+1) y)=dt m (rep (rep c (i+1) y) i x):=λx y=>by
  congr 1;funext k;unfold rep
  by_cases h1:k=i
  ·rw[if_neg qo,if_pos h1,if_pos h1]
  ·rw[if_neg h1,if_neg h1]
 have Z:∀ x:Nat->Rat,dt m (rep (rep c i x) (i+1) x)=0:=λx=>HL h (by unfold rep;rw[if_neg qo,if_pos rfl,if_pos rfl]);have h0:=Z λr=>1*c i r+1*c (i+1) r;rw[KR 1 1 h,F,F,KR 1 1 qo,KR 1 1 qo,<-F,<-F,<-F,<-F,Z,Z] at h0;have e:rep (rep c i (c i)) (i+1) (c (i+1))=c:=by rw[VQ,VQ]
 rw[e] at h0;unfold sw;grind
def dt_eq:∀ (n:Nat) {c:Nat->Nat->Rat} {i j:Nat},j - i<=n->i < j->j < m->c i=c j->dt m c=0
 |0,_,_,_,h,h1,_,_=>by omega
 |n+1,c,i,j,h,h1,h2,e=>by
  by_cases h3:j=i+1
  ·subst h3;exact HL h2 e
  ·have h4:dt m (sw c (j - 1))=0:=dt_eq n (i:=i) (j:=j - 1) qo qo qo (by
    unfold sw rep;rw[if_neg qo,if_neg qo,if_neg qo,if_pos rfl,show j - 1+1=j by omega];exact e)
   rw[dt_sw qo] at h4;grind
def cramer (t:Nat->Rat) (h:i < m):dt m (rep c i λr=>sm m λk=>t k*c k r)=t i*dt m c:=by
 rw[dt_sum t c h,JW h λk hk hne=>?_,VQ]
 have:dt m (rep c i (c k))=0:=by
  by_cases h1:i < k
  ·exact dt_eq (k - i) (Nat.le_refl _) h1 hk (by unfold rep;rw[if_pos rfl,if_neg qo])
  ·exact dt_eq (i - k) (Nat.le_refl _) (by omega:k < i) h (by unfold rep;rw[if_neg qo,if_pos rfl])
 rw[this];grind
def pr:Nat->(Nat->Rat)->Rat
 |0,_=>1
 |m+1,f=>f m*pr m f
def dt_rows (f:Nat->Rat):∀ {m:Nat} {c:Nat->Nat->Rat},dt m (λj r=>f r*c j r)=pr m f*dt m c
 |0,_=>by simp only[dt,pr];grind
 |m+1,c=>by
  rw[dt,dt,pr,<-JK];refine Qh λj _=>?_
  have:del (λj r=>f r*c j r) j=λk r=>f r*del c j k r:=by
   funext k r;unfold del;split <;> rfl
  rw[this,dt_rows f];grind
def pr_ne {f:Nat->Rat}:∀ {m:Nat},(∀ r,r < m->f r≠0)->pr m f≠0
 |0,_=>by simp only[pr];decide
 |m+1,h=>by
  rw[pr];have h1:=pr_ne (m:=m) λr hr=>h r qo;have h2:=h m qo;intro hx;rcases Rat.mul_eq_zero.1 hx with hx|hx
  ·exact h2 hx
  ·exact h1 hx
def dt_one:∀ {m:Nat} {c:Nat->Nat->Rat},(∀ j,j < m->∀ r,r < m->c j r=if j=r then 1 else 0)->dt m c≠0
 |0,_,_=>by simp only[dt];decide
 |m+1,c,h=>by
  rw[dt,JW (r:=m) qo λj hj hne=>by rw[h j hj m qo,if_neg hne];grind];rw[h m qo m qo,if_pos rfl]
  have h1:dt m (del c m)≠0:=dt_one λj hj r hr=>by
   unfold del;rw[if_pos hj];exact h j qo r qo
  have h2:sgn m≠0:=by unfold sgn;split <;> decide
  intro hx;rcases Rat.mul_eq_zero.1 hx with hx|hx
  ·exact h2 (by grind)
  ·exact h1 hx
def bdt (K:Nat):Nat->Nat
 |0=>1
 |m+1=>(m+1)*(K*bdt K m)
def sm_int {B:Nat} {f:Nat->Rat}:∀ {n:Nat},(∀ i,i < n->∃ z:Int,f i=z∧z.natAbs<=B)->∃ z:Int,sm n f=z∧z.natAbs<=n*B
 |0,_=>⟨0,rfl,by simp⟩
 |n+1,h=>by
  obtain⟨z,h1,h2⟩:=sm_int (n:=n) λi hi=>h i qo;obtain⟨w,h3,h4⟩:=h n qo;refine⟨z+w,by rw[sm,h1,h3];simp,?_⟩;have:=Int.natAbs_add_le z w;rw[Nat.succ_mul];omega
def dt_int {K:Nat}:∀ {m:Nat} {c:Nat->Nat->Rat},(∀ j,j < m->∀ r,r < m->∃ z:Int,c j r=z∧z.natAbs<=K)->∃ z:Int,dt m c=z∧z.natAbs<=bdt K m
 |0,_,_=>⟨1,rfl,Nat.le_refl _⟩
 |m+1,c,h=>by
  rw[dt];refine sm_int λj hj=>?_;obtain⟨z,h1,h2⟩:=h j hj m qo
  obtain⟨w,h3,h4⟩:=dt_int (K:=K) (m:=m) (c:=del c j) λk hk r hr=>by
   unfold del;split
   ·exact h k qo r qo
   ·exact h (k+1) qo r qo
  have h5:=Nat.mul_le_mul h2 h4;rw[h1,h3];unfold sgn;split
  ·exact⟨z*w,by simp,by rw[Int.natAbs_mul];exact h5⟩
  ·exact⟨-(z*w),by simp;grind,by rw[Int.natAbs_neg,Int.natAbs_mul];exact h5⟩
end
end X
end
section
namespace X
section
variable {m n:Nat} {A:Nat->Nat->Rat} {c0 c1:Nat->Rat} {s u:St} {k:Nat}
def Inv.conv (h:Inv m n A c0 u) (h':Inv m n A c1 s) {r j:Nat} (hr:r < m) (hj:j<=n):u.t r j=sm m λi=>u.t r (s.b i)*s.t i j:=by
 obtain⟨M,hM⟩:=h.l
 rw[hM r hr j hj,show(sm m λq=>M r q*A q j)=sm m λq=>sm m λi=>(M r q*A q (s.b i))*s.t i j from Qh λq hq=>by
  rw[h'.r q hq j hj,<-JK];exact Qh λi _=>by grind]
 rw[Xn]
 exact Qh λi hi=>by
  rw[Xq,hM r hr (s.b i) (Nat.le_of_lt (h'.bd i hi))]
def sm_ne {f:Nat->Rat}:∀ {m:Nat},sm m f≠0->∃ i,i < m∧f i≠0
 |_,h=>Classical.byContradiction λhno=>h (JX λi hi=>Classical.byContradiction λhx=>hno ⟨i,hi,hx⟩)
def cnt (p:Nat->Bool):Nat->Nat
 |0=>0
 |m+1=>cnt p m+if p m then 1 else 0
def cnt_le {p:Nat->Bool}:∀ m,cnt p m<=m
 |0=>Nat.le_refl _
 |m+1=>by have:=cnt_le (p:=p) m;rw[cnt];split <;> omega
def cnt_mono {p q:Nat->Bool}:∀ {m:Nat},(∀ i,i < m->q i=true->p i=true)->cnt q m<=cnt p m
 |0,_=>Nat.le_refl _
 |m+1,h=>by
  have h1:=cnt_mono (m:=m) λi hi=>h i qo;have h2:=h m qo;rw[cnt,cnt];by_cases c:q m=true
  ·rw[if_pos c,if_pos (h2 c)];omega
  ·rw[if_neg c];omega
def cnt_lt {p q:Nat->Bool}:∀ {m:Nat},(∀ i,i < m->q i=true->p i=true)->(∃ i,i < m∧p i=true∧q i=false)->cnt q m < cnt p m
 |0,_,⟨i,h,_⟩=>by omega
 |m+1,h,⟨i,h1,h2,h3⟩=>by
  rw[cnt,cnt];by_cases e:i=m
  ·subst e;have h4:=cnt_mono (m:=i) λj hj=>h j qo;rw[if_pos h2,if_neg (by rw[h3];decide)];omega
  ·have h4:=cnt_lt (m:=m) (λj hj=>h j qo) ⟨i,by omega,h2,h3⟩;have h5:=h m qo;by_cases c:q m=true
   ·rw[if_pos c,if_pos (h5 c)];omega
   ·rw[if_neg c];omega
def mis (m:Nat) (s u:St) (i:Nat):Bool:=decide (∀ r,r < m->u.b r≠s.b i)
def bas (A:Nat->Nat->Rat) (s:St):Nat->Nat->Rat:=λk r=>A r (s.b k)
def Inv.ent (h:Inv m n A c0 u) {i j:Nat} (hi:i < m) (hj:j<=n):dt m (rep (bas A u) i λr=>A r j)=u.t i j*dt m (bas A u):=by
 rw[<-cramer (λk=>u.t k j) hi];refine dt_congr λk hk r hr=>?_;unfold rep;split
 ·show A r j=sm m λk=>u.t k j*bas A u k r;rw[h.r r hr j hj];exact Qh λi _=>by unfold bas;grind
 ·rfl
def exchD (h:Inv m n A c1 s):∀ (d:Nat) (u:St),cnt (mis m s u) m<=d->Inv m n A c0 u->dt m (bas A u)≠0->∃ u',Inv m n A c0 u'∧dt m (bas A u')≠0∧∀ i,i < m->∃ r,r < m∧∀ j,j<=n->s.t i j=u'.t r j:=by
 intro d;induction d with
 |zero=>
  intro u hc hu hs;refine⟨u,hu,hs,λi hi=>?_⟩
  have hall:∀ k,k < m->∃ r,r < m∧u.b r=s.b k:=λk hk=>by
   have hno:mis m s u k=false:=by
    cases hx:mis m s u k with
    |false=>rfl
    |true=>
     exfalso;have:=cnt_lt (p:=mis m s u) (q:=λ_=>false) (m:=m) (λ_ _ h=>by simp at h) ⟨k,hk,hx,rfl⟩;omega
   exact Classical.byContradiction λhx=>by
    have:=of_decide_eq_false hno;exact this λr hr hb=>hx ⟨r,hr,hb⟩
  obtain⟨r,hr,hb⟩:=hall i hi;refine⟨r,hr,λj hj=>?_⟩;have e:=Inv.conv hu h hr hj
  rw[JW hi (λk hk hki=>by
   have h1:u.t r (s.b k)=0:=by
    obtain⟨q,hq,hbq⟩:=hall k hk;rw[<-hbq,hu.u r hr q hq,if_neg];rintro rfl;exact hki (h.inj hk hi (by rw[<-hbq,hb]))
   rw[h1];grind)] at e
  have h1:u.t r (s.b i)=1:=by rw[<-hb,hu.u r hr r hr,if_pos rfl]
  rw[e,h1];grind
 |succ d ih=>
  intro u hc hu hs;by_cases hz:∃ i,i < m∧mis m s u i=true
  ·obtain⟨i,hi,hmi⟩:=hz;have hno:=of_decide_eq_true hmi;have e:=Inv.conv h hu hi (j:=s.b i) (Nat.le_of_lt (h.bd i hi));rw[h.u i hi i hi,if_pos rfl] at e;obtain⟨r,hr,hne⟩:=sm_ne (m:=m) (f:=λr=>s.t i (u.b r)*u.t r (s.b i)) (by rw[<-e];decide);have n1:u.t r (s.b i)≠0:=λhx=>hne (by show s.t i (u.b r)*u.t r (s.b i)=0;rw[hx];grind);have n2:s.t i (u.b r)≠0:=λhx=>hne (by show s.t i (u.b r)*u.t r (s.b i)=0;rw[hx];grind)
   have n3:∀ k,k < m->s.b k≠u.b r:=λk hk hb=>by
    rw[<-hb,h.u i hi k hk] at n2;by_cases c:i=k
    ·subst c;exact hno r hr hb.symm
    ·rw[if_neg c] at n2;exact n2 rfl
   have hp:=Inv.pv hu hr (h.bd i hi) n1
   have hlt:cnt (mis m s (pv u r (s.b i))) m < cnt (mis m s u) m:=by
    refine cnt_lt (λk hk hq=>?_) ⟨i,hi,hmi,?_⟩
    ·have hq:=of_decide_eq_true hq;refine decide_eq_true λq hqm hb=>?_;by_cases c:q=r
     ·subst c;exact n3 k hk hb.symm
     ·refine hq q hqm ?_;show(if q=r then s.b i else u.b q)=_;rw[if_neg c];exact hb
    ·refine decide_eq_false λhx=>hx r hr ?_;show(if r=r then s.b i else u.b r)=_;rw[if_pos rfl]
   refine ih (pv u r (s.b i)) qo hp ?_
   have e2:bas A (pv u r (s.b i))=rep (bas A u) r λq=>A q (s.b i):=by
    funext k q;unfold bas rep
    show A q (if k=r then s.b i else u.b k)=_;split <;> rfl
   rw[e2,hu.ent hr (Nat.le_of_lt (h.bd i hi))];intro hx;rcases Rat.mul_eq_zero.1 hx with hx|hx
   ·exact n1 hx
   ·exact hs hx
  ·refine ih u ?_ hu hs;have:cnt (mis m s u) m<=cnt (λ_=>false) m:=cnt_mono λi hi hx=>absurd ⟨i,hi,hx⟩ hz
   have h1:∀ m,cnt (λ_=>false) m=0:=λm=>by
    induction m with
    |zero=>rfl
    |succ m ih=>rw[cnt,ih];rfl
   rw[h1] at this;omega
def Inv.ratio (h:Inv m n A c1 s) (hu:Inv m n A c0 u) (hA:∀ r,r < m->∀ i,i < m->A r (u.b i)=if r=i then 1 else 0) {f:Nat->Rat} {K:Nat} (hf:∀ r,r < m->f r≠0) (hz:∀ r,r < m->∀ j,j<=n->∃ z:Int,f r*A r j=z∧z.natAbs<=K)
  {i j:Nat} (hi:i < m) (hj:j<=n):∃ p q:Int,q≠0∧s.t i j=(p:Rat) / q∧p.natAbs<=bdt K m∧q.natAbs<=bdt K m:=by
 obtain⟨v,hv,hd,hr⟩:=exchD h m u (cnt_le _) hu (dt_one λj hj r hr=>by
  show A r (u.b j)=_;rw[hA r hr j hj];by_cases e:r=j
  ·rw[if_pos e,if_pos e.symm]
  ·rw[if_neg e,if_neg λh=>e h.symm])
 obtain⟨r,hrm,he⟩:=hr i hi;have e1:=hv.ent hrm hj;have hp:=pr_ne (f:=f) hf
 obtain⟨p,hp1,hp2⟩:=dt_int (K:=K) (m:=m) (c:=λk q=>f q*rep (bas A v) r (λr=>A r j) k q) λk hk q hq=>by
  unfold rep;split
  ·exact hz q hq j hj
  ·exact hz q hq _ (Nat.le_of_lt (hv.bd k hk))
 obtain⟨q,hq1,hq2⟩:=dt_int (K:=K) (m:=m) (c:=λk q=>f q*bas A v k q) λk hk q hq=>hz q hq _ (Nat.le_of_lt (hv.bd k hk));rw[dt_rows] at hp1 hq1
 have hq0:(q:Rat)≠0:=by
  rw[<-hq1];intro hx;rcases Rat.mul_eq_zero.1 hx with hx|hx
  ·exact hp hx
  ·exact hd hx
 refine⟨p,q,λhx=>hq0 (by rw[hx];rfl),?_,hp2,hq2⟩;rw[he j hj,<-hp1,e1,<-hq1];rw[<-hq1] at hq0;generalize pr m f=a at *;generalize dt m (bas A v)=b at *;generalize v.t r j=t at *;rw[show a*(t*b)=t*(a*b) by grind,Rat.div_def,Rat.mul_assoc,Rat.mul_inv_cancel _ hq0,Rat.mul_one]
end
def dp (f:Nat->Rat):Nat->Nat
 |0=>1
 |n+1=>(f n).den*dp f n
def dp_pos {f:Nat->Rat}:∀ n,0 < dp f n
 |0=>Nat.one_pos
 |n+1=>Nat.mul_pos (f n).den_pos (dp_pos n)
def dp_le {f:Nat->Rat} {W:Nat}:∀ {n:Nat},(∀ k,k < n->(f k).den<=W)->dp f n<=W ^ n
 |0,_=>Nat.le_refl _
 |n+1,h=>by
  rw[dp,Nat.pow_succ,Nat.mul_comm];exact Nat.mul_le_mul (dp_le λk hk=>h k qo) (h n qo)
def den_mul (q:Rat):(q.den:Rat)*q=q.num:=by
 have h:=Rat.num_divInt_den q
 have h2:(q.den:Rat)≠0:=by
  intro hx;have:=q.den_nz;exact this (by exact_mod_cast hx)
 rw[Rat.mul_comm];conv=>lhs;lhs;rw[<-h]
 rw[Rat.divInt_eq_div,Rat.div_def,Rat.mul_assoc,show((q.den:Int):Rat)=(q.den:Rat) from rfl,Rat.inv_mul_cancel _ h2,Rat.mul_one]
def dp_int {f:Nat->Rat}:∀ {n k:Nat},k < n->∃ z:Int,(dp f n:Rat)*f k=z∧z.natAbs<=dp f n*(f k).num.natAbs
 |0,_,h=>by omega
 |n+1,k,h=>by
  rw[dp];by_cases e:k=n
  ·subst e;refine⟨dp f k*(f k).num,?_,?_⟩
   ·have:=den_mul (f k);rw[Rat.intCast_mul,<-this,show((dp f k:Int):Rat)=(dp f k:Rat) from rfl,Rat.natCast_mul];grind
   ·rw[Int.natAbs_mul,Int.natAbs_natCast];exact Nat.mul_le_mul_right _ (Nat.le_mul_of_pos_left _ (f k).den_pos)
  ·obtain⟨z,h1,h2⟩:=dp_int (f:=f) (n:=n) (k:=k) qo;refine⟨(f n).den*z,?_,?_⟩
   ·rw[Rat.intCast_mul,<-h1,show(((f n).den:Int):Rat)=((f n).den:Rat) from rfl,Rat.natCast_mul];grind
   ·rw[Int.natAbs_mul,Int.natAbs_natCast,Nat.mul_assoc];exact Nat.mul_le_mul_left _ h2
end X
end
section
def Sq (k:Nat) (q:Rat):Prop:=(Qx q.num.natAbs).length<=k∧(Qx q.den).length<=k
section
variable {a b:Rat} {k l:Nat}
def Sq.sm (h:Sq k a) (hk:k<=400000000):Sm a:=⟨Nat.le_trans h.1 hk,Nat.le_trans h.2 hk⟩
def Sq.up (h:Sq k a) (hk:k<=l):Sq l a:=⟨Nat.le_trans h.1 hk,Nat.le_trans h.2 hk⟩
def di_num (n:Int) (d:Nat) (hd:d≠0) (h1:(Qx n.natAbs).length<=k) (h2:(Qx d).length<=k):Sq k (mkRat n d):=by
 constructor
 ·rw[Rat.num_mkRat,if_neg hd];exact Nat.le_trans (JD (Int.natAbs_ediv_le_natAbs _ _)) h1
 ·rw[Rat.den_mkRat,if_neg hd];exact Nat.le_trans (JD (Nat.div_le_self _ _)) h2
def Sq.zero:Sq 1 0:=by
 constructor
 ·show(Qx 0).length<=1;rw[Ju];decide
 ·show(Qx 1).length<=1;rw[JH qd qd];decide
def Sq.add (h1:Sq k a) (h2:Sq l b):Sq (k+l+1) (a+b):=by
 rw[Rat.add_def'];refine di_num _ _ (Nat.mul_ne_zero a.den_nz b.den_nz) ?_ ?_
 ·have e1:=JD (Int.natAbs_add_le (a.num*b.den) (b.num*a.den));have e2:=Kz (a.num*b.den).natAbs (b.num*a.den).natAbs;have e3:=Jo a.num.natAbs b.den;have e4:=Jo b.num.natAbs a.den;rw[Jn,Jn] at e1 e2;have:=h1.1;have:=h1.2;have:=h2.1;have:=h2.2;omega
 ·have e3:=Jo a.den b.den;have:=h1.2;have:=h2.2;omega
def Sq.neg (h:Sq k a):Sq k (-a):=by
 unfold Sq at *;rw[Rat.neg_num,Rat.neg_den,Int.natAbs_neg];exact h
def Sq.sub (h1:Sq k a) (h2:Sq l b):Sq (k+l+1) (a - b):=by
 rw[Rat.sub_eq_add_neg];exact h1.add h2.neg
def Sq.mul (h1:Sq k a) (h2:Sq l b):Sq (k+l) (a*b):=by
 rw[Rat.mul_def'];refine di_num _ _ (Nat.mul_ne_zero a.den_nz b.den_nz) ?_ ?_
 ·rw[Int.natAbs_mul];have e3:=Jo a.num.natAbs b.num.natAbs;have:=h1.1;have:=h2.1;omega
 ·have e3:=Jo a.den b.den;have:=h1.2;have:=h2.2;omega
def Sq.inv (h0:0 < k) (h:Sq k b):Sq k b⁻¹:=by
 obtain⟨h1,h2⟩:=h;constructor
 ·rw[Rat.num_inv,Int.natAbs_mul,Int.natAbs_natCast];by_cases c:b.num=0
  ·rw[c];simp[Ju]
  ·rw[Int.natAbs_sign_of_ne_zero c,Nat.one_mul];exact h2
 ·rw[Rat.den_inv];split
  ·rw[JH qd qd];exact h0
  ·exact h1
def Sq.div (h0:0 < l) (h1:Sq k a) (h2:Sq l b):Sq (k+l) (a / b):=by
 rw[Rat.div_def];exact h1.mul (h2.inv h0)
def Sq.int {n:Int} (h:(Qx n.natAbs).length<=k) (h0:0 < k):Sq k (n:Rat):=by
 constructor
 ·rw[Rat.num_intCast];exact h
 ·rw[Rat.den_intCast,JH qd qd];exact h0
end
namespace X
def XC {k:Nat} {f:Nat->Rat}:∀ {m:Nat},(∀ i,i < m->Sq k (f i))->Sq (m*(k+1)+1) (sm m f)
 |0,_=>by rw[Nat.zero_mul];exact Sq.zero
 |m+1,h=>by
  have h1:=(XC (m:=m) λi hi=>h i qo).add (h m qo);exact h1.up (by rw[Nat.succ_mul];omega)
def bdt_len {K k:Nat} (hK:(Qx K).length<=k):∀ {m:Nat},m < 1000000000->(Qx (bdt K m)).length<=m*(k+1)+1
 |0,_=>by rw[bdt,JH qd qd];simp
 |m+1,h=>by
  have e:(m+1)*(k+1)=m*(k+1)+(k+1):=Nat.succ_mul _ _;have h1:=bdt_len hK (m:=m) qo;have h2:=Jo (m+1) (K*bdt K m);have h3:=Jo K (bdt K m);rw[JH (n:=m+1) qo h] at h2;rw[bdt,e];simp only[List.length_cons,List.length_nil] at h2;omega
end X
end
section
open W Go.RowKit
def IsR (q:Rat):Qd:=λv b G=>∃ m:QM,v=qv m∧b=[]∧G=[isQ (qv m) q]
def Yv {P:Program} {f:FuncId} {ag:List Value} {bx:List Ow} {F:List Fct} {q:Rat} (h:FnB P f ag bx F (IsQ q)):FnB P f ag bx F (IsR q):=
 h.mono λv b G ⟨nb,d1,d2,h1,h2,h3,h4⟩=>⟨(nb,d1,d2),h1,h3,h4⟩
namespace Zn
section
variable (m1 m2:QM) (a b:Rat)
def add (ha:Sm a) (hb:Sm b):FnB Tryz.prog 39 [qv m1,qv m2] [] [isQ (qv m1) a,isQ (qv m2) b] (IsR (a+b)):=Yv (Rta.U7 _ _ _ _ ha hb)
def sub (ha:Sm a) (hb:Sm b):FnB Tryz.prog 131 [qv m1,qv m2] [] [isQ (qv m1) a,isQ (qv m2) b] (IsR (a - b)):=Yv (Rtc.sub_c _ _ _ _ ha hb)
def mul (ha:Sm a) (hb:Sm b):FnB Tryz.prog 44 [qv m1,qv m2] [] [isQ (qv m1) a,isQ (qv m2) b] (IsR (a*b)):=Yv (Rmu.Zk _ _ _ _ ha hb)
def div (ha:Sm a) (hb:Sm b):FnB Tryz.prog 210 [qv m1,qv m2] [] [isQ (qv m1) a,isQ (qv m2) b] (IsR (a / b)):=Yv (Rmu.div_c _ _ _ _ ha hb)
def neg:FnB Tryz.prog 42 [qv m1] [] [isQ (qv m1) a] (IsR (-a)):=Yv (Rta.Ho _ _)
def cmp (ha:Sm a) (hb:Sm b):FnB Tryz.prog 167 [qv m1,qv m2] [] [isQ (qv m1) a,isQ (qv m2) b] (IsV (.int .i64 (J6 a b))):=Rtc.qcompare_c _ _ _ _ ha hb
def sign:FnB Tryz.prog 40 [qv m1] [] [isQ (qv m1) a] (IsV (.int .i64 (sgn a.num))):=Rta.sign_c _ _
def same:FnB Tryz.prog 191 [qv m1,qv m2] [] [isQ (qv m1) a,isQ (qv m2) b] (IsV (.bool (decide (a=b)))):=Rtc.same_c _ _ _ _
def of (p q:Int) (h1:p.natAbs < B2) (h2:q.natAbs < B2):FnB Tryz.prog 58 [.int .i64 p,.int .i64 q] [] [] (IsR (Rat.divInt p q)):=Yv (Rta.YL p q h1 h2)
def UZ (ha:Sm a) (hb:Sm b):FnB Tryz.prog 30 [qv m1,qv m2] [] [isQ (qv m1) a,isQ (qv m2) b] (IsR (a+b)):=Yv (Rp.rqadd_c _ _ _ _ ha hb)
def rsub (ha:Sm a) (hb:Sm b):FnB Tryz.prog 95 [qv m1,qv m2] [] [isQ (qv m1) a,isQ (qv m2) b] (IsR (a - b)):=Yv (Rp.rqsub_c _ _ _ _ ha hb)
def Zh (ha:Sm a) (hb:Sm b):FnB Tryz.prog 85 [qv m1,qv m2] [] [isQ (qv m1) a,isQ (qv m2) b] (IsR (a*b)):=Yv (Rp.rqmul_c _ _ _ _ ha hb)
def rneg:FnB Tryz.prog 73 [qv m1] [] [isQ (qv m1) a] (IsR (-a)):=Yv (Rp.rqneg_c _ _)
def rcmp (ha:Sm a) (hb:Sm b):FnB Tryz.prog 87 [qv m1,qv m2] [] [isQ (qv m1) a,isQ (qv m2) b] (IsV (.int .i64 (J6 a b))):=Rp.rqcompare_c _ _ _ _ ha hb
def rof (p q:Int) (h1:p.natAbs < B2) (h2:q.natAbs < B2):FnB Tryz.prog 31 [.int .i64 p,.int .i64 q] [] [] (IsR (Rat.divInt p q)):=Yv (Rp.rqof_c p q h1 h2)
end
end Zn
def QS {q:Rat}:sgn q.num=0↔q=0:=by
 rw[<-Rat.num_eq_zero];unfold sgn;split <;> (try split) <;> omega
def num_neg' {q:Rat}:q.num < 0↔q < 0:=by
 rw[Rat.lt_iff];simp
def num_pos' {q:Rat}:0 < q.num↔0 < q:=by
 rw[Rat.lt_iff];simp
def JB {q:Rat}:sgn q.num < 0↔q < 0:=by
 rw[<-num_neg'];unfold sgn;split <;> (try split) <;> omega
def ZZ {q:Rat}:0 < sgn q.num↔0 < q:=by
 rw[<-num_pos'];unfold sgn;split <;> (try split) <;> omega
end
end Go.Proofs.YtcpaopfdiahnnaaGreat
