/- Lemmas for a law. Conditions: none. -/
import Derived.Test.YtbnobghgnbockaaGreatZf29
set_option linter.all false
set_option maxHeartbeats 32000000
set_option maxRecDepth 100000
namespace Go.Proofs.YtbnobghgnbockaaGreat
section
open W Go.RowKit
section
variable {P:Program}{n:Nat}{L rest:List Oper}{e:Env}{bx:List Ow}{F:List Fct}{Q2:Env->List Ow->List Fct->Prop}
def WD.Ur{hs:List Nat}{b0:List Ow}{F0 F':List Fct}{p:Plan}{i d:Nat}{f:FuncId}{x:Operand}{args:List Operand}{ats:Array TypeId}{vs:List Value}{R:Qg}{ty:TypeId}{pos:String}{af:Array Edge}{gd:Option (Nat×Bool)}(first cap:List Value)(ba br:List Ow)(hp:bx.Perm (ba++br))(hf:FnB P f (first++vs++cap) ba F' R)(hK:∀v b G,R v b G->WD P n L hs b0 F0 p ((d,v)::e) (b++br) (G++F) Q2)
  (hL:L[i]?=some ⟨some d,.call {callee:=.value x,args:=args.toArray,argTypes:=ats},ty,pos,af,gd⟩:=by exact rfl) (hx:ev e x=some (.func (.func f) first.toArray cap.toArray):=by exact rfl) (hv:Evs e args vs:=by repeat(first|exact Evs.nil|(apply Evs.cons;exact rfl))) (hF:Qu F F':=by repeat(first|exact Qu.nil|(apply Qu.cons;exact hsA)))
  (hd:Nat.blt d n=true:=by exact rfl) (hg:gok L e gd=some true:=by exact rfl) (lt:QF L hs i=true:=by kernel_rfl):WD P n L hs b0 F0 (.loud i p) e bx F Q2:=
 WD.l hL hd hg (LO.call hx hv ba br hp hf hF.all λv b G hR=>⟨.inl lt,hK v b G hR⟩)
def WL.Ur{F':List Fct}{d:Nat}{f:FuncId}{x:Operand}{args:List Operand}{ats:Array TypeId}{vs:List Value}{R:Qg}{ty:TypeId}{pos:String}{af:Array Edge}{gd:Option (Nat×Bool)}(first cap:List Value)(ba br:List Ow)(hp:bx.Perm (ba++br))(hf:FnB P f (first++vs++cap) ba F' R)(hK:∀v b G,R v b G->WL P n L rest ((d,v)::e) (b++br) (G++F) Q2)
  (hx:ev e x=some (.func (.func f) first.toArray cap.toArray):=by exact rfl) (hv:Evs e args vs:=by repeat(first|exact Evs.nil|(apply Evs.cons;exact rfl))) (hF:Qu F F':=by repeat(first|exact Qu.nil|(apply Qu.cons;exact hsA)))
  (hd:Nat.blt d n=true:=by exact rfl) (hg:gok L e gd=some true:=by exact rfl):WL P n L (⟨some d,.call {callee:=.value x,args:=args.toArray,argTypes:=ats},ty,pos,af,gd⟩::rest) e bx F Q2:=
 WL.l hd hg (LO.call hx hv ba br hp hf hF.all hK)
end
def YO.lssD{P:Program}{e:Env}{bx:List Ow}{F:List Fct}{ty t t':TypeId}{x y:Operand}{k:IntKind}{i j:Int}(hx:ev e x=some (.int k i))(hy:ev e y=some (.int k j)):YO P (.binOp .lss t x y t') ty e bx F (.bool (decide (i<j))):=YO.cmp hx hy (by simp)
def WC.isSl{P:Program}{n k:Nat}{c:Code}{e:Env}{bx:List Ow}{F:List Fct}{Q:Post}{v:Value}(hk:KnS bx F v k)(h:∀a c',v=.slice a k c'->WC P n c e bx F Q):WC P n c e bx F Q:=
 WC.pure (p:=∃a c',v=.slice a k c') (λfr w ho=>by obtain⟨a,c',h1,_⟩:=(hk fr w ho).is;exact⟨a,c',h1⟩) λ⟨a,c',h1⟩=>h a c' h1
def rwx(p:X.Lp)(i k j:Nat):Rat:=if j<k then p.A i j else if p.v<=j/\j<p.v+k then p.A i j else 0
def rwx_up{p:X.Lp}{i k:Nat}{neg:Bool}(hn:neg=decide (p.b i<0))(hk:k<p.v)(j:Nat):upd (upd (rwx p i k) k (if neg=true then -(p.a i k) else p.a i k)) (p.v+k) (if neg=true then -(-(p.a i k)) else -(p.a i k)) j=rwx p i (k+1) j:=by
 have hs:p.sg i=if neg=true then -1 else 1:=by
  unfold X.Lp.sg;rw[hn];by_cases c:p.b i<0<;>simp[c]
 have h1:(if neg=true then -(p.a i k) else p.a i k)=p.A i k:=by
  unfold X.Lp.A;rw[if_pos hk,hs];cases neg<;>simp<;>grind
 have h2:(if neg=true then -(-(p.a i k)) else -(p.a i k))=p.A i (p.v+k):=by
  unfold X.Lp.A;rw[if_neg (show ¬p.v+k<p.v by omega),if_pos (show p.v+k<2*p.v by omega),hs,show p.v+k-p.v=k by omega];cases neg<;>simp<;>grind
 rw[h1,h2];unfold upd rwx;by_cases c1:j=p.v+k
 ·subst c1;rw[if_pos rfl,if_neg qo,if_pos qo]
 ·rw[if_neg c1];by_cases c2:j=k
  ·subst c2;rw[if_pos rfl,if_pos qo]
  ·rw[if_neg c2];by_cases c3:j<k
   ·rw[if_pos c3,if_pos qo]
   ·rw[if_neg c3,if_neg (show ¬j<k+1 by omega)];by_cases c4:p.v<=j/\j<p.v+k
    ·rw[if_pos c4,if_pos qo]
    ·rw[if_neg c4,if_neg qo]
def rwx_all{p:X.Lp}{i:Nat}{neg:Bool}(hn:neg=decide (p.b i<0))(hi:i<p.m)(f:Nat->Rat)(hf:∀j,f j=upd (upd (rwx p i p.v) (2*p.v+i) (if neg=true then -(Rat.divInt 1 1) else Rat.divInt 1 1)) p.n (if neg=true then -(p.b i) else p.b i) j) :
  (neg=false->∀j,j<p.n+1->f j=p.A i j)/\(neg=true->∀j,j<p.n+1->upd f (p.la+i) (Rat.divInt 1 1) j=p.A i j):=by
 have hs:p.sg i=if neg=true then -1 else 1:=by
  unfold X.Lp.sg;rw[hn];by_cases c:p.b i<0<;>simp[c]
 have hb:p.b i<0↔neg=true:=by rw[hn];simp
 have h1:Rat.divInt 1 1=1:=by decide +kernel
 have hla:p.la=2*p.v+p.m:=rfl;have hnn:p.n=2*p.v+2*p.m:=rfl
 have key:∀j,j<p.n+1->j≠p.la+i->f j=p.A i j:=λj hj hne=>by
  rw[hf,h1];unfold upd rwx X.Lp.A;rw[hs];by_cases c1:j=p.n
  ·subst c1;rw[if_pos rfl,if_neg (show ¬p.n<p.v by omega),if_neg (show ¬p.n<2*p.v by omega),if_neg (show ¬p.n<p.la by omega),if_neg (show ¬p.n<p.n by omega)];cases neg<;>simp<;>grind
  ·rw[if_neg c1];by_cases c2:j=2*p.v+i
   ·subst c2;rw[if_pos rfl,if_neg (show ¬2*p.v+i<p.v by omega),if_neg (show ¬2*p.v+i<2*p.v by omega),if_pos (show 2*p.v+i<p.la by omega),if_pos rfl]
   ·rw[if_neg c2];by_cases c3:j<p.v
    ·rw[if_pos c3,if_pos c3]
    ·rw[if_neg c3,if_neg c3];by_cases c4:j<2*p.v
     ·rw[if_pos (show p.v<=j/\j<p.v+p.v by omega),if_pos c4]
     ·rw[if_neg (show ¬(p.v<=j/\j<p.v+p.v) by omega),if_neg c4];by_cases c5:j<p.la
      ·rw[if_pos c5,if_neg c2]
      ·rw[if_neg c5,if_pos (show j<p.n by omega),if_neg (λh=>hne h.1)]
 refine⟨λhf0 j hj=>?_,λht j hj=>?_⟩
 ·by_cases c:j=p.la+i
  ·subst c;rw[hf,h1];unfold upd rwx X.Lp.A;rw[if_neg (show ¬p.la+i=p.n by omega),if_neg (show ¬p.la+i=2*p.v+i by omega),if_neg (show ¬p.la+i<p.v by omega),if_neg (show ¬(p.v<=p.la+i/\p.la+i<p.v+p.v) by omega),if_neg (show ¬p.la+i<p.v by omega),if_neg (show ¬p.la+i<2*p.v by omega),if_neg (show ¬p.la+i<p.la by omega),if_pos (show p.la+i<p.n by omega),if_neg (λh=>by have:=hb.1 h.2;rw[hf0] at this;cases this)]
  ·exact key j hj c
 ·unfold upd;by_cases c:j=p.la+i
  ·subst c;rw[if_pos rfl,h1];unfold X.Lp.A;rw[if_neg (show ¬p.la+i<p.v by omega),if_neg (show ¬p.la+i<2*p.v by omega),if_neg (show ¬p.la+i<p.la by omega),if_pos (show p.la+i<p.n by omega),if_pos ⟨rfl,hb.2 ht⟩]
  ·rw[if_neg c];exact key j hj c
def upd_same{α:Type}{f:Nat->α}{i:Nat}{c:α}(h:f i=c):upd f i c=f:=funext λj=>by
 unfold upd;by_cases e:j=i
 ·rw[if_pos e,e,h]
 ·rw[if_neg e]
def has_tapp{F:List Fct}{i w:Nat}{ms:Nat->Nat->QM}{A:Nat->Nat->Rat}{mx:Nat->QM}{f:Nat->Rat}(h:Has F (mT i w ms A))(hx:Has F (mF w mx f))(hf:∀j,j<w->f j=A i j):Has F (mT (i+1) w (upd ms i mx) A):=λp hp k hk j hj=>by
 by_cases c:k=i
 ·subst c;rw[QB,<-hf j hj];exact hx p hp j hj
 ·rw[upd_ne c];exact h p hp k qo j hj
def hasT0{F:List Fct}{w:Nat}{ms:Nat->Nat->QM}{t:Nat->Nat->Rat}:Has F (mT 0 w ms t):=λp hf i hi=>absurd hi qo
def IsMk(M:Pm)(p:X.Lp):Qg:=λv B G=>∃xg tv bv rv ms,v=ptr xg/\B=TM xg p.v p.m p.n tv (.slice none 0 0) bv rv ms p.s0.b/\G=[mT p.m (p.n+1) ms p.A]
namespace Z
attribute [local irreducible] WC WL WD YO LO Qq W.Fin Qk Qw Qj Row QJ Qv KnS Has W.One Qa Qs
def d113{G G':Prop}(h:G')(s:Bx G'->G:=by
 intro h;first|refine gM ?_|(apply WC.draw (id:=13) [0,1,2,3,4,5] (.h 0<|.h 1<|.h 2<|.h 3<|.h 4<|.h 5<|.l 6<|.l 7 .done) mixed kr)|(apply WC.draw (id:=15) [0,1,2,3,4,5] (.h 0<|.h 1<|.h 2<|.h 3<|.h 4<|.h 5<|.l 6<|.l 7 .done) mixed kr)|(apply WC.draw (id:=16) [0,1,2,3,4,5,6] (.h 0<|.h 1<|.h 2<|.h 3<|.h 4<|.h 5<|.h 6<|.l 7 .done) mixed kr)|(apply WC.draw (id:=20) [0,1,3] (.h 0<|.h 1<|.l 2<|.h 3<|.l 4 .done) mixed kr)|fail
 exact Bx.h h):G:=s ⟨h⟩
def goYL{G G':Prop}(h:G')(s:Bx G'->G:=by
 intro h
 (apply WD.fy;exact rfl;(first|(apply YO.move;exact rfl)|(apply YO.assign;exact rfl)|exact Kz|exact Z9|exact Kx|(first|(first|(apply YO.ix1;exact t6A;exact rfl;exact rfl;exact knA;omega)|(apply YO.ix;exact t6A;exact rfl;exact rfl;exact knA;omega)|(apply YO.Yl;exact t6A;exact rfl;exact rfl;exact knA;omega;omega)|(apply YO.ix';exact t6A;exact rfl;exact rfl;exact knA;omega;omega))|(apply YO.ix1;exact t6A;exact rfl;exact rfl;exact knA;(first|omega|(simp only[List.length_set,List.length_replicate];omega)))|(apply YO.ix;exact t6A;exact rfl;exact rfl;exact knA;(first|omega|(simp only[List.length_set,List.length_replicate];omega)))|(apply YO.Yl;exact t6A;exact rfl;exact rfl;exact knA;omega;(first|omega|(simp only[List.length_set,List.length_replicate];omega))))|(first|(apply YO.ldON;exact t2A;exact rfl;exact meA;omega)|(apply YO.ldOV;exact t2A;exact rfl;exact meA;omega)|(apply YO.ldW;exact t4A;exact rfl;exact meA;exact rfl)|(apply YO.ld42;exact t4A;exact rfl;exact meA)|(apply YO.ld40;exact t4A;exact rfl;exact meA)|(apply YO.ld51;exact t4A;exact rfl;exact meA)|(apply YO.ldFf;exact t4A;exact rfl;exact hmA;omega)|(apply YO.ldOR;exact t4A;exact rfl;exact meA;omega)|(apply YO.ldRf;exact t4A;exact rfl;exact hmA;omega;omega)|(apply YO.ldPl;exact t4A;exact rfl;exact hmA;omega)|(apply YO.ldF;exact t2A;exact rfl;exact hmA;exact rfl)|(apply YO.ldS;exact t2A;exact rfl;exact hsA;omega)|(apply YO.ldB;exact t2A;exact rfl;exact meA;exact rfl)|(apply YO.Kr;exact t2A;exact rfl;exact meA;(first|omega|(simp only[List.length_set,List.length_replicate];omega))))|exact YQ|exact Q7|(first|(first|(first|(apply YO.eql_t;exact rfl;exact rfl;omega)|(apply YO.eql_f;exact rfl;exact rfl;omega))|(apply YO.Y2;exact t6A;exact rfl;exact knA;assumption)|(apply YO.Y1;exact t6A;exact rfl;exact knA;assumption))|(apply YO.beq_t;exact XK;exact rfl;exact rfl;(first|rfl|assumption|decide))|(apply YO.beq_f;exact XK;exact rfl;exact rfl;(first|rfl|assumption|decide))|(apply YO.eqNz_t;exact t6A;exact rfl;exact knA;assumption)|(apply YO.eqNz_f;exact t6A;exact rfl;exact knA;assumption))|exact Kw|(apply YO.nil;exact rfl)|(apply YO.extract;exact rfl;exact rfl)|exact Kj|exact Kq|exact Vp|(apply YO.sub;exact rfl;exact rfl;omega;omega)|exact Kk|exact Ku|exact Kv|exact YJ|exact ZX|(apply YO.max;exact rfl;exact rfl)|(apply YO.min;exact rfl;exact rfl)|exact J3|(first|(first|(apply YO.VG;exact t7A;exact t7A;exact rfl;omega;omega)|(apply YO.convI;exact t7A;exact t7A;exact rfl;omega;omega))|(apply YO.convN;exact t7A;exact t7A;exact rfl;omega;omega))|exact Ze|(apply YO.shr';exact rfl;exact rfl;omega;omega)|exact Vo|exact y_or|(first|(first|(apply YO.slice;exact t6A;exact rfl;exact knA;exact Or.inl ⟨rfl,rfl⟩;exact Or.inr ⟨_,rfl,rfl⟩;omega;omega)|(apply YO.slice;exact t6A;exact rfl;exact knA;exact Or.inr ⟨_,rfl,rfl⟩;exact Or.inl ⟨rfl,rfl⟩;omega;omega))|(apply YO.slice3;exact t6A;exact rfl;exact knA;exact rfl;exact rfl;omega;omega)|(apply YO.slice;exact t6A;exact rfl;exact knA;exact Or.inr ⟨_,rfl,rfl⟩;exact Or.inr ⟨_,rfl,rfl⟩;omega;omega)));exact rfl;exact rfl)
 exact Bx.h h):G:=s ⟨h⟩
def made_c(M:Pm)(p:X.Lp)(hv:p.v<=1000)(hm:p.m<=1000):FnB Tryz.prog 113 [pgv M p.v] [] [fP M p] (IsMk M p):=by
 refine fO [(0,(pgv M p.v))] 122 Tryz.func113 Tryz.ntmps113 λh0=>?_;have hn:p.n=2*p.v+2*p.m:=rfl;have hla:p.la=2*p.v+p.m:=rfl;refine WC.Q8 3 1 ?_;refine WC.Q8 61 1 ?_;repeat'(first|intro(g:Nat)|refine d113 ?_|refine gN ?_ ?_|intro v)
 rw[show(2:Int)*(p.v:Int)+2*(p.m:Int)=((p.n:Nat):Int) by rw[hn];simp];rename_i gp
 revert g;intro xg
 refine WC.lpP (σ:=Nat×Value×Value×(Nat->Value)×(Nat->Nat->QM)) (λst=>[(30,.int .i64 (st.1:Int)),(29,.int .i64 (p.m:Int)),(28,M.lv),(4,ptr xg),(3,.int .i64 (p.m:Int)),(1,ptr gp)])
  (λst=>Ow.cells xg 177 [.int .i64 (p.v:Int),.int .i64 (p.m:Int),.int .i64 (p.n:Int),st.2.1,.slice none 0 0,st.2.2.1]::Ow.cells gp 118 (pcs M p.v)::Ow.slice st.2.1 61 1 (fnV st.1 st.2.2.2.1)::Ow.slice st.2.2.1 3 1 (ints (fnL st.1 p.s0.b))::JB st.1 (p.n+1) st.2.2.2.1 st.2.2.2.2)
  (λst=>[mT st.1 (p.n+1) st.2.2.2.2 p.A,ge h0,fP M p]) (λst=>st.1<=p.m) (λst=>p.m-st.1) (0,.slice none 0 0,.slice none 0 0,λ_=>.slice none 0 0,λ_ _=>m00) (Nat.zero_le _) ?_ (hG:=.cons hasT0 (.cons hmA (.cons hmA .nil)))
 rintro⟨i,tv,bv,rv,ms⟩ hi;simp only at hi ⊢;by_cases c:i<p.m
 ·refine WC.fact (fF (M.av i) p.v (M.ma i) (p.a i)) (W.Has.pa (M:=M) (gn:=p.v) (ln:=λ_=>p.v) (a:=p.a) (b:=p.b) (g:=p.g) hmA c) ?_;refine WC.fact (isQ (qv (M.mb i)) (p.b i)) (W.Has.pbq (M:=M) (gn:=p.v) (ln:=λ_=>p.v) (a:=p.a) (b:=p.b) (g:=p.g) hmA c) ?_;repeat'(first|intro(g:Nat)|refine d113 ?_|refine gN ?_ ?_|intro v)
  refine cV (Zn.sign (M.mb i) (p.b i)) ?_;refine WL.y (YO.lssD rfl rfl) rfl rfl ?_;have hneg:decide (sgn (p.b i).num<0)=decide (p.b i<0):=decide_eq_decide.2 Xn;rw[hneg];generalize hnb:decide (p.b i<0)=neg;have hnb':=hnb.symm;repeat'(first|intro(g:Nat)|refine d113 ?_|refine gN ?_ ?_|intro v)
  rename_i g6 g7
  revert v;intro lw;revert g;intro g8
  refine WC.lp (σ:=Nat×(Nat->QM)) (λst=>[(49,.int .i64 (st.1:Int)),(48,.int .i64 (p.v:Int)),(47,M.av i),(9,.func (.func 189) #[] #[ptr g8,ptr g7]),(8,ptr g8),(7,ptr g7),(6,ptr g6),(5,.int .i64 (i:Int)),(30,.int .i64 (i:Int)),(29,.int .i64 (p.m:Int)),(28,M.lv),(4,ptr xg),(3,.int .i64 (p.m:Int)),(1,ptr gp)])
   (λst=>Ow.cells g8 4 [.bool neg]::Ow.cells g7 61 [lw]::XW (p.n+1) lw st.2::Ow.cells g6 141 [M.av i,.bool (M.mb i).1,(M.mb i).2.1,.bool false,(M.mb i).2.2]::Ow.cells xg 177 [.int .i64 (p.v:Int),.int .i64 (p.m:Int),.int .i64 (p.n:Int),tv,.slice none 0 0,bv]::Ow.cells gp 118 (pcs M p.v)::Ow.slice tv 61 1 (fnV i rv)::Ow.slice bv 3 1 (ints (fnL i p.s0.b))::JB i (p.n+1) rv ms)
   (λst=>[mF (p.n+1) st.2 (rwx p i st.1),isQ (qv (M.mb i)) (p.b i),fF (M.av i) p.v (M.ma i) (p.a i),mT i (p.n+1) ms p.A,ge h0,fP M p]) (λst=>st.1<=p.v) (λst=>p.v-st.1) (0,λ_=>m00) (Nat.zero_le _) ?_ (hG:=.cons ((W.Has.mF0 (p.n+1)).QH λj _=>by unfold rwx;simp[Nat.not_lt_zero,show ¬(p.v<=j/\j<p.v) by omega]) sfA)
  rintro⟨k,mx⟩ hk;simp only at hk ⊢;by_cases ck:k<p.v
  ·refine WC.fact (isQ (qv (M.ma i k)) (p.a i k)) (W.Has.q (W.Has.fm (v:=M.av i) hmA) ck) ?_;repeat'(first|intro(g:Nat)|refine d113 ?_|refine gN ?_ ?_|intro v)
   revert g;intro g11;refine WL.Ur [] [ptr g8,ptr g7] (vs:=[.int .i64 (k:Int),qv (M.ma i k)]) _ (Ow.cells g11 75 (qcs (M.ma i k))::Ow.cells g6 141 [M.av i,.bool (M.mb i).1,(M.mb i).2.1,.bool false,(M.mb i).2.2]::Ow.cells xg 177 [.int .i64 (p.v:Int),.int .i64 (p.m:Int),.int .i64 (p.n:Int),tv,.slice none 0 0,bv]::Ow.cells gp 118 (pcs M p.v)::Ow.slice tv 61 1 (fnV i rv)::Ow.slice bv 3 1 (ints (fnL i p.s0.b))::JB i (p.n+1) rv ms) (List.perm_middle (l₁:=[_,_,_])).symm (put_c g8 g7 neg lw (p.n+1) k mx (M.ma i k) (p.a i k) qo) ?_;rintro _ _ _ ⟨m2,rfl,rfl,rfl⟩;refine sNn ?_;repeat'(first|intro(g:Nat)|refine d113 ?_|refine gN ?_ ?_|intro v)
   refine cW (Zn.neg (m1:=M.ma i k) (a:=p.a i k)) λm3=>?_;repeat'(first|intro(g:Nat)|refine d113 ?_|refine gN ?_ ?_|intro v)
   refine WD.Ur [] [ptr g8,ptr g7] (vs:=[.int .i64 ((p.v+k:Nat):Int),qv m3]) _ _ (.refl _) (put_c g8 g7 neg lw (p.n+1) (p.v+k) (upd mx k m2) m3 (-(p.a i k)) qo) ?_;rintro _ _ _ ⟨m4,rfl,rfl,rfl⟩;refine sNn ?_;refine WD.fact (mF (p.n+1) (upd (upd mx k m2) (p.v+k) m4) (rwx p i (k+1))) ((W.Has.JL (k:=p.v+k) (m:=m4) (z:=if neg=true then -(-(p.a i k)) else -(p.a i k)) (W.Has.JL (k:=k) (ms:=mx) (m:=m2) (qf:=rwx p i k) (z:=if neg=true then -(p.a i k) else p.a i k) hmA hmA) hmA).QH λj _=>rwx_up hnb' ck j) ?_;repeat'(first|intro(g:Nat)|refine d113 ?_|refine gN ?_ ?_|intro v)
   exact Qq.mk (k+1,_) (by show k+1<=p.v;omega) (by show p.v-(k+1)<p.v-k;omega)
  ·obtain rfl:k=p.v:=qo;refine WC.isSl (v:=lw) (k:=p.n+1) (KnS.oR (ms:=mx) (el:=75) meA) λla lc hl=>?_;subst hl;repeat'(first|intro(g:Nat)|refine d113 ?_|refine gN ?_ ?_|intro v)
   refine cW (Zn.of 1 1 qd qd) λm5=>?_;repeat'(first|intro(g:Nat)|refine d113 ?_|refine gN ?_ ?_|intro v)
   refine WD.Ur [] [ptr g8,ptr g7] (vs:=[.int .i64 ((2*p.v+i:Nat):Int),qv m5]) _ _ (.refl _) (put_c g8 g7 neg (.slice la (p.n+1) lc) (p.n+1) (2*p.v+i) mx m5 (Rat.divInt 1 1) qo) ?_;rintro _ _ _ ⟨m6,rfl,rfl,rfl⟩;refine sNn ?_;repeat'(first|intro(g:Nat)|refine d113 ?_|refine gN ?_ ?_|intro v)
   refine WD.Ur [] [ptr g8,ptr g7] (vs:=[.int .i64 (p.n:Int),qv (M.mb i)]) _ _ (.refl _) (put_c g8 g7 neg (.slice la (p.n+1) lc) (p.n+1) p.n (upd mx (2*p.v+i) m6) (M.mb i) (p.b i) qo) ?_;rintro _ _ _ ⟨m7,rfl,rfl,rfl⟩;refine sNn ?_;obtain⟨hA0,hA1⟩:=rwx_all hnb' c (upd (upd (rwx p i p.v) (2*p.v+i) (if neg=true then -(Rat.divInt 1 1) else Rat.divInt 1 1)) p.n (if neg=true then -(p.b i) else p.b i)) (λ_=>rfl);refine WD.fact (mF (p.n+1) (upd (upd mx (2*p.v+i) m6) p.n m7) (upd (upd (rwx p i p.v) (2*p.v+i) (if neg=true then -(Rat.divInt 1 1) else Rat.divInt 1 1)) p.n (if neg=true then -(p.b i) else p.b i))) (W.Has.JL (k:=p.n) (m:=m7) (z:=if neg=true then -(p.b i) else p.b i) (W.Has.JL (k:=2*p.v+i) (ms:=mx) (m:=m6) (qf:=rwx p i p.v) (z:=if neg=true then -(Rat.divInt 1 1) else Rat.divInt 1 1) hmA hmA) hmA) ?_;generalize (upd (upd (rwx p i p.v) (2*p.v+i) (if neg=true then -(Rat.divInt 1 1) else Rat.divInt 1 1)) p.n (if neg=true then -(p.b i) else p.b i))=fq at *;generalize hmz:(upd (upd mx (2*p.v+i) m6) p.n m7)=mz;repeat'(first|intro(g:Nat)|refine d113 ?_|refine gN ?_ ?_|intro v)
   cases neg with
   |true=>
    repeat'(first|intro(g:Nat)|refine d113 ?_|refine gN ?_ ?_|intro v)
    rw[show(2:Int)*(p.v:Int)+(p.m:Int)+(i:Int)=((p.la+i:Nat):Int) by simp[X.Lp.la]];refine cW (Zn.of 1 1 qd qd) λm8=>?_;repeat'(first|intro(g:Nat)|refine gB ?_|refine d113 ?_|intro v)
    refine WC.drawB (id:=21) [Ow.cells g7 61 [.slice la (p.n+1) lc],Ow.cells xg 177 [.int .i64 (p.v:Int),.int .i64 (p.m:Int),.int .i64 (p.n:Int),tv,.slice none 0 0,bv]] slA [0,2,3,4,5,6,9,10,11,12,13,16,17] (.f 1<|.h 0<|.h 2<|.h 3<|.h 4<|.h 5<|.h 6<|.h 9<|.h 10<|.h 11<|.h 12<|.h 13<|.m 7 (.m 8 (.l 14<|.l 15<|.h 16<|.h 17<|.l 18<|.l 19<|.l 20<|.l 21 .done) (.l 14<|.l 8<|.l 15<|.h 16<|.h 17<|.l 18<|.l 19<|.l 20<|.l 21 .done)) (.l 14<|.l 7<|.l 8<|.l 15<|.h 16<|.h 17<|.l 18<|.l 19<|.l 20<|.l 21 .done)) mixed kr ?_;refine goYL ?_;repeat'(first|intro(g:Nat)|refine d113 ?_|refine gN ?_ ?_|intro v)
    all_goals
     refine Zp ?_;repeat'(first|intro(g:Nat)|refine gB ?_|refine d113 ?_|intro v)
     refine Zp ?_;repeat'(first|intro(g:Nat)|refine gB ?_|refine d113 ?_|intro v)
     apply Exists.intro (i+1,_,_,upd rv i (.slice la (p.n+1) lc),upd ms i (upd mz (p.la+i) m8));refine⟨⟨?_,?_⟩,?_,?_,?_⟩
     rotate_left 3
     ·rw[upd_same (f:=p.s0.b) (i:=i) (c:=p.la+i) (if_pos (of_decide_eq_true hnb))]
      (repeat(apply ex_cons;(first|exact List.Perm.refl _|exact List.perm_middle (l₁:=[_])|exact List.perm_middle (l₁:=[_,_])|exact List.perm_middle (l₁:=[_,_,_])|exact List.perm_middle (l₁:=[_,_,_,_])|exact List.perm_middle (l₁:=[_,_,_,_,_])|exact List.perm_middle (l₁:=[_,_,_,_,_,_])|exact List.perm_middle (l₁:=[_,_,_,_,_,_,_])|exact List.perm_middle (l₁:=[_,_,_,_,_,_,_,_])|exact List.perm_middle (l₁:=[_,_,_,_,_,_,_,_,_])|exact List.perm_middle (l₁:=[_,_,_,_,_,_,_,_,_,_])|exact List.perm_middle (l₁:=[_,_,_,_,_,_,_,_,_,_,_])|exact List.perm_middle (l₁:=[_,_,_,_,_,_,_,_,_,_,_,_])|exact List.perm_middle (l₁:=[_,_,_,_,_,_,_,_,_,_,_,_,_])|exact List.perm_middle (l₁:=[_,_,_,_,_,_,_,_,_,_,_,_,_,_]))))
      apply ex_row;(first|exact List.Perm.refl _|exact List.perm_middle (l₁:=[_])|exact List.perm_middle (l₁:=[_,_])|exact List.perm_middle (l₁:=[_,_,_])|exact List.perm_middle (l₁:=[_,_,_,_])|exact List.perm_middle (l₁:=[_,_,_,_,_])|exact List.perm_middle (l₁:=[_,_,_,_,_,_])|exact List.perm_middle (l₁:=[_,_,_,_,_,_,_])|exact List.perm_middle (l₁:=[_,_,_,_,_,_,_,_])|exact List.perm_middle (l₁:=[_,_,_,_,_,_,_,_,_])|exact List.perm_middle (l₁:=[_,_,_,_,_,_,_,_,_,_])|exact List.perm_middle (l₁:=[_,_,_,_,_,_,_,_,_,_,_])|exact List.perm_middle (l₁:=[_,_,_,_,_,_,_,_,_,_,_,_])|exact List.perm_middle (l₁:=[_,_,_,_,_,_,_,_,_,_,_,_,_])|exact List.perm_middle (l₁:=[_,_,_,_,_,_,_,_,_,_,_,_,_,_]));(first|exact QU []|exact QU [_]|exact QU [_,_]|exact QU [_,_,_]|exact QU [_,_,_,_]|exact QU [_,_,_,_,_]|exact QU [_,_,_,_,_,_]|exact QU [_,_,_,_,_,_,_]|exact QU [_,_,_,_,_,_,_,_]|exact QU [_,_,_,_,_,_,_,_,_]|exact QU [_,_,_,_,_,_,_,_,_,_]|exact QU [_,_,_,_,_,_,_,_,_,_,_]|exact QU [_,_,_,_,_,_,_,_,_,_,_,_]|exact QU [_,_,_,_,_,_,_,_,_,_,_,_,_]|exact QU [_,_,_,_,_,_,_,_,_,_,_,_,_,_])
     ·exact .cons (has_tapp (f:=upd fq (p.la+i) (Rat.divInt 1 1)) hmA (W.Has.JL (qf:=fq) hmA hmA) (hA1 rfl)) (.cons hmA (.cons hmA .nil))
     ·show i+1<=p.m;omega
     ·show p.m-(i+1)<p.m-i;omega
     ·exact suA
   |false=>
    rw[show(2:Int)*(p.v:Int)+(i:Int)=((2*p.v+i:Nat):Int) by simp];repeat'(first|intro(g:Nat)|refine gB ?_|refine d113 ?_|intro v)
    refine WC.drawB (id:=21) [Ow.cells g7 61 [.slice la (p.n+1) lc],Ow.cells xg 177 [.int .i64 (p.v:Int),.int .i64 (p.m:Int),.int .i64 (p.n:Int),tv,.slice none 0 0,bv]] slA [0,2,3,4,5,6,9,10,11,12,13,16,17] (.f 1<|.h 0<|.h 2<|.h 3<|.h 4<|.h 5<|.h 6<|.h 9<|.h 10<|.h 11<|.h 12<|.h 13<|.m 7 (.m 8 (.l 14<|.l 15<|.h 16<|.h 17<|.l 18<|.l 19<|.l 20<|.l 21 .done) (.l 14<|.l 8<|.l 15<|.h 16<|.h 17<|.l 18<|.l 19<|.l 20<|.l 21 .done)) (.l 14<|.l 7<|.l 8<|.l 15<|.h 16<|.h 17<|.l 18<|.l 19<|.l 20<|.l 21 .done)) mixed kr ?_;refine goYL ?_;repeat'(first|intro(g:Nat)|refine d113 ?_|refine gN ?_ ?_|intro v)
    all_goals
     refine Zp ?_;repeat'(first|intro(g:Nat)|refine gB ?_|refine d113 ?_|intro v)
     refine Zp ?_;repeat'(first|intro(g:Nat)|refine gB ?_|refine d113 ?_|intro v)
     apply Exists.intro (i+1,_,_,upd rv i (.slice la (p.n+1) lc),upd ms i mz);refine⟨⟨?_,?_⟩,?_,?_,?_⟩
     rotate_left 3
     ·rw[upd_same (f:=p.s0.b) (i:=i) (c:=2*p.v+i) (if_neg (of_decide_eq_false hnb))]
      (repeat(apply ex_cons;(first|exact List.Perm.refl _|exact List.perm_middle (l₁:=[_])|exact List.perm_middle (l₁:=[_,_])|exact List.perm_middle (l₁:=[_,_,_])|exact List.perm_middle (l₁:=[_,_,_,_])|exact List.perm_middle (l₁:=[_,_,_,_,_])|exact List.perm_middle (l₁:=[_,_,_,_,_,_])|exact List.perm_middle (l₁:=[_,_,_,_,_,_,_])|exact List.perm_middle (l₁:=[_,_,_,_,_,_,_,_])|exact List.perm_middle (l₁:=[_,_,_,_,_,_,_,_,_])|exact List.perm_middle (l₁:=[_,_,_,_,_,_,_,_,_,_])|exact List.perm_middle (l₁:=[_,_,_,_,_,_,_,_,_,_,_])|exact List.perm_middle (l₁:=[_,_,_,_,_,_,_,_,_,_,_,_])|exact List.perm_middle (l₁:=[_,_,_,_,_,_,_,_,_,_,_,_,_])|exact List.perm_middle (l₁:=[_,_,_,_,_,_,_,_,_,_,_,_,_,_]))))
      apply ex_row;(first|exact List.Perm.refl _|exact List.perm_middle (l₁:=[_])|exact List.perm_middle (l₁:=[_,_])|exact List.perm_middle (l₁:=[_,_,_])|exact List.perm_middle (l₁:=[_,_,_,_])|exact List.perm_middle (l₁:=[_,_,_,_,_])|exact List.perm_middle (l₁:=[_,_,_,_,_,_])|exact List.perm_middle (l₁:=[_,_,_,_,_,_,_])|exact List.perm_middle (l₁:=[_,_,_,_,_,_,_,_])|exact List.perm_middle (l₁:=[_,_,_,_,_,_,_,_,_])|exact List.perm_middle (l₁:=[_,_,_,_,_,_,_,_,_,_])|exact List.perm_middle (l₁:=[_,_,_,_,_,_,_,_,_,_,_])|exact List.perm_middle (l₁:=[_,_,_,_,_,_,_,_,_,_,_,_])|exact List.perm_middle (l₁:=[_,_,_,_,_,_,_,_,_,_,_,_,_])|exact List.perm_middle (l₁:=[_,_,_,_,_,_,_,_,_,_,_,_,_,_]));(first|exact QU []|exact QU [_]|exact QU [_,_]|exact QU [_,_,_]|exact QU [_,_,_,_]|exact QU [_,_,_,_,_]|exact QU [_,_,_,_,_,_]|exact QU [_,_,_,_,_,_,_]|exact QU [_,_,_,_,_,_,_,_]|exact QU [_,_,_,_,_,_,_,_,_]|exact QU [_,_,_,_,_,_,_,_,_,_]|exact QU [_,_,_,_,_,_,_,_,_,_,_]|exact QU [_,_,_,_,_,_,_,_,_,_,_,_]|exact QU [_,_,_,_,_,_,_,_,_,_,_,_,_]|exact QU [_,_,_,_,_,_,_,_,_,_,_,_,_,_])
     ·exact .cons (has_tapp (f:=fq) hmA hmA (hA0 rfl)) (.cons hmA (.cons hmA .nil))
     ·show i+1<=p.m;omega
     ·show p.m-(i+1)<p.m-i;omega
     ·exact suA
 ·obtain rfl:p.m=i:=qo;repeat'(first|intro(g:Nat)|refine d113 ?_|refine gN ?_ ?_|intro v)
  refine WC.ret ?_;exact Fin.p (TM xg p.v p.m p.n tv (.slice none 0 0) bv rv ms p.s0.b) [mT p.m (p.n+1) ms p.A] (Qh.t1 rfl rfl) meA slA haA ⟨xg,tv,bv,rv,ms,rfl,rfl,rfl⟩
end Z
end
section
open W Go.RowKit
abbrev lnv(M:Pm)(i:Nat):Value:=.agg #[M.av i,.bool (M.mb i).1,(M.mb i).2.1,.bool false,(M.mb i).2.2]
def Gu(vars:Int)(m gn:Nat)(ln:Nat->Nat):Int:=
 if 48<vars\/128<m then 4 else if vars<0\/(gn:Int)≠vars\/(X.fstT (λi=>decide ((ln i:Int)≠vars)) m 0).isSome=true then 1 else 0
def VL{bx:List Ow}{F:List Fct}:∀{G:List Fct},(∀f∈G,f∈F)->Qp bx F G
 |[],_=>.nil
 |f::G,h=>.cons (Qm.f (Has.mem (h f (List.mem_cons_self ..)))) (VL λg hg=>h g (List.mem_cons_of_mem _ hg))
namespace Z
attribute [local irreducible] WC WL WD YO LO Qq W.Fin Qk Qw Qj Row QJ Qv KnS Has W.One Qa Qs
section
variable (M:Pm)(m gn:Nat)(ln:Nat->Nat)(a:Nat->Nat->Rat)(b g:Nat->Rat)
def indexL_c(f:FuncId)(first cap:List Value)(Fc:List Fct)(p:Nat->Bool)
  (hf:∀i,i<m->FnB Tryz.prog f (first++[lnv M i]++cap) [] (fPg M m gn ln a b g::Fc) (IsV (.bool (p i)))) :
  FnB Tryz.prog 219 [M.lv,.func (.func f) first.toArray cap.toArray] [] (fPg M m gn ln a b g::Fc) (IsV (.int .i64 (Xt (X.fstT p m 0)))):=by
 refine fO [(0,M.lv),(1,(.func (.func f) first.toArray cap.toArray))] 19 Tryz.func219 Tryz.ntmps219 λh0=>?_;refine WC.lenF (v:=M.lv) (m:=m) (W.Has.pl (M:=M) (m:=m) (gn:=gn) (ln:=ln) (a:=a) (b:=b) (g:=g) hmA) λhm=>?_;repeat'(first|intro(g:Nat)|refine gA ?_|intro v)
 refine WC.lp (σ:=Nat) (λi=>[(8,.int .i64 (i:Int)),(7,.int .i64 (m:Int)),(0,M.lv),(1,.func (.func f) first.toArray cap.toArray)]) (λ_=>[]) (λ_=>ge h0::fPg M m gn ln a b g::Fc) (λi=>i<=m/\X.fstT p m 0=X.fstT p (m-i) i) (λi=>m-i) 0 ⟨Nat.zero_le _,rfl⟩ ?_ (hG:=.cons hmA (.cons hmA (Qu.tail λ_ h=>by(repeat(first|exact h|apply List.mem_cons_of_mem)))));rintro i ⟨hi,he⟩;by_cases c:i<m
 ·rw[Uq c] at he;repeat'(first|intro(g:Nat)|refine gA ?_|intro v)
  refine WL.J9 first cap (vs:=[lnv M i]) (hf i c) ?_ (hF:=.cons hmA (Qu.tail λ_ h=>by(repeat(first|exact h|apply List.mem_cons_of_mem))))
  rintro _ _ _ ⟨rfl,rfl,rfl⟩;refine sNn ?_;cases hp:p i with
  |true=>
   rw[if_pos hp] at he;rw[he];repeat'(first|intro(g:Nat)|refine gA ?_|intro v)
   refine WC.ret ?_;exact Fin.v (Qh.t1 rfl rfl) meA rfl
  |false=>
   rw[if_neg (by rw[hp];decide)] at he;repeat'(first|intro(g:Nat)|refine gA ?_|intro v)
   exact Qq.mk (i+1) ⟨by omega,he⟩ qo (hG:=.cons hmA (.cons hmA (Qu.tail λ_ h=>by(repeat(first|exact h|apply List.mem_cons_of_mem)))))
 ·obtain rfl:m=i:=qo;rw[Nat.sub_self,X.fstT] at he;rw[he];repeat'(first|intro(g:Nat)|refine gA ?_|intro v)
  refine WC.ret ?_;exact Fin.v (Qh.t1 rfl rfl) meA rfl
def containsL_c(f:FuncId)(first cap:List Value)(Fc:List Fct)(p:Nat->Bool)
  (hf:∀i,i<m->FnB Tryz.prog f (first++[lnv M i]++cap) [] (fPg M m gn ln a b g::Fc) (IsV (.bool (p i)))) :
  FnB Tryz.prog 187 [M.lv,.func (.func f) first.toArray cap.toArray] [] (fPg M m gn ln a b g::Fc) (IsV (.bool (X.fstT p m 0).isSome)):=by
 refine fO [(0,M.lv),(1,(.func (.func f) first.toArray cap.toArray))] 9 Tryz.func187 Tryz.ntmps187 λh0=>?_;repeat'(first|intro(g:Nat)|refine gA ?_|intro v)
 refine WL.Yv (indexL_c M m gn ln a b g f first cap Fc p hf) ?_ (hF:=.cons (.f hmA) (VL λ_ h=>by(repeat(first|exact h|apply List.mem_cons_of_mem))));cases hp:X.fstT p m 0 with
 |none=>
  rw[show Xt none= -1 from rfl];repeat'(first|intro(g:Nat)|refine gA ?_|intro v)
  refine WC.ret ?_;exact Fin.v (Qh.t1 rfl rfl) meA rfl
 |some k=>
  rw[show Xt (some k)=(k:Int) from rfl];repeat'(first|intro(g:Nat)|refine gA ?_|intro v)
  refine WC.ret ?_;exact Fin.v (Qh.t1 rfl rfl) meA rfl
def valid1_c(gp:Nat)(vars:Int)(i:Nat)(hi:i<m):FnB Tryz.prog 188 [lnv M i,ptr gp] [] [fPg M m gn ln a b g,ce gp 118 (pcs M vars)] (IsV (.bool (decide ((ln i:Int)≠vars)))):=by
 refine fO [(0,(lnv M i)),(1,(ptr gp))] 10 Tryz.func188 Tryz.ntmps188 λh0=>?_;refine WC.fact (fF (M.av i) (ln i) (M.ma i) (a i)) (W.Has.pa (M:=M) (m:=m) (gn:=gn) (ln:=ln) (a:=a) (b:=b) (g:=g) hmA hi) ?_;refine WC.fact (isQ (qv (M.mb i)) (b i)) (W.Has.pbq (M:=M) (m:=m) (gn:=gn) (ln:=ln) (a:=a) (b:=b) (g:=g) hmA hi) ?_;by_cases c:(ln i:Int)=vars
 ·repeat'(first|intro(g:Nat)|refine gA ?_|intro v)
  refine WC.ret ?_;exact Fin.v (Qh.t1 rfl rfl) meA (by simp[c])
 ·repeat'(first|intro(g:Nat)|refine gA ?_|intro v)
  refine WC.ret ?_;exact Fin.v (Qh.t1 rfl rfl) meA (by simp[c])
def Y6(vars:Int):FnB Tryz.prog 112 [pgv M vars] [] [fPg M m gn ln a b g] (IsV (.int .i64 (Gu vars m gn ln))):=by
 refine fO [(0,(pgv M vars))] 31 Tryz.func112 Tryz.ntmps112 λh0=>?_;refine WC.lenF (v:=M.lv) (m:=m) (W.Has.pl (M:=M) (m:=m) (gn:=gn) (ln:=ln) (a:=a) (b:=b) (g:=g) hmA) λhm=>?_;refine WC.fact (fF M.gv gn M.mg g) (W.Has.pg (M:=M) (m:=m) (gn:=gn) (ln:=ln) (a:=a) (b:=b) (g:=g) hmA) ?_;by_cases c1:48<vars
 ·repeat'(first|intro(g:Nat)|refine gA ?_|intro v)
  refine WC.ret ?_;exact Fin.v (Qh.t1 rfl rfl) meA (by simp[Gu,c1])
 ·by_cases c2:128<m
  ·repeat'(first|intro(g:Nat)|refine gA ?_|intro v)
   refine WC.ret ?_;exact Fin.v (Qh.t1 rfl rfl) meA (by simp[Gu,c2])
  ·by_cases c3:vars<0
   ·repeat'(first|intro(g:Nat)|refine gA ?_|intro v)
    refine WC.ret ?_;exact Fin.v (Qh.t1 rfl rfl) meA (by simp[Gu,c1,c2,c3])
   ·by_cases c4:(gn:Int)=vars
    ·repeat'(first|intro(g:Nat)|refine gA ?_|intro v)
     revert g;intro g1;refine WL.Yv (containsL_c M m gn ln a b g 188 [] [ptr g1] [ce g1 118 (pcs M vars)] (λi=>decide ((ln i:Int)≠vars)) (λi hi=>valid1_c M m gn ln a b g g1 vars i hi)) ?_ (hF:=.cons (.f hmA) (.cons (.c meA) .nil));cases hx:(X.fstT (λi=>decide ((ln i:Int)≠vars)) m 0).isSome with
     |true=>
            repeat'(first|intro(g:Nat)|refine gA ?_|intro v)
            refine WC.ret ?_;exact Fin.v (Qh.t1 rfl rfl) meA (by simp only[Gu,hx];rw[if_neg qo,if_pos (.inr (.inr trivial))])
     |false=>
            repeat'(first|intro(g:Nat)|refine gA ?_|intro v)
            refine WC.ret ?_;exact Fin.v (Qh.t1 rfl rfl) meA (by simp only[Gu,hx];rw[if_neg qo,if_neg (by simp[c3,c4])])
    ·repeat'(first|intro(g:Nat)|refine gA ?_|intro v)
     refine WC.ret ?_;exact Fin.v (Qh.t1 rfl rfl) meA (by simp[Gu,c1,c2,c4])
end
end Z
end
section
open W Go.RowKit
namespace Z
attribute [local irreducible] WC WL WD YO LO Qq W.Fin Qk Qw Qj Row QJ Qv KnS Has W.One Qa Qs
def d125{G G':Prop}(h:G')(s:Bx G'->G:=by
 intro h;first|refine gB ?_|refine Zp ?_|(apply WC.draw (id:=5) [0,1,2,3,4,5,6,7,8] (.h 0<|.h 1<|.h 2<|.h 3<|.h 4<|.h 5<|.h 6<|.h 7<|.h 8<|.l 9<|.l 10<|.l 11<|.l 12 .done) mixed kr)|fail
 exact Bx.h h):G:=s ⟨h⟩
def sum_c(v:Value)(n K:Nat)(ms:Nat->QM)(q:Nat->Rat)(hn:n<=10000)(hK:n*(K+1)+1+K<=400000000)(hq:∀i,i<n->Sq K (q i)):FnB Tryz.prog 199 [v] [] [fF v n ms q] (IsR (X.sm n q)):=by
 refine fO [(0,v)] 17 Tryz.func199 Tryz.ntmps199 λh0=>?_
 have hsm:∀i,i<=n->Sm (X.sm i q):=λi hi=>(X.Zh (f:=q) (m:=i) (k:=K) λj hj=>hq j qo).sm (by
  have:=Nat.mul_le_mul_right (K+1) hi;omega)
 repeat'(first|intro(g:Nat)|refine gA ?_|intro v)
 rename_i g2
 revert g;intro g3
 refine WC.lp (σ:=Nat×QM) (λst=>[(8,.int .i64 (st.1:Int)),(7,.int .i64 (n:Int)),(6,v),(3,ptr g3),(2,ptr g2)]) (λst=>[Ow.cells g3 75 (qcs st.2),Ow.cells g2 75 (qcs m00)])
  (λst=>[isQ (qv st.2) (X.sm st.1 q),ge h0,fF v n ms q]) (λst=>st.1<=n) (λst=>n-st.1) (0,m00) (Nat.zero_le _) ?_ (hG:=.cons Jm (.cons hmA (.cons hmA .nil)))
 rintro⟨k,m⟩ hk;simp only at hk ⊢;by_cases c:k<n
 ·refine WC.fact (isQ (qv (ms k)) (q k)) (W.Has.q (W.Has.fm (v:=v) hmA) c) ?_;repeat'(first|intro(g:Nat)|refine gA ?_|intro v)
  refine cW (Zn.add m (ms k) (X.sm k q) (q k) (hsm k qo) ((hq k c).sm qo)) λm3=>?_;repeat'(first|intro(g:Nat)|refine gA ?_|intro v)
  exact Qq.mk (k+1,m3) (by show k+1<=n;omega) (by show n-(k+1)<n-k;omega)
 ·obtain rfl:n=k:=qo;repeat'(first|intro(g:Nat)|refine gA ?_|intro v)
  refine WC.ret ?_;exact Fp [isQ (qv m) (X.sm n q)] (rcV T.r75) haA ⟨m,rfl,rfl,rfl⟩
def dtx(a b:Nat->Rat)(k j:Nat):Rat:=if j<k then a j*b j else 0
def dtx_up{a b:Nat->Rat}{k:Nat}(j:Nat)(hj:j<k+1):upd (dtx a b k) k (a k*b k) j=dtx a b (k+1) j:=by
 unfold dtx upd;by_cases c:j=k
 ·subst c;simp
 ·rw[if_neg c,if_pos hj];show(if j<k then _ else _)=_;rw[if_pos qo]
def dot_c(x y:Value)(n K:Nat)(ma mb:Nat->QM)(a b:Nat->Rat)(hn:n<=10000)(hK:n*(2*K+1)+1+2*K<=400000000)(ha:∀i,i<n->Sq K (a i))(hb:∀i,i<n->Sq K (b i)):FnB Tryz.prog 125 [x,y] [] [fF x n ma a,fF y n mb b] (IsR (X.sm n λi=>a i*b i)):=by
 refine fO [(0,x),(1,y)] 30 Tryz.func125 Tryz.ntmps125 λh0=>?_;refine WC.Q8 75 4 ?_;repeat'(first|intro(g:Nat)|refine d125 ?_|intro v)
 revert g;intro g4;rw[show min (n:Int) (n:Int)=(n:Int) by omega]
 refine WC.lp (σ:=Nat×Value×(Nat->QM)) (λst=>[(12,.int .i64 (st.1:Int)),(11,.int .i64 (n:Int)),(0,x),(1,y),(5,st.2.1),(4,ptr g4)]) (λst=>[Ow.cells g4 75 (qcs m00),Ow.slice st.2.1 75 4 (Qe st.1 st.2.2)])
  (λst=>[mF st.1 st.2.2 (dtx a b st.1),ge h0,fF x n ma a,fF y n mb b]) (λst=>st.1<=n) (λst=>n-st.1) (0,.slice none 0 0,λ_=>m00) (Nat.zero_le _) ?_ (hG:=.cons (W.Has.mFn _ _) (.cons hmA (.cons hmA (.cons hmA .nil))))
 rintro⟨k,sv,ms⟩ hk;simp only at hk ⊢;by_cases c:k<n
 ·refine WC.fact (isQ (qv (ma k)) (a k)) (W.Has.q (W.Has.fm (v:=x) hmA) c) ?_;refine WC.fact (isQ (qv (mb k)) (b k)) (W.Has.q (W.Has.fm (v:=y) hmA) c) ?_;repeat'(first|intro(g:Nat)|refine d125 ?_|intro v)
  refine cW (Zn.mul (ma k) (mb k) (a k) (b k) ((ha k c).sm qo) ((hb k c).sm qo)) λm3=>?_;refine WD.fact (mF (k+1) (upd ms k m3) (dtx a b (k+1))) ((W.Has.mFapp (n:=k) (ms:=ms) (m:=m3) (qf:=dtx a b k) hmA hmA).QH λj hj=>dtx_up j hj) ?_;repeat'(first|intro(g:Nat)|refine d125 ?_|intro v)
  exact Qq.mk (k+1,_,_) (by show k+1<=n;omega) (by show n-(k+1)<n-k;omega)
 ·obtain rfl:n=k:=qo;repeat'(first|intro(g:Nat)|refine d125 ?_|intro v)
  refine WL.JP sv n ms (dtx a b n) (by repeat(first|exact Sel.head|apply Sel.tail)) hmA ?_;refine cW (sum_c sv n (2*K) ms (dtx a b n) hn hK (λi hi=>by unfold dtx;rw[if_pos hi];exact(Sq.mul (ha i hi) (hb i hi)).up qo)) λm5=>?_;repeat'(first|intro(g:Nat)|refine d125 ?_|intro v)
  refine WC.ret ?_;have he:X.sm n (dtx a b n)=X.sm n λi=>a i*b i:=X.Qd λi hi=>by unfold dtx;rw[if_pos hi]
  rw[<-he];exact Fp [isQ (qv m5) (X.sm n (dtx a b n))] (rcV T.r75) haA ⟨m5,rfl,rfl,rfl⟩
end Z
end
section
open W Go.RowKit
section
variable {fr:CF}{w:World}{bx:List Ow}{F:List Fct}
def H0{el sz:Nat}(h:OK fr (Ow.slice (.slice none 0 0) el sz []::bx) F w):OK fr bx F w:=h.drop (List.sublist_cons_self _ _)
def ok_rows{n:Nat}{rv:Nat->Value}{ms:Nat->Nat->QM}:∀(l:List Nat) (F:List Fct),OK fr (U5 l n rv ms++bx) F w->OK fr bx ((l.map λi=>slC (rv i) n 4 (JU (ms i)))++F) w
 |[],F,h=>h
 |i::l,F,h=>by
  have h1:=(OK.freeze (n:=n) (sz:=4) h Sel.head (Qy _ _) qd (JU (ms i)) λj hj=>QW hj)
  have h2:=ok_rows l _ (H0 h1);refine h2.less λf hf=>?_;simp only[List.map_cons,List.cons_append,List.mem_cons,List.mem_append] at hf ⊢;rcases hf with rfl|hf|hf
  ·exact .inr (.inl rfl)
  ·exact .inl hf
  ·exact .inr (.inr hf)
def okT{xg vars m n:Nat}{tv cv bv:Value}{rv:Nat->Value}{ms:Nat->Nat->QM}{mc:Nat->QM}{s:X.St}(ho:OK fr (TB xg vars m n tv cv bv rv ms mc s.b++bx) F w)(h1:Has F (mT m (n+1) ms s.t))(h2:Has F (mF (n+1) mc s.c)) :
  OK fr bx (fF cv (n+1) mc s.c::(TF xg vars m n tv cv bv rv ms s++F)) w:=by
 have a1:=OK.keep ho Rem.head;have a2:=H0 (OK.freeze (n:=m) (sz:=1) a1 Sel.head (by rw[ZE,Nat.mul_one]) qd rv λj hj=>HH qo);have a3:=H0 (OK.freeze (n:=n+1) (sz:=4) a2 Sel.head (Qy _ _) qd (JU mc) λj hj=>QW hj)
 have a4:=H0 (OK.freeze (n:=m) (sz:=1) a3 Sel.head (by simp[fnL]) qd (λi=>.int .i64 (s.b i)) λj hj=>by
  have hj':j<m:=qo;simp[fnL,hj'])
 have a5:=ok_rows _ _ a4;refine⟨a5.frame,a5.apart,a5.nodup,a5.owns,λf hf=>?_⟩;have hF:∀f∈F,f.p (imm fr bx w.heap):=λf hf=>a5.facts f (List.mem_append_right _ (by simp[hf]));simp only[List.cons_append,List.nil_append,List.mem_cons] at hf;rcases hf with rfl|rfl|rfl|rfl|rfl|hf
 ·exact⟨a5.facts _ (List.mem_append_right _ (by simp)),h2 _ hF⟩
 ·exact a5.facts _ (List.mem_append_right _ (by simp))
 ·exact a5.facts _ (List.mem_append_right _ (by simp))
 ·exact⟨λi hi=>a5.facts _ (List.mem_append_left _ (List.mem_map.2 ⟨i,List.mem_range.2 hi,rfl⟩)),h1 _ hF⟩
 ·exact a5.facts _ (List.mem_append_right _ (by simp))
 ·exact hF f hf
def WL.HF{P:Program}{nn:Nat}{L rest:List Oper}{e:Env}{Q2:Env->List Ow->List Fct->Prop}{xg vars m n:Nat}{tv cv bv:Value}{rv:Nat->Value}{ms:Nat->Nat->QM}{mc:Nat->QM}(s:X.St){bx':List Ow}(hp:bx.Perm (TB xg vars m n tv cv bv rv ms mc s.b++bx'))(h1:Has F (mT m (n+1) ms s.t))(h2:Has F (mF (n+1) mc s.c))
  (h:WL P nn L rest e bx' (fF cv (n+1) mc s.c::(TF xg vars m n tv cv bv rv ms s++F)) Q2):WL P nn L rest e bx F Q2:=λfr w0 a w Q' hQ hk hr ho=>h fr w0 a w Q' hQ hk hr (okT (ho.perm hp) h1 h2)
end
def AnsP(p:X.Lp)(kind xn yn:Nat)(x y:Nat->Rat)(z:Rat):Prop:=
 (kind=1/\xn=0/\yn=p.m/\z=0/\X.Ua p y)\/(kind=0/\xn=p.v/\yn=p.m/\X.IsOpt p x y z)\/(kind=2/\xn=p.v/\yn=p.v/\z=0/\X.IsUnb p x y)
structure Am where
 xv:Value
 yv:Value
 mx:Nat->QM
 my:Nat->QM
 mz:QM
abbrev acs(M:Am)(kind:Int):List Value:=[.int .i64 kind,M.xv,M.yv,.bool M.mz.1,M.mz.2.1,.bool false,M.mz.2.2]
abbrev agv(M:Am)(kind:Int):Value:=.agg #[.int .i64 kind,M.xv,M.yv,.bool M.mz.1,M.mz.2.1,.bool false,M.mz.2.2]
def fA(M:Am)(xn yn:Nat)(x y:Nat->Rat)(z:Rat):Fct where
 p h:=(fF M.xv xn M.mx x).p h/\(fF M.yv yn M.my y).p h/\(isQ (qv M.mz) z).p h
 mono _ _ hl hp:=⟨(fF _ _ _ _).mono _ _ hl hp.1,(fF _ _ _ _).mono _ _ hl hp.2.1,(isQ _ _).mono _ _ hl hp.2.2⟩
end
end Go.Proofs.YtbnobghgnbockaaGreat
