/- Lemmas for the proof of a law: Contract of simplex's made. Conditions: none. -/
import Derived.Test.YtaongbhamadlkaaGreatBs8
import Derived.Test.YtaongbhamadlkaaGreatBs9
set_option linter.unusedVariables false
set_option linter.unusedSimpArgs false
set_option linter.unusedSectionVars false
namespace Go.Proofs.YtaongbhamadlkaaGreat
open W Go.RowKit
section
variable {P:Program} {n:Nat} {L rest:List Oper} {e:Env} {bx:List Ow} {F:List Fct} {Q2:Env→List Ow→List Fct→Prop}
theorem WD.callGC {hs:List Nat} {b0:List Ow} {F0 F':List Fct} {p:Plan} {i d:Nat} {f:FuncId} {x:Operand} {args:List Operand} {ats:Array TypeId} {vs:List Value} {R:RPost} {ty:TypeId} {pos:String} {af:Array Edge} {gd:Option (Nat×Bool)} (first cap:List Value) (ba br:List Ow) (hp:bx.Perm (ba++br)) (hf:FnB P f (first++vs++cap) ba F' R) (hK:∀ v b G,R v b G→WD P n L hs b0 F0 p ((d,v)::e) (b++br) (G++F) Q2)
  (hL:L[i]?=some ⟨some d,.call {callee:=.value x,args:=args.toArray,argTypes:=ats},ty,pos,af,gd⟩:=by exact rfl) (hx:ev e x=some (.func (.func f) first.toArray cap.toArray):=by exact rfl) (hv:Evs e args vs:=by repeat(first|exact Evs.nil|(apply Evs.cons;exact rfl))) (hF:HasAll F F':=by repeat(first|exact HasAll.nil|(apply HasAll.cons;exact hsA)))
  (hd:Nat.blt d n=true:=by exact rfl) (hg:gok L e gd=some true:=by exact rfl) (lt:lateB L hs i=true:=by kernel_rfl):WD P n L hs b0 F0 (.loud i p) e bx F Q2:=
 WD.l hL hd hg (LO.call hx hv ba br hp hf hF.all fun v b G hR=>⟨.inl lt,hK v b G hR⟩)
theorem WL.callGC {F':List Fct} {d:Nat} {f:FuncId} {x:Operand} {args:List Operand} {ats:Array TypeId} {vs:List Value} {R:RPost} {ty:TypeId} {pos:String} {af:Array Edge} {gd:Option (Nat×Bool)} (first cap:List Value) (ba br:List Ow) (hp:bx.Perm (ba++br)) (hf:FnB P f (first++vs++cap) ba F' R) (hK:∀ v b G,R v b G→WL P n L rest ((d,v)::e) (b++br) (G++F) Q2)
  (hx:ev e x=some (.func (.func f) first.toArray cap.toArray):=by exact rfl) (hv:Evs e args vs:=by repeat(first|exact Evs.nil|(apply Evs.cons;exact rfl))) (hF:HasAll F F':=by repeat(first|exact HasAll.nil|(apply HasAll.cons;exact hsA)))
  (hd:Nat.blt d n=true:=by exact rfl) (hg:gok L e gd=some true:=by exact rfl):WL P n L (⟨some d,.call {callee:=.value x,args:=args.toArray,argTypes:=ats},ty,pos,af,gd⟩::rest) e bx F Q2:=
 WL.l hd hg (LO.call hx hv ba br hp hf hF.all hK)
end
theorem YO.lssD {P:Program} {e:Env} {bx:List Ow} {F:List Fct} {ty t t':TypeId} {x y:Operand} {k:IntKind} {i j:Int} (hx:ev e x=some (.int k i)) (hy:ev e y=some (.int k j)):YO P (.binOp .lss t x y t') ty e bx F (.bool (decide (i < j))):=YO.cmp hx hy (by simp)
theorem WC.isSl {P:Program} {n k:Nat} {c:Code} {e:Env} {bx:List Ow} {F:List Fct} {Q:Post} {v:Value} (hk:KnS bx F v k) (h:∀ a c',v=.slice a k c'→WC P n c e bx F Q):WC P n c e bx F Q:=
 WC.pure (p:=∃ a c',v=.slice a k c') (fun fr w ho=>by obtain⟨a,c',h1,_⟩:=(hk fr w ho).is;exact⟨a,c',h1⟩) fun ⟨a,c',h1⟩=>h a c' h1
def rwx (p:X.Lp) (i k j:Nat):Rat:=if j < k then p.A i j else if p.v≤j∧j < p.v+k then p.A i j else 0
theorem rwx_up {p:X.Lp} {i k:Nat} {neg:Bool} (hn:neg=decide (p.b i < 0)) (hk:k < p.v) (j:Nat):upd (upd (rwx p i k) k (if neg=true then -(p.a i k) else p.a i k)) (p.v+k) (if neg=true then -(-(p.a i k)) else -(p.a i k)) j=rwx p i (k+1) j:=by
 have hs:p.sg i=if neg=true then -1 else 1:=by
  unfold X.Lp.sg;rw[hn]
  by_cases c:p.b i < 0 <;> simp[c]
 have h1:(if neg=true then -(p.a i k) else p.a i k)=p.A i k:=by
  unfold X.Lp.A
  rw[if_pos hk,hs]
  cases neg <;> simp <;> grind
 have h2:(if neg=true then -(-(p.a i k)) else -(p.a i k))=p.A i (p.v+k):=by
  unfold X.Lp.A
  rw[if_neg (show ¬p.v+k < p.v by omega),if_pos (show p.v+k < 2*p.v by omega),hs,show p.v+k - p.v=k by omega]
  cases neg <;> simp <;> grind
 rw[h1,h2]
 unfold upd rwx
 by_cases c1:j=p.v+k
 ·subst c1
  rw[if_pos rfl,if_neg (by omega),if_pos (by omega)]
 ·rw[if_neg c1]
  by_cases c2:j=k
  ·subst c2
   rw[if_pos rfl,if_pos (by omega)]
  ·rw[if_neg c2]
   by_cases c3:j < k
   ·rw[if_pos c3,if_pos (by omega)]
   ·rw[if_neg c3,if_neg (show ¬j < k+1 by omega)]
    by_cases c4:p.v≤j∧j < p.v+k
    ·rw[if_pos c4,if_pos (by omega)]
    ·rw[if_neg c4,if_neg (by omega)]
theorem rwx_all {p:X.Lp} {i:Nat} {neg:Bool} (hn:neg=decide (p.b i < 0)) (hi:i < p.m) (f:Nat→Rat) (hf:∀ j,f j=upd (upd (rwx p i p.v) (2*p.v+i) (if neg=true then -(Rat.divInt 1 1) else Rat.divInt 1 1)) p.n (if neg=true then -(p.b i) else p.b i) j) :
  (neg=false→∀ j,j < p.n+1→f j=p.A i j)∧(neg=true→∀ j,j < p.n+1→upd f (p.la+i) (Rat.divInt 1 1) j=p.A i j):=by
 have hs:p.sg i=if neg=true then -1 else 1:=by
  unfold X.Lp.sg;rw[hn]
  by_cases c:p.b i < 0 <;> simp[c]
 have hb:p.b i < 0↔neg=true:=by rw[hn];simp
 have h1:Rat.divInt 1 1=1:=by decide +kernel
 have hla:p.la=2*p.v+p.m:=rfl
 have hnn:p.n=2*p.v+2*p.m:=rfl
 have key:∀ j,j < p.n+1→j≠p.la+i→f j=p.A i j:=fun j hj hne=>by
  rw[hf,h1]
  unfold upd rwx X.Lp.A
  rw[hs]
  by_cases c1:j=p.n
  ·subst c1
   rw[if_pos rfl,if_neg (show ¬p.n < p.v by omega),if_neg (show ¬p.n < 2*p.v by omega),if_neg (show ¬p.n < p.la by omega),if_neg (show ¬p.n < p.n by omega)]
   cases neg <;> simp <;> grind
  ·rw[if_neg c1]
   by_cases c2:j=2*p.v+i
   ·subst c2
    rw[if_pos rfl,if_neg (show ¬2*p.v+i < p.v by omega),if_neg (show ¬2*p.v+i < 2*p.v by omega),if_pos (show 2*p.v+i < p.la by omega),if_pos rfl]
   ·rw[if_neg c2]
    by_cases c3:j < p.v
    ·rw[if_pos c3,if_pos c3]
    ·rw[if_neg c3,if_neg c3]
     by_cases c4:j < 2*p.v
     ·rw[if_pos (show p.v≤j∧j < p.v+p.v by omega),if_pos c4]
     ·rw[if_neg (show ¬(p.v≤j∧j < p.v+p.v) by omega),if_neg c4]
      by_cases c5:j < p.la
      ·rw[if_pos c5,if_neg c2]
      ·rw[if_neg c5,if_pos (show j < p.n by omega),if_neg (fun h=>hne h.1)]
 refine⟨fun hf0 j hj=>?_,fun ht j hj=>?_⟩
 ·by_cases c:j=p.la+i
  ·subst c
   rw[hf,h1]
   unfold upd rwx X.Lp.A
   rw[if_neg (show ¬p.la+i=p.n by omega),if_neg (show ¬p.la+i=2*p.v+i by omega),if_neg (show ¬p.la+i < p.v by omega),if_neg (show ¬(p.v≤p.la+i∧p.la+i < p.v+p.v) by omega),if_neg (show ¬p.la+i < p.v by omega),if_neg (show ¬p.la+i < 2*p.v by omega),if_neg (show ¬p.la+i < p.la by omega),if_pos (show p.la+i < p.n by omega),if_neg (fun h=>by have:=hb.1 h.2;rw[hf0] at this;cases this)]
  ·exact key j hj c
 ·unfold upd
  by_cases c:j=p.la+i
  ·subst c
   rw[if_pos rfl,h1]
   unfold X.Lp.A
   rw[if_neg (show ¬p.la+i < p.v by omega),if_neg (show ¬p.la+i < 2*p.v by omega),if_neg (show ¬p.la+i < p.la by omega),if_pos (show p.la+i < p.n by omega),if_pos ⟨rfl,hb.2 ht⟩]
  ·rw[if_neg c];exact key j hj c
theorem upd_same {α:Type} {f:Nat→α} {i:Nat} {c:α} (h:f i=c):upd f i c=f:=funext fun j=>by
 unfold upd
 by_cases e:j=i
 ·rw[if_pos e,e,h]
 ·rw[if_neg e]
theorem has_tapp {F:List Fct} {i w:Nat} {ms:Nat→Nat→QM} {A:Nat→Nat→Rat} {mx:Nat→QM} {f:Nat→Rat} (h:Has F (mT i w ms A)) (hx:Has F (mF w mx f)) (hf:∀ j,j < w→f j=A i j):Has F (mT (i+1) w (upd ms i mx) A):=fun p hp k hk j hj=>by
 by_cases c:k=i
 ·subst c;rw[upd_at,←hf j hj];exact hx p hp j hj
 ·rw[upd_ne c];exact h p hp k (by omega) j hj
theorem hasT0 {F:List Fct} {w:Nat} {ms:Nat→Nat→QM} {t:Nat→Nat→Rat}:Has F (mT 0 w ms t):=fun p hf i hi=>absurd hi (by omega)
def IsMk (M:Pm) (p:X.Lp):RPost:=fun v B G=>∃ xg tv bv rv ms,v=ptr xg∧B=TM xg p.v p.m p.n tv (.slice none 0 0) bv rv ms p.s0.b∧G=[mT p.m (p.n+1) ms p.A]
namespace Z
attribute [local irreducible] WC WL WD YO LO LoopEnd W.Fin Scalar SliceT FieldAt Row ArrT AllocT KnS Has W.One SrcE IntT
theorem d44 {G G':Prop} (h:G') (s:Bx G'→G:=by
 intro h
 first|(apply WC.draw (id:=13) [0,1,2,3,4,5] (.held 0 (.held 1 (.held 2 (.held 3 (.held 4 (.held 5 (.loud 6 (.loud 7 (.done))))))))) mixed (by kernel_rfl))|(apply WC.draw (id:=15) [0,1,2,3,4,5] (.held 0 (.held 1 (.held 2 (.held 3 (.held 4 (.held 5 (.loud 6 (.loud 7 (.done))))))))) mixed (by kernel_rfl))|(apply WC.draw (id:=16) [0,1,2,3,4,5,6] (.held 0 (.held 1 (.held 2 (.held 3 (.held 4 (.held 5 (.held 6 (.loud 7 (.done))))))))) mixed (by kernel_rfl))|(apply WC.draw (id:=20) [0,1,3] (.held 0 (.held 1 (.loud 2 (.held 3 (.loud 4 (.done)))))) mixed (by kernel_rfl))|fail
 exact Bx.h h):G:=s ⟨h⟩
theorem goYL {G G':Prop} (h:G') (s:Bx G'→G:=by
 intro h
 (apply WD.fy;exact rfl;(first|(apply YO.move;exact rfl)|(apply YO.assign;exact rfl)|(first|(apply YO.lss_t;exact rfl;exact rfl;omega)|(apply YO.lss_f;exact rfl;exact rfl;omega))|(first|(apply YO.inc;exact rfl;exact rfl;omega)|(apply YO.add;exact rfl;exact rfl;omega;omega))|(apply YO.len;(first|exact T.s22|exact T.s23|exact T.s24|exact T.s48|exact T.s72|exact T.s86|exact T.s129|exact T.s131);exact rfl;exact knA)|(first|(first|(apply YO.ix1;(first|exact T.s22|exact T.s23|exact T.s24|exact T.s48|exact T.s72|exact T.s86|exact T.s129|exact T.s131);exact rfl;exact rfl;exact knA;omega)|(apply YO.ix;(first|exact T.s22|exact T.s23|exact T.s24|exact T.s48|exact T.s72|exact T.s86|exact T.s129|exact T.s131);exact rfl;exact rfl;exact knA;omega)|(apply YO.ix1';(first|exact T.s22|exact T.s23|exact T.s24|exact T.s48|exact T.s72|exact T.s86|exact T.s129|exact T.s131);exact rfl;exact rfl;exact knA;omega;omega)|(apply YO.ix';(first|exact T.s22|exact T.s23|exact T.s24|exact T.s48|exact T.s72|exact T.s86|exact T.s129|exact T.s131);exact rfl;exact rfl;exact knA;omega;omega))|(apply YO.ix1;(first|exact T.s22|exact T.s23|exact T.s24|exact T.s48|exact T.s72|exact T.s86|exact T.s129|exact T.s131);exact rfl;exact rfl;exact knA;(first|omega|(simp only[List.length_set,List.length_replicate];omega)))|(apply YO.ix;(first|exact T.s22|exact T.s23|exact T.s24|exact T.s48|exact T.s72|exact T.s86|exact T.s129|exact T.s131);exact rfl;exact rfl;exact knA;(first|omega|(simp only[List.length_set,List.length_replicate];omega)))|(apply YO.ix1';(first|exact T.s22|exact T.s23|exact T.s24|exact T.s48|exact T.s72|exact T.s86|exact T.s129|exact T.s131);exact rfl;exact rfl;exact knA;omega;(first|omega|(simp only[List.length_set,List.length_replicate];omega))))|(first|(apply YO.ldON;(first|exact T.sc3|exact T.sc4|exact T.sc22|exact T.sc23|exact T.sc24|exact T.sc34|exact T.sc48|exact T.sc72|exact T.sc84|exact T.sc86|exact T.sc103|exact T.sc129|exact T.sc131|exact T.sc162);exact rfl;exact meA;omega)|(apply YO.ldOV;(first|exact T.sc3|exact T.sc4|exact T.sc22|exact T.sc23|exact T.sc24|exact T.sc34|exact T.sc48|exact T.sc72|exact T.sc84|exact T.sc86|exact T.sc103|exact T.sc129|exact T.sc131|exact T.sc162);exact rfl;exact meA;omega)|(apply YO.ldW;(first|exact T.r26|exact T.r29|exact T.r31|exact T.r33|exact T.r60|exact T.r77|exact T.r88|exact T.r107|exact T.r123|exact T.r134);exact rfl;exact meA;exact rfl)|(apply YO.ld42;(first|exact T.r26|exact T.r29|exact T.r31|exact T.r33|exact T.r60|exact T.r77|exact T.r88|exact T.r107|exact T.r123|exact T.r134);exact rfl;exact meA)|(apply YO.ld40;(first|exact T.r26|exact T.r29|exact T.r31|exact T.r33|exact T.r60|exact T.r77|exact T.r88|exact T.r107|exact T.r123|exact T.r134);exact rfl;exact meA)|(apply YO.ld62;(first|exact T.r26|exact T.r29|exact T.r31|exact T.r33|exact T.r60|exact T.r77|exact T.r88|exact T.r107|exact T.r123|exact T.r134);exact rfl;exact meA)|(apply YO.ld51;(first|exact T.r26|exact T.r29|exact T.r31|exact T.r33|exact T.r60|exact T.r77|exact T.r88|exact T.r107|exact T.r123|exact T.r134);exact rfl;exact meA)|(apply YO.ldFf;(first|exact T.r26|exact T.r29|exact T.r31|exact T.r33|exact T.r60|exact T.r77|exact T.r88|exact T.r107|exact T.r123|exact T.r134);exact rfl;exact hmA;omega)|(apply YO.ldOR;(first|exact T.r26|exact T.r29|exact T.r31|exact T.r33|exact T.r60|exact T.r77|exact T.r88|exact T.r107|exact T.r123|exact T.r134);exact rfl;exact meA;omega)|(apply YO.ldRf;(first|exact T.r26|exact T.r29|exact T.r31|exact T.r33|exact T.r60|exact T.r77|exact T.r88|exact T.r107|exact T.r123|exact T.r134);exact rfl;exact hmA;omega;omega)|(apply YO.ldPl;(first|exact T.r26|exact T.r29|exact T.r31|exact T.r33|exact T.r60|exact T.r77|exact T.r88|exact T.r107|exact T.r123|exact T.r134);exact rfl;exact hmA;omega)|(apply YO.ld73;(first|exact T.r26|exact T.r29|exact T.r31|exact T.r33|exact T.r60|exact T.r77|exact T.r88|exact T.r107|exact T.r123|exact T.r134);exact rfl;exact meA)|(apply YO.ldWI0;(first|exact T.r26|exact T.r29|exact T.r31|exact T.r33|exact T.r60|exact T.r77|exact T.r88|exact T.r107|exact T.r123|exact T.r134);exact rfl;exact meA;(first|omega|(simp only[List.length_set,List.length_replicate];omega)))|(apply YO.ldWF0;(first|exact T.r26|exact T.r29|exact T.r31|exact T.r33|exact T.r60|exact T.r77|exact T.r88|exact T.r107|exact T.r123|exact T.r134);exact rfl;exact hmA;(first|omega|(simp only[List.length_set,List.length_replicate];omega)))|(apply YO.ldCI;(first|exact T.sc3|exact T.sc4|exact T.sc22|exact T.sc23|exact T.sc24|exact T.sc34|exact T.sc48|exact T.sc72|exact T.sc84|exact T.sc86|exact T.sc103|exact T.sc129|exact T.sc131|exact T.sc162);exact rfl;exact meA;(first|omega|(simp only[List.length_set,List.length_replicate];omega)))|(apply YO.ldFI;(first|exact T.sc3|exact T.sc4|exact T.sc22|exact T.sc23|exact T.sc24|exact T.sc34|exact T.sc48|exact T.sc72|exact T.sc84|exact T.sc86|exact T.sc103|exact T.sc129|exact T.sc131|exact T.sc162);exact rfl;exact hmA;(first|omega|(simp only[List.length_set,List.length_replicate];omega)))|(apply YO.ldF;(first|exact T.sc3|exact T.sc4|exact T.sc22|exact T.sc23|exact T.sc24|exact T.sc34|exact T.sc48|exact T.sc72|exact T.sc84|exact T.sc86|exact T.sc103|exact T.sc129|exact T.sc131|exact T.sc162);exact rfl;exact hmA;exact rfl)|(apply YO.ldS;(first|exact T.sc3|exact T.sc4|exact T.sc22|exact T.sc23|exact T.sc24|exact T.sc34|exact T.sc48|exact T.sc72|exact T.sc84|exact T.sc86|exact T.sc103|exact T.sc129|exact T.sc131|exact T.sc162);exact rfl;exact hsA;omega)|(apply YO.ldB;(first|exact T.sc3|exact T.sc4|exact T.sc22|exact T.sc23|exact T.sc24|exact T.sc34|exact T.sc48|exact T.sc72|exact T.sc84|exact T.sc86|exact T.sc103|exact T.sc129|exact T.sc131|exact T.sc162);exact rfl;exact meA;exact rfl)|(apply YO.ldOI;(first|exact T.sc3|exact T.sc4|exact T.sc22|exact T.sc23|exact T.sc24|exact T.sc34|exact T.sc48|exact T.sc72|exact T.sc84|exact T.sc86|exact T.sc103|exact T.sc129|exact T.sc131|exact T.sc162);exact rfl;exact meA;(first|omega|(simp only[List.length_set,List.length_replicate];omega))))|(first|(apply YO.pick_t;exact rfl;exact rfl)|(apply YO.pick_f;exact rfl;exact rfl))|(first|(apply YO.fieldE;(first|exact T.f26_0|exact T.f26_1|exact T.f26_2|exact T.f29_0|exact T.f29_1|exact T.f31_0|exact T.f31_1|exact T.f33_0|exact T.f33_1|exact T.f33_2|exact T.f33_3|exact T.f60_0|exact T.f60_1|exact T.f77_0|exact T.f77_1|exact T.f77_2|exact T.f88_0|exact T.f88_1|exact T.f88_2|exact T.f88_3|exact T.f88_4|exact T.f88_5|exact T.f107_0|exact T.f107_1|exact T.f107_2|exact T.f123_0|exact T.f123_1|exact T.f134_0|exact T.f134_1);exact rfl)|(apply YO.fieldN;(first|exact T.f26_0|exact T.f26_1|exact T.f26_2|exact T.f29_0|exact T.f29_1|exact T.f31_0|exact T.f31_1|exact T.f33_0|exact T.f33_1|exact T.f33_2|exact T.f33_3|exact T.f60_0|exact T.f60_1|exact T.f77_0|exact T.f77_1|exact T.f77_2|exact T.f88_0|exact T.f88_1|exact T.f88_2|exact T.f88_3|exact T.f88_4|exact T.f88_5|exact T.f107_0|exact T.f107_1|exact T.f107_2|exact T.f123_0|exact T.f123_1|exact T.f134_0|exact T.f134_1);exact rfl;((try simp only[Nat.zero_add,Nat.mul_one,Nat.reduceAdd,Nat.reduceMul]);exact rfl)))|(first|(first|(first|(apply YO.eql_t;exact rfl;exact rfl;omega)|(apply YO.eql_f;exact rfl;exact rfl;omega))|(apply YO.eqNil_t;(first|exact T.s22|exact T.s23|exact T.s24|exact T.s48|exact T.s72|exact T.s86|exact T.s129|exact T.s131);exact rfl;exact knA;assumption)|(apply YO.eqNil_f;(first|exact T.s22|exact T.s23|exact T.s24|exact T.s48|exact T.s72|exact T.s86|exact T.s129|exact T.s131);exact rfl;exact knA;assumption))|(apply YO.beq_t;exact bool_t;exact rfl;exact rfl;(first|rfl|assumption|decide))|(apply YO.beq_f;exact bool_t;exact rfl;exact rfl;(first|rfl|assumption|decide))|(apply YO.eqNz_t;(first|exact T.s22|exact T.s23|exact T.s24|exact T.s48|exact T.s72|exact T.s86|exact T.s129|exact T.s131);exact rfl;exact knA;assumption)|(apply YO.eqNz_f;(first|exact T.s22|exact T.s23|exact T.s24|exact T.s48|exact T.s72|exact T.s86|exact T.s129|exact T.s131);exact rfl;exact knA;assumption))|(first|(first|(apply YO.neq_t;exact rfl;exact rfl;omega)|(apply YO.neq_f;exact rfl;exact rfl;omega))|(apply YO.bne_t;exact bool_t;exact rfl;exact rfl;(first|rfl|assumption|decide))|(apply YO.bne_f;exact bool_t;exact rfl;exact rfl;(first|rfl|assumption|decide)))|(apply YO.nil;exact rfl)|(apply YO.extract;exact rfl;exact rfl)|(first|(apply YO.gtr_t;exact rfl;exact rfl;omega)|(apply YO.gtr_f;exact rfl;exact rfl;omega))|(first|(apply YO.geq_t;exact rfl;exact rfl;omega)|(apply YO.geq_f;exact rfl;exact rfl;omega))|(first|(apply YO.leq_t;exact rfl;exact rfl;omega)|(apply YO.leq_f;exact rfl;exact rfl;omega))|(apply YO.sub;exact rfl;exact rfl;omega;omega)|(first|(apply YO.mul;exact rfl;exact rfl;omega;omega)|(apply YO.umul;exact rfl;exact rfl;omega;omega))|(first|(apply YO.rem;exact rfl;exact rfl;omega;omega)|(apply YO.urem;exact rfl;exact rfl;omega;omega))|(first|(apply YO.quo;exact rfl;exact rfl;omega;omega;omega)|(apply YO.uquo;exact rfl;exact rfl;omega;omega;omega))|(first|(apply YO.not_t;exact rfl)|(apply YO.not_f;exact rfl))|(first|(apply YO.neg;exact rfl;omega;omega)|(apply YO.uneg;exact rfl;omega;omega))|(apply YO.max;exact rfl;exact rfl)|(apply YO.min;exact rfl;exact rfl)|(apply YO.makeFunc;(repeat(first|exact Evs.nil|(apply Evs.cons;exact rfl)));(repeat(first|exact Evs.nil|(apply Evs.cons;exact rfl))))|(first|(first|(apply YO.convU;(first|exact T.u3|exact T.u34|exact T.u162);(first|exact T.u3|exact T.u34|exact T.u162);exact rfl;omega;omega)|(apply YO.convI;(first|exact T.u3|exact T.u34|exact T.u162);(first|exact T.u3|exact T.u34|exact T.u162);exact rfl;omega;omega))|(apply YO.convN;(first|exact T.u3|exact T.u34|exact T.u162);(first|exact T.u3|exact T.u34|exact T.u162);exact rfl;omega;omega))|(apply YO.shl';exact rfl;exact rfl;omega;omega;(first|omega|decide);(first|omega|decide))|(apply YO.shr';exact rfl;exact rfl;omega;omega)|(first|(apply YO.and1;exact rfl;exact rfl;omega;omega)|(apply YO.and;exact rfl;exact rfl;omega;omega;omega;omega))|(apply YO.or;exact rfl;exact rfl;omega;omega;omega;omega)|(apply YO.anot;exact rfl;exact rfl)|(first|(first|(apply YO.slice;(first|exact T.s22|exact T.s23|exact T.s24|exact T.s48|exact T.s72|exact T.s86|exact T.s129|exact T.s131);exact rfl;exact knA;exact Or.inl ⟨rfl,rfl⟩;exact Or.inr ⟨_,rfl,rfl⟩;omega;omega)|(apply YO.slice;(first|exact T.s22|exact T.s23|exact T.s24|exact T.s48|exact T.s72|exact T.s86|exact T.s129|exact T.s131);exact rfl;exact knA;exact Or.inr ⟨_,rfl,rfl⟩;exact Or.inl ⟨rfl,rfl⟩;omega;omega))|(apply YO.slice3;(first|exact T.s22|exact T.s23|exact T.s24|exact T.s48|exact T.s72|exact T.s86|exact T.s129|exact T.s131);exact rfl;exact knA;exact rfl;exact rfl;omega;omega)|(apply YO.slice;(first|exact T.s22|exact T.s23|exact T.s24|exact T.s48|exact T.s72|exact T.s86|exact T.s129|exact T.s131);exact rfl;exact knA;exact Or.inr ⟨_,rfl,rfl⟩;exact Or.inr ⟨_,rfl,rfl⟩;omega;omega)));exact rfl;exact rfl)
 exact Bx.h h):G:=s ⟨h⟩
set_option maxHeartbeats 8000000 in
set_option maxRecDepth 60000 in
theorem made_c (M:Pm) (p:X.Lp) (hv:p.v≤1000) (hm:p.m≤1000):FnB Tryz.prog 44 [pgv M p.v] [] [fP M p] (IsMk M p):=by
 refine fn_of [(0,(pgv M p.v))] 122 Tryz.func44 rfl Tryz.ntmps44 (by kernel_rfl) rfl suA fun h0=>?_
 have hn:p.n=2*p.v+2*p.m:=rfl
 have hla:p.la=2*p.v+p.m:=rfl
 refine WC.addNil 3 1 ?_
 refine WC.addNil 24 1 ?_
 repeat'(first|refine gM ?_|(refine gI ?_;intro g)|(refine gU ?_;intro v)|refine gN ?_ ?_|refine d44 ?_|fail)
 rw[show(2:Int)*(p.v:Int)+2*(p.m:Int)=((p.n:Nat):Int) by rw[hn];simp]
 rename_i gp
 revert g;intro xg
 refine WC.lpP (σ:=Nat×Value×Value×(Nat→Value)×(Nat→Nat→QM)) (fun st=>[(30,.int .i64 (st.1:Int)),(29,.int .i64 (p.m:Int)),(28,M.lv),(4,ptr xg),(3,.int .i64 (p.m:Int)),(1,ptr gp)])
  (fun st=>Ow.cells xg 88 [.int .i64 (p.v:Int),.int .i64 (p.m:Int),.int .i64 (p.n:Int),st.2.1,.slice none 0 0,st.2.2.1]::Ow.cells gp 26 (pcs M p.v)::Ow.slice st.2.1 24 1 (fnV st.1 st.2.2.2.1)::Ow.slice st.2.2.1 3 1 (ints (fnL st.1 p.s0.b))::rowsO st.1 (p.n+1) st.2.2.2.1 st.2.2.2.2)
  (fun st=>[mT st.1 (p.n+1) st.2.2.2.2 p.A,ge h0,fP M p]) (fun st=>st.1≤p.m) (fun st=>p.m - st.1) (0,.slice none 0 0,.slice none 0 0,fun _=>.slice none 0 0,fun _ _=>m00) (Nat.zero_le _) ?_ (hG:=.cons hasT0 (.cons hmA (.cons hmA .nil)))
 rintro⟨i,tv,bv,rv,ms⟩ hi
 simp only at hi ⊢
 by_cases c:i < p.m
 ·refine WC.fact (fF (M.av i) p.v (M.ma i) (p.a i)) (W.Has.pa (M:=M) (gn:=p.v) (ln:=fun _=>p.v) (a:=p.a) (b:=p.b) (g:=p.g) hmA c) ?_
  refine WC.fact (isQ (qv (M.mb i)) (p.b i)) (W.Has.pbq (M:=M) (gn:=p.v) (ln:=fun _=>p.v) (a:=p.a) (b:=p.b) (g:=p.g) hmA c) ?_
  repeat'(first|refine gM ?_|(refine gI ?_;intro g)|(refine gU ?_;intro v)|refine gN ?_ ?_|refine d44 ?_|fail)
  first|refine WL.callV (Zn.sign (M.mb i) (p.b i)) ?_|refine WD.callV (Zn.sign (M.mb i) (p.b i)) ?_
  refine WL.y (YO.lssD rfl rfl) rfl rfl ?_
  have hneg:decide (sgn (p.b i).num < 0)=decide (p.b i < 0):=decide_eq_decide.2 sgn_neg
  rw[hneg]
  generalize hnb:decide (p.b i < 0)=neg
  have hnb':=hnb.symm
  repeat'(first|refine gM ?_|(refine gI ?_;intro g)|(refine gU ?_;intro v)|refine gN ?_ ?_|refine d44 ?_|fail)
  rename_i g6 g7
  revert v;intro lw
  revert g;intro g8
  refine WC.lp (σ:=Nat×(Nat→QM)) (fun st=>[(49,.int .i64 (st.1:Int)),(48,.int .i64 (p.v:Int)),(47,M.av i),(9,.func (.func 113) #[] #[ptr g8,ptr g7]),(8,ptr g8),(7,ptr g7),(6,ptr g6),(5,.int .i64 (i:Int)),(30,.int .i64 (i:Int)),(29,.int .i64 (p.m:Int)),(28,M.lv),(4,ptr xg),(3,.int .i64 (p.m:Int)),(1,ptr gp)])
   (fun st=>Ow.cells g8 4 [.bool neg]::Ow.cells g7 24 [lw]::rowO (p.n+1) lw st.2::Ow.cells g6 60 [M.av i,.bool (M.mb i).1,(M.mb i).2.1,.bool false,(M.mb i).2.2]::Ow.cells xg 88 [.int .i64 (p.v:Int),.int .i64 (p.m:Int),.int .i64 (p.n:Int),tv,.slice none 0 0,bv]::Ow.cells gp 26 (pcs M p.v)::Ow.slice tv 24 1 (fnV i rv)::Ow.slice bv 3 1 (ints (fnL i p.s0.b))::rowsO i (p.n+1) rv ms)
   (fun st=>[mF (p.n+1) st.2 (rwx p i st.1),isQ (qv (M.mb i)) (p.b i),fF (M.av i) p.v (M.ma i) (p.a i),mT i (p.n+1) ms p.A,ge h0,fP M p]) (fun st=>st.1≤p.v) (fun st=>p.v - st.1) (0,fun _=>m00) (Nat.zero_le _) ?_ (hG:=.cons ((W.Has.mF0 (p.n+1)).mFsame fun j _=>by unfold rwx;simp[Nat.not_lt_zero,show ¬(p.v≤j∧j < p.v) by omega]) sfA)
  rintro⟨k,mx⟩ hk
  simp only at hk ⊢
  by_cases ck:k < p.v
  ·refine WC.fact (isQ (qv (M.ma i k)) (p.a i k)) (W.Has.q (W.Has.fm (v:=M.av i) hmA) ck) ?_
   repeat'(first|refine gM ?_|(refine gI ?_;intro g)|(refine gU ?_;intro v)|refine gN ?_ ?_|refine d44 ?_|fail)
   revert g;intro g11
   refine WL.callGC [] [ptr g8,ptr g7] (vs:=[.int .i64 (k:Int),qv (M.ma i k)]) _ (Ow.cells g11 31 (qcs (M.ma i k))::Ow.cells g6 60 [M.av i,.bool (M.mb i).1,(M.mb i).2.1,.bool false,(M.mb i).2.2]::Ow.cells xg 88 [.int .i64 (p.v:Int),.int .i64 (p.m:Int),.int .i64 (p.n:Int),tv,.slice none 0 0,bv]::Ow.cells gp 26 (pcs M p.v)::Ow.slice tv 24 1 (fnV i rv)::Ow.slice bv 3 1 (ints (fnL i p.s0.b))::rowsO i (p.n+1) rv ms) (List.perm_middle (l₁:=[_,_,_])).symm (put_c g8 g7 neg lw (p.n+1) k mx (M.ma i k) (p.a i k) (by omega)) ?_
   rintro _ _ _ ⟨m2,rfl,rfl,rfl⟩
   simp only[List.nil_append,List.cons_append]
   repeat'(first|refine gM ?_|(refine gI ?_;intro g)|(refine gU ?_;intro v)|refine gN ?_ ?_|refine d44 ?_|fail)
   first|refine WL.callK (Zn.neg (m1:=M.ma i k) (a:=p.a i k)) ?_|refine WD.callK (Zn.neg (m1:=M.ma i k) (a:=p.a i k)) ?_|refine LO.callM (Zn.neg (m1:=M.ma i k) (a:=p.a i k)) ?_
   rintro _ _ _ ⟨m3,rfl,rfl,rfl⟩
   simp only[List.nil_append,List.cons_append]
   repeat'(first|refine gM ?_|(refine gI ?_;intro g)|(refine gU ?_;intro v)|refine gN ?_ ?_|refine d44 ?_|fail)
   refine WD.callGC [] [ptr g8,ptr g7] (vs:=[.int .i64 ((p.v+k:Nat):Int),qv m3]) _ _ (.refl _) (put_c g8 g7 neg lw (p.n+1) (p.v+k) (upd mx k m2) m3 (-(p.a i k)) (by omega)) ?_
   rintro _ _ _ ⟨m4,rfl,rfl,rfl⟩
   simp only[List.nil_append,List.cons_append]
   refine WD.fact (mF (p.n+1) (upd (upd mx k m2) (p.v+k) m4) (rwx p i (k+1))) ((W.Has.mFset (k:=p.v+k) (m:=m4) (z:=if neg=true then -(-(p.a i k)) else -(p.a i k)) (W.Has.mFset (k:=k) (ms:=mx) (m:=m2) (qf:=rwx p i k) (z:=if neg=true then -(p.a i k) else p.a i k) hmA hmA) hmA).mFsame fun j _=>rwx_up hnb' ck j) ?_
   repeat'(first|refine gM ?_|(refine gI ?_;intro g)|(refine gU ?_;intro v)|refine gN ?_ ?_|refine d44 ?_|fail)
   exact LoopEnd.mk (k+1,_) (by show k+1≤p.v;omega) (by show p.v - (k+1) < p.v - k;omega)
  ·obtain rfl:k=p.v:=by omega
   refine WC.isSl (v:=lw) (k:=p.n+1) (KnS.oR (ms:=mx) (el:=31) meA) fun la lc hl=>?_
   subst hl
   repeat'(first|refine gM ?_|(refine gI ?_;intro g)|(refine gU ?_;intro v)|refine gN ?_ ?_|refine d44 ?_|fail)
   first|refine WL.callK (Zn.of 1 1 (by decide) (by decide)) ?_|refine WD.callK (Zn.of 1 1 (by decide) (by decide)) ?_|refine LO.callM (Zn.of 1 1 (by decide) (by decide)) ?_
   rintro _ _ _ ⟨m5,rfl,rfl,rfl⟩
   simp only[List.nil_append,List.cons_append]
   repeat'(first|refine gM ?_|(refine gI ?_;intro g)|(refine gU ?_;intro v)|refine gN ?_ ?_|refine d44 ?_|fail)
   refine WD.callGC [] [ptr g8,ptr g7] (vs:=[.int .i64 ((2*p.v+i:Nat):Int),qv m5]) _ _ (.refl _) (put_c g8 g7 neg (.slice la (p.n+1) lc) (p.n+1) (2*p.v+i) mx m5 (Rat.divInt 1 1) (by omega)) ?_
   rintro _ _ _ ⟨m6,rfl,rfl,rfl⟩
   simp only[List.nil_append,List.cons_append]
   repeat'(first|refine gM ?_|(refine gI ?_;intro g)|(refine gU ?_;intro v)|refine gN ?_ ?_|refine d44 ?_|fail)
   refine WD.callGC [] [ptr g8,ptr g7] (vs:=[.int .i64 (p.n:Int),qv (M.mb i)]) _ _ (.refl _) (put_c g8 g7 neg (.slice la (p.n+1) lc) (p.n+1) p.n (upd mx (2*p.v+i) m6) (M.mb i) (p.b i) (by omega)) ?_
   rintro _ _ _ ⟨m7,rfl,rfl,rfl⟩
   simp only[List.nil_append,List.cons_append]
   obtain⟨hA0,hA1⟩:=rwx_all hnb' c (upd (upd (rwx p i p.v) (2*p.v+i) (if neg=true then -(Rat.divInt 1 1) else Rat.divInt 1 1)) p.n (if neg=true then -(p.b i) else p.b i)) (fun _=>rfl)
   refine WD.fact (mF (p.n+1) (upd (upd mx (2*p.v+i) m6) p.n m7) (upd (upd (rwx p i p.v) (2*p.v+i) (if neg=true then -(Rat.divInt 1 1) else Rat.divInt 1 1)) p.n (if neg=true then -(p.b i) else p.b i))) (W.Has.mFset (k:=p.n) (m:=m7) (z:=if neg=true then -(p.b i) else p.b i) (W.Has.mFset (k:=2*p.v+i) (ms:=mx) (m:=m6) (qf:=rwx p i p.v) (z:=if neg=true then -(Rat.divInt 1 1) else Rat.divInt 1 1) hmA hmA) hmA) ?_
   generalize (upd (upd (rwx p i p.v) (2*p.v+i) (if neg=true then -(Rat.divInt 1 1) else Rat.divInt 1 1)) p.n (if neg=true then -(p.b i) else p.b i))=fq at *
   generalize hmz:(upd (upd mx (2*p.v+i) m6) p.n m7)=mz
   repeat'(first|refine gM ?_|(refine gI ?_;intro g)|(refine gU ?_;intro v)|refine gN ?_ ?_|refine d44 ?_|fail)
   cases neg with
   |true=>
    repeat'(first|refine gM ?_|(refine gI ?_;intro g)|(refine gU ?_;intro v)|refine gN ?_ ?_|refine d44 ?_|fail)
    rw[show(2:Int)*(p.v:Int)+(p.m:Int)+(i:Int)=((p.la+i:Nat):Int) by simp[X.Lp.la]]
    first|refine WL.callK (Zn.of 1 1 (by decide) (by decide)) ?_|refine WD.callK (Zn.of 1 1 (by decide) (by decide)) ?_|refine LO.callM (Zn.of 1 1 (by decide) (by decide)) ?_
    rintro _ _ _ ⟨m8,rfl,rfl,rfl⟩
    simp only[List.nil_append,List.cons_append]
    repeat'(first|refine gB ?_|(refine gH ?_;intro g)|(refine gW ?_;intro v)|refine d44 ?_|fail)
    refine WC.drawB (id:=21) [Ow.cells g7 24 [.slice la (p.n+1) lc],Ow.cells xg 88 [.int .i64 (p.v:Int),.int .i64 (p.m:Int),.int .i64 (p.n:Int),tv,.slice none 0 0,bv]] slA [0,2,3,4,5,6,9,10,11,12,13,16,17] (.free 1 (.held 0 (.held 2 (.held 3 (.held 4 (.held 5 (.held 6 (.held 9 (.held 10 (.held 11 (.held 12 (.held 13 (.more 7 (.more 8 (.loud 14 (.loud 15 (.held 16 (.held 17 (.loud 18 (.loud 19 (.loud 20 (.loud 21 (.done))))))))) (.loud 14 (.loud 8 (.loud 15 (.held 16 (.held 17 (.loud 18 (.loud 19 (.loud 20 (.loud 21 (.done))))))))))) (.loud 14 (.loud 7 (.loud 8 (.loud 15 (.held 16 (.held 17 (.loud 18 (.loud 19 (.loud 20 (.loud 21 (.done)))))))))))))))))))))))) mixed (by kernel_rfl) ?_
    refine goYL ?_
    repeat'(first|refine gM ?_|(refine gI ?_;intro g)|(refine gU ?_;intro v)|refine gN ?_ ?_|refine d44 ?_|fail)
    all_goals
     refine goYT ?_
     repeat'(first|refine gB ?_|(refine gH ?_;intro g)|(refine gW ?_;intro v)|refine d44 ?_|fail)
     refine goYT ?_
     repeat'(first|refine gB ?_|(refine gH ?_;intro g)|(refine gW ?_;intro v)|refine d44 ?_|fail)
     apply Exists.intro (i+1,_,_,upd rv i (.slice la (p.n+1) lc),upd ms i (upd mz (p.la+i) m8))
     refine⟨⟨?_,?_⟩,?_,?_,?_⟩
     rotate_left 3
     ·rw[upd_same (f:=p.s0.b) (i:=i) (c:=p.la+i) (if_pos (of_decide_eq_true hnb))]
      (repeat(apply ex_cons;(first|exact List.Perm.refl _|exact List.perm_middle (l₁:=[_])|exact List.perm_middle (l₁:=[_,_])|exact List.perm_middle (l₁:=[_,_,_])|exact List.perm_middle (l₁:=[_,_,_,_])|exact List.perm_middle (l₁:=[_,_,_,_,_])|exact List.perm_middle (l₁:=[_,_,_,_,_,_])|exact List.perm_middle (l₁:=[_,_,_,_,_,_,_])|exact List.perm_middle (l₁:=[_,_,_,_,_,_,_,_])|exact List.perm_middle (l₁:=[_,_,_,_,_,_,_,_,_])|exact List.perm_middle (l₁:=[_,_,_,_,_,_,_,_,_,_])|exact List.perm_middle (l₁:=[_,_,_,_,_,_,_,_,_,_,_])|exact List.perm_middle (l₁:=[_,_,_,_,_,_,_,_,_,_,_,_])|exact List.perm_middle (l₁:=[_,_,_,_,_,_,_,_,_,_,_,_,_])|exact List.perm_middle (l₁:=[_,_,_,_,_,_,_,_,_,_,_,_,_,_]))))
      apply ex_row;(first|exact List.Perm.refl _|exact List.perm_middle (l₁:=[_])|exact List.perm_middle (l₁:=[_,_])|exact List.perm_middle (l₁:=[_,_,_])|exact List.perm_middle (l₁:=[_,_,_,_])|exact List.perm_middle (l₁:=[_,_,_,_,_])|exact List.perm_middle (l₁:=[_,_,_,_,_,_])|exact List.perm_middle (l₁:=[_,_,_,_,_,_,_])|exact List.perm_middle (l₁:=[_,_,_,_,_,_,_,_])|exact List.perm_middle (l₁:=[_,_,_,_,_,_,_,_,_])|exact List.perm_middle (l₁:=[_,_,_,_,_,_,_,_,_,_])|exact List.perm_middle (l₁:=[_,_,_,_,_,_,_,_,_,_,_])|exact List.perm_middle (l₁:=[_,_,_,_,_,_,_,_,_,_,_,_])|exact List.perm_middle (l₁:=[_,_,_,_,_,_,_,_,_,_,_,_,_])|exact List.perm_middle (l₁:=[_,_,_,_,_,_,_,_,_,_,_,_,_,_]));(first|exact ex_tail []|exact ex_tail [_]|exact ex_tail [_,_]|exact ex_tail [_,_,_]|exact ex_tail [_,_,_,_]|exact ex_tail [_,_,_,_,_]|exact ex_tail [_,_,_,_,_,_]|exact ex_tail [_,_,_,_,_,_,_]|exact ex_tail [_,_,_,_,_,_,_,_]|exact ex_tail [_,_,_,_,_,_,_,_,_]|exact ex_tail [_,_,_,_,_,_,_,_,_,_]|exact ex_tail [_,_,_,_,_,_,_,_,_,_,_]|exact ex_tail [_,_,_,_,_,_,_,_,_,_,_,_]|exact ex_tail [_,_,_,_,_,_,_,_,_,_,_,_,_]|exact ex_tail [_,_,_,_,_,_,_,_,_,_,_,_,_,_])
     ·exact .cons (has_tapp (f:=upd fq (p.la+i) (Rat.divInt 1 1)) hmA (W.Has.mFset (qf:=fq) hmA hmA) (hA1 rfl)) (.cons hmA (.cons hmA .nil))
     ·show i+1≤p.m;omega
     ·show p.m - (i+1) < p.m - i;omega
     ·exact suA
   |false=>
    rw[show(2:Int)*(p.v:Int)+(i:Int)=((2*p.v+i:Nat):Int) by simp]
    repeat'(first|refine gB ?_|(refine gH ?_;intro g)|(refine gW ?_;intro v)|refine d44 ?_|fail)
    refine WC.drawB (id:=21) [Ow.cells g7 24 [.slice la (p.n+1) lc],Ow.cells xg 88 [.int .i64 (p.v:Int),.int .i64 (p.m:Int),.int .i64 (p.n:Int),tv,.slice none 0 0,bv]] slA [0,2,3,4,5,6,9,10,11,12,13,16,17] (.free 1 (.held 0 (.held 2 (.held 3 (.held 4 (.held 5 (.held 6 (.held 9 (.held 10 (.held 11 (.held 12 (.held 13 (.more 7 (.more 8 (.loud 14 (.loud 15 (.held 16 (.held 17 (.loud 18 (.loud 19 (.loud 20 (.loud 21 (.done))))))))) (.loud 14 (.loud 8 (.loud 15 (.held 16 (.held 17 (.loud 18 (.loud 19 (.loud 20 (.loud 21 (.done))))))))))) (.loud 14 (.loud 7 (.loud 8 (.loud 15 (.held 16 (.held 17 (.loud 18 (.loud 19 (.loud 20 (.loud 21 (.done)))))))))))))))))))))))) mixed (by kernel_rfl) ?_
    refine goYL ?_
    repeat'(first|refine gM ?_|(refine gI ?_;intro g)|(refine gU ?_;intro v)|refine gN ?_ ?_|refine d44 ?_|fail)
    all_goals
     refine goYT ?_
     repeat'(first|refine gB ?_|(refine gH ?_;intro g)|(refine gW ?_;intro v)|refine d44 ?_|fail)
     refine goYT ?_
     repeat'(first|refine gB ?_|(refine gH ?_;intro g)|(refine gW ?_;intro v)|refine d44 ?_|fail)
     apply Exists.intro (i+1,_,_,upd rv i (.slice la (p.n+1) lc),upd ms i mz)
     refine⟨⟨?_,?_⟩,?_,?_,?_⟩
     rotate_left 3
     ·rw[upd_same (f:=p.s0.b) (i:=i) (c:=2*p.v+i) (if_neg (of_decide_eq_false hnb))]
      (repeat(apply ex_cons;(first|exact List.Perm.refl _|exact List.perm_middle (l₁:=[_])|exact List.perm_middle (l₁:=[_,_])|exact List.perm_middle (l₁:=[_,_,_])|exact List.perm_middle (l₁:=[_,_,_,_])|exact List.perm_middle (l₁:=[_,_,_,_,_])|exact List.perm_middle (l₁:=[_,_,_,_,_,_])|exact List.perm_middle (l₁:=[_,_,_,_,_,_,_])|exact List.perm_middle (l₁:=[_,_,_,_,_,_,_,_])|exact List.perm_middle (l₁:=[_,_,_,_,_,_,_,_,_])|exact List.perm_middle (l₁:=[_,_,_,_,_,_,_,_,_,_])|exact List.perm_middle (l₁:=[_,_,_,_,_,_,_,_,_,_,_])|exact List.perm_middle (l₁:=[_,_,_,_,_,_,_,_,_,_,_,_])|exact List.perm_middle (l₁:=[_,_,_,_,_,_,_,_,_,_,_,_,_])|exact List.perm_middle (l₁:=[_,_,_,_,_,_,_,_,_,_,_,_,_,_]))))
      apply ex_row;(first|exact List.Perm.refl _|exact List.perm_middle (l₁:=[_])|exact List.perm_middle (l₁:=[_,_])|exact List.perm_middle (l₁:=[_,_,_])|exact List.perm_middle (l₁:=[_,_,_,_])|exact List.perm_middle (l₁:=[_,_,_,_,_])|exact List.perm_middle (l₁:=[_,_,_,_,_,_])|exact List.perm_middle (l₁:=[_,_,_,_,_,_,_])|exact List.perm_middle (l₁:=[_,_,_,_,_,_,_,_])|exact List.perm_middle (l₁:=[_,_,_,_,_,_,_,_,_])|exact List.perm_middle (l₁:=[_,_,_,_,_,_,_,_,_,_])|exact List.perm_middle (l₁:=[_,_,_,_,_,_,_,_,_,_,_])|exact List.perm_middle (l₁:=[_,_,_,_,_,_,_,_,_,_,_,_])|exact List.perm_middle (l₁:=[_,_,_,_,_,_,_,_,_,_,_,_,_])|exact List.perm_middle (l₁:=[_,_,_,_,_,_,_,_,_,_,_,_,_,_]));(first|exact ex_tail []|exact ex_tail [_]|exact ex_tail [_,_]|exact ex_tail [_,_,_]|exact ex_tail [_,_,_,_]|exact ex_tail [_,_,_,_,_]|exact ex_tail [_,_,_,_,_,_]|exact ex_tail [_,_,_,_,_,_,_]|exact ex_tail [_,_,_,_,_,_,_,_]|exact ex_tail [_,_,_,_,_,_,_,_,_]|exact ex_tail [_,_,_,_,_,_,_,_,_,_]|exact ex_tail [_,_,_,_,_,_,_,_,_,_,_]|exact ex_tail [_,_,_,_,_,_,_,_,_,_,_,_]|exact ex_tail [_,_,_,_,_,_,_,_,_,_,_,_,_]|exact ex_tail [_,_,_,_,_,_,_,_,_,_,_,_,_,_])
     ·exact .cons (has_tapp (f:=fq) hmA hmA (hA0 rfl)) (.cons hmA (.cons hmA .nil))
     ·show i+1≤p.m;omega
     ·show p.m - (i+1) < p.m - i;omega
     ·exact suA
 ·obtain rfl:p.m=i:=by omega
  repeat'(first|refine gM ?_|(refine gI ?_;intro g)|(refine gU ?_;intro v)|refine gN ?_ ?_|refine d44 ?_|fail)
  refine WC.ret ?_
  exact Fin.p (TM xg p.v p.m p.n tv (.slice none 0 0) bv rv ms p.s0.b) [mT p.m (p.n+1) ms p.A] (ResE.t1 rfl rfl) meA slA haA ⟨xg,tv,bv,rv,ms,rfl,rfl,rfl⟩
end Z
end Go.Proofs.YtaongbhamadlkaaGreat
namespace Go.Proofs.YtaongbhamadlkaaGreat
open W Go.RowKit
section
variable {fr:PH} {w:World} {bx:List Ow} {F:List Fct}
theorem ok_nil {el sz:Nat} (h:OK fr (Ow.slice (.slice none 0 0) el sz []::bx) F w):OK fr bx F w:=h.drop (List.sublist_cons_self _ _)
theorem ok_rows {n:Nat} {rv:Nat→Value} {ms:Nat→Nat→QM}:∀ (l:List Nat) (F:List Fct),OK fr (rowsL l n rv ms++bx) F w→OK fr bx ((l.map fun i=>slC (rv i) n 4 (qcell (ms i)))++F) w
 |[],F,h=>h
 |i::l,F,h=>by
  have h1:=(OK.freeze (n:=n) (sz:=4) h Sel.head (cellsF_len _ _) (by decide) (qcell (ms i)) fun j hj=>cellsF_get hj)
  have h2:=ok_rows l _ (ok_nil h1)
  refine h2.less fun f hf=>?_
  simp only[List.map_cons,List.cons_append,List.mem_cons,List.mem_append] at hf ⊢
  rcases hf with rfl|hf|hf
  ·exact .inr (.inl rfl)
  ·exact .inl hf
  ·exact .inr (.inr hf)
theorem okT {xg vars m n:Nat} {tv cv bv:Value} {rv:Nat→Value} {ms:Nat→Nat→QM} {mc:Nat→QM} {s:X.St} (ho:OK fr (TB xg vars m n tv cv bv rv ms mc s.b++bx) F w) (h1:Has F (mT m (n+1) ms s.t)) (h2:Has F (mF (n+1) mc s.c)) :
  OK fr bx (fF cv (n+1) mc s.c::(TF xg vars m n tv cv bv rv ms s++F)) w:=by
 have a1:=OK.keep ho Rem.head
 have a2:=ok_nil (OK.freeze (n:=m) (sz:=1) a1 Sel.head (by rw[fnV_len,Nat.mul_one]) (by decide) rv fun j hj=>fnV_get (by omega))
 have a3:=ok_nil (OK.freeze (n:=n+1) (sz:=4) a2 Sel.head (cellsF_len _ _) (by decide) (qcell mc) fun j hj=>cellsF_get hj)
 have a4:=ok_nil (OK.freeze (n:=m) (sz:=1) a3 Sel.head (by simp[fnL]) (by decide) (fun i=>.int .i64 (s.b i)) fun j hj=>by
  have hj':j < m:=by omega
  simp[fnL,hj'])
 have a5:=ok_rows _ _ a4
 refine⟨a5.frame,a5.apart,a5.nodup,a5.owns,fun f hf=>?_⟩
 have hF:∀ f∈F,f.p (imm fr bx w.heap):=fun f hf=>a5.facts f (List.mem_append_right _ (by simp[hf]))
 simp only[List.cons_append,List.nil_append,List.mem_cons] at hf
 rcases hf with rfl|rfl|rfl|rfl|rfl|hf
 ·exact⟨a5.facts _ (List.mem_append_right _ (by simp)),h2 _ hF⟩
 ·exact a5.facts _ (List.mem_append_right _ (by simp))
 ·exact a5.facts _ (List.mem_append_right _ (by simp))
 ·exact⟨fun i hi=>a5.facts _ (List.mem_append_left _ (List.mem_map.2 ⟨i,List.mem_range.2 hi,rfl⟩)),h1 _ hF⟩
 ·exact a5.facts _ (List.mem_append_right _ (by simp))
 ·exact hF f hf
theorem WL.freezeT {P:Program} {nn:Nat} {L rest:List Oper} {e:Env} {Q2:Env→List Ow→List Fct→Prop} {xg vars m n:Nat} {tv cv bv:Value} {rv:Nat→Value} {ms:Nat→Nat→QM} {mc:Nat→QM} (s:X.St) {bx':List Ow} (hp:bx.Perm (TB xg vars m n tv cv bv rv ms mc s.b++bx')) (h1:Has F (mT m (n+1) ms s.t)) (h2:Has F (mF (n+1) mc s.c))
  (h:WL P nn L rest e bx' (fF cv (n+1) mc s.c::(TF xg vars m n tv cv bv rv ms s++F)) Q2):WL P nn L rest e bx F Q2:=fun fr w0 a w Q' hQ hk hr ho=>h fr w0 a w Q' hQ hk hr (okT (ho.perm hp) h1 h2)
end
def AnsP (p:X.Lp) (kind xn yn:Nat) (x y:Nat→Rat) (z:Rat):Prop:=
 (kind=1∧xn=0∧yn=p.m∧z=0∧X.IsInf p y)∨(kind=0∧xn=p.v∧yn=p.m∧X.IsOpt p x y z)∨(kind=2∧xn=p.v∧yn=p.v∧z=0∧X.IsUnb p x y)
structure Am where
 xv:Value
 yv:Value
 mx:Nat→QM
 my:Nat→QM
 mz:QM
abbrev acs (M:Am) (kind:Int):List Value:=[.int .i64 kind,M.xv,M.yv,.bool M.mz.1,M.mz.2.1,.bool false,M.mz.2.2]
abbrev agv (M:Am) (kind:Int):Value:=.agg #[.int .i64 kind,M.xv,M.yv,.bool M.mz.1,M.mz.2.1,.bool false,M.mz.2.2]
def fA (M:Am) (xn yn:Nat) (x y:Nat→Rat) (z:Rat):Fct where
 p h:=(fF M.xv xn M.mx x).p h∧(fF M.yv yn M.my y).p h∧(isQ (qv M.mz) z).p h
 mono _ _ hl hp:=⟨(fF _ _ _ _).mono _ _ hl hp.1,(fF _ _ _ _).mono _ _ hl hp.2.1,(isQ _ _).mono _ _ hl hp.2.2⟩
def IsAns (p:X.Lp) (R:Nat):RPost:=fun v B G=>∃ (M:Am) (kind xn yn:Nat) (x y:Nat→Rat) (z:Rat),v=.tuple #[agv M (kind:Nat),.int .i64 0]∧B=[]∧G=[fA M xn yn x y z]∧AnsP p kind xn yn x y z∧(∀ k,k < xn→Sq R (x k))∧(∀ k,k < yn→Sq R (y k))∧Sq R z
end Go.Proofs.YtaongbhamadlkaaGreat
namespace Go.Proofs.YtaongbhamadlkaaGreat
open W Go.RowKit
section
variable {P:Program} {e:Env} {bx:List Ow} {F:List Fct} {ty:TypeId} {x y z u:Operand} {v v2:Value} {n n2:Nat} {i:Int} {m:QM}
theorem ResE.cT {fn:Func} {t s:Tmp} {ty:TypeId} {g tg m:Nat} {cs:List Value} {u:Value} (h:fn.results=#[.cell t ty,.tmp s]) (hl:W.look e t=some (.pointer (some ⟨g,0,none⟩))) (hb:Ow.cells g tg cs∈bx) (hr:Row P ty m) (hm:cs.length=m) (hl2:W.look e s=some u):ResE P fn e bx F (.tuple #[.agg cs.toArray,u]):=fun n fr a w hk ho=>by
 obtain⟨⟨d,hu,hd⟩,hi⟩:=hr
 have h1:a.tmps[t]?.getD undef=.pointer (some ⟨g,0,none⟩):=by rw[hk.at' _ _ hl];rfl
 have h2:=run_loadVar_mid (P:=P) w g 0 ty cs d (fun i v hv=>by rw[Nat.zero_add,own_cell (ho.owns _ hb)];exact hv) hu hd (by rw[hi];simp[hm])
 have h3:a.tmps[s]?.getD undef=u:=by rw[hk.at' _ _ hl2];rfl
 simp only[results,h]
 simp[h1,asAddr,h2,h3]
theorem YO.byP {op:Op} {p:Prop} {r:Value} (hp:∀ fr w,OK fr bx F w→p) (h:p→YO P op ty e bx F r):YO P op ty e bx F r:=fun k fr ac w o hop hty hk ho=>h (hp fr w ho) k fr ac w o hop hty hk ho
theorem YO.buildA0:YO Tryz.prog (.build 33 #[]) ty e bx F (.agg #[.int .i64 0,.slice none 0 0,.slice none 0 0,.bool false,.slice none 0 0,.bool false,.slice none 0 0]):=YO.build (parts:=[]) .nil fun w=>run_build w 33 _ _ (by kernel_rfl)
theorem YO.buildA1 (h1:ev e x=some (.int .i64 i)) (h2:ev e y=some v) (kd:KnS bx F v n):YO Tryz.prog (.build 33 #[(0,x),(2,y)]) ty e bx F (.agg #[.int .i64 i,.slice none 0 0,v,.bool false,.slice none 0 0,.bool false,.slice none 0 0]):=by
 refine YO.byP (p:=∃ a c,v=.slice a n c) (fun fr w ho=>by obtain⟨a,c,h1,_⟩:=(kd fr w ho).is;exact⟨a,c,h1⟩) ?_
 rintro⟨a,c,rfl⟩
 exact YO.build (parts:=[(0,x),(2,y)]) (.cons h1 (.cons h2 .nil)) fun w=>run_build w 33 _ _ (by kernel_rfl)
theorem YO.buildA2 (h1:ev e x=some (.int .i64 i)) (h2:ev e y=some v) (h3:ev e z=some v2) (kd:KnS bx F v n) (kd2:KnS bx F v2 n2):YO Tryz.prog (.build 33 #[(0,x),(1,y),(2,z)]) ty e bx F (.agg #[.int .i64 i,v,v2,.bool false,.slice none 0 0,.bool false,.slice none 0 0]):=by
 refine YO.byP (p:=(∃ a c,v=.slice a n c)∧∃ a c,v2=.slice a n2 c) (fun fr w ho=>by obtain⟨a,c,h1,_⟩:=(kd fr w ho).is;obtain⟨a2,c2,h2,_⟩:=(kd2 fr w ho).is;exact⟨⟨a,c,h1⟩,a2,c2,h2⟩) ?_
 rintro⟨⟨a,c,rfl⟩,a2,c2,rfl⟩
 exact YO.build (parts:=[(0,x),(1,y),(2,z)]) (.cons h1 (.cons h2 (.cons h3 .nil))) fun w=>run_build w 33 _ _ (by kernel_rfl)
theorem YO.buildA3 (h1:ev e x=some (.int .i64 i)) (h2:ev e y=some v) (h3:ev e z=some v2) (h4:ev e u=some (qv m)) (kd:KnS bx F v n) (kd2:KnS bx F v2 n2):YO Tryz.prog (.build 33 #[(0,x),(1,y),(2,z),(3,u)]) ty e bx F (.agg #[.int .i64 i,v,v2,.bool m.1,m.2.1,.bool false,m.2.2]):=by
 refine YO.byP (p:=(∃ a c,v=.slice a n c)∧∃ a c,v2=.slice a n2 c) (fun fr w ho=>by obtain⟨a,c,h1,_⟩:=(kd fr w ho).is;obtain⟨a2,c2,h2,_⟩:=(kd2 fr w ho).is;exact⟨⟨a,c,h1⟩,a2,c2,h2⟩) ?_
 rintro⟨⟨a,c,rfl⟩,a2,c2,rfl⟩
 exact YO.build (parts:=[(0,x),(1,y),(2,z),(3,u)]) (.cons h1 (.cons h2 (.cons h3 (.cons h4 .nil)))) fun w=>run_build w 33 _ _ (by kernel_rfl)
end
theorem vldP_ok {p:X.Lp} (hv:p.v≤48) (hm:p.m≤128):vldP p.v p.m p.v (fun _=>p.v)=0:=by
 unfold vldP
 rw[if_neg (by omega),if_neg]
 rintro(h|h|h)
 ·omega
 ·exact h rfl
 ·rcases X.fstT_spec (fun _=>decide ((p.v:Int)≠p.v)) p.m 0 with ⟨h1,_⟩|⟨j,_,_,_,h4,_⟩
  ·rw[h1] at h;cases h
  ·simp at h4
theorem has_A {F:List Fct} {M:Am} {xn yn:Nat} {x y:Nat→Rat} {z:Rat} (h1:Has F (fF M.xv xn M.mx x)) (h2:Has F (fF M.yv yn M.my y)) (h3:Has F (isQ (qv M.mz) z)):Has F (fA M xn yn x y z):=fun p hp=>⟨h1 p hp,h2 p hp,h3 p hp⟩
theorem run_inv {p:X.Lp} {c1:Nat→Rat} {e:Nat} (he:e≤p.n) {u:X.St} {k r:Nat} (h:X.Inv p.m p.n p.A c1 u) (hk:X.ent u e=some k) (hr:X.lev p.n u k p.m=some r):X.Inv p.m p.n p.A c1 (X.pv u r k):=by
 rcases X.ent_spec u e with ⟨h1,_⟩|⟨j,h1,h2,h3,_⟩
 ·rw[hk] at h1;cases h1
 ·rw[hk] at h1;cases h1
  rcases X.lev_spec p.n u k p.m with ⟨g1,_⟩|⟨q,g1,g2,g3,_⟩
  ·rw[hr] at g1;cases g1
  ·rw[hr] at g1;cases g1
   exact X.Inv.pv h g2 (by omega) (by grind)
namespace Z
attribute [local irreducible] WC WL WD YO LO LoopEnd W.Fin Scalar SliceT FieldAt Row ArrT AllocT KnS Has W.One SrcE IntT
theorem d12 {G G':Prop} (h:G') (s:Bx G'→G:=by
 intro h
 first|(apply WC.draw (id:=5) [0,1,2,3,4,5,6,7] (.held 0 (.held 1 (.held 2 (.held 3 (.held 4 (.held 5 (.held 6 (.held 7 (.loud 8 (.loud 9 (.done))))))))))) mixed (by kernel_rfl))|(apply WC.draw (id:=7) [0,1,2,3,4] (.held 0 (.held 1 (.held 2 (.held 3 (.held 4 (.loud 5 (.done))))))) mixed (by kernel_rfl))|(apply WC.draw (id:=8) [0,1,2,3,4,5,6,7,8,9,11] (.held 0 (.held 1 (.held 2 (.held 3 (.held 4 (.held 5 (.held 6 (.held 7 (.held 8 (.held 9 (.loud 10 (.held 11 (.done))))))))))))) mixed (by kernel_rfl))|(apply WC.drawR (id:=17) [2] [0,1,3,4,5,9] (.held 0 (.held 1 (.held 3 (.held 4 (.held 5 (.loud 2 (.loud 6 (.loud 7 (.loud 8 (.held 9 (.done))))))))))) mixed (by kernel_rfl);(focus((repeat(first|exact Rems.nil _|(apply Rems.cons;exact rfl;(repeat(first|exact Rem.head|apply Rem.tail)))));done)))|fail
 exact Bx.h h):G:=s ⟨h⟩
set_option maxHeartbeats 8000000 in
set_option maxRecDepth 60000 in
theorem solve_c (M:Pm) (p:X.Lp) (K0 K L R:Nat) (hz:X.Szs p K0 K L) (hv:p.v≤48) (hm:p.m≤128) (hR1:2*K+1≤R) (hR2:L≤R) (hR3:p.v*(2*(2*K+1)+1)+1≤R):FnB Tryz.prog 12 [pgv M p.v] [] [fP M p] (IsAns p R):=by
 refine fn_of [(0,(pgv M p.v))] 82 Tryz.func12 rfl Tryz.ntmps12 (by kernel_rfl) rfl suA fun h0=>?_
 have hn:p.n=2*p.v+2*p.m:=rfl
 have hla:p.la=2*p.v+p.m:=rfl
 have hL:=hz.t
 have hKL:=hz.kl
 have hK0:=hz.pos
 have hK:0 < K:=Nat.lt_of_lt_of_le (by omega) hz.k
 obtain⟨F1,x1,hx1⟩:=X.run_ends ((X.ok0 (p:=p) p.n).prc (e':=p.n) p.c1) (Nat.le_refl _)
 obtain⟨hq1,hok1,hq2,hq3⟩:=X.phase1 hx1
 have hi1:X.Inv p.m p.n p.A p.c1 (X.prc p.m p.c1 p.s0):=(X.inv0 (p:=p)).prc p.c1
 repeat'(first|refine gB ?_|(refine gH ?_;intro g)|(refine gW ?_;intro v)|refine goYT ?_|refine d12 ?_|fail)
 rename_i gp
 revert g;intro g2
 refine WL.callV (valid_c M p.m p.v (fun _=>p.v) p.a p.b p.g p.v) ?_ (hF:=.cons (.f hmA) .nil)
 rw[vldP_ok hv hm]
 repeat'(first|refine gB ?_|(refine gH ?_;intro g)|(refine gW ?_;intro v)|refine goYT ?_|refine d12 ?_|fail)
 refine WL.callK (made_c M p (by omega) (by omega)) ?_
 rintro _ _ _ ⟨xg,tv,bv,rv,ms,rfl,rfl,rfl⟩
 refine WL.perm ([Ow.cells g2 33 [.int .i64 0,.slice none 0 0,.slice none 0 0,.bool false,.slice none 0 0,.bool false,.slice none 0 0],Ow.cells gp 26 (pcs M p.v)]++TM xg p.v p.m p.n tv (.slice none 0 0) bv rv ms p.s0.b) List.perm_append_comm ?_
 simp only[List.nil_append,List.cons_append]
 repeat'(first|refine gB ?_|(refine gH ?_;intro g)|(refine gW ?_;intro v)|refine goYT ?_|refine d12 ?_|fail)
 rename_i g5
 revert g;intro g6
 rw[show(2:Int)*(p.v:Int)+(p.m:Int)=((p.la:Nat):Int) by rw[hla];simp]
 refine WL.keep (g:=g6) (t:=3) (cs:=[.int .i64 (p.la:Int)]) (by repeat(first|exact Rem.head|apply Rem.tail)) ?_
 refine WL.keep (g:=gp) (t:=26) (cs:=pcs M p.v) (by repeat(first|exact Rem.head|apply Rem.tail)) ?_
 refine WL.keep (g:=g5) (t:=84) (cs:=[ptr xg]) (by repeat(first|exact Rem.head|apply Rem.tail)) ?_
 refine WL.callG (TM xg p.v p.m p.n tv (.slice none 0 0) bv rv ms p.s0.b) [Ow.cells g2 33 [.int .i64 0,.slice none 0 0,.slice none 0 0,.bool false,.slice none 0 0,.bool false,.slice none 0 0]] (List.perm_append_comm (l₁:=[_])) (price_c xg p.v p.m p.n tv (.slice none 0 0) bv rv ms p.s0 L 46 [] [ptr g6] [ce g6 3 [.int .i64 (p.la:Int)]] p.c1 (fun k hk=>?_) (by omega) (by omega) (by omega) X.inv0.bd (fun i hi k hk=>(hz.T hi1 hi hk).up hKL) (fun i hi k hk=>hz.P hz.c1 X.inv0 hi hk)) ?_
 ·have:=cost1_c g6 k p.la
  rwa [show(if p.la≤k then(1:Rat) else 0)=p.c1 k by unfold X.Lp.c1;by_cases c:p.la≤k <;> simp[c,hk]] at this
 rintro _ _ _ ⟨cv,mc,rfl,rfl,rfl⟩
 refine WL.perm ([Ow.cells g2 33 [.int .i64 0,.slice none 0 0,.slice none 0 0,.bool false,.slice none 0 0,.bool false,.slice none 0 0]]++TB xg p.v p.m p.n tv cv bv rv ms mc p.s0.b) List.perm_append_comm ?_
 refine WL.fact' (mF (p.n+1) mc (X.prc p.m p.c1 p.s0).c) (W.Has.mFsame (qf:=prS p.n p.c1 p.s0 p.m) hmA fun j hj=>X.prS_prc X.inv0.bd X.inv0.u (by unfold X.Lp.c1;simp) hj) ?_
 simp only[List.nil_append,List.cons_append]
 repeat'(first|refine gB ?_|(refine gH ?_;intro g)|(refine gW ?_;intro v)|refine goYT ?_|refine d12 ?_|fail)
 refine WD.callG (TB xg p.v p.m p.n tv cv bv rv ms mc p.s0.b) [Ow.cells g2 33 [.int .i64 0,.slice none 0 0,.slice none 0 0,.bool false,.slice none 0 0,.bool false,.slice none 0 0]] (List.perm_append_comm (l₁:=[_])) (run_c xg p.v p.m p.n p.n L F1 tv cv bv rv ms mc (X.prc p.m p.c1 p.s0) x1 (Nat.le_refl _) (by omega) (by omega) (by omega) (by omega) hx1 (fun u=>X.Inv p.m p.n p.A p.c1 u) hi1 (fun u k r h hk hr=>run_inv (Nat.le_refl _) h hk hr) (fun u hu=>⟨fun i hi k hk=>(hz.T hu hi hk).up hKL,fun k hk=>hz.C hz.c1 hu hk⟩)) ?_
 rintro _ _ _ ⟨ms2,mc2,rfl,rfl,rfl⟩
 refine WD.perm ([Ow.cells g2 33 [.int .i64 0,.slice none 0 0,.slice none 0 0,.bool false,.slice none 0 0,.bool false,.slice none 0 0]]++TB xg p.v p.m p.n tv cv bv rv ms2 mc2 x1.1.b) List.perm_append_comm ?_
 simp only[List.nil_append,List.cons_append]
 refine WD.fact (isQ (qv (mc2 p.n)) (x1.1.c p.n)) (W.Has.q (ms:=mc2) (qf:=x1.1.c) (n:=p.n+1) hmA (by omega)) ?_
 repeat'(first|refine gB ?_|(refine gH ?_;intro g)|(refine gW ?_;intro v)|refine goYT ?_|refine d12 ?_|fail)
 first|refine WL.callV (Zn.sign (mc2 p.n) (x1.1.c p.n)) ?_|refine WD.callV (Zn.sign (mc2 p.n) (x1.1.c p.n)) ?_
 have hsg:=@sgn_neg (x1.1.c p.n)
 by_cases hneg:x1.1.c p.n < 0
 ·have hs:=hsg.2 hneg
  repeat'(first|refine gB ?_|(refine gH ?_;intro g)|(refine gW ?_;intro v)|refine goYT ?_|refine d12 ?_|fail)
  refine WL.freezeT x1.1 (bx':=[Ow.cells g2 33 [.int .i64 0,.slice none 0 0,.slice none 0 0,.bool false,.slice none 0 0,.bool false,.slice none 0 0]]) (List.perm_append_comm (l₁:=[_])) hmA hmA ?_
  simp only[List.cons_append,List.nil_append]
  refine WL.callK (slacks_c xg p.v p.m p.n tv cv bv mc2 x1.1.c (by omega) (by omega) (by omega)) ?_
  rintro yv _ _ ⟨my,rfl,rfl⟩
  simp only[List.nil_append,List.cons_append]
  repeat'(first|refine gB ?_|(refine gH ?_;intro g)|(refine gW ?_;intro v)|refine goYT ?_|refine d12 ?_|fail)
  refine WC.ret ?_
  exact Fin.p [] [fA ⟨.slice none 0 0,yv,fun _=>m00,my,m00⟩ 0 p.m (fun _=>0) (fun r=>x1.1.c (2*p.v+r)) 0] (ResE.cT rfl rfl meA T.r33 rfl rfl) meA (List.nil_sublist _) (.cons (has_A (has_nil0F _ _) hmA hasQ0) .nil) ⟨_,1,0,p.m,_,_,0,rfl,rfl,rfl,.inl ⟨rfl,rfl,rfl,rfl,X.first_inf hx1 hneg⟩,fun k hk=>absurd hk (by omega),fun k hk=>(hz.C hz.c1 hok1.i (by omega)).up hR2,Sq.zero.up (by omega)⟩
 ·have hs:¬sgn (x1.1.c p.n).num < 0:=fun h=>hneg (hsg.1 h)
  have hdr:=X.emp_all (e:=p.n) (last:=p.la) (by omega) hok1 (hq3 hneg)
  have hD:=(hdr p.m (Nat.le_refl _)).1
  repeat'(first|refine gB ?_|(refine gH ?_;intro g)|(refine gW ?_;intro v)|refine goYT ?_|refine d12 ?_|fail)
  refine WL.callG (TB xg p.v p.m p.n tv cv bv rv ms2 mc2 x1.1.b) [Ow.cells g2 33 [.int .i64 0,.slice none 0 0,.slice none 0 0,.bool false,.slice none 0 0,.bool false,.slice none 0 0]] (List.perm_append_comm (l₁:=[_])) (drive_c xg p.v p.m p.n p.la L tv cv bv rv ms2 mc2 x1.1 (by omega) (by omega) (by omega) (by omega) (by omega) (fun i hi r hr k hk=>(hz.T (hdr i hi).1.i hr hk).up hKL) (fun i hi k hk=>hz.C hz.c1 (hdr i hi).1.i hk)) ?_
  rintro _ _ _ ⟨ms3,mc3,rfl,rfl,rfl⟩
  generalize hDD:X.drP p.la x1.1 p.m=D at *
  refine WL.perm ([Ow.cells g2 33 [.int .i64 0,.slice none 0 0,.slice none 0 0,.bool false,.slice none 0 0,.bool false,.slice none 0 0],Ow.slice cv 31 4 (qcells (p.n+1) mc3)]++TM xg p.v p.m p.n tv cv bv rv ms3 D.b) (List.perm_append_comm.trans ((List.perm_middle (l₁:=[_,_])).cons _)) ?_
  simp only[List.nil_append,List.cons_append]
  repeat'(first|refine gB ?_|(refine gH ?_;intro g)|(refine gW ?_;intro v)|refine goYT ?_|refine d12 ?_|fail)
  have hDi:X.Inv p.m p.n p.A p.c2 (X.prc p.m p.c2 D):=hD.i.prc p.c2
  obtain⟨F2,y,hy⟩:=X.run_ends (hD.prc (e':=p.la) p.c2) (show p.la≤p.n by omega)
  have hyi:X.Inv p.m p.n p.A p.c2 y.1:=(X.run_ok (hD.prc (e':=p.la) p.c2) (show p.la≤p.n by omega) hy).i
  have hans:=X.second hx1 hneg (by rw[hDD];exact hy)
  refine WL.callG (TM xg p.v p.m p.n tv cv bv rv ms3 D.b) [Ow.cells g2 33 [.int .i64 0,.slice none 0 0,.slice none 0 0,.bool false,.slice none 0 0,.bool false,.slice none 0 0],Ow.slice cv 31 4 (qcells (p.n+1) mc3)] (List.perm_append_comm (l₁:=[_,_])) (price_c xg p.v p.m p.n tv cv bv rv ms3 D L 52 [] [ptr gp] [ce gp 26 (pcs M p.v),fP M p] p.c2 (fun k hk=>cost2_c M p gp k (by omega)) (by omega) (by omega) (by omega) hD.i.bd (fun i hi k hk=>(hz.T hD.i hi hk).up hKL) (fun i hi k hk=>hz.P hz.c2 hD.i hi hk)) ?_
  rintro _ _ _ ⟨cv2,mc4,rfl,rfl,rfl⟩
  refine WL.perm ([Ow.cells g2 33 [.int .i64 0,.slice none 0 0,.slice none 0 0,.bool false,.slice none 0 0,.bool false,.slice none 0 0],Ow.slice cv 31 4 (qcells (p.n+1) mc3)]++TB xg p.v p.m p.n tv cv2 bv rv ms3 mc4 D.b) List.perm_append_comm ?_
  refine WL.fact' (mF (p.n+1) mc4 (X.prc p.m p.c2 D).c) (W.Has.mFsame (qf:=prS p.n p.c2 D p.m) hmA fun j hj=>X.prS_prc hD.i.bd hD.i.u (by unfold X.Lp.c2;rw[if_neg (by omega),if_neg (by omega)]) hj) ?_
  simp only[List.nil_append,List.cons_append]
  repeat'(first|refine gB ?_|(refine gH ?_;intro g)|(refine gW ?_;intro v)|refine goYT ?_|refine d12 ?_|fail)
  refine WL.callG (TB xg p.v p.m p.n tv cv2 bv rv ms3 mc4 D.b) [Ow.cells g2 33 [.int .i64 0,.slice none 0 0,.slice none 0 0,.bool false,.slice none 0 0,.bool false,.slice none 0 0],Ow.slice cv 31 4 (qcells (p.n+1) mc3)] (List.perm_append_comm (l₁:=[_,_])) (run_c xg p.v p.m p.n p.la L F2 tv cv2 bv rv ms3 mc4 (X.prc p.m p.c2 D) y (by omega) (by omega) (by omega) (by omega) (by omega) hy (fun u=>X.Inv p.m p.n p.A p.c2 u) hDi (fun u k r h hk hr=>run_inv (e:=p.la) (by omega) h hk hr) (fun u hu=>⟨fun i hi k hk=>(hz.T hu hi hk).up hKL,fun k hk=>hz.C hz.c2 hu hk⟩)) ?_
  rintro _ _ _ ⟨ms5,mc5,rfl,rfl,rfl⟩
  refine WL.perm ([Ow.cells g2 33 [.int .i64 0,.slice none 0 0,.slice none 0 0,.bool false,.slice none 0 0,.bool false,.slice none 0 0],Ow.slice cv 31 4 (qcells (p.n+1) mc3)]++TB xg p.v p.m p.n tv cv2 bv rv ms5 mc5 y.1.b) List.perm_append_comm ?_
  simp only[List.nil_append,List.cons_append]
  have hTs:∀ i,i < p.m→∀ k,k < p.n+1→Sq K (y.1.t i k):=fun i hi k hk=>hz.T hyi hi hk
  have hnow:∀ k,nowV p.m p.n y.1 k=X.wt p.m y.1 (fun i=>y.1.t i p.n) k:=X.nowV_wt hyi
  have hxs:(fun k=>nowV p.m p.n y.1 k - nowV p.m p.n y.1 (p.v+k))=X.xs p y.1:=funext fun k=>by rw[hnow,hnow];rfl
  have hnq:∀ k,Sq K (nowV p.m p.n y.1 k):=X.nowV_sz hK fun i hi=>hTs i hi _ (by omega)
  rcases hans with ⟨hy2,hopt⟩|⟨col,hy2,hunb⟩
  ·rw[hy2,show optI none= -1 from rfl]
   repeat'(first|refine gB ?_|(refine gH ?_;intro g)|(refine gW ?_;intro v)|refine goYT ?_|refine d12 ?_|fail)
   refine WL.freezeT y.1 (bx':=_) (List.perm_append_comm (l₁:=[_,_,_])) hmA hmA ?_
   simp only[List.cons_append,List.nil_append]
   refine WL.callK (point_c xg p.v K (.int .i64 (p.m:Int)) (.int .i64 (p.n:Int)) tv cv2 bv 56 [ptr xg] [] (TF xg p.v p.m p.n tv cv2 bv rv ms5 y.1) (nowV p.m p.n y.1) (by omega) (by omega) (fun k _=>now_c xg p.v p.m p.n k tv cv2 bv rv ms5 y.1) (fun k _=>hnq k)) ?_
   rw[hxs]
   rintro xv _ _ ⟨mx,rfl,rfl⟩
   simp only[List.nil_append,List.cons_append]
   repeat'(first|refine gB ?_|(refine gH ?_;intro g)|(refine gW ?_;intro v)|refine goYT ?_|refine d12 ?_|fail)
   refine WD.callK (slacks_c xg p.v p.m p.n tv cv2 bv mc5 y.1.c (by omega) (by omega) (by omega)) ?_
   rintro yv _ _ ⟨my,rfl,rfl⟩
   simp only[List.nil_append,List.cons_append]
   refine WD.fact (fF M.gv p.v M.mg p.g) (W.Has.pg (M:=M) (m:=p.m) (gn:=p.v) (ln:=fun _=>p.v) (a:=p.a) (b:=p.b) (g:=p.g) hmA) ?_
   repeat'(first|refine gB ?_|(refine gH ?_;intro g)|(refine gW ?_;intro v)|refine goYT ?_|refine d12 ?_|fail)
   refine WD.callK (dot_c M.gv xv p.v (2*K+1) M.mg mx p.g (X.xs p y.1) (by omega) hz.d (fun i hi=>(hz.g i hi).up (by have:=hz.k;omega)) (fun i _=>by rw[←hxs];exact((hnq i).sub (hnq _)).up (by omega))) ?_
   rintro _ _ _ ⟨mz,rfl,rfl,rfl⟩
   simp only[List.nil_append,List.cons_append]
   repeat'(first|refine gB ?_|(refine gH ?_;intro g)|(refine gW ?_;intro v)|refine goYT ?_|refine d12 ?_|fail)
   (apply WD.yl;exact rfl;exact y_build;exact rfl;exact rfl)
   repeat'(first|refine gB ?_|(refine gH ?_;intro g)|(refine gW ?_;intro v)|refine goYT ?_|refine d12 ?_|fail)
   refine WC.ret ?_
   exact Fin.p [] [fA ⟨xv,yv,mx,my,mz⟩ p.v p.m (X.xs p y.1) (fun r=>y.1.c (2*p.v+r)) (X.sm p.v fun k=>p.g k*X.xs p y.1 k)] (ResE.cT rfl rfl meA T.r33 rfl rfl) meA (List.nil_sublist _) (.cons (has_A hmA hmA hmA) .nil) ⟨_,0,p.v,p.m,_,_,_,rfl,rfl,rfl,.inr (.inl ⟨rfl,rfl,rfl,hopt⟩),fun k _=>by rw[←hxs];exact((hnq k).sub (hnq _)).up (by omega),fun k hk=>(hz.C hz.c2 hyi (by omega)).up hR2,(X.sq_sm (m:=p.v) (f:=fun k=>p.g k*X.xs p y.1 k) (k:=2*(2*K+1)) fun i hi=>by rw[←hxs];exact(Sq.mul (k:=2*K+1) (l:=2*K+1) ((hz.g i hi).up (by have:=hz.k;omega)) (((hnq i).sub (hnq _)).up (by omega))).up (by omega)).up hR3⟩
  ·rcases X.run_end F2 _ y hy with ⟨h1,_⟩|⟨col',h1,hcl,hcn,_⟩
   ·rw[hy2] at h1;cases h1
   rw[hy2] at h1;cases h1
   rw[hy2,show optI (some col)=(col:Int) from rfl]
   repeat'(first|refine gB ?_|(refine gH ?_;intro g)|(refine gW ?_;intro v)|refine goYT ?_|refine d12 ?_|fail)
   revert g;intro g7
   refine WL.keep (g:=g7) (t:=3) (cs:=[.int .i64 (col:Int)]) (by repeat(first|exact Rem.head|apply Rem.tail)) ?_
   refine WL.freezeT y.1 (bx':=_) (List.perm_append_comm (l₁:=[_,_])) hmA hmA ?_
   simp only[List.cons_append,List.nil_append]
   have hray:(fun k=>rayV p.m y.1 col k - rayV p.m y.1 col (p.v+k))=X.dr p y.1 col:=funext fun k=>by rw[X.rayV_rv hyi hcn,X.rayV_rv hyi hcn];rfl
   refine WL.callK (point_c xg p.v K (.int .i64 (p.m:Int)) (.int .i64 (p.n:Int)) tv cv2 bv 54 [] [ptr g5,ptr g7] (ce g5 84 [ptr xg]::ce g7 3 [.int .i64 (col:Int)]::TF xg p.v p.m p.n tv cv2 bv rv ms5 y.1) (rayV p.m y.1 col) (by omega) (by omega) (fun k _=>rayf_c g5 g7 xg p.v p.m p.n k col tv cv2 bv rv ms5 y.1 (by omega)) (fun k _=>X.rayV_sz hK (fun i hi=>hTs i hi col (by omega)) k)) ?_
   rw[hray]
   rintro yv _ _ ⟨my,rfl,rfl⟩
   simp only[List.nil_append,List.cons_append]
   repeat'(first|refine gB ?_|(refine gH ?_;intro g)|(refine gW ?_;intro v)|refine goYT ?_|refine d12 ?_|fail)
   refine WL.callK (point_c xg p.v K (.int .i64 (p.m:Int)) (.int .i64 (p.n:Int)) tv cv2 bv 56 [ptr xg] [] (TF xg p.v p.m p.n tv cv2 bv rv ms5 y.1) (nowV p.m p.n y.1) (by omega) (by omega) (fun k _=>now_c xg p.v p.m p.n k tv cv2 bv rv ms5 y.1) (fun k _=>hnq k)) ?_
   rw[hxs]
   rintro xv _ _ ⟨mx,rfl,rfl⟩
   simp only[List.nil_append,List.cons_append]
   repeat'(first|refine gB ?_|(refine gH ?_;intro g)|(refine gW ?_;intro v)|refine goYT ?_|refine d12 ?_|fail)
   refine WC.ret ?_
   exact Fin.p [] [fA ⟨xv,yv,mx,my,m00⟩ p.v p.v (X.xs p y.1) (X.dr p y.1 col) 0] (ResE.cT rfl rfl meA T.r33 rfl rfl) meA (List.nil_sublist _) (.cons (has_A hmA hmA hasQ0) .nil) ⟨_,2,p.v,p.v,_,_,0,rfl,rfl,rfl,.inr (.inr ⟨rfl,rfl,rfl,rfl,hunb⟩),fun k _=>by rw[←hxs];exact((hnq k).sub (hnq _)).up (by omega),fun k hk=>by rw[←hray];exact((X.rayV_sz hK (fun i hi=>hTs i hi col (by omega)) k).sub (X.rayV_sz hK (fun i hi=>hTs i hi col (by omega)) _)).up (by omega),Sq.zero.up (by omega)⟩
end Z
end Go.Proofs.YtaongbhamadlkaaGreat
namespace Go.Proofs.YtaongbhamadlkaaGreat
open W Go.RowKit
def sumsOk (p:X.Lp) (yn:Nat) (y g:Nat→Rat):Bool:=decide (yn=p.m) && !(X.fstT (fun r=>decide (y r < 0)) yn 0).isSome && !(X.fstT (fun k=>decide (¬(X.sm p.m fun r=>p.a r k*y r)=g k)) p.v 0).isSome
def sumsV (p:X.Lp) (y:Nat→Rat):Rat:=X.sm p.m fun r=>p.b r*y r
def IsSums (p:X.Lp) (yn:Nat) (y g:Nat→Rat):RPost:=fun v B G=>∃ m,v=.tuple #[qv m,.bool (sumsOk p yn y g)]∧B=[]∧G=[isQ (qv m) (if sumsOk p yn y g=true then sumsV p y else 0)]
def clx (c:Nat→Rat) (k j:Nat):Rat:=if j < k then c j else 0
theorem clx_up {c:Nat→Rat} {k:Nat} (i:Nat):upd (clx c k) k (c k) i=clx c (k+1) i:=by
 unfold clx upd
 by_cases e:i=k
 ·subst e;simp
 ·by_cases c2:i < k
  ·simp[e,c2,show i < k+1 by omega]
  ·simp[e,c2,show ¬i < k+1 by omega]
namespace Z
attribute [local irreducible] WC WL WD YO LO LoopEnd W.Fin Scalar SliceT FieldAt Row ArrT AllocT KnS Has W.One SrcE IntT
set_option maxHeartbeats 4000000 in
set_option maxRecDepth 60000 in
theorem containsF_c (v0:Value) (n:Nat) (ms:Nat→QM) (q:Nat→Rat) (f:FuncId) (first cap:List Value) (Fc:List Fct) (p:Nat→Bool)
  (hf:∀ i,i < n→FnB Tryz.prog f (first++[qv (ms i)]++cap) [] (isQ (qv (ms i)) (q i)::Fc) (IsV (.bool (p i)))) :
  FnB Tryz.prog 175 [v0,.func (.func f) first.toArray cap.toArray] [] (fF v0 n ms q::Fc) (IsV (.bool (X.fstT p n 0).isSome)):=by
 refine fn_of [(0,v0),(1,(.func (.func f) first.toArray cap.toArray))] 9 Tryz.func175 rfl Tryz.ntmps175 (by kernel_rfl) rfl suA fun h0=>?_
 repeat'(first|refine gA ?_|(refine goG ?_;intro g)|(refine goV ?_;intro v))
 refine WL.callV (indexF_c v0 n ms q f first cap Fc p hf) ?_ (hF:=.cons (.f hmA) (hasB_tail fun _ h=>by(repeat(first|exact h|apply List.mem_cons_of_mem))))
 cases hp:X.fstT p n 0 with
 |none=>
  rw[show optI none= -1 from rfl]
  repeat'(first|refine gA ?_|(refine goG ?_;intro g)|(refine goV ?_;intro v))
  refine WC.ret ?_
  exact Fin.v (ResE.t1 rfl rfl) meA rfl
 |some k=>
  rw[show optI (some k)=(k:Int) from rfl]
  repeat'(first|refine gA ?_|(refine goG ?_;intro g)|(refine goV ?_;intro v))
  refine WC.ret ?_
  exact Fin.v (ResE.t1 rfl rfl) meA rfl
set_option maxHeartbeats 4000000 in
set_option maxRecDepth 60000 in
theorem negf_c (m:QM) (q:Rat):FnB Tryz.prog 176 [qv m] [] [isQ (qv m) q] (IsV (.bool (decide (q < 0)))):=by
 refine fn_of [(0,(qv m))] 6 Tryz.func176 rfl Tryz.ntmps176 (by kernel_rfl) rfl suA fun h0=>?_
 have hs:=@sgn_neg q
 repeat'(first|refine gA ?_|(refine goG ?_;intro g)|(refine goV ?_;intro v))
 first|refine WL.callV (Zn.sign m q) ?_|refine WD.callV (Zn.sign m q) ?_
 by_cases c:q < 0
 ·have c':=hs.2 c
  repeat'(first|refine gA ?_|(refine goG ?_;intro g)|(refine goV ?_;intro v))
  refine WC.ret ?_
  exact Fin.v (ResE.t1 rfl rfl) meA (by rw[decide_eq_true c])
 ·have c':0≤sgn q.num:=Int.not_lt.1 fun h=>c (hs.1 h)
  repeat'(first|refine gA ?_|(refine goG ?_;intro g)|(refine goV ?_;intro v))
  refine WC.ret ?_
  exact Fin.v (ResE.t1 rfl rfl) meA (by rw[decide_eq_false c])
set_option maxHeartbeats 4000000 in
set_option maxRecDepth 60000 in
theorem aof_c (M:Pm) (p:X.Lp) (g9 r k:Nat) (hr:r < p.m) (hk:k < p.v):FnB Tryz.prog 178 [lnv M r,ptr g9] [] [ce g9 3 [.int .i64 (k:Int)],fP M p] (IsR (p.a r k)):=by
 refine fn_of [(0,(lnv M r)),(1,(ptr g9))] 9 Tryz.func178 rfl Tryz.ntmps178 (by kernel_rfl) rfl suA fun h0=>?_
 refine WC.fact (fF (M.av r) p.v (M.ma r) (p.a r)) (W.Has.pa (M:=M) (m:=p.m) (gn:=p.v) (ln:=fun _=>p.v) (a:=p.a) (b:=p.b) (g:=p.g) hmA hr) ?_
 refine WC.fact (isQ (qv (M.ma r k)) (p.a r k)) (W.Has.q (W.Has.fm (v:=M.av r) hmA) hk) ?_
 refine WC.fact (isQ (qv (M.mb r)) (p.b r)) (W.Has.pbq (M:=M) (m:=p.m) (gn:=p.v) (ln:=fun _=>p.v) (a:=p.a) (b:=p.b) (g:=p.g) hmA hr) ?_
 repeat'(first|refine gA ?_|(refine goG ?_;intro g)|(refine goV ?_;intro v))
 refine WC.ret ?_
 exact Fin.p [] [isQ (qv (M.ma r k)) (p.a r k)] (ResE.cV rfl rfl meA T.r31 rfl) meA (List.nil_sublist _) haA ⟨_,rfl,rfl,rfl⟩
set_option maxHeartbeats 4000000 in
set_option maxRecDepth 60000 in
theorem bof_c (M:Pm) (p:X.Lp) (r:Nat) (hr:r < p.m):FnB Tryz.prog 179 [lnv M r] [] [fP M p] (IsR (p.b r)):=by
 refine fn_of [(0,(lnv M r))] 5 Tryz.func179 rfl Tryz.ntmps179 (by kernel_rfl) rfl suA fun h0=>?_
 refine WC.fact (fF (M.av r) p.v (M.ma r) (p.a r)) (W.Has.pa (M:=M) (m:=p.m) (gn:=p.v) (ln:=fun _=>p.v) (a:=p.a) (b:=p.b) (g:=p.g) hmA hr) ?_
 refine WC.fact (isQ (qv (M.mb r)) (p.b r)) (W.Has.pbq (M:=M) (m:=p.m) (gn:=p.v) (ln:=fun _=>p.v) (a:=p.a) (b:=p.b) (g:=p.g) hmA hr) ?_
 repeat'(first|refine gA ?_|(refine goG ?_;intro g)|(refine goV ?_;intro v))
 refine WC.ret ?_
 exact Fin.p [] [isQ (qv (M.mb r)) (p.b r)] (ResE.cV rfl rfl meA T.r31 rfl) meA (List.nil_sublist _) haA ⟨_,rfl,rfl,rfl⟩
set_option maxHeartbeats 4000000 in
set_option maxRecDepth 60000 in
theorem column_c (M:Pm) (p:X.Lp) (K g3 g4:Nat) (yv:Value) (my:Nat→QM) (y:Nat→Rat) (f:FuncId) (first cap:List Value) (Fc:List Fct) (c:Nat→Rat)
  (hf:∀ r,r < p.m→FnB Tryz.prog f (first++[lnv M r]++cap) [] Fc (IsR (c r))) (hd:Dok p.m K) (hm:p.m≤1000) (hc:∀ r,r < p.m→Sq K (c r)) (hy:∀ r,r < p.m→Sq K (y r)) :
  FnB Tryz.prog 177 [.func (.func f) first.toArray cap.toArray,ptr g3,ptr g4] [] (ce g3 26 (pcs M p.v)::ce g4 24 [yv]::fF yv p.m my y::fP M p::Fc) (IsR (X.sm p.m fun r=>c r*y r)):=by
 refine fn_of [(0,(.func (.func f) first.toArray cap.toArray)),(1,(ptr g3)),(2,(ptr g4))] 30 Tryz.func177 rfl Tryz.ntmps177 (by kernel_rfl) rfl suA fun h0=>?_
 repeat'(first|refine gA ?_|(refine goG ?_;intro g)|(refine goV ?_;intro v))
 revert v;intro lw
 revert g;intro g2
 refine WC.lp (σ:=Nat×(Nat→QM)) (fun st=>[(15,.int .i64 (st.1:Int)),(14,.int .i64 (p.m:Int)),(13,M.lv),(5,lw),(0,.func (.func f) first.toArray cap.toArray),(1,ptr g3),(2,ptr g4),(4,ptr g2)]) (fun st=>[Ow.slice lw 31 4 (qcells p.m st.2),Ow.cells g2 31 (qcs m00)])
  (fun st=>mF p.m st.2 (clx c st.1)::ge h0::ce g3 26 (pcs M p.v)::ce g4 24 [yv]::fF yv p.m my y::fP M p::Fc) (fun st=>st.1≤p.m) (fun st=>p.m - st.1) (0,fun _=>m00) (Nat.zero_le _) ?_ (hG:=.cons ((W.Has.mF0 p.m).mFsame fun i _=>by simp[clx]) (.cons hmA (.cons hmA (.cons hmA (.cons hmA (.cons hmA (HasAll.tail fun _ h=>by(repeat(first|exact h|apply List.mem_cons_of_mem)))))))))
 rintro⟨k,mx⟩ hk
 simp only at hk ⊢
 by_cases ck:k < p.m
 ·refine WC.fact (isQ (qv (M.mb k)) (p.b k)) (W.Has.pbq (M:=M) (m:=p.m) (gn:=p.v) (ln:=fun _=>p.v) (a:=p.a) (b:=p.b) (g:=p.g) hmA ck) ?_
  refine WC.fact (fF (M.av k) p.v (M.ma k) (p.a k)) (W.Has.pa (M:=M) (m:=p.m) (gn:=p.v) (ln:=fun _=>p.v) (a:=p.a) (b:=p.b) (g:=p.g) hmA ck) ?_
  repeat'(first|refine gA ?_|(refine goG ?_;intro g)|(refine goV ?_;intro v))
  refine WL.callC first cap (vs:=[lnv M k]) (hf k ck) ?_ (hF:=HasAll.tail fun _ h=>by(repeat(first|exact h|apply List.mem_cons_of_mem)))
  rintro _ _ _ ⟨m1,rfl,rfl,rfl⟩
  simp only[List.nil_append,List.cons_append]
  refine WL.fact' (mF p.m (upd mx k m1) (clx c (k+1))) ((W.Has.mFset (k:=k) (ms:=mx) (m:=m1) (qf:=clx c k) hmA hmA).mFsame fun i _=>clx_up i) ?_
  repeat'(first|refine gA ?_|(refine goG ?_;intro g)|(refine goV ?_;intro v))
  exact LoopEnd.mk (k+1,_) (by show k+1≤p.m;omega) (by show p.m - (k+1) < p.m - k;omega) (hG:=.cons hmA (.cons hmA (.cons hmA (.cons hmA (.cons hmA (.cons hmA (HasAll.tail fun _ h=>by(repeat(first|exact h|apply List.mem_cons_of_mem)))))))))
 ·obtain rfl:k=p.m:=by omega
  repeat'(first|refine gA ?_|(refine goG ?_;intro g)|(refine goV ?_;intro v))
  refine WL.freezeF lw p.m mx (clx c p.m) (by repeat(first|exact Sel.head|apply Sel.tail)) hmA ?_
  have he:(X.sm p.m fun r=>clx c p.m r*y r)=X.sm p.m fun r=>c r*y r:=X.sm_congr fun r hr=>by unfold clx;rw[if_pos hr]
  refine WL.callK (dot_c lw yv p.m K mx my (clx c p.m) y (by omega) hd (fun r hr=>by unfold clx;rw[if_pos hr];exact hc r hr) hy) ?_
  rw[he]
  rintro _ _ _ ⟨m1,rfl,rfl,rfl⟩
  simp only[List.nil_append,List.cons_append]
  repeat'(first|refine gA ?_|(refine goG ?_;intro g)|(refine goV ?_;intro v))
  refine WC.ret ?_
  exact Fin.p [] [isQ (qv m1) (X.sm p.m fun r=>c r*y r)] (ResE.cV rfl rfl meA T.r31 rfl) meA (List.nil_sublist _) haA ⟨_,rfl,rfl,rfl⟩
set_option maxHeartbeats 4000000 in
set_option maxRecDepth 60000 in
theorem sums_c (M:Pm) (p:X.Lp) (K yn:Nat) (yv gw:Value) (my mg:Nat→QM) (y gf:Nat→Rat) (hd:Dok p.m K) (hv:p.v≤1000) (hm:p.m≤1000) (ha:∀ r,r < p.m→∀ k,k < p.v→Sq K (p.a r k)) (hb:∀ r,r < p.m→Sq K (p.b r)) (hy:∀ r,r < yn→Sq K (y r)) :
  FnB Tryz.prog 129 [pgv M p.v,yv,gw] [] [fP M p,fF yv yn my y,fF gw p.v mg gf] (IsSums p yn y gf):=by
 refine fn_of [(0,(pgv M p.v)),(1,yv),(2,gw)] 40 Tryz.func129 rfl Tryz.ntmps129 (by kernel_rfl) rfl suA fun h0=>?_
 have zero:sumsOk p yn y gf=false→IsSums p yn y gf (.tuple #[qv m00,.bool false]) [] [isQ (qv m00) 0]:=fun h=>⟨m00,by rw[h],rfl,by rw[h];rfl⟩
 refine WC.lenF (v:=M.lv) (m:=p.m) (W.Has.pl (M:=M) (m:=p.m) (gn:=p.v) (ln:=fun _=>p.v) (a:=p.a) (b:=p.b) (g:=p.g) hmA) fun hmm=>?_
 by_cases c:yn=p.m
 ·subst c
  repeat'(first|refine gB ?_|(refine gH ?_;intro g)|(refine gW ?_;intro v))
  rename_i g3 g4
  revert g;intro g6
  refine WL.callV (containsF_c yv p.m my y 176 [] [] [] (fun r=>decide (y r < 0)) (fun r _=>negf_c (my r) (y r))) ?_ (hF:=.cons (.f hmA) .nil)
  cases hx:(X.fstT (fun r=>decide (y r < 0)) p.m 0).isSome with
  |true=>
   repeat'(first|refine gB ?_|(refine gH ?_;intro g)|(refine gW ?_;intro v))
   refine WC.ret ?_
   have h0:sumsOk p p.m y gf=false:=by unfold sumsOk;rw[hx];simp
   exact Fin.p [] [isQ (qv m00) 0] (ResE.cT rfl rfl meA T.r31 rfl rfl) meA (List.nil_sublist _) (.cons hasQ0 .nil) (zero h0)
  |false=>
   have hok:sumsOk p p.m y gf= !(X.fstT (fun k=>decide (¬(X.sm p.m fun r=>p.a r k*y r)=gf k)) p.v 0).isSome:=by unfold sumsOk;rw[hx];simp
   repeat'(first|refine gB ?_|(refine gH ?_;intro g)|(refine gW ?_;intro v))
   refine WC.keep (g:=g3) (t:=26) (cs:=pcs M p.v) (by repeat(first|exact Rem.head|apply Rem.tail)) ?_
   refine WC.keep (g:=g4) (t:=24) (cs:=[yv]) (by repeat(first|exact Rem.head|apply Rem.tail)) ?_
   refine WC.lp (σ:=Nat) (fun k=>[(24,.int .i64 (k:Int)),(23,.int .i64 (p.v:Int)),(8,.func (.func 177) #[] #[ptr g3,ptr g4]),(2,gw),(6,ptr g6)]) (fun _=>[Ow.cells g6 31 (qcs m00)])
    (fun _=>[ge h0,ce g3 26 (pcs M p.v),ce g4 24 [yv],fP M p,fF yv p.m my y,fF gw p.v mg gf]) (fun k=>k≤p.v∧X.fstT (fun k=>decide (¬(X.sm p.m fun r=>p.a r k*y r)=gf k)) p.v 0=X.fstT (fun k=>decide (¬(X.sm p.m fun r=>p.a r k*y r)=gf k)) (p.v - k) k) (fun k=>p.v - k) 0 ⟨Nat.zero_le _,rfl⟩ ?_
   rintro k ⟨hk,he⟩
   by_cases ck:k < p.v
   ·rw[fstT_at ck] at he
    refine WC.fact (isQ (qv (mg k)) (gf k)) (W.Has.q (W.Has.fm (v:=gw) hmA) ck) ?_
    repeat'(first|refine gB ?_|(refine gH ?_;intro g)|(refine gW ?_;intro v))
    revert g;intro g9
    refine WC.keep (g:=g9) (t:=3) (cs:=[.int .i64 (k:Int)]) (by repeat(first|exact Rem.head|apply Rem.tail)) ?_
    repeat refine WC.seq ?_
    refine WC.draw (id:=7) [0,1,3,4,5,6,8] (.held 0 (.held 1 (.held 3 (.held 4 (.held 5 (.held 6 (.loud 2 (.loud 7 (.held 8 (.done)))))))))) mixed (by kernel_rfl) ?_
    repeat'(first|refine gB ?_|(refine gH ?_;intro g)|(refine gW ?_;intro v))
    refine WD.callC [] [ptr g3,ptr g4] (vs:=[.func (.func 178) #[] #[ptr g9]]) (column_c M p K g3 g4 yv my y 178 [] [ptr g9] [ce g9 3 [.int .i64 (k:Int)],fP M p] (fun r=>p.a r k) (fun r hr=>aof_c M p g9 r k hr ck) hd hm (fun r hr=>ha r hr k ck) hy) ?_
    rintro _ _ _ ⟨m1,rfl,rfl,rfl⟩
    simp only[List.nil_append,List.cons_append]
    repeat'(first|refine gB ?_|(refine gH ?_;intro g)|(refine gW ?_;intro v))
    refine WD.callK (Zn.same m1 (mg k) (X.sm p.m fun r=>p.a r k*y r) (gf k)) ?_
    rintro _ _ _ ⟨rfl,rfl,rfl⟩
    simp only[List.nil_append,List.cons_append]
    by_cases cs:(X.sm p.m fun r=>p.a r k*y r)=gf k
    ·rw[if_neg (by simp[cs])] at he
     rw[decide_eq_true cs]
     repeat'(first|refine gB ?_|(refine gH ?_;intro g)|(refine gW ?_;intro v))
     exact LoopEnd.mk (k+1) ⟨by omega,he⟩ (by omega)
    ·rw[if_pos (decide_eq_true cs)] at he
     rw[decide_eq_false cs]
     repeat'(first|refine gB ?_|(refine gH ?_;intro g)|(refine gW ?_;intro v))
     refine WC.ret ?_
     have h0:sumsOk p p.m y gf=false:=by rw[hok,he];rfl
     exact Fin.p [] [isQ (qv m00) 0] (ResE.cT rfl rfl meA T.r31 rfl rfl) meA (List.nil_sublist _) (.cons hasQ0 .nil) (zero h0)
   ·obtain rfl:k=p.v:=by omega
    rw[Nat.sub_self,X.fstT] at he
    rw[he] at hok
    repeat'(first|refine gB ?_|(refine gH ?_;intro g)|(refine gW ?_;intro v))
    refine WL.callC [] [ptr g3,ptr g4] (vs:=[.func (.func 179) #[] #[]]) (column_c M p K g3 g4 yv my y 179 [] [] [fP M p] p.b (fun r hr=>bof_c M p r hr) hd hm hb hy) ?_
    rintro _ _ _ ⟨m1,rfl,rfl,rfl⟩
    simp only[List.nil_append,List.cons_append]
    repeat'(first|refine gB ?_|(refine gH ?_;intro g)|(refine gW ?_;intro v))
    refine WC.ret ?_
    exact Fin.p [] [isQ (qv m1) (X.sm p.m fun r=>p.b r*y r)] (ResE.cT rfl rfl meA T.r31 rfl rfl) meA (List.nil_sublist _) haA ⟨m1,by rw[hok];rfl,rfl,by rw[hok];rfl⟩
 ·repeat'(first|refine gB ?_|(refine gH ?_;intro g)|(refine gW ?_;intro v))
  refine WC.ret ?_
  have h0:sumsOk p yn y gf=false:=by unfold sumsOk;rw[decide_eq_false c];rfl
  exact Fin.p [] [isQ (qv m00) 0] (ResE.cT rfl rfl meA T.r31 rfl rfl) meA (List.nil_sublist _) (.cons hasQ0 .nil) (zero h0)
end Z
end Go.Proofs.YtaongbhamadlkaaGreat
namespace Go.Proofs.YtaongbhamadlkaaGreat
namespace X
def ca (L:List Ln) (i k:Nat):Rat:=co (L.getD i ([],0)) k
def cb (L:List Ln) (i:Nat):Rat:=(L.getD i ([],0)).2
def lpOf (v:Nat) (L:List Ln) (g:Nat→Rat):Lp:=⟨v,L.length,ca L,cb L,g⟩
def at_ (v:Nat) (g x:Nat→Rat):Rat:=sm v fun k=>g k*x k
def Sem (p:Lp) (k:Int) (z:Rat):Prop:=
 (k=1∧z=0∧∀ x,¬IsPt p x)∨(k=0∧(∃ x,IsPt p x∧at_ p.v p.g x=z)∧∀ x,IsPt p x→at_ p.v p.g x≤z)∨(k=2∧z=0∧∀ t,∃ x,IsPt p x∧t≤at_ p.v p.g x)
section
variable {p q:Lp} {k k':Int} {z z':Rat} {x y:Nat→Rat} {v:Nat} {L:List Ln} {g:Nat→Rat}
theorem Sem.inf (h:IsInf p y):Sem p 1 0:=.inl ⟨rfl,rfl,fun _=>inf_no h⟩
theorem Sem.opt (h:IsOpt p x y z):Sem p 0 z:=.inr (.inl ⟨rfl,⟨x,h.1,h.2.2.2.2⟩,fun _ hx=>opt_max h hx⟩)
theorem Sem.unb (h:IsUnb p x y):Sem p 2 0:=.inr (.inr ⟨rfl,rfl,unb_far h⟩)
theorem Sem.uniq (h:Sem p k z) (h':Sem p k' z'):k=k'∧z=z':=by
 rcases h with ⟨rfl,rfl,h1⟩|⟨rfl,⟨x,h1,h2⟩,h3⟩|⟨rfl,rfl,h1⟩ <;> rcases h' with ⟨rfl,rfl,g1⟩|⟨rfl,⟨u,g1,g2⟩,g3⟩|⟨rfl,rfl,g1⟩
 ·exact⟨rfl,rfl⟩
 ·exact absurd g1 (h1 _)
 ·obtain⟨u,g2,_⟩:=g1 0;exact absurd g2 (h1 _)
 ·exact absurd h1 (g1 _)
 ·have e1:=h3 u g1
  have e2:=g3 x h1
  exact⟨rfl,by grind⟩
 ·obtain⟨u,g2,g3⟩:=g1 (z+1)
  have:=h3 u g2
  grind
 ·obtain⟨u,g2,_⟩:=h1 0;exact absurd g2 (g1 _)
 ·obtain⟨u,u1,u2⟩:=h1 (z'+1)
  have:=g3 u u1
  grind
 ·exact⟨rfl,rfl⟩
theorem Sem.k3 (h:Sem p k z):k=0∨k=1∨k=2:=by
 rcases h with ⟨rfl,_⟩|⟨rfl,_⟩|⟨rfl,_⟩ <;> omega
theorem Sem.one (h:Sem p k z):k=1↔¬∃ x,IsPt p x:=by
 rcases h with ⟨rfl,_,h1⟩|⟨rfl,⟨x,h1,_⟩,_⟩|⟨rfl,_,h1⟩
 ·exact⟨fun _ ⟨x,hx⟩=>h1 x hx,fun _=>rfl⟩
 ·exact⟨fun h=>absurd h (by decide),fun h=>absurd ⟨x,h1⟩ h⟩
 ·obtain⟨u,u1,_⟩:=h1 0
  exact⟨fun h=>absurd h (by decide),fun h=>absurd ⟨u,u1⟩ h⟩
theorem pt_of:IsPt (lpOf v L g) x↔∀ c∈L,Sat v x c:=by
 constructor
 ·intro h c hc
  obtain⟨i,hi,rfl⟩:=List.mem_iff_getElem.1 hc
  have:=h i hi
  unfold Sat
  have e:L.getD i ([],0)=L[i]:=by simp[List.getD_eq_getElem?_getD,hi]
  show sm v (fun k=>co L[i] k*x k)≤L[i].2
  have h2:sm v (fun k=>co (L.getD i ([],0)) k*x k)≤(L.getD i ([],0)).2:=this
  rwa [e] at h2
 ·intro h r hr
  have hr':r < L.length:=hr
  have:=h _ (List.getElem_mem hr')
  have e:L.getD r ([],0)=L[r]:=by simp[List.getD_eq_getElem?_getD,hr']
  show sm v (fun k=>co (L.getD r ([],0)) k*x k)≤(L.getD r ([],0)).2
  rw[e];exact this
end
end X
end Go.Proofs.YtaongbhamadlkaaGreat
namespace Go.Proofs.YtaongbhamadlkaaGreat
open W Go.RowKit
abbrev lncells (n:Nat) (M:Pm):List Value:=cellsF (n*5) (pcell M.av M.mb)
def Pm.at (M:Pm) (v:Value):Pm:={M with lv:=v}
def Pm.app (M:Pm) (n:Nat) (a:Value) (m:Nat→QM) (b:QM):Pm:={M with av:=upd M.av n a,ma:=upd M.ma n m,mb:=upd M.mb n b}
def Pm.wg (M:Pm) (v:Value) (m:Nat→QM):Pm:={M with gv:=v,mg:=m}
def Pm.no:Pm:=⟨.slice none 0 0,.slice none 0 0,fun _=>.slice none 0 0,fun _ _=>m00,fun _=>m00,fun _=>m00⟩
theorem lncells_app {n:Nat} {M:Pm} {a:Value} {m:Nat→QM} {b:QM}:lncells n M++(a::qcs b)=lncells (n+1) (M.app n a m b):=by
 refine cellsF_ext (by rw[List.length_append,cellsF_len];show n*5+5=_;omega) fun j hj=>?_
 by_cases h:j < n*5
 ·rw[List.getElem?_append_left (by rw[cellsF_len];exact h),cellsF_get h];unfold pcell Pm.app;dsimp only;rw[upd_ne (by omega),upd_ne (by omega)]
 ·rw[List.getElem?_append_right (by rw[cellsF_len];omega),cellsF_len,row_get (n:=5) rfl (by omega)]
  unfold pcell Pm.app;dsimp only;rw[show j / 5=n by omega,upd_at,upd_at,show j % 5=j - n*5 by omega]
def Pm.cat (M:Pm) (n:Nat) (N:Pm):Pm:=
 {M with av:=fun i=>if i < n then M.av i else N.av (i - n),ma:=fun i=>if i < n then M.ma i else N.ma (i - n),mb:=fun i=>if i < n then M.mb i else N.mb (i - n)}
theorem lncells_cat {n k:Nat} {M N:Pm}:lncells n M++lncells k N=lncells (n+k) (M.cat n N):=by
 refine cellsF_ext (by rw[List.length_append,cellsF_len,cellsF_len];omega) fun j hj=>?_
 by_cases h:j < n*5
 ·rw[List.getElem?_append_left (by rw[cellsF_len];exact h),cellsF_get h]
  unfold pcell Pm.cat;dsimp only;rw[if_pos (by omega),if_pos (by omega)]
 ·rw[List.getElem?_append_right (by rw[cellsF_len];omega),cellsF_len,cellsF_get (by omega)]
  unfold pcell Pm.cat;dsimp only;rw[if_neg (by omega),if_neg (by omega),show(j - n*5) / 5=j / 5 - n by omega,show(j - n*5) % 5=j % 5 by omega]
def qcat (ms:Nat→QM) (n:Nat) (ns:Nat→QM) (i:Nat):QM:=if i < n then ms i else ns (i - n)
theorem qcells_cat {n k:Nat} {M N:Nat→QM}:qcells n M++qcells k N=qcells (n+k) (qcat M n N):=by
 refine cellsF_ext (by rw[List.length_append,cellsF_len,cellsF_len];omega) fun j hj=>?_
 by_cases h:j < n*4
 ·rw[List.getElem?_append_left (by rw[cellsF_len];exact h),cellsF_get h]
  unfold qcell qcat;rw[if_pos (by omega)]
 ·rw[List.getElem?_append_right (by rw[cellsF_len];omega),cellsF_len,cellsF_get (by omega)]
  unfold qcell qcat;rw[if_neg (by omega),show(j - n*4) / 4=j / 4 - n by omega,show(j - n*4) % 4=j % 4 by omega]
structure LM where
 a:Value
 m:Nat→QM
 b:QM
def Pm3 (N1 N2 N3:LM):Pm:=((Pm.no.app 0 N1.a N1.m N1.b).app 1 N2.a N2.m N2.b).app 2 N3.a N3.m N3.b
def lnQ (M:Pm) (w:Nat) (L:List X.Ln):Fct where
 p h:=(∀ i,i < L.length→(fF (M.av i) w (M.ma i) (X.ca L i)).p h)∧(mF L.length M.mb (X.cb L)).p h
 mono _ _ hl hp:=⟨fun i hi=>(fF _ _ _ _).mono _ _ hl (hp.1 i hi),(mF _ _ _).mono _ _ hl hp.2⟩
def fLn (M:Pm) (w:Nat) (L:List X.Ln):Fct where
 p h:=(slC M.lv L.length 5 (pcell M.av M.mb)).p h∧(lnQ M w L).p h
 mono _ _ hl hp:=⟨(slC _ _ _ _).mono _ _ hl hp.1,(lnQ _ _ _).mono _ _ hl hp.2⟩
theorem ca_app {L L2:List X.Ln} {i:Nat} (h:i < L.length):X.ca (L++L2) i=X.ca L i:=by
 unfold X.ca;simp only[List.getD_eq_getElem?_getD];rw[List.getElem?_append_left h]
theorem cb_app {L L2:List X.Ln} {i:Nat} (h:i < L.length):X.cb (L++L2) i=X.cb L i:=by
 unfold X.cb;simp only[List.getD_eq_getElem?_getD];rw[List.getElem?_append_left h]
theorem ca_app2 {L L2:List X.Ln} {i:Nat} (h:¬i < L.length):X.ca (L++L2) i=X.ca L2 (i - L.length):=by
 unfold X.ca;simp only[List.getD_eq_getElem?_getD];rw[List.getElem?_append_right (by omega)]
theorem cb_app2 {L L2:List X.Ln} {i:Nat} (h:¬i < L.length):X.cb (L++L2) i=X.cb L2 (i - L.length):=by
 unfold X.cb;simp only[List.getD_eq_getElem?_getD];rw[List.getElem?_append_right (by omega)]
theorem ca_0 (c:X.Ln) (l:List X.Ln):X.ca (c::l) 0=X.co c:=rfl
theorem cb_0 (c:X.Ln) (l:List X.Ln):X.cb (c::l) 0=c.2:=rfl
section
variable {P:Program} {e:Env} {bx bx':List Ow} {F:List Fct} {ty t el:TypeId} {x y:Operand} {v u:Value} {M N:Pm} {i n k w:Nat} {L L2:List X.Ln} {K:RPost} {g:Nat→Rat} {gv:Value} {mg:Nat→QM}
theorem W.Has.lns (h:Has F (fLn M w L)):Has F (slC M.lv L.length 5 (pcell M.av M.mb)):=fun p hf=>(h p hf).1
theorem W.Has.lnq (h:Has F (fLn M w L)):Has F (lnQ M w L):=fun p hf=>(h p hf).2
theorem W.Has.lna (h:Has F (lnQ M w L)) (hi:i < L.length):Has F (fF (M.av i) w (M.ma i) (X.ca L i)):=fun p hf=>(h p hf).1 i hi
theorem W.Has.lnbs (h:Has F (lnQ M w L)):Has F (mF L.length M.mb (X.cb L)):=fun p hf=>(h p hf).2
theorem W.Has.lnb (h:Has F (lnQ M w L)) (hi:i < L.length):Has F (isQ (qv (M.mb i)) (X.cb L i)):=W.Has.q h.lnbs hi
theorem W.Has.ln (h:Has F (slC M.lv L.length 5 (pcell M.av M.mb))) (h2:Has F (lnQ M w L)):Has F (fLn M w L):=fun p hf=>⟨h p hf,h2 p hf⟩
theorem W.Has.lnp (h:Has F (fLn M w L)) (h2:Has F (fF M.gv w M.mg g)):Has F (fP M (X.lpOf w L g)):=fun p hf=>⟨(h p hf).1,fun i hi=>(h p hf).2.1 i hi,(h p hf).2.2,h2 p hf⟩
theorem W.Has.pL (h:Has F (fP M (X.lpOf w L g))):Has F (fLn M w L):=fun p hf=>⟨(h p hf).1,fun i hi=>(h p hf).2.1 i hi,(h p hf).2.2.1⟩
theorem W.Has.pG (h:Has F (fP M (X.lpOf w L g))):Has F (fF M.gv w M.mg g):=fun p hf=>(h p hf).2.2.2
theorem W.Has.lnwg (h:Has F (fLn M w L)):Has F (fLn (M.wg gv mg) w L):=fun p hf=>h p hf
theorem W.Has.lnn:Has F (lnQ M w []):=fun p _=>⟨fun i hi=>absurd hi (by simp),fun i hi=>absurd hi (by simp)⟩
theorem W.Has.lnapp {a:Value} {ma:Nat→QM} {b:QM} (h:Has F (lnQ M w L)) (c:X.Ln) (h2:Has F (fF a w ma (X.co c))) (h3:Has F (isQ (qv b) c.2)):Has F (lnQ (M.app L.length a ma b) w (L++[c])):=fun p hf=>by
 have h1:=h p hf
 refine⟨fun i hi=>?_,fun i hi=>?_⟩
 ·rw[List.length_append,List.length_singleton] at hi
  by_cases e:i < L.length
  ·rw[ca_app e]
   show(fF (upd M.av L.length a i) w (upd M.ma L.length ma i) _).p p
   rw[upd_ne (by omega),upd_ne (by omega)];exact h1.1 i e
  ·obtain rfl:i=L.length:=by omega
   rw[ca_app2 e,Nat.sub_self,ca_0]
   show(fF (upd M.av L.length a L.length) w (upd M.ma L.length ma L.length) _).p p
   rw[upd_at,upd_at];exact h2 p hf
 ·rw[List.length_append,List.length_singleton] at hi
  by_cases e:i < L.length
  ·rw[cb_app e]
   show(isQ (qv (upd M.mb L.length b i)) _).p p
   rw[upd_ne (by omega)];exact h1.2 i e
  ·obtain rfl:i=L.length:=by omega
   rw[cb_app2 e,Nat.sub_self,cb_0]
   show(isQ (qv (upd M.mb L.length b L.length)) _).p p
   rw[upd_at];exact h3 p hf
theorem W.Has.lncat (h:Has F (lnQ M w L)) (h2:Has F (lnQ N w L2)):Has F (lnQ (M.cat L.length N) w (L++L2)):=fun p hf=>by
 have h1:=h p hf
 have h3:=h2 p hf
 refine⟨fun i hi=>?_,fun i hi=>?_⟩
 ·rw[List.length_append] at hi
  by_cases e:i < L.length
  ·rw[ca_app e]
   show(fF (if i < L.length then M.av i else N.av (i - L.length)) w (if i < L.length then M.ma i else N.ma (i - L.length)) _).p p
   rw[if_pos e,if_pos e];exact h1.1 i e
  ·rw[ca_app2 e]
   show(fF (if i < L.length then M.av i else N.av (i - L.length)) w (if i < L.length then M.ma i else N.ma (i - L.length)) _).p p
   rw[if_neg e,if_neg e];exact h3.1 _ (by omega)
 ·rw[List.length_append] at hi
  by_cases e:i < L.length
  ·rw[cb_app e]
   show(isQ (qv (if i < L.length then M.mb i else N.mb (i - L.length))) _).p p
   rw[if_pos e];exact h1.2 i e
  ·rw[cb_app2 e]
   show(isQ (qv (if i < L.length then M.mb i else N.mb (i - L.length))) _).p p
   rw[if_neg e];exact h3.2 _ (by omega)
theorem KnS.ln (h:Has F (fLn M w L)):KnS bx F M.lv L.length:=KnS.f h.lns
theorem KnS.lna (h:Has F (lnQ M w L)) (hi:i < L.length):KnS bx F (M.av i) w:=KnS.ff (h.lna hi)
theorem YO.ldLns (hs:Row P t 5) (hx:ev e x=some (.pointer (some (eaddr M.lv (i*5))))) (h:Has F (fLn M w L)) (hi:i < L.length):YO P (.load t x) ty e bx F (lnv M i):=
 YO.ldRS (us:=M.av i::qcs (M.mb i)) hs hx h.lns (by omega) rfl fun k hk=>by
  rw[pcell_at _ _ _ hk]
  match k,hk with|0,_=>rfl|1,_=>rfl|2,_=>rfl|3,_=>rfl|4,_=>rfl
theorem YO.ldLnA (hs:Scalar P t) (hx:ev e x=some (.pointer (some (eaddr M.lv (i*5+0))))) (h:Has F (fLn M w L)) (hi:i < L.length):YO P (.load t x) ty e bx F (M.av i):=by
 have:=YO.ldS (ty:=ty) (bx:=bx) hs hx h.lns (by omega)
 rwa [pcell_at _ _ _ (by omega)] at this
theorem YO.ldLnB (hs:Row P t 4) (hx:ev e x=some (.pointer (some (eaddr M.lv (i*5+1))))) (h:Has F (fLn M w L)) (hi:i < L.length):YO P (.load t x) ty e bx F (qv (M.mb i)):=
 YO.ldRS (us:=qcs (M.mb i)) hs hx h.lns (by omega) rfl fun k hk=>by
  rw[Nat.add_assoc,pcell_at _ _ _ (by omega)]
  match k,hk with|0,_=>rfl|1,_=>rfl|2,_=>rfl|3,_=>rfl
theorem KnS.oLn (h:Ow.slice v el 5 (lncells n M)∈bx):KnS bx F v n:=KnS.o h (cellsF_len _ _) (by decide)
theorem okLn {fr:PH} {w':World} {v:Value} (ho:OK fr bx F w') (hs:Sel bx (.slice v el 5 (lncells L.length M)) (.slice (.slice none 0 0) el 5 []) bx') (hm:Has F (lnQ M w L)):OK fr bx' (fLn (M.at v) w L::slC v L.length 5 (pcell M.av M.mb)::F) w':=by
 have h:=ho.freeze hs (cellsF_len _ _) (by decide) (pcell M.av M.mb) fun j hj=>cellsF_get hj
 exact h.add (f:=Go.Proofs.YtaongbhamadlkaaGreat.fLn (M.at v) w L) ⟨h.facts _ (List.mem_cons_self ..),(show Has (slC v L.length 5 (pcell M.av M.mb)::F) (lnQ M w L) from fun p hp=>hm p fun g hg=>hp g (List.mem_cons_of_mem _ hg)) _ h.facts⟩
theorem HasB.fLn (hb:Ow.slice v el 5 (lncells L.length M)∈bx) (hm:Has F (lnQ M w L)):HasB bx F (Go.Proofs.YtaongbhamadlkaaGreat.fLn (M.at v) w L):=fun fr w ho=>
 ⟨HasB.o hb (cellsF_len _ _) (by decide) (fun j hj=>cellsF_get hj) fr w ho,HasB.f hm fr w ho⟩
theorem KnS.oL1 {a:Value} {b:QM} (h:Ow.slice v el 5 (a::qcs b)∈bx):KnS bx F v 1:=KnS.o h rfl (by decide)
theorem WD.addNil {n':Nat} {hs:List Nat} {b0:List Ow} {F0:List Fct} {r:Plan} {Lo:List Oper} {Q2:Env→List Ow→List Fct→Prop} (el sz:Nat) (h:WD P n' Lo hs b0 F0 r e (Ow.slice (.slice none 0 0) el sz []::bx) F Q2):WD P n' Lo hs b0 F0 r e bx F Q2:=fun fr w0 listed a w fuel Q' h1 h2 h3 h4 h5 h6 hk hr ho hf=>h fr w0 listed a w fuel Q' h1 h2 h3 h4 h5 h6 hk hr (ho.addNil el sz) hf
theorem LO.ofY {op:Op} {r:Value} (hy:YO P op ty e bx F r) (h:K r bx F):LO P op ty e bx F K:=fun n fr a w o next Q' h1 h2 h3 h4 h5=>by
 have:=hy n fr a w o h1 h2 h3 h4
 rw[this]
 exact h5 r w bx F (W.Rest.refl w) h4 h
theorem one_ln {a:Value} {b:QM} {q:Rat} {n:Nat} (ha:KnS bx F a n) (hq:Has F (isQ (qv b) q)):OneL bx F (a::qcs b):=.cons (One.sl ha) (one_q hq)
theorem LO.bsLn1 {a:Value} {b:QM} {ma:Nat→QM} {qf:Nat→Rat} (hx:ev e x=some (.agg #[a,.bool b.1,b.2.1,.bool false,b.2.2])) (ha0:Has F (fF a n ma qf)) (h:∀ v,K v (Ow.slice v 60 5 (a::qcs b)::bx) F):LO Tryz.prog (.buildSlice 23 1 #[(0,x)]) ty e bx F K:=by
 have ha:KnS bx F a n:=KnS.ff ha0
 refine LO.byP (p:=∃ a' c,a=.slice a' n c) (fun fr w ho=>by obtain⟨a',c,h1,_⟩:=(ha fr w ho).is;exact⟨a',c,h1⟩) ?_
 rintro⟨a',c,rfl⟩
 exact LO.buildSlice (parts:=[(0,x)]) (us:=[.agg #[.slice a' n c,.bool b.1,b.2.1,.bool false,b.2.2]]) (cs:=.slice a' n c::qcs b) (.cons hx .nil) (fun _=>by kernel_rfl) rfl (by decide) h
theorem LO.bsR10 (hx:ev e x=some (qv m00)) (h:∀ v,K v (Ow.slice v 31 4 (qcs m00)::bx) F):LO Tryz.prog (.buildSlice 24 1 #[(0,x)]) ty e bx F K:=LO.bsR1 hx h
theorem LO.bsR2 {m m':QM} (hx:ev e x=some (qv m)) (hy:ev e y=some (qv m')) (h:∀ v,K v (Ow.slice v 31 4 (qcells 2 (upd (upd (fun _=>m00) 0 m) 1 m'))::bx) F):LO Tryz.prog (.buildSlice 24 2 #[(0,x),(1,y)]) ty e bx F K:=by
 refine LO.buildSlice (el:=31) (sz:=4) (parts:=[(0,x),(1,y)]) (us:=[qv m,qv m']) (cs:=qcs m++qcs m') (.cons hx (.cons hy .nil)) (fun _=>by kernel_rfl) rfl (by decide) fun v=>?_
 have:=h v
 rwa [←qcells_app,←qcells_app,show qcells 0 (fun _=>m00)=[] from rfl,List.nil_append] at this
theorem LO.bsLn3 {z:Operand} {N1 N2 N3:LM} {w1 w2 w3:Nat} {q1 q2 q3:Nat→Rat} (h1:ev e x=some (.agg #[N1.a,.bool N1.b.1,N1.b.2.1,.bool false,N1.b.2.2])) (h2:ev e y=some (.agg #[N2.a,.bool N2.b.1,N2.b.2.1,.bool false,N2.b.2.2])) (h3:ev e z=some (.agg #[N3.a,.bool N3.b.1,N3.b.2.1,.bool false,N3.b.2.2]))
  (f1:Has F (fF N1.a w1 N1.m q1)) (f2:Has F (fF N2.a w2 N2.m q2)) (f3:Has F (fF N3.a w3 N3.m q3)) (h:∀ v,K v (Ow.slice v 60 5 (lncells 3 (Pm3 N1 N2 N3))::bx) F):LO Tryz.prog (.buildSlice 23 3 #[(0,x),(1,y),(2,z)]) ty e bx F K:=by
 obtain⟨a1,m1,b1⟩:=N1
 obtain⟨a2,m2,b2⟩:=N2
 obtain⟨a3,m3,b3⟩:=N3
 refine LO.byP (p:=(∃ a' c,a1=.slice a' w1 c)∧(∃ a' c,a2=.slice a' w2 c)∧∃ a' c,a3=.slice a' w3 c) (fun fr w ho=>by
  obtain⟨a,c,g1,_⟩:=((KnS.ff f1:KnS bx F a1 w1) fr w ho).is
  obtain⟨a',c',g2,_⟩:=((KnS.ff f2:KnS bx F a2 w2) fr w ho).is
  obtain⟨a'',c'',g3,_⟩:=((KnS.ff f3:KnS bx F a3 w3) fr w ho).is
  exact⟨⟨a,c,g1⟩,⟨a',c',g2⟩,a'',c'',g3⟩) ?_
 rintro⟨⟨a,c,rfl⟩,⟨a',c',rfl⟩,a'',c'',rfl⟩
 refine LO.buildSlice (el:=60) (sz:=5) (parts:=[(0,x),(1,y),(2,z)]) (us:=[.agg #[.slice a w1 c,.bool b1.1,b1.2.1,.bool false,b1.2.2],.agg #[.slice a' w2 c',.bool b2.1,b2.2.1,.bool false,b2.2.2],.agg #[.slice a'' w3 c'',.bool b3.1,b3.2.1,.bool false,b3.2.2]])
  (cs:=(.slice a w1 c::qcs b1)++(.slice a' w2 c'::qcs b2)++(.slice a'' w3 c''::qcs b3)) (.cons h1 (.cons h2 (.cons h3 .nil))) (fun _=>by kernel_rfl) rfl (by decide) fun v=>?_
 have:=h v
 unfold Pm3 at this
 rwa [←lncells_app,←lncells_app,←lncells_app,show lncells 0 Pm.no=[] from rfl,List.nil_append] at this
theorem W.Has.mF2 {m m':QM} {q:Nat→Rat} (h1:Has F (isQ (qv m) (q 0))) (h2:Has F (isQ (qv m') (q 1))):Has F (mF 2 (upd (upd (fun _=>m00) 0 m) 1 m') q):=fun p hf i hi=>by
 match i,hi with
 |0,_=>exact h1 p hf
 |1,_=>exact h2 p hf
theorem W.Has.ln3 {N1 N2 N3:LM} {c1 c2 c3:X.Ln} (f1:Has F (fF N1.a w N1.m (X.co c1))) (g1:Has F (isQ (qv N1.b) c1.2)) (f2:Has F (fF N2.a w N2.m (X.co c2))) (g2:Has F (isQ (qv N2.b) c2.2)) (f3:Has F (fF N3.a w N3.m (X.co c3))) (g3:Has F (isQ (qv N3.b) c3.2)):Has F (lnQ (Pm3 N1 N2 N3) w [c1,c2,c3]):=
 W.Has.lnapp (L:=[c1,c2]) (W.Has.lnapp (L:=[c1]) (W.Has.lnapp (L:=[]) W.Has.lnn c1 f1 g1) c2 f2 g2) c3 f3 g3
theorem LO.bsLn0 (h:∀ v,K v (Ow.slice v 60 5 []::bx) F):LO Tryz.prog (.buildSlice 23 0 #[]) ty e bx F K:=LO.buildSlice (parts:=[]) (us:=[]) (cs:=[]) .nil (fun _=>by kernel_rfl) rfl (by decide) h
section
variable {el':TypeId} {bx2:Value→List Ow}
theorem LO.appLn1 {a:Value} {ma:Nat→QM} {qf:Nat→Rat} {b:QM} {q:Rat} (hx:ev e x=some v) (hy:ev e y=some u) (hu:Ow.slice u el' 5 (a::qcs b)∈bx) (ha0:Has F (fF a w ma qf)) (hm:Has F (isQ (qv b) q)) (hs:∀ v',Sel bx (.slice v 60 5 (lncells n M)) (.slice v' 60 5 (lncells (n+1) (M.app n a ma b))) (bx2 v')) (hl:n≤1000000) (h:∀ v',K v' (bx2 v') F) :
  LO Tryz.prog (.call {callee:=.builtin .append,args:=#[x,y],argTypes:=#[23,23]}) ty e bx F K:=by
 refine LO.byP (fun fr w ho=>(one_ln (bx:=bx) (KnS.ff ha0) hm).all ho) fun h1=>?_
 exact LO.append T.e23 hx hy (news:=a::qcs b) (by rw[lncells_app (m:=ma)];exact hs) (SrcE.one hu rfl (by decide)) h1 (by rw[cellsF_len];show(n*5+5)*88≤_;omega) (by rw[cellsF_len];show n*5+5≤_;omega) h
theorem one_lncells {fr:PH} {w':World} (ho:OK fr bx F w') (hm:Has F (lnQ N w L)):∀ c∈lncells L.length N,c.oneCell'=true:=fun c hc=>by
 simp only[cellsF,List.mem_map,List.mem_range] at hc
 obtain⟨j,hj,rfl⟩:=hc
 have:=(one_ln (bx:=bx) (KnS.ff (hm.lna (i:=j / 5) (by omega))) (hm.lnb (i:=j / 5) (by omega))).all ho
 unfold pcell
 have hr:=row_get (l:=N.av (j / 5)::qcs (N.mb (j / 5))) (r:=j % 5) (n:=5) rfl (by omega)
 exact this _ (List.mem_of_getElem? hr)
theorem LO.appLnf (hx:ev e x=some v) (hy:ev e y=some N.lv) (hu:Has F (fLn N w L)) (hs:∀ v',Sel bx (.slice v 60 5 (lncells n M)) (.slice v' 60 5 (lncells (n+L.length) (M.cat n N))) (bx2 v')) (hl:n≤1000000) (hl2:L.length≤1000000) (h:∀ v',K v' (bx2 v') F) :
  LO Tryz.prog (.call {callee:=.builtin .append,args:=#[x,y],argTypes:=#[23,23]}) ty e bx F K:=by
 refine LO.byP (fun fr w ho=>one_lncells ho hu.lnq) fun h1=>?_
 exact LO.append T.e23 hx hy (news:=lncells L.length N) (by rw[lncells_cat];exact hs) (SrcE.fact hu.lns) h1 (by rw[cellsF_len,cellsF_len];omega) (by rw[cellsF_len,cellsF_len];omega) h
theorem LO.appLnf0 (hx:ev e x=some v) (hy:ev e y=some N.lv) (hu:Has F (fLn N w L)) (hs:∀ v',Sel bx (.slice v 60 5 []) (.slice v' 60 5 (lncells L.length N)) (bx2 v')) (hl2:L.length≤1000000) (h:∀ v',K v' (bx2 v') F) :
  LO Tryz.prog (.call {callee:=.builtin .append,args:=#[x,y],argTypes:=#[23,23]}) ty e bx F K:=by
 refine LO.byP (fun fr w ho=>one_lncells ho hu.lnq) fun h1=>?_
 exact LO.append T.e23 hx hy (cs:=[]) (news:=lncells L.length N) hs (SrcE.fact hu.lns) h1 (by rw[cellsF_len,List.length_nil];omega) (by rw[cellsF_len,List.length_nil];omega) h
theorem LO.appFg {ms ms':Nat→QM} {q:Nat→Rat} (hx:ev e x=some v) (hy:ev e y=some u) (hu:Has F (fF u k ms' q)) (hs:∀ v',Sel bx (.slice v 31 4 (qcells n ms)) (.slice v' 31 4 (qcells (n+k) (qcat ms n ms'))) (bx2 v')) (hl:n≤1000000) (hl2:k≤1000000) (h:∀ v',K v' (bx2 v') F) :
  LO Tryz.prog (.call {callee:=.builtin .append,args:=#[x,y],argTypes:=#[24,24]}) ty e bx F K:=by
 refine LO.byP (fun fr w ho=>one_fcells ho hu.fm) fun h1=>?_
 exact LO.append T.e24 hx hy (news:=qcells k ms') (by rw[qcells_cat];exact hs) (SrcE.fact hu.fs) h1 (by rw[cellsF_len,cellsF_len];omega) (by rw[cellsF_len,cellsF_len];omega) h
end
def qcatf (f:Nat→Rat) (n:Nat) (g:Nat→Rat) (i:Nat):Rat:=if i < n then f i else g (i - n)
theorem W.Has.mFcat {ms ns:Nat→QM} {f g:Nat→Rat} (h:Has F (mF n ms f)) (h2:Has F (mF k ns g)):Has F (mF (n+k) (qcat ms n ns) (qcatf f n g)):=fun p hf i hi=>by
 unfold qcat qcatf
 by_cases c:i < n
 ·rw[if_pos c,if_pos c];exact h p hf i c
 ·rw[if_neg c,if_neg c];exact h2 p hf _ (by omega)
theorem made_ln (n:Nat):(madeCells (Value.agg #[.slice none 0 0,.bool false,.slice none 0 0,.bool false,.slice none 0 0]).cells (n*5)).toList=lncells n Pm.no:=
 madeF n 5 _ _ rfl (by decide) fun j=>by
  unfold pcell
  have h1:j % 5=0∨j % 5=1∨j % 5=2∨j % 5=3∨j % 5=4:=by omega
  rcases h1 with h1|h1|h1|h1|h1 <;> rw[h1] <;> rfl
theorem LO.makeLn {i:Int} (hx:ev e x=some (.int .i64 i)) (hy:ev e y=some (.int .i64 i)) (hi:NatI i n) (hb:n≤1000000) (h:∀ v,K v (Ow.slice v 60 5 (lncells n Pm.no)::bx) F):LO Tryz.prog (.makeSlice 23 x y) ty e bx F K:=by
 obtain rfl:=hi.eq
 exact LO.make T.e23 hx hy (by omega) (by omega) (made_ln n) h
theorem YO.buildLn0:YO Tryz.prog (.build 60 #[]) ty e bx F (.agg #[.slice none 0 0,.bool m00.1,m00.2.1,.bool false,m00.2.2]):=YO.build (parts:=[]) .nil fun w=>run_build w 60 _ _ (by kernel_rfl)
theorem YO.buildLnB {b:QM} (h1:ev e x=some (qv b)):YO Tryz.prog (.build 60 #[(1,x)]) ty e bx F (.agg #[.slice none 0 0,.bool b.1,b.2.1,.bool false,b.2.2]):=YO.build (parts:=[(1,x)]) (.cons h1 .nil) fun w=>run_build w 60 _ _ (by kernel_rfl)
theorem YO.buildLn1 (h1:ev e x=some v) (kd:KnS bx F v n):YO Tryz.prog (.build 60 #[(0,x)]) ty e bx F (.agg #[v,.bool m00.1,m00.2.1,.bool false,m00.2.2]):=by
 refine YO.byP (p:=∃ a c,v=.slice a n c) (fun fr w ho=>by obtain⟨a,c,h1,_⟩:=(kd fr w ho).is;exact⟨a,c,h1⟩) ?_
 rintro⟨a,c,rfl⟩
 exact YO.build (parts:=[(0,x)]) (.cons h1 .nil) fun w=>run_build w 60 _ _ (by kernel_rfl)
theorem YO.buildLn2 {b:QM} (h1:ev e x=some v) (h2:ev e y=some (qv b)) (kd:KnS bx F v n):YO Tryz.prog (.build 60 #[(0,x),(1,y)]) ty e bx F (.agg #[v,.bool b.1,b.2.1,.bool false,b.2.2]):=by
 refine YO.byP (p:=∃ a c,v=.slice a n c) (fun fr w ho=>by obtain⟨a,c,h1,_⟩:=(kd fr w ho).is;exact⟨a,c,h1⟩) ?_
 rintro⟨a,c,rfl⟩
 exact YO.build (parts:=[(0,x),(1,y)]) (.cons h1 (.cons h2 .nil)) fun w=>run_build w 60 _ _ (by kernel_rfl)
section
variable {z:Operand} {v2:Value} {n2:Nat} {j:Int}
theorem YO.buildPg0 (h1:ev e x=some (.int .i64 j)):YO Tryz.prog (.build 26 #[(0,x)]) ty e bx F (.agg #[.int .i64 j,.slice none 0 0,.slice none 0 0]):=YO.build (parts:=[(0,x)]) (.cons h1 .nil) fun w=>run_build w 26 _ _ (by kernel_rfl)
theorem YO.buildPg01 (h1:ev e x=some (.int .i64 j)) (h2:ev e y=some v) (kd:KnS bx F v n):YO Tryz.prog (.build 26 #[(0,x),(1,y)]) ty e bx F (.agg #[.int .i64 j,v,.slice none 0 0]):=by
 refine YO.byP (p:=∃ a c,v=.slice a n c) (fun fr w ho=>by obtain⟨a,c,h1,_⟩:=(kd fr w ho).is;exact⟨a,c,h1⟩) ?_
 rintro⟨a,c,rfl⟩
 exact YO.build (parts:=[(0,x),(1,y)]) (.cons h1 (.cons h2 .nil)) fun w=>run_build w 26 _ _ (by kernel_rfl)
theorem YO.buildPg02 (h1:ev e x=some (.int .i64 j)) (h2:ev e y=some v) (kd:KnS bx F v n):YO Tryz.prog (.build 26 #[(0,x),(2,y)]) ty e bx F (.agg #[.int .i64 j,.slice none 0 0,v]):=by
 refine YO.byP (p:=∃ a c,v=.slice a n c) (fun fr w ho=>by obtain⟨a,c,h1,_⟩:=(kd fr w ho).is;exact⟨a,c,h1⟩) ?_
 rintro⟨a,c,rfl⟩
 exact YO.build (parts:=[(0,x),(2,y)]) (.cons h1 (.cons h2 .nil)) fun w=>run_build w 26 _ _ (by kernel_rfl)
theorem YO.buildPg3 (h1:ev e x=some (.int .i64 j)) (h2:ev e y=some v) (h3:ev e z=some v2) (kd:KnS bx F v n) (kd2:KnS bx F v2 n2):YO Tryz.prog (.build 26 #[(0,x),(1,y),(2,z)]) ty e bx F (.agg #[.int .i64 j,v,v2]):=by
 refine YO.byP (p:=(∃ a c,v=.slice a n c)∧∃ a c,v2=.slice a n2 c) (fun fr w ho=>by obtain⟨a,c,h1,_⟩:=(kd fr w ho).is;obtain⟨a2,c2,h2,_⟩:=(kd2 fr w ho).is;exact⟨⟨a,c,h1⟩,a2,c2,h2⟩) ?_
 rintro⟨⟨a,c,rfl⟩,a2,c2,rfl⟩
 exact YO.build (parts:=[(0,x),(1,y),(2,z)]) (.cons h1 (.cons h2 (.cons h3 .nil))) fun w=>run_build w 26 _ _ (by kernel_rfl)
end
end
section
variable {P:Program} {e:Env} {bx bx':List Ow} {F:List Fct} {el w:Nat} {c:Code} {Q:Post} {n':Nat} {rest Lo:List Oper} {Q2:Env→List Ow→List Fct→Prop}
theorem WC.freezeLn (v:Value) (M:Pm) (w:Nat) (L:List X.Ln) (hs:Sel bx (.slice v el 5 (lncells L.length M)) (.slice (.slice none 0 0) el 5 []) bx') (hm:Has F (lnQ M w L)) (h:WC P n' c e bx' (fLn (M.at v) w L::slC v L.length 5 (pcell M.av M.mb)::F) Q):WC P n' c e bx F Q:=fun fr w0 a w hk hr ho=>h fr w0 a w hk hr (okLn ho hs hm)
theorem WC.asPg {lv gv:Value} (N:Pm) (mg:Nat→QM) (p:X.Lp) (hP:Has F (fP ((N.at lv).wg gv mg) p)) (h:∀ M:Pm,M.lv=lv→M.gv=gv→WC P n' c e bx (fP M p::F) Q):WC P n' c e bx F Q:=WC.fact _ hP (h _ rfl rfl)
theorem WL.asPg {lv gv:Value} (N:Pm) (mg:Nat→QM) (p:X.Lp) (hP:Has F (fP ((N.at lv).wg gv mg) p)) (h:∀ M:Pm,M.lv=lv→M.gv=gv→WL P n' Lo rest e bx (fP M p::F) Q2):WL P n' Lo rest e bx F Q2:=WL.fact' _ hP (h _ rfl rfl)
theorem WL.freezeLn (v:Value) (M:Pm) (w:Nat) (L:List X.Ln) (hs:Sel bx (.slice v el 5 (lncells L.length M)) (.slice (.slice none 0 0) el 5 []) bx') (hm:Has F (lnQ M w L)) (h:WL P n' Lo rest e bx' (fLn (M.at v) w L::slC v L.length 5 (pcell M.av M.mb)::F) Q2):WL P n' Lo rest e bx F Q2:=fun fr w0 a w Q' hQ hk hr ho=>h fr w0 a w Q' hQ hk hr (okLn ho hs hm)
end
end Go.Proofs.YtaongbhamadlkaaGreat
