/- Lemmas for a law. Conditions: none. -/
import Derived.Test.YtcpaopfdiahnnaaGreatZb27
set_option linter.all false
set_option maxHeartbeats 32000000
set_option maxRecDepth 100000
namespace Go.Proofs.YtcpaopfdiahnnaaGreat
section
open W Go.RowKit
open Bl (Vc Bd Tc Sc)
def IsPart (i:Nat) (f:Value) (gi:Nat):Qd:=λv B G=>∃ gf,v=.func (.func 60) #[] #[ptr gf,ptr gi]∧B=[]∧G=[ce gf 115 [f]]
def co2 (fx fy:Nat->Rat) (s:Rat) (j:Nat):Rat:=(if j % 2=0 then fx (j / 2) else fy (j / 2))*s
def IsAdd (g4:Nat) (vars:Int) (gv:Value) (n:Nat) (ms:Nat->LnM) (xs:Nat->LnX):Qd:=λv B G=>∃ lv mm,v=.tuple #[]∧B=[Ow.cells g4 36 [.int .i64 vars,lv,gv],lO Qp lv 110 (n+1) (upd ms n mm) xs]∧G=[fLx mm (xs n)]
namespace K
attribute [local irreducible] WC WL WD YO LO Qq W.Fin Qw Qu Qj Row QQ Qy KnS Has W.One Ql Qr
def d57 {G G':Prop} (h:G') (s:Bx G'->G:=by
 intro h;first|refine gM ?_|refine H3 ?_|(apply WC.draw (id:=1) [0,1,4,5] (.h 0<|.h 1<|.h 5<|.m 2 (.m 3 (.h 4<|.m 6 (.m 7 (.l 8<|.l 9<|.l 10 .done) (.l 8<|.l 7<|.l 9<|.l 10 .done)) (.m 7 (.m 6 (.l 8<|.l 9<|.l 10 .done) (.l 8<|.l 6<|.l 9<|.l 10 .done)) (.l 8<|.m 6 (.l 7<|.l 9<|.l 10 .done) (.l 7<|.l 6<|.l 9<|.l 10 .done)))) (.m 7 (.m 3 (.h 4<|.m 6 (.l 8<|.l 9<|.l 10 .done) (.l 8<|.l 6<|.l 9<|.l 10 .done)) (.l 8<|.l 3<|.h 4<|.l 6<|.l 9<|.l 10 .done)) (.l 8<|.m 3 (.h 4<|.m 6 (.l 7<|.l 9<|.l 10 .done) (.l 7<|.l 6<|.l 9<|.l 10 .done)) (.l 7<|.l 3<|.h 4<|.l 6<|.l 9<|.l 10 .done)))) (.m 7 (.m 2 (.m 3 (.h 4<|.m 6 (.l 8<|.l 9<|.l 10 .done) (.l 8<|.l 6<|.l 9<|.l 10 .done)) (.l 8<|.l 3<|.h 4<|.l 6<|.l 9<|.l 10 .done)) (.l 8<|.l 2<|.l 3<|.h 4<|.l 6<|.l 9<|.l 10 .done)) (.l 8<|.m 2 (.m 3 (.h 4<|.m 6 (.l 7<|.l 9<|.l 10 .done) (.l 7<|.l 6<|.l 9<|.l 10 .done)) (.l 7<|.l 3<|.h 4<|.l 6<|.l 9<|.l 10 .done)) (.l 7<|.l 2<|.l 3<|.h 4<|.l 6<|.l 9<|.l 10 .done)))) mixed kr)|(apply WC.draw (id:=6) [0,1,2,3,5,6] (.h 0<|.h 1<|.h 2<|.h 3<|.h 5<|.h 6<|.l 4<|.l 7<|.l 8<|.l 9<|.f 10<|.l 11 .done) mixed kr)|fail
 exact Bx.h h):G:=s ⟨h⟩
def Gh (gi:Nat) (i:Nat) (ff:FuncId) (fc:List Value):FnB Tryz.prog 59 [.func (.func ff) #[] fc.toArray,ptr gi] [] [] (IsPart i (.func (.func ff) #[] fc.toArray) gi):=by
 refine fO [(0,(.func (.func ff) #[] fc.toArray)),(1,(ptr gi))] 5 Tryz.func59 Tryz.ntmps59 λh0=>?_;repeat'(first|intro(g:Nat)|refine gA ?_|intro v)
 refine WC.keep Rem.head ?_;refine WC.ret ?_;exact Fp [ce g 115 [.func (.func ff) #[] fc.toArray]] (Qv.t1 rfl rfl) haA ⟨g,rfl,rfl,rfl⟩
def U7 (g3 g4:Nat) (va:Value) (E n:Nat) (em:Nat->EM) (ed:Nat->Ed) (sign:Int) (hsg:sign.natAbs < 1000) (mb:QM) (most:Rat) (lv gv:Value) (vars:Int) (ms:Nat->LnM) (xs:Nat->LnX) (ff:FuncId) (fc:List Value) (Fc:Fct) (fx fy:Nat->Rat) (K:Nat) (h0K:0 < K) (hK:K<=1000000) (hE:E<=1000) (hn:n<=1000)
  (hmost:Sq K most) (hfx:∀ k,k < E->Sq K (fx k)) (hfy:∀ k,k < E->Sq K (fy k)) (hxs:xs n=⟨2*E,co2 fx fy (Rat.divInt sign 1),most*Rat.divInt sign 1⟩)
  (hf:∀ k,k < E->FnB Tryz.prog ff ([]++[edv (em k) (ed k)]++fc) [] [fE (em k) (ed k),Fc] (IsR2 (fx k) (fy k))) :
  FnB Tryz.prog 57 [.int .i64 sign,qv mb,.func (.func ff) #[] fc.toArray,ptr g3,ptr g4] [Ow.cells g4 36 [.int .i64 vars,lv,gv],lO Qp lv 110 n ms xs] [isQ (qv mb) most,ce g3 106 [va],lF JY va E em ed,Fc] (IsAdd g4 vars gv n ms xs):=by
 refine fO [(0,(.int .i64 sign)),(1,(qv mb)),(2,(.func (.func ff) #[] fc.toArray)),(3,(ptr g3)),(4,(ptr g4))] 51 Tryz.func57 Tryz.ntmps57 λh0=>?_;have hs2:Sq K (Rat.divInt sign 1):=GK K h0K sign qo;repeat'(first|intro(g:Nat)|refine gA ?_|intro v)
 refine WC.YJ (σ:=Nat×Nat×QM×QM) (λs=>[(8,ptr s.1),(9,ptr s.2.1),(2,.func (.func ff) #[] fc.toArray),(3,ptr g3),(4,ptr g4)])
  (λs=>[Ow.cells s.1 110 [.slice none 0 0,.bool s.2.2.1.1,s.2.2.1.2.1,.bool false,s.2.2.1.2.2],Ow.cells s.2.1 64 (qcs s.2.2.2),Ow.cells g4 36 [.int .i64 vars,lv,gv],lO Qp lv 110 n ms xs])
  (λs=>[isQ (qv s.2.2.1) (most*Rat.divInt sign 1),isQ (qv s.2.2.2) (Rat.divInt sign 1),ge h0,ce g3 106 [va],lF JY va E em ed,Fc]) (λ_=>True) ?_ ?_
 ·repeat'(first|intro(g:Nat)|refine d57 ?_|refine gN ?_ ?_|refine cW (Zn.of sign 1 (by show _ < 1000000000000000000;omega) qd) λzm=>?_|refine cW (Zn.mul mb _ most (Rat.divInt sign 1) (hmost.sm qo) (hs2.sm qo)) λzm=>?_|intro v)
  all_goals(apply Ex4;refine⟨trivial,?_,?_,?_⟩;(focus(repeat(first|exact Sub.nil _|refine Sub.cons rfl ?_)));(focus(repeat(first|exact Q9.nil _|(apply Q9.cons;(repeat(first|exact Rem.head|apply Rem.tail))))));(focus(repeat(first|exact Qk.nil|(apply Qk.cons;exact hsA)))))
 rintro⟨g8,g9,n2,n3⟩ _;simp only;refine WC.Jd 64 4 ?_;repeat'(first|intro(g:Nat)|refine d57 ?_|refine gN ?_ ?_|intro v)
 refine WC.lp (σ:=Nat×Value×(Nat->QM)) (λst=>[(23,.int .i64 (st.1:Int)),(22,.int .i64 (E:Int)),(21,va),(8,ptr g8),(9,ptr g9),(2,.func (.func ff) #[] fc.toArray),(3,ptr g3),(4,ptr g4)])
  (λst=>[Ow.slice st.2.1 64 4 (Qe (2*st.1) st.2.2),Ow.cells g8 110 [st.2.1,.bool n2.1,n2.2.1,.bool false,n2.2.2],Ow.cells g9 64 (qcs n3),Ow.cells g4 36 [.int .i64 vars,lv,gv],lO Qp lv 110 n ms xs])
  (λst=>[mF (2*st.1) st.2.2 (co2 fx fy (Rat.divInt sign 1)),isQ (qv n2) (most*Rat.divInt sign 1),isQ (qv n3) (Rat.divInt sign 1),ge h0,ce g3 106 [va],lF JY va E em ed,Fc]) (λst=>st.1<=E) (λst=>E - st.1) (0,.slice none 0 0,λ_=>m00) (Nat.zero_le _) ?_ (hG:=.cons (W.Has.mFn _ _) haA)
 rintro⟨k,vq,mq⟩ hk;simp only at hk ⊢;by_cases c:k < E
 ·refine WC.fact (fE (em k) (ed k)) (W.Has.lk (S:=JY) (v:=va) hmA c) ?_;repeat'(first|intro(g:Nat)|refine d57 ?_|refine gN ?_ ?_|intro v)
  refine WL.Xw [] fc (vs:=[edv (em k) (ed k)]) (hf k c) ?_;rintro _ _ _ ⟨m1,m2,rfl,rfl,rfl⟩;refine sNn ?_;repeat'(first|intro(g:Nat)|refine d57 ?_|refine gN ?_ ?_|intro v)
  refine cW (Zn.mul m1 n3 (fx k) (Rat.divInt sign 1) ((hfx k c).sm qo) (hs2.sm qo)) λn4=>?_;repeat'(first|intro(g:Nat)|refine d57 ?_|refine gN ?_ ?_|intro v)
  refine cW (Zn.mul m2 n3 (fy k) (Rat.divInt sign 1) ((hfy k c).sm qo) (hs2.sm qo)) λn5=>?_;repeat'(first|intro(g:Nat)|refine d57 ?_|refine gN ?_ ?_|intro v)
  have e1:co2 fx fy (Rat.divInt sign 1) (2*k)=fx k*Rat.divInt sign 1:=by unfold co2;rw[if_pos qo,show 2*k / 2=k by omega]
  have e2:co2 fx fy (Rat.divInt sign 1) (2*k+1)=fy k*Rat.divInt sign 1:=by unfold co2;rw[if_neg qo,show(2*k+1) / 2=k by omega]
  exact Qq.mk (k+1,_,upd (upd mq (2*k) n4) (2*k+1) n5) (by simp only;omega) (by simp only;omega) (hG:=.cons (W.Has.QW (W.Has.Ul (W.Has.Ul (n:=2*k) (qf:=co2 fx fy (Rat.divInt sign 1)) hmA (m:=n4) (z:=fx k*Rat.divInt sign 1) hmA) (m:=n5) (z:=fy k*Rat.divInt sign 1) hmA) (λj hj=>by unfold upd;split;(rename_i e;rw[e];exact e2.symm);split;(rename_i e;rw[e];exact e1.symm);rfl)) haA)
 ·obtain rfl:k=E:=qo;repeat'(first|intro(g:Nat)|refine d57 ?_|refine gN ?_ ?_|intro v)
  refine WL.Jh vq (2*k) mq (co2 fx fy (Rat.divInt sign 1)) (by repeat(first|exact Sel.head|apply Sel.tail)) hmA ?_;refine WL.QG (fLx ⟨vq,mq,n2⟩ (xs n)) (by rw[hxs];exact W.Has.lof hmA hmA) ?_;repeat'(first|intro(g:Nat)|refine d57 ?_|refine gN ?_ ?_|intro v)
  exact Fin.p [_,_] [fLx ⟨vq,mq,n2⟩ (xs n)] (Qv.t0 rfl) meA slA haA ⟨_,⟨vq,mq,n2⟩,rfl,rfl,rfl⟩
end K
end
section
open W Go.RowKit
open Bl (Vc Bd Tc Sc)
def LO.ofY {P:Program} {e:Env} {bx:List Ow} {F:List Fct} {ty:TypeId} {op:Op} {r:Value} {K:Qd} (hy:YO P op ty e bx F r) (h:K r bx F):LO P op ty e bx F K:=λn fr a w o K' h1 h2 h3 h4 h5=>by
 have:=hy n fr a w o h1 h2 h3 h4;rw[this.1];refine .inl ⟨.look this.2,?_⟩;rw[Qs (Nat.le_refl _)];exact h5 fr r w bx F (.refl _) (Rest.refl w) h4 h
attribute [local irreducible] WC WL WD YO LO Qq W.Fin Qw Qu Qj Row QQ Qy KnS Has W.One Ql Qr
namespace K
def goYB {G G':Prop} (h:G') (s:Bx G'->G:=by
 intro h
 (apply WD.yl;exact rfl;(first|exact Xp|(first|(first|(apply YO.slice;exact t6A;exact rfl;exact knA;exact Or.inl ⟨rfl,rfl⟩;exact Or.inr ⟨_,rfl,rfl⟩;omega;omega)|(apply YO.slice;exact t6A;exact rfl;exact knA;exact Or.inr ⟨_,rfl,rfl⟩;exact Or.inl ⟨rfl,rfl⟩;omega;omega))|(apply YO.slice3;exact t6A;exact rfl;exact knA;exact rfl;exact rfl;omega;omega)|(apply YO.slice;exact t6A;exact rfl;exact knA;exact Or.inr ⟨_,rfl,rfl⟩;exact Or.inr ⟨_,rfl,rfl⟩;omega;omega))|(apply YO.extract;exact rfl;exact rfl)|exact QT|(first|(first|(apply YO.ix1;exact t6A;exact rfl;exact rfl;exact knA;omega)|(apply YO.ix;exact t6A;exact rfl;exact rfl;exact knA;omega)|(apply YO.ZP;exact t6A;exact rfl;exact rfl;exact knA;omega;omega)|(apply YO.ix';exact t6A;exact rfl;exact rfl;exact knA;omega;omega))|(apply YO.ix1;exact t6A;exact rfl;exact rfl;exact knA;(first|omega|(simp only[List.length_set,List.length_replicate];omega)))|(apply YO.ix;exact t6A;exact rfl;exact rfl;exact knA;(first|omega|(simp only[List.length_set,List.length_replicate];omega)))|(apply YO.ZP;exact t6A;exact rfl;exact rfl;exact knA;omega;(first|omega|(simp only[List.length_set,List.length_replicate];omega))))|(first|(apply YO.ldC;exact t4A;exact rfl;exact meA;(repeat(first|exact Cut.done|apply Cut.take|apply Cut.drop)))|(apply YO.ldL;exact t4A;exact rfl;exact hmA;(first|exact Off.base|(apply Off.add;exact Off.base;((try simp only[Nat.zero_add,Nat.mul_one,Nat.reduceAdd,Nat.reduceMul]);exact rfl))|(apply Off.add;apply Off.add;exact Off.base;((try simp only[Nat.zero_add,Nat.mul_one,Nat.reduceAdd,Nat.reduceMul]);exact rfl);((try simp only[Nat.zero_add,Nat.mul_one,Nat.reduceAdd,Nat.reduceMul]);exact rfl))|(apply Off.add;apply Off.add;apply Off.add;exact Off.base;((try simp only[Nat.zero_add,Nat.mul_one,Nat.reduceAdd,Nat.reduceMul]);exact rfl);((try simp only[Nat.zero_add,Nat.mul_one,Nat.reduceAdd,Nat.reduceMul]);exact rfl);((try simp only[Nat.zero_add,Nat.mul_one,Nat.reduceAdd,Nat.reduceMul]);exact rfl)));omega;decide;(repeat(first|exact Cut.done|apply Cut.take|apply Cut.drop)))|(apply YO.ldLs;exact t2A;exact rfl;exact hmA;(first|exact Off.base|(apply Off.add;exact Off.base;((try simp only[Nat.zero_add,Nat.mul_one,Nat.reduceAdd,Nat.reduceMul]);exact rfl))|(apply Off.add;apply Off.add;exact Off.base;((try simp only[Nat.zero_add,Nat.mul_one,Nat.reduceAdd,Nat.reduceMul]);exact rfl);((try simp only[Nat.zero_add,Nat.mul_one,Nat.reduceAdd,Nat.reduceMul]);exact rfl))|(apply Off.add;apply Off.add;apply Off.add;exact Off.base;((try simp only[Nat.zero_add,Nat.mul_one,Nat.reduceAdd,Nat.reduceMul]);exact rfl);((try simp only[Nat.zero_add,Nat.mul_one,Nat.reduceAdd,Nat.reduceMul]);exact rfl);((try simp only[Nat.zero_add,Nat.mul_one,Nat.reduceAdd,Nat.reduceMul]);exact rfl)));omega;(repeat(first|exact Cut.done|apply Cut.take|apply Cut.drop)))|(apply YO.ldCk;exact t4A;exact rfl;exact hmA;(repeat(first|exact Cut.done|apply Cut.take|apply Cut.drop)))|(apply YO.ldOL;exact t4A;exact rfl;exact meA;(first|exact Off.base|(apply Off.add;exact Off.base;((try simp only[Nat.zero_add,Nat.mul_one,Nat.reduceAdd,Nat.reduceMul]);exact rfl))|(apply Off.add;apply Off.add;exact Off.base;((try simp only[Nat.zero_add,Nat.mul_one,Nat.reduceAdd,Nat.reduceMul]);exact rfl);((try simp only[Nat.zero_add,Nat.mul_one,Nat.reduceAdd,Nat.reduceMul]);exact rfl))|(apply Off.add;apply Off.add;apply Off.add;exact Off.base;((try simp only[Nat.zero_add,Nat.mul_one,Nat.reduceAdd,Nat.reduceMul]);exact rfl);((try simp only[Nat.zero_add,Nat.mul_one,Nat.reduceAdd,Nat.reduceMul]);exact rfl);((try simp only[Nat.zero_add,Nat.mul_one,Nat.reduceAdd,Nat.reduceMul]);exact rfl)));omega;decide;(repeat(first|exact Cut.done|apply Cut.take|apply Cut.drop)))|(apply YO.ldON;exact t2A;exact rfl;exact meA;omega)|(apply YO.ldOV;exact t2A;exact rfl;exact meA;omega)|(apply YO.ldW;exact t4A;exact rfl;exact meA;exact rfl)|(apply YO.ld42;exact t4A;exact rfl;exact meA)|(apply YO.ld40;exact t4A;exact rfl;exact meA)|(apply YO.ld51;exact t4A;exact rfl;exact meA)|(apply YO.ldFf;exact t4A;exact rfl;exact hmA;omega)|(apply YO.ldOR;exact t4A;exact rfl;exact meA;omega)|(apply YO.ldRf;exact t4A;exact rfl;exact hmA;omega;omega)|(apply YO.ldPl;exact t4A;exact rfl;exact hmA;omega)|(apply YO.ld73;exact t4A;exact rfl;exact meA)|(apply YO.ldF;exact t2A;exact rfl;exact hmA;exact rfl)|(apply YO.ldS;exact t2A;exact rfl;exact hsA;omega)|(apply YO.ldB;exact t2A;exact rfl;exact meA;exact rfl)|(apply YO.ZS;exact t2A;exact rfl;exact meA;(first|omega|(simp only[List.length_set,List.length_replicate];omega))))|fail);exact rfl;exact rfl)
 exact Bx.h h):G:=s ⟨h⟩
def goLY {G G':Prop} (h:G') (s:Bx G'->G:=by
 intro h
 (apply LO.ofY;(first|exact Xp|(first|(first|(apply YO.slice;exact t6A;exact rfl;exact knA;exact Or.inl ⟨rfl,rfl⟩;exact Or.inr ⟨_,rfl,rfl⟩;omega;omega)|(apply YO.slice;exact t6A;exact rfl;exact knA;exact Or.inr ⟨_,rfl,rfl⟩;exact Or.inl ⟨rfl,rfl⟩;omega;omega))|(apply YO.slice3;exact t6A;exact rfl;exact knA;exact rfl;exact rfl;omega;omega)|(apply YO.slice;exact t6A;exact rfl;exact knA;exact Or.inr ⟨_,rfl,rfl⟩;exact Or.inr ⟨_,rfl,rfl⟩;omega;omega))|(apply YO.extract;exact rfl;exact rfl)|exact QT|(first|(first|(apply YO.ix1;exact t6A;exact rfl;exact rfl;exact knA;omega)|(apply YO.ix;exact t6A;exact rfl;exact rfl;exact knA;omega)|(apply YO.ZP;exact t6A;exact rfl;exact rfl;exact knA;omega;omega)|(apply YO.ix';exact t6A;exact rfl;exact rfl;exact knA;omega;omega))|(apply YO.ix1;exact t6A;exact rfl;exact rfl;exact knA;(first|omega|(simp only[List.length_set,List.length_replicate];omega)))|(apply YO.ix;exact t6A;exact rfl;exact rfl;exact knA;(first|omega|(simp only[List.length_set,List.length_replicate];omega)))|(apply YO.ZP;exact t6A;exact rfl;exact rfl;exact knA;omega;(first|omega|(simp only[List.length_set,List.length_replicate];omega))))|(first|(apply YO.ldC;exact t4A;exact rfl;exact meA;(repeat(first|exact Cut.done|apply Cut.take|apply Cut.drop)))|(apply YO.ldL;exact t4A;exact rfl;exact hmA;(first|exact Off.base|(apply Off.add;exact Off.base;((try simp only[Nat.zero_add,Nat.mul_one,Nat.reduceAdd,Nat.reduceMul]);exact rfl))|(apply Off.add;apply Off.add;exact Off.base;((try simp only[Nat.zero_add,Nat.mul_one,Nat.reduceAdd,Nat.reduceMul]);exact rfl);((try simp only[Nat.zero_add,Nat.mul_one,Nat.reduceAdd,Nat.reduceMul]);exact rfl))|(apply Off.add;apply Off.add;apply Off.add;exact Off.base;((try simp only[Nat.zero_add,Nat.mul_one,Nat.reduceAdd,Nat.reduceMul]);exact rfl);((try simp only[Nat.zero_add,Nat.mul_one,Nat.reduceAdd,Nat.reduceMul]);exact rfl);((try simp only[Nat.zero_add,Nat.mul_one,Nat.reduceAdd,Nat.reduceMul]);exact rfl)));omega;decide;(repeat(first|exact Cut.done|apply Cut.take|apply Cut.drop)))|(apply YO.ldLs;exact t2A;exact rfl;exact hmA;(first|exact Off.base|(apply Off.add;exact Off.base;((try simp only[Nat.zero_add,Nat.mul_one,Nat.reduceAdd,Nat.reduceMul]);exact rfl))|(apply Off.add;apply Off.add;exact Off.base;((try simp only[Nat.zero_add,Nat.mul_one,Nat.reduceAdd,Nat.reduceMul]);exact rfl);((try simp only[Nat.zero_add,Nat.mul_one,Nat.reduceAdd,Nat.reduceMul]);exact rfl))|(apply Off.add;apply Off.add;apply Off.add;exact Off.base;((try simp only[Nat.zero_add,Nat.mul_one,Nat.reduceAdd,Nat.reduceMul]);exact rfl);((try simp only[Nat.zero_add,Nat.mul_one,Nat.reduceAdd,Nat.reduceMul]);exact rfl);((try simp only[Nat.zero_add,Nat.mul_one,Nat.reduceAdd,Nat.reduceMul]);exact rfl)));omega;(repeat(first|exact Cut.done|apply Cut.take|apply Cut.drop)))|(apply YO.ldCk;exact t4A;exact rfl;exact hmA;(repeat(first|exact Cut.done|apply Cut.take|apply Cut.drop)))|(apply YO.ldOL;exact t4A;exact rfl;exact meA;(first|exact Off.base|(apply Off.add;exact Off.base;((try simp only[Nat.zero_add,Nat.mul_one,Nat.reduceAdd,Nat.reduceMul]);exact rfl))|(apply Off.add;apply Off.add;exact Off.base;((try simp only[Nat.zero_add,Nat.mul_one,Nat.reduceAdd,Nat.reduceMul]);exact rfl);((try simp only[Nat.zero_add,Nat.mul_one,Nat.reduceAdd,Nat.reduceMul]);exact rfl))|(apply Off.add;apply Off.add;apply Off.add;exact Off.base;((try simp only[Nat.zero_add,Nat.mul_one,Nat.reduceAdd,Nat.reduceMul]);exact rfl);((try simp only[Nat.zero_add,Nat.mul_one,Nat.reduceAdd,Nat.reduceMul]);exact rfl);((try simp only[Nat.zero_add,Nat.mul_one,Nat.reduceAdd,Nat.reduceMul]);exact rfl)));omega;decide;(repeat(first|exact Cut.done|apply Cut.take|apply Cut.drop)))|(apply YO.ldON;exact t2A;exact rfl;exact meA;omega)|(apply YO.ldOV;exact t2A;exact rfl;exact meA;omega)|(apply YO.ldW;exact t4A;exact rfl;exact meA;exact rfl)|(apply YO.ld42;exact t4A;exact rfl;exact meA)|(apply YO.ld40;exact t4A;exact rfl;exact meA)|(apply YO.ld51;exact t4A;exact rfl;exact meA)|(apply YO.ldFf;exact t4A;exact rfl;exact hmA;omega)|(apply YO.ldOR;exact t4A;exact rfl;exact meA;omega)|(apply YO.ldRf;exact t4A;exact rfl;exact hmA;omega;omega)|(apply YO.ldPl;exact t4A;exact rfl;exact hmA;omega)|(apply YO.ld73;exact t4A;exact rfl;exact meA)|(apply YO.ldF;exact t2A;exact rfl;exact hmA;exact rfl)|(apply YO.ldS;exact t2A;exact rfl;exact hsA;omega)|(apply YO.ldB;exact t2A;exact rfl;exact meA;exact rfl)|(apply YO.ZS;exact t2A;exact rfl;exact meA;(first|omega|(simp only[List.length_set,List.length_replicate];omega))))|fail);constructor;exact ltA)
 exact Bx.h h):G:=s ⟨h⟩
end K
end
section
open W Go.RowKit
open Bl (Vc Bd Tc Sc)
def IsZer (E:Nat) (mb:QM):Qd:=λv B G=>∃ va,v=.agg #[va,.bool mb.1,mb.2.1,.bool false,mb.2.2]∧B=[Ow.slice va 64 4 (Qe (2*E) λ_=>m00)]∧G=[]
def JC (S:Sc) (r:Nat):LnX:=if r < 3*(2*S.m) then⟨2*(2*S.m),Bl.coE (S.T (r / 6)).r (r / 3) (r % 3),0⟩ else⟨2*(2*S.m),Bl.coS S (r - 3*(2*S.m)),(S.B (r - 3*(2*S.m))).st⟩
def limX_E {S:Sc} {i:Nat} (h:i < 2*S.m):JC S (3*i)=⟨2*(2*S.m),Bl.coE (S.T (i / 2)).r i 0,0⟩∧JC S (3*i+1)=⟨2*(2*S.m),Bl.coE (S.T (i / 2)).r i 1,0⟩∧JC S (3*i+2)=⟨2*(2*S.m),Bl.coE (S.T (i / 2)).r i 2,0⟩:=by
 unfold JC;rw[if_pos qo,if_pos qo,if_pos qo,show 3*i / 6=i / 2 by omega,show 3*i / 3=i by omega,show 3*i % 3=0 by omega,show(3*i+1) / 6=i / 2 by omega,show(3*i+1) / 3=i by omega,show(3*i+1) % 3=1 by omega,show(3*i+2) / 6=i / 2 by omega,show(3*i+2) / 3=i by omega,show(3*i+2) % 3=2 by omega];exact⟨rfl,rfl,rfl⟩
def limX_S {S:Sc} {i:Nat}:JC S (3*(2*S.m)+i)=⟨2*(2*S.m),Bl.coS S i,(S.B i).st⟩:=by
 unfold JC;rw[if_neg qo,show 3*(2*S.m)+i - 3*(2*S.m)=i by omega]
def coE_0 (r:Rat) (i j:Nat):upd (λ_=>0) ((2*(i:Int)).toNat) (-1) j=Bl.coE r i 0 j:=by
 unfold upd Bl.coE;rw[show(2*(i:Int)).toNat=2*i by omega];split
 ·rfl
 ·split <;> rfl
def coE_s (r a b:Rat) (i s j:Nat) (ha:a= -r) (hs:s=1∧b=1∨s=2∧b= -1):upd (upd (λ_=>0) ((2*(i:Int)).toNat) a) ((2*(i:Int)+1).toNat) b j=Bl.coE r i s j:=by
 unfold upd Bl.coE;rw[show(2*(i:Int)).toNat=2*i by omega,show(2*(i:Int)+1).toNat=2*i+1 by omega];by_cases h1:j=2*i+1
 ·rw[if_pos h1,if_neg qo,if_pos h1,if_neg qo];rcases hs with ⟨rfl,rfl⟩|⟨rfl,rfl⟩
  ·rw[if_pos rfl]
  ·rw[if_neg qd]
 ·rw[if_neg h1];by_cases h2:j=2*i
  ·rw[if_pos h2,if_pos h2,if_neg qo,ha]
  ·rw[if_neg h2,if_neg h2,if_neg h1]
def Ut (S:Sc) (i k j:Nat):Rat:=if j < 2*k then Bl.coS S i j else 0
def coSk_t {S:Sc} {i k:Nat} (h:Bl.tch (S.T (k / 2)) i) (j:Nat):upd (Ut S i k) ((2*(k:Int)).toNat) (Bl.spn (S.T (k / 2)).n) j=Ut S i (k+1) j:=by
 unfold upd Ut Bl.coS;rw[show(2*(k:Int)).toNat=2*k by omega];by_cases h1:j=2*k
 ·rw[if_pos h1,if_pos qo,show j / 4=k / 2 by omega,if_pos ⟨by omega,h⟩]
 ·rw[if_neg h1];by_cases h2:j < 2*k
  ·rw[if_pos h2,if_pos (show j < 2*(k+1) by omega)]
  ·rw[if_neg h2];by_cases h3:j < 2*(k+1)
   ·rw[if_pos h3,if_neg (λh=>by omega)]
   ·rw[if_neg h3]
def coSk_n {S:Sc} {i k:Nat} (h:¬Bl.tch (S.T (k / 2)) i) (j:Nat):Ut S i k j=Ut S i (k+1) j:=by
 unfold Ut Bl.coS;by_cases h2:j < 2*k
 ·rw[if_pos h2,if_pos (show j < 2*(k+1) by omega)]
 ·rw[if_neg h2];by_cases h3:j < 2*(k+1)
  ·rw[if_pos h3,if_neg (λhx=>h (by rw[show j / 4=k / 2 by omega] at hx;exact hx.2))]
  ·rw[if_neg h3]
def IsLim (S:Sc):Qd:=λv B G=>∃ ms,B=[]∧G=[lF Qp v (3*(2*S.m)+S.n) ms (JC S)]
namespace K
attribute [local irreducible] WC WL WD YO LO Qq W.Fin Qw Qu Qj Row QQ Qy KnS Has W.One Ql Qr
def d68 {G G':Prop} (h:G') (s:Bx G'->G:=by
 intro h;first|refine gB ?_|refine gY ?_|(apply WC.draw (id:=9) [0,1,2,3,4,6] (.h 0<|.h 1<|.h 2<|.h 3<|.h 4<|.l 5<|.h 6<|.l 7 .done) mixed kr)|(apply WC.drawS (id:=10) [0,1,2,3,4,5,6,7,8,9,10] (.h 0<|.h 1<|.h 2<|.h 3<|.h 4<|.h 5<|.h 6<|.h 7<|.h 8<|.h 9<|.h 10<|.l 11<|.l 12<|.l 13<|.l 14 .done) mixed kr;(focus((repeat(first|exact Z6.nil|apply Z6.drop|apply Z6.keep));done)))|(apply WC.drawS (id:=11) [0,1,2,3,4,5,6,7,8,9,10] (.h 0<|.h 1<|.h 2<|.h 3<|.h 4<|.h 5<|.h 6<|.h 7<|.h 8<|.h 9<|.h 10<|.l 11<|.l 12<|.l 13<|.l 14<|.l 15 .done) mixed kr;(focus((repeat(first|exact Z6.nil|apply Z6.drop|apply Z6.keep));done)))|(apply WC.draw (id:=22) [0,1,2,3,4,5,6,8] (.h 0<|.h 1<|.h 2<|.h 3<|.h 4<|.h 5<|.h 6<|.l 7<|.h 8<|.l 9 .done) mixed kr)|fail
 exact Bx.h h):G:=s ⟨h⟩
def d132 {G G':Prop} (h:G') (s:Bx G'->G:=by
 intro h;first|refine gB ?_|refine gY ?_|(apply WC.draw (id:=1) [0,1,2,4] (.h 0<|.h 1<|.h 2<|.h 4<|.l 3<|.l 5<|.l 6 .done) mixed kr)|fail
 exact Bx.h h):G:=s ⟨h⟩
def U2 (g3:Nat) (va:Value) (E:Nat) (em:Nat->EM) (ed:Nat->Ed) (mb:QM) (most:Rat) (hE:E<=1000):FnB Tryz.prog 132 [qv mb,ptr g3] [] [isQ (qv mb) most,ce g3 106 [va],lF JY va E em ed] (IsZer E mb):=by
 refine fO [(0,(qv mb)),(1,(ptr g3))] 10 Tryz.func132 Tryz.ntmps132 λh0=>?_;repeat'(first|intro(g:Nat)|refine d132 ?_|intro v)
 refine WC.ret ?_;exact Fin.p [_] [] (Qv.cV rfl rfl meA T.VT rfl) meA slA .nil ⟨v,rfl,rfl,rfl⟩
def limits_c (M:SM) (S:Sc) (va:Value) (K:Nat) (h0K:0 < K) (hK:K<=1000000) (hs:Ss K S) (ho:S.ok):FnB Tryz.prog 68 [M.l,va] [] [fSl M S,lF JY va (2*S.m) (edM M.T) (edT S.T),fSt M S] (IsLim S):=by
 refine fO [(0,M.l),(1,va)] 128 Tryz.func68 Tryz.ntmps68 λh0=>?_;have hn:=ho.n;have hm:=ho.m;repeat'(first|intro(g:Nat)|refine d68 ?_|intro v)
 refine cW (Zn.of 1 1 qd qd) λn1=>?_;rw[show Rat.divInt 1 1=1 by decide +kernel];repeat'(first|intro(g:Nat)|refine d68 ?_|intro v)
 revert g;intro g7;refine WC.keep (g:=g) (t:=106) (cs:=[va]) (by repeat(first|exact Rem.head|apply Rem.tail)) ?_;revert g;intro g3;refine WC.Jd 110 5 ?_
 refine WC.Xf (σ:=Value×(Nat->LnM)) (λst=>[(0,M.l),(3,ptr g3),(5,st.1),(6,.func (.func 132) #[] #[ptr g3])]) (λst=>[lO Qp st.1 110 (3*(2*S.m)) st.2 (JC S)])
  (λst=>[lM Qp (3*(2*S.m)) st.2 (JC S),ge h0,ce g3 106 [va],fSl M S,lF JY va (2*S.m) (edM M.T) (edT S.T),fSt M S]) (λ_=>True) ?_ ?_
 ·refine WC.lp (σ:=Nat×Value×(Nat->LnM)) (λst=>[(23,.int .i64 (st.1:Int)),(22,.int .i64 ((2*S.m:Nat):Int)),(21,va),(0,M.l),(3,ptr g3),(5,st.2.1),(6,.func (.func 132) #[] #[ptr g3]),(7,ptr g7)])
   (λst=>[lO Qp st.2.1 110 (3*st.1) st.2.2 (JC S),Ow.cells g7 64 (qcs n1)])
   (λst=>[lM Qp (3*st.1) st.2.2 (JC S),isQ (qv n1) 1,ge h0,ce g3 106 [va],fSl M S,lF JY va (2*S.m) (edM M.T) (edT S.T),fSt M S]) (λst=>st.1<=2*S.m) (λst=>2*S.m - st.1) (0,.slice none 0 0,λ_=>⟨.slice none 0 0,λ_=>m00,m00⟩) (Nat.zero_le _) ?_ (hG:=.cons W.Has.Gk haA)
  rintro⟨i,lv,ms⟩ hi;simp only at hi ⊢;by_cases c:i < 2*S.m
  ·refine WC.fact (fE (edM M.T i) (edT S.T i)) (W.Has.lk (S:=JY) (v:=va) hmA c) ?_;refine WC.fact (fT (edM M.T i).t (edT S.T i).t) (W.Has.et (em:=edM M.T i) hmA) ?_;refine WC.fact (isQ (qv (edM M.T i).t.r) (edT S.T i).t.r) (W.Has.trr (t:=(edT S.T i).t) hmA) ?_;repeat'(first|intro(g:Nat)|refine d68 ?_|intro v)
   refine cW (Zn.neg (edM M.T i).t.r (edT S.T i).t.r) λn2=>?_;repeat'(first|intro(g:Nat)|refine d68 ?_|intro v)
   refine WL.Xw [] [ptr g3] (vs:=[qv m00]) (U2 g3 va (2*S.m) (edM M.T) (edT S.T) m00 0 qo) ?_;rintro _ _ _ ⟨v1,rfl,rfl,rfl⟩;refine sNn ?_;repeat'(first|intro(g:Nat)|refine d68 ?_|intro v)
   refine WL.Xw [] [ptr g3] (vs:=[qv m00]) (U2 g3 va (2*S.m) (edM M.T) (edT S.T) m00 0 qo) ?_;rintro _ _ _ ⟨v2,rfl,rfl,rfl⟩;refine sNn ?_;repeat'(first|intro(g:Nat)|refine d68 ?_|intro v)
   refine WL.Xw [] [ptr g3] (vs:=[qv m00]) (U2 g3 va (2*S.m) (edM M.T) (edT S.T) m00 0 qo) ?_;rintro _ _ _ ⟨v3,rfl,rfl,rfl⟩;refine sNn ?_;repeat'(first|intro(g:Nat)|refine d68 ?_|intro v)
   refine cW (Zn.neg n1 1) λn3=>?_;repeat'(first|intro(g:Nat)|refine d68 ?_|intro v)
   refine cW (Zn.neg n1 1) λn4=>?_;repeat'(first|intro(g:Nat)|refine d68 ?_|intro v)
   obtain⟨e0,e1,e2⟩:=limX_E c;refine WL.Jh v1 (2*(2*S.m)) (upd (λ_=>m00) (2*(i:Int)).toNat n3) (Bl.coE (S.T (i / 2)).r i 0) (by repeat(first|exact Sel.head|apply Sel.tail)) (W.Has.QW (W.Has.J3 (W.Has.mF0 _) (z:=-1) hmA) λj _=>coE_0 _ i j) ?_;refine WL.Jh v2 (2*(2*S.m)) (upd (upd (λ_=>m00) (2*(i:Int)).toNat n2) (2*(i:Int)+1).toNat n1) (Bl.coE (S.T (i / 2)).r i 1) (by repeat(first|exact Sel.head|apply Sel.tail)) (W.Has.QW (W.Has.J3 (W.Has.J3 (W.Has.mF0 _) (z:=-(edT S.T i).t.r) hmA) (z:=1) hmA) λj _=>coE_s _ _ _ i 1 j rfl (.inl ⟨rfl,rfl⟩)) ?_;refine WL.Jh v3 (2*(2*S.m)) (upd (upd (λ_=>m00) (2*(i:Int)).toNat n2) (2*(i:Int)+1).toNat n4) (Bl.coE (S.T (i / 2)).r i 2) (by repeat(first|exact Sel.head|apply Sel.tail)) (W.Has.QW (W.Has.J3 (W.Has.J3 (W.Has.mF0 _) (z:=-(edT S.T i).t.r) hmA) (z:=-1) hmA) λj _=>coE_s _ _ _ i 2 j rfl (.inr ⟨rfl,rfl⟩)) ?_;refine WL.QG (fLx ⟨v1,upd (λ_=>m00) (2*(i:Int)).toNat n3,m00⟩ (JC S (3*i))) (by rw[e0];exact W.Has.lof hmA Jy) ?_;refine WL.QG (fLx ⟨v2,upd (upd (λ_=>m00) (2*(i:Int)).toNat n2) (2*(i:Int)+1).toNat n1,m00⟩ (JC S (3*i+1))) (by rw[e1];exact W.Has.lof hmA Jy) ?_;refine WL.QG (fLx ⟨v3,upd (upd (λ_=>m00) (2*(i:Int)).toNat n2) (2*(i:Int)+1).toNat n4,m00⟩ (JC S (3*i+2))) (by rw[e2];exact W.Has.lof hmA Jy) ?_;repeat'(first|intro(g:Nat)|refine d68 ?_|intro v)
   exact Qq.mk (i+1,_,_) (by simp only;omega) (by simp only;omega) (hG:=.cons (W.Has.Yg (W.Has.Yg (W.Has.Yg (S:=Qp) (n:=3*i) (ms:=ms) (xs:=JC S) hmA (mm:=⟨v1,_,m00⟩) hmA) (mm:=⟨v2,_,m00⟩) hmA) (mm:=⟨v3,_,m00⟩) hmA) haA)
  ·obtain rfl:i=2*S.m:=qo;repeat'(first|intro(g:Nat)|refine d68 ?_|intro v)
   exact QZ (lv,ms) trivial
 ·rintro⟨lv,ms⟩ _;simp only;repeat'(first|intro(g:Nat)|refine d68 ?_|intro v)
  refine WC.lp (σ:=Nat×Value×(Nat->LnM)) (λst=>[(84,.int .i64 (st.1:Int)),(83,.int .i64 (S.n:Int)),(82,M.l),(3,ptr g3),(5,st.2.1),(6,.func (.func 132) #[] #[ptr g3])])
   (λst=>[lO Qp st.2.1 110 (3*(2*S.m)+st.1) st.2.2 (JC S)])
   (λst=>[lM Qp (3*(2*S.m)+st.1) st.2.2 (JC S),ge h0,ce g3 106 [va],fSl M S,lF JY va (2*S.m) (edM M.T) (edT S.T),fSt M S]) (λst=>st.1<=S.n) (λst=>S.n - st.1) (0,lv,ms) (Nat.zero_le _) ?_
  rintro⟨i,lv,ms⟩ hi;simp only at hi ⊢;by_cases c:i < S.n
  ·refine WC.fact (fB (M.B i) (S.B i)) (W.Has.lk (S:=Qm) (v:=M.l) hmA c) ?_;refine WC.fact (isQ (qv (M.B i).st) (S.B i).st) (W.Has.bs (b:=S.B i) hmA) ?_;repeat'(first|intro(g:Nat)|refine d68 ?_|intro v)
   refine WL.Xw [] [ptr g3] (vs:=[qv (M.B i).st]) (U2 g3 va (2*S.m) (edM M.T) (edT S.T) (M.B i).st (S.B i).st qo) ?_;rintro _ _ _ ⟨v1,rfl,rfl,rfl⟩;refine sNn ?_;repeat'(first|intro(g:Nat)|refine d68 ?_|intro v)
   revert g;intro g16
   refine WC.Xf (σ:=Nat->QM) (λ_=>[(14,.int .i64 (i:Int)),(16,ptr g16),(84,.int .i64 (i:Int)),(83,.int .i64 (S.n:Int)),(82,M.l),(3,ptr g3),(5,lv),(6,.func (.func 132) #[] #[ptr g3])])
    (λmq=>[Ow.cells g16 110 [v1,.bool (M.B i).st.1,(M.B i).st.2.1,.bool false,(M.B i).st.2.2],Ow.slice v1 64 4 (Qe (2*(2*S.m)) mq),lO Qp lv 110 (3*(2*S.m)+i) ms (JC S)])
    (λmq=>[mF (2*(2*S.m)) mq (Bl.coS S i),isQ (qv (M.B i).st) (S.B i).st,lM Qp (3*(2*S.m)+i) ms (JC S),ge h0,ce g3 106 [va],fSl M S,lF JY va (2*S.m) (edM M.T) (edT S.T),fSt M S]) (λ_=>True) ?_ ?_
   ·refine WC.lp (σ:=Nat×(Nat->QM)) (λst=>[(95,.int .i64 (st.1:Int)),(94,.int .i64 ((2*S.m:Nat):Int)),(93,va),(14,.int .i64 (i:Int)),(16,ptr g16),(84,.int .i64 (i:Int)),(83,.int .i64 (S.n:Int)),(82,M.l),(3,ptr g3),(5,lv),(6,.func (.func 132) #[] #[ptr g3])])
     (λst=>[Ow.cells g16 110 [v1,.bool (M.B i).st.1,(M.B i).st.2.1,.bool false,(M.B i).st.2.2],Ow.slice v1 64 4 (Qe (2*(2*S.m)) st.2),lO Qp lv 110 (3*(2*S.m)+i) ms (JC S)])
     (λst=>[mF (2*(2*S.m)) st.2 (Ut S i st.1),isQ (qv (M.B i).st) (S.B i).st,lM Qp (3*(2*S.m)+i) ms (JC S),ge h0,ce g3 106 [va],fSl M S,lF JY va (2*S.m) (edM M.T) (edT S.T),fSt M S]) (λst=>st.1<=2*S.m) (λst=>2*S.m - st.1) (0,λ_=>m00) (Nat.zero_le _) ?_ (hG:=.cons (W.Has.QW (W.Has.mF0 _) λj _=>by unfold Ut;rw[if_neg qo]) haA)
    rintro⟨k,mq⟩ hk;simp only at hk ⊢;by_cases d:k < 2*S.m
    ·refine WC.fact (fE (edM M.T k) (edT S.T k)) (W.Has.lk (S:=JY) (v:=va) hmA d) ?_;refine WC.fact (fT (edM M.T k).t (edT S.T k).t) (W.Has.et (em:=edM M.T k) hmA) ?_;refine WC.fact (fV (edM M.T k).t.n (edT S.T k).t.n) (W.Has.tn (tm:=(edM M.T k).t) hmA) ?_;have hsn:Sv K (edT S.T k).t.n:=(hs.T (k / 2) qo).2.2.1;by_cases d1:(edT S.T k).t.a=(i:Int)
     ·repeat'(first|intro(g:Nat)|refine d68 ?_|intro v)
      refine cW (span_c (edM M.T k).t.n (edT S.T k).t.n K hK hsn) λn5=>?_;repeat'(first|intro(g:Nat)|refine d68 ?_|intro v)
      exact Qq.mk (k+1,_) (by simp only;omega) (by simp only;omega) (hG:=.cons (W.Has.QW (W.Has.J3 (qf:=Ut S i k) hmA (z:=Bl.spn (edT S.T k).t.n) hmA) λj _=>coSk_t (.inl d1) j) haA)
     ·by_cases d2:(edT S.T k).t.b=(i:Int)
      ·repeat'(first|intro(g:Nat)|refine d68 ?_|intro v)
       refine cW (span_c (edM M.T k).t.n (edT S.T k).t.n K hK hsn) λn5=>?_;repeat'(first|intro(g:Nat)|refine d68 ?_|intro v)
       exact Qq.mk (k+1,_) (by simp only;omega) (by simp only;omega) (hG:=.cons (W.Has.QW (W.Has.J3 (qf:=Ut S i k) hmA (z:=Bl.spn (edT S.T k).t.n) hmA) λj _=>coSk_t (.inr d2) j) haA)
      ·repeat'(first|intro(g:Nat)|refine d68 ?_|intro v)
       exact Qq.mk (k+1,mq) (by simp only;omega) (by simp only;omega) (hG:=.cons (W.Has.QW (qf:=Ut S i k) hmA λj _=>coSk_n (λh=>h.elim d1 d2) j) haA)
    ·obtain rfl:k=2*S.m:=qo;repeat'(first|intro(g:Nat)|refine d68 ?_|intro v)
     exact QZ mq trivial (hG:=.cons (W.Has.QW (qf:=Ut S i (2*S.m)) hmA λj hj=>if_pos hj) haA)
   ·intro mq _;repeat'(first|intro(g:Nat)|refine d68 ?_|intro v)
    refine WL.Jh v1 (2*(2*S.m)) mq (Bl.coS S i) (by repeat(first|exact Sel.head|apply Sel.tail)) hmA ?_;refine WL.QG (fLx ⟨v1,mq,(M.B i).st⟩ (JC S (3*(2*S.m)+i))) (by rw[limX_S];exact W.Has.lof hmA hmA) ?_;repeat'(first|intro(g:Nat)|refine d68 ?_|intro v)
    exact Qq.mk (i+1,_,_) (by simp only;omega) (by simp only;omega) (hG:=.cons (W.Has.Yg (S:=Qp) (n:=3*(2*S.m)+i) (ms:=ms) (xs:=JC S) hmA (mm:=⟨v1,mq,(M.B i).st⟩) hmA) haA)
  ·obtain rfl:i=S.n:=qo;repeat'(first|intro(g:Nat)|refine d68 ?_|intro v)
   refine WC.QB (S:=Qp) (n:=3*(2*S.m)+S.n) (ms:=ms) (xs:=JC S) (by repeat(first|exact Sel.head|apply Sel.tail)) hmA ?_;refine WC.ret ?_;exact Fp [lF Qp lv (3*(2*S.m)+S.n) ms (JC S)] (Qv.t1 rfl rfl) haA ⟨ms,rfl,rfl⟩
end K
end
section
open W Go.RowKit
open Bl (Vc Bd Tc Sc)
def cat {α:Type} (n:Nat) (f g:Nat->α) (j:Nat):α:=if j < n then f j else g (j - n)
section
variable {M α:Type} {S:Shp M α} {P:Program} {e:Env} {bx bx':List Ow} {F:List Fct} {ty t el:TypeId} {v u:Value} {x y z:Operand} {n k:Nat} {ms ms2:Nat->M} {xs xs2:Nat->α} {K:Qd}
def lcells_cat (hx:∀ j,j < k->xs (n+j)=xs2 j):QV S n ms xs++QV S k ms2 xs2=QV S (n+k) (cat n ms ms2) xs:=by
 have hp:=S.pos;refine Xx (by rw[List.length_append,Qg,Qg,Nat.add_mul]) λj hj=>?_;by_cases h:j < n*S.w
 ·rw[List.getElem?_append_left (by rw[Qg];exact h),QE h];have hn:j / S.w < n:=(Nat.div_lt_iff_lt_mul hp).2 h;show some (JA S.w _ j)=some (JA S.w _ j);unfold JA cat;simp only;rw[if_pos hn]
 ·have hj2:j - n*S.w < k*S.w:=by rw[Nat.add_mul] at hj;omega
  rw[List.getElem?_append_right (by rw[Qg];omega),Qg,QE hj2];have e1:j=n*S.w+(j - n*S.w):=qo
  have hd:j / S.w=n+(j - n*S.w) / S.w:=by
   conv=>lhs;rw[e1]
   rw[Nat.mul_comm n,Nat.mul_add_div hp]
  have hm:j % S.w=(j - n*S.w) % S.w:=by
   conv=>lhs;rw[e1]
   rw[Nat.mul_comm n,Nat.mul_add_mod]
  have hk:(j - n*S.w) / S.w < k:=(Nat.div_lt_iff_lt_mul hp).2 hj2;show some (JA S.w _ _)=some (JA S.w _ j);unfold JA cat;simp only;rw[hd,hm];generalize (j - n*S.w) / S.w=q at *;have h1:¬n+q < n:=qo;have h2:n+q - n=q:=qo;rw[if_neg h1,h2,hx _ hk]
def W.Has.mcat (h:Has F (lM S n ms xs)) (h2:Has F (lM S k ms2 xs2)) (hx:∀ j,j < k->xs (n+j)=xs2 j):Has F (lM S (n+k) (cat n ms ms2) xs):=λp hf i hi=>by
 unfold cat;by_cases c:i < n
 ·rw[if_pos c];exact h p hf i c
 ·rw[if_neg c];have:=h2 p hf (i - n) qo;rw[<-hx (i - n) qo,show n+(i - n)=i by omega] at this;exact this
end
section
variable {e:Env} {bx bx':List Ow} {F:List Fct} {ty t el:TypeId} {v u:Value} {x y z:Operand} {n k:Nat} {ms ms2:Nat->LnM} {xs xs2:Nat->LnX} {K:Qd}
def one_ls {fr:CF} {w:World} (ho:OK fr bx F w) (hm:Has F (lM Qp k ms2 xs2)):∀ c∈QV Qp k ms2 xs2,c.oneCell'=true:=λc hc=>by
 simp only[QV,XL,List.mem_map,List.mem_range] at hc;obtain⟨j,hj,rfl⟩:=hc;have hj5:j < k*5:=hj;have:=(one_l (bx:=bx) (hm.mk (k:=j / 5) qo)).all ho;have hr:=X5 (l:=lcs (ms2 (j / 5))) (r:=j % 5) (n:=5) rfl qo;exact this _ (List.mem_of_getElem? hr)
def LO.Hq {bx2:Value->List Ow} (hx:ev e x=some v) (hy:ev e y=some u) (hu:Has F (lF Qp u k ms2 xs2)) (hs:∀ v',Sel bx (lO Qp v 110 n ms xs) (lO Qp v' 110 (n+k) (cat n ms ms2) (cat n xs xs2)) (bx2 v')) (hl:n<=1000000) (hl2:k<=1000000) (h:∀ v',K v' (bx2 v') F) :
  LO Tryz.prog (.call {callee:=.builtin .append,args:=#[x,y],argTypes:=#[33,33]}) ty e bx F K:=by
 refine LO.byP (λfr w ho=>one_ls ho hu.lm) λh1=>?_
 exact LO.append T.e33 hx hy (cs:=QV Qp n ms xs) (news:=QV Qp k ms2 xs2) (by
  have e2:=lcells_cat (S:=Qp) (n:=n) (k:=k) (ms:=ms) (ms2:=ms2) (xs:=cat n xs xs2) (xs2:=xs2) (λj _=>by unfold cat;rw[if_neg qo,show n+j - n=j by omega]);intro v';have e3:QV Qp n ms xs++QV Qp k ms2 xs2=QV Qp (n+k) (cat n ms ms2) (cat n xs xs2):=e2;rw[e3];exact hs v') (Ql.fact hu.ls) h1 (by rw[Qg,Qg];show(n*5+k*5)*88<=_;omega) (by rw[Qg,Qg];show n*5+k*5<=_;omega) h
end
attribute [local irreducible] WC WL WD YO LO Qq W.Fin Qw Qu Qj Row QQ Qy KnS Has W.One Ql Qr
namespace K
def goE {G G':Prop} (h:G') (s:Bx G'->G:=by
 intro h
 (first|(apply WL.Jz;rotate_left;exact rfl;(first|fail|fail))|(apply WD.Jz;exact rfl;rotate_left;exact rfl;(first|fail|fail);constructor;exact ltA)|((first|fail|fail);constructor;exact ltA)|fail)
 exact Bx.h h):G:=s ⟨h⟩
def goEG {G G':Prop} (h:G') (s:Bx G'->G:=by
 intro h
 (first|(apply WL.Yh;rotate_left;exact rfl;exact rfl;apply LO.YF;(first|fail|fail))|(apply WD.Yh;exact rfl;rotate_left;exact rfl;exact rfl;apply LO.YF;(first|fail|fail);apply Qc;(intro _;exact ltA))|(apply LO.YF;(first|fail|fail);apply Qc;(intro _;exact ltA))|fail)
 exact Bx.h h):G:=s ⟨h⟩
def goEV {G G':Prop} (h:G') (s:Bx G'->G:=by
 intro h
 (first|(apply WL.Jv;rotate_left;exact rfl;exact rfl;(first|(apply LO.Hq;exact rfl;exact rfl;exact hmA;(intro _;exact seA);omega;omega)|fail))|(apply WD.Jv;exact rfl;rotate_left;exact rfl;exact rfl;(first|(apply LO.Hq;exact rfl;exact rfl;exact hmA;(intro _;exact seA);omega;omega)|fail);apply Qc;(intro _;exact ltA))|((first|(apply LO.Hq;exact rfl;exact rfl;exact hmA;(intro _;exact seA);omega;omega)|fail);apply Qc;(intro _;exact ltA))|fail)
 exact Bx.h h):G:=s ⟨h⟩
end K
end
section
open W Go.RowKit
open Bl (Vc Bd Tc Sc)
def W.FnB.more {P:Program} {f:FuncId} {args:List Value} {bx:List Ow} {F F':List Fct} {R:Qd} (h:FnB P f args bx F R) (hs:∀ g∈F,g∈F'):FnB P f args bx F' R:=⟨h.1,λfr w ho=>h.2 fr w (ho.less hs)⟩
def Gp (S:Sc) (i t:Nat) (e:Ed) (f:Vc):Rat:=if t=0 then f.x else if t=1 then f.y else Bl.Jw (Bl.Q4 e.at' (S.B i).c) f
def gx (S:Sc) (i t k:Nat):Rat:=Gp S i t (edT S.T k) (Bl.on (S.T (k / 2)) i (S.T (k / 2)).n)
def gy (S:Sc) (i t k:Nat):Rat:=Gp S i t (edT S.T k) (Bl.on (S.T (k / 2)) i (Bl.turn (S.T (k / 2)).n))
def sgi (j:Nat):Int:=if j % 2=0 then 1 else -1
def prX (S:Sc) (w:Nat->Rat) (r:Nat):LnX:=if r < 6*S.n then⟨2*(2*S.m),co2 (gx S (r / 6) (r % 6 / 2)) (gy S (r / 6) (r % 6 / 2)) (Rat.divInt (sgi r) 1),(if r % 6 / 2=1 then w (r / 6) else 0)*Rat.divInt (sgi r) 1⟩ else JC S (r - 6*S.n)
def prX_b {S:Sc} {w:Nat->Rat} {i t j:Nat} (hi:i < S.n) (ht:t < 3) (hj:j < 2):prX S w (6*i+(2*t+j))=⟨2*(2*S.m),co2 (gx S i t) (gy S i t) (Rat.divInt (sgi j) 1),(if t=1 then w i else 0)*Rat.divInt (sgi j) 1⟩:=by
 unfold prX;rw[if_pos qo,show(6*i+(2*t+j)) / 6=i by omega,show(6*i+(2*t+j)) % 6 / 2=t by omega,show sgi (6*i+(2*t+j))=sgi j by unfold sgi;rw[show(6*i+(2*t+j)) % 2=j % 2 by omega]]
def JR (S:Sc) (M:SM) (i t gi gb gf:Nat):Fct:=fcj [ce gf 115 [.func (.func (if t=0 then 63 else if t=1 then 64 else 65)) #[] (if t=2 then[ptr gb] else[]).toArray],ce gi 3 [.int .i64 (i:Int)],fcj [ce gb 88 (bcs (M.B i)),fB (M.B i) (S.B i)]]
namespace K
attribute [local irreducible] WC WL WD YO LO Qq W.Fin Qw Qu Qj Row QQ Qy KnS Has W.One Ql Qr
def parts_c (S:Sc) (M:SM) (i t gi gb gf:Nat) (ht:t < 3) (hi:i < S.n) (hn:S.n<=5) (K:Nat) (h0K:0 < K) (hK:K<=100000) (hs:Ss K S) (k:Nat) (hk:k < 2*S.m) :
  FnB Tryz.prog 60 ([]++[edv (edM M.T k) (edT S.T k)]++[ptr gf,ptr gi]) [] [fE (edM M.T k) (edT S.T k),JR S M i t gi gb gf] (IsR2 (gx S i t k) (gy S i t k)):=by
 have hk2:k / 2 < S.m:=qo;have hn2:Sv K (edT S.T k).t.n:=(hs.T _ hk2).2.2.1
 have hat:Sv K (edT S.T k).at':=by
  unfold edT;simp only;split
  ·exact(hs.T _ hk2).1
  ·exact(hs.T _ hk2).2.1
 refine W.FnB.cj ?_;match t,ht with
 |0,_=>exact part_c gf gi i qo 63 [] (edM M.T k) (edT S.T k) K h0K qo hn2 (Gp S i 0 (edT S.T k)) _ λmv f _=>(forcex_c (edM M.T k) (edT S.T k) mv f).more (by simp)
 |1,_=>exact part_c gf gi i qo 64 [] (edM M.T k) (edT S.T k) K h0K qo hn2 (Gp S i 1 (edT S.T k)) _ λmv f _=>(forcey_c (edM M.T k) (edT S.T k) mv f).more (by simp)
 |2,_=>exact part_c gf gi i qo 65 [ptr gb] (edM M.T k) (edT S.T k) K h0K qo hn2 (Gp S i 2 (edT S.T k)) _ λmv f hf=>W.FnB.cj2 (torque_c (edM M.T k) (edT S.T k) mv f gb (M.B i) (S.B i) K qo hat hf (hs.B i hi).1)
def KL (S:Sc) (M:SM) (w:Nat->Rat) (i t j gi gb gf g3 g4:Nat) (va lv gv:Value) (ms:Nat->LnM) (mb:QM) (ho:S.ok) (ht:t < 3) (hj:j < 2) (hi:i < S.n) (K:Nat) (h0K:0 < K) (hK:K<=100000) (hs:Ss K S) (hw:∀ i,i < S.n->Sq K (w i)) :
  FnB Tryz.prog 57 [.int .i64 (sgi j),qv mb,.func (.func 60) #[] #[ptr gf,ptr gi],ptr g3,ptr g4] [Ow.cells g4 36 [.int .i64 (2*((2*S.m:Nat):Int)),lv,gv],lO Qp lv 110 (6*i+(2*t+j)) ms (prX S w)]
   [isQ (qv mb) (if t=1 then w i else 0),ce g3 106 [va],lF JY va (2*S.m) (edM M.T) (edT S.T),JR S M i t gi gb gf] (IsAdd g4 (2*((2*S.m:Nat):Int)) gv (6*i+(2*t+j)) ms (prX S w)):=by
 have hn:=ho.n;have hm:=ho.m;have hsn:∀ k,k < 2*S.m->Sv K (S.T (k / 2)).n:=λk hk=>(hs.T (k / 2) qo).2.2.1
 have hsa:∀ k,k < 2*S.m->Sv K (edT S.T k).at':=λk hk=>by
  unfold edT;simp only;split
  ·exact(hs.T _ qo).1
  ·exact(hs.T _ qo).2.1
 have hon:∀ k f,Sv K f->Sv K (Bl.on (S.T (k / 2)) i f):=λk f h=>by
  unfold Bl.on;split
  ·exact h
  ·split
   ·exact⟨h.1.neg,h.2.neg⟩
   ·exact⟨Sq.zero.up h0K,Sq.zero.up h0K⟩
 have hg:∀ k f,k < 2*S.m->Sv K f->Sq (6*K+3) (Gp S i t (edT S.T k) f):=λk f hk hf=>by
  unfold Gp;split
  ·exact hf.1.up qo
  ·split
   ·exact hf.2.up qo
   ·have h1:=((hsa k hk).1.sub (hs.B i hi).1.1).mul hf.2;have h2:=((hsa k hk).2.sub (hs.B i hi).1.2).mul hf.1;exact(h1.sub h2).up qo
 refine U7 g3 g4 va (2*S.m) _ (edM M.T) (edT S.T) (sgi j) (by unfold sgi;split <;> decide) mb _ lv gv _ ms (prX S w) _ [ptr gf,ptr gi] _ (gx S i t) (gy S i t) (6*K+3) qo qo qo qo ?_ (λk hk=>hg k _ hk (hon k _ (hsn k hk))) (λk hk=>hg k _ hk (hon k _ ⟨(hsn k hk).2.neg,(hsn k hk).1⟩)) (prX_b hi ht hj) λk hk=>parts_c S M i t gi gb gf ht hi hn K h0K hK hs k hk;split
 ·exact(hw i hi).up qo
 ·exact Sq.zero.up qo
end K
end
end Go.Proofs.YtcpaopfdiahnnaaGreat
