/- The law BalancePrograms returns true for every input and leaves its arguments as they were. Conditions: none. -/
import Derived.Test.YtcpaopfdiahnnaaGreatZp2
import Derived.Test.YtcpaopfdiahnnaaGreatZb33
import Derived.Test.YtcpaopfdiahnnaaGreatZb37
import Derived.Test.YtcpaopfdiahnnaaGreatZb1
set_option linter.all false
set_option maxHeartbeats 32000000
set_option maxRecDepth 100000
namespace Go.Proofs.YtcpaopfdiahnnaaGreat
section
open W Go.RowKit
def YM (p:X.Lp) (kind:Int) (xn yn:Nat) (x y:Nat->Rat) (z:Rat):Bool:=
 if kind=0 then Jf p yn y p.g && Xv p xn x false && decide (XT p y=z) && decide ((X.sm p.v λk=>p.g k*x k)=z)
 else if kind=1 then Jf p yn y (λ_=>0) && decide (xn=0) && decide (XT p y < 0) && decide (z=0)
 else if kind=2 then Xv p xn x false && Xv p yn y true && decide (0 < X.sm p.v λk=>p.g k*y k) && decide (z=0)
 else false
section
variable {P:Program} {e:Env} {bx:List Ow} {F:List Fct} {ty:TypeId} {M:Am} {xn yn:Nat} {x y:Nat->Rat} {z:Rat}
theorem W.Has.ax (h:Has F (fA M xn yn x y z)):Has F (fF M.xv xn M.mx x):=λp hp=>(h p hp).1
theorem W.Has.ay (h:Has F (fA M xn yn x y z)):Has F (fF M.yv yn M.my y):=λp hp=>(h p hp).2.1
theorem W.Has.az (h:Has F (fA M xn yn x y z)):Has F (isQ (qv M.mz) z):=λp hp=>(h p hp).2.2
end
theorem WD.Jh {hs:List Nat} {b0:List Ow} {F0:List Fct} {r:Plan} {el n':Nat} {bx bx':List Ow} {L:List Oper} {Q2:Env->List Ow->List Fct->Prop} {F:List Fct} {P:Program} {e:Env} (v:Value) (n:Nat) (ms:Nat->QM) (q:Nat->Rat) (hs':Sel bx (.slice v el 4 (Qe n ms)) (.slice (.slice none 0 0) el 4 []) bx') (hm:Has F (mF n ms q)) (h:WD P n' L hs b0 F0 r e bx' (fF v n ms q::F) Q2):WD P n' L hs b0 F0 r e bx F Q2:=λfr w0 listed a w fuel Q' h1 h2 h3 h4 h5 h6 hk hr ho hf=>h fr w0 listed a w fuel Q' h1 h2 h3 h4 h5 h6 hk hr (okF ho hs' hm) hf
theorem LO.Jh {el:Nat} {bx bx':List Ow} {F:List Fct} {P:Program} {e:Env} {op:Op} {ty:TypeId} {K:Value->List Ow->List Fct->Prop} (v:Value) (n:Nat) (ms:Nat->QM) (q:Nat->Rat) (hs':Sel bx (.slice v el 4 (Qe n ms)) (.slice (.slice none 0 0) el 4 []) bx') (hm:Has F (mF n ms q)) (h:LO P op ty e bx' (fF v n ms q::F) K):LO P op ty e bx F K:=λn' fr a w o K' h1 h2 h3 h4 h5=>h n' fr a w o K' h1 h2 h3 (okF h4 hs' hm) h5
theorem Hb {p:X.Lp} {xn:Nat} {x:Nat->Rat} {op:Bool} (h:Xv p xn x op=true):xn=p.v:=by
 unfold Xv at h;simp only[Bool.and_eq_true,decide_eq_true_eq] at h;exact h.1
namespace Z
attribute [local irreducible] WC WL WD YO LO Qq W.Fin Qw Qu Qj Row QQ Qy KnS Has W.One Ql Qr
theorem Q1 {G G':Prop} (h:G') (s:Bx G'->G:=by
 intro h;first|refine gM ?_|(apply WC.draw (id:=4) [0,1,2,3,4,6,7,8,9,10,12,13,14,15,16,17,19,20,22,23] (.h 0<|.h 1<|.h 2<|.h 3<|.h 4<|.l 5<|.h 6<|.h 7<|.h 8<|.h 9<|.h 10<|.l 11<|.h 12<|.h 13<|.h 14<|.h 15<|.h 16<|.h 17<|.h 19<|.h 20<|.l 18<|.l 21<|.h 22<|.h 23 .done) mixed kr)|(apply WC.draw (id:=6) [0,1,2,3,4,7,8,9,12] (.h 0<|.h 1<|.h 2<|.h 3<|.h 4<|.m 5 (.m 6 (.h 7<|.h 8<|.h 9<|.l 10<|.l 11<|.h 12 .done) (.l 10<|.l 6<|.h 7<|.h 8<|.h 9<|.l 11<|.h 12 .done)) (.l 10<|.l 5<|.l 6<|.h 7<|.h 8<|.h 9<|.l 11<|.h 12 .done)) mixed kr)|fail
 exact Bx.h h):G:=s ⟨h⟩
section
variable (M:Pm) (p:X.Lp) (N:Am) (K xn yn:Nat) (x y:Nat->Rat) (z:Rat)
theorem sums_t {yv gw:Value} {my mg:Nat->QM} {gf:Nat->Rat} (h:FnB Tryz.prog 189 [pgv M p.v,yv,gw] [] [fP M p,fF yv yn my y,fF gw p.v mg gf] (KC p yn y gf)) (hs:Jf p yn y gf=true) :
  FnB Tryz.prog 189 [pgv M p.v,yv,gw] [] [fP M p,fF yv yn my y,fF gw p.v mg gf] (λv B G=>∃ m,v=.tuple #[qv m,.bool true]∧B=[]∧G=[isQ (qv m) (XT p y)]):=by
 unfold KC at h;rw[hs] at h;simpa using h
theorem sums_f {yv gw:Value} {my mg:Nat->QM} {gf:Nat->Rat} (h:FnB Tryz.prog 189 [pgv M p.v,yv,gw] [] [fP M p,fF yv yn my y,fF gw p.v mg gf] (KC p yn y gf)) (hs:Jf p yn y gf=false) :
  FnB Tryz.prog 189 [pgv M p.v,yv,gw] [] [fP M p,fF yv yn my y,fF gw p.v mg gf] (λv B G=>∃ m,v=.tuple #[qv m,.bool false]∧B=[]∧G=[isQ (qv m) 0]):=by
 unfold KC at h;rw[hs] at h;simpa using h
theorem right_c (kind:Int) (hdv:Dok p.v K) (hdm:Dok p.m K) (hv:p.v<=1000) (hm:p.m<=1000) (hK:0 < K) (ha:∀ r,r < p.m->∀ k,k < p.v->Sq K (p.a r k)) (hb:∀ r,r < p.m->Sq K (p.b r)) (hg:∀ k,k < p.v->Sq K (p.g k))
  (hx:∀ k,k < xn->Sq K (x k)) (hy:∀ k,k < yn->Sq K (y k)):FnB Tryz.prog 121 [pgv M p.v,agv N kind] [] [fP M p,fA N xn yn x y z] (IsV (.bool (YM p kind xn yn x y z))):=by
 refine fO [(0,(pgv M p.v)),(1,(agv N kind))] 102 Tryz.func121 Tryz.ntmps121 λh0=>?_;refine WC.fact (fF N.xv xn N.mx x) (W.Has.ax (M:=N) (xn:=xn) (yn:=yn) (x:=x) (y:=y) (z:=z) hmA) ?_;refine WC.fact (fF N.yv yn N.my y) (W.Has.ay (M:=N) (xn:=xn) (yn:=yn) (x:=x) (y:=y) (z:=z) hmA) ?_;refine WC.fact (isQ (qv N.mz) z) (W.Has.az (M:=N) (xn:=xn) (yn:=yn) (x:=x) (y:=y) (z:=z) hmA) ?_;refine WC.fact (fF M.gv p.v M.mg p.g) (W.Has.pg (M:=M) (m:=p.m) (gn:=p.v) (ln:=λ_=>p.v) (a:=p.a) (b:=p.b) (g:=p.g) hmA) ?_;by_cases k0:kind=0
 ·subst k0;have e:YM p 0 xn yn x y z=(Jf p yn y p.g && Xv p xn x false && decide (XT p y=z) && decide ((X.sm p.v λk=>p.g k*x k)=z)):=rfl;rw[e];have hS:=sums_c M p K yn N.yv M.gv N.my M.mg y p.g hdm hv hm ha hb hy;cases hs:Jf p yn y p.g with
  |false=>
   repeat'(first|intro(g:Nat)|refine Q1 ?_|refine gN ?_ ?_|intro v)
   refine WL.QH (sums_f M p yn y hS hs) ?_;rintro _ _ _ ⟨mb,rfl,rfl,rfl⟩;refine sNn ?_;repeat'(first|intro(g:Nat)|refine Q1 ?_|refine gN ?_ ?_|intro v)
   refine WC.ret ?_;exact Fin.v (Qv.t1 rfl rfl) meA (by simp)
  |true=>
   repeat'(first|intro(g:Nat)|refine Q1 ?_|refine gN ?_ ?_|intro v)
   refine WL.QH (sums_t M p yn y hS hs) ?_;rintro _ _ _ ⟨mb,rfl,rfl,rfl⟩;refine sNn ?_;repeat'(first|intro(g:Nat)|refine Q1 ?_|refine gN ?_ ?_|intro v)
   refine cK (Zo M p K xn false N.xv N.mx x hdv hv ha hb hx hK) ?_;rintro _ _ _ ⟨rfl,rfl,rfl⟩;refine sNn ?_;cases hh:Xv p xn x false with
   |false=>
    repeat'(first|intro(g:Nat)|refine Q1 ?_|refine gN ?_ ?_|intro v)
    refine WC.ret ?_;exact Fin.v (Qv.t1 rfl rfl) meA (by simp)
   |true=>
    obtain rfl:=Hb hh;repeat'(first|intro(g:Nat)|refine Q1 ?_|refine gN ?_ ?_|intro v)
    refine cK (Zn.same mb N.mz (XT p y) z) ?_;rintro _ _ _ ⟨rfl,rfl,rfl⟩;refine sNn ?_;by_cases cz:XT p y=z
    ·rw[decide_eq_true cz];repeat'(first|intro(g:Nat)|refine Q1 ?_|refine gN ?_ ?_|intro v)
     refine cW (Hk M.gv N.xv p.v K M.mg N.mx p.g x qo hdv hg hx) λmd=>?_;repeat'(first|intro(g:Nat)|refine Q1 ?_|refine gN ?_ ?_|intro v)
     refine cK (Zn.same md N.mz (X.sm p.v λk=>p.g k*x k) z) ?_;rintro _ _ _ ⟨rfl,rfl,rfl⟩;refine sNn ?_;repeat'(first|intro(g:Nat)|refine Q1 ?_|refine gN ?_ ?_|intro v)
     refine WC.ret ?_;exact Fin.v (Qv.t1 rfl rfl) meA (by simp)
    ·rw[decide_eq_false cz];repeat'(first|intro(g:Nat)|refine Q1 ?_|refine gN ?_ ?_|intro v)
     refine WC.ret ?_;exact Fin.v (Qv.t1 rfl rfl) meA (by simp)
 ·by_cases k1:kind=1
  ·subst k1;have e:YM p 1 xn yn x y z=(Jf p yn y (λ_=>0) && decide (xn=0) && decide (XT p y < 0) && decide (z=0)):=rfl;rw[e];have hs1:=@JB (XT p y);have hs2:=@QS z;refine WC.fact (mF p.v (λ_=>m00) (λ_=>0)) (W.Has.mF0 _) ?_;repeat'(first|intro(g:Nat)|refine gA ?_|intro v)
   rename_i g2
   revert g;intro g3
   refine WC.YJ (σ:=Nat×QM) (λst=>[(7,ptr st.1),(8,.bool (Jf p yn y λ_=>0)),(3,ptr g3),(2,ptr g2)]) (λst=>[Ow.cells st.1 64 (qcs st.2),Ow.cells g3 101 (acs N 1),Ow.cells g2 36 (pcs M p.v)])
    (λst=>[isQ (qv st.2) (if Jf p yn y (λ_=>0)=true then XT p y else 0),isQ (qv N.mz) z,fF N.xv xn N.mx x,ge h0]) (λ_=>True) ?_ ?_
   ·repeat'(first|intro(g:Nat)|refine Q1 ?_|refine gN ?_ ?_|intro v)
    all_goals(first|refine WD.Jh v p.v (λ_=>m00) (λ_=>0) (by repeat(first|exact Sel.head|apply Sel.tail)) hmA ?_|refine LO.Jh v p.v (λ_=>m00) (λ_=>0) (by repeat(first|exact Sel.head|apply Sel.tail)) hmA ?_)
    all_goals(first|refine WD.QH (sums_c M p K yn N.yv v N.my (λ_=>m00) y (λ_=>0) hdm hv hm ha hb hy) ?_|refine LO.callM (sums_c M p K yn N.yv v N.my (λ_=>m00) y (λ_=>0) hdm hv hm ha hb hy) ?_)
    all_goals rintro _ _ _ ⟨mb,rfl,rfl,rfl⟩
    all_goals refine sNn ?_
    all_goals repeat'(first|intro(g:Nat)|refine Q1 ?_|refine gN ?_ ?_|intro v)
    all_goals(apply Ex2;refine⟨trivial,?_,?_,?_⟩;(focus(repeat(first|exact Sub.nil _|refine Sub.cons rfl ?_)));(focus(repeat(first|exact Q9.nil _|(apply Q9.cons;(repeat(first|exact Rem.head|apply Rem.tail))))));(focus(repeat(first|exact Qk.nil|(apply Qk.cons;exact hsA)))))
   rintro⟨g7,mb⟩ _;simp only;cases hs:Jf p yn y (λ_=>0) with
   |false=>
    repeat'(first|intro(g:Nat)|refine Q1 ?_|refine gN ?_ ?_|intro v)
    refine WC.ret ?_;exact Fin.v (Qv.t1 rfl rfl) meA (by simp)
   |true=>
    rw[if_pos rfl];by_cases cx:xn=0
    ·rw[decide_eq_true cx];repeat'(first|intro(g:Nat)|refine Q1 ?_|refine gN ?_ ?_|intro v)
     refine cV (Zn.sign mb (XT p y)) ?_;by_cases cs:XT p y < 0
     ·rw[decide_eq_true cs];have c':=hs1.2 cs;repeat'(first|intro(g:Nat)|refine Q1 ?_|refine gN ?_ ?_|intro v)
      refine cV (Zn.sign N.mz z) ?_;by_cases cz:z=0
      ·have c'':=hs2.2 cz;rw[decide_eq_true cz];repeat'(first|intro(g:Nat)|refine Q1 ?_|refine gN ?_ ?_|intro v)
       refine WC.ret ?_;exact Fin.v (Qv.t1 rfl rfl) meA (by simp)
      ·have c'':¬sgn z.num=0:=λh=>cz (hs2.1 h);rw[decide_eq_false cz];repeat'(first|intro(g:Nat)|refine Q1 ?_|refine gN ?_ ?_|intro v)
       refine WC.ret ?_;exact Fin.v (Qv.t1 rfl rfl) meA (by simp)
     ·have c':¬sgn (XT p y).num < 0:=λh=>cs (hs1.1 h);rw[decide_eq_false cs];repeat'(first|intro(g:Nat)|refine Q1 ?_|refine gN ?_ ?_|intro v)
      refine WC.ret ?_;exact Fin.v (Qv.t1 rfl rfl) meA (by simp)
    ·rw[decide_eq_false cx];repeat'(first|intro(g:Nat)|refine Q1 ?_|refine gN ?_ ?_|intro v)
     refine WC.ret ?_;exact Fin.v (Qv.t1 rfl rfl) meA (by simp)
  ·by_cases k2:kind=2
   ·subst k2;have e:YM p 2 xn yn x y z=(Xv p xn x false && Xv p yn y true && decide (0 < X.sm p.v λk=>p.g k*y k) && decide (z=0)):=rfl;rw[e];have hs1:=@ZZ (X.sm p.v λk=>p.g k*y k);have hs2:=@QS z;repeat'(first|intro(g:Nat)|refine Q1 ?_|refine gN ?_ ?_|intro v)
    refine cV (Zo M p K xn false N.xv N.mx x hdv hv ha hb hx hK) ?_;cases hh:Xv p xn x false with
    |false=>
     repeat'(first|intro(g:Nat)|refine Q1 ?_|refine gN ?_ ?_|intro v)
     refine WC.ret ?_;exact Fin.v (Qv.t1 rfl rfl) meA (by simp)
    |true=>
     repeat'(first|intro(g:Nat)|refine Q1 ?_|refine gN ?_ ?_|intro v)
     refine cV (Zo M p K yn true N.yv N.my y hdv hv ha hb hy hK) ?_;cases hh2:Xv p yn y true with
     |false=>
      repeat'(first|intro(g:Nat)|refine Q1 ?_|refine gN ?_ ?_|intro v)
      refine WC.ret ?_;exact Fin.v (Qv.t1 rfl rfl) meA (by simp)
     |true=>
      obtain rfl:=Hb hh2;repeat'(first|intro(g:Nat)|refine Q1 ?_|refine gN ?_ ?_|intro v)
      refine WL.QH (Hk M.gv N.yv p.v K M.mg N.my p.g y qo hdv hg hy) ?_;rintro _ _ _ ⟨md,rfl,rfl,rfl⟩;refine sNn ?_;repeat'(first|intro(g:Nat)|refine Q1 ?_|refine gN ?_ ?_|intro v)
      refine cV (Zn.sign md (X.sm p.v λk=>p.g k*y k)) ?_;by_cases cs:0 < X.sm p.v λk=>p.g k*y k
      ·rw[decide_eq_true cs];have c':=hs1.2 cs;repeat'(first|intro(g:Nat)|refine Q1 ?_|refine gN ?_ ?_|intro v)
       refine cV (Zn.sign N.mz z) ?_;by_cases cz:z=0
       ·have c'':=hs2.2 cz;rw[decide_eq_true cz];repeat'(first|intro(g:Nat)|refine Q1 ?_|refine gN ?_ ?_|intro v)
        refine WC.ret ?_;exact Fin.v (Qv.t1 rfl rfl) meA (by simp)
       ·have c'':¬sgn z.num=0:=λh=>cz (hs2.1 h);rw[decide_eq_false cz];repeat'(first|intro(g:Nat)|refine Q1 ?_|refine gN ?_ ?_|intro v)
        refine WC.ret ?_;exact Fin.v (Qv.t1 rfl rfl) meA (by simp)
      ·have c':¬0 < sgn (X.sm p.v λk=>p.g k*y k).num:=λh=>cs (hs1.1 h);rw[decide_eq_false cs];repeat'(first|intro(g:Nat)|refine Q1 ?_|refine gN ?_ ?_|intro v)
       refine WC.ret ?_;exact Fin.v (Qv.t1 rfl rfl) meA (by simp)
   ·have e:YM p kind xn yn x y z=false:=by unfold YM;rw[if_neg k0,if_neg k1,if_neg k2]
    rw[e];repeat'(first|intro(g:Nat)|refine Q1 ?_|refine gN ?_ ?_|intro v)
    refine WC.ret ?_;exact Fin.v (Qv.t1 rfl rfl) meA rfl
theorem check_c (kind:Int) (hdv:Dok p.v K) (hdm:Dok p.m K) (hv:p.v<=48) (hm:p.m<=128) (hK:0 < K) (ha:∀ r,r < p.m->∀ k,k < p.v->Sq K (p.a r k)) (hb:∀ r,r < p.m->Sq K (p.b r)) (hg:∀ k,k < p.v->Sq K (p.g k))
  (hx:∀ k,k < xn->Sq K (x k)) (hy:∀ k,k < yn->Sq K (y k)):FnB Tryz.prog 52 [pgv M p.v,agv N kind] [] [fP M p,fA N xn yn x y z] (IsV (.int .i64 (if YM p kind xn yn x y z=true then 0 else 22))):=by
 refine fO [(0,(pgv M p.v)),(1,(agv N kind))] 15 Tryz.func52 Tryz.ntmps52 λh0=>?_;refine WC.fact (fF N.xv xn N.mx x) (W.Has.ax (M:=N) (xn:=xn) (yn:=yn) (x:=x) (y:=y) (z:=z) hmA) ?_;refine WC.fact (fF N.yv yn N.my y) (W.Has.ay (M:=N) (xn:=xn) (yn:=yn) (x:=x) (y:=y) (z:=z) hmA) ?_;refine WC.fact (isQ (qv N.mz) z) (W.Has.az (M:=N) (xn:=xn) (yn:=yn) (x:=x) (y:=y) (z:=z) hmA) ?_;repeat'(first|intro(g:Nat)|refine gA ?_|intro v)
 refine WL.XR (YP M p.m p.v (λ_=>p.v) p.a p.b p.g p.v) ?_ (hF:=.cons (.f hmA) .nil);rw[vldP_ok hv hm];repeat'(first|intro(g:Nat)|refine gA ?_|intro v)
 refine cV (right_c M p N K xn yn x y z kind hdv hdm qo qo hK ha hb hg hx hy) ?_;cases hr:YM p kind xn yn x y z with
 |false=>
  repeat'(first|intro(g:Nat)|refine gA ?_|intro v)
  refine WC.ret ?_;exact Fin.v (Qv.t1 rfl rfl) meA rfl
 |true=>
  repeat'(first|intro(g:Nat)|refine gA ?_|intro v)
  refine WC.ret ?_;exact Fin.v (Qv.t1 rfl rfl) meA rfl
end
end Z
end
section
open W Go.RowKit
open Bl (Vc Bd Tc Sc)
theorem Vy {p:Nat->Bool} {n:Nat}:(X.fstT p n 0).isSome=false↔∀ j,j < n->p j=false:=by
 rcases X.Xs p n 0 with ⟨h1,h2⟩|⟨j,h1,_,h3,h4,_⟩
 ·rw[h1];exact⟨λ_ j hj=>h2 j qo qo,λ_=>rfl⟩
 ·rw[h1];exact⟨λh=>(by cases h),λh=>(by rw[h j qo] at h4;cases h4)⟩
section
variable {p:X.Lp} {xn yn:Nat} {x y g:Nat->Rat} {z:Rat} {op:Bool}
theorem K3:Xv p xn x op=true↔xn=p.v∧∀ r,r < p.m->(X.sm p.v λk=>p.a r k*x k)<=most p op r:=by
 unfold Xv;rw[Bool.and_eq_true,decide_eq_true_eq,Bool.not_eq_true',Vy];constructor
 ·rintro⟨h1,h2⟩;exact⟨h1,λr hr=>by have:=of_decide_eq_false (h2 r hr);grind⟩
 ·rintro⟨h1,h2⟩;exact⟨h1,λr hr=>decide_eq_false (by have:=h2 r hr;grind)⟩
theorem VD:Jf p yn y g=true↔yn=p.m∧(∀ r,r < p.m->0<=y r)∧∀ k,k < p.v->(X.sm p.m λr=>y r*p.a r k)=g k:=by
 have e:∀ k,(X.sm p.m λr=>p.a r k*y r)=X.sm p.m λr=>y r*p.a r k:=λk=>X.Qh λr _=>Rat.mul_comm _ _;unfold Jf;rw[Bool.and_eq_true,Bool.and_eq_true,decide_eq_true_eq,Bool.not_eq_true',Bool.not_eq_true',Vy,Vy];constructor
 ·rintro⟨⟨h1,h2⟩,h3⟩;subst h1;exact⟨rfl,λr hr=>by have:=of_decide_eq_false (h2 r hr);grind,λk hk=>by have:=of_decide_eq_false (h3 k hk);rw[<-e];grind⟩
 ·rintro⟨h1,h2,h3⟩;subst h1;exact⟨⟨rfl,λr hr=>decide_eq_false (by have:=h2 r hr;grind)⟩,λk hk=>decide_eq_false (by rw[e,h3 k hk];simp)⟩
theorem sumsV_eq:XT p y=X.sm p.m λr=>y r*p.b r:=X.Qh λr _=>Rat.mul_comm _ _
theorem ans_right {kind:Nat} (h:AnsP p kind xn yn x y z):YM p kind xn yn x y z=true:=by
 rcases h with ⟨rfl,rfl,rfl,rfl,h1,h2,h3⟩|⟨rfl,rfl,rfl,h1,h2,h3,h4,h5⟩|⟨rfl,rfl,rfl,rfl,h1,h2,h3⟩
 ·show(Jf p p.m y (λ_=>0) && decide (0=0) && decide (XT p y < 0) && decide ((0:Rat)=0))=true;rw[VD.2 ⟨rfl,h1,h2⟩,sumsV_eq,decide_eq_true h3];rfl
 ·show(Jf p p.m y p.g && Xv p p.v x false && decide (XT p y=z) && decide ((X.sm p.v λk=>p.g k*x k)=z))=true;rw[VD.2 ⟨rfl,h2,h3⟩,(K3 (p:=p) (op:=false)).2 ⟨rfl,h1⟩,sumsV_eq,decide_eq_true h4,decide_eq_true h5];rfl
 ·show(Xv p p.v x false && Xv p p.v y true && decide (0 < X.sm p.v λk=>p.g k*y k) && decide ((0:Rat)=0))=true;rw[(K3 (p:=p) (op:=false)).2 ⟨rfl,h1⟩,(K3 (p:=p) (op:=true)).2 ⟨rfl,λr hr=>h2 r hr⟩,decide_eq_true h3];rfl
end
section
variable {S:Sc}
theorem lp_szsP (hs:Ss 1 S) (hn:S.n<=3) (hm:S.m<=4) {w:Nat->Rat} (hw:∀ i,i < S.n->Sq 1 (w i)):X.Szs (Bl.lp S w) 9 40691 1831556 where
 pos:=qd
 a:=λr hr j hj=>by
  have hr':r < 6*S.n+6*S.m+S.n:=hr;have hj':j < 4*S.m:=hj;show Sq 9 (if r < 6*S.n then _ else _);split
  ·exact(GJ (co3_sz (K:=1) qd hs qo hj')).up qo
  ·split
   ·have ht:=hs.T ((r - 6*S.n) / 6) qo;unfold Bl.coE;repeat' split
    ·exact(K5 (K:=1) qd).neg.up qo
    ·exact ht.2.2.2.neg.up qo
    ·exact Sq.zero.up qo
    ·exact(K5 (K:=1) qd).up qo
    ·exact(K5 (K:=1) qd).neg.up qo
    ·exact Sq.zero.up qo
   ·unfold Bl.coS;split
    ·have ht:=hs.T (j / 4) qo;unfold Bl.spn;exact(ht.2.2.1.1.ab.add ht.2.2.1.2.ab).up qo
    ·exact Sq.zero.up qo
 b:=λr hr=>by
  have hr':r < 6*S.n+6*S.m+S.n:=hr;show Sq 9 (if r < 6*S.n then _ else _);split
  ·split
   ·exact(GJ (hw _ qo)).up qo
   ·exact Sq.zero.up qo
  ·split
   ·exact Sq.zero.up qo
   ·exact(hs.B _ qo).2.2.2.up qo
 g:=λ_ _=>Sq.zero.up qo
 k:=by show 2*((6*S.n+6*S.m+S.n)*(50*9+2)+1)+9<=40691;omega
 v:=by show 4*S.m<=48;omega
 m:=by show 6*S.n+6*S.m+S.n<=128;omega
 l:=by show(6*S.n+6*S.m+S.n)*(9+40691+1)+1+9+1<=1831556;omega
 t:=qd
 kl:=qd
 d:=by show 4*S.m*(2*(2*40691+1)+1)+1+2*(2*40691+1)<=400000000;omega
abbrev yP:Nat:=1872248
theorem solveP_c (Mp:Pm) (S:Sc) (i:Nat) (hs:Ss 1 S) (hn:S.n<=3) (hm:S.m<=4):FnB Tryz.prog 51 [pgv Mp ((4*S.m:Nat):Int)] [] [fP Mp (Bl.lp S (S.wt i))] (IsAns2 (Bl.lp S (S.wt i)) 81383 yP 2700000):=
 W.FnB.mono (Z.solve_c Mp (Bl.lp S (S.wt i)) 9 40691 1831556 2700000 (lp_szsP hs hn hm (HY hs i)) (by show 4*S.m<=48;omega) (by show 6*S.n+6*S.m+S.n<=128;omega) qd qd (by show 4*S.m*(2*(2*40691+1)+1)+1<=2700000;omega)) λv b g h=>h
end
theorem checkP_c (Mp:Pm) (S:Sc) (i:Nat) (N:Am) (kind xn yn:Nat) (x y:Nat->Rat) (z:Rat) (hs:Ss 1 S) (hn:S.n<=3) (hm:S.m<=4) (hA:AnsP (Bl.lp S (S.wt i)) kind xn yn x y z) (hx:∀ k,k < xn->Sq 81383 (x k)) (hy:∀ k,k < yn->Sq yP (y k)):FnB Tryz.prog 52 [pgv Mp ((4*S.m:Nat):Int),agv N (kind:Nat)] [] [fP Mp (Bl.lp S (S.wt i)),fA N xn yn x y z] (IsV (.int .i64 0)):=by
 have hz:=lp_szsP hs hn hm (HY hs i);have h:=Z.check_c (M:=Mp) (p:=Bl.lp S (S.wt i)) (N:=N) (xn:=xn) (yn:=yn) (x:=x) (y:=y) (z:=z) (K:=yP) (kind:Nat) (by show 4*S.m*(2*1872248+1)+1+2*1872248<=400000000;omega) (by show(6*S.n+6*S.m+S.n)*(2*1872248+1)+1+2*1872248<=400000000;omega) (by show 4*S.m<=48;omega) (by show 6*S.n+6*S.m+S.n<=128;omega) qd (λr hr k hk=>(hz.a r hr k hk).up qd) (λr hr=>(hz.b r hr).up qd) (λk hk=>(hz.g k hk).up qd) (λk hk=>(hx k hk).up qd) hy
 rwa [if_pos (ans_right hA)] at h
end
section
open W Go.RowKit
open Bl (Vc Bd Tc Sc)
section
variable {e:Env} {bx bx':List Ow} {F:List Fct} {ty t el:TypeId} {x y:Operand} {v w:Value} {K:Qd} {a mm:VM} {n:Nat}
theorem LO.bsP1 (hx:ev e x=some (vv a)) (h:∀ v,K v (Ow.slice v 83 8 (vcs a)::bx) F):LO Tryz.prog (.buildSlice 59 1 #[(0,x)]) ty e bx F K:=
 LO.buildSlice (el:=83) (sz:=8) (parts:=[(0,x)]) (us:=[vv a]) (cs:=vcs a) (.cons hx .nil) (λ_=>by kernel_rfl) rfl qd h
theorem LO.appPx {el':TypeId} {ms:Nat->VM} {xs:Nat->Vc} {bx2:Value->List Ow} (hx:ev e x=some v) (hy:ev e y=some w) (hu:Ow.slice w el' 8 (vcs mm)∈bx) (hm:Has F (fV mm (xs n))) (hs:∀ v',Sel bx (lO QD v 83 n ms xs) (lO QD v' 83 (n+1) (upd ms n mm) xs) (bx2 v')) (hl:n<=1000000) (h:∀ v',K v' (bx2 v') F) :
  LO Tryz.prog (.call {callee:=.builtin .append,args:=#[x,y],argTypes:=#[59,59]}) ty e bx F K:=
 LO.appG (S:=QD) (c:=1) T.e59 hx hy hu (JQ (S:=QD) (mm:=mm)) rfl (ZH hm) hs qd qd hl qd h
end
def DecOk (S:Sc) (N c:Nat) (e:Int):Prop:=(e=0∧∀ k,k < N->Bl.Sat S k)∨(e=16∧c < N∧(∃ y,X.U4 (Bl.lp S (S.wt c)) y)∧∀ k,k < c->Bl.Sat S k)
namespace K
namespace Q
namespace R
attribute [local irreducible] WC WL WD YO LO Qq W.Fin Qw Qu Qj Row QQ Qy KnS Has W.One Ql Qr
theorem d10 {G G':Prop} (h:G') (s:Bx G'->G:=by
 intro h;first|refine gF ?_|refine H3 ?_|(apply WC.draw (id:=16) [0,1,2,3,4,5,6,7,8,9,10,11,12] (.h 0<|.h 1<|.h 2<|.h 3<|.h 4<|.h 5<|.h 6<|.h 7<|.h 8<|.h 9<|.h 10<|.h 11<|.h 12<|.l 13<|.l 14<|.f 15 .done) mixed kr)|(apply WC.draw (id:=17) [0,1,2,3,4,5,6,8,10] (.h 0<|.h 1<|.h 2<|.h 3<|.h 4<|.h 5<|.h 6<|.h 8<|.l 7<|.l 9<|.h 10 .done) mixed kr)|fail
 exact Bx.h h):G:=s ⟨h⟩
theorem progLaw_c (lv:Value) (l:List Int) (hl:∀ x∈l,I64 x):FnB Tryz.prog 10 [lv] [] [isX Tryz.prog,sI lv l] (IsV (.bool true)):=by
 refine fO [(0,lv)] 128 Tryz.func10 Tryz.ntmps10 λh0=>?_;have hok:=Bl.GZ l;have hfs:=Bl.GX l;have hsn:=Bl.some_n l;have hss:=Fs.ss hfs qd qd qd;generalize hS:Bl.Ye l=S at *;have h32:2 ^ S.n<=2 ^ 3:=Nat.pow_le_pow_right qd hsn.2.1;obtain⟨N,hN⟩:∃ N,2 ^ S.n=N:=⟨_,rfl⟩
 have hcn:=Hz S.n qo;rw[hN] at hcn h32;repeat'(first|intro(g:Nat)|refine d10 ?_|intro v)
 refine cK (some_c lv l hl) ?_;rw[hS];rintro _ _ _ ⟨M,rfl,rfl,rfl⟩;refine sNn ?_
 (first|(refine goG ?_;intro g3)|(refine goEG ?_;intro g3))
 (first|refine go ?_|refine goE ?_)
 apply WL.nil;show WC _ _ _ _ _ _ _;refine WC.keep (g:=g3) (t:=26) (cs:=[M.l,M.t]) (by repeat(first|exact Rem.head|apply Rem.tail)) ?_;apply WC.seq;refine WC.YJ (σ:=Nat×Nat×Value×Int) (λst=>[(3,ptr g3),(5,ptr st.1),(6,.int .i64 st.2.2.2)]) (λst=>[Ow.cells st.1 50 [.int .i64 (st.2.1:Int),st.2.2.1]]) (λ_=>[ce g3 26 [M.l,M.t],fSl M S,fSt M S,ge h0,isX Tryz.prog]) (λst=>DecOk S N st.2.1 st.2.2.2) ?_ ?_
 ·repeat'(first|intro(g:Nat)|refine d10 ?_|intro v)
  refine cK (Xd M S 1 qd qd hss hok) ?_;rintro _ _ _ ⟨rfl,⟨cv,ms,xs,rfl,rfl,hpt⟩|⟨c,yv,my,y,rfl,rfl,hc,hinf,hy,hprev⟩⟩
  ·refine sNn ?_;repeat'(first|intro(g:Nat)|refine d10 ?_|intro v)
   refine⟨(g,0,.slice none 0 0,0),.inl ⟨rfl,λk hk=>⟨_,(hpt k (hN ▸ hk)).1⟩⟩,suA,?_,haA⟩
   (repeat(first|exact Q9.nil _|(apply Q9.cons;(repeat(first|exact Rem.head|apply Rem.tail)))))
  ·refine sNn ?_;repeat'(first|intro(g:Nat)|refine d10 ?_|intro v)
   refine⟨(g,c,yv,16),.inr ⟨rfl,hN ▸ hc,⟨y,hinf⟩,hprev⟩,suA,?_,haA⟩
   (repeat(first|exact Q9.nil _|(apply Q9.cons;(repeat(first|exact Rem.head|apply Rem.tail)))))
 rintro⟨g5,c,yv,er⟩ hD;simp only;refine WC.keep (g:=g5) (t:=50) (cs:=[.int .i64 (c:Int),yv]) (by repeat(first|exact Rem.head|apply Rem.tail)) ?_
 replace hD:DecOk S N c er:=hD
 repeat'(first|intro(g:Nat)|refine d10 ?_|intro v)
 refine WC.lp (σ:=Nat) (λk=>[(7,.int .i64 (k:Int)),(3,ptr g3),(5,ptr g5),(6,.int .i64 er)]) (λ_=>[]) (λ_=>[ce g5 50 [.int .i64 (c:Int),yv],ce g3 26 [M.l,M.t],fSl M S,fSt M S,ge h0,isX Tryz.prog]) (λk=>k<=N∧(er=16->k<=c)) (λk=>N - k) 0 ⟨Nat.zero_le _,λ_=>Nat.zero_le _⟩ ?_;rintro k ⟨hk,hkc⟩;by_cases d:k < N
 ·repeat'(first|intro(g:Nat)|refine d10 ?_|intro v)
  refine cV (hcn) ?_;repeat'(first|intro(g:Nat)|refine d10 ?_|intro v)
  refine cW (ZX M S k (hN ▸ d) 1 qd qd hss hok) λMp=>?_;refine WL.QG (fF Mp.gv (4*S.m) Mp.mg (Bl.lp S (S.wt k)).g) (W.Has.pg (M:=Mp) (m:=(Bl.lp S (S.wt k)).m) (gn:=(Bl.lp S (S.wt k)).v) (ln:=λ_=>(Bl.lp S (S.wt k)).v) (a:=(Bl.lp S (S.wt k)).a) (b:=(Bl.lp S (S.wt k)).b) (g:=(Bl.lp S (S.wt k)).g) hmA) ?_;repeat'(first|intro(g:Nat)|refine d10 ?_|intro v)
  refine cK (solveP_c Mp S k hss hsn.2.1 hsn.2.2) ?_;rintro _ _ _ ⟨A,kind,xn,yn,x,y,z,rfl,rfl,rfl,hA,hx,hy,hz⟩;refine sNn ?_;revert g;intro g8;refine WL.QG (isQ (qv A.mz) z) (W.Has.az (M:=A) (xn:=xn) (yn:=yn) (x:=x) (y:=y) (z:=z) hmA) ?_;refine WL.QG (fF A.yv yn A.my y) (W.Has.ay (M:=A) (xn:=xn) (yn:=yn) (x:=x) (y:=y) (z:=z) hmA) ?_;refine WL.QG (fF A.xv xn A.mx x) (W.Has.ax (M:=A) (xn:=xn) (yn:=yn) (x:=x) (y:=y) (z:=z) hmA) ?_;repeat'(first|intro(g:Nat)|refine d10 ?_|intro v)
  revert g;intro g10;refine cV (checkP_c Mp S k A kind xn yn x y z hss hsn.2.1 hsn.2.2 hA hx hy) ?_;by_cases hk1:kind=1
  ·rcases hA with ⟨_,rfl,rfl,rfl,hinf⟩|⟨h,_⟩|⟨h,_⟩;case inr.inl=>exact absurd (h.symm.trans hk1) qd
   case inr.inr=>exact absurd (h.symm.trans hk1) qd
   subst hk1
   obtain⟨rfl,rfl⟩:er=16∧k=c:=by
    rcases hD with ⟨_,hD⟩|⟨he,_,_,hD⟩
    ·obtain⟨x,hx⟩:=hD k d;exact absurd hx (X.Yw hinf)
    ·refine⟨he,Nat.le_antisymm (hkc he) (Nat.le_of_not_lt λh=>?_)⟩;obtain⟨x,hx⟩:=hD k h;exact X.Yw hinf hx
   repeat'(first|intro(g:Nat)|refine d10 ?_|intro v)
   refine WL.y (y_fall2 rfl rfl (by exact knA)) qr qr ?_;repeat'(first|intro(g:Nat)|refine d10 ?_|intro v)
   refine cK (HS M S k (Bl.lp S (S.wt k)).m A.yv A.my y 1 yP (hN ▸ d) qd qd hss hok (by show 6*S.n+6*S.m+S.n<=1000;omega) hy (by show(6*S.n+6*S.m+S.n)*(1872248+22)+1872248+30<=400000000;omega)) ?_;rintro _ _ _ ⟨ez,rfl,_,hez,rfl,rfl⟩;obtain rfl:ez=0:=hez.2 ⟨rfl,hinf⟩;refine sNn ?_;repeat'(first|intro(g:Nat)|refine d10 ?_|intro v)
   refine cV (Zr) ?_;repeat'(first|intro(g:Nat)|refine d10 ?_|intro v)
   refine WC.ret ?_;exact Fin.v (Qv.t1 rfl rfl) meA rfl
  ·obtain⟨hxn,hpt⟩:xn=4*S.m∧X.Ur (Bl.lp S (S.wt k)) x:=by
    rcases hA with ⟨h,_⟩|⟨_,h,_,h2,_⟩|⟨_,h,_,_,h2,_⟩
    ·exact absurd h hk1
    ·exact⟨h,h2⟩
    ·exact⟨h,h2⟩
   subst hxn;have hk1':¬(kind:Int)=1:=qo
   have hnx:er=16->k+1<=c:=λhe=>by
    rcases hD with ⟨h,_⟩|⟨_,_,⟨yi,hyi⟩,_⟩
    ·omega
    ·have:k≠c:=λh=>by subst h;exact X.Yw hyi hpt
     have:=hkc he;omega
   rcases(show ¬er=16∨er=16∧¬(k:Int)=(c:Int) by by_cases h:er=16;exact .inr ⟨h,by have:=hnx h;omega⟩;exact .inl h) with h|⟨h,hkc2⟩
   all_goals
    repeat'(first|intro(g:Nat)|refine d10 ?_|intro v)
    refine WC.keep (g:=g10) (t:=101) (cs:=acs A (kind:Int)) (by repeat(first|exact Rem.head|apply Rem.tail)) ?_;refine WC.Jd 83 8 ?_;refine WC.Xf (σ:=Value×(Nat->VM)) (λst=>[(12,st.1),(7,.int .i64 (k:Int)),(3,ptr g3),(5,ptr g5),(6,.int .i64 er)]) (λst=>[lO QD st.1 83 (2*S.m) st.2 (psh (2*S.m) x).2]) (λst=>[lM QD (2*S.m) st.2 (psh (2*S.m) x).2,ce g5 50 [.int .i64 (c:Int),yv],ce g3 26 [M.l,M.t],fSl M S,fSt M S,ge h0,isX Tryz.prog]) (λ_=>True) ?_ ?_
    ·refine WC.lp (σ:=Nat×Value×(Nat->VM)) (λst=>[(13,.int .i64 ((2*st.1:Nat):Int)),(12,st.2.1),(10,ptr g10),(7,.int .i64 (k:Int)),(3,ptr g3),(5,ptr g5),(6,.int .i64 er)]) (λst=>[lO QD st.2.1 83 st.1 st.2.2 (psh (2*S.m) x).2]) (λst=>[lM QD st.1 st.2.2 (psh (2*S.m) x).2,fF A.xv (4*S.m) A.mx x,ce g10 101 (acs A (kind:Int)),ce g5 50 [.int .i64 (c:Int),yv],ce g3 26 [M.l,M.t],fSl M S,fSt M S,ge h0,isX Tryz.prog]) (λst=>st.1<=2*S.m) (λst=>2*S.m - st.1) (0,.slice none 0 0,λ_=>(m00,m00)) (Nat.zero_le _) ?_ (hG:=.cons W.Has.Gk haA);rintro⟨j,pv,mp⟩ hj;simp only at hj ⊢;by_cases d2:j < 2*S.m
     ·have e1:((2*j:Nat):Int)+1=((2*j+1:Nat):Int):=qo;refine WC.fact (isQ (qv (A.mx (2*j))) (x (2*j))) (W.Has.q (W.Has.fm (v:=A.xv) (n:=4*S.m) (ms:=A.mx) (qf:=x) hmA) qo) ?_;refine WC.fact (isQ (qv (A.mx (2*j+1))) (x (2*j+1))) (W.Has.q (W.Has.fm (v:=A.xv) (n:=4*S.m) (ms:=A.mx) (qf:=x) hmA) qo) ?_;have e2:(((2*j:Nat):Int)+1).toNat=2*j+1:=qo;repeat'(first|intro(g:Nat)|refine d10 ?_|intro v)
      rw[e2];refine WD.fact (fV (A.mx (2*j),A.mx (2*j+1)) ((psh (2*S.m) x).2 j)) (W.Has.vof (m:=(A.mx (2*j),A.mx (2*j+1))) (a:=(psh (2*S.m) x).2 j) hmA hmA) ?_;refine WD.l rfl rfl rfl (LO.bsP1 (a:=(A.mx (2*j),A.mx (2*j+1))) rfl λv110=>?_);refine⟨(by(first|(focus(apply Or.inr;constructor;(repeat(first|exact List.Sublist.refl _|exact List.nil_sublist _|apply List.Sublist.cons_cons|apply List.Sublist.cons));(first|exact λ_ h=>h|(intro f hf;(repeat(first|exact hf|apply List.Mem.tail))));done))|(apply Or.inl;kernel_rfl))),?_⟩;refine WD.l rfl rfl rfl (LO.appPx (mm:=(A.mx (2*j),A.mx (2*j+1))) (n:=j) (ms:=mp) (xs:=(psh (2*S.m) x).2) rfl rfl meA hmA (λv'=>by repeat(first|exact Sel.head|apply Sel.tail)) qo λpv2=>?_);refine⟨.inl kr,?_⟩;repeat'(first|intro(g:Nat)|refine d10 ?_|intro v)
      exact Qq.mk (j+1,pv2,upd mp j (A.mx (2*j),A.mx (2*j+1))) (by simp only;omega) (by simp only;omega) (hE:=by simp only;rw[show((2*(j+1):Nat):Int)=((2*j:Nat):Int)+2 by omega];exact suA) (hG:=.cons (W.Has.Yg (S:=QD) (n:=j) (ms:=mp) (xs:=(psh (2*S.m) x).2) (mm:=(A.mx (2*j),A.mx (2*j+1))) hmA hmA) haA)
     ·obtain rfl:j=2*S.m:=qo;repeat'(first|intro(g:Nat)|refine d10 ?_|intro v)
      exact QZ (pv,mp) trivial
    ·rintro⟨pv,mp⟩ _;simp only;refine WC.QB (S:=QD) (n:=2*S.m) (ms:=mp) (xs:=(psh (2*S.m) x).2) (by repeat(first|exact Sel.head|apply Sel.tail)) hmA ?_;repeat'(first|intro(g:Nat)|refine d10 ?_|intro v)
     refine cK (rweights_c M S k qo (hN ▸ d)) ?_;rintro wv _ _ ⟨mw,rfl,rfl⟩;refine sNn ?_;repeat'(first|intro(g:Nat)|refine d10 ?_|intro v)
     refine cK (rbal_c M S wv pv mw (S.wt k) mp (psh (2*S.m) x).2 1 81383 170000 350000 1400000 3000000 700000 qd qd qd qd qd qd qd qo qd qo qd qo qd hss hok (HY hss k) (λj hj=>⟨hx _ qo,hx _ qo⟩)) ?_;rintro _ _ _ ⟨b,rfl,hb,rfl,rfl⟩;obtain rfl:b=true:=hb.2 (Bl.Xt.1 hpt);refine sNn ?_;repeat'(first|intro(g:Nat)|refine d10 ?_|intro v)
     exact Qq.mk (k+1) ⟨by omega,λh=>hnx qo⟩ qo
 ·obtain rfl:k=N:=qo;rcases hD with ⟨rfl,hD⟩|⟨rfl,hD1,hD⟩
  ·repeat'(first|intro(g:Nat)|refine d10 ?_|intro v)
   refine cV (hcn) ?_;repeat'(first|intro(g:Nat)|refine d10 ?_|intro v)
   refine cV (Zr) ?_;repeat'(first|intro(g:Nat)|refine d10 ?_|intro v)
   refine WC.ret ?_;exact Fin.v (Qv.t1 rfl rfl) meA rfl
  ·exact absurd (hkc rfl) qo
end R
end Q
end K
end
section
open Go.ChangeShapes Go.WideShapes Go.ChangeAt Go.RowKit
open W
theorem Tryz.Vf:Tryz.prog.underlying 3=some (.int .i64):=by kernel_rfl
theorem Tryz.sl22:Tryz.prog.underlying 22=some (.slice 3):=by kernel_rfl
theorem Tryz.Z8:Tryz.prog.underlying 4=some .bool:=by kernel_rfl
theorem Tryz.one3:Tryz.prog.cellsOf 3=1:=by kernel_rfl
theorem balancePrograms_lifted (os:Os) (started:os.Started) (H:Type) (enc:TypeId×Value->H) :
  ReturnsInLeavingWide {} Tryz.checked os 10 .any (Rows.balanceProgramsSpec.pre6 enc Tryz.prog Tryz.f10 Rows.balanceProgramsRow.domain false) (Rows.balanceProgramsSpec.post enc Tryz.prog Tryz.f10 false true false false):=by
 refine returnsInLeavingWide_of_change_sized (C:=Tryz.checked) Tryz.own started Tryz.func10
  (ChangeSpec.witness6 (enc:=enc) (C:=Tryz.checked) false ⟨#[],#[.slice none 0 0],[]⟩ 8 kr kr kr kr) ?_
 intro V1 base args ds gs before hval0 hW hcnd hwt _;have hval:∀ (j:Nat) t v,Tryz.f10.params[j]?=some t->args[j]?=some v->Value.okWide Tryz.prog V1 .any base t v:=hval0;have hW':=hW;obtain⟨p,q,hA0,hV,rfl,hfz,hnd⟩:=hW;have hA:DataW.TrodAll enc Tryz.prog V1 0 (λ_=>true) true Tryz.f10.params.toList args.toList ds p:=hA0;rw[Tryz.params10] at hA hval;obtain⟨args⟩:=args;obtain⟨v0,a1,d0,e1,p0,q1,rfl,rfl,rfl,h0,hA⟩:=trodAll_cons hA;obtain⟨rfl,rfl,rfl⟩:=trodAll_nil hA;obtain⟨rfl,rfl⟩:=trodVars_none hV;obtain⟨l0,hl0,f0,g0⟩:=U8 Tryz.sl22 Tryz.Vf Tryz.one3 (hval 0 22 v0 rfl rfl) h0;simp only[List.append_nil] at hW'
 have hfacts:∀ g∈[sI v0 l0],g.p ⟨Xc Tryz.prog,λk=>V1.heap[k]?⟩:=λg hg=>by
  simp only[List.mem_cons,List.not_mem_nil,or_false] at hg;subst hg;exact f0
 obtain⟨M,last,o,w',t',r1,r2,r3,r4⟩:=ZR kr (K.Q.R.progLaw_c v0 l0 hl0) hfacts;refine⟨M,last,o,w',t',r1,r2,r3,r4.mono λv hh2=>?_⟩;obtain⟨rfl,hr,hE⟩:=hh2
 ·refine(Vs hW' (λ_ _ _=>trodAll_mk1 (shut_bool Tryz.Z8 _)) (λsp hsp=>?_) (λ_=>rfl) hr hE (ok_one kr rfl (okWide_bool_mk Tryz.Z8 _)));have:=(Q8.cons g0 Q8.nil) w' sp hE (by simpa using hsp);simp only[List.append_nil] at this;show DataW.TrodAll enc Tryz.prog w' 0 sp true Tryz.f10.params.toList _ _ _;rw[Tryz.params10];exact this
theorem balancePrograms_holds:Rows.BalanceProgramsSaid:=
 OpenClaim.holds_of_wide_leaving 10 Tryz.f10 rfl rfl rfl rfl rfl rfl rfl ⟨rfl,rfl,rfl,rfl,rfl⟩ rfl rfl rfl rfl rfl kr Tryz.func10 kr
  (of_decide_eq_true kr) (by unfold Func.isWrapper;first|(rw[if_pos (by decide +kernel)];kernel_rfl)|(rw[if_neg (by decide +kernel)];exact⟨rfl,rfl⟩))
  (λos started H enc _=>balancePrograms_lifted os started H enc)
#print axioms balancePrograms_holds
end
end Go.Proofs.YtcpaopfdiahnnaaGreat
