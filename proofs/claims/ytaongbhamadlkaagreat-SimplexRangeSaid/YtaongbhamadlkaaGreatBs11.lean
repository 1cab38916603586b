/- Lemmas for the proof of a law: Contracts of simplex's right and Check. Conditions: none. -/
import Derived.Test.YtaongbhamadlkaaGreatBs10
import Derived.Test.YtaongbhamadlkaaGreatBs2
import Derived.Shelf.SlGeneric
import Derived.Shelf.SortM.Plain
import Derived.Shelf.SortM.SortNone
import Derived.Ground.SlgmProg
import Derived.Shelf.Slices.CompactI
import Derived.Shelf.SlicesE.DeleteFunc
import Derived.RangeFuncBox
import Derived.OwnWalkIn
import Derived.TacticsInMore
import Derived.LoopNIn
import Derived.LoopIn
import Derived.Sort.Grow
set_option linter.unusedVariables false
set_option linter.unusedSimpArgs false
set_option linter.unusedSectionVars false
namespace Go.Proofs.YtaongbhamadlkaaGreat
open W Go.RowKit
def rightP (p:X.Lp) (kind:Int) (xn yn:Nat) (x y:Nat→Rat) (z:Rat):Bool:=
 if kind=0 then sumsOk p yn y p.g && holdP p xn x false && decide (sumsV p y=z) && decide ((X.sm p.v fun k=>p.g k*x k)=z)
 else if kind=1 then sumsOk p yn y (fun _=>0) && decide (xn=0) && decide (sumsV p y < 0) && decide (z=0)
 else if kind=2 then holdP p xn x false && holdP p yn y true && decide (0 < X.sm p.v fun k=>p.g k*y k) && decide (z=0)
 else false
section
variable {P:Program} {e:Env} {bx:List Ow} {F:List Fct} {ty:TypeId} {M:Am} {xn yn:Nat} {x y:Nat→Rat} {z:Rat}
theorem W.Has.ax (h:Has F (fA M xn yn x y z)):Has F (fF M.xv xn M.mx x):=fun p hp=>(h p hp).1
theorem W.Has.ay (h:Has F (fA M xn yn x y z)):Has F (fF M.yv yn M.my y):=fun p hp=>(h p hp).2.1
theorem W.Has.az (h:Has F (fA M xn yn x y z)):Has F (isQ (qv M.mz) z):=fun p hp=>(h p hp).2.2
end
theorem WD.freezeF {hs:List Nat} {b0:List Ow} {F0:List Fct} {r:Plan} {el n':Nat} {bx bx':List Ow} {L:List Oper} {Q2:Env→List Ow→List Fct→Prop} {F:List Fct} {P:Program} {e:Env} (v:Value) (n:Nat) (ms:Nat→QM) (q:Nat→Rat) (hs':Sel bx (.slice v el 4 (qcells n ms)) (.slice (.slice none 0 0) el 4 []) bx') (hm:Has F (mF n ms q)) (h:WD P n' L hs b0 F0 r e bx' (fF v n ms q::F) Q2):WD P n' L hs b0 F0 r e bx F Q2:=fun fr w0 listed a w fuel Q' h1 h2 h3 h4 h5 h6 hk hr ho hf=>h fr w0 listed a w fuel Q' h1 h2 h3 h4 h5 h6 hk hr (okF ho hs' hm) hf
theorem LO.freezeF {el:Nat} {bx bx':List Ow} {F:List Fct} {P:Program} {e:Env} {op:Op} {ty:TypeId} {K:Value→List Ow→List Fct→Prop} (v:Value) (n:Nat) (ms:Nat→QM) (q:Nat→Rat) (hs':Sel bx (.slice v el 4 (qcells n ms)) (.slice (.slice none 0 0) el 4 []) bx') (hm:Has F (mF n ms q)) (h:LO P op ty e bx' (fF v n ms q::F) K):LO P op ty e bx F K:=fun n' fr a w o next Q' h1 h2 h3 h4 h5=>h n' fr a w o next Q' h1 h2 h3 (okF h4 hs' hm) h5
theorem holdP_len {p:X.Lp} {xn:Nat} {x:Nat→Rat} {op:Bool} (h:holdP p xn x op=true):xn=p.v:=by
 unfold holdP at h
 simp only[Bool.and_eq_true,decide_eq_true_eq] at h
 exact h.1
namespace Z
attribute [local irreducible] WC WL WD YO LO LoopEnd W.Fin Scalar SliceT FieldAt Row ArrT AllocT KnS Has W.One SrcE IntT
theorem d63Cr {G G':Prop} (h:G') (s:Bx G'→G:=by
 intro h
 first|(apply WC.draw (id:=4) [0,1,2,3,4,6,7,8,9,10,12,13,14,15,16,17,19,20,22,23] (.held 0 (.held 1 (.held 2 (.held 3 (.held 4 (.loud 5 (.held 6 (.held 7 (.held 8 (.held 9 (.held 10 (.loud 11 (.held 12 (.held 13 (.held 14 (.held 15 (.held 16 (.held 17 (.held 19 (.held 20 (.loud 18 (.loud 21 (.held 22 (.held 23 (.done))))))))))))))))))))))))) mixed (by kernel_rfl))|(apply WC.draw (id:=6) [0,1,2,3,4,7,8,9,12] (.held 0 (.held 1 (.held 2 (.held 3 (.held 4 (.more 5 (.more 6 (.held 7 (.held 8 (.held 9 (.loud 10 (.loud 11 (.held 12 (.done))))))) (.loud 10 (.loud 6 (.held 7 (.held 8 (.held 9 (.loud 11 (.held 12 (.done))))))))) (.loud 10 (.loud 5 (.loud 6 (.held 7 (.held 8 (.held 9 (.loud 11 (.held 12 (.done))))))))))))))) mixed (by kernel_rfl))|fail
 exact Bx.h h):G:=s ⟨h⟩
section
variable (M:Pm) (p:X.Lp) (N:Am) (K xn yn:Nat) (x y:Nat→Rat) (z:Rat)
theorem sums_t {yv gw:Value} {my mg:Nat→QM} {gf:Nat→Rat} (h:FnB Tryz.prog 129 [pgv M p.v,yv,gw] [] [fP M p,fF yv yn my y,fF gw p.v mg gf] (IsSums p yn y gf)) (hs:sumsOk p yn y gf=true) :
  FnB Tryz.prog 129 [pgv M p.v,yv,gw] [] [fP M p,fF yv yn my y,fF gw p.v mg gf] (fun v B G=>∃ m,v=.tuple #[qv m,.bool true]∧B=[]∧G=[isQ (qv m) (sumsV p y)]):=by
 unfold IsSums at h
 rw[hs] at h
 simpa using h
theorem sums_f {yv gw:Value} {my mg:Nat→QM} {gf:Nat→Rat} (h:FnB Tryz.prog 129 [pgv M p.v,yv,gw] [] [fP M p,fF yv yn my y,fF gw p.v mg gf] (IsSums p yn y gf)) (hs:sumsOk p yn y gf=false) :
  FnB Tryz.prog 129 [pgv M p.v,yv,gw] [] [fP M p,fF yv yn my y,fF gw p.v mg gf] (fun v B G=>∃ m,v=.tuple #[qv m,.bool false]∧B=[]∧G=[isQ (qv m) 0]):=by
 unfold IsSums at h
 rw[hs] at h
 simpa using h
set_option maxHeartbeats 8000000 in
set_option maxRecDepth 60000 in
theorem right_c (kind:Int) (hdv:Dok p.v K) (hdm:Dok p.m K) (hv:p.v≤1000) (hm:p.m≤1000) (hK:0 < K) (ha:∀ r,r < p.m→∀ k,k < p.v→Sq K (p.a r k)) (hb:∀ r,r < p.m→Sq K (p.b r)) (hg:∀ k,k < p.v→Sq K (p.g k))
  (hx:∀ k,k < xn→Sq K (x k)) (hy:∀ k,k < yn→Sq K (y k)):FnB Tryz.prog 63 [pgv M p.v,agv N kind] [] [fP M p,fA N xn yn x y z] (IsV (.bool (rightP p kind xn yn x y z))):=by
 refine fn_of [(0,(pgv M p.v)),(1,(agv N kind))] 102 Tryz.func63 rfl Tryz.ntmps63 (by kernel_rfl) rfl suA fun h0=>?_
 refine WC.fact (fF N.xv xn N.mx x) (W.Has.ax (M:=N) (xn:=xn) (yn:=yn) (x:=x) (y:=y) (z:=z) hmA) ?_
 refine WC.fact (fF N.yv yn N.my y) (W.Has.ay (M:=N) (xn:=xn) (yn:=yn) (x:=x) (y:=y) (z:=z) hmA) ?_
 refine WC.fact (isQ (qv N.mz) z) (W.Has.az (M:=N) (xn:=xn) (yn:=yn) (x:=x) (y:=y) (z:=z) hmA) ?_
 refine WC.fact (fF M.gv p.v M.mg p.g) (W.Has.pg (M:=M) (m:=p.m) (gn:=p.v) (ln:=fun _=>p.v) (a:=p.a) (b:=p.b) (g:=p.g) hmA) ?_
 by_cases k0:kind=0
 ·subst k0
  have e:rightP p 0 xn yn x y z=(sumsOk p yn y p.g && holdP p xn x false && decide (sumsV p y=z) && decide ((X.sm p.v fun k=>p.g k*x k)=z)):=rfl
  rw[e]
  have hS:=sums_c M p K yn N.yv M.gv N.my M.mg y p.g hdm hv hm ha hb hy
  cases hs:sumsOk p yn y p.g with
  |false=>
   repeat'(first|refine gM ?_|(refine gI ?_;intro g)|(refine gU ?_;intro v)|refine gN ?_ ?_|refine d63Cr ?_|fail)
   refine WL.callK (sums_f M p yn y hS hs) ?_
   rintro _ _ _ ⟨mb,rfl,rfl,rfl⟩
   simp only[List.nil_append,List.cons_append]
   repeat'(first|refine gM ?_|(refine gI ?_;intro g)|(refine gU ?_;intro v)|refine gN ?_ ?_|refine d63Cr ?_|fail)
   refine WC.ret ?_
   exact Fin.v (ResE.t1 rfl rfl) meA (by simp)
  |true=>
   repeat'(first|refine gM ?_|(refine gI ?_;intro g)|(refine gU ?_;intro v)|refine gN ?_ ?_|refine d63Cr ?_|fail)
   refine WL.callK (sums_t M p yn y hS hs) ?_
   rintro _ _ _ ⟨mb,rfl,rfl,rfl⟩
   simp only[List.nil_append,List.cons_append]
   repeat'(first|refine gM ?_|(refine gI ?_;intro g)|(refine gU ?_;intro v)|refine gN ?_ ?_|refine d63Cr ?_|fail)
   first|refine WL.callK (holds_c M p K xn false N.xv N.mx x hdv hv ha hb hx hK) ?_|refine WD.callK (holds_c M p K xn false N.xv N.mx x hdv hv ha hb hx hK) ?_|refine LO.callM (holds_c M p K xn false N.xv N.mx x hdv hv ha hb hx hK) ?_
   rintro _ _ _ ⟨rfl,rfl,rfl⟩
   simp only[List.nil_append,List.cons_append]
   cases hh:holdP p xn x false with
   |false=>
    repeat'(first|refine gM ?_|(refine gI ?_;intro g)|(refine gU ?_;intro v)|refine gN ?_ ?_|refine d63Cr ?_|fail)
    refine WC.ret ?_
    exact Fin.v (ResE.t1 rfl rfl) meA (by simp)
   |true=>
    obtain rfl:=holdP_len hh
    repeat'(first|refine gM ?_|(refine gI ?_;intro g)|(refine gU ?_;intro v)|refine gN ?_ ?_|refine d63Cr ?_|fail)
    first|refine WL.callK (Zn.same mb N.mz (sumsV p y) z) ?_|refine WD.callK (Zn.same mb N.mz (sumsV p y) z) ?_|refine LO.callM (Zn.same mb N.mz (sumsV p y) z) ?_
    rintro _ _ _ ⟨rfl,rfl,rfl⟩
    simp only[List.nil_append,List.cons_append]
    by_cases cz:sumsV p y=z
    ·rw[decide_eq_true cz]
     repeat'(first|refine gM ?_|(refine gI ?_;intro g)|(refine gU ?_;intro v)|refine gN ?_ ?_|refine d63Cr ?_|fail)
     first|refine WL.callK (dot_c M.gv N.xv p.v K M.mg N.mx p.g x (by omega) hdv hg hx) ?_|refine WD.callK (dot_c M.gv N.xv p.v K M.mg N.mx p.g x (by omega) hdv hg hx) ?_|refine LO.callM (dot_c M.gv N.xv p.v K M.mg N.mx p.g x (by omega) hdv hg hx) ?_
     rintro _ _ _ ⟨md,rfl,rfl,rfl⟩
     simp only[List.nil_append,List.cons_append]
     repeat'(first|refine gM ?_|(refine gI ?_;intro g)|(refine gU ?_;intro v)|refine gN ?_ ?_|refine d63Cr ?_|fail)
     first|refine WL.callK (Zn.same md N.mz (X.sm p.v fun k=>p.g k*x k) z) ?_|refine WD.callK (Zn.same md N.mz (X.sm p.v fun k=>p.g k*x k) z) ?_|refine LO.callM (Zn.same md N.mz (X.sm p.v fun k=>p.g k*x k) z) ?_
     rintro _ _ _ ⟨rfl,rfl,rfl⟩
     simp only[List.nil_append,List.cons_append]
     repeat'(first|refine gM ?_|(refine gI ?_;intro g)|(refine gU ?_;intro v)|refine gN ?_ ?_|refine d63Cr ?_|fail)
     refine WC.ret ?_
     exact Fin.v (ResE.t1 rfl rfl) meA (by simp)
    ·rw[decide_eq_false cz]
     repeat'(first|refine gM ?_|(refine gI ?_;intro g)|(refine gU ?_;intro v)|refine gN ?_ ?_|refine d63Cr ?_|fail)
     refine WC.ret ?_
     exact Fin.v (ResE.t1 rfl rfl) meA (by simp)
 ·by_cases k1:kind=1
  ·subst k1
   have e:rightP p 1 xn yn x y z=(sumsOk p yn y (fun _=>0) && decide (xn=0) && decide (sumsV p y < 0) && decide (z=0)):=rfl
   rw[e]
   have hs1:=@sgn_neg (sumsV p y)
   have hs2:=@sgn_zero z
   refine WC.fact (mF p.v (fun _=>m00) (fun _=>0)) (W.Has.mF0 _) ?_
   repeat'(first|refine gA ?_|(refine goG ?_;intro g)|(refine goV ?_;intro v))
   rename_i g2
   revert g;intro g3
   refine WC.cutP (σ:=Nat×QM) (fun st=>[(7,ptr st.1),(8,.bool (sumsOk p yn y fun _=>0)),(3,ptr g3),(2,ptr g2)]) (fun st=>[Ow.cells st.1 31 (qcs st.2),Ow.cells g3 33 (acs N 1),Ow.cells g2 26 (pcs M p.v)])
    (fun st=>[isQ (qv st.2) (if sumsOk p yn y (fun _=>0)=true then sumsV p y else 0),isQ (qv N.mz) z,fF N.xv xn N.mx x,ge h0]) (fun _=>True) ?_ ?_
   ·repeat'(first|refine gM ?_|(refine gI ?_;intro g)|(refine gU ?_;intro v)|refine gN ?_ ?_|refine d63Cr ?_|fail)
    all_goals(first|refine WD.freezeF v p.v (fun _=>m00) (fun _=>0) (by repeat(first|exact Sel.head|apply Sel.tail)) hmA ?_|refine LO.freezeF v p.v (fun _=>m00) (fun _=>0) (by repeat(first|exact Sel.head|apply Sel.tail)) hmA ?_)
    all_goals(first|refine WD.callK (sums_c M p K yn N.yv v N.my (fun _=>m00) y (fun _=>0) hdm hv hm ha hb hy) ?_|refine LO.callM (sums_c M p K yn N.yv v N.my (fun _=>m00) y (fun _=>0) hdm hv hm ha hb hy) ?_)
    all_goals rintro _ _ _ ⟨mb,rfl,rfl,rfl⟩
    all_goals simp only[List.nil_append,List.cons_append]
    all_goals repeat'(first|refine gM ?_|(refine gI ?_;intro g)|(refine gU ?_;intro v)|refine gN ?_ ?_|refine d63Cr ?_|fail)
    all_goals(apply Ex2;refine⟨trivial,?_,?_,?_⟩;(focus(repeat(first|exact Sub.nil _|refine Sub.cons rfl ?_)));(focus(repeat(first|exact SubP.nil _|(apply SubP.cons;(repeat(first|exact Rem.head|apply Rem.tail))))));(focus(repeat(first|exact HasAll.nil|(apply HasAll.cons;exact hsA)))))
   rintro⟨g7,mb⟩ _
   simp only
   cases hs:sumsOk p yn y (fun _=>0) with
   |false=>
    repeat'(first|refine gM ?_|(refine gI ?_;intro g)|(refine gU ?_;intro v)|refine gN ?_ ?_|refine d63Cr ?_|fail)
    refine WC.ret ?_
    exact Fin.v (ResE.t1 rfl rfl) meA (by simp)
   |true=>
    rw[if_pos rfl]
    by_cases cx:xn=0
    ·rw[decide_eq_true cx]
     repeat'(first|refine gM ?_|(refine gI ?_;intro g)|(refine gU ?_;intro v)|refine gN ?_ ?_|refine d63Cr ?_|fail)
     first|refine WL.callV (Zn.sign mb (sumsV p y)) ?_|refine WD.callV (Zn.sign mb (sumsV p y)) ?_
     by_cases cs:sumsV p y < 0
     ·rw[decide_eq_true cs]
      have c':=hs1.2 cs
      repeat'(first|refine gM ?_|(refine gI ?_;intro g)|(refine gU ?_;intro v)|refine gN ?_ ?_|refine d63Cr ?_|fail)
      first|refine WL.callV (Zn.sign N.mz z) ?_|refine WD.callV (Zn.sign N.mz z) ?_
      by_cases cz:z=0
      ·have c'':=hs2.2 cz
       rw[decide_eq_true cz]
       repeat'(first|refine gM ?_|(refine gI ?_;intro g)|(refine gU ?_;intro v)|refine gN ?_ ?_|refine d63Cr ?_|fail)
       refine WC.ret ?_
       exact Fin.v (ResE.t1 rfl rfl) meA (by simp)
      ·have c'':¬sgn z.num=0:=fun h=>cz (hs2.1 h)
       rw[decide_eq_false cz]
       repeat'(first|refine gM ?_|(refine gI ?_;intro g)|(refine gU ?_;intro v)|refine gN ?_ ?_|refine d63Cr ?_|fail)
       refine WC.ret ?_
       exact Fin.v (ResE.t1 rfl rfl) meA (by simp)
     ·have c':¬sgn (sumsV p y).num < 0:=fun h=>cs (hs1.1 h)
      rw[decide_eq_false cs]
      repeat'(first|refine gM ?_|(refine gI ?_;intro g)|(refine gU ?_;intro v)|refine gN ?_ ?_|refine d63Cr ?_|fail)
      refine WC.ret ?_
      exact Fin.v (ResE.t1 rfl rfl) meA (by simp)
    ·rw[decide_eq_false cx]
     repeat'(first|refine gM ?_|(refine gI ?_;intro g)|(refine gU ?_;intro v)|refine gN ?_ ?_|refine d63Cr ?_|fail)
     refine WC.ret ?_
     exact Fin.v (ResE.t1 rfl rfl) meA (by simp)
  ·by_cases k2:kind=2
   ·subst k2
    have e:rightP p 2 xn yn x y z=(holdP p xn x false && holdP p yn y true && decide (0 < X.sm p.v fun k=>p.g k*y k) && decide (z=0)):=rfl
    rw[e]
    have hs1:=@sgn_pos (X.sm p.v fun k=>p.g k*y k)
    have hs2:=@sgn_zero z
    repeat'(first|refine gM ?_|(refine gI ?_;intro g)|(refine gU ?_;intro v)|refine gN ?_ ?_|refine d63Cr ?_|fail)
    first|refine WL.callV (holds_c M p K xn false N.xv N.mx x hdv hv ha hb hx hK) ?_|refine WD.callV (holds_c M p K xn false N.xv N.mx x hdv hv ha hb hx hK) ?_
    cases hh:holdP p xn x false with
    |false=>
     repeat'(first|refine gM ?_|(refine gI ?_;intro g)|(refine gU ?_;intro v)|refine gN ?_ ?_|refine d63Cr ?_|fail)
     refine WC.ret ?_
     exact Fin.v (ResE.t1 rfl rfl) meA (by simp)
    |true=>
     repeat'(first|refine gM ?_|(refine gI ?_;intro g)|(refine gU ?_;intro v)|refine gN ?_ ?_|refine d63Cr ?_|fail)
     first|refine WL.callV (holds_c M p K yn true N.yv N.my y hdv hv ha hb hy hK) ?_|refine WD.callV (holds_c M p K yn true N.yv N.my y hdv hv ha hb hy hK) ?_
     cases hh2:holdP p yn y true with
     |false=>
      repeat'(first|refine gM ?_|(refine gI ?_;intro g)|(refine gU ?_;intro v)|refine gN ?_ ?_|refine d63Cr ?_|fail)
      refine WC.ret ?_
      exact Fin.v (ResE.t1 rfl rfl) meA (by simp)
     |true=>
      obtain rfl:=holdP_len hh2
      repeat'(first|refine gM ?_|(refine gI ?_;intro g)|(refine gU ?_;intro v)|refine gN ?_ ?_|refine d63Cr ?_|fail)
      refine WL.callK (dot_c M.gv N.yv p.v K M.mg N.my p.g y (by omega) hdv hg hy) ?_
      rintro _ _ _ ⟨md,rfl,rfl,rfl⟩
      simp only[List.nil_append,List.cons_append]
      repeat'(first|refine gM ?_|(refine gI ?_;intro g)|(refine gU ?_;intro v)|refine gN ?_ ?_|refine d63Cr ?_|fail)
      first|refine WL.callV (Zn.sign md (X.sm p.v fun k=>p.g k*y k)) ?_|refine WD.callV (Zn.sign md (X.sm p.v fun k=>p.g k*y k)) ?_
      by_cases cs:0 < X.sm p.v fun k=>p.g k*y k
      ·rw[decide_eq_true cs]
       have c':=hs1.2 cs
       repeat'(first|refine gM ?_|(refine gI ?_;intro g)|(refine gU ?_;intro v)|refine gN ?_ ?_|refine d63Cr ?_|fail)
       first|refine WL.callV (Zn.sign N.mz z) ?_|refine WD.callV (Zn.sign N.mz z) ?_
       by_cases cz:z=0
       ·have c'':=hs2.2 cz
        rw[decide_eq_true cz]
        repeat'(first|refine gM ?_|(refine gI ?_;intro g)|(refine gU ?_;intro v)|refine gN ?_ ?_|refine d63Cr ?_|fail)
        refine WC.ret ?_
        exact Fin.v (ResE.t1 rfl rfl) meA (by simp)
       ·have c'':¬sgn z.num=0:=fun h=>cz (hs2.1 h)
        rw[decide_eq_false cz]
        repeat'(first|refine gM ?_|(refine gI ?_;intro g)|(refine gU ?_;intro v)|refine gN ?_ ?_|refine d63Cr ?_|fail)
        refine WC.ret ?_
        exact Fin.v (ResE.t1 rfl rfl) meA (by simp)
      ·have c':¬0 < sgn (X.sm p.v fun k=>p.g k*y k).num:=fun h=>cs (hs1.1 h)
       rw[decide_eq_false cs]
       repeat'(first|refine gM ?_|(refine gI ?_;intro g)|(refine gU ?_;intro v)|refine gN ?_ ?_|refine d63Cr ?_|fail)
       refine WC.ret ?_
       exact Fin.v (ResE.t1 rfl rfl) meA (by simp)
   ·have e:rightP p kind xn yn x y z=false:=by unfold rightP;rw[if_neg k0,if_neg k1,if_neg k2]
    rw[e]
    repeat'(first|refine gM ?_|(refine gI ?_;intro g)|(refine gU ?_;intro v)|refine gN ?_ ?_|refine d63Cr ?_|fail)
    refine WC.ret ?_
    exact Fin.v (ResE.t1 rfl rfl) meA rfl
set_option maxHeartbeats 4000000 in
set_option maxRecDepth 60000 in
theorem check_c (kind:Int) (hdv:Dok p.v K) (hdm:Dok p.m K) (hv:p.v≤48) (hm:p.m≤128) (hK:0 < K) (ha:∀ r,r < p.m→∀ k,k < p.v→Sq K (p.a r k)) (hb:∀ r,r < p.m→Sq K (p.b r)) (hg:∀ k,k < p.v→Sq K (p.g k))
  (hx:∀ k,k < xn→Sq K (x k)) (hy:∀ k,k < yn→Sq K (y k)):FnB Tryz.prog 15 [pgv M p.v,agv N kind] [] [fP M p,fA N xn yn x y z] (IsV (.int .i64 (if rightP p kind xn yn x y z=true then 0 else 22))):=by
 refine fn_of [(0,(pgv M p.v)),(1,(agv N kind))] 15 Tryz.func15 rfl Tryz.ntmps15 (by kernel_rfl) rfl suA fun h0=>?_
 refine WC.fact (fF N.xv xn N.mx x) (W.Has.ax (M:=N) (xn:=xn) (yn:=yn) (x:=x) (y:=y) (z:=z) hmA) ?_
 refine WC.fact (fF N.yv yn N.my y) (W.Has.ay (M:=N) (xn:=xn) (yn:=yn) (x:=x) (y:=y) (z:=z) hmA) ?_
 refine WC.fact (isQ (qv N.mz) z) (W.Has.az (M:=N) (xn:=xn) (yn:=yn) (x:=x) (y:=y) (z:=z) hmA) ?_
 repeat'(first|refine gA ?_|(refine goG ?_;intro g)|(refine goV ?_;intro v))
 refine WL.callV (valid_c M p.m p.v (fun _=>p.v) p.a p.b p.g p.v) ?_ (hF:=.cons (.f hmA) .nil)
 rw[vldP_ok hv hm]
 repeat'(first|refine gA ?_|(refine goG ?_;intro g)|(refine goV ?_;intro v))
 first|refine WL.callV (right_c M p N K xn yn x y z kind hdv hdm (by omega) (by omega) hK ha hb hg hx hy) ?_|refine WD.callV (right_c M p N K xn yn x y z kind hdv hdm (by omega) (by omega) hK ha hb hg hx hy) ?_
 cases hr:rightP p kind xn yn x y z with
 |false=>
  repeat'(first|refine gA ?_|(refine goG ?_;intro g)|(refine goV ?_;intro v))
  refine WC.ret ?_
  exact Fin.v (ResE.t1 rfl rfl) meA rfl
 |true=>
  repeat'(first|refine gA ?_|(refine goG ?_;intro g)|(refine goV ?_;intro v))
  refine WC.ret ?_
  exact Fin.v (ResE.t1 rfl rfl) meA rfl
end
end Z
end Go.Proofs.YtaongbhamadlkaaGreat
namespace Go.Proofs.YtaongbhamadlkaaGreat
open W Go.RowKit
attribute [local irreducible] WC WL WD YO LO LoopEnd W.Fin Scalar SliceT FieldAt Row ArrT AllocT KnS Has W.One SrcE IntT
namespace U
set_option maxRecDepth 60000
theorem t0A {G:Prop} (h:G:=by first|(((first|exact T.f26_0|exact T.f26_1|exact T.f26_2|exact T.f29_0|exact T.f29_1|exact T.f31_0|exact T.f31_1|exact T.f33_0|exact T.f33_1|exact T.f33_2|exact T.f33_3|exact T.f60_0|exact T.f60_1|exact T.f77_0|exact T.f77_1|exact T.f77_2|exact T.f88_0|exact T.f88_1|exact T.f88_2|exact T.f88_3|exact T.f88_4|exact T.f88_5|exact T.f107_0|exact T.f107_1|exact T.f107_2|exact T.f123_0|exact T.f123_1|exact T.f134_0|exact T.f134_1));done)|fail):G:=h
theorem t1A {G:Prop} (h:G:=by first|(((first|exact T.al3|exact T.al4|exact T.al22|exact T.al23|exact T.al24|exact T.al26|exact T.al29|exact T.al31|exact T.al33|exact T.al34|exact T.al48|exact T.al60|exact T.al72|exact T.al77|exact T.al84|exact T.al86|exact T.al88|exact T.al103|exact T.al107|exact T.al123|exact T.al129|exact T.al131|exact T.al134|exact T.al162));done)|fail):G:=h
theorem t2A {G:Prop} (h:G:=by first|(((first|exact T.sc3|exact T.sc4|exact T.sc22|exact T.sc23|exact T.sc24|exact T.sc34|exact T.sc48|exact T.sc72|exact T.sc84|exact T.sc86|exact T.sc103|exact T.sc129|exact T.sc131|exact T.sc162));done)|fail):G:=h
theorem t3A {G:Prop} (h:G:=by first|(((first|exact T.z3|exact T.z4|exact T.z22|exact T.z23|exact T.z24|exact T.z34|exact T.z48|exact T.z72|exact T.z84|exact T.z86|exact T.z103|exact T.z129|exact T.z131|exact T.z162));done)|fail):G:=h
theorem t4A {G:Prop} (h:G:=by first|(((first|exact T.r26|exact T.r29|exact T.r31|exact T.r33|exact T.r60|exact T.r77|exact T.r88|exact T.r107|exact T.r123|exact T.r134));done)|fail):G:=h
theorem t5A {G:Prop} (h:G:=by first|(((first|exact T.e22|exact T.e23|exact T.e24|exact T.e48|exact T.e72|exact T.e86|exact T.e129|exact T.e131));done)|fail):G:=h
theorem t6A {G:Prop} (h:G:=by first|(((first|exact T.s22|exact T.s23|exact T.s24|exact T.s48|exact T.s72|exact T.s86|exact T.s129|exact T.s131));done)|fail):G:=h
theorem t7A {G:Prop} (h:G:=by first|(((first|exact T.u3|exact T.u34|exact T.u162));done)|fail):G:=h
theorem knA {G:Prop} (h:G:=by first|(((first|(focus(apply KnS.ln;exact hmA;done))|(focus(apply KnS.oN;exact meA;done))|(focus(apply KnS.oV;exact meA;done))|(focus(apply KnS.f;exact hmA;done))|(focus(apply KnS.oI;exact meA;done))|(focus(apply KnS.o1;exact meA;done))|(focus(apply KnS.zd;exact hmA;done))|(focus(apply KnS.q1;exact hmA;done))|(focus(apply KnS.q2;exact hmA;done))|(focus(apply KnS.ff;exact hmA;done))|(focus(apply KnS.oR;exact meA;done))|(focus(apply KnS.rf;exact hmA;omega;done))|(focus(apply KnS.pl;exact hmA;done))|(focus(apply KnS.oLn;exact meA;done))|(focus(apply KnS.oL1;exact meA;done))));done)|fail):G:=h
theorem hsA {G:Prop} (h:G:=by first|(((first|exact hmA|(focus(apply hasQ_P;exact hmA;done))|(focus(apply hasQ_Q;exact hmA;done))|exact hasZ_0|exact hasQ_0|(focus(apply hasZ_d;exact hmA;done))|(focus(apply hasQ_d1;exact hmA;done))|(focus(apply hasQ_d2;exact hmA;done))|(focus(apply W.Has.q;exact hmA;omega;done))|(focus(apply W.Has.qt;exact hmA;omega;omega;done))|(focus(apply W.Has.pbq;exact hmA;omega;done))|(focus(apply W.Has.lnb;exact hmA;omega;done))|(focus(apply W.Has.lna;exact hmA;omega;done))));done)|fail):G:=h
theorem haA {G:Prop} (h:G:=by first|((repeat(first|exact HasAll.nil|(apply HasAll.cons;exact hsA)));done)|fail):G:=h
theorem ltA {G:Prop} (h:G:=by first|(((first|(focus(apply Or.inr;constructor;(repeat(first|exact List.Sublist.refl _|exact List.nil_sublist _|apply List.Sublist.cons_cons|apply List.Sublist.cons));(first|exact fun _ h=>h|(intro f hf;(repeat(first|exact hf|apply List.Mem.tail))));done))|(apply Or.inl;kernel_rfl)));done)|fail):G:=h
theorem onA {G:Prop} (h:G:=by first|(((first|exact ints_one _|(intro u hu;simp only[List.mem_cons,List.not_mem_nil,or_false] at hu;first|(subst hu;rfl)|(rcases hu with rfl|rfl|rfl <;> rfl))));done)|fail):G:=h
theorem leA {G:Prop} (h:G:=by first|(((simp only[List.length_map,List.length_append,List.length_cons,List.length_nil,List.length_replicate,List.length_take];omega));done)|fail):G:=h
theorem y_build {G:Prop} (h:G:=by first|(((first|(apply YO.buildZ;exact rfl;exact rfl;exact knA)|exact YO.buildZ0|exact YO.buildQ0|(apply YO.buildQ1;exact rfl)|(apply YO.buildQ2;exact rfl;exact rfl)|(apply YO.buildTb;exact rfl;exact rfl;exact rfl)|exact YO.buildA0|(apply YO.buildA1;exact rfl;exact rfl;exact knA)|(apply YO.buildA2;exact rfl;exact rfl;exact rfl;exact knA;exact knA)|(apply YO.buildA3;exact rfl;exact rfl;exact rfl;exact rfl;exact knA;exact knA)|exact YO.buildLn0|(apply YO.buildLn1;exact rfl;exact knA)|(apply YO.buildLn2;exact rfl;exact rfl;exact knA)|(apply YO.buildPg0;exact rfl)|(apply YO.buildPg01;exact rfl;exact rfl;exact knA)|(apply YO.buildPg02;exact rfl;exact rfl;exact knA)|(apply YO.buildPg3;exact rfl;exact rfl;exact rfl;exact knA;exact knA)|(apply YO.buildLnB;exact rfl)));done)|fail):G:=h
theorem y_indexAddr {G:Prop} (h:G:=by first|(((first|(first|(apply YO.ix1;exact t6A;exact rfl;exact rfl;exact knA;omega)|(apply YO.ix;exact t6A;exact rfl;exact rfl;exact knA;omega)|(apply YO.ix1';exact t6A;exact rfl;exact rfl;exact knA;omega;omega)|(apply YO.ix';exact t6A;exact rfl;exact rfl;exact knA;omega;omega))|(apply YO.ix1;exact t6A;exact rfl;exact rfl;exact knA;(first|omega|(simp only[List.length_set,List.length_replicate];omega)))|(apply YO.ix;exact t6A;exact rfl;exact rfl;exact knA;(first|omega|(simp only[List.length_set,List.length_replicate];omega)))|(apply YO.ix1';exact t6A;exact rfl;exact rfl;exact knA;omega;(first|omega|(simp only[List.length_set,List.length_replicate];omega)))));done)|fail):G:=h
theorem y_load {G:Prop} (h:G:=by first|(((first|(apply YO.ldLns;exact t4A;exact rfl;exact hmA;omega)|(apply YO.ldLnA;exact t2A;exact rfl;exact hmA;omega)|(apply YO.ldLnB;exact t4A;exact rfl;exact hmA;omega)|(apply YO.ldON;exact t2A;exact rfl;exact meA;omega)|(apply YO.ldOV;exact t2A;exact rfl;exact meA;omega)|(apply YO.ldW;exact t4A;exact rfl;exact meA;exact rfl)|(apply YO.ld42;exact t4A;exact rfl;exact meA)|(apply YO.ld40;exact t4A;exact rfl;exact meA)|(apply YO.ld62;exact t4A;exact rfl;exact meA)|(apply YO.ld51;exact t4A;exact rfl;exact meA)|(apply YO.ldFf;exact t4A;exact rfl;exact hmA;omega)|(apply YO.ldOR;exact t4A;exact rfl;exact meA;omega)|(apply YO.ldRf;exact t4A;exact rfl;exact hmA;omega;omega)|(apply YO.ldPl;exact t4A;exact rfl;exact hmA;omega)|(apply YO.ld73;exact t4A;exact rfl;exact meA)|(apply YO.ldWI0;exact t4A;exact rfl;exact meA;(first|omega|(simp only[List.length_set,List.length_replicate];omega)))|(apply YO.ldWF0;exact t4A;exact rfl;exact hmA;(first|omega|(simp only[List.length_set,List.length_replicate];omega)))|(apply YO.ldCI;exact t2A;exact rfl;exact meA;(first|omega|(simp only[List.length_set,List.length_replicate];omega)))|(apply YO.ldFI;exact t2A;exact rfl;exact hmA;(first|omega|(simp only[List.length_set,List.length_replicate];omega)))|(apply YO.ldF;exact t2A;exact rfl;exact hmA;exact rfl)|(apply YO.ldS;exact t2A;exact rfl;exact hsA;omega)|(apply YO.ldB;exact t2A;exact rfl;exact meA;exact rfl)|(apply YO.ldOI;exact t2A;exact rfl;exact meA;(first|omega|(simp only[List.length_set,List.length_replicate];omega)))));done)|fail):G:=h
theorem y_eql {G:Prop} (h:G:=by first|(((first|(first|(first|(apply YO.eql_t;exact rfl;exact rfl;omega)|(apply YO.eql_f;exact rfl;exact rfl;omega))|(apply YO.eqNil_t;exact t6A;exact rfl;exact knA;assumption)|(apply YO.eqNil_f;exact t6A;exact rfl;exact knA;assumption))|(apply YO.beq_t;exact bool_t;exact rfl;exact rfl;(first|rfl|assumption|decide))|(apply YO.beq_f;exact bool_t;exact rfl;exact rfl;(first|rfl|assumption|decide))|(apply YO.eqNz_t;exact t6A;exact rfl;exact knA;assumption)|(apply YO.eqNz_f;exact t6A;exact rfl;exact knA;assumption)));done)|fail):G:=h
theorem y_slice {G:Prop} (h:G:=by first|(((first|(first|(apply YO.slice;exact t6A;exact rfl;exact knA;exact Or.inl ⟨rfl,rfl⟩;exact Or.inr ⟨_,rfl,rfl⟩;omega;omega)|(apply YO.slice;exact t6A;exact rfl;exact knA;exact Or.inr ⟨_,rfl,rfl⟩;exact Or.inl ⟨rfl,rfl⟩;omega;omega))|(apply YO.slice3;exact t6A;exact rfl;exact knA;exact rfl;exact rfl;omega;omega)|(apply YO.slice;exact t6A;exact rfl;exact knA;exact Or.inr ⟨_,rfl,rfl⟩;exact Or.inr ⟨_,rfl,rfl⟩;omega;omega)));done)|fail):G:=h
theorem y_len {G:Prop} (h:G:=by first|(((apply YO.len;exact t6A;exact rfl;exact knA));done)|fail):G:=h
theorem y_fieldAddr {G:Prop} (h:G:=by first|(((first|(apply YO.fieldE;exact t0A;exact rfl)|(apply YO.fieldN;exact t0A;exact rfl;((try simp only[Nat.zero_add,Nat.mul_one,Nat.reduceAdd,Nat.reduceMul]);exact rfl))));done)|fail):G:=h
theorem y_conv {G:Prop} (h:G:=by first|(((first|(first|(apply YO.convU;exact t7A;exact t7A;exact rfl;omega;omega)|(apply YO.convI;exact t7A;exact t7A;exact rfl;omega;omega))|(apply YO.convN;exact t7A;exact t7A;exact rfl;omega;omega)));done)|fail):G:=h
theorem y_neq {G:Prop} (h:G:=by first|(((first|(first|(apply YO.neq_t;exact rfl;exact rfl;omega)|(apply YO.neq_f;exact rfl;exact rfl;omega))|(apply YO.bne_t;exact bool_t;exact rfl;exact rfl;(first|rfl|assumption|decide))|(apply YO.bne_f;exact bool_t;exact rfl;exact rfl;(first|rfl|assumption|decide))));done)|fail):G:=h
theorem y_makeFunc {G:Prop} (h:G:=by first|(((apply YO.makeFunc;(repeat(first|exact Evs.nil|(apply Evs.cons;exact rfl)));(repeat(first|exact Evs.nil|(apply Evs.cons;exact rfl)))));done)|fail):G:=h
theorem y_quo {G:Prop} (h:G:=by first|(((first|(apply YO.quo;exact rfl;exact rfl;omega;omega;omega)|(apply YO.uquo;exact rfl;exact rfl;omega;omega;omega)));done)|fail):G:=h
theorem y_and {G:Prop} (h:G:=by first|(((first|(apply YO.and1;exact rfl;exact rfl;omega;omega)|(apply YO.and;exact rfl;exact rfl;omega;omega;omega;omega)));done)|fail):G:=h
theorem y_mul {G:Prop} (h:G:=by first|(((first|(apply YO.mul;exact rfl;exact rfl;omega;omega)|(apply YO.umul;exact rfl;exact rfl;omega;omega)));done)|fail):G:=h
theorem y_rem {G:Prop} (h:G:=by first|(((first|(apply YO.rem;exact rfl;exact rfl;omega;omega)|(apply YO.urem;exact rfl;exact rfl;omega;omega)));done)|fail):G:=h
theorem y_add {G:Prop} (h:G:=by first|(((first|(apply YO.inc;exact rfl;exact rfl;omega)|(apply YO.add;exact rfl;exact rfl;omega;omega)));done)|fail):G:=h
theorem y_lss {G:Prop} (h:G:=by first|(((first|(apply YO.lss_t;exact rfl;exact rfl;omega)|(apply YO.lss_f;exact rfl;exact rfl;omega)));done)|fail):G:=h
theorem y_gtr {G:Prop} (h:G:=by first|(((first|(apply YO.gtr_t;exact rfl;exact rfl;omega)|(apply YO.gtr_f;exact rfl;exact rfl;omega)));done)|fail):G:=h
theorem y_geq {G:Prop} (h:G:=by first|(((first|(apply YO.geq_t;exact rfl;exact rfl;omega)|(apply YO.geq_f;exact rfl;exact rfl;omega)));done)|fail):G:=h
theorem y_leq {G:Prop} (h:G:=by first|(((first|(apply YO.leq_t;exact rfl;exact rfl;omega)|(apply YO.leq_f;exact rfl;exact rfl;omega)));done)|fail):G:=h
theorem y_shl {G:Prop} (h:G:=by first|(((apply YO.shl';exact rfl;exact rfl;omega;omega;(first|omega|decide);(first|omega|decide)));done)|fail):G:=h
theorem y_uneg {G:Prop} (h:G:=by first|(((first|(apply YO.neg;exact rfl;omega;omega)|(apply YO.uneg;exact rfl;omega;omega)));done)|fail):G:=h
theorem y_pick {G:Prop} (h:G:=by first|(((first|(apply YO.pick_t;exact rfl;exact rfl)|(apply YO.pick_f;exact rfl;exact rfl)));done)|fail):G:=h
theorem y_unot {G:Prop} (h:G:=by first|(((first|(apply YO.not_t;exact rfl)|(apply YO.not_f;exact rfl)));done)|fail):G:=h
theorem y_or {G:Prop} (h:G:=by first|(((apply YO.or;exact rfl;exact rfl;omega;omega;omega;omega));done)|fail):G:=h
theorem go {G G':Prop} (h:G') (s:Bx G'→G:=by
 intro h
 (first
  |apply WL.nil
  |(apply WL.skg;exact rfl;exact rfl)
  |(apply WL.skg0;exact rfl)
  |(apply WL.k_move;(apply YO.move;exact rfl);exact rfl;exact rfl)
  |(apply WL.k_assign;(apply YO.assign;exact rfl);exact rfl;exact rfl)
  |(apply WL.k_lss;exact y_lss;exact rfl;exact rfl)
  |(apply WL.k_add;exact y_add;exact rfl;exact rfl)
  |(apply WL.k_len;exact y_len;exact rfl;exact rfl)
  |(apply WL.k_indexAddr;exact y_indexAddr;exact rfl;exact rfl)
  |(apply WL.k_load;exact y_load;exact rfl;exact rfl)
  |(apply WL.k_pick;exact y_pick;exact rfl;exact rfl)
  |(apply WL.k_fieldAddr;exact y_fieldAddr;exact rfl;exact rfl)
  |(apply WL.k_eql;exact y_eql;exact rfl;exact rfl)
  |(apply WL.k_neq;exact y_neq;exact rfl;exact rfl)
  |(apply WL.k_nil;(apply YO.nil;exact rfl);exact rfl;exact rfl)
  |(apply WL.k_extract;(apply YO.extract;exact rfl;exact rfl);exact rfl;exact rfl)
  |(apply WL.k_gtr;exact y_gtr;exact rfl;exact rfl)
  |(apply WL.k_geq;exact y_geq;exact rfl;exact rfl)
  |(apply WL.k_leq;exact y_leq;exact rfl;exact rfl)
  |(apply WL.k_sub;(apply YO.sub;exact rfl;exact rfl;omega;omega);exact rfl;exact rfl)
  |(apply WL.k_mul;exact y_mul;exact rfl;exact rfl)
  |(apply WL.k_rem;exact y_rem;exact rfl;exact rfl)
  |(apply WL.k_quo;exact y_quo;exact rfl;exact rfl)
  |(apply WL.k_unot;exact y_unot;exact rfl;exact rfl)
  |(apply WL.k_uneg;exact y_uneg;exact rfl;exact rfl)
  |(apply WL.k_max;(apply YO.max;exact rfl;exact rfl);exact rfl;exact rfl)
  |(apply WL.k_min;(apply YO.min;exact rfl;exact rfl);exact rfl;exact rfl)
  |(apply WL.k_makeFunc;exact y_makeFunc;exact rfl;exact rfl)
  |(apply WL.k_conv;exact y_conv;exact rfl;exact rfl)
  |(apply WL.k_shl;exact y_shl;exact rfl;exact rfl)
  |(apply WL.k_shr;(apply YO.shr';exact rfl;exact rfl;omega;omega);exact rfl;exact rfl)
  |(apply WL.k_and;exact y_and;exact rfl;exact rfl)
  |(apply WL.k_or;exact y_or;exact rfl;exact rfl)
  |(apply WL.k_andNot;(apply YO.anot;exact rfl;exact rfl);exact rfl;exact rfl)
  |(apply WL.k_slice;exact y_slice;exact rfl;exact rfl)
  |(apply WL.k_build;exact y_build;exact rfl;exact rfl)
  |apply WC.seq
  |apply WC.region
  |apply WC.block
  |(apply WC.cond_t;exact rfl)
  |(apply WC.cond_f;exact rfl)
  |apply WC.exit
  |apply WC.skip
  |apply WC.label
  |(apply WL.kl_store;rotate_left;exact rfl;(first|(apply LO.storeOI;exact rfl;exact rfl;exact t3A;exact seA;(first|omega|(simp only[List.length_set];omega)))|(apply LO.storeQ;exact rfl;exact rfl;exact t4A;exact hmA;exact seA;omega)|(apply LO.storeI;exact rfl;exact rfl;exact t3A;exact seA;(first|omega|(simp only[List.length_set,List.length_replicate];omega)))|(apply LO.storeWI;exact rfl;exact rfl;exact seA;exact t4A;(first|omega|(simp only[List.length_set,List.length_replicate];omega));(first|(simp only[List.length_map,List.length_set,List.length_replicate,ints];omega)|rfl))|(apply LO.store1;exact rfl;exact rfl;exact t3A;(first|exact One.lit rfl rfl|(apply One.sl;exact knA));exact seA;(first|(simp only[List.length_cons,List.length_nil];omega)|(simp;omega));(first|(simp only[List.set_cons_succ,List.set_cons_zero];exact rfl)|exact rfl))|(apply LO.storeO1;exact rfl;exact rfl;exact t3A;(first|exact One.lit rfl rfl|(apply One.sl;exact knA));exact seA;(first|(simp only[List.length_cons,List.length_nil];omega)|(simp;omega));(first|(simp only[List.set_cons_succ,List.set_cons_zero];exact rfl)|exact rfl))|(apply LO.storeL;exact rfl;exact rfl;exact seA;exact t4A;exact rfl;exact rfl;(repeat(first|exact OneL.nil|(apply OneL.cons;(first|exact One.lit rfl rfl|(apply One.sl;exact knA)))))))))
 repeat(first
  |apply WL.nil
  |(apply WL.skg;exact rfl;exact rfl)
  |(apply WL.skg0;exact rfl)
  |(apply WL.k_move;(apply YO.move;exact rfl);exact rfl;exact rfl)
  |(apply WL.k_assign;(apply YO.assign;exact rfl);exact rfl;exact rfl)
  |(apply WL.k_lss;exact y_lss;exact rfl;exact rfl)
  |(apply WL.k_add;exact y_add;exact rfl;exact rfl)
  |(apply WL.k_len;exact y_len;exact rfl;exact rfl)
  |(apply WL.k_indexAddr;exact y_indexAddr;exact rfl;exact rfl)
  |(apply WL.k_load;exact y_load;exact rfl;exact rfl)
  |(apply WL.k_pick;exact y_pick;exact rfl;exact rfl)
  |(apply WL.k_fieldAddr;exact y_fieldAddr;exact rfl;exact rfl)
  |(apply WL.k_eql;exact y_eql;exact rfl;exact rfl)
  |(apply WL.k_neq;exact y_neq;exact rfl;exact rfl)
  |(apply WL.k_nil;(apply YO.nil;exact rfl);exact rfl;exact rfl)
  |(apply WL.k_extract;(apply YO.extract;exact rfl;exact rfl);exact rfl;exact rfl)
  |(apply WL.k_gtr;exact y_gtr;exact rfl;exact rfl)
  |(apply WL.k_geq;exact y_geq;exact rfl;exact rfl)
  |(apply WL.k_leq;exact y_leq;exact rfl;exact rfl)
  |(apply WL.k_sub;(apply YO.sub;exact rfl;exact rfl;omega;omega);exact rfl;exact rfl)
  |(apply WL.k_mul;exact y_mul;exact rfl;exact rfl)
  |(apply WL.k_rem;exact y_rem;exact rfl;exact rfl)
  |(apply WL.k_quo;exact y_quo;exact rfl;exact rfl)
  |(apply WL.k_unot;exact y_unot;exact rfl;exact rfl)
  |(apply WL.k_uneg;exact y_uneg;exact rfl;exact rfl)
  |(apply WL.k_max;(apply YO.max;exact rfl;exact rfl);exact rfl;exact rfl)
  |(apply WL.k_min;(apply YO.min;exact rfl;exact rfl);exact rfl;exact rfl)
  |(apply WL.k_makeFunc;exact y_makeFunc;exact rfl;exact rfl)
  |(apply WL.k_conv;exact y_conv;exact rfl;exact rfl)
  |(apply WL.k_shl;exact y_shl;exact rfl;exact rfl)
  |(apply WL.k_shr;(apply YO.shr';exact rfl;exact rfl;omega;omega);exact rfl;exact rfl)
  |(apply WL.k_and;exact y_and;exact rfl;exact rfl)
  |(apply WL.k_or;exact y_or;exact rfl;exact rfl)
  |(apply WL.k_andNot;(apply YO.anot;exact rfl;exact rfl);exact rfl;exact rfl)
  |(apply WL.k_slice;exact y_slice;exact rfl;exact rfl)
  |(apply WL.k_build;exact y_build;exact rfl;exact rfl)
  |apply WC.seq
  |apply WC.region
  |apply WC.block
  |(apply WC.cond_t;exact rfl)
  |(apply WC.cond_f;exact rfl)
  |apply WC.exit
  |apply WC.skip
  |apply WC.label
  |(apply WL.kl_store;rotate_left;exact rfl;(first|(apply LO.storeOI;exact rfl;exact rfl;exact t3A;exact seA;(first|omega|(simp only[List.length_set];omega)))|(apply LO.storeQ;exact rfl;exact rfl;exact t4A;exact hmA;exact seA;omega)|(apply LO.storeI;exact rfl;exact rfl;exact t3A;exact seA;(first|omega|(simp only[List.length_set,List.length_replicate];omega)))|(apply LO.storeWI;exact rfl;exact rfl;exact seA;exact t4A;(first|omega|(simp only[List.length_set,List.length_replicate];omega));(first|(simp only[List.length_map,List.length_set,List.length_replicate,ints];omega)|rfl))|(apply LO.store1;exact rfl;exact rfl;exact t3A;(first|exact One.lit rfl rfl|(apply One.sl;exact knA));exact seA;(first|(simp only[List.length_cons,List.length_nil];omega)|(simp;omega));(first|(simp only[List.set_cons_succ,List.set_cons_zero];exact rfl)|exact rfl))|(apply LO.storeO1;exact rfl;exact rfl;exact t3A;(first|exact One.lit rfl rfl|(apply One.sl;exact knA));exact seA;(first|(simp only[List.length_cons,List.length_nil];omega)|(simp;omega));(first|(simp only[List.set_cons_succ,List.set_cons_zero];exact rfl)|exact rfl))|(apply LO.storeL;exact rfl;exact rfl;exact seA;exact t4A;exact rfl;exact rfl;(repeat(first|exact OneL.nil|(apply OneL.cons;(first|exact One.lit rfl rfl|(apply One.sl;exact knA)))))))))
 exact Bx.h h):G:=s ⟨h⟩
theorem goD {G G':Prop} (h:G') (s:Bx G'→G:=by
 intro h
 (first
  |apply WD.nil
  |(apply WD.skg;exact rfl;exact rfl;exact rfl)
  |(apply WD.skgl;exact rfl;exact rfl;exact rfl)
  |(apply WD.skgl0;exact rfl;exact rfl)
  |(apply WD.k_move;exact rfl;(apply YO.move;exact rfl);exact rfl;exact rfl)
  |(apply WD.k_assign;exact rfl;(apply YO.assign;exact rfl);exact rfl;exact rfl)
  |(apply WD.k_lss;exact rfl;exact y_lss;exact rfl;exact rfl)
  |(apply WD.k_add;exact rfl;exact y_add;exact rfl;exact rfl)
  |(apply WD.k_len;exact rfl;exact y_len;exact rfl;exact rfl)
  |(apply WD.k_indexAddr;exact rfl;exact y_indexAddr;exact rfl;exact rfl)
  |(apply WD.k_load;exact rfl;exact y_load;exact rfl;exact rfl)
  |(apply WD.k_pick;exact rfl;exact y_pick;exact rfl;exact rfl)
  |(apply WD.k_fieldAddr;exact rfl;exact y_fieldAddr;exact rfl;exact rfl)
  |(apply WD.k_eql;exact rfl;exact y_eql;exact rfl;exact rfl)
  |(apply WD.k_neq;exact rfl;exact y_neq;exact rfl;exact rfl)
  |(apply WD.k_nil;exact rfl;(apply YO.nil;exact rfl);exact rfl;exact rfl)
  |(apply WD.k_extract;exact rfl;(apply YO.extract;exact rfl;exact rfl);exact rfl;exact rfl)
  |(apply WD.k_gtr;exact rfl;exact y_gtr;exact rfl;exact rfl)
  |(apply WD.k_geq;exact rfl;exact y_geq;exact rfl;exact rfl)
  |(apply WD.k_leq;exact rfl;exact y_leq;exact rfl;exact rfl)
  |(apply WD.k_sub;exact rfl;(apply YO.sub;exact rfl;exact rfl;omega;omega);exact rfl;exact rfl)
  |(apply WD.k_mul;exact rfl;exact y_mul;exact rfl;exact rfl)
  |(apply WD.k_rem;exact rfl;exact y_rem;exact rfl;exact rfl)
  |(apply WD.k_quo;exact rfl;exact y_quo;exact rfl;exact rfl)
  |(apply WD.k_unot;exact rfl;exact y_unot;exact rfl;exact rfl)
  |(apply WD.k_uneg;exact rfl;exact y_uneg;exact rfl;exact rfl)
  |(apply WD.k_max;exact rfl;(apply YO.max;exact rfl;exact rfl);exact rfl;exact rfl)
  |(apply WD.k_min;exact rfl;(apply YO.min;exact rfl;exact rfl);exact rfl;exact rfl)
  |(apply WD.k_makeFunc;exact rfl;exact y_makeFunc;exact rfl;exact rfl)
  |(apply WD.k_conv;exact rfl;exact y_conv;exact rfl;exact rfl)
  |(apply WD.k_shl;exact rfl;exact y_shl;exact rfl;exact rfl)
  |(apply WD.k_shr;exact rfl;(apply YO.shr';exact rfl;exact rfl;omega;omega);exact rfl;exact rfl)
  |(apply WD.k_and;exact rfl;exact y_and;exact rfl;exact rfl)
  |(apply WD.k_or;exact rfl;exact y_or;exact rfl;exact rfl)
  |(apply WD.k_andNot;exact rfl;(apply YO.anot;exact rfl;exact rfl);exact rfl;exact rfl)
  |(apply WD.k_slice;exact rfl;exact y_slice;exact rfl;exact rfl)
  |(apply WD.k_build;exact rfl;exact y_build;exact rfl;exact rfl)
  |(apply WD.kl_store;exact rfl;rotate_left;exact rfl;(first|(apply LO.storeOI;exact rfl;exact rfl;exact t3A;exact seA;(first|omega|(simp only[List.length_set];omega)))|(apply LO.storeQ;exact rfl;exact rfl;exact t4A;exact hmA;exact seA;omega)|(apply LO.storeI;exact rfl;exact rfl;exact t3A;exact seA;(first|omega|(simp only[List.length_set,List.length_replicate];omega)))|(apply LO.storeWI;exact rfl;exact rfl;exact seA;exact t4A;(first|omega|(simp only[List.length_set,List.length_replicate];omega));(first|(simp only[List.length_map,List.length_set,List.length_replicate,ints];omega)|rfl))|(apply LO.store1;exact rfl;exact rfl;exact t3A;(first|exact One.lit rfl rfl|(apply One.sl;exact knA));exact seA;(first|(simp only[List.length_cons,List.length_nil];omega)|(simp;omega));(first|(simp only[List.set_cons_succ,List.set_cons_zero];exact rfl)|exact rfl))|(apply LO.storeO1;exact rfl;exact rfl;exact t3A;(first|exact One.lit rfl rfl|(apply One.sl;exact knA));exact seA;(first|(simp only[List.length_cons,List.length_nil];omega)|(simp;omega));(first|(simp only[List.set_cons_succ,List.set_cons_zero];exact rfl)|exact rfl))|(apply LO.storeL;exact rfl;exact rfl;exact seA;exact t4A;exact rfl;exact rfl;(repeat(first|exact OneL.nil|(apply OneL.cons;(first|exact One.lit rfl rfl|(apply One.sl;exact knA)))))));constructor;exact ltA))
 repeat(first
  |apply WD.nil
  |(apply WD.skg;exact rfl;exact rfl;exact rfl)
  |(apply WD.skgl;exact rfl;exact rfl;exact rfl)
  |(apply WD.skgl0;exact rfl;exact rfl)
  |(apply WD.k_move;exact rfl;(apply YO.move;exact rfl);exact rfl;exact rfl)
  |(apply WD.k_assign;exact rfl;(apply YO.assign;exact rfl);exact rfl;exact rfl)
  |(apply WD.k_lss;exact rfl;exact y_lss;exact rfl;exact rfl)
  |(apply WD.k_add;exact rfl;exact y_add;exact rfl;exact rfl)
  |(apply WD.k_len;exact rfl;exact y_len;exact rfl;exact rfl)
  |(apply WD.k_indexAddr;exact rfl;exact y_indexAddr;exact rfl;exact rfl)
  |(apply WD.k_load;exact rfl;exact y_load;exact rfl;exact rfl)
  |(apply WD.k_pick;exact rfl;exact y_pick;exact rfl;exact rfl)
  |(apply WD.k_fieldAddr;exact rfl;exact y_fieldAddr;exact rfl;exact rfl)
  |(apply WD.k_eql;exact rfl;exact y_eql;exact rfl;exact rfl)
  |(apply WD.k_neq;exact rfl;exact y_neq;exact rfl;exact rfl)
  |(apply WD.k_nil;exact rfl;(apply YO.nil;exact rfl);exact rfl;exact rfl)
  |(apply WD.k_extract;exact rfl;(apply YO.extract;exact rfl;exact rfl);exact rfl;exact rfl)
  |(apply WD.k_gtr;exact rfl;exact y_gtr;exact rfl;exact rfl)
  |(apply WD.k_geq;exact rfl;exact y_geq;exact rfl;exact rfl)
  |(apply WD.k_leq;exact rfl;exact y_leq;exact rfl;exact rfl)
  |(apply WD.k_sub;exact rfl;(apply YO.sub;exact rfl;exact rfl;omega;omega);exact rfl;exact rfl)
  |(apply WD.k_mul;exact rfl;exact y_mul;exact rfl;exact rfl)
  |(apply WD.k_rem;exact rfl;exact y_rem;exact rfl;exact rfl)
  |(apply WD.k_quo;exact rfl;exact y_quo;exact rfl;exact rfl)
  |(apply WD.k_unot;exact rfl;exact y_unot;exact rfl;exact rfl)
  |(apply WD.k_uneg;exact rfl;exact y_uneg;exact rfl;exact rfl)
  |(apply WD.k_max;exact rfl;(apply YO.max;exact rfl;exact rfl);exact rfl;exact rfl)
  |(apply WD.k_min;exact rfl;(apply YO.min;exact rfl;exact rfl);exact rfl;exact rfl)
  |(apply WD.k_makeFunc;exact rfl;exact y_makeFunc;exact rfl;exact rfl)
  |(apply WD.k_conv;exact rfl;exact y_conv;exact rfl;exact rfl)
  |(apply WD.k_shl;exact rfl;exact y_shl;exact rfl;exact rfl)
  |(apply WD.k_shr;exact rfl;(apply YO.shr';exact rfl;exact rfl;omega;omega);exact rfl;exact rfl)
  |(apply WD.k_and;exact rfl;exact y_and;exact rfl;exact rfl)
  |(apply WD.k_or;exact rfl;exact y_or;exact rfl;exact rfl)
  |(apply WD.k_andNot;exact rfl;(apply YO.anot;exact rfl;exact rfl);exact rfl;exact rfl)
  |(apply WD.k_slice;exact rfl;exact y_slice;exact rfl;exact rfl)
  |(apply WD.k_build;exact rfl;exact y_build;exact rfl;exact rfl)
  |(apply WD.kl_store;exact rfl;rotate_left;exact rfl;(first|(apply LO.storeOI;exact rfl;exact rfl;exact t3A;exact seA;(first|omega|(simp only[List.length_set];omega)))|(apply LO.storeQ;exact rfl;exact rfl;exact t4A;exact hmA;exact seA;omega)|(apply LO.storeI;exact rfl;exact rfl;exact t3A;exact seA;(first|omega|(simp only[List.length_set,List.length_replicate];omega)))|(apply LO.storeWI;exact rfl;exact rfl;exact seA;exact t4A;(first|omega|(simp only[List.length_set,List.length_replicate];omega));(first|(simp only[List.length_map,List.length_set,List.length_replicate,ints];omega)|rfl))|(apply LO.store1;exact rfl;exact rfl;exact t3A;(first|exact One.lit rfl rfl|(apply One.sl;exact knA));exact seA;(first|(simp only[List.length_cons,List.length_nil];omega)|(simp;omega));(first|(simp only[List.set_cons_succ,List.set_cons_zero];exact rfl)|exact rfl))|(apply LO.storeO1;exact rfl;exact rfl;exact t3A;(first|exact One.lit rfl rfl|(apply One.sl;exact knA));exact seA;(first|(simp only[List.length_cons,List.length_nil];omega)|(simp;omega));(first|(simp only[List.set_cons_succ,List.set_cons_zero];exact rfl)|exact rfl))|(apply LO.storeL;exact rfl;exact rfl;exact seA;exact t4A;exact rfl;exact rfl;(repeat(first|exact OneL.nil|(apply OneL.cons;(first|exact One.lit rfl rfl|(apply One.sl;exact knA)))))));constructor;exact ltA))
 exact Bx.h h):G:=s ⟨h⟩
theorem goG {G G':Prop} (h:G') (s:Bx G'→G:=by
 intro h
 (first
  |(apply WL.kl_alloc;rotate_left;exact rfl;exact rfl;apply LO.alloc';(first|exact t1A))
  |(apply WL.kl_box;rotate_left;exact rfl;exact rfl;(first|(apply LO.boxA;exact rfl)|(apply LO.box1;exact rfl;(first|exact One.lit rfl rfl|(apply One.sl;exact knA))))))
 exact Bx.h h):G:=s ⟨h⟩
theorem goV {G G':Prop} (h:G') (s:Bx G'→G:=by
 intro h
 (first
  |(apply WL.kl_ms;rotate_left;exact rfl;exact rfl;(apply LO.makeI;exact rfl;exact rfl;(repeat(first|(with_reducible apply NatI.add)|(with_reducible exact NatI.one)|exact NatI.cast _));omega))
  |(apply WL.kl_ms;rotate_left;exact rfl;exact rfl;(apply LO.makeR;exact rfl;exact rfl;(repeat(first|(with_reducible apply NatI.add)|(with_reducible exact NatI.one)|exact NatI.cast _));omega))
  |(apply WL.kl_ms;rotate_left;exact rfl;exact rfl;(apply LO.makeLn;exact rfl;exact rfl;(repeat(first|(with_reducible apply NatI.add)|(with_reducible exact NatI.one)|exact NatI.cast _));omega))
  |(apply WL.kl_bs;rotate_left;exact rfl;exact rfl;(apply LO.bsR10;exact rfl))
  |(apply WL.kl_bs;rotate_left;exact rfl;exact rfl;(apply LO.bsR0))
  |(apply WL.kl_bs;rotate_left;exact rfl;exact rfl;(apply LO.bsR1;exact rfl))
  |(apply WL.kl_bs;rotate_left;exact rfl;exact rfl;(apply LO.bsV1;exact rfl;exact knA))
  |(apply WL.kl_bs;rotate_left;exact rfl;exact rfl;(apply LO.bsLn0))
  |(apply WL.kl_bs;rotate_left;exact rfl;exact rfl;(apply LO.bsLn1;exact rfl;exact hmA))
  |(apply WL.kl_bs;rotate_left;exact rfl;exact rfl;(apply LO.bsR2;exact rfl;exact rfl))
  |(apply WL.kl_bs;rotate_left;exact rfl;exact rfl;(apply LO.bsLn3;exact rfl;exact rfl;exact rfl;exact hmA;exact hmA;exact hmA))
  |(apply WL.kl_app;rotate_left;exact rfl;exact rfl;(apply LO.appR1;exact rfl;exact rfl;exact meA;exact hmA;(intro _;exact seA);omega))
  |(apply WL.kl_app;rotate_left;exact rfl;exact rfl;(apply LO.appFf;exact rfl;exact rfl;exact hmA;(intro _;exact seA);omega))
  |(apply WL.kl_app;rotate_left;exact rfl;exact rfl;(apply LO.appVV;exact rfl;exact rfl;exact meA;(apply One.sl;exact knA);(intro _;exact seA);omega))
  |(apply WL.kl_app;rotate_left;exact rfl;exact rfl;(apply LO.appNN;exact rfl;exact rfl;exact meA;(intro _;exact seA);omega))
  |(apply WL.kl_app;rotate_left;exact rfl;exact rfl;(apply LO.appLn1;exact rfl;exact rfl;exact meA;exact hmA;exact hmA;(intro _;exact seA);omega))
  |(apply WL.kl_app;rotate_left;exact rfl;exact rfl;(apply LO.appLnf;exact rfl;exact rfl;exact hmA;(intro _;exact seA);omega;omega))
  |(apply WL.kl_app;rotate_left;exact rfl;exact rfl;(apply LO.appFg;exact rfl;exact rfl;exact hmA;(intro _;exact seA);omega;omega))
  |(apply WL.kl_app;rotate_left;exact rfl;exact rfl;(apply LO.appLnf0;exact rfl;exact rfl;exact hmA;(intro _;exact seA);omega))
  |(apply WL.kl_bs;rotate_left;exact rfl;exact rfl;apply LO.bs1;exact t6A;(repeat(first|exact EvP.nil|(apply EvP.cons;exact rfl)));(intro _;kernel_rfl);exact rfl;omega)
  |(apply WL.kl_app;rotate_left;exact rfl;exact rfl;apply LO.app;exact t5A;exact rfl;exact rfl;(first|(focus(apply SrcE.ints;exact hmA;done))|(focus(apply SrcE.own1;exact meA;done))|(focus(apply SrcE.one;exact meA;exact rfl;decide;done)));(intro v;exact seA);exact onA;exact leA;exact leA))
 exact Bx.h h):G:=s ⟨h⟩
theorem goDG {G G':Prop} (h:G') (s:Bx G'→G:=by
 intro h
 (first
  |(apply WD.kl_alloc;exact rfl;rotate_left;exact rfl;exact rfl;apply LO.alloc';(first|exact t1A);apply allAnd;(intro _;exact ltA))
  |(apply WD.kl_box;exact rfl;rotate_left;exact rfl;exact rfl;(first|(apply LO.boxA;exact rfl)|(apply LO.box1;exact rfl;(first|exact One.lit rfl rfl|(apply One.sl;exact knA))));apply allAnd;(intro _;exact ltA)))
 exact Bx.h h):G:=s ⟨h⟩
theorem goDV {G G':Prop} (h:G') (s:Bx G'→G:=by
 intro h
 (first
  |(apply WD.kl_ms;exact rfl;rotate_left;exact rfl;exact rfl;(apply LO.makeI;exact rfl;exact rfl;(repeat(first|(with_reducible apply NatI.add)|(with_reducible exact NatI.one)|exact NatI.cast _));omega);apply allAnd;(intro _;exact ltA))
  |(apply WD.kl_ms;exact rfl;rotate_left;exact rfl;exact rfl;(apply LO.makeR;exact rfl;exact rfl;(repeat(first|(with_reducible apply NatI.add)|(with_reducible exact NatI.one)|exact NatI.cast _));omega);apply allAnd;(intro _;exact ltA))
  |(apply WD.kl_ms;exact rfl;rotate_left;exact rfl;exact rfl;(apply LO.makeLn;exact rfl;exact rfl;(repeat(first|(with_reducible apply NatI.add)|(with_reducible exact NatI.one)|exact NatI.cast _));omega);apply allAnd;(intro _;exact ltA))
  |(apply WD.kl_bs;exact rfl;rotate_left;exact rfl;exact rfl;(apply LO.bsR10;exact rfl);apply allAnd;(intro _;exact ltA))
  |(apply WD.kl_bs;exact rfl;rotate_left;exact rfl;exact rfl;(apply LO.bsR0);apply allAnd;(intro _;exact ltA))
  |(apply WD.kl_bs;exact rfl;rotate_left;exact rfl;exact rfl;(apply LO.bsR1;exact rfl);apply allAnd;(intro _;exact ltA))
  |(apply WD.kl_bs;exact rfl;rotate_left;exact rfl;exact rfl;(apply LO.bsV1;exact rfl;exact knA);apply allAnd;(intro _;exact ltA))
  |(apply WD.kl_bs;exact rfl;rotate_left;exact rfl;exact rfl;(apply LO.bsLn0);apply allAnd;(intro _;exact ltA))
  |(apply WD.kl_bs;exact rfl;rotate_left;exact rfl;exact rfl;(apply LO.bsLn1;exact rfl;exact hmA);apply allAnd;(intro _;exact ltA))
  |(apply WD.kl_bs;exact rfl;rotate_left;exact rfl;exact rfl;(apply LO.bsR2;exact rfl;exact rfl);apply allAnd;(intro _;exact ltA))
  |(apply WD.kl_bs;exact rfl;rotate_left;exact rfl;exact rfl;(apply LO.bsLn3;exact rfl;exact rfl;exact rfl;exact hmA;exact hmA;exact hmA);apply allAnd;(intro _;exact ltA))
  |(apply WD.kl_app;exact rfl;rotate_left;exact rfl;exact rfl;(apply LO.appR1;exact rfl;exact rfl;exact meA;exact hmA;(intro _;exact seA);omega);apply allAnd;(intro _;exact ltA))
  |(apply WD.kl_app;exact rfl;rotate_left;exact rfl;exact rfl;(apply LO.appFf;exact rfl;exact rfl;exact hmA;(intro _;exact seA);omega);apply allAnd;(intro _;exact ltA))
  |(apply WD.kl_app;exact rfl;rotate_left;exact rfl;exact rfl;(apply LO.appVV;exact rfl;exact rfl;exact meA;(apply One.sl;exact knA);(intro _;exact seA);omega);apply allAnd;(intro _;exact ltA))
  |(apply WD.kl_app;exact rfl;rotate_left;exact rfl;exact rfl;(apply LO.appNN;exact rfl;exact rfl;exact meA;(intro _;exact seA);omega);apply allAnd;(intro _;exact ltA))
  |(apply WD.kl_app;exact rfl;rotate_left;exact rfl;exact rfl;(apply LO.appLn1;exact rfl;exact rfl;exact meA;exact hmA;exact hmA;(intro _;exact seA);omega);apply allAnd;(intro _;exact ltA))
  |(apply WD.kl_app;exact rfl;rotate_left;exact rfl;exact rfl;(apply LO.appLnf;exact rfl;exact rfl;exact hmA;(intro _;exact seA);omega;omega);apply allAnd;(intro _;exact ltA))
  |(apply WD.kl_app;exact rfl;rotate_left;exact rfl;exact rfl;(apply LO.appFg;exact rfl;exact rfl;exact hmA;(intro _;exact seA);omega;omega);apply allAnd;(intro _;exact ltA))
  |(apply WD.kl_app;exact rfl;rotate_left;exact rfl;exact rfl;(apply LO.appLnf0;exact rfl;exact rfl;exact hmA;(intro _;exact seA);omega);apply allAnd;(intro _;exact ltA))
  |(apply WD.kl_bs;exact rfl;rotate_left;exact rfl;exact rfl;apply LO.bs1;exact t6A;(repeat(first|exact EvP.nil|(apply EvP.cons;exact rfl)));(intro _;kernel_rfl);exact rfl;omega;apply allAnd;(intro _;exact ltA))
  |(apply WD.kl_app;exact rfl;rotate_left;exact rfl;exact rfl;apply LO.app;exact t5A;exact rfl;exact rfl;(first|(focus(apply SrcE.ints;exact hmA;done))|(focus(apply SrcE.own1;exact meA;done))|(focus(apply SrcE.one;exact meA;exact rfl;decide;done)));(intro v;exact seA);exact onA;exact leA;exact leA;apply allAnd;(intro _;exact ltA)))
 exact Bx.h h):G:=s ⟨h⟩
theorem goLG {G G':Prop} (h:G') (s:Bx G'→G:=by
 intro h
 (first
  |(apply LO.alloc';(first|exact t1A);apply allAnd;(intro _;exact ltA))
  |((first|(apply LO.boxA;exact rfl)|(apply LO.box1;exact rfl;(first|exact One.lit rfl rfl|(apply One.sl;exact knA))));apply allAnd;(intro _;exact ltA)))
 exact Bx.h h):G:=s ⟨h⟩
theorem goLV {G G':Prop} (h:G') (s:Bx G'→G:=by
 intro h
 (first
  |(apply LO.bs1;exact t6A;(repeat(first|exact EvP.nil|(apply EvP.cons;exact rfl)));(intro _;kernel_rfl);exact rfl;omega;apply allAnd;(intro _;exact ltA))
  |(apply LO.app;exact t5A;exact rfl;exact rfl;(first|(focus(apply SrcE.ints;exact hmA;done))|(focus(apply SrcE.own1;exact meA;done))|(focus(apply SrcE.one;exact meA;exact rfl;decide;done)));(intro v;exact seA);exact onA;exact leA;exact leA;apply allAnd;(intro _;exact ltA))
  |((apply LO.makeI;exact rfl;exact rfl;(repeat(first|(with_reducible apply NatI.add)|(with_reducible exact NatI.one)|exact NatI.cast _));omega);apply allAnd;(intro _;exact ltA))
  |((apply LO.makeR;exact rfl;exact rfl;(repeat(first|(with_reducible apply NatI.add)|(with_reducible exact NatI.one)|exact NatI.cast _));omega);apply allAnd;(intro _;exact ltA))
  |((apply LO.makeLn;exact rfl;exact rfl;(repeat(first|(with_reducible apply NatI.add)|(with_reducible exact NatI.one)|exact NatI.cast _));omega);apply allAnd;(intro _;exact ltA))
  |((apply LO.bsR10;exact rfl);apply allAnd;(intro _;exact ltA))
  |((apply LO.bsR0);apply allAnd;(intro _;exact ltA))
  |((apply LO.bsR1;exact rfl);apply allAnd;(intro _;exact ltA))
  |((apply LO.bsV1;exact rfl;exact knA);apply allAnd;(intro _;exact ltA))
  |((apply LO.bsLn0);apply allAnd;(intro _;exact ltA))
  |((apply LO.bsLn1;exact rfl;exact hmA);apply allAnd;(intro _;exact ltA))
  |((apply LO.bsR2;exact rfl;exact rfl);apply allAnd;(intro _;exact ltA))
  |((apply LO.bsLn3;exact rfl;exact rfl;exact rfl;exact hmA;exact hmA;exact hmA);apply allAnd;(intro _;exact ltA))
  |((apply LO.appR1;exact rfl;exact rfl;exact meA;exact hmA;(intro _;exact seA);omega);apply allAnd;(intro _;exact ltA))
  |((apply LO.appFf;exact rfl;exact rfl;exact hmA;(intro _;exact seA);omega);apply allAnd;(intro _;exact ltA))
  |((apply LO.appVV;exact rfl;exact rfl;exact meA;(apply One.sl;exact knA);(intro _;exact seA);omega);apply allAnd;(intro _;exact ltA))
  |((apply LO.appNN;exact rfl;exact rfl;exact meA;(intro _;exact seA);omega);apply allAnd;(intro _;exact ltA))
  |((apply LO.appLn1;exact rfl;exact rfl;exact meA;exact hmA;exact hmA;(intro _;exact seA);omega);apply allAnd;(intro _;exact ltA))
  |((apply LO.appLnf;exact rfl;exact rfl;exact hmA;(intro _;exact seA);omega;omega);apply allAnd;(intro _;exact ltA))
  |((apply LO.appFg;exact rfl;exact rfl;exact hmA;(intro _;exact seA);omega;omega);apply allAnd;(intro _;exact ltA))
  |((apply LO.appLnf0;exact rfl;exact rfl;exact hmA;(intro _;exact seA);omega);apply allAnd;(intro _;exact ltA)))
 exact Bx.h h):G:=s ⟨h⟩
theorem goLS {G G':Prop} (h:G') (s:Bx G'→G:=by
 intro h
 (first
  |((first|(apply LO.storeOI;exact rfl;exact rfl;exact t3A;exact seA;(first|omega|(simp only[List.length_set];omega)))|(apply LO.storeQ;exact rfl;exact rfl;exact t4A;exact hmA;exact seA;omega)|(apply LO.storeI;exact rfl;exact rfl;exact t3A;exact seA;(first|omega|(simp only[List.length_set,List.length_replicate];omega)))|(apply LO.storeWI;exact rfl;exact rfl;exact seA;exact t4A;(first|omega|(simp only[List.length_set,List.length_replicate];omega));(first|(simp only[List.length_map,List.length_set,List.length_replicate,ints];omega)|rfl))|(apply LO.store1;exact rfl;exact rfl;exact t3A;(first|exact One.lit rfl rfl|(apply One.sl;exact knA));exact seA;(first|(simp only[List.length_cons,List.length_nil];omega)|(simp;omega));(first|(simp only[List.set_cons_succ,List.set_cons_zero];exact rfl)|exact rfl))|(apply LO.storeO1;exact rfl;exact rfl;exact t3A;(first|exact One.lit rfl rfl|(apply One.sl;exact knA));exact seA;(first|(simp only[List.length_cons,List.length_nil];omega)|(simp;omega));(first|(simp only[List.set_cons_succ,List.set_cons_zero];exact rfl)|exact rfl))|(apply LO.storeL;exact rfl;exact rfl;exact seA;exact t4A;exact rfl;exact rfl;(repeat(first|exact OneL.nil|(apply OneL.cons;(first|exact One.lit rfl rfl|(apply One.sl;exact knA)))))));constructor;exact ltA))
 exact Bx.h h):G:=s ⟨h⟩
theorem goYT {G G':Prop} (h:G') (s:Bx G'→G:=by
 intro h
 (apply WD.yl;exact rfl;(first|(apply YO.move;exact rfl)|(apply YO.assign;exact rfl)|exact y_lss|exact y_add|exact y_len|exact y_indexAddr|exact y_load|exact y_pick|exact y_fieldAddr|exact y_eql|exact y_neq|(apply YO.nil;exact rfl)|(apply YO.extract;exact rfl;exact rfl)|exact y_gtr|exact y_geq|exact y_leq|(apply YO.sub;exact rfl;exact rfl;omega;omega)|exact y_mul|exact y_rem|exact y_quo|exact y_unot|exact y_uneg|(apply YO.max;exact rfl;exact rfl)|(apply YO.min;exact rfl;exact rfl)|exact y_makeFunc|exact y_conv|exact y_shl|(apply YO.shr';exact rfl;exact rfl;omega;omega)|exact y_and|exact y_or|(apply YO.anot;exact rfl;exact rfl)|exact y_slice);exact rfl;exact rfl)
 exact Bx.h h):G:=s ⟨h⟩
theorem goYB {G G':Prop} (h:G') (s:Bx G'→G:=by
 intro h
 (apply WD.yl;exact rfl;(first|exact y_build|exact y_slice|(apply YO.extract;exact rfl;exact rfl)|exact y_fieldAddr|exact y_indexAddr|exact y_load|fail);exact rfl;exact rfl)
 exact Bx.h h):G:=s ⟨h⟩
theorem goLY {G G':Prop} (h:G') (s:Bx G'→G:=by
 intro h
 (apply LO.ofY;(first|exact y_build|exact y_slice|(apply YO.extract;exact rfl;exact rfl)|exact y_fieldAddr|exact y_indexAddr|exact y_load|fail);constructor;exact ltA)
 exact Bx.h h):G:=s ⟨h⟩
section
variable {P:Program} {n:Nat} {L rest:List Oper} {e:Env} {bx b0:List Ow} {F F0:List Fct} {Q:Env→List Ow→List Fct→Prop} {d i:Nat} {ty:TypeId} {pos:String} {af:Array Edge} {g:Option (Nat×Bool)} {hs:List Nat} {r:Plan}
 {f:FuncId} {x:Operand} {args:List Operand} {ats:Array TypeId} {vs cs:List Value} {F':List Fct} {u:Value} {el sz:Nat}
theorem WL.callV (hf:FnB P f vs [] F' (IsV u)) (hK:WL P n L rest ((d,u)::e) bx F Q) (hx:ev e x=some (.func (.func f) #[] #[]):=by exact rfl) (hv:Evs e args vs:=by repeat(first|exact Evs.nil|(apply Evs.cons;exact rfl))) (hF:HasAllB bx F F':=by repeat(first|exact HasAllB.nil|(apply HasAllB.cons;(first|(focus(apply HasB.oI;exact meA;done))|(focus(apply HasB.c;exact meA;done))|(focus(apply HasB.f;exact hsA;done))|(focus(apply HasB.fF;exact meA;exact hmA;done))|(focus(apply HasB.rows;(repeat(first|exact List.Sublist.refl _|apply List.Sublist.cons));exact hmA;done))|(focus(apply HasB.sV;exact meA;done))|(focus(apply HasB.sN;exact meA;done))|(focus(apply HasB.fLn;exact meA;exact hmA;done))))))
  (hd:Nat.blt d n=true:=by exact rfl) (hg:gok L e g=some true:=by exact rfl):WL P n L (⟨some d,.call {callee:=.value x,args:=args.toArray,argTypes:=ats},ty,pos,af,g⟩::rest) e bx F Q:=
 WL.l hd hg (LO.callRV hx hv hf hF hK)
theorem WL.callO (hf:FnB P f vs [] F' (IsO el sz cs)) (hK:∀ v,WL P n L rest ((d,v)::e) (Ow.slice v el sz cs::bx) F Q) (hx:ev e x=some (.func (.func f) #[] #[]):=by exact rfl) (hv:Evs e args vs:=by repeat(first|exact Evs.nil|(apply Evs.cons;exact rfl))) (hF:HasAllB bx F F':=by repeat(first|exact HasAllB.nil|(apply HasAllB.cons;(first|(focus(apply HasB.oI;exact meA;done))|(focus(apply HasB.c;exact meA;done))|(focus(apply HasB.f;exact hsA;done))|(focus(apply HasB.fF;exact meA;exact hmA;done))|(focus(apply HasB.rows;(repeat(first|exact List.Sublist.refl _|apply List.Sublist.cons));exact hmA;done))|(focus(apply HasB.sV;exact meA;done))|(focus(apply HasB.sN;exact meA;done))|(focus(apply HasB.fLn;exact meA;exact hmA;done))))))
  (hd:Nat.blt d n=true:=by exact rfl) (hg:gok L e g=some true:=by exact rfl):WL P n L (⟨some d,.call {callee:=.value x,args:=args.toArray,argTypes:=ats},ty,pos,af,g⟩::rest) e bx F Q:=
 WL.l hd hg (LO.callRO hx hv hf hF hK)
theorem WD.callV (hf:FnB P f vs [] F' (IsV u)) (hK:WD P n L hs b0 F0 r ((d,u)::e) bx F Q) (hL:L[i]?=some ⟨some d,.call {callee:=.value x,args:=args.toArray,argTypes:=ats},ty,pos,af,g⟩:=by exact rfl) (hx:ev e x=some (.func (.func f) #[] #[]):=by exact rfl) (hv:Evs e args vs:=by repeat(first|exact Evs.nil|(apply Evs.cons;exact rfl))) (hF:HasAllB bx F F':=by repeat(first|exact HasAllB.nil|(apply HasAllB.cons;(first|(focus(apply HasB.oI;exact meA;done))|(focus(apply HasB.c;exact meA;done))|(focus(apply HasB.f;exact hsA;done))|(focus(apply HasB.fF;exact meA;exact hmA;done))|(focus(apply HasB.rows;(repeat(first|exact List.Sublist.refl _|apply List.Sublist.cons));exact hmA;done))|(focus(apply HasB.sV;exact meA;done))|(focus(apply HasB.sN;exact meA;done))|(focus(apply HasB.fLn;exact meA;exact hmA;done))))))
  (hd:Nat.blt d n=true:=by exact rfl) (hg:gok L e g=some true:=by exact rfl) (lt:lateB L hs i=true∨(b0.Sublist bx∧∀ f∈F0,f∈F):=by exact ltA):WD P n L hs b0 F0 (.loud i r) e bx F Q:=
 WD.l hL hd hg (LO.callRV hx hv hf hF ⟨lt,hK⟩)
theorem WD.callO (hf:FnB P f vs [] F' (IsO el sz cs)) (hK:∀ v,WD P n L hs b0 F0 r ((d,v)::e) (Ow.slice v el sz cs::bx) F Q) (hL:L[i]?=some ⟨some d,.call {callee:=.value x,args:=args.toArray,argTypes:=ats},ty,pos,af,g⟩:=by exact rfl) (hx:ev e x=some (.func (.func f) #[] #[]):=by exact rfl) (hv:Evs e args vs:=by repeat(first|exact Evs.nil|(apply Evs.cons;exact rfl))) (hF:HasAllB bx F F':=by repeat(first|exact HasAllB.nil|(apply HasAllB.cons;(first|(focus(apply HasB.oI;exact meA;done))|(focus(apply HasB.c;exact meA;done))|(focus(apply HasB.f;exact hsA;done))|(focus(apply HasB.fF;exact meA;exact hmA;done))|(focus(apply HasB.rows;(repeat(first|exact List.Sublist.refl _|apply List.Sublist.cons));exact hmA;done))|(focus(apply HasB.sV;exact meA;done))|(focus(apply HasB.sN;exact meA;done))|(focus(apply HasB.fLn;exact meA;exact hmA;done))))))
  (hd:Nat.blt d n=true:=by exact rfl) (hg:gok L e g=some true:=by exact rfl) (lt:lateB L hs i=true∨(b0.Sublist bx∧∀ f∈F0,f∈F):=by exact ltA):WD P n L hs b0 F0 (.loud i r) e bx F Q:=
 WD.l hL hd hg (LO.callRO hx hv hf hF fun v=>⟨lt.imp id fun h=>⟨h.1.trans (List.sublist_cons_self _ _),h.2⟩,hK v⟩)
end
end U
end Go.Proofs.YtaongbhamadlkaaGreat
namespace Go.Proofs.YtaongbhamadlkaaGreat
open W Go.RowKit
abbrev lv5 (a:Value) (b:QM):Value:=.agg #[a,.bool b.1,b.2.1,.bool false,b.2.2]
def IsOF (n:Nat) (q:Nat→Rat):RPost:=fun v B G=>∃ ms,B=[Ow.slice v 31 4 (qcells n ms)]∧G=[mF n ms q]
namespace U
open Z
attribute [local irreducible] WC WL WD YO LO LoopEnd W.Fin Scalar SliceT FieldAt Row ArrT AllocT KnS Has W.One SrcE IntT
theorem d58 {G G':Prop} (h:G') (s:Bx G'→G:=by
 intro h
 first|(apply WC.draw (id:=5) [0,1,2,3,4,5] (.held 0 (.held 1 (.held 2 (.held 3 (.held 4 (.held 5 (.loud 6 (.loud 7 (.loud 8 (.loud 9 (.done))))))))))) mixed (by kernel_rfl))|fail
 exact Bx.h h):G:=s ⟨h⟩
theorem d131 {G G':Prop} (h:G') (s:Bx G'→G:=by
 intro h
 first|(apply WC.draw (id:=5) [0,1,2,3,4,5,6,7,8] (.held 0 (.held 1 (.held 2 (.held 3 (.held 4 (.held 5 (.held 6 (.held 7 (.held 8 (.loud 9 (.loud 10 (.loud 11 (.loud 12 (.done)))))))))))))) mixed (by kernel_rfl))|fail
 exact Bx.h h):G:=s ⟨h⟩
set_option maxHeartbeats 4000000 in
set_option maxRecDepth 60000 in
theorem scaled_c (v:Value) (n:Nat) (ms:Nat→QM) (a:Nat→Rat) (m:QM) (f:Rat) (hn:n≤10000) (ha:∀ i,i < n→Sm (a i)) (hf:Sm f):FnB Tryz.prog 58 [v,qv m] [] [fF v n ms a,isQ (qv m) f] (IsOF n fun k=>a k*f):=by
 refine fn_of [(0,v),(1,(qv m))] 23 Tryz.func58 rfl Tryz.ntmps58 (by kernel_rfl) rfl suA fun h0=>?_
 refine WC.addNil 31 4 ?_
 repeat'(first|refine gB ?_|(refine gH ?_;intro g)|(refine gW ?_;intro v)|refine gY ?_|refine d58 ?_|fail)
 revert g;intro g3
 refine WC.lp (σ:=Nat×Value×(Nat→QM)) (fun st=>[(6,.int .i64 (st.1:Int)),(0,v),(5,st.2.1),(3,ptr g3)]) (fun st=>[Ow.cells g3 31 (qcs m),Ow.slice st.2.1 31 4 (qcells st.1 st.2.2)])
  (fun st=>[mF st.1 st.2.2 (clx (fun k=>a k*f) st.1),ge h0,fF v n ms a,isQ (qv m) f]) (fun st=>st.1≤n) (fun st=>n - st.1) (0,.slice none 0 0,fun _=>m00) (Nat.zero_le _) ?_ (hG:=.cons (W.Has.mFn _ _) (.cons hmA (.cons hmA (.cons hmA .nil))))
 rintro⟨k,sv,ms2⟩ hk
 simp only at hk ⊢
 by_cases c:k < n
 ·refine WC.fact (isQ (qv (ms k)) (a k)) (W.Has.q (W.Has.fm (v:=v) hmA) c) ?_
  repeat'(first|refine gB ?_|(refine gH ?_;intro g)|(refine gW ?_;intro v)|refine gY ?_|refine d58 ?_|fail)
  first|refine WL.callK (Zn.rmul (ms k) m (a k) f (ha k c) hf) ?_|refine WD.callK (Zn.rmul (ms k) m (a k) f (ha k c) hf) ?_|refine LO.callM (Zn.rmul (ms k) m (a k) f (ha k c) hf) ?_
  rintro _ _ _ ⟨m3,rfl,rfl,rfl⟩
  simp only[List.nil_append,List.cons_append]
  refine WD.fact (mF (k+1) (upd ms2 k m3) (clx (fun k=>a k*f) (k+1))) ((W.Has.mFapp (n:=k) (ms:=ms2) (m:=m3) (qf:=clx _ k) hmA hmA).mFsame fun j hj=>clx_up (c:=fun k=>a k*f) j) ?_
  repeat'(first|refine gB ?_|(refine gH ?_;intro g)|(refine gW ?_;intro v)|refine gY ?_|refine d58 ?_|fail)
  exact LoopEnd.mk (k+1,_,_) (by show k+1≤n;omega) (by show n - (k+1) < n - k;omega)
 ·obtain rfl:n=k:=by omega
  repeat'(first|refine gB ?_|(refine gH ?_;intro g)|(refine gW ?_;intro v)|refine gY ?_|refine d58 ?_|fail)
  refine WC.fact (mF n ms2 fun k=>a k*f) (W.Has.mFsame (qf:=clx (fun k=>a k*f) n) hmA fun j hj=>by unfold clx;rw[if_pos hj]) ?_
  refine WC.ret ?_
  exact Fin.p [_] [mF n ms2 fun k=>a k*f] (ResE.t1 rfl rfl) meA slA haA ⟨ms2,rfl,rfl⟩
set_option maxHeartbeats 4000000 in
set_option maxRecDepth 60000 in
theorem added_c (v u:Value) (n:Nat) (ms mt:Nat→QM) (a b:Nat→Rat) (hn:n≤10000) (ha:∀ i,i < n→Sm (a i)) (hb:∀ i,i < n→Sm (b i)):FnB Tryz.prog 131 [v,u] [] [fF v n ms a,fF u n mt b] (IsF n fun k=>a k+b k):=by
 refine fn_of [(0,v),(1,u)] 26 Tryz.func131 rfl Tryz.ntmps131 (by kernel_rfl) rfl suA fun h0=>?_
 refine WC.addNil 31 4 ?_
 repeat'(first|refine gB ?_|(refine gH ?_;intro g)|(refine gW ?_;intro v)|refine gY ?_|refine d131 ?_|fail)
 refine WC.lp (σ:=Nat×Value×(Nat→QM)) (fun st=>[(6,.int .i64 (st.1:Int)),(0,v),(1,u),(5,st.2.1)]) (fun st=>[Ow.slice st.2.1 31 4 (qcells st.1 st.2.2)])
  (fun st=>[mF st.1 st.2.2 (clx (fun k=>a k+b k) st.1),ge h0,fF v n ms a,fF u n mt b]) (fun st=>st.1≤n) (fun st=>n - st.1) (0,.slice none 0 0,fun _=>m00) (Nat.zero_le _) ?_ (hG:=.cons (W.Has.mFn _ _) (.cons hmA (.cons hmA (.cons hmA .nil))))
 rintro⟨k,sv,ms2⟩ hk
 simp only at hk ⊢
 by_cases c:k < n
 ·refine WC.fact (isQ (qv (ms k)) (a k)) (W.Has.q (W.Has.fm (v:=v) (ms:=ms) hmA) c) ?_
  refine WC.fact (isQ (qv (mt k)) (b k)) (W.Has.q (W.Has.fm (v:=u) (ms:=mt) hmA) c) ?_
  repeat'(first|refine gB ?_|(refine gH ?_;intro g)|(refine gW ?_;intro v)|refine gY ?_|refine d131 ?_|fail)
  first|refine WL.callK (Zn.radd (ms k) (mt k) (a k) (b k) (ha k c) (hb k c)) ?_|refine WD.callK (Zn.radd (ms k) (mt k) (a k) (b k) (ha k c) (hb k c)) ?_|refine LO.callM (Zn.radd (ms k) (mt k) (a k) (b k) (ha k c) (hb k c)) ?_
  rintro _ _ _ ⟨m3,rfl,rfl,rfl⟩
  simp only[List.nil_append,List.cons_append]
  refine WD.fact (mF (k+1) (upd ms2 k m3) (clx (fun k=>a k+b k) (k+1))) ((W.Has.mFapp (n:=k) (ms:=ms2) (m:=m3) (qf:=clx _ k) hmA hmA).mFsame fun j hj=>clx_up (c:=fun k=>a k+b k) j) ?_
  repeat'(first|refine gB ?_|(refine gH ?_;intro g)|(refine gW ?_;intro v)|refine gY ?_|refine d131 ?_|fail)
  exact LoopEnd.mk (k+1,_,_) (by show k+1≤n;omega) (by show n - (k+1) < n - k;omega)
 ·obtain rfl:n=k:=by omega
  repeat'(first|refine gB ?_|(refine gH ?_;intro g)|(refine gW ?_;intro v)|refine gY ?_|refine d131 ?_|fail)
  refine WC.freezeF sv n ms2 (fun k=>a k+b k) (by repeat(first|exact Sel.head|apply Sel.tail)) (W.Has.mFsame (qf:=clx (fun k=>a k+b k) n) hmA fun j hj=>by unfold clx;rw[if_pos hj]) ?_
  refine WC.ret ?_
  exact Fin.p [] [fF sv n ms2 fun k=>a k+b k] (ResE.t1 rfl rfl) meA (List.nil_sublist _) haA ⟨ms2,rfl,rfl⟩
end U
end Go.Proofs.YtaongbhamadlkaaGreat
namespace Go.Proofs.YtaongbhamadlkaaGreat
namespace X
def nb (n:Nat):Nat:=if n≤4 then 4 else n*n / 4
theorem nb_mono {a b:Nat} (h:a≤b):nb a≤nb b:=by
 unfold nb
 by_cases c:b≤4
 ·rw[if_pos (by omega),if_pos c];omega
 ·rw[if_neg c]
  by_cases c2:a≤4
  ·rw[if_pos c2]
   have:4*4≤b*b:=Nat.mul_le_mul (by omega) (by omega)
   omega
  ·rw[if_neg c2]
   have:a*a≤b*b:=Nat.mul_le_mul h h
   omega
def nbs (n:Nat):Nat→Nat
 |0=>n
 |k+1=>nb (nbs n k)
def kbs (K:Nat):Nat→Nat
 |0=>K
 |k+1=>4*kbs K k+1
theorem nbs_mono {a b:Nat} (h:a≤b):∀ k,nbs a k≤nbs b k
 |0=>h
 |k+1=>nb_mono (nbs_mono h k)
theorem kbs_le {K:Nat}:∀ {k j:Nat},k≤j→kbs K k≤kbs K j
 |k,0,h=>by rw[show k=0 by omega];exact Nat.le_refl _
 |k,j+1,h=>by
  by_cases c:k=j+1
  ·rw[c];exact Nat.le_refl _
  ·have:=kbs_le (K:=K) (k:=k) (j:=j) (by omega)
   rw[kbs];omega
end X
end Go.Proofs.YtaongbhamadlkaaGreat
namespace Go.Proofs.YtaongbhamadlkaaGreat
open W Go.RowKit
def LSq (K w:Nat) (L:List X.Ln):Prop:=∀ c∈L,c.1.length=w∧(∀ k,k < w→Sq K (X.co c k))∧Sq K c.2
section
variable {K w k i:Nat} {L L2:List X.Ln}
theorem getD_ln (h:i < L.length):L.getD i ([],0)∈L:=by simp[List.getD_eq_getElem?_getD,h]
theorem LSq.ca (h:LSq K w L) (hi:i < L.length) (hk:k < w):Sq K (X.ca L i k):=(h _ (getD_ln hi)).2.1 k hk
theorem LSq.cb (h:LSq K w L) (hi:i < L.length):Sq K (X.cb L i):=(h _ (getD_ln hi)).2.2
theorem LSq.len (h:LSq K w L):∀ c∈L,c.1.length=w:=fun c hc=>(h c hc).1
theorem LSq.up {K2:Nat} (h:LSq K w L) (hk:K≤K2):LSq K2 w L:=fun c hc=>⟨(h c hc).1,fun k hk'=>((h c hc).2.1 k hk').up hk,(h c hc).2.2.up hk⟩
theorem LSq.wo (h:LSq K w L) (hk:k < w):LSq (4*K+1) w (X.wo L k):=fun c hc=>by
 rcases X.wo_mem.1 hc with ⟨h1,_⟩|⟨a,ha,b,hb,_,_,rfl⟩
 ·obtain⟨e1,e2,e3⟩:=h c h1
  exact⟨e1,fun k hk=>(e2 k hk).up (by omega),e3.up (by omega)⟩
 ·obtain⟨a1,a2,a3⟩:=h a ha
  obtain⟨b1,b2,b3⟩:=h b hb
  have hl:a.1.length=b.1.length:=by rw[a1,b1]
  refine⟨by rw[X.cmb_len hl,a1],fun j hj=>?_,?_⟩
  ·rw[X.co_cmb hl]
   exact(((a2 j hj).mul (b2 k hk).neg).add ((b2 j hj).mul (a2 k hk))).up (by omega)
  ·exact((a3.mul (b2 k hk).neg).add (b3.mul (a2 k hk))).up (by omega)
theorem LSq.wos (h:LSq K w L):∀ k,k≤w→LSq (X.kbs K k) w (X.wos L k)
 |0,_=>h
 |k+1,hk=>LSq.wo (LSq.wos h k (by omega)) (by omega)
end
end Go.Proofs.YtaongbhamadlkaaGreat
namespace Go.Proofs.YtaongbhamadlkaaGreat
open W Go.RowKit
structure FMok (w n K:Nat):Prop where
 n:∀ k,k≤w→X.nbs n k≤1000
 k:2*X.kbs K w≤400000000
theorem FMok.at {w n K:Nat} (h:FMok w n K) {k:Nat} (hk:k < w):4*X.kbs K k+1≤400000000:=by
 have h1:=X.kbs_le (K:=K) (show k+1≤w by omega)
 have h2:=h.k
 rw[X.kbs] at h1
 omega
end Go.Proofs.YtaongbhamadlkaaGreat
namespace Go.Proofs.YtaongbhamadlkaaGreat
open W Go.RowKit
theorem fnV_set {m i:Nat} {rv:Nat→Value} {u:Value}:(fnV m rv).set i u=fnV m (upd rv i u):=by
 apply List.ext_getElem?
 intro j
 rw[List.getElem?_set,fnV_len]
 by_cases e:i=j
 ·subst e
  rw[if_pos rfl]
  by_cases h:i < m
  ·rw[if_pos h,fnV_get h,upd_at]
  ·rw[if_neg h];simp[fnV,h]
 ·rw[if_neg e]
  by_cases h:j < m
  ·rw[fnV_get h,fnV_get h,upd_ne (fun h=>e h.symm)]
  ·simp[fnV,h]
section
variable {P:Program} {e:Env} {bx bx':List Ow} {F:List Fct} {ty t el:TypeId} {v u:Value} {x y:Operand} {i m w:Nat} {rv:Nat→Value} {K:RPost}
theorem LO.storeOV (hx:ev e x=some (.pointer (some (eaddr v i)))) (hy:ev e y=some u) (hz:(P.info? t).map (·.size)=some 1) (hu:One bx F u) (hs:Sel bx (.slice v el 1 (fnV m rv)) (.slice v el 1 (fnV m (upd rv i u))) bx') (hi:i < m) (h:K undef bx' F):LO P (.store t x y) ty e bx F K:=
 LO.storeO1 hx hy hz hu hs (by rw[fnV_len];exact hi) fnV_set h
theorem YO.buildRT0:YO Tryz.prog (.build 107 #[]) ty e bx F (.agg #[.slice none 0 0,.slice none 0 0,.slice none 0 0]):=YO.build (parts:=[]) .nil fun w=>run_build w 107 _ _ (by kernel_rfl)
theorem W.Has.fFsame {n:Nat} {ms:Nat→QM} {q q':Nat→Rat} (h:Has F (fF v n ms q)) (he:∀ i,i < n→q i=q' i):Has F (fF v n ms q'):=fun p hf=>⟨(h p hf).1,(h.fm.mFsame he) p hf⟩
theorem W.Has.rFset {ms:Nat→Nat→QM} {tq:Nat→Nat→Rat} {mu:Nat→QM} {q:Nat→Rat} (h:Has F (rF m w rv ms tq)) (h2:Has F (fF u w mu q)):Has F (rF m w (upd rv i u) (upd ms i mu) (upd tq i q)):=fun p hf=>by
 obtain⟨h3,h4⟩:=h p hf
 refine⟨fun j hj=>?_,(W.Has.tset (F:=F) (i:=i) (fun p hf=>(h p hf).2) h2.fm) p hf⟩
 by_cases c:j=i
 ·subst c;rw[upd_at,upd_at];exact(h2 p hf).1
 ·rw[upd_ne c,upd_ne c];exact h3 j hj
theorem W.Has.rFsame {ms:Nat→Nat→QM} {tq t':Nat→Nat→Rat} (h:Has F (rF m w rv ms tq)) (he:∀ i,i < m→∀ k,k < w→tq i k=t' i k):Has F (rF m w rv ms t'):=fun p hf=>⟨(h p hf).1,(W.Has.tsame (F:=F) (fun p hf=>(h p hf).2) he) p hf⟩
end
abbrev RT (xg m:Nat) (tv cv bv:Value) (rv:Nat→Value) (b:Nat→Nat):List Ow:=[Ow.cells xg 107 [tv,cv,bv],Ow.slice tv 24 1 (fnV m rv),Ow.slice bv 3 1 (ints (fnL m b))]
def IsRT (xg m n:Nat) (tv bv:Value) (s:X.St):RPost:=fun v B G=>∃ cv rv ms mc,v=.tuple #[]∧B=RT xg m tv cv bv rv s.b∧G=[rF m (n+1) rv ms s.t,fF cv (n+1) mc s.c]
end Go.Proofs.YtaongbhamadlkaaGreat
namespace Go.Proofs.YtaongbhamadlkaaGreat
open W Go.RowKit
section
variable {P:Program} (w:World)
theorem run_appz_room (t ti ty e:TypeId) (i:TypeInfo) (z:Value) (ht:P.underlying t=some (.slice e)) (hti:P.underlying ti=some (.int .i64)) (hi:P.info? e=some i) (hz:i.zero=some z) (hsz:0 < i.size)
  (g sLen sCap:Nat) (cur:Array Value) (hg:w.heap[g]?=some (.cells cur e (0,0)))
  (m:Nat) (hm:(m:Int)≤9223372036854775807) (hmb:(m:Int)*i.bytes≤281474976710656) (news:List Value) (hzc:Builtin.zeroCells z.cells m=news.toArray) (h1:∀ u∈news,u.oneCell'=true)
  (hroom:sLen+m≤sCap) (hfit:sLen*i.size+news.length≤cur.size) :
  (Builtin.append_ #[t,ti] ty #[.slice (some ⟨g,0,none⟩) sLen sCap,.int .i64 m]).run P w =
   .ok (.slice (some ⟨g,0,none⟩) (sLen+m) sCap) (w.setRow g (cur.toList.take (sLen*i.size)++news++cur.toList.drop (sLen*i.size+news.length)).toArray):=by
 have hst:=run_storeCells_at P g (sLen*i.size) e news 0 cur w hg (by simpa using hfit) h1
 simp only[Nat.add_zero] at hst
 have hw:IntKind.i64.wrap (m:Int)=m:=wrap_i64 (by omega) hm
 have h0:¬((m:Int) < 0):=by omega
 have h48:¬(281474976710656 < (m:Int)*i.bytes):=by omega
 by_cases hm0:m=0
 ·subst hm0
  have e0:news=[]:=by
   have:=congrArg Array.size hzc
   simp[Builtin.zeroCells] at this
   exact List.eq_nil_of_length_eq_zero this.symm
  subst e0
  have hroom':sLen≤sCap:=hroom
  simp at hst
  simp[Builtin.append_,run_underlying ht,run_underlying hti,sizeOf,typeInfo,zeroValue,hi,hz,asInt,asIntOf,show IntKind.i64.wrap 0=0 from rfl,hroom',Addr.add_lit,hst]
 ·have hms:¬(m*i.size=0):=fun h=>(Nat.mul_eq_zero.1 h).elim hm0 (by omega)
  simp[Builtin.append_,run_underlying ht,run_underlying hti,sizeOf,typeInfo,zeroValue,hi,hz,asInt,asIntOf,hw,h48,hm0,show i.size≠0 by omega,hroom,Addr.add_lit,hzc,hst]
  rw[if_neg h0,if_neg hms]
theorem run_appz_grow (t ti ty e:TypeId) (i:TypeInfo) (z:Value) (ht:P.underlying t=some (.slice e)) (hti:P.underlying ti=some (.int .i64)) (hi:P.info? e=some i) (hz:i.zero=some z) (hsz:0 < i.size)
  (b:Addr) (sLen sCap:Nat) (olds:List Value) (hlo:olds.length=sLen*i.size) (holds:∀ j v,olds[j]?=some v→w.cell? (b.add j)=some v)
  (m:Nat) (hm:(m:Int)≤9223372036854775807) (hmb:(m:Int)*i.bytes≤281474976710656) (hm0:m≠0)
  (hg:sCap < sLen+m) (h63:((sLen+m:Nat):Int)≤9223372036854775807) (hfit:Builtin.nextslicecap (sLen+m) sCap*i.bytes≤281474976710656) :
  (Builtin.append_ #[t,ti] ty #[.slice (some b) sLen sCap,.int .i64 m]).run P w =
   .ok (.slice (some ⟨w.heap.size,0,none⟩) (sLen+m) (grownCap w (sLen+m) sCap e))
    (w.drew.alloc (.cells (olds.toArray++Builtin.zeroCells z.cells m++Builtin.zeroCells z.cells (grownCap w (sLen+m) sCap e - (sLen+m))) e)):=by
 have hw:IntKind.i64.wrap (m:Int)=m:=wrap_i64 (by omega) hm
 have h48:¬(281474976710656 < (m:Int)*i.bytes):=by omega
 have h0:¬((m:Int) < 0):=by omega
 have hms:¬(m*i.size=0):=fun h=>(Nat.mul_eq_zero.1 h).elim hm0 (by omega)
 have hn:¬(sLen+m≤sCap):=by omega
 have h63':¬(9223372036854775807 < ((sLen:Int)+(m:Int))):=by omega
 have h48':¬(281474976710656 < Builtin.nextslicecap (sLen+m) sCap*i.bytes):=by omega
 have hfo:=run_firstCells_some (P:=P) w.drew i.size sLen b sLen sCap olds hlo (by simpa using holds)
 simp[Builtin.append_,run_underlying ht,run_underlying hti,sizeOf,typeInfo,zeroValue,hi,hz,asInt,asIntOf,hw,h48,hm0,show i.size≠0 by omega,hn,h63',h48',Question.forced,hfo,newRow,grownCap]
 rw[if_neg h0,if_neg hms]
end
section
variable {P:Program} {e:Env} {bx bx':List Ow} {F:List Fct} {ty:TypeId}
theorem LO.appMk {t ti el sz bytes m:Nat} {z:Value} {x y:Operand} {K:RPost} {v:Value} {cs news:List Value} {bx':Value→List Ow} (ht:ElemT P t el sz z bytes) (hti:P.underlying ti=some (.int .i64)) (hx:ev e x=some v) (hy:ev e y=some (.int .i64 (m:Int)))
  (hs:∀ v',Sel bx (.slice v el sz cs) (.slice v' el sz (cs++news)) (bx' v')) (hz:Builtin.zeroCells z.cells m=news.toArray) (hc:0 < cs.length) (h1:∀ u∈news,u.oneCell'=true) (hlen:(cs.length+news.length)*bytes≤140737488355328) (hmax:cs.length+news.length≤9223372036854775807)
  (h:∀ v',K v' (bx' v') F):LO P (.call {callee:=.builtin .append,args:=#[x,y],argTypes:=#[t,ti]}) ty e bx F K:=.of fun k fr a w o hop hk ho=>by
 obtain⟨i,hi,hz0,hz1,hz2⟩:=info_parts ht.i
 have hmem:∀ v',Ow.slice v el sz cs∈bx:=fun v'=>(hs v').mem
 obtain⟨n,hown,hcn⟩:=slice_owns (ho.owns _ (hmem v))
 have hnl:news.length=m*sz:=by
  have:=congrArg Array.size hz
  rw[size_zeroCells,ht.zs] at this
  simpa using this.symm
 have hnle:n≤cs.length:=by rw[hcn];exact Nat.le_mul_of_pos_right n ht.pos
 have hmle:m≤news.length:=by rw[hnl];exact Nat.le_mul_of_pos_right m ht.pos
 have hb:(n+m)*bytes≤140737488355328:=Nat.le_trans (Nat.mul_le_mul_right bytes (Nat.add_le_add hnle hmle)) hlen
 have hmb:m*bytes≤140737488355328:=Nat.le_trans (Nat.mul_le_mul_right bytes (Nat.le_add_left m n)) hb
 have hmb2:(m:Int)*(i.bytes:Int)≤281474976710656:=by rw[hz2];omega
 have hl2:(cs++news).length=(n+m)*sz:=by rw[List.length_append,hcn,hnl,Nat.add_mul]
 have fin:∀ v' w',(Builtin.append_ #[t,ti] o.type #[v,.int .i64 m]).run P w=.ok v' w'→w'.ownsRow 0 el sz v' (n+m) (cs++news)→(w.grownBy w' v.ownBlock)→(∀ g,v'.ownBlock=some g→v.ownBlock=some g∨w.heap.size≤g)→
   ∃ v w' bx' F',((execOp a.eval o).run P w=.ok (.value v) w'∨((execOp a.eval o).run P w=.ok .skip w'∧v=undef))∧W.Rest w w'∧OK fr bx' F' w'∧K v bx' F':=fun v' w' hr how hg hnew=>by
  have hids:∀ u:Value,∀ q,(Ow.slice u el sz q).ids=(match u.ownBlock with|some g=>[g]|none=>[]):=fun u q=>by
   cases u <;> simp[Ow.ids,Value.ownBlock]
   rename_i ad _ _;cases ad <;> simp
  refine⟨v',w',bx' v',F,.inl ?_,⟨hg.os,hg.tape,hg.output⟩,ho.sel (hs v') (fun k hk1 hk2=>hg.block k hk1 ?_) (fun k hk1=>?_) ?_ (owns_slice how),h v'⟩
  ·simp[execOp,hop,resolve,hk.eval hx,hk.eval hy,invoke,builtin,hr]
  ·rw[hids] at hk2;cases hvb:v.ownBlock <;> simp_all
  ·rw[hids] at hk1 ⊢
   cases hvb:v'.ownBlock with
   |none=>rw[hvb] at hk1;simp at hk1
   |some g=>
    rw[hvb] at hk1;simp at hk1;subst hk1
    rcases hnew k hvb with h3|h3
    ·rw[h3];simp
    ·exact .inr h3
  ·rw[hids];cases v'.ownBlock <;> simp
 obtain⟨h2,⟨rfl,h3⟩|⟨g,cap,cur,rfl,_,h3,h4,h5,h6,h7⟩⟩:=id hown
 ·subst h3;rw[hcn] at hc;omega
 ·by_cases hroom:n+m≤cap
  ·have hfit:n*i.size+news.length≤cur.size:=by rw[hz1,hnl,h6,←Nat.add_mul];exact Nat.mul_le_mul_right _ hroom
   have hr:=run_appz_room (P:=P) w t ti o.type el i z ht.u hti hi hz0 (by rw[hz1];exact ht.pos) g n cap cur h3 m (by omega) hmb2 news hz h1 hroom hfit
   have hcl:cur.toList.length=cap*sz:=by simpa using h6
   rw[hz1] at hr hfit
   refine fin _ _ hr ⟨hl2,.inr ⟨g,cap,_,rfl,Nat.zero_le _,setRow_heap w g _ _ el (0,0) h3,hroom,h5,?_,?_⟩⟩ ⟨rfl,rfl,rfl,by simp[World.setRow],fun k hk hne=>setRow_other w g k _ fun e=>hne (by subst e;rfl)⟩ fun g' hg'=>.inl hg'
   ·have:n*sz+news.length≤cur.toList.length:=by simpa using hfit
    simp only[List.size_toArray,List.length_append,List.length_take,List.length_drop]
    omega
   ·rw[h7,←hl2]
    show List.take (cs++news).length (cs++news++_)=_
    exact List.take_left
  ·have hg0:cap < n+m:=by omega
   have hm0:m≠0:=fun e=>by subst e;omega
   have hr:=run_appz_grow (P:=P) w t ti o.type el i z ht.u hti hi hz0 (by rw[hz1];exact ht.pos) ⟨g,0,none⟩ n cap cs (by rw[hz1];exact h2) (hown.cells (g:=g) rfl) m (by omega) hmb2 hm0 hg0 (by omega) (growslice_fits hg0 (by rw[hz2];exact hb))
   have hge:=grownCap_ge w (n+m) cap el
   have hcm:=grownCap_le_maxLen w (n+m) cap el (by unfold maxLen;omega)
   rw[hz] at hr
   refine fin _ _ hr ⟨hl2,.inr ⟨w.heap.size,_,_,rfl,Nat.zero_le _,heap_alloc_new w.drew _,hge,hcm,?_,?_⟩⟩ ⟨rfl,rfl,rfl,by simp,fun k hk _=>Go.heap_alloc_old w.drew _ hk⟩ fun g' hg'=>by simp[Value.ownBlock] at hg';exact .inr (by omega)
   ·simp only[Array.size_append,List.size_toArray,size_zeroCells,ht.zs,h2,hnl,←Nat.add_mul]
    congr 1
    omega
   ·simp only[Array.toList_append,List.append_assoc]
    rw[←List.append_assoc,←hl2]
    exact List.take_left
theorem one_z {k:Nat}:∀ u∈qcells k (fun _=>m00),u.oneCell'=true:=fun u hu=>by
 simp only[qcells,cellsF,List.mem_map,List.mem_range] at hu
 obtain⟨j,_,rfl⟩:=hu
 unfold qcell
 have hr:=row_get (l:=qcs m00) (r:=j % 4) (n:=4) rfl (by omega)
 have h1:∀ u∈qcs m00,u.oneCell'=true:=by
  intro u hu
  simp only[qcs,m00,List.mem_cons,List.not_mem_nil,or_false] at hu
  rcases hu with rfl|rfl|rfl|rfl <;> rfl
 exact h1 _ (List.mem_of_getElem? hr)
theorem LO.appMk2 {v:Value} {x y:Operand} {n k:Nat} {ms:Nat→QM} {K:RPost} {bx2:Value→List Ow} (hx:ev e x=some v) (hy:ev e y=some (.int .i64 (2*(k:Int))))
  (hs:∀ v',Sel bx (.slice v 31 4 (qcells n ms)) (.slice v' 31 4 (qcells (n+2*k) (qcat ms n (fun _=>m00)))) (bx2 v')) (hn:0 < n) (hl:n≤1000000) (hl2:k≤1000000) (h:∀ v',K v' (bx2 v') F) :
  LO Tryz.prog (.call {callee:=.builtin .append,args:=#[x,y],argTypes:=#[24,3]}) ty e bx F K:=by
 have hm:Builtin.zeroCells (Value.agg #[.bool false,.slice none 0 0,.bool false,.slice none 0 0]).cells (2*k)=(qcells (2*k) (fun _=>m00)).toArray:=by
  rw[←made_q,Array.toArray_toList];rfl
 exact LO.appMk (m:=2*k) T.e24 (by kernel_rfl) hx (by rw[hy];rfl) (news:=qcells (2*k) (fun _=>m00)) (by rw[qcells_cat];exact hs) hm (by rw[cellsF_len];omega) one_z (by rw[cellsF_len,cellsF_len];omega) (by rw[cellsF_len,cellsF_len];omega) h
end
theorem LO.storeAz {P:Program} {e:Env} {bx bx':List Ow} {F:List Fct} {ty t tg g:Nat} {x y:Operand} {K:RPost} {k a b c1 c2 c3 c4:Value} {m:QM} {q:Rat} (hx:ev e x=some (.pointer (some ⟨g,3,none⟩))) (hy:ev e y=some (qv m)) (hr:Row P t 4) (hm:Has F (isQ (qv m) q))
  (hs:Sel bx (.cells g tg [k,a,b,c1,c2,c3,c4]) (.cells g tg [k,a,b,.bool m.1,m.2.1,.bool false,m.2.2]) bx') (h:K undef bx' F):LO P (.store t x y) ty e bx F K:=
 LO.byP (fun fr w ho=>(one_q (bx:=bx) hm).all ho) fun h1=>LO.store hx hy (vs:=qcs m) rfl hr.2 h1 hs (by show 3+4≤7;omega) rfl h
end Go.Proofs.YtaongbhamadlkaaGreat
namespace Go.Proofs.YtaongbhamadlkaaGreat
open W Go.RowKit
section
variable {P:Program} {e:Env} {bx bx':List Ow} {F:List Fct} {ty:TypeId} {K:RPost}
theorem YO.buildAk {x:Operand} {i:Int} (h1:ev e x=some (.int .i64 i)):YO Tryz.prog (.build 33 #[(0,x)]) ty e bx F (.agg #[.int .i64 i,.slice none 0 0,.slice none 0 0,.bool false,.slice none 0 0,.bool false,.slice none 0 0]):=YO.build (parts:=[(0,x)]) (.cons h1 .nil) fun w=>run_build w 33 _ _ (by kernel_rfl)
theorem LO.byA {op:Op} {M:Am} {xn yn:Nat} {x y:Nat→Rat} {z:Rat} (hA:Has F (fA M xn yn x y z)) (h:(∃ a c a' c',M.xv=.slice a xn c∧M.yv=.slice a' yn c')→LO P op ty e bx F K):LO P op ty e bx F K:=LO.byP (fun fr w ho=>by
 obtain⟨a,c,g1,_⟩:=((KnS.ff (W.Has.ax hA):KnS bx F M.xv xn) fr w ho).is
 obtain⟨a',c',g2,_⟩:=((KnS.ff (W.Has.ay hA):KnS bx F M.yv yn) fr w ho).is
 exact⟨a,c,a',c',g1,g2⟩) h
theorem LO.bsA3 {o1 o2 o3:Operand} {M1 M2 M3:Am} {k1 k2 k3:Int} {p1 q1 p2 q2 p3 q3:Nat} {x1 y1 x2 y2 x3 y3:Nat→Rat} {z1 z2 z3:Rat} (h1:ev e o1=some (agv M1 k1)) (h2:ev e o2=some (agv M2 k2)) (h3:ev e o3=some (agv M3 k3))
  (f1:Has F (fA M1 p1 q1 x1 y1 z1)) (f2:Has F (fA M2 p2 q2 x2 y2 z2)) (f3:Has F (fA M3 p3 q3 x3 y3 z3))
  (h:∀ v,K v (Ow.slice v 33 7 (acs M1 k1++acs M2 k2++acs M3 k3)::bx) F):LO Tryz.prog (.buildSlice 48 3 #[(0,o1),(1,o2),(2,o3)]) ty e bx F K:=by
 obtain⟨u1,v1,mx1,my1,mz1⟩:=M1
 obtain⟨u2,v2,mx2,my2,mz2⟩:=M2
 obtain⟨u3,v3,mx3,my3,mz3⟩:=M3
 refine LO.byA f1 ?_
 rintro⟨a1,c1,b1,d1,e1,e2⟩
 simp only at e1 e2
 subst e1 e2
 refine LO.byA f2 ?_
 rintro⟨a2,c2,b2,d2,e1,e2⟩
 simp only at e1 e2
 subst e1 e2
 refine LO.byA f3 ?_
 rintro⟨a3,c3,b3,d3,e1,e2⟩
 simp only at e1 e2
 subst e1 e2
 exact LO.buildSlice (parts:=[(0,o1),(1,o2),(2,o3)]) (us:=[.agg #[.int .i64 k1,.slice a1 p1 c1,.slice b1 q1 d1,.bool mz1.1,mz1.2.1,.bool false,mz1.2.2],.agg #[.int .i64 k2,.slice a2 p2 c2,.slice b2 q2 d2,.bool mz2.1,mz2.2.1,.bool false,mz2.2.2],.agg #[.int .i64 k3,.slice a3 p3 c3,.slice b3 q3 d3,.bool mz3.1,mz3.2.1,.bool false,mz3.2.2]]) (.cons h1 (.cons h2 (.cons h3 (.nil)))) (fun _=>by kernel_rfl) rfl (by decide) h
theorem LO.bsA6 {o1 o2 o3 o4 o5 o6:Operand} {M1 M2 M3 M4 M5 M6:Am} {k1 k2 k3 k4 k5 k6:Int} {p1 q1 p2 q2 p3 q3 p4 q4 p5 q5 p6 q6:Nat} {x1 y1 x2 y2 x3 y3 x4 y4 x5 y5 x6 y6:Nat→Rat} {z1 z2 z3 z4 z5 z6:Rat} (h1:ev e o1=some (agv M1 k1)) (h2:ev e o2=some (agv M2 k2)) (h3:ev e o3=some (agv M3 k3)) (h4:ev e o4=some (agv M4 k4)) (h5:ev e o5=some (agv M5 k5)) (h6:ev e o6=some (agv M6 k6))
  (f1:Has F (fA M1 p1 q1 x1 y1 z1)) (f2:Has F (fA M2 p2 q2 x2 y2 z2)) (f3:Has F (fA M3 p3 q3 x3 y3 z3)) (f4:Has F (fA M4 p4 q4 x4 y4 z4)) (f5:Has F (fA M5 p5 q5 x5 y5 z5)) (f6:Has F (fA M6 p6 q6 x6 y6 z6))
  (h:∀ v,K v (Ow.slice v 33 7 (acs M1 k1++acs M2 k2++acs M3 k3++acs M4 k4++acs M5 k5++acs M6 k6)::bx) F):LO Tryz.prog (.buildSlice 48 6 #[(0,o1),(1,o2),(2,o3),(3,o4),(4,o5),(5,o6)]) ty e bx F K:=by
 obtain⟨u1,v1,mx1,my1,mz1⟩:=M1
 obtain⟨u2,v2,mx2,my2,mz2⟩:=M2
 obtain⟨u3,v3,mx3,my3,mz3⟩:=M3
 obtain⟨u4,v4,mx4,my4,mz4⟩:=M4
 obtain⟨u5,v5,mx5,my5,mz5⟩:=M5
 obtain⟨u6,v6,mx6,my6,mz6⟩:=M6
 refine LO.byA f1 ?_
 rintro⟨a1,c1,b1,d1,e1,e2⟩
 simp only at e1 e2
 subst e1 e2
 refine LO.byA f2 ?_
 rintro⟨a2,c2,b2,d2,e1,e2⟩
 simp only at e1 e2
 subst e1 e2
 refine LO.byA f3 ?_
 rintro⟨a3,c3,b3,d3,e1,e2⟩
 simp only at e1 e2
 subst e1 e2
 refine LO.byA f4 ?_
 rintro⟨a4,c4,b4,d4,e1,e2⟩
 simp only at e1 e2
 subst e1 e2
 refine LO.byA f5 ?_
 rintro⟨a5,c5,b5,d5,e1,e2⟩
 simp only at e1 e2
 subst e1 e2
 refine LO.byA f6 ?_
 rintro⟨a6,c6,b6,d6,e1,e2⟩
 simp only at e1 e2
 subst e1 e2
 exact LO.buildSlice (parts:=[(0,o1),(1,o2),(2,o3),(3,o4),(4,o5),(5,o6)]) (us:=[.agg #[.int .i64 k1,.slice a1 p1 c1,.slice b1 q1 d1,.bool mz1.1,mz1.2.1,.bool false,mz1.2.2],.agg #[.int .i64 k2,.slice a2 p2 c2,.slice b2 q2 d2,.bool mz2.1,mz2.2.1,.bool false,mz2.2.2],.agg #[.int .i64 k3,.slice a3 p3 c3,.slice b3 q3 d3,.bool mz3.1,mz3.2.1,.bool false,mz3.2.2],.agg #[.int .i64 k4,.slice a4 p4 c4,.slice b4 q4 d4,.bool mz4.1,mz4.2.1,.bool false,mz4.2.2],.agg #[.int .i64 k5,.slice a5 p5 c5,.slice b5 q5 d5,.bool mz5.1,mz5.2.1,.bool false,mz5.2.2],.agg #[.int .i64 k6,.slice a6 p6 c6,.slice b6 q6 d6,.bool mz6.1,mz6.2.1,.bool false,mz6.2.2]]) (.cons h1 (.cons h2 (.cons h3 (.cons h4 (.cons h5 (.cons h6 (.nil))))))) (fun _=>by kernel_rfl) rfl (by decide) h
end
structure AR where
 M:Am
 k:Int
 xn:Nat
 yn:Nat
 x:Nat→Rat
 y:Nat→Rat
 z:Rat
def AR.f (A:AR):Fct:=fA A.M A.xn A.yn A.x A.y A.z
def acell (A:Nat→AR) (j:Nat):Value:=(acs (A (j / 7)).M (A (j / 7)).k).getD (j % 7) undef
theorem acell_at (A:Nat→AR) (k:Nat) {r:Nat} (hr:r < 7):acell A (k*7+r)=(acs (A k).M (A k).k).getD r undef:=by
 unfold acell;rw[show(k*7+r) / 7=k by omega,show(k*7+r) % 7=r by omega]
def fAs (v:Value) (n:Nat) (A:Nat→AR):Fct where
 p h:=(slC v n 7 (acell A)).p h∧∀ i,i < n→(A i).f.p h
 mono _ _ hl hp:=⟨(slC _ _ _ _).mono _ _ hl hp.1,fun i hi=>(A i).f.mono _ _ hl (hp.2 i hi)⟩
section
variable {P:Program} {n':Nat} {c:Code} {e:Env} {bx bx':List Ow} {F:List Fct} {Q:Post} {Q2:Env→List Ow→List Fct→Prop} {Lo rest:List Oper} {ty t el n i:Nat} {v:Value} {x:Operand} {A:Nat→AR} {hs2:List Nat} {b0:List Ow} {F0:List Fct} {r:Plan}
theorem W.Has.asl (h:Has F (fAs v n A)):Has F (slC v n 7 (acell A)):=fun p hf=>(h p hf).1
theorem W.Has.asf (h:Has F (fAs v n A)) (hi:i < n):Has F (fA (A i).M (A i).xn (A i).yn (A i).x (A i).y (A i).z):=fun p hf=>(h p hf).2 i hi
theorem YO.ldAs (hs:Row P t 7) (hx:ev e x=some (.pointer (some (eaddr v (i*7))))) (h:Has F (fAs v n A)) (hi:i < n):YO P (.load t x) ty e bx F (agv (A i).M (A i).k):=
 YO.ldRS (us:=acs (A i).M (A i).k) hs hx h.asl (by omega) rfl fun k hk=>by
  rw[acell_at _ _ hk]
  match k,hk with|0,_=>rfl|1,_=>rfl|2,_=>rfl|3,_=>rfl|4,_=>rfl|5,_=>rfl|6,_=>rfl
theorem okAs {fr:PH} {w:World} (ho:OK fr bx F w) {cs:List Value} (hs:Sel bx (.slice v el 7 cs) (.slice (.slice none 0 0) el 7 []) bx') (hcs:cs=cellsF (n*7) (acell A)) (hf:∀ i,i < n→Has F (fA (A i).M (A i).xn (A i).yn (A i).x (A i).y (A i).z)):OK fr bx' (fAs v n A::slC v n 7 (acell A)::F) w:=by
 subst hcs
 have h1:=ho.freeze hs (cellsF_len _ _) (by decide) (acell A) fun j hj=>cellsF_get hj
 refine⟨h1.frame,h1.apart,h1.nodup,h1.owns,fun f hf'=>?_⟩
 have hF:∀ f∈F,f.p (imm fr bx' w.heap):=fun f hf=>h1.facts f (List.mem_cons_of_mem _ hf)
 rcases List.mem_cons.1 hf' with rfl|hf'
 ·exact⟨h1.facts _ List.mem_cons_self,fun i hi=>hf i hi _ hF⟩
 ·exact h1.facts _ hf'
theorem WC.freezeAs {cs:List Value} (v:Value) (n:Nat) (A:Nat→AR) (hs:Sel bx (.slice v el 7 cs) (.slice (.slice none 0 0) el 7 []) bx') (hcs:cs=cellsF (n*7) (acell A)) (hf:∀ i,i < n→Has F (fA (A i).M (A i).xn (A i).yn (A i).x (A i).y (A i).z)) (h:WC P n' c e bx' (fAs v n A::slC v n 7 (acell A)::F) Q):WC P n' c e bx F Q:=fun fr w0 a w hk hr ho=>h fr w0 a w hk hr (okAs ho hs hcs hf)
end
def A6 (A1 A2 A3 A4 A5 A6:AR) (i:Nat):AR:=[A1,A2,A3,A4,A5,A6].getD i A1
def A3 (A1 A2 A3:AR) (i:Nat):AR:=[A1,A2,A3].getD i A1
theorem ltA6 {p:Nat→Prop} (h0:p 0) (h1:p 1) (h2:p 2) (h3:p 3) (h4:p 4) (h5:p 5):∀ i,i < 6→p i:=fun i hi=>by
 match i,hi with|0,_=>exact h0|1,_=>exact h1|2,_=>exact h2|3,_=>exact h3|4,_=>exact h4|5,_=>exact h5
theorem ltA3 {p:Nat→Prop} (h0:p 0) (h1:p 1) (h2:p 2):∀ i,i < 3→p i:=fun i hi=>by
 match i,hi with|0,_=>exact h0|1,_=>exact h1|2,_=>exact h2
end Go.Proofs.YtaongbhamadlkaaGreat
namespace Go.Proofs.YtaongbhamadlkaaGreat
open Go.RowKit Go.Sort Go.Shelf
def laySort_ren:Go.Shelf.Ren:=⟨fun|5=>83|8=>140|7=>139|19=>192|20=>193|10=>183|11=>184|12=>185|13=>186|14=>187|15=>188|16=>189|17=>190|18=>191|30=>203|31=>204|32=>205|33=>206|34=>207|35=>208|40=>213|n=>n,fun|23=>22|25=>3|3=>3|32=>156|22=>22|0=>0|44=>188|46=>162|4=>4|36=>181|35=>180|41=>185|5=>5|9=>9|53=>195|57=>199|63=>204|64=>205|n=>n,fun|n=>n⟩
theorem laySort:SlLaysM.n5 Tryz.prog laySort_ren:={
 mixed:=by kernel_rfl
 f5:=⟨Tryz.f83.name,by decide,Tryz.func83.trans (congrArg some (by kernel_rfl))⟩
 f7:=⟨Tryz.f139.name,by decide,Tryz.func139.trans (congrArg some (by kernel_rfl))⟩
 f8:=Tryz.func140.trans (congrArg some (by kernel_rfl))
 f10:=⟨Tryz.f183.name,by decide,Tryz.func183.trans (congrArg some (by kernel_rfl))⟩
 f11:=⟨Tryz.f184.name,by decide,Tryz.func184.trans (congrArg some (by kernel_rfl))⟩
 f12:=⟨Tryz.f185.name,by decide,Tryz.func185.trans (congrArg some (by kernel_rfl))⟩
 f13:=⟨Tryz.f186.name,by decide,Tryz.func186.trans (congrArg some (by kernel_rfl))⟩
 f14:=⟨Tryz.f187.name,by decide,Tryz.func187.trans (congrArg some (by kernel_rfl))⟩
 f15:=⟨Tryz.f188.name,by decide,Tryz.func188.trans (congrArg some (by kernel_rfl))⟩
 f16:=⟨Tryz.f189.name,by decide,Tryz.func189.trans (congrArg some (by kernel_rfl))⟩
 f17:=⟨Tryz.f190.name,by decide,Tryz.func190.trans (congrArg some (by kernel_rfl))⟩
 f18:=⟨Tryz.f191.name,by decide,Tryz.func191.trans (congrArg some (by kernel_rfl))⟩
 f19:=Tryz.func192.trans (congrArg some (by kernel_rfl))
 f20:=Tryz.func193.trans (congrArg some (by kernel_rfl))
 f30:=⟨Tryz.f203.name,by decide,Tryz.func203.trans (congrArg some (by kernel_rfl))⟩
 f31:=Tryz.func204.trans (congrArg some (by kernel_rfl))
 f32:=Tryz.func205.trans (congrArg some (by kernel_rfl))
 f33:=⟨Tryz.f206.name,by decide,Tryz.func206.trans (congrArg some (by kernel_rfl))⟩
 f34:=⟨Tryz.f207.name,by decide,Tryz.func207.trans (congrArg some (by kernel_rfl))⟩
 f35:=⟨Tryz.f208.name,by decide,Tryz.func208.trans (congrArg some (by kernel_rfl))⟩
 f40:=⟨Tryz.f213.name,by decide,Tryz.func213.trans (congrArg some (by kernel_rfl))⟩
 t0:=Tryz.underlying0
 a0:=Tryz.isAgg0
 z0:=Tryz.sizeOf0
 v0:=Tryz.zeroValue0
 t3:=Tryz.underlying3
 a3:=Tryz.isAgg3
 z3:=Tryz.sizeOf3
 v3:=Tryz.zeroValue3
 t4:=Tryz.underlying4
 a4:=Tryz.isAgg4
 z4:=Tryz.sizeOf4
 v4:=Tryz.zeroValue4
 t5:=Tryz.underlying5
 a5:=Tryz.isAgg5
 z5:=Tryz.sizeOf5
 v5:=Tryz.zeroValue5
 t9:=Tryz.underlying9
 a9:=Tryz.isAgg9
 z9:=Tryz.sizeOf9
 v9:=Tryz.zeroValue9
 t22:=Tryz.underlying22
 a22:=Tryz.isAgg22
 z22:=Tryz.sizeOf22
 v22:=Tryz.zeroValue22
 t23:=Tryz.underlying22
 a23:=Tryz.isAgg22
 z23:=Tryz.sizeOf22
 v23:=Tryz.zeroValue22
 t25:=Tryz.underlying3
 a25:=Tryz.isAgg3
 z25:=Tryz.sizeOf3
 v25:=Tryz.zeroValue3
 t32:=Tryz.underlying156
 a32:=Tryz.isAgg156
 z32:=Tryz.sizeOf156
 v32:=Tryz.zeroValue156
 t35:=Tryz.underlying180
 a35:=Tryz.isAgg180
 z35:=Tryz.sizeOf180
 v35:=Tryz.zeroValue180
 t36:=Tryz.underlying181
 a36:=Tryz.isAgg181
 z36:=Tryz.sizeOf181
 v36:=Tryz.zeroValue181
 t41:=Tryz.underlying185
 a41:=Tryz.isAgg185
 z41:=Tryz.sizeOf185
 v41:=Tryz.zeroValue185
 t44:=Tryz.underlying188
 a44:=Tryz.isAgg188
 z44:=Tryz.sizeOf188
 v44:=Tryz.zeroValue188
 t46:=Tryz.underlying162
 a46:=Tryz.isAgg162
 z46:=Tryz.sizeOf162
 v46:=Tryz.zeroValue162
 t53:=Tryz.underlying195
 a53:=Tryz.isAgg195
 z53:=Tryz.sizeOf195
 v53:=Tryz.zeroValue195
 t57:=Tryz.underlying199
 a57:=Tryz.isAgg199
 z57:=Tryz.sizeOf199
 v57:=Tryz.zeroValue199
 t63:=Tryz.underlying204
 a63:=Tryz.isAgg204
 z63:=Tryz.sizeOf204
 v63:=Tryz.zeroValue204
 t64:=Tryz.underlying205
 a64:=Tryz.isAgg205
 z64:=Tryz.sizeOf205
 v64:=Tryz.zeroValue205}
def layCompact_ren:Go.Shelf.Ren:=⟨fun|20=>84|n=>n,fun|22=>22|3=>3|4=>4|0=>0|n=>n,fun|n=>n⟩
theorem layCompact:Lays2.n20 Tryz.prog layCompact_ren:={
 mixed:=by kernel_rfl
 f20:=Tryz.func84.trans (congrArg some (by kernel_rfl))
 t0:=Tryz.underlying0
 a0:=Tryz.isAgg0
 z0:=Tryz.sizeOf0
 v0:=Tryz.zeroValue0
 t3:=Tryz.underlying3
 a3:=Tryz.isAgg3
 z3:=Tryz.sizeOf3
 v3:=Tryz.zeroValue3
 t4:=Tryz.underlying4
 a4:=Tryz.isAgg4
 z4:=Tryz.sizeOf4
 v4:=Tryz.zeroValue4
 t22:=Tryz.underlying22
 a22:=Tryz.isAgg22
 z22:=Tryz.sizeOf22
 v22:=Tryz.zeroValue22
 i3:=by kernel_rfl}
def layDelete_ren:Go.Shelf.Ren:=⟨fun|10=>80|6=>138|n=>n,fun|22=>22|23=>3|25=>111|3=>3|4=>4|0=>0|n=>n,fun|n=>n⟩
theorem layDelete:SlLaysH.n10 Tryz.prog layDelete_ren:={
 mixed:=by kernel_rfl
 f6:=⟨Tryz.f138.name,by decide,Tryz.func138.trans (congrArg some (by kernel_rfl))⟩
 f10:=⟨Tryz.f80.name,by decide,Tryz.func80.trans (congrArg some (by kernel_rfl))⟩
 t0:=Tryz.underlying0
 a0:=Tryz.isAgg0
 z0:=Tryz.sizeOf0
 v0:=Tryz.zeroValue0
 t3:=Tryz.underlying3
 a3:=Tryz.isAgg3
 z3:=Tryz.sizeOf3
 v3:=Tryz.zeroValue3
 t4:=Tryz.underlying4
 a4:=Tryz.isAgg4
 z4:=Tryz.sizeOf4
 v4:=Tryz.zeroValue4
 t22:=Tryz.underlying22
 a22:=Tryz.isAgg22
 z22:=Tryz.sizeOf22
 v22:=Tryz.zeroValue22
 a23:=Tryz.isAgg3
 z23:=Tryz.sizeOf3
 t25:=Tryz.underlying111
 a25:=Tryz.isAgg111
 z25:=Tryz.sizeOf111
 v25:=Tryz.zeroValue111}
end Go.Proofs.YtaongbhamadlkaaGreat
namespace Go.Proofs.YtaongbhamadlkaaGreat
open Go.RowKit Go.Sort Go.Shelf W
def srt (l:List Int):List Int:=l.mergeSort fun x y=>decide (x≤y)
theorem srt_len (l:List Int):(srt l).length=l.length:=by unfold srt;exact List.length_mergeSort l
def IsSrt (v:Value) (new:List Int):RPost:=fun u b G=>u=.tuple #[]∧b=[Ow.slice v 3 1 (ints new)]∧G=[]
theorem row_fn {f:FuncId} {rest:List Value} {l new:List Int} {v:Value} {F:List Fct} (hc:Callable Tryz.prog f) (hne:l≠[]) (hlen:new.length≤l.length)
  (h:∀ fr w g cap,v=.slice (some ⟨g,0,none⟩) l.length cap→l.length≤cap→OK fr [Ow.slice v 3 1 (ints l)] F w→Holds (Value.int .i64) w g 0 l.toArray→Calls Tryz.prog f (v::rest).toArray w fun e w'=>e=.returned (.slice (some ⟨g,0,none⟩) new.length cap)∧∃ q,w'=putRow (Value.int .i64) (Sort.ahead w q) g 0 (new++List.replicate (l.length - new.length) 0).toArray) :
  FnB Tryz.prog f (v::rest) [Ow.slice v 3 1 (ints l)] F (IsO 3 1 (ints new)):=by
 refine⟨hc,fun fr w ho=>?_⟩
 obtain⟨n,h1,⟨_,h2⟩|⟨g,cap,sp,rfl,h3,h4,h5,h6⟩⟩:=ho.owns _ (.head _)
 ·exfalso;subst h2;simp at h1;exact hne h1
 have hn:n=l.length:=by simpa using h1.symm
 subst hn
 have hH:Holds (Value.int .i64) w g 0 l.toArray:=fun j hj=>by
  have hj':j < l.length:=by simpa using hj
  constructor
  ·unfold World.cell?
   rw[h5]
   simp[hj']
   rw[List.getElem?_append_left (by simpa using hj')]
   simp[hj']
  ·unfold World.frozen?;rw[h5];simp
 refine(h fr w g cap rfl h3 ho hH).mono ?_
 rintro e w' ⟨rfl,q,rfl⟩
 have hw':(putRow (Value.int .i64) (Sort.ahead w q) g 0 (new++List.replicate (l.length - new.length) 0).toArray).heap[g]?=some (.cells (ints new++(ints (List.replicate (l.length - new.length) 0)++sp)).toArray 3 (0,0)):=by
  unfold putRow mapBlock
  show(w.heap.modify g _)[g]?=_
  rw[Array.getElem?_modify,if_pos rfl,h5]
  simp only[Option.map_some,onCells]
  congr 2
  apply Array.ext_getElem?
  intro k
  unfold putCells
  rw[Array.getElem?_mapIdx]
  simp only[List.getElem?_toArray]
  rw[←List.append_assoc]
  by_cases hk:k < l.length
  ·rw[List.getElem?_append_left (by simpa using hk),List.getElem?_append_left (by simp;omega)]
   have e1:(ints l)[k]?=some (.int .i64 l[k]):=by simp[hk]
   rw[e1,Option.map_some,if_pos (by simp;omega)]
   rw[show ints new++ints (List.replicate (l.length - new.length) 0)=ints (new++List.replicate (l.length - new.length) 0) by simp[ints]]
   have hk2:k < (new++List.replicate (l.length - new.length) 0).length:=by simp;omega
   have e3:(ints (new++List.replicate (l.length - new.length) 0))[k]?=some (.int .i64 (new++List.replicate (l.length - new.length) 0)[k]):=by
    unfold ints;rw[List.getElem?_map,List.getElem?_eq_getElem hk2];rfl
   rw[e3,getElem!_pos _ _ (by simpa using hk2)]
   rfl
  ·rw[List.getElem?_append_right (by simp;omega),List.getElem?_append_right (by simp;omega)]
   have e2:(ints l).length=(ints new++ints (List.replicate (l.length - new.length) 0)).length:=by simp;omega
   rw[e2]
   cases sp[k - (ints new++ints (List.replicate (l.length - new.length) 0)).length]? with
   |none=>rfl
   |some x=>rw[Option.map_some,if_neg (by simp;omega)]
 have hother:∀ k,k≠g→(putRow (Value.int .i64) (Sort.ahead w q) g 0 (new++List.replicate (l.length - new.length) 0).toArray).heap[k]?=w.heap[k]?:=fun k hk=>by
  unfold putRow mapBlock
  show(w.heap.modify g _)[k]?=_
  rw[Array.getElem?_modify,if_neg (fun h=>hk h.symm)]
 have hids:∀ k∈ids [Ow.slice (.slice (some ⟨g,0,none⟩) new.length cap) 3 1 (ints new)],k∈ids [Ow.slice (.slice (some ⟨g,0,none⟩) l.length cap) 3 1 (ints l)]∨w.heap.size≤k:=fun k hk=>.inl (by simpa [ids,Ow.ids] using hk)
 have hkeep:∀ k,k < w.heap.size→k∉ids [Ow.slice (.slice (some ⟨g,0,none⟩) l.length cap) 3 1 (ints l)]→(putRow (Value.int .i64) (Sort.ahead w q) g 0 (new++List.replicate (l.length - new.length) 0).toArray).heap[k]?=w.heap[k]?:=fun k _ hk=>hother k (by simpa [ids,Ow.ids] using hk)
 refine⟨_,[Ow.slice (.slice (some ⟨g,0,none⟩) new.length cap) 3 1 (ints new)],[],rfl,⟨rfl,rfl⟩,⟨rfl,rfl,rfl⟩,?_,?_⟩
 ·have:=imm_step (ob:=[Ow.slice (.slice (some ⟨g,0,none⟩) l.length cap) 3 1 (ints l)]) (bx:=[]) (nb:=[Ow.slice (.slice (some ⟨g,0,none⟩) new.length cap) 3 1 (ints new)]) ho hkeep hids
  simpa using this
 ·have:=OK.step (ob:=[Ow.slice (.slice (some ⟨g,0,none⟩) l.length cap) 3 1 (ints l)]) (bx:=[]) (nb:=[Ow.slice (.slice (some ⟨g,0,none⟩) new.length cap) 3 1 (ints new)]) ho hkeep hids (by simp[ids,Ow.ids]) (fun b hb=>by
   rw[List.mem_singleton] at hb;subst hb
   refine⟨new.length,by simp,.inr ⟨g,cap,ints (List.replicate (l.length - new.length) 0)++sp,rfl,by omega,h4,hw',?_⟩⟩
   simp only[List.length_append,List.length_map,List.length_replicate] at h6 ⊢
   omega)
  exact this.less (fun f hf=>by cases hf)
theorem compact_le (l:List Int):(Lib.compact l).length≤l.length:=by
 unfold Lib.compact Lib.compactUpTo
 rw[List.length_map]
 exact Nat.le_trans (List.length_filter_le _ _) (by simp)
theorem compact_c (v:Value) (l:List Int) (hl:l.length≤1000000) (hne:l≠[]):FnB Tryz.prog 84 [v] [Ow.slice v 3 1 (ints l)] [] (IsO 3 1 (ints (Lib.compact l))):=
 row_fn ⟨Tryz.f84,Tryz.func84,by kernel_rfl,by kernel_rfl⟩ hne (compact_le l) fun fr w g cap hv hcap _ hH=>by
  subst hv
  exact Any.slices_Compact_int layCompact g 0 cap l w hH (by omega) hcap
theorem delete_row {v:Value} {l:List Int} {F:List Fct} (hl:l.length≤1000000) (hne:l≠[]) (p:Int→Bool) (g:Nat) (lb:Array Value) (eg:∀ args w,(callFunc g args).run Tryz.prog w=.ok (.enter g args) w)
  (hp:∀ fr w b cap,v=.slice (some ⟨b,0,none⟩) l.length cap→OK fr [Ow.slice v 3 1 (ints l)] F w→PredAt Tryz.prog g lb (Value.int .i64) p w∧PredOver Tryz.prog g lb (Value.int .i64) p b 0 l.length w) :
  FnB Tryz.prog 80 [v,.func (.func g) #[] lb] [Ow.slice v 3 1 (ints l)] F (IsO 3 1 (ints (l.filter fun x=>!p x))):=
 row_fn ⟨Tryz.f80,Tryz.func80,by kernel_rfl,by kernel_rfl⟩ hne (List.length_filter_le _ _) fun fr w b cap hv hcap ho hH=>by
  obtain⟨h1,h2⟩:=hp fr w b cap hv ho
  subst hv
  have:=AnyE.slices_DeleteFunc layDelete (Value.int .i64) (fun _=>rfl) p g lb eg 0 (fun w=>Tryz.zeroValue3 w) b 0 cap l.toArray w h1 h2 hH (by simp;omega) (by simpa using hcap)
  exact this
theorem sort_fn {f:FuncId} {l new:List Int} {v:Value} {F:List Fct} (hc:Callable Tryz.prog f) (hne:l≠[]) (hlen:new.length=l.length)
  (h:∀ w g cap,g < w.heap.size→Holds (Value.int .i64) w g 0 l.toArray→Calls Tryz.prog f #[.slice (some ⟨g,0,none⟩) l.length cap] w fun e w'=>e=.returned (.tuple #[])∧∃ q os,w'=Sort.grow (putRow (Value.int .i64) (Sort.ahead w q) g 0 new.toArray) os) :
  FnB Tryz.prog f [v] [Ow.slice v 3 1 (ints l)] F (IsSrt v new):=by
 refine⟨hc,fun fr w ho=>?_⟩
 obtain⟨n,h1,⟨_,h2⟩|⟨g,cap,sp,rfl,h3,h4,h5,h6⟩⟩:=ho.owns _ (.head _)
 ·exfalso;subst h2;simp at h1;exact hne h1
 have hn:n=l.length:=by simpa using h1.symm
 subst hn
 have hH:Holds (Value.int .i64) w g 0 l.toArray:=fun j hj=>by
  have hj':j < l.length:=by simpa using hj
  constructor
  ·unfold World.cell?
   rw[h5]
   simp[hj']
   rw[List.getElem?_append_left (by simpa using hj')]
   simp[hj']
  ·unfold World.frozen?;rw[h5];simp
 have hgl:g < w.heap.size:=(Array.getElem?_eq_some_iff.1 h5).1
 refine(h w g cap hgl hH).mono ?_
 rintro e w' ⟨rfl,q,os,rfl⟩
 have hw':(putRow (Value.int .i64) (Sort.ahead w q) g 0 (new++List.replicate (l.length - new.length) 0).toArray).heap[g]?=some (.cells (ints new++(ints (List.replicate (l.length - new.length) 0)++sp)).toArray 3 (0,0)):=by
  unfold putRow mapBlock
  show(w.heap.modify g _)[g]?=_
  rw[Array.getElem?_modify,if_pos rfl,h5]
  simp only[Option.map_some,onCells]
  congr 2
  apply Array.ext_getElem?
  intro k
  unfold putCells
  rw[Array.getElem?_mapIdx]
  simp only[List.getElem?_toArray]
  rw[←List.append_assoc]
  by_cases hk:k < l.length
  ·rw[List.getElem?_append_left (by simpa using hk),List.getElem?_append_left (by simp;omega)]
   have e1:(ints l)[k]?=some (.int .i64 l[k]):=by simp[hk]
   rw[e1,Option.map_some,if_pos (by simp;omega)]
   rw[show ints new++ints (List.replicate (l.length - new.length) 0)=ints (new++List.replicate (l.length - new.length) 0) by simp[ints]]
   have hk2:k < (new++List.replicate (l.length - new.length) 0).length:=by simp;omega
   have e3:(ints (new++List.replicate (l.length - new.length) 0))[k]?=some (.int .i64 (new++List.replicate (l.length - new.length) 0)[k]):=by
    unfold ints;rw[List.getElem?_map,List.getElem?_eq_getElem hk2];rfl
   rw[e3,getElem!_pos _ _ (by simpa using hk2)]
   rfl
  ·rw[List.getElem?_append_right (by simp;omega),List.getElem?_append_right (by simp;omega)]
   have e2:(ints l).length=(ints new++ints (List.replicate (l.length - new.length) 0)).length:=by simp;omega
   rw[e2]
   cases sp[k - (ints new++ints (List.replicate (l.length - new.length) 0)).length]? with
   |none=>rfl
   |some x=>rw[Option.map_some,if_neg (by simp;omega)]
 have hother:∀ k,k≠g→(putRow (Value.int .i64) (Sort.ahead w q) g 0 (new++List.replicate (l.length - new.length) 0).toArray).heap[k]?=w.heap[k]?:=fun k hk=>by
  unfold putRow mapBlock
  show(w.heap.modify g _)[k]?=_
  rw[Array.getElem?_modify,if_neg (fun h=>hk h.symm)]
 have hx:new++List.replicate (l.length - new.length) 0=new:=by rw[hlen,Nat.sub_self];simp
 rw[hx] at hw' hother
 have hsz:(putRow (Value.int .i64) (Sort.ahead w q) g 0 new.toArray).heap.size=w.heap.size:=by unfold putRow mapBlock;show(w.heap.modify g _).size=_;simp
 have hold:∀ k,k < w.heap.size→(Sort.grow (putRow (Value.int .i64) (Sort.ahead w q) g 0 new.toArray) os).heap[k]?=(putRow (Value.int .i64) (Sort.ahead w q) g 0 new.toArray).heap[k]?:=fun k hk=>Sort.heap_grow_old _ os (by rw[hsz];exact hk)
 rw[←hold g hgl] at hw'
 have hids:∀ k∈ids [Ow.slice (.slice (some ⟨g,0,none⟩) l.length cap) 3 1 (ints new)],k∈ids [Ow.slice (.slice (some ⟨g,0,none⟩) l.length cap) 3 1 (ints l)]∨w.heap.size≤k:=fun k hk=>.inl (by simpa [ids,Ow.ids] using hk)
 have hkeep:∀ k,k < w.heap.size→k∉ids [Ow.slice (.slice (some ⟨g,0,none⟩) l.length cap) 3 1 (ints l)]→(Sort.grow (putRow (Value.int .i64) (Sort.ahead w q) g 0 new.toArray) os).heap[k]?=w.heap[k]?:=fun k hkl hk=>by rw[hold k hkl];exact hother k (by simpa [ids,Ow.ids] using hk)
 refine⟨_,[Ow.slice (.slice (some ⟨g,0,none⟩) l.length cap) 3 1 (ints new)],[],rfl,⟨rfl,rfl,rfl⟩,⟨rfl,rfl,rfl⟩,?_,?_⟩
 ·have:=imm_step (ob:=[Ow.slice (.slice (some ⟨g,0,none⟩) l.length cap) 3 1 (ints l)]) (bx:=[]) (nb:=[Ow.slice (.slice (some ⟨g,0,none⟩) l.length cap) 3 1 (ints new)]) ho hkeep hids
  simpa using this
 ·have:=OK.step (ob:=[Ow.slice (.slice (some ⟨g,0,none⟩) l.length cap) 3 1 (ints l)]) (bx:=[]) (nb:=[Ow.slice (.slice (some ⟨g,0,none⟩) l.length cap) 3 1 (ints new)]) ho hkeep hids (by simp[ids,Ow.ids]) (fun b hb=>by
   rw[List.mem_singleton] at hb;subst hb
   refine⟨l.length,by simp[hlen],.inr ⟨g,cap,ints (List.replicate (l.length - new.length) 0)++sp,rfl,h3,h4,hw',?_⟩⟩
   simp only[List.length_append,List.length_map,List.length_replicate] at h6 ⊢
   omega)
  exact this.less (fun f hf=>by cases hf)
theorem sort0_c (v:Value):FnB Tryz.prog 83 [v] [Ow.slice v 3 1 (ints [])] [] (IsSrt v []):=by
 refine⟨⟨Tryz.f83,Tryz.func83,by kernel_rfl,by kernel_rfl⟩,fun fr w ho=>?_⟩
 have hv:∃ p cap,v=.slice p 0 cap:=by
  obtain⟨n,h1,⟨h2,h3⟩|⟨g,cap,sp,rfl,h3,h4,h5,h6⟩⟩:=ho.owns _ (.head _)
  ·exact⟨_,_,h2⟩
  ·have:n=0:=by simpa using h1.symm
   subst this;exact⟨_,_,rfl⟩
 obtain⟨p,cap,rfl⟩:=hv
 refine(AnyM.slices_Sort_int_none laySort p cap w).mono ?_
 rintro e w' ⟨rfl,rfl⟩
 exact⟨_,[Ow.slice (.slice p 0 cap) 3 1 (ints [])],[],rfl,⟨rfl,rfl,rfl⟩,W.Rest.refl _,fun _ _ h=>h,ho⟩
theorem sort_c (v:Value) (l:List Int) (hl:l.length≤1000000):FnB Tryz.prog 83 [v] [Ow.slice v 3 1 (ints l)] [] (IsSrt v (srt l)):=by
 by_cases hne:l=[]
 ·subst hne
  rw[show srt []=[] by simp[srt]]
  exact sort0_c v
 ·exact sort_fn ⟨Tryz.f83,Tryz.func83,by kernel_rfl,by kernel_rfl⟩ hne (srt_len l) fun w g cap hg hH=>by
   refine(AnyM.slices_Sort_int laySort g 0 cap l w hH hg (by omega)).mono ?_
   rintro e w' ⟨rfl,q,os,rfl⟩
   exact⟨rfl,q,os,rfl⟩
end Go.Proofs.YtaongbhamadlkaaGreat
