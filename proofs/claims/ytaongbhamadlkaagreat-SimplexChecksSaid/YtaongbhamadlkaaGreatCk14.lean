/- Lemmas for the proof of a law: Contract of the model's Right. Conditions: none. -/
import Derived.Test.YtaongbhamadlkaaGreatCk13
import Derived.Test.YtaongbhamadlkaaGreatCk12
import Derived.Test.YtaongbhamadlkaaGreatCk11
set_option linter.unusedVariables false
set_option linter.unusedSimpArgs false
set_option linter.unusedSectionVars false
namespace Go.Proofs.YtaongbhamadlkaaGreat
open W Go.RowKit
namespace U
open Z
attribute [local irreducible] WC WL WD YO LO LoopEnd W.Fin Scalar SliceT FieldAt Row ArrT AllocT KnS Has W.One SrcE IntT
theorem d17 {G G':Prop} (h:G') (s:Bx G'→G:=by
 intro h
 first|(apply WC.draw (id:=3) [0,1,2,3,4,6,7,8,9,10,12,13,14,15,16,17,19,20,22,23] (.held 0 (.held 1 (.held 2 (.held 3 (.held 4 (.loud 5 (.held 6 (.held 7 (.held 8 (.held 9 (.held 10 (.loud 11 (.held 12 (.held 13 (.held 14 (.held 15 (.held 16 (.held 17 (.held 19 (.held 20 (.loud 18 (.loud 21 (.held 22 (.held 23 (.done))))))))))))))))))))))))) mixed (by kernel_rfl))|(apply WC.draw (id:=5) [0,1,2,3,4,7,8,9,12] (.held 0 (.held 1 (.held 2 (.held 3 (.held 4 (.more 5 (.more 6 (.held 7 (.held 8 (.held 9 (.loud 10 (.loud 11 (.held 12 (.done))))))) (.loud 10 (.loud 6 (.held 7 (.held 8 (.held 9 (.loud 11 (.held 12 (.done))))))))) (.loud 10 (.loud 5 (.loud 6 (.held 7 (.held 8 (.held 9 (.loud 11 (.held 12 (.done))))))))))))))) mixed (by kernel_rfl))|fail
 exact Bx.h h):G:=s ⟨h⟩
theorem rsums_t (M:Pm) (vn:Nat) (L:List X.Ln) (gf:Nat→Rat) (yn:Nat) (y:Nat→Rat) {yv gw:Value} {my mg:Nat→QM} {gf:Nat→Rat} (h:FnB Tryz.prog 66 [pgv M vn,yv,gw] [] [fP M (X.lpOf vn L gf),fF yv yn my y,fF gw vn mg gf] (IsSums (X.lpOf vn L gf) yn y gf)) (hs:sumsOk (X.lpOf vn L gf) yn y gf=true) :
  FnB Tryz.prog 66 [pgv M vn,yv,gw] [] [fP M (X.lpOf vn L gf),fF yv yn my y,fF gw vn mg gf] (fun v B G=>∃ m,v=.tuple #[qv m,.bool true]∧B=[]∧G=[isQ (qv m) (sumsV (X.lpOf vn L gf) y)]):=by
 unfold IsSums at h
 rw[hs] at h
 simpa using h
theorem rsums_f (M:Pm) (vn:Nat) (L:List X.Ln) (gf:Nat→Rat) (yn:Nat) (y:Nat→Rat) {yv gw:Value} {my mg:Nat→QM} {gf:Nat→Rat} (h:FnB Tryz.prog 66 [pgv M vn,yv,gw] [] [fP M (X.lpOf vn L gf),fF yv yn my y,fF gw vn mg gf] (IsSums (X.lpOf vn L gf) yn y gf)) (hs:sumsOk (X.lpOf vn L gf) yn y gf=false) :
  FnB Tryz.prog 66 [pgv M vn,yv,gw] [] [fP M (X.lpOf vn L gf),fF yv yn my y,fF gw vn mg gf] (fun v B G=>∃ m,v=.tuple #[qv m,.bool false]∧B=[]∧G=[isQ (qv m) 0]):=by
 unfold IsSums at h
 rw[hs] at h
 simpa using h
section
variable (M:Pm) (vn:Nat) (L:List X.Ln) (gf:Nat→Rat) (N:Am) (K xn yn:Nat) (x y:Nat→Rat) (z:Rat)
set_option maxHeartbeats 8000000 in
set_option maxRecDepth 60000 in
theorem rright_c (kind:Int) (hdv:Dok vn K) (hdm:Dok L.length K) (hv:vn≤1000) (hK:0 < K) (hL:LSq K vn L) (hg:∀ k,k < vn→Sq K (gf k))
  (hx:∀ k,k < xn→Sq K (x k)) (hy:∀ k,k < yn→Sq K (y k)):FnB Tryz.prog 17 [pgv M vn,agv N kind] [] [fP M (X.lpOf vn L gf),fA N xn yn x y z] (IsV (.bool (rightP (X.lpOf vn L gf) kind xn yn x y z))):=by
 refine fn_of [(0,(pgv M vn)),(1,(agv N kind))] 105 Tryz.func17 rfl Tryz.ntmps17 (by kernel_rfl) rfl suA fun h0=>?_
 refine WC.fact (fF N.xv xn N.mx x) (W.Has.ax (M:=N) (xn:=xn) (yn:=yn) (x:=x) (y:=y) (z:=z) hmA) ?_
 refine WC.fact (fF N.yv yn N.my y) (W.Has.ay (M:=N) (xn:=xn) (yn:=yn) (x:=x) (y:=y) (z:=z) hmA) ?_
 refine WC.fact (isQ (qv N.mz) z) (W.Has.az (M:=N) (xn:=xn) (yn:=yn) (x:=x) (y:=y) (z:=z) hmA) ?_
 refine WC.fact (fF M.gv vn M.mg gf) (W.Has.pG (L:=L) hmA) ?_
 by_cases k0:kind=0
 ·subst k0
  have e:rightP (X.lpOf vn L gf) 0 xn yn x y z=(sumsOk (X.lpOf vn L gf) yn y gf && holdP (X.lpOf vn L gf) xn x false && decide (sumsV (X.lpOf vn L gf) y=z) && decide ((X.sm vn fun k=>gf k*x k)=z)):=rfl
  rw[e]
  have hS:=rsums_c M K vn L gf yn N.yv M.gv N.my M.mg y gf hdm hv hL hy
  cases hs:sumsOk (X.lpOf vn L gf) yn y gf with
  |false=>
   repeat'(first|refine gM ?_|(refine gI ?_;intro g)|(refine gU ?_;intro v)|refine gN ?_ ?_|refine d17 ?_|fail)
   refine WL.callK (rsums_f M vn L gf yn y hS hs) ?_
   rintro _ _ _ ⟨mb,rfl,rfl,rfl⟩
   simp only[List.nil_append,List.cons_append]
   repeat'(first|refine gM ?_|(refine gI ?_;intro g)|(refine gU ?_;intro v)|refine gN ?_ ?_|refine d17 ?_|fail)
   refine WC.ret ?_
   exact Fin.v (ResE.t1 rfl rfl) meA (by simp)
  |true=>
   repeat'(first|refine gM ?_|(refine gI ?_;intro g)|(refine gU ?_;intro v)|refine gN ?_ ?_|refine d17 ?_|fail)
   refine WL.callK (rsums_t M vn L gf yn y hS hs) ?_
   rintro _ _ _ ⟨mb,rfl,rfl,rfl⟩
   simp only[List.nil_append,List.cons_append]
   repeat'(first|refine gM ?_|(refine gI ?_;intro g)|(refine gU ?_;intro v)|refine gN ?_ ?_|refine d17 ?_|fail)
   first|refine WL.callK (rholds_c M K vn L gf xn false N.xv N.mx x hdv hv hL hx hK) ?_|refine WD.callK (rholds_c M K vn L gf xn false N.xv N.mx x hdv hv hL hx hK) ?_|refine LO.callM (rholds_c M K vn L gf xn false N.xv N.mx x hdv hv hL hx hK) ?_
   rintro _ _ _ ⟨rfl,rfl,rfl⟩
   simp only[List.nil_append,List.cons_append]
   cases hh:holdP (X.lpOf vn L gf) xn x false with
   |false=>
    repeat'(first|refine gM ?_|(refine gI ?_;intro g)|(refine gU ?_;intro v)|refine gN ?_ ?_|refine d17 ?_|fail)
    refine WC.ret ?_
    exact Fin.v (ResE.t1 rfl rfl) meA (by simp)
   |true=>
    obtain rfl:vn=xn:=(holdP_len hh).symm
    repeat'(first|refine gM ?_|(refine gI ?_;intro g)|(refine gU ?_;intro v)|refine gN ?_ ?_|refine d17 ?_|fail)
    first|refine WL.callK (Zn.rsame mb N.mz (sumsV (X.lpOf vn L gf) y) z) ?_|refine WD.callK (Zn.rsame mb N.mz (sumsV (X.lpOf vn L gf) y) z) ?_|refine LO.callM (Zn.rsame mb N.mz (sumsV (X.lpOf vn L gf) y) z) ?_
    rintro _ _ _ ⟨rfl,rfl,rfl⟩
    simp only[List.nil_append,List.cons_append]
    by_cases cz:sumsV (X.lpOf vn L gf) y=z
    ·rw[decide_eq_true cz]
     repeat'(first|refine gM ?_|(refine gI ?_;intro g)|(refine gU ?_;intro v)|refine gN ?_ ?_|refine d17 ?_|fail)
     first|refine WL.callK (rdot_c M.gv N.xv vn K M.mg N.mx gf x (by omega) hdv hg hx) ?_|refine WD.callK (rdot_c M.gv N.xv vn K M.mg N.mx gf x (by omega) hdv hg hx) ?_|refine LO.callM (rdot_c M.gv N.xv vn K M.mg N.mx gf x (by omega) hdv hg hx) ?_
     rintro _ _ _ ⟨md,rfl,rfl,rfl⟩
     simp only[List.nil_append,List.cons_append]
     repeat'(first|refine gM ?_|(refine gI ?_;intro g)|(refine gU ?_;intro v)|refine gN ?_ ?_|refine d17 ?_|fail)
     first|refine WL.callK (Zn.rsame md N.mz (X.sm vn fun k=>gf k*x k) z) ?_|refine WD.callK (Zn.rsame md N.mz (X.sm vn fun k=>gf k*x k) z) ?_|refine LO.callM (Zn.rsame md N.mz (X.sm vn fun k=>gf k*x k) z) ?_
     rintro _ _ _ ⟨rfl,rfl,rfl⟩
     simp only[List.nil_append,List.cons_append]
     repeat'(first|refine gM ?_|(refine gI ?_;intro g)|(refine gU ?_;intro v)|refine gN ?_ ?_|refine d17 ?_|fail)
     refine WC.ret ?_
     exact Fin.v (ResE.t1 rfl rfl) meA (by simp)
    ·rw[decide_eq_false cz]
     repeat'(first|refine gM ?_|(refine gI ?_;intro g)|(refine gU ?_;intro v)|refine gN ?_ ?_|refine d17 ?_|fail)
     refine WC.ret ?_
     exact Fin.v (ResE.t1 rfl rfl) meA (by simp)
 ·by_cases k1:kind=1
  ·subst k1
   have e:rightP (X.lpOf vn L gf) 1 xn yn x y z=(sumsOk (X.lpOf vn L gf) yn y (fun _=>0) && decide (xn=0) && decide (sumsV (X.lpOf vn L gf) y < 0) && decide (z=0)):=rfl
   rw[e]
   have hs1:=@sgn_neg (sumsV (X.lpOf vn L gf) y)
   have hs2:=@sgn_zero z
   refine WC.fact (mF vn (fun _=>m00) (fun _=>0)) (W.Has.mF0 _) ?_
   repeat'(first|refine gA ?_|(refine goG ?_;intro g)|(refine goV ?_;intro v))
   rename_i g2
   revert g;intro g3
   refine WC.cutP (σ:=Nat×QM) (fun st=>[(7,ptr st.1),(8,.bool (sumsOk (X.lpOf vn L gf) yn y fun _=>0)),(3,ptr g3),(2,ptr g2)]) (fun st=>[Ow.cells st.1 31 (qcs st.2),Ow.cells g3 33 (acs N 1),Ow.cells g2 26 (pcs M vn)])
    (fun st=>[isQ (qv st.2) (if sumsOk (X.lpOf vn L gf) yn y (fun _=>0)=true then sumsV (X.lpOf vn L gf) y else 0),isQ (qv N.mz) z,fF N.xv xn N.mx x,ge h0]) (fun _=>True) ?_ ?_
   ·repeat'(first|refine gM ?_|(refine gI ?_;intro g)|(refine gU ?_;intro v)|refine gN ?_ ?_|refine d17 ?_|fail)
    all_goals(first|refine WD.freezeF v vn (fun _=>m00) (fun _=>0) (by repeat(first|exact Sel.head|apply Sel.tail)) hmA ?_|refine LO.freezeF v vn (fun _=>m00) (fun _=>0) (by repeat(first|exact Sel.head|apply Sel.tail)) hmA ?_)
    all_goals(first|refine WD.callK (rsums_c M K vn L gf yn N.yv v N.my (fun _=>m00) y (fun _=>0) hdm hv hL hy) ?_|refine LO.callM (rsums_c M K vn L gf yn N.yv v N.my (fun _=>m00) y (fun _=>0) hdm hv hL hy) ?_)
    all_goals rintro _ _ _ ⟨mb,rfl,rfl,rfl⟩
    all_goals simp only[List.nil_append,List.cons_append]
    all_goals repeat'(first|refine gM ?_|(refine gI ?_;intro g)|(refine gU ?_;intro v)|refine gN ?_ ?_|refine d17 ?_|fail)
    all_goals(apply Ex2;refine⟨trivial,?_,?_,?_⟩;(focus(repeat(first|exact Sub.nil _|refine Sub.cons rfl ?_)));(focus(repeat(first|exact SubP.nil _|(apply SubP.cons;(repeat(first|exact Rem.head|apply Rem.tail))))));(focus(repeat(first|exact HasAll.nil|(apply HasAll.cons;exact hsA)))))
   rintro⟨g7,mb⟩ _
   simp only
   cases hs:sumsOk (X.lpOf vn L gf) yn y (fun _=>0) with
   |false=>
    repeat'(first|refine gM ?_|(refine gI ?_;intro g)|(refine gU ?_;intro v)|refine gN ?_ ?_|refine d17 ?_|fail)
    refine WC.ret ?_
    exact Fin.v (ResE.t1 rfl rfl) meA (by simp)
   |true=>
    rw[if_pos rfl]
    by_cases cx:xn=0
    ·rw[decide_eq_true cx]
     repeat'(first|refine gM ?_|(refine gI ?_;intro g)|(refine gU ?_;intro v)|refine gN ?_ ?_|refine d17 ?_|fail)
     first|refine WL.callV (Zn.rsign mb (sumsV (X.lpOf vn L gf) y)) ?_|refine WD.callV (Zn.rsign mb (sumsV (X.lpOf vn L gf) y)) ?_
     by_cases cs:sumsV (X.lpOf vn L gf) y < 0
     ·rw[decide_eq_true cs]
      have c':=hs1.2 cs
      repeat'(first|refine gM ?_|(refine gI ?_;intro g)|(refine gU ?_;intro v)|refine gN ?_ ?_|refine d17 ?_|fail)
      first|refine WL.callV (Zn.rsign N.mz z) ?_|refine WD.callV (Zn.rsign N.mz z) ?_
      by_cases cz:z=0
      ·have c'':=hs2.2 cz
       rw[decide_eq_true cz]
       repeat'(first|refine gM ?_|(refine gI ?_;intro g)|(refine gU ?_;intro v)|refine gN ?_ ?_|refine d17 ?_|fail)
       refine WC.ret ?_
       exact Fin.v (ResE.t1 rfl rfl) meA (by simp)
      ·have c'':¬sgn z.num=0:=fun h=>cz (hs2.1 h)
       rw[decide_eq_false cz]
       repeat'(first|refine gM ?_|(refine gI ?_;intro g)|(refine gU ?_;intro v)|refine gN ?_ ?_|refine d17 ?_|fail)
       refine WC.ret ?_
       exact Fin.v (ResE.t1 rfl rfl) meA (by simp)
     ·have c':¬sgn (sumsV (X.lpOf vn L gf) y).num < 0:=fun h=>cs (hs1.1 h)
      rw[decide_eq_false cs]
      repeat'(first|refine gM ?_|(refine gI ?_;intro g)|(refine gU ?_;intro v)|refine gN ?_ ?_|refine d17 ?_|fail)
      refine WC.ret ?_
      exact Fin.v (ResE.t1 rfl rfl) meA (by simp)
    ·rw[decide_eq_false cx]
     repeat'(first|refine gM ?_|(refine gI ?_;intro g)|(refine gU ?_;intro v)|refine gN ?_ ?_|refine d17 ?_|fail)
     refine WC.ret ?_
     exact Fin.v (ResE.t1 rfl rfl) meA (by simp)
  ·by_cases k2:kind=2
   ·subst k2
    have e:rightP (X.lpOf vn L gf) 2 xn yn x y z=(holdP (X.lpOf vn L gf) xn x false && holdP (X.lpOf vn L gf) yn y true && decide (0 < X.sm vn fun k=>gf k*y k) && decide (z=0)):=rfl
    rw[e]
    have hs1:=@sgn_pos (X.sm vn fun k=>gf k*y k)
    have hs2:=@sgn_zero z
    repeat'(first|refine gM ?_|(refine gI ?_;intro g)|(refine gU ?_;intro v)|refine gN ?_ ?_|refine d17 ?_|fail)
    first|refine WL.callV (rholds_c M K vn L gf xn false N.xv N.mx x hdv hv hL hx hK) ?_|refine WD.callV (rholds_c M K vn L gf xn false N.xv N.mx x hdv hv hL hx hK) ?_
    cases hh:holdP (X.lpOf vn L gf) xn x false with
    |false=>
     repeat'(first|refine gM ?_|(refine gI ?_;intro g)|(refine gU ?_;intro v)|refine gN ?_ ?_|refine d17 ?_|fail)
     refine WC.ret ?_
     exact Fin.v (ResE.t1 rfl rfl) meA (by simp)
    |true=>
     repeat'(first|refine gM ?_|(refine gI ?_;intro g)|(refine gU ?_;intro v)|refine gN ?_ ?_|refine d17 ?_|fail)
     first|refine WL.callV (rholds_c M K vn L gf yn true N.yv N.my y hdv hv hL hy hK) ?_|refine WD.callV (rholds_c M K vn L gf yn true N.yv N.my y hdv hv hL hy hK) ?_
     cases hh2:holdP (X.lpOf vn L gf) yn y true with
     |false=>
      repeat'(first|refine gM ?_|(refine gI ?_;intro g)|(refine gU ?_;intro v)|refine gN ?_ ?_|refine d17 ?_|fail)
      refine WC.ret ?_
      exact Fin.v (ResE.t1 rfl rfl) meA (by simp)
     |true=>
      obtain rfl:vn=yn:=(holdP_len hh2).symm
      repeat'(first|refine gM ?_|(refine gI ?_;intro g)|(refine gU ?_;intro v)|refine gN ?_ ?_|refine d17 ?_|fail)
      refine WL.callK (rdot_c M.gv N.yv vn K M.mg N.my gf y (by omega) hdv hg hy) ?_
      rintro _ _ _ ⟨md,rfl,rfl,rfl⟩
      simp only[List.nil_append,List.cons_append]
      repeat'(first|refine gM ?_|(refine gI ?_;intro g)|(refine gU ?_;intro v)|refine gN ?_ ?_|refine d17 ?_|fail)
      first|refine WL.callV (Zn.rsign md (X.sm vn fun k=>gf k*y k)) ?_|refine WD.callV (Zn.rsign md (X.sm vn fun k=>gf k*y k)) ?_
      by_cases cs:0 < X.sm vn fun k=>gf k*y k
      ·rw[decide_eq_true cs]
       have c':=hs1.2 cs
       repeat'(first|refine gM ?_|(refine gI ?_;intro g)|(refine gU ?_;intro v)|refine gN ?_ ?_|refine d17 ?_|fail)
       first|refine WL.callV (Zn.rsign N.mz z) ?_|refine WD.callV (Zn.rsign N.mz z) ?_
       by_cases cz:z=0
       ·have c'':=hs2.2 cz
        rw[decide_eq_true cz]
        repeat'(first|refine gM ?_|(refine gI ?_;intro g)|(refine gU ?_;intro v)|refine gN ?_ ?_|refine d17 ?_|fail)
        refine WC.ret ?_
        exact Fin.v (ResE.t1 rfl rfl) meA (by simp)
       ·have c'':¬sgn z.num=0:=fun h=>cz (hs2.1 h)
        rw[decide_eq_false cz]
        repeat'(first|refine gM ?_|(refine gI ?_;intro g)|(refine gU ?_;intro v)|refine gN ?_ ?_|refine d17 ?_|fail)
        refine WC.ret ?_
        exact Fin.v (ResE.t1 rfl rfl) meA (by simp)
      ·have c':¬0 < sgn (X.sm vn fun k=>gf k*y k).num:=fun h=>cs (hs1.1 h)
       rw[decide_eq_false cs]
       repeat'(first|refine gM ?_|(refine gI ?_;intro g)|(refine gU ?_;intro v)|refine gN ?_ ?_|refine d17 ?_|fail)
       refine WC.ret ?_
       exact Fin.v (ResE.t1 rfl rfl) meA (by simp)
   ·have e:rightP (X.lpOf vn L gf) kind xn yn x y z=false:=by unfold rightP;rw[if_neg k0,if_neg k1,if_neg k2]
    rw[e]
    repeat'(first|refine gM ?_|(refine gI ?_;intro g)|(refine gU ?_;intro v)|refine gN ?_ ?_|refine d17 ?_|fail)
    refine WC.ret ?_
    exact Fin.v (ResE.t1 rfl rfl) meA rfl
end
end U
end Go.Proofs.YtaongbhamadlkaaGreat
namespace Go.Proofs.YtaongbhamadlkaaGreat
open W Go.RowKit
theorem fst_none {p:Nat→Bool} {n:Nat}:(X.fstT p n 0).isSome=false↔∀ j,j < n→p j=false:=by
 rcases X.fstT_spec p n 0 with ⟨h1,h2⟩|⟨j,h1,_,h3,h4,_⟩
 ·rw[h1]
  exact⟨fun _ j hj=>h2 j (by omega) (by omega),fun _=>rfl⟩
 ·rw[h1]
  exact⟨fun h=>(by cases h),fun h=>(by rw[h j (by omega)] at h4;cases h4)⟩
section
variable {p:X.Lp} {xn yn:Nat} {x y g:Nat→Rat} {z:Rat} {op:Bool}
theorem holdP_iff:holdP p xn x op=true↔xn=p.v∧∀ r,r < p.m→(X.sm p.v fun k=>p.a r k*x k)≤most p op r:=by
 unfold holdP
 rw[Bool.and_eq_true,decide_eq_true_eq,Bool.not_eq_true',fst_none]
 constructor
 ·rintro⟨h1,h2⟩
  exact⟨h1,fun r hr=>by have:=of_decide_eq_false (h2 r hr);grind⟩
 ·rintro⟨h1,h2⟩
  exact⟨h1,fun r hr=>decide_eq_false (by have:=h2 r hr;grind)⟩
theorem sumsOk_iff:sumsOk p yn y g=true↔yn=p.m∧(∀ r,r < p.m→0≤y r)∧∀ k,k < p.v→(X.sm p.m fun r=>y r*p.a r k)=g k:=by
 have e:∀ k,(X.sm p.m fun r=>p.a r k*y r)=X.sm p.m fun r=>y r*p.a r k:=fun k=>X.sm_congr fun r _=>Rat.mul_comm _ _
 unfold sumsOk
 rw[Bool.and_eq_true,Bool.and_eq_true,decide_eq_true_eq,Bool.not_eq_true',Bool.not_eq_true',fst_none,fst_none]
 constructor
 ·rintro⟨⟨h1,h2⟩,h3⟩
  subst h1
  exact⟨rfl,fun r hr=>by have:=of_decide_eq_false (h2 r hr);grind,fun k hk=>by have:=of_decide_eq_false (h3 k hk);rw[←e];grind⟩
 ·rintro⟨h1,h2,h3⟩
  subst h1
  exact⟨⟨rfl,fun r hr=>decide_eq_false (by have:=h2 r hr;grind)⟩,fun k hk=>decide_eq_false (by rw[e,h3 k hk];simp)⟩
theorem sumsV_eq:sumsV p y=X.sm p.m fun r=>y r*p.b r:=X.sm_congr fun r _=>Rat.mul_comm _ _
theorem ans_right {kind:Nat} (h:AnsP p kind xn yn x y z):rightP p kind xn yn x y z=true:=by
 rcases h with ⟨rfl,rfl,rfl,rfl,h1,h2,h3⟩|⟨rfl,rfl,rfl,h1,h2,h3,h4,h5⟩|⟨rfl,rfl,rfl,rfl,h1,h2,h3⟩
 ·show(sumsOk p p.m y (fun _=>0) && decide (0=0) && decide (sumsV p y < 0) && decide ((0:Rat)=0))=true
  rw[sumsOk_iff.2 ⟨rfl,h1,h2⟩,sumsV_eq,decide_eq_true h3];rfl
 ·show(sumsOk p p.m y p.g && holdP p p.v x false && decide (sumsV p y=z) && decide ((X.sm p.v fun k=>p.g k*x k)=z))=true
  rw[sumsOk_iff.2 ⟨rfl,h2,h3⟩,(holdP_iff (p:=p) (op:=false)).2 ⟨rfl,h1⟩,sumsV_eq,decide_eq_true h4,decide_eq_true h5];rfl
 ·show(holdP p p.v x false && holdP p p.v y true && decide (0 < X.sm p.v fun k=>p.g k*y k) && decide ((0:Rat)=0))=true
  rw[(holdP_iff (p:=p) (op:=false)).2 ⟨rfl,h1⟩,(holdP_iff (p:=p) (op:=true)).2 ⟨rfl,fun r hr=>h2 r hr⟩,decide_eq_true h3];rfl
theorem right_ans {kind:Int} (h:rightP p kind xn yn x y z=true):∃ n:Nat,kind=n∧AnsP p n xn yn x y z:=by
 unfold rightP at h
 split at h
 ·rename_i hk
  simp only[Bool.and_eq_true,decide_eq_true_eq] at h
  obtain⟨⟨⟨h1,h2⟩,h3⟩,h4⟩:=h
  obtain⟨a1,a2,a3⟩:=sumsOk_iff.1 h1
  obtain⟨b1,b2⟩:=holdP_iff.1 h2
  rw[sumsV_eq] at h3
  exact⟨0,hk,.inr (.inl ⟨rfl,b1,a1,b2,a2,a3,h3,h4⟩)⟩
 ·split at h
  ·rename_i _ hk
   simp only[Bool.and_eq_true,decide_eq_true_eq] at h
   obtain⟨⟨⟨h1,h2⟩,h3⟩,h4⟩:=h
   obtain⟨a1,a2,a3⟩:=sumsOk_iff.1 h1
   rw[sumsV_eq] at h3
   exact⟨1,hk,.inl ⟨rfl,h2,a1,h4,a2,a3,h3⟩⟩
  ·split at h
   ·rename_i _ _ hk
    simp only[Bool.and_eq_true,decide_eq_true_eq] at h
    obtain⟨⟨⟨h1,h2⟩,h3⟩,h4⟩:=h
    obtain⟨b1,b2⟩:=holdP_iff.1 h1
    obtain⟨c1,c2⟩:=holdP_iff.1 h2
    exact⟨2,hk,.inr (.inr ⟨rfl,b1,c1,h4,b2,c2,h3⟩)⟩
   ·cases h
theorem right_sem {kind:Int} (h:rightP p kind xn yn x y z=true):X.Sem p kind z:=by
 obtain⟨n,rfl,h2⟩:=right_ans h
 exact h2.sem
end
def exL1:List X.Ln:=[([1,0],2),([0,1],3),([1,1],4)]
def exL2:List X.Ln:=exL1++[([-1,0],-3)]
def exL3:List X.Ln:=[([0,1],3)]
def exG1 (_:Nat):Rat:=1
def exG3 (k:Nat):Rat:=if k=0 then 1 else -1
theorem lt3 {P:Nat→Prop} {n:Nat} (h:∀ r:Fin n,P r.1):∀ r,r < n→P r:=fun r hr=>h ⟨r,hr⟩
theorem ex1:X.Sem (X.lpOf 2 exL1 exG1) 0 4:=X.Sem.opt (x:=fun k=>if k=0 then 1 else 3) (y:=fun k=>if k=2 then 1 else 0)
 ⟨lt3 (n:=3) (by decide +kernel),lt3 (n:=3) (by decide +kernel),lt3 (n:=2) (by decide +kernel),by decide +kernel,by decide +kernel⟩
theorem ex2:X.Sem (X.lpOf 2 exL2 exG1) 1 0:=X.Sem.inf (y:=fun k=>if k=0 then 1 else if k=3 then 1 else 0)
 ⟨lt3 (n:=4) (by decide +kernel),lt3 (n:=2) (by decide +kernel),by decide +kernel⟩
theorem ex3:X.Sem (X.lpOf 2 exL3 exG3) 2 0:=X.Sem.unb (x:=fun _=>0) (y:=fun k=>if k=0 then 1 else 0)
 ⟨lt3 (n:=1) (by decide +kernel),lt3 (n:=1) (by decide +kernel),by decide +kernel⟩
theorem ex4:corS 2 exL2 [4,5,6,1]=([1,4],0):=by
 have h:coreLs [4,5,6,1]=[1,4,5,6]:=by
  unfold coreLs srt
  simp[List.mergeSort,List.MergeSort.Internal.splitInTwo,List.merge]
  decide +kernel
 unfold corS
 rw[h]
 decide +kernel
def smallB (q:Rat):Bool:=decide (q.num.natAbs < 1000000000) && decide (q.den < 1000000000)
def lsqB (w:Nat) (L:List X.Ln):Bool:=L.all fun c=>decide (c.1.length=w) && ((List.range w).all fun k=>smallB (X.co c k)) && smallB c.2
theorem sq_small {q:Rat} (h:smallB q=true):Sq 1 q:=by
 unfold smallB at h
 rw[Bool.and_eq_true,decide_eq_true_eq,decide_eq_true_eq] at h
 exact⟨digs_len_le (k:=1) (by omega),digs_len_le (k:=1) (by omega)⟩
theorem LSq.of {w:Nat} {L:List X.Ln} (h:lsqB w L=true):LSq 1 w L:=fun c hc=>by
 have:=List.all_eq_true.1 h c hc
 rw[Bool.and_eq_true,Bool.and_eq_true,decide_eq_true_eq] at this
 exact⟨this.1.1,fun k hk=>sq_small (List.all_eq_true.1 this.1.2 k (List.mem_range.2 hk)),sq_small this.2⟩
theorem exL1_sq:LSq 1 2 exL1:=.of (by decide +kernel)
theorem exL2_sq:LSq 1 2 exL2:=.of (by decide +kernel)
theorem exL3_sq:LSq 1 2 exL3:=.of (by decide +kernel)
theorem exG1_sq (k:Nat):Sq 1 (exG1 k):=X.sq_one
theorem exG3_sq (k:Nat):Sq 1 (exG3 k):=by
 unfold exG3;split
 ·exact X.sq_one
 ·exact X.sq_one.neg
theorem exFits:Fits 2 4 1:=⟨by decide +kernel,by decide +kernel,by decide,by decide,by decide⟩
end Go.Proofs.YtaongbhamadlkaaGreat
namespace Go.Proofs.YtaongbhamadlkaaGreat
open W Go.RowKit
theorem v3 {P:Nat→Prop} {v:Nat} (h:1≤v∧v≤3) (h1:P 1) (h2:P 2) (h3:P 3):P v:=by
 match v,h with
 |1,_=>exact h1
 |2,_=>exact h2
 |3,_=>exact h3
theorem someFits (l:List Int):Fits (someV l) 6 1:=v3 (P:=fun v=>Fits v 6 1) (someV_le l) ⟨by decide +kernel,by decide +kernel,by decide,by decide,by decide⟩ ⟨by decide +kernel,by decide +kernel,by decide,by decide,by decide⟩ ⟨by decide +kernel,by decide +kernel,by decide,by decide,by decide⟩
theorem FMok.le {w n n' K:Nat} (h:FMok w n K) (hn:n'≤n):FMok w n' K:=⟨fun k hk=>Nat.le_trans (X.nbs_mono hn k) (h.n k hk),h.k⟩
theorem szR_1 (v m K0:Nat):K0≤szR v m K0:=by unfold szR szL;omega
end Go.Proofs.YtaongbhamadlkaaGreat
namespace Go.Proofs.YtaongbhamadlkaaGreat
open W Go.RowKit
def someK:Nat:=szR 3 6 1+4
theorem someK_le (l:List Int):szR (someV l) 6 1+4≤someK:=v3 (P:=fun v=>szR v 6 1+4≤someK) (someV_le l) (by decide +kernel) (by decide +kernel) (by decide +kernel)
theorem someKD (l:List Int):Dok (someV l) someK:=v3 (P:=fun v=>Dok v someK) (someV_le l) (by unfold Dok;decide +kernel) (by unfold Dok;decide +kernel) (by unfold Dok;decide +kernel)
theorem someKD6:Dok 6 someK:=by unfold Dok;decide +kernel
theorem someL19 (l:List Int):szL 6 1≤19000000:=by decide +kernel
theorem someR (l:List Int):szR (someV l) 6 1≤180000000:=v3 (P:=fun v=>szR v 6 1≤180000000) (someV_le l) (by decide +kernel) (by decide +kernel) (by decide +kernel)
theorem AnsP.len {p:X.Lp} {kind xn yn:Nat} {x y:Nat→Rat} {z:Rat} (h:AnsP p kind xn yn x y z) {N:Nat} (hv:p.v≤N) (hm:p.m≤N):xn≤N∧yn≤N:=by
 rcases h with ⟨_,h1,h2,_⟩|⟨_,h1,h2,_⟩|⟨_,h1,h2,_⟩ <;> constructor <;> omega
def am0:Am:=⟨.slice none 0 0,.slice none 0 0,fun _=>m00,fun _=>m00,m00⟩
theorem has_am0 {F:List Fct}:Has F (fA am0 0 0 (fun _=>0) (fun _=>0) 0):=has_A (has_nil0F _ _) (has_nil0F _ _) hasQ0
namespace U
open Z
attribute [local irreducible] WC WL WD YO LO LoopEnd W.Fin Scalar SliceT FieldAt Row ArrT AllocT KnS Has W.One SrcE IntT
theorem d4 {G G':Prop} (h:G') (s:Bx G'→G:=by
 intro h
 first|(apply WC.draw (id:=4) [0,1,2,3,4,5,7,10,11] (.held 0 (.held 1 (.held 2 (.held 3 (.held 4 (.held 5 (.held 7 (.held 10 (.held 11 (.loud 6 (.loud 8 (.loud 9 (.loud 12 (.loud 13 (.done))))))))))))))) mixed (by kernel_rfl))|(apply WC.draw (id:=9) [0,1,2,3,4] (.held 0 (.held 1 (.held 2 (.held 3 (.held 4 (.loud 5 (.done))))))) mixed (by kernel_rfl))|(apply WC.draw (id:=11) [0,1,2,3,4,6,7] (.held 0 (.held 1 (.held 2 (.held 3 (.held 4 (.held 6 (.loud 5 (.held 7 (.done))))))))) mixed (by kernel_rfl))|fail
 exact Bx.h h):G:=s ⟨h⟩
theorem rsolveL_c (M:Pm) (l:List Int):FnB Tryz.prog 19 [pgv M (someV l)] [] [fP M (someP l 6)] (IsAnR (someP l 6) (szR (someV l) 6 1)):=
 rsolve_c M (someV l) (someL l 6) (someG l) 1 (szK 6 1) (szL 6 1) (szR (someV l) 6 1) (szs_of (someFits l) (someL_sq l 6) (someL_len l 6) (fun k _=>someG_sq l k)) (someL_sq l 6) (someV_le l).1 (by have:=(someV_le l).2;omega) (by have:=someL_len l 6;omega) (someL19 l) (by unfold szR;omega) (by unfold szR;omega) (by unfold szR;omega)
set_option maxHeartbeats 16000000 in
set_option maxRecDepth 60000 in
theorem checksLaw_h (hlv:FnB Tryz.prog 18 [] [] [] (IsV (.bool true))) (v0 v1:Value) (l ml:List Int) (how at_ by_:Int) (hl:∀ x∈l,I64 x) (hml:∀ x∈ml,I64 x) (hh:I64 how) (ha:I64 at_) (hb:I64 by_) :
  FnB Tryz.prog 4 [v0,v1,.int .i64 how,.int .i64 at_,.int .i64 by_] [] [sI v0 l,sI v1 ml] (IsV (.bool true)):=by
 refine fn_of [(0,v0),(1,v1),(2,(.int .i64 how)),(3,(.int .i64 at_)),(4,(.int .i64 by_))] 66 Tryz.func4 rfl Tryz.ntmps4 (by kernel_rfl) rfl suA fun h0=>?_
 have hV:=someV_le l
 have hF:=someFits l
 have hS:=someL_sq l 6
 have hLn:=someL_len l 6
 have hG:=fun k (_:k < someV l)=>someG_sq l k
 have hR:=szR_1 (someV l) 6 1
 have hR18:=someR l
 have hR18m:=someR ml
 have hKl:=someK_le l
 have hKm:=someK_le ml
 have hdv:=someKD l
 have hd6:=someKD6
 refine WC.fact (fA am0 0 0 (fun _=>0) (fun _=>0) 0) has_am0 ?_
 repeat'(first|refine gA ?_|(refine goG ?_;intro g)|(refine goV ?_;intro v)|refine goE ?_|(refine goEG ?_;intro g)|(refine goEV ?_;intro v)|refine goD ?_|refine goXD ?_|(refine goDG ?_;intro g)|(refine goDV ?_;intro v)|refine gY ?_|refine d4 ?_|fail)
 refine WL.callK (some_c v0 l 6 hl (by decide)) ?_
 rintro _ _ _ ⟨M,rfl,rfl,rfl⟩
 simp only[List.nil_append,List.cons_append]
 rw[show(someP l 6).v=someV l from rfl]
 have hsv:=rsolveL_c M l
 refine WL.fact' (fF M.gv (someV l) M.mg (someG l)) (W.Has.pG (L:=someL l 6) (show Has _ (fP M (X.lpOf (someV l) (someL l 6) (someG l))) from hmA)) ?_
 repeat'(first|refine gA ?_|(refine goG ?_;intro g)|(refine goV ?_;intro v)|refine goE ?_|(refine goEG ?_;intro g)|(refine goEV ?_;intro v)|refine goD ?_|refine goXD ?_|(refine goDG ?_;intro g)|(refine goDV ?_;intro v)|refine gY ?_|refine d4 ?_|fail)
 revert g;intro gp
 refine WL.callK hsv ?_
 rintro _ _ _ ⟨A,k,xn,yn,x,y,z,rfl,rfl,rfl,hA,hx,hy,hz⟩
 simp only[List.nil_append,List.cons_append]
 obtain⟨hxn,hyn⟩:=hA.len (N:=6) (show someV l≤6 by omega) (show(someL l 6).length≤6 from hLn)
 refine WL.fact' (fF A.xv xn A.mx x) (W.Has.ax (M:=A) (xn:=xn) (yn:=yn) (x:=x) (y:=y) (z:=z) hmA) ?_
 refine WL.fact' (fF A.yv yn A.my y) (W.Has.ay (M:=A) (xn:=xn) (yn:=yn) (x:=x) (y:=y) (z:=z) hmA) ?_
 refine WL.fact' (isQ (qv A.mz) z) (W.Has.az (M:=A) (xn:=xn) (yn:=yn) (x:=x) (y:=y) (z:=z) hmA) ?_
 repeat'(first|refine gA ?_|(refine goG ?_;intro g)|(refine goV ?_;intro v)|refine goE ?_|(refine goEG ?_;intro g)|(refine goEV ?_;intro v)|refine goD ?_|refine goXD ?_|(refine goDG ?_;intro g)|(refine goDV ?_;intro v)|refine gY ?_|refine d4 ?_|fail)
 revert g;intro ga
 refine WL.callK (bent_c A (k:Nat) xn yn 6 (szR (someV l) 6 1) x y z how at_ by_ hh ha hb (by decide) hxn hyn (by omega) hx hy hz) ?_
 rintro _ _ _ ⟨A2,k2,xn2,yn2,x2,y2,z2,rfl,rfl,rfl,hxn2,hyn2,hx2,hy2,hz2⟩
 simp only[List.nil_append,List.cons_append]
 refine WL.fact' (fF A2.xv xn2 A2.mx x2) (W.Has.ax (M:=A2) (xn:=xn2) (yn:=yn2) (x:=x2) (y:=y2) (z:=z2) hmA) ?_
 refine WL.fact' (fF A2.yv yn2 A2.my y2) (W.Has.ay (M:=A2) (xn:=xn2) (yn:=yn2) (x:=x2) (y:=y2) (z:=z2) hmA) ?_
 refine WL.fact' (isQ (qv A2.mz) z2) (W.Has.az (M:=A2) (xn:=xn2) (yn:=yn2) (x:=x2) (y:=y2) (z:=z2) hmA) ?_
 repeat'(first|refine gA ?_|(refine goG ?_;intro g)|(refine goV ?_;intro v)|refine goE ?_|(refine goEG ?_;intro g)|(refine goEV ?_;intro v)|refine goD ?_|refine goXD ?_|(refine goDG ?_;intro g)|(refine goDV ?_;intro v)|refine gY ?_|refine d4 ?_|fail)
 revert g;intro gb
 refine WD.callK (bent_c A2 k2 xn2 yn2 7 (szR (someV l) 6 1+2) x2 y2 z2 by_ how at_ hb hh ha (by decide) hxn2 hyn2 (by omega) hx2 hy2 hz2) ?_
 rintro _ _ _ ⟨A3,k3,xn3,yn3,x3,y3,z3,rfl,rfl,rfl,hxn3,hyn3,hx3,hy3,hz3⟩
 simp only[List.nil_append,List.cons_append]
 repeat'(first|refine gA ?_|(refine goG ?_;intro g)|(refine goV ?_;intro v)|refine goE ?_|(refine goEG ?_;intro g)|(refine goEV ?_;intro v)|refine goD ?_|refine goXD ?_|(refine goDG ?_;intro g)|(refine goDV ?_;intro v)|refine gY ?_|refine d4 ?_|fail)
 refine WD.callK (some_c v1 ml 6 hml (by decide)) ?_
 rintro _ _ _ ⟨Mm,rfl,rfl,rfl⟩
 simp only[List.nil_append,List.cons_append]
 rw[show(someP ml 6).v=someV ml from rfl]
 repeat'(first|refine gA ?_|(refine goG ?_;intro g)|(refine goV ?_;intro v)|refine goE ?_|(refine goEG ?_;intro g)|(refine goEV ?_;intro v)|refine goD ?_|refine goXD ?_|(refine goDG ?_;intro g)|(refine goDV ?_;intro v)|refine gY ?_|refine d4 ?_|fail)
 refine WD.callK (rsolveL_c Mm ml) ?_
 rintro _ _ _ ⟨A4,k4,xn4,yn4,x4,y4,z4,rfl,rfl,rfl,hA4,hx4,hy4,hz4⟩
 simp only[List.nil_append,List.cons_append]
 repeat'(first|refine gA ?_|(refine goG ?_;intro g)|(refine goV ?_;intro v)|refine goE ?_|(refine goEG ?_;intro g)|(refine goEV ?_;intro v)|refine goD ?_|refine goXD ?_|(refine goDG ?_;intro g)|(refine goDV ?_;intro v)|refine gY ?_|refine d4 ?_|fail)
 have hm0:am0.xv=.slice none 0 0:=rfl
 (apply WD.kl_bs;exact rfl;rotate_left;exact rfl;exact rfl;(refine LO.bsA6 (M1:=A) (M2:=A2) (M3:=A3) (M4:=A4) (M5:=am0) (M6:=am0) (k1:=k) (k2:=k2) (k3:=k3) (k4:=k4) (k5:=0) (k6:=3) ?_ ?_ ?_ ?_ ?_ ?_ hmA hmA hmA hmA (show Has _ (fA am0 0 0 (fun _=>0) (fun _=>0) 0) from hmA) (show Has _ (fA am0 0 0 (fun _=>0) (fun _=>0) 0) from hmA) ?_;exact rfl;exact rfl;exact rfl;exact rfl;exact rfl;exact rfl);apply allAnd;(intro _;(first|(focus(apply Or.inr;constructor;(repeat(first|exact List.Sublist.refl _|exact List.nil_sublist _|apply List.Sublist.cons_cons|apply List.Sublist.cons));(first|exact fun _ h=>h|(intro f hf;(repeat(first|exact hf|apply List.Mem.tail))));done))|(apply Or.inl;kernel_rfl))))
 intro lv
 repeat'(first|refine gA ?_|(refine goG ?_;intro g)|(refine goV ?_;intro v)|refine goE ?_|(refine goEG ?_;intro g)|(refine goEV ?_;intro v)|refine goD ?_|refine goXD ?_|(refine goDG ?_;intro g)|(refine goDV ?_;intro v)|refine gY ?_|refine d4 ?_|fail)
 have hsx:∀ i,i < 6→∀ j,j < ((A6 ⟨A,k,xn,yn,x,y,z⟩ ⟨A2,k2,xn2,yn2,x2,y2,z2⟩ ⟨A3,k3,xn3,yn3,x3,y3,z3⟩ ⟨A4,k4,xn4,yn4,x4,y4,z4⟩ ⟨am0,0,0,0,fun _=>0,fun _=>0,0⟩ ⟨am0,3,0,0,fun _=>0,fun _=>0,0⟩) i).xn→Sq someK (((A6 ⟨A,k,xn,yn,x,y,z⟩ ⟨A2,k2,xn2,yn2,x2,y2,z2⟩ ⟨A3,k3,xn3,yn3,x3,y3,z3⟩ ⟨A4,k4,xn4,yn4,x4,y4,z4⟩ ⟨am0,0,0,0,fun _=>0,fun _=>0,0⟩ ⟨am0,3,0,0,fun _=>0,fun _=>0,0⟩) i).x j):=
  ltA6 (fun j hj=>(hx j hj).up (by omega)) (fun j hj=>(hx2 j hj).up (by omega)) (fun j hj=>(hx3 j hj).up (by omega)) (fun j hj=>(hx4 j hj).up (by omega)) (fun j hj=>absurd hj (Nat.not_lt_zero _)) (fun j hj=>absurd hj (Nat.not_lt_zero _))
 have hsy:∀ i,i < 6→∀ j,j < ((A6 ⟨A,k,xn,yn,x,y,z⟩ ⟨A2,k2,xn2,yn2,x2,y2,z2⟩ ⟨A3,k3,xn3,yn3,x3,y3,z3⟩ ⟨A4,k4,xn4,yn4,x4,y4,z4⟩ ⟨am0,0,0,0,fun _=>0,fun _=>0,0⟩ ⟨am0,3,0,0,fun _=>0,fun _=>0,0⟩) i).yn→Sq someK (((A6 ⟨A,k,xn,yn,x,y,z⟩ ⟨A2,k2,xn2,yn2,x2,y2,z2⟩ ⟨A3,k3,xn3,yn3,x3,y3,z3⟩ ⟨A4,k4,xn4,yn4,x4,y4,z4⟩ ⟨am0,0,0,0,fun _=>0,fun _=>0,0⟩ ⟨am0,3,0,0,fun _=>0,fun _=>0,0⟩) i).y j):=
  ltA6 (fun j hj=>(hy j hj).up (by omega)) (fun j hj=>(hy2 j hj).up (by omega)) (fun j hj=>(hy3 j hj).up (by omega)) (fun j hj=>(hy4 j hj).up (by omega)) (fun j hj=>absurd hj (Nat.not_lt_zero _)) (fun j hj=>absurd hj (Nat.not_lt_zero _))
 refine WC.freezeAs lv 6 (A6 ⟨A,k,xn,yn,x,y,z⟩ ⟨A2,k2,xn2,yn2,x2,y2,z2⟩ ⟨A3,k3,xn3,yn3,x3,y3,z3⟩ ⟨A4,k4,xn4,yn4,x4,y4,z4⟩ ⟨am0,0,0,0,fun _=>0,fun _=>0,0⟩ ⟨am0,3,0,0,fun _=>0,fun _=>0,0⟩) (by repeat(first|exact Sel.head|apply Sel.tail)) rfl
  (ltA6 (show Has _ (fA A xn yn x y z) from hmA) (show Has _ (fA A2 xn2 yn2 x2 y2 z2) from hmA) (show Has _ (fA A3 xn3 yn3 x3 y3 z3) from hmA) (show Has _ (fA A4 xn4 yn4 x4 y4 z4) from hmA) (show Has _ (fA am0 0 0 (fun _=>0) (fun _=>0) 0) from hmA) (show Has _ (fA am0 0 0 (fun _=>0) (fun _=>0) 0) from hmA)) ?_
 generalize (A6 ⟨A,k,xn,yn,x,y,z⟩ ⟨A2,k2,xn2,yn2,x2,y2,z2⟩ ⟨A3,k3,xn3,yn3,x3,y3,z3⟩ ⟨A4,k4,xn4,yn4,x4,y4,z4⟩ ⟨am0,0,0,0,fun _=>0,fun _=>0,0⟩ ⟨am0,3,0,0,fun _=>0,fun _=>0,0⟩)=AA at *
 refine WC.lp (σ:=Nat) (fun i=>[(15,.int .i64 (i:Int)),(14,lv),(12,ptr ga),(11,ptr gp)]) (fun _=>[Ow.cells ga 33 (acs A k),Ow.cells gp 26 (pcs M (someV l))])
  (fun _=>[fAs lv 6 AA,slC lv 6 7 (acell AA),fA A xn yn x y z,fP M (someP l 6),ge h0]) (fun i=>i≤6) (fun i=>6 - i) 0 (Nat.zero_le _) ?_
 intro i hi
 by_cases c:i < 6
 ·refine WC.fact (fA (AA i).M (AA i).xn (AA i).yn (AA i).x (AA i).y (AA i).z) (W.Has.asf (v:=lv) hmA c) ?_
  have hr:=rright_c M (someV l) (someL l 6) (someG l) (AA i).M someK (AA i).xn (AA i).yn (AA i).x (AA i).y (AA i).z (AA i).k hdv (hd6.le hLn) (by omega) (by omega) (hS.up (by omega)) (fun k hk=>(hG k hk).up (by omega)) (hsx i c) (hsy i c)
  have hc:=checkL_c M (AA i).M (kind:=(AA i).k) (z:=(AA i).z) hF hS hLn hG (by omega) hdv hd6 (hsx i c) (hsy i c)
  generalize hrp:rightP (X.lpOf (someV l) (someL l 6) (someG l)) (AA i).k (AA i).xn (AA i).yn (AA i).x (AA i).y (AA i).z=rr at *
  repeat'(first|refine gA ?_|(refine goG ?_;intro g)|(refine goV ?_;intro v)|refine goE ?_|(refine goEG ?_;intro g)|(refine goEV ?_;intro v)|refine goD ?_|refine goXD ?_|(refine goDG ?_;intro g)|(refine goDV ?_;intro v)|refine gY ?_|refine d4 ?_|fail)
  first|refine WL.callV (hr) ?_|refine WD.callV (hr) ?_
  cases rr with
  |true=>
   rw[if_pos rfl] at hc
   repeat'(first|refine gA ?_|(refine goG ?_;intro g)|(refine goV ?_;intro v)|refine goE ?_|(refine goEG ?_;intro g)|(refine goEV ?_;intro v)|refine goD ?_|refine goXD ?_|(refine goDG ?_;intro g)|(refine goDV ?_;intro v)|refine gY ?_|refine d4 ?_|fail)
   first|refine WL.callV (hc) ?_|refine WD.callV (hc) ?_
   repeat'(first|refine gA ?_|(refine goG ?_;intro g)|(refine goV ?_;intro v)|refine goE ?_|(refine goEG ?_;intro g)|(refine goEV ?_;intro v)|refine goD ?_|refine goXD ?_|(refine goDG ?_;intro g)|(refine goDV ?_;intro v)|refine gY ?_|refine d4 ?_|fail)
   exact LoopEnd.mk (i+1) c (by show 6 - (i+1) < 6 - i;omega)
  |false=>
   rw[if_neg (by decide)] at hc
   repeat'(first|refine gA ?_|(refine goG ?_;intro g)|(refine goV ?_;intro v)|refine goE ?_|(refine goEG ?_;intro g)|(refine goEV ?_;intro v)|refine goD ?_|refine goXD ?_|(refine goDG ?_;intro g)|(refine goDV ?_;intro v)|refine gY ?_|refine d4 ?_|fail)
   first|refine WL.callV (hc) ?_|refine WD.callV (hc) ?_
   repeat'(first|refine gA ?_|(refine goG ?_;intro g)|(refine goV ?_;intro v)|refine goE ?_|(refine goEG ?_;intro g)|(refine goEV ?_;intro v)|refine goD ?_|refine goXD ?_|(refine goDG ?_;intro g)|(refine goDV ?_;intro v)|refine gY ?_|refine d4 ?_|fail)
   exact LoopEnd.mk (i+1) c (by show 6 - (i+1) < 6 - i;omega)
 ·obtain rfl:i=6:=by omega
  have hc:=checkL_c M A (kind:=(k:Nat)) (z:=z) hF hS hLn hG (R:=someK) (by omega) hdv hd6 (fun j hj=>(hx j hj).up (by omega)) (fun j hj=>(hy j hj).up (by omega))
  rw[if_pos (show rightP (X.lpOf (someV l) (someL l 6) (someG l)) k xn yn x y z=true from ans_right hA)] at hc
  repeat'(first|refine gA ?_|(refine goG ?_;intro g)|(refine goV ?_;intro v)|refine goE ?_|(refine goEG ?_;intro g)|(refine goEV ?_;intro v)|refine goD ?_|refine goXD ?_|(refine goDG ?_;intro g)|(refine goDV ?_;intro v)|refine gY ?_|refine d4 ?_|fail)
  first|refine WL.callV (hc) ?_|refine WD.callV (hc) ?_
  repeat'(first|refine gA ?_|(refine goG ?_;intro g)|(refine goV ?_;intro v)|refine goE ?_|(refine goEG ?_;intro g)|(refine goEV ?_;intro v)|refine goD ?_|refine goXD ?_|(refine goDG ?_;intro g)|(refine goDV ?_;intro v)|refine gY ?_|refine d4 ?_|fail)
  first|refine WL.callV (hlv) ?_|refine WD.callV (hlv) ?_
  repeat'(first|refine gA ?_|(refine goG ?_;intro g)|(refine goV ?_;intro v)|refine goE ?_|(refine goEG ?_;intro g)|(refine goEV ?_;intro v)|refine goD ?_|refine goXD ?_|(refine goDG ?_;intro g)|(refine goDV ?_;intro v)|refine gY ?_|refine d4 ?_|fail)
  exact WC.ret (Fin.v (ResE.t1 rfl rfl) meA rfl)
end U
end Go.Proofs.YtaongbhamadlkaaGreat
