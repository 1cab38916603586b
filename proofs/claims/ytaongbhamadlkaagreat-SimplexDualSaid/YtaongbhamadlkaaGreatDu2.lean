/- The law SimplexDual returns true for every input and leaves its arguments as they were. Conditions: none. -/
import Derived.Test.YtaongbhamadlkaaGreatDu1
import Derived.Test.YtaongbhamadlkaaGreatBs12
import Derived.Test.YtaongbhamadlkaaGreatBs11
import Derived.Test.YtaongbhamadlkaaGreatBs13
import Derived.Test.YtaongbhamadlkaaGreatBs14
set_option linter.unusedVariables false
set_option linter.unusedSimpArgs false
set_option linter.unusedSectionVars false
namespace Go.Proofs.YtaongbhamadlkaaGreat
open W Go.RowKit
def IsAw (N R:Nat):RPost:=fun v B G=>∃ (M:Am) (kind:Int) (xn yn:Nat) (x y:Nat→Rat) (z:Rat),v=agv M kind∧B=[]∧G=[fA M xn yn x y z]∧xn≤N∧yn≤N∧(∀ k,k < xn→Sq R (x k))∧(∀ k,k < yn→Sq R (y k))∧Sq R z
theorem i64_tdiv {i:Int} (h:I64 i):IntKind.i64.wrap (i.tdiv 9)=i.tdiv 9∧I64 (i.tdiv 9):=by
 have h1:=Int.natAbs_tdiv i 9
 have h2:i.natAbs / 9≤i.natAbs:=Nat.div_le_self _ _
 have h3:i.natAbs / 9*9≤i.natAbs:=Nat.div_mul_le_self _ _
 obtain⟨h4,h5⟩:=h
 have h6:(i.tdiv 9).natAbs=i.natAbs / 9:=h1
 have h7:I64 (i.tdiv 9):=by constructor <;> omega
 exact⟨wrap_i64 h7.1 h7.2,h7⟩
def bentV (b:Int):Rat:=Rat.divInt (around b 9 - 4) (1+around (b.tdiv 9) 3)
theorem bentV_sq (b:Int):Sq 1 (bentV b):=by
 have h1:=around_lt (n:=b) (m:=9) (by decide)
 have h2:=around_lt (n:=b.tdiv 9) (m:=3) (by decide)
 exact sq_div (by omega) (by omega) (by omega)
def mulK (y:Nat→Rat) (f:Rat) (i k:Nat):Rat:=if k < i then y k*f else y k
theorem mulK_up {y:Nat→Rat} {f:Rat} {i:Nat} (k:Nat):upd (mulK y f i) i (y i*f) k=mulK y f (i+1) k:=by
 unfold mulK
 by_cases e:k=i
 ·subst e;rw[upd_at,if_pos (by omega)]
 ·rw[upd_ne e]
  by_cases c:k < i
  ·rw[if_pos c,if_pos (by omega)]
  ·rw[if_neg c,if_neg (by omega)]
theorem upd_sq {R n i:Nat} {q:Nat→Rat} {a:Rat} (h:∀ k,k < n→Sq R (q k)) (ha:Sq R a):∀ k,k < n→Sq R (upd q i a k):=fun k hk=>by
 by_cases e:k=i
 ·subst e;rw[upd_at];exact ha
 ·rw[upd_ne e];exact h k hk
namespace U
open Z
attribute [local irreducible] WC WL WD YO LO LoopEnd W.Fin Scalar SliceT FieldAt Row ArrT AllocT KnS Has W.One SrcE IntT
theorem d20 {G G':Prop} (h:G') (s:Bx G'→G:=by
 intro h
 first|(apply WC.draw (id:=10) [0,1,2,3,4,5,6] (.held 0 (.held 1 (.held 2 (.held 3 (.held 4 (.held 5 (.held 6 (.loud 7 (.loud 8 (.loud 9 (.done))))))))))) mixed (by kernel_rfl))|(apply WC.draw (id:=14) [0,1,2,3,4,5,6] (.held 0 (.held 1 (.held 2 (.held 3 (.held 4 (.held 5 (.held 6 (.loud 7 (.loud 8 (.loud 9 (.done))))))))))) mixed (by kernel_rfl))|(apply WC.draw (id:=25) [0,1,2,3,4,5,6] (.held 0 (.held 1 (.held 2 (.held 3 (.held 4 (.held 5 (.held 6 (.loud 7 (.loud 8 (.loud 9 (.done))))))))))) mixed (by kernel_rfl))|fail
 exact Bx.h h):G:=s ⟨h⟩
set_option maxHeartbeats 16000000 in
set_option maxRecDepth 60000 in
theorem bent_c (M:Am) (kind:Int) (xn yn N R:Nat) (x y:Nat→Rat) (z:Rat) (how at_ by_:Int) (hh:I64 how) (ha:I64 at_) (hb:I64 by_) (hN:N≤1000) (hxn:xn≤N) (hyn:yn≤N) (hR:R≤190000000) (hx:∀ k,k < xn→Sq R (x k)) (hy:∀ k,k < yn→Sq R (y k)) (hz:Sq R z) :
  FnB Tryz.prog 20 [agv M kind,.int .i64 how,.int .i64 at_,.int .i64 by_] [] [fA M xn yn x y z] (IsAw (N+1) (R+2)):=by
 refine fn_of [(0,(agv M kind)),(1,(.int .i64 how)),(2,(.int .i64 at_)),(3,(.int .i64 by_))] 118 Tryz.func20 rfl Tryz.ntmps20 (by kernel_rfl) rfl suA fun h0=>?_
 have h9:=around_lt (n:=by_) (m:=9) (by decide)
 have h3:=around_lt (n:=by_.tdiv 9) (m:=3) (by decide)
 have h7:=around_lt (n:=how) (m:=7) (by decide)
 have hvq:=bentV_sq by_
 refine WC.fact (fF M.xv xn M.mx x) (W.Has.ax (M:=M) (xn:=xn) (yn:=yn) (x:=x) (y:=y) (z:=z) hmA) ?_
 refine WC.fact (fF M.yv yn M.my y) (W.Has.ay (M:=M) (xn:=xn) (yn:=yn) (x:=x) (y:=y) (z:=z) hmA) ?_
 refine WC.fact (isQ (qv M.mz) z) (W.Has.az (M:=M) (xn:=xn) (yn:=yn) (x:=x) (y:=y) (z:=z) hmA) ?_
 repeat'(first|refine gA ?_|(refine goG ?_;intro g)|(refine goV ?_;intro v)|refine goE ?_|(refine goEG ?_;intro g)|(refine goEV ?_;intro v)|refine goD ?_|refine goXD ?_|(refine goDG ?_;intro g)|(refine goDV ?_;intro v)|refine gY ?_|refine d20 ?_|fail)
 first|refine WL.callV (around_c by_ 9 hb (by decide)) ?_|refine WD.callV (around_c by_ 9 hb (by decide)) ?_
 repeat'(first|refine gA ?_|(refine goG ?_;intro g)|(refine goV ?_;intro v)|refine goE ?_|(refine goEG ?_;intro g)|(refine goEV ?_;intro v)|refine goD ?_|refine goXD ?_|(refine goDG ?_;intro g)|(refine goDV ?_;intro v)|refine gY ?_|refine d20 ?_|fail)
 (apply WL.k_quo;(apply YO.tquo;exact rfl;exact rfl;omega);exact rfl;exact rfl)
 rw[(i64_tdiv hb).1]
 first|refine WL.callV (around_c (by_.tdiv 9) 3 (i64_tdiv hb).2 (by decide)) ?_|refine WD.callV (around_c (by_.tdiv 9) 3 (i64_tdiv hb).2 (by decide)) ?_
 repeat'(first|refine gA ?_|(refine goG ?_;intro g)|(refine goV ?_;intro v)|refine goE ?_|(refine goEG ?_;intro g)|(refine goEV ?_;intro v)|refine goD ?_|refine goXD ?_|(refine goDG ?_;intro g)|(refine goDV ?_;intro v)|refine gY ?_|refine d20 ?_|fail)
 first|refine WL.callK (Zn.rof (around by_ 9 - 4) (1+around (by_.tdiv 9) 3) (by show _ < 1000000000000000000;omega) (by show _ < 1000000000000000000;omega)) ?_|refine WD.callK (Zn.rof (around by_ 9 - 4) (1+around (by_.tdiv 9) 3) (by show _ < 1000000000000000000;omega) (by show _ < 1000000000000000000;omega)) ?_|refine LO.callM (Zn.rof (around by_ 9 - 4) (1+around (by_.tdiv 9) 3) (by show _ < 1000000000000000000;omega) (by show _ < 1000000000000000000;omega)) ?_
 rintro _ _ _ ⟨mv,rfl,rfl,rfl⟩
 simp only[List.nil_append,List.cons_append]
 refine WL.fact' (isQ (qv mv) (bentV by_)) hmA ?_
 repeat'(first|refine gA ?_|(refine goG ?_;intro g)|(refine goV ?_;intro v)|refine goE ?_|(refine goEG ?_;intro g)|(refine goEV ?_;intro v)|refine goD ?_|refine goXD ?_|(refine goDG ?_;intro g)|(refine goDV ?_;intro v)|refine gY ?_|refine d20 ?_|fail)
 first|refine WL.callV (around_c how 7 hh (by decide)) ?_|refine WD.callV (around_c how 7 hh (by decide)) ?_
 rename_i g4 g8 w1 xv w2
 revert v;intro yv
 revert g;intro g11
 generalize around how 7=r at *
 by_cases r0:r=0
 ·have h5:=around_lt (n:=by_) (m:=5) (by decide)
  repeat'(first|refine gA ?_|(refine goG ?_;intro g)|(refine goV ?_;intro v)|refine goE ?_|(refine goEG ?_;intro g)|(refine goEV ?_;intro v)|refine goD ?_|refine goXD ?_|(refine goDG ?_;intro g)|(refine goDV ?_;intro v)|refine gY ?_|refine d20 ?_|fail)
  first|refine WL.callV (around_c by_ 5 hb (by decide)) ?_|refine WD.callV (around_c by_ 5 hb (by decide)) ?_
  repeat'(first|refine gA ?_|(refine goG ?_;intro g)|(refine goV ?_;intro v)|refine goE ?_|(refine goEG ?_;intro g)|(refine goEV ?_;intro v)|refine goD ?_|refine goXD ?_|(refine goDG ?_;intro g)|(refine goDV ?_;intro v)|refine gY ?_|refine d20 ?_|fail)
  refine WC.freezeF xv xn M.mx x (by repeat(first|exact Sel.head|apply Sel.tail)) (W.Has.fm (v:=M.xv) (ms:=M.mx) hmA) ?_
  refine WC.freezeF yv yn M.my y (by repeat(first|exact Sel.head|apply Sel.tail)) (W.Has.fm (v:=M.yv) (ms:=M.my) hmA) ?_
  refine WC.ret ?_
  exact Fin.p [] [fA ⟨xv,yv,M.mx,M.my,M.mz⟩ xn yn x y z] (ResE.cV rfl rfl meA T.r33 rfl) meA (List.nil_sublist _) (.cons (has_A hmA hmA hmA) .nil) ⟨⟨xv,yv,M.mx,M.my,M.mz⟩,(around by_ 5 - 1),xn,yn,x,y,z,rfl,rfl,rfl,by omega,by omega,fun k hk=>(hx k hk).up (by omega),fun k hk=>(hy k hk).up (by omega),hz.up (by omega)⟩
 by_cases r1:r=1
 ·by_cases c0:0 < xn
  ·skip
   obtain⟨k,hk⟩:∃ k:Nat,around at_ (xn:Int)=k:=⟨(around at_ (xn:Int)).toNat,by have:=@around_lt at_ (xn:Int) (by omega);omega⟩
   have hkn:k < xn:=by have:=@around_lt at_ (xn:Int) (by omega);omega
   have har:=around_c at_ (xn:Int) ha (by omega)
   rw[hk] at har
   refine WL.fact' (isQ (qv (M.mx k)) (x k)) (W.Has.q (W.Has.fm (v:=M.xv) (ms:=M.mx) hmA) hkn) ?_
   repeat'(first|refine gA ?_|(refine goG ?_;intro g)|(refine goV ?_;intro v)|refine goE ?_|(refine goEG ?_;intro g)|(refine goEV ?_;intro v)|refine goD ?_|refine goXD ?_|(refine goDG ?_;intro g)|(refine goDV ?_;intro v)|refine gY ?_|refine d20 ?_|fail)
   first|refine WL.callV (har) ?_|refine WD.callV (har) ?_
   repeat'(first|refine gA ?_|(refine goG ?_;intro g)|(refine goV ?_;intro v)|refine goE ?_|(refine goEG ?_;intro g)|(refine goEV ?_;intro v)|refine goD ?_|refine goXD ?_|(refine goDG ?_;intro g)|(refine goDV ?_;intro v)|refine gY ?_|refine d20 ?_|fail)
   first|refine WL.callK (Zn.radd (M.mx k) mv (x k) (bentV by_) ((hx k hkn).sm (by omega)) (hvq.sm (by decide))) ?_|refine WD.callK (Zn.radd (M.mx k) mv (x k) (bentV by_) ((hx k hkn).sm (by omega)) (hvq.sm (by decide))) ?_|refine LO.callM (Zn.radd (M.mx k) mv (x k) (bentV by_) ((hx k hkn).sm (by omega)) (hvq.sm (by decide))) ?_
   rintro _ _ _ ⟨m3,rfl,rfl,rfl⟩
   simp only[List.nil_append,List.cons_append]
   repeat'(first|refine gA ?_|(refine goG ?_;intro g)|(refine goV ?_;intro v)|refine goE ?_|(refine goEG ?_;intro g)|(refine goEV ?_;intro v)|refine goD ?_|refine goXD ?_|(refine goDG ?_;intro g)|(refine goDV ?_;intro v)|refine gY ?_|refine d20 ?_|fail)
   refine WC.freezeF xv xn (upd M.mx k m3) (upd x k (x k+bentV by_)) (by repeat(first|exact Sel.head|apply Sel.tail)) (W.Has.mFset (k:=k) (ms:=M.mx) (m:=m3) (qf:=x) (W.Has.fm (v:=M.xv) (ms:=M.mx) hmA) hmA) ?_
   refine WC.freezeF yv yn M.my y (by repeat(first|exact Sel.head|apply Sel.tail)) (W.Has.fm (v:=M.yv) (ms:=M.my) hmA) ?_
   refine WC.ret ?_
   exact Fin.p [] [fA ⟨xv,yv,(upd M.mx k m3),M.my,M.mz⟩ xn yn (upd x k (x k+bentV by_)) y z] (ResE.cV rfl rfl meA T.r33 rfl) meA (List.nil_sublist _) (.cons (has_A hmA hmA hmA) .nil) ⟨⟨xv,yv,(upd M.mx k m3),M.my,M.mz⟩,kind,xn,yn,(upd x k (x k+bentV by_)),y,z,rfl,rfl,rfl,by omega,by omega,upd_sq (fun k hk=>(hx k hk).up (by omega)) ((((hx k hkn).add hvq)).up (by omega)),fun k hk=>(hy k hk).up (by omega),hz.up (by omega)⟩
  ·repeat'(first|refine gA ?_|(refine goG ?_;intro g)|(refine goV ?_;intro v)|refine goE ?_|(refine goEG ?_;intro g)|(refine goEV ?_;intro v)|refine goD ?_|refine goXD ?_|(refine goDG ?_;intro g)|(refine goDV ?_;intro v)|refine gY ?_|refine d20 ?_|fail)
   refine WC.freezeF xv xn M.mx x (by repeat(first|exact Sel.head|apply Sel.tail)) (W.Has.fm (v:=M.xv) (ms:=M.mx) hmA) ?_
   refine WC.freezeF yv yn M.my y (by repeat(first|exact Sel.head|apply Sel.tail)) (W.Has.fm (v:=M.yv) (ms:=M.my) hmA) ?_
   refine WC.ret ?_
   exact Fin.p [] [fA ⟨xv,yv,M.mx,M.my,M.mz⟩ xn yn x y z] (ResE.cV rfl rfl meA T.r33 rfl) meA (List.nil_sublist _) (.cons (has_A hmA hmA hmA) .nil) ⟨⟨xv,yv,M.mx,M.my,M.mz⟩,kind,xn,yn,x,y,z,rfl,rfl,rfl,by omega,by omega,fun k hk=>(hx k hk).up (by omega),fun k hk=>(hy k hk).up (by omega),hz.up (by omega)⟩
 by_cases r2:r=2
 ·by_cases c0:0 < yn
  ·skip
   obtain⟨k,hk⟩:∃ k:Nat,around at_ (yn:Int)=k:=⟨(around at_ (yn:Int)).toNat,by have:=@around_lt at_ (yn:Int) (by omega);omega⟩
   have hkn:k < yn:=by have:=@around_lt at_ (yn:Int) (by omega);omega
   have har:=around_c at_ (yn:Int) ha (by omega)
   rw[hk] at har
   refine WL.fact' (isQ (qv (M.my k)) (y k)) (W.Has.q (W.Has.fm (v:=M.yv) (ms:=M.my) hmA) hkn) ?_
   repeat'(first|refine gA ?_|(refine goG ?_;intro g)|(refine goV ?_;intro v)|refine goE ?_|(refine goEG ?_;intro g)|(refine goEV ?_;intro v)|refine goD ?_|refine goXD ?_|(refine goDG ?_;intro g)|(refine goDV ?_;intro v)|refine gY ?_|refine d20 ?_|fail)
   first|refine WL.callV (har) ?_|refine WD.callV (har) ?_
   repeat'(first|refine gA ?_|(refine goG ?_;intro g)|(refine goV ?_;intro v)|refine goE ?_|(refine goEG ?_;intro g)|(refine goEV ?_;intro v)|refine goD ?_|refine goXD ?_|(refine goDG ?_;intro g)|(refine goDV ?_;intro v)|refine gY ?_|refine d20 ?_|fail)
   first|refine WL.callK (Zn.radd (M.my k) mv (y k) (bentV by_) ((hy k hkn).sm (by omega)) (hvq.sm (by decide))) ?_|refine WD.callK (Zn.radd (M.my k) mv (y k) (bentV by_) ((hy k hkn).sm (by omega)) (hvq.sm (by decide))) ?_|refine LO.callM (Zn.radd (M.my k) mv (y k) (bentV by_) ((hy k hkn).sm (by omega)) (hvq.sm (by decide))) ?_
   rintro _ _ _ ⟨m3,rfl,rfl,rfl⟩
   simp only[List.nil_append,List.cons_append]
   repeat'(first|refine gA ?_|(refine goG ?_;intro g)|(refine goV ?_;intro v)|refine goE ?_|(refine goEG ?_;intro g)|(refine goEV ?_;intro v)|refine goD ?_|refine goXD ?_|(refine goDG ?_;intro g)|(refine goDV ?_;intro v)|refine gY ?_|refine d20 ?_|fail)
   refine WC.freezeF xv xn M.mx x (by repeat(first|exact Sel.head|apply Sel.tail)) (W.Has.fm (v:=M.xv) (ms:=M.mx) hmA) ?_
   refine WC.freezeF yv yn (upd M.my k m3) (upd y k (y k+bentV by_)) (by repeat(first|exact Sel.head|apply Sel.tail)) (W.Has.mFset (k:=k) (ms:=M.my) (m:=m3) (qf:=y) (W.Has.fm (v:=M.yv) (ms:=M.my) hmA) hmA) ?_
   refine WC.ret ?_
   exact Fin.p [] [fA ⟨xv,yv,M.mx,(upd M.my k m3),M.mz⟩ xn yn x (upd y k (y k+bentV by_)) z] (ResE.cV rfl rfl meA T.r33 rfl) meA (List.nil_sublist _) (.cons (has_A hmA hmA hmA) .nil) ⟨⟨xv,yv,M.mx,(upd M.my k m3),M.mz⟩,kind,xn,yn,x,(upd y k (y k+bentV by_)),z,rfl,rfl,rfl,by omega,by omega,fun k hk=>(hx k hk).up (by omega),upd_sq (fun k hk=>(hy k hk).up (by omega)) ((((hy k hkn).add hvq)).up (by omega)),hz.up (by omega)⟩
  ·repeat'(first|refine gA ?_|(refine goG ?_;intro g)|(refine goV ?_;intro v)|refine goE ?_|(refine goEG ?_;intro g)|(refine goEV ?_;intro v)|refine goD ?_|refine goXD ?_|(refine goDG ?_;intro g)|(refine goDV ?_;intro v)|refine gY ?_|refine d20 ?_|fail)
   refine WC.freezeF xv xn M.mx x (by repeat(first|exact Sel.head|apply Sel.tail)) (W.Has.fm (v:=M.xv) (ms:=M.mx) hmA) ?_
   refine WC.freezeF yv yn M.my y (by repeat(first|exact Sel.head|apply Sel.tail)) (W.Has.fm (v:=M.yv) (ms:=M.my) hmA) ?_
   refine WC.ret ?_
   exact Fin.p [] [fA ⟨xv,yv,M.mx,M.my,M.mz⟩ xn yn x y z] (ResE.cV rfl rfl meA T.r33 rfl) meA (List.nil_sublist _) (.cons (has_A hmA hmA hmA) .nil) ⟨⟨xv,yv,M.mx,M.my,M.mz⟩,kind,xn,yn,x,y,z,rfl,rfl,rfl,by omega,by omega,fun k hk=>(hx k hk).up (by omega),fun k hk=>(hy k hk).up (by omega),hz.up (by omega)⟩
 by_cases r3:r=3
 ·repeat'(first|refine gA ?_|(refine goG ?_;intro g)|(refine goV ?_;intro v)|refine goE ?_|(refine goEG ?_;intro g)|(refine goEV ?_;intro v)|refine goD ?_|refine goXD ?_|(refine goDG ?_;intro g)|(refine goDV ?_;intro v)|refine gY ?_|refine d20 ?_|fail)
  first|refine WL.callK (Zn.radd M.mz mv z (bentV by_) (hz.sm (by omega)) (hvq.sm (by decide))) ?_|refine WD.callK (Zn.radd M.mz mv z (bentV by_) (hz.sm (by omega)) (hvq.sm (by decide))) ?_|refine LO.callM (Zn.radd M.mz mv z (bentV by_) (hz.sm (by omega)) (hvq.sm (by decide))) ?_
  rintro _ _ _ ⟨m3,rfl,rfl,rfl⟩
  simp only[List.nil_append,List.cons_append]
  repeat'(first|refine gA ?_|(refine goG ?_;intro g)|(refine goV ?_;intro v)|refine goE ?_|(refine goEG ?_;intro g)|(refine goEV ?_;intro v)|refine goD ?_|refine goXD ?_|(refine goDG ?_;intro g)|(refine goDV ?_;intro v)|refine gY ?_|refine d20 ?_|fail)
  refine WC.freezeF xv xn M.mx x (by repeat(first|exact Sel.head|apply Sel.tail)) (W.Has.fm (v:=M.xv) (ms:=M.mx) hmA) ?_
  refine WC.freezeF yv yn M.my y (by repeat(first|exact Sel.head|apply Sel.tail)) (W.Has.fm (v:=M.yv) (ms:=M.my) hmA) ?_
  refine WC.ret ?_
  exact Fin.p [] [fA ⟨xv,yv,M.mx,M.my,m3⟩ xn yn x y (z+bentV by_)] (ResE.cV rfl rfl meA T.r33 rfl) meA (List.nil_sublist _) (.cons (has_A hmA hmA hmA) .nil) ⟨⟨xv,yv,M.mx,M.my,m3⟩,kind,xn,yn,x,y,(z+bentV by_),rfl,rfl,rfl,by omega,by omega,fun k hk=>(hx k hk).up (by omega),fun k hk=>(hy k hk).up (by omega),((hz.add hvq)).up (by omega)⟩
 by_cases r4:r=4
 ·repeat'(first|refine gA ?_|(refine goG ?_;intro g)|(refine goV ?_;intro v)|refine goE ?_|(refine goEG ?_;intro g)|(refine goEV ?_;intro v)|refine goD ?_|refine goXD ?_|(refine goDG ?_;intro g)|(refine goDV ?_;intro v)|refine gY ?_|refine d20 ?_|fail)
  revert v;intro xv2
  refine WC.freezeF xv2 (xn+1) (upd M.mx xn mv) (upd x xn (bentV by_)) (by repeat(first|exact Sel.head|apply Sel.tail)) (W.Has.mFapp (n:=xn) (ms:=M.mx) (m:=mv) (qf:=x) (W.Has.fm (v:=M.xv) (ms:=M.mx) hmA) hmA) ?_
  refine WC.freezeF yv yn M.my y (by repeat(first|exact Sel.head|apply Sel.tail)) (W.Has.fm (v:=M.yv) (ms:=M.my) hmA) ?_
  refine WC.ret ?_
  exact Fin.p [] [fA ⟨xv2,yv,(upd M.mx xn mv),M.my,M.mz⟩ (xn+1) yn (upd x xn (bentV by_)) y z] (ResE.cV rfl rfl meA T.r33 rfl) meA (List.nil_sublist _) (.cons (has_A hmA hmA hmA) .nil) ⟨⟨xv2,yv,(upd M.mx xn mv),M.my,M.mz⟩,kind,(xn+1),yn,(upd x xn (bentV by_)),y,z,rfl,rfl,rfl,by omega,by omega,fun k hk=>by
   by_cases e:k=xn
   ·subst e;rw[upd_at];exact hvq.up (by omega)
   ·rw[upd_ne e];exact(hx k (by omega)).up (by omega),fun k hk=>(hy k hk).up (by omega),hz.up (by omega)⟩
 by_cases r5:r=5
 ·repeat'(first|refine gA ?_|(refine goG ?_;intro g)|(refine goV ?_;intro v)|refine goE ?_|(refine goEG ?_;intro g)|(refine goEV ?_;intro v)|refine goD ?_|refine goXD ?_|(refine goDG ?_;intro g)|(refine goDV ?_;intro v)|refine gY ?_|refine d20 ?_|fail)
  refine WL.freezeF yv yn M.my y (by repeat(first|exact Sel.head|apply Sel.tail)) (W.Has.fm (v:=M.yv) (ms:=M.my) hmA) ?_
  refine WL.fact' (fF (resl yv 0 (0+(yn - 1)) 4) (yn - 1) (fun i=>M.my (0+i)) (fun i=>y (0+i))) (W.Has.subM (v:=yv) (ms:=M.my) (q:=y) hmA (by omega)) ?_
  simp only[Nat.zero_add]
  rw[show max (0:Int) ((yn:Int) - 1)=((yn - 1:Nat):Int) by omega]
  repeat'(first|refine gA ?_|(refine goG ?_;intro g)|(refine goV ?_;intro v)|refine goE ?_|(refine goEG ?_;intro g)|(refine goEV ?_;intro v)|refine goD ?_|refine goXD ?_|(refine goDG ?_;intro g)|(refine goDV ?_;intro v)|refine gY ?_|refine d20 ?_|fail)
  refine WC.freezeF xv xn M.mx x (by repeat(first|exact Sel.head|apply Sel.tail)) (W.Has.fm (v:=M.xv) (ms:=M.mx) hmA) ?_
  refine WC.ret ?_
  exact Fin.p [] [fA ⟨xv,resl yv 0 (yn - 1) 4,M.mx,M.my,M.mz⟩ xn (yn - 1) x y z] (ResE.cV rfl rfl meA T.r33 rfl) meA (List.nil_sublist _) (.cons (has_A hmA hmA hmA) .nil) ⟨⟨xv,resl yv 0 (yn - 1) 4,M.mx,M.my,M.mz⟩,kind,xn,(yn - 1),x,y,z,rfl,rfl,rfl,by omega,by omega,fun k hk=>(hx k hk).up (by omega),fun k hk=>(hy k (by omega)).up (by omega),hz.up (by omega)⟩
 by_cases r6:r=6
 ·repeat'(first|refine gA ?_|(refine goG ?_;intro g)|(refine goV ?_;intro v)|refine goE ?_|(refine goEG ?_;intro g)|(refine goEV ?_;intro v)|refine goD ?_|refine goXD ?_|(refine goDG ?_;intro g)|(refine goDV ?_;intro v)|refine gY ?_|refine d20 ?_|fail)
  refine WC.lp (σ:=Nat×(Nat→QM)) (fun st=>[(14,.int .i64 (st.1:Int)),(10,yv),(9,xv),(11,ptr g11),(8,ptr g8),(4,ptr g4)])
   (fun st=>[Ow.cells g11 31 (qcs mv),Ow.slice yv 31 4 (qcells yn st.2),Ow.slice xv 31 4 (qcells xn M.mx),Ow.cells g8 33 [.int .i64 0,.slice none 0 0,.slice none 0 0,.bool false,.slice none 0 0,.bool false,.slice none 0 0],Ow.cells g4 33 (acs M kind)])
   (fun st=>[mF yn st.2 (mulK y (bentV by_) st.1),isQ (qv mv) (bentV by_),isQ (qv M.mz) z,fF M.xv xn M.mx x,ge h0]) (fun st=>st.1≤yn) (fun st=>yn - st.1) (0,M.my) (Nat.zero_le _) ?_ (hG:=.cons (W.Has.mFsame (qf:=y) (W.Has.fm (v:=M.yv) (ms:=M.my) hmA) fun k _=>(if_neg (Nat.not_lt_zero _)).symm) sfA)
  rintro⟨i,my⟩ hi
  simp only at hi ⊢
  by_cases c:i < yn
  ·refine WC.fact (isQ (qv (my i)) (mulK y (bentV by_) i i)) (W.Has.q hmA c) ?_
   rw[show mulK y (bentV by_) i i=y i from if_neg (Nat.lt_irrefl _)]
   repeat'(first|refine gA ?_|(refine goG ?_;intro g)|(refine goV ?_;intro v)|refine goE ?_|(refine goEG ?_;intro g)|(refine goEV ?_;intro v)|refine goD ?_|refine goXD ?_|(refine goDG ?_;intro g)|(refine goDV ?_;intro v)|refine gY ?_|refine d20 ?_|fail)
   first|refine WL.callK (Zn.rmul (my i) mv (y i) (bentV by_) ((hy i c).sm (by omega)) (hvq.sm (by decide))) ?_|refine WD.callK (Zn.rmul (my i) mv (y i) (bentV by_) ((hy i c).sm (by omega)) (hvq.sm (by decide))) ?_|refine LO.callM (Zn.rmul (my i) mv (y i) (bentV by_) ((hy i c).sm (by omega)) (hvq.sm (by decide))) ?_
   rintro _ _ _ ⟨m3,rfl,rfl,rfl⟩
   simp only[List.nil_append,List.cons_append]
   repeat'(first|refine gA ?_|(refine goG ?_;intro g)|(refine goV ?_;intro v)|refine goE ?_|(refine goEG ?_;intro g)|(refine goEV ?_;intro v)|refine goD ?_|refine goXD ?_|(refine goDG ?_;intro g)|(refine goDV ?_;intro v)|refine gY ?_|refine d20 ?_|fail)
   exact LoopEnd.mk (i+1,upd my i m3) (by show i+1≤yn;omega) (by show yn - (i+1) < yn - i;omega) (hG:=.cons ((W.Has.mFset (k:=i) (ms:=my) (m:=m3) (z:=y i*bentV by_) (qf:=mulK y (bentV by_) i) hmA hmA).mFsame fun k _=>mulK_up k) sfA)
  ·obtain rfl:i=yn:=by omega
   repeat'(first|refine gA ?_|(refine goG ?_;intro g)|(refine goV ?_;intro v)|refine goE ?_|(refine goEG ?_;intro g)|(refine goEV ?_;intro v)|refine goD ?_|refine goXD ?_|(refine goDG ?_;intro g)|(refine goDV ?_;intro v)|refine gY ?_|refine d20 ?_|fail)
   refine WC.freezeF xv xn M.mx x (by repeat(first|exact Sel.head|apply Sel.tail)) (W.Has.fm (v:=M.xv) (ms:=M.mx) hmA) ?_
   refine WC.freezeF yv i my (mulK y (bentV by_) i) (by repeat(first|exact Sel.head|apply Sel.tail)) hmA ?_
   refine WC.ret ?_
   exact Fin.p [] [fA ⟨xv,yv,M.mx,my,M.mz⟩ xn i x (mulK y (bentV by_) i) z] (ResE.cV rfl rfl meA T.r33 rfl) meA (List.nil_sublist _) (.cons (has_A hmA hmA hmA) .nil) ⟨⟨xv,yv,M.mx,my,M.mz⟩,kind,xn,i,x,(mulK y (bentV by_) i),z,rfl,rfl,rfl,by omega,by omega,fun k hk=>(hx k hk).up (by omega),fun k hk=>by
    show Sq (R+2) (if k < i then y k*bentV by_ else y k)
    rw[if_pos hk]
    exact(((hy k hk).mul hvq)).up (by omega),hz.up (by omega)⟩
 exfalso
 omega
end U
end Go.Proofs.YtaongbhamadlkaaGreat
namespace Go.Proofs.YtaongbhamadlkaaGreat
open W Go.RowKit
def someK:Nat:=szR 3 6 1+4
theorem someK_le (l:List Int):szR (someV l) 6 1+4≤someK:=v3 (P:=fun v=>szR v 6 1+4≤someK) (someV_le l) (by decide +kernel) (by decide +kernel) (by decide +kernel)
theorem someKD (l:List Int):Dok (someV l) someK:=v3 (P:=fun v=>Dok v someK) (someV_le l) (by unfold Dok;decide +kernel) (by unfold Dok;decide +kernel) (by unfold Dok;decide +kernel)
theorem someKD6:Dok 6 someK:=by unfold Dok;decide +kernel
theorem someL19 (l:List Int):szL 6 1≤19000000:=by decide +kernel
theorem someR (l:List Int):szR (someV l) 6 1≤180000000:=v3 (P:=fun v=>szR v 6 1≤180000000) (someV_le l) (by decide +kernel) (by decide +kernel) (by decide +kernel)
theorem AnsP.len {p:X.Lp} {kind xn yn:Nat} {x y:Nat→Rat} {z:Rat} (h:AnsP p kind xn yn x y z) {N:Nat} (hv:p.v≤N) (hm:p.m≤N):xn≤N∧yn≤N:=by
 rcases h with ⟨_,h1,h2,_⟩|⟨_,h1,h2,_⟩|⟨_,h1,h2,_⟩ <;> constructor <;> omega
namespace U
open Z
attribute [local irreducible] WC WL WD YO LO LoopEnd W.Fin Scalar SliceT FieldAt Row ArrT AllocT KnS Has W.One SrcE IntT
theorem d4 {G G':Prop} (h:G') (s:Bx G'→G:=by
 intro h
 first|(apply WC.draw (id:=4) [0,1,2,3,4,5,7,10,11] (.held 0 (.held 1 (.held 2 (.held 3 (.held 4 (.held 5 (.held 7 (.held 10 (.held 11 (.loud 6 (.loud 8 (.loud 9 (.loud 12 (.loud 13 (.done))))))))))))))) mixed (by kernel_rfl))|(apply WC.draw (id:=9) [0,1,2,3,4] (.held 0 (.held 1 (.held 2 (.held 3 (.held 4 (.loud 5 (.done))))))) mixed (by kernel_rfl))|(apply WC.draw (id:=11) [0,1,2,3,4,6,7] (.held 0 (.held 1 (.held 2 (.held 3 (.held 4 (.held 6 (.loud 5 (.held 7 (.done))))))))) mixed (by kernel_rfl))|fail
 exact Bx.h h):G:=s ⟨h⟩
theorem rsolveL_c (M:Pm) (l:List Int):FnB Tryz.prog 19 [pgv M (someV l)] [] [fP M (someP l 6)] (IsAnR (someP l 6) (szR (someV l) 6 1)):=
 rsolve_c M (someV l) (someL l 6) (someG l) 1 (szK 6 1) (szL 6 1) (szR (someV l) 6 1) (szs_of (someFits l) (someL_sq l 6) (someL_len l 6) (fun k _=>someG_sq l k)) (someL_sq l 6) (someV_le l).1 (by have:=(someV_le l).2;omega) (by have:=someL_len l 6;omega) (someL19 l) (by unfold szR;omega) (by unfold szR;omega) (by unfold szR;omega)
end U
end Go.Proofs.YtaongbhamadlkaaGreat
namespace Go.Proofs.YtaongbhamadlkaaGreat
open W Go.RowKit
section
variable {P:Program} {e:Env} {bx:List Ow} {F:List Fct} {ty t:TypeId} {x:Operand} {v:Value} {i n:Nat} {A:Nat→AR}
theorem YO.ldAk (hs:Scalar P t) (hx:ev e x=some (.pointer (some (eaddr v (i*7+0))))) (h:Has F (fAs v n A)) (hi:i < n):YO P (.load t x) ty e bx F (.int .i64 (A i).k):=by
 have:=YO.ldS (ty:=ty) (bx:=bx) hs hx h.asl (by omega)
 rwa [acell_at _ _ (by omega)] at this
theorem YO.ldAz (hs:Row P t 4) (hx:ev e x=some (.pointer (some (eaddr v (i*7+3))))) (h:Has F (fAs v n A)) (hi:i < n):YO P (.load t x) ty e bx F (qv (A i).M.mz):=
 YO.ldRS (us:=qcs (A i).M.mz) hs hx h.asl (by omega) rfl fun k hk=>by
  rw[Nat.add_assoc,acell_at _ _ (by omega)]
  match k,hk with|0,_=>rfl|1,_=>rfl|2,_=>rfl|3,_=>rfl
theorem YO.fld {t:TypeId} {i:Nat} {x:Operand} {u v:Value} (hx:ev e x=some u) (hr:∀ w,(Instr.field t u i).run P w=.ok v w):YO P (.field t x i) ty e bx F v:=
 .of fun n fr a w o hop hk _=>by simp[execOp,hop,hk.eval hx,hr]
theorem YO.fldPL {i:Int} {lv gv:Value} (hx:ev e x=some (.agg #[.int .i64 i,lv,gv])):YO Tryz.prog (.field 26 x 1) ty e bx F lv:=YO.fld hx fun w=>by kernel_rfl
theorem YO.fldPG {i:Int} {lv gv:Value} (hx:ev e x=some (.agg #[.int .i64 i,lv,gv])):YO Tryz.prog (.field 26 x 2) ty e bx F gv:=YO.fld hx fun w=>by kernel_rfl
end
end Go.Proofs.YtaongbhamadlkaaGreat
namespace Go.Proofs.YtaongbhamadlkaaGreat
open W Go.RowKit
attribute [local irreducible] WC WL WD YO LO LoopEnd W.Fin Scalar SliceT FieldAt Row ArrT AllocT KnS Has W.One SrcE IntT
namespace U.V
set_option maxRecDepth 60000
theorem goE {G G':Prop} (h:G') (s:Bx G'→G:=by
 intro h
 (first
  |(apply WL.k_build;(first|exact YO.buildRT0|(apply YO.buildAk;exact rfl));exact rfl;exact rfl)
  |(apply WL.k_load;(first|(apply YO.ldAs;(first|exact T.r26|exact T.r29|exact T.r31|exact T.r33|exact T.r60|exact T.r77|exact T.r88|exact T.r107|exact T.r123|exact T.r134);exact rfl;exact hmA;omega)|(apply YO.ldAk;(first|exact T.sc3|exact T.sc4|exact T.sc22|exact T.sc23|exact T.sc24|exact T.sc34|exact T.sc48|exact T.sc72|exact T.sc84|exact T.sc86|exact T.sc103|exact T.sc129|exact T.sc131|exact T.sc162);exact rfl;exact hmA;omega)|(apply YO.ldAz;(first|exact T.r26|exact T.r29|exact T.r31|exact T.r33|exact T.r60|exact T.r77|exact T.r88|exact T.r107|exact T.r123|exact T.r134);exact rfl;exact hmA;omega));exact rfl;exact rfl)
  |(apply WL.k_field;(first|(apply YO.fldPL;exact rfl)|(apply YO.fldPG;exact rfl));exact rfl;exact rfl)
  |(apply WL.kl_store;rotate_left;exact rfl;(first|(apply LO.storeOV;exact rfl;exact rfl;(first|exact T.z3|exact T.z4|exact T.z22|exact T.z23|exact T.z24|exact T.z34|exact T.z48|exact T.z72|exact T.z84|exact T.z86|exact T.z103|exact T.z129|exact T.z131|exact T.z162);(apply One.sl;exact knA);exact seA;omega)|(apply LO.storeAz;exact rfl;exact rfl;(first|exact T.r26|exact T.r29|exact T.r31|exact T.r33|exact T.r60|exact T.r77|exact T.r88|exact T.r107|exact T.r123|exact T.r134);exact hmA;exact seA)|fail))
  |(apply WD.k_build;exact rfl;(first|exact YO.buildRT0|(apply YO.buildAk;exact rfl));exact rfl;exact rfl)
  |(apply WD.k_load;exact rfl;(first|(apply YO.ldAs;(first|exact T.r26|exact T.r29|exact T.r31|exact T.r33|exact T.r60|exact T.r77|exact T.r88|exact T.r107|exact T.r123|exact T.r134);exact rfl;exact hmA;omega)|(apply YO.ldAk;(first|exact T.sc3|exact T.sc4|exact T.sc22|exact T.sc23|exact T.sc24|exact T.sc34|exact T.sc48|exact T.sc72|exact T.sc84|exact T.sc86|exact T.sc103|exact T.sc129|exact T.sc131|exact T.sc162);exact rfl;exact hmA;omega)|(apply YO.ldAz;(first|exact T.r26|exact T.r29|exact T.r31|exact T.r33|exact T.r60|exact T.r77|exact T.r88|exact T.r107|exact T.r123|exact T.r134);exact rfl;exact hmA;omega));exact rfl;exact rfl)
  |(apply WD.k_field;exact rfl;(first|(apply YO.fldPL;exact rfl)|(apply YO.fldPG;exact rfl));exact rfl;exact rfl)
  |(apply WD.kl_store;exact rfl;rotate_left;exact rfl;(first|(apply LO.storeOV;exact rfl;exact rfl;(first|exact T.z3|exact T.z4|exact T.z22|exact T.z23|exact T.z24|exact T.z34|exact T.z48|exact T.z72|exact T.z84|exact T.z86|exact T.z103|exact T.z129|exact T.z131|exact T.z162);(apply One.sl;exact knA);exact seA;omega)|(apply LO.storeAz;exact rfl;exact rfl;(first|exact T.r26|exact T.r29|exact T.r31|exact T.r33|exact T.r60|exact T.r77|exact T.r88|exact T.r107|exact T.r123|exact T.r134);exact hmA;exact seA)|fail);constructor;(first|(focus(apply Or.inr;constructor;(repeat(first|exact List.Sublist.refl _|exact List.nil_sublist _|apply List.Sublist.cons_cons|apply List.Sublist.cons));(first|exact fun _ h=>h|(intro f hf;(repeat(first|exact hf|apply List.Mem.tail))));done))|(apply Or.inl;kernel_rfl)))
  |((first|(apply LO.storeOV;exact rfl;exact rfl;(first|exact T.z3|exact T.z4|exact T.z22|exact T.z23|exact T.z24|exact T.z34|exact T.z48|exact T.z72|exact T.z84|exact T.z86|exact T.z103|exact T.z129|exact T.z131|exact T.z162);(apply One.sl;exact knA);exact seA;omega)|(apply LO.storeAz;exact rfl;exact rfl;(first|exact T.r26|exact T.r29|exact T.r31|exact T.r33|exact T.r60|exact T.r77|exact T.r88|exact T.r107|exact T.r123|exact T.r134);exact hmA;exact seA)|fail);constructor;(first|(focus(apply Or.inr;constructor;(repeat(first|exact List.Sublist.refl _|exact List.nil_sublist _|apply List.Sublist.cons_cons|apply List.Sublist.cons));(first|exact fun _ h=>h|(intro f hf;(repeat(first|exact hf|apply List.Mem.tail))));done))|(apply Or.inl;kernel_rfl)))
  |fail)
 exact Bx.h h):G:=s ⟨h⟩
theorem goEG {G G':Prop} (h:G') (s:Bx G'→G:=by
 intro h
 (first
  |(apply WL.kl_alloc;rotate_left;exact rfl;exact rfl;apply LO.alloc';(first|fail|fail))
  |(apply WD.kl_alloc;exact rfl;rotate_left;exact rfl;exact rfl;apply LO.alloc';(first|fail|fail);apply allAnd;(intro _;(first|(focus(apply Or.inr;constructor;(repeat(first|exact List.Sublist.refl _|exact List.nil_sublist _|apply List.Sublist.cons_cons|apply List.Sublist.cons));(first|exact fun _ h=>h|(intro f hf;(repeat(first|exact hf|apply List.Mem.tail))));done))|(apply Or.inl;kernel_rfl))))
  |(apply LO.alloc';(first|fail|fail);apply allAnd;(intro _;(first|(focus(apply Or.inr;constructor;(repeat(first|exact List.Sublist.refl _|exact List.nil_sublist _|apply List.Sublist.cons_cons|apply List.Sublist.cons));(first|exact fun _ h=>h|(intro f hf;(repeat(first|exact hf|apply List.Mem.tail))));done))|(apply Or.inl;kernel_rfl))))
  |fail)
 exact Bx.h h):G:=s ⟨h⟩
theorem goEV {G G':Prop} (h:G') (s:Bx G'→G:=by
 intro h
 (first
  |(apply WL.kl_app;rotate_left;exact rfl;exact rfl;(first|(apply LO.appMk2;exact rfl;exact rfl;(intro _;exact seA);omega;omega;omega)|fail))
  |(apply WD.kl_app;exact rfl;rotate_left;exact rfl;exact rfl;(first|(apply LO.appMk2;exact rfl;exact rfl;(intro _;exact seA);omega;omega;omega)|fail);apply allAnd;(intro _;(first|(focus(apply Or.inr;constructor;(repeat(first|exact List.Sublist.refl _|exact List.nil_sublist _|apply List.Sublist.cons_cons|apply List.Sublist.cons));(first|exact fun _ h=>h|(intro f hf;(repeat(first|exact hf|apply List.Mem.tail))));done))|(apply Or.inl;kernel_rfl))))
  |((first|(apply LO.appMk2;exact rfl;exact rfl;(intro _;exact seA);omega;omega;omega)|fail);apply allAnd;(intro _;(first|(focus(apply Or.inr;constructor;(repeat(first|exact List.Sublist.refl _|exact List.nil_sublist _|apply List.Sublist.cons_cons|apply List.Sublist.cons));(first|exact fun _ h=>h|(intro f hf;(repeat(first|exact hf|apply List.Mem.tail))));done))|(apply Or.inl;kernel_rfl))))
  |(apply WL.kl_bs;rotate_left;exact rfl;exact rfl;(apply LO.bsA6;exact rfl;exact rfl;exact rfl;exact rfl;exact rfl;exact rfl;exact hmA;exact hmA;exact hmA;exact hmA;exact hmA;exact hmA))
  |(apply WD.kl_bs;exact rfl;rotate_left;exact rfl;exact rfl;(apply LO.bsA6;exact rfl;exact rfl;exact rfl;exact rfl;exact rfl;exact rfl;exact hmA;exact hmA;exact hmA;exact hmA;exact hmA;exact hmA);apply allAnd;(intro _;(first|(focus(apply Or.inr;constructor;(repeat(first|exact List.Sublist.refl _|exact List.nil_sublist _|apply List.Sublist.cons_cons|apply List.Sublist.cons));(first|exact fun _ h=>h|(intro f hf;(repeat(first|exact hf|apply List.Mem.tail))));done))|(apply Or.inl;kernel_rfl))))
  |((apply LO.bsA6;exact rfl;exact rfl;exact rfl;exact rfl;exact rfl;exact rfl;exact hmA;exact hmA;exact hmA;exact hmA;exact hmA;exact hmA);apply allAnd;(intro _;(first|(focus(apply Or.inr;constructor;(repeat(first|exact List.Sublist.refl _|exact List.nil_sublist _|apply List.Sublist.cons_cons|apply List.Sublist.cons));(first|exact fun _ h=>h|(intro f hf;(repeat(first|exact hf|apply List.Mem.tail))));done))|(apply Or.inl;kernel_rfl))))
  |(apply WL.kl_bs;rotate_left;exact rfl;exact rfl;(apply LO.bsA3;exact rfl;exact rfl;exact rfl;exact hmA;exact hmA;exact hmA))
  |(apply WD.kl_bs;exact rfl;rotate_left;exact rfl;exact rfl;(apply LO.bsA3;exact rfl;exact rfl;exact rfl;exact hmA;exact hmA;exact hmA);apply allAnd;(intro _;(first|(focus(apply Or.inr;constructor;(repeat(first|exact List.Sublist.refl _|exact List.nil_sublist _|apply List.Sublist.cons_cons|apply List.Sublist.cons));(first|exact fun _ h=>h|(intro f hf;(repeat(first|exact hf|apply List.Mem.tail))));done))|(apply Or.inl;kernel_rfl))))
  |((apply LO.bsA3;exact rfl;exact rfl;exact rfl;exact hmA;exact hmA;exact hmA);apply allAnd;(intro _;(first|(focus(apply Or.inr;constructor;(repeat(first|exact List.Sublist.refl _|exact List.nil_sublist _|apply List.Sublist.cons_cons|apply List.Sublist.cons));(first|exact fun _ h=>h|(intro f hf;(repeat(first|exact hf|apply List.Mem.tail))));done))|(apply Or.inl;kernel_rfl))))
  |fail)
 exact Bx.h h):G:=s ⟨h⟩
end U.V
end Go.Proofs.YtaongbhamadlkaaGreat
namespace Go.Proofs.YtaongbhamadlkaaGreat
open W Go.RowKit
namespace U.V
open Z
attribute [local irreducible] WC WL WD YO LO LoopEnd W.Fin Scalar SliceT FieldAt Row ArrT AllocT KnS Has W.One SrcE IntT
theorem d6 {G G':Prop} (h:G') (s:Bx G'→G:=by
 intro h
 first|(apply WC.draw (id:=6) [0,1,2,3,4,6] (.held 0 (.held 1 (.held 2 (.held 3 (.held 4 (.held 6 (.loud 5 (.loud 7 (.loud 8 (.loud 9 (.done))))))))))) mixed (by kernel_rfl))|(apply WC.draw (id:=10) [0,1,2,3,4,6,7,8,9,10,11,12,13,14,15,16,17,18,19,20,21,22,23,25,26,27] (.held 0 (.held 1 (.held 2 (.held 3 (.held 4 (.loud 5 (.held 6 (.held 7 (.held 8 (.held 9 (.held 10 (.held 11 (.held 12 (.held 13 (.held 14 (.held 15 (.held 16 (.held 17 (.held 18 (.held 19 (.held 20 (.held 21 (.held 22 (.held 23 (.loud 24 (.held 25 (.held 26 (.held 27 (.done))))))))))))))))))))))))))))) mixed (by kernel_rfl))|(apply WC.draw (id:=19) [0,1,2,4,5,6,7,10,12,13] (.held 0 (.held 1 (.held 2 (.held 4 (.held 5 (.held 6 (.held 7 (.loud 3 (.loud 8 (.loud 9 (.held 10 (.loud 11 (.held 12 (.held 13 (.done))))))))))))))) mixed (by kernel_rfl))|fail
 exact Bx.h h):G:=s ⟨h⟩
set_option maxHeartbeats 16000000 in
set_option maxRecDepth 60000 in
theorem dualLaw_h (hlv:FnB Tryz.prog 18 [] [] [] (IsV (.bool true))) (v0:Value) (l:List Int) (how at_ by_:Int) (hl:∀ x∈l,I64 x) (hh:I64 how) (ha:I64 at_) (hb:I64 by_) :
  FnB Tryz.prog 6 [v0,.int .i64 how,.int .i64 at_,.int .i64 by_] [] [sI v0 l] (IsV (.bool true)):=by
 refine fn_of [(0,v0),(1,(.int .i64 how)),(2,(.int .i64 at_)),(3,(.int .i64 by_))] 105 Tryz.func6 rfl Tryz.ntmps6 (by kernel_rfl) rfl suA fun h0=>?_
 have hV:=someV_le l
 have hF:=someFits l
 have hS:=someL_sq l 6
 have hLn:=someL_len l 6
 have hG:=fun k (_:k < someV l)=>someG_sq l k
 have hR:=szR_1 (someV l) 6 1
 have hR18:=someR l
 have hKl:=someK_le l
 have hdv:=someKD l
 have hd6:=someKD6
 have hdR:=someDok l
 have hdR6:=someDok6 l
 repeat'(first|refine gA ?_|(refine goG ?_;intro g)|(refine goV ?_;intro v)|refine goE ?_|(refine goEG ?_;intro g)|(refine goEV ?_;intro v)|refine goD ?_|refine goXD ?_|(refine goDG ?_;intro g)|(refine goDV ?_;intro v)|refine gY ?_|refine d6 ?_|fail)
 refine WL.callK (some_c v0 l 6 hl (by decide)) ?_
 rintro _ _ _ ⟨M,rfl,rfl,rfl⟩
 simp only[List.nil_append,List.cons_append]
 rw[show(someP l 6).v=someV l from rfl,show someP l 6=X.lpOf (someV l) (someL l 6) (someG l) from rfl]
 have hsv:FnB Tryz.prog 19 [pgv M (someV l)] [] [fP M (X.lpOf (someV l) (someL l 6) (someG l))] (IsAnR (X.lpOf (someV l) (someL l 6) (someG l)) (szR (someV l) 6 1)):=rsolveL_c M l
 refine WL.fact' (fF M.gv (someV l) M.mg (someG l)) (W.Has.pG (L:=someL l 6) (show Has _ (fP M (X.lpOf (someV l) (someL l 6) (someG l))) from hmA)) ?_
 refine WL.fact' (fLn M (someV l) (someL l 6)) (W.Has.pL (g:=someG l) (show Has _ (fP M (X.lpOf (someV l) (someL l 6) (someG l))) from hmA)) ?_
 repeat'(first|refine gA ?_|(refine goG ?_;intro g)|(refine goV ?_;intro v)|refine goE ?_|(refine goEG ?_;intro g)|(refine goEV ?_;intro v)|refine goD ?_|refine goXD ?_|(refine goDG ?_;intro g)|(refine goDV ?_;intro v)|refine gY ?_|refine d6 ?_|fail)
 revert g;intro gp
 refine WL.callK (solveL_c M hF hS hLn hG) ?_
 rintro _ _ _ ⟨A,k,xn,yn,x,y,z,rfl,rfl,rfl,hA,hx,hy,hz⟩
 simp only[List.nil_append,List.cons_append]
 obtain⟨hxn,hyn⟩:=hA.len (N:=6) (show someV l≤6 by omega) (show(someL l 6).length≤6 from hLn)
 refine WL.fact' (fF A.xv xn A.mx x) (W.Has.ax (M:=A) (xn:=xn) (yn:=yn) (x:=x) (y:=y) (z:=z) hmA) ?_
 refine WL.fact' (fF A.yv yn A.my y) (W.Has.ay (M:=A) (xn:=xn) (yn:=yn) (x:=x) (y:=y) (z:=z) hmA) ?_
 refine WL.fact' (isQ (qv A.mz) z) (W.Has.az (M:=A) (xn:=xn) (yn:=yn) (x:=x) (y:=y) (z:=z) hmA) ?_
 repeat'(first|refine gA ?_|(refine goG ?_;intro g)|(refine goV ?_;intro v)|refine goE ?_|(refine goEG ?_;intro g)|(refine goEV ?_;intro v)|refine goD ?_|refine goXD ?_|(refine goDG ?_;intro g)|(refine goDV ?_;intro v)|refine gY ?_|refine d6 ?_|fail)
 revert g;intro ga
 refine WL.callK (bent_c A (k:Nat) xn yn 6 (szR (someV l) 6 1) x y z how at_ by_ hh ha hb (by decide) hxn hyn (by omega) hx hy hz) ?_
 rintro _ _ _ ⟨B2,k2,xn2,yn2,x2,y2,z2,rfl,rfl,rfl,hxn2,hyn2,hx2,hy2,hz2⟩
 simp only[List.nil_append,List.cons_append]
 refine WL.fact' (fF B2.xv xn2 B2.mx x2) (W.Has.ax (M:=B2) (xn:=xn2) (yn:=yn2) (x:=x2) (y:=y2) (z:=z2) hmA) ?_
 refine WL.fact' (fF B2.yv yn2 B2.my y2) (W.Has.ay (M:=B2) (xn:=xn2) (yn:=yn2) (x:=x2) (y:=y2) (z:=z2) hmA) ?_
 refine WL.fact' (isQ (qv B2.mz) z2) (W.Has.az (M:=B2) (xn:=xn2) (yn:=yn2) (x:=x2) (y:=y2) (z:=z2) hmA) ?_
 repeat'(first|refine gA ?_|(refine goG ?_;intro g)|(refine goV ?_;intro v)|refine goE ?_|(refine goEG ?_;intro g)|(refine goEV ?_;intro v)|refine goD ?_|refine goXD ?_|(refine goDG ?_;intro g)|(refine goDV ?_;intro v)|refine gY ?_|refine d6 ?_|fail)
 revert g;intro gb
 refine WD.callK (bent_c B2 k2 xn2 yn2 7 (szR (someV l) 6 1+2) x2 y2 z2 by_ how at_ hb hh ha (by decide) hxn2 hyn2 (by omega) hx2 hy2 hz2) ?_
 rintro _ _ _ ⟨B3,k3,xn3,yn3,x3,y3,z3,rfl,rfl,rfl,hxn3,hyn3,hx3,hy3,hz3⟩
 simp only[List.nil_append,List.cons_append]
 repeat'(first|refine gA ?_|(refine goG ?_;intro g)|(refine goV ?_;intro v)|refine goE ?_|(refine goEG ?_;intro g)|(refine goEV ?_;intro v)|refine goD ?_|refine goXD ?_|(refine goDG ?_;intro g)|(refine goDV ?_;intro v)|refine gY ?_|refine d6 ?_|fail)
 refine WD.callK hsv ?_
 rintro _ _ _ ⟨B4,k4,xn4,yn4,x4,y4,z4,rfl,rfl,rfl,hA4,hx4,hy4,hz4⟩
 simp only[List.nil_append,List.cons_append]
 repeat'(first|refine gA ?_|(refine goG ?_;intro g)|(refine goV ?_;intro v)|refine goE ?_|(refine goEG ?_;intro g)|(refine goEV ?_;intro v)|refine goD ?_|refine goXD ?_|(refine goDG ?_;intro g)|(refine goDV ?_;intro v)|refine gY ?_|refine d6 ?_|fail)
 revert v;intro lv
 have hsx:∀ i,i < 3→∀ j,j < ((A3 ⟨B2,k2,xn2,yn2,x2,y2,z2⟩ ⟨B3,k3,xn3,yn3,x3,y3,z3⟩ ⟨B4,k4,xn4,yn4,x4,y4,z4⟩) i).xn→Sq someK (((A3 ⟨B2,k2,xn2,yn2,x2,y2,z2⟩ ⟨B3,k3,xn3,yn3,x3,y3,z3⟩ ⟨B4,k4,xn4,yn4,x4,y4,z4⟩) i).x j):=
  ltA3 (fun j hj=>(hx2 j hj).up (by omega)) (fun j hj=>(hx3 j hj).up (by omega)) (fun j hj=>(hx4 j hj).up (by omega))
 have hsy:∀ i,i < 3→∀ j,j < ((A3 ⟨B2,k2,xn2,yn2,x2,y2,z2⟩ ⟨B3,k3,xn3,yn3,x3,y3,z3⟩ ⟨B4,k4,xn4,yn4,x4,y4,z4⟩) i).yn→Sq someK (((A3 ⟨B2,k2,xn2,yn2,x2,y2,z2⟩ ⟨B3,k3,xn3,yn3,x3,y3,z3⟩ ⟨B4,k4,xn4,yn4,x4,y4,z4⟩) i).y j):=
  ltA3 (fun j hj=>(hy2 j hj).up (by omega)) (fun j hj=>(hy3 j hj).up (by omega)) (fun j hj=>(hy4 j hj).up (by omega))
 refine WC.freezeAs lv 3 (A3 ⟨B2,k2,xn2,yn2,x2,y2,z2⟩ ⟨B3,k3,xn3,yn3,x3,y3,z3⟩ ⟨B4,k4,xn4,yn4,x4,y4,z4⟩) (by repeat(first|exact Sel.head|apply Sel.tail)) rfl
  (ltA3 (show Has _ (fA B2 xn2 yn2 x2 y2 z2) from hmA) (show Has _ (fA B3 xn3 yn3 x3 y3 z3) from hmA) (show Has _ (fA B4 xn4 yn4 x4 y4 z4) from hmA)) ?_
 generalize (A3 ⟨B2,k2,xn2,yn2,x2,y2,z2⟩ ⟨B3,k3,xn3,yn3,x3,y3,z3⟩ ⟨B4,k4,xn4,yn4,x4,y4,z4⟩)=AA at *
 generalize someL l 6=L at *
 generalize someG l=gf at *
 generalize someV l=vn at *
 refine WC.lp (σ:=Nat) (fun i=>[(14,.int .i64 (i:Int)),(13,lv),(10,ptr ga),(9,ptr gp)]) (fun _=>[Ow.cells ga 33 (acs A k),Ow.cells gp 26 (pcs M vn)])
  (fun _=>[fAs lv 3 AA,slC lv 3 7 (acell AA),isQ (qv A.mz) z,fF A.xv xn A.mx x,fF A.yv yn A.my y,fA A xn yn x y z,fF M.gv vn M.mg gf,fLn M vn L,fP M (X.lpOf vn L gf),ge h0]) (fun i=>i≤3) (fun i=>3 - i) 0 (Nat.zero_le _) ?_
 intro i hi
 by_cases c:i < 3
 ·refine WC.fact (fA (AA i).M (AA i).xn (AA i).yn (AA i).x (AA i).y (AA i).z) (W.Has.asf (v:=lv) hmA c) ?_
  refine WC.fact (isQ (qv (AA i).M.mz) (AA i).z) (W.Has.az (M:=(AA i).M) (xn:=(AA i).xn) (yn:=(AA i).yn) (x:=(AA i).x) (y:=(AA i).y) (z:=(AA i).z) hmA) ?_
  have hc:=checkL_c M (AA i).M (kind:=(AA i).k) (z:=(AA i).z) hF hS hLn hG (R:=someK) (by omega) hdv hd6 (hsx i c) (hsy i c)
  generalize hrp:rightP (X.lpOf vn L gf) (AA i).k (AA i).xn (AA i).yn (AA i).x (AA i).y (AA i).z=rr at *
  repeat'(first|refine gA ?_|(refine goG ?_;intro g)|(refine goV ?_;intro v)|refine goE ?_|(refine goEG ?_;intro g)|(refine goEV ?_;intro v)|refine goD ?_|refine goXD ?_|(refine goDG ?_;intro g)|(refine goDV ?_;intro v)|refine gY ?_|refine d6 ?_|fail)
  cases rr with
  |true=>
   rw[if_pos rfl] at hc
   obtain⟨hk1,hz1⟩:=(right_sem hrp).uniq hA.sem
   have hsame:=Zn.same (AA i).M.mz A.mz (AA i).z z
   rw[decide_eq_true hz1] at hsame
   first|refine WL.callV (hc) ?_|refine WD.callV (hc) ?_
   repeat'(first|refine gA ?_|(refine goG ?_;intro g)|(refine goV ?_;intro v)|refine goE ?_|(refine goEG ?_;intro g)|(refine goEV ?_;intro v)|refine goD ?_|refine goXD ?_|(refine goDG ?_;intro g)|(refine goDV ?_;intro v)|refine gY ?_|refine d6 ?_|fail)
   rw[acell_at AA i (r:=0) (by decide),show(acs (AA i).M (AA i).k).getD 0 undef=.int .i64 (AA i).k from rfl]
   repeat'(first|refine gA ?_|(refine goG ?_;intro g)|(refine goV ?_;intro v)|refine goE ?_|(refine goEG ?_;intro g)|(refine goEV ?_;intro v)|refine goD ?_|refine goXD ?_|(refine goDG ?_;intro g)|(refine goDV ?_;intro v)|refine gY ?_|refine d6 ?_|fail)
   first|refine WL.callV (hsame) ?_|refine WD.callV (hsame) ?_
   repeat'(first|refine gA ?_|(refine goG ?_;intro g)|(refine goV ?_;intro v)|refine goE ?_|(refine goEG ?_;intro g)|(refine goEV ?_;intro v)|refine goD ?_|refine goXD ?_|(refine goDG ?_;intro g)|(refine goDV ?_;intro v)|refine gY ?_|refine d6 ?_|fail)
   exact LoopEnd.mk (i+1) c (by show 3 - (i+1) < 3 - i;omega)
  |false=>
   rw[if_neg (by decide)] at hc
   first|refine WL.callV (hc) ?_|refine WD.callV (hc) ?_
   repeat'(first|refine gA ?_|(refine goG ?_;intro g)|(refine goV ?_;intro v)|refine goE ?_|(refine goEG ?_;intro g)|(refine goEV ?_;intro v)|refine goD ?_|refine goXD ?_|(refine goDG ?_;intro g)|(refine goDV ?_;intro v)|refine gY ?_|refine d6 ?_|fail)
   exact LoopEnd.mk (i+1) c (by show 3 - (i+1) < 3 - i;omega)
 obtain rfl:i=3:=by omega
 by_cases ck:k=0
 ·subst ck
  obtain⟨rfl,rfl,hopt⟩:xn=vn∧yn=L.length∧X.IsOpt (X.lpOf vn L gf) x y z:=by
   rcases hA with ⟨h,_⟩|⟨_,h1,h2,h3⟩|⟨h,_⟩
   ·omega
   ·exact⟨h1,h2,h3⟩
   ·omega
  have e1:(X.sm L.length fun r=>X.cb L r*y r)=z:=by
   rw[←hopt.2.2.2.1];exact X.sm_congr fun r _=>Rat.mul_comm _ _
  have e2:(X.sm xn fun k=>gf k*x k)=z:=hopt.2.2.2.2
  refine WC.addNil 31 4 ?_
  repeat'(first|refine gA ?_|(refine goG ?_;intro g)|(refine goV ?_;intro v)|refine goE ?_|(refine goEG ?_;intro g)|(refine goEV ?_;intro v)|refine goD ?_|refine goXD ?_|(refine goDG ?_;intro g)|(refine goDV ?_;intro v)|refine gY ?_|refine d6 ?_|fail)
  refine WC.lp (σ:=Nat×Value×(Nat→QM)) (fun st=>[(16,.int .i64 (st.1:Int)),(15,st.2.1),(10,ptr ga),(9,ptr gp)])
   (fun st=>[Ow.slice st.2.1 31 4 (qcells st.1 st.2.2),Ow.cells ga 33 (acs A (0:Nat)),Ow.cells gp 26 (pcs M xn)])
   (fun st=>[mF st.1 st.2.2 (clx (X.cb L) st.1),isQ (qv A.mz) z,fF A.xv xn A.mx x,fF A.yv L.length A.my y,fF M.gv xn M.mg gf,fLn M xn L,fP M (X.lpOf xn L gf),ge h0]) (fun st=>st.1≤L.length) (fun st=>L.length - st.1) (0,.slice none 0 0,fun _=>m00) (Nat.zero_le _) ?_ (hG:=.cons (W.Has.mFn _ _) sfA)
  rintro⟨i,sv,ms⟩ hi
  simp only at hi ⊢
  by_cases ci:i < L.length
  ·refine WC.fact (isQ (qv (M.mb i)) (X.cb L i)) (W.Has.lnb (W.Has.lnq (M:=M) hmA) ci) ?_
   refine WC.fact (mF (i+1) (upd ms i (M.mb i)) (clx (X.cb L) (i+1))) ((W.Has.mFapp (n:=i) (ms:=ms) (m:=M.mb i) (qf:=clx _ i) hmA (show Has _ (isQ (qv (M.mb i)) (X.cb L i)) from hmA)).mFsame fun j hj=>clx_up (c:=X.cb L) j) ?_
   repeat'(first|refine gA ?_|(refine goG ?_;intro g)|(refine goV ?_;intro v)|refine goE ?_|(refine goEG ?_;intro g)|(refine goEV ?_;intro v)|refine goD ?_|refine goXD ?_|(refine goDG ?_;intro g)|(refine goDV ?_;intro v)|refine gY ?_|refine d6 ?_|fail)
   exact LoopEnd.mk (i+1,_,_) (by show i+1≤L.length;omega) (by show L.length - (i+1) < L.length - i;omega)
  obtain rfl:L.length=i:=by omega
  refine WC.freezeF sv L.length ms (X.cb L) (by repeat(first|exact Sel.head|apply Sel.tail)) (W.Has.mFsame (qf:=clx (X.cb L) L.length) hmA fun j hj=>by unfold clx;rw[if_pos hj]) ?_
  have hd1:FnB Tryz.prog 27 [sv,A.yv] [] [fF sv L.length ms (X.cb L),fF A.yv L.length A.my y] (IsR z):=by
   have:=Z.dot_c sv A.yv L.length (szR xn 6 1) ms A.my (X.cb L) y (by omega) (hdR6.le hLn) (fun r hr=>(hS.cb hr).up hR) hy
   rwa [e1] at this
  have hd2:FnB Tryz.prog 27 [M.gv,A.xv] [] [fF M.gv xn M.mg gf,fF A.xv xn A.mx x] (IsR z):=by
   have:=Z.dot_c M.gv A.xv xn (szR xn 6 1) M.mg A.mx gf x (by omega) hdR (fun k hk=>(hG k hk).up hR) hx
   rwa [e2] at this
  repeat'(first|refine gA ?_|(refine goG ?_;intro g)|(refine goV ?_;intro v)|refine goE ?_|(refine goEG ?_;intro g)|(refine goEV ?_;intro v)|refine goD ?_|refine goXD ?_|(refine goDG ?_;intro g)|(refine goDV ?_;intro v)|refine gY ?_|refine d6 ?_|fail)
  first|refine WL.callK (hd1) ?_|refine WD.callK (hd1) ?_|refine LO.callM (hd1) ?_
  rintro _ _ _ ⟨m1,rfl,rfl,rfl⟩
  simp only[List.nil_append,List.cons_append]
  repeat'(first|refine gA ?_|(refine goG ?_;intro g)|(refine goV ?_;intro v)|refine goE ?_|(refine goEG ?_;intro g)|(refine goEV ?_;intro v)|refine goD ?_|refine goXD ?_|(refine goDG ?_;intro g)|(refine goDV ?_;intro v)|refine gY ?_|refine d6 ?_|fail)
  first|refine WL.callK (hd2) ?_|refine WD.callK (hd2) ?_|refine LO.callM (hd2) ?_
  rintro _ _ _ ⟨m2,rfl,rfl,rfl⟩
  simp only[List.nil_append,List.cons_append]
  repeat'(first|refine gA ?_|(refine goG ?_;intro g)|(refine goV ?_;intro v)|refine goE ?_|(refine goEG ?_;intro g)|(refine goEV ?_;intro v)|refine goD ?_|refine goXD ?_|(refine goDG ?_;intro g)|(refine goDV ?_;intro v)|refine gY ?_|refine d6 ?_|fail)
  first|refine WL.callV (Zn.same m1 m2 z z) ?_|refine WD.callV (Zn.same m1 m2 z z) ?_
  rw[decide_eq_true (rfl:z=z)]
  repeat'(first|refine gA ?_|(refine goG ?_;intro g)|(refine goV ?_;intro v)|refine goE ?_|(refine goEG ?_;intro g)|(refine goEV ?_;intro v)|refine goD ?_|refine goXD ?_|(refine goDG ?_;intro g)|(refine goDV ?_;intro v)|refine gY ?_|refine d6 ?_|fail)
  first|refine WL.callV (hlv) ?_|refine WD.callV (hlv) ?_
  repeat'(first|refine gA ?_|(refine goG ?_;intro g)|(refine goV ?_;intro v)|refine goE ?_|(refine goEG ?_;intro g)|(refine goEV ?_;intro v)|refine goD ?_|refine goXD ?_|(refine goDG ?_;intro g)|(refine goDV ?_;intro v)|refine gY ?_|refine d6 ?_|fail)
  exact WC.ret (Fin.v (ResE.t1 rfl rfl) meA rfl)
 ·have ck1:(k:Int)≠0:=by omega
  repeat'(first|refine gA ?_|(refine goG ?_;intro g)|(refine goV ?_;intro v)|refine goE ?_|(refine goEG ?_;intro g)|(refine goEV ?_;intro v)|refine goD ?_|refine goXD ?_|(refine goDG ?_;intro g)|(refine goDV ?_;intro v)|refine gY ?_|refine d6 ?_|fail)
  first|refine WL.callV (hlv) ?_|refine WD.callV (hlv) ?_
  repeat'(first|refine gA ?_|(refine goG ?_;intro g)|(refine goV ?_;intro v)|refine goE ?_|(refine goEG ?_;intro g)|(refine goEV ?_;intro v)|refine goD ?_|refine goXD ?_|(refine goDG ?_;intro g)|(refine goDV ?_;intro v)|refine gY ?_|refine d6 ?_|fail)
  exact WC.ret (Fin.v (ResE.t1 rfl rfl) meA rfl)
end U.V
end Go.Proofs.YtaongbhamadlkaaGreat
namespace Go.Proofs.YtaongbhamadlkaaGreat
open Go.ChangeShapes Go.WideShapes Go.ChangeAt Go.RowKit
open W
theorem Tryz.int3:Tryz.prog.underlying 3=some (.int .i64):=by kernel_rfl
theorem Tryz.sl22:Tryz.prog.underlying 22=some (.slice 3):=by kernel_rfl
theorem Tryz.bool4:Tryz.prog.underlying 4=some .bool:=by kernel_rfl
theorem Tryz.one3:Tryz.prog.cellsOf 3=1:=by kernel_rfl
set_option maxRecDepth 100000 in
theorem simplexDual_lifted (os:Os) (started:os.Started) (H:Type) (enc:TypeId×Value→H) :
  ReturnsInHanded {} Tryz.checked os 6 .any (Rows.simplexDualSpec.pre6 enc Tryz.prog Tryz.f6 Rows.simplexDualRow.domain false) (Rows.simplexDualSpec.post enc Tryz.prog Tryz.f6 false true false false):=by
 refine returnsInHanded_of_change (C:=Tryz.checked) Tryz.own started (by kernel_rfl) Tryz.func6
  (ChangeSpec.witness6 (enc:=enc) (C:=Tryz.checked) false ⟨#[],#[.slice none 0 0,.int .i64 0,.int .i64 0,.int .i64 0],[]⟩ 8 (by kernel_rfl) (by kernel_rfl) (by kernel_rfl) (by kernel_rfl)) ?_
 intro V1 base args ds gs before hval0 hW hcnd _
 have hval:∀ (j:Nat) t v,Tryz.f6.params[j]?=some t→args[j]?=some v→Value.okWide Tryz.prog V1 .any base t v:=hval0
 have hW':=hW
 obtain⟨p,q,hA0,hV,rfl,hfz,hnd⟩:=hW
 have hA:DataW.TrodAll enc Tryz.prog V1 0 (fun _=>true) true Tryz.f6.params.toList args.toList ds p:=hA0
 rw[Tryz.params6] at hA hval
 obtain⟨args⟩:=args
 obtain⟨v0,a1,d0,e1,p0,q1,rfl,rfl,rfl,h0,hA⟩:=trodAll_cons hA
 obtain⟨v1,a2,d1,e2,p1,q2,rfl,rfl,rfl,h1,hA⟩:=trodAll_cons hA
 obtain⟨v2,a3,d2,e3,p2,q3,rfl,rfl,rfl,h2,hA⟩:=trodAll_cons hA
 obtain⟨v3,a4,d3,e4,p3,q4,rfl,rfl,rfl,h3,hA⟩:=trodAll_cons hA
 obtain⟨rfl,rfl,rfl⟩:=trodAll_nil hA
 obtain⟨rfl,rfl⟩:=trodVars_none hV
 obtain⟨l0,hl0,f0,g0⟩:=arg_ints Tryz.sl22 Tryz.int3 Tryz.one3 (hval 0 22 v0 rfl rfl) h0
 obtain⟨n1,rfl,hl1,g1⟩:=arg_int Tryz.int3 (hval 1 3 v1 rfl rfl) h1
 obtain⟨n2,rfl,hl2,g2⟩:=arg_int Tryz.int3 (hval 2 3 v2 rfl rfl) h2
 obtain⟨n3,rfl,hl3,g3⟩:=arg_int Tryz.int3 (hval 3 3 v3 rfl rfl) h3
 simp only[List.append_nil] at hW'
 refine(law_calls (U.V.dualLaw_h U.lives_c v0 l0 n1 n2 n3 hl0 hl1 hl2 hl3) (fun g hg=>?_)).mono fun e V2 hh2=>?_
 ·simp only[List.mem_cons,List.not_mem_nil,or_false] at hg
  subst hg
  exact f0
 ·obtain⟨he,hr,hE⟩:=hh2
  refine⟨_,he,post_law hW' (fun _ _ _=>trodAll_mk1 (shut_bool Tryz.bool4 _)) (fun sp hsp=>?_) (fun _=>rfl) hr hE (ok_one (by kernel_rfl) rfl (okWide_bool_mk Tryz.bool4 _))⟩
  have:=(AgainAll.cons g0 (AgainAll.cons g1 (AgainAll.cons g2 (AgainAll.cons g3 AgainAll.nil)))) V2 sp hE (by simpa using hsp)
  simp only[List.append_nil] at this
  show DataW.TrodAll enc Tryz.prog V2 0 sp true Tryz.f6.params.toList _ _ _
  rw[Tryz.params6]
  exact this
theorem simplexDual_holds:Rows.SimplexDualSaid:=
 OpenClaim.holds_of_wide 6 Tryz.f6 rfl rfl rfl rfl rfl rfl rfl ⟨rfl,rfl,rfl,rfl,rfl⟩ rfl rfl rfl rfl rfl (by kernel_rfl) Tryz.func6 (by kernel_rfl)
  (of_decide_eq_true (by kernel_rfl)) (by unfold Func.isWrapper;first|(rw[if_pos (by decide +kernel)];kernel_rfl)|(rw[if_neg (by decide +kernel)];exact⟨rfl,rfl⟩))
  (fun os started H enc _=>simplexDual_lifted os started H enc)
#print axioms simplexDual_holds
end Go.Proofs.YtaongbhamadlkaaGreat
