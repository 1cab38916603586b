/- The law SimplexChecks returns true for every input and leaves its arguments as they were. Conditions: none. -/
import Derived.Test.YtaongbhamadlkaaGreatCk1
import Derived.Test.YtaongbhamadlkaaGreatBs12
import Derived.Test.YtaongbhamadlkaaGreatBs13
import Derived.Test.YtaongbhamadlkaaGreatBs14
set_option linter.unusedVariables false
set_option linter.unusedSimpArgs false
set_option linter.unusedSectionVars false
namespace Go.Proofs.YtaongbhamadlkaaGreat
open W Go.RowKit
def IsAw (N R:Nat):RPost:=fun v B G=>∃ (M:Am) (kind:Int) (xn yn:Nat) (x y:Nat→Rat) (z:Rat),v=agv M kind∧B=[]∧G=[fA M xn yn x y z]∧xn≤N∧yn≤N∧(∀ k,k < xn→Sq R (x k))∧(∀ k,k < yn→Sq R (y k))∧Sq R z
theorem i64_tdiv {i:Int} (h:I64 i):IntKind.i64.wrap (i.tdiv 9)=i.tdiv 9∧I64 (i.tdiv 9):=by
 have h1:=Int.natAbs_tdiv i 9
 have h2:i.natAbs / 9≤i.natAbs:=Nat.div_le_self _ _
 have h3:i.natAbs / 9*9≤i.natAbs:=Nat.div_mul_le_self _ _
 obtain⟨h4,h5⟩:=h
 have h6:(i.tdiv 9).natAbs=i.natAbs / 9:=h1
 have h7:I64 (i.tdiv 9):=by constructor <;> omega
 exact⟨wrap_i64 h7.1 h7.2,h7⟩
def bentV (b:Int):Rat:=Rat.divInt (around b 9 - 4) (1+around (b.tdiv 9) 3)
theorem bentV_sq (b:Int):Sq 1 (bentV b):=by
 have h1:=around_lt (n:=b) (m:=9) (by decide)
 have h2:=around_lt (n:=b.tdiv 9) (m:=3) (by decide)
 exact sq_div (by omega) (by omega) (by omega)
def mulK (y:Nat→Rat) (f:Rat) (i k:Nat):Rat:=if k < i then y k*f else y k
theorem mulK_up {y:Nat→Rat} {f:Rat} {i:Nat} (k:Nat):upd (mulK y f i) i (y i*f) k=mulK y f (i+1) k:=by
 unfold mulK
 by_cases e:k=i
 ·subst e;rw[upd_at,if_pos (by omega)]
 ·rw[upd_ne e]
  by_cases c:k < i
  ·rw[if_pos c,if_pos (by omega)]
  ·rw[if_neg c,if_neg (by omega)]
theorem upd_sq {R n i:Nat} {q:Nat→Rat} {a:Rat} (h:∀ k,k < n→Sq R (q k)) (ha:Sq R a):∀ k,k < n→Sq R (upd q i a k):=fun k hk=>by
 by_cases e:k=i
 ·subst e;rw[upd_at];exact ha
 ·rw[upd_ne e];exact h k hk
namespace U
open Z
attribute [local irreducible] WC WL WD YO LO LoopEnd W.Fin Scalar SliceT FieldAt Row ArrT AllocT KnS Has W.One SrcE IntT
theorem d20 {G G':Prop} (h:G') (s:Bx G'→G:=by
 intro h
 first|(apply WC.draw (id:=10) [0,1,2,3,4,5,6] (.held 0 (.held 1 (.held 2 (.held 3 (.held 4 (.held 5 (.held 6 (.loud 7 (.loud 8 (.loud 9 (.done))))))))))) mixed (by kernel_rfl))|(apply WC.draw (id:=14) [0,1,2,3,4,5,6] (.held 0 (.held 1 (.held 2 (.held 3 (.held 4 (.held 5 (.held 6 (.loud 7 (.loud 8 (.loud 9 (.done))))))))))) mixed (by kernel_rfl))|(apply WC.draw (id:=25) [0,1,2,3,4,5,6] (.held 0 (.held 1 (.held 2 (.held 3 (.held 4 (.held 5 (.held 6 (.loud 7 (.loud 8 (.loud 9 (.done))))))))))) mixed (by kernel_rfl))|fail
 exact Bx.h h):G:=s ⟨h⟩
set_option maxHeartbeats 16000000 in
set_option maxRecDepth 60000 in
theorem bent_c (M:Am) (kind:Int) (xn yn N R:Nat) (x y:Nat→Rat) (z:Rat) (how at_ by_:Int) (hh:I64 how) (ha:I64 at_) (hb:I64 by_) (hN:N≤1000) (hxn:xn≤N) (hyn:yn≤N) (hR:R≤190000000) (hx:∀ k,k < xn→Sq R (x k)) (hy:∀ k,k < yn→Sq R (y k)) (hz:Sq R z) :
  FnB Tryz.prog 20 [agv M kind,.int .i64 how,.int .i64 at_,.int .i64 by_] [] [fA M xn yn x y z] (IsAw (N+1) (R+2)):=by
 refine fn_of [(0,(agv M kind)),(1,(.int .i64 how)),(2,(.int .i64 at_)),(3,(.int .i64 by_))] 118 Tryz.func20 rfl Tryz.ntmps20 (by kernel_rfl) rfl suA fun h0=>?_
 have h9:=around_lt (n:=by_) (m:=9) (by decide)
 have h3:=around_lt (n:=by_.tdiv 9) (m:=3) (by decide)
 have h7:=around_lt (n:=how) (m:=7) (by decide)
 have hvq:=bentV_sq by_
 refine WC.fact (fF M.xv xn M.mx x) (W.Has.ax (M:=M) (xn:=xn) (yn:=yn) (x:=x) (y:=y) (z:=z) hmA) ?_
 refine WC.fact (fF M.yv yn M.my y) (W.Has.ay (M:=M) (xn:=xn) (yn:=yn) (x:=x) (y:=y) (z:=z) hmA) ?_
 refine WC.fact (isQ (qv M.mz) z) (W.Has.az (M:=M) (xn:=xn) (yn:=yn) (x:=x) (y:=y) (z:=z) hmA) ?_
 repeat'(first|refine gA ?_|(refine goG ?_;intro g)|(refine goV ?_;intro v)|refine goE ?_|(refine goEG ?_;intro g)|(refine goEV ?_;intro v)|refine goD ?_|refine goXD ?_|(refine goDG ?_;intro g)|(refine goDV ?_;intro v)|refine gY ?_|refine d20 ?_|fail)
 first|refine WL.callV (around_c by_ 9 hb (by decide)) ?_|refine WD.callV (around_c by_ 9 hb (by decide)) ?_
 repeat'(first|refine gA ?_|(refine goG ?_;intro g)|(refine goV ?_;intro v)|refine goE ?_|(refine goEG ?_;intro g)|(refine goEV ?_;intro v)|refine goD ?_|refine goXD ?_|(refine goDG ?_;intro g)|(refine goDV ?_;intro v)|refine gY ?_|refine d20 ?_|fail)
 (apply WL.k_quo;(apply YO.tquo;exact rfl;exact rfl;omega);exact rfl;exact rfl)
 rw[(i64_tdiv hb).1]
 first|refine WL.callV (around_c (by_.tdiv 9) 3 (i64_tdiv hb).2 (by decide)) ?_|refine WD.callV (around_c (by_.tdiv 9) 3 (i64_tdiv hb).2 (by decide)) ?_
 repeat'(first|refine gA ?_|(refine goG ?_;intro g)|(refine goV ?_;intro v)|refine goE ?_|(refine goEG ?_;intro g)|(refine goEV ?_;intro v)|refine goD ?_|refine goXD ?_|(refine goDG ?_;intro g)|(refine goDV ?_;intro v)|refine gY ?_|refine d20 ?_|fail)
 first|refine WL.callK (Zn.rof (around by_ 9 - 4) (1+around (by_.tdiv 9) 3) (by show _ < 1000000000000000000;omega) (by show _ < 1000000000000000000;omega)) ?_|refine WD.callK (Zn.rof (around by_ 9 - 4) (1+around (by_.tdiv 9) 3) (by show _ < 1000000000000000000;omega) (by show _ < 1000000000000000000;omega)) ?_|refine LO.callM (Zn.rof (around by_ 9 - 4) (1+around (by_.tdiv 9) 3) (by show _ < 1000000000000000000;omega) (by show _ < 1000000000000000000;omega)) ?_
 rintro _ _ _ ⟨mv,rfl,rfl,rfl⟩
 simp only[List.nil_append,List.cons_append]
 refine WL.fact' (isQ (qv mv) (bentV by_)) hmA ?_
 repeat'(first|refine gA ?_|(refine goG ?_;intro g)|(refine goV ?_;intro v)|refine goE ?_|(refine goEG ?_;intro g)|(refine goEV ?_;intro v)|refine goD ?_|refine goXD ?_|(refine goDG ?_;intro g)|(refine goDV ?_;intro v)|refine gY ?_|refine d20 ?_|fail)
 first|refine WL.callV (around_c how 7 hh (by decide)) ?_|refine WD.callV (around_c how 7 hh (by decide)) ?_
 rename_i g4 g8 w1 xv w2
 revert v;intro yv
 revert g;intro g11
 generalize around how 7=r at *
 by_cases r0:r=0
 ·have h5:=around_lt (n:=by_) (m:=5) (by decide)
  repeat'(first|refine gA ?_|(refine goG ?_;intro g)|(refine goV ?_;intro v)|refine goE ?_|(refine goEG ?_;intro g)|(refine goEV ?_;intro v)|refine goD ?_|refine goXD ?_|(refine goDG ?_;intro g)|(refine goDV ?_;intro v)|refine gY ?_|refine d20 ?_|fail)
  first|refine WL.callV (around_c by_ 5 hb (by decide)) ?_|refine WD.callV (around_c by_ 5 hb (by decide)) ?_
  repeat'(first|refine gA ?_|(refine goG ?_;intro g)|(refine goV ?_;intro v)|refine goE ?_|(refine goEG ?_;intro g)|(refine goEV ?_;intro v)|refine goD ?_|refine goXD ?_|(refine goDG ?_;intro g)|(refine goDV ?_;intro v)|refine gY ?_|refine d20 ?_|fail)
  refine WC.freezeF xv xn M.mx x (by repeat(first|exact Sel.head|apply Sel.tail)) (W.Has.fm (v:=M.xv) (ms:=M.mx) hmA) ?_
  refine WC.freezeF yv yn M.my y (by repeat(first|exact Sel.head|apply Sel.tail)) (W.Has.fm (v:=M.yv) (ms:=M.my) hmA) ?_
  refine WC.ret ?_
  exact Fin.p [] [fA ⟨xv,yv,M.mx,M.my,M.mz⟩ xn yn x y z] (ResE.cV rfl rfl meA T.r33 rfl) meA (List.nil_sublist _) (.cons (has_A hmA hmA hmA) .nil) ⟨⟨xv,yv,M.mx,M.my,M.mz⟩,(around by_ 5 - 1),xn,yn,x,y,z,rfl,rfl,rfl,by omega,by omega,fun k hk=>(hx k hk).up (by omega),fun k hk=>(hy k hk).up (by omega),hz.up (by omega)⟩
 by_cases r1:r=1
 ·by_cases c0:0 < xn
  ·skip
   obtain⟨k,hk⟩:∃ k:Nat,around at_ (xn:Int)=k:=⟨(around at_ (xn:Int)).toNat,by have:=@around_lt at_ (xn:Int) (by omega);omega⟩
   have hkn:k < xn:=by have:=@around_lt at_ (xn:Int) (by omega);omega
   have har:=around_c at_ (xn:Int) ha (by omega)
   rw[hk] at har
   refine WL.fact' (isQ (qv (M.mx k)) (x k)) (W.Has.q (W.Has.fm (v:=M.xv) (ms:=M.mx) hmA) hkn) ?_
   repeat'(first|refine gA ?_|(refine goG ?_;intro g)|(refine goV ?_;intro v)|refine goE ?_|(refine goEG ?_;intro g)|(refine goEV ?_;intro v)|refine goD ?_|refine goXD ?_|(refine goDG ?_;intro g)|(refine goDV ?_;intro v)|refine gY ?_|refine d20 ?_|fail)
   first|refine WL.callV (har) ?_|refine WD.callV (har) ?_
   repeat'(first|refine gA ?_|(refine goG ?_;intro g)|(refine goV ?_;intro v)|refine goE ?_|(refine goEG ?_;intro g)|(refine goEV ?_;intro v)|refine goD ?_|refine goXD ?_|(refine goDG ?_;intro g)|(refine goDV ?_;intro v)|refine gY ?_|refine d20 ?_|fail)
   first|refine WL.callK (Zn.radd (M.mx k) mv (x k) (bentV by_) ((hx k hkn).sm (by omega)) (hvq.sm (by decide))) ?_|refine WD.callK (Zn.radd (M.mx k) mv (x k) (bentV by_) ((hx k hkn).sm (by omega)) (hvq.sm (by decide))) ?_|refine LO.callM (Zn.radd (M.mx k) mv (x k) (bentV by_) ((hx k hkn).sm (by omega)) (hvq.sm (by decide))) ?_
   rintro _ _ _ ⟨m3,rfl,rfl,rfl⟩
   simp only[List.nil_append,List.cons_append]
   repeat'(first|refine gA ?_|(refine goG ?_;intro g)|(refine goV ?_;intro v)|refine goE ?_|(refine goEG ?_;intro g)|(refine goEV ?_;intro v)|refine goD ?_|refine goXD ?_|(refine goDG ?_;intro g)|(refine goDV ?_;intro v)|refine gY ?_|refine d20 ?_|fail)
   refine WC.freezeF xv xn (upd M.mx k m3) (upd x k (x k+bentV by_)) (by repeat(first|exact Sel.head|apply Sel.tail)) (W.Has.mFset (k:=k) (ms:=M.mx) (m:=m3) (qf:=x) (W.Has.fm (v:=M.xv) (ms:=M.mx) hmA) hmA) ?_
   refine WC.freezeF yv yn M.my y (by repeat(first|exact Sel.head|apply Sel.tail)) (W.Has.fm (v:=M.yv) (ms:=M.my) hmA) ?_
   refine WC.ret ?_
   exact Fin.p [] [fA ⟨xv,yv,(upd M.mx k m3),M.my,M.mz⟩ xn yn (upd x k (x k+bentV by_)) y z] (ResE.cV rfl rfl meA T.r33 rfl) meA (List.nil_sublist _) (.cons (has_A hmA hmA hmA) .nil) ⟨⟨xv,yv,(upd M.mx k m3),M.my,M.mz⟩,kind,xn,yn,(upd x k (x k+bentV by_)),y,z,rfl,rfl,rfl,by omega,by omega,upd_sq (fun k hk=>(hx k hk).up (by omega)) ((((hx k hkn).add hvq)).up (by omega)),fun k hk=>(hy k hk).up (by omega),hz.up (by omega)⟩
  ·repeat'(first|refine gA ?_|(refine goG ?_;intro g)|(refine goV ?_;intro v)|refine goE ?_|(refine goEG ?_;intro g)|(refine goEV ?_;intro v)|refine goD ?_|refine goXD ?_|(refine goDG ?_;intro g)|(refine goDV ?_;intro v)|refine gY ?_|refine d20 ?_|fail)
   refine WC.freezeF xv xn M.mx x (by repeat(first|exact Sel.head|apply Sel.tail)) (W.Has.fm (v:=M.xv) (ms:=M.mx) hmA) ?_
   refine WC.freezeF yv yn M.my y (by repeat(first|exact Sel.head|apply Sel.tail)) (W.Has.fm (v:=M.yv) (ms:=M.my) hmA) ?_
   refine WC.ret ?_
   exact Fin.p [] [fA ⟨xv,yv,M.mx,M.my,M.mz⟩ xn yn x y z] (ResE.cV rfl rfl meA T.r33 rfl) meA (List.nil_sublist _) (.cons (has_A hmA hmA hmA) .nil) ⟨⟨xv,yv,M.mx,M.my,M.mz⟩,kind,xn,yn,x,y,z,rfl,rfl,rfl,by omega,by omega,fun k hk=>(hx k hk).up (by omega),fun k hk=>(hy k hk).up (by omega),hz.up (by omega)⟩
 by_cases r2:r=2
 ·by_cases c0:0 < yn
  ·skip
   obtain⟨k,hk⟩:∃ k:Nat,around at_ (yn:Int)=k:=⟨(around at_ (yn:Int)).toNat,by have:=@around_lt at_ (yn:Int) (by omega);omega⟩
   have hkn:k < yn:=by have:=@around_lt at_ (yn:Int) (by omega);omega
   have har:=around_c at_ (yn:Int) ha (by omega)
   rw[hk] at har
   refine WL.fact' (isQ (qv (M.my k)) (y k)) (W.Has.q (W.Has.fm (v:=M.yv) (ms:=M.my) hmA) hkn) ?_
   repeat'(first|refine gA ?_|(refine goG ?_;intro g)|(refine goV ?_;intro v)|refine goE ?_|(refine goEG ?_;intro g)|(refine goEV ?_;intro v)|refine goD ?_|refine goXD ?_|(refine goDG ?_;intro g)|(refine goDV ?_;intro v)|refine gY ?_|refine d20 ?_|fail)
   first|refine WL.callV (har) ?_|refine WD.callV (har) ?_
   repeat'(first|refine gA ?_|(refine goG ?_;intro g)|(refine goV ?_;intro v)|refine goE ?_|(refine goEG ?_;intro g)|(refine goEV ?_;intro v)|refine goD ?_|refine goXD ?_|(refine goDG ?_;intro g)|(refine goDV ?_;intro v)|refine gY ?_|refine d20 ?_|fail)
   first|refine WL.callK (Zn.radd (M.my k) mv (y k) (bentV by_) ((hy k hkn).sm (by omega)) (hvq.sm (by decide))) ?_|refine WD.callK (Zn.radd (M.my k) mv (y k) (bentV by_) ((hy k hkn).sm (by omega)) (hvq.sm (by decide))) ?_|refine LO.callM (Zn.radd (M.my k) mv (y k) (bentV by_) ((hy k hkn).sm (by omega)) (hvq.sm (by decide))) ?_
   rintro _ _ _ ⟨m3,rfl,rfl,rfl⟩
   simp only[List.nil_append,List.cons_append]
   repeat'(first|refine gA ?_|(refine goG ?_;intro g)|(refine goV ?_;intro v)|refine goE ?_|(refine goEG ?_;intro g)|(refine goEV ?_;intro v)|refine goD ?_|refine goXD ?_|(refine goDG ?_;intro g)|(refine goDV ?_;intro v)|refine gY ?_|refine d20 ?_|fail)
   refine WC.freezeF xv xn M.mx x (by repeat(first|exact Sel.head|apply Sel.tail)) (W.Has.fm (v:=M.xv) (ms:=M.mx) hmA) ?_
   refine WC.freezeF yv yn (upd M.my k m3) (upd y k (y k+bentV by_)) (by repeat(first|exact Sel.head|apply Sel.tail)) (W.Has.mFset (k:=k) (ms:=M.my) (m:=m3) (qf:=y) (W.Has.fm (v:=M.yv) (ms:=M.my) hmA) hmA) ?_
   refine WC.ret ?_
   exact Fin.p [] [fA ⟨xv,yv,M.mx,(upd M.my k m3),M.mz⟩ xn yn x (upd y k (y k+bentV by_)) z] (ResE.cV rfl rfl meA T.r33 rfl) meA (List.nil_sublist _) (.cons (has_A hmA hmA hmA) .nil) ⟨⟨xv,yv,M.mx,(upd M.my k m3),M.mz⟩,kind,xn,yn,x,(upd y k (y k+bentV by_)),z,rfl,rfl,rfl,by omega,by omega,fun k hk=>(hx k hk).up (by omega),upd_sq (fun k hk=>(hy k hk).up (by omega)) ((((hy k hkn).add hvq)).up (by omega)),hz.up (by omega)⟩
  ·repeat'(first|refine gA ?_|(refine goG ?_;intro g)|(refine goV ?_;intro v)|refine goE ?_|(refine goEG ?_;intro g)|(refine goEV ?_;intro v)|refine goD ?_|refine goXD ?_|(refine goDG ?_;intro g)|(refine goDV ?_;intro v)|refine gY ?_|refine d20 ?_|fail)
   refine WC.freezeF xv xn M.mx x (by repeat(first|exact Sel.head|apply Sel.tail)) (W.Has.fm (v:=M.xv) (ms:=M.mx) hmA) ?_
   refine WC.freezeF yv yn M.my y (by repeat(first|exact Sel.head|apply Sel.tail)) (W.Has.fm (v:=M.yv) (ms:=M.my) hmA) ?_
   refine WC.ret ?_
   exact Fin.p [] [fA ⟨xv,yv,M.mx,M.my,M.mz⟩ xn yn x y z] (ResE.cV rfl rfl meA T.r33 rfl) meA (List.nil_sublist _) (.cons (has_A hmA hmA hmA) .nil) ⟨⟨xv,yv,M.mx,M.my,M.mz⟩,kind,xn,yn,x,y,z,rfl,rfl,rfl,by omega,by omega,fun k hk=>(hx k hk).up (by omega),fun k hk=>(hy k hk).up (by omega),hz.up (by omega)⟩
 by_cases r3:r=3
 ·repeat'(first|refine gA ?_|(refine goG ?_;intro g)|(refine goV ?_;intro v)|refine goE ?_|(refine goEG ?_;intro g)|(refine goEV ?_;intro v)|refine goD ?_|refine goXD ?_|(refine goDG ?_;intro g)|(refine goDV ?_;intro v)|refine gY ?_|refine d20 ?_|fail)
  first|refine WL.callK (Zn.radd M.mz mv z (bentV by_) (hz.sm (by omega)) (hvq.sm (by decide))) ?_|refine WD.callK (Zn.radd M.mz mv z (bentV by_) (hz.sm (by omega)) (hvq.sm (by decide))) ?_|refine LO.callM (Zn.radd M.mz mv z (bentV by_) (hz.sm (by omega)) (hvq.sm (by decide))) ?_
  rintro _ _ _ ⟨m3,rfl,rfl,rfl⟩
  simp only[List.nil_append,List.cons_append]
  repeat'(first|refine gA ?_|(refine goG ?_;intro g)|(refine goV ?_;intro v)|refine goE ?_|(refine goEG ?_;intro g)|(refine goEV ?_;intro v)|refine goD ?_|refine goXD ?_|(refine goDG ?_;intro g)|(refine goDV ?_;intro v)|refine gY ?_|refine d20 ?_|fail)
  refine WC.freezeF xv xn M.mx x (by repeat(first|exact Sel.head|apply Sel.tail)) (W.Has.fm (v:=M.xv) (ms:=M.mx) hmA) ?_
  refine WC.freezeF yv yn M.my y (by repeat(first|exact Sel.head|apply Sel.tail)) (W.Has.fm (v:=M.yv) (ms:=M.my) hmA) ?_
  refine WC.ret ?_
  exact Fin.p [] [fA ⟨xv,yv,M.mx,M.my,m3⟩ xn yn x y (z+bentV by_)] (ResE.cV rfl rfl meA T.r33 rfl) meA (List.nil_sublist _) (.cons (has_A hmA hmA hmA) .nil) ⟨⟨xv,yv,M.mx,M.my,m3⟩,kind,xn,yn,x,y,(z+bentV by_),rfl,rfl,rfl,by omega,by omega,fun k hk=>(hx k hk).up (by omega),fun k hk=>(hy k hk).up (by omega),((hz.add hvq)).up (by omega)⟩
 by_cases r4:r=4
 ·repeat'(first|refine gA ?_|(refine goG ?_;intro g)|(refine goV ?_;intro v)|refine goE ?_|(refine goEG ?_;intro g)|(refine goEV ?_;intro v)|refine goD ?_|refine goXD ?_|(refine goDG ?_;intro g)|(refine goDV ?_;intro v)|refine gY ?_|refine d20 ?_|fail)
  revert v;intro xv2
  refine WC.freezeF xv2 (xn+1) (upd M.mx xn mv) (upd x xn (bentV by_)) (by repeat(first|exact Sel.head|apply Sel.tail)) (W.Has.mFapp (n:=xn) (ms:=M.mx) (m:=mv) (qf:=x) (W.Has.fm (v:=M.xv) (ms:=M.mx) hmA) hmA) ?_
  refine WC.freezeF yv yn M.my y (by repeat(first|exact Sel.head|apply Sel.tail)) (W.Has.fm (v:=M.yv) (ms:=M.my) hmA) ?_
  refine WC.ret ?_
  exact Fin.p [] [fA ⟨xv2,yv,(upd M.mx xn mv),M.my,M.mz⟩ (xn+1) yn (upd x xn (bentV by_)) y z] (ResE.cV rfl rfl meA T.r33 rfl) meA (List.nil_sublist _) (.cons (has_A hmA hmA hmA) .nil) ⟨⟨xv2,yv,(upd M.mx xn mv),M.my,M.mz⟩,kind,(xn+1),yn,(upd x xn (bentV by_)),y,z,rfl,rfl,rfl,by omega,by omega,fun k hk=>by
   by_cases e:k=xn
   ·subst e;rw[upd_at];exact hvq.up (by omega)
   ·rw[upd_ne e];exact(hx k (by omega)).up (by omega),fun k hk=>(hy k hk).up (by omega),hz.up (by omega)⟩
 by_cases r5:r=5
 ·repeat'(first|refine gA ?_|(refine goG ?_;intro g)|(refine goV ?_;intro v)|refine goE ?_|(refine goEG ?_;intro g)|(refine goEV ?_;intro v)|refine goD ?_|refine goXD ?_|(refine goDG ?_;intro g)|(refine goDV ?_;intro v)|refine gY ?_|refine d20 ?_|fail)
  refine WL.freezeF yv yn M.my y (by repeat(first|exact Sel.head|apply Sel.tail)) (W.Has.fm (v:=M.yv) (ms:=M.my) hmA) ?_
  refine WL.fact' (fF (resl yv 0 (0+(yn - 1)) 4) (yn - 1) (fun i=>M.my (0+i)) (fun i=>y (0+i))) (W.Has.subM (v:=yv) (ms:=M.my) (q:=y) hmA (by omega)) ?_
  simp only[Nat.zero_add]
  rw[show max (0:Int) ((yn:Int) - 1)=((yn - 1:Nat):Int) by omega]
  repeat'(first|refine gA ?_|(refine goG ?_;intro g)|(refine goV ?_;intro v)|refine goE ?_|(refine goEG ?_;intro g)|(refine goEV ?_;intro v)|refine goD ?_|refine goXD ?_|(refine goDG ?_;intro g)|(refine goDV ?_;intro v)|refine gY ?_|refine d20 ?_|fail)
  refine WC.freezeF xv xn M.mx x (by repeat(first|exact Sel.head|apply Sel.tail)) (W.Has.fm (v:=M.xv) (ms:=M.mx) hmA) ?_
  refine WC.ret ?_
  exact Fin.p [] [fA ⟨xv,resl yv 0 (yn - 1) 4,M.mx,M.my,M.mz⟩ xn (yn - 1) x y z] (ResE.cV rfl rfl meA T.r33 rfl) meA (List.nil_sublist _) (.cons (has_A hmA hmA hmA) .nil) ⟨⟨xv,resl yv 0 (yn - 1) 4,M.mx,M.my,M.mz⟩,kind,xn,(yn - 1),x,y,z,rfl,rfl,rfl,by omega,by omega,fun k hk=>(hx k hk).up (by omega),fun k hk=>(hy k (by omega)).up (by omega),hz.up (by omega)⟩
 by_cases r6:r=6
 ·repeat'(first|refine gA ?_|(refine goG ?_;intro g)|(refine goV ?_;intro v)|refine goE ?_|(refine goEG ?_;intro g)|(refine goEV ?_;intro v)|refine goD ?_|refine goXD ?_|(refine goDG ?_;intro g)|(refine goDV ?_;intro v)|refine gY ?_|refine d20 ?_|fail)
  refine WC.lp (σ:=Nat×(Nat→QM)) (fun st=>[(14,.int .i64 (st.1:Int)),(10,yv),(9,xv),(11,ptr g11),(8,ptr g8),(4,ptr g4)])
   (fun st=>[Ow.cells g11 31 (qcs mv),Ow.slice yv 31 4 (qcells yn st.2),Ow.slice xv 31 4 (qcells xn M.mx),Ow.cells g8 33 [.int .i64 0,.slice none 0 0,.slice none 0 0,.bool false,.slice none 0 0,.bool false,.slice none 0 0],Ow.cells g4 33 (acs M kind)])
   (fun st=>[mF yn st.2 (mulK y (bentV by_) st.1),isQ (qv mv) (bentV by_),isQ (qv M.mz) z,fF M.xv xn M.mx x,ge h0]) (fun st=>st.1≤yn) (fun st=>yn - st.1) (0,M.my) (Nat.zero_le _) ?_ (hG:=.cons (W.Has.mFsame (qf:=y) (W.Has.fm (v:=M.yv) (ms:=M.my) hmA) fun k _=>(if_neg (Nat.not_lt_zero _)).symm) sfA)
  rintro⟨i,my⟩ hi
  simp only at hi ⊢
  by_cases c:i < yn
  ·refine WC.fact (isQ (qv (my i)) (mulK y (bentV by_) i i)) (W.Has.q hmA c) ?_
   rw[show mulK y (bentV by_) i i=y i from if_neg (Nat.lt_irrefl _)]
   repeat'(first|refine gA ?_|(refine goG ?_;intro g)|(refine goV ?_;intro v)|refine goE ?_|(refine goEG ?_;intro g)|(refine goEV ?_;intro v)|refine goD ?_|refine goXD ?_|(refine goDG ?_;intro g)|(refine goDV ?_;intro v)|refine gY ?_|refine d20 ?_|fail)
   first|refine WL.callK (Zn.rmul (my i) mv (y i) (bentV by_) ((hy i c).sm (by omega)) (hvq.sm (by decide))) ?_|refine WD.callK (Zn.rmul (my i) mv (y i) (bentV by_) ((hy i c).sm (by omega)) (hvq.sm (by decide))) ?_|refine LO.callM (Zn.rmul (my i) mv (y i) (bentV by_) ((hy i c).sm (by omega)) (hvq.sm (by decide))) ?_
   rintro _ _ _ ⟨m3,rfl,rfl,rfl⟩
   simp only[List.nil_append,List.cons_append]
   repeat'(first|refine gA ?_|(refine goG ?_;intro g)|(refine goV ?_;intro v)|refine goE ?_|(refine goEG ?_;intro g)|(refine goEV ?_;intro v)|refine goD ?_|refine goXD ?_|(refine goDG ?_;intro g)|(refine goDV ?_;intro v)|refine gY ?_|refine d20 ?_|fail)
   exact LoopEnd.mk (i+1,upd my i m3) (by show i+1≤yn;omega) (by show yn - (i+1) < yn - i;omega) (hG:=.cons ((W.Has.mFset (k:=i) (ms:=my) (m:=m3) (z:=y i*bentV by_) (qf:=mulK y (bentV by_) i) hmA hmA).mFsame fun k _=>mulK_up k) sfA)
  ·obtain rfl:i=yn:=by omega
   repeat'(first|refine gA ?_|(refine goG ?_;intro g)|(refine goV ?_;intro v)|refine goE ?_|(refine goEG ?_;intro g)|(refine goEV ?_;intro v)|refine goD ?_|refine goXD ?_|(refine goDG ?_;intro g)|(refine goDV ?_;intro v)|refine gY ?_|refine d20 ?_|fail)
   refine WC.freezeF xv xn M.mx x (by repeat(first|exact Sel.head|apply Sel.tail)) (W.Has.fm (v:=M.xv) (ms:=M.mx) hmA) ?_
   refine WC.freezeF yv i my (mulK y (bentV by_) i) (by repeat(first|exact Sel.head|apply Sel.tail)) hmA ?_
   refine WC.ret ?_
   exact Fin.p [] [fA ⟨xv,yv,M.mx,my,M.mz⟩ xn i x (mulK y (bentV by_) i) z] (ResE.cV rfl rfl meA T.r33 rfl) meA (List.nil_sublist _) (.cons (has_A hmA hmA hmA) .nil) ⟨⟨xv,yv,M.mx,my,M.mz⟩,kind,xn,i,x,(mulK y (bentV by_) i),z,rfl,rfl,rfl,by omega,by omega,fun k hk=>(hx k hk).up (by omega),fun k hk=>by
    show Sq (R+2) (if k < i then y k*bentV by_ else y k)
    rw[if_pos hk]
    exact(((hy k hk).mul hvq)).up (by omega),hz.up (by omega)⟩
 exfalso
 omega
end U
end Go.Proofs.YtaongbhamadlkaaGreat
namespace Go.Proofs.YtaongbhamadlkaaGreat
open W Go.RowKit
def someK:Nat:=szR 3 6 1+4
theorem someK_le (l:List Int):szR (someV l) 6 1+4≤someK:=v3 (P:=fun v=>szR v 6 1+4≤someK) (someV_le l) (by decide +kernel) (by decide +kernel) (by decide +kernel)
theorem someKD (l:List Int):Dok (someV l) someK:=v3 (P:=fun v=>Dok v someK) (someV_le l) (by unfold Dok;decide +kernel) (by unfold Dok;decide +kernel) (by unfold Dok;decide +kernel)
theorem someKD6:Dok 6 someK:=by unfold Dok;decide +kernel
theorem someL19 (l:List Int):szL 6 1≤19000000:=by decide +kernel
theorem someR (l:List Int):szR (someV l) 6 1≤180000000:=v3 (P:=fun v=>szR v 6 1≤180000000) (someV_le l) (by decide +kernel) (by decide +kernel) (by decide +kernel)
theorem AnsP.len {p:X.Lp} {kind xn yn:Nat} {x y:Nat→Rat} {z:Rat} (h:AnsP p kind xn yn x y z) {N:Nat} (hv:p.v≤N) (hm:p.m≤N):xn≤N∧yn≤N:=by
 rcases h with ⟨_,h1,h2,_⟩|⟨_,h1,h2,_⟩|⟨_,h1,h2,_⟩ <;> constructor <;> omega
def am0:Am:=⟨.slice none 0 0,.slice none 0 0,fun _=>m00,fun _=>m00,m00⟩
theorem has_am0 {F:List Fct}:Has F (fA am0 0 0 (fun _=>0) (fun _=>0) 0):=has_A (has_nil0F _ _) (has_nil0F _ _) hasQ0
namespace U
open Z
attribute [local irreducible] WC WL WD YO LO LoopEnd W.Fin Scalar SliceT FieldAt Row ArrT AllocT KnS Has W.One SrcE IntT
theorem d4 {G G':Prop} (h:G') (s:Bx G'→G:=by
 intro h
 first|(apply WC.draw (id:=4) [0,1,2,3,4,5,7,10,11] (.held 0 (.held 1 (.held 2 (.held 3 (.held 4 (.held 5 (.held 7 (.held 10 (.held 11 (.loud 6 (.loud 8 (.loud 9 (.loud 12 (.loud 13 (.done))))))))))))))) mixed (by kernel_rfl))|(apply WC.draw (id:=9) [0,1,2,3,4] (.held 0 (.held 1 (.held 2 (.held 3 (.held 4 (.loud 5 (.done))))))) mixed (by kernel_rfl))|(apply WC.draw (id:=11) [0,1,2,3,4,6,7] (.held 0 (.held 1 (.held 2 (.held 3 (.held 4 (.held 6 (.loud 5 (.held 7 (.done))))))))) mixed (by kernel_rfl))|fail
 exact Bx.h h):G:=s ⟨h⟩
theorem rsolveL_c (M:Pm) (l:List Int):FnB Tryz.prog 19 [pgv M (someV l)] [] [fP M (someP l 6)] (IsAnR (someP l 6) (szR (someV l) 6 1)):=
 rsolve_c M (someV l) (someL l 6) (someG l) 1 (szK 6 1) (szL 6 1) (szR (someV l) 6 1) (szs_of (someFits l) (someL_sq l 6) (someL_len l 6) (fun k _=>someG_sq l k)) (someL_sq l 6) (someV_le l).1 (by have:=(someV_le l).2;omega) (by have:=someL_len l 6;omega) (someL19 l) (by unfold szR;omega) (by unfold szR;omega) (by unfold szR;omega)
set_option maxHeartbeats 16000000 in
set_option maxRecDepth 60000 in
theorem checksLaw_h (hlv:FnB Tryz.prog 18 [] [] [] (IsV (.bool true))) (v0 v1:Value) (l ml:List Int) (how at_ by_:Int) (hl:∀ x∈l,I64 x) (hml:∀ x∈ml,I64 x) (hh:I64 how) (ha:I64 at_) (hb:I64 by_) :
  FnB Tryz.prog 4 [v0,v1,.int .i64 how,.int .i64 at_,.int .i64 by_] [] [sI v0 l,sI v1 ml] (IsV (.bool true)):=by
 refine fn_of [(0,v0),(1,v1),(2,(.int .i64 how)),(3,(.int .i64 at_)),(4,(.int .i64 by_))] 66 Tryz.func4 rfl Tryz.ntmps4 (by kernel_rfl) rfl suA fun h0=>?_
 have hV:=someV_le l
 have hF:=someFits l
 have hS:=someL_sq l 6
 have hLn:=someL_len l 6
 have hG:=fun k (_:k < someV l)=>someG_sq l k
 have hR:=szR_1 (someV l) 6 1
 have hR18:=someR l
 have hR18m:=someR ml
 have hKl:=someK_le l
 have hKm:=someK_le ml
 have hdv:=someKD l
 have hd6:=someKD6
 refine WC.fact (fA am0 0 0 (fun _=>0) (fun _=>0) 0) has_am0 ?_
 repeat'(first|refine gA ?_|(refine goG ?_;intro g)|(refine goV ?_;intro v)|refine goE ?_|(refine goEG ?_;intro g)|(refine goEV ?_;intro v)|refine goD ?_|refine goXD ?_|(refine goDG ?_;intro g)|(refine goDV ?_;intro v)|refine gY ?_|refine d4 ?_|fail)
 refine WL.callK (some_c v0 l 6 hl (by decide)) ?_
 rintro _ _ _ ⟨M,rfl,rfl,rfl⟩
 simp only[List.nil_append,List.cons_append]
 rw[show(someP l 6).v=someV l from rfl]
 have hsv:=rsolveL_c M l
 refine WL.fact' (fF M.gv (someV l) M.mg (someG l)) (W.Has.pG (L:=someL l 6) (show Has _ (fP M (X.lpOf (someV l) (someL l 6) (someG l))) from hmA)) ?_
 repeat'(first|refine gA ?_|(refine goG ?_;intro g)|(refine goV ?_;intro v)|refine goE ?_|(refine goEG ?_;intro g)|(refine goEV ?_;intro v)|refine goD ?_|refine goXD ?_|(refine goDG ?_;intro g)|(refine goDV ?_;intro v)|refine gY ?_|refine d4 ?_|fail)
 revert g;intro gp
 refine WL.callK hsv ?_
 rintro _ _ _ ⟨A,k,xn,yn,x,y,z,rfl,rfl,rfl,hA,hx,hy,hz⟩
 simp only[List.nil_append,List.cons_append]
 obtain⟨hxn,hyn⟩:=hA.len (N:=6) (show someV l≤6 by omega) (show(someL l 6).length≤6 from hLn)
 refine WL.fact' (fF A.xv xn A.mx x) (W.Has.ax (M:=A) (xn:=xn) (yn:=yn) (x:=x) (y:=y) (z:=z) hmA) ?_
 refine WL.fact' (fF A.yv yn A.my y) (W.Has.ay (M:=A) (xn:=xn) (yn:=yn) (x:=x) (y:=y) (z:=z) hmA) ?_
 refine WL.fact' (isQ (qv A.mz) z) (W.Has.az (M:=A) (xn:=xn) (yn:=yn) (x:=x) (y:=y) (z:=z) hmA) ?_
 repeat'(first|refine gA ?_|(refine goG ?_;intro g)|(refine goV ?_;intro v)|refine goE ?_|(refine goEG ?_;intro g)|(refine goEV ?_;intro v)|refine goD ?_|refine goXD ?_|(refine goDG ?_;intro g)|(refine goDV ?_;intro v)|refine gY ?_|refine d4 ?_|fail)
 revert g;intro ga
 refine WL.callK (bent_c A (k:Nat) xn yn 6 (szR (someV l) 6 1) x y z how at_ by_ hh ha hb (by decide) hxn hyn (by omega) hx hy hz) ?_
 rintro _ _ _ ⟨A2,k2,xn2,yn2,x2,y2,z2,rfl,rfl,rfl,hxn2,hyn2,hx2,hy2,hz2⟩
 simp only[List.nil_append,List.cons_append]
 refine WL.fact' (fF A2.xv xn2 A2.mx x2) (W.Has.ax (M:=A2) (xn:=xn2) (yn:=yn2) (x:=x2) (y:=y2) (z:=z2) hmA) ?_
 refine WL.fact' (fF A2.yv yn2 A2.my y2) (W.Has.ay (M:=A2) (xn:=xn2) (yn:=yn2) (x:=x2) (y:=y2) (z:=z2) hmA) ?_
 refine WL.fact' (isQ (qv A2.mz) z2) (W.Has.az (M:=A2) (xn:=xn2) (yn:=yn2) (x:=x2) (y:=y2) (z:=z2) hmA) ?_
 repeat'(first|refine gA ?_|(refine goG ?_;intro g)|(refine goV ?_;intro v)|refine goE ?_|(refine goEG ?_;intro g)|(refine goEV ?_;intro v)|refine goD ?_|refine goXD ?_|(refine goDG ?_;intro g)|(refine goDV ?_;intro v)|refine gY ?_|refine d4 ?_|fail)
 revert g;intro gb
 refine WD.callK (bent_c A2 k2 xn2 yn2 7 (szR (someV l) 6 1+2) x2 y2 z2 by_ how at_ hb hh ha (by decide) hxn2 hyn2 (by omega) hx2 hy2 hz2) ?_
 rintro _ _ _ ⟨A3,k3,xn3,yn3,x3,y3,z3,rfl,rfl,rfl,hxn3,hyn3,hx3,hy3,hz3⟩
 simp only[List.nil_append,List.cons_append]
 repeat'(first|refine gA ?_|(refine goG ?_;intro g)|(refine goV ?_;intro v)|refine goE ?_|(refine goEG ?_;intro g)|(refine goEV ?_;intro v)|refine goD ?_|refine goXD ?_|(refine goDG ?_;intro g)|(refine goDV ?_;intro v)|refine gY ?_|refine d4 ?_|fail)
 refine WD.callK (some_c v1 ml 6 hml (by decide)) ?_
 rintro _ _ _ ⟨Mm,rfl,rfl,rfl⟩
 simp only[List.nil_append,List.cons_append]
 rw[show(someP ml 6).v=someV ml from rfl]
 repeat'(first|refine gA ?_|(refine goG ?_;intro g)|(refine goV ?_;intro v)|refine goE ?_|(refine goEG ?_;intro g)|(refine goEV ?_;intro v)|refine goD ?_|refine goXD ?_|(refine goDG ?_;intro g)|(refine goDV ?_;intro v)|refine gY ?_|refine d4 ?_|fail)
 refine WD.callK (rsolveL_c Mm ml) ?_
 rintro _ _ _ ⟨A4,k4,xn4,yn4,x4,y4,z4,rfl,rfl,rfl,hA4,hx4,hy4,hz4⟩
 simp only[List.nil_append,List.cons_append]
 repeat'(first|refine gA ?_|(refine goG ?_;intro g)|(refine goV ?_;intro v)|refine goE ?_|(refine goEG ?_;intro g)|(refine goEV ?_;intro v)|refine goD ?_|refine goXD ?_|(refine goDG ?_;intro g)|(refine goDV ?_;intro v)|refine gY ?_|refine d4 ?_|fail)
 have hm0:am0.xv=.slice none 0 0:=rfl
 (apply WD.kl_bs;exact rfl;rotate_left;exact rfl;exact rfl;(refine LO.bsA6 (M1:=A) (M2:=A2) (M3:=A3) (M4:=A4) (M5:=am0) (M6:=am0) (k1:=k) (k2:=k2) (k3:=k3) (k4:=k4) (k5:=0) (k6:=3) ?_ ?_ ?_ ?_ ?_ ?_ hmA hmA hmA hmA (show Has _ (fA am0 0 0 (fun _=>0) (fun _=>0) 0) from hmA) (show Has _ (fA am0 0 0 (fun _=>0) (fun _=>0) 0) from hmA) ?_;exact rfl;exact rfl;exact rfl;exact rfl;exact rfl;exact rfl);apply allAnd;(intro _;(first|(focus(apply Or.inr;constructor;(repeat(first|exact List.Sublist.refl _|exact List.nil_sublist _|apply List.Sublist.cons_cons|apply List.Sublist.cons));(first|exact fun _ h=>h|(intro f hf;(repeat(first|exact hf|apply List.Mem.tail))));done))|(apply Or.inl;kernel_rfl))))
 intro lv
 repeat'(first|refine gA ?_|(refine goG ?_;intro g)|(refine goV ?_;intro v)|refine goE ?_|(refine goEG ?_;intro g)|(refine goEV ?_;intro v)|refine goD ?_|refine goXD ?_|(refine goDG ?_;intro g)|(refine goDV ?_;intro v)|refine gY ?_|refine d4 ?_|fail)
 have hsx:∀ i,i < 6→∀ j,j < ((A6 ⟨A,k,xn,yn,x,y,z⟩ ⟨A2,k2,xn2,yn2,x2,y2,z2⟩ ⟨A3,k3,xn3,yn3,x3,y3,z3⟩ ⟨A4,k4,xn4,yn4,x4,y4,z4⟩ ⟨am0,0,0,0,fun _=>0,fun _=>0,0⟩ ⟨am0,3,0,0,fun _=>0,fun _=>0,0⟩) i).xn→Sq someK (((A6 ⟨A,k,xn,yn,x,y,z⟩ ⟨A2,k2,xn2,yn2,x2,y2,z2⟩ ⟨A3,k3,xn3,yn3,x3,y3,z3⟩ ⟨A4,k4,xn4,yn4,x4,y4,z4⟩ ⟨am0,0,0,0,fun _=>0,fun _=>0,0⟩ ⟨am0,3,0,0,fun _=>0,fun _=>0,0⟩) i).x j):=
  ltA6 (fun j hj=>(hx j hj).up (by omega)) (fun j hj=>(hx2 j hj).up (by omega)) (fun j hj=>(hx3 j hj).up (by omega)) (fun j hj=>(hx4 j hj).up (by omega)) (fun j hj=>absurd hj (Nat.not_lt_zero _)) (fun j hj=>absurd hj (Nat.not_lt_zero _))
 have hsy:∀ i,i < 6→∀ j,j < ((A6 ⟨A,k,xn,yn,x,y,z⟩ ⟨A2,k2,xn2,yn2,x2,y2,z2⟩ ⟨A3,k3,xn3,yn3,x3,y3,z3⟩ ⟨A4,k4,xn4,yn4,x4,y4,z4⟩ ⟨am0,0,0,0,fun _=>0,fun _=>0,0⟩ ⟨am0,3,0,0,fun _=>0,fun _=>0,0⟩) i).yn→Sq someK (((A6 ⟨A,k,xn,yn,x,y,z⟩ ⟨A2,k2,xn2,yn2,x2,y2,z2⟩ ⟨A3,k3,xn3,yn3,x3,y3,z3⟩ ⟨A4,k4,xn4,yn4,x4,y4,z4⟩ ⟨am0,0,0,0,fun _=>0,fun _=>0,0⟩ ⟨am0,3,0,0,fun _=>0,fun _=>0,0⟩) i).y j):=
  ltA6 (fun j hj=>(hy j hj).up (by omega)) (fun j hj=>(hy2 j hj).up (by omega)) (fun j hj=>(hy3 j hj).up (by omega)) (fun j hj=>(hy4 j hj).up (by omega)) (fun j hj=>absurd hj (Nat.not_lt_zero _)) (fun j hj=>absurd hj (Nat.not_lt_zero _))
 refine WC.freezeAs lv 6 (A6 ⟨A,k,xn,yn,x,y,z⟩ ⟨A2,k2,xn2,yn2,x2,y2,z2⟩ ⟨A3,k3,xn3,yn3,x3,y3,z3⟩ ⟨A4,k4,xn4,yn4,x4,y4,z4⟩ ⟨am0,0,0,0,fun _=>0,fun _=>0,0⟩ ⟨am0,3,0,0,fun _=>0,fun _=>0,0⟩) (by repeat(first|exact Sel.head|apply Sel.tail)) rfl
  (ltA6 (show Has _ (fA A xn yn x y z) from hmA) (show Has _ (fA A2 xn2 yn2 x2 y2 z2) from hmA) (show Has _ (fA A3 xn3 yn3 x3 y3 z3) from hmA) (show Has _ (fA A4 xn4 yn4 x4 y4 z4) from hmA) (show Has _ (fA am0 0 0 (fun _=>0) (fun _=>0) 0) from hmA) (show Has _ (fA am0 0 0 (fun _=>0) (fun _=>0) 0) from hmA)) ?_
 generalize (A6 ⟨A,k,xn,yn,x,y,z⟩ ⟨A2,k2,xn2,yn2,x2,y2,z2⟩ ⟨A3,k3,xn3,yn3,x3,y3,z3⟩ ⟨A4,k4,xn4,yn4,x4,y4,z4⟩ ⟨am0,0,0,0,fun _=>0,fun _=>0,0⟩ ⟨am0,3,0,0,fun _=>0,fun _=>0,0⟩)=AA at *
 refine WC.lp (σ:=Nat) (fun i=>[(15,.int .i64 (i:Int)),(14,lv),(12,ptr ga),(11,ptr gp)]) (fun _=>[Ow.cells ga 33 (acs A k),Ow.cells gp 26 (pcs M (someV l))])
  (fun _=>[fAs lv 6 AA,slC lv 6 7 (acell AA),fA A xn yn x y z,fP M (someP l 6),ge h0]) (fun i=>i≤6) (fun i=>6 - i) 0 (Nat.zero_le _) ?_
 intro i hi
 by_cases c:i < 6
 ·refine WC.fact (fA (AA i).M (AA i).xn (AA i).yn (AA i).x (AA i).y (AA i).z) (W.Has.asf (v:=lv) hmA c) ?_
  have hr:=rright_c M (someV l) (someL l 6) (someG l) (AA i).M someK (AA i).xn (AA i).yn (AA i).x (AA i).y (AA i).z (AA i).k hdv (hd6.le hLn) (by omega) (by omega) (hS.up (by omega)) (fun k hk=>(hG k hk).up (by omega)) (hsx i c) (hsy i c)
  have hc:=checkL_c M (AA i).M (kind:=(AA i).k) (z:=(AA i).z) hF hS hLn hG (by omega) hdv hd6 (hsx i c) (hsy i c)
  generalize hrp:rightP (X.lpOf (someV l) (someL l 6) (someG l)) (AA i).k (AA i).xn (AA i).yn (AA i).x (AA i).y (AA i).z=rr at *
  repeat'(first|refine gA ?_|(refine goG ?_;intro g)|(refine goV ?_;intro v)|refine goE ?_|(refine goEG ?_;intro g)|(refine goEV ?_;intro v)|refine goD ?_|refine goXD ?_|(refine goDG ?_;intro g)|(refine goDV ?_;intro v)|refine gY ?_|refine d4 ?_|fail)
  first|refine WL.callV (hr) ?_|refine WD.callV (hr) ?_
  cases rr with
  |true=>
   rw[if_pos rfl] at hc
   repeat'(first|refine gA ?_|(refine goG ?_;intro g)|(refine goV ?_;intro v)|refine goE ?_|(refine goEG ?_;intro g)|(refine goEV ?_;intro v)|refine goD ?_|refine goXD ?_|(refine goDG ?_;intro g)|(refine goDV ?_;intro v)|refine gY ?_|refine d4 ?_|fail)
   first|refine WL.callV (hc) ?_|refine WD.callV (hc) ?_
   repeat'(first|refine gA ?_|(refine goG ?_;intro g)|(refine goV ?_;intro v)|refine goE ?_|(refine goEG ?_;intro g)|(refine goEV ?_;intro v)|refine goD ?_|refine goXD ?_|(refine goDG ?_;intro g)|(refine goDV ?_;intro v)|refine gY ?_|refine d4 ?_|fail)
   exact LoopEnd.mk (i+1) c (by show 6 - (i+1) < 6 - i;omega)
  |false=>
   rw[if_neg (by decide)] at hc
   repeat'(first|refine gA ?_|(refine goG ?_;intro g)|(refine goV ?_;intro v)|refine goE ?_|(refine goEG ?_;intro g)|(refine goEV ?_;intro v)|refine goD ?_|refine goXD ?_|(refine goDG ?_;intro g)|(refine goDV ?_;intro v)|refine gY ?_|refine d4 ?_|fail)
   first|refine WL.callV (hc) ?_|refine WD.callV (hc) ?_
   repeat'(first|refine gA ?_|(refine goG ?_;intro g)|(refine goV ?_;intro v)|refine goE ?_|(refine goEG ?_;intro g)|(refine goEV ?_;intro v)|refine goD ?_|refine goXD ?_|(refine goDG ?_;intro g)|(refine goDV ?_;intro v)|refine gY ?_|refine d4 ?_|fail)
   exact LoopEnd.mk (i+1) c (by show 6 - (i+1) < 6 - i;omega)
 ·obtain rfl:i=6:=by omega
  have hc:=checkL_c M A (kind:=(k:Nat)) (z:=z) hF hS hLn hG (R:=someK) (by omega) hdv hd6 (fun j hj=>(hx j hj).up (by omega)) (fun j hj=>(hy j hj).up (by omega))
  rw[if_pos (show rightP (X.lpOf (someV l) (someL l 6) (someG l)) k xn yn x y z=true from ans_right hA)] at hc
  repeat'(first|refine gA ?_|(refine goG ?_;intro g)|(refine goV ?_;intro v)|refine goE ?_|(refine goEG ?_;intro g)|(refine goEV ?_;intro v)|refine goD ?_|refine goXD ?_|(refine goDG ?_;intro g)|(refine goDV ?_;intro v)|refine gY ?_|refine d4 ?_|fail)
  first|refine WL.callV (hc) ?_|refine WD.callV (hc) ?_
  repeat'(first|refine gA ?_|(refine goG ?_;intro g)|(refine goV ?_;intro v)|refine goE ?_|(refine goEG ?_;intro g)|(refine goEV ?_;intro v)|refine goD ?_|refine goXD ?_|(refine goDG ?_;intro g)|(refine goDV ?_;intro v)|refine gY ?_|refine d4 ?_|fail)
  first|refine WL.callV (hlv) ?_|refine WD.callV (hlv) ?_
  repeat'(first|refine gA ?_|(refine goG ?_;intro g)|(refine goV ?_;intro v)|refine goE ?_|(refine goEG ?_;intro g)|(refine goEV ?_;intro v)|refine goD ?_|refine goXD ?_|(refine goDG ?_;intro g)|(refine goDV ?_;intro v)|refine gY ?_|refine d4 ?_|fail)
  exact WC.ret (Fin.v (ResE.t1 rfl rfl) meA rfl)
end U
end Go.Proofs.YtaongbhamadlkaaGreat
namespace Go.Proofs.YtaongbhamadlkaaGreat
open Go.ChangeShapes Go.WideShapes Go.ChangeAt Go.RowKit
open W
theorem Tryz.int3:Tryz.prog.underlying 3=some (.int .i64):=by kernel_rfl
theorem Tryz.sl22:Tryz.prog.underlying 22=some (.slice 3):=by kernel_rfl
theorem Tryz.bool4:Tryz.prog.underlying 4=some .bool:=by kernel_rfl
theorem Tryz.one3:Tryz.prog.cellsOf 3=1:=by kernel_rfl
set_option maxRecDepth 100000 in
theorem simplexChecks_lifted (os:Os) (started:os.Started) (H:Type) (enc:TypeId×Value→H) :
  ReturnsInHanded {} Tryz.checked os 4 .any (Rows.simplexChecksSpec.pre6 enc Tryz.prog Tryz.f4 Rows.simplexChecksRow.domain false) (Rows.simplexChecksSpec.post enc Tryz.prog Tryz.f4 false true false false):=by
 refine returnsInHanded_of_change (C:=Tryz.checked) Tryz.own started (by kernel_rfl) Tryz.func4
  (ChangeSpec.witness6 (enc:=enc) (C:=Tryz.checked) false ⟨#[],#[.slice none 0 0,.slice none 0 0,.int .i64 0,.int .i64 0,.int .i64 0],[]⟩ 8 (by kernel_rfl) (by kernel_rfl) (by kernel_rfl) (by kernel_rfl)) ?_
 intro V1 base args ds gs before hval0 hW hcnd _
 have hval:∀ (j:Nat) t v,Tryz.f4.params[j]?=some t→args[j]?=some v→Value.okWide Tryz.prog V1 .any base t v:=hval0
 have hW':=hW
 obtain⟨p,q,hA0,hV,rfl,hfz,hnd⟩:=hW
 have hA:DataW.TrodAll enc Tryz.prog V1 0 (fun _=>true) true Tryz.f4.params.toList args.toList ds p:=hA0
 rw[Tryz.params4] at hA hval
 obtain⟨args⟩:=args
 obtain⟨v0,a1,d0,e1,p0,q1,rfl,rfl,rfl,h0,hA⟩:=trodAll_cons hA
 obtain⟨v1,a2,d1,e2,p1,q2,rfl,rfl,rfl,h1,hA⟩:=trodAll_cons hA
 obtain⟨v2,a3,d2,e3,p2,q3,rfl,rfl,rfl,h2,hA⟩:=trodAll_cons hA
 obtain⟨v3,a4,d3,e4,p3,q4,rfl,rfl,rfl,h3,hA⟩:=trodAll_cons hA
 obtain⟨v4,a5,d4,e5,p4,q5,rfl,rfl,rfl,h4,hA⟩:=trodAll_cons hA
 obtain⟨rfl,rfl,rfl⟩:=trodAll_nil hA
 obtain⟨rfl,rfl⟩:=trodVars_none hV
 obtain⟨l0,hl0,f0,g0⟩:=arg_ints Tryz.sl22 Tryz.int3 Tryz.one3 (hval 0 22 v0 rfl rfl) h0
 obtain⟨l1,hl1,f1,g1⟩:=arg_ints Tryz.sl22 Tryz.int3 Tryz.one3 (hval 1 22 v1 rfl rfl) h1
 obtain⟨n2,rfl,hl2,g2⟩:=arg_int Tryz.int3 (hval 2 3 v2 rfl rfl) h2
 obtain⟨n3,rfl,hl3,g3⟩:=arg_int Tryz.int3 (hval 3 3 v3 rfl rfl) h3
 obtain⟨n4,rfl,hl4,g4⟩:=arg_int Tryz.int3 (hval 4 3 v4 rfl rfl) h4
 simp only[List.append_nil] at hW'
 refine(law_calls (U.checksLaw_h U.lives_c v0 v1 l0 l1 n2 n3 n4 hl0 hl1 hl2 hl3 hl4) (fun g hg=>?_)).mono fun e V2 hh2=>?_
 ·simp only[List.mem_cons,List.not_mem_nil,or_false] at hg
  rcases hg with rfl|rfl
  ·exact f0
  ·exact f1
 ·obtain⟨he,hr,hE⟩:=hh2
  refine⟨_,he,post_law hW' (fun _ _ _=>trodAll_mk1 (shut_bool Tryz.bool4 _)) (fun sp hsp=>?_) (fun _=>rfl) hr hE (ok_one (by kernel_rfl) rfl (okWide_bool_mk Tryz.bool4 _))⟩
  have:=(AgainAll.cons g0 (AgainAll.cons g1 (AgainAll.cons g2 (AgainAll.cons g3 (AgainAll.cons g4 AgainAll.nil))))) V2 sp hE (by simpa using hsp)
  simp only[List.append_nil] at this
  show DataW.TrodAll enc Tryz.prog V2 0 sp true Tryz.f4.params.toList _ _ _
  rw[Tryz.params4]
  exact this
theorem simplexChecks_holds:Rows.SimplexChecksSaid:=
 OpenClaim.holds_of_wide 4 Tryz.f4 rfl rfl rfl rfl rfl rfl rfl ⟨rfl,rfl,rfl,rfl,rfl⟩ rfl rfl rfl rfl rfl (by kernel_rfl) Tryz.func4 (by kernel_rfl)
  (of_decide_eq_true (by kernel_rfl)) (by unfold Func.isWrapper;first|(rw[if_pos (by decide +kernel)];kernel_rfl)|(rw[if_neg (by decide +kernel)];exact⟨rfl,rfl⟩))
  (fun os started H enc _=>simplexChecks_lifted os started H enc)
#print axioms simplexChecks_holds
end Go.Proofs.YtaongbhamadlkaaGreat
