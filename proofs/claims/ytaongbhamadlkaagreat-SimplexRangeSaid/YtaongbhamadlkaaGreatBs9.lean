/- Lemmas for the proof of a law: Contracts: what simplex reads out of a table. Conditions: none. -/
import Derived.Test.YtaongbhamadlkaaGreatBs8
import Derived.Test.YtaongbhamadlkaaGreatBs3
import Derived.RangeFuncNested
import Derived.RangeFuncBound
import Derived.RangeFuncCalls
import Derived.RangeFuncLeaves
import Derived.Test.YtaongbhamadlkaaGreatBs7
set_option linter.unusedVariables false
set_option linter.unusedSimpArgs false
set_option linter.unusedSectionVars false
namespace Go.Proofs.YtaongbhamadlkaaGreat
open W Go.RowKit
theorem qcell_sh (ms:Nat→QM) (lo j:Nat):qcell ms (lo*4+j)=qcell (fun i=>ms (lo+i)) j:=by
 unfold qcell
 rw[show(lo*4+j) / 4=lo+j / 4 by omega,show(lo*4+j) % 4=j % 4 by omega]
theorem W.Has.subF {F:List Fct} {v:Value} {n lo hi:Nat} {ms:Nat→QM} {q:Nat→Rat} (h:Has F (fF v n ms q)) (h1:lo≤hi) (h2:hi≤n):Has F (fF (resl v lo hi 4) (hi - lo) (fun i=>ms (lo+i)) (fun i=>q (lo+i))):=fun p hf=>by
 have h3:=Has.sub h.fs h1 h2 p hf
 refine⟨?_,fun i hi'=>h.fm p hf (lo+i) (by omega)⟩
 have:(fun j=>qcell ms (lo*4+j))=qcell (fun i=>ms (lo+i)):=funext fun j=>qcell_sh ms lo j
 rwa [this] at h3
theorem W.Has.subM {F:List Fct} {v:Value} {n lo m:Nat} {ms:Nat→QM} {q:Nat→Rat} (h:Has F (fF v n ms q)) (h2:lo+m≤n):Has F (fF (resl v lo (lo+m) 4) m (fun i=>ms (lo+i)) (fun i=>q (lo+i))):=by
 have:=W.Has.subF h (lo:=lo) (hi:=lo+m) (by omega) h2
 rwa [Nat.add_sub_cancel_left] at this
def nowV (m n:Nat) (s:X.St) (k:Nat):Rat:=match X.fstT (fun i=>decide (s.b i=k)) m 0 with
 |none=>0
 |some i=>s.t i n
def rayV (m:Nat) (s:X.St) (col k:Nat):Rat:=if k=col then 1 else match X.fstT (fun i=>decide (s.b i=k)) m 0 with
 |none=>0
 |some i=>-s.t i col
theorem fstT_lt {p:Nat→Bool} {m i:Nat} (h:X.fstT p m 0=some i):i < m:=by
 rcases X.fstT_spec p m 0 with ⟨h1,_⟩|⟨j,h1,_,h3,_⟩
 ·rw[h] at h1;cases h1
 ·rw[h] at h1;cases h1;omega
namespace Z
attribute [local irreducible] WC WL WD YO LO LoopEnd W.Fin Scalar SliceT FieldAt Row ArrT AllocT KnS Has W.One SrcE IntT
theorem d50 {G G':Prop} (h:G') (s:Bx G'→G:=by
 intro h
 first|(apply WC.draw (id:=1) [0,1,2,3,4,5,6,7,8,9,10,11,12,13,14,15,16,17,18,19,21] (.held 0 (.held 1 (.held 2 (.held 3 (.held 4 (.held 5 (.held 6 (.held 7 (.held 8 (.held 9 (.held 10 (.held 11 (.held 12 (.held 13 (.held 14 (.held 15 (.held 16 (.held 17 (.held 18 (.held 19 (.loud 20 (.held 21 (.done))))))))))))))))))))))) mixed (by kernel_rfl))|fail
 exact Bx.h h):G:=s ⟨h⟩
theorem d56 {G G':Prop} (h:G') (s:Bx G'→G:=by
 intro h
 first|(apply WC.draw (id:=3) [0,1,2,3,4,5,6,7,8,9,10,11,12] (.held 0 (.held 1 (.held 2 (.held 3 (.held 4 (.held 5 (.held 6 (.held 7 (.held 8 (.held 9 (.held 10 (.held 11 (.held 12 (.loud 13 (.done))))))))))))))) mixed (by kernel_rfl))|fail
 exact Bx.h h):G:=s ⟨h⟩
set_option maxHeartbeats 4000000 in
set_option maxRecDepth 60000 in
theorem slacks_c (xg vars m n:Nat) (tv cv bv:Value) (mc:Nat→QM) (c:Nat→Rat) (hv:vars≤1000) (hm:m≤1000) (hn:2*vars+m≤n+1) :
  FnB Tryz.prog 50 [ptr xg] [] [ce xg 88 [.int .i64 (vars:Int),.int .i64 (m:Int),.int .i64 (n:Int),tv,cv,bv],fF cv (n+1) mc c] (IsF m (fun r=>c (2*vars+r))):=by
 refine fn_of [(0,(ptr xg))] 24 Tryz.func50 rfl Tryz.ntmps50 (by kernel_rfl) rfl suA fun h0=>?_
 repeat'(first|refine gB ?_|(refine gH ?_;intro g)|(refine gW ?_;intro v)|refine d50 ?_|fail)
 rw[show(2:Int)*(vars:Int)+(m:Int)=((2*vars+m:Nat):Int) by simp,show(2:Int)*(vars:Int)=((2*vars:Nat):Int) by simp]
 repeat'(first|refine gB ?_|(refine gH ?_;intro g)|(refine gW ?_;intro v)|refine d50 ?_|fail)
 refine WD.fact (fF (resl cv (2*vars) (2*vars+m) 4) m (fun i=>mc (2*vars+i)) (fun i=>c (2*vars+i))) (W.Has.subM (v:=cv) (ms:=mc) (q:=c) hmA hn) ?_
 first|refine WD.callK (clone_c (resl cv (2*vars) (2*vars+m) 4) m (fun i=>mc (2*vars+i)) (fun i=>c (2*vars+i)) (by omega)) ?_|skip
 rintro v1 _ _ ⟨ms1,rfl,rfl⟩
 simp only[List.nil_append,List.cons_append]
 repeat'(first|refine gB ?_|(refine gH ?_;intro g)|(refine gW ?_;intro v)|refine d50 ?_|fail)
 refine WC.ret ?_
 exact Fin.p [] [fF v1 m ms1 (fun i=>c (2*vars+i))] (ResE.t1 rfl rfl) meA (List.nil_sublist _) haA ⟨ms1,rfl,rfl⟩
set_option maxHeartbeats 4000000 in
set_option maxRecDepth 60000 in
theorem now_c (xg vars m n k:Nat) (tv cv bv:Value) (rv:Nat→Value) (ms:Nat→Nat→QM) (s:X.St) :
  FnB Tryz.prog 56 [ptr xg,.int .i64 (k:Int)] [] (TF xg vars m n tv cv bv rv ms s) (IsR (nowV m n s k)):=by
 refine fn_of [(0,(ptr xg)),(1,(.int .i64 (k:Int)))] 28 Tryz.func56 rfl Tryz.ntmps56 (by kernel_rfl) rfl suA fun h0=>?_
 repeat'(first|refine gB ?_|(refine gH ?_;intro g)|(refine gW ?_;intro v)|refine d56 ?_|fail)
 first|refine WL.callV (index_c bv m k s.b) ?_|refine WD.callV (index_c bv m k s.b) ?_
 cases hf:X.fstT (fun i=>decide (s.b i=k)) m 0 with
 |none=>
  have e:nowV m n s k=0:=by unfold nowV;rw[hf]
  rw[e]
  rw[show optI none= -1 from rfl]
  repeat'(first|refine gB ?_|(refine gH ?_;intro g)|(refine gW ?_;intro v)|refine d56 ?_|fail)
  refine WC.ret ?_
  exact Fin.p [] [isQ (qv m00) 0] (ResE.cV rfl rfl meA T.r31 rfl) meA (List.nil_sublist _) (.cons hasQ0 .nil) ⟨m00,rfl,rfl,rfl⟩
 |some i=>
  have hi:=fstT_lt hf
  have e:nowV m n s k=s.t i n:=by unfold nowV;rw[hf]
  rw[e]
  rw[show optI (some i)=(i:Int) from rfl]
  refine WL.fact' (isQ (qv (ms i n)) (s.t i n)) (W.Has.qt (W.Has.rt (rv:=rv) hmA) hi (by omega)) ?_
  repeat'(first|refine gB ?_|(refine gH ?_;intro g)|(refine gW ?_;intro v)|refine d56 ?_|fail)
  refine WC.ret ?_
  exact Fin.p [] [isQ (qv (ms i n)) (s.t i n)] (ResE.cV rfl rfl meA T.r31 rfl) meA (List.nil_sublist _) haA ⟨ms i n,rfl,rfl,rfl⟩
set_option maxHeartbeats 4000000 in
set_option maxRecDepth 60000 in
theorem ray_c (xg vars m n k col:Nat) (tv cv bv:Value) (rv:Nat→Value) (ms:Nat→Nat→QM) (s:X.St) (hcol:col < n) :
  FnB Tryz.prog 55 [ptr xg,.int .i64 (k:Int),.int .i64 (col:Int)] [] (TF xg vars m n tv cv bv rv ms s) (IsR (rayV m s col k)):=by
 refine fn_of [(0,(ptr xg)),(1,(.int .i64 (k:Int))),(2,(.int .i64 (col:Int)))] 32 Tryz.func55 rfl Tryz.ntmps55 (by kernel_rfl) rfl suA fun h0=>?_
 by_cases ck:k=col
 ·have e:rayV m s col k=1:=by unfold rayV;rw[if_pos ck]
  rw[e]
  repeat'(first|refine gA ?_|(refine goG ?_;intro g)|(refine goV ?_;intro v))
  first|refine WL.callK (Zn.of 1 1 (by decide) (by decide)) ?_|refine WD.callK (Zn.of 1 1 (by decide) (by decide)) ?_|refine LO.callM (Zn.of 1 1 (by decide) (by decide)) ?_
  rintro _ _ _ ⟨m1,rfl,rfl,rfl⟩
  simp only[List.nil_append,List.cons_append]
  rw[show Rat.divInt 1 1=1 by decide +kernel]
  repeat'(first|refine gA ?_|(refine goG ?_;intro g)|(refine goV ?_;intro v))
  refine WC.ret ?_
  exact Fin.p [] [isQ (qv m1) 1] (ResE.cV rfl rfl meA T.r31 rfl) meA (List.nil_sublist _) haA ⟨m1,rfl,rfl,rfl⟩
 repeat'(first|refine gA ?_|(refine goG ?_;intro g)|(refine goV ?_;intro v))
 first|refine WL.callV (index_c bv m k s.b) ?_|refine WD.callV (index_c bv m k s.b) ?_
 cases hf:X.fstT (fun i=>decide (s.b i=k)) m 0 with
 |none=>
  have e:rayV m s col k=0:=by unfold rayV;rw[if_neg ck,hf]
  rw[e]
  rw[show optI none= -1 from rfl]
  repeat'(first|refine gA ?_|(refine goG ?_;intro g)|(refine goV ?_;intro v))
  refine WC.ret ?_
  exact Fin.p [] [isQ (qv m00) 0] (ResE.cV rfl rfl meA T.r31 rfl) meA (List.nil_sublist _) (.cons hasQ0 .nil) ⟨m00,rfl,rfl,rfl⟩
 |some i=>
  have hi:=fstT_lt hf
  have e:rayV m s col k= -s.t i col:=by unfold rayV;rw[if_neg ck,hf]
  rw[e]
  rw[show optI (some i)=(i:Int) from rfl]
  refine WL.fact' (isQ (qv (ms i col)) (s.t i col)) (W.Has.qt (W.Has.rt (rv:=rv) hmA) hi (by omega)) ?_
  repeat'(first|refine gA ?_|(refine goG ?_;intro g)|(refine goV ?_;intro v))
  first|refine WL.callK (Zn.neg (ms i col) (s.t i col)) ?_|refine WD.callK (Zn.neg (ms i col) (s.t i col)) ?_|refine LO.callM (Zn.neg (ms i col) (s.t i col)) ?_
  rintro _ _ _ ⟨m1,rfl,rfl,rfl⟩
  simp only[List.nil_append,List.cons_append]
  repeat'(first|refine gA ?_|(refine goG ?_;intro g)|(refine goV ?_;intro v))
  refine WC.ret ?_
  exact Fin.p [] [isQ (qv m1) (-s.t i col)] (ResE.cV rfl rfl meA T.r31 rfl) meA (List.nil_sublist _) haA ⟨m1,rfl,rfl,rfl⟩
end Z
end Go.Proofs.YtaongbhamadlkaaGreat
namespace Go.Proofs.YtaongbhamadlkaaGreat
namespace X
structure Szs (p:Lp) (K0 K L:Nat):Prop where
 pos:0 < K0
 a:∀ r,r < p.m→∀ k,k < p.v→Sq K0 (p.a r k)
 b:∀ r,r < p.m→Sq K0 (p.b r)
 g:∀ k,k < p.v→Sq K0 (p.g k)
 k:2*(p.m*(50*K0+2)+1)+K0≤K
 v:p.v≤48
 m:p.m≤128
 l:p.m*(K0+K+1)+1+K0+1≤L
 t:L≤20000000
 kl:K≤L
 d:p.v*(2*(2*K+1)+1)+1+2*(2*K+1)≤400000000
theorem sq_one:Sq 1 1:=by
 constructor
 ·show(digs 1).length≤1;rw[digs_1 (by decide) (by decide)];decide
 ·show(digs 1).length≤1;rw[digs_1 (by decide) (by decide)];decide
section
variable {p:Lp} {K0 K L:Nat}
theorem sg_sz {r:Nat} {x:Rat} (h:Sq K0 x):Sq K0 (p.sg r*x):=by
 unfold Lp.sg
 split
 ·rw[show(-1:Rat)*x= -x by grind];exact h.neg
 ·rw[show(1:Rat)*x=x by grind];exact h
theorem Szs.A (h:Szs p K0 K L) {i:Nat} (hi:i < p.m) (j:Nat):Sq K0 (p.A i j):=by
 have h0:Sq K0 0:=Sq.zero.up h.pos
 have h1:Sq K0 1:=sq_one.up h.pos
 unfold Lp.A
 split
 ·exact sg_sz (h.a i hi j (by assumption))
 ·split
  ·exact(sg_sz (h.a i hi (j - p.v) (by omega))).neg
  ·split
   ·split
    ·unfold Lp.sg
     split
     ·rw[show(-1:Rat)= -(1:Rat) by grind];exact h1.neg
     ·exact h1
    ·exact h0
   ·split
    ·split
     ·exact h1
     ·exact h0
    ·exact sg_sz (h.b i hi)
def Lp.dl (p:Lp) (r:Nat):Nat:=dp (fun k=>if k < p.v then p.a r k else p.b r) (p.v+1)
theorem sg_int {r:Nat} {x y:Rat} {B:Nat} (h:∃ z:Int,y*x=z∧z.natAbs≤B):∃ z:Int,y*(p.sg r*x)=z∧z.natAbs≤B:=by
 obtain⟨z,h1,h2⟩:=h
 unfold Lp.sg;split
 ·exact⟨-z,by rw[Rat.intCast_neg,←h1];grind,by rw[Int.natAbs_neg];exact h2⟩
 ·exact⟨z,by rw[←h1];grind,h2⟩
theorem lt_pow {k x:Nat} (h:(digs x).length≤k):x≤1000000000 ^ k:=Nat.le_of_lt (Nat.lt_of_lt_of_le digs_lt (Nat.pow_le_pow_right (by decide) h))
theorem Szs.dA (h:Szs p K0 K L) {r:Nat} (hr:r < p.m) (j:Nat):∃ z:Int,(p.dl r:Rat)*p.A r j=z∧z.natAbs≤(1000000000 ^ K0) ^ (p.v+2):=by
 have hq:∀ k,k < p.v+1→Sq K0 (if k < p.v then p.a r k else p.b r):=fun k _=>by
  split
  ·exact h.a r hr k (by assumption)
  ·exact h.b r hr
 have hd:p.dl r≤(1000000000 ^ K0) ^ (p.v+1):=dp_le fun k hk=>lt_pow (hq k hk).2
 have hW:1≤1000000000 ^ K0:=Nat.pow_pos (by decide)
 have hb:p.dl r≤(1000000000 ^ K0) ^ (p.v+2):=Nat.le_trans hd (Nat.pow_le_pow_right hW (by omega))
 have hx:∀ k,k < p.v+1→∃ z:Int,(p.dl r:Rat)*(if k < p.v then p.a r k else p.b r)=z∧z.natAbs≤(1000000000 ^ K0) ^ (p.v+2):=fun k hk=>by
  obtain⟨z,h1,h2⟩:=dp_int (f:=fun k=>if k < p.v then p.a r k else p.b r) hk
  refine⟨z,h1,Nat.le_trans h2 ?_⟩
  rw[show p.v+2=(p.v+1)+1 from rfl,Nat.pow_succ]
  exact Nat.mul_le_mul hd (lt_pow (hq k hk).1)
 have ha:∀ k,k < p.v→∃ z:Int,(p.dl r:Rat)*p.a r k=z∧z.natAbs≤(1000000000 ^ K0) ^ (p.v+2):=fun k hk=>by
  have:=hx k (by omega);rwa [if_pos hk] at this
 have h1:∃ z:Int,(p.dl r:Rat)*(1:Rat)=z∧z.natAbs≤(1000000000 ^ K0) ^ (p.v+2):=⟨(p.dl r:Int),by rw[Rat.mul_one];rfl,hb⟩
 have h0:∃ z:Int,(p.dl r:Rat)*(0:Rat)=z∧z.natAbs≤(1000000000 ^ K0) ^ (p.v+2):=⟨0,by rw[Rat.mul_zero];rfl,Nat.zero_le _⟩
 unfold Lp.A
 split
 ·exact sg_int (ha j (by assumption))
 ·split
  ·obtain⟨z,h3,h4⟩:=sg_int (p:=p) (r:=r) (ha (j - p.v) (by omega))
   exact⟨-z,by rw[Rat.intCast_neg,←h3];grind,by rw[Int.natAbs_neg];exact h4⟩
  ·split
   ·split
    ·obtain⟨z,h3,h4⟩:=sg_int (p:=p) (r:=r) h1
     exact⟨z,by rw[←h3];grind,h4⟩
    ·exact h0
   ·split
    ·split
     ·exact h1
     ·exact h0
    ·have:=hx p.v (by omega);rw[if_neg (by omega)] at this
     exact sg_int this
theorem Szs.T (h:Szs p K0 K L) {c1:Nat→Rat} {s:St} (hi:Inv p.m p.n p.A c1 s) {i:Nat} (him:i < p.m) {j:Nat} (hj:j < p.n+1):Sq K (s.t i j):=by
 obtain⟨a,b,_,h2,h3,h4⟩:=hi.ratio inv0 (f:=fun r=>(p.dl r:Rat)) (fun r hr i hi=>A_art hi) (fun r hr hx=>by
  have:=dp_pos (f:=fun k=>if k < p.v then p.a r k else p.b r) (p.v+1)
  have h5:p.dl r=0:=by exact_mod_cast hx
  unfold Lp.dl at h5;omega) (fun r hr j _=>h.dA hr j) him (j:=j) (by omega)
 have hl:(digs ((1000000000 ^ K0) ^ (p.v+2))).length≤50*K0+1:=by
  refine Nat.le_trans (digs_len_le (k:=K0*(p.v+2)+1) ?_) ?_
  ·rw[←Nat.pow_mul];exact Nat.pow_lt_pow_right (by decide) (by omega)
  ·have:=Nat.mul_le_mul_left K0 (show p.v+2≤50 by have:=h.v;omega)
   omega
 have hb:=bdt_len hl (m:=p.m) (by have:=h.m;omega)
 have hk:=h.k
 rw[h2]
 refine(Sq.div (k:=p.m*(50*K0+2)+1) (l:=p.m*(50*K0+2)+1) (by omega) (Sq.int (Nat.le_trans (digs_mono h3) hb) (by omega)) (Sq.int (Nat.le_trans (digs_mono h4) hb) (by omega))).up (by omega)
theorem Szs.c1 (h:Szs p K0 K L) (j:Nat):Sq K0 (p.c1 j):=by
 unfold Lp.c1;split
 ·exact sq_one.up h.pos
 ·exact Sq.zero.up h.pos
theorem Szs.c2 (h:Szs p K0 K L) (j:Nat):Sq K0 (p.c2 j):=by
 unfold Lp.c2;split
 ·exact(h.g j (by assumption)).neg
 ·split
  ·exact h.g _ (by omega)
  ·exact Sq.zero.up h.pos
theorem Szs.sum (h:Szs p K0 K L) {c1:Nat→Rat} (hc:∀ j,Sq K0 (c1 j)) {s:St} (hs:∀ i,i < p.m→∀ j,j < p.n+1→Sq K (s.t i j)) {x:Rat} (hx:Sq K0 x) {i:Nat} (hi:i≤p.m) {j:Nat} (hj:j < p.n+1):Sq L (x - sm i fun r=>c1 (s.b r)*s.t r j):=by
 have h1:=sq_sm (m:=i) (f:=fun r=>c1 (s.b r)*s.t r j) (k:=K0+K) fun r hr=>(hc _).mul (hs r (by omega) j hj)
 refine(hx.sub h1).up ?_
 have:=Nat.mul_le_mul_right (K0+K+1) hi
 have:=h.l
 omega
theorem Szs.C (h:Szs p K0 K L) {c1:Nat→Rat} (hc:∀ j,Sq K0 (c1 j)) {s:St} (hi:Inv p.m p.n p.A c1 s) {j:Nat} (hj:j < p.n+1):Sq L (s.c j):=by
 rw[hi.cost (by omega)]
 exact h.sum hc (fun i him j hj=>h.T hi him hj) (hc j) (Nat.le_refl _) hj
theorem prS_eq {n m:Nat} {c1:Nat→Rat} {s:St} (hb:∀ i,i < m→s.b i < n) (hu:∀ i,i < m→∀ k,k < m→s.t i (s.b k)=if i=k then 1 else 0):∀ i,i≤m→∀ j,prS n c1 s i j=cs0 n c1 j - sm i fun r=>c1 (s.b r)*s.t r j:=by
 intro i
 induction i with
 |zero=>intro _ j;show cs0 n c1 j=cs0 n c1 j - 0;grind
 |succ i ih=>
  intro hi j
  have e:prS n c1 s i (s.b i)=c1 (s.b i):=by
   rw[ih (by omega),sm_zero fun r hr=>by rw[hu r (by omega) i (by omega),if_neg (by omega)];grind]
   unfold cs0;rw[if_pos (hb i (by omega))];grind
  show prS n c1 s i j - prS n c1 s i (s.b i)*s.t i j=_
  rw[e,ih (by omega)]
  show _=cs0 n c1 j - (sm i (fun r=>c1 (s.b r)*s.t r j)+c1 (s.b i)*s.t i j)
  grind
theorem prS_prc {n m:Nat} {c1:Nat→Rat} {s:St} (hb:∀ i,i < m→s.b i < n) (hu:∀ i,i < m→∀ k,k < m→s.t i (s.b k)=if i=k then 1 else 0) (hn:c1 n=0) {j:Nat} (hj:j < n+1):prS n c1 s m j=(prc m c1 s).c j:=by
 rw[prS_eq hb hu m (Nat.le_refl _)]
 show cs0 n c1 j - _=c1 j - _
 congr 1
 unfold cs0
 split
 ·rfl
 ·rw[show j=n by omega,hn]
theorem Szs.P (h:Szs p K0 K L) {c1 c0:Nat→Rat} (hc:∀ j,Sq K0 (c1 j)) {s:St} (hi:Inv p.m p.n p.A c0 s) {i:Nat} (him:i≤p.m) {j:Nat} (hj:j < p.n+1):Sq L (prS p.n c1 s i j):=by
 rw[prS_eq hi.bd hi.u i him]
 refine h.sum hc (fun i him j hj=>h.T hi him hj) ?_ him hj
 unfold cs0;split
 ·exact hc j
 ·exact Sq.zero.up h.pos
theorem nowV_wt {m n:Nat} {A:Nat→Nat→Rat} {c0:Nat→Rat} {s:St} (h:Inv m n A c0 s) (k:Nat):nowV m n s k=wt m s (fun i=>s.t i n) k:=by
 unfold nowV wt
 rcases fstT_spec (fun i=>decide (s.b i=k)) m 0 with ⟨h1,h2⟩|⟨i,h1,_,h3,h4,_⟩
 ·rw[h1]
  exact(sm_zero fun i hi=>if_neg (of_decide_eq_false (h2 i (by omega) (by omega)))).symm
 ·rw[h1]
  have hb:=of_decide_eq_true h4
  rw[sm_one (r:=i) (by omega) fun j hj hne=>if_neg fun hx=>hne (h.inj hj (by omega) (by rw[hx,hb])),if_pos hb]
theorem nowV_sz {m n K:Nat} {s:St} (hK:0 < K) (hs:∀ i,i < m→Sq K (s.t i n)) (k:Nat):Sq K (nowV m n s k):=by
 unfold nowV
 cases hf:fstT (fun i=>decide (s.b i=k)) m 0 with
 |none=>exact Sq.zero.up hK
 |some i=>exact hs i (fstT_lt hf)
theorem rayV_sz {m K:Nat} {s:St} {col:Nat} (hK:0 < K) (hs:∀ i,i < m→Sq K (s.t i col)) (k:Nat):Sq K (rayV m s col k):=by
 unfold rayV
 split
 ·exact sq_one.up hK
 ·cases hf:fstT (fun i=>decide (s.b i=k)) m 0 with
  |none=>exact Sq.zero.up hK
  |some i=>exact(hs i (fstT_lt hf)).neg
theorem rayV_rv {p:Lp} {c0:Nat→Rat} {s:St} (h:Inv p.m p.n p.A c0 s) {col:Nat} (hc:s.c col < 0) (k:Nat):rayV p.m s col k=rv p s col k:=by
 unfold rayV rv
 by_cases e:k=col
 ·rw[if_pos e,if_pos e]
  subst e
  have h0:wt p.m s (fun i=>s.t i k) k=0:=sm_zero fun i hi=>if_neg fun hb=>h.non hc ⟨i,hi,hb⟩
  rw[h0];grind
 ·rw[if_neg e,if_neg e]
  unfold wt
  rcases fstT_spec (fun i=>decide (s.b i=k)) p.m 0 with ⟨h1,h2⟩|⟨i,h1,_,h3,h4,_⟩
  ·rw[h1,sm_zero fun i hi=>if_neg (of_decide_eq_false (h2 i (by omega) (by omega)))];grind
  ·rw[h1]
   have hb:=of_decide_eq_true h4
   rw[sm_one (r:=i) (by omega) fun j hj hne=>if_neg fun hx=>hne (h.inj hj (by omega) (by rw[hx,hb])),if_pos hb]
   show -s.t i col=0 - s.t i col
   grind
end
end X
end Go.Proofs.YtaongbhamadlkaaGreat
namespace Go.Proofs.YtaongbhamadlkaaGreat
open W Go.RowKit
def ptx (vars:Nat) (val:Nat→Rat) (k j:Nat):Rat:=if j < k then val j - val (vars+j) else 0
theorem ptx_up {vars:Nat} {val:Nat→Rat} {k:Nat} (i:Nat):upd (ptx vars val k) k (val k - val (vars+k)) i=ptx vars val (k+1) i:=by
 unfold ptx upd
 by_cases c:i=k
 ·subst c;simp
 ·by_cases c2:i < k
  ·simp[c,c2,show i < k+1 by omega]
  ·simp[c,c2,show ¬i < k+1 by omega]
theorem hasB_row {bx:List Ow} {F:List Fct} {m w i hi:Nat} {v:Value} {ms:Nat→Nat→QM} {t:Nat→Nat→Rat} (hb:rowO w v (ms i)∈bx) (hm:Has F (mT m w ms t)) (hi':i < m) (h:hi≤w):HasB bx F (fF (resl v 0 hi 4) hi (ms i) (t i)):=fun fr w' ho=>by
 have h1:=HasB.fF (bx:=bx) (F:=F) hb (hm.tm hi') fr w' ho
 have h2:=resl_slC h1.1 (Nat.zero_le hi) h
 refine⟨?_,fun k hk=>h1.2 k (by omega)⟩
 simpa using h2
namespace Z
attribute [local irreducible] WC WL WD YO LO LoopEnd W.Fin Scalar SliceT FieldAt Row ArrT AllocT KnS Has W.One SrcE IntT
theorem d53 {G G':Prop} (h:G') (s:Bx G'→G:=by
 intro h
 first|(apply WC.draw (id:=5) [0,1,2,3,5,6,7,8,9,10,11,14] (.held 0 (.held 1 (.held 2 (.held 3 (.held 5 (.held 6 (.held 7 (.held 8 (.held 9 (.held 10 (.held 11 (.loud 4 (.loud 12 (.loud 13 (.held 14 (.loud 15 (.done))))))))))))))))) mixed (by kernel_rfl))|fail
 exact Bx.h h):G:=s ⟨h⟩
set_option maxHeartbeats 4000000 in
set_option maxRecDepth 60000 in
theorem point_c (xg vars K:Nat) (r2 r3 tv cv bv:Value) (f:FuncId) (first cap:List Value) (Fc:List Fct) (val:Nat→Rat) (hv:vars≤1000) (hK:K≤100000000)
  (hf:∀ k:Nat,k < 2*vars→FnB Tryz.prog f (first++[.int .i64 (k:Int)]++cap) [] Fc (IsR (val k))) (hq:∀ k,k < 2*vars→Sq K (val k)) :
  FnB Tryz.prog 53 [ptr xg,.func (.func f) first.toArray cap.toArray] [] (ce xg 88 [.int .i64 (vars:Int),r2,r3,tv,cv,bv]::Fc) (IsF vars (fun k=>val k - val (vars+k))):=by
 refine fn_of [(0,(ptr xg)),(1,(.func (.func f) first.toArray cap.toArray))] 34 Tryz.func53 rfl Tryz.ntmps53 (by kernel_rfl) rfl suA fun h0=>?_
 repeat'(first|refine gB ?_|(refine gH ?_;intro g)|(refine gW ?_;intro v)|refine d53 ?_|fail)
 revert v;intro ov
 refine WC.lp (σ:=Nat×(Nat→QM)) (fun st=>[(14,.int .i64 (st.1:Int)),(13,.int .i64 (vars:Int)),(5,ov),(0,ptr xg),(1,.func (.func f) first.toArray cap.toArray)]) (fun st=>[Ow.slice ov 31 4 (qcells vars st.2)])
  (fun st=>mF vars st.2 (ptx vars val st.1)::ge h0::ce xg 88 [.int .i64 (vars:Int),r2,r3,tv,cv,bv]::Fc) (fun st=>st.1≤vars) (fun st=>vars - st.1) (0,fun _=>m00) (Nat.zero_le _) ?_ (hG:=.cons ((W.Has.mF0 vars).mFsame fun i _=>by simp[ptx]) (.cons hmA (.cons hmA (HasAll.tail fun _ h=>by(repeat(first|exact h|apply List.mem_cons_of_mem))))))
 rintro⟨k,mx⟩ hk
 simp only at hk ⊢
 by_cases c:k < vars
 ·repeat'(first|refine gB ?_|(refine gH ?_;intro g)|(refine gW ?_;intro v)|refine d53 ?_|fail)
  refine WD.callC first cap (vs:=[.int .i64 (k:Int)]) (hf k (by omega)) ?_ (hF:=HasAll.tail fun _ h=>by(repeat(first|exact h|apply List.mem_cons_of_mem)))
  rintro _ _ _ ⟨m1,rfl,rfl,rfl⟩
  simp only[List.nil_append,List.cons_append]
  repeat'(first|refine gB ?_|(refine gH ?_;intro g)|(refine gW ?_;intro v)|refine d53 ?_|fail)
  refine WD.callC first cap (vs:=[.int .i64 ((vars+k:Nat):Int)]) (hf (vars+k) (by omega)) ?_ (hF:=HasAll.tail fun _ h=>by(repeat(first|exact h|apply List.mem_cons_of_mem)))
  rintro _ _ _ ⟨m2,rfl,rfl,rfl⟩
  simp only[List.nil_append,List.cons_append]
  repeat'(first|refine gB ?_|(refine gH ?_;intro g)|(refine gW ?_;intro v)|refine d53 ?_|fail)
  first|refine WL.callK (Zn.sub m1 m2 (val k) (val (vars+k)) ((hq k (by omega)).sm (by omega)) ((hq (vars+k) (by omega)).sm (by omega))) ?_|refine WD.callK (Zn.sub m1 m2 (val k) (val (vars+k)) ((hq k (by omega)).sm (by omega)) ((hq (vars+k) (by omega)).sm (by omega))) ?_|refine LO.callM (Zn.sub m1 m2 (val k) (val (vars+k)) ((hq k (by omega)).sm (by omega)) ((hq (vars+k) (by omega)).sm (by omega))) ?_
  rintro _ _ _ ⟨m3,rfl,rfl,rfl⟩
  simp only[List.nil_append,List.cons_append]
  refine WD.fact (mF vars (upd mx k m3) (ptx vars val (k+1))) ((W.Has.mFset (k:=k) (ms:=mx) (m:=m3) (qf:=ptx vars val k) hmA hmA).mFsame fun i _=>ptx_up i) ?_
  repeat'(first|refine gB ?_|(refine gH ?_;intro g)|(refine gW ?_;intro v)|refine d53 ?_|fail)
  exact LoopEnd.mk (k+1,_) (by show k+1≤vars;omega) (by show vars - (k+1) < vars - k;omega) (hG:=.cons hmA (.cons hmA (.cons hmA (HasAll.tail fun _ h=>by(repeat(first|exact h|apply List.mem_cons_of_mem))))))
 ·obtain rfl:vars=k:=by omega
  repeat'(first|refine gB ?_|(refine gH ?_;intro g)|(refine gW ?_;intro v)|refine d53 ?_|fail)
  refine WC.freezeF ov vars mx (fun k=>val k - val (vars+k)) (by repeat(first|exact Sel.head|apply Sel.tail)) (W.Has.mFsame (qf:=ptx vars val vars) hmA fun i hi=>by simp[ptx,hi]) ?_
  refine WC.ret ?_
  exact Fin.p [] [fF ov vars mx (fun k=>val k - val (vars+k))] (ResE.t1 rfl rfl) meA (List.nil_sublist _) haA ⟨mx,rfl,rfl⟩
set_option maxHeartbeats 4000000 in
set_option maxRecDepth 60000 in
theorem nonzero_c (m1:QM) (q:Rat) (Fc:List Fct):FnB Tryz.prog 121 [qv m1] [] (isQ (qv m1) q::Fc) (IsV (.bool (decide (q≠0)))):=by
 refine fn_of [(0,(qv m1))] 6 Tryz.func121 rfl Tryz.ntmps121 (by kernel_rfl) rfl suA fun h0=>?_
 repeat'(first|refine gA ?_|(refine goG ?_;intro g)|(refine goV ?_;intro v))
 first|refine WL.callV (Zn.sign m1 q) ?_|refine WD.callV (Zn.sign m1 q) ?_
 by_cases c:q=0
 ·have h:=sgn_zero.2 c
  repeat'(first|refine gA ?_|(refine goG ?_;intro g)|(refine goV ?_;intro v))
  refine WC.ret ?_
  exact Fin.v (ResE.t1 rfl rfl) meA (by rw[decide_eq_false (fun h=>h c)])
 ·have h:¬sgn q.num=0:=fun h=>c (sgn_zero.1 h)
  repeat'(first|refine gA ?_|(refine goG ?_;intro g)|(refine goV ?_;intro v))
  refine WC.ret ?_
  exact Fin.v (ResE.t1 rfl rfl) meA (by rw[decide_eq_true c])
end Z
end Go.Proofs.YtaongbhamadlkaaGreat
namespace Go.Proofs.YtaongbhamadlkaaGreat
open W Go.RowKit
namespace Z
attribute [local irreducible] WC WL WD YO LO LoopEnd W.Fin Scalar SliceT FieldAt Row ArrT AllocT KnS Has W.One SrcE IntT
set_option maxHeartbeats 4000000 in
set_option maxRecDepth 60000 in
theorem cost1_c (g6 k:Nat) (last:Nat):FnB Tryz.prog 46 [.int .i64 (k:Int),ptr g6] [] [ce g6 3 [.int .i64 (last:Int)]] (IsR (if last≤k then 1 else 0)):=by
 refine fn_of [(0,(.int .i64 (k:Int))),(1,(ptr g6))] 9 Tryz.func46 rfl Tryz.ntmps46 (by kernel_rfl) rfl suA fun h0=>?_
 by_cases c:last≤k
 ·rw[if_pos c]
  repeat'(first|refine gA ?_|(refine goG ?_;intro g)|(refine goV ?_;intro v))
  first|refine WL.callK (Zn.of 1 1 (by decide) (by decide)) ?_|refine WD.callK (Zn.of 1 1 (by decide) (by decide)) ?_|refine LO.callM (Zn.of 1 1 (by decide) (by decide)) ?_
  rintro _ _ _ ⟨m1,rfl,rfl,rfl⟩
  simp only[List.nil_append,List.cons_append]
  rw[show Rat.divInt 1 1=1 by decide +kernel]
  repeat'(first|refine gA ?_|(refine goG ?_;intro g)|(refine goV ?_;intro v))
  refine WC.ret ?_
  exact Fin.p [] [isQ (qv m1) 1] (ResE.cV rfl rfl meA T.r31 rfl) meA (List.nil_sublist _) haA ⟨m1,rfl,rfl,rfl⟩
 ·rw[if_neg c]
  repeat'(first|refine gA ?_|(refine goG ?_;intro g)|(refine goV ?_;intro v))
  refine WC.ret ?_
  exact Fin.p [] [isQ (qv m00) 0] (ResE.cV rfl rfl meA T.r31 rfl) meA (List.nil_sublist _) (.cons hasQ0 .nil) ⟨m00,rfl,rfl,rfl⟩
set_option maxHeartbeats 4000000 in
set_option maxRecDepth 60000 in
theorem cost2_c (M:Pm) (p:X.Lp) (gp k:Nat) (hv:p.v≤1000):FnB Tryz.prog 52 [.int .i64 (k:Int),ptr gp] [] [ce gp 26 (pcs M p.v),fP M p] (IsR (p.c2 k)):=by
 refine fn_of [(0,(.int .i64 (k:Int))),(1,(ptr gp))] 30 Tryz.func52 rfl Tryz.ntmps52 (by kernel_rfl) rfl suA fun h0=>?_
 refine WC.fact (fF M.gv p.v M.mg p.g) (W.Has.pg (M:=M) (m:=p.m) (gn:=p.v) (ln:=fun _=>p.v) (a:=p.a) (b:=p.b) (g:=p.g) hmA) ?_
 unfold X.Lp.c2
 by_cases c:k < p.v
 ·rw[if_pos c]
  refine WC.fact (isQ (qv (M.mg k)) (p.g k)) (W.Has.q (W.Has.fm (v:=M.gv) hmA) c) ?_
  repeat'(first|refine gA ?_|(refine goG ?_;intro g)|(refine goV ?_;intro v))
  first|refine WL.callK (Zn.neg (m1:=M.mg k) (a:=p.g k)) ?_|refine WD.callK (Zn.neg (m1:=M.mg k) (a:=p.g k)) ?_|refine LO.callM (Zn.neg (m1:=M.mg k) (a:=p.g k)) ?_
  rintro _ _ _ ⟨m1,rfl,rfl,rfl⟩
  simp only[List.nil_append,List.cons_append]
  repeat'(first|refine gA ?_|(refine goG ?_;intro g)|(refine goV ?_;intro v))
  refine WC.ret ?_
  exact Fin.p [] [isQ (qv m1) (-(p.g k))] (ResE.cV rfl rfl meA T.r31 rfl) meA (List.nil_sublist _) haA ⟨m1,rfl,rfl,rfl⟩
 ·rw[if_neg c]
  by_cases c2:k < 2*p.v
  ·rw[if_pos c2]
   have he:((k:Int) - (p.v:Int)).toNat=k - p.v:=by omega
   refine WC.fact (isQ (qv (M.mg ((k:Int) - (p.v:Int)).toNat)) (p.g (k - p.v))) (by rw[he];exact W.Has.q (W.Has.fm (v:=M.gv) hmA) (by omega)) ?_
   repeat'(first|refine gA ?_|(refine goG ?_;intro g)|(refine goV ?_;intro v))
   refine WC.ret ?_
   exact Fin.p [] [isQ (qv (M.mg ((k:Int) - (p.v:Int)).toNat)) (p.g (k - p.v))] (ResE.cV rfl rfl meA T.r31 rfl) meA (List.nil_sublist _) haA ⟨_,rfl,rfl,rfl⟩
  ·rw[if_neg c2]
   repeat'(first|refine gA ?_|(refine goG ?_;intro g)|(refine goV ?_;intro v))
   refine WC.ret ?_
   exact Fin.p [] [isQ (qv m00) 0] (ResE.cV rfl rfl meA T.r31 rfl) meA (List.nil_sublist _) (.cons hasQ0 .nil) ⟨m00,rfl,rfl,rfl⟩
set_option maxHeartbeats 4000000 in
set_option maxRecDepth 60000 in
theorem rayf_c (g5 g7 xg vars m n k col:Nat) (tv cv bv:Value) (rv:Nat→Value) (ms:Nat→Nat→QM) (s:X.St) (hcol:col < n) :
  FnB Tryz.prog 54 [.int .i64 (k:Int),ptr g5,ptr g7] [] (ce g5 84 [ptr xg]::ce g7 3 [.int .i64 (col:Int)]::TF xg vars m n tv cv bv rv ms s) (IsR (rayV m s col k)):=by
 refine fn_of [(0,(.int .i64 (k:Int))),(1,(ptr g5)),(2,(ptr g7))] 9 Tryz.func54 rfl Tryz.ntmps54 (by kernel_rfl) rfl suA fun h0=>?_
 repeat'(first|refine gA ?_|(refine goG ?_;intro g)|(refine goV ?_;intro v))
 first|refine WL.callK (ray_c xg vars m n k col tv cv bv rv ms s hcol) ?_|refine WD.callK (ray_c xg vars m n k col tv cv bv rv ms s hcol) ?_|refine LO.callM (ray_c xg vars m n k col tv cv bv rv ms s hcol) ?_
 rintro _ _ _ ⟨m1,rfl,rfl,rfl⟩
 simp only[List.nil_append,List.cons_append]
 repeat'(first|refine gA ?_|(refine goG ?_;intro g)|(refine goV ?_;intro v))
 refine WC.ret ?_
 exact Fin.p [] [isQ (qv m1) (rayV m s col k)] (ResE.cV rfl rfl meA T.r31 rfl) meA (List.nil_sublist _) haA ⟨m1,rfl,rfl,rfl⟩
end Z
end Go.Proofs.YtaongbhamadlkaaGreat
namespace Go.Proofs.YtaongbhamadlkaaGreat
open W Go.RowKit
def Wd (F:Fence):Prop:=∃ r,F={Fence.wide with round:=r}
theorem Wd.wide:Wd Fence.wide:=⟨none,rfl⟩
theorem Wd.round (l:Nat):Wd (Fence.wide.inRound l):=⟨some l,rfl⟩
section
variable {P:Program} {F':Fence} {m:Nat}
theorem Wd.calls (hF:Wd F') {f:FuncId} {args:Array Value} {w:World} {R:Ending→World→Prop} (h:Calls P f args w R):CallsIn F' m P f args w R:=by
 obtain⟨r,rfl⟩:=hF
 have:=(callsIn_wide (n:=m)).2 h
 exact⟨trivial,fun cs hr=>this.2 cs (room_wide _)⟩
theorem Wd.rows (hF:Wd F') {row:String} {args:Array Value} {w:World} {R:Value→World→Prop} (h:Rows P row args w R):RowsIn F' m P row args w R:=by
 obtain⟨r,rfl⟩:=hF
 intro c cs _
 obtain⟨v,w',h1,h2⟩:=h c cs
 exact⟨v,w',h1,stepsIn_wide.2 h2⟩
theorem Wd.fn (hF:Wd F') (f:FuncId):F'.fn f:=by obtain⟨r,rfl⟩:=hF;trivial
theorem Wd.depth (hF:Wd F'):F'.depth.isSome=true→1≤m:=by obtain⟨r,rfl⟩:=hF;intro h;cases h
theorem Wd.sem (hF:Wd F') (ρ:Operand→Value) (o:Oper) (h:∀ c,o.op≠.defer c):o.semAt F'.round ρ=execOp ρ o:=by
 obtain⟨r,rfl⟩:=hF
 cases r with
 |none=>rfl
 |some l=>exact Oper.semAt_some l ρ o h
theorem eval_defers (a:Act) (ds:List Deferred):({a with defers:=ds}:Act).eval=a.eval:=funext fun x=>by cases x <;> rfl
def withD (ds:List Deferred) (a:Act):Act:={a with defers:=a.defers++ds}
theorem withD_put (ds:List Deferred) (a:Act) (d:Option Tmp) (v:Value):withD ds (a.put d v)=(withD ds a).put d v:=by
 cases d <;> rfl
theorem upon_in (hF:Wd F') (ds:List Deferred) {o:Oper} {a:Act} {next next2:Act→World→Prop} {Q Q2:Exit→Act→World→Prop} (hn:∀ a w,next a w→next2 (withD ds a) w) (hQ:∀ e a w,Q e a w→e≠.normal→Q2 e (withD ds a) w) (hno:∀ a w,¬Q .outgrown a w)
  {r:Result Next} (h:o.upon P a next Q r):o.uponIn F' m P (withD ds a) next2 Q2 r:=by
 unfold Oper.upon at h
 unfold Oper.uponIn
 split at h
 ·have:=hn _ _ h;rw[withD_put] at this;exact this
 ·have:=hn _ _ h;rw[withD_put] at this;exact this
 ·have:=hn _ _ h
  rw[withD_put] at this
  exact this
 ·refine⟨hF.depth,(hF.calls h).mono fun e w' he=>?_⟩
  cases e with
  |returned v=>have:=hn _ _ he;rw[withD_put] at this;exact this
  |panicked c=>exact hQ _ _ _ he (by simp)
  |outgrown=>obtain⟨a',w'',h'⟩:=he;exact absurd h' (hno _ _)
 ·refine⟨hF.depth,(hF.rows h).mono fun v w' he=>?_⟩
  have:=hn _ _ he;rw[withD_put] at this;exact this
 ·exact hQ _ _ _ h (by simp)
 ·exact h.elim
theorem withD_tmps (ds:List Deferred) (a:Act):(withD ds a).tmps=a.tmps:=rfl
theorem withD_eval (ds:List Deferred) (a:Act):(withD ds a).eval=a.eval:=funext fun x=>by cases x <;> rfl
theorem up_list (hF:Wd F') (ds:List Deferred) {ops:Array Oper} {l2:List Oper} {Q Q2:Exit→Act→World→Prop} (hN:∀ a w,Q .normal a w→wpListIn F' m P ops Q2 l2 (withD ds a) w) (hQ:∀ e a w,Q e a w→e≠.normal→Q2 e (withD ds a) w) (hno:∀ a w,¬Q .outgrown a w) :
  ∀ (l:List Oper) (a:Act) (w:World),(∀ o∈l,∀ c,o.op≠.defer c)→wpList P ops Q l a w→wpListIn F' m P ops Q2 (l++l2) (withD ds a) w
 |[],a,w,_,h=>hN _ _ h
 |o::rest,a,w,hd,h=>by
  have ih:=up_list (ops:=ops) hF ds hN hQ hno rest
  unfold wpList at h
  rw[List.cons_append]
  unfold wpListIn
  rw[withD_tmps]
  split at h
  ·rename_i hw
   rw[if_pos hw]
   rcases h with h|⟨_,a',w',h⟩
   ·refine⟨fun f _=>hF.fn f,?_⟩
    rw[hF.sem _ _ (hd o (List.mem_cons_self ..)),withD_eval]
    exact upon_in hF ds (fun a w h=>ih a w (fun o ho=>hd o (List.mem_cons_of_mem _ ho)) h) hQ hno h
   ·exact absurd h (hno _ _)
  ·rename_i hw
   rw[if_neg hw]
   refine⟨fun f _=>hF.fn f,?_⟩
   have:=ih (a.put o.dst undef) w (fun o ho=>hd o (List.mem_cons_of_mem _ ho)) h
   rw[withD_put] at this
   exact this
def PI (fr:PH) (n:Nat) (Q:List Deferred×World→Post):Exit→Act→World→Prop:=fun ex a' w'=>∃ a0 ds,a'={a0 with defers:=ds.1}∧post fr n ds.2 (Q ds) ex a0 w'
def WI (fr:PH) (F':Fence) (m:Nat) (ds:List Deferred×World) (P:Program) (n:Nat) (c:Code) (e:Env) (bx:List Ow) (F:List Fct) (Q:List Deferred×World→Post):Prop:=
 ∀ a w,Kn n a e→W.Rest ds.2 w→OK fr bx F w→c.wpIn F' m P (PI fr n Q) {a with defers:=ds.1} w
end
section
variable {fr:PH} {P:Program} {F':Fence} {m n:Nat} {ds:List Deferred×World} {c x y:Code} {e:Env} {bx:List Ow} {F:List Fct} {Q:List Deferred×World→Post} {L:List Oper} {id:Nat}
theorem withD_nil {ds:List Deferred} {n:Nat} {a:Act} {e:Env} (hk:Kn n a e):withD ds a={a with defers:=ds}:=by unfold withD;rw[hk.defers,List.nil_append]
theorem WI.region (hF:Wd F') (hd:∀ o∈L,∀ c,o.op≠.defer c) (h:WL P n L L e bx F (Q ds .normal)):WI fr F' m ds P n (.region id L.toArray false) e bx F Q:=fun a w hk hr ho=>by
 have h1:=h fr ds.2 a w (fun ex a' w'=>ex=.normal∧post fr n ds.2 (Q ds) .normal a' w') (fun a' w' e' bx' F'' h1 h2 h3 h4=>⟨rfl,e',bx',F'',h1,h2,h3,h4⟩) hk hr ho
 have h2:=up_list (m:=m) (l2:=[]) hF ds.1 (Q2:=PI fr n Q) (fun a' w' h=>by
  obtain⟨_,e',bx',F'',k1,k2,k3,k4⟩:=h
  exact⟨a',ds,withD_nil k1,e',bx',F'',k1,k2,k3,k4⟩) (fun ex a w h hn=>absurd h.1 hn) (fun a w h=>by cases h.1) L a w hd h1
 rw[withD_nil hk,List.append_nil] at h2
 exact wpIn_region_lit h2
theorem WI.seq (h:WI fr F' m ds P n x e bx F (fun ds=>thenQ (fun e bx F=>WI fr F' m ds P n y e bx F Q) (Q ds))):WI fr F' m ds P n (.seq x y) e bx F Q:=fun a w hk hr ho=>by
 refine wpIn_seq (wpIn_mono (h a w hk hr ho) fun ex a' w' hq=>?_)
 obtain⟨a0,ds',rfl,hq⟩:=hq
 cases ex with
 |normal=>obtain⟨e',bx',F'',k1,k2,k3,k4⟩:=hq;exact k4 a0 w' k1 k2 k3
 |exit i=>obtain⟨e',bx',F'',k1,k2,k3,k4⟩:=hq;exact⟨a0,ds',rfl,e',bx',F'',k1,k2,k3,k4⟩
 |ret=>obtain⟨e',bx',F'',k1,k2,k3,k4⟩:=hq;exact⟨a0,ds',rfl,e',bx',F'',k1,k2,k3,k4⟩
 |goto l=>exact hq.elim
 |panic l=>exact hq.elim
 |outgrown=>exact hq.elim
theorem WI.skip (h:Q ds .normal e bx F):WI fr F' m ds P n .skip e bx F Q:=fun a w hk hr ho=>wpIn_skip ⟨a,ds,rfl,e,bx,F,hk,hr,ho,h⟩
theorem WI.exit {i:Nat} (h:Q ds (.exit i) e bx F):WI fr F' m ds P n (.exit i) e bx F Q:=fun a w hk hr ho=>wpIn_exit ⟨a,ds,rfl,e,bx,F,hk,hr,ho,h⟩
theorem WI.ret (h:Q ds .ret e bx F):WI fr F' m ds P n .ret e bx F Q:=fun a w hk hr ho=>wpIn_ret ⟨a,ds,rfl,e,bx,F,hk,hr,ho,h⟩
theorem WI.cond {o:Operand} {b:Bool} (hc:ev e o=some (.bool b)) (h:WI fr F' m ds P n (if b then x else y) e bx F Q):WI fr F' m ds P n (.cond o x y) e bx F Q:=fun a w hk hr ho=>
 wpIn_cond (t:=b) (by rw[eval_defers];exact hk.eval hc) (h a w hk hr ho)
theorem WI.block {i:Nat} (h:WI fr F' m ds P n c e bx F (fun ds=>blockQ i (Q ds))):WI fr F' m ds P n (.block i c) e bx F Q:=fun a w hk hr ho=>by
 refine wpIn_block (wpIn_mono (h a w hk hr ho) fun ex a' w' hq=>?_)
 obtain⟨a0,ds',rfl,hq⟩:=hq
 cases ex with
 |normal=>obtain⟨e',bx',F'',k1,k2,k3,k4⟩:=hq;exact⟨a0,ds',rfl,e',bx',F'',k1,k2,k3,k4⟩
 |ret=>obtain⟨e',bx',F'',k1,k2,k3,k4⟩:=hq;exact⟨a0,ds',rfl,e',bx',F'',k1,k2,k3,k4⟩
 |goto l=>exact hq.elim
 |panic l=>exact hq.elim
 |outgrown=>exact hq.elim
 |exit j=>
  obtain⟨e',bx',F'',k1,k2,k3,k4⟩:=hq
  simp only[blockQ] at k4
  simp only[Exit.inBlock]
  cases hb:Nat.beq j i with
  |true=>
   rw[hb] at k4
   have:=Nat.eq_of_beq_eq_true hb
   subst this
   simp only[if_true]
   exact⟨a0,ds',rfl,e',bx',F'',k1,k2,k3,k4⟩
  |false=>
   rw[hb] at k4
   have:j≠i:=fun h=>by subst h;rw[Nat.beq_refl] at hb;cases hb
   rw[if_neg this]
   exact⟨a0,ds',rfl,e',bx',F'',k1,k2,k3,k4⟩
theorem WI.loop {σ:Type} (E:σ→Env) (B:σ→List Ow) (G:σ→List Fct) (I:List Deferred×World→σ→Prop) (μ:σ→Nat)
  (hround:∀ ds s,I ds s→WI fr F' m ds P n c (E s) (B s) (G s) (fun ds'=>thenQ (fun e' bx' F''=>∃ s',(I ds' s'∧μ s' < μ s)∧W.Sub (E s') e'∧(B s').Sublist bx'∧HasAll F'' (G s')) (Q ds')))
  (s0:σ) (h0:I ds s0) (hE:W.Sub (E s0) e) (hB:(B s0).Sublist bx) (hG:HasAll F (G s0)):WI fr F' m ds P n (.loop c) e bx F Q:=by
 intro a w hk hr ho b kk cs hro hb hroom
 have key:∀ k s ds a w,μ s=k→I ds s→Kn n a (E s)→W.Rest ds.2 w→OK fr (B s) (G s) w→
   ∃ ex a' w',PI fr n Q ex a' w'∧ArrivesIn (Machine.fenced P F') P (lone (b.atR {a with defers:=ds.1} (.code c::.inLoop c::kk)) cs w) b kk cs ex a' w':=by
  intro k
  induction k using Nat.strongRecOn with
  |_ k ih=>
   intro s ds a w hs hI hk hr ho
   obtain⟨ex,a',w',hq,harr⟩:=hround ds s hI a w hk hr ho b (.inLoop c::kk) cs hro hb hroom
   obtain⟨a0,ds',rfl,hq⟩:=hq
   cases ex with
   |normal=>
    obtain⟨e',bx',F'',k1,k2,k3,s',⟨k4,k5⟩,k6,k7,k8⟩:=hq
    obtain⟨ex2,a2,w2,hq2,harr2⟩:=ih (μ s') (by omega) s' ds' a0 w' rfl k4 (k1.sub k6) k2 ((k3.drop k7).hasAll k8.all)
    exact⟨ex2,a2,w2,hq2,.of_steps (StepsIn.trans harr (.one (fenced_calm hb hroom rfl) stepR_inLoop)) harr2⟩
   |exit i=>
    obtain⟨e',bx',F'',k1,k2,k3,k4⟩:=hq
    exact⟨.exit i,_,_,⟨a0,ds',rfl,e',bx',F'',k1,k2,k3,k4⟩,.pass (x:=.inLoop c) rfl (fun _ _=>.inl (by simp)) harr⟩
   |ret=>
    obtain⟨e',bx',F'',k1,k2,k3,k4⟩:=hq
    exact⟨.ret,_,_,⟨a0,ds',rfl,e',bx',F'',k1,k2,k3,k4⟩,.pass (x:=.inLoop c) rfl (fun _ _=>.inl (by simp)) harr⟩
   |goto l=>exact hq.elim
   |panic l=>exact hq.elim
   |outgrown=>exact hq.elim
 obtain⟨ex,a',w',hq,harr⟩:=key _ s0 ds a w rfl h0 (hk.sub hE) hr ((ho.drop hB).hasAll hG.all)
 exact⟨ex,a',w',hq,.of_steps (.one (fenced_calm hb hroom rfl) stepR_loop) harr⟩
end
end Go.Proofs.YtaongbhamadlkaaGreat
namespace Go.Proofs.YtaongbhamadlkaaGreat
open W Go.RowKit
def Celly (f:Fct):Prop:=∀ h h':PH,(∀ k c t z,h k=some (.cells c t z)→h' k=some (.cells c t z))→f.p h→f.p h'
theorem Celly.slC {v:Value} {n sz:Nat} {f:Nat→Value}:Celly (W.slC v n sz f):=fun h h' hh=>by
 rintro⟨a,cap,h1,h2,h3,h4⟩
 refine⟨a,cap,h1,h2,h3,h4.imp id ?_⟩
 rintro⟨b,off,h5,c,t,fz,h6,h7⟩
 exact⟨b,off,h5,c,t,fz,hh _ _ _ _ h6,h7⟩
theorem Celly.ce {g:Nat} {t:TypeId} {cs:List Value}:Celly (W.ce g t cs):=fun h h' hh hp=>hh _ _ _ _ hp
theorem Celly.isQ {v:Value} {q:Rat}:Celly (Go.Proofs.YtaongbhamadlkaaGreat.isQ v q):=fun h h' hh=>by
 rintro⟨b,d1,d2,h1,h2,h3,h4⟩
 exact⟨b,d1,d2,h1,h2,Celly.slC h h' hh h3,Celly.slC h h' hh h4⟩
theorem Celly.mF {n:Nat} {ms:Nat→QM} {q:Nat→Rat}:Celly (Go.Proofs.YtaongbhamadlkaaGreat.mF n ms q):=fun h h' hh hp i hi=>Celly.isQ h h' hh (hp i hi)
theorem Celly.mT {m w:Nat} {ms:Nat→Nat→QM} {t:Nat→Nat→Rat}:Celly (Go.Proofs.YtaongbhamadlkaaGreat.mT m w ms t):=fun h h' hh hp i hi k hk=>Celly.isQ h h' hh (hp i hi k hk)
def dF (D:Nat):Fct:=⟨fun h=>h D=some (.deferred (some [])),fun _ _ hl h=>hl _ _ h⟩
def mkD (D:Nat):Deferred:={target:=.collected D,args:=#[]}
theorem imm_some {fr:PH} {bx:List Ow} {H:Array Obj} {k:Nat} {o:Obj} (h:imm fr bx H k=some o):fr k=none∧k∉ids bx∧H[k]?=some o:=by
 unfold imm at h
 split at h
 ·cases h
 ·rename_i hc
  simp only[Bool.or_eq_true,List.contains_iff_mem,not_or,Bool.not_eq_true,Option.isSome_eq_false_iff,Option.isNone_iff_eq_none] at hc
  exact⟨hc.1,hc.2,h⟩
theorem imm_of {fr:PH} {bx:List Ow} {H:Array Obj} {k:Nat} {o:Obj} (h1:fr k=none) (h2:k∉ids bx) (h:H[k]?=some o):imm fr bx H k=some o:=by
 unfold imm
 rw[if_neg (by simp[h1,h2])];exact h
theorem OK.turn {fr:PH} {bx:List Ow} {Fc:List Fct} {w:World} {h0:PH} {D:Nat} {o o':Obj} (ho:OK fr bx (ge h0::Fc) w) (hc:∀ f∈Fc,Celly f) (h1:fr D=none) (h2:D∉ids bx) (h3:h0 D=none) (h4:w.heap[D]?=some o) (h5:o.isCells=false):OK fr bx (ge h0::Fc) (w.putObj D o'):=by
 have hne:∀ k,k≠D→(w.putObj D o').heap[k]?=w.heap[k]?:=fun k hk=>World.putObj_heap_other hk
 refine⟨fun k o hk=>?_,ho.apart,ho.nodup,fun b hb=>Ow.holds_congr (ho.owns b hb) fun k hk=>hne k (fun e=>h2 (e ▸ mem_ids.2 ⟨b,hb,hk⟩)),fun f hf=>?_⟩
 ·rw[hne k (fun e=>by subst e;rw[h1] at hk;cases hk)];exact ho.frame k o hk
 ·have hi:∀ k o,k≠D→imm fr bx w.heap k=some o→imm fr bx (w.putObj D o').heap k=some o:=fun k o hk h=>by
   obtain⟨a1,a2,a3⟩:=imm_some h
   exact imm_of a1 a2 (by rw[hne k hk];exact a3)
  rcases List.mem_cons.1 hf with rfl|hf
  ·intro k o hk
   exact hi k o (fun e=>by subst e;rw[h3] at hk;cases hk) (ho.facts _ (List.mem_cons_self ..) k o hk)
  ·refine hc f hf _ _ (fun k c t z hk=>hi k _ (fun e=>?_) hk) (ho.facts f (List.mem_cons_of_mem _ hf))
   subst e
   obtain⟨_,_,a3⟩:=imm_some hk
   rw[a3] at h4;cases h4;cases h5
def FinI (P:Program) (fn:Func) (h0:PH) (w0:World) (R:RPost) (ds:List Deferred×World):Env→List Ow→List Fct→Prop:=fun e bx F=>
 ∃ Ds v bx' F' Fc,ds=(List.map mkD Ds,w0)∧Ds.Nodup∧(∀ D∈Ds,Has F (dF D)∧h0 D=none)∧(∀ f∈Fc,Has F f∧Celly f)∧ResE P fn e bx Fc v∧bx'.Sublist bx∧(∀ f∈F',Has Fc f)∧ge h0∈F∧R v bx' F'
def retI (P:Program) (fn:Func) (h0:PH) (w0:World) (R:RPost) (ds:List Deferred×World):Post
 |.normal=>FinI P fn h0 w0 R ds
 |.ret=>FinI P fn h0 w0 R ds
 |_=>fun _ _ _=>False
section
variable {P:Program} {m n:Nat}
theorem leave_marks {fn:Func} {tmps:Array Value} {fr:PH} {bx:List Ow} {Fc:List Fct} {h0:PH} {w0:World} {R':Ending→World→Prop} (hc:∀ f∈Fc,Celly f)
  (hend:∀ w,W.Rest w0 w→OK fr bx (ge h0::Fc) w→∃ v,(results fn tmps).run P w=.ok v w∧R' (.returned v) w) :
  ∀ (Ds:List Nat) (w:World),Ds.Nodup→(∀ D∈Ds,fr D=none∧D∉ids bx∧h0 D=none∧w.heap[D]?=some (.deferred (some [])))→W.Rest w0 w→OK fr bx (ge h0::Fc) w→
   LeavesInM Fence.wide m P fn tmps R' (List.map mkD Ds) .returning w
 |[],w,_,_,hr,ho=>by
  obtain⟨v,h1,h2⟩:=hend w hr ho
  exact⟨v,h1,h2⟩
 |D::Ds,w,hn,hD,hr,ho=>by
  obtain⟨a1,a2,a3,a4⟩:=hD D (List.mem_cons_self ..)
  refine⟨by simp,.inl ⟨D,w.putObj D (.deferred none),rfl,run_takeDeferred a4,?_⟩⟩
  rw[List.nodup_cons] at hn
  refine leave_marks hc hend Ds _ hn.2 (fun D' hD'=>?_) (hr.trans ⟨rfl,rfl,rfl⟩) (OK.turn ho hc a1 a2 a3 a4 rfl)
  obtain⟨b1,b2,b3,b4⟩:=hD D' (List.mem_cons_of_mem _ hD')
  refine⟨b1,b2,b3,?_⟩
  rw[World.putObj_heap_other (r:=D) (k:=D') (fun e=>by subst e;exact hn.1 hD')];exact b4
theorem fn_in {f:FuncId} {fn:Func} {c:Code} {args:List Value} {bx:List Ow} {F:List Fct} {R:RPost} (m:Nat) (e0:Env) (n:Nat) (hf:P.funcs[f]?=some fn) (hb:fn.body=some c) (hn:fn.ntmps=n)
  (hname:(fn.name == "runtime.NumGoroutine")=false) (hargs:Nat.ble args.length n=true) (he:W.Sub e0 (parEnv 0 args))
  (h:∀ h0 fr w0,WI fr Fence.wide m ([],w0) P n c e0 bx (ge h0::F) (retI P fn h0 w0 R)):FnB P f args bx F R:=by
 refine⟨⟨fn,hf,hname,by rw[hb];rfl⟩,fun fr w ho=>(callsIn_wide (n:=m)).1 (callsIn_of_wp_marks hf hb trivial ?_)⟩
 have hargs':args.length≤n:=Nat.le_of_ble_eq_true hargs
 have hk:Kn n {tmps:=args.toArray++Array.replicate (fn.ntmps - args.toArray.size) undef,defers:=[]} e0:=by
  refine Kn.sub (e:=parEnv 0 args) ⟨by simp[hn];omega,rfl,fun k v hk=>?_⟩ he
  obtain⟨_,h2⟩:=look_parEnv _ _ _ _ hk
  simp at h2
  rw[Array.getElem?_append_left (by simpa using (List.getElem?_eq_some_iff.1 h2).1)]
  simpa using h2
 refine wpIn_mono (h (imm fr bx w.heap) fr w _ w hk (W.Rest.refl w) (ho.add (f:=ge _) (PH.le.refl _))) fun ex a' w' hq=>?_
 obtain⟨a0,ds,rfl,hq⟩:=hq
 have fin:∀ e b G,Kn n a0 e→W.Rest ds.2 w'→OK fr b G w'→FinI P fn (imm fr bx w.heap) w R ds e b G→LeavesInM Fence.wide m P fn a0.tmps (fun e w'=>∃ v bx' F',e=.returned v∧R v bx' F'∧W.Rest w w'∧(imm fr bx w.heap).le (imm fr bx' w'.heap)∧OK fr bx' F' w') ds.1 .returning w':=by
  rintro e b G h1 h2 h3 ⟨Ds,v,bx',F',Fc,rfl,k1,k2,k3,k4,k5,k6,k7,k8⟩
  refine leave_marks (fr:=fr) (bx:=b) (Fc:=Fc) (h0:=imm fr bx w.heap) (w0:=w) (fun f hf=>(k3 f hf).2) (fun w2 hr2 ho2=>?_) Ds w' k1 (fun D hD=>?_) h2 ?_
  ·have hd:=ho2.drop k5
   refine⟨v,k4 n fr a0 w2 h1 (ho2.less fun f hf=>List.mem_cons_of_mem _ hf),v,bx',F',rfl,k8,hr2,hd.facts _ (List.mem_cons_self ..),⟨hd.frame,hd.apart,hd.nodup,hd.owns,fun f hf=>?_⟩⟩
   exact(hd.less (F':=Fc) fun f hf=>List.mem_cons_of_mem _ hf).has (k6 f hf)
  ·obtain⟨a1,a2⟩:=k2 D hD
   obtain⟨b1,b2,b3⟩:=imm_some (h3.has a1)
   exact⟨b1,b2,a2,b3⟩
  ·exact⟨h3.frame,h3.apart,h3.nodup,h3.owns,fun f hf=>by
    rcases List.mem_cons.1 hf with rfl|hf
    ·exact h3.facts _ k7
    ·exact h3.has (k3 f hf).1⟩
 cases ex with
 |normal=>obtain⟨e,b,G,h1,h2,h3,h4⟩:=hq;exact fin e b G h1 h2 h3 h4
 |ret=>obtain⟨e,b,G,h1,h2,h3,h4⟩:=hq;exact fin e b G h1 h2 h3 h4
 |exit i=>obtain⟨e,b,G,h1,h2,h3,h4⟩:=hq;exact h4.elim
 |goto l=>exact hq.elim
 |panic l=>exact hq.elim
 |outgrown=>exact hq.elim
end
end Go.Proofs.YtaongbhamadlkaaGreat
namespace Go.Proofs.YtaongbhamadlkaaGreat
open W Go.RowKit
structure Stab (B:Nat) (u v:World):Prop where
 r:W.Rest u v
 s:u.heap.size≤v.heap.size
 k:∀ k o,u.heap[k]?=some o→(k < B∨o.isCells=true)→v.heap[k]?=some o
theorem Stab.refl (B:Nat) (u:World):Stab B u u:=⟨W.Rest.refl u,Nat.le_refl _,fun _ _ h _=>h⟩
theorem Stab.grown {B:Nat} {u v v':World} {row:Option Nat} (h:Stab B u v) (hg:v.grownBy v' row) (hr:∀ r,row=some r→B≤r∧∃ o:Obj,v.heap[r]?=some o∧o.isCells=false):Stab B u v':=by
 refine⟨h.r.trans ⟨hg.os,hg.tape,hg.output⟩,Nat.le_trans h.s hg.size,fun k o hk hc=>?_⟩
 have h1:=h.k k o hk hc
 rw[hg.block k (Array.getElem?_eq_some_iff.1 h1).1 (fun e=>?_)]
 ·exact h1
 ·obtain⟨h2,o',h3,h4⟩:=hr k e.symm
  rw[h1] at h3;cases h3
  rcases hc with hc|hc
  ·omega
  ·rw[h4] at hc;cases hc
def Ow.cell':Ow→Bool
 |.cells ..=>true
 |.slice ..=>true
 |.obj ..=>false
theorem owned_cells {b:Ow} {H:Array Obj} (h:b.holds H) (hc:Ow.cell' b=true):∀ k∈b.ids,∃ o:Obj,H[k]?=some o∧o.isCells=true:=by
 cases b with
 |cells g t cs=>intro k hk;simp only[Ow.ids,List.mem_singleton] at hk;subst hk;exact⟨_,h,rfl⟩
 |obj g o=>cases hc
 |slice v e sz cs=>
  obtain⟨n,h1,⟨rfl,h2⟩|⟨g,cap,sp,rfl,h3,h4,h5,h6⟩⟩:=h
  ·intro k hk;simp[Ow.ids] at hk
  ·intro k hk;simp only[Ow.ids,List.mem_singleton] at hk;subst hk;exact⟨_,h5,rfl⟩
theorem OK.stab {fr:PH} {bx:List Ow} {Fc:List Fct} {u v:World} {B:Nat} {h0:PH} (ho:OK fr bx (ge h0::Fc) u) (hs:Stab B u v) (hfr:∀ k o,fr k=some o→k < B) (h0B:∀ k o,h0 k=some o→k < B) (hb:∀ b∈bx,Ow.cell' b=true) (hc:∀ f∈Fc,Celly f):OK fr bx (ge h0::Fc) v:=by
 have hi:∀ k o,(k < B∨o.isCells=true)→imm fr bx u.heap k=some o→imm fr bx v.heap k=some o:=fun k o hk h=>by
  obtain⟨a1,a2,a3⟩:=imm_some h
  exact imm_of a1 a2 (hs.k k o a3 hk)
 refine⟨fun k o hk=>hs.k k o (ho.frame k o hk) (.inl (hfr k o hk)),ho.apart,ho.nodup,fun b hbm=>Ow.holds_congr (ho.owns b hbm) fun k hk=>?_,fun f hf=>?_⟩
 ·obtain⟨o,h1,h2⟩:=owned_cells (ho.owns b hbm) (hb b hbm) k hk
  rw[hs.k k o h1 (.inr h2),h1]
 ·rcases List.mem_cons.1 hf with rfl|hf
  ·intro k o hk
   exact hi k o (.inl (h0B k o hk)) (ho.facts _ (List.mem_cons_self ..) k o hk)
  ·exact hc f hf _ _ (fun k c t z hk=>hi k _ (.inr rfl) hk) (ho.facts f (List.mem_cons_of_mem _ hf))
theorem OK.below {fr:PH} {bx:List Ow} {F:List Fct} {u v:World} (ho:OK fr bx F u) (hb:Below u.heap.size u v):OK fr bx F v:=by
 have hi:∀ k o,u.heap[k]?=some o→v.heap[k]?=some o:=fun k o h=>by
  rw[hb.block k (Array.getElem?_eq_some_iff.1 h).1];exact h
 refine⟨fun k o hk=>hi k o (ho.frame k o hk),ho.apart,ho.nodup,fun b hbm=>Ow.holds_congr (ho.owns b hbm) fun k hk=>hb.block k (Ow.lt (ho.owns b hbm) k hk),fun f hf=>f.mono _ _ (fun k o hk=>?_) (ho.facts f hf)⟩
 obtain⟨a1,a2,a3⟩:=imm_some hk
 exact imm_of a1 a2 (hi k o a3)
section
variable {fr:PH} {P:Program} {m n:Nat} {ds:List Deferred×World} {e:Env} {bx:List Ow} {F:List Fct} {Q:List Deferred×World→Post} {α:Type}
def bodyQ (h1:PH) (bx:List Ow) (X:Code→α→List Ow→List Fct→Prop) (x:α):Post
 |.ret=>fun _ bx' F'=>ge h1∈F'∧(∀ b∈bx',Ow.cell' b=true)∧(∀ k∈ids bx,k∈ids bx')∧∃ Fc,(∀ f∈Fc,Has F' f∧Celly f)∧X .ret x bx' Fc
 |.exit i=>fun _ bx' F'=>ge h1∈F'∧(∀ b∈bx',Ow.cell' b=true)∧(∀ k∈ids bx,k∈ids bx')∧∃ Fc,(∀ f∈Fc,Has F' f∧Celly f)∧X (.exit i) x bx' Fc
 |_=>fun _ _ _=>False
def New (F:List Fct) (D:Nat):Prop:=(∀ h,Has F (ge h)→h D=none)∧∀ D',Has F (dF D')→D'≠D
theorem keeps_of {fr:PH} {bx bx':List Ow} {F F':List Fct} {u v:World} (ho:OK fr bx F u) (ho':OK fr bx' F' v) (hg:ge (imm fr bx u.heap)∈F') (hb:∀ b∈bx,Ow.cell' b=true) (hi:∀ k∈ids bx,k∈ids bx'):KeepsOthers u v:=by
 have key:∀ k o,u.heap[k]?=some o→k∉ids bx→v.heap[k]?=some o:=fun k o hk hn=>by
  cases hf:fr k with
  |some o'=>
   have:=ho.frame k o' hf
   rw[hk] at this;cases this
   exact ho'.frame k o hf
  |none=>
   obtain⟨_,_,h⟩:=imm_some (ho'.facts _ hg k o (imm_of hf hn hk))
   exact h
 refine⟨?_,fun k o hk hc=>key k o hk fun hx=>?_⟩
 ·by_cases h0:u.heap.size=0
  ·omega
  ·obtain⟨k,hk⟩:∃ k,k+1=u.heap.size:=⟨u.heap.size - 1,by omega⟩
   have hlt:k < u.heap.size:=by omega
   by_cases hx:k∈ids bx
   ·obtain⟨b,hb1,hb2⟩:=mem_ids.1 (hi k hx)
    have:=Ow.lt (ho'.owns b hb1) k hb2
    omega
   ·have:=key k _ (Array.getElem?_eq_getElem hlt) hx
    have:=(Array.getElem?_eq_some_iff.1 this).1
    omega
 ·obtain⟨b,hb1,hb2⟩:=mem_ids.1 hx
  obtain⟨o',h1,h2⟩:=owned_cells (ho.owns b hb1) (hb b hb1) k hb2
  rw[hk] at h1;cases h1;rw[hc] at h2;cases h2
theorem WI.range {g:Operand} {p d:Tmp} {ty:TypeId} {pos:String} {id:Nat} {body:Code} {gf:Nat} {lb:Array Value} {val:α→Value} {S Sp:List α→Prop} {N:Nat} (X:Code→α→List Ow→List Fct→Prop)
  (hm:1≤m) (hg:ev e g=some (.func (.func gf) #[] lb)) (eg:∀ args w,(callFunc gf args).run P w=.ok (.enter gf args) w) (hp:Nat.blt p n=true) (hd:Nat.blt d n=true) (hb:∀ b∈bx,Ow.cell' b=true)
  (hseq:∀ w,OK fr bx F w→SeqStopsK Fence.wide (m - 1) P gf lb (fun x=>#[val x]) (Below w.heap.size) S Sp N w)
  (hbody:∀ (l:Nat) (x:α) (h1:PH),WI fr (Fence.wide.inRound l) (m - 1 - 1) ([],ds.2) P n body ((d,val x)::(p,val x)::e) bx (ge h1::F) (fun ds' ex e' b' F'=>ds'.2=ds.2∧bodyQ h1 bx X x ex e' b' F'))
  (hdone:∀ D,S []→New F D→Q (mkD D::ds.1,ds.2) .normal e bx (dF D::F))
  (hstop:∀ D c x bx' Fc,Sp [x]→X c x bx' Fc→New F D→WI fr Fence.wide m (mkD D::ds.1,ds.2) P n c e bx' (dF D::(Fc++F)) Q) :
  WI fr Fence.wide m ds P n (.rangeFunc g #[p] (.region id #[{dst:=some d,op:=.assign (.tmp p),type:=ty,pos:=pos,after:=#[],guard:=none}] false) body) e bx F Q:=fun a w hk hr ho=>by
 have hfr:∀ k o,fr k=some o→k < w.heap.size:=fun k o h=>(Array.getElem?_eq_some_iff.1 (ho.frame k o h)).1
 have h0B:∀ k o,imm fr bx w.heap k=some o→k < w.heap.size:=fun k o h=>(Array.getElem?_eq_some_iff.1 (imm_some h).2.2).1
 have hnew:∀ D,w.heap.size≤D→New F D:=fun D hD=>by
  have hn:imm fr bx w.heap D=none:=by
   cases hx:imm fr bx w.heap D with
   |none=>rfl
   |some o=>have:=h0B D o hx;omega
  refine⟨fun h hh=>?_,fun D' hh e=>?_⟩
  ·cases hx:h D with
   |none=>rfl
   |some o=>have:=(ho.has hh) D o hx;rw[hn] at this;cases this
  ·subst e
   have:=ho.has hh
   rw[show(dF D').p (imm fr bx w.heap)=(imm fr bx w.heap D'=_) from rfl,hn] at this
   cases this
 have hdf:∀ (v:World) (bx':List Ow) (D:Nat),w.heap.size≤D→(∀ b∈bx',Ow.cell' b=true)→(∀ b∈bx',b.holds v.heap)→v.heap[D]?=some (.deferred (some []))→(dF D).p (imm fr bx' v.heap):=fun v bx' D hD hb' ho' hv=>by
  refine imm_of ?_ (fun hx=>?_) hv
  ·cases hx:fr D with
   |none=>rfl
   |some o=>have:=hfr D o hx;omega
  ·obtain⟨b,hb1,hb2⟩:=mem_ids.1 hx
   obtain⟨o,h1,h2⟩:=owned_cells (ho' b hb1) (hb' b hb1) D hb2
   rw[hv] at h1;cases h1;cases h2
 refine wpIn_rangeFunc_ownF (F:=Fence.wide) (n:=m) (α:=α) rfl hm (gf:=gf) (lb:=lb) (by rw[eval_defers];exact hk.eval hg) trivial eg (hseq w ho) belowK_t (belowK_b (Nat.le_refl _)) (Below.refl _ _) (fun _=>rfl)
  (fun pre v=>pre=[]∧Below w.heap.size w v)
  (fun c pre v=>∃ x u bx' Fc,pre=[x]∧X c x bx' Fc∧(∀ b∈bx',Ow.cell' b=true)∧(∀ f∈Fc,Celly f)∧W.Rest ds.2 u∧OK fr bx' (ge (imm fr bx w.heap)::Fc) u∧Stab w.heap.size u v)
  (fun s W W' row hs hg hr=>⟨hs.1,hs.2.grown hg hs.2.size (fun k e=>(hr k e).1)⟩)
  (fun c s W W' row hs hg hr=>by
   obtain⟨x,u,bx',Fc,k1,k2,k3,k4,k5,k6,k7⟩:=hs
   exact⟨x,u,bx',Fc,k1,k2,k3,k4,k5,k6,k7.grown hg hr⟩)
  ⟨rfl,Below.refl _ _⟩
  (fun x=>(Act.put (Act.put {tmps:=a.tmps,defers:=[]} (some p) (val x)) (some d) (val x))) ?assign ?body ?done ?stop
 case assign=>
  intro l x u K hK
  have hkp:Kn n (Act.put {tmps:=a.tmps,defers:=[]} (some p) (val x)) ((p,val x)::e):=Kn.put (a:={tmps:=a.tmps,defers:=[]}) ⟨hk.size,rfl,hk.at'⟩ hp (val x)
  have hev:(Act.put {tmps:=a.tmps,defers:=[]} (some p) (val x)).eval (.tmp p)=val x:=hkp.eval (by
   show W.look _ _=_
   rw[W.look_cons,if_pos rfl])
  refine wpIn_region_lit (l:=[{dst:=some d,op:=.assign (.tmp p),type:=ty,pos:=pos,after:=#[],guard:=none}]) ?_
  unfold wpListIn
  rw[if_pos (by simp[Region.wanted])]
  refine⟨fun f _=>trivial,?_⟩
  rw[(Wd.round l).sem _ _ (fun c h=>by cases h)]
  have hrun:(execOp (Act.put {tmps:=a.tmps,defers:=[]} (some p) (val x)).eval {dst:=some d,op:=.assign (.tmp p),type:=ty,pos:=pos,after:=#[],guard:=none}).run P u=.ok (.value (val x)) u:=by
   simp[execOp,hev]
  have ha:({tmps:=(#[p].zip #[val x]).foldl (fun t (p,v)=>t.setIfInBounds p v) a.tmps,defers:=[]}:Act)=Act.put {tmps:=a.tmps,defers:=[]} (some p) (val x):=by
   simp[Act.put]
  first
   |(rw[show(Act.mk ((#[p].zip #[val x]).foldl (fun t (p,v)=>t.setIfInBounds p v) a.tmps) [])=Act.put {tmps:=a.tmps,defers:=[]} (some p) (val x) from ha];rw[hrun];exact hK)
   |skip
 case body=>
  rintro l pre x u ⟨rfl,hB⟩ hlt
  have hou:=OK.below ho hB
  have hka:Kn n (Act.put (Act.put {tmps:=a.tmps,defers:=[]} (some p) (val x)) (some d) (val x)) ((d,val x)::(p,val x)::e):=by
   have h0:Kn n {tmps:=a.tmps,defers:=[]} e:=⟨hk.size,rfl,hk.at'⟩
   exact(h0.put hp (val x)).put hd (val x)
  refine wpIn_mono (hbody l x (imm fr bx u.heap) _ u hka (hr.trans ⟨hB.os,hB.tape,hB.output⟩) (hou.add (f:=ge _) (PH.le.refl _))) fun ex a' v hq=>?_
  obtain⟨a0,ds',rfl,hq⟩:=hq
  have fin:∀ (c:Code) (e':Env) (bx':List Ow) (F':List Fct),W.Rest ds.2 v→OK fr bx' F' v→(ge (imm fr bx u.heap)∈F'∧(∀ b∈bx',Ow.cell' b=true)∧(∀ k∈ids bx,k∈ids bx')∧∃ Fc,(∀ f∈Fc,Has F' f∧Celly f)∧X c x bx' Fc)→
    KeepsOthers u v∧∃ x' u' bx' Fc,[]++[x]=[x']∧X c x' bx' Fc∧(∀ b∈bx',Ow.cell' b=true)∧(∀ f∈Fc,Celly f)∧W.Rest ds.2 u'∧OK fr bx' (ge (imm fr bx w.heap)::Fc) u'∧Stab w.heap.size u' v:=by
   rintro c e' bx' F' h1 h2 ⟨q1,q2,q3,Fc,q4,q5⟩
   refine⟨keeps_of hou h2 q1 hb q3,x,v,bx',Fc,rfl,q5,q2,fun f hf=>(q4 f hf).2,h1,⟨h2.frame,h2.apart,h2.nodup,h2.owns,fun f hf=>?_⟩,Stab.refl _ _⟩
   rcases List.mem_cons.1 hf with rfl|hf
   ·intro k o hk'
    obtain⟨a1,a2,a3⟩:=imm_some hk'
    exact h2.facts _ q1 k o (imm_of a1 a2 (by rw[hB.block k (Array.getElem?_eq_some_iff.1 a3).1];exact a3))
   ·exact h2.has (q4 f hf).1
  cases ex with
  |ret=>obtain⟨e',bx',F',h1,h2,h3,h5,h4⟩:=hq;exact fin .ret e' bx' F' (h5 ▸ h2) h3 h4
  |exit i=>obtain⟨e',bx',F',h1,h2,h3,h5,h4⟩:=hq;exact fin (.exit i) e' bx' F' (h5 ▸ h2) h3 h4
  |normal=>obtain⟨e',bx',F',h1,h2,h3,h5,h4⟩:=hq;exact h4.elim
  |goto l=>exact hq.elim
  |panic l=>exact hq.elim
  |outgrown=>exact hq.elim
 case done=>
  rintro D xs u hD hS ⟨rfl,hB⟩ hu
  have hou:=OK.below ho hB
  exact⟨a,(mkD D::ds.1,ds.2),rfl,e,bx,dF D::F,hk,hr.trans ⟨hB.os,hB.tape,hB.output⟩,hou.add (hdf u bx D hD hb hou.owns hu),hdone D hS (hnew D hD)⟩
 case stop=>
  rintro D c pre v hD hS ⟨x,u,bx',Fc,rfl,k2,k3,k4,k5,k6,k7⟩ hv
  have hou:=OK.stab k6 k7 hfr h0B k3 k4
  have hall:OK fr bx' (dF D::(Fc++F)) v:=⟨hou.frame,hou.apart,hou.nodup,hou.owns,fun f hf=>by
   rcases List.mem_cons.1 hf with rfl|hf
   ·exact hdf v bx' D hD k3 hou.owns hv
   ·rcases List.mem_append.1 hf with hf|hf
    ·exact hou.facts f (List.mem_cons_of_mem _ hf)
    ·exact f.mono _ _ (hou.facts _ (List.mem_cons_self ..)) (ho.facts f hf)⟩
  exact hstop D c x bx' Fc hS k2 (hnew D hD) a v hk (k5.trans k7.r) hall
end
end Go.Proofs.YtaongbhamadlkaaGreat
namespace Go.Proofs.YtaongbhamadlkaaGreat
open W Go.RowKit
section
variable {fr:PH} {P:Program} {F':Fence} {m n:Nat} {ds:List Deferred×World} {e:Env} {bx:List Ow} {F:List Fct} {Q:List Deferred×World→Post} {L:List Oper} {id:Nat}
theorem WI.regionCut (hF:Wd F') (i:Nat) (hd:∀ o∈L.take i,∀ c,o.op≠.defer c) (K:Env→List Ow→List Fct→Prop) (h:WL P n L (L.take i) e bx F K)
  (hK:∀ a w e' bx' F'',Kn n a e'→W.Rest ds.2 w→OK fr bx' F'' w→K e' bx' F''→wpListIn F' m P L.toArray (PI fr n Q) (L.drop i) {a with defers:=ds.1} w) :
  WI fr F' m ds P n (.region id L.toArray false) e bx F Q:=fun a w hk hr ho=>by
 have h1:=h fr ds.2 a w (fun ex a' w'=>ex=.normal∧∃ e' bx' F'',Kn n a' e'∧W.Rest ds.2 w'∧OK fr bx' F'' w'∧K e' bx' F'') (fun a' w' e' bx' F'' h1 h2 h3 h4=>⟨rfl,e',bx',F'',h1,h2,h3,h4⟩) hk hr ho
 have h2:=up_list (m:=m) (l2:=L.drop i) hF ds.1 (Q2:=PI fr n Q) (fun a' w' h=>by
  obtain⟨_,e',bx',F'',k1,k2,k3,k4⟩:=h
  rw[withD_nil k1]
  exact hK a' w' e' bx' F'' k1 k2 k3 k4) (fun ex a w h hn=>absurd h.1 hn) (fun a w h=>by cases h.1) (L.take i) a w hd h1
 rw[withD_nil hk,List.take_append_drop] at h2
 exact wpIn_region_lit h2
theorem wl_in (hF:Wd F') {l:List Oper} (hd:∀ o∈l,∀ c,o.op≠.defer c) (h:WL P n L l e bx F (Q ds .normal)) {a:Act} {w:World} (hk:Kn n a e) (hr:W.Rest ds.2 w) (ho:OK fr bx F w):wpListIn F' m P L.toArray (PI fr n Q) l {a with defers:=ds.1} w:=by
 have h1:=h fr ds.2 a w (fun ex a' w'=>ex=.normal∧post fr n ds.2 (Q ds) .normal a' w') (fun a' w' e' bx' F'' h1 h2 h3 h4=>⟨rfl,e',bx',F'',h1,h2,h3,h4⟩) hk hr ho
 have h2:=up_list (m:=m) (l2:=[]) hF ds.1 (Q2:=PI fr n Q) (fun a' w' h=>by
  obtain⟨_,e',bx',F'',k1,k2,k3,k4⟩:=h
  exact⟨a',ds,withD_nil k1,e',bx',F'',k1,k2,k3,k4⟩) (fun ex a w h hn=>absurd h.1 hn) (fun a w h=>by cases h.1) l a w hd h1
 rwa [withD_nil hk,List.append_nil] at h2
end
def itQ (G:World→List Fct→Prop) (ds:List Deferred×World):Post
 |.normal=>fun _ bx F=>ds.1=[]∧bx=[]∧G ds.2 F
 |.ret=>fun _ bx F=>ds.1=[]∧bx=[]∧G ds.2 F
 |_=>fun _ _ _=>False
theorem calls_it {P:Program} {f:FuncId} {fn:Func} {c:Code} {args:List Value} {F:List Fct} {R:Ending→World→Prop} (m:Nat) (e0:Env) (n:Nat) (hf:P.funcs[f]?=some fn) (hb:fn.body=some c) (hn:fn.ntmps=n) (hres:fn.results=#[])
  (hargs:Nat.ble args.length n=true) (he:W.Sub e0 (parEnv 0 args)) {w0 w:World} (hr:W.Rest w0 w) (ho:OK (fun _=>none) [] F w) (G:World→List Fct→Prop) (h:WI (fun _=>none) Fence.wide m ([],w0) P n c e0 [] F (itQ G))
  (hG:∀ v w' F',W.Rest v w'→OK (fun _=>none) [] F' w'→G v F'→R (.returned (.tuple #[])) w'):CallsIn Fence.wide m P f args.toArray w R:=by
 refine callsIn_of_wp_marks hf hb trivial ?_
 have hargs':args.length≤n:=Nat.le_of_ble_eq_true hargs
 have hk:Kn n {tmps:=args.toArray++Array.replicate (fn.ntmps - args.toArray.size) undef,defers:=[]} e0:=by
  refine Kn.sub (e:=parEnv 0 args) ⟨by simp[hn];omega,rfl,fun k v hk=>?_⟩ he
  obtain⟨_,h2⟩:=look_parEnv _ _ _ _ hk
  simp at h2
  rw[Array.getElem?_append_left (by simpa using (List.getElem?_eq_some_iff.1 h2).1)]
  simpa using h2
 refine wpIn_mono (h _ w hk hr ho) fun ex a' w' hq=>?_
 obtain⟨a0,ds,rfl,hq⟩:=hq
 have fin:∀ bx F',W.Rest ds.2 w'→OK (fun _=>none) bx F' w'→(ds.1=[]∧bx=[]∧G ds.2 F')→LeavesInM Fence.wide m P fn a0.tmps R ds.1 .returning w':=by
  rintro bx F' h1 h2 ⟨h0,rfl,h3⟩
  rw[h0]
  exact⟨_,results_none hres _ _ _,hG _ w' F' h1 h2 h3⟩
 cases ex with
 |normal=>obtain⟨e,b,G,h1,h2,h3,h4⟩:=hq;exact fin b G h2 h3 h4
 |ret=>obtain⟨e,b,G,h1,h2,h3,h4⟩:=hq;exact fin b G h2 h3 h4
 |exit i=>obtain⟨e,b,G,h1,h2,h3,h4⟩:=hq;exact h4.elim
 |goto l=>exact hq.elim
 |panic l=>exact hq.elim
 |outgrown=>exact hq.elim
def jF (W0:World) (J:World→Prop):Fct:=⟨fun h=>∀ v:World,W.Rest W0 v→(∀ k o,h k=some o→v.heap[k]?=some o)→J v,fun _ _ hl hp v hv hx=>hp v hv fun k o hk=>hx k o (hl k o hk)⟩
abbrev Neg (c:Nat→Rat) (e:Nat):Type:={k:Nat // k < e∧c k < 0}
def negs (c:Nat→Rat) (e:Nat):(k:Nat)→k≤e→List (Neg c e)
 |0,_=>[]
 |k+1,h=>if hc:c k < 0 then negs c e k (by omega)++[⟨k,by omega,hc⟩] else negs c e k (by omega)
def ng (c:Nat→Rat) (e k:Nat):List (Neg c e):=if h:k≤e then negs c e k h else[]
theorem ng_le {c:Nat→Rat} {e k:Nat} (h:k≤e):ng c e k=negs c e k h:=dif_pos h
theorem ng_up {c:Nat→Rat} {e k:Nat} (h:k < e) (hc:¬c k < 0):ng c e (k+1)=ng c e k:=by
 rw[ng_le (k:=k+1) (by omega),ng_le (k:=k) (by omega),negs,dif_neg hc]
theorem ng_add {c:Nat→Rat} {e k:Nat} (h:k < e) (hc:c k < 0):ng c e (k+1)=ng c e k++[⟨k,h,hc⟩]:=by
 rw[ng_le (k:=k+1) (by omega),ng_le (k:=k) (by omega),negs,dif_pos hc]
theorem negs_len {c:Nat→Rat} {e:Nat}:∀ (k:Nat) (h:k≤e),(negs c e k h).length≤k
 |0,_=>by simp[negs]
 |k+1,h=>by
  have:=negs_len (c:=c) (e:=e) k (by omega)
  rw[negs];split
  ·simp;omega
  ·omega
theorem negs_nil {c:Nat→Rat} {e:Nat}:∀ (k:Nat) (h:k≤e),negs c e k h=[]→∀ j,j < k→¬c j < 0
 |0,_,_=>fun j hj=>by omega
 |k+1,h,hn=>fun j hj=>by
  rw[negs] at hn
  split at hn
  ·simp at hn
  ·rename_i hc
   by_cases e1:j=k
   ·subst e1;exact hc
   ·exact negs_nil (c:=c) (e:=e) k (by omega) hn j (by omega)
namespace Z
attribute [local irreducible] WC WL WD YO LO LoopEnd W.Fin Scalar SliceT FieldAt Row ArrT AllocT KnS Has W.One SrcE IntT
attribute [local irreducible] WI
set_option maxHeartbeats 4000000 in
set_option maxRecDepth 60000 in
theorem entering_c (m gb gx xg vars mm n w:Nat) (tv cv bv:Value) (mc:Nat→QM) (c:Nat→Rat) (e:Nat) (he:e≤w) (hw:w≤100000) (W0:World) (hW:∀ f∈[ce gb 3 [.int .i64 (e:Int)],ce gx 84 [ptr xg],ce xg 88 [.int .i64 (vars:Int),.int .i64 (mm:Int),.int .i64 (n:Int),tv,cv,bv],fF cv w mc c],f.p (imm (fun _=>none) [] W0.heap)) :
  SeqStopsK Fence.wide m Tryz.prog 172 #[ptr gb,ptr gx] (fun x:Neg c e=>#[.int .i64 (x.1:Int)]) (Below W0.heap.size) (fun xs=>xs=negs c e e (Nat.le_refl _)) (fun pre=>∃ (k:Nat) (hk:k < e) (hc:c k < 0),pre=negs c e k (Nat.le_of_lt hk)++[⟨k,hk,hc⟩]) (e+1) W0:=by
 intro l J Jx W1 hB hJ hJx hY h0
 have hG:∀ v:World,Below W0.heap.size W0 v→∀ f∈[ce gb 3 [.int .i64 (e:Int)],ce gx 84 [ptr xg],ce xg 88 [.int .i64 (vars:Int),.int .i64 (mm:Int),.int .i64 (n:Int),tv,cv,bv],fF cv w mc c],f.p (imm (fun _=>none) [] v.heap):=fun v hv f hf=>
  f.mono _ _ (fun k o hk=>by
   obtain⟨a1,a2,a3⟩:=imm_some hk
   exact imm_of rfl (by simp[ids]) (by rw[hv.block k (Array.getElem?_eq_some_iff.1 a3).1];exact a3)) (hW f hf)
 have jf:∀ (W0:World) (J:List (Neg c e)→World→Prop),AbidesFrom W1.heap.size J→∀ pre v,J pre v→W.Rest W0 v→(jF W0 (J pre)).p (imm (fun _=>none) [] v.heap):=fun W0 J hJ pre v hv hr v' hr' hx=>by
  have hx':∀ k o,v.heap[k]?=some o→v'.heap[k]?=some o:=fun k o h=>hx k o (imm_of rfl (by simp[ids]) h)
  refine hJ pre v v' none hv ⟨hr'.os.trans hr.os.symm,hr'.tape.trans hr.tape.symm,hr'.output.trans hr.output.symm,?_,fun k hk _=>?_⟩ (fun r e=>by cases e)
  ·by_cases h0:v.heap.size=0
   ·omega
   ·obtain⟨k,hk⟩:∃ k,k+1=v.heap.size:=⟨v.heap.size - 1,by omega⟩
    have:=hx' k _ (Array.getElem?_eq_getElem (show k < v.heap.size by omega))
    have:=(Array.getElem?_eq_some_iff.1 this).1
    omega
  ·rw[hx' k _ (Array.getElem?_eq_getElem hk),Array.getElem?_eq_getElem hk]
 have jt:∀ (W0:World) (J:List (Neg c e)→World→Prop) pre F' v,W.Rest W0 v→OK (fun _=>none) [] F' v→Has F' (jF W0 (J pre))→J pre v:=fun W0 J pre F' v hr ho hh=>(ho.has hh) v hr fun k o h=>(imm_some h).2.2
 have hr1:W.Rest W0 W1:=⟨hB.os,hB.tape,hB.output⟩
 have ho1:OK (fun _=>none) [] (jF W0 (J (ng c e 0))::ge (imm (fun _=>none) [] W0.heap)::[ce gb 3 [.int .i64 (e:Int)],ce gx 84 [ptr xg],ce xg 88 [.int .i64 (vars:Int),.int .i64 (mm:Int),.int .i64 (n:Int),tv,cv,bv],fF cv w mc c]) W1:=
  ⟨fun k o h=>(by cases h),fun k hk=>(by simp[ids] at hk),by simp[ids],fun b hb=>(by cases hb),fun f hf=>by
   rcases List.mem_cons.1 hf with rfl|hf
   ·exact jf _ J hJ _ W1 (by rw[ng_le (Nat.zero_le e)];exact h0) hr1
   ·rcases List.mem_cons.1 hf with rfl|hf
    ·intro k o hk
     obtain⟨a1,a2,a3⟩:=imm_some hk
     exact imm_of rfl (by simp[ids]) (by rw[hB.block k (Array.getElem?_eq_some_iff.1 a3).1];exact a3)
    ·exact hG W1 hB f hf⟩
 refine calls_it (args:=[.func (.yield l) #[] #[],ptr gb,ptr gx]) m [(0,.func (.yield l) #[] #[]),(1,ptr gb),(2,ptr gx)] 25 Tryz.func172 rfl Tryz.ntmps172 rfl (by kernel_rfl) suA hr1 ho1
  (fun v F'=>(v=W0∧Has F' (jF W0 (J (ng c e e))))∨∃ (k:Nat) (hk:k < e) (hc:c k < 0),Has F' (jF v (Jx (ng c e k++[⟨k,hk,hc⟩])))) ?_ ?_
 ·refine WI.seq ?_
  refine WI.region Wd.wide (by simp) ?_
  repeat'(first|refine gA ?_|(refine goG ?_;intro g)|(refine goV ?_;intro v))
  refine WI.block ?_
  refine WI.loop (σ:=Nat) (fun k=>[(6,.int .i64 (k:Int)),(5,.int .i64 (e:Int)),(0,.func (.yield l) #[] #[]),(1,ptr gb),(2,ptr gx)]) (fun _=>[]) (fun k=>jF W0 (J (ng c e k))::ge (imm (fun _=>none) [] W0.heap)::[ce gb 3 [.int .i64 (e:Int)],ce gx 84 [ptr xg],ce xg 88 [.int .i64 (vars:Int),.int .i64 (mm:Int),.int .i64 (n:Int),tv,cv,bv],fF cv w mc c]) (fun ds k=>ds=([],W0)∧k≤e) (fun k=>e - k) ?_ 0 ⟨rfl,Nat.zero_le _⟩ suA slA sfA
  rintro ds k ⟨rfl,hk⟩
  refine WI.seq ?_
  refine WI.region Wd.wide (by simp) ?_
  by_cases ck:k < e
  ·repeat'(first|refine gA ?_|(refine goG ?_;intro g)|(refine goV ?_;intro v))
   refine WI.seq ?_
   refine WI.cond (b:=true) rfl ?_
   rw[if_pos rfl]
   refine WI.skip ?_
   refine WI.seq ?_
   refine WI.block ?_
   refine WI.seq ?_
   refine WI.region Wd.wide (by simp) ?_
   repeat'(first|refine gA ?_|(refine goG ?_;intro g)|(refine goV ?_;intro v))
   refine WI.seq ?_
   by_cases hc:c k < 0
   ·have hq:sgn (c k).num < 0:=sgn_neg.2 hc
    refine WI.regionCut Wd.wide 12 (by simp) (fun e' bx' F'=>bx'=[]∧W.Sub [(18,.bool true),(20,.int .i64 (k:Int)),(19,.func (.yield l) #[] #[]),(6,.int .i64 (k:Int)),(5,.int .i64 (e:Int)),(0,.func (.yield l) #[] #[]),(1,ptr gb),(2,ptr gx)] e'∧HasAll F' (jF W0 (J (ng c e k))::ge (imm (fun _=>none) [] W0.heap)::[ce gb 3 [.int .i64 (e:Int)],ce gx 84 [ptr xg],ce xg 88 [.int .i64 (vars:Int),.int .i64 (mm:Int),.int .i64 (n:Int),tv,cv,bv],fF cv w mc c])) ?_ ?_
    ·simp only[List.take_succ_cons,List.take_zero]
     refine WL.fact' (isQ (qv (mc k)) (c k)) (W.Has.q (W.Has.fm (v:=cv) hmA) (by omega)) ?_
     repeat'(first|refine gA ?_|(refine goG ?_;intro g)|(refine goV ?_;intro v))
     first|refine WL.callV (Zn.sign (mc k) (c k)) ?_|refine WD.callV (Zn.sign (mc k) (c k)) ?_
     repeat'(first|refine gA ?_|(refine goG ?_;intro g)|(refine goV ?_;intro v))
     exact⟨rfl,suA,sfA⟩
    ·rintro a u e' bx' F' hk' hr ho ⟨rfl,hs,hh⟩
     simp only[List.drop_succ_cons,List.drop_zero]
     have hk2:=hk'.sub hs
     have ho2:=ho.hasAll hh.all
     have hju:J (ng c e k) u:=jt _ J _ _ u hr ho (hh.all _ (List.mem_cons_self ..))
     have hlen:(ng c e k).length < e+1:=by
      rw[ng_le (Nat.le_of_lt ck)]
      have:=negs_len (c:=c) k (Nat.le_of_lt ck)
      omega
     obtain⟨fn,tmps,assign,body,hy,hR⟩:=hY (ng c e k) ⟨k,ck,hc⟩ u hju hlen
     have hge:∀ k o,imm (fun _=>none) [] W0.heap k=some o→imm (fun _=>none) [] u.heap k=some o:=ho2.facts _ (List.mem_cons_of_mem _ (List.mem_cons_self ..))
     unfold wpListIn
     rw[if_pos (gok_wanted (L:=_) hk2 (by rfl))]
     refine⟨fun f _=>trivial,?_⟩
     rw[Wd.wide.sem _ _ (fun c h=>by cases h),eval_defers]
     have e19:a.eval (.tmp 19)=.func (.yield l) #[] #[]:=hk2.eval rfl
     have e20:a.eval (.tmp 20)=.int .i64 (k:Int):=hk2.eval rfl
     have hrun:∀ ty pos af g,(execOp a.eval {dst:=some 21,op:=.call {callee:=.value (.tmp 19),args:=#[.tmp 20],argTypes:=#[3]},type:=ty,pos:=pos,after:=af,guard:=g}).run Tryz.prog u=.ok (.round l fn tmps assign body) u:=fun ty pos af g=>by
      simp[execOp,resolve,e19,e20,Deferred.ofValue,invoke,hy]
     rw[hrun]
     refine⟨fun h=>(by cases h),hR.mono ?_⟩
     rintro ev u' (⟨rfl,hj,hkp⟩|⟨rfl,hjx⟩)
     ·have hr2:W.Rest W0 u':=hr.trans ⟨hkp.os,hkp.tape,hkp.output⟩
      have hge2:∀ k o,imm (fun _=>none) [] W0.heap k=some o→imm (fun _=>none) [] u'.heap k=some o:=fun k o hk=>by
       obtain⟨_,_,a3⟩:=imm_some hk
       obtain⟨_,_,a4⟩:=imm_some (hge k o hk)
       exact imm_of rfl (by simp[ids]) (by rw[hkp.block k (Array.getElem?_eq_some_iff.1 a3).1];exact a4)
      have ho3:OK (fun _=>none) [] (jF W0 (J (ng c e (k+1)))::ge (imm (fun _=>none) [] W0.heap)::[ce gb 3 [.int .i64 (e:Int)],ce gx 84 [ptr xg],ce xg 88 [.int .i64 (vars:Int),.int .i64 (mm:Int),.int .i64 (n:Int),tv,cv,bv],fF cv w mc c]) u':=⟨fun k o h=>(by cases h),fun k hk=>(by simp[ids] at hk),by simp[ids],fun b hb=>(by cases hb),fun f hf=>by
       rcases List.mem_cons.1 hf with rfl|hf
       ·exact jf _ J hJ _ u' (by rw[ng_add ck hc];exact hj) hr2
       ·rcases List.mem_cons.1 hf with rfl|hf
        ·exact hge2
        ·exact f.mono _ _ hge2 (hW f hf)⟩
      refine wl_in (ds:=([],W0)) (fr:=fun _=>none) (bx:=[]) (e:=(21,.bool true)::[(18,.bool true),(20,.int .i64 (k:Int)),(19,.func (.yield l) #[] #[]),(6,.int .i64 (k:Int)),(5,.int .i64 (e:Int)),(0,.func (.yield l) #[] #[]),(1,ptr gb),(2,ptr gx)]) Wd.wide ?_ ?_ (hk2.put (d:=21) rfl (.bool true)) hr2 ho3
      ·simp
      repeat'(first|refine gA ?_|(refine goG ?_;intro g)|(refine goV ?_;intro v))
      refine WI.cond (b:=false) rfl ?_
      rw[if_neg (by decide)]
      refine WI.skip ?_
      refine WI.region Wd.wide (by simp) ?_
      repeat'(first|refine gA ?_|(refine goG ?_;intro g)|(refine goV ?_;intro v))
      exact⟨k+1,⟨⟨rfl,by omega⟩,by show e - (k+1) < e - k;omega⟩,suA,slA,sfA⟩
     ·have ho3:OK (fun _=>none) [] [jF u' (Jx (ng c e k++[⟨k,ck,hc⟩]))] u':=⟨fun k o h=>(by cases h),fun k hk=>(by simp[ids] at hk),by simp[ids],fun b hb=>(by cases hb),fun f hf=>by
       rcases List.mem_cons.1 hf with rfl|hf
       ·exact jf _ Jx hJx _ u' hjx (W.Rest.refl u')
       ·cases hf⟩
      refine wl_in (ds:=([],u')) (fr:=fun _=>none) (bx:=[]) (e:=(21,.bool false)::[(18,.bool true),(20,.int .i64 (k:Int)),(19,.func (.yield l) #[] #[]),(6,.int .i64 (k:Int)),(5,.int .i64 (e:Int)),(0,.func (.yield l) #[] #[]),(1,ptr gb),(2,ptr gx)]) Wd.wide ?_ ?_ (hk2.put (d:=21) rfl (.bool false)) (W.Rest.refl u') ho3
      ·simp
      repeat'(first|refine gA ?_|(refine goG ?_;intro g)|(refine goV ?_;intro v))
      refine WI.cond (b:=true) rfl ?_
      rw[if_pos rfl]
      refine WI.ret ?_
      exact⟨rfl,rfl,.inr ⟨k,ck,hc,hmA⟩⟩
   ·refine WI.region Wd.wide (by simp) ?_
    have hq:¬sgn (c k).num < 0:=fun h=>hc (sgn_neg.1 h)
    refine WL.fact' (isQ (qv (mc k)) (c k)) (W.Has.q (W.Has.fm (v:=cv) hmA) (by omega)) ?_
    repeat'(first|refine gA ?_|(refine goG ?_;intro g)|(refine goV ?_;intro v))
    first|refine WL.callV (Zn.sign (mc k) (c k)) ?_|refine WD.callV (Zn.sign (mc k) (c k)) ?_
    repeat'(first|refine gA ?_|(refine goG ?_;intro g)|(refine goV ?_;intro v))
    refine WI.cond (b:=false) rfl ?_
    rw[if_neg (by decide)]
    refine WI.skip ?_
    refine WI.region Wd.wide (by simp) ?_
    repeat'(first|refine gA ?_|(refine goG ?_;intro g)|(refine goV ?_;intro v))
    exact⟨k+1,⟨⟨rfl,by omega⟩,by show e - (k+1) < e - k;omega⟩,suA,slA,.cons (by rw[ng_up ck hc];exact hmA) sfA⟩
  ·obtain rfl:k=e:=by omega
   repeat'(first|refine gA ?_|(refine goG ?_;intro g)|(refine goV ?_;intro v))
   refine WI.seq ?_
   refine WI.cond (b:=false) rfl ?_
   rw[if_neg (by decide)]
   refine WI.exit ?_
   exact⟨rfl,rfl,.inl ⟨rfl,hmA⟩⟩
 ·rintro W2 v F' hr ho (⟨rfl,h⟩|⟨k,hk,hc,h⟩)
  ·exact⟨⟨_,rfl⟩,.inl ⟨_,ng_le (Nat.le_refl e),jt _ J _ F' v hr ho h⟩⟩
  ·exact⟨⟨_,rfl⟩,.inr ⟨_,⟨k,hk,hc,by rw[ng_le (Nat.le_of_lt hk)]⟩,jt _ Jx _ F' v hr ho h⟩⟩
end Z
end Go.Proofs.YtaongbhamadlkaaGreat
namespace Go.Proofs.YtaongbhamadlkaaGreat
open W Go.RowKit
namespace Z
attribute [local irreducible] WC WL WD YO LO LoopEnd W.Fin Scalar SliceT FieldAt Row ArrT AllocT KnS Has W.One SrcE IntT
set_option maxHeartbeats 4000000 in
set_option maxRecDepth 60000 in
theorem drive_c (xg vars m n last K:Nat) (tv cv bv:Value) (rv:Nat→Value) (ms0:Nat→Nat→QM) (mc0:Nat→QM) (s:X.St) (hl:last≤n) (hm:m≤1000) (hn:n≤10000) (hK:K≤20000000) (hK0:0 < K)
  (hs:∀ i,i≤m→∀ r,r < m→∀ k,k < n+1→Sq K ((X.drP last s i).t r k)) (hc:∀ i,i≤m→∀ k,k < n+1→Sq K ((X.drP last s i).c k)) :
  FnB Tryz.prog 51 [ptr xg,.int .i64 (last:Int)] (TB xg vars m n tv cv bv rv ms0 mc0 s.b) [mT m (n+1) ms0 s.t,mF (n+1) mc0 s.c] (IsTB xg vars m n tv cv bv rv (X.drP last s m)):=by
 refine fn_of [(0,(ptr xg)),(1,(.int .i64 (last:Int)))] 37 Tryz.func51 rfl Tryz.ntmps51 (by kernel_rfl) rfl suA fun h0=>?_
 repeat'(first|refine gA ?_|(refine goG ?_;intro g)|(refine goV ?_;intro v))
 refine WC.lpP (σ:=Nat×(Nat→Nat→QM)×(Nat→QM)) (fun st=>[(12,.int .i64 (st.1:Int)),(11,.int .i64 (m:Int)),(10,bv),(0,ptr xg),(1,.int .i64 (last:Int))])
  (fun st=>TB xg vars m n tv cv bv rv st.2.1 st.2.2 (X.drP last s st.1).b) (fun st=>[mT m (n+1) st.2.1 (X.drP last s st.1).t,mF (n+1) st.2.2 (X.drP last s st.1).c,ge h0]) (fun st=>st.1≤m) (fun st=>m - st.1) (0,ms0,mc0) (Nat.zero_le _) ?_
 rintro⟨i,ms,mc⟩ hi
 simp only at hi ⊢
 by_cases c:i < m
 ·have hsi:=hs i hi
  have hci:=hc i hi
  have e1:X.drP last s (i+1)=X.drS last (X.drP last s i) i:=rfl
  generalize X.drP last s i=D at *
  by_cases cb:D.b i < last
  ·have e2:X.drP last s (i+1)=D:=by rw[e1,X.drS,if_pos cb]
   repeat'(first|refine gA ?_|(refine goG ?_;intro g)|(refine goV ?_;intro v))
   exact LoopEndP.mk (i+1,ms,mc) (by show i+1≤m;omega) (by show m - (i+1) < m - i;omega) [] (by rw[e2,List.append_nil]) (hG:=by rw[e2];exact .cons hmA (.cons hmA (.cons hmA .nil)))
  ·refine WC.perm (Ow.cells xg 88 [.int .i64 (vars:Int),.int .i64 (m:Int),.int .i64 (n:Int),tv,cv,bv]::Ow.slice tv 24 1 (fnV m rv)::Ow.slice cv 31 4 (qcells (n+1) mc)::Ow.slice bv 3 1 (ints (fnL m D.b))::rowO (n+1) (rv i) (ms i)::rowsX m (n+1) rv ms i) ((((((rows_one c).cons _).cons _).cons _).cons _)) ?_
   repeat'(first|refine gA ?_|(refine goG ?_;intro g)|(refine goV ?_;intro v))
   refine WL.callV (indexF_c (resl (rv i) 0 last 4) last (ms i) (D.t i) 121 [] [] [] (fun k=>decide (D.t i k≠0)) (fun k _=>nonzero_c (ms i k) (D.t i k) [])) ?_ (hF:=.cons (hasB_row (t:=D.t) (m:=m) (ms:=ms) meA hmA c (by omega)) .nil)
   cases hf:X.fstT (fun k=>decide (D.t i k≠0)) last 0 with
   |none=>
    have e2:X.drP last s (i+1)=D:=by rw[e1,X.drS,if_neg cb,hf]
    rw[show optI none= -1 from rfl]
    repeat'(first|refine gA ?_|(refine goG ?_;intro g)|(refine goV ?_;intro v))
    exact LoopEndP.mk (i+1,ms,mc) (by show i+1≤m;omega) (by show m - (i+1) < m - i;omega) [] (by rw[e2,List.append_nil];exact(((((rows_one c).cons _).cons _).cons _).cons _).symm) (hG:=by rw[e2];exact .cons hmA (.cons hmA (.cons hmA .nil)))
   |some k=>
    have hk:=fstT_lt hf
    have e2:X.drP last s (i+1)=X.pv D i k:=by rw[e1,X.drS,if_neg cb,hf]
    rw[show optI (some k)=(k:Int) from rfl]
    repeat'(first|refine gA ?_|(refine goG ?_;intro g)|(refine goV ?_;intro v))
    refine WL.callG (TB xg vars m n tv cv bv rv ms mc D.b) [] (by rw[List.append_nil];exact(((((rows_one c).cons _).cons _).cons _).cons _).symm) (pivot_c xg vars m n tv cv bv rv ms mc D i k K c (by omega) hm hn hK hK0 hsi hci) ?_
    rintro _ _ _ ⟨ms2,mc2,rfl,rfl,rfl⟩
    repeat'(first|refine gA ?_|(refine goG ?_;intro g)|(refine goV ?_;intro v))
    exact LoopEndP.mk (i+1,ms2,mc2) (by show i+1≤m;omega) (by show m - (i+1) < m - i;omega) [] (by rw[e2]) (hG:=by rw[e2];exact .cons hmA (.cons hmA (.cons hmA .nil)))
 ·obtain rfl:m=i:=by omega
  repeat'(first|refine gA ?_|(refine goG ?_;intro g)|(refine goV ?_;intro v))
  exact Fin.p (TB xg vars m n tv cv bv rv ms mc (X.drP last s m).b) [mT m (n+1) ms (X.drP last s m).t,mF (n+1) mc (X.drP last s m).c] (ResE.t0 rfl) meA (List.Sublist.refl _) haA ⟨ms,mc,rfl,rfl,rfl⟩
end Z
end Go.Proofs.YtaongbhamadlkaaGreat
namespace Go.Proofs.YtaongbhamadlkaaGreat
open W Go.RowKit
theorem ResE.c1 {P:Program} {e:Env} {bx:List Ow} {F:List Fct} {fn:Func} {t:Tmp} {ty:TypeId} {g tg:Nat} {v:Value} (h:fn.results=#[.cell t ty]) (hl:W.look e t=some (.pointer (some ⟨g,0,none⟩))) (hb:Ow.cells g tg [v]∈bx) (hr:Scalar P ty):ResE P fn e bx F v:=fun n fr a w hk ho=>by
 have h1:a.tmps[t]?.getD undef=.pointer (some ⟨g,0,none⟩):=by rw[hk.at' _ _ hl];rfl
 have h2:=run_ld (P:=P) (w:=w) (b:=g) (o:=0) (v:=v) hr (by rw[own_cell (ho.owns _ hb)];rfl)
 simp only[results,h]
 simp[h1,asAddr,h2]
def IsEn (f:FuncId) (xg e:Nat):RPost:=fun v B G=>∃ ga gb,v=.func (.func f) #[] #[ptr gb,ptr ga]∧B=[Ow.cells gb 3 [.int .i64 (e:Int)],Ow.cells ga 84 [ptr xg]]∧G=[]
def IsRn (xg vars m n:Nat) (tv cv bv:Value) (rv:Nat→Value) (R:X.St×Option Nat):RPost:=fun v B G=>∃ ms mc,v=.int .i64 (optI R.2)∧B=TB xg vars m n tv cv bv rv ms mc R.1.b∧G=[mT m (n+1) ms R.1.t,mF (n+1) mc R.1.c]
structure RS where
 g5:Nat
 ag:Bool
 Ds:List Nat
 ms:Nat→Nat→QM
 mc:Nat→QM
 s:X.St
 f:Nat
theorem ids_rows {m w:Nat} {rv:Nat→Value} {ms ms2:Nat→Nat→QM}:ids (rowsO m w rv ms)=ids (rowsO m w rv ms2):=by
 unfold rowsO rowsL ids
 rw[List.flatMap_map,List.flatMap_map]
 refine congrArg (fun f=>List.flatMap f _) (funext fun i=>?_)
 show(Ow.slice (rv i) _ 4 _).ids=(Ow.slice (rv i) _ 4 _).ids
 cases hv:rv i with
 |slice a b c=>cases a <;> rfl
 |_=>rfl
theorem ent_of {s:X.St} {e:Nat} {x:Neg s.c e} (h:∃ (k:Nat) (hk:k < e) (hc:s.c k < 0),[x]=negs s.c e k (Nat.le_of_lt hk)++[⟨k,hk,hc⟩]):X.ent s e=some x.1:=by
 obtain⟨k,hk,hc,h⟩:=h
 have h1:negs s.c e k (Nat.le_of_lt hk)=[]:=by
  cases hn:negs s.c e k (Nat.le_of_lt hk) with
  |nil=>rfl
  |cons a l=>rw[hn] at h;simp at h
 rw[h1] at h
 simp only[List.nil_append,List.cons.injEq,and_true] at h
 subst h
 rcases X.ent_spec s e with ⟨_,h2⟩|⟨j,h2,h3,h4,h5⟩
 ·have:=h2 k hk;grind
 ·have h6:=negs_nil k (Nat.le_of_lt hk) h1
  have:j=k:=by
   by_cases c1:j < k
   ·exact absurd h4 (h6 j c1)
   ·by_cases c2:k < j
    ·have:=h5 k c2;grind
    ·omega
  rw[h2,this]
theorem ent_no {s:X.St} {e:Nat} (h:[]=negs s.c e e (Nat.le_refl _)):X.ent s e=none:=by
 rcases X.ent_spec s e with ⟨h2,_⟩|⟨j,h2,h3,h4,h5⟩
 ·exact h2
 ·exact absurd h4 (negs_nil e (Nat.le_refl _) h.symm j h3)
theorem cells_cons {b:Ow} {l:List Ow} (h:Ow.cell' b=true) (hl:∀ x∈l,Ow.cell' x=true):∀ x∈b::l,Ow.cell' x=true:=fun x hx=>by
 rcases List.mem_cons.1 hx with rfl|hx
 ·exact h
 ·exact hl x hx
theorem cells_rows {m w:Nat} {rv:Nat→Value} {ms:Nat→Nat→QM}:∀ x∈rowsO m w rv ms,Ow.cell' x=true:=fun x hx=>by
 obtain⟨i,_,rfl⟩:=List.mem_map.1 hx;rfl
theorem cells_TB {xg vars m n:Nat} {tv cv bv:Value} {rv:Nat→Value} {ms:Nat→Nat→QM} {mc:Nat→QM} {b:Nat→Nat}:∀ x∈TB xg vars m n tv cv bv rv ms mc b,Ow.cell' x=true:=
 cells_cons rfl (cells_cons rfl (cells_cons rfl (cells_cons rfl cells_rows)))
theorem ids_app (l r:List Ow):ids (l++r)=ids l++ids r:=by simp[ids]
theorem ids_cons (b:Ow) (r:List Ow):ids (b::r)=b.ids++ids r:=by simp[ids]
theorem ids_sl {v:Value} {t1 z1 t2 z2:Nat} {c1 c2:List Value}:(Ow.slice v t1 z1 c1).ids=(Ow.slice v t2 z2 c2).ids:=by
 cases v with
 |slice a b c=>cases a <;> rfl
 |_=>rfl
theorem ids_TB {xg vars m n:Nat} {tv cv bv:Value} {rv:Nat→Value} {ms ms2:Nat→Nat→QM} {mc mc2:Nat→QM} {b b2:Nat→Nat}:ids (TB xg vars m n tv cv bv rv ms mc b)=ids (TB xg vars m n tv cv bv rv ms2 mc2 b2):=by
 unfold TB
 rw[ids_cons,ids_cons,ids_cons,ids_cons,ids_cons,ids_cons,ids_cons,ids_cons,ids_rows (ms2:=ms2),ids_sl (v:=cv) (c2:=qcells (n+1) mc2),ids_sl (v:=bv) (c2:=ints (fnL m b2))]
theorem hasB_none {bx:List Ow} {F:List Fct} {f:Fct} {fr:PH} {w:World} (h:HasB bx F f) (ho:OK fr bx F w):f.p (imm (fun _=>none) [] w.heap):=f.mono _ _ (fun k o hk=>by
 obtain⟨_,_,a3⟩:=imm_some hk
 exact imm_of rfl (by simp[ids]) a3) (h fr w ho)
theorem ids_turn {a b b' c:List Ow} (h1:ids b=ids b') (h2:ids a=ids c):∀ k∈ids (a++b),k∈ids (c++b'):=fun k hk=>by
 rw[ids_app,h1,h2] at hk
 rw[ids_app]
 rcases List.mem_append.1 hk with h|h
 ·exact List.mem_append_left _ h
 ·exact List.mem_append_right _ h
theorem has_D {F:List Fct} {Ds:List Nat} {D:Nat} (h:∀ f∈Ds.map dF,f∈F):HasAll (dF D::F) (List.map dF (D::Ds)):=W.HasAll.tail fun f hf=>by
 rcases List.mem_cons.1 hf with rfl|hf
 ·exact List.mem_cons_self ..
 ·exact List.mem_cons_of_mem _ (h f hf)
theorem fin2 {F:List Fct} {f g:Fct} (h1:Celly f) (h2:Celly g) (h3:Has F f) (h4:Has F g):∀ x∈[f,g],Has F x∧Celly x:=fun x hx=>by
 simp only[List.mem_cons,List.not_mem_nil,or_false] at hx
 rcases hx with rfl|rfl
 ·exact⟨h3,h1⟩
 ·exact⟨h4,h2⟩
namespace Z
attribute [local irreducible] WC WL WD YO LO LoopEnd W.Fin Scalar SliceT FieldAt Row ArrT AllocT KnS Has W.One SrcE IntT
theorem entering_o (xg e:Nat):FnB Tryz.prog 115 [ptr xg,.int .i64 (e:Int)] [] [] (IsEn 172 xg e):=by
 refine fn_of [(0,(ptr xg)),(1,(.int .i64 (e:Int)))] 6 Tryz.func115 rfl Tryz.ntmps115 (by kernel_rfl) rfl suA fun h0=>?_
 repeat'(first|refine gA ?_|(refine goG ?_;intro g)|(refine goV ?_;intro v))
 refine WC.ret ?_
 exact Fin.p [_,_] [] (ResE.t1 rfl rfl) meA (List.Sublist.refl _) .nil ⟨_,_,rfl,rfl,rfl⟩
attribute [local irreducible] WI
set_option maxHeartbeats 8000000 in
set_option maxRecDepth 60000 in
theorem run_c (xg vars m n e K f:Nat) (tv cv bv:Value) (rv:Nat→Value) (ms:Nat→Nat→QM) (mc:Nat→QM) (s:X.St) (R:X.St×Option Nat) (he:e≤n) (hm:m≤1000) (hn:n≤10000) (hK:K≤20000000) (hK0:0 < K)
  (hrun:X.runP m n e f s=some R) (I:X.St→Prop) (hI0:I s) (hI:∀ u k r,I u→X.ent u e=some k→X.lev n u k m=some r→I (X.pv u r k))
  (hS:∀ u,I u→(∀ i,i < m→∀ k,k < n+1→Sq K (u.t i k))∧∀ k,k < n+1→Sq K (u.c k)) :
  FnB Tryz.prog 48 [ptr xg,.int .i64 (e:Int)] (TB xg vars m n tv cv bv rv ms mc s.b) [mT m (n+1) ms s.t,mF (n+1) mc s.c] (IsRn xg vars m n tv cv bv rv R):=by
 refine fn_in 10 [(0,ptr xg),(1,.int .i64 (e:Int))] 24 Tryz.func48 rfl Tryz.ntmps48 (by kernel_rfl) rfl suA fun h0 fr w0=>?_
 repeat refine WI.seq ?_
 refine WI.region Wd.wide ?_ ?_
 ·simp
 repeat'(first|refine gA ?_|(refine goG ?_;intro g)|(refine goV ?_;intro v))
 rename_i g2
 revert g;intro g4
 repeat refine WI.seq ?_
 refine WI.region Wd.wide ?_ ?_
 ·simp
 repeat'(first|refine gA ?_|(refine goG ?_;intro g)|(refine goV ?_;intro v))
 revert g;intro g50
 refine WI.block ?_
 refine WI.loop (σ:=RS) (fun st=>[(5,ptr st.g5),(1,.int .i64 (e:Int)),(2,ptr g2),(4,ptr g4)])
  (fun st=>Ow.cells st.g5 4 [.bool st.ag]::Ow.cells g4 3 [.int .i64 0]::Ow.cells g2 84 [ptr xg]::TB xg vars m n tv cv bv rv st.ms st.mc st.s.b)
  (fun st=>mT m (n+1) st.ms st.s.t::mF (n+1) st.mc st.s.c::ge h0::st.Ds.map dF)
  (fun ds st=>ds=(st.Ds.map mkD,w0)∧st.Ds.Nodup∧(∀ D∈st.Ds,h0 D=none)∧I st.s∧if st.ag=true then X.runP m n e st.f st.s=some R else R=(st.s,none))
  (fun st=>2*st.f+if st.ag=true then 1 else 0) ?_ ⟨g50,true,[],ms,mc,s,f⟩ ⟨rfl,List.nodup_nil,by simp,hI0,by rw[if_pos rfl];exact hrun⟩ suA (List.Sublist.refl _ |>.trans (by simp only[];exact slA)) sfA
 rintro ds ⟨g5,ag,Ds,ms,mc,s,f⟩ ⟨rfl,hnd,hh0,hIs,hrs⟩
 simp only at hnd hh0 hIs hrs ⊢
 repeat refine WI.seq ?_
 refine WI.region Wd.wide ?_ ?_
 ·simp
 repeat'(first|refine gA ?_|(refine goG ?_;intro g)|(refine goV ?_;intro v))
 cases ag with
 |false=>
  rw[if_neg (by decide)] at hrs
  subst hrs
  repeat refine WI.seq ?_
  refine WI.cond (b:=false) rfl ?_
  rw[if_neg (by decide)]
  refine WI.exit ?_
  repeat refine WI.seq ?_
  refine WI.region Wd.wide ?_ ?_
  ·simp
  repeat'(first|refine gA ?_|(refine goG ?_;intro g)|(refine goV ?_;intro v))
  refine WI.ret ?_
  exact⟨Ds,_,TB xg vars m n tv cv bv rv ms mc s.b,[mT m (n+1) ms s.t,mF (n+1) mc s.c],[mT m (n+1) ms s.t,mF (n+1) mc s.c],rfl,hnd,fun D hD=>⟨Has.mem (List.mem_cons_of_mem _ (List.mem_cons_of_mem _ (List.mem_cons_of_mem _ (List.mem_map.2 ⟨D,hD,rfl⟩)))),hh0 D hD⟩,fin2 Celly.mT Celly.mF hmA hmA,ResE.c1 rfl rfl meA T.sc3,slA,fun f hf=>Has.mem hf,meA,⟨ms,mc,rfl,rfl,rfl⟩⟩
 |true=>
  rw[if_pos rfl] at hrs
  repeat refine WI.seq ?_
  refine WI.cond (b:=true) rfl ?_
  rw[if_pos rfl]
  refine WI.skip ?_
  repeat refine WI.seq ?_
  refine WI.block ?_
  repeat refine WI.seq ?_
  refine WI.region Wd.wide ?_ ?_
  ·simp
  repeat'(first|refine gA ?_|(refine goG ?_;intro g)|(refine goV ?_;intro v))
  repeat refine WI.seq ?_
  refine WI.region Wd.wide ?_ ?_
  ·simp
  repeat'(first|refine gA ?_|(refine goG ?_;intro g)|(refine goV ?_;intro v))
  refine WL.callK (entering_o xg e) ?_
  rintro _ _ _ ⟨ga,gb,rfl,rfl,rfl⟩
  simp only[List.nil_append,List.cons_append]
  repeat'(first|refine gA ?_|(refine goG ?_;intro g)|(refine goV ?_;intro v))
  repeat refine WI.block ?_
  refine WI.range (α:=Neg s.c e) (val:=fun x=>.int .i64 (x.1:Int)) (S:=fun xs=>xs=negs s.c e e (Nat.le_refl _)) (Sp:=fun pre=>∃ (k:Nat) (hk:k < e) (hc:s.c k < 0),pre=negs s.c e k (Nat.le_of_lt hk)++[⟨k,hk,hc⟩]) (N:=e+1)
   (fun c x bx' Fc=>match X.lev n s x.1 m with
    |none=>c=.ret∧bx'=Ow.cells gb 3 [.int .i64 (e:Int)]::Ow.cells ga 84 [ptr xg]::Ow.cells g5 4 [.bool false]::Ow.cells g4 3 [.int .i64 (x.1:Int)]::Ow.cells g2 84 [ptr xg]::TB xg vars m n tv cv bv rv ms mc s.b∧Fc=[mT m (n+1) ms s.t,mF (n+1) mc s.c]
    |some r=>c=.exit 2∧∃ ms' mc',bx'=Ow.cells gb 3 [.int .i64 (e:Int)]::Ow.cells ga 84 [ptr xg]::Ow.cells g5 4 [.bool true]::Ow.cells g4 3 [.int .i64 0]::Ow.cells g2 84 [ptr xg]::TB xg vars m n tv cv bv rv ms' mc' (X.pv s r x.1).b∧Fc=[mT m (n+1) ms' (X.pv s r x.1).t,mF (n+1) mc' (X.pv s r x.1).c])
   (by decide) rfl (fun _ _=>rfl) rfl rfl ?cells ?seq ?body ?done ?stop
  case cells=>exact cells_cons rfl (cells_cons rfl (cells_cons rfl (cells_cons rfl (cells_cons rfl cells_TB))))
  case seq=>
   intro w ho
   refine entering_c (10 - 1) gb ga xg vars m n (n+1) tv cv bv mc s.c e (by omega) (by omega) w fun f hf=>?_
   simp only[List.mem_cons,List.not_mem_nil,or_false] at hf
   rcases hf with rfl|rfl|rfl|rfl
   ·exact hasB_none (.c meA) ho
   ·exact hasB_none (.c meA) ho
   ·exact hasB_none (.c meA) ho
   ·exact hasB_none (HasB.fF meA hmA) ho
  case body=>
   rintro l x h1
   refine WI.block ?_
   repeat refine WI.seq ?_
   refine WI.region (Wd.round l) ?_ ?_
   ·simp
   have hx:=x.2
   obtain⟨hS1,hS2⟩:=hS s hIs
   repeat'(first|refine gA ?_|(refine goG ?_;intro g)|(refine goV ?_;intro v))
   refine WL.callV (leaving_c xg vars m n tv cv bv rv ms s x.1 K (by omega) hm hn hK hK0 hS1) ?_ (hF:=.cons (.c meA) (.cons (HasB.sV (el:=24) meA) (.cons (HasB.rows slA hmA) (.cons (HasB.sN (el:=3) meA) .nil))))
   repeat'(first|refine gA ?_|(refine goG ?_;intro g)|(refine goV ?_;intro v))
   cases hL:X.lev n s x.1 m with
   |none=>
    rw[show optI none= -1 from rfl]
    repeat refine WI.seq ?_
    refine WI.region (Wd.round l) ?_ ?_
    ·simp
    repeat'(first|refine gA ?_|(refine goG ?_;intro g)|(refine goV ?_;intro v))
    refine WI.cond (b:=true) rfl ?_
    rw[if_pos rfl]
    repeat refine WI.seq ?_
    refine WI.region (Wd.round l) ?_ ?_
    ·simp
    repeat'(first|refine gA ?_|(refine goG ?_;intro g)|(refine goV ?_;intro v))
    refine WI.ret ?_
    exact⟨rfl,meA,cells_cons rfl (cells_cons rfl (cells_cons rfl (cells_cons rfl (cells_cons rfl cells_TB)))),fun k hk=>hk,[mT m (n+1) ms s.t,mF (n+1) mc s.c],fin2 Celly.mT Celly.mF hmA hmA,by dsimp only;rw[hL];exact⟨rfl,rfl,rfl⟩⟩
   |some r=>
    have hr:=lev_lt hL
    rw[show optI (some r)=(r:Int) from rfl]
    repeat refine WI.seq ?_
    refine WI.region (Wd.round l) ?_ ?_
    ·simp
    repeat'(first|refine gA ?_|(refine goG ?_;intro g)|(refine goV ?_;intro v))
    refine WI.cond (b:=false) rfl ?_
    rw[if_neg (by decide)]
    refine WI.skip ?_
    repeat refine WI.seq ?_
    refine WI.region (Wd.round l) ?_ ?_
    ·simp
    repeat'(first|refine gA ?_|(refine goG ?_;intro g)|(refine goV ?_;intro v))
    refine WL.callG (TB xg vars m n tv cv bv rv ms mc s.b) [Ow.cells gb 3 [.int .i64 (e:Int)],Ow.cells ga 84 [ptr xg],Ow.cells g5 4 [.bool false],Ow.cells g4 3 [.int .i64 0],Ow.cells g2 84 [ptr xg]] (List.perm_append_comm (l₁:=[Ow.cells gb 3 [.int .i64 (e:Int)],Ow.cells ga 84 [ptr xg],Ow.cells g5 4 [.bool false],Ow.cells g4 3 [.int .i64 0],Ow.cells g2 84 [ptr xg]])) (pivot_c xg vars m n tv cv bv rv ms mc s r x.1 K hr (by omega) hm hn hK hK0 hS1 hS2) ?_
    rintro _ _ _ ⟨ms2,mc2,rfl,rfl,rfl⟩
    refine WL.perm ([Ow.cells gb 3 [.int .i64 (e:Int)],Ow.cells ga 84 [ptr xg],Ow.cells g5 4 [.bool false],Ow.cells g4 3 [.int .i64 0],Ow.cells g2 84 [ptr xg]]++TB xg vars m n tv cv bv rv ms2 mc2 (X.pv s r x.1).b) List.perm_append_comm ?_
    simp only[List.nil_append,List.cons_append]
    repeat'(first|refine gA ?_|(refine goG ?_;intro g)|(refine goV ?_;intro v))
    repeat refine WI.seq ?_
    refine WI.region (Wd.round l) ?_ ?_
    ·simp
    repeat'(first|refine gA ?_|(refine goG ?_;intro g)|(refine goV ?_;intro v))
    refine WI.exit ?_
    exact⟨rfl,meA,cells_cons rfl (cells_cons rfl (cells_cons rfl (cells_cons rfl (cells_cons rfl cells_TB)))),ids_turn (a:=[Ow.cells gb 3 [.int .i64 (e:Int)],Ow.cells ga 84 [ptr xg],Ow.cells g5 4 [.bool false],Ow.cells g4 3 [.int .i64 0],Ow.cells g2 84 [ptr xg]]) (c:=[Ow.cells gb 3 [.int .i64 (e:Int)],Ow.cells ga 84 [ptr xg],Ow.cells g5 4 [.bool true],Ow.cells g4 3 [.int .i64 0],Ow.cells g2 84 [ptr xg]]) ids_TB rfl,[mT m (n+1) ms2 (X.pv s r x.1).t,mF (n+1) mc2 (X.pv s r x.1).c],fin2 Celly.mT Celly.mF hmA hmA,by dsimp only;rw[hL];exact⟨rfl,ms2,mc2,rfl,rfl⟩⟩
  case done=>
   intro D hS0 hN
   have hEn:=ent_no hS0
   have hD1:D∉Ds:=fun h=>hN.2 D (Has.mem (List.mem_cons_of_mem _ (List.mem_cons_of_mem _ (List.mem_cons_of_mem _ (List.mem_map.2 ⟨D,h,rfl⟩))))) rfl
   have hD0:h0 D=none:=hN.1 h0 hmA
   cases f with
   |zero=>simp[X.runP] at hrs
   |succ f=>
    rw[X.runP,hEn] at hrs
    simp only[Option.some.injEq] at hrs
    repeat refine WI.seq ?_
    refine WI.region Wd.wide ?_ ?_
    ·simp
    repeat'(first|refine gA ?_|(refine goG ?_;intro g)|(refine goV ?_;intro v))
    refine WI.region Wd.wide ?_ ?_
    ·simp
    repeat'(first|refine gA ?_|(refine goG ?_;intro g)|(refine goV ?_;intro v))
    exact⟨⟨_,false,D::Ds,ms,mc,s,f⟩,⟨⟨rfl,List.nodup_cons.2 ⟨hD1,hnd⟩,fun D' hD'=>by
     rcases List.mem_cons.1 hD' with rfl|hD'
     ·exact hD0
     ·exact hh0 D' hD',hIs,hrs.symm⟩,by show 2*f+0 < 2*(f+1)+1;omega⟩,suA,slA,.cons hmA (.cons hmA (.cons hmA (has_D fun f hf=>List.mem_cons_of_mem _ (List.mem_cons_of_mem _ (List.mem_cons_of_mem _ hf)))))⟩
  case stop=>
   intro D c x bx' Fc hSp hX hN
   have hEn:=ent_of hSp
   have hD1:D∉Ds:=fun h=>hN.2 D (Has.mem (List.mem_cons_of_mem _ (List.mem_cons_of_mem _ (List.mem_cons_of_mem _ (List.mem_map.2 ⟨D,h,rfl⟩))))) rfl
   have hD0:h0 D=none:=hN.1 h0 hmA
   have hh1:∀ D'∈D::Ds,h0 D'=none:=fun D' hD'=>by
    rcases List.mem_cons.1 hD' with rfl|hD'
    ·exact hD0
    ·exact hh0 D' hD'
   cases f with
   |zero=>simp[X.runP] at hrs
   |succ f=>
    rw[X.runP,hEn] at hrs
    dsimp only at hrs hX
    cases hL:X.lev n s x.1 m with
    |none=>
     rw[hL] at hX hrs
     simp only[Option.some.injEq] at hrs
     obtain⟨rfl,rfl,rfl⟩:=hX
     subst hrs
     refine WI.ret ?_
     exact⟨D::Ds,_,TB xg vars m n tv cv bv rv ms mc s.b,[mT m (n+1) ms s.t,mF (n+1) mc s.c],[mT m (n+1) ms s.t,mF (n+1) mc s.c],rfl,List.nodup_cons.2 ⟨hD1,hnd⟩,fun D' hD'=>⟨(has_D (D:=D) (Ds:=Ds) (fun f hf=>List.mem_append_right _ (List.mem_cons_of_mem _ (List.mem_cons_of_mem _ (List.mem_cons_of_mem _ hf))))).all _ (List.mem_map.2 ⟨D',hD',rfl⟩),hh1 D' hD'⟩,fin2 Celly.mT Celly.mF hmA hmA,ResE.c1 rfl rfl meA T.sc3,slA,fun f hf=>Has.mem hf,meA,⟨ms,mc,rfl,rfl,rfl⟩⟩
    |some r=>
     rw[hL] at hX hrs
     obtain⟨rfl,ms2,mc2,rfl,rfl⟩:=hX
     refine WI.exit ?_
     repeat refine WI.seq ?_
     refine WI.region Wd.wide ?_ ?_
     ·simp
     repeat'(first|refine gA ?_|(refine goG ?_;intro g)|(refine goV ?_;intro v))
     refine WI.region Wd.wide ?_ ?_
     ·simp
     repeat'(first|refine gA ?_|(refine goG ?_;intro g)|(refine goV ?_;intro v))
     exact⟨⟨_,true,D::Ds,ms2,mc2,X.pv s r x.1,f⟩,⟨⟨rfl,List.nodup_cons.2 ⟨hD1,hnd⟩,hh1,hI s x.1 r hIs hEn hL,hrs⟩,by show 2*f+1 < 2*(f+1)+1;omega⟩,suA,slA,.cons hmA (.cons hmA (.cons hmA (has_D fun f hf=>List.mem_append_right _ (List.mem_cons_of_mem _ (List.mem_cons_of_mem _ (List.mem_cons_of_mem _ hf))))))⟩
end Z
end Go.Proofs.YtaongbhamadlkaaGreat
