/- Lemmas for the proof of a law: Contract of simplex's pivot. Conditions: none. -/
import Derived.Test.YtaongbhamadlkaaGreatBq7
import Derived.Test.YtaongbhamadlkaaGreatBq3
import Derived.RangeFuncNested
import Derived.RangeFuncBound
import Derived.RangeFuncCalls
import Derived.RangeFuncLeaves
set_option linter.unusedVariables false
set_option linter.unusedSimpArgs false
set_option linter.unusedSectionVars false
namespace Go.Proofs.YtaongbhamadlkaaGreat
open W Go.RowKit
abbrev TB (xg vars m n:Nat) (tv cv bv:Value) (rv:Nat→Value) (ms:Nat→Nat→QM) (mc:Nat→QM) (b:Nat→Nat):List Ow:=
 Ow.cells xg 88 [.int .i64 (vars:Int),.int .i64 (m:Int),.int .i64 (n:Int),tv,cv,bv]::Ow.slice tv 24 1 (fnV m rv)::Ow.slice cv 31 4 (qcells (n+1) mc)::Ow.slice bv 3 1 (ints (fnL m b))::rowsO m (n+1) rv ms
def IsTB (xg vars m n:Nat) (tv cv bv:Value) (rv:Nat→Value) (s:X.St):RPost:=fun v B G=>∃ ms mc,v=.tuple #[]∧B=TB xg vars m n tv cv bv rv ms mc s.b∧G=[mT m (n+1) ms s.t,mF (n+1) mc s.c]
def dvx (l:Nat→Rat) (d:Rat) (k j:Nat):Rat:=if j < k then l j / d else l j
theorem dvx_up {l:Nat→Rat} {d:Rat} {k:Nat} (i:Nat):upd (dvx l d k) k (dvx l d k k / d) i=dvx l d (k+1) i:=by
 unfold dvx upd
 by_cases c:i=k
 ·subst c;simp
 ·by_cases c2:i < k
  ·simp[c,c2,show i < k+1 by omega]
  ·simp[c,c2,show ¬i < k+1 by omega]
def pvx (s:X.St) (row col i j k:Nat):Rat:=if j=row then s.t row k / s.t row col else if j < i then s.t j k - s.t j col*(s.t row k / s.t row col) else s.t j k
namespace Z
attribute [local irreducible] WC WL WD YO LO LoopEnd W.Fin Scalar SliceT FieldAt Row ArrT AllocT KnS Has W.One SrcE IntT
theorem d117 {G G':Prop} (h:G') (s:Bx G'→G:=by
 intro h
 first|(apply WC.draw (id:=4) [0,1,2,3,4,5,6,7,8,9,11] (.held 0 (.held 1 (.held 2 (.held 3 (.held 4 (.held 5 (.held 6 (.held 7 (.held 8 (.held 9 (.loud 10 (.held 11 (.loud 12 (.done)))))))))))))) mixed (by kernel_rfl))|(apply WC.draw (id:=12) [0,1,2,3,4,5,6,7,8,9,10,11] (.held 0 (.held 1 (.held 2 (.held 3 (.held 4 (.held 5 (.held 6 (.held 7 (.held 8 (.held 9 (.held 10 (.held 11 (.loud 12 (.done)))))))))))))) mixed (by kernel_rfl))|fail
 exact Bx.h h):G:=s ⟨h⟩
set_option maxHeartbeats 8000000 in
set_option maxRecDepth 60000 in
theorem pivot_c (xg vars m n:Nat) (tv cv bv:Value) (rv:Nat→Value) (ms:Nat→Nat→QM) (mc:Nat→QM) (s:X.St) (row col K:Nat) (hrow:row < m) (hcol:col < n) (hm:m≤1000) (hn:n≤10000) (hK:K≤20000000) (hK0:0 < K) (hs:∀ i,i < m→∀ k,k < n+1→Sq K (s.t i k)) (hc:∀ k,k < n+1→Sq K (s.c k)) :
  FnB Tryz.prog 117 [ptr xg,.int .i64 (row:Int),.int .i64 (col:Int)] (TB xg vars m n tv cv bv rv ms mc s.b) [mT m (n+1) ms s.t,mF (n+1) mc s.c] (IsTB xg vars m n tv cv bv rv (X.pv s row col)):=by
 refine fn_of [(0,(ptr xg)),(1,(.int .i64 (row:Int))),(2,(.int .i64 (col:Int)))] 91 Tryz.func117 rfl Tryz.ntmps117 (by kernel_rfl) rfl suA fun h0=>?_
 have hsm:∀ {q},Sq K q→Sm q:=fun h=>h.sm (by omega)
 refine WC.perm (Ow.cells xg 88 [.int .i64 (vars:Int),.int .i64 (m:Int),.int .i64 (n:Int),tv,cv,bv]::Ow.slice tv 24 1 (fnV m rv)::Ow.slice cv 31 4 (qcells (n+1) mc)::Ow.slice bv 3 1 (ints (fnL m s.b))::rowO (n+1) (rv row) (ms row)::rowsX m (n+1) rv ms row) ((((((rows_one hrow).cons _).cons _).cons _).cons _)) ?_
 refine WC.fact (isQ (qv (ms row col)) (s.t row col)) (W.Has.qt hmA hrow (by omega)) ?_
 refine WC.fact (mF (n+1) (ms row) (s.t row)) (W.Has.tm hmA hrow) ?_
 repeat'(first|refine gB ?_|(refine gH ?_;intro g)|(refine gW ?_;intro v)|refine d117 ?_|fail)
 revert g;intro g6
 have hd:=hs row hrow col (by omega)
 refine WC.lp (σ:=Nat×(Nat→QM)) (fun st=>[(29,.int .i64 (st.1:Int)),(28,.int .i64 ((n+1:Nat):Int)),(27,rv row),(0,ptr xg),(1,.int .i64 (row:Int)),(2,.int .i64 (col:Int)),(6,ptr g6)])
  (fun st=>Ow.cells g6 31 (qcs (ms row col))::Ow.cells xg 88 [.int .i64 (vars:Int),.int .i64 (m:Int),.int .i64 (n:Int),tv,cv,bv]::Ow.slice tv 24 1 (fnV m rv)::Ow.slice cv 31 4 (qcells (n+1) mc)::Ow.slice bv 3 1 (ints (fnL m s.b))::rowO (n+1) (rv row) st.2::rowsX m (n+1) rv ms row)
  (fun st=>[isQ (qv (ms row col)) (s.t row col),mF (n+1) st.2 (dvx (s.t row) (s.t row col) st.1),mT m (n+1) ms s.t,mF (n+1) mc s.c,ge h0]) (fun st=>st.1≤n+1) (fun st=>n+1 - st.1) (0,ms row) (Nat.zero_le _) ?_ (hG:=.cons hmA (.cons (W.Has.mFsame (qf:=s.t row) hmA fun i _=>by simp[dvx]) (.cons hmA (.cons hmA (.cons hmA .nil)))))
 rintro⟨k,mx⟩ hk
 simp only at hk ⊢
 by_cases c:k < n+1
 ·refine WC.fact (isQ (qv (mx k)) (dvx (s.t row) (s.t row col) k k)) (W.Has.q (ms:=mx) hmA c) ?_
  have hw:dvx (s.t row) (s.t row col) k k=s.t row k:=by simp[dvx]
  repeat'(first|refine gB ?_|(refine gH ?_;intro g)|(refine gW ?_;intro v)|refine d117 ?_|fail)
  first|refine WL.callK (Zn.div (mx k) (ms row col) (dvx (s.t row) (s.t row col) k k) (s.t row col) (by rw[hw];exact hsm (hs row hrow k c)) (hsm hd)) ?_|refine WD.callK (Zn.div (mx k) (ms row col) (dvx (s.t row) (s.t row col) k k) (s.t row col) (by rw[hw];exact hsm (hs row hrow k c)) (hsm hd)) ?_|refine LO.callM (Zn.div (mx k) (ms row col) (dvx (s.t row) (s.t row col) k k) (s.t row col) (by rw[hw];exact hsm (hs row hrow k c)) (hsm hd)) ?_
  rintro _ _ _ ⟨m2,rfl,rfl,rfl⟩
  simp only[List.nil_append,List.cons_append]
  refine WD.fact (mF (n+1) (upd mx k m2) (dvx (s.t row) (s.t row col) (k+1))) ((W.Has.mFset (k:=k) (ms:=mx) (m:=m2) (qf:=dvx (s.t row) (s.t row col) k) hmA hmA).mFsame fun i _=>dvx_up i) ?_
  repeat'(first|refine gB ?_|(refine gH ?_;intro g)|(refine gW ?_;intro v)|refine d117 ?_|fail)
  exact LoopEnd.mk (k+1,_) (by show k+1≤n+1;omega) (by show n+1 - (k+1) < n+1 - k;omega)
 ·obtain rfl:k=n+1:=by omega
  repeat'(first|refine gB ?_|(refine gH ?_;intro g)|(refine gW ?_;intro v)|refine d117 ?_|fail)
  refine WC.fact (mT m (n+1) (upd ms row mx) (pvx s row col 0)) ((W.Has.tset (ms:=ms) (tq:=s.t) (i:=row) hmA (x:=mx) hmA).tsame fun i _ k hk=>?_) ?_
  ·unfold upd pvx dvx
   by_cases c:i=row
   ·simp[c,hk]
   ·simp[c]
  refine WC.perm (Ow.cells g6 31 (qcs (ms row col))::Ow.cells xg 88 [.int .i64 (vars:Int),.int .i64 (m:Int),.int .i64 (n:Int),tv,cv,bv]::Ow.slice tv 24 1 (fnV m rv)::Ow.slice cv 31 4 (qcells (n+1) mc)::Ow.slice bv 3 1 (ints (fnL m s.b))::rowsO m (n+1) rv (upd ms row mx)) ((((((rows_upd hrow).symm.cons _).cons _).cons _).cons _).cons _) ?_
  refine WC.lpP (σ:=Nat×(Nat→Nat→QM)) (fun st=>[(52,.int .i64 (st.1:Int)),(51,.int .i64 (m:Int)),(50,tv),(0,ptr xg),(1,.int .i64 (row:Int)),(2,.int .i64 (col:Int))])
   (fun st=>Ow.cells xg 88 [.int .i64 (vars:Int),.int .i64 (m:Int),.int .i64 (n:Int),tv,cv,bv]::Ow.slice tv 24 1 (fnV m rv)::Ow.slice cv 31 4 (qcells (n+1) mc)::Ow.slice bv 3 1 (ints (fnL m s.b))::rowsO m (n+1) rv st.2)
   (fun st=>[mT m (n+1) st.2 (pvx s row col st.1),mF (n+1) mc s.c,ge h0]) (fun st=>st.1≤m) (fun st=>m - st.1) (0,upd ms row mx) (Nat.zero_le _) ?_
  clear c hk
  rintro⟨i,mt⟩ hi
  simp only at hi ⊢
  have hdq:∀ k,k < n+1→Sq (2*K) (s.t row k / s.t row col):=fun k hk=>(Sq.div hK0 (hs row hrow k hk) hd).up (by omega)
  have hrq:∀ k,k < n+1→Sq (2*K) (pvx s row col i row k):=fun k hk=>by unfold pvx;rw[if_pos rfl];exact hdq k hk
  by_cases ci:i < m
  ·by_cases cr:i=row
   ·repeat'(first|refine gB ?_|(refine gH ?_;intro g)|(refine gW ?_;intro v)|refine d117 ?_|fail)
    exact LoopEndP.mk (i+1,mt) (by show i+1≤m;omega) (by show m - (i+1) < m - i;omega) [] (by rw[List.append_nil]) (hG:=.cons (W.Has.tsame (tq:=pvx s row col i) hmA fun j _ k _=>by
     unfold pvx
     by_cases c1:j=row
     ·rw[if_pos c1,if_pos c1]
     ·rw[if_neg c1,if_neg c1]
      by_cases c2:j < i
      ·rw[if_pos c2,if_pos (by omega)]
      ·rw[if_neg c2,if_neg (by omega)]) (.cons hmA (.cons hmA .nil)))
   ·have hiq:∀ k,k < n+1→Sq (2*K) (pvx s row col i i k):=fun k hk=>by unfold pvx;rw[if_neg cr,if_neg (by omega)];exact(hs i ci k hk).up (by omega)
    repeat'(first|refine gB ?_|(refine gH ?_;intro g)|(refine gW ?_;intro v)|refine d117 ?_|fail)
    refine WL.fact' (mF (n+1) (mt i) (pvx s row col i i)) (W.Has.tm hmA ci) ?_
    refine WL.fact' (mF (n+1) (mt row) (pvx s row col i row)) (W.Has.tm hmA hrow) ?_
    refine WL.callG [rowO (n+1) (rv i) (mt i),rowO (n+1) (rv row) (mt row)] (Ow.cells xg 88 [.int .i64 (vars:Int),.int .i64 (m:Int),.int .i64 (n:Int),tv,cv,bv]::Ow.slice tv 24 1 (fnV m rv)::Ow.slice cv 31 4 (qcells (n+1) mc)::Ow.slice bv 3 1 (ints (fnL m s.b))::rowsY m (n+1) rv mt row i) (perm6 (rows_two hrow ci cr)) (wipe_c (rv i) (rv row) (n+1) col (2*K) (mt i) (mt row) (pvx s row col i i) (pvx s row col i row) (by omega) (by omega) (by omega) hiq hrq) ?_
    rintro _ _ _ ⟨mi,rfl,rfl,rfl⟩
    simp only[List.nil_append,List.cons_append]
    refine WL.fact' (mT m (n+1) (upd mt i mi) (pvx s row col (i+1))) ((W.Has.tset (ms:=mt) (tq:=pvx s row col i) (i:=i) hmA (x:=mi) hmA).tsame fun j _ k _=>?_) ?_
    ·unfold upd
     by_cases c1:j=i
     ·subst c1
      rw[if_pos rfl]
      unfold pvx
      rw[if_neg cr,if_neg (by omega),if_pos rfl,if_neg cr,if_neg (by omega),if_neg cr,if_pos (by omega)]
     ·rw[if_neg c1]
      unfold pvx
      by_cases c3:j=row
      ·rw[if_pos c3,if_pos c3]
      ·rw[if_neg c3,if_neg c3]
       by_cases c2:j < i
       ·rw[if_pos c2,if_pos (by omega)]
       ·rw[if_neg c2,if_neg (by omega)]
    repeat'(first|refine gB ?_|(refine gH ?_;intro g)|(refine gW ?_;intro v)|refine d117 ?_|fail)
    exact LoopEndP.mk (i+1,upd mt i mi) (by show i+1≤m;omega) (by show m - (i+1) < m - i;omega) [] (by rw[List.append_nil];exact(perm6 (rows_two_upd hrow ci cr)).symm)
  ·obtain rfl:m=i:=by omega
   repeat'(first|refine gB ?_|(refine gH ?_;intro g)|(refine gW ?_;intro v)|refine d117 ?_|fail)
   refine WD.fact (mF (n+1) (mt row) (pvx s row col m row)) (W.Has.tm hmA hrow) ?_
   refine WD.callG [Ow.slice cv 31 4 (qcells (n+1) mc),rowO (n+1) (rv row) (mt row)] (Ow.cells xg 88 [.int .i64 (vars:Int),.int .i64 (m:Int),.int .i64 (n:Int),tv,cv,bv]::Ow.slice tv 24 1 (fnV m rv)::Ow.slice bv 3 1 (ints (fnL m s.b))::rowsX m (n+1) rv mt row) (perm5 (rows_one hrow)) (wipe_c cv (rv row) (n+1) col (2*K) mc (mt row) s.c (pvx s row col m row) (by omega) (by omega) (by omega) (fun k hk=>(hc k hk).up (by omega)) hrq) ?_
   rintro _ _ _ ⟨mc2,rfl,rfl,rfl⟩
   simp only[List.nil_append,List.cons_append]
   refine WD.perm (Ow.cells xg 88 [.int .i64 (vars:Int),.int .i64 (m:Int),.int .i64 (n:Int),tv,cv,bv]::Ow.slice tv 24 1 (fnV m rv)::Ow.slice cv 31 4 (qcells (n+1) mc2)::Ow.slice bv 3 1 (ints (fnL m s.b))::rowsO m (n+1) rv mt) (perm5 (rows_one hrow)).symm ?_
   have hfl:=fnL_len m s.b
   repeat'(first|refine gB ?_|(refine gH ?_;intro g)|(refine gW ?_;intro v)|refine d117 ?_|fail)
   rw[fnL_set]
   exact Fin.p (TB xg vars m n tv cv bv rv mt mc2 (X.pv s row col).b) [mT m (n+1) mt (X.pv s row col).t,mF (n+1) mc2 (X.pv s row col).c] (ResE.t0 rfl) meA (List.Sublist.refl _) (.cons (W.Has.tsame (tq:=pvx s row col m) hmA fun j hj k _=>by
    unfold pvx X.pv
    simp only
    by_cases c1:j=row
    ·rw[if_pos c1,if_pos c1]
    ·rw[if_neg c1,if_neg c1,if_pos hj]) (.cons (W.Has.mFsame (qf:=fun k=>s.c k - s.c col*pvx s row col m row k) hmA fun k _=>by unfold pvx X.pv;simp) .nil)) ⟨mt,mc2,rfl,rfl,rfl⟩
end Z
end Go.Proofs.YtaongbhamadlkaaGreat
namespace Go.Proofs.YtaongbhamadlkaaGreat
open W Go.RowKit
abbrev TM (xg vars m n:Nat) (tv cv bv:Value) (rv:Nat→Value) (ms:Nat→Nat→QM) (b:Nat→Nat):List Ow:=
 Ow.cells xg 88 [.int .i64 (vars:Int),.int .i64 (m:Int),.int .i64 (n:Int),tv,cv,bv]::Ow.slice tv 24 1 (fnV m rv)::Ow.slice bv 3 1 (ints (fnL m b))::rowsO m (n+1) rv ms
def cs0 (n:Nat) (c1:Nat→Rat) (j:Nat):Rat:=if j < n then c1 j else 0
def prS (n:Nat) (c1:Nat→Rat) (s:X.St):Nat→Nat→Rat
 |0=>cs0 n c1
 |i+1=>fun j=>prS n c1 s i j - prS n c1 s i (s.b i)*s.t i j
def csx (n:Nat) (c1:Nat→Rat) (k j:Nat):Rat:=if j < k∧j < n then c1 j else 0
theorem csx_up {n:Nat} {c1:Nat→Rat} {k:Nat} (hk:k < n) (i:Nat):upd (csx n c1 k) k (c1 k) i=csx n c1 (k+1) i:=by
 unfold csx upd
 by_cases c:i=k
 ·subst c;simp[hk]
 ·by_cases c2:i < k
  ·simp[c,c2,show i < k+1 by omega]
  ·simp[c,c2,show ¬i < k+1 by omega]
def IsPr (xg vars m n:Nat) (tv bv:Value) (rv:Nat→Value) (ms:Nat→Nat→QM) (b:Nat→Nat) (z:Nat→Rat):RPost:=fun v B G=>∃ cv mc,v=.tuple #[]∧B=TB xg vars m n tv cv bv rv ms mc b∧G=[mF (n+1) mc z]
namespace Z
attribute [local irreducible] WC WL WD YO LO LoopEnd W.Fin Scalar SliceT FieldAt Row ArrT AllocT KnS Has W.One SrcE IntT
theorem d45 {G G':Prop} (h:G') (s:Bx G'→G:=by
 intro h
 first|(apply WC.draw (id:=4) [0,1,2,3,4,5,6,8] (.held 0 (.held 1 (.held 2 (.held 3 (.held 4 (.held 5 (.held 6 (.loud 7 (.held 8 (.loud 9 (.done))))))))))) mixed (by kernel_rfl))|(apply WC.draw (id:=9) [0,1,2,3,4,5,6,7,8,9,10,11] (.held 0 (.held 1 (.held 2 (.held 3 (.held 4 (.held 5 (.held 6 (.held 7 (.held 8 (.held 9 (.held 10 (.held 11 (.loud 12 (.done)))))))))))))) mixed (by kernel_rfl))|fail
 exact Bx.h h):G:=s ⟨h⟩
set_option maxHeartbeats 8000000 in
set_option maxRecDepth 60000 in
theorem price_c (xg vars m n:Nat) (tv cv0 bv:Value) (rv:Nat→Value) (ms:Nat→Nat→QM) (s:X.St) (K:Nat) (f:FuncId) (first cap:List Value) (Fc:List Fct) (c1:Nat→Rat)
  (hf:∀ k:Nat,k < n→FnB Tryz.prog f (first++[.int .i64 (k:Int)]++cap) [] Fc (IsR (c1 k)))
  (hm:m≤1000) (hn:n≤10000) (hK:K≤100000000) (hb:∀ i,i < m→s.b i < n) (hs:∀ i,i < m→∀ k,k < n+1→Sq K (s.t i k)) (hc:∀ i,i≤m→∀ k,k < n+1→Sq K (prS n c1 s i k)) :
  FnB Tryz.prog 45 [ptr xg,.func (.func f) first.toArray cap.toArray] (TM xg vars m n tv cv0 bv rv ms s.b) (mT m (n+1) ms s.t::Fc) (IsPr xg vars m n tv bv rv ms s.b (prS n c1 s m)):=by
 refine fn_of [(0,(ptr xg)),(1,(.func (.func f) first.toArray cap.toArray))] 57 Tryz.func45 rfl Tryz.ntmps45 (by kernel_rfl) rfl suA fun h0=>?_
 repeat'(first|refine gB ?_|(refine gH ?_;intro g)|(refine gW ?_;intro v)|refine d45 ?_|fail)
 revert v;intro cv
 have hb0:(∀ r,(0:Nat)=r→True):=fun _ _=>trivial
 refine WC.lp (σ:=Nat×(Nat→QM)) (fun st=>[(20,.int .i64 (st.1:Int)),(19,.int .i64 (n:Int)),(0,ptr xg),(1,.func (.func f) first.toArray cap.toArray)])
  (fun st=>Ow.slice cv 31 4 (qcells (n+1) st.2)::Ow.cells xg 88 [.int .i64 (vars:Int),.int .i64 (m:Int),.int .i64 (n:Int),tv,cv,bv]::Ow.slice tv 24 1 (fnV m rv)::Ow.slice bv 3 1 (ints (fnL m s.b))::rowsO m (n+1) rv ms)
  (fun st=>mF (n+1) st.2 (csx n c1 st.1)::ge h0::mT m (n+1) ms s.t::Fc) (fun st=>st.1≤n) (fun st=>n - st.1) (0,fun _=>m00) (Nat.zero_le _) ?_ (hG:=.cons ((W.Has.mF0 (n+1)).mFsame fun i _=>by simp[csx]) (.cons hmA (.cons hmA (HasAll.tail fun _ h=>by(repeat(first|exact h|apply List.mem_cons_of_mem))))))
 rintro⟨k,mx⟩ hk
 simp only at hk ⊢
 by_cases c:k < n
 ·repeat'(first|refine gB ?_|(refine gH ?_;intro g)|(refine gW ?_;intro v)|refine d45 ?_|fail)
  refine WD.callC first cap (vs:=[.int .i64 (k:Int)]) (hf k c) ?_ (hF:=(HasAll.tail fun _ h=>by(repeat(first|exact h|apply List.mem_cons_of_mem))))
  rintro _ _ _ ⟨mk,rfl,rfl,rfl⟩
  simp only[List.nil_append,List.cons_append]
  refine WD.fact (mF (n+1) (upd mx k mk) (csx n c1 (k+1))) ((W.Has.mFset (k:=k) (ms:=mx) (m:=mk) (qf:=csx n c1 k) hmA hmA).mFsame fun i _=>csx_up c i) ?_
  repeat'(first|refine gB ?_|(refine gH ?_;intro g)|(refine gW ?_;intro v)|refine d45 ?_|fail)
  exact LoopEnd.mk (k+1,_) (by show k+1≤n;omega) (by show n - (k+1) < n - k;omega) (hG:=.cons hmA (.cons hmA (.cons hmA (HasAll.tail fun _ h=>by(repeat(first|exact h|apply List.mem_cons_of_mem))))))
 ·obtain rfl:n=k:=by omega
  repeat'(first|refine gB ?_|(refine gH ?_;intro g)|(refine gW ?_;intro v)|refine d45 ?_|fail)
  refine WC.perm (Ow.cells xg 88 [.int .i64 (vars:Int),.int .i64 (m:Int),.int .i64 (n:Int),tv,cv,bv]::Ow.slice tv 24 1 (fnV m rv)::Ow.slice cv 31 4 (qcells (n+1) mx)::Ow.slice bv 3 1 (ints (fnL m s.b))::rowsO m (n+1) rv ms) (perm3 _ _ _ _) ?_
  refine WC.lpP (σ:=Nat×(Nat→QM)) (fun st=>[(38,.int .i64 (st.1:Int)),(37,.int .i64 (m:Int)),(36,bv),(0,ptr xg)])
   (fun st=>Ow.cells xg 88 [.int .i64 (vars:Int),.int .i64 (m:Int),.int .i64 (n:Int),tv,cv,bv]::Ow.slice tv 24 1 (fnV m rv)::Ow.slice cv 31 4 (qcells (n+1) st.2)::Ow.slice bv 3 1 (ints (fnL m s.b))::rowsO m (n+1) rv ms)
   (fun st=>[mF (n+1) st.2 (prS n c1 s st.1),ge h0,mT m (n+1) ms s.t]) (fun st=>st.1≤m) (fun st=>m - st.1) (0,mx) (Nat.zero_le _) ?_ (hG:=.cons (W.Has.mFsame (qf:=csx n c1 n) hmA fun i _=>by unfold csx prS cs0;by_cases h:i < n <;> simp[h]) (.cons hmA (.cons hmA .nil)))
  clear c hk
  rintro⟨i,my⟩ hi
  simp only at hi ⊢
  by_cases ci:i < m
  ·have hbi:=hb i ci
   repeat'(first|refine gB ?_|(refine gH ?_;intro g)|(refine gW ?_;intro v)|refine d45 ?_|fail)
   refine WD.fact (mF (n+1) (ms i) (s.t i)) (W.Has.tm hmA ci) ?_
   refine WD.callG [Ow.slice cv 31 4 (qcells (n+1) my),rowO (n+1) (rv i) (ms i)] (Ow.cells xg 88 [.int .i64 (vars:Int),.int .i64 (m:Int),.int .i64 (n:Int),tv,cv,bv]::Ow.slice tv 24 1 (fnV m rv)::Ow.slice bv 3 1 (ints (fnL m s.b))::rowsX m (n+1) rv ms i) (perm5 (rows_one ci)) (wipe_c cv (rv i) (n+1) (s.b i) K my (ms i) (prS n c1 s i) (s.t i) (by omega) (by omega) hK (hc i hi) (hs i ci)) ?_
   rintro _ _ _ ⟨mz,rfl,rfl,rfl⟩
   simp only[List.nil_append,List.cons_append]
   repeat'(first|refine gB ?_|(refine gH ?_;intro g)|(refine gW ?_;intro v)|refine d45 ?_|fail)
   exact LoopEndP.mk (i+1,mz) (by show i+1≤m;omega) (by show m - (i+1) < m - i;omega) [] (by rw[List.append_nil];exact(perm5 (rows_one ci)).symm)
  ·obtain rfl:m=i:=by omega
   repeat'(first|refine gB ?_|(refine gH ?_;intro g)|(refine gW ?_;intro v)|refine d45 ?_|fail)
   exact Fin.p (TB xg vars m n tv cv bv rv ms my s.b) [mF (n+1) my (prS n c1 s m)] (ResE.t0 rfl) meA (List.Sublist.refl _) haA ⟨cv,my,rfl,rfl,rfl⟩
end Z
end Go.Proofs.YtaongbhamadlkaaGreat
namespace Go.Proofs.YtaongbhamadlkaaGreat
open W Go.RowKit
structure Pm where
 lv:Value
 gv:Value
 av:Nat→Value
 ma:Nat→Nat→QM
 mb:Nat→QM
 mg:Nat→QM
def pcell (av:Nat→Value) (mb:Nat→QM) (j:Nat):Value:=(av (j / 5)::qcs (mb (j / 5))).getD (j % 5) undef
theorem pcell_at (av:Nat→Value) (mb:Nat→QM) (k:Nat) {r:Nat} (hr:r < 5):pcell av mb (k*5+r)=(av k::qcs (mb k)).getD r undef:=by
 unfold pcell;rw[show(k*5+r) / 5=k by omega,show(k*5+r) % 5=r by omega]
def fPg (M:Pm) (m gn:Nat) (ln:Nat→Nat) (a:Nat→Nat→Rat) (b g:Nat→Rat):Fct where
 p h:=(slC M.lv m 5 (pcell M.av M.mb)).p h∧(∀ i,i < m→(fF (M.av i) (ln i) (M.ma i) (a i)).p h)∧(mF m M.mb b).p h∧(fF M.gv gn M.mg g).p h
 mono _ _ hl hp:=⟨(slC _ _ _ _).mono _ _ hl hp.1,fun i hi=>(fF _ _ _ _).mono _ _ hl (hp.2.1 i hi),(mF _ _ _).mono _ _ hl hp.2.2.1,(fF _ _ _ _).mono _ _ hl hp.2.2.2⟩
abbrev fP (M:Pm) (p:X.Lp):Fct:=fPg M p.m p.v (fun _=>p.v) p.a p.b p.g
abbrev pcs (M:Pm) (v:Int):List Value:=[.int .i64 v,M.lv,M.gv]
abbrev pgv (M:Pm) (v:Int):Value:=.agg #[.int .i64 v,M.lv,M.gv]
section
variable {P:Program} {e:Env} {bx:List Ow} {F:List Fct} {ty t:TypeId} {x:Operand} {M:Pm} {m gn i:Nat} {ln:Nat→Nat} {a:Nat→Nat→Rat} {b g:Nat→Rat}
theorem W.Has.pl (h:Has F (fPg M m gn ln a b g)):Has F (slC M.lv m 5 (pcell M.av M.mb)):=fun p hf=>(h p hf).1
theorem W.Has.pa (h:Has F (fPg M m gn ln a b g)) (hi:i < m):Has F (fF (M.av i) (ln i) (M.ma i) (a i)):=fun p hf=>(h p hf).2.1 i hi
theorem W.Has.pb (h:Has F (fPg M m gn ln a b g)):Has F (mF m M.mb b):=fun p hf=>(h p hf).2.2.1
theorem W.Has.pbq (h:Has F (fPg M m gn ln a b g)) (hi:i < m):Has F (isQ (qv (M.mb i)) (b i)):=W.Has.q h.pb hi
theorem W.Has.pg (h:Has F (fPg M m gn ln a b g)):Has F (fF M.gv gn M.mg g):=fun p hf=>(h p hf).2.2.2
theorem KnS.pl (h:Has F (fPg M m gn ln a b g)):KnS bx F M.lv m:=KnS.f h.pl
theorem KnS.pg (h:Has F (fPg M m gn ln a b g)):KnS bx F M.gv gn:=KnS.ff h.pg
theorem KnS.pa (h:Has F (fPg M m gn ln a b g)) (hi:i < m):KnS bx F (M.av i) (ln i):=KnS.ff (h.pa hi)
theorem YO.ldPl (hs:Row P t 5) (hx:ev e x=some (.pointer (some (eaddr M.lv (i*5))))) (h:Has F (fPg M m gn ln a b g)) (hi:i < m):YO P (.load t x) ty e bx F (.agg #[M.av i,.bool (M.mb i).1,(M.mb i).2.1,.bool false,(M.mb i).2.2]):=
 YO.ldRS (us:=M.av i::qcs (M.mb i)) hs hx h.pl (by omega) rfl fun k hk=>by
  rw[pcell_at _ _ _ hk]
  match k,hk with|0,_=>rfl|1,_=>rfl|2,_=>rfl|3,_=>rfl|4,_=>rfl
theorem YO.buildTb {x y z:Operand} {i j k:Int} (h1:ev e x=some (.int .i64 i)) (h2:ev e y=some (.int .i64 j)) (h3:ev e z=some (.int .i64 k)):YO Tryz.prog (.build 88 #[(0,x),(1,y),(2,z)]) ty e bx F (.agg #[.int .i64 i,.int .i64 j,.int .i64 k,.slice none 0 0,.slice none 0 0,.slice none 0 0]):=YO.build (parts:=[(0,x),(1,y),(2,z)]) (.cons h1 (.cons h2 (.cons h3 .nil))) fun w=>run_build w 88 _ _ (by kernel_rfl)
theorem LO.bsV1 {w:Value} {n:Nat} {K:RPost} (hx:ev e x=some w) (kd:KnS bx F w n) (h:∀ v,K v (Ow.slice v 24 1 [w]::bx) F):LO Tryz.prog (.buildSlice 86 1 #[(0,x)]) ty e bx F K:=by
 refine LO.byP (p:=∃ a c,w=.slice a n c) (fun fr w ho=>by obtain⟨a,c,h1,_⟩:=(kd fr w ho).is;exact⟨a,c,h1⟩) ?_
 rintro⟨a,c,rfl⟩
 exact LO.buildSlice (parts:=[(0,x)]) (us:=[.slice a n c]) (cs:=[.slice a n c]) (.cons hx .nil) (fun _=>by kernel_rfl) rfl (by decide) h
theorem fnV_app {n:Nat} {f:Nat→Value} {w:Value}:fnV n f++[w]=fnV (n+1) (upd f n w):=by
 unfold fnV
 rw[List.range_succ,List.map_append]
 congr 1
 ·exact List.map_congr_left fun j hj=>(upd_ne (by have:=List.mem_range.1 hj;omega)).symm
 ·simp[upd_at]
theorem fnL_app {n:Nat} {f:Nat→Nat} {c:Nat}:ints (fnL n f)++[.int .i64 (c:Int)]=ints (fnL (n+1) (upd f n c)):=by
 unfold fnL ints
 rw[List.range_succ,List.map_append,List.map_append]
 congr 1
 ·rw[List.map_map,List.map_map]
  exact List.map_congr_left fun j hj=>by
   show Value.int .i64 ((f j:Nat):Int)=Value.int .i64 ((upd f n c j:Nat):Int)
   rw[upd_ne (by have:=List.mem_range.1 hj;omega)]
 ·simp[upd_at]
theorem LO.appVV {el':TypeId} {bx2:Value→List Ow} {y:Operand} {u v w:Value} {n:Nat} {f:Nat→Value} {K:RPost} (hx:ev e x=some v) (hy:ev e y=some u) (hu:Ow.slice u el' 1 [w]∈bx) (hm:One bx F w) (hs:∀ v',Sel bx (.slice v 24 1 (fnV n f)) (.slice v' 24 1 (fnV (n+1) (upd f n w))) (bx2 v')) (hl:n≤1000000) (h:∀ v',K v' (bx2 v') F) :
  LO Tryz.prog (.call {callee:=.builtin .append,args:=#[x,y],argTypes:=#[86,86]}) ty e bx F K:=by
 refine LO.byP (fun fr w ho=>(hm fr w ho).2) fun h1=>?_
 exact LO.append T.e86 hx hy (news:=[w]) (by rw[fnV_app];exact hs) (SrcE.one hu rfl (by decide)) (by simpa using h1) (by rw[fnV_len];show(n+1)*24≤_;omega) (by rw[fnV_len];show n+1≤_;omega) h
theorem LO.appNN {el':TypeId} {bx2:Value→List Ow} {y:Operand} {u v:Value} {n c:Nat} {f:Nat→Nat} {K:RPost} (hx:ev e x=some v) (hy:ev e y=some u) (hu:Ow.slice u el' 1 [.int .i64 (c:Int)]∈bx) (hs:∀ v',Sel bx (.slice v 3 1 (ints (fnL n f))) (.slice v' 3 1 (ints (fnL (n+1) (upd f n c)))) (bx2 v')) (hl:n≤1000000) (h:∀ v',K v' (bx2 v') F) :
  LO Tryz.prog (.call {callee:=.builtin .append,args:=#[x,y],argTypes:=#[22,22]}) ty e bx F K:=by
 have hll:(ints (fnL n f)).length=n:=by simp[fnL]
 exact LO.append T.e22 hx hy (news:=[.int .i64 (c:Int)]) (by rw[fnL_app];exact hs) (SrcE.one hu rfl (by decide)) (by simp[Value.oneCell']) (by rw[hll];show(n+1)*8≤_;omega) (by rw[hll];show n+1≤_;omega) h
end
theorem ex_cons {bx bx' B:List Ow} {b:Ow} (h1:bx.Perm (b::bx')) (h2:∃ r,bx'.Perm (B++r)):∃ r,bx.Perm ((b::B)++r):=by
 obtain⟨r,h2⟩:=h2
 exact⟨r,h1.trans (h2.cons b)⟩
theorem ex_tail (l:List Ow) {R:List Ow}:∃ r,(l++R).Perm (R++r):=⟨l,List.perm_append_comm⟩
theorem rows_app {m w:Nat} {rv:Nat→Value} {ms:Nat→Nat→QM} {l:Value} {mx:Nat→QM}:(rowsO (m+1) w (upd rv m l) (upd ms m mx)).Perm (rowO w l mx::rowsO m w rv ms):=by
 unfold rowsO rowsL
 rw[List.range_succ,List.map_append]
 refine List.perm_append_comm.trans ?_
 show(rowO w (upd rv m l m) (upd ms m mx m)::_).Perm _
 rw[upd_at,upd_at]
 refine List.Perm.cons _ (List.Perm.of_eq ?_)
 refine List.map_congr_left fun j hj=>?_
 have:=List.mem_range.1 hj
 rw[upd_ne (by omega),upd_ne (by omega)]
theorem ex_row {m w:Nat} {rv:Nat→Value} {ms:Nat→Nat→QM} {l:Value} {mx:Nat→QM} {bx bx':List Ow} (h1:bx.Perm (rowO w l mx::bx')) (h2:∃ r,bx'.Perm (rowsO m w rv ms++r)):∃ r,bx.Perm (rowsO (m+1) w (upd rv m l) (upd ms m mx)++r):=by
 obtain⟨r,h2⟩:=h2
 exact⟨r,(h1.trans (h2.cons _)).trans (rows_app.symm.append_right r)⟩
def IsPut (g8 g7:Nat) (neg:Bool) (l:Value) (w k:Nat) (ms:Nat→QM) (q:Rat):RPost:=fun v B G=>∃ m',v=.tuple #[]∧B=[Ow.cells g8 4 [.bool neg],Ow.cells g7 24 [l],rowO w l (upd ms k m')]∧G=[isQ (qv m') (if neg=true then -q else q)]
namespace Z
attribute [local irreducible] WC WL WD YO LO LoopEnd W.Fin Scalar SliceT FieldAt Row ArrT AllocT KnS Has W.One SrcE IntT
set_option maxHeartbeats 4000000 in
set_option maxRecDepth 60000 in
theorem put_c (g8 g7:Nat) (neg:Bool) (l:Value) (w k:Nat) (ms:Nat→QM) (mv:QM) (q:Rat) (hk:k < w):FnB Tryz.prog 113 [.int .i64 (k:Int),qv mv,ptr g8,ptr g7] [Ow.cells g8 4 [.bool neg],Ow.cells g7 24 [l],rowO w l ms] [isQ (qv mv) q] (IsPut g8 g7 neg l w k ms q):=by
 refine fn_of [(0,(.int .i64 (k:Int))),(1,(qv mv)),(2,(ptr g8)),(3,(ptr g7))] 13 Tryz.func113 rfl Tryz.ntmps113 (by kernel_rfl) rfl suA fun h0=>?_
 repeat'(first|refine gA ?_|(refine goG ?_;intro g)|(refine goV ?_;intro v))
 cases neg with
 |true=>
  repeat'(first|refine gA ?_|(refine goG ?_;intro g)|(refine goV ?_;intro v))
  first|refine WL.callK (Zn.neg (m1:=mv) (a:=q)) ?_|refine WD.callK (Zn.neg (m1:=mv) (a:=q)) ?_|refine LO.callM (Zn.neg (m1:=mv) (a:=q)) ?_
  rintro _ _ _ ⟨m2,rfl,rfl,rfl⟩
  simp only[List.nil_append,List.cons_append]
  repeat'(first|refine gA ?_|(refine goG ?_;intro g)|(refine goV ?_;intro v))
  exact Fin.p [_,_,_] [isQ (qv m2) (-q)] (ResE.t0 rfl) meA slA haA ⟨m2,rfl,rfl,rfl⟩
 |false=>
  repeat'(first|refine gA ?_|(refine goG ?_;intro g)|(refine goV ?_;intro v))
  exact Fin.p [_,_,_] [isQ (qv mv) q] (ResE.t0 rfl) meA slA haA ⟨mv,rfl,rfl,rfl⟩
end Z
end Go.Proofs.YtaongbhamadlkaaGreat
namespace Go.Proofs.YtaongbhamadlkaaGreat
open W Go.RowKit
abbrev TF (xg vars m n:Nat) (tv cv bv:Value) (rv:Nat→Value) (ms:Nat→Nat→QM) (s:X.St):List Fct:=
 [ce xg 88 [.int .i64 (vars:Int),.int .i64 (m:Int),.int .i64 (n:Int),tv,cv,bv],sV tv m rv,rF m (n+1) rv ms s.t,sN bv m s.b]
def optI:Option Nat→Int
 |none=>-1
 |some r=>r
theorem lev_lt {n:Nat} {s:X.St} {k:Nat}:∀ {i r:Nat},X.lev n s k i=some r→r < i
 |0,_,h=>by simp[X.lev] at h
 |i+1,r,h=>by
  rw[X.lev] at h
  split at h
  ·have:=lev_lt h;omega
  ·split at h
   ·cases h;omega
   ·rename_i q hq
    have:=lev_lt hq
    split at h <;> (cases h;omega)
def lst (n:Nat) (s:X.St) (k i:Nat):Rat:=match X.lev n s k i with
 |none=>0
 |some r=>s.t r n / s.t r k
theorem le_iff {q:Rat}:sgn q.num≤0↔q≤0:=by
 have:=@sgn_pos q
 rw[←Rat.not_lt,←this];omega
namespace Z
attribute [local irreducible] WC WL WD YO LO LoopEnd W.Fin Scalar SliceT FieldAt Row ArrT AllocT KnS Has W.One SrcE IntT
theorem d116 {G G':Prop} (h:G') (s:Bx G'→G:=by
 intro h
 first|(apply WC.draw (id:=7) [0,1,2,3,4,5,6,7,8,9,10] (.held 0 (.held 1 (.held 2 (.held 3 (.held 4 (.held 5 (.held 6 (.held 7 (.held 8 (.held 9 (.held 10 (.more 11 (.loud 12 (.loud 13 (.done))) (.loud 12 (.loud 11 (.loud 13 (.done)))))))))))))))) mixed (by kernel_rfl))|(apply WC.draw (id:=11) [0,1,2,3,4,5,6,7,8,9,10,11,12,13,14,15,16,17,18,19,20,21,22] (.held 0 (.held 1 (.held 2 (.held 3 (.held 4 (.held 5 (.held 6 (.held 7 (.held 8 (.held 9 (.held 10 (.held 11 (.held 12 (.held 13 (.held 14 (.held 15 (.held 16 (.held 17 (.held 18 (.held 19 (.held 20 (.held 21 (.held 22 (.done)))))))))))))))))))))))) mixed (by kernel_rfl))|(apply WC.draw (id:=12) [0,1,2] (.held 0 (.held 1 (.held 2 (.loud 3 (.done))))) mixed (by kernel_rfl))|fail
 exact Bx.h h):G:=s ⟨h⟩
set_option maxHeartbeats 8000000 in
set_option maxRecDepth 60000 in
theorem leaving_c (xg vars m n:Nat) (tv cv bv:Value) (rv:Nat→Value) (ms:Nat→Nat→QM) (s:X.St) (col K:Nat) (hcol:col < n) (hm:m≤1000) (hn:n≤10000) (hK:K≤20000000) (hK0:0 < K) (hs:∀ i,i < m→∀ k,k < n+1→Sq K (s.t i k)) :
  FnB Tryz.prog 116 [ptr xg,.int .i64 (col:Int)] [] (TF xg vars m n tv cv bv rv ms s) (IsV (.int .i64 (optI (X.lev n s col m)))):=by
 refine fn_of [(0,(ptr xg)),(1,(.int .i64 (col:Int)))] 71 Tryz.func116 rfl Tryz.ntmps116 (by kernel_rfl) rfl suA fun h0=>?_
 have hsm:∀ {q},Sq K q→Sm q:=fun h=>h.sm (by omega)
 repeat'(first|refine gM ?_|(refine gI ?_;intro g)|(refine gU ?_;intro v)|refine gN ?_ ?_|refine d116 ?_|fail)
 revert g;intro g6
 refine WC.lp (σ:=Nat×Int×QM×Rat) (fun st=>[(5,.int .i64 st.2.1),(16,.int .i64 (st.1:Int)),(15,.int .i64 (m:Int)),(14,tv),(0,ptr xg),(1,.int .i64 (col:Int)),(6,ptr g6)]) (fun st=>[Ow.cells g6 31 (qcs st.2.2.1)])
  (fun st=>isQ (qv st.2.2.1) st.2.2.2::ge h0::TF xg vars m n tv cv bv rv ms s) (fun st=>st.1≤m∧st.2.1=optI (X.lev n s col st.1)∧st.2.2.2=lst n s col st.1) (fun st=>m - st.1) (0,-1,m00,0) ⟨Nat.zero_le _,rfl,rfl⟩ ?_ (hG:=.cons hasQ0 sfA)
 rintro⟨i,bi,ml,ql⟩ ⟨hi,hbi,hql⟩
 simp only at hi hbi hql ⊢
 by_cases c:i < m
 ·refine WC.fact (isQ (qv (ms i col)) (s.t i col)) (W.Has.qt (W.Has.rt (rv:=rv) hmA) c (by omega)) ?_
  refine WC.fact (isQ (qv (ms i n)) (s.t i n)) (W.Has.qt (W.Has.rt (rv:=rv) hmA) c (by omega)) ?_
  repeat'(first|refine gM ?_|(refine gI ?_;intro g)|(refine gU ?_;intro v)|refine gN ?_ ?_|refine d116 ?_|fail)
  first|refine WL.callV (Zn.sign (ms i col) (s.t i col)) ?_|refine WD.callV (Zn.sign (ms i col) (s.t i col)) ?_
  by_cases c1:s.t i col≤0
  ·have hz:=le_iff.2 c1
   have e1:X.lev n s col (i+1)=X.lev n s col i:=by rw[X.lev,if_pos c1]
   have e2:lst n s col (i+1)=lst n s col i:=by unfold lst;rw[e1]
   repeat'(first|refine gM ?_|(refine gI ?_;intro g)|(refine gU ?_;intro v)|refine gN ?_ ?_|refine d116 ?_|fail)
   exact LoopEnd.mk (i+1,bi,ml,ql) ⟨by show i+1≤m;omega,by rw[e1];exact hbi,by rw[e2];exact hql⟩ (by show m - (i+1) < m - i;omega)
  ·have hz:¬sgn (s.t i col).num≤0:=fun h=>c1 (le_iff.1 h)
   have hdv:Sq (2*K) (s.t i n / s.t i col):=(Sq.div hK0 (hs i c n (by omega)) (hs i c col (by omega))).up (by omega)
   repeat'(first|refine gA ?_|(refine goG ?_;intro g)|(refine goV ?_;intro v))
   refine WC.cutP (σ:=Nat×QM) (fun st=>[(9,ptr st.1),(7,.int .i64 (i:Int)),(5,.int .i64 bi),(16,.int .i64 (i:Int)),(15,.int .i64 (m:Int)),(14,tv),(0,ptr xg),(1,.int .i64 (col:Int)),(6,ptr g6)]) (fun st=>[Ow.cells st.1 31 (qcs st.2),Ow.cells g6 31 (qcs ml)])
    (fun st=>isQ (qv st.2) (s.t i n / s.t i col)::isQ (qv ml) ql::ge h0::TF xg vars m n tv cv bv rv ms s) (fun _=>True) ?_ ?_
   ·repeat'(first|refine gM ?_|(refine gI ?_;intro g)|(refine gU ?_;intro v)|refine gN ?_ ?_|refine d116 ?_|fail|((first|refine WL.callK (hv:=?hvQ) (Zn.div (ms i n) (ms i col) (s.t i n) (s.t i col) (hsm (hs i c n (by omega))) (hsm (hs i c col (by omega)))) ?_|refine WD.callK (hv:=?hvQ) (Zn.div (ms i n) (ms i col) (s.t i n) (s.t i col) (hsm (hs i c n (by omega))) (hsm (hs i c col (by omega)))) ?_|refine LO.callM (hv:=?hvQ) (Zn.div (ms i n) (ms i col) (s.t i n) (s.t i col) (hsm (hs i c n (by omega))) (hsm (hs i c col (by omega)))) ?_);(case hvQ=>((repeat(first|exact Evs.nil|(apply Evs.cons;exact rfl)));done));rintro _ _ _ ⟨zm,rfl,rfl,rfl⟩;simp only[List.nil_append,List.cons_append])|fail)
    all_goals(apply Ex2;refine⟨trivial,?_,?_,?_⟩;(focus(repeat(first|exact Sub.nil _|refine Sub.cons rfl ?_)));(focus(repeat(first|exact SubP.nil _|(apply SubP.cons;(repeat(first|exact Rem.head|apply Rem.tail))))));(focus(repeat(first|exact HasAll.nil|(apply HasAll.cons;exact hsA)))))
   rintro⟨g9,mq⟩ _
   simp only
   cases hL:X.lev n s col i with
   |none=>
    rw[hL] at hbi
    have hb1:bi= -1:=hbi
    have e1:X.lev n s col (i+1)=some i:=by rw[X.lev,if_neg c1,hL]
    repeat'(first|refine gM ?_|(refine gI ?_;intro g)|(refine gU ?_;intro v)|refine gN ?_ ?_|refine d116 ?_|fail)
    exact LoopEnd.mk (i+1,(i:Int),mq,_) ⟨by show i+1≤m;omega,by show(i:Int)=optI (X.lev n s col (i+1));rw[e1];rfl,by unfold lst;rw[e1]⟩ (by show m - (i+1) < m - i;omega)
   |some r=>
    rw[hL] at hbi
    obtain rfl:bi=(r:Int):=hbi
    have hri:=lev_lt hL
    have hq:ql=s.t r n / s.t r col:=by rw[hql];unfold lst;rw[hL]
    have hlq:Sq (2*K) ql:=by rw[hq];exact(Sq.div hK0 (hs r (by omega) n (by omega)) (hs r (by omega) col (by omega))).up (by omega)
    repeat'(first|refine gM ?_|(refine gI ?_;intro g)|(refine gU ?_;intro v)|refine gN ?_ ?_|refine d116 ?_|fail)
    first|refine WL.callV (Zn.cmp mq ml (s.t i n / s.t i col) ql (hdv.sm (by omega)) (hlq.sm (by omega))) ?_|refine WD.callV (Zn.cmp mq ml (s.t i n / s.t i col) ql (hdv.sm (by omega)) (hlq.sm (by omega))) ?_
    have hlt:=@cmpQ_lt (s.t i n / s.t i col) ql
    have heq:=@cmpQ_eq (s.t i n / s.t i col) ql
    generalize cmpQ (s.t i n / s.t i col) ql=cq at *
    by_cases k1:cq < 0
    ·have e1:X.lev n s col (i+1)=some i:=by rw[X.lev,if_neg c1,hL];exact if_pos (.inl (by rw[←hq];exact hlt.1 k1))
     repeat'(first|refine gM ?_|(refine gI ?_;intro g)|(refine gU ?_;intro v)|refine gN ?_ ?_|refine d116 ?_|fail)
     exact LoopEnd.mk (i+1,(i:Int),mq,_) ⟨by show i+1≤m;omega,by show(i:Int)=optI (X.lev n s col (i+1));rw[e1];rfl,by unfold lst;rw[e1]⟩ (by show m - (i+1) < m - i;omega)
    ·by_cases k2:cq=0
     ·by_cases k3:s.b i < s.b r
      ·have e1:X.lev n s col (i+1)=some i:=by rw[X.lev,if_neg c1,hL];exact if_pos (.inr ⟨by rw[←hq];exact heq.1 k2,k3⟩)
       repeat'(first|refine gM ?_|(refine gI ?_;intro g)|(refine gU ?_;intro v)|refine gN ?_ ?_|refine d116 ?_|fail)
       exact LoopEnd.mk (i+1,(i:Int),mq,_) ⟨by show i+1≤m;omega,by show(i:Int)=optI (X.lev n s col (i+1));rw[e1];rfl,by unfold lst;rw[e1]⟩ (by show m - (i+1) < m - i;omega)
      ·have e1:X.lev n s col (i+1)=some r:=by rw[X.lev,if_neg c1,hL];exact if_neg (by rw[←hq];rintro(h|h);exact k1 (hlt.2 h);exact k3 h.2)
       repeat'(first|refine gM ?_|(refine gI ?_;intro g)|(refine gU ?_;intro v)|refine gN ?_ ?_|refine d116 ?_|fail)
       exact LoopEnd.mk (i+1,(r:Int),ml,ql) ⟨by show i+1≤m;omega,by show(r:Int)=optI (X.lev n s col (i+1));rw[e1];rfl,by unfold lst;rw[e1];exact hq⟩ (by show m - (i+1) < m - i;omega)
     ·have e1:X.lev n s col (i+1)=some r:=by rw[X.lev,if_neg c1,hL];exact if_neg (by rw[←hq];rintro(h|h);exact k1 (hlt.2 h);exact k2 (heq.2 h.1))
      repeat'(first|refine gM ?_|(refine gI ?_;intro g)|(refine gU ?_;intro v)|refine gN ?_ ?_|refine d116 ?_|fail)
      exact LoopEnd.mk (i+1,(r:Int),ml,ql) ⟨by show i+1≤m;omega,by show(r:Int)=optI (X.lev n s col (i+1));rw[e1];rfl,by unfold lst;rw[e1];exact hq⟩ (by show m - (i+1) < m - i;omega)
 ·obtain rfl:m=i:=by omega
  rw[←hbi]
  repeat'(first|refine gM ?_|(refine gI ?_;intro g)|(refine gU ?_;intro v)|refine gN ?_ ?_|refine d116 ?_|fail)
  refine WC.ret ?_
  exact Fin.v (ResE.t1 rfl rfl) meA rfl
end Z
end Go.Proofs.YtaongbhamadlkaaGreat
namespace Go.Proofs.YtaongbhamadlkaaGreat
open W Go.RowKit
def IsF (n:Nat) (q:Nat→Rat):RPost:=fun v B G=>∃ ms,B=[]∧G=[fF v n ms q]
theorem fstT_at {p:Nat→Bool} {n i:Nat} (h:i < n):X.fstT p (n - i) i=if p i=true then some i else X.fstT p (n - (i+1)) (i+1):=by
 rw[show n - i=n - (i+1)+1 by omega,X.fstT]
theorem has_nil0F {F:List Fct} (ms:Nat→QM) (q:Nat→Rat):Has F (fF (.slice none 0 0) 0 ms q):=fun p hf=>⟨⟨none,0,rfl,Nat.le_refl _,by unfold maxLen;omega,.inl ⟨rfl,rfl,rfl⟩⟩,fun i hi=>absurd hi (by omega)⟩
namespace Z
attribute [local irreducible] WC WL WD YO LO LoopEnd W.Fin Scalar SliceT FieldAt Row ArrT AllocT KnS Has W.One SrcE IntT
set_option maxHeartbeats 4000000 in
set_option maxRecDepth 60000 in
theorem index_c (v:Value) (m k:Nat) (b:Nat→Nat):FnB Tryz.prog 122 [v,.int .i64 (k:Int)] [] [sN v m b] (IsV (.int .i64 (optI (X.fstT (fun i=>decide (b i=k)) m 0)))):=by
 refine fn_of [(0,v),(1,(.int .i64 (k:Int)))] 19 Tryz.func122 rfl Tryz.ntmps122 (by kernel_rfl) rfl suA fun h0=>?_
 refine WC.lenF (v:=v) (m:=m) hmA fun hm=>?_
 repeat'(first|refine gA ?_|(refine goG ?_;intro g)|(refine goV ?_;intro v))
 refine WC.lp (σ:=Nat) (fun i=>[(8,.int .i64 (i:Int)),(7,.int .i64 (m:Int)),(0,v),(1,.int .i64 (k:Int))]) (fun _=>[]) (fun _=>[ge h0,sN v m b]) (fun i=>i≤m∧X.fstT (fun i=>decide (b i=k)) m 0=X.fstT (fun i=>decide (b i=k)) (m - i) i) (fun i=>m - i) 0 ⟨Nat.zero_le _,rfl⟩ ?_
 rintro i ⟨hi,he⟩
 by_cases c:i < m
 ·rw[fstT_at c] at he
  by_cases c1:b i=k
  ·rw[if_pos (decide_eq_true c1)] at he
   rw[he]
   repeat'(first|refine gA ?_|(refine goG ?_;intro g)|(refine goV ?_;intro v))
   refine WC.ret ?_
   exact Fin.v (ResE.t1 rfl rfl) meA rfl
  ·rw[if_neg (by simpa using c1)] at he
   repeat'(first|refine gA ?_|(refine goG ?_;intro g)|(refine goV ?_;intro v))
   exact LoopEnd.mk (i+1) ⟨by omega,he⟩ (by omega)
 ·obtain rfl:m=i:=by omega
  rw[Nat.sub_self,X.fstT] at he
  rw[he]
  repeat'(first|refine gA ?_|(refine goG ?_;intro g)|(refine goV ?_;intro v))
  refine WC.ret ?_
  exact Fin.v (ResE.t1 rfl rfl) meA rfl
set_option maxHeartbeats 4000000 in
set_option maxRecDepth 60000 in
theorem indexF_c (v:Value) (n:Nat) (ms:Nat→QM) (q:Nat→Rat) (f:FuncId) (first cap:List Value) (Fc:List Fct) (p:Nat→Bool)
  (hf:∀ i,i < n→FnB Tryz.prog f (first++[qv (ms i)]++cap) [] (isQ (qv (ms i)) (q i)::Fc) (IsV (.bool (p i)))) :
  FnB Tryz.prog 120 [v,.func (.func f) first.toArray cap.toArray] [] (fF v n ms q::Fc) (IsV (.int .i64 (optI (X.fstT p n 0)))):=by
 refine fn_of [(0,v),(1,(.func (.func f) first.toArray cap.toArray))] 19 Tryz.func120 rfl Tryz.ntmps120 (by kernel_rfl) rfl suA fun h0=>?_
 refine WC.lenF (v:=v) (m:=n) (W.Has.fs (ms:=ms) (qf:=q) hmA) fun hm=>?_
 repeat'(first|refine gA ?_|(refine goG ?_;intro g)|(refine goV ?_;intro v))
 refine WC.lp (σ:=Nat) (fun i=>[(8,.int .i64 (i:Int)),(7,.int .i64 (n:Int)),(0,v),(1,.func (.func f) first.toArray cap.toArray)]) (fun _=>[]) (fun _=>ge h0::fF v n ms q::Fc) (fun i=>i≤n∧X.fstT p n 0=X.fstT p (n - i) i) (fun i=>n - i) 0 ⟨Nat.zero_le _,rfl⟩ ?_ (hG:=.cons hmA (.cons hmA (HasAll.tail fun _ h=>by(repeat(first|exact h|apply List.mem_cons_of_mem)))))
 rintro i ⟨hi,he⟩
 by_cases c:i < n
 ·rw[fstT_at c] at he
  repeat'(first|refine gA ?_|(refine goG ?_;intro g)|(refine goV ?_;intro v))
  refine WL.callC first cap (vs:=[qv (ms i)]) (hf i c) ?_ (hF:=.cons (W.Has.q (W.Has.fm (v:=v) hmA) c) (HasAll.tail fun _ h=>by(repeat(first|exact h|apply List.mem_cons_of_mem))))
  rintro _ _ _ ⟨rfl,rfl,rfl⟩
  simp only[List.nil_append,List.cons_append]
  cases hp:p i with
  |true=>
   rw[if_pos hp] at he
   rw[he]
   repeat'(first|refine gA ?_|(refine goG ?_;intro g)|(refine goV ?_;intro v))
   refine WC.ret ?_
   exact Fin.v (ResE.t1 rfl rfl) meA rfl
  |false=>
   rw[if_neg (by rw[hp];decide)] at he
   repeat'(first|refine gA ?_|(refine goG ?_;intro g)|(refine goV ?_;intro v))
   exact LoopEnd.mk (i+1) ⟨by omega,he⟩ (by omega) (hG:=.cons hmA (.cons hmA (HasAll.tail fun _ h=>by(repeat(first|exact h|apply List.mem_cons_of_mem)))))
 ·obtain rfl:n=i:=by omega
  rw[Nat.sub_self,X.fstT] at he
  rw[he]
  repeat'(first|refine gA ?_|(refine goG ?_;intro g)|(refine goV ?_;intro v))
  refine WC.ret ?_
  exact Fin.v (ResE.t1 rfl rfl) meA rfl
set_option maxHeartbeats 4000000 in
set_option maxRecDepth 60000 in
theorem clone_c (u:Value) (n:Nat) (ms:Nat→QM) (q:Nat→Rat) (hn:n≤1000000):FnB Tryz.prog 119 [u] [] [fF u n ms q] (IsF n q):=by
 refine fn_of [(0,u)] 8 Tryz.func119 rfl Tryz.ntmps119 (by kernel_rfl) rfl suA fun h0=>?_
 cases hnl:isNil u with
 |true=>
  refine WC.nilF (v:=u) (m:=n) (ms:=ms) (q:=q) hmA hnl fun h=>?_
  subst h
  repeat'(first|refine gA ?_|(refine goG ?_;intro g)|(refine goV ?_;intro v))
  refine WC.ret ?_
  exact Fin.p [] [fF (.slice none 0 0) 0 ms q] (ResE.t1 rfl rfl) meA (List.nil_sublist _) (.cons (has_nil0F _ _) .nil) ⟨ms,rfl,rfl⟩
 |false=>
  repeat'(first|refine gA ?_|(refine goG ?_;intro g)|(refine goV ?_;intro v))
  refine WC.freezeF v n ms q (by repeat(first|exact Sel.head|apply Sel.tail)) (W.Has.fm (v:=u) hmA) ?_
  refine WC.ret ?_
  exact Fin.p [] [fF v n ms q] (ResE.t1 rfl rfl) meA (List.nil_sublist _) haA ⟨ms,rfl,rfl⟩
end Z
end Go.Proofs.YtaongbhamadlkaaGreat
namespace Go.Proofs.YtaongbhamadlkaaGreat
open W Go.RowKit
abbrev lnv (M:Pm) (i:Nat):Value:=.agg #[M.av i,.bool (M.mb i).1,(M.mb i).2.1,.bool false,(M.mb i).2.2]
def vldP (vars:Int) (m gn:Nat) (ln:Nat→Nat):Int:=
 if 48 < vars∨128 < m then 4 else if vars < 0∨(gn:Int)≠vars∨(X.fstT (fun i=>decide ((ln i:Int)≠vars)) m 0).isSome=true then 1 else 0
theorem hasB_tail {bx:List Ow} {F:List Fct}:∀ {G:List Fct},(∀ f∈G,f∈F)→HasAllB bx F G
 |[],_=>.nil
 |f::G,h=>.cons (HasB.f (Has.mem (h f (List.mem_cons_self ..)))) (hasB_tail fun g hg=>h g (List.mem_cons_of_mem _ hg))
namespace Z
attribute [local irreducible] WC WL WD YO LO LoopEnd W.Fin Scalar SliceT FieldAt Row ArrT AllocT KnS Has W.One SrcE IntT
section
variable (M:Pm) (m gn:Nat) (ln:Nat→Nat) (a:Nat→Nat→Rat) (b g:Nat→Rat)
set_option maxHeartbeats 4000000 in
set_option maxRecDepth 60000 in
theorem indexL_c (f:FuncId) (first cap:List Value) (Fc:List Fct) (p:Nat→Bool)
  (hf:∀ i,i < m→FnB Tryz.prog f (first++[lnv M i]++cap) [] (fPg M m gn ln a b g::Fc) (IsV (.bool (p i)))) :
  FnB Tryz.prog 171 [M.lv,.func (.func f) first.toArray cap.toArray] [] (fPg M m gn ln a b g::Fc) (IsV (.int .i64 (optI (X.fstT p m 0)))):=by
 refine fn_of [(0,M.lv),(1,(.func (.func f) first.toArray cap.toArray))] 19 Tryz.func171 rfl Tryz.ntmps171 (by kernel_rfl) rfl suA fun h0=>?_
 refine WC.lenF (v:=M.lv) (m:=m) (W.Has.pl (M:=M) (m:=m) (gn:=gn) (ln:=ln) (a:=a) (b:=b) (g:=g) hmA) fun hm=>?_
 repeat'(first|refine gA ?_|(refine goG ?_;intro g)|(refine goV ?_;intro v))
 refine WC.lp (σ:=Nat) (fun i=>[(8,.int .i64 (i:Int)),(7,.int .i64 (m:Int)),(0,M.lv),(1,.func (.func f) first.toArray cap.toArray)]) (fun _=>[]) (fun _=>ge h0::fPg M m gn ln a b g::Fc) (fun i=>i≤m∧X.fstT p m 0=X.fstT p (m - i) i) (fun i=>m - i) 0 ⟨Nat.zero_le _,rfl⟩ ?_ (hG:=.cons hmA (.cons hmA (HasAll.tail fun _ h=>by(repeat(first|exact h|apply List.mem_cons_of_mem)))))
 rintro i ⟨hi,he⟩
 by_cases c:i < m
 ·rw[fstT_at c] at he
  repeat'(first|refine gA ?_|(refine goG ?_;intro g)|(refine goV ?_;intro v))
  refine WL.callC first cap (vs:=[lnv M i]) (hf i c) ?_ (hF:=.cons hmA (HasAll.tail fun _ h=>by(repeat(first|exact h|apply List.mem_cons_of_mem))))
  rintro _ _ _ ⟨rfl,rfl,rfl⟩
  simp only[List.nil_append,List.cons_append]
  cases hp:p i with
  |true=>
   rw[if_pos hp] at he
   rw[he]
   repeat'(first|refine gA ?_|(refine goG ?_;intro g)|(refine goV ?_;intro v))
   refine WC.ret ?_
   exact Fin.v (ResE.t1 rfl rfl) meA rfl
  |false=>
   rw[if_neg (by rw[hp];decide)] at he
   repeat'(first|refine gA ?_|(refine goG ?_;intro g)|(refine goV ?_;intro v))
   exact LoopEnd.mk (i+1) ⟨by omega,he⟩ (by omega) (hG:=.cons hmA (.cons hmA (HasAll.tail fun _ h=>by(repeat(first|exact h|apply List.mem_cons_of_mem)))))
 ·obtain rfl:m=i:=by omega
  rw[Nat.sub_self,X.fstT] at he
  rw[he]
  repeat'(first|refine gA ?_|(refine goG ?_;intro g)|(refine goV ?_;intro v))
  refine WC.ret ?_
  exact Fin.v (ResE.t1 rfl rfl) meA rfl
set_option maxHeartbeats 4000000 in
set_option maxRecDepth 60000 in
theorem containsL_c (f:FuncId) (first cap:List Value) (Fc:List Fct) (p:Nat→Bool)
  (hf:∀ i,i < m→FnB Tryz.prog f (first++[lnv M i]++cap) [] (fPg M m gn ln a b g::Fc) (IsV (.bool (p i)))) :
  FnB Tryz.prog 111 [M.lv,.func (.func f) first.toArray cap.toArray] [] (fPg M m gn ln a b g::Fc) (IsV (.bool (X.fstT p m 0).isSome)):=by
 refine fn_of [(0,M.lv),(1,(.func (.func f) first.toArray cap.toArray))] 9 Tryz.func111 rfl Tryz.ntmps111 (by kernel_rfl) rfl suA fun h0=>?_
 repeat'(first|refine gA ?_|(refine goG ?_;intro g)|(refine goV ?_;intro v))
 refine WL.callV (indexL_c M m gn ln a b g f first cap Fc p hf) ?_ (hF:=.cons (.f hmA) (hasB_tail fun _ h=>by(repeat(first|exact h|apply List.mem_cons_of_mem))))
 cases hp:X.fstT p m 0 with
 |none=>
  rw[show optI none= -1 from rfl]
  repeat'(first|refine gA ?_|(refine goG ?_;intro g)|(refine goV ?_;intro v))
  refine WC.ret ?_
  exact Fin.v (ResE.t1 rfl rfl) meA rfl
 |some k=>
  rw[show optI (some k)=(k:Int) from rfl]
  repeat'(first|refine gA ?_|(refine goG ?_;intro g)|(refine goV ?_;intro v))
  refine WC.ret ?_
  exact Fin.v (ResE.t1 rfl rfl) meA rfl
set_option maxHeartbeats 4000000 in
set_option maxRecDepth 60000 in
theorem valid1_c (gp:Nat) (vars:Int) (i:Nat) (hi:i < m):FnB Tryz.prog 112 [lnv M i,ptr gp] [] [fPg M m gn ln a b g,ce gp 26 (pcs M vars)] (IsV (.bool (decide ((ln i:Int)≠vars)))):=by
 refine fn_of [(0,(lnv M i)),(1,(ptr gp))] 10 Tryz.func112 rfl Tryz.ntmps112 (by kernel_rfl) rfl suA fun h0=>?_
 refine WC.fact (fF (M.av i) (ln i) (M.ma i) (a i)) (W.Has.pa (M:=M) (m:=m) (gn:=gn) (ln:=ln) (a:=a) (b:=b) (g:=g) hmA hi) ?_
 refine WC.fact (isQ (qv (M.mb i)) (b i)) (W.Has.pbq (M:=M) (m:=m) (gn:=gn) (ln:=ln) (a:=a) (b:=b) (g:=g) hmA hi) ?_
 by_cases c:(ln i:Int)=vars
 ·repeat'(first|refine gA ?_|(refine goG ?_;intro g)|(refine goV ?_;intro v))
  refine WC.ret ?_
  exact Fin.v (ResE.t1 rfl rfl) meA (by simp[c])
 ·repeat'(first|refine gA ?_|(refine goG ?_;intro g)|(refine goV ?_;intro v))
  refine WC.ret ?_
  exact Fin.v (ResE.t1 rfl rfl) meA (by simp[c])
set_option maxHeartbeats 4000000 in
set_option maxRecDepth 60000 in
theorem valid_c (vars:Int):FnB Tryz.prog 43 [pgv M vars] [] [fPg M m gn ln a b g] (IsV (.int .i64 (vldP vars m gn ln))):=by
 refine fn_of [(0,(pgv M vars))] 31 Tryz.func43 rfl Tryz.ntmps43 (by kernel_rfl) rfl suA fun h0=>?_
 refine WC.lenF (v:=M.lv) (m:=m) (W.Has.pl (M:=M) (m:=m) (gn:=gn) (ln:=ln) (a:=a) (b:=b) (g:=g) hmA) fun hm=>?_
 refine WC.fact (fF M.gv gn M.mg g) (W.Has.pg (M:=M) (m:=m) (gn:=gn) (ln:=ln) (a:=a) (b:=b) (g:=g) hmA) ?_
 by_cases c1:48 < vars
 ·repeat'(first|refine gA ?_|(refine goG ?_;intro g)|(refine goV ?_;intro v))
  refine WC.ret ?_
  exact Fin.v (ResE.t1 rfl rfl) meA (by simp[vldP,c1])
 ·by_cases c2:128 < m
  ·repeat'(first|refine gA ?_|(refine goG ?_;intro g)|(refine goV ?_;intro v))
   refine WC.ret ?_
   exact Fin.v (ResE.t1 rfl rfl) meA (by simp[vldP,c2])
  ·by_cases c3:vars < 0
   ·repeat'(first|refine gA ?_|(refine goG ?_;intro g)|(refine goV ?_;intro v))
    refine WC.ret ?_
    exact Fin.v (ResE.t1 rfl rfl) meA (by simp[vldP,c1,c2,c3])
   ·by_cases c4:(gn:Int)=vars
    ·repeat'(first|refine gA ?_|(refine goG ?_;intro g)|(refine goV ?_;intro v))
     revert g;intro g1
     refine WL.callV (containsL_c M m gn ln a b g 112 [] [ptr g1] [ce g1 26 (pcs M vars)] (fun i=>decide ((ln i:Int)≠vars)) (fun i hi=>valid1_c M m gn ln a b g g1 vars i hi)) ?_ (hF:=.cons (.f hmA) (.cons (.c meA) .nil))
     cases hx:(X.fstT (fun i=>decide ((ln i:Int)≠vars)) m 0).isSome with
     |true=>
      repeat'(first|refine gA ?_|(refine goG ?_;intro g)|(refine goV ?_;intro v))
      refine WC.ret ?_
      exact Fin.v (ResE.t1 rfl rfl) meA (by simp only[vldP,hx];rw[if_neg (by omega),if_pos (.inr (.inr trivial))])
     |false=>
      repeat'(first|refine gA ?_|(refine goG ?_;intro g)|(refine goV ?_;intro v))
      refine WC.ret ?_
      exact Fin.v (ResE.t1 rfl rfl) meA (by simp only[vldP,hx];rw[if_neg (by omega),if_neg (by simp[c3,c4])])
    ·repeat'(first|refine gA ?_|(refine goG ?_;intro g)|(refine goV ?_;intro v))
     refine WC.ret ?_
     exact Fin.v (ResE.t1 rfl rfl) meA (by simp[vldP,c1,c2,c4])
end
end Z
end Go.Proofs.YtaongbhamadlkaaGreat
namespace Go.Proofs.YtaongbhamadlkaaGreat
open W Go.RowKit
namespace Z
attribute [local irreducible] WC WL WD YO LO LoopEnd W.Fin Scalar SliceT FieldAt Row ArrT AllocT KnS Has W.One SrcE IntT
theorem d27 {G G':Prop} (h:G') (s:Bx G'→G:=by
 intro h
 first|(apply WC.draw (id:=5) [0,1,2,3,4,5,6,7,8] (.held 0 (.held 1 (.held 2 (.held 3 (.held 4 (.held 5 (.held 6 (.held 7 (.held 8 (.loud 9 (.loud 10 (.loud 11 (.loud 12 (.done)))))))))))))) mixed (by kernel_rfl))|fail
 exact Bx.h h):G:=s ⟨h⟩
set_option maxHeartbeats 4000000 in
set_option maxRecDepth 60000 in
theorem sum_c (v:Value) (n K:Nat) (ms:Nat→QM) (q:Nat→Rat) (hn:n≤10000) (hK:n*(K+1)+1+K≤400000000) (hq:∀ i,i < n→Sq K (q i)):FnB Tryz.prog 89 [v] [] [fF v n ms q] (IsR (X.sm n q)):=by
 refine fn_of [(0,v)] 17 Tryz.func89 rfl Tryz.ntmps89 (by kernel_rfl) rfl suA fun h0=>?_
 have hsm:∀ i,i≤n→Sm (X.sm i q):=fun i hi=>(X.sq_sm (f:=q) (m:=i) (k:=K) fun j hj=>hq j (by omega)).sm (by
  have:=Nat.mul_le_mul_right (K+1) hi
  omega)
 repeat'(first|refine gA ?_|(refine goG ?_;intro g)|(refine goV ?_;intro v))
 rename_i g2
 revert g;intro g3
 refine WC.lp (σ:=Nat×QM) (fun st=>[(8,.int .i64 (st.1:Int)),(7,.int .i64 (n:Int)),(6,v),(3,ptr g3),(2,ptr g2)]) (fun st=>[Ow.cells g3 31 (qcs st.2),Ow.cells g2 31 (qcs m00)])
  (fun st=>[isQ (qv st.2) (X.sm st.1 q),ge h0,fF v n ms q]) (fun st=>st.1≤n) (fun st=>n - st.1) (0,m00) (Nat.zero_le _) ?_ (hG:=.cons hasQ0 (.cons hmA (.cons hmA .nil)))
 rintro⟨k,m⟩ hk
 simp only at hk ⊢
 by_cases c:k < n
 ·refine WC.fact (isQ (qv (ms k)) (q k)) (W.Has.q (W.Has.fm (v:=v) hmA) c) ?_
  repeat'(first|refine gA ?_|(refine goG ?_;intro g)|(refine goV ?_;intro v))
  first|refine WL.callK (Zn.add m (ms k) (X.sm k q) (q k) (hsm k (by omega)) ((hq k c).sm (by omega))) ?_|refine WD.callK (Zn.add m (ms k) (X.sm k q) (q k) (hsm k (by omega)) ((hq k c).sm (by omega))) ?_|refine LO.callM (Zn.add m (ms k) (X.sm k q) (q k) (hsm k (by omega)) ((hq k c).sm (by omega))) ?_
  rintro _ _ _ ⟨m3,rfl,rfl,rfl⟩
  simp only[List.nil_append,List.cons_append]
  repeat'(first|refine gA ?_|(refine goG ?_;intro g)|(refine goV ?_;intro v))
  exact LoopEnd.mk (k+1,m3) (by show k+1≤n;omega) (by show n - (k+1) < n - k;omega)
 ·obtain rfl:n=k:=by omega
  repeat'(first|refine gA ?_|(refine goG ?_;intro g)|(refine goV ?_;intro v))
  refine WC.ret ?_
  exact Fin.p [] [isQ (qv m) (X.sm n q)] (ResE.cV rfl rfl meA T.r31 rfl) meA (List.nil_sublist _) haA ⟨m,rfl,rfl,rfl⟩
def dtx (a b:Nat→Rat) (k j:Nat):Rat:=if j < k then a j*b j else 0
theorem dtx_up {a b:Nat→Rat} {k:Nat} (j:Nat) (hj:j < k+1):upd (dtx a b k) k (a k*b k) j=dtx a b (k+1) j:=by
 unfold dtx upd
 by_cases c:j=k
 ·subst c;simp
 ·rw[if_neg c,if_pos hj]
  show(if j < k then _ else _)=_
  rw[if_pos (by omega)]
set_option maxHeartbeats 4000000 in
set_option maxRecDepth 60000 in
theorem dot_c (x y:Value) (n K:Nat) (ma mb:Nat→QM) (a b:Nat→Rat) (hn:n≤10000) (hK:n*(2*K+1)+1+2*K≤400000000) (ha:∀ i,i < n→Sq K (a i)) (hb:∀ i,i < n→Sq K (b i)):FnB Tryz.prog 27 [x,y] [] [fF x n ma a,fF y n mb b] (IsR (X.sm n fun i=>a i*b i)):=by
 refine fn_of [(0,x),(1,y)] 30 Tryz.func27 rfl Tryz.ntmps27 (by kernel_rfl) rfl suA fun h0=>?_
 refine WC.addNil 31 4 ?_
 repeat'(first|refine gB ?_|(refine gH ?_;intro g)|(refine gW ?_;intro v)|refine goYT ?_|refine d27 ?_|fail)
 revert g;intro g4
 rw[show min (n:Int) (n:Int)=(n:Int) by omega]
 refine WC.lp (σ:=Nat×Value×(Nat→QM)) (fun st=>[(12,.int .i64 (st.1:Int)),(11,.int .i64 (n:Int)),(0,x),(1,y),(5,st.2.1),(4,ptr g4)]) (fun st=>[Ow.cells g4 31 (qcs m00),Ow.slice st.2.1 31 4 (qcells st.1 st.2.2)])
  (fun st=>[mF st.1 st.2.2 (dtx a b st.1),ge h0,fF x n ma a,fF y n mb b]) (fun st=>st.1≤n) (fun st=>n - st.1) (0,.slice none 0 0,fun _=>m00) (Nat.zero_le _) ?_ (hG:=.cons (W.Has.mFn _ _) (.cons hmA (.cons hmA (.cons hmA .nil))))
 rintro⟨k,sv,ms⟩ hk
 simp only at hk ⊢
 by_cases c:k < n
 ·refine WC.fact (isQ (qv (ma k)) (a k)) (W.Has.q (W.Has.fm (v:=x) hmA) c) ?_
  refine WC.fact (isQ (qv (mb k)) (b k)) (W.Has.q (W.Has.fm (v:=y) hmA) c) ?_
  repeat'(first|refine gB ?_|(refine gH ?_;intro g)|(refine gW ?_;intro v)|refine goYT ?_|refine d27 ?_|fail)
  first|refine WL.callK (Zn.mul (ma k) (mb k) (a k) (b k) ((ha k c).sm (by omega)) ((hb k c).sm (by omega))) ?_|refine WD.callK (Zn.mul (ma k) (mb k) (a k) (b k) ((ha k c).sm (by omega)) ((hb k c).sm (by omega))) ?_|refine LO.callM (Zn.mul (ma k) (mb k) (a k) (b k) ((ha k c).sm (by omega)) ((hb k c).sm (by omega))) ?_
  rintro _ _ _ ⟨m3,rfl,rfl,rfl⟩
  simp only[List.nil_append,List.cons_append]
  refine WD.fact (mF (k+1) (upd ms k m3) (dtx a b (k+1))) ((W.Has.mFapp (n:=k) (ms:=ms) (m:=m3) (qf:=dtx a b k) hmA hmA).mFsame fun j hj=>dtx_up j hj) ?_
  repeat'(first|refine gB ?_|(refine gH ?_;intro g)|(refine gW ?_;intro v)|refine goYT ?_|refine d27 ?_|fail)
  exact LoopEnd.mk (k+1,_,_) (by show k+1≤n;omega) (by show n - (k+1) < n - k;omega)
 ·obtain rfl:n=k:=by omega
  repeat'(first|refine gB ?_|(refine gH ?_;intro g)|(refine gW ?_;intro v)|refine goYT ?_|refine d27 ?_|fail)
  refine WL.freezeF sv n ms (dtx a b n) (by repeat(first|exact Sel.head|apply Sel.tail)) hmA ?_
  first|refine WL.callK (sum_c sv n (2*K) ms (dtx a b n) hn hK (fun i hi=>by unfold dtx;rw[if_pos hi];exact(Sq.mul (ha i hi) (hb i hi)).up (by omega))) ?_|refine WD.callK (sum_c sv n (2*K) ms (dtx a b n) hn hK (fun i hi=>by unfold dtx;rw[if_pos hi];exact(Sq.mul (ha i hi) (hb i hi)).up (by omega))) ?_|refine LO.callM (sum_c sv n (2*K) ms (dtx a b n) hn hK (fun i hi=>by unfold dtx;rw[if_pos hi];exact(Sq.mul (ha i hi) (hb i hi)).up (by omega))) ?_
  rintro _ _ _ ⟨m5,rfl,rfl,rfl⟩
  simp only[List.nil_append,List.cons_append]
  repeat'(first|refine gB ?_|(refine gH ?_;intro g)|(refine gW ?_;intro v)|refine goYT ?_|refine d27 ?_|fail)
  refine WC.ret ?_
  have he:X.sm n (dtx a b n)=X.sm n fun i=>a i*b i:=X.sm_congr fun i hi=>by unfold dtx;rw[if_pos hi]
  rw[←he]
  exact Fin.p [] [isQ (qv m5) (X.sm n (dtx a b n))] (ResE.cV rfl rfl meA T.r31 rfl) meA (List.nil_sublist _) haA ⟨m5,rfl,rfl,rfl⟩
end Z
end Go.Proofs.YtaongbhamadlkaaGreat
namespace Go.Proofs.YtaongbhamadlkaaGreat
open W Go.RowKit
def most (p:X.Lp) (op:Bool) (r:Nat):Rat:=if op=true then 0 else p.b r
def holdP (p:X.Lp) (xn:Nat) (x:Nat→Rat) (op:Bool):Bool:=decide (xn=p.v) && !(X.fstT (fun r=>decide (most p op r < X.sm p.v fun k=>p.a r k*x k)) p.m 0).isSome
def Dok (n K:Nat):Prop:=n*(2*K+1)+1+2*K≤400000000
theorem dot_sm {n K:Nat} {a b:Nat→Rat} (hd:Dok n K) (ha:∀ i,i < n→Sq K (a i)) (hb:∀ i,i < n→Sq K (b i)):Sm (X.sm n fun i=>a i*b i):=by
 unfold Dok at hd
 exact(X.sq_sm (m:=n) (f:=fun i=>a i*b i) (k:=2*K) fun i hi=>(Sq.mul (ha i hi) (hb i hi)).up (by omega)).sm (by omega)
theorem Dok.k {n K:Nat} (h:Dok n K):K≤400000000:=by unfold Dok at h;omega
theorem cmp_gt {a b:Rat}:0 < cmpQ a b↔b < a:=by
 have h1:=@cmpQ_lt a b
 have h2:=@cmpQ_eq a b
 constructor
 ·intro h
  rcases(Rat.le_total:a≤b∨b≤a) with h3|h3
  ·by_cases e:a=b
   ·rw[h2.2 e] at h;omega
   ·have:a < b:=by grind
    have:=h1.2 this;omega
  ·by_cases e:a=b
   ·rw[h2.2 e] at h;omega
   ·grind
 ·intro h
  by_cases c:cmpQ a b < 0
  ·have:=h1.1 c;grind
  ·by_cases c2:cmpQ a b=0
   ·have:=h2.1 c2;grind
   ·omega
namespace Z
attribute [local irreducible] WC WL WD YO LO LoopEnd W.Fin Scalar SliceT FieldAt Row ArrT AllocT KnS Has W.One SrcE IntT
theorem d180Ck {G G':Prop} (h:G') (s:Bx G'→G:=by
 intro h
 first|(apply WC.draw (id:=4) [0,1,2,4,6,7] (.held 0 (.held 1 (.held 2 (.held 4 (.loud 3 (.loud 5 (.held 6 (.held 7 (.done))))))))) mixed (by kernel_rfl))|fail
 exact Bx.h h):G:=s ⟨h⟩
set_option maxHeartbeats 4000000 in
set_option maxRecDepth 60000 in
theorem holds1_c (M:Pm) (p:X.Lp) (K g5 g4 r:Nat) (op:Bool) (xv:Value) (mx:Nat→QM) (x:Nat→Rat) (hr:r < p.m) (hd:Dok p.v K) (hv:p.v≤1000) (ha:∀ r,r < p.m→∀ k,k < p.v→Sq K (p.a r k)) (hb:∀ r,r < p.m→Sq K (p.b r)) (hx:∀ k,k < p.v→Sq K (x k)) (hK:0 < K) :
  FnB Tryz.prog 180 [lnv M r,ptr g5,ptr g4] [] [fP M p,ce g5 4 [.bool op],ce g4 24 [xv],fF xv p.v mx x] (IsV (.bool (decide (most p op r < X.sm p.v fun k=>p.a r k*x k)))):=by
 refine fn_of [(0,(lnv M r)),(1,(ptr g5)),(2,(ptr g4))] 17 Tryz.func180 rfl Tryz.ntmps180 (by kernel_rfl) rfl suA fun h0=>?_
 refine WC.fact (fF (M.av r) p.v (M.ma r) (p.a r)) (W.Has.pa (M:=M) (m:=p.m) (gn:=p.v) (ln:=fun _=>p.v) (a:=p.a) (b:=p.b) (g:=p.g) hmA hr) ?_
 refine WC.fact (isQ (qv (M.mb r)) (p.b r)) (W.Has.pbq (M:=M) (m:=p.m) (gn:=p.v) (ln:=fun _=>p.v) (a:=p.a) (b:=p.b) (g:=p.g) hmA hr) ?_
 have hsm:=dot_sm (a:=p.a r) (b:=x) hd (ha r hr) hx
 have hgt:=@cmp_gt (X.sm p.v fun k=>p.a r k*x k) (most p op r)
 have hmo:Sm (most p op r):=by
  unfold most
  split
  ·exact(Sq.zero.up hK).sm hd.k
  ·exact(hb r hr).sm hd.k
 cases op with
 |true=>
  have e:most p true r=0:=rfl
  rw[e] at hgt hmo ⊢
  refine WC.fact (isQ (qv m00) 0) hasQ0 ?_
  repeat'(first|refine gB ?_|(refine gH ?_;intro g)|(refine gW ?_;intro v)|refine d180Ck ?_|fail)
  refine WD.callK (dot_c (M.av r) xv p.v K (M.ma r) mx (p.a r) x (by omega) hd (ha r hr) hx) ?_
  rintro _ _ _ ⟨m1,rfl,rfl,rfl⟩
  simp only[List.nil_append,List.cons_append]
  repeat'(first|refine gB ?_|(refine gH ?_;intro g)|(refine gW ?_;intro v)|refine d180Ck ?_|fail)
  refine WD.callK (Zn.cmp m1 m00 _ 0 hsm hmo) ?_
  rintro _ _ _ ⟨rfl,rfl,rfl⟩
  simp only[List.nil_append,List.cons_append]
  by_cases c:0 < X.sm p.v fun k=>p.a r k*x k
  ·have c':=hgt.2 c
   repeat'(first|refine gB ?_|(refine gH ?_;intro g)|(refine gW ?_;intro v)|refine d180Ck ?_|fail)
   refine WC.ret ?_
   exact Fin.v (ResE.t1 rfl rfl) meA (by rw[decide_eq_true c])
  ·have c':cmpQ (X.sm p.v fun k=>p.a r k*x k) 0≤0:=Int.not_lt.1 fun h=>c (hgt.1 h)
   repeat'(first|refine gB ?_|(refine gH ?_;intro g)|(refine gW ?_;intro v)|refine d180Ck ?_|fail)
   refine WC.ret ?_
   exact Fin.v (ResE.t1 rfl rfl) meA (by rw[decide_eq_false c])
 |false=>
  have e:most p false r=p.b r:=rfl
  rw[e] at hgt hmo ⊢
  repeat'(first|refine gB ?_|(refine gH ?_;intro g)|(refine gW ?_;intro v)|refine d180Ck ?_|fail)
  refine WD.callK (dot_c (M.av r) xv p.v K (M.ma r) mx (p.a r) x (by omega) hd (ha r hr) hx) ?_
  rintro _ _ _ ⟨m1,rfl,rfl,rfl⟩
  simp only[List.nil_append,List.cons_append]
  repeat'(first|refine gB ?_|(refine gH ?_;intro g)|(refine gW ?_;intro v)|refine d180Ck ?_|fail)
  refine WD.callK (Zn.cmp m1 (M.mb r) _ (p.b r) hsm hmo) ?_
  rintro _ _ _ ⟨rfl,rfl,rfl⟩
  simp only[List.nil_append,List.cons_append]
  by_cases c:p.b r < X.sm p.v fun k=>p.a r k*x k
  ·have c':=hgt.2 c
   repeat'(first|refine gB ?_|(refine gH ?_;intro g)|(refine gW ?_;intro v)|refine d180Ck ?_|fail)
   refine WC.ret ?_
   exact Fin.v (ResE.t1 rfl rfl) meA (by rw[decide_eq_true c])
  ·have c':cmpQ (X.sm p.v fun k=>p.a r k*x k) (p.b r)≤0:=Int.not_lt.1 fun h=>c (hgt.1 h)
   repeat'(first|refine gB ?_|(refine gH ?_;intro g)|(refine gW ?_;intro v)|refine d180Ck ?_|fail)
   refine WC.ret ?_
   exact Fin.v (ResE.t1 rfl rfl) meA (by rw[decide_eq_false c])
set_option maxHeartbeats 4000000 in
set_option maxRecDepth 60000 in
theorem holds_c (M:Pm) (p:X.Lp) (K xn:Nat) (op:Bool) (xv:Value) (mx:Nat→QM) (x:Nat→Rat) (hd:Dok p.v K) (hv:p.v≤1000) (ha:∀ r,r < p.m→∀ k,k < p.v→Sq K (p.a r k)) (hb:∀ r,r < p.m→Sq K (p.b r)) (hx:∀ k,k < xn→Sq K (x k)) (hK:0 < K) :
  FnB Tryz.prog 130 [pgv M p.v,xv,.bool op] [] [fP M p,fF xv xn mx x] (IsV (.bool (holdP p xn x op))):=by
 refine fn_of [(0,(pgv M p.v)),(1,xv),(2,(.bool op))] 19 Tryz.func130 rfl Tryz.ntmps130 (by kernel_rfl) rfl suA fun h0=>?_
 by_cases c:xn=p.v
 ·subst c
  repeat'(first|refine gA ?_|(refine goG ?_;intro g)|(refine goV ?_;intro v))
  rename_i g3 g4
  revert g;intro g5
  refine WL.callV (containsL_c M p.m p.v (fun _=>p.v) p.a p.b p.g 180 [] [ptr g5,ptr g4] [ce g5 4 [.bool op],ce g4 24 [xv],fF xv p.v mx x] (fun r=>decide (most p op r < X.sm p.v fun k=>p.a r k*x k)) (fun r hr=>holds1_c M p K g5 g4 r op xv mx x hr hd hv ha hb hx hK)) ?_ (hF:=.cons (.f hmA) (.cons (.c meA) (.cons (.c meA) (.cons (.f hmA) .nil))))
  have hh:holdP p p.v x op= !(X.fstT (fun r=>decide (most p op r < X.sm p.v fun k=>p.a r k*x k)) p.m 0).isSome:=by unfold holdP;rw[decide_eq_true rfl];rfl
  cases hx:(X.fstT (fun r=>decide (most p op r < X.sm p.v fun k=>p.a r k*x k)) p.m 0).isSome with
  |true=>
   repeat'(first|refine gA ?_|(refine goG ?_;intro g)|(refine goV ?_;intro v))
   refine WC.ret ?_
   exact Fin.v (ResE.t1 rfl rfl) meA (by rw[hh,hx];rfl)
  |false=>
   repeat'(first|refine gA ?_|(refine goG ?_;intro g)|(refine goV ?_;intro v))
   refine WC.ret ?_
   exact Fin.v (ResE.t1 rfl rfl) meA (by rw[hh,hx];rfl)
 ·repeat'(first|refine gA ?_|(refine goG ?_;intro g)|(refine goV ?_;intro v))
  refine WC.ret ?_
  exact Fin.v (ResE.t1 rfl rfl) meA (by unfold holdP;rw[decide_eq_false c];rfl)
end Z
end Go.Proofs.YtaongbhamadlkaaGreat
namespace Go.Proofs.YtaongbhamadlkaaGreat
open W Go.RowKit
theorem qcell_sh (ms:Nat→QM) (lo j:Nat):qcell ms (lo*4+j)=qcell (fun i=>ms (lo+i)) j:=by
 unfold qcell
 rw[show(lo*4+j) / 4=lo+j / 4 by omega,show(lo*4+j) % 4=j % 4 by omega]
theorem W.Has.subF {F:List Fct} {v:Value} {n lo hi:Nat} {ms:Nat→QM} {q:Nat→Rat} (h:Has F (fF v n ms q)) (h1:lo≤hi) (h2:hi≤n):Has F (fF (resl v lo hi 4) (hi - lo) (fun i=>ms (lo+i)) (fun i=>q (lo+i))):=fun p hf=>by
 have h3:=Has.sub h.fs h1 h2 p hf
 refine⟨?_,fun i hi'=>h.fm p hf (lo+i) (by omega)⟩
 have:(fun j=>qcell ms (lo*4+j))=qcell (fun i=>ms (lo+i)):=funext fun j=>qcell_sh ms lo j
 rwa [this] at h3
theorem W.Has.subM {F:List Fct} {v:Value} {n lo m:Nat} {ms:Nat→QM} {q:Nat→Rat} (h:Has F (fF v n ms q)) (h2:lo+m≤n):Has F (fF (resl v lo (lo+m) 4) m (fun i=>ms (lo+i)) (fun i=>q (lo+i))):=by
 have:=W.Has.subF h (lo:=lo) (hi:=lo+m) (by omega) h2
 rwa [Nat.add_sub_cancel_left] at this
def nowV (m n:Nat) (s:X.St) (k:Nat):Rat:=match X.fstT (fun i=>decide (s.b i=k)) m 0 with
 |none=>0
 |some i=>s.t i n
def rayV (m:Nat) (s:X.St) (col k:Nat):Rat:=if k=col then 1 else match X.fstT (fun i=>decide (s.b i=k)) m 0 with
 |none=>0
 |some i=>-s.t i col
theorem fstT_lt {p:Nat→Bool} {m i:Nat} (h:X.fstT p m 0=some i):i < m:=by
 rcases X.fstT_spec p m 0 with ⟨h1,_⟩|⟨j,h1,_,h3,_⟩
 ·rw[h] at h1;cases h1
 ·rw[h] at h1;cases h1;omega
namespace Z
attribute [local irreducible] WC WL WD YO LO LoopEnd W.Fin Scalar SliceT FieldAt Row ArrT AllocT KnS Has W.One SrcE IntT
theorem d50 {G G':Prop} (h:G') (s:Bx G'→G:=by
 intro h
 first|(apply WC.draw (id:=1) [0,1,2,3,4,5,6,7,8,9,10,11,12,13,14,15,16,17,18,19,21] (.held 0 (.held 1 (.held 2 (.held 3 (.held 4 (.held 5 (.held 6 (.held 7 (.held 8 (.held 9 (.held 10 (.held 11 (.held 12 (.held 13 (.held 14 (.held 15 (.held 16 (.held 17 (.held 18 (.held 19 (.loud 20 (.held 21 (.done))))))))))))))))))))))) mixed (by kernel_rfl))|fail
 exact Bx.h h):G:=s ⟨h⟩
theorem d56 {G G':Prop} (h:G') (s:Bx G'→G:=by
 intro h
 first|(apply WC.draw (id:=3) [0,1,2,3,4,5,6,7,8,9,10,11,12] (.held 0 (.held 1 (.held 2 (.held 3 (.held 4 (.held 5 (.held 6 (.held 7 (.held 8 (.held 9 (.held 10 (.held 11 (.held 12 (.loud 13 (.done))))))))))))))) mixed (by kernel_rfl))|fail
 exact Bx.h h):G:=s ⟨h⟩
set_option maxHeartbeats 4000000 in
set_option maxRecDepth 60000 in
theorem slacks_c (xg vars m n:Nat) (tv cv bv:Value) (mc:Nat→QM) (c:Nat→Rat) (hv:vars≤1000) (hm:m≤1000) (hn:2*vars+m≤n+1) :
  FnB Tryz.prog 50 [ptr xg] [] [ce xg 88 [.int .i64 (vars:Int),.int .i64 (m:Int),.int .i64 (n:Int),tv,cv,bv],fF cv (n+1) mc c] (IsF m (fun r=>c (2*vars+r))):=by
 refine fn_of [(0,(ptr xg))] 24 Tryz.func50 rfl Tryz.ntmps50 (by kernel_rfl) rfl suA fun h0=>?_
 repeat'(first|refine gB ?_|(refine gH ?_;intro g)|(refine gW ?_;intro v)|refine d50 ?_|fail)
 rw[show(2:Int)*(vars:Int)+(m:Int)=((2*vars+m:Nat):Int) by simp,show(2:Int)*(vars:Int)=((2*vars:Nat):Int) by simp]
 repeat'(first|refine gB ?_|(refine gH ?_;intro g)|(refine gW ?_;intro v)|refine d50 ?_|fail)
 refine WD.fact (fF (resl cv (2*vars) (2*vars+m) 4) m (fun i=>mc (2*vars+i)) (fun i=>c (2*vars+i))) (W.Has.subM (v:=cv) (ms:=mc) (q:=c) hmA hn) ?_
 first|refine WD.callK (clone_c (resl cv (2*vars) (2*vars+m) 4) m (fun i=>mc (2*vars+i)) (fun i=>c (2*vars+i)) (by omega)) ?_|skip
 rintro v1 _ _ ⟨ms1,rfl,rfl⟩
 simp only[List.nil_append,List.cons_append]
 repeat'(first|refine gB ?_|(refine gH ?_;intro g)|(refine gW ?_;intro v)|refine d50 ?_|fail)
 refine WC.ret ?_
 exact Fin.p [] [fF v1 m ms1 (fun i=>c (2*vars+i))] (ResE.t1 rfl rfl) meA (List.nil_sublist _) haA ⟨ms1,rfl,rfl⟩
set_option maxHeartbeats 4000000 in
set_option maxRecDepth 60000 in
theorem now_c (xg vars m n k:Nat) (tv cv bv:Value) (rv:Nat→Value) (ms:Nat→Nat→QM) (s:X.St) :
  FnB Tryz.prog 56 [ptr xg,.int .i64 (k:Int)] [] (TF xg vars m n tv cv bv rv ms s) (IsR (nowV m n s k)):=by
 refine fn_of [(0,(ptr xg)),(1,(.int .i64 (k:Int)))] 28 Tryz.func56 rfl Tryz.ntmps56 (by kernel_rfl) rfl suA fun h0=>?_
 repeat'(first|refine gB ?_|(refine gH ?_;intro g)|(refine gW ?_;intro v)|refine d56 ?_|fail)
 first|refine WL.callV (index_c bv m k s.b) ?_|refine WD.callV (index_c bv m k s.b) ?_
 cases hf:X.fstT (fun i=>decide (s.b i=k)) m 0 with
 |none=>
  have e:nowV m n s k=0:=by unfold nowV;rw[hf]
  rw[e]
  rw[show optI none= -1 from rfl]
  repeat'(first|refine gB ?_|(refine gH ?_;intro g)|(refine gW ?_;intro v)|refine d56 ?_|fail)
  refine WC.ret ?_
  exact Fin.p [] [isQ (qv m00) 0] (ResE.cV rfl rfl meA T.r31 rfl) meA (List.nil_sublist _) (.cons hasQ0 .nil) ⟨m00,rfl,rfl,rfl⟩
 |some i=>
  have hi:=fstT_lt hf
  have e:nowV m n s k=s.t i n:=by unfold nowV;rw[hf]
  rw[e]
  rw[show optI (some i)=(i:Int) from rfl]
  refine WL.fact' (isQ (qv (ms i n)) (s.t i n)) (W.Has.qt (W.Has.rt (rv:=rv) hmA) hi (by omega)) ?_
  repeat'(first|refine gB ?_|(refine gH ?_;intro g)|(refine gW ?_;intro v)|refine d56 ?_|fail)
  refine WC.ret ?_
  exact Fin.p [] [isQ (qv (ms i n)) (s.t i n)] (ResE.cV rfl rfl meA T.r31 rfl) meA (List.nil_sublist _) haA ⟨ms i n,rfl,rfl,rfl⟩
set_option maxHeartbeats 4000000 in
set_option maxRecDepth 60000 in
theorem ray_c (xg vars m n k col:Nat) (tv cv bv:Value) (rv:Nat→Value) (ms:Nat→Nat→QM) (s:X.St) (hcol:col < n) :
  FnB Tryz.prog 55 [ptr xg,.int .i64 (k:Int),.int .i64 (col:Int)] [] (TF xg vars m n tv cv bv rv ms s) (IsR (rayV m s col k)):=by
 refine fn_of [(0,(ptr xg)),(1,(.int .i64 (k:Int))),(2,(.int .i64 (col:Int)))] 32 Tryz.func55 rfl Tryz.ntmps55 (by kernel_rfl) rfl suA fun h0=>?_
 by_cases ck:k=col
 ·have e:rayV m s col k=1:=by unfold rayV;rw[if_pos ck]
  rw[e]
  repeat'(first|refine gA ?_|(refine goG ?_;intro g)|(refine goV ?_;intro v))
  first|refine WL.callK (Zn.of 1 1 (by decide) (by decide)) ?_|refine WD.callK (Zn.of 1 1 (by decide) (by decide)) ?_|refine LO.callM (Zn.of 1 1 (by decide) (by decide)) ?_
  rintro _ _ _ ⟨m1,rfl,rfl,rfl⟩
  simp only[List.nil_append,List.cons_append]
  rw[show Rat.divInt 1 1=1 by decide +kernel]
  repeat'(first|refine gA ?_|(refine goG ?_;intro g)|(refine goV ?_;intro v))
  refine WC.ret ?_
  exact Fin.p [] [isQ (qv m1) 1] (ResE.cV rfl rfl meA T.r31 rfl) meA (List.nil_sublist _) haA ⟨m1,rfl,rfl,rfl⟩
 repeat'(first|refine gA ?_|(refine goG ?_;intro g)|(refine goV ?_;intro v))
 first|refine WL.callV (index_c bv m k s.b) ?_|refine WD.callV (index_c bv m k s.b) ?_
 cases hf:X.fstT (fun i=>decide (s.b i=k)) m 0 with
 |none=>
  have e:rayV m s col k=0:=by unfold rayV;rw[if_neg ck,hf]
  rw[e]
  rw[show optI none= -1 from rfl]
  repeat'(first|refine gA ?_|(refine goG ?_;intro g)|(refine goV ?_;intro v))
  refine WC.ret ?_
  exact Fin.p [] [isQ (qv m00) 0] (ResE.cV rfl rfl meA T.r31 rfl) meA (List.nil_sublist _) (.cons hasQ0 .nil) ⟨m00,rfl,rfl,rfl⟩
 |some i=>
  have hi:=fstT_lt hf
  have e:rayV m s col k= -s.t i col:=by unfold rayV;rw[if_neg ck,hf]
  rw[e]
  rw[show optI (some i)=(i:Int) from rfl]
  refine WL.fact' (isQ (qv (ms i col)) (s.t i col)) (W.Has.qt (W.Has.rt (rv:=rv) hmA) hi (by omega)) ?_
  repeat'(first|refine gA ?_|(refine goG ?_;intro g)|(refine goV ?_;intro v))
  first|refine WL.callK (Zn.neg (ms i col) (s.t i col)) ?_|refine WD.callK (Zn.neg (ms i col) (s.t i col)) ?_|refine LO.callM (Zn.neg (ms i col) (s.t i col)) ?_
  rintro _ _ _ ⟨m1,rfl,rfl,rfl⟩
  simp only[List.nil_append,List.cons_append]
  repeat'(first|refine gA ?_|(refine goG ?_;intro g)|(refine goV ?_;intro v))
  refine WC.ret ?_
  exact Fin.p [] [isQ (qv m1) (-s.t i col)] (ResE.cV rfl rfl meA T.r31 rfl) meA (List.nil_sublist _) haA ⟨m1,rfl,rfl,rfl⟩
end Z
end Go.Proofs.YtaongbhamadlkaaGreat
namespace Go.Proofs.YtaongbhamadlkaaGreat
namespace X
structure Szs (p:Lp) (K0 K L:Nat):Prop where
 pos:0 < K0
 a:∀ r,r < p.m→∀ k,k < p.v→Sq K0 (p.a r k)
 b:∀ r,r < p.m→Sq K0 (p.b r)
 g:∀ k,k < p.v→Sq K0 (p.g k)
 k:2*(p.m*(50*K0+2)+1)+K0≤K
 v:p.v≤48
 m:p.m≤128
 l:p.m*(K0+K+1)+1+K0+1≤L
 t:L≤20000000
 kl:K≤L
 d:p.v*(2*(2*K+1)+1)+1+2*(2*K+1)≤400000000
theorem sq_one:Sq 1 1:=by
 constructor
 ·show(digs 1).length≤1;rw[digs_1 (by decide) (by decide)];decide
 ·show(digs 1).length≤1;rw[digs_1 (by decide) (by decide)];decide
section
variable {p:Lp} {K0 K L:Nat}
theorem sg_sz {r:Nat} {x:Rat} (h:Sq K0 x):Sq K0 (p.sg r*x):=by
 unfold Lp.sg
 split
 ·rw[show(-1:Rat)*x= -x by grind];exact h.neg
 ·rw[show(1:Rat)*x=x by grind];exact h
theorem Szs.A (h:Szs p K0 K L) {i:Nat} (hi:i < p.m) (j:Nat):Sq K0 (p.A i j):=by
 have h0:Sq K0 0:=Sq.zero.up h.pos
 have h1:Sq K0 1:=sq_one.up h.pos
 unfold Lp.A
 split
 ·exact sg_sz (h.a i hi j (by assumption))
 ·split
  ·exact(sg_sz (h.a i hi (j - p.v) (by omega))).neg
  ·split
   ·split
    ·unfold Lp.sg
     split
     ·rw[show(-1:Rat)= -(1:Rat) by grind];exact h1.neg
     ·exact h1
    ·exact h0
   ·split
    ·split
     ·exact h1
     ·exact h0
    ·exact sg_sz (h.b i hi)
def Lp.dl (p:Lp) (r:Nat):Nat:=dp (fun k=>if k < p.v then p.a r k else p.b r) (p.v+1)
theorem sg_int {r:Nat} {x y:Rat} {B:Nat} (h:∃ z:Int,y*x=z∧z.natAbs≤B):∃ z:Int,y*(p.sg r*x)=z∧z.natAbs≤B:=by
 obtain⟨z,h1,h2⟩:=h
 unfold Lp.sg;split
 ·exact⟨-z,by rw[Rat.intCast_neg,←h1];grind,by rw[Int.natAbs_neg];exact h2⟩
 ·exact⟨z,by rw[←h1];grind,h2⟩
theorem lt_pow {k x:Nat} (h:(digs x).length≤k):x≤1000000000 ^ k:=Nat.le_of_lt (Nat.lt_of_lt_of_le digs_lt (Nat.pow_le_pow_right (by decide) h))
theorem Szs.dA (h:Szs p K0 K L) {r:Nat} (hr:r < p.m) (j:Nat):∃ z:Int,(p.dl r:Rat)*p.A r j=z∧z.natAbs≤(1000000000 ^ K0) ^ (p.v+2):=by
 have hq:∀ k,k < p.v+1→Sq K0 (if k < p.v then p.a r k else p.b r):=fun k _=>by
  split
  ·exact h.a r hr k (by assumption)
  ·exact h.b r hr
 have hd:p.dl r≤(1000000000 ^ K0) ^ (p.v+1):=dp_le fun k hk=>lt_pow (hq k hk).2
 have hW:1≤1000000000 ^ K0:=Nat.pow_pos (by decide)
 have hb:p.dl r≤(1000000000 ^ K0) ^ (p.v+2):=Nat.le_trans hd (Nat.pow_le_pow_right hW (by omega))
 have hx:∀ k,k < p.v+1→∃ z:Int,(p.dl r:Rat)*(if k < p.v then p.a r k else p.b r)=z∧z.natAbs≤(1000000000 ^ K0) ^ (p.v+2):=fun k hk=>by
  obtain⟨z,h1,h2⟩:=dp_int (f:=fun k=>if k < p.v then p.a r k else p.b r) hk
  refine⟨z,h1,Nat.le_trans h2 ?_⟩
  rw[show p.v+2=(p.v+1)+1 from rfl,Nat.pow_succ]
  exact Nat.mul_le_mul hd (lt_pow (hq k hk).1)
 have ha:∀ k,k < p.v→∃ z:Int,(p.dl r:Rat)*p.a r k=z∧z.natAbs≤(1000000000 ^ K0) ^ (p.v+2):=fun k hk=>by
  have:=hx k (by omega);rwa [if_pos hk] at this
 have h1:∃ z:Int,(p.dl r:Rat)*(1:Rat)=z∧z.natAbs≤(1000000000 ^ K0) ^ (p.v+2):=⟨(p.dl r:Int),by rw[Rat.mul_one];rfl,hb⟩
 have h0:∃ z:Int,(p.dl r:Rat)*(0:Rat)=z∧z.natAbs≤(1000000000 ^ K0) ^ (p.v+2):=⟨0,by rw[Rat.mul_zero];rfl,Nat.zero_le _⟩
 unfold Lp.A
 split
 ·exact sg_int (ha j (by assumption))
 ·split
  ·obtain⟨z,h3,h4⟩:=sg_int (p:=p) (r:=r) (ha (j - p.v) (by omega))
   exact⟨-z,by rw[Rat.intCast_neg,←h3];grind,by rw[Int.natAbs_neg];exact h4⟩
  ·split
   ·split
    ·obtain⟨z,h3,h4⟩:=sg_int (p:=p) (r:=r) h1
     exact⟨z,by rw[←h3];grind,h4⟩
    ·exact h0
   ·split
    ·split
     ·exact h1
     ·exact h0
    ·have:=hx p.v (by omega);rw[if_neg (by omega)] at this
     exact sg_int this
theorem Szs.T (h:Szs p K0 K L) {c1:Nat→Rat} {s:St} (hi:Inv p.m p.n p.A c1 s) {i:Nat} (him:i < p.m) {j:Nat} (hj:j < p.n+1):Sq K (s.t i j):=by
 obtain⟨a,b,_,h2,h3,h4⟩:=hi.ratio inv0 (f:=fun r=>(p.dl r:Rat)) (fun r hr i hi=>A_art hi) (fun r hr hx=>by
  have:=dp_pos (f:=fun k=>if k < p.v then p.a r k else p.b r) (p.v+1)
  have h5:p.dl r=0:=by exact_mod_cast hx
  unfold Lp.dl at h5;omega) (fun r hr j _=>h.dA hr j) him (j:=j) (by omega)
 have hl:(digs ((1000000000 ^ K0) ^ (p.v+2))).length≤50*K0+1:=by
  refine Nat.le_trans (digs_len_le (k:=K0*(p.v+2)+1) ?_) ?_
  ·rw[←Nat.pow_mul];exact Nat.pow_lt_pow_right (by decide) (by omega)
  ·have:=Nat.mul_le_mul_left K0 (show p.v+2≤50 by have:=h.v;omega)
   omega
 have hb:=bdt_len hl (m:=p.m) (by have:=h.m;omega)
 have hk:=h.k
 rw[h2]
 refine(Sq.div (k:=p.m*(50*K0+2)+1) (l:=p.m*(50*K0+2)+1) (by omega) (Sq.int (Nat.le_trans (digs_mono h3) hb) (by omega)) (Sq.int (Nat.le_trans (digs_mono h4) hb) (by omega))).up (by omega)
theorem Szs.c1 (h:Szs p K0 K L) (j:Nat):Sq K0 (p.c1 j):=by
 unfold Lp.c1;split
 ·exact sq_one.up h.pos
 ·exact Sq.zero.up h.pos
theorem Szs.c2 (h:Szs p K0 K L) (j:Nat):Sq K0 (p.c2 j):=by
 unfold Lp.c2;split
 ·exact(h.g j (by assumption)).neg
 ·split
  ·exact h.g _ (by omega)
  ·exact Sq.zero.up h.pos
theorem Szs.sum (h:Szs p K0 K L) {c1:Nat→Rat} (hc:∀ j,Sq K0 (c1 j)) {s:St} (hs:∀ i,i < p.m→∀ j,j < p.n+1→Sq K (s.t i j)) {x:Rat} (hx:Sq K0 x) {i:Nat} (hi:i≤p.m) {j:Nat} (hj:j < p.n+1):Sq L (x - sm i fun r=>c1 (s.b r)*s.t r j):=by
 have h1:=sq_sm (m:=i) (f:=fun r=>c1 (s.b r)*s.t r j) (k:=K0+K) fun r hr=>(hc _).mul (hs r (by omega) j hj)
 refine(hx.sub h1).up ?_
 have:=Nat.mul_le_mul_right (K0+K+1) hi
 have:=h.l
 omega
theorem Szs.C (h:Szs p K0 K L) {c1:Nat→Rat} (hc:∀ j,Sq K0 (c1 j)) {s:St} (hi:Inv p.m p.n p.A c1 s) {j:Nat} (hj:j < p.n+1):Sq L (s.c j):=by
 rw[hi.cost (by omega)]
 exact h.sum hc (fun i him j hj=>h.T hi him hj) (hc j) (Nat.le_refl _) hj
theorem prS_eq {n m:Nat} {c1:Nat→Rat} {s:St} (hb:∀ i,i < m→s.b i < n) (hu:∀ i,i < m→∀ k,k < m→s.t i (s.b k)=if i=k then 1 else 0):∀ i,i≤m→∀ j,prS n c1 s i j=cs0 n c1 j - sm i fun r=>c1 (s.b r)*s.t r j:=by
 intro i
 induction i with
 |zero=>intro _ j;show cs0 n c1 j=cs0 n c1 j - 0;grind
 |succ i ih=>
  intro hi j
  have e:prS n c1 s i (s.b i)=c1 (s.b i):=by
   rw[ih (by omega),sm_zero fun r hr=>by rw[hu r (by omega) i (by omega),if_neg (by omega)];grind]
   unfold cs0;rw[if_pos (hb i (by omega))];grind
  show prS n c1 s i j - prS n c1 s i (s.b i)*s.t i j=_
  rw[e,ih (by omega)]
  show _=cs0 n c1 j - (sm i (fun r=>c1 (s.b r)*s.t r j)+c1 (s.b i)*s.t i j)
  grind
theorem prS_prc {n m:Nat} {c1:Nat→Rat} {s:St} (hb:∀ i,i < m→s.b i < n) (hu:∀ i,i < m→∀ k,k < m→s.t i (s.b k)=if i=k then 1 else 0) (hn:c1 n=0) {j:Nat} (hj:j < n+1):prS n c1 s m j=(prc m c1 s).c j:=by
 rw[prS_eq hb hu m (Nat.le_refl _)]
 show cs0 n c1 j - _=c1 j - _
 congr 1
 unfold cs0
 split
 ·rfl
 ·rw[show j=n by omega,hn]
theorem Szs.P (h:Szs p K0 K L) {c1 c0:Nat→Rat} (hc:∀ j,Sq K0 (c1 j)) {s:St} (hi:Inv p.m p.n p.A c0 s) {i:Nat} (him:i≤p.m) {j:Nat} (hj:j < p.n+1):Sq L (prS p.n c1 s i j):=by
 rw[prS_eq hi.bd hi.u i him]
 refine h.sum hc (fun i him j hj=>h.T hi him hj) ?_ him hj
 unfold cs0;split
 ·exact hc j
 ·exact Sq.zero.up h.pos
theorem nowV_wt {m n:Nat} {A:Nat→Nat→Rat} {c0:Nat→Rat} {s:St} (h:Inv m n A c0 s) (k:Nat):nowV m n s k=wt m s (fun i=>s.t i n) k:=by
 unfold nowV wt
 rcases fstT_spec (fun i=>decide (s.b i=k)) m 0 with ⟨h1,h2⟩|⟨i,h1,_,h3,h4,_⟩
 ·rw[h1]
  exact(sm_zero fun i hi=>if_neg (of_decide_eq_false (h2 i (by omega) (by omega)))).symm
 ·rw[h1]
  have hb:=of_decide_eq_true h4
  rw[sm_one (r:=i) (by omega) fun j hj hne=>if_neg fun hx=>hne (h.inj hj (by omega) (by rw[hx,hb])),if_pos hb]
theorem nowV_sz {m n K:Nat} {s:St} (hK:0 < K) (hs:∀ i,i < m→Sq K (s.t i n)) (k:Nat):Sq K (nowV m n s k):=by
 unfold nowV
 cases hf:fstT (fun i=>decide (s.b i=k)) m 0 with
 |none=>exact Sq.zero.up hK
 |some i=>exact hs i (fstT_lt hf)
theorem rayV_sz {m K:Nat} {s:St} {col:Nat} (hK:0 < K) (hs:∀ i,i < m→Sq K (s.t i col)) (k:Nat):Sq K (rayV m s col k):=by
 unfold rayV
 split
 ·exact sq_one.up hK
 ·cases hf:fstT (fun i=>decide (s.b i=k)) m 0 with
  |none=>exact Sq.zero.up hK
  |some i=>exact(hs i (fstT_lt hf)).neg
theorem rayV_rv {p:Lp} {c0:Nat→Rat} {s:St} (h:Inv p.m p.n p.A c0 s) {col:Nat} (hc:s.c col < 0) (k:Nat):rayV p.m s col k=rv p s col k:=by
 unfold rayV rv
 by_cases e:k=col
 ·rw[if_pos e,if_pos e]
  subst e
  have h0:wt p.m s (fun i=>s.t i k) k=0:=sm_zero fun i hi=>if_neg fun hb=>h.non hc ⟨i,hi,hb⟩
  rw[h0];grind
 ·rw[if_neg e,if_neg e]
  unfold wt
  rcases fstT_spec (fun i=>decide (s.b i=k)) p.m 0 with ⟨h1,h2⟩|⟨i,h1,_,h3,h4,_⟩
  ·rw[h1,sm_zero fun i hi=>if_neg (of_decide_eq_false (h2 i (by omega) (by omega)))];grind
  ·rw[h1]
   have hb:=of_decide_eq_true h4
   rw[sm_one (r:=i) (by omega) fun j hj hne=>if_neg fun hx=>hne (h.inj hj (by omega) (by rw[hx,hb])),if_pos hb]
   show -s.t i col=0 - s.t i col
   grind
end
end X
end Go.Proofs.YtaongbhamadlkaaGreat
namespace Go.Proofs.YtaongbhamadlkaaGreat
open W Go.RowKit
def ptx (vars:Nat) (val:Nat→Rat) (k j:Nat):Rat:=if j < k then val j - val (vars+j) else 0
theorem ptx_up {vars:Nat} {val:Nat→Rat} {k:Nat} (i:Nat):upd (ptx vars val k) k (val k - val (vars+k)) i=ptx vars val (k+1) i:=by
 unfold ptx upd
 by_cases c:i=k
 ·subst c;simp
 ·by_cases c2:i < k
  ·simp[c,c2,show i < k+1 by omega]
  ·simp[c,c2,show ¬i < k+1 by omega]
theorem hasB_row {bx:List Ow} {F:List Fct} {m w i hi:Nat} {v:Value} {ms:Nat→Nat→QM} {t:Nat→Nat→Rat} (hb:rowO w v (ms i)∈bx) (hm:Has F (mT m w ms t)) (hi':i < m) (h:hi≤w):HasB bx F (fF (resl v 0 hi 4) hi (ms i) (t i)):=fun fr w' ho=>by
 have h1:=HasB.fF (bx:=bx) (F:=F) hb (hm.tm hi') fr w' ho
 have h2:=resl_slC h1.1 (Nat.zero_le hi) h
 refine⟨?_,fun k hk=>h1.2 k (by omega)⟩
 simpa using h2
namespace Z
attribute [local irreducible] WC WL WD YO LO LoopEnd W.Fin Scalar SliceT FieldAt Row ArrT AllocT KnS Has W.One SrcE IntT
theorem d53 {G G':Prop} (h:G') (s:Bx G'→G:=by
 intro h
 first|(apply WC.draw (id:=5) [0,1,2,3,5,6,7,8,9,10,11,14] (.held 0 (.held 1 (.held 2 (.held 3 (.held 5 (.held 6 (.held 7 (.held 8 (.held 9 (.held 10 (.held 11 (.loud 4 (.loud 12 (.loud 13 (.held 14 (.loud 15 (.done))))))))))))))))) mixed (by kernel_rfl))|fail
 exact Bx.h h):G:=s ⟨h⟩
set_option maxHeartbeats 4000000 in
set_option maxRecDepth 60000 in
theorem point_c (xg vars K:Nat) (r2 r3 tv cv bv:Value) (f:FuncId) (first cap:List Value) (Fc:List Fct) (val:Nat→Rat) (hv:vars≤1000) (hK:K≤100000000)
  (hf:∀ k:Nat,k < 2*vars→FnB Tryz.prog f (first++[.int .i64 (k:Int)]++cap) [] Fc (IsR (val k))) (hq:∀ k,k < 2*vars→Sq K (val k)) :
  FnB Tryz.prog 53 [ptr xg,.func (.func f) first.toArray cap.toArray] [] (ce xg 88 [.int .i64 (vars:Int),r2,r3,tv,cv,bv]::Fc) (IsF vars (fun k=>val k - val (vars+k))):=by
 refine fn_of [(0,(ptr xg)),(1,(.func (.func f) first.toArray cap.toArray))] 34 Tryz.func53 rfl Tryz.ntmps53 (by kernel_rfl) rfl suA fun h0=>?_
 repeat'(first|refine gB ?_|(refine gH ?_;intro g)|(refine gW ?_;intro v)|refine d53 ?_|fail)
 revert v;intro ov
 refine WC.lp (σ:=Nat×(Nat→QM)) (fun st=>[(14,.int .i64 (st.1:Int)),(13,.int .i64 (vars:Int)),(5,ov),(0,ptr xg),(1,.func (.func f) first.toArray cap.toArray)]) (fun st=>[Ow.slice ov 31 4 (qcells vars st.2)])
  (fun st=>mF vars st.2 (ptx vars val st.1)::ge h0::ce xg 88 [.int .i64 (vars:Int),r2,r3,tv,cv,bv]::Fc) (fun st=>st.1≤vars) (fun st=>vars - st.1) (0,fun _=>m00) (Nat.zero_le _) ?_ (hG:=.cons ((W.Has.mF0 vars).mFsame fun i _=>by simp[ptx]) (.cons hmA (.cons hmA (HasAll.tail fun _ h=>by(repeat(first|exact h|apply List.mem_cons_of_mem))))))
 rintro⟨k,mx⟩ hk
 simp only at hk ⊢
 by_cases c:k < vars
 ·repeat'(first|refine gB ?_|(refine gH ?_;intro g)|(refine gW ?_;intro v)|refine d53 ?_|fail)
  refine WD.callC first cap (vs:=[.int .i64 (k:Int)]) (hf k (by omega)) ?_ (hF:=HasAll.tail fun _ h=>by(repeat(first|exact h|apply List.mem_cons_of_mem)))
  rintro _ _ _ ⟨m1,rfl,rfl,rfl⟩
  simp only[List.nil_append,List.cons_append]
  repeat'(first|refine gB ?_|(refine gH ?_;intro g)|(refine gW ?_;intro v)|refine d53 ?_|fail)
  refine WD.callC first cap (vs:=[.int .i64 ((vars+k:Nat):Int)]) (hf (vars+k) (by omega)) ?_ (hF:=HasAll.tail fun _ h=>by(repeat(first|exact h|apply List.mem_cons_of_mem)))
  rintro _ _ _ ⟨m2,rfl,rfl,rfl⟩
  simp only[List.nil_append,List.cons_append]
  repeat'(first|refine gB ?_|(refine gH ?_;intro g)|(refine gW ?_;intro v)|refine d53 ?_|fail)
  first|refine WL.callK (Zn.sub m1 m2 (val k) (val (vars+k)) ((hq k (by omega)).sm (by omega)) ((hq (vars+k) (by omega)).sm (by omega))) ?_|refine WD.callK (Zn.sub m1 m2 (val k) (val (vars+k)) ((hq k (by omega)).sm (by omega)) ((hq (vars+k) (by omega)).sm (by omega))) ?_|refine LO.callM (Zn.sub m1 m2 (val k) (val (vars+k)) ((hq k (by omega)).sm (by omega)) ((hq (vars+k) (by omega)).sm (by omega))) ?_
  rintro _ _ _ ⟨m3,rfl,rfl,rfl⟩
  simp only[List.nil_append,List.cons_append]
  refine WD.fact (mF vars (upd mx k m3) (ptx vars val (k+1))) ((W.Has.mFset (k:=k) (ms:=mx) (m:=m3) (qf:=ptx vars val k) hmA hmA).mFsame fun i _=>ptx_up i) ?_
  repeat'(first|refine gB ?_|(refine gH ?_;intro g)|(refine gW ?_;intro v)|refine d53 ?_|fail)
  exact LoopEnd.mk (k+1,_) (by show k+1≤vars;omega) (by show vars - (k+1) < vars - k;omega) (hG:=.cons hmA (.cons hmA (.cons hmA (HasAll.tail fun _ h=>by(repeat(first|exact h|apply List.mem_cons_of_mem))))))
 ·obtain rfl:vars=k:=by omega
  repeat'(first|refine gB ?_|(refine gH ?_;intro g)|(refine gW ?_;intro v)|refine d53 ?_|fail)
  refine WC.freezeF ov vars mx (fun k=>val k - val (vars+k)) (by repeat(first|exact Sel.head|apply Sel.tail)) (W.Has.mFsame (qf:=ptx vars val vars) hmA fun i hi=>by simp[ptx,hi]) ?_
  refine WC.ret ?_
  exact Fin.p [] [fF ov vars mx (fun k=>val k - val (vars+k))] (ResE.t1 rfl rfl) meA (List.nil_sublist _) haA ⟨mx,rfl,rfl⟩
set_option maxHeartbeats 4000000 in
set_option maxRecDepth 60000 in
theorem nonzero_c (m1:QM) (q:Rat) (Fc:List Fct):FnB Tryz.prog 121 [qv m1] [] (isQ (qv m1) q::Fc) (IsV (.bool (decide (q≠0)))):=by
 refine fn_of [(0,(qv m1))] 6 Tryz.func121 rfl Tryz.ntmps121 (by kernel_rfl) rfl suA fun h0=>?_
 repeat'(first|refine gA ?_|(refine goG ?_;intro g)|(refine goV ?_;intro v))
 first|refine WL.callV (Zn.sign m1 q) ?_|refine WD.callV (Zn.sign m1 q) ?_
 by_cases c:q=0
 ·have h:=sgn_zero.2 c
  repeat'(first|refine gA ?_|(refine goG ?_;intro g)|(refine goV ?_;intro v))
  refine WC.ret ?_
  exact Fin.v (ResE.t1 rfl rfl) meA (by rw[decide_eq_false (fun h=>h c)])
 ·have h:¬sgn q.num=0:=fun h=>c (sgn_zero.1 h)
  repeat'(first|refine gA ?_|(refine goG ?_;intro g)|(refine goV ?_;intro v))
  refine WC.ret ?_
  exact Fin.v (ResE.t1 rfl rfl) meA (by rw[decide_eq_true c])
end Z
end Go.Proofs.YtaongbhamadlkaaGreat
namespace Go.Proofs.YtaongbhamadlkaaGreat
open W Go.RowKit
namespace Z
attribute [local irreducible] WC WL WD YO LO LoopEnd W.Fin Scalar SliceT FieldAt Row ArrT AllocT KnS Has W.One SrcE IntT
set_option maxHeartbeats 4000000 in
set_option maxRecDepth 60000 in
theorem cost1_c (g6 k:Nat) (last:Nat):FnB Tryz.prog 46 [.int .i64 (k:Int),ptr g6] [] [ce g6 3 [.int .i64 (last:Int)]] (IsR (if last≤k then 1 else 0)):=by
 refine fn_of [(0,(.int .i64 (k:Int))),(1,(ptr g6))] 9 Tryz.func46 rfl Tryz.ntmps46 (by kernel_rfl) rfl suA fun h0=>?_
 by_cases c:last≤k
 ·rw[if_pos c]
  repeat'(first|refine gA ?_|(refine goG ?_;intro g)|(refine goV ?_;intro v))
  first|refine WL.callK (Zn.of 1 1 (by decide) (by decide)) ?_|refine WD.callK (Zn.of 1 1 (by decide) (by decide)) ?_|refine LO.callM (Zn.of 1 1 (by decide) (by decide)) ?_
  rintro _ _ _ ⟨m1,rfl,rfl,rfl⟩
  simp only[List.nil_append,List.cons_append]
  rw[show Rat.divInt 1 1=1 by decide +kernel]
  repeat'(first|refine gA ?_|(refine goG ?_;intro g)|(refine goV ?_;intro v))
  refine WC.ret ?_
  exact Fin.p [] [isQ (qv m1) 1] (ResE.cV rfl rfl meA T.r31 rfl) meA (List.nil_sublist _) haA ⟨m1,rfl,rfl,rfl⟩
 ·rw[if_neg c]
  repeat'(first|refine gA ?_|(refine goG ?_;intro g)|(refine goV ?_;intro v))
  refine WC.ret ?_
  exact Fin.p [] [isQ (qv m00) 0] (ResE.cV rfl rfl meA T.r31 rfl) meA (List.nil_sublist _) (.cons hasQ0 .nil) ⟨m00,rfl,rfl,rfl⟩
set_option maxHeartbeats 4000000 in
set_option maxRecDepth 60000 in
theorem cost2_c (M:Pm) (p:X.Lp) (gp k:Nat) (hv:p.v≤1000):FnB Tryz.prog 52 [.int .i64 (k:Int),ptr gp] [] [ce gp 26 (pcs M p.v),fP M p] (IsR (p.c2 k)):=by
 refine fn_of [(0,(.int .i64 (k:Int))),(1,(ptr gp))] 30 Tryz.func52 rfl Tryz.ntmps52 (by kernel_rfl) rfl suA fun h0=>?_
 refine WC.fact (fF M.gv p.v M.mg p.g) (W.Has.pg (M:=M) (m:=p.m) (gn:=p.v) (ln:=fun _=>p.v) (a:=p.a) (b:=p.b) (g:=p.g) hmA) ?_
 unfold X.Lp.c2
 by_cases c:k < p.v
 ·rw[if_pos c]
  refine WC.fact (isQ (qv (M.mg k)) (p.g k)) (W.Has.q (W.Has.fm (v:=M.gv) hmA) c) ?_
  repeat'(first|refine gA ?_|(refine goG ?_;intro g)|(refine goV ?_;intro v))
  first|refine WL.callK (Zn.neg (m1:=M.mg k) (a:=p.g k)) ?_|refine WD.callK (Zn.neg (m1:=M.mg k) (a:=p.g k)) ?_|refine LO.callM (Zn.neg (m1:=M.mg k) (a:=p.g k)) ?_
  rintro _ _ _ ⟨m1,rfl,rfl,rfl⟩
  simp only[List.nil_append,List.cons_append]
  repeat'(first|refine gA ?_|(refine goG ?_;intro g)|(refine goV ?_;intro v))
  refine WC.ret ?_
  exact Fin.p [] [isQ (qv m1) (-(p.g k))] (ResE.cV rfl rfl meA T.r31 rfl) meA (List.nil_sublist _) haA ⟨m1,rfl,rfl,rfl⟩
 ·rw[if_neg c]
  by_cases c2:k < 2*p.v
  ·rw[if_pos c2]
   have he:((k:Int) - (p.v:Int)).toNat=k - p.v:=by omega
   refine WC.fact (isQ (qv (M.mg ((k:Int) - (p.v:Int)).toNat)) (p.g (k - p.v))) (by rw[he];exact W.Has.q (W.Has.fm (v:=M.gv) hmA) (by omega)) ?_
   repeat'(first|refine gA ?_|(refine goG ?_;intro g)|(refine goV ?_;intro v))
   refine WC.ret ?_
   exact Fin.p [] [isQ (qv (M.mg ((k:Int) - (p.v:Int)).toNat)) (p.g (k - p.v))] (ResE.cV rfl rfl meA T.r31 rfl) meA (List.nil_sublist _) haA ⟨_,rfl,rfl,rfl⟩
  ·rw[if_neg c2]
   repeat'(first|refine gA ?_|(refine goG ?_;intro g)|(refine goV ?_;intro v))
   refine WC.ret ?_
   exact Fin.p [] [isQ (qv m00) 0] (ResE.cV rfl rfl meA T.r31 rfl) meA (List.nil_sublist _) (.cons hasQ0 .nil) ⟨m00,rfl,rfl,rfl⟩
set_option maxHeartbeats 4000000 in
set_option maxRecDepth 60000 in
theorem rayf_c (g5 g7 xg vars m n k col:Nat) (tv cv bv:Value) (rv:Nat→Value) (ms:Nat→Nat→QM) (s:X.St) (hcol:col < n) :
  FnB Tryz.prog 54 [.int .i64 (k:Int),ptr g5,ptr g7] [] (ce g5 84 [ptr xg]::ce g7 3 [.int .i64 (col:Int)]::TF xg vars m n tv cv bv rv ms s) (IsR (rayV m s col k)):=by
 refine fn_of [(0,(.int .i64 (k:Int))),(1,(ptr g5)),(2,(ptr g7))] 9 Tryz.func54 rfl Tryz.ntmps54 (by kernel_rfl) rfl suA fun h0=>?_
 repeat'(first|refine gA ?_|(refine goG ?_;intro g)|(refine goV ?_;intro v))
 first|refine WL.callK (ray_c xg vars m n k col tv cv bv rv ms s hcol) ?_|refine WD.callK (ray_c xg vars m n k col tv cv bv rv ms s hcol) ?_|refine LO.callM (ray_c xg vars m n k col tv cv bv rv ms s hcol) ?_
 rintro _ _ _ ⟨m1,rfl,rfl,rfl⟩
 simp only[List.nil_append,List.cons_append]
 repeat'(first|refine gA ?_|(refine goG ?_;intro g)|(refine goV ?_;intro v))
 refine WC.ret ?_
 exact Fin.p [] [isQ (qv m1) (rayV m s col k)] (ResE.cV rfl rfl meA T.r31 rfl) meA (List.nil_sublist _) haA ⟨m1,rfl,rfl,rfl⟩
end Z
end Go.Proofs.YtaongbhamadlkaaGreat
namespace Go.Proofs.YtaongbhamadlkaaGreat
open W Go.RowKit
def Wd (F:Fence):Prop:=∃ r,F={Fence.wide with round:=r}
theorem Wd.wide:Wd Fence.wide:=⟨none,rfl⟩
theorem Wd.round (l:Nat):Wd (Fence.wide.inRound l):=⟨some l,rfl⟩
section
variable {P:Program} {F':Fence} {m:Nat}
theorem Wd.calls (hF:Wd F') {f:FuncId} {args:Array Value} {w:World} {R:Ending→World→Prop} (h:Calls P f args w R):CallsIn F' m P f args w R:=by
 obtain⟨r,rfl⟩:=hF
 have:=(callsIn_wide (n:=m)).2 h
 exact⟨trivial,fun cs hr=>this.2 cs (room_wide _)⟩
theorem Wd.rows (hF:Wd F') {row:String} {args:Array Value} {w:World} {R:Value→World→Prop} (h:Rows P row args w R):RowsIn F' m P row args w R:=by
 obtain⟨r,rfl⟩:=hF
 intro c cs _
 obtain⟨v,w',h1,h2⟩:=h c cs
 exact⟨v,w',h1,stepsIn_wide.2 h2⟩
theorem Wd.fn (hF:Wd F') (f:FuncId):F'.fn f:=by obtain⟨r,rfl⟩:=hF;trivial
theorem Wd.depth (hF:Wd F'):F'.depth.isSome=true→1≤m:=by obtain⟨r,rfl⟩:=hF;intro h;cases h
theorem Wd.sem (hF:Wd F') (ρ:Operand→Value) (o:Oper) (h:∀ c,o.op≠.defer c):o.semAt F'.round ρ=execOp ρ o:=by
 obtain⟨r,rfl⟩:=hF
 cases r with
 |none=>rfl
 |some l=>exact Oper.semAt_some l ρ o h
theorem eval_defers (a:Act) (ds:List Deferred):({a with defers:=ds}:Act).eval=a.eval:=funext fun x=>by cases x <;> rfl
def withD (ds:List Deferred) (a:Act):Act:={a with defers:=a.defers++ds}
theorem withD_put (ds:List Deferred) (a:Act) (d:Option Tmp) (v:Value):withD ds (a.put d v)=(withD ds a).put d v:=by
 cases d <;> rfl
theorem upon_in (hF:Wd F') (ds:List Deferred) {o:Oper} {a:Act} {next next2:Act→World→Prop} {Q Q2:Exit→Act→World→Prop} (hn:∀ a w,next a w→next2 (withD ds a) w) (hQ:∀ e a w,Q e a w→e≠.normal→Q2 e (withD ds a) w) (hno:∀ a w,¬Q .outgrown a w)
  {r:Result Next} (h:o.upon P a next Q r):o.uponIn F' m P (withD ds a) next2 Q2 r:=by
 unfold Oper.upon at h
 unfold Oper.uponIn
 split at h
 ·have:=hn _ _ h;rw[withD_put] at this;exact this
 ·have:=hn _ _ h;rw[withD_put] at this;exact this
 ·have:=hn _ _ h
  rw[withD_put] at this
  exact this
 ·refine⟨hF.depth,(hF.calls h).mono fun e w' he=>?_⟩
  cases e with
  |returned v=>have:=hn _ _ he;rw[withD_put] at this;exact this
  |panicked c=>exact hQ _ _ _ he (by simp)
  |outgrown=>obtain⟨a',w'',h'⟩:=he;exact absurd h' (hno _ _)
 ·refine⟨hF.depth,(hF.rows h).mono fun v w' he=>?_⟩
  have:=hn _ _ he;rw[withD_put] at this;exact this
 ·exact hQ _ _ _ h (by simp)
 ·exact h.elim
theorem withD_tmps (ds:List Deferred) (a:Act):(withD ds a).tmps=a.tmps:=rfl
theorem withD_eval (ds:List Deferred) (a:Act):(withD ds a).eval=a.eval:=funext fun x=>by cases x <;> rfl
theorem up_list (hF:Wd F') (ds:List Deferred) {ops:Array Oper} {l2:List Oper} {Q Q2:Exit→Act→World→Prop} (hN:∀ a w,Q .normal a w→wpListIn F' m P ops Q2 l2 (withD ds a) w) (hQ:∀ e a w,Q e a w→e≠.normal→Q2 e (withD ds a) w) (hno:∀ a w,¬Q .outgrown a w) :
  ∀ (l:List Oper) (a:Act) (w:World),(∀ o∈l,∀ c,o.op≠.defer c)→wpList P ops Q l a w→wpListIn F' m P ops Q2 (l++l2) (withD ds a) w
 |[],a,w,_,h=>hN _ _ h
 |o::rest,a,w,hd,h=>by
  have ih:=up_list (ops:=ops) hF ds hN hQ hno rest
  unfold wpList at h
  rw[List.cons_append]
  unfold wpListIn
  rw[withD_tmps]
  split at h
  ·rename_i hw
   rw[if_pos hw]
   rcases h with h|⟨_,a',w',h⟩
   ·refine⟨fun f _=>hF.fn f,?_⟩
    rw[hF.sem _ _ (hd o (List.mem_cons_self ..)),withD_eval]
    exact upon_in hF ds (fun a w h=>ih a w (fun o ho=>hd o (List.mem_cons_of_mem _ ho)) h) hQ hno h
   ·exact absurd h (hno _ _)
  ·rename_i hw
   rw[if_neg hw]
   refine⟨fun f _=>hF.fn f,?_⟩
   have:=ih (a.put o.dst undef) w (fun o ho=>hd o (List.mem_cons_of_mem _ ho)) h
   rw[withD_put] at this
   exact this
def PI (fr:PH) (n:Nat) (Q:List Deferred×World→Post):Exit→Act→World→Prop:=fun ex a' w'=>∃ a0 ds,a'={a0 with defers:=ds.1}∧post fr n ds.2 (Q ds) ex a0 w'
def WI (fr:PH) (F':Fence) (m:Nat) (ds:List Deferred×World) (P:Program) (n:Nat) (c:Code) (e:Env) (bx:List Ow) (F:List Fct) (Q:List Deferred×World→Post):Prop:=
 ∀ a w,Kn n a e→W.Rest ds.2 w→OK fr bx F w→c.wpIn F' m P (PI fr n Q) {a with defers:=ds.1} w
end
section
variable {fr:PH} {P:Program} {F':Fence} {m n:Nat} {ds:List Deferred×World} {c x y:Code} {e:Env} {bx:List Ow} {F:List Fct} {Q:List Deferred×World→Post} {L:List Oper} {id:Nat}
theorem withD_nil {ds:List Deferred} {n:Nat} {a:Act} {e:Env} (hk:Kn n a e):withD ds a={a with defers:=ds}:=by unfold withD;rw[hk.defers,List.nil_append]
theorem WI.region (hF:Wd F') (hd:∀ o∈L,∀ c,o.op≠.defer c) (h:WL P n L L e bx F (Q ds .normal)):WI fr F' m ds P n (.region id L.toArray false) e bx F Q:=fun a w hk hr ho=>by
 have h1:=h fr ds.2 a w (fun ex a' w'=>ex=.normal∧post fr n ds.2 (Q ds) .normal a' w') (fun a' w' e' bx' F'' h1 h2 h3 h4=>⟨rfl,e',bx',F'',h1,h2,h3,h4⟩) hk hr ho
 have h2:=up_list (m:=m) (l2:=[]) hF ds.1 (Q2:=PI fr n Q) (fun a' w' h=>by
  obtain⟨_,e',bx',F'',k1,k2,k3,k4⟩:=h
  exact⟨a',ds,withD_nil k1,e',bx',F'',k1,k2,k3,k4⟩) (fun ex a w h hn=>absurd h.1 hn) (fun a w h=>by cases h.1) L a w hd h1
 rw[withD_nil hk,List.append_nil] at h2
 exact wpIn_region_lit h2
theorem WI.seq (h:WI fr F' m ds P n x e bx F (fun ds=>thenQ (fun e bx F=>WI fr F' m ds P n y e bx F Q) (Q ds))):WI fr F' m ds P n (.seq x y) e bx F Q:=fun a w hk hr ho=>by
 refine wpIn_seq (wpIn_mono (h a w hk hr ho) fun ex a' w' hq=>?_)
 obtain⟨a0,ds',rfl,hq⟩:=hq
 cases ex with
 |normal=>obtain⟨e',bx',F'',k1,k2,k3,k4⟩:=hq;exact k4 a0 w' k1 k2 k3
 |exit i=>obtain⟨e',bx',F'',k1,k2,k3,k4⟩:=hq;exact⟨a0,ds',rfl,e',bx',F'',k1,k2,k3,k4⟩
 |ret=>obtain⟨e',bx',F'',k1,k2,k3,k4⟩:=hq;exact⟨a0,ds',rfl,e',bx',F'',k1,k2,k3,k4⟩
 |goto l=>exact hq.elim
 |panic l=>exact hq.elim
 |outgrown=>exact hq.elim
theorem WI.skip (h:Q ds .normal e bx F):WI fr F' m ds P n .skip e bx F Q:=fun a w hk hr ho=>wpIn_skip ⟨a,ds,rfl,e,bx,F,hk,hr,ho,h⟩
theorem WI.exit {i:Nat} (h:Q ds (.exit i) e bx F):WI fr F' m ds P n (.exit i) e bx F Q:=fun a w hk hr ho=>wpIn_exit ⟨a,ds,rfl,e,bx,F,hk,hr,ho,h⟩
theorem WI.ret (h:Q ds .ret e bx F):WI fr F' m ds P n .ret e bx F Q:=fun a w hk hr ho=>wpIn_ret ⟨a,ds,rfl,e,bx,F,hk,hr,ho,h⟩
theorem WI.cond {o:Operand} {b:Bool} (hc:ev e o=some (.bool b)) (h:WI fr F' m ds P n (if b then x else y) e bx F Q):WI fr F' m ds P n (.cond o x y) e bx F Q:=fun a w hk hr ho=>
 wpIn_cond (t:=b) (by rw[eval_defers];exact hk.eval hc) (h a w hk hr ho)
theorem WI.block {i:Nat} (h:WI fr F' m ds P n c e bx F (fun ds=>blockQ i (Q ds))):WI fr F' m ds P n (.block i c) e bx F Q:=fun a w hk hr ho=>by
 refine wpIn_block (wpIn_mono (h a w hk hr ho) fun ex a' w' hq=>?_)
 obtain⟨a0,ds',rfl,hq⟩:=hq
 cases ex with
 |normal=>obtain⟨e',bx',F'',k1,k2,k3,k4⟩:=hq;exact⟨a0,ds',rfl,e',bx',F'',k1,k2,k3,k4⟩
 |ret=>obtain⟨e',bx',F'',k1,k2,k3,k4⟩:=hq;exact⟨a0,ds',rfl,e',bx',F'',k1,k2,k3,k4⟩
 |goto l=>exact hq.elim
 |panic l=>exact hq.elim
 |outgrown=>exact hq.elim
 |exit j=>
  obtain⟨e',bx',F'',k1,k2,k3,k4⟩:=hq
  simp only[blockQ] at k4
  simp only[Exit.inBlock]
  cases hb:Nat.beq j i with
  |true=>
   rw[hb] at k4
   have:=Nat.eq_of_beq_eq_true hb
   subst this
   simp only[if_true]
   exact⟨a0,ds',rfl,e',bx',F'',k1,k2,k3,k4⟩
  |false=>
   rw[hb] at k4
   have:j≠i:=fun h=>by subst h;rw[Nat.beq_refl] at hb;cases hb
   rw[if_neg this]
   exact⟨a0,ds',rfl,e',bx',F'',k1,k2,k3,k4⟩
theorem WI.loop {σ:Type} (E:σ→Env) (B:σ→List Ow) (G:σ→List Fct) (I:List Deferred×World→σ→Prop) (μ:σ→Nat)
  (hround:∀ ds s,I ds s→WI fr F' m ds P n c (E s) (B s) (G s) (fun ds'=>thenQ (fun e' bx' F''=>∃ s',(I ds' s'∧μ s' < μ s)∧W.Sub (E s') e'∧(B s').Sublist bx'∧HasAll F'' (G s')) (Q ds')))
  (s0:σ) (h0:I ds s0) (hE:W.Sub (E s0) e) (hB:(B s0).Sublist bx) (hG:HasAll F (G s0)):WI fr F' m ds P n (.loop c) e bx F Q:=by
 intro a w hk hr ho b kk cs hro hb hroom
 have key:∀ k s ds a w,μ s=k→I ds s→Kn n a (E s)→W.Rest ds.2 w→OK fr (B s) (G s) w→
   ∃ ex a' w',PI fr n Q ex a' w'∧ArrivesIn (Machine.fenced P F') P (lone (b.atR {a with defers:=ds.1} (.code c::.inLoop c::kk)) cs w) b kk cs ex a' w':=by
  intro k
  induction k using Nat.strongRecOn with
  |_ k ih=>
   intro s ds a w hs hI hk hr ho
   obtain⟨ex,a',w',hq,harr⟩:=hround ds s hI a w hk hr ho b (.inLoop c::kk) cs hro hb hroom
   obtain⟨a0,ds',rfl,hq⟩:=hq
   cases ex with
   |normal=>
    obtain⟨e',bx',F'',k1,k2,k3,s',⟨k4,k5⟩,k6,k7,k8⟩:=hq
    obtain⟨ex2,a2,w2,hq2,harr2⟩:=ih (μ s') (by omega) s' ds' a0 w' rfl k4 (k1.sub k6) k2 ((k3.drop k7).hasAll k8.all)
    exact⟨ex2,a2,w2,hq2,.of_steps (StepsIn.trans harr (.one (fenced_calm hb hroom rfl) stepR_inLoop)) harr2⟩
   |exit i=>
    obtain⟨e',bx',F'',k1,k2,k3,k4⟩:=hq
    exact⟨.exit i,_,_,⟨a0,ds',rfl,e',bx',F'',k1,k2,k3,k4⟩,.pass (x:=.inLoop c) rfl (fun _ _=>.inl (by simp)) harr⟩
   |ret=>
    obtain⟨e',bx',F'',k1,k2,k3,k4⟩:=hq
    exact⟨.ret,_,_,⟨a0,ds',rfl,e',bx',F'',k1,k2,k3,k4⟩,.pass (x:=.inLoop c) rfl (fun _ _=>.inl (by simp)) harr⟩
   |goto l=>exact hq.elim
   |panic l=>exact hq.elim
   |outgrown=>exact hq.elim
 obtain⟨ex,a',w',hq,harr⟩:=key _ s0 ds a w rfl h0 (hk.sub hE) hr ((ho.drop hB).hasAll hG.all)
 exact⟨ex,a',w',hq,.of_steps (.one (fenced_calm hb hroom rfl) stepR_loop) harr⟩
end
end Go.Proofs.YtaongbhamadlkaaGreat
namespace Go.Proofs.YtaongbhamadlkaaGreat
open W Go.RowKit
def Celly (f:Fct):Prop:=∀ h h':PH,(∀ k c t z,h k=some (.cells c t z)→h' k=some (.cells c t z))→f.p h→f.p h'
theorem Celly.slC {v:Value} {n sz:Nat} {f:Nat→Value}:Celly (W.slC v n sz f):=fun h h' hh=>by
 rintro⟨a,cap,h1,h2,h3,h4⟩
 refine⟨a,cap,h1,h2,h3,h4.imp id ?_⟩
 rintro⟨b,off,h5,c,t,fz,h6,h7⟩
 exact⟨b,off,h5,c,t,fz,hh _ _ _ _ h6,h7⟩
theorem Celly.ce {g:Nat} {t:TypeId} {cs:List Value}:Celly (W.ce g t cs):=fun h h' hh hp=>hh _ _ _ _ hp
theorem Celly.isQ {v:Value} {q:Rat}:Celly (Go.Proofs.YtaongbhamadlkaaGreat.isQ v q):=fun h h' hh=>by
 rintro⟨b,d1,d2,h1,h2,h3,h4⟩
 exact⟨b,d1,d2,h1,h2,Celly.slC h h' hh h3,Celly.slC h h' hh h4⟩
theorem Celly.mF {n:Nat} {ms:Nat→QM} {q:Nat→Rat}:Celly (Go.Proofs.YtaongbhamadlkaaGreat.mF n ms q):=fun h h' hh hp i hi=>Celly.isQ h h' hh (hp i hi)
theorem Celly.mT {m w:Nat} {ms:Nat→Nat→QM} {t:Nat→Nat→Rat}:Celly (Go.Proofs.YtaongbhamadlkaaGreat.mT m w ms t):=fun h h' hh hp i hi k hk=>Celly.isQ h h' hh (hp i hi k hk)
def dF (D:Nat):Fct:=⟨fun h=>h D=some (.deferred (some [])),fun _ _ hl h=>hl _ _ h⟩
def mkD (D:Nat):Deferred:={target:=.collected D,args:=#[]}
theorem imm_some {fr:PH} {bx:List Ow} {H:Array Obj} {k:Nat} {o:Obj} (h:imm fr bx H k=some o):fr k=none∧k∉ids bx∧H[k]?=some o:=by
 unfold imm at h
 split at h
 ·cases h
 ·rename_i hc
  simp only[Bool.or_eq_true,List.contains_iff_mem,not_or,Bool.not_eq_true,Option.isSome_eq_false_iff,Option.isNone_iff_eq_none] at hc
  exact⟨hc.1,hc.2,h⟩
theorem imm_of {fr:PH} {bx:List Ow} {H:Array Obj} {k:Nat} {o:Obj} (h1:fr k=none) (h2:k∉ids bx) (h:H[k]?=some o):imm fr bx H k=some o:=by
 unfold imm
 rw[if_neg (by simp[h1,h2])];exact h
theorem OK.turn {fr:PH} {bx:List Ow} {Fc:List Fct} {w:World} {h0:PH} {D:Nat} {o o':Obj} (ho:OK fr bx (ge h0::Fc) w) (hc:∀ f∈Fc,Celly f) (h1:fr D=none) (h2:D∉ids bx) (h3:h0 D=none) (h4:w.heap[D]?=some o) (h5:o.isCells=false):OK fr bx (ge h0::Fc) (w.putObj D o'):=by
 have hne:∀ k,k≠D→(w.putObj D o').heap[k]?=w.heap[k]?:=fun k hk=>World.putObj_heap_other hk
 refine⟨fun k o hk=>?_,ho.apart,ho.nodup,fun b hb=>Ow.holds_congr (ho.owns b hb) fun k hk=>hne k (fun e=>h2 (e ▸ mem_ids.2 ⟨b,hb,hk⟩)),fun f hf=>?_⟩
 ·rw[hne k (fun e=>by subst e;rw[h1] at hk;cases hk)];exact ho.frame k o hk
 ·have hi:∀ k o,k≠D→imm fr bx w.heap k=some o→imm fr bx (w.putObj D o').heap k=some o:=fun k o hk h=>by
   obtain⟨a1,a2,a3⟩:=imm_some h
   exact imm_of a1 a2 (by rw[hne k hk];exact a3)
  rcases List.mem_cons.1 hf with rfl|hf
  ·intro k o hk
   exact hi k o (fun e=>by subst e;rw[h3] at hk;cases hk) (ho.facts _ (List.mem_cons_self ..) k o hk)
  ·refine hc f hf _ _ (fun k c t z hk=>hi k _ (fun e=>?_) hk) (ho.facts f (List.mem_cons_of_mem _ hf))
   subst e
   obtain⟨_,_,a3⟩:=imm_some hk
   rw[a3] at h4;cases h4;cases h5
def FinI (P:Program) (fn:Func) (h0:PH) (w0:World) (R:RPost) (ds:List Deferred×World):Env→List Ow→List Fct→Prop:=fun e bx F=>
 ∃ Ds v bx' F' Fc,ds=(List.map mkD Ds,w0)∧Ds.Nodup∧(∀ D∈Ds,Has F (dF D)∧h0 D=none)∧(∀ f∈Fc,Has F f∧Celly f)∧ResE P fn e bx Fc v∧bx'.Sublist bx∧(∀ f∈F',Has Fc f)∧ge h0∈F∧R v bx' F'
def retI (P:Program) (fn:Func) (h0:PH) (w0:World) (R:RPost) (ds:List Deferred×World):Post
 |.normal=>FinI P fn h0 w0 R ds
 |.ret=>FinI P fn h0 w0 R ds
 |_=>fun _ _ _=>False
section
variable {P:Program} {m n:Nat}
theorem leave_marks {fn:Func} {tmps:Array Value} {fr:PH} {bx:List Ow} {Fc:List Fct} {h0:PH} {w0:World} {R':Ending→World→Prop} (hc:∀ f∈Fc,Celly f)
  (hend:∀ w,W.Rest w0 w→OK fr bx (ge h0::Fc) w→∃ v,(results fn tmps).run P w=.ok v w∧R' (.returned v) w) :
  ∀ (Ds:List Nat) (w:World),Ds.Nodup→(∀ D∈Ds,fr D=none∧D∉ids bx∧h0 D=none∧w.heap[D]?=some (.deferred (some [])))→W.Rest w0 w→OK fr bx (ge h0::Fc) w→
   LeavesInM Fence.wide m P fn tmps R' (List.map mkD Ds) .returning w
 |[],w,_,_,hr,ho=>by
  obtain⟨v,h1,h2⟩:=hend w hr ho
  exact⟨v,h1,h2⟩
 |D::Ds,w,hn,hD,hr,ho=>by
  obtain⟨a1,a2,a3,a4⟩:=hD D (List.mem_cons_self ..)
  refine⟨by simp,.inl ⟨D,w.putObj D (.deferred none),rfl,run_takeDeferred a4,?_⟩⟩
  rw[List.nodup_cons] at hn
  refine leave_marks hc hend Ds _ hn.2 (fun D' hD'=>?_) (hr.trans ⟨rfl,rfl,rfl⟩) (OK.turn ho hc a1 a2 a3 a4 rfl)
  obtain⟨b1,b2,b3,b4⟩:=hD D' (List.mem_cons_of_mem _ hD')
  refine⟨b1,b2,b3,?_⟩
  rw[World.putObj_heap_other (r:=D) (k:=D') (fun e=>by subst e;exact hn.1 hD')];exact b4
theorem fn_in {f:FuncId} {fn:Func} {c:Code} {args:List Value} {bx:List Ow} {F:List Fct} {R:RPost} (m:Nat) (e0:Env) (n:Nat) (hf:P.funcs[f]?=some fn) (hb:fn.body=some c) (hn:fn.ntmps=n)
  (hname:(fn.name == "runtime.NumGoroutine")=false) (hargs:Nat.ble args.length n=true) (he:W.Sub e0 (parEnv 0 args))
  (h:∀ h0 fr w0,WI fr Fence.wide m ([],w0) P n c e0 bx (ge h0::F) (retI P fn h0 w0 R)):FnB P f args bx F R:=by
 refine⟨⟨fn,hf,hname,by rw[hb];rfl⟩,fun fr w ho=>(callsIn_wide (n:=m)).1 (callsIn_of_wp_marks hf hb trivial ?_)⟩
 have hargs':args.length≤n:=Nat.le_of_ble_eq_true hargs
 have hk:Kn n {tmps:=args.toArray++Array.replicate (fn.ntmps - args.toArray.size) undef,defers:=[]} e0:=by
  refine Kn.sub (e:=parEnv 0 args) ⟨by simp[hn];omega,rfl,fun k v hk=>?_⟩ he
  obtain⟨_,h2⟩:=look_parEnv _ _ _ _ hk
  simp at h2
  rw[Array.getElem?_append_left (by simpa using (List.getElem?_eq_some_iff.1 h2).1)]
  simpa using h2
 refine wpIn_mono (h (imm fr bx w.heap) fr w _ w hk (W.Rest.refl w) (ho.add (f:=ge _) (PH.le.refl _))) fun ex a' w' hq=>?_
 obtain⟨a0,ds,rfl,hq⟩:=hq
 have fin:∀ e b G,Kn n a0 e→W.Rest ds.2 w'→OK fr b G w'→FinI P fn (imm fr bx w.heap) w R ds e b G→LeavesInM Fence.wide m P fn a0.tmps (fun e w'=>∃ v bx' F',e=.returned v∧R v bx' F'∧W.Rest w w'∧(imm fr bx w.heap).le (imm fr bx' w'.heap)∧OK fr bx' F' w') ds.1 .returning w':=by
  rintro e b G h1 h2 h3 ⟨Ds,v,bx',F',Fc,rfl,k1,k2,k3,k4,k5,k6,k7,k8⟩
  refine leave_marks (fr:=fr) (bx:=b) (Fc:=Fc) (h0:=imm fr bx w.heap) (w0:=w) (fun f hf=>(k3 f hf).2) (fun w2 hr2 ho2=>?_) Ds w' k1 (fun D hD=>?_) h2 ?_
  ·have hd:=ho2.drop k5
   refine⟨v,k4 n fr a0 w2 h1 (ho2.less fun f hf=>List.mem_cons_of_mem _ hf),v,bx',F',rfl,k8,hr2,hd.facts _ (List.mem_cons_self ..),⟨hd.frame,hd.apart,hd.nodup,hd.owns,fun f hf=>?_⟩⟩
   exact(hd.less (F':=Fc) fun f hf=>List.mem_cons_of_mem _ hf).has (k6 f hf)
  ·obtain⟨a1,a2⟩:=k2 D hD
   obtain⟨b1,b2,b3⟩:=imm_some (h3.has a1)
   exact⟨b1,b2,a2,b3⟩
  ·exact⟨h3.frame,h3.apart,h3.nodup,h3.owns,fun f hf=>by
    rcases List.mem_cons.1 hf with rfl|hf
    ·exact h3.facts _ k7
    ·exact h3.has (k3 f hf).1⟩
 cases ex with
 |normal=>obtain⟨e,b,G,h1,h2,h3,h4⟩:=hq;exact fin e b G h1 h2 h3 h4
 |ret=>obtain⟨e,b,G,h1,h2,h3,h4⟩:=hq;exact fin e b G h1 h2 h3 h4
 |exit i=>obtain⟨e,b,G,h1,h2,h3,h4⟩:=hq;exact h4.elim
 |goto l=>exact hq.elim
 |panic l=>exact hq.elim
 |outgrown=>exact hq.elim
end
end Go.Proofs.YtaongbhamadlkaaGreat
