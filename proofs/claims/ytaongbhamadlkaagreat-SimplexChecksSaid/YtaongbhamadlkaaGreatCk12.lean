/- Lemmas for the proof of a law: Contracts of the model's solver: wiped, pivot. Conditions: none. -/
import Derived.Test.YtaongbhamadlkaaGreatCk11
import Derived.Test.YtaongbhamadlkaaGreatCk8
import Derived.Test.YtaongbhamadlkaaGreatCk2
import Derived.Shelf.SlGeneric
import Derived.Shelf.SortM.Plain
import Derived.Shelf.SortM.SortNone
import Derived.Ground.SlgmProg
import Derived.Shelf.Slices.CompactI
import Derived.Shelf.SlicesE.DeleteFunc
import Derived.RangeFuncBox
import Derived.OwnWalkIn
import Derived.TacticsInMore
import Derived.LoopNIn
import Derived.LoopIn
import Derived.Sort.Grow
import Derived.Test.YtaongbhamadlkaaGreatCk10
set_option linter.unusedVariables false
set_option linter.unusedSimpArgs false
set_option linter.unusedSectionVars false
namespace Go.Proofs.YtaongbhamadlkaaGreat
open W Go.RowKit
def pvT (s:X.St) (row col i k j:Nat):Rat:=if k < i∧k≠row then s.t k j - s.t k col*(s.t row j / s.t row col) else s.t k j
theorem pvT_up {s:X.St} {row col i:Nat} (hi:i≠row) (k j:Nat):upd (pvT s row col i) i (fun j=>s.t i j - s.t i col*(s.t row j / s.t row col)) k j=pvT s row col (i+1) k j:=by
 unfold upd pvT
 by_cases e:k=i
 ·subst e;rw[if_pos rfl,if_pos ⟨by omega,hi⟩]
 ·rw[if_neg e]
  by_cases c:k < i∧k≠row
  ·rw[if_pos c,if_pos ⟨by omega,c.2⟩]
  ·rw[if_neg c,if_neg (fun h=>c ⟨by omega,h.2⟩)]
theorem pvT_row {s:X.St} {row col:Nat} (k j:Nat):pvT s row col row k j=pvT s row col (row+1) k j:=by
 unfold pvT
 by_cases c:k < row∧k≠row
 ·rw[if_pos c,if_pos ⟨by omega,c.2⟩]
 ·rw[if_neg c,if_neg (fun h=>c ⟨by omega,h.2⟩)]
namespace U
open Z
attribute [local irreducible] WC WL WD YO LO LoopEnd W.Fin Scalar SliceT FieldAt Row ArrT AllocT KnS Has W.One SrcE IntT
theorem d74 {G G':Prop} (h:G') (s:Bx G'→G:=by
 intro h
 first|(apply WC.draw (id:=0) [0,1,2,3,4,5,6,8,9,10,11,12,13,14,15,16,17] (.held 0 (.held 1 (.held 2 (.held 3 (.held 4 (.held 5 (.held 6 (.held 8 (.held 9 (.held 10 (.held 11 (.held 12 (.held 13 (.held 14 (.held 15 (.held 16 (.held 17 (.loud 7 (.loud 18 (.loud 19 (.loud 20 (.done)))))))))))))))))))))) mixed (by kernel_rfl))|(apply WC.draw (id:=5) [0,1,2,3,4,5,6,7,8,9,10,11,12,13] (.held 0 (.held 1 (.held 2 (.held 3 (.held 4 (.held 5 (.held 6 (.held 7 (.held 8 (.held 9 (.held 10 (.held 11 (.held 12 (.held 13 (.loud 14 (.loud 15 (.loud 16 (.done)))))))))))))))))) mixed (by kernel_rfl))|fail
 exact Bx.h h):G:=s ⟨h⟩
theorem d133 {G G':Prop} (h:G') (s:Bx G'→G:=by
 intro h
 first|(apply WC.draw (id:=10) [0,1,2,3,4,5,6,7,8,9] (.held 0 (.held 1 (.held 2 (.held 3 (.held 4 (.held 5 (.held 6 (.held 7 (.held 8 (.held 9 (.loud 10 (.loud 11 (.loud 12 (.loud 13 (.loud 14 (.done)))))))))))))))) mixed (by kernel_rfl))|fail
 exact Bx.h h):G:=s ⟨h⟩
set_option maxHeartbeats 8000000 in
set_option maxRecDepth 60000 in
theorem wiped_c (va vr:Value) (w K col:Nat) (ma mr:Nat→QM) (a r:Nat→Rat) (hw:w≤10000) (hc:col < w) (hK:4*K+1≤400000000) (ha:∀ i,i < w→Sq K (a i)) (hr:∀ i,i < w→Sq K (r i)) :
  FnB Tryz.prog 133 [va,vr,.int .i64 (col:Int)] [] [fF va w ma a,fF vr w mr r] (IsF w fun k=>a k - a col*r k):=by
 refine fn_of [(0,va),(1,vr),(2,(.int .i64 (col:Int)))] 53 Tryz.func133 rfl Tryz.ntmps133 (by kernel_rfl) rfl suA fun h0=>?_
 refine WC.addNil 31 4 ?_
 refine WC.fact (isQ (qv (ma col)) (a col)) (W.Has.q (W.Has.fm (v:=va) (ms:=ma) hmA) hc) ?_
 have hz:=@sgn_zero (-a col)
 repeat'(first|refine gA ?_|(refine goG ?_;intro g)|(refine goV ?_;intro v)|refine goE ?_|(refine goEG ?_;intro g)|(refine goEV ?_;intro v)|refine goD ?_|refine goXD ?_|(refine goDG ?_;intro g)|(refine goDV ?_;intro v)|refine gY ?_|refine d133 ?_|fail)
 first|refine WL.callK (Zn.rneg (ma col) (a col)) ?_|refine WD.callK (Zn.rneg (ma col) (a col)) ?_|refine LO.callM (Zn.rneg (ma col) (a col)) ?_
 rintro _ _ _ ⟨mf,rfl,rfl,rfl⟩
 simp only[List.nil_append,List.cons_append]
 repeat'(first|refine gA ?_|(refine goG ?_;intro g)|(refine goV ?_;intro v)|refine goE ?_|(refine goEG ?_;intro g)|(refine goEV ?_;intro v)|refine goD ?_|refine goXD ?_|(refine goDG ?_;intro g)|(refine goDV ?_;intro v)|refine gY ?_|refine d133 ?_|fail)
 revert g;intro g7
 first|refine WL.callV (Zn.rsign mf (-a col)) ?_|refine WD.callV (Zn.rsign mf (-a col)) ?_
 by_cases cz:-a col=0
 ·have cz':=hz.2 cz
  have e:a col=0:=by grind
  refine WL.fact' (fF va w ma fun k=>a k - a col*r k) (W.Has.fFsame (q:=a) hmA fun k _=>by rw[e];grind) ?_
  repeat'(first|refine gA ?_|(refine goG ?_;intro g)|(refine goV ?_;intro v)|refine goE ?_|(refine goEG ?_;intro g)|(refine goEV ?_;intro v)|refine goD ?_|refine goXD ?_|(refine goDG ?_;intro g)|(refine goDV ?_;intro v)|refine gY ?_|refine d133 ?_|fail)
  refine WC.ret ?_
  exact Fin.p [] [fF va w ma fun k=>a k - a col*r k] (ResE.t1 rfl rfl) meA (List.nil_sublist _) haA ⟨ma,rfl,rfl⟩
 ·have cz':¬sgn (-a col).num=0:=fun h=>cz (hz.1 h)
  repeat'(first|refine gA ?_|(refine goG ?_;intro g)|(refine goV ?_;intro v)|refine goE ?_|(refine goEG ?_;intro g)|(refine goEV ?_;intro v)|refine goD ?_|refine goXD ?_|(refine goDG ?_;intro g)|(refine goDV ?_;intro v)|refine gY ?_|refine d133 ?_|fail)
  refine WC.lp (σ:=Nat×Value×(Nat→QM)) (fun st=>[(9,.int .i64 (st.1:Int)),(0,va),(1,vr),(7,ptr g7),(8,st.2.1)]) (fun st=>[Ow.cells g7 31 (qcs mf),Ow.slice st.2.1 31 4 (qcells st.1 st.2.2)])
   (fun st=>[mF st.1 st.2.2 (clx (fun k=>a k - a col*r k) st.1),isQ (qv mf) (-a col),ge h0,fF va w ma a,fF vr w mr r]) (fun st=>st.1≤w) (fun st=>w - st.1) (0,.slice none 0 0,fun _=>m00) (Nat.zero_le _) ?_ (hG:=.cons (W.Has.mFn _ _) sfA)
  rintro⟨k,sv,ms⟩ hk
  simp only at hk ⊢
  by_cases c:k < w
  ·refine WC.fact (isQ (qv (ma k)) (a k)) (W.Has.q (W.Has.fm (v:=va) (ms:=ma) hmA) c) ?_
   refine WC.fact (isQ (qv (mr k)) (r k)) (W.Has.q (W.Has.fm (v:=vr) (ms:=mr) hmA) c) ?_
   have hzr:=@sgn_zero (r k)
   repeat'(first|refine gA ?_|(refine goG ?_;intro g)|(refine goV ?_;intro v)|refine goE ?_|(refine goEG ?_;intro g)|(refine goEV ?_;intro v)|refine goD ?_|refine goXD ?_|(refine goDG ?_;intro g)|(refine goDV ?_;intro v)|refine gY ?_|refine d133 ?_|fail)
   first|refine WL.callV (Zn.rsign (mr k) (r k)) ?_|refine WD.callV (Zn.rsign (mr k) (r k)) ?_
   by_cases cr:r k=0
   ·have cr':=hzr.2 cr
    repeat'(first|refine gA ?_|(refine goG ?_;intro g)|(refine goV ?_;intro v)|refine goE ?_|(refine goEG ?_;intro g)|(refine goEV ?_;intro v)|refine goD ?_|refine goXD ?_|(refine goDG ?_;intro g)|(refine goDV ?_;intro v)|refine gY ?_|refine d133 ?_|fail)
    exact LoopEnd.mk (k+1,_,upd ms k (ma k)) (by show k+1≤w;omega) (by show w - (k+1) < w - k;omega) (hG:=.cons ((W.Has.mFapp (n:=k) (ms:=ms) (m:=ma k) (z:=a k - a col*r k) (qf:=clx (fun k=>a k - a col*r k) k) hmA (by rw[show a k - a col*r k=a k by rw[cr];grind];exact hmA)).mFsame fun j hj=>clx_up (c:=fun k=>a k - a col*r k) j) sfA)
   ·have cr':¬sgn (r k).num=0:=fun h=>cr (hzr.1 h)
    repeat'(first|refine gA ?_|(refine goG ?_;intro g)|(refine goV ?_;intro v)|refine goE ?_|(refine goEG ?_;intro g)|(refine goEV ?_;intro v)|refine goD ?_|refine goXD ?_|(refine goDG ?_;intro g)|(refine goDV ?_;intro v)|refine gY ?_|refine d133 ?_|fail)
    first|refine WL.callK (Zn.rmul mf (mr k) (-a col) (r k) ((ha col hc).neg.sm (by omega)) ((hr k c).sm (by omega))) ?_|refine WD.callK (Zn.rmul mf (mr k) (-a col) (r k) ((ha col hc).neg.sm (by omega)) ((hr k c).sm (by omega))) ?_|refine LO.callM (Zn.rmul mf (mr k) (-a col) (r k) ((ha col hc).neg.sm (by omega)) ((hr k c).sm (by omega))) ?_
    rintro _ _ _ ⟨m1,rfl,rfl,rfl⟩
    simp only[List.nil_append,List.cons_append]
    repeat'(first|refine gA ?_|(refine goG ?_;intro g)|(refine goV ?_;intro v)|refine goE ?_|(refine goEG ?_;intro g)|(refine goEV ?_;intro v)|refine goD ?_|refine goXD ?_|(refine goDG ?_;intro g)|(refine goDV ?_;intro v)|refine gY ?_|refine d133 ?_|fail)
    first|refine WL.callK (Zn.radd (ma k) m1 (a k) (-a col*r k) ((ha k c).sm (by omega)) (((ha col hc).neg.mul (hr k c)).sm (by omega))) ?_|refine WD.callK (Zn.radd (ma k) m1 (a k) (-a col*r k) ((ha k c).sm (by omega)) (((ha col hc).neg.mul (hr k c)).sm (by omega))) ?_|refine LO.callM (Zn.radd (ma k) m1 (a k) (-a col*r k) ((ha k c).sm (by omega)) (((ha col hc).neg.mul (hr k c)).sm (by omega))) ?_
    rintro _ _ _ ⟨m2,rfl,rfl,rfl⟩
    simp only[List.nil_append,List.cons_append]
    refine WD.fact (mF (k+1) (upd ms k m2) (clx (fun k=>a k - a col*r k) (k+1))) ((W.Has.mFapp (n:=k) (ms:=ms) (m:=m2) (z:=a k - a col*r k) (qf:=clx (fun k=>a k - a col*r k) k) hmA (by rw[show a k - a col*r k=a k+ -a col*r k by grind];exact hmA)).mFsame fun j hj=>clx_up (c:=fun k=>a k - a col*r k) j) ?_
    repeat'(first|refine gA ?_|(refine goG ?_;intro g)|(refine goV ?_;intro v)|refine goE ?_|(refine goEG ?_;intro g)|(refine goEV ?_;intro v)|refine goD ?_|refine goXD ?_|(refine goDG ?_;intro g)|(refine goDV ?_;intro v)|refine gY ?_|refine d133 ?_|fail)
    exact LoopEnd.mk (k+1,_,_) (by show k+1≤w;omega) (by show w - (k+1) < w - k;omega)
  ·obtain rfl:k=w:=by omega
   refine WC.freezeF sv k ms (fun j=>a j - a col*r j) (by repeat(first|exact Sel.head|apply Sel.tail)) (W.Has.mFsame (qf:=clx (fun j=>a j - a col*r j) k) hmA fun j hj=>by unfold clx;rw[if_pos hj]) ?_
   repeat'(first|refine gA ?_|(refine goG ?_;intro g)|(refine goV ?_;intro v)|refine goE ?_|(refine goEG ?_;intro g)|(refine goEV ?_;intro v)|refine goD ?_|refine goXD ?_|(refine goDG ?_;intro g)|(refine goDV ?_;intro v)|refine gY ?_|refine d133 ?_|fail)
   refine WC.ret ?_
   exact Fin.p [] [fF sv k ms fun j=>a j - a col*r j] (ResE.t1 rfl rfl) meA (List.nil_sublist _) haA ⟨ms,rfl,rfl⟩
set_option maxHeartbeats 8000000 in
set_option maxRecDepth 60000 in
theorem rpivot_c (xg m n row col K:Nat) (tv cv bv:Value) (rv:Nat→Value) (ms:Nat→Nat→QM) (mc:Nat→QM) (s:X.St) (hr:row < m) (hc:col < n+1) (hm:m≤1000) (hn:n≤9000) (hK0:0 < K) (hK:20*K+20≤400000000)
  (hs:∀ i,i < m→∀ k,k < n+1→Sq K (s.t i k)) (hcs:∀ k,k < n+1→Sq K (s.c k)) :
  FnB Tryz.prog 74 [ptr xg,.int .i64 (row:Int),.int .i64 (col:Int)] (RT xg m tv cv bv rv s.b) [rF m (n+1) rv ms s.t,fF cv (n+1) mc s.c] (IsRT xg m n tv bv (X.pv s row col)):=by
 refine fn_of [(0,(ptr xg)),(1,(.int .i64 (row:Int))),(2,(.int .i64 (col:Int)))] 80 Tryz.func74 rfl Tryz.ntmps74 (by kernel_rfl) rfl suA fun h0=>?_
 refine WC.fact (fF (rv row) (n+1) (ms row) (s.t row)) (W.Has.tr (m:=m) hmA hr) ?_
 refine WC.fact (isQ (qv (ms row col)) (s.t row col)) (W.Has.q (W.Has.fm (v:=rv row) (ms:=ms row) hmA) hc) ?_
 have hdv:∀ k,k < n+1→Sq (2*K) (s.t row k / s.t row col):=fun k hk=>(Sq.div hK0 (hs row hr k hk) (hs row hr col hc)).up (by omega)
 have hd1:Sq (K+1) (1 / s.t row col):=(Sq.div hK0 X.sq_one (hs row hr col hc)).up (by omega)
 repeat'(first|refine gA ?_|(refine goG ?_;intro g)|(refine goV ?_;intro v)|refine goE ?_|(refine goEG ?_;intro g)|(refine goEV ?_;intro v)|refine goD ?_|refine goXD ?_|(refine goDG ?_;intro g)|(refine goDV ?_;intro v)|refine gY ?_|refine d74 ?_|fail)
 first|refine WL.callK (Zn.rof 1 1 (by decide) (by decide)) ?_|refine WD.callK (Zn.rof 1 1 (by decide) (by decide)) ?_|refine LO.callM (Zn.rof 1 1 (by decide) (by decide)) ?_
 rintro _ _ _ ⟨m1,rfl,rfl,rfl⟩
 simp only[List.nil_append,List.cons_append]
 rw[show Rat.divInt 1 1=1 by decide +kernel]
 repeat'(first|refine gA ?_|(refine goG ?_;intro g)|(refine goV ?_;intro v)|refine goE ?_|(refine goEG ?_;intro g)|(refine goEV ?_;intro v)|refine goD ?_|refine goXD ?_|(refine goDG ?_;intro g)|(refine goDV ?_;intro v)|refine gY ?_|refine d74 ?_|fail)
 first|refine WL.callK (Zn.rdiv m1 (ms row col) 1 (s.t row col) (X.sq_one.sm (by omega)) ((hs row hr col hc).sm (by omega))) ?_|refine WD.callK (Zn.rdiv m1 (ms row col) 1 (s.t row col) (X.sq_one.sm (by omega)) ((hs row hr col hc).sm (by omega))) ?_|refine LO.callM (Zn.rdiv m1 (ms row col) 1 (s.t row col) (X.sq_one.sm (by omega)) ((hs row hr col hc).sm (by omega))) ?_
 rintro _ _ _ ⟨m2,rfl,rfl,rfl⟩
 simp only[List.nil_append,List.cons_append]
 repeat'(first|refine gA ?_|(refine goG ?_;intro g)|(refine goV ?_;intro v)|refine goE ?_|(refine goEG ?_;intro g)|(refine goEV ?_;intro v)|refine goD ?_|refine goXD ?_|(refine goDG ?_;intro g)|(refine goDV ?_;intro v)|refine gY ?_|refine d74 ?_|fail)
 refine WD.callK (scaled_c (rv row) (n+1) (ms row) (s.t row) m2 (1 / s.t row col) (by omega) (fun k hk=>(hs row hr k hk).sm (by omega)) (hd1.sm (by omega))) ?_
 rintro vr _ _ ⟨mr,rfl,rfl⟩
 simp only[List.nil_append,List.cons_append]
 refine WD.freezeF vr (n+1) mr (fun k=>s.t row k / s.t row col) (by repeat(first|exact Sel.head|apply Sel.tail)) (W.Has.mFsame (qf:=fun k=>s.t row k*(1 / s.t row col)) hmA fun k _=>by grind) ?_
 repeat'(first|refine gA ?_|(refine goG ?_;intro g)|(refine goV ?_;intro v)|refine goE ?_|(refine goEG ?_;intro g)|(refine goEV ?_;intro v)|refine goD ?_|refine goXD ?_|(refine goDG ?_;intro g)|(refine goDV ?_;intro v)|refine gY ?_|refine d74 ?_|fail)
 refine WC.lp (σ:=Nat×(Nat→Value)×(Nat→Nat→QM)) (fun st=>[(7,.int .i64 (st.1:Int)),(6,vr),(0,ptr xg),(1,.int .i64 (row:Int)),(2,.int .i64 (col:Int))]) (fun st=>RT xg m tv cv bv st.2.1 s.b)
  (fun st=>[rF m (n+1) st.2.1 st.2.2 (pvT s row col st.1),fF vr (n+1) mr (fun k=>s.t row k / s.t row col),fF cv (n+1) mc s.c,ge h0]) (fun st=>st.1≤m) (fun st=>m - st.1) (0,rv,ms) (Nat.zero_le _) ?_ (hG:=.cons (W.Has.rFsame (tq:=s.t) hmA fun i _ k _=>by unfold pvT;rw[if_neg (fun h=>absurd h.1 (by omega))]) sfA)
 rintro⟨i,rv',ms'⟩ hi
 simp only at hi ⊢
 by_cases c:i < m
 ·by_cases ci:i=row
  ·have ci1:(i:Int)=row:=by omega
   repeat'(first|refine gA ?_|(refine goG ?_;intro g)|(refine goV ?_;intro v)|refine goE ?_|(refine goEG ?_;intro g)|(refine goEV ?_;intro v)|refine goD ?_|refine goXD ?_|(refine goDG ?_;intro g)|(refine goDV ?_;intro v)|refine gY ?_|refine d74 ?_|fail)
   exact LoopEnd.mk (i+1,rv',ms') (by show i+1≤m;omega) (by show m - (i+1) < m - i;omega) (hG:=.cons (W.Has.rFsame (tq:=pvT s row col i) hmA fun k _ j _=>by subst ci;exact pvT_row k j) sfA)
  ·have ci1:¬(i:Int)=row:=by omega
   refine WC.fact (fF (rv' i) (n+1) (ms' i) (s.t i)) (W.Has.fFsame (q:=pvT s row col i i) (W.Has.tr (m:=m) hmA c) fun k _=>by unfold pvT;rw[if_neg (fun h=>absurd h.1 (by omega))]) ?_
   repeat'(first|refine gA ?_|(refine goG ?_;intro g)|(refine goV ?_;intro v)|refine goE ?_|(refine goEG ?_;intro g)|(refine goEV ?_;intro v)|refine goD ?_|refine goXD ?_|(refine goDG ?_;intro g)|(refine goDV ?_;intro v)|refine gY ?_|refine d74 ?_|fail)
   refine WD.callK (wiped_c (rv' i) vr (n+1) (2*K) col (ms' i) mr (s.t i) (fun k=>s.t row k / s.t row col) (by omega) hc (by omega) (fun k hk=>(hs i c k hk).up (by omega)) hdv) ?_
   rintro u _ _ ⟨mu,rfl,rfl⟩
   simp only[List.nil_append,List.cons_append]
   repeat'(first|refine gA ?_|(refine goG ?_;intro g)|(refine goV ?_;intro v)|refine goE ?_|(refine goEG ?_;intro g)|(refine goEV ?_;intro v)|refine goD ?_|refine goXD ?_|(refine goDG ?_;intro g)|(refine goDV ?_;intro v)|refine gY ?_|refine d74 ?_|fail)
   exact LoopEnd.mk (i+1,upd rv' i u,upd ms' i mu) (by show i+1≤m;omega) (by show m - (i+1) < m - i;omega) (hG:=.cons ((W.Has.rFset (i:=i) (u:=u) (mu:=mu) (q:=fun k=>s.t i k - s.t i col*(s.t row k / s.t row col)) (show Has _ (rF m (n+1) rv' ms' (pvT s row col i)) from hmA) hmA).rFsame fun k _ j _=>pvT_up ci k j) sfA)
 ·obtain rfl:i=m:=by omega
  repeat'(first|refine gA ?_|(refine goG ?_;intro g)|(refine goV ?_;intro v)|refine goE ?_|(refine goEG ?_;intro g)|(refine goEV ?_;intro v)|refine goD ?_|refine goXD ?_|(refine goDG ?_;intro g)|(refine goDV ?_;intro v)|refine gY ?_|refine d74 ?_|fail)
  refine WL.callK (wiped_c cv vr (n+1) (2*K) col mc mr s.c (fun k=>s.t row k / s.t row col) (by omega) hc (by omega) (fun k hk=>(hcs k hk).up (by omega)) hdv) ?_
  rintro cv' _ _ ⟨mc',rfl,rfl⟩
  simp only[List.nil_append,List.cons_append]
  have hfl:=fnL_len i s.b
  repeat'(first|refine gA ?_|(refine goG ?_;intro g)|(refine goV ?_;intro v)|refine goE ?_|(refine goEG ?_;intro g)|(refine goEV ?_;intro v)|refine goD ?_|refine goXD ?_|(refine goDG ?_;intro g)|(refine goDV ?_;intro v)|refine gY ?_|refine d74 ?_|fail)
  rw[fnL_set]
  refine Fin.p (RT xg i tv cv' bv (upd rv' row vr) (X.pv s row col).b) [rF i (n+1) (upd rv' row vr) (upd ms' row mr) (X.pv s row col).t,fF cv' (n+1) mc' (X.pv s row col).c] (ResE.t0 rfl) meA ?_ ?_ ⟨_,_,_,_,rfl,rfl,rfl⟩
  ·rw[show(X.pv s row col).b=upd s.b row col from funext fun k=>rfl]
   exact slA
  ·refine .cons ((W.Has.rFset (i:=row) (u:=vr) (mu:=mr) (q:=fun k=>s.t row k / s.t row col) (show Has _ (rF i (n+1) rv' ms' (pvT s row col i)) from hmA) hmA).rFsame fun k hk j _=>?_) (.cons hmA .nil)
   by_cases e:k=row
   ·subst e;rw[upd_at];unfold X.pv;simp only[if_pos]
   ·rw[upd_ne e];unfold pvT X.pv;rw[if_pos ⟨hk,e⟩];simp only[if_neg e]
end U
end Go.Proofs.YtaongbhamadlkaaGreat
namespace Go.Proofs.YtaongbhamadlkaaGreat
open W Go.RowKit
abbrev RTF (xg m n:Nat) (tv cv bv:Value) (rv:Nat→Value) (ms:Nat→Nat→QM) (s:X.St):List Fct:=
 [ce xg 107 [tv,cv,bv],sV tv m rv,rF m (n+1) rv ms s.t,sN bv m s.b]
namespace U
open Z
attribute [local irreducible] WC WL WD YO LO LoopEnd W.Fin Scalar SliceT FieldAt Row ArrT AllocT KnS Has W.One SrcE IntT
theorem d134 {G G':Prop} (h:G') (s:Bx G'→G:=by
 intro h
 first|(apply WC.draw (id:=8) [0,1,2,3,4,5,6,7,8,9] (.held 0 (.held 1 (.held 2 (.held 3 (.held 4 (.held 5 (.held 6 (.held 7 (.held 8 (.held 9 (.more 10 (.loud 11 (.loud 12 (.done))) (.loud 11 (.loud 10 (.loud 12 (.done))))))))))))))) mixed (by kernel_rfl))|(apply WC.draw (id:=10) [0,1,2,3,4,5,6,7,8,9,10,11,12,13,14,15,16,17,18,19,20,21,22,23,24,25,26,27] (.held 0 (.held 1 (.held 2 (.held 3 (.held 4 (.held 5 (.held 6 (.held 7 (.held 8 (.held 9 (.held 10 (.held 11 (.held 12 (.held 13 (.held 14 (.held 15 (.held 16 (.held 17 (.held 18 (.held 19 (.held 20 (.held 21 (.held 22 (.held 23 (.held 24 (.held 25 (.held 26 (.held 27 (.done))))))))))))))))))))))))))))) mixed (by kernel_rfl))|fail
 exact Bx.h h):G:=s ⟨h⟩
set_option maxHeartbeats 8000000 in
set_option maxRecDepth 60000 in
theorem rleaving_c (xg m n:Nat) (tv cv bv:Value) (rv:Nat→Value) (ms:Nat→Nat→QM) (s:X.St) (col K:Nat) (hcol:col < n) (hm:m≤1000) (hn:n≤9000) (hK:K≤20000000) (hK0:0 < K) (hs:∀ i,i < m→∀ k,k < n+1→Sq K (s.t i k)) :
  FnB Tryz.prog 134 [ptr xg,.int .i64 (col:Int)] [] (RTF xg m n tv cv bv rv ms s) (IsV (.int .i64 (optI (X.lev n s col m)))):=by
 refine fn_of [(0,(ptr xg)),(1,(.int .i64 (col:Int)))] 78 Tryz.func134 rfl Tryz.ntmps134 (by kernel_rfl) rfl suA fun h0=>?_
 have hsm:∀ {q},Sq K q→Sm q:=fun h=>h.sm (by omega)
 repeat'(first|refine gA ?_|(refine goG ?_;intro g)|(refine goV ?_;intro v)|refine goE ?_|(refine goEG ?_;intro g)|(refine goEV ?_;intro v)|refine goD ?_|refine goXD ?_|(refine goDG ?_;intro g)|(refine goDV ?_;intro v)|apply WD.more_of|refine WM.more (by exact rfl) (by exact rfl) (by exact rfl) ?_ ?_|refine WM.one (by exact rfl) (by exact rfl) (by exact rfl) ?_|refine WM.more0 (by exact rfl) (by exact rfl) ?_ ?_|refine WM.one0 (by exact rfl) (by exact rfl) ?_|(refine goLG ?_;intro g)|(refine goLV ?_;intro v)|refine goLS ?_|refine d134 ?_|fail)
 revert g;intro g6
 have en:(((n+1:Nat):Int) - 1).toNat=n:=by omega
 refine WC.lp (σ:=Nat×Int×QM×Rat) (fun st=>[(5,.int .i64 st.2.1),(7,.int .i64 (st.1:Int)),(0,ptr xg),(1,.int .i64 (col:Int)),(6,ptr g6)]) (fun st=>[Ow.cells g6 31 (qcs st.2.2.1)])
  (fun st=>isQ (qv st.2.2.1) st.2.2.2::ge h0::RTF xg m n tv cv bv rv ms s) (fun st=>st.1≤m∧st.2.1=optI (X.lev n s col st.1)∧st.2.2.2=lst n s col st.1) (fun st=>m - st.1) (0,-1,m00,0) ⟨Nat.zero_le _,rfl,rfl⟩ ?_ (hG:=.cons hasQ0 sfA)
 rintro⟨i,bi,ml,ql⟩ ⟨hi,hbi,hql⟩
 simp only at hi hbi hql ⊢
 by_cases c:i < m
 ·refine WC.fact (fF (rv i) (n+1) (ms i) (s.t i)) (W.Has.tr (m:=m) hmA c) ?_
  refine WC.fact (isQ (qv (ms i col)) (s.t i col)) (W.Has.q (W.Has.fm (v:=rv i) (ms:=ms i) hmA) (by omega)) ?_
  refine WC.fact (isQ (qv (ms i (((n+1:Nat):Int) - 1).toNat)) (s.t i n)) (by rw[en];exact W.Has.q (W.Has.fm (v:=rv i) (ms:=ms i) hmA) (by omega)) ?_
  repeat'(first|refine gA ?_|(refine goG ?_;intro g)|(refine goV ?_;intro v)|refine goE ?_|(refine goEG ?_;intro g)|(refine goEV ?_;intro v)|refine goD ?_|refine goXD ?_|(refine goDG ?_;intro g)|(refine goDV ?_;intro v)|apply WD.more_of|refine WM.more (by exact rfl) (by exact rfl) (by exact rfl) ?_ ?_|refine WM.one (by exact rfl) (by exact rfl) (by exact rfl) ?_|refine WM.more0 (by exact rfl) (by exact rfl) ?_ ?_|refine WM.one0 (by exact rfl) (by exact rfl) ?_|(refine goLG ?_;intro g)|(refine goLV ?_;intro v)|refine goLS ?_|refine d134 ?_|fail)
  first|refine WL.callV (Zn.rsign (ms i col) (s.t i col)) ?_|refine WD.callV (Zn.rsign (ms i col) (s.t i col)) ?_
  by_cases c1:s.t i col≤0
  ·have hz:=le_iff.2 c1
   have e1:X.lev n s col (i+1)=X.lev n s col i:=by rw[X.lev,if_pos c1]
   have e2:lst n s col (i+1)=lst n s col i:=by unfold lst;rw[e1]
   repeat'(first|refine gA ?_|(refine goG ?_;intro g)|(refine goV ?_;intro v)|refine goE ?_|(refine goEG ?_;intro g)|(refine goEV ?_;intro v)|refine goD ?_|refine goXD ?_|(refine goDG ?_;intro g)|(refine goDV ?_;intro v)|apply WD.more_of|refine WM.more (by exact rfl) (by exact rfl) (by exact rfl) ?_ ?_|refine WM.one (by exact rfl) (by exact rfl) (by exact rfl) ?_|refine WM.more0 (by exact rfl) (by exact rfl) ?_ ?_|refine WM.one0 (by exact rfl) (by exact rfl) ?_|(refine goLG ?_;intro g)|(refine goLV ?_;intro v)|refine goLS ?_|refine d134 ?_|fail)
   exact LoopEnd.mk (i+1,bi,ml,ql) ⟨by show i+1≤m;omega,by rw[e1];exact hbi,by rw[e2];exact hql⟩ (by show m - (i+1) < m - i;omega)
  ·have hz:¬sgn (s.t i col).num≤0:=fun h=>c1 (le_iff.1 h)
   have hdv:Sq (2*K) (s.t i n / s.t i col):=(Sq.div hK0 (hs i c n (by omega)) (hs i c col (by omega))).up (by omega)
   have hdc:=Zn.rdiv (ms i (((n+1:Nat):Int) - 1).toNat) (ms i col) (s.t i n) (s.t i col) (hsm (hs i c n (by omega))) (hsm (hs i c col (by omega)))
   repeat'(first|refine gA ?_|(refine goG ?_;intro g)|(refine goV ?_;intro v)|refine goE ?_|(refine goEG ?_;intro g)|(refine goEV ?_;intro v))
   refine WC.cutP (σ:=Nat×QM) (fun st=>[(9,ptr st.1),(8,rv i),(5,.int .i64 bi),(7,.int .i64 (i:Int)),(0,ptr xg),(1,.int .i64 (col:Int)),(6,ptr g6)]) (fun st=>[Ow.cells st.1 31 (qcs st.2),Ow.cells g6 31 (qcs ml)])
    (fun st=>isQ (qv st.2) (s.t i n / s.t i col)::isQ (qv ml) ql::ge h0::RTF xg m n tv cv bv rv ms s) (fun _=>True) ?_ ?_
   ·repeat'(first|refine gA ?_|(refine goG ?_;intro g)|(refine goV ?_;intro v)|refine goE ?_|(refine goEG ?_;intro g)|(refine goEV ?_;intro v)|refine goD ?_|refine goXD ?_|(refine goDG ?_;intro g)|(refine goDV ?_;intro v)|apply WD.more_of|refine WM.more (by exact rfl) (by exact rfl) (by exact rfl) ?_ ?_|refine WM.one (by exact rfl) (by exact rfl) (by exact rfl) ?_|refine WM.more0 (by exact rfl) (by exact rfl) ?_ ?_|refine WM.one0 (by exact rfl) (by exact rfl) ?_|(refine goLG ?_;intro g)|(refine goLV ?_;intro v)|refine goLS ?_|refine d134 ?_|fail|((first|refine WL.callK (hv:=?hvQ) (hdc) ?_|refine WD.callK (hv:=?hvQ) (hdc) ?_|refine LO.callM (hv:=?hvQ) (hdc) ?_);(case hvQ=>((repeat(first|exact Evs.nil|(apply Evs.cons;exact rfl)));done));rintro _ _ _ ⟨zm,rfl,rfl,rfl⟩;simp only[List.nil_append,List.cons_append])|fail)
    all_goals(apply Ex2;refine⟨trivial,?_,?_,?_⟩;(focus(repeat(first|exact Sub.nil _|refine Sub.cons rfl ?_)));(focus(repeat(first|exact SubP.nil _|(apply SubP.cons;(repeat(first|exact Rem.head|apply Rem.tail))))));(focus(repeat(first|exact HasAll.nil|(apply HasAll.cons;exact hsA)))))
   rintro⟨g9,mq⟩ _
   simp only
   have hlq:Sq (2*K) ql:=by
    rw[hql];unfold lst
    cases hL:X.lev n s col i with
    |none=>exact Sq.zero.up (by omega)
    |some r=>have:=lev_lt hL;exact(Sq.div hK0 (hs r (by omega) n (by omega)) (hs r (by omega) col (by omega))).up (by omega)
   repeat'(first|refine gA ?_|(refine goG ?_;intro g)|(refine goV ?_;intro v)|refine goE ?_|(refine goEG ?_;intro g)|(refine goEV ?_;intro v)|refine goD ?_|refine goXD ?_|(refine goDG ?_;intro g)|(refine goDV ?_;intro v)|apply WD.more_of|refine WM.more (by exact rfl) (by exact rfl) (by exact rfl) ?_ ?_|refine WM.one (by exact rfl) (by exact rfl) (by exact rfl) ?_|refine WM.more0 (by exact rfl) (by exact rfl) ?_ ?_|refine WM.one0 (by exact rfl) (by exact rfl) ?_|(refine goLG ?_;intro g)|(refine goLV ?_;intro v)|refine goLS ?_|refine d134 ?_|fail)
   first|refine WL.callV (Zn.rcmp mq ml (s.t i n / s.t i col) ql (hdv.sm (by omega)) (hlq.sm (by omega))) ?_|refine WD.callV (Zn.rcmp mq ml (s.t i n / s.t i col) ql (hdv.sm (by omega)) (hlq.sm (by omega))) ?_
   have hlt:=@cmpQ_lt (s.t i n / s.t i col) ql
   have heq:=@cmpQ_eq (s.t i n / s.t i col) ql
   generalize cmpQ (s.t i n / s.t i col) ql=cq at *
   cases hL:X.lev n s col i with
   |none=>
    rw[hL] at hbi
    have hb1:bi= -1:=hbi
    have e1:X.lev n s col (i+1)=some i:=by rw[X.lev,if_neg c1,hL]
    repeat'(first|refine gA ?_|(refine goG ?_;intro g)|(refine goV ?_;intro v)|refine goE ?_|(refine goEG ?_;intro g)|(refine goEV ?_;intro v)|refine goD ?_|refine goXD ?_|(refine goDG ?_;intro g)|(refine goDV ?_;intro v)|apply WD.more_of|refine WM.more (by exact rfl) (by exact rfl) (by exact rfl) ?_ ?_|refine WM.one (by exact rfl) (by exact rfl) (by exact rfl) ?_|refine WM.more0 (by exact rfl) (by exact rfl) ?_ ?_|refine WM.one0 (by exact rfl) (by exact rfl) ?_|(refine goLG ?_;intro g)|(refine goLV ?_;intro v)|refine goLS ?_|refine d134 ?_|fail)
    all_goals exact LoopEnd.mk (i+1,(i:Int),mq,_) ⟨by show i+1≤m;omega,by show(i:Int)=optI (X.lev n s col (i+1));rw[e1];rfl,by unfold lst;rw[e1]⟩ (by show m - (i+1) < m - i;omega)
   |some r=>
    rw[hL] at hbi
    obtain rfl:bi=(r:Int):=hbi
    have hri:=lev_lt hL
    have hq:ql=s.t r n / s.t r col:=by rw[hql];unfold lst;rw[hL]
    have er:(max (r:Int) 0).toNat=r:=by omega
    by_cases k1:cq < 0
    ·have e1:X.lev n s col (i+1)=some i:=by rw[X.lev,if_neg c1,hL];exact if_pos (.inl (by rw[←hq];exact hlt.1 k1))
     repeat'(first|refine gA ?_|(refine goG ?_;intro g)|(refine goV ?_;intro v)|refine goE ?_|(refine goEG ?_;intro g)|(refine goEV ?_;intro v)|refine goD ?_|refine goXD ?_|(refine goDG ?_;intro g)|(refine goDV ?_;intro v)|apply WD.more_of|refine WM.more (by exact rfl) (by exact rfl) (by exact rfl) ?_ ?_|refine WM.one (by exact rfl) (by exact rfl) (by exact rfl) ?_|refine WM.more0 (by exact rfl) (by exact rfl) ?_ ?_|refine WM.one0 (by exact rfl) (by exact rfl) ?_|(refine goLG ?_;intro g)|(refine goLV ?_;intro v)|refine goLS ?_|refine d134 ?_|fail)
     all_goals exact LoopEnd.mk (i+1,(i:Int),mq,_) ⟨by show i+1≤m;omega,by show(i:Int)=optI (X.lev n s col (i+1));rw[e1];rfl,by unfold lst;rw[e1]⟩ (by show m - (i+1) < m - i;omega)
    ·by_cases k2:cq=0
     ·by_cases k3:s.b i < s.b r
      ·have e1:X.lev n s col (i+1)=some i:=by rw[X.lev,if_neg c1,hL];exact if_pos (.inr ⟨by rw[←hq];exact heq.1 k2,k3⟩)
       have k4:s.b i < s.b (max (r:Int) 0).toNat:=by rw[er];exact k3
       repeat'(first|refine gA ?_|(refine goG ?_;intro g)|(refine goV ?_;intro v)|refine goE ?_|(refine goEG ?_;intro g)|(refine goEV ?_;intro v)|refine goD ?_|refine goXD ?_|(refine goDG ?_;intro g)|(refine goDV ?_;intro v)|apply WD.more_of|refine WM.more (by exact rfl) (by exact rfl) (by exact rfl) ?_ ?_|refine WM.one (by exact rfl) (by exact rfl) (by exact rfl) ?_|refine WM.more0 (by exact rfl) (by exact rfl) ?_ ?_|refine WM.one0 (by exact rfl) (by exact rfl) ?_|(refine goLG ?_;intro g)|(refine goLV ?_;intro v)|refine goLS ?_|refine d134 ?_|fail)
       all_goals exact LoopEnd.mk (i+1,(i:Int),mq,_) ⟨by show i+1≤m;omega,by show(i:Int)=optI (X.lev n s col (i+1));rw[e1];rfl,by unfold lst;rw[e1]⟩ (by show m - (i+1) < m - i;omega)
      ·have e1:X.lev n s col (i+1)=some r:=by rw[X.lev,if_neg c1,hL];exact if_neg (by rw[←hq];rintro(h|h);exact k1 (hlt.2 h);exact k3 h.2)
       have k4:¬s.b i < s.b (max (r:Int) 0).toNat:=by rw[er];exact k3
       repeat'(first|refine gA ?_|(refine goG ?_;intro g)|(refine goV ?_;intro v)|refine goE ?_|(refine goEG ?_;intro g)|(refine goEV ?_;intro v)|refine goD ?_|refine goXD ?_|(refine goDG ?_;intro g)|(refine goDV ?_;intro v)|apply WD.more_of|refine WM.more (by exact rfl) (by exact rfl) (by exact rfl) ?_ ?_|refine WM.one (by exact rfl) (by exact rfl) (by exact rfl) ?_|refine WM.more0 (by exact rfl) (by exact rfl) ?_ ?_|refine WM.one0 (by exact rfl) (by exact rfl) ?_|(refine goLG ?_;intro g)|(refine goLV ?_;intro v)|refine goLS ?_|refine d134 ?_|fail)
       all_goals exact LoopEnd.mk (i+1,(r:Int),ml,ql) ⟨by show i+1≤m;omega,by show(r:Int)=optI (X.lev n s col (i+1));rw[e1];rfl,by unfold lst;rw[e1];exact hq⟩ (by show m - (i+1) < m - i;omega)
     ·have e1:X.lev n s col (i+1)=some r:=by rw[X.lev,if_neg c1,hL];exact if_neg (by rw[←hq];rintro(h|h);exact k1 (hlt.2 h);exact k2 (heq.2 h.1))
      repeat'(first|refine gA ?_|(refine goG ?_;intro g)|(refine goV ?_;intro v)|refine goE ?_|(refine goEG ?_;intro g)|(refine goEV ?_;intro v)|refine goD ?_|refine goXD ?_|(refine goDG ?_;intro g)|(refine goDV ?_;intro v)|apply WD.more_of|refine WM.more (by exact rfl) (by exact rfl) (by exact rfl) ?_ ?_|refine WM.one (by exact rfl) (by exact rfl) (by exact rfl) ?_|refine WM.more0 (by exact rfl) (by exact rfl) ?_ ?_|refine WM.one0 (by exact rfl) (by exact rfl) ?_|(refine goLG ?_;intro g)|(refine goLV ?_;intro v)|refine goLS ?_|refine d134 ?_|fail)
      all_goals exact LoopEnd.mk (i+1,(r:Int),ml,ql) ⟨by show i+1≤m;omega,by show(r:Int)=optI (X.lev n s col (i+1));rw[e1];rfl,by unfold lst;rw[e1];exact hq⟩ (by show m - (i+1) < m - i;omega)
 ·obtain rfl:m=i:=by omega
  rw[←hbi]
  repeat'(first|refine gA ?_|(refine goG ?_;intro g)|(refine goV ?_;intro v)|refine goE ?_|(refine goEG ?_;intro g)|(refine goEV ?_;intro v)|refine goD ?_|refine goXD ?_|(refine goDG ?_;intro g)|(refine goDV ?_;intro v)|apply WD.more_of|refine WM.more (by exact rfl) (by exact rfl) (by exact rfl) ?_ ?_|refine WM.one (by exact rfl) (by exact rfl) (by exact rfl) ?_|refine WM.more0 (by exact rfl) (by exact rfl) ?_ ?_|refine WM.one0 (by exact rfl) (by exact rfl) ?_|(refine goLG ?_;intro g)|(refine goLV ?_;intro v)|refine goLS ?_|refine d134 ?_|fail)
  refine WC.ret ?_
  exact Fin.v (ResE.t1 rfl rfl) meA rfl
end U
end Go.Proofs.YtaongbhamadlkaaGreat
namespace Go.Proofs.YtaongbhamadlkaaGreat
open W Go.RowKit
def IsRP (xg m n:Nat) (tv bv:Value) (rv:Nat→Value) (b:Nat→Nat) (z:Nat→Rat):RPost:=fun v B G=>∃ cv mc,v=.tuple #[]∧B=RT xg m tv cv bv rv b∧G=[fF cv (n+1) mc z]
namespace U
open Z
attribute [local irreducible] WC WL WD YO LO LoopEnd W.Fin Scalar SliceT FieldAt Row ArrT AllocT KnS Has W.One SrcE IntT
theorem d72 {G G':Prop} (h:G') (s:Bx G'→G:=by
 intro h
 first|(apply WC.draw (id:=4) [0,1,2,3,4,5,6,7,8,9,10,11,12,13,14,15,16,17,18] (.held 0 (.held 1 (.held 2 (.held 3 (.held 4 (.held 5 (.held 6 (.held 7 (.held 8 (.held 9 (.held 10 (.held 11 (.held 12 (.held 13 (.held 14 (.held 15 (.held 16 (.held 17 (.held 18 (.loud 19 (.loud 20 (.loud 21 (.loud 22 (.done)))))))))))))))))))))))) mixed (by kernel_rfl))|fail
 exact Bx.h h):G:=s ⟨h⟩
set_option maxHeartbeats 8000000 in
set_option maxRecDepth 60000 in
theorem rprice_c (xg m n K:Nat) (tv cv0 bv vc:Value) (rv:Nat→Value) (ms:Nat→Nat→QM) (mk:Nat→QM) (s:X.St) (c1:Nat→Rat) (hm:m≤1000) (hn:n≤9000) (hK:4*K+1≤400000000) (hb:∀ i,i < m→s.b i < n)
  (hs:∀ i,i < m→∀ k,k < n+1→Sq K (s.t i k)) (hc:∀ i,i≤m→∀ k,k < n+1→Sq K (prS n c1 s i k)) :
  FnB Tryz.prog 72 [ptr xg,vc] (RT xg m tv cv0 bv rv s.b) [rF m (n+1) rv ms s.t,fF vc n mk c1] (IsRP xg m n tv bv rv s.b (prS n c1 s m)):=by
 refine fn_of [(0,(ptr xg)),(1,vc)] 45 Tryz.func72 rfl Tryz.ntmps72 (by kernel_rfl) rfl suA fun h0=>?_
 refine WC.fact (isQ (qv m00) 0) hasQ0 ?_
 repeat'(first|refine gA ?_|(refine goG ?_;intro g)|(refine goV ?_;intro v)|refine goE ?_|(refine goEG ?_;intro g)|(refine goEV ?_;intro v)|refine goD ?_|refine goXD ?_|(refine goDG ?_;intro g)|(refine goDV ?_;intro v)|refine gY ?_|refine d72 ?_|fail)
 revert v;intro cv
 refine WC.freezeF cv (n+1) (upd mk n m00) (cs0 n c1) (by repeat(first|exact Sel.head|apply Sel.tail)) ((W.Has.mFapp (n:=n) (ms:=mk) (m:=m00) (z:=0) (W.Has.fm (v:=vc) (ms:=mk) hmA) hasQ0).mFsame fun j hj=>by
  unfold cs0
  by_cases e:j=n
  ·subst e;rw[upd_at,if_neg (Nat.lt_irrefl _)]
  ·rw[upd_ne e,if_pos (by omega)]) ?_
 have hfl:=fnL_len m s.b
 refine WC.lp (σ:=Nat×Value×(Nat→QM)) (fun st=>[(4,.int .i64 (st.1:Int)),(0,ptr xg)]) (fun st=>RT xg m tv st.2.1 bv rv s.b)
  (fun st=>[fF st.2.1 (n+1) st.2.2 (prS n c1 s st.1),ge h0,rF m (n+1) rv ms s.t]) (fun st=>st.1≤m) (fun st=>m - st.1) (0,cv,upd mk n m00) (Nat.zero_le _) ?_ (hG:=.cons hmA sfA)
 rintro⟨i,cv',mc⟩ hi
 simp only at hi ⊢
 by_cases c:i < m
 ·have hbi:=hb i c
  refine WC.fact (fF (rv i) (n+1) (ms i) (s.t i)) (W.Has.tr (m:=m) hmA c) ?_
  repeat'(first|refine gA ?_|(refine goG ?_;intro g)|(refine goV ?_;intro v)|refine goE ?_|(refine goEG ?_;intro g)|(refine goEV ?_;intro v)|refine goD ?_|refine goXD ?_|(refine goDG ?_;intro g)|(refine goDV ?_;intro v)|refine gY ?_|refine d72 ?_|fail)
  refine WD.callK (wiped_c cv' (rv i) (n+1) K (s.b i) mc (ms i) (prS n c1 s i) (s.t i) (by omega) (by omega) hK (hc i (by omega)) (hs i c)) ?_
  rintro u _ _ ⟨mu,rfl,rfl⟩
  simp only[List.nil_append,List.cons_append]
  repeat'(first|refine gA ?_|(refine goG ?_;intro g)|(refine goV ?_;intro v)|refine goE ?_|(refine goEG ?_;intro g)|(refine goEV ?_;intro v)|refine goD ?_|refine goXD ?_|(refine goDG ?_;intro g)|(refine goDV ?_;intro v)|refine gY ?_|refine d72 ?_|fail)
  exact LoopEnd.mk (i+1,u,mu) (by show i+1≤m;omega) (by show m - (i+1) < m - i;omega)
 ·obtain rfl:m=i:=by omega
  repeat'(first|refine gA ?_|(refine goG ?_;intro g)|(refine goV ?_;intro v)|refine goE ?_|(refine goEG ?_;intro g)|(refine goEV ?_;intro v)|refine goD ?_|refine goXD ?_|(refine goDG ?_;intro g)|(refine goDV ?_;intro v)|refine gY ?_|refine d72 ?_|fail)
  exact Fin.p (RT xg m tv cv' bv rv s.b) [fF cv' (n+1) mc (prS n c1 s m)] (ResE.t0 rfl) meA slA haA ⟨_,_,rfl,rfl,rfl⟩
end U
end Go.Proofs.YtaongbhamadlkaaGreat
namespace Go.Proofs.YtaongbhamadlkaaGreat
open W Go.RowKit
def IsRR (xg m n:Nat) (tv bv:Value) (R:X.St×Option Nat):RPost:=fun v B G=>∃ cv rv ms mc,v=.int .i64 (optI R.2)∧B=RT xg m tv cv bv rv R.1.b∧G=[rF m (n+1) rv ms R.1.t,fF cv (n+1) mc R.1.c]
structure RQ where
 cv:Value
 rv:Nat→Value
 ms:Nat→Nat→QM
 mc:Nat→QM
 s:X.St
 f:Nat
namespace U
open Z
attribute [local irreducible] WC WL WD YO LO LoopEnd W.Fin Scalar SliceT FieldAt Row ArrT AllocT KnS Has W.One SrcE IntT
set_option maxHeartbeats 8000000 in
set_option maxRecDepth 60000 in
theorem rrun_c (xg m n e K f:Nat) (tv cv bv:Value) (rv:Nat→Value) (ms:Nat→Nat→QM) (mc:Nat→QM) (s:X.St) (R:X.St×Option Nat) (he:e≤n) (hm:m≤1000) (hn:n≤9000) (hK:K≤19000000) (hK0:0 < K)
  (hrun:X.runP m n e f s=some R) (I:X.St→Prop) (hI0:I s) (hI:∀ u k r,I u→X.ent u e=some k→X.lev n u k m=some r→I (X.pv u r k))
  (hS:∀ u,I u→(∀ i,i < m→∀ k,k < n+1→Sq K (u.t i k))∧∀ k,k < n+1→Sq K (u.c k)) :
  FnB Tryz.prog 73 [ptr xg,.int .i64 (e:Int)] (RT xg m tv cv bv rv s.b) [rF m (n+1) rv ms s.t,fF cv (n+1) mc s.c] (IsRR xg m n tv bv R):=by
 refine fn_of [(0,(ptr xg)),(1,(.int .i64 (e:Int)))] 36 Tryz.func73 rfl Tryz.ntmps73 (by kernel_rfl) rfl suA fun h0=>?_
 repeat'(first|refine gA ?_|(refine goG ?_;intro g)|(refine goV ?_;intro v)|refine goE ?_|(refine goEG ?_;intro g)|(refine goEV ?_;intro v))
 refine WC.lp (σ:=RQ) (fun st=>[(0,ptr xg),(1,.int .i64 (e:Int))]) (fun st=>RT xg m tv st.cv bv st.rv st.s.b)
  (fun st=>[rF m (n+1) st.rv st.ms st.s.t,fF st.cv (n+1) st.mc st.s.c,ge h0]) (fun st=>I st.s∧X.runP m n e st.f st.s=some R) (fun st=>st.f) ⟨cv,rv,ms,mc,s,f⟩ ⟨hI0,hrun⟩ ?_
 rintro⟨cv,rv,ms,mc,s,f⟩ ⟨hIs,hrs⟩
 simp only at hIs hrs ⊢
 obtain⟨hS1,hS2⟩:=hS s hIs
 cases f with
 |zero=>simp[X.runP] at hrs
 |succ f=>
  rw[X.runP] at hrs
  repeat'(first|refine gA ?_|(refine goG ?_;intro g)|(refine goV ?_;intro v)|refine goE ?_|(refine goEG ?_;intro g)|(refine goEV ?_;intro v))
  refine WC.lp (σ:=Nat) (fun k=>[(5,.int .i64 (k:Int)),(0,ptr xg),(1,.int .i64 (e:Int))]) (fun _=>RT xg m tv cv bv rv s.b)
   (fun _=>[rF m (n+1) rv ms s.t,fF cv (n+1) mc s.c,ge h0]) (fun k=>k≤e∧∀ j,j < k→0≤s.c j) (fun k=>e - k) 0 ⟨Nat.zero_le _,fun j hj=>by omega⟩ ?_
  rintro k ⟨hk,hpos⟩
  by_cases c:k < e
  ·refine WC.fact (isQ (qv (mc k)) (s.c k)) (W.Has.q (W.Has.fm (v:=cv) (ms:=mc) hmA) (by omega)) ?_
   have hng:=@sgn_neg (s.c k)
   repeat'(first|refine gA ?_|(refine goG ?_;intro g)|(refine goV ?_;intro v)|refine goE ?_|(refine goEG ?_;intro g)|(refine goEV ?_;intro v))
   first|refine WL.callV (Zn.rsign (mc k) (s.c k)) ?_|refine WD.callV (Zn.rsign (mc k) (s.c k)) ?_
   by_cases cs:s.c k < 0
   ·have cs':=hng.2 cs
    have hEn:X.ent s e=some k:=by
     rcases X.ent_spec s e with ⟨_,h2⟩|⟨j,h2,h3,h4,h5⟩
     ·have:=h2 k c;grind
     ·have:j=k:=by
       by_cases c1:j < k
       ·have:=hpos j c1;grind
       ·by_cases c2:k < j
        ·have:=h5 k c2;grind
        ·omega
      rw[h2,this]
    rw[hEn] at hrs
    dsimp only at hrs
    repeat'(first|refine gA ?_|(refine goG ?_;intro g)|(refine goV ?_;intro v)|refine goE ?_|(refine goEG ?_;intro g)|(refine goEV ?_;intro v))
    refine WL.callV (rleaving_c xg m n tv cv bv rv ms s k K (by omega) hm hn (by omega) hK0 hS1) ?_ (hF:=.cons (.c meA) (.cons (HasB.sV (el:=24) meA) (.cons (.f hmA) (.cons (HasB.sN (el:=3) meA) .nil))))
    cases hL:X.lev n s k m with
    |none=>
     rw[hL] at hrs
     simp only[Option.some.injEq] at hrs
     subst hrs
     rw[show optI none= -1 from rfl]
     repeat'(first|refine gA ?_|(refine goG ?_;intro g)|(refine goV ?_;intro v)|refine goE ?_|(refine goEG ?_;intro g)|(refine goEV ?_;intro v))
     refine WC.ret ?_
     exact Fin.p (RT xg m tv cv bv rv s.b) [rF m (n+1) rv ms s.t,fF cv (n+1) mc s.c] (ResE.t1 rfl rfl) meA slA haA ⟨_,_,_,_,rfl,rfl,rfl⟩
    |some r=>
     have hr:=lev_lt hL
     rw[hL] at hrs
     dsimp only at hrs
     rw[show optI (some r)=(r:Int) from rfl]
     repeat'(first|refine gA ?_|(refine goG ?_;intro g)|(refine goV ?_;intro v)|refine goE ?_|(refine goEG ?_;intro g)|(refine goEV ?_;intro v))
     refine WL.callG (RT xg m tv cv bv rv s.b) _ (.refl _) (rpivot_c xg m n r k K tv cv bv rv ms mc s hr (by omega) hm hn hK0 (by omega) hS1 hS2) ?_
     rintro _ _ _ ⟨cv',rv',ms',mc',rfl,rfl,rfl⟩
     simp only[List.nil_append,List.cons_append]
     repeat'(first|refine gA ?_|(refine goG ?_;intro g)|(refine goV ?_;intro v)|refine goE ?_|(refine goEG ?_;intro g)|(refine goEV ?_;intro v))
     exact LoopEnd.mk ⟨cv',rv',ms',mc',X.pv s r k,f⟩ ⟨hI s k r hIs hEn hL,hrs⟩ (by show f < f+1;omega)
   ·have cs':¬sgn (s.c k).num < 0:=fun h=>cs (hng.1 h)
    repeat'(first|refine gA ?_|(refine goG ?_;intro g)|(refine goV ?_;intro v)|refine goE ?_|(refine goEG ?_;intro g)|(refine goEV ?_;intro v))
    exact LoopEnd.mk (k+1) ⟨c,fun j hj=>by
     by_cases ej:j=k
     ·subst ej;grind
     ·exact hpos j (by omega)⟩ (by show e - (k+1) < e - k;omega)
  ·obtain rfl:k=e:=by omega
   have hEn:X.ent s k=none:=by
    rcases X.ent_spec s k with ⟨h2,_⟩|⟨j,h2,h3,h4,h5⟩
    ·exact h2
    ·have:=hpos j h3;grind
   rw[hEn] at hrs
   simp only[Option.some.injEq] at hrs
   subst hrs
   repeat'(first|refine gA ?_|(refine goG ?_;intro g)|(refine goV ?_;intro v)|refine goE ?_|(refine goEG ?_;intro g)|(refine goEV ?_;intro v))
   refine WC.ret ?_
   exact Fin.p (RT xg m tv cv bv rv s.b) [rF m (n+1) rv ms s.t,fF cv (n+1) mc s.c] (ResE.t1 rfl rfl) meA slA haA ⟨_,_,_,_,rfl,rfl,rfl⟩
end U
end Go.Proofs.YtaongbhamadlkaaGreat
namespace Go.Proofs.YtaongbhamadlkaaGreat
open W Go.RowKit
def rowB (p:X.Lp) (i k:Nat):Rat:=if k < p.v then p.a i k else if k < 2*p.v then -(p.a i (k - p.v)) else if k < p.n then(if k=2*p.v+i then 1 else 0) else p.b i
theorem rowB_pos {p:X.Lp} {i k:Nat} (hi:i < p.m) (h:¬p.b i < 0) (hk:k < p.n+1):rowB p i k=p.A i k:=by
 have hs:p.sg i=1:=if_neg h
 unfold rowB X.Lp.A X.Lp.la
 rw[hs]
 unfold X.Lp.n at *
 by_cases c1:k < p.v
 ·rw[if_pos c1,if_pos c1];grind
 by_cases c2:k < 2*p.v
 ·rw[if_neg c1,if_neg c1,if_pos c2,if_pos c2];grind
 by_cases c3:k < 2*p.v+2*p.m
 ·rw[if_neg c1,if_neg c1,if_neg c2,if_neg c2,if_pos c3]
  by_cases c4:k < 2*p.v+p.m
  ·rw[if_pos c4]
  ·rw[if_neg c4,if_pos c3,if_neg (by omega),if_neg (fun e=>h e.2)]
 ·rw[if_neg c1,if_neg c1,if_neg c2,if_neg c2,if_neg c3,if_neg (by omega),if_neg c3];grind
theorem rowB_neg {p:X.Lp} {i k:Nat} (hi:i < p.m) (h:p.b i < 0) (hk:k < p.n+1):upd (fun k=>-(rowB p i k)) (p.la+i) 1 k=p.A i k:=by
 have hs:p.sg i= -1:=if_pos h
 unfold X.Lp.A
 rw[hs]
 by_cases e:k=p.la+i
 ·subst e
  rw[upd_at]
  unfold X.Lp.la X.Lp.n
  rw[if_neg (by omega),if_neg (by omega),if_neg (by omega),if_pos (by omega),if_pos ⟨rfl,h⟩]
 rw[upd_ne e]
 unfold rowB
 unfold X.Lp.la X.Lp.n at *
 by_cases c1:k < p.v
 ·rw[if_pos c1,if_pos c1];grind
 by_cases c2:k < 2*p.v
 ·rw[if_neg c1,if_neg c1,if_pos c2,if_pos c2];grind
 by_cases c3:k < 2*p.v+2*p.m
 ·rw[if_neg c1,if_neg c1,if_neg c2,if_neg c2,if_pos c3]
  by_cases c4:k < 2*p.v+p.m
  ·rw[if_pos c4]
   by_cases e2:k=2*p.v+i
   ·rw[if_pos e2,if_pos e2]
   ·rw[if_neg e2,if_neg e2];grind
  ·rw[if_neg c4,if_pos c3,if_neg (by omega),if_neg (fun e2=>e e2.1)];grind
 ·rw[if_neg c1,if_neg c1,if_neg c2,if_neg c2,if_neg c3,if_neg (by omega),if_neg c3];grind
def IsBg (p:X.Lp):RPost:=fun v B G=>∃ xg tv bv rv ms,v=ptr xg∧B=RT xg p.m tv (.slice none 0 0) bv rv p.s0.b∧G=[rF p.m (p.n+1) rv ms p.A]
namespace U
open Z
attribute [local irreducible] WC WL WD YO LO LoopEnd W.Fin Scalar SliceT FieldAt Row ArrT AllocT KnS Has W.One SrcE IntT
set_option maxHeartbeats 4000000 in
set_option maxRecDepth 60000 in
theorem negated_o (v:Value) (n:Nat) (ms:Nat→QM) (a:Nat→Rat) (hn:n≤10000) (ha:∀ i,i < n→Sm (a i)):FnB Tryz.prog 35 [v] [] [fF v n ms a] (IsOF n fun k=>-(a k)):=by
 refine fn_of [(0,v)] 6 Tryz.func35 rfl Tryz.ntmps35 (by kernel_rfl) rfl suA fun h0=>?_
 repeat'(first|refine gA ?_|(refine goG ?_;intro g)|(refine goV ?_;intro v)|refine goE ?_|(refine goEG ?_;intro g)|(refine goEV ?_;intro v))
 first|refine WL.callK (Zn.rof (-1) 1 (by decide) (by decide)) ?_|refine WD.callK (Zn.rof (-1) 1 (by decide) (by decide)) ?_|refine LO.callM (Zn.rof (-1) 1 (by decide) (by decide)) ?_
 rintro _ _ _ ⟨m1,rfl,rfl,rfl⟩
 simp only[List.nil_append,List.cons_append]
 rw[show Rat.divInt (-1) 1= -1 by decide +kernel]
 repeat'(first|refine gA ?_|(refine goG ?_;intro g)|(refine goV ?_;intro v)|refine goE ?_|(refine goEG ?_;intro g)|(refine goEV ?_;intro v))
 refine WL.callK (scaled_c v n ms a m1 (-1) hn ha (by constructor <;> decide +kernel)) ?_
 rintro u _ _ ⟨mu,rfl,rfl⟩
 simp only[List.nil_append,List.cons_append]
 refine WL.fact' (mF n mu fun k=>-(a k)) (W.Has.mFsame (qf:=fun k=>a k*(-1)) hmA fun k _=>by grind) ?_
 repeat'(first|refine gA ?_|(refine goG ?_;intro g)|(refine goV ?_;intro v)|refine goE ?_|(refine goEG ?_;intro g)|(refine goEV ?_;intro v))
 refine WC.ret ?_
 exact Fin.p [Ow.slice u 31 4 (qcells n mu)] [mF n mu fun k=>-(a k)] (ResE.t1 rfl rfl) meA slA haA ⟨mu,rfl,rfl⟩
set_option maxHeartbeats 4000000 in
set_option maxRecDepth 60000 in
theorem negated_f (v:Value) (n:Nat) (ms:Nat→QM) (a:Nat→Rat) (hn:n≤10000) (ha:∀ i,i < n→Sm (a i)):FnB Tryz.prog 35 [v] [] [fF v n ms a] (IsF n fun k=>-(a k)):=by
 refine fn_of [(0,v)] 6 Tryz.func35 rfl Tryz.ntmps35 (by kernel_rfl) rfl suA fun h0=>?_
 repeat'(first|refine gA ?_|(refine goG ?_;intro g)|(refine goV ?_;intro v)|refine goE ?_|(refine goEG ?_;intro g)|(refine goEV ?_;intro v))
 first|refine WL.callK (Zn.rof (-1) 1 (by decide) (by decide)) ?_|refine WD.callK (Zn.rof (-1) 1 (by decide) (by decide)) ?_|refine LO.callM (Zn.rof (-1) 1 (by decide) (by decide)) ?_
 rintro _ _ _ ⟨m1,rfl,rfl,rfl⟩
 simp only[List.nil_append,List.cons_append]
 rw[show Rat.divInt (-1) 1= -1 by decide +kernel]
 repeat'(first|refine gA ?_|(refine goG ?_;intro g)|(refine goV ?_;intro v)|refine goE ?_|(refine goEG ?_;intro g)|(refine goEV ?_;intro v))
 refine WL.callK (scaled_c v n ms a m1 (-1) hn ha (by constructor <;> decide +kernel)) ?_
 rintro u _ _ ⟨mu,rfl,rfl⟩
 simp only[List.nil_append,List.cons_append]
 refine WL.freezeF u n mu (fun k=>-(a k)) (by repeat(first|exact Sel.head|apply Sel.tail)) (W.Has.mFsame (qf:=fun k=>a k*(-1)) hmA fun k _=>by grind) ?_
 repeat'(first|refine gA ?_|(refine goG ?_;intro g)|(refine goV ?_;intro v)|refine goE ?_|(refine goEG ?_;intro g)|(refine goEV ?_;intro v))
 refine WC.ret ?_
 exact Fin.p [] [fF u n mu fun k=>-(a k)] (ResE.t1 rfl rfl) meA (List.nil_sublist _) haA ⟨mu,rfl,rfl⟩
end U
end Go.Proofs.YtaongbhamadlkaaGreat
namespace Go.Proofs.YtaongbhamadlkaaGreat
open Go.RowKit Go.Sort Go.Shelf
def laySort_ren:Go.Shelf.Ren:=⟨fun|5=>83|8=>140|7=>139|19=>192|20=>193|10=>183|11=>184|12=>185|13=>186|14=>187|15=>188|16=>189|17=>190|18=>191|30=>203|31=>204|32=>205|33=>206|34=>207|35=>208|40=>213|n=>n,fun|23=>22|25=>3|3=>3|32=>156|22=>22|0=>0|44=>188|46=>162|4=>4|36=>181|35=>180|41=>185|5=>5|9=>9|53=>195|57=>199|63=>204|64=>205|n=>n,fun|n=>n⟩
theorem laySort:SlLaysM.n5 Tryz.prog laySort_ren:={
 mixed:=by kernel_rfl
 f5:=⟨Tryz.f83.name,by decide,Tryz.func83.trans (congrArg some (by kernel_rfl))⟩
 f7:=⟨Tryz.f139.name,by decide,Tryz.func139.trans (congrArg some (by kernel_rfl))⟩
 f8:=Tryz.func140.trans (congrArg some (by kernel_rfl))
 f10:=⟨Tryz.f183.name,by decide,Tryz.func183.trans (congrArg some (by kernel_rfl))⟩
 f11:=⟨Tryz.f184.name,by decide,Tryz.func184.trans (congrArg some (by kernel_rfl))⟩
 f12:=⟨Tryz.f185.name,by decide,Tryz.func185.trans (congrArg some (by kernel_rfl))⟩
 f13:=⟨Tryz.f186.name,by decide,Tryz.func186.trans (congrArg some (by kernel_rfl))⟩
 f14:=⟨Tryz.f187.name,by decide,Tryz.func187.trans (congrArg some (by kernel_rfl))⟩
 f15:=⟨Tryz.f188.name,by decide,Tryz.func188.trans (congrArg some (by kernel_rfl))⟩
 f16:=⟨Tryz.f189.name,by decide,Tryz.func189.trans (congrArg some (by kernel_rfl))⟩
 f17:=⟨Tryz.f190.name,by decide,Tryz.func190.trans (congrArg some (by kernel_rfl))⟩
 f18:=⟨Tryz.f191.name,by decide,Tryz.func191.trans (congrArg some (by kernel_rfl))⟩
 f19:=Tryz.func192.trans (congrArg some (by kernel_rfl))
 f20:=Tryz.func193.trans (congrArg some (by kernel_rfl))
 f30:=⟨Tryz.f203.name,by decide,Tryz.func203.trans (congrArg some (by kernel_rfl))⟩
 f31:=Tryz.func204.trans (congrArg some (by kernel_rfl))
 f32:=Tryz.func205.trans (congrArg some (by kernel_rfl))
 f33:=⟨Tryz.f206.name,by decide,Tryz.func206.trans (congrArg some (by kernel_rfl))⟩
 f34:=⟨Tryz.f207.name,by decide,Tryz.func207.trans (congrArg some (by kernel_rfl))⟩
 f35:=⟨Tryz.f208.name,by decide,Tryz.func208.trans (congrArg some (by kernel_rfl))⟩
 f40:=⟨Tryz.f213.name,by decide,Tryz.func213.trans (congrArg some (by kernel_rfl))⟩
 t0:=Tryz.underlying0
 a0:=Tryz.isAgg0
 z0:=Tryz.sizeOf0
 v0:=Tryz.zeroValue0
 t3:=Tryz.underlying3
 a3:=Tryz.isAgg3
 z3:=Tryz.sizeOf3
 v3:=Tryz.zeroValue3
 t4:=Tryz.underlying4
 a4:=Tryz.isAgg4
 z4:=Tryz.sizeOf4
 v4:=Tryz.zeroValue4
 t5:=Tryz.underlying5
 a5:=Tryz.isAgg5
 z5:=Tryz.sizeOf5
 v5:=Tryz.zeroValue5
 t9:=Tryz.underlying9
 a9:=Tryz.isAgg9
 z9:=Tryz.sizeOf9
 v9:=Tryz.zeroValue9
 t22:=Tryz.underlying22
 a22:=Tryz.isAgg22
 z22:=Tryz.sizeOf22
 v22:=Tryz.zeroValue22
 t23:=Tryz.underlying22
 a23:=Tryz.isAgg22
 z23:=Tryz.sizeOf22
 v23:=Tryz.zeroValue22
 t25:=Tryz.underlying3
 a25:=Tryz.isAgg3
 z25:=Tryz.sizeOf3
 v25:=Tryz.zeroValue3
 t32:=Tryz.underlying156
 a32:=Tryz.isAgg156
 z32:=Tryz.sizeOf156
 v32:=Tryz.zeroValue156
 t35:=Tryz.underlying180
 a35:=Tryz.isAgg180
 z35:=Tryz.sizeOf180
 v35:=Tryz.zeroValue180
 t36:=Tryz.underlying181
 a36:=Tryz.isAgg181
 z36:=Tryz.sizeOf181
 v36:=Tryz.zeroValue181
 t41:=Tryz.underlying185
 a41:=Tryz.isAgg185
 z41:=Tryz.sizeOf185
 v41:=Tryz.zeroValue185
 t44:=Tryz.underlying188
 a44:=Tryz.isAgg188
 z44:=Tryz.sizeOf188
 v44:=Tryz.zeroValue188
 t46:=Tryz.underlying162
 a46:=Tryz.isAgg162
 z46:=Tryz.sizeOf162
 v46:=Tryz.zeroValue162
 t53:=Tryz.underlying195
 a53:=Tryz.isAgg195
 z53:=Tryz.sizeOf195
 v53:=Tryz.zeroValue195
 t57:=Tryz.underlying199
 a57:=Tryz.isAgg199
 z57:=Tryz.sizeOf199
 v57:=Tryz.zeroValue199
 t63:=Tryz.underlying204
 a63:=Tryz.isAgg204
 z63:=Tryz.sizeOf204
 v63:=Tryz.zeroValue204
 t64:=Tryz.underlying205
 a64:=Tryz.isAgg205
 z64:=Tryz.sizeOf205
 v64:=Tryz.zeroValue205}
def layCompact_ren:Go.Shelf.Ren:=⟨fun|20=>84|n=>n,fun|22=>22|3=>3|4=>4|0=>0|n=>n,fun|n=>n⟩
theorem layCompact:Lays2.n20 Tryz.prog layCompact_ren:={
 mixed:=by kernel_rfl
 f20:=Tryz.func84.trans (congrArg some (by kernel_rfl))
 t0:=Tryz.underlying0
 a0:=Tryz.isAgg0
 z0:=Tryz.sizeOf0
 v0:=Tryz.zeroValue0
 t3:=Tryz.underlying3
 a3:=Tryz.isAgg3
 z3:=Tryz.sizeOf3
 v3:=Tryz.zeroValue3
 t4:=Tryz.underlying4
 a4:=Tryz.isAgg4
 z4:=Tryz.sizeOf4
 v4:=Tryz.zeroValue4
 t22:=Tryz.underlying22
 a22:=Tryz.isAgg22
 z22:=Tryz.sizeOf22
 v22:=Tryz.zeroValue22
 i3:=by kernel_rfl}
def layDelete_ren:Go.Shelf.Ren:=⟨fun|10=>80|6=>138|n=>n,fun|22=>22|23=>3|25=>111|3=>3|4=>4|0=>0|n=>n,fun|n=>n⟩
theorem layDelete:SlLaysH.n10 Tryz.prog layDelete_ren:={
 mixed:=by kernel_rfl
 f6:=⟨Tryz.f138.name,by decide,Tryz.func138.trans (congrArg some (by kernel_rfl))⟩
 f10:=⟨Tryz.f80.name,by decide,Tryz.func80.trans (congrArg some (by kernel_rfl))⟩
 t0:=Tryz.underlying0
 a0:=Tryz.isAgg0
 z0:=Tryz.sizeOf0
 v0:=Tryz.zeroValue0
 t3:=Tryz.underlying3
 a3:=Tryz.isAgg3
 z3:=Tryz.sizeOf3
 v3:=Tryz.zeroValue3
 t4:=Tryz.underlying4
 a4:=Tryz.isAgg4
 z4:=Tryz.sizeOf4
 v4:=Tryz.zeroValue4
 t22:=Tryz.underlying22
 a22:=Tryz.isAgg22
 z22:=Tryz.sizeOf22
 v22:=Tryz.zeroValue22
 a23:=Tryz.isAgg3
 z23:=Tryz.sizeOf3
 t25:=Tryz.underlying111
 a25:=Tryz.isAgg111
 z25:=Tryz.sizeOf111
 v25:=Tryz.zeroValue111}
end Go.Proofs.YtaongbhamadlkaaGreat
namespace Go.Proofs.YtaongbhamadlkaaGreat
open Go.RowKit Go.Sort Go.Shelf W
def srt (l:List Int):List Int:=l.mergeSort fun x y=>decide (x≤y)
theorem srt_len (l:List Int):(srt l).length=l.length:=by unfold srt;exact List.length_mergeSort l
def IsSrt (v:Value) (new:List Int):RPost:=fun u b G=>u=.tuple #[]∧b=[Ow.slice v 3 1 (ints new)]∧G=[]
theorem row_fn {f:FuncId} {rest:List Value} {l new:List Int} {v:Value} {F:List Fct} (hc:Callable Tryz.prog f) (hne:l≠[]) (hlen:new.length≤l.length)
  (h:∀ fr w g cap,v=.slice (some ⟨g,0,none⟩) l.length cap→l.length≤cap→OK fr [Ow.slice v 3 1 (ints l)] F w→Holds (Value.int .i64) w g 0 l.toArray→Calls Tryz.prog f (v::rest).toArray w fun e w'=>e=.returned (.slice (some ⟨g,0,none⟩) new.length cap)∧∃ q,w'=putRow (Value.int .i64) (Sort.ahead w q) g 0 (new++List.replicate (l.length - new.length) 0).toArray) :
  FnB Tryz.prog f (v::rest) [Ow.slice v 3 1 (ints l)] F (IsO 3 1 (ints new)):=by
 refine⟨hc,fun fr w ho=>?_⟩
 obtain⟨n,h1,⟨_,h2⟩|⟨g,cap,sp,rfl,h3,h4,h5,h6⟩⟩:=ho.owns _ (.head _)
 ·exfalso;subst h2;simp at h1;exact hne h1
 have hn:n=l.length:=by simpa using h1.symm
 subst hn
 have hH:Holds (Value.int .i64) w g 0 l.toArray:=fun j hj=>by
  have hj':j < l.length:=by simpa using hj
  constructor
  ·unfold World.cell?
   rw[h5]
   simp[hj']
   rw[List.getElem?_append_left (by simpa using hj')]
   simp[hj']
  ·unfold World.frozen?;rw[h5];simp
 refine(h fr w g cap rfl h3 ho hH).mono ?_
 rintro e w' ⟨rfl,q,rfl⟩
 have hw':(putRow (Value.int .i64) (Sort.ahead w q) g 0 (new++List.replicate (l.length - new.length) 0).toArray).heap[g]?=some (.cells (ints new++(ints (List.replicate (l.length - new.length) 0)++sp)).toArray 3 (0,0)):=by
  unfold putRow mapBlock
  show(w.heap.modify g _)[g]?=_
  rw[Array.getElem?_modify,if_pos rfl,h5]
  simp only[Option.map_some,onCells]
  congr 2
  apply Array.ext_getElem?
  intro k
  unfold putCells
  rw[Array.getElem?_mapIdx]
  simp only[List.getElem?_toArray]
  rw[←List.append_assoc]
  by_cases hk:k < l.length
  ·rw[List.getElem?_append_left (by simpa using hk),List.getElem?_append_left (by simp;omega)]
   have e1:(ints l)[k]?=some (.int .i64 l[k]):=by simp[hk]
   rw[e1,Option.map_some,if_pos (by simp;omega)]
   rw[show ints new++ints (List.replicate (l.length - new.length) 0)=ints (new++List.replicate (l.length - new.length) 0) by simp[ints]]
   have hk2:k < (new++List.replicate (l.length - new.length) 0).length:=by simp;omega
   have e3:(ints (new++List.replicate (l.length - new.length) 0))[k]?=some (.int .i64 (new++List.replicate (l.length - new.length) 0)[k]):=by
    unfold ints;rw[List.getElem?_map,List.getElem?_eq_getElem hk2];rfl
   rw[e3,getElem!_pos _ _ (by simpa using hk2)]
   rfl
  ·rw[List.getElem?_append_right (by simp;omega),List.getElem?_append_right (by simp;omega)]
   have e2:(ints l).length=(ints new++ints (List.replicate (l.length - new.length) 0)).length:=by simp;omega
   rw[e2]
   cases sp[k - (ints new++ints (List.replicate (l.length - new.length) 0)).length]? with
   |none=>rfl
   |some x=>rw[Option.map_some,if_neg (by simp;omega)]
 have hother:∀ k,k≠g→(putRow (Value.int .i64) (Sort.ahead w q) g 0 (new++List.replicate (l.length - new.length) 0).toArray).heap[k]?=w.heap[k]?:=fun k hk=>by
  unfold putRow mapBlock
  show(w.heap.modify g _)[k]?=_
  rw[Array.getElem?_modify,if_neg (fun h=>hk h.symm)]
 have hids:∀ k∈ids [Ow.slice (.slice (some ⟨g,0,none⟩) new.length cap) 3 1 (ints new)],k∈ids [Ow.slice (.slice (some ⟨g,0,none⟩) l.length cap) 3 1 (ints l)]∨w.heap.size≤k:=fun k hk=>.inl (by simpa [ids,Ow.ids] using hk)
 have hkeep:∀ k,k < w.heap.size→k∉ids [Ow.slice (.slice (some ⟨g,0,none⟩) l.length cap) 3 1 (ints l)]→(putRow (Value.int .i64) (Sort.ahead w q) g 0 (new++List.replicate (l.length - new.length) 0).toArray).heap[k]?=w.heap[k]?:=fun k _ hk=>hother k (by simpa [ids,Ow.ids] using hk)
 refine⟨_,[Ow.slice (.slice (some ⟨g,0,none⟩) new.length cap) 3 1 (ints new)],[],rfl,⟨rfl,rfl⟩,⟨rfl,rfl,rfl⟩,?_,?_⟩
 ·have:=imm_step (ob:=[Ow.slice (.slice (some ⟨g,0,none⟩) l.length cap) 3 1 (ints l)]) (bx:=[]) (nb:=[Ow.slice (.slice (some ⟨g,0,none⟩) new.length cap) 3 1 (ints new)]) ho hkeep hids
  simpa using this
 ·have:=OK.step (ob:=[Ow.slice (.slice (some ⟨g,0,none⟩) l.length cap) 3 1 (ints l)]) (bx:=[]) (nb:=[Ow.slice (.slice (some ⟨g,0,none⟩) new.length cap) 3 1 (ints new)]) ho hkeep hids (by simp[ids,Ow.ids]) (fun b hb=>by
   rw[List.mem_singleton] at hb;subst hb
   refine⟨new.length,by simp,.inr ⟨g,cap,ints (List.replicate (l.length - new.length) 0)++sp,rfl,by omega,h4,hw',?_⟩⟩
   simp only[List.length_append,List.length_map,List.length_replicate] at h6 ⊢
   omega)
  exact this.less (fun f hf=>by cases hf)
theorem compact_le (l:List Int):(Lib.compact l).length≤l.length:=by
 unfold Lib.compact Lib.compactUpTo
 rw[List.length_map]
 exact Nat.le_trans (List.length_filter_le _ _) (by simp)
theorem compact_c (v:Value) (l:List Int) (hl:l.length≤1000000) (hne:l≠[]):FnB Tryz.prog 84 [v] [Ow.slice v 3 1 (ints l)] [] (IsO 3 1 (ints (Lib.compact l))):=
 row_fn ⟨Tryz.f84,Tryz.func84,by kernel_rfl,by kernel_rfl⟩ hne (compact_le l) fun fr w g cap hv hcap _ hH=>by
  subst hv
  exact Any.slices_Compact_int layCompact g 0 cap l w hH (by omega) hcap
theorem delete_row {v:Value} {l:List Int} {F:List Fct} (hl:l.length≤1000000) (hne:l≠[]) (p:Int→Bool) (g:Nat) (lb:Array Value) (eg:∀ args w,(callFunc g args).run Tryz.prog w=.ok (.enter g args) w)
  (hp:∀ fr w b cap,v=.slice (some ⟨b,0,none⟩) l.length cap→OK fr [Ow.slice v 3 1 (ints l)] F w→PredAt Tryz.prog g lb (Value.int .i64) p w∧PredOver Tryz.prog g lb (Value.int .i64) p b 0 l.length w) :
  FnB Tryz.prog 80 [v,.func (.func g) #[] lb] [Ow.slice v 3 1 (ints l)] F (IsO 3 1 (ints (l.filter fun x=>!p x))):=
 row_fn ⟨Tryz.f80,Tryz.func80,by kernel_rfl,by kernel_rfl⟩ hne (List.length_filter_le _ _) fun fr w b cap hv hcap ho hH=>by
  obtain⟨h1,h2⟩:=hp fr w b cap hv ho
  subst hv
  have:=AnyE.slices_DeleteFunc layDelete (Value.int .i64) (fun _=>rfl) p g lb eg 0 (fun w=>Tryz.zeroValue3 w) b 0 cap l.toArray w h1 h2 hH (by simp;omega) (by simpa using hcap)
  exact this
theorem sort_fn {f:FuncId} {l new:List Int} {v:Value} {F:List Fct} (hc:Callable Tryz.prog f) (hne:l≠[]) (hlen:new.length=l.length)
  (h:∀ w g cap,g < w.heap.size→Holds (Value.int .i64) w g 0 l.toArray→Calls Tryz.prog f #[.slice (some ⟨g,0,none⟩) l.length cap] w fun e w'=>e=.returned (.tuple #[])∧∃ q os,w'=Sort.grow (putRow (Value.int .i64) (Sort.ahead w q) g 0 new.toArray) os) :
  FnB Tryz.prog f [v] [Ow.slice v 3 1 (ints l)] F (IsSrt v new):=by
 refine⟨hc,fun fr w ho=>?_⟩
 obtain⟨n,h1,⟨_,h2⟩|⟨g,cap,sp,rfl,h3,h4,h5,h6⟩⟩:=ho.owns _ (.head _)
 ·exfalso;subst h2;simp at h1;exact hne h1
 have hn:n=l.length:=by simpa using h1.symm
 subst hn
 have hH:Holds (Value.int .i64) w g 0 l.toArray:=fun j hj=>by
  have hj':j < l.length:=by simpa using hj
  constructor
  ·unfold World.cell?
   rw[h5]
   simp[hj']
   rw[List.getElem?_append_left (by simpa using hj')]
   simp[hj']
  ·unfold World.frozen?;rw[h5];simp
 have hgl:g < w.heap.size:=(Array.getElem?_eq_some_iff.1 h5).1
 refine(h w g cap hgl hH).mono ?_
 rintro e w' ⟨rfl,q,os,rfl⟩
 have hw':(putRow (Value.int .i64) (Sort.ahead w q) g 0 (new++List.replicate (l.length - new.length) 0).toArray).heap[g]?=some (.cells (ints new++(ints (List.replicate (l.length - new.length) 0)++sp)).toArray 3 (0,0)):=by
  unfold putRow mapBlock
  show(w.heap.modify g _)[g]?=_
  rw[Array.getElem?_modify,if_pos rfl,h5]
  simp only[Option.map_some,onCells]
  congr 2
  apply Array.ext_getElem?
  intro k
  unfold putCells
  rw[Array.getElem?_mapIdx]
  simp only[List.getElem?_toArray]
  rw[←List.append_assoc]
  by_cases hk:k < l.length
  ·rw[List.getElem?_append_left (by simpa using hk),List.getElem?_append_left (by simp;omega)]
   have e1:(ints l)[k]?=some (.int .i64 l[k]):=by simp[hk]
   rw[e1,Option.map_some,if_pos (by simp;omega)]
   rw[show ints new++ints (List.replicate (l.length - new.length) 0)=ints (new++List.replicate (l.length - new.length) 0) by simp[ints]]
   have hk2:k < (new++List.replicate (l.length - new.length) 0).length:=by simp;omega
   have e3:(ints (new++List.replicate (l.length - new.length) 0))[k]?=some (.int .i64 (new++List.replicate (l.length - new.length) 0)[k]):=by
    unfold ints;rw[List.getElem?_map,List.getElem?_eq_getElem hk2];rfl
   rw[e3,getElem!_pos _ _ (by simpa using hk2)]
   rfl
  ·rw[List.getElem?_append_right (by simp;omega),List.getElem?_append_right (by simp;omega)]
   have e2:(ints l).length=(ints new++ints (List.replicate (l.length - new.length) 0)).length:=by simp;omega
   rw[e2]
   cases sp[k - (ints new++ints (List.replicate (l.length - new.length) 0)).length]? with
   |none=>rfl
   |some x=>rw[Option.map_some,if_neg (by simp;omega)]
 have hother:∀ k,k≠g→(putRow (Value.int .i64) (Sort.ahead w q) g 0 (new++List.replicate (l.length - new.length) 0).toArray).heap[k]?=w.heap[k]?:=fun k hk=>by
  unfold putRow mapBlock
  show(w.heap.modify g _)[k]?=_
  rw[Array.getElem?_modify,if_neg (fun h=>hk h.symm)]
 have hx:new++List.replicate (l.length - new.length) 0=new:=by rw[hlen,Nat.sub_self];simp
 rw[hx] at hw' hother
 have hsz:(putRow (Value.int .i64) (Sort.ahead w q) g 0 new.toArray).heap.size=w.heap.size:=by unfold putRow mapBlock;show(w.heap.modify g _).size=_;simp
 have hold:∀ k,k < w.heap.size→(Sort.grow (putRow (Value.int .i64) (Sort.ahead w q) g 0 new.toArray) os).heap[k]?=(putRow (Value.int .i64) (Sort.ahead w q) g 0 new.toArray).heap[k]?:=fun k hk=>Sort.heap_grow_old _ os (by rw[hsz];exact hk)
 rw[←hold g hgl] at hw'
 have hids:∀ k∈ids [Ow.slice (.slice (some ⟨g,0,none⟩) l.length cap) 3 1 (ints new)],k∈ids [Ow.slice (.slice (some ⟨g,0,none⟩) l.length cap) 3 1 (ints l)]∨w.heap.size≤k:=fun k hk=>.inl (by simpa [ids,Ow.ids] using hk)
 have hkeep:∀ k,k < w.heap.size→k∉ids [Ow.slice (.slice (some ⟨g,0,none⟩) l.length cap) 3 1 (ints l)]→(Sort.grow (putRow (Value.int .i64) (Sort.ahead w q) g 0 new.toArray) os).heap[k]?=w.heap[k]?:=fun k hkl hk=>by rw[hold k hkl];exact hother k (by simpa [ids,Ow.ids] using hk)
 refine⟨_,[Ow.slice (.slice (some ⟨g,0,none⟩) l.length cap) 3 1 (ints new)],[],rfl,⟨rfl,rfl,rfl⟩,⟨rfl,rfl,rfl⟩,?_,?_⟩
 ·have:=imm_step (ob:=[Ow.slice (.slice (some ⟨g,0,none⟩) l.length cap) 3 1 (ints l)]) (bx:=[]) (nb:=[Ow.slice (.slice (some ⟨g,0,none⟩) l.length cap) 3 1 (ints new)]) ho hkeep hids
  simpa using this
 ·have:=OK.step (ob:=[Ow.slice (.slice (some ⟨g,0,none⟩) l.length cap) 3 1 (ints l)]) (bx:=[]) (nb:=[Ow.slice (.slice (some ⟨g,0,none⟩) l.length cap) 3 1 (ints new)]) ho hkeep hids (by simp[ids,Ow.ids]) (fun b hb=>by
   rw[List.mem_singleton] at hb;subst hb
   refine⟨l.length,by simp[hlen],.inr ⟨g,cap,ints (List.replicate (l.length - new.length) 0)++sp,rfl,h3,h4,hw',?_⟩⟩
   simp only[List.length_append,List.length_map,List.length_replicate] at h6 ⊢
   omega)
  exact this.less (fun f hf=>by cases hf)
theorem sort0_c (v:Value):FnB Tryz.prog 83 [v] [Ow.slice v 3 1 (ints [])] [] (IsSrt v []):=by
 refine⟨⟨Tryz.f83,Tryz.func83,by kernel_rfl,by kernel_rfl⟩,fun fr w ho=>?_⟩
 have hv:∃ p cap,v=.slice p 0 cap:=by
  obtain⟨n,h1,⟨h2,h3⟩|⟨g,cap,sp,rfl,h3,h4,h5,h6⟩⟩:=ho.owns _ (.head _)
  ·exact⟨_,_,h2⟩
  ·have:n=0:=by simpa using h1.symm
   subst this;exact⟨_,_,rfl⟩
 obtain⟨p,cap,rfl⟩:=hv
 refine(AnyM.slices_Sort_int_none laySort p cap w).mono ?_
 rintro e w' ⟨rfl,rfl⟩
 exact⟨_,[Ow.slice (.slice p 0 cap) 3 1 (ints [])],[],rfl,⟨rfl,rfl,rfl⟩,W.Rest.refl _,fun _ _ h=>h,ho⟩
theorem sort_c (v:Value) (l:List Int) (hl:l.length≤1000000):FnB Tryz.prog 83 [v] [Ow.slice v 3 1 (ints l)] [] (IsSrt v (srt l)):=by
 by_cases hne:l=[]
 ·subst hne
  rw[show srt []=[] by simp[srt]]
  exact sort0_c v
 ·exact sort_fn ⟨Tryz.f83,Tryz.func83,by kernel_rfl,by kernel_rfl⟩ hne (srt_len l) fun w g cap hg hH=>by
   refine(AnyM.slices_Sort_int laySort g 0 cap l w hH hg (by omega)).mono ?_
   rintro e w' ⟨rfl,q,os,rfl⟩
   exact⟨rfl,q,os,rfl⟩
end Go.Proofs.YtaongbhamadlkaaGreat
namespace Go.Proofs.YtaongbhamadlkaaGreat
open W Go.RowKit
theorem fst_in {l:List Int} {p:Int→Bool}:(X.fstT (fun i=>p (l.getD i 0)) l.length 0).isSome=true↔∃ x∈l,p x=true:=by
 rcases X.fstT_spec (fun i=>p (l.getD i 0)) l.length 0 with ⟨h1,h2⟩|⟨j,h1,_,h3,h4,_⟩
 ·rw[h1]
  constructor
  ·intro h;cases h
  ·rintro⟨x,hx,h⟩
   obtain⟨j,hj,rfl⟩:=List.mem_iff_getElem.1 hx
   have:=h2 j (by omega) (by omega)
   simp[List.getD_eq_getElem?_getD,hj,h] at this
 ·rw[h1]
  refine⟨fun _=>⟨l.getD j 0,?_,h4⟩,fun _=>rfl⟩
  have:j < l.length:=by omega
  simp[List.getD_eq_getElem?_getD,this]
namespace U
attribute [local irreducible] WC WL WD YO LO LoopEnd W.Fin Scalar SliceT FieldAt Row ArrT AllocT KnS Has W.One SrcE IntT
theorem d84 {G G':Prop} (h:G') (s:Bx G'→G:=by
 intro h
 first|(apply WC.draw (id:=6) [0,1,2,3,4,5,6,7,8,9] (.held 0 (.held 1 (.held 2 (.held 3 (.held 4 (.held 5 (.held 6 (.held 7 (.held 8 (.held 9 (.done))))))))))) mixed (by kernel_rfl))|(apply WC.draw (id:=11) [0,1,2,3,4,5,6,7,8,9] (.held 0 (.held 1 (.held 2 (.held 3 (.held 4 (.held 5 (.held 6 (.held 7 (.held 8 (.held 9 (.done))))))))))) mixed (by kernel_rfl))|fail
 exact Bx.h h):G:=s ⟨h⟩
set_option maxHeartbeats 4000000 in
set_option maxRecDepth 60000 in
theorem indexFI_c (u:Value) (l:List Int) (f:FuncId) (cap:List Value) (Fc:List Fct) (p:Int→Bool) (hp:∀ x,FnB Tryz.prog f ([.int .i64 x]++cap) [] Fc (IsV (.bool (p x)))) :
  FnB Tryz.prog 138 [u,.func (.func f) #[] cap.toArray] [] (sI u l::Fc) (IsV (.int .i64 (optI (X.fstT (fun i=>p (l.getD i 0)) l.length 0)))):=by
 refine fn_of [(0,u),(1,(.func (.func f) #[] cap.toArray))] 19 Tryz.func138 rfl Tryz.ntmps138 (by kernel_rfl) rfl suA fun h0=>?_
 refine WC.lenI u l hmA fun hlen=>?_
 repeat'(first|refine gA ?_|(refine goG ?_;intro g)|(refine goV ?_;intro v))
 refine WC.lp (σ:=Nat) (fun i=>[(8,.int .i64 (i:Int)),(7,.int .i64 (l.length:Int)),(0,u),(1,.func (.func f) #[] cap.toArray)]) (fun _=>[]) (fun _=>ge h0::sI u l::Fc) (fun i=>i≤l.length∧X.fstT (fun i=>p (l.getD i 0)) l.length 0=X.fstT (fun i=>p (l.getD i 0)) (l.length - i) i) (fun i=>l.length - i) 0 ⟨Nat.zero_le _,rfl⟩ ?_ (hG:=.cons hmA (.cons hmA (HasAll.tail fun _ h=>by(repeat(first|exact h|apply List.mem_cons_of_mem)))))
 rintro i ⟨hi,he⟩
 by_cases c:i < l.length
 ·rw[fstT_at c] at he
  repeat'(first|refine gA ?_|(refine goG ?_;intro g)|(refine goV ?_;intro v))
  refine WL.callC [] cap (vs:=[.int .i64 (l.getD i 0)]) (hp (l.getD i 0)) ?_ (hF:=(HasAll.tail fun _ h=>by(repeat(first|exact h|apply List.mem_cons_of_mem))))
  rintro _ _ _ ⟨rfl,rfl,rfl⟩
  simp only[List.nil_append,List.cons_append]
  cases h:p (l.getD i 0) with
  |true=>
   rw[if_pos h] at he
   rw[he]
   repeat'(first|refine gA ?_|(refine goG ?_;intro g)|(refine goV ?_;intro v))
   exact WC.ret (Fin.v (ResE.t1 rfl rfl) meA rfl)
  |false=>
   rw[if_neg (by rw[h];decide)] at he
   repeat'(first|refine gA ?_|(refine goG ?_;intro g)|(refine goV ?_;intro v))
   exact LoopEnd.mk (i+1) ⟨by omega,he⟩ (by show l.length - (i+1) < l.length - i;omega) (hG:=.cons hmA (.cons hmA (HasAll.tail fun _ h=>by(repeat(first|exact h|apply List.mem_cons_of_mem)))))
 ·obtain rfl:i=l.length:=by omega
  rw[Nat.sub_self,X.fstT] at he
  rw[he]
  repeat'(first|refine gA ?_|(refine goG ?_;intro g)|(refine goV ?_;intro v))
  exact WC.ret (Fin.v (ResE.t1 rfl rfl) meA rfl)
set_option maxHeartbeats 4000000 in
set_option maxRecDepth 60000 in
theorem containsFI_c (u:Value) (l:List Int) (f:FuncId) (cap:List Value) (Fc:List Fct) (p:Int→Bool) (hp:∀ x,FnB Tryz.prog f ([.int .i64 x]++cap) [] Fc (IsV (.bool (p x)))) :
  FnB Tryz.prog 78 [u,.func (.func f) #[] cap.toArray] [] (sI u l::Fc) (IsV (.bool (l.any p))):=by
 refine fn_of [(0,u),(1,(.func (.func f) #[] cap.toArray))] 9 Tryz.func78 rfl Tryz.ntmps78 (by kernel_rfl) rfl suA fun h0=>?_
 have hx:=@fst_in l p
 repeat'(first|refine gA ?_|(refine goG ?_;intro g)|(refine goV ?_;intro v))
 refine WL.callV (indexFI_c u l f cap Fc p hp) ?_ (hF:=.cons (.f hmA) (hasB_tail fun _ h=>by(repeat(first|exact h|apply List.mem_cons_of_mem))))
 cases hq:X.fstT (fun i=>p (l.getD i 0)) l.length 0 with
 |none=>
  have ha:l.any p=false:=by
   rw[Bool.eq_false_iff]
   intro h
   rw[List.any_eq_true] at h
   have:=hx.2 h
   rw[hq] at this;cases this
  rw[show optI none= -1 from rfl,ha]
  repeat'(first|refine gA ?_|(refine goG ?_;intro g)|(refine goV ?_;intro v))
  exact WC.ret (Fin.v (ResE.t1 rfl rfl) meA rfl)
 |some k=>
  have ha:l.any p=true:=List.any_eq_true.2 (hx.1 (by rw[hq];rfl))
  rw[show optI (some k)=(k:Int) from rfl,ha]
  repeat'(first|refine gA ?_|(refine goG ?_;intro g)|(refine goV ?_;intro v))
  exact WC.ret (Fin.v (ResE.t1 rfl rfl) meA rfl)
set_option maxHeartbeats 4000000 in
set_option maxRecDepth 60000 in
theorem indexI_c (u:Value) (l:List Int) (x:Int):FnB Tryz.prog 122 [u,.int .i64 x] [] [sI u l] (IsV (.int .i64 (optI (X.fstT (fun i=>decide (x=l.getD i 0)) l.length 0)))):=by
 refine fn_of [(0,u),(1,(.int .i64 x))] 19 Tryz.func122 rfl Tryz.ntmps122 (by kernel_rfl) rfl suA fun h0=>?_
 refine WC.lenI u l hmA fun hlen=>?_
 repeat'(first|refine gA ?_|(refine goG ?_;intro g)|(refine goV ?_;intro v))
 refine WC.lp (σ:=Nat) (fun i=>[(8,.int .i64 (i:Int)),(7,.int .i64 (l.length:Int)),(0,u),(1,.int .i64 x)]) (fun _=>[]) (fun _=>[ge h0,sI u l]) (fun i=>i≤l.length∧X.fstT (fun i=>decide (x=l.getD i 0)) l.length 0=X.fstT (fun i=>decide (x=l.getD i 0)) (l.length - i) i) (fun i=>l.length - i) 0 ⟨Nat.zero_le _,rfl⟩ ?_
 rintro i ⟨hi,he⟩
 by_cases c:i < l.length
 ·rw[fstT_at c] at he
  by_cases h:x=l.getD i 0
  ·rw[if_pos (decide_eq_true h)] at he
   rw[he]
   repeat'(first|refine gA ?_|(refine goG ?_;intro g)|(refine goV ?_;intro v))
   exact WC.ret (Fin.v (ResE.t1 rfl rfl) meA rfl)
  ·rw[if_neg (by simpa using h)] at he
   repeat'(first|refine gA ?_|(refine goG ?_;intro g)|(refine goV ?_;intro v))
   exact LoopEnd.mk (i+1) ⟨by omega,he⟩ (by show l.length - (i+1) < l.length - i;omega)
 ·obtain rfl:i=l.length:=by omega
  rw[Nat.sub_self,X.fstT] at he
  rw[he]
  repeat'(first|refine gA ?_|(refine goG ?_;intro g)|(refine goV ?_;intro v))
  exact WC.ret (Fin.v (ResE.t1 rfl rfl) meA rfl)
set_option maxHeartbeats 4000000 in
set_option maxRecDepth 60000 in
theorem containsI_c (u:Value) (l:List Int) (x:Int):FnB Tryz.prog 141 [u,.int .i64 x] [] [sI u l] (IsV (.bool (decide (x∈l)))):=by
 refine fn_of [(0,u),(1,(.int .i64 x))] 9 Tryz.func141 rfl Tryz.ntmps141 (by kernel_rfl) rfl suA fun h0=>?_
 have hx:=@fst_in l (fun y=>decide (x=y))
 repeat'(first|refine gA ?_|(refine goG ?_;intro g)|(refine goV ?_;intro v))
 first|refine WL.callV (indexI_c u l x) ?_|refine WD.callV (indexI_c u l x) ?_
 cases hq:X.fstT (fun i=>decide (x=l.getD i 0)) l.length 0 with
 |none=>
  have ha:¬x∈l:=fun h=>by
   have:=hx.2 ⟨x,h,by simp⟩
   rw[hq] at this;cases this
  rw[show optI none= -1 from rfl,decide_eq_false ha]
  repeat'(first|refine gA ?_|(refine goG ?_;intro g)|(refine goV ?_;intro v))
  exact WC.ret (Fin.v (ResE.t1 rfl rfl) meA rfl)
 |some k=>
  have ha:x∈l:=by
   obtain⟨y,h1,h2⟩:=hx.1 (by rw[hq];rfl)
   have:=of_decide_eq_true h2
   subst this;exact h1
  rw[show optI (some k)=(k:Int) from rfl,decide_eq_true ha]
  repeat'(first|refine gA ?_|(refine goG ?_;intro g)|(refine goV ?_;intro v))
  exact WC.ret (Fin.v (ResE.t1 rfl rfl) meA rfl)
set_option maxHeartbeats 4000000 in
set_option maxRecDepth 60000 in
theorem cloneI_c (u:Value) (l:List Int) (hl:l.length≤1000000):FnB Tryz.prog 81 [u] [] [sI u l] (IsO 3 1 (ints l)):=by
 refine fn_of [(0,u)] 8 Tryz.func81 rfl Tryz.ntmps81 (by kernel_rfl) rfl suA fun h0=>?_
 cases hn:isNil u with
 |true=>
  refine WC.nil0 (v:=u) (l:=l) hmA hn fun h=>?_
  subst h
  repeat'(first|refine gA ?_|(refine goG ?_;intro g)|(refine goV ?_;intro v))
  refine WC.addNil 3 1 ?_
  exact WC.ret (Fin.o (v:=.slice none 0 0) (cs:=ints []) (ResE.t1 rfl rfl) meA (.head _) rfl)
 |false=>
  repeat'(first|refine gA ?_|(refine goG ?_;intro g)|(refine goV ?_;intro v))
  exact WC.ret (Fin.o (ResE.t1 rfl rfl) meA meA (List.nil_append _))
set_option maxHeartbeats 4000000 in
set_option maxRecDepth 60000 in
theorem compact0_c (v:Value) (l:List Int) (hl:l.length=0):FnB Tryz.prog 84 [v] [Ow.slice v 3 1 (ints l)] [] (IsO 3 1 (ints l)):=by
 refine fn_of [(0,v)] 61 Tryz.func84 rfl Tryz.ntmps84 (by kernel_rfl) rfl suA fun h0=>?_
 repeat'(first|refine gB ?_|(refine gH ?_;intro g)|(refine gW ?_;intro v)|refine d84 ?_|fail)
 exact WC.ret (Fin.o (ResE.t1 rfl rfl) meA meA rfl)
theorem compactA_c (v:Value) (l:List Int) (hl:l.length≤1000000):FnB Tryz.prog 84 [v] [Ow.slice v 3 1 (ints l)] [] (IsO 3 1 (ints (Lib.compact l))):=by
 cases l with
 |nil=>exact compact0_c v [] rfl
 |cons a l=>exact compact_c v (a::l) hl (by simp)
set_option maxHeartbeats 4000000 in
set_option maxRecDepth 60000 in
theorem delete0_c (v:Value) (f:FuncId) (cap:List Value) (Fc:List Fct) (p:Int→Bool) (hp:∀ x,FnB Tryz.prog f ([.int .i64 x]++cap) [] Fc (IsV (.bool (p x)))) :
  FnB Tryz.prog 80 [v,.func (.func f) #[] cap.toArray] [Ow.slice v 3 1 (ints [])] Fc (IsO 3 1 (ints [])):=by
 refine fn_of [(0,v),(1,(.func (.func f) #[] cap.toArray))] 42 Tryz.func80 rfl Tryz.ntmps80 (by kernel_rfl) rfl suA fun h0=>?_
 repeat'(first|refine gA ?_|(refine goG ?_;intro g)|(refine goV ?_;intro v))
 refine WL.callV (indexFI_c v [] f cap Fc p hp) ?_ (hF:=.cons (.oI meA) (hasB_tail fun _ h=>by(repeat(first|exact h|apply List.mem_cons_of_mem))))
 rw[show optI (X.fstT (fun i=>p (([]:List Int).getD i 0)) ([]:List Int).length 0)= -1 from rfl]
 repeat'(first|refine gA ?_|(refine goG ?_;intro g)|(refine goV ?_;intro v))
 exact WC.ret (Fin.o (ResE.t1 rfl rfl) meA meA rfl)
set_option maxHeartbeats 4000000 in
set_option maxRecDepth 60000 in
theorem core1_c (x:Int):FnB Tryz.prog 79 ([.int .i64 x]++[]) [] [] (IsV (.bool (decide (x < -1)))):=by
 refine fn_of [(0,(.int .i64 x))] 5 Tryz.func79 rfl Tryz.ntmps79 (by kernel_rfl) rfl suA fun h0=>?_
 by_cases c:x < -1
 ·repeat'(first|refine gA ?_|(refine goG ?_;intro g)|(refine goV ?_;intro v))
  exact WC.ret (Fin.v (ResE.t1 rfl rfl) meA (by rw[decide_eq_true c]))
 ·repeat'(first|refine gA ?_|(refine goG ?_;intro g)|(refine goV ?_;intro v))
  exact WC.ret (Fin.v (ResE.t1 rfl rfl) meA (by rw[decide_eq_false c]))
set_option maxHeartbeats 4000000 in
set_option maxRecDepth 60000 in
theorem core2_c (x:Int):FnB Tryz.prog 82 ([.int .i64 x]++[]) [] [] (IsV (.bool (decide (x < 0)))):=by
 refine fn_of [(0,(.int .i64 x))] 5 Tryz.func82 rfl Tryz.ntmps82 (by kernel_rfl) rfl suA fun h0=>?_
 by_cases c:x < 0
 ·repeat'(first|refine gA ?_|(refine goG ?_;intro g)|(refine goV ?_;intro v))
  exact WC.ret (Fin.v (ResE.t1 rfl rfl) meA (by rw[decide_eq_true c]))
 ·repeat'(first|refine gA ?_|(refine goG ?_;intro g)|(refine goV ?_;intro v))
  exact WC.ret (Fin.v (ResE.t1 rfl rfl) meA (by rw[decide_eq_false c]))
set_option maxHeartbeats 4000000 in
set_option maxRecDepth 60000 in
theorem core3_c (x:Int) (y:Int) (g:Nat):FnB Tryz.prog 86 ([.int .i64 x]++[ptr g]) [] [ce g 3 [.int .i64 y]] (IsV (.bool (decide (x=y)))):=by
 refine fn_of [(0,(.int .i64 x)),(1,(ptr g))] 7 Tryz.func86 rfl Tryz.ntmps86 (by kernel_rfl) rfl suA fun h0=>?_
 by_cases c:x=y
 ·repeat'(first|refine gA ?_|(refine goG ?_;intro g)|(refine goV ?_;intro v))
  exact WC.ret (Fin.v (ResE.t1 rfl rfl) meA (by rw[decide_eq_true c]))
 ·repeat'(first|refine gA ?_|(refine goG ?_;intro g)|(refine goV ?_;intro v))
  exact WC.ret (Fin.v (ResE.t1 rfl rfl) meA (by rw[decide_eq_false c]))
end U
section
open Go.Shelf Go.Sort
set_option maxHeartbeats 1000000 in
theorem sneg_gives (W:World) (x:Int):FnGives Tryz.prog 82 #[] #[.int .i64 x] (.bool (decide (x < 0))) W:=by
 unfold FnGives
 show Calls Tryz.prog 82 #[.int .i64 x] W _
 go_enter Tryz.func82,Tryz.ntmps82
 go_wp2
 go_ret
 exact⟨rfl,0,rfl⟩
set_option maxHeartbeats 1000000 in
theorem seq_gives (W:World) (x y:Int) (g:Nat) (hc:W.cell? ⟨g,0,none⟩=some (.int .i64 y)):FnGives Tryz.prog 86 #[.pointer (some ⟨g,0,none⟩)] #[.int .i64 x] (.bool (decide (x=y))) W:=by
 unfold FnGives
 show Calls Tryz.prog 86 #[.int .i64 x,.pointer (some ⟨g,0,none⟩)] W _
 go_enter Tryz.func86,Tryz.ntmps86
 go_wp2
 go_ret
 exact⟨rfl,0,rfl⟩
end
open Go.Sort Go.Shelf in
theorem U.delNeg_c (v:Value) (l:List Int) (hl:l.length≤1000000):FnB Tryz.prog 80 [v,.func (.func 82) #[] #[]] [Ow.slice v 3 1 (ints l)] [] (IsO 3 1 (ints (l.filter fun x=>!decide (x < 0)))):=by
 cases l with
 |nil=>exact U.delete0_c v 82 [] [] _ U.core2_c
 |cons a l=>exact delete_row hl (by simp) (fun x=>decide (x < 0)) _ _ (enters_of Tryz.func82 (by kernel_rfl) rfl) fun fr w b cap hv ho=>⟨fun W x _=>sneg_gives W x,fun n os dk x _=>sneg_gives _ x⟩
open Go.Sort Go.Shelf in
theorem U.delEq_c (v:Value) (l:List Int) (y:Int) (g:Nat) (hl:l.length≤1000000):FnB Tryz.prog 80 [v,.func (.func 86) #[] #[ptr g]] [Ow.slice v 3 1 (ints l)] [ce g 3 [.int .i64 y]] (IsO 3 1 (ints (l.filter fun x=>!decide (x=y)))):=by
 cases l with
 |nil=>exact U.delete0_c v 86 [ptr g] _ _ fun x=>U.core3_c x y g
 |cons a l=>
   refine delete_row hl (by simp) (fun x=>decide (x=y)) _ _ (enters_of Tryz.func86 (by kernel_rfl) rfl) ?_
   intro fr w b cap hv ho
   have hf:=ho.facts _ (.head _)
   have hg:w.heap[g]?=some (.cells #[.int .i64 y] 3 (0,0)):=imm_heap hf
   have hgl:g < w.heap.size:=(Array.getElem?_eq_some_iff.1 hg).1
   have hgb:g≠b:=by
    rintro rfl
    have:imm fr [Ow.slice v 3 1 (ints (a::l))] w.heap g=none:=by
     unfold imm;rw[if_pos];subst hv;simp[ids,Ow.ids]
    have h2:imm fr [Ow.slice v 3 1 (ints (a::l))] w.heap g=some (.cells #[.int .i64 y] 3 (0,0)):=hf
    rw[this] at h2;cases h2
   have hc:w.cell? ⟨g,0,none⟩=some (.int .i64 y):=by unfold World.cell?;rw[hg];rfl
   refine⟨fun W x hW=>seq_gives W x y g ((hW.cell (p:=⟨g,0,none⟩) hgl).trans hc),fun n os dk x _=>seq_gives _ x y g ?_⟩
   unfold World.cell? sortWorld
   rw[Sort.heap_grow_old _ os (by simpa using hgl)]
   have:(putRow (Value.int .i64) (Sort.ahead w n) b 0 dk).heap[g]?=w.heap[g]?:=by
    unfold putRow mapBlock
    show(w.heap.modify b _)[g]?=_
    rw[Array.getElem?_modify,if_neg (fun h=>hgb h.symm)]
   rw[this,hg];rfl
end Go.Proofs.YtaongbhamadlkaaGreat
namespace Go.Proofs.YtaongbhamadlkaaGreat
open W Go.RowKit
def szK (m K0:Nat):Nat:=2*(m*(50*K0+2)+1)+K0
def szL (m K0:Nat):Nat:=m*(K0+szK m K0+1)+1+K0+1
def szR (v m K0:Nat):Nat:=szL m K0+(2*szK m K0+1)+(v*(2*(2*szK m K0+1)+1)+1)
structure Fits (v m K0:Nat):Prop where
 l:szL m K0≤20000000
 d:v*(2*(2*szK m K0+1)+1)+1+2*(2*szK m K0+1)≤400000000
 v:v≤48
 m:m≤128
 k:0 < K0
theorem szK_le (m K0:Nat):szK m K0≤szL m K0:=by
 unfold szL
 cases m with
 |zero=>unfold szK;simp;omega
 |succ m=>
  have:1*(K0+szK (m+1) K0+1)≤(m+1)*(K0+szK (m+1) K0+1):=Nat.mul_le_mul_right _ (by omega)
  omega
theorem szs_of {v m K0:Nat} {L:List X.Ln} {g:Nat→Rat} (hf:Fits v m K0) (hL:LSq K0 v L) (hm:L.length≤m) (hg:∀ k,k < v→Sq K0 (g k)):X.Szs (X.lpOf v L g) K0 (szK m K0) (szL m K0) where
 pos:=hf.k
 a:=fun r hr k hk=>hL.ca hr hk
 b:=fun r hr=>hL.cb hr
 g:=hg
 k:=by
  have:=Nat.mul_le_mul_right (50*K0+2) hm
  show 2*(L.length*(50*K0+2)+1)+K0≤szK m K0
  unfold szK;omega
 v:=hf.v
 m:=Nat.le_trans hm hf.m
 l:=by
  have:=Nat.mul_le_mul_right (K0+szK m K0+1) hm
  show L.length*(K0+szK m K0+1)+1+K0+1≤szL m K0
  unfold szL;omega
 t:=hf.l
 kl:=szK_le m K0
 d:=hf.d
theorem solveL_c (M:Pm) {v m K0:Nat} {L:List X.Ln} {g:Nat→Rat} (hf:Fits v m K0) (hL:LSq K0 v L) (hm:L.length≤m) (hg:∀ k,k < v→Sq K0 (g k)):FnB Tryz.prog 12 [pgv M v] [] [fP M (X.lpOf v L g)] (IsAns (X.lpOf v L g) (szR v m K0)):=
 Z.solve_c M (X.lpOf v L g) K0 (szK m K0) (szL m K0) (szR v m K0) (szs_of hf hL hm hg) hf.v (Nat.le_trans hm hf.m) (by unfold szR;omega) (by unfold szR;omega) (by show v*_+1≤_;unfold szR;omega)
theorem AnsP.sem {p:X.Lp} {kind xn yn:Nat} {x y:Nat→Rat} {z:Rat} (h:AnsP p kind xn yn x y z):X.Sem p kind z:=by
 rcases h with ⟨rfl,_,_,rfl,h⟩|⟨rfl,_,_,h⟩|⟨rfl,_,_,rfl,h⟩
 ·exact X.Sem.inf h
 ·exact X.Sem.opt h
 ·exact X.Sem.unb h
theorem Dok.le {n m K:Nat} (h:Dok m K) (hn:n≤m):Dok n K:=by
 unfold Dok at *
 have:=Nat.mul_le_mul_right (2*K+1) hn
 omega
theorem checkL_c (M:Pm) (N:Am) {v m K0 R xn yn:Nat} {L:List X.Ln} {g x y:Nat→Rat} {z:Rat} {kind:Int} (hf:Fits v m K0) (hL:LSq K0 v L) (hm:L.length≤m) (hg:∀ k,k < v→Sq K0 (g k)) (hR:K0≤R) (hd:Dok v R) (hd2:Dok m R) (hx:∀ k,k < xn→Sq R (x k)) (hy:∀ k,k < yn→Sq R (y k)) :
  FnB Tryz.prog 15 [pgv M v,agv N kind] [] [fP M (X.lpOf v L g),fA N xn yn x y z] (IsV (.int .i64 (if rightP (X.lpOf v L g) kind xn yn x y z=true then 0 else 22))):=
 Z.check_c M (X.lpOf v L g) N R xn yn x y z kind hd (hd2.le hm) hf.v (Nat.le_trans hm hf.m) (Nat.lt_of_lt_of_le hf.k hR) (fun r hr k hk=>(hL.ca hr hk).up hR) (fun r hr=>(hL.cb hr).up hR) (fun k hk=>(hg k hk).up hR) hx hy
def selT (L:List X.Ln) (p:Nat→Bool) (i:Nat):List X.Ln:=((List.range i).filter p).map fun j=>L.getD j ([],0)
def keepP (gs l:List Int) (i:Nat):Bool:=decide (gs.getD i 0 < 0∨gs.getD i 0∈l)
def contP (v:Nat) (L:List X.Ln) (gs l:List Int):Bool:=!X.feasP (selT L (keepP gs l) L.length) v
section
variable {L:List X.Ln} {p:Nat→Bool} {i K v:Nat}
theorem selT_up:selT L p (i+1)=selT L p i++if p i=true then[L.getD i ([],0)] else[]:=by
 unfold selT
 rw[List.range_succ,List.filter_append,List.map_append]
 congr 1
 simp only[List.filter_cons,List.filter_nil]
 split <;> rfl
theorem selT_len:(selT L p i).length≤i:=by
 unfold selT
 rw[List.length_map]
 exact Nat.le_trans (List.length_filter_le _ _) (by rw[List.length_range];exact Nat.le_refl _)
theorem selT_sq (h:LSq K v L) (hi:i≤L.length):LSq K v (selT L p i):=fun c hc=>by
 unfold selT at hc
 obtain⟨j,hj,rfl⟩:=List.mem_map.1 hc
 have:=List.mem_range.1 (List.mem_filter.1 hj).1
 exact h _ (getD_ln (by omega))
end
theorem Sem.cont {v:Nat} {L:List X.Ln} {g:Nat→Rat} {k:Int} {z:Rat} (hw:∀ c∈L,c.1.length=v) (h:X.Sem (X.lpOf v L g) k z):(!X.feasP L v)=decide (k=1):=by
 have h1:=h.one
 have h2:=X.feas_iff hw
 cases hf:X.feasP L v with
 |true=>
  obtain⟨x,hx⟩:=h2.1 hf
  rw[decide_eq_false fun hk=>h1.1 hk ⟨x,X.pt_of.2 hx⟩];rfl
 |false=>
  rw[decide_eq_true (h1.2 fun ⟨x,hx⟩=>by rw[h2.2 ⟨x,X.pt_of.1 hx⟩] at hf;cases hf)];rfl
namespace U
open Z
attribute [local irreducible] WC WL WD YO LO LoopEnd W.Fin Scalar SliceT FieldAt Row ArrT AllocT KnS Has W.One SrcE IntT
theorem d85 {G G':Prop} (h:G') (s:Bx G'→G:=by
 intro h
 first|(apply WC.draw (id:=1) [0,1,2,3] (.held 0 (.held 1 (.held 2 (.held 3 (.more 4 (.more 5 (.loud 6 (.loud 7 (.done))) (.loud 6 (.loud 5 (.loud 7 (.done))))) (.loud 6 (.loud 4 (.loud 5 (.loud 7 (.done)))))))))) mixed (by kernel_rfl))|fail
 exact Bx.h h):G:=s ⟨h⟩
structure US where
 n:Nat
 sv:Value
 M:Pm
set_option maxHeartbeats 8000000 in
set_option maxRecDepth 60000 in
theorem contradictory_c (M:Pm) (K0 m vn:Nat) (L:List X.Ln) (gf:Nat→Rat) (gs l:List Int) (ug vl:Value) (hf:Fits vn m K0) (hL:LSq K0 vn L) (hm:L.length≤m) (hgs:gs.length=L.length) :
  FnB Tryz.prog 85 [pgv M vn,ug,vl] [] [fP M (X.lpOf vn L gf),sI ug gs,sI vl l] (IsV (.bool (contP vn L gs l))):=by
 refine fn_of [(0,(pgv M vn)),(1,ug),(2,vl)] 54 Tryz.func85 rfl Tryz.ntmps85 (by kernel_rfl) rfl suA fun h0=>?_
 have hv:=hf.v
 have hm2:=hf.m
 refine WC.fact (fLn M vn L) (W.Has.pL (g:=gf) hmA) ?_
 refine WC.fact (mF vn (fun _=>m00) (fun _=>0)) (W.Has.mF0 _) ?_
 repeat'(first|refine gA ?_|(refine goG ?_;intro g)|(refine goV ?_;intro v))
 revert g;intro g3
 refine WC.cutP (σ:=Nat×Value) (fun st=>[(7,ptr st.1),(3,ptr g3),(1,ug),(2,vl)]) (fun st=>[Ow.cells st.1 26 [.int .i64 (vn:Int),.slice none 0 0,st.2],Ow.slice st.2 31 4 (qcells vn fun _=>m00),Ow.cells g3 26 (pcs M vn)])
  (fun st=>[mF vn (fun _=>m00) (fun _=>0),fLn M vn L,ge h0,sI ug gs,sI vl l]) (fun _=>True) ?_ ?_
 ·repeat'(first|refine gM ?_|(refine gI ?_;intro g)|(refine gU ?_;intro v)|refine gN ?_ ?_|refine gY ?_|refine d85 ?_|fail)
  all_goals(apply Ex2;refine⟨trivial,?_,?_,?_⟩;(focus(repeat(first|exact Sub.nil _|refine Sub.cons rfl ?_)));(focus(repeat(first|exact SubP.nil _|(apply SubP.cons;(repeat(first|exact Rem.head|apply Rem.tail))))));(focus(repeat(first|exact HasAll.nil|(apply HasAll.cons;exact hsA)))))
 rintro⟨g7,gv⟩ _
 simp only
 refine WC.freezeF gv vn (fun _=>m00) (fun _=>0) (by repeat(first|exact Sel.head|apply Sel.tail)) hmA ?_
 refine WC.addNil 60 5 ?_
 repeat'(first|refine gM ?_|(refine gI ?_;intro g)|(refine gU ?_;intro v)|refine gN ?_ ?_|refine gY ?_|refine d85 ?_|fail)
 refine WC.lp (σ:=Nat×US) (fun st=>[(21,.int .i64 (st.1:Int)),(20,.int .i64 (L.length:Int)),(19,M.lv),(1,ug),(2,vl),(7,ptr g7)])
  (fun st=>[Ow.slice st.2.sv 60 5 (lncells st.2.n st.2.M),Ow.cells g7 26 [.int .i64 (vn:Int),st.2.sv,gv]])
  (fun st=>[lnQ st.2.M vn (selT L (keepP gs l) st.1),fF gv vn (fun _=>m00) (fun _=>0),fLn M vn L,ge h0,sI ug gs,sI vl l]) (fun st=>st.1≤L.length∧st.2.n=(selT L (keepP gs l) st.1).length) (fun st=>L.length - st.1) (0,⟨0,.slice none 0 0,Pm.no⟩) ⟨Nat.zero_le _,rfl⟩ ?_ (hG:=.cons W.Has.lnn sfA)
 rintro⟨i,n,sv,N⟩ ⟨hi,hn⟩
 simp only at hi hn ⊢
 have hsl:=selT_len (L:=L) (p:=keepP gs l) (i:=i)
 by_cases c:i < L.length
 ·have hup:=selT_up (L:=L) (p:=keepP gs l) (i:=i)
  refine WC.fact (fF (M.av i) vn (M.ma i) (X.ca L i)) (W.Has.lna (W.Has.lnq (M:=M) hmA) c) ?_
  refine WC.fact (isQ (qv (M.mb i)) (X.cb L i)) (W.Has.lnb (W.Has.lnq (M:=M) hmA) c) ?_
  have take:keepP gs l i=true→Has [isQ (qv (M.mb i)) (X.cb L i),fF (M.av i) vn (M.ma i) (X.ca L i),lnQ N vn (selT L (keepP gs l) i),fF gv vn (fun _=>m00) (fun _=>0),fLn M vn L,ge h0,sI ug gs,sI vl l] (lnQ (N.app n (M.av i) (M.ma i) (M.mb i)) vn (selT L (keepP gs l) (i+1))):=fun hk=>by
   rw[hup,if_pos hk,hn]
   exact W.Has.lnapp hmA (L.getD i ([],0)) (show Has _ (fF (M.av i) vn (M.ma i) (X.ca L i)) from hmA) (show Has _ (isQ (qv (M.mb i)) (X.cb L i)) from hmA)
  have tl:keepP gs l i=true→n+1=(selT L (keepP gs l) (i+1)).length:=fun hk=>by rw[hup,if_pos hk,List.length_append,hn];rfl
  have leave:keepP gs l i=false→selT L (keepP gs l) (i+1)=selT L (keepP gs l) i:=fun hk=>by rw[hup,if_neg (by rw[hk];decide),List.append_nil]
  by_cases c1:gs.getD i 0 < 0
  ·have hk:keepP gs l i=true:=decide_eq_true (.inl c1)
   refine WC.fact _ (take hk) ?_
   repeat'(first|refine gM ?_|(refine gI ?_;intro g)|(refine gU ?_;intro v)|refine gN ?_ ?_|refine gY ?_|refine d85 ?_|fail)
   exact LoopEnd.mk (i+1,⟨n+1,_,_⟩) ⟨c,tl hk⟩ (by show L.length - (i+1) < L.length - i;omega)
  ·repeat'(first|refine gM ?_|(refine gI ?_;intro g)|(refine gU ?_;intro v)|refine gN ?_ ?_|refine gY ?_|refine d85 ?_|fail)
   first|refine WL.callV (containsI_c vl l (gs.getD i 0)) ?_|refine WD.callV (containsI_c vl l (gs.getD i 0)) ?_
   by_cases c2:gs.getD i 0∈l
   ·have hk:keepP gs l i=true:=decide_eq_true (.inr c2)
    rw[decide_eq_true c2]
    repeat'(first|refine gM ?_|(refine gI ?_;intro g)|(refine gU ?_;intro v)|refine gN ?_ ?_|refine gY ?_|refine d85 ?_|fail)
    exact LoopEnd.mk (i+1,⟨n+1,_,N.app n (M.av i) (M.ma i) (M.mb i)⟩) ⟨c,tl hk⟩ (by show L.length - (i+1) < L.length - i;omega) (hG:=.cons (take hk) sfA)
   ·have hk:keepP gs l i=false:=decide_eq_false fun h=>h.elim c1 c2
    rw[decide_eq_false c2]
    repeat'(first|refine gM ?_|(refine gI ?_;intro g)|(refine gU ?_;intro v)|refine gN ?_ ?_|refine gY ?_|refine d85 ?_|fail)
    exact LoopEnd.mk (i+1,⟨n,sv,N⟩) ⟨c,by rw[leave hk];exact hn⟩ (by show L.length - (i+1) < L.length - i;omega) (hG:=.cons (by show Has _ (lnQ N vn (selT L (keepP gs l) (i+1)));rw[leave hk];exact hmA) sfA)
 ·obtain rfl:i=L.length:=by omega
  have hS:LSq K0 vn (selT L (keepP gs l) L.length):=selT_sq hL (Nat.le_refl _)
  have hc:contP vn L gs l= !X.feasP (selT L (keepP gs l) L.length) vn:=rfl
  rw[hc]
  generalize selT L (keepP gs l) L.length=S at *
  subst hn
  repeat'(first|refine gM ?_|(refine gI ?_;intro g)|(refine gU ?_;intro v)|refine gN ?_ ?_|refine gY ?_|refine d85 ?_|fail)
  refine WL.freezeLn sv N vn S (by repeat(first|exact Sel.head|apply Sel.tail)) hmA ?_
  refine WL.fact' (fP ((N.at sv).wg gv fun _=>m00) (X.lpOf vn S fun _=>0)) (W.Has.lnp (W.Has.lnwg (M:=N.at sv) hmA) (show Has _ (fF gv vn (fun _=>m00) (fun _=>0)) from hmA)) ?_
  refine WL.callK (solveL_c ((N.at sv).wg gv fun _=>m00) hf hS (by omega) (fun k _=>Sq.zero.up hf.k)) ?_
  rintro _ _ _ ⟨Na,kind,xn,yn,x,y,z,rfl,rfl,rfl,hans,_,_,_⟩
  simp only[List.nil_append,List.cons_append]
  rw[Sem.cont hS.len hans.sem]
  refine WL.fact' (fF Na.xv xn Na.mx x) (W.Has.ax (M:=Na) (xn:=xn) (yn:=yn) (x:=x) (y:=y) (z:=z) hmA) ?_
  refine WL.fact' (fF Na.yv yn Na.my y) (W.Has.ay (M:=Na) (xn:=xn) (yn:=yn) (x:=x) (y:=y) (z:=z) hmA) ?_
  refine WL.fact' (isQ (qv Na.mz) z) (W.Has.az (M:=Na) (xn:=xn) (yn:=yn) (x:=x) (y:=y) (z:=z) hmA) ?_
  by_cases ck:(kind:Int)=1
  ·rw[decide_eq_true ck]
   repeat'(first|refine gM ?_|(refine gI ?_;intro g)|(refine gU ?_;intro v)|refine gN ?_ ?_|refine gY ?_|refine d85 ?_|fail)
   exact WC.ret (Fin.v (ResE.t1 rfl rfl) meA rfl)
  ·rw[decide_eq_false ck]
   repeat'(first|refine gM ?_|(refine gI ?_;intro g)|(refine gU ?_;intro v)|refine gN ?_ ?_|refine gY ?_|refine d85 ?_|fail)
   exact WC.ret (Fin.v (ResE.t1 rfl rfl) meA rfl)
end U
end Go.Proofs.YtaongbhamadlkaaGreat
namespace Go.Proofs.YtaongbhamadlkaaGreat
open W Go.RowKit
def coreLs (gs:List Int):List Int:=Lib.compact (srt (gs.filter fun x=>!decide (x < 0)))
def coreSt (v:Nat) (L:List X.Ln) (gs l:List Int) (x:Int):List Int:=if contP v L gs (l.filter fun y=>!decide (y=x))=true then l.filter fun y=>!decide (y=x) else l
def corS (v:Nat) (L:List X.Ln) (gs:List Int):List Int×Int:=
 if gs.length=L.length∧gs.any (fun x=>decide (x < -1))=false then
  (if contP v L gs (coreLs gs)=true then((coreLs gs).foldl (coreSt v L gs) (coreLs gs),0) else([],6))
 else([],1)
def IsLE (r:List Int×Int):RPost:=fun v B G=>∃ u,v=.tuple #[u,.int .i64 r.2]∧B=[]∧G=[sI u r.1]
theorem coreLs_len (gs:List Int):(coreLs gs).length≤gs.length:=Nat.le_trans (compact_le _) (by rw[srt_len];exact List.length_filter_le _ _)
theorem coreSt_len (v:Nat) (L:List X.Ln) (gs:List Int):∀ xs l:List Int,(xs.foldl (coreSt v L gs) l).length≤l.length
 |[],_=>Nat.le_refl _
 |x::xs,l=>Nat.le_trans (coreSt_len v L gs xs _) (by
  unfold coreSt
  split
  ·exact List.length_filter_le _ _
  ·exact Nat.le_refl _)
theorem nilI {F:List Fct}:Has F (sI (.slice none 0 0) []):=fun _ _=>⟨none,0,rfl,Nat.le_refl _,by unfold maxLen;simp,.inl ⟨rfl,rfl,rfl⟩⟩
namespace U
open Z
attribute [local irreducible] WC WL WD YO LO LoopEnd W.Fin Scalar SliceT FieldAt Row ArrT AllocT KnS Has W.One SrcE IntT
set_option maxHeartbeats 8000000 in
set_option maxRecDepth 60000 in
theorem core_c (M:Pm) (K0 m vn:Nat) (L:List X.Ln) (gf:Nat→Rat) (gs:List Int) (ug:Value) (hf:Fits vn m K0) (hL:LSq K0 vn L) (hm:L.length≤m) :
  FnB Tryz.prog 22 [pgv M vn,ug] [] [fP M (X.lpOf vn L gf),sI ug gs] (IsLE (corS vn L gs)):=by
 refine fn_of [(0,(pgv M vn)),(1,ug)] 56 Tryz.func22 rfl Tryz.ntmps22 (by kernel_rfl) rfl suA fun h0=>?_
 have hv:=hf.v
 have hm2:=hf.m
 have bad:∀ {F:List Fct} {e:Int},corS vn L gs=([],e)→HasAll F [sI (.slice none 0 0) (corS vn L gs).1]:=fun h=>.cons (by rw[h];exact nilI) .nil
 refine WC.fact (fLn M vn L) (W.Has.pL (g:=gf) hmA) ?_
 refine WC.lenI ug gs hmA fun hug=>?_
 repeat'(first|refine gA ?_|(refine goG ?_;intro g)|(refine goV ?_;intro v))
 revert g;intro gb
 refine WL.callV (valid_c M L.length vn (fun _=>vn) (X.ca L) (X.cb L) gf vn) ?_ (hF:=.cons (.f (show Has _ (fP M (X.lpOf vn L gf)) from hmA)) .nil)
 rw[show vldP (vn:Int) L.length vn (fun _=>vn)=0 from vldP_ok (p:=X.lpOf vn L gf) hv (Nat.le_trans hm hm2)]
 by_cases c1:gs.length=L.length
 ·repeat'(first|refine gA ?_|(refine goG ?_;intro g)|(refine goV ?_;intro v))
  refine WL.callV (containsFI_c ug gs 79 [] [] (fun x=>decide (x < -1)) core1_c) (hF:=.cons (HasB.f hmA) .nil) ?_
  cases c2:gs.any fun x=>decide (x < -1) with
  |true=>
   have hc:corS vn L gs=([],1):=if_neg (fun h=>by rw[c2] at h;exact Bool.noConfusion h.2)
   repeat'(first|refine gA ?_|(refine goG ?_;intro g)|(refine goV ?_;intro v))
   exact WC.ret (Fin.p [] [sI (.slice none 0 0) (corS vn L gs).1] (ResE.t2 rfl rfl rfl) meA (List.nil_sublist _) (bad hc) ⟨_,by rw[hc],rfl,rfl⟩)
  |false=>
   have hcor:corS vn L gs=if contP vn L gs (coreLs gs)=true then((coreLs gs).foldl (coreSt vn L gs) (coreLs gs),0) else([],6):=if_pos ⟨c1,c2⟩
   have hgl:gs.length≤1000000:=by omega
   have hfl:(gs.filter fun x=>!decide (x < 0)).length≤1000000:=Nat.le_trans (List.length_filter_le _ _) hgl
   repeat'(first|refine gA ?_|(refine goG ?_;intro g)|(refine goV ?_;intro v))
   first|refine WL.callO (cloneI_c ug gs hgl) (fun rv=>?_)|refine WD.callO (cloneI_c ug gs hgl) (fun rv=>?_)
   repeat'(first|refine gA ?_|(refine goG ?_;intro g)|(refine goV ?_;intro v))
   refine WL.callG [Ow.slice rv 3 1 (ints gs)] _ (.refl _) (U.delNeg_c rv gs hgl) ?_
   rintro rd bb GG ⟨rfl,rfl⟩
   simp only[List.nil_append,List.cons_append]
   repeat'(first|refine gA ?_|(refine goG ?_;intro g)|(refine goV ?_;intro v))
   refine WL.callG [Ow.slice rd 3 1 (ints (gs.filter fun x=>!decide (x < 0)))] _ (.refl _) (sort_c rd _ hfl) ?_
   rintro _ bb GG ⟨rfl,rfl,rfl⟩
   simp only[List.nil_append,List.cons_append]
   repeat'(first|refine gA ?_|(refine goG ?_;intro g)|(refine goV ?_;intro v))
   refine WL.callG [Ow.slice rd 3 1 (ints (srt (gs.filter fun x=>!decide (x < 0))))] _ (.refl _) (compactA_c rd _ (by rw[srt_len];exact hfl)) ?_
   rintro rc bb GG ⟨rfl,rfl⟩
   simp only[List.nil_append,List.cons_append]
   rw[show Lib.compact (srt (gs.filter fun x=>!decide (x < 0)))=coreLs gs from rfl]
   refine WL.freezeI (l:=coreLs gs) (v:=rc) (el:=3) (by repeat(first|exact Sel.head|apply Sel.tail)) ?_
   repeat'(first|refine gA ?_|(refine goG ?_;intro g)|(refine goV ?_;intro v))
   have hll:=coreLs_len gs
   generalize hLL:coreLs gs=LL at *
   first|refine WL.callV (contradictory_c M K0 m vn L gf gs LL ug rc hf hL hm c1) ?_|refine WD.callV (contradictory_c M K0 m vn L gf gs LL ug rc hf hL hm c1) ?_
   by_cases c3:contP vn L gs LL=true
   ·rw[if_pos c3] at hcor
    rw[c3]
    repeat'(first|refine gA ?_|(refine goG ?_;intro g)|(refine goV ?_;intro v))
    first|refine WL.callO (cloneI_c rc LL (by omega)) (fun rv=>?_)|refine WD.callO (cloneI_c rc LL (by omega)) (fun rv=>?_)
    refine WL.freezeI (l:=LL) (v:=rv) (el:=3) (by repeat(first|exact Sel.head|apply Sel.tail)) ?_
    repeat'(first|refine gA ?_|(refine goG ?_;intro g)|(refine goV ?_;intro v))
    refine WC.lp (σ:=Nat×Value) (fun st=>[(41,.int .i64 (st.1:Int)),(7,st.2),(39,rv),(40,.int .i64 (LL.length:Int)),(2,ptr gb),(1,ug)])
     (fun _=>[Ow.cells gb 26 (pcs M vn)])
     (fun st=>[sI st.2 ((LL.take st.1).foldl (coreSt vn L gs) LL),sI rv LL,ge h0,fLn M vn L,fP M (X.lpOf vn L gf),sI ug gs]) (fun st=>st.1≤LL.length) (fun st=>LL.length - st.1) (0,rc) (Nat.zero_le _) ?_ suA slA sfA
    rintro⟨i,lv⟩ hi
    simp only at hi ⊢
    have hfl:=coreSt_len vn L gs (LL.take i) LL
    by_cases c:i < LL.length
    ·have hst:(LL.take (i+1)).foldl (coreSt vn L gs) LL=coreSt vn L gs ((LL.take i).foldl (coreSt vn L gs) LL) (LL.getD i 0):=by
      rw[List.take_succ_eq_append_getElem c,List.foldl_append,List.getD_eq_getElem?_getD,List.getElem?_eq_getElem c];rfl
     generalize (LL.take i).foldl (coreSt vn L gs) LL=MM at *
     repeat'(first|refine gA ?_|(refine goG ?_;intro g)|(refine goV ?_;intro v))
     revert g;intro g9
     refine WL.keep (g:=g9) (by repeat(first|exact Rem.head|apply Rem.tail)) ?_
     first|refine WL.callO (cloneI_c lv MM (by omega)) (fun rv=>?_)|refine WD.callO (cloneI_c lv MM (by omega)) (fun rv=>?_)
     repeat'(first|refine gA ?_|(refine goG ?_;intro g)|(refine goV ?_;intro v))
     refine WL.callG [Ow.slice rv 3 1 (ints MM)] _ (.refl _) (U.delEq_c rv MM (LL.getD i 0) g9 (by omega)) ?_
     rintro rr bb GG ⟨rfl,rfl⟩
     simp only[List.nil_append,List.cons_append]
     have hrl:(MM.filter fun x=>!decide (x=LL.getD i 0)).length≤MM.length:=List.length_filter_le _ _
     have hcs:coreSt vn L gs MM (LL.getD i 0)=if contP vn L gs (MM.filter fun x=>!decide (x=LL.getD i 0))=true then MM.filter (fun x=>!decide (x=LL.getD i 0)) else MM:=rfl
     generalize MM.filter (fun x=>!decide (x=LL.getD i 0))=M2 at *
     refine WL.freezeI (l:=M2) (v:=rr) (el:=3) (by repeat(first|exact Sel.head|apply Sel.tail)) ?_
     repeat'(first|refine gA ?_|(refine goG ?_;intro g)|(refine goV ?_;intro v))
     first|refine WL.callV (contradictory_c M K0 m vn L gf gs M2 ug rr hf hL hm c1) ?_|refine WD.callV (contradictory_c M K0 m vn L gf gs M2 ug rr hf hL hm c1) ?_
     by_cases c4:contP vn L gs M2=true
     ·rw[if_pos c4] at hcs
      rw[c4]
      repeat'(first|refine gA ?_|(refine goG ?_;intro g)|(refine goV ?_;intro v))
      exact LoopEnd.mk (i+1,rr) (by show i+1≤LL.length;omega) (by show LL.length - (i+1) < LL.length - i;omega) suA slA (HasAll.cons (by show Has _ (sI rr ((LL.take (i+1)).foldl (coreSt vn L gs) LL));rw[hst,hcs];exact hmA) sfA)
     ·rw[if_neg c4] at hcs
      rw[Bool.eq_false_iff.2 c4]
      repeat'(first|refine gA ?_|(refine goG ?_;intro g)|(refine goV ?_;intro v))
      exact LoopEnd.mk (i+1,lv) (by show i+1≤LL.length;omega) (by show LL.length - (i+1) < LL.length - i;omega) suA slA (HasAll.cons (by show Has _ (sI lv ((LL.take (i+1)).foldl (coreSt vn L gs) LL));rw[hst,hcs];exact hmA) sfA)
    ·obtain rfl:i=LL.length:=by omega
     rw[List.take_of_length_le (Nat.le_refl _)]
     repeat'(first|refine gA ?_|(refine goG ?_;intro g)|(refine goV ?_;intro v))
     exact WC.ret (Fin.p [] [sI lv (corS vn L gs).1] (ResE.t2 rfl rfl rfl) meA (List.nil_sublist _) (by rw[hcor];exact haA) ⟨_,by rw[hcor],rfl,rfl⟩)
   ·rw[if_neg c3] at hcor
    rw[Bool.eq_false_iff.2 c3]
    repeat'(first|refine gA ?_|(refine goG ?_;intro g)|(refine goV ?_;intro v))
    exact WC.ret (Fin.p [] [sI (.slice none 0 0) (corS vn L gs).1] (ResE.t2 rfl rfl rfl) meA (List.nil_sublist _) (.cons (by rw[hcor];exact nilI) .nil) ⟨_,by rw[hcor],rfl,rfl⟩)
 ·have hc:corS vn L gs=([],1):=if_neg (fun h=>c1 h.1)
  repeat'(first|refine gA ?_|(refine goG ?_;intro g)|(refine goV ?_;intro v))
  exact WC.ret (Fin.p [] [sI (.slice none 0 0) (corS vn L gs).1] (ResE.t2 rfl rfl rfl) meA (List.nil_sublist _) (bad hc) ⟨_,by rw[hc],rfl,rfl⟩)
end U
end Go.Proofs.YtaongbhamadlkaaGreat
namespace Go.Proofs.YtaongbhamadlkaaGreat
open W Go.RowKit
def I64 (n:Int):Prop:=-9223372036854775808≤n∧n≤9223372036854775807
def around (n m:Int):Int:=(if n < 0 then -(n+1) else n) % m
theorem around_lt {n m:Int} (hm:0 < m):0≤around n m∧around n m < m:=⟨Int.emod_nonneg _ (by omega),Int.emod_lt_of_pos _ hm⟩
theorem getD_i64 {l:List Int} (hl:∀ x∈l,I64 x) (k:Nat):I64 (l.getD k 0):=by
 rw[List.getD_eq_getElem?_getD]
 cases h:l[k]? with
 |none=>simp[I64]
 |some x=>simpa using hl x (List.mem_of_getElem? h)
def atP (l:List Int) (i m:Int):Int:=if i < 0∨(l.length:Int)≤i then 0 else around (l.getD i.toNat 0) m
theorem atP_lt {l:List Int} {i m:Int} (hm:0 < m):0≤atP l i m∧atP l i m < m:=by
 unfold atP;split
 ·omega
 ·exact around_lt hm
theorem same_all {l m:List Int} (hl:l.length=m.length) (h:∀ j,j < l.length→l.getD j 0=m.getD j 0):l=m:=by
 apply List.ext_getElem hl
 intro i h1 h2
 have:=h i h1
 simpa [List.getD_eq_getElem?_getD,h1,h2] using this
namespace U
attribute [local irreducible] WC WL WD YO LO LoopEnd W.Fin Scalar SliceT FieldAt Row ArrT AllocT KnS Has W.One SrcE IntT
theorem d25 {G G':Prop} (h:G') (s:Bx G'→G:=by
 intro h
 first|(apply WC.draw (id:=6) [0,1,2,3,4,5,6,7,8] (.held 0 (.held 1 (.held 2 (.held 3 (.held 4 (.held 5 (.held 6 (.held 7 (.held 8 (.done)))))))))) mixed (by kernel_rfl))|fail
 exact Bx.h h):G:=s ⟨h⟩
set_option maxHeartbeats 4000000 in
set_option maxRecDepth 60000 in
theorem around_c (n m:Int) (hn:I64 n) (hm:0 < m):FnB Tryz.prog 23 [.int .i64 n,.int .i64 m] [] [] (IsV (.int .i64 (around n m))):=by
 obtain⟨hn,hn2⟩:=hn
 refine fn_of [(0,(.int .i64 n)),(1,(.int .i64 m))] 13 Tryz.func23 rfl Tryz.ntmps23 (by kernel_rfl) rfl suA fun h0=>?_
 by_cases h:n < 0
 ·repeat'(first|refine gA ?_|(refine goG ?_;intro g)|(refine goV ?_;intro v))
  exact WC.ret (Fin.v (ResE.t1 rfl rfl) meA (by simp[around,h]))
 ·repeat'(first|refine gA ?_|(refine goG ?_;intro g)|(refine goV ?_;intro v))
  exact WC.ret (Fin.v (ResE.t1 rfl rfl) meA (by simp[around,h]))
set_option maxHeartbeats 4000000 in
set_option maxRecDepth 60000 in
theorem at_c (v:Value) (l:List Int) (i m:Int) (hl:∀ x∈l,I64 x) (hm:0 < m):FnB Tryz.prog 29 [v,.int .i64 i,.int .i64 m] [] [sI v l] (IsV (.int .i64 (atP l i m))):=by
 refine fn_of [(0,v),(1,(.int .i64 i)),(2,(.int .i64 m))] 21 Tryz.func29 rfl Tryz.ntmps29 (by kernel_rfl) rfl suA fun h0=>?_
 refine WC.lenI v l hmA fun hlen=>?_
 by_cases h:i < 0
 ·repeat'(first|refine gA ?_|(refine goG ?_;intro g)|(refine goV ?_;intro v))
  exact WC.ret (Fin.v (ResE.t1 rfl rfl) meA (by simp[atP,h]))
 by_cases h2:(l.length:Int)≤i
 ·repeat'(first|refine gA ?_|(refine goG ?_;intro g)|(refine goV ?_;intro v))
  exact WC.ret (Fin.v (ResE.t1 rfl rfl) meA (by simp[atP,h2]))
 ·repeat'(first|refine gA ?_|(refine goG ?_;intro g)|(refine goV ?_;intro v))
  first|refine WL.callV (around_c _ _ (getD_i64 hl _) hm) ?_|refine WD.callV (around_c _ _ (getD_i64 hl _) hm) ?_
  repeat'(first|refine gA ?_|(refine goG ?_;intro g)|(refine goV ?_;intro v))
  exact WC.ret (Fin.v (ResE.t1 rfl rfl) meA (by simp[atP,h,h2]))
set_option maxHeartbeats 4000000 in
set_option maxRecDepth 60000 in
theorem sameInts_c (v u:Value) (l m:List Int):FnB Tryz.prog 25 [v,u] [] [sI v l,sI u m] (IsV (.bool (decide (l=m)))):=by
 refine fn_of [(0,v),(1,u)] 26 Tryz.func25 rfl Tryz.ntmps25 (by kernel_rfl) rfl suA fun h0=>?_
 refine WC.lenI v l hmA fun hlen=>?_
 by_cases hl:l.length=m.length
 ·repeat'(first|refine gB ?_|(refine gH ?_;intro g)|(refine gW ?_;intro v)|refine d25 ?_|fail)
  refine WC.lp (σ:=Nat) (fun k=>[(5,.int .i64 (k:Int)),(0,v),(1,u)]) (fun _=>[]) (fun _=>[ge h0,sI v l,sI u m]) (fun k=>k≤l.length∧∀ j,j < k→l.getD j 0=m.getD j 0) (fun k=>l.length - k) 0 ⟨Nat.zero_le _,fun j h=>by omega⟩ ?_
  rintro k ⟨hk,hn⟩
  by_cases hlt:k < l.length
  ·by_cases he:l.getD k 0=m.getD k 0
   ·repeat'(first|refine gB ?_|(refine gH ?_;intro g)|(refine gW ?_;intro v)|refine d25 ?_|fail)
    refine LoopEnd.mk (k+1) ⟨by omega,fun j hj=>?_⟩ (by show l.length - (k+1) < l.length - k;omega)
    by_cases hjk:j=k
    ·subst hjk;exact he
    ·exact hn j (by omega)
   ·repeat'(first|refine gB ?_|(refine gH ?_;intro g)|(refine gW ?_;intro v)|refine d25 ?_|fail)
    exact WC.ret (Fin.v (ResE.t1 rfl rfl) meA (by rw[decide_eq_false];rintro rfl;exact he rfl))
  ·repeat'(first|refine gB ?_|(refine gH ?_;intro g)|(refine gW ?_;intro v)|refine d25 ?_|fail)
   exact WC.ret (Fin.v (ResE.t1 rfl rfl) meA (by rw[decide_eq_true];exact same_all hl (fun j hj=>hn j (by omega))))
 ·have hl':(l.length:Int)≠m.length:=by omega
  repeat'(first|refine gB ?_|(refine gH ?_;intro g)|(refine gW ?_;intro v)|refine d25 ?_|fail)
  exact WC.ret (Fin.v (ResE.t1 rfl rfl) meA (by rw[decide_eq_false];rintro rfl;exact hl rfl))
end U
end Go.Proofs.YtaongbhamadlkaaGreat
namespace Go.Proofs.YtaongbhamadlkaaGreat
open W Go.RowKit
def LoopEndZ {σ:Type} (E:σ→Env) (B:σ→List Ow) (G:σ→List Fct) (I:σ→Prop) (μ:σ→Nat) (s:σ) (e':Env) (bx':List Ow) (F':List Fct):Prop:=∃ bx2 F2,(∀ fr w,OK fr bx' F' w→OK fr bx2 F2 w)∧LoopEnd E B G I μ s e' bx2 F2
section
variable {P:Program} {n:Nat} {c:Code} {e e':Env} {bx bx':List Ow} {F F':List Fct} {Q:Post} {σ:Type} {E:σ→Env} {B:σ→List Ow} {G:σ→List Fct} {I:σ→Prop} {μ:σ→Nat} {s:σ} {v:Value} {el:Nat} {l:List Int}
theorem WC.lpZ (E:σ→Env) (B:σ→List Ow) (G:σ→List Fct) (I:σ→Prop) (μ:σ→Nat) (s0:σ) (hI:I s0) (hround:∀ s,I s→WC P n c (E s) (B s) (G s) (thenQ (LoopEndZ E B G I μ s) Q))
  (hE:W.Sub (E s0) e:=by repeat(first|exact Sub.nil _|refine Sub.cons rfl ?_)) (hB:(B s0).Sublist bx:=by repeat(first|exact List.Sublist.refl _|exact List.nil_sublist _|apply List.Sublist.cons_cons|apply List.Sublist.cons)) (hG:HasAll F (G s0):=by repeat(first|exact HasAll.nil|(apply HasAll.cons;exact hmA))):WC P n (.loop c) e bx F Q:=
 WC.loop E B G I μ s0 hI hE hB hG.all fun s hs fr w0 a w hk hr ho=>wp_mono (hround s hs fr w0 a w hk hr ho) fun ex a' w' hq=>by
  cases ex <;> first|exact hq|skip
  obtain⟨e1,b1,F1,h1,h2,h3,b2,F2,h4,s',h5,h6,h7,h8⟩:=hq
  exact⟨e1,b2,F2,h1,h2,h4 _ _ h3,s',h5,h6,h7,h8.all⟩
theorem LoopEndZ.of (h:LoopEnd E B G I μ s e' bx' F'):LoopEndZ E B G I μ s e' bx' F':=⟨_,_,fun _ _ h=>h,h⟩
theorem LoopEndZ.freezeI (hs:Sel bx (.slice v el 1 (ints l)) (.slice (.slice none 0 0) el 1 []) bx') (h:LoopEndZ E B G I μ s e' bx' (sI v l::F)):LoopEndZ E B G I μ s e' bx F:=by
 obtain⟨b2,F2,h1,h2⟩:=h
 refine⟨b2,F2,fun fr w ho=>h1 fr w (ho.freeze hs (by simp) (by decide) _ fun j hj=>?_),h2⟩
 have hj':j < l.length:=by omega
 simp[hj']
end
end Go.Proofs.YtaongbhamadlkaaGreat
