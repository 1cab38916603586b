/- Lemmas for the proof of a law: Further steps of the executor, over the model's tables. Conditions: none. -/
import Derived.Test.YtaongbhamadlkaaGreatBs11
import Derived.Test.YtaongbhamadlkaaGreatBs8
import Derived.Test.YtaongbhamadlkaaGreatBs12
import Derived.Test.YtaongbhamadlkaaGreatBs10
set_option linter.unusedVariables false
set_option linter.unusedSimpArgs false
set_option linter.unusedSectionVars false
namespace Go.Proofs.YtaongbhamadlkaaGreat
open W Go.RowKit
attribute [local irreducible] WC WL WD YO LO LoopEnd W.Fin Scalar SliceT FieldAt Row ArrT AllocT KnS Has W.One SrcE IntT
namespace U
set_option maxRecDepth 60000
theorem goE {G G':Prop} (h:G') (s:Bx G'→G:=by
 intro h
 (first
  |(apply WL.k_build;(first|exact YO.buildRT0|(apply YO.buildAk;exact rfl));exact rfl;exact rfl)
  |(apply WL.k_load;(apply YO.ldAs;(first|exact T.r26|exact T.r29|exact T.r31|exact T.r33|exact T.r60|exact T.r77|exact T.r88|exact T.r107|exact T.r123|exact T.r134);exact rfl;exact hmA;omega);exact rfl;exact rfl)
  |(apply WL.kl_store;rotate_left;exact rfl;(first|(apply LO.storeOV;exact rfl;exact rfl;(first|exact T.z3|exact T.z4|exact T.z22|exact T.z23|exact T.z24|exact T.z34|exact T.z48|exact T.z72|exact T.z84|exact T.z86|exact T.z103|exact T.z129|exact T.z131|exact T.z162);(apply One.sl;exact knA);exact seA;omega)|(apply LO.storeAz;exact rfl;exact rfl;(first|exact T.r26|exact T.r29|exact T.r31|exact T.r33|exact T.r60|exact T.r77|exact T.r88|exact T.r107|exact T.r123|exact T.r134);exact hmA;exact seA)|fail))
  |(apply WD.k_build;exact rfl;(first|exact YO.buildRT0|(apply YO.buildAk;exact rfl));exact rfl;exact rfl)
  |(apply WD.k_load;exact rfl;(apply YO.ldAs;(first|exact T.r26|exact T.r29|exact T.r31|exact T.r33|exact T.r60|exact T.r77|exact T.r88|exact T.r107|exact T.r123|exact T.r134);exact rfl;exact hmA;omega);exact rfl;exact rfl)
  |(apply WD.kl_store;exact rfl;rotate_left;exact rfl;(first|(apply LO.storeOV;exact rfl;exact rfl;(first|exact T.z3|exact T.z4|exact T.z22|exact T.z23|exact T.z24|exact T.z34|exact T.z48|exact T.z72|exact T.z84|exact T.z86|exact T.z103|exact T.z129|exact T.z131|exact T.z162);(apply One.sl;exact knA);exact seA;omega)|(apply LO.storeAz;exact rfl;exact rfl;(first|exact T.r26|exact T.r29|exact T.r31|exact T.r33|exact T.r60|exact T.r77|exact T.r88|exact T.r107|exact T.r123|exact T.r134);exact hmA;exact seA)|fail);constructor;(first|(focus(apply Or.inr;constructor;(repeat(first|exact List.Sublist.refl _|exact List.nil_sublist _|apply List.Sublist.cons_cons|apply List.Sublist.cons));(first|exact fun _ h=>h|(intro f hf;(repeat(first|exact hf|apply List.Mem.tail))));done))|(apply Or.inl;kernel_rfl)))
  |((first|(apply LO.storeOV;exact rfl;exact rfl;(first|exact T.z3|exact T.z4|exact T.z22|exact T.z23|exact T.z24|exact T.z34|exact T.z48|exact T.z72|exact T.z84|exact T.z86|exact T.z103|exact T.z129|exact T.z131|exact T.z162);(apply One.sl;exact knA);exact seA;omega)|(apply LO.storeAz;exact rfl;exact rfl;(first|exact T.r26|exact T.r29|exact T.r31|exact T.r33|exact T.r60|exact T.r77|exact T.r88|exact T.r107|exact T.r123|exact T.r134);exact hmA;exact seA)|fail);constructor;(first|(focus(apply Or.inr;constructor;(repeat(first|exact List.Sublist.refl _|exact List.nil_sublist _|apply List.Sublist.cons_cons|apply List.Sublist.cons));(first|exact fun _ h=>h|(intro f hf;(repeat(first|exact hf|apply List.Mem.tail))));done))|(apply Or.inl;kernel_rfl)))
  |fail)
 exact Bx.h h):G:=s ⟨h⟩
theorem goEG {G G':Prop} (h:G') (s:Bx G'→G:=by
 intro h
 (first
  |(apply WL.kl_alloc;rotate_left;exact rfl;exact rfl;apply LO.alloc';(first|fail|fail))
  |(apply WD.kl_alloc;exact rfl;rotate_left;exact rfl;exact rfl;apply LO.alloc';(first|fail|fail);apply allAnd;(intro _;(first|(focus(apply Or.inr;constructor;(repeat(first|exact List.Sublist.refl _|exact List.nil_sublist _|apply List.Sublist.cons_cons|apply List.Sublist.cons));(first|exact fun _ h=>h|(intro f hf;(repeat(first|exact hf|apply List.Mem.tail))));done))|(apply Or.inl;kernel_rfl))))
  |(apply LO.alloc';(first|fail|fail);apply allAnd;(intro _;(first|(focus(apply Or.inr;constructor;(repeat(first|exact List.Sublist.refl _|exact List.nil_sublist _|apply List.Sublist.cons_cons|apply List.Sublist.cons));(first|exact fun _ h=>h|(intro f hf;(repeat(first|exact hf|apply List.Mem.tail))));done))|(apply Or.inl;kernel_rfl))))
  |fail)
 exact Bx.h h):G:=s ⟨h⟩
theorem goEV {G G':Prop} (h:G') (s:Bx G'→G:=by
 intro h
 (first
  |(apply WL.kl_app;rotate_left;exact rfl;exact rfl;(first|(apply LO.appMk2;exact rfl;exact rfl;(intro _;exact seA);omega;omega;omega)|fail))
  |(apply WD.kl_app;exact rfl;rotate_left;exact rfl;exact rfl;(first|(apply LO.appMk2;exact rfl;exact rfl;(intro _;exact seA);omega;omega;omega)|fail);apply allAnd;(intro _;(first|(focus(apply Or.inr;constructor;(repeat(first|exact List.Sublist.refl _|exact List.nil_sublist _|apply List.Sublist.cons_cons|apply List.Sublist.cons));(first|exact fun _ h=>h|(intro f hf;(repeat(first|exact hf|apply List.Mem.tail))));done))|(apply Or.inl;kernel_rfl))))
  |((first|(apply LO.appMk2;exact rfl;exact rfl;(intro _;exact seA);omega;omega;omega)|fail);apply allAnd;(intro _;(first|(focus(apply Or.inr;constructor;(repeat(first|exact List.Sublist.refl _|exact List.nil_sublist _|apply List.Sublist.cons_cons|apply List.Sublist.cons));(first|exact fun _ h=>h|(intro f hf;(repeat(first|exact hf|apply List.Mem.tail))));done))|(apply Or.inl;kernel_rfl))))
  |(apply WL.kl_bs;rotate_left;exact rfl;exact rfl;(apply LO.bsA6;exact rfl;exact rfl;exact rfl;exact rfl;exact rfl;exact rfl;exact hmA;exact hmA;exact hmA;exact hmA;exact hmA;exact hmA))
  |(apply WD.kl_bs;exact rfl;rotate_left;exact rfl;exact rfl;(apply LO.bsA6;exact rfl;exact rfl;exact rfl;exact rfl;exact rfl;exact rfl;exact hmA;exact hmA;exact hmA;exact hmA;exact hmA;exact hmA);apply allAnd;(intro _;(first|(focus(apply Or.inr;constructor;(repeat(first|exact List.Sublist.refl _|exact List.nil_sublist _|apply List.Sublist.cons_cons|apply List.Sublist.cons));(first|exact fun _ h=>h|(intro f hf;(repeat(first|exact hf|apply List.Mem.tail))));done))|(apply Or.inl;kernel_rfl))))
  |((apply LO.bsA6;exact rfl;exact rfl;exact rfl;exact rfl;exact rfl;exact rfl;exact hmA;exact hmA;exact hmA;exact hmA;exact hmA;exact hmA);apply allAnd;(intro _;(first|(focus(apply Or.inr;constructor;(repeat(first|exact List.Sublist.refl _|exact List.nil_sublist _|apply List.Sublist.cons_cons|apply List.Sublist.cons));(first|exact fun _ h=>h|(intro f hf;(repeat(first|exact hf|apply List.Mem.tail))));done))|(apply Or.inl;kernel_rfl))))
  |(apply WL.kl_bs;rotate_left;exact rfl;exact rfl;(apply LO.bsA3;exact rfl;exact rfl;exact rfl;exact hmA;exact hmA;exact hmA))
  |(apply WD.kl_bs;exact rfl;rotate_left;exact rfl;exact rfl;(apply LO.bsA3;exact rfl;exact rfl;exact rfl;exact hmA;exact hmA;exact hmA);apply allAnd;(intro _;(first|(focus(apply Or.inr;constructor;(repeat(first|exact List.Sublist.refl _|exact List.nil_sublist _|apply List.Sublist.cons_cons|apply List.Sublist.cons));(first|exact fun _ h=>h|(intro f hf;(repeat(first|exact hf|apply List.Mem.tail))));done))|(apply Or.inl;kernel_rfl))))
  |((apply LO.bsA3;exact rfl;exact rfl;exact rfl;exact hmA;exact hmA;exact hmA);apply allAnd;(intro _;(first|(focus(apply Or.inr;constructor;(repeat(first|exact List.Sublist.refl _|exact List.nil_sublist _|apply List.Sublist.cons_cons|apply List.Sublist.cons));(first|exact fun _ h=>h|(intro f hf;(repeat(first|exact hf|apply List.Mem.tail))));done))|(apply Or.inl;kernel_rfl))))
  |fail)
 exact Bx.h h):G:=s ⟨h⟩
end U
end Go.Proofs.YtaongbhamadlkaaGreat
namespace Go.Proofs.YtaongbhamadlkaaGreat
open W Go.RowKit
def pvT (s:X.St) (row col i k j:Nat):Rat:=if k < i∧k≠row then s.t k j - s.t k col*(s.t row j / s.t row col) else s.t k j
theorem pvT_up {s:X.St} {row col i:Nat} (hi:i≠row) (k j:Nat):upd (pvT s row col i) i (fun j=>s.t i j - s.t i col*(s.t row j / s.t row col)) k j=pvT s row col (i+1) k j:=by
 unfold upd pvT
 by_cases e:k=i
 ·subst e;rw[if_pos rfl,if_pos ⟨by omega,hi⟩]
 ·rw[if_neg e]
  by_cases c:k < i∧k≠row
  ·rw[if_pos c,if_pos ⟨by omega,c.2⟩]
  ·rw[if_neg c,if_neg (fun h=>c ⟨by omega,h.2⟩)]
theorem pvT_row {s:X.St} {row col:Nat} (k j:Nat):pvT s row col row k j=pvT s row col (row+1) k j:=by
 unfold pvT
 by_cases c:k < row∧k≠row
 ·rw[if_pos c,if_pos ⟨by omega,c.2⟩]
 ·rw[if_neg c,if_neg (fun h=>c ⟨by omega,h.2⟩)]
namespace U
open Z
attribute [local irreducible] WC WL WD YO LO LoopEnd W.Fin Scalar SliceT FieldAt Row ArrT AllocT KnS Has W.One SrcE IntT
theorem d74 {G G':Prop} (h:G') (s:Bx G'→G:=by
 intro h
 first|(apply WC.draw (id:=0) [0,1,2,3,4,5,6,8,9,10,11,12,13,14,15,16,17] (.held 0 (.held 1 (.held 2 (.held 3 (.held 4 (.held 5 (.held 6 (.held 8 (.held 9 (.held 10 (.held 11 (.held 12 (.held 13 (.held 14 (.held 15 (.held 16 (.held 17 (.loud 7 (.loud 18 (.loud 19 (.loud 20 (.done)))))))))))))))))))))) mixed (by kernel_rfl))|(apply WC.draw (id:=5) [0,1,2,3,4,5,6,7,8,9,10,11,12,13] (.held 0 (.held 1 (.held 2 (.held 3 (.held 4 (.held 5 (.held 6 (.held 7 (.held 8 (.held 9 (.held 10 (.held 11 (.held 12 (.held 13 (.loud 14 (.loud 15 (.loud 16 (.done)))))))))))))))))) mixed (by kernel_rfl))|fail
 exact Bx.h h):G:=s ⟨h⟩
theorem d133 {G G':Prop} (h:G') (s:Bx G'→G:=by
 intro h
 first|(apply WC.draw (id:=10) [0,1,2,3,4,5,6,7,8,9] (.held 0 (.held 1 (.held 2 (.held 3 (.held 4 (.held 5 (.held 6 (.held 7 (.held 8 (.held 9 (.loud 10 (.loud 11 (.loud 12 (.loud 13 (.loud 14 (.done)))))))))))))))) mixed (by kernel_rfl))|fail
 exact Bx.h h):G:=s ⟨h⟩
set_option maxHeartbeats 8000000 in
set_option maxRecDepth 60000 in
theorem wiped_c (va vr:Value) (w K col:Nat) (ma mr:Nat→QM) (a r:Nat→Rat) (hw:w≤10000) (hc:col < w) (hK:4*K+1≤400000000) (ha:∀ i,i < w→Sq K (a i)) (hr:∀ i,i < w→Sq K (r i)) :
  FnB Tryz.prog 133 [va,vr,.int .i64 (col:Int)] [] [fF va w ma a,fF vr w mr r] (IsF w fun k=>a k - a col*r k):=by
 refine fn_of [(0,va),(1,vr),(2,(.int .i64 (col:Int)))] 53 Tryz.func133 rfl Tryz.ntmps133 (by kernel_rfl) rfl suA fun h0=>?_
 refine WC.addNil 31 4 ?_
 refine WC.fact (isQ (qv (ma col)) (a col)) (W.Has.q (W.Has.fm (v:=va) (ms:=ma) hmA) hc) ?_
 have hz:=@sgn_zero (-a col)
 repeat'(first|refine gA ?_|(refine goG ?_;intro g)|(refine goV ?_;intro v)|refine goE ?_|(refine goEG ?_;intro g)|(refine goEV ?_;intro v)|refine goD ?_|refine goXD ?_|(refine goDG ?_;intro g)|(refine goDV ?_;intro v)|refine gY ?_|refine d133 ?_|fail)
 first|refine WL.callK (Zn.rneg (ma col) (a col)) ?_|refine WD.callK (Zn.rneg (ma col) (a col)) ?_|refine LO.callM (Zn.rneg (ma col) (a col)) ?_
 rintro _ _ _ ⟨mf,rfl,rfl,rfl⟩
 simp only[List.nil_append,List.cons_append]
 repeat'(first|refine gA ?_|(refine goG ?_;intro g)|(refine goV ?_;intro v)|refine goE ?_|(refine goEG ?_;intro g)|(refine goEV ?_;intro v)|refine goD ?_|refine goXD ?_|(refine goDG ?_;intro g)|(refine goDV ?_;intro v)|refine gY ?_|refine d133 ?_|fail)
 revert g;intro g7
 first|refine WL.callV (Zn.rsign mf (-a col)) ?_|refine WD.callV (Zn.rsign mf (-a col)) ?_
 by_cases cz:-a col=0
 ·have cz':=hz.2 cz
  have e:a col=0:=by grind
  refine WL.fact' (fF va w ma fun k=>a k - a col*r k) (W.Has.fFsame (q:=a) hmA fun k _=>by rw[e];grind) ?_
  repeat'(first|refine gA ?_|(refine goG ?_;intro g)|(refine goV ?_;intro v)|refine goE ?_|(refine goEG ?_;intro g)|(refine goEV ?_;intro v)|refine goD ?_|refine goXD ?_|(refine goDG ?_;intro g)|(refine goDV ?_;intro v)|refine gY ?_|refine d133 ?_|fail)
  refine WC.ret ?_
  exact Fin.p [] [fF va w ma fun k=>a k - a col*r k] (ResE.t1 rfl rfl) meA (List.nil_sublist _) haA ⟨ma,rfl,rfl⟩
 ·have cz':¬sgn (-a col).num=0:=fun h=>cz (hz.1 h)
  repeat'(first|refine gA ?_|(refine goG ?_;intro g)|(refine goV ?_;intro v)|refine goE ?_|(refine goEG ?_;intro g)|(refine goEV ?_;intro v)|refine goD ?_|refine goXD ?_|(refine goDG ?_;intro g)|(refine goDV ?_;intro v)|refine gY ?_|refine d133 ?_|fail)
  refine WC.lp (σ:=Nat×Value×(Nat→QM)) (fun st=>[(9,.int .i64 (st.1:Int)),(0,va),(1,vr),(7,ptr g7),(8,st.2.1)]) (fun st=>[Ow.cells g7 31 (qcs mf),Ow.slice st.2.1 31 4 (qcells st.1 st.2.2)])
   (fun st=>[mF st.1 st.2.2 (clx (fun k=>a k - a col*r k) st.1),isQ (qv mf) (-a col),ge h0,fF va w ma a,fF vr w mr r]) (fun st=>st.1≤w) (fun st=>w - st.1) (0,.slice none 0 0,fun _=>m00) (Nat.zero_le _) ?_ (hG:=.cons (W.Has.mFn _ _) sfA)
  rintro⟨k,sv,ms⟩ hk
  simp only at hk ⊢
  by_cases c:k < w
  ·refine WC.fact (isQ (qv (ma k)) (a k)) (W.Has.q (W.Has.fm (v:=va) (ms:=ma) hmA) c) ?_
   refine WC.fact (isQ (qv (mr k)) (r k)) (W.Has.q (W.Has.fm (v:=vr) (ms:=mr) hmA) c) ?_
   have hzr:=@sgn_zero (r k)
   repeat'(first|refine gA ?_|(refine goG ?_;intro g)|(refine goV ?_;intro v)|refine goE ?_|(refine goEG ?_;intro g)|(refine goEV ?_;intro v)|refine goD ?_|refine goXD ?_|(refine goDG ?_;intro g)|(refine goDV ?_;intro v)|refine gY ?_|refine d133 ?_|fail)
   first|refine WL.callV (Zn.rsign (mr k) (r k)) ?_|refine WD.callV (Zn.rsign (mr k) (r k)) ?_
   by_cases cr:r k=0
   ·have cr':=hzr.2 cr
    repeat'(first|refine gA ?_|(refine goG ?_;intro g)|(refine goV ?_;intro v)|refine goE ?_|(refine goEG ?_;intro g)|(refine goEV ?_;intro v)|refine goD ?_|refine goXD ?_|(refine goDG ?_;intro g)|(refine goDV ?_;intro v)|refine gY ?_|refine d133 ?_|fail)
    exact LoopEnd.mk (k+1,_,upd ms k (ma k)) (by show k+1≤w;omega) (by show w - (k+1) < w - k;omega) (hG:=.cons ((W.Has.mFapp (n:=k) (ms:=ms) (m:=ma k) (z:=a k - a col*r k) (qf:=clx (fun k=>a k - a col*r k) k) hmA (by rw[show a k - a col*r k=a k by rw[cr];grind];exact hmA)).mFsame fun j hj=>clx_up (c:=fun k=>a k - a col*r k) j) sfA)
   ·have cr':¬sgn (r k).num=0:=fun h=>cr (hzr.1 h)
    repeat'(first|refine gA ?_|(refine goG ?_;intro g)|(refine goV ?_;intro v)|refine goE ?_|(refine goEG ?_;intro g)|(refine goEV ?_;intro v)|refine goD ?_|refine goXD ?_|(refine goDG ?_;intro g)|(refine goDV ?_;intro v)|refine gY ?_|refine d133 ?_|fail)
    first|refine WL.callK (Zn.rmul mf (mr k) (-a col) (r k) ((ha col hc).neg.sm (by omega)) ((hr k c).sm (by omega))) ?_|refine WD.callK (Zn.rmul mf (mr k) (-a col) (r k) ((ha col hc).neg.sm (by omega)) ((hr k c).sm (by omega))) ?_|refine LO.callM (Zn.rmul mf (mr k) (-a col) (r k) ((ha col hc).neg.sm (by omega)) ((hr k c).sm (by omega))) ?_
    rintro _ _ _ ⟨m1,rfl,rfl,rfl⟩
    simp only[List.nil_append,List.cons_append]
    repeat'(first|refine gA ?_|(refine goG ?_;intro g)|(refine goV ?_;intro v)|refine goE ?_|(refine goEG ?_;intro g)|(refine goEV ?_;intro v)|refine goD ?_|refine goXD ?_|(refine goDG ?_;intro g)|(refine goDV ?_;intro v)|refine gY ?_|refine d133 ?_|fail)
    first|refine WL.callK (Zn.radd (ma k) m1 (a k) (-a col*r k) ((ha k c).sm (by omega)) (((ha col hc).neg.mul (hr k c)).sm (by omega))) ?_|refine WD.callK (Zn.radd (ma k) m1 (a k) (-a col*r k) ((ha k c).sm (by omega)) (((ha col hc).neg.mul (hr k c)).sm (by omega))) ?_|refine LO.callM (Zn.radd (ma k) m1 (a k) (-a col*r k) ((ha k c).sm (by omega)) (((ha col hc).neg.mul (hr k c)).sm (by omega))) ?_
    rintro _ _ _ ⟨m2,rfl,rfl,rfl⟩
    simp only[List.nil_append,List.cons_append]
    refine WD.fact (mF (k+1) (upd ms k m2) (clx (fun k=>a k - a col*r k) (k+1))) ((W.Has.mFapp (n:=k) (ms:=ms) (m:=m2) (z:=a k - a col*r k) (qf:=clx (fun k=>a k - a col*r k) k) hmA (by rw[show a k - a col*r k=a k+ -a col*r k by grind];exact hmA)).mFsame fun j hj=>clx_up (c:=fun k=>a k - a col*r k) j) ?_
    repeat'(first|refine gA ?_|(refine goG ?_;intro g)|(refine goV ?_;intro v)|refine goE ?_|(refine goEG ?_;intro g)|(refine goEV ?_;intro v)|refine goD ?_|refine goXD ?_|(refine goDG ?_;intro g)|(refine goDV ?_;intro v)|refine gY ?_|refine d133 ?_|fail)
    exact LoopEnd.mk (k+1,_,_) (by show k+1≤w;omega) (by show w - (k+1) < w - k;omega)
  ·obtain rfl:k=w:=by omega
   refine WC.freezeF sv k ms (fun j=>a j - a col*r j) (by repeat(first|exact Sel.head|apply Sel.tail)) (W.Has.mFsame (qf:=clx (fun j=>a j - a col*r j) k) hmA fun j hj=>by unfold clx;rw[if_pos hj]) ?_
   repeat'(first|refine gA ?_|(refine goG ?_;intro g)|(refine goV ?_;intro v)|refine goE ?_|(refine goEG ?_;intro g)|(refine goEV ?_;intro v)|refine goD ?_|refine goXD ?_|(refine goDG ?_;intro g)|(refine goDV ?_;intro v)|refine gY ?_|refine d133 ?_|fail)
   refine WC.ret ?_
   exact Fin.p [] [fF sv k ms fun j=>a j - a col*r j] (ResE.t1 rfl rfl) meA (List.nil_sublist _) haA ⟨ms,rfl,rfl⟩
set_option maxHeartbeats 8000000 in
set_option maxRecDepth 60000 in
theorem rpivot_c (xg m n row col K:Nat) (tv cv bv:Value) (rv:Nat→Value) (ms:Nat→Nat→QM) (mc:Nat→QM) (s:X.St) (hr:row < m) (hc:col < n+1) (hm:m≤1000) (hn:n≤9000) (hK0:0 < K) (hK:20*K+20≤400000000)
  (hs:∀ i,i < m→∀ k,k < n+1→Sq K (s.t i k)) (hcs:∀ k,k < n+1→Sq K (s.c k)) :
  FnB Tryz.prog 74 [ptr xg,.int .i64 (row:Int),.int .i64 (col:Int)] (RT xg m tv cv bv rv s.b) [rF m (n+1) rv ms s.t,fF cv (n+1) mc s.c] (IsRT xg m n tv bv (X.pv s row col)):=by
 refine fn_of [(0,(ptr xg)),(1,(.int .i64 (row:Int))),(2,(.int .i64 (col:Int)))] 80 Tryz.func74 rfl Tryz.ntmps74 (by kernel_rfl) rfl suA fun h0=>?_
 refine WC.fact (fF (rv row) (n+1) (ms row) (s.t row)) (W.Has.tr (m:=m) hmA hr) ?_
 refine WC.fact (isQ (qv (ms row col)) (s.t row col)) (W.Has.q (W.Has.fm (v:=rv row) (ms:=ms row) hmA) hc) ?_
 have hdv:∀ k,k < n+1→Sq (2*K) (s.t row k / s.t row col):=fun k hk=>(Sq.div hK0 (hs row hr k hk) (hs row hr col hc)).up (by omega)
 have hd1:Sq (K+1) (1 / s.t row col):=(Sq.div hK0 X.sq_one (hs row hr col hc)).up (by omega)
 repeat'(first|refine gA ?_|(refine goG ?_;intro g)|(refine goV ?_;intro v)|refine goE ?_|(refine goEG ?_;intro g)|(refine goEV ?_;intro v)|refine goD ?_|refine goXD ?_|(refine goDG ?_;intro g)|(refine goDV ?_;intro v)|refine gY ?_|refine d74 ?_|fail)
 first|refine WL.callK (Zn.rof 1 1 (by decide) (by decide)) ?_|refine WD.callK (Zn.rof 1 1 (by decide) (by decide)) ?_|refine LO.callM (Zn.rof 1 1 (by decide) (by decide)) ?_
 rintro _ _ _ ⟨m1,rfl,rfl,rfl⟩
 simp only[List.nil_append,List.cons_append]
 rw[show Rat.divInt 1 1=1 by decide +kernel]
 repeat'(first|refine gA ?_|(refine goG ?_;intro g)|(refine goV ?_;intro v)|refine goE ?_|(refine goEG ?_;intro g)|(refine goEV ?_;intro v)|refine goD ?_|refine goXD ?_|(refine goDG ?_;intro g)|(refine goDV ?_;intro v)|refine gY ?_|refine d74 ?_|fail)
 first|refine WL.callK (Zn.rdiv m1 (ms row col) 1 (s.t row col) (X.sq_one.sm (by omega)) ((hs row hr col hc).sm (by omega))) ?_|refine WD.callK (Zn.rdiv m1 (ms row col) 1 (s.t row col) (X.sq_one.sm (by omega)) ((hs row hr col hc).sm (by omega))) ?_|refine LO.callM (Zn.rdiv m1 (ms row col) 1 (s.t row col) (X.sq_one.sm (by omega)) ((hs row hr col hc).sm (by omega))) ?_
 rintro _ _ _ ⟨m2,rfl,rfl,rfl⟩
 simp only[List.nil_append,List.cons_append]
 repeat'(first|refine gA ?_|(refine goG ?_;intro g)|(refine goV ?_;intro v)|refine goE ?_|(refine goEG ?_;intro g)|(refine goEV ?_;intro v)|refine goD ?_|refine goXD ?_|(refine goDG ?_;intro g)|(refine goDV ?_;intro v)|refine gY ?_|refine d74 ?_|fail)
 refine WD.callK (scaled_c (rv row) (n+1) (ms row) (s.t row) m2 (1 / s.t row col) (by omega) (fun k hk=>(hs row hr k hk).sm (by omega)) (hd1.sm (by omega))) ?_
 rintro vr _ _ ⟨mr,rfl,rfl⟩
 simp only[List.nil_append,List.cons_append]
 refine WD.freezeF vr (n+1) mr (fun k=>s.t row k / s.t row col) (by repeat(first|exact Sel.head|apply Sel.tail)) (W.Has.mFsame (qf:=fun k=>s.t row k*(1 / s.t row col)) hmA fun k _=>by grind) ?_
 repeat'(first|refine gA ?_|(refine goG ?_;intro g)|(refine goV ?_;intro v)|refine goE ?_|(refine goEG ?_;intro g)|(refine goEV ?_;intro v)|refine goD ?_|refine goXD ?_|(refine goDG ?_;intro g)|(refine goDV ?_;intro v)|refine gY ?_|refine d74 ?_|fail)
 refine WC.lp (σ:=Nat×(Nat→Value)×(Nat→Nat→QM)) (fun st=>[(7,.int .i64 (st.1:Int)),(6,vr),(0,ptr xg),(1,.int .i64 (row:Int)),(2,.int .i64 (col:Int))]) (fun st=>RT xg m tv cv bv st.2.1 s.b)
  (fun st=>[rF m (n+1) st.2.1 st.2.2 (pvT s row col st.1),fF vr (n+1) mr (fun k=>s.t row k / s.t row col),fF cv (n+1) mc s.c,ge h0]) (fun st=>st.1≤m) (fun st=>m - st.1) (0,rv,ms) (Nat.zero_le _) ?_ (hG:=.cons (W.Has.rFsame (tq:=s.t) hmA fun i _ k _=>by unfold pvT;rw[if_neg (fun h=>absurd h.1 (by omega))]) sfA)
 rintro⟨i,rv',ms'⟩ hi
 simp only at hi ⊢
 by_cases c:i < m
 ·by_cases ci:i=row
  ·have ci1:(i:Int)=row:=by omega
   repeat'(first|refine gA ?_|(refine goG ?_;intro g)|(refine goV ?_;intro v)|refine goE ?_|(refine goEG ?_;intro g)|(refine goEV ?_;intro v)|refine goD ?_|refine goXD ?_|(refine goDG ?_;intro g)|(refine goDV ?_;intro v)|refine gY ?_|refine d74 ?_|fail)
   exact LoopEnd.mk (i+1,rv',ms') (by show i+1≤m;omega) (by show m - (i+1) < m - i;omega) (hG:=.cons (W.Has.rFsame (tq:=pvT s row col i) hmA fun k _ j _=>by subst ci;exact pvT_row k j) sfA)
  ·have ci1:¬(i:Int)=row:=by omega
   refine WC.fact (fF (rv' i) (n+1) (ms' i) (s.t i)) (W.Has.fFsame (q:=pvT s row col i i) (W.Has.tr (m:=m) hmA c) fun k _=>by unfold pvT;rw[if_neg (fun h=>absurd h.1 (by omega))]) ?_
   repeat'(first|refine gA ?_|(refine goG ?_;intro g)|(refine goV ?_;intro v)|refine goE ?_|(refine goEG ?_;intro g)|(refine goEV ?_;intro v)|refine goD ?_|refine goXD ?_|(refine goDG ?_;intro g)|(refine goDV ?_;intro v)|refine gY ?_|refine d74 ?_|fail)
   refine WD.callK (wiped_c (rv' i) vr (n+1) (2*K) col (ms' i) mr (s.t i) (fun k=>s.t row k / s.t row col) (by omega) hc (by omega) (fun k hk=>(hs i c k hk).up (by omega)) hdv) ?_
   rintro u _ _ ⟨mu,rfl,rfl⟩
   simp only[List.nil_append,List.cons_append]
   repeat'(first|refine gA ?_|(refine goG ?_;intro g)|(refine goV ?_;intro v)|refine goE ?_|(refine goEG ?_;intro g)|(refine goEV ?_;intro v)|refine goD ?_|refine goXD ?_|(refine goDG ?_;intro g)|(refine goDV ?_;intro v)|refine gY ?_|refine d74 ?_|fail)
   exact LoopEnd.mk (i+1,upd rv' i u,upd ms' i mu) (by show i+1≤m;omega) (by show m - (i+1) < m - i;omega) (hG:=.cons ((W.Has.rFset (i:=i) (u:=u) (mu:=mu) (q:=fun k=>s.t i k - s.t i col*(s.t row k / s.t row col)) (show Has _ (rF m (n+1) rv' ms' (pvT s row col i)) from hmA) hmA).rFsame fun k _ j _=>pvT_up ci k j) sfA)
 ·obtain rfl:i=m:=by omega
  repeat'(first|refine gA ?_|(refine goG ?_;intro g)|(refine goV ?_;intro v)|refine goE ?_|(refine goEG ?_;intro g)|(refine goEV ?_;intro v)|refine goD ?_|refine goXD ?_|(refine goDG ?_;intro g)|(refine goDV ?_;intro v)|refine gY ?_|refine d74 ?_|fail)
  refine WL.callK (wiped_c cv vr (n+1) (2*K) col mc mr s.c (fun k=>s.t row k / s.t row col) (by omega) hc (by omega) (fun k hk=>(hcs k hk).up (by omega)) hdv) ?_
  rintro cv' _ _ ⟨mc',rfl,rfl⟩
  simp only[List.nil_append,List.cons_append]
  have hfl:=fnL_len i s.b
  repeat'(first|refine gA ?_|(refine goG ?_;intro g)|(refine goV ?_;intro v)|refine goE ?_|(refine goEG ?_;intro g)|(refine goEV ?_;intro v)|refine goD ?_|refine goXD ?_|(refine goDG ?_;intro g)|(refine goDV ?_;intro v)|refine gY ?_|refine d74 ?_|fail)
  rw[fnL_set]
  refine Fin.p (RT xg i tv cv' bv (upd rv' row vr) (X.pv s row col).b) [rF i (n+1) (upd rv' row vr) (upd ms' row mr) (X.pv s row col).t,fF cv' (n+1) mc' (X.pv s row col).c] (ResE.t0 rfl) meA ?_ ?_ ⟨_,_,_,_,rfl,rfl,rfl⟩
  ·rw[show(X.pv s row col).b=upd s.b row col from funext fun k=>rfl]
   exact slA
  ·refine .cons ((W.Has.rFset (i:=row) (u:=vr) (mu:=mr) (q:=fun k=>s.t row k / s.t row col) (show Has _ (rF i (n+1) rv' ms' (pvT s row col i)) from hmA) hmA).rFsame fun k hk j _=>?_) (.cons hmA .nil)
   by_cases e:k=row
   ·subst e;rw[upd_at];unfold X.pv;simp only[if_pos]
   ·rw[upd_ne e];unfold pvT X.pv;rw[if_pos ⟨hk,e⟩];simp only[if_neg e]
end U
end Go.Proofs.YtaongbhamadlkaaGreat
namespace Go.Proofs.YtaongbhamadlkaaGreat
open W Go.RowKit
abbrev RTF (xg m n:Nat) (tv cv bv:Value) (rv:Nat→Value) (ms:Nat→Nat→QM) (s:X.St):List Fct:=
 [ce xg 107 [tv,cv,bv],sV tv m rv,rF m (n+1) rv ms s.t,sN bv m s.b]
namespace U
open Z
attribute [local irreducible] WC WL WD YO LO LoopEnd W.Fin Scalar SliceT FieldAt Row ArrT AllocT KnS Has W.One SrcE IntT
theorem d134 {G G':Prop} (h:G') (s:Bx G'→G:=by
 intro h
 first|(apply WC.draw (id:=8) [0,1,2,3,4,5,6,7,8,9] (.held 0 (.held 1 (.held 2 (.held 3 (.held 4 (.held 5 (.held 6 (.held 7 (.held 8 (.held 9 (.more 10 (.loud 11 (.loud 12 (.done))) (.loud 11 (.loud 10 (.loud 12 (.done))))))))))))))) mixed (by kernel_rfl))|(apply WC.draw (id:=10) [0,1,2,3,4,5,6,7,8,9,10,11,12,13,14,15,16,17,18,19,20,21,22,23,24,25,26,27] (.held 0 (.held 1 (.held 2 (.held 3 (.held 4 (.held 5 (.held 6 (.held 7 (.held 8 (.held 9 (.held 10 (.held 11 (.held 12 (.held 13 (.held 14 (.held 15 (.held 16 (.held 17 (.held 18 (.held 19 (.held 20 (.held 21 (.held 22 (.held 23 (.held 24 (.held 25 (.held 26 (.held 27 (.done))))))))))))))))))))))))))))) mixed (by kernel_rfl))|fail
 exact Bx.h h):G:=s ⟨h⟩
set_option maxHeartbeats 8000000 in
set_option maxRecDepth 60000 in
theorem rleaving_c (xg m n:Nat) (tv cv bv:Value) (rv:Nat→Value) (ms:Nat→Nat→QM) (s:X.St) (col K:Nat) (hcol:col < n) (hm:m≤1000) (hn:n≤9000) (hK:K≤20000000) (hK0:0 < K) (hs:∀ i,i < m→∀ k,k < n+1→Sq K (s.t i k)) :
  FnB Tryz.prog 134 [ptr xg,.int .i64 (col:Int)] [] (RTF xg m n tv cv bv rv ms s) (IsV (.int .i64 (optI (X.lev n s col m)))):=by
 refine fn_of [(0,(ptr xg)),(1,(.int .i64 (col:Int)))] 78 Tryz.func134 rfl Tryz.ntmps134 (by kernel_rfl) rfl suA fun h0=>?_
 have hsm:∀ {q},Sq K q→Sm q:=fun h=>h.sm (by omega)
 repeat'(first|refine gA ?_|(refine goG ?_;intro g)|(refine goV ?_;intro v)|refine goE ?_|(refine goEG ?_;intro g)|(refine goEV ?_;intro v)|refine goD ?_|refine goXD ?_|(refine goDG ?_;intro g)|(refine goDV ?_;intro v)|apply WD.more_of|refine WM.more (by exact rfl) (by exact rfl) (by exact rfl) ?_ ?_|refine WM.one (by exact rfl) (by exact rfl) (by exact rfl) ?_|refine WM.more0 (by exact rfl) (by exact rfl) ?_ ?_|refine WM.one0 (by exact rfl) (by exact rfl) ?_|(refine goLG ?_;intro g)|(refine goLV ?_;intro v)|refine goLS ?_|refine d134 ?_|fail)
 revert g;intro g6
 have en:(((n+1:Nat):Int) - 1).toNat=n:=by omega
 refine WC.lp (σ:=Nat×Int×QM×Rat) (fun st=>[(5,.int .i64 st.2.1),(7,.int .i64 (st.1:Int)),(0,ptr xg),(1,.int .i64 (col:Int)),(6,ptr g6)]) (fun st=>[Ow.cells g6 31 (qcs st.2.2.1)])
  (fun st=>isQ (qv st.2.2.1) st.2.2.2::ge h0::RTF xg m n tv cv bv rv ms s) (fun st=>st.1≤m∧st.2.1=optI (X.lev n s col st.1)∧st.2.2.2=lst n s col st.1) (fun st=>m - st.1) (0,-1,m00,0) ⟨Nat.zero_le _,rfl,rfl⟩ ?_ (hG:=.cons hasQ0 sfA)
 rintro⟨i,bi,ml,ql⟩ ⟨hi,hbi,hql⟩
 simp only at hi hbi hql ⊢
 by_cases c:i < m
 ·refine WC.fact (fF (rv i) (n+1) (ms i) (s.t i)) (W.Has.tr (m:=m) hmA c) ?_
  refine WC.fact (isQ (qv (ms i col)) (s.t i col)) (W.Has.q (W.Has.fm (v:=rv i) (ms:=ms i) hmA) (by omega)) ?_
  refine WC.fact (isQ (qv (ms i (((n+1:Nat):Int) - 1).toNat)) (s.t i n)) (by rw[en];exact W.Has.q (W.Has.fm (v:=rv i) (ms:=ms i) hmA) (by omega)) ?_
  repeat'(first|refine gA ?_|(refine goG ?_;intro g)|(refine goV ?_;intro v)|refine goE ?_|(refine goEG ?_;intro g)|(refine goEV ?_;intro v)|refine goD ?_|refine goXD ?_|(refine goDG ?_;intro g)|(refine goDV ?_;intro v)|apply WD.more_of|refine WM.more (by exact rfl) (by exact rfl) (by exact rfl) ?_ ?_|refine WM.one (by exact rfl) (by exact rfl) (by exact rfl) ?_|refine WM.more0 (by exact rfl) (by exact rfl) ?_ ?_|refine WM.one0 (by exact rfl) (by exact rfl) ?_|(refine goLG ?_;intro g)|(refine goLV ?_;intro v)|refine goLS ?_|refine d134 ?_|fail)
  first|refine WL.callV (Zn.rsign (ms i col) (s.t i col)) ?_|refine WD.callV (Zn.rsign (ms i col) (s.t i col)) ?_
  by_cases c1:s.t i col≤0
  ·have hz:=le_iff.2 c1
   have e1:X.lev n s col (i+1)=X.lev n s col i:=by rw[X.lev,if_pos c1]
   have e2:lst n s col (i+1)=lst n s col i:=by unfold lst;rw[e1]
   repeat'(first|refine gA ?_|(refine goG ?_;intro g)|(refine goV ?_;intro v)|refine goE ?_|(refine goEG ?_;intro g)|(refine goEV ?_;intro v)|refine goD ?_|refine goXD ?_|(refine goDG ?_;intro g)|(refine goDV ?_;intro v)|apply WD.more_of|refine WM.more (by exact rfl) (by exact rfl) (by exact rfl) ?_ ?_|refine WM.one (by exact rfl) (by exact rfl) (by exact rfl) ?_|refine WM.more0 (by exact rfl) (by exact rfl) ?_ ?_|refine WM.one0 (by exact rfl) (by exact rfl) ?_|(refine goLG ?_;intro g)|(refine goLV ?_;intro v)|refine goLS ?_|refine d134 ?_|fail)
   exact LoopEnd.mk (i+1,bi,ml,ql) ⟨by show i+1≤m;omega,by rw[e1];exact hbi,by rw[e2];exact hql⟩ (by show m - (i+1) < m - i;omega)
  ·have hz:¬sgn (s.t i col).num≤0:=fun h=>c1 (le_iff.1 h)
   have hdv:Sq (2*K) (s.t i n / s.t i col):=(Sq.div hK0 (hs i c n (by omega)) (hs i c col (by omega))).up (by omega)
   have hdc:=Zn.rdiv (ms i (((n+1:Nat):Int) - 1).toNat) (ms i col) (s.t i n) (s.t i col) (hsm (hs i c n (by omega))) (hsm (hs i c col (by omega)))
   repeat'(first|refine gA ?_|(refine goG ?_;intro g)|(refine goV ?_;intro v)|refine goE ?_|(refine goEG ?_;intro g)|(refine goEV ?_;intro v))
   refine WC.cutP (σ:=Nat×QM) (fun st=>[(9,ptr st.1),(8,rv i),(5,.int .i64 bi),(7,.int .i64 (i:Int)),(0,ptr xg),(1,.int .i64 (col:Int)),(6,ptr g6)]) (fun st=>[Ow.cells st.1 31 (qcs st.2),Ow.cells g6 31 (qcs ml)])
    (fun st=>isQ (qv st.2) (s.t i n / s.t i col)::isQ (qv ml) ql::ge h0::RTF xg m n tv cv bv rv ms s) (fun _=>True) ?_ ?_
   ·repeat'(first|refine gA ?_|(refine goG ?_;intro g)|(refine goV ?_;intro v)|refine goE ?_|(refine goEG ?_;intro g)|(refine goEV ?_;intro v)|refine goD ?_|refine goXD ?_|(refine goDG ?_;intro g)|(refine goDV ?_;intro v)|apply WD.more_of|refine WM.more (by exact rfl) (by exact rfl) (by exact rfl) ?_ ?_|refine WM.one (by exact rfl) (by exact rfl) (by exact rfl) ?_|refine WM.more0 (by exact rfl) (by exact rfl) ?_ ?_|refine WM.one0 (by exact rfl) (by exact rfl) ?_|(refine goLG ?_;intro g)|(refine goLV ?_;intro v)|refine goLS ?_|refine d134 ?_|fail|((first|refine WL.callK (hv:=?hvQ) (hdc) ?_|refine WD.callK (hv:=?hvQ) (hdc) ?_|refine LO.callM (hv:=?hvQ) (hdc) ?_);(case hvQ=>((repeat(first|exact Evs.nil|(apply Evs.cons;exact rfl)));done));rintro _ _ _ ⟨zm,rfl,rfl,rfl⟩;simp only[List.nil_append,List.cons_append])|fail)
    all_goals(apply Ex2;refine⟨trivial,?_,?_,?_⟩;(focus(repeat(first|exact Sub.nil _|refine Sub.cons rfl ?_)));(focus(repeat(first|exact SubP.nil _|(apply SubP.cons;(repeat(first|exact Rem.head|apply Rem.tail))))));(focus(repeat(first|exact HasAll.nil|(apply HasAll.cons;exact hsA)))))
   rintro⟨g9,mq⟩ _
   simp only
   have hlq:Sq (2*K) ql:=by
    rw[hql];unfold lst
    cases hL:X.lev n s col i with
    |none=>exact Sq.zero.up (by omega)
    |some r=>have:=lev_lt hL;exact(Sq.div hK0 (hs r (by omega) n (by omega)) (hs r (by omega) col (by omega))).up (by omega)
   repeat'(first|refine gA ?_|(refine goG ?_;intro g)|(refine goV ?_;intro v)|refine goE ?_|(refine goEG ?_;intro g)|(refine goEV ?_;intro v)|refine goD ?_|refine goXD ?_|(refine goDG ?_;intro g)|(refine goDV ?_;intro v)|apply WD.more_of|refine WM.more (by exact rfl) (by exact rfl) (by exact rfl) ?_ ?_|refine WM.one (by exact rfl) (by exact rfl) (by exact rfl) ?_|refine WM.more0 (by exact rfl) (by exact rfl) ?_ ?_|refine WM.one0 (by exact rfl) (by exact rfl) ?_|(refine goLG ?_;intro g)|(refine goLV ?_;intro v)|refine goLS ?_|refine d134 ?_|fail)
   first|refine WL.callV (Zn.rcmp mq ml (s.t i n / s.t i col) ql (hdv.sm (by omega)) (hlq.sm (by omega))) ?_|refine WD.callV (Zn.rcmp mq ml (s.t i n / s.t i col) ql (hdv.sm (by omega)) (hlq.sm (by omega))) ?_
   have hlt:=@cmpQ_lt (s.t i n / s.t i col) ql
   have heq:=@cmpQ_eq (s.t i n / s.t i col) ql
   generalize cmpQ (s.t i n / s.t i col) ql=cq at *
   cases hL:X.lev n s col i with
   |none=>
    rw[hL] at hbi
    have hb1:bi= -1:=hbi
    have e1:X.lev n s col (i+1)=some i:=by rw[X.lev,if_neg c1,hL]
    repeat'(first|refine gA ?_|(refine goG ?_;intro g)|(refine goV ?_;intro v)|refine goE ?_|(refine goEG ?_;intro g)|(refine goEV ?_;intro v)|refine goD ?_|refine goXD ?_|(refine goDG ?_;intro g)|(refine goDV ?_;intro v)|apply WD.more_of|refine WM.more (by exact rfl) (by exact rfl) (by exact rfl) ?_ ?_|refine WM.one (by exact rfl) (by exact rfl) (by exact rfl) ?_|refine WM.more0 (by exact rfl) (by exact rfl) ?_ ?_|refine WM.one0 (by exact rfl) (by exact rfl) ?_|(refine goLG ?_;intro g)|(refine goLV ?_;intro v)|refine goLS ?_|refine d134 ?_|fail)
    all_goals exact LoopEnd.mk (i+1,(i:Int),mq,_) ⟨by show i+1≤m;omega,by show(i:Int)=optI (X.lev n s col (i+1));rw[e1];rfl,by unfold lst;rw[e1]⟩ (by show m - (i+1) < m - i;omega)
   |some r=>
    rw[hL] at hbi
    obtain rfl:bi=(r:Int):=hbi
    have hri:=lev_lt hL
    have hq:ql=s.t r n / s.t r col:=by rw[hql];unfold lst;rw[hL]
    have er:(max (r:Int) 0).toNat=r:=by omega
    by_cases k1:cq < 0
    ·have e1:X.lev n s col (i+1)=some i:=by rw[X.lev,if_neg c1,hL];exact if_pos (.inl (by rw[←hq];exact hlt.1 k1))
     repeat'(first|refine gA ?_|(refine goG ?_;intro g)|(refine goV ?_;intro v)|refine goE ?_|(refine goEG ?_;intro g)|(refine goEV ?_;intro v)|refine goD ?_|refine goXD ?_|(refine goDG ?_;intro g)|(refine goDV ?_;intro v)|apply WD.more_of|refine WM.more (by exact rfl) (by exact rfl) (by exact rfl) ?_ ?_|refine WM.one (by exact rfl) (by exact rfl) (by exact rfl) ?_|refine WM.more0 (by exact rfl) (by exact rfl) ?_ ?_|refine WM.one0 (by exact rfl) (by exact rfl) ?_|(refine goLG ?_;intro g)|(refine goLV ?_;intro v)|refine goLS ?_|refine d134 ?_|fail)
     all_goals exact LoopEnd.mk (i+1,(i:Int),mq,_) ⟨by show i+1≤m;omega,by show(i:Int)=optI (X.lev n s col (i+1));rw[e1];rfl,by unfold lst;rw[e1]⟩ (by show m - (i+1) < m - i;omega)
    ·by_cases k2:cq=0
     ·by_cases k3:s.b i < s.b r
      ·have e1:X.lev n s col (i+1)=some i:=by rw[X.lev,if_neg c1,hL];exact if_pos (.inr ⟨by rw[←hq];exact heq.1 k2,k3⟩)
       have k4:s.b i < s.b (max (r:Int) 0).toNat:=by rw[er];exact k3
       repeat'(first|refine gA ?_|(refine goG ?_;intro g)|(refine goV ?_;intro v)|refine goE ?_|(refine goEG ?_;intro g)|(refine goEV ?_;intro v)|refine goD ?_|refine goXD ?_|(refine goDG ?_;intro g)|(refine goDV ?_;intro v)|apply WD.more_of|refine WM.more (by exact rfl) (by exact rfl) (by exact rfl) ?_ ?_|refine WM.one (by exact rfl) (by exact rfl) (by exact rfl) ?_|refine WM.more0 (by exact rfl) (by exact rfl) ?_ ?_|refine WM.one0 (by exact rfl) (by exact rfl) ?_|(refine goLG ?_;intro g)|(refine goLV ?_;intro v)|refine goLS ?_|refine d134 ?_|fail)
       all_goals exact LoopEnd.mk (i+1,(i:Int),mq,_) ⟨by show i+1≤m;omega,by show(i:Int)=optI (X.lev n s col (i+1));rw[e1];rfl,by unfold lst;rw[e1]⟩ (by show m - (i+1) < m - i;omega)
      ·have e1:X.lev n s col (i+1)=some r:=by rw[X.lev,if_neg c1,hL];exact if_neg (by rw[←hq];rintro(h|h);exact k1 (hlt.2 h);exact k3 h.2)
       have k4:¬s.b i < s.b (max (r:Int) 0).toNat:=by rw[er];exact k3
       repeat'(first|refine gA ?_|(refine goG ?_;intro g)|(refine goV ?_;intro v)|refine goE ?_|(refine goEG ?_;intro g)|(refine goEV ?_;intro v)|refine goD ?_|refine goXD ?_|(refine goDG ?_;intro g)|(refine goDV ?_;intro v)|apply WD.more_of|refine WM.more (by exact rfl) (by exact rfl) (by exact rfl) ?_ ?_|refine WM.one (by exact rfl) (by exact rfl) (by exact rfl) ?_|refine WM.more0 (by exact rfl) (by exact rfl) ?_ ?_|refine WM.one0 (by exact rfl) (by exact rfl) ?_|(refine goLG ?_;intro g)|(refine goLV ?_;intro v)|refine goLS ?_|refine d134 ?_|fail)
       all_goals exact LoopEnd.mk (i+1,(r:Int),ml,ql) ⟨by show i+1≤m;omega,by show(r:Int)=optI (X.lev n s col (i+1));rw[e1];rfl,by unfold lst;rw[e1];exact hq⟩ (by show m - (i+1) < m - i;omega)
     ·have e1:X.lev n s col (i+1)=some r:=by rw[X.lev,if_neg c1,hL];exact if_neg (by rw[←hq];rintro(h|h);exact k1 (hlt.2 h);exact k2 (heq.2 h.1))
      repeat'(first|refine gA ?_|(refine goG ?_;intro g)|(refine goV ?_;intro v)|refine goE ?_|(refine goEG ?_;intro g)|(refine goEV ?_;intro v)|refine goD ?_|refine goXD ?_|(refine goDG ?_;intro g)|(refine goDV ?_;intro v)|apply WD.more_of|refine WM.more (by exact rfl) (by exact rfl) (by exact rfl) ?_ ?_|refine WM.one (by exact rfl) (by exact rfl) (by exact rfl) ?_|refine WM.more0 (by exact rfl) (by exact rfl) ?_ ?_|refine WM.one0 (by exact rfl) (by exact rfl) ?_|(refine goLG ?_;intro g)|(refine goLV ?_;intro v)|refine goLS ?_|refine d134 ?_|fail)
      all_goals exact LoopEnd.mk (i+1,(r:Int),ml,ql) ⟨by show i+1≤m;omega,by show(r:Int)=optI (X.lev n s col (i+1));rw[e1];rfl,by unfold lst;rw[e1];exact hq⟩ (by show m - (i+1) < m - i;omega)
 ·obtain rfl:m=i:=by omega
  rw[←hbi]
  repeat'(first|refine gA ?_|(refine goG ?_;intro g)|(refine goV ?_;intro v)|refine goE ?_|(refine goEG ?_;intro g)|(refine goEV ?_;intro v)|refine goD ?_|refine goXD ?_|(refine goDG ?_;intro g)|(refine goDV ?_;intro v)|apply WD.more_of|refine WM.more (by exact rfl) (by exact rfl) (by exact rfl) ?_ ?_|refine WM.one (by exact rfl) (by exact rfl) (by exact rfl) ?_|refine WM.more0 (by exact rfl) (by exact rfl) ?_ ?_|refine WM.one0 (by exact rfl) (by exact rfl) ?_|(refine goLG ?_;intro g)|(refine goLV ?_;intro v)|refine goLS ?_|refine d134 ?_|fail)
  refine WC.ret ?_
  exact Fin.v (ResE.t1 rfl rfl) meA rfl
end U
end Go.Proofs.YtaongbhamadlkaaGreat
namespace Go.Proofs.YtaongbhamadlkaaGreat
open W Go.RowKit
def IsRP (xg m n:Nat) (tv bv:Value) (rv:Nat→Value) (b:Nat→Nat) (z:Nat→Rat):RPost:=fun v B G=>∃ cv mc,v=.tuple #[]∧B=RT xg m tv cv bv rv b∧G=[fF cv (n+1) mc z]
namespace U
open Z
attribute [local irreducible] WC WL WD YO LO LoopEnd W.Fin Scalar SliceT FieldAt Row ArrT AllocT KnS Has W.One SrcE IntT
theorem d72 {G G':Prop} (h:G') (s:Bx G'→G:=by
 intro h
 first|(apply WC.draw (id:=4) [0,1,2,3,4,5,6,7,8,9,10,11,12,13,14,15,16,17,18] (.held 0 (.held 1 (.held 2 (.held 3 (.held 4 (.held 5 (.held 6 (.held 7 (.held 8 (.held 9 (.held 10 (.held 11 (.held 12 (.held 13 (.held 14 (.held 15 (.held 16 (.held 17 (.held 18 (.loud 19 (.loud 20 (.loud 21 (.loud 22 (.done)))))))))))))))))))))))) mixed (by kernel_rfl))|fail
 exact Bx.h h):G:=s ⟨h⟩
set_option maxHeartbeats 8000000 in
set_option maxRecDepth 60000 in
theorem rprice_c (xg m n K:Nat) (tv cv0 bv vc:Value) (rv:Nat→Value) (ms:Nat→Nat→QM) (mk:Nat→QM) (s:X.St) (c1:Nat→Rat) (hm:m≤1000) (hn:n≤9000) (hK:4*K+1≤400000000) (hb:∀ i,i < m→s.b i < n)
  (hs:∀ i,i < m→∀ k,k < n+1→Sq K (s.t i k)) (hc:∀ i,i≤m→∀ k,k < n+1→Sq K (prS n c1 s i k)) :
  FnB Tryz.prog 72 [ptr xg,vc] (RT xg m tv cv0 bv rv s.b) [rF m (n+1) rv ms s.t,fF vc n mk c1] (IsRP xg m n tv bv rv s.b (prS n c1 s m)):=by
 refine fn_of [(0,(ptr xg)),(1,vc)] 45 Tryz.func72 rfl Tryz.ntmps72 (by kernel_rfl) rfl suA fun h0=>?_
 refine WC.fact (isQ (qv m00) 0) hasQ0 ?_
 repeat'(first|refine gA ?_|(refine goG ?_;intro g)|(refine goV ?_;intro v)|refine goE ?_|(refine goEG ?_;intro g)|(refine goEV ?_;intro v)|refine goD ?_|refine goXD ?_|(refine goDG ?_;intro g)|(refine goDV ?_;intro v)|refine gY ?_|refine d72 ?_|fail)
 revert v;intro cv
 refine WC.freezeF cv (n+1) (upd mk n m00) (cs0 n c1) (by repeat(first|exact Sel.head|apply Sel.tail)) ((W.Has.mFapp (n:=n) (ms:=mk) (m:=m00) (z:=0) (W.Has.fm (v:=vc) (ms:=mk) hmA) hasQ0).mFsame fun j hj=>by
  unfold cs0
  by_cases e:j=n
  ·subst e;rw[upd_at,if_neg (Nat.lt_irrefl _)]
  ·rw[upd_ne e,if_pos (by omega)]) ?_
 have hfl:=fnL_len m s.b
 refine WC.lp (σ:=Nat×Value×(Nat→QM)) (fun st=>[(4,.int .i64 (st.1:Int)),(0,ptr xg)]) (fun st=>RT xg m tv st.2.1 bv rv s.b)
  (fun st=>[fF st.2.1 (n+1) st.2.2 (prS n c1 s st.1),ge h0,rF m (n+1) rv ms s.t]) (fun st=>st.1≤m) (fun st=>m - st.1) (0,cv,upd mk n m00) (Nat.zero_le _) ?_ (hG:=.cons hmA sfA)
 rintro⟨i,cv',mc⟩ hi
 simp only at hi ⊢
 by_cases c:i < m
 ·have hbi:=hb i c
  refine WC.fact (fF (rv i) (n+1) (ms i) (s.t i)) (W.Has.tr (m:=m) hmA c) ?_
  repeat'(first|refine gA ?_|(refine goG ?_;intro g)|(refine goV ?_;intro v)|refine goE ?_|(refine goEG ?_;intro g)|(refine goEV ?_;intro v)|refine goD ?_|refine goXD ?_|(refine goDG ?_;intro g)|(refine goDV ?_;intro v)|refine gY ?_|refine d72 ?_|fail)
  refine WD.callK (wiped_c cv' (rv i) (n+1) K (s.b i) mc (ms i) (prS n c1 s i) (s.t i) (by omega) (by omega) hK (hc i (by omega)) (hs i c)) ?_
  rintro u _ _ ⟨mu,rfl,rfl⟩
  simp only[List.nil_append,List.cons_append]
  repeat'(first|refine gA ?_|(refine goG ?_;intro g)|(refine goV ?_;intro v)|refine goE ?_|(refine goEG ?_;intro g)|(refine goEV ?_;intro v)|refine goD ?_|refine goXD ?_|(refine goDG ?_;intro g)|(refine goDV ?_;intro v)|refine gY ?_|refine d72 ?_|fail)
  exact LoopEnd.mk (i+1,u,mu) (by show i+1≤m;omega) (by show m - (i+1) < m - i;omega)
 ·obtain rfl:m=i:=by omega
  repeat'(first|refine gA ?_|(refine goG ?_;intro g)|(refine goV ?_;intro v)|refine goE ?_|(refine goEG ?_;intro g)|(refine goEV ?_;intro v)|refine goD ?_|refine goXD ?_|(refine goDG ?_;intro g)|(refine goDV ?_;intro v)|refine gY ?_|refine d72 ?_|fail)
  exact Fin.p (RT xg m tv cv' bv rv s.b) [fF cv' (n+1) mc (prS n c1 s m)] (ResE.t0 rfl) meA slA haA ⟨_,_,rfl,rfl,rfl⟩
end U
end Go.Proofs.YtaongbhamadlkaaGreat
namespace Go.Proofs.YtaongbhamadlkaaGreat
open W Go.RowKit
def IsRR (xg m n:Nat) (tv bv:Value) (R:X.St×Option Nat):RPost:=fun v B G=>∃ cv rv ms mc,v=.int .i64 (optI R.2)∧B=RT xg m tv cv bv rv R.1.b∧G=[rF m (n+1) rv ms R.1.t,fF cv (n+1) mc R.1.c]
structure RQ where
 cv:Value
 rv:Nat→Value
 ms:Nat→Nat→QM
 mc:Nat→QM
 s:X.St
 f:Nat
namespace U
open Z
attribute [local irreducible] WC WL WD YO LO LoopEnd W.Fin Scalar SliceT FieldAt Row ArrT AllocT KnS Has W.One SrcE IntT
set_option maxHeartbeats 8000000 in
set_option maxRecDepth 60000 in
theorem rrun_c (xg m n e K f:Nat) (tv cv bv:Value) (rv:Nat→Value) (ms:Nat→Nat→QM) (mc:Nat→QM) (s:X.St) (R:X.St×Option Nat) (he:e≤n) (hm:m≤1000) (hn:n≤9000) (hK:K≤19000000) (hK0:0 < K)
  (hrun:X.runP m n e f s=some R) (I:X.St→Prop) (hI0:I s) (hI:∀ u k r,I u→X.ent u e=some k→X.lev n u k m=some r→I (X.pv u r k))
  (hS:∀ u,I u→(∀ i,i < m→∀ k,k < n+1→Sq K (u.t i k))∧∀ k,k < n+1→Sq K (u.c k)) :
  FnB Tryz.prog 73 [ptr xg,.int .i64 (e:Int)] (RT xg m tv cv bv rv s.b) [rF m (n+1) rv ms s.t,fF cv (n+1) mc s.c] (IsRR xg m n tv bv R):=by
 refine fn_of [(0,(ptr xg)),(1,(.int .i64 (e:Int)))] 36 Tryz.func73 rfl Tryz.ntmps73 (by kernel_rfl) rfl suA fun h0=>?_
 repeat'(first|refine gA ?_|(refine goG ?_;intro g)|(refine goV ?_;intro v)|refine goE ?_|(refine goEG ?_;intro g)|(refine goEV ?_;intro v))
 refine WC.lp (σ:=RQ) (fun st=>[(0,ptr xg),(1,.int .i64 (e:Int))]) (fun st=>RT xg m tv st.cv bv st.rv st.s.b)
  (fun st=>[rF m (n+1) st.rv st.ms st.s.t,fF st.cv (n+1) st.mc st.s.c,ge h0]) (fun st=>I st.s∧X.runP m n e st.f st.s=some R) (fun st=>st.f) ⟨cv,rv,ms,mc,s,f⟩ ⟨hI0,hrun⟩ ?_
 rintro⟨cv,rv,ms,mc,s,f⟩ ⟨hIs,hrs⟩
 simp only at hIs hrs ⊢
 obtain⟨hS1,hS2⟩:=hS s hIs
 cases f with
 |zero=>simp[X.runP] at hrs
 |succ f=>
  rw[X.runP] at hrs
  repeat'(first|refine gA ?_|(refine goG ?_;intro g)|(refine goV ?_;intro v)|refine goE ?_|(refine goEG ?_;intro g)|(refine goEV ?_;intro v))
  refine WC.lp (σ:=Nat) (fun k=>[(5,.int .i64 (k:Int)),(0,ptr xg),(1,.int .i64 (e:Int))]) (fun _=>RT xg m tv cv bv rv s.b)
   (fun _=>[rF m (n+1) rv ms s.t,fF cv (n+1) mc s.c,ge h0]) (fun k=>k≤e∧∀ j,j < k→0≤s.c j) (fun k=>e - k) 0 ⟨Nat.zero_le _,fun j hj=>by omega⟩ ?_
  rintro k ⟨hk,hpos⟩
  by_cases c:k < e
  ·refine WC.fact (isQ (qv (mc k)) (s.c k)) (W.Has.q (W.Has.fm (v:=cv) (ms:=mc) hmA) (by omega)) ?_
   have hng:=@sgn_neg (s.c k)
   repeat'(first|refine gA ?_|(refine goG ?_;intro g)|(refine goV ?_;intro v)|refine goE ?_|(refine goEG ?_;intro g)|(refine goEV ?_;intro v))
   first|refine WL.callV (Zn.rsign (mc k) (s.c k)) ?_|refine WD.callV (Zn.rsign (mc k) (s.c k)) ?_
   by_cases cs:s.c k < 0
   ·have cs':=hng.2 cs
    have hEn:X.ent s e=some k:=by
     rcases X.ent_spec s e with ⟨_,h2⟩|⟨j,h2,h3,h4,h5⟩
     ·have:=h2 k c;grind
     ·have:j=k:=by
       by_cases c1:j < k
       ·have:=hpos j c1;grind
       ·by_cases c2:k < j
        ·have:=h5 k c2;grind
        ·omega
      rw[h2,this]
    rw[hEn] at hrs
    dsimp only at hrs
    repeat'(first|refine gA ?_|(refine goG ?_;intro g)|(refine goV ?_;intro v)|refine goE ?_|(refine goEG ?_;intro g)|(refine goEV ?_;intro v))
    refine WL.callV (rleaving_c xg m n tv cv bv rv ms s k K (by omega) hm hn (by omega) hK0 hS1) ?_ (hF:=.cons (.c meA) (.cons (HasB.sV (el:=24) meA) (.cons (.f hmA) (.cons (HasB.sN (el:=3) meA) .nil))))
    cases hL:X.lev n s k m with
    |none=>
     rw[hL] at hrs
     simp only[Option.some.injEq] at hrs
     subst hrs
     rw[show optI none= -1 from rfl]
     repeat'(first|refine gA ?_|(refine goG ?_;intro g)|(refine goV ?_;intro v)|refine goE ?_|(refine goEG ?_;intro g)|(refine goEV ?_;intro v))
     refine WC.ret ?_
     exact Fin.p (RT xg m tv cv bv rv s.b) [rF m (n+1) rv ms s.t,fF cv (n+1) mc s.c] (ResE.t1 rfl rfl) meA slA haA ⟨_,_,_,_,rfl,rfl,rfl⟩
    |some r=>
     have hr:=lev_lt hL
     rw[hL] at hrs
     dsimp only at hrs
     rw[show optI (some r)=(r:Int) from rfl]
     repeat'(first|refine gA ?_|(refine goG ?_;intro g)|(refine goV ?_;intro v)|refine goE ?_|(refine goEG ?_;intro g)|(refine goEV ?_;intro v))
     refine WL.callG (RT xg m tv cv bv rv s.b) _ (.refl _) (rpivot_c xg m n r k K tv cv bv rv ms mc s hr (by omega) hm hn hK0 (by omega) hS1 hS2) ?_
     rintro _ _ _ ⟨cv',rv',ms',mc',rfl,rfl,rfl⟩
     simp only[List.nil_append,List.cons_append]
     repeat'(first|refine gA ?_|(refine goG ?_;intro g)|(refine goV ?_;intro v)|refine goE ?_|(refine goEG ?_;intro g)|(refine goEV ?_;intro v))
     exact LoopEnd.mk ⟨cv',rv',ms',mc',X.pv s r k,f⟩ ⟨hI s k r hIs hEn hL,hrs⟩ (by show f < f+1;omega)
   ·have cs':¬sgn (s.c k).num < 0:=fun h=>cs (hng.1 h)
    repeat'(first|refine gA ?_|(refine goG ?_;intro g)|(refine goV ?_;intro v)|refine goE ?_|(refine goEG ?_;intro g)|(refine goEV ?_;intro v))
    exact LoopEnd.mk (k+1) ⟨c,fun j hj=>by
     by_cases ej:j=k
     ·subst ej;grind
     ·exact hpos j (by omega)⟩ (by show e - (k+1) < e - k;omega)
  ·obtain rfl:k=e:=by omega
   have hEn:X.ent s k=none:=by
    rcases X.ent_spec s k with ⟨h2,_⟩|⟨j,h2,h3,h4,h5⟩
    ·exact h2
    ·have:=hpos j h3;grind
   rw[hEn] at hrs
   simp only[Option.some.injEq] at hrs
   subst hrs
   repeat'(first|refine gA ?_|(refine goG ?_;intro g)|(refine goV ?_;intro v)|refine goE ?_|(refine goEG ?_;intro g)|(refine goEV ?_;intro v))
   refine WC.ret ?_
   exact Fin.p (RT xg m tv cv bv rv s.b) [rF m (n+1) rv ms s.t,fF cv (n+1) mc s.c] (ResE.t1 rfl rfl) meA slA haA ⟨_,_,_,_,rfl,rfl,rfl⟩
end U
end Go.Proofs.YtaongbhamadlkaaGreat
namespace Go.Proofs.YtaongbhamadlkaaGreat
open W Go.RowKit
def rowB (p:X.Lp) (i k:Nat):Rat:=if k < p.v then p.a i k else if k < 2*p.v then -(p.a i (k - p.v)) else if k < p.n then(if k=2*p.v+i then 1 else 0) else p.b i
theorem rowB_pos {p:X.Lp} {i k:Nat} (hi:i < p.m) (h:¬p.b i < 0) (hk:k < p.n+1):rowB p i k=p.A i k:=by
 have hs:p.sg i=1:=if_neg h
 unfold rowB X.Lp.A X.Lp.la
 rw[hs]
 unfold X.Lp.n at *
 by_cases c1:k < p.v
 ·rw[if_pos c1,if_pos c1];grind
 by_cases c2:k < 2*p.v
 ·rw[if_neg c1,if_neg c1,if_pos c2,if_pos c2];grind
 by_cases c3:k < 2*p.v+2*p.m
 ·rw[if_neg c1,if_neg c1,if_neg c2,if_neg c2,if_pos c3]
  by_cases c4:k < 2*p.v+p.m
  ·rw[if_pos c4]
  ·rw[if_neg c4,if_pos c3,if_neg (by omega),if_neg (fun e=>h e.2)]
 ·rw[if_neg c1,if_neg c1,if_neg c2,if_neg c2,if_neg c3,if_neg (by omega),if_neg c3];grind
theorem rowB_neg {p:X.Lp} {i k:Nat} (hi:i < p.m) (h:p.b i < 0) (hk:k < p.n+1):upd (fun k=>-(rowB p i k)) (p.la+i) 1 k=p.A i k:=by
 have hs:p.sg i= -1:=if_pos h
 unfold X.Lp.A
 rw[hs]
 by_cases e:k=p.la+i
 ·subst e
  rw[upd_at]
  unfold X.Lp.la X.Lp.n
  rw[if_neg (by omega),if_neg (by omega),if_neg (by omega),if_pos (by omega),if_pos ⟨rfl,h⟩]
 rw[upd_ne e]
 unfold rowB
 unfold X.Lp.la X.Lp.n at *
 by_cases c1:k < p.v
 ·rw[if_pos c1,if_pos c1];grind
 by_cases c2:k < 2*p.v
 ·rw[if_neg c1,if_neg c1,if_pos c2,if_pos c2];grind
 by_cases c3:k < 2*p.v+2*p.m
 ·rw[if_neg c1,if_neg c1,if_neg c2,if_neg c2,if_pos c3]
  by_cases c4:k < 2*p.v+p.m
  ·rw[if_pos c4]
   by_cases e2:k=2*p.v+i
   ·rw[if_pos e2,if_pos e2]
   ·rw[if_neg e2,if_neg e2];grind
  ·rw[if_neg c4,if_pos c3,if_neg (by omega),if_neg (fun e2=>e e2.1)];grind
 ·rw[if_neg c1,if_neg c1,if_neg c2,if_neg c2,if_neg c3,if_neg (by omega),if_neg c3];grind
def IsBg (p:X.Lp):RPost:=fun v B G=>∃ xg tv bv rv ms,v=ptr xg∧B=RT xg p.m tv (.slice none 0 0) bv rv p.s0.b∧G=[rF p.m (p.n+1) rv ms p.A]
namespace U
open Z
attribute [local irreducible] WC WL WD YO LO LoopEnd W.Fin Scalar SliceT FieldAt Row ArrT AllocT KnS Has W.One SrcE IntT
set_option maxHeartbeats 4000000 in
set_option maxRecDepth 60000 in
theorem negated_o (v:Value) (n:Nat) (ms:Nat→QM) (a:Nat→Rat) (hn:n≤10000) (ha:∀ i,i < n→Sm (a i)):FnB Tryz.prog 35 [v] [] [fF v n ms a] (IsOF n fun k=>-(a k)):=by
 refine fn_of [(0,v)] 6 Tryz.func35 rfl Tryz.ntmps35 (by kernel_rfl) rfl suA fun h0=>?_
 repeat'(first|refine gA ?_|(refine goG ?_;intro g)|(refine goV ?_;intro v)|refine goE ?_|(refine goEG ?_;intro g)|(refine goEV ?_;intro v))
 first|refine WL.callK (Zn.rof (-1) 1 (by decide) (by decide)) ?_|refine WD.callK (Zn.rof (-1) 1 (by decide) (by decide)) ?_|refine LO.callM (Zn.rof (-1) 1 (by decide) (by decide)) ?_
 rintro _ _ _ ⟨m1,rfl,rfl,rfl⟩
 simp only[List.nil_append,List.cons_append]
 rw[show Rat.divInt (-1) 1= -1 by decide +kernel]
 repeat'(first|refine gA ?_|(refine goG ?_;intro g)|(refine goV ?_;intro v)|refine goE ?_|(refine goEG ?_;intro g)|(refine goEV ?_;intro v))
 refine WL.callK (scaled_c v n ms a m1 (-1) hn ha (by constructor <;> decide +kernel)) ?_
 rintro u _ _ ⟨mu,rfl,rfl⟩
 simp only[List.nil_append,List.cons_append]
 refine WL.fact' (mF n mu fun k=>-(a k)) (W.Has.mFsame (qf:=fun k=>a k*(-1)) hmA fun k _=>by grind) ?_
 repeat'(first|refine gA ?_|(refine goG ?_;intro g)|(refine goV ?_;intro v)|refine goE ?_|(refine goEG ?_;intro g)|(refine goEV ?_;intro v))
 refine WC.ret ?_
 exact Fin.p [Ow.slice u 31 4 (qcells n mu)] [mF n mu fun k=>-(a k)] (ResE.t1 rfl rfl) meA slA haA ⟨mu,rfl,rfl⟩
set_option maxHeartbeats 4000000 in
set_option maxRecDepth 60000 in
theorem negated_f (v:Value) (n:Nat) (ms:Nat→QM) (a:Nat→Rat) (hn:n≤10000) (ha:∀ i,i < n→Sm (a i)):FnB Tryz.prog 35 [v] [] [fF v n ms a] (IsF n fun k=>-(a k)):=by
 refine fn_of [(0,v)] 6 Tryz.func35 rfl Tryz.ntmps35 (by kernel_rfl) rfl suA fun h0=>?_
 repeat'(first|refine gA ?_|(refine goG ?_;intro g)|(refine goV ?_;intro v)|refine goE ?_|(refine goEG ?_;intro g)|(refine goEV ?_;intro v))
 first|refine WL.callK (Zn.rof (-1) 1 (by decide) (by decide)) ?_|refine WD.callK (Zn.rof (-1) 1 (by decide) (by decide)) ?_|refine LO.callM (Zn.rof (-1) 1 (by decide) (by decide)) ?_
 rintro _ _ _ ⟨m1,rfl,rfl,rfl⟩
 simp only[List.nil_append,List.cons_append]
 rw[show Rat.divInt (-1) 1= -1 by decide +kernel]
 repeat'(first|refine gA ?_|(refine goG ?_;intro g)|(refine goV ?_;intro v)|refine goE ?_|(refine goEG ?_;intro g)|(refine goEV ?_;intro v))
 refine WL.callK (scaled_c v n ms a m1 (-1) hn ha (by constructor <;> decide +kernel)) ?_
 rintro u _ _ ⟨mu,rfl,rfl⟩
 simp only[List.nil_append,List.cons_append]
 refine WL.freezeF u n mu (fun k=>-(a k)) (by repeat(first|exact Sel.head|apply Sel.tail)) (W.Has.mFsame (qf:=fun k=>a k*(-1)) hmA fun k _=>by grind) ?_
 repeat'(first|refine gA ?_|(refine goG ?_;intro g)|(refine goV ?_;intro v)|refine goE ?_|(refine goEG ?_;intro g)|(refine goEV ?_;intro v))
 refine WC.ret ?_
 exact Fin.p [] [fF u n mu fun k=>-(a k)] (ResE.t1 rfl rfl) meA (List.nil_sublist _) haA ⟨mu,rfl,rfl⟩
end U
end Go.Proofs.YtaongbhamadlkaaGreat
namespace Go.Proofs.YtaongbhamadlkaaGreat
open W Go.RowKit
def LoopEndZ {σ:Type} (E:σ→Env) (B:σ→List Ow) (G:σ→List Fct) (I:σ→Prop) (μ:σ→Nat) (s:σ) (e':Env) (bx':List Ow) (F':List Fct):Prop:=∃ bx2 F2,(∀ fr w,OK fr bx' F' w→OK fr bx2 F2 w)∧LoopEnd E B G I μ s e' bx2 F2
section
variable {P:Program} {n:Nat} {c:Code} {e e':Env} {bx bx':List Ow} {F F':List Fct} {Q:Post} {σ:Type} {E:σ→Env} {B:σ→List Ow} {G:σ→List Fct} {I:σ→Prop} {μ:σ→Nat} {s:σ} {v:Value} {el:Nat} {l:List Int}
theorem WC.lpZ (E:σ→Env) (B:σ→List Ow) (G:σ→List Fct) (I:σ→Prop) (μ:σ→Nat) (s0:σ) (hI:I s0) (hround:∀ s,I s→WC P n c (E s) (B s) (G s) (thenQ (LoopEndZ E B G I μ s) Q))
  (hE:W.Sub (E s0) e:=by repeat(first|exact Sub.nil _|refine Sub.cons rfl ?_)) (hB:(B s0).Sublist bx:=by repeat(first|exact List.Sublist.refl _|exact List.nil_sublist _|apply List.Sublist.cons_cons|apply List.Sublist.cons)) (hG:HasAll F (G s0):=by repeat(first|exact HasAll.nil|(apply HasAll.cons;exact hmA))):WC P n (.loop c) e bx F Q:=
 WC.loop E B G I μ s0 hI hE hB hG.all fun s hs fr w0 a w hk hr ho=>wp_mono (hround s hs fr w0 a w hk hr ho) fun ex a' w' hq=>by
  cases ex <;> first|exact hq|skip
  obtain⟨e1,b1,F1,h1,h2,h3,b2,F2,h4,s',h5,h6,h7,h8⟩:=hq
  exact⟨e1,b2,F2,h1,h2,h4 _ _ h3,s',h5,h6,h7,h8.all⟩
theorem LoopEndZ.of (h:LoopEnd E B G I μ s e' bx' F'):LoopEndZ E B G I μ s e' bx' F':=⟨_,_,fun _ _ h=>h,h⟩
theorem LoopEndZ.freezeI (hs:Sel bx (.slice v el 1 (ints l)) (.slice (.slice none 0 0) el 1 []) bx') (h:LoopEndZ E B G I μ s e' bx' (sI v l::F)):LoopEndZ E B G I μ s e' bx F:=by
 obtain⟨b2,F2,h1,h2⟩:=h
 refine⟨b2,F2,fun fr w ho=>h1 fr w (ho.freeze hs (by simp) (by decide) _ fun j hj=>?_),h2⟩
 have hj':j < l.length:=by omega
 simp[hj']
end
end Go.Proofs.YtaongbhamadlkaaGreat
namespace Go.Proofs.YtaongbhamadlkaaGreat
open W Go.RowKit
theorem W.Has.rFapp {F:List Fct} {m w:Nat} {u:Value} {rv:Nat→Value} {ms:Nat→Nat→QM} {tq:Nat→Nat→Rat} {mu:Nat→QM} {q:Nat→Rat} (h:Has F (rF m w rv ms tq)) (h2:Has F (fF u w mu q)):Has F (rF (m+1) w (upd rv m u) (upd ms m mu) (upd tq m q)):=fun p hf=>by
 obtain⟨h3,h4⟩:=h p hf
 refine⟨fun j hj=>?_,fun j hj=>?_⟩
 ·by_cases c:j=m
  ·subst c;rw[upd_at,upd_at];exact(h2 p hf).1
  ·rw[upd_ne c,upd_ne c];exact h3 j (by omega)
 ·by_cases c:j=m
  ·subst c;rw[upd_at,upd_at];exact(h2 p hf).2
  ·rw[upd_ne c,upd_ne c];exact h4 j (by omega)
theorem W.Has.rF0 {F:List Fct} {w:Nat} {rv:Nat→Value} {ms:Nat→Nat→QM} {tq:Nat→Nat→Rat}:Has F (rF 0 w rv ms tq):=fun p hp=>⟨fun i hi=>absurd hi (Nat.not_lt_zero _),fun i hi=>absurd hi (Nat.not_lt_zero _)⟩
theorem rowB_eq {p:X.Lp} {vn m i:Nat} (hpv:p.v=vn) (hpm:p.m=m) (hi:i < m) {a:Nat→Rat} {b:Rat} (ha:p.a i=a) (hb:p.b i=b) {j:Nat} (hj:j < vn+vn+2*m+1) :
  upd (upd (qcatf (qcatf a vn (fun k=>-(a k))) (vn+vn) (fun _=>0)) (2*vn+i) 1) (vn+vn+2*m) b j=rowB p i j:=by
 subst hpv hpm ha hb
 unfold rowB X.Lp.n
 by_cases c:j=p.v+p.v+2*p.m
 ·rw[c,upd_at,if_neg (by omega),if_neg (by omega),if_neg (by omega)]
 rw[upd_ne c]
 by_cases c2:j=2*p.v+i
 ·rw[c2,upd_at,if_neg (by omega),if_neg (by omega),if_pos (by omega),if_pos rfl]
 rw[upd_ne c2]
 unfold qcatf
 by_cases c3:j < p.v
 ·rw[if_pos (by omega),if_pos c3,if_pos c3]
 by_cases c4:j < 2*p.v
 ·rw[if_pos (by omega),if_neg c3,if_neg c3,if_pos c4]
 ·rw[if_neg (by omega),if_neg c3,if_neg c4,if_pos (by omega),if_neg c2]
theorem rowB_sq {p:X.Lp} {K i:Nat} (hK:0 < K) (ha:∀ k,k < p.v→Sq K (p.a i k)) (hb:Sq K (p.b i)) (k:Nat):Sq K (rowB p i k):=by
 unfold rowB
 by_cases c1:k < p.v
 ·rw[if_pos c1];exact ha k c1
 by_cases c2:k < 2*p.v
 ·rw[if_neg c1,if_pos c2];exact(ha _ (by omega)).neg
 by_cases c3:k < p.n
 ·rw[if_neg c1,if_neg c2,if_pos c3]
  split
  ·exact X.sq_one.up hK
  ·exact Sq.zero.up hK
 ·rw[if_neg c1,if_neg c2,if_neg c3];exact hb
theorem LoopEndZ.freezeF {σ:Type} {E:σ→Env} {B:σ→List Ow} {G:σ→List Fct} {I:σ→Prop} {μ:σ→Nat} {s:σ} {e':Env} {bx bx':List Ow} {F:List Fct} {el:Nat} (v:Value) (n:Nat) (ms:Nat→QM) (q:Nat→Rat) (hs:Sel bx (.slice v el 4 (qcells n ms)) (.slice (.slice none 0 0) el 4 []) bx') (hm:Has F (mF n ms q))
  (h:LoopEndZ E B G I μ s e' bx' (fF v n ms q::F)):LoopEndZ E B G I μ s e' bx F:=by
 obtain⟨b2,F2,h1,h2⟩:=h
 exact⟨b2,F2,fun fr w ho=>h1 fr w (okF ho hs hm),h2⟩
theorem upd_self {α:Type} {f:Nat→α} {n:Nat} {c:α} (h:f n=c):upd f n c=f:=funext fun k=>by
 by_cases e:k=n
 ·subst e;rw[upd_at,h]
 ·rw[upd_ne e]
namespace U
open Z
attribute [local irreducible] WC WL WD YO LO LoopEnd W.Fin Scalar SliceT FieldAt Row ArrT AllocT KnS Has W.One SrcE IntT
theorem d71 {G G':Prop} (h:G') (s:Bx G'→G:=by
 intro h
 first|(apply WC.draw (id:=7) [1,2,4,5] (.held 1 (.held 2 (.held 4 (.held 5 (.loud 0 (.loud 3 (.loud 6 (.loud 7 (.loud 8 (.done)))))))))) mixed (by kernel_rfl))|(apply WC.draw (id:=9) [0,1,2,3,4,5] (.held 0 (.held 1 (.held 2 (.held 3 (.held 4 (.held 5 (.loud 6 (.loud 7 (.loud 8 (.done)))))))))) mixed (by kernel_rfl))|fail
 exact Bx.h h):G:=s ⟨h⟩
set_option maxHeartbeats 8000000 in
set_option maxRecDepth 60000 in
theorem begun_c (M:Pm) (vn K:Nat) (L:List X.Ln) (gf:Nat→Rat) (hv:0 < vn) (hv2:vn≤48) (hm:L.length≤128) (hK0:0 < K) (hK:K≤400000000) (hL:LSq K vn L) :
  FnB Tryz.prog 71 [pgv M vn] [] [fP M (X.lpOf vn L gf)] (IsBg (X.lpOf vn L gf)):=by
 refine fn_of [(0,(pgv M vn))] 92 Tryz.func71 rfl Tryz.ntmps71 (by kernel_rfl) rfl suA fun h0=>?_
 refine WC.fact (fLn M vn L) (W.Has.pL (g:=gf) hmA) ?_
 refine WC.fact (isQ (qv m00) 0) hasQ0 ?_
 refine WC.addNil 3 1 ?_
 refine WC.addNil 24 1 ?_
 repeat'(first|refine gA ?_|(refine goG ?_;intro g)|(refine goV ?_;intro v)|refine goE ?_|(refine goEG ?_;intro g)|(refine goEV ?_;intro v)|refine goD ?_|refine goXD ?_|(refine goDG ?_;intro g)|(refine goDV ?_;intro v)|refine gY ?_|refine d71 ?_|fail)
 rename_i g1
 revert g;intro g4
 generalize hp:X.lpOf vn L gf=p
 have hpv:p.v=vn:=by rw[←hp];rfl
 have hpm:p.m=L.length:=by rw[←hp];rfl
 have hpn:p.n=vn+vn+2*L.length:=by unfold X.Lp.n;rw[hpv,hpm];omega
 have hpl:p.la=2*vn+L.length:=by unfold X.Lp.la;rw[hpv,hpm]
 have hpa:∀ i,p.a i=X.ca L i:=fun i=>by rw[←hp];rfl
 have hpb:∀ i,p.b i=X.cb L i:=fun i=>by rw[←hp];rfl
 refine WC.lpZ (σ:=Nat×Value×Value×(Nat→Value)×(Nat→Nat→QM)) (fun st=>[(5,.int .i64 (st.1:Int)),(4,ptr g4),(3,.int .i64 (L.length:Int)),(1,ptr g1)])
  (fun st=>[Ow.cells g4 107 [st.2.1,.slice none 0 0,st.2.2.1],Ow.cells g1 26 (pcs M vn),Ow.slice st.2.1 24 1 (fnV st.1 st.2.2.2.1),Ow.slice st.2.2.1 3 1 (ints (fnL st.1 p.s0.b))])
  (fun st=>[rF st.1 (vn+vn+2*L.length+1) st.2.2.2.1 st.2.2.2.2 p.A,fLn M vn L,isQ (qv m00) 0,ge h0]) (fun st=>st.1≤L.length) (fun st=>L.length - st.1) (0,.slice none 0 0,.slice none 0 0,fun _=>.slice none 0 0,fun _ _=>m00) (Nat.zero_le _) ?_
  (hG:=.cons W.Has.rF0 sfA)
 rintro⟨i,tv,bv,rv,ms⟩ hi
 simp only at hi ⊢
 by_cases c:i < L.length
 ·refine WC.fact (fF (M.av i) vn (M.ma i) (X.ca L i)) (W.Has.lna (W.Has.lnq (M:=M) hmA) c) ?_
  refine WC.fact (isQ (qv (M.mb i)) (X.cb L i)) (W.Has.lnb (W.Has.lnq (M:=M) hmA) c) ?_
  repeat'(first|refine gA ?_|(refine goG ?_;intro g)|(refine goV ?_;intro v)|refine goE ?_|(refine goEG ?_;intro g)|(refine goEV ?_;intro v))
  revert g;intro g6
  refine WC.cutP (σ:=Value×Value×(Nat→QM)) (fun st=>[(7,st.1),(6,ptr g6),(5,.int .i64 (i:Int)),(4,ptr g4),(3,.int .i64 (L.length:Int)),(1,ptr g1)])
   (fun st=>[Ow.slice st.1 31 4 (qcells (vn+vn) (qcat (M.ma i) vn st.2.2)),Ow.cells g6 60 (M.av i::qcs (M.mb i)),Ow.cells g4 107 [tv,.slice none 0 0,bv],Ow.cells g1 26 (pcs M vn),Ow.slice tv 24 1 (fnV i rv),Ow.slice bv 3 1 (ints (fnL i p.s0.b))])
   (fun st=>[fF st.2.1 vn st.2.2 (fun k=>-(X.ca L i k)),fF (M.av i) vn (M.ma i) (X.ca L i),isQ (qv (M.mb i)) (X.cb L i),rF i (vn+vn+2*L.length+1) rv ms p.A,fLn M vn L,isQ (qv m00) 0,ge h0]) (fun _=>True) ?_ ?_
  ·have hng:=negated_f (M.av i) vn (M.ma i) (X.ca L i) (by omega) (fun k hk=>(hL.ca c hk).sm (by omega))
   repeat'(first|refine gA ?_|(refine goG ?_;intro g)|(refine goV ?_;intro v)|refine goE ?_|(refine goEG ?_;intro g)|(refine goEV ?_;intro v)|refine goD ?_|refine goXD ?_|(refine goDG ?_;intro g)|(refine goDV ?_;intro v)|refine gY ?_|refine d71 ?_|fail|((first|refine WL.callK (hv:=?hvQ) (hng) ?_|refine WD.callK (hv:=?hvQ) (hng) ?_|refine LO.callM (hv:=?hvQ) (hng) ?_);(case hvQ=>((repeat(first|exact Evs.nil|(apply Evs.cons;exact rfl)));done));rintro _ _ _ ⟨_,rfl,rfl⟩;simp only[List.nil_append,List.cons_append])|fail)
   all_goals(apply Ex3;refine⟨trivial,?_,?_,?_⟩;(focus(repeat(first|exact Sub.nil _|refine Sub.cons rfl ?_)));(focus(repeat(first|exact SubP.nil _|(apply SubP.cons;(repeat(first|exact Rem.head|apply Rem.tail))))));(focus(repeat(first|exact HasAll.nil|(apply HasAll.cons;exact hsA)))))
  rintro⟨v7,vu,mu⟩ -
  simp only
  refine WC.fact (mF (vn+vn) (qcat (M.ma i) vn mu) (qcatf (X.ca L i) vn (fun k=>-(X.ca L i k)))) (W.Has.mFcat (W.Has.fm (v:=M.av i) (ms:=M.ma i) hmA) (W.Has.fm (v:=vu) (ms:=mu) hmA)) ?_
  refine WC.fact (mF (vn+vn+2*L.length) (qcat (qcat (M.ma i) vn mu) (vn+vn) (fun _=>m00)) (qcatf (qcatf (X.ca L i) vn (fun k=>-(X.ca L i k))) (vn+vn) (fun _=>0))) (W.Has.mFcat hmA (W.Has.mF0 _)) ?_
  have en:(2*(vn:Int)+(i:Int)).toNat=2*vn+i:=by omega
  repeat'(first|refine gA ?_|(refine goG ?_;intro g)|(refine goV ?_;intro v)|refine goE ?_|(refine goEG ?_;intro g)|(refine goEV ?_;intro v)|refine goD ?_|refine goXD ?_|(refine goDG ?_;intro g)|(refine goDV ?_;intro v)|refine gY ?_|refine d71 ?_|fail)
  first|refine WL.callK (Zn.rof 1 1 (by decide) (by decide)) ?_|refine WD.callK (Zn.rof 1 1 (by decide) (by decide)) ?_|refine LO.callM (Zn.rof 1 1 (by decide) (by decide)) ?_
  rintro _ _ _ ⟨m1,rfl,rfl,rfl⟩
  simp only[List.nil_append,List.cons_append]
  rw[show Rat.divInt 1 1=1 by decide +kernel]
  repeat'(first|refine gA ?_|(refine goG ?_;intro g)|(refine goV ?_;intro v)|refine goE ?_|(refine goEG ?_;intro g)|(refine goEV ?_;intro v)|refine goD ?_|refine goXD ?_|(refine goDG ?_;intro g)|(refine goDV ?_;intro v)|refine gY ?_|refine d71 ?_|fail)
  first|refine WL.callV (Zn.rsign (M.mb i) (X.cb L i)) ?_|refine WD.callV (Zn.rsign (M.mb i) (X.cb L i)) ?_
  have hngb:=@sgn_neg (X.cb L i)
  refine WL.fact' (mF (vn+vn+2*L.length+1) (upd (upd (qcat (qcat (M.ma i) vn mu) (vn+vn) (fun _=>m00)) (2*(vn:Int)+(i:Int)).toNat m1) (vn+vn+2*L.length) (M.mb i)) (rowB p i)) (by
   rw[en]
   exact((W.Has.mFset (k:=2*vn+i) (ms:=qcat (qcat (M.ma i) vn mu) (vn+vn) (fun _=>m00)) (m:=m1) (z:=1) hmA hmA).mFapp (m:=M.mb i) (z:=X.cb L i) hmA).mFsame fun j hj=>rowB_eq hpv hpm c (hpa i) (hpb i) hj) ?_
  generalize upd (upd (qcat (qcat (M.ma i) vn mu) (vn+vn) (fun _=>m00)) (2*(vn:Int)+(i:Int)).toNat m1) (vn+vn+2*L.length) (M.mb i)=mr at *
  revert v;intro vr
  refine WL.freezeF vr (vn+vn+2*L.length+1) mr (rowB p i) (by repeat(first|exact Sel.head|apply Sel.tail)) hmA ?_
  by_cases cb:X.cb L i < 0
  ·have cb':=hngb.2 cb
   have hb0:p.s0.b i=2*vn+L.length+i:=by
    show(if p.b i < 0 then p.la+i else 2*p.v+i)=_
    rw[hpb,if_pos cb,hpl]
   have hrs:∀ k,Sq K (rowB p i k):=rowB_sq hK0 (fun k hk=>by rw[hpa];rw[hpv] at hk;exact hL.ca c hk) (by rw[hpb];exact hL.cb c)
   have en2:(2*(vn:Int)+(L.length:Int)+(i:Int)).toNat=p.la+i:=by rw[hpl];omega
   repeat'(first|refine gA ?_|(refine goG ?_;intro g)|(refine goV ?_;intro v)|refine goE ?_|(refine goEG ?_;intro g)|(refine goEV ?_;intro v)|refine goD ?_|refine goXD ?_|(refine goDG ?_;intro g)|(refine goDV ?_;intro v)|refine gY ?_|refine d71 ?_|fail)
   refine WL.callK (negated_o vr (vn+vn+2*L.length+1) mr (rowB p i) (by omega) (fun k _=>(hrs k).sm (by omega))) ?_
   rintro vn2 _ _ ⟨mn2,rfl,rfl⟩
   simp only[List.nil_append,List.cons_append]
   repeat'(first|refine gA ?_|(refine goG ?_;intro g)|(refine goV ?_;intro v)|refine goE ?_|(refine goEG ?_;intro g)|(refine goEV ?_;intro v)|refine goD ?_|refine goXD ?_|(refine goDG ?_;intro g)|(refine goDV ?_;intro v)|refine gY ?_|refine d71 ?_|fail)
   first|refine WL.callK (Zn.rof 1 1 (by decide) (by decide)) ?_|refine WD.callK (Zn.rof 1 1 (by decide) (by decide)) ?_|refine LO.callM (Zn.rof 1 1 (by decide) (by decide)) ?_
   rintro _ _ _ ⟨m2,rfl,rfl,rfl⟩
   simp only[List.nil_append,List.cons_append]
   rw[show Rat.divInt 1 1=1 by decide +kernel]
   repeat'(first|refine gA ?_|(refine goG ?_;intro g)|(refine goV ?_;intro v)|refine goE ?_|(refine goEG ?_;intro g)|(refine goEV ?_;intro v)|refine goD ?_|refine goXD ?_|(refine goDG ?_;intro g)|(refine goDV ?_;intro v)|refine gY ?_|refine d71 ?_|fail)
   rw[upd_self hb0]
   refine LoopEndZ.freezeF vn2 (vn+vn+2*L.length+1) (upd mn2 (2*(vn:Int)+(L.length:Int)+(i:Int)).toNat m2) (p.A i) (by repeat(first|exact Sel.head|apply Sel.tail)) (by
    rw[en2]
    exact(W.Has.mFset (k:=p.la+i) (ms:=mn2) (m:=m2) (z:=1) (qf:=fun k=>-(rowB p i k)) hmA hmA).mFsame fun k hk=>rowB_neg (by omega) (by rw[hpb];exact cb) (by omega)) ?_
   rename_i tv' _
   exact .of (LoopEnd.mk (i+1,tv',v,upd rv i vn2,upd ms i _) (by show i+1≤L.length;omega) (by show L.length - (i+1) < L.length - i;omega) (hG:=.cons ((W.Has.rFapp (m:=i) (rv:=rv) (ms:=ms) (tq:=p.A) (u:=vn2) (mu:=_) (q:=p.A i) hmA hmA).rFsame fun r _ k _=>by
    by_cases e:r=i
    ·subst e;rw[upd_at]
    ·rw[upd_ne e]) sfA))
  ·have cb':¬sgn (X.cb L i).num < 0:=fun h=>cb (hngb.1 h)
   have hb0:p.s0.b i=2*vn+i:=by
    show(if p.b i < 0 then p.la+i else 2*p.v+i)=_
    rw[hpb,if_neg cb,hpv]
   refine WL.fact' (fF vr (vn+vn+2*L.length+1) mr (p.A i)) (W.Has.fFsame (q:=rowB p i) hmA fun k hk=>rowB_pos (by omega) (by rw[hpb];exact cb) (by omega)) ?_
   repeat'(first|refine gA ?_|(refine goG ?_;intro g)|(refine goV ?_;intro v)|refine goE ?_|(refine goEG ?_;intro g)|(refine goEV ?_;intro v)|refine goD ?_|refine goXD ?_|(refine goDG ?_;intro g)|(refine goDV ?_;intro v)|refine gY ?_|refine d71 ?_|fail)
   rw[upd_self hb0]
   rename_i tv' _
   exact .of (LoopEnd.mk (i+1,tv',v,upd rv i vr,upd ms i mr) (by show i+1≤L.length;omega) (by show L.length - (i+1) < L.length - i;omega) (hG:=.cons ((W.Has.rFapp (m:=i) (rv:=rv) (ms:=ms) (tq:=p.A) (u:=vr) (mu:=mr) (q:=p.A i) hmA hmA).rFsame fun r _ k _=>by
    by_cases e:r=i
    ·subst e;rw[upd_at]
    ·rw[upd_ne e]) sfA))
 ·obtain rfl:i=L.length:=by omega
  repeat'(first|refine gA ?_|(refine goG ?_;intro g)|(refine goV ?_;intro v)|refine goE ?_|(refine goEG ?_;intro g)|(refine goEV ?_;intro v)|refine goD ?_|refine goXD ?_|(refine goDG ?_;intro g)|(refine goDV ?_;intro v)|refine gY ?_|refine d71 ?_|fail)
  exact WC.ret (Fin.p (RT g4 p.m tv (.slice none 0 0) bv rv p.s0.b) [rF p.m (p.n+1) rv ms p.A] (ResE.t1 rfl rfl) meA (by rw[hpm];exact slA) (by rw[hpm,hpn];exact haA) ⟨_,_,_,_,_,rfl,rfl,rfl⟩)
end U
end Go.Proofs.YtaongbhamadlkaaGreat
namespace Go.Proofs.YtaongbhamadlkaaGreat
open W Go.RowKit
namespace U
open Z
attribute [local irreducible] WC WL WD YO LO LoopEnd W.Fin Scalar SliceT FieldAt Row ArrT AllocT KnS Has W.One SrcE IntT
theorem d136 {G G':Prop} (h:G') (s:Bx G'→G:=by
 intro h
 first|(apply WC.draw (id:=7) [0,1,2,3,4,5,6,7,8,9,10,11,12,13,14,15,16,17] (.held 0 (.held 1 (.held 2 (.held 3 (.held 4 (.held 5 (.held 6 (.held 7 (.held 8 (.held 9 (.held 10 (.held 11 (.held 12 (.held 13 (.held 14 (.held 15 (.held 16 (.held 17 (.loud 18 (.done)))))))))))))))))))) mixed (by kernel_rfl))|fail
 exact Bx.h h):G:=s ⟨h⟩
set_option maxHeartbeats 8000000 in
set_option maxRecDepth 60000 in
theorem rnow_c (xg m n k:Nat) (tv cv bv:Value) (rv:Nat→Value) (ms:Nat→Nat→QM) (s:X.St) (hm:m≤1000) (hn:n≤9000) :
  FnB Tryz.prog 136 [ptr xg,.int .i64 (k:Int),.int .i64 (-1)] [] (RTF xg m n tv cv bv rv ms s) (IsR (nowV m n s k)):=by
 refine fn_of [(0,(ptr xg)),(1,(.int .i64 (k:Int))),(2,(.int .i64 (-1)))] 73 Tryz.func136 rfl Tryz.ntmps136 (by kernel_rfl) rfl suA fun h0=>?_
 have en:(((n+1:Nat):Int) - 1).toNat=n:=by omega
 have hk1:¬(k:Int)= -1:=by omega
 repeat'(first|refine gA ?_|(refine goG ?_;intro g)|(refine goV ?_;intro v)|refine goE ?_|(refine goEG ?_;intro g)|(refine goEV ?_;intro v)|refine goD ?_|refine goXD ?_|(refine goDG ?_;intro g)|(refine goDV ?_;intro v)|refine d136 ?_|fail)
 revert g;intro g6
 refine WC.lp (σ:=Nat) (fun i=>[(7,.int .i64 (i:Int)),(6,ptr g6),(0,ptr xg),(1,.int .i64 (k:Int)),(2,.int .i64 (-1))]) (fun _=>[Ow.cells g6 31 (qcs m00)])
  (fun _=>ge h0::RTF xg m n tv cv bv rv ms s) (fun i=>i≤m∧X.fstT (fun i=>decide (s.b i=k)) m 0=X.fstT (fun i=>decide (s.b i=k)) (m - i) i) (fun i=>m - i) 0 ⟨Nat.zero_le _,rfl⟩ ?_
 rintro i ⟨hi,hf⟩
 by_cases c:i < m
 ·rw[fstT_at c] at hf
  refine WC.fact (fF (rv i) (n+1) (ms i) (s.t i)) (W.Has.tr (m:=m) hmA c) ?_
  refine WC.fact (isQ (qv (ms i (((n+1:Nat):Int) - 1).toNat)) (s.t i n)) (by rw[en];exact W.Has.q (W.Has.fm (v:=rv i) (ms:=ms i) hmA) (by omega)) ?_
  by_cases cb:s.b i=k
  ·rw[if_pos (decide_eq_true cb)] at hf
   have e:nowV m n s k=s.t i n:=by unfold nowV;rw[hf]
   rw[e]
   have cb2:(s.b i:Int)=k:=by omega
   repeat'(first|refine gA ?_|(refine goG ?_;intro g)|(refine goV ?_;intro v)|refine goE ?_|(refine goEG ?_;intro g)|(refine goEV ?_;intro v)|refine goD ?_|refine goXD ?_|(refine goDG ?_;intro g)|(refine goDV ?_;intro v)|refine d136 ?_|fail)
   all_goals refine WC.ret ?_
   all_goals exact Fin.p [] [isQ (qv (ms i (((n+1:Nat):Int) - 1).toNat)) (s.t i n)] (ResE.cV rfl rfl meA T.r31 rfl) meA (List.nil_sublist _) haA ⟨_,rfl,rfl,rfl⟩
  ·rw[if_neg (by simpa using cb)] at hf
   have cb2:¬(s.b i:Int)=k:=by omega
   repeat'(first|refine gA ?_|(refine goG ?_;intro g)|(refine goV ?_;intro v)|refine goE ?_|(refine goEG ?_;intro g)|(refine goEV ?_;intro v)|refine goD ?_|refine goXD ?_|(refine goDG ?_;intro g)|(refine goDV ?_;intro v)|refine d136 ?_|fail)
   exact LoopEnd.mk (i+1) ⟨c,hf⟩ (by show m - (i+1) < m - i;omega)
 ·obtain rfl:i=m:=by omega
  rw[Nat.sub_self] at hf
  have e:nowV i n s k=0:=by unfold nowV;rw[hf];rfl
  rw[e]
  repeat'(first|refine gA ?_|(refine goG ?_;intro g)|(refine goV ?_;intro v)|refine goE ?_|(refine goEG ?_;intro g)|(refine goEV ?_;intro v)|refine goD ?_|refine goXD ?_|(refine goDG ?_;intro g)|(refine goDV ?_;intro v)|refine d136 ?_|fail)
  refine WC.ret ?_
  exact Fin.p [] [isQ (qv m00) 0] (ResE.cV rfl rfl meA T.r31 rfl) meA (List.nil_sublist _) (.cons hasQ0 .nil) ⟨m00,rfl,rfl,rfl⟩
set_option maxHeartbeats 8000000 in
set_option maxRecDepth 60000 in
theorem rray_c (xg m n k col:Nat) (tv cv bv:Value) (rv:Nat→Value) (ms:Nat→Nat→QM) (s:X.St) (hm:m≤1000) (hn:n≤9000) (hc:col < n) :
  FnB Tryz.prog 136 [ptr xg,.int .i64 (k:Int),.int .i64 (col:Int)] [] (RTF xg m n tv cv bv rv ms s) (IsR (rayV m s col k)):=by
 refine fn_of [(0,(ptr xg)),(1,(.int .i64 (k:Int))),(2,(.int .i64 (col:Int)))] 73 Tryz.func136 rfl Tryz.ntmps136 (by kernel_rfl) rfl suA fun h0=>?_
 by_cases ck:k=col
 ·have e:rayV m s col k=1:=by unfold rayV;rw[if_pos ck]
  rw[e]
  have ck2:(k:Int)=col:=by omega
  repeat'(first|refine gA ?_|(refine goG ?_;intro g)|(refine goV ?_;intro v)|refine goE ?_|(refine goEG ?_;intro g)|(refine goEV ?_;intro v)|refine goD ?_|refine goXD ?_|(refine goDG ?_;intro g)|(refine goDV ?_;intro v)|refine d136 ?_|fail)
  first|refine WL.callK (Zn.rof 1 1 (by decide) (by decide)) ?_|refine WD.callK (Zn.rof 1 1 (by decide) (by decide)) ?_|refine LO.callM (Zn.rof 1 1 (by decide) (by decide)) ?_
  rintro _ _ _ ⟨m1,rfl,rfl,rfl⟩
  simp only[List.nil_append,List.cons_append]
  rw[show Rat.divInt 1 1=1 by decide +kernel]
  repeat'(first|refine gA ?_|(refine goG ?_;intro g)|(refine goV ?_;intro v)|refine goE ?_|(refine goEG ?_;intro g)|(refine goEV ?_;intro v)|refine goD ?_|refine goXD ?_|(refine goDG ?_;intro g)|(refine goDV ?_;intro v)|refine d136 ?_|fail)
  refine WC.ret ?_
  exact Fin.p [] [isQ (qv m1) 1] (ResE.cV rfl rfl meA T.r31 rfl) meA (List.nil_sublist _) haA ⟨m1,rfl,rfl,rfl⟩
 have ck2:¬(k:Int)=col:=by omega
 repeat'(first|refine gA ?_|(refine goG ?_;intro g)|(refine goV ?_;intro v)|refine goE ?_|(refine goEG ?_;intro g)|(refine goEV ?_;intro v)|refine goD ?_|refine goXD ?_|(refine goDG ?_;intro g)|(refine goDV ?_;intro v)|refine d136 ?_|fail)
 revert g;intro g6
 refine WC.lp (σ:=Nat) (fun i=>[(7,.int .i64 (i:Int)),(6,ptr g6),(0,ptr xg),(1,.int .i64 (k:Int)),(2,.int .i64 (col:Int))]) (fun _=>[Ow.cells g6 31 (qcs m00)])
  (fun _=>ge h0::RTF xg m n tv cv bv rv ms s) (fun i=>i≤m∧X.fstT (fun i=>decide (s.b i=k)) m 0=X.fstT (fun i=>decide (s.b i=k)) (m - i) i) (fun i=>m - i) 0 ⟨Nat.zero_le _,rfl⟩ ?_
 rintro i ⟨hi,hf⟩
 by_cases c:i < m
 ·rw[fstT_at c] at hf
  refine WC.fact (fF (rv i) (n+1) (ms i) (s.t i)) (W.Has.tr (m:=m) hmA c) ?_
  refine WC.fact (isQ (qv (ms i col)) (s.t i col)) (W.Has.q (W.Has.fm (v:=rv i) (ms:=ms i) hmA) (by omega)) ?_
  by_cases cb:s.b i=k
  ·rw[if_pos (decide_eq_true cb)] at hf
   have e:rayV m s col k= -(s.t i col):=by unfold rayV;rw[if_neg ck,hf]
   rw[e]
   have cb2:(s.b i:Int)=k:=by omega
   repeat'(first|refine gA ?_|(refine goG ?_;intro g)|(refine goV ?_;intro v)|refine goE ?_|(refine goEG ?_;intro g)|(refine goEV ?_;intro v)|refine goD ?_|refine goXD ?_|(refine goDG ?_;intro g)|(refine goDV ?_;intro v)|refine d136 ?_|fail)
   first|refine WL.callK (Zn.rneg (ms i col) (s.t i col)) ?_|refine WD.callK (Zn.rneg (ms i col) (s.t i col)) ?_|refine LO.callM (Zn.rneg (ms i col) (s.t i col)) ?_
   rintro _ _ _ ⟨m1,rfl,rfl,rfl⟩
   simp only[List.nil_append,List.cons_append]
   repeat'(first|refine gA ?_|(refine goG ?_;intro g)|(refine goV ?_;intro v)|refine goE ?_|(refine goEG ?_;intro g)|(refine goEV ?_;intro v)|refine goD ?_|refine goXD ?_|(refine goDG ?_;intro g)|(refine goDV ?_;intro v)|refine d136 ?_|fail)
   refine WC.ret ?_
   exact Fin.p [] [isQ (qv m1) (-(s.t i col))] (ResE.cV rfl rfl meA T.r31 rfl) meA (List.nil_sublist _) haA ⟨m1,rfl,rfl,rfl⟩
  ·rw[if_neg (by simpa using cb)] at hf
   have cb2:¬(s.b i:Int)=k:=by omega
   repeat'(first|refine gA ?_|(refine goG ?_;intro g)|(refine goV ?_;intro v)|refine goE ?_|(refine goEG ?_;intro g)|(refine goEV ?_;intro v)|refine goD ?_|refine goXD ?_|(refine goDG ?_;intro g)|(refine goDV ?_;intro v)|refine d136 ?_|fail)
   exact LoopEnd.mk (i+1) ⟨c,hf⟩ (by show m - (i+1) < m - i;omega)
 ·obtain rfl:i=m:=by omega
  rw[Nat.sub_self] at hf
  have e:rayV i s col k=0:=by unfold rayV;rw[if_neg ck,hf];rfl
  rw[e]
  repeat'(first|refine gA ?_|(refine goG ?_;intro g)|(refine goV ?_;intro v)|refine goE ?_|(refine goEG ?_;intro g)|(refine goEV ?_;intro v)|refine goD ?_|refine goXD ?_|(refine goDG ?_;intro g)|(refine goDV ?_;intro v)|refine d136 ?_|fail)
  refine WC.ret ?_
  exact Fin.p [] [isQ (qv m00) 0] (ResE.cV rfl rfl meA T.r31 rfl) meA (List.nil_sublist _) (.cons hasQ0 .nil) ⟨m00,rfl,rfl,rfl⟩
end U
end Go.Proofs.YtaongbhamadlkaaGreat
namespace Go.Proofs.YtaongbhamadlkaaGreat
open W Go.RowKit
namespace U
open Z
attribute [local irreducible] WC WL WD YO LO LoopEnd W.Fin Scalar SliceT FieldAt Row ArrT AllocT KnS Has W.One SrcE IntT
set_option maxHeartbeats 8000000 in
set_option maxRecDepth 60000 in
theorem rpoint_c (xg m n vn K:Nat) (tv cv bv:Value) (rv:Nat→Value) (ms:Nat→Nat→QM) (s:X.St) (col:Int) (q:Nat→Rat) (hv:vn≤1000) (hK:K≤190000000)
  (hc:∀ k:Nat,k < 2*vn→FnB Tryz.prog 136 [ptr xg,.int .i64 (k:Int),.int .i64 col] [] (RTF xg m n tv cv bv rv ms s) (IsR (q k))) (hq:∀ k,k < 2*vn→Sq K (q k)) :
  FnB Tryz.prog 75 [ptr xg,.int .i64 (vn:Int),.int .i64 col] [] (RTF xg m n tv cv bv rv ms s) (IsF vn fun k=>q k - q (vn+k)):=by
 refine fn_of [(0,(ptr xg)),(1,(.int .i64 (vn:Int))),(2,(.int .i64 col))] 29 Tryz.func75 rfl Tryz.ntmps75 (by kernel_rfl) rfl suA fun h0=>?_
 refine WC.addNil 31 4 ?_
 repeat'(first|refine gA ?_|(refine goG ?_;intro g)|(refine goV ?_;intro v)|refine goE ?_|(refine goEG ?_;intro g)|(refine goEV ?_;intro v))
 refine WC.lp (σ:=Nat×Value×(Nat→QM)) (fun st=>[(8,.int .i64 (st.1:Int)),(7,st.2.1),(0,ptr xg),(1,.int .i64 (vn:Int)),(2,.int .i64 col)])
  (fun st=>[Ow.slice st.2.1 31 4 (qcells st.1 st.2.2)])
  (fun st=>mF st.1 st.2.2 (clx (fun k=>q k - q (vn+k)) st.1)::ge h0::RTF xg m n tv cv bv rv ms s) (fun st=>st.1≤vn) (fun st=>vn - st.1) (0,.slice none 0 0,fun _=>m00) (Nat.zero_le _) ?_ (hG:=.cons (W.Has.mFn _ _) sfA)
 rintro⟨k,sv,mz⟩ hk
 simp only at hk ⊢
 by_cases c:k < vn
 ·repeat'(first|refine gA ?_|(refine goG ?_;intro g)|(refine goV ?_;intro v)|refine goE ?_|(refine goEG ?_;intro g)|(refine goEV ?_;intro v))
  first|refine WL.callK (hc k (by omega)) ?_|refine WD.callK (hc k (by omega)) ?_|refine LO.callM (hc k (by omega)) ?_
  rintro _ _ _ ⟨m1,rfl,rfl,rfl⟩
  simp only[List.nil_append,List.cons_append]
  repeat'(first|refine gA ?_|(refine goG ?_;intro g)|(refine goV ?_;intro v)|refine goE ?_|(refine goEG ?_;intro g)|(refine goEV ?_;intro v))
  first|refine WL.callK (hc (vn+k) (by omega)) ?_|refine WD.callK (hc (vn+k) (by omega)) ?_|refine LO.callM (hc (vn+k) (by omega)) ?_
  rintro _ _ _ ⟨m2,rfl,rfl,rfl⟩
  simp only[List.nil_append,List.cons_append]
  repeat'(first|refine gA ?_|(refine goG ?_;intro g)|(refine goV ?_;intro v)|refine goE ?_|(refine goEG ?_;intro g)|(refine goEV ?_;intro v))
  first|refine WL.callK (Zn.rsub m1 m2 (q k) (q (vn+k)) ((hq k (by omega)).sm (by omega)) ((hq (vn+k) (by omega)).sm (by omega))) ?_|refine WD.callK (Zn.rsub m1 m2 (q k) (q (vn+k)) ((hq k (by omega)).sm (by omega)) ((hq (vn+k) (by omega)).sm (by omega))) ?_|refine LO.callM (Zn.rsub m1 m2 (q k) (q (vn+k)) ((hq k (by omega)).sm (by omega)) ((hq (vn+k) (by omega)).sm (by omega))) ?_
  rintro _ _ _ ⟨m3,rfl,rfl,rfl⟩
  simp only[List.nil_append,List.cons_append]
  refine WL.fact' (mF (k+1) (upd mz k m3) (clx (fun k=>q k - q (vn+k)) (k+1))) ((W.Has.mFapp (n:=k) (ms:=mz) (m:=m3) (qf:=clx _ k) hmA (show Has _ (isQ (qv m3) (q k - q (vn+k))) from hmA)).mFsame fun j hj=>clx_up (c:=fun k=>q k - q (vn+k)) j) ?_
  repeat'(first|refine gA ?_|(refine goG ?_;intro g)|(refine goV ?_;intro v)|refine goE ?_|(refine goEG ?_;intro g)|(refine goEV ?_;intro v))
  exact LoopEnd.mk (k+1,_,_) (by show k+1≤vn;omega) (by show vn - (k+1) < vn - k;omega)
 ·obtain rfl:k=vn:=by omega
  refine WC.freezeF sv k mz (fun j=>q j - q (k+j)) (by repeat(first|exact Sel.head|apply Sel.tail)) (W.Has.mFsame (qf:=clx (fun j=>q j - q (k+j)) k) hmA fun j hj=>by unfold clx;rw[if_pos hj]) ?_
  repeat'(first|refine gA ?_|(refine goG ?_;intro g)|(refine goV ?_;intro v)|refine goE ?_|(refine goEG ?_;intro g)|(refine goEV ?_;intro v))
  refine WC.ret ?_
  exact Fin.p [] [fF sv k mz fun j=>q j - q (k+j)] (ResE.t1 rfl rfl) meA (List.nil_sublist _) haA ⟨mz,rfl,rfl⟩
end U
end Go.Proofs.YtaongbhamadlkaaGreat
namespace Go.Proofs.YtaongbhamadlkaaGreat
open W Go.RowKit
def IsAnR (p:X.Lp) (R:Nat):RPost:=fun v B G=>∃ (M:Am) (kind xn yn:Nat) (x y:Nat→Rat) (z:Rat),v=agv M (kind:Nat)∧B=[]∧G=[fA M xn yn x y z]∧AnsP p kind xn yn x y z∧(∀ k,k < xn→Sq R (x k))∧(∀ k,k < yn→Sq R (y k))∧Sq R z
def c1K (p:X.Lp) (k j:Nat):Rat:=if p.la≤j∧j < k then 1 else 0
theorem c1K_up {p:X.Lp} {k:Nat} (hk:p.la≤k) (j:Nat):upd (c1K p k) k 1 j=c1K p (k+1) j:=by
 unfold c1K
 by_cases e:j=k
 ·subst e;rw[upd_at,if_pos ⟨hk,by omega⟩]
 ·rw[upd_ne e]
  by_cases c:p.la≤j∧j < k
  ·rw[if_pos c,if_pos ⟨c.1,by omega⟩]
  ·rw[if_neg c,if_neg (fun h=>c ⟨h.1,by omega⟩)]
theorem c2_cat {p:X.Lp} (j:Nat):qcatf (qcatf (fun k=>-(p.g k)) p.v p.g) (p.v+p.v) (fun _=>0) j=p.c2 j:=by
 unfold qcatf X.Lp.c2
 by_cases c1:j < p.v
 ·rw[if_pos (by omega),if_pos c1,if_pos c1]
 by_cases c2:j < 2*p.v
 ·rw[if_pos (by omega),if_neg c1,if_neg c1,if_pos c2]
 ·rw[if_neg (by omega),if_neg c1,if_neg c2]
section
variable {fr:PH} {w:World} {bx:List Ow} {F:List Fct}
theorem okRT {xg m n:Nat} {tv cv bv:Value} {rv:Nat→Value} {ms:Nat→Nat→QM} {s:X.St} (ho:OK fr (RT xg m tv cv bv rv s.b++bx) F w) (h1:Has F (rF m (n+1) rv ms s.t)):OK fr bx (RTF xg m n tv cv bv rv ms s++F) w:=by
 have a1:=OK.keep ho Rem.head
 have a2:=ok_nil (OK.freeze (n:=m) (sz:=1) a1 Sel.head (by rw[fnV_len,Nat.mul_one]) (by decide) rv fun j hj=>fnV_get (by omega))
 have a3:=ok_nil (OK.freeze (n:=m) (sz:=1) a2 Sel.head (by simp[fnL]) (by decide) (fun i=>.int .i64 (s.b i)) fun j hj=>by
  have hj':j < m:=by omega
  simp[fnL,hj'])
 refine⟨a3.frame,a3.apart,a3.nodup,a3.owns,fun f hf=>?_⟩
 have hF:∀ f∈F,f.p (imm fr bx w.heap):=fun f hf=>a3.facts f (by simp[hf])
 simp only[List.cons_append,List.nil_append,List.mem_cons] at hf
 rcases hf with rfl|rfl|rfl|rfl|hf
 ·exact a3.facts _ (by simp)
 ·exact a3.facts _ (by simp)
 ·exact h1 _ hF
 ·exact a3.facts _ (by simp)
 ·exact hF f hf
theorem WL.freezeRT {P:Program} {nn:Nat} {L rest:List Oper} {e:Env} {Q2:Env→List Ow→List Fct→Prop} {xg m n:Nat} {tv cv bv:Value} {rv:Nat→Value} {ms:Nat→Nat→QM} (s:X.St) {bx':List Ow} (hp:bx.Perm (RT xg m tv cv bv rv s.b++bx')) (h1:Has F (rF m (n+1) rv ms s.t))
  (h:WL P nn L rest e bx' (RTF xg m n tv cv bv rv ms s++F) Q2):WL P nn L rest e bx F Q2:=fun fr w0 a w Q' hQ hk hr ho=>h fr w0 a w Q' hQ hk hr (okRT (ho.perm hp) h1)
theorem WC.freezeRT {P:Program} {nn:Nat} {c:Code} {e:Env} {Q:Post} {xg m n:Nat} {tv cv bv:Value} {rv:Nat→Value} {ms:Nat→Nat→QM} (s:X.St) {bx':List Ow} (hp:bx.Perm (RT xg m tv cv bv rv s.b++bx')) (h1:Has F (rF m (n+1) rv ms s.t))
  (h:WC P nn c e bx' (RTF xg m n tv cv bv rv ms s++F) Q):WC P nn c e bx F Q:=fun fr w0 a w hk hr ho=>h fr w0 a w hk hr (okRT (ho.perm hp) h1)
end
structure RD where
 i:Nat
 cv:Value
 rv:Nat→Value
 ms:Nat→Nat→QM
 mc:Nat→QM
 u:X.St
theorem drS_hit {last i k:Nat} {s:X.St} (hb:last≤s.b i) (hk:k < last) (h0:∀ j,j < k→s.t i j=0) (hn:s.t i k≠0):X.drS last s i=X.pv s i k:=by
 unfold X.drS
 rw[if_neg (by omega)]
 rcases X.fstT_spec (fun k=>decide (s.t i k≠0)) last 0 with ⟨_,h2⟩|⟨j,h1,_,h3,h4,h5⟩
 ·exact absurd hn (of_decide_eq_false (h2 k (by omega) (by omega)))
 ·have:j=k:=by
   by_cases c1:j < k
   ·exact absurd (h0 j c1) (of_decide_eq_true h4)
   ·by_cases c2:k < j
    ·exact absurd hn (of_decide_eq_false (h5 k (by omega) c2))
    ·omega
  rw[h1,this]
theorem drS_none {last i:Nat} {s:X.St} (h:s.b i < last∨∀ j,j < last→s.t i j=0):X.drS last s i=s:=by
 unfold X.drS
 by_cases c:s.b i < last
 ·rw[if_pos c]
 ·rw[if_neg c]
  have h0:=h.resolve_left c
  rcases X.fstT_spec (fun k=>decide (s.t i k≠0)) last 0 with ⟨h1,_⟩|⟨j,h1,_,h3,h4,_⟩
  ·rw[h1]
  ·exact absurd (h0 j (by omega)) (of_decide_eq_true h4)
namespace U
open Z
attribute [local irreducible] WC WL WD YO LO LoopEnd W.Fin Scalar SliceT FieldAt Row ArrT AllocT KnS Has W.One SrcE IntT
theorem d19 {G G':Prop} (h:G') (s:Bx G'→G:=by
 intro h
 first|(apply WC.draw (id:=12) [1,2,3,4,5,6,7,8,9] (.held 1 (.held 2 (.held 3 (.held 4 (.held 5 (.held 6 (.held 7 (.held 8 (.held 9 (.loud 0 (.loud 10 (.loud 11 (.loud 12 (.done)))))))))))))) mixed (by kernel_rfl))|(apply WC.draw (id:=21) [0,1,3,4,6,7] (.held 0 (.held 1 (.held 3 (.held 4 (.held 6 (.held 7 (.loud 2 (.loud 5 (.loud 8 (.loud 9 (.done))))))))))) mixed (by kernel_rfl))|(apply WC.draw (id:=25) [0,1,2,4,5,6,7] (.held 0 (.held 1 (.held 2 (.held 4 (.held 5 (.held 6 (.held 7 (.loud 3 (.loud 8 (.loud 9 (.loud 10 (.done)))))))))))) mixed (by kernel_rfl))|(apply WC.draw (id:=27) [0,2,3,4,5,6,7,8,9,10,12,13,14] (.held 0 (.held 2 (.held 3 (.held 4 (.held 5 (.held 6 (.held 7 (.held 8 (.held 9 (.held 10 (.held 12 (.held 13 (.held 14 (.loud 1 (.loud 11 (.loud 15 (.loud 16 (.loud 17 (.done))))))))))))))))))) mixed (by kernel_rfl))|fail
 exact Bx.h h):G:=s ⟨h⟩
set_option maxHeartbeats 16000000 in
set_option maxRecDepth 60000 in
theorem rsolve_c (M:Pm) (vn:Nat) (LL:List X.Ln) (gf:Nat→Rat) (K0 K L R:Nat) (hz:X.Szs (X.lpOf vn LL gf) K0 K L) (hL0:LSq K0 vn LL) (hv0:0 < vn) (hv:vn≤48) (hm:LL.length≤128) (hL19:L≤19000000) (hR1:2*K+1≤R) (hR2:L≤R) (hR3:vn*(2*(2*K+1)+1)+1≤R) :
  FnB Tryz.prog 19 [pgv M vn] [] [fP M (X.lpOf vn LL gf)] (IsAnR (X.lpOf vn LL gf) R):=by
 refine fn_of [(0,(pgv M vn))] 154 Tryz.func19 rfl Tryz.ntmps19 (by kernel_rfl) rfl suA fun h0=>?_
 have hbg:=begun_c M vn K0 LL gf hv0 hv hm hz.pos (by have:=hz.t;have:=hz.kl;have:=hz.k;omega) hL0
 obtain⟨p,hp⟩:∃ p,p=X.lpOf vn LL gf:=⟨_,rfl⟩
 have hpv:vn=p.v:=by rw[hp];rfl
 have hpm:LL.length=p.m:=by rw[hp];rfl
 refine WC.fact (fLn M vn LL) (W.Has.pL (g:=gf) hmA) ?_
 refine WC.fact (fF M.gv vn M.mg gf) (W.Has.pG (L:=LL) hmA) ?_
 have hpg:gf=p.g:=by rw[hp];rfl
 rw[←hp] at hbg hz ⊢
 rw[hpg] at hp ⊢
 clear hpg
 subst hpv
 have hn:p.n=2*p.v+2*p.m:=rfl
 have hla:p.la=2*p.v+p.m:=rfl
 have hnn:p.n=p.la+p.m:=by rw[hn,hla];omega
 have hL:=hz.t
 have hKL:=hz.kl
 have hK0:=hz.pos
 have hK:0 < K:=Nat.lt_of_lt_of_le (by omega) hz.k
 have hK0K:K0≤K:=Nat.le_trans (by omega) hz.k
 obtain⟨F1,x1,hx1⟩:=X.run_ends ((X.ok0 (p:=p) p.n).prc (e':=p.n) p.c1) (Nat.le_refl _)
 obtain⟨hq1,hok1,hq2,hq3⟩:=X.phase1 hx1
 have hi1:X.Inv p.m p.n p.A p.c1 (X.prc p.m p.c1 p.s0):=(X.inv0 (p:=p)).prc p.c1
 repeat'(first|refine gA ?_|(refine goG ?_;intro g)|(refine goV ?_;intro v)|refine goE ?_|(refine goEG ?_;intro g)|(refine goEV ?_;intro v)|refine goD ?_|refine goXD ?_|(refine goDG ?_;intro g)|(refine goDV ?_;intro v)|refine gY ?_|refine d19 ?_|fail)
 rename_i gp
 revert g;intro g2
 refine WL.callK hbg ?_
 rintro _ _ _ ⟨xg,tv,bv,rv,ms,rfl,rfl,rfl⟩
 rw[show(2:Int)*(p.v:Int)+(LL.length:Int)=((p.la:Nat):Int) by rw[hla,hpm];simp,hpm]
 simp only[List.nil_append,List.cons_append]
 repeat'(first|refine gA ?_|(refine goG ?_;intro g)|(refine goV ?_;intro v)|refine goE ?_|(refine goEG ?_;intro g)|(refine goEV ?_;intro v)|refine goD ?_|refine goXD ?_|(refine goDG ?_;intro g)|(refine goDV ?_;intro v)|refine gY ?_|refine d19 ?_|fail)
 revert v;intro v6
 refine WC.lp (σ:=Nat×(Nat→QM)) (fun st=>[(7,.int .i64 (st.1:Int)),(6,v6),(5,ptr xg),(4,.int .i64 (p.la:Int)),(3,.int .i64 (p.m:Int)),(2,ptr g2),(1,ptr gp)])
  (fun st=>Ow.slice v6 31 4 (qcells (p.la+p.m) st.2)::(RT xg p.m tv (.slice none 0 0) bv rv p.s0.b++[Ow.cells g2 33 (acs ⟨.slice none 0 0,.slice none 0 0,fun _=>m00,fun _=>m00,m00⟩ 0),Ow.cells gp 26 (pcs M p.v)]))
  (fun st=>[mF (p.la+p.m) st.2 (c1K p st.1),rF p.m (p.n+1) rv ms p.A,fF M.gv p.v M.mg p.g,fLn M p.v LL,ge h0]) (fun st=>p.la≤st.1∧st.1≤p.la+p.m) (fun st=>p.la+p.m - st.1) (p.la,fun _=>m00) ⟨Nat.le_refl _,by show p.la≤p.la+p.m;omega⟩ ?_ (hG:=.cons ((W.Has.mF0 (p.la+p.m)).mFsame fun j _=>by unfold c1K;rw[if_neg (fun h=>by have:=h.2;omega)]) sfA)
 rintro⟨k,mk⟩ ⟨hk,hk2⟩
 simp only at hk hk2 ⊢
 by_cases c:k < p.la+p.m
 ·repeat'(first|refine gA ?_|(refine goG ?_;intro g)|(refine goV ?_;intro v)|refine goE ?_|(refine goEG ?_;intro g)|(refine goEV ?_;intro v)|refine goD ?_|refine goXD ?_|(refine goDG ?_;intro g)|(refine goDV ?_;intro v)|refine gY ?_|refine d19 ?_|fail)
  first|refine WL.callK (Zn.rof 1 1 (by decide) (by decide)) ?_|refine WD.callK (Zn.rof 1 1 (by decide) (by decide)) ?_|refine LO.callM (Zn.rof 1 1 (by decide) (by decide)) ?_
  rintro _ _ _ ⟨m1,rfl,rfl,rfl⟩
  simp only[List.nil_append,List.cons_append]
  rw[show Rat.divInt 1 1=1 by decide +kernel]
  repeat'(first|refine gA ?_|(refine goG ?_;intro g)|(refine goV ?_;intro v)|refine goE ?_|(refine goEG ?_;intro g)|(refine goEV ?_;intro v)|refine goD ?_|refine goXD ?_|(refine goDG ?_;intro g)|(refine goDV ?_;intro v)|refine gY ?_|refine d19 ?_|fail)
  exact LoopEnd.mk (k+1,upd mk k m1) ⟨by show p.la≤k+1;omega,by show k+1≤p.la+p.m;omega⟩ (by show p.la+p.m - (k+1) < p.la+p.m - k;omega) (hG:=.cons ((W.Has.mFset (k:=k) (ms:=mk) (m:=m1) (z:=1) (qf:=c1K p k) hmA hmA).mFsame fun j _=>c1K_up hk j) sfA)
 obtain rfl:k=p.la+p.m:=by omega
 refine WC.freezeF v6 (p.la+p.m) mk p.c1 (by repeat(first|exact Sel.head|apply Sel.tail)) (W.Has.mFsame (qf:=c1K p (p.la+p.m)) hmA fun j hj=>by unfold c1K X.Lp.c1;rw[hnn]) ?_
 repeat'(first|refine gA ?_|(refine goG ?_;intro g)|(refine goV ?_;intro v)|refine goE ?_|(refine goEG ?_;intro g)|(refine goEV ?_;intro v)|refine goD ?_|refine goXD ?_|(refine goDG ?_;intro g)|(refine goDV ?_;intro v)|refine gY ?_|refine d19 ?_|fail)
 rw[←hnn]
 refine WL.callG (RT xg p.m tv (.slice none 0 0) bv rv p.s0.b) _ (List.perm_middle (l₁:=RT xg p.m tv (.slice none 0 0) bv rv p.s0.b)).symm (rprice_c xg p.m p.n L tv (.slice none 0 0) bv v6 rv ms mk p.s0 p.c1 (by omega) (by omega) (by omega) X.inv0.bd (fun i hi k hk=>(hz.T hi1 hi hk).up hKL) (fun i hi k hk=>hz.P hz.c1 X.inv0 hi hk)) ?_
 rintro _ _ _ ⟨cv,mc,rfl,rfl,rfl⟩
 simp only[List.nil_append,List.cons_append]
 refine WL.fact' (fF cv (p.n+1) mc (X.prc p.m p.c1 p.s0).c) (W.Has.fFsame (q:=prS p.n p.c1 p.s0 p.m) hmA fun j hj=>X.prS_prc X.inv0.bd X.inv0.u (by unfold X.Lp.c1;simp) hj) ?_
 repeat'(first|refine gA ?_|(refine goG ?_;intro g)|(refine goV ?_;intro v)|refine goE ?_|(refine goEG ?_;intro g)|(refine goEV ?_;intro v)|refine goD ?_|refine goXD ?_|(refine goDG ?_;intro g)|(refine goDV ?_;intro v)|refine gY ?_|refine d19 ?_|fail)
 rw[←hnn]
 refine WL.callG (RT xg p.m tv cv bv rv p.s0.b) _ (.refl _) (rrun_c xg p.m p.n p.n L F1 tv cv bv rv ms mc (X.prc p.m p.c1 p.s0) x1 (Nat.le_refl _) (by omega) (by omega) hL19 (by omega) hx1 (fun u=>X.Inv p.m p.n p.A p.c1 u) hi1 (fun u k r h hk hr=>run_inv (Nat.le_refl _) h hk hr) (fun u hu=>⟨fun i hi k hk=>(hz.T hu hi hk).up hKL,fun k hk=>hz.C hz.c1 hu hk⟩)) ?_
 rintro _ _ _ ⟨cv2,rv2,ms2,mc2,rfl,rfl,rfl⟩
 simp only[List.nil_append,List.cons_append]
 refine WL.fact' (isQ (qv (mc2 p.n)) (x1.1.c p.n)) (W.Has.q (W.Has.fm (v:=cv2) (ms:=mc2) hmA) (by omega)) ?_
 rw[hnn]
 repeat'(first|refine gA ?_|(refine goG ?_;intro g)|(refine goV ?_;intro v)|refine goE ?_|(refine goEG ?_;intro g)|(refine goEV ?_;intro v)|refine goD ?_|refine goXD ?_|(refine goDG ?_;intro g)|(refine goDV ?_;intro v)|refine gY ?_|refine d19 ?_|fail)
 rw[←hnn]
 first|refine WL.callV (Zn.rsign (mc2 p.n) (x1.1.c p.n)) ?_|refine WD.callV (Zn.rsign (mc2 p.n) (x1.1.c p.n)) ?_
 have hsg:=@sgn_neg (x1.1.c p.n)
 by_cases hneg:x1.1.c p.n < 0
 ·have hs:=hsg.2 hneg
  refine WL.fact' (fF (resl cv2 (2*p.v) p.la 4) p.m (fun i=>mc2 (2*p.v+i)) (fun i=>x1.1.c (2*p.v+i))) (by rw[hla];exact W.Has.subM (v:=cv2) (ms:=mc2) (q:=x1.1.c) hmA (by omega)) ?_
  repeat'(first|refine gA ?_|(refine goG ?_;intro g)|(refine goV ?_;intro v)|refine goE ?_|(refine goEG ?_;intro g)|(refine goEV ?_;intro v)|refine goD ?_|refine goXD ?_|(refine goDG ?_;intro g)|(refine goDV ?_;intro v)|refine gY ?_|refine d19 ?_|fail)
  all_goals(try rw[show(2:Int)*(p.v:Int)=((2*p.v:Nat):Int) by simp])
  all_goals repeat'(first|refine gA ?_|(refine goG ?_;intro g)|(refine goV ?_;intro v)|refine goE ?_|(refine goEG ?_;intro g)|(refine goEV ?_;intro v)|refine goD ?_|refine goXD ?_|(refine goDG ?_;intro g)|(refine goDV ?_;intro v)|refine gY ?_|refine d19 ?_|fail)
  all_goals refine WC.freezeF v p.m (fun i=>mc2 (2*p.v+i)) (fun r=>x1.1.c (2*p.v+r)) (by repeat(first|exact Sel.head|apply Sel.tail)) (W.Has.fm (v:=resl cv2 (2*p.v) p.la 4) (ms:=fun i=>mc2 (2*p.v+i)) hmA) ?_
  all_goals refine WC.ret ?_
  all_goals exact Fin.p [] [fA ⟨.slice none 0 0,v,fun _=>m00,fun i=>mc2 (2*p.v+i),m00⟩ 0 p.m (fun _=>0) (fun r=>x1.1.c (2*p.v+r)) 0] (ResE.cV rfl rfl meA T.r33 rfl) meA (List.nil_sublist _) (.cons (has_A (has_nil0F _ _) hmA hasQ0) .nil) ⟨_,1,0,p.m,_,_,0,rfl,rfl,rfl,.inl ⟨rfl,rfl,rfl,rfl,X.first_inf hx1 hneg⟩,fun k hk=>absurd hk (by omega),fun k hk=>(hz.C hz.c1 hok1.i (by omega)).up hR2,Sq.zero.up (by omega)⟩
 have hs:¬sgn (x1.1.c p.n).num < 0:=fun h=>hneg (hsg.1 h)
 have hdr:=X.emp_all (e:=p.n) (last:=p.la) (by omega) hok1 (hq3 hneg)
 have hD:=(hdr p.m (Nat.le_refl _)).1
 have hdt:∀ i,i≤p.m→∀ r,r < p.m→∀ k,k < p.n+1→Sq L ((X.drP p.la x1.1 i).t r k):=fun i hi r hr k hk=>(hz.T (hdr i hi).1.i hr hk).up hKL
 have hdc:∀ i,i≤p.m→∀ k,k < p.n+1→Sq L ((X.drP p.la x1.1 i).c k):=fun i hi k hk=>hz.C hz.c1 (hdr i hi).1.i hk
 repeat'(first|refine gA ?_|(refine goG ?_;intro g)|(refine goV ?_;intro v)|refine goE ?_|(refine goEG ?_;intro g)|(refine goEV ?_;intro v)|refine goD ?_|refine goXD ?_|(refine goDG ?_;intro g)|(refine goDV ?_;intro v)|refine gY ?_|refine d19 ?_|fail)
 refine WC.lp (σ:=RD) (fun st=>[(8,.int .i64 (st.i:Int)),(5,ptr xg),(4,.int .i64 (p.la:Int)),(3,.int .i64 (p.m:Int)),(2,ptr g2),(1,ptr gp)]) (fun st=>RT xg p.m tv st.cv bv st.rv st.u.b++[Ow.cells g2 33 (acs ⟨.slice none 0 0,.slice none 0 0,fun _=>m00,fun _=>m00,m00⟩ 0),Ow.cells gp 26 (pcs M p.v)])
  (fun st=>[rF p.m (p.n+1) st.rv st.ms st.u.t,fF st.cv (p.n+1) st.mc st.u.c,fF M.gv p.v M.mg p.g,ge h0]) (fun st=>st.i≤p.m∧st.u=X.drP p.la x1.1 st.i) (fun st=>p.m - st.i) ⟨0,cv2,rv2,ms2,mc2,x1.1⟩ ⟨Nat.zero_le _,rfl⟩ ?_
 rintro⟨i,cv2,rv2,ms2,mc2,S⟩ ⟨hi,hS⟩
 simp only at hi hS ⊢
 by_cases c:i < p.m
 ·have hdt1:=hdt i hi
  have hdc1:=hdc i hi
  rw[←hS] at hdt1 hdc1
  repeat'(first|refine gA ?_|(refine goG ?_;intro g)|(refine goV ?_;intro v)|refine goE ?_|(refine goEG ?_;intro g)|(refine goEV ?_;intro v)|refine goD ?_|refine goXD ?_|(refine goDG ?_;intro g)|(refine goDV ?_;intro v)|refine gY ?_|refine d19 ?_|fail)
  refine WC.lp (σ:=RD) (fun st=>[(9,.int .i64 (st.i:Int)),(8,.int .i64 (i:Int)),(5,ptr xg),(4,.int .i64 (p.la:Int)),(3,.int .i64 (p.m:Int)),(2,ptr g2),(1,ptr gp)]) (fun st=>RT xg p.m tv st.cv bv st.rv st.u.b++[Ow.cells g2 33 (acs ⟨.slice none 0 0,.slice none 0 0,fun _=>m00,fun _=>m00,m00⟩ 0),Ow.cells gp 26 (pcs M p.v)])
   (fun st=>[rF p.m (p.n+1) st.rv st.ms st.u.t,fF st.cv (p.n+1) st.mc st.u.c,fF M.gv p.v M.mg p.g,ge h0]) (fun st=>st.i≤p.la∧((st.u=S∧∀ j,j < st.i→S.t i j=0)∨(st.u=X.drS p.la S i∧st.u.b i < p.la))) (fun st=>p.la - st.i) ⟨0,cv2,rv2,ms2,mc2,S⟩ ⟨Nat.zero_le _,.inl ⟨rfl,fun j hj=>absurd hj (Nat.not_lt_zero _)⟩⟩ ?_
  rintro⟨k,cv3,rv3,ms3,mc3,u⟩ ⟨hk,hu⟩
  simp only at hk hu ⊢
  have hfl:=fnL_len p.m u.b
  by_cases ck:k < p.la
  ·by_cases cb:u.b i < p.la
   ·have hdr1:u=X.drS p.la S i:=by
     rcases hu with ⟨rfl,_⟩|⟨h,_⟩
     ·exact(drS_none (.inl cb)).symm
     ·exact h
    have cb2:(u.b i:Int) < p.la:=by omega
    repeat'(first|refine gA ?_|(refine goG ?_;intro g)|(refine goV ?_;intro v)|refine goE ?_|(refine goEG ?_;intro g)|(refine goEV ?_;intro v)|refine goD ?_|refine goXD ?_|(refine goDG ?_;intro g)|(refine goDV ?_;intro v)|refine gY ?_|refine d19 ?_|fail)
    exact LoopEnd.mk ⟨i+1,cv3,rv3,ms3,mc3,u⟩ ⟨by show i+1≤p.m;omega,by show u=X.drP p.la x1.1 (i+1);rw[hdr1,hS];rfl⟩ (by show p.m - (i+1) < p.m - i;omega)
   ·obtain⟨rfl,h0⟩:u=S∧∀ j,j < k→S.t i j=0:=by
     rcases hu with h|⟨_,h⟩
     ·exact h
     ·exact absurd h cb
    have cb2:¬(u.b i:Int) < p.la:=by omega
    refine WC.fact (fF (rv3 i) (p.n+1) (ms3 i) (u.t i)) (W.Has.tr (m:=p.m) hmA c) ?_
    refine WC.fact (isQ (qv (ms3 i k)) (u.t i k)) (W.Has.q (W.Has.fm (v:=rv3 i) (ms:=ms3 i) hmA) (by omega)) ?_
    have hz0:=@sgn_zero (u.t i k)
    repeat'(first|refine gA ?_|(refine goG ?_;intro g)|(refine goV ?_;intro v)|refine goE ?_|(refine goEG ?_;intro g)|(refine goEV ?_;intro v)|refine goD ?_|refine goXD ?_|(refine goDG ?_;intro g)|(refine goDV ?_;intro v)|refine gY ?_|refine d19 ?_|fail)
    first|refine WL.callV (Zn.rsign (ms3 i k) (u.t i k)) ?_|refine WD.callV (Zn.rsign (ms3 i k) (u.t i k)) ?_
    by_cases ct:u.t i k=0
    ·have ct2:=hz0.2 ct
     repeat'(first|refine gA ?_|(refine goG ?_;intro g)|(refine goV ?_;intro v)|refine goE ?_|(refine goEG ?_;intro g)|(refine goEV ?_;intro v)|refine goD ?_|refine goXD ?_|(refine goDG ?_;intro g)|(refine goDV ?_;intro v)|refine gY ?_|refine d19 ?_|fail)
     exact LoopEnd.mk ⟨k+1,cv3,rv3,ms3,mc3,u⟩ ⟨ck,.inl ⟨rfl,fun j hj=>by
      by_cases e:j=k
      ·subst e;exact ct
      ·exact h0 j (by show j < k;have hj:j < k+1:=hj;omega)⟩⟩ (by show p.la - (k+1) < p.la - k;omega)
    ·have ct2:¬sgn (u.t i k).num=0:=fun h=>ct (hz0.1 h)
     repeat'(first|refine gA ?_|(refine goG ?_;intro g)|(refine goV ?_;intro v)|refine goE ?_|(refine goEG ?_;intro g)|(refine goEV ?_;intro v)|refine goD ?_|refine goXD ?_|(refine goDG ?_;intro g)|(refine goDV ?_;intro v)|refine gY ?_|refine d19 ?_|fail)
     refine WL.callG (RT xg p.m tv cv3 bv rv3 u.b) _ (.refl _) (rpivot_c xg p.m p.n i k L tv cv3 bv rv3 ms3 mc3 u c (by omega) (by omega) (by omega) (by omega) (by omega) hdt1 hdc1) ?_
     rintro _ _ _ ⟨cv4,rv4,ms4,mc4,rfl,rfl,rfl⟩
     simp only[List.nil_append,List.cons_append]
     repeat'(first|refine gA ?_|(refine goG ?_;intro g)|(refine goV ?_;intro v)|refine goE ?_|(refine goEG ?_;intro g)|(refine goEV ?_;intro v)|refine goD ?_|refine goXD ?_|(refine goDG ?_;intro g)|(refine goDV ?_;intro v)|refine gY ?_|refine d19 ?_|fail)
     exact LoopEnd.mk ⟨k+1,cv4,rv4,ms4,mc4,X.pv u i k⟩ ⟨ck,.inr ⟨(drS_hit (by omega) ck h0 ct).symm,by show(if i=i then k else u.b i) < p.la;rw[if_pos rfl];exact ck⟩⟩ (by show p.la - (k+1) < p.la - k;omega)
  ·obtain rfl:k=p.la:=by omega
   have hdr1:u=X.drS p.la S i:=by
    rcases hu with ⟨rfl,h⟩|⟨h,_⟩
    ·exact(drS_none (.inr h)).symm
    ·exact h
   repeat'(first|refine gA ?_|(refine goG ?_;intro g)|(refine goV ?_;intro v)|refine goE ?_|(refine goEG ?_;intro g)|(refine goEV ?_;intro v)|refine goD ?_|refine goXD ?_|(refine goDG ?_;intro g)|(refine goDV ?_;intro v)|refine gY ?_|refine d19 ?_|fail)
   exact LoopEnd.mk ⟨i+1,cv3,rv3,ms3,mc3,u⟩ ⟨by show i+1≤p.m;omega,by show u=X.drP p.la x1.1 (i+1);rw[hdr1,hS];rfl⟩ (by show p.m - (i+1) < p.m - i;omega)
 obtain rfl:i=p.m:=by omega
 rw[←hS] at hD
 repeat'(first|refine gA ?_|(refine goG ?_;intro g)|(refine goV ?_;intro v)|refine goE ?_|(refine goEG ?_;intro g)|(refine goEV ?_;intro v))
 refine WC.cutP (σ:=Value×(Nat→QM)) (fun st=>[(6,st.1),(5,ptr xg),(4,.int .i64 (p.la:Int)),(3,.int .i64 (p.m:Int)),(2,ptr g2),(1,ptr gp)])
  (fun st=>Ow.slice st.1 31 4 (qcells (p.v+p.v+2*p.m) (qcat (qcat st.2 p.v M.mg) (p.v+p.v) (fun _=>m00)))::(RT xg p.m tv cv2 bv rv2 S.b++[Ow.cells g2 33 (acs ⟨.slice none 0 0,.slice none 0 0,fun _=>m00,fun _=>m00,m00⟩ 0),Ow.cells gp 26 (pcs M p.v)]))
  (fun st=>[mF p.v st.2 (fun k=>-(p.g k)),rF p.m (p.n+1) rv2 ms2 S.t,fF cv2 (p.n+1) mc2 S.c,fF M.gv p.v M.mg p.g,ge h0]) (fun _=>True) ?_ ?_
 ·have hng:=negated_o M.gv p.v M.mg p.g (by omega) (fun k hk=>(hz.g k hk).sm (by omega))
  repeat'(first|refine gA ?_|(refine goG ?_;intro g)|(refine goV ?_;intro v)|refine goE ?_|(refine goEG ?_;intro g)|(refine goEV ?_;intro v)|refine goD ?_|refine goXD ?_|(refine goDG ?_;intro g)|(refine goDV ?_;intro v)|refine gY ?_|refine d19 ?_|fail|((first|refine WL.callK (hv:=?hvQ) (hng) ?_|refine WD.callK (hv:=?hvQ) (hng) ?_|refine LO.callM (hv:=?hvQ) (hng) ?_);(case hvQ=>((repeat(first|exact Evs.nil|(apply Evs.cons;exact rfl)));done));rintro _ _ _ ⟨_,rfl,rfl⟩;simp only[List.nil_append,List.cons_append])|fail)
  all_goals(apply Ex2;refine⟨trivial,?_,?_,?_⟩;(focus(repeat(first|exact Sub.nil _|refine Sub.cons rfl ?_)));(focus(repeat(first|exact SubP.nil _|(apply SubP.cons;(repeat(first|exact Rem.head|apply Rem.tail))))));(focus(repeat(first|exact HasAll.nil|(apply HasAll.cons;exact hsA)))))
 rintro⟨v6,mn⟩ -
 simp only
 have hvv:p.v+p.v+2*p.m=p.n:=by rw[hn];omega
 refine WC.freezeF v6 (p.v+p.v+2*p.m) (qcat (qcat mn p.v M.mg) (p.v+p.v) (fun _=>m00)) p.c2 (by repeat(first|exact Sel.head|apply Sel.tail)) ((W.Has.mFcat (W.Has.mFcat (f:=fun k=>-(p.g k)) hmA (W.Has.fm (v:=M.gv) (ms:=M.mg) hmA)) (W.Has.mF0 _)).mFsame fun j _=>c2_cat j) ?_
 rw[hvv]
 generalize qcat (qcat mn p.v M.mg) (p.v+p.v) (fun _=>m00)=mk2
 have hDi:X.Inv p.m p.n p.A p.c2 (X.prc p.m p.c2 S):=hD.i.prc p.c2
 obtain⟨F2,y,hy⟩:=X.run_ends (hD.prc (e':=p.la) p.c2) (show p.la≤p.n by omega)
 have hyi:X.Inv p.m p.n p.A p.c2 y.1:=(X.run_ok (hD.prc (e':=p.la) p.c2) (show p.la≤p.n by omega) hy).i
 have hans:=X.second hx1 hneg (by rw[←hS];exact hy)
 repeat'(first|refine gA ?_|(refine goG ?_;intro g)|(refine goV ?_;intro v)|refine goE ?_|(refine goEG ?_;intro g)|(refine goEV ?_;intro v)|refine goD ?_|refine goXD ?_|(refine goDG ?_;intro g)|(refine goDV ?_;intro v)|refine gY ?_|refine d19 ?_|fail)
 refine WL.callG (RT xg p.m tv cv2 bv rv2 S.b) _ (List.perm_middle (l₁:=RT xg p.m tv cv2 bv rv2 S.b)).symm (rprice_c xg p.m p.n L tv cv2 bv v6 rv2 ms2 mk2 S p.c2 (by omega) (by omega) (by omega) hD.i.bd (fun i hi k hk=>(hz.T hD.i hi hk).up hKL) (fun i hi k hk=>hz.P hz.c2 hD.i hi hk)) ?_
 rintro _ _ _ ⟨cv4,mc4,rfl,rfl,rfl⟩
 simp only[List.nil_append,List.cons_append]
 refine WL.fact' (fF cv4 (p.n+1) mc4 (X.prc p.m p.c2 S).c) (W.Has.fFsame (q:=prS p.n p.c2 S p.m) hmA fun j hj=>X.prS_prc hD.i.bd hD.i.u (by unfold X.Lp.c2;rw[if_neg (by omega),if_neg (by omega)]) hj) ?_
 repeat'(first|refine gA ?_|(refine goG ?_;intro g)|(refine goV ?_;intro v)|refine goE ?_|(refine goEG ?_;intro g)|(refine goEV ?_;intro v)|refine goD ?_|refine goXD ?_|(refine goDG ?_;intro g)|(refine goDV ?_;intro v)|refine gY ?_|refine d19 ?_|fail)
 refine WL.callG (RT xg p.m tv cv4 bv rv2 S.b) _ (.refl _) (rrun_c xg p.m p.n p.la L F2 tv cv4 bv rv2 ms2 mc4 (X.prc p.m p.c2 S) y (by omega) (by omega) (by omega) hL19 (by omega) hy (fun u=>X.Inv p.m p.n p.A p.c2 u) hDi (fun u k r h hk hr=>run_inv (e:=p.la) (by omega) h hk hr) (fun u hu=>⟨fun i hi k hk=>(hz.T hu hi hk).up hKL,fun k hk=>hz.C hz.c2 hu hk⟩)) ?_
 rintro _ _ _ ⟨cv5,rv5,ms5,mc5,rfl,rfl,rfl⟩
 simp only[List.nil_append,List.cons_append]
 have hTs:∀ i,i < p.m→∀ k,k < p.n+1→Sq K (y.1.t i k):=fun i hi k hk=>hz.T hyi hi hk
 have hnow:∀ k,nowV p.m p.n y.1 k=X.wt p.m y.1 (fun i=>y.1.t i p.n) k:=X.nowV_wt hyi
 have hxs:(fun k=>nowV p.m p.n y.1 k - nowV p.m p.n y.1 (p.v+k))=X.xs p y.1:=funext fun k=>by rw[hnow,hnow];rfl
 have hnq:∀ k,Sq K (nowV p.m p.n y.1 k):=X.nowV_sz hK fun i hi=>hTs i hi _ (by omega)
 have hpx:=rpoint_c xg p.m p.n p.v K tv cv5 bv rv5 ms5 y.1 (-1) (nowV p.m p.n y.1) (by omega) (by omega) (fun k _=>rnow_c xg p.m p.n k tv cv5 bv rv5 ms5 y.1 (by omega) (by omega)) (fun k _=>hnq k)
 rw[hxs] at hpx
 rcases hans with ⟨hy2,hopt⟩|⟨col,hy2,hunb⟩
 ·rw[hy2,show optI none= -1 from rfl]
  refine WL.freezeRT y.1 (bx':=_) (.refl _) hmA ?_
  simp only[List.cons_append,List.nil_append]
  repeat'(first|refine gA ?_|(refine goG ?_;intro g)|(refine goV ?_;intro v)|refine goE ?_|(refine goEG ?_;intro g)|(refine goEV ?_;intro v)|refine goD ?_|refine goXD ?_|(refine goDG ?_;intro g)|(refine goDV ?_;intro v)|refine gY ?_|refine d19 ?_|fail)
  refine WL.callK hpx ?_
  rintro xv _ _ ⟨mx,rfl,rfl⟩
  simp only[List.nil_append,List.cons_append]
  refine WL.fact' (fF (resl cv5 (2*p.v) p.la 4) p.m (fun i=>mc5 (2*p.v+i)) (fun i=>y.1.c (2*p.v+i))) (by rw[hla];exact W.Has.subM (v:=cv5) (ms:=mc5) (q:=y.1.c) hmA (by omega)) ?_
  repeat'(first|refine gA ?_|(refine goG ?_;intro g)|(refine goV ?_;intro v)|refine goE ?_|(refine goEG ?_;intro g)|(refine goEV ?_;intro v)|refine goD ?_|refine goXD ?_|(refine goDG ?_;intro g)|(refine goDV ?_;intro v)|refine gY ?_|refine d19 ?_|fail)
  rw[show(2:Int)*(p.v:Int)=((2*p.v:Nat):Int) by simp]
  repeat'(first|refine gA ?_|(refine goG ?_;intro g)|(refine goV ?_;intro v)|refine goE ?_|(refine goEG ?_;intro g)|(refine goEV ?_;intro v)|refine goD ?_|refine goXD ?_|(refine goDG ?_;intro g)|(refine goDV ?_;intro v)|refine gY ?_|refine d19 ?_|fail)
  have hdot:=rdot_c M.gv xv p.v (2*K+1) M.mg mx p.g (X.xs p y.1) (by omega) hz.d (fun i hi=>(hz.g i hi).up (by omega)) (fun i _=>by rw[←hxs];exact((hnq i).sub (hnq _)).up (by omega))
  refine WD.callK hdot ?_
  rintro _ _ _ ⟨mz,rfl,rfl,rfl⟩
  simp only[List.nil_append,List.cons_append]
  repeat'(first|refine gA ?_|(refine goG ?_;intro g)|(refine goV ?_;intro v)|refine goE ?_|(refine goEG ?_;intro g)|(refine goEV ?_;intro v)|refine goD ?_|refine goXD ?_|(refine goDG ?_;intro g)|(refine goDV ?_;intro v)|refine gY ?_|refine d19 ?_|fail)
  refine WC.freezeF v p.m (fun i=>mc5 (2*p.v+i)) (fun r=>y.1.c (2*p.v+r)) (by repeat(first|exact Sel.head|apply Sel.tail)) (W.Has.fm (v:=resl cv5 (2*p.v) p.la 4) (ms:=fun i=>mc5 (2*p.v+i)) hmA) ?_
  refine WC.ret ?_
  exact Fin.p [] [fA ⟨xv,v,mx,fun i=>mc5 (2*p.v+i),mz⟩ p.v p.m (X.xs p y.1) (fun r=>y.1.c (2*p.v+r)) (X.sm p.v fun k=>p.g k*X.xs p y.1 k)] (ResE.cV rfl rfl meA T.r33 rfl) meA (List.nil_sublist _) (.cons (has_A hmA hmA hmA) .nil) ⟨_,0,p.v,p.m,_,_,_,rfl,rfl,rfl,.inr (.inl ⟨rfl,rfl,rfl,hopt⟩),fun k _=>by rw[←hxs];exact((hnq k).sub (hnq _)).up (by omega),fun k hk=>(hz.C hz.c2 hyi (by omega)).up hR2,by
   refine(X.sq_sm (m:=p.v) (f:=fun k=>p.g k*X.xs p y.1 k) (k:=2*(2*K+1)) fun k hk=>?_).up (by omega)
   refine(((hz.g k hk).up (show K0≤2*K+1 by omega)).mul (l:=2*K+1) ?_).up (by omega)
   rw[←hxs];exact((hnq k).sub (hnq _)).up (by omega)⟩
 ·rcases X.run_end F2 _ y hy with ⟨h1,_⟩|⟨col',h1,hcl,hcn,_⟩
  ·rw[hy2] at h1;cases h1
  rw[hy2] at h1;cases h1
  have hray:(fun k=>rayV p.m y.1 col k - rayV p.m y.1 col (p.v+k))=X.dr p y.1 col:=funext fun k=>by rw[X.rayV_rv hyi hcn,X.rayV_rv hyi hcn];rfl
  have hpr:=rpoint_c xg p.m p.n p.v K tv cv5 bv rv5 ms5 y.1 (col:Int) (rayV p.m y.1 col) (by omega) (by omega) (fun k _=>rray_c xg p.m p.n k col tv cv5 bv rv5 ms5 y.1 (by omega) (by omega) (by omega)) (fun k _=>X.rayV_sz hK (fun i hi=>hTs i hi col (by omega)) k)
  rw[hray] at hpr
  rw[hy2,show optI (some col)=(col:Int) from rfl]
  refine WL.freezeRT y.1 (bx':=_) (.refl _) hmA ?_
  simp only[List.cons_append,List.nil_append]
  repeat'(first|refine gA ?_|(refine goG ?_;intro g)|(refine goV ?_;intro v)|refine goE ?_|(refine goEG ?_;intro g)|(refine goEV ?_;intro v)|refine goD ?_|refine goXD ?_|(refine goDG ?_;intro g)|(refine goDV ?_;intro v)|refine gY ?_|refine d19 ?_|fail)
  refine WD.callK hpx ?_
  rintro xv _ _ ⟨mx,rfl,rfl⟩
  simp only[List.nil_append,List.cons_append]
  repeat'(first|refine gA ?_|(refine goG ?_;intro g)|(refine goV ?_;intro v)|refine goE ?_|(refine goEG ?_;intro g)|(refine goEV ?_;intro v)|refine goD ?_|refine goXD ?_|(refine goDG ?_;intro g)|(refine goDV ?_;intro v)|refine gY ?_|refine d19 ?_|fail)
  refine WD.callK hpr ?_
  rintro yv _ _ ⟨my,rfl,rfl⟩
  simp only[List.nil_append,List.cons_append]
  repeat'(first|refine gA ?_|(refine goG ?_;intro g)|(refine goV ?_;intro v)|refine goE ?_|(refine goEG ?_;intro g)|(refine goEV ?_;intro v)|refine goD ?_|refine goXD ?_|(refine goDG ?_;intro g)|(refine goDV ?_;intro v)|refine gY ?_|refine d19 ?_|fail)
  refine WC.ret ?_
  exact Fin.p [] [fA ⟨xv,yv,mx,my,m00⟩ p.v p.v (X.xs p y.1) (X.dr p y.1 col) 0] (ResE.cV rfl rfl meA T.r33 rfl) meA (List.nil_sublist _) (.cons (has_A hmA hmA hasQ0) .nil) ⟨_,2,p.v,p.v,_,_,0,rfl,rfl,rfl,.inr (.inr ⟨rfl,rfl,rfl,rfl,hunb⟩),fun k _=>by rw[←hxs];exact((hnq k).sub (hnq _)).up (by omega),fun k hk=>by rw[←hray];exact((X.rayV_sz hK (fun i hi=>hTs i hi col (by omega)) k).sub (X.rayV_sz hK (fun i hi=>hTs i hi col (by omega)) _)).up (by omega),Sq.zero.up (by omega)⟩
end U
end Go.Proofs.YtaongbhamadlkaaGreat
