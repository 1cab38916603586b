/- Lemmas for the proof of a law: The law BoundsProgram, walked. Conditions: none. -/
import Derived.Test.YtaongbhamadlkaaGreatBq14
import Derived.Test.YtaongbhamadlkaaGreatRows
import Derived.Test.YtaongbhamadlkaaGreatBq10
import Derived.ProofKit
import Derived.ChangeSlices
set_option linter.unusedVariables false
set_option linter.unusedSimpArgs false
set_option linter.unusedSectionVars false
namespace Go.Proofs.YtaongbhamadlkaaGreat
open W Go.RowKit
namespace U.V.B
open Z
attribute [local irreducible] WC WL WD YO LO LoopEnd W.Fin Scalar SliceT FieldAt Row ArrT AllocT KnS Has W.One SrcE IntT
theorem d10 {G G':Prop} (h:G') (s:Bx G'→G:=by
 intro h
 first|(apply WC.draw (id:=6) [0,1,2,3,4,5,6,7,8,10] (.held 0 (.held 1 (.held 2 (.held 3 (.held 4 (.held 5 (.held 6 (.held 7 (.held 8 (.loud 9 (.held 10 (.loud 11 (.done))))))))))))) mixed (by kernel_rfl))|(apply WC.draw (id:=7) [0,1,2,3,4,5,6,7,8,10] (.held 0 (.held 1 (.held 2 (.held 3 (.held 4 (.held 5 (.held 6 (.held 7 (.held 8 (.loud 9 (.held 10 (.loud 11 (.done))))))))))))) mixed (by kernel_rfl))|(apply WC.draw (id:=11) [0,2,3,4,5,6] (.held 0 (.held 2 (.held 3 (.held 4 (.held 5 (.held 6 (.more 1 (.more 7 (.loud 8 (.loud 9 (.done))) (.loud 8 (.loud 7 (.loud 9 (.done))))) (.loud 8 (.loud 1 (.loud 7 (.loud 9 (.done)))))))))))) mixed (by kernel_rfl))|(apply WC.draw (id:=12) [0,1,2,3,4,5,6,7,8,9,10,11,12,13,14,15,16,18] (.held 0 (.held 1 (.held 2 (.held 3 (.held 4 (.held 5 (.held 6 (.held 7 (.held 8 (.held 9 (.held 10 (.held 11 (.held 12 (.held 13 (.held 14 (.held 15 (.held 16 (.loud 17 (.held 18 (.loud 19 (.done))))))))))))))))))))) mixed (by kernel_rfl))|(apply WC.draw (id:=13) [0,1,2,3,4,5,6,7,8,9,10,11,12,13,14,15,16,18] (.held 0 (.held 1 (.held 2 (.held 3 (.held 4 (.held 5 (.held 6 (.held 7 (.held 8 (.held 9 (.held 10 (.held 11 (.held 12 (.held 13 (.held 14 (.held 15 (.held 16 (.loud 17 (.held 18 (.loud 19 (.done))))))))))))))))))))) mixed (by kernel_rfl))|(apply WC.draw (id:=27) [0,1,2,3,4,5,6,8,9,10,11,12,13,15] (.held 0 (.held 1 (.held 2 (.held 3 (.held 4 (.held 5 (.held 6 (.held 8 (.held 9 (.held 10 (.held 11 (.held 12 (.held 13 (.loud 7 (.loud 14 (.held 15 (.done))))))))))))))))) mixed (by kernel_rfl))|fail
 exact Bx.h h):G:=s ⟨h⟩
theorem one_sm:Sm (1:Rat):=by
 have h:=gT_sq 0 1 0
 rw[show gT 0 1 0=1 by decide +kernel] at h
 exact h.sm (by decide)
theorem upd_sm (t k:Nat):Sm (upd (fun _=>(0:Rat)) t (0+1) k):=by
 unfold upd
 split
 ·rw[show(0:Rat)+1=1 by decide +kernel];exact one_sm
 ·exact Sq.zero.sm (by decide)
structure LS where
 sv:Value
 M:Pm
set_option maxHeartbeats 32000000 in
set_option maxRecDepth 60000 in
theorem programLaw_c (hlv:FnB Tryz.prog 42 [] [] [] (IsV (.bool true))) (v0:Value) (l0:List Int) (fr to:Int) (hl0:∀ x∈l0,I64 x) (hfr:I64 fr) (hto:I64 to) :
  FnB Tryz.prog 10 [v0,.int .i64 fr,.int .i64 to] [] [sI v0 l0] (IsV (.bool true)):=by
 refine fn_of [(0,v0),(1,(.int .i64 fr)),(2,(.int .i64 to))] 211 Tryz.func10 rfl Tryz.ntmps10 (by kernel_rfl) rfl suA fun h0=>?_
 repeat'(first|refine gA ?_|(refine goG ?_;intro g)|(refine goV ?_;intro v)|refine goE ?_|(refine goEG ?_;intro g)|(refine goEV ?_;intro v)|refine goD ?_|refine goXD ?_|(refine goDG ?_;intro g)|(refine goDV ?_;intro v)|apply WD.more_of|refine WM.more (by exact rfl) (by exact rfl) (by exact rfl) ?_ ?_|refine WM.one (by exact rfl) (by exact rfl) (by exact rfl) ?_|refine WM.more0 (by exact rfl) (by exact rfl) ?_ ?_|refine WM.one0 (by exact rfl) (by exact rfl) ?_|(refine goLG ?_;intro g)|(refine goLV ?_;intro v)|refine goLS ?_|refine gY ?_|refine d10 ?_|fail)
 first|refine WL.callO (take_c v0 l0 34 (by decide)) (fun rv=>?_)|refine WD.callO (take_c v0 l0 34 (by decide)) (fun rv=>?_)
 have hlen:=sysL_len8 l0 4
 have hl:=take_i64 (k:=34) hl0
 generalize l0.take 34=l at *
 refine WL.freezeI (l:=l) (v:=rv) (el:=3) (by repeat(first|exact Sel.head|apply Sel.tail)) ?_
 repeat'(first|refine gA ?_|(refine goG ?_;intro g)|(refine goV ?_;intro v)|refine goE ?_|(refine goEG ?_;intro g)|(refine goEV ?_;intro v)|refine goD ?_|refine goXD ?_|(refine goDG ?_;intro g)|(refine goDV ?_;intro v)|apply WD.more_of|refine WM.more (by exact rfl) (by exact rfl) (by exact rfl) ?_ ?_|refine WM.one (by exact rfl) (by exact rfl) (by exact rfl) ?_|refine WM.more0 (by exact rfl) (by exact rfl) ?_ ?_|refine WM.one0 (by exact rfl) (by exact rfl) ?_|(refine goLG ?_;intro g)|(refine goLV ?_;intro v)|refine goLS ?_|refine gY ?_|refine d10 ?_|fail)
 first|refine WL.callK (I.system_c rv l 4 hl (by decide) (by decide)) ?_|refine WD.callK (I.system_c rv l 4 hl (by decide) (by decide)) ?_|refine LO.callM (I.system_c rv l 4 hl (by decide) (by decide)) ?_
 rintro _ _ _ ⟨vb,ms,rfl,rfl,rfl⟩
 simp only[List.nil_append,List.cons_append]
 have hs:=sysL_sml l (most:=4) (by decide) (by decide)
 have hn4:=sysN_le l (most:=4) (by decide)
 obtain⟨n,hn,_,hv⟩:=sys_vld l (most:=4) (by decide) (by decide)
 rw[hn] at hn4 ⊢
 generalize sysL l 4=bs at *
 have hv14:1≤n∧n≤4:=by omega
 have hF:=progFits hv14
 have hbl:=bL_sq (n:=n) hs.1
 have hbn:=bL_len n bs
 have hG:=fun (t f k:Nat) (_:k < n)=>gT_sq t f k
 repeat'(first|refine gA ?_|(refine goG ?_;intro g)|(refine goV ?_;intro v)|refine goE ?_|(refine goEG ?_;intro g)|(refine goEV ?_;intro v)|refine goD ?_|refine goXD ?_|(refine goDG ?_;intro g)|(refine goDV ?_;intro v)|apply WD.more_of|refine WM.more (by exact rfl) (by exact rfl) (by exact rfl) ?_ ?_|refine WM.one (by exact rfl) (by exact rfl) (by exact rfl) ?_|refine WM.more0 (by exact rfl) (by exact rfl) ?_ ?_|refine WM.one0 (by exact rfl) (by exact rfl) ?_|(refine goLG ?_;intro g)|(refine goLV ?_;intro v)|refine goLS ?_|refine gY ?_|refine d10 ?_|fail)
 first|refine WL.callV (U.around_c fr n hfr (by omega)) ?_|refine WD.callV (U.around_c fr n hfr (by omega)) ?_
 repeat'(first|refine gA ?_|(refine goG ?_;intro g)|(refine goV ?_;intro v)|refine goE ?_|(refine goEG ?_;intro g)|(refine goEV ?_;intro v)|refine goD ?_|refine goXD ?_|(refine goDG ?_;intro g)|(refine goDV ?_;intro v)|apply WD.more_of|refine WM.more (by exact rfl) (by exact rfl) (by exact rfl) ?_ ?_|refine WM.one (by exact rfl) (by exact rfl) (by exact rfl) ?_|refine WM.more0 (by exact rfl) (by exact rfl) ?_ ?_|refine WM.one0 (by exact rfl) (by exact rfl) ?_|(refine goLG ?_;intro g)|(refine goLV ?_;intro v)|refine goLS ?_|refine gY ?_|refine d10 ?_|fail)
 first|refine WL.callV (U.around_c to n hto (by omega)) ?_|refine WD.callV (U.around_c to n hto (by omega)) ?_
 repeat'(first|refine gA ?_|(refine goG ?_;intro g)|(refine goV ?_;intro v)|refine goE ?_|(refine goEG ?_;intro g)|(refine goEV ?_;intro v)|refine goD ?_|refine goXD ?_|(refine goDG ?_;intro g)|(refine goDV ?_;intro v)|apply WD.more_of|refine WM.more (by exact rfl) (by exact rfl) (by exact rfl) ?_ ?_|refine WM.one (by exact rfl) (by exact rfl) (by exact rfl) ?_|refine WM.more0 (by exact rfl) (by exact rfl) ?_ ?_|refine WM.one0 (by exact rfl) (by exact rfl) ?_|(refine goLG ?_;intro g)|(refine goLV ?_;intro v)|refine goLS ?_|refine gY ?_|refine d10 ?_|fail)
 obtain⟨a,ha,han⟩:∃ a:Nat,around fr n=(a:Int)∧a < n:=by
  have:=@around_lt fr n (by omega)
  exact⟨(around fr n).toNat,by omega,by omega⟩
 obtain⟨c,hc,hcn⟩:∃ c:Nat,around to n=(c:Int)∧c < n:=by
  have:=@around_lt to n (by omega)
  exact⟨(around to n).toNat,by omega,by omega⟩
 rw[ha,hc]
 first|refine WL.callK (Zn.rof 1 1 (by decide) (by decide)) ?_|refine WD.callK (Zn.rof 1 1 (by decide) (by decide)) ?_|refine LO.callM (Zn.rof 1 1 (by decide) (by decide)) ?_
 rintro _ _ _ ⟨mo,rfl,rfl,rfl⟩
 simp only[List.nil_append,List.cons_append]
 rw[show Rat.divInt 1 1=1 by decide +kernel]
 repeat'(first|refine gA ?_|(refine goG ?_;intro g)|(refine goV ?_;intro v)|refine goE ?_|(refine goEG ?_;intro g)|(refine goEV ?_;intro v)|refine goD ?_|refine goXD ?_|(refine goDG ?_;intro g)|(refine goDV ?_;intro v)|apply WD.more_of|refine WM.more (by exact rfl) (by exact rfl) (by exact rfl) ?_ ?_|refine WM.one (by exact rfl) (by exact rfl) (by exact rfl) ?_|refine WM.more0 (by exact rfl) (by exact rfl) ?_ ?_|refine WM.one0 (by exact rfl) (by exact rfl) ?_|(refine goLG ?_;intro g)|(refine goLV ?_;intro v)|refine goLS ?_|refine gY ?_|refine d10 ?_|fail)
 rename_i g11
 revert v;intro gv
 revert g;intro g12
 have s0:Sm (0:Rat):=Sq.zero.sm (by decide)
 have s1:Sm (1:Rat):=one_sm
 have hu:=upd_sm
 first|refine WL.callK (Zn.add m00 mo 0 1 s0 s1) ?_|refine WD.callK (Zn.add m00 mo 0 1 s0 s1) ?_|refine LO.callM (Zn.add m00 mo 0 1 s0 s1) ?_
 rintro _ _ _ ⟨m1,rfl,rfl,rfl⟩
 simp only[List.nil_append,List.cons_append]
 refine WD.fact (mF n (upd (fun _=>m00) c m1) (upd (fun _=>0) c (0+1))) (W.Has.mFset (W.Has.mF0 n) hmA) ?_
 refine WD.fact (isQ (qv (upd (fun _=>m00) c m1 a)) (upd (fun _=>0) c (0+1) a)) (W.Has.q hmA han) ?_
 repeat'(first|refine gA ?_|(refine goG ?_;intro g)|(refine goV ?_;intro v)|refine goE ?_|(refine goEG ?_;intro g)|(refine goEV ?_;intro v)|refine goD ?_|refine goXD ?_|(refine goDG ?_;intro g)|(refine goDV ?_;intro v)|apply WD.more_of|refine WM.more (by exact rfl) (by exact rfl) (by exact rfl) ?_ ?_|refine WM.one (by exact rfl) (by exact rfl) (by exact rfl) ?_|refine WM.more0 (by exact rfl) (by exact rfl) ?_ ?_|refine WM.one0 (by exact rfl) (by exact rfl) ?_|(refine goLG ?_;intro g)|(refine goLV ?_;intro v)|refine goLS ?_|refine gY ?_|refine d10 ?_|fail)
 first|refine WL.callK (Zn.sub (upd (fun _=>m00) c m1 a) mo (upd (fun _=>0) c (0+1) a) 1 (hu c a) s1) ?_|refine WD.callK (Zn.sub (upd (fun _=>m00) c m1 a) mo (upd (fun _=>0) c (0+1) a) 1 (hu c a) s1) ?_|refine LO.callM (Zn.sub (upd (fun _=>m00) c m1 a) mo (upd (fun _=>0) c (0+1) a) 1 (hu c a) s1) ?_
 rintro _ _ _ ⟨m2,rfl,rfl,rfl⟩
 simp only[List.nil_append,List.cons_append]
 refine WD.fact (mF n (upd (upd (fun _=>m00) c m1) a m2) (gT c a)) ((W.Has.mFset (show Has _ (mF n (upd (fun _=>m00) c m1) (upd (fun _=>0) c (0+1))) from hmA) hmA).mFsame fun i _=>gT_upd c a i) ?_
 repeat'(first|refine gA ?_|(refine goG ?_;intro g)|(refine goV ?_;intro v)|refine goE ?_|(refine goEG ?_;intro g)|(refine goEV ?_;intro v)|refine goD ?_|refine goXD ?_|(refine goDG ?_;intro g)|(refine goDV ?_;intro v)|apply WD.more_of|refine WM.more (by exact rfl) (by exact rfl) (by exact rfl) ?_ ?_|refine WM.one (by exact rfl) (by exact rfl) (by exact rfl) ?_|refine WM.more0 (by exact rfl) (by exact rfl) ?_ ?_|refine WM.one0 (by exact rfl) (by exact rfl) ?_|(refine goLG ?_;intro g)|(refine goLV ?_;intro v)|refine goLS ?_|refine gY ?_|refine d10 ?_|fail)
 refine WC.freezeF gv n (upd (upd (fun _=>m00) c m1) a m2) (gT c a) (by repeat(first|exact Sel.head|apply Sel.tail)) hmA ?_
 generalize upd (upd (fun _=>m00) c m1) a m2=mg at *
 refine WC.addNil 60 5 ?_
 refine WC.lp (σ:=Nat×LS) (fun st=>[(13,.int .i64 (st.1:Int)),(12,ptr g12),(11,ptr g11),(10,.int .i64 (c:Int)),(9,.int .i64 (a:Int)),(8,vb),(7,.int .i64 (n:Int))])
  (fun st=>[Ow.slice st.2.sv 60 5 (lncells st.1 st.2.M),Ow.cells g12 26 [.int .i64 (n:Int),st.2.sv,gv],Ow.cells g11 31 (qcs mo)])
  (fun st=>[lnQ st.2.M n (bT n bs st.1),fF gv n mg (gT c a),isQ (qv mo) 1,fB 6 vb ms bs,ge h0]) (fun st=>st.1≤bs.length) (fun st=>bs.length - st.1) (0,⟨.slice none 0 0,Pm.no⟩) (Nat.zero_le _) ?_ (hG:=.cons W.Has.lnn sfA)
 rintro⟨i,so,N⟩ hi
 simp only at hi ⊢
 have hll:=bT_len n bs i
 have hst:=bT_succ n bs i
 by_cases ci:i < bs.length
 ·have hok:=hv.ok i ci
  unfold Bd.ok at hok
  have htn:(bg bs i).to.toNat < n:=by omega
  have hfn:(bg bs i).fr.toNat < n:=by omega
  have hbw:(bg bs i).w.natAbs < 1000000000:=by have:=absS_ge ci;have:=hs.1;omega
  repeat'(first|refine gA ?_|(refine goG ?_;intro g)|(refine goV ?_;intro v)|refine goE ?_|(refine goEG ?_;intro g)|(refine goEV ?_;intro v))
  refine WC.cutP (σ:=Nat×Value) (fun st=>[(14,ptr st.1),(13,.int .i64 (i:Int)),(12,ptr g12),(11,ptr g11),(10,.int .i64 (c:Int)),(9,.int .i64 (a:Int)),(8,vb),(7,.int .i64 (n:Int))])
   (fun st=>[Ow.cells st.1 60 (st.2::qcs (ms i)),Ow.slice st.2 31 4 (qcells n fun _=>m00),Ow.slice so 60 5 (lncells i N),Ow.cells g12 26 [.int .i64 (n:Int),so,gv],Ow.cells g11 31 (qcs mo)])
   (fun _=>[isQ (qv (ms i)) (wq 6 (bg bs i).w),lnQ N n (bT n bs i),fF gv n mg (gT c a),isQ (qv mo) 1,fB 6 vb ms bs,ge h0]) (fun _=>True) ?_ ?_
  ·refine WC.fact (isQ (qv (ms i)) (wq 6 (bg bs i).w)) (W.Has.bw hmA ci) ?_
   repeat'(first|refine gA ?_|(refine goG ?_;intro g)|(refine goV ?_;intro v)|refine goE ?_|(refine goEG ?_;intro g)|(refine goEV ?_;intro v)|refine goD ?_|refine goXD ?_|(refine goDG ?_;intro g)|(refine goDV ?_;intro v)|apply WD.more_of|refine WM.more (by exact rfl) (by exact rfl) (by exact rfl) ?_ ?_|refine WM.one (by exact rfl) (by exact rfl) (by exact rfl) ?_|refine WM.more0 (by exact rfl) (by exact rfl) ?_ ?_|refine WM.one0 (by exact rfl) (by exact rfl) ?_|(refine goLG ?_;intro g)|(refine goLV ?_;intro v)|refine goLS ?_|refine gY ?_|refine d10 ?_|fail)
   all_goals(apply Ex2;refine⟨trivial,?_,?_,?_⟩;(focus(repeat(first|exact Sub.nil _|refine Sub.cons rfl ?_)));(focus(repeat(first|exact SubP.nil _|(apply SubP.cons;(repeat(first|exact Rem.head|apply Rem.tail))))));(focus(repeat(first|exact HasAll.nil|(apply HasAll.cons;exact hsA)))))
  rintro⟨g14,sa⟩ _
  simp only
  repeat'(first|refine gA ?_|(refine goG ?_;intro g)|(refine goV ?_;intro v)|refine goE ?_|(refine goEG ?_;intro g)|(refine goEV ?_;intro v)|refine goD ?_|refine goXD ?_|(refine goDG ?_;intro g)|(refine goDV ?_;intro v)|apply WD.more_of|refine WM.more (by exact rfl) (by exact rfl) (by exact rfl) ?_ ?_|refine WM.one (by exact rfl) (by exact rfl) (by exact rfl) ?_|refine WM.more0 (by exact rfl) (by exact rfl) ?_ ?_|refine WM.one0 (by exact rfl) (by exact rfl) ?_|(refine goLG ?_;intro g)|(refine goLV ?_;intro v)|refine goLS ?_|refine gY ?_|refine d10 ?_|fail)
  refine WD.fact (mF n (fun _=>m00) (fun _=>0)) (W.Has.mF0 n) ?_
  first|refine WL.callK (Zn.add m00 mo 0 1 s0 s1) ?_|refine WD.callK (Zn.add m00 mo 0 1 s0 s1) ?_|refine LO.callM (Zn.add m00 mo 0 1 s0 s1) ?_
  rintro _ _ _ ⟨m1,rfl,rfl,rfl⟩
  simp only[List.nil_append,List.cons_append]
  refine WD.fact (mF n (upd (fun _=>m00) (bg bs i).to.toNat m1) (upd (fun _=>0) (bg bs i).to.toNat (0+1))) (W.Has.mFset (W.Has.mF0 n) hmA) ?_
  refine WD.fact (isQ (qv (upd (fun _=>m00) (bg bs i).to.toNat m1 (bg bs i).fr.toNat)) (upd (fun _=>0) (bg bs i).to.toNat (0+1) (bg bs i).fr.toNat)) (W.Has.q hmA (by omega)) ?_
  repeat'(first|refine gA ?_|(refine goG ?_;intro g)|(refine goV ?_;intro v)|refine goE ?_|(refine goEG ?_;intro g)|(refine goEV ?_;intro v)|refine goD ?_|refine goXD ?_|(refine goDG ?_;intro g)|(refine goDV ?_;intro v)|apply WD.more_of|refine WM.more (by exact rfl) (by exact rfl) (by exact rfl) ?_ ?_|refine WM.one (by exact rfl) (by exact rfl) (by exact rfl) ?_|refine WM.more0 (by exact rfl) (by exact rfl) ?_ ?_|refine WM.one0 (by exact rfl) (by exact rfl) ?_|(refine goLG ?_;intro g)|(refine goLV ?_;intro v)|refine goLS ?_|refine gY ?_|refine d10 ?_|fail)
  first|refine WL.callK (Zn.sub (upd (fun _=>m00) (bg bs i).to.toNat m1 (bg bs i).fr.toNat) mo (upd (fun _=>0) (bg bs i).to.toNat (0+1) (bg bs i).fr.toNat) 1 (hu _ _) s1) ?_|refine WD.callK (Zn.sub (upd (fun _=>m00) (bg bs i).to.toNat m1 (bg bs i).fr.toNat) mo (upd (fun _=>0) (bg bs i).to.toNat (0+1) (bg bs i).fr.toNat) 1 (hu _ _) s1) ?_|refine LO.callM (Zn.sub (upd (fun _=>m00) (bg bs i).to.toNat m1 (bg bs i).fr.toNat) mo (upd (fun _=>0) (bg bs i).to.toNat (0+1) (bg bs i).fr.toNat) 1 (hu _ _) s1) ?_
  rintro _ _ _ ⟨m2,rfl,rfl,rfl⟩
  simp only[List.nil_append,List.cons_append]
  refine WD.fact (mF n (upd (upd (fun _=>m00) (bg bs i).to.toNat m1) (bg bs i).fr.toNat m2) (X.co (bln n (bg bs i)))) ((W.Has.mFset (show Has _ (mF n (upd (fun _=>m00) (bg bs i).to.toNat m1) (upd (fun _=>0) (bg bs i).to.toNat (0+1))) from hmA) hmA).mFsame fun k hk=>by rw[gT_upd,bln_co hk]) ?_
  repeat'(first|refine gA ?_|(refine goG ?_;intro g)|(refine goV ?_;intro v)|refine goE ?_|(refine goEG ?_;intro g)|(refine goEV ?_;intro v)|refine goD ?_|refine goXD ?_|(refine goDG ?_;intro g)|(refine goDV ?_;intro v)|apply WD.more_of|refine WM.more (by exact rfl) (by exact rfl) (by exact rfl) ?_ ?_|refine WM.one (by exact rfl) (by exact rfl) (by exact rfl) ?_|refine WM.more0 (by exact rfl) (by exact rfl) ?_ ?_|refine WM.one0 (by exact rfl) (by exact rfl) ?_|(refine goLG ?_;intro g)|(refine goLV ?_;intro v)|refine goLS ?_|refine gY ?_|refine d10 ?_|fail)
  generalize upd (upd (fun _=>m00) (bg bs i).to.toNat m1) (bg bs i).fr.toNat m2=ma at *
  refine WL.freezeF sa n ma (X.co (bln n (bg bs i))) (by repeat(first|exact Sel.head|apply Sel.tail)) hmA ?_
  refine WL.fact' (lnQ (N.app i sa ma (ms i)) n (bT n bs (i+1))) (by
   have h:=fun F h1 h2 h3=>W.Has.lnapp (F:=F) (M:=N) (w:=n) (L:=bT n bs i) (a:=sa) (ma:=ma) (b:=ms i) h1 (bln n (bg bs i)) h2 h3
   rw[hll] at h
   rw[hst]
   exact h _ hmA hmA (show Has _ (isQ (qv (ms i)) (wq 6 (bg bs i).w)) from hmA)) ?_
  repeat'(first|refine gA ?_|(refine goG ?_;intro g)|(refine goV ?_;intro v)|refine goE ?_|(refine goEG ?_;intro g)|(refine goEV ?_;intro v)|refine goD ?_|refine goXD ?_|(refine goDG ?_;intro g)|(refine goDV ?_;intro v)|apply WD.more_of|refine WM.more (by exact rfl) (by exact rfl) (by exact rfl) ?_ ?_|refine WM.one (by exact rfl) (by exact rfl) (by exact rfl) ?_|refine WM.more0 (by exact rfl) (by exact rfl) ?_ ?_|refine WM.one0 (by exact rfl) (by exact rfl) ?_|(refine goLG ?_;intro g)|(refine goLV ?_;intro v)|refine goLS ?_|refine gY ?_|refine d10 ?_|fail)
  exact LoopEnd.mk (i+1,⟨_,_⟩) (by show i+1≤bs.length;omega) (by show bs.length - (i+1) < bs.length - i;omega)
 obtain rfl:i=bs.length:=by omega
 rw[bT_all] at *
 repeat'(first|refine gA ?_|(refine goG ?_;intro g)|(refine goV ?_;intro v)|refine goE ?_|(refine goEG ?_;intro g)|(refine goEV ?_;intro v)|refine goD ?_|refine goXD ?_|(refine goDG ?_;intro g)|(refine goDV ?_;intro v)|apply WD.more_of|refine WM.more (by exact rfl) (by exact rfl) (by exact rfl) ?_ ?_|refine WM.one (by exact rfl) (by exact rfl) (by exact rfl) ?_|refine WM.more0 (by exact rfl) (by exact rfl) ?_ ?_|refine WM.one0 (by exact rfl) (by exact rfl) ?_|(refine goLG ?_;intro g)|(refine goLV ?_;intro v)|refine goLS ?_|refine gY ?_|refine d10 ?_|fail)
 rw[show lncells bs.length N=lncells (bL n bs).length N by rw[hbn]]
 refine WL.freezeLn so N n (bL n bs) (by repeat(first|exact Sel.head|apply Sel.tail)) hmA ?_
 refine WL.fact' (fP ((N.at so).wg gv mg) (X.lpOf n (bL n bs) (gT c a))) (W.Has.lnp (W.Has.lnwg (M:=N.at so) hmA) (show Has _ (fF gv n mg (gT c a)) from hmA)) ?_
 have hsl:=H.solve_c 6 vb ms bs n hs.fit
 have hmo:=H.most_c 6 vb ms bs n a c hs.fit
 have hsx:=solveL_c ((N.at so).wg gv mg) hF hbl (by rw[hbn];exact hlen) (fun k hk=>hG c a k hk)
 have hcs:=mst_cases hv han hcn
 by_cases hh:HasSol bs
 case' neg=>
  have hsem:=prog_none hv (g:=gT c a) hh
  obtain⟨e1,e2⟩:(mst n bs a c).1=0∧(mst n bs a c).2.2=14:=by
   rcases hcs with ⟨_,h⟩|⟨h,_⟩|⟨_,_,h,_⟩
   ·exact h
   ·exact absurd h hh
   ·exact absurd h hh
  rw[slv_no hv hh] at hsl
  first|refine WL.callK (hsl) ?_|refine WD.callK (hsl) ?_|refine LO.callM (hsl) ?_
  rintro _ _ _ ⟨ux,mx,uc,rfl,rfl,rfl⟩
  simp only[List.nil_append,List.cons_append]
  repeat'(first|refine gA ?_|(refine goG ?_;intro g)|(refine goV ?_;intro v)|refine goE ?_|(refine goEG ?_;intro g)|(refine goEV ?_;intro v)|refine goD ?_|refine goXD ?_|(refine goDG ?_;intro g)|(refine goDV ?_;intro v)|apply WD.more_of|refine WM.more (by exact rfl) (by exact rfl) (by exact rfl) ?_ ?_|refine WM.one (by exact rfl) (by exact rfl) (by exact rfl) ?_|refine WM.more0 (by exact rfl) (by exact rfl) ?_ ?_|refine WM.one0 (by exact rfl) (by exact rfl) ?_|(refine goLG ?_;intro g)|(refine goLV ?_;intro v)|refine goLS ?_|refine gY ?_|refine d10 ?_|fail)
  first|refine WL.callK (hmo) ?_|refine WD.callK (hmo) ?_|refine LO.callM (hmo) ?_
  rintro _ _ _ ⟨md,up,rfl,rfl,rfl⟩
  simp only[List.nil_append,List.cons_append]
  rw[e2]
  repeat'(first|refine gA ?_|(refine goG ?_;intro g)|(refine goV ?_;intro v)|refine goE ?_|(refine goEG ?_;intro g)|(refine goEV ?_;intro v)|refine goD ?_|refine goXD ?_|(refine goDG ?_;intro g)|(refine goDV ?_;intro v)|apply WD.more_of|refine WM.more (by exact rfl) (by exact rfl) (by exact rfl) ?_ ?_|refine WM.one (by exact rfl) (by exact rfl) (by exact rfl) ?_|refine WM.more0 (by exact rfl) (by exact rfl) ?_ ?_|refine WM.one0 (by exact rfl) (by exact rfl) ?_|(refine goLG ?_;intro g)|(refine goLV ?_;intro v)|refine goLS ?_|refine gY ?_|refine d10 ?_|fail)
  revert g;intro g18
  first|refine WL.callK (hsx) ?_|refine WD.callK (hsx) ?_|refine LO.callM (hsx) ?_
  rintro _ _ _ ⟨A,k,xn,yn,x,y,z,rfl,rfl,rfl,hA,hx,hy,hz⟩
  simp only[List.nil_append,List.cons_append]
  obtain⟨hk,_⟩:=hA.sem.uniq hsem
  obtain rfl:k=1:=by omega
  refine WL.fact' (fF A.xv xn A.mx x) (W.Has.ax (M:=A) (xn:=xn) (yn:=yn) (x:=x) (y:=y) (z:=z) hmA) ?_
  refine WL.fact' (fF A.yv yn A.my y) (W.Has.ay (M:=A) (xn:=xn) (yn:=yn) (x:=x) (y:=y) (z:=z) hmA) ?_
  refine WL.fact' (isQ (qv A.mz) z) (W.Has.az (M:=A) (xn:=xn) (yn:=yn) (x:=x) (y:=y) (z:=z) hmA) ?_
  repeat'(first|refine gA ?_|(refine goG ?_;intro g)|(refine goV ?_;intro v)|refine goE ?_|(refine goEG ?_;intro g)|(refine goEV ?_;intro v)|refine goD ?_|refine goXD ?_|(refine goDG ?_;intro g)|(refine goDV ?_;intro v)|apply WD.more_of|refine WM.more (by exact rfl) (by exact rfl) (by exact rfl) ?_ ?_|refine WM.one (by exact rfl) (by exact rfl) (by exact rfl) ?_|refine WM.more0 (by exact rfl) (by exact rfl) ?_ ?_|refine WM.one0 (by exact rfl) (by exact rfl) ?_|(refine goLG ?_;intro g)|(refine goLV ?_;intro v)|refine goLS ?_|refine gY ?_|refine d10 ?_|fail)
  first|refine WL.callV (hlv) ?_|refine WD.callV (hlv) ?_
  repeat'(first|refine gA ?_|(refine goG ?_;intro g)|(refine goV ?_;intro v)|refine goE ?_|(refine goEG ?_;intro g)|(refine goEV ?_;intro v)|refine goD ?_|refine goXD ?_|(refine goDG ?_;intro g)|(refine goDV ?_;intro v)|apply WD.more_of|refine WM.more (by exact rfl) (by exact rfl) (by exact rfl) ?_ ?_|refine WM.one (by exact rfl) (by exact rfl) (by exact rfl) ?_|refine WM.more0 (by exact rfl) (by exact rfl) ?_ ?_|refine WM.one0 (by exact rfl) (by exact rfl) ?_|(refine goLG ?_;intro g)|(refine goLV ?_;intro v)|refine goLS ?_|refine gY ?_|refine d10 ?_|fail)
  exact WC.ret (Fin.v (ResE.t1 rfl rfl) meA rfl)
 have hXl:=jacs_len bs n n
 have hX:=sol_iff.1 ((sol_iff_has hv).2 hh)
 rw[slv_sol hv hh] at hsl
 have hXw:Wth 400000 (jacs bs n n):=by have:=(slv_sml hs n).1;rwa [slv_sol hv hh] at this
 generalize jacs bs n n=xs at *
 obtain⟨d,f,hk2,hmst⟩:∃ (d:Int) (f:Int),((f=6∧X.Sem (X.lpOf n (bL n bs) (gT c a)) 2 0)∨(f=0∧X.Sem (X.lpOf n (bL n bs) (gT c a)) 0 (wq 6 d)))∧(mst n bs a c).1=d∧(mst n bs a c).2.2=f:=by
  rcases hcs with ⟨h,_⟩|⟨_,h,hq⟩|⟨d,p,_,h,hp,_,hd,hq⟩
  ·exact absurd hh h
  ·exact⟨0,6,.inl ⟨rfl,prog_far hv han hcn (by omega) hh hq⟩,by rw[h],by rw[h]⟩
  ·refine⟨d,0,.inr ⟨rfl,?_⟩,by rw[h],by rw[h]⟩
   have:=prog_way hv han hcn (by omega) hh hp fun q hq'=>by rw[hd];exact hq q hq'
   rwa [hd] at this
 obtain⟨e1,e2⟩:=hmst
 first|refine WL.callK (hsl) ?_|refine WD.callK (hsl) ?_|refine LO.callM (hsl) ?_
 rintro _ _ _ ⟨ux,mx,uc,rfl,rfl,rfl⟩
 simp only[List.nil_append,List.cons_append]
 repeat'(first|refine gA ?_|(refine goG ?_;intro g)|(refine goV ?_;intro v)|refine goE ?_|(refine goEG ?_;intro g)|(refine goEV ?_;intro v)|refine goD ?_|refine goXD ?_|(refine goDG ?_;intro g)|(refine goDV ?_;intro v)|apply WD.more_of|refine WM.more (by exact rfl) (by exact rfl) (by exact rfl) ?_ ?_|refine WM.one (by exact rfl) (by exact rfl) (by exact rfl) ?_|refine WM.more0 (by exact rfl) (by exact rfl) ?_ ?_|refine WM.one0 (by exact rfl) (by exact rfl) ?_|(refine goLG ?_;intro g)|(refine goLV ?_;intro v)|refine goLS ?_|refine gY ?_|refine d10 ?_|fail)
 first|refine WL.callK (hmo) ?_|refine WD.callK (hmo) ?_|refine LO.callM (hmo) ?_
 rintro _ _ _ ⟨md,up,rfl,rfl,rfl⟩
 simp only[List.nil_append,List.cons_append]
 rw[e1,e2]
 repeat'(first|refine gA ?_|(refine goG ?_;intro g)|(refine goV ?_;intro v)|refine goE ?_|(refine goEG ?_;intro g)|(refine goEV ?_;intro v)|refine goD ?_|refine goXD ?_|(refine goDG ?_;intro g)|(refine goDV ?_;intro v)|apply WD.more_of|refine WM.more (by exact rfl) (by exact rfl) (by exact rfl) ?_ ?_|refine WM.one (by exact rfl) (by exact rfl) (by exact rfl) ?_|refine WM.more0 (by exact rfl) (by exact rfl) ?_ ?_|refine WM.one0 (by exact rfl) (by exact rfl) ?_|(refine goLG ?_;intro g)|(refine goLV ?_;intro v)|refine goLS ?_|refine gY ?_|refine d10 ?_|fail)
 revert g;intro g18
 first|refine WL.callK (hsx) ?_|refine WD.callK (hsx) ?_|refine LO.callM (hsx) ?_
 rintro _ _ _ ⟨A,k,xn,yn,x,y,z,rfl,rfl,rfl,hA,hx,hy,hz⟩
 simp only[List.nil_append,List.cons_append]
 refine WL.fact' (fF A.xv xn A.mx x) (W.Has.ax (M:=A) (xn:=xn) (yn:=yn) (x:=x) (y:=y) (z:=z) hmA) ?_
 refine WL.fact' (fF A.yv yn A.my y) (W.Has.ay (M:=A) (xn:=xn) (yn:=yn) (x:=x) (y:=y) (z:=z) hmA) ?_
 refine WL.fact' (isQ (qv A.mz) z) (W.Has.az (M:=A) (xn:=xn) (yn:=yn) (x:=x) (y:=y) (z:=z) hmA) ?_
 refine WL.fact' (fF ux n mx fun k=>wq 6 (vl xs k)) (W.Has.rF hmA hXl) ?_
 repeat'(first|refine gA ?_|(refine goG ?_;intro g)|(refine goV ?_;intro v)|refine goE ?_|(refine goEG ?_;intro g)|(refine goEV ?_;intro v)|refine goD ?_|refine goXD ?_|(refine goDG ?_;intro g)|(refine goDV ?_;intro v)|apply WD.more_of|refine WM.more (by exact rfl) (by exact rfl) (by exact rfl) ?_ ?_|refine WM.one (by exact rfl) (by exact rfl) (by exact rfl) ?_|refine WM.more0 (by exact rfl) (by exact rfl) ?_ ?_|refine WM.one0 (by exact rfl) (by exact rfl) ?_|(refine goLG ?_;intro g)|(refine goLV ?_;intro v)|refine goLS ?_|refine gY ?_|refine d10 ?_|fail)
 refine WC.lp (σ:=Nat) (fun i=>[(23,.int .i64 (i:Int)),(21,ptr g),(20,.int .i64 f),(18,ptr g18),(15,ux),(12,ptr g12)])
  (fun _=>[Ow.cells g 33 (acs A k),Ow.cells g18 31 (qcs md),Ow.cells g12 26 [.int .i64 (n:Int),(N.at so).lv,gv]])
  (fun _=>[fF ux n mx (fun k=>wq 6 (vl xs k)),isQ (qv A.mz) z,fF A.yv yn A.my y,fF A.xv xn A.mx x,fA A xn yn x y z,isQ (qv md) (wq 6 d),fLn (N.at so) n (bL n bs),ge h0]) (fun i=>i≤bs.length) (fun i=>bs.length - i) 0 (Nat.zero_le _) ?_
 intro i hi
 generalize N.at so=M at *
 by_cases ci:i < bs.length
 ·refine WC.fact (fF (M.av i) n (M.ma i) (X.ca (bL n bs) i)) (W.Has.lna (W.Has.lnq (M:=M) hmA) (by rw[hbn];exact ci)) ?_
  refine WC.fact (isQ (qv (M.mb i)) (X.cb (bL n bs) i)) (W.Has.lnb (W.Has.lnq (M:=M) hmA) (by rw[hbn];exact ci)) ?_
  have hca:∀ k,k < n→Sq 1 (X.ca (bL n bs) i k):=fun k hk=>hbl.ca (by rw[hbn];exact ci) hk
  have hxq:∀ k,k < n→Sq 1 (wq 6 (vl xs k)):=fun k _=>wq6_sq (by have:=hXw k;show(xs.getD k 0).natAbs < 1000000000;omega)
  have hdk:Dok n 1:=by unfold Dok;omega
  have hdot:=Z.dot_c (M.av i) ux n 1 (M.ma i) mx (X.ca (bL n bs) i) (fun k=>wq 6 (vl xs k)) (by omega) hdk hca hxq
  have hsm:=dot_sm hdk hca hxq
  have hle:=(bL_pt hv).1 (bL_int hv (g:=gT c a) hX) i ci
  rw[←bL_sm hv ci fun k=>wq 6 (vl xs k),←bL_cb (n:=n) ci] at hle
  have hcmp:=fun m=>Zn.cmp m (M.mb i) _ (X.cb (bL n bs) i) hsm ((hbl.cb (by rw[hbn];exact ci)).sm (by decide))
  generalize (X.sm n fun k=>X.ca (bL n bs) i k*wq 6 (vl xs k))=dt at *
  have hc0:=cmpQ_le hle
  repeat'(first|refine gA ?_|(refine goG ?_;intro g)|(refine goV ?_;intro v)|refine goE ?_|(refine goEG ?_;intro g)|(refine goEV ?_;intro v)|refine goD ?_|refine goXD ?_|(refine goDG ?_;intro g)|(refine goDV ?_;intro v)|apply WD.more_of|refine WM.more (by exact rfl) (by exact rfl) (by exact rfl) ?_ ?_|refine WM.one (by exact rfl) (by exact rfl) (by exact rfl) ?_|refine WM.more0 (by exact rfl) (by exact rfl) ?_ ?_|refine WM.one0 (by exact rfl) (by exact rfl) ?_|(refine goLG ?_;intro g)|(refine goLV ?_;intro v)|refine goLS ?_|refine gY ?_|refine d10 ?_|fail)
  first|refine WL.callK hdot ?_ (hF:=.cons hmA (.cons hmA .nil))|refine WD.callK hdot ?_ (hF:=.cons hmA (.cons hmA .nil))
  rintro _ _ _ ⟨m3,rfl,rfl,rfl⟩
  simp only[List.nil_append,List.cons_append]
  repeat'(first|refine gA ?_|(refine goG ?_;intro g)|(refine goV ?_;intro v)|refine goE ?_|(refine goEG ?_;intro g)|(refine goEV ?_;intro v)|refine goD ?_|refine goXD ?_|(refine goDG ?_;intro g)|(refine goDV ?_;intro v)|apply WD.more_of|refine WM.more (by exact rfl) (by exact rfl) (by exact rfl) ?_ ?_|refine WM.one (by exact rfl) (by exact rfl) (by exact rfl) ?_|refine WM.more0 (by exact rfl) (by exact rfl) ?_ ?_|refine WM.one0 (by exact rfl) (by exact rfl) ?_|(refine goLG ?_;intro g)|(refine goLV ?_;intro v)|refine goLS ?_|refine gY ?_|refine d10 ?_|fail)
  first|refine WL.callV (hcmp m3) ?_ (hF:=.cons (.f hmA) (.cons (.f hmA) .nil))|refine WD.callV (hcmp m3) ?_ (hF:=.cons (.f hmA) (.cons (.f hmA) .nil))
  repeat'(first|refine gA ?_|(refine goG ?_;intro g)|(refine goV ?_;intro v)|refine goE ?_|(refine goEG ?_;intro g)|(refine goEV ?_;intro v)|refine goD ?_|refine goXD ?_|(refine goDG ?_;intro g)|(refine goDV ?_;intro v)|apply WD.more_of|refine WM.more (by exact rfl) (by exact rfl) (by exact rfl) ?_ ?_|refine WM.one (by exact rfl) (by exact rfl) (by exact rfl) ?_|refine WM.more0 (by exact rfl) (by exact rfl) ?_ ?_|refine WM.one0 (by exact rfl) (by exact rfl) ?_|(refine goLG ?_;intro g)|(refine goLV ?_;intro v)|refine goLS ?_|refine gY ?_|refine d10 ?_|fail)
  exact LoopEnd.mk (i+1) ci (by show bs.length - (i+1) < bs.length - i;omega)
 obtain rfl:i=bs.length:=by omega
 rcases hk2 with ⟨rfl,hsem⟩|⟨rfl,hsem⟩
 ·obtain⟨hk,_⟩:=hA.sem.uniq hsem
  obtain rfl:k=2:=by omega
  repeat'(first|refine gA ?_|(refine goG ?_;intro g)|(refine goV ?_;intro v)|refine goE ?_|(refine goEG ?_;intro g)|(refine goEV ?_;intro v)|refine goD ?_|refine goXD ?_|(refine goDG ?_;intro g)|(refine goDV ?_;intro v)|apply WD.more_of|refine WM.more (by exact rfl) (by exact rfl) (by exact rfl) ?_ ?_|refine WM.one (by exact rfl) (by exact rfl) (by exact rfl) ?_|refine WM.more0 (by exact rfl) (by exact rfl) ?_ ?_|refine WM.one0 (by exact rfl) (by exact rfl) ?_|(refine goLG ?_;intro g)|(refine goLV ?_;intro v)|refine goLS ?_|refine gY ?_|refine d10 ?_|fail)
  first|refine WL.callV (hlv) ?_|refine WD.callV (hlv) ?_
  repeat'(first|refine gA ?_|(refine goG ?_;intro g)|(refine goV ?_;intro v)|refine goE ?_|(refine goEG ?_;intro g)|(refine goEV ?_;intro v)|refine goD ?_|refine goXD ?_|(refine goDG ?_;intro g)|(refine goDV ?_;intro v)|apply WD.more_of|refine WM.more (by exact rfl) (by exact rfl) (by exact rfl) ?_ ?_|refine WM.one (by exact rfl) (by exact rfl) (by exact rfl) ?_|refine WM.more0 (by exact rfl) (by exact rfl) ?_ ?_|refine WM.one0 (by exact rfl) (by exact rfl) ?_|(refine goLG ?_;intro g)|(refine goLV ?_;intro v)|refine goLS ?_|refine gY ?_|refine d10 ?_|fail)
  exact WC.ret (Fin.v (ResE.t1 rfl rfl) meA rfl)
 ·obtain⟨hk,rfl⟩:=hA.sem.uniq hsem
  obtain rfl:k=0:=by omega
  repeat'(first|refine gA ?_|(refine goG ?_;intro g)|(refine goV ?_;intro v)|refine goE ?_|(refine goEG ?_;intro g)|(refine goEV ?_;intro v)|refine goD ?_|refine goXD ?_|(refine goDG ?_;intro g)|(refine goDV ?_;intro v)|apply WD.more_of|refine WM.more (by exact rfl) (by exact rfl) (by exact rfl) ?_ ?_|refine WM.one (by exact rfl) (by exact rfl) (by exact rfl) ?_|refine WM.more0 (by exact rfl) (by exact rfl) ?_ ?_|refine WM.one0 (by exact rfl) (by exact rfl) ?_|(refine goLG ?_;intro g)|(refine goLV ?_;intro v)|refine goLS ?_|refine gY ?_|refine d10 ?_|fail)
  first|refine WL.callV (Zn.same A.mz md (wq 6 d) (wq 6 d)) ?_|refine WD.callV (Zn.same A.mz md (wq 6 d) (wq 6 d)) ?_
  rw[decide_eq_true (rfl:wq 6 d=wq 6 d)]
  repeat'(first|refine gA ?_|(refine goG ?_;intro g)|(refine goV ?_;intro v)|refine goE ?_|(refine goEG ?_;intro g)|(refine goEV ?_;intro v)|refine goD ?_|refine goXD ?_|(refine goDG ?_;intro g)|(refine goDV ?_;intro v)|apply WD.more_of|refine WM.more (by exact rfl) (by exact rfl) (by exact rfl) ?_ ?_|refine WM.one (by exact rfl) (by exact rfl) (by exact rfl) ?_|refine WM.more0 (by exact rfl) (by exact rfl) ?_ ?_|refine WM.one0 (by exact rfl) (by exact rfl) ?_|(refine goLG ?_;intro g)|(refine goLV ?_;intro v)|refine goLS ?_|refine gY ?_|refine d10 ?_|fail)
  first|refine WL.callV (hlv) ?_|refine WD.callV (hlv) ?_
  repeat'(first|refine gA ?_|(refine goG ?_;intro g)|(refine goV ?_;intro v)|refine goE ?_|(refine goEG ?_;intro g)|(refine goEV ?_;intro v)|refine goD ?_|refine goXD ?_|(refine goDG ?_;intro g)|(refine goDV ?_;intro v)|apply WD.more_of|refine WM.more (by exact rfl) (by exact rfl) (by exact rfl) ?_ ?_|refine WM.one (by exact rfl) (by exact rfl) (by exact rfl) ?_|refine WM.more0 (by exact rfl) (by exact rfl) ?_ ?_|refine WM.one0 (by exact rfl) (by exact rfl) ?_|(refine goLG ?_;intro g)|(refine goLV ?_;intro v)|refine goLS ?_|refine gY ?_|refine d10 ?_|fail)
  exact WC.ret (Fin.v (ResE.t1 rfl rfl) meA rfl)
end U.V.B
end Go.Proofs.YtaongbhamadlkaaGreat
namespace Go.Proofs.YtaongbhamadlkaaGreat
open Go.ChangeShapes Go.WideShapes Go.ChangeAt Go.RowKit
open W
def Ext (V1 V2:World):Prop:=∀ (k:Nat) (o:Obj),V1.heap[k]?=some o→V2.heap[k]?=some o
def Again {H:Type} (enc:TypeId×Value→H) (P:Program) (V1:World) (t:TypeId) (v:Value) (d:DataW H) (p:List MemPlace):Prop:=
 ∀ (V2:World) (sp:Nat→Bool),Ext V1 V2→(∀ q∈p,sp q.block=true)→DataW.Trod enc P V2 0 sp true t v d p
def AgainAll {H:Type} (enc:TypeId×Value→H) (P:Program) (V1:World) (ts:List TypeId) (vs:List Value) (ds:List (DataW H)) (p:List MemPlace):Prop:=
 ∀ (V2:World) (sp:Nat→Bool),Ext V1 V2→(∀ q∈p,sp q.block=true)→DataW.TrodAll enc P V2 0 sp true ts vs ds p
section
variable {H:Type} {enc:TypeId×Value→H} {P:Program} {V1:World}
theorem AgainAll.nil:AgainAll enc P V1 [] [] [] []:=fun _ _ _ _=>rfl
theorem AgainAll.cons {t:TypeId} {ts:List TypeId} {v:Value} {vs:List Value} {d:DataW H} {ds:List (DataW H)} {p q:List MemPlace} (h:Again enc P V1 t v d p) (h2:AgainAll enc P V1 ts vs ds q):AgainAll enc P V1 (t::ts) (v::vs) (d::ds) (p++q):=fun V2 sp he hs=>
 ⟨p,q,h V2 sp he fun x hx=>hs x (List.mem_append_left _ hx),h2 V2 sp he fun x hx=>hs x (List.mem_append_right _ hx),rfl⟩
theorem Ext.cell {V2:World} (h:Ext V1 V2) {a:Addr} {v:Value} (hc:V1.cell? a=some v):V2.cell? a=some v:=by
 unfold World.cell? at hc ⊢
 cases ho:V1.heap[a.block]? with
 |none=>rw[ho] at hc;cases hc
 |some o=>rw[h _ _ ho];rw[ho] at hc;exact hc
theorem arg_int {t:TypeId} {b0:Nat} {v:Value} {d:DataW H} {p:List MemPlace} (ht:P.underlying t=some (.int .i64)) (hv:Value.okWide P V1 .any b0 t v) (h:DataW.Trod enc P V1 0 (fun _=>true) true t v d p):∃ n,v=.int .i64 n∧I64 n∧Again enc P V1 t v d p:=by
 obtain⟨n,rfl,rfl,rfl,wa⟩:=open_int ht hv h
 refine⟨n,rfl,?_,fun V2 sp _ _=>shut_int ht wa⟩
 simp[Lit.wf,IntKind.min,IntKind.max,IntKind.signed,IntKind.bits] at wa
 unfold I64;omega
theorem arg_ints {t e:TypeId} {b0:Nat} {v:Value} {d:DataW H} {p:List MemPlace} (ht:P.underlying t=some (.slice e)) (he:P.underlying e=some (.int .i64)) (hc:P.cellsOf e=1) (hv:Value.okWide P V1 .any b0 t v) (h:DataW.Trod enc P V1 0 (fun _=>true) true t v d p) :
  ∃ l:List Int,(∀ x∈l,I64 x)∧(sI v l).p (fun k=>V1.heap[k]?)∧Again enc P V1 t v d p:=by
 obtain⟨fuel,hf⟩:=h
 have hval:=hv
 obtain⟨a0,len,cap,rfl⟩:=okWide_slice ht hv
 rcases open_ints ht he hc hf with ⟨hcs,hx⟩|⟨a,len',cap',zs,hcs,_,hl,hm,hz,hx,hcell,hwz⟩
 ·simp[Value.cells] at hcs
  obtain⟨rfl,rfl,rfl⟩:=hcs
  simp only[Prod.mk.injEq] at hx
  obtain⟨rfl,rfl⟩:=hx
  exact⟨[],by simp,⟨none,0,rfl,Nat.le_refl _,by simp[maxLen],.inl ⟨rfl,rfl,rfl⟩⟩,fun V2 sp _ _=>shut_slice_nil ht⟩
 ·simp[Value.cells] at hcs
  obtain⟨rfl,rfl,rfl⟩:=hcs
  simp only[Prod.mk.injEq] at hx
  obtain⟨rfl,rfl⟩:=hx
  simp only[if_true] at hz
  simp only[Value.okWide,ht,Cell.okWide,Cell.ok] at hval
  obtain⟨_,_,_,hsp,row,cells,hsh,_⟩:=hval
  obtain⟨b,off,spot⟩:=a
  simp only at hsp;subst hsp
  have hblk:∃ c el fz,V1.heap[b]?=some (.cells c el fz):=by
   unfold World.shape? at hsh
   simp only at hsh
   split at hsh
   ·rename_i c el fz hh;exact⟨c,el,fz,hh⟩
   ·cases hsh
  obtain⟨c,el,fz,hh⟩:=hblk
  have hlz:(zs.take len).length=len:=by simp;omega
  refine⟨zs.take len,fun x hx=>?_,?_,fun V2 sp hE hs=>?_⟩
  ·have wa:=hwz x (List.mem_of_mem_take hx)
   simp[Lit.wf,IntKind.min,IntKind.max,IntKind.signed,IntKind.bits] at wa
   unfold I64;omega
  ·show(slC _ (zs.take len).length 1 _).p _
   rw[hlz]
   refine⟨_,cap,rfl,hl,hm,.inr ⟨b,off,rfl,c,el,fz,hh,fun j hj=>?_⟩⟩
   have hcj:=hcell j (by omega)
   simp only[World.cell?,Addr.add_lit,hh] at hcj
   simp only[Option.isSome_none,Bool.false_eq_true,if_false] at hcj
   rw[hcj]
   simp only[List.getD_eq_getElem?_getD,List.getElem?_take]
   rw[if_pos (by omega)]
  ·by_cases hz0:zs.length=0
   ·have hc0:cap=0:=by omega
    have hl0:len=0:=by omega
    subst hc0;subst hl0
    have t0:=shut_ints (enc:=enc) (w:=V2) (base:=0) (spare:=sp) (held:=true) (a:=⟨b,off,none⟩) (len:=0) (cap:=0) (zs:=zs) 0 ht he hc (Nat.zero_le _) (Nat.le_refl _) hm (by simp[hz0]) (fun i hi=>by omega) hwz
    exact⟨2,by simpa [Value.cells] using t0⟩
   ·have hspb:sp b=true:=hs (.cell b off) (MemPlace.mem_row.2 ⟨0,by omega,by simp⟩)
    have t0:=shut_ints (enc:=enc) (w:=V2) (base:=0) (spare:=sp) (held:=true) (a:=⟨b,off,none⟩) (len:=len) (cap:=cap) (zs:=zs) 0 ht he hc (Nat.zero_le _) hl hm (by simp[hspb,hz]) (fun i hi=>hE.cell (hcell i hi)) hwz
    exact⟨2,by simpa [Value.cells] using t0⟩
theorem law_calls {f:FuncId} {args:List Value} {F:List Fct} (hf:FnB P f args [] F (IsV (.bool true))) (hF:∀ g∈F,g.p (fun k=>V1.heap[k]?)):Calls P f args.toArray V1 fun e V2=>e=.returned (.bool true)∧W.Rest V1 V2∧Ext V1 V2:=by
 have him:∀ H:Array Obj,imm (fun _=>none) [] H=fun k=>H[k]?:=fun H=>by funext k;simp[imm,ids]
 have ho:OK (fun _=>none) [] F V1:=⟨fun _ _ h=>(by cases h),fun _ _=>rfl,by simp[ids],by simp,fun g hg=>by rw[him];exact hF g hg⟩
 refine(hf.2 _ _ ho).mono fun e V2 hh=>?_
 obtain⟨v,b,G,h1,h2,h3,h4,h5⟩:=hh
 obtain⟨h6,h7,h8⟩:=h2
 subst h6 h7
 refine⟨h1,h3,fun k o hk=>?_⟩
 rw[him,him] at h4
 exact h4 k o hk
theorem post_law {f:Func} {s:ChangeSpec} {V2:World} {args:Array Value} {ds gs:List (DataW H)} {before:List MemPlace} {v:Value}
  (hW:DataW.Whole enc P f.params.toList s.vars false V1 args.toList ds gs before)
  (hres:∀ (b:Nat) (sp:Nat→Bool) (hd:Bool),DataW.TrodAll enc P V2 b sp hd f.resultTypes.toList (v.resultList f.resultTypes.size) (s.fn H (ds++gs)).results [])
  (hargs:∀ sp:Nat→Bool,(∀ p∈before,sp p.block=true)→DataW.TrodAll enc P V2 0 sp true f.params.toList args.toList (s.fn H (ds++gs)).args before)
  (hvars:∀ sp:Nat→Bool,DataW.TrodVars enc P V2 sp s.vars (s.fn H (ds++gs)).vars [])
  (hr:W.Rest V1 V2) (hE:Ext V1 V2)
  (hok:∀ (j:Nat) (t:TypeId) (r:Value),f.resultTypes[j]?=some t→(v.resultList f.resultTypes.size)[j]?=some r→Value.okWide P V2 .any 0 t r) :
  s.post enc P f false true false false V1 args v V2:=by
 have hold:∀ p∈before,(fun b=>decide (b < V1.heap.size)) p.block=true:=fun p hp=>by simpa using hW.lt p hp
 refine⟨ds,gs,before,[],before,[],hW,hres _ _ _,hargs _ hold,hvars _,⟨hr.os,hr.output,fun i hi=>?_⟩,fun h=>by cases h⟩
 have hk:=hE i V1.heap[i] (Array.getElem?_eq_getElem hi)
 rw[hk,Array.getElem?_eq_getElem hi]
 cases V1.heap[i] <;> simp
end
theorem Tryz.own:ownKnob Tryz.prog.godebug=none:=by kernel_rfl
end Go.Proofs.YtaongbhamadlkaaGreat
namespace Go.Proofs.YtaongbhamadlkaaGreat
open Go.ChangeShapes Go.WideShapes Go.ChangeAt Go.RowKit
open W
theorem Tryz.int3:Tryz.prog.underlying 3=some (.int .i64):=by kernel_rfl
theorem Tryz.sl22:Tryz.prog.underlying 22=some (.slice 3):=by kernel_rfl
theorem Tryz.bool4:Tryz.prog.underlying 4=some .bool:=by kernel_rfl
theorem Tryz.one3:Tryz.prog.cellsOf 3=1:=by kernel_rfl
set_option maxRecDepth 100000 in
theorem boundsProgram_lifted (os:Os) (started:os.Started) (H:Type) (enc:TypeId×Value→H) :
  ReturnsInHanded {} Tryz.checked os 10 .any (Rows.boundsProgramSpec.pre6 enc Tryz.prog Tryz.f10 Rows.boundsProgramRow.domain false) (Rows.boundsProgramSpec.post enc Tryz.prog Tryz.f10 false true false false):=by
 refine returnsInHanded_of_change (C:=Tryz.checked) Tryz.own started (by kernel_rfl) Tryz.func10
  (ChangeSpec.witness6 (enc:=enc) (C:=Tryz.checked) false ⟨#[],#[.slice none 0 0,.int .i64 0,.int .i64 0],[]⟩ 8 (by kernel_rfl) (by kernel_rfl) (by kernel_rfl) (by kernel_rfl)) ?_
 intro V1 base args ds gs before hval0 hW hcnd _
 have hval:∀ (j:Nat) t v,Tryz.f10.params[j]?=some t→args[j]?=some v→Value.okWide Tryz.prog V1 .any base t v:=hval0
 have hW':=hW
 obtain⟨p,q,hA0,hV,rfl,hfz,hnd⟩:=hW
 have hA:DataW.TrodAll enc Tryz.prog V1 0 (fun _=>true) true Tryz.f10.params.toList args.toList ds p:=hA0
 rw[Tryz.params10] at hA hval
 obtain⟨args⟩:=args
 obtain⟨v0,a1,d0,e1,p0,q1,rfl,rfl,rfl,h0,hA⟩:=trodAll_cons hA
 obtain⟨v1,a2,d1,e2,p1,q2,rfl,rfl,rfl,h1,hA⟩:=trodAll_cons hA
 obtain⟨v2,a3,d2,e3,p2,q3,rfl,rfl,rfl,h2,hA⟩:=trodAll_cons hA
 obtain⟨rfl,rfl,rfl⟩:=trodAll_nil hA
 obtain⟨rfl,rfl⟩:=trodVars_none hV
 obtain⟨l0,hl0,f0,g0⟩:=arg_ints Tryz.sl22 Tryz.int3 Tryz.one3 (hval 0 22 v0 rfl rfl) h0
 obtain⟨n1,rfl,hl1,g1⟩:=arg_int Tryz.int3 (hval 1 3 v1 rfl rfl) h1
 obtain⟨n2,rfl,hl2,g2⟩:=arg_int Tryz.int3 (hval 2 3 v2 rfl rfl) h2
 simp only[List.append_nil] at hW'
 refine(law_calls (U.V.B.programLaw_c J.lives_c v0 l0 n1 n2 hl0 hl1 hl2) (fun g hg=>?_)).mono fun e V2 hh2=>?_
 ·simp only[List.mem_cons,List.not_mem_nil,or_false] at hg
  subst hg
  exact f0
 ·obtain⟨he,hr,hE⟩:=hh2
  refine⟨_,he,post_law hW' (fun _ _ _=>trodAll_mk1 (shut_bool Tryz.bool4 _)) (fun sp hsp=>?_) (fun _=>rfl) hr hE (ok_one (by kernel_rfl) rfl (okWide_bool_mk Tryz.bool4 _))⟩
  have:=(AgainAll.cons g0 (AgainAll.cons g1 (AgainAll.cons g2 AgainAll.nil))) V2 sp hE (by simpa using hsp)
  simp only[List.append_nil] at this
  show DataW.TrodAll enc Tryz.prog V2 0 sp true Tryz.f10.params.toList _ _ _
  rw[Tryz.params10]
  exact this
theorem boundsProgram_holds:Rows.BoundsProgramSaid:=
 OpenClaim.holds_of_wide 10 Tryz.f10 rfl rfl rfl rfl rfl rfl rfl ⟨rfl,rfl,rfl,rfl,rfl⟩ rfl rfl rfl rfl rfl (by kernel_rfl) Tryz.func10 (by kernel_rfl)
  (of_decide_eq_true (by kernel_rfl)) (by unfold Func.isWrapper;first|(rw[if_pos (by decide +kernel)];kernel_rfl)|(rw[if_neg (by decide +kernel)];exact⟨rfl,rfl⟩))
  (fun os started H enc _=>boundsProgram_lifted os started H enc)
#print axioms boundsProgram_holds
end Go.Proofs.YtaongbhamadlkaaGreat
