/- Lemmas for the proof of a law: Contract of the model's begun. Conditions: none. -/
import Derived.Test.YtaongbhamadlkaaGreatCk12
import Derived.Test.YtaongbhamadlkaaGreatCk10
import Derived.Test.YtaongbhamadlkaaGreatCk11
set_option linter.unusedVariables false
set_option linter.unusedSimpArgs false
set_option linter.unusedSectionVars false
namespace Go.Proofs.YtaongbhamadlkaaGreat
open W Go.RowKit
theorem W.Has.rFapp {F:List Fct} {m w:Nat} {u:Value} {rv:Nat→Value} {ms:Nat→Nat→QM} {tq:Nat→Nat→Rat} {mu:Nat→QM} {q:Nat→Rat} (h:Has F (rF m w rv ms tq)) (h2:Has F (fF u w mu q)):Has F (rF (m+1) w (upd rv m u) (upd ms m mu) (upd tq m q)):=fun p hf=>by
 obtain⟨h3,h4⟩:=h p hf
 refine⟨fun j hj=>?_,fun j hj=>?_⟩
 ·by_cases c:j=m
  ·subst c;rw[upd_at,upd_at];exact(h2 p hf).1
  ·rw[upd_ne c,upd_ne c];exact h3 j (by omega)
 ·by_cases c:j=m
  ·subst c;rw[upd_at,upd_at];exact(h2 p hf).2
  ·rw[upd_ne c,upd_ne c];exact h4 j (by omega)
theorem W.Has.rF0 {F:List Fct} {w:Nat} {rv:Nat→Value} {ms:Nat→Nat→QM} {tq:Nat→Nat→Rat}:Has F (rF 0 w rv ms tq):=fun p hp=>⟨fun i hi=>absurd hi (Nat.not_lt_zero _),fun i hi=>absurd hi (Nat.not_lt_zero _)⟩
theorem rowB_eq {p:X.Lp} {vn m i:Nat} (hpv:p.v=vn) (hpm:p.m=m) (hi:i < m) {a:Nat→Rat} {b:Rat} (ha:p.a i=a) (hb:p.b i=b) {j:Nat} (hj:j < vn+vn+2*m+1) :
  upd (upd (qcatf (qcatf a vn (fun k=>-(a k))) (vn+vn) (fun _=>0)) (2*vn+i) 1) (vn+vn+2*m) b j=rowB p i j:=by
 subst hpv hpm ha hb
 unfold rowB X.Lp.n
 by_cases c:j=p.v+p.v+2*p.m
 ·rw[c,upd_at,if_neg (by omega),if_neg (by omega),if_neg (by omega)]
 rw[upd_ne c]
 by_cases c2:j=2*p.v+i
 ·rw[c2,upd_at,if_neg (by omega),if_neg (by omega),if_pos (by omega),if_pos rfl]
 rw[upd_ne c2]
 unfold qcatf
 by_cases c3:j < p.v
 ·rw[if_pos (by omega),if_pos c3,if_pos c3]
 by_cases c4:j < 2*p.v
 ·rw[if_pos (by omega),if_neg c3,if_neg c3,if_pos c4]
 ·rw[if_neg (by omega),if_neg c3,if_neg c4,if_pos (by omega),if_neg c2]
theorem rowB_sq {p:X.Lp} {K i:Nat} (hK:0 < K) (ha:∀ k,k < p.v→Sq K (p.a i k)) (hb:Sq K (p.b i)) (k:Nat):Sq K (rowB p i k):=by
 unfold rowB
 by_cases c1:k < p.v
 ·rw[if_pos c1];exact ha k c1
 by_cases c2:k < 2*p.v
 ·rw[if_neg c1,if_pos c2];exact(ha _ (by omega)).neg
 by_cases c3:k < p.n
 ·rw[if_neg c1,if_neg c2,if_pos c3]
  split
  ·exact X.sq_one.up hK
  ·exact Sq.zero.up hK
 ·rw[if_neg c1,if_neg c2,if_neg c3];exact hb
theorem LoopEndZ.freezeF {σ:Type} {E:σ→Env} {B:σ→List Ow} {G:σ→List Fct} {I:σ→Prop} {μ:σ→Nat} {s:σ} {e':Env} {bx bx':List Ow} {F:List Fct} {el:Nat} (v:Value) (n:Nat) (ms:Nat→QM) (q:Nat→Rat) (hs:Sel bx (.slice v el 4 (qcells n ms)) (.slice (.slice none 0 0) el 4 []) bx') (hm:Has F (mF n ms q))
  (h:LoopEndZ E B G I μ s e' bx' (fF v n ms q::F)):LoopEndZ E B G I μ s e' bx F:=by
 obtain⟨b2,F2,h1,h2⟩:=h
 exact⟨b2,F2,fun fr w ho=>h1 fr w (okF ho hs hm),h2⟩
theorem upd_self {α:Type} {f:Nat→α} {n:Nat} {c:α} (h:f n=c):upd f n c=f:=funext fun k=>by
 by_cases e:k=n
 ·subst e;rw[upd_at,h]
 ·rw[upd_ne e]
namespace U
open Z
attribute [local irreducible] WC WL WD YO LO LoopEnd W.Fin Scalar SliceT FieldAt Row ArrT AllocT KnS Has W.One SrcE IntT
theorem d71 {G G':Prop} (h:G') (s:Bx G'→G:=by
 intro h
 first|(apply WC.draw (id:=7) [1,2,4,5] (.held 1 (.held 2 (.held 4 (.held 5 (.loud 0 (.loud 3 (.loud 6 (.loud 7 (.loud 8 (.done)))))))))) mixed (by kernel_rfl))|(apply WC.draw (id:=9) [0,1,2,3,4,5] (.held 0 (.held 1 (.held 2 (.held 3 (.held 4 (.held 5 (.loud 6 (.loud 7 (.loud 8 (.done)))))))))) mixed (by kernel_rfl))|fail
 exact Bx.h h):G:=s ⟨h⟩
set_option maxHeartbeats 8000000 in
set_option maxRecDepth 60000 in
theorem begun_c (M:Pm) (vn K:Nat) (L:List X.Ln) (gf:Nat→Rat) (hv:0 < vn) (hv2:vn≤48) (hm:L.length≤128) (hK0:0 < K) (hK:K≤400000000) (hL:LSq K vn L) :
  FnB Tryz.prog 71 [pgv M vn] [] [fP M (X.lpOf vn L gf)] (IsBg (X.lpOf vn L gf)):=by
 refine fn_of [(0,(pgv M vn))] 92 Tryz.func71 rfl Tryz.ntmps71 (by kernel_rfl) rfl suA fun h0=>?_
 refine WC.fact (fLn M vn L) (W.Has.pL (g:=gf) hmA) ?_
 refine WC.fact (isQ (qv m00) 0) hasQ0 ?_
 refine WC.addNil 3 1 ?_
 refine WC.addNil 24 1 ?_
 repeat'(first|refine gA ?_|(refine goG ?_;intro g)|(refine goV ?_;intro v)|refine goE ?_|(refine goEG ?_;intro g)|(refine goEV ?_;intro v)|refine goD ?_|refine goXD ?_|(refine goDG ?_;intro g)|(refine goDV ?_;intro v)|refine gY ?_|refine d71 ?_|fail)
 rename_i g1
 revert g;intro g4
 generalize hp:X.lpOf vn L gf=p
 have hpv:p.v=vn:=by rw[←hp];rfl
 have hpm:p.m=L.length:=by rw[←hp];rfl
 have hpn:p.n=vn+vn+2*L.length:=by unfold X.Lp.n;rw[hpv,hpm];omega
 have hpl:p.la=2*vn+L.length:=by unfold X.Lp.la;rw[hpv,hpm]
 have hpa:∀ i,p.a i=X.ca L i:=fun i=>by rw[←hp];rfl
 have hpb:∀ i,p.b i=X.cb L i:=fun i=>by rw[←hp];rfl
 refine WC.lpZ (σ:=Nat×Value×Value×(Nat→Value)×(Nat→Nat→QM)) (fun st=>[(5,.int .i64 (st.1:Int)),(4,ptr g4),(3,.int .i64 (L.length:Int)),(1,ptr g1)])
  (fun st=>[Ow.cells g4 107 [st.2.1,.slice none 0 0,st.2.2.1],Ow.cells g1 26 (pcs M vn),Ow.slice st.2.1 24 1 (fnV st.1 st.2.2.2.1),Ow.slice st.2.2.1 3 1 (ints (fnL st.1 p.s0.b))])
  (fun st=>[rF st.1 (vn+vn+2*L.length+1) st.2.2.2.1 st.2.2.2.2 p.A,fLn M vn L,isQ (qv m00) 0,ge h0]) (fun st=>st.1≤L.length) (fun st=>L.length - st.1) (0,.slice none 0 0,.slice none 0 0,fun _=>.slice none 0 0,fun _ _=>m00) (Nat.zero_le _) ?_
  (hG:=.cons W.Has.rF0 sfA)
 rintro⟨i,tv,bv,rv,ms⟩ hi
 simp only at hi ⊢
 by_cases c:i < L.length
 ·refine WC.fact (fF (M.av i) vn (M.ma i) (X.ca L i)) (W.Has.lna (W.Has.lnq (M:=M) hmA) c) ?_
  refine WC.fact (isQ (qv (M.mb i)) (X.cb L i)) (W.Has.lnb (W.Has.lnq (M:=M) hmA) c) ?_
  repeat'(first|refine gA ?_|(refine goG ?_;intro g)|(refine goV ?_;intro v)|refine goE ?_|(refine goEG ?_;intro g)|(refine goEV ?_;intro v))
  revert g;intro g6
  refine WC.cutP (σ:=Value×Value×(Nat→QM)) (fun st=>[(7,st.1),(6,ptr g6),(5,.int .i64 (i:Int)),(4,ptr g4),(3,.int .i64 (L.length:Int)),(1,ptr g1)])
   (fun st=>[Ow.slice st.1 31 4 (qcells (vn+vn) (qcat (M.ma i) vn st.2.2)),Ow.cells g6 60 (M.av i::qcs (M.mb i)),Ow.cells g4 107 [tv,.slice none 0 0,bv],Ow.cells g1 26 (pcs M vn),Ow.slice tv 24 1 (fnV i rv),Ow.slice bv 3 1 (ints (fnL i p.s0.b))])
   (fun st=>[fF st.2.1 vn st.2.2 (fun k=>-(X.ca L i k)),fF (M.av i) vn (M.ma i) (X.ca L i),isQ (qv (M.mb i)) (X.cb L i),rF i (vn+vn+2*L.length+1) rv ms p.A,fLn M vn L,isQ (qv m00) 0,ge h0]) (fun _=>True) ?_ ?_
  ·have hng:=negated_f (M.av i) vn (M.ma i) (X.ca L i) (by omega) (fun k hk=>(hL.ca c hk).sm (by omega))
   repeat'(first|refine gA ?_|(refine goG ?_;intro g)|(refine goV ?_;intro v)|refine goE ?_|(refine goEG ?_;intro g)|(refine goEV ?_;intro v)|refine goD ?_|refine goXD ?_|(refine goDG ?_;intro g)|(refine goDV ?_;intro v)|refine gY ?_|refine d71 ?_|fail|((first|refine WL.callK (hv:=?hvQ) (hng) ?_|refine WD.callK (hv:=?hvQ) (hng) ?_|refine LO.callM (hv:=?hvQ) (hng) ?_);(case hvQ=>((repeat(first|exact Evs.nil|(apply Evs.cons;exact rfl)));done));rintro _ _ _ ⟨_,rfl,rfl⟩;simp only[List.nil_append,List.cons_append])|fail)
   all_goals(apply Ex3;refine⟨trivial,?_,?_,?_⟩;(focus(repeat(first|exact Sub.nil _|refine Sub.cons rfl ?_)));(focus(repeat(first|exact SubP.nil _|(apply SubP.cons;(repeat(first|exact Rem.head|apply Rem.tail))))));(focus(repeat(first|exact HasAll.nil|(apply HasAll.cons;exact hsA)))))
  rintro⟨v7,vu,mu⟩ -
  simp only
  refine WC.fact (mF (vn+vn) (qcat (M.ma i) vn mu) (qcatf (X.ca L i) vn (fun k=>-(X.ca L i k)))) (W.Has.mFcat (W.Has.fm (v:=M.av i) (ms:=M.ma i) hmA) (W.Has.fm (v:=vu) (ms:=mu) hmA)) ?_
  refine WC.fact (mF (vn+vn+2*L.length) (qcat (qcat (M.ma i) vn mu) (vn+vn) (fun _=>m00)) (qcatf (qcatf (X.ca L i) vn (fun k=>-(X.ca L i k))) (vn+vn) (fun _=>0))) (W.Has.mFcat hmA (W.Has.mF0 _)) ?_
  have en:(2*(vn:Int)+(i:Int)).toNat=2*vn+i:=by omega
  repeat'(first|refine gA ?_|(refine goG ?_;intro g)|(refine goV ?_;intro v)|refine goE ?_|(refine goEG ?_;intro g)|(refine goEV ?_;intro v)|refine goD ?_|refine goXD ?_|(refine goDG ?_;intro g)|(refine goDV ?_;intro v)|refine gY ?_|refine d71 ?_|fail)
  first|refine WL.callK (Zn.rof 1 1 (by decide) (by decide)) ?_|refine WD.callK (Zn.rof 1 1 (by decide) (by decide)) ?_|refine LO.callM (Zn.rof 1 1 (by decide) (by decide)) ?_
  rintro _ _ _ ⟨m1,rfl,rfl,rfl⟩
  simp only[List.nil_append,List.cons_append]
  rw[show Rat.divInt 1 1=1 by decide +kernel]
  repeat'(first|refine gA ?_|(refine goG ?_;intro g)|(refine goV ?_;intro v)|refine goE ?_|(refine goEG ?_;intro g)|(refine goEV ?_;intro v)|refine goD ?_|refine goXD ?_|(refine goDG ?_;intro g)|(refine goDV ?_;intro v)|refine gY ?_|refine d71 ?_|fail)
  first|refine WL.callV (Zn.rsign (M.mb i) (X.cb L i)) ?_|refine WD.callV (Zn.rsign (M.mb i) (X.cb L i)) ?_
  have hngb:=@sgn_neg (X.cb L i)
  refine WL.fact' (mF (vn+vn+2*L.length+1) (upd (upd (qcat (qcat (M.ma i) vn mu) (vn+vn) (fun _=>m00)) (2*(vn:Int)+(i:Int)).toNat m1) (vn+vn+2*L.length) (M.mb i)) (rowB p i)) (by
   rw[en]
   exact((W.Has.mFset (k:=2*vn+i) (ms:=qcat (qcat (M.ma i) vn mu) (vn+vn) (fun _=>m00)) (m:=m1) (z:=1) hmA hmA).mFapp (m:=M.mb i) (z:=X.cb L i) hmA).mFsame fun j hj=>rowB_eq hpv hpm c (hpa i) (hpb i) hj) ?_
  generalize upd (upd (qcat (qcat (M.ma i) vn mu) (vn+vn) (fun _=>m00)) (2*(vn:Int)+(i:Int)).toNat m1) (vn+vn+2*L.length) (M.mb i)=mr at *
  revert v;intro vr
  refine WL.freezeF vr (vn+vn+2*L.length+1) mr (rowB p i) (by repeat(first|exact Sel.head|apply Sel.tail)) hmA ?_
  by_cases cb:X.cb L i < 0
  ·have cb':=hngb.2 cb
   have hb0:p.s0.b i=2*vn+L.length+i:=by
    show(if p.b i < 0 then p.la+i else 2*p.v+i)=_
    rw[hpb,if_pos cb,hpl]
   have hrs:∀ k,Sq K (rowB p i k):=rowB_sq hK0 (fun k hk=>by rw[hpa];rw[hpv] at hk;exact hL.ca c hk) (by rw[hpb];exact hL.cb c)
   have en2:(2*(vn:Int)+(L.length:Int)+(i:Int)).toNat=p.la+i:=by rw[hpl];omega
   repeat'(first|refine gA ?_|(refine goG ?_;intro g)|(refine goV ?_;intro v)|refine goE ?_|(refine goEG ?_;intro g)|(refine goEV ?_;intro v)|refine goD ?_|refine goXD ?_|(refine goDG ?_;intro g)|(refine goDV ?_;intro v)|refine gY ?_|refine d71 ?_|fail)
   refine WL.callK (negated_o vr (vn+vn+2*L.length+1) mr (rowB p i) (by omega) (fun k _=>(hrs k).sm (by omega))) ?_
   rintro vn2 _ _ ⟨mn2,rfl,rfl⟩
   simp only[List.nil_append,List.cons_append]
   repeat'(first|refine gA ?_|(refine goG ?_;intro g)|(refine goV ?_;intro v)|refine goE ?_|(refine goEG ?_;intro g)|(refine goEV ?_;intro v)|refine goD ?_|refine goXD ?_|(refine goDG ?_;intro g)|(refine goDV ?_;intro v)|refine gY ?_|refine d71 ?_|fail)
   first|refine WL.callK (Zn.rof 1 1 (by decide) (by decide)) ?_|refine WD.callK (Zn.rof 1 1 (by decide) (by decide)) ?_|refine LO.callM (Zn.rof 1 1 (by decide) (by decide)) ?_
   rintro _ _ _ ⟨m2,rfl,rfl,rfl⟩
   simp only[List.nil_append,List.cons_append]
   rw[show Rat.divInt 1 1=1 by decide +kernel]
   repeat'(first|refine gA ?_|(refine goG ?_;intro g)|(refine goV ?_;intro v)|refine goE ?_|(refine goEG ?_;intro g)|(refine goEV ?_;intro v)|refine goD ?_|refine goXD ?_|(refine goDG ?_;intro g)|(refine goDV ?_;intro v)|refine gY ?_|refine d71 ?_|fail)
   rw[upd_self hb0]
   refine LoopEndZ.freezeF vn2 (vn+vn+2*L.length+1) (upd mn2 (2*(vn:Int)+(L.length:Int)+(i:Int)).toNat m2) (p.A i) (by repeat(first|exact Sel.head|apply Sel.tail)) (by
    rw[en2]
    exact(W.Has.mFset (k:=p.la+i) (ms:=mn2) (m:=m2) (z:=1) (qf:=fun k=>-(rowB p i k)) hmA hmA).mFsame fun k hk=>rowB_neg (by omega) (by rw[hpb];exact cb) (by omega)) ?_
   rename_i tv' _
   exact .of (LoopEnd.mk (i+1,tv',v,upd rv i vn2,upd ms i _) (by show i+1≤L.length;omega) (by show L.length - (i+1) < L.length - i;omega) (hG:=.cons ((W.Has.rFapp (m:=i) (rv:=rv) (ms:=ms) (tq:=p.A) (u:=vn2) (mu:=_) (q:=p.A i) hmA hmA).rFsame fun r _ k _=>by
    by_cases e:r=i
    ·subst e;rw[upd_at]
    ·rw[upd_ne e]) sfA))
  ·have cb':¬sgn (X.cb L i).num < 0:=fun h=>cb (hngb.1 h)
   have hb0:p.s0.b i=2*vn+i:=by
    show(if p.b i < 0 then p.la+i else 2*p.v+i)=_
    rw[hpb,if_neg cb,hpv]
   refine WL.fact' (fF vr (vn+vn+2*L.length+1) mr (p.A i)) (W.Has.fFsame (q:=rowB p i) hmA fun k hk=>rowB_pos (by omega) (by rw[hpb];exact cb) (by omega)) ?_
   repeat'(first|refine gA ?_|(refine goG ?_;intro g)|(refine goV ?_;intro v)|refine goE ?_|(refine goEG ?_;intro g)|(refine goEV ?_;intro v)|refine goD ?_|refine goXD ?_|(refine goDG ?_;intro g)|(refine goDV ?_;intro v)|refine gY ?_|refine d71 ?_|fail)
   rw[upd_self hb0]
   rename_i tv' _
   exact .of (LoopEnd.mk (i+1,tv',v,upd rv i vr,upd ms i mr) (by show i+1≤L.length;omega) (by show L.length - (i+1) < L.length - i;omega) (hG:=.cons ((W.Has.rFapp (m:=i) (rv:=rv) (ms:=ms) (tq:=p.A) (u:=vr) (mu:=mr) (q:=p.A i) hmA hmA).rFsame fun r _ k _=>by
    by_cases e:r=i
    ·subst e;rw[upd_at]
    ·rw[upd_ne e]) sfA))
 ·obtain rfl:i=L.length:=by omega
  repeat'(first|refine gA ?_|(refine goG ?_;intro g)|(refine goV ?_;intro v)|refine goE ?_|(refine goEG ?_;intro g)|(refine goEV ?_;intro v)|refine goD ?_|refine goXD ?_|(refine goDG ?_;intro g)|(refine goDV ?_;intro v)|refine gY ?_|refine d71 ?_|fail)
  exact WC.ret (Fin.p (RT g4 p.m tv (.slice none 0 0) bv rv p.s0.b) [rF p.m (p.n+1) rv ms p.A] (ResE.t1 rfl rfl) meA (by rw[hpm];exact slA) (by rw[hpm,hpn];exact haA) ⟨_,_,_,_,_,rfl,rfl,rfl⟩)
end U
end Go.Proofs.YtaongbhamadlkaaGreat
namespace Go.Proofs.YtaongbhamadlkaaGreat
open W Go.RowKit
namespace U
open Z
attribute [local irreducible] WC WL WD YO LO LoopEnd W.Fin Scalar SliceT FieldAt Row ArrT AllocT KnS Has W.One SrcE IntT
theorem d136 {G G':Prop} (h:G') (s:Bx G'→G:=by
 intro h
 first|(apply WC.draw (id:=7) [0,1,2,3,4,5,6,7,8,9,10,11,12,13,14,15,16,17] (.held 0 (.held 1 (.held 2 (.held 3 (.held 4 (.held 5 (.held 6 (.held 7 (.held 8 (.held 9 (.held 10 (.held 11 (.held 12 (.held 13 (.held 14 (.held 15 (.held 16 (.held 17 (.loud 18 (.done)))))))))))))))))))) mixed (by kernel_rfl))|fail
 exact Bx.h h):G:=s ⟨h⟩
set_option maxHeartbeats 8000000 in
set_option maxRecDepth 60000 in
theorem rnow_c (xg m n k:Nat) (tv cv bv:Value) (rv:Nat→Value) (ms:Nat→Nat→QM) (s:X.St) (hm:m≤1000) (hn:n≤9000) :
  FnB Tryz.prog 136 [ptr xg,.int .i64 (k:Int),.int .i64 (-1)] [] (RTF xg m n tv cv bv rv ms s) (IsR (nowV m n s k)):=by
 refine fn_of [(0,(ptr xg)),(1,(.int .i64 (k:Int))),(2,(.int .i64 (-1)))] 73 Tryz.func136 rfl Tryz.ntmps136 (by kernel_rfl) rfl suA fun h0=>?_
 have en:(((n+1:Nat):Int) - 1).toNat=n:=by omega
 have hk1:¬(k:Int)= -1:=by omega
 repeat'(first|refine gA ?_|(refine goG ?_;intro g)|(refine goV ?_;intro v)|refine goE ?_|(refine goEG ?_;intro g)|(refine goEV ?_;intro v)|refine goD ?_|refine goXD ?_|(refine goDG ?_;intro g)|(refine goDV ?_;intro v)|refine d136 ?_|fail)
 revert g;intro g6
 refine WC.lp (σ:=Nat) (fun i=>[(7,.int .i64 (i:Int)),(6,ptr g6),(0,ptr xg),(1,.int .i64 (k:Int)),(2,.int .i64 (-1))]) (fun _=>[Ow.cells g6 31 (qcs m00)])
  (fun _=>ge h0::RTF xg m n tv cv bv rv ms s) (fun i=>i≤m∧X.fstT (fun i=>decide (s.b i=k)) m 0=X.fstT (fun i=>decide (s.b i=k)) (m - i) i) (fun i=>m - i) 0 ⟨Nat.zero_le _,rfl⟩ ?_
 rintro i ⟨hi,hf⟩
 by_cases c:i < m
 ·rw[fstT_at c] at hf
  refine WC.fact (fF (rv i) (n+1) (ms i) (s.t i)) (W.Has.tr (m:=m) hmA c) ?_
  refine WC.fact (isQ (qv (ms i (((n+1:Nat):Int) - 1).toNat)) (s.t i n)) (by rw[en];exact W.Has.q (W.Has.fm (v:=rv i) (ms:=ms i) hmA) (by omega)) ?_
  by_cases cb:s.b i=k
  ·rw[if_pos (decide_eq_true cb)] at hf
   have e:nowV m n s k=s.t i n:=by unfold nowV;rw[hf]
   rw[e]
   have cb2:(s.b i:Int)=k:=by omega
   repeat'(first|refine gA ?_|(refine goG ?_;intro g)|(refine goV ?_;intro v)|refine goE ?_|(refine goEG ?_;intro g)|(refine goEV ?_;intro v)|refine goD ?_|refine goXD ?_|(refine goDG ?_;intro g)|(refine goDV ?_;intro v)|refine d136 ?_|fail)
   all_goals refine WC.ret ?_
   all_goals exact Fin.p [] [isQ (qv (ms i (((n+1:Nat):Int) - 1).toNat)) (s.t i n)] (ResE.cV rfl rfl meA T.r31 rfl) meA (List.nil_sublist _) haA ⟨_,rfl,rfl,rfl⟩
  ·rw[if_neg (by simpa using cb)] at hf
   have cb2:¬(s.b i:Int)=k:=by omega
   repeat'(first|refine gA ?_|(refine goG ?_;intro g)|(refine goV ?_;intro v)|refine goE ?_|(refine goEG ?_;intro g)|(refine goEV ?_;intro v)|refine goD ?_|refine goXD ?_|(refine goDG ?_;intro g)|(refine goDV ?_;intro v)|refine d136 ?_|fail)
   exact LoopEnd.mk (i+1) ⟨c,hf⟩ (by show m - (i+1) < m - i;omega)
 ·obtain rfl:i=m:=by omega
  rw[Nat.sub_self] at hf
  have e:nowV i n s k=0:=by unfold nowV;rw[hf];rfl
  rw[e]
  repeat'(first|refine gA ?_|(refine goG ?_;intro g)|(refine goV ?_;intro v)|refine goE ?_|(refine goEG ?_;intro g)|(refine goEV ?_;intro v)|refine goD ?_|refine goXD ?_|(refine goDG ?_;intro g)|(refine goDV ?_;intro v)|refine d136 ?_|fail)
  refine WC.ret ?_
  exact Fin.p [] [isQ (qv m00) 0] (ResE.cV rfl rfl meA T.r31 rfl) meA (List.nil_sublist _) (.cons hasQ0 .nil) ⟨m00,rfl,rfl,rfl⟩
set_option maxHeartbeats 8000000 in
set_option maxRecDepth 60000 in
theorem rray_c (xg m n k col:Nat) (tv cv bv:Value) (rv:Nat→Value) (ms:Nat→Nat→QM) (s:X.St) (hm:m≤1000) (hn:n≤9000) (hc:col < n) :
  FnB Tryz.prog 136 [ptr xg,.int .i64 (k:Int),.int .i64 (col:Int)] [] (RTF xg m n tv cv bv rv ms s) (IsR (rayV m s col k)):=by
 refine fn_of [(0,(ptr xg)),(1,(.int .i64 (k:Int))),(2,(.int .i64 (col:Int)))] 73 Tryz.func136 rfl Tryz.ntmps136 (by kernel_rfl) rfl suA fun h0=>?_
 by_cases ck:k=col
 ·have e:rayV m s col k=1:=by unfold rayV;rw[if_pos ck]
  rw[e]
  have ck2:(k:Int)=col:=by omega
  repeat'(first|refine gA ?_|(refine goG ?_;intro g)|(refine goV ?_;intro v)|refine goE ?_|(refine goEG ?_;intro g)|(refine goEV ?_;intro v)|refine goD ?_|refine goXD ?_|(refine goDG ?_;intro g)|(refine goDV ?_;intro v)|refine d136 ?_|fail)
  first|refine WL.callK (Zn.rof 1 1 (by decide) (by decide)) ?_|refine WD.callK (Zn.rof 1 1 (by decide) (by decide)) ?_|refine LO.callM (Zn.rof 1 1 (by decide) (by decide)) ?_
  rintro _ _ _ ⟨m1,rfl,rfl,rfl⟩
  simp only[List.nil_append,List.cons_append]
  rw[show Rat.divInt 1 1=1 by decide +kernel]
  repeat'(first|refine gA ?_|(refine goG ?_;intro g)|(refine goV ?_;intro v)|refine goE ?_|(refine goEG ?_;intro g)|(refine goEV ?_;intro v)|refine goD ?_|refine goXD ?_|(refine goDG ?_;intro g)|(refine goDV ?_;intro v)|refine d136 ?_|fail)
  refine WC.ret ?_
  exact Fin.p [] [isQ (qv m1) 1] (ResE.cV rfl rfl meA T.r31 rfl) meA (List.nil_sublist _) haA ⟨m1,rfl,rfl,rfl⟩
 have ck2:¬(k:Int)=col:=by omega
 repeat'(first|refine gA ?_|(refine goG ?_;intro g)|(refine goV ?_;intro v)|refine goE ?_|(refine goEG ?_;intro g)|(refine goEV ?_;intro v)|refine goD ?_|refine goXD ?_|(refine goDG ?_;intro g)|(refine goDV ?_;intro v)|refine d136 ?_|fail)
 revert g;intro g6
 refine WC.lp (σ:=Nat) (fun i=>[(7,.int .i64 (i:Int)),(6,ptr g6),(0,ptr xg),(1,.int .i64 (k:Int)),(2,.int .i64 (col:Int))]) (fun _=>[Ow.cells g6 31 (qcs m00)])
  (fun _=>ge h0::RTF xg m n tv cv bv rv ms s) (fun i=>i≤m∧X.fstT (fun i=>decide (s.b i=k)) m 0=X.fstT (fun i=>decide (s.b i=k)) (m - i) i) (fun i=>m - i) 0 ⟨Nat.zero_le _,rfl⟩ ?_
 rintro i ⟨hi,hf⟩
 by_cases c:i < m
 ·rw[fstT_at c] at hf
  refine WC.fact (fF (rv i) (n+1) (ms i) (s.t i)) (W.Has.tr (m:=m) hmA c) ?_
  refine WC.fact (isQ (qv (ms i col)) (s.t i col)) (W.Has.q (W.Has.fm (v:=rv i) (ms:=ms i) hmA) (by omega)) ?_
  by_cases cb:s.b i=k
  ·rw[if_pos (decide_eq_true cb)] at hf
   have e:rayV m s col k= -(s.t i col):=by unfold rayV;rw[if_neg ck,hf]
   rw[e]
   have cb2:(s.b i:Int)=k:=by omega
   repeat'(first|refine gA ?_|(refine goG ?_;intro g)|(refine goV ?_;intro v)|refine goE ?_|(refine goEG ?_;intro g)|(refine goEV ?_;intro v)|refine goD ?_|refine goXD ?_|(refine goDG ?_;intro g)|(refine goDV ?_;intro v)|refine d136 ?_|fail)
   first|refine WL.callK (Zn.rneg (ms i col) (s.t i col)) ?_|refine WD.callK (Zn.rneg (ms i col) (s.t i col)) ?_|refine LO.callM (Zn.rneg (ms i col) (s.t i col)) ?_
   rintro _ _ _ ⟨m1,rfl,rfl,rfl⟩
   simp only[List.nil_append,List.cons_append]
   repeat'(first|refine gA ?_|(refine goG ?_;intro g)|(refine goV ?_;intro v)|refine goE ?_|(refine goEG ?_;intro g)|(refine goEV ?_;intro v)|refine goD ?_|refine goXD ?_|(refine goDG ?_;intro g)|(refine goDV ?_;intro v)|refine d136 ?_|fail)
   refine WC.ret ?_
   exact Fin.p [] [isQ (qv m1) (-(s.t i col))] (ResE.cV rfl rfl meA T.r31 rfl) meA (List.nil_sublist _) haA ⟨m1,rfl,rfl,rfl⟩
  ·rw[if_neg (by simpa using cb)] at hf
   have cb2:¬(s.b i:Int)=k:=by omega
   repeat'(first|refine gA ?_|(refine goG ?_;intro g)|(refine goV ?_;intro v)|refine goE ?_|(refine goEG ?_;intro g)|(refine goEV ?_;intro v)|refine goD ?_|refine goXD ?_|(refine goDG ?_;intro g)|(refine goDV ?_;intro v)|refine d136 ?_|fail)
   exact LoopEnd.mk (i+1) ⟨c,hf⟩ (by show m - (i+1) < m - i;omega)
 ·obtain rfl:i=m:=by omega
  rw[Nat.sub_self] at hf
  have e:rayV i s col k=0:=by unfold rayV;rw[if_neg ck,hf];rfl
  rw[e]
  repeat'(first|refine gA ?_|(refine goG ?_;intro g)|(refine goV ?_;intro v)|refine goE ?_|(refine goEG ?_;intro g)|(refine goEV ?_;intro v)|refine goD ?_|refine goXD ?_|(refine goDG ?_;intro g)|(refine goDV ?_;intro v)|refine d136 ?_|fail)
  refine WC.ret ?_
  exact Fin.p [] [isQ (qv m00) 0] (ResE.cV rfl rfl meA T.r31 rfl) meA (List.nil_sublist _) (.cons hasQ0 .nil) ⟨m00,rfl,rfl,rfl⟩
end U
end Go.Proofs.YtaongbhamadlkaaGreat
namespace Go.Proofs.YtaongbhamadlkaaGreat
open W Go.RowKit
namespace U
open Z
attribute [local irreducible] WC WL WD YO LO LoopEnd W.Fin Scalar SliceT FieldAt Row ArrT AllocT KnS Has W.One SrcE IntT
set_option maxHeartbeats 8000000 in
set_option maxRecDepth 60000 in
theorem rpoint_c (xg m n vn K:Nat) (tv cv bv:Value) (rv:Nat→Value) (ms:Nat→Nat→QM) (s:X.St) (col:Int) (q:Nat→Rat) (hv:vn≤1000) (hK:K≤190000000)
  (hc:∀ k:Nat,k < 2*vn→FnB Tryz.prog 136 [ptr xg,.int .i64 (k:Int),.int .i64 col] [] (RTF xg m n tv cv bv rv ms s) (IsR (q k))) (hq:∀ k,k < 2*vn→Sq K (q k)) :
  FnB Tryz.prog 75 [ptr xg,.int .i64 (vn:Int),.int .i64 col] [] (RTF xg m n tv cv bv rv ms s) (IsF vn fun k=>q k - q (vn+k)):=by
 refine fn_of [(0,(ptr xg)),(1,(.int .i64 (vn:Int))),(2,(.int .i64 col))] 29 Tryz.func75 rfl Tryz.ntmps75 (by kernel_rfl) rfl suA fun h0=>?_
 refine WC.addNil 31 4 ?_
 repeat'(first|refine gA ?_|(refine goG ?_;intro g)|(refine goV ?_;intro v)|refine goE ?_|(refine goEG ?_;intro g)|(refine goEV ?_;intro v))
 refine WC.lp (σ:=Nat×Value×(Nat→QM)) (fun st=>[(8,.int .i64 (st.1:Int)),(7,st.2.1),(0,ptr xg),(1,.int .i64 (vn:Int)),(2,.int .i64 col)])
  (fun st=>[Ow.slice st.2.1 31 4 (qcells st.1 st.2.2)])
  (fun st=>mF st.1 st.2.2 (clx (fun k=>q k - q (vn+k)) st.1)::ge h0::RTF xg m n tv cv bv rv ms s) (fun st=>st.1≤vn) (fun st=>vn - st.1) (0,.slice none 0 0,fun _=>m00) (Nat.zero_le _) ?_ (hG:=.cons (W.Has.mFn _ _) sfA)
 rintro⟨k,sv,mz⟩ hk
 simp only at hk ⊢
 by_cases c:k < vn
 ·repeat'(first|refine gA ?_|(refine goG ?_;intro g)|(refine goV ?_;intro v)|refine goE ?_|(refine goEG ?_;intro g)|(refine goEV ?_;intro v))
  first|refine WL.callK (hc k (by omega)) ?_|refine WD.callK (hc k (by omega)) ?_|refine LO.callM (hc k (by omega)) ?_
  rintro _ _ _ ⟨m1,rfl,rfl,rfl⟩
  simp only[List.nil_append,List.cons_append]
  repeat'(first|refine gA ?_|(refine goG ?_;intro g)|(refine goV ?_;intro v)|refine goE ?_|(refine goEG ?_;intro g)|(refine goEV ?_;intro v))
  first|refine WL.callK (hc (vn+k) (by omega)) ?_|refine WD.callK (hc (vn+k) (by omega)) ?_|refine LO.callM (hc (vn+k) (by omega)) ?_
  rintro _ _ _ ⟨m2,rfl,rfl,rfl⟩
  simp only[List.nil_append,List.cons_append]
  repeat'(first|refine gA ?_|(refine goG ?_;intro g)|(refine goV ?_;intro v)|refine goE ?_|(refine goEG ?_;intro g)|(refine goEV ?_;intro v))
  first|refine WL.callK (Zn.rsub m1 m2 (q k) (q (vn+k)) ((hq k (by omega)).sm (by omega)) ((hq (vn+k) (by omega)).sm (by omega))) ?_|refine WD.callK (Zn.rsub m1 m2 (q k) (q (vn+k)) ((hq k (by omega)).sm (by omega)) ((hq (vn+k) (by omega)).sm (by omega))) ?_|refine LO.callM (Zn.rsub m1 m2 (q k) (q (vn+k)) ((hq k (by omega)).sm (by omega)) ((hq (vn+k) (by omega)).sm (by omega))) ?_
  rintro _ _ _ ⟨m3,rfl,rfl,rfl⟩
  simp only[List.nil_append,List.cons_append]
  refine WL.fact' (mF (k+1) (upd mz k m3) (clx (fun k=>q k - q (vn+k)) (k+1))) ((W.Has.mFapp (n:=k) (ms:=mz) (m:=m3) (qf:=clx _ k) hmA (show Has _ (isQ (qv m3) (q k - q (vn+k))) from hmA)).mFsame fun j hj=>clx_up (c:=fun k=>q k - q (vn+k)) j) ?_
  repeat'(first|refine gA ?_|(refine goG ?_;intro g)|(refine goV ?_;intro v)|refine goE ?_|(refine goEG ?_;intro g)|(refine goEV ?_;intro v))
  exact LoopEnd.mk (k+1,_,_) (by show k+1≤vn;omega) (by show vn - (k+1) < vn - k;omega)
 ·obtain rfl:k=vn:=by omega
  refine WC.freezeF sv k mz (fun j=>q j - q (k+j)) (by repeat(first|exact Sel.head|apply Sel.tail)) (W.Has.mFsame (qf:=clx (fun j=>q j - q (k+j)) k) hmA fun j hj=>by unfold clx;rw[if_pos hj]) ?_
  repeat'(first|refine gA ?_|(refine goG ?_;intro g)|(refine goV ?_;intro v)|refine goE ?_|(refine goEG ?_;intro g)|(refine goEV ?_;intro v))
  refine WC.ret ?_
  exact Fin.p [] [fF sv k mz fun j=>q j - q (k+j)] (ResE.t1 rfl rfl) meA (List.nil_sublist _) haA ⟨mz,rfl,rfl⟩
end U
end Go.Proofs.YtaongbhamadlkaaGreat
namespace Go.Proofs.YtaongbhamadlkaaGreat
open W Go.RowKit
theorem Dok.part {n K i:Nat} (h:Dok n K) (hi:i≤n) {a b:Nat→Rat} (ha:∀ i,i < n→Sq K (a i)) (hb:∀ i,i < n→Sq K (b i)):Sm (X.sm i fun j=>a j*b j):=by
 refine dot_sm (n:=i) (K:=K) ?_ (fun j hj=>ha j (by omega)) fun j hj=>hb j (by omega)
 unfold Dok at *
 have:=Nat.mul_le_mul_right (2*K+1) hi
 omega
theorem Dok.two {n K:Nat} (h:Dok n K):2*K≤400000000:=by unfold Dok at h;omega
namespace U
open Z
attribute [local irreducible] WC WL WD YO LO LoopEnd W.Fin Scalar SliceT FieldAt Row ArrT AllocT KnS Has W.One SrcE IntT
theorem d66 {G G':Prop} (h:G') (s:Bx G'→G:=by
 intro h
 first|(apply WC.draw (id:=10) [0,1,2,3,4,5,6,7,8,9,10,13] (.held 0 (.held 1 (.held 2 (.held 3 (.held 4 (.held 5 (.held 6 (.held 7 (.held 8 (.held 9 (.held 10 (.loud 11 (.loud 12 (.held 13 (.done))))))))))))))) mixed (by kernel_rfl))|(apply WC.draw (id:=11) [0,1,2,3,4,5,6,7,8,9,10] (.held 0 (.held 1 (.held 2 (.held 3 (.held 4 (.held 5 (.held 6 (.held 7 (.held 8 (.held 9 (.held 10 (.loud 11 (.loud 12 (.loud 13 (.done))))))))))))))) mixed (by kernel_rfl))|(apply WC.draw (id:=15) [0,1,2,3,4,5,6,7,9] (.held 0 (.held 1 (.held 2 (.held 3 (.held 4 (.held 5 (.held 6 (.held 7 (.loud 8 (.held 9 (.done))))))))))) mixed (by kernel_rfl))|fail
 exact Bx.h h):G:=s ⟨h⟩
theorem d67 {G G':Prop} (h:G') (s:Bx G'→G:=by
 intro h
 first|(apply WC.draw (id:=9) [0,1,2,3,4,5,6,8,10] (.held 0 (.held 1 (.held 2 (.held 3 (.held 4 (.held 5 (.held 6 (.held 8 (.loud 7 (.loud 9 (.held 10 (.done)))))))))))) mixed (by kernel_rfl))|fail
 exact Bx.h h):G:=s ⟨h⟩
theorem d69 {G G':Prop} (h:G') (s:Bx G'→G:=by
 intro h
 first|(apply WC.draw (id:=5) [0,1,2,3,4,5,6,7,8] (.held 0 (.held 1 (.held 2 (.held 3 (.held 4 (.held 5 (.held 6 (.held 7 (.held 8 (.loud 9 (.loud 10 (.loud 11 (.done))))))))))))) mixed (by kernel_rfl))|fail
 exact Bx.h h):G:=s ⟨h⟩
set_option maxHeartbeats 4000000 in
set_option maxRecDepth 60000 in
theorem rdot_c (x y:Value) (n K:Nat) (ma mb:Nat→QM) (a b:Nat→Rat) (hn:n≤10000) (hK:Dok n K) (ha:∀ i,i < n→Sq K (a i)) (hb:∀ i,i < n→Sq K (b i)):FnB Tryz.prog 69 [x,y] [] [fF x n ma a,fF y n mb b] (IsR (X.sm n fun i=>a i*b i)):=by
 refine fn_of [(0,x),(1,y)] 31 Tryz.func69 rfl Tryz.ntmps69 (by kernel_rfl) rfl suA fun h0=>?_
 have hk2:=hK.two
 repeat'(first|refine gB ?_|(refine gH ?_;intro g)|(refine gW ?_;intro v)|refine d69 ?_|fail)
 rename_i g4
 revert g;intro g5
 refine WC.lp (σ:=Nat×QM) (fun st=>[(6,.int .i64 (st.1:Int)),(0,x),(1,y),(5,ptr g5),(4,ptr g4)]) (fun st=>[Ow.cells g5 31 (qcs st.2),Ow.cells g4 31 (qcs m00)])
  (fun st=>[isQ (qv st.2) (X.sm st.1 fun i=>a i*b i),ge h0,fF x n ma a,fF y n mb b]) (fun st=>st.1≤n) (fun st=>n - st.1) (0,m00) (Nat.zero_le _) ?_ (hG:=.cons hasQ0 (.cons hmA (.cons hmA (.cons hmA .nil))))
 rintro⟨k,m⟩ hk
 simp only at hk ⊢
 by_cases c:k < n
 ·refine WC.fact (isQ (qv (ma k)) (a k)) (W.Has.q (W.Has.fm (v:=x) (ms:=ma) hmA) c) ?_
  refine WC.fact (isQ (qv (mb k)) (b k)) (W.Has.q (W.Has.fm (v:=y) (ms:=mb) hmA) c) ?_
  repeat'(first|refine gB ?_|(refine gH ?_;intro g)|(refine gW ?_;intro v)|refine d69 ?_|fail)
  first|refine WL.callK (Zn.rmul (ma k) (mb k) (a k) (b k) ((ha k c).sm (by omega)) ((hb k c).sm (by omega))) ?_|refine WD.callK (Zn.rmul (ma k) (mb k) (a k) (b k) ((ha k c).sm (by omega)) ((hb k c).sm (by omega))) ?_|refine LO.callM (Zn.rmul (ma k) (mb k) (a k) (b k) ((ha k c).sm (by omega)) ((hb k c).sm (by omega))) ?_
  rintro _ _ _ ⟨m3,rfl,rfl,rfl⟩
  simp only[List.nil_append,List.cons_append]
  repeat'(first|refine gB ?_|(refine gH ?_;intro g)|(refine gW ?_;intro v)|refine d69 ?_|fail)
  first|refine WL.callK (Zn.radd m m3 (X.sm k fun i=>a i*b i) (a k*b k) (hK.part (by omega) ha hb) (((ha k c).mul (hb k c)).sm (by omega))) ?_|refine WD.callK (Zn.radd m m3 (X.sm k fun i=>a i*b i) (a k*b k) (hK.part (by omega) ha hb) (((ha k c).mul (hb k c)).sm (by omega))) ?_|refine LO.callM (Zn.radd m m3 (X.sm k fun i=>a i*b i) (a k*b k) (hK.part (by omega) ha hb) (((ha k c).mul (hb k c)).sm (by omega))) ?_
  rintro _ _ _ ⟨m4,rfl,rfl,rfl⟩
  simp only[List.nil_append,List.cons_append]
  repeat'(first|refine gB ?_|(refine gH ?_;intro g)|(refine gW ?_;intro v)|refine d69 ?_|fail)
  exact LoopEnd.mk (k+1,m4) (by show k+1≤n;omega) (by show n - (k+1) < n - k;omega) (hG:=.cons (show Has _ (isQ (qv m4) ((X.sm k fun i=>a i*b i)+a k*b k)) from hmA) sfA)
 ·obtain rfl:n=k:=by omega
  repeat'(first|refine gB ?_|(refine gH ?_;intro g)|(refine gW ?_;intro v)|refine d69 ?_|fail)
  refine WC.ret ?_
  exact Fin.p [] [isQ (qv m) (X.sm n fun i=>a i*b i)] (ResE.cV rfl rfl meA T.r31 rfl) meA (List.nil_sublist _) haA ⟨m,rfl,rfl,rfl⟩
section
variable (M:Pm) (K vn:Nat) (L:List X.Ln) (gf:Nat→Rat)
set_option maxHeartbeats 4000000 in
set_option maxRecDepth 60000 in
theorem rholds_c (xn:Nat) (op:Bool) (xv:Value) (mx:Nat→QM) (x:Nat→Rat) (hd:Dok vn K) (hv:vn≤1000) (hL:LSq K vn L) (hx:∀ k,k < xn→Sq K (x k)) (hK:0 < K) :
  FnB Tryz.prog 67 [pgv M vn,xv,.bool op] [] [fP M (X.lpOf vn L gf),fF xv xn mx x] (IsV (.bool (holdP (X.lpOf vn L gf) xn x op))):=by
 refine fn_of [(0,(pgv M vn)),(1,xv),(2,(.bool op))] 40 Tryz.func67 rfl Tryz.ntmps67 (by kernel_rfl) rfl suA fun h0=>?_
 refine WC.fact (fLn M vn L) (W.Has.pL (g:=gf) hmA) ?_
 refine WC.fact (isQ (qv m00) 0) hasQ0 ?_
 refine WC.lenF (v:=M.lv) (m:=L.length) (W.Has.lns (M:=M) (w:=vn) hmA) fun hmm=>?_
 have hk2:=hd.two
 by_cases c:xn=vn
 ·subst c
  have hh:holdP (X.lpOf xn L gf) xn x op= !(X.fstT (fun r=>decide (most (X.lpOf xn L gf) op r < X.sm xn fun k=>X.ca L r k*x k)) L.length 0).isSome:=by unfold holdP;rw[decide_eq_true (show xn=(X.lpOf xn L gf).v from rfl)];rfl
  rw[hh]
  repeat'(first|refine gB ?_|(refine gH ?_;intro g)|(refine gW ?_;intro v)|refine d67 ?_|fail)
  revert g;intro g3
  refine WC.lp (σ:=Nat) (fun i=>[(7,.int .i64 (i:Int)),(3,ptr g3),(1,xv),(2,.bool op)]) (fun _=>[Ow.cells g3 26 (pcs M xn)]) (fun _=>[isQ (qv m00) 0,fLn M xn L,ge h0,fF xv xn mx x])
   (fun i=>i≤L.length∧X.fstT (fun r=>decide (most (X.lpOf xn L gf) op r < X.sm xn fun k=>X.ca L r k*x k)) L.length 0=X.fstT (fun r=>decide (most (X.lpOf xn L gf) op r < X.sm xn fun k=>X.ca L r k*x k)) (L.length - i) i) (fun i=>L.length - i) 0 ⟨Nat.zero_le _,rfl⟩ ?_
  rintro i ⟨hi,he⟩
  by_cases c:i < L.length
  ·rw[fstT_at c] at he
   refine WC.fact (fF (M.av i) xn (M.ma i) (X.ca L i)) (W.Has.lna (W.Has.lnq (M:=M) hmA) c) ?_
   refine WC.fact (isQ (qv (M.mb i)) (X.cb L i)) (W.Has.lnb (W.Has.lnq (M:=M) hmA) c) ?_
   have hsm:=dot_sm (a:=X.ca L i) (b:=x) hd (fun k hk=>hL.ca c hk) hx
   have hgt:=@cmp_gt (X.sm xn fun k=>X.ca L i k*x k) (most (X.lpOf xn L gf) op i)
   cases op with
   |true=>
    have e:most (X.lpOf xn L gf) true i=0:=rfl
    rw[e] at hgt he
    repeat'(first|refine gB ?_|(refine gH ?_;intro g)|(refine gW ?_;intro v)|refine d67 ?_|fail)
    refine WD.callK (rdot_c (M.av i) xv xn K (M.ma i) mx (X.ca L i) x (by omega) hd (fun k hk=>hL.ca c hk) hx) ?_
    rintro _ _ _ ⟨m1,rfl,rfl,rfl⟩
    simp only[List.nil_append,List.cons_append]
    repeat'(first|refine gB ?_|(refine gH ?_;intro g)|(refine gW ?_;intro v)|refine d67 ?_|fail)
    first|refine WL.callV (Zn.rcmp m1 m00 (X.sm xn fun k=>X.ca L i k*x k) 0 hsm ((Sq.zero.up hK).sm (by omega))) ?_|refine WD.callV (Zn.rcmp m1 m00 (X.sm xn fun k=>X.ca L i k*x k) 0 hsm ((Sq.zero.up hK).sm (by omega))) ?_
    by_cases cc:0 < X.sm xn fun k=>X.ca L i k*x k
    ·have c':=hgt.2 cc
     rw[if_pos (decide_eq_true cc)] at he
     repeat'(first|refine gB ?_|(refine gH ?_;intro g)|(refine gW ?_;intro v)|refine d67 ?_|fail)
     refine WC.ret ?_
     exact Fin.v (ResE.t1 rfl rfl) meA (by rw[he];rfl)
    ·have c':cmpQ (X.sm xn fun k=>X.ca L i k*x k) 0≤0:=Int.not_lt.1 fun h=>cc (hgt.1 h)
     rw[if_neg (by simpa using cc)] at he
     repeat'(first|refine gB ?_|(refine gH ?_;intro g)|(refine gW ?_;intro v)|refine d67 ?_|fail)
     exact LoopEnd.mk (i+1) ⟨by omega,he⟩ (by show L.length - (i+1) < L.length - i;omega)
   |false=>
    have e:most (X.lpOf xn L gf) false i=X.cb L i:=rfl
    rw[e] at hgt he
    repeat'(first|refine gB ?_|(refine gH ?_;intro g)|(refine gW ?_;intro v)|refine d67 ?_|fail)
    refine WD.callK (rdot_c (M.av i) xv xn K (M.ma i) mx (X.ca L i) x (by omega) hd (fun k hk=>hL.ca c hk) hx) ?_
    rintro _ _ _ ⟨m1,rfl,rfl,rfl⟩
    simp only[List.nil_append,List.cons_append]
    repeat'(first|refine gB ?_|(refine gH ?_;intro g)|(refine gW ?_;intro v)|refine d67 ?_|fail)
    first|refine WL.callV (Zn.rcmp m1 (M.mb i) (X.sm xn fun k=>X.ca L i k*x k) (X.cb L i) hsm ((hL.cb c).sm (by omega))) ?_|refine WD.callV (Zn.rcmp m1 (M.mb i) (X.sm xn fun k=>X.ca L i k*x k) (X.cb L i) hsm ((hL.cb c).sm (by omega))) ?_
    by_cases cc:X.cb L i < X.sm xn fun k=>X.ca L i k*x k
    ·have c':=hgt.2 cc
     rw[if_pos (decide_eq_true cc)] at he
     repeat'(first|refine gB ?_|(refine gH ?_;intro g)|(refine gW ?_;intro v)|refine d67 ?_|fail)
     refine WC.ret ?_
     exact Fin.v (ResE.t1 rfl rfl) meA (by rw[he];rfl)
    ·have c':cmpQ (X.sm xn fun k=>X.ca L i k*x k) (X.cb L i)≤0:=Int.not_lt.1 fun h=>cc (hgt.1 h)
     rw[if_neg (by simpa using cc)] at he
     repeat'(first|refine gB ?_|(refine gH ?_;intro g)|(refine gW ?_;intro v)|refine d67 ?_|fail)
     exact LoopEnd.mk (i+1) ⟨by omega,he⟩ (by show L.length - (i+1) < L.length - i;omega)
  ·obtain rfl:i=L.length:=by omega
   rw[Nat.sub_self,X.fstT] at he
   repeat'(first|refine gB ?_|(refine gH ?_;intro g)|(refine gW ?_;intro v)|refine d67 ?_|fail)
   refine WC.ret ?_
   exact Fin.v (ResE.t1 rfl rfl) meA (by rw[he];rfl)
 ·have hh:holdP (X.lpOf vn L gf) xn x op=false:=by unfold holdP;rw[decide_eq_false (show ¬xn=(X.lpOf vn L gf).v from c)];rfl
  repeat'(first|refine gB ?_|(refine gH ?_;intro g)|(refine gW ?_;intro v)|refine d67 ?_|fail)
  refine WC.ret ?_
  exact Fin.v (ResE.t1 rfl rfl) meA (by rw[hh])
structure SS where
 mr:QM
 sv:Value
 ms:Nat→QM
set_option maxHeartbeats 8000000 in
set_option maxRecDepth 60000 in
theorem rsums_c (yn:Nat) (yv gw:Value) (my mg:Nat→QM) (y gq:Nat→Rat) (hd:Dok L.length K) (hv:vn≤1000) (hL:LSq K vn L) (hy:∀ r,r < yn→Sq K (y r)) :
  FnB Tryz.prog 66 [pgv M vn,yv,gw] [] [fP M (X.lpOf vn L gf),fF yv yn my y,fF gw vn mg gq] (IsSums (X.lpOf vn L gf) yn y gq):=by
 refine fn_of [(0,(pgv M vn)),(1,yv),(2,gw)] 79 Tryz.func66 rfl Tryz.ntmps66 (by kernel_rfl) rfl suA fun h0=>?_
 refine WC.fact (fLn M vn L) (W.Has.pL (g:=gf) hmA) ?_
 refine WC.fact (isQ (qv m00) 0) hasQ0 ?_
 refine WC.lenF (v:=M.lv) (m:=L.length) (W.Has.lns (M:=M) (w:=vn) hmA) fun hmm=>?_
 have hk2:=hd.two
 have zero:sumsOk (X.lpOf vn L gf) yn y gq=false→IsSums (X.lpOf vn L gf) yn y gq (.tuple #[qv m00,.bool false]) [] [isQ (qv m00) 0]:=fun h=>⟨m00,by rw[h],rfl,by rw[h];rfl⟩
 by_cases c:yn=L.length
 ·subst c
  have hok:sumsOk (X.lpOf vn L gf) L.length y gq=(!(X.fstT (fun r=>decide (y r < 0)) L.length 0).isSome && !(X.fstT (fun k=>decide (¬(X.sm L.length fun r=>X.ca L r k*y r)=gq k)) vn 0).isSome):=by
   unfold sumsOk;rw[decide_eq_true (show L.length=(X.lpOf vn L gf).m from rfl)];rfl
  have hp1:∀ k,k < vn→∀ i,i≤L.length→Sm (X.sm i fun r=>X.ca L r k*y r):=fun k hk i hi=>hd.part hi (fun r hr=>hL.ca hr hk) hy
  have hp2:∀ i,i≤L.length→Sm (X.sm i fun r=>X.cb L r*y r):=fun i hi=>hd.part hi (fun r hr=>hL.cb hr) hy
  refine WC.fact (mF vn (fun _=>m00) (fun _=>0)) (W.Has.mF0 _) ?_
  repeat'(first|refine gB ?_|(refine gH ?_;intro g)|(refine gW ?_;intro v)|refine d66 ?_|fail)
  rename_i g3 g6
  revert g;intro g9
  refine WC.freezeF v vn (fun _=>m00) (fun _=>0) (by repeat(first|exact Sel.head|apply Sel.tail)) hmA ?_
  refine WC.lp (σ:=Nat×SS) (fun st=>[(10,.int .i64 (st.1:Int)),(8,st.2.sv),(9,ptr g9),(6,ptr g6),(3,ptr g3),(1,yv),(2,gw)]) (fun st=>[Ow.cells g9 31 (qcs st.2.mr),Ow.cells g6 31 (qcs m00),Ow.cells g3 26 (pcs M vn)])
   (fun st=>[isQ (qv st.2.mr) (X.sm st.1 fun r=>X.cb L r*y r),fF st.2.sv vn st.2.ms (fun k=>X.sm st.1 fun r=>X.ca L r k*y r),isQ (qv m00) 0,fLn M vn L,ge h0,fF yv L.length my y,fF gw vn mg gq])
   (fun st=>st.1≤L.length∧X.fstT (fun r=>decide (y r < 0)) L.length 0=X.fstT (fun r=>decide (y r < 0)) (L.length - st.1) st.1) (fun st=>L.length - st.1) (0,⟨m00,v,fun _=>m00⟩) ⟨Nat.zero_le _,rfl⟩ ?_ (hG:=.cons hasQ0 (.cons (show Has _ (fF v vn (fun _=>m00) (fun _=>0)) from hmA) sfA))
  rintro⟨i,mr,sv,ms⟩ ⟨hi,he⟩
  simp only at hi he ⊢
  by_cases c:i < L.length
  ·rw[fstT_at c] at he
   refine WC.fact (fF (M.av i) vn (M.ma i) (X.ca L i)) (W.Has.lna (W.Has.lnq (M:=M) hmA) c) ?_
   refine WC.fact (isQ (qv (M.mb i)) (X.cb L i)) (W.Has.lnb (W.Has.lnq (M:=M) hmA) c) ?_
   refine WC.fact (isQ (qv (my i)) (y i)) (W.Has.q (W.Has.fm (v:=yv) (ms:=my) hmA) c) ?_
   have hs:=@sgn_neg (y i)
   repeat'(first|refine gB ?_|(refine gH ?_;intro g)|(refine gW ?_;intro v)|refine d66 ?_|fail)
   first|refine WL.callV (Zn.rsign (my i) (y i)) ?_|refine WD.callV (Zn.rsign (my i) (y i)) ?_
   by_cases cn:y i < 0
   ·have c':=hs.2 cn
    rw[if_pos (decide_eq_true cn)] at he
    repeat'(first|refine gB ?_|(refine gH ?_;intro g)|(refine gW ?_;intro v)|refine d66 ?_|fail)
    refine WC.ret ?_
    exact Fin.p [] [isQ (qv m00) 0] (ResE.cT rfl rfl meA T.r31 rfl rfl) meA (List.nil_sublist _) haA (zero (by rw[hok,he];rfl))
   ·have c':¬sgn (y i).num < 0:=fun h=>cn (hs.1 h)
    rw[if_neg (by simpa using cn)] at he
    repeat'(first|refine gB ?_|(refine gH ?_;intro g)|(refine gW ?_;intro v)|refine d66 ?_|fail)
    refine WD.callK (scaled_c (M.av i) vn (M.ma i) (X.ca L i) (my i) (y i) (by omega) (fun k hk=>(hL.ca c hk).sm (by omega)) ((hy i c).sm (by omega))) ?_
    rintro v2 _ _ ⟨m2,rfl,rfl⟩
    simp only[List.nil_append,List.cons_append]
    refine WD.freezeF v2 vn m2 (fun k=>X.ca L i k*y i) (by repeat(first|exact Sel.head|apply Sel.tail)) hmA ?_
    repeat'(first|refine gB ?_|(refine gH ?_;intro g)|(refine gW ?_;intro v)|refine d66 ?_|fail)
    refine WD.callK (added_c sv v2 vn ms m2 (fun k=>X.sm i fun r=>X.ca L r k*y r) (fun k=>X.ca L i k*y i) (by omega) (fun k hk=>hp1 k hk i (by omega)) (fun k hk=>((hL.ca c hk).mul (hy i c)).sm (by omega))) ?_
    rintro v3 _ _ ⟨m3,rfl,rfl⟩
    simp only[List.nil_append,List.cons_append]
    repeat'(first|refine gB ?_|(refine gH ?_;intro g)|(refine gW ?_;intro v)|refine d66 ?_|fail)
    first|refine WL.callK (Zn.rmul (M.mb i) (my i) (X.cb L i) (y i) ((hL.cb c).sm (by omega)) ((hy i c).sm (by omega))) ?_|refine WD.callK (Zn.rmul (M.mb i) (my i) (X.cb L i) (y i) ((hL.cb c).sm (by omega)) ((hy i c).sm (by omega))) ?_|refine LO.callM (Zn.rmul (M.mb i) (my i) (X.cb L i) (y i) ((hL.cb c).sm (by omega)) ((hy i c).sm (by omega))) ?_
    rintro _ _ _ ⟨m4,rfl,rfl,rfl⟩
    simp only[List.nil_append,List.cons_append]
    repeat'(first|refine gB ?_|(refine gH ?_;intro g)|(refine gW ?_;intro v)|refine d66 ?_|fail)
    first|refine WL.callK (Zn.radd mr m4 (X.sm i fun r=>X.cb L r*y r) (X.cb L i*y i) (hp2 i (by omega)) (((hL.cb c).mul (hy i c)).sm (by omega))) ?_|refine WD.callK (Zn.radd mr m4 (X.sm i fun r=>X.cb L r*y r) (X.cb L i*y i) (hp2 i (by omega)) (((hL.cb c).mul (hy i c)).sm (by omega))) ?_|refine LO.callM (Zn.radd mr m4 (X.sm i fun r=>X.cb L r*y r) (X.cb L i*y i) (hp2 i (by omega)) (((hL.cb c).mul (hy i c)).sm (by omega))) ?_
    rintro _ _ _ ⟨m5,rfl,rfl,rfl⟩
    simp only[List.nil_append,List.cons_append]
    repeat'(first|refine gB ?_|(refine gH ?_;intro g)|(refine gW ?_;intro v)|refine d66 ?_|fail)
    exact LoopEnd.mk (i+1,⟨m5,v3,m3⟩) ⟨c,he⟩ (by show L.length - (i+1) < L.length - i;omega) (hG:=.cons (show Has _ (isQ (qv m5) ((X.sm i fun r=>X.cb L r*y r)+X.cb L i*y i)) from hmA) (.cons (show Has _ (fF v3 vn m3 (fun k=>(X.sm i fun r=>X.ca L r k*y r)+X.ca L i k*y i)) from hmA) sfA))
  ·obtain rfl:i=L.length:=by omega
   rw[Nat.sub_self,X.fstT] at he
   rw[he] at hok
   have hok2:sumsOk (X.lpOf vn L gf) L.length y gq= !(X.fstT (fun k=>decide (¬(X.sm L.length fun r=>X.ca L r k*y r)=gq k)) vn 0).isSome:=by rw[hok];rfl
   repeat'(first|refine gB ?_|(refine gH ?_;intro g)|(refine gW ?_;intro v)|refine d66 ?_|fail)
   refine WC.lp (σ:=Nat) (fun k=>[(11,.int .i64 (k:Int)),(8,sv),(9,ptr g9),(6,ptr g6),(3,ptr g3),(2,gw)]) (fun _=>[Ow.cells g9 31 (qcs mr),Ow.cells g6 31 (qcs m00),Ow.cells g3 26 (pcs M vn)])
    (fun _=>[isQ (qv mr) (X.sm L.length fun r=>X.cb L r*y r),fF sv vn ms (fun k=>X.sm L.length fun r=>X.ca L r k*y r),isQ (qv m00) 0,ge h0,fF gw vn mg gq])
    (fun k=>k≤vn∧X.fstT (fun k=>decide (¬(X.sm L.length fun r=>X.ca L r k*y r)=gq k)) vn 0=X.fstT (fun k=>decide (¬(X.sm L.length fun r=>X.ca L r k*y r)=gq k)) (vn - k) k) (fun k=>vn - k) 0 ⟨Nat.zero_le _,rfl⟩ ?_
   rintro k ⟨hk,he2⟩
   by_cases ck:k < vn
   ·rw[fstT_at ck] at he2
    refine WC.fact (isQ (qv (ms k)) (X.sm L.length fun r=>X.ca L r k*y r)) (W.Has.q (W.Has.fm (v:=sv) (ms:=ms) (qf:=fun k=>X.sm L.length fun r=>X.ca L r k*y r) hmA) ck) ?_
    refine WC.fact (isQ (qv (mg k)) (gq k)) (W.Has.q (W.Has.fm (v:=gw) (ms:=mg) hmA) ck) ?_
    repeat'(first|refine gB ?_|(refine gH ?_;intro g)|(refine gW ?_;intro v)|refine d66 ?_|fail)
    first|refine WL.callV (Zn.rsame (ms k) (mg k) (X.sm L.length fun r=>X.ca L r k*y r) (gq k)) ?_|refine WD.callV (Zn.rsame (ms k) (mg k) (X.sm L.length fun r=>X.ca L r k*y r) (gq k)) ?_
    by_cases cs:(X.sm L.length fun r=>X.ca L r k*y r)=gq k
    ·rw[if_neg (by simp[cs])] at he2
     rw[decide_eq_true cs]
     repeat'(first|refine gB ?_|(refine gH ?_;intro g)|(refine gW ?_;intro v)|refine d66 ?_|fail)
     exact LoopEnd.mk (k+1) ⟨by omega,he2⟩ (by show vn - (k+1) < vn - k;omega)
    ·rw[if_pos (decide_eq_true cs)] at he2
     rw[decide_eq_false cs]
     repeat'(first|refine gB ?_|(refine gH ?_;intro g)|(refine gW ?_;intro v)|refine d66 ?_|fail)
     refine WC.ret ?_
     exact Fin.p [] [isQ (qv m00) 0] (ResE.cT rfl rfl meA T.r31 rfl rfl) meA (List.nil_sublist _) haA (zero (by rw[hok2,he2];rfl))
   ·obtain rfl:k=vn:=by omega
    rw[Nat.sub_self,X.fstT] at he2
    rw[he2] at hok2
    repeat'(first|refine gB ?_|(refine gH ?_;intro g)|(refine gW ?_;intro v)|refine d66 ?_|fail)
    refine WC.ret ?_
    exact Fin.p [] [isQ (qv mr) (X.sm L.length fun r=>X.cb L r*y r)] (ResE.cT rfl rfl meA T.r31 rfl rfl) meA (List.nil_sublist _) haA ⟨mr,by rw[hok2];rfl,rfl,by rw[hok2];rfl⟩
 ·repeat'(first|refine gB ?_|(refine gH ?_;intro g)|(refine gW ?_;intro v)|refine d66 ?_|fail)
  refine WC.ret ?_
  have h0:sumsOk (X.lpOf vn L gf) yn y gq=false:=by unfold sumsOk;rw[decide_eq_false (show ¬yn=(X.lpOf vn L gf).m from c)];rfl
  exact Fin.p [] [isQ (qv m00) 0] (ResE.cT rfl rfl meA T.r31 rfl rfl) meA (List.nil_sublist _) haA (zero h0)
end
end U
end Go.Proofs.YtaongbhamadlkaaGreat
namespace Go.Proofs.YtaongbhamadlkaaGreat
open W Go.RowKit
def IsAnR (p:X.Lp) (R:Nat):RPost:=fun v B G=>∃ (M:Am) (kind xn yn:Nat) (x y:Nat→Rat) (z:Rat),v=agv M (kind:Nat)∧B=[]∧G=[fA M xn yn x y z]∧AnsP p kind xn yn x y z∧(∀ k,k < xn→Sq R (x k))∧(∀ k,k < yn→Sq R (y k))∧Sq R z
def c1K (p:X.Lp) (k j:Nat):Rat:=if p.la≤j∧j < k then 1 else 0
theorem c1K_up {p:X.Lp} {k:Nat} (hk:p.la≤k) (j:Nat):upd (c1K p k) k 1 j=c1K p (k+1) j:=by
 unfold c1K
 by_cases e:j=k
 ·subst e;rw[upd_at,if_pos ⟨hk,by omega⟩]
 ·rw[upd_ne e]
  by_cases c:p.la≤j∧j < k
  ·rw[if_pos c,if_pos ⟨c.1,by omega⟩]
  ·rw[if_neg c,if_neg (fun h=>c ⟨h.1,by omega⟩)]
theorem c2_cat {p:X.Lp} (j:Nat):qcatf (qcatf (fun k=>-(p.g k)) p.v p.g) (p.v+p.v) (fun _=>0) j=p.c2 j:=by
 unfold qcatf X.Lp.c2
 by_cases c1:j < p.v
 ·rw[if_pos (by omega),if_pos c1,if_pos c1]
 by_cases c2:j < 2*p.v
 ·rw[if_pos (by omega),if_neg c1,if_neg c1,if_pos c2]
 ·rw[if_neg (by omega),if_neg c1,if_neg c2]
section
variable {fr:PH} {w:World} {bx:List Ow} {F:List Fct}
theorem okRT {xg m n:Nat} {tv cv bv:Value} {rv:Nat→Value} {ms:Nat→Nat→QM} {s:X.St} (ho:OK fr (RT xg m tv cv bv rv s.b++bx) F w) (h1:Has F (rF m (n+1) rv ms s.t)):OK fr bx (RTF xg m n tv cv bv rv ms s++F) w:=by
 have a1:=OK.keep ho Rem.head
 have a2:=ok_nil (OK.freeze (n:=m) (sz:=1) a1 Sel.head (by rw[fnV_len,Nat.mul_one]) (by decide) rv fun j hj=>fnV_get (by omega))
 have a3:=ok_nil (OK.freeze (n:=m) (sz:=1) a2 Sel.head (by simp[fnL]) (by decide) (fun i=>.int .i64 (s.b i)) fun j hj=>by
  have hj':j < m:=by omega
  simp[fnL,hj'])
 refine⟨a3.frame,a3.apart,a3.nodup,a3.owns,fun f hf=>?_⟩
 have hF:∀ f∈F,f.p (imm fr bx w.heap):=fun f hf=>a3.facts f (by simp[hf])
 simp only[List.cons_append,List.nil_append,List.mem_cons] at hf
 rcases hf with rfl|rfl|rfl|rfl|hf
 ·exact a3.facts _ (by simp)
 ·exact a3.facts _ (by simp)
 ·exact h1 _ hF
 ·exact a3.facts _ (by simp)
 ·exact hF f hf
theorem WL.freezeRT {P:Program} {nn:Nat} {L rest:List Oper} {e:Env} {Q2:Env→List Ow→List Fct→Prop} {xg m n:Nat} {tv cv bv:Value} {rv:Nat→Value} {ms:Nat→Nat→QM} (s:X.St) {bx':List Ow} (hp:bx.Perm (RT xg m tv cv bv rv s.b++bx')) (h1:Has F (rF m (n+1) rv ms s.t))
  (h:WL P nn L rest e bx' (RTF xg m n tv cv bv rv ms s++F) Q2):WL P nn L rest e bx F Q2:=fun fr w0 a w Q' hQ hk hr ho=>h fr w0 a w Q' hQ hk hr (okRT (ho.perm hp) h1)
theorem WC.freezeRT {P:Program} {nn:Nat} {c:Code} {e:Env} {Q:Post} {xg m n:Nat} {tv cv bv:Value} {rv:Nat→Value} {ms:Nat→Nat→QM} (s:X.St) {bx':List Ow} (hp:bx.Perm (RT xg m tv cv bv rv s.b++bx')) (h1:Has F (rF m (n+1) rv ms s.t))
  (h:WC P nn c e bx' (RTF xg m n tv cv bv rv ms s++F) Q):WC P nn c e bx F Q:=fun fr w0 a w hk hr ho=>h fr w0 a w hk hr (okRT (ho.perm hp) h1)
end
structure RD where
 i:Nat
 cv:Value
 rv:Nat→Value
 ms:Nat→Nat→QM
 mc:Nat→QM
 u:X.St
theorem drS_hit {last i k:Nat} {s:X.St} (hb:last≤s.b i) (hk:k < last) (h0:∀ j,j < k→s.t i j=0) (hn:s.t i k≠0):X.drS last s i=X.pv s i k:=by
 unfold X.drS
 rw[if_neg (by omega)]
 rcases X.fstT_spec (fun k=>decide (s.t i k≠0)) last 0 with ⟨_,h2⟩|⟨j,h1,_,h3,h4,h5⟩
 ·exact absurd hn (of_decide_eq_false (h2 k (by omega) (by omega)))
 ·have:j=k:=by
   by_cases c1:j < k
   ·exact absurd (h0 j c1) (of_decide_eq_true h4)
   ·by_cases c2:k < j
    ·exact absurd hn (of_decide_eq_false (h5 k (by omega) c2))
    ·omega
  rw[h1,this]
theorem drS_none {last i:Nat} {s:X.St} (h:s.b i < last∨∀ j,j < last→s.t i j=0):X.drS last s i=s:=by
 unfold X.drS
 by_cases c:s.b i < last
 ·rw[if_pos c]
 ·rw[if_neg c]
  have h0:=h.resolve_left c
  rcases X.fstT_spec (fun k=>decide (s.t i k≠0)) last 0 with ⟨h1,_⟩|⟨j,h1,_,h3,h4,_⟩
  ·rw[h1]
  ·exact absurd (h0 j (by omega)) (of_decide_eq_true h4)
namespace U
open Z
attribute [local irreducible] WC WL WD YO LO LoopEnd W.Fin Scalar SliceT FieldAt Row ArrT AllocT KnS Has W.One SrcE IntT
theorem d19 {G G':Prop} (h:G') (s:Bx G'→G:=by
 intro h
 first|(apply WC.draw (id:=12) [1,2,3,4,5,6,7,8,9] (.held 1 (.held 2 (.held 3 (.held 4 (.held 5 (.held 6 (.held 7 (.held 8 (.held 9 (.loud 0 (.loud 10 (.loud 11 (.loud 12 (.done)))))))))))))) mixed (by kernel_rfl))|(apply WC.draw (id:=21) [0,1,3,4,6,7] (.held 0 (.held 1 (.held 3 (.held 4 (.held 6 (.held 7 (.loud 2 (.loud 5 (.loud 8 (.loud 9 (.done))))))))))) mixed (by kernel_rfl))|(apply WC.draw (id:=25) [0,1,2,4,5,6,7] (.held 0 (.held 1 (.held 2 (.held 4 (.held 5 (.held 6 (.held 7 (.loud 3 (.loud 8 (.loud 9 (.loud 10 (.done)))))))))))) mixed (by kernel_rfl))|(apply WC.draw (id:=27) [0,2,3,4,5,6,7,8,9,10,12,13,14] (.held 0 (.held 2 (.held 3 (.held 4 (.held 5 (.held 6 (.held 7 (.held 8 (.held 9 (.held 10 (.held 12 (.held 13 (.held 14 (.loud 1 (.loud 11 (.loud 15 (.loud 16 (.loud 17 (.done))))))))))))))))))) mixed (by kernel_rfl))|fail
 exact Bx.h h):G:=s ⟨h⟩
set_option maxHeartbeats 16000000 in
set_option maxRecDepth 60000 in
theorem rsolve_c (M:Pm) (vn:Nat) (LL:List X.Ln) (gf:Nat→Rat) (K0 K L R:Nat) (hz:X.Szs (X.lpOf vn LL gf) K0 K L) (hL0:LSq K0 vn LL) (hv0:0 < vn) (hv:vn≤48) (hm:LL.length≤128) (hL19:L≤19000000) (hR1:2*K+1≤R) (hR2:L≤R) (hR3:vn*(2*(2*K+1)+1)+1≤R) :
  FnB Tryz.prog 19 [pgv M vn] [] [fP M (X.lpOf vn LL gf)] (IsAnR (X.lpOf vn LL gf) R):=by
 refine fn_of [(0,(pgv M vn))] 154 Tryz.func19 rfl Tryz.ntmps19 (by kernel_rfl) rfl suA fun h0=>?_
 have hbg:=begun_c M vn K0 LL gf hv0 hv hm hz.pos (by have:=hz.t;have:=hz.kl;have:=hz.k;omega) hL0
 obtain⟨p,hp⟩:∃ p,p=X.lpOf vn LL gf:=⟨_,rfl⟩
 have hpv:vn=p.v:=by rw[hp];rfl
 have hpm:LL.length=p.m:=by rw[hp];rfl
 refine WC.fact (fLn M vn LL) (W.Has.pL (g:=gf) hmA) ?_
 refine WC.fact (fF M.gv vn M.mg gf) (W.Has.pG (L:=LL) hmA) ?_
 have hpg:gf=p.g:=by rw[hp];rfl
 rw[←hp] at hbg hz ⊢
 rw[hpg] at hp ⊢
 clear hpg
 subst hpv
 have hn:p.n=2*p.v+2*p.m:=rfl
 have hla:p.la=2*p.v+p.m:=rfl
 have hnn:p.n=p.la+p.m:=by rw[hn,hla];omega
 have hL:=hz.t
 have hKL:=hz.kl
 have hK0:=hz.pos
 have hK:0 < K:=Nat.lt_of_lt_of_le (by omega) hz.k
 have hK0K:K0≤K:=Nat.le_trans (by omega) hz.k
 obtain⟨F1,x1,hx1⟩:=X.run_ends ((X.ok0 (p:=p) p.n).prc (e':=p.n) p.c1) (Nat.le_refl _)
 obtain⟨hq1,hok1,hq2,hq3⟩:=X.phase1 hx1
 have hi1:X.Inv p.m p.n p.A p.c1 (X.prc p.m p.c1 p.s0):=(X.inv0 (p:=p)).prc p.c1
 repeat'(first|refine gA ?_|(refine goG ?_;intro g)|(refine goV ?_;intro v)|refine goE ?_|(refine goEG ?_;intro g)|(refine goEV ?_;intro v)|refine goD ?_|refine goXD ?_|(refine goDG ?_;intro g)|(refine goDV ?_;intro v)|refine gY ?_|refine d19 ?_|fail)
 rename_i gp
 revert g;intro g2
 refine WL.callK hbg ?_
 rintro _ _ _ ⟨xg,tv,bv,rv,ms,rfl,rfl,rfl⟩
 rw[show(2:Int)*(p.v:Int)+(LL.length:Int)=((p.la:Nat):Int) by rw[hla,hpm];simp,hpm]
 simp only[List.nil_append,List.cons_append]
 repeat'(first|refine gA ?_|(refine goG ?_;intro g)|(refine goV ?_;intro v)|refine goE ?_|(refine goEG ?_;intro g)|(refine goEV ?_;intro v)|refine goD ?_|refine goXD ?_|(refine goDG ?_;intro g)|(refine goDV ?_;intro v)|refine gY ?_|refine d19 ?_|fail)
 revert v;intro v6
 refine WC.lp (σ:=Nat×(Nat→QM)) (fun st=>[(7,.int .i64 (st.1:Int)),(6,v6),(5,ptr xg),(4,.int .i64 (p.la:Int)),(3,.int .i64 (p.m:Int)),(2,ptr g2),(1,ptr gp)])
  (fun st=>Ow.slice v6 31 4 (qcells (p.la+p.m) st.2)::(RT xg p.m tv (.slice none 0 0) bv rv p.s0.b++[Ow.cells g2 33 (acs ⟨.slice none 0 0,.slice none 0 0,fun _=>m00,fun _=>m00,m00⟩ 0),Ow.cells gp 26 (pcs M p.v)]))
  (fun st=>[mF (p.la+p.m) st.2 (c1K p st.1),rF p.m (p.n+1) rv ms p.A,fF M.gv p.v M.mg p.g,fLn M p.v LL,ge h0]) (fun st=>p.la≤st.1∧st.1≤p.la+p.m) (fun st=>p.la+p.m - st.1) (p.la,fun _=>m00) ⟨Nat.le_refl _,by show p.la≤p.la+p.m;omega⟩ ?_ (hG:=.cons ((W.Has.mF0 (p.la+p.m)).mFsame fun j _=>by unfold c1K;rw[if_neg (fun h=>by have:=h.2;omega)]) sfA)
 rintro⟨k,mk⟩ ⟨hk,hk2⟩
 simp only at hk hk2 ⊢
 by_cases c:k < p.la+p.m
 ·repeat'(first|refine gA ?_|(refine goG ?_;intro g)|(refine goV ?_;intro v)|refine goE ?_|(refine goEG ?_;intro g)|(refine goEV ?_;intro v)|refine goD ?_|refine goXD ?_|(refine goDG ?_;intro g)|(refine goDV ?_;intro v)|refine gY ?_|refine d19 ?_|fail)
  first|refine WL.callK (Zn.rof 1 1 (by decide) (by decide)) ?_|refine WD.callK (Zn.rof 1 1 (by decide) (by decide)) ?_|refine LO.callM (Zn.rof 1 1 (by decide) (by decide)) ?_
  rintro _ _ _ ⟨m1,rfl,rfl,rfl⟩
  simp only[List.nil_append,List.cons_append]
  rw[show Rat.divInt 1 1=1 by decide +kernel]
  repeat'(first|refine gA ?_|(refine goG ?_;intro g)|(refine goV ?_;intro v)|refine goE ?_|(refine goEG ?_;intro g)|(refine goEV ?_;intro v)|refine goD ?_|refine goXD ?_|(refine goDG ?_;intro g)|(refine goDV ?_;intro v)|refine gY ?_|refine d19 ?_|fail)
  exact LoopEnd.mk (k+1,upd mk k m1) ⟨by show p.la≤k+1;omega,by show k+1≤p.la+p.m;omega⟩ (by show p.la+p.m - (k+1) < p.la+p.m - k;omega) (hG:=.cons ((W.Has.mFset (k:=k) (ms:=mk) (m:=m1) (z:=1) (qf:=c1K p k) hmA hmA).mFsame fun j _=>c1K_up hk j) sfA)
 obtain rfl:k=p.la+p.m:=by omega
 refine WC.freezeF v6 (p.la+p.m) mk p.c1 (by repeat(first|exact Sel.head|apply Sel.tail)) (W.Has.mFsame (qf:=c1K p (p.la+p.m)) hmA fun j hj=>by unfold c1K X.Lp.c1;rw[hnn]) ?_
 repeat'(first|refine gA ?_|(refine goG ?_;intro g)|(refine goV ?_;intro v)|refine goE ?_|(refine goEG ?_;intro g)|(refine goEV ?_;intro v)|refine goD ?_|refine goXD ?_|(refine goDG ?_;intro g)|(refine goDV ?_;intro v)|refine gY ?_|refine d19 ?_|fail)
 rw[←hnn]
 refine WL.callG (RT xg p.m tv (.slice none 0 0) bv rv p.s0.b) _ (List.perm_middle (l₁:=RT xg p.m tv (.slice none 0 0) bv rv p.s0.b)).symm (rprice_c xg p.m p.n L tv (.slice none 0 0) bv v6 rv ms mk p.s0 p.c1 (by omega) (by omega) (by omega) X.inv0.bd (fun i hi k hk=>(hz.T hi1 hi hk).up hKL) (fun i hi k hk=>hz.P hz.c1 X.inv0 hi hk)) ?_
 rintro _ _ _ ⟨cv,mc,rfl,rfl,rfl⟩
 simp only[List.nil_append,List.cons_append]
 refine WL.fact' (fF cv (p.n+1) mc (X.prc p.m p.c1 p.s0).c) (W.Has.fFsame (q:=prS p.n p.c1 p.s0 p.m) hmA fun j hj=>X.prS_prc X.inv0.bd X.inv0.u (by unfold X.Lp.c1;simp) hj) ?_
 repeat'(first|refine gA ?_|(refine goG ?_;intro g)|(refine goV ?_;intro v)|refine goE ?_|(refine goEG ?_;intro g)|(refine goEV ?_;intro v)|refine goD ?_|refine goXD ?_|(refine goDG ?_;intro g)|(refine goDV ?_;intro v)|refine gY ?_|refine d19 ?_|fail)
 rw[←hnn]
 refine WL.callG (RT xg p.m tv cv bv rv p.s0.b) _ (.refl _) (rrun_c xg p.m p.n p.n L F1 tv cv bv rv ms mc (X.prc p.m p.c1 p.s0) x1 (Nat.le_refl _) (by omega) (by omega) hL19 (by omega) hx1 (fun u=>X.Inv p.m p.n p.A p.c1 u) hi1 (fun u k r h hk hr=>run_inv (Nat.le_refl _) h hk hr) (fun u hu=>⟨fun i hi k hk=>(hz.T hu hi hk).up hKL,fun k hk=>hz.C hz.c1 hu hk⟩)) ?_
 rintro _ _ _ ⟨cv2,rv2,ms2,mc2,rfl,rfl,rfl⟩
 simp only[List.nil_append,List.cons_append]
 refine WL.fact' (isQ (qv (mc2 p.n)) (x1.1.c p.n)) (W.Has.q (W.Has.fm (v:=cv2) (ms:=mc2) hmA) (by omega)) ?_
 rw[hnn]
 repeat'(first|refine gA ?_|(refine goG ?_;intro g)|(refine goV ?_;intro v)|refine goE ?_|(refine goEG ?_;intro g)|(refine goEV ?_;intro v)|refine goD ?_|refine goXD ?_|(refine goDG ?_;intro g)|(refine goDV ?_;intro v)|refine gY ?_|refine d19 ?_|fail)
 rw[←hnn]
 first|refine WL.callV (Zn.rsign (mc2 p.n) (x1.1.c p.n)) ?_|refine WD.callV (Zn.rsign (mc2 p.n) (x1.1.c p.n)) ?_
 have hsg:=@sgn_neg (x1.1.c p.n)
 by_cases hneg:x1.1.c p.n < 0
 ·have hs:=hsg.2 hneg
  refine WL.fact' (fF (resl cv2 (2*p.v) p.la 4) p.m (fun i=>mc2 (2*p.v+i)) (fun i=>x1.1.c (2*p.v+i))) (by rw[hla];exact W.Has.subM (v:=cv2) (ms:=mc2) (q:=x1.1.c) hmA (by omega)) ?_
  repeat'(first|refine gA ?_|(refine goG ?_;intro g)|(refine goV ?_;intro v)|refine goE ?_|(refine goEG ?_;intro g)|(refine goEV ?_;intro v)|refine goD ?_|refine goXD ?_|(refine goDG ?_;intro g)|(refine goDV ?_;intro v)|refine gY ?_|refine d19 ?_|fail)
  all_goals(try rw[show(2:Int)*(p.v:Int)=((2*p.v:Nat):Int) by simp])
  all_goals repeat'(first|refine gA ?_|(refine goG ?_;intro g)|(refine goV ?_;intro v)|refine goE ?_|(refine goEG ?_;intro g)|(refine goEV ?_;intro v)|refine goD ?_|refine goXD ?_|(refine goDG ?_;intro g)|(refine goDV ?_;intro v)|refine gY ?_|refine d19 ?_|fail)
  all_goals refine WC.freezeF v p.m (fun i=>mc2 (2*p.v+i)) (fun r=>x1.1.c (2*p.v+r)) (by repeat(first|exact Sel.head|apply Sel.tail)) (W.Has.fm (v:=resl cv2 (2*p.v) p.la 4) (ms:=fun i=>mc2 (2*p.v+i)) hmA) ?_
  all_goals refine WC.ret ?_
  all_goals exact Fin.p [] [fA ⟨.slice none 0 0,v,fun _=>m00,fun i=>mc2 (2*p.v+i),m00⟩ 0 p.m (fun _=>0) (fun r=>x1.1.c (2*p.v+r)) 0] (ResE.cV rfl rfl meA T.r33 rfl) meA (List.nil_sublist _) (.cons (has_A (has_nil0F _ _) hmA hasQ0) .nil) ⟨_,1,0,p.m,_,_,0,rfl,rfl,rfl,.inl ⟨rfl,rfl,rfl,rfl,X.first_inf hx1 hneg⟩,fun k hk=>absurd hk (by omega),fun k hk=>(hz.C hz.c1 hok1.i (by omega)).up hR2,Sq.zero.up (by omega)⟩
 have hs:¬sgn (x1.1.c p.n).num < 0:=fun h=>hneg (hsg.1 h)
 have hdr:=X.emp_all (e:=p.n) (last:=p.la) (by omega) hok1 (hq3 hneg)
 have hD:=(hdr p.m (Nat.le_refl _)).1
 have hdt:∀ i,i≤p.m→∀ r,r < p.m→∀ k,k < p.n+1→Sq L ((X.drP p.la x1.1 i).t r k):=fun i hi r hr k hk=>(hz.T (hdr i hi).1.i hr hk).up hKL
 have hdc:∀ i,i≤p.m→∀ k,k < p.n+1→Sq L ((X.drP p.la x1.1 i).c k):=fun i hi k hk=>hz.C hz.c1 (hdr i hi).1.i hk
 repeat'(first|refine gA ?_|(refine goG ?_;intro g)|(refine goV ?_;intro v)|refine goE ?_|(refine goEG ?_;intro g)|(refine goEV ?_;intro v)|refine goD ?_|refine goXD ?_|(refine goDG ?_;intro g)|(refine goDV ?_;intro v)|refine gY ?_|refine d19 ?_|fail)
 refine WC.lp (σ:=RD) (fun st=>[(8,.int .i64 (st.i:Int)),(5,ptr xg),(4,.int .i64 (p.la:Int)),(3,.int .i64 (p.m:Int)),(2,ptr g2),(1,ptr gp)]) (fun st=>RT xg p.m tv st.cv bv st.rv st.u.b++[Ow.cells g2 33 (acs ⟨.slice none 0 0,.slice none 0 0,fun _=>m00,fun _=>m00,m00⟩ 0),Ow.cells gp 26 (pcs M p.v)])
  (fun st=>[rF p.m (p.n+1) st.rv st.ms st.u.t,fF st.cv (p.n+1) st.mc st.u.c,fF M.gv p.v M.mg p.g,ge h0]) (fun st=>st.i≤p.m∧st.u=X.drP p.la x1.1 st.i) (fun st=>p.m - st.i) ⟨0,cv2,rv2,ms2,mc2,x1.1⟩ ⟨Nat.zero_le _,rfl⟩ ?_
 rintro⟨i,cv2,rv2,ms2,mc2,S⟩ ⟨hi,hS⟩
 simp only at hi hS ⊢
 by_cases c:i < p.m
 ·have hdt1:=hdt i hi
  have hdc1:=hdc i hi
  rw[←hS] at hdt1 hdc1
  repeat'(first|refine gA ?_|(refine goG ?_;intro g)|(refine goV ?_;intro v)|refine goE ?_|(refine goEG ?_;intro g)|(refine goEV ?_;intro v)|refine goD ?_|refine goXD ?_|(refine goDG ?_;intro g)|(refine goDV ?_;intro v)|refine gY ?_|refine d19 ?_|fail)
  refine WC.lp (σ:=RD) (fun st=>[(9,.int .i64 (st.i:Int)),(8,.int .i64 (i:Int)),(5,ptr xg),(4,.int .i64 (p.la:Int)),(3,.int .i64 (p.m:Int)),(2,ptr g2),(1,ptr gp)]) (fun st=>RT xg p.m tv st.cv bv st.rv st.u.b++[Ow.cells g2 33 (acs ⟨.slice none 0 0,.slice none 0 0,fun _=>m00,fun _=>m00,m00⟩ 0),Ow.cells gp 26 (pcs M p.v)])
   (fun st=>[rF p.m (p.n+1) st.rv st.ms st.u.t,fF st.cv (p.n+1) st.mc st.u.c,fF M.gv p.v M.mg p.g,ge h0]) (fun st=>st.i≤p.la∧((st.u=S∧∀ j,j < st.i→S.t i j=0)∨(st.u=X.drS p.la S i∧st.u.b i < p.la))) (fun st=>p.la - st.i) ⟨0,cv2,rv2,ms2,mc2,S⟩ ⟨Nat.zero_le _,.inl ⟨rfl,fun j hj=>absurd hj (Nat.not_lt_zero _)⟩⟩ ?_
  rintro⟨k,cv3,rv3,ms3,mc3,u⟩ ⟨hk,hu⟩
  simp only at hk hu ⊢
  have hfl:=fnL_len p.m u.b
  by_cases ck:k < p.la
  ·by_cases cb:u.b i < p.la
   ·have hdr1:u=X.drS p.la S i:=by
     rcases hu with ⟨rfl,_⟩|⟨h,_⟩
     ·exact(drS_none (.inl cb)).symm
     ·exact h
    have cb2:(u.b i:Int) < p.la:=by omega
    repeat'(first|refine gA ?_|(refine goG ?_;intro g)|(refine goV ?_;intro v)|refine goE ?_|(refine goEG ?_;intro g)|(refine goEV ?_;intro v)|refine goD ?_|refine goXD ?_|(refine goDG ?_;intro g)|(refine goDV ?_;intro v)|refine gY ?_|refine d19 ?_|fail)
    exact LoopEnd.mk ⟨i+1,cv3,rv3,ms3,mc3,u⟩ ⟨by show i+1≤p.m;omega,by show u=X.drP p.la x1.1 (i+1);rw[hdr1,hS];rfl⟩ (by show p.m - (i+1) < p.m - i;omega)
   ·obtain⟨rfl,h0⟩:u=S∧∀ j,j < k→S.t i j=0:=by
     rcases hu with h|⟨_,h⟩
     ·exact h
     ·exact absurd h cb
    have cb2:¬(u.b i:Int) < p.la:=by omega
    refine WC.fact (fF (rv3 i) (p.n+1) (ms3 i) (u.t i)) (W.Has.tr (m:=p.m) hmA c) ?_
    refine WC.fact (isQ (qv (ms3 i k)) (u.t i k)) (W.Has.q (W.Has.fm (v:=rv3 i) (ms:=ms3 i) hmA) (by omega)) ?_
    have hz0:=@sgn_zero (u.t i k)
    repeat'(first|refine gA ?_|(refine goG ?_;intro g)|(refine goV ?_;intro v)|refine goE ?_|(refine goEG ?_;intro g)|(refine goEV ?_;intro v)|refine goD ?_|refine goXD ?_|(refine goDG ?_;intro g)|(refine goDV ?_;intro v)|refine gY ?_|refine d19 ?_|fail)
    first|refine WL.callV (Zn.rsign (ms3 i k) (u.t i k)) ?_|refine WD.callV (Zn.rsign (ms3 i k) (u.t i k)) ?_
    by_cases ct:u.t i k=0
    ·have ct2:=hz0.2 ct
     repeat'(first|refine gA ?_|(refine goG ?_;intro g)|(refine goV ?_;intro v)|refine goE ?_|(refine goEG ?_;intro g)|(refine goEV ?_;intro v)|refine goD ?_|refine goXD ?_|(refine goDG ?_;intro g)|(refine goDV ?_;intro v)|refine gY ?_|refine d19 ?_|fail)
     exact LoopEnd.mk ⟨k+1,cv3,rv3,ms3,mc3,u⟩ ⟨ck,.inl ⟨rfl,fun j hj=>by
      by_cases e:j=k
      ·subst e;exact ct
      ·exact h0 j (by show j < k;have hj:j < k+1:=hj;omega)⟩⟩ (by show p.la - (k+1) < p.la - k;omega)
    ·have ct2:¬sgn (u.t i k).num=0:=fun h=>ct (hz0.1 h)
     repeat'(first|refine gA ?_|(refine goG ?_;intro g)|(refine goV ?_;intro v)|refine goE ?_|(refine goEG ?_;intro g)|(refine goEV ?_;intro v)|refine goD ?_|refine goXD ?_|(refine goDG ?_;intro g)|(refine goDV ?_;intro v)|refine gY ?_|refine d19 ?_|fail)
     refine WL.callG (RT xg p.m tv cv3 bv rv3 u.b) _ (.refl _) (rpivot_c xg p.m p.n i k L tv cv3 bv rv3 ms3 mc3 u c (by omega) (by omega) (by omega) (by omega) (by omega) hdt1 hdc1) ?_
     rintro _ _ _ ⟨cv4,rv4,ms4,mc4,rfl,rfl,rfl⟩
     simp only[List.nil_append,List.cons_append]
     repeat'(first|refine gA ?_|(refine goG ?_;intro g)|(refine goV ?_;intro v)|refine goE ?_|(refine goEG ?_;intro g)|(refine goEV ?_;intro v)|refine goD ?_|refine goXD ?_|(refine goDG ?_;intro g)|(refine goDV ?_;intro v)|refine gY ?_|refine d19 ?_|fail)
     exact LoopEnd.mk ⟨k+1,cv4,rv4,ms4,mc4,X.pv u i k⟩ ⟨ck,.inr ⟨(drS_hit (by omega) ck h0 ct).symm,by show(if i=i then k else u.b i) < p.la;rw[if_pos rfl];exact ck⟩⟩ (by show p.la - (k+1) < p.la - k;omega)
  ·obtain rfl:k=p.la:=by omega
   have hdr1:u=X.drS p.la S i:=by
    rcases hu with ⟨rfl,h⟩|⟨h,_⟩
    ·exact(drS_none (.inr h)).symm
    ·exact h
   repeat'(first|refine gA ?_|(refine goG ?_;intro g)|(refine goV ?_;intro v)|refine goE ?_|(refine goEG ?_;intro g)|(refine goEV ?_;intro v)|refine goD ?_|refine goXD ?_|(refine goDG ?_;intro g)|(refine goDV ?_;intro v)|refine gY ?_|refine d19 ?_|fail)
   exact LoopEnd.mk ⟨i+1,cv3,rv3,ms3,mc3,u⟩ ⟨by show i+1≤p.m;omega,by show u=X.drP p.la x1.1 (i+1);rw[hdr1,hS];rfl⟩ (by show p.m - (i+1) < p.m - i;omega)
 obtain rfl:i=p.m:=by omega
 rw[←hS] at hD
 repeat'(first|refine gA ?_|(refine goG ?_;intro g)|(refine goV ?_;intro v)|refine goE ?_|(refine goEG ?_;intro g)|(refine goEV ?_;intro v))
 refine WC.cutP (σ:=Value×(Nat→QM)) (fun st=>[(6,st.1),(5,ptr xg),(4,.int .i64 (p.la:Int)),(3,.int .i64 (p.m:Int)),(2,ptr g2),(1,ptr gp)])
  (fun st=>Ow.slice st.1 31 4 (qcells (p.v+p.v+2*p.m) (qcat (qcat st.2 p.v M.mg) (p.v+p.v) (fun _=>m00)))::(RT xg p.m tv cv2 bv rv2 S.b++[Ow.cells g2 33 (acs ⟨.slice none 0 0,.slice none 0 0,fun _=>m00,fun _=>m00,m00⟩ 0),Ow.cells gp 26 (pcs M p.v)]))
  (fun st=>[mF p.v st.2 (fun k=>-(p.g k)),rF p.m (p.n+1) rv2 ms2 S.t,fF cv2 (p.n+1) mc2 S.c,fF M.gv p.v M.mg p.g,ge h0]) (fun _=>True) ?_ ?_
 ·have hng:=negated_o M.gv p.v M.mg p.g (by omega) (fun k hk=>(hz.g k hk).sm (by omega))
  repeat'(first|refine gA ?_|(refine goG ?_;intro g)|(refine goV ?_;intro v)|refine goE ?_|(refine goEG ?_;intro g)|(refine goEV ?_;intro v)|refine goD ?_|refine goXD ?_|(refine goDG ?_;intro g)|(refine goDV ?_;intro v)|refine gY ?_|refine d19 ?_|fail|((first|refine WL.callK (hv:=?hvQ) (hng) ?_|refine WD.callK (hv:=?hvQ) (hng) ?_|refine LO.callM (hv:=?hvQ) (hng) ?_);(case hvQ=>((repeat(first|exact Evs.nil|(apply Evs.cons;exact rfl)));done));rintro _ _ _ ⟨_,rfl,rfl⟩;simp only[List.nil_append,List.cons_append])|fail)
  all_goals(apply Ex2;refine⟨trivial,?_,?_,?_⟩;(focus(repeat(first|exact Sub.nil _|refine Sub.cons rfl ?_)));(focus(repeat(first|exact SubP.nil _|(apply SubP.cons;(repeat(first|exact Rem.head|apply Rem.tail))))));(focus(repeat(first|exact HasAll.nil|(apply HasAll.cons;exact hsA)))))
 rintro⟨v6,mn⟩ -
 simp only
 have hvv:p.v+p.v+2*p.m=p.n:=by rw[hn];omega
 refine WC.freezeF v6 (p.v+p.v+2*p.m) (qcat (qcat mn p.v M.mg) (p.v+p.v) (fun _=>m00)) p.c2 (by repeat(first|exact Sel.head|apply Sel.tail)) ((W.Has.mFcat (W.Has.mFcat (f:=fun k=>-(p.g k)) hmA (W.Has.fm (v:=M.gv) (ms:=M.mg) hmA)) (W.Has.mF0 _)).mFsame fun j _=>c2_cat j) ?_
 rw[hvv]
 generalize qcat (qcat mn p.v M.mg) (p.v+p.v) (fun _=>m00)=mk2
 have hDi:X.Inv p.m p.n p.A p.c2 (X.prc p.m p.c2 S):=hD.i.prc p.c2
 obtain⟨F2,y,hy⟩:=X.run_ends (hD.prc (e':=p.la) p.c2) (show p.la≤p.n by omega)
 have hyi:X.Inv p.m p.n p.A p.c2 y.1:=(X.run_ok (hD.prc (e':=p.la) p.c2) (show p.la≤p.n by omega) hy).i
 have hans:=X.second hx1 hneg (by rw[←hS];exact hy)
 repeat'(first|refine gA ?_|(refine goG ?_;intro g)|(refine goV ?_;intro v)|refine goE ?_|(refine goEG ?_;intro g)|(refine goEV ?_;intro v)|refine goD ?_|refine goXD ?_|(refine goDG ?_;intro g)|(refine goDV ?_;intro v)|refine gY ?_|refine d19 ?_|fail)
 refine WL.callG (RT xg p.m tv cv2 bv rv2 S.b) _ (List.perm_middle (l₁:=RT xg p.m tv cv2 bv rv2 S.b)).symm (rprice_c xg p.m p.n L tv cv2 bv v6 rv2 ms2 mk2 S p.c2 (by omega) (by omega) (by omega) hD.i.bd (fun i hi k hk=>(hz.T hD.i hi hk).up hKL) (fun i hi k hk=>hz.P hz.c2 hD.i hi hk)) ?_
 rintro _ _ _ ⟨cv4,mc4,rfl,rfl,rfl⟩
 simp only[List.nil_append,List.cons_append]
 refine WL.fact' (fF cv4 (p.n+1) mc4 (X.prc p.m p.c2 S).c) (W.Has.fFsame (q:=prS p.n p.c2 S p.m) hmA fun j hj=>X.prS_prc hD.i.bd hD.i.u (by unfold X.Lp.c2;rw[if_neg (by omega),if_neg (by omega)]) hj) ?_
 repeat'(first|refine gA ?_|(refine goG ?_;intro g)|(refine goV ?_;intro v)|refine goE ?_|(refine goEG ?_;intro g)|(refine goEV ?_;intro v)|refine goD ?_|refine goXD ?_|(refine goDG ?_;intro g)|(refine goDV ?_;intro v)|refine gY ?_|refine d19 ?_|fail)
 refine WL.callG (RT xg p.m tv cv4 bv rv2 S.b) _ (.refl _) (rrun_c xg p.m p.n p.la L F2 tv cv4 bv rv2 ms2 mc4 (X.prc p.m p.c2 S) y (by omega) (by omega) (by omega) hL19 (by omega) hy (fun u=>X.Inv p.m p.n p.A p.c2 u) hDi (fun u k r h hk hr=>run_inv (e:=p.la) (by omega) h hk hr) (fun u hu=>⟨fun i hi k hk=>(hz.T hu hi hk).up hKL,fun k hk=>hz.C hz.c2 hu hk⟩)) ?_
 rintro _ _ _ ⟨cv5,rv5,ms5,mc5,rfl,rfl,rfl⟩
 simp only[List.nil_append,List.cons_append]
 have hTs:∀ i,i < p.m→∀ k,k < p.n+1→Sq K (y.1.t i k):=fun i hi k hk=>hz.T hyi hi hk
 have hnow:∀ k,nowV p.m p.n y.1 k=X.wt p.m y.1 (fun i=>y.1.t i p.n) k:=X.nowV_wt hyi
 have hxs:(fun k=>nowV p.m p.n y.1 k - nowV p.m p.n y.1 (p.v+k))=X.xs p y.1:=funext fun k=>by rw[hnow,hnow];rfl
 have hnq:∀ k,Sq K (nowV p.m p.n y.1 k):=X.nowV_sz hK fun i hi=>hTs i hi _ (by omega)
 have hpx:=rpoint_c xg p.m p.n p.v K tv cv5 bv rv5 ms5 y.1 (-1) (nowV p.m p.n y.1) (by omega) (by omega) (fun k _=>rnow_c xg p.m p.n k tv cv5 bv rv5 ms5 y.1 (by omega) (by omega)) (fun k _=>hnq k)
 rw[hxs] at hpx
 rcases hans with ⟨hy2,hopt⟩|⟨col,hy2,hunb⟩
 ·rw[hy2,show optI none= -1 from rfl]
  refine WL.freezeRT y.1 (bx':=_) (.refl _) hmA ?_
  simp only[List.cons_append,List.nil_append]
  repeat'(first|refine gA ?_|(refine goG ?_;intro g)|(refine goV ?_;intro v)|refine goE ?_|(refine goEG ?_;intro g)|(refine goEV ?_;intro v)|refine goD ?_|refine goXD ?_|(refine goDG ?_;intro g)|(refine goDV ?_;intro v)|refine gY ?_|refine d19 ?_|fail)
  refine WL.callK hpx ?_
  rintro xv _ _ ⟨mx,rfl,rfl⟩
  simp only[List.nil_append,List.cons_append]
  refine WL.fact' (fF (resl cv5 (2*p.v) p.la 4) p.m (fun i=>mc5 (2*p.v+i)) (fun i=>y.1.c (2*p.v+i))) (by rw[hla];exact W.Has.subM (v:=cv5) (ms:=mc5) (q:=y.1.c) hmA (by omega)) ?_
  repeat'(first|refine gA ?_|(refine goG ?_;intro g)|(refine goV ?_;intro v)|refine goE ?_|(refine goEG ?_;intro g)|(refine goEV ?_;intro v)|refine goD ?_|refine goXD ?_|(refine goDG ?_;intro g)|(refine goDV ?_;intro v)|refine gY ?_|refine d19 ?_|fail)
  rw[show(2:Int)*(p.v:Int)=((2*p.v:Nat):Int) by simp]
  repeat'(first|refine gA ?_|(refine goG ?_;intro g)|(refine goV ?_;intro v)|refine goE ?_|(refine goEG ?_;intro g)|(refine goEV ?_;intro v)|refine goD ?_|refine goXD ?_|(refine goDG ?_;intro g)|(refine goDV ?_;intro v)|refine gY ?_|refine d19 ?_|fail)
  have hdot:=rdot_c M.gv xv p.v (2*K+1) M.mg mx p.g (X.xs p y.1) (by omega) hz.d (fun i hi=>(hz.g i hi).up (by omega)) (fun i _=>by rw[←hxs];exact((hnq i).sub (hnq _)).up (by omega))
  refine WD.callK hdot ?_
  rintro _ _ _ ⟨mz,rfl,rfl,rfl⟩
  simp only[List.nil_append,List.cons_append]
  repeat'(first|refine gA ?_|(refine goG ?_;intro g)|(refine goV ?_;intro v)|refine goE ?_|(refine goEG ?_;intro g)|(refine goEV ?_;intro v)|refine goD ?_|refine goXD ?_|(refine goDG ?_;intro g)|(refine goDV ?_;intro v)|refine gY ?_|refine d19 ?_|fail)
  refine WC.freezeF v p.m (fun i=>mc5 (2*p.v+i)) (fun r=>y.1.c (2*p.v+r)) (by repeat(first|exact Sel.head|apply Sel.tail)) (W.Has.fm (v:=resl cv5 (2*p.v) p.la 4) (ms:=fun i=>mc5 (2*p.v+i)) hmA) ?_
  refine WC.ret ?_
  exact Fin.p [] [fA ⟨xv,v,mx,fun i=>mc5 (2*p.v+i),mz⟩ p.v p.m (X.xs p y.1) (fun r=>y.1.c (2*p.v+r)) (X.sm p.v fun k=>p.g k*X.xs p y.1 k)] (ResE.cV rfl rfl meA T.r33 rfl) meA (List.nil_sublist _) (.cons (has_A hmA hmA hmA) .nil) ⟨_,0,p.v,p.m,_,_,_,rfl,rfl,rfl,.inr (.inl ⟨rfl,rfl,rfl,hopt⟩),fun k _=>by rw[←hxs];exact((hnq k).sub (hnq _)).up (by omega),fun k hk=>(hz.C hz.c2 hyi (by omega)).up hR2,by
   refine(X.sq_sm (m:=p.v) (f:=fun k=>p.g k*X.xs p y.1 k) (k:=2*(2*K+1)) fun k hk=>?_).up (by omega)
   refine(((hz.g k hk).up (show K0≤2*K+1 by omega)).mul (l:=2*K+1) ?_).up (by omega)
   rw[←hxs];exact((hnq k).sub (hnq _)).up (by omega)⟩
 ·rcases X.run_end F2 _ y hy with ⟨h1,_⟩|⟨col',h1,hcl,hcn,_⟩
  ·rw[hy2] at h1;cases h1
  rw[hy2] at h1;cases h1
  have hray:(fun k=>rayV p.m y.1 col k - rayV p.m y.1 col (p.v+k))=X.dr p y.1 col:=funext fun k=>by rw[X.rayV_rv hyi hcn,X.rayV_rv hyi hcn];rfl
  have hpr:=rpoint_c xg p.m p.n p.v K tv cv5 bv rv5 ms5 y.1 (col:Int) (rayV p.m y.1 col) (by omega) (by omega) (fun k _=>rray_c xg p.m p.n k col tv cv5 bv rv5 ms5 y.1 (by omega) (by omega) (by omega)) (fun k _=>X.rayV_sz hK (fun i hi=>hTs i hi col (by omega)) k)
  rw[hray] at hpr
  rw[hy2,show optI (some col)=(col:Int) from rfl]
  refine WL.freezeRT y.1 (bx':=_) (.refl _) hmA ?_
  simp only[List.cons_append,List.nil_append]
  repeat'(first|refine gA ?_|(refine goG ?_;intro g)|(refine goV ?_;intro v)|refine goE ?_|(refine goEG ?_;intro g)|(refine goEV ?_;intro v)|refine goD ?_|refine goXD ?_|(refine goDG ?_;intro g)|(refine goDV ?_;intro v)|refine gY ?_|refine d19 ?_|fail)
  refine WD.callK hpx ?_
  rintro xv _ _ ⟨mx,rfl,rfl⟩
  simp only[List.nil_append,List.cons_append]
  repeat'(first|refine gA ?_|(refine goG ?_;intro g)|(refine goV ?_;intro v)|refine goE ?_|(refine goEG ?_;intro g)|(refine goEV ?_;intro v)|refine goD ?_|refine goXD ?_|(refine goDG ?_;intro g)|(refine goDV ?_;intro v)|refine gY ?_|refine d19 ?_|fail)
  refine WD.callK hpr ?_
  rintro yv _ _ ⟨my,rfl,rfl⟩
  simp only[List.nil_append,List.cons_append]
  repeat'(first|refine gA ?_|(refine goG ?_;intro g)|(refine goV ?_;intro v)|refine goE ?_|(refine goEG ?_;intro g)|(refine goEV ?_;intro v)|refine goD ?_|refine goXD ?_|(refine goDG ?_;intro g)|(refine goDV ?_;intro v)|refine gY ?_|refine d19 ?_|fail)
  refine WC.ret ?_
  exact Fin.p [] [fA ⟨xv,yv,mx,my,m00⟩ p.v p.v (X.xs p y.1) (X.dr p y.1 col) 0] (ResE.cV rfl rfl meA T.r33 rfl) meA (List.nil_sublist _) (.cons (has_A hmA hmA hasQ0) .nil) ⟨_,2,p.v,p.v,_,_,0,rfl,rfl,rfl,.inr (.inr ⟨rfl,rfl,rfl,rfl,hunb⟩),fun k _=>by rw[←hxs];exact((hnq k).sub (hnq _)).up (by omega),fun k hk=>by rw[←hray];exact((X.rayV_sz hK (fun i hi=>hTs i hi col (by omega)) k).sub (X.rayV_sz hK (fun i hi=>hTs i hi col (by omega)) _)).up (by omega),Sq.zero.up (by omega)⟩
end U
end Go.Proofs.YtaongbhamadlkaaGreat
namespace Go.Proofs.YtaongbhamadlkaaGreat
open W Go.RowKit
theorem sq_div {p q:Int} (h1:p.natAbs < 1000000000) (h2:0 < q) (h3:q < 1000000000):Sq 1 (Rat.divInt p q):=by
 obtain⟨n,rfl⟩:∃ n:Nat,q=n:=⟨q.toNat,by omega⟩
 rw[Rat.divInt_ofNat]
 exact di_num _ _ (by omega) (digs_len_le (k:=1) (by omega)) (digs_len_le (k:=1) (by omega))
def someV (l:List Int):Nat:=1+(atP l 0 3).toNat
def someG (l:List Int) (k:Nat):Rat:=Rat.divInt (atP l (1+(k:Int)) 7 - 3) 1
def someN (x:Int):Int:=around x 1073741824
def tabl:List Int:=[0,1,-1,0,2,-2,1,3,-3]
def someD (n:Int):Nat→Int
 |0=>n / 57
 |k+1=>someD n k / 18
def someA (n:Int) (k:Nat):Rat:=Rat.divInt (tabl.getD (someD n k % 9).toNat 0) (1+someD n k / 9 % 2)
def someB (n:Int):Rat:=Rat.divInt (n % 19 - 6) (1+n / 19 % 3)
def someLn (v:Nat) (x:Int):X.Ln:=((List.range v).map (someA (someN x)),someB (someN x))
def someL (l:List Int) (most:Nat):List X.Ln:=((l.drop 4).take most).map (someLn (someV l))
def someP (l:List Int) (most:Nat):X.Lp:=X.lpOf (someV l) (someL l most) (someG l)
theorem someV_le (l:List Int):1≤someV l∧someV l≤3:=by
 have:=atP_lt (l:=l) (i:=0) (m:=3) (by decide)
 unfold someV;omega
theorem someD_le {n:Int} (h0:0≤n) (h:n < 1073741824):∀ k,0≤someD n k∧someD n k < 1073741824
 |0=>by unfold someD;omega
 |k+1=>by have:=someD_le h0 h k;unfold someD;omega
theorem tabl_le {i:Nat}:(tabl.getD i 0).natAbs≤3:=by
 match i with
 |0|1|2|3|4|5|6|7|8=>decide
 |i+9=>show(0:Int).natAbs≤3;decide
theorem someG_sq (l:List Int) (k:Nat):Sq 1 (someG l k):=by
 have:=atP_lt (l:=l) (i:=1+(k:Int)) (m:=7) (by decide)
 exact sq_div (by omega) (by decide) (by decide)
theorem someN_le (x:Int):0≤someN x∧someN x < 1073741824:=around_lt (by decide)
theorem someA_sq (x:Int) (k:Nat):Sq 1 (someA (someN x) k):=by
 have h:=someD_le (someN_le x).1 (someN_le x).2 k
 have:=@tabl_le (someD (someN x) k % 9).toNat
 exact sq_div (by omega) (by omega) (by omega)
theorem someB_sq (x:Int):Sq 1 (someB (someN x)):=by
 have h:=someN_le x
 exact sq_div (by omega) (by omega) (by omega)
theorem someLn_co {v:Nat} {x:Int} {k:Nat} (hk:k < v):X.co (someLn v x) k=someA (someN x) k:=by
 unfold X.co someLn;simp[List.getD_eq_getElem?_getD,hk]
theorem someL_sq (l:List Int) (most:Nat):LSq 1 (someV l) (someL l most):=fun c hc=>by
 unfold someL at hc
 obtain⟨x,_,rfl⟩:=List.mem_map.1 hc
 refine⟨by simp[someLn],fun k hk=>?_,someB_sq x⟩
 rw[someLn_co hk];exact someA_sq x k
theorem someL_len (l:List Int) (most:Nat):(someL l most).length≤most:=by
 unfold someL;rw[List.length_map,List.length_take];omega
def IsPg (p:X.Lp):RPost:=fun v B G=>∃ M:Pm,v=pgv M p.v∧B=[]∧G=[fP M p]
theorem some_take {l:List Int} {v i:Nat} (h:4+i < l.length):((l.drop 4).take (i+1)).map (someLn v)=((l.drop 4).take i).map (someLn v)++[someLn v (l.getD (4+i) 0)]:=by
 have h2:i < (l.drop 4).length:=by rw[List.length_drop];omega
 rw[List.take_succ_eq_append_getElem h2,List.map_append]
 congr 2
 rw[List.getElem_drop,List.getD_eq_getElem?_getD,List.getElem?_eq_getElem h];rfl
namespace U
open Z
attribute [local irreducible] WC WL WD YO LO LoopEnd W.Fin Scalar SliceT FieldAt Row ArrT AllocT KnS Has W.One SrcE IntT
theorem d11 {G G':Prop} (h:G') (s:Bx G'→G:=by
 intro h
 first|(apply WC.draw (id:=5) [0,1,2,3,4,6] (.held 0 (.held 1 (.held 2 (.held 3 (.held 4 (.loud 5 (.held 6 (.loud 7 (.loud 8 (.loud 9 (.loud 10 (.loud 11 (.done))))))))))))) mixed (by kernel_rfl))|(apply WC.draw (id:=15) [0,1,3,4,7,8,9,10] (.held 0 (.held 1 (.held 3 (.held 4 (.held 7 (.held 8 (.held 9 (.held 10 (.loud 2 (.loud 5 (.loud 6 (.loud 11 (.loud 12 (.loud 13 (.loud 14 (.loud 15 (.done))))))))))))))))) mixed (by kernel_rfl))|fail
 exact Bx.h h):G:=s ⟨h⟩
structure MS where
 sv:Value
 M:Pm
set_option maxHeartbeats 8000000 in
set_option maxRecDepth 60000 in
theorem some_c (v0:Value) (l:List Int) (most:Nat) (hl:∀ x∈l,I64 x) (hm:most≤100):FnB Tryz.prog 11 [v0,.int .i64 (most:Int)] [] [sI v0 l] (IsPg (someP l most)):=by
 refine fn_of [(0,v0),(1,(.int .i64 (most:Int)))] 90 Tryz.func11 rfl Tryz.ntmps11 (by kernel_rfl) rfl suA fun h0=>?_
 have hv:=someV_le l
 have hat:=atP_lt (l:=l) (i:=0) (m:=3) (by decide)
 refine WC.addNil 60 5 ?_
 refine WC.addNil 31 4 ?_
 refine WC.lenI v0 l hmA fun hlen=>?_
 repeat'(first|refine gB ?_|(refine gH ?_;intro g)|(refine gW ?_;intro v)|refine gY ?_|refine d11 ?_|fail)
 revert g;intro g4
 first|refine WL.callV (at_c v0 l 0 3 hl (by decide)) ?_|refine WD.callV (at_c v0 l 0 3 hl (by decide)) ?_
 repeat'(first|refine gB ?_|(refine gH ?_;intro g)|(refine gW ?_;intro v)|refine gY ?_|refine d11 ?_|fail)
 rw[show(1:Int)+atP l 0 3=((someV l:Nat):Int) by unfold someV;omega]
 revert g;intro g5
 refine WC.lp (σ:=Nat×Value×(Nat→QM)) (fun st=>[(6,.int .i64 (st.1:Int)),(5,ptr g5),(4,ptr g4),(0,v0),(1,.int .i64 (most:Int))])
  (fun st=>[Ow.cells g5 26 [.int .i64 (someV l:Int),.slice none 0 0,st.2.1],Ow.cells g4 26 [.int .i64 0,.slice none 0 0,.slice none 0 0],Ow.slice st.2.1 31 4 (qcells st.1 st.2.2),Ow.slice (.slice none 0 0) 60 5 []])
  (fun st=>[mF st.1 st.2.2 (clx (someG l) st.1),ge h0,sI v0 l]) (fun st=>st.1≤someV l) (fun st=>someV l - st.1) (0,.slice none 0 0,fun _=>m00) (Nat.zero_le _) ?_ (hG:=.cons (W.Has.mFn _ _) sfA)
 rintro⟨k,sv,ms⟩ hk
 simp only at hk ⊢
 by_cases c:k < someV l
 ·have hak:=atP_lt (l:=l) (i:=1+(k:Int)) (m:=7) (by decide)
  repeat'(first|refine gB ?_|(refine gH ?_;intro g)|(refine gW ?_;intro v)|refine gY ?_|refine d11 ?_|fail)
  first|refine WL.callV (at_c v0 l (1+(k:Int)) 7 hl (by decide)) ?_|refine WD.callV (at_c v0 l (1+(k:Int)) 7 hl (by decide)) ?_
  repeat'(first|refine gB ?_|(refine gH ?_;intro g)|(refine gW ?_;intro v)|refine gY ?_|refine d11 ?_|fail)
  first|refine WL.callK (Zn.rof (atP l (1+(k:Int)) 7 - 3) 1 (by show _ < 1000000000000000000;omega) (by decide)) ?_|refine WD.callK (Zn.rof (atP l (1+(k:Int)) 7 - 3) 1 (by show _ < 1000000000000000000;omega) (by decide)) ?_|refine LO.callM (Zn.rof (atP l (1+(k:Int)) 7 - 3) 1 (by show _ < 1000000000000000000;omega) (by decide)) ?_
  rintro _ _ _ ⟨m3,rfl,rfl,rfl⟩
  simp only[List.nil_append,List.cons_append]
  refine WD.fact (mF (k+1) (upd ms k m3) (clx (someG l) (k+1))) ((W.Has.mFapp (n:=k) (ms:=ms) (m:=m3) (qf:=clx _ k) hmA (show Has _ (isQ (qv m3) (someG l k)) from hmA)).mFsame fun j hj=>clx_up (c:=someG l) j) ?_
  repeat'(first|refine gB ?_|(refine gH ?_;intro g)|(refine gW ?_;intro v)|refine gY ?_|refine d11 ?_|fail)
  exact LoopEnd.mk (k+1,_,_) (by show k+1≤someV l;omega) (by show someV l - (k+1) < someV l - k;omega)
 ·obtain rfl:k=someV l:=by omega
  refine WC.freezeF sv (someV l) ms (someG l) (by repeat(first|exact Sel.head|apply Sel.tail)) (W.Has.mFsame (qf:=clx (someG l) (someV l)) hmA fun j hj=>by unfold clx;rw[if_pos hj]) ?_
  have hnI:min most (l.length - 4)≤most:=Nat.min_le_left _ _
  repeat'(first|refine gB ?_|(refine gH ?_;intro g)|(refine gW ?_;intro v)|refine gY ?_|refine d11 ?_|fail)
  refine WC.lp (σ:=Nat×MS) (fun st=>[(7,.int .i64 ((4+st.1:Nat):Int)),(5,ptr g5),(4,ptr g4),(0,v0),(1,.int .i64 (most:Int))])
   (fun st=>[Ow.cells g5 26 [.int .i64 (someV l:Int),st.2.sv,sv],Ow.cells g4 26 [.int .i64 0,.slice none 0 0,.slice none 0 0],Ow.slice st.2.sv 60 5 (lncells st.1 st.2.M)])
   (fun st=>[lnQ st.2.M (someV l) (((l.drop 4).take st.1).map (someLn (someV l))),fF sv (someV l) ms (someG l),ge h0,sI v0 l]) (fun st=>st.1≤min most (l.length - 4)) (fun st=>min most (l.length - 4) - st.1) (0,⟨.slice none 0 0,Pm.no⟩) (Nat.zero_le _) ?_ (hG:=.cons W.Has.lnn sfA)
  rintro⟨i,so,N⟩ hi
  simp only at hi ⊢
  have hll:(((l.drop 4).take i).map (someLn (someV l))).length=i:=by
   rw[List.length_map,List.length_take,List.length_drop];omega
  by_cases c:i < min most (l.length - 4)
  ·have c1:4+i < l.length:=by omega
   have c2:i < most:=by omega
   have hst:=some_take (v:=someV l) c1
   have hn:=someN_le (l.getD (4+i) 0)
   refine WC.addNil 31 4 ?_
   repeat'(first|refine gB ?_|(refine gH ?_;intro g)|(refine gW ?_;intro v)|refine gY ?_|refine d11 ?_|fail)
   first|refine WL.callV (around_c (l.getD (4+i) 0) 1073741824 (getD_i64 hl _) (by decide)) ?_|refine WD.callV (around_c (l.getD (4+i) 0) 1073741824 (getD_i64 hl _) (by decide)) ?_
   rw[show around (l.getD (4+i) 0) 1073741824=someN (l.getD (4+i) 0) from rfl]
   repeat'(first|refine gB ?_|(refine gH ?_;intro g)|(refine gW ?_;intro v)|refine gY ?_|refine d11 ?_|fail)
   generalize hnn:someN (l.getD (4+i) 0)=n at *
   first|refine WL.callK (Zn.rof (n % 19 - 6) (1+n / 19 % 3) (by show _ < 1000000000000000000;omega) (by show _ < 1000000000000000000;omega)) ?_|refine WD.callK (Zn.rof (n % 19 - 6) (1+n / 19 % 3) (by show _ < 1000000000000000000;omega) (by show _ < 1000000000000000000;omega)) ?_|refine LO.callM (Zn.rof (n % 19 - 6) (1+n / 19 % 3) (by show _ < 1000000000000000000;omega) (by show _ < 1000000000000000000;omega)) ?_
   rintro _ _ _ ⟨mb,rfl,rfl,rfl⟩
   simp only[List.nil_append,List.cons_append]
   refine WL.fact' (isQ (qv mb) (someB n)) hmA ?_
   repeat'(first|refine gB ?_|(refine gH ?_;intro g)|(refine gW ?_;intro v)|refine gY ?_|refine d11 ?_|fail)
   revert g;intro g9
   refine WC.lp (σ:=Nat×Value×(Nat→QM)) (fun st=>[(10,.int .i64 (st.1:Int)),(8,.int .i64 (someD n st.1)),(9,ptr g9),(7,.int .i64 ((4+i:Nat):Int)),(5,ptr g5),(4,ptr g4),(0,v0),(1,.int .i64 (most:Int))])
    (fun st=>[Ow.cells g9 60 (st.2.1::qcs mb),Ow.slice st.2.1 31 4 (qcells st.1 st.2.2),Ow.cells g5 26 [.int .i64 (someV l:Int),so,sv],Ow.cells g4 26 [.int .i64 0,.slice none 0 0,.slice none 0 0],Ow.slice so 60 5 (lncells i N)])
    (fun st=>[mF st.1 st.2.2 (clx (someA n) st.1),isQ (qv mb) (someB n),lnQ N (someV l) (((l.drop 4).take i).map (someLn (someV l))),fF sv (someV l) ms (someG l),ge h0,sI v0 l]) (fun st=>st.1≤someV l) (fun st=>someV l - st.1) (0,.slice none 0 0,fun _=>m00) (Nat.zero_le _) ?_ (hG:=.cons (W.Has.mFn _ _) sfA)
   rintro⟨k,sa,ma⟩ hk
   simp only at hk ⊢
   have hd:=someD_le hn.1 hn.2 k
   by_cases ck:k < someV l
   ·have ht:=@tabl_le (someD n k % 9).toNat
    repeat'(first|refine gB ?_|(refine gH ?_;intro g)|(refine gW ?_;intro v)|refine gY ?_|refine d11 ?_|fail)
    refine WD.perm (Ow.slice v 3 1 (ints tabl)::_) (List.Perm.refl _) ?_
    have htl:(tabl.length:Int)=9:=rfl
    have htn:tabl.length=9:=rfl
    repeat'(first|refine gB ?_|(refine gH ?_;intro g)|(refine gW ?_;intro v)|refine gY ?_|refine d11 ?_|fail)
    first|refine WL.callK (Zn.rof (tabl.getD (someD n k % 9).toNat 0) (1+someD n k / 9 % 2) (by show _ < 1000000000000000000;omega) (by show _ < 1000000000000000000;omega)) ?_|refine WD.callK (Zn.rof (tabl.getD (someD n k % 9).toNat 0) (1+someD n k / 9 % 2) (by show _ < 1000000000000000000;omega) (by show _ < 1000000000000000000;omega)) ?_|refine LO.callM (Zn.rof (tabl.getD (someD n k % 9).toNat 0) (1+someD n k / 9 % 2) (by show _ < 1000000000000000000;omega) (by show _ < 1000000000000000000;omega)) ?_
    rintro _ _ _ ⟨m3,rfl,rfl,rfl⟩
    simp only[List.nil_append,List.cons_append]
    refine WD.fact (mF (k+1) (upd ma k m3) (clx (someA n) (k+1))) ((W.Has.mFapp (n:=k) (ms:=ma) (m:=m3) (qf:=clx _ k) hmA (show Has _ (isQ (qv m3) (someA n k)) from hmA)).mFsame fun j hj=>clx_up (c:=someA n) j) ?_
    repeat'(first|refine gB ?_|(refine gH ?_;intro g)|(refine gW ?_;intro v)|refine gY ?_|refine d11 ?_|fail)
    exact LoopEnd.mk (k+1,_,_) (by show k+1≤someV l;omega) (by show someV l - (k+1) < someV l - k;omega)
   ·obtain rfl:k=someV l:=by omega
    refine WC.freezeF sa (someV l) ma (X.co (someLn (someV l) (l.getD (4+i) 0))) (by repeat(first|exact Sel.head|apply Sel.tail)) (W.Has.mFsame (qf:=clx (someA n) (someV l)) hmA fun j hj=>by rw[someLn_co hj,hnn];unfold clx;rw[if_pos hj]) ?_
    refine WC.fact (lnQ (N.app i sa ma mb) (someV l) (((l.drop 4).take (i+1)).map (someLn (someV l)))) (by
     have h:=fun F h1 h2 h3=>W.Has.lnapp (F:=F) (M:=N) (w:=someV l) (L:=((l.drop 4).take i).map (someLn (someV l))) (a:=sa) (ma:=ma) (b:=mb) h1 (someLn (someV l) (l.getD (4+i) 0)) h2 h3
     rw[hll] at h
     rw[hst]
     refine h _ hmA hmA ?_
     show Has _ (isQ (qv mb) (someB (someN (l.getD (4+i) 0))))
     rw[hnn];exact hmA) ?_
    repeat'(first|refine gB ?_|(refine gH ?_;intro g)|(refine gW ?_;intro v)|refine gY ?_|refine d11 ?_|fail)
    exact LoopEnd.mk (i+1,⟨_,_⟩) (by show i+1≤min most (l.length - 4);omega) (by show min most (l.length - 4) - (i+1) < min most (l.length - 4) - i;omega)
  ·obtain rfl:i=min most (l.length - 4):=by omega
   have hS:((l.drop 4).take (min most (l.length - 4))).map (someLn (someV l))=someL l most:=by
    unfold someL
    congr 1
    rw[List.take_eq_take_iff,List.length_drop];omega
   have hi2:(someL l most).length=min most (l.length - 4):=by rw[←hS];exact hll
   rw[hS,←hi2]
   clear hll hS
   refine WC.freezeLn so N (someV l) (someL l most) (by repeat(first|exact Sel.head|apply Sel.tail)) hmA ?_
   refine WC.fact (fP ((N.at so).wg sv ms) (someP l most)) (W.Has.lnp (W.Has.lnwg (M:=N.at so) hmA) (show Has _ (fF sv (someV l) ms (someG l)) from hmA)) ?_
   by_cases c1:4+(someL l most).length < l.length
   ·have c2:¬(someL l most).length < most:=by omega
    repeat'(first|refine gB ?_|(refine gH ?_;intro g)|(refine gW ?_;intro v)|refine gY ?_|refine d11 ?_|fail)
    exact WC.ret (Fin.p [] [fP ((N.at so).wg sv ms) (someP l most)] (ResE.cV rfl rfl meA T.r26 rfl) meA (List.nil_sublist _) haA ⟨(N.at so).wg sv ms,rfl,rfl,rfl⟩)
   ·repeat'(first|refine gB ?_|(refine gH ?_;intro g)|(refine gW ?_;intro v)|refine gY ?_|refine d11 ?_|fail)
    exact WC.ret (Fin.p [] [fP ((N.at so).wg sv ms) (someP l most)] (ResE.cV rfl rfl meA T.r26 rfl) meA (List.nil_sublist _) haA ⟨(N.at so).wg sv ms,rfl,rfl,rfl⟩)
end U
end Go.Proofs.YtaongbhamadlkaaGreat
namespace Go.Proofs.YtaongbhamadlkaaGreat
open W Go.RowKit
def IsAw (N R:Nat):RPost:=fun v B G=>∃ (M:Am) (kind:Int) (xn yn:Nat) (x y:Nat→Rat) (z:Rat),v=agv M kind∧B=[]∧G=[fA M xn yn x y z]∧xn≤N∧yn≤N∧(∀ k,k < xn→Sq R (x k))∧(∀ k,k < yn→Sq R (y k))∧Sq R z
theorem i64_tdiv {i:Int} (h:I64 i):IntKind.i64.wrap (i.tdiv 9)=i.tdiv 9∧I64 (i.tdiv 9):=by
 have h1:=Int.natAbs_tdiv i 9
 have h2:i.natAbs / 9≤i.natAbs:=Nat.div_le_self _ _
 have h3:i.natAbs / 9*9≤i.natAbs:=Nat.div_mul_le_self _ _
 obtain⟨h4,h5⟩:=h
 have h6:(i.tdiv 9).natAbs=i.natAbs / 9:=h1
 have h7:I64 (i.tdiv 9):=by constructor <;> omega
 exact⟨wrap_i64 h7.1 h7.2,h7⟩
def bentV (b:Int):Rat:=Rat.divInt (around b 9 - 4) (1+around (b.tdiv 9) 3)
theorem bentV_sq (b:Int):Sq 1 (bentV b):=by
 have h1:=around_lt (n:=b) (m:=9) (by decide)
 have h2:=around_lt (n:=b.tdiv 9) (m:=3) (by decide)
 exact sq_div (by omega) (by omega) (by omega)
def mulK (y:Nat→Rat) (f:Rat) (i k:Nat):Rat:=if k < i then y k*f else y k
theorem mulK_up {y:Nat→Rat} {f:Rat} {i:Nat} (k:Nat):upd (mulK y f i) i (y i*f) k=mulK y f (i+1) k:=by
 unfold mulK
 by_cases e:k=i
 ·subst e;rw[upd_at,if_pos (by omega)]
 ·rw[upd_ne e]
  by_cases c:k < i
  ·rw[if_pos c,if_pos (by omega)]
  ·rw[if_neg c,if_neg (by omega)]
theorem upd_sq {R n i:Nat} {q:Nat→Rat} {a:Rat} (h:∀ k,k < n→Sq R (q k)) (ha:Sq R a):∀ k,k < n→Sq R (upd q i a k):=fun k hk=>by
 by_cases e:k=i
 ·subst e;rw[upd_at];exact ha
 ·rw[upd_ne e];exact h k hk
namespace U
open Z
attribute [local irreducible] WC WL WD YO LO LoopEnd W.Fin Scalar SliceT FieldAt Row ArrT AllocT KnS Has W.One SrcE IntT
theorem d20 {G G':Prop} (h:G') (s:Bx G'→G:=by
 intro h
 first|(apply WC.draw (id:=10) [0,1,2,3,4,5,6] (.held 0 (.held 1 (.held 2 (.held 3 (.held 4 (.held 5 (.held 6 (.loud 7 (.loud 8 (.loud 9 (.done))))))))))) mixed (by kernel_rfl))|(apply WC.draw (id:=14) [0,1,2,3,4,5,6] (.held 0 (.held 1 (.held 2 (.held 3 (.held 4 (.held 5 (.held 6 (.loud 7 (.loud 8 (.loud 9 (.done))))))))))) mixed (by kernel_rfl))|(apply WC.draw (id:=25) [0,1,2,3,4,5,6] (.held 0 (.held 1 (.held 2 (.held 3 (.held 4 (.held 5 (.held 6 (.loud 7 (.loud 8 (.loud 9 (.done))))))))))) mixed (by kernel_rfl))|fail
 exact Bx.h h):G:=s ⟨h⟩
set_option maxHeartbeats 16000000 in
set_option maxRecDepth 60000 in
theorem bent_c (M:Am) (kind:Int) (xn yn N R:Nat) (x y:Nat→Rat) (z:Rat) (how at_ by_:Int) (hh:I64 how) (ha:I64 at_) (hb:I64 by_) (hN:N≤1000) (hxn:xn≤N) (hyn:yn≤N) (hR:R≤190000000) (hx:∀ k,k < xn→Sq R (x k)) (hy:∀ k,k < yn→Sq R (y k)) (hz:Sq R z) :
  FnB Tryz.prog 20 [agv M kind,.int .i64 how,.int .i64 at_,.int .i64 by_] [] [fA M xn yn x y z] (IsAw (N+1) (R+2)):=by
 refine fn_of [(0,(agv M kind)),(1,(.int .i64 how)),(2,(.int .i64 at_)),(3,(.int .i64 by_))] 118 Tryz.func20 rfl Tryz.ntmps20 (by kernel_rfl) rfl suA fun h0=>?_
 have h9:=around_lt (n:=by_) (m:=9) (by decide)
 have h3:=around_lt (n:=by_.tdiv 9) (m:=3) (by decide)
 have h7:=around_lt (n:=how) (m:=7) (by decide)
 have hvq:=bentV_sq by_
 refine WC.fact (fF M.xv xn M.mx x) (W.Has.ax (M:=M) (xn:=xn) (yn:=yn) (x:=x) (y:=y) (z:=z) hmA) ?_
 refine WC.fact (fF M.yv yn M.my y) (W.Has.ay (M:=M) (xn:=xn) (yn:=yn) (x:=x) (y:=y) (z:=z) hmA) ?_
 refine WC.fact (isQ (qv M.mz) z) (W.Has.az (M:=M) (xn:=xn) (yn:=yn) (x:=x) (y:=y) (z:=z) hmA) ?_
 repeat'(first|refine gA ?_|(refine goG ?_;intro g)|(refine goV ?_;intro v)|refine goE ?_|(refine goEG ?_;intro g)|(refine goEV ?_;intro v)|refine goD ?_|refine goXD ?_|(refine goDG ?_;intro g)|(refine goDV ?_;intro v)|refine gY ?_|refine d20 ?_|fail)
 first|refine WL.callV (around_c by_ 9 hb (by decide)) ?_|refine WD.callV (around_c by_ 9 hb (by decide)) ?_
 repeat'(first|refine gA ?_|(refine goG ?_;intro g)|(refine goV ?_;intro v)|refine goE ?_|(refine goEG ?_;intro g)|(refine goEV ?_;intro v)|refine goD ?_|refine goXD ?_|(refine goDG ?_;intro g)|(refine goDV ?_;intro v)|refine gY ?_|refine d20 ?_|fail)
 (apply WL.k_quo;(apply YO.tquo;exact rfl;exact rfl;omega);exact rfl;exact rfl)
 rw[(i64_tdiv hb).1]
 first|refine WL.callV (around_c (by_.tdiv 9) 3 (i64_tdiv hb).2 (by decide)) ?_|refine WD.callV (around_c (by_.tdiv 9) 3 (i64_tdiv hb).2 (by decide)) ?_
 repeat'(first|refine gA ?_|(refine goG ?_;intro g)|(refine goV ?_;intro v)|refine goE ?_|(refine goEG ?_;intro g)|(refine goEV ?_;intro v)|refine goD ?_|refine goXD ?_|(refine goDG ?_;intro g)|(refine goDV ?_;intro v)|refine gY ?_|refine d20 ?_|fail)
 first|refine WL.callK (Zn.rof (around by_ 9 - 4) (1+around (by_.tdiv 9) 3) (by show _ < 1000000000000000000;omega) (by show _ < 1000000000000000000;omega)) ?_|refine WD.callK (Zn.rof (around by_ 9 - 4) (1+around (by_.tdiv 9) 3) (by show _ < 1000000000000000000;omega) (by show _ < 1000000000000000000;omega)) ?_|refine LO.callM (Zn.rof (around by_ 9 - 4) (1+around (by_.tdiv 9) 3) (by show _ < 1000000000000000000;omega) (by show _ < 1000000000000000000;omega)) ?_
 rintro _ _ _ ⟨mv,rfl,rfl,rfl⟩
 simp only[List.nil_append,List.cons_append]
 refine WL.fact' (isQ (qv mv) (bentV by_)) hmA ?_
 repeat'(first|refine gA ?_|(refine goG ?_;intro g)|(refine goV ?_;intro v)|refine goE ?_|(refine goEG ?_;intro g)|(refine goEV ?_;intro v)|refine goD ?_|refine goXD ?_|(refine goDG ?_;intro g)|(refine goDV ?_;intro v)|refine gY ?_|refine d20 ?_|fail)
 first|refine WL.callV (around_c how 7 hh (by decide)) ?_|refine WD.callV (around_c how 7 hh (by decide)) ?_
 rename_i g4 g8 w1 xv w2
 revert v;intro yv
 revert g;intro g11
 generalize around how 7=r at *
 by_cases r0:r=0
 ·have h5:=around_lt (n:=by_) (m:=5) (by decide)
  repeat'(first|refine gA ?_|(refine goG ?_;intro g)|(refine goV ?_;intro v)|refine goE ?_|(refine goEG ?_;intro g)|(refine goEV ?_;intro v)|refine goD ?_|refine goXD ?_|(refine goDG ?_;intro g)|(refine goDV ?_;intro v)|refine gY ?_|refine d20 ?_|fail)
  first|refine WL.callV (around_c by_ 5 hb (by decide)) ?_|refine WD.callV (around_c by_ 5 hb (by decide)) ?_
  repeat'(first|refine gA ?_|(refine goG ?_;intro g)|(refine goV ?_;intro v)|refine goE ?_|(refine goEG ?_;intro g)|(refine goEV ?_;intro v)|refine goD ?_|refine goXD ?_|(refine goDG ?_;intro g)|(refine goDV ?_;intro v)|refine gY ?_|refine d20 ?_|fail)
  refine WC.freezeF xv xn M.mx x (by repeat(first|exact Sel.head|apply Sel.tail)) (W.Has.fm (v:=M.xv) (ms:=M.mx) hmA) ?_
  refine WC.freezeF yv yn M.my y (by repeat(first|exact Sel.head|apply Sel.tail)) (W.Has.fm (v:=M.yv) (ms:=M.my) hmA) ?_
  refine WC.ret ?_
  exact Fin.p [] [fA ⟨xv,yv,M.mx,M.my,M.mz⟩ xn yn x y z] (ResE.cV rfl rfl meA T.r33 rfl) meA (List.nil_sublist _) (.cons (has_A hmA hmA hmA) .nil) ⟨⟨xv,yv,M.mx,M.my,M.mz⟩,(around by_ 5 - 1),xn,yn,x,y,z,rfl,rfl,rfl,by omega,by omega,fun k hk=>(hx k hk).up (by omega),fun k hk=>(hy k hk).up (by omega),hz.up (by omega)⟩
 by_cases r1:r=1
 ·by_cases c0:0 < xn
  ·skip
   obtain⟨k,hk⟩:∃ k:Nat,around at_ (xn:Int)=k:=⟨(around at_ (xn:Int)).toNat,by have:=@around_lt at_ (xn:Int) (by omega);omega⟩
   have hkn:k < xn:=by have:=@around_lt at_ (xn:Int) (by omega);omega
   have har:=around_c at_ (xn:Int) ha (by omega)
   rw[hk] at har
   refine WL.fact' (isQ (qv (M.mx k)) (x k)) (W.Has.q (W.Has.fm (v:=M.xv) (ms:=M.mx) hmA) hkn) ?_
   repeat'(first|refine gA ?_|(refine goG ?_;intro g)|(refine goV ?_;intro v)|refine goE ?_|(refine goEG ?_;intro g)|(refine goEV ?_;intro v)|refine goD ?_|refine goXD ?_|(refine goDG ?_;intro g)|(refine goDV ?_;intro v)|refine gY ?_|refine d20 ?_|fail)
   first|refine WL.callV (har) ?_|refine WD.callV (har) ?_
   repeat'(first|refine gA ?_|(refine goG ?_;intro g)|(refine goV ?_;intro v)|refine goE ?_|(refine goEG ?_;intro g)|(refine goEV ?_;intro v)|refine goD ?_|refine goXD ?_|(refine goDG ?_;intro g)|(refine goDV ?_;intro v)|refine gY ?_|refine d20 ?_|fail)
   first|refine WL.callK (Zn.radd (M.mx k) mv (x k) (bentV by_) ((hx k hkn).sm (by omega)) (hvq.sm (by decide))) ?_|refine WD.callK (Zn.radd (M.mx k) mv (x k) (bentV by_) ((hx k hkn).sm (by omega)) (hvq.sm (by decide))) ?_|refine LO.callM (Zn.radd (M.mx k) mv (x k) (bentV by_) ((hx k hkn).sm (by omega)) (hvq.sm (by decide))) ?_
   rintro _ _ _ ⟨m3,rfl,rfl,rfl⟩
   simp only[List.nil_append,List.cons_append]
   repeat'(first|refine gA ?_|(refine goG ?_;intro g)|(refine goV ?_;intro v)|refine goE ?_|(refine goEG ?_;intro g)|(refine goEV ?_;intro v)|refine goD ?_|refine goXD ?_|(refine goDG ?_;intro g)|(refine goDV ?_;intro v)|refine gY ?_|refine d20 ?_|fail)
   refine WC.freezeF xv xn (upd M.mx k m3) (upd x k (x k+bentV by_)) (by repeat(first|exact Sel.head|apply Sel.tail)) (W.Has.mFset (k:=k) (ms:=M.mx) (m:=m3) (qf:=x) (W.Has.fm (v:=M.xv) (ms:=M.mx) hmA) hmA) ?_
   refine WC.freezeF yv yn M.my y (by repeat(first|exact Sel.head|apply Sel.tail)) (W.Has.fm (v:=M.yv) (ms:=M.my) hmA) ?_
   refine WC.ret ?_
   exact Fin.p [] [fA ⟨xv,yv,(upd M.mx k m3),M.my,M.mz⟩ xn yn (upd x k (x k+bentV by_)) y z] (ResE.cV rfl rfl meA T.r33 rfl) meA (List.nil_sublist _) (.cons (has_A hmA hmA hmA) .nil) ⟨⟨xv,yv,(upd M.mx k m3),M.my,M.mz⟩,kind,xn,yn,(upd x k (x k+bentV by_)),y,z,rfl,rfl,rfl,by omega,by omega,upd_sq (fun k hk=>(hx k hk).up (by omega)) ((((hx k hkn).add hvq)).up (by omega)),fun k hk=>(hy k hk).up (by omega),hz.up (by omega)⟩
  ·repeat'(first|refine gA ?_|(refine goG ?_;intro g)|(refine goV ?_;intro v)|refine goE ?_|(refine goEG ?_;intro g)|(refine goEV ?_;intro v)|refine goD ?_|refine goXD ?_|(refine goDG ?_;intro g)|(refine goDV ?_;intro v)|refine gY ?_|refine d20 ?_|fail)
   refine WC.freezeF xv xn M.mx x (by repeat(first|exact Sel.head|apply Sel.tail)) (W.Has.fm (v:=M.xv) (ms:=M.mx) hmA) ?_
   refine WC.freezeF yv yn M.my y (by repeat(first|exact Sel.head|apply Sel.tail)) (W.Has.fm (v:=M.yv) (ms:=M.my) hmA) ?_
   refine WC.ret ?_
   exact Fin.p [] [fA ⟨xv,yv,M.mx,M.my,M.mz⟩ xn yn x y z] (ResE.cV rfl rfl meA T.r33 rfl) meA (List.nil_sublist _) (.cons (has_A hmA hmA hmA) .nil) ⟨⟨xv,yv,M.mx,M.my,M.mz⟩,kind,xn,yn,x,y,z,rfl,rfl,rfl,by omega,by omega,fun k hk=>(hx k hk).up (by omega),fun k hk=>(hy k hk).up (by omega),hz.up (by omega)⟩
 by_cases r2:r=2
 ·by_cases c0:0 < yn
  ·skip
   obtain⟨k,hk⟩:∃ k:Nat,around at_ (yn:Int)=k:=⟨(around at_ (yn:Int)).toNat,by have:=@around_lt at_ (yn:Int) (by omega);omega⟩
   have hkn:k < yn:=by have:=@around_lt at_ (yn:Int) (by omega);omega
   have har:=around_c at_ (yn:Int) ha (by omega)
   rw[hk] at har
   refine WL.fact' (isQ (qv (M.my k)) (y k)) (W.Has.q (W.Has.fm (v:=M.yv) (ms:=M.my) hmA) hkn) ?_
   repeat'(first|refine gA ?_|(refine goG ?_;intro g)|(refine goV ?_;intro v)|refine goE ?_|(refine goEG ?_;intro g)|(refine goEV ?_;intro v)|refine goD ?_|refine goXD ?_|(refine goDG ?_;intro g)|(refine goDV ?_;intro v)|refine gY ?_|refine d20 ?_|fail)
   first|refine WL.callV (har) ?_|refine WD.callV (har) ?_
   repeat'(first|refine gA ?_|(refine goG ?_;intro g)|(refine goV ?_;intro v)|refine goE ?_|(refine goEG ?_;intro g)|(refine goEV ?_;intro v)|refine goD ?_|refine goXD ?_|(refine goDG ?_;intro g)|(refine goDV ?_;intro v)|refine gY ?_|refine d20 ?_|fail)
   first|refine WL.callK (Zn.radd (M.my k) mv (y k) (bentV by_) ((hy k hkn).sm (by omega)) (hvq.sm (by decide))) ?_|refine WD.callK (Zn.radd (M.my k) mv (y k) (bentV by_) ((hy k hkn).sm (by omega)) (hvq.sm (by decide))) ?_|refine LO.callM (Zn.radd (M.my k) mv (y k) (bentV by_) ((hy k hkn).sm (by omega)) (hvq.sm (by decide))) ?_
   rintro _ _ _ ⟨m3,rfl,rfl,rfl⟩
   simp only[List.nil_append,List.cons_append]
   repeat'(first|refine gA ?_|(refine goG ?_;intro g)|(refine goV ?_;intro v)|refine goE ?_|(refine goEG ?_;intro g)|(refine goEV ?_;intro v)|refine goD ?_|refine goXD ?_|(refine goDG ?_;intro g)|(refine goDV ?_;intro v)|refine gY ?_|refine d20 ?_|fail)
   refine WC.freezeF xv xn M.mx x (by repeat(first|exact Sel.head|apply Sel.tail)) (W.Has.fm (v:=M.xv) (ms:=M.mx) hmA) ?_
   refine WC.freezeF yv yn (upd M.my k m3) (upd y k (y k+bentV by_)) (by repeat(first|exact Sel.head|apply Sel.tail)) (W.Has.mFset (k:=k) (ms:=M.my) (m:=m3) (qf:=y) (W.Has.fm (v:=M.yv) (ms:=M.my) hmA) hmA) ?_
   refine WC.ret ?_
   exact Fin.p [] [fA ⟨xv,yv,M.mx,(upd M.my k m3),M.mz⟩ xn yn x (upd y k (y k+bentV by_)) z] (ResE.cV rfl rfl meA T.r33 rfl) meA (List.nil_sublist _) (.cons (has_A hmA hmA hmA) .nil) ⟨⟨xv,yv,M.mx,(upd M.my k m3),M.mz⟩,kind,xn,yn,x,(upd y k (y k+bentV by_)),z,rfl,rfl,rfl,by omega,by omega,fun k hk=>(hx k hk).up (by omega),upd_sq (fun k hk=>(hy k hk).up (by omega)) ((((hy k hkn).add hvq)).up (by omega)),hz.up (by omega)⟩
  ·repeat'(first|refine gA ?_|(refine goG ?_;intro g)|(refine goV ?_;intro v)|refine goE ?_|(refine goEG ?_;intro g)|(refine goEV ?_;intro v)|refine goD ?_|refine goXD ?_|(refine goDG ?_;intro g)|(refine goDV ?_;intro v)|refine gY ?_|refine d20 ?_|fail)
   refine WC.freezeF xv xn M.mx x (by repeat(first|exact Sel.head|apply Sel.tail)) (W.Has.fm (v:=M.xv) (ms:=M.mx) hmA) ?_
   refine WC.freezeF yv yn M.my y (by repeat(first|exact Sel.head|apply Sel.tail)) (W.Has.fm (v:=M.yv) (ms:=M.my) hmA) ?_
   refine WC.ret ?_
   exact Fin.p [] [fA ⟨xv,yv,M.mx,M.my,M.mz⟩ xn yn x y z] (ResE.cV rfl rfl meA T.r33 rfl) meA (List.nil_sublist _) (.cons (has_A hmA hmA hmA) .nil) ⟨⟨xv,yv,M.mx,M.my,M.mz⟩,kind,xn,yn,x,y,z,rfl,rfl,rfl,by omega,by omega,fun k hk=>(hx k hk).up (by omega),fun k hk=>(hy k hk).up (by omega),hz.up (by omega)⟩
 by_cases r3:r=3
 ·repeat'(first|refine gA ?_|(refine goG ?_;intro g)|(refine goV ?_;intro v)|refine goE ?_|(refine goEG ?_;intro g)|(refine goEV ?_;intro v)|refine goD ?_|refine goXD ?_|(refine goDG ?_;intro g)|(refine goDV ?_;intro v)|refine gY ?_|refine d20 ?_|fail)
  first|refine WL.callK (Zn.radd M.mz mv z (bentV by_) (hz.sm (by omega)) (hvq.sm (by decide))) ?_|refine WD.callK (Zn.radd M.mz mv z (bentV by_) (hz.sm (by omega)) (hvq.sm (by decide))) ?_|refine LO.callM (Zn.radd M.mz mv z (bentV by_) (hz.sm (by omega)) (hvq.sm (by decide))) ?_
  rintro _ _ _ ⟨m3,rfl,rfl,rfl⟩
  simp only[List.nil_append,List.cons_append]
  repeat'(first|refine gA ?_|(refine goG ?_;intro g)|(refine goV ?_;intro v)|refine goE ?_|(refine goEG ?_;intro g)|(refine goEV ?_;intro v)|refine goD ?_|refine goXD ?_|(refine goDG ?_;intro g)|(refine goDV ?_;intro v)|refine gY ?_|refine d20 ?_|fail)
  refine WC.freezeF xv xn M.mx x (by repeat(first|exact Sel.head|apply Sel.tail)) (W.Has.fm (v:=M.xv) (ms:=M.mx) hmA) ?_
  refine WC.freezeF yv yn M.my y (by repeat(first|exact Sel.head|apply Sel.tail)) (W.Has.fm (v:=M.yv) (ms:=M.my) hmA) ?_
  refine WC.ret ?_
  exact Fin.p [] [fA ⟨xv,yv,M.mx,M.my,m3⟩ xn yn x y (z+bentV by_)] (ResE.cV rfl rfl meA T.r33 rfl) meA (List.nil_sublist _) (.cons (has_A hmA hmA hmA) .nil) ⟨⟨xv,yv,M.mx,M.my,m3⟩,kind,xn,yn,x,y,(z+bentV by_),rfl,rfl,rfl,by omega,by omega,fun k hk=>(hx k hk).up (by omega),fun k hk=>(hy k hk).up (by omega),((hz.add hvq)).up (by omega)⟩
 by_cases r4:r=4
 ·repeat'(first|refine gA ?_|(refine goG ?_;intro g)|(refine goV ?_;intro v)|refine goE ?_|(refine goEG ?_;intro g)|(refine goEV ?_;intro v)|refine goD ?_|refine goXD ?_|(refine goDG ?_;intro g)|(refine goDV ?_;intro v)|refine gY ?_|refine d20 ?_|fail)
  revert v;intro xv2
  refine WC.freezeF xv2 (xn+1) (upd M.mx xn mv) (upd x xn (bentV by_)) (by repeat(first|exact Sel.head|apply Sel.tail)) (W.Has.mFapp (n:=xn) (ms:=M.mx) (m:=mv) (qf:=x) (W.Has.fm (v:=M.xv) (ms:=M.mx) hmA) hmA) ?_
  refine WC.freezeF yv yn M.my y (by repeat(first|exact Sel.head|apply Sel.tail)) (W.Has.fm (v:=M.yv) (ms:=M.my) hmA) ?_
  refine WC.ret ?_
  exact Fin.p [] [fA ⟨xv2,yv,(upd M.mx xn mv),M.my,M.mz⟩ (xn+1) yn (upd x xn (bentV by_)) y z] (ResE.cV rfl rfl meA T.r33 rfl) meA (List.nil_sublist _) (.cons (has_A hmA hmA hmA) .nil) ⟨⟨xv2,yv,(upd M.mx xn mv),M.my,M.mz⟩,kind,(xn+1),yn,(upd x xn (bentV by_)),y,z,rfl,rfl,rfl,by omega,by omega,fun k hk=>by
   by_cases e:k=xn
   ·subst e;rw[upd_at];exact hvq.up (by omega)
   ·rw[upd_ne e];exact(hx k (by omega)).up (by omega),fun k hk=>(hy k hk).up (by omega),hz.up (by omega)⟩
 by_cases r5:r=5
 ·repeat'(first|refine gA ?_|(refine goG ?_;intro g)|(refine goV ?_;intro v)|refine goE ?_|(refine goEG ?_;intro g)|(refine goEV ?_;intro v)|refine goD ?_|refine goXD ?_|(refine goDG ?_;intro g)|(refine goDV ?_;intro v)|refine gY ?_|refine d20 ?_|fail)
  refine WL.freezeF yv yn M.my y (by repeat(first|exact Sel.head|apply Sel.tail)) (W.Has.fm (v:=M.yv) (ms:=M.my) hmA) ?_
  refine WL.fact' (fF (resl yv 0 (0+(yn - 1)) 4) (yn - 1) (fun i=>M.my (0+i)) (fun i=>y (0+i))) (W.Has.subM (v:=yv) (ms:=M.my) (q:=y) hmA (by omega)) ?_
  simp only[Nat.zero_add]
  rw[show max (0:Int) ((yn:Int) - 1)=((yn - 1:Nat):Int) by omega]
  repeat'(first|refine gA ?_|(refine goG ?_;intro g)|(refine goV ?_;intro v)|refine goE ?_|(refine goEG ?_;intro g)|(refine goEV ?_;intro v)|refine goD ?_|refine goXD ?_|(refine goDG ?_;intro g)|(refine goDV ?_;intro v)|refine gY ?_|refine d20 ?_|fail)
  refine WC.freezeF xv xn M.mx x (by repeat(first|exact Sel.head|apply Sel.tail)) (W.Has.fm (v:=M.xv) (ms:=M.mx) hmA) ?_
  refine WC.ret ?_
  exact Fin.p [] [fA ⟨xv,resl yv 0 (yn - 1) 4,M.mx,M.my,M.mz⟩ xn (yn - 1) x y z] (ResE.cV rfl rfl meA T.r33 rfl) meA (List.nil_sublist _) (.cons (has_A hmA hmA hmA) .nil) ⟨⟨xv,resl yv 0 (yn - 1) 4,M.mx,M.my,M.mz⟩,kind,xn,(yn - 1),x,y,z,rfl,rfl,rfl,by omega,by omega,fun k hk=>(hx k hk).up (by omega),fun k hk=>(hy k (by omega)).up (by omega),hz.up (by omega)⟩
 by_cases r6:r=6
 ·repeat'(first|refine gA ?_|(refine goG ?_;intro g)|(refine goV ?_;intro v)|refine goE ?_|(refine goEG ?_;intro g)|(refine goEV ?_;intro v)|refine goD ?_|refine goXD ?_|(refine goDG ?_;intro g)|(refine goDV ?_;intro v)|refine gY ?_|refine d20 ?_|fail)
  refine WC.lp (σ:=Nat×(Nat→QM)) (fun st=>[(14,.int .i64 (st.1:Int)),(10,yv),(9,xv),(11,ptr g11),(8,ptr g8),(4,ptr g4)])
   (fun st=>[Ow.cells g11 31 (qcs mv),Ow.slice yv 31 4 (qcells yn st.2),Ow.slice xv 31 4 (qcells xn M.mx),Ow.cells g8 33 [.int .i64 0,.slice none 0 0,.slice none 0 0,.bool false,.slice none 0 0,.bool false,.slice none 0 0],Ow.cells g4 33 (acs M kind)])
   (fun st=>[mF yn st.2 (mulK y (bentV by_) st.1),isQ (qv mv) (bentV by_),isQ (qv M.mz) z,fF M.xv xn M.mx x,ge h0]) (fun st=>st.1≤yn) (fun st=>yn - st.1) (0,M.my) (Nat.zero_le _) ?_ (hG:=.cons (W.Has.mFsame (qf:=y) (W.Has.fm (v:=M.yv) (ms:=M.my) hmA) fun k _=>(if_neg (Nat.not_lt_zero _)).symm) sfA)
  rintro⟨i,my⟩ hi
  simp only at hi ⊢
  by_cases c:i < yn
  ·refine WC.fact (isQ (qv (my i)) (mulK y (bentV by_) i i)) (W.Has.q hmA c) ?_
   rw[show mulK y (bentV by_) i i=y i from if_neg (Nat.lt_irrefl _)]
   repeat'(first|refine gA ?_|(refine goG ?_;intro g)|(refine goV ?_;intro v)|refine goE ?_|(refine goEG ?_;intro g)|(refine goEV ?_;intro v)|refine goD ?_|refine goXD ?_|(refine goDG ?_;intro g)|(refine goDV ?_;intro v)|refine gY ?_|refine d20 ?_|fail)
   first|refine WL.callK (Zn.rmul (my i) mv (y i) (bentV by_) ((hy i c).sm (by omega)) (hvq.sm (by decide))) ?_|refine WD.callK (Zn.rmul (my i) mv (y i) (bentV by_) ((hy i c).sm (by omega)) (hvq.sm (by decide))) ?_|refine LO.callM (Zn.rmul (my i) mv (y i) (bentV by_) ((hy i c).sm (by omega)) (hvq.sm (by decide))) ?_
   rintro _ _ _ ⟨m3,rfl,rfl,rfl⟩
   simp only[List.nil_append,List.cons_append]
   repeat'(first|refine gA ?_|(refine goG ?_;intro g)|(refine goV ?_;intro v)|refine goE ?_|(refine goEG ?_;intro g)|(refine goEV ?_;intro v)|refine goD ?_|refine goXD ?_|(refine goDG ?_;intro g)|(refine goDV ?_;intro v)|refine gY ?_|refine d20 ?_|fail)
   exact LoopEnd.mk (i+1,upd my i m3) (by show i+1≤yn;omega) (by show yn - (i+1) < yn - i;omega) (hG:=.cons ((W.Has.mFset (k:=i) (ms:=my) (m:=m3) (z:=y i*bentV by_) (qf:=mulK y (bentV by_) i) hmA hmA).mFsame fun k _=>mulK_up k) sfA)
  ·obtain rfl:i=yn:=by omega
   repeat'(first|refine gA ?_|(refine goG ?_;intro g)|(refine goV ?_;intro v)|refine goE ?_|(refine goEG ?_;intro g)|(refine goEV ?_;intro v)|refine goD ?_|refine goXD ?_|(refine goDG ?_;intro g)|(refine goDV ?_;intro v)|refine gY ?_|refine d20 ?_|fail)
   refine WC.freezeF xv xn M.mx x (by repeat(first|exact Sel.head|apply Sel.tail)) (W.Has.fm (v:=M.xv) (ms:=M.mx) hmA) ?_
   refine WC.freezeF yv i my (mulK y (bentV by_) i) (by repeat(first|exact Sel.head|apply Sel.tail)) hmA ?_
   refine WC.ret ?_
   exact Fin.p [] [fA ⟨xv,yv,M.mx,my,M.mz⟩ xn i x (mulK y (bentV by_) i) z] (ResE.cV rfl rfl meA T.r33 rfl) meA (List.nil_sublist _) (.cons (has_A hmA hmA hmA) .nil) ⟨⟨xv,yv,M.mx,my,M.mz⟩,kind,xn,i,x,(mulK y (bentV by_) i),z,rfl,rfl,rfl,by omega,by omega,fun k hk=>(hx k hk).up (by omega),fun k hk=>by
    show Sq (R+2) (if k < i then y k*bentV by_ else y k)
    rw[if_pos hk]
    exact(((hy k hk).mul hvq)).up (by omega),hz.up (by omega)⟩
 exfalso
 omega
end U
end Go.Proofs.YtaongbhamadlkaaGreat
