/- Lemmas for the proof of a law: The executor: what is owned becomes a fact; calls that are handed owned things. Conditions: none. -/
import Derived.Test.YtaongbhamadlkaaGreatBs1
import Derived.Test.YtaongbhamadlkaaGreatBs13
import Derived.Test.YtaongbhamadlkaaGreatBs2
import Derived.Test.YtaongbhamadlkaaGreatBs4
import Derived.Test.YtaongbhamadlkaaGreatBs5
import Derived.Test.YtaongbhamadlkaaGreatBs6
import Derived.Test.YtaongbhamadlkaaGreatBs7
import Derived.Test.YtaongbhamadlkaaGreatBs9
import Derived.Test.YtaongbhamadlkaaGreatBs3
import Derived.Test.YtaongbhamadlkaaGreatBs10
import Derived.Test.YtaongbhamadlkaaGreatBs11
import Derived.Test.YtaongbhamadlkaaGreatBs8
import Derived.Test.YtaongbhamadlkaaGreatBs12
import Derived.Test.YtaongbhamadlkaaGreatBs14
import Derived.SizedLaws
set_option linter.unusedVariables false
set_option linter.unusedSimpArgs false
set_option linter.unusedSectionVars false
namespace Go.Proofs.YtaongbhamadlkaaGreat
open W Go.RowKit
namespace W
theorem Ex1 {α1:Type} {p:α1→Prop} (a1:α1) (h:p (a1)):∃ s,p s:=⟨_,h⟩
theorem Ex4 {α1:Type} {α2:Type} {α3:Type} {α4:Type} {p:α1×α2×α3×α4→Prop} (a1:α1) (a2:α2) (a3:α3) (a4:α4) (h:p (a1,a2,a3,a4)):∃ s,p s:=⟨_,h⟩
end W
end Go.Proofs.YtaongbhamadlkaaGreat
namespace Go.Proofs.YtaongbhamadlkaaGreat
open W Go.RowKit
section
variable {P:Program} {e:Env} {bx bx':List Ow} {F:List Fct} {el w:Nat} {c:Code} {Q:Post} {n':Nat} {rest Lo:List Oper} {Q2:Env→List Ow→List Fct→Prop}
theorem WC.freezeLs (v:Value) (M:Pm) (n:Nat) (hs:Sel bx (.slice v el 5 (lncells n M)) (.slice (.slice none 0 0) el 5 []) bx') (h:WC P n' c e bx' (slC v n 5 (pcell M.av M.mb)::F) Q):WC P n' c e bx F Q:=fun fr w0 a w hk hr ho=>h fr w0 a w hk hr (ho.freeze hs (cellsF_len _ _) (by decide) (pcell M.av M.mb) fun j hj=>cellsF_get hj)
end
end Go.Proofs.YtaongbhamadlkaaGreat
namespace Go.Proofs.YtaongbhamadlkaaGreat
open W Go.RowKit
attribute [local irreducible] WC WL WD YO LO LoopEnd W.Fin Scalar SliceT FieldAt Row ArrT AllocT KnS Has W.One SrcE IntT
namespace U
set_option maxRecDepth 60000
theorem goE {G G':Prop} (h:G') (s:Bx G'→G:=by
 intro h
 (first
  |(apply WL.k_build;(first|exact YO.buildRT0|(apply YO.buildAk;exact rfl));exact rfl;exact rfl)
  |(apply WL.k_load;(apply YO.ldAs;(first|exact T.r26|exact T.r29|exact T.r31|exact T.r33|exact T.r60|exact T.r77|exact T.r88|exact T.r107|exact T.r123|exact T.r134);exact rfl;exact hmA;omega);exact rfl;exact rfl)
  |(apply WL.kl_store;rotate_left;exact rfl;(first|(apply LO.storeOV;exact rfl;exact rfl;(first|exact T.z3|exact T.z4|exact T.z22|exact T.z23|exact T.z24|exact T.z34|exact T.z48|exact T.z72|exact T.z84|exact T.z86|exact T.z103|exact T.z129|exact T.z131|exact T.z162);(apply One.sl;exact knA);exact seA;omega)|(apply LO.storeAz;exact rfl;exact rfl;(first|exact T.r26|exact T.r29|exact T.r31|exact T.r33|exact T.r60|exact T.r77|exact T.r88|exact T.r107|exact T.r123|exact T.r134);exact hmA;exact seA)|fail))
  |(apply WD.k_build;exact rfl;(first|exact YO.buildRT0|(apply YO.buildAk;exact rfl));exact rfl;exact rfl)
  |(apply WD.k_load;exact rfl;(apply YO.ldAs;(first|exact T.r26|exact T.r29|exact T.r31|exact T.r33|exact T.r60|exact T.r77|exact T.r88|exact T.r107|exact T.r123|exact T.r134);exact rfl;exact hmA;omega);exact rfl;exact rfl)
  |(apply WD.kl_store;exact rfl;rotate_left;exact rfl;(first|(apply LO.storeOV;exact rfl;exact rfl;(first|exact T.z3|exact T.z4|exact T.z22|exact T.z23|exact T.z24|exact T.z34|exact T.z48|exact T.z72|exact T.z84|exact T.z86|exact T.z103|exact T.z129|exact T.z131|exact T.z162);(apply One.sl;exact knA);exact seA;omega)|(apply LO.storeAz;exact rfl;exact rfl;(first|exact T.r26|exact T.r29|exact T.r31|exact T.r33|exact T.r60|exact T.r77|exact T.r88|exact T.r107|exact T.r123|exact T.r134);exact hmA;exact seA)|fail);constructor;(first|(focus(apply Or.inr;constructor;(repeat(first|exact List.Sublist.refl _|exact List.nil_sublist _|apply List.Sublist.cons_cons|apply List.Sublist.cons));(first|exact fun _ h=>h|(intro f hf;(repeat(first|exact hf|apply List.Mem.tail))));done))|(apply Or.inl;kernel_rfl)))
  |((first|(apply LO.storeOV;exact rfl;exact rfl;(first|exact T.z3|exact T.z4|exact T.z22|exact T.z23|exact T.z24|exact T.z34|exact T.z48|exact T.z72|exact T.z84|exact T.z86|exact T.z103|exact T.z129|exact T.z131|exact T.z162);(apply One.sl;exact knA);exact seA;omega)|(apply LO.storeAz;exact rfl;exact rfl;(first|exact T.r26|exact T.r29|exact T.r31|exact T.r33|exact T.r60|exact T.r77|exact T.r88|exact T.r107|exact T.r123|exact T.r134);exact hmA;exact seA)|fail);constructor;(first|(focus(apply Or.inr;constructor;(repeat(first|exact List.Sublist.refl _|exact List.nil_sublist _|apply List.Sublist.cons_cons|apply List.Sublist.cons));(first|exact fun _ h=>h|(intro f hf;(repeat(first|exact hf|apply List.Mem.tail))));done))|(apply Or.inl;kernel_rfl)))
  |fail)
 exact Bx.h h):G:=s ⟨h⟩
theorem goEG {G G':Prop} (h:G') (s:Bx G'→G:=by
 intro h
 (first
  |(apply WL.kl_alloc;rotate_left;exact rfl;exact rfl;apply LO.alloc';(first|fail|fail))
  |(apply WD.kl_alloc;exact rfl;rotate_left;exact rfl;exact rfl;apply LO.alloc';(first|fail|fail);apply allAnd;(intro _;(first|(focus(apply Or.inr;constructor;(repeat(first|exact List.Sublist.refl _|exact List.nil_sublist _|apply List.Sublist.cons_cons|apply List.Sublist.cons));(first|exact fun _ h=>h|(intro f hf;(repeat(first|exact hf|apply List.Mem.tail))));done))|(apply Or.inl;kernel_rfl))))
  |(apply LO.alloc';(first|fail|fail);apply allAnd;(intro _;(first|(focus(apply Or.inr;constructor;(repeat(first|exact List.Sublist.refl _|exact List.nil_sublist _|apply List.Sublist.cons_cons|apply List.Sublist.cons));(first|exact fun _ h=>h|(intro f hf;(repeat(first|exact hf|apply List.Mem.tail))));done))|(apply Or.inl;kernel_rfl))))
  |fail)
 exact Bx.h h):G:=s ⟨h⟩
theorem goEV {G G':Prop} (h:G') (s:Bx G'→G:=by
 intro h
 (first
  |(apply WL.kl_app;rotate_left;exact rfl;exact rfl;(first|(apply LO.appMk2;exact rfl;exact rfl;(intro _;exact seA);omega;omega;omega)|fail))
  |(apply WD.kl_app;exact rfl;rotate_left;exact rfl;exact rfl;(first|(apply LO.appMk2;exact rfl;exact rfl;(intro _;exact seA);omega;omega;omega)|fail);apply allAnd;(intro _;(first|(focus(apply Or.inr;constructor;(repeat(first|exact List.Sublist.refl _|exact List.nil_sublist _|apply List.Sublist.cons_cons|apply List.Sublist.cons));(first|exact fun _ h=>h|(intro f hf;(repeat(first|exact hf|apply List.Mem.tail))));done))|(apply Or.inl;kernel_rfl))))
  |((first|(apply LO.appMk2;exact rfl;exact rfl;(intro _;exact seA);omega;omega;omega)|fail);apply allAnd;(intro _;(first|(focus(apply Or.inr;constructor;(repeat(first|exact List.Sublist.refl _|exact List.nil_sublist _|apply List.Sublist.cons_cons|apply List.Sublist.cons));(first|exact fun _ h=>h|(intro f hf;(repeat(first|exact hf|apply List.Mem.tail))));done))|(apply Or.inl;kernel_rfl))))
  |(apply WL.kl_bs;rotate_left;exact rfl;exact rfl;(apply LO.bsA6;exact rfl;exact rfl;exact rfl;exact rfl;exact rfl;exact rfl;exact hmA;exact hmA;exact hmA;exact hmA;exact hmA;exact hmA))
  |(apply WD.kl_bs;exact rfl;rotate_left;exact rfl;exact rfl;(apply LO.bsA6;exact rfl;exact rfl;exact rfl;exact rfl;exact rfl;exact rfl;exact hmA;exact hmA;exact hmA;exact hmA;exact hmA;exact hmA);apply allAnd;(intro _;(first|(focus(apply Or.inr;constructor;(repeat(first|exact List.Sublist.refl _|exact List.nil_sublist _|apply List.Sublist.cons_cons|apply List.Sublist.cons));(first|exact fun _ h=>h|(intro f hf;(repeat(first|exact hf|apply List.Mem.tail))));done))|(apply Or.inl;kernel_rfl))))
  |((apply LO.bsA6;exact rfl;exact rfl;exact rfl;exact rfl;exact rfl;exact rfl;exact hmA;exact hmA;exact hmA;exact hmA;exact hmA;exact hmA);apply allAnd;(intro _;(first|(focus(apply Or.inr;constructor;(repeat(first|exact List.Sublist.refl _|exact List.nil_sublist _|apply List.Sublist.cons_cons|apply List.Sublist.cons));(first|exact fun _ h=>h|(intro f hf;(repeat(first|exact hf|apply List.Mem.tail))));done))|(apply Or.inl;kernel_rfl))))
  |(apply WL.kl_bs;rotate_left;exact rfl;exact rfl;(apply LO.bsA3;exact rfl;exact rfl;exact rfl;exact hmA;exact hmA;exact hmA))
  |(apply WD.kl_bs;exact rfl;rotate_left;exact rfl;exact rfl;(apply LO.bsA3;exact rfl;exact rfl;exact rfl;exact hmA;exact hmA;exact hmA);apply allAnd;(intro _;(first|(focus(apply Or.inr;constructor;(repeat(first|exact List.Sublist.refl _|exact List.nil_sublist _|apply List.Sublist.cons_cons|apply List.Sublist.cons));(first|exact fun _ h=>h|(intro f hf;(repeat(first|exact hf|apply List.Mem.tail))));done))|(apply Or.inl;kernel_rfl))))
  |((apply LO.bsA3;exact rfl;exact rfl;exact rfl;exact hmA;exact hmA;exact hmA);apply allAnd;(intro _;(first|(focus(apply Or.inr;constructor;(repeat(first|exact List.Sublist.refl _|exact List.nil_sublist _|apply List.Sublist.cons_cons|apply List.Sublist.cons));(first|exact fun _ h=>h|(intro f hf;(repeat(first|exact hf|apply List.Mem.tail))));done))|(apply Or.inl;kernel_rfl))))
  |fail)
 exact Bx.h h):G:=s ⟨h⟩
end U
end Go.Proofs.YtaongbhamadlkaaGreat
namespace Go.Proofs.YtaongbhamadlkaaGreat
open W Go.RowKit
def rowB (p:X.Lp) (i k:Nat):Rat:=if k < p.v then p.a i k else if k < 2*p.v then -(p.a i (k - p.v)) else if k < p.n then(if k=2*p.v+i then 1 else 0) else p.b i
namespace U
open Z
attribute [local irreducible] WC WL WD YO LO LoopEnd W.Fin Scalar SliceT FieldAt Row ArrT AllocT KnS Has W.One SrcE IntT
set_option maxHeartbeats 4000000 in
set_option maxRecDepth 60000 in
theorem negated_f (v:Value) (n:Nat) (ms:Nat→QM) (a:Nat→Rat) (hn:n≤10000) (ha:∀ i,i < n→Sm (a i)):FnB Tryz.prog 35 [v] [] [fF v n ms a] (IsF n fun k=>-(a k)):=by
 refine fn_of [(0,v)] 6 Tryz.func35 rfl Tryz.ntmps35 (by kernel_rfl) rfl suA fun h0=>?_
 repeat'(first|refine gA ?_|(refine goG ?_;intro g)|(refine goV ?_;intro v)|refine goE ?_|(refine goEG ?_;intro g)|(refine goEV ?_;intro v))
 first|refine WL.callK (Zn.rof (-1) 1 (by decide) (by decide)) ?_|refine WD.callK (Zn.rof (-1) 1 (by decide) (by decide)) ?_|refine LO.callM (Zn.rof (-1) 1 (by decide) (by decide)) ?_
 rintro _ _ _ ⟨m1,rfl,rfl,rfl⟩
 simp only[List.nil_append,List.cons_append]
 rw[show Rat.divInt (-1) 1= -1 by decide +kernel]
 repeat'(first|refine gA ?_|(refine goG ?_;intro g)|(refine goV ?_;intro v)|refine goE ?_|(refine goEG ?_;intro g)|(refine goEV ?_;intro v))
 refine WL.callK (scaled_c v n ms a m1 (-1) hn ha (by constructor <;> decide +kernel)) ?_
 rintro u _ _ ⟨mu,rfl,rfl⟩
 simp only[List.nil_append,List.cons_append]
 refine WL.freezeF u n mu (fun k=>-(a k)) (by repeat(first|exact Sel.head|apply Sel.tail)) (W.Has.mFsame (qf:=fun k=>a k*(-1)) hmA fun k _=>by grind) ?_
 repeat'(first|refine gA ?_|(refine goG ?_;intro g)|(refine goV ?_;intro v)|refine goE ?_|(refine goEG ?_;intro g)|(refine goEV ?_;intro v))
 refine WC.ret ?_
 exact Fin.p [] [fF u n mu fun k=>-(a k)] (ResE.t1 rfl rfl) meA (List.nil_sublist _) haA ⟨mu,rfl,rfl⟩
end U
end Go.Proofs.YtaongbhamadlkaaGreat
namespace Go.Proofs.YtaongbhamadlkaaGreat
open W Go.RowKit
def LoopEndZ {σ:Type} (E:σ→Env) (B:σ→List Ow) (G:σ→List Fct) (I:σ→Prop) (μ:σ→Nat) (s:σ) (e':Env) (bx':List Ow) (F':List Fct):Prop:=∃ bx2 F2,(∀ fr w,OK fr bx' F' w→OK fr bx2 F2 w)∧LoopEnd E B G I μ s e' bx2 F2
section
variable {P:Program} {n:Nat} {c:Code} {e e':Env} {bx bx':List Ow} {F F':List Fct} {Q:Post} {σ:Type} {E:σ→Env} {B:σ→List Ow} {G:σ→List Fct} {I:σ→Prop} {μ:σ→Nat} {s:σ} {v:Value} {el:Nat} {l:List Int}
theorem LoopEndZ.of (h:LoopEnd E B G I μ s e' bx' F'):LoopEndZ E B G I μ s e' bx' F':=⟨_,_,fun _ _ h=>h,h⟩
theorem LoopEndZ.freezeI (hs:Sel bx (.slice v el 1 (ints l)) (.slice (.slice none 0 0) el 1 []) bx') (h:LoopEndZ E B G I μ s e' bx' (sI v l::F)):LoopEndZ E B G I μ s e' bx F:=by
 obtain⟨b2,F2,h1,h2⟩:=h
 refine⟨b2,F2,fun fr w ho=>h1 fr w (ho.freeze hs (by simp) (by decide) _ fun j hj=>?_),h2⟩
 have hj':j < l.length:=by omega
 simp[hj']
end
end Go.Proofs.YtaongbhamadlkaaGreat
namespace Go.Proofs.YtaongbhamadlkaaGreat
open W Go.RowKit
theorem LoopEndZ.freezeF {σ:Type} {E:σ→Env} {B:σ→List Ow} {G:σ→List Fct} {I:σ→Prop} {μ:σ→Nat} {s:σ} {e':Env} {bx bx':List Ow} {F:List Fct} {el:Nat} (v:Value) (n:Nat) (ms:Nat→QM) (q:Nat→Rat) (hs:Sel bx (.slice v el 4 (qcells n ms)) (.slice (.slice none 0 0) el 4 []) bx') (hm:Has F (mF n ms q))
  (h:LoopEndZ E B G I μ s e' bx' (fF v n ms q::F)):LoopEndZ E B G I μ s e' bx F:=by
 obtain⟨b2,F2,h1,h2⟩:=h
 exact⟨b2,F2,fun fr w ho=>h1 fr w (okF ho hs hm),h2⟩
end Go.Proofs.YtaongbhamadlkaaGreat
namespace Go.Proofs.YtaongbhamadlkaaGreat
open W Go.RowKit
def IsWr:RPost:=fun v B G=>∃ (M:Pm) (vars:Int) (m gn:Nat) (ln:Nat→Nat) (a:Nat→Nat→Rat) (b gq:Nat→Rat) (E:Int),v=.tuple #[pgv M vars,.int .i64 E]∧B=[]∧G=[fPg M m gn ln a b gq]∧vldP vars m gn ln=E∧(E=1∨E=4)
theorem vld_goal {v m gn:Nat} {ln:Nat→Nat} (hv:v≤48) (hm:m≤128) (h:gn≠v):vldP v m gn ln=1:=by
 unfold vldP
 rw[if_neg (by omega),if_pos (.inr (.inl (by omega)))]
theorem vld_line {v m gn i:Nat} {ln:Nat→Nat} (hv:v≤48) (hm:m≤128) (hi:i < m) (h:ln i≠v):vldP v m gn ln=1:=by
 unfold vldP
 rw[if_neg (by omega)]
 refine if_pos (.inr (.inr ?_))
 rcases X.fstT_spec (fun i=>decide ((ln i:Int)≠v)) m 0 with ⟨h1,h2⟩|⟨j,h1,_⟩
 ·have:=of_decide_eq_false (h2 i (by omega) (by omega))
  omega
 ·rw[h1];rfl
theorem has_pg {F:List Fct} {M:Pm} {m gn:Nat} {ln:Nat→Nat} {a:Nat→Nat→Rat} {b g:Nat→Rat} (h1:Has F (slC M.lv m 5 (pcell M.av M.mb))) (h2:∀ i,i < m→Has F (fF (M.av i) (ln i) (M.ma i) (a i))) (h3:Has F (mF m M.mb b)) (h4:Has F (fF M.gv gn M.mg g)):Has F (fPg M m gn ln a b g):=fun p hp=>⟨h1 p hp,fun i hi=>h2 i hi p hp,h3 p hp,h4 p hp⟩
theorem slC_nil {F:List Fct} {f:Nat→Value} {sz:Nat}:Has F (slC (.slice none 0 0) 0 sz f):=fun p hp=>⟨none,0,rfl,Nat.le_refl _,by unfold maxLen;omega,.inl ⟨rfl,rfl,rfl⟩⟩
namespace U
open Z
set_option maxHeartbeats 8000000 in
set_option maxRecDepth 60000 in
theorem wrong_c (M:Pm) (vn:Nat) (L:List X.Ln) (gf:Nat→Rat) (how:Int) (hh:I64 how) (hv:vn≤48) (hv0:1≤vn) (hm:L.length≤100):FnB Tryz.prog 14 [pgv M vn,.int .i64 how] [] [fP M (X.lpOf vn L gf)] IsWr:=by
 refine fn_of [(0,(pgv M vn)),(1,(.int .i64 how))] 40 Tryz.func14 rfl Tryz.ntmps14 (by kernel_rfl) rfl suA fun h0=>?_
 have hr:=around_lt (n:=how) (m:=5) (by decide)
 refine WC.fact (fLn M vn L) (W.Has.pL (g:=gf) hmA) ?_
 refine WC.fact (fF M.gv vn M.mg gf) (W.Has.pG (L:=L) hmA) ?_
 refine WC.fact (isQ (qv m00) 0) hasQ0 ?_
 refine WC.fact (fF (.slice none 0 0) 0 (fun _=>m00) (fun _=>0)) (has_nil0F _ _) ?_
 repeat'(first|refine gA ?_|(refine goG ?_;intro g)|(refine goV ?_;intro v))
 first|refine WL.callV (around_c how 5 hh (by decide)) ?_|refine WD.callV (around_c how 5 hh (by decide)) ?_
 by_cases c0:around how 5=0
 ·repeat'(first|refine gA ?_|(refine goG ?_;intro g)|(refine goV ?_;intro v))
  refine WC.freezeF v (vn+1) (upd M.mg vn m00) (upd gf vn 0) (by repeat(first|exact Sel.head|apply Sel.tail)) (W.Has.mFapp (W.Has.fm (v:=M.gv) (ms:=M.mg) hmA) hmA) ?_
  refine WC.ret ?_
  exact Fin.p [] [fPg (M.wg v (upd M.mg vn m00)) L.length (vn+1) (fun _=>vn) (X.ca L) (X.cb L) (upd gf vn 0)] (ResE.cT rfl rfl meA T.r26 rfl rfl) meA (List.nil_sublist _)
   (.cons (has_pg (W.Has.lns (M:=M) (w:=vn) hmA) (fun i hi=>W.Has.lna (W.Has.lnq (M:=M) (w:=vn) hmA) hi) (W.Has.lnbs (W.Has.lnq (M:=M) (w:=vn) hmA)) (show Has _ (fF v (vn+1) _ _) from hmA)) .nil) ⟨_,vn,_,_,_,_,_,_,1,rfl,rfl,rfl,vld_goal hv (by omega) (by omega),.inl rfl⟩
 by_cases c1:around how 5=1
 ·repeat'(first|refine gA ?_|(refine goG ?_;intro g)|(refine goV ?_;intro v))
  refine WC.freezeLs v (M.app L.length (.slice none 0 0) (fun _=>m00) m00) (L.length+1) (by repeat(first|exact Sel.head|apply Sel.tail)) ?_
  refine WC.ret ?_
  exact Fin.p [] [fPg ((M.app L.length (.slice none 0 0) (fun _=>m00) m00).at v) (L.length+1) vn (fun i=>if i < L.length then vn else 0) (upd (X.ca L) L.length fun _=>0) (upd (X.cb L) L.length 0) gf] (ResE.cT rfl rfl meA T.r26 rfl rfl) meA (List.nil_sublist _)
   (.cons (has_pg (show Has _ (slC v (L.length+1) 5 _) from hmA) (fun i hi=>by
    by_cases e:i < L.length
    ·show Has _ (fF (upd M.av L.length _ i) (if i < L.length then vn else 0) (upd M.ma L.length _ i) (upd (X.ca L) L.length _ i))
     rw[upd_ne (by omega),upd_ne (by omega),upd_ne (by omega),if_pos e]
     exact W.Has.lna (W.Has.lnq (M:=M) (w:=vn) hmA) e
    ·obtain rfl:i=L.length:=by omega
     show Has _ (fF (upd M.av L.length _ L.length) (if L.length < L.length then vn else 0) (upd M.ma L.length _ L.length) (upd (X.ca L) L.length _ L.length))
     rw[upd_at,upd_at,upd_at,if_neg e];exact hmA) (W.Has.mFapp (W.Has.lnbs (W.Has.lnq (M:=M) (w:=vn) hmA)) hasQ0) (show Has _ (fF M.gv vn M.mg gf) from hmA)) .nil)
   ⟨_,vn,_,_,_,_,_,_,1,rfl,rfl,rfl,vld_line (i:=L.length) hv (by omega) (by omega) (by rw[if_neg (by omega)];omega),.inl rfl⟩
 by_cases c2:around how 5=2
 ·repeat'(first|refine gA ?_|(refine goG ?_;intro g)|(refine goV ?_;intro v))
  refine WC.ret ?_
  exact Fin.p [] [fPg Pm.no 0 0 (fun _=>0) (fun _ _=>0) (fun _=>0) (fun _=>0)] (ResE.cT rfl rfl meA T.r26 rfl rfl) meA (List.nil_sublist _) (.cons (has_pg slC_nil (fun i hi=>absurd hi (by omega)) (W.Has.mFn _ _) (has_nil0F _ _)) .nil) ⟨Pm.no,-1,0,0,_,_,_,_,1,rfl,rfl,rfl,rfl,.inl rfl⟩
 by_cases c3:around how 5=3
 ·repeat'(first|refine gA ?_|(refine goG ?_;intro g)|(refine goV ?_;intro v))
  refine WC.ret ?_
  exact Fin.p [] [fPg Pm.no 0 0 (fun _=>0) (fun _ _=>0) (fun _=>0) (fun _=>0)] (ResE.cT rfl rfl meA T.r26 rfl rfl) meA (List.nil_sublist _) (.cons (has_pg slC_nil (fun i hi=>absurd hi (by omega)) (W.Has.mFn _ _) (has_nil0F _ _)) .nil) ⟨Pm.no,49,0,0,_,_,_,_,4,rfl,rfl,rfl,rfl,.inr rfl⟩
 ·repeat'(first|refine gA ?_|(refine goG ?_;intro g)|(refine goV ?_;intro v))
  refine WL.l rfl rfl (LO.makeLn (n:=129) rfl rfl (NatI.cast 129) (by decide) fun v=>?_)
  repeat'(first|refine gA ?_|(refine goG ?_;intro g)|(refine goV ?_;intro v))
  refine WC.freezeLs v Pm.no 129 (by repeat(first|exact Sel.head|apply Sel.tail)) ?_
  refine WC.ret ?_
  exact Fin.p [] [fPg (Pm.no.at v) 129 0 (fun _=>0) (fun _ _=>0) (fun _=>0) (fun _=>0)] (ResE.cT rfl rfl meA T.r26 rfl rfl) meA (List.nil_sublist _) (.cons (has_pg (show Has _ (slC v 129 5 _) from hmA) (fun i hi=>has_nil0F _ _) (W.Has.mF0 _) (has_nil0F _ _)) .nil) ⟨Pm.no.at v,-3,129,0,_,_,_,_,4,rfl,rfl,rfl,rfl,.inr rfl⟩
end U
end Go.Proofs.YtaongbhamadlkaaGreat
namespace Go.Proofs.YtaongbhamadlkaaGreat
open W Go.RowKit
theorem AnsP.len {p:X.Lp} {kind xn yn:Nat} {x y:Nat→Rat} {z:Rat} (h:AnsP p kind xn yn x y z) {N:Nat} (hv:p.v≤N) (hm:p.m≤N):xn≤N∧yn≤N:=by
 rcases h with ⟨_,h1,h2,_⟩|⟨_,h1,h2,_⟩|⟨_,h1,h2,_⟩ <;> constructor <;> omega
def am0:Am:=⟨.slice none 0 0,.slice none 0 0,fun _=>m00,fun _=>m00,m00⟩
namespace U
open Z
attribute [local irreducible] WC WL WD YO LO LoopEnd W.Fin Scalar SliceT FieldAt Row ArrT AllocT KnS Has W.One SrcE IntT
theorem d4 {G G':Prop} (h:G') (s:Bx G'→G:=by
 intro h
 first|(apply WC.draw (id:=4) [0,1,2,3,4,5,7,10,11] (.held 0 (.held 1 (.held 2 (.held 3 (.held 4 (.held 5 (.held 7 (.held 10 (.held 11 (.loud 6 (.loud 8 (.loud 9 (.loud 12 (.loud 13 (.done))))))))))))))) mixed (by kernel_rfl))|(apply WC.draw (id:=9) [0,1,2,3,4] (.held 0 (.held 1 (.held 2 (.held 3 (.held 4 (.loud 5 (.done))))))) mixed (by kernel_rfl))|(apply WC.draw (id:=11) [0,1,2,3,4,6,7] (.held 0 (.held 1 (.held 2 (.held 3 (.held 4 (.held 6 (.loud 5 (.held 7 (.done))))))))) mixed (by kernel_rfl))|fail
 exact Bx.h h):G:=s ⟨h⟩
end U
end Go.Proofs.YtaongbhamadlkaaGreat
namespace Go.Proofs.YtaongbhamadlkaaGreat
open W Go.RowKit
section
variable {P:Program} {e:Env} {bx:List Ow} {F:List Fct} {ty t:TypeId} {x:Operand} {v:Value} {i n:Nat} {A:Nat→AR}
theorem YO.ldAk (hs:Scalar P t) (hx:ev e x=some (.pointer (some (eaddr v (i*7+0))))) (h:Has F (fAs v n A)) (hi:i < n):YO P (.load t x) ty e bx F (.int .i64 (A i).k):=by
 have:=YO.ldS (ty:=ty) (bx:=bx) hs hx h.asl (by omega)
 rwa [acell_at _ _ (by omega)] at this
theorem YO.ldAz (hs:Row P t 4) (hx:ev e x=some (.pointer (some (eaddr v (i*7+3))))) (h:Has F (fAs v n A)) (hi:i < n):YO P (.load t x) ty e bx F (qv (A i).M.mz):=
 YO.ldRS (us:=qcs (A i).M.mz) hs hx h.asl (by omega) rfl fun k hk=>by
  rw[Nat.add_assoc,acell_at _ _ (by omega)]
  match k,hk with|0,_=>rfl|1,_=>rfl|2,_=>rfl|3,_=>rfl
theorem YO.fld {t:TypeId} {i:Nat} {x:Operand} {u v:Value} (hx:ev e x=some u) (hr:∀ w,(Instr.field t u i).run P w=.ok v w):YO P (.field t x i) ty e bx F v:=
 .of fun n fr a w o hop hk _=>by simp[execOp,hop,hk.eval hx,hr]
theorem YO.fldPL {i:Int} {lv gv:Value} (hx:ev e x=some (.agg #[.int .i64 i,lv,gv])):YO Tryz.prog (.field 26 x 1) ty e bx F lv:=YO.fld hx fun w=>by kernel_rfl
theorem YO.fldPG {i:Int} {lv gv:Value} (hx:ev e x=some (.agg #[.int .i64 i,lv,gv])):YO Tryz.prog (.field 26 x 2) ty e bx F gv:=YO.fld hx fun w=>by kernel_rfl
end
end Go.Proofs.YtaongbhamadlkaaGreat
namespace Go.Proofs.YtaongbhamadlkaaGreat
open W Go.RowKit
attribute [local irreducible] WC WL WD YO LO LoopEnd W.Fin Scalar SliceT FieldAt Row ArrT AllocT KnS Has W.One SrcE IntT
namespace U.V
set_option maxRecDepth 60000
theorem goE {G G':Prop} (h:G') (s:Bx G'→G:=by
 intro h
 (first
  |(apply WL.k_build;(first|exact YO.buildRT0|(apply YO.buildAk;exact rfl));exact rfl;exact rfl)
  |(apply WL.k_load;(first|(apply YO.ldAs;(first|exact T.r26|exact T.r29|exact T.r31|exact T.r33|exact T.r60|exact T.r77|exact T.r88|exact T.r107|exact T.r123|exact T.r134);exact rfl;exact hmA;omega)|(apply YO.ldAk;(first|exact T.sc3|exact T.sc4|exact T.sc22|exact T.sc23|exact T.sc24|exact T.sc34|exact T.sc48|exact T.sc72|exact T.sc84|exact T.sc86|exact T.sc103|exact T.sc129|exact T.sc131|exact T.sc162);exact rfl;exact hmA;omega)|(apply YO.ldAz;(first|exact T.r26|exact T.r29|exact T.r31|exact T.r33|exact T.r60|exact T.r77|exact T.r88|exact T.r107|exact T.r123|exact T.r134);exact rfl;exact hmA;omega));exact rfl;exact rfl)
  |(apply WL.k_field;(first|(apply YO.fldPL;exact rfl)|(apply YO.fldPG;exact rfl));exact rfl;exact rfl)
  |(apply WL.kl_store;rotate_left;exact rfl;(first|(apply LO.storeOV;exact rfl;exact rfl;(first|exact T.z3|exact T.z4|exact T.z22|exact T.z23|exact T.z24|exact T.z34|exact T.z48|exact T.z72|exact T.z84|exact T.z86|exact T.z103|exact T.z129|exact T.z131|exact T.z162);(apply One.sl;exact knA);exact seA;omega)|(apply LO.storeAz;exact rfl;exact rfl;(first|exact T.r26|exact T.r29|exact T.r31|exact T.r33|exact T.r60|exact T.r77|exact T.r88|exact T.r107|exact T.r123|exact T.r134);exact hmA;exact seA)|fail))
  |(apply WD.k_build;exact rfl;(first|exact YO.buildRT0|(apply YO.buildAk;exact rfl));exact rfl;exact rfl)
  |(apply WD.k_load;exact rfl;(first|(apply YO.ldAs;(first|exact T.r26|exact T.r29|exact T.r31|exact T.r33|exact T.r60|exact T.r77|exact T.r88|exact T.r107|exact T.r123|exact T.r134);exact rfl;exact hmA;omega)|(apply YO.ldAk;(first|exact T.sc3|exact T.sc4|exact T.sc22|exact T.sc23|exact T.sc24|exact T.sc34|exact T.sc48|exact T.sc72|exact T.sc84|exact T.sc86|exact T.sc103|exact T.sc129|exact T.sc131|exact T.sc162);exact rfl;exact hmA;omega)|(apply YO.ldAz;(first|exact T.r26|exact T.r29|exact T.r31|exact T.r33|exact T.r60|exact T.r77|exact T.r88|exact T.r107|exact T.r123|exact T.r134);exact rfl;exact hmA;omega));exact rfl;exact rfl)
  |(apply WD.k_field;exact rfl;(first|(apply YO.fldPL;exact rfl)|(apply YO.fldPG;exact rfl));exact rfl;exact rfl)
  |(apply WD.kl_store;exact rfl;rotate_left;exact rfl;(first|(apply LO.storeOV;exact rfl;exact rfl;(first|exact T.z3|exact T.z4|exact T.z22|exact T.z23|exact T.z24|exact T.z34|exact T.z48|exact T.z72|exact T.z84|exact T.z86|exact T.z103|exact T.z129|exact T.z131|exact T.z162);(apply One.sl;exact knA);exact seA;omega)|(apply LO.storeAz;exact rfl;exact rfl;(first|exact T.r26|exact T.r29|exact T.r31|exact T.r33|exact T.r60|exact T.r77|exact T.r88|exact T.r107|exact T.r123|exact T.r134);exact hmA;exact seA)|fail);constructor;(first|(focus(apply Or.inr;constructor;(repeat(first|exact List.Sublist.refl _|exact List.nil_sublist _|apply List.Sublist.cons_cons|apply List.Sublist.cons));(first|exact fun _ h=>h|(intro f hf;(repeat(first|exact hf|apply List.Mem.tail))));done))|(apply Or.inl;kernel_rfl)))
  |((first|(apply LO.storeOV;exact rfl;exact rfl;(first|exact T.z3|exact T.z4|exact T.z22|exact T.z23|exact T.z24|exact T.z34|exact T.z48|exact T.z72|exact T.z84|exact T.z86|exact T.z103|exact T.z129|exact T.z131|exact T.z162);(apply One.sl;exact knA);exact seA;omega)|(apply LO.storeAz;exact rfl;exact rfl;(first|exact T.r26|exact T.r29|exact T.r31|exact T.r33|exact T.r60|exact T.r77|exact T.r88|exact T.r107|exact T.r123|exact T.r134);exact hmA;exact seA)|fail);constructor;(first|(focus(apply Or.inr;constructor;(repeat(first|exact List.Sublist.refl _|exact List.nil_sublist _|apply List.Sublist.cons_cons|apply List.Sublist.cons));(first|exact fun _ h=>h|(intro f hf;(repeat(first|exact hf|apply List.Mem.tail))));done))|(apply Or.inl;kernel_rfl)))
  |fail)
 exact Bx.h h):G:=s ⟨h⟩
theorem goEG {G G':Prop} (h:G') (s:Bx G'→G:=by
 intro h
 (first
  |(apply WL.kl_alloc;rotate_left;exact rfl;exact rfl;apply LO.alloc';(first|fail|fail))
  |(apply WD.kl_alloc;exact rfl;rotate_left;exact rfl;exact rfl;apply LO.alloc';(first|fail|fail);apply allAnd;(intro _;(first|(focus(apply Or.inr;constructor;(repeat(first|exact List.Sublist.refl _|exact List.nil_sublist _|apply List.Sublist.cons_cons|apply List.Sublist.cons));(first|exact fun _ h=>h|(intro f hf;(repeat(first|exact hf|apply List.Mem.tail))));done))|(apply Or.inl;kernel_rfl))))
  |(apply LO.alloc';(first|fail|fail);apply allAnd;(intro _;(first|(focus(apply Or.inr;constructor;(repeat(first|exact List.Sublist.refl _|exact List.nil_sublist _|apply List.Sublist.cons_cons|apply List.Sublist.cons));(first|exact fun _ h=>h|(intro f hf;(repeat(first|exact hf|apply List.Mem.tail))));done))|(apply Or.inl;kernel_rfl))))
  |fail)
 exact Bx.h h):G:=s ⟨h⟩
theorem goEV {G G':Prop} (h:G') (s:Bx G'→G:=by
 intro h
 (first
  |(apply WL.kl_app;rotate_left;exact rfl;exact rfl;(first|(apply LO.appMk2;exact rfl;exact rfl;(intro _;exact seA);omega;omega;omega)|fail))
  |(apply WD.kl_app;exact rfl;rotate_left;exact rfl;exact rfl;(first|(apply LO.appMk2;exact rfl;exact rfl;(intro _;exact seA);omega;omega;omega)|fail);apply allAnd;(intro _;(first|(focus(apply Or.inr;constructor;(repeat(first|exact List.Sublist.refl _|exact List.nil_sublist _|apply List.Sublist.cons_cons|apply List.Sublist.cons));(first|exact fun _ h=>h|(intro f hf;(repeat(first|exact hf|apply List.Mem.tail))));done))|(apply Or.inl;kernel_rfl))))
  |((first|(apply LO.appMk2;exact rfl;exact rfl;(intro _;exact seA);omega;omega;omega)|fail);apply allAnd;(intro _;(first|(focus(apply Or.inr;constructor;(repeat(first|exact List.Sublist.refl _|exact List.nil_sublist _|apply List.Sublist.cons_cons|apply List.Sublist.cons));(first|exact fun _ h=>h|(intro f hf;(repeat(first|exact hf|apply List.Mem.tail))));done))|(apply Or.inl;kernel_rfl))))
  |(apply WL.kl_bs;rotate_left;exact rfl;exact rfl;(apply LO.bsA6;exact rfl;exact rfl;exact rfl;exact rfl;exact rfl;exact rfl;exact hmA;exact hmA;exact hmA;exact hmA;exact hmA;exact hmA))
  |(apply WD.kl_bs;exact rfl;rotate_left;exact rfl;exact rfl;(apply LO.bsA6;exact rfl;exact rfl;exact rfl;exact rfl;exact rfl;exact rfl;exact hmA;exact hmA;exact hmA;exact hmA;exact hmA;exact hmA);apply allAnd;(intro _;(first|(focus(apply Or.inr;constructor;(repeat(first|exact List.Sublist.refl _|exact List.nil_sublist _|apply List.Sublist.cons_cons|apply List.Sublist.cons));(first|exact fun _ h=>h|(intro f hf;(repeat(first|exact hf|apply List.Mem.tail))));done))|(apply Or.inl;kernel_rfl))))
  |((apply LO.bsA6;exact rfl;exact rfl;exact rfl;exact rfl;exact rfl;exact rfl;exact hmA;exact hmA;exact hmA;exact hmA;exact hmA;exact hmA);apply allAnd;(intro _;(first|(focus(apply Or.inr;constructor;(repeat(first|exact List.Sublist.refl _|exact List.nil_sublist _|apply List.Sublist.cons_cons|apply List.Sublist.cons));(first|exact fun _ h=>h|(intro f hf;(repeat(first|exact hf|apply List.Mem.tail))));done))|(apply Or.inl;kernel_rfl))))
  |(apply WL.kl_bs;rotate_left;exact rfl;exact rfl;(apply LO.bsA3;exact rfl;exact rfl;exact rfl;exact hmA;exact hmA;exact hmA))
  |(apply WD.kl_bs;exact rfl;rotate_left;exact rfl;exact rfl;(apply LO.bsA3;exact rfl;exact rfl;exact rfl;exact hmA;exact hmA;exact hmA);apply allAnd;(intro _;(first|(focus(apply Or.inr;constructor;(repeat(first|exact List.Sublist.refl _|exact List.nil_sublist _|apply List.Sublist.cons_cons|apply List.Sublist.cons));(first|exact fun _ h=>h|(intro f hf;(repeat(first|exact hf|apply List.Mem.tail))));done))|(apply Or.inl;kernel_rfl))))
  |((apply LO.bsA3;exact rfl;exact rfl;exact rfl;exact hmA;exact hmA;exact hmA);apply allAnd;(intro _;(first|(focus(apply Or.inr;constructor;(repeat(first|exact List.Sublist.refl _|exact List.nil_sublist _|apply List.Sublist.cons_cons|apply List.Sublist.cons));(first|exact fun _ h=>h|(intro f hf;(repeat(first|exact hf|apply List.Mem.tail))));done))|(apply Or.inl;kernel_rfl))))
  |fail)
 exact Bx.h h):G:=s ⟨h⟩
end U.V
end Go.Proofs.YtaongbhamadlkaaGreat
namespace Go.Proofs.YtaongbhamadlkaaGreat
open W Go.RowKit
theorem cmp_le {a b:Rat}:cmpQ a b≤0↔a≤b:=by
 have:=@cmpQ_gt a b
 constructor
 ·intro h
  have:¬b < a:=fun h'=>by have:=cmpQ_gt.2 h';omega
  grind
 ·intro h
  have:¬0 < cmpQ a b:=fun h'=>by have:=cmpQ_gt.1 h';grind
  omega
theorem someV_cons (l ml:List Int):someV (atP l 0 3::ml)=someV l:=by
 have h:=@atP_lt l 0 3 (by decide)
 have e:atP (atP l 0 3::ml) 0 3=atP l 0 3:=by
  generalize atP l 0 3=a at *
  unfold atP
  rw[if_neg (by simp only[List.length_cons];omega)]
  show around a 3=a
  unfold around
  have h4:a=0∨a=1∨a=2:=by omega
  rcases h4 with rfl|rfl|rfl <;> decide
 unfold someV
 rw[e]
theorem I64_cons {a:Int} {ml:List Int} (h:0≤a∧a < 3) (hm:∀ x∈ml,I64 x):∀ x∈a::ml,I64 x:=fun x hx=>by
 rcases List.mem_cons.1 hx with rfl|hx
 ·unfold I64;omega
 ·exact hm x hx
end Go.Proofs.YtaongbhamadlkaaGreat
namespace Go.Proofs.YtaongbhamadlkaaGreat
open Go.ChangeShapes Go.WideShapes Go.ChangeAt Go.RowKit
open W
section
variable {H:Type} {enc:TypeId×Value→H} {P:Program} {V1:World}
theorem ints_len {t e:TypeId} {a0:Option Addr} {len cap:Nat} {d:DataW H} {p:List MemPlace} (ht:P.underlying t=some (.slice e)) (he:P.underlying e=some (.int .i64)) (hc:P.cellsOf e=1) (h:DataW.Trod enc P V1 0 (fun _=>true) true t (.slice a0 len cap) d p) :
  len=0∨∃ es sp,d=.slice es sp∧es.length=len:=by
 obtain⟨fuel,hf⟩:=h
 rcases open_ints ht he hc hf with ⟨hcs,hx⟩|⟨a,len',cap',zs,hcs,_,hl,hm,hz,hx,hcell,hwz⟩
 ·simp[Value.cells] at hcs
  exact .inl hcs.2.1
 ·simp[Value.cells] at hcs
  obtain⟨rfl,rfl,rfl⟩:=hcs
  simp only[Prod.mk.injEq] at hx
  obtain⟨rfl,rfl⟩:=hx
  simp only[if_true] at hz
  refine .inr ⟨_,_,rfl,?_⟩
  simp[lits]
  omega
theorem sI_len {v:Value} {l:List Int} {ph:PH} (h:(sI v l).p ph):∃ a c,v=.slice a l.length c:=by
 obtain⟨a,c,rfl,_⟩:=h
 exact⟨a,c,rfl⟩
theorem ints_reach {t e:TypeId} {v:Value} {l:List Int} {d:DataW H} {p:List MemPlace} {ts:List TypeId} {ds:List (DataW H)} {j:Nat} (ht:P.underlying t=some (.slice e)) (he:P.underlying e=some (.int .i64)) (hc:P.cellsOf e=1) (hb:P.bytesOf e=8)
  (h:DataW.Trod enc P V1 0 (fun _=>true) true t v d p) (hl:(sI v l).p (fun k=>V1.heap[k]?)) (hw:(DataW.weightsEach P ts ds).all (·≤reachBytes)=true) (h1:ts[j]?=some t) (h2:ds[j]?=some d):l.length≤17592186043904:=by
 obtain⟨a,c,rfl⟩:=sI_len hl
 rcases ints_len ht he hc h with h|⟨es,sp,rfl,h⟩
 ·omega
 ·have:=sized_slice hw h1 h2 ht
  rw[hb] at this
  have h3:reachBytes=140737488351232:=by decide
  omega
end
end Go.Proofs.YtaongbhamadlkaaGreat
namespace Go.Proofs.YtaongbhamadlkaaGreat
open W Go.RowKit
namespace W
section
variable {P:Program} {e:Env} {bx:List Ow} {F:List Fct}
theorem ResE.cct {fn:Func} {t s r:Tmp} {ty:TypeId} {g g' tg tg' m:Nat} {cs cs':List Value} {x:Value} (h:fn.results=#[.cell t ty,.cell s ty,.tmp r]) (hl:look e t=some (.pointer (some ⟨g,0,none⟩))) (hb:Ow.cells g tg cs∈bx) (hl2:look e s=some (.pointer (some ⟨g',0,none⟩))) (hb2:Ow.cells g' tg' cs'∈bx)
  (hr:Row P ty m) (hm:cs.length=m) (hm2:cs'.length=m) (hx:look e r=some x):ResE P fn e bx F (.tuple #[.agg cs.toArray,.agg cs'.toArray,x]):=fun n fr a w hk ho=>by
 obtain⟨⟨d,hu,hd⟩,hi⟩:=hr
 have h1:a.tmps[t]?.getD undef=.pointer (some ⟨g,0,none⟩):=by rw[hk.at' _ _ hl];rfl
 have h2:=run_loadVar_mid (P:=P) w g 0 ty cs d (fun i v hv=>by rw[Nat.zero_add,own_cell (ho.owns _ hb)];exact hv) hu hd (by rw[hi];simp[hm])
 have h3:a.tmps[s]?.getD undef=.pointer (some ⟨g',0,none⟩):=by rw[hk.at' _ _ hl2];rfl
 have h4:=run_loadVar_mid (P:=P) w g' 0 ty cs' d (fun i v hv=>by rw[Nat.zero_add,own_cell (ho.owns _ hb2)];exact hv) hu hd (by rw[hi];simp[hm2])
 have h5:a.tmps[r]?.getD undef=x:=by rw[hk.at' _ _ hx];rfl
 simp only[results,h]
 simp[h1,asAddr,h2,h3,h4,h5]
end
end W
def IsRg (p q:X.Lp) (R:Nat):RPost:=fun v B G=>∃ (M N:Am) (k j xn yn un wn:Nat) (x y u w:Nat→Rat) (z t:Rat),v=.tuple #[agv M (k:Nat),agv N (j:Nat),.int .i64 0]∧B=[]∧G=[fA M xn yn x y z,fA N un wn u w t]∧AnsP p k xn yn x y z∧AnsP q j un wn u w t∧
 (∀ k,k < xn→Sq R (x k))∧(∀ k,k < yn→Sq R (y k))∧Sq R z∧(∀ k,k < un→Sq R (u k))∧(∀ k,k < wn→Sq R (w k))∧Sq R t
abbrev rgv (E:Int):Value:=.tuple #[agv am0 0,agv am0 0,.int .i64 E]
namespace U.V
open Z
attribute [local irreducible] WC WL WD YO LO LoopEnd W.Fin Scalar SliceT FieldAt Row ArrT AllocT KnS Has W.One SrcE IntT
theorem d34 {G G':Prop} (h:G') (s:Bx G'→G:=by
 intro h
 first|(apply WC.draw (id:=6) [0,1] (.held 0 (.held 1 (.more 2 (.loud 3 (.loud 4 (.loud 5 (.done)))) (.loud 3 (.loud 2 (.loud 4 (.loud 5 (.done)))))))) mixed (by kernel_rfl))|(apply WC.draw (id:=11) [0,1,2] (.held 0 (.held 1 (.held 2 (.loud 3 (.loud 4 (.loud 5 (.loud 6 (.loud 7 (.done))))))))) mixed (by kernel_rfl))|(apply WC.drawR (id:=15) [4,5] [0,1,4] (.held 0 (.held 1 (.loud 2 (.loud 3 (.held 4 (.done)))))) mixed (by kernel_rfl);(focus((repeat(first|exact Rems.nil _|(apply Rems.cons;exact rfl;(repeat(first|exact Rem.head|apply Rem.tail)))));done)))|fail
 exact Bx.h h):G:=s ⟨h⟩
set_option maxHeartbeats 8000000 in
set_option maxRecDepth 60000 in
theorem range0_c (M:Pm) (vars:Int) (m gn:Nat) (ln:Nat→Nat) (a:Nat→Nat→Rat) (b gq:Nat→Rat) (E:Int) (ug:Value) (hE:vldP vars m gn ln=E) (h0:E≠0):FnB Tryz.prog 34 [pgv M vars,ug] [] [fPg M m gn ln a b gq] (IsV (rgv E)):=by
 refine fn_of [(0,(pgv M vars)),(1,ug)] 61 Tryz.func34 rfl Tryz.ntmps34 (by kernel_rfl) rfl suA fun h0=>?_
 repeat'(first|refine gA ?_|(refine goG ?_;intro g)|(refine goV ?_;intro v)|refine goE ?_|(refine goEG ?_;intro g)|(refine goEV ?_;intro v)|refine goD ?_|refine goXD ?_|(refine goDG ?_;intro g)|(refine goDV ?_;intro v)|apply WD.more_of|refine WM.more (by exact rfl) (by exact rfl) (by exact rfl) ?_ ?_|refine WM.one (by exact rfl) (by exact rfl) (by exact rfl) ?_|refine WM.more0 (by exact rfl) (by exact rfl) ?_ ?_|refine WM.one0 (by exact rfl) (by exact rfl) ?_|(refine goLG ?_;intro g)|(refine goLV ?_;intro v)|refine goLS ?_|refine gY ?_|refine d34 ?_|fail)
 refine WL.callV (valid_c M m gn ln a b gq vars) ?_ (hF:=.cons (.f hmA) .nil)
 rw[hE]
 repeat'(first|refine gA ?_|(refine goG ?_;intro g)|(refine goV ?_;intro v)|refine goE ?_|(refine goEG ?_;intro g)|(refine goEV ?_;intro v)|refine goD ?_|refine goXD ?_|(refine goDG ?_;intro g)|(refine goDV ?_;intro v)|apply WD.more_of|refine WM.more (by exact rfl) (by exact rfl) (by exact rfl) ?_ ?_|refine WM.one (by exact rfl) (by exact rfl) (by exact rfl) ?_|refine WM.more0 (by exact rfl) (by exact rfl) ?_ ?_|refine WM.one0 (by exact rfl) (by exact rfl) ?_|(refine goLG ?_;intro g)|(refine goLV ?_;intro v)|refine goLS ?_|refine gY ?_|refine d34 ?_|fail)
 exact WC.ret (Fin.v (ResE.cct rfl rfl meA rfl meA T.r33 rfl rfl rfl) meA rfl)
set_option maxHeartbeats 8000000 in
set_option maxRecDepth 60000 in
theorem range1_c (M:Pm) (vn n:Nat) (L:List X.Ln) (gf gq:Nat→Rat) (mu:Nat→QM) (ug:Value) (hv:vn≤48) (hm:L.length≤128) (hn:n≠vn):FnB Tryz.prog 34 [pgv M vn,ug] [] [fP M (X.lpOf vn L gf),fF ug n mu gq] (IsV (rgv 1)):=by
 refine fn_of [(0,(pgv M vn)),(1,ug)] 61 Tryz.func34 rfl Tryz.ntmps34 (by kernel_rfl) rfl suA fun h0=>?_
 repeat'(first|refine gA ?_|(refine goG ?_;intro g)|(refine goV ?_;intro v)|refine goE ?_|(refine goEG ?_;intro g)|(refine goEV ?_;intro v)|refine goD ?_|refine goXD ?_|(refine goDG ?_;intro g)|(refine goDV ?_;intro v)|apply WD.more_of|refine WM.more (by exact rfl) (by exact rfl) (by exact rfl) ?_ ?_|refine WM.one (by exact rfl) (by exact rfl) (by exact rfl) ?_|refine WM.more0 (by exact rfl) (by exact rfl) ?_ ?_|refine WM.one0 (by exact rfl) (by exact rfl) ?_|(refine goLG ?_;intro g)|(refine goLV ?_;intro v)|refine goLS ?_|refine gY ?_|refine d34 ?_|fail)
 refine WL.callV (valid_c M L.length vn (fun _=>vn) (X.ca L) (X.cb L) gf vn) ?_ (hF:=.cons (.f (show Has _ (fP M (X.lpOf vn L gf)) from hmA)) .nil)
 rw[show vldP (vn:Int) L.length vn (fun _=>vn)=0 from vldP_ok (p:=X.lpOf vn L gf) hv hm]
 repeat'(first|refine gA ?_|(refine goG ?_;intro g)|(refine goV ?_;intro v)|refine goE ?_|(refine goEG ?_;intro g)|(refine goEV ?_;intro v)|refine goD ?_|refine goXD ?_|(refine goDG ?_;intro g)|(refine goDV ?_;intro v)|apply WD.more_of|refine WM.more (by exact rfl) (by exact rfl) (by exact rfl) ?_ ?_|refine WM.one (by exact rfl) (by exact rfl) (by exact rfl) ?_|refine WM.more0 (by exact rfl) (by exact rfl) ?_ ?_|refine WM.one0 (by exact rfl) (by exact rfl) ?_|(refine goLG ?_;intro g)|(refine goLV ?_;intro v)|refine goLS ?_|refine gY ?_|refine d34 ?_|fail)
 exact WC.ret (Fin.v (ResE.cct rfl rfl meA rfl meA T.r33 rfl rfl rfl) meA rfl)
set_option maxHeartbeats 16000000 in
set_option maxRecDepth 60000 in
theorem range_c (M:Pm) {vn m K0:Nat} (L:List X.Ln) (gf gq:Nat→Rat) (mu:Nat→QM) (ug:Value) (hf:Fits vn m K0) (hL:LSq K0 vn L) (hm:L.length≤m) (hq:∀ k,k < vn→Sq K0 (gq k)) :
  FnB Tryz.prog 34 [pgv M vn,ug] [] [fP M (X.lpOf vn L gf),fF ug vn mu gq] (IsRg (X.lpOf vn L fun k=>-(gq k)) (X.lpOf vn L gq) (szR vn m K0)):=by
 refine fn_of [(0,(pgv M vn)),(1,ug)] 61 Tryz.func34 rfl Tryz.ntmps34 (by kernel_rfl) rfl suA fun h0=>?_
 have hv:=hf.v
 have hm2:=hf.m
 refine WC.fact (fLn M vn L) (W.Has.pL (g:=gf) hmA) ?_
 refine WC.fact (fF M.gv vn M.mg gf) (W.Has.pG (L:=L) hmA) ?_
 refine WC.addNil 31 4 ?_
 repeat'(first|refine gA ?_|(refine goG ?_;intro g)|(refine goV ?_;intro v)|refine goE ?_|(refine goEG ?_;intro g)|(refine goEV ?_;intro v)|refine goD ?_|refine goXD ?_|(refine goDG ?_;intro g)|(refine goDV ?_;intro v)|apply WD.more_of|refine WM.more (by exact rfl) (by exact rfl) (by exact rfl) ?_ ?_|refine WM.one (by exact rfl) (by exact rfl) (by exact rfl) ?_|refine WM.more0 (by exact rfl) (by exact rfl) ?_ ?_|refine WM.one0 (by exact rfl) (by exact rfl) ?_|(refine goLG ?_;intro g)|(refine goLV ?_;intro v)|refine goLS ?_|refine gY ?_|refine d34 ?_|fail)
 rename_i g2 g4
 revert g;intro g5
 refine WL.callV (valid_c M L.length vn (fun _=>vn) (X.ca L) (X.cb L) gf vn) ?_ (hF:=.cons (.f (show Has _ (fP M (X.lpOf vn L gf)) from hmA)) .nil)
 rw[show vldP (vn:Int) L.length vn (fun _=>vn)=0 from vldP_ok (p:=X.lpOf vn L gf) hv (Nat.le_trans hm hm2)]
 repeat'(first|refine gA ?_|(refine goG ?_;intro g)|(refine goV ?_;intro v)|refine goE ?_|(refine goEG ?_;intro g)|(refine goEV ?_;intro v))
 refine WC.cutP (σ:=Nat×Nat) (fun st=>[(9,ptr st.2),(8,ptr st.1),(5,ptr g5),(4,ptr g4),(2,ptr g2),(1,ug)])
  (fun st=>[Ow.cells st.1 26 (pcs M vn),Ow.cells st.2 26 (pcs M vn),Ow.cells g5 33 (acs am0 0),Ow.cells g4 33 (acs am0 0),Ow.slice (.slice none 0 0) 31 4 []])
  (fun _=>[fLn M vn L,fF M.gv vn M.mg gf,ge h0,fF ug vn mu gq]) (fun _=>True) ?_ ?_
 ·repeat'(first|refine gA ?_|(refine goG ?_;intro g)|(refine goV ?_;intro v)|refine goE ?_|(refine goEG ?_;intro g)|(refine goEV ?_;intro v)|refine goD ?_|refine goXD ?_|(refine goDG ?_;intro g)|(refine goDV ?_;intro v)|apply WD.more_of|refine WM.more (by exact rfl) (by exact rfl) (by exact rfl) ?_ ?_|refine WM.one (by exact rfl) (by exact rfl) (by exact rfl) ?_|refine WM.more0 (by exact rfl) (by exact rfl) ?_ ?_|refine WM.one0 (by exact rfl) (by exact rfl) ?_|(refine goLG ?_;intro g)|(refine goLV ?_;intro v)|refine goLS ?_|refine gY ?_|refine d34 ?_|fail)
  all_goals(apply Ex2;refine⟨trivial,?_,?_,?_⟩;(focus(repeat(first|exact Sub.nil _|refine Sub.cons rfl ?_)));(focus(repeat(first|exact SubP.nil _|(apply SubP.cons;(repeat(first|exact Rem.head|apply Rem.tail))))));(focus(repeat(first|exact HasAll.nil|(apply HasAll.cons;exact hsA)))))
 rintro⟨g8,g9⟩ -
 simp only
 repeat'(first|refine gA ?_|(refine goG ?_;intro g)|(refine goV ?_;intro v)|refine goE ?_|(refine goEG ?_;intro g)|(refine goEV ?_;intro v)|refine goD ?_|refine goXD ?_|(refine goDG ?_;intro g)|(refine goDV ?_;intro v)|apply WD.more_of|refine WM.more (by exact rfl) (by exact rfl) (by exact rfl) ?_ ?_|refine WM.one (by exact rfl) (by exact rfl) (by exact rfl) ?_|refine WM.more0 (by exact rfl) (by exact rfl) ?_ ?_|refine WM.one0 (by exact rfl) (by exact rfl) ?_|(refine goLG ?_;intro g)|(refine goLV ?_;intro v)|refine goLS ?_|refine gY ?_|refine d34 ?_|fail)
 refine WC.lp (σ:=Nat×Value×(Nat→QM)) (fun st=>[(37,.int .i64 (st.1:Int)),(36,.int .i64 (vn:Int)),(35,ug),(9,ptr g9),(8,ptr g8),(5,ptr g5),(4,ptr g4)])
  (fun st=>[Ow.cells g8 26 [.int .i64 (vn:Int),M.lv,st.2.1],Ow.cells g9 26 [.int .i64 (vn:Int),M.lv,ug],Ow.cells g5 33 (acs am0 0),Ow.cells g4 33 (acs am0 0),Ow.slice st.2.1 31 4 (qcells st.1 st.2.2)])
  (fun st=>[mF st.1 st.2.2 (clx (fun k=>-(gq k)) st.1),fLn M vn L,ge h0,fF ug vn mu gq]) (fun st=>st.1≤vn) (fun st=>vn - st.1) (0,.slice none 0 0,fun _=>m00) (Nat.zero_le _) ?_ (hG:=.cons (W.Has.mFn _ _) sfA)
 rintro⟨k,sv,ms⟩ hk
 simp only at hk ⊢
 by_cases c:k < vn
 ·refine WC.fact (isQ (qv (mu k)) (gq k)) (W.Has.q (W.Has.fm (v:=ug) (ms:=mu) hmA) c) ?_
  repeat'(first|refine gA ?_|(refine goG ?_;intro g)|(refine goV ?_;intro v)|refine goE ?_|(refine goEG ?_;intro g)|(refine goEV ?_;intro v)|refine goD ?_|refine goXD ?_|(refine goDG ?_;intro g)|(refine goDV ?_;intro v)|apply WD.more_of|refine WM.more (by exact rfl) (by exact rfl) (by exact rfl) ?_ ?_|refine WM.one (by exact rfl) (by exact rfl) (by exact rfl) ?_|refine WM.more0 (by exact rfl) (by exact rfl) ?_ ?_|refine WM.one0 (by exact rfl) (by exact rfl) ?_|(refine goLG ?_;intro g)|(refine goLV ?_;intro v)|refine goLS ?_|refine gY ?_|refine d34 ?_|fail)
  first|refine WL.callK (Zn.neg (mu k) (gq k)) ?_|refine WD.callK (Zn.neg (mu k) (gq k)) ?_|refine LO.callM (Zn.neg (mu k) (gq k)) ?_
  rintro _ _ _ ⟨m3,rfl,rfl,rfl⟩
  simp only[List.nil_append,List.cons_append]
  refine WD.fact (mF (k+1) (upd ms k m3) (clx (fun k=>-(gq k)) (k+1))) ((W.Has.mFapp (n:=k) (ms:=ms) (m:=m3) (qf:=clx _ k) hmA (show Has _ (isQ (qv m3) (-(gq k))) from hmA)).mFsame fun j hj=>clx_up (c:=fun k=>-(gq k)) j) ?_
  repeat'(first|refine gA ?_|(refine goG ?_;intro g)|(refine goV ?_;intro v)|refine goE ?_|(refine goEG ?_;intro g)|(refine goEV ?_;intro v)|refine goD ?_|refine goXD ?_|(refine goDG ?_;intro g)|(refine goDV ?_;intro v)|apply WD.more_of|refine WM.more (by exact rfl) (by exact rfl) (by exact rfl) ?_ ?_|refine WM.one (by exact rfl) (by exact rfl) (by exact rfl) ?_|refine WM.more0 (by exact rfl) (by exact rfl) ?_ ?_|refine WM.one0 (by exact rfl) (by exact rfl) ?_|(refine goLG ?_;intro g)|(refine goLV ?_;intro v)|refine goLS ?_|refine gY ?_|refine d34 ?_|fail)
  exact LoopEnd.mk (k+1,_,_) (by show k+1≤vn;omega) (by show vn - (k+1) < vn - k;omega)
 obtain rfl:vn=k:=by omega
 refine WC.freezeF sv vn ms (fun k=>-(gq k)) (by repeat(first|exact Sel.head|apply Sel.tail)) (W.Has.mFsame (qf:=clx (fun k=>-(gq k)) vn) hmA fun j hj=>by unfold clx;rw[if_pos hj]) ?_
 repeat'(first|refine gA ?_|(refine goG ?_;intro g)|(refine goV ?_;intro v)|refine goE ?_|(refine goEG ?_;intro g)|(refine goEV ?_;intro v)|refine goD ?_|refine goXD ?_|(refine goDG ?_;intro g)|(refine goDV ?_;intro v)|apply WD.more_of|refine WM.more (by exact rfl) (by exact rfl) (by exact rfl) ?_ ?_|refine WM.one (by exact rfl) (by exact rfl) (by exact rfl) ?_|refine WM.more0 (by exact rfl) (by exact rfl) ?_ ?_|refine WM.one0 (by exact rfl) (by exact rfl) ?_|(refine goLG ?_;intro g)|(refine goLV ?_;intro v)|refine goLS ?_|refine gY ?_|refine d34 ?_|fail)
 refine WL.fact' (fP (M.wg sv ms) (X.lpOf vn L fun k=>-(gq k))) (W.Has.lnp (M:=M.wg sv ms) (W.Has.lnwg (M:=M) hmA) (show Has _ (fF sv vn ms fun k=>-(gq k)) from hmA)) ?_
 refine WL.callK (solveL_c (M.wg sv ms) hf hL hm (fun k hk=>(hq k hk).neg)) ?_
 rintro _ _ _ ⟨A,k1,xn,yn,x,y,z,rfl,rfl,rfl,hA,hx,hy,hz⟩
 simp only[List.nil_append,List.cons_append]
 refine WL.fact' (fF A.xv xn A.mx x) (W.Has.ax (M:=A) (xn:=xn) (yn:=yn) (x:=x) (y:=y) (z:=z) hmA) ?_
 refine WL.fact' (fF A.yv yn A.my y) (W.Has.ay (M:=A) (xn:=xn) (yn:=yn) (x:=x) (y:=y) (z:=z) hmA) ?_
 refine WL.fact' (isQ (qv A.mz) z) (W.Has.az (M:=A) (xn:=xn) (yn:=yn) (x:=x) (y:=y) (z:=z) hmA) ?_
 repeat'(first|refine gA ?_|(refine goG ?_;intro g)|(refine goV ?_;intro v)|refine goE ?_|(refine goEG ?_;intro g)|(refine goEV ?_;intro v)|refine goD ?_|refine goXD ?_|(refine goDG ?_;intro g)|(refine goDV ?_;intro v)|apply WD.more_of|refine WM.more (by exact rfl) (by exact rfl) (by exact rfl) ?_ ?_|refine WM.one (by exact rfl) (by exact rfl) (by exact rfl) ?_|refine WM.more0 (by exact rfl) (by exact rfl) ?_ ?_|refine WM.one0 (by exact rfl) (by exact rfl) ?_|(refine goLG ?_;intro g)|(refine goLV ?_;intro v)|refine goLS ?_|refine gY ?_|refine d34 ?_|fail)
 revert g;intro g12
 refine WL.fact' (fP (M.wg ug mu) (X.lpOf vn L gq)) (W.Has.lnp (M:=M.wg ug mu) (W.Has.lnwg (M:=M) hmA) (show Has _ (fF ug vn mu gq) from hmA)) ?_
 refine WL.callK (solveL_c (M.wg ug mu) hf hL hm hq) ?_
 rintro _ _ _ ⟨B,k2,un,wn,u,w,t,rfl,rfl,rfl,hB,hu,hw,ht⟩
 simp only[List.nil_append,List.cons_append]
 refine WL.fact' (fF B.xv un B.mx u) (W.Has.ax (M:=B) (xn:=un) (yn:=wn) (x:=u) (y:=w) (z:=t) hmA) ?_
 refine WL.fact' (fF B.yv wn B.my w) (W.Has.ay (M:=B) (xn:=un) (yn:=wn) (x:=u) (y:=w) (z:=t) hmA) ?_
 refine WL.fact' (isQ (qv B.mz) t) (W.Has.az (M:=B) (xn:=un) (yn:=wn) (x:=u) (y:=w) (z:=t) hmA) ?_
 repeat'(first|refine gA ?_|(refine goG ?_;intro g)|(refine goV ?_;intro v)|refine goE ?_|(refine goEG ?_;intro g)|(refine goEV ?_;intro v)|refine goD ?_|refine goXD ?_|(refine goDG ?_;intro g)|(refine goDV ?_;intro v)|apply WD.more_of|refine WM.more (by exact rfl) (by exact rfl) (by exact rfl) ?_ ?_|refine WM.one (by exact rfl) (by exact rfl) (by exact rfl) ?_|refine WM.more0 (by exact rfl) (by exact rfl) ?_ ?_|refine WM.one0 (by exact rfl) (by exact rfl) ?_|(refine goLG ?_;intro g)|(refine goLV ?_;intro v)|refine goLS ?_|refine gY ?_|refine d34 ?_|fail)
 exact WC.ret (Fin.p [] [fA A xn yn x y z,fA B un wn u w t] (ResE.cct rfl rfl meA rfl meA T.r33 rfl rfl rfl) meA (List.nil_sublist _) haA ⟨A,B,k1,k2,xn,yn,un,wn,x,y,u,w,z,t,rfl,rfl,rfl,hA,hB,hx,hy,hz,hu,hw,ht⟩)
end U.V
end Go.Proofs.YtaongbhamadlkaaGreat
