/- Lemmas for the proof of a law: Contract: bounds.Core. Conditions: none. -/
import Derived.Test.YtaongbhamadlkaaGreatBq13
import Derived.Test.YtaongbhamadlkaaGreatBq10
set_option maxHeartbeats 8000000
set_option linter.unusedVariables false
set_option linter.unusedSimpArgs false
set_option linter.unusedSectionVars false
namespace Go.Proofs.YtaongbhamadlkaaGreat
open W Go.RowKit
namespace I
open G H
attribute [local irreducible] WC WL WD YO LO LoopEnd W.Fin Scalar SliceT FieldAt Row ArrT AllocT KnS Has W.One SrcE IntT
set_option maxRecDepth 60000 in
theorem core_c (D:Nat) [Den D] (vb ug:Value) (ms:Nat→QM) (bs:List Bd) (gs:List Int) (n:Int) (hf:Fit bs) :
  FnB Tryz.prog 108 [.int .i64 n,vb,ug] [] [fB D vb ms bs,sI ug gs] (IsCo (cor n bs gs)):=by
 refine fn_of [(0,(.int .i64 n)),(1,vb),(2,ug)] 62 Tryz.func108 rfl Tryz.ntmps108 (by kernel_rfl) rfl suA fun h0=>?_
 have bad:∀ {F:List Fct},cor n bs gs=([],1)→HasAll F [sI (.slice none 0 0) (cor n bs gs).1]:=fun h=>.cons (by rw[h];exact nil0) .nil
 repeat'(first|refine gA ?_|(refine goG ?_;intro g)|(refine goV ?_;intro v))
 first|refine WL.callV (made_c D vb ms bs n) ?_|refine WD.callV (made_c D vb ms bs n) ?_
 cases hvb:validB n bs with
 |false=>
  have hc:cor n bs gs=([],1):=if_neg (by rw[hvb];simp)
  repeat'(first|refine gA ?_|(refine goG ?_;intro g)|(refine goV ?_;intro v))
  exact WC.ret (Fin.p [] [sI (.slice none 0 0) (cor n bs gs).1] (ResE.t2 rfl rfl rfl) meA (List.nil_sublist _) (bad hc) ⟨_,by rw[hc],rfl,rfl⟩)
 |true=>
  obtain⟨n,rfl,hv⟩:=Vld.of hvb
  have hvl:=hv.l
  by_cases c1:(gs.length:Int)=bs.length
  ·repeat'(first|refine gA ?_|(refine goG ?_;intro g)|(refine goV ?_;intro v))
   have hgl:gs.length≤1000000:=by omega
   have hsl:(srt gs).length≤1000000:=by rw[srt_len];exact hgl
   have hcl:(Lib.compact (srt gs)).length≤1000000:=Nat.le_trans (compact_le _) hsl
   revert g;intro g8
   refine WL.callV (containsF_c ug gs 163 [] ttF (fun x=>decide (x < -1)) core1_c) (hF:=.cons (HasB.f hmA) (.cons (HasB.f has_tt) .nil)) ?_
   by_cases c2:∃ x∈gs,decide (x < -1)=true
   ·have hc:cor n bs gs=([],1):=if_neg (fun h=>h.2.2 c2)
    rw[decide_eq_true c2]
    repeat'(first|refine gA ?_|(refine goG ?_;intro g)|(refine goV ?_;intro v))
    exact WC.ret (Fin.p [] [sI (.slice none 0 0) (cor n bs gs).1] (ResE.t2 rfl rfl rfl) meA (List.nil_sublist _) (bad hc) ⟨_,by rw[hc],rfl,rfl⟩)
   ·have hcor:cor n bs gs=if sv n bs gs (coreL gs)=true then([],6) else((coreL gs).foldl (coreS n bs gs) (coreL gs),0):=by
     unfold cor;rw[if_pos ⟨hvb,by omega,c2⟩];rfl
    rw[decide_eq_false c2]
    repeat'(first|refine gA ?_|(refine goG ?_;intro g)|(refine goV ?_;intro v))
    first|refine WL.callK (values_c ug gs) ?_|refine WD.callK (values_c ug gs) ?_|refine LO.callM (values_c ug gs) ?_
    rintro rv bb GG ⟨gi,rfl,rfl,rfl⟩
    simp only[List.nil_append,List.cons_append]
    repeat'(first|refine gA ?_|(refine goG ?_;intro g)|(refine goV ?_;intro v))
    first|refine WL.callO (sorted_c gi ug gs hgl) (fun rv=>?_)|refine WD.callO (sorted_c gi ug gs hgl) (fun rv=>?_)
    refine WL.callG [Ow.slice rv 3 1 (ints (srt gs))] _ (.refl _) (compactA_c rv (srt gs) hsl) ?_
    rintro rc bb GG ⟨rfl,rfl⟩
    simp only[List.nil_append,List.cons_append]
    repeat'(first|refine gA ?_|(refine goG ?_;intro g)|(refine goV ?_;intro v))
    refine WL.callG [Ow.slice rc 3 1 (ints (Lib.compact (srt gs)))] _ (.refl _) (delNeg_c rc (Lib.compact (srt gs)) hcl) ?_ (hF:=.cons has_tt .nil)
    rintro rd bb GG ⟨rfl,rfl⟩
    simp only[List.nil_append,List.cons_append]
    rw[show(Lib.compact (srt gs)).filter (fun x=>!decide (x < 0))=coreL gs from rfl]
    refine WL.freezeI (l:=coreL gs) (v:=rd) (el:=3) (by repeat(first|exact Sel.head|apply Sel.tail)) ?_
    repeat'(first|refine gA ?_|(refine goG ?_;intro g)|(refine goV ?_;intro v))
    have hll:=coreL_len gs
    generalize hL:coreL gs=L at *
    first|refine WL.callV (solvable_c D vb ug rd ms bs gs L n hv hf (by omega)) ?_|refine WD.callV (solvable_c D vb ug rd ms bs gs L n hv hf (by omega)) ?_
    by_cases c3:sv n bs gs L=true
    ·rw[if_pos c3] at hcor
     rw[c3]
     repeat'(first|refine gA ?_|(refine goG ?_;intro g)|(refine goV ?_;intro v))
     exact WC.ret (Fin.p [] [sI (.slice none 0 0) (cor n bs gs).1] (ResE.t2 rfl rfl rfl) meA (List.nil_sublist _) (.cons (by rw[hcor];exact nil0) .nil) ⟨_,by rw[hcor],rfl,rfl⟩)
    ·rw[if_neg c3] at hcor
     rw[Bool.eq_false_iff.2 c3]
     repeat'(first|refine gA ?_|(refine goG ?_;intro g)|(refine goV ?_;intro v))
     first|refine WL.callO (clone_c rd L (by omega)) (fun rv=>?_)|refine WD.callO (clone_c rd L (by omega)) (fun rv=>?_)
     refine WL.freezeI (l:=L) (v:=rv) (el:=3) (by repeat(first|exact Sel.head|apply Sel.tail)) ?_
     repeat'(first|refine gA ?_|(refine goG ?_;intro g)|(refine goV ?_;intro v))
     refine WC.lp (σ:=Nat×Value) (fun s=>[(46,.int .i64 (s.1:Int)),(10,s.2),(44,rv),(45,.int .i64 (L.length:Int)),(8,ptr g8),(2,ug)])
      (fun _=>[Ow.cells g8 123 [.int .i64 n,vb]])
      (fun s=>[sI s.2 ((L.take s.1).foldl (coreS n bs gs) L),sI rv L,ge h0,fB D vb ms bs,sI ug gs]) (fun s=>s.1≤L.length) (fun s=>L.length - s.1) (0,rd) (Nat.zero_le _) ?_ suA slA sfA
     rintro⟨i,lv⟩ hi
     simp only at hi ⊢
     have hfl:=coreS_len n bs gs (L.take i) L
     by_cases c:i < L.length
     ·have hst:(L.take (i+1)).foldl (coreS n bs gs) L=coreS n bs gs ((L.take i).foldl (coreS n bs gs) L) (L.getD i 0):=by
       rw[List.take_succ_eq_append_getElem c,List.foldl_append,List.getD_eq_getElem?_getD,List.getElem?_eq_getElem c];rfl
      generalize (L.take i).foldl (coreS n bs gs) L=M at *
      repeat'(first|refine gA ?_|(refine goG ?_;intro g)|(refine goV ?_;intro v))
      revert g;intro g12
      refine WL.keep (g:=g12) (by repeat(first|exact Rem.head|apply Rem.tail)) ?_
      first|refine WL.callO (clone_c lv M (by omega)) (fun rv=>?_)|refine WD.callO (clone_c lv M (by omega)) (fun rv=>?_)
      repeat'(first|refine gA ?_|(refine goG ?_;intro g)|(refine goV ?_;intro v))
      refine WL.callG [Ow.slice rv 3 1 (ints M)] _ (.refl _) (delEq_c rv M (L.getD i 0) g12 (by omega)) ?_
      rintro rr bb GG ⟨rfl,rfl⟩
      simp only[List.nil_append,List.cons_append]
      have hrl:(M.filter fun x=>!decide (x=L.getD i 0)).length≤M.length:=List.length_filter_le _ _
      have hcs:coreS n bs gs M (L.getD i 0)=if sv n bs gs (M.filter fun x=>!decide (x=L.getD i 0))=true then M else M.filter fun x=>!decide (x=L.getD i 0):=rfl
      generalize M.filter (fun x=>!decide (x=L.getD i 0))=M2 at *
      refine WL.freezeI (l:=M2) (v:=rr) (el:=3) (by repeat(first|exact Sel.head|apply Sel.tail)) ?_
      repeat'(first|refine gA ?_|(refine goG ?_;intro g)|(refine goV ?_;intro v))
      first|refine WL.callV (solvable_c D vb ug rr ms bs gs M2 n hv hf (by omega)) ?_|refine WD.callV (solvable_c D vb ug rr ms bs gs M2 n hv hf (by omega)) ?_
      by_cases c4:sv n bs gs M2=true
      ·rw[if_pos c4] at hcs
       rw[c4]
       repeat'(first|refine gA ?_|(refine goG ?_;intro g)|(refine goV ?_;intro v))
       exact LoopEnd.mk (i+1,lv) (by show i+1≤L.length;omega) (by show L.length - (i+1) < L.length - i;omega) suA slA (HasAll.cons (by show Has _ (sI lv ((L.take (i+1)).foldl (coreS n bs gs) L));rw[hst,hcs];exact hmA) sfA)
      ·rw[if_neg c4] at hcs
       rw[Bool.eq_false_iff.2 c4]
       repeat'(first|refine gA ?_|(refine goG ?_;intro g)|(refine goV ?_;intro v))
       exact LoopEnd.mk (i+1,rr) (by show i+1≤L.length;omega) (by show L.length - (i+1) < L.length - i;omega) suA slA (HasAll.cons (by show Has _ (sI rr ((L.take (i+1)).foldl (coreS n bs gs) L));rw[hst,hcs];exact hmA) sfA)
     ·obtain rfl:i=L.length:=by omega
      rw[List.take_of_length_le (Nat.le_refl _)]
      repeat'(first|refine gA ?_|(refine goG ?_;intro g)|(refine goV ?_;intro v))
      exact WC.ret (Fin.p [] [sI lv (cor n bs gs).1] (ResE.t2 rfl rfl rfl) meA (List.nil_sublist _) (by rw[hcor];exact haA) ⟨_,by rw[hcor],rfl,rfl⟩)
  ·have hc:cor n bs gs=([],1):=if_neg (by omega)
   repeat'(first|refine gA ?_|(refine goG ?_;intro g)|(refine goV ?_;intro v))
   exact WC.ret (Fin.p [] [sI (.slice none 0 0) (cor n bs gs).1] (ResE.t2 rfl rfl rfl) meA (List.nil_sublist _) (bad hc) ⟨_,by rw[hc],rfl,rfl⟩)
end I
end Go.Proofs.YtaongbhamadlkaaGreat
namespace Go.Proofs.YtaongbhamadlkaaGreat
open W Go.RowKit
variable {P:Program} {e:Env} {bx bx':List Ow} {F:List Fct} {ty t el:TypeId} {v u:Value} {x y z:Operand} {D n k:Nat} {ms:Nat→QM} {m m1 m2 m3:QM} {bs:List Bd} {b b1 b2 b3:Bd} {q:Rat} {K:RPost} {i1 i2 i3:Int}
theorem LO.bsI2 (h1:ev e x=some (.int .i64 i1)) (h2:ev e y=some (.int .i64 i2)) (h:∀ v,K v (Ow.slice v 3 1 (ints [i1,i2])::bx) F):LO Tryz.prog (.buildSlice 22 2 #[(0,x),(1,y)]) ty e bx F K:=LO.buildSlice (parts:=[(0,x),(1,y)]) (us:=[.int .i64 i1,.int .i64 i2]) (cs:=ints [i1,i2]) (.cons h1 (.cons h2 .nil)) (fun _=>by kernel_rfl) rfl (by decide) h
theorem LO.bsI3 (h1:ev e x=some (.int .i64 i1)) (h2:ev e y=some (.int .i64 i2)) (h3:ev e z=some (.int .i64 i3)) (h:∀ v,K v (Ow.slice v 3 1 (ints [i1,i2,i3])::bx) F):LO Tryz.prog (.buildSlice 22 3 #[(0,x),(1,y),(2,z)]) ty e bx F K:=LO.buildSlice (parts:=[(0,x),(1,y),(2,z)]) (us:=[.int .i64 i1,.int .i64 i2,.int .i64 i3]) (cs:=ints [i1,i2,i3]) (.cons h1 (.cons h2 (.cons h3 .nil))) (fun _=>by kernel_rfl) rfl (by decide) h
def up3 (m1 m2 m3:QM):Nat→QM:=upd (upd (upd (fun _=>m00) 0 m1) 1 m2) 2 m3
theorem bcells3:bcells [b1,b2,b3] (up3 m1 m2 m3)=bcs b1 m1++(bcs b2 m2++bcs b3 m3):=by
 have h0:bcells [] (fun _=>m00)=[]:=by kernel_rfl
 have h1:=bcells_app (bs:=[]) (b:=b1) (ms:=fun _=>m00) (m:=m1)
 have h2:=bcells_app (bs:=[b1]) (b:=b2) (ms:=upd (fun _=>m00) 0 m1) (m:=m2)
 have h3:=bcells_app (bs:=[b1,b2]) (b:=b3) (ms:=upd (upd (fun _=>m00) 0 m1) 1 m2) (m:=m3)
 rw[h0] at h1
 unfold up3
 refine h3.symm.trans ?_
 rw[←List.append_assoc]
 refine congrArg (·++bcs b3 m3) (h2.symm.trans ?_)
 exact congrArg (·++bcs b2 m2) h1.symm
theorem qcells3:qcells 3 (up3 m1 m2 m3)=qcs m1++(qcs m2++qcs m3):=by
 have h0:qcells 0 (fun _=>m00)=[]:=by kernel_rfl
 have h1:=qcells_app (n:=0) (ms:=fun _=>m00) (m:=m1)
 have h2:=qcells_app (n:=1) (ms:=upd (fun _=>m00) 0 m1) (m:=m2)
 have h3:=qcells_app (n:=2) (ms:=upd (upd (fun _=>m00) 0 m1) 1 m2) (m:=m3)
 rw[h0] at h1
 unfold up3
 refine h3.symm.trans ?_
 rw[←List.append_assoc]
 refine congrArg (·++qcs m3) (h2.symm.trans ?_)
 exact congrArg (·++qcs m2) h1.symm
theorem LO.bsB3 (h1:ev e x=some (bv b1 m1)) (h2:ev e y=some (bv b2 m2)) (h3:ev e z=some (bv b3 m3)) (h:∀ v,K v (Ow.slice v 77 6 (bcells [b1,b2,b3] (up3 m1 m2 m3))::bx) F):LO Tryz.prog (.buildSlice 72 3 #[(0,x),(1,y),(2,z)]) ty e bx F K:=LO.buildSlice (parts:=[(0,x),(1,y),(2,z)]) (us:=[bv b1 m1,bv b2 m2,bv b3 m3]) (cs:=bcells [b1,b2,b3] (up3 m1 m2 m3)) (.cons h1 (.cons h2 (.cons h3 .nil))) (fun _=>by rw[bcells3];kernel_rfl) rfl (by decide) h
theorem LO.bsR3 (h1:ev e x=some (qv m1)) (h2:ev e y=some (qv m2)) (h3:ev e z=some (qv m3)) (h:∀ v,K v (Ow.slice v 31 4 (qcells 3 (up3 m1 m2 m3))::bx) F):LO Tryz.prog (.buildSlice 24 3 #[(0,x),(1,y),(2,z)]) ty e bx F K:=LO.buildSlice (parts:=[(0,x),(1,y),(2,z)]) (us:=[qv m1,qv m2,qv m3]) (cs:=qcells 3 (up3 m1 m2 m3)) (.cons h1 (.cons h2 (.cons h3 .nil))) (fun _=>by rw[qcells3];kernel_rfl) rfl (by decide) h
theorem W.Has.mB3 (h1:Has F (isQ (qv m1) (wq D b1.w))) (h2:Has F (isQ (qv m2) (wq D b2.w))) (h3:Has F (isQ (qv m3) (wq D b3.w))):Has F (mB D (up3 m1 m2 m3) [b1,b2,b3]):=fun p hf i hi=>by
 match i,hi with
 |0,_=>exact h1 p hf
 |1,_=>exact h2 p hf
 |2,_=>exact h3 p hf
 |i+3,hi=>exact absurd hi (by simp)
theorem W.Has.mQ3 (h1:Has F (isQ (qv m1) (wq D i1))) (h2:Has F (isQ (qv m2) (wq D i2))) (h3:Has F (isQ (qv m3) (wq D i3))):Has F (mQ D (up3 m1 m2 m3) [i1,i2,i3]):=fun p hf i hi=>by
 match i,hi with
 |0,_=>exact h1 p hf
 |1,_=>exact h2 p hf
 |2,_=>exact h3 p hf
 |i+3,hi=>exact absurd hi (by simp)
end Go.Proofs.YtaongbhamadlkaaGreat
namespace Go.Proofs.YtaongbhamadlkaaGreat
open W Go.RowKit
attribute [local irreducible] WC WL WD YO LO LoopEnd W.Fin Scalar SliceT FieldAt Row ArrT AllocT KnS Has W.One SrcE IntT
namespace J
set_option maxRecDepth 60000
theorem t1A {G:Prop} (h:G:=by first|((exact I.t1A);done)|fail):G:=h
theorem t2A {G:Prop} (h:G:=by first|((exact I.t2A);done)|fail):G:=h
theorem t3A {G:Prop} (h:G:=by first|((exact I.t3A);done)|fail):G:=h
theorem t5A {G:Prop} (h:G:=by first|((exact I.t5A);done)|fail):G:=h
theorem t6A {G:Prop} (h:G:=by first|((exact I.t6A);done)|fail):G:=h
theorem knA {G:Prop} (h:G:=by first|((exact I.knA);done)|fail):G:=h
theorem hsA {G:Prop} (h:G:=by first|((exact I.hsA);done)|fail):G:=h
theorem y_indexAddr {G:Prop} (h:G:=by first|((exact I.y_indexAddr);done)|fail):G:=h
theorem y_load {G:Prop} (h:G:=by first|((exact I.y_load);done)|fail):G:=h
theorem y_build {G:Prop} (h:G:=by first|((exact I.y_build);done)|fail):G:=h
theorem go {G G':Prop} (h:G') (s:Bx G'→G:=by
 intro h
 (first
  |refine I.go ?_
  |fail)
 exact Bx.h h):G:=s ⟨h⟩
theorem goD {G G':Prop} (h:G') (s:Bx G'→G:=by
 intro h
 (first
  |refine I.goD ?_
  |fail)
 exact Bx.h h):G:=s ⟨h⟩
theorem goV {G G':Prop} (h:G') (s:Bx G'→G:=by
 intro h
 (first
  |(apply WL.kl_ms;rotate_left;exact rfl;exact rfl;(apply LO.makeI;exact rfl;exact rfl;(repeat(first|(with_reducible apply NatI.add)|(with_reducible exact NatI.one)|exact NatI.cast _));omega))
  |(apply WL.kl_ms;rotate_left;exact rfl;exact rfl;(apply LO.makeR;exact rfl;exact rfl;(repeat(first|(with_reducible apply NatI.add)|(with_reducible exact NatI.one)|exact NatI.cast _));omega))
  |(apply WL.kl_ms;rotate_left;exact rfl;exact rfl;(apply LO.makeLnB;exact rfl;exact rfl;(repeat(first|(with_reducible apply NatI.add)|(with_reducible exact NatI.one)|exact NatI.cast _));omega))
  |(apply WL.kl_ms;rotate_left;exact rfl;exact rfl;(apply LO.makeTT;exact rfl;exact rfl;(repeat(first|(with_reducible apply NatI.add)|(with_reducible exact NatI.one)|exact NatI.cast _));omega))
  |(apply WL.kl_bs;rotate_left;exact rfl;exact rfl;(apply LO.bsI3;exact rfl;exact rfl;exact rfl))
  |(apply WL.kl_bs;rotate_left;exact rfl;exact rfl;(apply LO.bsI2;exact rfl;exact rfl))
  |(apply WL.kl_bs;rotate_left;exact rfl;exact rfl;(apply LO.bsR0))
  |(apply WL.kl_bs;rotate_left;exact rfl;exact rfl;(apply LO.bsB0))
  |(apply WL.kl_bs;rotate_left;exact rfl;exact rfl;(apply LO.bsR1;exact rfl))
  |(apply WL.kl_bs;rotate_left;exact rfl;exact rfl;(apply LO.bsB1;exact rfl))
  |(apply WL.kl_bs;rotate_left;exact rfl;exact rfl;(apply LO.bsT1;exact rfl;exact knA))
  |(apply WL.kl_bs;rotate_left;exact rfl;exact rfl;(apply LO.bsB3;exact rfl;exact rfl;exact rfl))
  |(apply WL.kl_bs;rotate_left;exact rfl;exact rfl;(apply LO.bsR3;exact rfl;exact rfl;exact rfl))
  |(apply WL.kl_app;rotate_left;exact rfl;exact rfl;(apply LO.appTT;exact rfl;exact rfl;exact meA;(apply One.sl;exact knA);(intro _;exact seA);omega))
  |(apply WL.kl_app;rotate_left;exact rfl;exact rfl;(apply LO.appRo;exact rfl;exact rfl;exact meA;exact hmA;omega;(intro _;exact seA);omega))
  |(apply WL.kl_app;rotate_left;exact rfl;exact rfl;(apply LO.appBf;exact rfl;exact rfl;exact hmA;(intro _;exact seA);omega))
  |(apply WL.kl_app;rotate_left;exact rfl;exact rfl;(apply LO.appR1;exact rfl;exact rfl;exact meA;exact hmA;(intro _;exact seA);omega))
  |(apply WL.kl_app;rotate_left;exact rfl;exact rfl;(apply LO.appB1;exact rfl;exact rfl;exact meA;exact hmA;(intro _;exact seA);omega))
  |(apply WL.kl_app;rotate_left;exact rfl;exact rfl;(apply LO.appT1;exact rfl;exact rfl;exact meA;(first|exact One.lit rfl rfl|(apply One.sl;exact knA));(intro _;exact seA);(simp only[List.length_append,List.length_cons,List.length_nil,List.length_map,List.length_range];omega)))
  |(apply WL.kl_bs;rotate_left;exact rfl;exact rfl;apply LO.bs1;exact t6A;(repeat(first|exact EvP.nil|(apply EvP.cons;exact rfl)));(intro _;kernel_rfl);exact rfl;omega)
  |(apply WL.kl_app;rotate_left;exact rfl;exact rfl;apply LO.app;exact t5A;exact rfl;exact rfl;(first|(focus(apply SrcE.ints;exact hmA;done))|(focus(apply SrcE.own1;exact meA;done))|(focus(apply SrcE.one;exact meA;exact rfl;decide;done)));(intro v;exact seA);exact onA;exact leA;exact leA))
 exact Bx.h h):G:=s ⟨h⟩
theorem goDV {G G':Prop} (h:G') (s:Bx G'→G:=by
 intro h
 (first
  |(apply WD.kl_ms;exact rfl;rotate_left;exact rfl;exact rfl;(apply LO.makeI;exact rfl;exact rfl;(repeat(first|(with_reducible apply NatI.add)|(with_reducible exact NatI.one)|exact NatI.cast _));omega);apply allAnd;(intro _;exact ltA))
  |(apply WD.kl_ms;exact rfl;rotate_left;exact rfl;exact rfl;(apply LO.makeR;exact rfl;exact rfl;(repeat(first|(with_reducible apply NatI.add)|(with_reducible exact NatI.one)|exact NatI.cast _));omega);apply allAnd;(intro _;exact ltA))
  |(apply WD.kl_ms;exact rfl;rotate_left;exact rfl;exact rfl;(apply LO.makeLnB;exact rfl;exact rfl;(repeat(first|(with_reducible apply NatI.add)|(with_reducible exact NatI.one)|exact NatI.cast _));omega);apply allAnd;(intro _;exact ltA))
  |(apply WD.kl_ms;exact rfl;rotate_left;exact rfl;exact rfl;(apply LO.makeTT;exact rfl;exact rfl;(repeat(first|(with_reducible apply NatI.add)|(with_reducible exact NatI.one)|exact NatI.cast _));omega);apply allAnd;(intro _;exact ltA))
  |(apply WD.kl_bs;exact rfl;rotate_left;exact rfl;exact rfl;(apply LO.bsI3;exact rfl;exact rfl;exact rfl);apply allAnd;(intro _;exact ltA))
  |(apply WD.kl_bs;exact rfl;rotate_left;exact rfl;exact rfl;(apply LO.bsI2;exact rfl;exact rfl);apply allAnd;(intro _;exact ltA))
  |(apply WD.kl_bs;exact rfl;rotate_left;exact rfl;exact rfl;(apply LO.bsR0);apply allAnd;(intro _;exact ltA))
  |(apply WD.kl_bs;exact rfl;rotate_left;exact rfl;exact rfl;(apply LO.bsB0);apply allAnd;(intro _;exact ltA))
  |(apply WD.kl_bs;exact rfl;rotate_left;exact rfl;exact rfl;(apply LO.bsR1;exact rfl);apply allAnd;(intro _;exact ltA))
  |(apply WD.kl_bs;exact rfl;rotate_left;exact rfl;exact rfl;(apply LO.bsB1;exact rfl);apply allAnd;(intro _;exact ltA))
  |(apply WD.kl_bs;exact rfl;rotate_left;exact rfl;exact rfl;(apply LO.bsT1;exact rfl;exact knA);apply allAnd;(intro _;exact ltA))
  |(apply WD.kl_bs;exact rfl;rotate_left;exact rfl;exact rfl;(apply LO.bsB3;exact rfl;exact rfl;exact rfl);apply allAnd;(intro _;exact ltA))
  |(apply WD.kl_bs;exact rfl;rotate_left;exact rfl;exact rfl;(apply LO.bsR3;exact rfl;exact rfl;exact rfl);apply allAnd;(intro _;exact ltA))
  |(apply WD.kl_app;exact rfl;rotate_left;exact rfl;exact rfl;(apply LO.appTT;exact rfl;exact rfl;exact meA;(apply One.sl;exact knA);(intro _;exact seA);omega);apply allAnd;(intro _;exact ltA))
  |(apply WD.kl_app;exact rfl;rotate_left;exact rfl;exact rfl;(apply LO.appRo;exact rfl;exact rfl;exact meA;exact hmA;omega;(intro _;exact seA);omega);apply allAnd;(intro _;exact ltA))
  |(apply WD.kl_app;exact rfl;rotate_left;exact rfl;exact rfl;(apply LO.appBf;exact rfl;exact rfl;exact hmA;(intro _;exact seA);omega);apply allAnd;(intro _;exact ltA))
  |(apply WD.kl_app;exact rfl;rotate_left;exact rfl;exact rfl;(apply LO.appR1;exact rfl;exact rfl;exact meA;exact hmA;(intro _;exact seA);omega);apply allAnd;(intro _;exact ltA))
  |(apply WD.kl_app;exact rfl;rotate_left;exact rfl;exact rfl;(apply LO.appB1;exact rfl;exact rfl;exact meA;exact hmA;(intro _;exact seA);omega);apply allAnd;(intro _;exact ltA))
  |(apply WD.kl_app;exact rfl;rotate_left;exact rfl;exact rfl;(apply LO.appT1;exact rfl;exact rfl;exact meA;(first|exact One.lit rfl rfl|(apply One.sl;exact knA));(intro _;exact seA);(simp only[List.length_append,List.length_cons,List.length_nil,List.length_map,List.length_range];omega));apply allAnd;(intro _;exact ltA))
  |(apply WD.kl_bs;exact rfl;rotate_left;exact rfl;exact rfl;apply LO.bs1;exact t6A;(repeat(first|exact EvP.nil|(apply EvP.cons;exact rfl)));(intro _;kernel_rfl);exact rfl;omega;apply allAnd;(intro _;exact ltA))
  |(apply WD.kl_app;exact rfl;rotate_left;exact rfl;exact rfl;apply LO.app;exact t5A;exact rfl;exact rfl;(first|(focus(apply SrcE.ints;exact hmA;done))|(focus(apply SrcE.own1;exact meA;done))|(focus(apply SrcE.one;exact meA;exact rfl;decide;done)));(intro v;exact seA);exact onA;exact leA;exact leA;apply allAnd;(intro _;exact ltA)))
 exact Bx.h h):G:=s ⟨h⟩
theorem goLV {G G':Prop} (h:G') (s:Bx G'→G:=by
 intro h
 (first
  |(apply LO.bs1;exact t6A;(repeat(first|exact EvP.nil|(apply EvP.cons;exact rfl)));(intro _;kernel_rfl);exact rfl;omega;apply allAnd;(intro _;exact ltA))
  |(apply LO.app;exact t5A;exact rfl;exact rfl;(first|(focus(apply SrcE.ints;exact hmA;done))|(focus(apply SrcE.own1;exact meA;done))|(focus(apply SrcE.one;exact meA;exact rfl;decide;done)));(intro v;exact seA);exact onA;exact leA;exact leA;apply allAnd;(intro _;exact ltA))
  |((apply LO.makeI;exact rfl;exact rfl;(repeat(first|(with_reducible apply NatI.add)|(with_reducible exact NatI.one)|exact NatI.cast _));omega);apply allAnd;(intro _;exact ltA))
  |((apply LO.makeR;exact rfl;exact rfl;(repeat(first|(with_reducible apply NatI.add)|(with_reducible exact NatI.one)|exact NatI.cast _));omega);apply allAnd;(intro _;exact ltA))
  |((apply LO.makeLnB;exact rfl;exact rfl;(repeat(first|(with_reducible apply NatI.add)|(with_reducible exact NatI.one)|exact NatI.cast _));omega);apply allAnd;(intro _;exact ltA))
  |((apply LO.makeTT;exact rfl;exact rfl;(repeat(first|(with_reducible apply NatI.add)|(with_reducible exact NatI.one)|exact NatI.cast _));omega);apply allAnd;(intro _;exact ltA))
  |((apply LO.bsI3;exact rfl;exact rfl;exact rfl);apply allAnd;(intro _;exact ltA))
  |((apply LO.bsI2;exact rfl;exact rfl);apply allAnd;(intro _;exact ltA))
  |((apply LO.bsR0);apply allAnd;(intro _;exact ltA))
  |((apply LO.bsB0);apply allAnd;(intro _;exact ltA))
  |((apply LO.bsR1;exact rfl);apply allAnd;(intro _;exact ltA))
  |((apply LO.bsB1;exact rfl);apply allAnd;(intro _;exact ltA))
  |((apply LO.bsT1;exact rfl;exact knA);apply allAnd;(intro _;exact ltA))
  |((apply LO.bsB3;exact rfl;exact rfl;exact rfl);apply allAnd;(intro _;exact ltA))
  |((apply LO.bsR3;exact rfl;exact rfl;exact rfl);apply allAnd;(intro _;exact ltA))
  |((apply LO.appTT;exact rfl;exact rfl;exact meA;(apply One.sl;exact knA);(intro _;exact seA);omega);apply allAnd;(intro _;exact ltA))
  |((apply LO.appRo;exact rfl;exact rfl;exact meA;exact hmA;omega;(intro _;exact seA);omega);apply allAnd;(intro _;exact ltA))
  |((apply LO.appBf;exact rfl;exact rfl;exact hmA;(intro _;exact seA);omega);apply allAnd;(intro _;exact ltA))
  |((apply LO.appR1;exact rfl;exact rfl;exact meA;exact hmA;(intro _;exact seA);omega);apply allAnd;(intro _;exact ltA))
  |((apply LO.appB1;exact rfl;exact rfl;exact meA;exact hmA;(intro _;exact seA);omega);apply allAnd;(intro _;exact ltA))
  |((apply LO.appT1;exact rfl;exact rfl;exact meA;(first|exact One.lit rfl rfl|(apply One.sl;exact knA));(intro _;exact seA);(simp only[List.length_append,List.length_cons,List.length_nil,List.length_map,List.length_range];omega));apply allAnd;(intro _;exact ltA)))
 exact Bx.h h):G:=s ⟨h⟩
theorem goLS {G G':Prop} (h:G') (s:Bx G'→G:=by
 intro h
 (first
  |refine I.goLS ?_
  |fail)
 exact Bx.h h):G:=s ⟨h⟩
theorem goYL {G G':Prop} (h:G') (s:Bx G'→G:=by
 intro h
 refine I.goYL ?_
 exact Bx.h h):G:=s ⟨h⟩
theorem goYT {G G':Prop} (h:G') (s:Bx G'→G:=by
 intro h
 refine I.goYT ?_
 exact Bx.h h):G:=s ⟨h⟩
end J
end Go.Proofs.YtaongbhamadlkaaGreat
namespace Go.Proofs.YtaongbhamadlkaaGreat
open W Go.RowKit
def exB (k:Int):List Bd:=[⟨0,1,12⟩,⟨1,2,-30⟩,⟨2,0,k*6⟩]
def IsBs (D:Nat) (bs:List Bd):RPost:=fun v b G=>∃ ms,b=[]∧G=[fB D v ms bs]
namespace J
open G H I
attribute [local irreducible] WC WL WD YO LO LoopEnd W.Fin Scalar SliceT FieldAt Row ArrT AllocT KnS Has W.One SrcE IntT
theorem d109 {G G':Prop} (h:G') (s:Bx G'→G:=by
 intro h
 first|(apply WC.draw (id:=6) [0,1,2,3,4,5,6,7,9] (.held 0 (.held 1 (.held 2 (.held 3 (.held 4 (.held 5 (.held 6 (.held 7 (.loud 8 (.held 9 (.done))))))))))) mixed (by kernel_rfl))|fail
 exact Bx.h h):G:=s ⟨h⟩
set_option maxRecDepth 60000 in
theorem same_c (D:Nat) [Den D] (u w:Value) (mu mw:Nat→QM) (a b:List Int):FnB Tryz.prog 109 [u,w] [] [fR D u mu a,fR D w mw b] (IsV (.bool (decide (a=b)))):=by
 refine fn_of [(0,u),(1,w)] 27 Tryz.func109 rfl Tryz.ntmps109 (by kernel_rfl) rfl suA fun h0=>?_
 refine WC.lenF (v:=u) (m:=a.length) (sz:=4) (f:=qcell mu) (W.Has.rsB (D:=D) hmA) fun hlen=>?_
 by_cases hl:a.length=b.length
 ·repeat'(first|refine gB ?_|(refine gH ?_;intro g)|(refine gW ?_;intro v)|refine d109 ?_|fail)
  refine WC.lp (σ:=Nat) (fun k=>[(5,.int .i64 (k:Int)),(0,u),(1,w)]) (fun _=>[]) (fun _=>[ge h0,fR D u mu a,fR D w mw b]) (fun k=>k≤a.length∧∀ j,j < k→a.getD j 0=b.getD j 0) (fun k=>a.length - k) 0 ⟨Nat.zero_le _,fun j h=>by omega⟩ ?_
  rintro k ⟨hk,hn⟩
  by_cases hlt:k < a.length
  ·refine WC.fact (isQ (qv (mu k)) (wq D (a.getD k 0))) (W.Has.qB (W.Has.rm (v:=u) hmA) hlt) ?_
   refine WC.fact (isQ (qv (mw k)) (wq D (b.getD k 0))) (W.Has.qB (W.Has.rm (v:=w) hmA) (by omega)) ?_
   repeat'(first|refine gB ?_|(refine gH ?_;intro g)|(refine gW ?_;intro v)|refine d109 ?_|fail)
   first|refine WL.callV (rsamew_c D (mu k) (mw k) (a.getD k 0) (b.getD k 0)) ?_|refine WD.callV (rsamew_c D (mu k) (mw k) (a.getD k 0) (b.getD k 0)) ?_
   by_cases he:a.getD k 0=b.getD k 0
   ·rw[decide_eq_true he]
    repeat'(first|refine gB ?_|(refine gH ?_;intro g)|(refine gW ?_;intro v)|refine d109 ?_|fail)
    refine LoopEnd.mk (k+1) ⟨by omega,fun j hj=>?_⟩ (by show a.length - (k+1) < a.length - k;omega)
    by_cases hjk:j=k
    ·subst hjk;exact he
    ·exact hn j (by omega)
   ·rw[decide_eq_false he]
    repeat'(first|refine gB ?_|(refine gH ?_;intro g)|(refine gW ?_;intro v)|refine d109 ?_|fail)
    exact WC.ret (Fin.v (ResE.t1 rfl rfl) meA (by rw[decide_eq_false (fun h=>he (by rw[h]))]))
  ·repeat'(first|refine gB ?_|(refine gH ?_;intro g)|(refine gW ?_;intro v)|refine d109 ?_|fail)
   exact WC.ret (Fin.v (ResE.t1 rfl rfl) meA (by rw[decide_eq_true];exact same_all hl (fun j hj=>hn j (by omega))))
 ·repeat'(first|refine gB ?_|(refine gH ?_;intro g)|(refine gW ?_;intro v)|refine d109 ?_|fail)
  exact WC.ret (Fin.v (ResE.t1 rfl rfl) meA (by rw[decide_eq_false (fun h=>hl (by rw[h]))]))
set_option maxRecDepth 60000 in
theorem three_c (k:Int) (hk:k.natAbs≤1000):FnB Tryz.prog 107 [.int .i64 k] [] [] (IsBs 6 (exB k)):=by
 refine fn_of [(0,(.int .i64 k))] 11 Tryz.func107 rfl Tryz.ntmps107 (by kernel_rfl) rfl suA fun h0=>?_
 repeat'(first|refine gA ?_|(refine goG ?_;intro g)|(refine goV ?_;intro v))
 first|refine WL.callK (rofw_c 6 2 1 6 (by decide) (by decide) (by decide) (by decide)) ?_|refine WD.callK (rofw_c 6 2 1 6 (by decide) (by decide) (by decide) (by decide)) ?_|refine LO.callM (rofw_c 6 2 1 6 (by decide) (by decide) (by decide) (by decide)) ?_
 rintro _ _ _ ⟨m2,rfl,rfl,rfl⟩
 simp only[List.nil_append,List.cons_append]
 repeat'(first|refine gA ?_|(refine goG ?_;intro g)|(refine goV ?_;intro v))
 first|refine WL.callK (rofw_c 6 (-5) 1 6 (by decide) (by decide) (by decide) (by decide)) ?_|refine WD.callK (rofw_c 6 (-5) 1 6 (by decide) (by decide) (by decide) (by decide)) ?_|refine LO.callM (rofw_c 6 (-5) 1 6 (by decide) (by decide) (by decide) (by decide)) ?_
 rintro _ _ _ ⟨m3,rfl,rfl,rfl⟩
 simp only[List.nil_append,List.cons_append]
 repeat'(first|refine gA ?_|(refine goG ?_;intro g)|(refine goV ?_;intro v))
 first|refine WL.callK (rofw_c 6 k 1 6 (by decide) (by decide) (by unfold B2;omega) (by decide)) ?_|refine WD.callK (rofw_c 6 k 1 6 (by decide) (by decide) (by unfold B2;omega) (by decide)) ?_|refine LO.callM (rofw_c 6 k 1 6 (by decide) (by decide) (by unfold B2;omega) (by decide)) ?_
 rintro _ _ _ ⟨m4,rfl,rfl,rfl⟩
 simp only[List.nil_append,List.cons_append]
 repeat'(first|refine gA ?_|(refine goG ?_;intro g)|(refine goV ?_;intro v))
 refine WL.l rfl rfl (LO.bsB3 (b1:=⟨0,1,12⟩) (b2:=⟨1,2,-30⟩) (b3:=⟨2,0,k*6⟩) (m1:=m2) (m2:=m3) (m3:=m4) rfl rfl rfl fun v=>?_)
 refine WL.freezeB (D:=6) (el:=77) v (up3 m2 m3 m4) (exB k) (by repeat(first|exact Sel.head|apply Sel.tail)) (W.Has.mB3 hmA hmA hmA) ?_
 repeat'(first|refine gA ?_|(refine goG ?_;intro g)|(refine goV ?_;intro v))
 exact WC.ret (Fin.p [] [fB 6 v (up3 m2 m3 m4) (exB k)] (ResE.t1 rfl rfl) meA (List.nil_sublist _) haA ⟨_,rfl,rfl⟩)
end J
end Go.Proofs.YtaongbhamadlkaaGreat
namespace Go.Proofs.YtaongbhamadlkaaGreat
open W Go.RowKit
theorem srt414:srt [4,1,4]=[1,4,4]:=by
 unfold srt
 simp[List.mergeSort,List.MergeSort.Internal.splitInTwo,List.merge]
theorem coreL414:coreL [4,1,4]=[1,4]:=by
 unfold coreL;rw[srt414];decide
theorem ex_slv4:slv 3 (exB 4)=([-6,0,-30],[],0):=by decide +kernel
theorem ex_slv2:slv 3 (exB 2)=([],[0,1,2],14):=by decide +kernel
theorem ex_mst:mst 3 (exB 4) 0 2=(-18,[0,1],0):=by decide +kernel
theorem ex_chk:chk 3 (exB 4) [-6,0,-30] []=0:=by decide +kernel
theorem ex_cor:cor 3 (exB 2) [4,1,4]=([1,4],0):=by
 unfold cor
 rw[coreL414]
 decide +kernel
end Go.Proofs.YtaongbhamadlkaaGreat
namespace Go.Proofs.YtaongbhamadlkaaGreat
open W Go.RowKit
theorem ex_fit (k:Int) (hk:k.natAbs≤100):Fit (exB k):=by
 unfold Fit absS exB;simp;omega
theorem ex_small (i:Nat):(([-6,0,-30]:List Int).getD i 0).natAbs≤250000000:=by
 match i with
 |0=>decide
 |1=>decide
 |2=>decide
 |i+3=>simp
namespace J
open G H I
attribute [local irreducible] WC WL WD YO LO LoopEnd W.Fin Scalar SliceT FieldAt Row ArrT AllocT KnS Has W.One SrcE IntT
theorem d42 {G G':Prop} (h:G') (s:Bx G'→G:=by
 intro h
 first|(apply WC.draw (id:=6) [0,1,2,3,4,6,7,8,9,10,11,12,13,14,15,16,17,20,21,22,25,26,27,28,29,30,31,32,33,34,35,36,39,40,41,42,43,44,45,48,49,51,53,54,55] (.held 0 (.held 1 (.held 2 (.held 3 (.held 4 (.loud 5 (.held 6 (.held 7 (.held 8 (.held 9 (.held 10 (.held 11 (.held 12 (.held 13 (.held 14 (.held 15 (.held 16 (.held 17 (.loud 18 (.loud 19 (.held 20 (.held 21 (.held 22 (.loud 23 (.loud 24 (.held 25 (.held 26 (.held 27 (.held 28 (.held 29 (.held 30 (.held 31 (.held 32 (.held 33 (.held 34 (.held 35 (.held 36 (.loud 37 (.loud 38 (.held 39 (.held 40 (.held 41 (.held 42 (.held 43 (.held 44 (.held 45 (.loud 46 (.loud 47 (.held 48 (.held 49 (.held 51 (.loud 50 (.loud 52 (.held 53 (.held 54 (.held 55 (.done))))))))))))))))))))))))))))))))))))))))))))))))))))))))) mixed (by kernel_rfl))|fail
 exact Bx.h h):G:=s ⟨h⟩
set_option maxRecDepth 60000 in
theorem lives_c:FnB Tryz.prog 42 [] [] [] (IsV (.bool true)):=by
 refine fn_of [] 96 Tryz.func42 rfl Tryz.ntmps42 (by kernel_rfl) rfl suA fun h0=>?_
 have f4:=ex_fit 4 (by decide)
 have hz:([]:List Int).length=0:=rfl
 have f2:=ex_fit 2 (by decide)
 repeat'(first|refine gB ?_|(refine gH ?_;intro g)|(refine gW ?_;intro v)|refine d42 ?_|fail)
 first|refine WL.callK (three_c 4 (by decide)) ?_|refine WD.callK (three_c 4 (by decide)) ?_|refine LO.callM (three_c 4 (by decide)) ?_
 rintro t1 bb GG ⟨ms1,rfl,rfl⟩
 simp only[List.nil_append,List.cons_append]
 first|refine WL.callK (solve_c 6 t1 ms1 (exB 4) 3 f4) ?_|refine WD.callK (solve_c 6 t1 ms1 (exB 4) 3 f4) ?_|refine LO.callM (solve_c 6 t1 ms1 (exB 4) 3 f4) ?_
 rintro rv bb GG ⟨ux,mx,uc,rfl,rfl,rfl⟩
 rw[ex_slv4]
 simp only[List.nil_append,List.cons_append]
 repeat'(first|refine gB ?_|(refine gH ?_;intro g)|(refine gW ?_;intro v)|refine d42 ?_|fail)
 first|refine WL.callK (three_c 4 (by decide)) ?_|refine WD.callK (three_c 4 (by decide)) ?_|refine LO.callM (three_c 4 (by decide)) ?_
 rintro t2 bb GG ⟨ms2,rfl,rfl⟩
 simp only[List.nil_append,List.cons_append]
 repeat'(first|refine gB ?_|(refine gH ?_;intro g)|(refine gW ?_;intro v)|refine d42 ?_|fail)
 first|refine WL.callK (most_c 6 t2 ms2 (exB 4) 3 0 2 f4) ?_|refine WD.callK (most_c 6 t2 ms2 (exB 4) 3 0 2 f4) ?_|refine LO.callM (most_c 6 t2 ms2 (exB 4) 3 0 2 f4) ?_
 rintro rv bb GG ⟨m,up,rfl,rfl,rfl⟩
 rw[ex_mst]
 simp only[List.nil_append,List.cons_append]
 repeat'(first|refine gB ?_|(refine gH ?_;intro g)|(refine gW ?_;intro v)|refine d42 ?_|fail)
 revert g;intro g4
 first|refine WL.callK (three_c 2 (by decide)) ?_|refine WD.callK (three_c 2 (by decide)) ?_|refine LO.callM (three_c 2 (by decide)) ?_
 rintro t3 bb GG ⟨ms3,rfl,rfl⟩
 simp only[List.nil_append,List.cons_append]
 first|refine WL.callK (solve_c 6 t3 ms3 (exB 2) 3 f2) ?_|refine WD.callK (solve_c 6 t3 ms3 (exB 2) 3 f2) ?_|refine LO.callM (solve_c 6 t3 ms3 (exB 2) 3 f2) ?_
 rintro rv bb GG ⟨uy,my,ud,rfl,rfl,rfl⟩
 rw[ex_slv2]
 simp only[List.nil_append,List.cons_append]
 repeat'(first|refine gB ?_|(refine gH ?_;intro g)|(refine gW ?_;intro v)|refine d42 ?_|fail)
 first|refine WL.callK (three_c 2 (by decide)) ?_|refine WD.callK (three_c 2 (by decide)) ?_|refine LO.callM (three_c 2 (by decide)) ?_
 rintro t4 bb GG ⟨ms4,rfl,rfl⟩
 simp only[List.nil_append,List.cons_append]
 repeat'(first|refine gB ?_|(refine gH ?_;intro g)|(refine gW ?_;intro v)|refine d42 ?_|fail)
 revert v;intro vg
 refine WL.freezeI (l:=[4,1,4]) (v:=vg) (el:=3) (by repeat(first|exact Sel.head|apply Sel.tail)) ?_
 first|refine WL.callK (core_c 6 t4 vg ms4 (exB 2) [4,1,4] 3 f2) ?_|refine WD.callK (core_c 6 t4 vg ms4 (exB 2) [4,1,4] 3 f2) ?_|refine LO.callM (core_c 6 t4 vg ms4 (exB 2) [4,1,4] 3 f2) ?_
 rintro rv bb GG ⟨uk,rfl,rfl,rfl⟩
 rw[ex_cor]
 simp only[List.nil_append,List.cons_append]
 repeat'(first|refine gB ?_|(refine gH ?_;intro g)|(refine gW ?_;intro v)|refine d42 ?_|fail)
 first|refine WL.callK (rofw_c 6 (-1) 1 6 (by decide) (by decide) (by decide) (by decide)) ?_|refine WD.callK (rofw_c 6 (-1) 1 6 (by decide) (by decide) (by decide) (by decide)) ?_|refine LO.callM (rofw_c 6 (-1) 1 6 (by decide) (by decide) (by decide) (by decide)) ?_
 rintro _ _ _ ⟨m5,rfl,rfl,rfl⟩
 simp only[List.nil_append,List.cons_append]
 repeat'(first|refine gB ?_|(refine gH ?_;intro g)|(refine gW ?_;intro v)|refine d42 ?_|fail)
 first|refine WL.callK (rofw_c 6 (-5) 1 6 (by decide) (by decide) (by decide) (by decide)) ?_|refine WD.callK (rofw_c 6 (-5) 1 6 (by decide) (by decide) (by decide) (by decide)) ?_|refine LO.callM (rofw_c 6 (-5) 1 6 (by decide) (by decide) (by decide) (by decide)) ?_
 rintro _ _ _ ⟨m6,rfl,rfl,rfl⟩
 simp only[List.nil_append,List.cons_append]
 repeat'(first|refine gB ?_|(refine gH ?_;intro g)|(refine gW ?_;intro v)|refine d42 ?_|fail)
 refine WL.l rfl rfl (LO.bsR3 (m1:=m5) (m2:=m00) (m3:=m6) rfl rfl rfl fun uw=>?_)
 refine WL.freezeR (D:=6) (el:=31) uw (up3 m5 m00 m6) [-6,0,-30] (by repeat(first|exact Sel.head|apply Sel.tail)) (W.Has.mQ3 hmA hasQ0w hmA) ?_
 repeat'(first|refine gB ?_|(refine gH ?_;intro g)|(refine gW ?_;intro v)|refine d42 ?_|fail)
 first|refine WL.callV (same_c 6 ux uw mx (up3 m5 m00 m6) [-6,0,-30] [-6,0,-30]) ?_|refine WD.callV (same_c 6 ux uw mx (up3 m5 m00 m6) [-6,0,-30] [-6,0,-30]) ?_
 rw[decide_eq_true rfl]
 repeat'(first|refine gB ?_|(refine gH ?_;intro g)|(refine gW ?_;intro v)|refine d42 ?_|fail)
 first|refine WL.callK (rofw_c 6 (-3) 1 6 (by decide) (by decide) (by decide) (by decide)) ?_|refine WD.callK (rofw_c 6 (-3) 1 6 (by decide) (by decide) (by decide) (by decide)) ?_|refine LO.callM (rofw_c 6 (-3) 1 6 (by decide) (by decide) (by decide) (by decide)) ?_
 rintro _ _ _ ⟨m7,rfl,rfl,rfl⟩
 simp only[List.nil_append,List.cons_append]
 repeat'(first|refine gB ?_|(refine gH ?_;intro g)|(refine gW ?_;intro v)|refine d42 ?_|fail)
 first|refine WL.callV (rsamew_c 6 m m7 (-18) (-3*(6:Nat))) ?_|refine WD.callV (rsamew_c 6 m m7 (-18) (-3*(6:Nat))) ?_
 rw[show decide ((-18:Int)= -3*(6:Nat))=true from by decide]
 repeat'(first|refine gB ?_|(refine gH ?_;intro g)|(refine gW ?_;intro v)|refine d42 ?_|fail)
 first|refine WL.callV (sameInts_c up v [0,1] [0,1]) ?_|refine WD.callV (sameInts_c up v [0,1] [0,1]) ?_
 rw[show decide (([0,1]:List Int)=[0,1])=true from by decide]
 repeat'(first|refine gB ?_|(refine gH ?_;intro g)|(refine gW ?_;intro v)|refine d42 ?_|fail)
 first|refine WL.callV (sameInts_c ud v [0,1,2] [0,1,2]) ?_|refine WD.callV (sameInts_c ud v [0,1,2] [0,1,2]) ?_
 rw[show decide (([0,1,2]:List Int)=[0,1,2])=true from by decide]
 repeat'(first|refine gB ?_|(refine gH ?_;intro g)|(refine gW ?_;intro v)|refine d42 ?_|fail)
 first|refine WL.callV (sameInts_c uk v [1,4] [1,4]) ?_|refine WD.callV (sameInts_c uk v [1,4] [1,4]) ?_
 rw[show decide (([1,4]:List Int)=[1,4])=true from by decide]
 repeat'(first|refine gB ?_|(refine gH ?_;intro g)|(refine gW ?_;intro v)|refine d42 ?_|fail)
 first|refine WL.callK (three_c 4 (by decide)) ?_|refine WD.callK (three_c 4 (by decide)) ?_|refine LO.callM (three_c 4 (by decide)) ?_
 rintro t5 bb GG ⟨ms5,rfl,rfl⟩
 simp only[List.nil_append,List.cons_append]
 repeat'(first|refine gB ?_|(refine gH ?_;intro g)|(refine gW ?_;intro v)|refine d42 ?_|fail)
 refine WD.callV (check_c 6 t5 ux (.slice none 0 0) ms5 mx (exB 4) [-6,0,-30] [] 3 f4 (by decide) (by decide) ex_small) (hF:=.cons (HasB.f hmA) (.cons (HasB.f hmA) (.cons (HasB.f nil0) .nil))) ?_
 rw[ex_chk]
 repeat'(first|refine gB ?_|(refine gH ?_;intro g)|(refine gW ?_;intro v)|refine d42 ?_|fail)
 exact WC.ret (Fin.v (ResE.t1 rfl rfl) meA rfl)
end J
end Go.Proofs.YtaongbhamadlkaaGreat
namespace Go.Proofs.YtaongbhamadlkaaGreat
open W Go.RowKit
def Sml (bs:List Bd):Prop:=absS bs≤12000∧bs.length≤15
theorem Sml.fit {bs:List Bd} (h:Sml bs):Fit bs:=by unfold Fit;have:=h.1;omega
theorem sysN_le (l:List Int) {most:Int} (hm:0 < most):0 < sysN l most∧sysN l most≤most:=by
 have:=@atP_lt l 0 most hm
 unfold sysN;omega
theorem sysL_len (l:List Int) (most:Int):(sysL l most).length≤14:=by
 unfold sysL;rw[sysT_len];unfold sysC;omega
theorem sysL_abs (l:List Int) {most:Int} (hm:0 < most) (hm2:most≤8):absS (sysL l most)≤5040:=by
 have h:=sysN_le l hm
 have:=@sysT_abs l (sysN l most) h.1 (by omega) (sysC l)
 have h3:sysC l≤14:=by unfold sysC;omega
 unfold sysL;omega
theorem sysL_sml (l:List Int) {most:Int} (hm:0 < most) (hm2:most≤8):Sml (sysL l most):=⟨Nat.le_trans (sysL_abs l hm hm2) (by decide),Nat.le_trans (sysL_len l most) (by decide)⟩
theorem Sml.mul {bs:List Bd} (h:Sml bs) {k:Nat} (hk:k≤33):k*absS bs≤400000000:=by
 have:=Nat.mul_le_mul hk h.1
 omega
theorem Wth.nil {B:Nat}:Wth B []:=fun i=>by simp
theorem slv_sml {bs:List Bd} (h:Sml bs) (n:Int):Wth 400000 (slv n bs).1∧(slv n bs).2.1.length≤32:=by
 rw[slv_same]
 unfold rslv
 by_cases hvb:validB n bs=true
 ·rw[if_pos hvb]
  obtain⟨m,rfl,hv⟩:=Vld.of hvb
  rw[Int.toNat_natCast]
  have hn:=hv.n2
  by_cases hs:HasSol bs
  ·rw[if_pos ((sol_iff_has hv).2 hs)]
   refine⟨(jacs_wth hv m).mono ?_,Nat.zero_le _⟩
   have:=Nat.mul_le_mul hn h.1
   omega
  ·rw[if_neg (fun c=>hs ((sol_iff_has hv).1 c)),←cyc_same hv hs]
   obtain⟨k,_,h2,h3⟩:=cyc_neg hv hs
   exact⟨Wth.nil,by have:=h3.1;show(cycP m bs).length≤32;omega⟩
 ·rw[if_neg hvb]
  exact⟨Wth.nil,Nat.zero_le _⟩
end Go.Proofs.YtaongbhamadlkaaGreat
namespace Go.Proofs.YtaongbhamadlkaaGreat
open W Go.RowKit
theorem Vld.valid {n:Nat} {bs:List Bd} (h:Vld n bs):validB n bs=true:=validB_t (by have:=h.n1;omega) (by have:=h.n2;omega) h.l h.ok
section
variable {n:Nat} {bs:List Bd} (hv:Vld n bs) {a b:Nat} (ha:a < n) (hb:b < n)
include hv ha hb
theorem short_all (hs:HasSol bs):∀ (L:Nat) (q:List Int),q.length≤L→Wlk bs a q b→∃ r,r.length < n∧Wlk bs a r b∧lenP bs r≤lenP bs q:=by
 intro L
 induction L with
 |zero=>
  intro q hq hw
  exact⟨q,by have:=hv.n1;omega,hw,Int.le_refl _⟩
 |succ L ih=>
  intro q hq hw
  by_cases c:q.length < n
  ·exact⟨q,c,hw,Int.le_refl _⟩
  have cut:∀ p c s w,q=p++c++s→c≠[]→Wlk bs a p w→Wlk bs w c w→Wlk bs w s b→∃ r,r.length < n∧Wlk bs a r b∧lenP bs r≤lenP bs q:=by
   intro p c s w he hc w1 w2 w3
   have hlc:0 < c.length:=List.length_pos_iff.2 hc
   have hnn:¬lenP bs c < 0:=fun h=>(show NegB bs c.length c from⟨rfl,h,w,w2⟩).no hs
   have hl:(p++s).length≤L:=by rw[he] at hq;simp only[List.length_append] at hq ⊢;omega
   obtain⟨r,r1,r2,r3⟩:=ih (p++s) hl (Wlk.app.2 ⟨w,w1,w3⟩)
   refine⟨r,r1,r2,?_⟩
   rw[he,lenP_app,lenP_app]
   rw[lenP_app] at r3;omega
  have hn:¬(frs bs q++[(b:Int)]).Nodup:=by
   intro h
   have:=nodup_le (n:=n) h (fun x hx=>by
    rcases List.mem_append.1 hx with hx|hx
    ·exact frs_in hv hw x hx
    ·rw[List.mem_singleton] at hx;subst hx;omega)
   simp[frs] at this;omega
  by_cases hd:(frs bs q).Nodup
  ·have hm:(b:Int)∈frs bs q:=Classical.byContradiction fun h=>hn (List.nodup_append.2 ⟨hd,by simp,fun x hx y hy he=>by
    rw[List.mem_singleton] at hy;subst hy;subst he;exact h hx⟩)
   obtain⟨i,hi,he⟩:=List.mem_map.1 hm
   obtain⟨p,s,rfl⟩:=List.append_of_mem hi
   obtain⟨w,w1,w2⟩:=Wlk.app.1 hw
   have hwb:w=b:=by rw[←w2.2.1];exact he
   subst hwb
   exact cut p (i::s) [] b (by simp) (by simp) w1 w2 rfl
  ·obtain⟨p,c,s,w,h1,h2,h3,h4,h5,h6⟩:=frs_split hd hw
   exact cut p c s w h1 h2 h4 h5 h6
theorem mst_cases:(¬HasSol bs∧(mst n bs a b).1=0∧(mst n bs a b).2.2=14)∨(HasSol bs∧mst n bs a b=(0,[],6)∧∀ q,¬Wlk bs a q b)∨
  ∃ d p,HasSol bs∧mst n bs a b=(d,p,0)∧Wlk bs a p b∧p.length < n∧lenP bs p=d∧∀ q,Wlk bs a q b→d≤lenP bs q:=by
 by_cases hs:HasSol bs
 ·have hm:mst n bs a b=(match mostK n bs a b with
   |none=>(0,[],6)
   |some k=>(mostD n bs a b k,fstP bs (tabL n bs b n) (fun x=>decide (x=mostD n bs a b k)) k a 0 [],0)):=by
   unfold mst
   rw[if_pos ⟨hv.valid,by omega,by omega⟩]
   simp only[Int.toNat_natCast]
   rw[great_some hv hs] <;> rfl
  rcases most_same hv ha hb hs with ⟨h1,h2⟩|⟨k,h1,h2,h3,h4,h5⟩
  ·refine .inr (.inl ⟨hs,by rw[hm,h1],fun q hq=>?_⟩)
   obtain⟨r,r1,r2,_⟩:=short_all hv ha hb hs q.length q (Nat.le_refl _) hq
   rcases mostK_spec n bs a b with ⟨_,g2⟩|⟨k,d,g1,_⟩
   ·obtain⟨e,e1,_⟩:=tab_le hv hb r.length a r rfl r2
    rw[g2 _ r1] at e1;cases e1
   ·rw[h1] at g1;cases g1
  ·obtain⟨w1,w2⟩:=h4.short hv ha hb
   refine .inr (.inr ⟨_,_,hs,by rw[hm,h1],w1,w2,h3,fun q hq=>?_⟩)
   obtain⟨r,r1,r2,r3⟩:=short_all hv ha hb hs q.length q (Nat.le_refl _) hq
   have:=h5 r r1 r2
   omega
 ·refine .inl ⟨hs,?_⟩
  unfold mst
  rw[if_pos ⟨hv.valid,by omega,by omega⟩]
  simp only[Int.toNat_natCast]
  rw[great_none hv hs]
  exact⟨rfl,rfl⟩
end
end Go.Proofs.YtaongbhamadlkaaGreat
namespace Go.Proofs.YtaongbhamadlkaaGreat
open W Go.RowKit
theorem sysL_get {l:List Int} {most:Int} {i:Nat} (h:i < (sysL l most).length):bg (sysL l most) i=sysB l (sysN l most) i:=by
 unfold sysL at h ⊢
 rw[sysT_len] at h
 exact sysT_get _ _ h
theorem sys_vld (l:List Int) {most:Int} (h0:0 < most) (h1:most≤8):∃ n:Nat,sysN l most=n∧n≤8∧Vld n (sysL l most):=by
 have h:=sysN_le l h0
 refine⟨(sysN l most).toNat,by omega,by omega,⟨by omega,by omega,Nat.le_trans (sysL_len l most) (by decide),fun i hi=>?_⟩⟩
 rw[sysL_get hi,show(((sysN l most).toNat:Nat):Int)=sysN l most by omega]
 exact⟨atP_lt h.1,atP_lt h.1⟩
theorem slv_sol {n:Nat} {bs:List Bd} (hv:Vld n bs) (h:HasSol bs):slv n bs=(jacs bs n n,[],0):=by
 rw[slv_same];unfold rslv
 rw[if_pos hv.valid,Int.toNat_natCast,if_pos ((sol_iff_has hv).2 h)]
theorem slv_no {n:Nat} {bs:List Bd} (hv:Vld n bs) (h:¬HasSol bs):slv n bs=([],cycP n bs,14):=by
 rw[slv_same];unfold rslv
 rw[if_pos hv.valid,Int.toNat_natCast,if_neg (fun c=>h ((sol_iff_has hv).1 c)),←cyc_same hv h]
theorem bg_app {bs:List Bd} {e:Bd} {i:Nat} (h:i < bs.length):bg (bs++[e]) i=bg bs i:=by
 simp only[bg,List.getD_eq_getElem?_getD];rw[List.getElem?_append_left h]
theorem bg_last {bs:List Bd} {e:Bd}:bg (bs++[e]) bs.length=e:=by simp[bg,List.getD_eq_getElem?_getD]
theorem Vld.snoc {n:Nat} {bs:List Bd} (hv:Vld n bs) (hl:bs.length < 2048) {a c:Nat} (ha:a < n) (hc:c < n) (w:Int):Vld n (bs++[⟨a,c,w⟩]):=by
 refine⟨hv.n1,hv.n2,by simp;omega,fun i hi=>?_⟩
 by_cases h:i < bs.length
 ·rw[bg_app h];exact hv.ok i h
 ·obtain rfl:i=bs.length:=by simp at hi;omega
  rw[bg_last];refine⟨⟨?_,?_⟩,?_,?_⟩ <;> simp only <;> omega
theorem SolF.sub {a b:List Bd} {f:Nat→Int} (h:SolF (a++b) f):SolF a f:=fun x hx=>h x (List.mem_append_left _ hx)
theorem SolF.shift {bs:List Bd} {f:Nat→Int} (h:SolF bs f) (s:Int):SolF bs (fun i=>f i+s):=fun b hb=>by have:=h b hb;show f b.to.toNat+s≤f b.fr.toNat+s+b.w;omega
theorem SolF.max {bs:List Bd} {f k:Nat→Int} (h:SolF bs f) (h2:SolF bs k):SolF bs (fun i=>if k i < f i then f i else k i):=fun b hb=>by
 have h3:=h b hb
 have h4:=h2 b hb
 show(if k b.to.toNat < f b.to.toNat then f b.to.toNat else k b.to.toNat)≤(if k b.fr.toNat < f b.fr.toNat then f b.fr.toNat else k b.fr.toNat)+b.w
 split <;> split <;> omega
theorem SolF.min {bs:List Bd} {f k:Nat→Int} (h:SolF bs f) (h2:SolF bs k):SolF bs (fun i=>if k i < f i then k i else f i):=fun b hb=>by
 have h3:=h b hb
 have h4:=h2 b hb
 show(if k b.to.toNat < f b.to.toNat then k b.to.toNat else f b.to.toNat)≤(if k b.fr.toNat < f b.fr.toNat then k b.fr.toNat else f b.fr.toNat)+b.w
 split <;> split <;> omega
end Go.Proofs.YtaongbhamadlkaaGreat
namespace Go.Proofs.YtaongbhamadlkaaGreat
open W Go.RowKit
theorem wlk_app {bs:List Bd} {e:Bd} {l:List Int}:∀ {u v:Int},Wlk (bs++[e]) u l v→(∀ i∈l,i.toNat≠bs.length)→Wlk bs u l v∧lenP (bs++[e]) l=lenP bs l:=by
 induction l with
 |nil=>intro u v h _;exact⟨h,rfl⟩
 |cons i l ih=>
  intro u v h hi
  obtain⟨h1,h2,h3⟩:=h
  have hc:=hi i (List.mem_cons_self)
  have hl:(bs++[e]).length=bs.length+1:=by simp
  have hg:bg (bs++[e]) i.toNat=bg bs i.toNat:=bg_app (by omega)
  obtain⟨g1,g2⟩:=ih h3 (fun j hj=>hi j (List.mem_cons_of_mem _ hj))
  rw[hg] at h2 g1
  exact⟨⟨by omega,h2,g1⟩,by rw[lenP_cons,lenP_cons,g2,hg]⟩
theorem reach_ok {n:Nat} {bs:List Bd} (hv:Vld n bs) {a c:Nat} (ha:a < n) (hc:c < n) (hl:bs.length < 2048) (hs:HasSol bs) {d:Int} (hd:∀ q,Wlk bs a q c→d≤lenP bs q):HasSol (bs++[⟨c,a,-d⟩]):=by
 have hv2:Vld n (bs++[⟨c,a,-d⟩]):=by
  refine⟨hv.n1,hv.n2,by simp;omega,fun i hi=>?_⟩
  by_cases h:i < bs.length
  ·rw[bg_app h];exact hv.ok i h
  ·obtain rfl:i=bs.length:=by simp at hi;omega
   rw[bg_last];refine⟨⟨?_,?_⟩,?_,?_⟩ <;> simp only <;> omega
 refine Classical.byContradiction fun hn=>?_
 obtain⟨m,hm⟩:=neg_min ((neg_iffB hv2).2 hn)
 obtain⟨l,hl⟩:=hm.1
 have hnd:=hm.nodup hl
 obtain⟨_,h2,u,h3⟩:=hl
 by_cases hk:∃ i∈l,i.toNat=bs.length
 ·obtain⟨i,hi,he⟩:=hk
  obtain⟨p,s,rfl⟩:=List.append_of_mem hi
  obtain⟨w,w1,w2,w3,w4⟩:=Wlk.app.1 h3
  rw[he,bg_last] at w3 w4
  have hfr:frs (bs++[⟨c,a,-d⟩]) (p++i::s)=frs (bs++[⟨c,a,-d⟩]) p++(c:Int)::frs (bs++[⟨c,a,-d⟩]) s:=by
   rw[frs_app];unfold frs;rw[List.map_cons,he,bg_last]
  rw[hfr] at hnd
  obtain⟨_,n2,n3⟩:=List.nodup_append.1 hnd
  have hother:∀ j∈p++s,j.toNat≠bs.length:=by
   intro j hj hje
   have hfj:(bg (bs++[(⟨c,a,-d⟩:Bd)]) j.toNat).fr=c:=by rw[hje,bg_last]
   rcases List.mem_append.1 hj with hj|hj
   ·exact n3 _ (List.mem_map_of_mem (f:=fun i=>(bg (bs++[(⟨c,a,-d⟩:Bd)]) i.toNat).fr) hj) (c:Int) (List.mem_cons_self) hfj
   ·refine(List.nodup_cons.1 n2).1 ?_
    have:=List.mem_map_of_mem (f:=fun i=>(bg (bs++[(⟨c,a,-d⟩:Bd)]) i.toNat).fr) hj
    rwa [hfj] at this
  simp only at w3
  subst w3
  obtain⟨g1,g2⟩:=wlk_app w1 (fun j hj=>hother j (List.mem_append_left _ hj))
  obtain⟨g3,g4⟩:=wlk_app w4 (fun j hj=>hother j (List.mem_append_right _ hj))
  have:=hd (s++p) (Wlk.app.2 ⟨u,g3,g1⟩)
  rw[lenP_app] at this
  rw[lenP_app,lenP_cons,g2,g4,he,bg_last] at h2
  simp only at h2;omega
 ·obtain⟨g1,g2⟩:=wlk_app h3 (fun i hi he=>hk ⟨i,hi,he⟩)
  rw[g2] at h2
  exact(show NegB bs l.length l from⟨rfl,h2,u,g1⟩).no hs
end Go.Proofs.YtaongbhamadlkaaGreat
namespace Go.Proofs.YtaongbhamadlkaaGreat
namespace X
section
variable {p q:Lp} {k:Int} {z:Rat} {v:Nat} {L:List Ln} {g x t:Nat→Rat}
theorem Sem.congr (h:∀ x,IsPt q x↔IsPt p x) (hg:∀ x,at_ q.v q.g x=at_ p.v p.g x) (hs:Sem p k z):Sem q k z:=by
 rcases hs with ⟨rfl,rfl,h1⟩|⟨rfl,⟨x,h1,h2⟩,h3⟩|⟨rfl,rfl,h1⟩
 ·exact .inl ⟨rfl,rfl,fun x hx=>h1 x ((h x).1 hx)⟩
 ·exact .inr (.inl ⟨rfl,⟨x,(h x).2 h1,(hg x).trans h2⟩,fun x hx=>by rw[hg];exact h3 x ((h x).1 hx)⟩)
 ·exact .inr (.inr ⟨rfl,rfl,fun t=>by obtain⟨x,h2,h3⟩:=h1 t;exact⟨x,(h x).2 h2,by rw[hg];exact h3⟩⟩)
theorem at_add:at_ v g (fun k=>x k+t k)=at_ v g x+at_ v g t:=by
 unfold at_
 rw[←sm_add]
 exact sm_congr fun i _=>by grind
theorem at_sub:at_ v g (fun k=>x k - t k)=at_ v g x - at_ v g t:=by
 unfold at_
 rw[←sm_sub]
 exact sm_congr fun i _=>by grind
theorem Sem.shift (t:Nat→Rat) (h1:∀ x,IsPt p x→IsPt q (fun k=>x k+t k)) (h2:∀ x,IsPt q x→IsPt p (fun k=>x k - t k)) (hv:q.v=p.v) (hg:q.g=p.g) (hs:Sem p k z) :
  Sem q k (if k=0 then z+at_ p.v p.g t else 0):=by
 rcases hs with ⟨rfl,rfl,h3⟩|⟨rfl,⟨x,h3,h4⟩,h5⟩|⟨rfl,rfl,h3⟩
 ·exact .inl ⟨rfl,rfl,fun x hx=>h3 _ (h2 x hx)⟩
 ·refine .inr (.inl ⟨rfl,⟨_,h1 x h3,?_⟩,fun y hy=>?_⟩)
  ·rw[hv,hg,at_add,h4];rfl
  ·have:=h5 _ (h2 y hy)
   rw[at_sub] at this
   rw[hv,hg,if_pos rfl];grind
 ·refine .inr (.inr ⟨rfl,rfl,fun s=>?_⟩)
  obtain⟨x,h4,h5⟩:=h3 (s - at_ p.v p.g t)
  refine⟨_,h1 x h4,?_⟩
  rw[hv,hg,at_add];grind
end
end X
end Go.Proofs.YtaongbhamadlkaaGreat
namespace Go.Proofs.YtaongbhamadlkaaGreat
open W Go.RowKit
def gT (t f:Nat) (k:Nat):Rat:=(if k=t then 1 else 0) - (if k=f then 1 else 0)
theorem gT_upd (t f k:Nat):upd (upd (fun _=>(0:Rat)) t (0+1)) f (upd (fun _=>(0:Rat)) t (0+1) f - 1) k=gT t f k:=by
 unfold gT upd
 by_cases h1:k=f <;> by_cases h2:k=t
 ·subst h1;subst h2;simp;grind
 ·subst h1;simp[h2]
 ·subst h2;simp[h1];grind
 ·simp[h1,h2];grind
theorem gT_sm {n t f:Nat} (ht:t < n) (hf:f < n) (x:Nat→Rat):(X.sm n fun k=>gT t f k*x k)=x t - x f:=by
 have e:(X.sm n fun k=>gT t f k*x k)=X.sm n (fun k=>(if k=t then 1 else 0)*x k - (if k=f then 1 else 0)*x k):=X.sm_congr fun i _=>by unfold gT;grind
 rw[e,X.sm_sub,X.sm_one (r:=t) ht (fun i _ hi=>by rw[if_neg hi];grind),X.sm_one (r:=f) hf (fun i _ hi=>by rw[if_neg hi];grind),if_pos rfl,if_pos rfl]
 grind
def bln (n:Nat) (b:Bd):X.Ln:=((List.range n).map (gT b.to.toNat b.fr.toNat),wq 6 b.w)
def bL (n:Nat) (bs:List Bd):List X.Ln:=bs.map (bln n)
theorem bL_len (n:Nat) (bs:List Bd):(bL n bs).length=bs.length:=by simp[bL]
theorem bln_co {n:Nat} {b:Bd} {k:Nat} (hk:k < n):X.co (bln n b) k=gT b.to.toNat b.fr.toNat k:=by
 unfold X.co bln;simp[List.getD_eq_getElem?_getD,hk]
theorem bL_ca {n:Nat} {bs:List Bd} {i:Nat} (hi:i < bs.length):(bL n bs).getD i ([],0)=bln n (bg bs i):=by
 unfold bL bg;simp[List.getD_eq_getElem?_getD,hi]
theorem bL_sm {n:Nat} {bs:List Bd} (hv:Vld n bs) {i:Nat} (hi:i < bs.length) (x:Nat→Rat):(X.sm n fun k=>X.ca (bL n bs) i k*x k)=x (bg bs i).to.toNat - x (bg bs i).fr.toNat:=by
 have h:=hv.ok i hi
 unfold Bd.ok at h
 rw[←gT_sm (n:=n) (t:=(bg bs i).to.toNat) (f:=(bg bs i).fr.toNat) (by omega) (by omega)]
 refine X.sm_congr fun k hk=>?_
 unfold X.ca
 rw[bL_ca hi,bln_co hk]
theorem bL_cb {n:Nat} {bs:List Bd} {i:Nat} (hi:i < bs.length):X.cb (bL n bs) i=wq 6 (bg bs i).w:=by
 unfold X.cb;rw[bL_ca hi];rfl
theorem bL_pt {n:Nat} {bs:List Bd} (hv:Vld n bs) {g x:Nat→Rat}:X.IsPt (X.lpOf n (bL n bs) g) x↔∀ i,i < bs.length→x (bg bs i).to.toNat - x (bg bs i).fr.toNat≤wq 6 (bg bs i).w:=by
 constructor
 ·intro h i hi
  have h1:=h i (show i < (bL n bs).length by rw[bL_len];exact hi)
  change (X.sm n fun k=>X.ca (bL n bs) i k*x k)≤X.cb (bL n bs) i at h1
  rwa [bL_sm hv hi,bL_cb hi] at h1
 ·intro h i hi
  have hi':i < bs.length:=by rw[←bL_len n bs];exact hi
  change (X.sm n fun k=>X.ca (bL n bs) i k*x k)≤X.cb (bL n bs) i
  rw[bL_sm hv hi',bL_cb hi'];exact h i hi'
theorem wq6_eq (k:Int):wq 6 k=(k:Rat) / 6:=by
 unfold wq;rw[Rat.divInt_eq_div];rfl
theorem wq6_le {a b:Int}:wq 6 a≤wq 6 b↔a≤b:=by
 rw[wq6_eq,wq6_eq]
 constructor
 ·intro h
  have h2:(a:Rat)≤(b:Rat):=by grind
  exact Rat.intCast_le_intCast.1 h2
 ·intro h
  have h2:(a:Rat)≤(b:Rat):=Rat.intCast_le_intCast.2 h
  grind
theorem bL_int {n:Nat} {bs:List Bd} (hv:Vld n bs) {g:Nat→Rat} {f:Nat→Int} (hf:SolF bs f):X.IsPt (X.lpOf n (bL n bs) g) fun k=>wq 6 (f k):=by
 refine(bL_pt hv).2 fun i hi=>?_
 have h:=hf (bg bs i) (by unfold bg;rw[List.getD_eq_getElem?_getD,List.getElem?_eq_getElem hi];exact List.getElem_mem hi)
 rw[wq6_eq,wq6_eq,wq6_eq]
 have h2:((f (bg bs i).to.toNat:Int):Rat)≤((f (bg bs i).fr.toNat+(bg bs i).w:Int):Rat):=Rat.intCast_le_intCast.2 h
 rw[Rat.intCast_add] at h2
 grind
theorem bL_wlk {n:Nat} {bs:List Bd} (hv:Vld n bs) {g x:Nat→Rat} (hx:X.IsPt (X.lpOf n (bL n bs) g) x) {l:List Int}:∀ {u v:Int},Wlk bs u l v→x v.toNat - x u.toNat≤wq 6 (lenP bs l):=by
 induction l with
 |nil=>
  intro u v h
  have h':u=v:=h
  subst h'
  rw[show lenP bs []=0 from rfl,wq6_eq]
  have:((0:Int):Rat)=0:=rfl
  grind
 |cons i l ih=>
  intro u v h
  obtain⟨h1,h2,h3⟩:=h
  have h4:=ih h3
  have h5:=(bL_pt hv).1 hx i.toNat (by omega)
  rw[h2] at h5
  rw[lenP_cons,wq6_eq,Rat.intCast_add]
  rw[wq6_eq] at h4 h5
  grind
theorem prog_none {n:Nat} {bs:List Bd} (hv:Vld n bs) {g:Nat→Rat} (h:¬HasSol bs):X.Sem (X.lpOf n (bL n bs) g) 1 0:=by
 refine .inl ⟨rfl,rfl,fun x hx=>?_⟩
 obtain⟨m,l,_,h2,u,h3⟩:=(neg_iffB hv).2 h
 have h4:=bL_wlk hv hx h3
 rw[show x u.toNat - x u.toNat=wq 6 0 by rw[wq6_eq,show((0:Int):Rat)=0 from rfl];grind,wq6_le] at h4
 omega
theorem at_gT {n a c:Nat} (ha:a < n) (hc:c < n) (x:Nat→Rat):X.at_ n (gT c a) x=x c - x a:=gT_sm hc ha x
theorem prog_way {n:Nat} {bs:List Bd} (hv:Vld n bs) {a c:Nat} (ha:a < n) (hc:c < n) (hl:bs.length < 2048) (hs:HasSol bs) {p:List Int} (hp:Wlk bs a p c) (hd:∀ q,Wlk bs a q c→lenP bs p≤lenP bs q) :
  X.Sem (X.lpOf n (bL n bs) (gT c a)) 0 (wq 6 (lenP bs p)):=by
 have hle:∀ x,X.IsPt (X.lpOf n (bL n bs) (gT c a)) x→X.at_ n (gT c a) x≤wq 6 (lenP bs p):=fun x hx=>by
  rw[at_gT ha hc]
  exact bL_wlk hv hx hp
 obtain⟨f,hf⟩:=reach_ok hv ha hc hl hs hd
 have hx:=bL_int hv (g:=gT c a) (f:=f) fun b hb=>hf b (List.mem_append_left _ hb)
 have h1:=hf ⟨c,a,-lenP bs p⟩ (by simp)
 simp only[Int.toNat_natCast] at h1
 refine .inr (.inl ⟨rfl,⟨_,hx,?_⟩,hle⟩)
 have h2:=hle _ hx
 change X.at_ n (gT c a) _=_
 rw[at_gT ha hc] at h2 ⊢
 have h3:((lenP bs p+f a:Int):Rat)≤((f c:Int):Rat):=Rat.intCast_le_intCast.2 (by omega)
 rw[Rat.intCast_add] at h3
 rw[wq6_eq,wq6_eq,wq6_eq] at h2 ⊢
 grind
theorem prog_far {n:Nat} {bs:List Bd} (hv:Vld n bs) {a c:Nat} (ha:a < n) (hc:c < n) (hl:bs.length < 2048) (hs:HasSol bs) (hd:∀ q,¬Wlk bs a q c) :
  X.Sem (X.lpOf n (bL n bs) (gT c a)) 2 0:=by
 refine .inr (.inr ⟨rfl,rfl,fun t=>?_⟩)
 obtain⟨f,hf⟩:=reach_ok hv ha hc hl hs (d:=6*t.ceil) (fun q hq=>absurd hq (hd q))
 refine⟨_,bL_int hv (g:=gT c a) (f:=f) fun b hb=>hf b (List.mem_append_left _ hb),?_⟩
 have h1:=hf ⟨c,a,-(6*t.ceil)⟩ (by simp)
 simp only[Int.toNat_natCast] at h1
 change t≤X.at_ n (gT c a) _
 rw[at_gT ha hc]
 have h3:((6*t.ceil+f a:Int):Rat)≤((f c:Int):Rat):=Rat.intCast_le_intCast.2 (by omega)
 rw[Rat.intCast_add,Rat.intCast_mul] at h3
 have h4:t≤(t.ceil:Rat):=Rat.le_ceil
 rw[wq6_eq,wq6_eq]
 have:((6:Int):Rat)=6:=rfl
 grind
end Go.Proofs.YtaongbhamadlkaaGreat
namespace Go.Proofs.YtaongbhamadlkaaGreat
open W Go.RowKit
def IsOF (n:Nat) (q:Nat→Rat):RPost:=fun v B G=>∃ ms,B=[Ow.slice v 31 4 (qcells n ms)]∧G=[mF n ms q]
namespace U
open Z
attribute [local irreducible] WC WL WD YO LO LoopEnd W.Fin Scalar SliceT FieldAt Row ArrT AllocT KnS Has W.One SrcE IntT
theorem d58 {G G':Prop} (h:G') (s:Bx G'→G:=by
 intro h
 first|(apply WC.draw (id:=5) [0,1,2,3,4,5] (.held 0 (.held 1 (.held 2 (.held 3 (.held 4 (.held 5 (.loud 6 (.loud 7 (.loud 8 (.loud 9 (.done))))))))))) mixed (by kernel_rfl))|fail
 exact Bx.h h):G:=s ⟨h⟩
set_option maxRecDepth 60000 in
theorem scaled_c (v:Value) (n:Nat) (ms:Nat→QM) (a:Nat→Rat) (m:QM) (f:Rat) (hn:n≤10000) (ha:∀ i,i < n→Sm (a i)) (hf:Sm f):FnB Tryz.prog 58 [v,qv m] [] [fF v n ms a,isQ (qv m) f] (IsOF n fun k=>a k*f):=by
 refine fn_of [(0,v),(1,(qv m))] 23 Tryz.func58 rfl Tryz.ntmps58 (by kernel_rfl) rfl suA fun h0=>?_
 refine WC.addNil 31 4 ?_
 repeat'(first|refine gB ?_|(refine gH ?_;intro g)|(refine gW ?_;intro v)|refine gY ?_|refine d58 ?_|fail)
 revert g;intro g3
 refine WC.lp (σ:=Nat×Value×(Nat→QM)) (fun st=>[(6,.int .i64 (st.1:Int)),(0,v),(5,st.2.1),(3,ptr g3)]) (fun st=>[Ow.cells g3 31 (qcs m),Ow.slice st.2.1 31 4 (qcells st.1 st.2.2)])
  (fun st=>[mF st.1 st.2.2 (clx (fun k=>a k*f) st.1),ge h0,fF v n ms a,isQ (qv m) f]) (fun st=>st.1≤n) (fun st=>n - st.1) (0,.slice none 0 0,fun _=>m00) (Nat.zero_le _) ?_ (hG:=.cons (W.Has.mFn _ _) (.cons hmA (.cons hmA (.cons hmA .nil))))
 rintro⟨k,sv,ms2⟩ hk
 simp only at hk ⊢
 by_cases c:k < n
 ·refine WC.fact (isQ (qv (ms k)) (a k)) (W.Has.q (W.Has.fm (v:=v) hmA) c) ?_
  repeat'(first|refine gB ?_|(refine gH ?_;intro g)|(refine gW ?_;intro v)|refine gY ?_|refine d58 ?_|fail)
  first|refine WL.callK (Zn.rmul (ms k) m (a k) f (ha k c) hf) ?_|refine WD.callK (Zn.rmul (ms k) m (a k) f (ha k c) hf) ?_|refine LO.callM (Zn.rmul (ms k) m (a k) f (ha k c) hf) ?_
  rintro _ _ _ ⟨m3,rfl,rfl,rfl⟩
  simp only[List.nil_append,List.cons_append]
  refine WD.fact (mF (k+1) (upd ms2 k m3) (clx (fun k=>a k*f) (k+1))) ((W.Has.mFapp (n:=k) (ms:=ms2) (m:=m3) (qf:=clx _ k) hmA hmA).mFsame fun j hj=>clx_up (c:=fun k=>a k*f) j) ?_
  repeat'(first|refine gB ?_|(refine gH ?_;intro g)|(refine gW ?_;intro v)|refine gY ?_|refine d58 ?_|fail)
  exact LoopEnd.mk (k+1,_,_) (by show k+1≤n;omega) (by show n - (k+1) < n - k;omega)
 ·obtain rfl:n=k:=by omega
  repeat'(first|refine gB ?_|(refine gH ?_;intro g)|(refine gW ?_;intro v)|refine gY ?_|refine d58 ?_|fail)
  refine WC.fact (mF n ms2 fun k=>a k*f) (W.Has.mFsame (qf:=clx (fun k=>a k*f) n) hmA fun j hj=>by unfold clx;rw[if_pos hj]) ?_
  refine WC.ret ?_
  exact Fin.p [_] [mF n ms2 fun k=>a k*f] (ResE.t1 rfl rfl) meA slA haA ⟨ms2,rfl,rfl⟩
end U
end Go.Proofs.YtaongbhamadlkaaGreat
namespace Go.Proofs.YtaongbhamadlkaaGreat
namespace X
def nb (n:Nat):Nat:=if n≤4 then 4 else n*n / 4
def wr (l:List Ln) (k:Nat) (a:Ln) (l2:List Ln):List Ln:=(l2.filter fun b=>decide (0 < co a k∧co b k < 0)).map fun b=>cmb a (-co b k) b (co a k)
def nbs (n:Nat):Nat→Nat
 |0=>n
 |k+1=>nb (nbs n k)
def kbs (K:Nat):Nat→Nat
 |0=>K
 |k+1=>4*kbs K k+1
theorem kbs_le {K:Nat}:∀ {k j:Nat},k≤j→kbs K k≤kbs K j
 |k,0,h=>by rw[show k=0 by omega];exact Nat.le_refl _
 |k,j+1,h=>by
  by_cases c:k=j+1
  ·rw[c];exact Nat.le_refl _
  ·have:=kbs_le (K:=K) (k:=k) (j:=j) (by omega)
   rw[kbs];omega
end X
end Go.Proofs.YtaongbhamadlkaaGreat
namespace Go.Proofs.YtaongbhamadlkaaGreat
open W Go.RowKit
def LSq (K w:Nat) (L:List X.Ln):Prop:=∀ c∈L,c.1.length=w∧(∀ k,k < w→Sq K (X.co c k))∧Sq K c.2
section
variable {K w k i:Nat} {L L2:List X.Ln}
theorem getD_ln (h:i < L.length):L.getD i ([],0)∈L:=by simp[List.getD_eq_getElem?_getD,h]
theorem LSq.ca (h:LSq K w L) (hi:i < L.length) (hk:k < w):Sq K (X.ca L i k):=(h _ (getD_ln hi)).2.1 k hk
theorem LSq.cb (h:LSq K w L) (hi:i < L.length):Sq K (X.cb L i):=(h _ (getD_ln hi)).2.2
theorem LSq.len (h:LSq K w L):∀ c∈L,c.1.length=w:=fun c hc=>(h c hc).1
theorem LSq.up {K2:Nat} (h:LSq K w L) (hk:K≤K2):LSq K2 w L:=fun c hc=>⟨(h c hc).1,fun k hk'=>((h c hc).2.1 k hk').up hk,(h c hc).2.2.up hk⟩
end
end Go.Proofs.YtaongbhamadlkaaGreat
namespace Go.Proofs.YtaongbhamadlkaaGreat
open W Go.RowKit
structure FMok (w n K:Nat):Prop where
 n:∀ k,k≤w→X.nbs n k≤1000
 k:2*X.kbs K w≤400000000
theorem FMok.at {w n K:Nat} (h:FMok w n K) {k:Nat} (hk:k < w):4*X.kbs K k+1≤400000000:=by
 have h1:=X.kbs_le (K:=K) (show k+1≤w by omega)
 have h2:=h.k
 rw[X.kbs] at h1
 omega
end Go.Proofs.YtaongbhamadlkaaGreat
namespace Go.Proofs.YtaongbhamadlkaaGreat
open W Go.RowKit
theorem fnV_set {m i:Nat} {rv:Nat→Value} {u:Value}:(fnV m rv).set i u=fnV m (upd rv i u):=by
 apply List.ext_getElem?
 intro j
 rw[List.getElem?_set,fnV_len]
 by_cases e:i=j
 ·subst e
  rw[if_pos rfl]
  by_cases h:i < m
  ·rw[if_pos h,fnV_get h,upd_at]
  ·rw[if_neg h];simp[fnV,h]
 ·rw[if_neg e]
  by_cases h:j < m
  ·rw[fnV_get h,fnV_get h,upd_ne (fun h=>e h.symm)]
  ·simp[fnV,h]
section
variable {P:Program} {e:Env} {bx bx':List Ow} {F:List Fct} {ty t el:TypeId} {v u:Value} {x y:Operand} {i m w:Nat} {rv:Nat→Value} {K:RPost}
theorem LO.storeOV (hx:ev e x=some (.pointer (some (eaddr v i)))) (hy:ev e y=some u) (hz:(P.info? t).map (·.size)=some 1) (hu:One bx F u) (hs:Sel bx (.slice v el 1 (fnV m rv)) (.slice v el 1 (fnV m (upd rv i u))) bx') (hi:i < m) (h:K undef bx' F):LO P (.store t x y) ty e bx F K:=
 LO.storeO1 hx hy hz hu hs (by rw[fnV_len];exact hi) fnV_set h
theorem YO.buildRT0:YO Tryz.prog (.build 107 #[]) ty e bx F (.agg #[.slice none 0 0,.slice none 0 0,.slice none 0 0]):=YO.build (parts:=[]) .nil fun w=>run_build w 107 _ _ (by kernel_rfl)
end
end Go.Proofs.YtaongbhamadlkaaGreat
namespace Go.Proofs.YtaongbhamadlkaaGreat
open W Go.RowKit
section
variable {P:Program} (w:World)
theorem run_appz_room (t ti ty e:TypeId) (i:TypeInfo) (z:Value) (ht:P.underlying t=some (.slice e)) (hti:P.underlying ti=some (.int .i64)) (hi:P.info? e=some i) (hz:i.zero=some z) (hsz:0 < i.size)
  (g sLen sCap:Nat) (cur:Array Value) (hg:w.heap[g]?=some (.cells cur e (0,0)))
  (m:Nat) (hm:(m:Int)≤9223372036854775807) (hmb:(m:Int)*i.bytes≤281474976710656) (news:List Value) (hzc:Builtin.zeroCells z.cells m=news.toArray) (h1:∀ u∈news,u.oneCell'=true)
  (hroom:sLen+m≤sCap) (hfit:sLen*i.size+news.length≤cur.size) :
  (Builtin.append_ #[t,ti] ty #[.slice (some ⟨g,0,none⟩) sLen sCap,.int .i64 m]).run P w =
   .ok (.slice (some ⟨g,0,none⟩) (sLen+m) sCap) (w.setRow g (cur.toList.take (sLen*i.size)++news++cur.toList.drop (sLen*i.size+news.length)).toArray):=by
 have hst:=run_storeCells_at P g (sLen*i.size) e news 0 cur w hg (by simpa using hfit) h1
 simp only[Nat.add_zero] at hst
 have hw:IntKind.i64.wrap (m:Int)=m:=wrap_i64 (by omega) hm
 have h0:¬((m:Int) < 0):=by omega
 have h48:¬(281474976710656 < (m:Int)*i.bytes):=by omega
 by_cases hm0:m=0
 ·subst hm0
  have e0:news=[]:=by
   have:=congrArg Array.size hzc
   simp[Builtin.zeroCells] at this
   exact List.eq_nil_of_length_eq_zero this.symm
  subst e0
  have hroom':sLen≤sCap:=hroom
  simp at hst
  simp[Builtin.append_,run_underlying ht,run_underlying hti,sizeOf,typeInfo,zeroValue,hi,hz,asInt,asIntOf,show IntKind.i64.wrap 0=0 from rfl,hroom',Addr.add_lit,hst]
 ·have hms:¬(m*i.size=0):=fun h=>(Nat.mul_eq_zero.1 h).elim hm0 (by omega)
  simp[Builtin.append_,run_underlying ht,run_underlying hti,sizeOf,typeInfo,zeroValue,hi,hz,asInt,asIntOf,hw,h48,hm0,show i.size≠0 by omega,hroom,Addr.add_lit,hzc,hst]
  rw[if_neg h0,if_neg hms]
theorem run_appz_grow (t ti ty e:TypeId) (i:TypeInfo) (z:Value) (ht:P.underlying t=some (.slice e)) (hti:P.underlying ti=some (.int .i64)) (hi:P.info? e=some i) (hz:i.zero=some z) (hsz:0 < i.size)
  (b:Addr) (sLen sCap:Nat) (olds:List Value) (hlo:olds.length=sLen*i.size) (holds:∀ j v,olds[j]?=some v→w.cell? (b.add j)=some v)
  (m:Nat) (hm:(m:Int)≤9223372036854775807) (hmb:(m:Int)*i.bytes≤281474976710656) (hm0:m≠0)
  (hg:sCap < sLen+m) (h63:((sLen+m:Nat):Int)≤9223372036854775807) (hfit:Builtin.nextslicecap (sLen+m) sCap*i.bytes≤281474976710656) :
  (Builtin.append_ #[t,ti] ty #[.slice (some b) sLen sCap,.int .i64 m]).run P w =
   .ok (.slice (some ⟨w.heap.size,0,none⟩) (sLen+m) (grownCap w (sLen+m) sCap e))
    (w.drew.alloc (.cells (olds.toArray++Builtin.zeroCells z.cells m++Builtin.zeroCells z.cells (grownCap w (sLen+m) sCap e - (sLen+m))) e)):=by
 have hw:IntKind.i64.wrap (m:Int)=m:=wrap_i64 (by omega) hm
 have h48:¬(281474976710656 < (m:Int)*i.bytes):=by omega
 have h0:¬((m:Int) < 0):=by omega
 have hms:¬(m*i.size=0):=fun h=>(Nat.mul_eq_zero.1 h).elim hm0 (by omega)
 have hn:¬(sLen+m≤sCap):=by omega
 have h63':¬(9223372036854775807 < ((sLen:Int)+(m:Int))):=by omega
 have h48':¬(281474976710656 < Builtin.nextslicecap (sLen+m) sCap*i.bytes):=by omega
 have hfo:=run_firstCells_some (P:=P) w.drew i.size sLen b sLen sCap olds hlo (by simpa using holds)
 simp[Builtin.append_,run_underlying ht,run_underlying hti,sizeOf,typeInfo,zeroValue,hi,hz,asInt,asIntOf,hw,h48,hm0,show i.size≠0 by omega,hn,h63',h48',Question.forced,hfo,newRow,grownCap]
 rw[if_neg h0,if_neg hms]
end
section
variable {P:Program} {e:Env} {bx bx':List Ow} {F:List Fct} {ty:TypeId}
theorem LO.appMk {t ti el sz bytes m:Nat} {z:Value} {x y:Operand} {K:RPost} {v:Value} {cs news:List Value} {bx':Value→List Ow} (ht:ElemT P t el sz z bytes) (hti:P.underlying ti=some (.int .i64)) (hx:ev e x=some v) (hy:ev e y=some (.int .i64 (m:Int)))
  (hs:∀ v',Sel bx (.slice v el sz cs) (.slice v' el sz (cs++news)) (bx' v')) (hz:Builtin.zeroCells z.cells m=news.toArray) (hc:0 < cs.length) (h1:∀ u∈news,u.oneCell'=true) (hlen:(cs.length+news.length)*bytes≤140737488355328) (hmax:cs.length+news.length≤9223372036854775807)
  (h:∀ v',K v' (bx' v') F):LO P (.call {callee:=.builtin .append,args:=#[x,y],argTypes:=#[t,ti]}) ty e bx F K:=.of fun k fr a w o hop hk ho=>by
 obtain⟨i,hi,hz0,hz1,hz2⟩:=info_parts ht.i
 have hmem:∀ v',Ow.slice v el sz cs∈bx:=fun v'=>(hs v').mem
 obtain⟨n,hown,hcn⟩:=slice_owns (ho.owns _ (hmem v))
 have hnl:news.length=m*sz:=by
  have:=congrArg Array.size hz
  rw[size_zeroCells,ht.zs] at this
  simpa using this.symm
 have hnle:n≤cs.length:=by rw[hcn];exact Nat.le_mul_of_pos_right n ht.pos
 have hmle:m≤news.length:=by rw[hnl];exact Nat.le_mul_of_pos_right m ht.pos
 have hb:(n+m)*bytes≤140737488355328:=Nat.le_trans (Nat.mul_le_mul_right bytes (Nat.add_le_add hnle hmle)) hlen
 have hmb:m*bytes≤140737488355328:=Nat.le_trans (Nat.mul_le_mul_right bytes (Nat.le_add_left m n)) hb
 have hmb2:(m:Int)*(i.bytes:Int)≤281474976710656:=by rw[hz2];omega
 have hl2:(cs++news).length=(n+m)*sz:=by rw[List.length_append,hcn,hnl,Nat.add_mul]
 have fin:∀ v' w',(Builtin.append_ #[t,ti] o.type #[v,.int .i64 m]).run P w=.ok v' w'→w'.ownsRow 0 el sz v' (n+m) (cs++news)→(w.grownBy w' v.ownBlock)→(∀ g,v'.ownBlock=some g→v.ownBlock=some g∨w.heap.size≤g)→
   ∃ v w' bx' F',((execOp a.eval o).run P w=.ok (.value v) w'∨((execOp a.eval o).run P w=.ok .skip w'∧v=undef))∧W.Rest w w'∧OK fr bx' F' w'∧K v bx' F':=fun v' w' hr how hg hnew=>by
  have hids:∀ u:Value,∀ q,(Ow.slice u el sz q).ids=(match u.ownBlock with|some g=>[g]|none=>[]):=fun u q=>by
   cases u <;> simp[Ow.ids,Value.ownBlock]
   rename_i ad _ _;cases ad <;> simp
  refine⟨v',w',bx' v',F,.inl ?_,⟨hg.os,hg.tape,hg.output⟩,ho.sel (hs v') (fun k hk1 hk2=>hg.block k hk1 ?_) (fun k hk1=>?_) ?_ (owns_slice how),h v'⟩
  ·simp[execOp,hop,resolve,hk.eval hx,hk.eval hy,invoke,builtin,hr]
  ·rw[hids] at hk2;cases hvb:v.ownBlock <;> simp_all
  ·rw[hids] at hk1 ⊢
   cases hvb:v'.ownBlock with
   |none=>rw[hvb] at hk1;simp at hk1
   |some g=>
    rw[hvb] at hk1;simp at hk1;subst hk1
    rcases hnew k hvb with h3|h3
    ·rw[h3];simp
    ·exact .inr h3
  ·rw[hids];cases v'.ownBlock <;> simp
 obtain⟨h2,⟨rfl,h3⟩|⟨g,cap,cur,rfl,_,h3,h4,h5,h6,h7⟩⟩:=id hown
 ·subst h3;rw[hcn] at hc;omega
 ·by_cases hroom:n+m≤cap
  ·have hfit:n*i.size+news.length≤cur.size:=by rw[hz1,hnl,h6,←Nat.add_mul];exact Nat.mul_le_mul_right _ hroom
   have hr:=run_appz_room (P:=P) w t ti o.type el i z ht.u hti hi hz0 (by rw[hz1];exact ht.pos) g n cap cur h3 m (by omega) hmb2 news hz h1 hroom hfit
   have hcl:cur.toList.length=cap*sz:=by simpa using h6
   rw[hz1] at hr hfit
   refine fin _ _ hr ⟨hl2,.inr ⟨g,cap,_,rfl,Nat.zero_le _,setRow_heap w g _ _ el (0,0) h3,hroom,h5,?_,?_⟩⟩ ⟨rfl,rfl,rfl,by simp[World.setRow],fun k hk hne=>setRow_other w g k _ fun e=>hne (by subst e;rfl)⟩ fun g' hg'=>.inl hg'
   ·have:n*sz+news.length≤cur.toList.length:=by simpa using hfit
    simp only[List.size_toArray,List.length_append,List.length_take,List.length_drop]
    omega
   ·rw[h7,←hl2]
    show List.take (cs++news).length (cs++news++_)=_
    exact List.take_left
  ·have hg0:cap < n+m:=by omega
   have hm0:m≠0:=fun e=>by subst e;omega
   have hr:=run_appz_grow (P:=P) w t ti o.type el i z ht.u hti hi hz0 (by rw[hz1];exact ht.pos) ⟨g,0,none⟩ n cap cs (by rw[hz1];exact h2) (hown.cells (g:=g) rfl) m (by omega) hmb2 hm0 hg0 (by omega) (growslice_fits hg0 (by rw[hz2];exact hb))
   have hge:=grownCap_ge w (n+m) cap el
   have hcm:=grownCap_le_maxLen w (n+m) cap el (by unfold maxLen;omega)
   rw[hz] at hr
   refine fin _ _ hr ⟨hl2,.inr ⟨w.heap.size,_,_,rfl,Nat.zero_le _,heap_alloc_new w.drew _,hge,hcm,?_,?_⟩⟩ ⟨rfl,rfl,rfl,by simp,fun k hk _=>Go.heap_alloc_old w.drew _ hk⟩ fun g' hg'=>by simp[Value.ownBlock] at hg';exact .inr (by omega)
   ·simp only[Array.size_append,List.size_toArray,size_zeroCells,ht.zs,h2,hnl,←Nat.add_mul]
    congr 1
    omega
   ·simp only[Array.toList_append,List.append_assoc]
    rw[←List.append_assoc,←hl2]
    exact List.take_left
theorem one_z {k:Nat}:∀ u∈qcells k (fun _=>m00),u.oneCell'=true:=fun u hu=>by
 simp only[qcells,cellsF,List.mem_map,List.mem_range] at hu
 obtain⟨j,_,rfl⟩:=hu
 unfold qcell
 have hr:=row_get (l:=qcs m00) (r:=j % 4) (n:=4) rfl (by omega)
 have h1:∀ u∈qcs m00,u.oneCell'=true:=by
  intro u hu
  simp only[qcs,m00,List.mem_cons,List.not_mem_nil,or_false] at hu
  rcases hu with rfl|rfl|rfl|rfl <;> rfl
 exact h1 _ (List.mem_of_getElem? hr)
theorem LO.appMk2 {v:Value} {x y:Operand} {n k:Nat} {ms:Nat→QM} {K:RPost} {bx2:Value→List Ow} (hx:ev e x=some v) (hy:ev e y=some (.int .i64 (2*(k:Int))))
  (hs:∀ v',Sel bx (.slice v 31 4 (qcells n ms)) (.slice v' 31 4 (qcells (n+2*k) (qcat ms n (fun _=>m00)))) (bx2 v')) (hn:0 < n) (hl:n≤1000000) (hl2:k≤1000000) (h:∀ v',K v' (bx2 v') F) :
  LO Tryz.prog (.call {callee:=.builtin .append,args:=#[x,y],argTypes:=#[24,3]}) ty e bx F K:=by
 have hm:Builtin.zeroCells (Value.agg #[.bool false,.slice none 0 0,.bool false,.slice none 0 0]).cells (2*k)=(qcells (2*k) (fun _=>m00)).toArray:=by
  rw[←made_q,Array.toArray_toList];rfl
 exact LO.appMk (m:=2*k) T.e24 (by kernel_rfl) hx (by rw[hy];rfl) (news:=qcells (2*k) (fun _=>m00)) (by rw[qcells_cat];exact hs) hm (by rw[cellsF_len];omega) one_z (by rw[cellsF_len,cellsF_len];omega) (by rw[cellsF_len,cellsF_len];omega) h
end
theorem LO.storeAz {P:Program} {e:Env} {bx bx':List Ow} {F:List Fct} {ty t tg g:Nat} {x y:Operand} {K:RPost} {k a b c1 c2 c3 c4:Value} {m:QM} {q:Rat} (hx:ev e x=some (.pointer (some ⟨g,3,none⟩))) (hy:ev e y=some (qv m)) (hr:Row P t 4) (hm:Has F (isQ (qv m) q))
  (hs:Sel bx (.cells g tg [k,a,b,c1,c2,c3,c4]) (.cells g tg [k,a,b,.bool m.1,m.2.1,.bool false,m.2.2]) bx') (h:K undef bx' F):LO P (.store t x y) ty e bx F K:=
 LO.byP (fun fr w ho=>(one_q (bx:=bx) hm).all ho) fun h1=>LO.store hx hy (vs:=qcs m) rfl hr.2 h1 hs (by show 3+4≤7;omega) rfl h
end Go.Proofs.YtaongbhamadlkaaGreat
namespace Go.Proofs.YtaongbhamadlkaaGreat
open W Go.RowKit
section
variable {P:Program} {e:Env} {bx bx':List Ow} {F:List Fct} {ty:TypeId} {K:RPost}
theorem YO.buildAk {x:Operand} {i:Int} (h1:ev e x=some (.int .i64 i)):YO Tryz.prog (.build 33 #[(0,x)]) ty e bx F (.agg #[.int .i64 i,.slice none 0 0,.slice none 0 0,.bool false,.slice none 0 0,.bool false,.slice none 0 0]):=YO.build (parts:=[(0,x)]) (.cons h1 .nil) fun w=>run_build w 33 _ _ (by kernel_rfl)
theorem LO.byA {op:Op} {M:Am} {xn yn:Nat} {x y:Nat→Rat} {z:Rat} (hA:Has F (fA M xn yn x y z)) (h:(∃ a c a' c',M.xv=.slice a xn c∧M.yv=.slice a' yn c')→LO P op ty e bx F K):LO P op ty e bx F K:=LO.byP (fun fr w ho=>by
 obtain⟨a,c,g1,_⟩:=((KnS.ff (W.Has.ax hA):KnS bx F M.xv xn) fr w ho).is
 obtain⟨a',c',g2,_⟩:=((KnS.ff (W.Has.ay hA):KnS bx F M.yv yn) fr w ho).is
 exact⟨a,c,a',c',g1,g2⟩) h
theorem LO.bsA3 {o1 o2 o3:Operand} {M1 M2 M3:Am} {k1 k2 k3:Int} {p1 q1 p2 q2 p3 q3:Nat} {x1 y1 x2 y2 x3 y3:Nat→Rat} {z1 z2 z3:Rat} (h1:ev e o1=some (agv M1 k1)) (h2:ev e o2=some (agv M2 k2)) (h3:ev e o3=some (agv M3 k3))
  (f1:Has F (fA M1 p1 q1 x1 y1 z1)) (f2:Has F (fA M2 p2 q2 x2 y2 z2)) (f3:Has F (fA M3 p3 q3 x3 y3 z3))
  (h:∀ v,K v (Ow.slice v 33 7 (acs M1 k1++acs M2 k2++acs M3 k3)::bx) F):LO Tryz.prog (.buildSlice 48 3 #[(0,o1),(1,o2),(2,o3)]) ty e bx F K:=by
 obtain⟨u1,v1,mx1,my1,mz1⟩:=M1
 obtain⟨u2,v2,mx2,my2,mz2⟩:=M2
 obtain⟨u3,v3,mx3,my3,mz3⟩:=M3
 refine LO.byA f1 ?_
 rintro⟨a1,c1,b1,d1,e1,e2⟩
 simp only at e1 e2
 subst e1 e2
 refine LO.byA f2 ?_
 rintro⟨a2,c2,b2,d2,e1,e2⟩
 simp only at e1 e2
 subst e1 e2
 refine LO.byA f3 ?_
 rintro⟨a3,c3,b3,d3,e1,e2⟩
 simp only at e1 e2
 subst e1 e2
 exact LO.buildSlice (parts:=[(0,o1),(1,o2),(2,o3)]) (us:=[.agg #[.int .i64 k1,.slice a1 p1 c1,.slice b1 q1 d1,.bool mz1.1,mz1.2.1,.bool false,mz1.2.2],.agg #[.int .i64 k2,.slice a2 p2 c2,.slice b2 q2 d2,.bool mz2.1,mz2.2.1,.bool false,mz2.2.2],.agg #[.int .i64 k3,.slice a3 p3 c3,.slice b3 q3 d3,.bool mz3.1,mz3.2.1,.bool false,mz3.2.2]]) (.cons h1 (.cons h2 (.cons h3 (.nil)))) (fun _=>by kernel_rfl) rfl (by decide) h
theorem LO.bsA6 {o1 o2 o3 o4 o5 o6:Operand} {M1 M2 M3 M4 M5 M6:Am} {k1 k2 k3 k4 k5 k6:Int} {p1 q1 p2 q2 p3 q3 p4 q4 p5 q5 p6 q6:Nat} {x1 y1 x2 y2 x3 y3 x4 y4 x5 y5 x6 y6:Nat→Rat} {z1 z2 z3 z4 z5 z6:Rat} (h1:ev e o1=some (agv M1 k1)) (h2:ev e o2=some (agv M2 k2)) (h3:ev e o3=some (agv M3 k3)) (h4:ev e o4=some (agv M4 k4)) (h5:ev e o5=some (agv M5 k5)) (h6:ev e o6=some (agv M6 k6))
  (f1:Has F (fA M1 p1 q1 x1 y1 z1)) (f2:Has F (fA M2 p2 q2 x2 y2 z2)) (f3:Has F (fA M3 p3 q3 x3 y3 z3)) (f4:Has F (fA M4 p4 q4 x4 y4 z4)) (f5:Has F (fA M5 p5 q5 x5 y5 z5)) (f6:Has F (fA M6 p6 q6 x6 y6 z6))
  (h:∀ v,K v (Ow.slice v 33 7 (acs M1 k1++acs M2 k2++acs M3 k3++acs M4 k4++acs M5 k5++acs M6 k6)::bx) F):LO Tryz.prog (.buildSlice 48 6 #[(0,o1),(1,o2),(2,o3),(3,o4),(4,o5),(5,o6)]) ty e bx F K:=by
 obtain⟨u1,v1,mx1,my1,mz1⟩:=M1
 obtain⟨u2,v2,mx2,my2,mz2⟩:=M2
 obtain⟨u3,v3,mx3,my3,mz3⟩:=M3
 obtain⟨u4,v4,mx4,my4,mz4⟩:=M4
 obtain⟨u5,v5,mx5,my5,mz5⟩:=M5
 obtain⟨u6,v6,mx6,my6,mz6⟩:=M6
 refine LO.byA f1 ?_
 rintro⟨a1,c1,b1,d1,e1,e2⟩
 simp only at e1 e2
 subst e1 e2
 refine LO.byA f2 ?_
 rintro⟨a2,c2,b2,d2,e1,e2⟩
 simp only at e1 e2
 subst e1 e2
 refine LO.byA f3 ?_
 rintro⟨a3,c3,b3,d3,e1,e2⟩
 simp only at e1 e2
 subst e1 e2
 refine LO.byA f4 ?_
 rintro⟨a4,c4,b4,d4,e1,e2⟩
 simp only at e1 e2
 subst e1 e2
 refine LO.byA f5 ?_
 rintro⟨a5,c5,b5,d5,e1,e2⟩
 simp only at e1 e2
 subst e1 e2
 refine LO.byA f6 ?_
 rintro⟨a6,c6,b6,d6,e1,e2⟩
 simp only at e1 e2
 subst e1 e2
 exact LO.buildSlice (parts:=[(0,o1),(1,o2),(2,o3),(3,o4),(4,o5),(5,o6)]) (us:=[.agg #[.int .i64 k1,.slice a1 p1 c1,.slice b1 q1 d1,.bool mz1.1,mz1.2.1,.bool false,mz1.2.2],.agg #[.int .i64 k2,.slice a2 p2 c2,.slice b2 q2 d2,.bool mz2.1,mz2.2.1,.bool false,mz2.2.2],.agg #[.int .i64 k3,.slice a3 p3 c3,.slice b3 q3 d3,.bool mz3.1,mz3.2.1,.bool false,mz3.2.2],.agg #[.int .i64 k4,.slice a4 p4 c4,.slice b4 q4 d4,.bool mz4.1,mz4.2.1,.bool false,mz4.2.2],.agg #[.int .i64 k5,.slice a5 p5 c5,.slice b5 q5 d5,.bool mz5.1,mz5.2.1,.bool false,mz5.2.2],.agg #[.int .i64 k6,.slice a6 p6 c6,.slice b6 q6 d6,.bool mz6.1,mz6.2.1,.bool false,mz6.2.2]]) (.cons h1 (.cons h2 (.cons h3 (.cons h4 (.cons h5 (.cons h6 (.nil))))))) (fun _=>by kernel_rfl) rfl (by decide) h
end
structure AR where
 M:Am
 k:Int
 xn:Nat
 yn:Nat
 x:Nat→Rat
 y:Nat→Rat
 z:Rat
def AR.f (A:AR):Fct:=fA A.M A.xn A.yn A.x A.y A.z
def acell (A:Nat→AR) (j:Nat):Value:=(acs (A (j / 7)).M (A (j / 7)).k).getD (j % 7) undef
theorem acell_at (A:Nat→AR) (k:Nat) {r:Nat} (hr:r < 7):acell A (k*7+r)=(acs (A k).M (A k).k).getD r undef:=by
 unfold acell;rw[show(k*7+r) / 7=k by omega,show(k*7+r) % 7=r by omega]
def fAs (v:Value) (n:Nat) (A:Nat→AR):Fct where
 p h:=(slC v n 7 (acell A)).p h∧∀ i,i < n→(A i).f.p h
 mono _ _ hl hp:=⟨(slC _ _ _ _).mono _ _ hl hp.1,fun i hi=>(A i).f.mono _ _ hl (hp.2 i hi)⟩
section
variable {P:Program} {n':Nat} {c:Code} {e:Env} {bx bx':List Ow} {F:List Fct} {Q:Post} {Q2:Env→List Ow→List Fct→Prop} {Lo rest:List Oper} {ty t el n i:Nat} {v:Value} {x:Operand} {A:Nat→AR} {hs2:List Nat} {b0:List Ow} {F0:List Fct} {r:Plan}
theorem W.Has.asl (h:Has F (fAs v n A)):Has F (slC v n 7 (acell A)):=fun p hf=>(h p hf).1
theorem YO.ldAs (hs:Row P t 7) (hx:ev e x=some (.pointer (some (eaddr v (i*7))))) (h:Has F (fAs v n A)) (hi:i < n):YO P (.load t x) ty e bx F (agv (A i).M (A i).k):=
 YO.ldRS (us:=acs (A i).M (A i).k) hs hx h.asl (by omega) rfl fun k hk=>by
  rw[acell_at _ _ hk]
  match k,hk with|0,_=>rfl|1,_=>rfl|2,_=>rfl|3,_=>rfl|4,_=>rfl|5,_=>rfl|6,_=>rfl
end
end Go.Proofs.YtaongbhamadlkaaGreat
namespace Go.Proofs.YtaongbhamadlkaaGreat
open W Go.RowKit
section
variable {P:Program} {e:Env} {bx:List Ow} {F:List Fct} {ty t:TypeId} {x:Operand} {v:Value} {i n:Nat} {A:Nat→AR}
theorem YO.ldAk (hs:Scalar P t) (hx:ev e x=some (.pointer (some (eaddr v (i*7+0))))) (h:Has F (fAs v n A)) (hi:i < n):YO P (.load t x) ty e bx F (.int .i64 (A i).k):=by
 have:=YO.ldS (ty:=ty) (bx:=bx) hs hx h.asl (by omega)
 rwa [acell_at _ _ (by omega)] at this
theorem YO.ldAz (hs:Row P t 4) (hx:ev e x=some (.pointer (some (eaddr v (i*7+3))))) (h:Has F (fAs v n A)) (hi:i < n):YO P (.load t x) ty e bx F (qv (A i).M.mz):=
 YO.ldRS (us:=qcs (A i).M.mz) hs hx h.asl (by omega) rfl fun k hk=>by
  rw[Nat.add_assoc,acell_at _ _ (by omega)]
  match k,hk with|0,_=>rfl|1,_=>rfl|2,_=>rfl|3,_=>rfl
theorem YO.fld {t:TypeId} {i:Nat} {x:Operand} {u v:Value} (hx:ev e x=some u) (hr:∀ w,(Instr.field t u i).run P w=.ok v w):YO P (.field t x i) ty e bx F v:=
 .of fun n fr a w o hop hk _=>by simp[execOp,hop,hk.eval hx,hr]
theorem YO.fldPL {i:Int} {lv gv:Value} (hx:ev e x=some (.agg #[.int .i64 i,lv,gv])):YO Tryz.prog (.field 26 x 1) ty e bx F lv:=YO.fld hx fun w=>by kernel_rfl
theorem YO.fldPG {i:Int} {lv gv:Value} (hx:ev e x=some (.agg #[.int .i64 i,lv,gv])):YO Tryz.prog (.field 26 x 2) ty e bx F gv:=YO.fld hx fun w=>by kernel_rfl
end
end Go.Proofs.YtaongbhamadlkaaGreat
namespace Go.Proofs.YtaongbhamadlkaaGreat
open W Go.RowKit
attribute [local irreducible] WC WL WD YO LO LoopEnd W.Fin Scalar SliceT FieldAt Row ArrT AllocT KnS Has W.One SrcE IntT
namespace U.V
set_option maxRecDepth 60000
theorem goE {G G':Prop} (h:G') (s:Bx G'→G:=by
 intro h
 (first
  |(apply WL.k_build;(first|exact YO.buildRT0|(apply YO.buildAk;exact rfl));exact rfl;exact rfl)
  |(apply WL.k_load;(first|(apply YO.ldAs;(first|exact T.r26|exact T.r29|exact T.r31|exact T.r33|exact T.r60|exact T.r77|exact T.r88|exact T.r107|exact T.r123|exact T.r134);exact rfl;exact hmA;omega)|(apply YO.ldAk;(first|exact T.sc3|exact T.sc4|exact T.sc22|exact T.sc23|exact T.sc24|exact T.sc34|exact T.sc48|exact T.sc72|exact T.sc84|exact T.sc86|exact T.sc103|exact T.sc129|exact T.sc131|exact T.sc162);exact rfl;exact hmA;omega)|(apply YO.ldAz;(first|exact T.r26|exact T.r29|exact T.r31|exact T.r33|exact T.r60|exact T.r77|exact T.r88|exact T.r107|exact T.r123|exact T.r134);exact rfl;exact hmA;omega));exact rfl;exact rfl)
  |(apply WL.k_field;(first|(apply YO.fldPL;exact rfl)|(apply YO.fldPG;exact rfl));exact rfl;exact rfl)
  |(apply WL.kl_store;rotate_left;exact rfl;(first|(apply LO.storeOV;exact rfl;exact rfl;(first|exact T.z3|exact T.z4|exact T.z22|exact T.z23|exact T.z24|exact T.z34|exact T.z48|exact T.z72|exact T.z84|exact T.z86|exact T.z103|exact T.z129|exact T.z131|exact T.z162);(apply One.sl;exact knA);exact seA;omega)|(apply LO.storeAz;exact rfl;exact rfl;(first|exact T.r26|exact T.r29|exact T.r31|exact T.r33|exact T.r60|exact T.r77|exact T.r88|exact T.r107|exact T.r123|exact T.r134);exact hmA;exact seA)|fail))
  |(apply WD.k_build;exact rfl;(first|exact YO.buildRT0|(apply YO.buildAk;exact rfl));exact rfl;exact rfl)
  |(apply WD.k_load;exact rfl;(first|(apply YO.ldAs;(first|exact T.r26|exact T.r29|exact T.r31|exact T.r33|exact T.r60|exact T.r77|exact T.r88|exact T.r107|exact T.r123|exact T.r134);exact rfl;exact hmA;omega)|(apply YO.ldAk;(first|exact T.sc3|exact T.sc4|exact T.sc22|exact T.sc23|exact T.sc24|exact T.sc34|exact T.sc48|exact T.sc72|exact T.sc84|exact T.sc86|exact T.sc103|exact T.sc129|exact T.sc131|exact T.sc162);exact rfl;exact hmA;omega)|(apply YO.ldAz;(first|exact T.r26|exact T.r29|exact T.r31|exact T.r33|exact T.r60|exact T.r77|exact T.r88|exact T.r107|exact T.r123|exact T.r134);exact rfl;exact hmA;omega));exact rfl;exact rfl)
  |(apply WD.k_field;exact rfl;(first|(apply YO.fldPL;exact rfl)|(apply YO.fldPG;exact rfl));exact rfl;exact rfl)
  |(apply WD.kl_store;exact rfl;rotate_left;exact rfl;(first|(apply LO.storeOV;exact rfl;exact rfl;(first|exact T.z3|exact T.z4|exact T.z22|exact T.z23|exact T.z24|exact T.z34|exact T.z48|exact T.z72|exact T.z84|exact T.z86|exact T.z103|exact T.z129|exact T.z131|exact T.z162);(apply One.sl;exact knA);exact seA;omega)|(apply LO.storeAz;exact rfl;exact rfl;(first|exact T.r26|exact T.r29|exact T.r31|exact T.r33|exact T.r60|exact T.r77|exact T.r88|exact T.r107|exact T.r123|exact T.r134);exact hmA;exact seA)|fail);constructor;(first|(focus(apply Or.inr;constructor;(repeat(first|exact List.Sublist.refl _|exact List.nil_sublist _|apply List.Sublist.cons_cons|apply List.Sublist.cons));(first|exact fun _ h=>h|(intro f hf;(repeat(first|exact hf|apply List.Mem.tail))));done))|(apply Or.inl;kernel_rfl)))
  |((first|(apply LO.storeOV;exact rfl;exact rfl;(first|exact T.z3|exact T.z4|exact T.z22|exact T.z23|exact T.z24|exact T.z34|exact T.z48|exact T.z72|exact T.z84|exact T.z86|exact T.z103|exact T.z129|exact T.z131|exact T.z162);(apply One.sl;exact knA);exact seA;omega)|(apply LO.storeAz;exact rfl;exact rfl;(first|exact T.r26|exact T.r29|exact T.r31|exact T.r33|exact T.r60|exact T.r77|exact T.r88|exact T.r107|exact T.r123|exact T.r134);exact hmA;exact seA)|fail);constructor;(first|(focus(apply Or.inr;constructor;(repeat(first|exact List.Sublist.refl _|exact List.nil_sublist _|apply List.Sublist.cons_cons|apply List.Sublist.cons));(first|exact fun _ h=>h|(intro f hf;(repeat(first|exact hf|apply List.Mem.tail))));done))|(apply Or.inl;kernel_rfl)))
  |fail)
 exact Bx.h h):G:=s ⟨h⟩
theorem goEG {G G':Prop} (h:G') (s:Bx G'→G:=by
 intro h
 (first
  |(apply WL.kl_alloc;rotate_left;exact rfl;exact rfl;apply LO.alloc';(first|fail|fail))
  |(apply WD.kl_alloc;exact rfl;rotate_left;exact rfl;exact rfl;apply LO.alloc';(first|fail|fail);apply allAnd;(intro _;(first|(focus(apply Or.inr;constructor;(repeat(first|exact List.Sublist.refl _|exact List.nil_sublist _|apply List.Sublist.cons_cons|apply List.Sublist.cons));(first|exact fun _ h=>h|(intro f hf;(repeat(first|exact hf|apply List.Mem.tail))));done))|(apply Or.inl;kernel_rfl))))
  |(apply LO.alloc';(first|fail|fail);apply allAnd;(intro _;(first|(focus(apply Or.inr;constructor;(repeat(first|exact List.Sublist.refl _|exact List.nil_sublist _|apply List.Sublist.cons_cons|apply List.Sublist.cons));(first|exact fun _ h=>h|(intro f hf;(repeat(first|exact hf|apply List.Mem.tail))));done))|(apply Or.inl;kernel_rfl))))
  |fail)
 exact Bx.h h):G:=s ⟨h⟩
theorem goEV {G G':Prop} (h:G') (s:Bx G'→G:=by
 intro h
 (first
  |(apply WL.kl_app;rotate_left;exact rfl;exact rfl;(first|(apply LO.appMk2;exact rfl;exact rfl;(intro _;exact seA);omega;omega;omega)|fail))
  |(apply WD.kl_app;exact rfl;rotate_left;exact rfl;exact rfl;(first|(apply LO.appMk2;exact rfl;exact rfl;(intro _;exact seA);omega;omega;omega)|fail);apply allAnd;(intro _;(first|(focus(apply Or.inr;constructor;(repeat(first|exact List.Sublist.refl _|exact List.nil_sublist _|apply List.Sublist.cons_cons|apply List.Sublist.cons));(first|exact fun _ h=>h|(intro f hf;(repeat(first|exact hf|apply List.Mem.tail))));done))|(apply Or.inl;kernel_rfl))))
  |((first|(apply LO.appMk2;exact rfl;exact rfl;(intro _;exact seA);omega;omega;omega)|fail);apply allAnd;(intro _;(first|(focus(apply Or.inr;constructor;(repeat(first|exact List.Sublist.refl _|exact List.nil_sublist _|apply List.Sublist.cons_cons|apply List.Sublist.cons));(first|exact fun _ h=>h|(intro f hf;(repeat(first|exact hf|apply List.Mem.tail))));done))|(apply Or.inl;kernel_rfl))))
  |(apply WL.kl_bs;rotate_left;exact rfl;exact rfl;(apply LO.bsA6;exact rfl;exact rfl;exact rfl;exact rfl;exact rfl;exact rfl;exact hmA;exact hmA;exact hmA;exact hmA;exact hmA;exact hmA))
  |(apply WD.kl_bs;exact rfl;rotate_left;exact rfl;exact rfl;(apply LO.bsA6;exact rfl;exact rfl;exact rfl;exact rfl;exact rfl;exact rfl;exact hmA;exact hmA;exact hmA;exact hmA;exact hmA;exact hmA);apply allAnd;(intro _;(first|(focus(apply Or.inr;constructor;(repeat(first|exact List.Sublist.refl _|exact List.nil_sublist _|apply List.Sublist.cons_cons|apply List.Sublist.cons));(first|exact fun _ h=>h|(intro f hf;(repeat(first|exact hf|apply List.Mem.tail))));done))|(apply Or.inl;kernel_rfl))))
  |((apply LO.bsA6;exact rfl;exact rfl;exact rfl;exact rfl;exact rfl;exact rfl;exact hmA;exact hmA;exact hmA;exact hmA;exact hmA;exact hmA);apply allAnd;(intro _;(first|(focus(apply Or.inr;constructor;(repeat(first|exact List.Sublist.refl _|exact List.nil_sublist _|apply List.Sublist.cons_cons|apply List.Sublist.cons));(first|exact fun _ h=>h|(intro f hf;(repeat(first|exact hf|apply List.Mem.tail))));done))|(apply Or.inl;kernel_rfl))))
  |(apply WL.kl_bs;rotate_left;exact rfl;exact rfl;(apply LO.bsA3;exact rfl;exact rfl;exact rfl;exact hmA;exact hmA;exact hmA))
  |(apply WD.kl_bs;exact rfl;rotate_left;exact rfl;exact rfl;(apply LO.bsA3;exact rfl;exact rfl;exact rfl;exact hmA;exact hmA;exact hmA);apply allAnd;(intro _;(first|(focus(apply Or.inr;constructor;(repeat(first|exact List.Sublist.refl _|exact List.nil_sublist _|apply List.Sublist.cons_cons|apply List.Sublist.cons));(first|exact fun _ h=>h|(intro f hf;(repeat(first|exact hf|apply List.Mem.tail))));done))|(apply Or.inl;kernel_rfl))))
  |((apply LO.bsA3;exact rfl;exact rfl;exact rfl;exact hmA;exact hmA;exact hmA);apply allAnd;(intro _;(first|(focus(apply Or.inr;constructor;(repeat(first|exact List.Sublist.refl _|exact List.nil_sublist _|apply List.Sublist.cons_cons|apply List.Sublist.cons));(first|exact fun _ h=>h|(intro f hf;(repeat(first|exact hf|apply List.Mem.tail))));done))|(apply Or.inl;kernel_rfl))))
  |fail)
 exact Bx.h h):G:=s ⟨h⟩
end U.V
end Go.Proofs.YtaongbhamadlkaaGreat
namespace Go.Proofs.YtaongbhamadlkaaGreat
open W Go.RowKit
def szK (m K0:Nat):Nat:=2*(m*(50*K0+2)+1)+K0
def szL (m K0:Nat):Nat:=m*(K0+szK m K0+1)+1+K0+1
def szR (v m K0:Nat):Nat:=szL m K0+(2*szK m K0+1)+(v*(2*(2*szK m K0+1)+1)+1)
structure Fits (v m K0:Nat):Prop where
 l:szL m K0≤20000000
 d:v*(2*(2*szK m K0+1)+1)+1+2*(2*szK m K0+1)≤400000000
 v:v≤48
 m:m≤128
 k:0 < K0
theorem szK_le (m K0:Nat):szK m K0≤szL m K0:=by
 unfold szL
 cases m with
 |zero=>unfold szK;simp;omega
 |succ m=>
  have:1*(K0+szK (m+1) K0+1)≤(m+1)*(K0+szK (m+1) K0+1):=Nat.mul_le_mul_right _ (by omega)
  omega
theorem szs_of {v m K0:Nat} {L:List X.Ln} {g:Nat→Rat} (hf:Fits v m K0) (hL:LSq K0 v L) (hm:L.length≤m) (hg:∀ k,k < v→Sq K0 (g k)):X.Szs (X.lpOf v L g) K0 (szK m K0) (szL m K0) where
 pos:=hf.k
 a:=fun r hr k hk=>hL.ca hr hk
 b:=fun r hr=>hL.cb hr
 g:=hg
 k:=by
  have:=Nat.mul_le_mul_right (50*K0+2) hm
  show 2*(L.length*(50*K0+2)+1)+K0≤szK m K0
  unfold szK;omega
 v:=hf.v
 m:=Nat.le_trans hm hf.m
 l:=by
  have:=Nat.mul_le_mul_right (K0+szK m K0+1) hm
  show L.length*(K0+szK m K0+1)+1+K0+1≤szL m K0
  unfold szL;omega
 t:=hf.l
 kl:=szK_le m K0
 d:=hf.d
theorem solveL_c (M:Pm) {v m K0:Nat} {L:List X.Ln} {g:Nat→Rat} (hf:Fits v m K0) (hL:LSq K0 v L) (hm:L.length≤m) (hg:∀ k,k < v→Sq K0 (g k)):FnB Tryz.prog 12 [pgv M v] [] [fP M (X.lpOf v L g)] (IsAns (X.lpOf v L g) (szR v m K0)):=
 Z.solve_c M (X.lpOf v L g) K0 (szK m K0) (szL m K0) (szR v m K0) (szs_of hf hL hm hg) hf.v (Nat.le_trans hm hf.m) (by unfold szR;omega) (by unfold szR;omega) (by show v*_+1≤_;unfold szR;omega)
theorem AnsP.sem {p:X.Lp} {kind xn yn:Nat} {x y:Nat→Rat} {z:Rat} (h:AnsP p kind xn yn x y z):X.Sem p kind z:=by
 rcases h with ⟨rfl,_,_,rfl,h⟩|⟨rfl,_,_,h⟩|⟨rfl,_,_,rfl,h⟩
 ·exact X.Sem.inf h
 ·exact X.Sem.opt h
 ·exact X.Sem.unb h
theorem Dok.le {n m K:Nat} (h:Dok m K) (hn:n≤m):Dok n K:=by
 unfold Dok at *
 have:=Nat.mul_le_mul_right (2*K+1) hn
 omega
end Go.Proofs.YtaongbhamadlkaaGreat
namespace Go.Proofs.YtaongbhamadlkaaGreat
open W Go.RowKit
section
variable {F:List Fct} {v:Value} {ms:Nat→QM} {qs:List Int} {bs:List Bd} {k n:Nat}
theorem W.Has.rF (h:Has F (fR 6 v ms qs)) (hn:qs.length=n):Has F (fF v n ms fun k=>wq 6 (vl qs k)):=fun p hf=>by subst hn;exact⟨(h p hf).1,(h p hf).2⟩
theorem W.Has.bw (h:Has F (fB 6 v ms bs)) (hk:k < bs.length):Has F (isQ (qv (ms k)) (wq 6 (bg bs k).w)):=W.Has.b h.bm hk
end
def bT (n:Nat) (bs:List Bd) (i:Nat):List X.Ln:=(List.range i).map fun j=>bln n (bg bs j)
theorem bT_len (n:Nat) (bs:List Bd) (i:Nat):(bT n bs i).length=i:=by simp[bT]
theorem bT_succ (n:Nat) (bs:List Bd) (i:Nat):bT n bs (i+1)=bT n bs i++[bln n (bg bs i)]:=by simp[bT,List.range_succ]
theorem bT_all (n:Nat) (bs:List Bd):bT n bs bs.length=bL n bs:=by
 unfold bT bL
 apply List.ext_getElem
 ·simp
 ·intro i h1 h2
  have h3:i < bs.length:=by simpa using h1
  simp[bg,List.getD_eq_getElem?_getD,h3]
theorem sqdv {p q:Int} (h1:p.natAbs < 1000000000) (h2:0 < q) (h3:q < 1000000000):Sq 1 (Rat.divInt p q):=by
 obtain⟨n,rfl⟩:∃ n:Nat,q=n:=⟨q.toNat,by omega⟩
 rw[Rat.divInt_ofNat]
 exact di_num _ _ (by omega) (digs_len_le (k:=1) (by omega)) (digs_len_le (k:=1) (by omega))
theorem wq6_sq {k:Int} (h:k.natAbs < 1000000000):Sq 1 (wq 6 k):=sqdv h (by decide) (by decide)
theorem gT_sq (t f k:Nat):Sq 1 (gT t f k):=by
 unfold gT
 split <;> split
 ·rw[show(1:Rat) - 1=Rat.divInt 0 1 by decide +kernel];exact sqdv (by decide) (by decide) (by decide)
 ·rw[show(1:Rat) - 0=Rat.divInt 1 1 by decide +kernel];exact sqdv (by decide) (by decide) (by decide)
 ·rw[show(0:Rat) - 1=Rat.divInt (-1) 1 by decide +kernel];exact sqdv (by decide) (by decide) (by decide)
 ·rw[show(0:Rat) - 0=Rat.divInt 0 1 by decide +kernel];exact sqdv (by decide) (by decide) (by decide)
theorem absS_ge {bs:List Bd} {i:Nat} (h:i < bs.length):(bg bs i).w.natAbs≤absS bs:=by
 have hm:bg bs i∈bs:=by unfold bg;rw[List.getD_eq_getElem?_getD,List.getElem?_eq_getElem h];exact List.getElem_mem h
 generalize bg bs i=b at hm
 clear h
 unfold absS
 induction bs with
 |nil=>cases hm
 |cons a bs ih=>
  rw[List.map_cons,List.sum_cons]
  rcases List.mem_cons.1 hm with rfl|hm
  ·omega
  ·have:=ih hm;omega
theorem bL_sq {n:Nat} {bs:List Bd} (hs:absS bs≤12000):LSq 1 n (bL n bs):=fun c hc=>by
 obtain⟨i,hi,rfl⟩:=List.mem_iff_getElem.1 hc
 have hi':i < bs.length:=by rw[←bL_len n bs];exact hi
 have e:(bL n bs)[i]=bln n (bg bs i):=by
  have:=bL_ca (n:=n) hi'
  rwa [List.getD_eq_getElem?_getD,List.getElem?_eq_getElem hi] at this
 rw[e]
 refine⟨by simp[bln],fun k hk=>by rw[bln_co hk];exact gT_sq _ _ _,wq6_sq ?_⟩
 have:=absS_ge hi'
 omega
theorem cmpQ_le {a b:Rat} (h:a≤b):cmpQ a b≤0:=by
 have:¬0 < cmpQ a b:=fun h'=>by have:=cmpQ_gt.1 h';grind
 omega
theorem v4 {P:Nat→Prop} {v:Nat} (h:1≤v∧v≤4) (h1:P 1) (h2:P 2) (h3:P 3) (h4:P 4):P v:=by
 rcases(show v=1∨v=2∨v=3∨v=4 by omega) with rfl|rfl|rfl|rfl <;> assumption
theorem progFits {v:Nat} (h:1≤v∧v≤4):Fits v 8 1:=v4 (P:=fun v=>Fits v 8 1) h ⟨by decide +kernel,by decide +kernel,by decide,by decide,by decide⟩ ⟨by decide +kernel,by decide +kernel,by decide,by decide,by decide⟩ ⟨by decide +kernel,by decide +kernel,by decide,by decide,by decide⟩ ⟨by decide +kernel,by decide +kernel,by decide,by decide,by decide⟩
theorem take_i64 {l:List Int} {k:Nat} (h:∀ x∈l,I64 x):∀ x∈l.take k,I64 x:=fun x hx=>h x (List.mem_of_mem_take hx)
theorem sysL_len8 (l:List Int) (most:Int):(sysL (l.take 34) most).length≤8:=by
 unfold sysL;rw[sysT_len];unfold sysC;rw[List.length_take];omega
attribute [local irreducible] WC WL WD YO LO LoopEnd W.Fin Scalar SliceT FieldAt Row ArrT AllocT KnS Has W.One SrcE IntT
namespace U.V.B
set_option maxRecDepth 60000
theorem goE {G G':Prop} (h:G') (s:Bx G'→G:=by
 intro h
 (first
  |(apply WL.k_build;(first|exact YO.buildRT0|(apply YO.buildAk;exact rfl));exact rfl;exact rfl)
  |(apply WL.k_load;(first|(apply YO.ldAs;exact t4A;exact rfl;exact hmA;omega)|(apply YO.ldAk;(first|exact T.sc3|exact T.sc4|exact T.sc22|exact T.sc23|exact T.sc24|exact T.sc34|exact T.sc48|exact T.sc72|exact T.sc84|exact T.sc86|exact T.sc103|exact T.sc129|exact T.sc131|exact T.sc162|exact T.sc111|exact T.sc136|exact T.sc166|exact T.sc168);exact rfl;exact hmA;omega)|(apply YO.ldAz;exact t4A;exact rfl;exact hmA;omega)|(apply YO.ldBq;exact t4A;exact rfl;exact hmA;omega)|(apply YO.ldBf;(first|exact T.sc3|exact T.sc4|exact T.sc22|exact T.sc23|exact T.sc24|exact T.sc34|exact T.sc48|exact T.sc72|exact T.sc84|exact T.sc86|exact T.sc103|exact T.sc129|exact T.sc131|exact T.sc162|exact T.sc111|exact T.sc136|exact T.sc166|exact T.sc168);exact rfl;exact hmA;omega)|(apply YO.ldBt;(first|exact T.sc3|exact T.sc4|exact T.sc22|exact T.sc23|exact T.sc24|exact T.sc34|exact T.sc48|exact T.sc72|exact T.sc84|exact T.sc86|exact T.sc103|exact T.sc129|exact T.sc131|exact T.sc162|exact T.sc111|exact T.sc136|exact T.sc166|exact T.sc168);exact rfl;exact hmA;omega));exact rfl;exact rfl)
  |(apply WL.k_field;(first|(apply YO.fldPL;exact rfl)|(apply YO.fldPG;exact rfl));exact rfl;exact rfl)
  |(apply WL.k_len;(apply YO.len;(first|exact T.s22|exact T.s23|exact T.s24|exact T.s48|exact T.s72|exact T.s86|exact T.s129|exact T.s131|exact T.s168);exact rfl;(first|(focus(apply KnS.fb;exact hmA;done))|(focus(apply KnS.fr;exact hmA;done))));exact rfl;exact rfl)
  |(apply WL.k_indexAddr;(first|(apply YO.ix1;(first|exact T.s22|exact T.s23|exact T.s24|exact T.s48|exact T.s72|exact T.s86|exact T.s129|exact T.s131|exact T.s168);exact rfl;exact rfl;(first|(focus(apply KnS.fb;exact hmA;done))|(focus(apply KnS.fr;exact hmA;done)));omega)|(apply YO.ix;(first|exact T.s22|exact T.s23|exact T.s24|exact T.s48|exact T.s72|exact T.s86|exact T.s129|exact T.s131|exact T.s168);exact rfl;exact rfl;(first|(focus(apply KnS.fb;exact hmA;done))|(focus(apply KnS.fr;exact hmA;done)));omega)|(apply YO.ix1';(first|exact T.s22|exact T.s23|exact T.s24|exact T.s48|exact T.s72|exact T.s86|exact T.s129|exact T.s131|exact T.s168);exact rfl;exact rfl;exact knA;omega;omega)|(apply YO.ix';(first|exact T.s22|exact T.s23|exact T.s24|exact T.s48|exact T.s72|exact T.s86|exact T.s129|exact T.s131|exact T.s168);exact rfl;exact rfl;exact knA;omega;omega));exact rfl;exact rfl)
  |(apply WL.kl_store;rotate_left;exact rfl;(first|(apply LO.storeOV;exact rfl;exact rfl;(first|exact T.z3|exact T.z4|exact T.z22|exact T.z23|exact T.z24|exact T.z34|exact T.z48|exact T.z72|exact T.z84|exact T.z86|exact T.z103|exact T.z129|exact T.z131|exact T.z162|exact T.z111|exact T.z136|exact T.z166|exact T.z168);(apply One.sl;exact knA);exact seA;omega)|(apply LO.storeAz;exact rfl;exact rfl;exact t4A;exact hmA;exact seA)|fail))
  |(apply WD.k_build;exact rfl;(first|exact YO.buildRT0|(apply YO.buildAk;exact rfl));exact rfl;exact rfl)
  |(apply WD.k_load;exact rfl;(first|(apply YO.ldAs;exact t4A;exact rfl;exact hmA;omega)|(apply YO.ldAk;(first|exact T.sc3|exact T.sc4|exact T.sc22|exact T.sc23|exact T.sc24|exact T.sc34|exact T.sc48|exact T.sc72|exact T.sc84|exact T.sc86|exact T.sc103|exact T.sc129|exact T.sc131|exact T.sc162|exact T.sc111|exact T.sc136|exact T.sc166|exact T.sc168);exact rfl;exact hmA;omega)|(apply YO.ldAz;exact t4A;exact rfl;exact hmA;omega)|(apply YO.ldBq;exact t4A;exact rfl;exact hmA;omega)|(apply YO.ldBf;(first|exact T.sc3|exact T.sc4|exact T.sc22|exact T.sc23|exact T.sc24|exact T.sc34|exact T.sc48|exact T.sc72|exact T.sc84|exact T.sc86|exact T.sc103|exact T.sc129|exact T.sc131|exact T.sc162|exact T.sc111|exact T.sc136|exact T.sc166|exact T.sc168);exact rfl;exact hmA;omega)|(apply YO.ldBt;(first|exact T.sc3|exact T.sc4|exact T.sc22|exact T.sc23|exact T.sc24|exact T.sc34|exact T.sc48|exact T.sc72|exact T.sc84|exact T.sc86|exact T.sc103|exact T.sc129|exact T.sc131|exact T.sc162|exact T.sc111|exact T.sc136|exact T.sc166|exact T.sc168);exact rfl;exact hmA;omega));exact rfl;exact rfl)
  |(apply WD.k_field;exact rfl;(first|(apply YO.fldPL;exact rfl)|(apply YO.fldPG;exact rfl));exact rfl;exact rfl)
  |(apply WD.k_len;exact rfl;(apply YO.len;(first|exact T.s22|exact T.s23|exact T.s24|exact T.s48|exact T.s72|exact T.s86|exact T.s129|exact T.s131|exact T.s168);exact rfl;(first|(focus(apply KnS.fb;exact hmA;done))|(focus(apply KnS.fr;exact hmA;done))));exact rfl;exact rfl)
  |(apply WD.k_indexAddr;exact rfl;(first|(apply YO.ix1;(first|exact T.s22|exact T.s23|exact T.s24|exact T.s48|exact T.s72|exact T.s86|exact T.s129|exact T.s131|exact T.s168);exact rfl;exact rfl;(first|(focus(apply KnS.fb;exact hmA;done))|(focus(apply KnS.fr;exact hmA;done)));omega)|(apply YO.ix;(first|exact T.s22|exact T.s23|exact T.s24|exact T.s48|exact T.s72|exact T.s86|exact T.s129|exact T.s131|exact T.s168);exact rfl;exact rfl;(first|(focus(apply KnS.fb;exact hmA;done))|(focus(apply KnS.fr;exact hmA;done)));omega)|(apply YO.ix1';(first|exact T.s22|exact T.s23|exact T.s24|exact T.s48|exact T.s72|exact T.s86|exact T.s129|exact T.s131|exact T.s168);exact rfl;exact rfl;exact knA;omega;omega)|(apply YO.ix';(first|exact T.s22|exact T.s23|exact T.s24|exact T.s48|exact T.s72|exact T.s86|exact T.s129|exact T.s131|exact T.s168);exact rfl;exact rfl;exact knA;omega;omega));exact rfl;exact rfl)
  |(apply WD.kl_store;exact rfl;rotate_left;exact rfl;(first|(apply LO.storeOV;exact rfl;exact rfl;(first|exact T.z3|exact T.z4|exact T.z22|exact T.z23|exact T.z24|exact T.z34|exact T.z48|exact T.z72|exact T.z84|exact T.z86|exact T.z103|exact T.z129|exact T.z131|exact T.z162|exact T.z111|exact T.z136|exact T.z166|exact T.z168);(apply One.sl;exact knA);exact seA;omega)|(apply LO.storeAz;exact rfl;exact rfl;exact t4A;exact hmA;exact seA)|fail);constructor;exact ltA)
  |((first|(apply LO.storeOV;exact rfl;exact rfl;(first|exact T.z3|exact T.z4|exact T.z22|exact T.z23|exact T.z24|exact T.z34|exact T.z48|exact T.z72|exact T.z84|exact T.z86|exact T.z103|exact T.z129|exact T.z131|exact T.z162|exact T.z111|exact T.z136|exact T.z166|exact T.z168);(apply One.sl;exact knA);exact seA;omega)|(apply LO.storeAz;exact rfl;exact rfl;exact t4A;exact hmA;exact seA)|fail);constructor;exact ltA)
  |fail)
 exact Bx.h h):G:=s ⟨h⟩
theorem goEG {G G':Prop} (h:G') (s:Bx G'→G:=by
 intro h
 (first
  |(apply WL.kl_alloc;rotate_left;exact rfl;exact rfl;apply LO.alloc';(first|fail|fail))
  |(apply WD.kl_alloc;exact rfl;rotate_left;exact rfl;exact rfl;apply LO.alloc';(first|fail|fail);apply allAnd;(intro _;exact ltA))
  |(apply LO.alloc';(first|fail|fail);apply allAnd;(intro _;exact ltA))
  |fail)
 exact Bx.h h):G:=s ⟨h⟩
theorem goEV {G G':Prop} (h:G') (s:Bx G'→G:=by
 intro h
 (first
  |(apply WL.kl_app;rotate_left;exact rfl;exact rfl;(first|(apply LO.appMk2;exact rfl;exact rfl;(intro _;exact seA);omega;omega;omega)|fail))
  |(apply WD.kl_app;exact rfl;rotate_left;exact rfl;exact rfl;(first|(apply LO.appMk2;exact rfl;exact rfl;(intro _;exact seA);omega;omega;omega)|fail);apply allAnd;(intro _;exact ltA))
  |((first|(apply LO.appMk2;exact rfl;exact rfl;(intro _;exact seA);omega;omega;omega)|fail);apply allAnd;(intro _;exact ltA))
  |(apply WL.kl_bs;rotate_left;exact rfl;exact rfl;(apply LO.bsA6;exact rfl;exact rfl;exact rfl;exact rfl;exact rfl;exact rfl;exact hmA;exact hmA;exact hmA;exact hmA;exact hmA;exact hmA))
  |(apply WD.kl_bs;exact rfl;rotate_left;exact rfl;exact rfl;(apply LO.bsA6;exact rfl;exact rfl;exact rfl;exact rfl;exact rfl;exact rfl;exact hmA;exact hmA;exact hmA;exact hmA;exact hmA;exact hmA);apply allAnd;(intro _;exact ltA))
  |((apply LO.bsA6;exact rfl;exact rfl;exact rfl;exact rfl;exact rfl;exact rfl;exact hmA;exact hmA;exact hmA;exact hmA;exact hmA;exact hmA);apply allAnd;(intro _;exact ltA))
  |(apply WL.kl_bs;rotate_left;exact rfl;exact rfl;(apply LO.bsA3;exact rfl;exact rfl;exact rfl;exact hmA;exact hmA;exact hmA))
  |(apply WD.kl_bs;exact rfl;rotate_left;exact rfl;exact rfl;(apply LO.bsA3;exact rfl;exact rfl;exact rfl;exact hmA;exact hmA;exact hmA);apply allAnd;(intro _;exact ltA))
  |((apply LO.bsA3;exact rfl;exact rfl;exact rfl;exact hmA;exact hmA;exact hmA);apply allAnd;(intro _;exact ltA))
  |fail)
 exact Bx.h h):G:=s ⟨h⟩
end U.V.B
end Go.Proofs.YtaongbhamadlkaaGreat
