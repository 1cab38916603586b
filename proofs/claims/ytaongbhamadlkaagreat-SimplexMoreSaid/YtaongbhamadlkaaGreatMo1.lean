/- The law SimplexMore returns true for every input and leaves its arguments as they were. Conditions: none. -/
import Derived.Test.YtaongbhamadlkaaGreatBs11
import Derived.Test.YtaongbhamadlkaaGreatBs12
import Derived.Test.YtaongbhamadlkaaGreatBs14
import Derived.SizedLaws
import Derived.Test.YtaongbhamadlkaaGreatBs13
set_option linter.unusedVariables false
set_option linter.unusedSimpArgs false
set_option linter.unusedSectionVars false
namespace Go.Proofs.YtaongbhamadlkaaGreat
open W Go.RowKit
section
variable {P:Program} {e:Env} {bx:List Ow} {F:List Fct} {ty t:TypeId} {x:Operand} {v:Value} {i n:Nat} {A:Nat→AR}
theorem YO.ldAk (hs:Scalar P t) (hx:ev e x=some (.pointer (some (eaddr v (i*7+0))))) (h:Has F (fAs v n A)) (hi:i < n):YO P (.load t x) ty e bx F (.int .i64 (A i).k):=by
 have:=YO.ldS (ty:=ty) (bx:=bx) hs hx h.asl (by omega)
 rwa [acell_at _ _ (by omega)] at this
theorem YO.ldAz (hs:Row P t 4) (hx:ev e x=some (.pointer (some (eaddr v (i*7+3))))) (h:Has F (fAs v n A)) (hi:i < n):YO P (.load t x) ty e bx F (qv (A i).M.mz):=
 YO.ldRS (us:=qcs (A i).M.mz) hs hx h.asl (by omega) rfl fun k hk=>by
  rw[Nat.add_assoc,acell_at _ _ (by omega)]
  match k,hk with|0,_=>rfl|1,_=>rfl|2,_=>rfl|3,_=>rfl
theorem YO.fld {t:TypeId} {i:Nat} {x:Operand} {u v:Value} (hx:ev e x=some u) (hr:∀ w,(Instr.field t u i).run P w=.ok v w):YO P (.field t x i) ty e bx F v:=
 .of fun n fr a w o hop hk _=>by simp[execOp,hop,hk.eval hx,hr]
theorem YO.fldPL {i:Int} {lv gv:Value} (hx:ev e x=some (.agg #[.int .i64 i,lv,gv])):YO Tryz.prog (.field 26 x 1) ty e bx F lv:=YO.fld hx fun w=>by kernel_rfl
theorem YO.fldPG {i:Int} {lv gv:Value} (hx:ev e x=some (.agg #[.int .i64 i,lv,gv])):YO Tryz.prog (.field 26 x 2) ty e bx F gv:=YO.fld hx fun w=>by kernel_rfl
end
end Go.Proofs.YtaongbhamadlkaaGreat
namespace Go.Proofs.YtaongbhamadlkaaGreat
open W Go.RowKit
attribute [local irreducible] WC WL WD YO LO LoopEnd W.Fin Scalar SliceT FieldAt Row ArrT AllocT KnS Has W.One SrcE IntT
namespace U.V
set_option maxRecDepth 60000
theorem goE {G G':Prop} (h:G') (s:Bx G'→G:=by
 intro h
 (first
  |(apply WL.k_build;(first|exact YO.buildRT0|(apply YO.buildAk;exact rfl));exact rfl;exact rfl)
  |(apply WL.k_load;(first|(apply YO.ldAs;(first|exact T.r26|exact T.r29|exact T.r31|exact T.r33|exact T.r60|exact T.r77|exact T.r88|exact T.r107|exact T.r123|exact T.r134);exact rfl;exact hmA;omega)|(apply YO.ldAk;(first|exact T.sc3|exact T.sc4|exact T.sc22|exact T.sc23|exact T.sc24|exact T.sc34|exact T.sc48|exact T.sc72|exact T.sc84|exact T.sc86|exact T.sc103|exact T.sc129|exact T.sc131|exact T.sc162);exact rfl;exact hmA;omega)|(apply YO.ldAz;(first|exact T.r26|exact T.r29|exact T.r31|exact T.r33|exact T.r60|exact T.r77|exact T.r88|exact T.r107|exact T.r123|exact T.r134);exact rfl;exact hmA;omega));exact rfl;exact rfl)
  |(apply WL.k_field;(first|(apply YO.fldPL;exact rfl)|(apply YO.fldPG;exact rfl));exact rfl;exact rfl)
  |(apply WL.kl_store;rotate_left;exact rfl;(first|(apply LO.storeOV;exact rfl;exact rfl;(first|exact T.z3|exact T.z4|exact T.z22|exact T.z23|exact T.z24|exact T.z34|exact T.z48|exact T.z72|exact T.z84|exact T.z86|exact T.z103|exact T.z129|exact T.z131|exact T.z162);(apply One.sl;exact knA);exact seA;omega)|(apply LO.storeAz;exact rfl;exact rfl;(first|exact T.r26|exact T.r29|exact T.r31|exact T.r33|exact T.r60|exact T.r77|exact T.r88|exact T.r107|exact T.r123|exact T.r134);exact hmA;exact seA)|fail))
  |(apply WD.k_build;exact rfl;(first|exact YO.buildRT0|(apply YO.buildAk;exact rfl));exact rfl;exact rfl)
  |(apply WD.k_load;exact rfl;(first|(apply YO.ldAs;(first|exact T.r26|exact T.r29|exact T.r31|exact T.r33|exact T.r60|exact T.r77|exact T.r88|exact T.r107|exact T.r123|exact T.r134);exact rfl;exact hmA;omega)|(apply YO.ldAk;(first|exact T.sc3|exact T.sc4|exact T.sc22|exact T.sc23|exact T.sc24|exact T.sc34|exact T.sc48|exact T.sc72|exact T.sc84|exact T.sc86|exact T.sc103|exact T.sc129|exact T.sc131|exact T.sc162);exact rfl;exact hmA;omega)|(apply YO.ldAz;(first|exact T.r26|exact T.r29|exact T.r31|exact T.r33|exact T.r60|exact T.r77|exact T.r88|exact T.r107|exact T.r123|exact T.r134);exact rfl;exact hmA;omega));exact rfl;exact rfl)
  |(apply WD.k_field;exact rfl;(first|(apply YO.fldPL;exact rfl)|(apply YO.fldPG;exact rfl));exact rfl;exact rfl)
  |(apply WD.kl_store;exact rfl;rotate_left;exact rfl;(first|(apply LO.storeOV;exact rfl;exact rfl;(first|exact T.z3|exact T.z4|exact T.z22|exact T.z23|exact T.z24|exact T.z34|exact T.z48|exact T.z72|exact T.z84|exact T.z86|exact T.z103|exact T.z129|exact T.z131|exact T.z162);(apply One.sl;exact knA);exact seA;omega)|(apply LO.storeAz;exact rfl;exact rfl;(first|exact T.r26|exact T.r29|exact T.r31|exact T.r33|exact T.r60|exact T.r77|exact T.r88|exact T.r107|exact T.r123|exact T.r134);exact hmA;exact seA)|fail);constructor;(first|(focus(apply Or.inr;constructor;(repeat(first|exact List.Sublist.refl _|exact List.nil_sublist _|apply List.Sublist.cons_cons|apply List.Sublist.cons));(first|exact fun _ h=>h|(intro f hf;(repeat(first|exact hf|apply List.Mem.tail))));done))|(apply Or.inl;kernel_rfl)))
  |((first|(apply LO.storeOV;exact rfl;exact rfl;(first|exact T.z3|exact T.z4|exact T.z22|exact T.z23|exact T.z24|exact T.z34|exact T.z48|exact T.z72|exact T.z84|exact T.z86|exact T.z103|exact T.z129|exact T.z131|exact T.z162);(apply One.sl;exact knA);exact seA;omega)|(apply LO.storeAz;exact rfl;exact rfl;(first|exact T.r26|exact T.r29|exact T.r31|exact T.r33|exact T.r60|exact T.r77|exact T.r88|exact T.r107|exact T.r123|exact T.r134);exact hmA;exact seA)|fail);constructor;(first|(focus(apply Or.inr;constructor;(repeat(first|exact List.Sublist.refl _|exact List.nil_sublist _|apply List.Sublist.cons_cons|apply List.Sublist.cons));(first|exact fun _ h=>h|(intro f hf;(repeat(first|exact hf|apply List.Mem.tail))));done))|(apply Or.inl;kernel_rfl)))
  |fail)
 exact Bx.h h):G:=s ⟨h⟩
theorem goEG {G G':Prop} (h:G') (s:Bx G'→G:=by
 intro h
 (first
  |(apply WL.kl_alloc;rotate_left;exact rfl;exact rfl;apply LO.alloc';(first|fail|fail))
  |(apply WD.kl_alloc;exact rfl;rotate_left;exact rfl;exact rfl;apply LO.alloc';(first|fail|fail);apply allAnd;(intro _;(first|(focus(apply Or.inr;constructor;(repeat(first|exact List.Sublist.refl _|exact List.nil_sublist _|apply List.Sublist.cons_cons|apply List.Sublist.cons));(first|exact fun _ h=>h|(intro f hf;(repeat(first|exact hf|apply List.Mem.tail))));done))|(apply Or.inl;kernel_rfl))))
  |(apply LO.alloc';(first|fail|fail);apply allAnd;(intro _;(first|(focus(apply Or.inr;constructor;(repeat(first|exact List.Sublist.refl _|exact List.nil_sublist _|apply List.Sublist.cons_cons|apply List.Sublist.cons));(first|exact fun _ h=>h|(intro f hf;(repeat(first|exact hf|apply List.Mem.tail))));done))|(apply Or.inl;kernel_rfl))))
  |fail)
 exact Bx.h h):G:=s ⟨h⟩
theorem goEV {G G':Prop} (h:G') (s:Bx G'→G:=by
 intro h
 (first
  |(apply WL.kl_app;rotate_left;exact rfl;exact rfl;(first|(apply LO.appMk2;exact rfl;exact rfl;(intro _;exact seA);omega;omega;omega)|fail))
  |(apply WD.kl_app;exact rfl;rotate_left;exact rfl;exact rfl;(first|(apply LO.appMk2;exact rfl;exact rfl;(intro _;exact seA);omega;omega;omega)|fail);apply allAnd;(intro _;(first|(focus(apply Or.inr;constructor;(repeat(first|exact List.Sublist.refl _|exact List.nil_sublist _|apply List.Sublist.cons_cons|apply List.Sublist.cons));(first|exact fun _ h=>h|(intro f hf;(repeat(first|exact hf|apply List.Mem.tail))));done))|(apply Or.inl;kernel_rfl))))
  |((first|(apply LO.appMk2;exact rfl;exact rfl;(intro _;exact seA);omega;omega;omega)|fail);apply allAnd;(intro _;(first|(focus(apply Or.inr;constructor;(repeat(first|exact List.Sublist.refl _|exact List.nil_sublist _|apply List.Sublist.cons_cons|apply List.Sublist.cons));(first|exact fun _ h=>h|(intro f hf;(repeat(first|exact hf|apply List.Mem.tail))));done))|(apply Or.inl;kernel_rfl))))
  |(apply WL.kl_bs;rotate_left;exact rfl;exact rfl;(apply LO.bsA6;exact rfl;exact rfl;exact rfl;exact rfl;exact rfl;exact rfl;exact hmA;exact hmA;exact hmA;exact hmA;exact hmA;exact hmA))
  |(apply WD.kl_bs;exact rfl;rotate_left;exact rfl;exact rfl;(apply LO.bsA6;exact rfl;exact rfl;exact rfl;exact rfl;exact rfl;exact rfl;exact hmA;exact hmA;exact hmA;exact hmA;exact hmA;exact hmA);apply allAnd;(intro _;(first|(focus(apply Or.inr;constructor;(repeat(first|exact List.Sublist.refl _|exact List.nil_sublist _|apply List.Sublist.cons_cons|apply List.Sublist.cons));(first|exact fun _ h=>h|(intro f hf;(repeat(first|exact hf|apply List.Mem.tail))));done))|(apply Or.inl;kernel_rfl))))
  |((apply LO.bsA6;exact rfl;exact rfl;exact rfl;exact rfl;exact rfl;exact rfl;exact hmA;exact hmA;exact hmA;exact hmA;exact hmA;exact hmA);apply allAnd;(intro _;(first|(focus(apply Or.inr;constructor;(repeat(first|exact List.Sublist.refl _|exact List.nil_sublist _|apply List.Sublist.cons_cons|apply List.Sublist.cons));(first|exact fun _ h=>h|(intro f hf;(repeat(first|exact hf|apply List.Mem.tail))));done))|(apply Or.inl;kernel_rfl))))
  |(apply WL.kl_bs;rotate_left;exact rfl;exact rfl;(apply LO.bsA3;exact rfl;exact rfl;exact rfl;exact hmA;exact hmA;exact hmA))
  |(apply WD.kl_bs;exact rfl;rotate_left;exact rfl;exact rfl;(apply LO.bsA3;exact rfl;exact rfl;exact rfl;exact hmA;exact hmA;exact hmA);apply allAnd;(intro _;(first|(focus(apply Or.inr;constructor;(repeat(first|exact List.Sublist.refl _|exact List.nil_sublist _|apply List.Sublist.cons_cons|apply List.Sublist.cons));(first|exact fun _ h=>h|(intro f hf;(repeat(first|exact hf|apply List.Mem.tail))));done))|(apply Or.inl;kernel_rfl))))
  |((apply LO.bsA3;exact rfl;exact rfl;exact rfl;exact hmA;exact hmA;exact hmA);apply allAnd;(intro _;(first|(focus(apply Or.inr;constructor;(repeat(first|exact List.Sublist.refl _|exact List.nil_sublist _|apply List.Sublist.cons_cons|apply List.Sublist.cons));(first|exact fun _ h=>h|(intro f hf;(repeat(first|exact hf|apply List.Mem.tail))));done))|(apply Or.inl;kernel_rfl))))
  |fail)
 exact Bx.h h):G:=s ⟨h⟩
end U.V
end Go.Proofs.YtaongbhamadlkaaGreat
namespace Go.Proofs.YtaongbhamadlkaaGreat
open W Go.RowKit
section
variable {v:Nat} {L L2:List X.Ln} {g x y:Nat→Rat} {z z':Rat} {k':Int}
theorem pt_app:X.IsPt (X.lpOf v (L++L2) g) x↔X.IsPt (X.lpOf v L g) x∧∀ i,i < L2.length→(X.sm v fun k=>X.ca L2 i k*x k)≤X.cb L2 i:=by
 constructor
 ·intro h
  refine⟨fun r hr=>?_,fun i hi=>?_⟩
  ·have h1:=h r (by show r < (L++L2).length;rw[List.length_append];have:r < L.length:=hr;omega)
   change (X.sm v fun k=>X.ca (L++L2) r k*x k)≤X.cb (L++L2) r at h1
   rw[ca_app hr,cb_app hr] at h1
   exact h1
  ·have h1:=h (L.length+i) (by show _ < (L++L2).length;rw[List.length_append];omega)
   change (X.sm v fun k=>X.ca (L++L2) (L.length+i) k*x k)≤X.cb (L++L2) (L.length+i) at h1
   rw[ca_app2 (by omega),cb_app2 (by omega),show L.length+i - L.length=i by omega] at h1
   exact h1
 ·rintro⟨h1,h2⟩ r hr
  change r < (L++L2).length at hr
  rw[List.length_append] at hr
  change (X.sm v fun k=>X.ca (L++L2) r k*x k)≤X.cb (L++L2) r
  by_cases c:r < L.length
  ·rw[ca_app c,cb_app c];exact h1 r c
  ·rw[ca_app2 c,cb_app2 c];exact h2 _ (by omega)
theorem more_inf (h:X.Sem (X.lpOf v L g) 1 z) (h2:X.Sem (X.lpOf v (L++L2) g) k' z'):k'=1:=by
 have hn:=h.one.1 rfl
 exact h2.one.2 fun ⟨x,hx⟩=>hn ⟨x,(pt_app.1 hx).1⟩
theorem more_unb (h:X.Sem (X.lpOf v L g) 0 z) (h2:X.Sem (X.lpOf v (L++L2) g) 2 z'):False:=by
 rcases h with ⟨h,_⟩|⟨_,_,h3⟩|⟨h,_⟩
 ·cases h
 ·rcases h2 with ⟨h,_⟩|⟨h,_⟩|⟨_,_,h4⟩
  ·cases h
  ·cases h
  ·obtain⟨x,h5,h6⟩:=h4 (z+1)
   have h7:=h3 x (pt_app.1 h5).1
   change z+1≤X.at_ v g x at h6
   change X.at_ v g x≤z at h7
   grind
 ·cases h
theorem more_le (h:X.Sem (X.lpOf v L g) 0 z) (h2:X.Sem (X.lpOf v (L++L2) g) 0 z'):z'≤z:=by
 rcases h with ⟨h,_⟩|⟨_,_,h3⟩|⟨h,_⟩
 ·cases h
 ·rcases h2 with ⟨h,_⟩|⟨_,⟨x,h4,h5⟩,_⟩|⟨h,_⟩
  ·cases h
  ·rw[←h5];exact h3 x (pt_app.1 h4).1
  ·cases h
 ·cases h
theorem more_still (h:X.IsOpt (X.lpOf v L g) x y z) (hs:∀ i,i < L2.length→(X.sm v fun k=>X.ca L2 i k*x k)≤X.cb L2 i):X.Sem (X.lpOf v (L++L2) g) 0 z:=
 .inr (.inl ⟨rfl,⟨x,pt_app.2 ⟨h.1,hs⟩,h.2.2.2.2⟩,fun x' hx'=>X.opt_max (p:=X.lpOf v L g) h (pt_app.1 hx').1⟩)
end
def stillP (v:Nat) (L2:List X.Ln) (x:Nat→Rat) (i:Nat):Bool:=(List.range i).all fun j=>decide ((X.sm v fun k=>X.ca L2 j k*x k)≤X.cb L2 j)
theorem stillP_up {v:Nat} {L2:List X.Ln} {x:Nat→Rat} {i:Nat}:stillP v L2 x (i+1)=(stillP v L2 x i && decide ((X.sm v fun k=>X.ca L2 i k*x k)≤X.cb L2 i)):=by
 unfold stillP
 rw[List.range_succ,List.all_append]
 simp
theorem stillP_all {v:Nat} {L2:List X.Ln} {x:Nat→Rat} {n:Nat} (h:stillP v L2 x n=true):∀ i,i < n→(X.sm v fun k=>X.ca L2 i k*x k)≤X.cb L2 i:=fun i hi=>
 of_decide_eq_true (List.all_eq_true.1 h i (List.mem_range.2 hi))
theorem cmp_le {a b:Rat}:cmpQ a b≤0↔a≤b:=by
 have:=@cmpQ_gt a b
 constructor
 ·intro h
  have:¬b < a:=fun h'=>by have:=cmpQ_gt.2 h';omega
  grind
 ·intro h
  have:¬0 < cmpQ a b:=fun h'=>by have:=cmpQ_gt.1 h';grind
  omega
theorem someV_cons (l ml:List Int):someV (atP l 0 3::ml)=someV l:=by
 have h:=@atP_lt l 0 3 (by decide)
 have e:atP (atP l 0 3::ml) 0 3=atP l 0 3:=by
  generalize atP l 0 3=a at *
  unfold atP
  rw[if_neg (by simp only[List.length_cons];omega)]
  show around a 3=a
  unfold around
  have h4:a=0∨a=1∨a=2:=by omega
  rcases h4 with rfl|rfl|rfl <;> decide
 unfold someV
 rw[e]
theorem I64_cons {a:Int} {ml:List Int} (h:0≤a∧a < 3) (hm:∀ x∈ml,I64 x):∀ x∈a::ml,I64 x:=fun x hx=>by
 rcases List.mem_cons.1 hx with rfl|hx
 ·unfold I64;omega
 ·exact hm x hx
theorem moreFits (l:List Int):Fits (someV l) 8 1:=v3 (P:=fun v=>Fits v 8 1) (someV_le l) ⟨by decide +kernel,by decide +kernel,by decide,by decide,by decide⟩ ⟨by decide +kernel,by decide +kernel,by decide,by decide,by decide⟩ ⟨by decide +kernel,by decide +kernel,by decide,by decide,by decide⟩
end Go.Proofs.YtaongbhamadlkaaGreat
namespace Go.Proofs.YtaongbhamadlkaaGreat
open W Go.RowKit
namespace U.V
open Z
attribute [local irreducible] WC WL WD YO LO LoopEnd W.Fin Scalar SliceT FieldAt Row ArrT AllocT KnS Has W.One SrcE IntT
theorem d8 {G G':Prop} (h:G') (s:Bx G'→G:=by
 intro h
 first|(apply WC.draw (id:=15) [0,1,2,3,4,5,6,7,8,10,11,12,13,14,16,17,18] (.held 0 (.held 1 (.held 2 (.held 3 (.held 4 (.held 5 (.held 6 (.held 7 (.held 8 (.held 10 (.held 11 (.held 12 (.held 13 (.held 14 (.loud 9 (.loud 15 (.held 16 (.held 17 (.held 18 (.done)))))))))))))))))))) mixed (by kernel_rfl))|fail
 exact Bx.h h):G:=s ⟨h⟩
set_option maxHeartbeats 16000000 in
set_option maxRecDepth 60000 in
theorem moreLaw_h (hlv:FnB Tryz.prog 18 [] [] [] (IsV (.bool true))) (v0 v1:Value) (l ml:List Int) (hl:∀ x∈l,I64 x) (hml:∀ x∈ml,I64 x) (hlen:ml.length≤17592186043904) :
  FnB Tryz.prog 8 [v0,v1] [] [sI v0 l,sI v1 ml] (IsV (.bool true)):=by
 refine fn_of [(0,v0),(1,v1)] 123 Tryz.func8 rfl Tryz.ntmps8 (by kernel_rfl) rfl suA fun h0=>?_
 have hV:=someV_le l
 have hF:=someFits l
 have hF2:=moreFits l
 have hS:=someL_sq l 6
 have hLn:=someL_len l 6
 have hG:=fun k (_:k < someV l)=>someG_sq l k
 have hR:=szR_1 (someV l) 6 1
 have hdv:=someDok l
 have ha3:=@atP_lt l 0 3 (by decide)
 have hS2:=someL_sq (atP l 0 3::ml) 2
 have hLn2:=someL_len (atP l 0 3::ml) 2
 repeat'(first|refine gA ?_|(refine goG ?_;intro g)|(refine goV ?_;intro v)|refine goE ?_|(refine goEG ?_;intro g)|(refine goEV ?_;intro v)|refine goD ?_|refine goXD ?_|(refine goDG ?_;intro g)|(refine goDV ?_;intro v)|refine d8 ?_|fail)
 refine WL.callK (some_c v0 l 6 hl (by decide)) ?_
 rintro _ _ _ ⟨M,rfl,rfl,rfl⟩
 simp only[List.nil_append,List.cons_append]
 rw[show(someP l 6).v=someV l from rfl,show someP l 6=X.lpOf (someV l) (someL l 6) (someG l) from rfl]
 refine WL.fact' (fF M.gv (someV l) M.mg (someG l)) (W.Has.pG (L:=someL l 6) hmA) ?_
 refine WL.fact' (fLn M (someV l) (someL l 6)) (W.Has.pL (g:=someG l) hmA) ?_
 repeat'(first|refine gA ?_|(refine goG ?_;intro g)|(refine goV ?_;intro v)|refine goE ?_|(refine goEG ?_;intro g)|(refine goEV ?_;intro v)|refine goD ?_|refine goXD ?_|(refine goDG ?_;intro g)|(refine goDV ?_;intro v)|refine d8 ?_|fail)
 revert g;intro gp
 first|refine WL.callV (at_c v0 l (0:Int) 3 hl (by decide)) ?_|refine WD.callV (at_c v0 l (0:Int) 3 hl (by decide)) ?_
 repeat'(first|refine gA ?_|(refine goG ?_;intro g)|(refine goV ?_;intro v)|refine goE ?_|(refine goEG ?_;intro g)|(refine goEV ?_;intro v)|refine goD ?_|refine goXD ?_|(refine goDG ?_;intro g)|(refine goDV ?_;intro v)|refine d8 ?_|fail)
 refine WL.freezeI (l:=atP l 0 3::ml) (v:=v) (el:=3) (by repeat(first|exact Sel.head|apply Sel.tail)) ?_
 refine WL.callK (some_c v (atP l 0 3::ml) 2 (I64_cons ha3 hml) (by decide)) ?_
 rintro _ _ _ ⟨N,rfl,rfl,rfl⟩
 simp only[List.nil_append,List.cons_append]
 rw[show(someP (atP l 0 3::ml) 2).v=someV (atP l 0 3::ml) from rfl,show someP (atP l 0 3::ml) 2=X.lpOf (someV (atP l 0 3::ml)) (someL (atP l 0 3::ml) 2) (someG (atP l 0 3::ml)) from rfl]
 rw[someV_cons] at hS2 ⊢
 refine WL.fact' (fLn N (someV l) (someL (atP l 0 3::ml) 2)) (W.Has.pL (g:=someG (atP l 0 3::ml)) hmA) ?_
 generalize someL (atP l 0 3::ml) 2=L2 at *
 generalize someL l 6=L at *
 generalize someG l=gf at *
 generalize someV l=vn at *
 repeat'(first|refine gA ?_|(refine goG ?_;intro g)|(refine goV ?_;intro v)|refine goE ?_|(refine goEG ?_;intro g)|(refine goEV ?_;intro v)|refine goD ?_|refine goXD ?_|(refine goDG ?_;intro g)|(refine goDV ?_;intro v)|refine d8 ?_|fail)
 refine WL.callK (solveL_c M hF hS hLn hG) ?_
 rintro _ _ _ ⟨A,k,xn,yn,x,y,z,rfl,rfl,rfl,hA,hx,hy,hz⟩
 simp only[List.nil_append,List.cons_append]
 refine WL.fact' (fF A.xv xn A.mx x) (W.Has.ax (M:=A) (xn:=xn) (yn:=yn) (x:=x) (y:=y) (z:=z) hmA) ?_
 refine WL.fact' (fF A.yv yn A.my y) (W.Has.ay (M:=A) (xn:=xn) (yn:=yn) (x:=x) (y:=y) (z:=z) hmA) ?_
 refine WL.fact' (isQ (qv A.mz) z) (W.Has.az (M:=A) (xn:=xn) (yn:=yn) (x:=x) (y:=y) (z:=z) hmA) ?_
 repeat'(first|refine gA ?_|(refine goG ?_;intro g)|(refine goV ?_;intro v)|refine goE ?_|(refine goEG ?_;intro g)|(refine goEV ?_;intro v)|refine goD ?_|refine goXD ?_|(refine goDG ?_;intro g)|(refine goDV ?_;intro v)|refine d8 ?_|fail)
 rename_i ga _ _
 revert g;intro gq
 revert v;intro lw
 have hmor:LSq 1 vn (L++L2):=fun c hc=>(List.mem_append.1 hc).elim (hS c) (hS2 c)
 have hml8:(L++L2).length≤8:=by rw[List.length_append];omega
 rw[←List.length_append]
 refine WL.fact' (lnQ (M.cat L.length N) vn (L++L2)) (W.Has.lncat (W.Has.lnq (M:=M) hmA) (W.Has.lnq (M:=N) hmA)) ?_
 refine WL.freezeLn lw (M.cat L.length N) vn (L++L2) (by repeat(first|exact Sel.head|apply Sel.tail)) hmA ?_
 refine WL.fact' (fP (((M.cat L.length N).wg M.gv M.mg).at lw) (X.lpOf vn (L++L2) gf)) (W.Has.lnp hmA (show Has _ (fF M.gv vn M.mg gf) from hmA)) ?_
 refine WL.callK (solveL_c (((M.cat L.length N).wg M.gv M.mg).at lw) hF2 hmor hml8 hG) ?_
 rintro _ _ _ ⟨B,kb,un,wn,u,w,t,rfl,rfl,rfl,hB,hu,hw,ht⟩
 simp only[List.nil_append,List.cons_append]
 refine WL.fact' (fF B.xv un B.mx u) (W.Has.ax (M:=B) (xn:=un) (yn:=wn) (x:=u) (y:=w) (z:=t) hmA) ?_
 refine WL.fact' (fF B.yv wn B.my w) (W.Has.ay (M:=B) (xn:=un) (yn:=wn) (x:=u) (y:=w) (z:=t) hmA) ?_
 refine WL.fact' (isQ (qv B.mz) t) (W.Has.az (M:=B) (xn:=un) (yn:=wn) (x:=u) (y:=w) (z:=t) hmA) ?_
 have hdq:szR vn 8 1≤400000000:=v3 (P:=fun v=>szR v 8 1≤400000000) hV (by decide +kernel) (by decide +kernel) (by decide +kernel)
 have hsA:=hA.sem
 have hsB:=hB.sem
 by_cases c1:k=1
 ·subst c1
  have hkb:(kb:Int)=1:=more_inf hsA hsB
  obtain rfl:kb=1:=by omega
  repeat'(first|refine gA ?_|(refine goG ?_;intro g)|(refine goV ?_;intro v)|refine goE ?_|(refine goEG ?_;intro g)|(refine goEV ?_;intro v)|refine goD ?_|refine goXD ?_|(refine goDG ?_;intro g)|(refine goDV ?_;intro v)|refine d8 ?_|fail)
  first|refine WL.callV (hlv) ?_|refine WD.callV (hlv) ?_
  repeat'(first|refine gA ?_|(refine goG ?_;intro g)|(refine goV ?_;intro v)|refine goE ?_|(refine goEG ?_;intro g)|(refine goEV ?_;intro v)|refine goD ?_|refine goXD ?_|(refine goDG ?_;intro g)|(refine goDV ?_;intro v)|refine d8 ?_|fail)
  exact WC.ret (Fin.v (ResE.t1 rfl rfl) meA rfl)
 have c1':(k:Int)≠1:=by omega
 by_cases c0:k=0
 case' neg=>
  have c0':(k:Int)≠0:=by omega
  repeat'(first|refine gA ?_|(refine goG ?_;intro g)|(refine goV ?_;intro v)|refine goE ?_|(refine goEG ?_;intro g)|(refine goEV ?_;intro v)|refine goD ?_|refine goXD ?_|(refine goDG ?_;intro g)|(refine goDV ?_;intro v)|refine d8 ?_|fail)
  first|refine WL.callV (hlv) ?_|refine WD.callV (hlv) ?_
  repeat'(first|refine gA ?_|(refine goG ?_;intro g)|(refine goV ?_;intro v)|refine goE ?_|(refine goEG ?_;intro g)|(refine goEV ?_;intro v)|refine goD ?_|refine goXD ?_|(refine goDG ?_;intro g)|(refine goDV ?_;intro v)|refine d8 ?_|fail)
  exact WC.ret (Fin.v (ResE.t1 rfl rfl) meA rfl)
 subst c0
 have hk2:(kb:Int)≠2:=fun h=>by rw[h] at hsB;exact more_unb hsA hsB
 obtain⟨rfl,rfl,hopt⟩:xn=vn∧yn=L.length∧X.IsOpt (X.lpOf vn L gf) x y z:=by
  rcases hA with ⟨h,_⟩|⟨_,h1,h2,h3⟩|⟨h,_⟩
  ·omega
  ·exact⟨h1,h2,h3⟩
  ·omega
 repeat'(first|refine gA ?_|(refine goG ?_;intro g)|(refine goV ?_;intro v)|refine goE ?_|(refine goEG ?_;intro g)|(refine goEV ?_;intro v)|refine goD ?_|refine goXD ?_|(refine goDG ?_;intro g)|(refine goDV ?_;intro v)|refine d8 ?_|fail)
 revert g;intro gd
 refine WC.lp (σ:=Nat) (fun i=>[(13,.int .i64 (i:Int)),(12,.bool (stillP xn L2 x i)),(10,ptr gd),(7,ptr ga),(6,N.lv)])
  (fun _=>[Ow.cells gd 33 (acs B kb),Ow.cells ga 33 (acs A (0:Nat))])
  (fun _=>[isQ (qv B.mz) t,isQ (qv A.mz) z,fF A.xv xn A.mx x,fA A xn L.length x y z,fLn N xn L2,ge h0]) (fun i=>i≤L2.length) (fun i=>L2.length - i) 0 (Nat.zero_le _) ?_
 intro i hi
 by_cases c:i < L2.length
 ·refine WC.fact (fF (N.av i) xn (N.ma i) (X.ca L2 i)) (W.Has.lna (W.Has.lnq (M:=N) hmA) c) ?_
  refine WC.fact (isQ (qv (N.mb i)) (X.cb L2 i)) (W.Has.lnb (W.Has.lnq (M:=N) hmA) c) ?_
  have hdot:FnB Tryz.prog 27 [N.av i,A.xv] [] [fF (N.av i) xn (N.ma i) (X.ca L2 i),fF A.xv xn A.mx x] (IsR (X.sm xn fun k=>X.ca L2 i k*x k)):=
   Z.dot_c (N.av i) A.xv xn (szR xn 6 1) (N.ma i) A.mx (X.ca L2 i) x (by omega) hdv (fun k hk=>(hS2.ca c hk).up hR) hx
  have hsm:Sm (X.sm xn fun k=>X.ca L2 i k*x k):=dot_sm hdv (fun k hk=>(hS2.ca c hk).up hR) hx
  have hcmp:=fun m=>Zn.cmp m (N.mb i) (X.sm xn fun k=>X.ca L2 i k*x k) (X.cb L2 i) hsm ((hS2.cb c).sm (by decide))
  have hup:=stillP_up (v:=xn) (L2:=L2) (x:=x) (i:=i)
  generalize hst:stillP xn L2 x i=st at *
  cases st with
  |false=>
   rw[Bool.false_and] at hup
   repeat'(first|refine gA ?_|(refine goG ?_;intro g)|(refine goV ?_;intro v)|refine goE ?_|(refine goEG ?_;intro g)|(refine goEV ?_;intro v)|refine goD ?_|refine goXD ?_|(refine goDG ?_;intro g)|(refine goDV ?_;intro v)|refine d8 ?_|fail)
   exact LoopEnd.mk (i+1) c (by show L2.length - (i+1) < L2.length - i;omega) (hE:=by simp only[hup];exact suA)
  |true=>
   rw[Bool.true_and] at hup
   repeat'(first|refine gA ?_|(refine goG ?_;intro g)|(refine goV ?_;intro v)|refine goE ?_|(refine goEG ?_;intro g)|(refine goEV ?_;intro v)|refine goD ?_|refine goXD ?_|(refine goDG ?_;intro g)|(refine goDV ?_;intro v)|refine d8 ?_|fail)
   first|refine WL.callK (hdot) ?_|refine WD.callK (hdot) ?_|refine LO.callM (hdot) ?_
   rintro _ _ _ ⟨m1,rfl,rfl,rfl⟩
   simp only[List.nil_append,List.cons_append]
   repeat'(first|refine gA ?_|(refine goG ?_;intro g)|(refine goV ?_;intro v)|refine goE ?_|(refine goEG ?_;intro g)|(refine goEV ?_;intro v)|refine goD ?_|refine goXD ?_|(refine goDG ?_;intro g)|(refine goDV ?_;intro v)|refine d8 ?_|fail)
   first|refine WL.callV (hcmp m1) ?_ (hF:=.cons (.f hmA) (.cons (.f hmA) .nil))|refine WD.callV (hcmp m1) ?_ (hF:=.cons (.f hmA) (.cons (.f hmA) .nil))
   by_cases cc:(X.sm xn fun k=>X.ca L2 i k*x k)≤X.cb L2 i
   ·have cc1:=cmp_le.2 cc
    rw[decide_eq_true cc] at hup
    repeat'(first|refine gA ?_|(refine goG ?_;intro g)|(refine goV ?_;intro v)|refine goE ?_|(refine goEG ?_;intro g)|(refine goEV ?_;intro v)|refine goD ?_|refine goXD ?_|(refine goDG ?_;intro g)|(refine goDV ?_;intro v)|refine d8 ?_|fail)
    exact LoopEnd.mk (i+1) c (by show L2.length - (i+1) < L2.length - i;omega) (hE:=by simp only[hup];exact suA)
   ·have cc1:¬cmpQ (X.sm xn fun k=>X.ca L2 i k*x k) (X.cb L2 i)≤0:=fun h=>cc (cmp_le.1 h)
    rw[decide_eq_false cc] at hup
    repeat'(first|refine gA ?_|(refine goG ?_;intro g)|(refine goV ?_;intro v)|refine goE ?_|(refine goEG ?_;intro g)|(refine goEV ?_;intro v)|refine goD ?_|refine goXD ?_|(refine goDG ?_;intro g)|(refine goDV ?_;intro v)|refine d8 ?_|fail)
    exact LoopEnd.mk (i+1) c (by show L2.length - (i+1) < L2.length - i;omega) (hE:=by simp only[hup];exact suA)
 obtain rfl:i=L2.length:=by omega
 generalize hst:stillP xn L2 x L2.length=st at *
 cases st with
 |true=>
  obtain⟨hk0,rfl⟩:=hsB.uniq (more_still hopt (stillP_all hst))
  obtain rfl:kb=0:=by omega
  have hsame:=Zn.same A.mz B.mz t t
  rw[decide_eq_true (rfl:t=t)] at hsame
  repeat'(first|refine gA ?_|(refine goG ?_;intro g)|(refine goV ?_;intro v)|refine goE ?_|(refine goEG ?_;intro g)|(refine goEV ?_;intro v)|refine goD ?_|refine goXD ?_|(refine goDG ?_;intro g)|(refine goDV ?_;intro v)|refine d8 ?_|fail)
  first|refine WL.callV (hsame) ?_ (hF:=.cons (.f hmA) (.cons (.f hmA) .nil))|refine WD.callV (hsame) ?_ (hF:=.cons (.f hmA) (.cons (.f hmA) .nil))
  repeat'(first|refine gA ?_|(refine goG ?_;intro g)|(refine goV ?_;intro v)|refine goE ?_|(refine goEG ?_;intro g)|(refine goEV ?_;intro v)|refine goD ?_|refine goXD ?_|(refine goDG ?_;intro g)|(refine goDV ?_;intro v)|refine d8 ?_|fail)
  first|refine WL.callV (hlv) ?_|refine WD.callV (hlv) ?_
  repeat'(first|refine gA ?_|(refine goG ?_;intro g)|(refine goV ?_;intro v)|refine goE ?_|(refine goEG ?_;intro g)|(refine goEV ?_;intro v)|refine goD ?_|refine goXD ?_|(refine goDG ?_;intro g)|(refine goDV ?_;intro v)|refine d8 ?_|fail)
  exact WC.ret (Fin.v (ResE.t1 rfl rfl) meA rfl)
 |false=>
  by_cases ck:kb=0
  ·subst ck
   have hle:=cmp_le.2 (more_le hsA hsB)
   have hcmp:=Zn.cmp B.mz A.mz t z (ht.sm hdq) (hz.sm hdv.k)
   repeat'(first|refine gA ?_|(refine goG ?_;intro g)|(refine goV ?_;intro v)|refine goE ?_|(refine goEG ?_;intro g)|(refine goEV ?_;intro v)|refine goD ?_|refine goXD ?_|(refine goDG ?_;intro g)|(refine goDV ?_;intro v)|refine d8 ?_|fail)
   first|refine WL.callV (hcmp) ?_ (hF:=.cons (.f hmA) (.cons (.f hmA) .nil))|refine WD.callV (hcmp) ?_ (hF:=.cons (.f hmA) (.cons (.f hmA) .nil))
   repeat'(first|refine gA ?_|(refine goG ?_;intro g)|(refine goV ?_;intro v)|refine goE ?_|(refine goEG ?_;intro g)|(refine goEV ?_;intro v)|refine goD ?_|refine goXD ?_|(refine goDG ?_;intro g)|(refine goDV ?_;intro v)|refine d8 ?_|fail)
   first|refine WL.callV (hlv) ?_|refine WD.callV (hlv) ?_
   repeat'(first|refine gA ?_|(refine goG ?_;intro g)|(refine goV ?_;intro v)|refine goE ?_|(refine goEG ?_;intro g)|(refine goEV ?_;intro v)|refine goD ?_|refine goXD ?_|(refine goDG ?_;intro g)|(refine goDV ?_;intro v)|refine d8 ?_|fail)
   exact WC.ret (Fin.v (ResE.t1 rfl rfl) meA rfl)
  ·have ck1:(kb:Int)≠0:=by omega
   repeat'(first|refine gA ?_|(refine goG ?_;intro g)|(refine goV ?_;intro v)|refine goE ?_|(refine goEG ?_;intro g)|(refine goEV ?_;intro v)|refine goD ?_|refine goXD ?_|(refine goDG ?_;intro g)|(refine goDV ?_;intro v)|refine d8 ?_|fail)
   first|refine WL.callV (hlv) ?_|refine WD.callV (hlv) ?_
   repeat'(first|refine gA ?_|(refine goG ?_;intro g)|(refine goV ?_;intro v)|refine goE ?_|(refine goEG ?_;intro g)|(refine goEV ?_;intro v)|refine goD ?_|refine goXD ?_|(refine goDG ?_;intro g)|(refine goDV ?_;intro v)|refine d8 ?_|fail)
   exact WC.ret (Fin.v (ResE.t1 rfl rfl) meA rfl)
end U.V
end Go.Proofs.YtaongbhamadlkaaGreat
namespace Go.Proofs.YtaongbhamadlkaaGreat
open Go.ChangeShapes Go.WideShapes Go.ChangeAt Go.RowKit
open W
section
variable {H:Type} {enc:TypeId×Value→H} {P:Program} {V1:World}
theorem ints_len {t e:TypeId} {a0:Option Addr} {len cap:Nat} {d:DataW H} {p:List MemPlace} (ht:P.underlying t=some (.slice e)) (he:P.underlying e=some (.int .i64)) (hc:P.cellsOf e=1) (h:DataW.Trod enc P V1 0 (fun _=>true) true t (.slice a0 len cap) d p) :
  len=0∨∃ es sp,d=.slice es sp∧es.length=len:=by
 obtain⟨fuel,hf⟩:=h
 rcases open_ints ht he hc hf with ⟨hcs,hx⟩|⟨a,len',cap',zs,hcs,_,hl,hm,hz,hx,hcell,hwz⟩
 ·simp[Value.cells] at hcs
  exact .inl hcs.2.1
 ·simp[Value.cells] at hcs
  obtain⟨rfl,rfl,rfl⟩:=hcs
  simp only[Prod.mk.injEq] at hx
  obtain⟨rfl,rfl⟩:=hx
  simp only[if_true] at hz
  refine .inr ⟨_,_,rfl,?_⟩
  simp[lits]
  omega
theorem sI_len {v:Value} {l:List Int} {ph:PH} (h:(sI v l).p ph):∃ a c,v=.slice a l.length c:=by
 obtain⟨a,c,rfl,_⟩:=h
 exact⟨a,c,rfl⟩
theorem ints_reach {t e:TypeId} {v:Value} {l:List Int} {d:DataW H} {p:List MemPlace} {ts:List TypeId} {ds:List (DataW H)} {j:Nat} (ht:P.underlying t=some (.slice e)) (he:P.underlying e=some (.int .i64)) (hc:P.cellsOf e=1) (hb:P.bytesOf e=8)
  (h:DataW.Trod enc P V1 0 (fun _=>true) true t v d p) (hl:(sI v l).p (fun k=>V1.heap[k]?)) (hw:(DataW.weightsEach P ts ds).all (·≤reachBytes)=true) (h1:ts[j]?=some t) (h2:ds[j]?=some d):l.length≤17592186043904:=by
 obtain⟨a,c,rfl⟩:=sI_len hl
 rcases ints_len ht he hc h with h|⟨es,sp,rfl,h⟩
 ·omega
 ·have:=sized_slice hw h1 h2 ht
  rw[hb] at this
  have h3:reachBytes=140737488351232:=by decide
  omega
end
end Go.Proofs.YtaongbhamadlkaaGreat
namespace Go.Proofs.YtaongbhamadlkaaGreat
open Go.ChangeShapes Go.WideShapes Go.ChangeAt Go.RowKit
open W
theorem Tryz.int3:Tryz.prog.underlying 3=some (.int .i64):=by kernel_rfl
theorem Tryz.sl22:Tryz.prog.underlying 22=some (.slice 3):=by kernel_rfl
theorem Tryz.bool4:Tryz.prog.underlying 4=some .bool:=by kernel_rfl
theorem Tryz.one3:Tryz.prog.cellsOf 3=1:=by kernel_rfl
set_option maxRecDepth 100000 in
theorem simplexMore_lifted (os:Os) (started:os.Started) (H:Type) (enc:TypeId×Value→H) :
  ReturnsInHanded {} Tryz.checked os 8 .any (Rows.simplexMoreSpec.pre6 enc Tryz.prog Tryz.f8 Rows.simplexMoreRow.domain false) (Rows.simplexMoreSpec.post enc Tryz.prog Tryz.f8 false true false false):=by
 refine returnsInHanded_of_change_sized (C:=Tryz.checked) Tryz.own started (by kernel_rfl) Tryz.func8
  (ChangeSpec.witness6 (enc:=enc) (C:=Tryz.checked) false ⟨#[],#[.slice none 0 0,.slice none 0 0],[]⟩ 8 (by kernel_rfl) (by kernel_rfl) (by kernel_rfl) (by kernel_rfl)) ?_
 intro V1 base args ds gs before hval0 hW hcnd hwt _
 have hval:∀ (j:Nat) t v,Tryz.f8.params[j]?=some t→args[j]?=some v→Value.okWide Tryz.prog V1 .any base t v:=hval0
 have hW':=hW
 obtain⟨p,q,hA0,hV,rfl,hfz,hnd⟩:=hW
 have hA:DataW.TrodAll enc Tryz.prog V1 0 (fun _=>true) true Tryz.f8.params.toList args.toList ds p:=hA0
 rw[Tryz.params8] at hA hval
 obtain⟨args⟩:=args
 obtain⟨v0,a1,d0,e1,p0,q1,rfl,rfl,rfl,h0,hA⟩:=trodAll_cons hA
 obtain⟨v1,a2,d1,e2,p1,q2,rfl,rfl,rfl,h1,hA⟩:=trodAll_cons hA
 obtain⟨rfl,rfl,rfl⟩:=trodAll_nil hA
 obtain⟨rfl,rfl⟩:=trodVars_none hV
 obtain⟨l0,hl0,f0,g0⟩:=arg_ints Tryz.sl22 Tryz.int3 Tryz.one3 (hval 0 22 v0 rfl rfl) h0
 obtain⟨l1,hl1,f1,g1⟩:=arg_ints Tryz.sl22 Tryz.int3 Tryz.one3 (hval 1 22 v1 rfl rfl) h1
 have hz1:=ints_reach Tryz.sl22 Tryz.int3 Tryz.one3 (by kernel_rfl) h1 f1 hwt (j:=1) (by rw[Tryz.params8];rfl) rfl
 simp only[List.append_nil] at hW'
 refine(law_calls (U.V.moreLaw_h U.lives_c v0 v1 l0 l1 hl0 hl1 hz1) (fun g hg=>?_)).mono fun e V2 hh2=>?_
 ·simp only[List.mem_cons,List.not_mem_nil,or_false] at hg
  rcases hg with rfl|rfl
  ·exact f0
  ·exact f1
 ·obtain⟨he,hr,hE⟩:=hh2
  refine⟨_,he,post_law hW' (fun _ _ _=>trodAll_mk1 (shut_bool Tryz.bool4 _)) (fun sp hsp=>?_) (fun _=>rfl) hr hE (ok_one (by kernel_rfl) rfl (okWide_bool_mk Tryz.bool4 _))⟩
  have:=(AgainAll.cons g0 (AgainAll.cons g1 AgainAll.nil)) V2 sp hE (by simpa using hsp)
  simp only[List.append_nil] at this
  show DataW.TrodAll enc Tryz.prog V2 0 sp true Tryz.f8.params.toList _ _ _
  rw[Tryz.params8]
  exact this
theorem simplexMore_holds:Rows.SimplexMoreSaid:=
 OpenClaim.holds_of_wide 8 Tryz.f8 rfl rfl rfl rfl rfl rfl rfl ⟨rfl,rfl,rfl,rfl,rfl⟩ rfl rfl rfl rfl rfl (by kernel_rfl) Tryz.func8 (by kernel_rfl)
  (of_decide_eq_true (by kernel_rfl)) (by unfold Func.isWrapper;first|(rw[if_pos (by decide +kernel)];kernel_rfl)|(rw[if_neg (by decide +kernel)];exact⟨rfl,rfl⟩))
  (fun os started H enc _=>simplexMore_lifted os started H enc)
#print axioms simplexMore_holds
end Go.Proofs.YtaongbhamadlkaaGreat
