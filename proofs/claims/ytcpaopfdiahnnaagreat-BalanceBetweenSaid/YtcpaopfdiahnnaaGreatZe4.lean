/- The law BalanceBetween returns true for every input and leaves its arguments as they were. Conditions: none. -/
import Derived.Test.YtcpaopfdiahnnaaGreatZe3
import Derived.Test.YtcpaopfdiahnnaaGreatZb37
import Derived.Test.YtcpaopfdiahnnaaGreatZb1
set_option linter.all false
set_option maxHeartbeats 32000000
set_option maxRecDepth 100000
namespace Go.Proofs.YtcpaopfdiahnnaaGreat
section
open Go.ChangeShapes Go.WideShapes Go.ChangeAt Go.RowKit
open W
theorem Tryz.Vf:Tryz.prog.underlying 3=some (.int .i64):=by kernel_rfl
theorem Tryz.sl22:Tryz.prog.underlying 22=some (.slice 3):=by kernel_rfl
theorem Tryz.Z8:Tryz.prog.underlying 4=some .bool:=by kernel_rfl
theorem Tryz.one3:Tryz.prog.cellsOf 3=1:=by kernel_rfl
theorem balanceBetween_lifted (os:Os) (started:os.Started) (H:Type) (enc:TypeId×Value->H) :
  ReturnsInLeavingWide {} Tryz.checked os 8 .any (Rows.balanceBetweenSpec.pre6 enc Tryz.prog Tryz.f8 Rows.balanceBetweenRow.domain false) (Rows.balanceBetweenSpec.post enc Tryz.prog Tryz.f8 false true false false):=by
 refine returnsInLeavingWide_of_change_sized (C:=Tryz.checked) Tryz.own started Tryz.func8
  (ChangeSpec.witness6 (enc:=enc) (C:=Tryz.checked) false ⟨#[],#[.slice none 0 0,.slice none 0 0],[]⟩ 8 kr kr kr kr) ?_
 intro V1 base args ds gs before hval0 hW hcnd hwt _;have hval:∀ (j:Nat) t v,Tryz.f8.params[j]?=some t->args[j]?=some v->Value.okWide Tryz.prog V1 .any base t v:=hval0;have hW':=hW;obtain⟨p,q,hA0,hV,rfl,hfz,hnd⟩:=hW;have hA:DataW.TrodAll enc Tryz.prog V1 0 (λ_=>true) true Tryz.f8.params.toList args.toList ds p:=hA0;rw[Tryz.params8] at hA hval;obtain⟨args⟩:=args;obtain⟨v0,a1,d0,e1,p0,q1,rfl,rfl,rfl,h0,hA⟩:=trodAll_cons hA;obtain⟨v1,a2,d1,e2,p1,q2,rfl,rfl,rfl,h1,hA⟩:=trodAll_cons hA;obtain⟨rfl,rfl,rfl⟩:=trodAll_nil hA;obtain⟨rfl,rfl⟩:=trodVars_none hV;obtain⟨l0,hl0,f0,g0⟩:=U8 Tryz.sl22 Tryz.Vf Tryz.one3 (hval 0 22 v0 rfl rfl) h0;obtain⟨l1,hl1,f1,g1⟩:=U8 Tryz.sl22 Tryz.Vf Tryz.one3 (hval 1 22 v1 rfl rfl) h1;simp only[List.append_nil] at hW'
 have hfacts:∀ g∈[sI v0 l0,sI v1 l1],g.p ⟨Xc Tryz.prog,λk=>V1.heap[k]?⟩:=λg hg=>by
  simp only[List.mem_cons,List.not_mem_nil,or_false] at hg;rcases hg with rfl|rfl
  ·exact f0
  ·exact f1
 obtain⟨M,last,o,w',t',r1,r2,r3,r4⟩:=ZR kr (K.Q.R.betweenLaw_c v0 v1 l0 l1 hl0 hl1) hfacts;refine⟨M,last,o,w',t',r1,r2,r3,r4.mono λv hh2=>?_⟩;obtain⟨rfl,hr,hE⟩:=hh2
 ·refine(Vs hW' (λ_ _ _=>trodAll_mk1 (shut_bool Tryz.Z8 _)) (λsp hsp=>?_) (λ_=>rfl) hr hE (ok_one kr rfl (okWide_bool_mk Tryz.Z8 _)));have:=(Q8.cons g0 (Q8.cons g1 Q8.nil)) w' sp hE (by simpa using hsp);simp only[List.append_nil] at this;show DataW.TrodAll enc Tryz.prog w' 0 sp true Tryz.f8.params.toList _ _ _;rw[Tryz.params8];exact this
theorem balanceBetween_holds:Rows.BalanceBetweenSaid:=
 OpenClaim.holds_of_wide_leaving 8 Tryz.f8 rfl rfl rfl rfl rfl rfl rfl ⟨rfl,rfl,rfl,rfl,rfl⟩ rfl rfl rfl rfl rfl kr Tryz.func8 kr
  (of_decide_eq_true kr) (by unfold Func.isWrapper;first|(rw[if_pos (by decide +kernel)];kernel_rfl)|(rw[if_neg (by decide +kernel)];exact⟨rfl,rfl⟩))
  (λos started H enc _=>balanceBetween_lifted os started H enc)
#print axioms balanceBetween_holds
end
end Go.Proofs.YtcpaopfdiahnnaaGreat
