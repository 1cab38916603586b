/- The law FixtureFewest returns true for every input and leaves its arguments as they were. Conditions: none. -/
import Derived.Test.YtbnobghgnbockaaGreatFw1
set_option linter.all false
set_option maxHeartbeats 32000000
set_option maxRecDepth 100000
namespace Go.Proofs.YtbnobghgnbockaaGreat
section
open Go.ChangeShapes Go.WideShapes Go.ChangeAt Go.RowKit
open W
theorem Tryz.int3:Tryz.prog.underlying 3=some (.int .i64):=by kernel_rfl
theorem Tryz.sl22:Tryz.prog.underlying 28=some (.slice 3):=by kernel_rfl
theorem Tryz.bool4:Tryz.prog.underlying 4=some .bool:=by kernel_rfl
theorem Tryz.one3:Tryz.prog.cellsOf 3=1:=by kernel_rfl
theorem fixtureFewest_lifted (os:Os) (started:os.Started) (H:Type) (enc:TypeId×Value->H) :
  ReturnsInLeavingWide {} Tryz.checked os 7 .any (Rows.fixtureFewestSpec.pre6 enc Tryz.prog Tryz.f7 Rows.fixtureFewestRow.domain false) (Rows.fixtureFewestSpec.post enc Tryz.prog Tryz.f7 false true false false):=by
 refine returnsInLeavingWide_of_change_sized (C:=Tryz.checked) Tryz.own started Tryz.func7
  (ChangeSpec.witness6 (enc:=enc) (C:=Tryz.checked) false ⟨#[],#[.slice none 0 0,.slice none 0 0,.int .i64 0],[]⟩ 8 kr kr kr kr) ?_
 intro V1 base args ds gs before hval0 hW hcnd hwt _;have hval:∀ (j:Nat) t v,Tryz.f7.params[j]?=some t->args[j]?=some v->Value.okWide Tryz.prog V1 .any base t v:=hval0;have hW':=hW;obtain⟨p,q,hA0,hV,rfl,hfz,hnd⟩:=hW;have hA:DataW.TrodAll enc Tryz.prog V1 0 (λ_=>true) true Tryz.f7.params.toList args.toList ds p:=hA0;rw[Tryz.params7] at hA hval;obtain⟨args⟩:=args;obtain⟨v0,a1,d0,e1,p0,q1,rfl,rfl,rfl,h0,hA⟩:=trodAll_cons hA;obtain⟨v1,a2,d1,e2,p1,q2,rfl,rfl,rfl,h1,hA⟩:=trodAll_cons hA;obtain⟨v2,a3,d2,e3,p2,q3,rfl,rfl,rfl,h2,hA⟩:=trodAll_cons hA;obtain⟨rfl,rfl,rfl⟩:=trodAll_nil hA;obtain⟨rfl,rfl⟩:=trodVars_none hV;obtain⟨l0,hl0,f0,g0⟩:=KO Tryz.sl22 Tryz.int3 Tryz.one3 (hval 0 28 v0 rfl rfl) h0;obtain⟨l1,hl1,f1,g1⟩:=KO Tryz.sl22 Tryz.int3 Tryz.one3 (hval 1 28 v1 rfl rfl) h1;obtain⟨n2,rfl,hl2,g2⟩:=arg_int Tryz.int3 (hval 2 3 v2 rfl rfl) h2;simp only[List.append_nil] at hW'
 have hfacts:∀ g∈([sI v0 l0,sI v1 l1]:List Fct),g.p ⟨XM Tryz.prog,λk=>V1.heap[k]?⟩:=λg hg=>by
  simp only[List.mem_cons,List.not_mem_nil,or_false] at hg;rcases hg with rfl|rfl
  ·exact f0
  ·exact f1
 obtain⟨M,last,o,w',t',r1,r2,r3,r4⟩:=Ht kr (K.Q.Y.fewLaw_c v0 v1 l0 l1 n2 hl0 hl1 hl2) hfacts;refine⟨M,last,o,w',t',r1,r2,r3,r4.mono λv hh2=>?_⟩;obtain⟨rfl,hr,hE⟩:=hh2
 ·refine(post_law hW' (λ_ _ _=>trodAll_mk1 (shut_bool Tryz.bool4 _)) (λsp hsp=>?_) (λ_=>rfl) hr hE (ok_one kr rfl (okWide_bool_mk Tryz.bool4 _)));have:=(JR.cons g0 (JR.cons g1 (JR.cons g2 JR.nil))) w' sp hE (by simpa using hsp);simp only[List.append_nil] at this;show DataW.TrodAll enc Tryz.prog w' 0 sp true Tryz.f7.params.toList _ _ _;rw[Tryz.params7];exact this
theorem fixtureFewest_holds:Rows.FixtureFewestSaid:=
 OpenClaim.holds_of_wide_leaving 7 Tryz.f7 rfl rfl rfl rfl rfl rfl rfl ⟨rfl,rfl,rfl,rfl,rfl⟩ rfl rfl rfl rfl rfl kr Tryz.func7 kr
  (of_decide_eq_true kr) (by unfold Func.isWrapper;first|(rw[if_pos (by decide +kernel)];kernel_rfl)|(rw[if_neg (by decide +kernel)];exact⟨rfl,rfl⟩))
  (λos started H enc _=>fixtureFewest_lifted os started H enc)
#print axioms fixtureFewest_holds
end
end Go.Proofs.YtbnobghgnbockaaGreat
