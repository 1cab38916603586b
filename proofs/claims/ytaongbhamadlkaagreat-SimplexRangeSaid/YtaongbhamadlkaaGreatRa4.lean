/- The law SimplexRange returns true for every input and leaves its arguments as they were. Conditions: none. -/
import Derived.Test.YtaongbhamadlkaaGreatBs1
import Derived.Test.YtaongbhamadlkaaGreatBs10
import Derived.Test.YtaongbhamadlkaaGreatBs11
import Derived.Test.YtaongbhamadlkaaGreatBs12
import Derived.Test.YtaongbhamadlkaaGreatBs2
import Derived.Test.YtaongbhamadlkaaGreatBs3
import Derived.Test.YtaongbhamadlkaaGreatBs4
import Derived.Test.YtaongbhamadlkaaGreatBs5
import Derived.Test.YtaongbhamadlkaaGreatBs6
import Derived.Test.YtaongbhamadlkaaGreatBs7
import Derived.Test.YtaongbhamadlkaaGreatBs8
import Derived.Test.YtaongbhamadlkaaGreatBs9
import Derived.Test.YtaongbhamadlkaaGreatRa3
import Derived.Test.YtaongbhamadlkaaGreatBs13
import Derived.Test.YtaongbhamadlkaaGreatRa1
import Derived.Test.YtaongbhamadlkaaGreatBs14
set_option linter.unusedVariables false
set_option linter.unusedSimpArgs false
set_option linter.unusedSectionVars false
namespace Go.Proofs.YtaongbhamadlkaaGreat
open Go.ChangeShapes Go.WideShapes Go.ChangeAt Go.RowKit
open W
theorem Tryz.int3:Tryz.prog.underlying 3=some (.int .i64):=by kernel_rfl
theorem Tryz.sl22:Tryz.prog.underlying 22=some (.slice 3):=by kernel_rfl
theorem Tryz.bool4:Tryz.prog.underlying 4=some .bool:=by kernel_rfl
theorem Tryz.one3:Tryz.prog.cellsOf 3=1:=by kernel_rfl
set_option maxRecDepth 100000 in
theorem simplexRange_lifted (os:Os) (started:os.Started) (H:Type) (enc:TypeId×Value→H) :
  ReturnsInHanded {} Tryz.checked os 9 .any (Rows.simplexRangeSpec.pre6 enc Tryz.prog Tryz.f9 Rows.simplexRangeRow.domain false) (Rows.simplexRangeSpec.post enc Tryz.prog Tryz.f9 false true false false):=by
 refine returnsInHanded_of_change_sized (C:=Tryz.checked) Tryz.own started (by kernel_rfl) Tryz.func9
  (ChangeSpec.witness6 (enc:=enc) (C:=Tryz.checked) false ⟨#[],#[.slice none 0 0,.slice none 0 0,.int .i64 0],[]⟩ 8 (by kernel_rfl) (by kernel_rfl) (by kernel_rfl) (by kernel_rfl)) ?_
 intro V1 base args ds gs before hval0 hW hcnd hwt _
 have hval:∀ (j:Nat) t v,Tryz.f9.params[j]?=some t→args[j]?=some v→Value.okWide Tryz.prog V1 .any base t v:=hval0
 have hW':=hW
 obtain⟨p,q,hA0,hV,rfl,hfz,hnd⟩:=hW
 have hA:DataW.TrodAll enc Tryz.prog V1 0 (fun _=>true) true Tryz.f9.params.toList args.toList ds p:=hA0
 rw[Tryz.params9] at hA hval
 obtain⟨args⟩:=args
 obtain⟨v0,a1,d0,e1,p0,q1,rfl,rfl,rfl,h0,hA⟩:=trodAll_cons hA
 obtain⟨v1,a2,d1,e2,p1,q2,rfl,rfl,rfl,h1,hA⟩:=trodAll_cons hA
 obtain⟨v2,a3,d2,e3,p2,q3,rfl,rfl,rfl,h2,hA⟩:=trodAll_cons hA
 obtain⟨rfl,rfl,rfl⟩:=trodAll_nil hA
 obtain⟨rfl,rfl⟩:=trodVars_none hV
 obtain⟨l0,hl0,f0,g0⟩:=arg_ints Tryz.sl22 Tryz.int3 Tryz.one3 (hval 0 22 v0 rfl rfl) h0
 obtain⟨l1,hl1,f1,g1⟩:=arg_ints Tryz.sl22 Tryz.int3 Tryz.one3 (hval 1 22 v1 rfl rfl) h1
 obtain⟨n2,rfl,hl2,g2⟩:=arg_int Tryz.int3 (hval 2 3 v2 rfl rfl) h2
 have hz1:=ints_reach Tryz.sl22 Tryz.int3 Tryz.one3 (by kernel_rfl) h1 f1 hwt (j:=1) (by rw[Tryz.params9];rfl) rfl
 simp only[List.append_nil] at hW'
 refine(law_calls (U.V.rangeLaw_h U.lives_c v0 v1 l0 l1 n2 hl0 hl1 hl2 hz1) (fun g hg=>?_)).mono fun e V2 hh2=>?_
 ·simp only[List.mem_cons,List.not_mem_nil,or_false] at hg
  rcases hg with rfl|rfl
  ·exact f0
  ·exact f1
 ·obtain⟨he,hr,hE⟩:=hh2
  refine⟨_,he,post_law hW' (fun _ _ _=>trodAll_mk1 (shut_bool Tryz.bool4 _)) (fun sp hsp=>?_) (fun _=>rfl) hr hE (ok_one (by kernel_rfl) rfl (okWide_bool_mk Tryz.bool4 _))⟩
  have:=(AgainAll.cons g0 (AgainAll.cons g1 (AgainAll.cons g2 AgainAll.nil))) V2 sp hE (by simpa using hsp)
  simp only[List.append_nil] at this
  show DataW.TrodAll enc Tryz.prog V2 0 sp true Tryz.f9.params.toList _ _ _
  rw[Tryz.params9]
  exact this
theorem simplexRange_holds:Rows.SimplexRangeSaid:=
 OpenClaim.holds_of_wide 9 Tryz.f9 rfl rfl rfl rfl rfl rfl rfl ⟨rfl,rfl,rfl,rfl,rfl⟩ rfl rfl rfl rfl rfl (by kernel_rfl) Tryz.func9 (by kernel_rfl)
  (of_decide_eq_true (by kernel_rfl)) (by unfold Func.isWrapper;first|(rw[if_pos (by decide +kernel)];kernel_rfl)|(rw[if_neg (by decide +kernel)];exact⟨rfl,rfl⟩))
  (fun os started H enc _=>simplexRange_lifted os started H enc)
#print axioms simplexRange_holds
end Go.Proofs.YtaongbhamadlkaaGreat
