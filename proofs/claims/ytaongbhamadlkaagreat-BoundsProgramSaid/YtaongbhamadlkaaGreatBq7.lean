/- Lemmas for the proof of a law: Contracts: the model's rational numbers. Conditions: none. -/
import Derived.Test.YtaongbhamadlkaaGreatBq6
import Derived.Test.YtaongbhamadlkaaGreatBq5
import Derived.Test.YtaongbhamadlkaaGreatBq3
set_option linter.unusedVariables false
set_option linter.unusedSimpArgs false
set_option linter.unusedSectionVars false
namespace Go.Proofs.YtaongbhamadlkaaGreat
open W Go.RowKit
namespace Rp
open Dvz Dvv Adc Rm Rn Ro Rtm Rtc
attribute [local irreducible] WC WL WD YO LO LoopEnd W.Fin Scalar SliceT FieldAt Row ArrT AllocT KnS Has W.One SrcE IntT
theorem d132 {G G':Prop} (h:G') (s:Bx G'→G:=by
 intro h
 first|(apply WC.draw (id:=6) [0,1,2,3,4,5,6,7,8,9,10] (.held 0 (.held 1 (.held 2 (.held 3 (.held 4 (.held 5 (.held 6 (.held 7 (.held 8 (.held 9 (.held 10 (.done)))))))))))) mixed (by kernel_rfl))|fail
 exact Bx.h h):G:=s ⟨h⟩
set_option maxHeartbeats 4000000 in
set_option maxRecDepth 8000 in
theorem isame_c (v1 v2:Value) (x y:Int):FnB Tryz.prog 132 [v1,v2] [] [isZ v1 x,isZ v2 y] (IsV (.bool (decide (x=y)))):=by
 refine fn_of [(0,v1),(1,v2)] 38 Tryz.func132 rfl Tryz.ntmps132 (by kernel_rfl) rfl suA fun h0=>?_
 refine WC.openZ (v:=v1) (z:=x) hmA fun n1 d1 hv hb1=>?_
 subst hv
 refine WC.openZ (v:=v2) (z:=y) hmA fun n2 d2 hv hb2=>?_
 subst hv
 refine WC.fact (sI d1 (digs x.natAbs)) (hasZ_d hmA) ?_
 refine WC.fact (sI d2 (digs y.natAbs)) (hasZ_d hmA) ?_
 have hd:=digs_eq hb1 hb2
 generalize digs x.natAbs=a at *
 generalize digs y.natAbs=b at *
 refine WC.lenI d1 a hmA fun hlen=>?_
 by_cases c1:n1=n2
 ·subst c1
  by_cases c2:a.length=b.length
  ·repeat'(first|refine gB ?_|(refine gH ?_;intro g)|(refine gW ?_;intro v)|refine d132 ?_|fail)
   rename_i g2
   revert g;intro g3
   refine WC.lp (σ:=Nat) (fun k=>[(5,.int .i64 (k:Int)),(2,ptr g2),(3,ptr g3)]) (fun _=>[Ow.cells g3 29 [.bool n1,d2],Ow.cells g2 29 [.bool n1,d1]]) (fun _=>[ge h0,sI d1 a,sI d2 b]) (fun k=>k≤a.length∧∀ j,j < k→a.getD j 0=b.getD j 0) (fun k=>a.length - k) 0 ⟨by simp,fun j hj=>by omega⟩ ?_
   rintro k ⟨hk,hs⟩
   by_cases h:k < a.length
   ·by_cases c3:a.getD k 0=b.getD k 0
    ·repeat'(first|refine gB ?_|(refine gH ?_;intro g)|(refine gW ?_;intro v)|refine d132 ?_|fail)
     exact LoopEnd.mk (k+1) ⟨by omega,fun j hj=>if hjk:j=k then hjk ▸ c3 else hs j (by omega)⟩ (by omega)
    ·repeat'(first|refine gB ?_|(refine gH ?_;intro g)|(refine gW ?_;intro v)|refine d132 ?_|fail)
     refine WC.ret ?_
     exact Fin.v (ResE.t1 rfl rfl) meA (by rw[decide_eq_false (fun he=>c3 (by rw[(hd.2 he).2]))])
   ·repeat'(first|refine gB ?_|(refine gH ?_;intro g)|(refine gW ?_;intro v)|refine d132 ?_|fail)
    refine WC.ret ?_
    exact Fin.v (ResE.t1 rfl rfl) meA (by rw[decide_eq_true (hd.1 ⟨rfl,val_eq_all c2 (fun j hj=>hs j (by omega))⟩)])
  ·repeat'(first|refine gB ?_|(refine gH ?_;intro g)|(refine gW ?_;intro v)|refine d132 ?_|fail)
   refine WC.ret ?_
   exact Fin.v (ResE.t1 rfl rfl) meA (by rw[decide_eq_false (fun he=>c2 (by rw[(hd.2 he).2]))])
 ·repeat'(first|refine gB ?_|(refine gH ?_;intro g)|(refine gW ?_;intro v)|refine d132 ?_|fail)
  refine WC.ret ?_
  exact Fin.v (ResE.t1 rfl rfl) meA (by rw[decide_eq_false (fun he=>c1 (hd.2 he).1)])
set_option maxHeartbeats 4000000 in
set_option maxRecDepth 8000 in
theorem rden_c (v:Value) (q:Rat):FnB Tryz.prog 127 [v] [] [isQ v q] (IsZ (q.den:Int)):=by
 refine fn_of [(0,v)] 11 Tryz.func127 rfl Tryz.ntmps127 (by kernel_rfl) rfl suA fun h0=>?_
 refine WC.openQ (v:=v) (q:=q) hmA fun n1 d1 d2 hv hb1=>?_
 subst hv
 have hl:=@qz_len q
 by_cases c:q.den=1
 ·have hl0:=hl.2 c
  repeat'(first|refine gA ?_|(refine goG ?_;intro g)|(refine goV ?_;intro v))
  first|refine WL.callK (rof_c 1 (by decide) (by decide)) ?_|refine WD.callK (rof_c 1 (by decide) (by decide)) ?_|refine LO.callM (rof_c 1 (by decide) (by decide)) ?_
  rintro _ _ _ ⟨nb,d,rfl,hb,rfl,rfl⟩
  simp only[List.nil_append,List.cons_append]
  repeat'(first|refine gA ?_|(refine goG ?_;intro g)|(refine goV ?_;intro v))
  rw[show((q.den:Nat):Int)=1 by omega]
  refine WC.ret ?_
  exact Fin.p [] [isZ (.agg #[.bool nb,d]) 1] (ResE.cV rfl rfl meA T.r29 rfl) meA (List.nil_sublist _) haA ⟨nb,_,rfl,hb,rfl,rfl⟩
 ·have hl0:(digs (qz q).natAbs).length≠0:=fun h=>c (hl.1 h)
  have hz:qz q=(q.den:Int):=by unfold qz;rw[if_neg c]
  rw[hz] at hl0
  refine WC.fact (isZ (.agg #[.bool false,d2]) (q.den:Int)) (by rw[←hz];exact hasQ_Q hmA) ?_
  repeat'(first|refine gA ?_|(refine goG ?_;intro g)|(refine goV ?_;intro v))
  refine WC.ret ?_
  exact Fin.p [] [isZ (.agg #[.bool false,d2]) (q.den:Int)] (ResE.cV rfl rfl meA T.r29 rfl) meA (List.nil_sublist _) haA ⟨false,_,rfl,nneg_dec _,rfl,rfl⟩
set_option maxHeartbeats 4000000 in
set_option maxRecDepth 8000 in
theorem runit_c (v:Value) (z:Int):FnB Tryz.prog 145 [v] [] [isZ v z] (IsV (.bool (decide (z=1)))):=by
 refine fn_of [(0,v)] 16 Tryz.func145 rfl Tryz.ntmps145 (by kernel_rfl) rfl suA fun h0=>?_
 refine WC.openZ (v:=v) (z:=z) hmA fun n1 d1 hv hb1=>?_
 subst hv
 refine WC.fact (sI d1 (digs z.natAbs)) (hasZ_d hmA) ?_
 have hl1:=@len_one z.natAbs
 generalize hD:digs z.natAbs=D at *
 cases n1 with
 |true=>
  have hz:z < 0:=of_decide_eq_true hb1.symm
  repeat'(first|refine gA ?_|(refine goG ?_;intro g)|(refine goV ?_;intro v))
  refine WC.ret ?_
  exact Fin.v (ResE.t1 rfl rfl) meA (by rw[decide_eq_false (by omega)])
 |false=>
  have hz:¬z < 0:=of_decide_eq_false hb1.symm
  by_cases c:D.length=1
  ·by_cases c2:D.getD 0 0=1
   ·have h3:=hl1.1 ⟨c,c2⟩
    have c3:D.getD (0:Int).toNat 0=1:=c2
    repeat'(first|refine gA ?_|(refine goG ?_;intro g)|(refine goV ?_;intro v))
    refine WC.ret ?_
    exact Fin.v (ResE.t1 rfl rfl) meA (by rw[decide_eq_true (by omega)])
   ·have h3:z≠1:=fun h=>c2 (hl1.2 (by omega)).2
    have c3:D.getD (0:Int).toNat 0≠1:=c2
    repeat'(first|refine gA ?_|(refine goG ?_;intro g)|(refine goV ?_;intro v))
    refine WC.ret ?_
    exact Fin.v (ResE.t1 rfl rfl) meA (by rw[decide_eq_false h3])
  ·have h3:z≠1:=fun h=>c (hl1.2 (by omega)).1
   repeat'(first|refine gA ?_|(refine goG ?_;intro g)|(refine goV ?_;intro v))
   refine WC.ret ?_
   exact Fin.v (ResE.t1 rfl rfl) meA (by rw[decide_eq_false h3])
set_option maxHeartbeats 8000000 in
set_option maxRecDepth 8000 in
theorem rmake_c (v1 v2:Value) (p q:Int) (h1:Lz p.natAbs) (h2:Lz q.natAbs):FnB Tryz.prog 90 [v1,v2] [] [isZ v1 p,isZ v2 q] (IsQ (Rat.divInt p q)):=by
 refine fn_of [(0,v1),(1,v2)] 49 Tryz.func90 rfl Tryz.ntmps90 (by kernel_rfl) rfl suA fun h0=>?_
 refine WC.openZ (v:=v1) (z:=p) hmA fun n1 d1 hv hb1=>?_
 subst hv
 refine WC.openZ (v:=v2) (z:=q) hmA fun n2 d2 hv hb2=>?_
 subst hv
 have lp:=@digs_len0 p.natAbs
 have lq:=@digs_len0 q.natAbs
 by_cases c0:q=0
 ·have hl:=lq.2 (by omega)
  repeat'(first|refine gA ?_|(refine goG ?_;intro g)|(refine goV ?_;intro v))
  rw[c0,Rat.divInt_zero]
  refine WC.ret ?_
  exact Fin.p [] [isQ (.agg #[.bool false,.slice none 0 0,.bool false,.slice none 0 0]) 0] (ResE.cV rfl rfl meA T.r31 rfl) meA (List.nil_sublist _) (.cons hasQ_0 .nil) ⟨false,_,_,rfl,rfl,rfl,rfl⟩
 have hlq:=len_pos (n:=q.natAbs) (by omega)
 by_cases c1:p=0
 ·have hl:=lp.2 (by omega)
  repeat'(first|refine gA ?_|(refine goG ?_;intro g)|(refine goV ?_;intro v))
  rw[c1,Rat.zero_divInt]
  refine WC.ret ?_
  exact Fin.p [] [isQ (.agg #[.bool false,.slice none 0 0,.bool false,.slice none 0 0]) 0] (ResE.cV rfl rfl meA T.r31 rfl) meA (List.nil_sublist _) (.cons hasQ_0 .nil) ⟨false,_,_,rfl,rfl,rfl,rfl⟩
 have hlp:=len_pos (n:=p.natAbs) (by omega)
 obtain⟨hn,hd⟩:=num_make (p:=p) (q:=q) c0 c1
 have hg:0 < Int.gcd p q:=Int.gcd_pos_of_ne_zero_right _ c0
 have hg2:Lz (Int.gcd p q):=h2.le (Nat.le_of_dvd (by omega) (Nat.gcd_dvd_right ..))
 generalize hr:Rat.divInt p q=r at *
 have hqne:q / (Int.gcd p q:Int)≠0:=fun h=>by
  have:=Int.ediv_mul_cancel (Int.gcd_dvd_right (a:=p) (b:=q))
  rw[h] at this;omega
 have fin:∀ (F:List Fct) (nb:Bool) (e1 e2:Value),r.den≠1→Has F (isZ (.agg #[.bool nb,e1]) r.num)→Has F (isZ (.agg #[.bool false,e2]) (r.den:Int))→nb=decide (r.num < 0)→Has F (isQ (.agg #[.bool nb,e1,.bool false,e2]) r):=fun F nb e1 e2 h1 h2 h3 hb=>hasQ_of hb (hasZ_d h2) (by
  have:qz r=(r.den:Int):=by unfold qz;rw[if_neg h1]
  rw[this];exact hasZ_d h3)
 have fin1:∀ (F:List Fct) (nb:Bool) (e1:Value),r.den=1→Has F (isZ (.agg #[.bool nb,e1]) r.num)→nb=decide (r.num < 0)→Has F (isQ (.agg #[.bool nb,e1,.bool false,.slice none 0 0]) r):=fun F nb e1 h1 h2 hb=>hasQ_of hb (hasZ_d h2) (by
  have:qz r=0:=by unfold qz;rw[if_pos h1]
  rw[this];simpa [digs_0] using nil0)
 repeat'(first|refine gA ?_|(refine goG ?_;intro g)|(refine goV ?_;intro v))
 first|refine WL.callK (rgcd_c (.agg #[.bool n1,d1]) (.agg #[.bool n2,d2]) p q h1 h2) ?_|refine WD.callK (rgcd_c (.agg #[.bool n1,d1]) (.agg #[.bool n2,d2]) p q h1 h2) ?_|refine LO.callM (rgcd_c (.agg #[.bool n1,d1]) (.agg #[.bool n2,d2]) p q h1 h2) ?_
 rintro _ _ _ ⟨n3,d3,rfl,hb3,rfl,rfl⟩
 simp only[List.nil_append,List.cons_append]
 repeat'(first|refine gA ?_|(refine goG ?_;intro g)|(refine goV ?_;intro v))
 revert g;intro g5
 first|refine WL.callK (rdiv_c (.agg #[.bool n1,d1]) (.agg #[.bool n3,d3]) p ((Int.gcd p q:Nat):Int) h1 hg2 (by omega)) ?_|refine WD.callK (rdiv_c (.agg #[.bool n1,d1]) (.agg #[.bool n3,d3]) p ((Int.gcd p q:Nat):Int) h1 hg2 (by omega)) ?_|refine LO.callM (rdiv_c (.agg #[.bool n1,d1]) (.agg #[.bool n3,d3]) p ((Int.gcd p q:Nat):Int) h1 hg2 (by omega)) ?_
 rintro _ _ _ ⟨n4,d4,n5,d5,rfl,hb4,hb5,rfl,rfl⟩
 simp only[List.nil_append,List.cons_append]
 repeat'(first|refine gA ?_|(refine goG ?_;intro g)|(refine goV ?_;intro v))
 revert g;intro g7
 first|refine WL.callK (rdiv_c (.agg #[.bool n2,d2]) (.agg #[.bool n3,d3]) q ((Int.gcd p q:Nat):Int) h2 hg2 (by omega)) ?_|refine WD.callK (rdiv_c (.agg #[.bool n2,d2]) (.agg #[.bool n3,d3]) q ((Int.gcd p q:Nat):Int) h2 hg2 (by omega)) ?_|refine LO.callM (rdiv_c (.agg #[.bool n2,d2]) (.agg #[.bool n3,d3]) q ((Int.gcd p q:Nat):Int) h2 hg2 (by omega)) ?_
 rintro _ _ _ ⟨n6,d6,n7,d7,rfl,hb6,hb7,rfl,rfl⟩
 simp only[List.nil_append,List.cons_append]
 generalize p / ((Int.gcd p q:Nat):Int)=P at *
 generalize q / ((Int.gcd p q:Nat):Int)=Q at *
 cases n6 with
 |true=>
  have hq2:Q < 0:=of_decide_eq_true hb6.symm
  rw[if_pos hq2] at hn
  repeat'(first|refine gA ?_|(refine goG ?_;intro g)|(refine goV ?_;intro v))
  first|refine WL.callK (rneg_c (.agg #[.bool n4,d4]) P) ?_|refine WD.callK (rneg_c (.agg #[.bool n4,d4]) P) ?_|refine LO.callM (rneg_c (.agg #[.bool n4,d4]) P) ?_
  rintro _ _ _ ⟨n8,d8,rfl,hb8,rfl,rfl⟩
  simp only[List.nil_append,List.cons_append]
  repeat'(first|refine gA ?_|(refine goG ?_;intro g)|(refine goV ?_;intro v))
  first|refine WL.callK (rneg_c (.agg #[.bool true,d6]) Q) ?_|refine WD.callK (rneg_c (.agg #[.bool true,d6]) Q) ?_|refine LO.callM (rneg_c (.agg #[.bool true,d6]) Q) ?_
  rintro _ _ _ ⟨n9,d9,rfl,hb9,rfl,rfl⟩
  simp only[List.nil_append,List.cons_append]
  obtain rfl:false=n9:=by rw[hb9,eq_comm,decide_eq_false_iff_not];omega
  rw[←hn] at hb8 ⊢
  rw[show -Q=(r.den:Int) by omega]
  repeat'(first|refine gA ?_|(refine goG ?_;intro g)|(refine goV ?_;intro v))
  first|refine WL.callV (runit_c (.agg #[.bool false,d9]) (r.den:Int)) ?_|refine WD.callV (runit_c (.agg #[.bool false,d9]) (r.den:Int)) ?_
  by_cases c:r.den=1
  ·rw[decide_eq_true (by omega)]
   repeat'(first|refine gA ?_|(refine goG ?_;intro g)|(refine goV ?_;intro v))
   refine WC.fact (isQ (.agg #[.bool n8,d8,.bool false,.slice none 0 0]) r) (fin1 _ _ _ c hmA hb8) ?_
   refine WC.ret ?_
   exact Fin.p [] [isQ (.agg #[.bool n8,d8,.bool false,.slice none 0 0]) r] (ResE.cV rfl rfl meA T.r31 rfl) meA (List.nil_sublist _) haA ⟨n8,_,_,rfl,hb8,rfl,rfl⟩
  ·rw[decide_eq_false (by omega)]
   repeat'(first|refine gA ?_|(refine goG ?_;intro g)|(refine goV ?_;intro v))
   refine WC.fact (isQ (.agg #[.bool n8,d8,.bool false,d9]) r) (fin _ _ _ _ c hmA hmA hb8) ?_
   refine WC.ret ?_
   exact Fin.p [] [isQ (.agg #[.bool n8,d8,.bool false,d9]) r] (ResE.cV rfl rfl meA T.r31 rfl) meA (List.nil_sublist _) haA ⟨n8,_,_,rfl,hb8,rfl,rfl⟩
 |false=>
  have hq2:¬Q < 0:=of_decide_eq_false hb6.symm
  rw[if_neg hq2] at hn
  rw[←hn] at hb4 ⊢
  rw[show Q=(r.den:Int) by omega]
  repeat'(first|refine gA ?_|(refine goG ?_;intro g)|(refine goV ?_;intro v))
  first|refine WL.callV (runit_c (.agg #[.bool false,d6]) (r.den:Int)) ?_|refine WD.callV (runit_c (.agg #[.bool false,d6]) (r.den:Int)) ?_
  by_cases c:r.den=1
  ·rw[decide_eq_true (by omega)]
   repeat'(first|refine gA ?_|(refine goG ?_;intro g)|(refine goV ?_;intro v))
   refine WC.fact (isQ (.agg #[.bool n4,d4,.bool false,.slice none 0 0]) r) (fin1 _ _ _ c hmA hb4) ?_
   refine WC.ret ?_
   exact Fin.p [] [isQ (.agg #[.bool n4,d4,.bool false,.slice none 0 0]) r] (ResE.cV rfl rfl meA T.r31 rfl) meA (List.nil_sublist _) haA ⟨n4,_,_,rfl,hb4,rfl,rfl⟩
  ·rw[decide_eq_false (by omega)]
   repeat'(first|refine gA ?_|(refine goG ?_;intro g)|(refine goV ?_;intro v))
   refine WC.fact (isQ (.agg #[.bool n4,d4,.bool false,d6]) r) (fin _ _ _ _ c hmA hmA hb4) ?_
   refine WC.ret ?_
   exact Fin.p [] [isQ (.agg #[.bool n4,d4,.bool false,d6]) r] (ResE.cV rfl rfl meA T.r31 rfl) meA (List.nil_sublist _) haA ⟨n4,_,_,rfl,hb4,rfl,rfl⟩
set_option maxHeartbeats 4000000 in
set_option maxRecDepth 8000 in
theorem rqof_c (p q:Int) (h1:p.natAbs < B2) (h2:q.natAbs < B2):FnB Tryz.prog 30 [.int .i64 p,.int .i64 q] [] [] (IsQ (Rat.divInt p q)):=by
 refine fn_of [(0,(.int .i64 p)),(1,(.int .i64 q))] 10 Tryz.func30 rfl Tryz.ntmps30 (by kernel_rfl) rfl suA fun h0=>?_
 have h1':p.natAbs < 1000000000000000000:=h1
 have h2':q.natAbs < 1000000000000000000:=h2
 repeat'(first|refine gA ?_|(refine goG ?_;intro g)|(refine goV ?_;intro v))
 first|refine WL.callK (rof_c p (by omega) (by omega)) ?_|refine WD.callK (rof_c p (by omega) (by omega)) ?_|refine LO.callM (rof_c p (by omega) (by omega)) ?_
 rintro _ _ _ ⟨n1,d1,rfl,hb1,rfl,rfl⟩
 simp only[List.nil_append,List.cons_append]
 repeat'(first|refine gA ?_|(refine goG ?_;intro g)|(refine goV ?_;intro v))
 first|refine WL.callK (rof_c q (by omega) (by omega)) ?_|refine WD.callK (rof_c q (by omega) (by omega)) ?_|refine LO.callM (rof_c q (by omega) (by omega)) ?_
 rintro _ _ _ ⟨n2,d2,rfl,hb2,rfl,rfl⟩
 simp only[List.nil_append,List.cons_append]
 repeat'(first|refine gA ?_|(refine goG ?_;intro g)|(refine goV ?_;intro v))
 first|refine WL.callK (rmake_c (.agg #[.bool n1,d1]) (.agg #[.bool n2,d2]) p q (Lz.of h1) (Lz.of h2)) ?_|refine WD.callK (rmake_c (.agg #[.bool n1,d1]) (.agg #[.bool n2,d2]) p q (Lz.of h1) (Lz.of h2)) ?_|refine LO.callM (rmake_c (.agg #[.bool n1,d1]) (.agg #[.bool n2,d2]) p q (Lz.of h1) (Lz.of h2)) ?_
 rintro _ _ _ ⟨nb,e1,e2,rfl,hb,rfl,rfl⟩
 simp only[List.nil_append,List.cons_append]
 repeat'(first|refine gA ?_|(refine goG ?_;intro g)|(refine goV ?_;intro v))
 refine WC.ret ?_
 exact Fin.p [] [isQ (.agg #[.bool nb,e1,.bool false,e2]) (Rat.divInt p q)] (ResE.cV rfl rfl meA T.r31 rfl) meA (List.nil_sublist _) haA ⟨nb,_,_,rfl,hb,rfl,rfl⟩
set_option maxHeartbeats 4000000 in
set_option maxRecDepth 8000 in
theorem rqsame_c (v1 v2:Value) (a b:Rat):FnB Tryz.prog 68 [v1,v2] [] [isQ v1 a,isQ v2 b] (IsV (.bool (decide (a=b)))):=by
 refine fn_of [(0,v1),(1,v2)] 17 Tryz.func68 rfl Tryz.ntmps68 (by kernel_rfl) rfl suA fun h0=>?_
 refine WC.openQ (v:=v1) (q:=a) hmA fun n1 d1 d2 hv hb1=>?_
 subst hv
 refine WC.openQ (v:=v2) (q:=b) hmA fun n2 d3 d4 hv hb2=>?_
 subst hv
 repeat'(first|refine gA ?_|(refine goG ?_;intro g)|(refine goV ?_;intro v))
 first|refine WL.callV (isame_c (.agg #[.bool n1,d1]) (.agg #[.bool n2,d3]) a.num b.num) ?_|refine WD.callV (isame_c (.agg #[.bool n1,d1]) (.agg #[.bool n2,d3]) a.num b.num) ?_
 by_cases c:a.num=b.num
 ·rw[decide_eq_true c]
  repeat'(first|refine gA ?_|(refine goG ?_;intro g)|(refine goV ?_;intro v))
  first|refine WL.callV (isame_c (.agg #[.bool false,d2]) (.agg #[.bool false,d4]) (qz a) (qz b)) ?_|refine WD.callV (isame_c (.agg #[.bool false,d2]) (.agg #[.bool false,d4]) (qz a) (qz b)) ?_
  rw[show decide (qz a=qz b)=decide (a=b) by rw[decide_eq_decide];exact⟨fun h=>qz_inj c h,fun h=>by rw[h]⟩]
  repeat'(first|refine gA ?_|(refine goG ?_;intro g)|(refine goV ?_;intro v))
  refine WC.ret ?_
  exact Fin.v (ResE.t1 rfl rfl) meA rfl
 ·rw[decide_eq_false c]
  repeat'(first|refine gA ?_|(refine goG ?_;intro g)|(refine goV ?_;intro v))
  refine WC.ret ?_
  exact Fin.v (ResE.t1 rfl rfl) meA (by rw[decide_eq_false (fun h=>c (by rw[h]))])
end Rp
end Go.Proofs.YtaongbhamadlkaaGreat
namespace Go.Proofs.YtaongbhamadlkaaGreat
open W Go.RowKit
theorem mul_di (a b:Rat):Rat.divInt (a.num*b.num) ((a.den:Int)*(b.den:Int))=a*b:=by
 rw[←Rat.divInt_mul_divInt,Rat.num_divInt_den,Rat.num_divInt_den]
theorem Lz.mul {x y:Int} (hx:(digs x.natAbs).length≤400000000) (hy:(digs y.natAbs).length≤400000000):Lz (x*y).natAbs:=by
 rw[Int.natAbs_mul];exact Sm.w2 (Sm.mul hx hy)
namespace Rp
open Dvz Dvv Adc Rtm Rta Rm Rn Ro
attribute [local irreducible] WC WL WD YO LO LoopEnd W.Fin Scalar SliceT FieldAt Row ArrT AllocT KnS Has W.One SrcE IntT
theorem d77 {G G':Prop} (h:G') (s:Bx G'→G:=by
 intro h
 first|(apply WC.draw (id:=1) [0,1,2,3,5,7] (.held 0 (.held 1 (.held 2 (.held 3 (.held 5 (.held 7 (.loud 4 (.loud 6 (.loud 8 (.loud 9 (.loud 10 (.loud 11 (.done))))))))))))) mixed (by kernel_rfl))|fail
 exact Bx.h h):G:=s ⟨h⟩
set_option maxHeartbeats 4000000 in
set_option maxRecDepth 8000 in
theorem rqmul_c (v1 v2:Value) (a b:Rat) (h1:Sm a) (h2:Sm b):FnB Tryz.prog 77 [v1,v2] [] [isQ v1 a,isQ v2 b] (IsQ (a*b)):=by
 refine fn_of [(0,v1),(1,v2)] 16 Tryz.func77 rfl Tryz.ntmps77 (by kernel_rfl) rfl suA fun h0=>?_
 refine WC.openQ (v:=v1) (q:=a) hmA fun n1 d1 d2 hv hb1=>?_
 subst hv
 refine WC.openQ (v:=v2) (q:=b) hmA fun n2 d3 d4 hv hb2=>?_
 subst hv
 refine WC.fact (isZ (.agg #[.bool n1,d1]) a.num) (hasQ_P hmA) ?_
 refine WC.fact (isZ (.agg #[.bool n2,d3]) b.num) (hasQ_P hmA) ?_
 repeat'(first|refine gB ?_|(refine gH ?_;intro g)|(refine gW ?_;intro v)|refine d77 ?_|fail)
 first|refine WL.callK (rmul_c (.agg #[.bool n1,d1]) (.agg #[.bool n2,d3]) a.num b.num (Sm.w h1.1) (Sm.w h2.1)) ?_|refine WD.callK (rmul_c (.agg #[.bool n1,d1]) (.agg #[.bool n2,d3]) a.num b.num (Sm.w h1.1) (Sm.w h2.1)) ?_|refine LO.callM (rmul_c (.agg #[.bool n1,d1]) (.agg #[.bool n2,d3]) a.num b.num (Sm.w h1.1) (Sm.w h2.1)) ?_
 rintro _ _ _ ⟨n5,d5,rfl,hb5,rfl,rfl⟩
 simp only[List.nil_append,List.cons_append]
 repeat'(first|refine gB ?_|(refine gH ?_;intro g)|(refine gW ?_;intro v)|refine d77 ?_|fail)
 first|refine WL.callK (rden_c (.agg #[.bool n1,d1,.bool false,d2]) a) ?_|refine WD.callK (rden_c (.agg #[.bool n1,d1,.bool false,d2]) a) ?_|refine LO.callM (rden_c (.agg #[.bool n1,d1,.bool false,d2]) a) ?_
 rintro _ _ _ ⟨n6,d6,rfl,hb6,rfl,rfl⟩
 simp only[List.nil_append,List.cons_append]
 repeat'(first|refine gB ?_|(refine gH ?_;intro g)|(refine gW ?_;intro v)|refine d77 ?_|fail)
 first|refine WL.callK (rden_c (.agg #[.bool n2,d3,.bool false,d4]) b) ?_|refine WD.callK (rden_c (.agg #[.bool n2,d3,.bool false,d4]) b) ?_|refine LO.callM (rden_c (.agg #[.bool n2,d3,.bool false,d4]) b) ?_
 rintro _ _ _ ⟨n7,d7,rfl,hb7,rfl,rfl⟩
 simp only[List.nil_append,List.cons_append]
 repeat'(first|refine gB ?_|(refine gH ?_;intro g)|(refine gW ?_;intro v)|refine d77 ?_|fail)
 first|refine WL.callK (rmul_c (.agg #[.bool n6,d6]) (.agg #[.bool n7,d7]) (a.den:Int) (b.den:Int) (Sm.w h1.2) (Sm.w h2.2)) ?_|refine WD.callK (rmul_c (.agg #[.bool n6,d6]) (.agg #[.bool n7,d7]) (a.den:Int) (b.den:Int) (Sm.w h1.2) (Sm.w h2.2)) ?_|refine LO.callM (rmul_c (.agg #[.bool n6,d6]) (.agg #[.bool n7,d7]) (a.den:Int) (b.den:Int) (Sm.w h1.2) (Sm.w h2.2)) ?_
 rintro _ _ _ ⟨n8,d8,rfl,hb8,rfl,rfl⟩
 simp only[List.nil_append,List.cons_append]
 repeat'(first|refine gB ?_|(refine gH ?_;intro g)|(refine gW ?_;intro v)|refine d77 ?_|fail)
 first|refine WL.callK (rmake_c (.agg #[.bool n5,d5]) (.agg #[.bool n8,d8]) (a.num*b.num) ((a.den:Int)*(b.den:Int)) (Lz.mul h1.1 h2.1) (Lz.mul h1.2 h2.2)) ?_|refine WD.callK (rmake_c (.agg #[.bool n5,d5]) (.agg #[.bool n8,d8]) (a.num*b.num) ((a.den:Int)*(b.den:Int)) (Lz.mul h1.1 h2.1) (Lz.mul h1.2 h2.2)) ?_|refine LO.callM (rmake_c (.agg #[.bool n5,d5]) (.agg #[.bool n8,d8]) (a.num*b.num) ((a.den:Int)*(b.den:Int)) (Lz.mul h1.1 h2.1) (Lz.mul h1.2 h2.2)) ?_
 rintro _ _ _ ⟨n11,d11,d12,rfl,hb11,rfl,rfl⟩
 simp only[List.nil_append,List.cons_append]
 rw[mul_di] at hb11 ⊢
 repeat'(first|refine gB ?_|(refine gH ?_;intro g)|(refine gW ?_;intro v)|refine d77 ?_|fail)
 refine WC.ret ?_
 exact Fin.p [] [isQ (.agg #[.bool n11,d11,.bool false,d12]) (a*b)] (ResE.cV rfl rfl meA T.r31 rfl) meA (List.nil_sublist _) haA ⟨n11,_,_,rfl,hb11,rfl,rfl⟩
end Rp
end Go.Proofs.YtaongbhamadlkaaGreat
namespace Go.Proofs.YtaongbhamadlkaaGreat
open W Go.RowKit
attribute [local irreducible] WC WL WD YO LO LoopEnd W.Fin Scalar SliceT FieldAt Row ArrT AllocT KnS Has W.One SrcE IntT
namespace Z
set_option maxRecDepth 60000
theorem knA {G:Prop} (h:G:=by first|((first|(focus(apply KnS.oN;exact meA;done))|(focus(apply KnS.oV;exact meA;done))|exact Go.Proofs.YtaongbhamadlkaaGreat.knA|(focus(apply KnS.ff;exact hmA;done))|(focus(apply KnS.oR;exact meA;done))|(focus(apply KnS.rf;exact hmA;omega;done))|(focus(apply KnS.pl;exact hmA;done)));done)|fail):G:=h
theorem hsA {G:Prop} (h:G:=by first|((first|exact Go.Proofs.YtaongbhamadlkaaGreat.hsA|(focus(apply W.Has.q;exact hmA;omega;done))|(focus(apply W.Has.qt;exact hmA;omega;omega;done))|(focus(apply W.Has.pbq;exact hmA;omega;done)));done)|fail):G:=h
theorem y_indexAddr {G:Prop} (h:G:=by first|((first|exact Go.Proofs.YtaongbhamadlkaaGreat.y_indexAddr|(apply YO.ix1;exact t6A;exact rfl;exact rfl;exact knA;(first|omega|(simp only[List.length_set,List.length_replicate];omega)))|(apply YO.ix;exact t6A;exact rfl;exact rfl;exact knA;(first|omega|(simp only[List.length_set,List.length_replicate];omega)))|(apply YO.ix1';exact t6A;exact rfl;exact rfl;exact knA;omega;(first|omega|(simp only[List.length_set,List.length_replicate];omega))));done)|fail):G:=h
theorem y_build {G:Prop} (h:G:=by first|((first|exact Go.Proofs.YtaongbhamadlkaaGreat.y_build|(apply YO.buildTb;exact rfl;exact rfl;exact rfl)|exact YO.buildA0|(apply YO.buildA1;exact rfl;exact rfl;exact knA)|(apply YO.buildA2;exact rfl;exact rfl;exact rfl;exact knA;exact knA)|(apply YO.buildA3;exact rfl;exact rfl;exact rfl;exact rfl;exact knA;exact knA));done)|fail):G:=h
theorem y_load {G:Prop} (h:G:=by first|(((first|(apply YO.ldON;exact t2A;exact rfl;exact meA;omega)|(apply YO.ldOV;exact t2A;exact rfl;exact meA;omega)|(apply YO.ldW;exact t4A;exact rfl;exact meA;exact rfl)|(apply YO.ld42;exact t4A;exact rfl;exact meA)|(apply YO.ld40;exact t4A;exact rfl;exact meA)|(apply YO.ld62;exact t4A;exact rfl;exact meA)|(apply YO.ld51;exact t4A;exact rfl;exact meA)|(apply YO.ldFf;exact t4A;exact rfl;exact hmA;omega)|(apply YO.ldOR;exact t4A;exact rfl;exact meA;omega)|(apply YO.ldRf;exact t4A;exact rfl;exact hmA;omega;omega)|(apply YO.ldPl;exact t4A;exact rfl;exact hmA;omega)|(apply YO.ld73;exact t4A;exact rfl;exact meA)|(apply YO.ldWI0;exact t4A;exact rfl;exact meA;(first|omega|(simp only[List.length_set,List.length_replicate];omega)))|(apply YO.ldWF0;exact t4A;exact rfl;exact hmA;(first|omega|(simp only[List.length_set,List.length_replicate];omega)))|(apply YO.ldCI;exact t2A;exact rfl;exact meA;(first|omega|(simp only[List.length_set,List.length_replicate];omega)))|(apply YO.ldFI;exact t2A;exact rfl;exact hmA;(first|omega|(simp only[List.length_set,List.length_replicate];omega)))|(apply YO.ldF;exact t2A;exact rfl;exact hmA;exact rfl)|(apply YO.ldS;exact t2A;exact rfl;exact hsA;omega)|(apply YO.ldB;exact t2A;exact rfl;exact meA;exact rfl)|(apply YO.ldOI;exact t2A;exact rfl;exact meA;(first|omega|(simp only[List.length_set,List.length_replicate];omega)))));done)|fail):G:=h
theorem y_eql {G:Prop} (h:G:=by first|((first|exact Go.Proofs.YtaongbhamadlkaaGreat.y_eql|(apply YO.eqNz_t;exact t6A;exact rfl;exact knA;assumption)|(apply YO.eqNz_f;exact t6A;exact rfl;exact knA;assumption));done)|fail):G:=h
theorem y_slice {G:Prop} (h:G:=by first|((first|exact Go.Proofs.YtaongbhamadlkaaGreat.y_slice|(apply YO.slice;exact t6A;exact rfl;exact knA;exact Or.inr ⟨_,rfl,rfl⟩;exact Or.inr ⟨_,rfl,rfl⟩;omega;omega));done)|fail):G:=h
theorem go {G G':Prop} (h:G') (s:Bx G'→G:=by
 intro h
 (first
  |refine Go.Proofs.YtaongbhamadlkaaGreat.go ?_
  |(apply WL.kl_store;rotate_left;exact rfl;(first|(apply LO.storeOI;exact rfl;exact rfl;exact t3A;exact seA;(first|omega|(simp only[List.length_set];omega)))|(apply LO.storeQ;exact rfl;exact rfl;exact t4A;exact hmA;exact seA;omega)|(apply LO.storeI;exact rfl;exact rfl;exact t3A;exact seA;(first|omega|(simp only[List.length_set,List.length_replicate];omega)))|(apply LO.storeWI;exact rfl;exact rfl;exact seA;exact t4A;(first|omega|(simp only[List.length_set,List.length_replicate];omega));(first|(simp only[List.length_map,List.length_set,List.length_replicate,ints];omega)|rfl))|(apply LO.store1;exact rfl;exact rfl;exact t3A;(first|exact One.lit rfl rfl|(apply One.sl;exact knA));exact seA;(first|(simp only[List.length_cons,List.length_nil];omega)|(simp;omega));(first|(simp only[List.set_cons_succ,List.set_cons_zero];exact rfl)|exact rfl))|(apply LO.storeO1;exact rfl;exact rfl;exact t3A;(first|exact One.lit rfl rfl|(apply One.sl;exact knA));exact seA;(first|(simp only[List.length_cons,List.length_nil];omega)|(simp;omega));(first|(simp only[List.set_cons_succ,List.set_cons_zero];exact rfl)|exact rfl))|(apply LO.storeL;exact rfl;exact rfl;exact seA;exact t4A;exact rfl;exact rfl;(repeat(first|exact OneL.nil|(apply OneL.cons;(first|exact One.lit rfl rfl|(apply One.sl;exact knA))))))))
  |fail)
 exact Bx.h h):G:=s ⟨h⟩
theorem goD {G G':Prop} (h:G') (s:Bx G'→G:=by
 intro h
 (first
  |refine Go.Proofs.YtaongbhamadlkaaGreat.goD ?_
  |(apply WD.kl_store;exact rfl;rotate_left;exact rfl;(first|(apply LO.storeOI;exact rfl;exact rfl;exact t3A;exact seA;(first|omega|(simp only[List.length_set];omega)))|(apply LO.storeQ;exact rfl;exact rfl;exact t4A;exact hmA;exact seA;omega)|(apply LO.storeI;exact rfl;exact rfl;exact t3A;exact seA;(first|omega|(simp only[List.length_set,List.length_replicate];omega)))|(apply LO.storeWI;exact rfl;exact rfl;exact seA;exact t4A;(first|omega|(simp only[List.length_set,List.length_replicate];omega));(first|(simp only[List.length_map,List.length_set,List.length_replicate,ints];omega)|rfl))|(apply LO.store1;exact rfl;exact rfl;exact t3A;(first|exact One.lit rfl rfl|(apply One.sl;exact knA));exact seA;(first|(simp only[List.length_cons,List.length_nil];omega)|(simp;omega));(first|(simp only[List.set_cons_succ,List.set_cons_zero];exact rfl)|exact rfl))|(apply LO.storeO1;exact rfl;exact rfl;exact t3A;(first|exact One.lit rfl rfl|(apply One.sl;exact knA));exact seA;(first|(simp only[List.length_cons,List.length_nil];omega)|(simp;omega));(first|(simp only[List.set_cons_succ,List.set_cons_zero];exact rfl)|exact rfl))|(apply LO.storeL;exact rfl;exact rfl;exact seA;exact t4A;exact rfl;exact rfl;(repeat(first|exact OneL.nil|(apply OneL.cons;(first|exact One.lit rfl rfl|(apply One.sl;exact knA)))))));constructor;exact ltA)
  |fail)
 exact Bx.h h):G:=s ⟨h⟩
theorem goV {G G':Prop} (h:G') (s:Bx G'→G:=by
 intro h
 (first
  |(apply WL.kl_ms;rotate_left;exact rfl;exact rfl;(apply LO.makeI;exact rfl;exact rfl;(repeat(first|(with_reducible apply NatI.add)|(with_reducible exact NatI.one)|exact NatI.cast _));omega))
  |(apply WL.kl_ms;rotate_left;exact rfl;exact rfl;(apply LO.makeR;exact rfl;exact rfl;(repeat(first|(with_reducible apply NatI.add)|(with_reducible exact NatI.one)|exact NatI.cast _));omega))
  |(apply WL.kl_bs;rotate_left;exact rfl;exact rfl;(apply LO.bsR0))
  |(apply WL.kl_bs;rotate_left;exact rfl;exact rfl;(apply LO.bsR1;exact rfl))
  |(apply WL.kl_bs;rotate_left;exact rfl;exact rfl;(apply LO.bsV1;exact rfl;exact knA))
  |(apply WL.kl_app;rotate_left;exact rfl;exact rfl;(apply LO.appR1;exact rfl;exact rfl;exact meA;exact hmA;(intro _;exact seA);omega))
  |(apply WL.kl_app;rotate_left;exact rfl;exact rfl;(apply LO.appFf;exact rfl;exact rfl;exact hmA;(intro _;exact seA);omega))
  |(apply WL.kl_app;rotate_left;exact rfl;exact rfl;(apply LO.appVV;exact rfl;exact rfl;exact meA;(apply One.sl;exact knA);(intro _;exact seA);omega))
  |(apply WL.kl_app;rotate_left;exact rfl;exact rfl;(apply LO.appNN;exact rfl;exact rfl;exact meA;(intro _;exact seA);omega))
  |(apply WL.kl_bs;rotate_left;exact rfl;exact rfl;apply LO.bs1;exact t6A;(repeat(first|exact EvP.nil|(apply EvP.cons;exact rfl)));(intro _;kernel_rfl);exact rfl;omega)
  |(apply WL.kl_app;rotate_left;exact rfl;exact rfl;apply LO.app;exact t5A;exact rfl;exact rfl;(first|(focus(apply SrcE.ints;exact hmA;done))|(focus(apply SrcE.own1;exact meA;done))|(focus(apply SrcE.one;exact meA;exact rfl;decide;done)));(intro v;exact seA);exact onA;exact leA;exact leA))
 exact Bx.h h):G:=s ⟨h⟩
theorem goDV {G G':Prop} (h:G') (s:Bx G'→G:=by
 intro h
 (first
  |(apply WD.kl_ms;exact rfl;rotate_left;exact rfl;exact rfl;(apply LO.makeI;exact rfl;exact rfl;(repeat(first|(with_reducible apply NatI.add)|(with_reducible exact NatI.one)|exact NatI.cast _));omega);apply allAnd;(intro _;exact ltA))
  |(apply WD.kl_ms;exact rfl;rotate_left;exact rfl;exact rfl;(apply LO.makeR;exact rfl;exact rfl;(repeat(first|(with_reducible apply NatI.add)|(with_reducible exact NatI.one)|exact NatI.cast _));omega);apply allAnd;(intro _;exact ltA))
  |(apply WD.kl_bs;exact rfl;rotate_left;exact rfl;exact rfl;(apply LO.bsR0);apply allAnd;(intro _;exact ltA))
  |(apply WD.kl_bs;exact rfl;rotate_left;exact rfl;exact rfl;(apply LO.bsR1;exact rfl);apply allAnd;(intro _;exact ltA))
  |(apply WD.kl_bs;exact rfl;rotate_left;exact rfl;exact rfl;(apply LO.bsV1;exact rfl;exact knA);apply allAnd;(intro _;exact ltA))
  |(apply WD.kl_app;exact rfl;rotate_left;exact rfl;exact rfl;(apply LO.appR1;exact rfl;exact rfl;exact meA;exact hmA;(intro _;exact seA);omega);apply allAnd;(intro _;exact ltA))
  |(apply WD.kl_app;exact rfl;rotate_left;exact rfl;exact rfl;(apply LO.appFf;exact rfl;exact rfl;exact hmA;(intro _;exact seA);omega);apply allAnd;(intro _;exact ltA))
  |(apply WD.kl_app;exact rfl;rotate_left;exact rfl;exact rfl;(apply LO.appVV;exact rfl;exact rfl;exact meA;(apply One.sl;exact knA);(intro _;exact seA);omega);apply allAnd;(intro _;exact ltA))
  |(apply WD.kl_app;exact rfl;rotate_left;exact rfl;exact rfl;(apply LO.appNN;exact rfl;exact rfl;exact meA;(intro _;exact seA);omega);apply allAnd;(intro _;exact ltA))
  |(apply WD.kl_bs;exact rfl;rotate_left;exact rfl;exact rfl;apply LO.bs1;exact t6A;(repeat(first|exact EvP.nil|(apply EvP.cons;exact rfl)));(intro _;kernel_rfl);exact rfl;omega;apply allAnd;(intro _;exact ltA))
  |(apply WD.kl_app;exact rfl;rotate_left;exact rfl;exact rfl;apply LO.app;exact t5A;exact rfl;exact rfl;(first|(focus(apply SrcE.ints;exact hmA;done))|(focus(apply SrcE.own1;exact meA;done))|(focus(apply SrcE.one;exact meA;exact rfl;decide;done)));(intro v;exact seA);exact onA;exact leA;exact leA;apply allAnd;(intro _;exact ltA)))
 exact Bx.h h):G:=s ⟨h⟩
theorem goLV {G G':Prop} (h:G') (s:Bx G'→G:=by
 intro h
 (first
  |refine Go.Proofs.YtaongbhamadlkaaGreat.goLV ?_
  |((apply LO.makeR;exact rfl;exact rfl;(repeat(first|(with_reducible apply NatI.add)|(with_reducible exact NatI.one)|exact NatI.cast _));omega);apply allAnd;(intro _;exact ltA))
  |((apply LO.bsR0);apply allAnd;(intro _;exact ltA))
  |((apply LO.bsR1;exact rfl);apply allAnd;(intro _;exact ltA))
  |((apply LO.bsV1;exact rfl;exact knA);apply allAnd;(intro _;exact ltA))
  |((apply LO.appR1;exact rfl;exact rfl;exact meA;exact hmA;(intro _;exact seA);omega);apply allAnd;(intro _;exact ltA))
  |((apply LO.appFf;exact rfl;exact rfl;exact hmA;(intro _;exact seA);omega);apply allAnd;(intro _;exact ltA))
  |((apply LO.appVV;exact rfl;exact rfl;exact meA;(apply One.sl;exact knA);(intro _;exact seA);omega);apply allAnd;(intro _;exact ltA))
  |((apply LO.appNN;exact rfl;exact rfl;exact meA;(intro _;exact seA);omega);apply allAnd;(intro _;exact ltA))
  |fail)
 exact Bx.h h):G:=s ⟨h⟩
theorem goLS {G G':Prop} (h:G') (s:Bx G'→G:=by
 intro h
 (first
  |((first|(apply LO.storeOI;exact rfl;exact rfl;exact t3A;exact seA;(first|omega|(simp only[List.length_set];omega)))|(apply LO.storeQ;exact rfl;exact rfl;exact t4A;exact hmA;exact seA;omega)|(apply LO.storeI;exact rfl;exact rfl;exact t3A;exact seA;(first|omega|(simp only[List.length_set,List.length_replicate];omega)))|(apply LO.storeWI;exact rfl;exact rfl;exact seA;exact t4A;(first|omega|(simp only[List.length_set,List.length_replicate];omega));(first|(simp only[List.length_map,List.length_set,List.length_replicate,ints];omega)|rfl))|(apply LO.store1;exact rfl;exact rfl;exact t3A;(first|exact One.lit rfl rfl|(apply One.sl;exact knA));exact seA;(first|(simp only[List.length_cons,List.length_nil];omega)|(simp;omega));(first|(simp only[List.set_cons_succ,List.set_cons_zero];exact rfl)|exact rfl))|(apply LO.storeO1;exact rfl;exact rfl;exact t3A;(first|exact One.lit rfl rfl|(apply One.sl;exact knA));exact seA;(first|(simp only[List.length_cons,List.length_nil];omega)|(simp;omega));(first|(simp only[List.set_cons_succ,List.set_cons_zero];exact rfl)|exact rfl))|(apply LO.storeL;exact rfl;exact rfl;exact seA;exact t4A;exact rfl;exact rfl;(repeat(first|exact OneL.nil|(apply OneL.cons;(first|exact One.lit rfl rfl|(apply One.sl;exact knA)))))));constructor;exact ltA))
 exact Bx.h h):G:=s ⟨h⟩
theorem goYT {G G':Prop} (h:G') (s:Bx G'→G:=by
 intro h
 (apply WD.yl;exact rfl;(first|(apply YO.move;exact rfl)|(apply YO.assign;exact rfl)|exact y_lss|exact y_add|exact y_len|exact y_indexAddr|exact y_load|exact y_pick|exact y_fieldAddr|exact y_eql|exact y_neq|(apply YO.nil;exact rfl)|(apply YO.extract;exact rfl;exact rfl)|exact y_gtr|exact y_geq|exact y_leq|(apply YO.sub;exact rfl;exact rfl;omega;omega)|exact y_mul|exact y_rem|exact y_quo|exact y_unot|exact y_uneg|(apply YO.max;exact rfl;exact rfl)|(apply YO.min;exact rfl;exact rfl)|exact y_makeFunc|exact y_conv|exact y_shl|(apply YO.shr';exact rfl;exact rfl;omega;omega)|exact y_and|exact y_or|(apply YO.anot;exact rfl;exact rfl)|exact y_slice);exact rfl;exact rfl)
 exact Bx.h h):G:=s ⟨h⟩
section
variable {P:Program} {n:Nat} {L rest:List Oper} {e:Env} {bx b0:List Ow} {F F0:List Fct} {Q:Env→List Ow→List Fct→Prop} {d i:Nat} {ty:TypeId} {pos:String} {af:Array Edge} {g:Option (Nat×Bool)} {hs:List Nat} {r:Plan}
 {f:FuncId} {x:Operand} {args:List Operand} {ats:Array TypeId} {vs cs:List Value} {F':List Fct} {u:Value} {el sz:Nat}
theorem WL.callV (hf:FnB P f vs [] F' (IsV u)) (hK:WL P n L rest ((d,u)::e) bx F Q) (hx:ev e x=some (.func (.func f) #[] #[]):=by exact rfl) (hv:Evs e args vs:=by repeat(first|exact Evs.nil|(apply Evs.cons;exact rfl))) (hF:HasAllB bx F F':=by repeat(first|exact HasAllB.nil|(apply HasAllB.cons;(first|(focus(apply HasB.oI;exact meA;done))|(focus(apply HasB.c;exact meA;done))|(focus(apply HasB.f;exact hsA;done))|(focus(apply HasB.fF;exact meA;exact hmA;done))|(focus(apply HasB.rows;(repeat(first|exact List.Sublist.refl _|apply List.Sublist.cons));exact hmA;done))|(focus(apply HasB.sV;exact meA;done))|(focus(apply HasB.sN;exact meA;done))))))
  (hd:Nat.blt d n=true:=by exact rfl) (hg:gok L e g=some true:=by exact rfl):WL P n L (⟨some d,.call {callee:=.value x,args:=args.toArray,argTypes:=ats},ty,pos,af,g⟩::rest) e bx F Q:=
 WL.l hd hg (LO.callRV hx hv hf hF hK)
theorem WL.callO (hf:FnB P f vs [] F' (IsO el sz cs)) (hK:∀ v,WL P n L rest ((d,v)::e) (Ow.slice v el sz cs::bx) F Q) (hx:ev e x=some (.func (.func f) #[] #[]):=by exact rfl) (hv:Evs e args vs:=by repeat(first|exact Evs.nil|(apply Evs.cons;exact rfl))) (hF:HasAllB bx F F':=by repeat(first|exact HasAllB.nil|(apply HasAllB.cons;(first|(focus(apply HasB.oI;exact meA;done))|(focus(apply HasB.c;exact meA;done))|(focus(apply HasB.f;exact hsA;done))|(focus(apply HasB.fF;exact meA;exact hmA;done))|(focus(apply HasB.rows;(repeat(first|exact List.Sublist.refl _|apply List.Sublist.cons));exact hmA;done))|(focus(apply HasB.sV;exact meA;done))|(focus(apply HasB.sN;exact meA;done))))))
  (hd:Nat.blt d n=true:=by exact rfl) (hg:gok L e g=some true:=by exact rfl):WL P n L (⟨some d,.call {callee:=.value x,args:=args.toArray,argTypes:=ats},ty,pos,af,g⟩::rest) e bx F Q:=
 WL.l hd hg (LO.callRO hx hv hf hF hK)
theorem WL.callF {R:RPost} (first cap:List Value) (hf:FnB P f (first++vs++cap) [] F' R) (hK:∀ v b G,R v b G→WL P n L rest ((d,v)::e) (b++bx) F Q) (hx:ev e x=some (.func (.func f) first.toArray cap.toArray):=by exact rfl) (hv:Evs e args vs:=by repeat(first|exact Evs.nil|(apply Evs.cons;exact rfl))) (hF:HasAllB bx F F':=by repeat(first|exact HasAllB.nil|(apply HasAllB.cons;(first|(focus(apply HasB.oI;exact meA;done))|(focus(apply HasB.c;exact meA;done))|(focus(apply HasB.f;exact hsA;done))|(focus(apply HasB.fF;exact meA;exact hmA;done))|(focus(apply HasB.rows;(repeat(first|exact List.Sublist.refl _|apply List.Sublist.cons));exact hmA;done))|(focus(apply HasB.sV;exact meA;done))|(focus(apply HasB.sN;exact meA;done))))))
  (hd:Nat.blt d n=true:=by exact rfl) (hg:gok L e g=some true:=by exact rfl):WL P n L (⟨some d,.call {callee:=.value x,args:=args.toArray,argTypes:=ats},ty,pos,af,g⟩::rest) e bx F Q:=
 WL.l hd hg (LO.callR hx hv hf hF hK)
theorem WD.callV (hf:FnB P f vs [] F' (IsV u)) (hK:WD P n L hs b0 F0 r ((d,u)::e) bx F Q) (hL:L[i]?=some ⟨some d,.call {callee:=.value x,args:=args.toArray,argTypes:=ats},ty,pos,af,g⟩:=by exact rfl) (hx:ev e x=some (.func (.func f) #[] #[]):=by exact rfl) (hv:Evs e args vs:=by repeat(first|exact Evs.nil|(apply Evs.cons;exact rfl))) (hF:HasAllB bx F F':=by repeat(first|exact HasAllB.nil|(apply HasAllB.cons;(first|(focus(apply HasB.oI;exact meA;done))|(focus(apply HasB.c;exact meA;done))|(focus(apply HasB.f;exact hsA;done))|(focus(apply HasB.fF;exact meA;exact hmA;done))|(focus(apply HasB.rows;(repeat(first|exact List.Sublist.refl _|apply List.Sublist.cons));exact hmA;done))|(focus(apply HasB.sV;exact meA;done))|(focus(apply HasB.sN;exact meA;done))))))
  (hd:Nat.blt d n=true:=by exact rfl) (hg:gok L e g=some true:=by exact rfl) (lt:lateB L hs i=true∨(b0.Sublist bx∧∀ f∈F0,f∈F):=by exact ltA):WD P n L hs b0 F0 (.loud i r) e bx F Q:=
 WD.l hL hd hg (LO.callRV hx hv hf hF ⟨lt,hK⟩)
theorem WD.callO (hf:FnB P f vs [] F' (IsO el sz cs)) (hK:∀ v,WD P n L hs b0 F0 r ((d,v)::e) (Ow.slice v el sz cs::bx) F Q) (hL:L[i]?=some ⟨some d,.call {callee:=.value x,args:=args.toArray,argTypes:=ats},ty,pos,af,g⟩:=by exact rfl) (hx:ev e x=some (.func (.func f) #[] #[]):=by exact rfl) (hv:Evs e args vs:=by repeat(first|exact Evs.nil|(apply Evs.cons;exact rfl))) (hF:HasAllB bx F F':=by repeat(first|exact HasAllB.nil|(apply HasAllB.cons;(first|(focus(apply HasB.oI;exact meA;done))|(focus(apply HasB.c;exact meA;done))|(focus(apply HasB.f;exact hsA;done))|(focus(apply HasB.fF;exact meA;exact hmA;done))|(focus(apply HasB.rows;(repeat(first|exact List.Sublist.refl _|apply List.Sublist.cons));exact hmA;done))|(focus(apply HasB.sV;exact meA;done))|(focus(apply HasB.sN;exact meA;done))))))
  (hd:Nat.blt d n=true:=by exact rfl) (hg:gok L e g=some true:=by exact rfl) (lt:lateB L hs i=true∨(b0.Sublist bx∧∀ f∈F0,f∈F):=by exact ltA):WD P n L hs b0 F0 (.loud i r) e bx F Q:=
 WD.l hL hd hg (LO.callRO hx hv hf hF fun v=>⟨lt.imp id fun h=>⟨h.1.trans (List.sublist_cons_self _ _),h.2⟩,hK v⟩)
end
end Z
end Go.Proofs.YtaongbhamadlkaaGreat
namespace Go.Proofs.YtaongbhamadlkaaGreat
namespace X
theorem pige:∀ (n:Nat) (p:Nat→Nat),(∀ i,i≤n→p i < n)→∃ i j,i < j∧j≤n∧p i=p j:=by
 intro n
 induction n with
 |zero=>intro p h;have:=h 0 (Nat.le_refl _);omega
 |succ n ih=>
  intro p h
  by_cases c:∃ i,i≤n∧p i=p (n+1)
  ·obtain⟨i,h1,h2⟩:=c;exact⟨i,n+1,by omega,Nat.le_refl _,h2⟩
  ·have hc:∀ i,i≤n→p i≠p (n+1):=fun i h1 h2=>c ⟨i,h1,h2⟩
   obtain⟨i,j,h1,h2,h3⟩:=ih (fun i=>if p i=n then p (n+1) else p i) (fun i hi=>by
    have h4:=h i (by omega)
    have h5:=h (n+1) (by omega)
    have h6:=hc i hi
    split <;> omega)
   refine⟨i,j,h1,by omega,?_⟩
   have h6:=hc i (by omega)
   have h7:=hc j (by omega)
   split at h3 <;> split at h3 <;> omega
def cod (n:Nat) (b:Nat→Nat):Nat→Nat
 |0=>0
 |i+1=>cod n b i*n+b i
theorem cod_lt {n:Nat} {b:Nat→Nat}:∀ m,(∀ i,i < m→b i < n)→cod n b m < n ^ m
 |0,_=>by simp[cod]
 |m+1,h=>by
  have h1:=cod_lt m (fun i hi=>h i (by omega))
  have h2:=h m (by omega)
  have h3:(cod n b m+1)*n≤n ^ m*n:=Nat.mul_le_mul_right _ h1
  rw[Nat.add_mul] at h3
  rw[cod,Nat.pow_succ];omega
theorem cod_inj {n:Nat} {b b':Nat→Nat}:∀ m,(∀ i,i < m→b i < n)→(∀ i,i < m→b' i < n)→cod n b m=cod n b' m→∀ i,i < m→b i=b' i
 |0,_,_,_=>fun i hi=>by omega
 |m+1,h,h',he=>fun i hi=>by
  have h1:=h m (by omega)
  have h2:=h' m (by omega)
  rw[cod,cod] at he
  have e1:(cod n b m*n+b m) % n=b m:=by rw[Nat.mul_comm,Nat.mul_add_mod,Nat.mod_eq_of_lt h1]
  have e2:(cod n b' m*n+b' m) % n=b' m:=by rw[Nat.mul_comm,Nat.mul_add_mod,Nat.mod_eq_of_lt h2]
  have e3:b m=b' m:=by rw[←e1,←e2,he]
  by_cases e:i=m
  ·rw[e];exact e3
  ·have e4:cod n b m*n=cod n b' m*n:=by omega
   exact cod_inj m (fun i hi=>h i (by omega)) (fun i hi=>h' i (by omega)) (Nat.eq_of_mul_eq_mul_right (by omega) e4) i (by omega)
theorem max_of {P:Nat→Prop}:∀ n,(∃ v,P v)→(∀ v,P v→v < n)→∃ t,P t∧∀ v,P v→v≤t
 |0,⟨v,hv⟩,h=>by have:=h v hv;omega
 |n+1,hx,h=>by
  by_cases c:P n
  ·exact⟨n,c,fun v hv=>by have:=h v hv;omega⟩
  ·exact max_of n hx fun v hv=>by
    have:=h v hv
    have:v≠n:=fun e=>c (e ▸ hv)
    omega
section
variable {m n e:Nat} {A:Nat→Nat→Rat} {c0:Nat→Rat}
theorem Stp.inv {s s':St} (h:Stp m n e s s'):∃ r k,s'=pv s r k∧k < e∧s.c k < 0∧(∀ j,j < k→0≤s.c j)∧r < m∧0 < s.t r k∧∀ i,i < m→0 < s.t i k→s.t r n / s.t r k≤s.t i n / s.t i k∧(s.t i n / s.t i k=s.t r n / s.t r k→s.b r≤s.b i):=by
 obtain⟨r,k,h1,h2⟩:=h
 rcases ent_spec s e with ⟨g,_⟩|⟨k',g1,g2,g3,g4⟩
 ·rw[h1] at g;cases g
 obtain rfl:k=k':=by rw[h1] at g1;cases g1;rfl
 rcases lev_spec n s k m with ⟨g,_⟩|⟨r',f1,f2,f3,f4⟩
 ·rw[h2] at g;cases g
 obtain rfl:r=r':=by rw[h2] at f1;cases f1;rfl
 exact⟨r,k,rfl,g2,g3,g4,f2,f3,f4⟩
theorem Inv.inj {s:St} (h:Inv m n A c0 s) {i k:Nat} (hi:i < m) (hk:k < m) (he:s.b i=s.b k):i=k:=by
 have h1:=h.u i hi k hk
 have h2:=h.u i hi i hi
 rw[if_pos rfl,he,h1] at h2
 by_cases e:i=k
 ·exact e
 ·rw[if_neg e] at h2;exact absurd h2 (by decide)
theorem Inv.non {s:St} (h:Inv m n A c0 s) {k:Nat} (hk:s.c k < 0):¬Bas m s k:=by
 rintro⟨r,hr,rfl⟩
 have:=h.z r hr
 grind
theorem no_forever {S:Nat→St} (h0:Ok m n e A c0 (S 0)) (he:e≤n) (hS:∀ i,Stp m n e (S i) (S (i+1))):False:=by
 have hok:∀ i,Ok m n e A c0 (S i):=fun i=>by
  induction i with
  |zero=>exact h0
  |succ i ih=>exact ih.stp he (hS i)
 obtain⟨R,hR⟩:=Classical.axiomOfChoice (fun p=>(hS p).inv)
 obtain⟨K,hK⟩:=Classical.axiomOfChoice hR
 clear hR
 -- a basis comes again
 obtain⟨i,j,hij,_,hcod⟩:=pige (n ^ m) (fun p=>cod n (S p).b m) (fun p _=>cod_lt m (hok p).i.bd)
 have hb:∀ r,r < m→(S i).b r=(S j).b r:=cod_inj m (hok i).i.bd (hok j).i.bd hcod
 obtain⟨_,huc⟩:=(hok i).i.uniq (hok j).i hb
 have hcn:=huc n (Nat.le_refl _)
 -- costs do not fall
 have hstep:∀ p,(S (p+1)).c n=(S p).c n - (S p).c (K p)*((S p).t (R p) n / (S p).t (R p) (K p)):=fun p=>by
  rw[(hK p).1];rfl
 have hq:∀ p,0≤(S p).t (R p) n / (S p).t (R p) (K p):=fun p=>ratio_nonneg ((hok p).f _ (hK p).2.2.2.2.1) (hK p).2.2.2.2.2.1
 have hmon1:∀ p,(S p).c n≤(S (p+1)).c n:=fun p=>by
  have h1:=Rat.mul_nonneg (show 0≤-(S p).c (K p) by have:=(hK p).2.2.1;grind) (hq p)
  rw[hstep p];grind
 have hmon:∀ d p,(S p).c n≤(S (p+d)).c n:=fun d=>by
  induction d with
  |zero=>intro p;exact Rat.le_refl
  |succ d ih=>intro p;have h1:=ih p;have h2:=hmon1 (p+d);rw[show p+(d+1)=p+d+1 by omega];grind
 have hz:∀ p,i≤p→p < j→(S p).t (R p) n=0:=fun p h1 h2=>by
  have g1:=hmon (p - i) i
  have g2:=hmon (j - (p+1)) (p+1)
  rw[show i+(p - i)=p by omega] at g1
  rw[show p+1+(j - (p+1))=j by omega] at g2
  have g3:=hmon1 p
  have g4:=hstep p
  have g5:(S p).c (K p)*((S p).t (R p) n / (S p).t (R p) (K p))=0:=by grind
  have g6:=(hK p).2.2.1
  have g7:=(hK p).2.2.2.2.2.1
  have g8:(S p).t (R p) n / (S p).t (R p) (K p)=0:=by
   rcases Rat.mul_eq_zero.1 g5 with g|g
   ·grind
   ·exact g
  have g9:(S p).t (R p) n=(S p).t (R p) n / (S p).t (R p) (K p)*(S p).t (R p) (K p):=(div_mul_self' (by grind)).symm
  rw[g9,g8];grind
 -- the values of all columns stay
 have hval:∀ p v,i≤p→p < j→(sm m fun r=>if(S (p+1)).b r=v then(S (p+1)).t r n else 0)=sm m fun r=>if(S p).b r=v then(S p).t r n else 0:=fun p v h1 h2=>by
  have g1:=hz p h1 h2
  rw[(hK p).1]
  refine sm_congr fun r hr=>?_
  show(if(if r=R p then K p else(S p).b r)=v then(if r=R p then(S p).t (R p) n / (S p).t (R p) (K p) else(S p).t r n - (S p).t r (K p)*((S p).t (R p) n / (S p).t (R p) (K p))) else 0)=_
  by_cases e:r=R p
  ·subst e
   rw[if_pos rfl,if_pos rfl,g1]
   split <;> split <;> grind
  ·rw[if_neg e,if_neg e,g1]
   split <;> grind
 have hval2:∀ d p v,i≤p→p+d≤j→(sm m fun r=>if(S (p+d)).b r=v then(S (p+d)).t r n else 0)=sm m fun r=>if(S p).b r=v then(S p).t r n else 0:=fun d=>by
  induction d with
  |zero=>intro p v _ _;rfl
  |succ d ih=>intro p v h1 h2;rw[show p+(d+1)=p+d+1 by omega,hval (p+d) v (by omega) (by omega),ih p v h1 (by omega)]
 have hval3:∀ p q v,i≤p→p≤j→i≤q→q≤j→(sm m fun r=>if(S p).b r=v then(S p).t r n else 0)=sm m fun r=>if(S q).b r=v then(S q).t r n else 0:=fun p q v h1 h2 h3 h4=>by
  have g1:=hval2 (p - i) i v (Nat.le_refl _) (by omega)
  have g2:=hval2 (q - i) i v (Nat.le_refl _) (by omega)
  rw[show i+(p - i)=p by omega] at g1
  rw[show i+(q - i)=q by omega] at g2
  rw[g1,g2]
 -- what enters and leaves
 have hent:∀ d a v,¬Bas m (S a) v→Bas m (S (a+d)) v→∃ p,a≤p∧p < a+d∧K p=v:=fun d=>by
  induction d with
  |zero=>intro a v h1 h2;exact absurd h2 h1
  |succ d ih=>
   intro a v h1 h2
   by_cases c:Bas m (S (a+d)) v
   ·obtain⟨p,p1,p2,p3⟩:=ih a v h1 c
    exact⟨p,p1,by omega,p3⟩
   ·refine⟨a+d,by omega,by omega,?_⟩
    rw[show a+(d+1)=a+d+1 by omega,(hK (a+d)).1] at h2
    obtain⟨r,r1,r2⟩:=h2
    have r2':(if r=R (a+d) then K (a+d) else(S (a+d)).b r)=v:=r2
    by_cases e:r=R (a+d)
    ·rw[if_pos e] at r2';exact r2'
    ·rw[if_neg e] at r2';exact absurd ⟨r,r1,r2'⟩ c
 have hlev:∀ d a v,Bas m (S a) v→¬Bas m (S (a+d)) v→∃ p,a≤p∧p < a+d∧(S p).b (R p)=v:=fun d=>by
  induction d with
  |zero=>intro a v h1 h2;exact absurd h1 h2
  |succ d ih=>
   intro a v h1 h2
   by_cases c:Bas m (S (a+d)) v
   ·refine⟨a+d,by omega,by omega,?_⟩
    obtain⟨r,r1,r2⟩:=c
    by_cases e:r=R (a+d)
    ·rw[←e];exact r2
    ·refine absurd ⟨r,r1,?_⟩ h2
     rw[show a+(d+1)=a+d+1 by omega,(hK (a+d)).1]
     show(if r=R (a+d) then K (a+d) else(S (a+d)).b r)=v
     rw[if_neg e];exact r2
   ·obtain⟨p,p1,p2,p3⟩:=ih a v h1 c
    exact⟨p,p1,by omega,p3⟩
 have hsame:∀ v,Bas m (S i) v↔Bas m (S j) v:=fun v=>by
  constructor
  ·rintro⟨r,r1,r2⟩;exact⟨r,r1,by rw[←hb r r1];exact r2⟩
  ·rintro⟨r,r1,r2⟩;exact⟨r,r1,by rw[hb r r1];exact r2⟩
 have hfick:∀ a b v,i≤a→a≤j→i≤b→b≤j→Bas m (S a) v→¬Bas m (S b) v→∃ p,i≤p∧p < j∧K p=v:=fun a b v h1 h2 h3 h4 h5 h6=>by
  by_cases c:b < a
  ·obtain⟨p,p1,p2,p3⟩:=hent (a - b) b v h6 (by rw[show b+(a - b)=a by omega];exact h5)
   exact⟨p,by omega,by omega,p3⟩
  ·by_cases d:Bas m (S i) v
   ·obtain⟨p,p1,p2,p3⟩:=hent (j - b) b v h6 (by rw[show b+(j - b)=j by omega];exact(hsame v).1 d)
    exact⟨p,by omega,by omega,p3⟩
   ·obtain⟨p,p1,p2,p3⟩:=hent (a - i) i v d (by rw[show i+(a - i)=a by omega];exact h5)
    exact⟨p,by omega,by omega,p3⟩
 -- the greatest one that enters
 obtain⟨t,⟨p1,a1,a2,rfl⟩,htm⟩:=max_of (P:=fun v=>∃ p,i≤p∧p < j∧K p=v) n ⟨_,i,Nat.le_refl _,hij,rfl⟩ (fun v ⟨p,_,_,h⟩=>by have:=(hK p).2.1;omega)
 have hn1:¬Bas m (S p1) (K p1):=(hok p1).i.non (hK p1).2.2.1
 have hy1:Bas m (S (p1+1)) (K p1):=by
  refine⟨R p1,(hK p1).2.2.2.2.1,?_⟩
  rw[(hK p1).1];exact if_pos rfl
 obtain⟨p2,b1,b2,b3⟩:∃ p,i≤p∧p < j∧(S p).b (R p)=K p1:=by
  by_cases d:Bas m (S i) (K p1)
  ·obtain⟨p,q1,q2,q3⟩:=hlev (p1 - i) i _ d (by rw[show i+(p1 - i)=p1 by omega];exact hn1)
   exact⟨p,by omega,by omega,q3⟩
  ·obtain⟨p,q1,q2,q3⟩:=hlev (j - (p1+1)) (p1+1) _ hy1 (by rw[show p1+1+(j - (p1+1))=j by omega];exact fun h=>d ((hsame _).2 h))
   exact⟨p,by omega,by omega,q3⟩
 obtain⟨_,k2,k3,k4,k5,k6,k7⟩:=hK p2
 obtain⟨_,l2,l3,l4,_⟩:=hK p1
 have hlt:K p2 < K p1:=by
  have h1:=htm (K p2) ⟨p2,b1,b2,rfl⟩
  have h2:K p2≠K p1:=fun h=>(hok p2).i.non k3 ⟨R p2,k5,by rw[b3,h]⟩
  omega
 have hcr:=(hok p2).i.cross (hok p1).i (j:=K p2) (by omega)
 have hpos:=l4 _ hlt
 -- some basic column has a cost there
 have hex:∃ r,r < m∧0 < (S p1).c ((S p2).b r)*(S p2).t r (K p2):=Classical.byContradiction fun hno=>by
  have:(sm m fun r=>(S p1).c ((S p2).b r)*(S p2).t r (K p2))≤sm m fun _=>0:=sm_le fun r hr=>by
   have h1:¬0 < (S p1).c ((S p2).b r)*(S p2).t r (K p2):=fun h=>hno ⟨r,hr,h⟩
   grind
  rw[sm_zero (fun _ _=>rfl)] at this
  grind
 obtain⟨r,r1,r2⟩:=hex
 have hne:r≠R p2:=fun h=>by
  subst h
  rw[b3] at r2
  have:=Rat.mul_pos (show 0 < -(S p1).c (K p1) by grind) k6
  grind
 have hnz:(S p1).c ((S p2).b r)≠0:=fun h=>by rw[h] at r2;grind
 have hnb:¬Bas m (S p1) ((S p2).b r):=by
  rintro⟨x,x1,x2⟩
  exact hnz (by rw[←x2];exact(hok p1).i.z x x1)
 have hby:Bas m (S p2) ((S p2).b r):=⟨r,r1,rfl⟩
 have hvt:=htm _ (hfick p2 p1 _ b1 (by omega) a1 (by omega) hby hnb)
 have hvt2:(S p2).b r≠K p1:=fun h=>hne ((hok p2).i.inj r1 k5 (by rw[h,b3]))
 have hcp:=l4 ((S p2).b r) (by omega)
 have htp:0 < (S p2).t r (K p2):=by
  refine Classical.byContradiction fun h=>?_
  have:=Rat.mul_nonneg hcp (show 0≤-(S p2).t r (K p2) by grind)
  grind
 -- its value is 0
 have hv0:(S p2).t r n=0:=by
  have h1:=hval3 p2 p1 ((S p2).b r) b1 (by omega) a1 (by omega)
  rw[sm_zero (f:=fun x=>if(S p1).b x=(S p2).b r then(S p1).t x n else 0) (fun x hx=>if_neg fun h=>hnb ⟨x,hx,h⟩)] at h1
  rw[sm_one r1 (fun x hx hxr=>if_neg fun h=>hxr ((hok p2).i.inj hx r1 h)),if_pos rfl] at h1
  exact h1
 have hq0:=hz p2 b1 b2
 have:=(k7 r r1 htp).2 (by rw[hv0,hq0];grind)
 rw[b3] at this
 omega
end
end X
end Go.Proofs.YtaongbhamadlkaaGreat
namespace Go.Proofs.YtaongbhamadlkaaGreat
namespace X
section
variable {m n e:Nat} {A:Nat→Nat→Rat} {c0:Nat→Rat} {s:St}
def prc (m:Nat) (c1:Nat→Rat) (s:St):St:={s with c:=fun j=>c1 j - sm m fun i=>c1 (s.b i)*s.t i j}
theorem Inv.prc (h:Inv m n A c0 s) (c1:Nat→Rat):Inv m n A c1 (prc m c1 s):=by
 obtain⟨M,hM⟩:=h.l
 refine⟨h.bd,h.u,h.l,h.r,⟨fun r=>sm m fun i=>c1 (s.b i)*M i r,fun j hj=>?_⟩,fun i hi=>?_⟩
 ·show c1 j - (sm m fun i=>c1 (s.b i)*s.t i j)=_
  congr 1
  rw[show(sm m fun i=>c1 (s.b i)*s.t i j)=sm m fun i=>sm m fun r=>(c1 (s.b i)*M i r)*A r j from sm_congr fun i hi=>by
   rw[hM i hi j hj,←sm_mul];exact sm_congr fun r _=>by grind]
  rw[sm_comm]
  exact sm_congr fun r _=>by rw[sm_mulr]
 ·show c1 (s.b i) - (sm m fun k=>c1 (s.b k)*s.t k (s.b i))=0
  rw[sm_one hi (fun k hk hki=>by rw[h.u k hk i hi,if_neg hki];grind),h.u i hi i hi,if_pos rfl];grind
def runP (m n e:Nat):Nat→St→Option (St×Option Nat)
 |0,_=>none
 |F+1,s=>match ent s e with
  |none=>some (s,none)
  |some k=>match lev n s k m with
   |none=>some (s,some k)
   |some r=>runP m n e F (pv s r k)
def stp (m n e:Nat) (s:St):St:=match ent s e with
 |none=>s
 |some k=>match lev n s k m with
  |none=>s
  |some r=>pv s r k
def its (m n e:Nat) (s:St):Nat→St
 |0=>s
 |i+1=>stp m n e (its m n e s i)
theorem its_stp (s:St):∀ i,its m n e s (i+1)=its m n e (stp m n e s) i
 |0=>rfl
 |i+1=>by
  show stp m n e (its m n e s (i+1))=stp m n e (its m n e (stp m n e s) i)
  rw[its_stp s i]
theorem run_none:∀ (F:Nat) (s:St),runP m n e F s=none→∀ i,i < F→Stp m n e (its m n e s i) (its m n e s (i+1)):=by
 intro F
 induction F with
 |zero=>intro s _ i hi;omega
 |succ F ih=>
  intro s h i hi
  unfold runP at h
  split at h
  ·cases h
  ·rename_i k h1
   split at h
   ·cases h
   ·rename_i r h2
    have hs:stp m n e s=pv s r k:=by unfold stp;rw[h1];simp only;rw[h2]
    cases i with
    |zero=>show Stp m n e s (stp m n e s);rw[hs];exact .mk r k h1 h2
    |succ i=>
     rw[its_stp,its_stp,hs]
     exact ih _ h i (by omega)
theorem run_ends (h:Ok m n e A c0 s) (he:e≤n):∃ F x,runP m n e F s=some x:=Classical.byContradiction fun hno=>by
 refine no_forever (S:=its m n e s) h he fun i=>?_
 refine run_none (i+1) s ?_ i (by omega)
 cases hr:runP m n e (i+1) s with
 |none=>rfl
 |some x=>exact absurd ⟨_,_,hr⟩ hno
theorem run_ind {P:St→Prop} (hp:∀ s s',P s→Stp m n e s s'→P s'):∀ (F:Nat) (s:St) (x:St×Option Nat),P s→runP m n e F s=some x→P x.1:=by
 intro F
 induction F with
 |zero=>intro s x _ h;cases h
 |succ F ih=>
  intro s x h1 h
  unfold runP at h
  split at h
  ·cases h;exact h1
  ·rename_i k g1
   split at h
   ·cases h;exact h1
   ·rename_i r g2;exact ih _ x (hp _ _ h1 (.mk r k g1 g2)) h
theorem run_end:∀ (F:Nat) (s:St) (x:St×Option Nat),runP m n e F s=some x→(x.2=none∧∀ k,k < e→0≤x.1.c k)∨∃ k,x.2=some k∧k < e∧x.1.c k < 0∧∀ i,i < m→x.1.t i k≤0:=by
 intro F
 induction F with
 |zero=>intro s x h;cases h
 |succ F ih=>
  intro s x h
  unfold runP at h
  split at h
  ·rename_i g
   cases h
   rcases ent_spec s e with ⟨_,g2⟩|⟨k,g2,_⟩
   ·exact .inl ⟨rfl,g2⟩
   ·rw[g] at g2;cases g2
  ·rename_i k g1
   split at h
   ·rename_i g2
    cases h
    rcases ent_spec s e with ⟨g,_⟩|⟨k',g,g3,g4,_⟩
    ·rw[g1] at g;cases g
    obtain rfl:k=k':=by rw[g1] at g;cases g;rfl
    rcases lev_spec n s k m with ⟨_,f2⟩|⟨r,f1,_⟩
    ·exact .inr ⟨k,rfl,g3,g4,f2⟩
    ·rw[g2] at f1;cases f1
   ·rename_i r g2;exact ih _ x h
theorem run_ok (h:Ok m n e A c0 s) (he:e≤n) {F:Nat} {x:St×Option Nat} (hx:runP m n e F s=some x):Ok m n e A c0 x.1:=run_ind (fun _ _ h1 h2=>Ok.stp h1 he h2) F s x h hx
def drS (last:Nat) (s:St) (i:Nat):St:=if s.b i < last then s else match fstT (fun k=>decide (s.t i k≠0)) last 0 with
 |none=>s
 |some k=>pv s i k
def drP (last:Nat) (s:St):Nat→St
 |0=>s
 |i+1=>drS last (drP last s i) i
def Emp (m n last:Nat) (s:St) (q:Nat):Prop:=∀ i,i < m→last≤s.b i→s.t i n=0∧(i < q→∀ k,k < last→s.t i k=0)
theorem emp_step {last q:Nat} (hl:last≤n) (h:Ok m n e A c0 s) (hq:q < m) (he:Emp m n last s q):Ok m n e A c0 (drS last s q)∧Emp m n last (drS last s q) (q+1):=by
 unfold drS
 by_cases c:s.b q < last
 ·rw[if_pos c]
  refine⟨h,fun i hi hb=>⟨(he i hi hb).1,fun hiq=>?_⟩⟩
  by_cases e1:i=q
  ·subst e1;omega
  ·exact(he i hi hb).2 (by omega)
 ·rw[if_neg c]
  rcases fstT_spec (fun k=>decide (s.t q k≠0)) last 0 with ⟨h1,h2⟩|⟨k,h1,_,h3,h4,_⟩
  ·rw[h1]
   refine⟨h,fun i hi hb=>⟨(he i hi hb).1,fun hiq k hk=>?_⟩⟩
   by_cases e1:i=q
   ·subst e1
    have:=of_decide_eq_false (h2 k (by omega) (by omega))
    exact Classical.byContradiction fun h=>this h
   ·exact(he i hi hb).2 (by omega) k hk
  ·rw[h1]
   have hk:=of_decide_eq_true h4
   have hq0:=(he q hq (by omega)).1
   have hn:∀ i,(pv s q k).t i n=s.t i n:=fun i=>by
    show(if i=q then s.t q n / s.t q k else s.t i n - s.t i k*(s.t q n / s.t q k))=_
    by_cases e1:i=q
    ·rw[if_pos e1,e1,hq0];grind
    ·rw[if_neg e1,hq0];grind
   refine⟨⟨h.i.pv hq (by omega) hk,fun i hi=>by rw[hn];exact h.f i hi⟩,fun i hi hb=>?_⟩
   have hb':last≤(if i=q then k else s.b i):=hb
   have e1:i≠q:=fun e1=>by rw[if_pos e1] at hb';omega
   rw[if_neg e1] at hb'
   refine⟨by rw[hn];exact(he i hi hb').1,fun hiq j hj=>?_⟩
   have g:=(he i hi hb').2 (by omega)
   show(if i=q then s.t q j / s.t q k else s.t i j - s.t i k*(s.t q j / s.t q k))=0
   rw[if_neg e1,g j hj,g k (by omega)];grind
theorem emp_all {last:Nat} (hl:last≤n) (h:Ok m n e A c0 s) (he:Emp m n last s 0):∀ q,q≤m→Ok m n e A c0 (drP last s q)∧Emp m n last (drP last s q) q
 |0,_=>⟨h,he⟩
 |q+1,hq=>by
  obtain⟨h1,h2⟩:=emp_all hl h he q (by omega)
  exact emp_step hl h1 (by omega) h2
theorem emp_stp {last:Nat} {s':St} (he:e≤last) (h:Ok m n e A c0 s) (hn:e≤n) (hm:Emp m n last s m) (hs:Stp m n e s s'):Emp m n last s' m:=by
 obtain⟨r,k,rfl,g2,g3,g4,f2,f3,f4⟩:=hs.inv
 have hr:s.b r < last:=Classical.byContradiction fun c=>by
  have:=(hm r f2 (by omega)).2 f2 k (by omega)
  grind
 intro i hi hb
 have hb':last≤(if i=r then k else s.b i):=hb
 have e1:i≠r:=fun e1=>by rw[if_pos e1] at hb';omega
 rw[if_neg e1] at hb'
 have g:=(hm i hi hb').2 hi
 have g0:=(hm i hi hb').1
 refine⟨?_,fun _ j hj=>?_⟩
 ·show(if i=r then s.t r n / s.t r k else s.t i n - s.t i k*(s.t r n / s.t r k))=0
  rw[if_neg e1,g0,g k (by omega)];grind
 ·show(if i=r then s.t r j / s.t r k else s.t i j - s.t i k*(s.t r j / s.t r k))=0
  rw[if_neg e1,g j hj,g k (by omega)];grind
end
end X
end Go.Proofs.YtaongbhamadlkaaGreat
namespace Go.Proofs.YtaongbhamadlkaaGreat
namespace X
structure Lp where
 v:Nat
 m:Nat
 a:Nat→Nat→Rat
 b:Nat→Rat
 g:Nat→Rat
def Lp.sg (p:Lp) (r:Nat):Rat:=if p.b r < 0 then -1 else 1
def Lp.la (p:Lp):Nat:=2*p.v+p.m
def Lp.n (p:Lp):Nat:=2*p.v+2*p.m
def Lp.A (p:Lp) (r j:Nat):Rat:=
 if j < p.v then p.sg r*p.a r j else if j < 2*p.v then -(p.sg r*p.a r (j - p.v)) else if j < p.la then(if j=2*p.v+r then p.sg r else 0)
 else if j < p.n then(if j=p.la+r∧p.b r < 0 then 1 else 0) else p.sg r*p.b r
def Lp.s0 (p:Lp):St where
 t:=p.A
 c _:=0
 b i:=if p.b i < 0 then p.la+i else 2*p.v+i
section
variable {p:Lp}
theorem sg_sq (r:Nat):p.sg r*p.sg r=1:=by unfold Lp.sg;split <;> grind
theorem A_art {r i:Nat} (hi:i < p.m):p.A r (p.s0.b i)=if r=i then 1 else 0:=by
 show p.A r (if p.b i < 0 then p.la+i else 2*p.v+i)=_
 unfold Lp.A Lp.la Lp.n
 by_cases c:p.b i < 0
 ·rw[if_pos c,if_neg (by omega),if_neg (by omega),if_neg (by omega),if_pos (by omega)]
  by_cases e:r=i
  ·subst e;rw[if_pos ⟨rfl,c⟩,if_pos rfl]
  ·rw[if_neg (by omega),if_neg e]
 ·rw[if_neg c,if_neg (by omega),if_neg (by omega),if_pos (by omega)]
  by_cases e:r=i
  ·subst e;rw[if_pos rfl,if_pos rfl];unfold Lp.sg;rw[if_neg c]
  ·rw[if_neg (by omega),if_neg e]
theorem inv0:Inv p.m p.n p.A (fun _=>0) p.s0:=by
 refine⟨fun i hi=>?_,fun i hi k hk=>?_,⟨fun i r=>if i=r then 1 else 0,fun i hi j hj=>?_⟩,fun r hr j hj=>?_,⟨fun _=>0,fun j hj=>?_⟩,fun _ _=>rfl⟩
 ·show(if p.b i < 0 then p.la+i else 2*p.v+i) < p.n
  unfold Lp.la Lp.n
  split <;> omega
 ·exact A_art hk
 ·show p.A i j=sm p.m fun r=>(if i=r then(1:Rat) else 0)*p.A r j
  rw[sm_one hi (fun r _ hr=>by rw[if_neg (fun e=>hr e.symm)];grind),if_pos rfl]
  grind
 ·rw[sm_one hr (fun i hi hir=>by rw[A_art hi,if_neg (fun e=>hir e.symm)];grind),A_art hr,if_pos rfl]
  show _=1*p.A r j
  grind
 ·rw[sm_zero (fun _ _=>by grind)]
  show(0:Rat)=0 - 0
  grind
theorem A_n (r:Nat):p.A r p.n=p.sg r*p.b r:=by
 unfold Lp.A Lp.la Lp.n
 rw[if_neg (by omega),if_neg (by omega),if_neg (by omega),if_neg (by omega)]
theorem ok0 (e:Nat):Ok p.m p.n e p.A (fun _=>0) p.s0:=⟨inv0,fun i _=>by
 show 0≤p.A i p.n
 rw[A_n];unfold Lp.sg;split <;> grind⟩
theorem Ok.prc {m n e e':Nat} {A:Nat→Nat→Rat} {c0:Nat→Rat} {s:St} (h:Ok m n e A c0 s) (c1:Nat→Rat):Ok m n e' A c1 (prc m c1 s):=⟨h.i.prc c1,h.f⟩
theorem Ok.any {m n e e':Nat} {A:Nat→Nat→Rat} {c0:Nat→Rat} {s:St} (h:Ok m n e A c0 s):Ok m n e' A c0 s:=⟨h.i,h.f⟩
def Lp.c1 (p:Lp) (j:Nat):Rat:=if p.la≤j∧j < p.n then 1 else 0
def Lp.c2 (p:Lp) (j:Nat):Rat:=if j < p.v then -p.g j else if j < 2*p.v then p.g (j - p.v) else 0
theorem sm_null {n:Nat} {f:Nat→Rat}:(∀ i,i < n→0≤f i)→sm n f≤0→∀ i,i < n→f i=0:=fun h h2 i hi=>by
 rw[sm_split hi] at h2
 have h3:0≤sm n (fun k=>if k=i then 0 else f k):=sm_nonneg fun k hk=>by
  by_cases e:k=i
  ·rw[if_pos e];exact Rat.le_refl
  ·rw[if_neg e];exact h k hk
 have:=h i hi
 grind
theorem phase1 {F:Nat} {x:St×Option Nat} (hx:runP p.m p.n p.n F (prc p.m p.c1 p.s0)=some x):x.2=none∧Ok p.m p.n p.n p.A p.c1 x.1∧(∀ k,k < p.n→0≤x.1.c k)∧(¬x.1.c p.n < 0→Emp p.m p.n p.la x.1 0):=by
 have hok:=run_ok ((ok0 (p:=p) p.n).prc (e':=p.n) p.c1) (Nat.le_refl _) hx
 have hc1:∀ j,0≤p.c1 j:=fun j=>by unfold Lp.c1;split <;> decide
 have hend:x.2=none∧∀ k,k < p.n→0≤x.1.c k:=by
  rcases run_end F _ x hx with h|⟨k,h1,h2,h3,h4⟩
  ·exact h
  ·have h5:=hok.i.cost (j:=k) (by omega)
   have h6:sm p.m (fun i=>p.c1 (x.1.b i)*x.1.t i k)≤sm p.m fun _=>0:=sm_le fun i hi=>by
    have:=Rat.mul_nonneg (hc1 (x.1.b i)) (show 0≤-x.1.t i k by have:=h4 i hi;grind)
    grind
   rw[sm_zero (fun _ _=>rfl)] at h6
   have:=hc1 k
   grind
 refine⟨hend.1,hok,hend.2,fun hn i hi hb=>⟨?_,fun h=>by omega⟩⟩
 have h5:=hok.i.cost (j:=p.n) (Nat.le_refl _)
 have h7:p.c1 p.n=0:=by unfold Lp.c1;rw[if_neg (by omega)]
 have h6:=sm_null (n:=p.m) (f:=fun i=>p.c1 (x.1.b i)*x.1.t i p.n) (fun i hi=>Rat.mul_nonneg (hc1 _) (hok.f i hi)) (by grind) i hi
 have h8:p.c1 (x.1.b i)=1:=by unfold Lp.c1;rw[if_pos ⟨hb,hok.i.bd i hi⟩]
 simp only[h8] at h6
 grind
def wt (m:Nat) (s:St) (q:Nat→Rat) (j:Nat):Rat:=sm m fun i=>if s.b i=j then q i else 0
theorem A_eq {r j:Nat} (hj:j < p.la) (q:Rat):p.A r j*q=p.sg r*(sm p.v (fun k=>p.a r k*((if j=k then q else 0) - (if j=p.v+k then q else 0)))+(if j=2*p.v+r then q else 0)):=by
 unfold Lp.A Lp.la at *
 by_cases c1:j < p.v
 ·rw[if_pos c1,sm_one c1 (fun k hk hkj=>by rw[if_neg (fun e=>hkj e.symm),if_neg (by omega)];grind),if_pos rfl,if_neg (by omega),if_neg (by omega)];grind
 ·rw[if_neg c1]
  by_cases c2:j < 2*p.v
  ·rw[if_pos c2,sm_one (r:=j - p.v) (by omega) (fun k hk hkj=>by rw[if_neg (by omega),if_neg (by omega)];grind),if_neg (by omega),if_pos (by omega),if_neg (by omega)];grind
  ·rw[if_neg c2,if_pos hj,sm_zero (fun k hk=>by rw[if_neg (by omega),if_neg (by omega)];grind)]
   split <;> grind
theorem row_sum {s:St} {q:Nat→Rat} (hq:∀ i,i < p.m→p.la≤s.b i→q i=0) (r:Nat):(sm p.m fun i=>p.A r (s.b i)*q i)=p.sg r*(sm p.v (fun k=>p.a r k*(wt p.m s q k - wt p.m s q (p.v+k)))+wt p.m s q (2*p.v+r)):=by
 rw[show(sm p.m fun i=>p.A r (s.b i)*q i)=sm p.m fun i=>p.sg r*(sm p.v (fun k=>p.a r k*((if s.b i=k then q i else 0) - (if s.b i=p.v+k then q i else 0)))+(if s.b i=2*p.v+r then q i else 0)) from sm_congr fun i hi=>by
  by_cases c:s.b i < p.la
  ·exact A_eq c (q i)
  ·rw[hq i hi (by omega),sm_zero (fun k _=>by split <;> split <;> grind)]
   split <;> grind]
 rw[sm_mul,sm_add,sm_comm]
 congr 1
 rw[show(sm p.v fun k=>sm p.m fun i=>p.a r k*((if s.b i=k then q i else 0) - (if s.b i=p.v+k then q i else 0)))=sm p.v fun k=>p.a r k*(wt p.m s q k - wt p.m s q (p.v+k)) from sm_congr fun k _=>by
  rw[sm_mul,sm_sub];rfl]
 rfl
theorem c2_eq (j:Nat) (q:Rat):p.c2 j*q= -sm p.v (fun k=>p.g k*((if j=k then q else 0) - (if j=p.v+k then q else 0))):=by
 unfold Lp.c2
 by_cases c1:j < p.v
 ·rw[if_pos c1,sm_one c1 (fun k hk hkj=>by rw[if_neg (fun e=>hkj e.symm),if_neg (by omega)];grind),if_pos rfl,if_neg (by omega)];grind
 ·rw[if_neg c1]
  by_cases c2:j < 2*p.v
  ·rw[if_pos c2,sm_one (r:=j - p.v) (by omega) (fun k hk hkj=>by rw[if_neg (by omega),if_neg (by omega)];grind),if_neg (by omega),if_pos (by omega)];grind
  ·rw[if_neg c2,sm_zero (fun k hk=>by rw[if_neg (by omega),if_neg (by omega)];grind)];grind
theorem c2_sum {s:St} {q:Nat→Rat}:(sm p.m fun i=>p.c2 (s.b i)*q i)= -sm p.v (fun k=>p.g k*(wt p.m s q k - wt p.m s q (p.v+k))):=by
 rw[show(sm p.m fun i=>p.c2 (s.b i)*q i)=sm p.m fun i=>(-1)*sm p.v (fun k=>p.g k*((if s.b i=k then q i else 0) - (if s.b i=p.v+k then q i else 0))) from sm_congr fun i _=>by rw[c2_eq];grind]
 rw[sm_mul,sm_comm]
 rw[show(sm p.v fun k=>sm p.m fun i=>p.g k*((if s.b i=k then q i else 0) - (if s.b i=p.v+k then q i else 0)))=sm p.v fun k=>p.g k*(wt p.m s q k - wt p.m s q (p.v+k)) from sm_congr fun k _=>by
  rw[sm_mul,sm_sub];rfl]
 grind
end
end X
end Go.Proofs.YtaongbhamadlkaaGreat
namespace Go.Proofs.YtaongbhamadlkaaGreat
namespace X
section
variable {p:Lp} {c0:Nat→Rat} {s:St}
theorem dual (h:Inv p.m p.n p.A c0 s) (hc:∀ j,2*p.v≤j→j < p.la→c0 j=0) :
  (∀ k,k < p.v→s.c k=c0 k+sm p.m fun r=>s.c (2*p.v+r)*p.a r k)∧(∀ k,k < p.v→s.c (p.v+k)=c0 (p.v+k) - sm p.m fun r=>s.c (2*p.v+r)*p.a r k)∧s.c p.n=c0 p.n+sm p.m fun r=>s.c (2*p.v+r)*p.b r:=by
 obtain⟨w,hw⟩:=h.w
 have hy:∀ r,r < p.m→s.c (2*p.v+r)= -(w r*p.sg r):=fun r hr=>by
  rw[hw _ (by unfold Lp.n;omega),hc _ (by omega) (by unfold Lp.la;omega)]
  rw[sm_one hr (fun i hi hir=>by
   unfold Lp.A Lp.la
   rw[if_neg (by omega),if_neg (by omega),if_pos (by omega),if_neg (by omega)];grind)]
  unfold Lp.A Lp.la
  rw[if_neg (by omega),if_neg (by omega),if_pos (by omega),if_pos rfl];grind
 refine⟨fun k hk=>?_,fun k hk=>?_,?_⟩
 ·rw[hw k (by unfold Lp.n;omega)]
  rw[show(sm p.m fun r=>w r*p.A r k)=sm p.m fun r=>(-1)*(s.c (2*p.v+r)*p.a r k) from sm_congr fun r hr=>by
   rw[hy r hr];unfold Lp.A;rw[if_pos hk];grind]
  rw[sm_mul];grind
 ·rw[hw _ (by unfold Lp.n;omega)]
  congr 1
  exact sm_congr fun r hr=>by
   rw[hy r hr];unfold Lp.A;rw[if_neg (by omega),if_pos (by omega),show p.v+k - p.v=k by omega];grind
 ·rw[hw _ (Nat.le_refl _)]
  rw[show(sm p.m fun r=>w r*p.A r p.n)=sm p.m fun r=>(-1)*(s.c (2*p.v+r)*p.b r) from sm_congr fun r hr=>by
   rw[hy r hr,A_n];grind]
  rw[sm_mul];grind
def xs (p:Lp) (s:St) (k:Nat):Rat:=wt p.m s (fun i=>s.t i p.n) k - wt p.m s (fun i=>s.t i p.n) (p.v+k)
theorem wt_nonneg {m:Nat} {q:Nat→Rat} (h:∀ i,i < m→0≤q i) (j:Nat):0≤wt m s q j:=sm_nonneg fun i hi=>by
 by_cases e:s.b i=j
 ·rw[if_pos e];exact h i hi
 ·rw[if_neg e];exact Rat.le_refl
theorem sg_cancel {r:Nat} {x y:Rat} (h:p.sg r*x=p.sg r*y):x=y:=by
 have h1:=@sg_sq p r
 have h2:p.sg r*(p.sg r*x)=p.sg r*(p.sg r*y):=by rw[h]
 grind
theorem primal {e:Nat} (h:Ok p.m p.n e p.A c0 s) (he:∀ i,i < p.m→p.la≤s.b i→s.t i p.n=0) {r:Nat} (hr:r < p.m):sm p.v (fun k=>p.a r k*xs p s k)≤p.b r:=by
 have h1:=h.i.r r hr p.n (Nat.le_refl _)
 rw[A_n,row_sum he] at h1
 have h2:=sg_cancel h1
 have h3:=wt_nonneg (s:=s) h.f (2*p.v+r)
 unfold xs
 grind
theorem value (h:Inv p.m p.n p.A p.c2 s):s.c p.n=sm p.v fun k=>p.g k*xs p s k:=by
 rw[h.cost (Nat.le_refl _),c2_sum]
 have:p.c2 p.n=0:=by unfold Lp.c2 Lp.n;rw[if_neg (by omega),if_neg (by omega)]
 rw[this];unfold xs;grind
theorem ite_sym (a b:Nat):(if a=b then(1:Rat) else 0)=if b=a then 1 else 0:=by
 by_cases e:a=b
 ·rw[if_pos e,if_pos e.symm]
 ·rw[if_neg e,if_neg (fun h=>e h.symm)]
def rv (p:Lp) (s:St) (col j:Nat):Rat:=(if j=col then 1 else 0) - wt p.m s (fun i=>s.t i col) j
def dr (p:Lp) (s:St) (col k:Nat):Rat:=rv p s col k - rv p s col (p.v+k)
theorem ray_line (h:Inv p.m p.n p.A c0 s) {col:Nat} (hc:col < p.la) (he:∀ i,i < p.m→p.la≤s.b i→s.t i col=0) (hn:∀ i,i < p.m→s.t i col≤0) {r:Nat} (hr:r < p.m):sm p.v (fun k=>p.a r k*dr p s col k)≤0:=by
 have hcn:col≤p.n:=by unfold Lp.la Lp.n at *;omega
 have h1:=h.r r hr col hcn
 rw[row_sum he] at h1
 have h2:=A_eq (p:=p) (r:=r) hc 1
 have h3:0≤wt p.m s (fun i=>-s.t i col) (2*p.v+r):=wt_nonneg (fun i hi=>by have:=hn i hi;grind) _
 have h4:wt p.m s (fun i=>-s.t i col) (2*p.v+r)=(-1)*wt p.m s (fun i=>s.t i col) (2*p.v+r):=by
  unfold wt;rw[←sm_mul];exact sm_congr fun i _=>by split <;> grind
 have h5:p.A r col*1=p.A r col:=by grind
 rw[h5,h1] at h2
 have h6:=sg_cancel h2
 have h7:(sm p.v fun k=>p.a r k*dr p s col k)=sm p.v (fun k=>p.a r k*((if col=k then 1 else 0) - (if col=p.v+k then 1 else 0))) - sm p.v (fun k=>p.a r k*(wt p.m s (fun i=>s.t i col) k - wt p.m s (fun i=>s.t i col) (p.v+k))):=by
  rw[←sm_sub]
  exact sm_congr fun k _=>by
   unfold dr rv
   have e1:=ite_sym k col
   have e2:=ite_sym (p.v+k) col
   rw[e1,e2];grind
 rw[h7]
 by_cases e:col=2*p.v+r
 ·rw[if_pos e] at h6;grind
 ·rw[if_neg e] at h6;grind
theorem ray_goal (h:Inv p.m p.n p.A p.c2 s) {col:Nat} (hc:col < p.la) (hn:s.c col < 0):0 < sm p.v fun k=>p.g k*dr p s col k:=by
 have hcn:col≤p.n:=by unfold Lp.la Lp.n at *;omega
 have h1:=h.cost hcn
 rw[c2_sum] at h1
 have h2:=c2_eq (p:=p) col 1
 have h7:(sm p.v fun k=>p.g k*dr p s col k)=sm p.v (fun k=>p.g k*((if col=k then 1 else 0) - (if col=p.v+k then 1 else 0))) - sm p.v (fun k=>p.g k*(wt p.m s (fun i=>s.t i col) k - wt p.m s (fun i=>s.t i col) (p.v+k))):=by
  rw[←sm_sub]
  exact sm_congr fun k _=>by
   unfold dr rv
   have e1:=ite_sym k col
   have e2:=ite_sym (p.v+k) col
   rw[e1,e2];grind
 rw[h7];grind
def IsInf (p:Lp) (y:Nat→Rat):Prop:=(∀ r,r < p.m→0≤y r)∧(∀ k,k < p.v→sm p.m (fun r=>y r*p.a r k)=0)∧sm p.m (fun r=>y r*p.b r) < 0
def IsPt (p:Lp) (x:Nat→Rat):Prop:=∀ r,r < p.m→sm p.v (fun k=>p.a r k*x k)≤p.b r
def IsOpt (p:Lp) (x y:Nat→Rat) (z:Rat):Prop:=IsPt p x∧(∀ r,r < p.m→0≤y r)∧(∀ k,k < p.v→sm p.m (fun r=>y r*p.a r k)=p.g k)∧sm p.m (fun r=>y r*p.b r)=z∧sm p.v (fun k=>p.g k*x k)=z
def IsUnb (p:Lp) (x d:Nat→Rat):Prop:=IsPt p x∧(∀ r,r < p.m→sm p.v (fun k=>p.a r k*d k)≤0)∧0 < sm p.v fun k=>p.g k*d k
theorem first_inf {F:Nat} {x:St×Option Nat} (hx:runP p.m p.n p.n F (prc p.m p.c1 p.s0)=some x) (hn:x.1.c p.n < 0):IsInf p (fun r=>x.1.c (2*p.v+r)):=by
 obtain⟨_,h2,h3,_⟩:=phase1 hx
 obtain⟨d1,d2,d3⟩:=dual h2.i (fun j h1 h2=>by unfold Lp.c1;rw[if_neg (by omega)])
 have z:∀ j,j < p.la→p.c1 j=0:=fun j h=>by unfold Lp.c1;rw[if_neg (by omega)]
 have zn:p.c1 p.n=0:=by unfold Lp.c1;rw[if_neg (by omega)]
 refine⟨fun r hr=>h3 _ (by unfold Lp.n;omega),fun k hk=>?_,?_⟩
 ·have e1:=d1 k hk
  have e2:=d2 k hk
  have e3:=h3 k (by unfold Lp.n;omega)
  have e4:=h3 (p.v+k) (by unfold Lp.n;omega)
  rw[z _ (by unfold Lp.la;omega)] at e1 e2
  grind
 ·rw[zn] at d3;grind
theorem second {F G:Nat} {x y:St×Option Nat} (hx:runP p.m p.n p.n F (prc p.m p.c1 p.s0)=some x) (hn:¬x.1.c p.n < 0) (hy:runP p.m p.n p.la G (prc p.m p.c2 (drP p.la x.1 p.m))=some y) :
  (y.2=none∧IsOpt p (xs p y.1) (fun r=>y.1.c (2*p.v+r)) (sm p.v fun k=>p.g k*xs p y.1 k))∨∃ col,y.2=some col∧IsUnb p (xs p y.1) (dr p y.1 col):=by
 obtain⟨_,h2,_,h4⟩:=phase1 hx
 have hl:p.la≤p.n:=by unfold Lp.la Lp.n;omega
 obtain⟨k1,k2⟩:=emp_all (e:=p.n) hl h2 (h4 hn) p.m (Nat.le_refl _)
 have hk:Ok p.m p.n p.la p.A p.c2 (prc p.m p.c2 (drP p.la x.1 p.m)):=k1.prc p.c2
 obtain⟨hok,hem⟩:=run_ind (P:=fun s=>Ok p.m p.n p.la p.A p.c2 s∧Emp p.m p.n p.la s p.m) (fun s s' h hs=>⟨h.1.stp hl hs,emp_stp (Nat.le_refl _) h.1 hl h.2 hs⟩) G _ y ⟨hk,k2⟩ hy
 have hpt:IsPt p (xs p y.1):=fun r hr=>primal hok (fun i hi hb=>(hem i hi hb).1) hr
 rcases run_end G _ y hy with ⟨g1,g2⟩|⟨col,g1,g2,g3,g4⟩
 ·refine .inl ⟨g1,hpt,fun r hr=>g2 _ (by unfold Lp.la;omega),fun k hk=>?_,?_,rfl⟩
  ·obtain⟨d1,d2,_⟩:=dual hok.i (fun j h1 h2=>by unfold Lp.c2 Lp.la at *;rw[if_neg (by omega),if_neg (by omega)])
   have e1:=d1 k hk
   have e2:=d2 k hk
   have e3:=g2 k (by unfold Lp.la;omega)
   have e4:=g2 (p.v+k) (by unfold Lp.la;omega)
   have z1:p.c2 k= -p.g k:=by unfold Lp.c2;rw[if_pos hk]
   have z2:p.c2 (p.v+k)=p.g k:=by unfold Lp.c2;rw[if_neg (by omega),if_pos (by omega),show p.v+k - p.v=k by omega]
   rw[z1] at e1
   rw[z2] at e2
   grind
  ·obtain⟨_,_,d3⟩:=dual hok.i (fun j h1 h2=>by unfold Lp.c2 Lp.la at *;rw[if_neg (by omega),if_neg (by omega)])
   have z:p.c2 p.n=0:=by unfold Lp.c2 Lp.n;rw[if_neg (by omega),if_neg (by omega)]
   rw[z,value hok.i] at d3
   grind
 ·exact .inr ⟨col,g1,hpt,fun r hr=>ray_line hok.i g2 (fun i hi hb=>(hem i hi hb).2 hi col g2) g4 hr,ray_goal hok.i g2 g3⟩
end
end X
end Go.Proofs.YtaongbhamadlkaaGreat
namespace Go.Proofs.YtaongbhamadlkaaGreat
namespace X
section
variable {p:Lp}
theorem sm_swap {y x:Nat→Rat}:(sm p.v fun k=>(sm p.m fun r=>y r*p.a r k)*x k)=sm p.m fun r=>y r*sm p.v fun k=>p.a r k*x k:=by
 rw[show(sm p.v fun k=>(sm p.m fun r=>y r*p.a r k)*x k)=sm p.v fun k=>sm p.m fun r=>y r*(p.a r k*x k) from sm_congr fun k _=>by
  rw[←sm_mulr];exact sm_congr fun r _=>by grind]
 rw[sm_comm]
 exact sm_congr fun r _=>sm_mul _ _
theorem pt_le {x y:Nat→Rat} {h:Nat→Rat} (hx:IsPt p x) (hy:∀ r,r < p.m→0≤y r) (hg:∀ k,k < p.v→sm p.m (fun r=>y r*p.a r k)=h k):sm p.v (fun k=>h k*x k)≤sm p.m fun r=>y r*p.b r:=by
 rw[show(sm p.v fun k=>h k*x k)=sm p.v fun k=>(sm p.m fun r=>y r*p.a r k)*x k from sm_congr fun k hk=>by rw[hg k hk],sm_swap]
 refine sm_le fun r hr=>?_
 have h1:=Rat.mul_nonneg (hy r hr) (show 0≤p.b r - sm p.v (fun k=>p.a r k*x k) by have:=hx r hr;grind)
 grind
theorem inf_no {x y:Nat→Rat} (h:IsInf p y):¬IsPt p x:=fun hx=>by
 have h1:=pt_le hx h.1 (h:=fun _=>0) h.2.1
 rw[sm_zero (fun _ _=>by grind)] at h1
 have:=h.2.2
 grind
theorem opt_max {x y x':Nat→Rat} {z:Rat} (h:IsOpt p x y z) (hx:IsPt p x'):sm p.v (fun k=>p.g k*x' k)≤z:=by
 have h1:=pt_le hx h.2.1 (h:=p.g) h.2.2.1
 have:=h.2.2.2.1
 grind
theorem unb_far {x d:Nat→Rat} (h:IsUnb p x d) (z:Rat):∃ x',IsPt p x'∧z≤sm p.v fun k=>p.g k*x' k:=by
 obtain⟨h1,h2,h3⟩:=h
 have key:∀ (c:Nat→Rat) (t:Rat),(sm p.v fun k=>c k*(x k+t*d k))=sm p.v (fun k=>c k*x k)+t*sm p.v (fun k=>c k*d k):=fun c t=>by
  rw[←sm_mul,←sm_add];exact sm_congr fun k _=>by grind
 by_cases c:z≤sm p.v fun k=>p.g k*x k
 ·exact⟨x,h1,c⟩
 ·have ht:0≤(z - sm p.v fun k=>p.g k*x k) / sm p.v fun k=>p.g k*d k:=ratio_nonneg (by grind) h3
  refine⟨fun k=>x k+((z - sm p.v fun k=>p.g k*x k) / sm p.v fun k=>p.g k*d k)*d k,fun r hr=>?_,?_⟩
  ·rw[key (p.a r)]
   have g1:=Rat.mul_nonneg ht (show 0≤-sm p.v (fun k=>p.a r k*d k) by have:=h2 r hr;grind)
   have g2:=h1 r hr
   grind
  ·rw[key p.g,div_mul_self' (by grind)];grind
end
end X
end Go.Proofs.YtaongbhamadlkaaGreat
namespace Go.Proofs.YtaongbhamadlkaaGreat
namespace X
abbrev Ln:=List Rat×Rat
def co (l:Ln) (k:Nat):Rat:=l.1.getD k 0
def cmb (a:Ln) (f:Rat) (b:Ln) (g:Rat):Ln:=(List.zipWith (fun u w=>u*f+w*g) a.1 b.1,a.2*f+b.2*g)
end X
end Go.Proofs.YtaongbhamadlkaaGreat
namespace Go.Proofs.YtaongbhamadlkaaGreat
namespace X
def del (c:Nat→Nat→Rat) (j:Nat):Nat→Nat→Rat:=fun k=>if k < j then c k else c (k+1)
def rep (c:Nat→Nat→Rat) (i:Nat) (v:Nat→Rat):Nat→Nat→Rat:=fun k=>if k=i then v else c k
def sgn (j:Nat):Rat:=if j % 2=0 then 1 else -1
def dt:Nat→(Nat→Nat→Rat)→Rat
 |0,_=>1
 |m+1,c=>sm (m+1) fun j=>sgn j*c j m*dt m (del c j)
section
variable {m i j k:Nat} {c d:Nat→Nat→Rat} {u v:Nat→Rat}
theorem dt_congr:∀ {m:Nat} {c d:Nat→Nat→Rat},(∀ j,j < m→∀ r,r < m→c j r=d j r)→dt m c=dt m d
 |0,_,_,_=>rfl
 |m+1,c,d,h=>sm_congr fun j hj=>by
  rw[h j hj m (by omega),dt_congr (m:=m) (c:=del c j) (d:=del d j) fun k hk r hr=>by
   unfold del;split
   ·exact h k (by omega) r (by omega)
   ·exact h (k+1) (by omega) r (by omega)]
theorem del_rep_same:del (rep c i u) i=del c i:=by
 funext k;unfold del rep
 by_cases h:k < i
 ·rw[if_pos h,if_pos h,if_neg (by omega)]
 ·rw[if_neg h,if_neg h,if_neg (by omega)]
theorem del_rep (h:j≠i):del (rep c i u) j=rep (del c j) (if i < j then i else i - 1) u:=by
 funext k;unfold del rep
 by_cases h1:k < j
 ·rw[if_pos h1]
  by_cases h2:k=i
  ·rw[if_pos h2,if_pos (by rw[if_pos (by omega)];omega)]
  ·rw[if_neg h2,if_neg (by split <;> omega)];exact(if_pos h1).symm
 ·rw[if_neg h1]
  by_cases h2:k+1=i
  ·rw[if_pos h2,if_pos (by rw[if_neg (by omega)];omega)]
  ·rw[if_neg h2,if_neg (by split <;> omega)];exact(if_neg h1).symm
theorem dt_lin (a b:Rat):∀ {m:Nat} {c:Nat→Nat→Rat} {i:Nat},i < m→dt m (rep c i fun r=>a*u r+b*v r)=a*dt m (rep c i u)+b*dt m (rep c i v)
 |0,_,_,h=>by omega
 |m+1,c,i,h=>by
  rw[dt,dt,dt,←sm_mul,←sm_mul,←sm_add]
  refine sm_congr fun j hj=>?_
  by_cases e:j=i
  ·subst e
   rw[del_rep_same,del_rep_same,del_rep_same]
   unfold rep;rw[if_pos rfl,if_pos rfl,if_pos rfl];grind
  ·rw[del_rep e,del_rep e,del_rep e,dt_lin a b (m:=m) (by split <;> omega)]
   unfold rep;rw[if_neg e,if_neg e,if_neg e];grind
theorem rep_self:rep c i (c i)=c:=by
 funext k;unfold rep;split
 ·rename_i h;rw[h]
 ·rfl
theorem dt_zero (h:i < m):dt m (rep c i fun _=>0)=0:=by
 have:=dt_lin (u:=fun _=>0) (v:=fun _=>0) 0 0 (c:=c) h
 simp only[Rat.zero_mul,Rat.add_zero] at this
 exact this
theorem dt_sum (t:Nat→Rat) (w:Nat→Nat→Rat) (h:i < m):∀ n,dt m (rep c i fun r=>sm n fun k=>t k*w k r)=sm n fun k=>t k*dt m (rep c i (w k))
 |0=>dt_zero h
 |n+1=>by
  have:=dt_lin (u:=fun r=>sm n fun k=>t k*w k r) (v:=w n) 1 (t n) (c:=c) h
  simp only[sm]
  rw[←dt_sum t w h n]
  simp only[Rat.one_mul] at this
  exact this
theorem sm_two {f:Nat→Rat}:∀ {n:Nat},i+1 < n→(∀ k,k < n→k≠i→k≠i+1→f k=0)→sm n f=f i+f (i+1)
 |0,h,_=>by omega
 |n+1,h,h2=>by
  rw[sm]
  by_cases e:i+1=n
  ·subst e
   rw[sm_one (r:=i) (by omega) fun k hk hne=>h2 k (by omega) hne (by omega)]
  ·rw[sm_two (n:=n) (by omega) fun k hk=>h2 k (by omega),h2 n (by omega) (by omega) (by omega)];grind
theorem sgn_succ (i:Nat):sgn (i+1)= -sgn i:=by
 unfold sgn
 by_cases h:i % 2=0
 ·rw[if_pos h,if_neg (by omega)]
 ·rw[if_neg h,if_pos (by omega)];grind
theorem dt_adj:∀ {m:Nat} {c:Nat→Nat→Rat} {i:Nat},i+1 < m→c i=c (i+1)→dt m c=0
 |0,_,_,h,_=>by omega
 |m+1,c,i,h,e=>by
  rw[dt,sm_two (i:=i) h fun k hk h1 h2=>?_]
  ·have:del c i=del c (i+1):=by
    funext k;unfold del
    by_cases h1:k < i
    ·rw[if_pos h1,if_pos (by omega)]
    ·rw[if_neg h1]
     by_cases h2:k=i
     ·subst h2;rw[if_pos (by omega),e]
     ·rw[if_neg (by omega)]
   rw[this,←e,sgn_succ];grind
  ·by_cases h3:k < i
   ·have:dt m (del c k)=0:=dt_adj (i:=i - 1) (by omega) (by
     unfold del;rw[if_neg (by omega),if_neg (by omega),show i - 1+1=i by omega];exact e)
    rw[this];grind
   ·have:dt m (del c k)=0:=dt_adj (i:=i) (by omega) (by
     unfold del;rw[if_pos (by omega),if_pos (by omega)];exact e)
    rw[this];grind
def sw (c:Nat→Nat→Rat) (i:Nat):Nat→Nat→Rat:=rep (rep c i (c (i+1))) (i+1) (c i)
theorem dt_sw (h:i+1 < m):dt m (sw c i)= -dt m c:=by
 have F:∀ x y:Nat→Rat,dt m (rep (rep c i x) (i+1) y)=dt m (rep (rep c (i+1) y) i x):=fun x y=>by
  congr 1;funext k;unfold rep
  by_cases h1:k=i
  ·rw[if_neg (by omega),if_pos h1,if_pos h1]
  ·rw[if_neg h1,if_neg h1]
 have Z:∀ x:Nat→Rat,dt m (rep (rep c i x) (i+1) x)=0:=fun x=>dt_adj h (by unfold rep;rw[if_neg (by omega),if_pos rfl,if_pos rfl])
 have h0:=Z fun r=>1*c i r+1*c (i+1) r
 rw[dt_lin 1 1 h,F,F,dt_lin 1 1 (by omega),dt_lin 1 1 (by omega),←F,←F,←F,←F,Z,Z] at h0
 have e:rep (rep c i (c i)) (i+1) (c (i+1))=c:=by rw[rep_self,rep_self]
 rw[e] at h0
 unfold sw
 grind
theorem dt_eq:∀ (n:Nat) {c:Nat→Nat→Rat} {i j:Nat},j - i≤n→i < j→j < m→c i=c j→dt m c=0
 |0,_,_,_,h,h1,_,_=>by omega
 |n+1,c,i,j,h,h1,h2,e=>by
  by_cases h3:j=i+1
  ·subst h3;exact dt_adj h2 e
  ·have h4:dt m (sw c (j - 1))=0:=dt_eq n (i:=i) (j:=j - 1) (by omega) (by omega) (by omega) (by
    unfold sw rep
    rw[if_neg (by omega),if_neg (by omega),if_neg (by omega),if_pos rfl,show j - 1+1=j by omega];exact e)
   rw[dt_sw (by omega)] at h4
   grind
theorem cramer (t:Nat→Rat) (h:i < m):dt m (rep c i fun r=>sm m fun k=>t k*c k r)=t i*dt m c:=by
 rw[dt_sum t c h,sm_one h fun k hk hne=>?_,rep_self]
 have:dt m (rep c i (c k))=0:=by
  by_cases h1:i < k
  ·exact dt_eq (k - i) (Nat.le_refl _) h1 hk (by unfold rep;rw[if_pos rfl,if_neg (by omega)])
  ·exact dt_eq (i - k) (Nat.le_refl _) (by omega:k < i) h (by unfold rep;rw[if_neg (by omega),if_pos rfl])
 rw[this];grind
def pr:Nat→(Nat→Rat)→Rat
 |0,_=>1
 |m+1,f=>f m*pr m f
theorem dt_rows (f:Nat→Rat):∀ {m:Nat} {c:Nat→Nat→Rat},dt m (fun j r=>f r*c j r)=pr m f*dt m c
 |0,_=>by simp only[dt,pr];grind
 |m+1,c=>by
  rw[dt,dt,pr,←sm_mul]
  refine sm_congr fun j _=>?_
  have:del (fun j r=>f r*c j r) j=fun k r=>f r*del c j k r:=by
   funext k r;unfold del;split <;> rfl
  rw[this,dt_rows f];grind
theorem pr_ne {f:Nat→Rat}:∀ {m:Nat},(∀ r,r < m→f r≠0)→pr m f≠0
 |0,_=>by simp only[pr];decide
 |m+1,h=>by
  rw[pr]
  have h1:=pr_ne (m:=m) fun r hr=>h r (by omega)
  have h2:=h m (by omega)
  intro hx
  rcases Rat.mul_eq_zero.1 hx with hx|hx
  ·exact h2 hx
  ·exact h1 hx
theorem dt_one:∀ {m:Nat} {c:Nat→Nat→Rat},(∀ j,j < m→∀ r,r < m→c j r=if j=r then 1 else 0)→dt m c≠0
 |0,_,_=>by simp only[dt];decide
 |m+1,c,h=>by
  rw[dt,sm_one (r:=m) (by omega) fun j hj hne=>by rw[h j hj m (by omega),if_neg hne];grind]
  rw[h m (by omega) m (by omega),if_pos rfl]
  have h1:dt m (del c m)≠0:=dt_one fun j hj r hr=>by
   unfold del;rw[if_pos hj];exact h j (by omega) r (by omega)
  have h2:sgn m≠0:=by unfold sgn;split <;> decide
  intro hx
  rcases Rat.mul_eq_zero.1 hx with hx|hx
  ·exact h2 (by grind)
  ·exact h1 hx
def bdt (K:Nat):Nat→Nat
 |0=>1
 |m+1=>(m+1)*(K*bdt K m)
theorem sm_int {B:Nat} {f:Nat→Rat}:∀ {n:Nat},(∀ i,i < n→∃ z:Int,f i=z∧z.natAbs≤B)→∃ z:Int,sm n f=z∧z.natAbs≤n*B
 |0,_=>⟨0,rfl,by simp⟩
 |n+1,h=>by
  obtain⟨z,h1,h2⟩:=sm_int (n:=n) fun i hi=>h i (by omega)
  obtain⟨w,h3,h4⟩:=h n (by omega)
  refine⟨z+w,by rw[sm,h1,h3];simp,?_⟩
  have:=Int.natAbs_add_le z w
  rw[Nat.succ_mul];omega
theorem dt_int {K:Nat}:∀ {m:Nat} {c:Nat→Nat→Rat},(∀ j,j < m→∀ r,r < m→∃ z:Int,c j r=z∧z.natAbs≤K)→∃ z:Int,dt m c=z∧z.natAbs≤bdt K m
 |0,_,_=>⟨1,rfl,Nat.le_refl _⟩
 |m+1,c,h=>by
  rw[dt]
  refine sm_int fun j hj=>?_
  obtain⟨z,h1,h2⟩:=h j hj m (by omega)
  obtain⟨w,h3,h4⟩:=dt_int (K:=K) (m:=m) (c:=del c j) fun k hk r hr=>by
   unfold del;split
   ·exact h k (by omega) r (by omega)
   ·exact h (k+1) (by omega) r (by omega)
  have h5:=Nat.mul_le_mul h2 h4
  rw[h1,h3]
  unfold sgn;split
  ·exact⟨z*w,by simp,by rw[Int.natAbs_mul];exact h5⟩
  ·exact⟨-(z*w),by simp;grind,by rw[Int.natAbs_neg,Int.natAbs_mul];exact h5⟩
end
end X
end Go.Proofs.YtaongbhamadlkaaGreat
namespace Go.Proofs.YtaongbhamadlkaaGreat
namespace X
section
variable {m n:Nat} {A:Nat→Nat→Rat} {c0 c1:Nat→Rat} {s u:St} {k:Nat}
theorem Inv.conv (h:Inv m n A c0 u) (h':Inv m n A c1 s) {r j:Nat} (hr:r < m) (hj:j≤n):u.t r j=sm m fun i=>u.t r (s.b i)*s.t i j:=by
 obtain⟨M,hM⟩:=h.l
 rw[hM r hr j hj,show(sm m fun q=>M r q*A q j)=sm m fun q=>sm m fun i=>(M r q*A q (s.b i))*s.t i j from sm_congr fun q hq=>by
  rw[h'.r q hq j hj,←sm_mul];exact sm_congr fun i _=>by grind]
 rw[sm_comm]
 exact sm_congr fun i hi=>by
  rw[sm_mulr,hM r hr (s.b i) (Nat.le_of_lt (h'.bd i hi))]
theorem sm_ne {f:Nat→Rat}:∀ {m:Nat},sm m f≠0→∃ i,i < m∧f i≠0
 |_,h=>Classical.byContradiction fun hno=>h (sm_zero fun i hi=>Classical.byContradiction fun hx=>hno ⟨i,hi,hx⟩)
def cnt (p:Nat→Bool):Nat→Nat
 |0=>0
 |m+1=>cnt p m+if p m then 1 else 0
theorem cnt_le {p:Nat→Bool}:∀ m,cnt p m≤m
 |0=>Nat.le_refl _
 |m+1=>by have:=cnt_le (p:=p) m;rw[cnt];split <;> omega
theorem cnt_mono {p q:Nat→Bool}:∀ {m:Nat},(∀ i,i < m→q i=true→p i=true)→cnt q m≤cnt p m
 |0,_=>Nat.le_refl _
 |m+1,h=>by
  have h1:=cnt_mono (m:=m) fun i hi=>h i (by omega)
  have h2:=h m (by omega)
  rw[cnt,cnt]
  by_cases c:q m=true
  ·rw[if_pos c,if_pos (h2 c)];omega
  ·rw[if_neg c];omega
theorem cnt_lt {p q:Nat→Bool}:∀ {m:Nat},(∀ i,i < m→q i=true→p i=true)→(∃ i,i < m∧p i=true∧q i=false)→cnt q m < cnt p m
 |0,_,⟨i,h,_⟩=>by omega
 |m+1,h,⟨i,h1,h2,h3⟩=>by
  rw[cnt,cnt]
  by_cases e:i=m
  ·subst e
   have h4:=cnt_mono (m:=i) fun j hj=>h j (by omega)
   rw[if_pos h2,if_neg (by rw[h3];decide)];omega
  ·have h4:=cnt_lt (m:=m) (fun j hj=>h j (by omega)) ⟨i,by omega,h2,h3⟩
   have h5:=h m (by omega)
   by_cases c:q m=true
   ·rw[if_pos c,if_pos (h5 c)];omega
   ·rw[if_neg c];omega
def mis (m:Nat) (s u:St) (i:Nat):Bool:=decide (∀ r,r < m→u.b r≠s.b i)
def bas (A:Nat→Nat→Rat) (s:St):Nat→Nat→Rat:=fun k r=>A r (s.b k)
theorem Inv.ent (h:Inv m n A c0 u) {i j:Nat} (hi:i < m) (hj:j≤n):dt m (rep (bas A u) i fun r=>A r j)=u.t i j*dt m (bas A u):=by
 rw[←cramer (fun k=>u.t k j) hi]
 refine dt_congr fun k hk r hr=>?_
 unfold rep;split
 ·show A r j=sm m fun k=>u.t k j*bas A u k r
  rw[h.r r hr j hj];exact sm_congr fun i _=>by unfold bas;grind
 ·rfl
theorem exchD (h:Inv m n A c1 s):∀ (d:Nat) (u:St),cnt (mis m s u) m≤d→Inv m n A c0 u→dt m (bas A u)≠0→∃ u',Inv m n A c0 u'∧dt m (bas A u')≠0∧∀ i,i < m→∃ r,r < m∧∀ j,j≤n→s.t i j=u'.t r j:=by
 intro d
 induction d with
 |zero=>
  intro u hc hu hs
  refine⟨u,hu,hs,fun i hi=>?_⟩
  have hall:∀ k,k < m→∃ r,r < m∧u.b r=s.b k:=fun k hk=>by
   have hno:mis m s u k=false:=by
    cases hx:mis m s u k with
    |false=>rfl
    |true=>
     exfalso
     have:=cnt_lt (p:=mis m s u) (q:=fun _=>false) (m:=m) (fun _ _ h=>by simp at h) ⟨k,hk,hx,rfl⟩
     omega
   exact Classical.byContradiction fun hx=>by
    have:=of_decide_eq_false hno
    exact this fun r hr hb=>hx ⟨r,hr,hb⟩
  obtain⟨r,hr,hb⟩:=hall i hi
  refine⟨r,hr,fun j hj=>?_⟩
  have e:=Inv.conv hu h hr hj
  rw[sm_one hi (fun k hk hki=>by
   have h1:u.t r (s.b k)=0:=by
    obtain⟨q,hq,hbq⟩:=hall k hk
    rw[←hbq,hu.u r hr q hq,if_neg]
    rintro rfl
    exact hki (h.inj hk hi (by rw[←hbq,hb]))
   rw[h1];grind)] at e
  have h1:u.t r (s.b i)=1:=by rw[←hb,hu.u r hr r hr,if_pos rfl]
  rw[e,h1];grind
 |succ d ih=>
  intro u hc hu hs
  by_cases hz:∃ i,i < m∧mis m s u i=true
  ·obtain⟨i,hi,hmi⟩:=hz
   have hno:=of_decide_eq_true hmi
   have e:=Inv.conv h hu hi (j:=s.b i) (Nat.le_of_lt (h.bd i hi))
   rw[h.u i hi i hi,if_pos rfl] at e
   obtain⟨r,hr,hne⟩:=sm_ne (m:=m) (f:=fun r=>s.t i (u.b r)*u.t r (s.b i)) (by rw[←e];decide)
   have n1:u.t r (s.b i)≠0:=fun hx=>hne (by show s.t i (u.b r)*u.t r (s.b i)=0;rw[hx];grind)
   have n2:s.t i (u.b r)≠0:=fun hx=>hne (by show s.t i (u.b r)*u.t r (s.b i)=0;rw[hx];grind)
   have n3:∀ k,k < m→s.b k≠u.b r:=fun k hk hb=>by
    rw[←hb,h.u i hi k hk] at n2
    by_cases c:i=k
    ·subst c;exact hno r hr hb.symm
    ·rw[if_neg c] at n2;exact n2 rfl
   have hp:=Inv.pv hu hr (h.bd i hi) n1
   have hlt:cnt (mis m s (pv u r (s.b i))) m < cnt (mis m s u) m:=by
    refine cnt_lt (fun k hk hq=>?_) ⟨i,hi,hmi,?_⟩
    ·have hq:=of_decide_eq_true hq
     refine decide_eq_true fun q hqm hb=>?_
     by_cases c:q=r
     ·subst c;exact n3 k hk hb.symm
     ·refine hq q hqm ?_
      show(if q=r then s.b i else u.b q)=_
      rw[if_neg c];exact hb
    ·refine decide_eq_false fun hx=>hx r hr ?_
     show(if r=r then s.b i else u.b r)=_
     rw[if_pos rfl]
   refine ih (pv u r (s.b i)) (by omega) hp ?_
   have e2:bas A (pv u r (s.b i))=rep (bas A u) r fun q=>A q (s.b i):=by
    funext k q;unfold bas rep
    show A q (if k=r then s.b i else u.b k)=_
    split <;> rfl
   rw[e2,hu.ent hr (Nat.le_of_lt (h.bd i hi))]
   intro hx
   rcases Rat.mul_eq_zero.1 hx with hx|hx
   ·exact n1 hx
   ·exact hs hx
  ·refine ih u ?_ hu hs
   have:cnt (mis m s u) m≤cnt (fun _=>false) m:=cnt_mono fun i hi hx=>absurd ⟨i,hi,hx⟩ hz
   have h1:∀ m,cnt (fun _=>false) m=0:=fun m=>by
    induction m with
    |zero=>rfl
    |succ m ih=>rw[cnt,ih];rfl
   rw[h1] at this;omega
theorem Inv.ratio (h:Inv m n A c1 s) (hu:Inv m n A c0 u) (hA:∀ r,r < m→∀ i,i < m→A r (u.b i)=if r=i then 1 else 0) {f:Nat→Rat} {K:Nat} (hf:∀ r,r < m→f r≠0) (hz:∀ r,r < m→∀ j,j≤n→∃ z:Int,f r*A r j=z∧z.natAbs≤K)
  {i j:Nat} (hi:i < m) (hj:j≤n):∃ p q:Int,q≠0∧s.t i j=(p:Rat) / q∧p.natAbs≤bdt K m∧q.natAbs≤bdt K m:=by
 obtain⟨v,hv,hd,hr⟩:=exchD h m u (cnt_le _) hu (dt_one fun j hj r hr=>by
  show A r (u.b j)=_
  rw[hA r hr j hj]
  by_cases e:r=j
  ·rw[if_pos e,if_pos e.symm]
  ·rw[if_neg e,if_neg fun h=>e h.symm])
 obtain⟨r,hrm,he⟩:=hr i hi
 have e1:=hv.ent hrm hj
 have hp:=pr_ne (f:=f) hf
 obtain⟨p,hp1,hp2⟩:=dt_int (K:=K) (m:=m) (c:=fun k q=>f q*rep (bas A v) r (fun r=>A r j) k q) fun k hk q hq=>by
  unfold rep;split
  ·exact hz q hq j hj
  ·exact hz q hq _ (Nat.le_of_lt (hv.bd k hk))
 obtain⟨q,hq1,hq2⟩:=dt_int (K:=K) (m:=m) (c:=fun k q=>f q*bas A v k q) fun k hk q hq=>hz q hq _ (Nat.le_of_lt (hv.bd k hk))
 rw[dt_rows] at hp1 hq1
 have hq0:(q:Rat)≠0:=by
  rw[←hq1];intro hx
  rcases Rat.mul_eq_zero.1 hx with hx|hx
  ·exact hp hx
  ·exact hd hx
 refine⟨p,q,fun hx=>hq0 (by rw[hx];rfl),?_,hp2,hq2⟩
 rw[he j hj,←hp1,e1,←hq1]
 rw[←hq1] at hq0
 generalize pr m f=a at *
 generalize dt m (bas A v)=b at *
 generalize v.t r j=t at *
 rw[show a*(t*b)=t*(a*b) by grind,Rat.div_def,Rat.mul_assoc,Rat.mul_inv_cancel _ hq0,Rat.mul_one]
end
def dp (f:Nat→Rat):Nat→Nat
 |0=>1
 |n+1=>(f n).den*dp f n
theorem dp_pos {f:Nat→Rat}:∀ n,0 < dp f n
 |0=>Nat.one_pos
 |n+1=>Nat.mul_pos (f n).den_pos (dp_pos n)
theorem dp_le {f:Nat→Rat} {W:Nat}:∀ {n:Nat},(∀ k,k < n→(f k).den≤W)→dp f n≤W ^ n
 |0,_=>Nat.le_refl _
 |n+1,h=>by
  rw[dp,Nat.pow_succ,Nat.mul_comm]
  exact Nat.mul_le_mul (dp_le fun k hk=>h k (by omega)) (h n (by omega))
theorem den_mul (q:Rat):(q.den:Rat)*q=q.num:=by
 have h:=Rat.num_divInt_den q
 have h2:(q.den:Rat)≠0:=by
  intro hx
  have:=q.den_nz
  exact this (by exact_mod_cast hx)
 rw[Rat.mul_comm]
 conv=>lhs;lhs;rw[←h]
 rw[Rat.divInt_eq_div,Rat.div_def,Rat.mul_assoc,show((q.den:Int):Rat)=(q.den:Rat) from rfl,Rat.inv_mul_cancel _ h2,Rat.mul_one]
theorem dp_int {f:Nat→Rat}:∀ {n k:Nat},k < n→∃ z:Int,(dp f n:Rat)*f k=z∧z.natAbs≤dp f n*(f k).num.natAbs
 |0,_,h=>by omega
 |n+1,k,h=>by
  rw[dp]
  by_cases e:k=n
  ·subst e
   refine⟨dp f k*(f k).num,?_,?_⟩
   ·have:=den_mul (f k)
    rw[Rat.intCast_mul,←this,show((dp f k:Int):Rat)=(dp f k:Rat) from rfl,Rat.natCast_mul]
    grind
   ·rw[Int.natAbs_mul,Int.natAbs_natCast]
    exact Nat.mul_le_mul_right _ (Nat.le_mul_of_pos_left _ (f k).den_pos)
  ·obtain⟨z,h1,h2⟩:=dp_int (f:=f) (n:=n) (k:=k) (by omega)
   refine⟨(f n).den*z,?_,?_⟩
   ·rw[Rat.intCast_mul,←h1,show(((f n).den:Int):Rat)=((f n).den:Rat) from rfl,Rat.natCast_mul]
    grind
   ·rw[Int.natAbs_mul,Int.natAbs_natCast,Nat.mul_assoc]
    exact Nat.mul_le_mul_left _ h2
end X
end Go.Proofs.YtaongbhamadlkaaGreat
namespace Go.Proofs.YtaongbhamadlkaaGreat
def Sq (k:Nat) (q:Rat):Prop:=(digs q.num.natAbs).length≤k∧(digs q.den).length≤k
section
variable {a b:Rat} {k l:Nat}
theorem Sq.sm (h:Sq k a) (hk:k≤400000000):Sm a:=⟨Nat.le_trans h.1 hk,Nat.le_trans h.2 hk⟩
theorem Sq.up (h:Sq k a) (hk:k≤l):Sq l a:=⟨Nat.le_trans h.1 hk,Nat.le_trans h.2 hk⟩
theorem di_num (n:Int) (d:Nat) (hd:d≠0) (h1:(digs n.natAbs).length≤k) (h2:(digs d).length≤k):Sq k (mkRat n d):=by
 constructor
 ·rw[Rat.num_mkRat,if_neg hd];exact Nat.le_trans (digs_mono (Int.natAbs_ediv_le_natAbs _ _)) h1
 ·rw[Rat.den_mkRat,if_neg hd];exact Nat.le_trans (digs_mono (Nat.div_le_self _ _)) h2
theorem Sq.zero:Sq 1 0:=by
 constructor
 ·show(digs 0).length≤1;rw[digs_0];decide
 ·show(digs 1).length≤1;rw[digs_1 (by decide) (by decide)];decide
theorem Sq.add (h1:Sq k a) (h2:Sq l b):Sq (k+l+1) (a+b):=by
 rw[Rat.add_def']
 refine di_num _ _ (Nat.mul_ne_zero a.den_nz b.den_nz) ?_ ?_
 ·have e1:=digs_mono (Int.natAbs_add_le (a.num*b.den) (b.num*a.den))
  have e2:=digs_len_add (a.num*b.den).natAbs (b.num*a.den).natAbs
  have e3:=digs_len_mul a.num.natAbs b.den
  have e4:=digs_len_mul b.num.natAbs a.den
  rw[abs_mulc,abs_mulc] at e1 e2
  have:=h1.1;have:=h1.2;have:=h2.1;have:=h2.2
  omega
 ·have e3:=digs_len_mul a.den b.den
  have:=h1.2;have:=h2.2
  omega
theorem Sq.neg (h:Sq k a):Sq k (-a):=by
 unfold Sq at *;rw[Rat.neg_num,Rat.neg_den,Int.natAbs_neg];exact h
theorem Sq.sub (h1:Sq k a) (h2:Sq l b):Sq (k+l+1) (a - b):=by
 rw[Rat.sub_eq_add_neg];exact h1.add h2.neg
theorem Sq.mul (h1:Sq k a) (h2:Sq l b):Sq (k+l) (a*b):=by
 rw[Rat.mul_def']
 refine di_num _ _ (Nat.mul_ne_zero a.den_nz b.den_nz) ?_ ?_
 ·rw[Int.natAbs_mul]
  have e3:=digs_len_mul a.num.natAbs b.num.natAbs
  have:=h1.1;have:=h2.1
  omega
 ·have e3:=digs_len_mul a.den b.den
  have:=h1.2;have:=h2.2
  omega
theorem Sq.inv (h0:0 < k) (h:Sq k b):Sq k b⁻¹:=by
 obtain⟨h1,h2⟩:=h
 constructor
 ·rw[Rat.num_inv,Int.natAbs_mul,Int.natAbs_natCast]
  by_cases c:b.num=0
  ·rw[c];simp[digs_0]
  ·rw[Int.natAbs_sign_of_ne_zero c,Nat.one_mul];exact h2
 ·rw[Rat.den_inv]
  split
  ·rw[digs_1 (by decide) (by decide)];exact h0
  ·exact h1
theorem Sq.div (h0:0 < l) (h1:Sq k a) (h2:Sq l b):Sq (k+l) (a / b):=by
 rw[Rat.div_def];exact h1.mul (h2.inv h0)
theorem Sq.int {n:Int} (h:(digs n.natAbs).length≤k) (h0:0 < k):Sq k (n:Rat):=by
 constructor
 ·rw[Rat.num_intCast];exact h
 ·rw[Rat.den_intCast,digs_1 (by decide) (by decide)];exact h0
end
namespace X
theorem sq_sm {k:Nat} {f:Nat→Rat}:∀ {m:Nat},(∀ i,i < m→Sq k (f i))→Sq (m*(k+1)+1) (sm m f)
 |0,_=>by rw[Nat.zero_mul];exact Sq.zero
 |m+1,h=>by
  have h1:=(sq_sm (m:=m) fun i hi=>h i (by omega)).add (h m (by omega))
  exact h1.up (by rw[Nat.succ_mul];omega)
theorem bdt_len {K k:Nat} (hK:(digs K).length≤k):∀ {m:Nat},m < 1000000000→(digs (bdt K m)).length≤m*(k+1)+1
 |0,_=>by rw[bdt,digs_1 (by decide) (by decide)];simp
 |m+1,h=>by
  have e:(m+1)*(k+1)=m*(k+1)+(k+1):=Nat.succ_mul _ _
  have h1:=bdt_len hK (m:=m) (by omega)
  have h2:=digs_len_mul (m+1) (K*bdt K m)
  have h3:=digs_len_mul K (bdt K m)
  rw[digs_1 (n:=m+1) (by omega) h] at h2
  rw[bdt,e]
  simp only[List.length_cons,List.length_nil] at h2
  omega
end X
end Go.Proofs.YtaongbhamadlkaaGreat
namespace Go.Proofs.YtaongbhamadlkaaGreat
open W Go.RowKit
def IsR (q:Rat):RPost:=fun v b G=>∃ m:QM,v=qv m∧b=[]∧G=[isQ (qv m) q]
theorem isR_of {P:Program} {f:FuncId} {ag:List Value} {bx:List Ow} {F:List Fct} {q:Rat} (h:FnB P f ag bx F (IsQ q)):FnB P f ag bx F (IsR q):=
 h.mono fun v b G ⟨nb,d1,d2,h1,h2,h3,h4⟩=>⟨(nb,d1,d2),h1,h3,h4⟩
namespace Zn
section
variable (m1 m2:QM) (a b:Rat)
theorem add (ha:Sm a) (hb:Sm b):FnB Tryz.prog 32 [qv m1,qv m2] [] [isQ (qv m1) a,isQ (qv m2) b] (IsR (a+b)):=isR_of (Rta.add_c _ _ _ _ ha hb)
theorem sub (ha:Sm a) (hb:Sm b):FnB Tryz.prog 39 [qv m1,qv m2] [] [isQ (qv m1) a,isQ (qv m2) b] (IsR (a - b)):=isR_of (Rtc.sub_c _ _ _ _ ha hb)
theorem mul (ha:Sm a) (hb:Sm b):FnB Tryz.prog 31 [qv m1,qv m2] [] [isQ (qv m1) a,isQ (qv m2) b] (IsR (a*b)):=isR_of (Rmu.mul_c _ _ _ _ ha hb)
theorem div (ha:Sm a) (hb:Sm b):FnB Tryz.prog 173 [qv m1,qv m2] [] [isQ (qv m1) a,isQ (qv m2) b] (IsR (a / b)):=isR_of (Rmu.div_c _ _ _ _ ha hb)
theorem neg:FnB Tryz.prog 36 [qv m1] [] [isQ (qv m1) a] (IsR (-a)):=isR_of (Rta.neg_c _ _)
theorem cmp (ha:Sm a) (hb:Sm b):FnB Tryz.prog 33 [qv m1,qv m2] [] [isQ (qv m1) a,isQ (qv m2) b] (IsV (.int .i64 (cmpQ a b))):=Rtc.qcompare_c _ _ _ _ ha hb
theorem sign:FnB Tryz.prog 49 [qv m1] [] [isQ (qv m1) a] (IsV (.int .i64 (sgn a.num))):=Rta.sign_c _ _
theorem same:FnB Tryz.prog 16 [qv m1,qv m2] [] [isQ (qv m1) a,isQ (qv m2) b] (IsV (.bool (decide (a=b)))):=Rtc.same_c _ _ _ _
theorem of (p q:Int) (h1:p.natAbs < B2) (h2:q.natAbs < B2):FnB Tryz.prog 47 [.int .i64 p,.int .i64 q] [] [] (IsR (Rat.divInt p q)):=isR_of (Rta.of_c p q h1 h2)
theorem rmul (ha:Sm a) (hb:Sm b):FnB Tryz.prog 77 [qv m1,qv m2] [] [isQ (qv m1) a,isQ (qv m2) b] (IsR (a*b)):=isR_of (Rp.rqmul_c _ _ _ _ ha hb)
theorem rof (p q:Int) (h1:p.natAbs < B2) (h2:q.natAbs < B2):FnB Tryz.prog 30 [.int .i64 p,.int .i64 q] [] [] (IsR (Rat.divInt p q)):=isR_of (Rp.rqof_c p q h1 h2)
end
end Zn
theorem sgn_zero {q:Rat}:sgn q.num=0↔q=0:=by
 rw[←Rat.num_eq_zero];unfold sgn;split <;> (try split) <;> omega
theorem num_neg' {q:Rat}:q.num < 0↔q < 0:=by
 rw[Rat.lt_iff];simp
theorem num_pos' {q:Rat}:0 < q.num↔0 < q:=by
 rw[Rat.lt_iff];simp
theorem sgn_neg {q:Rat}:sgn q.num < 0↔q < 0:=by
 rw[←num_neg'];unfold sgn;split <;> (try split) <;> omega
theorem sgn_pos {q:Rat}:0 < sgn q.num↔0 < q:=by
 rw[←num_pos'];unfold sgn;split <;> (try split) <;> omega
end Go.Proofs.YtaongbhamadlkaaGreat
namespace Go.Proofs.YtaongbhamadlkaaGreat
open W Go.RowKit
def wpx (l r:Nat→Rat) (f:Rat) (k j:Nat):Rat:=if j < k then l j - f*r j else l j
theorem wpx_up {l r:Nat→Rat} {f:Rat} {k:Nat} (i:Nat):upd (wpx l r f k) k (wpx l r f k k - f*r k) i=wpx l r f (k+1) i:=by
 unfold wpx upd
 by_cases c:i=k
 ·subst c;simp
 ·by_cases c2:i < k
  ·simp[c,c2,show i < k+1 by omega]
  ·simp[c,c2,show ¬i < k+1 by omega]
theorem wpx_keep {l r:Nat→Rat} {f:Rat} {k:Nat} (h:r k=0) (i:Nat):wpx l r f k i=wpx l r f (k+1) i:=by
 unfold wpx
 by_cases c:i=k
 ·subst c;simp[h];grind
 ·by_cases c2:i < k
  ·simp[c2,show i < k+1 by omega]
  ·simp[c2,show ¬i < k+1 by omega]
def IsWp (lv rw:Value) (n:Nat) (mr:Nat→QM) (z:Nat→Rat):RPost:=fun v B G=>∃ ml,v=.tuple #[]∧B=[Ow.slice lv 31 4 (qcells n ml),Ow.slice rw 31 4 (qcells n mr)]∧G=[mF n ml z]
namespace Z
attribute [local irreducible] WC WL WD YO LO LoopEnd W.Fin Scalar SliceT FieldAt Row ArrT AllocT KnS Has W.One SrcE IntT
theorem d114 {G G':Prop} (h:G') (s:Bx G'→G:=by
 intro h
 first|(apply WC.draw (id:=6) [0,1,2,3,4,5,6,7,10] (.held 0 (.held 1 (.held 2 (.held 3 (.held 4 (.held 5 (.held 6 (.held 7 (.loud 8 (.loud 9 (.held 10 (.loud 11 (.done))))))))))))) mixed (by kernel_rfl))|fail
 exact Bx.h h):G:=s ⟨h⟩
set_option maxHeartbeats 8000000 in
set_option maxRecDepth 60000 in
theorem wipe_c (lv rw:Value) (n col K:Nat) (ml mr:Nat→QM) (l r:Nat→Rat) (hc:col < n) (hn:n≤100000) (hK:K≤100000000) (hl:∀ k,k < n→Sq K (l k)) (hr:∀ k,k < n→Sq K (r k)) :
  FnB Tryz.prog 114 [lv,rw,.int .i64 (col:Int)] [Ow.slice lv 31 4 (qcells n ml),Ow.slice rw 31 4 (qcells n mr)] [mF n ml l,mF n mr r] (IsWp lv rw n mr (fun k=>l k - l col*r k)):=by
 refine fn_of [(0,lv),(1,rw),(2,(.int .i64 (col:Int)))] 38 Tryz.func114 rfl Tryz.ntmps114 (by kernel_rfl) rfl suA fun h0=>?_
 have hsm:∀ {q},Sq K q→Sm q:=fun h=>h.sm (by omega)
 refine WC.fact (isQ (qv (ml col)) (l col)) (W.Has.q hmA hc) ?_
 repeat'(first|refine gB ?_|(refine gH ?_;intro g)|(refine gW ?_;intro v)|refine d114 ?_|fail)
 first|refine WL.callV (Zn.sign (ml col) (l col)) ?_|refine WD.callV (Zn.sign (ml col) (l col)) ?_
 revert g;intro g6
 by_cases c0:l col=0
 ·have hz:=sgn_zero.2 c0
  repeat'(first|refine gB ?_|(refine gH ?_;intro g)|(refine gW ?_;intro v)|refine d114 ?_|fail)
  refine WC.fact (mF n ml (fun k=>l k - l col*r k)) (W.Has.mFsame (qf:=l) hmA (fun i _=>by rw[c0];grind)) ?_
  refine WC.ret ?_
  exact Fin.p [Ow.slice lv 31 4 (qcells n ml),Ow.slice rw 31 4 (qcells n mr)] [mF n ml (fun k=>l k - l col*r k)] (ResE.t0 rfl) meA slA haA ⟨_,rfl,rfl,rfl⟩
 have hz:¬sgn (l col).num=0:=fun h=>c0 (sgn_zero.1 h)
 repeat'(first|refine gB ?_|(refine gH ?_;intro g)|(refine gW ?_;intro v)|refine d114 ?_|fail)
 refine WC.lp (σ:=Nat×(Nat→QM)) (fun s=>[(18,.int .i64 (s.1:Int)),(17,.int .i64 (n:Int)),(16,rw),(0,lv),(6,ptr g6)]) (fun s=>[Ow.cells g6 31 (qcs (ml col)),Ow.slice lv 31 4 (qcells n s.2),Ow.slice rw 31 4 (qcells n mr)])
  (fun s=>[isQ (qv (ml col)) (l col),mF n s.2 (wpx l r (l col) s.1),mF n mr r,ge h0]) (fun s=>s.1≤n) (fun s=>n - s.1) (0,ml) (Nat.zero_le _) ?_ (hG:=.cons hmA (.cons (W.Has.mFsame (qf:=l) hmA fun i _=>by simp[wpx]) (.cons hmA (.cons hmA .nil))))
 rintro⟨k,mx⟩ hk
 simp only at hk ⊢
 by_cases c:k < n
 ·refine WC.fact (isQ (qv (mr k)) (r k)) (W.Has.q (ms:=mr) hmA c) ?_
  refine WC.fact (isQ (qv (mx k)) (wpx l r (l col) k k)) (W.Has.q (ms:=mx) hmA c) ?_
  have hw:wpx l r (l col) k k=l k:=by simp[wpx]
  repeat'(first|refine gB ?_|(refine gH ?_;intro g)|(refine gW ?_;intro v)|refine d114 ?_|fail)
  first|refine WL.callV (Zn.sign (mr k) (r k)) ?_|refine WD.callV (Zn.sign (mr k) (r k)) ?_
  by_cases c1:r k=0
  ·have hz1:=sgn_zero.2 c1
   repeat'(first|refine gB ?_|(refine gH ?_;intro g)|(refine gW ?_;intro v)|refine d114 ?_|fail)
   exact LoopEnd.mk (k+1,mx) (by show k+1≤n;omega) (by show n - (k+1) < n - k;omega) (hG:=.cons hmA (.cons (W.Has.mFsame (qf:=wpx l r (l col) k) hmA fun i _=>wpx_keep c1 i) (.cons hmA (.cons hmA .nil))))
  ·have hz1:¬sgn (r k).num=0:=fun h=>c1 (sgn_zero.1 h)
   repeat'(first|refine gB ?_|(refine gH ?_;intro g)|(refine gW ?_;intro v)|refine d114 ?_|fail)
   first|refine WL.callK (Zn.mul (ml col) (mr k) (l col) (r k) (hsm (hl col hc)) (hsm (hr k c))) ?_|refine WD.callK (Zn.mul (ml col) (mr k) (l col) (r k) (hsm (hl col hc)) (hsm (hr k c))) ?_|refine LO.callM (Zn.mul (ml col) (mr k) (l col) (r k) (hsm (hl col hc)) (hsm (hr k c))) ?_
   rintro _ _ _ ⟨m1,rfl,rfl,rfl⟩
   simp only[List.nil_append,List.cons_append]
   repeat'(first|refine gB ?_|(refine gH ?_;intro g)|(refine gW ?_;intro v)|refine d114 ?_|fail)
   first|refine WL.callK (Zn.sub (mx k) m1 (wpx l r (l col) k k) (l col*r k) (by rw[hw];exact hsm (hl k c)) (((hl col hc).mul (hr k c)).sm (by omega))) ?_|refine WD.callK (Zn.sub (mx k) m1 (wpx l r (l col) k k) (l col*r k) (by rw[hw];exact hsm (hl k c)) (((hl col hc).mul (hr k c)).sm (by omega))) ?_|refine LO.callM (Zn.sub (mx k) m1 (wpx l r (l col) k k) (l col*r k) (by rw[hw];exact hsm (hl k c)) (((hl col hc).mul (hr k c)).sm (by omega))) ?_
   rintro _ _ _ ⟨m2,rfl,rfl,rfl⟩
   simp only[List.nil_append,List.cons_append]
   refine WD.fact (mF n (upd mx k m2) (wpx l r (l col) (k+1))) ((W.Has.mFset (k:=k) (ms:=mx) (m:=m2) (qf:=wpx l r (l col) k) hmA hmA).mFsame fun i _=>wpx_up i) ?_
   repeat'(first|refine gB ?_|(refine gH ?_;intro g)|(refine gW ?_;intro v)|refine d114 ?_|fail)
   exact LoopEnd.mk (k+1,_) (by show k+1≤n;omega) (by show n - (k+1) < n - k;omega)
 ·obtain rfl:k=n:=by omega
  repeat'(first|refine gB ?_|(refine gH ?_;intro g)|(refine gW ?_;intro v)|refine d114 ?_|fail)
  exact Fin.p [Ow.slice lv 31 4 (qcells k mx),Ow.slice rw 31 4 (qcells k mr)] [mF k mx (fun j=>l j - l col*r j)] (ResE.t0 rfl) meA slA (.cons (W.Has.mFsame (qf:=wpx l r (l col) k) hmA (fun i hi=>by simp[wpx,hi])) .nil) ⟨_,rfl,rfl,rfl⟩
end Z
end Go.Proofs.YtaongbhamadlkaaGreat
