/- Lemmas for the proof of a law: Contracts: the model's rational numbers. Conditions: none. -/
import Derived.Test.YtaongbhamadlkaaGreatBs6
import Derived.Test.YtaongbhamadlkaaGreatBs5
import Derived.Test.YtaongbhamadlkaaGreatBs3
set_option linter.unusedVariables false
set_option linter.unusedSimpArgs false
set_option linter.unusedSectionVars false
namespace Go.Proofs.YtaongbhamadlkaaGreat
open W Go.RowKit
namespace Rp
open Dvz Dvv Adc Rm Rn Ro Rtm Rtc
attribute [local irreducible] WC WL WD YO LO LoopEnd W.Fin Scalar SliceT FieldAt Row ArrT AllocT KnS Has W.One SrcE IntT
theorem d62 {G G':Prop} (h:G') (s:Bx G'→G:=by
 intro h
 first|(apply WC.draw (id:=1) [0,1,2,5,6,7,11] (.held 0 (.held 1 (.held 2 (.held 5 (.held 6 (.held 7 (.loud 3 (.loud 4 (.loud 8 (.loud 9 (.loud 10 (.held 11 (.done))))))))))))) mixed (by kernel_rfl))|fail
 exact Bx.h h):G:=s ⟨h⟩
theorem d76 {G G':Prop} (h:G') (s:Bx G'→G:=by
 intro h
 first|(apply WC.draw (id:=1) [0,1,2] (.held 0 (.held 1 (.held 2 (.more 3 (.more 4 (.loud 5 (.loud 6 (.done))) (.loud 5 (.loud 4 (.loud 6 (.done))))) (.loud 5 (.loud 3 (.loud 4 (.loud 6 (.done))))))))) mixed (by kernel_rfl))|(apply WC.draw (id:=2) [0,1,2] (.held 0 (.held 1 (.held 2 (.more 3 (.more 4 (.loud 5 (.loud 6 (.done))) (.loud 5 (.loud 4 (.loud 6 (.done))))) (.loud 5 (.loud 3 (.loud 4 (.loud 6 (.done))))))))) mixed (by kernel_rfl))|(apply WC.draw (id:=3) [0,1,3,5] (.held 0 (.held 1 (.held 3 (.held 5 (.loud 2 (.loud 4 (.loud 6 (.loud 7 (.loud 8 (.loud 9 (.done))))))))))) mixed (by kernel_rfl))|fail
 exact Bx.h h):G:=s ⟨h⟩
theorem d132 {G G':Prop} (h:G') (s:Bx G'→G:=by
 intro h
 first|(apply WC.draw (id:=6) [0,1,2,3,4,5,6,7,8,9,10] (.held 0 (.held 1 (.held 2 (.held 3 (.held 4 (.held 5 (.held 6 (.held 7 (.held 8 (.held 9 (.held 10 (.done)))))))))))) mixed (by kernel_rfl))|fail
 exact Bx.h h):G:=s ⟨h⟩
set_option maxHeartbeats 4000000 in
set_option maxRecDepth 8000 in
theorem isame_c (v1 v2:Value) (x y:Int):FnB Tryz.prog 132 [v1,v2] [] [isZ v1 x,isZ v2 y] (IsV (.bool (decide (x=y)))):=by
 refine fn_of [(0,v1),(1,v2)] 38 Tryz.func132 rfl Tryz.ntmps132 (by kernel_rfl) rfl suA fun h0=>?_
 refine WC.openZ (v:=v1) (z:=x) hmA fun n1 d1 hv hb1=>?_
 subst hv
 refine WC.openZ (v:=v2) (z:=y) hmA fun n2 d2 hv hb2=>?_
 subst hv
 refine WC.fact (sI d1 (digs x.natAbs)) (hasZ_d hmA) ?_
 refine WC.fact (sI d2 (digs y.natAbs)) (hasZ_d hmA) ?_
 have hd:=digs_eq hb1 hb2
 generalize digs x.natAbs=a at *
 generalize digs y.natAbs=b at *
 refine WC.lenI d1 a hmA fun hlen=>?_
 by_cases c1:n1=n2
 ·subst c1
  by_cases c2:a.length=b.length
  ·repeat'(first|refine gB ?_|(refine gH ?_;intro g)|(refine gW ?_;intro v)|refine d132 ?_|fail)
   rename_i g2
   revert g;intro g3
   refine WC.lp (σ:=Nat) (fun k=>[(5,.int .i64 (k:Int)),(2,ptr g2),(3,ptr g3)]) (fun _=>[Ow.cells g3 29 [.bool n1,d2],Ow.cells g2 29 [.bool n1,d1]]) (fun _=>[ge h0,sI d1 a,sI d2 b]) (fun k=>k≤a.length∧∀ j,j < k→a.getD j 0=b.getD j 0) (fun k=>a.length - k) 0 ⟨by simp,fun j hj=>by omega⟩ ?_
   rintro k ⟨hk,hs⟩
   by_cases h:k < a.length
   ·by_cases c3:a.getD k 0=b.getD k 0
    ·repeat'(first|refine gB ?_|(refine gH ?_;intro g)|(refine gW ?_;intro v)|refine d132 ?_|fail)
     exact LoopEnd.mk (k+1) ⟨by omega,fun j hj=>if hjk:j=k then hjk ▸ c3 else hs j (by omega)⟩ (by omega)
    ·repeat'(first|refine gB ?_|(refine gH ?_;intro g)|(refine gW ?_;intro v)|refine d132 ?_|fail)
     refine WC.ret ?_
     exact Fin.v (ResE.t1 rfl rfl) meA (by rw[decide_eq_false (fun he=>c3 (by rw[(hd.2 he).2]))])
   ·repeat'(first|refine gB ?_|(refine gH ?_;intro g)|(refine gW ?_;intro v)|refine d132 ?_|fail)
    refine WC.ret ?_
    exact Fin.v (ResE.t1 rfl rfl) meA (by rw[decide_eq_true (hd.1 ⟨rfl,val_eq_all c2 (fun j hj=>hs j (by omega))⟩)])
  ·repeat'(first|refine gB ?_|(refine gH ?_;intro g)|(refine gW ?_;intro v)|refine d132 ?_|fail)
   refine WC.ret ?_
   exact Fin.v (ResE.t1 rfl rfl) meA (by rw[decide_eq_false (fun he=>c2 (by rw[(hd.2 he).2]))])
 ·repeat'(first|refine gB ?_|(refine gH ?_;intro g)|(refine gW ?_;intro v)|refine d132 ?_|fail)
  refine WC.ret ?_
  exact Fin.v (ResE.t1 rfl rfl) meA (by rw[decide_eq_false (fun he=>c1 (hd.2 he).1)])
set_option maxHeartbeats 4000000 in
set_option maxRecDepth 8000 in
theorem rden_c (v:Value) (q:Rat):FnB Tryz.prog 127 [v] [] [isQ v q] (IsZ (q.den:Int)):=by
 refine fn_of [(0,v)] 11 Tryz.func127 rfl Tryz.ntmps127 (by kernel_rfl) rfl suA fun h0=>?_
 refine WC.openQ (v:=v) (q:=q) hmA fun n1 d1 d2 hv hb1=>?_
 subst hv
 have hl:=@qz_len q
 by_cases c:q.den=1
 ·have hl0:=hl.2 c
  repeat'(first|refine gA ?_|(refine goG ?_;intro g)|(refine goV ?_;intro v))
  first|refine WL.callK (rof_c 1 (by decide) (by decide)) ?_|refine WD.callK (rof_c 1 (by decide) (by decide)) ?_|refine LO.callM (rof_c 1 (by decide) (by decide)) ?_
  rintro _ _ _ ⟨nb,d,rfl,hb,rfl,rfl⟩
  simp only[List.nil_append,List.cons_append]
  repeat'(first|refine gA ?_|(refine goG ?_;intro g)|(refine goV ?_;intro v))
  rw[show((q.den:Nat):Int)=1 by omega]
  refine WC.ret ?_
  exact Fin.p [] [isZ (.agg #[.bool nb,d]) 1] (ResE.cV rfl rfl meA T.r29 rfl) meA (List.nil_sublist _) haA ⟨nb,_,rfl,hb,rfl,rfl⟩
 ·have hl0:(digs (qz q).natAbs).length≠0:=fun h=>c (hl.1 h)
  have hz:qz q=(q.den:Int):=by unfold qz;rw[if_neg c]
  rw[hz] at hl0
  refine WC.fact (isZ (.agg #[.bool false,d2]) (q.den:Int)) (by rw[←hz];exact hasQ_Q hmA) ?_
  repeat'(first|refine gA ?_|(refine goG ?_;intro g)|(refine goV ?_;intro v))
  refine WC.ret ?_
  exact Fin.p [] [isZ (.agg #[.bool false,d2]) (q.den:Int)] (ResE.cV rfl rfl meA T.r29 rfl) meA (List.nil_sublist _) haA ⟨false,_,rfl,nneg_dec _,rfl,rfl⟩
set_option maxHeartbeats 4000000 in
set_option maxRecDepth 8000 in
theorem runit_c (v:Value) (z:Int):FnB Tryz.prog 145 [v] [] [isZ v z] (IsV (.bool (decide (z=1)))):=by
 refine fn_of [(0,v)] 16 Tryz.func145 rfl Tryz.ntmps145 (by kernel_rfl) rfl suA fun h0=>?_
 refine WC.openZ (v:=v) (z:=z) hmA fun n1 d1 hv hb1=>?_
 subst hv
 refine WC.fact (sI d1 (digs z.natAbs)) (hasZ_d hmA) ?_
 have hl1:=@len_one z.natAbs
 generalize hD:digs z.natAbs=D at *
 cases n1 with
 |true=>
  have hz:z < 0:=of_decide_eq_true hb1.symm
  repeat'(first|refine gA ?_|(refine goG ?_;intro g)|(refine goV ?_;intro v))
  refine WC.ret ?_
  exact Fin.v (ResE.t1 rfl rfl) meA (by rw[decide_eq_false (by omega)])
 |false=>
  have hz:¬z < 0:=of_decide_eq_false hb1.symm
  by_cases c:D.length=1
  ·by_cases c2:D.getD 0 0=1
   ·have h3:=hl1.1 ⟨c,c2⟩
    have c3:D.getD (0:Int).toNat 0=1:=c2
    repeat'(first|refine gA ?_|(refine goG ?_;intro g)|(refine goV ?_;intro v))
    refine WC.ret ?_
    exact Fin.v (ResE.t1 rfl rfl) meA (by rw[decide_eq_true (by omega)])
   ·have h3:z≠1:=fun h=>c2 (hl1.2 (by omega)).2
    have c3:D.getD (0:Int).toNat 0≠1:=c2
    repeat'(first|refine gA ?_|(refine goG ?_;intro g)|(refine goV ?_;intro v))
    refine WC.ret ?_
    exact Fin.v (ResE.t1 rfl rfl) meA (by rw[decide_eq_false h3])
  ·have h3:z≠1:=fun h=>c (hl1.2 (by omega)).1
   repeat'(first|refine gA ?_|(refine goG ?_;intro g)|(refine goV ?_;intro v))
   refine WC.ret ?_
   exact Fin.v (ResE.t1 rfl rfl) meA (by rw[decide_eq_false h3])
set_option maxHeartbeats 8000000 in
set_option maxRecDepth 8000 in
theorem rmake_c (v1 v2:Value) (p q:Int) (h1:Lz p.natAbs) (h2:Lz q.natAbs):FnB Tryz.prog 90 [v1,v2] [] [isZ v1 p,isZ v2 q] (IsQ (Rat.divInt p q)):=by
 refine fn_of [(0,v1),(1,v2)] 49 Tryz.func90 rfl Tryz.ntmps90 (by kernel_rfl) rfl suA fun h0=>?_
 refine WC.openZ (v:=v1) (z:=p) hmA fun n1 d1 hv hb1=>?_
 subst hv
 refine WC.openZ (v:=v2) (z:=q) hmA fun n2 d2 hv hb2=>?_
 subst hv
 have lp:=@digs_len0 p.natAbs
 have lq:=@digs_len0 q.natAbs
 by_cases c0:q=0
 ·have hl:=lq.2 (by omega)
  repeat'(first|refine gA ?_|(refine goG ?_;intro g)|(refine goV ?_;intro v))
  rw[c0,Rat.divInt_zero]
  refine WC.ret ?_
  exact Fin.p [] [isQ (.agg #[.bool false,.slice none 0 0,.bool false,.slice none 0 0]) 0] (ResE.cV rfl rfl meA T.r31 rfl) meA (List.nil_sublist _) (.cons hasQ_0 .nil) ⟨false,_,_,rfl,rfl,rfl,rfl⟩
 have hlq:=len_pos (n:=q.natAbs) (by omega)
 by_cases c1:p=0
 ·have hl:=lp.2 (by omega)
  repeat'(first|refine gA ?_|(refine goG ?_;intro g)|(refine goV ?_;intro v))
  rw[c1,Rat.zero_divInt]
  refine WC.ret ?_
  exact Fin.p [] [isQ (.agg #[.bool false,.slice none 0 0,.bool false,.slice none 0 0]) 0] (ResE.cV rfl rfl meA T.r31 rfl) meA (List.nil_sublist _) (.cons hasQ_0 .nil) ⟨false,_,_,rfl,rfl,rfl,rfl⟩
 have hlp:=len_pos (n:=p.natAbs) (by omega)
 obtain⟨hn,hd⟩:=num_make (p:=p) (q:=q) c0 c1
 have hg:0 < Int.gcd p q:=Int.gcd_pos_of_ne_zero_right _ c0
 have hg2:Lz (Int.gcd p q):=h2.le (Nat.le_of_dvd (by omega) (Nat.gcd_dvd_right ..))
 generalize hr:Rat.divInt p q=r at *
 have hqne:q / (Int.gcd p q:Int)≠0:=fun h=>by
  have:=Int.ediv_mul_cancel (Int.gcd_dvd_right (a:=p) (b:=q))
  rw[h] at this;omega
 have fin:∀ (F:List Fct) (nb:Bool) (e1 e2:Value),r.den≠1→Has F (isZ (.agg #[.bool nb,e1]) r.num)→Has F (isZ (.agg #[.bool false,e2]) (r.den:Int))→nb=decide (r.num < 0)→Has F (isQ (.agg #[.bool nb,e1,.bool false,e2]) r):=fun F nb e1 e2 h1 h2 h3 hb=>hasQ_of hb (hasZ_d h2) (by
  have:qz r=(r.den:Int):=by unfold qz;rw[if_neg h1]
  rw[this];exact hasZ_d h3)
 have fin1:∀ (F:List Fct) (nb:Bool) (e1:Value),r.den=1→Has F (isZ (.agg #[.bool nb,e1]) r.num)→nb=decide (r.num < 0)→Has F (isQ (.agg #[.bool nb,e1,.bool false,.slice none 0 0]) r):=fun F nb e1 h1 h2 hb=>hasQ_of hb (hasZ_d h2) (by
  have:qz r=0:=by unfold qz;rw[if_pos h1]
  rw[this];simpa [digs_0] using nil0)
 repeat'(first|refine gA ?_|(refine goG ?_;intro g)|(refine goV ?_;intro v))
 first|refine WL.callK (rgcd_c (.agg #[.bool n1,d1]) (.agg #[.bool n2,d2]) p q h1 h2) ?_|refine WD.callK (rgcd_c (.agg #[.bool n1,d1]) (.agg #[.bool n2,d2]) p q h1 h2) ?_|refine LO.callM (rgcd_c (.agg #[.bool n1,d1]) (.agg #[.bool n2,d2]) p q h1 h2) ?_
 rintro _ _ _ ⟨n3,d3,rfl,hb3,rfl,rfl⟩
 simp only[List.nil_append,List.cons_append]
 repeat'(first|refine gA ?_|(refine goG ?_;intro g)|(refine goV ?_;intro v))
 revert g;intro g5
 first|refine WL.callK (rdiv_c (.agg #[.bool n1,d1]) (.agg #[.bool n3,d3]) p ((Int.gcd p q:Nat):Int) h1 hg2 (by omega)) ?_|refine WD.callK (rdiv_c (.agg #[.bool n1,d1]) (.agg #[.bool n3,d3]) p ((Int.gcd p q:Nat):Int) h1 hg2 (by omega)) ?_|refine LO.callM (rdiv_c (.agg #[.bool n1,d1]) (.agg #[.bool n3,d3]) p ((Int.gcd p q:Nat):Int) h1 hg2 (by omega)) ?_
 rintro _ _ _ ⟨n4,d4,n5,d5,rfl,hb4,hb5,rfl,rfl⟩
 simp only[List.nil_append,List.cons_append]
 repeat'(first|refine gA ?_|(refine goG ?_;intro g)|(refine goV ?_;intro v))
 revert g;intro g7
 first|refine WL.callK (rdiv_c (.agg #[.bool n2,d2]) (.agg #[.bool n3,d3]) q ((Int.gcd p q:Nat):Int) h2 hg2 (by omega)) ?_|refine WD.callK (rdiv_c (.agg #[.bool n2,d2]) (.agg #[.bool n3,d3]) q ((Int.gcd p q:Nat):Int) h2 hg2 (by omega)) ?_|refine LO.callM (rdiv_c (.agg #[.bool n2,d2]) (.agg #[.bool n3,d3]) q ((Int.gcd p q:Nat):Int) h2 hg2 (by omega)) ?_
 rintro _ _ _ ⟨n6,d6,n7,d7,rfl,hb6,hb7,rfl,rfl⟩
 simp only[List.nil_append,List.cons_append]
 generalize p / ((Int.gcd p q:Nat):Int)=P at *
 generalize q / ((Int.gcd p q:Nat):Int)=Q at *
 cases n6 with
 |true=>
  have hq2:Q < 0:=of_decide_eq_true hb6.symm
  rw[if_pos hq2] at hn
  repeat'(first|refine gA ?_|(refine goG ?_;intro g)|(refine goV ?_;intro v))
  first|refine WL.callK (rneg_c (.agg #[.bool n4,d4]) P) ?_|refine WD.callK (rneg_c (.agg #[.bool n4,d4]) P) ?_|refine LO.callM (rneg_c (.agg #[.bool n4,d4]) P) ?_
  rintro _ _ _ ⟨n8,d8,rfl,hb8,rfl,rfl⟩
  simp only[List.nil_append,List.cons_append]
  repeat'(first|refine gA ?_|(refine goG ?_;intro g)|(refine goV ?_;intro v))
  first|refine WL.callK (rneg_c (.agg #[.bool true,d6]) Q) ?_|refine WD.callK (rneg_c (.agg #[.bool true,d6]) Q) ?_|refine LO.callM (rneg_c (.agg #[.bool true,d6]) Q) ?_
  rintro _ _ _ ⟨n9,d9,rfl,hb9,rfl,rfl⟩
  simp only[List.nil_append,List.cons_append]
  obtain rfl:false=n9:=by rw[hb9,eq_comm,decide_eq_false_iff_not];omega
  rw[←hn] at hb8 ⊢
  rw[show -Q=(r.den:Int) by omega]
  repeat'(first|refine gA ?_|(refine goG ?_;intro g)|(refine goV ?_;intro v))
  first|refine WL.callV (runit_c (.agg #[.bool false,d9]) (r.den:Int)) ?_|refine WD.callV (runit_c (.agg #[.bool false,d9]) (r.den:Int)) ?_
  by_cases c:r.den=1
  ·rw[decide_eq_true (by omega)]
   repeat'(first|refine gA ?_|(refine goG ?_;intro g)|(refine goV ?_;intro v))
   refine WC.fact (isQ (.agg #[.bool n8,d8,.bool false,.slice none 0 0]) r) (fin1 _ _ _ c hmA hb8) ?_
   refine WC.ret ?_
   exact Fin.p [] [isQ (.agg #[.bool n8,d8,.bool false,.slice none 0 0]) r] (ResE.cV rfl rfl meA T.r31 rfl) meA (List.nil_sublist _) haA ⟨n8,_,_,rfl,hb8,rfl,rfl⟩
  ·rw[decide_eq_false (by omega)]
   repeat'(first|refine gA ?_|(refine goG ?_;intro g)|(refine goV ?_;intro v))
   refine WC.fact (isQ (.agg #[.bool n8,d8,.bool false,d9]) r) (fin _ _ _ _ c hmA hmA hb8) ?_
   refine WC.ret ?_
   exact Fin.p [] [isQ (.agg #[.bool n8,d8,.bool false,d9]) r] (ResE.cV rfl rfl meA T.r31 rfl) meA (List.nil_sublist _) haA ⟨n8,_,_,rfl,hb8,rfl,rfl⟩
 |false=>
  have hq2:¬Q < 0:=of_decide_eq_false hb6.symm
  rw[if_neg hq2] at hn
  rw[←hn] at hb4 ⊢
  rw[show Q=(r.den:Int) by omega]
  repeat'(first|refine gA ?_|(refine goG ?_;intro g)|(refine goV ?_;intro v))
  first|refine WL.callV (runit_c (.agg #[.bool false,d6]) (r.den:Int)) ?_|refine WD.callV (runit_c (.agg #[.bool false,d6]) (r.den:Int)) ?_
  by_cases c:r.den=1
  ·rw[decide_eq_true (by omega)]
   repeat'(first|refine gA ?_|(refine goG ?_;intro g)|(refine goV ?_;intro v))
   refine WC.fact (isQ (.agg #[.bool n4,d4,.bool false,.slice none 0 0]) r) (fin1 _ _ _ c hmA hb4) ?_
   refine WC.ret ?_
   exact Fin.p [] [isQ (.agg #[.bool n4,d4,.bool false,.slice none 0 0]) r] (ResE.cV rfl rfl meA T.r31 rfl) meA (List.nil_sublist _) haA ⟨n4,_,_,rfl,hb4,rfl,rfl⟩
  ·rw[decide_eq_false (by omega)]
   repeat'(first|refine gA ?_|(refine goG ?_;intro g)|(refine goV ?_;intro v))
   refine WC.fact (isQ (.agg #[.bool n4,d4,.bool false,d6]) r) (fin _ _ _ _ c hmA hmA hb4) ?_
   refine WC.ret ?_
   exact Fin.p [] [isQ (.agg #[.bool n4,d4,.bool false,d6]) r] (ResE.cV rfl rfl meA T.r31 rfl) meA (List.nil_sublist _) haA ⟨n4,_,_,rfl,hb4,rfl,rfl⟩
set_option maxHeartbeats 4000000 in
set_option maxRecDepth 8000 in
theorem rqof_c (p q:Int) (h1:p.natAbs < B2) (h2:q.natAbs < B2):FnB Tryz.prog 30 [.int .i64 p,.int .i64 q] [] [] (IsQ (Rat.divInt p q)):=by
 refine fn_of [(0,(.int .i64 p)),(1,(.int .i64 q))] 10 Tryz.func30 rfl Tryz.ntmps30 (by kernel_rfl) rfl suA fun h0=>?_
 have h1':p.natAbs < 1000000000000000000:=h1
 have h2':q.natAbs < 1000000000000000000:=h2
 repeat'(first|refine gA ?_|(refine goG ?_;intro g)|(refine goV ?_;intro v))
 first|refine WL.callK (rof_c p (by omega) (by omega)) ?_|refine WD.callK (rof_c p (by omega) (by omega)) ?_|refine LO.callM (rof_c p (by omega) (by omega)) ?_
 rintro _ _ _ ⟨n1,d1,rfl,hb1,rfl,rfl⟩
 simp only[List.nil_append,List.cons_append]
 repeat'(first|refine gA ?_|(refine goG ?_;intro g)|(refine goV ?_;intro v))
 first|refine WL.callK (rof_c q (by omega) (by omega)) ?_|refine WD.callK (rof_c q (by omega) (by omega)) ?_|refine LO.callM (rof_c q (by omega) (by omega)) ?_
 rintro _ _ _ ⟨n2,d2,rfl,hb2,rfl,rfl⟩
 simp only[List.nil_append,List.cons_append]
 repeat'(first|refine gA ?_|(refine goG ?_;intro g)|(refine goV ?_;intro v))
 first|refine WL.callK (rmake_c (.agg #[.bool n1,d1]) (.agg #[.bool n2,d2]) p q (Lz.of h1) (Lz.of h2)) ?_|refine WD.callK (rmake_c (.agg #[.bool n1,d1]) (.agg #[.bool n2,d2]) p q (Lz.of h1) (Lz.of h2)) ?_|refine LO.callM (rmake_c (.agg #[.bool n1,d1]) (.agg #[.bool n2,d2]) p q (Lz.of h1) (Lz.of h2)) ?_
 rintro _ _ _ ⟨nb,e1,e2,rfl,hb,rfl,rfl⟩
 simp only[List.nil_append,List.cons_append]
 repeat'(first|refine gA ?_|(refine goG ?_;intro g)|(refine goV ?_;intro v))
 refine WC.ret ?_
 exact Fin.p [] [isQ (.agg #[.bool nb,e1,.bool false,e2]) (Rat.divInt p q)] (ResE.cV rfl rfl meA T.r31 rfl) meA (List.nil_sublist _) haA ⟨nb,_,_,rfl,hb,rfl,rfl⟩
set_option maxHeartbeats 4000000 in
set_option maxRecDepth 8000 in
theorem rqsign_c (v:Value) (q:Rat):FnB Tryz.prog 60 [v] [] [isQ v q] (IsV (.int .i64 (sgn q.num))):=by
 refine fn_of [(0,v)] 6 Tryz.func60 rfl Tryz.ntmps60 (by kernel_rfl) rfl suA fun h0=>?_
 refine WC.openQ (v:=v) (q:=q) hmA fun n1 d1 d2 hv hb1=>?_
 subst hv
 refine WC.fact (isZ (.agg #[.bool n1,d1]) q.num) (hasQ_P hmA) ?_
 repeat'(first|refine gA ?_|(refine goG ?_;intro g)|(refine goV ?_;intro v))
 first|refine WL.callV (rsign_c (.agg #[.bool n1,d1]) q.num) ?_|refine WD.callV (rsign_c (.agg #[.bool n1,d1]) q.num) ?_
 repeat'(first|refine gA ?_|(refine goG ?_;intro g)|(refine goV ?_;intro v))
 refine WC.ret ?_
 exact Fin.v (ResE.t1 rfl rfl) meA rfl
set_option maxHeartbeats 4000000 in
set_option maxRecDepth 8000 in
theorem rqsame_c (v1 v2:Value) (a b:Rat):FnB Tryz.prog 68 [v1,v2] [] [isQ v1 a,isQ v2 b] (IsV (.bool (decide (a=b)))):=by
 refine fn_of [(0,v1),(1,v2)] 17 Tryz.func68 rfl Tryz.ntmps68 (by kernel_rfl) rfl suA fun h0=>?_
 refine WC.openQ (v:=v1) (q:=a) hmA fun n1 d1 d2 hv hb1=>?_
 subst hv
 refine WC.openQ (v:=v2) (q:=b) hmA fun n2 d3 d4 hv hb2=>?_
 subst hv
 repeat'(first|refine gA ?_|(refine goG ?_;intro g)|(refine goV ?_;intro v))
 first|refine WL.callV (isame_c (.agg #[.bool n1,d1]) (.agg #[.bool n2,d3]) a.num b.num) ?_|refine WD.callV (isame_c (.agg #[.bool n1,d1]) (.agg #[.bool n2,d3]) a.num b.num) ?_
 by_cases c:a.num=b.num
 ·rw[decide_eq_true c]
  repeat'(first|refine gA ?_|(refine goG ?_;intro g)|(refine goV ?_;intro v))
  first|refine WL.callV (isame_c (.agg #[.bool false,d2]) (.agg #[.bool false,d4]) (qz a) (qz b)) ?_|refine WD.callV (isame_c (.agg #[.bool false,d2]) (.agg #[.bool false,d4]) (qz a) (qz b)) ?_
  rw[show decide (qz a=qz b)=decide (a=b) by rw[decide_eq_decide];exact⟨fun h=>qz_inj c h,fun h=>by rw[h]⟩]
  repeat'(first|refine gA ?_|(refine goG ?_;intro g)|(refine goV ?_;intro v))
  refine WC.ret ?_
  exact Fin.v (ResE.t1 rfl rfl) meA rfl
 ·rw[decide_eq_false c]
  repeat'(first|refine gA ?_|(refine goG ?_;intro g)|(refine goV ?_;intro v))
  refine WC.ret ?_
  exact Fin.v (ResE.t1 rfl rfl) meA (by rw[decide_eq_false (fun h=>c (by rw[h]))])
set_option maxHeartbeats 4000000 in
set_option maxRecDepth 8000 in
theorem rqcompare_c (v1 v2:Value) (a b:Rat) (h1:Sm a) (h2:Sm b):FnB Tryz.prog 62 [v1,v2] [] [isQ v1 a,isQ v2 b] (IsV (.int .i64 (cmpQ a b))):=by
 refine fn_of [(0,v1),(1,v2)] 16 Tryz.func62 rfl Tryz.ntmps62 (by kernel_rfl) rfl suA fun h0=>?_
 refine WC.openQ (v:=v1) (q:=a) hmA fun n1 d1 d2 hv hb1=>?_
 subst hv
 refine WC.openQ (v:=v2) (q:=b) hmA fun n2 d3 d4 hv hb2=>?_
 subst hv
 obtain⟨s1,s2⟩:=h1
 obtain⟨s3,s4⟩:=h2
 refine WC.fact (isZ (.agg #[.bool n1,d1]) a.num) (hasQ_P hmA) ?_
 refine WC.fact (isZ (.agg #[.bool n2,d3]) b.num) (hasQ_P hmA) ?_
 have q1:=Sm.mul s1 s4
 have q2:=Sm.mul s3 s2
 repeat'(first|refine gB ?_|(refine gH ?_;intro g)|(refine gW ?_;intro v)|refine d62 ?_|fail)
 first|refine WL.callK (rden_c (.agg #[.bool n2,d3,.bool false,d4]) b) ?_|refine WD.callK (rden_c (.agg #[.bool n2,d3,.bool false,d4]) b) ?_|refine LO.callM (rden_c (.agg #[.bool n2,d3,.bool false,d4]) b) ?_
 rintro _ _ _ ⟨n5,d5,rfl,hb5,rfl,rfl⟩
 simp only[List.nil_append,List.cons_append]
 repeat'(first|refine gB ?_|(refine gH ?_;intro g)|(refine gW ?_;intro v)|refine d62 ?_|fail)
 first|refine WL.callK (rmul_c (.agg #[.bool n1,d1]) (.agg #[.bool n5,d5]) a.num (b.den:Int) (Sm.w s1) (Sm.w s4)) ?_|refine WD.callK (rmul_c (.agg #[.bool n1,d1]) (.agg #[.bool n5,d5]) a.num (b.den:Int) (Sm.w s1) (Sm.w s4)) ?_|refine LO.callM (rmul_c (.agg #[.bool n1,d1]) (.agg #[.bool n5,d5]) a.num (b.den:Int) (Sm.w s1) (Sm.w s4)) ?_
 rintro _ _ _ ⟨n6,d6,rfl,hb6,rfl,rfl⟩
 simp only[List.nil_append,List.cons_append]
 repeat'(first|refine gB ?_|(refine gH ?_;intro g)|(refine gW ?_;intro v)|refine d62 ?_|fail)
 first|refine WL.callK (rden_c (.agg #[.bool n1,d1,.bool false,d2]) a) ?_|refine WD.callK (rden_c (.agg #[.bool n1,d1,.bool false,d2]) a) ?_|refine LO.callM (rden_c (.agg #[.bool n1,d1,.bool false,d2]) a) ?_
 rintro _ _ _ ⟨n7,d7,rfl,hb7,rfl,rfl⟩
 simp only[List.nil_append,List.cons_append]
 repeat'(first|refine gB ?_|(refine gH ?_;intro g)|(refine gW ?_;intro v)|refine d62 ?_|fail)
 first|refine WL.callK (rmul_c (.agg #[.bool n2,d3]) (.agg #[.bool n7,d7]) b.num (a.den:Int) (Sm.w s3) (Sm.w s2)) ?_|refine WD.callK (rmul_c (.agg #[.bool n2,d3]) (.agg #[.bool n7,d7]) b.num (a.den:Int) (Sm.w s3) (Sm.w s2)) ?_|refine LO.callM (rmul_c (.agg #[.bool n2,d3]) (.agg #[.bool n7,d7]) b.num (a.den:Int) (Sm.w s3) (Sm.w s2)) ?_
 rintro _ _ _ ⟨n8,d8,rfl,hb8,rfl,rfl⟩
 simp only[List.nil_append,List.cons_append]
 repeat'(first|refine gB ?_|(refine gH ?_;intro g)|(refine gW ?_;intro v)|refine d62 ?_|fail)
 first|refine WL.callV (rcompare_c (.agg #[.bool n6,d6]) (.agg #[.bool n8,d8]) (a.num*(b.den:Int)) (b.num*(a.den:Int))) ?_|refine WD.callV (rcompare_c (.agg #[.bool n6,d6]) (.agg #[.bool n8,d8]) (a.num*(b.den:Int)) (b.num*(a.den:Int))) ?_
 rw[show cmpI (a.num*(b.den:Int)) (b.num*(a.den:Int))=cmpQ a b from rfl]
 repeat'(first|refine gB ?_|(refine gH ?_;intro g)|(refine gW ?_;intro v)|refine d62 ?_|fail)
 refine WC.ret ?_
 exact Fin.v (ResE.t1 rfl rfl) meA rfl
set_option maxHeartbeats 8000000 in
set_option maxRecDepth 8000 in
theorem rqadd_c (v1 v2:Value) (a b:Rat) (h1:Sm a) (h2:Sm b):FnB Tryz.prog 76 [v1,v2] [] [isQ v1 a,isQ v2 b] (IsQ (a+b)):=by
 refine fn_of [(0,v1),(1,v2)] 26 Tryz.func76 rfl Tryz.ntmps76 (by kernel_rfl) rfl suA fun h0=>?_
 refine WC.openQ (v:=v1) (q:=a) hmA fun n1 d1 d2 hv hb1=>?_
 subst hv
 refine WC.openQ (v:=v2) (q:=b) hmA fun n2 d3 d4 hv hb2=>?_
 subst hv
 obtain⟨s1,s2⟩:=h1
 obtain⟨s3,s4⟩:=h2
 have q1:=Sm.mul s1 s4
 have q2:=Sm.mul s3 s2
 have q3:=Sm.mul s2 s4
 have k1:Lz (a.num*(b.den:Int)).natAbs:=by rw[abs_mulc];exact Sm.w2 q1
 have k2:Lz (b.num*(a.den:Int)).natAbs:=by rw[abs_mulc];exact Sm.w2 q2
 have k3:Lz ((a.den:Int)*(b.den:Int)).natAbs:=by rw[abs_mulc,Int.natAbs_natCast];exact Sm.w2 q3
 have k4:Lz (a.num*(b.den:Int)+b.num*(a.den:Int)).natAbs:=Sm.w3 (by rw[abs_mulc];exact q1) (by rw[abs_mulc];exact q2)
 have m1:=fun (n5:Bool) (d5:Value)=>rmul_c (.agg #[.bool n1,d1]) (.agg #[.bool n5,d5]) a.num (b.den:Int) (Sm.w s1) (Sm.w s4)
 have m2:=fun (n5:Bool) (d5:Value)=>rmul_c (.agg #[.bool n2,d3]) (.agg #[.bool n5,d5]) b.num (a.den:Int) (Sm.w s3) (Sm.w s2)
 refine WC.fact (isZ (.agg #[.bool n1,d1]) a.num) (hasQ_P hmA) ?_
 refine WC.fact (isZ (.agg #[.bool n2,d3]) b.num) (hasQ_P hmA) ?_
 repeat'(first|refine gA ?_|(refine goG ?_;intro g)|(refine goV ?_;intro v))
 refine WC.cutP (σ:=Nat×Nat×Nat×Nat×Bool×Value) (fun s=>[(5,ptr s.1),(2,ptr s.2.1),(3,ptr s.2.2.1),(4,ptr s.2.2.2.1)])
  (fun s=>[Ow.cells s.1 29 [.bool s.2.2.2.2.1,s.2.2.2.2.2],Ow.cells s.2.1 31 [.bool n1,d1,.bool false,d2],Ow.cells s.2.2.1 31 [.bool n2,d3,.bool false,d4],Ow.cells s.2.2.2.1 31 [.bool false,.slice none 0 0,.bool false,.slice none 0 0]])
  (fun s=>[ge h0,isZ (.agg #[.bool s.2.2.2.2.1,s.2.2.2.2.2]) (a.num*(b.den:Int)),isZ (.agg #[.bool n1,d1]) a.num,isZ (.agg #[.bool n2,d3]) b.num,isQ (.agg #[.bool n1,d1,.bool false,d2]) a,isQ (.agg #[.bool n2,d3,.bool false,d4]) b]) (fun _=>True) ?_ ?_
 ·repeat'(first|refine gM ?_|(refine gI ?_;intro g)|(refine gU ?_;intro v)|refine gN ?_ ?_|refine d76 ?_|fail|((first|refine WL.callK (hv:=?hvQ) (rden_c (.agg #[.bool n2,d3,.bool false,d4]) b) ?_|refine WD.callK (hv:=?hvQ) (rden_c (.agg #[.bool n2,d3,.bool false,d4]) b) ?_|refine LO.callM (hv:=?hvQ) (rden_c (.agg #[.bool n2,d3,.bool false,d4]) b) ?_);(case hvQ=>((repeat(first|exact Evs.nil|(apply Evs.cons;exact rfl)));done));rintro _ _ _ ⟨zb,zd,rfl,zh,rfl,rfl⟩;simp only[List.nil_append,List.cons_append])|((first|refine WL.callK (hv:=?hvQ) (m1 zb zd) ?_|refine WD.callK (hv:=?hvQ) (m1 zb zd) ?_|refine LO.callM (hv:=?hvQ) (m1 zb zd) ?_);(case hvQ=>((repeat(first|exact Evs.nil|(apply Evs.cons;exact rfl)));done));rintro _ _ _ ⟨zb,zd,rfl,zh,rfl,rfl⟩;simp only[List.nil_append,List.cons_append])|fail)
  all_goals(apply Ex6;refine⟨trivial,?_,?_,?_⟩;(focus(repeat(first|exact Sub.nil _|refine Sub.cons rfl ?_)));(focus(repeat(first|exact SubP.nil _|(apply SubP.cons;(repeat(first|exact Rem.head|apply Rem.tail))))));(focus(repeat(first|exact HasAll.nil|(apply HasAll.cons;exact hsA)))))
 rintro⟨g5,g2,g3,g4,b5,e5⟩ _
 simp only
 repeat'(first|refine gA ?_|(refine goG ?_;intro g)|(refine goV ?_;intro v))
 refine WC.cutP (σ:=Nat×Bool×Value) (fun s=>[(6,ptr s.1),(5,ptr g5),(2,ptr g2),(3,ptr g3),(4,ptr g4)])
  (fun s=>[Ow.cells s.1 29 [.bool s.2.1,s.2.2],Ow.cells g5 29 [.bool b5,e5],Ow.cells g2 31 [.bool n1,d1,.bool false,d2],Ow.cells g3 31 [.bool n2,d3,.bool false,d4],Ow.cells g4 31 [.bool false,.slice none 0 0,.bool false,.slice none 0 0]])
  (fun s=>[ge h0,isZ (.agg #[.bool s.2.1,s.2.2]) (b.num*(a.den:Int)),isZ (.agg #[.bool b5,e5]) (a.num*(b.den:Int)),isQ (.agg #[.bool n1,d1,.bool false,d2]) a,isQ (.agg #[.bool n2,d3,.bool false,d4]) b]) (fun _=>True) ?_ ?_
 ·repeat'(first|refine gM ?_|(refine gI ?_;intro g)|(refine gU ?_;intro v)|refine gN ?_ ?_|refine d76 ?_|fail|((first|refine WL.callK (hv:=?hvQ) (rden_c (.agg #[.bool n1,d1,.bool false,d2]) a) ?_|refine WD.callK (hv:=?hvQ) (rden_c (.agg #[.bool n1,d1,.bool false,d2]) a) ?_|refine LO.callM (hv:=?hvQ) (rden_c (.agg #[.bool n1,d1,.bool false,d2]) a) ?_);(case hvQ=>((repeat(first|exact Evs.nil|(apply Evs.cons;exact rfl)));done));rintro _ _ _ ⟨zb,zd,rfl,zh,rfl,rfl⟩;simp only[List.nil_append,List.cons_append])|((first|refine WL.callK (hv:=?hvQ) (m2 zb zd) ?_|refine WD.callK (hv:=?hvQ) (m2 zb zd) ?_|refine LO.callM (hv:=?hvQ) (m2 zb zd) ?_);(case hvQ=>((repeat(first|exact Evs.nil|(apply Evs.cons;exact rfl)));done));rintro _ _ _ ⟨zb,zd,rfl,zh,rfl,rfl⟩;simp only[List.nil_append,List.cons_append])|fail)
  all_goals(apply Ex3;refine⟨trivial,?_,?_,?_⟩;(focus(repeat(first|exact Sub.nil _|refine Sub.cons rfl ?_)));(focus(repeat(first|exact SubP.nil _|(apply SubP.cons;(repeat(first|exact Rem.head|apply Rem.tail))))));(focus(repeat(first|exact HasAll.nil|(apply HasAll.cons;exact hsA)))))
 rintro⟨g6,b6,e6⟩ _
 simp only
 repeat'(first|refine gM ?_|(refine gI ?_;intro g)|(refine gU ?_;intro v)|refine gN ?_ ?_|refine d76 ?_|fail)
 first|refine WL.callK (radd_c (.agg #[.bool b5,e5]) (.agg #[.bool b6,e6]) (a.num*(b.den:Int)) (b.num*(a.den:Int)) k1 k2) ?_|refine WD.callK (radd_c (.agg #[.bool b5,e5]) (.agg #[.bool b6,e6]) (a.num*(b.den:Int)) (b.num*(a.den:Int)) k1 k2) ?_|refine LO.callM (radd_c (.agg #[.bool b5,e5]) (.agg #[.bool b6,e6]) (a.num*(b.den:Int)) (b.num*(a.den:Int)) k1 k2) ?_
 rintro _ _ _ ⟨n9,d9,rfl,hb9,rfl,rfl⟩
 simp only[List.nil_append,List.cons_append]
 repeat'(first|refine gM ?_|(refine gI ?_;intro g)|(refine gU ?_;intro v)|refine gN ?_ ?_|refine d76 ?_|fail)
 first|refine WL.callK (rden_c (.agg #[.bool n1,d1,.bool false,d2]) a) ?_|refine WD.callK (rden_c (.agg #[.bool n1,d1,.bool false,d2]) a) ?_|refine LO.callM (rden_c (.agg #[.bool n1,d1,.bool false,d2]) a) ?_
 rintro _ _ _ ⟨n7,d7,rfl,hb7,rfl,rfl⟩
 simp only[List.nil_append,List.cons_append]
 repeat'(first|refine gM ?_|(refine gI ?_;intro g)|(refine gU ?_;intro v)|refine gN ?_ ?_|refine d76 ?_|fail)
 first|refine WL.callK (rden_c (.agg #[.bool n2,d3,.bool false,d4]) b) ?_|refine WD.callK (rden_c (.agg #[.bool n2,d3,.bool false,d4]) b) ?_|refine LO.callM (rden_c (.agg #[.bool n2,d3,.bool false,d4]) b) ?_
 rintro _ _ _ ⟨n8,d8,rfl,hb8,rfl,rfl⟩
 simp only[List.nil_append,List.cons_append]
 repeat'(first|refine gM ?_|(refine gI ?_;intro g)|(refine gU ?_;intro v)|refine gN ?_ ?_|refine d76 ?_|fail)
 first|refine WL.callK (rmul_c (.agg #[.bool n7,d7]) (.agg #[.bool n8,d8]) (a.den:Int) (b.den:Int) (Sm.w s2) (Sm.w s4)) ?_|refine WD.callK (rmul_c (.agg #[.bool n7,d7]) (.agg #[.bool n8,d8]) (a.den:Int) (b.den:Int) (Sm.w s2) (Sm.w s4)) ?_|refine LO.callM (rmul_c (.agg #[.bool n7,d7]) (.agg #[.bool n8,d8]) (a.den:Int) (b.den:Int) (Sm.w s2) (Sm.w s4)) ?_
 rintro _ _ _ ⟨n10,d10,rfl,hb10,rfl,rfl⟩
 simp only[List.nil_append,List.cons_append]
 repeat'(first|refine gM ?_|(refine gI ?_;intro g)|(refine gU ?_;intro v)|refine gN ?_ ?_|refine d76 ?_|fail)
 first|refine WL.callK (rmake_c (.agg #[.bool n9,d9]) (.agg #[.bool n10,d10]) (a.num*(b.den:Int)+b.num*(a.den:Int)) ((a.den:Int)*(b.den:Int)) k4 k3) ?_|refine WD.callK (rmake_c (.agg #[.bool n9,d9]) (.agg #[.bool n10,d10]) (a.num*(b.den:Int)+b.num*(a.den:Int)) ((a.den:Int)*(b.den:Int)) k4 k3) ?_|refine LO.callM (rmake_c (.agg #[.bool n9,d9]) (.agg #[.bool n10,d10]) (a.num*(b.den:Int)+b.num*(a.den:Int)) ((a.den:Int)*(b.den:Int)) k4 k3) ?_
 rintro _ _ _ ⟨n11,d11,d12,rfl,hb11,rfl,rfl⟩
 simp only[List.nil_append,List.cons_append]
 rw[add_div] at hb11 ⊢
 repeat'(first|refine gM ?_|(refine gI ?_;intro g)|(refine gU ?_;intro v)|refine gN ?_ ?_|refine d76 ?_|fail)
 refine WC.ret ?_
 exact Fin.p [] [isQ (.agg #[.bool n11,d11,.bool false,d12]) (a+b)] (ResE.cV rfl rfl meA T.r31 rfl) meA (List.nil_sublist _) haA ⟨n11,_,_,rfl,hb11,rfl,rfl⟩
end Rp
end Go.Proofs.YtaongbhamadlkaaGreat
namespace Go.Proofs.YtaongbhamadlkaaGreat
open W Go.RowKit
theorem mul_di (a b:Rat):Rat.divInt (a.num*b.num) ((a.den:Int)*(b.den:Int))=a*b:=by
 rw[←Rat.divInt_mul_divInt,Rat.num_divInt_den,Rat.num_divInt_den]
theorem div_di (a b:Rat):Rat.divInt (a.num*(b.den:Int)) ((a.den:Int)*b.num)=a / b:=by
 rw[←Rat.divInt_mul_divInt,Rat.num_divInt_den,←Rat.inv_def,Rat.div_def]
theorem Lz.mul {x y:Int} (hx:(digs x.natAbs).length≤400000000) (hy:(digs y.natAbs).length≤400000000):Lz (x*y).natAbs:=by
 rw[Int.natAbs_mul];exact Sm.w2 (Sm.mul hx hy)
namespace Rp
open Dvz Dvv Adc Rtm Rta Rm Rn Ro
attribute [local irreducible] WC WL WD YO LO LoopEnd W.Fin Scalar SliceT FieldAt Row ArrT AllocT KnS Has W.One SrcE IntT
theorem d61 {G G':Prop} (h:G') (s:Bx G'→G:=by
 intro h
 first|(apply WC.draw (id:=1) [0,1,2,5,7,8] (.held 0 (.held 1 (.held 2 (.held 5 (.held 7 (.held 8 (.loud 3 (.loud 4 (.loud 6 (.loud 9 (.loud 10 (.loud 11 (.done))))))))))))) mixed (by kernel_rfl))|fail
 exact Bx.h h):G:=s ⟨h⟩
theorem d77 {G G':Prop} (h:G') (s:Bx G'→G:=by
 intro h
 first|(apply WC.draw (id:=1) [0,1,2,3,5,7] (.held 0 (.held 1 (.held 2 (.held 3 (.held 5 (.held 7 (.loud 4 (.loud 6 (.loud 8 (.loud 9 (.loud 10 (.loud 11 (.done))))))))))))) mixed (by kernel_rfl))|fail
 exact Bx.h h):G:=s ⟨h⟩
theorem d124 {G G':Prop} (h:G') (s:Bx G'→G:=by
 intro h
 first|(apply WC.draw (id:=1) [0,1,3,4,5] (.held 0 (.held 1 (.held 3 (.held 4 (.loud 2 (.held 5 (.loud 6 (.done)))))))) mixed (by kernel_rfl))|fail
 exact Bx.h h):G:=s ⟨h⟩
theorem d135 {G G':Prop} (h:G') (s:Bx G'→G:=by
 intro h
 first|(apply WC.draw (id:=1) [0,1] (.held 0 (.held 1 (.loud 2 (.loud 3 (.loud 4 (.done)))))) mixed (by kernel_rfl))|fail
 exact Bx.h h):G:=s ⟨h⟩
set_option maxHeartbeats 4000000 in
set_option maxRecDepth 8000 in
theorem rqneg_c (v:Value) (q:Rat):FnB Tryz.prog 124 [v] [] [isQ v q] (IsQ (-q)):=by
 refine fn_of [(0,v)] 9 Tryz.func124 rfl Tryz.ntmps124 (by kernel_rfl) rfl suA fun h0=>?_
 refine WC.openQ (v:=v) (q:=q) hmA fun n1 d1 d2 hv hb1=>?_
 subst hv
 refine WC.fact (isZ (.agg #[.bool n1,d1]) q.num) (hasQ_P hmA) ?_
 repeat'(first|refine gB ?_|(refine gH ?_;intro g)|(refine gW ?_;intro v)|refine d124 ?_|fail)
 first|refine WL.callK (rneg_c (.agg #[.bool n1,d1]) q.num) ?_|refine WD.callK (rneg_c (.agg #[.bool n1,d1]) q.num) ?_|refine LO.callM (rneg_c (.agg #[.bool n1,d1]) q.num) ?_
 rintro _ _ _ ⟨n3,d3,rfl,hb3,rfl,rfl⟩
 simp only[List.nil_append,List.cons_append]
 repeat'(first|refine gB ?_|(refine gH ?_;intro g)|(refine gW ?_;intro v)|refine d124 ?_|fail)
 have hb4:n3=decide ((-q).num < 0):=by rw[Rat.neg_num];exact hb3
 refine WC.fact (isQ (.agg #[.bool n3,d3,.bool false,d2]) (-q)) (hasQ_of hb4 (by rw[Rat.neg_num];exact hasZ_d hmA) (by rw[show qz (-q)=qz q by unfold qz;rw[Rat.neg_den]];exact hasQ_d2 hmA)) ?_
 refine WC.ret ?_
 exact Fin.p [] [isQ (.agg #[.bool n3,d3,.bool false,d2]) (-q)] (ResE.cV rfl rfl meA T.r31 rfl) meA (List.nil_sublist _) haA ⟨n3,_,_,rfl,hb4,rfl,rfl⟩
set_option maxHeartbeats 4000000 in
set_option maxRecDepth 8000 in
theorem rqsub_c (v1 v2:Value) (a b:Rat) (h1:Sm a) (h2:Sm b):FnB Tryz.prog 135 [v1,v2] [] [isQ v1 a,isQ v2 b] (IsQ (a - b)):=by
 refine fn_of [(0,v1),(1,v2)] 9 Tryz.func135 rfl Tryz.ntmps135 (by kernel_rfl) rfl suA fun h0=>?_
 refine WC.openQ (v:=v1) (q:=a) hmA fun n1 d1 d2 hv hb1=>?_
 subst hv
 refine WC.openQ (v:=v2) (q:=b) hmA fun n2 d3 d4 hv hb2=>?_
 subst hv
 repeat'(first|refine gB ?_|(refine gH ?_;intro g)|(refine gW ?_;intro v)|refine d135 ?_|fail)
 first|refine WL.callK (rqneg_c (.agg #[.bool n2,d3,.bool false,d4]) b) ?_|refine WD.callK (rqneg_c (.agg #[.bool n2,d3,.bool false,d4]) b) ?_|refine LO.callM (rqneg_c (.agg #[.bool n2,d3,.bool false,d4]) b) ?_
 rintro _ _ _ ⟨n3,d5,d6,rfl,hb3,rfl,rfl⟩
 simp only[List.nil_append,List.cons_append]
 repeat'(first|refine gB ?_|(refine gH ?_;intro g)|(refine gW ?_;intro v)|refine d135 ?_|fail)
 first|refine WL.callK (rqadd_c (.agg #[.bool n1,d1,.bool false,d2]) (.agg #[.bool n3,d5,.bool false,d6]) a (-b) h1 h2.neg) ?_|refine WD.callK (rqadd_c (.agg #[.bool n1,d1,.bool false,d2]) (.agg #[.bool n3,d5,.bool false,d6]) a (-b) h1 h2.neg) ?_|refine LO.callM (rqadd_c (.agg #[.bool n1,d1,.bool false,d2]) (.agg #[.bool n3,d5,.bool false,d6]) a (-b) h1 h2.neg) ?_
 rintro _ _ _ ⟨n4,d7,d8,rfl,hb4,rfl,rfl⟩
 simp only[List.nil_append,List.cons_append]
 rw[←Rat.sub_eq_add_neg] at hb4 ⊢
 repeat'(first|refine gB ?_|(refine gH ?_;intro g)|(refine gW ?_;intro v)|refine d135 ?_|fail)
 refine WC.ret ?_
 exact Fin.p [] [isQ (.agg #[.bool n4,d7,.bool false,d8]) (a - b)] (ResE.cV rfl rfl meA T.r31 rfl) meA (List.nil_sublist _) haA ⟨n4,_,_,rfl,hb4,rfl,rfl⟩
set_option maxHeartbeats 4000000 in
set_option maxRecDepth 8000 in
theorem rqmul_c (v1 v2:Value) (a b:Rat) (h1:Sm a) (h2:Sm b):FnB Tryz.prog 77 [v1,v2] [] [isQ v1 a,isQ v2 b] (IsQ (a*b)):=by
 refine fn_of [(0,v1),(1,v2)] 16 Tryz.func77 rfl Tryz.ntmps77 (by kernel_rfl) rfl suA fun h0=>?_
 refine WC.openQ (v:=v1) (q:=a) hmA fun n1 d1 d2 hv hb1=>?_
 subst hv
 refine WC.openQ (v:=v2) (q:=b) hmA fun n2 d3 d4 hv hb2=>?_
 subst hv
 refine WC.fact (isZ (.agg #[.bool n1,d1]) a.num) (hasQ_P hmA) ?_
 refine WC.fact (isZ (.agg #[.bool n2,d3]) b.num) (hasQ_P hmA) ?_
 repeat'(first|refine gB ?_|(refine gH ?_;intro g)|(refine gW ?_;intro v)|refine d77 ?_|fail)
 first|refine WL.callK (rmul_c (.agg #[.bool n1,d1]) (.agg #[.bool n2,d3]) a.num b.num (Sm.w h1.1) (Sm.w h2.1)) ?_|refine WD.callK (rmul_c (.agg #[.bool n1,d1]) (.agg #[.bool n2,d3]) a.num b.num (Sm.w h1.1) (Sm.w h2.1)) ?_|refine LO.callM (rmul_c (.agg #[.bool n1,d1]) (.agg #[.bool n2,d3]) a.num b.num (Sm.w h1.1) (Sm.w h2.1)) ?_
 rintro _ _ _ ⟨n5,d5,rfl,hb5,rfl,rfl⟩
 simp only[List.nil_append,List.cons_append]
 repeat'(first|refine gB ?_|(refine gH ?_;intro g)|(refine gW ?_;intro v)|refine d77 ?_|fail)
 first|refine WL.callK (rden_c (.agg #[.bool n1,d1,.bool false,d2]) a) ?_|refine WD.callK (rden_c (.agg #[.bool n1,d1,.bool false,d2]) a) ?_|refine LO.callM (rden_c (.agg #[.bool n1,d1,.bool false,d2]) a) ?_
 rintro _ _ _ ⟨n6,d6,rfl,hb6,rfl,rfl⟩
 simp only[List.nil_append,List.cons_append]
 repeat'(first|refine gB ?_|(refine gH ?_;intro g)|(refine gW ?_;intro v)|refine d77 ?_|fail)
 first|refine WL.callK (rden_c (.agg #[.bool n2,d3,.bool false,d4]) b) ?_|refine WD.callK (rden_c (.agg #[.bool n2,d3,.bool false,d4]) b) ?_|refine LO.callM (rden_c (.agg #[.bool n2,d3,.bool false,d4]) b) ?_
 rintro _ _ _ ⟨n7,d7,rfl,hb7,rfl,rfl⟩
 simp only[List.nil_append,List.cons_append]
 repeat'(first|refine gB ?_|(refine gH ?_;intro g)|(refine gW ?_;intro v)|refine d77 ?_|fail)
 first|refine WL.callK (rmul_c (.agg #[.bool n6,d6]) (.agg #[.bool n7,d7]) (a.den:Int) (b.den:Int) (Sm.w h1.2) (Sm.w h2.2)) ?_|refine WD.callK (rmul_c (.agg #[.bool n6,d6]) (.agg #[.bool n7,d7]) (a.den:Int) (b.den:Int) (Sm.w h1.2) (Sm.w h2.2)) ?_|refine LO.callM (rmul_c (.agg #[.bool n6,d6]) (.agg #[.bool n7,d7]) (a.den:Int) (b.den:Int) (Sm.w h1.2) (Sm.w h2.2)) ?_
 rintro _ _ _ ⟨n8,d8,rfl,hb8,rfl,rfl⟩
 simp only[List.nil_append,List.cons_append]
 repeat'(first|refine gB ?_|(refine gH ?_;intro g)|(refine gW ?_;intro v)|refine d77 ?_|fail)
 first|refine WL.callK (rmake_c (.agg #[.bool n5,d5]) (.agg #[.bool n8,d8]) (a.num*b.num) ((a.den:Int)*(b.den:Int)) (Lz.mul h1.1 h2.1) (Lz.mul h1.2 h2.2)) ?_|refine WD.callK (rmake_c (.agg #[.bool n5,d5]) (.agg #[.bool n8,d8]) (a.num*b.num) ((a.den:Int)*(b.den:Int)) (Lz.mul h1.1 h2.1) (Lz.mul h1.2 h2.2)) ?_|refine LO.callM (rmake_c (.agg #[.bool n5,d5]) (.agg #[.bool n8,d8]) (a.num*b.num) ((a.den:Int)*(b.den:Int)) (Lz.mul h1.1 h2.1) (Lz.mul h1.2 h2.2)) ?_
 rintro _ _ _ ⟨n11,d11,d12,rfl,hb11,rfl,rfl⟩
 simp only[List.nil_append,List.cons_append]
 rw[mul_di] at hb11 ⊢
 repeat'(first|refine gB ?_|(refine gH ?_;intro g)|(refine gW ?_;intro v)|refine d77 ?_|fail)
 refine WC.ret ?_
 exact Fin.p [] [isQ (.agg #[.bool n11,d11,.bool false,d12]) (a*b)] (ResE.cV rfl rfl meA T.r31 rfl) meA (List.nil_sublist _) haA ⟨n11,_,_,rfl,hb11,rfl,rfl⟩
set_option maxHeartbeats 4000000 in
set_option maxRecDepth 8000 in
theorem rqdiv_c (v1 v2:Value) (a b:Rat) (h1:Sm a) (h2:Sm b):FnB Tryz.prog 61 [v1,v2] [] [isQ v1 a,isQ v2 b] (IsQ (a / b)):=by
 refine fn_of [(0,v1),(1,v2)] 16 Tryz.func61 rfl Tryz.ntmps61 (by kernel_rfl) rfl suA fun h0=>?_
 refine WC.openQ (v:=v1) (q:=a) hmA fun n1 d1 d2 hv hb1=>?_
 subst hv
 refine WC.openQ (v:=v2) (q:=b) hmA fun n2 d3 d4 hv hb2=>?_
 subst hv
 refine WC.fact (isZ (.agg #[.bool n1,d1]) a.num) (hasQ_P hmA) ?_
 refine WC.fact (isZ (.agg #[.bool n2,d3]) b.num) (hasQ_P hmA) ?_
 repeat'(first|refine gB ?_|(refine gH ?_;intro g)|(refine gW ?_;intro v)|refine d61 ?_|fail)
 first|refine WL.callK (rden_c (.agg #[.bool n2,d3,.bool false,d4]) b) ?_|refine WD.callK (rden_c (.agg #[.bool n2,d3,.bool false,d4]) b) ?_|refine LO.callM (rden_c (.agg #[.bool n2,d3,.bool false,d4]) b) ?_
 rintro _ _ _ ⟨n6,d6,rfl,hb6,rfl,rfl⟩
 simp only[List.nil_append,List.cons_append]
 repeat'(first|refine gB ?_|(refine gH ?_;intro g)|(refine gW ?_;intro v)|refine d61 ?_|fail)
 first|refine WL.callK (rmul_c (.agg #[.bool n1,d1]) (.agg #[.bool n6,d6]) a.num (b.den:Int) (Sm.w h1.1) (Sm.w h2.2)) ?_|refine WD.callK (rmul_c (.agg #[.bool n1,d1]) (.agg #[.bool n6,d6]) a.num (b.den:Int) (Sm.w h1.1) (Sm.w h2.2)) ?_|refine LO.callM (rmul_c (.agg #[.bool n1,d1]) (.agg #[.bool n6,d6]) a.num (b.den:Int) (Sm.w h1.1) (Sm.w h2.2)) ?_
 rintro _ _ _ ⟨n5,d5,rfl,hb5,rfl,rfl⟩
 simp only[List.nil_append,List.cons_append]
 repeat'(first|refine gB ?_|(refine gH ?_;intro g)|(refine gW ?_;intro v)|refine d61 ?_|fail)
 first|refine WL.callK (rden_c (.agg #[.bool n1,d1,.bool false,d2]) a) ?_|refine WD.callK (rden_c (.agg #[.bool n1,d1,.bool false,d2]) a) ?_|refine LO.callM (rden_c (.agg #[.bool n1,d1,.bool false,d2]) a) ?_
 rintro _ _ _ ⟨n7,d7,rfl,hb7,rfl,rfl⟩
 simp only[List.nil_append,List.cons_append]
 repeat'(first|refine gB ?_|(refine gH ?_;intro g)|(refine gW ?_;intro v)|refine d61 ?_|fail)
 first|refine WL.callK (rmul_c (.agg #[.bool n7,d7]) (.agg #[.bool n2,d3]) (a.den:Int) b.num (Sm.w h1.2) (Sm.w h2.1)) ?_|refine WD.callK (rmul_c (.agg #[.bool n7,d7]) (.agg #[.bool n2,d3]) (a.den:Int) b.num (Sm.w h1.2) (Sm.w h2.1)) ?_|refine LO.callM (rmul_c (.agg #[.bool n7,d7]) (.agg #[.bool n2,d3]) (a.den:Int) b.num (Sm.w h1.2) (Sm.w h2.1)) ?_
 rintro _ _ _ ⟨n8,d8,rfl,hb8,rfl,rfl⟩
 simp only[List.nil_append,List.cons_append]
 repeat'(first|refine gB ?_|(refine gH ?_;intro g)|(refine gW ?_;intro v)|refine d61 ?_|fail)
 first|refine WL.callK (rmake_c (.agg #[.bool n5,d5]) (.agg #[.bool n8,d8]) (a.num*(b.den:Int)) ((a.den:Int)*b.num) (Lz.mul (y:=(b.den:Int)) h1.1 h2.2) (Lz.mul (x:=(a.den:Int)) h1.2 h2.1)) ?_|refine WD.callK (rmake_c (.agg #[.bool n5,d5]) (.agg #[.bool n8,d8]) (a.num*(b.den:Int)) ((a.den:Int)*b.num) (Lz.mul (y:=(b.den:Int)) h1.1 h2.2) (Lz.mul (x:=(a.den:Int)) h1.2 h2.1)) ?_|refine LO.callM (rmake_c (.agg #[.bool n5,d5]) (.agg #[.bool n8,d8]) (a.num*(b.den:Int)) ((a.den:Int)*b.num) (Lz.mul (y:=(b.den:Int)) h1.1 h2.2) (Lz.mul (x:=(a.den:Int)) h1.2 h2.1)) ?_
 rintro _ _ _ ⟨n11,d11,d12,rfl,hb11,rfl,rfl⟩
 simp only[List.nil_append,List.cons_append]
 rw[div_di] at hb11 ⊢
 repeat'(first|refine gB ?_|(refine gH ?_;intro g)|(refine gW ?_;intro v)|refine d61 ?_|fail)
 refine WC.ret ?_
 exact Fin.p [] [isQ (.agg #[.bool n11,d11,.bool false,d12]) (a / b)] (ResE.cV rfl rfl meA T.r31 rfl) meA (List.nil_sublist _) haA ⟨n11,_,_,rfl,hb11,rfl,rfl⟩
end Rp
end Go.Proofs.YtaongbhamadlkaaGreat
namespace Go.Proofs.YtaongbhamadlkaaGreat
open W Go.RowKit
attribute [local irreducible] WC WL WD YO LO LoopEnd W.Fin Scalar SliceT FieldAt Row ArrT AllocT KnS Has W.One SrcE IntT
namespace Z
set_option maxRecDepth 60000
theorem t0A {G:Prop} (h:G:=by first|(((first|exact T.f26_0|exact T.f26_1|exact T.f26_2|exact T.f29_0|exact T.f29_1|exact T.f31_0|exact T.f31_1|exact T.f33_0|exact T.f33_1|exact T.f33_2|exact T.f33_3|exact T.f60_0|exact T.f60_1|exact T.f77_0|exact T.f77_1|exact T.f77_2|exact T.f88_0|exact T.f88_1|exact T.f88_2|exact T.f88_3|exact T.f88_4|exact T.f88_5|exact T.f107_0|exact T.f107_1|exact T.f107_2|exact T.f123_0|exact T.f123_1|exact T.f134_0|exact T.f134_1));done)|fail):G:=h
theorem t1A {G:Prop} (h:G:=by first|(((first|exact T.al3|exact T.al4|exact T.al22|exact T.al23|exact T.al24|exact T.al26|exact T.al29|exact T.al31|exact T.al33|exact T.al34|exact T.al48|exact T.al60|exact T.al72|exact T.al77|exact T.al84|exact T.al86|exact T.al88|exact T.al103|exact T.al107|exact T.al123|exact T.al129|exact T.al131|exact T.al134|exact T.al162));done)|fail):G:=h
theorem t2A {G:Prop} (h:G:=by first|(((first|exact T.sc3|exact T.sc4|exact T.sc22|exact T.sc23|exact T.sc24|exact T.sc34|exact T.sc48|exact T.sc72|exact T.sc84|exact T.sc86|exact T.sc103|exact T.sc129|exact T.sc131|exact T.sc162));done)|fail):G:=h
theorem t3A {G:Prop} (h:G:=by first|(((first|exact T.z3|exact T.z4|exact T.z22|exact T.z23|exact T.z24|exact T.z34|exact T.z48|exact T.z72|exact T.z84|exact T.z86|exact T.z103|exact T.z129|exact T.z131|exact T.z162));done)|fail):G:=h
theorem t4A {G:Prop} (h:G:=by first|(((first|exact T.r26|exact T.r29|exact T.r31|exact T.r33|exact T.r60|exact T.r77|exact T.r88|exact T.r107|exact T.r123|exact T.r134));done)|fail):G:=h
theorem t5A {G:Prop} (h:G:=by first|(((first|exact T.e22|exact T.e23|exact T.e24|exact T.e48|exact T.e72|exact T.e86|exact T.e129|exact T.e131));done)|fail):G:=h
theorem t6A {G:Prop} (h:G:=by first|(((first|exact T.s22|exact T.s23|exact T.s24|exact T.s48|exact T.s72|exact T.s86|exact T.s129|exact T.s131));done)|fail):G:=h
theorem t7A {G:Prop} (h:G:=by first|(((first|exact T.u3|exact T.u34|exact T.u162));done)|fail):G:=h
theorem knA {G:Prop} (h:G:=by first|(((first|(focus(apply KnS.oN;exact meA;done))|(focus(apply KnS.oV;exact meA;done))|(focus(apply KnS.f;exact hmA;done))|(focus(apply KnS.oI;exact meA;done))|(focus(apply KnS.o1;exact meA;done))|(focus(apply KnS.zd;exact hmA;done))|(focus(apply KnS.q1;exact hmA;done))|(focus(apply KnS.q2;exact hmA;done))|(focus(apply KnS.ff;exact hmA;done))|(focus(apply KnS.oR;exact meA;done))|(focus(apply KnS.rf;exact hmA;omega;done))|(focus(apply KnS.pl;exact hmA;done))));done)|fail):G:=h
theorem hsA {G:Prop} (h:G:=by first|(((first|exact hmA|(focus(apply hasQ_P;exact hmA;done))|(focus(apply hasQ_Q;exact hmA;done))|exact hasZ_0|exact hasQ_0|(focus(apply hasZ_d;exact hmA;done))|(focus(apply hasQ_d1;exact hmA;done))|(focus(apply hasQ_d2;exact hmA;done))|(focus(apply W.Has.q;exact hmA;omega;done))|(focus(apply W.Has.qt;exact hmA;omega;omega;done))|(focus(apply W.Has.pbq;exact hmA;omega;done))));done)|fail):G:=h
theorem haA {G:Prop} (h:G:=by first|((repeat(first|exact HasAll.nil|(apply HasAll.cons;exact hsA)));done)|fail):G:=h
theorem ltA {G:Prop} (h:G:=by first|(((first|(focus(apply Or.inr;constructor;(repeat(first|exact List.Sublist.refl _|exact List.nil_sublist _|apply List.Sublist.cons_cons|apply List.Sublist.cons));(first|exact fun _ h=>h|(intro f hf;(repeat(first|exact hf|apply List.Mem.tail))));done))|(apply Or.inl;kernel_rfl)));done)|fail):G:=h
theorem onA {G:Prop} (h:G:=by first|(((first|exact ints_one _|(intro u hu;simp only[List.mem_cons,List.not_mem_nil,or_false] at hu;first|(subst hu;rfl)|(rcases hu with rfl|rfl|rfl <;> rfl))));done)|fail):G:=h
theorem leA {G:Prop} (h:G:=by first|(((simp only[List.length_map,List.length_append,List.length_cons,List.length_nil,List.length_replicate,List.length_take];omega));done)|fail):G:=h
theorem y_indexAddr {G:Prop} (h:G:=by first|(((first|(first|(apply YO.ix1;exact t6A;exact rfl;exact rfl;exact knA;omega)|(apply YO.ix;exact t6A;exact rfl;exact rfl;exact knA;omega)|(apply YO.ix1';exact t6A;exact rfl;exact rfl;exact knA;omega;omega)|(apply YO.ix';exact t6A;exact rfl;exact rfl;exact knA;omega;omega))|(apply YO.ix1;exact t6A;exact rfl;exact rfl;exact knA;(first|omega|(simp only[List.length_set,List.length_replicate];omega)))|(apply YO.ix;exact t6A;exact rfl;exact rfl;exact knA;(first|omega|(simp only[List.length_set,List.length_replicate];omega)))|(apply YO.ix1';exact t6A;exact rfl;exact rfl;exact knA;omega;(first|omega|(simp only[List.length_set,List.length_replicate];omega)))));done)|fail):G:=h
theorem y_build {G:Prop} (h:G:=by first|(((first|(apply YO.buildZ;exact rfl;exact rfl;exact knA)|exact YO.buildZ0|exact YO.buildQ0|(apply YO.buildQ1;exact rfl)|(apply YO.buildQ2;exact rfl;exact rfl)|(apply YO.buildTb;exact rfl;exact rfl;exact rfl)|exact YO.buildA0|(apply YO.buildA1;exact rfl;exact rfl;exact knA)|(apply YO.buildA2;exact rfl;exact rfl;exact rfl;exact knA;exact knA)|(apply YO.buildA3;exact rfl;exact rfl;exact rfl;exact rfl;exact knA;exact knA)));done)|fail):G:=h
theorem y_load {G:Prop} (h:G:=by first|(((first|(apply YO.ldON;exact t2A;exact rfl;exact meA;omega)|(apply YO.ldOV;exact t2A;exact rfl;exact meA;omega)|(apply YO.ldW;exact t4A;exact rfl;exact meA;exact rfl)|(apply YO.ld42;exact t4A;exact rfl;exact meA)|(apply YO.ld40;exact t4A;exact rfl;exact meA)|(apply YO.ld62;exact t4A;exact rfl;exact meA)|(apply YO.ld51;exact t4A;exact rfl;exact meA)|(apply YO.ldFf;exact t4A;exact rfl;exact hmA;omega)|(apply YO.ldOR;exact t4A;exact rfl;exact meA;omega)|(apply YO.ldRf;exact t4A;exact rfl;exact hmA;omega;omega)|(apply YO.ldPl;exact t4A;exact rfl;exact hmA;omega)|(apply YO.ld73;exact t4A;exact rfl;exact meA)|(apply YO.ldWI0;exact t4A;exact rfl;exact meA;(first|omega|(simp only[List.length_set,List.length_replicate];omega)))|(apply YO.ldWF0;exact t4A;exact rfl;exact hmA;(first|omega|(simp only[List.length_set,List.length_replicate];omega)))|(apply YO.ldCI;exact t2A;exact rfl;exact meA;(first|omega|(simp only[List.length_set,List.length_replicate];omega)))|(apply YO.ldFI;exact t2A;exact rfl;exact hmA;(first|omega|(simp only[List.length_set,List.length_replicate];omega)))|(apply YO.ldF;exact t2A;exact rfl;exact hmA;exact rfl)|(apply YO.ldS;exact t2A;exact rfl;exact hsA;omega)|(apply YO.ldB;exact t2A;exact rfl;exact meA;exact rfl)|(apply YO.ldOI;exact t2A;exact rfl;exact meA;(first|omega|(simp only[List.length_set,List.length_replicate];omega)))));done)|fail):G:=h
theorem y_eql {G:Prop} (h:G:=by first|(((first|(first|(first|(apply YO.eql_t;exact rfl;exact rfl;omega)|(apply YO.eql_f;exact rfl;exact rfl;omega))|(apply YO.eqNil_t;exact t6A;exact rfl;exact knA;assumption)|(apply YO.eqNil_f;exact t6A;exact rfl;exact knA;assumption))|(apply YO.beq_t;exact bool_t;exact rfl;exact rfl;(first|rfl|assumption|decide))|(apply YO.beq_f;exact bool_t;exact rfl;exact rfl;(first|rfl|assumption|decide))|(apply YO.eqNz_t;exact t6A;exact rfl;exact knA;assumption)|(apply YO.eqNz_f;exact t6A;exact rfl;exact knA;assumption)));done)|fail):G:=h
theorem y_slice {G:Prop} (h:G:=by first|(((first|(first|(apply YO.slice;exact t6A;exact rfl;exact knA;exact Or.inl ⟨rfl,rfl⟩;exact Or.inr ⟨_,rfl,rfl⟩;omega;omega)|(apply YO.slice;exact t6A;exact rfl;exact knA;exact Or.inr ⟨_,rfl,rfl⟩;exact Or.inl ⟨rfl,rfl⟩;omega;omega))|(apply YO.slice3;exact t6A;exact rfl;exact knA;exact rfl;exact rfl;omega;omega)|(apply YO.slice;exact t6A;exact rfl;exact knA;exact Or.inr ⟨_,rfl,rfl⟩;exact Or.inr ⟨_,rfl,rfl⟩;omega;omega)));done)|fail):G:=h
theorem y_len {G:Prop} (h:G:=by first|(((apply YO.len;exact t6A;exact rfl;exact knA));done)|fail):G:=h
theorem y_fieldAddr {G:Prop} (h:G:=by first|(((first|(apply YO.fieldE;exact t0A;exact rfl)|(apply YO.fieldN;exact t0A;exact rfl;((try simp only[Nat.zero_add,Nat.mul_one,Nat.reduceAdd,Nat.reduceMul]);exact rfl))));done)|fail):G:=h
theorem y_conv {G:Prop} (h:G:=by first|(((first|(first|(apply YO.convU;exact t7A;exact t7A;exact rfl;omega;omega)|(apply YO.convI;exact t7A;exact t7A;exact rfl;omega;omega))|(apply YO.convN;exact t7A;exact t7A;exact rfl;omega;omega)));done)|fail):G:=h
theorem y_neq {G:Prop} (h:G:=by first|(((first|(first|(apply YO.neq_t;exact rfl;exact rfl;omega)|(apply YO.neq_f;exact rfl;exact rfl;omega))|(apply YO.bne_t;exact bool_t;exact rfl;exact rfl;(first|rfl|assumption|decide))|(apply YO.bne_f;exact bool_t;exact rfl;exact rfl;(first|rfl|assumption|decide))));done)|fail):G:=h
theorem y_makeFunc {G:Prop} (h:G:=by first|(((apply YO.makeFunc;(repeat(first|exact Evs.nil|(apply Evs.cons;exact rfl)));(repeat(first|exact Evs.nil|(apply Evs.cons;exact rfl)))));done)|fail):G:=h
theorem y_quo {G:Prop} (h:G:=by first|(((first|(apply YO.quo;exact rfl;exact rfl;omega;omega;omega)|(apply YO.uquo;exact rfl;exact rfl;omega;omega;omega)));done)|fail):G:=h
theorem y_and {G:Prop} (h:G:=by first|(((first|(apply YO.and1;exact rfl;exact rfl;omega;omega)|(apply YO.and;exact rfl;exact rfl;omega;omega;omega;omega)));done)|fail):G:=h
theorem y_mul {G:Prop} (h:G:=by first|(((first|(apply YO.mul;exact rfl;exact rfl;omega;omega)|(apply YO.umul;exact rfl;exact rfl;omega;omega)));done)|fail):G:=h
theorem y_rem {G:Prop} (h:G:=by first|(((first|(apply YO.rem;exact rfl;exact rfl;omega;omega)|(apply YO.urem;exact rfl;exact rfl;omega;omega)));done)|fail):G:=h
theorem y_add {G:Prop} (h:G:=by first|(((first|(apply YO.inc;exact rfl;exact rfl;omega)|(apply YO.add;exact rfl;exact rfl;omega;omega)));done)|fail):G:=h
theorem y_lss {G:Prop} (h:G:=by first|(((first|(apply YO.lss_t;exact rfl;exact rfl;omega)|(apply YO.lss_f;exact rfl;exact rfl;omega)));done)|fail):G:=h
theorem y_gtr {G:Prop} (h:G:=by first|(((first|(apply YO.gtr_t;exact rfl;exact rfl;omega)|(apply YO.gtr_f;exact rfl;exact rfl;omega)));done)|fail):G:=h
theorem y_geq {G:Prop} (h:G:=by first|(((first|(apply YO.geq_t;exact rfl;exact rfl;omega)|(apply YO.geq_f;exact rfl;exact rfl;omega)));done)|fail):G:=h
theorem y_leq {G:Prop} (h:G:=by first|(((first|(apply YO.leq_t;exact rfl;exact rfl;omega)|(apply YO.leq_f;exact rfl;exact rfl;omega)));done)|fail):G:=h
theorem y_shl {G:Prop} (h:G:=by first|(((apply YO.shl';exact rfl;exact rfl;omega;omega;(first|omega|decide);(first|omega|decide)));done)|fail):G:=h
theorem y_uneg {G:Prop} (h:G:=by first|(((first|(apply YO.neg;exact rfl;omega;omega)|(apply YO.uneg;exact rfl;omega;omega)));done)|fail):G:=h
theorem y_pick {G:Prop} (h:G:=by first|(((first|(apply YO.pick_t;exact rfl;exact rfl)|(apply YO.pick_f;exact rfl;exact rfl)));done)|fail):G:=h
theorem y_unot {G:Prop} (h:G:=by first|(((first|(apply YO.not_t;exact rfl)|(apply YO.not_f;exact rfl)));done)|fail):G:=h
theorem y_or {G:Prop} (h:G:=by first|(((apply YO.or;exact rfl;exact rfl;omega;omega;omega;omega));done)|fail):G:=h
theorem go {G G':Prop} (h:G') (s:Bx G'→G:=by
 intro h
 (first
  |apply WL.nil
  |(apply WL.skg;exact rfl;exact rfl)
  |(apply WL.skg0;exact rfl)
  |(apply WL.k_move;(apply YO.move;exact rfl);exact rfl;exact rfl)
  |(apply WL.k_assign;(apply YO.assign;exact rfl);exact rfl;exact rfl)
  |(apply WL.k_lss;exact y_lss;exact rfl;exact rfl)
  |(apply WL.k_add;exact y_add;exact rfl;exact rfl)
  |(apply WL.k_len;exact y_len;exact rfl;exact rfl)
  |(apply WL.k_indexAddr;exact y_indexAddr;exact rfl;exact rfl)
  |(apply WL.k_load;exact y_load;exact rfl;exact rfl)
  |(apply WL.k_pick;exact y_pick;exact rfl;exact rfl)
  |(apply WL.k_fieldAddr;exact y_fieldAddr;exact rfl;exact rfl)
  |(apply WL.k_eql;exact y_eql;exact rfl;exact rfl)
  |(apply WL.k_neq;exact y_neq;exact rfl;exact rfl)
  |(apply WL.k_nil;(apply YO.nil;exact rfl);exact rfl;exact rfl)
  |(apply WL.k_extract;(apply YO.extract;exact rfl;exact rfl);exact rfl;exact rfl)
  |(apply WL.k_gtr;exact y_gtr;exact rfl;exact rfl)
  |(apply WL.k_geq;exact y_geq;exact rfl;exact rfl)
  |(apply WL.k_leq;exact y_leq;exact rfl;exact rfl)
  |(apply WL.k_sub;(apply YO.sub;exact rfl;exact rfl;omega;omega);exact rfl;exact rfl)
  |(apply WL.k_mul;exact y_mul;exact rfl;exact rfl)
  |(apply WL.k_rem;exact y_rem;exact rfl;exact rfl)
  |(apply WL.k_quo;exact y_quo;exact rfl;exact rfl)
  |(apply WL.k_unot;exact y_unot;exact rfl;exact rfl)
  |(apply WL.k_uneg;exact y_uneg;exact rfl;exact rfl)
  |(apply WL.k_max;(apply YO.max;exact rfl;exact rfl);exact rfl;exact rfl)
  |(apply WL.k_min;(apply YO.min;exact rfl;exact rfl);exact rfl;exact rfl)
  |(apply WL.k_makeFunc;exact y_makeFunc;exact rfl;exact rfl)
  |(apply WL.k_conv;exact y_conv;exact rfl;exact rfl)
  |(apply WL.k_shl;exact y_shl;exact rfl;exact rfl)
  |(apply WL.k_shr;(apply YO.shr';exact rfl;exact rfl;omega;omega);exact rfl;exact rfl)
  |(apply WL.k_and;exact y_and;exact rfl;exact rfl)
  |(apply WL.k_or;exact y_or;exact rfl;exact rfl)
  |(apply WL.k_andNot;(apply YO.anot;exact rfl;exact rfl);exact rfl;exact rfl)
  |(apply WL.k_slice;exact y_slice;exact rfl;exact rfl)
  |(apply WL.k_build;exact y_build;exact rfl;exact rfl)
  |apply WC.seq
  |apply WC.region
  |apply WC.block
  |(apply WC.cond_t;exact rfl)
  |(apply WC.cond_f;exact rfl)
  |apply WC.exit
  |apply WC.skip
  |apply WC.label
  |(apply WL.kl_store;rotate_left;exact rfl;(first|(apply LO.storeOI;exact rfl;exact rfl;exact t3A;exact seA;(first|omega|(simp only[List.length_set];omega)))|(apply LO.storeQ;exact rfl;exact rfl;exact t4A;exact hmA;exact seA;omega)|(apply LO.storeI;exact rfl;exact rfl;exact t3A;exact seA;(first|omega|(simp only[List.length_set,List.length_replicate];omega)))|(apply LO.storeWI;exact rfl;exact rfl;exact seA;exact t4A;(first|omega|(simp only[List.length_set,List.length_replicate];omega));(first|(simp only[List.length_map,List.length_set,List.length_replicate,ints];omega)|rfl))|(apply LO.store1;exact rfl;exact rfl;exact t3A;(first|exact One.lit rfl rfl|(apply One.sl;exact knA));exact seA;(first|(simp only[List.length_cons,List.length_nil];omega)|(simp;omega));(first|(simp only[List.set_cons_succ,List.set_cons_zero];exact rfl)|exact rfl))|(apply LO.storeO1;exact rfl;exact rfl;exact t3A;(first|exact One.lit rfl rfl|(apply One.sl;exact knA));exact seA;(first|(simp only[List.length_cons,List.length_nil];omega)|(simp;omega));(first|(simp only[List.set_cons_succ,List.set_cons_zero];exact rfl)|exact rfl))|(apply LO.storeL;exact rfl;exact rfl;exact seA;exact t4A;exact rfl;exact rfl;(repeat(first|exact OneL.nil|(apply OneL.cons;(first|exact One.lit rfl rfl|(apply One.sl;exact knA)))))))))
 repeat(first
  |apply WL.nil
  |(apply WL.skg;exact rfl;exact rfl)
  |(apply WL.skg0;exact rfl)
  |(apply WL.k_move;(apply YO.move;exact rfl);exact rfl;exact rfl)
  |(apply WL.k_assign;(apply YO.assign;exact rfl);exact rfl;exact rfl)
  |(apply WL.k_lss;exact y_lss;exact rfl;exact rfl)
  |(apply WL.k_add;exact y_add;exact rfl;exact rfl)
  |(apply WL.k_len;exact y_len;exact rfl;exact rfl)
  |(apply WL.k_indexAddr;exact y_indexAddr;exact rfl;exact rfl)
  |(apply WL.k_load;exact y_load;exact rfl;exact rfl)
  |(apply WL.k_pick;exact y_pick;exact rfl;exact rfl)
  |(apply WL.k_fieldAddr;exact y_fieldAddr;exact rfl;exact rfl)
  |(apply WL.k_eql;exact y_eql;exact rfl;exact rfl)
  |(apply WL.k_neq;exact y_neq;exact rfl;exact rfl)
  |(apply WL.k_nil;(apply YO.nil;exact rfl);exact rfl;exact rfl)
  |(apply WL.k_extract;(apply YO.extract;exact rfl;exact rfl);exact rfl;exact rfl)
  |(apply WL.k_gtr;exact y_gtr;exact rfl;exact rfl)
  |(apply WL.k_geq;exact y_geq;exact rfl;exact rfl)
  |(apply WL.k_leq;exact y_leq;exact rfl;exact rfl)
  |(apply WL.k_sub;(apply YO.sub;exact rfl;exact rfl;omega;omega);exact rfl;exact rfl)
  |(apply WL.k_mul;exact y_mul;exact rfl;exact rfl)
  |(apply WL.k_rem;exact y_rem;exact rfl;exact rfl)
  |(apply WL.k_quo;exact y_quo;exact rfl;exact rfl)
  |(apply WL.k_unot;exact y_unot;exact rfl;exact rfl)
  |(apply WL.k_uneg;exact y_uneg;exact rfl;exact rfl)
  |(apply WL.k_max;(apply YO.max;exact rfl;exact rfl);exact rfl;exact rfl)
  |(apply WL.k_min;(apply YO.min;exact rfl;exact rfl);exact rfl;exact rfl)
  |(apply WL.k_makeFunc;exact y_makeFunc;exact rfl;exact rfl)
  |(apply WL.k_conv;exact y_conv;exact rfl;exact rfl)
  |(apply WL.k_shl;exact y_shl;exact rfl;exact rfl)
  |(apply WL.k_shr;(apply YO.shr';exact rfl;exact rfl;omega;omega);exact rfl;exact rfl)
  |(apply WL.k_and;exact y_and;exact rfl;exact rfl)
  |(apply WL.k_or;exact y_or;exact rfl;exact rfl)
  |(apply WL.k_andNot;(apply YO.anot;exact rfl;exact rfl);exact rfl;exact rfl)
  |(apply WL.k_slice;exact y_slice;exact rfl;exact rfl)
  |(apply WL.k_build;exact y_build;exact rfl;exact rfl)
  |apply WC.seq
  |apply WC.region
  |apply WC.block
  |(apply WC.cond_t;exact rfl)
  |(apply WC.cond_f;exact rfl)
  |apply WC.exit
  |apply WC.skip
  |apply WC.label
  |(apply WL.kl_store;rotate_left;exact rfl;(first|(apply LO.storeOI;exact rfl;exact rfl;exact t3A;exact seA;(first|omega|(simp only[List.length_set];omega)))|(apply LO.storeQ;exact rfl;exact rfl;exact t4A;exact hmA;exact seA;omega)|(apply LO.storeI;exact rfl;exact rfl;exact t3A;exact seA;(first|omega|(simp only[List.length_set,List.length_replicate];omega)))|(apply LO.storeWI;exact rfl;exact rfl;exact seA;exact t4A;(first|omega|(simp only[List.length_set,List.length_replicate];omega));(first|(simp only[List.length_map,List.length_set,List.length_replicate,ints];omega)|rfl))|(apply LO.store1;exact rfl;exact rfl;exact t3A;(first|exact One.lit rfl rfl|(apply One.sl;exact knA));exact seA;(first|(simp only[List.length_cons,List.length_nil];omega)|(simp;omega));(first|(simp only[List.set_cons_succ,List.set_cons_zero];exact rfl)|exact rfl))|(apply LO.storeO1;exact rfl;exact rfl;exact t3A;(first|exact One.lit rfl rfl|(apply One.sl;exact knA));exact seA;(first|(simp only[List.length_cons,List.length_nil];omega)|(simp;omega));(first|(simp only[List.set_cons_succ,List.set_cons_zero];exact rfl)|exact rfl))|(apply LO.storeL;exact rfl;exact rfl;exact seA;exact t4A;exact rfl;exact rfl;(repeat(first|exact OneL.nil|(apply OneL.cons;(first|exact One.lit rfl rfl|(apply One.sl;exact knA)))))))))
 exact Bx.h h):G:=s ⟨h⟩
theorem goD {G G':Prop} (h:G') (s:Bx G'→G:=by
 intro h
 (first
  |apply WD.nil
  |(apply WD.skg;exact rfl;exact rfl;exact rfl)
  |(apply WD.skgl;exact rfl;exact rfl;exact rfl)
  |(apply WD.skgl0;exact rfl;exact rfl)
  |(apply WD.k_move;exact rfl;(apply YO.move;exact rfl);exact rfl;exact rfl)
  |(apply WD.k_assign;exact rfl;(apply YO.assign;exact rfl);exact rfl;exact rfl)
  |(apply WD.k_lss;exact rfl;exact y_lss;exact rfl;exact rfl)
  |(apply WD.k_add;exact rfl;exact y_add;exact rfl;exact rfl)
  |(apply WD.k_len;exact rfl;exact y_len;exact rfl;exact rfl)
  |(apply WD.k_indexAddr;exact rfl;exact y_indexAddr;exact rfl;exact rfl)
  |(apply WD.k_load;exact rfl;exact y_load;exact rfl;exact rfl)
  |(apply WD.k_pick;exact rfl;exact y_pick;exact rfl;exact rfl)
  |(apply WD.k_fieldAddr;exact rfl;exact y_fieldAddr;exact rfl;exact rfl)
  |(apply WD.k_eql;exact rfl;exact y_eql;exact rfl;exact rfl)
  |(apply WD.k_neq;exact rfl;exact y_neq;exact rfl;exact rfl)
  |(apply WD.k_nil;exact rfl;(apply YO.nil;exact rfl);exact rfl;exact rfl)
  |(apply WD.k_extract;exact rfl;(apply YO.extract;exact rfl;exact rfl);exact rfl;exact rfl)
  |(apply WD.k_gtr;exact rfl;exact y_gtr;exact rfl;exact rfl)
  |(apply WD.k_geq;exact rfl;exact y_geq;exact rfl;exact rfl)
  |(apply WD.k_leq;exact rfl;exact y_leq;exact rfl;exact rfl)
  |(apply WD.k_sub;exact rfl;(apply YO.sub;exact rfl;exact rfl;omega;omega);exact rfl;exact rfl)
  |(apply WD.k_mul;exact rfl;exact y_mul;exact rfl;exact rfl)
  |(apply WD.k_rem;exact rfl;exact y_rem;exact rfl;exact rfl)
  |(apply WD.k_quo;exact rfl;exact y_quo;exact rfl;exact rfl)
  |(apply WD.k_unot;exact rfl;exact y_unot;exact rfl;exact rfl)
  |(apply WD.k_uneg;exact rfl;exact y_uneg;exact rfl;exact rfl)
  |(apply WD.k_max;exact rfl;(apply YO.max;exact rfl;exact rfl);exact rfl;exact rfl)
  |(apply WD.k_min;exact rfl;(apply YO.min;exact rfl;exact rfl);exact rfl;exact rfl)
  |(apply WD.k_makeFunc;exact rfl;exact y_makeFunc;exact rfl;exact rfl)
  |(apply WD.k_conv;exact rfl;exact y_conv;exact rfl;exact rfl)
  |(apply WD.k_shl;exact rfl;exact y_shl;exact rfl;exact rfl)
  |(apply WD.k_shr;exact rfl;(apply YO.shr';exact rfl;exact rfl;omega;omega);exact rfl;exact rfl)
  |(apply WD.k_and;exact rfl;exact y_and;exact rfl;exact rfl)
  |(apply WD.k_or;exact rfl;exact y_or;exact rfl;exact rfl)
  |(apply WD.k_andNot;exact rfl;(apply YO.anot;exact rfl;exact rfl);exact rfl;exact rfl)
  |(apply WD.k_slice;exact rfl;exact y_slice;exact rfl;exact rfl)
  |(apply WD.k_build;exact rfl;exact y_build;exact rfl;exact rfl)
  |(apply WD.kl_store;exact rfl;rotate_left;exact rfl;(first|(apply LO.storeOI;exact rfl;exact rfl;exact t3A;exact seA;(first|omega|(simp only[List.length_set];omega)))|(apply LO.storeQ;exact rfl;exact rfl;exact t4A;exact hmA;exact seA;omega)|(apply LO.storeI;exact rfl;exact rfl;exact t3A;exact seA;(first|omega|(simp only[List.length_set,List.length_replicate];omega)))|(apply LO.storeWI;exact rfl;exact rfl;exact seA;exact t4A;(first|omega|(simp only[List.length_set,List.length_replicate];omega));(first|(simp only[List.length_map,List.length_set,List.length_replicate,ints];omega)|rfl))|(apply LO.store1;exact rfl;exact rfl;exact t3A;(first|exact One.lit rfl rfl|(apply One.sl;exact knA));exact seA;(first|(simp only[List.length_cons,List.length_nil];omega)|(simp;omega));(first|(simp only[List.set_cons_succ,List.set_cons_zero];exact rfl)|exact rfl))|(apply LO.storeO1;exact rfl;exact rfl;exact t3A;(first|exact One.lit rfl rfl|(apply One.sl;exact knA));exact seA;(first|(simp only[List.length_cons,List.length_nil];omega)|(simp;omega));(first|(simp only[List.set_cons_succ,List.set_cons_zero];exact rfl)|exact rfl))|(apply LO.storeL;exact rfl;exact rfl;exact seA;exact t4A;exact rfl;exact rfl;(repeat(first|exact OneL.nil|(apply OneL.cons;(first|exact One.lit rfl rfl|(apply One.sl;exact knA)))))));constructor;exact ltA))
 repeat(first
  |apply WD.nil
  |(apply WD.skg;exact rfl;exact rfl;exact rfl)
  |(apply WD.skgl;exact rfl;exact rfl;exact rfl)
  |(apply WD.skgl0;exact rfl;exact rfl)
  |(apply WD.k_move;exact rfl;(apply YO.move;exact rfl);exact rfl;exact rfl)
  |(apply WD.k_assign;exact rfl;(apply YO.assign;exact rfl);exact rfl;exact rfl)
  |(apply WD.k_lss;exact rfl;exact y_lss;exact rfl;exact rfl)
  |(apply WD.k_add;exact rfl;exact y_add;exact rfl;exact rfl)
  |(apply WD.k_len;exact rfl;exact y_len;exact rfl;exact rfl)
  |(apply WD.k_indexAddr;exact rfl;exact y_indexAddr;exact rfl;exact rfl)
  |(apply WD.k_load;exact rfl;exact y_load;exact rfl;exact rfl)
  |(apply WD.k_pick;exact rfl;exact y_pick;exact rfl;exact rfl)
  |(apply WD.k_fieldAddr;exact rfl;exact y_fieldAddr;exact rfl;exact rfl)
  |(apply WD.k_eql;exact rfl;exact y_eql;exact rfl;exact rfl)
  |(apply WD.k_neq;exact rfl;exact y_neq;exact rfl;exact rfl)
  |(apply WD.k_nil;exact rfl;(apply YO.nil;exact rfl);exact rfl;exact rfl)
  |(apply WD.k_extract;exact rfl;(apply YO.extract;exact rfl;exact rfl);exact rfl;exact rfl)
  |(apply WD.k_gtr;exact rfl;exact y_gtr;exact rfl;exact rfl)
  |(apply WD.k_geq;exact rfl;exact y_geq;exact rfl;exact rfl)
  |(apply WD.k_leq;exact rfl;exact y_leq;exact rfl;exact rfl)
  |(apply WD.k_sub;exact rfl;(apply YO.sub;exact rfl;exact rfl;omega;omega);exact rfl;exact rfl)
  |(apply WD.k_mul;exact rfl;exact y_mul;exact rfl;exact rfl)
  |(apply WD.k_rem;exact rfl;exact y_rem;exact rfl;exact rfl)
  |(apply WD.k_quo;exact rfl;exact y_quo;exact rfl;exact rfl)
  |(apply WD.k_unot;exact rfl;exact y_unot;exact rfl;exact rfl)
  |(apply WD.k_uneg;exact rfl;exact y_uneg;exact rfl;exact rfl)
  |(apply WD.k_max;exact rfl;(apply YO.max;exact rfl;exact rfl);exact rfl;exact rfl)
  |(apply WD.k_min;exact rfl;(apply YO.min;exact rfl;exact rfl);exact rfl;exact rfl)
  |(apply WD.k_makeFunc;exact rfl;exact y_makeFunc;exact rfl;exact rfl)
  |(apply WD.k_conv;exact rfl;exact y_conv;exact rfl;exact rfl)
  |(apply WD.k_shl;exact rfl;exact y_shl;exact rfl;exact rfl)
  |(apply WD.k_shr;exact rfl;(apply YO.shr';exact rfl;exact rfl;omega;omega);exact rfl;exact rfl)
  |(apply WD.k_and;exact rfl;exact y_and;exact rfl;exact rfl)
  |(apply WD.k_or;exact rfl;exact y_or;exact rfl;exact rfl)
  |(apply WD.k_andNot;exact rfl;(apply YO.anot;exact rfl;exact rfl);exact rfl;exact rfl)
  |(apply WD.k_slice;exact rfl;exact y_slice;exact rfl;exact rfl)
  |(apply WD.k_build;exact rfl;exact y_build;exact rfl;exact rfl)
  |(apply WD.kl_store;exact rfl;rotate_left;exact rfl;(first|(apply LO.storeOI;exact rfl;exact rfl;exact t3A;exact seA;(first|omega|(simp only[List.length_set];omega)))|(apply LO.storeQ;exact rfl;exact rfl;exact t4A;exact hmA;exact seA;omega)|(apply LO.storeI;exact rfl;exact rfl;exact t3A;exact seA;(first|omega|(simp only[List.length_set,List.length_replicate];omega)))|(apply LO.storeWI;exact rfl;exact rfl;exact seA;exact t4A;(first|omega|(simp only[List.length_set,List.length_replicate];omega));(first|(simp only[List.length_map,List.length_set,List.length_replicate,ints];omega)|rfl))|(apply LO.store1;exact rfl;exact rfl;exact t3A;(first|exact One.lit rfl rfl|(apply One.sl;exact knA));exact seA;(first|(simp only[List.length_cons,List.length_nil];omega)|(simp;omega));(first|(simp only[List.set_cons_succ,List.set_cons_zero];exact rfl)|exact rfl))|(apply LO.storeO1;exact rfl;exact rfl;exact t3A;(first|exact One.lit rfl rfl|(apply One.sl;exact knA));exact seA;(first|(simp only[List.length_cons,List.length_nil];omega)|(simp;omega));(first|(simp only[List.set_cons_succ,List.set_cons_zero];exact rfl)|exact rfl))|(apply LO.storeL;exact rfl;exact rfl;exact seA;exact t4A;exact rfl;exact rfl;(repeat(first|exact OneL.nil|(apply OneL.cons;(first|exact One.lit rfl rfl|(apply One.sl;exact knA)))))));constructor;exact ltA))
 exact Bx.h h):G:=s ⟨h⟩
theorem goG {G G':Prop} (h:G') (s:Bx G'→G:=by
 intro h
 (first
  |(apply WL.kl_alloc;rotate_left;exact rfl;exact rfl;apply LO.alloc';(first|exact t1A))
  |(apply WL.kl_box;rotate_left;exact rfl;exact rfl;(first|(apply LO.boxA;exact rfl)|(apply LO.box1;exact rfl;(first|exact One.lit rfl rfl|(apply One.sl;exact knA))))))
 exact Bx.h h):G:=s ⟨h⟩
theorem goV {G G':Prop} (h:G') (s:Bx G'→G:=by
 intro h
 (first
  |(apply WL.kl_ms;rotate_left;exact rfl;exact rfl;(apply LO.makeI;exact rfl;exact rfl;(repeat(first|(with_reducible apply NatI.add)|(with_reducible exact NatI.one)|exact NatI.cast _));omega))
  |(apply WL.kl_ms;rotate_left;exact rfl;exact rfl;(apply LO.makeR;exact rfl;exact rfl;(repeat(first|(with_reducible apply NatI.add)|(with_reducible exact NatI.one)|exact NatI.cast _));omega))
  |(apply WL.kl_bs;rotate_left;exact rfl;exact rfl;(apply LO.bsR0))
  |(apply WL.kl_bs;rotate_left;exact rfl;exact rfl;(apply LO.bsR1;exact rfl))
  |(apply WL.kl_bs;rotate_left;exact rfl;exact rfl;(apply LO.bsV1;exact rfl;exact knA))
  |(apply WL.kl_app;rotate_left;exact rfl;exact rfl;(apply LO.appR1;exact rfl;exact rfl;exact meA;exact hmA;(intro _;exact seA);omega))
  |(apply WL.kl_app;rotate_left;exact rfl;exact rfl;(apply LO.appFf;exact rfl;exact rfl;exact hmA;(intro _;exact seA);omega))
  |(apply WL.kl_app;rotate_left;exact rfl;exact rfl;(apply LO.appVV;exact rfl;exact rfl;exact meA;(apply One.sl;exact knA);(intro _;exact seA);omega))
  |(apply WL.kl_app;rotate_left;exact rfl;exact rfl;(apply LO.appNN;exact rfl;exact rfl;exact meA;(intro _;exact seA);omega))
  |(apply WL.kl_bs;rotate_left;exact rfl;exact rfl;apply LO.bs1;exact t6A;(repeat(first|exact EvP.nil|(apply EvP.cons;exact rfl)));(intro _;kernel_rfl);exact rfl;omega)
  |(apply WL.kl_app;rotate_left;exact rfl;exact rfl;apply LO.app;exact t5A;exact rfl;exact rfl;(first|(focus(apply SrcE.ints;exact hmA;done))|(focus(apply SrcE.own1;exact meA;done))|(focus(apply SrcE.one;exact meA;exact rfl;decide;done)));(intro v;exact seA);exact onA;exact leA;exact leA))
 exact Bx.h h):G:=s ⟨h⟩
theorem goDG {G G':Prop} (h:G') (s:Bx G'→G:=by
 intro h
 (first
  |(apply WD.kl_alloc;exact rfl;rotate_left;exact rfl;exact rfl;apply LO.alloc';(first|exact t1A);apply allAnd;(intro _;exact ltA))
  |(apply WD.kl_box;exact rfl;rotate_left;exact rfl;exact rfl;(first|(apply LO.boxA;exact rfl)|(apply LO.box1;exact rfl;(first|exact One.lit rfl rfl|(apply One.sl;exact knA))));apply allAnd;(intro _;exact ltA)))
 exact Bx.h h):G:=s ⟨h⟩
theorem goDV {G G':Prop} (h:G') (s:Bx G'→G:=by
 intro h
 (first
  |(apply WD.kl_ms;exact rfl;rotate_left;exact rfl;exact rfl;(apply LO.makeI;exact rfl;exact rfl;(repeat(first|(with_reducible apply NatI.add)|(with_reducible exact NatI.one)|exact NatI.cast _));omega);apply allAnd;(intro _;exact ltA))
  |(apply WD.kl_ms;exact rfl;rotate_left;exact rfl;exact rfl;(apply LO.makeR;exact rfl;exact rfl;(repeat(first|(with_reducible apply NatI.add)|(with_reducible exact NatI.one)|exact NatI.cast _));omega);apply allAnd;(intro _;exact ltA))
  |(apply WD.kl_bs;exact rfl;rotate_left;exact rfl;exact rfl;(apply LO.bsR0);apply allAnd;(intro _;exact ltA))
  |(apply WD.kl_bs;exact rfl;rotate_left;exact rfl;exact rfl;(apply LO.bsR1;exact rfl);apply allAnd;(intro _;exact ltA))
  |(apply WD.kl_bs;exact rfl;rotate_left;exact rfl;exact rfl;(apply LO.bsV1;exact rfl;exact knA);apply allAnd;(intro _;exact ltA))
  |(apply WD.kl_app;exact rfl;rotate_left;exact rfl;exact rfl;(apply LO.appR1;exact rfl;exact rfl;exact meA;exact hmA;(intro _;exact seA);omega);apply allAnd;(intro _;exact ltA))
  |(apply WD.kl_app;exact rfl;rotate_left;exact rfl;exact rfl;(apply LO.appFf;exact rfl;exact rfl;exact hmA;(intro _;exact seA);omega);apply allAnd;(intro _;exact ltA))
  |(apply WD.kl_app;exact rfl;rotate_left;exact rfl;exact rfl;(apply LO.appVV;exact rfl;exact rfl;exact meA;(apply One.sl;exact knA);(intro _;exact seA);omega);apply allAnd;(intro _;exact ltA))
  |(apply WD.kl_app;exact rfl;rotate_left;exact rfl;exact rfl;(apply LO.appNN;exact rfl;exact rfl;exact meA;(intro _;exact seA);omega);apply allAnd;(intro _;exact ltA))
  |(apply WD.kl_bs;exact rfl;rotate_left;exact rfl;exact rfl;apply LO.bs1;exact t6A;(repeat(first|exact EvP.nil|(apply EvP.cons;exact rfl)));(intro _;kernel_rfl);exact rfl;omega;apply allAnd;(intro _;exact ltA))
  |(apply WD.kl_app;exact rfl;rotate_left;exact rfl;exact rfl;apply LO.app;exact t5A;exact rfl;exact rfl;(first|(focus(apply SrcE.ints;exact hmA;done))|(focus(apply SrcE.own1;exact meA;done))|(focus(apply SrcE.one;exact meA;exact rfl;decide;done)));(intro v;exact seA);exact onA;exact leA;exact leA;apply allAnd;(intro _;exact ltA)))
 exact Bx.h h):G:=s ⟨h⟩
theorem goLG {G G':Prop} (h:G') (s:Bx G'→G:=by
 intro h
 (first
  |(apply LO.alloc';(first|exact t1A);apply allAnd;(intro _;exact ltA))
  |((first|(apply LO.boxA;exact rfl)|(apply LO.box1;exact rfl;(first|exact One.lit rfl rfl|(apply One.sl;exact knA))));apply allAnd;(intro _;exact ltA)))
 exact Bx.h h):G:=s ⟨h⟩
theorem goLV {G G':Prop} (h:G') (s:Bx G'→G:=by
 intro h
 (first
  |(apply LO.bs1;exact t6A;(repeat(first|exact EvP.nil|(apply EvP.cons;exact rfl)));(intro _;kernel_rfl);exact rfl;omega;apply allAnd;(intro _;exact ltA))
  |(apply LO.app;exact t5A;exact rfl;exact rfl;(first|(focus(apply SrcE.ints;exact hmA;done))|(focus(apply SrcE.own1;exact meA;done))|(focus(apply SrcE.one;exact meA;exact rfl;decide;done)));(intro v;exact seA);exact onA;exact leA;exact leA;apply allAnd;(intro _;exact ltA))
  |((apply LO.makeI;exact rfl;exact rfl;(repeat(first|(with_reducible apply NatI.add)|(with_reducible exact NatI.one)|exact NatI.cast _));omega);apply allAnd;(intro _;exact ltA))
  |((apply LO.makeR;exact rfl;exact rfl;(repeat(first|(with_reducible apply NatI.add)|(with_reducible exact NatI.one)|exact NatI.cast _));omega);apply allAnd;(intro _;exact ltA))
  |((apply LO.bsR0);apply allAnd;(intro _;exact ltA))
  |((apply LO.bsR1;exact rfl);apply allAnd;(intro _;exact ltA))
  |((apply LO.bsV1;exact rfl;exact knA);apply allAnd;(intro _;exact ltA))
  |((apply LO.appR1;exact rfl;exact rfl;exact meA;exact hmA;(intro _;exact seA);omega);apply allAnd;(intro _;exact ltA))
  |((apply LO.appFf;exact rfl;exact rfl;exact hmA;(intro _;exact seA);omega);apply allAnd;(intro _;exact ltA))
  |((apply LO.appVV;exact rfl;exact rfl;exact meA;(apply One.sl;exact knA);(intro _;exact seA);omega);apply allAnd;(intro _;exact ltA))
  |((apply LO.appNN;exact rfl;exact rfl;exact meA;(intro _;exact seA);omega);apply allAnd;(intro _;exact ltA)))
 exact Bx.h h):G:=s ⟨h⟩
theorem goLS {G G':Prop} (h:G') (s:Bx G'→G:=by
 intro h
 (first
  |((first|(apply LO.storeOI;exact rfl;exact rfl;exact t3A;exact seA;(first|omega|(simp only[List.length_set];omega)))|(apply LO.storeQ;exact rfl;exact rfl;exact t4A;exact hmA;exact seA;omega)|(apply LO.storeI;exact rfl;exact rfl;exact t3A;exact seA;(first|omega|(simp only[List.length_set,List.length_replicate];omega)))|(apply LO.storeWI;exact rfl;exact rfl;exact seA;exact t4A;(first|omega|(simp only[List.length_set,List.length_replicate];omega));(first|(simp only[List.length_map,List.length_set,List.length_replicate,ints];omega)|rfl))|(apply LO.store1;exact rfl;exact rfl;exact t3A;(first|exact One.lit rfl rfl|(apply One.sl;exact knA));exact seA;(first|(simp only[List.length_cons,List.length_nil];omega)|(simp;omega));(first|(simp only[List.set_cons_succ,List.set_cons_zero];exact rfl)|exact rfl))|(apply LO.storeO1;exact rfl;exact rfl;exact t3A;(first|exact One.lit rfl rfl|(apply One.sl;exact knA));exact seA;(first|(simp only[List.length_cons,List.length_nil];omega)|(simp;omega));(first|(simp only[List.set_cons_succ,List.set_cons_zero];exact rfl)|exact rfl))|(apply LO.storeL;exact rfl;exact rfl;exact seA;exact t4A;exact rfl;exact rfl;(repeat(first|exact OneL.nil|(apply OneL.cons;(first|exact One.lit rfl rfl|(apply One.sl;exact knA)))))));constructor;exact ltA))
 exact Bx.h h):G:=s ⟨h⟩
theorem goYT {G G':Prop} (h:G') (s:Bx G'→G:=by
 intro h
 (apply WD.yl;exact rfl;(first|(apply YO.move;exact rfl)|(apply YO.assign;exact rfl)|exact y_lss|exact y_add|exact y_len|exact y_indexAddr|exact y_load|exact y_pick|exact y_fieldAddr|exact y_eql|exact y_neq|(apply YO.nil;exact rfl)|(apply YO.extract;exact rfl;exact rfl)|exact y_gtr|exact y_geq|exact y_leq|(apply YO.sub;exact rfl;exact rfl;omega;omega)|exact y_mul|exact y_rem|exact y_quo|exact y_unot|exact y_uneg|(apply YO.max;exact rfl;exact rfl)|(apply YO.min;exact rfl;exact rfl)|exact y_makeFunc|exact y_conv|exact y_shl|(apply YO.shr';exact rfl;exact rfl;omega;omega)|exact y_and|exact y_or|(apply YO.anot;exact rfl;exact rfl)|exact y_slice);exact rfl;exact rfl)
 exact Bx.h h):G:=s ⟨h⟩
section
variable {P:Program} {n:Nat} {L rest:List Oper} {e:Env} {bx b0:List Ow} {F F0:List Fct} {Q:Env→List Ow→List Fct→Prop} {d i:Nat} {ty:TypeId} {pos:String} {af:Array Edge} {g:Option (Nat×Bool)} {hs:List Nat} {r:Plan}
 {f:FuncId} {x:Operand} {args:List Operand} {ats:Array TypeId} {vs cs:List Value} {F':List Fct} {u:Value} {el sz:Nat}
theorem WL.callV (hf:FnB P f vs [] F' (IsV u)) (hK:WL P n L rest ((d,u)::e) bx F Q) (hx:ev e x=some (.func (.func f) #[] #[]):=by exact rfl) (hv:Evs e args vs:=by repeat(first|exact Evs.nil|(apply Evs.cons;exact rfl))) (hF:HasAllB bx F F':=by repeat(first|exact HasAllB.nil|(apply HasAllB.cons;(first|(focus(apply HasB.oI;exact meA;done))|(focus(apply HasB.c;exact meA;done))|(focus(apply HasB.f;exact hsA;done))|(focus(apply HasB.fF;exact meA;exact hmA;done))|(focus(apply HasB.rows;(repeat(first|exact List.Sublist.refl _|apply List.Sublist.cons));exact hmA;done))|(focus(apply HasB.sV;exact meA;done))|(focus(apply HasB.sN;exact meA;done))))))
  (hd:Nat.blt d n=true:=by exact rfl) (hg:gok L e g=some true:=by exact rfl):WL P n L (⟨some d,.call {callee:=.value x,args:=args.toArray,argTypes:=ats},ty,pos,af,g⟩::rest) e bx F Q:=
 WL.l hd hg (LO.callRV hx hv hf hF hK)
theorem WL.callO (hf:FnB P f vs [] F' (IsO el sz cs)) (hK:∀ v,WL P n L rest ((d,v)::e) (Ow.slice v el sz cs::bx) F Q) (hx:ev e x=some (.func (.func f) #[] #[]):=by exact rfl) (hv:Evs e args vs:=by repeat(first|exact Evs.nil|(apply Evs.cons;exact rfl))) (hF:HasAllB bx F F':=by repeat(first|exact HasAllB.nil|(apply HasAllB.cons;(first|(focus(apply HasB.oI;exact meA;done))|(focus(apply HasB.c;exact meA;done))|(focus(apply HasB.f;exact hsA;done))|(focus(apply HasB.fF;exact meA;exact hmA;done))|(focus(apply HasB.rows;(repeat(first|exact List.Sublist.refl _|apply List.Sublist.cons));exact hmA;done))|(focus(apply HasB.sV;exact meA;done))|(focus(apply HasB.sN;exact meA;done))))))
  (hd:Nat.blt d n=true:=by exact rfl) (hg:gok L e g=some true:=by exact rfl):WL P n L (⟨some d,.call {callee:=.value x,args:=args.toArray,argTypes:=ats},ty,pos,af,g⟩::rest) e bx F Q:=
 WL.l hd hg (LO.callRO hx hv hf hF hK)
theorem WD.callV (hf:FnB P f vs [] F' (IsV u)) (hK:WD P n L hs b0 F0 r ((d,u)::e) bx F Q) (hL:L[i]?=some ⟨some d,.call {callee:=.value x,args:=args.toArray,argTypes:=ats},ty,pos,af,g⟩:=by exact rfl) (hx:ev e x=some (.func (.func f) #[] #[]):=by exact rfl) (hv:Evs e args vs:=by repeat(first|exact Evs.nil|(apply Evs.cons;exact rfl))) (hF:HasAllB bx F F':=by repeat(first|exact HasAllB.nil|(apply HasAllB.cons;(first|(focus(apply HasB.oI;exact meA;done))|(focus(apply HasB.c;exact meA;done))|(focus(apply HasB.f;exact hsA;done))|(focus(apply HasB.fF;exact meA;exact hmA;done))|(focus(apply HasB.rows;(repeat(first|exact List.Sublist.refl _|apply List.Sublist.cons));exact hmA;done))|(focus(apply HasB.sV;exact meA;done))|(focus(apply HasB.sN;exact meA;done))))))
  (hd:Nat.blt d n=true:=by exact rfl) (hg:gok L e g=some true:=by exact rfl) (lt:lateB L hs i=true∨(b0.Sublist bx∧∀ f∈F0,f∈F):=by exact ltA):WD P n L hs b0 F0 (.loud i r) e bx F Q:=
 WD.l hL hd hg (LO.callRV hx hv hf hF ⟨lt,hK⟩)
theorem WD.callO (hf:FnB P f vs [] F' (IsO el sz cs)) (hK:∀ v,WD P n L hs b0 F0 r ((d,v)::e) (Ow.slice v el sz cs::bx) F Q) (hL:L[i]?=some ⟨some d,.call {callee:=.value x,args:=args.toArray,argTypes:=ats},ty,pos,af,g⟩:=by exact rfl) (hx:ev e x=some (.func (.func f) #[] #[]):=by exact rfl) (hv:Evs e args vs:=by repeat(first|exact Evs.nil|(apply Evs.cons;exact rfl))) (hF:HasAllB bx F F':=by repeat(first|exact HasAllB.nil|(apply HasAllB.cons;(first|(focus(apply HasB.oI;exact meA;done))|(focus(apply HasB.c;exact meA;done))|(focus(apply HasB.f;exact hsA;done))|(focus(apply HasB.fF;exact meA;exact hmA;done))|(focus(apply HasB.rows;(repeat(first|exact List.Sublist.refl _|apply List.Sublist.cons));exact hmA;done))|(focus(apply HasB.sV;exact meA;done))|(focus(apply HasB.sN;exact meA;done))))))
  (hd:Nat.blt d n=true:=by exact rfl) (hg:gok L e g=some true:=by exact rfl) (lt:lateB L hs i=true∨(b0.Sublist bx∧∀ f∈F0,f∈F):=by exact ltA):WD P n L hs b0 F0 (.loud i r) e bx F Q:=
 WD.l hL hd hg (LO.callRO hx hv hf hF fun v=>⟨lt.imp id fun h=>⟨h.1.trans (List.sublist_cons_self _ _),h.2⟩,hK v⟩)
end
end Z
end Go.Proofs.YtaongbhamadlkaaGreat
namespace Go.Proofs.YtaongbhamadlkaaGreat
namespace X
theorem pige:∀ (n:Nat) (p:Nat→Nat),(∀ i,i≤n→p i < n)→∃ i j,i < j∧j≤n∧p i=p j:=by
 intro n
 induction n with
 |zero=>intro p h;have:=h 0 (Nat.le_refl _);omega
 |succ n ih=>
  intro p h
  by_cases c:∃ i,i≤n∧p i=p (n+1)
  ·obtain⟨i,h1,h2⟩:=c;exact⟨i,n+1,by omega,Nat.le_refl _,h2⟩
  ·have hc:∀ i,i≤n→p i≠p (n+1):=fun i h1 h2=>c ⟨i,h1,h2⟩
   obtain⟨i,j,h1,h2,h3⟩:=ih (fun i=>if p i=n then p (n+1) else p i) (fun i hi=>by
    have h4:=h i (by omega)
    have h5:=h (n+1) (by omega)
    have h6:=hc i hi
    split <;> omega)
   refine⟨i,j,h1,by omega,?_⟩
   have h6:=hc i (by omega)
   have h7:=hc j (by omega)
   split at h3 <;> split at h3 <;> omega
def cod (n:Nat) (b:Nat→Nat):Nat→Nat
 |0=>0
 |i+1=>cod n b i*n+b i
theorem cod_lt {n:Nat} {b:Nat→Nat}:∀ m,(∀ i,i < m→b i < n)→cod n b m < n ^ m
 |0,_=>by simp[cod]
 |m+1,h=>by
  have h1:=cod_lt m (fun i hi=>h i (by omega))
  have h2:=h m (by omega)
  have h3:(cod n b m+1)*n≤n ^ m*n:=Nat.mul_le_mul_right _ h1
  rw[Nat.add_mul] at h3
  rw[cod,Nat.pow_succ];omega
theorem cod_inj {n:Nat} {b b':Nat→Nat}:∀ m,(∀ i,i < m→b i < n)→(∀ i,i < m→b' i < n)→cod n b m=cod n b' m→∀ i,i < m→b i=b' i
 |0,_,_,_=>fun i hi=>by omega
 |m+1,h,h',he=>fun i hi=>by
  have h1:=h m (by omega)
  have h2:=h' m (by omega)
  rw[cod,cod] at he
  have e1:(cod n b m*n+b m) % n=b m:=by rw[Nat.mul_comm,Nat.mul_add_mod,Nat.mod_eq_of_lt h1]
  have e2:(cod n b' m*n+b' m) % n=b' m:=by rw[Nat.mul_comm,Nat.mul_add_mod,Nat.mod_eq_of_lt h2]
  have e3:b m=b' m:=by rw[←e1,←e2,he]
  by_cases e:i=m
  ·rw[e];exact e3
  ·have e4:cod n b m*n=cod n b' m*n:=by omega
   exact cod_inj m (fun i hi=>h i (by omega)) (fun i hi=>h' i (by omega)) (Nat.eq_of_mul_eq_mul_right (by omega) e4) i (by omega)
theorem max_of {P:Nat→Prop}:∀ n,(∃ v,P v)→(∀ v,P v→v < n)→∃ t,P t∧∀ v,P v→v≤t
 |0,⟨v,hv⟩,h=>by have:=h v hv;omega
 |n+1,hx,h=>by
  by_cases c:P n
  ·exact⟨n,c,fun v hv=>by have:=h v hv;omega⟩
  ·exact max_of n hx fun v hv=>by
    have:=h v hv
    have:v≠n:=fun e=>c (e ▸ hv)
    omega
section
variable {m n e:Nat} {A:Nat→Nat→Rat} {c0:Nat→Rat}
theorem Stp.inv {s s':St} (h:Stp m n e s s'):∃ r k,s'=pv s r k∧k < e∧s.c k < 0∧(∀ j,j < k→0≤s.c j)∧r < m∧0 < s.t r k∧∀ i,i < m→0 < s.t i k→s.t r n / s.t r k≤s.t i n / s.t i k∧(s.t i n / s.t i k=s.t r n / s.t r k→s.b r≤s.b i):=by
 obtain⟨r,k,h1,h2⟩:=h
 rcases ent_spec s e with ⟨g,_⟩|⟨k',g1,g2,g3,g4⟩
 ·rw[h1] at g;cases g
 obtain rfl:k=k':=by rw[h1] at g1;cases g1;rfl
 rcases lev_spec n s k m with ⟨g,_⟩|⟨r',f1,f2,f3,f4⟩
 ·rw[h2] at g;cases g
 obtain rfl:r=r':=by rw[h2] at f1;cases f1;rfl
 exact⟨r,k,rfl,g2,g3,g4,f2,f3,f4⟩
theorem Inv.inj {s:St} (h:Inv m n A c0 s) {i k:Nat} (hi:i < m) (hk:k < m) (he:s.b i=s.b k):i=k:=by
 have h1:=h.u i hi k hk
 have h2:=h.u i hi i hi
 rw[if_pos rfl,he,h1] at h2
 by_cases e:i=k
 ·exact e
 ·rw[if_neg e] at h2;exact absurd h2 (by decide)
theorem Inv.non {s:St} (h:Inv m n A c0 s) {k:Nat} (hk:s.c k < 0):¬Bas m s k:=by
 rintro⟨r,hr,rfl⟩
 have:=h.z r hr
 grind
theorem no_forever {S:Nat→St} (h0:Ok m n e A c0 (S 0)) (he:e≤n) (hS:∀ i,Stp m n e (S i) (S (i+1))):False:=by
 have hok:∀ i,Ok m n e A c0 (S i):=fun i=>by
  induction i with
  |zero=>exact h0
  |succ i ih=>exact ih.stp he (hS i)
 obtain⟨R,hR⟩:=Classical.axiomOfChoice (fun p=>(hS p).inv)
 obtain⟨K,hK⟩:=Classical.axiomOfChoice hR
 clear hR
 -- a basis comes again
 obtain⟨i,j,hij,_,hcod⟩:=pige (n ^ m) (fun p=>cod n (S p).b m) (fun p _=>cod_lt m (hok p).i.bd)
 have hb:∀ r,r < m→(S i).b r=(S j).b r:=cod_inj m (hok i).i.bd (hok j).i.bd hcod
 obtain⟨_,huc⟩:=(hok i).i.uniq (hok j).i hb
 have hcn:=huc n (Nat.le_refl _)
 -- costs do not fall
 have hstep:∀ p,(S (p+1)).c n=(S p).c n - (S p).c (K p)*((S p).t (R p) n / (S p).t (R p) (K p)):=fun p=>by
  rw[(hK p).1];rfl
 have hq:∀ p,0≤(S p).t (R p) n / (S p).t (R p) (K p):=fun p=>ratio_nonneg ((hok p).f _ (hK p).2.2.2.2.1) (hK p).2.2.2.2.2.1
 have hmon1:∀ p,(S p).c n≤(S (p+1)).c n:=fun p=>by
  have h1:=Rat.mul_nonneg (show 0≤-(S p).c (K p) by have:=(hK p).2.2.1;grind) (hq p)
  rw[hstep p];grind
 have hmon:∀ d p,(S p).c n≤(S (p+d)).c n:=fun d=>by
  induction d with
  |zero=>intro p;exact Rat.le_refl
  |succ d ih=>intro p;have h1:=ih p;have h2:=hmon1 (p+d);rw[show p+(d+1)=p+d+1 by omega];grind
 have hz:∀ p,i≤p→p < j→(S p).t (R p) n=0:=fun p h1 h2=>by
  have g1:=hmon (p - i) i
  have g2:=hmon (j - (p+1)) (p+1)
  rw[show i+(p - i)=p by omega] at g1
  rw[show p+1+(j - (p+1))=j by omega] at g2
  have g3:=hmon1 p
  have g4:=hstep p
  have g5:(S p).c (K p)*((S p).t (R p) n / (S p).t (R p) (K p))=0:=by grind
  have g6:=(hK p).2.2.1
  have g7:=(hK p).2.2.2.2.2.1
  have g8:(S p).t (R p) n / (S p).t (R p) (K p)=0:=by
   rcases Rat.mul_eq_zero.1 g5 with g|g
   ·grind
   ·exact g
  have g9:(S p).t (R p) n=(S p).t (R p) n / (S p).t (R p) (K p)*(S p).t (R p) (K p):=(div_mul_self' (by grind)).symm
  rw[g9,g8];grind
 -- the values of all columns stay
 have hval:∀ p v,i≤p→p < j→(sm m fun r=>if(S (p+1)).b r=v then(S (p+1)).t r n else 0)=sm m fun r=>if(S p).b r=v then(S p).t r n else 0:=fun p v h1 h2=>by
  have g1:=hz p h1 h2
  rw[(hK p).1]
  refine sm_congr fun r hr=>?_
  show(if(if r=R p then K p else(S p).b r)=v then(if r=R p then(S p).t (R p) n / (S p).t (R p) (K p) else(S p).t r n - (S p).t r (K p)*((S p).t (R p) n / (S p).t (R p) (K p))) else 0)=_
  by_cases e:r=R p
  ·subst e
   rw[if_pos rfl,if_pos rfl,g1]
   split <;> split <;> grind
  ·rw[if_neg e,if_neg e,g1]
   split <;> grind
 have hval2:∀ d p v,i≤p→p+d≤j→(sm m fun r=>if(S (p+d)).b r=v then(S (p+d)).t r n else 0)=sm m fun r=>if(S p).b r=v then(S p).t r n else 0:=fun d=>by
  induction d with
  |zero=>intro p v _ _;rfl
  |succ d ih=>intro p v h1 h2;rw[show p+(d+1)=p+d+1 by omega,hval (p+d) v (by omega) (by omega),ih p v h1 (by omega)]
 have hval3:∀ p q v,i≤p→p≤j→i≤q→q≤j→(sm m fun r=>if(S p).b r=v then(S p).t r n else 0)=sm m fun r=>if(S q).b r=v then(S q).t r n else 0:=fun p q v h1 h2 h3 h4=>by
  have g1:=hval2 (p - i) i v (Nat.le_refl _) (by omega)
  have g2:=hval2 (q - i) i v (Nat.le_refl _) (by omega)
  rw[show i+(p - i)=p by omega] at g1
  rw[show i+(q - i)=q by omega] at g2
  rw[g1,g2]
 -- what enters and leaves
 have hent:∀ d a v,¬Bas m (S a) v→Bas m (S (a+d)) v→∃ p,a≤p∧p < a+d∧K p=v:=fun d=>by
  induction d with
  |zero=>intro a v h1 h2;exact absurd h2 h1
  |succ d ih=>
   intro a v h1 h2
   by_cases c:Bas m (S (a+d)) v
   ·obtain⟨p,p1,p2,p3⟩:=ih a v h1 c
    exact⟨p,p1,by omega,p3⟩
   ·refine⟨a+d,by omega,by omega,?_⟩
    rw[show a+(d+1)=a+d+1 by omega,(hK (a+d)).1] at h2
    obtain⟨r,r1,r2⟩:=h2
    have r2':(if r=R (a+d) then K (a+d) else(S (a+d)).b r)=v:=r2
    by_cases e:r=R (a+d)
    ·rw[if_pos e] at r2';exact r2'
    ·rw[if_neg e] at r2';exact absurd ⟨r,r1,r2'⟩ c
 have hlev:∀ d a v,Bas m (S a) v→¬Bas m (S (a+d)) v→∃ p,a≤p∧p < a+d∧(S p).b (R p)=v:=fun d=>by
  induction d with
  |zero=>intro a v h1 h2;exact absurd h1 h2
  |succ d ih=>
   intro a v h1 h2
   by_cases c:Bas m (S (a+d)) v
   ·refine⟨a+d,by omega,by omega,?_⟩
    obtain⟨r,r1,r2⟩:=c
    by_cases e:r=R (a+d)
    ·rw[←e];exact r2
    ·refine absurd ⟨r,r1,?_⟩ h2
     rw[show a+(d+1)=a+d+1 by omega,(hK (a+d)).1]
     show(if r=R (a+d) then K (a+d) else(S (a+d)).b r)=v
     rw[if_neg e];exact r2
   ·obtain⟨p,p1,p2,p3⟩:=ih a v h1 c
    exact⟨p,p1,by omega,p3⟩
 have hsame:∀ v,Bas m (S i) v↔Bas m (S j) v:=fun v=>by
  constructor
  ·rintro⟨r,r1,r2⟩;exact⟨r,r1,by rw[←hb r r1];exact r2⟩
  ·rintro⟨r,r1,r2⟩;exact⟨r,r1,by rw[hb r r1];exact r2⟩
 have hfick:∀ a b v,i≤a→a≤j→i≤b→b≤j→Bas m (S a) v→¬Bas m (S b) v→∃ p,i≤p∧p < j∧K p=v:=fun a b v h1 h2 h3 h4 h5 h6=>by
  by_cases c:b < a
  ·obtain⟨p,p1,p2,p3⟩:=hent (a - b) b v h6 (by rw[show b+(a - b)=a by omega];exact h5)
   exact⟨p,by omega,by omega,p3⟩
  ·by_cases d:Bas m (S i) v
   ·obtain⟨p,p1,p2,p3⟩:=hent (j - b) b v h6 (by rw[show b+(j - b)=j by omega];exact(hsame v).1 d)
    exact⟨p,by omega,by omega,p3⟩
   ·obtain⟨p,p1,p2,p3⟩:=hent (a - i) i v d (by rw[show i+(a - i)=a by omega];exact h5)
    exact⟨p,by omega,by omega,p3⟩
 -- the greatest one that enters
 obtain⟨t,⟨p1,a1,a2,rfl⟩,htm⟩:=max_of (P:=fun v=>∃ p,i≤p∧p < j∧K p=v) n ⟨_,i,Nat.le_refl _,hij,rfl⟩ (fun v ⟨p,_,_,h⟩=>by have:=(hK p).2.1;omega)
 have hn1:¬Bas m (S p1) (K p1):=(hok p1).i.non (hK p1).2.2.1
 have hy1:Bas m (S (p1+1)) (K p1):=by
  refine⟨R p1,(hK p1).2.2.2.2.1,?_⟩
  rw[(hK p1).1];exact if_pos rfl
 obtain⟨p2,b1,b2,b3⟩:∃ p,i≤p∧p < j∧(S p).b (R p)=K p1:=by
  by_cases d:Bas m (S i) (K p1)
  ·obtain⟨p,q1,q2,q3⟩:=hlev (p1 - i) i _ d (by rw[show i+(p1 - i)=p1 by omega];exact hn1)
   exact⟨p,by omega,by omega,q3⟩
  ·obtain⟨p,q1,q2,q3⟩:=hlev (j - (p1+1)) (p1+1) _ hy1 (by rw[show p1+1+(j - (p1+1))=j by omega];exact fun h=>d ((hsame _).2 h))
   exact⟨p,by omega,by omega,q3⟩
 obtain⟨_,k2,k3,k4,k5,k6,k7⟩:=hK p2
 obtain⟨_,l2,l3,l4,_⟩:=hK p1
 have hlt:K p2 < K p1:=by
  have h1:=htm (K p2) ⟨p2,b1,b2,rfl⟩
  have h2:K p2≠K p1:=fun h=>(hok p2).i.non k3 ⟨R p2,k5,by rw[b3,h]⟩
  omega
 have hcr:=(hok p2).i.cross (hok p1).i (j:=K p2) (by omega)
 have hpos:=l4 _ hlt
 -- some basic column has a cost there
 have hex:∃ r,r < m∧0 < (S p1).c ((S p2).b r)*(S p2).t r (K p2):=Classical.byContradiction fun hno=>by
  have:(sm m fun r=>(S p1).c ((S p2).b r)*(S p2).t r (K p2))≤sm m fun _=>0:=sm_le fun r hr=>by
   have h1:¬0 < (S p1).c ((S p2).b r)*(S p2).t r (K p2):=fun h=>hno ⟨r,hr,h⟩
   grind
  rw[sm_zero (fun _ _=>rfl)] at this
  grind
 obtain⟨r,r1,r2⟩:=hex
 have hne:r≠R p2:=fun h=>by
  subst h
  rw[b3] at r2
  have:=Rat.mul_pos (show 0 < -(S p1).c (K p1) by grind) k6
  grind
 have hnz:(S p1).c ((S p2).b r)≠0:=fun h=>by rw[h] at r2;grind
 have hnb:¬Bas m (S p1) ((S p2).b r):=by
  rintro⟨x,x1,x2⟩
  exact hnz (by rw[←x2];exact(hok p1).i.z x x1)
 have hby:Bas m (S p2) ((S p2).b r):=⟨r,r1,rfl⟩
 have hvt:=htm _ (hfick p2 p1 _ b1 (by omega) a1 (by omega) hby hnb)
 have hvt2:(S p2).b r≠K p1:=fun h=>hne ((hok p2).i.inj r1 k5 (by rw[h,b3]))
 have hcp:=l4 ((S p2).b r) (by omega)
 have htp:0 < (S p2).t r (K p2):=by
  refine Classical.byContradiction fun h=>?_
  have:=Rat.mul_nonneg hcp (show 0≤-(S p2).t r (K p2) by grind)
  grind
 -- its value is 0
 have hv0:(S p2).t r n=0:=by
  have h1:=hval3 p2 p1 ((S p2).b r) b1 (by omega) a1 (by omega)
  rw[sm_zero (f:=fun x=>if(S p1).b x=(S p2).b r then(S p1).t x n else 0) (fun x hx=>if_neg fun h=>hnb ⟨x,hx,h⟩)] at h1
  rw[sm_one r1 (fun x hx hxr=>if_neg fun h=>hxr ((hok p2).i.inj hx r1 h)),if_pos rfl] at h1
  exact h1
 have hq0:=hz p2 b1 b2
 have:=(k7 r r1 htp).2 (by rw[hv0,hq0];grind)
 rw[b3] at this
 omega
end
end X
end Go.Proofs.YtaongbhamadlkaaGreat
namespace Go.Proofs.YtaongbhamadlkaaGreat
namespace X
section
variable {m n e:Nat} {A:Nat→Nat→Rat} {c0:Nat→Rat} {s:St}
def prc (m:Nat) (c1:Nat→Rat) (s:St):St:={s with c:=fun j=>c1 j - sm m fun i=>c1 (s.b i)*s.t i j}
theorem Inv.prc (h:Inv m n A c0 s) (c1:Nat→Rat):Inv m n A c1 (prc m c1 s):=by
 obtain⟨M,hM⟩:=h.l
 refine⟨h.bd,h.u,h.l,h.r,⟨fun r=>sm m fun i=>c1 (s.b i)*M i r,fun j hj=>?_⟩,fun i hi=>?_⟩
 ·show c1 j - (sm m fun i=>c1 (s.b i)*s.t i j)=_
  congr 1
  rw[show(sm m fun i=>c1 (s.b i)*s.t i j)=sm m fun i=>sm m fun r=>(c1 (s.b i)*M i r)*A r j from sm_congr fun i hi=>by
   rw[hM i hi j hj,←sm_mul];exact sm_congr fun r _=>by grind]
  rw[sm_comm]
  exact sm_congr fun r _=>by rw[sm_mulr]
 ·show c1 (s.b i) - (sm m fun k=>c1 (s.b k)*s.t k (s.b i))=0
  rw[sm_one hi (fun k hk hki=>by rw[h.u k hk i hi,if_neg hki];grind),h.u i hi i hi,if_pos rfl];grind
def runP (m n e:Nat):Nat→St→Option (St×Option Nat)
 |0,_=>none
 |F+1,s=>match ent s e with
  |none=>some (s,none)
  |some k=>match lev n s k m with
   |none=>some (s,some k)
   |some r=>runP m n e F (pv s r k)
def stp (m n e:Nat) (s:St):St:=match ent s e with
 |none=>s
 |some k=>match lev n s k m with
  |none=>s
  |some r=>pv s r k
def its (m n e:Nat) (s:St):Nat→St
 |0=>s
 |i+1=>stp m n e (its m n e s i)
theorem its_stp (s:St):∀ i,its m n e s (i+1)=its m n e (stp m n e s) i
 |0=>rfl
 |i+1=>by
  show stp m n e (its m n e s (i+1))=stp m n e (its m n e (stp m n e s) i)
  rw[its_stp s i]
theorem run_none:∀ (F:Nat) (s:St),runP m n e F s=none→∀ i,i < F→Stp m n e (its m n e s i) (its m n e s (i+1)):=by
 intro F
 induction F with
 |zero=>intro s _ i hi;omega
 |succ F ih=>
  intro s h i hi
  unfold runP at h
  split at h
  ·cases h
  ·rename_i k h1
   split at h
   ·cases h
   ·rename_i r h2
    have hs:stp m n e s=pv s r k:=by unfold stp;rw[h1];simp only;rw[h2]
    cases i with
    |zero=>show Stp m n e s (stp m n e s);rw[hs];exact .mk r k h1 h2
    |succ i=>
     rw[its_stp,its_stp,hs]
     exact ih _ h i (by omega)
theorem run_ends (h:Ok m n e A c0 s) (he:e≤n):∃ F x,runP m n e F s=some x:=Classical.byContradiction fun hno=>by
 refine no_forever (S:=its m n e s) h he fun i=>?_
 refine run_none (i+1) s ?_ i (by omega)
 cases hr:runP m n e (i+1) s with
 |none=>rfl
 |some x=>exact absurd ⟨_,_,hr⟩ hno
theorem run_ind {P:St→Prop} (hp:∀ s s',P s→Stp m n e s s'→P s'):∀ (F:Nat) (s:St) (x:St×Option Nat),P s→runP m n e F s=some x→P x.1:=by
 intro F
 induction F with
 |zero=>intro s x _ h;cases h
 |succ F ih=>
  intro s x h1 h
  unfold runP at h
  split at h
  ·cases h;exact h1
  ·rename_i k g1
   split at h
   ·cases h;exact h1
   ·rename_i r g2;exact ih _ x (hp _ _ h1 (.mk r k g1 g2)) h
theorem run_end:∀ (F:Nat) (s:St) (x:St×Option Nat),runP m n e F s=some x→(x.2=none∧∀ k,k < e→0≤x.1.c k)∨∃ k,x.2=some k∧k < e∧x.1.c k < 0∧∀ i,i < m→x.1.t i k≤0:=by
 intro F
 induction F with
 |zero=>intro s x h;cases h
 |succ F ih=>
  intro s x h
  unfold runP at h
  split at h
  ·rename_i g
   cases h
   rcases ent_spec s e with ⟨_,g2⟩|⟨k,g2,_⟩
   ·exact .inl ⟨rfl,g2⟩
   ·rw[g] at g2;cases g2
  ·rename_i k g1
   split at h
   ·rename_i g2
    cases h
    rcases ent_spec s e with ⟨g,_⟩|⟨k',g,g3,g4,_⟩
    ·rw[g1] at g;cases g
    obtain rfl:k=k':=by rw[g1] at g;cases g;rfl
    rcases lev_spec n s k m with ⟨_,f2⟩|⟨r,f1,_⟩
    ·exact .inr ⟨k,rfl,g3,g4,f2⟩
    ·rw[g2] at f1;cases f1
   ·rename_i r g2;exact ih _ x h
theorem run_ok (h:Ok m n e A c0 s) (he:e≤n) {F:Nat} {x:St×Option Nat} (hx:runP m n e F s=some x):Ok m n e A c0 x.1:=run_ind (fun _ _ h1 h2=>Ok.stp h1 he h2) F s x h hx
def drS (last:Nat) (s:St) (i:Nat):St:=if s.b i < last then s else match fstT (fun k=>decide (s.t i k≠0)) last 0 with
 |none=>s
 |some k=>pv s i k
def drP (last:Nat) (s:St):Nat→St
 |0=>s
 |i+1=>drS last (drP last s i) i
def Emp (m n last:Nat) (s:St) (q:Nat):Prop:=∀ i,i < m→last≤s.b i→s.t i n=0∧(i < q→∀ k,k < last→s.t i k=0)
theorem emp_step {last q:Nat} (hl:last≤n) (h:Ok m n e A c0 s) (hq:q < m) (he:Emp m n last s q):Ok m n e A c0 (drS last s q)∧Emp m n last (drS last s q) (q+1):=by
 unfold drS
 by_cases c:s.b q < last
 ·rw[if_pos c]
  refine⟨h,fun i hi hb=>⟨(he i hi hb).1,fun hiq=>?_⟩⟩
  by_cases e1:i=q
  ·subst e1;omega
  ·exact(he i hi hb).2 (by omega)
 ·rw[if_neg c]
  rcases fstT_spec (fun k=>decide (s.t q k≠0)) last 0 with ⟨h1,h2⟩|⟨k,h1,_,h3,h4,_⟩
  ·rw[h1]
   refine⟨h,fun i hi hb=>⟨(he i hi hb).1,fun hiq k hk=>?_⟩⟩
   by_cases e1:i=q
   ·subst e1
    have:=of_decide_eq_false (h2 k (by omega) (by omega))
    exact Classical.byContradiction fun h=>this h
   ·exact(he i hi hb).2 (by omega) k hk
  ·rw[h1]
   have hk:=of_decide_eq_true h4
   have hq0:=(he q hq (by omega)).1
   have hn:∀ i,(pv s q k).t i n=s.t i n:=fun i=>by
    show(if i=q then s.t q n / s.t q k else s.t i n - s.t i k*(s.t q n / s.t q k))=_
    by_cases e1:i=q
    ·rw[if_pos e1,e1,hq0];grind
    ·rw[if_neg e1,hq0];grind
   refine⟨⟨h.i.pv hq (by omega) hk,fun i hi=>by rw[hn];exact h.f i hi⟩,fun i hi hb=>?_⟩
   have hb':last≤(if i=q then k else s.b i):=hb
   have e1:i≠q:=fun e1=>by rw[if_pos e1] at hb';omega
   rw[if_neg e1] at hb'
   refine⟨by rw[hn];exact(he i hi hb').1,fun hiq j hj=>?_⟩
   have g:=(he i hi hb').2 (by omega)
   show(if i=q then s.t q j / s.t q k else s.t i j - s.t i k*(s.t q j / s.t q k))=0
   rw[if_neg e1,g j hj,g k (by omega)];grind
theorem emp_all {last:Nat} (hl:last≤n) (h:Ok m n e A c0 s) (he:Emp m n last s 0):∀ q,q≤m→Ok m n e A c0 (drP last s q)∧Emp m n last (drP last s q) q
 |0,_=>⟨h,he⟩
 |q+1,hq=>by
  obtain⟨h1,h2⟩:=emp_all hl h he q (by omega)
  exact emp_step hl h1 (by omega) h2
theorem emp_stp {last:Nat} {s':St} (he:e≤last) (h:Ok m n e A c0 s) (hn:e≤n) (hm:Emp m n last s m) (hs:Stp m n e s s'):Emp m n last s' m:=by
 obtain⟨r,k,rfl,g2,g3,g4,f2,f3,f4⟩:=hs.inv
 have hr:s.b r < last:=Classical.byContradiction fun c=>by
  have:=(hm r f2 (by omega)).2 f2 k (by omega)
  grind
 intro i hi hb
 have hb':last≤(if i=r then k else s.b i):=hb
 have e1:i≠r:=fun e1=>by rw[if_pos e1] at hb';omega
 rw[if_neg e1] at hb'
 have g:=(hm i hi hb').2 hi
 have g0:=(hm i hi hb').1
 refine⟨?_,fun _ j hj=>?_⟩
 ·show(if i=r then s.t r n / s.t r k else s.t i n - s.t i k*(s.t r n / s.t r k))=0
  rw[if_neg e1,g0,g k (by omega)];grind
 ·show(if i=r then s.t r j / s.t r k else s.t i j - s.t i k*(s.t r j / s.t r k))=0
  rw[if_neg e1,g j hj,g k (by omega)];grind
end
end X
end Go.Proofs.YtaongbhamadlkaaGreat
namespace Go.Proofs.YtaongbhamadlkaaGreat
namespace X
structure Lp where
 v:Nat
 m:Nat
 a:Nat→Nat→Rat
 b:Nat→Rat
 g:Nat→Rat
def Lp.sg (p:Lp) (r:Nat):Rat:=if p.b r < 0 then -1 else 1
def Lp.la (p:Lp):Nat:=2*p.v+p.m
def Lp.n (p:Lp):Nat:=2*p.v+2*p.m
def Lp.A (p:Lp) (r j:Nat):Rat:=
 if j < p.v then p.sg r*p.a r j else if j < 2*p.v then -(p.sg r*p.a r (j - p.v)) else if j < p.la then(if j=2*p.v+r then p.sg r else 0)
 else if j < p.n then(if j=p.la+r∧p.b r < 0 then 1 else 0) else p.sg r*p.b r
def Lp.s0 (p:Lp):St where
 t:=p.A
 c _:=0
 b i:=if p.b i < 0 then p.la+i else 2*p.v+i
section
variable {p:Lp}
theorem sg_sq (r:Nat):p.sg r*p.sg r=1:=by unfold Lp.sg;split <;> grind
theorem A_art {r i:Nat} (hi:i < p.m):p.A r (p.s0.b i)=if r=i then 1 else 0:=by
 show p.A r (if p.b i < 0 then p.la+i else 2*p.v+i)=_
 unfold Lp.A Lp.la Lp.n
 by_cases c:p.b i < 0
 ·rw[if_pos c,if_neg (by omega),if_neg (by omega),if_neg (by omega),if_pos (by omega)]
  by_cases e:r=i
  ·subst e;rw[if_pos ⟨rfl,c⟩,if_pos rfl]
  ·rw[if_neg (by omega),if_neg e]
 ·rw[if_neg c,if_neg (by omega),if_neg (by omega),if_pos (by omega)]
  by_cases e:r=i
  ·subst e;rw[if_pos rfl,if_pos rfl];unfold Lp.sg;rw[if_neg c]
  ·rw[if_neg (by omega),if_neg e]
theorem inv0:Inv p.m p.n p.A (fun _=>0) p.s0:=by
 refine⟨fun i hi=>?_,fun i hi k hk=>?_,⟨fun i r=>if i=r then 1 else 0,fun i hi j hj=>?_⟩,fun r hr j hj=>?_,⟨fun _=>0,fun j hj=>?_⟩,fun _ _=>rfl⟩
 ·show(if p.b i < 0 then p.la+i else 2*p.v+i) < p.n
  unfold Lp.la Lp.n
  split <;> omega
 ·exact A_art hk
 ·show p.A i j=sm p.m fun r=>(if i=r then(1:Rat) else 0)*p.A r j
  rw[sm_one hi (fun r _ hr=>by rw[if_neg (fun e=>hr e.symm)];grind),if_pos rfl]
  grind
 ·rw[sm_one hr (fun i hi hir=>by rw[A_art hi,if_neg (fun e=>hir e.symm)];grind),A_art hr,if_pos rfl]
  show _=1*p.A r j
  grind
 ·rw[sm_zero (fun _ _=>by grind)]
  show(0:Rat)=0 - 0
  grind
theorem A_n (r:Nat):p.A r p.n=p.sg r*p.b r:=by
 unfold Lp.A Lp.la Lp.n
 rw[if_neg (by omega),if_neg (by omega),if_neg (by omega),if_neg (by omega)]
theorem ok0 (e:Nat):Ok p.m p.n e p.A (fun _=>0) p.s0:=⟨inv0,fun i _=>by
 show 0≤p.A i p.n
 rw[A_n];unfold Lp.sg;split <;> grind⟩
theorem Ok.prc {m n e e':Nat} {A:Nat→Nat→Rat} {c0:Nat→Rat} {s:St} (h:Ok m n e A c0 s) (c1:Nat→Rat):Ok m n e' A c1 (prc m c1 s):=⟨h.i.prc c1,h.f⟩
theorem Ok.any {m n e e':Nat} {A:Nat→Nat→Rat} {c0:Nat→Rat} {s:St} (h:Ok m n e A c0 s):Ok m n e' A c0 s:=⟨h.i,h.f⟩
def Lp.c1 (p:Lp) (j:Nat):Rat:=if p.la≤j∧j < p.n then 1 else 0
def Lp.c2 (p:Lp) (j:Nat):Rat:=if j < p.v then -p.g j else if j < 2*p.v then p.g (j - p.v) else 0
theorem sm_null {n:Nat} {f:Nat→Rat}:(∀ i,i < n→0≤f i)→sm n f≤0→∀ i,i < n→f i=0:=fun h h2 i hi=>by
 rw[sm_split hi] at h2
 have h3:0≤sm n (fun k=>if k=i then 0 else f k):=sm_nonneg fun k hk=>by
  by_cases e:k=i
  ·rw[if_pos e];exact Rat.le_refl
  ·rw[if_neg e];exact h k hk
 have:=h i hi
 grind
theorem phase1 {F:Nat} {x:St×Option Nat} (hx:runP p.m p.n p.n F (prc p.m p.c1 p.s0)=some x):x.2=none∧Ok p.m p.n p.n p.A p.c1 x.1∧(∀ k,k < p.n→0≤x.1.c k)∧(¬x.1.c p.n < 0→Emp p.m p.n p.la x.1 0):=by
 have hok:=run_ok ((ok0 (p:=p) p.n).prc (e':=p.n) p.c1) (Nat.le_refl _) hx
 have hc1:∀ j,0≤p.c1 j:=fun j=>by unfold Lp.c1;split <;> decide
 have hend:x.2=none∧∀ k,k < p.n→0≤x.1.c k:=by
  rcases run_end F _ x hx with h|⟨k,h1,h2,h3,h4⟩
  ·exact h
  ·have h5:=hok.i.cost (j:=k) (by omega)
   have h6:sm p.m (fun i=>p.c1 (x.1.b i)*x.1.t i k)≤sm p.m fun _=>0:=sm_le fun i hi=>by
    have:=Rat.mul_nonneg (hc1 (x.1.b i)) (show 0≤-x.1.t i k by have:=h4 i hi;grind)
    grind
   rw[sm_zero (fun _ _=>rfl)] at h6
   have:=hc1 k
   grind
 refine⟨hend.1,hok,hend.2,fun hn i hi hb=>⟨?_,fun h=>by omega⟩⟩
 have h5:=hok.i.cost (j:=p.n) (Nat.le_refl _)
 have h7:p.c1 p.n=0:=by unfold Lp.c1;rw[if_neg (by omega)]
 have h6:=sm_null (n:=p.m) (f:=fun i=>p.c1 (x.1.b i)*x.1.t i p.n) (fun i hi=>Rat.mul_nonneg (hc1 _) (hok.f i hi)) (by grind) i hi
 have h8:p.c1 (x.1.b i)=1:=by unfold Lp.c1;rw[if_pos ⟨hb,hok.i.bd i hi⟩]
 simp only[h8] at h6
 grind
def wt (m:Nat) (s:St) (q:Nat→Rat) (j:Nat):Rat:=sm m fun i=>if s.b i=j then q i else 0
theorem A_eq {r j:Nat} (hj:j < p.la) (q:Rat):p.A r j*q=p.sg r*(sm p.v (fun k=>p.a r k*((if j=k then q else 0) - (if j=p.v+k then q else 0)))+(if j=2*p.v+r then q else 0)):=by
 unfold Lp.A Lp.la at *
 by_cases c1:j < p.v
 ·rw[if_pos c1,sm_one c1 (fun k hk hkj=>by rw[if_neg (fun e=>hkj e.symm),if_neg (by omega)];grind),if_pos rfl,if_neg (by omega),if_neg (by omega)];grind
 ·rw[if_neg c1]
  by_cases c2:j < 2*p.v
  ·rw[if_pos c2,sm_one (r:=j - p.v) (by omega) (fun k hk hkj=>by rw[if_neg (by omega),if_neg (by omega)];grind),if_neg (by omega),if_pos (by omega),if_neg (by omega)];grind
  ·rw[if_neg c2,if_pos hj,sm_zero (fun k hk=>by rw[if_neg (by omega),if_neg (by omega)];grind)]
   split <;> grind
theorem row_sum {s:St} {q:Nat→Rat} (hq:∀ i,i < p.m→p.la≤s.b i→q i=0) (r:Nat):(sm p.m fun i=>p.A r (s.b i)*q i)=p.sg r*(sm p.v (fun k=>p.a r k*(wt p.m s q k - wt p.m s q (p.v+k)))+wt p.m s q (2*p.v+r)):=by
 rw[show(sm p.m fun i=>p.A r (s.b i)*q i)=sm p.m fun i=>p.sg r*(sm p.v (fun k=>p.a r k*((if s.b i=k then q i else 0) - (if s.b i=p.v+k then q i else 0)))+(if s.b i=2*p.v+r then q i else 0)) from sm_congr fun i hi=>by
  by_cases c:s.b i < p.la
  ·exact A_eq c (q i)
  ·rw[hq i hi (by omega),sm_zero (fun k _=>by split <;> split <;> grind)]
   split <;> grind]
 rw[sm_mul,sm_add,sm_comm]
 congr 1
 rw[show(sm p.v fun k=>sm p.m fun i=>p.a r k*((if s.b i=k then q i else 0) - (if s.b i=p.v+k then q i else 0)))=sm p.v fun k=>p.a r k*(wt p.m s q k - wt p.m s q (p.v+k)) from sm_congr fun k _=>by
  rw[sm_mul,sm_sub];rfl]
 rfl
theorem c2_eq (j:Nat) (q:Rat):p.c2 j*q= -sm p.v (fun k=>p.g k*((if j=k then q else 0) - (if j=p.v+k then q else 0))):=by
 unfold Lp.c2
 by_cases c1:j < p.v
 ·rw[if_pos c1,sm_one c1 (fun k hk hkj=>by rw[if_neg (fun e=>hkj e.symm),if_neg (by omega)];grind),if_pos rfl,if_neg (by omega)];grind
 ·rw[if_neg c1]
  by_cases c2:j < 2*p.v
  ·rw[if_pos c2,sm_one (r:=j - p.v) (by omega) (fun k hk hkj=>by rw[if_neg (by omega),if_neg (by omega)];grind),if_neg (by omega),if_pos (by omega)];grind
  ·rw[if_neg c2,sm_zero (fun k hk=>by rw[if_neg (by omega),if_neg (by omega)];grind)];grind
theorem c2_sum {s:St} {q:Nat→Rat}:(sm p.m fun i=>p.c2 (s.b i)*q i)= -sm p.v (fun k=>p.g k*(wt p.m s q k - wt p.m s q (p.v+k))):=by
 rw[show(sm p.m fun i=>p.c2 (s.b i)*q i)=sm p.m fun i=>(-1)*sm p.v (fun k=>p.g k*((if s.b i=k then q i else 0) - (if s.b i=p.v+k then q i else 0))) from sm_congr fun i _=>by rw[c2_eq];grind]
 rw[sm_mul,sm_comm]
 rw[show(sm p.v fun k=>sm p.m fun i=>p.g k*((if s.b i=k then q i else 0) - (if s.b i=p.v+k then q i else 0)))=sm p.v fun k=>p.g k*(wt p.m s q k - wt p.m s q (p.v+k)) from sm_congr fun k _=>by
  rw[sm_mul,sm_sub];rfl]
 grind
end
end X
end Go.Proofs.YtaongbhamadlkaaGreat
