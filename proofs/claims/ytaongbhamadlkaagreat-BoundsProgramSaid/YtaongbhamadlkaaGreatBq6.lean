/- Lemmas for the proof of a law: Contracts: package rat, multiplying and dividing. Conditions: none. -/
import Derived.Test.YtaongbhamadlkaaGreatBq5
set_option linter.unusedVariables false
set_option linter.unusedSimpArgs false
set_option linter.unusedSectionVars false
namespace Go.Proofs.YtaongbhamadlkaaGreat
open W Go.RowKit
theorem mul_raw (a b:Rat):(a*b).num=a.num.tdiv (Nat.gcd a.num.natAbs b.den)*b.num.tdiv (Nat.gcd b.num.natAbs a.den)∧(a*b).den=a.den / (Nat.gcd b.num.natAbs a.den)*(b.den / (Nat.gcd a.num.natAbs b.den)):=by
 constructor
 ·show(Rat.mul a b).num=_
  delta Rat.mul;dsimp only
  simp only[Int.divExact_eq_tdiv]
 ·show(Rat.mul a b).den=_
  delta Rat.mul;dsimp only
  simp only[Nat.divExact_eq_div]
theorem mul_parts (a b:Rat):(a*b).num=(Rat.divInt a.num b.den).num*(Rat.divInt b.num a.den).num∧((a*b).den:Int)=((Rat.divInt a.num b.den).den:Int)*((Rat.divInt b.num a.den).den:Int):=by
 obtain⟨h1,h2⟩:=mul_raw a b
 rw[Rat.divInt_ofNat,Rat.divInt_ofNat,Rat.num_mkRat,Rat.num_mkRat,Rat.den_mkRat,Rat.den_mkRat,if_neg a.den_nz,if_neg b.den_nz,if_neg a.den_nz,if_neg b.den_nz,h1,h2]
 constructor
 ·rw[Int.tdiv_eq_ediv_of_dvd (Int.ofNat_dvd_left.2 (Nat.gcd_dvd_left ..)),Int.tdiv_eq_ediv_of_dvd (Int.ofNat_dvd_left.2 (Nat.gcd_dvd_left ..)),Nat.gcd_comm b.den,Nat.gcd_comm a.den]
 ·rw[Nat.gcd_comm b.den,Nat.gcd_comm a.den,Int.mul_comm,Int.natCast_mul]
theorem mkr_le (n:Int) (d:Nat) (hd:d≠0):(Rat.divInt n d).num.natAbs≤n.natAbs∧(Rat.divInt n d).den≤d:=by
 rw[Rat.divInt_ofNat,Rat.num_mkRat,Rat.den_mkRat,if_neg hd,if_neg hd]
 exact⟨Int.natAbs_ediv_le_natAbs _ _,Nat.div_le_self _ _⟩
theorem mul_int {a b:Rat} (ha:a.den=1) (hb:b.den=1):(a*b).num=a.num*b.num∧(a*b).den=1:=by
 have e:a*b=((a.num*b.num:Int):Rat):=by
  rw[int_rat ha,int_rat hb,Rat.intCast_mul];simp
 rw[e];exact⟨Rat.num_intCast _,Rat.den_intCast _⟩
theorem Sm.inv {b:Rat} (h:Sm b):Sm b⁻¹:=by
 obtain⟨h1,h2⟩:=h
 constructor
 ·rw[Rat.num_inv,Int.natAbs_mul,Int.natAbs_natCast]
  by_cases c:b.num=0
  ·rw[c];simp[digs_0]
  ·rw[Int.natAbs_sign_of_ne_zero c,Nat.one_mul];exact h2
 ·rw[Rat.den_inv]
  split
  ·rw[digs_1 (by decide) (by decide)];decide
  ·exact h1
namespace Rmu
open Dvz Dvv Adc Rtm Rta Rtc
attribute [local irreducible] WC WL WD YO LO LoopEnd W.Fin Scalar SliceT FieldAt Row ArrT AllocT KnS Has W.One SrcE IntT
theorem d31 {G G':Prop} (h:G') (s:Bx G'→G:=by
 intro h
 first|(apply WC.draw (id:=5) [0,1,2,5,6,7] (.held 0 (.held 1 (.held 2 (.held 5 (.held 6 (.held 7 (.more 3 (.more 4 (.more 8 (.more 9 (.more 10 (.loud 11 (.loud 12 (.loud 13 (.done)))) (.loud 11 (.loud 10 (.loud 12 (.loud 13 (.done)))))) (.more 10 (.more 9 (.loud 11 (.loud 12 (.loud 13 (.done)))) (.loud 11 (.loud 9 (.loud 12 (.loud 13 (.done)))))) (.loud 11 (.more 9 (.loud 10 (.loud 12 (.loud 13 (.done)))) (.loud 10 (.loud 9 (.loud 12 (.loud 13 (.done))))))))) (.more 10 (.more 8 (.more 9 (.loud 11 (.loud 12 (.loud 13 (.done)))) (.loud 11 (.loud 9 (.loud 12 (.loud 13 (.done)))))) (.loud 11 (.loud 8 (.loud 9 (.loud 12 (.loud 13 (.done))))))) (.loud 11 (.more 8 (.more 9 (.loud 10 (.loud 12 (.loud 13 (.done)))) (.loud 10 (.loud 9 (.loud 12 (.loud 13 (.done)))))) (.loud 10 (.loud 8 (.loud 9 (.loud 12 (.loud 13 (.done)))))))))) (.more 10 (.more 4 (.more 8 (.more 9 (.loud 11 (.loud 12 (.loud 13 (.done)))) (.loud 11 (.loud 9 (.loud 12 (.loud 13 (.done)))))) (.loud 11 (.loud 8 (.loud 9 (.loud 12 (.loud 13 (.done))))))) (.loud 11 (.loud 4 (.loud 8 (.loud 9 (.loud 12 (.loud 13 (.done)))))))) (.loud 11 (.more 4 (.more 8 (.more 9 (.loud 10 (.loud 12 (.loud 13 (.done)))) (.loud 10 (.loud 9 (.loud 12 (.loud 13 (.done)))))) (.loud 10 (.loud 8 (.loud 9 (.loud 12 (.loud 13 (.done))))))) (.loud 10 (.loud 4 (.loud 8 (.loud 9 (.loud 12 (.loud 13 (.done))))))))))) (.more 10 (.more 3 (.more 4 (.more 8 (.more 9 (.loud 11 (.loud 12 (.loud 13 (.done)))) (.loud 11 (.loud 9 (.loud 12 (.loud 13 (.done)))))) (.loud 11 (.loud 8 (.loud 9 (.loud 12 (.loud 13 (.done))))))) (.loud 11 (.loud 4 (.loud 8 (.loud 9 (.loud 12 (.loud 13 (.done)))))))) (.loud 11 (.loud 3 (.loud 4 (.loud 8 (.loud 9 (.loud 12 (.loud 13 (.done))))))))) (.loud 11 (.more 3 (.more 4 (.more 8 (.more 9 (.loud 10 (.loud 12 (.loud 13 (.done)))) (.loud 10 (.loud 9 (.loud 12 (.loud 13 (.done)))))) (.loud 10 (.loud 8 (.loud 9 (.loud 12 (.loud 13 (.done))))))) (.loud 10 (.loud 4 (.loud 8 (.loud 9 (.loud 12 (.loud 13 (.done)))))))) (.loud 10 (.loud 3 (.loud 4 (.loud 8 (.loud 9 (.loud 12 (.loud 13 (.done)))))))))))))))))) mixed (by kernel_rfl))|(apply WC.draw (id:=6) [0,1,2,3,5,7] (.held 0 (.held 1 (.held 2 (.held 3 (.held 5 (.held 7 (.loud 4 (.loud 6 (.loud 8 (.loud 9 (.loud 10 (.loud 11 (.done))))))))))))) mixed (by kernel_rfl))|fail
 exact Bx.h h):G:=s ⟨h⟩
theorem d173 {G G':Prop} (h:G') (s:Bx G'→G:=by
 intro h
 first|(apply WC.draw (id:=3) [0,1,3,4] (.held 0 (.held 1 (.held 3 (.held 4 (.loud 2 (.loud 5 (.loud 6 (.loud 7 (.done))))))))) mixed (by kernel_rfl))|fail
 exact Bx.h h):G:=s ⟨h⟩
set_option maxHeartbeats 8000000 in
set_option maxRecDepth 8000 in
theorem mul_c (v1 v2:Value) (a b:Rat) (h1:Sm a) (h2:Sm b):FnB Tryz.prog 31 [v1,v2] [] [isQ v1 a,isQ v2 b] (IsQ (a*b)):=by
 refine fn_of [(0,v1),(1,v2)] 59 Tryz.func31 rfl Tryz.ntmps31 (by kernel_rfl) rfl suA fun h0=>?_
 refine WC.openQ (v:=v1) (q:=a) hmA fun n1 d1 d2 hv hb1=>?_
 subst hv
 refine WC.openQ (v:=v2) (q:=b) hmA fun n2 d3 d4 hv hb2=>?_
 subst hv
 have ha:=@qz_len a
 have hb:=@qz_len b
 have na:=@num_len a
 have nb:=@num_len b
 obtain⟨s1,s2⟩:=h1
 obtain⟨s3,s4⟩:=h2
 refine WC.fact (isZ (.agg #[.bool n1,d1]) a.num) (hasQ_P hmA) ?_
 refine WC.fact (isZ (.agg #[.bool n2,d3]) b.num) (hasQ_P hmA) ?_
 by_cases c1:a=0
 ·have l1:=na.2 c1
  repeat'(first|refine gM ?_|(refine gI ?_;intro g)|(refine gU ?_;intro v)|refine gN ?_ ?_|refine d31 ?_|fail)
  rw[c1,Rat.zero_mul]
  refine WC.ret ?_
  exact Fin.p [] [isQ (.agg #[.bool false,.slice none 0 0,.bool false,.slice none 0 0]) 0] (ResE.cV rfl rfl meA T.r31 rfl) meA (List.nil_sublist _) (.cons hasQ_0 .nil) ⟨false,_,_,rfl,rfl,rfl,rfl⟩
 have l1:(digs a.num.natAbs).length≠0:=fun h=>c1 (na.1 h)
 by_cases c2:b=0
 ·have l2:=nb.2 c2
  repeat'(first|refine gM ?_|(refine gI ?_;intro g)|(refine gU ?_;intro v)|refine gN ?_ ?_|refine d31 ?_|fail)
  rw[c2,Rat.mul_zero]
  refine WC.ret ?_
  exact Fin.p [] [isQ (.agg #[.bool false,.slice none 0 0,.bool false,.slice none 0 0]) 0] (ResE.cV rfl rfl meA T.r31 rfl) meA (List.nil_sublist _) (.cons hasQ_0 .nil) ⟨false,_,_,rfl,rfl,rfl,rfl⟩
 have l2:(digs b.num.natAbs).length≠0:=fun h=>c2 (nb.1 h)
 by_cases c:a.den=1∧b.den=1
 ·have l3:=ha.2 c.1
  have l4:=hb.2 c.2
  obtain⟨e1,e2⟩:=mul_int c.1 c.2
  repeat'(first|refine gM ?_|(refine gI ?_;intro g)|(refine gU ?_;intro v)|refine gN ?_ ?_|refine d31 ?_|fail)
  first|refine WL.callK (Mlt.mul_c (.agg #[.bool n1,d1]) (.agg #[.bool n2,d3]) a.num b.num (Sm.w s1) (Sm.w s3)) ?_|refine WD.callK (Mlt.mul_c (.agg #[.bool n1,d1]) (.agg #[.bool n2,d3]) a.num b.num (Sm.w s1) (Sm.w s3)) ?_|refine LO.callM (Mlt.mul_c (.agg #[.bool n1,d1]) (.agg #[.bool n2,d3]) a.num b.num (Sm.w s1) (Sm.w s3)) ?_
  rintro _ _ _ ⟨n5,d5,rfl,hb5,rfl,rfl⟩
  simp only[List.nil_append,List.cons_append]
  rw[←e1] at hb5 ⊢
  repeat'(first|refine gM ?_|(refine gI ?_;intro g)|(refine gU ?_;intro v)|refine gN ?_ ?_|refine d31 ?_|fail)
  refine WC.fact (isQ (.agg #[.bool n5,d5,.bool false,.slice none 0 0]) (a*b)) (hasQ_of hb5 (hasZ_d hmA) (by rw[show qz (a*b)=0 by unfold qz;rw[if_pos e2]];simpa [digs_0] using nil0)) ?_
  refine WC.ret ?_
  exact Fin.p [] [isQ (.agg #[.bool n5,d5,.bool false,.slice none 0 0]) (a*b)] (ResE.cV rfl rfl meA T.r31 rfl) meA (List.nil_sublist _) haA ⟨n5,_,_,rfl,hb5,rfl,rfl⟩
 have hsp:(digs (qz a).natAbs).length≠0∨((digs (qz a).natAbs).length=0∧(digs (qz b).natAbs).length≠0):=by
  by_cases c1:a.den=1
  ·exact .inr ⟨ha.2 c1,fun h=>c ⟨c1,hb.1 h⟩⟩
  ·exact .inl fun h=>c1 (ha.1 h)
 have mk1:=fun (n5:Bool) (d5:Value)=>make_c (.agg #[.bool n1,d1]) (.agg #[.bool n5,d5]) a.num (b.den:Int) (Sm.w s1) (Sm.w s4)
 have mk2:=fun (n5:Bool) (d5:Value)=>make_c (.agg #[.bool n2,d3]) (.agg #[.bool n5,d5]) b.num (a.den:Int) (Sm.w s3) (Sm.w s2)
 obtain⟨p1,p2⟩:=mul_parts a b
 obtain⟨x1,x2⟩:=mkr_le a.num b.den b.den_nz
 obtain⟨y1,y2⟩:=mkr_le b.num a.den a.den_nz
 have x3:=Rat.den_nz (Rat.divInt a.num b.den)
 have y3:=Rat.den_nz (Rat.divInt b.num a.den)
 generalize Rat.divInt a.num (b.den:Int)=x at *
 generalize Rat.divInt b.num (a.den:Int)=y at *
 have z1:Lz x.num.natAbs:=(Sm.w s1).le x1
 have z2:Lz x.den:=(Sm.w s4).le x2
 have z3:Lz y.num.natAbs:=(Sm.w s3).le y1
 have z4:Lz y.den:=(Sm.w s2).le y2
 rcases hsp with l3|⟨l3,l4⟩
 all_goals
  repeat'(first|refine gA ?_|(refine goG ?_;intro g)|(refine goV ?_;intro v))
  refine WC.cutP (σ:=Nat×Nat×Nat×Bool×Value×Value×Bool×Value×Value) (fun s=>[(5,ptr s.1),(6,ptr s.2.1),(4,ptr s.2.2.1)])
   (fun s=>[Ow.cells s.2.1 31 [.bool s.2.2.2.2.2.2.1,s.2.2.2.2.2.2.2.1,.bool false,s.2.2.2.2.2.2.2.2],Ow.cells s.1 31 [.bool s.2.2.2.1,s.2.2.2.2.1,.bool false,s.2.2.2.2.2.1],Ow.cells s.2.2.1 31 [.bool false,.slice none 0 0,.bool false,.slice none 0 0]])
   (fun s=>[ge h0,isQ (.agg #[.bool s.2.2.2.1,s.2.2.2.2.1,.bool false,s.2.2.2.2.2.1]) x,isQ (.agg #[.bool s.2.2.2.2.2.2.1,s.2.2.2.2.2.2.2.1,.bool false,s.2.2.2.2.2.2.2.2]) y]) (fun _=>True) ?_ ?_
  ·repeat'(first|refine gM ?_|(refine gI ?_;intro g)|(refine gU ?_;intro v)|refine gN ?_ ?_|refine d31 ?_|fail|((first|refine WL.callK (hv:=?hvQ) (den_c (.agg #[.bool n1,d1,.bool false,d2]) a) ?_|refine WD.callK (hv:=?hvQ) (den_c (.agg #[.bool n1,d1,.bool false,d2]) a) ?_|refine LO.callM (hv:=?hvQ) (den_c (.agg #[.bool n1,d1,.bool false,d2]) a) ?_);(case hvQ=>((repeat(first|exact Evs.nil|(apply Evs.cons;exact rfl)));done));rintro _ _ _ ⟨zb,zd,rfl,zh,rfl,rfl⟩;simp only[List.nil_append,List.cons_append])|((first|refine WL.callK (hv:=?hvQ) (den_c (.agg #[.bool n2,d3,.bool false,d4]) b) ?_|refine WD.callK (hv:=?hvQ) (den_c (.agg #[.bool n2,d3,.bool false,d4]) b) ?_|refine LO.callM (hv:=?hvQ) (den_c (.agg #[.bool n2,d3,.bool false,d4]) b) ?_);(case hvQ=>((repeat(first|exact Evs.nil|(apply Evs.cons;exact rfl)));done));rintro _ _ _ ⟨zb,zd,rfl,zh,rfl,rfl⟩;simp only[List.nil_append,List.cons_append])|((first|refine WL.callK (hv:=?hvQ) (mk1 zb zd) ?_|refine WD.callK (hv:=?hvQ) (mk1 zb zd) ?_|refine LO.callM (hv:=?hvQ) (mk1 zb zd) ?_);(case hvQ=>((repeat(first|exact Evs.nil|(apply Evs.cons;exact rfl)));done));rintro _ _ _ ⟨_,_,_,rfl,_,rfl,rfl⟩;simp only[List.nil_append,List.cons_append])|((first|refine WL.callK (hv:=?hvQ) (mk2 zb zd) ?_|refine WD.callK (hv:=?hvQ) (mk2 zb zd) ?_|refine LO.callM (hv:=?hvQ) (mk2 zb zd) ?_);(case hvQ=>((repeat(first|exact Evs.nil|(apply Evs.cons;exact rfl)));done));rintro _ _ _ ⟨_,_,_,rfl,_,rfl,rfl⟩;simp only[List.nil_append,List.cons_append])|fail)
   all_goals(apply Ex9;refine⟨trivial,?_,?_,?_⟩;(focus(repeat(first|exact Sub.nil _|refine Sub.cons rfl ?_)));(focus(repeat(first|exact SubP.nil _|(apply SubP.cons;(repeat(first|exact Rem.head|apply Rem.tail))))));(focus(repeat(first|exact HasAll.nil|(apply HasAll.cons;exact hsA)))))
  rintro⟨g5,g6,g4,b5,e5,f5,b6,e6,f6⟩ _
  simp only
  refine WC.fact (isZ (.agg #[.bool b5,e5]) x.num) (hasQ_P hmA) ?_
  refine WC.fact (isZ (.agg #[.bool b6,e6]) y.num) (hasQ_P hmA) ?_
  repeat'(first|refine gM ?_|(refine gI ?_;intro g)|(refine gU ?_;intro v)|refine gN ?_ ?_|refine d31 ?_|fail)
  first|refine WL.callK (Mlt.mul_c (.agg #[.bool b5,e5]) (.agg #[.bool b6,e6]) x.num y.num z1 z3) ?_|refine WD.callK (Mlt.mul_c (.agg #[.bool b5,e5]) (.agg #[.bool b6,e6]) x.num y.num z1 z3) ?_|refine LO.callM (Mlt.mul_c (.agg #[.bool b5,e5]) (.agg #[.bool b6,e6]) x.num y.num z1 z3) ?_
  rintro _ _ _ ⟨n7,d7,rfl,hb7,rfl,rfl⟩
  simp only[List.nil_append,List.cons_append]
  repeat'(first|refine gM ?_|(refine gI ?_;intro g)|(refine gU ?_;intro v)|refine gN ?_ ?_|refine d31 ?_|fail)
  first|refine WL.callK (den_c (.agg #[.bool b5,e5,.bool false,f5]) x) ?_|refine WD.callK (den_c (.agg #[.bool b5,e5,.bool false,f5]) x) ?_|refine LO.callM (den_c (.agg #[.bool b5,e5,.bool false,f5]) x) ?_
  rintro _ _ _ ⟨n8,d8,rfl,hb8,rfl,rfl⟩
  simp only[List.nil_append,List.cons_append]
  repeat'(first|refine gM ?_|(refine gI ?_;intro g)|(refine gU ?_;intro v)|refine gN ?_ ?_|refine d31 ?_|fail)
  first|refine WL.callK (den_c (.agg #[.bool b6,e6,.bool false,f6]) y) ?_|refine WD.callK (den_c (.agg #[.bool b6,e6,.bool false,f6]) y) ?_|refine LO.callM (den_c (.agg #[.bool b6,e6,.bool false,f6]) y) ?_
  rintro _ _ _ ⟨n9,d9,rfl,hb9,rfl,rfl⟩
  simp only[List.nil_append,List.cons_append]
  repeat'(first|refine gM ?_|(refine gI ?_;intro g)|(refine gU ?_;intro v)|refine gN ?_ ?_|refine d31 ?_|fail)
  first|refine WL.callK (Mlt.mul_c (.agg #[.bool n8,d8]) (.agg #[.bool n9,d9]) (x.den:Int) (y.den:Int) z2 z4) ?_|refine WD.callK (Mlt.mul_c (.agg #[.bool n8,d8]) (.agg #[.bool n9,d9]) (x.den:Int) (y.den:Int) z2 z4) ?_|refine LO.callM (Mlt.mul_c (.agg #[.bool n8,d8]) (.agg #[.bool n9,d9]) (x.den:Int) (y.den:Int) z2 z4) ?_
  rintro _ _ _ ⟨n10,d10,rfl,hb10,rfl,rfl⟩
  simp only[List.nil_append,List.cons_append]
  repeat'(first|refine gM ?_|(refine gI ?_;intro g)|(refine gU ?_;intro v)|refine gN ?_ ?_|refine d31 ?_|fail)
  first|refine WL.callK (lowest_c (.agg #[.bool n7,d7]) (.agg #[.bool n10,d10]) (x.num*y.num) ((x.den:Int)*(y.den:Int)) (a*b) (by rw[←p2];have:=(a*b).den_nz;omega) (by rw[←p2,if_neg (by omega)];exact p1) (by rw[←p2];simp)) ?_|refine WD.callK (lowest_c (.agg #[.bool n7,d7]) (.agg #[.bool n10,d10]) (x.num*y.num) ((x.den:Int)*(y.den:Int)) (a*b) (by rw[←p2];have:=(a*b).den_nz;omega) (by rw[←p2,if_neg (by omega)];exact p1) (by rw[←p2];simp)) ?_|refine LO.callM (lowest_c (.agg #[.bool n7,d7]) (.agg #[.bool n10,d10]) (x.num*y.num) ((x.den:Int)*(y.den:Int)) (a*b) (by rw[←p2];have:=(a*b).den_nz;omega) (by rw[←p2,if_neg (by omega)];exact p1) (by rw[←p2];simp)) ?_
  rintro _ _ _ ⟨n11,d11,d12,rfl,hb11,rfl,rfl⟩
  simp only[List.nil_append,List.cons_append]
  repeat'(first|refine gM ?_|(refine gI ?_;intro g)|(refine gU ?_;intro v)|refine gN ?_ ?_|refine d31 ?_|fail)
  refine WC.ret ?_
  exact Fin.p [] [isQ (.agg #[.bool n11,d11,.bool false,d12]) (a*b)] (ResE.cV rfl rfl meA T.r31 rfl) meA (List.nil_sublist _) haA ⟨n11,_,_,rfl,hb11,rfl,rfl⟩
set_option maxHeartbeats 8000000 in
set_option maxRecDepth 8000 in
theorem div_c (v1 v2:Value) (a b:Rat) (h1:Sm a) (h2:Sm b):FnB Tryz.prog 173 [v1,v2] [] [isQ v1 a,isQ v2 b] (IsQ (a / b)):=by
 refine fn_of [(0,v1),(1,v2)] 18 Tryz.func173 rfl Tryz.ntmps173 (by kernel_rfl) rfl suA fun h0=>?_
 refine WC.openQ (v:=v1) (q:=a) hmA fun n1 d1 d2 hv hb1=>?_
 subst hv
 refine WC.openQ (v:=v2) (q:=b) hmA fun n2 d3 d4 hv hb2=>?_
 subst hv
 have nb:=@num_len b
 refine WC.fact (isZ (.agg #[.bool n2,d3]) b.num) (hasQ_P hmA) ?_
 by_cases c2:b=0
 ·have l2:=nb.2 c2
  repeat'(first|refine gB ?_|(refine gH ?_;intro g)|(refine gW ?_;intro v)|refine d173 ?_|fail)
  rw[c2,Rat.div_def,Rat.inv_zero,Rat.mul_zero]
  refine WC.ret ?_
  exact Fin.p [] [isQ (.agg #[.bool false,.slice none 0 0,.bool false,.slice none 0 0]) 0] (ResE.cV rfl rfl meA T.r31 rfl) meA (List.nil_sublist _) (.cons hasQ_0 .nil) ⟨false,_,_,rfl,rfl,rfl,rfl⟩
 have l2:(digs b.num.natAbs).length≠0:=fun h=>c2 (nb.1 h)
 have hbn:b.num≠0:=fun h=>c2 (Rat.num_eq_zero.1 h)
 repeat'(first|refine gB ?_|(refine gH ?_;intro g)|(refine gW ?_;intro v)|refine d173 ?_|fail)
 first|refine WL.callK (den_c (.agg #[.bool n2,d3,.bool false,d4]) b) ?_|refine WD.callK (den_c (.agg #[.bool n2,d3,.bool false,d4]) b) ?_|refine LO.callM (den_c (.agg #[.bool n2,d3,.bool false,d4]) b) ?_
 rintro _ _ _ ⟨n8,d8,rfl,hb8,rfl,rfl⟩
 simp only[List.nil_append,List.cons_append]
 repeat'(first|refine gB ?_|(refine gH ?_;intro g)|(refine gW ?_;intro v)|refine d173 ?_|fail)
 first|refine WL.callK (lowest_c (.agg #[.bool n8,d8]) (.agg #[.bool n2,d3]) (b.den:Int) b.num b⁻¹ hbn (by rw[Rat.num_inv];split;rw[Int.sign_eq_neg_one_of_neg (by assumption)];omega;rw[Int.sign_eq_one_of_pos (by omega)];omega) (by rw[Rat.den_inv,if_neg hbn])) ?_|refine WD.callK (lowest_c (.agg #[.bool n8,d8]) (.agg #[.bool n2,d3]) (b.den:Int) b.num b⁻¹ hbn (by rw[Rat.num_inv];split;rw[Int.sign_eq_neg_one_of_neg (by assumption)];omega;rw[Int.sign_eq_one_of_pos (by omega)];omega) (by rw[Rat.den_inv,if_neg hbn])) ?_|refine LO.callM (lowest_c (.agg #[.bool n8,d8]) (.agg #[.bool n2,d3]) (b.den:Int) b.num b⁻¹ hbn (by rw[Rat.num_inv];split;rw[Int.sign_eq_neg_one_of_neg (by assumption)];omega;rw[Int.sign_eq_one_of_pos (by omega)];omega) (by rw[Rat.den_inv,if_neg hbn])) ?_
 rintro _ _ _ ⟨n9,d9,e9,rfl,hb9,rfl,rfl⟩
 simp only[List.nil_append,List.cons_append]
 repeat'(first|refine gB ?_|(refine gH ?_;intro g)|(refine gW ?_;intro v)|refine d173 ?_|fail)
 first|refine WL.callK (mul_c (.agg #[.bool n1,d1,.bool false,d2]) (.agg #[.bool n9,d9,.bool false,e9]) a b⁻¹ h1 h2.inv) ?_|refine WD.callK (mul_c (.agg #[.bool n1,d1,.bool false,d2]) (.agg #[.bool n9,d9,.bool false,e9]) a b⁻¹ h1 h2.inv) ?_|refine LO.callM (mul_c (.agg #[.bool n1,d1,.bool false,d2]) (.agg #[.bool n9,d9,.bool false,e9]) a b⁻¹ h1 h2.inv) ?_
 rintro _ _ _ ⟨n11,d11,d12,rfl,hb11,rfl,rfl⟩
 simp only[List.nil_append,List.cons_append]
 rw[←Rat.div_def] at hb11 ⊢
 repeat'(first|refine gB ?_|(refine gH ?_;intro g)|(refine gW ?_;intro v)|refine d173 ?_|fail)
 refine WC.ret ?_
 exact Fin.p [] [isQ (.agg #[.bool n11,d11,.bool false,d12]) (a / b)] (ResE.cV rfl rfl meA T.r31 rfl) meA (List.nil_sublist _) haA ⟨n11,_,_,rfl,hb11,rfl,rfl⟩
end Rmu
end Go.Proofs.YtaongbhamadlkaaGreat
namespace Go.Proofs.YtaongbhamadlkaaGreat
open W Go.RowKit
theorem ints_snoc {l:List Int} {x:Int}:ints l++[Value.int .i64 x]=ints (l++[x]):=by simp[ints]
theorem YO.nrem {P:Program} {e:Env} {bx:List Ow} {F:List Fct} {ty t t':TypeId} {x y:Operand} {m:Nat} {j:Int} (hx:ev e x=some (.int .i64 (-(m:Int)))) (hy:ev e y=some (.int .i64 j)) (h2:0 < j):YO P (.binOp .rem t x y t') ty e bx F (.int .i64 (-((m:Int) % j))):=by
 have:=YO.trem (P:=P) (bx:=bx) (F:=F) (ty:=ty) (t:=t) (t':=t') hx hy (by omega)
 rwa [Int.neg_tmod,Int.tmod_eq_emod_of_nonneg (by omega)] at this
theorem YO.nquo {P:Program} {e:Env} {bx:List Ow} {F:List Fct} {ty t t':TypeId} {x y:Operand} {m:Nat} {j:Int} (hx:ev e x=some (.int .i64 (-(m:Int)))) (hy:ev e y=some (.int .i64 j)) (h2:0 < j) (h3:m≤9223372036854775808):YO P (.binOp .quo t x y t') ty e bx F (.int .i64 (-((m:Int) / j))):=by
 have:=YO.tquo (P:=P) (bx:=bx) (F:=F) (ty:=ty) (t:=t) (t':=t') hx hy (by omega)
 have h4:(m:Int) / j≤m:=Int.ediv_le_self _ (by omega)
 have h5:0≤(m:Int) / j:=Int.ediv_nonneg (by omega) (by omega)
 rwa [Int.neg_tdiv,Int.tdiv_eq_ediv_of_nonneg (by omega),wrap_i64 (by omega) (by omega)] at this
namespace Rm
open Dvz Dvv Adc
attribute [local irreducible] WC WL WD YO LO LoopEnd W.Fin Scalar SliceT FieldAt Row ArrT AllocT KnS Has W.One SrcE IntT
theorem d174 {G G':Prop} (h:G') (s:Bx G'→G:=by
 intro h
 first|(apply WC.draw (id:=8) [0,1,2,3,4,5,6,7,8] (.held 0 (.held 1 (.held 2 (.held 3 (.held 4 (.held 5 (.held 6 (.held 7 (.held 8 (.done)))))))))) mixed (by kernel_rfl))|(apply WC.draw (id:=10) [0,1,2,3,4,5,6,7,8] (.held 0 (.held 1 (.held 2 (.held 3 (.held 4 (.held 5 (.held 6 (.held 7 (.held 8 (.done)))))))))) mixed (by kernel_rfl))|fail
 exact Bx.h h):G:=s ⟨h⟩
theorem goB {G G':Prop} (h:G') (s:Bx G'→G:=by
 intro h
 first
  |(apply WL.k_rem;(apply YO.nrem;exact rfl;exact rfl;omega);exact rfl;exact rfl)
  |(apply WL.k_quo;(apply YO.nquo;exact rfl;exact rfl;omega;omega);exact rfl;exact rfl)
  |(apply WL.k_slice;(apply YO.slice;(first|exact T.s22|exact T.s23|exact T.s24|exact T.s48|exact T.s72|exact T.s86|exact T.s129|exact T.s131);exact rfl;exact knA;exact Or.inl ⟨rfl,rfl⟩;exact Or.inr ⟨_,rfl,rfl⟩;omega;omega);exact rfl;exact rfl)
  |(apply WL.k_mul;(apply YO.mul;exact rfl;exact rfl;omega;omega);exact rfl;exact rfl)
 exact Bx.h h):G:=s ⟨h⟩
set_option maxHeartbeats 4000000 in
set_option maxRecDepth 8000 in
theorem normal_c (u:Value) (nb:Bool) (l:List Int) (z:Int) (hd:Dg l) (hz:z.natAbs=(val l).toNat) (hb:val l≠0→nb=decide (z < 0)):FnB Tryz.prog 146 [.bool nb,u] [] [sI u l] (IsZ z):=by
 refine fn_of [(0,(.bool nb)),(1,u)] 29 Tryz.func146 rfl Tryz.ntmps146 (by kernel_rfl) rfl suA fun h0=>?_
 refine WC.lenI u l hmA fun hlen=>?_
 have hv0:=val_nonneg hd
 repeat'(first|refine gA ?_|(refine goG ?_;intro g)|(refine goV ?_;intro v))
 refine WC.lp (σ:=Nat) (fun n=>[(5,.int .i64 (n:Int)),(0,.bool nb),(1,u),(4,ptr g)]) (fun _=>[Ow.cells g 29 [.bool false,.slice none 0 0]]) (fun _=>[ge h0,sI u l]) (fun n=>n≤l.length∧∀ j,n≤j→j < l.length→l.getD j 0=0) (fun n=>n) l.length ⟨by simp,fun j h1 h2=>by omega⟩ ?_
 rintro n ⟨hn,hzr⟩
 by_cases h:0 < n
 ·have e0:max ((n:Int) - 1) 0=(n:Int) - 1:=by omega
  have e1:(max ((n:Int) - 1) 0).toNat=n - 1:=by omega
  have hm1:0≤max ((n:Int) - 1) 0:=by omega
  have hm2:max ((n:Int) - 1) 0 < l.length:=by omega
  by_cases h2:l.getD (n - 1) 0=0
  ·have h3:l.getD (max ((n:Int) - 1) 0).toNat 0=0:=by rw[e1];exact h2
   repeat'(first|refine gA ?_|(refine goG ?_;intro g)|(refine goV ?_;intro v))
   exact LoopEnd.mk (n - 1) ⟨by omega,fun j h4 h5=>if hj:j=n - 1 then hj ▸ h2 else hzr j (by omega) h5⟩ (by omega) (by rw[show((n - 1:Nat):Int)=(n:Int) - 1 by omega];exact suA)
  ·have h3:l.getD (max ((n:Int) - 1) 0).toNat 0≠0:=by rw[e1];exact h2
   have hc:=cut_digs hd hn hzr (fun _=>h2)
   have hvne:val l≠0:=fun hv=>by
    rw[hv] at hc
    have:(l.take n).length=n:=by simp;omega
    rw[hc] at this
    simp[digs_0] at this;omega
   repeat'(first|refine gA ?_|(refine goG ?_;intro g)|(refine goV ?_;intro v))
   refine WL.fact' (sI (resl u 0 n 1) (l.take n)) (Has.takeI hmA hn) ?_
   rw[hc,←hz]
   repeat'(first|refine gA ?_|(refine goG ?_;intro g)|(refine goV ?_;intro v))
   refine WC.fact (isZ (.agg #[.bool nb,resl u 0 n 1]) z) (hasZ_of (hb hvne) hmA) ?_
   refine WC.ret ?_
   exact Fin.p [] [isZ (.agg #[.bool nb,resl u 0 n 1]) z] (ResE.cV rfl rfl meA T.r29 rfl) meA (List.nil_sublist _) haA ⟨nb,_,rfl,hb hvne,rfl,rfl⟩
 ·obtain rfl:n=0:=by omega
  have hv:val l=0:=by
   have:=val_take_zero hn hzr
   simpa [val] using this.symm
  have hz0:z=0:=by rw[hv] at hz;simp at hz;exact hz
  subst hz0
  repeat'(first|refine gA ?_|(refine goG ?_;intro g)|(refine goV ?_;intro v))
  refine WC.ret ?_
  exact Fin.p [] [isZ (.agg #[.bool false,.slice none 0 0]) 0] (ResE.cV rfl rfl meA T.r29 rfl) meA (List.nil_sublist _) (.cons hasZ_0 .nil) ⟨false,_,rfl,rfl,rfl,rfl⟩
theorem of_step {d:List Int} {m n:Nat} (hd:Dg d) (hv:val d+BB ^ d.length*(m:Int)=n):Dg (d++[((m:Int) % 1000000000)])∧val (d++[((m:Int) % 1000000000)])+BB ^ (d++[((m:Int) % 1000000000)]).length*((m / 1000000000:Nat):Int)=n:=by
 refine⟨hd.snoc ⟨by omega,by show _ < (1000000000:Int);omega⟩,?_⟩
 rw[val_snoc,List.length_append,List.length_singleton,pow_s,←hv]
 have h:(m:Int)=(m:Int) % 1000000000+1000000000*((m / 1000000000:Nat):Int):=by omega
 conv=>rhs;rw[h,Int.mul_add]
 rw[Int.mul_assoc]
 show _+_+_*(1000000000*_)=_
 omega
set_option maxHeartbeats 4000000 in
set_option maxRecDepth 8000 in
theorem rof_c (n:Int) (h1:-9223372036854775808≤n) (h2:n≤9223372036854775807):FnB Tryz.prog 91 [.int .i64 n] [] [] (IsZ n):=by
 refine fn_of [(0,(.int .i64 n))] 25 Tryz.func91 rfl Tryz.ntmps91 (by kernel_rfl) rfl suA fun h0=>?_
 by_cases c:n < 0
 ·have hdn:=decide_eq_true c
  repeat'(first|refine gA ?_|(refine goG ?_;intro g)|(refine goV ?_;intro v))
  refine WC.addNil 3 1 ?_
  refine WC.lp (σ:=Nat×List Int×Value) (fun s=>[(0,.int .i64 (-(s.1:Int))),(3,s.2.2),(4,.bool true),(2,ptr g)]) (fun s=>[Ow.slice s.2.2 3 1 (ints s.2.1),Ow.cells g 29 [.bool false,.slice none 0 0]]) (fun _=>[ge h0])
   (fun s=>s.1≤n.natAbs∧Dg s.2.1∧val s.2.1+BB ^ s.2.1.length*(s.1:Int)=(n.natAbs:Nat)∧s.2.1.length+(digs s.1).length≤3) (fun s=>s.1) (n.natAbs,[],.slice none 0 0) ⟨Nat.le_refl _,.nil,by simp[val],by simpa using digs_len_le (k:=3) (n:=n.natAbs) (by omega)⟩ ?_ (by rw[show -(((n.natAbs,([]:List Int),Value.slice none 0 0).1:Nat):Int)=n by show -((n.natAbs:Nat):Int)=n;omega];exact suA)
  rintro⟨m,d,w⟩ ⟨hm,hd,hv,hl⟩
  simp only at hm hd hv hl ⊢
  by_cases hm0:m=0
  ·subst hm0
   have hval:val d=(n.natAbs:Nat):=by simpa using hv
   repeat'(first|refine gA ?_|(refine goG ?_;intro g)|(refine goV ?_;intro v))
   refine WL.freezeI (l:=d) (v:=w) (el:=3) (by repeat(first|exact Sel.head|apply Sel.tail)) ?_
   first|refine WL.callK (normal_c w true d n hd (by rw[hval];simp) (fun _=>by rw[eq_comm];simp only[decide_eq_true_eq,decide_eq_false_iff_not];exact c)) ?_|refine WD.callK (normal_c w true d n hd (by rw[hval];simp) (fun _=>by rw[eq_comm];simp only[decide_eq_true_eq,decide_eq_false_iff_not];exact c)) ?_|refine LO.callM (normal_c w true d n hd (by rw[hval];simp) (fun _=>by rw[eq_comm];simp only[decide_eq_true_eq,decide_eq_false_iff_not];exact c)) ?_
   rintro _ _ _ ⟨nb,e,rfl,hb,rfl,rfl⟩
   simp only[List.nil_append,List.cons_append]
   repeat'(first|refine gA ?_|(refine goG ?_;intro g)|(refine goV ?_;intro v))
   refine WC.ret ?_
   exact Fin.p [] [isZ (.agg #[.bool nb,e]) n] (ResE.cV rfl rfl meA T.r29 rfl) meA (List.nil_sublist _) haA ⟨nb,_,rfl,hb,rfl,rfl⟩
  ·have hst:=of_step (m:=m) hd hv
   have hdl:(digs m).length=(digs (m / 1000000000)).length+1:=by rw[digs_pos hm0];rfl
   have hdiv:m / 1000000000 < m:=Nat.div_lt_self (by omega) (by decide)
   have eq1:((m / 1000000000:Nat):Int)=(m:Int) / 1000000000:=by simp
   by_cases hr:(m:Int) % 1000000000=0
   ·rw[hr] at hst
    have hr2:-((m:Int) % 1000000000)=0:=by omega
    repeat'(first|refine gA ?_|(refine goG ?_;intro g)|(refine goV ?_;intro v))
    rw[hr2,ints_snoc]
    exact LoopEnd.mk (m / 1000000000,_,_) ⟨by show m / 1000000000≤_;omega,hst.1,hst.2,by simp only[List.length_append,List.length_singleton];omega⟩ (by show m / 1000000000 < m;exact hdiv) (by simp only[eq1];exact suA)
   ·have hr2:- -((m:Int) % 1000000000)=(m:Int) % 1000000000:=by omega
    repeat'(first|refine gA ?_|(refine goG ?_;intro g)|(refine goV ?_;intro v))
    rw[hr2,ints_snoc]
    exact LoopEnd.mk (m / 1000000000,_,_) ⟨by show m / 1000000000≤_;omega,hst.1,hst.2,by simp only[List.length_append,List.length_singleton];omega⟩ (by show m / 1000000000 < m;exact hdiv) (by simp only[eq1];exact suA)
 ·have hdn:=decide_eq_false c
  repeat'(first|refine gA ?_|(refine goG ?_;intro g)|(refine goV ?_;intro v))
  refine WC.addNil 3 1 ?_
  refine WC.lp (σ:=Nat×List Int×Value) (fun s=>[(0,.int .i64 ((s.1:Int))),(3,s.2.2),(4,.bool false),(2,ptr g)]) (fun s=>[Ow.slice s.2.2 3 1 (ints s.2.1),Ow.cells g 29 [.bool false,.slice none 0 0]]) (fun _=>[ge h0])
   (fun s=>s.1≤n.natAbs∧Dg s.2.1∧val s.2.1+BB ^ s.2.1.length*(s.1:Int)=(n.natAbs:Nat)∧s.2.1.length+(digs s.1).length≤3) (fun s=>s.1) (n.natAbs,[],.slice none 0 0) ⟨Nat.le_refl _,.nil,by simp[val],by simpa using digs_len_le (k:=3) (n:=n.natAbs) (by omega)⟩ ?_ (by rw[show(((n.natAbs,([]:List Int),Value.slice none 0 0).1:Nat):Int)=n by show((n.natAbs:Nat):Int)=n;omega];exact suA)
  rintro⟨m,d,w⟩ ⟨hm,hd,hv,hl⟩
  simp only at hm hd hv hl ⊢
  by_cases hm0:m=0
  ·subst hm0
   have hval:val d=(n.natAbs:Nat):=by simpa using hv
   repeat'(first|refine gA ?_|(refine goG ?_;intro g)|(refine goV ?_;intro v))
   refine WL.freezeI (l:=d) (v:=w) (el:=3) (by repeat(first|exact Sel.head|apply Sel.tail)) ?_
   first|refine WL.callK (normal_c w false d n hd (by rw[hval];simp) (fun _=>by rw[eq_comm];simp only[decide_eq_true_eq,decide_eq_false_iff_not];exact c)) ?_|refine WD.callK (normal_c w false d n hd (by rw[hval];simp) (fun _=>by rw[eq_comm];simp only[decide_eq_true_eq,decide_eq_false_iff_not];exact c)) ?_|refine LO.callM (normal_c w false d n hd (by rw[hval];simp) (fun _=>by rw[eq_comm];simp only[decide_eq_true_eq,decide_eq_false_iff_not];exact c)) ?_
   rintro _ _ _ ⟨nb,e,rfl,hb,rfl,rfl⟩
   simp only[List.nil_append,List.cons_append]
   repeat'(first|refine gA ?_|(refine goG ?_;intro g)|(refine goV ?_;intro v))
   refine WC.ret ?_
   exact Fin.p [] [isZ (.agg #[.bool nb,e]) n] (ResE.cV rfl rfl meA T.r29 rfl) meA (List.nil_sublist _) haA ⟨nb,_,rfl,hb,rfl,rfl⟩
  ·have hst:=of_step (m:=m) hd hv
   have hdl:(digs m).length=(digs (m / 1000000000)).length+1:=by rw[digs_pos hm0];rfl
   have hdiv:m / 1000000000 < m:=Nat.div_lt_self (by omega) (by decide)
   have eq1:((m / 1000000000:Nat):Int)=(m:Int) / 1000000000:=by simp
   repeat'(first|refine gA ?_|(refine goG ?_;intro g)|(refine goV ?_;intro v))
   rw[ints_snoc]
   exact LoopEnd.mk (m / 1000000000,_,_) ⟨by show m / 1000000000≤_;omega,hst.1,hst.2,by simp only[List.length_append,List.length_singleton];omega⟩ (by show m / 1000000000 < m;exact hdiv) (by simp only[eq1];exact suA)
set_option maxHeartbeats 4000000 in
set_option maxRecDepth 8000 in
theorem digit_c (u:Value) (l:List Int) (k:Nat):FnB Tryz.prog 202 [u,.int .i64 (k:Int)] [] [sI u l] (IsV (.int .i64 (l.getD k 0))):=by
 refine fn_of [(0,u),(1,(.int .i64 (k:Int)))] 13 Tryz.func202 rfl Tryz.ntmps202 (by kernel_rfl) rfl suA fun h0=>?_
 by_cases c:k < l.length
 ·repeat'(first|refine gA ?_|(refine goG ?_;intro g)|(refine goV ?_;intro v))
  refine WC.ret ?_
  exact Fin.v (ResE.t1 rfl rfl) meA rfl
 ·repeat'(first|refine gA ?_|(refine goG ?_;intro g)|(refine goV ?_;intro v))
  refine WC.ret ?_
  exact Fin.v (ResE.t1 rfl rfl) meA (by rw[getD_over (by omega)])
set_option maxHeartbeats 4000000 in
set_option maxRecDepth 8000 in
theorem rcompared_c (u w:Value) (m n:Nat):FnB Tryz.prog 174 [u,w] [] [sI u (digs m),sI w (digs n)] (IsV (.int .i64 (cmpN m n))):=by
 refine fn_of [(0,u),(1,w)] 41 Tryz.func174 rfl Tryz.ntmps174 (by kernel_rfl) rfl suA fun h0=>?_
 obtain⟨a,ha⟩:∃ a,digs m=a:=⟨_,rfl⟩
 obtain⟨b,hb⟩:∃ b,digs n=b:=⟨_,rfl⟩
 have hcl:=fun hl=>@digs_lt_len m n hl
 have hcg:=fun hl=>@digs_lt_len n m hl
 have hlt:=fun k hl=>@digs_cmp_lt m n k hl
 have hgt:=fun k hl=>@digs_cmp_lt n m k hl
 have heq:=fun hl=>@digs_cmp_eq m n hl
 rw[ha] at hcl hcg hlt hgt heq ⊢
 rw[hb] at hcl hcg hlt hgt heq ⊢
 refine WC.lenI u a hmA fun hlen=>?_
 refine WC.lenI w b hmA fun hlen2=>?_
 by_cases c0:a.length=b.length
 ·repeat'(first|refine gB ?_|(refine gH ?_;intro g)|(refine gW ?_;intro v)|refine d174 ?_|fail)
  refine WC.lp (σ:=Nat) (fun k=>[(5,.int .i64 ((k:Int) - 1)),(0,u),(1,w)]) (fun _=>[]) (fun _=>[ge h0,sI u a,sI w b]) (fun k=>k≤a.length∧∀ j,k≤j→j < a.length→a.getD j 0=b.getD j 0) (fun k=>k) a.length ⟨Nat.le_refl _,fun j _ _=>by omega⟩ ?_
  rintro k ⟨hk,hs⟩
  by_cases h:0 < k
  ·have e1:((k:Int) - 1).toNat=k - 1:=by omega
   rcases Int.lt_trichotomy (a.getD (k - 1) 0) (b.getD (k - 1) 0) with c1|c1|c1
   ·have c1':a.getD ((k:Int) - 1).toNat 0 < b.getD ((k:Int) - 1).toNat 0:=by rw[e1];exact c1
    have hv:=cmpN_lt (hlt (k - 1) c0 (by omega) (fun j h4 h5=>hs j (by omega) h5) c1)
    repeat'(first|refine gB ?_|(refine gH ?_;intro g)|(refine gW ?_;intro v)|refine d174 ?_|fail)
    refine WC.ret ?_
    exact Fin.v (ResE.t1 rfl rfl) meA (by rw[hv])
   ·have c1':a.getD ((k:Int) - 1).toNat 0=b.getD ((k:Int) - 1).toNat 0:=by rw[e1];exact c1
    repeat'(first|refine gB ?_|(refine gH ?_;intro g)|(refine gW ?_;intro v)|refine d174 ?_|fail)
    exact LoopEnd.mk (k - 1) ⟨by omega,fun j h4 h5=>if hj:j=k - 1 then hj ▸ c1 else hs j (by omega) h5⟩ (by omega) (by rw[show((k - 1:Nat):Int) - 1=(k:Int) - 1 - 1 by omega];exact suA)
   ·have c1':b.getD ((k:Int) - 1).toNat 0 < a.getD ((k:Int) - 1).toNat 0:=by rw[e1];exact c1
    have hv:=cmpN_gt (hgt (k - 1) c0.symm (by omega) (fun j h4 h5=>(hs j (by omega) (by omega)).symm) c1)
    repeat'(first|refine gB ?_|(refine gH ?_;intro g)|(refine gW ?_;intro v)|refine d174 ?_|fail)
    refine WC.ret ?_
    exact Fin.v (ResE.t1 rfl rfl) meA (by rw[hv])
  ·obtain rfl:k=0:=by omega
   have hmn:=heq c0 fun j hj=>hs j (by omega) hj
   repeat'(first|refine gB ?_|(refine gH ?_;intro g)|(refine gW ?_;intro v)|refine d174 ?_|fail)
   refine WC.ret ?_
   exact Fin.v (ResE.t1 rfl rfl) meA (by rw[hmn,cmpN_eq])
 ·by_cases c2:a.length < b.length
  ·repeat'(first|refine gB ?_|(refine gH ?_;intro g)|(refine gW ?_;intro v)|refine d174 ?_|fail)
   refine WC.ret ?_
   exact Fin.v (ResE.t1 rfl rfl) meA (by rw[cmpN_lt (hcl c2)])
  ·have c3:b.length < a.length:=by omega
   repeat'(first|refine gB ?_|(refine gH ?_;intro g)|(refine gW ?_;intro v)|refine d174 ?_|fail)
   refine WC.ret ?_
   exact Fin.v (ResE.t1 rfl rfl) meA (by rw[cmpN_gt (hcg c3)])
end Rm
end Go.Proofs.YtaongbhamadlkaaGreat
namespace Go.Proofs.YtaongbhamadlkaaGreat
open W Go.RowKit
theorem rplus_step {a b o:List Int} {k:Nat} {c v:Int} (hk:o.length=k) (hd:Dg o) (hv:val o+BB ^ k*c=val (a.take k)+val (b.take k)) (hx:v=a.getD k 0+b.getD k 0+c) (h0:0≤v) :
  Dg (o++[v % 1000000000])∧val (o++[v % 1000000000])+BB ^ (k+1)*(v / 1000000000)=val (a.take (k+1))+val (b.take (k+1)):=by
 refine⟨hd.snoc ⟨by omega,by show _ < (1000000000:Int);omega⟩,?_⟩
 rw[val_snoc,hk,val_take_s,val_take_s,pow_s,Int.mul_assoc]
 have e:BB ^ k*v=BB ^ k*(v % 1000000000)+BB ^ k*(BB*(v / 1000000000)):=by
  rw[←Int.mul_add];congr 1;show v=v % 1000000000+1000000000*(v / 1000000000);omega
 rw[hx,Int.mul_add,Int.mul_add] at e
 rw[←hx] at e
 omega
theorem rminus_step {a b o:List Int} {k:Nat} {c v c':Int} (hk:o.length=k) (hd:Dg o) (hv:val o=val (a.take k) - val (b.take k)+BB ^ k*c) (hx:Dgt v) (he:v=a.getD k 0 - b.getD k 0 - c+BB*c') :
  Dg (o++[v])∧val (o++[v])=val (a.take (k+1)) - val (b.take (k+1))+BB ^ (k+1)*c':=by
 refine⟨hd.snoc hx,?_⟩
 rw[val_snoc,hk,hv,val_take_s,val_take_s,pow_s,he]
 simp only[Int.mul_add,Int.mul_sub,Int.mul_assoc]
 omega
namespace Rn
open Dvz Dvv Adc Rm
attribute [local irreducible] WC WL WD YO LO LoopEnd W.Fin Scalar SliceT FieldAt Row ArrT AllocT KnS Has W.One SrcE IntT
theorem d126 {G G':Prop} (h:G') (s:Bx G'→G:=by
 intro h
 first|(apply WC.draw (id:=9) [0,1,2,3,4,5,6,7,8,9,10,11,12,13,14,15,16,17,18,19,20] (.held 0 (.held 1 (.held 2 (.held 3 (.held 4 (.held 5 (.held 6 (.held 7 (.held 8 (.held 9 (.held 10 (.held 11 (.held 12 (.held 13 (.held 14 (.held 15 (.held 16 (.held 17 (.held 18 (.held 19 (.held 20 (.done)))))))))))))))))))))) mixed (by kernel_rfl))|fail
 exact Bx.h h):G:=s ⟨h⟩
theorem d137 {G G':Prop} (h:G') (s:Bx G'→G:=by
 intro h
 first|(apply WC.draw (id:=2) [0,1,2,3,4,5] (.held 0 (.held 1 (.held 2 (.held 3 (.held 4 (.held 5 (.loud 6 (.loud 7 (.loud 8 (.done)))))))))) mixed (by kernel_rfl))|(apply WC.draw (id:=4) [0,1,2,3,4,5] (.held 0 (.held 1 (.held 2 (.held 3 (.held 4 (.held 5 (.loud 6 (.loud 7 (.loud 8 (.done)))))))))) mixed (by kernel_rfl))|(apply WC.draw (id:=5) [0,1,2,3,4,5] (.held 0 (.held 1 (.held 2 (.held 3 (.held 4 (.held 5 (.loud 6 (.loud 7 (.loud 8 (.done)))))))))) mixed (by kernel_rfl))|fail
 exact Bx.h h):G:=s ⟨h⟩
theorem d182 {G G':Prop} (h:G') (s:Bx G'→G:=by
 intro h
 first|(apply WC.draw (id:=6) [0,1,2,3,4,5,7,8,9,10] (.held 0 (.held 1 (.held 2 (.held 3 (.held 4 (.held 5 (.held 8 (.loud 6 (.held 7 (.held 9 (.held 10 (.done)))))))))))) mixed (by kernel_rfl))|fail
 exact Bx.h h):G:=s ⟨h⟩
theorem YO.bneq2 {e:Env} {bx:List Ow} {F:List Fct} {ty t':TypeId} {x y:Operand} {a b:Bool} (hx:ev e x=some (.bool a)) (hy:ev e y=some (.bool b)):YO Tryz.prog (.binOp .neq 4 x y t') ty e bx F (.bool (!(a == b))):=YO.bne bool_t hx hy
theorem goB {G G':Prop} (h:G') (s:Bx G'→G:=by
 intro h
 first
  |(apply WL.k_mul;(apply YO.mul;exact rfl;exact rfl;omega;omega);exact rfl;exact rfl)
  |(apply WD.k_mul;exact rfl;(apply YO.mul;exact rfl;exact rfl;omega;omega);exact rfl;exact rfl)
  |(apply WD.k_neq;exact rfl;(apply YO.bneq2;exact rfl;exact rfl);exact rfl;exact rfl)
  |(apply WL.k_neq;(apply YO.bneq2;exact rfl;exact rfl);exact rfl;exact rfl)
 exact Bx.h h):G:=s ⟨h⟩
set_option maxHeartbeats 4000000 in
set_option maxRecDepth 8000 in
theorem rplus_c (u w:Value) (a b:List Int) (ha:Dg a) (hb:Dg b) (hl:a.length≤1000000000) (hl2:b.length≤1000000000):FnB Tryz.prog 181 [u,w] [] [sI u a,sI w b] (IsDg (val a+val b) (max a.length b.length+1)):=by
 refine fn_of [(0,u),(1,w)] 42 Tryz.func181 rfl Tryz.ntmps181 (by kernel_rfl) rfl suA fun h0=>?_
 obtain⟨M,hM⟩:∃ M,max a.length b.length=M:=⟨_,rfl⟩
 rw[hM]
 repeat'(first|refine gA ?_|(refine goG ?_;intro g)|(refine goV ?_;intro v))
 refine WC.addNil 3 1 ?_
 refine WC.lp (σ:=Nat×List Int×Int×Value) (fun s=>[(7,.int .i64 (s.1:Int)),(6,.int .i64 s.2.2.1),(5,s.2.2.2),(0,u),(1,w)]) (fun s=>[Ow.slice s.2.2.2 3 1 (ints s.2.1)]) (fun _=>[ge h0,sI u a,sI w b])
  (fun s=>s.1≤M+1∧s.2.1.length=s.1∧(s.2.2.1=0∨s.2.2.1=1)∧Dg s.2.1∧val s.2.1+BB ^ s.1*s.2.2.1=val (a.take s.1)+val (b.take s.1)∧(s.1=M+1→s.2.2.1=0)) (fun s=>2*(M - s.1)+s.2.2.1.toNat) (0,[],0,.slice none 0 0) ⟨by simp,rfl,.inl rfl,.nil,by simp[val],fun h=>rfl⟩ ?_
 rintro⟨k,o,c,v⟩ ⟨hk,ho,hc01,hd,hv,hend⟩
 simp only at hk ho hc01 hd hv hend ⊢
 have h1:0≤a.getD k 0∧a.getD k 0 < 1000000000:=ha.any k
 have h2:0≤b.getD k 0∧b.getD k 0 < 1000000000:=hb.any k
 have hol:o.length≤1000000001:=by omega
 by_cases hgo:k < a.length∨k < b.length∨0 < c
 ·have hst:=rplus_step (a:=a) (b:=b) (o:=o) (k:=k) (c:=c) (v:=a.getD k 0+b.getD k 0+c) ho hd hv rfl (by omega)
  have hq:(a.getD k 0+b.getD k 0+c) / 1000000000=0∨(a.getD k 0+b.getD k 0+c) / 1000000000=1:=by omega
  have hz1:a.length≤k→a.getD k 0=0:=fun h=>getD_over h
  have hz2:b.length≤k→b.getD k 0=0:=fun h=>getD_over h
  have hover:M≤k→(a.getD k 0+b.getD k 0+c) / 1000000000=0:=fun h=>by
   have:=hz1 (by omega)
   have:=hz2 (by omega)
   omega
  have hkM:k≤M:=by
   by_cases h:k=M+1
   ·have:=hend h;omega
   ·omega
  have hsp:k < a.length∨(¬k < a.length∧k < b.length)∨(¬k < a.length∧¬k < b.length∧0 < c):=by omega
  rcases hsp with c1|⟨c1,c2⟩|⟨c1,c2,c3⟩
  all_goals
   repeat'(first|refine gA ?_|(refine goG ?_;intro g)|(refine goV ?_;intro v))
   first|refine WL.callV (digit_c u a k) ?_|refine WD.callV (digit_c u a k) ?_
   repeat'(first|refine gA ?_|(refine goG ?_;intro g)|(refine goV ?_;intro v))
   first|refine WL.callV (digit_c w b k) ?_|refine WD.callV (digit_c w b k) ?_
   repeat'(first|refine gA ?_|(refine goG ?_;intro g)|(refine goV ?_;intro v))
   rw[ints_snoc]
   exact LoopEnd.mk (k+1,_,_,_) ⟨by show k+1≤M+1;omega,by simp[ho],hq,hst.1,hst.2,fun h=>hover (by have h:k+1=M+1:=h;omega)⟩ (by show 2*(M - (k+1))+((a.getD k 0+b.getD k 0+c) / 1000000000).toNat < 2*(M - k)+c.toNat;omega)
 ·have c1:¬k < a.length:=by omega
  have c2:¬k < b.length:=by omega
  have c3:c=0:=by omega
  subst c3
  have hval:val o=val a+val b:=by rw[val_take_over (by omega),val_take_over (by omega)] at hv;simpa using hv
  repeat'(first|refine gA ?_|(refine goG ?_;intro g)|(refine goV ?_;intro v))
  refine WC.freezeI (l:=o) (v:=v) (el:=3) (by repeat(first|exact Sel.head|apply Sel.tail)) ?_
  refine WC.ret ?_
  exact Fin.p [] [sI v o] (ResE.t1 rfl rfl) meA (List.nil_sublist _) haA ⟨_,rfl,rfl,hd,hval,by omega⟩
set_option maxHeartbeats 4000000 in
set_option maxRecDepth 8000 in
theorem rminus_c (u w:Value) (a b:List Int) (ha:Dg a) (hb:Dg b) (hl:a.length≤1000000000) (hl2:b.length≤a.length) (hle:val b≤val a) :
  FnB Tryz.prog 182 [u,w] [] [sI u a,sI w b] (IsDg (val a - val b) a.length):=by
 refine fn_of [(0,u),(1,w)] 34 Tryz.func182 rfl Tryz.ntmps182 (by kernel_rfl) rfl suA fun h0=>?_
 repeat'(first|refine gB ?_|(refine gH ?_;intro g)|(refine gW ?_;intro v)|refine d182 ?_|fail)
 refine WC.addNil 3 1 ?_
 refine WC.lp (σ:=Nat×List Int×Int×Value) (fun s=>[(7,.int .i64 (s.1:Int)),(6,.int .i64 s.2.2.1),(5,s.2.2.2),(0,u),(1,w)]) (fun s=>[Ow.slice s.2.2.2 3 1 (ints s.2.1)]) (fun _=>[ge h0,sI u a,sI w b])
  (fun s=>s.1≤a.length∧s.2.1.length=s.1∧(s.2.2.1=0∨s.2.2.1=1)∧Dg s.2.1∧val s.2.1=val (a.take s.1) - val (b.take s.1)+BB ^ s.1*s.2.2.1) (fun s=>a.length - s.1) (0,[],0,.slice none 0 0) ⟨by simp,rfl,.inl rfl,.nil,by simp[val]⟩ ?_
 rintro⟨k,o,c,v⟩ ⟨hk,ho,hc01,hd,hv⟩
 simp only at hk ho hc01 hd hv ⊢
 by_cases hlt:k < a.length
 ·have h1:0≤a.getD k 0∧a.getD k 0 < 1000000000:=ha.any k
  have h2:0≤b.getD k 0∧b.getD k 0 < 1000000000:=hb.any k
  by_cases hneg:a.getD k 0 - b.getD k 0 - c < 0
  ·have hst:=rminus_step (a:=a) (b:=b) (o:=o) (k:=k) (c:=c) (c':=1) (v:=a.getD k 0 - b.getD k 0 - c+1000000000) ho hd hv ⟨by omega,by show _ < (1000000000:Int);omega⟩ rfl
   repeat'(first|refine gB ?_|(refine gH ?_;intro g)|(refine gW ?_;intro v)|refine d182 ?_|fail)
   first|refine WL.callV (digit_c w b k) ?_|refine WD.callV (digit_c w b k) ?_
   repeat'(first|refine gB ?_|(refine gH ?_;intro g)|(refine gW ?_;intro v)|refine d182 ?_|fail)
   rw[ints_snoc]
   exact LoopEnd.mk (k+1,_,1,_) ⟨by show k+1≤a.length;omega,by simp[ho],.inr rfl,hst.1,hst.2⟩ (by show a.length - (k+1) < a.length - k;omega)
  ·have hst:=rminus_step (a:=a) (b:=b) (o:=o) (k:=k) (c:=c) (c':=0) (v:=a.getD k 0 - b.getD k 0 - c) ho hd hv ⟨by omega,by show _ < (1000000000:Int);omega⟩ (by simp)
   repeat'(first|refine gB ?_|(refine gH ?_;intro g)|(refine gW ?_;intro v)|refine d182 ?_|fail)
   first|refine WL.callV (digit_c w b k) ?_|refine WD.callV (digit_c w b k) ?_
   repeat'(first|refine gB ?_|(refine gH ?_;intro g)|(refine gW ?_;intro v)|refine d182 ?_|fail)
   rw[ints_snoc]
   exact LoopEnd.mk (k+1,_,0,_) ⟨by show k+1≤a.length;omega,by simp[ho],.inl rfl,hst.1,hst.2⟩ (by show a.length - (k+1) < a.length - k;omega)
 ·obtain rfl:k=a.length:=by omega
  have hval:val o=val a - val b:=by
   rw[List.take_length,List.take_of_length_le hl2] at hv
   have h3:=val_lt hd
   rw[ho] at h3
   have hp:=BB_pos a.length
   rcases hc01 with rfl|rfl
   ·simpa using hv
   ·rw[Int.mul_one] at hv;omega
  repeat'(first|refine gB ?_|(refine gH ?_;intro g)|(refine gW ?_;intro v)|refine d182 ?_|fail)
  refine WC.freezeI (l:=o) (v:=v) (el:=3) (by repeat(first|exact Sel.head|apply Sel.tail)) ?_
  refine WC.ret ?_
  exact Fin.p [] [sI v o] (ResE.t1 rfl rfl) meA (List.nil_sublist _) haA ⟨_,rfl,rfl,hd,hval,by omega⟩
theorem tiny_val {n:Nat} (h:n < B2):(digs n).getD 1 0*1000000000+(digs n).getD 0 0=n:=by
 have h':n < 1000000000000000000:=h
 rcases two_cases h with ⟨h1,e⟩|⟨_,e,h2⟩|⟨_,e,h2⟩
 ·rw[e,h1];rfl
 ·rw[e];show(0:Int)*_+_=_;simp
 ·rw[e];show((n / 1000000000:Nat):Int)*1000000000+((n % 1000000000:Nat):Int)=n;omega
set_option maxHeartbeats 4000000 in
set_option maxRecDepth 8000 in
theorem tiny_c (u:Value) (n:Nat) (hn:n < B2):FnB Tryz.prog 194 [u] [] [sI u (digs n)] (IsV (.int .i64 (n:Int))):=by
 refine fn_of [(0,u)] 9 Tryz.func194 rfl Tryz.ntmps194 (by kernel_rfl) rfl suA fun h0=>?_
 have hv:=tiny_val hn
 have h1:0≤(digs n).getD 1 0∧(digs n).getD 1 0 < 1000000000:=(digs_Dg n).any 1
 have h2:0≤(digs n).getD 0 0∧(digs n).getD 0 0 < 1000000000:=(digs_Dg n).any 0
 repeat'(first|refine gA ?_|(refine goG ?_;intro g)|(refine goV ?_;intro v))
 first|refine WL.callV (digit_c u (digs n) 1) ?_|refine WD.callV (digit_c u (digs n) 1) ?_
 repeat'(first|refine gA ?_|(refine goG ?_;intro g)|(refine goV ?_;intro v))
 first|refine WL.callV (digit_c u (digs n) 0) ?_|refine WD.callV (digit_c u (digs n) 0) ?_
 repeat'(first|refine gA ?_|(refine goG ?_;intro g)|(refine goV ?_;intro v))
 rw[hv]
 refine WC.ret ?_
 exact Fin.v (ResE.t1 rfl rfl) meA rfl
set_option maxHeartbeats 4000000 in
set_option maxRecDepth 8000 in
theorem rneg_c (v:Value) (z:Int):FnB Tryz.prog 144 [v] [] [isZ v z] (IsZ (-z)):=by
 refine fn_of [(0,v)] 9 Tryz.func144 rfl Tryz.ntmps144 (by kernel_rfl) rfl suA fun h0=>?_
 refine WC.openZ hmA fun n1 d1 hv hb1=>?_
 subst hv
 refine WC.fact (sI d1 (digs z.natAbs)) (hasZ_d hmA) ?_
 cases n1 with
 |true=>
  have hz:z < 0:=of_decide_eq_true hb1.symm
  repeat'(first|refine gA ?_|(refine goG ?_;intro g)|(refine goV ?_;intro v))
  first|refine WL.callK (normal_c d1 false (digs z.natAbs) (-z) (digs_Dg _) (by rw[val_digs];omega) (fun hne=>by rw[val_digs] at hne;rw[eq_comm];simp only[decide_eq_true_eq,decide_eq_false_iff_not];omega)) ?_|refine WD.callK (normal_c d1 false (digs z.natAbs) (-z) (digs_Dg _) (by rw[val_digs];omega) (fun hne=>by rw[val_digs] at hne;rw[eq_comm];simp only[decide_eq_true_eq,decide_eq_false_iff_not];omega)) ?_|refine LO.callM (normal_c d1 false (digs z.natAbs) (-z) (digs_Dg _) (by rw[val_digs];omega) (fun hne=>by rw[val_digs] at hne;rw[eq_comm];simp only[decide_eq_true_eq,decide_eq_false_iff_not];omega)) ?_
  rintro _ _ _ ⟨nb,d,rfl,hb,rfl,rfl⟩
  simp only[List.nil_append,List.cons_append]
  repeat'(first|refine gA ?_|(refine goG ?_;intro g)|(refine goV ?_;intro v))
  refine WC.ret ?_
  exact Fin.p [] [isZ (.agg #[.bool nb,d]) (-z)] (ResE.cV rfl rfl meA T.r29 rfl) meA (List.nil_sublist _) haA ⟨nb,_,rfl,hb,rfl,rfl⟩
 |false=>
  have hz:¬z < 0:=of_decide_eq_false hb1.symm
  repeat'(first|refine gA ?_|(refine goG ?_;intro g)|(refine goV ?_;intro v))
  first|refine WL.callK (normal_c d1 true (digs z.natAbs) (-z) (digs_Dg _) (by rw[val_digs];omega) (fun hne=>by rw[val_digs] at hne;rw[eq_comm];simp only[decide_eq_true_eq,decide_eq_false_iff_not];omega)) ?_|refine WD.callK (normal_c d1 true (digs z.natAbs) (-z) (digs_Dg _) (by rw[val_digs];omega) (fun hne=>by rw[val_digs] at hne;rw[eq_comm];simp only[decide_eq_true_eq,decide_eq_false_iff_not];omega)) ?_|refine LO.callM (normal_c d1 true (digs z.natAbs) (-z) (digs_Dg _) (by rw[val_digs];omega) (fun hne=>by rw[val_digs] at hne;rw[eq_comm];simp only[decide_eq_true_eq,decide_eq_false_iff_not];omega)) ?_
  rintro _ _ _ ⟨nb,d,rfl,hb,rfl,rfl⟩
  simp only[List.nil_append,List.cons_append]
  repeat'(first|refine gA ?_|(refine goG ?_;intro g)|(refine goV ?_;intro v))
  refine WC.ret ?_
  exact Fin.p [] [isZ (.agg #[.bool nb,d]) (-z)] (ResE.cV rfl rfl meA T.r29 rfl) meA (List.nil_sublist _) haA ⟨nb,_,rfl,hb,rfl,rfl⟩
set_option maxHeartbeats 4000000 in
set_option maxRecDepth 8000 in
theorem radd_c (v1 v2:Value) (x y:Int) (h1:(digs x.natAbs).length≤1000000000) (h2:(digs y.natAbs).length≤1000000000):FnB Tryz.prog 137 [v1,v2] [] [isZ v1 x,isZ v2 y] (IsZ (x+y)):=by
 refine fn_of [(0,v1),(1,v2)] 40 Tryz.func137 rfl Tryz.ntmps137 (by kernel_rfl) rfl suA fun h0=>?_
 refine WC.openZ (v:=v1) (z:=x) hmA fun n1 d1 hv hb1=>?_
 subst hv
 refine WC.openZ (v:=v2) (z:=y) hmA fun n2 d2 hv hb2=>?_
 subst hv
 refine WC.fact (sI d1 (digs x.natAbs)) (hasZ_d hmA) ?_
 refine WC.fact (sI d2 (digs y.natAbs)) (hasZ_d hmA) ?_
 cases n1 with
 |true=>
  have hx:x < 0:=of_decide_eq_true hb1.symm
  cases n2 with
  |true=>
   have hy:y < 0:=of_decide_eq_true hb2.symm
   repeat'(first|refine gB ?_|(refine gH ?_;intro g)|(refine gW ?_;intro v)|refine d137 ?_|fail)
   first|refine WL.callK (rplus_c d1 d2 (digs x.natAbs) (digs y.natAbs) (digs_Dg _) (digs_Dg _) h1 h2) ?_|refine WD.callK (rplus_c d1 d2 (digs x.natAbs) (digs y.natAbs) (digs_Dg _) (digs_Dg _) h1 h2) ?_|refine LO.callM (rplus_c d1 d2 (digs x.natAbs) (digs y.natAbs) (digs_Dg _) (digs_Dg _) h1 h2) ?_
   rintro u _ _ ⟨l,rfl,rfl,hd,hv,hl⟩
   simp only[List.nil_append,List.cons_append]
   rw[val_digs,val_digs] at hv
   repeat'(first|refine gB ?_|(refine gH ?_;intro g)|(refine gW ?_;intro v)|refine d137 ?_|fail)
   first|refine WL.callK (normal_c u true l (x+y) hd (by rw[hv];omega) (fun _=>by rw[eq_comm,decide_eq_true_eq];omega)) ?_|refine WD.callK (normal_c u true l (x+y) hd (by rw[hv];omega) (fun _=>by rw[eq_comm,decide_eq_true_eq];omega)) ?_|refine LO.callM (normal_c u true l (x+y) hd (by rw[hv];omega) (fun _=>by rw[eq_comm,decide_eq_true_eq];omega)) ?_
   rintro _ _ _ ⟨nb,d,rfl,hb,rfl,rfl⟩
   simp only[List.nil_append,List.cons_append]
   repeat'(first|refine gB ?_|(refine gH ?_;intro g)|(refine gW ?_;intro v)|refine d137 ?_|fail)
   refine WC.ret ?_
   exact Fin.p [] [isZ (.agg #[.bool nb,d]) (x+y)] (ResE.cV rfl rfl meA T.r29 rfl) meA (List.nil_sublist _) haA ⟨nb,_,rfl,hb,rfl,rfl⟩
  |false=>
   have hy:¬y < 0:=of_decide_eq_false hb2.symm
   repeat'(first|refine gB ?_|(refine gH ?_;intro g)|(refine gW ?_;intro v)|refine d137 ?_|fail)
   first|refine WL.callV (rcompared_c d1 d2 x.natAbs y.natAbs) ?_|refine WD.callV (rcompared_c d1 d2 x.natAbs y.natAbs) ?_
   by_cases c:x.natAbs < y.natAbs
   ·rw[cmpN_lt c]
    have hlen:(digs x.natAbs).length≤(digs y.natAbs).length:=Nat.le_of_not_lt fun h=>by have:=digs_lt_len h;omega
    repeat'(first|refine gB ?_|(refine gH ?_;intro g)|(refine gW ?_;intro v)|refine d137 ?_|fail)
    first|refine WL.callK (rminus_c d2 d1 (digs y.natAbs) (digs x.natAbs) (digs_Dg _) (digs_Dg _) h2 hlen (by rw[val_digs,val_digs];omega)) ?_|refine WD.callK (rminus_c d2 d1 (digs y.natAbs) (digs x.natAbs) (digs_Dg _) (digs_Dg _) h2 hlen (by rw[val_digs,val_digs];omega)) ?_|refine LO.callM (rminus_c d2 d1 (digs y.natAbs) (digs x.natAbs) (digs_Dg _) (digs_Dg _) h2 hlen (by rw[val_digs,val_digs];omega)) ?_
    rintro u _ _ ⟨l,rfl,rfl,hd,hv,hl⟩
    simp only[List.nil_append,List.cons_append]
    rw[val_digs,val_digs] at hv
    repeat'(first|refine gB ?_|(refine gH ?_;intro g)|(refine gW ?_;intro v)|refine d137 ?_|fail)
    first|refine WL.callK (normal_c u false l (x+y) hd (by rw[hv];omega) (fun _=>by rw[eq_comm,decide_eq_false_iff_not];omega)) ?_|refine WD.callK (normal_c u false l (x+y) hd (by rw[hv];omega) (fun _=>by rw[eq_comm,decide_eq_false_iff_not];omega)) ?_|refine LO.callM (normal_c u false l (x+y) hd (by rw[hv];omega) (fun _=>by rw[eq_comm,decide_eq_false_iff_not];omega)) ?_
    rintro _ _ _ ⟨nb,d,rfl,hb,rfl,rfl⟩
    simp only[List.nil_append,List.cons_append]
    repeat'(first|refine gB ?_|(refine gH ?_;intro g)|(refine gW ?_;intro v)|refine d137 ?_|fail)
    refine WC.ret ?_
    exact Fin.p [] [isZ (.agg #[.bool nb,d]) (x+y)] (ResE.cV rfl rfl meA T.r29 rfl) meA (List.nil_sublist _) haA ⟨nb,_,rfl,hb,rfl,rfl⟩
   ·have hc0:cmpN x.natAbs y.natAbs=0∨cmpN x.natAbs y.natAbs=1:=by
     by_cases c2:y.natAbs < x.natAbs
     ·exact .inr (cmpN_gt c2)
     ·rw[show x.natAbs=y.natAbs by omega];exact .inl (cmpN_eq _)
    have hlen:(digs y.natAbs).length≤(digs x.natAbs).length:=Nat.le_of_not_lt fun h=>by have:=digs_lt_len h;omega
    repeat'(first|refine gB ?_|(refine gH ?_;intro g)|(refine gW ?_;intro v)|refine d137 ?_|fail)
    first|refine WL.callK (rminus_c d1 d2 (digs x.natAbs) (digs y.natAbs) (digs_Dg _) (digs_Dg _) h1 hlen (by rw[val_digs,val_digs];omega)) ?_|refine WD.callK (rminus_c d1 d2 (digs x.natAbs) (digs y.natAbs) (digs_Dg _) (digs_Dg _) h1 hlen (by rw[val_digs,val_digs];omega)) ?_|refine LO.callM (rminus_c d1 d2 (digs x.natAbs) (digs y.natAbs) (digs_Dg _) (digs_Dg _) h1 hlen (by rw[val_digs,val_digs];omega)) ?_
    rintro u _ _ ⟨l,rfl,rfl,hd,hv,hl⟩
    simp only[List.nil_append,List.cons_append]
    rw[val_digs,val_digs] at hv
    repeat'(first|refine gB ?_|(refine gH ?_;intro g)|(refine gW ?_;intro v)|refine d137 ?_|fail)
    first|refine WL.callK (normal_c u true l (x+y) hd (by rw[hv];omega) (fun hne=>by rw[hv] at hne;rw[eq_comm,decide_eq_true_eq];omega)) ?_|refine WD.callK (normal_c u true l (x+y) hd (by rw[hv];omega) (fun hne=>by rw[hv] at hne;rw[eq_comm,decide_eq_true_eq];omega)) ?_|refine LO.callM (normal_c u true l (x+y) hd (by rw[hv];omega) (fun hne=>by rw[hv] at hne;rw[eq_comm,decide_eq_true_eq];omega)) ?_
    rintro _ _ _ ⟨nb,d,rfl,hb,rfl,rfl⟩
    simp only[List.nil_append,List.cons_append]
    repeat'(first|refine gB ?_|(refine gH ?_;intro g)|(refine gW ?_;intro v)|refine d137 ?_|fail)
    refine WC.ret ?_
    exact Fin.p [] [isZ (.agg #[.bool nb,d]) (x+y)] (ResE.cV rfl rfl meA T.r29 rfl) meA (List.nil_sublist _) haA ⟨nb,_,rfl,hb,rfl,rfl⟩
 |false=>
  have hx:¬x < 0:=of_decide_eq_false hb1.symm
  cases n2 with
  |true=>
   have hy:y < 0:=of_decide_eq_true hb2.symm
   repeat'(first|refine gB ?_|(refine gH ?_;intro g)|(refine gW ?_;intro v)|refine d137 ?_|fail)
   first|refine WL.callV (rcompared_c d1 d2 x.natAbs y.natAbs) ?_|refine WD.callV (rcompared_c d1 d2 x.natAbs y.natAbs) ?_
   by_cases c:x.natAbs < y.natAbs
   ·rw[cmpN_lt c]
    have hlen:(digs x.natAbs).length≤(digs y.natAbs).length:=Nat.le_of_not_lt fun h=>by have:=digs_lt_len h;omega
    repeat'(first|refine gB ?_|(refine gH ?_;intro g)|(refine gW ?_;intro v)|refine d137 ?_|fail)
    first|refine WL.callK (rminus_c d2 d1 (digs y.natAbs) (digs x.natAbs) (digs_Dg _) (digs_Dg _) h2 hlen (by rw[val_digs,val_digs];omega)) ?_|refine WD.callK (rminus_c d2 d1 (digs y.natAbs) (digs x.natAbs) (digs_Dg _) (digs_Dg _) h2 hlen (by rw[val_digs,val_digs];omega)) ?_|refine LO.callM (rminus_c d2 d1 (digs y.natAbs) (digs x.natAbs) (digs_Dg _) (digs_Dg _) h2 hlen (by rw[val_digs,val_digs];omega)) ?_
    rintro u _ _ ⟨l,rfl,rfl,hd,hv,hl⟩
    simp only[List.nil_append,List.cons_append]
    rw[val_digs,val_digs] at hv
    repeat'(first|refine gB ?_|(refine gH ?_;intro g)|(refine gW ?_;intro v)|refine d137 ?_|fail)
    first|refine WL.callK (normal_c u true l (x+y) hd (by rw[hv];omega) (fun _=>by rw[eq_comm,decide_eq_true_eq];omega)) ?_|refine WD.callK (normal_c u true l (x+y) hd (by rw[hv];omega) (fun _=>by rw[eq_comm,decide_eq_true_eq];omega)) ?_|refine LO.callM (normal_c u true l (x+y) hd (by rw[hv];omega) (fun _=>by rw[eq_comm,decide_eq_true_eq];omega)) ?_
    rintro _ _ _ ⟨nb,d,rfl,hb,rfl,rfl⟩
    simp only[List.nil_append,List.cons_append]
    repeat'(first|refine gB ?_|(refine gH ?_;intro g)|(refine gW ?_;intro v)|refine d137 ?_|fail)
    refine WC.ret ?_
    exact Fin.p [] [isZ (.agg #[.bool nb,d]) (x+y)] (ResE.cV rfl rfl meA T.r29 rfl) meA (List.nil_sublist _) haA ⟨nb,_,rfl,hb,rfl,rfl⟩
   ·have hc0:cmpN x.natAbs y.natAbs=0∨cmpN x.natAbs y.natAbs=1:=by
     by_cases c2:y.natAbs < x.natAbs
     ·exact .inr (cmpN_gt c2)
     ·rw[show x.natAbs=y.natAbs by omega];exact .inl (cmpN_eq _)
    have hlen:(digs y.natAbs).length≤(digs x.natAbs).length:=Nat.le_of_not_lt fun h=>by have:=digs_lt_len h;omega
    repeat'(first|refine gB ?_|(refine gH ?_;intro g)|(refine gW ?_;intro v)|refine d137 ?_|fail)
    first|refine WL.callK (rminus_c d1 d2 (digs x.natAbs) (digs y.natAbs) (digs_Dg _) (digs_Dg _) h1 hlen (by rw[val_digs,val_digs];omega)) ?_|refine WD.callK (rminus_c d1 d2 (digs x.natAbs) (digs y.natAbs) (digs_Dg _) (digs_Dg _) h1 hlen (by rw[val_digs,val_digs];omega)) ?_|refine LO.callM (rminus_c d1 d2 (digs x.natAbs) (digs y.natAbs) (digs_Dg _) (digs_Dg _) h1 hlen (by rw[val_digs,val_digs];omega)) ?_
    rintro u _ _ ⟨l,rfl,rfl,hd,hv,hl⟩
    simp only[List.nil_append,List.cons_append]
    rw[val_digs,val_digs] at hv
    repeat'(first|refine gB ?_|(refine gH ?_;intro g)|(refine gW ?_;intro v)|refine d137 ?_|fail)
    first|refine WL.callK (normal_c u false l (x+y) hd (by rw[hv];omega) (fun hne=>by rw[hv] at hne;rw[eq_comm,decide_eq_false_iff_not];omega)) ?_|refine WD.callK (normal_c u false l (x+y) hd (by rw[hv];omega) (fun hne=>by rw[hv] at hne;rw[eq_comm,decide_eq_false_iff_not];omega)) ?_|refine LO.callM (normal_c u false l (x+y) hd (by rw[hv];omega) (fun hne=>by rw[hv] at hne;rw[eq_comm,decide_eq_false_iff_not];omega)) ?_
    rintro _ _ _ ⟨nb,d,rfl,hb,rfl,rfl⟩
    simp only[List.nil_append,List.cons_append]
    repeat'(first|refine gB ?_|(refine gH ?_;intro g)|(refine gW ?_;intro v)|refine d137 ?_|fail)
    refine WC.ret ?_
    exact Fin.p [] [isZ (.agg #[.bool nb,d]) (x+y)] (ResE.cV rfl rfl meA T.r29 rfl) meA (List.nil_sublist _) haA ⟨nb,_,rfl,hb,rfl,rfl⟩
  |false=>
   have hy:¬y < 0:=of_decide_eq_false hb2.symm
   repeat'(first|refine gB ?_|(refine gH ?_;intro g)|(refine gW ?_;intro v)|refine d137 ?_|fail)
   first|refine WL.callK (rplus_c d1 d2 (digs x.natAbs) (digs y.natAbs) (digs_Dg _) (digs_Dg _) h1 h2) ?_|refine WD.callK (rplus_c d1 d2 (digs x.natAbs) (digs y.natAbs) (digs_Dg _) (digs_Dg _) h1 h2) ?_|refine LO.callM (rplus_c d1 d2 (digs x.natAbs) (digs y.natAbs) (digs_Dg _) (digs_Dg _) h1 h2) ?_
   rintro u _ _ ⟨l,rfl,rfl,hd,hv,hl⟩
   simp only[List.nil_append,List.cons_append]
   rw[val_digs,val_digs] at hv
   repeat'(first|refine gB ?_|(refine gH ?_;intro g)|(refine gW ?_;intro v)|refine d137 ?_|fail)
   first|refine WL.callK (normal_c u false l (x+y) hd (by rw[hv];omega) (fun _=>by rw[eq_comm,decide_eq_false_iff_not];omega)) ?_|refine WD.callK (normal_c u false l (x+y) hd (by rw[hv];omega) (fun _=>by rw[eq_comm,decide_eq_false_iff_not];omega)) ?_|refine LO.callM (normal_c u false l (x+y) hd (by rw[hv];omega) (fun _=>by rw[eq_comm,decide_eq_false_iff_not];omega)) ?_
   rintro _ _ _ ⟨nb,d,rfl,hb,rfl,rfl⟩
   simp only[List.nil_append,List.cons_append]
   repeat'(first|refine gB ?_|(refine gH ?_;intro g)|(refine gW ?_;intro v)|refine d137 ?_|fail)
   refine WC.ret ?_
   exact Fin.p [] [isZ (.agg #[.bool nb,d]) (x+y)] (ResE.cV rfl rfl meA T.r29 rfl) meA (List.nil_sublist _) haA ⟨nb,_,rfl,hb,rfl,rfl⟩
theorem mu_split {o:List Int} {i k:Nat} (hd:Dg o) (v:Int) (hv:0≤v) (h:v≤999999999999999999):Dgt (v % 1000000000)∧Dgt (v / 1000000000)∧v % 1000000000+BB*(v / 1000000000)=v:=⟨⟨by omega,by show _ < (1000000000:Int);omega⟩,⟨by omega,by show _ < (1000000000:Int);omega⟩,by show _+1000000000*_=_;omega⟩
set_option maxHeartbeats 4000000 in
set_option maxRecDepth 8000 in
theorem rmul_c (v1 v2:Value) (x y:Int) (h1:(digs x.natAbs).length≤1000000000) (h2:(digs y.natAbs).length≤1000000000):FnB Tryz.prog 126 [v1,v2] [] [isZ v1 x,isZ v2 y] (IsZ (x*y)):=by
 refine fn_of [(0,v1),(1,v2)] 76 Tryz.func126 rfl Tryz.ntmps126 (by kernel_rfl) rfl suA fun h0=>?_
 refine WC.openZ (v:=v1) (z:=x) hmA fun n1 d1 hv hb1=>?_
 subst hv
 refine WC.openZ (v:=v2) (z:=y) hmA fun n2 d2 hv hb2=>?_
 subst hv
 refine WC.fact (sI d1 (digs x.natAbs)) (hasZ_d hmA) ?_
 refine WC.fact (sI d2 (digs y.natAbs)) (hasZ_d hmA) ?_
 obtain⟨a,ha⟩:∃ a,digs x.natAbs=a:=⟨_,rfl⟩
 obtain⟨b,hb⟩:∃ b,digs y.natAbs=b:=⟨_,rfl⟩
 have hda:Dg a:=ha ▸ digs_Dg _
 have hdb:Dg b:=hb ▸ digs_Dg _
 have hab:=nabs_mul_val x y
 have hne:=@val_mul_ne x y
 rw[ha] at h1 hab hne ⊢
 rw[hb] at h2 hab hne ⊢
 repeat'(first|refine gB ?_|(refine gH ?_;intro g)|(refine gW ?_;intro v)|refine d126 ?_|fail)
 rename_i g2 g3
 revert g;intro g4
 refine WC.lp (σ:=Nat×List Int) (fun s=>[(6,.int .i64 (s.1:Int)),(5,v),(2,ptr g2),(3,ptr g3),(4,ptr g4)]) (fun s=>[Ow.slice v 3 1 (ints s.2),Ow.cells g4 29 [.bool false,.slice none 0 0],Ow.cells g3 29 [.bool n2,d2],Ow.cells g2 29 [.bool n1,d1]]) (fun _=>[ge h0,sI d1 a,sI d2 b])
  (fun s=>s.1≤a.length∧Mu a b s.2 s.1 0 0) (fun s=>a.length - s.1) (0,List.replicate (a.length+b.length) 0) ⟨by simp,Mu.z⟩ ?_
 rintro⟨i,o⟩ ⟨hi,hm⟩
 simp only at hi hm ⊢
 have hol:=hm.l
 by_cases hlt:i < a.length
 ·repeat'(first|refine gB ?_|(refine gH ?_;intro g)|(refine gW ?_;intro v)|refine d126 ?_|fail)
  refine WC.lp (σ:=Nat×List Int×Int) (fun s=>[(8,.int .i64 (s.1:Int)),(7,.int .i64 s.2.2),(6,.int .i64 (i:Int)),(5,v),(2,ptr g2),(3,ptr g3),(4,ptr g4)]) (fun s=>[Ow.slice v 3 1 (ints s.2.1),Ow.cells g4 29 [.bool false,.slice none 0 0],Ow.cells g3 29 [.bool n2,d2],Ow.cells g2 29 [.bool n1,d1]]) (fun _=>[ge h0,sI d1 a,sI d2 b])
   (fun s=>s.1≤b.length∧Mu a b s.2.1 i s.1 s.2.2) (fun s=>b.length - s.1) (0,o,0) ⟨by simp,hm⟩ ?_
  rintro⟨k,o2,c⟩ ⟨hk,hm2⟩
  simp only at hk hm2 ⊢
  have hol2:=hm2.l
  by_cases hkl:k < b.length
  ·have hbd:=mu_bd (hm2.d.any (i+k)) (hda.any i) (hdb.any k) hm2.cd
   obtain⟨q1,q2,q3⟩:=mu_split (i:=i) (k:=k) hm2.d (o2.getD (i+k) 0+a.getD i 0*b.getD k 0+c) hbd.1 hbd.2.1
   have hst:=hm2.step hlt hkl q1 q2 q3
   have hx:0≤o2.getD (i+k) 0∧o2.getD (i+k) 0 < 1000000000:=hm2.d.any (i+k)
   have hcd:0≤c∧c < 1000000000:=hm2.cd
   have hP1:0≤a.getD i 0*b.getD k 0:=by omega
   have hP2:a.getD i 0*b.getD k 0≤9223372036854775807:=by omega
   repeat'(first|refine gB ?_|(refine gH ?_;intro g)|(refine gW ?_;intro v)|refine d126 ?_|fail)
   exact LoopEnd.mk (k+1,_,_) ⟨by show k+1≤b.length;omega,hst⟩ (by show b.length - (k+1) < b.length - k;omega)
  ·obtain rfl:k=b.length:=by omega
   repeat'(first|refine gB ?_|(refine gH ?_;intro g)|(refine gW ?_;intro v)|refine d126 ?_|fail)
   exact LoopEnd.mk (i+1,_) ⟨by show i+1≤a.length;omega,hm2.row hlt⟩ (by show a.length - (i+1) < a.length - i;omega)
 ·obtain rfl:i=a.length:=by omega
  obtain⟨h3,h4⟩:=hm.fin
  repeat'(first|refine gB ?_|(refine gH ?_;intro g)|(refine gW ?_;intro v)|refine d126 ?_|fail)
  refine WL.freezeI (l:=o) (v:=v) (el:=3) (by repeat(first|exact Sel.head|apply Sel.tail)) ?_
  first|refine WL.callK (normal_c v (!(n1 == n2)) o (x*y) h3 (by rw[hab,h4]) (fun hxy=>sign_mul hb1 hb2 (hne (by rw[←h4];exact hxy)))) ?_|refine WD.callK (normal_c v (!(n1 == n2)) o (x*y) h3 (by rw[hab,h4]) (fun hxy=>sign_mul hb1 hb2 (hne (by rw[←h4];exact hxy)))) ?_|refine LO.callM (normal_c v (!(n1 == n2)) o (x*y) h3 (by rw[hab,h4]) (fun hxy=>sign_mul hb1 hb2 (hne (by rw[←h4];exact hxy)))) ?_
  rintro _ _ _ ⟨nb,d,rfl,hb,rfl,rfl⟩
  simp only[List.nil_append,List.cons_append]
  repeat'(first|refine gB ?_|(refine gH ?_;intro g)|(refine gW ?_;intro v)|refine d126 ?_|fail)
  refine WC.ret ?_
  exact Fin.p [] [isZ (.agg #[.bool nb,d]) (x*y)] (ResE.cV rfl rfl meA T.r29 rfl) meA (List.nil_sublist _) haA ⟨nb,_,rfl,hb,rfl,rfl⟩
end Rn
end Go.Proofs.YtaongbhamadlkaaGreat
namespace Go.Proofs.YtaongbhamadlkaaGreat
open W Go.RowKit
namespace Ro
open Dvz Dvv Adc Rm Rn
attribute [local irreducible] WC WL WD YO LO LoopEnd W.Fin Scalar SliceT FieldAt Row ArrT AllocT KnS Has W.One SrcE IntT
theorem d195 {G G':Prop} (h:G') (s:Bx G'→G:=by
 intro h
 first|(apply WC.draw (id:=4) [0,1,2,3,4,5] (.held 0 (.held 1 (.held 2 (.held 3 (.held 4 (.held 5 (.done))))))) mixed (by kernel_rfl))|fail
 exact Bx.h h):G:=s ⟨h⟩
theorem goB {G G':Prop} (h:G') (s:Bx G'→G:=by
 intro h
 first
  |(apply WL.k_quo;(apply YO.quo;exact rfl;exact rfl;omega;omega;omega);exact rfl;exact rfl)
  |(apply WD.k_neq;exact rfl;(apply Rn.YO.bneq2;exact rfl;exact rfl);exact rfl;exact rfl)
  |(apply WL.k_neq;(apply Rn.YO.bneq2;exact rfl;exact rfl);exact rfl;exact rfl)
 exact Bx.h h):G:=s ⟨h⟩
def IsLL (m n:Nat):RPost:=fun v b G=>∃ a la c,v=.tuple #[a,c]∧b=[]∧G=[sI a la,sI c (digs n)]∧Dg la∧val la=(m:Int)
set_option maxHeartbeats 4000000 in
set_option maxRecDepth 8000 in
theorem rdivided2_c (u w:Value) (m n:Nat) (hm:m < B2) (hn:n < B2) (h0n:n≠0):FnB Tryz.prog 195 [u,w] [] [sI u (digs m),sI w (digs n)] (IsLL (m / n) (m % n)):=by
 refine fn_of [(0,u),(1,w)] 95 Tryz.func195 rfl Tryz.ntmps195 (by kernel_rfl) rfl suA fun h0=>?_
 have hm':m < 1000000000000000000:=hm
 have hn':n < 1000000000000000000:=hn
 have q1:m / n≤m:=Nat.div_le_self _ _
 have q2:m % n < n:=Nat.mod_lt _ (by omega)
 have e1:(m:Int) / (n:Int)=((m / n:Nat):Int):=by simp
 have e2:(m:Int) % (n:Int)=((m % n:Nat):Int):=by simp
 have l1:(digs m).length≤2:=digs_len_le (k:=2) hm
 have l2:(digs n).length≤2:=digs_len_le (k:=2) hn
 repeat'(first|refine gB ?_|(refine gH ?_;intro g)|(refine gW ?_;intro v)|refine d195 ?_|fail)
 first|refine WL.callV (tiny_c u m hm) ?_|refine WD.callV (tiny_c u m hm) ?_
 repeat'(first|refine gB ?_|(refine gH ?_;intro g)|(refine gW ?_;intro v)|refine d195 ?_|fail)
 first|refine WL.callV (tiny_c w n hn) ?_|refine WD.callV (tiny_c w n hn) ?_
 repeat'(first|refine gB ?_|(refine gH ?_;intro g)|(refine gW ?_;intro v)|refine d195 ?_|fail)
 rw[e1]
 first|refine WL.callK (rof_c ((m / n:Nat):Int) (by generalize m / n=z at *;omega) (by generalize m / n=z at *;omega)) ?_|refine WD.callK (rof_c ((m / n:Nat):Int) (by generalize m / n=z at *;omega) (by generalize m / n=z at *;omega)) ?_|refine LO.callM (rof_c ((m / n:Nat):Int) (by generalize m / n=z at *;omega) (by generalize m / n=z at *;omega)) ?_
 rintro _ _ _ ⟨n1,d1,rfl,hb1,rfl,rfl⟩
 simp only[List.nil_append,List.cons_append]
 repeat'(first|refine gB ?_|(refine gH ?_;intro g)|(refine gW ?_;intro v)|refine d195 ?_|fail)
 first|refine WL.callV (tiny_c u m hm) ?_|refine WD.callV (tiny_c u m hm) ?_
 repeat'(first|refine gB ?_|(refine gH ?_;intro g)|(refine gW ?_;intro v)|refine d195 ?_|fail)
 first|refine WL.callV (tiny_c w n hn) ?_|refine WD.callV (tiny_c w n hn) ?_
 repeat'(first|refine gB ?_|(refine gH ?_;intro g)|(refine gW ?_;intro v)|refine d195 ?_|fail)
 rw[e2]
 first|refine WL.callK (rof_c ((m % n:Nat):Int) (by generalize m % n=z at *;omega) (by generalize m % n=z at *;omega)) ?_|refine WD.callK (rof_c ((m % n:Nat):Int) (by generalize m % n=z at *;omega) (by generalize m % n=z at *;omega)) ?_|refine LO.callM (rof_c ((m % n:Nat):Int) (by generalize m % n=z at *;omega) (by generalize m % n=z at *;omega)) ?_
 rintro _ _ _ ⟨n2,d2,rfl,hb2,rfl,rfl⟩
 simp only[List.nil_append,List.cons_append]
 repeat'(first|refine gB ?_|(refine gH ?_;intro g)|(refine gW ?_;intro v)|refine d195 ?_|fail)
 refine WC.fact (sI d1 (digs (m / n))) (hasZ_dn hmA) ?_
 refine WC.fact (sI d2 (digs (m % n))) (hasZ_dn hmA) ?_
 refine WC.ret ?_
 exact Fin.p [] [sI d1 (digs (m / n)),sI d2 (digs (m % n))] (ResE.t2 rfl rfl rfl) meA (List.nil_sublist _) haA ⟨d1,_,d2,rfl,rfl,rfl,digs_Dg _,val_digs _⟩
set_option maxHeartbeats 4000000 in
set_option maxRecDepth 8000 in
theorem times_c (u:Value) (n k:Nat) (hn:Lz n) (hk:k < 1000000000):FnB Tryz.prog 209 [u,.int .i64 (k:Int)] [] [sI u (digs n)] (fun v B G=>B=[]∧G=[sI v (digs (n*k))]):=by
 refine fn_of [(0,u),(1,(.int .i64 (k:Int)))] 13 Tryz.func209 rfl Tryz.ntmps209 (by kernel_rfl) rfl suA fun h0=>?_
 repeat'(first|refine gA ?_|(refine goG ?_;intro g)|(refine goV ?_;intro v))
 first|refine WL.callK (normal_c u false (digs n) (n:Int) (digs_Dg _) (by rw[val_digs];simp) (fun _=>nneg_dec _)) ?_|refine WD.callK (normal_c u false (digs n) (n:Int) (digs_Dg _) (by rw[val_digs];simp) (fun _=>nneg_dec _)) ?_|refine LO.callM (normal_c u false (digs n) (n:Int) (digs_Dg _) (by rw[val_digs];simp) (fun _=>nneg_dec _)) ?_
 rintro _ _ _ ⟨n1,d1,rfl,hb1,rfl,rfl⟩
 simp only[List.nil_append,List.cons_append]
 repeat'(first|refine gA ?_|(refine goG ?_;intro g)|(refine goV ?_;intro v))
 first|refine WL.callK (rof_c (k:Int) (by omega) (by omega)) ?_|refine WD.callK (rof_c (k:Int) (by omega) (by omega)) ?_|refine LO.callM (rof_c (k:Int) (by omega) (by omega)) ?_
 rintro _ _ _ ⟨n2,d2,rfl,hb2,rfl,rfl⟩
 simp only[List.nil_append,List.cons_append]
 repeat'(first|refine gA ?_|(refine goG ?_;intro g)|(refine goV ?_;intro v))
 first|refine WL.callK (rmul_c (.agg #[.bool n1,d1]) (.agg #[.bool n2,d2]) (n:Int) (k:Int) hn (Lz.of (show k < 1000000000000000000 by omega))) ?_|refine WD.callK (rmul_c (.agg #[.bool n1,d1]) (.agg #[.bool n2,d2]) (n:Int) (k:Int) hn (Lz.of (show k < 1000000000000000000 by omega))) ?_|refine LO.callM (rmul_c (.agg #[.bool n1,d1]) (.agg #[.bool n2,d2]) (n:Int) (k:Int) hn (Lz.of (show k < 1000000000000000000 by omega))) ?_
 rintro _ _ _ ⟨n3,d3,rfl,hb3,rfl,rfl⟩
 simp only[List.nil_append,List.cons_append]
 rw[show(n:Int)*(k:Int)=((n*k:Nat):Int) by simp]
 repeat'(first|refine gA ?_|(refine goG ?_;intro g)|(refine goV ?_;intro v))
 refine WC.fact (sI d3 (digs (n*k))) (hasZ_dn hmA) ?_
 refine WC.ret ?_
 exact Fin.p [] [sI d3 (digs (n*k))] (ResE.t1 rfl rfl) meA (List.nil_sublist _) haA ⟨rfl,rfl⟩
set_option maxHeartbeats 8000000 in
set_option maxRecDepth 8000 in
theorem rdivided_c (u w:Value) (m n:Nat) (hm:Lz m) (hn:Lz n) (h0n:n≠0):FnB Tryz.prog 195 [u,w] [] [sI u (digs m),sI w (digs n)] (IsLL (m / n) (m % n)):=by
 by_cases c0:m < B2∧n < B2
 ·exact rdivided2_c u w m n c0.1 c0.2 h0n
 refine fn_of [(0,u),(1,w)] 95 Tryz.func195 rfl Tryz.ntmps195 (by kernel_rfl) rfl suA fun h0=>?_
 have hsp:2 < (digs m).length∨((digs m).length≤2∧2 < (digs n).length):=by
  by_cases c1:m < B2
  ·have:=three_len (n:=n) (fun h=>c0 ⟨c1,h⟩);omega
  ·have:=three_len c1;omega
 have hst:Sh (digs m) (n:Int) (List.replicate (digs m).length 0) (digs m).length ((0:Nat):Int):=Sh.z0 (by omega)
 have hbig:∀ k,val ((digs m).drop k)≤(m:Int):=fun k=>by
  by_cases h:k≤(digs m).length
  ·have e:=val_cut (digs m) k h
   rw[val_digs] at e
   have h1:=val_nonneg ((digs_Dg m).take k)
   have h2:=val_nonneg ((digs_Dg m).drop k)
   have h3:=BB_pos k
   have h4:=Int.mul_le_mul_of_nonneg_right (show(1:Int)≤BB ^ k by omega) h2
   omega
  ·rw[val_drop0 (by omega)];omega
 have hdm:=digs_Dg m
 have hm0:Lz m:=hm
 generalize hA:digs m=A at *
 have hlA:A.length≤1000000000:=by rw[←hA];exact hm
 rcases hsp with hsp|⟨hsp,hsp2⟩
 all_goals
  repeat'(first|refine gB ?_|(refine gH ?_;intro g)|(refine gW ?_;intro v)|refine d195 ?_|fail)
  revert v;intro vq
  refine WC.lp (σ:=Nat×List Int×Nat×Value) (fun s=>[(10,.int .i64 ((s.1:Int) - 1)),(9,s.2.2.2),(8,vq),(0,u),(1,w),(4,.slice none 0 0),(5,.slice none 0 0)]) (fun s=>[Ow.slice vq 3 1 (ints s.2.1)]) (fun s=>[ge h0,sI u A,sI w (digs n),sI s.2.2.2 (digs s.2.2.1)])
   (fun s=>s.1≤A.length∧Sh A (n:Int) s.2.1 s.1 (s.2.2.1:Int)) (fun s=>s.1) (A.length,List.replicate A.length 0,0,.slice none 0 0) ⟨Nat.le_refl _,hst⟩ ?_ (hG:=.cons hmA (.cons hmA (.cons hmA (.cons (by simpa [digs_0] using nil0) .nil))))
  rintro⟨k,o,r,rv⟩ ⟨hk,hs⟩
  simp only at hk hs ⊢
  have hol:=hs.l
  have hr0:=hs.r0
  match k,hk,hs with
  |k+1,hk,hs=>
   have e1:((k+1:Nat):Int) - 1=(k:Int):=by omega
   rw[e1]
   have hst:=hs.step (by omega) hdm rfl rfl
   have hak:0≤A.getD k 0∧A.getD k 0 < 1000000000:=hdm.any k
   have hrn:r < n:=by omega
   have hr0':=digs_mono (Nat.le_of_lt hrn)
   have hn':(digs n).length≤1000000000:=hn
   repeat'(first|refine gB ?_|(refine gH ?_;intro g)|(refine gW ?_;intro v)|refine d195 ?_|fail)
   revert v;intro v'
   have hv2:∃ R:Nat,(R:Int)=(r:Int)*BB+A.getD k 0:=⟨((r:Int)*BB+A.getD k 0).toNat,by unfold BB;omega⟩
   obtain⟨R,hR⟩:=hv2
   rw[←hR] at hst
   refine WL.freezeI (l:=A.getD k 0::digs r) (v:=v') (el:=3) (by repeat(first|exact Sel.head|apply Sel.tail)) ?_
   have hvl:val (A.getD k 0::digs r)=(R:Int):=by rw[val,val_digs,hR,Int.mul_comm];omega
   first|refine WL.callK (normal_c v' false (A.getD k 0::digs r) (R:Int) (.cons hak (digs_Dg _)) (by rw[hvl];simp) (fun _=>nneg_dec _)) ?_|refine WD.callK (normal_c v' false (A.getD k 0::digs r) (R:Int) (.cons hak (digs_Dg _)) (by rw[hvl];simp) (fun _=>nneg_dec _)) ?_|refine LO.callM (normal_c v' false (A.getD k 0::digs r) (R:Int) (.cons hak (digs_Dg _)) (by rw[hvl];simp) (fun _=>nneg_dec _)) ?_
   rintro _ _ _ ⟨n1,d1,rfl,hb1,rfl,rfl⟩
   simp only[List.nil_append,List.cons_append]
   repeat'(first|refine gB ?_|(refine gH ?_;intro g)|(refine gW ?_;intro v)|refine d195 ?_|fail)
   refine WL.fact' (sI d1 (digs R)) (hasZ_dn hmA) ?_
   first|refine WL.callV (rcompared_c d1 w R n) ?_|refine WD.callV (rcompared_c d1 w R n) ?_
   have hRm:R≤m:=by
    have h1:=hbig k
    have h2:=hs.v
    have h3:=val_drop (l:=A) (j:=k) (by omega)
    have h4:=Int.mul_nonneg (show(0:Int)≤n by omega) (val_nonneg (hs.d.drop (k+1)))
    have h5:=Int.mul_le_mul_of_nonneg_left (show(r:Int)≤val (A.drop (k+1)) by omega) (show(0:Int)≤BB by decide)
    have h6:(r:Int)*BB=BB*(r:Int):=Int.mul_comm ..
    omega
   have hRz:=hm0.le hRm
   have hRB:R < n*(999999999+1):=by
    have h1:=Int.mul_le_mul_of_nonneg_right (show(r:Int)≤n - 1 by omega) (show(0:Int)≤BB by decide)
    rw[Int.sub_mul] at h1
    unfold BB at *;omega
   have hs0:(cmpN R n < 0∧R < n*(0+1))∨0≤cmpN R n:=by
    by_cases h:R < n
    ·left;rw[cmpN_lt h];exact⟨by decide,by omega⟩
    ·right;unfold cmpN;rw[if_neg h];split <;> decide
   rcases hs0 with ⟨c1,c2⟩|c1
   ·repeat'(first|refine gB ?_|(refine gH ?_;intro g)|(refine gW ?_;intro v)|refine d195 ?_|fail)
    refine WC.lp (σ:=Nat×Nat) (fun s=>[(12,.int .i64 (s.1:Int)),(13,.int .i64 (s.2:Int)),(10,.int .i64 (k:Int)),(9,d1),(8,vq),(0,u),(1,w),(4,.slice none 0 0),(5,.slice none 0 0)]) (fun _=>[Ow.slice vq 3 1 (ints o)]) (fun _=>[ge h0,sI u A,sI w (digs n),sI d1 (digs R)])
     (fun s=>s.1≤s.2∧s.2 < 1000000000∧n*s.1≤R∧R < n*(s.2+1)) (fun s=>s.2 - s.1) (0,0) ⟨by decide,by decide,by show n*0≤R;omega,c2⟩ ?_
    rintro⟨lo,hi⟩ ⟨i1,i2,i3,i4⟩
    simp only at i1 i2 i3 i4 ⊢
    by_cases c3:lo < hi
    ·repeat'(first|refine gB ?_|(refine gH ?_;intro g)|(refine gW ?_;intro v)|refine d195 ?_|fail)
     rw[show(((lo+hi:Nat):Int)+1) / 2=(((lo+hi+1) / 2:Nat):Int) by omega]
     have b1:lo < (lo+hi+1) / 2:=by omega
     have b2:(lo+hi+1) / 2≤hi:=by omega
     generalize (lo+hi+1) / 2=mid at *
     refine WL.callK (times_c w n mid hn (by omega)) ?_
     rintro v1 _ _ ⟨rfl,rfl⟩
     simp only[List.nil_append,List.cons_append]
     repeat'(first|refine gB ?_|(refine gH ?_;intro g)|(refine gW ?_;intro v)|refine d195 ?_|fail)
     first|refine WL.callV (rcompared_c v1 d1 (n*mid) R) ?_|refine WD.callV (rcompared_c v1 d1 (n*mid) R) ?_
     by_cases c4:n*mid≤R
     ·have c5:cmpN (n*mid) R≤0:=by unfold cmpN;split;decide;rw[if_neg (by omega)];decide
      repeat'(first|refine gB ?_|(refine gH ?_;intro g)|(refine gW ?_;intro v)|refine d195 ?_|fail)
      exact LoopEnd.mk (mid,hi) ⟨b2,i2,c4,i4⟩ (by show hi - mid < hi - lo;omega)
     ·have c5:¬cmpN (n*mid) R≤0:=by rw[cmpN_gt (by omega)];decide
      repeat'(first|refine gB ?_|(refine gH ?_;intro g)|(refine gW ?_;intro v)|refine d195 ?_|fail)
      rw[show((mid:Nat):Int) - 1=((mid - 1:Nat):Int) by omega]
      exact LoopEnd.mk (lo,mid - 1) ⟨by show lo≤mid - 1;omega,by show mid - 1 < 1000000000;omega,i3,by show R < n*(mid - 1+1);rw[show mid - 1+1=mid by omega];omega⟩ (by show mid - 1 - lo < hi - lo;omega)
    ·obtain rfl:lo=hi:=by omega
     have hdiv:R / n=lo:=Nat.div_eq_of_lt_le (by rw[Nat.mul_comm];exact i3) (by rw[Nat.mul_comm];exact i4)
     have hmod:R % n+n*lo=R:=by rw[←hdiv];exact Nat.mod_add_div R n
     have hm2:R % n < n:=Nat.mod_lt _ (by omega)
     rw[show(R:Int) / (n:Int)=(lo:Int) by rw[←hdiv];simp,show(R:Int) % (n:Int)=((R % n:Nat):Int) by simp] at hst
     repeat'(first|refine gB ?_|(refine gH ?_;intro g)|(refine gW ?_;intro v)|refine d195 ?_|fail)
     refine WL.callK (times_c w n lo hn (by omega)) ?_
     rintro v1 _ _ ⟨rfl,rfl⟩
     simp only[List.nil_append,List.cons_append]
     repeat'(first|refine gB ?_|(refine gH ?_;intro g)|(refine gW ?_;intro v)|refine d195 ?_|fail)
     refine WL.callK (rminus_c d1 v1 (digs R) (digs (n*lo)) (digs_Dg _) (digs_Dg _) hRz (digs_mono i3) (by rw[val_digs,val_digs];omega)) ?_
     rintro v2 _ _ ⟨l2,rfl,rfl,hd2,hv2,hl2⟩
     simp only[List.nil_append,List.cons_append]
     rw[val_digs,val_digs] at hv2
     repeat'(first|refine gB ?_|(refine gH ?_;intro g)|(refine gW ?_;intro v)|refine d195 ?_|fail)
     first|refine WL.callK (normal_c v2 false l2 ((R % n:Nat):Int) hd2 (by rw[hv2];omega) (fun _=>nneg_dec _)) ?_|refine WD.callK (normal_c v2 false l2 ((R % n:Nat):Int) hd2 (by rw[hv2];omega) (fun _=>nneg_dec _)) ?_|refine LO.callM (normal_c v2 false l2 ((R % n:Nat):Int) hd2 (by rw[hv2];omega) (fun _=>nneg_dec _)) ?_
     rintro _ _ _ ⟨n3,d3,rfl,hb3,rfl,rfl⟩
     simp only[List.nil_append,List.cons_append]
     refine WL.fact' (sI d3 (digs (R % n))) (hasZ_dn hmA) ?_
     repeat'(first|refine gB ?_|(refine gH ?_;intro g)|(refine gW ?_;intro v)|refine d195 ?_|fail)
     exact LoopEnd.mk (k,o.set k (lo:Int),R % n,d3) ⟨by show k≤A.length;omega,hst⟩ (by show k < k+1;omega)
   ·repeat'(first|refine gB ?_|(refine gH ?_;intro g)|(refine gW ?_;intro v)|refine d195 ?_|fail)
    refine WC.lp (σ:=Nat×Nat) (fun s=>[(12,.int .i64 (s.1:Int)),(13,.int .i64 (s.2:Int)),(10,.int .i64 (k:Int)),(9,d1),(8,vq),(0,u),(1,w),(4,.slice none 0 0),(5,.slice none 0 0)]) (fun _=>[Ow.slice vq 3 1 (ints o)]) (fun _=>[ge h0,sI u A,sI w (digs n),sI d1 (digs R)])
     (fun s=>s.1≤s.2∧s.2 < 1000000000∧n*s.1≤R∧R < n*(s.2+1)) (fun s=>s.2 - s.1) (0,999999999) ⟨by decide,by decide,by show n*0≤R;omega,hRB⟩ ?_
    rintro⟨lo,hi⟩ ⟨i1,i2,i3,i4⟩
    simp only at i1 i2 i3 i4 ⊢
    by_cases c3:lo < hi
    ·repeat'(first|refine gB ?_|(refine gH ?_;intro g)|(refine gW ?_;intro v)|refine d195 ?_|fail)
     rw[show(((lo+hi:Nat):Int)+1) / 2=(((lo+hi+1) / 2:Nat):Int) by omega]
     have b1:lo < (lo+hi+1) / 2:=by omega
     have b2:(lo+hi+1) / 2≤hi:=by omega
     generalize (lo+hi+1) / 2=mid at *
     refine WL.callK (times_c w n mid hn (by omega)) ?_
     rintro v1 _ _ ⟨rfl,rfl⟩
     simp only[List.nil_append,List.cons_append]
     repeat'(first|refine gB ?_|(refine gH ?_;intro g)|(refine gW ?_;intro v)|refine d195 ?_|fail)
     first|refine WL.callV (rcompared_c v1 d1 (n*mid) R) ?_|refine WD.callV (rcompared_c v1 d1 (n*mid) R) ?_
     by_cases c4:n*mid≤R
     ·have c5:cmpN (n*mid) R≤0:=by unfold cmpN;split;decide;rw[if_neg (by omega)];decide
      repeat'(first|refine gB ?_|(refine gH ?_;intro g)|(refine gW ?_;intro v)|refine d195 ?_|fail)
      exact LoopEnd.mk (mid,hi) ⟨b2,i2,c4,i4⟩ (by show hi - mid < hi - lo;omega)
     ·have c5:¬cmpN (n*mid) R≤0:=by rw[cmpN_gt (by omega)];decide
      repeat'(first|refine gB ?_|(refine gH ?_;intro g)|(refine gW ?_;intro v)|refine d195 ?_|fail)
      rw[show((mid:Nat):Int) - 1=((mid - 1:Nat):Int) by omega]
      exact LoopEnd.mk (lo,mid - 1) ⟨by show lo≤mid - 1;omega,by show mid - 1 < 1000000000;omega,i3,by show R < n*(mid - 1+1);rw[show mid - 1+1=mid by omega];omega⟩ (by show mid - 1 - lo < hi - lo;omega)
    ·obtain rfl:lo=hi:=by omega
     have hdiv:R / n=lo:=Nat.div_eq_of_lt_le (by rw[Nat.mul_comm];exact i3) (by rw[Nat.mul_comm];exact i4)
     have hmod:R % n+n*lo=R:=by rw[←hdiv];exact Nat.mod_add_div R n
     have hm2:R % n < n:=Nat.mod_lt _ (by omega)
     rw[show(R:Int) / (n:Int)=(lo:Int) by rw[←hdiv];simp,show(R:Int) % (n:Int)=((R % n:Nat):Int) by simp] at hst
     repeat'(first|refine gB ?_|(refine gH ?_;intro g)|(refine gW ?_;intro v)|refine d195 ?_|fail)
     refine WL.callK (times_c w n lo hn (by omega)) ?_
     rintro v1 _ _ ⟨rfl,rfl⟩
     simp only[List.nil_append,List.cons_append]
     repeat'(first|refine gB ?_|(refine gH ?_;intro g)|(refine gW ?_;intro v)|refine d195 ?_|fail)
     refine WL.callK (rminus_c d1 v1 (digs R) (digs (n*lo)) (digs_Dg _) (digs_Dg _) hRz (digs_mono i3) (by rw[val_digs,val_digs];omega)) ?_
     rintro v2 _ _ ⟨l2,rfl,rfl,hd2,hv2,hl2⟩
     simp only[List.nil_append,List.cons_append]
     rw[val_digs,val_digs] at hv2
     repeat'(first|refine gB ?_|(refine gH ?_;intro g)|(refine gW ?_;intro v)|refine d195 ?_|fail)
     first|refine WL.callK (normal_c v2 false l2 ((R % n:Nat):Int) hd2 (by rw[hv2];omega) (fun _=>nneg_dec _)) ?_|refine WD.callK (normal_c v2 false l2 ((R % n:Nat):Int) hd2 (by rw[hv2];omega) (fun _=>nneg_dec _)) ?_|refine LO.callM (normal_c v2 false l2 ((R % n:Nat):Int) hd2 (by rw[hv2];omega) (fun _=>nneg_dec _)) ?_
     rintro _ _ _ ⟨n3,d3,rfl,hb3,rfl,rfl⟩
     simp only[List.nil_append,List.cons_append]
     refine WL.fact' (sI d3 (digs (R % n))) (hasZ_dn hmA) ?_
     repeat'(first|refine gB ?_|(refine gH ?_;intro g)|(refine gW ?_;intro v)|refine d195 ?_|fail)
     exact LoopEnd.mk (k,o.set k (lo:Int),R % n,d3) ⟨by show k≤A.length;omega,hst⟩ (by show k < k+1;omega)
  |0,hk,hs=>
   repeat'(first|refine gB ?_|(refine gH ?_;intro g)|(refine gW ?_;intro v)|refine d195 ?_|fail)
   obtain⟨z1,z2,z3⟩:=hs.fin
   have hvA:val A=(m:Int):=by rw[←hA,val_digs]
   rw[hvA] at z2 z3
   refine WC.freezeI (l:=o) (v:=vq) (el:=3) (by repeat(first|exact Sel.head|apply Sel.tail)) ?_
   obtain rfl:r=m % n:=by have:(r:Int)=((m % n:Nat):Int):=by rw[z3];simp
                          omega
   refine WC.ret ?_
   exact Fin.p [] [sI vq o,sI rv (digs (m % n))] (ResE.t2 rfl rfl rfl) meA (List.nil_sublist _) haA ⟨_,_,_,rfl,rfl,rfl,z1,by rw[z2];simp⟩
end Ro
end Go.Proofs.YtaongbhamadlkaaGreat
namespace Go.Proofs.YtaongbhamadlkaaGreat
open W Go.RowKit
namespace Ro
open Dvz Dvv Adc Rm Rn
attribute [local irreducible] WC WL WD YO LO LoopEnd W.Fin Scalar SliceT FieldAt Row ArrT AllocT KnS Has W.One SrcE IntT
theorem d143 {G G':Prop} (h:G') (s:Bx G'→G:=by
 intro h
 first|(apply WC.draw (id:=7) [0,1,2,3,4,5] (.held 0 (.held 1 (.held 2 (.held 3 (.held 4 (.held 5 (.loud 6 (.loud 7 (.loud 8 (.loud 9 (.done))))))))))) mixed (by kernel_rfl))|(apply WC.drawR (id:=9) [4] [0,1] (.held 0 (.held 1 (.loud 2 (.loud 3 (.done))))) mixed (by kernel_rfl);(focus((repeat(first|exact Rems.nil _|(apply Rems.cons;exact rfl;(repeat(first|exact Rem.head|apply Rem.tail)))));done)))|fail
 exact Bx.h h):G:=s ⟨h⟩
set_option maxHeartbeats 8000000 in
set_option maxRecDepth 8000 in
theorem rdiv_c (v1 v2:Value) (x y:Int) (h1:Lz x.natAbs) (h2:Lz y.natAbs) (hy:y≠0):FnB Tryz.prog 143 [v1,v2] [] [isZ v1 x,isZ v2 y] (IsZZ (x / y) (x % y)):=by
 refine fn_of [(0,v1),(1,v2)] 58 Tryz.func143 rfl Tryz.ntmps143 (by kernel_rfl) rfl suA fun h0=>?_
 refine WC.openZ (v:=v1) (z:=x) hmA fun n1 d1 hv hb1=>?_
 subst hv
 refine WC.openZ (v:=v2) (z:=y) hmA fun n2 d2 hv hb2=>?_
 subst hv
 refine WC.fact (sI d1 (digs x.natAbs)) (hasZ_d hmA) ?_
 refine WC.fact (sI d2 (digs y.natAbs)) (hasZ_d hmA) ?_
 have hny:y.natAbs≠0:=by omega
 have hly:=len_pos hny
 repeat'(first|refine gB ?_|(refine gH ?_;intro g)|(refine gW ?_;intro v)|refine d143 ?_|fail)
 refine WL.callK (rdivided_c d1 d2 x.natAbs y.natAbs h1 h2 hny) ?_
 rintro _ _ _ ⟨d3,la,d4,rfl,rfl,rfl,hla,hva⟩
 simp only[List.nil_append,List.cons_append]
 have hr:=Nat.mod_lt x.natAbs (show 0 < y.natAbs by omega)
 have hq0:x.natAbs / y.natAbs≤x.natAbs:=Nat.div_le_self _ _
 have e1:=@ediv_neg1 x y
 have e2:=@ediv_pos1 x y hy
 generalize hR:x.natAbs % y.natAbs=R at *
 generalize hQ:x.natAbs / y.natAbs=Q at *
 cases n1 with
 |true=>
  have hx:x < 0:=of_decide_eq_true hb1.symm
  cases n2 with
  |true=>
   have hy2:y < 0:=of_decide_eq_true hb2.symm
   repeat'(first|refine gB ?_|(refine gH ?_;intro g)|(refine gW ?_;intro v)|refine d143 ?_|fail)
   first|refine WL.callK (normal_c d3 false la ((Q:Int)) hla (by rw[hva];omega) (fun hne=>by rw[hva] at hne;rw[eq_comm];simp only[decide_eq_true_eq,decide_eq_false_iff_not];omega)) ?_|refine WD.callK (normal_c d3 false la ((Q:Int)) hla (by rw[hva];omega) (fun hne=>by rw[hva] at hne;rw[eq_comm];simp only[decide_eq_true_eq,decide_eq_false_iff_not];omega)) ?_|refine LO.callM (normal_c d3 false la ((Q:Int)) hla (by rw[hva];omega) (fun hne=>by rw[hva] at hne;rw[eq_comm];simp only[decide_eq_true_eq,decide_eq_false_iff_not];omega)) ?_
   rintro _ _ _ ⟨n5,d5,rfl,hb5,rfl,rfl⟩
   simp only[List.nil_append,List.cons_append]
   repeat'(first|refine gB ?_|(refine gH ?_;intro g)|(refine gW ?_;intro v)|refine d143 ?_|fail)
   first|refine WL.callK (normal_c d4 false (digs R) (R:Int) (digs_Dg _) (by rw[val_digs];omega) (fun _=>nneg_dec _)) ?_|refine WD.callK (normal_c d4 false (digs R) (R:Int) (digs_Dg _) (by rw[val_digs];omega) (fun _=>nneg_dec _)) ?_|refine LO.callM (normal_c d4 false (digs R) (R:Int) (digs_Dg _) (by rw[val_digs];omega) (fun _=>nneg_dec _)) ?_
   rintro _ _ _ ⟨n6,d6,rfl,hb6,rfl,rfl⟩
   simp only[List.nil_append,List.cons_append]
   refine WL.fact' (sI d6 (digs R)) (hasZ_dn hmA) ?_
   by_cases hr0:R=0
   ·have hlr0:(digs R).length=0:=digs_len0.2 hr0
    obtain⟨hqa,hra,hsg⟩:=e2 (.inr hr0)
    have hqe:x / y=(Q:Int):=by
     by_cases hq:x / y=0
     ·omega
     ·have:=hsg hq;omega
    have hbq:n5=decide (x / y < 0):=by rw[hqe];exact hb5
    have hbr:n6=decide (x % y < 0):=by rw[hra];exact hb6
    rw[←hqe,←hra]
    repeat'(first|refine gB ?_|(refine gH ?_;intro g)|(refine gW ?_;intro v)|refine d143 ?_|fail)
    refine WC.ret ?_
    exact Fin.p [] [isZ (.agg #[.bool n5,d5]) (x / y),isZ (.agg #[.bool n6,d6]) (x % y)] (ResE.cc rfl rfl rfl meA meA T.r29 rfl T.r29 rfl) meA (List.nil_sublist _) haA ⟨n5,d5,n6,d6,rfl,hbq,hbr,rfl,rfl⟩
   ·have hlr0:=len_pos hr0
    obtain⟨hqa,hra,hsg,hqne⟩:=e1 hx hy hr0
    repeat'(first|refine gB ?_|(refine gH ?_;intro g)|(refine gW ?_;intro v)|refine d143 ?_|fail)
    revert v;intro v1
    refine WD.freezeI (l:=[1]) (v:=v1) (el:=3) (by repeat(first|exact Sel.head|apply Sel.tail)) ?_
    first|refine WL.callK (normal_c v1 false [1] (1) .one (by decide) (fun hne=>by decide)) ?_|refine WD.callK (normal_c v1 false [1] (1) .one (by decide) (fun hne=>by decide)) ?_|refine LO.callM (normal_c v1 false [1] (1) .one (by decide) (fun hne=>by decide)) ?_
    rintro _ _ _ ⟨n7,d7,rfl,hb7,rfl,rfl⟩
    simp only[List.nil_append,List.cons_append]
    repeat'(first|refine gB ?_|(refine gH ?_;intro g)|(refine gW ?_;intro v)|refine d143 ?_|fail)
    first|refine WL.callK (radd_c (.agg #[.bool n5,d5]) (.agg #[.bool n7,d7]) ((Q:Int)) (1) (h1.le hq0) (Nat.le_trans (digs_len_le (k:=2) (by decide)) (by decide))) ?_|refine WD.callK (radd_c (.agg #[.bool n5,d5]) (.agg #[.bool n7,d7]) ((Q:Int)) (1) (h1.le hq0) (Nat.le_trans (digs_len_le (k:=2) (by decide)) (by decide))) ?_|refine LO.callM (radd_c (.agg #[.bool n5,d5]) (.agg #[.bool n7,d7]) ((Q:Int)) (1) (h1.le hq0) (Nat.le_trans (digs_len_le (k:=2) (by decide)) (by decide))) ?_
    rintro _ _ _ ⟨n8,d8,rfl,hb8,rfl,rfl⟩
    simp only[List.nil_append,List.cons_append]
    repeat'(first|refine gB ?_|(refine gH ?_;intro g)|(refine gW ?_;intro v)|refine d143 ?_|fail)
    have hlen:(digs R).length≤(digs y.natAbs).length:=Nat.le_of_not_lt fun h=>by have:=digs_lt_len h;omega
    refine WL.callK (rminus_c d2 d6 (digs y.natAbs) (digs R) (digs_Dg _) (digs_Dg _) (abs_len h2) hlen (by rw[val_digs,val_digs];omega)) ?_
    rintro v3 _ _ ⟨l3,rfl,rfl,hd3,hv3,hl3⟩
    simp only[List.nil_append,List.cons_append]
    first|refine WL.callK (normal_c v3 false l3 (x % y) hd3 (by rw[hv3,hra,val_digs,val_digs];omega) (fun _=>by rw[hra];exact(decide_eq_false (by omega)).symm)) ?_|refine WD.callK (normal_c v3 false l3 (x % y) hd3 (by rw[hv3,hra,val_digs,val_digs];omega) (fun _=>by rw[hra];exact(decide_eq_false (by omega)).symm)) ?_|refine LO.callM (normal_c v3 false l3 (x % y) hd3 (by rw[hv3,hra,val_digs,val_digs];omega) (fun _=>by rw[hra];exact(decide_eq_false (by omega)).symm)) ?_
    rintro _ _ _ ⟨n9,d9,rfl,hbr,rfl,rfl⟩
    simp only[List.nil_append,List.cons_append]
    have hqe:x / y=(Q:Int)+(1):=by omega
    have hbq:n8=decide (x / y < 0):=by rw[hqe];exact hb8
    rw[←hqe]
    repeat'(first|refine gB ?_|(refine gH ?_;intro g)|(refine gW ?_;intro v)|refine d143 ?_|fail)
    refine WC.ret ?_
    exact Fin.p [] [isZ (.agg #[.bool n8,d8]) (x / y),isZ (.agg #[.bool n9,d9]) (x % y)] (ResE.cc rfl rfl rfl meA meA T.r29 rfl T.r29 rfl) meA (List.nil_sublist _) haA ⟨n8,d8,n9,d9,rfl,hbq,hbr,rfl,rfl⟩
  |false=>
   have hy2:¬y < 0:=of_decide_eq_false hb2.symm
   repeat'(first|refine gB ?_|(refine gH ?_;intro g)|(refine gW ?_;intro v)|refine d143 ?_|fail)
   first|refine WL.callK (normal_c d3 true la (-(Q:Int)) hla (by rw[hva];omega) (fun hne=>by rw[hva] at hne;rw[eq_comm];simp only[decide_eq_true_eq,decide_eq_false_iff_not];omega)) ?_|refine WD.callK (normal_c d3 true la (-(Q:Int)) hla (by rw[hva];omega) (fun hne=>by rw[hva] at hne;rw[eq_comm];simp only[decide_eq_true_eq,decide_eq_false_iff_not];omega)) ?_|refine LO.callM (normal_c d3 true la (-(Q:Int)) hla (by rw[hva];omega) (fun hne=>by rw[hva] at hne;rw[eq_comm];simp only[decide_eq_true_eq,decide_eq_false_iff_not];omega)) ?_
   rintro _ _ _ ⟨n5,d5,rfl,hb5,rfl,rfl⟩
   simp only[List.nil_append,List.cons_append]
   repeat'(first|refine gB ?_|(refine gH ?_;intro g)|(refine gW ?_;intro v)|refine d143 ?_|fail)
   first|refine WL.callK (normal_c d4 false (digs R) (R:Int) (digs_Dg _) (by rw[val_digs];omega) (fun _=>nneg_dec _)) ?_|refine WD.callK (normal_c d4 false (digs R) (R:Int) (digs_Dg _) (by rw[val_digs];omega) (fun _=>nneg_dec _)) ?_|refine LO.callM (normal_c d4 false (digs R) (R:Int) (digs_Dg _) (by rw[val_digs];omega) (fun _=>nneg_dec _)) ?_
   rintro _ _ _ ⟨n6,d6,rfl,hb6,rfl,rfl⟩
   simp only[List.nil_append,List.cons_append]
   refine WL.fact' (sI d6 (digs R)) (hasZ_dn hmA) ?_
   by_cases hr0:R=0
   ·have hlr0:(digs R).length=0:=digs_len0.2 hr0
    obtain⟨hqa,hra,hsg⟩:=e2 (.inr hr0)
    have hqe:x / y= -(Q:Int):=by
     by_cases hq:x / y=0
     ·omega
     ·have:=hsg hq;omega
    have hbq:n5=decide (x / y < 0):=by rw[hqe];exact hb5
    have hbr:n6=decide (x % y < 0):=by rw[hra];exact hb6
    rw[←hqe,←hra]
    repeat'(first|refine gB ?_|(refine gH ?_;intro g)|(refine gW ?_;intro v)|refine d143 ?_|fail)
    refine WC.ret ?_
    exact Fin.p [] [isZ (.agg #[.bool n5,d5]) (x / y),isZ (.agg #[.bool n6,d6]) (x % y)] (ResE.cc rfl rfl rfl meA meA T.r29 rfl T.r29 rfl) meA (List.nil_sublist _) haA ⟨n5,d5,n6,d6,rfl,hbq,hbr,rfl,rfl⟩
   ·have hlr0:=len_pos hr0
    obtain⟨hqa,hra,hsg,hqne⟩:=e1 hx hy hr0
    repeat'(first|refine gB ?_|(refine gH ?_;intro g)|(refine gW ?_;intro v)|refine d143 ?_|fail)
    revert v;intro v1
    refine WD.freezeI (l:=[1]) (v:=v1) (el:=3) (by repeat(first|exact Sel.head|apply Sel.tail)) ?_
    first|refine WL.callK (normal_c v1 true [1] (-1) .one (by decide) (fun hne=>by decide)) ?_|refine WD.callK (normal_c v1 true [1] (-1) .one (by decide) (fun hne=>by decide)) ?_|refine LO.callM (normal_c v1 true [1] (-1) .one (by decide) (fun hne=>by decide)) ?_
    rintro _ _ _ ⟨n7,d7,rfl,hb7,rfl,rfl⟩
    simp only[List.nil_append,List.cons_append]
    repeat'(first|refine gB ?_|(refine gH ?_;intro g)|(refine gW ?_;intro v)|refine d143 ?_|fail)
    first|refine WL.callK (radd_c (.agg #[.bool n5,d5]) (.agg #[.bool n7,d7]) (-(Q:Int)) (-1) (by rw[Int.natAbs_neg];exact h1.le hq0) (Nat.le_trans (digs_len_le (k:=2) (by decide)) (by decide))) ?_|refine WD.callK (radd_c (.agg #[.bool n5,d5]) (.agg #[.bool n7,d7]) (-(Q:Int)) (-1) (by rw[Int.natAbs_neg];exact h1.le hq0) (Nat.le_trans (digs_len_le (k:=2) (by decide)) (by decide))) ?_|refine LO.callM (radd_c (.agg #[.bool n5,d5]) (.agg #[.bool n7,d7]) (-(Q:Int)) (-1) (by rw[Int.natAbs_neg];exact h1.le hq0) (Nat.le_trans (digs_len_le (k:=2) (by decide)) (by decide))) ?_
    rintro _ _ _ ⟨n8,d8,rfl,hb8,rfl,rfl⟩
    simp only[List.nil_append,List.cons_append]
    repeat'(first|refine gB ?_|(refine gH ?_;intro g)|(refine gW ?_;intro v)|refine d143 ?_|fail)
    have hlen:(digs R).length≤(digs y.natAbs).length:=Nat.le_of_not_lt fun h=>by have:=digs_lt_len h;omega
    refine WL.callK (rminus_c d2 d6 (digs y.natAbs) (digs R) (digs_Dg _) (digs_Dg _) (abs_len h2) hlen (by rw[val_digs,val_digs];omega)) ?_
    rintro v3 _ _ ⟨l3,rfl,rfl,hd3,hv3,hl3⟩
    simp only[List.nil_append,List.cons_append]
    first|refine WL.callK (normal_c v3 false l3 (x % y) hd3 (by rw[hv3,hra,val_digs,val_digs];omega) (fun _=>by rw[hra];exact(decide_eq_false (by omega)).symm)) ?_|refine WD.callK (normal_c v3 false l3 (x % y) hd3 (by rw[hv3,hra,val_digs,val_digs];omega) (fun _=>by rw[hra];exact(decide_eq_false (by omega)).symm)) ?_|refine LO.callM (normal_c v3 false l3 (x % y) hd3 (by rw[hv3,hra,val_digs,val_digs];omega) (fun _=>by rw[hra];exact(decide_eq_false (by omega)).symm)) ?_
    rintro _ _ _ ⟨n9,d9,rfl,hbr,rfl,rfl⟩
    simp only[List.nil_append,List.cons_append]
    have hqe:x / y= -(Q:Int)+(-1):=by omega
    have hbq:n8=decide (x / y < 0):=by rw[hqe];exact hb8
    rw[←hqe]
    repeat'(first|refine gB ?_|(refine gH ?_;intro g)|(refine gW ?_;intro v)|refine d143 ?_|fail)
    refine WC.ret ?_
    exact Fin.p [] [isZ (.agg #[.bool n8,d8]) (x / y),isZ (.agg #[.bool n9,d9]) (x % y)] (ResE.cc rfl rfl rfl meA meA T.r29 rfl T.r29 rfl) meA (List.nil_sublist _) haA ⟨n8,d8,n9,d9,rfl,hbq,hbr,rfl,rfl⟩
 |false=>
  have hx:¬x < 0:=of_decide_eq_false hb1.symm
  cases n2 with
  |true=>
   have hy2:y < 0:=of_decide_eq_true hb2.symm
   repeat'(first|refine gB ?_|(refine gH ?_;intro g)|(refine gW ?_;intro v)|refine d143 ?_|fail)
   first|refine WL.callK (normal_c d3 true la (-(Q:Int)) hla (by rw[hva];omega) (fun hne=>by rw[hva] at hne;rw[eq_comm];simp only[decide_eq_true_eq,decide_eq_false_iff_not];omega)) ?_|refine WD.callK (normal_c d3 true la (-(Q:Int)) hla (by rw[hva];omega) (fun hne=>by rw[hva] at hne;rw[eq_comm];simp only[decide_eq_true_eq,decide_eq_false_iff_not];omega)) ?_|refine LO.callM (normal_c d3 true la (-(Q:Int)) hla (by rw[hva];omega) (fun hne=>by rw[hva] at hne;rw[eq_comm];simp only[decide_eq_true_eq,decide_eq_false_iff_not];omega)) ?_
   rintro _ _ _ ⟨n5,d5,rfl,hb5,rfl,rfl⟩
   simp only[List.nil_append,List.cons_append]
   repeat'(first|refine gB ?_|(refine gH ?_;intro g)|(refine gW ?_;intro v)|refine d143 ?_|fail)
   first|refine WL.callK (normal_c d4 false (digs R) (R:Int) (digs_Dg _) (by rw[val_digs];omega) (fun _=>nneg_dec _)) ?_|refine WD.callK (normal_c d4 false (digs R) (R:Int) (digs_Dg _) (by rw[val_digs];omega) (fun _=>nneg_dec _)) ?_|refine LO.callM (normal_c d4 false (digs R) (R:Int) (digs_Dg _) (by rw[val_digs];omega) (fun _=>nneg_dec _)) ?_
   rintro _ _ _ ⟨n6,d6,rfl,hb6,rfl,rfl⟩
   simp only[List.nil_append,List.cons_append]
   refine WL.fact' (sI d6 (digs R)) (hasZ_dn hmA) ?_
   obtain⟨hqa,hra,hsg⟩:=e2 (.inl (by omega))
   have hqe:x / y= -(Q:Int):=by
    by_cases hq:x / y=0
    ·omega
    ·have:=hsg hq;omega
   have hbq:n5=decide (x / y < 0):=by rw[hqe];exact hb5
   have hbr:n6=decide (x % y < 0):=by rw[hra];exact hb6
   rw[←hqe,←hra]
   repeat'(first|refine gB ?_|(refine gH ?_;intro g)|(refine gW ?_;intro v)|refine d143 ?_|fail)
   refine WC.ret ?_
   exact Fin.p [] [isZ (.agg #[.bool n5,d5]) (x / y),isZ (.agg #[.bool n6,d6]) (x % y)] (ResE.cc rfl rfl rfl meA meA T.r29 rfl T.r29 rfl) meA (List.nil_sublist _) haA ⟨n5,d5,n6,d6,rfl,hbq,hbr,rfl,rfl⟩
  |false=>
   have hy2:¬y < 0:=of_decide_eq_false hb2.symm
   repeat'(first|refine gB ?_|(refine gH ?_;intro g)|(refine gW ?_;intro v)|refine d143 ?_|fail)
   first|refine WL.callK (normal_c d3 false la ((Q:Int)) hla (by rw[hva];omega) (fun hne=>by rw[hva] at hne;rw[eq_comm];simp only[decide_eq_true_eq,decide_eq_false_iff_not];omega)) ?_|refine WD.callK (normal_c d3 false la ((Q:Int)) hla (by rw[hva];omega) (fun hne=>by rw[hva] at hne;rw[eq_comm];simp only[decide_eq_true_eq,decide_eq_false_iff_not];omega)) ?_|refine LO.callM (normal_c d3 false la ((Q:Int)) hla (by rw[hva];omega) (fun hne=>by rw[hva] at hne;rw[eq_comm];simp only[decide_eq_true_eq,decide_eq_false_iff_not];omega)) ?_
   rintro _ _ _ ⟨n5,d5,rfl,hb5,rfl,rfl⟩
   simp only[List.nil_append,List.cons_append]
   repeat'(first|refine gB ?_|(refine gH ?_;intro g)|(refine gW ?_;intro v)|refine d143 ?_|fail)
   first|refine WL.callK (normal_c d4 false (digs R) (R:Int) (digs_Dg _) (by rw[val_digs];omega) (fun _=>nneg_dec _)) ?_|refine WD.callK (normal_c d4 false (digs R) (R:Int) (digs_Dg _) (by rw[val_digs];omega) (fun _=>nneg_dec _)) ?_|refine LO.callM (normal_c d4 false (digs R) (R:Int) (digs_Dg _) (by rw[val_digs];omega) (fun _=>nneg_dec _)) ?_
   rintro _ _ _ ⟨n6,d6,rfl,hb6,rfl,rfl⟩
   simp only[List.nil_append,List.cons_append]
   refine WL.fact' (sI d6 (digs R)) (hasZ_dn hmA) ?_
   obtain⟨hqa,hra,hsg⟩:=e2 (.inl (by omega))
   have hqe:x / y=(Q:Int):=by
    by_cases hq:x / y=0
    ·omega
    ·have:=hsg hq;omega
   have hbq:n5=decide (x / y < 0):=by rw[hqe];exact hb5
   have hbr:n6=decide (x % y < 0):=by rw[hra];exact hb6
   rw[←hqe,←hra]
   repeat'(first|refine gB ?_|(refine gH ?_;intro g)|(refine gW ?_;intro v)|refine d143 ?_|fail)
   refine WC.ret ?_
   exact Fin.p [] [isZ (.agg #[.bool n5,d5]) (x / y),isZ (.agg #[.bool n6,d6]) (x % y)] (ResE.cc rfl rfl rfl meA meA T.r29 rfl T.r29 rfl) meA (List.nil_sublist _) haA ⟨n5,d5,n6,d6,rfl,hbq,hbr,rfl,rfl⟩
set_option maxHeartbeats 4000000 in
set_option maxRecDepth 8000 in
theorem rgcd_c (v1 v2:Value) (x y:Int) (h1:Lz x.natAbs) (h2:Lz y.natAbs):FnB Tryz.prog 142 [v1,v2] [] [isZ v1 x,isZ v2 y] (IsZ ((Int.gcd x y:Nat):Int)):=by
 refine fn_of [(0,v1),(1,v2)] 56 Tryz.func142 rfl Tryz.ntmps142 (by kernel_rfl) rfl suA fun h0=>?_
 refine WC.openZ (v:=v1) (z:=x) hmA fun n1 d1 hv hb1=>?_
 subst hv
 refine WC.openZ (v:=v2) (z:=y) hmA fun n2 d2 hv hb2=>?_
 subst hv
 have hg:Int.gcd x y=Nat.gcd x.natAbs y.natAbs:=rfl
 refine WC.fact (sI d1 (digs x.natAbs)) (hasZ_d hmA) ?_
 refine WC.fact (sI d2 (digs y.natAbs)) (hasZ_d hmA) ?_
 rw[hg]
 generalize x.natAbs=m at *
 generalize y.natAbs=n at *
 repeat'(first|refine gA ?_|(refine goG ?_;intro g)|(refine goV ?_;intro v))
 first|refine WL.callK (normal_c d1 false (digs m) (m:Int) (digs_Dg _) (by rw[val_digs];simp) (fun _=>nneg_dec _)) ?_|refine WD.callK (normal_c d1 false (digs m) (m:Int) (digs_Dg _) (by rw[val_digs];simp) (fun _=>nneg_dec _)) ?_|refine LO.callM (normal_c d1 false (digs m) (m:Int) (digs_Dg _) (by rw[val_digs];simp) (fun _=>nneg_dec _)) ?_
 rintro _ _ _ ⟨b1,e1,rfl,hbm,rfl,rfl⟩
 simp only[List.nil_append,List.cons_append]
 repeat'(first|refine gA ?_|(refine goG ?_;intro g)|(refine goV ?_;intro v))
 revert g;intro g5
 first|refine WL.callK (normal_c d2 false (digs n) (n:Int) (digs_Dg _) (by rw[val_digs];simp) (fun _=>nneg_dec _)) ?_|refine WD.callK (normal_c d2 false (digs n) (n:Int) (digs_Dg _) (by rw[val_digs];simp) (fun _=>nneg_dec _)) ?_|refine LO.callM (normal_c d2 false (digs n) (n:Int) (digs_Dg _) (by rw[val_digs];simp) (fun _=>nneg_dec _)) ?_
 rintro _ _ _ ⟨b2,e2,rfl,hbn,rfl,rfl⟩
 simp only[List.nil_append,List.cons_append]
 refine WL.fact' (sI e1 (digs m)) (hasZ_dn hmA) ?_
 refine WL.fact' (sI e2 (digs n)) (hasZ_dn hmA) ?_
 repeat'(first|refine gA ?_|(refine goG ?_;intro g)|(refine goV ?_;intro v))
 rename_i g2 g3 g4
 revert g;intro g6
 refine WC.lp (σ:=Nat×Nat×Bool×Value×Bool×Value) (fun s=>[(5,ptr g5),(6,ptr g6),(4,ptr g4)]) (fun s=>[Ow.cells g6 29 [.bool s.2.2.2.2.1,s.2.2.2.2.2],Ow.cells g5 29 [.bool s.2.2.1,s.2.2.2.1],Ow.cells g4 29 [.bool false,.slice none 0 0]]) (fun s=>[ge h0,isZ (.agg #[.bool s.2.2.1,s.2.2.2.1]) (s.1:Int),isZ (.agg #[.bool s.2.2.2.2.1,s.2.2.2.2.2]) (s.2.1:Int)]) (fun s=>Lz s.1∧Lz s.2.1∧s.2.2.1=decide ((s.1:Int) < 0)∧Nat.gcd s.1 s.2.1=Nat.gcd m n) (fun s=>s.2.1) (m,n,b1,e1,b2,e2) ⟨h1,h2,hbm,rfl⟩ ?_
 clear hbm hbn h1 h2
 rintro⟨m',n',b1',e1',b2',e2'⟩ ⟨h1,h2,hbm,hmn⟩
 simp only at h1 h2 hbm hmn ⊢
 rw[←hmn]
 revert m n b1 e1 b2 e2
 intro m1 n1 hg b1 e1 b2 e2 hmn0
 clear hmn0 hg
 revert m' n' b1' e1' b2' e2'
 intro m n b1 e1 b2 e2 h1 h2 hbm
 refine WC.openZ (v:=.agg #[.bool b2,e2]) (z:=(n:Int)) hmA fun b2' e2' hv hbn=>?_
 simp at hv
 obtain⟨rfl,rfl⟩:=hv
 refine WC.fact (sI e1 (digs m)) (by simpa using hasZ_d (z:=(m:Int)) hmA) ?_
 refine WC.fact (sI e2 (digs n)) (by simpa using hasZ_d (z:=(n:Int)) hmA) ?_
 by_cases c:n=0
 ·have hl0:(digs n).length=0:=digs_len0.2 c
  repeat'(first|refine gA ?_|(refine goG ?_;intro g)|(refine goV ?_;intro v))
  rw[c,Nat.gcd_zero_right]
  refine WC.ret ?_
  exact Fin.p [] [isZ (.agg #[.bool b1,e1]) m] (ResE.cV rfl rfl meA T.r29 rfl) meA (List.nil_sublist _) haA ⟨b1,e1,rfl,hbm,rfl,rfl⟩
 ·have hl0:=len_pos c
  have hr:m % n < n:=Nat.mod_lt _ (by omega)
  by_cases b1':m < B2
  ·have l1:(digs m).length≤2:=digs_len_le (k:=2) b1'
   by_cases b2':n < B2
   ·have l2:(digs n).length≤2:=digs_len_le (k:=2) b2'
    repeat'(first|refine gA ?_|(refine goG ?_;intro g)|(refine goV ?_;intro v))
    first|refine WL.callV (tiny_c e1 m b1') ?_|refine WD.callV (tiny_c e1 m b1') ?_
    repeat'(first|refine gA ?_|(refine goG ?_;intro g)|(refine goV ?_;intro v))
    first|refine WL.callV (tiny_c e2 n b2') ?_|refine WD.callV (tiny_c e2 n b2') ?_
    repeat'(first|refine gA ?_|(refine goG ?_;intro g)|(refine goV ?_;intro v))
    refine WC.lp (σ:=Nat×Nat) (fun s=>[(7,.int .i64 (s.1:Int)),(8,.int .i64 (s.2:Int)),(4,ptr g4)]) (fun _=>[Ow.cells g4 29 [.bool false,.slice none 0 0]]) (fun _=>[ge h0]) (fun s=>s.1 < B2∧s.2 < B2∧Nat.gcd s.1 s.2=Nat.gcd m n) (fun s=>s.2) (m,n) ⟨b1',b2',rfl⟩ ?_
    rintro⟨p,q⟩ ⟨hp,hq,hpq⟩
    simp only at hp hq hpq ⊢
    have hp':p < 1000000000000000000:=hp
    have hq':q < 1000000000000000000:=hq
    by_cases c2:0 < q
    ·have hr:p % q < q:=Nat.mod_lt _ c2
     repeat'(first|refine gA ?_|(refine goG ?_;intro g)|(refine goV ?_;intro v))
     exact LoopEnd.mk (q,p % q) ⟨hq,Nat.lt_trans hr hq,by rw[gcd_step c2,hpq]⟩ (by show p % q < q;exact hr) (by rw[show((p % q:Nat):Int)=(p:Int) % (q:Int) by simp];exact suA)
    ·obtain rfl:q=0:=by omega
     rw[Nat.gcd_zero_right] at hpq
     rw[←hpq]
     repeat'(first|refine gA ?_|(refine goG ?_;intro g)|(refine goV ?_;intro v))
     first|refine WL.callK (rof_c (p:Int) (by omega) (by omega)) ?_|refine WD.callK (rof_c (p:Int) (by omega) (by omega)) ?_|refine LO.callM (rof_c (p:Int) (by omega) (by omega)) ?_
     rintro _ _ _ ⟨nb,d,rfl,hb,rfl,rfl⟩
     simp only[List.nil_append,List.cons_append]
     repeat'(first|refine gA ?_|(refine goG ?_;intro g)|(refine goV ?_;intro v))
     refine WC.ret ?_
     exact Fin.p [] [isZ (.agg #[.bool nb,d]) p] (ResE.cV rfl rfl meA T.r29 rfl) meA (List.nil_sublist _) haA ⟨nb,d,rfl,hb,rfl,rfl⟩
   ·have l2:=three_len b2'
    repeat'(first|refine gA ?_|(refine goG ?_;intro g)|(refine goV ?_;intro v))
    refine WL.callK (rdiv_c (.agg #[.bool b1,e1]) (.agg #[.bool b2,e2]) (m:Int) (n:Int) h1 h2 (by omega)) ?_
    rintro _ _ _ ⟨n3,d3,n4,d4,rfl,hb3,hb4,rfl,rfl⟩
    simp only[List.nil_append,List.cons_append]
    rw[show(m:Int) % (n:Int)=((m % n:Nat):Int) by simp]
    repeat'(first|refine gA ?_|(refine goG ?_;intro g)|(refine goV ?_;intro v))
    exact LoopEnd.mk (n,m % n,b2,e2,n4,d4) ⟨h2,h2.le (Nat.le_of_lt hr),hbn,gcd_step (by omega)⟩ hr
  ·have l1:=three_len b1'
   repeat'(first|refine gA ?_|(refine goG ?_;intro g)|(refine goV ?_;intro v))
   refine WL.callK (rdiv_c (.agg #[.bool b1,e1]) (.agg #[.bool b2,e2]) (m:Int) (n:Int) h1 h2 (by omega)) ?_
   rintro _ _ _ ⟨n3,d3,n4,d4,rfl,hb3,hb4,rfl,rfl⟩
   simp only[List.nil_append,List.cons_append]
   rw[show(m:Int) % (n:Int)=((m % n:Nat):Int) by simp]
   repeat'(first|refine gA ?_|(refine goG ?_;intro g)|(refine goV ?_;intro v))
   exact LoopEnd.mk (n,m % n,b2,e2,n4,d4) ⟨h2,h2.le (Nat.le_of_lt hr),hbn,gcd_step (by omega)⟩ hr
end Ro
end Go.Proofs.YtaongbhamadlkaaGreat
