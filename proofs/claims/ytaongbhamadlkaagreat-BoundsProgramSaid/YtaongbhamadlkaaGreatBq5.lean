/- Lemmas for the proof of a law: Contracts: package integer, dividing, greatest common divisor. Conditions: none. -/
import Derived.Test.YtaongbhamadlkaaGreatBq3
import Derived.Test.YtaongbhamadlkaaGreatBq4
set_option linter.unusedVariables false
set_option linter.unusedSimpArgs false
set_option linter.unusedSectionVars false
namespace Go.Proofs.YtaongbhamadlkaaGreat
open W Go.RowKit
abbrev B2:Nat:=1000000000000000000
abbrev Lz (n:Nat):Prop:=(digs n).length≤1000000000
theorem Lz.of {n:Nat} (h:n < B2):Lz n:=by
 have:=digs_len_le (k:=2) (n:=n) h
 show _≤_;omega
theorem digs_mono {m n:Nat} (h:m≤n):(digs m).length≤(digs n).length:=Nat.not_lt.1 fun hx=>by have:=digs_lt_len hx;omega
theorem Lz.le {m n:Nat} (hn:Lz n) (h:m≤n):Lz m:=Nat.le_trans (digs_mono h) hn
theorem digs_len_mul (m n:Nat):(digs (m*n)).length≤(digs m).length+(digs n).length:=by
 have h1:=@digs_lt m
 have h2:=@digs_lt n
 refine digs_len_le ?_
 rw[Nat.pow_add]
 exact Nat.mul_lt_mul'' h1 h2
theorem digs_len_add (m n:Nat):(digs (m+n)).length≤max (digs m).length (digs n).length+1:=by
 have h1:=@digs_lt m
 have h2:=@digs_lt n
 have h3:(1000000000:Nat) ^ (digs m).length≤1000000000 ^ max (digs m).length (digs n).length:=Nat.pow_le_pow_right (by decide) (Nat.le_max_left _ _)
 have h4:(1000000000:Nat) ^ (digs n).length≤1000000000 ^ max (digs m).length (digs n).length:=Nat.pow_le_pow_right (by decide) (Nat.le_max_right _ _)
 refine digs_len_le ?_
 rw[Nat.pow_succ]
 omega
theorem three_len {n:Nat} (h:¬n < B2):2 < (digs n).length:=Nat.not_le.1 fun hx=>h (by
 have:=@digs_lt n
 have h2:(1000000000:Nat) ^ (digs n).length≤1000000000 ^ 2:=Nat.pow_le_pow_right (by decide) hx
 exact Nat.lt_of_lt_of_le this h2)
theorem two_cases {n:Nat} (h:n < B2):(n=0∧digs n=[])∨((digs n).length=1∧digs n=[(n:Int)]∧n≠0∧n < 1000000000)∨((digs n).length=2∧digs n=[((n % 1000000000:Nat):Int),((n / 1000000000:Nat):Int)]∧1000000000≤n):=by
 by_cases h0:n=0
 ·left;subst h0;exact⟨rfl,digs_0⟩
 ·by_cases h1:n < 1000000000
  ·right;left;have:=digs_1 h0 h1;exact⟨by rw[this];rfl,this,h0,h1⟩
  ·right;right;have:=digs_2 (n:=n) (by omega) (by unfold B2 at h;omega);exact⟨by rw[this];rfl,this,by omega⟩
def IsZZ (x y:Int):RPost:=fun v b G=>∃ n1 d1 n2 d2,v=.tuple #[.agg #[.bool n1,d1],.agg #[.bool n2,d2]]∧n1=decide (x < 0)∧n2=decide (y < 0)∧b=[]∧G=[isZ (.agg #[.bool n1,d1]) x,isZ (.agg #[.bool n2,d2]) y]
theorem ResE.cc {P:Program} {e:Env} {bx:List Ow} {F:List Fct} {fn:Func} {t s:Tmp} {ty ty2:TypeId} {g g2 tg tg2 m m2:Nat} {cs cs2:List Value} (h:fn.results=#[.cell t ty,.cell s ty2]) (hl:W.look e t=some (.pointer (some ⟨g,0,none⟩))) (hl2:W.look e s=some (.pointer (some ⟨g2,0,none⟩)))
  (hb:Ow.cells g tg cs∈bx) (hb2:Ow.cells g2 tg2 cs2∈bx) (hr:Row P ty m) (hm:cs.length=m) (hr2:Row P ty2 m2) (hm2:cs2.length=m2):ResE P fn e bx F (.tuple #[.agg cs.toArray,.agg cs2.toArray]):=fun n fr a w hk ho=>by
 obtain⟨⟨d,hu,hd⟩,hi⟩:=hr
 obtain⟨⟨d',hu',hd'⟩,hi'⟩:=hr2
 have h1:a.tmps[t]?.getD undef=.pointer (some ⟨g,0,none⟩):=by rw[hk.at' _ _ hl];rfl
 have h3:a.tmps[s]?.getD undef=.pointer (some ⟨g2,0,none⟩):=by rw[hk.at' _ _ hl2];rfl
 have h2:=run_loadVar_mid (P:=P) w g 0 ty cs d (fun i v hv=>by rw[Nat.zero_add,own_cell (ho.owns _ hb)];exact hv) hu hd (by rw[hi];simp[hm])
 have h4:=run_loadVar_mid (P:=P) w g2 0 ty2 cs2 d' (fun i v hv=>by rw[Nat.zero_add,own_cell (ho.owns _ hb2)];exact hv) hu' hd' (by rw[hi'];simp[hm2])
 simp only[results,h]
 simp[h1,h3,asAddr,h2,h4]
namespace Dvz
attribute [local irreducible] WC WL WD YO LO LoopEnd W.Fin Scalar SliceT FieldAt Row ArrT AllocT KnS Has W.One SrcE IntT
theorem d149 {G G':Prop} (h:G') (s:Bx G'→G:=by
 intro h
 first|(apply WC.draw (id:=1) [0,1,3,4] (.held 0 (.held 1 (.held 3 (.held 4 (.more 2 (.more 5 (.more 6 (.loud 7 (.loud 8 (.loud 9 (.done)))) (.loud 7 (.loud 6 (.loud 8 (.loud 9 (.done)))))) (.more 6 (.more 5 (.loud 7 (.loud 8 (.loud 9 (.done)))) (.loud 7 (.loud 5 (.loud 8 (.loud 9 (.done)))))) (.loud 7 (.more 5 (.loud 6 (.loud 8 (.loud 9 (.done)))) (.loud 6 (.loud 5 (.loud 8 (.loud 9 (.done))))))))) (.more 6 (.more 2 (.more 5 (.loud 7 (.loud 8 (.loud 9 (.done)))) (.loud 7 (.loud 5 (.loud 8 (.loud 9 (.done)))))) (.loud 7 (.loud 2 (.loud 5 (.loud 8 (.loud 9 (.done))))))) (.loud 7 (.more 2 (.more 5 (.loud 6 (.loud 8 (.loud 9 (.done)))) (.loud 6 (.loud 5 (.loud 8 (.loud 9 (.done)))))) (.loud 6 (.loud 2 (.loud 5 (.loud 8 (.loud 9 (.done)))))))))))))) mixed (by kernel_rfl))|(apply WC.draw (id:=7) [0,1,2,3,4,5] (.held 0 (.held 1 (.held 2 (.held 3 (.held 4 (.held 5 (.done))))))) mixed (by kernel_rfl))|(apply WC.drawR (id:=10) [5] [0,1] (.held 0 (.held 1 (.loud 2 (.loud 3 (.done))))) mixed (by kernel_rfl);(focus((repeat(first|exact Rems.nil _|(apply Rems.cons;exact rfl;(repeat(first|exact Rem.head|apply Rem.tail)))));done)))|fail
 exact Bx.h h):G:=s ⟨h⟩
theorem d196 {G G':Prop} (h:G') (s:Bx G'→G:=by
 intro h
 first|(apply WC.draw (id:=7) [0,1,2,3,4,5,6,7,8,9] (.held 0 (.held 1 (.held 2 (.held 3 (.held 4 (.held 5 (.held 6 (.held 7 (.held 8 (.held 9 (.done))))))))))) mixed (by kernel_rfl))|fail
 exact Bx.h h):G:=s ⟨h⟩
theorem d197 {G G':Prop} (h:G') (s:Bx G'→G:=by
 intro h
 first|(apply WC.draw (id:=5) [0,1,2,3,5,6,7,8] (.held 0 (.held 1 (.held 2 (.held 3 (.held 5 (.held 6 (.held 7 (.held 8 (.loud 4 (.loud 9 (.loud 10 (.loud 11 (.done))))))))))))) mixed (by kernel_rfl))|fail
 exact Bx.h h):G:=s ⟨h⟩
theorem goB {G G':Prop} (h:G') (s:Bx G'→G:=by
 intro h
 first
  |(apply WL.k_mul;(apply YO.mul;exact rfl;exact rfl;omega;omega);exact rfl;exact rfl)
  |(apply WD.k_quo;exact rfl;(apply YO.quo;exact rfl;exact rfl;omega;omega;omega);exact rfl;exact rfl)
 exact Bx.h h):G:=s ⟨h⟩
set_option maxHeartbeats 4000000 in
set_option maxRecDepth 8000 in
theorem two_c (u:Value) (n:Nat) (hn:n < B2):FnB Tryz.prog 196 [u] [] [sI u (digs n)] (IsV (.tuple #[.int .i64 n,.bool true])):=by
 refine fn_of [(0,u)] 23 Tryz.func196 rfl Tryz.ntmps196 (by kernel_rfl) rfl suA fun h0=>?_
 unfold B2 at hn
 rcases two_cases (n:=n) hn with ⟨h,e⟩|⟨h,e,h2⟩|⟨h,e,h2⟩
 ·rw[e]
  subst h
  have hl:([]:List Int).length=0:=rfl
  repeat'(first|refine gB ?_|(refine gH ?_;intro g)|(refine gW ?_;intro v)|refine d196 ?_|fail)
  refine WC.ret ?_
  exact Fin.v (ResE.t2 rfl rfl rfl) meA rfl
 ·rw[e] at h ⊢
  have e0:([(n:Int)].getD (0:Int).toNat 0)=(n:Int):=rfl
  repeat'(first|refine gB ?_|(refine gH ?_;intro g)|(refine gW ?_;intro v)|refine d196 ?_|fail)
  refine WC.ret ?_
  exact Fin.v (ResE.t2 rfl rfl rfl) meA rfl
 ·rw[e] at h ⊢
  have e0:([((n % 1000000000:Nat):Int),((n / 1000000000:Nat):Int)].getD (0:Int).toNat 0)=((n % 1000000000:Nat):Int):=rfl
  have e1:([((n % 1000000000:Nat):Int),((n / 1000000000:Nat):Int)].getD (1:Int).toNat 0)=((n / 1000000000:Nat):Int):=rfl
  generalize [((n % 1000000000:Nat):Int),((n / 1000000000:Nat):Int)]=l at *
  have hv:l.getD (1:Int).toNat 0*1000000000+l.getD (0:Int).toNat 0=(n:Int):=by omega
  repeat'(first|refine gB ?_|(refine gH ?_;intro g)|(refine gW ?_;intro v)|refine d196 ?_|fail)
  rw[hv]
  refine WC.ret ?_
  exact Fin.v (ResE.t2 rfl rfl rfl) meA rfl
set_option maxHeartbeats 4000000 in
set_option maxRecDepth 8000 in
theorem two0_c (u:Value) (n:Nat) (hn:¬n < B2):FnB Tryz.prog 196 [u] [] [sI u (digs n)] (IsV (.tuple #[.int .i64 0,.bool false])):=by
 refine fn_of [(0,u)] 23 Tryz.func196 rfl Tryz.ntmps196 (by kernel_rfl) rfl suA fun h0=>?_
 have hl:=three_len hn
 repeat'(first|refine gB ?_|(refine gH ?_;intro g)|(refine gW ?_;intro v)|refine d196 ?_|fail)
 refine WC.ret ?_
 exact Fin.v (ResE.t2 rfl rfl rfl) meA rfl
set_option maxHeartbeats 4000000 in
set_option maxRecDepth 8000 in
theorem divide2_c (u w:Value) (m n:Nat) (hm:m < B2) (hn:n < B2) (h0n:n≠0):FnB Tryz.prog 197 [u,w] [] [sI u (digs m),sI w (digs n)] (IsZZ ((m / n:Nat):Int) ((m % n:Nat):Int)):=by
 refine fn_of [(0,u),(1,w)] 69 Tryz.func197 rfl Tryz.ntmps197 (by kernel_rfl) rfl suA fun h0=>?_
 have hm':m < 1000000000000000000:=hm
 have hn':n < 1000000000000000000:=hn
 have q1:m / n≤m:=Nat.div_le_self _ _
 have q2:m % n < n:=Nat.mod_lt _ (by omega)
 have e1:(m:Int) / (n:Int)=((m / n:Nat):Int):=by simp
 have e2:(m:Int) % (n:Int)=((m % n:Nat):Int):=by simp
 have e3:(m:Int) / (n:Int)≤(m:Int):=by rw[e1];exact Int.ofNat_le.2 q1
 have e4:0≤(m:Int) / (n:Int):=by rw[e1];exact Int.natCast_nonneg _
 have e5:(m:Int) % (n:Int) < (n:Int):=by rw[e2];exact Int.ofNat_lt.2 q2
 have e6:0≤(m:Int) % (n:Int):=by rw[e2];exact Int.natCast_nonneg _
 repeat'(first|refine gB ?_|(refine gH ?_;intro g)|(refine gW ?_;intro v)|refine d197 ?_|fail)
 first|refine WL.callV (two_c u m hm) ?_|refine WD.callV (two_c u m hm) ?_
 repeat'(first|refine gB ?_|(refine gH ?_;intro g)|(refine gW ?_;intro v)|refine d197 ?_|fail)
 first|refine WL.callV (two_c w n hn) ?_|refine WD.callV (two_c w n hn) ?_
 repeat'(first|refine gB ?_|(refine gH ?_;intro g)|(refine gW ?_;intro v)|refine d197 ?_|fail)
 rw[e1,e2]
 first|refine WL.callK (unsigned_c false (m / n) ((m / n:Nat):Int) (by omega) (Int.natAbs_natCast _) (fun _=>(decide_eq_false (Int.not_lt.2 (Int.natCast_nonneg _))).symm)) ?_|refine WD.callK (unsigned_c false (m / n) ((m / n:Nat):Int) (by omega) (Int.natAbs_natCast _) (fun _=>(decide_eq_false (Int.not_lt.2 (Int.natCast_nonneg _))).symm)) ?_|refine LO.callM (unsigned_c false (m / n) ((m / n:Nat):Int) (by omega) (Int.natAbs_natCast _) (fun _=>(decide_eq_false (Int.not_lt.2 (Int.natCast_nonneg _))).symm)) ?_
 rintro _ _ _ ⟨n1,d1,rfl,hb1,rfl,rfl⟩
 simp only[List.nil_append,List.cons_append]
 repeat'(first|refine gB ?_|(refine gH ?_;intro g)|(refine gW ?_;intro v)|refine d197 ?_|fail)
 first|refine WL.callK (unsigned_c false (m % n) ((m % n:Nat):Int) (by omega) (Int.natAbs_natCast _) (fun _=>(decide_eq_false (Int.not_lt.2 (Int.natCast_nonneg _))).symm)) ?_|refine WD.callK (unsigned_c false (m % n) ((m % n:Nat):Int) (by omega) (Int.natAbs_natCast _) (fun _=>(decide_eq_false (Int.not_lt.2 (Int.natCast_nonneg _))).symm)) ?_|refine LO.callM (unsigned_c false (m % n) ((m % n:Nat):Int) (by omega) (Int.natAbs_natCast _) (fun _=>(decide_eq_false (Int.not_lt.2 (Int.natCast_nonneg _))).symm)) ?_
 rintro _ _ _ ⟨n2,d2,rfl,hb2,rfl,rfl⟩
 simp only[List.nil_append,List.cons_append]
 repeat'(first|refine gB ?_|(refine gH ?_;intro g)|(refine gW ?_;intro v)|refine d197 ?_|fail)
 refine WC.ret ?_
 exact Fin.p [] [isZ (.agg #[.bool n1,d1]) ((m / n:Nat):Int),isZ (.agg #[.bool n2,d2]) ((m % n:Nat):Int)] (ResE.cc rfl rfl rfl meA meA T.r29 rfl T.r29 rfl) meA (List.nil_sublist _) haA ⟨n1,d1,n2,d2,rfl,hb1,hb2,rfl,rfl⟩
theorem len_ne {n:Nat} (h:n≠0):0 < (digs n).length:=by
 have:(digs n).length≠0:=fun h2=>h (digs_len0.1 h2)
 omega
theorem digs_len_one {n:Nat} (h:(digs n).length=1):n < 1000000000:=by
 have:=@digs_lt n
 rw[h] at this;simpa using this
set_option maxHeartbeats 8000000 in
set_option maxRecDepth 8000 in
theorem divide_c (u w:Value) (m n:Nat) (hm:Lz m) (hn:Lz n) (h0n:n≠0):FnB Tryz.prog 197 [u,w] [] [sI u (digs m),sI w (digs n)] (IsZZ ((m / n:Nat):Int) ((m % n:Nat):Int)):=by
 have hln:=len_ne h0n
 have cz:=fun h=>of_c u false (digs m) ((m % n:Nat):Int) (digs_Dg _) (by rw[val_digs,Nat.mod_eq_of_lt h];simp) (fun _=>(decide_eq_false (Int.not_lt.2 (Int.natCast_nonneg _))).symm)
 by_cases c1:m < B2
 ·by_cases c2:n < B2
  ·exact divide2_c u w m n c1 c2 h0n
  ·refine fn_of [(0,u),(1,w)] 69 Tryz.func197 rfl Tryz.ntmps197 (by kernel_rfl) rfl suA fun h0=>?_
   have hlt:m < n:=by omega
   have e1:m / n=0:=Nat.div_eq_of_lt hlt
   repeat'(first|refine gB ?_|(refine gH ?_;intro g)|(refine gW ?_;intro v)|refine d197 ?_|fail)
   first|refine WL.callV (two_c u m c1) ?_|refine WD.callV (two_c u m c1) ?_
   repeat'(first|refine gB ?_|(refine gH ?_;intro g)|(refine gW ?_;intro v)|refine d197 ?_|fail)
   first|refine WL.callV (two0_c w n c2) ?_|refine WD.callV (two0_c w n c2) ?_
   repeat'(first|refine gB ?_|(refine gH ?_;intro g)|(refine gW ?_;intro v)|refine d197 ?_|fail)
   first|refine WL.callV (compare_c u w m n) ?_|refine WD.callV (compare_c u w m n) ?_
   rw[cmpN_lt hlt]
   repeat'(first|refine gB ?_|(refine gH ?_;intro g)|(refine gW ?_;intro v)|refine d197 ?_|fail)
   first|refine WL.callK (cz hlt) ?_|refine WD.callK (cz hlt) ?_|refine LO.callM (cz hlt) ?_
   rintro _ _ _ ⟨n2,d2,rfl,hb2,rfl,rfl⟩
   simp only[List.nil_append,List.cons_append]
   repeat'(first|refine gB ?_|(refine gH ?_;intro g)|(refine gW ?_;intro v)|refine d197 ?_|fail)
   rw[e1]
   refine WC.ret ?_
   exact Fin.p [] [isZ (.agg #[.bool false,.slice none 0 0]) ((0:Nat):Int),isZ (.agg #[.bool n2,d2]) ((m % n:Nat):Int)] (ResE.cc rfl rfl rfl meA meA T.r29 rfl T.r29 rfl) meA (List.nil_sublist _) haA ⟨false,_,n2,d2,rfl,rfl,hb2,rfl,rfl⟩
 ·refine fn_of [(0,u),(1,w)] 69 Tryz.func197 rfl Tryz.ntmps197 (by kernel_rfl) rfl suA fun h0=>?_
  repeat'(first|refine gB ?_|(refine gH ?_;intro g)|(refine gW ?_;intro v)|refine d197 ?_|fail)
  first|refine WL.callV (two0_c u m c1) ?_|refine WD.callV (two0_c u m c1) ?_
  repeat'(first|refine gB ?_|(refine gH ?_;intro g)|(refine gW ?_;intro v)|refine d197 ?_|fail)
  first|refine WL.callV (compare_c u w m n) ?_|refine WD.callV (compare_c u w m n) ?_
  by_cases hlt:m < n
  ·have e1:m / n=0:=Nat.div_eq_of_lt hlt
   rw[cmpN_lt hlt]
   repeat'(first|refine gB ?_|(refine gH ?_;intro g)|(refine gW ?_;intro v)|refine d197 ?_|fail)
   first|refine WL.callK (cz hlt) ?_|refine WD.callK (cz hlt) ?_|refine LO.callM (cz hlt) ?_
   rintro _ _ _ ⟨n2,d2,rfl,hb2,rfl,rfl⟩
   simp only[List.nil_append,List.cons_append]
   repeat'(first|refine gB ?_|(refine gH ?_;intro g)|(refine gW ?_;intro v)|refine d197 ?_|fail)
   rw[e1]
   refine WC.ret ?_
   exact Fin.p [] [isZ (.agg #[.bool false,.slice none 0 0]) ((0:Nat):Int),isZ (.agg #[.bool n2,d2]) ((m % n:Nat):Int)] (ResE.cc rfl rfl rfl meA meA T.r29 rfl T.r29 rfl) meA (List.nil_sublist _) haA ⟨false,_,n2,d2,rfl,rfl,hb2,rfl,rfl⟩
  ·have hc:0≤cmpN m n:=by unfold cmpN;rw[if_neg hlt];split <;> decide
   have v1:val (digs m) / val (digs n)=((m / n:Nat):Int):=by rw[val_digs,val_digs];simp
   have v2:val (digs m) % val (digs n)=((m % n:Nat):Int):=by rw[val_digs,val_digs];simp
   by_cases hl1:(digs n).length=1
   ·have hn9:=digs_len_one hl1
    have e:=digs_1 h0n hn9
    have e0:(digs n).getD 0 0=(n:Int):=by rw[e];rfl
    have hr:m % n < n:=Nat.mod_lt _ (by omega)
    have v1':val (digs m) / (n:Int)=((m / n:Nat):Int):=by rw[val_digs];simp
    have v2':val (digs m) % (n:Int)=((m % n:Nat):Int):=by rw[val_digs];simp
    generalize hD:digs n=D at *
    repeat'(first|refine gB ?_|(refine gH ?_;intro g)|(refine gW ?_;intro v)|refine d197 ?_|fail)
    refine WL.y (YO.ldS (j:=0) (v:=w) (sz:=1) T.sc3 rfl hmA (by omega)) rfl rfl ?_
    rw[e0]
    repeat'(first|refine gB ?_|(refine gH ?_;intro g)|(refine gW ?_;intro v)|refine d197 ?_|fail)
    refine WL.callK (Lnh.short_c u (digs m) n (digs_Dg _) ⟨by omega,by unfold BB;omega⟩ (by omega) hm) ?_
    rintro _ _ _ ⟨w1,q,rfl,rfl,rfl,y1,y2,y3⟩
    simp only[List.nil_append,List.cons_append]
    rw[v1'] at y2
    rw[v2']
    repeat'(first|refine gB ?_|(refine gH ?_;intro g)|(refine gW ?_;intro v)|refine d197 ?_|fail)
    first|refine WL.callK (of_c w1 false q ((m / n:Nat):Int) y1 (by rw[y2,Int.natAbs_natCast,Int.toNat_natCast]) (fun _=>(decide_eq_false (Int.not_lt.2 (Int.natCast_nonneg _))).symm)) ?_|refine WD.callK (of_c w1 false q ((m / n:Nat):Int) y1 (by rw[y2,Int.natAbs_natCast,Int.toNat_natCast]) (fun _=>(decide_eq_false (Int.not_lt.2 (Int.natCast_nonneg _))).symm)) ?_|refine LO.callM (of_c w1 false q ((m / n:Nat):Int) y1 (by rw[y2,Int.natAbs_natCast,Int.toNat_natCast]) (fun _=>(decide_eq_false (Int.not_lt.2 (Int.natCast_nonneg _))).symm)) ?_
    rintro _ _ _ ⟨n1,d1,rfl,hb1,rfl,rfl⟩
    simp only[List.nil_append,List.cons_append]
    repeat'(first|refine gB ?_|(refine gH ?_;intro g)|(refine gW ?_;intro v)|refine d197 ?_|fail)
    first|refine WL.callK (unsigned_c false (m % n) ((m % n:Nat):Int) (by omega) (Int.natAbs_natCast _) (fun _=>(decide_eq_false (Int.not_lt.2 (Int.natCast_nonneg _))).symm)) ?_|refine WD.callK (unsigned_c false (m % n) ((m % n:Nat):Int) (by omega) (Int.natAbs_natCast _) (fun _=>(decide_eq_false (Int.not_lt.2 (Int.natCast_nonneg _))).symm)) ?_|refine LO.callM (unsigned_c false (m % n) ((m % n:Nat):Int) (by omega) (Int.natAbs_natCast _) (fun _=>(decide_eq_false (Int.not_lt.2 (Int.natCast_nonneg _))).symm)) ?_
    rintro _ _ _ ⟨n2,d2,rfl,hb2,rfl,rfl⟩
    simp only[List.nil_append,List.cons_append]
    repeat'(first|refine gB ?_|(refine gH ?_;intro g)|(refine gW ?_;intro v)|refine d197 ?_|fail)
    refine WC.ret ?_
    exact Fin.p [] [isZ (.agg #[.bool n1,d1]) ((m / n:Nat):Int),isZ (.agg #[.bool n2,d2]) ((m % n:Nat):Int)] (ResE.cc rfl rfl rfl meA meA T.r29 rfl T.r29 rfl) meA (List.nil_sublist _) haA ⟨n1,d1,n2,d2,rfl,hb1,hb2,rfl,rfl⟩
   ·have hlab:(digs n).length≤(digs m).length:=Nat.not_lt.1 fun hx=>hlt (digs_lt_len hx)
    repeat'(first|refine gB ?_|(refine gH ?_;intro g)|(refine gW ?_;intro v)|refine d197 ?_|fail)
    refine WL.callK (Lnl.long_c u w (digs m) (digs n) (digs_Dg _) (digs_Dg _) (digs_Nrm _) (by omega) hlab hm) ?_
    rintro _ _ _ ⟨w1,q,w2,r,rfl,rfl,rfl,y1,y2,y3,y4,y5,y6⟩
    simp only[List.nil_append,List.cons_append]
    rw[v1] at y2
    rw[v2] at y5
    repeat'(first|refine gB ?_|(refine gH ?_;intro g)|(refine gW ?_;intro v)|refine d197 ?_|fail)
    first|refine WL.callK (of_c w1 false q ((m / n:Nat):Int) y1 (by rw[y2,Int.natAbs_natCast,Int.toNat_natCast]) (fun _=>(decide_eq_false (Int.not_lt.2 (Int.natCast_nonneg _))).symm)) ?_|refine WD.callK (of_c w1 false q ((m / n:Nat):Int) y1 (by rw[y2,Int.natAbs_natCast,Int.toNat_natCast]) (fun _=>(decide_eq_false (Int.not_lt.2 (Int.natCast_nonneg _))).symm)) ?_|refine LO.callM (of_c w1 false q ((m / n:Nat):Int) y1 (by rw[y2,Int.natAbs_natCast,Int.toNat_natCast]) (fun _=>(decide_eq_false (Int.not_lt.2 (Int.natCast_nonneg _))).symm)) ?_
    rintro _ _ _ ⟨n1,d1,rfl,hb1,rfl,rfl⟩
    simp only[List.nil_append,List.cons_append]
    repeat'(first|refine gB ?_|(refine gH ?_;intro g)|(refine gW ?_;intro v)|refine d197 ?_|fail)
    first|refine WL.callK (of_c w2 false r ((m % n:Nat):Int) y4 (by rw[y5,Int.natAbs_natCast,Int.toNat_natCast]) (fun _=>(decide_eq_false (Int.not_lt.2 (Int.natCast_nonneg _))).symm)) ?_|refine WD.callK (of_c w2 false r ((m % n:Nat):Int) y4 (by rw[y5,Int.natAbs_natCast,Int.toNat_natCast]) (fun _=>(decide_eq_false (Int.not_lt.2 (Int.natCast_nonneg _))).symm)) ?_|refine LO.callM (of_c w2 false r ((m % n:Nat):Int) y4 (by rw[y5,Int.natAbs_natCast,Int.toNat_natCast]) (fun _=>(decide_eq_false (Int.not_lt.2 (Int.natCast_nonneg _))).symm)) ?_
    rintro _ _ _ ⟨n2,d2,rfl,hb2,rfl,rfl⟩
    simp only[List.nil_append,List.cons_append]
    repeat'(first|refine gB ?_|(refine gH ?_;intro g)|(refine gW ?_;intro v)|refine d197 ?_|fail)
    refine WC.ret ?_
    exact Fin.p [] [isZ (.agg #[.bool n1,d1]) ((m / n:Nat):Int),isZ (.agg #[.bool n2,d2]) ((m % n:Nat):Int)] (ResE.cc rfl rfl rfl meA meA T.r29 rfl T.r29 rfl) meA (List.nil_sublist _) haA ⟨n1,d1,n2,d2,rfl,hb1,hb2,rfl,rfl⟩
theorem abs_len {x:Int} (h:Lz x.natAbs):(digs x.natAbs).length≤1000000000:=h
theorem ediv_neg1 {x y:Int} (hx:x < 0) (hy:y≠0) (hr:x.natAbs % y.natAbs≠0):(x / y).natAbs=x.natAbs / y.natAbs+1∧x % y=(y.natAbs:Int) - ((x.natAbs % y.natAbs:Nat):Int)∧(x / y < 0↔0 < y)∧x / y≠0:=by
 have h1:=Nat.div_add_mod x.natAbs y.natAbs
 have h2:x.natAbs % y.natAbs < y.natAbs:=Nat.mod_lt _ (by omega)
 generalize x.natAbs / y.natAbs=q at *
 generalize x.natAbs % y.natAbs=r at *
 have hxe:x= -(x.natAbs:Int):=by omega
 have h3:(x.natAbs:Int)=(y.natAbs:Int)*q+r:=by rw[←h1];simp
 have key:x % y=(y.natAbs:Int) - r∧x / y=(if 0 < y then -((q:Int)+1) else(q:Int)+1):=by
  by_cases hy2:0 < y
  ·rw[if_pos hy2]
   have hye:(y.natAbs:Int)=y:=by omega
   rw[hye] at h3 ⊢
   have e:x=y*(-((q:Int)+1))+(y - r):=by rw[hxe,h3,Int.mul_neg,Int.mul_add];omega
   have:=Int.ediv_emod_unique (a:=x) (b:=y) (r:=y - r) (q:=-((q:Int)+1)) hy2
   have:=this.2 ⟨by rw[e];omega,by omega,by omega⟩
   exact⟨this.2,this.1⟩
  ·rw[if_neg hy2]
   have hye:(y.natAbs:Int)= -y:=by omega
   rw[hye] at h3 ⊢
   have e:x=(-y)*(-((q:Int)+1))+((-y) - r):=by rw[hxe,h3,Int.mul_neg,Int.mul_add];omega
   have:=Int.ediv_emod_unique (a:=x) (b:=-y) (r:=-y - r) (q:=-((q:Int)+1)) (by omega)
   have h5:=this.2 ⟨by rw[e];omega,by omega,by omega⟩
   rw[Int.ediv_neg,Int.emod_neg] at h5
   exact⟨h5.2,by omega⟩
 obtain⟨k1,k2⟩:=key
 rw[k1,k2]
 split <;> (refine⟨?_,rfl,?_,?_⟩ <;> omega)
theorem ediv_pos1 {x y:Int} (hy:y≠0) (hr:0≤x∨x.natAbs % y.natAbs=0):(x / y).natAbs=x.natAbs / y.natAbs∧x % y=((x.natAbs % y.natAbs:Nat):Int)∧(x / y≠0→(x / y < 0↔¬(x < 0↔y < 0))):=by
 have h1:=Nat.div_add_mod x.natAbs y.natAbs
 have h2:x.natAbs % y.natAbs < y.natAbs:=Nat.mod_lt _ (by omega)
 generalize x.natAbs / y.natAbs=q at *
 generalize x.natAbs % y.natAbs=r at *
 have h3:(x.natAbs:Int)=(y.natAbs:Int)*q+r:=by rw[←h1];simp
 have key:x % y=r∧x / y=(if(x < 0↔y < 0) then(q:Int) else -(q:Int)):=by
  by_cases hx:x < 0
  ·have hr0:r=0:=by omega
   subst hr0
   have hxe:x= -(x.natAbs:Int):=by omega
   by_cases hy2:0 < y
   ·rw[if_neg (by omega)]
    have hye:(y.natAbs:Int)=y:=by omega
    rw[hye] at h3
    have:=(Int.ediv_emod_unique (a:=x) (b:=y) (r:=0) (q:=-(q:Int)) hy2).2 ⟨by rw[Int.mul_neg];omega,by omega,by omega⟩
    exact⟨this.2,this.1⟩
   ·rw[if_pos (by omega)]
    have hye:(y.natAbs:Int)= -y:=by omega
    rw[hye] at h3
    have h5:=(Int.ediv_emod_unique (a:=x) (b:=-y) (r:=0) (q:=-(q:Int)) (by omega)).2 ⟨by rw[Int.mul_neg];omega,by omega,by omega⟩
    rw[Int.ediv_neg,Int.emod_neg] at h5
    exact⟨h5.2,by omega⟩
  ·have hxe:x=(x.natAbs:Int):=by omega
   by_cases hy2:0 < y
   ·rw[if_pos (by omega)]
    have hye:(y.natAbs:Int)=y:=by omega
    rw[hye] at h3
    have:=(Int.ediv_emod_unique (a:=x) (b:=y) (r:=r) (q:=(q:Int)) hy2).2 ⟨by omega,by omega,by omega⟩
    exact⟨this.2,this.1⟩
   ·rw[if_neg (by omega)]
    have hye:(y.natAbs:Int)= -y:=by omega
    rw[hye] at h3
    have h5:=(Int.ediv_emod_unique (a:=x) (b:=-y) (r:=r) (q:=(q:Int)) (by omega)).2 ⟨by omega,by omega,by omega⟩
    rw[Int.ediv_neg,Int.emod_neg] at h5
    exact⟨h5.2,by omega⟩
 obtain⟨k1,k2⟩:=key
 rw[k1,k2]
 split
 ·rename_i hc;refine⟨by omega,rfl,fun hq=>?_⟩;omega
 ·rename_i hc;refine⟨by omega,rfl,fun hq=>?_⟩;omega
theorem nneg_dec (n:Nat):false=decide ((n:Int) < 0):=(decide_eq_false (Int.not_lt.2 (Int.natCast_nonneg _))).symm
theorem gcd_step {m n:Nat} (h:0 < n):Nat.gcd n (m % n)=Nat.gcd m n:=by rw[Nat.gcd_comm m n,Nat.gcd_rec n m,Nat.gcd_comm]
set_option maxHeartbeats 4000000 in
set_option maxRecDepth 8000 in
theorem gcd_c (v1 v2:Value) (x y:Int) (h1:Lz x.natAbs) (h2:Lz y.natAbs):FnB Tryz.prog 149 [v1,v2] [] [isZ v1 x,isZ v2 y] (IsZ ((Int.gcd x y:Nat):Int)):=by
 refine fn_of [(0,v1),(1,v2)] 59 Tryz.func149 rfl Tryz.ntmps149 (by kernel_rfl) rfl suA fun h0=>?_
 refine WC.openZ (v:=v1) (z:=x) hmA fun n1 d1 hv hb1=>?_
 subst hv
 refine WC.openZ (v:=v2) (z:=y) hmA fun n2 d2 hv hb2=>?_
 subst hv
 have hg:Int.gcd x y=Nat.gcd x.natAbs y.natAbs:=rfl
 refine WC.fact (sI d1 (digs x.natAbs)) (hasZ_d hmA) ?_
 refine WC.fact (sI d2 (digs y.natAbs)) (hasZ_d hmA) ?_
 have cx:=of_c d1 false (digs x.natAbs) (x.natAbs:Int) (digs_Dg _) (by rw[val_digs];simp) (fun _=>nneg_dec _)
 have cy:=of_c d2 false (digs y.natAbs) (y.natAbs:Int) (digs_Dg _) (by rw[val_digs];simp) (fun _=>nneg_dec _)
 generalize x.natAbs=m at *
 generalize y.natAbs=n at *
 repeat'(first|refine gA ?_|(refine goG ?_;intro g)|(refine goV ?_;intro v))
 refine WC.cutP (σ:=Nat×Nat×Nat×Bool×Value×Bool×Value) (fun s=>[(5,ptr s.1),(6,ptr s.2.1),(4,ptr s.2.2.1)]) (fun s=>[Ow.cells s.2.1 29 [.bool s.2.2.2.2.2.1,s.2.2.2.2.2.2],Ow.cells s.1 29 [.bool s.2.2.2.1,s.2.2.2.2.1],Ow.cells s.2.2.1 29 [.bool false,.slice none 0 0]]) (fun s=>[ge h0,isZ (.agg #[.bool s.2.2.2.1,s.2.2.2.2.1]) m,isZ (.agg #[.bool s.2.2.2.2.2.1,s.2.2.2.2.2.2]) n]) (fun _=>True) ?_ ?_
 ·repeat'(first|refine gM ?_|(refine gI ?_;intro g)|(refine gU ?_;intro v)|refine gN ?_ ?_|refine d149 ?_|fail|((first|refine WL.callK (hv:=?hvQ) (cx) ?_|refine WD.callK (hv:=?hvQ) (cx) ?_|refine LO.callM (hv:=?hvQ) (cx) ?_);(case hvQ=>((repeat(first|exact Evs.nil|(apply Evs.cons;exact rfl)));done));rintro _ _ _ ⟨zb,zd,rfl,zh,rfl,rfl⟩;simp only[List.nil_append,List.cons_append])|((first|refine WL.callK (hv:=?hvQ) (cy) ?_|refine WD.callK (hv:=?hvQ) (cy) ?_|refine LO.callM (hv:=?hvQ) (cy) ?_);(case hvQ=>((repeat(first|exact Evs.nil|(apply Evs.cons;exact rfl)));done));rintro _ _ _ ⟨zb,zd,rfl,zh,rfl,rfl⟩;simp only[List.nil_append,List.cons_append])|fail)
  all_goals(apply Ex7;refine⟨trivial,?_,?_,?_⟩;(focus(repeat(first|exact Sub.nil _|refine Sub.cons rfl ?_)));(focus(repeat(first|exact SubP.nil _|(apply SubP.cons;(repeat(first|exact Rem.head|apply Rem.tail))))));(focus(repeat(first|exact HasAll.nil|(apply HasAll.cons;exact hsA)))))
 rintro⟨g5,g6,g4,b1,e1,b2,e2⟩ _
 simp only
 rw[hg]
 refine WC.openZ (v:=.agg #[.bool b1,e1]) (z:=(m:Int)) hmA fun b1' e1' hv hbm=>?_
 simp at hv
 obtain⟨rfl,rfl⟩:=hv
 repeat'(first|refine gM ?_|(refine gI ?_;intro g)|(refine gU ?_;intro v)|refine gN ?_ ?_|refine d149 ?_|fail)
 refine WC.lp (σ:=Nat×Nat×Bool×Value×Bool×Value) (fun s=>[(5,ptr g5),(6,ptr g6),(4,ptr g4)]) (fun s=>[Ow.cells g6 29 [.bool s.2.2.2.2.1,s.2.2.2.2.2],Ow.cells g5 29 [.bool s.2.2.1,s.2.2.2.1],Ow.cells g4 29 [.bool false,.slice none 0 0]]) (fun s=>[ge h0,isZ (.agg #[.bool s.2.2.1,s.2.2.2.1]) (s.1:Int),isZ (.agg #[.bool s.2.2.2.2.1,s.2.2.2.2.2]) (s.2.1:Int)]) (fun s=>Lz s.1∧Lz s.2.1∧s.2.2.1=decide ((s.1:Int) < 0)∧Nat.gcd s.1 s.2.1=Nat.gcd m n) (fun s=>s.2.1) (m,n,b1,e1,b2,e2) ⟨h1,h2,hbm,rfl⟩ ?_
 clear hbm cx cy h1 h2
 rintro⟨m',n',b1',e1',b2',e2'⟩ ⟨h1,h2,hbm,hmn⟩
 simp only at h1 h2 hbm hmn ⊢
 rw[←hmn]
 revert m n b1 e1 b2 e2
 intro m1 n1 hg b1 e1 b2 e2 hmn0
 clear hmn0 hg
 revert m' n' b1' e1' b2' e2'
 intro m n b1 e1 b2 e2 h1 h2 hbm
 refine WC.openZ (v:=.agg #[.bool b2,e2]) (z:=(n:Int)) hmA fun b2' e2' hv hbn=>?_
 simp at hv
 obtain⟨rfl,rfl⟩:=hv
 refine WC.fact (sI e1 (digs m)) (by simpa using hasZ_d (z:=(m:Int)) hmA) ?_
 refine WC.fact (sI e2 (digs n)) (by simpa using hasZ_d (z:=(n:Int)) hmA) ?_
 by_cases c:n=0
 ·have hl0:(digs n).length=0:=digs_len0.2 c
  repeat'(first|refine gM ?_|(refine gI ?_;intro g)|(refine gU ?_;intro v)|refine gN ?_ ?_|refine d149 ?_|fail)
  rw[c,Nat.gcd_zero_right]
  refine WC.ret ?_
  exact Fin.p [] [isZ (.agg #[.bool b1,e1]) m] (ResE.cV rfl rfl meA T.r29 rfl) meA (List.nil_sublist _) haA ⟨b1,e1,rfl,hbm,rfl,rfl⟩
 ·have hl0:0 < (digs n).length:=len_ne c
  have hr:m % n < n:=Nat.mod_lt _ (by omega)
  by_cases b1':m < B2
  ·by_cases b2':n < B2
   ·skip
    repeat'(first|refine gM ?_|(refine gI ?_;intro g)|(refine gU ?_;intro v)|refine gN ?_ ?_|refine d149 ?_|fail)
    first|refine WL.callV (two_c e1 m b1') ?_|refine WD.callV (two_c e1 m b1') ?_
    repeat'(first|refine gM ?_|(refine gI ?_;intro g)|(refine gU ?_;intro v)|refine gN ?_ ?_|refine d149 ?_|fail)
    first|refine WL.callV (two_c e2 n b2') ?_|refine WD.callV (two_c e2 n b2') ?_
    repeat'(first|refine gM ?_|(refine gI ?_;intro g)|(refine gU ?_;intro v)|refine gN ?_ ?_|refine d149 ?_|fail)
    refine WC.lp (σ:=Nat×Nat) (fun s=>[(7,.int .i64 (s.1:Int)),(9,.int .i64 (s.2:Int)),(4,ptr g4)]) (fun _=>[Ow.cells g4 29 [.bool false,.slice none 0 0]]) (fun _=>[ge h0]) (fun s=>s.1 < B2∧s.2 < B2∧Nat.gcd s.1 s.2=Nat.gcd m n) (fun s=>s.2) (m,n) ⟨b1',b2',rfl⟩ ?_
    rintro⟨p,q⟩ ⟨hp,hq,hpq⟩
    simp only at hp hq hpq ⊢
    have hp':p < 1000000000000000000:=hp
    have hq':q < 1000000000000000000:=hq
    by_cases c2:0 < q
    ·have hr:p % q < q:=Nat.mod_lt _ c2
     repeat'(first|refine gM ?_|(refine gI ?_;intro g)|(refine gU ?_;intro v)|refine gN ?_ ?_|refine d149 ?_|fail)
     exact LoopEnd.mk (q,p % q) ⟨hq,Nat.lt_trans hr hq,by rw[gcd_step c2,hpq]⟩ (by show p % q < q;exact hr) (by rw[show((p % q:Nat):Int)=(p:Int) % (q:Int) by simp];exact suA)
    ·obtain rfl:q=0:=by omega
     rw[Nat.gcd_zero_right] at hpq
     rw[←hpq]
     repeat'(first|refine gM ?_|(refine gI ?_;intro g)|(refine gU ?_;intro v)|refine gN ?_ ?_|refine d149 ?_|fail)
     first|refine WL.callK (unsigned_c false p (p:Int) (by omega) (Int.natAbs_natCast _) (fun _=>nneg_dec _)) ?_|refine WD.callK (unsigned_c false p (p:Int) (by omega) (Int.natAbs_natCast _) (fun _=>nneg_dec _)) ?_|refine LO.callM (unsigned_c false p (p:Int) (by omega) (Int.natAbs_natCast _) (fun _=>nneg_dec _)) ?_
     rintro _ _ _ ⟨nb,d,rfl,hb,rfl,rfl⟩
     simp only[List.nil_append,List.cons_append]
     repeat'(first|refine gM ?_|(refine gI ?_;intro g)|(refine gU ?_;intro v)|refine gN ?_ ?_|refine d149 ?_|fail)
     refine WC.ret ?_
     exact Fin.p [] [isZ (.agg #[.bool nb,d]) p] (ResE.cV rfl rfl meA T.r29 rfl) meA (List.nil_sublist _) haA ⟨nb,d,rfl,hb,rfl,rfl⟩
   ·repeat'(first|refine gM ?_|(refine gI ?_;intro g)|(refine gU ?_;intro v)|refine gN ?_ ?_|refine d149 ?_|fail)
    first|refine WL.callV (two_c e1 m b1') ?_|refine WD.callV (two_c e1 m b1') ?_
    repeat'(first|refine gM ?_|(refine gI ?_;intro g)|(refine gU ?_;intro v)|refine gN ?_ ?_|refine d149 ?_|fail)
    first|refine WL.callV (two0_c e2 n b2') ?_|refine WD.callV (two0_c e2 n b2') ?_
    repeat'(first|refine gM ?_|(refine gI ?_;intro g)|(refine gU ?_;intro v)|refine gN ?_ ?_|refine d149 ?_|fail)
    refine WL.callK (divide_c e1 e2 m n h1 h2 c) ?_
    rintro _ _ _ ⟨n3,d3,n4,d4,rfl,hb3,hb4,rfl,rfl⟩
    simp only[List.nil_append,List.cons_append]
    repeat'(first|refine gM ?_|(refine gI ?_;intro g)|(refine gU ?_;intro v)|refine gN ?_ ?_|refine d149 ?_|fail)
    exact LoopEnd.mk (n,m % n,b2,e2,n4,d4) ⟨h2,h2.le (Nat.le_of_lt hr),hbn,gcd_step (by omega)⟩ hr
  ·by_cases b2':n < B2
   ·repeat'(first|refine gM ?_|(refine gI ?_;intro g)|(refine gU ?_;intro v)|refine gN ?_ ?_|refine d149 ?_|fail)
    first|refine WL.callV (two0_c e1 m b1') ?_|refine WD.callV (two0_c e1 m b1') ?_
    repeat'(first|refine gM ?_|(refine gI ?_;intro g)|(refine gU ?_;intro v)|refine gN ?_ ?_|refine d149 ?_|fail)
    first|refine WL.callV (two_c e2 n b2') ?_|refine WD.callV (two_c e2 n b2') ?_
    repeat'(first|refine gM ?_|(refine gI ?_;intro g)|(refine gU ?_;intro v)|refine gN ?_ ?_|refine d149 ?_|fail)
    refine WL.callK (divide_c e1 e2 m n h1 h2 c) ?_
    rintro _ _ _ ⟨n3,d3,n4,d4,rfl,hb3,hb4,rfl,rfl⟩
    simp only[List.nil_append,List.cons_append]
    repeat'(first|refine gM ?_|(refine gI ?_;intro g)|(refine gU ?_;intro v)|refine gN ?_ ?_|refine d149 ?_|fail)
    exact LoopEnd.mk (n,m % n,b2,e2,n4,d4) ⟨h2,h2.le (Nat.le_of_lt hr),hbn,gcd_step (by omega)⟩ hr
   ·repeat'(first|refine gM ?_|(refine gI ?_;intro g)|(refine gU ?_;intro v)|refine gN ?_ ?_|refine d149 ?_|fail)
    first|refine WL.callV (two0_c e1 m b1') ?_|refine WD.callV (two0_c e1 m b1') ?_
    repeat'(first|refine gM ?_|(refine gI ?_;intro g)|(refine gU ?_;intro v)|refine gN ?_ ?_|refine d149 ?_|fail)
    first|refine WL.callV (two0_c e2 n b2') ?_|refine WD.callV (two0_c e2 n b2') ?_
    repeat'(first|refine gM ?_|(refine gI ?_;intro g)|(refine gU ?_;intro v)|refine gN ?_ ?_|refine d149 ?_|fail)
    refine WL.callK (divide_c e1 e2 m n h1 h2 c) ?_
    rintro _ _ _ ⟨n3,d3,n4,d4,rfl,hb3,hb4,rfl,rfl⟩
    simp only[List.nil_append,List.cons_append]
    repeat'(first|refine gM ?_|(refine gI ?_;intro g)|(refine gU ?_;intro v)|refine gN ?_ ?_|refine d149 ?_|fail)
    exact LoopEnd.mk (n,m % n,b2,e2,n4,d4) ⟨h2,h2.le (Nat.le_of_lt hr),hbn,gcd_step (by omega)⟩ hr
end Dvz
end Go.Proofs.YtaongbhamadlkaaGreat
namespace Go.Proofs.YtaongbhamadlkaaGreat
open W Go.RowKit
theorem len_pos {n:Nat} (h:n≠0):0 < (digs n).length:=by
 have:(digs n).length≠0:=fun h2=>h (digs_len0.1 h2)
 omega
theorem Dg.one:Dg [1]:=.cons ⟨by decide,by decide⟩ .nil
namespace Dvv
open Dvz
attribute [local irreducible] WC WL WD YO LO LoopEnd W.Fin Scalar SliceT FieldAt Row ArrT AllocT KnS Has W.One SrcE IntT
theorem d151 {G G':Prop} (h:G') (s:Bx G'→G:=by
 intro h
 first|(apply WC.drawR (id:=8) [4] [0,1] (.held 0 (.held 1 (.loud 2 (.loud 3 (.done))))) mixed (by kernel_rfl);(focus((repeat(first|exact Rems.nil _|(apply Rems.cons;exact rfl;(repeat(first|exact Rem.head|apply Rem.tail)))));done)))|fail
 exact Bx.h h):G:=s ⟨h⟩
theorem hasZ_dn {F:List Fct} {a d:Value} {n:Nat} (h:Has F (isZ (.agg #[a,d]) (n:Int))):Has F (sI d (digs n)):=by simpa using hasZ_d h
set_option maxHeartbeats 8000000 in
set_option maxRecDepth 8000 in
theorem div_c (v1 v2:Value) (x y:Int) (h1:Lz x.natAbs) (h2:Lz y.natAbs) (hy:y≠0):FnB Tryz.prog 151 [v1,v2] [] [isZ v1 x,isZ v2 y] (IsZZ (x / y) (x % y)):=by
 refine fn_of [(0,v1),(1,v2)] 55 Tryz.func151 rfl Tryz.ntmps151 (by kernel_rfl) rfl suA fun h0=>?_
 refine WC.openZ (v:=v1) (z:=x) hmA fun n1 d1 hv hb1=>?_
 subst hv
 refine WC.openZ (v:=v2) (z:=y) hmA fun n2 d2 hv hb2=>?_
 subst hv
 refine WC.fact (sI d1 (digs x.natAbs)) (hasZ_d hmA) ?_
 refine WC.fact (sI d2 (digs y.natAbs)) (hasZ_d hmA) ?_
 have hny:y.natAbs≠0:=by omega
 have hly:=len_pos hny
 repeat'(first|refine gB ?_|(refine gH ?_;intro g)|(refine gW ?_;intro v)|refine d151 ?_|fail)
 refine WL.callK (Dvz.divide_c d1 d2 x.natAbs y.natAbs h1 h2 hny) ?_
 rintro _ _ _ ⟨n3,d3,n4,d4,rfl,hb3,hb4,rfl,rfl⟩
 simp only[List.nil_append,List.cons_append]
 have hr:=Nat.mod_lt x.natAbs (show 0 < y.natAbs by omega)
 have hq0:x.natAbs / y.natAbs≤x.natAbs:=Nat.div_le_self _ _
 have e1:=@ediv_neg1 x y
 have e2:=@ediv_pos1 x y hy
 generalize hR:x.natAbs % y.natAbs=R at *
 generalize hQ:x.natAbs / y.natAbs=Q at *
 refine WL.fact' (sI d3 (digs Q)) (hasZ_dn hmA) ?_
 refine WL.fact' (sI d4 (digs R)) (hasZ_dn hmA) ?_
 obtain rfl:false=n3:=(hb3.trans (nneg_dec Q).symm).symm
 obtain rfl:false=n4:=(hb4.trans (nneg_dec R).symm).symm
 cases n1 with
 |true=>
  have hx:x < 0:=of_decide_eq_true hb1.symm
  cases n2 with
  |true=>
   have hy2:y < 0:=of_decide_eq_true hb2.symm
   by_cases hr0:R=0
   ·have hlr0:(digs R).length=0:=digs_len0.2 hr0
    obtain⟨hqa,hra,hsg⟩:=e2 (.inr hr0)
    have hq1:=fun h=>len_pos (n:=Q) h
    have hlr:True:=trivial
    by_cases hq:Q=0
    ·have hlq:(digs Q).length=0:=digs_len0.2 hq
     have hz:x / y=0:=by omega
     repeat'(first|refine gB ?_|(refine gH ?_;intro g)|(refine gW ?_;intro v)|refine d151 ?_|fail)
     rw[←hra] at hb4 ⊢
     refine WC.fact (isZ (.agg #[.bool false,d3]) (x / y)) (hasZ_of (by rw[eq_comm];simp only[decide_eq_true_eq,decide_eq_false_iff_not];omega) (by rw[hqa];exact hasZ_dn hmA)) ?_
     refine WC.ret ?_
     exact Fin.p [] [isZ (.agg #[.bool false,d3]) (x / y),isZ (.agg #[.bool false,d4]) (x % y)] (ResE.cc rfl rfl rfl meA meA T.r29 rfl T.r29 rfl) meA (List.nil_sublist _) haA ⟨false,d3,false,d4,rfl,(by rw[eq_comm];simp only[decide_eq_true_eq,decide_eq_false_iff_not];omega),hb4,rfl,rfl⟩
    ·have hlq:=hq1 hq
     have hsg:=hsg (by omega)
     repeat'(first|refine gB ?_|(refine gH ?_;intro g)|(refine gW ?_;intro v)|refine d151 ?_|fail)
     rw[←hra] at hb4 ⊢
     refine WC.fact (isZ (.agg #[.bool false,d3]) (x / y)) (hasZ_of (by rw[eq_comm];simp only[decide_eq_true_eq,decide_eq_false_iff_not];omega) (by rw[hqa];exact hasZ_dn hmA)) ?_
     refine WC.ret ?_
     exact Fin.p [] [isZ (.agg #[.bool false,d3]) (x / y),isZ (.agg #[.bool false,d4]) (x % y)] (ResE.cc rfl rfl rfl meA meA T.r29 rfl T.r29 rfl) meA (List.nil_sublist _) haA ⟨false,d3,false,d4,rfl,(by rw[eq_comm];simp only[decide_eq_true_eq,decide_eq_false_iff_not];omega),hb4,rfl,rfl⟩
   ·have hlr0:=len_pos hr0
    obtain⟨hqa,hra,hsg,hqne⟩:=e1 hx hy hr0
    repeat'(first|refine gB ?_|(refine gH ?_;intro g)|(refine gW ?_;intro v)|refine d151 ?_|fail)
    refine WL.freezeI (l:=[1]) (v:=v) (el:=3) (by repeat(first|exact Sel.head|apply Sel.tail)) ?_
    revert v;intro v1
    refine WL.callK (plus_c d3 v1 (digs Q) [1] (digs_Dg _) .one (h1.le hq0) (by decide)) ?_
    rintro v2 _ _ ⟨l2,rfl,rfl,hd2,hv2,hl2⟩
    simp only[List.nil_append,List.cons_append]
    first|refine WL.callK (of_c v2 false l2 ((Q+1:Nat):Int) hd2 (by rw[hv2,val_digs];show((Q+1:Nat):Int).natAbs=((Q:Int)+(1+1000000000*0)).toNat;omega) (fun _=>nneg_dec _)) ?_|refine WD.callK (of_c v2 false l2 ((Q+1:Nat):Int) hd2 (by rw[hv2,val_digs];show((Q+1:Nat):Int).natAbs=((Q:Int)+(1+1000000000*0)).toNat;omega) (fun _=>nneg_dec _)) ?_|refine LO.callM (of_c v2 false l2 ((Q+1:Nat):Int) hd2 (by rw[hv2,val_digs];show((Q+1:Nat):Int).natAbs=((Q:Int)+(1+1000000000*0)).toNat;omega) (fun _=>nneg_dec _)) ?_
    rintro _ _ _ ⟨n5,d5,rfl,hb5,rfl,rfl⟩
    simp only[List.nil_append,List.cons_append]
    repeat'(first|refine gB ?_|(refine gH ?_;intro g)|(refine gW ?_;intro v)|refine d151 ?_|fail)
    have hlen:(digs R).length≤(digs y.natAbs).length:=Nat.le_of_not_lt fun h=>by have:=digs_lt_len h;omega
    refine WL.callK (Mns.minus_c d2 d4 (digs y.natAbs) (digs R) (digs_Dg _) (digs_Dg _) (abs_len h2) hlen hly (by rw[val_digs,val_digs];omega)) ?_
    rintro v3 _ _ ⟨l3,rfl,rfl,hd3,hv3,hl3⟩
    simp only[List.nil_append,List.cons_append]
    first|refine WL.callK (of_c v3 false l3 (x % y) hd3 (by rw[hv3,hra,val_digs,val_digs];omega) (fun _=>by rw[hra];exact(decide_eq_false (by omega)).symm)) ?_|refine WD.callK (of_c v3 false l3 (x % y) hd3 (by rw[hv3,hra,val_digs,val_digs];omega) (fun _=>by rw[hra];exact(decide_eq_false (by omega)).symm)) ?_|refine LO.callM (of_c v3 false l3 (x % y) hd3 (by rw[hv3,hra,val_digs,val_digs];omega) (fun _=>by rw[hra];exact(decide_eq_false (by omega)).symm)) ?_
    rintro _ _ _ ⟨n4,d6,rfl,hb4,rfl,rfl⟩
    simp only[List.nil_append,List.cons_append]
    obtain rfl:false=n5:=(hb5.trans (nneg_dec _).symm).symm
    have hlq:0 < (digs (Q+1)).length:=len_pos (by omega)
    have hlq2:0 < (digs ((Q+1:Nat):Int).natAbs).length:=hlq
    repeat'(first|refine gB ?_|(refine gH ?_;intro g)|(refine gW ?_;intro v)|refine d151 ?_|fail)
    refine WC.fact (isZ (.agg #[.bool false,d5]) (x / y)) (hasZ_of (by rw[eq_comm];simp only[decide_eq_true_eq,decide_eq_false_iff_not];omega) (by rw[hqa];exact hasZ_dn hmA)) ?_
    refine WC.ret ?_
    exact Fin.p [] [isZ (.agg #[.bool false,d5]) (x / y),isZ (.agg #[.bool n4,d6]) (x % y)] (ResE.cc rfl rfl rfl meA meA T.r29 rfl T.r29 rfl) meA (List.nil_sublist _) haA ⟨false,d5,n4,d6,rfl,(by rw[eq_comm];simp only[decide_eq_true_eq,decide_eq_false_iff_not];omega),hb4,rfl,rfl⟩
  |false=>
   have hy2:¬y < 0:=of_decide_eq_false hb2.symm
   by_cases hr0:R=0
   ·have hlr0:(digs R).length=0:=digs_len0.2 hr0
    obtain⟨hqa,hra,hsg⟩:=e2 (.inr hr0)
    have hq1:=fun h=>len_pos (n:=Q) h
    have hlr:True:=trivial
    by_cases hq:Q=0
    ·have hlq:(digs Q).length=0:=digs_len0.2 hq
     have hz:x / y=0:=by omega
     repeat'(first|refine gB ?_|(refine gH ?_;intro g)|(refine gW ?_;intro v)|refine d151 ?_|fail)
     rw[←hra] at hb4 ⊢
     refine WC.fact (isZ (.agg #[.bool false,d3]) (x / y)) (hasZ_of (by rw[eq_comm];simp only[decide_eq_true_eq,decide_eq_false_iff_not];omega) (by rw[hqa];exact hasZ_dn hmA)) ?_
     refine WC.ret ?_
     exact Fin.p [] [isZ (.agg #[.bool false,d3]) (x / y),isZ (.agg #[.bool false,d4]) (x % y)] (ResE.cc rfl rfl rfl meA meA T.r29 rfl T.r29 rfl) meA (List.nil_sublist _) haA ⟨false,d3,false,d4,rfl,(by rw[eq_comm];simp only[decide_eq_true_eq,decide_eq_false_iff_not];omega),hb4,rfl,rfl⟩
    ·have hlq:=hq1 hq
     have hsg:=hsg (by omega)
     repeat'(first|refine gB ?_|(refine gH ?_;intro g)|(refine gW ?_;intro v)|refine d151 ?_|fail)
     rw[←hra] at hb4 ⊢
     refine WC.fact (isZ (.agg #[.bool true,d3]) (x / y)) (hasZ_of (by rw[eq_comm];simp only[decide_eq_true_eq,decide_eq_false_iff_not];omega) (by rw[hqa];exact hasZ_dn hmA)) ?_
     refine WC.ret ?_
     exact Fin.p [] [isZ (.agg #[.bool true,d3]) (x / y),isZ (.agg #[.bool false,d4]) (x % y)] (ResE.cc rfl rfl rfl meA meA T.r29 rfl T.r29 rfl) meA (List.nil_sublist _) haA ⟨true,d3,false,d4,rfl,(by rw[eq_comm];simp only[decide_eq_true_eq,decide_eq_false_iff_not];omega),hb4,rfl,rfl⟩
   ·have hlr0:=len_pos hr0
    obtain⟨hqa,hra,hsg,hqne⟩:=e1 hx hy hr0
    repeat'(first|refine gB ?_|(refine gH ?_;intro g)|(refine gW ?_;intro v)|refine d151 ?_|fail)
    refine WL.freezeI (l:=[1]) (v:=v) (el:=3) (by repeat(first|exact Sel.head|apply Sel.tail)) ?_
    revert v;intro v1
    refine WL.callK (plus_c d3 v1 (digs Q) [1] (digs_Dg _) .one (h1.le hq0) (by decide)) ?_
    rintro v2 _ _ ⟨l2,rfl,rfl,hd2,hv2,hl2⟩
    simp only[List.nil_append,List.cons_append]
    first|refine WL.callK (of_c v2 false l2 ((Q+1:Nat):Int) hd2 (by rw[hv2,val_digs];show((Q+1:Nat):Int).natAbs=((Q:Int)+(1+1000000000*0)).toNat;omega) (fun _=>nneg_dec _)) ?_|refine WD.callK (of_c v2 false l2 ((Q+1:Nat):Int) hd2 (by rw[hv2,val_digs];show((Q+1:Nat):Int).natAbs=((Q:Int)+(1+1000000000*0)).toNat;omega) (fun _=>nneg_dec _)) ?_|refine LO.callM (of_c v2 false l2 ((Q+1:Nat):Int) hd2 (by rw[hv2,val_digs];show((Q+1:Nat):Int).natAbs=((Q:Int)+(1+1000000000*0)).toNat;omega) (fun _=>nneg_dec _)) ?_
    rintro _ _ _ ⟨n5,d5,rfl,hb5,rfl,rfl⟩
    simp only[List.nil_append,List.cons_append]
    repeat'(first|refine gB ?_|(refine gH ?_;intro g)|(refine gW ?_;intro v)|refine d151 ?_|fail)
    have hlen:(digs R).length≤(digs y.natAbs).length:=Nat.le_of_not_lt fun h=>by have:=digs_lt_len h;omega
    refine WL.callK (Mns.minus_c d2 d4 (digs y.natAbs) (digs R) (digs_Dg _) (digs_Dg _) (abs_len h2) hlen hly (by rw[val_digs,val_digs];omega)) ?_
    rintro v3 _ _ ⟨l3,rfl,rfl,hd3,hv3,hl3⟩
    simp only[List.nil_append,List.cons_append]
    first|refine WL.callK (of_c v3 false l3 (x % y) hd3 (by rw[hv3,hra,val_digs,val_digs];omega) (fun _=>by rw[hra];exact(decide_eq_false (by omega)).symm)) ?_|refine WD.callK (of_c v3 false l3 (x % y) hd3 (by rw[hv3,hra,val_digs,val_digs];omega) (fun _=>by rw[hra];exact(decide_eq_false (by omega)).symm)) ?_|refine LO.callM (of_c v3 false l3 (x % y) hd3 (by rw[hv3,hra,val_digs,val_digs];omega) (fun _=>by rw[hra];exact(decide_eq_false (by omega)).symm)) ?_
    rintro _ _ _ ⟨n4,d6,rfl,hb4,rfl,rfl⟩
    simp only[List.nil_append,List.cons_append]
    obtain rfl:false=n5:=(hb5.trans (nneg_dec _).symm).symm
    have hlq:0 < (digs (Q+1)).length:=len_pos (by omega)
    have hlq2:0 < (digs ((Q+1:Nat):Int).natAbs).length:=hlq
    repeat'(first|refine gB ?_|(refine gH ?_;intro g)|(refine gW ?_;intro v)|refine d151 ?_|fail)
    refine WC.fact (isZ (.agg #[.bool true,d5]) (x / y)) (hasZ_of (by rw[eq_comm];simp only[decide_eq_true_eq,decide_eq_false_iff_not];omega) (by rw[hqa];exact hasZ_dn hmA)) ?_
    refine WC.ret ?_
    exact Fin.p [] [isZ (.agg #[.bool true,d5]) (x / y),isZ (.agg #[.bool n4,d6]) (x % y)] (ResE.cc rfl rfl rfl meA meA T.r29 rfl T.r29 rfl) meA (List.nil_sublist _) haA ⟨true,d5,n4,d6,rfl,(by rw[eq_comm];simp only[decide_eq_true_eq,decide_eq_false_iff_not];omega),hb4,rfl,rfl⟩
 |false=>
  have hx:¬x < 0:=of_decide_eq_false hb1.symm
  cases n2 with
  |true=>
   have hy2:y < 0:=of_decide_eq_true hb2.symm
   obtain⟨hqa,hra,hsg⟩:=e2 (.inl (by omega))
   have hq1:=fun h=>len_pos (n:=Q) h
   have hlr:True:=trivial
   by_cases hq:Q=0
   ·have hlq:(digs Q).length=0:=digs_len0.2 hq
    have hz:x / y=0:=by omega
    repeat'(first|refine gB ?_|(refine gH ?_;intro g)|(refine gW ?_;intro v)|refine d151 ?_|fail)
    rw[←hra] at hb4 ⊢
    refine WC.fact (isZ (.agg #[.bool false,d3]) (x / y)) (hasZ_of (by rw[eq_comm];simp only[decide_eq_true_eq,decide_eq_false_iff_not];omega) (by rw[hqa];exact hasZ_dn hmA)) ?_
    refine WC.ret ?_
    exact Fin.p [] [isZ (.agg #[.bool false,d3]) (x / y),isZ (.agg #[.bool false,d4]) (x % y)] (ResE.cc rfl rfl rfl meA meA T.r29 rfl T.r29 rfl) meA (List.nil_sublist _) haA ⟨false,d3,false,d4,rfl,(by rw[eq_comm];simp only[decide_eq_true_eq,decide_eq_false_iff_not];omega),hb4,rfl,rfl⟩
   ·have hlq:=hq1 hq
    have hsg:=hsg (by omega)
    repeat'(first|refine gB ?_|(refine gH ?_;intro g)|(refine gW ?_;intro v)|refine d151 ?_|fail)
    rw[←hra] at hb4 ⊢
    refine WC.fact (isZ (.agg #[.bool true,d3]) (x / y)) (hasZ_of (by rw[eq_comm];simp only[decide_eq_true_eq,decide_eq_false_iff_not];omega) (by rw[hqa];exact hasZ_dn hmA)) ?_
    refine WC.ret ?_
    exact Fin.p [] [isZ (.agg #[.bool true,d3]) (x / y),isZ (.agg #[.bool false,d4]) (x % y)] (ResE.cc rfl rfl rfl meA meA T.r29 rfl T.r29 rfl) meA (List.nil_sublist _) haA ⟨true,d3,false,d4,rfl,(by rw[eq_comm];simp only[decide_eq_true_eq,decide_eq_false_iff_not];omega),hb4,rfl,rfl⟩
  |false=>
   have hy2:¬y < 0:=of_decide_eq_false hb2.symm
   obtain⟨hqa,hra,hsg⟩:=e2 (.inl (by omega))
   have hq1:=fun h=>len_pos (n:=Q) h
   have hlr:True:=trivial
   by_cases hq:Q=0
   ·have hlq:(digs Q).length=0:=digs_len0.2 hq
    have hz:x / y=0:=by omega
    repeat'(first|refine gB ?_|(refine gH ?_;intro g)|(refine gW ?_;intro v)|refine d151 ?_|fail)
    rw[←hra] at hb4 ⊢
    refine WC.fact (isZ (.agg #[.bool false,d3]) (x / y)) (hasZ_of (by rw[eq_comm];simp only[decide_eq_true_eq,decide_eq_false_iff_not];omega) (by rw[hqa];exact hasZ_dn hmA)) ?_
    refine WC.ret ?_
    exact Fin.p [] [isZ (.agg #[.bool false,d3]) (x / y),isZ (.agg #[.bool false,d4]) (x % y)] (ResE.cc rfl rfl rfl meA meA T.r29 rfl T.r29 rfl) meA (List.nil_sublist _) haA ⟨false,d3,false,d4,rfl,(by rw[eq_comm];simp only[decide_eq_true_eq,decide_eq_false_iff_not];omega),hb4,rfl,rfl⟩
   ·have hlq:=hq1 hq
    have hsg:=hsg (by omega)
    repeat'(first|refine gB ?_|(refine gH ?_;intro g)|(refine gW ?_;intro v)|refine d151 ?_|fail)
    rw[←hra] at hb4 ⊢
    refine WC.fact (isZ (.agg #[.bool false,d3]) (x / y)) (hasZ_of (by rw[eq_comm];simp only[decide_eq_true_eq,decide_eq_false_iff_not];omega) (by rw[hqa];exact hasZ_dn hmA)) ?_
    refine WC.ret ?_
    exact Fin.p [] [isZ (.agg #[.bool false,d3]) (x / y),isZ (.agg #[.bool false,d4]) (x % y)] (ResE.cc rfl rfl rfl meA meA T.r29 rfl T.r29 rfl) meA (List.nil_sublist _) haA ⟨false,d3,false,d4,rfl,(by rw[eq_comm];simp only[decide_eq_true_eq,decide_eq_false_iff_not];omega),hb4,rfl,rfl⟩
end Dvv
end Go.Proofs.YtaongbhamadlkaaGreat
namespace Go.Proofs.YtaongbhamadlkaaGreat
open W Go.RowKit
theorem cmpI_pp {x y:Int} (hx:¬x < 0) (hy:¬y < 0):cmpN x.natAbs y.natAbs=cmpI x y:=by
 unfold cmpN cmpI;split <;> split <;> first|rfl|(split <;> first|rfl|omega)|omega
theorem cmpI_nn {x y:Int} (hx:x < 0) (hy:y < 0):cmpN y.natAbs x.natAbs=cmpI x y:=by
 unfold cmpN cmpI;split <;> split <;> first|rfl|(split <;> first|rfl|omega)|omega
namespace Adc
attribute [local irreducible] WC WL WD YO LO LoopEnd W.Fin Scalar SliceT FieldAt Row ArrT AllocT KnS Has W.One SrcE IntT
theorem d96 {G G':Prop} (h:G') (s:Bx G'→G:=by
 intro h
 first|(apply WC.draw (id:=2) [0,1,2,3,4,5] (.held 0 (.held 1 (.held 2 (.held 3 (.held 4 (.held 5 (.loud 6 (.loud 7 (.loud 8 (.done)))))))))) mixed (by kernel_rfl))|(apply WC.draw (id:=4) [0,1,2,3,4,5] (.held 0 (.held 1 (.held 2 (.held 3 (.held 4 (.held 5 (.loud 6 (.loud 7 (.loud 8 (.done)))))))))) mixed (by kernel_rfl))|(apply WC.draw (id:=5) [0,1,2,3,4,5] (.held 0 (.held 1 (.held 2 (.held 3 (.held 4 (.held 5 (.loud 6 (.loud 7 (.loud 8 (.done)))))))))) mixed (by kernel_rfl))|fail
 exact Bx.h h):G:=s ⟨h⟩
set_option maxHeartbeats 4000000 in
set_option maxRecDepth 8000 in
theorem icompare_c (v1 v2:Value) (x y:Int):FnB Tryz.prog 97 [v1,v2] [] [isZ v1 x,isZ v2 y] (IsV (.int .i64 (cmpI x y))):=by
 refine fn_of [(0,v1),(1,v2)] 34 Tryz.func97 rfl Tryz.ntmps97 (by kernel_rfl) rfl suA fun h0=>?_
 refine WC.openZ (v:=v1) (z:=x) hmA fun n1 d1 hv hb1=>?_
 subst hv
 refine WC.openZ (v:=v2) (z:=y) hmA fun n2 d2 hv hb2=>?_
 subst hv
 refine WC.fact (sI d1 (digs x.natAbs)) (hasZ_d hmA) ?_
 refine WC.fact (sI d2 (digs y.natAbs)) (hasZ_d hmA) ?_
 cases n1 with
 |true=>
  have hx:x < 0:=of_decide_eq_true hb1.symm
  cases n2 with
  |true=>
   have hy:y < 0:=of_decide_eq_true hb2.symm
   repeat'(first|refine gA ?_|(refine goG ?_;intro g)|(refine goV ?_;intro v))
   first|refine WL.callV (compare_c d2 d1 y.natAbs x.natAbs) ?_|refine WD.callV (compare_c d2 d1 y.natAbs x.natAbs) ?_
   rw[cmpI_nn hx hy]
   repeat'(first|refine gA ?_|(refine goG ?_;intro g)|(refine goV ?_;intro v))
   refine WC.ret ?_
   exact Fin.v (ResE.t1 rfl rfl) meA rfl
  |false=>
   have hy:¬y < 0:=of_decide_eq_false hb2.symm
   repeat'(first|refine gA ?_|(refine goG ?_;intro g)|(refine goV ?_;intro v))
   refine WC.ret ?_
   exact Fin.v (ResE.t1 rfl rfl) meA (by rw[cmpI_lt (by omega)])
 |false=>
  have hx:¬x < 0:=of_decide_eq_false hb1.symm
  cases n2 with
  |true=>
   have hy:y < 0:=of_decide_eq_true hb2.symm
   repeat'(first|refine gA ?_|(refine goG ?_;intro g)|(refine goV ?_;intro v))
   refine WC.ret ?_
   exact Fin.v (ResE.t1 rfl rfl) meA (by rw[cmpI_gt (by omega)])
  |false=>
   have hy:¬y < 0:=of_decide_eq_false hb2.symm
   repeat'(first|refine gA ?_|(refine goG ?_;intro g)|(refine goV ?_;intro v))
   first|refine WL.callV (compare_c d1 d2 x.natAbs y.natAbs) ?_|refine WD.callV (compare_c d1 d2 x.natAbs y.natAbs) ?_
   rw[cmpI_pp hx hy]
   repeat'(first|refine gA ?_|(refine goG ?_;intro g)|(refine goV ?_;intro v))
   refine WC.ret ?_
   exact Fin.v (ResE.t1 rfl rfl) meA rfl
set_option maxHeartbeats 4000000 in
set_option maxRecDepth 8000 in
theorem add_c (v1 v2:Value) (x y:Int) (h1:(digs x.natAbs).length≤1000000000) (h2:(digs y.natAbs).length≤1000000000):FnB Tryz.prog 96 [v1,v2] [] [isZ v1 x,isZ v2 y] (IsZ (x+y)):=by
 refine fn_of [(0,v1),(1,v2)] 42 Tryz.func96 rfl Tryz.ntmps96 (by kernel_rfl) rfl suA fun h0=>?_
 refine WC.openZ (v:=v1) (z:=x) hmA fun n1 d1 hv hb1=>?_
 subst hv
 refine WC.openZ (v:=v2) (z:=y) hmA fun n2 d2 hv hb2=>?_
 subst hv
 refine WC.fact (sI d1 (digs x.natAbs)) (hasZ_d hmA) ?_
 refine WC.fact (sI d2 (digs y.natAbs)) (hasZ_d hmA) ?_
 cases n1 with
 |true=>
  have hx:x < 0:=of_decide_eq_true hb1.symm
  cases n2 with
  |true=>
   have hy:y < 0:=of_decide_eq_true hb2.symm
   repeat'(first|refine gB ?_|(refine gH ?_;intro g)|(refine gW ?_;intro v)|refine d96 ?_|fail)
   first|refine WL.callK (plus_c d1 d2 (digs x.natAbs) (digs y.natAbs) (digs_Dg _) (digs_Dg _) h1 h2) ?_|refine WD.callK (plus_c d1 d2 (digs x.natAbs) (digs y.natAbs) (digs_Dg _) (digs_Dg _) h1 h2) ?_|refine LO.callM (plus_c d1 d2 (digs x.natAbs) (digs y.natAbs) (digs_Dg _) (digs_Dg _) h1 h2) ?_
   rintro u _ _ ⟨l,rfl,rfl,hd,hv,hl⟩
   simp only[List.nil_append,List.cons_append]
   rw[val_digs,val_digs] at hv
   repeat'(first|refine gB ?_|(refine gH ?_;intro g)|(refine gW ?_;intro v)|refine d96 ?_|fail)
   first|refine WL.callK (of_c u true l (x+y) hd (by rw[hv];omega) (fun _=>by rw[eq_comm,decide_eq_true_eq];omega)) ?_|refine WD.callK (of_c u true l (x+y) hd (by rw[hv];omega) (fun _=>by rw[eq_comm,decide_eq_true_eq];omega)) ?_|refine LO.callM (of_c u true l (x+y) hd (by rw[hv];omega) (fun _=>by rw[eq_comm,decide_eq_true_eq];omega)) ?_
   rintro _ _ _ ⟨nb,d,rfl,hb,rfl,rfl⟩
   simp only[List.nil_append,List.cons_append]
   repeat'(first|refine gB ?_|(refine gH ?_;intro g)|(refine gW ?_;intro v)|refine d96 ?_|fail)
   refine WC.ret ?_
   exact Fin.p [] [isZ (.agg #[.bool nb,d]) (x+y)] (ResE.cV rfl rfl meA T.r29 rfl) meA (List.nil_sublist _) haA ⟨nb,_,rfl,hb,rfl,rfl⟩
  |false=>
   have hy:¬y < 0:=of_decide_eq_false hb2.symm
   repeat'(first|refine gB ?_|(refine gH ?_;intro g)|(refine gW ?_;intro v)|refine d96 ?_|fail)
   first|refine WL.callV (compare_c d1 d2 x.natAbs y.natAbs) ?_|refine WD.callV (compare_c d1 d2 x.natAbs y.natAbs) ?_
   by_cases c:x.natAbs < y.natAbs
   ·rw[cmpN_lt c]
    have hlen:(digs x.natAbs).length≤(digs y.natAbs).length:=Nat.le_of_not_lt fun h=>by have:=digs_lt_len h;omega
    repeat'(first|refine gB ?_|(refine gH ?_;intro g)|(refine gW ?_;intro v)|refine d96 ?_|fail)
    first|refine WL.callK (Mns.minus_c d2 d1 (digs y.natAbs) (digs x.natAbs) (digs_Dg _) (digs_Dg _) h2 hlen (len_pos (by omega)) (by rw[val_digs,val_digs];omega)) ?_|refine WD.callK (Mns.minus_c d2 d1 (digs y.natAbs) (digs x.natAbs) (digs_Dg _) (digs_Dg _) h2 hlen (len_pos (by omega)) (by rw[val_digs,val_digs];omega)) ?_|refine LO.callM (Mns.minus_c d2 d1 (digs y.natAbs) (digs x.natAbs) (digs_Dg _) (digs_Dg _) h2 hlen (len_pos (by omega)) (by rw[val_digs,val_digs];omega)) ?_
    rintro u _ _ ⟨l,rfl,rfl,hd,hv,hl⟩
    simp only[List.nil_append,List.cons_append]
    rw[val_digs,val_digs] at hv
    repeat'(first|refine gB ?_|(refine gH ?_;intro g)|(refine gW ?_;intro v)|refine d96 ?_|fail)
    first|refine WL.callK (of_c u false l (x+y) hd (by rw[hv];omega) (fun _=>by rw[eq_comm,decide_eq_false_iff_not];omega)) ?_|refine WD.callK (of_c u false l (x+y) hd (by rw[hv];omega) (fun _=>by rw[eq_comm,decide_eq_false_iff_not];omega)) ?_|refine LO.callM (of_c u false l (x+y) hd (by rw[hv];omega) (fun _=>by rw[eq_comm,decide_eq_false_iff_not];omega)) ?_
    rintro _ _ _ ⟨nb,d,rfl,hb,rfl,rfl⟩
    simp only[List.nil_append,List.cons_append]
    repeat'(first|refine gB ?_|(refine gH ?_;intro g)|(refine gW ?_;intro v)|refine d96 ?_|fail)
    refine WC.ret ?_
    exact Fin.p [] [isZ (.agg #[.bool nb,d]) (x+y)] (ResE.cV rfl rfl meA T.r29 rfl) meA (List.nil_sublist _) haA ⟨nb,_,rfl,hb,rfl,rfl⟩
   ·have hc0:cmpN x.natAbs y.natAbs=0∨cmpN x.natAbs y.natAbs=1:=by
     by_cases c2:y.natAbs < x.natAbs
     ·exact .inr (cmpN_gt c2)
     ·rw[show x.natAbs=y.natAbs by omega];exact .inl (cmpN_eq _)
    have hlen:(digs y.natAbs).length≤(digs x.natAbs).length:=Nat.le_of_not_lt fun h=>by have:=digs_lt_len h;omega
    repeat'(first|refine gB ?_|(refine gH ?_;intro g)|(refine gW ?_;intro v)|refine d96 ?_|fail)
    first|refine WL.callK (Mns.minus_c d1 d2 (digs x.natAbs) (digs y.natAbs) (digs_Dg _) (digs_Dg _) h1 hlen (len_pos (by omega)) (by rw[val_digs,val_digs];omega)) ?_|refine WD.callK (Mns.minus_c d1 d2 (digs x.natAbs) (digs y.natAbs) (digs_Dg _) (digs_Dg _) h1 hlen (len_pos (by omega)) (by rw[val_digs,val_digs];omega)) ?_|refine LO.callM (Mns.minus_c d1 d2 (digs x.natAbs) (digs y.natAbs) (digs_Dg _) (digs_Dg _) h1 hlen (len_pos (by omega)) (by rw[val_digs,val_digs];omega)) ?_
    rintro u _ _ ⟨l,rfl,rfl,hd,hv,hl⟩
    simp only[List.nil_append,List.cons_append]
    rw[val_digs,val_digs] at hv
    repeat'(first|refine gB ?_|(refine gH ?_;intro g)|(refine gW ?_;intro v)|refine d96 ?_|fail)
    first|refine WL.callK (of_c u true l (x+y) hd (by rw[hv];omega) (fun hne=>by rw[hv] at hne;rw[eq_comm,decide_eq_true_eq];omega)) ?_|refine WD.callK (of_c u true l (x+y) hd (by rw[hv];omega) (fun hne=>by rw[hv] at hne;rw[eq_comm,decide_eq_true_eq];omega)) ?_|refine LO.callM (of_c u true l (x+y) hd (by rw[hv];omega) (fun hne=>by rw[hv] at hne;rw[eq_comm,decide_eq_true_eq];omega)) ?_
    rintro _ _ _ ⟨nb,d,rfl,hb,rfl,rfl⟩
    simp only[List.nil_append,List.cons_append]
    repeat'(first|refine gB ?_|(refine gH ?_;intro g)|(refine gW ?_;intro v)|refine d96 ?_|fail)
    refine WC.ret ?_
    exact Fin.p [] [isZ (.agg #[.bool nb,d]) (x+y)] (ResE.cV rfl rfl meA T.r29 rfl) meA (List.nil_sublist _) haA ⟨nb,_,rfl,hb,rfl,rfl⟩
 |false=>
  have hx:¬x < 0:=of_decide_eq_false hb1.symm
  cases n2 with
  |true=>
   have hy:y < 0:=of_decide_eq_true hb2.symm
   repeat'(first|refine gB ?_|(refine gH ?_;intro g)|(refine gW ?_;intro v)|refine d96 ?_|fail)
   first|refine WL.callV (compare_c d1 d2 x.natAbs y.natAbs) ?_|refine WD.callV (compare_c d1 d2 x.natAbs y.natAbs) ?_
   by_cases c:x.natAbs < y.natAbs
   ·rw[cmpN_lt c]
    have hlen:(digs x.natAbs).length≤(digs y.natAbs).length:=Nat.le_of_not_lt fun h=>by have:=digs_lt_len h;omega
    repeat'(first|refine gB ?_|(refine gH ?_;intro g)|(refine gW ?_;intro v)|refine d96 ?_|fail)
    first|refine WL.callK (Mns.minus_c d2 d1 (digs y.natAbs) (digs x.natAbs) (digs_Dg _) (digs_Dg _) h2 hlen (len_pos (by omega)) (by rw[val_digs,val_digs];omega)) ?_|refine WD.callK (Mns.minus_c d2 d1 (digs y.natAbs) (digs x.natAbs) (digs_Dg _) (digs_Dg _) h2 hlen (len_pos (by omega)) (by rw[val_digs,val_digs];omega)) ?_|refine LO.callM (Mns.minus_c d2 d1 (digs y.natAbs) (digs x.natAbs) (digs_Dg _) (digs_Dg _) h2 hlen (len_pos (by omega)) (by rw[val_digs,val_digs];omega)) ?_
    rintro u _ _ ⟨l,rfl,rfl,hd,hv,hl⟩
    simp only[List.nil_append,List.cons_append]
    rw[val_digs,val_digs] at hv
    repeat'(first|refine gB ?_|(refine gH ?_;intro g)|(refine gW ?_;intro v)|refine d96 ?_|fail)
    first|refine WL.callK (of_c u true l (x+y) hd (by rw[hv];omega) (fun _=>by rw[eq_comm,decide_eq_true_eq];omega)) ?_|refine WD.callK (of_c u true l (x+y) hd (by rw[hv];omega) (fun _=>by rw[eq_comm,decide_eq_true_eq];omega)) ?_|refine LO.callM (of_c u true l (x+y) hd (by rw[hv];omega) (fun _=>by rw[eq_comm,decide_eq_true_eq];omega)) ?_
    rintro _ _ _ ⟨nb,d,rfl,hb,rfl,rfl⟩
    simp only[List.nil_append,List.cons_append]
    repeat'(first|refine gB ?_|(refine gH ?_;intro g)|(refine gW ?_;intro v)|refine d96 ?_|fail)
    refine WC.ret ?_
    exact Fin.p [] [isZ (.agg #[.bool nb,d]) (x+y)] (ResE.cV rfl rfl meA T.r29 rfl) meA (List.nil_sublist _) haA ⟨nb,_,rfl,hb,rfl,rfl⟩
   ·have hc0:cmpN x.natAbs y.natAbs=0∨cmpN x.natAbs y.natAbs=1:=by
     by_cases c2:y.natAbs < x.natAbs
     ·exact .inr (cmpN_gt c2)
     ·rw[show x.natAbs=y.natAbs by omega];exact .inl (cmpN_eq _)
    have hlen:(digs y.natAbs).length≤(digs x.natAbs).length:=Nat.le_of_not_lt fun h=>by have:=digs_lt_len h;omega
    repeat'(first|refine gB ?_|(refine gH ?_;intro g)|(refine gW ?_;intro v)|refine d96 ?_|fail)
    first|refine WL.callK (Mns.minus_c d1 d2 (digs x.natAbs) (digs y.natAbs) (digs_Dg _) (digs_Dg _) h1 hlen (len_pos (by omega)) (by rw[val_digs,val_digs];omega)) ?_|refine WD.callK (Mns.minus_c d1 d2 (digs x.natAbs) (digs y.natAbs) (digs_Dg _) (digs_Dg _) h1 hlen (len_pos (by omega)) (by rw[val_digs,val_digs];omega)) ?_|refine LO.callM (Mns.minus_c d1 d2 (digs x.natAbs) (digs y.natAbs) (digs_Dg _) (digs_Dg _) h1 hlen (len_pos (by omega)) (by rw[val_digs,val_digs];omega)) ?_
    rintro u _ _ ⟨l,rfl,rfl,hd,hv,hl⟩
    simp only[List.nil_append,List.cons_append]
    rw[val_digs,val_digs] at hv
    repeat'(first|refine gB ?_|(refine gH ?_;intro g)|(refine gW ?_;intro v)|refine d96 ?_|fail)
    first|refine WL.callK (of_c u false l (x+y) hd (by rw[hv];omega) (fun hne=>by rw[hv] at hne;rw[eq_comm,decide_eq_false_iff_not];omega)) ?_|refine WD.callK (of_c u false l (x+y) hd (by rw[hv];omega) (fun hne=>by rw[hv] at hne;rw[eq_comm,decide_eq_false_iff_not];omega)) ?_|refine LO.callM (of_c u false l (x+y) hd (by rw[hv];omega) (fun hne=>by rw[hv] at hne;rw[eq_comm,decide_eq_false_iff_not];omega)) ?_
    rintro _ _ _ ⟨nb,d,rfl,hb,rfl,rfl⟩
    simp only[List.nil_append,List.cons_append]
    repeat'(first|refine gB ?_|(refine gH ?_;intro g)|(refine gW ?_;intro v)|refine d96 ?_|fail)
    refine WC.ret ?_
    exact Fin.p [] [isZ (.agg #[.bool nb,d]) (x+y)] (ResE.cV rfl rfl meA T.r29 rfl) meA (List.nil_sublist _) haA ⟨nb,_,rfl,hb,rfl,rfl⟩
  |false=>
   have hy:¬y < 0:=of_decide_eq_false hb2.symm
   repeat'(first|refine gB ?_|(refine gH ?_;intro g)|(refine gW ?_;intro v)|refine d96 ?_|fail)
   first|refine WL.callK (plus_c d1 d2 (digs x.natAbs) (digs y.natAbs) (digs_Dg _) (digs_Dg _) h1 h2) ?_|refine WD.callK (plus_c d1 d2 (digs x.natAbs) (digs y.natAbs) (digs_Dg _) (digs_Dg _) h1 h2) ?_|refine LO.callM (plus_c d1 d2 (digs x.natAbs) (digs y.natAbs) (digs_Dg _) (digs_Dg _) h1 h2) ?_
   rintro u _ _ ⟨l,rfl,rfl,hd,hv,hl⟩
   simp only[List.nil_append,List.cons_append]
   rw[val_digs,val_digs] at hv
   repeat'(first|refine gB ?_|(refine gH ?_;intro g)|(refine gW ?_;intro v)|refine d96 ?_|fail)
   first|refine WL.callK (of_c u false l (x+y) hd (by rw[hv];omega) (fun _=>by rw[eq_comm,decide_eq_false_iff_not];omega)) ?_|refine WD.callK (of_c u false l (x+y) hd (by rw[hv];omega) (fun _=>by rw[eq_comm,decide_eq_false_iff_not];omega)) ?_|refine LO.callM (of_c u false l (x+y) hd (by rw[hv];omega) (fun _=>by rw[eq_comm,decide_eq_false_iff_not];omega)) ?_
   rintro _ _ _ ⟨nb,d,rfl,hb,rfl,rfl⟩
   simp only[List.nil_append,List.cons_append]
   repeat'(first|refine gB ?_|(refine gH ?_;intro g)|(refine gW ?_;intro v)|refine d96 ?_|fail)
   refine WC.ret ?_
   exact Fin.p [] [isZ (.agg #[.bool nb,d]) (x+y)] (ResE.cV rfl rfl meA T.r29 rfl) meA (List.nil_sublist _) haA ⟨nb,_,rfl,hb,rfl,rfl⟩
end Adc
end Go.Proofs.YtaongbhamadlkaaGreat
namespace Go.Proofs.YtaongbhamadlkaaGreat
open W Go.RowKit
namespace Rtm
open Dvz Dvv Adc
theorem len_one {n:Nat}:(digs n).length=1∧(digs n).getD 0 0=1↔n=1:=by
 constructor
 ·rintro⟨h1,h2⟩
  have:=digs_len1 h1
  rw[digs_1 this.1 this.2] at h2
  simp at h2;omega
 ·rintro rfl;rw[digs_1 (by decide) (by decide)];exact⟨rfl,rfl⟩
theorem num_make {p q:Int} (hq:q≠0) (hp:p≠0):(Rat.divInt p q).num=(if q / (Int.gcd p q:Int) < 0 then -(p / (Int.gcd p q:Int)) else p / (Int.gcd p q:Int))∧((Rat.divInt p q).den:Int)=((q / (Int.gcd p q:Int)).natAbs:Int):=by
 have hg:0 < Int.gcd p q:=Int.gcd_pos_of_ne_zero_right _ hq
 have hgi:(0:Int) < (Int.gcd p q:Int):=by omega
 have d1:(Int.gcd p q:Int) ∣ p:=Int.gcd_dvd_left ..
 have d2:(Int.gcd p q:Int) ∣ q:=Int.gcd_dvd_right ..
 have hs:(q / (Int.gcd p q:Int) < 0)↔q < 0:=by
  obtain⟨k,hk⟩:=d2
  have e:q / (Int.gcd p q:Int)=k:=Int.ediv_eq_of_eq_mul_right (by omega) hk
  rw[e]
  constructor
  ·intro hkn;rw[hk];exact Int.mul_neg_of_pos_of_neg hgi hkn
  ·intro hqn
   refine Int.not_le.1 fun h=>?_
   have:=Int.mul_nonneg (Int.le_of_lt hgi) h
   omega
 rw[Rat.num_divInt,Rat.den_divInt,if_neg hq,Int.gcd_comm q p]
 constructor
 ·by_cases h:q < 0
  ·rw[if_pos (hs.2 h),Int.sign_eq_neg_one_of_neg h,Int.neg_one_mul,Int.neg_ediv_of_dvd d1]
  ·rw[if_neg (fun h2=>h (hs.1 h2)),Int.sign_eq_one_of_pos (by omega),Int.one_mul]
 ·congr 1
  rw[Int.natAbs_ediv_of_dvd d2,Int.natAbs_natCast]
attribute [local irreducible] WC WL WD YO LO LoopEnd W.Fin Scalar SliceT FieldAt Row ArrT AllocT KnS Has W.One SrcE IntT
theorem d95 {G G':Prop} (h:G') (s:Bx G'→G:=by
 intro h
 first|(apply WC.draw (id:=2) [0,2] (.held 0 (.held 2 (.loud 1 (.loud 3 (.loud 4 (.loud 5 (.done))))))) mixed (by kernel_rfl))|fail
 exact Bx.h h):G:=s ⟨h⟩
set_option maxHeartbeats 4000000 in
set_option maxRecDepth 8000 in
theorem one_c:FnB Tryz.prog 152 [] [] [] (IsZ 1):=by
 refine fn_of [] 2 Tryz.func152 rfl Tryz.ntmps152 (by kernel_rfl) rfl suA fun h0=>?_
 repeat'(first|refine gA ?_|(refine goG ?_;intro g)|(refine goV ?_;intro v))
 first|refine WL.callK (iof_c 1 (by decide) (by decide)) ?_|refine WD.callK (iof_c 1 (by decide) (by decide)) ?_|refine LO.callM (iof_c 1 (by decide) (by decide)) ?_
 rintro _ _ _ ⟨nb,d,rfl,hb,rfl,rfl⟩
 simp only[List.nil_append,List.cons_append]
 repeat'(first|refine gA ?_|(refine goG ?_;intro g)|(refine goV ?_;intro v))
 refine WC.ret ?_
 exact Fin.p [] [isZ (.agg #[.bool nb,d]) 1] (ResE.cV rfl rfl meA T.r29 rfl) meA (List.nil_sublist _) haA ⟨nb,_,rfl,hb,rfl,rfl⟩
set_option maxHeartbeats 4000000 in
set_option maxRecDepth 8000 in
theorem unit_c (v:Value) (z:Int):FnB Tryz.prog 150 [v] [] [isZ v z] (IsV (.bool (decide (z=1)))):=by
 refine fn_of [(0,v)] 19 Tryz.func150 rfl Tryz.ntmps150 (by kernel_rfl) rfl suA fun h0=>?_
 refine WC.openZ (v:=v) (z:=z) hmA fun n1 d1 hv hb1=>?_
 subst hv
 refine WC.fact (sI d1 (digs z.natAbs)) (hasZ_d hmA) ?_
 have hl1:=@len_one z.natAbs
 generalize hD:digs z.natAbs=D at *
 cases n1 with
 |true=>
  have hz:z < 0:=of_decide_eq_true hb1.symm
  repeat'(first|refine gA ?_|(refine goG ?_;intro g)|(refine goV ?_;intro v))
  refine WC.ret ?_
  exact Fin.v (ResE.t1 rfl rfl) meA (by rw[decide_eq_false (by omega)])
 |false=>
  have hz:¬z < 0:=of_decide_eq_false hb1.symm
  by_cases c:D.length=1
  ·by_cases c2:D.getD 0 0=1
   ·have h3:=hl1.1 ⟨c,c2⟩
    have c3:D.getD (0:Int).toNat 0=1:=c2
    repeat'(first|refine gA ?_|(refine goG ?_;intro g)|(refine goV ?_;intro v))
    refine WC.ret ?_
    exact Fin.v (ResE.t1 rfl rfl) meA (by rw[decide_eq_true (by omega)])
   ·have h3:z≠1:=fun h=>c2 (hl1.2 (by omega)).2
    have c3:D.getD (0:Int).toNat 0≠1:=c2
    repeat'(first|refine gA ?_|(refine goG ?_;intro g)|(refine goV ?_;intro v))
    refine WC.ret ?_
    exact Fin.v (ResE.t1 rfl rfl) meA (by rw[decide_eq_false h3])
  ·have h3:z≠1:=fun h=>c (hl1.2 (by omega)).1
   repeat'(first|refine gA ?_|(refine goG ?_;intro g)|(refine goV ?_;intro v))
   refine WC.ret ?_
   exact Fin.v (ResE.t1 rfl rfl) meA (by rw[decide_eq_false h3])
set_option maxHeartbeats 4000000 in
set_option maxRecDepth 8000 in
theorem lowest_c (v1 v2:Value) (p q:Int) (r:Rat) (hq:q≠0) (hn:r.num=if q < 0 then -p else p) (hd:(r.den:Int)=(q.natAbs:Int)):FnB Tryz.prog 95 [v1,v2] [] [isZ v1 p,isZ v2 q] (IsQ r):=by
 refine fn_of [(0,v1),(1,v2)] 18 Tryz.func95 rfl Tryz.ntmps95 (by kernel_rfl) rfl suA fun h0=>?_
 refine WC.openZ (v:=v1) (z:=p) hmA fun n1 d1 hv hb1=>?_
 subst hv
 refine WC.openZ (v:=v2) (z:=q) hmA fun n2 d2 hv hb2=>?_
 subst hv
 have fin:∀ (F:List Fct) (nb:Bool) (e1 e2:Value),q.natAbs≠1→Has F (isZ (.agg #[.bool nb,e1]) r.num)→Has F (isZ (.agg #[.bool false,e2]) (q.natAbs:Int))→nb=decide (r.num < 0)→Has F (isQ (.agg #[.bool nb,e1,.bool false,e2]) r):=fun F nb e1 e2 h1 h2 h3 hb=>hasQ_of hb (hasZ_d h2) (by
  have:qz r=(q.natAbs:Int):=by unfold qz;rw[if_neg (by omega)];exact hd
  rw[this];exact hasZ_d h3)
 have fin1:∀ (F:List Fct) (nb:Bool) (e1:Value),q.natAbs=1→Has F (isZ (.agg #[.bool nb,e1]) r.num)→nb=decide (r.num < 0)→Has F (isQ (.agg #[.bool nb,e1,.bool false,.slice none 0 0]) r):=fun F nb e1 h1 h2 hb=>hasQ_of hb (hasZ_d h2) (by
  have:qz r=0:=by unfold qz;rw[if_pos (by omega)]
  rw[this];simpa [digs_0] using nil0)
 cases n2 with
 |true=>
  have hq2:q < 0:=of_decide_eq_true hb2.symm
  rw[if_pos hq2] at hn
  repeat'(first|refine gB ?_|(refine gH ?_;intro g)|(refine gW ?_;intro v)|refine d95 ?_|fail)
  first|refine WL.callK (neg_c (.agg #[.bool n1,d1]) p) ?_|refine WD.callK (neg_c (.agg #[.bool n1,d1]) p) ?_|refine LO.callM (neg_c (.agg #[.bool n1,d1]) p) ?_
  rintro _ _ _ ⟨n3,d3,rfl,hb3,rfl,rfl⟩
  simp only[List.nil_append,List.cons_append]
  repeat'(first|refine gB ?_|(refine gH ?_;intro g)|(refine gW ?_;intro v)|refine d95 ?_|fail)
  first|refine WL.callK (neg_c (.agg #[.bool true,d2]) q) ?_|refine WD.callK (neg_c (.agg #[.bool true,d2]) q) ?_|refine LO.callM (neg_c (.agg #[.bool true,d2]) q) ?_
  rintro _ _ _ ⟨n4,d4,rfl,hb4,rfl,rfl⟩
  simp only[List.nil_append,List.cons_append]
  obtain rfl:false=n4:=by rw[hb4,eq_comm,decide_eq_false_iff_not];omega
  rw[←hn] at hb3 ⊢
  rw[show -q=(q.natAbs:Int) by omega]
  repeat'(first|refine gB ?_|(refine gH ?_;intro g)|(refine gW ?_;intro v)|refine d95 ?_|fail)
  first|refine WL.callV (unit_c (.agg #[.bool false,d4]) (q.natAbs:Int)) ?_|refine WD.callV (unit_c (.agg #[.bool false,d4]) (q.natAbs:Int)) ?_
  by_cases c:q.natAbs=1
  ·rw[decide_eq_true (by omega)]
   repeat'(first|refine gB ?_|(refine gH ?_;intro g)|(refine gW ?_;intro v)|refine d95 ?_|fail)
   refine WC.fact (isQ (.agg #[.bool n3,d3,.bool false,.slice none 0 0]) r) (fin1 _ _ _ c hmA hb3) ?_
   refine WC.ret ?_
   exact Fin.p [] [isQ (.agg #[.bool n3,d3,.bool false,.slice none 0 0]) r] (ResE.cV rfl rfl meA T.r31 rfl) meA (List.nil_sublist _) haA ⟨n3,_,_,rfl,hb3,rfl,rfl⟩
  ·rw[decide_eq_false (by omega)]
   repeat'(first|refine gB ?_|(refine gH ?_;intro g)|(refine gW ?_;intro v)|refine d95 ?_|fail)
   refine WC.fact (isQ (.agg #[.bool n3,d3,.bool false,d4]) r) (fin _ _ _ _ c hmA hmA hb3) ?_
   refine WC.ret ?_
   exact Fin.p [] [isQ (.agg #[.bool n3,d3,.bool false,d4]) r] (ResE.cV rfl rfl meA T.r31 rfl) meA (List.nil_sublist _) haA ⟨n3,_,_,rfl,hb3,rfl,rfl⟩
 |false=>
  have hq2:¬q < 0:=of_decide_eq_false hb2.symm
  rw[if_neg hq2] at hn
  rw[←hn] at hb1 ⊢
  rw[show q=(q.natAbs:Int) by omega] at hb2 ⊢
  repeat'(first|refine gB ?_|(refine gH ?_;intro g)|(refine gW ?_;intro v)|refine d95 ?_|fail)
  first|refine WL.callV (unit_c (.agg #[.bool false,d2]) (q.natAbs:Int)) ?_|refine WD.callV (unit_c (.agg #[.bool false,d2]) (q.natAbs:Int)) ?_
  by_cases c:q.natAbs=1
  ·rw[decide_eq_true (by omega)]
   repeat'(first|refine gB ?_|(refine gH ?_;intro g)|(refine gW ?_;intro v)|refine d95 ?_|fail)
   refine WC.fact (isQ (.agg #[.bool n1,d1,.bool false,.slice none 0 0]) r) (fin1 _ _ _ c hmA hb1) ?_
   refine WC.ret ?_
   exact Fin.p [] [isQ (.agg #[.bool n1,d1,.bool false,.slice none 0 0]) r] (ResE.cV rfl rfl meA T.r31 rfl) meA (List.nil_sublist _) haA ⟨n1,_,_,rfl,hb1,rfl,rfl⟩
  ·rw[decide_eq_false (by omega)]
   repeat'(first|refine gB ?_|(refine gH ?_;intro g)|(refine gW ?_;intro v)|refine d95 ?_|fail)
   refine WC.fact (isQ (.agg #[.bool n1,d1,.bool false,d2]) r) (fin _ _ _ _ c hmA hmA hb1) ?_
   refine WC.ret ?_
   exact Fin.p [] [isQ (.agg #[.bool n1,d1,.bool false,d2]) r] (ResE.cV rfl rfl meA T.r31 rfl) meA (List.nil_sublist _) haA ⟨n1,_,_,rfl,hb1,rfl,rfl⟩
set_option maxHeartbeats 4000000 in
set_option maxRecDepth 8000 in
theorem make_c (v1 v2:Value) (p q:Int) (h1:Lz p.natAbs) (h2:Lz q.natAbs):FnB Tryz.prog 93 [v1,v2] [] [isZ v1 p,isZ v2 q] (IsQ (Rat.divInt p q)):=by
 refine fn_of [(0,v1),(1,v2)] 38 Tryz.func93 rfl Tryz.ntmps93 (by kernel_rfl) rfl suA fun h0=>?_
 refine WC.openZ (v:=v1) (z:=p) hmA fun n1 d1 hv hb1=>?_
 subst hv
 refine WC.openZ (v:=v2) (z:=q) hmA fun n2 d2 hv hb2=>?_
 subst hv
 have lp:=@digs_len0 p.natAbs
 have lq:=@digs_len0 q.natAbs
 by_cases c0:q=0
 ·have hl:=lq.2 (by omega)
  repeat'(first|refine gA ?_|(refine goG ?_;intro g)|(refine goV ?_;intro v))
  rw[c0,Rat.divInt_zero]
  refine WC.ret ?_
  exact Fin.p [] [isQ (.agg #[.bool false,.slice none 0 0,.bool false,.slice none 0 0]) 0] (ResE.cV rfl rfl meA T.r31 rfl) meA (List.nil_sublist _) (.cons hasQ_0 .nil) ⟨false,_,_,rfl,rfl,rfl,rfl⟩
 have hlq:=len_pos (n:=q.natAbs) (by omega)
 by_cases c1:p=0
 ·have hl:=lp.2 (by omega)
  repeat'(first|refine gA ?_|(refine goG ?_;intro g)|(refine goV ?_;intro v))
  rw[c1,Rat.zero_divInt]
  refine WC.ret ?_
  exact Fin.p [] [isQ (.agg #[.bool false,.slice none 0 0,.bool false,.slice none 0 0]) 0] (ResE.cV rfl rfl meA T.r31 rfl) meA (List.nil_sublist _) (.cons hasQ_0 .nil) ⟨false,_,_,rfl,rfl,rfl,rfl⟩
 have hlp:=len_pos (n:=p.natAbs) (by omega)
 obtain⟨hn,hd⟩:=num_make (p:=p) (q:=q) c0 c1
 have hg:0 < Int.gcd p q:=Int.gcd_pos_of_ne_zero_right _ c0
 have hg2:Lz (Int.gcd p q):=h2.le (Nat.le_of_dvd (by omega) (Nat.gcd_dvd_right ..))
 have hqne:q / (Int.gcd p q:Int)≠0:=fun h=>by
  have:=Int.ediv_mul_cancel (Int.gcd_dvd_right (a:=p) (b:=q))
  rw[h] at this;omega
 repeat'(first|refine gA ?_|(refine goG ?_;intro g)|(refine goV ?_;intro v))
 first|refine WL.callK (gcd_c (.agg #[.bool n1,d1]) (.agg #[.bool n2,d2]) p q h1 h2) ?_|refine WD.callK (gcd_c (.agg #[.bool n1,d1]) (.agg #[.bool n2,d2]) p q h1 h2) ?_|refine LO.callM (gcd_c (.agg #[.bool n1,d1]) (.agg #[.bool n2,d2]) p q h1 h2) ?_
 rintro _ _ _ ⟨n3,d3,rfl,hb3,rfl,rfl⟩
 simp only[List.nil_append,List.cons_append]
 repeat'(first|refine gA ?_|(refine goG ?_;intro g)|(refine goV ?_;intro v))
 first|refine WL.callV (unit_c (.agg #[.bool n3,d3]) ((Int.gcd p q:Nat):Int)) ?_|refine WD.callV (unit_c (.agg #[.bool n3,d3]) ((Int.gcd p q:Nat):Int)) ?_
 by_cases c2:Int.gcd p q=1
 ·rw[decide_eq_true (by omega)]
  rw[c2] at hn hd hqne
  have e1:∀ z:Int,z / ((1:Nat):Int)=z:=fun z=>Int.ediv_one z
  rw[e1] at hd hqne
  rw[e1,e1] at hn
  repeat'(first|refine gA ?_|(refine goG ?_;intro g)|(refine goV ?_;intro v))
  first|refine WL.callK (lowest_c (.agg #[.bool n1,d1]) (.agg #[.bool n2,d2]) p q (Rat.divInt p q) c0 hn hd) ?_|refine WD.callK (lowest_c (.agg #[.bool n1,d1]) (.agg #[.bool n2,d2]) p q (Rat.divInt p q) c0 hn hd) ?_|refine LO.callM (lowest_c (.agg #[.bool n1,d1]) (.agg #[.bool n2,d2]) p q (Rat.divInt p q) c0 hn hd) ?_
  rintro _ _ _ ⟨nb,e1,e2,rfl,hb,rfl,rfl⟩
  simp only[List.nil_append,List.cons_append]
  repeat'(first|refine gA ?_|(refine goG ?_;intro g)|(refine goV ?_;intro v))
  refine WC.ret ?_
  exact Fin.p [] [isQ (.agg #[.bool nb,e1,.bool false,e2]) (Rat.divInt p q)] (ResE.cV rfl rfl meA T.r31 rfl) meA (List.nil_sublist _) haA ⟨nb,_,_,rfl,hb,rfl,rfl⟩
 ·rw[decide_eq_false (by omega)]
  repeat'(first|refine gA ?_|(refine goG ?_;intro g)|(refine goV ?_;intro v))
  first|refine WL.callK (div_c (.agg #[.bool n1,d1]) (.agg #[.bool n3,d3]) p ((Int.gcd p q:Nat):Int) h1 hg2 (by omega)) ?_|refine WD.callK (div_c (.agg #[.bool n1,d1]) (.agg #[.bool n3,d3]) p ((Int.gcd p q:Nat):Int) h1 hg2 (by omega)) ?_|refine LO.callM (div_c (.agg #[.bool n1,d1]) (.agg #[.bool n3,d3]) p ((Int.gcd p q:Nat):Int) h1 hg2 (by omega)) ?_
  rintro _ _ _ ⟨n4,d4,n5,d5,rfl,hb4,hb5,rfl,rfl⟩
  simp only[List.nil_append,List.cons_append]
  repeat'(first|refine gA ?_|(refine goG ?_;intro g)|(refine goV ?_;intro v))
  first|refine WL.callK (div_c (.agg #[.bool n2,d2]) (.agg #[.bool n3,d3]) q ((Int.gcd p q:Nat):Int) h2 hg2 (by omega)) ?_|refine WD.callK (div_c (.agg #[.bool n2,d2]) (.agg #[.bool n3,d3]) q ((Int.gcd p q:Nat):Int) h2 hg2 (by omega)) ?_|refine LO.callM (div_c (.agg #[.bool n2,d2]) (.agg #[.bool n3,d3]) q ((Int.gcd p q:Nat):Int) h2 hg2 (by omega)) ?_
  rintro _ _ _ ⟨n6,d6,n7,d7,rfl,hb6,hb7,rfl,rfl⟩
  simp only[List.nil_append,List.cons_append]
  repeat'(first|refine gA ?_|(refine goG ?_;intro g)|(refine goV ?_;intro v))
  first|refine WL.callK (lowest_c (.agg #[.bool n4,d4]) (.agg #[.bool n6,d6]) (p / ((Int.gcd p q:Nat):Int)) (q / ((Int.gcd p q:Nat):Int)) (Rat.divInt p q) hqne hn hd) ?_|refine WD.callK (lowest_c (.agg #[.bool n4,d4]) (.agg #[.bool n6,d6]) (p / ((Int.gcd p q:Nat):Int)) (q / ((Int.gcd p q:Nat):Int)) (Rat.divInt p q) hqne hn hd) ?_|refine LO.callM (lowest_c (.agg #[.bool n4,d4]) (.agg #[.bool n6,d6]) (p / ((Int.gcd p q:Nat):Int)) (q / ((Int.gcd p q:Nat):Int)) (Rat.divInt p q) hqne hn hd) ?_
  rintro _ _ _ ⟨nb,e1,e2,rfl,hb,rfl,rfl⟩
  simp only[List.nil_append,List.cons_append]
  repeat'(first|refine gA ?_|(refine goG ?_;intro g)|(refine goV ?_;intro v))
  refine WC.ret ?_
  exact Fin.p [] [isQ (.agg #[.bool nb,e1,.bool false,e2]) (Rat.divInt p q)] (ResE.cV rfl rfl meA T.r31 rfl) meA (List.nil_sublist _) haA ⟨nb,_,_,rfl,hb,rfl,rfl⟩
end Rtm
end Go.Proofs.YtaongbhamadlkaaGreat
namespace Go.Proofs.YtaongbhamadlkaaGreat
open W Go.RowKit
def Sm (q:Rat):Prop:=(digs q.num.natAbs).length≤400000000∧(digs q.den).length≤400000000
def cmpQ (a b:Rat):Int:=cmpI (a.num*b.den) (b.num*a.den)
theorem cmpQ_lt {a b:Rat}:cmpQ a b < 0↔a < b:=by
 rw[Rat.lt_iff];unfold cmpQ cmpI;split
 ·simp[*]
 ·split <;> (constructor <;> intro h <;> omega)
theorem cmpQ_gt {a b:Rat}:0 < cmpQ a b↔b < a:=by
 rw[Rat.lt_iff];unfold cmpQ cmpI;split
 ·constructor <;> intro h <;> omega
 ·split <;> (constructor <;> intro h <;> omega)
theorem cmpQ_eq {a b:Rat}:cmpQ a b=0↔a=b:=by
 rw[Rat.eq_iff_mul_eq_mul];unfold cmpQ cmpI;split
 ·constructor <;> intro h <;> omega
 ·split <;> (constructor <;> intro h <;> omega)
theorem sgn_mul {z:Int} {d:Nat} (hd:d≠0):(z*d < 0↔z < 0)∧(0 < z*d↔0 < z):=by
 have h0:(0:Int) < d:=by omega
 rcases Int.lt_trichotomy z 0 with h|h|h
 ·have:=Int.mul_neg_of_neg_of_pos h h0
  constructor <;> constructor <;> intro h2 <;> omega
 ·subst h;simp
 ·have:=Int.mul_pos h h0
  constructor <;> constructor <;> intro h2 <;> omega
theorem cmp_sgn {a b:Rat} (h:sgn a.num≠sgn b.num∨sgn a.num=0):cmpI (sgn a.num) (sgn b.num)=cmpQ a b:=by
 have h1:=@sgn_mul a.num b.den b.den_nz
 have h2:=@sgn_mul b.num a.den a.den_nz
 unfold cmpQ
 generalize a.num*b.den=x at *
 generalize b.num*a.den=y at *
 unfold sgn cmpI at *
 split at h <;> split at h <;> (repeat' split) <;> first|rfl|omega|(split at h <;> omega)
theorem qz_len {q:Rat}:(digs (qz q).natAbs).length=0↔q.den=1:=by
 rw[digs_len0];unfold qz
 have:=q.den_nz
 split <;> omega
theorem num_len {q:Rat}:(digs q.num.natAbs).length=0↔q=0:=by
 rw[digs_len0,←Rat.num_eq_zero];omega
theorem int_rat {q:Rat} (h:q.den=1):q=((q.num:Int):Rat):=by
 apply Rat.ext
 ·simp
 ·simpa using h
theorem add_int {a b:Rat} (ha:a.den=1) (hb:b.den=1):(a+b).num=a.num+b.num∧(a+b).den=1:=by
 have e:a+b=((a.num+b.num:Int):Rat):=by
  rw[int_rat ha,int_rat hb,Rat.intCast_add];simp
 rw[e];exact⟨Rat.num_intCast _,Rat.den_intCast _⟩
theorem add_div {a b:Rat}:Rat.divInt (a.num*b.den+b.num*a.den) ((a.den:Int)*(b.den:Int))=a+b:=by
 have:((a.den:Int)*(b.den:Int))=((a.den*b.den:Nat):Int):=by simp
 rw[this,Rat.divInt_ofNat,Rat.add_def']
theorem Sm.mul {x y:Nat} (hx:(digs x).length≤400000000) (hy:(digs y).length≤400000000):(digs (x*y)).length≤800000000:=Nat.le_trans (digs_len_mul x y) (by omega)
theorem Sm.w {x:Nat} (hx:(digs x).length≤400000000):Lz x:=by show _≤_;omega
theorem Sm.w2 {x:Nat} (hx:(digs x).length≤800000000):Lz x:=by show _≤_;omega
theorem Sm.w3 {u w:Int} (hu:(digs u.natAbs).length≤800000000) (hw:(digs w.natAbs).length≤800000000):Lz (u+w).natAbs:=by
 have h1:=digs_mono (Int.natAbs_add_le u w)
 have h2:=digs_len_add u.natAbs w.natAbs
 show _≤_;omega
theorem abs_mulc (z:Int) (d:Nat):(z*(d:Int)).natAbs=z.natAbs*d:=by rw[Int.natAbs_mul,Int.natAbs_natCast]
namespace Rta
open Dvz Dvv Adc Rtm
attribute [local irreducible] WC WL WD YO LO LoopEnd W.Fin Scalar SliceT FieldAt Row ArrT AllocT KnS Has W.One SrcE IntT
theorem d32 {G G':Prop} (h:G') (s:Bx G'→G:=by
 intro h
 first|(apply WC.draw (id:=7) [0,2] (.held 0 (.held 2 (.more 1 (.more 3 (.more 4 (.loud 5 (.loud 6 (.loud 7 (.done)))) (.loud 5 (.loud 4 (.loud 6 (.loud 7 (.done)))))) (.more 4 (.more 3 (.loud 5 (.loud 6 (.loud 7 (.done)))) (.loud 5 (.loud 3 (.loud 6 (.loud 7 (.done)))))) (.loud 5 (.more 3 (.loud 4 (.loud 6 (.loud 7 (.done)))) (.loud 4 (.loud 3 (.loud 6 (.loud 7 (.done))))))))) (.more 4 (.more 1 (.more 3 (.loud 5 (.loud 6 (.loud 7 (.done)))) (.loud 5 (.loud 3 (.loud 6 (.loud 7 (.done)))))) (.loud 5 (.loud 1 (.loud 3 (.loud 6 (.loud 7 (.done))))))) (.loud 5 (.more 1 (.more 3 (.loud 4 (.loud 6 (.loud 7 (.done)))) (.loud 4 (.loud 3 (.loud 6 (.loud 7 (.done)))))) (.loud 4 (.loud 1 (.loud 3 (.loud 6 (.loud 7 (.done)))))))))))) mixed (by kernel_rfl))|(apply WC.draw (id:=8) [0,1,2,4,5,6,9,10] (.held 0 (.held 1 (.held 2 (.held 4 (.held 5 (.held 6 (.held 9 (.held 10 (.loud 3 (.loud 7 (.loud 8 (.loud 11 (.loud 12 (.loud 13 (.done))))))))))))))) mixed (by kernel_rfl))|fail
 exact Bx.h h):G:=s ⟨h⟩
theorem d36 {G G':Prop} (h:G') (s:Bx G'→G:=by
 intro h
 first|(apply WC.draw (id:=1) [0,1,3,4,5] (.held 0 (.held 1 (.held 3 (.held 4 (.loud 2 (.held 5 (.loud 6 (.done)))))))) mixed (by kernel_rfl))|fail
 exact Bx.h h):G:=s ⟨h⟩
set_option maxHeartbeats 4000000 in
set_option maxRecDepth 8000 in
theorem of_c (p q:Int) (h1:p.natAbs < B2) (h2:q.natAbs < B2):FnB Tryz.prog 47 [.int .i64 p,.int .i64 q] [] [] (IsQ (Rat.divInt p q)):=by
 refine fn_of [(0,(.int .i64 p)),(1,(.int .i64 q))] 10 Tryz.func47 rfl Tryz.ntmps47 (by kernel_rfl) rfl suA fun h0=>?_
 have h1':p.natAbs < 1000000000000000000:=h1
 have h2':q.natAbs < 1000000000000000000:=h2
 repeat'(first|refine gA ?_|(refine goG ?_;intro g)|(refine goV ?_;intro v))
 first|refine WL.callK (iof_c p (by omega) (by omega)) ?_|refine WD.callK (iof_c p (by omega) (by omega)) ?_|refine LO.callM (iof_c p (by omega) (by omega)) ?_
 rintro _ _ _ ⟨n1,d1,rfl,hb1,rfl,rfl⟩
 simp only[List.nil_append,List.cons_append]
 repeat'(first|refine gA ?_|(refine goG ?_;intro g)|(refine goV ?_;intro v))
 first|refine WL.callK (iof_c q (by omega) (by omega)) ?_|refine WD.callK (iof_c q (by omega) (by omega)) ?_|refine LO.callM (iof_c q (by omega) (by omega)) ?_
 rintro _ _ _ ⟨n2,d2,rfl,hb2,rfl,rfl⟩
 simp only[List.nil_append,List.cons_append]
 repeat'(first|refine gA ?_|(refine goG ?_;intro g)|(refine goV ?_;intro v))
 first|refine WL.callK (make_c (.agg #[.bool n1,d1]) (.agg #[.bool n2,d2]) p q (Lz.of h1) (Lz.of h2)) ?_|refine WD.callK (make_c (.agg #[.bool n1,d1]) (.agg #[.bool n2,d2]) p q (Lz.of h1) (Lz.of h2)) ?_|refine LO.callM (make_c (.agg #[.bool n1,d1]) (.agg #[.bool n2,d2]) p q (Lz.of h1) (Lz.of h2)) ?_
 rintro _ _ _ ⟨nb,e1,e2,rfl,hb,rfl,rfl⟩
 simp only[List.nil_append,List.cons_append]
 repeat'(first|refine gA ?_|(refine goG ?_;intro g)|(refine goV ?_;intro v))
 refine WC.ret ?_
 exact Fin.p [] [isQ (.agg #[.bool nb,e1,.bool false,e2]) (Rat.divInt p q)] (ResE.cV rfl rfl meA T.r31 rfl) meA (List.nil_sublist _) haA ⟨nb,_,_,rfl,hb,rfl,rfl⟩
set_option maxHeartbeats 4000000 in
set_option maxRecDepth 8000 in
theorem den_c (v:Value) (q:Rat):FnB Tryz.prog 94 [v] [] [isQ v q] (IsZ (q.den:Int)):=by
 refine fn_of [(0,v)] 11 Tryz.func94 rfl Tryz.ntmps94 (by kernel_rfl) rfl suA fun h0=>?_
 refine WC.openQ (v:=v) (q:=q) hmA fun n1 d1 d2 hv hb1=>?_
 subst hv
 have hl:=@qz_len q
 by_cases c:q.den=1
 ·have hl0:=hl.2 c
  repeat'(first|refine gA ?_|(refine goG ?_;intro g)|(refine goV ?_;intro v))
  first|refine WL.callK (one_c) ?_|refine WD.callK (one_c) ?_|refine LO.callM (one_c) ?_
  rintro _ _ _ ⟨nb,d,rfl,hb,rfl,rfl⟩
  simp only[List.nil_append,List.cons_append]
  repeat'(first|refine gA ?_|(refine goG ?_;intro g)|(refine goV ?_;intro v))
  rw[show((q.den:Nat):Int)=1 by omega]
  refine WC.ret ?_
  exact Fin.p [] [isZ (.agg #[.bool nb,d]) 1] (ResE.cV rfl rfl meA T.r29 rfl) meA (List.nil_sublist _) haA ⟨nb,_,rfl,hb,rfl,rfl⟩
 ·have hl0:(digs (qz q).natAbs).length≠0:=fun h=>c (hl.1 h)
  have hz:qz q=(q.den:Int):=by unfold qz;rw[if_neg c]
  rw[hz] at hl0
  refine WC.fact (isZ (.agg #[.bool false,d2]) (q.den:Int)) (by rw[←hz];exact hasQ_Q hmA) ?_
  repeat'(first|refine gA ?_|(refine goG ?_;intro g)|(refine goV ?_;intro v))
  refine WC.ret ?_
  exact Fin.p [] [isZ (.agg #[.bool false,d2]) (q.den:Int)] (ResE.cV rfl rfl meA T.r29 rfl) meA (List.nil_sublist _) haA ⟨false,_,rfl,nneg_dec _,rfl,rfl⟩
set_option maxHeartbeats 4000000 in
set_option maxRecDepth 8000 in
theorem sign_c (v:Value) (q:Rat):FnB Tryz.prog 49 [v] [] [isQ v q] (IsV (.int .i64 (sgn q.num))):=by
 refine fn_of [(0,v)] 6 Tryz.func49 rfl Tryz.ntmps49 (by kernel_rfl) rfl suA fun h0=>?_
 refine WC.openQ (v:=v) (q:=q) hmA fun n1 d1 d2 hv hb1=>?_
 subst hv
 refine WC.fact (isZ (.agg #[.bool n1,d1]) q.num) (hasQ_P hmA) ?_
 repeat'(first|refine gA ?_|(refine goG ?_;intro g)|(refine goV ?_;intro v))
 first|refine WL.callV (isign_c (.agg #[.bool n1,d1]) q.num) ?_|refine WD.callV (isign_c (.agg #[.bool n1,d1]) q.num) ?_
 repeat'(first|refine gA ?_|(refine goG ?_;intro g)|(refine goV ?_;intro v))
 refine WC.ret ?_
 exact Fin.v (ResE.t1 rfl rfl) meA rfl
set_option maxHeartbeats 4000000 in
set_option maxRecDepth 8000 in
theorem neg_c (v:Value) (q:Rat):FnB Tryz.prog 36 [v] [] [isQ v q] (IsQ (-q)):=by
 refine fn_of [(0,v)] 9 Tryz.func36 rfl Tryz.ntmps36 (by kernel_rfl) rfl suA fun h0=>?_
 refine WC.openQ (v:=v) (q:=q) hmA fun n1 d1 d2 hv hb1=>?_
 subst hv
 refine WC.fact (isZ (.agg #[.bool n1,d1]) q.num) (hasQ_P hmA) ?_
 repeat'(first|refine gB ?_|(refine gH ?_;intro g)|(refine gW ?_;intro v)|refine d36 ?_|fail)
 first|refine WL.callK (Go.Proofs.YtaongbhamadlkaaGreat.neg_c (.agg #[.bool n1,d1]) q.num) ?_|refine WD.callK (Go.Proofs.YtaongbhamadlkaaGreat.neg_c (.agg #[.bool n1,d1]) q.num) ?_|refine LO.callM (Go.Proofs.YtaongbhamadlkaaGreat.neg_c (.agg #[.bool n1,d1]) q.num) ?_
 rintro _ _ _ ⟨n3,d3,rfl,hb3,rfl,rfl⟩
 simp only[List.nil_append,List.cons_append]
 repeat'(first|refine gB ?_|(refine gH ?_;intro g)|(refine gW ?_;intro v)|refine d36 ?_|fail)
 have hb4:n3=decide ((-q).num < 0):=by rw[hb3,Rat.neg_num]
 refine WC.fact (isQ (.agg #[.bool n3,d3,.bool false,d2]) (-q)) (hasQ_of hb4 (by rw[Rat.neg_num];exact hasZ_d hmA) (by rw[show qz (-q)=qz q by unfold qz;rw[Rat.neg_den]];exact hasQ_d2 hmA)) ?_
 refine WC.ret ?_
 exact Fin.p [] [isQ (.agg #[.bool n3,d3,.bool false,d2]) (-q)] (ResE.cV rfl rfl meA T.r31 rfl) meA (List.nil_sublist _) haA ⟨n3,_,_,rfl,hb4,rfl,rfl⟩
set_option maxHeartbeats 8000000 in
set_option maxRecDepth 8000 in
theorem add_c (v1 v2:Value) (a b:Rat) (h1:Sm a) (h2:Sm b):FnB Tryz.prog 32 [v1,v2] [] [isQ v1 a,isQ v2 b] (IsQ (a+b)):=by
 refine fn_of [(0,v1),(1,v2)] 57 Tryz.func32 rfl Tryz.ntmps32 (by kernel_rfl) rfl suA fun h0=>?_
 refine WC.openQ (v:=v1) (q:=a) hmA fun n1 d1 d2 hv hb1=>?_
 subst hv
 refine WC.openQ (v:=v2) (q:=b) hmA fun n2 d3 d4 hv hb2=>?_
 subst hv
 have ha:=@qz_len a
 have hb:=@qz_len b
 have na:=@num_len a
 have nb:=@num_len b
 obtain⟨s1,s2⟩:=h1
 obtain⟨s3,s4⟩:=h2
 by_cases c:a.den=1∧b.den=1
 ·have l1:=ha.2 c.1
  have l2:=hb.2 c.2
  obtain⟨e1,e2⟩:=add_int c.1 c.2
  refine WC.fact (isZ (.agg #[.bool n1,d1]) a.num) (hasQ_P hmA) ?_
  refine WC.fact (isZ (.agg #[.bool n2,d3]) b.num) (hasQ_P hmA) ?_
  repeat'(first|refine gM ?_|(refine gI ?_;intro g)|(refine gU ?_;intro v)|refine gN ?_ ?_|refine d32 ?_|fail)
  first|refine WL.callK (Adc.add_c (.agg #[.bool n1,d1]) (.agg #[.bool n2,d3]) a.num b.num (Sm.w s1) (Sm.w s3)) ?_|refine WD.callK (Adc.add_c (.agg #[.bool n1,d1]) (.agg #[.bool n2,d3]) a.num b.num (Sm.w s1) (Sm.w s3)) ?_|refine LO.callM (Adc.add_c (.agg #[.bool n1,d1]) (.agg #[.bool n2,d3]) a.num b.num (Sm.w s1) (Sm.w s3)) ?_
  rintro _ _ _ ⟨n5,d5,rfl,hb5,rfl,rfl⟩
  simp only[List.nil_append,List.cons_append]
  rw[←e1] at hb5 ⊢
  repeat'(first|refine gM ?_|(refine gI ?_;intro g)|(refine gU ?_;intro v)|refine gN ?_ ?_|refine d32 ?_|fail)
  refine WC.fact (isQ (.agg #[.bool n5,d5,.bool false,.slice none 0 0]) (a+b)) (hasQ_of hb5 (hasZ_d hmA) (by rw[show qz (a+b)=0 by unfold qz;rw[if_pos e2]];simpa [digs_0] using nil0)) ?_
  refine WC.ret ?_
  exact Fin.p [] [isQ (.agg #[.bool n5,d5,.bool false,.slice none 0 0]) (a+b)] (ResE.cV rfl rfl meA T.r31 rfl) meA (List.nil_sublist _) haA ⟨n5,_,_,rfl,hb5,rfl,rfl⟩
 have hsp:(digs (qz a).natAbs).length≠0∨((digs (qz a).natAbs).length=0∧(digs (qz b).natAbs).length≠0):=by
  by_cases c1:a.den=1
  ·exact .inr ⟨ha.2 c1,fun h=>c ⟨c1,hb.1 h⟩⟩
  ·exact .inl fun h=>c1 (ha.1 h)
 by_cases c1:a=0
 ·have l1:=na.2 c1
  have e:a+b=b:=by rw[c1,Rat.zero_add]
  rcases hsp with l2|⟨l2,l3⟩
  all_goals
   repeat'(first|refine gM ?_|(refine gI ?_;intro g)|(refine gU ?_;intro v)|refine gN ?_ ?_|refine d32 ?_|fail)
   rw[e]
   refine WC.ret ?_
   exact Fin.p [] [isQ (.agg #[.bool n2,d3,.bool false,d4]) b] (ResE.cV rfl rfl meA T.r31 rfl) meA (List.nil_sublist _) haA ⟨n2,_,_,rfl,hb2,rfl,rfl⟩
 have l1:(digs a.num.natAbs).length≠0:=fun h=>c1 (na.1 h)
 by_cases c2:b=0
 ·have l2:=nb.2 c2
  have e:a+b=a:=by rw[c2,Rat.add_zero]
  rcases hsp with l3|⟨l3,l4⟩
  all_goals
   repeat'(first|refine gM ?_|(refine gI ?_;intro g)|(refine gU ?_;intro v)|refine gN ?_ ?_|refine d32 ?_|fail)
   rw[e]
   refine WC.ret ?_
   exact Fin.p [] [isQ (.agg #[.bool n1,d1,.bool false,d2]) a] (ResE.cV rfl rfl meA T.r31 rfl) meA (List.nil_sublist _) haA ⟨n1,_,_,rfl,hb1,rfl,rfl⟩
 have l2:(digs b.num.natAbs).length≠0:=fun h=>c2 (nb.1 h)
 have q1:=Sm.mul s1 s4
 have q2:=Sm.mul s3 s2
 have q3:=Sm.mul s2 s4
 have k1:Lz (a.num*(b.den:Int)).natAbs:=by rw[abs_mulc];exact Sm.w2 q1
 have k2:Lz (b.num*(a.den:Int)).natAbs:=by rw[abs_mulc];exact Sm.w2 q2
 have k3:Lz ((a.den:Int)*(b.den:Int)).natAbs:=by rw[abs_mulc,Int.natAbs_natCast];exact Sm.w2 q3
 have k4:Lz (a.num*(b.den:Int)+b.num*(a.den:Int)).natAbs:=Sm.w3 (by rw[abs_mulc];exact q1) (by rw[abs_mulc];exact q2)
 rcases hsp with l3|⟨l3,l4⟩
 all_goals
  repeat'(first|refine gA ?_|(refine goG ?_;intro g)|(refine goV ?_;intro v))
  refine WC.cutP (σ:=Nat×Nat×Nat×Nat×Nat×Bool×Value×Bool×Value) (fun s=>[(5,ptr s.1),(6,ptr s.2.1),(2,ptr s.2.2.1),(3,ptr s.2.2.2.1),(4,ptr s.2.2.2.2.1)])
   (fun s=>[Ow.cells s.2.1 29 [.bool s.2.2.2.2.2.2.2.1,s.2.2.2.2.2.2.2.2],Ow.cells s.1 29 [.bool s.2.2.2.2.2.1,s.2.2.2.2.2.2.1],Ow.cells s.2.2.1 31 [.bool n1,d1,.bool false,d2],Ow.cells s.2.2.2.1 31 [.bool n2,d3,.bool false,d4],Ow.cells s.2.2.2.2.1 31 [.bool false,.slice none 0 0,.bool false,.slice none 0 0]])
   (fun s=>[ge h0,isZ (.agg #[.bool s.2.2.2.2.2.1,s.2.2.2.2.2.2.1]) (a.den:Int),isZ (.agg #[.bool s.2.2.2.2.2.2.2.1,s.2.2.2.2.2.2.2.2]) (b.den:Int),isQ (.agg #[.bool n1,d1,.bool false,d2]) a,isQ (.agg #[.bool n2,d3,.bool false,d4]) b]) (fun _=>True) ?_ ?_
  ·repeat'(first|refine gM ?_|(refine gI ?_;intro g)|(refine gU ?_;intro v)|refine gN ?_ ?_|refine d32 ?_|fail|((first|refine WL.callK (hv:=?hvQ) (den_c (.agg #[.bool n1,d1,.bool false,d2]) a) ?_|refine WD.callK (hv:=?hvQ) (den_c (.agg #[.bool n1,d1,.bool false,d2]) a) ?_|refine LO.callM (hv:=?hvQ) (den_c (.agg #[.bool n1,d1,.bool false,d2]) a) ?_);(case hvQ=>((repeat(first|exact Evs.nil|(apply Evs.cons;exact rfl)));done));rintro _ _ _ ⟨zb,zd,rfl,zh,rfl,rfl⟩;simp only[List.nil_append,List.cons_append])|((first|refine WL.callK (hv:=?hvQ) (den_c (.agg #[.bool n2,d3,.bool false,d4]) b) ?_|refine WD.callK (hv:=?hvQ) (den_c (.agg #[.bool n2,d3,.bool false,d4]) b) ?_|refine LO.callM (hv:=?hvQ) (den_c (.agg #[.bool n2,d3,.bool false,d4]) b) ?_);(case hvQ=>((repeat(first|exact Evs.nil|(apply Evs.cons;exact rfl)));done));rintro _ _ _ ⟨zb,zd,rfl,zh,rfl,rfl⟩;simp only[List.nil_append,List.cons_append])|fail)
   all_goals(apply Ex9;refine⟨trivial,?_,?_,?_⟩;(focus(repeat(first|exact Sub.nil _|refine Sub.cons rfl ?_)));(focus(repeat(first|exact SubP.nil _|(apply SubP.cons;(repeat(first|exact Rem.head|apply Rem.tail))))));(focus(repeat(first|exact HasAll.nil|(apply HasAll.cons;exact hsA)))))
  rintro⟨g5,g6,g2,g3,g4,b5,e5,b6,e6⟩ _
  simp only
  refine WC.fact (isZ (.agg #[.bool n1,d1]) a.num) (hasQ_P hmA) ?_
  refine WC.fact (isZ (.agg #[.bool n2,d3]) b.num) (hasQ_P hmA) ?_
  repeat'(first|refine gM ?_|(refine gI ?_;intro g)|(refine gU ?_;intro v)|refine gN ?_ ?_|refine d32 ?_|fail)
  first|refine WL.callK (Mlt.mul_c (.agg #[.bool n1,d1]) (.agg #[.bool b6,e6]) a.num (b.den:Int) (Sm.w s1) (Sm.w s4)) ?_|refine WD.callK (Mlt.mul_c (.agg #[.bool n1,d1]) (.agg #[.bool b6,e6]) a.num (b.den:Int) (Sm.w s1) (Sm.w s4)) ?_|refine LO.callM (Mlt.mul_c (.agg #[.bool n1,d1]) (.agg #[.bool b6,e6]) a.num (b.den:Int) (Sm.w s1) (Sm.w s4)) ?_
  rintro _ _ _ ⟨n7,d7,rfl,hb7,rfl,rfl⟩
  simp only[List.nil_append,List.cons_append]
  repeat'(first|refine gM ?_|(refine gI ?_;intro g)|(refine gU ?_;intro v)|refine gN ?_ ?_|refine d32 ?_|fail)
  first|refine WL.callK (Mlt.mul_c (.agg #[.bool n2,d3]) (.agg #[.bool b5,e5]) b.num (a.den:Int) (Sm.w s3) (Sm.w s2)) ?_|refine WD.callK (Mlt.mul_c (.agg #[.bool n2,d3]) (.agg #[.bool b5,e5]) b.num (a.den:Int) (Sm.w s3) (Sm.w s2)) ?_|refine LO.callM (Mlt.mul_c (.agg #[.bool n2,d3]) (.agg #[.bool b5,e5]) b.num (a.den:Int) (Sm.w s3) (Sm.w s2)) ?_
  rintro _ _ _ ⟨n8,d8,rfl,hb8,rfl,rfl⟩
  simp only[List.nil_append,List.cons_append]
  repeat'(first|refine gM ?_|(refine gI ?_;intro g)|(refine gU ?_;intro v)|refine gN ?_ ?_|refine d32 ?_|fail)
  first|refine WL.callK (Adc.add_c (.agg #[.bool n7,d7]) (.agg #[.bool n8,d8]) (a.num*(b.den:Int)) (b.num*(a.den:Int)) k1 k2) ?_|refine WD.callK (Adc.add_c (.agg #[.bool n7,d7]) (.agg #[.bool n8,d8]) (a.num*(b.den:Int)) (b.num*(a.den:Int)) k1 k2) ?_|refine LO.callM (Adc.add_c (.agg #[.bool n7,d7]) (.agg #[.bool n8,d8]) (a.num*(b.den:Int)) (b.num*(a.den:Int)) k1 k2) ?_
  rintro _ _ _ ⟨n9,d9,rfl,hb9,rfl,rfl⟩
  simp only[List.nil_append,List.cons_append]
  repeat'(first|refine gM ?_|(refine gI ?_;intro g)|(refine gU ?_;intro v)|refine gN ?_ ?_|refine d32 ?_|fail)
  first|refine WL.callK (Mlt.mul_c (.agg #[.bool b5,e5]) (.agg #[.bool b6,e6]) (a.den:Int) (b.den:Int) (Sm.w s2) (Sm.w s4)) ?_|refine WD.callK (Mlt.mul_c (.agg #[.bool b5,e5]) (.agg #[.bool b6,e6]) (a.den:Int) (b.den:Int) (Sm.w s2) (Sm.w s4)) ?_|refine LO.callM (Mlt.mul_c (.agg #[.bool b5,e5]) (.agg #[.bool b6,e6]) (a.den:Int) (b.den:Int) (Sm.w s2) (Sm.w s4)) ?_
  rintro _ _ _ ⟨n10,d10,rfl,hb10,rfl,rfl⟩
  simp only[List.nil_append,List.cons_append]
  repeat'(first|refine gM ?_|(refine gI ?_;intro g)|(refine gU ?_;intro v)|refine gN ?_ ?_|refine d32 ?_|fail)
  first|refine WL.callK (make_c (.agg #[.bool n9,d9]) (.agg #[.bool n10,d10]) (a.num*(b.den:Int)+b.num*(a.den:Int)) ((a.den:Int)*(b.den:Int)) k4 k3) ?_|refine WD.callK (make_c (.agg #[.bool n9,d9]) (.agg #[.bool n10,d10]) (a.num*(b.den:Int)+b.num*(a.den:Int)) ((a.den:Int)*(b.den:Int)) k4 k3) ?_|refine LO.callM (make_c (.agg #[.bool n9,d9]) (.agg #[.bool n10,d10]) (a.num*(b.den:Int)+b.num*(a.den:Int)) ((a.den:Int)*(b.den:Int)) k4 k3) ?_
  rintro _ _ _ ⟨n11,d11,d12,rfl,hb11,rfl,rfl⟩
  simp only[List.nil_append,List.cons_append]
  rw[add_div] at hb11 ⊢
  repeat'(first|refine gM ?_|(refine gI ?_;intro g)|(refine gU ?_;intro v)|refine gN ?_ ?_|refine d32 ?_|fail)
  refine WC.ret ?_
  exact Fin.p [] [isQ (.agg #[.bool n11,d11,.bool false,d12]) (a+b)] (ResE.cV rfl rfl meA T.r31 rfl) meA (List.nil_sublist _) haA ⟨n11,_,_,rfl,hb11,rfl,rfl⟩
end Rta
end Go.Proofs.YtaongbhamadlkaaGreat
namespace Go.Proofs.YtaongbhamadlkaaGreat
open W Go.RowKit
theorem Sm.neg {q:Rat} (h:Sm q):Sm (-q):=by
 unfold Sm at *;rw[Rat.neg_num,Rat.neg_den,Int.natAbs_neg];exact h
theorem sgn_bd (z:Int):-1≤sgn z∧sgn z≤1:=by unfold sgn;split <;> (try split) <;> omega
theorem qz_inj {a b:Rat} (h1:a.num=b.num) (h2:qz a=qz b):a=b:=by
 have:=a.den_nz
 have:=b.den_nz
 apply Rat.ext h1
 unfold qz at h2
 split at h2 <;> split at h2 <;> omega
namespace Rtc
open Dvz Dvv Adc Rtm Rta
attribute [local irreducible] WC WL WD YO LO LoopEnd W.Fin Scalar SliceT FieldAt Row ArrT AllocT KnS Has W.One SrcE IntT
theorem d33 {G G':Prop} (h:G') (s:Bx G'→G:=by
 intro h
 first|(apply WC.draw (id:=1) [0,2,4,5] (.held 0 (.held 2 (.loud 1 (.loud 3 (.held 4 (.held 5 (.done))))))) mixed (by kernel_rfl))|(apply WC.draw (id:=4) [0,1,2,5,6,7,11] (.held 0 (.held 1 (.held 2 (.held 5 (.held 6 (.held 7 (.loud 3 (.loud 4 (.loud 8 (.loud 9 (.loud 10 (.held 11 (.done))))))))))))) mixed (by kernel_rfl))|fail
 exact Bx.h h):G:=s ⟨h⟩
theorem d39 {G G':Prop} (h:G') (s:Bx G'→G:=by
 intro h
 first|(apply WC.draw (id:=1) [0,1] (.held 0 (.held 1 (.loud 2 (.loud 3 (.loud 4 (.done)))))) mixed (by kernel_rfl))|fail
 exact Bx.h h):G:=s ⟨h⟩
theorem d65 {G G':Prop} (h:G') (s:Bx G'→G:=by
 intro h
 first|(apply WC.draw (id:=6) [0,1,2,3,4,5,6,7,8] (.held 0 (.held 1 (.held 2 (.held 3 (.held 4 (.held 5 (.held 6 (.held 7 (.held 8 (.done)))))))))) mixed (by kernel_rfl))|fail
 exact Bx.h h):G:=s ⟨h⟩
set_option maxHeartbeats 4000000 in
set_option maxRecDepth 8000 in
theorem sub_c (v1 v2:Value) (a b:Rat) (h1:Sm a) (h2:Sm b):FnB Tryz.prog 39 [v1,v2] [] [isQ v1 a,isQ v2 b] (IsQ (a - b)):=by
 refine fn_of [(0,v1),(1,v2)] 9 Tryz.func39 rfl Tryz.ntmps39 (by kernel_rfl) rfl suA fun h0=>?_
 refine WC.openQ (v:=v1) (q:=a) hmA fun n1 d1 d2 hv hb1=>?_
 subst hv
 refine WC.openQ (v:=v2) (q:=b) hmA fun n2 d3 d4 hv hb2=>?_
 subst hv
 repeat'(first|refine gB ?_|(refine gH ?_;intro g)|(refine gW ?_;intro v)|refine d39 ?_|fail)
 first|refine WL.callK (Rta.neg_c (.agg #[.bool n2,d3,.bool false,d4]) b) ?_|refine WD.callK (Rta.neg_c (.agg #[.bool n2,d3,.bool false,d4]) b) ?_|refine LO.callM (Rta.neg_c (.agg #[.bool n2,d3,.bool false,d4]) b) ?_
 rintro _ _ _ ⟨n3,d5,d6,rfl,hb3,rfl,rfl⟩
 simp only[List.nil_append,List.cons_append]
 repeat'(first|refine gB ?_|(refine gH ?_;intro g)|(refine gW ?_;intro v)|refine d39 ?_|fail)
 first|refine WL.callK (Rta.add_c (.agg #[.bool n1,d1,.bool false,d2]) (.agg #[.bool n3,d5,.bool false,d6]) a (-b) h1 h2.neg) ?_|refine WD.callK (Rta.add_c (.agg #[.bool n1,d1,.bool false,d2]) (.agg #[.bool n3,d5,.bool false,d6]) a (-b) h1 h2.neg) ?_|refine LO.callM (Rta.add_c (.agg #[.bool n1,d1,.bool false,d2]) (.agg #[.bool n3,d5,.bool false,d6]) a (-b) h1 h2.neg) ?_
 rintro _ _ _ ⟨n4,d7,d8,rfl,hb4,rfl,rfl⟩
 simp only[List.nil_append,List.cons_append]
 rw[←Rat.sub_eq_add_neg] at hb4 ⊢
 repeat'(first|refine gB ?_|(refine gH ?_;intro g)|(refine gW ?_;intro v)|refine d39 ?_|fail)
 refine WC.ret ?_
 exact Fin.p [] [isQ (.agg #[.bool n4,d7,.bool false,d8]) (a - b)] (ResE.cV rfl rfl meA T.r31 rfl) meA (List.nil_sublist _) haA ⟨n4,_,_,rfl,hb4,rfl,rfl⟩
set_option maxHeartbeats 4000000 in
set_option maxRecDepth 8000 in
theorem qcompare_c (v1 v2:Value) (a b:Rat) (h1:Sm a) (h2:Sm b):FnB Tryz.prog 33 [v1,v2] [] [isQ v1 a,isQ v2 b] (IsV (.int .i64 (cmpQ a b))):=by
 refine fn_of [(0,v1),(1,v2)] 34 Tryz.func33 rfl Tryz.ntmps33 (by kernel_rfl) rfl suA fun h0=>?_
 refine WC.openQ (v:=v1) (q:=a) hmA fun n1 d1 d2 hv hb1=>?_
 subst hv
 refine WC.openQ (v:=v2) (q:=b) hmA fun n2 d3 d4 hv hb2=>?_
 subst hv
 obtain⟨s1,s2⟩:=h1
 obtain⟨s3,s4⟩:=h2
 repeat'(first|refine gB ?_|(refine gH ?_;intro g)|(refine gW ?_;intro v)|refine d33 ?_|fail)
 first|refine WL.callV (sign_c (.agg #[.bool n1,d1,.bool false,d2]) a) ?_|refine WD.callV (sign_c (.agg #[.bool n1,d1,.bool false,d2]) a) ?_
 repeat'(first|refine gB ?_|(refine gH ?_;intro g)|(refine gW ?_;intro v)|refine d33 ?_|fail)
 first|refine WL.callV (sign_c (.agg #[.bool n2,d3,.bool false,d4]) b) ?_|refine WD.callV (sign_c (.agg #[.bool n2,d3,.bool false,d4]) b) ?_
 have b1:=sgn_bd a.num
 have b2:=sgn_bd b.num
 have hc:=@cmp_sgn a b
 by_cases c:sgn a.num≠sgn b.num∨sgn a.num=0
 ·have hc:=hc c
  have hsp:sgn a.num≠sgn b.num∨(sgn a.num=sgn b.num∧sgn a.num=0):=by omega
  rcases hsp with c1|⟨c1,c2⟩
  all_goals
   repeat'(first|refine gB ?_|(refine gH ?_;intro g)|(refine gW ?_;intro v)|refine d33 ?_|fail)
   first|refine WL.callK (iof_c (sgn a.num) (by omega) (by omega)) ?_|refine WD.callK (iof_c (sgn a.num) (by omega) (by omega)) ?_|refine LO.callM (iof_c (sgn a.num) (by omega) (by omega)) ?_
   rintro _ _ _ ⟨n5,d5,rfl,hb5,rfl,rfl⟩
   simp only[List.nil_append,List.cons_append]
   repeat'(first|refine gB ?_|(refine gH ?_;intro g)|(refine gW ?_;intro v)|refine d33 ?_|fail)
   first|refine WL.callK (iof_c (sgn b.num) (by omega) (by omega)) ?_|refine WD.callK (iof_c (sgn b.num) (by omega) (by omega)) ?_|refine LO.callM (iof_c (sgn b.num) (by omega) (by omega)) ?_
   rintro _ _ _ ⟨n6,d6,rfl,hb6,rfl,rfl⟩
   simp only[List.nil_append,List.cons_append]
   repeat'(first|refine gB ?_|(refine gH ?_;intro g)|(refine gW ?_;intro v)|refine d33 ?_|fail)
   first|refine WL.callV (icompare_c (.agg #[.bool n5,d5]) (.agg #[.bool n6,d6]) (sgn a.num) (sgn b.num)) ?_|refine WD.callV (icompare_c (.agg #[.bool n5,d5]) (.agg #[.bool n6,d6]) (sgn a.num) (sgn b.num)) ?_
   rw[hc]
   repeat'(first|refine gB ?_|(refine gH ?_;intro g)|(refine gW ?_;intro v)|refine d33 ?_|fail)
   refine WC.ret ?_
   exact Fin.v (ResE.t1 rfl rfl) meA rfl
 ·have c1:sgn a.num=sgn b.num:=by omega
  have c2:sgn a.num≠0:=by omega
  refine WD.fact (isZ (.agg #[.bool n1,d1]) a.num) (hasQ_P hmA) ?_
  refine WD.fact (isZ (.agg #[.bool n2,d3]) b.num) (hasQ_P hmA) ?_
  have q1:=Sm.mul s1 s4
  have q2:=Sm.mul s3 s2
  have k1:Lz (a.num*(b.den:Int)).natAbs:=by rw[abs_mulc];exact Sm.w2 q1
  have k2:Lz (b.num*(a.den:Int)).natAbs:=by rw[abs_mulc];exact Sm.w2 q2
  repeat'(first|refine gB ?_|(refine gH ?_;intro g)|(refine gW ?_;intro v)|refine d33 ?_|fail)
  first|refine WL.callK (den_c (.agg #[.bool n2,d3,.bool false,d4]) b) ?_|refine WD.callK (den_c (.agg #[.bool n2,d3,.bool false,d4]) b) ?_|refine LO.callM (den_c (.agg #[.bool n2,d3,.bool false,d4]) b) ?_
  rintro _ _ _ ⟨n5,d5,rfl,hb5,rfl,rfl⟩
  simp only[List.nil_append,List.cons_append]
  repeat'(first|refine gB ?_|(refine gH ?_;intro g)|(refine gW ?_;intro v)|refine d33 ?_|fail)
  first|refine WL.callK (Mlt.mul_c (.agg #[.bool n1,d1]) (.agg #[.bool n5,d5]) a.num (b.den:Int) (Sm.w s1) (Sm.w s4)) ?_|refine WD.callK (Mlt.mul_c (.agg #[.bool n1,d1]) (.agg #[.bool n5,d5]) a.num (b.den:Int) (Sm.w s1) (Sm.w s4)) ?_|refine LO.callM (Mlt.mul_c (.agg #[.bool n1,d1]) (.agg #[.bool n5,d5]) a.num (b.den:Int) (Sm.w s1) (Sm.w s4)) ?_
  rintro _ _ _ ⟨n6,d6,rfl,hb6,rfl,rfl⟩
  simp only[List.nil_append,List.cons_append]
  repeat'(first|refine gB ?_|(refine gH ?_;intro g)|(refine gW ?_;intro v)|refine d33 ?_|fail)
  first|refine WL.callK (den_c (.agg #[.bool n1,d1,.bool false,d2]) a) ?_|refine WD.callK (den_c (.agg #[.bool n1,d1,.bool false,d2]) a) ?_|refine LO.callM (den_c (.agg #[.bool n1,d1,.bool false,d2]) a) ?_
  rintro _ _ _ ⟨n7,d7,rfl,hb7,rfl,rfl⟩
  simp only[List.nil_append,List.cons_append]
  repeat'(first|refine gB ?_|(refine gH ?_;intro g)|(refine gW ?_;intro v)|refine d33 ?_|fail)
  first|refine WL.callK (Mlt.mul_c (.agg #[.bool n2,d3]) (.agg #[.bool n7,d7]) b.num (a.den:Int) (Sm.w s3) (Sm.w s2)) ?_|refine WD.callK (Mlt.mul_c (.agg #[.bool n2,d3]) (.agg #[.bool n7,d7]) b.num (a.den:Int) (Sm.w s3) (Sm.w s2)) ?_|refine LO.callM (Mlt.mul_c (.agg #[.bool n2,d3]) (.agg #[.bool n7,d7]) b.num (a.den:Int) (Sm.w s3) (Sm.w s2)) ?_
  rintro _ _ _ ⟨n8,d8,rfl,hb8,rfl,rfl⟩
  simp only[List.nil_append,List.cons_append]
  repeat'(first|refine gB ?_|(refine gH ?_;intro g)|(refine gW ?_;intro v)|refine d33 ?_|fail)
  first|refine WL.callV (icompare_c (.agg #[.bool n6,d6]) (.agg #[.bool n8,d8]) (a.num*(b.den:Int)) (b.num*(a.den:Int))) ?_|refine WD.callV (icompare_c (.agg #[.bool n6,d6]) (.agg #[.bool n8,d8]) (a.num*(b.den:Int)) (b.num*(a.den:Int))) ?_
  rw[show cmpI (a.num*(b.den:Int)) (b.num*(a.den:Int))=cmpQ a b from rfl]
  repeat'(first|refine gB ?_|(refine gH ?_;intro g)|(refine gW ?_;intro v)|refine d33 ?_|fail)
  refine WC.ret ?_
  exact Fin.v (ResE.t1 rfl rfl) meA rfl
set_option maxHeartbeats 4000000 in
set_option maxRecDepth 8000 in
theorem equal_c (u w:Value) (l m:List Int):FnB Tryz.prog 65 [u,w] [] [sI u l,sI w m] (IsV (.bool (decide (l=m)))):=by
 refine fn_of [(0,u),(1,w)] 26 Tryz.func65 rfl Tryz.ntmps65 (by kernel_rfl) rfl suA fun h0=>?_
 refine WC.lenI u l hmA fun hlen=>?_
 by_cases c:l.length=m.length
 ·repeat'(first|refine gB ?_|(refine gH ?_;intro g)|(refine gW ?_;intro v)|refine d65 ?_|fail)
  refine WC.lp (σ:=Nat) (fun k=>[(13,.int .i64 (k:Int)),(12,.int .i64 (l.length:Int)),(0,u),(1,w)]) (fun _=>[]) (fun _=>[ge h0,sI u l,sI w m]) (fun k=>k≤l.length∧∀ j,j < k→l.getD j 0=m.getD j 0) (fun k=>l.length - k) 0 ⟨by simp,fun j hj=>by omega⟩ ?_
  rintro k ⟨hk,hs⟩
  by_cases h:k < l.length
  ·by_cases c1:l.getD k 0=m.getD k 0
   ·repeat'(first|refine gB ?_|(refine gH ?_;intro g)|(refine gW ?_;intro v)|refine d65 ?_|fail)
    exact LoopEnd.mk (k+1) ⟨by omega,fun j hj=>if hjk:j=k then hjk ▸ c1 else hs j (by omega)⟩ (by omega)
   ·repeat'(first|refine gB ?_|(refine gH ?_;intro g)|(refine gW ?_;intro v)|refine d65 ?_|fail)
    refine WC.ret ?_
    exact Fin.v (ResE.t1 rfl rfl) meA (by rw[decide_eq_false (fun he=>c1 (by rw[he]))])
  ·repeat'(first|refine gB ?_|(refine gH ?_;intro g)|(refine gW ?_;intro v)|refine d65 ?_|fail)
   refine WC.ret ?_
   exact Fin.v (ResE.t1 rfl rfl) meA (by rw[decide_eq_true (val_eq_all c (fun j hj=>hs j (by omega)))])
 ·repeat'(first|refine gB ?_|(refine gH ?_;intro g)|(refine gW ?_;intro v)|refine d65 ?_|fail)
  refine WC.ret ?_
  exact Fin.v (ResE.t1 rfl rfl) meA (by rw[decide_eq_false (fun he=>c (by rw[he]))])
theorem digs_eq {x y:Int} {a b:Bool} (ha:a=decide (x < 0)) (hb:b=decide (y < 0)):(a=b∧digs x.natAbs=digs y.natAbs)↔x=y:=by
 constructor
 ·rintro⟨h1,h2⟩
  have h3:=digs_inj h2
  rw[ha,hb,decide_eq_decide] at h1
  omega
 ·rintro rfl;exact⟨by rw[ha,hb],rfl⟩
set_option maxHeartbeats 4000000 in
set_option maxRecDepth 8000 in
theorem same1_c (v1 v2:Value) (x y:Int):FnB Tryz.prog 64 [v1,v2] [] [isZ v1 x,isZ v2 y] (IsV (.bool (decide (x=y)))):=by
 refine fn_of [(0,v1),(1,v2)] 17 Tryz.func64 rfl Tryz.ntmps64 (by kernel_rfl) rfl suA fun h0=>?_
 refine WC.openZ (v:=v1) (z:=x) hmA fun n1 d1 hv hb1=>?_
 subst hv
 refine WC.openZ (v:=v2) (z:=y) hmA fun n2 d2 hv hb2=>?_
 subst hv
 refine WC.fact (sI d1 (digs x.natAbs)) (hasZ_d hmA) ?_
 refine WC.fact (sI d2 (digs y.natAbs)) (hasZ_d hmA) ?_
 have hd:=digs_eq hb1 hb2
 have key:n1=n2→decide (digs x.natAbs=digs y.natAbs)=decide (x=y):=fun h=>by rw[decide_eq_decide];exact⟨fun h2=>hd.1 ⟨h,h2⟩,fun h2=>(hd.2 h2).2⟩
 have key2:n1≠n2→decide (x=y)=false:=fun h=>decide_eq_false fun h2=>h (hd.2 h2).1
 cases n1 <;> cases n2
 all_goals
  first
   |have k2:=key2 (by decide)
    repeat'(first|refine gA ?_|(refine goG ?_;intro g)|(refine goV ?_;intro v))
    refine WC.ret ?_
    exact Fin.v (ResE.t1 rfl rfl) meA (by rw[k2])
   |have k1:=key rfl
    repeat'(first|refine gA ?_|(refine goG ?_;intro g)|(refine goV ?_;intro v))
    first|refine WL.callV (equal_c d1 d2 (digs x.natAbs) (digs y.natAbs)) ?_|refine WD.callV (equal_c d1 d2 (digs x.natAbs) (digs y.natAbs)) ?_
    rw[k1]
    repeat'(first|refine gA ?_|(refine goG ?_;intro g)|(refine goV ?_;intro v))
    refine WC.ret ?_
    exact Fin.v (ResE.t1 rfl rfl) meA rfl
set_option maxHeartbeats 4000000 in
set_option maxRecDepth 8000 in
theorem same_c (v1 v2:Value) (a b:Rat):FnB Tryz.prog 16 [v1,v2] [] [isQ v1 a,isQ v2 b] (IsV (.bool (decide (a=b)))):=by
 refine fn_of [(0,v1),(1,v2)] 20 Tryz.func16 rfl Tryz.ntmps16 (by kernel_rfl) rfl suA fun h0=>?_
 refine WC.openQ (v:=v1) (q:=a) hmA fun n1 d1 d2 hv hb1=>?_
 subst hv
 refine WC.openQ (v:=v2) (q:=b) hmA fun n2 d3 d4 hv hb2=>?_
 subst hv
 repeat'(first|refine gA ?_|(refine goG ?_;intro g)|(refine goV ?_;intro v))
 first|refine WL.callV (same1_c (.agg #[.bool n1,d1]) (.agg #[.bool n2,d3]) a.num b.num) ?_|refine WD.callV (same1_c (.agg #[.bool n1,d1]) (.agg #[.bool n2,d3]) a.num b.num) ?_
 by_cases c:a.num=b.num
 ·rw[decide_eq_true c]
  repeat'(first|refine gA ?_|(refine goG ?_;intro g)|(refine goV ?_;intro v))
  first|refine WL.callV (same1_c (.agg #[.bool false,d2]) (.agg #[.bool false,d4]) (qz a) (qz b)) ?_|refine WD.callV (same1_c (.agg #[.bool false,d2]) (.agg #[.bool false,d4]) (qz a) (qz b)) ?_
  rw[show decide (qz a=qz b)=decide (a=b) by rw[decide_eq_decide];exact⟨fun h=>qz_inj c h,fun h=>by rw[h]⟩]
  repeat'(first|refine gA ?_|(refine goG ?_;intro g)|(refine goV ?_;intro v))
  refine WC.ret ?_
  exact Fin.v (ResE.t1 rfl rfl) meA rfl
 ·rw[decide_eq_false c]
  repeat'(first|refine gA ?_|(refine goG ?_;intro g)|(refine goV ?_;intro v))
  refine WC.ret ?_
  exact Fin.v (ResE.t1 rfl rfl) meA (by rw[decide_eq_false (fun h=>c (by rw[h]))])
end Rtc
end Go.Proofs.YtaongbhamadlkaaGreat
