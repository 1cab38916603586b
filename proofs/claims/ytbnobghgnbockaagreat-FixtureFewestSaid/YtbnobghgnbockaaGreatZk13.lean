/- Lemmas. Conditions: none. -/
import Derived.Test.YtbnobghgnbockaaGreatZk12
set_option linter.all false
set_option maxHeartbeats 0
set_option maxRecDepth 100000
namespace Go.Proofs.YtbnobghgnbockaaGreat
open Tryz (prog)
open W Go.RowKit
def Sm.neg{q:Rat}(h:Sm q):Sm (-q):=by
 unfold Sm at *;rw[dG,Rat.neg_den,cp];exact h
def sgn_bd(z:Int):-1<=sgn z/\sgn z<=1:=by unfold sgn;split<;>(try split)<;>omega
def qz_inj{a b:Rat}(h1:a.num=b.num)(h2:qz a=qz b):a=b:=by
 have:=a.den_nz;have:=b.den_nz;apply Rat.ext h1;unfold qz at h2;split at h2<;>split at h2<;>omega
section
attribute [local irreducible] WC WL WD YO LO Qq W.Fin Qk Qh Qj Row QZ Qv KnS Has W.One Qo QX
namespace Rtc
open Dvz Dvv Adc Rtm Rta
def d47{G G':Prop}(h:G')(s:Bx G'->G:=by
 intro h;first|refine gB ?_|(apply WC.draw (id:=6) [0,1,2,3,4,5,6,7,8] (.h 0<|.h 1<|.h 2<|.h 3<|.h 4<|.h 5<|.h 6<|.h 7<|.h 8 .done) mixed kr)|fail
 exact Bx.h h):G:=s ⟨h⟩
def d47r{G G':Prop}(h:G')(s:Bx G'->G:=by
 intro h;repeat'(first|intro(zQ:Nat)|refine d47 ?_|intro zQ)
 repeat revert zQ
 exact Bx.h h):G:=s ⟨h⟩

def d171{G G':Prop}(h:G')(s:Bx G'->G:=by
 intro h;first|refine gB ?_|(apply WC.draw (id:=1) [0,2,4,5] (.h 0<|.h 2<|.l 1<|.l 3<|.h 4<|.h 5 .done) mixed kr)|(apply WC.draw (id:=4) [0,1,2,5,6,7,11] (.h 0<|.h 1<|.h 2<|.h 5<|.h 6<|.h 7<|.l 3<|.l 4<|.l 8<|.l 9<|.l 10<|.h 11 .done) mixed kr)|fail
 exact Bx.h h):G:=s ⟨h⟩
def d171r{G G':Prop}(h:G')(s:Bx G'->G:=by
 intro h;repeat'(first|intro(zQ:Nat)|refine d171 ?_|intro zQ)
 repeat revert zQ
 exact Bx.h h):G:=s ⟨h⟩

def d184{G G':Prop}(h:G')(s:Bx G'->G:=by
 intro h;first|refine gB ?_|(apply WC.draw (id:=1) [0,1] (.h 0<|.h 1<|.l 2<|.l 3<|.l 4 .done) mixed kr)|fail
 exact Bx.h h):G:=s ⟨h⟩
def sub_c(v1 v2:nA)(a b:Rat)(h1:Sm a)(h2:Sm b):FnB prog 184 [v1,v2] [] [isQ v1 a,isQ v2 b] (IsQ (a-b)):=by
 refine fO [(0,v1),(1,v2)] 9 Tryz.func184 Tryz.ntmps184 λh0=>?_;refine WC.JM (v:=v1) (q:=a) hmA λn1 d1 d2 hv hb1=>?_;subst hv;refine WC.JM (v:=v2) (q:=b) hmA λn2 d3 d4 hv hb2=>?_;subst hv;repeat'(first|intro(g:Nat)|refine d184 ?_|intro v)
 refine cK (Rta.G2 (.agg #[.bool n2,d3,.bool false,d4]) b) ?_;rintro _ _ _ ⟨n3,d5,d6,rfl,hb3,rfl,rfl⟩;refine sNn ?_;repeat'(first|intro(g:Nat)|refine d184 ?_|intro v)
 refine cK (Rta.V7 (.agg #[.bool n1,d1,.bool false,d2]) (.agg #[.bool n3,d5,.bool false,d6]) a (-b) h1 h2.neg) ?_;rintro _ _ _ ⟨n4,d7,d8,rfl,hb4,rfl,rfl⟩;refine sNn ?_;rw[<-Rat.sub_eq_add_neg] at hb4 ⊢;repeat'(first|intro(g:Nat)|refine d184 ?_|intro v)
 exact wq87
def qcompare_c(v1 v2:nA)(a b:Rat)(h1:Sm a)(h2:Sm b):FnB prog 171 [v1,v2] [] [isQ v1 a,isQ v2 b] (IsV (nj (XN a b))):=by
 refine fO [(0,v1),(1,v2)] 34 Tryz.func171 Tryz.ntmps171 λh0=>?_;refine WC.JM (v:=v1) (q:=a) hmA λn1 d1 d2 hv hb1=>?_;subst hv;refine WC.JM (v:=v2) (q:=b) hmA λn2 d3 d4 hv hb2=>?_;subst hv;obtain⟨s1,s2⟩:=h1;obtain⟨s3,s4⟩:=h2;refine d171r ?_;intro g g;refine cV (sign_c (.agg #[.bool n1,d1,nq,d2]) a) ?_;refine d171r ?_;refine cV (sign_c (.agg #[.bool n2,d3,nq,d4]) b) ?_;have b1:=sgn_bd a.num;have b2:=sgn_bd b.num;have hc:=@cmp_sgn a b;by_cases c:sgn a.num≠sgn b.num\/sgn a.num=0
 .have hc:=hc c;have hsp:sgn a.num≠sgn b.num\/(sgn a.num=sgn b.num/\sgn a.num=0):=qo;rcases hsp with c1|⟨c1,c2⟩
  all_goals
   refine d171r ?_;refine cK (iof_c (sgn a.num) qo qo) ?_;rintro _ _ _ ⟨n5,d5,rfl,hb5,rfl,rfl⟩;refine sNn ?_;refine d171r ?_;refine cK (iof_c (sgn b.num) qo qo) ?_;rintro _ _ _ ⟨n6,d6,rfl,hb6,rfl,rfl⟩;refine sNn ?_;refine d171r ?_;refine cV (Ha (.agg #[.bool n5,d5]) (.agg #[.bool n6,d6]) (sgn a.num) (sgn b.num)) ?_;rw[hc];refine d171r ?_;exact wq4
 .have c1:sgn a.num=sgn b.num:=qo;have c2:sgn a.num≠0:=qo;refine WD.fact (isZ (.agg #[.bool n1,d1]) a.num) (JX hmA) ?_;refine WD.fact (isZ (.agg #[.bool n2,d3]) b.num) (JX hmA) ?_;have q1:=Sm.mul s1 s4;have q2:=Sm.mul s3 s2;have k1:Lz (a.num*(b.den:Int)).natAbs:=by rw[JD];exact Sm.w2 q1
  have k2:Lz (b.num*(a.den:Int)).natAbs:=by rw[JD];exact Sm.w2 q2
  refine d171r ?_;refine cK (KT (.agg #[.bool n2,d3,nq,d4]) b) ?_;rintro _ _ _ ⟨n5,d5,rfl,hb5,rfl,rfl⟩;refine sNn ?_;refine d171r ?_;refine cK (Mlt.ZA (.agg #[.bool n1,d1]) (.agg #[.bool n5,d5]) a.num (b.den:Int) (Sm.w s1) (Sm.w s4)) ?_;rintro _ _ _ ⟨n6,d6,rfl,hb6,rfl,rfl⟩;refine sNn ?_;refine d171r ?_;refine cK (KT (.agg #[.bool n1,d1,nq,d2]) a) ?_;rintro _ _ _ ⟨n7,d7,rfl,hb7,rfl,rfl⟩;refine sNn ?_;refine d171r ?_;refine cK (Mlt.ZA (.agg #[.bool n2,d3]) (.agg #[.bool n7,d7]) b.num (a.den:Int) (Sm.w s3) (Sm.w s2)) ?_;rintro _ _ _ ⟨n8,d8,rfl,hb8,rfl,rfl⟩;refine sNn ?_;refine d171r ?_;refine cV (Ha (.agg #[.bool n6,d6]) (.agg #[.bool n8,d8]) (a.num*(b.den:Int)) (b.num*(a.den:Int))) ?_;rw[show X9 (a.num*(b.den:Int)) (b.num*(a.den:Int))=XN a b from rfl];refine d171r ?_;exact wq4
def equal_c(u w:nA)(l m:nd):FnB prog 47 [u,w] [] [sI u l,sI w m] (IsV (.bool (decide (l=m)))):=by
 refine fO [(0,u),(1,w)] 26 Tryz.func47 Tryz.ntmps47 λh0=>?_;refine WC.ZE u l hmA λhlen=>?_;by_cases c:l.length=m.length
 .refine d47r ?_;refine WC.lp (σ:=Nat) (λk=>[(13,.int .i64 (k:Int)),(12,.int .i64 (l.length:Int)),(0,u),(1,w)]) (λ_=>[]) (λ_=>[ge h0,sI u l,sI w m]) (λk=>k<=l.length/\∀j,j<k->l.getD j 0=m.getD j 0) (λk=>l.length-k) 0 ⟨by simp,λj hj=>by omega⟩ ?_;rintro k ⟨hk,hs⟩;by_cases h:k<l.length
  .by_cases c1:l.getD k 0=m.getD k 0
   .refine d47r ?_;exact Qq.mk (k+1) ⟨by omega,λj hj=>if hjk:j=k then hjk ▸ c1 else hs j qo⟩ qo
   .refine d47r ?_;refine WC.ret ?_;exact Fin.v (Qf.t1 rfl rfl) meA (by rw[ak (λhe=>c1 (by rw[he]))])
  .refine d47r ?_;refine WC.ret ?_;exact Fin.v (Qf.t1 rfl rfl) meA (by rw[aq (KA c (λj hj=>hs j qo))])
 .refine d47r ?_;refine WC.ret ?_;exact Fin.v (Qf.t1 rfl rfl) meA (by rw[ak (λhe=>c (by rw[he]))])
def digs_eq{x y:Int}{a b:Bool}(ha:a=decide (x<0))(hb:b=decide (y<0)):(a=b/\Qx x.natAbs=Qx y.natAbs)↔x=y:=by
 constructor
 .rintro⟨h1,h2⟩;have h3:=digs_inj h2;rw[ha,hb,dK] at h1;omega
 .rintro rfl;exact⟨by rw[ha,hb],rfl⟩
def same1_c(v1 v2:nA)(x y:Int):FnB prog 227 [v1,v2] [] [isZ v1 x,isZ v2 y] (IsV (.bool (decide (x=y)))):=by
 refine fO [(0,v1),(1,v2)] 17 Tryz.func227 Tryz.ntmps227 λh0=>?_;refine WC.Jw (v:=v1) (z:=x) hmA λn1 d1 hv hb1=>?_;subst hv;refine WC.Jw (v:=v2) (z:=y) hmA λn2 d2 hv hb2=>?_;subst hv;refine WC.fact (sI d1 (Qx x.natAbs)) (QH hmA) ?_;refine WC.fact (sI d2 (Qx y.natAbs)) (QH hmA) ?_;have hd:=digs_eq hb1 hb2;have key:n1=n2->decide (Qx x.natAbs=Qx y.natAbs)=decide (x=y):=λh=>by rw[dK];exact⟨λh2=>hd.1 ⟨h,h2⟩,λh2=>(hd.2 h2).2⟩
 have key2:n1≠n2->decide (x=y)=false:=λh=>ak λh2=>h (hd.2 h2).1;cases n1<;>cases n2
 all_goals
  first
   |have k2:=key2 qd
    repeat'(first|intro(g:Nat)|refine gA ?_|intro v)
    refine WC.ret ?_;exact Fin.v (Qf.t1 rfl rfl) meA (by rw[k2])
   |have k1:=key rfl
    repeat'(first|intro(g:Nat)|refine gA ?_|intro v)
    refine cV (equal_c d1 d2 (Qx x.natAbs) (Qx y.natAbs)) ?_;rw[k1];refine gAr ?_;exact wq4
def same_c(v1 v2:nA)(a b:Rat):FnB prog 218 [v1,v2] [] [isQ v1 a,isQ v2 b] (IsV (.bool (decide (a=b)))):=by
 refine fO [(0,v1),(1,v2)] 20 Tryz.func218 Tryz.ntmps218 λh0=>?_;refine WC.JM (v:=v1) (q:=a) hmA λn1 d1 d2 hv hb1=>?_;subst hv;refine WC.JM (v:=v2) (q:=b) hmA λn2 d3 d4 hv hb2=>?_;subst hv;refine gAr ?_;intro g g;refine cV (same1_c (.agg #[.bool n1,d1]) (.agg #[.bool n2,d3]) a.num b.num) ?_;by_cases c:a.num=b.num
 .rw[aq c];refine gAr ?_;refine cV (same1_c (.agg #[nq,d2]) (.agg #[nq,d4]) (qz a) (qz b)) ?_;rw[show decide (qz a=qz b)=decide (a=b) by rw[dK];exact⟨λh=>qz_inj c h,λh=>by rw[h]⟩];refine gAr ?_;exact wq4
 .rw[ak c];refine gAr ?_;exact wq105
end Rtc
def mul_raw(a b:Rat):(a*b).num=a.num.tdiv (Nat.gcd a.num.natAbs b.den)*b.num.tdiv (Nat.gcd b.num.natAbs a.den)/\(a*b).den=a.den/(Nat.gcd b.num.natAbs a.den)*(b.den/(Nat.gcd a.num.natAbs b.den)):=by
 constructor
 .show(Rat.mul a b).num=_
  delta Rat.mul;dsimp only
  simp only[Int.divExact_eq_tdiv]
 .show(Rat.mul a b).den=_
  delta Rat.mul;dsimp only
  simp only[Nat.divExact_eq_div]
def mul_parts(a b:Rat):(a*b).num=(Rat.divInt a.num b.den).num*(Rat.divInt b.num a.den).num/\((a*b).den:Int)=((Rat.divInt a.num b.den).den:Int)*((Rat.divInt b.num a.den).den:Int):=by
 obtain⟨h1,h2⟩:=mul_raw a b;rw[ca,ca,ej,ej,ep,ep,ae a.den_nz,ae b.den_nz,ae a.den_nz,ae b.den_nz,h1,h2];constructor
 .rw[Int.tdiv_eq_ediv_of_dvd (Int.ofNat_dvd_left.2 (Nat.gcd_dvd_left ..)),Int.tdiv_eq_ediv_of_dvd (Int.ofNat_dvd_left.2 (Nat.gcd_dvd_left ..)),dh b.den,dh a.den]
 .rw[dh b.den,dh a.den,aT,Int.natCast_mul]
def mkr_le(n:Int)(d:Nat)(hd:d≠0):(Rat.divInt n d).num.natAbs<=n.natAbs/\(Rat.divInt n d).den<=d:=by
 rw[ca,ej,ep,ae hd,ae hd];exact⟨Int.natAbs_ediv_le_natAbs _ _,bR _ _⟩
def mul_int{a b:Rat}(ha:a.den=1)(hb:b.den=1):(a*b).num=a.num*b.num/\(a*b).den=1:=by
 have e:a*b=((a.num*b.num:Int):Rat):=by
  rw[VG ha,VG hb,c9];simp
 rw[e];exact⟨eV _,eW _⟩
def Sm.inv{b:Rat}(h:Sm b):Sm b⁻¹:=by
 obtain⟨h1,h2⟩:=h;constructor
 .rw[Rat.num_inv,bp,aG];by_cases c:b.num=0
  .rw[c];simp[JJ]
  .rw[Int.natAbs_sign_of_ne_zero c,Nat.one_mul];exact h2
 .rw[Rat.den_inv];split
  .rw[J1 qd qd];decide
  .exact h1
namespace Rmu
open Dvz Dvv Adc Rtm Rta Rtc
def d81{G G':Prop}(h:G')(s:Bx G'->G:=by
 intro h;first|refine gM ?_|(apply WC.draw (id:=5) [0,1,2,5,6,7] (.h 0<|.h 1<|.h 2<|.h 5<|.h 6<|.h 7<|.m 3 (.m 4 (.m 8 (.m 9 (.m 10 (.l 11<|.l 12<|.l 13 .done) (.l 11<|.l 10<|.l 12<|.l 13 .done)) (.m 10 (.m 9 (.l 11<|.l 12<|.l 13 .done) (.l 11<|.l 9<|.l 12<|.l 13 .done)) (.l 11<|.m 9 (.l 10<|.l 12<|.l 13 .done) (.l 10<|.l 9<|.l 12<|.l 13 .done)))) (.m 10 (.m 8 (.m 9 (.l 11<|.l 12<|.l 13 .done) (.l 11<|.l 9<|.l 12<|.l 13 .done)) (.l 11<|.l 8<|.l 9<|.l 12<|.l 13 .done)) (.l 11<|.m 8 (.m 9 (.l 10<|.l 12<|.l 13 .done) (.l 10<|.l 9<|.l 12<|.l 13 .done)) (.l 10<|.l 8<|.l 9<|.l 12<|.l 13 .done)))) (.m 10 (.m 4 (.m 8 (.m 9 (.l 11<|.l 12<|.l 13 .done) (.l 11<|.l 9<|.l 12<|.l 13 .done)) (.l 11<|.l 8<|.l 9<|.l 12<|.l 13 .done)) (.l 11<|.l 4<|.l 8<|.l 9<|.l 12<|.l 13 .done)) (.l 11<|.m 4 (.m 8 (.m 9 (.l 10<|.l 12<|.l 13 .done) (.l 10<|.l 9<|.l 12<|.l 13 .done)) (.l 10<|.l 8<|.l 9<|.l 12<|.l 13 .done)) (.l 10<|.l 4<|.l 8<|.l 9<|.l 12<|.l 13 .done)))) (.m 10 (.m 3 (.m 4 (.m 8 (.m 9 (.l 11<|.l 12<|.l 13 .done) (.l 11<|.l 9<|.l 12<|.l 13 .done)) (.l 11<|.l 8<|.l 9<|.l 12<|.l 13 .done)) (.l 11<|.l 4<|.l 8<|.l 9<|.l 12<|.l 13 .done)) (.l 11<|.l 3<|.l 4<|.l 8<|.l 9<|.l 12<|.l 13 .done)) (.l 11<|.m 3 (.m 4 (.m 8 (.m 9 (.l 10<|.l 12<|.l 13 .done) (.l 10<|.l 9<|.l 12<|.l 13 .done)) (.l 10<|.l 8<|.l 9<|.l 12<|.l 13 .done)) (.l 10<|.l 4<|.l 8<|.l 9<|.l 12<|.l 13 .done)) (.l 10<|.l 3<|.l 4<|.l 8<|.l 9<|.l 12<|.l 13 .done)))) mixed kr)|(apply WC.draw (id:=6) [0,1,2,3,5,7] (.h 0<|.h 1<|.h 2<|.h 3<|.h 5<|.h 7<|.l 4<|.l 6<|.l 8<|.l 9<|.l 10<|.l 11 .done) mixed kr)|fail
 exact Bx.h h):G:=s ⟨h⟩
def d81r{G G':Prop}(h:G')(s:Bx G'->G:=by
 intro h;repeat'(first|intro(zQ:Nat)|refine d81 ?_|intro zQ)
 repeat revert zQ
 exact Bx.h h):G:=s ⟨h⟩

def d221{G G':Prop}(h:G')(s:Bx G'->G:=by
 intro h;first|refine gB ?_|(apply WC.draw (id:=3) [0,1,3,4] (.h 0<|.h 1<|.h 3<|.h 4<|.l 2<|.l 5<|.l 6<|.l 7 .done) mixed kr)|fail
 exact Bx.h h):G:=s ⟨h⟩
def d221r{G G':Prop}(h:G')(s:Bx G'->G:=by
 intro h;repeat'(first|intro(zQ:Nat)|refine d221 ?_|intro zQ)
 repeat revert zQ
 exact Bx.h h):G:=s ⟨h⟩

def ZA(v1 v2:nA)(a b:Rat)(h1:Sm a)(h2:Sm b):FnB prog 81 [v1,v2] [] [isQ v1 a,isQ v2 b] (IsQ (a*b)):=by
 refine fO [(0,v1),(1,v2)] 59 Tryz.func81 Tryz.ntmps81 λh0=>?_;refine WC.JM (v:=v1) (q:=a) hmA λn1 d1 d2 hv hb1=>?_;subst hv;refine WC.JM (v:=v2) (q:=b) hmA λn2 d3 d4 hv hb2=>?_;subst hv;have ha:=@ZO a;have hb:=@ZO b;have na:=@Uh a;have nb:=@Uh b;obtain⟨s1,s2⟩:=h1;obtain⟨s3,s4⟩:=h2;refine WC.fact (isZ (.agg #[.bool n1,d1]) a.num) (JX hmA) ?_;refine WC.fact (isZ (.agg #[.bool n2,d3]) b.num) (JX hmA) ?_;by_cases c1:a=0
 .have l1:=na.2 c1;refine d81r ?_;intro g g g;rw[c1,Rat.zero_mul];exact wq27
 have l1:(Qx a.num.natAbs).length≠0:=λh=>c1 (na.1 h);by_cases c2:b=0
 .have l2:=nb.2 c2;refine d81r ?_;intro g g g;rw[c2,Rat.mul_zero];exact wq27
 have l2:(Qx b.num.natAbs).length≠0:=λh=>c2 (nb.1 h);by_cases c:a.den=1/\b.den=1
 .have l3:=ha.2 c.1;have l4:=hb.2 c.2;obtain⟨e1,e2⟩:=mul_int c.1 c.2;refine d81r ?_;intro g g g;refine cK (Mlt.ZA (.agg #[.bool n1,d1]) (.agg #[.bool n2,d3]) a.num b.num (Sm.w s1) (Sm.w s3)) ?_;rintro _ _ _ ⟨n5,d5,rfl,hb5,rfl,rfl⟩;refine sNn ?_;rw[<-e1] at hb5 ⊢;refine d81r ?_;refine WC.fact (isQ (.agg #[.bool n5,d5,.bool false,.slice none 0 0]) (a*b)) (Ye hb5 (QH hmA) (by rw[show qz (a*b)=0 by unfold qz;rw[ah e2]];simpa [JJ] using Gv)) ?_;refine WC.ret ?_;exact Fp [isQ (.agg #[.bool n5,d5,.bool false,.slice none 0 0]) (a*b)] (rcV T.r75) haA ⟨n5,_,_,rfl,hb5,rfl,rfl⟩
 have hsp:(Qx (qz a).natAbs).length≠0\/((Qx (qz a).natAbs).length=0/\(Qx (qz b).natAbs).length≠0):=by
  by_cases c1:a.den=1
  .exact .inr ⟨ha.2 c1,λh=>c ⟨c1,hb.1 h⟩⟩
  .exact .inl λh=>c1 (ha.1 h)
 have mk1:=λ(n5:Bool) (d5:nA)=>Dk (.agg #[.bool n1,d1]) (.agg #[.bool n5,d5]) a.num (b.den:Int) (Sm.w s1) (Sm.w s4);have mk2:=λ(n5:Bool) (d5:nA)=>Dk (.agg #[.bool n2,d3]) (.agg #[.bool n5,d5]) b.num (a.den:Int) (Sm.w s3) (Sm.w s2);obtain⟨p1,p2⟩:=mul_parts a b;obtain⟨x1,x2⟩:=mkr_le a.num b.den b.den_nz;obtain⟨y1,y2⟩:=mkr_le b.num a.den a.den_nz;have x3:=Rat.den_nz (Rat.divInt a.num b.den);have y3:=Rat.den_nz (Rat.divInt b.num a.den);generalize Rat.divInt a.num (b.den:Int)=x at *;generalize Rat.divInt b.num (a.den:Int)=y at *;have z1:Lz x.num.natAbs:=(Sm.w s1).le x1;have z2:Lz x.den:=(Sm.w s4).le x2;have z3:Lz y.num.natAbs:=(Sm.w s3).le y1;have z4:Lz y.den:=(Sm.w s2).le y2;rcases hsp with l3|⟨l3,l4⟩
 all_goals
  repeat'(first|intro(g:Nat)|refine gA ?_|intro v)
  refine WC.YH (σ:=Nat×Nat×Nat×Bool×nA×nA×Bool×nA×nA) (λs=>[(5,ptr s.1),(6,ptr s.2.1),(4,ptr s.2.2.1)])
   (λs=>[Ow.cells s.2.1 75 [.bool s.2.2.2.2.2.2.1,s.2.2.2.2.2.2.2.1,.bool false,s.2.2.2.2.2.2.2.2],Ow.cells s.1 75 [.bool s.2.2.2.1,s.2.2.2.2.1,.bool false,s.2.2.2.2.2.1],Ow.cells s.2.2.1 75 [.bool false,.slice none 0 0,.bool false,.slice none 0 0]])
   (λs=>[ge h0,isQ (.agg #[.bool s.2.2.2.1,s.2.2.2.2.1,.bool false,s.2.2.2.2.2.1]) x,isQ (.agg #[.bool s.2.2.2.2.2.2.1,s.2.2.2.2.2.2.2.1,.bool false,s.2.2.2.2.2.2.2.2]) y]) (λ_=>True) ?_ ?_
  .repeat'(first|intro(g:Nat)|refine d81 ?_|refine gN ?_ ?_|(refine cK (KT (.agg #[.bool n1,d1,.bool false,d2]) a) ?_;rintro _ _ _ ⟨zb,zd,rfl,zh,rfl,rfl⟩;refine sNn ?_)|(refine cK (KT (.agg #[.bool n2,d3,.bool false,d4]) b) ?_;rintro _ _ _ ⟨zb,zd,rfl,zh,rfl,rfl⟩;refine sNn ?_)|(refine cK (mk1 zb zd) ?_;rintro _ _ _ ⟨_,_,_,rfl,_,rfl,rfl⟩;refine sNn ?_)|(refine cK (mk2 zb zd) ?_;rintro _ _ _ ⟨_,_,_,rfl,_,rfl,rfl⟩;refine sNn ?_)|intro v)
   all_goals(apply Ex9;refine⟨trivial,?_,?_,?_⟩;(focus(repeat(first|exact Sub.nil _|refine Sub.cons rfl ?_)));exact wq137;exact wq26)
  rintro⟨g5,g6,g4,b5,e5,f5,b6,e6,f6⟩ _;simp only;refine WC.fact (isZ (.agg #[.bool b5,e5]) x.num) (JX hmA) ?_;refine WC.fact (isZ (.agg #[.bool b6,e6]) y.num) (JX hmA) ?_;refine d81r ?_;refine cK (Mlt.ZA (.agg #[.bool b5,e5]) (.agg #[.bool b6,e6]) x.num y.num z1 z3) ?_;rintro _ _ _ ⟨n7,d7,rfl,hb7,rfl,rfl⟩;refine sNn ?_;refine d81r ?_;refine cK (KT (.agg #[.bool b5,e5,.bool false,f5]) x) ?_;rintro _ _ _ ⟨n8,d8,rfl,hb8,rfl,rfl⟩;refine sNn ?_;refine d81r ?_;refine cK (KT (.agg #[.bool b6,e6,.bool false,f6]) y) ?_;rintro _ _ _ ⟨n9,d9,rfl,hb9,rfl,rfl⟩;refine sNn ?_;refine d81r ?_;refine cK (Mlt.ZA (.agg #[.bool n8,d8]) (.agg #[.bool n9,d9]) (x.den:Int) (y.den:Int) z2 z4) ?_;rintro _ _ _ ⟨n10,d10,rfl,hb10,rfl,rfl⟩;refine sNn ?_;refine d81r ?_;refine cK (Uk (.agg #[.bool n7,d7]) (.agg #[.bool n10,d10]) (x.num*y.num) ((x.den:Int)*(y.den:Int)) (a*b) (by rw[<-p2];have:=(a*b).den_nz;omega) (by rw[<-p2,ae qo];exact p1) (by rw[<-p2];simp)) ?_;rintro _ _ _ ⟨n11,d11,d12,rfl,hb11,rfl,rfl⟩;refine sNn ?_;refine d81r ?_;exact wq84
def div_c(v1 v2:nA)(a b:Rat)(h1:Sm a)(h2:Sm b):FnB prog 221 [v1,v2] [] [isQ v1 a,isQ v2 b] (IsQ (a/b)):=by
 refine fO [(0,v1),(1,v2)] 18 Tryz.func221 Tryz.ntmps221 λh0=>?_;refine WC.JM (v:=v1) (q:=a) hmA λn1 d1 d2 hv hb1=>?_;subst hv;refine WC.JM (v:=v2) (q:=b) hmA λn2 d3 d4 hv hb2=>?_;subst hv;have nb:=@Uh b;refine WC.fact (isZ (.agg #[.bool n2,d3]) b.num) (JX hmA) ?_;by_cases c2:b=0
 .have l2:=nb.2 c2;refine d221r ?_;intro g g g;rw[c2,Rat.div_def,Rat.inv_zero,Rat.mul_zero];exact wq27
 have l2:(Qx b.num.natAbs).length≠0:=λh=>c2 (nb.1 h);have hbn:b.num≠0:=λh=>c2 (Rat.num_eq_zero.1 h);refine d221r ?_;intro g g g;refine cK (KT (.agg #[.bool n2,d3,.bool false,d4]) b) ?_;rintro _ _ _ ⟨n8,d8,rfl,hb8,rfl,rfl⟩;refine sNn ?_;refine d221r ?_;refine cK (Uk (.agg #[.bool n8,d8]) (.agg #[.bool n2,d3]) (b.den:Int) b.num b⁻¹ hbn (by rw[Rat.num_inv];split;rw[Int.sign_eq_neg_one_of_neg (by assumption)];omega;rw[Int.sign_eq_one_of_pos qo];omega) (by rw[Rat.den_inv,ae hbn])) ?_;rintro _ _ _ ⟨n9,d9,e9,rfl,hb9,rfl,rfl⟩;refine sNn ?_;refine d221r ?_;refine cK (ZA (.agg #[.bool n1,d1,.bool false,d2]) (.agg #[.bool n9,d9,.bool false,e9]) a b⁻¹ h1 h2.inv) ?_;rintro _ _ _ ⟨n11,d11,d12,rfl,hb11,rfl,rfl⟩;refine sNn ?_;rw[<-Rat.div_def] at hb11 ⊢;refine d221r ?_;refine WC.ret ?_;exact Fp [isQ (.agg #[.bool n11,d11,.bool false,d12]) (a/b)] (rcV T.r75) haA ⟨n11,_,_,rfl,hb11,rfl,rfl⟩
end Rmu
end
def XS{l:nd}{x:Int}:ints l++[Value.int .i64 x]=ints (l++[x]):=by simp[ints]
def YO.nrem{P:nh}{e:Env}{bx:nw}{F:nc}{ty t t':nl}{x y:ni}{m:Nat}{j:Int}(hx:ev e x=some (nj (-(m:Int))))(hy:ev e y=some (nj j))(h2:0<j):YO P (.binOp .rem t x y t') ty e bx F (nj (-((m:Int)%j))):=by
 have:=YO.trem (P:=P) (bx:=bx) (F:=F) (ty:=ty) (t:=t) (t':=t') hx hy qo
 rwa [Int.neg_tmod,dy qo] at this
def YO.nquo{P:nh}{e:Env}{bx:nw}{F:nc}{ty t t':nl}{x y:ni}{m:Nat}{j:Int}(hx:ev e x=some (nj (-(m:Int))))(hy:ev e y=some (nj j))(h2:0<j)(h3:m<=9223372036854775808):YO P (.binOp .quo t x y t') ty e bx F (nj (-((m:Int)/j))):=by
 have:=YO.tquo (P:=P) (bx:=bx) (F:=F) (ty:=ty) (t:=t) (t':=t') hx hy qo;have h4:(m:Int)/j<=m:=eN _ qo;have h5:0<=(m:Int)/j:=cg qo qo
 rwa [Int.neg_tdiv,dB qo,wrap_i64 qo qo] at this
namespace Rm
open Dvz Dvv Adc
attribute [local irreducible] WC WL WD YO LO Qq W.Fin Qk Qh Qj Row QZ Qv KnS Has W.One Qo QX
def d144{G G':Prop}(h:G')(s:Bx G'->G:=by
 intro h;first|refine gB ?_|(apply WC.draw (id:=8) [0,1,2,3,4,5,6,7,8] (.h 0<|.h 1<|.h 2<|.h 3<|.h 4<|.h 5<|.h 6<|.h 7<|.h 8 .done) mixed kr)|(apply WC.draw (id:=10) [0,1,2,3,4,5,6,7,8] (.h 0<|.h 1<|.h 2<|.h 3<|.h 4<|.h 5<|.h 6<|.h 7<|.h 8 .done) mixed kr)|fail
 exact Bx.h h):G:=s ⟨h⟩
def d144r{G G':Prop}(h:G')(s:Bx G'->G:=by
 intro h;repeat'(first|intro(zQ:Nat)|refine d144 ?_|intro zQ)
 repeat revert zQ
 exact Bx.h h):G:=s ⟨h⟩

def goB{G G':Prop}(h:G')(s:Bx G'->G:=by
 intro h
 first
  |(apply WL.ZD;(apply YO.nrem;exact rfl;exact rfl;omega);exact rfl;exact rfl)
  |(apply WL.Y3;(apply YO.nquo;exact rfl;exact rfl;omega;omega);exact rfl;exact rfl)
  |(apply WL.YB;(apply YO.slice;exact wq50;exact rfl;exact knA;exact Or.inl ⟨rfl,rfl⟩;exact Or.inr ⟨_,rfl,rfl⟩;omega;omega);exact rfl;exact rfl)
  |(apply WL.YE;exact wq35;exact rfl;exact rfl)
 exact Bx.h h):G:=s ⟨h⟩
def QE(u:nA)(nb:Bool)(l:nd)(z:Int)(hd:Dg l)(hz:z.natAbs=(val l).toNat)(hb:val l≠0->nb=decide (z<0)):FnB prog 136 [.bool nb,u] [] [sI u l] (IsZ z):=by
 refine fO [(0,(.bool nb)),(1,u)] 29 Tryz.func136 Tryz.ntmps136 λh0=>?_;refine WC.ZE u l hmA λhlen=>?_;have hv0:=QJ hd;refine gAr ?_;intro g;refine WC.lp (σ:=Nat) (λn=>[(5,.int .i64 (n:Int)),(0,.bool nb),(1,u),(4,ptr g)]) (λ_=>[Ow.cells g 73 [.bool false,.slice none 0 0]]) (λ_=>[ge h0,sI u l]) (λn=>n<=l.length/\∀j,n<=j->j<l.length->l.getD j 0=0) (λn=>n) l.length ⟨by simp,λj h1 h2=>by omega⟩ ?_;rintro n ⟨hn,hzr⟩;by_cases h:0<n
 .have e0:max ((n:Int)-1) 0=(n:Int)-1:=qo;have e1:(max ((n:Int)-1) 0).toNat=n-1:=qo;have hm1:0<=max ((n:Int)-1) 0:=qo;have hm2:max ((n:Int)-1) 0<l.length:=qo;by_cases h2:l.getD (n-1) 0=0
  .have h3:l.getD (max ((n:Int)-1) 0).toNat 0=0:=by rw[e1];exact h2
   refine gAr ?_;exact Qq.mk (n-1) ⟨by omega,λj h4 h5=>if hj:j=n-1 then hj ▸ h2 else hzr j qo h5⟩ qo (by rw[show((n-1:Nat):Int)=(n:Int)-1 by omega];exact suA)
  .have h3:l.getD (max ((n:Int)-1) 0).toNat 0≠0:=by rw[e1];exact h2
   have hc:=Hk hd hn hzr (λ_=>h2)
   have hvne:val l≠0:=λhv=>by
    rw[hv] at hc;have:(l.take n).length=n:=by simp;omega
    rw[hc] at this;simp[JJ] at this;omega
   refine gAr ?_;refine WL.QD (sI (resl u 0 n 1) (l.take n)) (Has.takeI hmA hn) ?_;rw[hc,<-hz];refine gAr ?_;refine WC.fact (isZ (.agg #[.bool nb,resl u 0 n 1]) z) (JC (hb hvne) hmA) ?_;refine WC.ret ?_;exact Fp [isZ (.agg #[.bool nb,resl u 0 n 1]) z] (rcV T.r73) haA ⟨nb,_,rfl,hb hvne,rfl,rfl⟩
 .obtain rfl:n=0:=qo
  have hv:val l=0:=by
   have:=YT hn hzr;simpa [val] using this.symm
  have hz0:z=0:=by rw[hv] at hz;simp at hz;exact hz
  subst hz0;refine gAr ?_;exact wq53
def of_step{d:nd}{m n:Nat}(hd:Dg d)(hv:val d+BB^d.length*(m:Int)=n):Dg (d++[((m:Int)%1000000000)])/\val (d++[((m:Int)%1000000000)])+BB^(d++[((m:Int)%1000000000)]).length*((m/1000000000:Nat):Int)=n:=by
 refine⟨hd.snoc ⟨by omega,by show _<(1000000000:Int);omega⟩,?_⟩;rw[Y9,List.length_append,bt,Ko,<-hv];have h:(m:Int)=(m:Int)%1000000000+1000000000*((m/1000000000:Nat):Int):=qo;conv=>rhs;rw[h,Int.mul_add]
 rw[Int.mul_assoc];show _+_+_*(1000000000*_)=_;omega
def HB(n:Int)(h1:-9223372036854775808<=n)(h2:n<=9223372036854775807):FnB prog 58 [nj n] [] [] (IsZ n):=by
 refine fO [(0,(nj n))] 25 Tryz.func58 Tryz.ntmps58 λh0=>?_;by_cases c:n<0
 .have hdn:=aq c;refine gAr ?_;intro g;refine WC.QL 3 1 ?_
  refine WC.lp (σ:=Nat×nd×nA) (λs=>[(0,nj (-(s.1:Int))),(3,s.2.2),(4,.bool true),(2,ptr g)]) (λs=>[Ow.slice s.2.2 3 1 (ints s.2.1),Ow.cells g 73 [nq,nz]]) (λ_=>[ge h0])
   (λs=>s.1<=n.natAbs/\Dg s.2.1/\val s.2.1+BB^s.2.1.length*(s.1:Int)=(n.natAbs:Nat)/\s.2.1.length+(Qx s.1).length<=3) (λs=>s.1) (n.natAbs,[],nz) ⟨ai _,.nil,by simp[val],by simpa using Jx (k:=3) (n:=n.natAbs) qo⟩ ?_ (by rw[show -(((n.natAbs,([]:nd),Value.slice none 0 0).1:Nat):Int)=n by show -((n.natAbs:Nat):Int)=n;omega];exact suA)
  rintro⟨m,d,w⟩ ⟨hm,hd,hv,hl⟩;simp only at hm hd hv hl ⊢;by_cases hm0:m=0
  .subst hm0;have hval:val d=(n.natAbs:Nat):=by simpa using hv
   refine gAr ?_;refine WL.Q6 (l:=d) (v:=w) (el:=3) wq3 ?_;refine cK (QE w true d n hd (by rw[hval];simp) (λ_=>by rw[bO];simp only[aH,al];exact c)) ?_;rintro _ _ _ ⟨nb,e,rfl,hb,rfl,rfl⟩;refine gAs ?_;exact wq104
  .have hst:=of_step (m:=m) hd hv;have hdl:(Qx m).length=(Qx (m/1000000000)).length+1:=by rw[Xz hm0];rfl
   have hdiv:m/1000000000<m:=Nat.div_lt_self qo qd;have eq1:((m/1000000000:Nat):Int)=(m:Int)/1000000000:=by simp
   by_cases hr:(m:Int)%1000000000=0
   .rw[hr] at hst;have hr2:-((m:Int)%1000000000)=0:=qo;refine gAr ?_;intro v v;rw[hr2,XS];exact Qq.mk (m/1000000000,_,_) ⟨by show m/1000000000<=_;omega,hst.1,hst.2,by simp only[List.length_append,bt];omega⟩ wq131 (by simp only[eq1];exact suA)
   .have hr2:- -((m:Int)%1000000000)=(m:Int)%1000000000:=qo;refine gAr ?_;intro v v;rw[hr2,XS];exact Qq.mk (m/1000000000,_,_) ⟨by show m/1000000000<=_;omega,hst.1,hst.2,by simp only[List.length_append,bt];omega⟩ wq131 (by simp only[eq1];exact suA)
 .have hdn:=ak c;refine gAr ?_;intro g;refine WC.QL 3 1 ?_
  refine WC.lp (σ:=Nat×nd×nA) (λs=>[(0,nj ((s.1:Int))),(3,s.2.2),(4,nq),(2,ptr g)]) (λs=>[Ow.slice s.2.2 3 1 (ints s.2.1),Ow.cells g 73 [nq,nz]]) (λ_=>[ge h0])
   (λs=>s.1<=n.natAbs/\Dg s.2.1/\val s.2.1+BB^s.2.1.length*(s.1:Int)=(n.natAbs:Nat)/\s.2.1.length+(Qx s.1).length<=3) (λs=>s.1) (n.natAbs,[],nz) ⟨ai _,.nil,by simp[val],by simpa using Jx (k:=3) (n:=n.natAbs) qo⟩ ?_ (by rw[show(((n.natAbs,([]:nd),Value.slice none 0 0).1:Nat):Int)=n by show((n.natAbs:Nat):Int)=n;omega];exact suA)
  rintro⟨m,d,w⟩ ⟨hm,hd,hv,hl⟩;simp only at hm hd hv hl ⊢;by_cases hm0:m=0
  .subst hm0;have hval:val d=(n.natAbs:Nat):=by simpa using hv
   refine gAr ?_;refine WL.Q6 (l:=d) (v:=w) (el:=3) wq3 ?_;refine cK (QE w false d n hd (by rw[hval];simp) (λ_=>by rw[bO];simp only[aH,al];exact c)) ?_;rintro _ _ _ ⟨nb,e,rfl,hb,rfl,rfl⟩;refine gAs ?_;exact wq104
  .have hst:=of_step (m:=m) hd hv;have hdl:(Qx m).length=(Qx (m/1000000000)).length+1:=by rw[Xz hm0];rfl
   have hdiv:m/1000000000<m:=Nat.div_lt_self qo qd;have eq1:((m/1000000000:Nat):Int)=(m:Int)/1000000000:=by simp
   refine gAr ?_;intro v v;rw[XS];exact Qq.mk (m/1000000000,_,_) ⟨by show m/1000000000<=_;omega,hst.1,hst.2,by simp only[List.length_append,bt];omega⟩ wq131 (by simp only[eq1];exact suA)
def Z6(u:nA)(l:nd)(k:Nat):FnB prog 204 [u,nj k] [] [sI u l] (IsV (nj (l.getD k 0))):=by
 refine fO [(0,u),(1,(nj k))] 13 Tryz.func204 Tryz.ntmps204 λh0=>?_;by_cases c:k<l.length
 .refine gAr ?_;exact wq4
 .refine gAr ?_;refine WC.ret ?_;exact Fin.v (Qf.t1 rfl rfl) meA (by rw[Ym qo])
def Xy(u w:nA)(m n:Nat):FnB prog 144 [u,w] [] [sI u (Qx m),sI w (Qx n)] (IsV (.int .i64 (Xa m n))):=by
 refine fO [(0,u),(1,w)] 41 Tryz.func144 Tryz.ntmps144 λh0=>?_;obtain⟨a,ha⟩:∃a,Qx m=a:=⟨_,rfl⟩
 obtain⟨b,hb⟩:∃b,Qx n=b:=⟨_,rfl⟩
 have hcl:=λhl=>@QC m n hl;have hcg:=λhl=>@QC n m hl;have hlt:=λk hl=>@YG m n k hl;have hgt:=λk hl=>@YG n m k hl;have heq:=λhl=>@Vy m n hl;rw[ha] at hcl hcg hlt hgt heq ⊢;rw[hb] at hcl hcg hlt hgt heq ⊢;refine WC.ZE u a hmA λhlen=>?_;refine WC.ZE w b hmA λhlen2=>?_;by_cases c0:a.length=b.length
 .refine d144r ?_;refine WC.lp (σ:=Nat) (λk=>[(5,.int .i64 ((k:Int)-1)),(0,u),(1,w)]) (λ_=>[]) (λ_=>[ge h0,sI u a,sI w b]) (λk=>k<=a.length/\∀j,k<=j->j<a.length->a.getD j 0=b.getD j 0) (λk=>k) a.length ⟨ai _,λj _ _=>by omega⟩ ?_;rintro k ⟨hk,hs⟩;by_cases h:0<k
  .have e1:((k:Int)-1).toNat=k-1:=qo;rcases eG (a.getD (k-1) 0) (b.getD (k-1) 0) with c1|c1|c1
   .have c1':a.getD ((k:Int)-1).toNat 0<b.getD ((k:Int)-1).toNat 0:=by rw[e1];exact c1
    have hv:=XY (hlt (k-1) c0 qo (λj h4 h5=>hs j qo h5) c1);refine d144r ?_;refine WC.ret ?_;exact Fin.v (Qf.t1 rfl rfl) meA (by rw[hv])
   .have c1':a.getD ((k:Int)-1).toNat 0=b.getD ((k:Int)-1).toNat 0:=by rw[e1];exact c1
    refine d144r ?_;exact Qq.mk (k-1) ⟨by omega,λj h4 h5=>if hj:j=k-1 then hj ▸ c1 else hs j qo h5⟩ qo wq134
   .have c1':b.getD ((k:Int)-1).toNat 0<a.getD ((k:Int)-1).toNat 0:=by rw[e1];exact c1
    have hv:=X4 (hgt (k-1) c0.symm qo (λj h4 h5=>(hs j qo qo).symm) c1);refine d144r ?_;refine WC.ret ?_;exact Fin.v (Qf.t1 rfl rfl) meA (by rw[hv])
  .obtain rfl:k=0:=qo;have hmn:=heq c0 λj hj=>hs j qo hj;refine d144r ?_;exact wq126
 .by_cases c2:a.length<b.length
  .refine d144r ?_;refine WC.ret ?_;exact Fin.v (Qf.t1 rfl rfl) meA (by rw[XY (hcl c2)])
  .have c3:b.length<a.length:=qo;refine d144r ?_;refine WC.ret ?_;exact Fin.v (Qf.t1 rfl rfl) meA (by rw[X4 (hcg c3)])
end Rm
end Go.Proofs.YtbnobghgnbockaaGreat
