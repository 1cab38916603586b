/- Lemmas. Conditions: none. -/
import Derived.Test.YtbnobghgnbockaaGreatZk11
set_option linter.all false
set_option maxHeartbeats 0
set_option maxRecDepth 100000
namespace Go.Proofs.YtbnobghgnbockaaGreat
open Tryz (prog)
open W Go.RowKit
def Jo{n:Nat}(h:n≠0):0<(Qx n).length:=by
 have:(Qx n).length≠0:=λh2=>h (QN.1 h2);omega
def Dg.one:Dg [1]:=.cons ⟨by decide,by decide⟩ .nil
section
attribute [local irreducible] WC WL WD YO LO Qq W.Fin Qk Qh Qj Row QZ Qv KnS Has W.One Qo QX
namespace Dvv
open Dvz
def d216{G G':Prop}(h:G')(s:Bx G'->G:=by
 intro h;first|refine gB ?_|(apply WC.drawR (id:=8) [4] [0,1] (.h 0<|.h 1<|.l 2<|.l 3 .done) mixed kr;exact wq146)|fail
 exact Bx.h h):G:=s ⟨h⟩
def d216r{G G':Prop}(h:G')(s:Bx G'->G:=by
 intro h;repeat'(first|intro(zQ:Nat)|refine d216 ?_|intro zQ)
 repeat revert zQ
 exact Bx.h h):G:=s ⟨h⟩

def Jy{F:nc}{a d:nA}{n:Nat}(h:Has F (isZ (.agg #[a,d]) (n:Int))):Has F (sI d (Qx n)):=by simpa using QH h
def div_c(v1 v2:nA)(x y:Int)(h1:Lz x.natAbs)(h2:Lz y.natAbs)(hy:y≠0):FnB prog 216 [v1,v2] [] [isZ v1 x,isZ v2 y] (IsZZ (x/y) (x%y)):=by
 refine fO [(0,v1),(1,v2)] 55 Tryz.func216 Tryz.ntmps216 λh0=>?_;refine WC.Jw (v:=v1) (z:=x) hmA λn1 d1 hv hb1=>?_;subst hv;refine WC.Jw (v:=v2) (z:=y) hmA λn2 d2 hv hb2=>?_;subst hv;refine WC.fact (sI d1 (Qx x.natAbs)) (QH hmA) ?_;refine WC.fact (sI d2 (Qx y.natAbs)) (QH hmA) ?_;have hny:y.natAbs≠0:=qo;have hly:=Jo hny;refine d216r ?_;intro g g g g;refine WL.Jj (Dvz.K3 d1 d2 x.natAbs y.natAbs h1 h2 hny) ?_;rintro _ _ _ ⟨n3,d3,n4,d4,rfl,hb3,hb4,rfl,rfl⟩;refine sNn ?_;have hr:=bw x.natAbs (show 0<y.natAbs by omega);have hq0:x.natAbs/y.natAbs<=x.natAbs:=bR _ _;have e1:=@GK x y;have e2:=@GW x y hy;generalize hR:x.natAbs%y.natAbs=R at *;generalize hQ:x.natAbs/y.natAbs=Q at *;refine WL.QD (sI d3 (Qx Q)) (Jy hmA) ?_;refine WL.QD (sI d4 (Qx R)) (Jy hmA) ?_;obtain rfl:false=n3:=(hb3.trans (Q5 Q).symm).symm;obtain rfl:false=n4:=(hb4.trans (Q5 R).symm).symm;cases n1 with
 |true=>
  have hx:x<0:=ao hb1.symm;cases n2 with
  |true=>
   have hy2:y<0:=ao hb2.symm;by_cases hr0:R=0
   .have hlr0:(Qx R).length=0:=QN.2 hr0;obtain⟨hqa,hra,hsg⟩:=e2 (.inr hr0);have hq1:=λh=>Jo (n:=Q) h;have hlr:True:=trivial;by_cases hq:Q=0
    .have hlq:(Qx Q).length=0:=QN.2 hq;have hz:x/y=0:=qo;refine d216r ?_;intro g g;rw[<-hra] at hb4 ⊢;refine WC.fact (isZ (.agg #[.bool false,d3]) (x/y)) (JC wq18 wq69) ?_;exact wq138
    .have hlq:=hq1 hq;have hsg:=hsg qo;refine d216r ?_;intro g g;rw[<-hra] at hb4 ⊢;refine WC.fact (isZ (.agg #[.bool false,d3]) (x/y)) (JC wq18 wq69) ?_;exact wq138
   .have hlr0:=Jo hr0;obtain⟨hqa,hra,hsg,hqne⟩:=e1 hx hy hr0;refine d216r ?_;intro g g v;refine WL.Q6 (l:=[1]) (v:=v) (el:=3) wq3 ?_;revert v;intro v1;refine WL.Jj (Db d3 v1 (Qx Q) [1] (Qe _) .one (h1.le hq0) qd) ?_;rintro v2 _ _ ⟨l2,rfl,rfl,hd2,hv2,hl2⟩;refine sNn ?_;refine cK (Zy v2 false l2 ((Q+1:Nat):Int) hd2 wq116 (λ_=>Q5 _)) ?_;rintro _ _ _ ⟨n5,d5,rfl,hb5,rfl,rfl⟩;refine sNn ?_;refine d216r ?_;have hlen:(Qx R).length<=(Qx y.natAbs).length:=aP λh=>by have:=QC h;omega
    refine WL.Jj (Mns.Kz d2 d4 (Qx y.natAbs) (Qx R) (Qe _) (Qe _) (VQ h2) hlen hly wq64) ?_;rintro v3 _ _ ⟨l3,rfl,rfl,hd3,hv3,hl3⟩;refine sNn ?_;refine cK (Zy v3 false l3 (x%y) hd3 wq120 (λ_=>by rw[hra];exact(ak qo).symm)) ?_;rintro _ _ _ ⟨n4,d6,rfl,hb4,rfl,rfl⟩;refine sNn ?_;obtain rfl:false=n5:=(hb5.trans (Q5 _).symm).symm;have hlq:0<(Qx (Q+1)).length:=Jo qo;have hlq2:0<(Qx ((Q+1:Nat):Int).natAbs).length:=hlq;refine d216r ?_;refine WC.fact (isZ (.agg #[.bool false,d5]) (x/y)) (JC wq18 wq69) ?_;refine WC.ret ?_;exact Fp [isZ (.agg #[.bool false,d5]) (x/y),isZ (.agg #[.bool n4,d6]) (x%y)] (Qf.cc rfl rfl rfl meA meA T.r73 rfl T.r73 rfl) haA ⟨false,d5,n4,d6,rfl,wq18,hb4,rfl,rfl⟩
  |false=>
   have hy2:¬y<0:=ap hb2.symm;by_cases hr0:R=0
   .have hlr0:(Qx R).length=0:=QN.2 hr0;obtain⟨hqa,hra,hsg⟩:=e2 (.inr hr0);have hq1:=λh=>Jo (n:=Q) h;have hlr:True:=trivial;by_cases hq:Q=0
    .have hlq:(Qx Q).length=0:=QN.2 hq;have hz:x/y=0:=qo;refine d216r ?_;intro g g;rw[<-hra] at hb4 ⊢;refine WC.fact (isZ (.agg #[.bool false,d3]) (x/y)) (JC wq18 wq69) ?_;exact wq138
    .have hlq:=hq1 hq;have hsg:=hsg qo;refine d216r ?_;intro g g;rw[<-hra] at hb4 ⊢;refine WC.fact (isZ (.agg #[.bool true,d3]) (x/y)) (JC wq18 wq69) ?_;exact wq150
   .have hlr0:=Jo hr0;obtain⟨hqa,hra,hsg,hqne⟩:=e1 hx hy hr0;refine d216r ?_;intro g g v;refine WL.Q6 (l:=[1]) (v:=v) (el:=3) wq3 ?_;revert v;intro v1;refine WL.Jj (Db d3 v1 (Qx Q) [1] (Qe _) .one (h1.le hq0) qd) ?_;rintro v2 _ _ ⟨l2,rfl,rfl,hd2,hv2,hl2⟩;refine sNn ?_;refine cK (Zy v2 false l2 ((Q+1:Nat):Int) hd2 wq116 (λ_=>Q5 _)) ?_;rintro _ _ _ ⟨n5,d5,rfl,hb5,rfl,rfl⟩;refine sNn ?_;refine d216r ?_;have hlen:(Qx R).length<=(Qx y.natAbs).length:=aP λh=>by have:=QC h;omega
    refine WL.Jj (Mns.Kz d2 d4 (Qx y.natAbs) (Qx R) (Qe _) (Qe _) (VQ h2) hlen hly wq64) ?_;rintro v3 _ _ ⟨l3,rfl,rfl,hd3,hv3,hl3⟩;refine sNn ?_;refine cK (Zy v3 false l3 (x%y) hd3 wq120 (λ_=>by rw[hra];exact(ak qo).symm)) ?_;rintro _ _ _ ⟨n4,d6,rfl,hb4,rfl,rfl⟩;refine sNn ?_;obtain rfl:false=n5:=(hb5.trans (Q5 _).symm).symm;have hlq:0<(Qx (Q+1)).length:=Jo qo;have hlq2:0<(Qx ((Q+1:Nat):Int).natAbs).length:=hlq;refine d216r ?_;refine WC.fact (isZ (.agg #[.bool true,d5]) (x/y)) (JC wq18 wq69) ?_;refine WC.ret ?_;exact Fp [isZ (.agg #[.bool true,d5]) (x/y),isZ (.agg #[.bool n4,d6]) (x%y)] (Qf.cc rfl rfl rfl meA meA T.r73 rfl T.r73 rfl) haA ⟨true,d5,n4,d6,rfl,wq18,hb4,rfl,rfl⟩
 |false=>
  have hx:¬x<0:=ap hb1.symm;cases n2 with
  |true=>
   have hy2:y<0:=ao hb2.symm;obtain⟨hqa,hra,hsg⟩:=e2 (.inl qo);have hq1:=λh=>Jo (n:=Q) h;have hlr:True:=trivial;by_cases hq:Q=0
   .have hlq:(Qx Q).length=0:=QN.2 hq;have hz:x/y=0:=qo;refine d216r ?_;intro g g;rw[<-hra] at hb4 ⊢;refine WC.fact (isZ (.agg #[.bool false,d3]) (x/y)) (JC wq18 wq69) ?_;exact wq138
   .have hlq:=hq1 hq;have hsg:=hsg qo;refine d216r ?_;intro g g;rw[<-hra] at hb4 ⊢;refine WC.fact (isZ (.agg #[.bool true,d3]) (x/y)) (JC wq18 wq69) ?_;exact wq150
  |false=>
   have hy2:¬y<0:=ap hb2.symm;obtain⟨hqa,hra,hsg⟩:=e2 (.inl qo);have hq1:=λh=>Jo (n:=Q) h;have hlr:True:=trivial;by_cases hq:Q=0
   .have hlq:(Qx Q).length=0:=QN.2 hq;have hz:x/y=0:=qo;refine d216r ?_;intro g g;rw[<-hra] at hb4 ⊢;refine WC.fact (isZ (.agg #[.bool false,d3]) (x/y)) (JC wq18 wq69) ?_;exact wq138
   .have hlq:=hq1 hq;have hsg:=hsg qo;refine d216r ?_;intro g g;rw[<-hra] at hb4 ⊢;refine WC.fact (isZ (.agg #[.bool false,d3]) (x/y)) (JC wq18 wq69) ?_;exact wq138
end Dvv
def cmpI_pp{x y:Int}(hx:¬x<0)(hy:¬y<0):Xa x.natAbs y.natAbs=X9 x y:=by
 unfold Xa X9;split<;>split<;>first|rfl|(split<;>first|rfl|omega)|omega
def cmpI_nn{x y:Int}(hx:x<0)(hy:y<0):Xa y.natAbs x.natAbs=X9 x y:=by
 unfold Xa X9;split<;>split<;>first|rfl|(split<;>first|rfl|omega)|omega
namespace Adc
def d165{G G':Prop}(h:G')(s:Bx G'->G:=by
 intro h;first|refine gB ?_|(apply WC.draw (id:=2) [0,1,2,3,4,5] (.h 0<|.h 1<|.h 2<|.h 3<|.h 4<|.h 5<|.l 6<|.l 7<|.l 8 .done) mixed kr)|(apply WC.draw (id:=4) [0,1,2,3,4,5] (.h 0<|.h 1<|.h 2<|.h 3<|.h 4<|.h 5<|.l 6<|.l 7<|.l 8 .done) mixed kr)|(apply WC.draw (id:=5) [0,1,2,3,4,5] (.h 0<|.h 1<|.h 2<|.h 3<|.h 4<|.h 5<|.l 6<|.l 7<|.l 8 .done) mixed kr)|fail
 exact Bx.h h):G:=s ⟨h⟩
def d165r{G G':Prop}(h:G')(s:Bx G'->G:=by
 intro h;repeat'(first|intro(zQ:Nat)|refine d165 ?_|intro zQ)
 repeat revert zQ
 exact Bx.h h):G:=s ⟨h⟩

def Ha(v1 v2:nA)(x y:Int):FnB prog 217 [v1,v2] [] [isZ v1 x,isZ v2 y] (IsV (nj (X9 x y))):=by
 refine fO [(0,v1),(1,v2)] 34 Tryz.func217 Tryz.ntmps217 λh0=>?_;refine WC.Jw (v:=v1) (z:=x) hmA λn1 d1 hv hb1=>?_;subst hv;refine WC.Jw (v:=v2) (z:=y) hmA λn2 d2 hv hb2=>?_;subst hv;refine WC.fact (sI d1 (Qx x.natAbs)) (QH hmA) ?_;refine WC.fact (sI d2 (Qx y.natAbs)) (QH hmA) ?_;cases n1 with
 |true=>
  have hx:x<0:=ao hb1.symm;cases n2 with
  |true=>
   have hy:y<0:=ao hb2.symm;refine gAr ?_;intro g g;refine cV (Yn d2 d1 y.natAbs x.natAbs) ?_;rw[cmpI_nn hx hy];refine gAr ?_;exact wq4
  |false=>
   have hy:¬y<0:=ap hb2.symm;refine gAr ?_;intro g g;refine WC.ret ?_;exact Fin.v (Qf.t1 rfl rfl) meA (by rw[VX qo])
 |false=>
  have hx:¬x<0:=ap hb1.symm;cases n2 with
  |true=>
   have hy:y<0:=ao hb2.symm;refine gAr ?_;intro g g;refine WC.ret ?_;exact Fin.v (Qf.t1 rfl rfl) meA (by rw[VJ qo])
  |false=>
   have hy:¬y<0:=ap hb2.symm;refine gAr ?_;intro g g;refine cV (Yn d1 d2 x.natAbs y.natAbs) ?_;rw[cmpI_pp hx hy];refine gAr ?_;exact wq4
def V7(v1 v2:nA)(x y:Int)(h1:(Qx x.natAbs).length<=1000000000)(h2:(Qx y.natAbs).length<=1000000000):FnB prog 165 [v1,v2] [] [isZ v1 x,isZ v2 y] (IsZ (x+y)):=by
 refine fO [(0,v1),(1,v2)] 42 Tryz.func165 Tryz.ntmps165 λh0=>?_;refine WC.Jw (v:=v1) (z:=x) hmA λn1 d1 hv hb1=>?_;subst hv;refine WC.Jw (v:=v2) (z:=y) hmA λn2 d2 hv hb2=>?_;subst hv;refine WC.fact (sI d1 (Qx x.natAbs)) (QH hmA) ?_;refine WC.fact (sI d2 (Qx y.natAbs)) (QH hmA) ?_;cases n1 with
 |true=>
  have hx:x<0:=ao hb1.symm;cases n2 with
  |true=>
   have hy:y<0:=ao hb2.symm;refine d165r ?_;intro g g g;refine cK (Db d1 d2 (Qx x.natAbs) (Qx y.natAbs) (Qe _) (Qe _) h1 h2) ?_;rintro u _ _ ⟨l,rfl,rfl,hd,hv,hl⟩;refine sNn ?_;rw[Qw,Qw] at hv;refine d165r ?_;refine cK (Zy u true l (x+y) hd wq81 (λ_=>by rw[bO,aH];omega)) ?_;rintro _ _ _ ⟨nb,d,rfl,hb,rfl,rfl⟩;refine sNn ?_;refine d165r ?_;exact wq23
  |false=>
   have hy:¬y<0:=ap hb2.symm;refine d165r ?_;intro g g g;refine cV (Yn d1 d2 x.natAbs y.natAbs) ?_;by_cases c:x.natAbs<y.natAbs
   .rw[XY c];have hlen:(Qx x.natAbs).length<=(Qx y.natAbs).length:=aP λh=>by have:=QC h;omega
    refine d165r ?_;refine cK (Mns.Kz d2 d1 (Qx y.natAbs) (Qx x.natAbs) (Qe _) (Qe _) h2 hlen (Jo qo) wq64) ?_;rintro u _ _ ⟨l,rfl,rfl,hd,hv,hl⟩;refine sNn ?_;rw[Qw,Qw] at hv;refine d165r ?_;refine cK (Zy u false l (x+y) hd wq81 (λ_=>by rw[bO,al];omega)) ?_;rintro _ _ _ ⟨nb,d,rfl,hb,rfl,rfl⟩;refine sNn ?_;refine d165r ?_;exact wq23
   .have hc0:Xa x.natAbs y.natAbs=0\/Xa x.natAbs y.natAbs=1:=by
     by_cases c2:y.natAbs<x.natAbs
     .exact .inr (X4 c2)
     .rw[show x.natAbs=y.natAbs by omega];exact .inl (Z5 _)
    have hlen:(Qx y.natAbs).length<=(Qx x.natAbs).length:=aP λh=>by have:=QC h;omega
    refine d165r ?_;refine cK (Mns.Kz d1 d2 (Qx x.natAbs) (Qx y.natAbs) (Qe _) (Qe _) h1 hlen (Jo qo) wq64) ?_;rintro u _ _ ⟨l,rfl,rfl,hd,hv,hl⟩;refine sNn ?_;rw[Qw,Qw] at hv;refine d165r ?_;refine cK (Zy u true l (x+y) hd wq81 (λhne=>by rw[hv] at hne;rw[bO,aH];omega)) ?_;rintro _ _ _ ⟨nb,d,rfl,hb,rfl,rfl⟩;refine sNn ?_;refine d165r ?_;exact wq23
 |false=>
  have hx:¬x<0:=ap hb1.symm;cases n2 with
  |true=>
   have hy:y<0:=ao hb2.symm;refine d165r ?_;intro g g g;refine cV (Yn d1 d2 x.natAbs y.natAbs) ?_;by_cases c:x.natAbs<y.natAbs
   .rw[XY c];have hlen:(Qx x.natAbs).length<=(Qx y.natAbs).length:=aP λh=>by have:=QC h;omega
    refine d165r ?_;refine cK (Mns.Kz d2 d1 (Qx y.natAbs) (Qx x.natAbs) (Qe _) (Qe _) h2 hlen (Jo qo) wq64) ?_;rintro u _ _ ⟨l,rfl,rfl,hd,hv,hl⟩;refine sNn ?_;rw[Qw,Qw] at hv;refine d165r ?_;refine cK (Zy u true l (x+y) hd wq81 (λ_=>by rw[bO,aH];omega)) ?_;rintro _ _ _ ⟨nb,d,rfl,hb,rfl,rfl⟩;refine sNn ?_;refine d165r ?_;exact wq23
   .have hc0:Xa x.natAbs y.natAbs=0\/Xa x.natAbs y.natAbs=1:=by
     by_cases c2:y.natAbs<x.natAbs
     .exact .inr (X4 c2)
     .rw[show x.natAbs=y.natAbs by omega];exact .inl (Z5 _)
    have hlen:(Qx y.natAbs).length<=(Qx x.natAbs).length:=aP λh=>by have:=QC h;omega
    refine d165r ?_;refine cK (Mns.Kz d1 d2 (Qx x.natAbs) (Qx y.natAbs) (Qe _) (Qe _) h1 hlen (Jo qo) wq64) ?_;rintro u _ _ ⟨l,rfl,rfl,hd,hv,hl⟩;refine sNn ?_;rw[Qw,Qw] at hv;refine d165r ?_;refine cK (Zy u false l (x+y) hd wq81 (λhne=>by rw[hv] at hne;rw[bO,al];omega)) ?_;rintro _ _ _ ⟨nb,d,rfl,hb,rfl,rfl⟩;refine sNn ?_;refine d165r ?_;exact wq23
  |false=>
   have hy:¬y<0:=ap hb2.symm;refine d165r ?_;intro g g g;refine cK (Db d1 d2 (Qx x.natAbs) (Qx y.natAbs) (Qe _) (Qe _) h1 h2) ?_;rintro u _ _ ⟨l,rfl,rfl,hd,hv,hl⟩;refine sNn ?_;rw[Qw,Qw] at hv;refine d165r ?_;refine cK (Zy u false l (x+y) hd wq81 (λ_=>by rw[bO,al];omega)) ?_;rintro _ _ _ ⟨nb,d,rfl,hb,rfl,rfl⟩;refine sNn ?_;refine d165r ?_;exact wq23
end Adc
end
namespace Rtm
open Dvz Dvv Adc
def len_one{n:Nat}:(Qx n).length=1/\(Qx n).getD 0 0=1↔n=1:=by
 constructor
 .rintro⟨h1,h2⟩;have:=UN h1;rw[J1 this.1 this.2] at h2;simp at h2;omega
 .rintro rfl;rw[J1 qd qd];exact⟨rfl,rfl⟩
def num_make{p q:Int}(hq:q≠0)(hp:p≠0):(Rat.divInt p q).num=(if q/(Int.gcd p q:Int)<0 then -(p/(Int.gcd p q:Int)) else p/(Int.gcd p q:Int))/\((Rat.divInt p q).den:Int)=((q/(Int.gcd p q:Int)).natAbs:Int):=by
 have hg:0<Int.gcd p q:=da _ hq;have hgi:(0:Int)<(Int.gcd p q:Int):=qo;have d1:(Int.gcd p q:Int) ∣ p:=Int.gcd_dvd_left ..;have d2:(Int.gcd p q:Int) ∣ q:=eH ..
 have hs:(q/(Int.gcd p q:Int)<0)↔q<0:=by
  obtain⟨k,hk⟩:=d2;have e:q/(Int.gcd p q:Int)=k:=Int.ediv_eq_of_eq_mul_right qo hk;rw[e];constructor
  .intro hkn;rw[hk];exact Int.mul_neg_of_pos_of_neg hgi hkn
  .intro hqn;refine Int.not_le.1 λh=>?_;have:=bU (aN hgi) h;omega
 rw[Rat.num_divInt,Rat.den_divInt,ae hq,Int.gcd_comm q p];constructor
 .by_cases h:q<0
  .rw[ah (hs.2 h),Int.sign_eq_neg_one_of_neg h,Int.neg_one_mul,Int.neg_ediv_of_dvd d1]
  .rw[ae (λh2=>h (hs.1 h2)),Int.sign_eq_one_of_pos qo,cO]
 .congr 1
  rw[Int.natAbs_ediv_of_dvd d2,aG]
attribute [local irreducible] WC WL WD YO LO Qq W.Fin Qk Qh Qj Row QZ Qv KnS Has W.One Qo QX
def d169{G G':Prop}(h:G')(s:Bx G'->G:=by
 intro h;first|refine gB ?_|(apply WC.draw (id:=2) [0,2] (.h 0<|.h 2<|.l 1<|.l 3<|.l 4<|.l 5 .done) mixed kr)|fail
 exact Bx.h h):G:=s ⟨h⟩
def d169r{G G':Prop}(h:G')(s:Bx G'->G:=by
 intro h;repeat'(first|intro(zQ:Nat)|refine d169 ?_|intro zQ)
 repeat revert zQ
 exact Bx.h h):G:=s ⟨h⟩

def one_c:FnB prog 215 [] [] [] (IsZ 1):=by
 refine fO [] 2 Tryz.func215 Tryz.ntmps215 λh0=>?_;refine gAr ?_;intro g;refine cK (iof_c 1 qd qd) ?_;rintro _ _ _ ⟨nb,d,rfl,hb,rfl,rfl⟩;refine gAs ?_;exact wq65
def KC(v:nA)(z:Int):FnB prog 162 [v] [] [isZ v z] (IsV (.bool (decide (z=1)))):=by
 refine fO [(0,v)] 19 Tryz.func162 Tryz.ntmps162 λh0=>?_;refine WC.Jw (v:=v) (z:=z) hmA λn1 d1 hv hb1=>?_;subst hv;refine WC.fact (sI d1 (Qx z.natAbs)) (QH hmA) ?_;have hl1:=@len_one z.natAbs;generalize hD:Qx z.natAbs=D at *;cases n1 with
 |true=>
  have hz:z<0:=ao hb1.symm;refine gAr ?_;intro g;exact wq115
 |false=>
  have hz:¬z<0:=ap hb1.symm;by_cases c:D.length=1
  .by_cases c2:D.getD 0 0=1
   .have h3:=hl1.1 ⟨c,c2⟩;have c3:D.getD (0:Int).toNat 0=1:=c2;refine gAr ?_;intro g;exact wq117
   .have h3:z≠1:=λh=>c2 (hl1.2 qo).2;have c3:D.getD (0:Int).toNat 0≠1:=c2;refine gAr ?_;intro g;exact wq58
  .have h3:z≠1:=λh=>c (hl1.2 qo).1;refine gAr ?_;intro g;exact wq58
def Uk(v1 v2:nA)(p q:Int)(r:Rat)(hq:q≠0)(hn:r.num=if q<0 then -p else p)(hd:(r.den:Int)=(q.natAbs:Int)):FnB prog 169 [v1,v2] [] [isZ v1 p,isZ v2 q] (IsQ r):=by
 refine fO [(0,v1),(1,v2)] 18 Tryz.func169 Tryz.ntmps169 λh0=>?_;refine WC.Jw (v:=v1) (z:=p) hmA λn1 d1 hv hb1=>?_;subst hv;refine WC.Jw (v:=v2) (z:=q) hmA λn2 d2 hv hb2=>?_;subst hv
 have fin:∀(F:nc) (nb:Bool) (e1 e2:nA),q.natAbs≠1->Has F (isZ (.agg #[.bool nb,e1]) r.num)->Has F (isZ (.agg #[.bool false,e2]) (q.natAbs:Int))->nb=decide (r.num<0)->Has F (isQ (.agg #[.bool nb,e1,.bool false,e2]) r):=λF nb e1 e2 h1 h2 h3 hb=>Ye hb (QH h2) (by
  have:qz r=(q.natAbs:Int):=by unfold qz;rw[ae qo];exact hd
  rw[this];exact QH h3)
 have fin1:∀(F:nc) (nb:Bool) (e1:nA),q.natAbs=1->Has F (isZ (.agg #[.bool nb,e1]) r.num)->nb=decide (r.num<0)->Has F (isQ (.agg #[.bool nb,e1,.bool false,.slice none 0 0]) r):=λF nb e1 h1 h2 hb=>Ye hb (QH h2) (by
  have:qz r=0:=by unfold qz;rw[ah qo]
  rw[this];simpa [JJ] using Gv)
 cases n2 with
 |true=>
  have hq2:q<0:=ao hb2.symm;rw[ah hq2] at hn;refine d169r ?_;intro g g g;refine cK (G2 (.agg #[.bool n1,d1]) p) ?_;rintro _ _ _ ⟨n3,d3,rfl,hb3,rfl,rfl⟩;refine sNn ?_;refine d169r ?_;refine cK (G2 (.agg #[.bool true,d2]) q) ?_;rintro _ _ _ ⟨n4,d4,rfl,hb4,rfl,rfl⟩;refine sNn ?_;obtain rfl:false=n4:=by rw[hb4,bO,al];omega
  rw[<-hn] at hb3 ⊢;rw[show -q=(q.natAbs:Int) by omega];refine d169r ?_;refine cV (KC (.agg #[.bool false,d4]) (q.natAbs:Int)) ?_;by_cases c:q.natAbs=1
  .rw[aq qo];refine d169r ?_;refine WC.fact (isQ (.agg #[.bool n3,d3,.bool false,.slice none 0 0]) r) (fin1 _ _ _ c hmA hb3) ?_;refine WC.ret ?_;exact Fp [isQ (.agg #[.bool n3,d3,.bool false,.slice none 0 0]) r] (rcV T.r75) haA ⟨n3,_,_,rfl,hb3,rfl,rfl⟩
  .rw[ak qo];refine d169r ?_;refine WC.fact (isQ (.agg #[.bool n3,d3,.bool false,d4]) r) (fin _ _ _ _ c hmA hmA hb3) ?_;refine WC.ret ?_;exact Fp [isQ (.agg #[.bool n3,d3,.bool false,d4]) r] (rcV T.r75) haA ⟨n3,_,_,rfl,hb3,rfl,rfl⟩
 |false=>
  have hq2:¬q<0:=ap hb2.symm;rw[ae hq2] at hn;rw[<-hn] at hb1 ⊢;rw[show q=(q.natAbs:Int) by omega] at hb2 ⊢;refine d169r ?_;intro g g g;refine cV (KC (.agg #[.bool false,d2]) (q.natAbs:Int)) ?_;by_cases c:q.natAbs=1
  .rw[aq qo];refine d169r ?_;refine WC.fact (isQ (.agg #[.bool n1,d1,.bool false,.slice none 0 0]) r) (fin1 _ _ _ c hmA hb1) ?_;refine WC.ret ?_;exact Fp [isQ (.agg #[.bool n1,d1,.bool false,.slice none 0 0]) r] (rcV T.r75) haA ⟨n1,_,_,rfl,hb1,rfl,rfl⟩
  .rw[ak qo];refine d169r ?_;refine WC.fact (isQ (.agg #[.bool n1,d1,.bool false,d2]) r) (fin _ _ _ _ c hmA hmA hb1) ?_;refine WC.ret ?_;exact Fp [isQ (.agg #[.bool n1,d1,.bool false,d2]) r] (rcV T.r75) haA ⟨n1,_,_,rfl,hb1,rfl,rfl⟩
def Dk(v1 v2:nA)(p q:Int)(h1:Lz p.natAbs)(h2:Lz q.natAbs):FnB prog 167 [v1,v2] [] [isZ v1 p,isZ v2 q] (IsQ (Rat.divInt p q)):=by
 refine fO [(0,v1),(1,v2)] 38 Tryz.func167 Tryz.ntmps167 λh0=>?_;refine WC.Jw (v:=v1) (z:=p) hmA λn1 d1 hv hb1=>?_;subst hv;refine WC.Jw (v:=v2) (z:=q) hmA λn2 d2 hv hb2=>?_;subst hv;have lp:=@QN p.natAbs;have lq:=@QN q.natAbs;by_cases c0:q=0
 .have hl:=lq.2 qo;refine gAr ?_;intro g g g;rw[c0,Rat.divInt_zero];exact wq27
 have hlq:=Jo (n:=q.natAbs) qo;by_cases c1:p=0
 .have hl:=lp.2 qo;refine gAr ?_;intro g g g;rw[c1,eU];exact wq27
 have hlp:=Jo (n:=p.natAbs) qo;obtain⟨hn,hd⟩:=num_make (p:=p) (q:=q) c0 c1;have hg:0<Int.gcd p q:=da _ c0;have hg2:Lz (Int.gcd p q):=h2.le (Nat.le_of_dvd qo (Nat.gcd_dvd_right ..))
 have hqne:q/(Int.gcd p q:Int)≠0:=λh=>by
  have:=Int.ediv_mul_cancel (eH (a:=p) (b:=q));rw[h] at this;omega
 refine gAr ?_;intro g g g;refine cK (gcd_c (.agg #[.bool n1,d1]) (.agg #[.bool n2,d2]) p q h1 h2) ?_;rintro _ _ _ ⟨n3,d3,rfl,hb3,rfl,rfl⟩;refine gAs ?_;intro g;refine cV (KC (.agg #[.bool n3,d3]) ((Int.gcd p q:Nat):Int)) ?_;by_cases c2:Int.gcd p q=1
 .rw[aq qo];rw[c2] at hn hd hqne;have e1:∀z:Int,z/((1:Nat):Int)=z:=λz=>Int.ediv_one z;rw[e1] at hd hqne;rw[e1,e1] at hn;refine gAr ?_;refine cK (Uk (.agg #[.bool n1,d1]) (.agg #[.bool n2,d2]) p q (Rat.divInt p q) c0 hn hd) ?_;rintro _ _ _ ⟨nb,e1,e2,rfl,hb,rfl,rfl⟩;refine gAs ?_;exact wq36
 .rw[ak qo];refine gAr ?_;refine cK (div_c (.agg #[.bool n1,d1]) (.agg #[.bool n3,d3]) p ((Int.gcd p q:Nat):Int) h1 hg2 qo) ?_;rintro _ _ _ ⟨n4,d4,n5,d5,rfl,hb4,hb5,rfl,rfl⟩;refine gAs ?_;refine cK (div_c (.agg #[.bool n2,d2]) (.agg #[.bool n3,d3]) q ((Int.gcd p q:Nat):Int) h2 hg2 qo) ?_;rintro _ _ _ ⟨n6,d6,n7,d7,rfl,hb6,hb7,rfl,rfl⟩;refine gAs ?_;refine cK (Uk (.agg #[.bool n4,d4]) (.agg #[.bool n6,d6]) (p/((Int.gcd p q:Nat):Int)) (q/((Int.gcd p q:Nat):Int)) (Rat.divInt p q) hqne hn hd) ?_;rintro _ _ _ ⟨nb,e1,e2,rfl,hb,rfl,rfl⟩;refine gAs ?_;exact wq36
end Rtm
def Sm(q:Rat):Prop:=(Qx q.num.natAbs).length<=400000000/\(Qx q.den).length<=400000000
def XN(a b:Rat):Int:=X9 (a.num*b.den) (b.num*a.den)
def VZ{a b:Rat}:XN a b<0↔a<b:=by
 rw[eZ];unfold XN X9;split
 .simp[*]
 .split<;>(constructor<;>intro h<;>omega)
def JE{a b:Rat}:0<XN a b↔b<a:=by
 rw[eZ];unfold XN X9;split
 .constructor<;>intro h<;>omega
 .split<;>(constructor<;>intro h<;>omega)
def cmpQ_eq{a b:Rat}:XN a b=0↔a=b:=by
 rw[Rat.eq_iff_mul_eq_mul];unfold XN X9;split
 .constructor<;>intro h<;>omega
 .split<;>(constructor<;>intro h<;>omega)
def sgn_mul{z:Int}{d:Nat}(hd:d≠0):(z*d<0↔z<0)/\(0<z*d↔0<z):=by
 have h0:(0:Int)<d:=qo;rcases eG z 0 with h|h|h
 .have:=Int.mul_neg_of_neg_of_pos h h0;constructor<;>constructor<;>intro h2<;>omega
 .subst h;simp
 .have:=eQ h h0;constructor<;>constructor<;>intro h2<;>omega
def cmp_sgn{a b:Rat}(h:sgn a.num≠sgn b.num\/sgn a.num=0):X9 (sgn a.num) (sgn b.num)=XN a b:=by
 have h1:=@sgn_mul a.num b.den b.den_nz;have h2:=@sgn_mul b.num a.den a.den_nz;unfold XN;generalize a.num*b.den=x at *;generalize b.num*a.den=y at *;unfold sgn X9 at *;split at h<;>split at h<;>(repeat' split)<;>first|rfl|omega|(split at h<;>omega)
def ZO{q:Rat}:(Qx (qz q).natAbs).length=0↔q.den=1:=by
 rw[QN];unfold qz;have:=q.den_nz;split<;>omega
def Uh{q:Rat}:(Qx q.num.natAbs).length=0↔q=0:=by
 rw[QN,<-Rat.num_eq_zero];omega
def VG{q:Rat}(h:q.den=1):q=((q.num:Int):Rat):=by
 apply Rat.ext
 .simp
 .simpa using h
def add_int{a b:Rat}(ha:a.den=1)(hb:b.den=1):(a+b).num=a.num+b.num/\(a+b).den=1:=by
 have e:a+b=((a.num+b.num:Int):Rat):=by
  rw[VG ha,VG hb,Rat.intCast_add];simp
 rw[e];exact⟨eV _,eW _⟩
def add_div{a b:Rat}:Rat.divInt (a.num*b.den+b.num*a.den) ((a.den:Int)*(b.den:Int))=a+b:=by
 have:((a.den:Int)*(b.den:Int))=((a.den*b.den:Nat):Int):=by simp
 rw[this,ca,Rat.add_def']
def Sm.mul{x y:Nat}(hx:(Qx x).length<=400000000)(hy:(Qx y).length<=400000000):(Qx (x*y)).length<=800000000:=aL (JB x y) qo
def Sm.w{x:Nat}(hx:(Qx x).length<=400000000):Lz x:=by show _<=_;omega
def Sm.w2{x:Nat}(hx:(Qx x).length<=800000000):Lz x:=by show _<=_;omega
def Sm.w3{u w:Int}(hu:(Qx u.natAbs).length<=800000000)(hw:(Qx w.natAbs).length<=800000000):Lz (u+w).natAbs:=by
 have h1:=J4 (eE u w);have h2:=K2 u.natAbs w.natAbs;show _<=_;omega
def JD(z:Int)(d:Nat):(z*(d:Int)).natAbs=z.natAbs*d:=by rw[bp,aG]
namespace Rta
open Dvz Dvv Adc Rtm
attribute [local irreducible] WC WL WD YO LO Qq W.Fin Qk Qh Qj Row QZ Qv KnS Has W.One Qo QX
def d80{G G':Prop}(h:G')(s:Bx G'->G:=by
 intro h;first|refine gM ?_|(apply WC.draw (id:=7) [0,2] (.h 0<|.h 2<|.m 1 (.m 3 (.m 4 (.l 5<|.l 6<|.l 7 .done) (.l 5<|.l 4<|.l 6<|.l 7 .done)) (.m 4 (.m 3 (.l 5<|.l 6<|.l 7 .done) (.l 5<|.l 3<|.l 6<|.l 7 .done)) (.l 5<|.m 3 (.l 4<|.l 6<|.l 7 .done) (.l 4<|.l 3<|.l 6<|.l 7 .done)))) (.m 4 (.m 1 (.m 3 (.l 5<|.l 6<|.l 7 .done) (.l 5<|.l 3<|.l 6<|.l 7 .done)) (.l 5<|.l 1<|.l 3<|.l 6<|.l 7 .done)) (.l 5<|.m 1 (.m 3 (.l 4<|.l 6<|.l 7 .done) (.l 4<|.l 3<|.l 6<|.l 7 .done)) (.l 4<|.l 1<|.l 3<|.l 6<|.l 7 .done)))) mixed kr)|(apply WC.draw (id:=8) [0,1,2,4,5,6,9,10] (.h 0<|.h 1<|.h 2<|.h 4<|.h 5<|.h 6<|.h 9<|.h 10<|.l 3<|.l 7<|.l 8<|.l 11<|.l 12<|.l 13 .done) mixed kr)|fail
 exact Bx.h h):G:=s ⟨h⟩
def d80r{G G':Prop}(h:G')(s:Bx G'->G:=by
 intro h;repeat'(first|intro(zQ:Nat)|refine d80 ?_|intro zQ)
 repeat revert zQ
 exact Bx.h h):G:=s ⟨h⟩

def d120{G G':Prop}(h:G')(s:Bx G'->G:=by
 intro h;first|refine gB ?_|(apply WC.draw (id:=1) [0,1,3,4,5] (.h 0<|.h 1<|.h 3<|.h 4<|.l 2<|.h 5<|.l 6 .done) mixed kr)|fail
 exact Bx.h h):G:=s ⟨h⟩
def Zy(p q:Int)(h1:p.natAbs<B2)(h2:q.natAbs<B2):FnB prog 101 [nj p,nj q] [] [] (IsQ (Rat.divInt p q)):=by
 refine fO [(0,(nj p)),(1,(nj q))] 10 Tryz.func101 Tryz.ntmps101 λh0=>?_;have h1':p.natAbs<1000000000000000000:=h1;have h2':q.natAbs<1000000000000000000:=h2;refine gAr ?_;intro g;refine cK (iof_c p qo qo) ?_;rintro _ _ _ ⟨n1,d1,rfl,hb1,rfl,rfl⟩;refine gAs ?_;refine cK (iof_c q qo qo) ?_;rintro _ _ _ ⟨n2,d2,rfl,hb2,rfl,rfl⟩;refine gAs ?_;refine cK (Dk (.agg #[.bool n1,d1]) (.agg #[.bool n2,d2]) p q (Lz.of h1) (Lz.of h2)) ?_;rintro _ _ _ ⟨nb,e1,e2,rfl,hb,rfl,rfl⟩;refine gAs ?_;exact wq36
def KT(v:nA)(q:Rat):FnB prog 166 [v] [] [isQ v q] (IsZ (q.den:Int)):=by
 refine fO [(0,v)] 11 Tryz.func166 Tryz.ntmps166 λh0=>?_;refine WC.JM (v:=v) (q:=q) hmA λn1 d1 d2 hv hb1=>?_;subst hv;have hl:=@ZO q;by_cases c:q.den=1
 .have hl0:=hl.2 c;refine gAr ?_;intro g g;refine cK (one_c) ?_;rintro _ _ _ ⟨nb,d,rfl,hb,rfl,rfl⟩;refine gAs ?_;rw[show((q.den:Nat):Int)=1 by omega];exact wq65
 .have hl0:(Qx (qz q).natAbs).length≠0:=λh=>c (hl.1 h);have hz:qz q=(q.den:Int):=by unfold qz;rw[ae c]
  rw[hz] at hl0;refine WC.fact (isZ (.agg #[.bool false,d2]) (q.den:Int)) (by rw[<-hz];exact Hb hmA) ?_;refine gAr ?_;intro g g;exact wq90
def sign_c(v:nA)(q:Rat):FnB prog 79 [v] [] [isQ v q] (IsV (nj (sgn q.num))):=by
 refine fO [(0,v)] 6 Tryz.func79 Tryz.ntmps79 λh0=>?_;refine WC.JM (v:=v) (q:=q) hmA λn1 d1 d2 hv hb1=>?_;subst hv;refine WC.fact (isZ (.agg #[.bool n1,d1]) q.num) (JX hmA) ?_;refine gAr ?_;intro g;refine cV (isign_c (.agg #[.bool n1,d1]) q.num) ?_;refine gAr ?_;exact wq4
def G2(v:nA)(q:Rat):FnB prog 120 [v] [] [isQ v q] (IsQ (-q)):=by
 refine fO [(0,v)] 9 Tryz.func120 Tryz.ntmps120 λh0=>?_;refine WC.JM (v:=v) (q:=q) hmA λn1 d1 d2 hv hb1=>?_;subst hv;refine WC.fact (isZ (.agg #[.bool n1,d1]) q.num) (JX hmA) ?_;repeat'(first|intro(g:Nat)|refine d120 ?_|intro v)
 refine cK (Go.Proofs.YtbnobghgnbockaaGreat.G2 (.agg #[.bool n1,d1]) q.num) ?_;rintro _ _ _ ⟨n3,d3,rfl,hb3,rfl,rfl⟩;refine sNn ?_;repeat'(first|intro(g:Nat)|refine d120 ?_|intro v)
 have hb4:n3=decide ((-q).num<0):=by rw[hb3,dG]
 refine WC.fact (isQ (.agg #[.bool n3,d3,nq,d2]) (-q)) (Ye hb4 (by rw[dG];exact QH hmA) wq128) ?_;exact wq88
def V7(v1 v2:nA)(a b:Rat)(h1:Sm a)(h2:Sm b):FnB prog 80 [v1,v2] [] [isQ v1 a,isQ v2 b] (IsQ (a+b)):=by
 refine fO [(0,v1),(1,v2)] 57 Tryz.func80 Tryz.ntmps80 λh0=>?_;refine WC.JM (v:=v1) (q:=a) hmA λn1 d1 d2 hv hb1=>?_;subst hv;refine WC.JM (v:=v2) (q:=b) hmA λn2 d3 d4 hv hb2=>?_;subst hv;have ha:=@ZO a;have hb:=@ZO b;have na:=@Uh a;have nb:=@Uh b;obtain⟨s1,s2⟩:=h1;obtain⟨s3,s4⟩:=h2;by_cases c:a.den=1/\b.den=1
 .have l1:=ha.2 c.1;have l2:=hb.2 c.2;obtain⟨e1,e2⟩:=add_int c.1 c.2;refine WC.fact (isZ (.agg #[.bool n1,d1]) a.num) (JX hmA) ?_;refine WC.fact (isZ (.agg #[.bool n2,d3]) b.num) (JX hmA) ?_;refine d80r ?_;intro g g g;refine cK (Adc.V7 (.agg #[.bool n1,d1]) (.agg #[.bool n2,d3]) a.num b.num (Sm.w s1) (Sm.w s3)) ?_;rintro _ _ _ ⟨n5,d5,rfl,hb5,rfl,rfl⟩;refine sNn ?_;rw[<-e1] at hb5 ⊢;refine d80r ?_;refine WC.fact (isQ (.agg #[.bool n5,d5,.bool false,.slice none 0 0]) (a+b)) (Ye hb5 (QH hmA) (by rw[show qz (a+b)=0 by unfold qz;rw[ah e2]];simpa [JJ] using Gv)) ?_;refine WC.ret ?_;exact Fp [isQ (.agg #[.bool n5,d5,.bool false,.slice none 0 0]) (a+b)] (rcV T.r75) haA ⟨n5,_,_,rfl,hb5,rfl,rfl⟩
 have hsp:(Qx (qz a).natAbs).length≠0\/((Qx (qz a).natAbs).length=0/\(Qx (qz b).natAbs).length≠0):=by
  by_cases c1:a.den=1
  .exact .inr ⟨ha.2 c1,λh=>c ⟨c1,hb.1 h⟩⟩
  .exact .inl λh=>c1 (ha.1 h)
 by_cases c1:a=0
 .have l1:=na.2 c1;have e:a+b=b:=by rw[c1,Rat.zero_add]
  rcases hsp with l2|⟨l2,l3⟩
  all_goals
   repeat'(first|intro(g:Nat)|refine d80 ?_|refine gN ?_ ?_|intro v)
   rw[e];refine WC.ret ?_;exact Fp [isQ (.agg #[.bool n2,d3,.bool false,d4]) b] (rcV T.r75) haA ⟨n2,_,_,rfl,hb2,rfl,rfl⟩
 have l1:(Qx a.num.natAbs).length≠0:=λh=>c1 (na.1 h);by_cases c2:b=0
 .have l2:=nb.2 c2;have e:a+b=a:=by rw[c2,Rat.add_zero]
  rcases hsp with l3|⟨l3,l4⟩
  all_goals
   repeat'(first|intro(g:Nat)|refine d80 ?_|refine gN ?_ ?_|intro v)
   rw[e];refine WC.ret ?_;exact Fp [isQ (.agg #[.bool n1,d1,.bool false,d2]) a] (rcV T.r75) haA ⟨n1,_,_,rfl,hb1,rfl,rfl⟩
 have l2:(Qx b.num.natAbs).length≠0:=λh=>c2 (nb.1 h);have q1:=Sm.mul s1 s4;have q2:=Sm.mul s3 s2;have q3:=Sm.mul s2 s4;have k1:Lz (a.num*(b.den:Int)).natAbs:=by rw[JD];exact Sm.w2 q1
 have k2:Lz (b.num*(a.den:Int)).natAbs:=by rw[JD];exact Sm.w2 q2
 have k3:Lz ((a.den:Int)*(b.den:Int)).natAbs:=by rw[JD,aG];exact Sm.w2 q3
 have k4:Lz (a.num*(b.den:Int)+b.num*(a.den:Int)).natAbs:=Sm.w3 (by rw[JD];exact q1) (by rw[JD];exact q2);rcases hsp with l3|⟨l3,l4⟩
 all_goals
  repeat'(first|intro(g:Nat)|refine gA ?_|intro v)
  refine WC.YH (σ:=Nat×Nat×Nat×Nat×Nat×Bool×nA×Bool×nA) (λs=>[(5,ptr s.1),(6,ptr s.2.1),(2,ptr s.2.2.1),(3,ptr s.2.2.2.1),(4,ptr s.2.2.2.2.1)])
   (λs=>[Ow.cells s.2.1 73 [.bool s.2.2.2.2.2.2.2.1,s.2.2.2.2.2.2.2.2],Ow.cells s.1 73 [.bool s.2.2.2.2.2.1,s.2.2.2.2.2.2.1],Ow.cells s.2.2.1 75 [.bool n1,d1,.bool false,d2],Ow.cells s.2.2.2.1 75 [.bool n2,d3,.bool false,d4],Ow.cells s.2.2.2.2.1 75 [.bool false,.slice none 0 0,.bool false,.slice none 0 0]])
   (λs=>[ge h0,isZ (.agg #[.bool s.2.2.2.2.2.1,s.2.2.2.2.2.2.1]) (a.den:Int),isZ (.agg #[.bool s.2.2.2.2.2.2.2.1,s.2.2.2.2.2.2.2.2]) (b.den:Int),isQ (.agg #[.bool n1,d1,.bool false,d2]) a,isQ (.agg #[.bool n2,d3,.bool false,d4]) b]) (λ_=>True) ?_ ?_
  .repeat'(first|intro(g:Nat)|refine d80 ?_|refine gN ?_ ?_|(refine cK (KT (.agg #[.bool n1,d1,.bool false,d2]) a) ?_;rintro _ _ _ ⟨zb,zd,rfl,zh,rfl,rfl⟩;refine sNn ?_)|(refine cK (KT (.agg #[.bool n2,d3,.bool false,d4]) b) ?_;rintro _ _ _ ⟨zb,zd,rfl,zh,rfl,rfl⟩;refine sNn ?_)|intro v)
   all_goals(apply Ex9;refine⟨trivial,?_,?_,?_⟩;(focus(repeat(first|exact Sub.nil _|refine Sub.cons rfl ?_)));exact wq137;exact wq26)
  rintro⟨g5,g6,g2,g3,g4,b5,e5,b6,e6⟩ _;simp only;refine WC.fact (isZ (.agg #[.bool n1,d1]) a.num) (JX hmA) ?_;refine WC.fact (isZ (.agg #[.bool n2,d3]) b.num) (JX hmA) ?_;refine d80r ?_;refine cK (Mlt.ZA (.agg #[.bool n1,d1]) (.agg #[.bool b6,e6]) a.num (b.den:Int) (Sm.w s1) (Sm.w s4)) ?_;rintro _ _ _ ⟨n7,d7,rfl,hb7,rfl,rfl⟩;refine sNn ?_;refine d80r ?_;refine cK (Mlt.ZA (.agg #[.bool n2,d3]) (.agg #[.bool b5,e5]) b.num (a.den:Int) (Sm.w s3) (Sm.w s2)) ?_;rintro _ _ _ ⟨n8,d8,rfl,hb8,rfl,rfl⟩;refine sNn ?_;refine d80r ?_;refine cK (Adc.V7 (.agg #[.bool n7,d7]) (.agg #[.bool n8,d8]) (a.num*(b.den:Int)) (b.num*(a.den:Int)) k1 k2) ?_;rintro _ _ _ ⟨n9,d9,rfl,hb9,rfl,rfl⟩;refine sNn ?_;refine d80r ?_;refine cK (Mlt.ZA (.agg #[.bool b5,e5]) (.agg #[.bool b6,e6]) (a.den:Int) (b.den:Int) (Sm.w s2) (Sm.w s4)) ?_;rintro _ _ _ ⟨n10,d10,rfl,hb10,rfl,rfl⟩;refine sNn ?_;refine d80r ?_;refine cK (Dk (.agg #[.bool n9,d9]) (.agg #[.bool n10,d10]) (a.num*(b.den:Int)+b.num*(a.den:Int)) ((a.den:Int)*(b.den:Int)) k4 k3) ?_;rintro _ _ _ ⟨n11,d11,d12,rfl,hb11,rfl,rfl⟩;refine sNn ?_;rw[add_div] at hb11 ⊢;refine d80r ?_;exact wq85
end Rta
end Go.Proofs.YtbnobghgnbockaaGreat
