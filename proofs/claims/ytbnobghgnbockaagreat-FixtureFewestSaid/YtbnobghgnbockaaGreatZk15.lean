/- Lemmas. Conditions: none. -/
import Derived.Test.YtbnobghgnbockaaGreatZk14
set_option linter.all false
set_option maxHeartbeats 0
set_option maxRecDepth 100000
namespace Go.Proofs.YtbnobghgnbockaaGreat
open Tryz (prog)
open W Go.RowKit
attribute [local irreducible] WC WL WD YO LO Qq W.Fin Qk Qh Qj Row QZ Qv KnS Has W.One Qo QX
namespace Ro
open Dvz Dvv Adc Rm Rn
def d133{G G':Prop}(h:G')(s:Bx G'->G:=by
 intro h;first|refine gB ?_|(apply WC.draw (id:=7) [0,1,2,3,4,5] (.h 0<|.h 1<|.h 2<|.h 3<|.h 4<|.h 5<|.l 6<|.l 7<|.l 8<|.l 9 .done) mixed kr)|(apply WC.drawR (id:=9) [4] [0,1] (.h 0<|.h 1<|.l 2<|.l 3 .done) mixed kr;exact wq146)|fail
 exact Bx.h h):G:=s ⟨h⟩
def d133r{G G':Prop}(h:G')(s:Bx G'->G:=by
 intro h;repeat'(first|intro(zQ:Nat)|refine d133 ?_|intro zQ)
 repeat revert zQ
 exact Bx.h h):G:=s ⟨h⟩

def Dm(v1 v2:nA)(x y:Int)(h1:Lz x.natAbs)(h2:Lz y.natAbs)(hy:y≠0):FnB prog 133 [v1,v2] [] [isZ v1 x,isZ v2 y] (IsZZ (x/y) (x%y)):=by
 refine fO [(0,v1),(1,v2)] 58 Tryz.func133 Tryz.ntmps133 λh0=>?_;refine WC.Jw (v:=v1) (z:=x) hmA λn1 d1 hv hb1=>?_;subst hv;refine WC.Jw (v:=v2) (z:=y) hmA λn2 d2 hv hb2=>?_;subst hv;refine WC.fact (sI d1 (Qx x.natAbs)) (QH hmA) ?_;refine WC.fact (sI d2 (Qx y.natAbs)) (QH hmA) ?_;have hny:y.natAbs≠0:=qo;have hly:=Jo hny;refine d133r ?_;intro g g g g;refine WL.Jj (rdivided_c d1 d2 x.natAbs y.natAbs h1 h2 hny) ?_;rintro _ _ _ ⟨d3,la,d4,rfl,rfl,rfl,hla,hva⟩;refine sNn ?_;have hr:=bw x.natAbs (show 0<y.natAbs by omega);have hq0:x.natAbs/y.natAbs<=x.natAbs:=bR _ _;have e1:=@GK x y;have e2:=@GW x y hy;generalize hR:x.natAbs%y.natAbs=R at *;generalize hQ:x.natAbs/y.natAbs=Q at *;cases n1 with
 |true=>
  have hx:x<0:=ao hb1.symm;cases n2 with
  |true=>
   have hy2:y<0:=ao hb2.symm;refine d133r ?_;refine cK (QE d3 false la ((Q:Int)) hla (by rw[hva];omega) (λhne=>by rw[hva] at hne;rw[bO];simp only[aH,al];omega)) ?_;rintro _ _ _ ⟨n5,d5,rfl,hb5,rfl,rfl⟩;refine sNn ?_;refine d133r ?_;intro g;refine cK (QE d4 false (Qx R) (R:Int) (Qe _) (by rw[Qw];omega) (λ_=>Q5 _)) ?_;rintro _ _ _ ⟨n6,d6,rfl,hb6,rfl,rfl⟩;refine sNn ?_;refine WL.QD (sI d6 (Qx R)) (Jy hmA) ?_;by_cases hr0:R=0
   .have hlr0:(Qx R).length=0:=QN.2 hr0;obtain⟨hqa,hra,hsg⟩:=e2 (.inr hr0)
    have hqe:x/y=(Q:Int):=by
     by_cases hq:x/y=0
     .omega
     .have:=hsg hq;omega
    have hbq:n5=decide (x/y<0):=by rw[hqe];exact hb5
    have hbr:n6=decide (x%y<0):=by rw[hra];exact hb6
    rw[<-hqe,<-hra];refine d133r ?_;intro g;exact wq32
   .have hlr0:=Jo hr0;obtain⟨hqa,hra,hsg,hqne⟩:=e1 hx hy hr0;refine d133r ?_;intro g v;revert v;intro v1;refine WD.Q6 (l:=[1]) (v:=v1) (el:=3) wq3 ?_;refine cK (QE v1 false [1] (1) .one qd (λhne=>by decide)) ?_;rintro _ _ _ ⟨n7,d7,rfl,hb7,rfl,rfl⟩;refine sNn ?_;refine d133r ?_;refine cK (radd_c (.agg #[.bool n5,d5]) (.agg #[.bool n7,d7]) ((Q:Int)) (1) (h1.le hq0) (aL (Jx (k:=2) qd) qd)) ?_;rintro _ _ _ ⟨n8,d8,rfl,hb8,rfl,rfl⟩;refine sNn ?_;refine d133r ?_;have hlen:(Qx R).length<=(Qx y.natAbs).length:=aP λh=>by have:=QC h;omega
    refine WL.Jj (Yz d2 d6 (Qx y.natAbs) (Qx R) (Qe _) (Qe _) (VQ h2) hlen wq64) ?_;rintro v3 _ _ ⟨l3,rfl,rfl,hd3,hv3,hl3⟩;refine sNn ?_;refine cK (QE v3 false l3 (x%y) hd3 wq120 (λ_=>by rw[hra];exact(ak qo).symm)) ?_;rintro _ _ _ ⟨n9,d9,rfl,hbr,rfl,rfl⟩;refine sNn ?_;have hqe:x/y=(Q:Int)+(1):=qo;have hbq:n8=decide (x/y<0):=by rw[hqe];exact hb8
    rw[<-hqe];refine d133r ?_;exact wq68
  |false=>
   have hy2:¬y<0:=ap hb2.symm;refine d133r ?_;refine cK (QE d3 true la (-(Q:Int)) hla (by rw[hva];omega) (λhne=>by rw[hva] at hne;rw[bO];simp only[aH,al];omega)) ?_;rintro _ _ _ ⟨n5,d5,rfl,hb5,rfl,rfl⟩;refine sNn ?_;refine d133r ?_;intro g;refine cK (QE d4 false (Qx R) (R:Int) (Qe _) (by rw[Qw];omega) (λ_=>Q5 _)) ?_;rintro _ _ _ ⟨n6,d6,rfl,hb6,rfl,rfl⟩;refine sNn ?_;refine WL.QD (sI d6 (Qx R)) (Jy hmA) ?_;by_cases hr0:R=0
   .have hlr0:(Qx R).length=0:=QN.2 hr0;obtain⟨hqa,hra,hsg⟩:=e2 (.inr hr0)
    have hqe:x/y= -(Q:Int):=by
     by_cases hq:x/y=0
     .omega
     .have:=hsg hq;omega
    have hbq:n5=decide (x/y<0):=by rw[hqe];exact hb5
    have hbr:n6=decide (x%y<0):=by rw[hra];exact hb6
    rw[<-hqe,<-hra];refine d133r ?_;intro g;exact wq32
   .have hlr0:=Jo hr0;obtain⟨hqa,hra,hsg,hqne⟩:=e1 hx hy hr0;refine d133r ?_;intro g v;revert v;intro v1;refine WD.Q6 (l:=[1]) (v:=v1) (el:=3) wq3 ?_;refine cK (QE v1 true [1] (-1) .one qd (λhne=>by decide)) ?_;rintro _ _ _ ⟨n7,d7,rfl,hb7,rfl,rfl⟩;refine sNn ?_;refine d133r ?_;refine cK (radd_c (.agg #[.bool n5,d5]) (.agg #[.bool n7,d7]) (-(Q:Int)) (-1) (by rw[cp];exact h1.le hq0) (aL (Jx (k:=2) qd) qd)) ?_;rintro _ _ _ ⟨n8,d8,rfl,hb8,rfl,rfl⟩;refine sNn ?_;refine d133r ?_;have hlen:(Qx R).length<=(Qx y.natAbs).length:=aP λh=>by have:=QC h;omega
    refine WL.Jj (Yz d2 d6 (Qx y.natAbs) (Qx R) (Qe _) (Qe _) (VQ h2) hlen wq64) ?_;rintro v3 _ _ ⟨l3,rfl,rfl,hd3,hv3,hl3⟩;refine sNn ?_;refine cK (QE v3 false l3 (x%y) hd3 wq120 (λ_=>by rw[hra];exact(ak qo).symm)) ?_;rintro _ _ _ ⟨n9,d9,rfl,hbr,rfl,rfl⟩;refine sNn ?_;have hqe:x/y= -(Q:Int)+(-1):=qo;have hbq:n8=decide (x/y<0):=by rw[hqe];exact hb8
    rw[<-hqe];refine d133r ?_;exact wq68
 |false=>
  have hx:¬x<0:=ap hb1.symm;cases n2 with
  |true=>
   have hy2:y<0:=ao hb2.symm;refine d133r ?_;refine cK (QE d3 true la (-(Q:Int)) hla (by rw[hva];omega) (λhne=>by rw[hva] at hne;rw[bO];simp only[aH,al];omega)) ?_;rintro _ _ _ ⟨n5,d5,rfl,hb5,rfl,rfl⟩;refine sNn ?_;refine d133r ?_;intro g;refine cK (QE d4 false (Qx R) (R:Int) (Qe _) (by rw[Qw];omega) (λ_=>Q5 _)) ?_;rintro _ _ _ ⟨n6,d6,rfl,hb6,rfl,rfl⟩;refine sNn ?_;refine WL.QD (sI d6 (Qx R)) (Jy hmA) ?_;obtain⟨hqa,hra,hsg⟩:=e2 (.inl qo)
   have hqe:x/y= -(Q:Int):=by
    by_cases hq:x/y=0
    .omega
    .have:=hsg hq;omega
   have hbq:n5=decide (x/y<0):=by rw[hqe];exact hb5
   have hbr:n6=decide (x%y<0):=by rw[hra];exact hb6
   rw[<-hqe,<-hra];refine d133r ?_;intro g;exact wq32
  |false=>
   have hy2:¬y<0:=ap hb2.symm;refine d133r ?_;refine cK (QE d3 false la ((Q:Int)) hla (by rw[hva];omega) (λhne=>by rw[hva] at hne;rw[bO];simp only[aH,al];omega)) ?_;rintro _ _ _ ⟨n5,d5,rfl,hb5,rfl,rfl⟩;refine sNn ?_;refine d133r ?_;intro g;refine cK (QE d4 false (Qx R) (R:Int) (Qe _) (by rw[Qw];omega) (λ_=>Q5 _)) ?_;rintro _ _ _ ⟨n6,d6,rfl,hb6,rfl,rfl⟩;refine sNn ?_;refine WL.QD (sI d6 (Qx R)) (Jy hmA) ?_;obtain⟨hqa,hra,hsg⟩:=e2 (.inl qo)
   have hqe:x/y=(Q:Int):=by
    by_cases hq:x/y=0
    .omega
    .have:=hsg hq;omega
   have hbq:n5=decide (x/y<0):=by rw[hqe];exact hb5
   have hbr:n6=decide (x%y<0):=by rw[hra];exact hb6
   rw[<-hqe,<-hra];refine d133r ?_;intro g;exact wq32
def rgcd_c(v1 v2:nA)(x y:Int)(h1:Lz x.natAbs)(h2:Lz y.natAbs):FnB prog 132 [v1,v2] [] [isZ v1 x,isZ v2 y] (IsZ ((Int.gcd x y:Nat):Int)):=by
 refine fO [(0,v1),(1,v2)] 56 Tryz.func132 Tryz.ntmps132 λh0=>?_;refine WC.Jw (v:=v1) (z:=x) hmA λn1 d1 hv hb1=>?_;subst hv;refine WC.Jw (v:=v2) (z:=y) hmA λn2 d2 hv hb2=>?_;subst hv;have hg:Int.gcd x y=Nat.gcd x.natAbs y.natAbs:=rfl;refine WC.fact (sI d1 (Qx x.natAbs)) (QH hmA) ?_;refine WC.fact (sI d2 (Qx y.natAbs)) (QH hmA) ?_;rw[hg];generalize x.natAbs=m at *;generalize y.natAbs=n at *;refine gAr ?_;intro g g g;refine cK (QE d1 false (Qx m) (m:Int) (Qe _) (by rw[Qw];simp) (λ_=>Q5 _)) ?_;rintro _ _ _ ⟨b1,e1,rfl,hbm,rfl,rfl⟩;refine gAs ?_;intro g;revert g;intro g5;refine cK (QE d2 false (Qx n) (n:Int) (Qe _) (by rw[Qw];simp) (λ_=>Q5 _)) ?_;rintro _ _ _ ⟨b2,e2,rfl,hbn,rfl,rfl⟩;refine sNn ?_;refine WL.QD (sI e1 (Qx m)) (Jy hmA) ?_;refine WL.QD (sI e2 (Qx n)) (Jy hmA) ?_;refine gAr ?_;intro g;rename_i g2 g3 g4
 revert g;intro g6;refine WC.lp (σ:=Nat×Nat×Bool×nA×Bool×nA) (λs=>[(5,ptr g5),(6,ptr g6),(4,ptr g4)]) (λs=>[Ow.cells g6 73 [.bool s.2.2.2.2.1,s.2.2.2.2.2],Ow.cells g5 73 [.bool s.2.2.1,s.2.2.2.1],Ow.cells g4 73 [.bool false,.slice none 0 0]]) (λs=>[ge h0,isZ (.agg #[.bool s.2.2.1,s.2.2.2.1]) (s.1:Int),isZ (.agg #[.bool s.2.2.2.2.1,s.2.2.2.2.2]) (s.2.1:Int)]) (λs=>Lz s.1/\Lz s.2.1/\s.2.2.1=decide ((s.1:Int)<0)/\Nat.gcd s.1 s.2.1=Nat.gcd m n) (λs=>s.2.1) (m,n,b1,e1,b2,e2) ⟨h1,h2,hbm,rfl⟩ ?_;clear hbm hbn h1 h2;rintro⟨m',n',b1',e1',b2',e2'⟩ ⟨h1,h2,hbm,hmn⟩;simp only at h1 h2 hbm hmn ⊢;rw[<-hmn];revert m n b1 e1 b2 e2;intro m1 n1 hg b1 e1 b2 e2 hmn0;clear hmn0 hg;revert m' n' b1' e1' b2' e2';intro m n b1 e1 b2 e2 h1 h2 hbm;refine WC.Jw (v:=.agg #[.bool b2,e2]) (z:=(n:Int)) hmA λb2' e2' hv hbn=>?_;simp at hv;obtain⟨rfl,rfl⟩:=hv;refine WC.fact (sI e1 (Qx m)) (by simpa using QH (z:=(m:Int)) hmA) ?_;refine WC.fact (sI e2 (Qx n)) (by simpa using QH (z:=(n:Int)) hmA) ?_;by_cases c:n=0
 .have hl0:(Qx n).length=0:=QN.2 c;refine gAr ?_;rw[c,dn];exact wq99
 .have hl0:=Jo c;have hr:m%n<n:=bw _ qo;by_cases b1':m<B2
  .have l1:(Qx m).length<=2:=Jx (k:=2) b1';by_cases b2':n<B2
   .have l2:(Qx n).length<=2:=Jx (k:=2) b2';refine gAr ?_;refine cV (U7 e1 m b1') ?_;refine gAr ?_;refine cV (U7 e2 n b2') ?_;refine gAr ?_;refine WC.lp (σ:=Nat×Nat) (λs=>[(7,.int .i64 (s.1:Int)),(8,.int .i64 (s.2:Int)),(4,ptr g4)]) (λ_=>[Ow.cells g4 73 [.bool false,.slice none 0 0]]) (λ_=>[ge h0]) (λs=>s.1<B2/\s.2<B2/\Nat.gcd s.1 s.2=Nat.gcd m n) (λs=>s.2) (m,n) ⟨b1',b2',rfl⟩ ?_;rintro⟨p,q⟩ ⟨hp,hq,hpq⟩;simp only at hp hq hpq ⊢;have hp':p<1000000000000000000:=hp;have hq':q<1000000000000000000:=hq;by_cases c2:0<q
    .have hr:p%q<q:=bw _ c2;refine gAr ?_;exact Qq.mk (q,p%q) ⟨hq,Nat.lt_trans hr hq,by rw[Yt c2,hpq]⟩ (by show p%q<q;exact hr) wq132
    .obtain rfl:q=0:=qo;rw[dn] at hpq;rw[<-hpq];refine gAr ?_;refine cK (HB (p:Int) qo qo) ?_;rintro _ _ _ ⟨nb,d,rfl,hb,rfl,rfl⟩;refine gAs ?_;exact wq103
   .have l2:=Y8 b2';refine gAr ?_;refine WL.Jj (Dm (.agg #[.bool b1,e1]) (.agg #[.bool b2,e2]) (m:Int) (n:Int) h1 h2 qo) ?_;rintro _ _ _ ⟨n3,d3,n4,d4,rfl,hb3,hb4,rfl,rfl⟩;refine sNn ?_;rw[show(m:Int) % (n:Int)=((m%n:Nat):Int) by simp];refine gAr ?_;intro g g;exact Qq.mk (n,m%n,b2,e2,n4,d4) ⟨h2,h2.le (bE hr),hbn,Yt qo⟩ hr
  .have l1:=Y8 b1';refine gAr ?_;refine WL.Jj (Dm (.agg #[.bool b1,e1]) (.agg #[.bool b2,e2]) (m:Int) (n:Int) h1 h2 qo) ?_;rintro _ _ _ ⟨n3,d3,n4,d4,rfl,hb3,hb4,rfl,rfl⟩;refine sNn ?_;rw[show(m:Int) % (n:Int)=((m%n:Nat):Int) by simp];refine gAr ?_;intro g g;exact Qq.mk (n,m%n,b2,e2,n4,d4) ⟨h2,h2.le (bE hr),hbn,Yt qo⟩ hr
end Ro
namespace Rp
open Dvz Dvv Adc Rm Rn Ro Rtm Rtc
def d39{G G':Prop}(h:G')(s:Bx G'->G:=by
 intro h;first|refine gM ?_|(apply WC.draw (id:=1) [0,1,2] (.h 0<|.h 1<|.h 2<|.m 3 (.m 4 (.l 5<|.l 6 .done) (.l 5<|.l 4<|.l 6 .done)) (.l 5<|.l 3<|.l 4<|.l 6 .done)) mixed kr)|(apply WC.draw (id:=2) [0,1,2] (.h 0<|.h 1<|.h 2<|.m 3 (.m 4 (.l 5<|.l 6 .done) (.l 5<|.l 4<|.l 6 .done)) (.l 5<|.l 3<|.l 4<|.l 6 .done)) mixed kr)|(apply WC.draw (id:=3) [0,1,3,5] (.h 0<|.h 1<|.h 3<|.h 5<|.l 2<|.l 4<|.l 6<|.l 7<|.l 8<|.l 9 .done) mixed kr)|fail
 exact Bx.h h):G:=s ⟨h⟩
def d39r{G G':Prop}(h:G')(s:Bx G'->G:=by
 intro h;repeat'(first|intro(zQ:Nat)|refine d39 ?_|intro zQ)
 repeat revert zQ
 exact Bx.h h):G:=s ⟨h⟩

def d141{G G':Prop}(h:G')(s:Bx G'->G:=by
 intro h;first|refine gB ?_|(apply WC.draw (id:=1) [0,1,2,5,6,7,11] (.h 0<|.h 1<|.h 2<|.h 5<|.h 6<|.h 7<|.l 3<|.l 4<|.l 8<|.l 9<|.l 10<|.h 11 .done) mixed kr)|fail
 exact Bx.h h):G:=s ⟨h⟩
def d141r{G G':Prop}(h:G')(s:Bx G'->G:=by
 intro h;repeat'(first|intro(zQ:Nat)|refine d141 ?_|intro zQ)
 repeat revert zQ
 exact Bx.h h):G:=s ⟨h⟩

def ZP(v:nA)(q:Rat):FnB prog 65 [v] [] [isQ v q] (IsZ (q.den:Int)):=by
 refine fO [(0,v)] 11 Tryz.func65 Tryz.ntmps65 λh0=>?_;refine WC.JM (v:=v) (q:=q) hmA λn1 d1 d2 hv hb1=>?_;subst hv;have hl:=@ZO q;by_cases c:q.den=1
 .have hl0:=hl.2 c;refine gAr ?_;intro g g;refine cK (HB 1 qd qd) ?_;rintro _ _ _ ⟨nb,d,rfl,hb,rfl,rfl⟩;refine gAs ?_;rw[show((q.den:Nat):Int)=1 by omega];exact wq65
 .have hl0:(Qx (qz q).natAbs).length≠0:=λh=>c (hl.1 h);have hz:qz q=(q.den:Int):=by unfold qz;rw[ae c]
  rw[hz] at hl0;refine WC.fact (isZ (.agg #[.bool false,d2]) (q.den:Int)) (by rw[<-hz];exact Hb hmA) ?_;refine gAr ?_;intro g g;exact wq90
def VB(v:nA)(z:Int):FnB prog 135 [v] [] [isZ v z] (IsV (.bool (decide (z=1)))):=by
 refine fO [(0,v)] 16 Tryz.func135 Tryz.ntmps135 λh0=>?_;refine WC.Jw (v:=v) (z:=z) hmA λn1 d1 hv hb1=>?_;subst hv;refine WC.fact (sI d1 (Qx z.natAbs)) (QH hmA) ?_;have hl1:=@len_one z.natAbs;generalize hD:Qx z.natAbs=D at *;cases n1 with
 |true=>
  have hz:z<0:=ao hb1.symm;refine gAr ?_;intro g;exact wq115
 |false=>
  have hz:¬z<0:=ap hb1.symm;by_cases c:D.length=1
  .by_cases c2:D.getD 0 0=1
   .have h3:=hl1.1 ⟨c,c2⟩;have c3:D.getD (0:Int).toNat 0=1:=c2;refine gAr ?_;intro g;exact wq117
   .have h3:z≠1:=λh=>c2 (hl1.2 qo).2;have c3:D.getD (0:Int).toNat 0≠1:=c2;refine gAr ?_;intro g;exact wq58
  .have h3:z≠1:=λh=>c (hl1.2 qo).1;refine gAr ?_;intro g;exact wq58
def Dp(v1 v2:nA)(p q:Int)(h1:Lz p.natAbs)(h2:Lz q.natAbs):FnB prog 57 [v1,v2] [] [isZ v1 p,isZ v2 q] (IsQ (Rat.divInt p q)):=by
 refine fO [(0,v1),(1,v2)] 49 Tryz.func57 Tryz.ntmps57 λh0=>?_;refine WC.Jw (v:=v1) (z:=p) hmA λn1 d1 hv hb1=>?_;subst hv;refine WC.Jw (v:=v2) (z:=q) hmA λn2 d2 hv hb2=>?_;subst hv;have lp:=@QN p.natAbs;have lq:=@QN q.natAbs;by_cases c0:q=0
 .have hl:=lq.2 qo;refine gAr ?_;intro g g g;rw[c0,Rat.divInt_zero];exact wq27
 have hlq:=Jo (n:=q.natAbs) qo;by_cases c1:p=0
 .have hl:=lp.2 qo;refine gAr ?_;intro g g g;rw[c1,eU];exact wq27
 have hlp:=Jo (n:=p.natAbs) qo;obtain⟨hn,hd⟩:=num_make (p:=p) (q:=q) c0 c1;have hg:0<Int.gcd p q:=da _ c0;have hg2:Lz (Int.gcd p q):=h2.le (Nat.le_of_dvd qo (Nat.gcd_dvd_right ..));generalize hr:Rat.divInt p q=r at *
 have hqne:q/(Int.gcd p q:Int)≠0:=λh=>by
  have:=Int.ediv_mul_cancel (eH (a:=p) (b:=q));rw[h] at this;omega
 have fin:∀(F:nc) (nb:Bool) (e1 e2:nA),r.den≠1->Has F (isZ (.agg #[.bool nb,e1]) r.num)->Has F (isZ (.agg #[.bool false,e2]) (r.den:Int))->nb=decide (r.num<0)->Has F (isQ (.agg #[.bool nb,e1,.bool false,e2]) r):=λF nb e1 e2 h1 h2 h3 hb=>Ye hb (QH h2) (by
  have:qz r=(r.den:Int):=by unfold qz;rw[ae h1]
  rw[this];exact QH h3)
 have fin1:∀(F:nc) (nb:Bool) (e1:nA),r.den=1->Has F (isZ (.agg #[.bool nb,e1]) r.num)->nb=decide (r.num<0)->Has F (isQ (.agg #[.bool nb,e1,.bool false,.slice none 0 0]) r):=λF nb e1 h1 h2 hb=>Ye hb (QH h2) (by
  have:qz r=0:=by unfold qz;rw[ah h1]
  rw[this];simpa [JJ] using Gv)
 refine gAr ?_;intro g g g;refine cK (rgcd_c (.agg #[.bool n1,d1]) (.agg #[.bool n2,d2]) p q h1 h2) ?_;rintro _ _ _ ⟨n3,d3,rfl,hb3,rfl,rfl⟩;refine gAs ?_;intro g;revert g;intro g5;refine cK (Dm (.agg #[.bool n1,d1]) (.agg #[.bool n3,d3]) p ((Int.gcd p q:Nat):Int) h1 hg2 qo) ?_;rintro _ _ _ ⟨n4,d4,n5,d5,rfl,hb4,hb5,rfl,rfl⟩;refine gAs ?_;intro g g;revert g;intro g7;refine cK (Dm (.agg #[.bool n2,d2]) (.agg #[.bool n3,d3]) q ((Int.gcd p q:Nat):Int) h2 hg2 qo) ?_;rintro _ _ _ ⟨n6,d6,n7,d7,rfl,hb6,hb7,rfl,rfl⟩;refine sNn ?_;generalize p/((Int.gcd p q:Nat):Int)=P at *;generalize q/((Int.gcd p q:Nat):Int)=Q at *;cases n6 with
 |true=>
  have hq2:Q<0:=ao hb6.symm;rw[ah hq2] at hn;refine gAr ?_;intro g g;refine cK (rneg_c (.agg #[.bool n4,d4]) P) ?_;rintro _ _ _ ⟨n8,d8,rfl,hb8,rfl,rfl⟩;refine gAs ?_;refine cK (rneg_c (.agg #[.bool true,d6]) Q) ?_;rintro _ _ _ ⟨n9,d9,rfl,hb9,rfl,rfl⟩;refine sNn ?_;obtain rfl:false=n9:=by rw[hb9,bO,al];omega
  rw[<-hn] at hb8 ⊢;rw[show -Q=(r.den:Int) by omega];refine gAr ?_;refine cV (VB (.agg #[.bool false,d9]) (r.den:Int)) ?_;by_cases c:r.den=1
  .rw[aq qo];refine gAr ?_;refine WC.fact (isQ (.agg #[.bool n8,d8,.bool false,.slice none 0 0]) r) (fin1 _ _ _ c hmA hb8) ?_;refine WC.ret ?_;exact Fp [isQ (.agg #[.bool n8,d8,.bool false,.slice none 0 0]) r] (rcV T.r75) haA ⟨n8,_,_,rfl,hb8,rfl,rfl⟩
  .rw[ak qo];refine gAr ?_;refine WC.fact (isQ (.agg #[.bool n8,d8,.bool false,d9]) r) (fin _ _ _ _ c hmA hmA hb8) ?_;refine WC.ret ?_;exact Fp [isQ (.agg #[.bool n8,d8,.bool false,d9]) r] (rcV T.r75) haA ⟨n8,_,_,rfl,hb8,rfl,rfl⟩
 |false=>
  have hq2:¬Q<0:=ap hb6.symm;rw[ae hq2] at hn;rw[<-hn] at hb4 ⊢;rw[show Q=(r.den:Int) by omega];refine gAr ?_;intro g g;refine cV (VB (.agg #[.bool false,d6]) (r.den:Int)) ?_;by_cases c:r.den=1
  .rw[aq qo];refine gAr ?_;refine WC.fact (isQ (.agg #[.bool n4,d4,.bool false,.slice none 0 0]) r) (fin1 _ _ _ c hmA hb4) ?_;refine WC.ret ?_;exact Fp [isQ (.agg #[.bool n4,d4,.bool false,.slice none 0 0]) r] (rcV T.r75) haA ⟨n4,_,_,rfl,hb4,rfl,rfl⟩
  .rw[ak qo];refine gAr ?_;refine WC.fact (isQ (.agg #[.bool n4,d4,.bool false,d6]) r) (fin _ _ _ _ c hmA hmA hb4) ?_;refine WC.ret ?_;exact Fp [isQ (.agg #[.bool n4,d4,.bool false,d6]) r] (rcV T.r75) haA ⟨n4,_,_,rfl,hb4,rfl,rfl⟩
def rqof_c(p q:Int)(h1:p.natAbs<B2)(h2:q.natAbs<B2):FnB prog 30 [nj p,nj q] [] [] (IsQ (Rat.divInt p q)):=by
 refine fO [(0,(nj p)),(1,(nj q))] 10 Tryz.func30 Tryz.ntmps30 λh0=>?_;have h1':p.natAbs<1000000000000000000:=h1;have h2':q.natAbs<1000000000000000000:=h2;refine gAr ?_;intro g;refine cK (HB p qo qo) ?_;rintro _ _ _ ⟨n1,d1,rfl,hb1,rfl,rfl⟩;refine gAs ?_;refine cK (HB q qo qo) ?_;rintro _ _ _ ⟨n2,d2,rfl,hb2,rfl,rfl⟩;refine gAs ?_;refine cK (Dp (.agg #[.bool n1,d1]) (.agg #[.bool n2,d2]) p q (Lz.of h1) (Lz.of h2)) ?_;rintro _ _ _ ⟨nb,e1,e2,rfl,hb,rfl,rfl⟩;refine gAs ?_;exact wq36
def rqcompare_c(v1 v2:nA)(a b:Rat)(h1:Sm a)(h2:Sm b):FnB prog 141 [v1,v2] [] [isQ v1 a,isQ v2 b] (IsV (nj (XN a b))):=by
 refine fO [(0,v1),(1,v2)] 16 Tryz.func141 Tryz.ntmps141 λh0=>?_;refine WC.JM (v:=v1) (q:=a) hmA λn1 d1 d2 hv hb1=>?_;subst hv;refine WC.JM (v:=v2) (q:=b) hmA λn2 d3 d4 hv hb2=>?_;subst hv;obtain⟨s1,s2⟩:=h1;obtain⟨s3,s4⟩:=h2;refine WC.fact (isZ (.agg #[.bool n1,d1]) a.num) (JX hmA) ?_;refine WC.fact (isZ (.agg #[.bool n2,d3]) b.num) (JX hmA) ?_;have q1:=Sm.mul s1 s4;have q2:=Sm.mul s3 s2;refine d141r ?_;intro g g;refine cK (ZP (.agg #[.bool n2,d3,nq,d4]) b) ?_;rintro _ _ _ ⟨n5,d5,rfl,hb5,rfl,rfl⟩;refine sNn ?_;refine d141r ?_;refine cK (ZS (.agg #[.bool n1,d1]) (.agg #[.bool n5,d5]) a.num (b.den:Int) (Sm.w s1) (Sm.w s4)) ?_;rintro _ _ _ ⟨n6,d6,rfl,hb6,rfl,rfl⟩;refine sNn ?_;refine d141r ?_;refine cK (ZP (.agg #[.bool n1,d1,nq,d2]) a) ?_;rintro _ _ _ ⟨n7,d7,rfl,hb7,rfl,rfl⟩;refine sNn ?_;refine d141r ?_;refine cK (ZS (.agg #[.bool n2,d3]) (.agg #[.bool n7,d7]) b.num (a.den:Int) (Sm.w s3) (Sm.w s2)) ?_;rintro _ _ _ ⟨n8,d8,rfl,hb8,rfl,rfl⟩;refine sNn ?_;refine d141r ?_;refine cV (HG (.agg #[.bool n6,d6]) (.agg #[.bool n8,d8]) (a.num*(b.den:Int)) (b.num*(a.den:Int))) ?_;rw[show X9 (a.num*(b.den:Int)) (b.num*(a.den:Int))=XN a b from rfl];refine d141r ?_;exact wq4
def rqadd_c(v1 v2:nA)(a b:Rat)(h1:Sm a)(h2:Sm b):FnB prog 39 [v1,v2] [] [isQ v1 a,isQ v2 b] (IsQ (a+b)):=by
 refine fO [(0,v1),(1,v2)] 26 Tryz.func39 Tryz.ntmps39 λh0=>?_;refine WC.JM (v:=v1) (q:=a) hmA λn1 d1 d2 hv hb1=>?_;subst hv;refine WC.JM (v:=v2) (q:=b) hmA λn2 d3 d4 hv hb2=>?_;subst hv;obtain⟨s1,s2⟩:=h1;obtain⟨s3,s4⟩:=h2;have q1:=Sm.mul s1 s4;have q2:=Sm.mul s3 s2;have q3:=Sm.mul s2 s4;have k1:Lz (a.num*(b.den:Int)).natAbs:=by rw[JD];exact Sm.w2 q1
 have k2:Lz (b.num*(a.den:Int)).natAbs:=by rw[JD];exact Sm.w2 q2
 have k3:Lz ((a.den:Int)*(b.den:Int)).natAbs:=by rw[JD,aG];exact Sm.w2 q3
 have k4:Lz (a.num*(b.den:Int)+b.num*(a.den:Int)).natAbs:=Sm.w3 (by rw[JD];exact q1) (by rw[JD];exact q2);have m1:=λ(n5:Bool) (d5:nA)=>ZS (.agg #[.bool n1,d1]) (.agg #[.bool n5,d5]) a.num (b.den:Int) (Sm.w s1) (Sm.w s4);have m2:=λ(n5:Bool) (d5:nA)=>ZS (.agg #[.bool n2,d3]) (.agg #[.bool n5,d5]) b.num (a.den:Int) (Sm.w s3) (Sm.w s2);refine WC.fact (isZ (.agg #[.bool n1,d1]) a.num) (JX hmA) ?_;refine WC.fact (isZ (.agg #[.bool n2,d3]) b.num) (JX hmA) ?_;refine gAr ?_;intro g g g
 refine WC.YH (σ:=Nat×Nat×Nat×Nat×Bool×nA) (λs=>[(5,ptr s.1),(2,ptr s.2.1),(3,ptr s.2.2.1),(4,ptr s.2.2.2.1)])
  (λs=>[Ow.cells s.1 73 [.bool s.2.2.2.2.1,s.2.2.2.2.2],Ow.cells s.2.1 75 [.bool n1,d1,nq,d2],Ow.cells s.2.2.1 75 [.bool n2,d3,nq,d4],Ow.cells s.2.2.2.1 75 [nq,nz,nq,nz]])
  (λs=>[ge h0,isZ (.agg #[.bool s.2.2.2.2.1,s.2.2.2.2.2]) (a.num*(b.den:Int)),isZ (.agg #[.bool n1,d1]) a.num,isZ (.agg #[.bool n2,d3]) b.num,isQ (.agg #[.bool n1,d1,nq,d2]) a,isQ (.agg #[.bool n2,d3,nq,d4]) b]) (λ_=>True) ?_ ?_
 .repeat'(first|intro(g:Nat)|refine d39 ?_|refine gN ?_ ?_|(refine cK (ZP (.agg #[.bool n2,d3,nq,d4]) b) ?_;rintro _ _ _ ⟨zb,zd,rfl,zh,rfl,rfl⟩;refine sNn ?_)|(refine cK (m1 zb zd) ?_;rintro _ _ _ ⟨zb,zd,rfl,zh,rfl,rfl⟩;refine sNn ?_)|intro v)
  all_goals(apply Ex6;refine⟨trivial,?_,?_,?_⟩;(focus(repeat(first|exact Sub.nil _|refine Sub.cons rfl ?_)));exact wq137;exact wq26)
 rintro⟨g5,g2,g3,g4,b5,e5⟩ _;simp only;refine gAr ?_
 refine WC.YH (σ:=Nat×Bool×nA) (λs=>[(6,ptr s.1),(5,ptr g5),(2,ptr g2),(3,ptr g3),(4,ptr g4)])
  (λs=>[Ow.cells s.1 73 [.bool s.2.1,s.2.2],Ow.cells g5 73 [.bool b5,e5],Ow.cells g2 75 [.bool n1,d1,nq,d2],Ow.cells g3 75 [.bool n2,d3,nq,d4],Ow.cells g4 75 [nq,nz,nq,nz]])
  (λs=>[ge h0,isZ (.agg #[.bool s.2.1,s.2.2]) (b.num*(a.den:Int)),isZ (.agg #[.bool b5,e5]) (a.num*(b.den:Int)),isQ (.agg #[.bool n1,d1,nq,d2]) a,isQ (.agg #[.bool n2,d3,nq,d4]) b]) (λ_=>True) ?_ ?_
 .repeat'(first|intro(g:Nat)|refine d39 ?_|refine gN ?_ ?_|(refine cK (ZP (.agg #[.bool n1,d1,nq,d2]) a) ?_;rintro _ _ _ ⟨zb,zd,rfl,zh,rfl,rfl⟩;refine sNn ?_)|(refine cK (m2 zb zd) ?_;rintro _ _ _ ⟨zb,zd,rfl,zh,rfl,rfl⟩;refine sNn ?_)|intro v)
  all_goals(apply Ex3;refine⟨trivial,?_,?_,?_⟩;(focus(repeat(first|exact Sub.nil _|refine Sub.cons rfl ?_)));exact wq137;exact wq26)
 rintro⟨g6,b6,e6⟩ _;simp only;refine d39r ?_;refine cK (radd_c (.agg #[.bool b5,e5]) (.agg #[.bool b6,e6]) (a.num*(b.den:Int)) (b.num*(a.den:Int)) k1 k2) ?_;rintro _ _ _ ⟨n9,d9,rfl,hb9,rfl,rfl⟩;refine sNn ?_;refine d39r ?_;refine cK (ZP (.agg #[.bool n1,d1,nq,d2]) a) ?_;rintro _ _ _ ⟨n7,d7,rfl,hb7,rfl,rfl⟩;refine sNn ?_;refine d39r ?_;refine cK (ZP (.agg #[.bool n2,d3,nq,d4]) b) ?_;rintro _ _ _ ⟨n8,d8,rfl,hb8,rfl,rfl⟩;refine sNn ?_;refine d39r ?_;refine cK (ZS (.agg #[.bool n7,d7]) (.agg #[.bool n8,d8]) (a.den:Int) (b.den:Int) (Sm.w s2) (Sm.w s4)) ?_;rintro _ _ _ ⟨n10,d10,rfl,hb10,rfl,rfl⟩;refine sNn ?_;refine d39r ?_;refine cK (Dp (.agg #[.bool n9,d9]) (.agg #[.bool n10,d10]) (a.num*(b.den:Int)+b.num*(a.den:Int)) ((a.den:Int)*(b.den:Int)) k4 k3) ?_;rintro _ _ _ ⟨n11,d11,d12,rfl,hb11,rfl,rfl⟩;refine sNn ?_;rw[add_div] at hb11 ⊢;refine d39r ?_;exact wq85
end Rp
def mul_di(a b:Rat):Rat.divInt (a.num*b.num) ((a.den:Int)*(b.den:Int))=a*b:=by
 rw[<-Rat.divInt_mul_divInt,ew,ew]
def Lz.mul{x y:Int}(hx:(Qx x.natAbs).length<=400000000)(hy:(Qx y.natAbs).length<=400000000):Lz (x*y).natAbs:=by
 rw[bp];exact Sm.w2 (Sm.mul hx hy)
namespace Rp
open Dvz Dvv Adc Rtm Rta Rm Rn Ro
def d38{G G':Prop}(h:G')(s:Bx G'->G:=by
 intro h;first|refine gB ?_|(apply WC.draw (id:=1) [0,1,2,3,5,7] (.h 0<|.h 1<|.h 2<|.h 3<|.h 5<|.h 7<|.l 4<|.l 6<|.l 8<|.l 9<|.l 10<|.l 11 .done) mixed kr)|fail
 exact Bx.h h):G:=s ⟨h⟩
def d38r{G G':Prop}(h:G')(s:Bx G'->G:=by
 intro h;repeat'(first|intro(zQ:Nat)|refine d38 ?_|intro zQ)
 repeat revert zQ
 exact Bx.h h):G:=s ⟨h⟩

def d131{G G':Prop}(h:G')(s:Bx G'->G:=by
 intro h;first|refine gB ?_|(apply WC.draw (id:=1) [0,1] (.h 0<|.h 1<|.l 2<|.l 3<|.l 4 .done) mixed kr)|fail
 exact Bx.h h):G:=s ⟨h⟩
def d137{G G':Prop}(h:G')(s:Bx G'->G:=by
 intro h;first|refine gB ?_|(apply WC.draw (id:=1) [0,1,3,4,5] (.h 0<|.h 1<|.h 3<|.h 4<|.l 2<|.h 5<|.l 6 .done) mixed kr)|fail
 exact Bx.h h):G:=s ⟨h⟩
def rqneg_c(v:nA)(q:Rat):FnB prog 137 [v] [] [isQ v q] (IsQ (-q)):=by
 refine fO [(0,v)] 9 Tryz.func137 Tryz.ntmps137 λh0=>?_;refine WC.JM (v:=v) (q:=q) hmA λn1 d1 d2 hv hb1=>?_;subst hv;refine WC.fact (isZ (.agg #[.bool n1,d1]) q.num) (JX hmA) ?_;repeat'(first|intro(g:Nat)|refine d137 ?_|intro v)
 refine cK (rneg_c (.agg #[.bool n1,d1]) q.num) ?_;rintro _ _ _ ⟨n3,d3,rfl,hb3,rfl,rfl⟩;refine sNn ?_;repeat'(first|intro(g:Nat)|refine d137 ?_|intro v)
 have hb4:n3=decide ((-q).num<0):=by rw[dG];exact hb3
 refine WC.fact (isQ (.agg #[.bool n3,d3,nq,d2]) (-q)) (Ye hb4 (by rw[dG];exact QH hmA) wq128) ?_;exact wq88
def rqsub_c(v1 v2:nA)(a b:Rat)(h1:Sm a)(h2:Sm b):FnB prog 131 [v1,v2] [] [isQ v1 a,isQ v2 b] (IsQ (a-b)):=by
 refine fO [(0,v1),(1,v2)] 9 Tryz.func131 Tryz.ntmps131 λh0=>?_;refine WC.JM (v:=v1) (q:=a) hmA λn1 d1 d2 hv hb1=>?_;subst hv;refine WC.JM (v:=v2) (q:=b) hmA λn2 d3 d4 hv hb2=>?_;subst hv;repeat'(first|intro(g:Nat)|refine d131 ?_|intro v)
 refine cK (rqneg_c (.agg #[.bool n2,d3,.bool false,d4]) b) ?_;rintro _ _ _ ⟨n3,d5,d6,rfl,hb3,rfl,rfl⟩;refine sNn ?_;repeat'(first|intro(g:Nat)|refine d131 ?_|intro v)
 refine cK (rqadd_c (.agg #[.bool n1,d1,.bool false,d2]) (.agg #[.bool n3,d5,.bool false,d6]) a (-b) h1 h2.neg) ?_;rintro _ _ _ ⟨n4,d7,d8,rfl,hb4,rfl,rfl⟩;refine sNn ?_;rw[<-Rat.sub_eq_add_neg] at hb4 ⊢;repeat'(first|intro(g:Nat)|refine d131 ?_|intro v)
 exact wq87
def rqmul_c(v1 v2:nA)(a b:Rat)(h1:Sm a)(h2:Sm b):FnB prog 38 [v1,v2] [] [isQ v1 a,isQ v2 b] (IsQ (a*b)):=by
 refine fO [(0,v1),(1,v2)] 16 Tryz.func38 Tryz.ntmps38 λh0=>?_;refine WC.JM (v:=v1) (q:=a) hmA λn1 d1 d2 hv hb1=>?_;subst hv;refine WC.JM (v:=v2) (q:=b) hmA λn2 d3 d4 hv hb2=>?_;subst hv;refine WC.fact (isZ (.agg #[.bool n1,d1]) a.num) (JX hmA) ?_;refine WC.fact (isZ (.agg #[.bool n2,d3]) b.num) (JX hmA) ?_;refine d38r ?_;intro g g g;refine cK (ZS (.agg #[.bool n1,d1]) (.agg #[.bool n2,d3]) a.num b.num (Sm.w h1.1) (Sm.w h2.1)) ?_;rintro _ _ _ ⟨n5,d5,rfl,hb5,rfl,rfl⟩;refine sNn ?_;refine d38r ?_;refine cK (ZP (.agg #[.bool n1,d1,nq,d2]) a) ?_;rintro _ _ _ ⟨n6,d6,rfl,hb6,rfl,rfl⟩;refine sNn ?_;refine d38r ?_;refine cK (ZP (.agg #[.bool n2,d3,nq,d4]) b) ?_;rintro _ _ _ ⟨n7,d7,rfl,hb7,rfl,rfl⟩;refine sNn ?_;refine d38r ?_;refine cK (ZS (.agg #[.bool n6,d6]) (.agg #[.bool n7,d7]) (a.den:Int) (b.den:Int) (Sm.w h1.2) (Sm.w h2.2)) ?_;rintro _ _ _ ⟨n8,d8,rfl,hb8,rfl,rfl⟩;refine sNn ?_;refine d38r ?_;refine cK (Dp (.agg #[.bool n5,d5]) (.agg #[.bool n8,d8]) (a.num*b.num) ((a.den:Int)*(b.den:Int)) (Lz.mul h1.1 h2.1) (Lz.mul h1.2 h2.2)) ?_;rintro _ _ _ ⟨n11,d11,d12,rfl,hb11,rfl,rfl⟩;refine sNn ?_;rw[mul_di] at hb11 ⊢;refine d38r ?_;exact wq84
end Rp
end Go.Proofs.YtbnobghgnbockaaGreat
