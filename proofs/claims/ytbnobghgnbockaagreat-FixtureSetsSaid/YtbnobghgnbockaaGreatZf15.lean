/- Lemmas for a law. Conditions: none. -/
import Derived.Test.YtbnobghgnbockaaGreatZf14
import Derived.Test.YtbnobghgnbockaaGreatZf7
set_option linter.all false
set_option maxHeartbeats 32000000
set_option maxRecDepth 100000
namespace Go.Proofs.YtbnobghgnbockaaGreat
section
open W Go.RowKit
namespace Ro
open Dvz Dvv Adc Rm Rn
attribute [local irreducible] WC WL WD YO LO Qq W.Fin Qk Qw Qj Row QJ Qv KnS Has W.One Qa Qs
def d133{G G':Prop}(h:G')(s:Bx G'->G:=by
 intro h;first|refine gB ?_|(apply WC.draw (id:=7) [0,1,2,3,4,5] (.h 0<|.h 1<|.h 2<|.h 3<|.h 4<|.h 5<|.l 6<|.l 7<|.l 8<|.l 9 .done) mixed kr)|(apply WC.drawR (id:=9) [4] [0,1] (.h 0<|.h 1<|.l 2<|.l 3 .done) mixed kr;(focus((repeat(first|exact Y7.nil _|(apply Y7.cons;exact rfl;(repeat(first|exact Rem.head|apply Rem.tail)))));done)))|fail
 exact Bx.h h):G:=s ⟨h⟩
def H9(v1 v2:Value)(x y:Int)(h1:Lz x.natAbs)(h2:Lz y.natAbs)(hy:y≠0):FnB Tryz.prog 133 [v1,v2] [] [isZ v1 x,isZ v2 y] (IsZZ (x/y) (x%y)):=by
 refine fO [(0,v1),(1,v2)] 58 Tryz.func133 Tryz.ntmps133 λh0=>?_;refine WC.Q6 (v:=v1) (z:=x) hmA λn1 d1 hv hb1=>?_;subst hv;refine WC.Q6 (v:=v2) (z:=y) hmA λn2 d2 hv hb2=>?_;subst hv;refine WC.fact (sI d1 (Qx x.natAbs)) (QV hmA) ?_;refine WC.fact (sI d2 (Qx y.natAbs)) (QV hmA) ?_;have hny:y.natAbs≠0:=qo;have hly:=Q4 hny;repeat'(first|intro(g:Nat)|refine d133 ?_|intro v)
 refine WL.QA (rdivided_c d1 d2 x.natAbs y.natAbs h1 h2 hny) ?_;rintro _ _ _ ⟨d3,la,d4,rfl,rfl,rfl,hla,hva⟩;refine sNn ?_;have hr:=Nat.mod_lt x.natAbs (show 0<y.natAbs by omega);have hq0:x.natAbs/y.natAbs<=x.natAbs:=Nat.div_le_self _ _;have e1:=@VD x y;have e2:=@VE x y hy;generalize hR:x.natAbs%y.natAbs=R at *;generalize hQ:x.natAbs/y.natAbs=Q at *;cases n1 with
 |true=>
  have hx:x<0:=of_decide_eq_true hb1.symm;cases n2 with
  |true=>
   have hy2:y<0:=of_decide_eq_true hb2.symm;repeat'(first|intro(g:Nat)|refine d133 ?_|intro v)
   refine cK (QQ d3 false la ((Q:Int)) hla (by rw[hva];omega) (λhne=>by rw[hva] at hne;rw[eq_comm];simp only[decide_eq_true_eq,decide_eq_false_iff_not];omega)) ?_;rintro _ _ _ ⟨n5,d5,rfl,hb5,rfl,rfl⟩;refine sNn ?_;repeat'(first|intro(g:Nat)|refine d133 ?_|intro v)
   refine cK (QQ d4 false (Qx R) (R:Int) (Qf _) (by rw[Qz];omega) (λ_=>QL _)) ?_;rintro _ _ _ ⟨n6,d6,rfl,hb6,rfl,rfl⟩;refine sNn ?_;refine WL.QE (sI d6 (Qx R)) (QO hmA) ?_;by_cases hr0:R=0
   ·have hlr0:(Qx R).length=0:=QY.2 hr0;obtain⟨hqa,hra,hsg⟩:=e2 (.inr hr0)
    have hqe:x/y=(Q:Int):=by
     by_cases hq:x/y=0
     ·omega
     ·have:=hsg hq;omega
    have hbq:n5=decide (x/y<0):=by rw[hqe];exact hb5
    have hbr:n6=decide (x%y<0):=by rw[hra];exact hb6
    rw[<-hqe,<-hra];repeat'(first|intro(g:Nat)|refine d133 ?_|intro v)
    refine WC.ret ?_;exact Fp [isZ (.agg #[.bool n5,d5]) (x/y),isZ (.agg #[.bool n6,d6]) (x%y)] (Qh.cc rfl rfl rfl meA meA T.r73 rfl T.r73 rfl) haA ⟨n5,d5,n6,d6,rfl,hbq,hbr,rfl,rfl⟩
   ·have hlr0:=Q4 hr0;obtain⟨hqa,hra,hsg,hqne⟩:=e1 hx hy hr0;repeat'(first|intro(g:Nat)|refine d133 ?_|intro v)
    revert v;intro v1;refine WD.QD (l:=[1]) (v:=v1) (el:=3) (by repeat(first|exact Sel.head|apply Sel.tail)) ?_;refine cK (QQ v1 false [1] (1) .one qd (λhne=>by decide)) ?_;rintro _ _ _ ⟨n7,d7,rfl,hb7,rfl,rfl⟩;refine sNn ?_;repeat'(first|intro(g:Nat)|refine d133 ?_|intro v)
    refine cK (radd_c (.agg #[.bool n5,d5]) (.agg #[.bool n7,d7]) ((Q:Int)) (1) (h1.le hq0) (Nat.le_trans (QN (k:=2) qd) qd)) ?_;rintro _ _ _ ⟨n8,d8,rfl,hb8,rfl,rfl⟩;refine sNn ?_;repeat'(first|intro(g:Nat)|refine d133 ?_|intro v)
    have hlen:(Qx R).length<=(Qx y.natAbs).length:=Nat.le_of_not_lt λh=>by have:=QZ h;omega
    refine WL.QA (XJ d2 d6 (Qx y.natAbs) (Qx R) (Qf _) (Qf _) (K7 h2) hlen (by rw[Qz,Qz];omega)) ?_;rintro v3 _ _ ⟨l3,rfl,rfl,hd3,hv3,hl3⟩;refine sNn ?_;refine cK (QQ v3 false l3 (x%y) hd3 (by rw[hv3,hra,Qz,Qz];omega) (λ_=>by rw[hra];exact(decide_eq_false qo).symm)) ?_;rintro _ _ _ ⟨n9,d9,rfl,hbr,rfl,rfl⟩;refine sNn ?_;have hqe:x/y=(Q:Int)+(1):=qo;have hbq:n8=decide (x/y<0):=by rw[hqe];exact hb8
    rw[<-hqe];repeat'(first|intro(g:Nat)|refine d133 ?_|intro v)
    refine WC.ret ?_;exact Fp [isZ (.agg #[.bool n8,d8]) (x/y),isZ (.agg #[.bool n9,d9]) (x%y)] (Qh.cc rfl rfl rfl meA meA T.r73 rfl T.r73 rfl) haA ⟨n8,d8,n9,d9,rfl,hbq,hbr,rfl,rfl⟩
  |false=>
   have hy2:¬y<0:=of_decide_eq_false hb2.symm;repeat'(first|intro(g:Nat)|refine d133 ?_|intro v)
   refine cK (QQ d3 true la (-(Q:Int)) hla (by rw[hva];omega) (λhne=>by rw[hva] at hne;rw[eq_comm];simp only[decide_eq_true_eq,decide_eq_false_iff_not];omega)) ?_;rintro _ _ _ ⟨n5,d5,rfl,hb5,rfl,rfl⟩;refine sNn ?_;repeat'(first|intro(g:Nat)|refine d133 ?_|intro v)
   refine cK (QQ d4 false (Qx R) (R:Int) (Qf _) (by rw[Qz];omega) (λ_=>QL _)) ?_;rintro _ _ _ ⟨n6,d6,rfl,hb6,rfl,rfl⟩;refine sNn ?_;refine WL.QE (sI d6 (Qx R)) (QO hmA) ?_;by_cases hr0:R=0
   ·have hlr0:(Qx R).length=0:=QY.2 hr0;obtain⟨hqa,hra,hsg⟩:=e2 (.inr hr0)
    have hqe:x/y= -(Q:Int):=by
     by_cases hq:x/y=0
     ·omega
     ·have:=hsg hq;omega
    have hbq:n5=decide (x/y<0):=by rw[hqe];exact hb5
    have hbr:n6=decide (x%y<0):=by rw[hra];exact hb6
    rw[<-hqe,<-hra];repeat'(first|intro(g:Nat)|refine d133 ?_|intro v)
    refine WC.ret ?_;exact Fp [isZ (.agg #[.bool n5,d5]) (x/y),isZ (.agg #[.bool n6,d6]) (x%y)] (Qh.cc rfl rfl rfl meA meA T.r73 rfl T.r73 rfl) haA ⟨n5,d5,n6,d6,rfl,hbq,hbr,rfl,rfl⟩
   ·have hlr0:=Q4 hr0;obtain⟨hqa,hra,hsg,hqne⟩:=e1 hx hy hr0;repeat'(first|intro(g:Nat)|refine d133 ?_|intro v)
    revert v;intro v1;refine WD.QD (l:=[1]) (v:=v1) (el:=3) (by repeat(first|exact Sel.head|apply Sel.tail)) ?_;refine cK (QQ v1 true [1] (-1) .one qd (λhne=>by decide)) ?_;rintro _ _ _ ⟨n7,d7,rfl,hb7,rfl,rfl⟩;refine sNn ?_;repeat'(first|intro(g:Nat)|refine d133 ?_|intro v)
    refine cK (radd_c (.agg #[.bool n5,d5]) (.agg #[.bool n7,d7]) (-(Q:Int)) (-1) (by rw[Int.natAbs_neg];exact h1.le hq0) (Nat.le_trans (QN (k:=2) qd) qd)) ?_;rintro _ _ _ ⟨n8,d8,rfl,hb8,rfl,rfl⟩;refine sNn ?_;repeat'(first|intro(g:Nat)|refine d133 ?_|intro v)
    have hlen:(Qx R).length<=(Qx y.natAbs).length:=Nat.le_of_not_lt λh=>by have:=QZ h;omega
    refine WL.QA (XJ d2 d6 (Qx y.natAbs) (Qx R) (Qf _) (Qf _) (K7 h2) hlen (by rw[Qz,Qz];omega)) ?_;rintro v3 _ _ ⟨l3,rfl,rfl,hd3,hv3,hl3⟩;refine sNn ?_;refine cK (QQ v3 false l3 (x%y) hd3 (by rw[hv3,hra,Qz,Qz];omega) (λ_=>by rw[hra];exact(decide_eq_false qo).symm)) ?_;rintro _ _ _ ⟨n9,d9,rfl,hbr,rfl,rfl⟩;refine sNn ?_;have hqe:x/y= -(Q:Int)+(-1):=qo;have hbq:n8=decide (x/y<0):=by rw[hqe];exact hb8
    rw[<-hqe];repeat'(first|intro(g:Nat)|refine d133 ?_|intro v)
    refine WC.ret ?_;exact Fp [isZ (.agg #[.bool n8,d8]) (x/y),isZ (.agg #[.bool n9,d9]) (x%y)] (Qh.cc rfl rfl rfl meA meA T.r73 rfl T.r73 rfl) haA ⟨n8,d8,n9,d9,rfl,hbq,hbr,rfl,rfl⟩
 |false=>
  have hx:¬x<0:=of_decide_eq_false hb1.symm;cases n2 with
  |true=>
   have hy2:y<0:=of_decide_eq_true hb2.symm;repeat'(first|intro(g:Nat)|refine d133 ?_|intro v)
   refine cK (QQ d3 true la (-(Q:Int)) hla (by rw[hva];omega) (λhne=>by rw[hva] at hne;rw[eq_comm];simp only[decide_eq_true_eq,decide_eq_false_iff_not];omega)) ?_;rintro _ _ _ ⟨n5,d5,rfl,hb5,rfl,rfl⟩;refine sNn ?_;repeat'(first|intro(g:Nat)|refine d133 ?_|intro v)
   refine cK (QQ d4 false (Qx R) (R:Int) (Qf _) (by rw[Qz];omega) (λ_=>QL _)) ?_;rintro _ _ _ ⟨n6,d6,rfl,hb6,rfl,rfl⟩;refine sNn ?_;refine WL.QE (sI d6 (Qx R)) (QO hmA) ?_;obtain⟨hqa,hra,hsg⟩:=e2 (.inl qo)
   have hqe:x/y= -(Q:Int):=by
    by_cases hq:x/y=0
    ·omega
    ·have:=hsg hq;omega
   have hbq:n5=decide (x/y<0):=by rw[hqe];exact hb5
   have hbr:n6=decide (x%y<0):=by rw[hra];exact hb6
   rw[<-hqe,<-hra];repeat'(first|intro(g:Nat)|refine d133 ?_|intro v)
   refine WC.ret ?_;exact Fp [isZ (.agg #[.bool n5,d5]) (x/y),isZ (.agg #[.bool n6,d6]) (x%y)] (Qh.cc rfl rfl rfl meA meA T.r73 rfl T.r73 rfl) haA ⟨n5,d5,n6,d6,rfl,hbq,hbr,rfl,rfl⟩
  |false=>
   have hy2:¬y<0:=of_decide_eq_false hb2.symm;repeat'(first|intro(g:Nat)|refine d133 ?_|intro v)
   refine cK (QQ d3 false la ((Q:Int)) hla (by rw[hva];omega) (λhne=>by rw[hva] at hne;rw[eq_comm];simp only[decide_eq_true_eq,decide_eq_false_iff_not];omega)) ?_;rintro _ _ _ ⟨n5,d5,rfl,hb5,rfl,rfl⟩;refine sNn ?_;repeat'(first|intro(g:Nat)|refine d133 ?_|intro v)
   refine cK (QQ d4 false (Qx R) (R:Int) (Qf _) (by rw[Qz];omega) (λ_=>QL _)) ?_;rintro _ _ _ ⟨n6,d6,rfl,hb6,rfl,rfl⟩;refine sNn ?_;refine WL.QE (sI d6 (Qx R)) (QO hmA) ?_;obtain⟨hqa,hra,hsg⟩:=e2 (.inl qo)
   have hqe:x/y=(Q:Int):=by
    by_cases hq:x/y=0
    ·omega
    ·have:=hsg hq;omega
   have hbq:n5=decide (x/y<0):=by rw[hqe];exact hb5
   have hbr:n6=decide (x%y<0):=by rw[hra];exact hb6
   rw[<-hqe,<-hra];repeat'(first|intro(g:Nat)|refine d133 ?_|intro v)
   refine WC.ret ?_;exact Fp [isZ (.agg #[.bool n5,d5]) (x/y),isZ (.agg #[.bool n6,d6]) (x%y)] (Qh.cc rfl rfl rfl meA meA T.r73 rfl T.r73 rfl) haA ⟨n5,d5,n6,d6,rfl,hbq,hbr,rfl,rfl⟩
def rgcd_c(v1 v2:Value)(x y:Int)(h1:Lz x.natAbs)(h2:Lz y.natAbs):FnB Tryz.prog 132 [v1,v2] [] [isZ v1 x,isZ v2 y] (IsZ ((Int.gcd x y:Nat):Int)):=by
 refine fO [(0,v1),(1,v2)] 56 Tryz.func132 Tryz.ntmps132 λh0=>?_;refine WC.Q6 (v:=v1) (z:=x) hmA λn1 d1 hv hb1=>?_;subst hv;refine WC.Q6 (v:=v2) (z:=y) hmA λn2 d2 hv hb2=>?_;subst hv;have hg:Int.gcd x y=Nat.gcd x.natAbs y.natAbs:=rfl;refine WC.fact (sI d1 (Qx x.natAbs)) (QV hmA) ?_;refine WC.fact (sI d2 (Qx y.natAbs)) (QV hmA) ?_;rw[hg];generalize x.natAbs=m at *;generalize y.natAbs=n at *;repeat'(first|intro(g:Nat)|refine gA ?_|intro v)
 refine cK (QQ d1 false (Qx m) (m:Int) (Qf _) (by rw[Qz];simp) (λ_=>QL _)) ?_;rintro _ _ _ ⟨b1,e1,rfl,hbm,rfl,rfl⟩;refine sNn ?_;repeat'(first|intro(g:Nat)|refine gA ?_|intro v)
 revert g;intro g5;refine cK (QQ d2 false (Qx n) (n:Int) (Qf _) (by rw[Qz];simp) (λ_=>QL _)) ?_;rintro _ _ _ ⟨b2,e2,rfl,hbn,rfl,rfl⟩;refine sNn ?_;refine WL.QE (sI e1 (Qx m)) (QO hmA) ?_;refine WL.QE (sI e2 (Qx n)) (QO hmA) ?_;repeat'(first|intro(g:Nat)|refine gA ?_|intro v)
 rename_i g2 g3 g4
 revert g;intro g6;refine WC.lp (σ:=Nat×Nat×Bool×Value×Bool×Value) (λs=>[(5,ptr g5),(6,ptr g6),(4,ptr g4)]) (λs=>[Ow.cells g6 73 [.bool s.2.2.2.2.1,s.2.2.2.2.2],Ow.cells g5 73 [.bool s.2.2.1,s.2.2.2.1],Ow.cells g4 73 [.bool false,.slice none 0 0]]) (λs=>[ge h0,isZ (.agg #[.bool s.2.2.1,s.2.2.2.1]) (s.1:Int),isZ (.agg #[.bool s.2.2.2.2.1,s.2.2.2.2.2]) (s.2.1:Int)]) (λs=>Lz s.1/\Lz s.2.1/\s.2.2.1=decide ((s.1:Int)<0)/\Nat.gcd s.1 s.2.1=Nat.gcd m n) (λs=>s.2.1) (m,n,b1,e1,b2,e2) ⟨h1,h2,hbm,rfl⟩ ?_;clear hbm hbn h1 h2;rintro⟨m',n',b1',e1',b2',e2'⟩ ⟨h1,h2,hbm,hmn⟩;simp only at h1 h2 hbm hmn ⊢;rw[<-hmn];revert m n b1 e1 b2 e2;intro m1 n1 hg b1 e1 b2 e2 hmn0;clear hmn0 hg;revert m' n' b1' e1' b2' e2';intro m n b1 e1 b2 e2 h1 h2 hbm;refine WC.Q6 (v:=.agg #[.bool b2,e2]) (z:=(n:Int)) hmA λb2' e2' hv hbn=>?_;simp at hv;obtain⟨rfl,rfl⟩:=hv;refine WC.fact (sI e1 (Qx m)) (by simpa using QV (z:=(m:Int)) hmA) ?_;refine WC.fact (sI e2 (Qx n)) (by simpa using QV (z:=(n:Int)) hmA) ?_;by_cases c:n=0
 ·have hl0:(Qx n).length=0:=QY.2 c;repeat'(first|intro(g:Nat)|refine gA ?_|intro v)
  rw[c,Nat.gcd_zero_right];refine WC.ret ?_;exact Fp [isZ (.agg #[.bool b1,e1]) m] (rcV T.r73) haA ⟨b1,e1,rfl,hbm,rfl,rfl⟩
 ·have hl0:=Q4 c;have hr:m%n<n:=Nat.mod_lt _ qo;by_cases b1':m<B2
  ·have l1:(Qx m).length<=2:=QN (k:=2) b1';by_cases b2':n<B2
   ·have l2:(Qx n).length<=2:=QN (k:=2) b2';repeat'(first|intro(g:Nat)|refine gA ?_|intro v)
    refine cV (KU e1 m b1') ?_;repeat'(first|intro(g:Nat)|refine gA ?_|intro v)
    refine cV (KU e2 n b2') ?_;repeat'(first|intro(g:Nat)|refine gA ?_|intro v)
    refine WC.lp (σ:=Nat×Nat) (λs=>[(7,.int .i64 (s.1:Int)),(8,.int .i64 (s.2:Int)),(4,ptr g4)]) (λ_=>[Ow.cells g4 73 [.bool false,.slice none 0 0]]) (λ_=>[ge h0]) (λs=>s.1<B2/\s.2<B2/\Nat.gcd s.1 s.2=Nat.gcd m n) (λs=>s.2) (m,n) ⟨b1',b2',rfl⟩ ?_;rintro⟨p,q⟩ ⟨hp,hq,hpq⟩;simp only at hp hq hpq ⊢;have hp':p<1000000000000000000:=hp;have hq':q<1000000000000000000:=hq;by_cases c2:0<q
    ·have hr:p%q<q:=Nat.mod_lt _ c2;repeat'(first|intro(g:Nat)|refine gA ?_|intro v)
     exact Qq.mk (q,p%q) ⟨hq,Nat.lt_trans hr hq,by rw[XP c2,hpq]⟩ (by show p%q<q;exact hr) (by rw[show((p%q:Nat):Int)=(p:Int) % (q:Int) by simp];exact suA)
    ·obtain rfl:q=0:=qo;rw[Nat.gcd_zero_right] at hpq;rw[<-hpq];repeat'(first|intro(g:Nat)|refine gA ?_|intro v)
     refine cK (Hz (p:Int) qo qo) ?_;rintro _ _ _ ⟨nb,d,rfl,hb,rfl,rfl⟩;refine sNn ?_;repeat'(first|intro(g:Nat)|refine gA ?_|intro v)
     refine WC.ret ?_;exact Fp [isZ (.agg #[.bool nb,d]) p] (rcV T.r73) haA ⟨nb,d,rfl,hb,rfl,rfl⟩
   ·have l2:=Yf b2';repeat'(first|intro(g:Nat)|refine gA ?_|intro v)
    refine WL.QA (H9 (.agg #[.bool b1,e1]) (.agg #[.bool b2,e2]) (m:Int) (n:Int) h1 h2 qo) ?_;rintro _ _ _ ⟨n3,d3,n4,d4,rfl,hb3,hb4,rfl,rfl⟩;refine sNn ?_;rw[show(m:Int) % (n:Int)=((m%n:Nat):Int) by simp];repeat'(first|intro(g:Nat)|refine gA ?_|intro v)
    exact Qq.mk (n,m%n,b2,e2,n4,d4) ⟨h2,h2.le (Nat.le_of_lt hr),hbn,XP qo⟩ hr
  ·have l1:=Yf b1';repeat'(first|intro(g:Nat)|refine gA ?_|intro v)
   refine WL.QA (H9 (.agg #[.bool b1,e1]) (.agg #[.bool b2,e2]) (m:Int) (n:Int) h1 h2 qo) ?_;rintro _ _ _ ⟨n3,d3,n4,d4,rfl,hb3,hb4,rfl,rfl⟩;refine sNn ?_;rw[show(m:Int) % (n:Int)=((m%n:Nat):Int) by simp];repeat'(first|intro(g:Nat)|refine gA ?_|intro v)
   exact Qq.mk (n,m%n,b2,e2,n4,d4) ⟨h2,h2.le (Nat.le_of_lt hr),hbn,XP qo⟩ hr
end Ro
end
section
open W Go.RowKit
namespace Rp
open Dvz Dvv Adc Rm Rn Ro Rtm Rtc
attribute [local irreducible] WC WL WD YO LO Qq W.Fin Qk Qw Qj Row QJ Qv KnS Has W.One Qa Qs
def runit_c(v:Value)(z:Int):FnB Tryz.prog 135 [v] [] [isZ v z] (IsV (.bool (decide (z=1)))):=by
 refine fO [(0,v)] 16 Tryz.func135 Tryz.ntmps135 λh0=>?_;refine WC.Q6 (v:=v) (z:=z) hmA λn1 d1 hv hb1=>?_;subst hv;refine WC.fact (sI d1 (Qx z.natAbs)) (QV hmA) ?_;have hl1:=@len_one z.natAbs;generalize hD:Qx z.natAbs=D at *;cases n1 with
 |true=>
  have hz:z<0:=of_decide_eq_true hb1.symm;repeat'(first|intro(g:Nat)|refine gA ?_|intro v)
  refine WC.ret ?_;exact Fin.v (Qh.t1 rfl rfl) meA (by rw[decide_eq_false qo])
 |false=>
  have hz:¬z<0:=of_decide_eq_false hb1.symm;by_cases c:D.length=1
  ·by_cases c2:D.getD 0 0=1
   ·have h3:=hl1.1 ⟨c,c2⟩;have c3:D.getD (0:Int).toNat 0=1:=c2;repeat'(first|intro(g:Nat)|refine gA ?_|intro v)
    refine WC.ret ?_;exact Fin.v (Qh.t1 rfl rfl) meA (by rw[decide_eq_true qo])
   ·have h3:z≠1:=λh=>c2 (hl1.2 qo).2;have c3:D.getD (0:Int).toNat 0≠1:=c2;repeat'(first|intro(g:Nat)|refine gA ?_|intro v)
    refine WC.ret ?_;exact Fin.v (Qh.t1 rfl rfl) meA (by rw[decide_eq_false h3])
  ·have h3:z≠1:=λh=>c (hl1.2 qo).1;repeat'(first|intro(g:Nat)|refine gA ?_|intro v)
   refine WC.ret ?_;exact Fin.v (Qh.t1 rfl rfl) meA (by rw[decide_eq_false h3])
def rmake_c(v1 v2:Value)(p q:Int)(h1:Lz p.natAbs)(h2:Lz q.natAbs):FnB Tryz.prog 57 [v1,v2] [] [isZ v1 p,isZ v2 q] (IsQ (Rat.divInt p q)):=by
 refine fO [(0,v1),(1,v2)] 49 Tryz.func57 Tryz.ntmps57 λh0=>?_;refine WC.Q6 (v:=v1) (z:=p) hmA λn1 d1 hv hb1=>?_;subst hv;refine WC.Q6 (v:=v2) (z:=q) hmA λn2 d2 hv hb2=>?_;subst hv;have lp:=@QY p.natAbs;have lq:=@QY q.natAbs;by_cases c0:q=0
 ·have hl:=lq.2 qo;repeat'(first|intro(g:Nat)|refine gA ?_|intro v)
  rw[c0,Rat.divInt_zero];refine WC.ret ?_;exact Fp [isQ (.agg #[.bool false,.slice none 0 0,.bool false,.slice none 0 0]) 0] (rcV T.r75) (.cons Yn .nil) ⟨false,_,_,rfl,rfl,rfl,rfl⟩
 have hlq:=Q4 (n:=q.natAbs) qo;by_cases c1:p=0
 ·have hl:=lp.2 qo;repeat'(first|intro(g:Nat)|refine gA ?_|intro v)
  rw[c1,Rat.zero_divInt];refine WC.ret ?_;exact Fp [isQ (.agg #[.bool false,.slice none 0 0,.bool false,.slice none 0 0]) 0] (rcV T.r75) (.cons Yn .nil) ⟨false,_,_,rfl,rfl,rfl,rfl⟩
 have hlp:=Q4 (n:=p.natAbs) qo;obtain⟨hn,hd⟩:=num_make (p:=p) (q:=q) c0 c1;have hg:0<Int.gcd p q:=Int.gcd_pos_of_ne_zero_right _ c0;have hg2:Lz (Int.gcd p q):=h2.le (Nat.le_of_dvd qo (Nat.gcd_dvd_right ..));generalize hr:Rat.divInt p q=r at *
 have hqne:q/(Int.gcd p q:Int)≠0:=λh=>by
  have:=Int.ediv_mul_cancel (Int.gcd_dvd_right (a:=p) (b:=q));rw[h] at this;omega
 have fin:∀(F:List Fct) (nb:Bool) (e1 e2:Value),r.den≠1->Has F (isZ (.agg #[.bool nb,e1]) r.num)->Has F (isZ (.agg #[.bool false,e2]) (r.den:Int))->nb=decide (r.num<0)->Has F (isQ (.agg #[.bool nb,e1,.bool false,e2]) r):=λF nb e1 e2 h1 h2 h3 hb=>X7 hb (QV h2) (by
  have:qz r=(r.den:Int):=by unfold qz;rw[if_neg h1]
  rw[this];exact QV h3)
 have fin1:∀(F:List Fct) (nb:Bool) (e1:Value),r.den=1->Has F (isZ (.agg #[.bool nb,e1]) r.num)->nb=decide (r.num<0)->Has F (isQ (.agg #[.bool nb,e1,.bool false,.slice none 0 0]) r):=λF nb e1 h1 h2 hb=>X7 hb (QV h2) (by
  have:qz r=0:=by unfold qz;rw[if_pos h1]
  rw[this];simpa [Jq] using Vs)
 repeat'(first|intro(g:Nat)|refine gA ?_|intro v)
 refine cK (rgcd_c (.agg #[.bool n1,d1]) (.agg #[.bool n2,d2]) p q h1 h2) ?_;rintro _ _ _ ⟨n3,d3,rfl,hb3,rfl,rfl⟩;refine sNn ?_;repeat'(first|intro(g:Nat)|refine gA ?_|intro v)
 revert g;intro g5;refine cK (H9 (.agg #[.bool n1,d1]) (.agg #[.bool n3,d3]) p ((Int.gcd p q:Nat):Int) h1 hg2 qo) ?_;rintro _ _ _ ⟨n4,d4,n5,d5,rfl,hb4,hb5,rfl,rfl⟩;refine sNn ?_;repeat'(first|intro(g:Nat)|refine gA ?_|intro v)
 revert g;intro g7;refine cK (H9 (.agg #[.bool n2,d2]) (.agg #[.bool n3,d3]) q ((Int.gcd p q:Nat):Int) h2 hg2 qo) ?_;rintro _ _ _ ⟨n6,d6,n7,d7,rfl,hb6,hb7,rfl,rfl⟩;refine sNn ?_;generalize p/((Int.gcd p q:Nat):Int)=P at *;generalize q/((Int.gcd p q:Nat):Int)=Q at *;cases n6 with
 |true=>
  have hq2:Q<0:=of_decide_eq_true hb6.symm;rw[if_pos hq2] at hn;repeat'(first|intro(g:Nat)|refine gA ?_|intro v)
  refine cK (rneg_c (.agg #[.bool n4,d4]) P) ?_;rintro _ _ _ ⟨n8,d8,rfl,hb8,rfl,rfl⟩;refine sNn ?_;repeat'(first|intro(g:Nat)|refine gA ?_|intro v)
  refine cK (rneg_c (.agg #[.bool true,d6]) Q) ?_;rintro _ _ _ ⟨n9,d9,rfl,hb9,rfl,rfl⟩;refine sNn ?_;obtain rfl:false=n9:=by rw[hb9,eq_comm,decide_eq_false_iff_not];omega
  rw[<-hn] at hb8 ⊢;rw[show -Q=(r.den:Int) by omega];repeat'(first|intro(g:Nat)|refine gA ?_|intro v)
  refine cV (runit_c (.agg #[.bool false,d9]) (r.den:Int)) ?_;by_cases c:r.den=1
  ·rw[decide_eq_true qo];repeat'(first|intro(g:Nat)|refine gA ?_|intro v)
   refine WC.fact (isQ (.agg #[.bool n8,d8,.bool false,.slice none 0 0]) r) (fin1 _ _ _ c hmA hb8) ?_;refine WC.ret ?_;exact Fp [isQ (.agg #[.bool n8,d8,.bool false,.slice none 0 0]) r] (rcV T.r75) haA ⟨n8,_,_,rfl,hb8,rfl,rfl⟩
  ·rw[decide_eq_false qo];repeat'(first|intro(g:Nat)|refine gA ?_|intro v)
   refine WC.fact (isQ (.agg #[.bool n8,d8,.bool false,d9]) r) (fin _ _ _ _ c hmA hmA hb8) ?_;refine WC.ret ?_;exact Fp [isQ (.agg #[.bool n8,d8,.bool false,d9]) r] (rcV T.r75) haA ⟨n8,_,_,rfl,hb8,rfl,rfl⟩
 |false=>
  have hq2:¬Q<0:=of_decide_eq_false hb6.symm;rw[if_neg hq2] at hn;rw[<-hn] at hb4 ⊢;rw[show Q=(r.den:Int) by omega];repeat'(first|intro(g:Nat)|refine gA ?_|intro v)
  refine cV (runit_c (.agg #[.bool false,d6]) (r.den:Int)) ?_;by_cases c:r.den=1
  ·rw[decide_eq_true qo];repeat'(first|intro(g:Nat)|refine gA ?_|intro v)
   refine WC.fact (isQ (.agg #[.bool n4,d4,.bool false,.slice none 0 0]) r) (fin1 _ _ _ c hmA hb4) ?_;refine WC.ret ?_;exact Fp [isQ (.agg #[.bool n4,d4,.bool false,.slice none 0 0]) r] (rcV T.r75) haA ⟨n4,_,_,rfl,hb4,rfl,rfl⟩
  ·rw[decide_eq_false qo];repeat'(first|intro(g:Nat)|refine gA ?_|intro v)
   refine WC.fact (isQ (.agg #[.bool n4,d4,.bool false,d6]) r) (fin _ _ _ _ c hmA hmA hb4) ?_;refine WC.ret ?_;exact Fp [isQ (.agg #[.bool n4,d4,.bool false,d6]) r] (rcV T.r75) haA ⟨n4,_,_,rfl,hb4,rfl,rfl⟩
def rqof_c(p q:Int)(h1:p.natAbs<B2)(h2:q.natAbs<B2):FnB Tryz.prog 30 [.int .i64 p,.int .i64 q] [] [] (IsQ (Rat.divInt p q)):=by
 refine fO [(0,(.int .i64 p)),(1,(.int .i64 q))] 10 Tryz.func30 Tryz.ntmps30 λh0=>?_;have h1':p.natAbs<1000000000000000000:=h1;have h2':q.natAbs<1000000000000000000:=h2;repeat'(first|intro(g:Nat)|refine gA ?_|intro v)
 refine cK (Hz p qo qo) ?_;rintro _ _ _ ⟨n1,d1,rfl,hb1,rfl,rfl⟩;refine sNn ?_;repeat'(first|intro(g:Nat)|refine gA ?_|intro v)
 refine cK (Hz q qo qo) ?_;rintro _ _ _ ⟨n2,d2,rfl,hb2,rfl,rfl⟩;refine sNn ?_;repeat'(first|intro(g:Nat)|refine gA ?_|intro v)
 refine cK (rmake_c (.agg #[.bool n1,d1]) (.agg #[.bool n2,d2]) p q (Lz.of h1) (Lz.of h2)) ?_;rintro _ _ _ ⟨nb,e1,e2,rfl,hb,rfl,rfl⟩;refine sNn ?_;repeat'(first|intro(g:Nat)|refine gA ?_|intro v)
 refine WC.ret ?_;exact Fp [isQ (.agg #[.bool nb,e1,.bool false,e2]) (Rat.divInt p q)] (rcV T.r75) haA ⟨nb,_,_,rfl,hb,rfl,rfl⟩
end Rp
end
section
open W Go.RowKit
attribute [local irreducible] WC WL WD YO LO Qq W.Fin Qk Qw Qj Row QJ Qv KnS Has W.One Qa Qs
namespace Z
def knA{G:Prop}(h:G:=by first|((first|(focus(apply KnS.oN;exact meA;done))|(focus(apply KnS.oV;exact meA;done))|exact Go.Proofs.YtbnobghgnbockaaGreat.knA|(focus(apply KnS.ff;exact hmA;done))|(focus(apply KnS.oR;exact meA;done))|(focus(apply KnS.rf;exact hmA;omega;done))|(focus(apply KnS.pl;exact hmA;done)));done)|fail):G:=h
def hsA{G:Prop}(h:G:=by first|((first|exact Go.Proofs.YtbnobghgnbockaaGreat.hsA|(focus(apply W.Has.q;exact hmA;omega;done))|(focus(apply W.Has.qt;exact hmA;omega;omega;done))|(focus(apply W.Has.pbq;exact hmA;omega;done)));done)|fail):G:=h
def Jj{G:Prop}(h:G:=by first|((first|exact Go.Proofs.YtbnobghgnbockaaGreat.Jj|(apply YO.ix1;exact t6A;exact rfl;exact rfl;exact knA;(first|omega|(simp only[List.length_set,List.length_replicate];omega)))|(apply YO.ix;exact t6A;exact rfl;exact rfl;exact knA;(first|omega|(simp only[List.length_set,List.length_replicate];omega)))|(apply YO.Yl;exact t6A;exact rfl;exact rfl;exact knA;omega;(first|omega|(simp only[List.length_set,List.length_replicate];omega))));done)|fail):G:=h
def Xh{G:Prop}(h:G:=by first|((first|exact Go.Proofs.YtbnobghgnbockaaGreat.Xh|(apply YO.buildTb;exact rfl;exact rfl;exact rfl)|(apply YO.buildA1;exact rfl;exact rfl;exact knA)|(apply YO.buildA2;exact rfl;exact rfl;exact rfl;exact knA;exact knA)|(apply YO.buildA3;exact rfl;exact rfl;exact rfl;exact rfl;exact knA;exact knA));done)|fail):G:=h
def Zd{G:Prop}(h:G:=by first|((first|exact Go.Proofs.YtbnobghgnbockaaGreat.Zd|(apply YO.eqNz_t;exact t6A;exact rfl;exact knA;assumption)|(apply YO.eqNz_f;exact t6A;exact rfl;exact knA;assumption));done)|fail):G:=h
def Xo{G:Prop}(h:G:=by first|((first|exact Go.Proofs.YtbnobghgnbockaaGreat.Xo|(apply YO.slice;exact t6A;exact rfl;exact knA;exact Or.inr ⟨_,rfl,rfl⟩;exact Or.inr ⟨_,rfl,rfl⟩;omega;omega));done)|fail):G:=h
def Yt{G:Prop}(h:G:=by first|(((first|(apply YO.ldON;exact t2A;exact rfl;exact meA;omega)|(apply YO.ldOV;exact t2A;exact rfl;exact meA;omega)|(apply YO.ldW;exact t4A;exact rfl;exact meA;exact rfl)|(apply YO.ld42;exact t4A;exact rfl;exact meA)|(apply YO.ld40;exact t4A;exact rfl;exact meA)|(apply YO.ld51;exact t4A;exact rfl;exact meA)|(apply YO.ldFf;exact t4A;exact rfl;exact hmA;omega)|(apply YO.ldOR;exact t4A;exact rfl;exact meA;omega)|(apply YO.ldRf;exact t4A;exact rfl;exact hmA;omega;omega)|(apply YO.ldPl;exact t4A;exact rfl;exact hmA;omega)|(apply YO.ldF;exact t2A;exact rfl;exact hmA;exact rfl)|(apply YO.ldS;exact t2A;exact rfl;exact hsA;omega)|(apply YO.ldB;exact t2A;exact rfl;exact meA;exact rfl)|(apply YO.Kr;exact t2A;exact rfl;exact meA;(first|omega|(simp only[List.length_set,List.length_replicate];omega)))));done)|fail):G:=h
def go{G G':Prop}(h:G')(s:Bx G'->G:=by
 intro h
 (first|refine Go.Proofs.YtbnobghgnbockaaGreat.go ?_|(apply WL.Jx;rotate_left;exact rfl;(first|(apply LO.Xy;exact rfl;exact rfl;exact t3A;exact seA;(first|omega|(simp only[List.length_set];omega)))|(apply LO.KZ;exact rfl;exact rfl;exact t4A;exact hmA;exact seA;omega)|(apply LO.Xv;exact rfl;exact rfl;exact t3A;(first|exact One.lit rfl rfl|(apply One.sl;exact knA));exact seA;(first|(simp only[List.length_cons,List.length_nil];omega)|(simp;omega));(first|(simp only[List.set_cons_succ,List.set_cons_zero];exact rfl)|exact rfl))|(apply LO.JF;exact rfl;exact rfl;exact t3A;(first|exact One.lit rfl rfl|(apply One.sl;exact knA));exact seA;(first|(simp only[List.length_cons,List.length_nil];omega)|(simp;omega));(first|(simp only[List.set_cons_succ,List.set_cons_zero];exact rfl)|exact rfl))|(apply LO.X2;exact rfl;exact rfl;exact seA;exact t4A;exact rfl;exact rfl;(repeat(first|exact QP.nil|(apply QP.cons;(first|exact One.lit rfl rfl|(apply One.sl;exact knA))))))))|fail)
 exact Bx.h h):G:=s ⟨h⟩
def goD{G G':Prop}(h:G')(s:Bx G'->G:=by
 intro h
 (first|refine Go.Proofs.YtbnobghgnbockaaGreat.goD ?_|(apply WD.Jx;exact rfl;rotate_left;exact rfl;(first|(apply LO.Xy;exact rfl;exact rfl;exact t3A;exact seA;(first|omega|(simp only[List.length_set];omega)))|(apply LO.KZ;exact rfl;exact rfl;exact t4A;exact hmA;exact seA;omega)|(apply LO.Xv;exact rfl;exact rfl;exact t3A;(first|exact One.lit rfl rfl|(apply One.sl;exact knA));exact seA;(first|(simp only[List.length_cons,List.length_nil];omega)|(simp;omega));(first|(simp only[List.set_cons_succ,List.set_cons_zero];exact rfl)|exact rfl))|(apply LO.JF;exact rfl;exact rfl;exact t3A;(first|exact One.lit rfl rfl|(apply One.sl;exact knA));exact seA;(first|(simp only[List.length_cons,List.length_nil];omega)|(simp;omega));(first|(simp only[List.set_cons_succ,List.set_cons_zero];exact rfl)|exact rfl))|(apply LO.X2;exact rfl;exact rfl;exact seA;exact t4A;exact rfl;exact rfl;(repeat(first|exact QP.nil|(apply QP.cons;(first|exact One.lit rfl rfl|(apply One.sl;exact knA)))))));constructor;exact ltA)|fail)
 exact Bx.h h):G:=s ⟨h⟩
def goV{G G':Prop}(h:G')(s:Bx G'->G:=by
 intro h
 (first|(apply WL.ZL;rotate_left;exact rfl;exact rfl;(apply LO.V5;exact rfl;exact rfl;(repeat(first|(with_reducible apply QT.add)|(with_reducible exact QT.one)|exact QT.cast _));omega))|(apply WL.Jo;rotate_left;exact rfl;exact rfl;(apply LO.bsR0))|(apply WL.Jo;rotate_left;exact rfl;exact rfl;(apply LO.bsR1;exact rfl))|(apply WL.Jo;rotate_left;exact rfl;exact rfl;(apply LO.bsV1;exact rfl;exact knA))|(apply WL.Q9;rotate_left;exact rfl;exact rfl;(apply LO.appR1;exact rfl;exact rfl;exact meA;exact hmA;(intro _;exact seA);omega))|(apply WL.Q9;rotate_left;exact rfl;exact rfl;(apply LO.appFf;exact rfl;exact rfl;exact hmA;(intro _;exact seA);omega))|(apply WL.Q9;rotate_left;exact rfl;exact rfl;(apply LO.appVV;exact rfl;exact rfl;exact meA;(apply One.sl;exact knA);(intro _;exact seA);omega))|(apply WL.Q9;rotate_left;exact rfl;exact rfl;(apply LO.appNN;exact rfl;exact rfl;exact meA;(intro _;exact seA);omega))|refine Go.Proofs.YtbnobghgnbockaaGreat.goV ?_|fail)
 exact Bx.h h):G:=s ⟨h⟩
def goDV{G G':Prop}(h:G')(s:Bx G'->G:=by
 intro h
 (first|(apply WD.ZL;exact rfl;rotate_left;exact rfl;exact rfl;(apply LO.V5;exact rfl;exact rfl;(repeat(first|(with_reducible apply QT.add)|(with_reducible exact QT.one)|exact QT.cast _));omega);apply Qb;(intro _;exact ltA))|(apply WD.Jo;exact rfl;rotate_left;exact rfl;exact rfl;(apply LO.bsR0);apply Qb;(intro _;exact ltA))|(apply WD.Jo;exact rfl;rotate_left;exact rfl;exact rfl;(apply LO.bsR1;exact rfl);apply Qb;(intro _;exact ltA))|(apply WD.Jo;exact rfl;rotate_left;exact rfl;exact rfl;(apply LO.bsV1;exact rfl;exact knA);apply Qb;(intro _;exact ltA))|(apply WD.Q9;exact rfl;rotate_left;exact rfl;exact rfl;(apply LO.appR1;exact rfl;exact rfl;exact meA;exact hmA;(intro _;exact seA);omega);apply Qb;(intro _;exact ltA))|(apply WD.Q9;exact rfl;rotate_left;exact rfl;exact rfl;(apply LO.appFf;exact rfl;exact rfl;exact hmA;(intro _;exact seA);omega);apply Qb;(intro _;exact ltA))|(apply WD.Q9;exact rfl;rotate_left;exact rfl;exact rfl;(apply LO.appVV;exact rfl;exact rfl;exact meA;(apply One.sl;exact knA);(intro _;exact seA);omega);apply Qb;(intro _;exact ltA))|(apply WD.Q9;exact rfl;rotate_left;exact rfl;exact rfl;(apply LO.appNN;exact rfl;exact rfl;exact meA;(intro _;exact seA);omega);apply Qb;(intro _;exact ltA))|refine Go.Proofs.YtbnobghgnbockaaGreat.goDV ?_|fail)
 exact Bx.h h):G:=s ⟨h⟩
def goLV{G G':Prop}(h:G')(s:Bx G'->G:=by
 intro h
 (first|((apply LO.V5;exact rfl;exact rfl;(repeat(first|(with_reducible apply QT.add)|(with_reducible exact QT.one)|exact QT.cast _));omega);apply Qb;(intro _;exact ltA))|((apply LO.bsR0);apply Qb;(intro _;exact ltA))|((apply LO.bsR1;exact rfl);apply Qb;(intro _;exact ltA))|((apply LO.bsV1;exact rfl;exact knA);apply Qb;(intro _;exact ltA))|((apply LO.appR1;exact rfl;exact rfl;exact meA;exact hmA;(intro _;exact seA);omega);apply Qb;(intro _;exact ltA))|((apply LO.appFf;exact rfl;exact rfl;exact hmA;(intro _;exact seA);omega);apply Qb;(intro _;exact ltA))|((apply LO.appVV;exact rfl;exact rfl;exact meA;(apply One.sl;exact knA);(intro _;exact seA);omega);apply Qb;(intro _;exact ltA))|((apply LO.appNN;exact rfl;exact rfl;exact meA;(intro _;exact seA);omega);apply Qb;(intro _;exact ltA))|refine Go.Proofs.YtbnobghgnbockaaGreat.goLV ?_|fail)
 exact Bx.h h):G:=s ⟨h⟩
def goLS{G G':Prop}(h:G')(s:Bx G'->G:=by
 intro h
 (first|((first|(apply LO.Xy;exact rfl;exact rfl;exact t3A;exact seA;(first|omega|(simp only[List.length_set];omega)))|(apply LO.KZ;exact rfl;exact rfl;exact t4A;exact hmA;exact seA;omega)|(apply LO.Xv;exact rfl;exact rfl;exact t3A;(first|exact One.lit rfl rfl|(apply One.sl;exact knA));exact seA;(first|(simp only[List.length_cons,List.length_nil];omega)|(simp;omega));(first|(simp only[List.set_cons_succ,List.set_cons_zero];exact rfl)|exact rfl))|(apply LO.JF;exact rfl;exact rfl;exact t3A;(first|exact One.lit rfl rfl|(apply One.sl;exact knA));exact seA;(first|(simp only[List.length_cons,List.length_nil];omega)|(simp;omega));(first|(simp only[List.set_cons_succ,List.set_cons_zero];exact rfl)|exact rfl))|(apply LO.X2;exact rfl;exact rfl;exact seA;exact t4A;exact rfl;exact rfl;(repeat(first|exact QP.nil|(apply QP.cons;(first|exact One.lit rfl rfl|(apply One.sl;exact knA)))))));constructor;exact ltA))
 exact Bx.h h):G:=s ⟨h⟩
def Zp{G G':Prop}(h:G')(s:Bx G'->G:=by
 intro h
 (apply WD.yl;exact rfl;(first|(apply YO.move;exact rfl)|(apply YO.assign;exact rfl)|exact Kz|exact Z9|exact Kx|exact Jj|exact Yt|exact YQ|exact Q7|exact Zd|exact Kw|(apply YO.nil;exact rfl)|(apply YO.extract;exact rfl;exact rfl)|exact Kj|exact Kq|exact Vp|(apply YO.sub;exact rfl;exact rfl;omega;omega)|exact Kk|exact Ku|exact Kv|exact YJ|exact ZX|(apply YO.max;exact rfl;exact rfl)|(apply YO.min;exact rfl;exact rfl)|exact J3|exact KE|exact Ze|(apply YO.shr';exact rfl;exact rfl;omega;omega)|exact Vo|exact y_or|exact Xo);exact rfl;exact rfl)
 exact Bx.h h):G:=s ⟨h⟩
section
variable {P:Program}{n:Nat}{L rest:List Oper}{e:Env}{bx b0:List Ow}{F F0:List Fct}{Q:Env->List Ow->List Fct->Prop}{d i:Nat}{ty:TypeId}{pos:String}{af:Array Edge}{g:Option (Nat×Bool)}{hs:List Nat}{r:Plan}
 {f:FuncId} {x:Operand} {args:List Operand} {ats:Array TypeId} {vs cs:List Value} {F':List Fct} {u:Value} {el sz:Nat}
def WL.Yv(hf:FnB P f vs [] F' (IsV u))(hK:WL P n L rest ((d,u)::e) bx F Q)(hx:ev e x=some (.func (.func f) #[] #[]):=by exact rfl)(hv:Evs e args vs:=by repeat(first|exact Evs.nil|(apply Evs.cons;exact rfl)))(hF:Qp bx F F':=by repeat(first|exact Qp.nil|(apply Qp.cons;(first|(focus(apply Qm.oI;exact meA;done))|(focus(apply Qm.c;exact meA;done))|(focus(apply Qm.f;exact hsA;done))|(focus(apply Qm.fF;exact meA;exact hmA;done))|(focus(apply Qm.rows;(repeat(first|exact List.Sublist.refl _|apply List.Sublist.cons));exact hmA;done))|(focus(apply Qm.sV;exact meA;done))|(focus(apply Qm.sN;exact meA;done))))))
  (hd:Nat.blt d n=true:=by exact rfl) (hg:gok L e g=some true:=by exact rfl):WL P n L (⟨some d,.call {callee:=.value x,args:=args.toArray,argTypes:=ats},ty,pos,af,g⟩::rest) e bx F Q:=
 WL.l hd hg (LO.Ke hx hv hf hF hK)
def WL.callO(hf:FnB P f vs [] F' (IsO el sz cs))(hK:∀v,WL P n L rest ((d,v)::e) (Ow.slice v el sz cs::bx) F Q)(hx:ev e x=some (.func (.func f) #[] #[]):=by exact rfl)(hv:Evs e args vs:=by repeat(first|exact Evs.nil|(apply Evs.cons;exact rfl)))(hF:Qp bx F F':=by repeat(first|exact Qp.nil|(apply Qp.cons;(first|(focus(apply Qm.oI;exact meA;done))|(focus(apply Qm.c;exact meA;done))|(focus(apply Qm.f;exact hsA;done))|(focus(apply Qm.fF;exact meA;exact hmA;done))|(focus(apply Qm.rows;(repeat(first|exact List.Sublist.refl _|apply List.Sublist.cons));exact hmA;done))|(focus(apply Qm.sV;exact meA;done))|(focus(apply Qm.sN;exact meA;done))))))
  (hd:Nat.blt d n=true:=by exact rfl) (hg:gok L e g=some true:=by exact rfl):WL P n L (⟨some d,.call {callee:=.value x,args:=args.toArray,argTypes:=ats},ty,pos,af,g⟩::rest) e bx F Q:=
 WL.l hd hg (LO.callRO hx hv hf hF hK)
def WD.Yv(hf:FnB P f vs [] F' (IsV u))(hK:WD P n L hs b0 F0 r ((d,u)::e) bx F Q)(hL:L[i]?=some ⟨some d,.call {callee:=.value x,args:=args.toArray,argTypes:=ats},ty,pos,af,g⟩:=by exact rfl)(hx:ev e x=some (.func (.func f) #[] #[]):=by exact rfl)(hv:Evs e args vs:=by repeat(first|exact Evs.nil|(apply Evs.cons;exact rfl)))(hF:Qp bx F F':=by repeat(first|exact Qp.nil|(apply Qp.cons;(first|(focus(apply Qm.oI;exact meA;done))|(focus(apply Qm.c;exact meA;done))|(focus(apply Qm.f;exact hsA;done))|(focus(apply Qm.fF;exact meA;exact hmA;done))|(focus(apply Qm.rows;(repeat(first|exact List.Sublist.refl _|apply List.Sublist.cons));exact hmA;done))|(focus(apply Qm.sV;exact meA;done))|(focus(apply Qm.sN;exact meA;done))))))
  (hd:Nat.blt d n=true:=by exact rfl) (hg:gok L e g=some true:=by exact rfl) (lt:QF L hs i=true\/(b0.Sublist bx/\∀f∈F0,f∈F):=by exact ltA):WD P n L hs b0 F0 (.loud i r) e bx F Q:=
 WD.l hL hd hg (LO.Ke hx hv hf hF ⟨lt,hK⟩)
end
end Z
end
end Go.Proofs.YtbnobghgnbockaaGreat
