/- Lemmas for a law. Conditions: none. -/
import Derived.Test.YtbnobghgnbockaaGreatZf7
set_option linter.all false
set_option maxHeartbeats 32000000
set_option maxRecDepth 100000
namespace Go.Proofs.YtbnobghgnbockaaGreat
section
namespace X
def pige:∀(n:Nat) (p:Nat->Nat),(∀i,i<=n->p i<n)->∃i j,i<j/\j<=n/\p i=p j:=by
 intro n;induction n with
 |zero=>intro p h;have:=h 0 (Nat.le_refl _);omega
 |succ n ih=>
  intro p h;by_cases c:∃i,i<=n/\p i=p (n+1)
  ·obtain⟨i,h1,h2⟩:=c;exact⟨i,n+1,by omega,Nat.le_refl _,h2⟩
  ·have hc:∀i,i<=n->p i≠p (n+1):=λi h1 h2=>c ⟨i,h1,h2⟩
   obtain⟨i,j,h1,h2,h3⟩:=ih (λi=>if p i=n then p (n+1) else p i) (λi hi=>by
    have h4:=h i qo;have h5:=h (n+1) qo;have h6:=hc i hi;split<;>omega)
   refine⟨i,j,h1,by omega,?_⟩;have h6:=hc i qo;have h7:=hc j qo;split at h3<;>split at h3<;>omega
def cod(n:Nat)(b:Nat->Nat):Nat->Nat
 |0=>0
 |i+1=>cod n b i*n+b i
def cod_lt{n:Nat}{b:Nat->Nat}:∀m,(∀i,i<m->b i<n)->cod n b m<n^m
 |0,_=>by simp[cod]
 |m+1,h=>by
  have h1:=cod_lt m (λi hi=>h i qo);have h2:=h m qo;have h3:(cod n b m+1)*n<=n^m*n:=Nat.mul_le_mul_right _ h1;rw[Nat.add_mul] at h3;rw[cod,Nat.pow_succ];omega
def cod_inj{n:Nat}{b b':Nat->Nat}:∀m,(∀i,i<m->b i<n)->(∀i,i<m->b' i<n)->cod n b m=cod n b' m->∀i,i<m->b i=b' i
 |0,_,_,_=>λi hi=>by omega
 |m+1,h,h',he=>λi hi=>by
  have h1:=h m qo;have h2:=h' m qo;rw[cod,cod] at he;have e1:(cod n b m*n+b m)%n=b m:=by rw[Nat.mul_comm,Nat.mul_add_mod,Nat.mod_eq_of_lt h1]
  have e2:(cod n b' m*n+b' m)%n=b' m:=by rw[Nat.mul_comm,Nat.mul_add_mod,Nat.mod_eq_of_lt h2]
  have e3:b m=b' m:=by rw[<-e1,<-e2,he]
  by_cases e:i=m
  ·rw[e];exact e3
  ·have e4:cod n b m*n=cod n b' m*n:=qo;exact cod_inj m (λi hi=>h i qo) (λi hi=>h' i qo) (Nat.eq_of_mul_eq_mul_right qo e4) i qo
def max_of{P:Nat->Prop}:∀n,(∃v,P v)->(∀v,P v->v<n)->∃t,P t/\∀v,P v->v<=t
 |0,⟨v,hv⟩,h=>by have:=h v hv;omega
 |n+1,hx,h=>by
  by_cases c:P n
  ·exact⟨n,c,λv hv=>by have:=h v hv;omega⟩
  ·exact max_of n hx λv hv=>by
    have:=h v hv;have:v≠n:=λe=>c (e ▸ hv);omega
section
variable {m n e:Nat}{A:Nat->Nat->Rat}{c0:Nat->Rat}
def Stp.inv{s s':St}(h:Stp m n e s s'):∃r k,s'=pv s r k/\k<e/\s.c k<0/\(∀j,j<k->0<=s.c j)/\r<m/\0<s.t r k/\∀i,i<m->0<s.t i k->s.t r n/s.t r k<=s.t i n/s.t i k/\(s.t i n/s.t i k=s.t r n/s.t r k->s.b r<=s.b i):=by
 obtain⟨r,k,h1,h2⟩:=h;rcases XO s e with ⟨g,_⟩|⟨k',g1,g2,g3,g4⟩
 ·rw[h1] at g;cases g
 obtain rfl:k=k':=by rw[h1] at g1;cases g1;rfl
 rcases ZM n s k m with ⟨g,_⟩|⟨r',f1,f2,f3,f4⟩
 ·rw[h2] at g;cases g
 obtain rfl:r=r':=by rw[h2] at f1;cases f1;rfl
 exact⟨r,k,rfl,g2,g3,g4,f2,f3,f4⟩
def Inv.inj{s:St}(h:Inv m n A c0 s){i k:Nat}(hi:i<m)(hk:k<m)(he:s.b i=s.b k):i=k:=by
 have h1:=h.u i hi k hk;have h2:=h.u i hi i hi;rw[if_pos rfl,he,h1] at h2;by_cases e:i=k
 ·exact e
 ·rw[if_neg e] at h2;exact absurd h2 qd
def Inv.non{s:St}(h:Inv m n A c0 s){k:Nat}(hk:s.c k<0):¬Bas m s k:=by
 rintro⟨r,hr,rfl⟩;have:=h.z r hr;grind
def no_forever{S:Nat->St}(h0:Ok m n e A c0 (S 0))(he:e<=n)(hS:∀i,Stp m n e (S i) (S (i+1))):False:=by
 have hok:∀i,Ok m n e A c0 (S i):=λi=>by
  induction i with
  |zero=>exact h0
  |succ i ih=>exact ih.stp he (hS i)
 obtain⟨R,hR⟩:=Classical.axiomOfChoice (λp=>(hS p).inv);obtain⟨K,hK⟩:=Classical.axiomOfChoice hR;clear hR;obtain⟨i,j,hij,_,hcod⟩:=pige (n^m) (λp=>cod n (S p).b m) (λp _=>cod_lt m (hok p).i.bd);have hb:∀r,r<m->(S i).b r=(S j).b r:=cod_inj m (hok i).i.bd (hok j).i.bd hcod;obtain⟨_,huc⟩:=(hok i).i.uniq (hok j).i hb;have hcn:=huc n (Nat.le_refl _)
 have hstep:∀p,(S (p+1)).c n=(S p).c n-(S p).c (K p)*((S p).t (R p) n/(S p).t (R p) (K p)):=λp=>by
  rw[(hK p).1];rfl
 have hq:∀p,0<=(S p).t (R p) n/(S p).t (R p) (K p):=λp=>Z0 ((hok p).f _ (hK p).2.2.2.2.1) (hK p).2.2.2.2.2.1
 have hmon1:∀p,(S p).c n<=(S (p+1)).c n:=λp=>by
  have h1:=Rat.mul_nonneg (show 0<=-(S p).c (K p) by have:=(hK p).2.2.1;grind) (hq p);rw[hstep p];grind
 have hmon:∀d p,(S p).c n<=(S (p+d)).c n:=λd=>by
  induction d with
  |zero=>intro p;exact Rat.le_refl
  |succ d ih=>intro p;have h1:=ih p;have h2:=hmon1 (p+d);rw[show p+(d+1)=p+d+1 by omega];grind
 have hz:∀p,i<=p->p<j->(S p).t (R p) n=0:=λp h1 h2=>by
  have g1:=hmon (p-i) i;have g2:=hmon (j-(p+1)) (p+1);rw[show i+(p-i)=p by omega] at g1;rw[show p+1+(j-(p+1))=j by omega] at g2;have g3:=hmon1 p;have g4:=hstep p;have g5:(S p).c (K p)*((S p).t (R p) n/(S p).t (R p) (K p))=0:=by grind
  have g6:=(hK p).2.2.1;have g7:=(hK p).2.2.2.2.2.1
  have g8:(S p).t (R p) n/(S p).t (R p) (K p)=0:=by
   rcases Rat.mul_eq_zero.1 g5 with g|g
   ·grind
   ·exact g
  have g9:(S p).t (R p) n=(S p).t (R p) n/(S p).t (R p) (K p)*(S p).t (R p) (K p):=(Zx (by grind)).symm;rw[g9,g8];grind
 have hval:∀p v,i<=p->p<j->(sm m λr=>if(S (p+1)).b r=v then(S (p+1)).t r n else 0)=sm m λr=>if(S p).b r=v then(S p).t r n else 0:=λp v h1 h2=>by
  have g1:=hz p h1 h2;rw[(hK p).1];refine Qd λr hr=>?_;show(if(if r=R p then K p else(S p).b r)=v then(if r=R p then(S p).t (R p) n/(S p).t (R p) (K p) else(S p).t r n-(S p).t r (K p)*((S p).t (R p) n/(S p).t (R p) (K p))) else 0)=_;by_cases e:r=R p
  ·subst e;rw[if_pos rfl,if_pos rfl,g1];split<;>split<;>grind
  ·rw[if_neg e,if_neg e,g1];split<;>grind
 have hval2:∀d p v,i<=p->p+d<=j->(sm m λr=>if(S (p+d)).b r=v then(S (p+d)).t r n else 0)=sm m λr=>if(S p).b r=v then(S p).t r n else 0:=λd=>by
  induction d with
  |zero=>intro p v _ _;rfl
  |succ d ih=>intro p v h1 h2;rw[show p+(d+1)=p+d+1 by omega,hval (p+d) v qo qo,ih p v h1 qo]
 have hval3:∀p q v,i<=p->p<=j->i<=q->q<=j->(sm m λr=>if(S p).b r=v then(S p).t r n else 0)=sm m λr=>if(S q).b r=v then(S q).t r n else 0:=λp q v h1 h2 h3 h4=>by
  have g1:=hval2 (p-i) i v (Nat.le_refl _) qo;have g2:=hval2 (q-i) i v (Nat.le_refl _) qo;rw[show i+(p-i)=p by omega] at g1;rw[show i+(q-i)=q by omega] at g2;rw[g1,g2]
 have hent:∀d a v,¬Bas m (S a) v->Bas m (S (a+d)) v->∃p,a<=p/\p<a+d/\K p=v:=λd=>by
  induction d with
  |zero=>intro a v h1 h2;exact absurd h2 h1
  |succ d ih=>
   intro a v h1 h2;by_cases c:Bas m (S (a+d)) v
   ·obtain⟨p,p1,p2,p3⟩:=ih a v h1 c;exact⟨p,p1,by omega,p3⟩
   ·refine⟨a+d,by omega,by omega,?_⟩;rw[show a+(d+1)=a+d+1 by omega,(hK (a+d)).1] at h2;obtain⟨r,r1,r2⟩:=h2;have r2':(if r=R (a+d) then K (a+d) else(S (a+d)).b r)=v:=r2;by_cases e:r=R (a+d)
    ·rw[if_pos e] at r2';exact r2'
    ·rw[if_neg e] at r2';exact absurd ⟨r,r1,r2'⟩ c
 have hlev:∀d a v,Bas m (S a) v->¬Bas m (S (a+d)) v->∃p,a<=p/\p<a+d/\(S p).b (R p)=v:=λd=>by
  induction d with
  |zero=>intro a v h1 h2;exact absurd h1 h2
  |succ d ih=>
   intro a v h1 h2;by_cases c:Bas m (S (a+d)) v
   ·refine⟨a+d,by omega,by omega,?_⟩;obtain⟨r,r1,r2⟩:=c;by_cases e:r=R (a+d)
    ·rw[<-e];exact r2
    ·refine absurd ⟨r,r1,?_⟩ h2;rw[show a+(d+1)=a+d+1 by omega,(hK (a+d)).1];show(if r=R (a+d) then K (a+d) else(S (a+d)).b r)=v;rw[if_neg e];exact r2
   ·obtain⟨p,p1,p2,p3⟩:=ih a v h1 c;exact⟨p,p1,by omega,p3⟩
 have hsame:∀v,Bas m (S i) v↔Bas m (S j) v:=λv=>by
  constructor
  ·rintro⟨r,r1,r2⟩;exact⟨r,r1,by rw[<-hb r r1];exact r2⟩
  ·rintro⟨r,r1,r2⟩;exact⟨r,r1,by rw[hb r r1];exact r2⟩
 have hfick:∀a b v,i<=a->a<=j->i<=b->b<=j->Bas m (S a) v->¬Bas m (S b) v->∃p,i<=p/\p<j/\K p=v:=λa b v h1 h2 h3 h4 h5 h6=>by
  by_cases c:b<a
  ·obtain⟨p,p1,p2,p3⟩:=hent (a-b) b v h6 (by rw[show b+(a-b)=a by omega];exact h5);exact⟨p,by omega,by omega,p3⟩
  ·by_cases d:Bas m (S i) v
   ·obtain⟨p,p1,p2,p3⟩:=hent (j-b) b v h6 (by rw[show b+(j-b)=j by omega];exact(hsame v).1 d);exact⟨p,by omega,by omega,p3⟩
   ·obtain⟨p,p1,p2,p3⟩:=hent (a-i) i v d (by rw[show i+(a-i)=a by omega];exact h5);exact⟨p,by omega,by omega,p3⟩
 obtain⟨t,⟨p1,a1,a2,rfl⟩,htm⟩:=max_of (P:=λv=>∃p,i<=p/\p<j/\K p=v) n ⟨_,i,Nat.le_refl _,hij,rfl⟩ (λv ⟨p,_,_,h⟩=>by have:=(hK p).2.1;omega);have hn1:¬Bas m (S p1) (K p1):=(hok p1).i.non (hK p1).2.2.1
 have hy1:Bas m (S (p1+1)) (K p1):=by
  refine⟨R p1,(hK p1).2.2.2.2.1,?_⟩;rw[(hK p1).1];exact if_pos rfl
 obtain⟨p2,b1,b2,b3⟩:∃p,i<=p/\p<j/\(S p).b (R p)=K p1:=by
  by_cases d:Bas m (S i) (K p1)
  ·obtain⟨p,q1,q2,q3⟩:=hlev (p1-i) i _ d (by rw[show i+(p1-i)=p1 by omega];exact hn1);exact⟨p,by omega,by omega,q3⟩
  ·obtain⟨p,q1,q2,q3⟩:=hlev (j-(p1+1)) (p1+1) _ hy1 (by rw[show p1+1+(j-(p1+1))=j by omega];exact λh=>d ((hsame _).2 h));exact⟨p,by omega,by omega,q3⟩
 obtain⟨_,k2,k3,k4,k5,k6,k7⟩:=hK p2;obtain⟨_,l2,l3,l4,_⟩:=hK p1
 have hlt:K p2<K p1:=by
  have h1:=htm (K p2) ⟨p2,b1,b2,rfl⟩;have h2:K p2≠K p1:=λh=>(hok p2).i.non k3 ⟨R p2,k5,by rw[b3,h]⟩;omega
 have hcr:=(hok p2).i.JE (hok p1).i (j:=K p2) qo;have hpos:=l4 _ hlt
 have hex:∃r,r<m/\0<(S p1).c ((S p2).b r)*(S p2).t r (K p2):=Classical.byContradiction λhno=>by
  have:(sm m λr=>(S p1).c ((S p2).b r)*(S p2).t r (K p2))<=sm m λ_=>0:=sm_le λr hr=>by
   have h1:¬0<(S p1).c ((S p2).b r)*(S p2).t r (K p2):=λh=>hno ⟨r,hr,h⟩;grind
  rw[Ja (λ_ _=>rfl)] at this;grind
 obtain⟨r,r1,r2⟩:=hex
 have hne:r≠R p2:=λh=>by
  subst h;rw[b3] at r2;have:=Rat.mul_pos (show 0 < -(S p1).c (K p1) by grind) k6;grind
 have hnz:(S p1).c ((S p2).b r)≠0:=λh=>by rw[h] at r2;grind
 have hnb:¬Bas m (S p1) ((S p2).b r):=by
  rintro⟨x,x1,x2⟩;exact hnz (by rw[<-x2];exact(hok p1).i.z x x1)
 have hby:Bas m (S p2) ((S p2).b r):=⟨r,r1,rfl⟩
 have hvt:=htm _ (hfick p2 p1 _ b1 qo a1 qo hby hnb);have hvt2:(S p2).b r≠K p1:=λh=>hne ((hok p2).i.inj r1 k5 (by rw[h,b3]));have hcp:=l4 ((S p2).b r) qo
 have htp:0<(S p2).t r (K p2):=by
  refine Classical.byContradiction λh=>?_;have:=Rat.mul_nonneg hcp (show 0<=-(S p2).t r (K p2) by grind);grind
 have hv0:(S p2).t r n=0:=by
  have h1:=hval3 p2 p1 ((S p2).b r) b1 qo a1 qo;rw[Ja (f:=λx=>if(S p1).b x=(S p2).b r then(S p1).t x n else 0) (λx hx=>if_neg λh=>hnb ⟨x,hx,h⟩)] at h1;rw[JQ r1 (λx hx hxr=>if_neg λh=>hxr ((hok p2).i.inj hx r1 h)),if_pos rfl] at h1;exact h1
 have hq0:=hz p2 b1 b2;have:=(k7 r r1 htp).2 (by rw[hv0,hq0];grind);rw[b3] at this;omega
end
end X
end
section
namespace X
section
variable {m n e:Nat}{A:Nat->Nat->Rat}{c0:Nat->Rat}{s:St}
def prc(m:Nat)(c1:Nat->Rat)(s:St):St:={s with c:=λj=>c1 j-sm m λi=>c1 (s.b i)*s.t i j}
def Inv.prc(h:Inv m n A c0 s)(c1:Nat->Rat):Inv m n A c1 (prc m c1 s):=by
 obtain⟨M,hM⟩:=h.l;refine⟨h.bd,h.u,h.l,h.r,⟨λr=>sm m λi=>c1 (s.b i)*M i r,λj hj=>?_⟩,λi hi=>?_⟩
 ·show c1 j-(sm m λi=>c1 (s.b i)*s.t i j)=_
  congr 1
  rw[show(sm m λi=>c1 (s.b i)*s.t i j)=sm m λi=>sm m λr=>(c1 (s.b i)*M i r)*A r j from Qd λi hi=>by
   rw[hM i hi j hj,<-Jt];exact Qd λr _=>by grind]
  rw[XB];exact Qd λr _=>by rw[Xw]
 ·show c1 (s.b i)-(sm m λk=>c1 (s.b k)*s.t k (s.b i))=0;rw[JQ hi (λk hk hki=>by rw[h.u k hk i hi,if_neg hki];grind),h.u i hi i hi,if_pos rfl];grind
def runP(m n e:Nat):Nat->St->Option (St×Option Nat)
 |0,_=>none
 |F+1,s=>match ent s e with
  |none=>some (s,none)
  |some k=>match lev n s k m with
   |none=>some (s,some k)
   |some r=>runP m n e F (pv s r k)
def stp(m n e:Nat)(s:St):St:=match ent s e with
 |none=>s
 |some k=>match lev n s k m with
  |none=>s
  |some r=>pv s r k
def its(m n e:Nat)(s:St):Nat->St
 |0=>s
 |i+1=>stp m n e (its m n e s i)
def HA(s:St):∀i,its m n e s (i+1)=its m n e (stp m n e s) i
 |0=>rfl
 |i+1=>by
  show stp m n e (its m n e s (i+1))=stp m n e (its m n e (stp m n e s) i);rw[HA s i]
def run_none:∀(F:Nat) (s:St),runP m n e F s=none->∀i,i<F->Stp m n e (its m n e s i) (its m n e s (i+1)):=by
 intro F;induction F with
 |zero=>intro s _ i hi;omega
 |succ F ih=>
  intro s h i hi;unfold runP at h;split at h
  ·cases h
  ·rename_i k h1
   split at h
   ·cases h
   ·rename_i r h2
    have hs:stp m n e s=pv s r k:=by unfold stp;rw[h1];simp only;rw[h2]
    cases i with
    |zero=>show Stp m n e s (stp m n e s);rw[hs];exact .mk r k h1 h2
    |succ i=>
     rw[HA,HA,hs];exact ih _ h i qo
def Z2(h:Ok m n e A c0 s)(he:e<=n):∃F x,runP m n e F s=some x:=Classical.byContradiction λhno=>by
 refine no_forever (S:=its m n e s) h he λi=>?_;refine run_none (i+1) s ?_ i qo;cases hr:runP m n e (i+1) s with
 |none=>rfl
 |some x=>exact absurd ⟨_,_,hr⟩ hno
def run_ind{P:St->Prop}(hp:∀s s',P s->Stp m n e s s'->P s'):∀(F:Nat) (s:St) (x:St×Option Nat),P s->runP m n e F s=some x->P x.1:=by
 intro F;induction F with
 |zero=>intro s x _ h;cases h
 |succ F ih=>
  intro s x h1 h;unfold runP at h;split at h
  ·cases h;exact h1
  ·rename_i k g1
   split at h
   ·cases h;exact h1
   ·rename_i r g2;exact ih _ x (hp _ _ h1 (.mk r k g1 g2)) h
def Gx:∀(F:Nat) (s:St) (x:St×Option Nat),runP m n e F s=some x->(x.2=none/\∀k,k<e->0<=x.1.c k)\/∃k,x.2=some k/\k<e/\x.1.c k<0/\∀i,i<m->x.1.t i k<=0:=by
 intro F;induction F with
 |zero=>intro s x h;cases h
 |succ F ih=>
  intro s x h;unfold runP at h;split at h
  ·rename_i g
   cases h;rcases XO s e with ⟨_,g2⟩|⟨k,g2,_⟩
   ·exact .inl ⟨rfl,g2⟩
   ·rw[g] at g2;cases g2
  ·rename_i k g1
   split at h
   ·rename_i g2
    cases h;rcases XO s e with ⟨g,_⟩|⟨k',g,g3,g4,_⟩
    ·rw[g1] at g;cases g
    obtain rfl:k=k':=by rw[g1] at g;cases g;rfl
    rcases ZM n s k m with ⟨_,f2⟩|⟨r,f1,_⟩
    ·exact .inr ⟨k,rfl,g3,g4,f2⟩
    ·rw[g2] at f1;cases f1
   ·rename_i r g2;exact ih _ x h
def run_ok(h:Ok m n e A c0 s)(he:e<=n){F:Nat}{x:St×Option Nat}(hx:runP m n e F s=some x):Ok m n e A c0 x.1:=run_ind (λ_ _ h1 h2=>Ok.stp h1 he h2) F s x h hx
def drS(last:Nat)(s:St)(i:Nat):St:=if s.b i<last then s else match fstT (λk=>decide (s.t i k≠0)) last 0 with
 |none=>s
 |some k=>pv s i k
def drP(last:Nat)(s:St):Nat->St
 |0=>s
 |i+1=>drS last (drP last s i) i
def Emp(m n last:Nat)(s:St)(q:Nat):Prop:=∀i,i<m->last<=s.b i->s.t i n=0/\(i<q->∀k,k<last->s.t i k=0)
def emp_step{last q:Nat}(hl:last<=n)(h:Ok m n e A c0 s)(hq:q<m)(he:Emp m n last s q):Ok m n e A c0 (drS last s q)/\Emp m n last (drS last s q) (q+1):=by
 unfold drS;by_cases c:s.b q<last
 ·rw[if_pos c];refine⟨h,λi hi hb=>⟨(he i hi hb).1,λhiq=>?_⟩⟩;by_cases e1:i=q
  ·subst e1;omega
  ·exact(he i hi hb).2 qo
 ·rw[if_neg c];rcases Xe (λk=>decide (s.t q k≠0)) last 0 with ⟨h1,h2⟩|⟨k,h1,_,h3,h4,_⟩
  ·rw[h1];refine⟨h,λi hi hb=>⟨(he i hi hb).1,λhiq k hk=>?_⟩⟩;by_cases e1:i=q
   ·subst e1;have:=of_decide_eq_false (h2 k qo qo);exact Classical.byContradiction λh=>this h
   ·exact(he i hi hb).2 qo k hk
  ·rw[h1];have hk:=of_decide_eq_true h4;have hq0:=(he q hq qo).1
   have hn:∀i,(pv s q k).t i n=s.t i n:=λi=>by
    show(if i=q then s.t q n/s.t q k else s.t i n-s.t i k*(s.t q n/s.t q k))=_;by_cases e1:i=q
    ·rw[if_pos e1,e1,hq0];grind
    ·rw[if_neg e1,hq0];grind
   refine⟨⟨h.i.pv hq qo hk,λi hi=>by rw[hn];exact h.f i hi⟩,λi hi hb=>?_⟩;have hb':last<=(if i=q then k else s.b i):=hb;have e1:i≠q:=λe1=>by rw[if_pos e1] at hb';omega
   rw[if_neg e1] at hb';refine⟨by rw[hn];exact(he i hi hb').1,λhiq j hj=>?_⟩;have g:=(he i hi hb').2 qo;show(if i=q then s.t q j/s.t q k else s.t i j-s.t i k*(s.t q j/s.t q k))=0;rw[if_neg e1,g j hj,g k qo];grind
def HK{last:Nat}(hl:last<=n)(h:Ok m n e A c0 s)(he:Emp m n last s 0):∀q,q<=m->Ok m n e A c0 (drP last s q)/\Emp m n last (drP last s q) q
 |0,_=>⟨h,he⟩
 |q+1,hq=>by
  obtain⟨h1,h2⟩:=HK hl h he q qo;exact emp_step hl h1 qo h2
def emp_stp{last:Nat}{s':St}(he:e<=last)(h:Ok m n e A c0 s)(hn:e<=n)(hm:Emp m n last s m)(hs:Stp m n e s s'):Emp m n last s' m:=by
 obtain⟨r,k,rfl,g2,g3,g4,f2,f3,f4⟩:=hs.inv
 have hr:s.b r<last:=Classical.byContradiction λc=>by
  have:=(hm r f2 qo).2 f2 k qo;grind
 intro i hi hb;have hb':last<=(if i=r then k else s.b i):=hb;have e1:i≠r:=λe1=>by rw[if_pos e1] at hb';omega
 rw[if_neg e1] at hb';have g:=(hm i hi hb').2 hi;have g0:=(hm i hi hb').1;refine⟨?_,λ_ j hj=>?_⟩
 ·show(if i=r then s.t r n/s.t r k else s.t i n-s.t i k*(s.t r n/s.t r k))=0;rw[if_neg e1,g0,g k qo];grind
 ·show(if i=r then s.t r j/s.t r k else s.t i j-s.t i k*(s.t r j/s.t r k))=0;rw[if_neg e1,g j hj,g k qo];grind
end
end X
end
section
namespace X
structure Lp where
 v:Nat
 m:Nat
 a:Nat->Nat->Rat
 b:Nat->Rat
 g:Nat->Rat
def Lp.sg(p:Lp)(r:Nat):Rat:=if p.b r<0 then -1 else 1
def Lp.la(p:Lp):Nat:=2*p.v+p.m
def Lp.n(p:Lp):Nat:=2*p.v+2*p.m
def Lp.A(p:Lp)(r j:Nat):Rat:=
 if j<p.v then p.sg r*p.a r j else if j<2*p.v then -(p.sg r*p.a r (j-p.v)) else if j<p.la then(if j=2*p.v+r then p.sg r else 0)
 else if j<p.n then(if j=p.la+r/\p.b r<0 then 1 else 0) else p.sg r*p.b r
def Lp.s0(p:Lp):St where
 t:=p.A
 c _:=0
 b i:=if p.b i<0 then p.la+i else 2*p.v+i
section
variable {p:Lp}
def sg_sq(r:Nat):p.sg r*p.sg r=1:=by unfold Lp.sg;split<;>grind
def A_art{r i:Nat}(hi:i<p.m):p.A r (p.s0.b i)=if r=i then 1 else 0:=by
 show p.A r (if p.b i<0 then p.la+i else 2*p.v+i)=_;unfold Lp.A Lp.la Lp.n;by_cases c:p.b i<0
 ·rw[if_pos c,if_neg qo,if_neg qo,if_neg qo,if_pos qo];by_cases e:r=i
  ·subst e;rw[if_pos ⟨rfl,c⟩,if_pos rfl]
  ·rw[if_neg qo,if_neg e]
 ·rw[if_neg c,if_neg qo,if_neg qo,if_pos qo];by_cases e:r=i
  ·subst e;rw[if_pos rfl,if_pos rfl];unfold Lp.sg;rw[if_neg c]
  ·rw[if_neg qo,if_neg e]
def inv0:Inv p.m p.n p.A (λ_=>0) p.s0:=by
 refine⟨λi hi=>?_,λi hi k hk=>?_,⟨λi r=>if i=r then 1 else 0,λi hi j hj=>?_⟩,λr hr j hj=>?_,⟨λ_=>0,λj hj=>?_⟩,λ_ _=>rfl⟩
 ·show(if p.b i<0 then p.la+i else 2*p.v+i)<p.n;unfold Lp.la Lp.n;split<;>omega
 ·exact A_art hk
 ·show p.A i j=sm p.m λr=>(if i=r then(1:Rat) else 0)*p.A r j;rw[JQ hi (λr _ hr=>by rw[if_neg (λe=>hr e.symm)];grind),if_pos rfl];grind
 ·rw[JQ hr (λi hi hir=>by rw[A_art hi,if_neg (λe=>hir e.symm)];grind),A_art hr,if_pos rfl];show _=1*p.A r j;grind
 ·rw[Ja (λ_ _=>by grind)];show(0:Rat)=0-0;grind
def A_n(r:Nat):p.A r p.n=p.sg r*p.b r:=by
 unfold Lp.A Lp.la Lp.n;rw[if_neg qo,if_neg qo,if_neg qo,if_neg qo]
def ok0(e:Nat):Ok p.m p.n e p.A (λ_=>0) p.s0:=⟨inv0,λi _=>by
 show 0<=p.A i p.n;rw[A_n];unfold Lp.sg;split<;>grind⟩
def Ok.prc{m n e e':Nat}{A:Nat->Nat->Rat}{c0:Nat->Rat}{s:St}(h:Ok m n e A c0 s)(c1:Nat->Rat):Ok m n e' A c1 (prc m c1 s):=⟨h.i.prc c1,h.f⟩
def Lp.c1(p:Lp)(j:Nat):Rat:=if p.la<=j/\j<p.n then 1 else 0
def Lp.c2(p:Lp)(j:Nat):Rat:=if j<p.v then -p.g j else if j<2*p.v then p.g (j-p.v) else 0
def sm_null{n:Nat}{f:Nat->Rat}:(∀i,i<n->0<=f i)->sm n f<=0->∀i,i<n->f i=0:=λh h2 i hi=>by
 rw[Vh hi] at h2
 have h3:0<=sm n (λk=>if k=i then 0 else f k):=KJ λk hk=>by
  by_cases e:k=i
  ·rw[if_pos e];exact Rat.le_refl
  ·rw[if_neg e];exact h k hk
 have:=h i hi;grind
def phase1{F:Nat}{x:St×Option Nat}(hx:runP p.m p.n p.n F (prc p.m p.c1 p.s0)=some x):x.2=none/\Ok p.m p.n p.n p.A p.c1 x.1/\(∀k,k<p.n->0<=x.1.c k)/\(¬x.1.c p.n<0->Emp p.m p.n p.la x.1 0):=by
 have hok:=run_ok ((ok0 (p:=p) p.n).prc (e':=p.n) p.c1) (Nat.le_refl _) hx;have hc1:∀j,0<=p.c1 j:=λj=>by unfold Lp.c1;split<;>decide
 have hend:x.2=none/\∀k,k<p.n->0<=x.1.c k:=by
  rcases Gx F _ x hx with h|⟨k,h1,h2,h3,h4⟩
  ·exact h
  ·have h5:=hok.i.cost (j:=k) qo
   have h6:sm p.m (λi=>p.c1 (x.1.b i)*x.1.t i k)<=sm p.m λ_=>0:=sm_le λi hi=>by
    have:=Rat.mul_nonneg (hc1 (x.1.b i)) (show 0<=-x.1.t i k by have:=h4 i hi;grind);grind
   rw[Ja (λ_ _=>rfl)] at h6;have:=hc1 k;grind
 refine⟨hend.1,hok,hend.2,λhn i hi hb=>⟨?_,λh=>by omega⟩⟩;have h5:=hok.i.cost (j:=p.n) (Nat.le_refl _);have h7:p.c1 p.n=0:=by unfold Lp.c1;rw[if_neg qo]
 have h6:=sm_null (n:=p.m) (f:=λi=>p.c1 (x.1.b i)*x.1.t i p.n) (λi hi=>Rat.mul_nonneg (hc1 _) (hok.f i hi)) (by grind) i hi;have h8:p.c1 (x.1.b i)=1:=by unfold Lp.c1;rw[if_pos ⟨hb,hok.i.bd i hi⟩]
 simp only[h8] at h6;grind
def wt(m:Nat)(s:St)(q:Nat->Rat)(j:Nat):Rat:=sm m λi=>if s.b i=j then q i else 0
def A_eq{r j:Nat}(hj:j<p.la)(q:Rat):p.A r j*q=p.sg r*(sm p.v (λk=>p.a r k*((if j=k then q else 0)-(if j=p.v+k then q else 0)))+(if j=2*p.v+r then q else 0)):=by
 unfold Lp.A Lp.la at *;by_cases c1:j<p.v
 ·rw[if_pos c1,JQ c1 (λk hk hkj=>by rw[if_neg (λe=>hkj e.symm),if_neg qo];grind),if_pos rfl,if_neg qo,if_neg qo];grind
 ·rw[if_neg c1];by_cases c2:j<2*p.v
  ·rw[if_pos c2,JQ (r:=j-p.v) qo (λk hk hkj=>by rw[if_neg qo,if_neg qo];grind),if_neg qo,if_pos qo,if_neg qo];grind
  ·rw[if_neg c2,if_pos hj,Ja (λk hk=>by rw[if_neg qo,if_neg qo];grind)];split<;>grind
def row_sum{s:St}{q:Nat->Rat}(hq:∀i,i<p.m->p.la<=s.b i->q i=0)(r:Nat):(sm p.m λi=>p.A r (s.b i)*q i)=p.sg r*(sm p.v (λk=>p.a r k*(wt p.m s q k-wt p.m s q (p.v+k)))+wt p.m s q (2*p.v+r)):=by
 rw[show(sm p.m λi=>p.A r (s.b i)*q i)=sm p.m λi=>p.sg r*(sm p.v (λk=>p.a r k*((if s.b i=k then q i else 0)-(if s.b i=p.v+k then q i else 0)))+(if s.b i=2*p.v+r then q i else 0)) from Qd λi hi=>by
  by_cases c:s.b i<p.la
  ·exact A_eq c (q i)
  ·rw[hq i hi qo,Ja (λk _=>by split<;>split<;>grind)];split<;>grind]
 rw[Jt,Vu,XB]
 congr 1
 rw[show(sm p.v λk=>sm p.m λi=>p.a r k*((if s.b i=k then q i else 0)-(if s.b i=p.v+k then q i else 0)))=sm p.v λk=>p.a r k*(wt p.m s q k-wt p.m s q (p.v+k)) from Qd λk _=>by
  rw[Jt,YR];rfl]
 rfl
def c2_eq(j:Nat)(q:Rat):p.c2 j*q= -sm p.v (λk=>p.g k*((if j=k then q else 0)-(if j=p.v+k then q else 0))):=by
 unfold Lp.c2;by_cases c1:j<p.v
 ·rw[if_pos c1,JQ c1 (λk hk hkj=>by rw[if_neg (λe=>hkj e.symm),if_neg qo];grind),if_pos rfl,if_neg qo];grind
 ·rw[if_neg c1];by_cases c2:j<2*p.v
  ·rw[if_pos c2,JQ (r:=j-p.v) qo (λk hk hkj=>by rw[if_neg qo,if_neg qo];grind),if_neg qo,if_pos qo];grind
  ·rw[if_neg c2,Ja (λk hk=>by rw[if_neg qo,if_neg qo];grind)];grind
def c2_sum{s:St}{q:Nat->Rat}:(sm p.m λi=>p.c2 (s.b i)*q i)= -sm p.v (λk=>p.g k*(wt p.m s q k-wt p.m s q (p.v+k))):=by
 rw[show(sm p.m λi=>p.c2 (s.b i)*q i)=sm p.m λi=>(-1)*sm p.v (λk=>p.g k*((if s.b i=k then q i else 0)-(if s.b i=p.v+k then q i else 0))) from Qd λi _=>by rw[c2_eq];grind];rw[Jt,XB]
 rw[show(sm p.v λk=>sm p.m λi=>p.g k*((if s.b i=k then q i else 0)-(if s.b i=p.v+k then q i else 0)))=sm p.v λk=>p.g k*(wt p.m s q k-wt p.m s q (p.v+k)) from Qd λk _=>by
  rw[Jt,YR];rfl]
 grind
end
end X
end
section
namespace X
section
variable {p:Lp}{c0:Nat->Rat}{s:St}
def dual(h:Inv p.m p.n p.A c0 s)(hc:∀j,2*p.v<=j->j<p.la->c0 j=0) :
  (∀k,k<p.v->s.c k=c0 k+sm p.m λr=>s.c (2*p.v+r)*p.a r k)/\(∀k,k<p.v->s.c (p.v+k)=c0 (p.v+k)-sm p.m λr=>s.c (2*p.v+r)*p.a r k)/\s.c p.n=c0 p.n+sm p.m λr=>s.c (2*p.v+r)*p.b r:=by
 obtain⟨w,hw⟩:=h.w
 have hy:∀r,r<p.m->s.c (2*p.v+r)= -(w r*p.sg r):=λr hr=>by
  rw[hw _ (by unfold Lp.n;omega),hc _ qo (by unfold Lp.la;omega)]
  rw[JQ hr (λi hi hir=>by
   unfold Lp.A Lp.la;rw[if_neg qo,if_neg qo,if_pos qo,if_neg qo];grind)]
  unfold Lp.A Lp.la;rw[if_neg qo,if_neg qo,if_pos qo,if_pos rfl];grind
 refine⟨λk hk=>?_,λk hk=>?_,?_⟩
 ·rw[hw k (by unfold Lp.n;omega)]
  rw[show(sm p.m λr=>w r*p.A r k)=sm p.m λr=>(-1)*(s.c (2*p.v+r)*p.a r k) from Qd λr hr=>by
   rw[hy r hr];unfold Lp.A;rw[if_pos hk];grind]
  rw[Jt];grind
 ·rw[hw _ (by unfold Lp.n;omega)]
  congr 1
  exact Qd λr hr=>by
   rw[hy r hr];unfold Lp.A;rw[if_neg qo,if_pos qo,show p.v+k-p.v=k by omega];grind
 ·rw[hw _ (Nat.le_refl _)]
  rw[show(sm p.m λr=>w r*p.A r p.n)=sm p.m λr=>(-1)*(s.c (2*p.v+r)*p.b r) from Qd λr hr=>by
   rw[hy r hr,A_n];grind]
  rw[Jt];grind
def xs(p:Lp)(s:St)(k:Nat):Rat:=wt p.m s (λi=>s.t i p.n) k-wt p.m s (λi=>s.t i p.n) (p.v+k)
def Hb{m:Nat}{q:Nat->Rat}(h:∀i,i<m->0<=q i)(j:Nat):0<=wt m s q j:=KJ λi hi=>by
 by_cases e:s.b i=j
 ·rw[if_pos e];exact h i hi
 ·rw[if_neg e];exact Rat.le_refl
def Hg{r:Nat}{x y:Rat}(h:p.sg r*x=p.sg r*y):x=y:=by
 have h1:=@sg_sq p r;have h2:p.sg r*(p.sg r*x)=p.sg r*(p.sg r*y):=by rw[h]
 grind
def primal{e:Nat}(h:Ok p.m p.n e p.A c0 s)(he:∀i,i<p.m->p.la<=s.b i->s.t i p.n=0){r:Nat}(hr:r<p.m):sm p.v (λk=>p.a r k*xs p s k)<=p.b r:=by
 have h1:=h.i.r r hr p.n (Nat.le_refl _);rw[A_n,row_sum he] at h1;have h2:=Hg h1;have h3:=Hb (s:=s) h.f (2*p.v+r);unfold xs;grind
def value(h:Inv p.m p.n p.A p.c2 s):s.c p.n=sm p.v λk=>p.g k*xs p s k:=by
 rw[h.cost (Nat.le_refl _),c2_sum];have:p.c2 p.n=0:=by unfold Lp.c2 Lp.n;rw[if_neg qo,if_neg qo]
 rw[this];unfold xs;grind
def Uw(a b:Nat):(if a=b then(1:Rat) else 0)=if b=a then 1 else 0:=by
 by_cases e:a=b
 ·rw[if_pos e,if_pos e.symm]
 ·rw[if_neg e,if_neg (λh=>e h.symm)]
def rv(p:Lp)(s:St)(col j:Nat):Rat:=(if j=col then 1 else 0)-wt p.m s (λi=>s.t i col) j
def dr(p:Lp)(s:St)(col k:Nat):Rat:=rv p s col k-rv p s col (p.v+k)
def ray_line(h:Inv p.m p.n p.A c0 s){col:Nat}(hc:col<p.la)(he:∀i,i<p.m->p.la<=s.b i->s.t i col=0)(hn:∀i,i<p.m->s.t i col<=0){r:Nat}(hr:r<p.m):sm p.v (λk=>p.a r k*dr p s col k)<=0:=by
 have hcn:col<=p.n:=by unfold Lp.la Lp.n at *;omega
 have h1:=h.r r hr col hcn;rw[row_sum he] at h1;have h2:=A_eq (p:=p) (r:=r) hc 1;have h3:0<=wt p.m s (λi=>-s.t i col) (2*p.v+r):=Hb (λi hi=>by have:=hn i hi;grind) _
 have h4:wt p.m s (λi=>-s.t i col) (2*p.v+r)=(-1)*wt p.m s (λi=>s.t i col) (2*p.v+r):=by
  unfold wt;rw[<-Jt];exact Qd λi _=>by split<;>grind
 have h5:p.A r col*1=p.A r col:=by grind
 rw[h5,h1] at h2;have h6:=Hg h2
 have h7:(sm p.v λk=>p.a r k*dr p s col k)=sm p.v (λk=>p.a r k*((if col=k then 1 else 0)-(if col=p.v+k then 1 else 0)))-sm p.v (λk=>p.a r k*(wt p.m s (λi=>s.t i col) k-wt p.m s (λi=>s.t i col) (p.v+k))):=by
  rw[<-YR]
  exact Qd λk _=>by
   unfold dr rv;have e1:=Uw k col;have e2:=Uw (p.v+k) col;rw[e1,e2];grind
 rw[h7];by_cases e:col=2*p.v+r
 ·rw[if_pos e] at h6;grind
 ·rw[if_neg e] at h6;grind
def ray_goal(h:Inv p.m p.n p.A p.c2 s){col:Nat}(hc:col<p.la)(hn:s.c col<0):0<sm p.v λk=>p.g k*dr p s col k:=by
 have hcn:col<=p.n:=by unfold Lp.la Lp.n at *;omega
 have h1:=h.cost hcn;rw[c2_sum] at h1;have h2:=c2_eq (p:=p) col 1
 have h7:(sm p.v λk=>p.g k*dr p s col k)=sm p.v (λk=>p.g k*((if col=k then 1 else 0)-(if col=p.v+k then 1 else 0)))-sm p.v (λk=>p.g k*(wt p.m s (λi=>s.t i col) k-wt p.m s (λi=>s.t i col) (p.v+k))):=by
  rw[<-YR]
  exact Qd λk _=>by
   unfold dr rv;have e1:=Uw k col;have e2:=Uw (p.v+k) col;rw[e1,e2];grind
 rw[h7];grind
def Ua(p:Lp)(y:Nat->Rat):Prop:=(∀r,r<p.m->0<=y r)/\(∀k,k<p.v->sm p.m (λr=>y r*p.a r k)=0)/\sm p.m (λr=>y r*p.b r)<0
def K3(p:Lp)(x:Nat->Rat):Prop:=∀r,r<p.m->sm p.v (λk=>p.a r k*x k)<=p.b r
def IsOpt(p:Lp)(x y:Nat->Rat)(z:Rat):Prop:=K3 p x/\(∀r,r<p.m->0<=y r)/\(∀k,k<p.v->sm p.m (λr=>y r*p.a r k)=p.g k)/\sm p.m (λr=>y r*p.b r)=z/\sm p.v (λk=>p.g k*x k)=z
def IsUnb(p:Lp)(x d:Nat->Rat):Prop:=K3 p x/\(∀r,r<p.m->sm p.v (λk=>p.a r k*d k)<=0)/\0<sm p.v λk=>p.g k*d k
def first_inf{F:Nat}{x:St×Option Nat}(hx:runP p.m p.n p.n F (prc p.m p.c1 p.s0)=some x)(hn:x.1.c p.n<0):Ua p (λr=>x.1.c (2*p.v+r)):=by
 obtain⟨_,h2,h3,_⟩:=phase1 hx;obtain⟨d1,d2,d3⟩:=dual h2.i (λj h1 h2=>by unfold Lp.c1;rw[if_neg qo]);have z:∀j,j<p.la->p.c1 j=0:=λj h=>by unfold Lp.c1;rw[if_neg qo]
 have zn:p.c1 p.n=0:=by unfold Lp.c1;rw[if_neg qo]
 refine⟨λr hr=>h3 _ (by unfold Lp.n;omega),λk hk=>?_,?_⟩
 ·have e1:=d1 k hk;have e2:=d2 k hk;have e3:=h3 k (by unfold Lp.n;omega);have e4:=h3 (p.v+k) (by unfold Lp.n;omega);rw[z _ (by unfold Lp.la;omega)] at e1 e2;grind
 ·rw[zn] at d3;grind
def second{F G:Nat}{x y:St×Option Nat}(hx:runP p.m p.n p.n F (prc p.m p.c1 p.s0)=some x)(hn:¬x.1.c p.n<0)(hy:runP p.m p.n p.la G (prc p.m p.c2 (drP p.la x.1 p.m))=some y) :
  (y.2=none/\IsOpt p (xs p y.1) (λr=>y.1.c (2*p.v+r)) (sm p.v λk=>p.g k*xs p y.1 k))\/∃col,y.2=some col/\IsUnb p (xs p y.1) (dr p y.1 col):=by
 obtain⟨_,h2,_,h4⟩:=phase1 hx;have hl:p.la<=p.n:=by unfold Lp.la Lp.n;omega
 obtain⟨k1,k2⟩:=HK (e:=p.n) hl h2 (h4 hn) p.m (Nat.le_refl _);have hk:Ok p.m p.n p.la p.A p.c2 (prc p.m p.c2 (drP p.la x.1 p.m)):=k1.prc p.c2;obtain⟨hok,hem⟩:=run_ind (P:=λs=>Ok p.m p.n p.la p.A p.c2 s/\Emp p.m p.n p.la s p.m) (λs s' h hs=>⟨h.1.stp hl hs,emp_stp (Nat.le_refl _) h.1 hl h.2 hs⟩) G _ y ⟨hk,k2⟩ hy;have hpt:K3 p (xs p y.1):=λr hr=>primal hok (λi hi hb=>(hem i hi hb).1) hr;rcases Gx G _ y hy with ⟨g1,g2⟩|⟨col,g1,g2,g3,g4⟩
 ·refine .inl ⟨g1,hpt,λr hr=>g2 _ (by unfold Lp.la;omega),λk hk=>?_,?_,rfl⟩
  ·obtain⟨d1,d2,_⟩:=dual hok.i (λj h1 h2=>by unfold Lp.c2 Lp.la at *;rw[if_neg qo,if_neg qo]);have e1:=d1 k hk;have e2:=d2 k hk;have e3:=g2 k (by unfold Lp.la;omega);have e4:=g2 (p.v+k) (by unfold Lp.la;omega);have z1:p.c2 k= -p.g k:=by unfold Lp.c2;rw[if_pos hk]
   have z2:p.c2 (p.v+k)=p.g k:=by unfold Lp.c2;rw[if_neg qo,if_pos qo,show p.v+k-p.v=k by omega]
   rw[z1] at e1;rw[z2] at e2;grind
  ·obtain⟨_,_,d3⟩:=dual hok.i (λj h1 h2=>by unfold Lp.c2 Lp.la at *;rw[if_neg qo,if_neg qo]);have z:p.c2 p.n=0:=by unfold Lp.c2 Lp.n;rw[if_neg qo,if_neg qo]
   rw[z,value hok.i] at d3;grind
 ·exact .inr ⟨col,g1,hpt,λr hr=>ray_line hok.i g2 (λi hi hb=>(hem i hi hb).2 hi col g2) g4 hr,ray_goal hok.i g2 g3⟩
end
end X
end
section
namespace X
section
variable {p:Lp}
def sm_swap{y x:Nat->Rat}:(sm p.v λk=>(sm p.m λr=>y r*p.a r k)*x k)=sm p.m λr=>y r*sm p.v λk=>p.a r k*x k:=by
 rw[show(sm p.v λk=>(sm p.m λr=>y r*p.a r k)*x k)=sm p.v λk=>sm p.m λr=>y r*(p.a r k*x k) from Qd λk _=>by
  rw[<-Xw];exact Qd λr _=>by grind]
 rw[XB];exact Qd λr _=>Jt _ _
def pt_le{x y:Nat->Rat}{h:Nat->Rat}(hx:K3 p x)(hy:∀r,r<p.m->0<=y r)(hg:∀k,k<p.v->sm p.m (λr=>y r*p.a r k)=h k):sm p.v (λk=>h k*x k)<=sm p.m λr=>y r*p.b r:=by
 rw[show(sm p.v λk=>h k*x k)=sm p.v λk=>(sm p.m λr=>y r*p.a r k)*x k from Qd λk hk=>by rw[hg k hk],sm_swap];refine sm_le λr hr=>?_;have h1:=Rat.mul_nonneg (hy r hr) (show 0<=p.b r-sm p.v (λk=>p.a r k*x k) by have:=hx r hr;grind);grind
def inf_no{x y:Nat->Rat}(h:Ua p y):¬K3 p x:=λhx=>by
 have h1:=pt_le hx h.1 (h:=λ_=>0) h.2.1;rw[Ja (λ_ _=>by grind)] at h1;have:=h.2.2;grind
end
end X
end
section
namespace X
def del(c:Nat->Nat->Rat)(j:Nat):Nat->Nat->Rat:=λk=>if k<j then c k else c (k+1)
def rep(c:Nat->Nat->Rat)(i:Nat)(v:Nat->Rat):Nat->Nat->Rat:=λk=>if k=i then v else c k
def sgn(j:Nat):Rat:=if j%2=0 then 1 else -1
def dt:Nat->(Nat->Nat->Rat)->Rat
 |0,_=>1
 |m+1,c=>sm (m+1) λj=>sgn j*c j m*dt m (del c j)
section
variable {m i j k:Nat}{c d:Nat->Nat->Rat}{u v:Nat->Rat}
def dt_congr:∀{m:Nat} {c d:Nat->Nat->Rat},(∀j,j<m->∀r,r<m->c j r=d j r)->dt m c=dt m d
 |0,_,_,_=>rfl
 |m+1,c,d,h=>Qd λj hj=>by
  rw[h j hj m qo,dt_congr (m:=m) (c:=del c j) (d:=del d j) λk hk r hr=>by
   unfold del;split
   ·exact h k qo r qo
   ·exact h (k+1) qo r qo]
def Yc:del (rep c i u) i=del c i:=by
 funext k;unfold del rep
 by_cases h:k<i
 ·rw[if_pos h,if_pos h,if_neg qo]
 ·rw[if_neg h,if_neg h,if_neg qo]
def HQ(h:j≠i):del (rep c i u) j=rep (del c j) (if i<j then i else i-1) u:=by
 funext k;unfold del rep
 by_cases h1:k<j
 ·rw[if_pos h1];by_cases h2:k=i
  ·rw[if_pos h2,if_pos (by rw[if_pos qo];omega)]
  ·rw[if_neg h2,if_neg (by split<;>omega)];exact(if_pos h1).symm
 ·rw[if_neg h1];by_cases h2:k+1=i
  ·rw[if_pos h2,if_pos (by rw[if_neg qo];omega)]
  ·rw[if_neg h2,if_neg (by split<;>omega)];exact(if_neg h1).symm
def Kc(a b:Rat):∀{m:Nat} {c:Nat->Nat->Rat} {i:Nat},i<m->dt m (rep c i λr=>a*u r+b*v r)=a*dt m (rep c i u)+b*dt m (rep c i v)
 |0,_,_,h=>by omega
 |m+1,c,i,h=>by
  rw[dt,dt,dt,<-Jt,<-Jt,<-Vu];refine Qd λj hj=>?_;by_cases e:j=i
  ·subst e;rw[Yc,Yc,Yc];unfold rep;rw[if_pos rfl,if_pos rfl,if_pos rfl];grind
  ·rw[HQ e,HQ e,HQ e,Kc a b (m:=m) (by split<;>omega)];unfold rep;rw[if_neg e,if_neg e,if_neg e];grind
def U4:rep c i (c i)=c:=by
 funext k;unfold rep;split
 ·rename_i h;rw[h]
 ·rfl
def dt_zero(h:i<m):dt m (rep c i λ_=>0)=0:=by
 have:=Kc (u:=λ_=>0) (v:=λ_=>0) 0 0 (c:=c) h;simp only[Rat.zero_mul,Rat.add_zero] at this;exact this
def dt_sum(t:Nat->Rat)(w:Nat->Nat->Rat)(h:i<m):∀n,dt m (rep c i λr=>sm n λk=>t k*w k r)=sm n λk=>t k*dt m (rep c i (w k))
 |0=>dt_zero h
 |n+1=>by
  have:=Kc (u:=λr=>sm n λk=>t k*w k r) (v:=w n) 1 (t n) (c:=c) h;simp only[sm];rw[<-dt_sum t w h n];simp only[Rat.one_mul] at this;exact this
def sm_two{f:Nat->Rat}:∀{n:Nat},i+1<n->(∀k,k<n->k≠i->k≠i+1->f k=0)->sm n f=f i+f (i+1)
 |0,h,_=>by omega
 |n+1,h,h2=>by
  rw[sm];by_cases e:i+1=n
  ·subst e;rw[JQ (r:=i) qo λk hk hne=>h2 k qo hne qo]
  ·rw[sm_two (n:=n) qo λk hk=>h2 k qo,h2 n qo qo qo];grind
def sgn_succ(i:Nat):sgn (i+1)= -sgn i:=by
 unfold sgn;by_cases h:i%2=0
 ·rw[if_pos h,if_neg qo]
 ·rw[if_neg h,if_pos qo];grind
def HZ:∀{m:Nat} {c:Nat->Nat->Rat} {i:Nat},i+1<m->c i=c (i+1)->dt m c=0
 |0,_,_,h,_=>by omega
 |m+1,c,i,h,e=>by
  rw[dt,sm_two (i:=i) h λk hk h1 h2=>?_]
  ·have:del c i=del c (i+1):=by
    funext k;unfold del
    by_cases h1:k<i
    ·rw[if_pos h1,if_pos qo]
    ·rw[if_neg h1];by_cases h2:k=i
     ·subst h2;rw[if_pos qo,e]
     ·rw[if_neg qo]
   rw[this,<-e,sgn_succ];grind
  ·by_cases h3:k<i
   ·have:dt m (del c k)=0:=HZ (i:=i-1) qo (by
     unfold del;rw[if_neg qo,if_neg qo,show i-1+1=i by omega];exact e)
    rw[this];grind
   ·have:dt m (del c k)=0:=HZ (i:=i) qo (by
     unfold del;rw[if_pos qo,if_pos qo];exact e)
    rw[this];grind
def sw(c:Nat->Nat->Rat)(i:Nat):Nat->Nat->Rat:=rep (rep c i (c (i+1))) (i+1) (c i)
def dt_sw(h:i+1<m):dt m (sw c i)= -dt m c:=by
 have F:∀x y:Nat->Rat,dt m (rep (rep c i x) (i+1) y)=dt m (rep (rep c (i+1) y) i x):=λx y=>by
  congr 1;funext k;unfold rep
  by_cases h1:k=i
  ·rw[if_neg qo,if_pos h1,if_pos h1]
  ·rw[if_neg h1,if_neg h1]
 have Z:∀x:Nat->Rat,dt m (rep (rep c i x) (i+1) x)=0:=λx=>HZ h (by unfold rep;rw[if_neg qo,if_pos rfl,if_pos rfl]);have h0:=Z λr=>1*c i r+1*c (i+1) r;rw[Kc 1 1 h,F,F,Kc 1 1 qo,Kc 1 1 qo,<-F,<-F,<-F,<-F,Z,Z] at h0;have e:rep (rep c i (c i)) (i+1) (c (i+1))=c:=by rw[U4,U4]
 rw[e] at h0;unfold sw;grind
def dt_eq:∀(n:Nat) {c:Nat->Nat->Rat} {i j:Nat},j-i<=n->i<j->j<m->c i=c j->dt m c=0
 |0,_,_,_,h,h1,_,_=>by omega
 |n+1,c,i,j,h,h1,h2,e=>by
  by_cases h3:j=i+1
  ·subst h3;exact HZ h2 e
  ·have h4:dt m (sw c (j-1))=0:=dt_eq n (i:=i) (j:=j-1) qo qo qo (by
    unfold sw rep;rw[if_neg qo,if_neg qo,if_neg qo,if_pos rfl,show j-1+1=j by omega];exact e)
   rw[dt_sw qo] at h4;grind
def cramer(t:Nat->Rat)(h:i<m):dt m (rep c i λr=>sm m λk=>t k*c k r)=t i*dt m c:=by
 rw[dt_sum t c h,JQ h λk hk hne=>?_,U4]
 have:dt m (rep c i (c k))=0:=by
  by_cases h1:i<k
  ·exact dt_eq (k-i) (Nat.le_refl _) h1 hk (by unfold rep;rw[if_pos rfl,if_neg qo])
  ·exact dt_eq (i-k) (Nat.le_refl _) (by omega:k<i) h (by unfold rep;rw[if_neg qo,if_pos rfl])
 rw[this];grind
def pr:Nat->(Nat->Rat)->Rat
 |0,_=>1
 |m+1,f=>f m*pr m f
def dt_rows(f:Nat->Rat):∀{m:Nat} {c:Nat->Nat->Rat},dt m (λj r=>f r*c j r)=pr m f*dt m c
 |0,_=>by simp only[dt,pr];grind
 |m+1,c=>by
  rw[dt,dt,pr,<-Jt];refine Qd λj _=>?_
  have:del (λj r=>f r*c j r) j=λk r=>f r*del c j k r:=by
   funext k r;unfold del;split<;>rfl
  rw[this,dt_rows f];grind
def pr_ne{f:Nat->Rat}:∀{m:Nat},(∀r,r<m->f r≠0)->pr m f≠0
 |0,_=>by simp only[pr];decide
 |m+1,h=>by
  rw[pr];have h1:=pr_ne (m:=m) λr hr=>h r qo;have h2:=h m qo;intro hx;rcases Rat.mul_eq_zero.1 hx with hx|hx
  ·exact h2 hx
  ·exact h1 hx
def dt_one:∀{m:Nat} {c:Nat->Nat->Rat},(∀j,j<m->∀r,r<m->c j r=if j=r then 1 else 0)->dt m c≠0
 |0,_,_=>by simp only[dt];decide
 |m+1,c,h=>by
  rw[dt,JQ (r:=m) qo λj hj hne=>by rw[h j hj m qo,if_neg hne];grind];rw[h m qo m qo,if_pos rfl]
  have h1:dt m (del c m)≠0:=dt_one λj hj r hr=>by
   unfold del;rw[if_pos hj];exact h j qo r qo
  have h2:sgn m≠0:=by unfold sgn;split<;>decide
  intro hx;rcases Rat.mul_eq_zero.1 hx with hx|hx
  ·exact h2 (by grind)
  ·exact h1 hx
def bdt(K:Nat):Nat->Nat
 |0=>1
 |m+1=>(m+1)*(K*bdt K m)
def sm_int{B:Nat}{f:Nat->Rat}:∀{n:Nat},(∀i,i<n->∃z:Int,f i=z/\z.natAbs<=B)->∃z:Int,sm n f=z/\z.natAbs<=n*B
 |0,_=>⟨0,rfl,by simp⟩
 |n+1,h=>by
  obtain⟨z,h1,h2⟩:=sm_int (n:=n) λi hi=>h i qo;obtain⟨w,h3,h4⟩:=h n qo;refine⟨z+w,by rw[sm,h1,h3];simp,?_⟩;have:=Int.natAbs_add_le z w;rw[Nat.succ_mul];omega
def dt_int{K:Nat}:∀{m:Nat} {c:Nat->Nat->Rat},(∀j,j<m->∀r,r<m->∃z:Int,c j r=z/\z.natAbs<=K)->∃z:Int,dt m c=z/\z.natAbs<=bdt K m
 |0,_,_=>⟨1,rfl,Nat.le_refl _⟩
 |m+1,c,h=>by
  rw[dt];refine sm_int λj hj=>?_;obtain⟨z,h1,h2⟩:=h j hj m qo
  obtain⟨w,h3,h4⟩:=dt_int (K:=K) (m:=m) (c:=del c j) λk hk r hr=>by
   unfold del;split
   ·exact h k qo r qo
   ·exact h (k+1) qo r qo
  have h5:=Nat.mul_le_mul h2 h4;rw[h1,h3];unfold sgn;split
  ·exact⟨z*w,by simp,by rw[Int.natAbs_mul];exact h5⟩
  ·exact⟨-(z*w),by simp;grind,by rw[Int.natAbs_neg,Int.natAbs_mul];exact h5⟩
end
end X
end
end Go.Proofs.YtbnobghgnbockaaGreat
