/- Lemmas. Conditions: none. -/
import Derived.Test.YtbnobghgnbockaaGreatZk7
import Derived.Test.YtbnobghgnbockaaGreatZk15
set_option linter.all false
set_option maxHeartbeats 0
set_option maxRecDepth 100000
namespace Go.Proofs.YtbnobghgnbockaaGreat
section
open W Go.RowKit
attribute [local irreducible] WC WL WD YO LO Qq W.Fin Qk Qh Qj Row QZ Qv KnS Has W.One Qo QX
namespace Z
def knA{G:Prop}(h:G:=by first|((first|(focus(apply KnS.oN;exact meA;done))|(focus(apply KnS.oV;exact meA;done))|exact Go.Proofs.YtbnobghgnbockaaGreat.knA|(focus(apply KnS.ff;exact hmA;done))|(focus(apply KnS.oR;exact meA;done))|(focus(apply KnS.rf;exact hmA;omega;done))|(focus(apply KnS.pl;exact hmA;done)));done)|fail):G:=h
def hsA{G:Prop}(h:G:=by first|((first|exact Go.Proofs.YtbnobghgnbockaaGreat.hsA|(focus(apply W.Has.q;exact hmA;omega;done))|(focus(apply W.Has.qt;exact hmA;omega;omega;done))|(focus(apply W.Has.pbq;exact hmA;omega;done)));done)|fail):G:=h
def Jf{G:Prop}(h:G:=by first|((first|exact Go.Proofs.YtbnobghgnbockaaGreat.Jf|exact wq166);done)|fail):G:=h
def XA{G:Prop}(h:G:=by first|((first|exact Go.Proofs.YtbnobghgnbockaaGreat.XA|(apply YO.buildTb;exact rfl;exact rfl;exact rfl)|(apply YO.buildA1;exact rfl;exact rfl;exact knA)|(apply YO.buildA2;exact rfl;exact rfl;exact rfl;exact knA;exact knA)|(apply YO.buildA3;exact rfl;exact rfl;exact rfl;exact rfl;exact knA;exact knA));done)|fail):G:=h
def Zp{G:Prop}(h:G:=by first|((first|exact Go.Proofs.YtbnobghgnbockaaGreat.Zp|exact wq86);done)|fail):G:=h
def X7{G:Prop}(h:G:=by first|((first|exact Go.Proofs.YtbnobghgnbockaaGreat.X7|exact wq43);done)|fail):G:=h
def YU{G:Prop}(h:G:=by first|((exact wq8);done)|fail):G:=h
def go{G G':Prop}(h:G')(s:Bx G'->G:=by
 intro h
 (first|refine Go.Proofs.YtbnobghgnbockaaGreat.go ?_|(apply WL.Q4;rotate_left;exact rfl;(first|(apply LO.XE;exact rfl;exact rfl;exact t3A;exact seA;exact wq25)|(apply LO.U3;exact rfl;exact rfl;exact t4A;exact hmA;exact seA;omega)|(apply LO.Xu;exact rfl;exact rfl;exact t3A;exact wq5;exact seA;exact wq12;exact wq10)|(apply LO.J2;exact rfl;exact rfl;exact t3A;exact wq5;exact seA;exact wq12;exact wq10)|(apply LO.YY;exact rfl;exact rfl;exact seA;exact t4A;exact rfl;exact rfl;exact wq136)))|fail)
 exact Bx.h h):G:=s ⟨h⟩
def goD{G G':Prop}(h:G')(s:Bx G'->G:=by
 intro h
 (first|refine Go.Proofs.YtbnobghgnbockaaGreat.goD ?_|(apply WD.Q4;exact rfl;rotate_left;exact rfl;(first|(apply LO.XE;exact rfl;exact rfl;exact t3A;exact seA;exact wq25)|(apply LO.U3;exact rfl;exact rfl;exact t4A;exact hmA;exact seA;omega)|(apply LO.Xu;exact rfl;exact rfl;exact t3A;exact wq5;exact seA;exact wq12;exact wq10)|(apply LO.J2;exact rfl;exact rfl;exact t3A;exact wq5;exact seA;exact wq12;exact wq10)|(apply LO.YY;exact rfl;exact rfl;exact seA;exact t4A;exact rfl;exact rfl;exact wq136));constructor;exact ltA)|fail)
 exact Bx.h h):G:=s ⟨h⟩
def goV{G G':Prop}(h:G')(s:Bx G'->G:=by
 intro h
 (first|(apply WL.Ux;rotate_left;exact rfl;exact rfl;(apply LO.GS;exact rfl;exact rfl;(repeat(first|(with_reducible apply Jd.add)|(with_reducible exact Jd.one)|exact Jd.cast _));omega))|(apply WL.JW;rotate_left;exact rfl;exact rfl;(apply LO.bsR0))|(apply WL.JW;rotate_left;exact rfl;exact rfl;(apply LO.bsR1;exact rfl))|(apply WL.JW;rotate_left;exact rfl;exact rfl;(apply LO.bsV1;exact rfl;exact knA))|(apply WL.Jn;rotate_left;exact rfl;exact rfl;(apply LO.appR1;exact rfl;exact rfl;exact meA;exact hmA;(intro _;exact seA);omega))|(apply WL.Jn;rotate_left;exact rfl;exact rfl;(apply LO.appFf;exact rfl;exact rfl;exact hmA;(intro _;exact seA);omega))|(apply WL.Jn;rotate_left;exact rfl;exact rfl;(apply LO.appVV;exact rfl;exact rfl;exact meA;(apply One.sl;exact knA);(intro _;exact seA);omega))|(apply WL.Jn;rotate_left;exact rfl;exact rfl;(apply LO.appNN;exact rfl;exact rfl;exact meA;(intro _;exact seA);omega))|refine Go.Proofs.YtbnobghgnbockaaGreat.goV ?_|fail)
 exact Bx.h h):G:=s ⟨h⟩
def Q0{G G':Prop}(h:G')(s:Bx G'->G:=by
 intro h
 (first|(apply WD.Ux;exact rfl;rotate_left;exact rfl;exact rfl;(apply LO.GS;exact rfl;exact rfl;(repeat(first|(with_reducible apply Jd.add)|(with_reducible exact Jd.one)|exact Jd.cast _));omega);apply Qn;(intro _;exact ltA))|(apply WD.JW;exact rfl;rotate_left;exact rfl;exact rfl;(apply LO.bsR0);apply Qn;(intro _;exact ltA))|(apply WD.JW;exact rfl;rotate_left;exact rfl;exact rfl;(apply LO.bsR1;exact rfl);apply Qn;(intro _;exact ltA))|(apply WD.JW;exact rfl;rotate_left;exact rfl;exact rfl;(apply LO.bsV1;exact rfl;exact knA);apply Qn;(intro _;exact ltA))|(apply WD.Jn;exact rfl;rotate_left;exact rfl;exact rfl;(apply LO.appR1;exact rfl;exact rfl;exact meA;exact hmA;(intro _;exact seA);omega);apply Qn;(intro _;exact ltA))|(apply WD.Jn;exact rfl;rotate_left;exact rfl;exact rfl;(apply LO.appFf;exact rfl;exact rfl;exact hmA;(intro _;exact seA);omega);apply Qn;(intro _;exact ltA))|(apply WD.Jn;exact rfl;rotate_left;exact rfl;exact rfl;(apply LO.appVV;exact rfl;exact rfl;exact meA;(apply One.sl;exact knA);(intro _;exact seA);omega);apply Qn;(intro _;exact ltA))|(apply WD.Jn;exact rfl;rotate_left;exact rfl;exact rfl;(apply LO.appNN;exact rfl;exact rfl;exact meA;(intro _;exact seA);omega);apply Qn;(intro _;exact ltA))|refine Go.Proofs.YtbnobghgnbockaaGreat.Q0 ?_|fail)
 exact Bx.h h):G:=s ⟨h⟩
def KH{G G':Prop}(h:G')(s:Bx G'->G:=by
 intro h
 (first|((apply LO.GS;exact rfl;exact rfl;(repeat(first|(with_reducible apply Jd.add)|(with_reducible exact Jd.one)|exact Jd.cast _));omega);apply Qn;(intro _;exact ltA))|((apply LO.bsR0);apply Qn;(intro _;exact ltA))|((apply LO.bsR1;exact rfl);apply Qn;(intro _;exact ltA))|((apply LO.bsV1;exact rfl;exact knA);apply Qn;(intro _;exact ltA))|((apply LO.appR1;exact rfl;exact rfl;exact meA;exact hmA;(intro _;exact seA);omega);apply Qn;(intro _;exact ltA))|((apply LO.appFf;exact rfl;exact rfl;exact hmA;(intro _;exact seA);omega);apply Qn;(intro _;exact ltA))|((apply LO.appVV;exact rfl;exact rfl;exact meA;(apply One.sl;exact knA);(intro _;exact seA);omega);apply Qn;(intro _;exact ltA))|((apply LO.appNN;exact rfl;exact rfl;exact meA;(intro _;exact seA);omega);apply Qn;(intro _;exact ltA))|refine Go.Proofs.YtbnobghgnbockaaGreat.KH ?_|fail)
 exact Bx.h h):G:=s ⟨h⟩
def goLS{G G':Prop}(h:G')(s:Bx G'->G:=by
 intro h
 (first|((first|(apply LO.XE;exact rfl;exact rfl;exact t3A;exact seA;exact wq25)|(apply LO.U3;exact rfl;exact rfl;exact t4A;exact hmA;exact seA;omega)|(apply LO.Xu;exact rfl;exact rfl;exact t3A;exact wq5;exact seA;exact wq12;exact wq10)|(apply LO.J2;exact rfl;exact rfl;exact t3A;exact wq5;exact seA;exact wq12;exact wq10)|(apply LO.YY;exact rfl;exact rfl;exact seA;exact t4A;exact rfl;exact rfl;exact wq136));constructor;exact ltA))
 exact Bx.h h):G:=s ⟨h⟩
def Zt{G G':Prop}(h:G')(s:Bx G'->G:=by
 intro h
 (apply WD.yl;exact rfl;exact wq159;exact rfl;exact rfl)
 exact Bx.h h):G:=s ⟨h⟩
section
variable {P:nh}{n:Nat}{L rest:List Oper}{e:Env}{bx b0:nw}{F F0:nc}{Q:Env->nw->nc->Prop}{d i:Nat}{ty:nl}{pos:String}{af:Array Edge}{g:Option (Nat×Bool)}{hs:List Nat}{r:Plan}
 {f:np} {x:ni} {args:List ni} {ats:Array nl} {vs cs:ne} {F':nc} {u:nA} {el sz:Nat}
def WL.Y1(hf:FnB P f vs [] F' (IsV u))(hK:WL P n L rest ((d,u)::e) bx F Q)(hx:ev e x=some (.func (.func f) #[] #[]):=by exact rfl)(hv:Evs e args vs:=by repeat(first|exact Evs.nil|(apply Evs.cons;exact rfl)))(hF:QY bx F F':=by repeat(first|exact QY.nil|(apply QY.cons;exact wq15)))
  (hd:Nat.blt d n=true:=by exact rfl) (hg:gok L e g=some true:=by exact rfl):WL P n L (⟨some d,.call {callee:=.value x,args:=args.toArray,argTypes:=ats},ty,pos,af,g⟩::rest) e bx F Q:=
 WL.l hd hg (LO.UC hx hv hf hF hK)
def WL.callO(hf:FnB P f vs [] F' (IsO el sz cs))(hK:∀v,WL P n L rest ((d,v)::e) (Ow.slice v el sz cs::bx) F Q)(hx:ev e x=some (.func (.func f) #[] #[]):=by exact rfl)(hv:Evs e args vs:=by repeat(first|exact Evs.nil|(apply Evs.cons;exact rfl)))(hF:QY bx F F':=by repeat(first|exact QY.nil|(apply QY.cons;exact wq15)))
  (hd:Nat.blt d n=true:=by exact rfl) (hg:gok L e g=some true:=by exact rfl):WL P n L (⟨some d,.call {callee:=.value x,args:=args.toArray,argTypes:=ats},ty,pos,af,g⟩::rest) e bx F Q:=
 WL.l hd hg (LO.callRO hx hv hf hF hK)
def WD.Y1(hf:FnB P f vs [] F' (IsV u))(hK:WD P n L hs b0 F0 r ((d,u)::e) bx F Q)(hL:L[i]?=some ⟨some d,.call {callee:=.value x,args:=args.toArray,argTypes:=ats},ty,pos,af,g⟩:=by exact rfl)(hx:ev e x=some (.func (.func f) #[] #[]):=by exact rfl)(hv:Evs e args vs:=by repeat(first|exact Evs.nil|(apply Evs.cons;exact rfl)))(hF:QY bx F F':=by repeat(first|exact QY.nil|(apply QY.cons;exact wq15)))
  (hd:Nat.blt d n=true:=by exact rfl) (hg:gok L e g=some true:=by exact rfl) (lt:Q3 L hs i=true\/(b0.Sublist bx/\∀f∈F0,f∈F):=by exact ltA):WD P n L hs b0 F0 (.loud i r) e bx F Q:=
 WD.l hL hd hg (LO.UC hx hv hf hF ⟨lt,hK⟩)
end
end Z
end
namespace X
def pige:∀(n:Nat) (p:Nat->Nat),(∀i,i<=n->p i<n)->∃i j,i<j/\j<=n/\p i=p j:=by
 intro n;induction n with
 |zero=>intro p h;have:=h 0 (ai _);omega
 |succ n ih=>
  intro p h;by_cases c:∃i,i<=n/\p i=p (n+1)
  .obtain⟨i,h1,h2⟩:=c;exact⟨i,n+1,by omega,ai _,h2⟩
  .have hc:∀i,i<=n->p i≠p (n+1):=λi h1 h2=>c ⟨i,h1,h2⟩
   obtain⟨i,j,h1,h2,h3⟩:=ih (λi=>if p i=n then p (n+1) else p i) (λi hi=>by
    have h4:=h i qo;have h5:=h (n+1) qo;have h6:=hc i hi;split<;>omega)
   refine⟨i,j,h1,by omega,?_⟩;have h6:=hc i qo;have h7:=hc j qo;split at h3<;>split at h3<;>omega
def cod(n:Nat)(b:Nat->Nat):Nat->Nat
 |0=>0
 |i+1=>cod n b i*n+b i
def cod_lt{n:Nat}{b:Nat->Nat}:∀m,(∀i,i<m->b i<n)->cod n b m<n^m
 |0,_=>by simp[cod]
 |m+1,h=>by
  have h1:=cod_lt m (λi hi=>h i qo);have h2:=h m qo;have h3:(cod n b m+1)*n<=n^m*n:=aM _ h1;rw[Nat.add_mul] at h3;rw[cod,cP];omega
def cod_inj{n:Nat}{b b':Nat->Nat}:∀m,(∀i,i<m->b i<n)->(∀i,i<m->b' i<n)->cod n b m=cod n b' m->∀i,i<m->b i=b' i
 |0,_,_,_=>λi hi=>by omega
 |m+1,h,h',he=>λi hi=>by
  have h1:=h m qo;have h2:=h' m qo;rw[cod,cod] at he;have e1:(cod n b m*n+b m)%n=b m:=by rw[aY,cF,cS h1]
  have e2:(cod n b' m*n+b' m)%n=b' m:=by rw[aY,cF,cS h2]
  have e3:b m=b' m:=by rw[<-e1,<-e2,he]
  by_cases e:i=m
  .rw[e];exact e3
  .have e4:cod n b m*n=cod n b' m*n:=qo;exact cod_inj m (λi hi=>h i qo) (λi hi=>h' i qo) (bJ qo e4) i qo
def max_of{P:Nat->Prop}:∀n,(∃v,P v)->(∀v,P v->v<n)->∃t,P t/\∀v,P v->v<=t
 |0,⟨v,hv⟩,h=>by have:=h v hv;omega
 |n+1,hx,h=>by
  by_cases c:P n
  .exact⟨n,c,λv hv=>by have:=h v hv;omega⟩
  .exact max_of n hx λv hv=>by
    have:=h v hv;have:v≠n:=λe=>c (e ▸ hv);omega
section
variable {m n e:Nat}{A:Nat->nf}{c0:nf}
def Stp.inv{s s':St}(h:Stp m n e s s'):∃r k,s'=pv s r k/\k<e/\s.c k<0/\(∀j,j<k->0<=s.c j)/\r<m/\0<s.t r k/\∀i,i<m->0<s.t i k->s.t r n/s.t r k<=s.t i n/s.t i k/\(s.t i n/s.t i k=s.t r n/s.t r k->s.b r<=s.b i):=by
 obtain⟨r,k,h1,h2⟩:=h;rcases Ys s e with ⟨g,_⟩|⟨k',g1,g2,g3,g4⟩
 .rw[h1] at g;cases g
 obtain rfl:k=k':=by rw[h1] at g1;cases g1;rfl
 rcases Uz n s k m with ⟨g,_⟩|⟨r',f1,f2,f3,f4⟩
 .rw[h2] at g;cases g
 obtain rfl:r=r':=by rw[h2] at f1;cases f1;rfl
 exact⟨r,k,rfl,g2,g3,g4,f2,f3,f4⟩
def Inv.inj{s:St}(h:Inv m n A c0 s){i k:Nat}(hi:i<m)(hk:k<m)(he:s.b i=s.b k):i=k:=by
 have h1:=h.u i hi k hk;have h2:=h.u i hi i hi;rw[ah rfl,he,h1] at h2;by_cases e:i=k
 .exact e
 .rw[ae e] at h2;exact absurd h2 qd
def Inv.non{s:St}(h:Inv m n A c0 s){k:Nat}(hk:s.c k<0):¬Bas m s k:=by
 rintro⟨r,hr,rfl⟩;have:=h.z r hr;grind
def no_forever{S:Nat->St}(h0:Ok m n e A c0 (S 0))(he:e<=n)(hS:∀i,Stp m n e (S i) (S (i+1))):False:=by
 have hok:∀i,Ok m n e A c0 (S i):=λi=>by
  induction i with
  |zero=>exact h0
  |succ i ih=>exact ih.stp he (hS i)
 obtain⟨R,hR⟩:=Classical.axiomOfChoice (λp=>(hS p).inv);obtain⟨K,hK⟩:=Classical.axiomOfChoice hR;clear hR;obtain⟨i,j,hij,_,hcod⟩:=pige (n^m) (λp=>cod n (S p).b m) (λp _=>cod_lt m (hok p).i.bd);have hb:∀r,r<m->(S i).b r=(S j).b r:=cod_inj m (hok i).i.bd (hok j).i.bd hcod;obtain⟨_,huc⟩:=(hok i).i.uniq (hok j).i hb;have hcn:=huc n (ai _)
 have hstep:∀p,(S (p+1)).c n=(S p).c n-(S p).c (K p)*((S p).t (R p) n/(S p).t (R p) (K p)):=λp=>by
  rw[(hK p).1];rfl
 have hq:∀p,0<=(S p).t (R p) n/(S p).t (R p) (K p):=λp=>Ue ((hok p).f _ (hK p).2.2.2.2.1) (hK p).2.2.2.2.2.1
 have hmon1:∀p,(S p).c n<=(S (p+1)).c n:=λp=>by
  have h1:=bD (show 0<=-(S p).c (K p) by have:=(hK p).2.2.1;grind) (hq p);rw[hstep p];grind
 have hmon:∀d p,(S p).c n<=(S (p+d)).c n:=λd=>by
  induction d with
  |zero=>intro p;exact eP
  |succ d ih=>intro p;have h1:=ih p;have h2:=hmon1 (p+d);rw[show p+(d+1)=p+d+1 by omega];grind
 have hz:∀p,i<=p->p<j->(S p).t (R p) n=0:=λp h1 h2=>by
  have g1:=hmon (p-i) i;have g2:=hmon (j-(p+1)) (p+1);rw[show i+(p-i)=p by omega] at g1;rw[show p+1+(j-(p+1))=j by omega] at g2;have g3:=hmon1 p;have g4:=hstep p;have g5:(S p).c (K p)*((S p).t (R p) n/(S p).t (R p) (K p))=0:=by grind
  have g6:=(hK p).2.2.1;have g7:=(hK p).2.2.2.2.2.1
  have g8:(S p).t (R p) n/(S p).t (R p) (K p)=0:=by
   rcases Rat.mul_eq_zero.1 g5 with g|g
   .grind
   .exact g
  have g9:(S p).t (R p) n=(S p).t (R p) n/(S p).t (R p) (K p)*(S p).t (R p) (K p):=(Kc (by grind)).symm;rw[g9,g8];grind
 have hval:∀p v,i<=p->p<j->(sm m λr=>if(S (p+1)).b r=v then(S (p+1)).t r n else 0)=sm m λr=>if(S p).b r=v then(S p).t r n else 0:=λp v h1 h2=>by
  have g1:=hz p h1 h2;rw[(hK p).1];refine Qb λr hr=>?_;show(if(if r=R p then K p else(S p).b r)=v then(if r=R p then(S p).t (R p) n/(S p).t (R p) (K p) else(S p).t r n-(S p).t r (K p)*((S p).t (R p) n/(S p).t (R p) (K p))) else 0)=_;by_cases e:r=R p
  .subst e;rw[ah rfl,ah rfl,g1];split<;>split<;>grind
  .rw[ae e,ae e,g1];split<;>grind
 have hval2:∀d p v,i<=p->p+d<=j->(sm m λr=>if(S (p+d)).b r=v then(S (p+d)).t r n else 0)=sm m λr=>if(S p).b r=v then(S p).t r n else 0:=λd=>by
  induction d with
  |zero=>intro p v _ _;rfl
  |succ d ih=>intro p v h1 h2;rw[show p+(d+1)=p+d+1 by omega,hval (p+d) v qo qo,ih p v h1 qo]
 have hval3:∀p q v,i<=p->p<=j->i<=q->q<=j->(sm m λr=>if(S p).b r=v then(S p).t r n else 0)=sm m λr=>if(S q).b r=v then(S q).t r n else 0:=λp q v h1 h2 h3 h4=>by
  have g1:=hval2 (p-i) i v (ai _) qo;have g2:=hval2 (q-i) i v (ai _) qo;rw[show i+(p-i)=p by omega] at g1;rw[show i+(q-i)=q by omega] at g2;rw[g1,g2]
 have hent:∀d a v,¬Bas m (S a) v->Bas m (S (a+d)) v->∃p,a<=p/\p<a+d/\K p=v:=λd=>by
  induction d with
  |zero=>intro a v h1 h2;exact absurd h2 h1
  |succ d ih=>
   intro a v h1 h2;by_cases c:Bas m (S (a+d)) v
   .obtain⟨p,p1,p2,p3⟩:=ih a v h1 c;exact⟨p,p1,by omega,p3⟩
   .refine⟨a+d,by omega,by omega,?_⟩;rw[show a+(d+1)=a+d+1 by omega,(hK (a+d)).1] at h2;obtain⟨r,r1,r2⟩:=h2;have r2':(if r=R (a+d) then K (a+d) else(S (a+d)).b r)=v:=r2;by_cases e:r=R (a+d)
    .rw[ah e] at r2';exact r2'
    .rw[ae e] at r2';exact absurd ⟨r,r1,r2'⟩ c
 have hlev:∀d a v,Bas m (S a) v->¬Bas m (S (a+d)) v->∃p,a<=p/\p<a+d/\(S p).b (R p)=v:=λd=>by
  induction d with
  |zero=>intro a v h1 h2;exact absurd h1 h2
  |succ d ih=>
   intro a v h1 h2;by_cases c:Bas m (S (a+d)) v
   .refine⟨a+d,by omega,by omega,?_⟩;obtain⟨r,r1,r2⟩:=c;by_cases e:r=R (a+d)
    .rw[<-e];exact r2
    .refine absurd ⟨r,r1,?_⟩ h2;rw[show a+(d+1)=a+d+1 by omega,(hK (a+d)).1];show(if r=R (a+d) then K (a+d) else(S (a+d)).b r)=v;rw[ae e];exact r2
   .obtain⟨p,p1,p2,p3⟩:=ih a v h1 c;exact⟨p,p1,by omega,p3⟩
 have hsame:∀v,Bas m (S i) v↔Bas m (S j) v:=λv=>by
  constructor
  .rintro⟨r,r1,r2⟩;exact⟨r,r1,by rw[<-hb r r1];exact r2⟩
  .rintro⟨r,r1,r2⟩;exact⟨r,r1,by rw[hb r r1];exact r2⟩
 have hfick:∀a b v,i<=a->a<=j->i<=b->b<=j->Bas m (S a) v->¬Bas m (S b) v->∃p,i<=p/\p<j/\K p=v:=λa b v h1 h2 h3 h4 h5 h6=>by
  by_cases c:b<a
  .obtain⟨p,p1,p2,p3⟩:=hent (a-b) b v h6 (by rw[show b+(a-b)=a by omega];exact h5);exact⟨p,by omega,by omega,p3⟩
  .by_cases d:Bas m (S i) v
   .obtain⟨p,p1,p2,p3⟩:=hent (j-b) b v h6 (by rw[show b+(j-b)=j by omega];exact(hsame v).1 d);exact⟨p,by omega,by omega,p3⟩
   .obtain⟨p,p1,p2,p3⟩:=hent (a-i) i v d (by rw[show i+(a-i)=a by omega];exact h5);exact⟨p,by omega,by omega,p3⟩
 obtain⟨t,⟨p1,a1,a2,rfl⟩,htm⟩:=max_of (P:=λv=>∃p,i<=p/\p<j/\K p=v) n ⟨_,i,ai _,hij,rfl⟩ (λv ⟨p,_,_,h⟩=>by have:=(hK p).2.1;omega);have hn1:¬Bas m (S p1) (K p1):=(hok p1).i.non (hK p1).2.2.1
 have hy1:Bas m (S (p1+1)) (K p1):=by
  refine⟨R p1,(hK p1).2.2.2.2.1,?_⟩;rw[(hK p1).1];exact ah rfl
 obtain⟨p2,b1,b2,b3⟩:∃p,i<=p/\p<j/\(S p).b (R p)=K p1:=by
  by_cases d:Bas m (S i) (K p1)
  .obtain⟨p,q1,q2,q3⟩:=hlev (p1-i) i _ d (by rw[show i+(p1-i)=p1 by omega];exact hn1);exact⟨p,by omega,by omega,q3⟩
  .obtain⟨p,q1,q2,q3⟩:=hlev (j-(p1+1)) (p1+1) _ hy1 (by rw[show p1+1+(j-(p1+1))=j by omega];exact λh=>d ((hsame _).2 h));exact⟨p,by omega,by omega,q3⟩
 obtain⟨_,k2,k3,k4,k5,k6,k7⟩:=hK p2;obtain⟨_,l2,l3,l4,_⟩:=hK p1
 have hlt:K p2<K p1:=by
  have h1:=htm (K p2) ⟨p2,b1,b2,rfl⟩;have h2:K p2≠K p1:=λh=>(hok p2).i.non k3 ⟨R p2,k5,by rw[b3,h]⟩;omega
 have hcr:=(hok p2).i.JZ (hok p1).i (j:=K p2) qo;have hpos:=l4 _ hlt
 have hex:∃r,r<m/\0<(S p1).c ((S p2).b r)*(S p2).t r (K p2):=aD λhno=>by
  have:(sm m λr=>(S p1).c ((S p2).b r)*(S p2).t r (K p2))<=sm m λ_=>0:=sm_le λr hr=>by
   have h1:¬0<(S p1).c ((S p2).b r)*(S p2).t r (K p2):=λh=>hno ⟨r,hr,h⟩;grind
  rw[JP (λ_ _=>rfl)] at this;grind
 obtain⟨r,r1,r2⟩:=hex
 have hne:r≠R p2:=λh=>by
  subst h;rw[b3] at r2;have:=dH (show 0 < -(S p1).c (K p1) by grind) k6;grind
 have hnz:(S p1).c ((S p2).b r)≠0:=λh=>by rw[h] at r2;grind
 have hnb:¬Bas m (S p1) ((S p2).b r):=by
  rintro⟨x,x1,x2⟩;exact hnz (by rw[<-x2];exact(hok p1).i.z x x1)
 have hby:Bas m (S p2) ((S p2).b r):=⟨r,r1,rfl⟩
 have hvt:=htm _ (hfick p2 p1 _ b1 qo a1 qo hby hnb);have hvt2:(S p2).b r≠K p1:=λh=>hne ((hok p2).i.inj r1 k5 (by rw[h,b3]));have hcp:=l4 ((S p2).b r) qo
 have htp:0<(S p2).t r (K p2):=by
  refine aD λh=>?_;have:=bD hcp (show 0<=-(S p2).t r (K p2) by grind);grind
 have hv0:(S p2).t r n=0:=by
  have h1:=hval3 p2 p1 ((S p2).b r) b1 qo a1 qo;rw[JP (f:=λx=>if(S p1).b x=(S p2).b r then(S p1).t x n else 0) (λx hx=>ae λh=>hnb ⟨x,hx,h⟩)] at h1;rw[J8 r1 (λx hx hxr=>ae λh=>hxr ((hok p2).i.inj hx r1 h)),ah rfl] at h1;exact h1
 have hq0:=hz p2 b1 b2;have:=(k7 r r1 htp).2 (by rw[hv0,hq0];grind);rw[b3] at this;omega
end
end X
namespace X
section
variable {m n e:Nat}{A:Nat->nf}{c0:nf}{s:St}
def prc(m:Nat)(c1:nf)(s:St):St:={s with c:=λj=>c1 j-sm m λi=>c1 (s.b i)*s.t i j}
def Inv.prc(h:Inv m n A c0 s)(c1:nf):Inv m n A c1 (prc m c1 s):=by
 obtain⟨M,hM⟩:=h.l;refine⟨h.bd,h.u,h.l,h.r,⟨λr=>sm m λi=>c1 (s.b i)*M i r,λj hj=>?_⟩,λi hi=>?_⟩
 .show c1 j-(sm m λi=>c1 (s.b i)*s.t i j)=_
  congr 1
  rw[show(sm m λi=>c1 (s.b i)*s.t i j)=sm m λi=>sm m λr=>(c1 (s.b i)*M i r)*A r j from Qb λi hi=>by
   rw[hM i hi j hj,<-J7];exact Qb λr _=>by grind]
  rw[Yc];exact Qb λr _=>by rw[XD]
 .show c1 (s.b i)-(sm m λk=>c1 (s.b k)*s.t k (s.b i))=0;rw[J8 hi (λk hk hki=>by rw[h.u k hk i hi,ae hki];grind),h.u i hi i hi,ah rfl];grind
def runP(m n e:Nat):Nat->St->Option (St×Option Nat)
 |0,_=>none
 |F+1,s=>match ent s e with
  |none=>some (s,none)
  |some k=>match lev n s k m with
   |none=>some (s,some k)
   |some r=>runP m n e F (pv s r k)
def stp(m n e:Nat)(s:St):St:=match ent s e with
 |none=>s
 |some k=>match lev n s k m with
  |none=>s
  |some r=>pv s r k
def its(m n e:Nat)(s:St):Nat->St
 |0=>s
 |i+1=>stp m n e (its m n e s i)
def Dq(s:St):∀i,its m n e s (i+1)=its m n e (stp m n e s) i
 |0=>rfl
 |i+1=>by
  show stp m n e (its m n e s (i+1))=stp m n e (its m n e (stp m n e s) i);rw[Dq s i]
def run_none:∀(F:Nat) (s:St),runP m n e F s=none->∀i,i<F->Stp m n e (its m n e s i) (its m n e s (i+1)):=by
 intro F;induction F with
 |zero=>intro s _ i hi;omega
 |succ F ih=>
  intro s h i hi;unfold runP at h;split at h
  .cases h
  .rename_i k h1
   split at h
   .cases h
   .rename_i r h2
    have hs:stp m n e s=pv s r k:=by unfold stp;rw[h1];simp only;rw[h2]
    cases i with
    |zero=>show Stp m n e s (stp m n e s);rw[hs];exact .mk r k h1 h2
    |succ i=>
     rw[Dq,Dq,hs];exact ih _ h i qo
def Ub(h:Ok m n e A c0 s)(he:e<=n):∃F x,runP m n e F s=some x:=aD λhno=>by
 refine no_forever (S:=its m n e s) h he λi=>?_;refine run_none (i+1) s ?_ i qo;cases hr:runP m n e (i+1) s with
 |none=>rfl
 |some x=>exact absurd ⟨_,_,hr⟩ hno
def run_ind{P:St->Prop}(hp:∀s s',P s->Stp m n e s s'->P s'):∀(F:Nat) (s:St) (x:St×Option Nat),P s->runP m n e F s=some x->P x.1:=by
 intro F;induction F with
 |zero=>intro s x _ h;cases h
 |succ F ih=>
  intro s x h1 h;unfold runP at h;split at h
  .cases h;exact h1
  .rename_i k g1
   split at h
   .cases h;exact h1
   .rename_i r g2;exact ih _ x (hp _ _ h1 (.mk r k g1 g2)) h
def DJ:∀(F:Nat) (s:St) (x:St×Option Nat),runP m n e F s=some x->(x.2=none/\∀k,k<e->0<=x.1.c k)\/∃k,x.2=some k/\k<e/\x.1.c k<0/\∀i,i<m->x.1.t i k<=0:=by
 intro F;induction F with
 |zero=>intro s x h;cases h
 |succ F ih=>
  intro s x h;unfold runP at h;split at h
  .rename_i g
   cases h;rcases Ys s e with ⟨_,g2⟩|⟨k,g2,_⟩
   .exact .inl ⟨rfl,g2⟩
   .rw[g] at g2;cases g2
  .rename_i k g1
   split at h
   .rename_i g2
    cases h;rcases Ys s e with ⟨g,_⟩|⟨k',g,g3,g4,_⟩
    .rw[g1] at g;cases g
    obtain rfl:k=k':=by rw[g1] at g;cases g;rfl
    rcases Uz n s k m with ⟨_,f2⟩|⟨r,f1,_⟩
    .exact .inr ⟨k,rfl,g3,g4,f2⟩
    .rw[g2] at f1;cases f1
   .rename_i r g2;exact ih _ x h
def run_ok(h:Ok m n e A c0 s)(he:e<=n){F:Nat}{x:St×Option Nat}(hx:runP m n e F s=some x):Ok m n e A c0 x.1:=run_ind (λ_ _ h1 h2=>Ok.stp h1 he h2) F s x h hx
def drS(last:Nat)(s:St)(i:Nat):St:=if s.b i<last then s else match fstT (λk=>decide (s.t i k≠0)) last 0 with
 |none=>s
 |some k=>pv s i k
def drP(last:Nat)(s:St):Nat->St
 |0=>s
 |i+1=>drS last (drP last s i) i
def Emp(m n last:Nat)(s:St)(q:Nat):Prop:=∀i,i<m->last<=s.b i->s.t i n=0/\(i<q->∀k,k<last->s.t i k=0)
def emp_step{last q:Nat}(hl:last<=n)(h:Ok m n e A c0 s)(hq:q<m)(he:Emp m n last s q):Ok m n e A c0 (drS last s q)/\Emp m n last (drS last s q) (q+1):=by
 unfold drS;by_cases c:s.b q<last
 .rw[ah c];refine⟨h,λi hi hb=>⟨(he i hi hb).1,λhiq=>?_⟩⟩;by_cases e1:i=q
  .subst e1;omega
  .exact(he i hi hb).2 qo
 .rw[ae c];rcases XR (λk=>decide (s.t q k≠0)) last 0 with ⟨h1,h2⟩|⟨k,h1,_,h3,h4,_⟩
  .rw[h1];refine⟨h,λi hi hb=>⟨(he i hi hb).1,λhiq k hk=>?_⟩⟩;by_cases e1:i=q
   .subst e1;have:=ap (h2 k qo qo);exact aD λh=>this h
   .exact(he i hi hb).2 qo k hk
  .rw[h1];have hk:=ao h4;have hq0:=(he q hq qo).1
   have hn:∀i,(pv s q k).t i n=s.t i n:=λi=>by
    show(if i=q then s.t q n/s.t q k else s.t i n-s.t i k*(s.t q n/s.t q k))=_;by_cases e1:i=q
    .rw[ah e1,e1,hq0];grind
    .rw[ae e1,hq0];grind
   refine⟨⟨h.i.pv hq qo hk,λi hi=>by rw[hn];exact h.f i hi⟩,λi hi hb=>?_⟩;have hb':last<=(if i=q then k else s.b i):=hb;have e1:i≠q:=λe1=>by rw[ah e1] at hb';omega
   rw[ae e1] at hb';refine⟨by rw[hn];exact(he i hi hb').1,λhiq j hj=>?_⟩;have g:=(he i hi hb').2 qo;show(if i=q then s.t q j/s.t q k else s.t i j-s.t i k*(s.t q j/s.t q k))=0;rw[ae e1,g j hj,g k qo];grind
def FB{last:Nat}(hl:last<=n)(h:Ok m n e A c0 s)(he:Emp m n last s 0):∀q,q<=m->Ok m n e A c0 (drP last s q)/\Emp m n last (drP last s q) q
 |0,_=>⟨h,he⟩
 |q+1,hq=>by
  obtain⟨h1,h2⟩:=FB hl h he q qo;exact emp_step hl h1 qo h2
def emp_stp{last:Nat}{s':St}(he:e<=last)(h:Ok m n e A c0 s)(hn:e<=n)(hm:Emp m n last s m)(hs:Stp m n e s s'):Emp m n last s' m:=by
 obtain⟨r,k,rfl,g2,g3,g4,f2,f3,f4⟩:=hs.inv
 have hr:s.b r<last:=aD λc=>by
  have:=(hm r f2 qo).2 f2 k qo;grind
 intro i hi hb;have hb':last<=(if i=r then k else s.b i):=hb;have e1:i≠r:=λe1=>by rw[ah e1] at hb';omega
 rw[ae e1] at hb';have g:=(hm i hi hb').2 hi;have g0:=(hm i hi hb').1;refine⟨?_,λ_ j hj=>?_⟩
 .show(if i=r then s.t r n/s.t r k else s.t i n-s.t i k*(s.t r n/s.t r k))=0;rw[ae e1,g0,g k qo];grind
 .show(if i=r then s.t r j/s.t r k else s.t i j-s.t i k*(s.t r j/s.t r k))=0;rw[ae e1,g j hj,g k qo];grind
end
end X
namespace X
structure Lp where
 v:Nat
 m:Nat
 a:Nat->nf
 b:nf
 g:nf
def Lp.sg(p:Lp)(r:Nat):Rat:=if p.b r<0 then -1 else 1
def Lp.la(p:Lp):Nat:=2*p.v+p.m
def Lp.n(p:Lp):Nat:=2*p.v+2*p.m
def Lp.A(p:Lp)(r j:Nat):Rat:=
 if j<p.v then p.sg r*p.a r j else if j<2*p.v then -(p.sg r*p.a r (j-p.v)) else if j<p.la then(if j=2*p.v+r then p.sg r else 0)
 else if j<p.n then(if j=p.la+r/\p.b r<0 then 1 else 0) else p.sg r*p.b r
def Lp.s0(p:Lp):St where
 t:=p.A
 c _:=0
 b i:=if p.b i<0 then p.la+i else 2*p.v+i
section
variable {p:Lp}
def sg_sq(r:Nat):p.sg r*p.sg r=1:=by unfold Lp.sg;split<;>grind
def A_art{r i:Nat}(hi:i<p.m):p.A r (p.s0.b i)=if r=i then 1 else 0:=by
 show p.A r (if p.b i<0 then p.la+i else 2*p.v+i)=_;unfold Lp.A Lp.la Lp.n;by_cases c:p.b i<0
 .rw[ah c,ae qo,ae qo,ae qo,ah qo];by_cases e:r=i
  .subst e;rw[ah ⟨rfl,c⟩,ah rfl]
  .rw[ae qo,ae e]
 .rw[ae c,ae qo,ae qo,ah qo];by_cases e:r=i
  .subst e;rw[ah rfl,ah rfl];unfold Lp.sg;rw[ae c]
  .rw[ae qo,ae e]
def inv0:Inv p.m p.n p.A (λ_=>0) p.s0:=by
 refine⟨λi hi=>?_,λi hi k hk=>?_,⟨λi r=>if i=r then 1 else 0,λi hi j hj=>?_⟩,λr hr j hj=>?_,⟨λ_=>0,λj hj=>?_⟩,λ_ _=>rfl⟩
 .show(if p.b i<0 then p.la+i else 2*p.v+i)<p.n;unfold Lp.la Lp.n;split<;>omega
 .exact A_art hk
 .show p.A i j=sm p.m λr=>(if i=r then(1:Rat) else 0)*p.A r j;rw[J8 hi (λr _ hr=>by rw[ae (λe=>hr e.symm)];grind),ah rfl];grind
 .rw[J8 hr (λi hi hir=>by rw[A_art hi,ae (λe=>hir e.symm)];grind),A_art hr,ah rfl];show _=1*p.A r j;grind
 .rw[JP (λ_ _=>by grind)];show(0:Rat)=0-0;grind
def A_n(r:Nat):p.A r p.n=p.sg r*p.b r:=by
 unfold Lp.A Lp.la Lp.n;rw[ae qo,ae qo,ae qo,ae qo]
def ok0(e:Nat):Ok p.m p.n e p.A (λ_=>0) p.s0:=⟨inv0,λi _=>by
 show 0<=p.A i p.n;rw[A_n];unfold Lp.sg;split<;>grind⟩
def Ok.prc{m n e e':Nat}{A:Nat->nf}{c0:nf}{s:St}(h:Ok m n e A c0 s)(c1:nf):Ok m n e' A c1 (prc m c1 s):=⟨h.i.prc c1,h.f⟩
def Lp.c1(p:Lp)(j:Nat):Rat:=if p.la<=j/\j<p.n then 1 else 0
def Lp.c2(p:Lp)(j:Nat):Rat:=if j<p.v then -p.g j else if j<2*p.v then p.g (j-p.v) else 0
def sm_null{n:Nat}{f:nf}:(∀i,i<n->0<=f i)->sm n f<=0->∀i,i<n->f i=0:=λh h2 i hi=>by
 rw[H3 hi] at h2
 have h3:0<=sm n (λk=>if k=i then 0 else f k):=U1 λk hk=>by
  by_cases e:k=i
  .rw[ah e];exact eP
  .rw[ae e];exact h k hk
 have:=h i hi;grind
def phase1{F:Nat}{x:St×Option Nat}(hx:runP p.m p.n p.n F (prc p.m p.c1 p.s0)=some x):x.2=none/\Ok p.m p.n p.n p.A p.c1 x.1/\(∀k,k<p.n->0<=x.1.c k)/\(¬x.1.c p.n<0->Emp p.m p.n p.la x.1 0):=by
 have hok:=run_ok ((ok0 (p:=p) p.n).prc (e':=p.n) p.c1) (ai _) hx;have hc1:∀j,0<=p.c1 j:=λj=>by unfold Lp.c1;split<;>decide
 have hend:x.2=none/\∀k,k<p.n->0<=x.1.c k:=by
  rcases DJ F _ x hx with h|⟨k,h1,h2,h3,h4⟩
  .exact h
  .have h5:=hok.i.cost (j:=k) qo
   have h6:sm p.m (λi=>p.c1 (x.1.b i)*x.1.t i k)<=sm p.m λ_=>0:=sm_le λi hi=>by
    have:=bD (hc1 (x.1.b i)) (show 0<=-x.1.t i k by have:=h4 i hi;grind);grind
   rw[JP (λ_ _=>rfl)] at h6;have:=hc1 k;grind
 refine⟨hend.1,hok,hend.2,λhn i hi hb=>⟨?_,λh=>by omega⟩⟩;have h5:=hok.i.cost (j:=p.n) (ai _);have h7:p.c1 p.n=0:=by unfold Lp.c1;rw[ae qo]
 have h6:=sm_null (n:=p.m) (f:=λi=>p.c1 (x.1.b i)*x.1.t i p.n) (λi hi=>bD (hc1 _) (hok.f i hi)) (by grind) i hi;have h8:p.c1 (x.1.b i)=1:=by unfold Lp.c1;rw[ah ⟨hb,hok.i.bd i hi⟩]
 simp only[h8] at h6;grind
def wt(m:Nat)(s:St)(q:nf)(j:Nat):Rat:=sm m λi=>if s.b i=j then q i else 0
def A_eq{r j:Nat}(hj:j<p.la)(q:Rat):p.A r j*q=p.sg r*(sm p.v (λk=>p.a r k*((if j=k then q else 0)-(if j=p.v+k then q else 0)))+(if j=2*p.v+r then q else 0)):=by
 unfold Lp.A Lp.la at *;by_cases c1:j<p.v
 .rw[ah c1,J8 c1 (λk hk hkj=>by rw[ae (λe=>hkj e.symm),ae qo];grind),ah rfl,ae qo,ae qo];grind
 .rw[ae c1];by_cases c2:j<2*p.v
  .rw[ah c2,J8 (r:=j-p.v) qo (λk hk hkj=>by rw[ae qo,ae qo];grind),ae qo,ah qo,ae qo];grind
  .rw[ae c2,ah hj,JP (λk hk=>by rw[ae qo,ae qo];grind)];split<;>grind
def row_sum{s:St}{q:nf}(hq:∀i,i<p.m->p.la<=s.b i->q i=0)(r:Nat):(sm p.m λi=>p.A r (s.b i)*q i)=p.sg r*(sm p.v (λk=>p.a r k*(wt p.m s q k-wt p.m s q (p.v+k)))+wt p.m s q (2*p.v+r)):=by
 rw[show(sm p.m λi=>p.A r (s.b i)*q i)=sm p.m λi=>p.sg r*(sm p.v (λk=>p.a r k*((if s.b i=k then q i else 0)-(if s.b i=p.v+k then q i else 0)))+(if s.b i=2*p.v+r then q i else 0)) from Qb λi hi=>by
  by_cases c:s.b i<p.la
  .exact A_eq c (q i)
  .rw[hq i hi qo,JP (λk _=>by split<;>split<;>grind)];split<;>grind]
 rw[J7,H2,Yc]
 congr 1
 rw[show(sm p.v λk=>sm p.m λi=>p.a r k*((if s.b i=k then q i else 0)-(if s.b i=p.v+k then q i else 0)))=sm p.v λk=>p.a r k*(wt p.m s q k-wt p.m s q (p.v+k)) from Qb λk _=>by
  rw[J7,Z2];rfl]
 rfl
def c2_eq(j:Nat)(q:Rat):p.c2 j*q= -sm p.v (λk=>p.g k*((if j=k then q else 0)-(if j=p.v+k then q else 0))):=by
 unfold Lp.c2;by_cases c1:j<p.v
 .rw[ah c1,J8 c1 (λk hk hkj=>by rw[ae (λe=>hkj e.symm),ae qo];grind),ah rfl,ae qo];grind
 .rw[ae c1];by_cases c2:j<2*p.v
  .rw[ah c2,J8 (r:=j-p.v) qo (λk hk hkj=>by rw[ae qo,ae qo];grind),ae qo,ah qo];grind
  .rw[ae c2,JP (λk hk=>by rw[ae qo,ae qo];grind)];grind
def c2_sum{s:St}{q:nf}:(sm p.m λi=>p.c2 (s.b i)*q i)= -sm p.v (λk=>p.g k*(wt p.m s q k-wt p.m s q (p.v+k))):=by
 rw[show(sm p.m λi=>p.c2 (s.b i)*q i)=sm p.m λi=>(-1)*sm p.v (λk=>p.g k*((if s.b i=k then q i else 0)-(if s.b i=p.v+k then q i else 0))) from Qb λi _=>by rw[c2_eq];grind];rw[J7,Yc]
 rw[show(sm p.v λk=>sm p.m λi=>p.g k*((if s.b i=k then q i else 0)-(if s.b i=p.v+k then q i else 0)))=sm p.v λk=>p.g k*(wt p.m s q k-wt p.m s q (p.v+k)) from Qb λk _=>by
  rw[J7,Z2];rfl]
 grind
end
end X
end Go.Proofs.YtbnobghgnbockaaGreat
