/- Lemmas. Conditions: none. -/
import Derived.Test.YtbnobghgnbockaaGreatZk16
set_option linter.all false
set_option maxHeartbeats 0
set_option maxRecDepth 100000
namespace Go.Proofs.YtbnobghgnbockaaGreat
open Tryz (prog)
namespace X
section
variable {p:Lp}{c0:nf}{s:St}
def dual(h:Inv p.m p.n p.A c0 s)(hc:∀j,2*p.v<=j->j<p.la->c0 j=0) :
  (∀k,k<p.v->s.c k=c0 k+sm p.m λr=>s.c (2*p.v+r)*p.a r k)/\(∀k,k<p.v->s.c (p.v+k)=c0 (p.v+k)-sm p.m λr=>s.c (2*p.v+r)*p.a r k)/\s.c p.n=c0 p.n+sm p.m λr=>s.c (2*p.v+r)*p.b r:=by
 obtain⟨w,hw⟩:=h.w
 have hy:∀r,r<p.m->s.c (2*p.v+r)= -(w r*p.sg r):=λr hr=>by
  rw[hw _ wq112,hc _ qo wq119]
  rw[J8 hr (λi hi hir=>by
   unfold Lp.A Lp.la;rw[ae qo,ae qo,ah qo,ae qo];grind)]
  unfold Lp.A Lp.la;rw[ae qo,ae qo,ah qo,ah rfl];grind
 refine⟨λk hk=>?_,λk hk=>?_,?_⟩
 .rw[hw k wq112]
  rw[show(sm p.m λr=>w r*p.A r k)=sm p.m λr=>(-1)*(s.c (2*p.v+r)*p.a r k) from Qb λr hr=>by
   rw[hy r hr];unfold Lp.A;rw[ah hk];grind]
  rw[J7];grind
 .rw[hw _ wq112]
  congr 1
  exact Qb λr hr=>by
   rw[hy r hr];unfold Lp.A;rw[ae qo,ah qo,show p.v+k-p.v=k by omega];grind
 .rw[hw _ (ai _)]
  rw[show(sm p.m λr=>w r*p.A r p.n)=sm p.m λr=>(-1)*(s.c (2*p.v+r)*p.b r) from Qb λr hr=>by
   rw[hy r hr,A_n];grind]
  rw[J7];grind
def xs(p:Lp)(s:St)(k:Nat):Rat:=wt p.m s (λi=>s.t i p.n) k-wt p.m s (λi=>s.t i p.n) (p.v+k)
def Ft{m:Nat}{q:nf}(h:∀i,i<m->0<=q i)(j:Nat):0<=wt m s q j:=U1 λi hi=>by
 by_cases e:s.b i=j
 .rw[ah e];exact h i hi
 .rw[ae e];exact eP
def Fe{r:Nat}{x y:Rat}(h:p.sg r*x=p.sg r*y):x=y:=by
 have h1:=@sg_sq p r;have h2:p.sg r*(p.sg r*x)=p.sg r*(p.sg r*y):=by rw[h]
 grind
def primal{e:Nat}(h:Ok p.m p.n e p.A c0 s)(he:∀i,i<p.m->p.la<=s.b i->s.t i p.n=0){r:Nat}(hr:r<p.m):sm p.v (λk=>p.a r k*xs p s k)<=p.b r:=by
 have h1:=h.i.r r hr p.n (ai _);rw[A_n,row_sum he] at h1;have h2:=Fe h1;have h3:=Ft (s:=s) h.f (2*p.v+r);unfold xs;grind
def value(h:Inv p.m p.n p.A p.c2 s):s.c p.n=sm p.v λk=>p.g k*xs p s k:=by
 rw[h.cost (ai _),c2_sum];have:p.c2 p.n=0:=by unfold Lp.c2 Lp.n;rw[ae qo,ae qo]
 rw[this];unfold xs;grind
def VD(a b:Nat):(if a=b then(1:Rat) else 0)=if b=a then 1 else 0:=by
 by_cases e:a=b
 .rw[ah e,ah e.symm]
 .rw[ae e,ae (λh=>e h.symm)]
def rv(p:Lp)(s:St)(col j:Nat):Rat:=(if j=col then 1 else 0)-wt p.m s (λi=>s.t i col) j
def dr(p:Lp)(s:St)(col k:Nat):Rat:=rv p s col k-rv p s col (p.v+k)
def ray_line(h:Inv p.m p.n p.A c0 s){col:Nat}(hc:col<p.la)(he:∀i,i<p.m->p.la<=s.b i->s.t i col=0)(hn:∀i,i<p.m->s.t i col<=0){r:Nat}(hr:r<p.m):sm p.v (λk=>p.a r k*dr p s col k)<=0:=by
 have hcn:col<=p.n:=by unfold Lp.la Lp.n at *;omega
 have h1:=h.r r hr col hcn;rw[row_sum he] at h1;have h2:=A_eq (p:=p) (r:=r) hc 1;have h3:0<=wt p.m s (λi=>-s.t i col) (2*p.v+r):=Ft (λi hi=>by have:=hn i hi;grind) _
 have h4:wt p.m s (λi=>-s.t i col) (2*p.v+r)=(-1)*wt p.m s (λi=>s.t i col) (2*p.v+r):=by
  unfold wt;rw[<-J7];exact Qb λi _=>by split<;>grind
 have h5:p.A r col*1=p.A r col:=by grind
 rw[h5,h1] at h2;have h6:=Fe h2
 have h7:(sm p.v λk=>p.a r k*dr p s col k)=sm p.v (λk=>p.a r k*((if col=k then 1 else 0)-(if col=p.v+k then 1 else 0)))-sm p.v (λk=>p.a r k*(wt p.m s (λi=>s.t i col) k-wt p.m s (λi=>s.t i col) (p.v+k))):=by
  rw[<-Z2]
  exact Qb λk _=>by
   unfold dr rv;have e1:=VD k col;have e2:=VD (p.v+k) col;rw[e1,e2];grind
 rw[h7];by_cases e:col=2*p.v+r
 .rw[ah e] at h6;grind
 .rw[ae e] at h6;grind
def ray_goal(h:Inv p.m p.n p.A p.c2 s){col:Nat}(hc:col<p.la)(hn:s.c col<0):0<sm p.v λk=>p.g k*dr p s col k:=by
 have hcn:col<=p.n:=by unfold Lp.la Lp.n at *;omega
 have h1:=h.cost hcn;rw[c2_sum] at h1;have h2:=c2_eq (p:=p) col 1
 have h7:(sm p.v λk=>p.g k*dr p s col k)=sm p.v (λk=>p.g k*((if col=k then 1 else 0)-(if col=p.v+k then 1 else 0)))-sm p.v (λk=>p.g k*(wt p.m s (λi=>s.t i col) k-wt p.m s (λi=>s.t i col) (p.v+k))):=by
  rw[<-Z2]
  exact Qb λk _=>by
   unfold dr rv;have e1:=VD k col;have e2:=VD (p.v+k) col;rw[e1,e2];grind
 rw[h7];grind
def Vw(p:Lp)(y:nf):Prop:=(∀r,r<p.m->0<=y r)/\(∀k,k<p.v->sm p.m (λr=>y r*p.a r k)=0)/\sm p.m (λr=>y r*p.b r)<0
def UF(p:Lp)(x:nf):Prop:=∀r,r<p.m->sm p.v (λk=>p.a r k*x k)<=p.b r
def IsOpt(p:Lp)(x y:nf)(z:Rat):Prop:=UF p x/\(∀r,r<p.m->0<=y r)/\(∀k,k<p.v->sm p.m (λr=>y r*p.a r k)=p.g k)/\sm p.m (λr=>y r*p.b r)=z/\sm p.v (λk=>p.g k*x k)=z
def IsUnb(p:Lp)(x d:nf):Prop:=UF p x/\(∀r,r<p.m->sm p.v (λk=>p.a r k*d k)<=0)/\0<sm p.v λk=>p.g k*d k
def first_inf{F:Nat}{x:St×Option Nat}(hx:runP p.m p.n p.n F (prc p.m p.c1 p.s0)=some x)(hn:x.1.c p.n<0):Vw p (λr=>x.1.c (2*p.v+r)):=by
 obtain⟨_,h2,h3,_⟩:=phase1 hx;obtain⟨d1,d2,d3⟩:=dual h2.i (λj h1 h2=>by unfold Lp.c1;rw[ae qo]);have z:∀j,j<p.la->p.c1 j=0:=λj h=>by unfold Lp.c1;rw[ae qo]
 have zn:p.c1 p.n=0:=by unfold Lp.c1;rw[ae qo]
 refine⟨λr hr=>h3 _ wq112,λk hk=>?_,?_⟩
 .have e1:=d1 k hk;have e2:=d2 k hk;have e3:=h3 k wq112;have e4:=h3 (p.v+k) wq112;rw[z _ wq119] at e1 e2;grind
 .rw[zn] at d3;grind
def second{F G:Nat}{x y:St×Option Nat}(hx:runP p.m p.n p.n F (prc p.m p.c1 p.s0)=some x)(hn:¬x.1.c p.n<0)(hy:runP p.m p.n p.la G (prc p.m p.c2 (drP p.la x.1 p.m))=some y) :
  (y.2=none/\IsOpt p (xs p y.1) (λr=>y.1.c (2*p.v+r)) (sm p.v λk=>p.g k*xs p y.1 k))\/∃col,y.2=some col/\IsUnb p (xs p y.1) (dr p y.1 col):=by
 obtain⟨_,h2,_,h4⟩:=phase1 hx;have hl:p.la<=p.n:=by unfold Lp.la Lp.n;omega
 obtain⟨k1,k2⟩:=FB (e:=p.n) hl h2 (h4 hn) p.m (ai _);have hk:Ok p.m p.n p.la p.A p.c2 (prc p.m p.c2 (drP p.la x.1 p.m)):=k1.prc p.c2;obtain⟨hok,hem⟩:=run_ind (P:=λs=>Ok p.m p.n p.la p.A p.c2 s/\Emp p.m p.n p.la s p.m) (λs s' h hs=>⟨h.1.stp hl hs,emp_stp (ai _) h.1 hl h.2 hs⟩) G _ y ⟨hk,k2⟩ hy;have hpt:UF p (xs p y.1):=λr hr=>primal hok (λi hi hb=>(hem i hi hb).1) hr;rcases DJ G _ y hy with ⟨g1,g2⟩|⟨col,g1,g2,g3,g4⟩
 .refine .inl ⟨g1,hpt,λr hr=>g2 _ wq119,λk hk=>?_,?_,rfl⟩
  .obtain⟨d1,d2,_⟩:=dual hok.i (λj h1 h2=>by unfold Lp.c2 Lp.la at *;rw[ae qo,ae qo]);have e1:=d1 k hk;have e2:=d2 k hk;have e3:=g2 k wq119;have e4:=g2 (p.v+k) wq119;have z1:p.c2 k= -p.g k:=by unfold Lp.c2;rw[ah hk]
   have z2:p.c2 (p.v+k)=p.g k:=by unfold Lp.c2;rw[ae qo,ah qo,show p.v+k-p.v=k by omega]
   rw[z1] at e1;rw[z2] at e2;grind
  .obtain⟨_,_,d3⟩:=dual hok.i (λj h1 h2=>by unfold Lp.c2 Lp.la at *;rw[ae qo,ae qo]);have z:p.c2 p.n=0:=by unfold Lp.c2 Lp.n;rw[ae qo,ae qo]
   rw[z,value hok.i] at d3;grind
 .exact .inr ⟨col,g1,hpt,λr hr=>ray_line hok.i g2 (λi hi hb=>(hem i hi hb).2 hi col g2) g4 hr,ray_goal hok.i g2 g3⟩
end
end X
namespace X
section
variable {p:Lp}
def sm_swap{y x:nf}:(sm p.v λk=>(sm p.m λr=>y r*p.a r k)*x k)=sm p.m λr=>y r*sm p.v λk=>p.a r k*x k:=by
 rw[show(sm p.v λk=>(sm p.m λr=>y r*p.a r k)*x k)=sm p.v λk=>sm p.m λr=>y r*(p.a r k*x k) from Qb λk _=>by
  rw[<-XD];exact Qb λr _=>by grind]
 rw[Yc];exact Qb λr _=>J7 _ _
def pt_le{x y:nf}{h:nf}(hx:UF p x)(hy:∀r,r<p.m->0<=y r)(hg:∀k,k<p.v->sm p.m (λr=>y r*p.a r k)=h k):sm p.v (λk=>h k*x k)<=sm p.m λr=>y r*p.b r:=by
 rw[show(sm p.v λk=>h k*x k)=sm p.v λk=>(sm p.m λr=>y r*p.a r k)*x k from Qb λk hk=>by rw[hg k hk],sm_swap];refine sm_le λr hr=>?_;have h1:=bD (hy r hr) (show 0<=p.b r-sm p.v (λk=>p.a r k*x k) by have:=hx r hr;grind);grind
def inf_no{x y:nf}(h:Vw p y):¬UF p x:=λhx=>by
 have h1:=pt_le hx h.1 (h:=λ_=>0) h.2.1;rw[JP (λ_ _=>by grind)] at h1;have:=h.2.2;grind
end
end X
namespace X
def del(c:Nat->nf)(j:Nat):Nat->nf:=λk=>if k<j then c k else c (k+1)
def rep(c:Nat->nf)(i:Nat)(v:nf):Nat->nf:=λk=>if k=i then v else c k
def sgn(j:Nat):Rat:=if j%2=0 then 1 else -1
def dt:Nat->(Nat->nf)->Rat
 |0,_=>1
 |m+1,c=>sm (m+1) λj=>sgn j*c j m*dt m (del c j)
section
variable {m i j k:Nat}{c d:Nat->nf}{u v:nf}
def dt_congr:∀{m:Nat} {c d:Nat->nf},(∀j,j<m->∀r,r<m->c j r=d j r)->dt m c=dt m d
 |0,_,_,_=>rfl
 |m+1,c,d,h=>Qb λj hj=>by
  rw[h j hj m qo,dt_congr (m:=m) (c:=del c j) (d:=del d j) λk hk r hr=>by
   unfold del;split
   .exact h k qo r qo
   .exact h (k+1) qo r qo]
def Zz:del (rep c i u) i=del c i:=by
 funext k;unfold del rep
 by_cases h:k<i
 .rw[ah h,ah h,ae qo]
 .rw[ae h,ae h,ae qo]
def FG(h:j≠i):del (rep c i u) j=rep (del c j) (if i<j then i else i-1) u:=by
 funext k;unfold del rep
 by_cases h1:k<j
 .rw[ah h1];by_cases h2:k=i
  .rw[ah h2,ah (by rw[ah qo];omega)]
  .rw[ae h2,ae (by split<;>omega)];exact(ah h1).symm
 .rw[ae h1];by_cases h2:k+1=i
  .rw[ah h2,ah (by rw[ae qo];omega)]
  .rw[ae h2,ae (by split<;>omega)];exact(ae h1).symm
def UL(a b:Rat):∀{m:Nat} {c:Nat->nf} {i:Nat},i<m->dt m (rep c i λr=>a*u r+b*v r)=a*dt m (rep c i u)+b*dt m (rep c i v)
 |0,_,_,h=>by omega
 |m+1,c,i,h=>by
  rw[dt,dt,dt,<-J7,<-J7,<-H2];refine Qb λj hj=>?_;by_cases e:j=i
  .subst e;rw[Zz,Zz,Zz];unfold rep;rw[ah rfl,ah rfl,ah rfl];grind
  .rw[FG e,FG e,FG e,UL a b (m:=m) (by split<;>omega)];unfold rep;rw[ae e,ae e,ae e];grind
def HD:rep c i (c i)=c:=by
 funext k;unfold rep;split
 .rename_i h;rw[h]
 .rfl
def dt_zero(h:i<m):dt m (rep c i λ_=>0)=0:=by
 have:=UL (u:=λ_=>0) (v:=λ_=>0) 0 0 (c:=c) h;simp only[Rat.zero_mul,Rat.add_zero] at this;exact this
def dt_sum(t:nf)(w:Nat->nf)(h:i<m):∀n,dt m (rep c i λr=>sm n λk=>t k*w k r)=sm n λk=>t k*dt m (rep c i (w k))
 |0=>dt_zero h
 |n+1=>by
  have:=UL (u:=λr=>sm n λk=>t k*w k r) (v:=w n) 1 (t n) (c:=c) h;simp only[sm];rw[<-dt_sum t w h n];simp only[Rat.one_mul] at this;exact this
def sm_two{f:nf}:∀{n:Nat},i+1<n->(∀k,k<n->k≠i->k≠i+1->f k=0)->sm n f=f i+f (i+1)
 |0,h,_=>by omega
 |n+1,h,h2=>by
  rw[sm];by_cases e:i+1=n
  .subst e;rw[J8 (r:=i) qo λk hk hne=>h2 k qo hne qo]
  .rw[sm_two (n:=n) qo λk hk=>h2 k qo,h2 n qo qo qo];grind
def sgn_succ(i:Nat):sgn (i+1)= -sgn i:=by
 unfold sgn;by_cases h:i%2=0
 .rw[ah h,ae qo]
 .rw[ae h,ah qo];grind
def FE:∀{m:Nat} {c:Nat->nf} {i:Nat},i+1<m->c i=c (i+1)->dt m c=0
 |0,_,_,h,_=>by omega
 |m+1,c,i,h,e=>by
  rw[dt,sm_two (i:=i) h λk hk h1 h2=>?_]
  .have:del c i=del c (i+1):=by
    funext k;unfold del
    by_cases h1:k<i
    .rw[ah h1,ah qo]
    .rw[ae h1];by_cases h2:k=i
     .subst h2;rw[ah qo,e]
     .rw[ae qo]
   rw[this,<-e,sgn_succ];grind
  .by_cases h3:k<i
   .have:dt m (del c k)=0:=FE (i:=i-1) qo (by
     unfold del;rw[ae qo,ae qo,show i-1+1=i by omega];exact e)
    rw[this];grind
   .have:dt m (del c k)=0:=FE (i:=i) qo (by
     unfold del;rw[ah qo,ah qo];exact e)
    rw[this];grind
def sw(c:Nat->nf)(i:Nat):Nat->nf:=rep (rep c i (c (i+1))) (i+1) (c i)
def dt_sw(h:i+1<m):dt m (sw c i)= -dt m c:=by
 have F:∀x y:nf,dt m (rep (rep c i x) (i+1) y)=dt m (rep (rep c (i+1) y) i x):=λx y=>by
  congr 1;funext k;unfold rep
  by_cases h1:k=i
  .rw[ae qo,ah h1,ah h1]
  .rw[ae h1,ae h1]
 have Z:∀x:nf,dt m (rep (rep c i x) (i+1) x)=0:=λx=>FE h (by unfold rep;rw[ae qo,ah rfl,ah rfl]);have h0:=Z λr=>1*c i r+1*c (i+1) r;rw[UL 1 1 h,F,F,UL 1 1 qo,UL 1 1 qo,<-F,<-F,<-F,<-F,Z,Z] at h0;have e:rep (rep c i (c i)) (i+1) (c (i+1))=c:=by rw[HD,HD]
 rw[e] at h0;unfold sw;grind
def dt_eq:∀(n:Nat) {c:Nat->nf} {i j:Nat},j-i<=n->i<j->j<m->c i=c j->dt m c=0
 |0,_,_,_,h,h1,_,_=>by omega
 |n+1,c,i,j,h,h1,h2,e=>by
  by_cases h3:j=i+1
  .subst h3;exact FE h2 e
  .have h4:dt m (sw c (j-1))=0:=dt_eq n (i:=i) (j:=j-1) qo qo qo (by
    unfold sw rep;rw[ae qo,ae qo,ae qo,ah rfl,show j-1+1=j by omega];exact e)
   rw[dt_sw qo] at h4;grind
def cramer(t:nf)(h:i<m):dt m (rep c i λr=>sm m λk=>t k*c k r)=t i*dt m c:=by
 rw[dt_sum t c h,J8 h λk hk hne=>?_,HD]
 have:dt m (rep c i (c k))=0:=by
  by_cases h1:i<k
  .exact dt_eq (k-i) (ai _) h1 hk (by unfold rep;rw[ah rfl,ae qo])
  .exact dt_eq (i-k) (ai _) (by omega:k<i) h (by unfold rep;rw[ae qo,ah rfl])
 rw[this];grind
def pr:Nat->nf->Rat
 |0,_=>1
 |m+1,f=>f m*pr m f
def dt_rows(f:nf):∀{m:Nat} {c:Nat->nf},dt m (λj r=>f r*c j r)=pr m f*dt m c
 |0,_=>by simp only[dt,pr];grind
 |m+1,c=>by
  rw[dt,dt,pr,<-J7];refine Qb λj _=>?_
  have:del (λj r=>f r*c j r) j=λk r=>f r*del c j k r:=by
   funext k r;unfold del;split<;>rfl
  rw[this,dt_rows f];grind
def pr_ne{f:nf}:∀{m:Nat},(∀r,r<m->f r≠0)->pr m f≠0
 |0,_=>by simp only[pr];decide
 |m+1,h=>by
  rw[pr];have h1:=pr_ne (m:=m) λr hr=>h r qo;have h2:=h m qo;intro hx;rcases Rat.mul_eq_zero.1 hx with hx|hx
  .exact h2 hx
  .exact h1 hx
def dt_one:∀{m:Nat} {c:Nat->nf},(∀j,j<m->∀r,r<m->c j r=if j=r then 1 else 0)->dt m c≠0
 |0,_,_=>by simp only[dt];decide
 |m+1,c,h=>by
  rw[dt,J8 (r:=m) qo λj hj hne=>by rw[h j hj m qo,ae hne];grind];rw[h m qo m qo,ah rfl]
  have h1:dt m (del c m)≠0:=dt_one λj hj r hr=>by
   unfold del;rw[ah hj];exact h j qo r qo
  have h2:sgn m≠0:=by unfold sgn;split<;>decide
  intro hx;rcases Rat.mul_eq_zero.1 hx with hx|hx
  .exact h2 (by grind)
  .exact h1 hx
def bdt(K:Nat):Nat->Nat
 |0=>1
 |m+1=>(m+1)*(K*bdt K m)
def sm_int{B:Nat}{f:nf}:∀{n:Nat},(∀i,i<n->∃z:Int,f i=z/\z.natAbs<=B)->∃z:Int,sm n f=z/\z.natAbs<=n*B
 |0,_=>⟨0,rfl,by simp⟩
 |n+1,h=>by
  obtain⟨z,h1,h2⟩:=sm_int (n:=n) λi hi=>h i qo;obtain⟨w,h3,h4⟩:=h n qo;refine⟨z+w,by rw[sm,h1,h3];simp,?_⟩;have:=eE z w;rw[de];omega
def dt_int{K:Nat}:∀{m:Nat} {c:Nat->nf},(∀j,j<m->∀r,r<m->∃z:Int,c j r=z/\z.natAbs<=K)->∃z:Int,dt m c=z/\z.natAbs<=bdt K m
 |0,_,_=>⟨1,rfl,ai _⟩
 |m+1,c,h=>by
  rw[dt];refine sm_int λj hj=>?_;obtain⟨z,h1,h2⟩:=h j hj m qo
  obtain⟨w,h3,h4⟩:=dt_int (K:=K) (m:=m) (c:=del c j) λk hk r hr=>by
   unfold del;split
   .exact h k qo r qo
   .exact h (k+1) qo r qo
  have h5:=aO h2 h4;rw[h1,h3];unfold sgn;split
  .exact⟨z*w,by simp,by rw[bp];exact h5⟩
  .exact⟨-(z*w),by simp;grind,by rw[cp,bp];exact h5⟩
end
end X
namespace X
section
variable {m n:Nat}{A:Nat->nf}{c0 c1:nf}{s u:St}{k:Nat}
def Inv.conv(h:Inv m n A c0 u)(h':Inv m n A c1 s){r j:Nat}(hr:r<m)(hj:j<=n):u.t r j=sm m λi=>u.t r (s.b i)*s.t i j:=by
 obtain⟨M,hM⟩:=h.l
 rw[hM r hr j hj,show(sm m λq=>M r q*A q j)=sm m λq=>sm m λi=>(M r q*A q (s.b i))*s.t i j from Qb λq hq=>by
  rw[h'.r q hq j hj,<-J7];exact Qb λi _=>by grind]
 rw[Yc]
 exact Qb λi hi=>by
  rw[XD,hM r hr (s.b i) (bE (h'.bd i hi))]
def sm_ne{f:nf}:∀{m:Nat},sm m f≠0->∃i,i<m/\f i≠0
 |_,h=>aD λhno=>h (JP λi hi=>aD λhx=>hno ⟨i,hi,hx⟩)
def cnt(p:Nat->Bool):Nat->Nat
 |0=>0
 |m+1=>cnt p m+if p m then 1 else 0
def cnt_le{p:Nat->Bool}:∀m,cnt p m<=m
 |0=>ai _
 |m+1=>by have:=cnt_le (p:=p) m;rw[cnt];split<;>omega
def cnt_mono{p q:Nat->Bool}:∀{m:Nat},(∀i,i<m->q i=true->p i=true)->cnt q m<=cnt p m
 |0,_=>ai _
 |m+1,h=>by
  have h1:=cnt_mono (m:=m) λi hi=>h i qo;have h2:=h m qo;rw[cnt,cnt];by_cases c:q m=true
  .rw[ah c,ah (h2 c)];omega
  .rw[ae c];omega
def cnt_lt{p q:Nat->Bool}:∀{m:Nat},(∀i,i<m->q i=true->p i=true)->(∃i,i<m/\p i=true/\q i=false)->cnt q m<cnt p m
 |0,_,⟨i,h,_⟩=>by omega
 |m+1,h,⟨i,h1,h2,h3⟩=>by
  rw[cnt,cnt];by_cases e:i=m
  .subst e;have h4:=cnt_mono (m:=i) λj hj=>h j qo;rw[ah h2,ae (by rw[h3];decide)];omega
  .have h4:=cnt_lt (m:=m) (λj hj=>h j qo) ⟨i,by omega,h2,h3⟩;have h5:=h m qo;by_cases c:q m=true
   .rw[ah c,ah (h5 c)];omega
   .rw[ae c];omega
def mis(m:Nat)(s u:St)(i:Nat):Bool:=decide (∀r,r<m->u.b r≠s.b i)
def bas(A:Nat->nf)(s:St):Nat->nf:=λk r=>A r (s.b k)
def Inv.ent(h:Inv m n A c0 u){i j:Nat}(hi:i<m)(hj:j<=n):dt m (rep (bas A u) i λr=>A r j)=u.t i j*dt m (bas A u):=by
 rw[<-cramer (λk=>u.t k j) hi];refine dt_congr λk hk r hr=>?_;unfold rep;split
 .show A r j=sm m λk=>u.t k j*bas A u k r;rw[h.r r hr j hj];exact Qb λi _=>by unfold bas;grind
 .rfl
def exchD(h:Inv m n A c1 s):∀(d:Nat) (u:St),cnt (mis m s u) m<=d->Inv m n A c0 u->dt m (bas A u)≠0->∃u',Inv m n A c0 u'/\dt m (bas A u')≠0/\∀i,i<m->∃r,r<m/\∀j,j<=n->s.t i j=u'.t r j:=by
 intro d;induction d with
 |zero=>
  intro u hc hu hs;refine⟨u,hu,hs,λi hi=>?_⟩
  have hall:∀k,k<m->∃r,r<m/\u.b r=s.b k:=λk hk=>by
   have hno:mis m s u k=false:=by
    cases hx:mis m s u k with
    |false=>rfl
    |true=>
     exfalso;have:=cnt_lt (p:=mis m s u) (q:=λ_=>false) (m:=m) (λ_ _ h=>by simp at h) ⟨k,hk,hx,rfl⟩;omega
   exact aD λhx=>by
    have:=ap hno;exact this λr hr hb=>hx ⟨r,hr,hb⟩
  obtain⟨r,hr,hb⟩:=hall i hi;refine⟨r,hr,λj hj=>?_⟩;have e:=Inv.conv hu h hr hj
  rw[J8 hi (λk hk hki=>by
   have h1:u.t r (s.b k)=0:=by
    obtain⟨q,hq,hbq⟩:=hall k hk;rw[<-hbq,hu.u r hr q hq,ae];rintro rfl;exact hki (h.inj hk hi (by rw[<-hbq,hb]))
   rw[h1];grind)] at e
  have h1:u.t r (s.b i)=1:=by rw[<-hb,hu.u r hr r hr,ah rfl]
  rw[e,h1];grind
 |succ d ih=>
  intro u hc hu hs;by_cases hz:∃i,i<m/\mis m s u i=true
  .obtain⟨i,hi,hmi⟩:=hz;have hno:=ao hmi;have e:=Inv.conv h hu hi (j:=s.b i) (bE (h.bd i hi));rw[h.u i hi i hi,ah rfl] at e;obtain⟨r,hr,hne⟩:=sm_ne (m:=m) (f:=λr=>s.t i (u.b r)*u.t r (s.b i)) (by rw[<-e];decide);have n1:u.t r (s.b i)≠0:=λhx=>hne (by show s.t i (u.b r)*u.t r (s.b i)=0;rw[hx];grind);have n2:s.t i (u.b r)≠0:=λhx=>hne (by show s.t i (u.b r)*u.t r (s.b i)=0;rw[hx];grind)
   have n3:∀k,k<m->s.b k≠u.b r:=λk hk hb=>by
    rw[<-hb,h.u i hi k hk] at n2;by_cases c:i=k
    .subst c;exact hno r hr hb.symm
    .rw[ae c] at n2;exact n2 rfl
   have hp:=Inv.pv hu hr (h.bd i hi) n1
   have hlt:cnt (mis m s (pv u r (s.b i))) m<cnt (mis m s u) m:=by
    refine cnt_lt (λk hk hq=>?_) ⟨i,hi,hmi,?_⟩
    .have hq:=ao hq;refine aq λq hqm hb=>?_;by_cases c:q=r
     .subst c;exact n3 k hk hb.symm
     .refine hq q hqm ?_;show(if q=r then s.b i else u.b q)=_;rw[ae c];exact hb
    .refine ak λhx=>hx r hr ?_;show(if r=r then s.b i else u.b r)=_;rw[ah rfl]
   refine ih (pv u r (s.b i)) qo hp ?_
   have e2:bas A (pv u r (s.b i))=rep (bas A u) r λq=>A q (s.b i):=by
    funext k q;unfold bas rep
    show A q (if k=r then s.b i else u.b k)=_;split<;>rfl
   rw[e2,hu.ent hr (bE (h.bd i hi))];intro hx;rcases Rat.mul_eq_zero.1 hx with hx|hx
   .exact n1 hx
   .exact hs hx
  .refine ih u ?_ hu hs;have:cnt (mis m s u) m<=cnt (λ_=>false) m:=cnt_mono λi hi hx=>absurd ⟨i,hi,hx⟩ hz
   have h1:∀m,cnt (λ_=>false) m=0:=λm=>by
    induction m with
    |zero=>rfl
    |succ m ih=>rw[cnt,ih];rfl
   rw[h1] at this;omega
def Inv.ratio(h:Inv m n A c1 s)(hu:Inv m n A c0 u)(hA:∀r,r<m->∀i,i<m->A r (u.b i)=if r=i then 1 else 0){f:nf}{K:Nat}(hf:∀r,r<m->f r≠0)(hz:∀r,r<m->∀j,j<=n->∃z:Int,f r*A r j=z/\z.natAbs<=K)
  {i j:Nat} (hi:i<m) (hj:j<=n):∃p q:Int,q≠0/\s.t i j=(p:Rat)/q/\p.natAbs<=bdt K m/\q.natAbs<=bdt K m:=by
 obtain⟨v,hv,hd,hr⟩:=exchD h m u (cnt_le _) hu (dt_one λj hj r hr=>by
  show A r (u.b j)=_;rw[hA r hr j hj];by_cases e:r=j
  .rw[ah e,ah e.symm]
  .rw[ae e,ae λh=>e h.symm])
 obtain⟨r,hrm,he⟩:=hr i hi;have e1:=hv.ent hrm hj;have hp:=pr_ne (f:=f) hf
 obtain⟨p,hp1,hp2⟩:=dt_int (K:=K) (m:=m) (c:=λk q=>f q*rep (bas A v) r (λr=>A r j) k q) λk hk q hq=>by
  unfold rep;split
  .exact hz q hq j hj
  .exact hz q hq _ (bE (hv.bd k hk))
 obtain⟨q,hq1,hq2⟩:=dt_int (K:=K) (m:=m) (c:=λk q=>f q*bas A v k q) λk hk q hq=>hz q hq _ (bE (hv.bd k hk));rw[dt_rows] at hp1 hq1
 have hq0:(q:Rat)≠0:=by
  rw[<-hq1];intro hx;rcases Rat.mul_eq_zero.1 hx with hx|hx
  .exact hp hx
  .exact hd hx
 refine⟨p,q,λhx=>hq0 (by rw[hx];rfl),?_,hp2,hq2⟩;rw[he j hj,<-hp1,e1,<-hq1];rw[<-hq1] at hq0;generalize pr m f=a at *;generalize dt m (bas A v)=b at *;generalize v.t r j=t at *;rw[show a*(t*b)=t*(a*b) by grind,Rat.div_def,Rat.mul_assoc,Rat.mul_inv_cancel _ hq0,cX]
end
def dp(f:nf):Nat->Nat
 |0=>1
 |n+1=>(f n).den*dp f n
def dp_pos{f:nf}:∀n,0<dp f n
 |0=>Nat.one_pos
 |n+1=>Nat.mul_pos (f n).den_pos (dp_pos n)
def dp_le{f:nf}{W:Nat}:∀{n:Nat},(∀k,k<n->(f k).den<=W)->dp f n<=W^n
 |0,_=>ai _
 |n+1,h=>by
  rw[dp,cP,aY];exact aO (dp_le λk hk=>h k qo) (h n qo)
def den_mul(q:Rat):(q.den:Rat)*q=q.num:=by
 have h:=ew q
 have h2:(q.den:Rat)≠0:=by
  intro hx;have:=q.den_nz;exact this (by exact_mod_cast hx)
 rw[Rat.mul_comm];conv=>lhs;lhs;rw[<-h]
 rw[eA,Rat.div_def,Rat.mul_assoc,show((q.den:Int):Rat)=(q.den:Rat) from rfl,Rat.inv_mul_cancel _ h2,cX]
def dp_int{f:nf}:∀{n k:Nat},k<n->∃z:Int,(dp f n:Rat)*f k=z/\z.natAbs<=dp f n*(f k).num.natAbs
 |0,_,h=>by omega
 |n+1,k,h=>by
  rw[dp];by_cases e:k=n
  .subst e;refine⟨dp f k*(f k).num,?_,?_⟩
   .have:=den_mul (f k);rw[c9,<-this,show((dp f k:Int):Rat)=(dp f k:Rat) from rfl,dQ];grind
   .rw[bp,aG];exact aM _ (Nat.le_mul_of_pos_left _ (f k).den_pos)
  .obtain⟨z,h1,h2⟩:=dp_int (f:=f) (n:=n) (k:=k) qo;refine⟨(f n).den*z,?_,?_⟩
   .rw[c9,<-h1,show(((f n).den:Int):Rat)=((f n).den:Rat) from rfl,dQ];grind
   .rw[bp,aG,Nat.mul_assoc];exact ef _ h2
end X
def Sq(k:Nat)(q:Rat):Prop:=(Qx q.num.natAbs).length<=k/\(Qx q.den).length<=k
section
variable {a b:Rat}{k l:Nat}
def Sq.sm(h:Sq k a)(hk:k<=400000000):Sm a:=⟨aL h.1 hk,aL h.2 hk⟩
def Sq.up(h:Sq k a)(hk:k<=l):Sq l a:=⟨aL h.1 hk,aL h.2 hk⟩
def di_num(n:Int)(d:Nat)(hd:d≠0)(h1:(Qx n.natAbs).length<=k)(h2:(Qx d).length<=k):Sq k (mkRat n d):=by
 constructor
 .rw[ej,ae hd];exact aL (J4 (Int.natAbs_ediv_le_natAbs _ _)) h1
 .rw[ep,ae hd];exact aL (J4 (bR _ _)) h2
def Sq.zero:Sq 1 0:=by
 constructor
 .show(Qx 0).length<=1;rw[JJ];decide
 .show(Qx 1).length<=1;rw[J1 qd qd];decide
def Sq.add(h1:Sq k a)(h2:Sq l b):Sq (k+l+1) (a+b):=by
 rw[Rat.add_def'];refine di_num _ _ (Nat.mul_ne_zero a.den_nz b.den_nz) ?_ ?_
 .have e1:=J4 (eE (a.num*b.den) (b.num*a.den));have e2:=K2 (a.num*b.den).natAbs (b.num*a.den).natAbs;have e3:=JB a.num.natAbs b.den;have e4:=JB b.num.natAbs a.den;rw[JD,JD] at e1 e2;have:=h1.1;have:=h1.2;have:=h2.1;have:=h2.2;omega
 .have e3:=JB a.den b.den;have:=h1.2;have:=h2.2;omega
def Sq.neg(h:Sq k a):Sq k (-a):=by
 unfold Sq at *;rw[dG,Rat.neg_den,cp];exact h
def Sq.sub(h1:Sq k a)(h2:Sq l b):Sq (k+l+1) (a-b):=by
 rw[Rat.sub_eq_add_neg];exact h1.add h2.neg
def Sq.mul(h1:Sq k a)(h2:Sq l b):Sq (k+l) (a*b):=by
 rw[Rat.mul_def'];refine di_num _ _ (Nat.mul_ne_zero a.den_nz b.den_nz) ?_ ?_
 .rw[bp];have e3:=JB a.num.natAbs b.num.natAbs;have:=h1.1;have:=h2.1;omega
 .have e3:=JB a.den b.den;have:=h1.2;have:=h2.2;omega
def Sq.inv(h0:0<k)(h:Sq k b):Sq k b⁻¹:=by
 obtain⟨h1,h2⟩:=h;constructor
 .rw[Rat.num_inv,bp,aG];by_cases c:b.num=0
  .rw[c];simp[JJ]
  .rw[Int.natAbs_sign_of_ne_zero c,Nat.one_mul];exact h2
 .rw[Rat.den_inv];split
  .rw[J1 qd qd];exact h0
  .exact h1
def Sq.div(h0:0<l)(h1:Sq k a)(h2:Sq l b):Sq (k+l) (a/b):=by
 rw[Rat.div_def];exact h1.mul (h2.inv h0)
def Sq.int{n:Int}(h:(Qx n.natAbs).length<=k)(h0:0<k):Sq k (n:Rat):=by
 constructor
 .rw[eV];exact h
 .rw[eW,J1 qd qd];exact h0
end
namespace X
def YM{k:Nat}{f:nf}:∀{m:Nat},(∀i,i<m->Sq k (f i))->Sq (m*(k+1)+1) (sm m f)
 |0,_=>by rw[Nat.zero_mul];exact Sq.zero
 |m+1,h=>by
  have h1:=(YM (m:=m) λi hi=>h i qo).add (h m qo);exact h1.up (by rw[de];omega)
def bdt_len{K k:Nat}(hK:(Qx K).length<=k):∀{m:Nat},m<1000000000->(Qx (bdt K m)).length<=m*(k+1)+1
 |0,_=>by rw[bdt,J1 qd qd];simp
 |m+1,h=>by
  have e:(m+1)*(k+1)=m*(k+1)+(k+1):=de _ _;have h1:=bdt_len hK (m:=m) qo;have h2:=JB (m+1) (K*bdt K m);have h3:=JB K (bdt K m);rw[J1 (n:=m+1) qo h] at h2;rw[bdt,e];simp only[aK,bF] at h2;omega
end X
section
open W Go.RowKit
def IsR(q:Rat):Qd:=λv b G=>∃m:QM,v=qv m/\b=[]/\G=[isQ (qv m) q]
def YJ{P:nh}{f:np}{ag:ne}{bx:nw}{F:nc}{q:Rat}(h:FnB P f ag bx F (IsQ q)):FnB P f ag bx F (IsR q):=
 h.mono λv b G ⟨nb,d1,d2,h1,h2,h3,h4⟩=>⟨(nb,d1,d2),h1,h3,h4⟩
namespace Zn
section
variable (m1 m2:QM)(a b:Rat)
def add(ha:Sm a)(hb:Sm b):FnB prog 80 [qv m1,qv m2] [] [isQ (qv m1) a,isQ (qv m2) b] (IsR (a+b)):=YJ (Rta.V7 _ _ _ _ ha hb)
def sub(ha:Sm a)(hb:Sm b):FnB prog 184 [qv m1,qv m2] [] [isQ (qv m1) a,isQ (qv m2) b] (IsR (a-b)):=YJ (Rtc.sub_c _ _ _ _ ha hb)
def mul(ha:Sm a)(hb:Sm b):FnB prog 81 [qv m1,qv m2] [] [isQ (qv m1) a,isQ (qv m2) b] (IsR (a*b)):=YJ (Rmu.ZA _ _ _ _ ha hb)
def div(ha:Sm a)(hb:Sm b):FnB prog 221 [qv m1,qv m2] [] [isQ (qv m1) a,isQ (qv m2) b] (IsR (a/b)):=YJ (Rmu.div_c _ _ _ _ ha hb)
def neg:FnB prog 120 [qv m1] [] [isQ (qv m1) a] (IsR (-a)):=YJ (Rta.G2 _ _)
def cmp(ha:Sm a)(hb:Sm b):FnB prog 171 [qv m1,qv m2] [] [isQ (qv m1) a,isQ (qv m2) b] (IsV (nj (XN a b))):=Rtc.qcompare_c _ _ _ _ ha hb
def sign:FnB prog 79 [qv m1] [] [isQ (qv m1) a] (IsV (nj (sgn a.num))):=Rta.sign_c _ _
def same:FnB prog 218 [qv m1,qv m2] [] [isQ (qv m1) a,isQ (qv m2) b] (IsV (.bool (decide (a=b)))):=Rtc.same_c _ _ _ _
def of(p q:Int)(h1:p.natAbs<B2)(h2:q.natAbs<B2):FnB prog 101 [nj p,nj q] [] [] (IsR (Rat.divInt p q)):=YJ (Rta.Zy p q h1 h2)
def Kg(ha:Sm a)(hb:Sm b):FnB prog 39 [qv m1,qv m2] [] [isQ (qv m1) a,isQ (qv m2) b] (IsR (a+b)):=YJ (Rp.rqadd_c _ _ _ _ ha hb)
def rsub(ha:Sm a)(hb:Sm b):FnB prog 131 [qv m1,qv m2] [] [isQ (qv m1) a,isQ (qv m2) b] (IsR (a-b)):=YJ (Rp.rqsub_c _ _ _ _ ha hb)
def ZQ(ha:Sm a)(hb:Sm b):FnB prog 38 [qv m1,qv m2] [] [isQ (qv m1) a,isQ (qv m2) b] (IsR (a*b)):=YJ (Rp.rqmul_c _ _ _ _ ha hb)
def rcmp(ha:Sm a)(hb:Sm b):FnB prog 141 [qv m1,qv m2] [] [isQ (qv m1) a,isQ (qv m2) b] (IsV (nj (XN a b))):=Rp.rqcompare_c _ _ _ _ ha hb
def rof(p q:Int)(h1:p.natAbs<B2)(h2:q.natAbs<B2):FnB prog 30 [nj p,nj q] [] [] (IsR (Rat.divInt p q)):=YJ (Rp.rqof_c p q h1 h2)
end
end Zn
def Je{q:Rat}:sgn q.num=0↔q=0:=by
 rw[<-Rat.num_eq_zero];unfold sgn;split<;>(try split)<;>omega
def num_neg'{q:Rat}:q.num<0↔q<0:=by
 rw[eZ];simp
def num_pos'{q:Rat}:0<q.num↔0<q:=by
 rw[eZ];simp
def Xq{q:Rat}:sgn q.num<0↔q<0:=by
 rw[<-num_neg'];unfold sgn;split<;>(try split)<;>omega
def Ur{q:Rat}:0<sgn q.num↔0<q:=by
 rw[<-num_pos'];unfold sgn;split<;>(try split)<;>omega
def wpx(l r:nf)(f:Rat)(k j:Nat):Rat:=if j<k then l j-f*r j else l j
def wpx_up{l r:nf}{f:Rat}{k:Nat}(i:Nat):Qy (wpx l r f k) k (wpx l r f k k-f*r k) i=wpx l r f (k+1) i:=by
 unfold wpx Qy;by_cases c:i=k
 .subst c;simp
 .by_cases c2:i<k
  .simp[c,c2,show i<k+1 by omega]
  .simp[c,c2,show ¬i<k+1 by omega]
def wpx_keep{l r:nf}{f:Rat}{k:Nat}(h:r k=0)(i:Nat):wpx l r f k i=wpx l r f (k+1) i:=by
 unfold wpx;by_cases c:i=k
 .subst c;simp[h];grind
 .by_cases c2:i<k
  .simp[c2,show i<k+1 by omega]
  .simp[c2,show ¬i<k+1 by omega]
def IsWp(lv rw:nA)(n:Nat)(mr:Nat->QM)(z:nf):Qd:=λv B G=>∃ml,v=.tuple #[]/\B=[Ow.slice lv 75 4 (Qc n ml),Ow.slice rw 75 4 (Qc n mr)]/\G=[mF n ml z]
namespace Z
attribute [local irreducible] WC WL WD YO LO Qq W.Fin Qk Qh Qj Row QZ Qv KnS Has W.One Qo QX
def d190{G G':Prop}(h:G')(s:Bx G'->G:=by
 intro h;first|refine gB ?_|(apply WC.draw (id:=6) [0,1,2,3,4,5,6,7,10] (.h 0<|.h 1<|.h 2<|.h 3<|.h 4<|.h 5<|.h 6<|.h 7<|.l 8<|.l 9<|.h 10<|.l 11 .done) mixed kr)|fail
 exact Bx.h h):G:=s ⟨h⟩
def d190r{G G':Prop}(h:G')(s:Bx G'->G:=by
 intro h;repeat'(first|intro(zQ:Nat)|refine d190 ?_|intro zQ)
 repeat revert zQ
 exact Bx.h h):G:=s ⟨h⟩

def wipe_c(lv rw:nA)(n col K:Nat)(ml mr:Nat->QM)(l r:nf)(hc:col<n)(hn:n<=100000)(hK:K<=100000000)(hl:∀k,k<n->Sq K (l k))(hr:∀k,k<n->Sq K (r k)) :
  FnB prog 190 [lv,rw,nj col] [Ow.slice lv 75 4 (Qc n ml),Ow.slice rw 75 4 (Qc n mr)] [mF n ml l,mF n mr r] (IsWp lv rw n mr (λk=>l k-l col*r k)):=by
 refine fO [(0,lv),(1,rw),(2,(nj col))] 38 Tryz.func190 Tryz.ntmps190 λh0=>?_;have hsm:∀{q},Sq K q->Sm q:=λh=>h.sm qo;refine WC.fact (isQ (qv (ml col)) (l col)) (W.Has.q hmA hc) ?_;refine d190r ?_;intro g;refine cV (Zn.sign (ml col) (l col)) ?_;revert g;intro g6;by_cases c0:l col=0
 .have hz:=Je.2 c0;refine d190r ?_;refine WC.fact (mF n ml (λk=>l k-l col*r k)) (W.Has.QK (qf:=l) hmA (λi _=>by rw[c0];grind)) ?_;refine WC.ret ?_;exact Fin.p [Ow.slice lv 75 4 (Qc n ml),Ow.slice rw 75 4 (Qc n mr)] [mF n ml (λk=>l k-l col*r k)] (Qf.t0 rfl) meA slA haA ⟨_,rfl,rfl,rfl⟩
 have hz:¬sgn (l col).num=0:=λh=>c0 (Je.1 h);refine d190r ?_
 refine WC.lp (σ:=Nat×(Nat->QM)) (λs=>[(18,nj (s.1:Int)),(17,nj n),(16,rw),(0,lv),(6,ptr g6)]) (λs=>[Ow.cells g6 75 (qcs (ml col)),Ow.slice lv 75 4 (Qc n s.2),Ow.slice rw 75 4 (Qc n mr)])
  (λs=>[isQ (qv (ml col)) (l col),mF n s.2 (wpx l r (l col) s.1),mF n mr r,ge h0]) (λs=>s.1<=n) (λs=>n-s.1) (0,ml) (aj _) ?_ (hG:=.cons hmA (.cons (W.Has.QK (qf:=l) hmA λi _=>by simp[wpx]) (.cons hmA (.cons hmA .nil))))
 rintro⟨k,mx⟩ hk;simp only at hk ⊢;by_cases c:k<n
 .refine WC.fact (isQ (qv (mr k)) (r k)) (W.Has.q (ms:=mr) hmA c) ?_;refine WC.fact (isQ (qv (mx k)) (wpx l r (l col) k k)) (W.Has.q (ms:=mx) hmA c) ?_;have hw:wpx l r (l col) k k=l k:=by simp[wpx]
  refine d190r ?_;intro g;refine cV (Zn.sign (mr k) (r k)) ?_;by_cases c1:r k=0
  .have hz1:=Je.2 c1;refine d190r ?_;exact Qq.mk (k+1,mx) wq122 wq107 (hG:=.cons hmA (.cons (W.Has.QK (qf:=wpx l r (l col) k) hmA λi _=>wpx_keep c1 i) (.cons hmA (.cons hmA .nil))))
  .have hz1:¬sgn (r k).num=0:=λh=>c1 (Je.1 h);refine d190r ?_;refine cW (Zn.mul (ml col) (mr k) (l col) (r k) (hsm (hl col hc)) (hsm (hr k c))) λm1=>?_;refine d190r ?_;refine cW (Zn.sub (mx k) m1 (wpx l r (l col) k k) (l col*r k) (by rw[hw];exact hsm (hl k c)) (((hl col hc).mul (hr k c)).sm qo)) λm2=>?_;refine WD.fact (mF n (Qy mx k m2) (wpx l r (l col) (k+1))) ((W.Has.J0 (k:=k) (ms:=mx) (m:=m2) (qf:=wpx l r (l col) k) hmA hmA).QK λi _=>wpx_up i) ?_;refine d190r ?_;exact Qq.mk (k+1,_) wq122 wq107
 .obtain rfl:k=n:=qo;refine d190r ?_;exact Fin.p [Ow.slice lv 75 4 (Qc k mx),Ow.slice rw 75 4 (Qc k mr)] [mF k mx (λj=>l j-l col*r j)] (Qf.t0 rfl) meA slA (.cons (W.Has.QK (qf:=wpx l r (l col) k) hmA (λi hi=>by simp[wpx,hi])) .nil) ⟨_,rfl,rfl,rfl⟩
end Z
end
end Go.Proofs.YtbnobghgnbockaaGreat
