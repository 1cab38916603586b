/- Lemmas for a law. Conditions: none. -/
import Derived.Test.YtbnobghgnbockaaGreatZf16
import Derived.Test.YtbnobghgnbockaaGreatZf15
set_option linter.all false
set_option maxHeartbeats 32000000
set_option maxRecDepth 100000
namespace Go.Proofs.YtbnobghgnbockaaGreat
section
namespace X
section
variable {m n:Nat}{A:Nat->Nat->Rat}{c0 c1:Nat->Rat}{s u:St}{k:Nat}
def Inv.conv(h:Inv m n A c0 u)(h':Inv m n A c1 s){r j:Nat}(hr:r<m)(hj:j<=n):u.t r j=sm m λi=>u.t r (s.b i)*s.t i j:=by
 obtain⟨M,hM⟩:=h.l
 rw[hM r hr j hj,show(sm m λq=>M r q*A q j)=sm m λq=>sm m λi=>(M r q*A q (s.b i))*s.t i j from Qd λq hq=>by
  rw[h'.r q hq j hj,<-Jt];exact Qd λi _=>by grind]
 rw[XB]
 exact Qd λi hi=>by
  rw[Xw,hM r hr (s.b i) (Nat.le_of_lt (h'.bd i hi))]
def sm_ne{f:Nat->Rat}:∀{m:Nat},sm m f≠0->∃i,i<m/\f i≠0
 |_,h=>Classical.byContradiction λhno=>h (Ja λi hi=>Classical.byContradiction λhx=>hno ⟨i,hi,hx⟩)
def cnt(p:Nat->Bool):Nat->Nat
 |0=>0
 |m+1=>cnt p m+if p m then 1 else 0
def cnt_le{p:Nat->Bool}:∀m,cnt p m<=m
 |0=>Nat.le_refl _
 |m+1=>by have:=cnt_le (p:=p) m;rw[cnt];split<;>omega
def cnt_mono{p q:Nat->Bool}:∀{m:Nat},(∀i,i<m->q i=true->p i=true)->cnt q m<=cnt p m
 |0,_=>Nat.le_refl _
 |m+1,h=>by
  have h1:=cnt_mono (m:=m) λi hi=>h i qo;have h2:=h m qo;rw[cnt,cnt];by_cases c:q m=true
  ·rw[if_pos c,if_pos (h2 c)];omega
  ·rw[if_neg c];omega
def cnt_lt{p q:Nat->Bool}:∀{m:Nat},(∀i,i<m->q i=true->p i=true)->(∃i,i<m/\p i=true/\q i=false)->cnt q m<cnt p m
 |0,_,⟨i,h,_⟩=>by omega
 |m+1,h,⟨i,h1,h2,h3⟩=>by
  rw[cnt,cnt];by_cases e:i=m
  ·subst e;have h4:=cnt_mono (m:=i) λj hj=>h j qo;rw[if_pos h2,if_neg (by rw[h3];decide)];omega
  ·have h4:=cnt_lt (m:=m) (λj hj=>h j qo) ⟨i,by omega,h2,h3⟩;have h5:=h m qo;by_cases c:q m=true
   ·rw[if_pos c,if_pos (h5 c)];omega
   ·rw[if_neg c];omega
def mis(m:Nat)(s u:St)(i:Nat):Bool:=decide (∀r,r<m->u.b r≠s.b i)
def bas(A:Nat->Nat->Rat)(s:St):Nat->Nat->Rat:=λk r=>A r (s.b k)
def Inv.ent(h:Inv m n A c0 u){i j:Nat}(hi:i<m)(hj:j<=n):dt m (rep (bas A u) i λr=>A r j)=u.t i j*dt m (bas A u):=by
 rw[<-cramer (λk=>u.t k j) hi];refine dt_congr λk hk r hr=>?_;unfold rep;split
 ·show A r j=sm m λk=>u.t k j*bas A u k r;rw[h.r r hr j hj];exact Qd λi _=>by unfold bas;grind
 ·rfl
def exchD(h:Inv m n A c1 s):∀(d:Nat) (u:St),cnt (mis m s u) m<=d->Inv m n A c0 u->dt m (bas A u)≠0->∃u',Inv m n A c0 u'/\dt m (bas A u')≠0/\∀i,i<m->∃r,r<m/\∀j,j<=n->s.t i j=u'.t r j:=by
 intro d;induction d with
 |zero=>
  intro u hc hu hs;refine⟨u,hu,hs,λi hi=>?_⟩
  have hall:∀k,k<m->∃r,r<m/\u.b r=s.b k:=λk hk=>by
   have hno:mis m s u k=false:=by
    cases hx:mis m s u k with
    |false=>rfl
    |true=>
     exfalso;have:=cnt_lt (p:=mis m s u) (q:=λ_=>false) (m:=m) (λ_ _ h=>by simp at h) ⟨k,hk,hx,rfl⟩;omega
   exact Classical.byContradiction λhx=>by
    have:=of_decide_eq_false hno;exact this λr hr hb=>hx ⟨r,hr,hb⟩
  obtain⟨r,hr,hb⟩:=hall i hi;refine⟨r,hr,λj hj=>?_⟩;have e:=Inv.conv hu h hr hj
  rw[JQ hi (λk hk hki=>by
   have h1:u.t r (s.b k)=0:=by
    obtain⟨q,hq,hbq⟩:=hall k hk;rw[<-hbq,hu.u r hr q hq,if_neg];rintro rfl;exact hki (h.inj hk hi (by rw[<-hbq,hb]))
   rw[h1];grind)] at e
  have h1:u.t r (s.b i)=1:=by rw[<-hb,hu.u r hr r hr,if_pos rfl]
  rw[e,h1];grind
 |succ d ih=>
  intro u hc hu hs;by_cases hz:∃i,i<m/\mis m s u i=true
  ·obtain⟨i,hi,hmi⟩:=hz;have hno:=of_decide_eq_true hmi;have e:=Inv.conv h hu hi (j:=s.b i) (Nat.le_of_lt (h.bd i hi));rw[h.u i hi i hi,if_pos rfl] at e;obtain⟨r,hr,hne⟩:=sm_ne (m:=m) (f:=λr=>s.t i (u.b r)*u.t r (s.b i)) (by rw[<-e];decide);have n1:u.t r (s.b i)≠0:=λhx=>hne (by show s.t i (u.b r)*u.t r (s.b i)=0;rw[hx];grind);have n2:s.t i (u.b r)≠0:=λhx=>hne (by show s.t i (u.b r)*u.t r (s.b i)=0;rw[hx];grind)
   have n3:∀k,k<m->s.b k≠u.b r:=λk hk hb=>by
    rw[<-hb,h.u i hi k hk] at n2;by_cases c:i=k
    ·subst c;exact hno r hr hb.symm
    ·rw[if_neg c] at n2;exact n2 rfl
   have hp:=Inv.pv hu hr (h.bd i hi) n1
   have hlt:cnt (mis m s (pv u r (s.b i))) m<cnt (mis m s u) m:=by
    refine cnt_lt (λk hk hq=>?_) ⟨i,hi,hmi,?_⟩
    ·have hq:=of_decide_eq_true hq;refine decide_eq_true λq hqm hb=>?_;by_cases c:q=r
     ·subst c;exact n3 k hk hb.symm
     ·refine hq q hqm ?_;show(if q=r then s.b i else u.b q)=_;rw[if_neg c];exact hb
    ·refine decide_eq_false λhx=>hx r hr ?_;show(if r=r then s.b i else u.b r)=_;rw[if_pos rfl]
   refine ih (pv u r (s.b i)) qo hp ?_
   have e2:bas A (pv u r (s.b i))=rep (bas A u) r λq=>A q (s.b i):=by
    funext k q;unfold bas rep
    show A q (if k=r then s.b i else u.b k)=_;split<;>rfl
   rw[e2,hu.ent hr (Nat.le_of_lt (h.bd i hi))];intro hx;rcases Rat.mul_eq_zero.1 hx with hx|hx
   ·exact n1 hx
   ·exact hs hx
  ·refine ih u ?_ hu hs;have:cnt (mis m s u) m<=cnt (λ_=>false) m:=cnt_mono λi hi hx=>absurd ⟨i,hi,hx⟩ hz
   have h1:∀m,cnt (λ_=>false) m=0:=λm=>by
    induction m with
    |zero=>rfl
    |succ m ih=>rw[cnt,ih];rfl
   rw[h1] at this;omega
def Inv.ratio(h:Inv m n A c1 s)(hu:Inv m n A c0 u)(hA:∀r,r<m->∀i,i<m->A r (u.b i)=if r=i then 1 else 0){f:Nat->Rat}{K:Nat}(hf:∀r,r<m->f r≠0)(hz:∀r,r<m->∀j,j<=n->∃z:Int,f r*A r j=z/\z.natAbs<=K)
  {i j:Nat} (hi:i<m) (hj:j<=n):∃p q:Int,q≠0/\s.t i j=(p:Rat)/q/\p.natAbs<=bdt K m/\q.natAbs<=bdt K m:=by
 obtain⟨v,hv,hd,hr⟩:=exchD h m u (cnt_le _) hu (dt_one λj hj r hr=>by
  show A r (u.b j)=_;rw[hA r hr j hj];by_cases e:r=j
  ·rw[if_pos e,if_pos e.symm]
  ·rw[if_neg e,if_neg λh=>e h.symm])
 obtain⟨r,hrm,he⟩:=hr i hi;have e1:=hv.ent hrm hj;have hp:=pr_ne (f:=f) hf
 obtain⟨p,hp1,hp2⟩:=dt_int (K:=K) (m:=m) (c:=λk q=>f q*rep (bas A v) r (λr=>A r j) k q) λk hk q hq=>by
  unfold rep;split
  ·exact hz q hq j hj
  ·exact hz q hq _ (Nat.le_of_lt (hv.bd k hk))
 obtain⟨q,hq1,hq2⟩:=dt_int (K:=K) (m:=m) (c:=λk q=>f q*bas A v k q) λk hk q hq=>hz q hq _ (Nat.le_of_lt (hv.bd k hk));rw[dt_rows] at hp1 hq1
 have hq0:(q:Rat)≠0:=by
  rw[<-hq1];intro hx;rcases Rat.mul_eq_zero.1 hx with hx|hx
  ·exact hp hx
  ·exact hd hx
 refine⟨p,q,λhx=>hq0 (by rw[hx];rfl),?_,hp2,hq2⟩;rw[he j hj,<-hp1,e1,<-hq1];rw[<-hq1] at hq0;generalize pr m f=a at *;generalize dt m (bas A v)=b at *;generalize v.t r j=t at *;rw[show a*(t*b)=t*(a*b) by grind,Rat.div_def,Rat.mul_assoc,Rat.mul_inv_cancel _ hq0,Rat.mul_one]
end
def dp(f:Nat->Rat):Nat->Nat
 |0=>1
 |n+1=>(f n).den*dp f n
def dp_pos{f:Nat->Rat}:∀n,0<dp f n
 |0=>Nat.one_pos
 |n+1=>Nat.mul_pos (f n).den_pos (dp_pos n)
def dp_le{f:Nat->Rat}{W:Nat}:∀{n:Nat},(∀k,k<n->(f k).den<=W)->dp f n<=W^n
 |0,_=>Nat.le_refl _
 |n+1,h=>by
  rw[dp,Nat.pow_succ,Nat.mul_comm];exact Nat.mul_le_mul (dp_le λk hk=>h k qo) (h n qo)
def den_mul(q:Rat):(q.den:Rat)*q=q.num:=by
 have h:=Rat.num_divInt_den q
 have h2:(q.den:Rat)≠0:=by
  intro hx;have:=q.den_nz;exact this (by exact_mod_cast hx)
 rw[Rat.mul_comm];conv=>lhs;lhs;rw[<-h]
 rw[Rat.divInt_eq_div,Rat.div_def,Rat.mul_assoc,show((q.den:Int):Rat)=(q.den:Rat) from rfl,Rat.inv_mul_cancel _ h2,Rat.mul_one]
def dp_int{f:Nat->Rat}:∀{n k:Nat},k<n->∃z:Int,(dp f n:Rat)*f k=z/\z.natAbs<=dp f n*(f k).num.natAbs
 |0,_,h=>by omega
 |n+1,k,h=>by
  rw[dp];by_cases e:k=n
  ·subst e;refine⟨dp f k*(f k).num,?_,?_⟩
   ·have:=den_mul (f k);rw[Rat.intCast_mul,<-this,show((dp f k:Int):Rat)=(dp f k:Rat) from rfl,Rat.natCast_mul];grind
   ·rw[Int.natAbs_mul,Int.natAbs_natCast];exact Nat.mul_le_mul_right _ (Nat.le_mul_of_pos_left _ (f k).den_pos)
  ·obtain⟨z,h1,h2⟩:=dp_int (f:=f) (n:=n) (k:=k) qo;refine⟨(f n).den*z,?_,?_⟩
   ·rw[Rat.intCast_mul,<-h1,show(((f n).den:Int):Rat)=((f n).den:Rat) from rfl,Rat.natCast_mul];grind
   ·rw[Int.natAbs_mul,Int.natAbs_natCast,Nat.mul_assoc];exact Nat.mul_le_mul_left _ h2
end X
end
section
def Sq(k:Nat)(q:Rat):Prop:=(Qx q.num.natAbs).length<=k/\(Qx q.den).length<=k
section
variable {a b:Rat}{k l:Nat}
def Sq.sm(h:Sq k a)(hk:k<=400000000):Sm a:=⟨Nat.le_trans h.1 hk,Nat.le_trans h.2 hk⟩
def Sq.up(h:Sq k a)(hk:k<=l):Sq l a:=⟨Nat.le_trans h.1 hk,Nat.le_trans h.2 hk⟩
def di_num(n:Int)(d:Nat)(hd:d≠0)(h1:(Qx n.natAbs).length<=k)(h2:(Qx d).length<=k):Sq k (mkRat n d):=by
 constructor
 ·rw[Rat.num_mkRat,if_neg hd];exact Nat.le_trans (Jp (Int.natAbs_ediv_le_natAbs _ _)) h1
 ·rw[Rat.den_mkRat,if_neg hd];exact Nat.le_trans (Jp (Nat.div_le_self _ _)) h2
def Sq.zero:Sq 1 0:=by
 constructor
 ·show(Qx 0).length<=1;rw[Jq];decide
 ·show(Qx 1).length<=1;rw[Jl qd qd];decide
def Sq.add(h1:Sq k a)(h2:Sq l b):Sq (k+l+1) (a+b):=by
 rw[Rat.add_def'];refine di_num _ _ (Nat.mul_ne_zero a.den_nz b.den_nz) ?_ ?_
 ·have e1:=Jp (Int.natAbs_add_le (a.num*b.den) (b.num*a.den));have e2:=ZH (a.num*b.den).natAbs (b.num*a.den).natAbs;have e3:=Ju a.num.natAbs b.den;have e4:=Ju b.num.natAbs a.den;rw[J8,J8] at e1 e2;have:=h1.1;have:=h1.2;have:=h2.1;have:=h2.2;omega
 ·have e3:=Ju a.den b.den;have:=h1.2;have:=h2.2;omega
def Sq.neg(h:Sq k a):Sq k (-a):=by
 unfold Sq at *;rw[Rat.neg_num,Rat.neg_den,Int.natAbs_neg];exact h
def Sq.sub(h1:Sq k a)(h2:Sq l b):Sq (k+l+1) (a-b):=by
 rw[Rat.sub_eq_add_neg];exact h1.add h2.neg
def Sq.mul(h1:Sq k a)(h2:Sq l b):Sq (k+l) (a*b):=by
 rw[Rat.mul_def'];refine di_num _ _ (Nat.mul_ne_zero a.den_nz b.den_nz) ?_ ?_
 ·rw[Int.natAbs_mul];have e3:=Ju a.num.natAbs b.num.natAbs;have:=h1.1;have:=h2.1;omega
 ·have e3:=Ju a.den b.den;have:=h1.2;have:=h2.2;omega
def Sq.inv(h0:0<k)(h:Sq k b):Sq k b⁻¹:=by
 obtain⟨h1,h2⟩:=h;constructor
 ·rw[Rat.num_inv,Int.natAbs_mul,Int.natAbs_natCast];by_cases c:b.num=0
  ·rw[c];simp[Jq]
  ·rw[Int.natAbs_sign_of_ne_zero c,Nat.one_mul];exact h2
 ·rw[Rat.den_inv];split
  ·rw[Jl qd qd];exact h0
  ·exact h1
def Sq.div(h0:0<l)(h1:Sq k a)(h2:Sq l b):Sq (k+l) (a/b):=by
 rw[Rat.div_def];exact h1.mul (h2.inv h0)
def Sq.int{n:Int}(h:(Qx n.natAbs).length<=k)(h0:0<k):Sq k (n:Rat):=by
 constructor
 ·rw[Rat.num_intCast];exact h
 ·rw[Rat.den_intCast,Jl qd qd];exact h0
end
namespace X
def Zh{k:Nat}{f:Nat->Rat}:∀{m:Nat},(∀i,i<m->Sq k (f i))->Sq (m*(k+1)+1) (sm m f)
 |0,_=>by rw[Nat.zero_mul];exact Sq.zero
 |m+1,h=>by
  have h1:=(Zh (m:=m) λi hi=>h i qo).add (h m qo);exact h1.up (by rw[Nat.succ_mul];omega)
def bdt_len{K k:Nat}(hK:(Qx K).length<=k):∀{m:Nat},m<1000000000->(Qx (bdt K m)).length<=m*(k+1)+1
 |0,_=>by rw[bdt,Jl qd qd];simp
 |m+1,h=>by
  have e:(m+1)*(k+1)=m*(k+1)+(k+1):=Nat.succ_mul _ _;have h1:=bdt_len hK (m:=m) qo;have h2:=Ju (m+1) (K*bdt K m);have h3:=Ju K (bdt K m);rw[Jl (n:=m+1) qo h] at h2;rw[bdt,e];simp only[List.length_cons,List.length_nil] at h2;omega
end X
end
section
open W Go.RowKit
def IsR(q:Rat):Qg:=λv b G=>∃m:QM,v=qv m/\b=[]/\G=[isQ (qv m) q]
def Zr{P:Program}{f:FuncId}{ag:List Value}{bx:List Ow}{F:List Fct}{q:Rat}(h:FnB P f ag bx F (IsQ q)):FnB P f ag bx F (IsR q):=
 h.mono λv b G ⟨nb,d1,d2,h1,h2,h3,h4⟩=>⟨(nb,d1,d2),h1,h3,h4⟩
namespace Zn
section
variable (m1 m2:QM)(a b:Rat)
def add(ha:Sm a)(hb:Sm b):FnB Tryz.prog 80 [qv m1,qv m2] [] [isQ (qv m1) a,isQ (qv m2) b] (IsR (a+b)):=Zr (Rta.Uo _ _ _ _ ha hb)
def sub(ha:Sm a)(hb:Sm b):FnB Tryz.prog 184 [qv m1,qv m2] [] [isQ (qv m1) a,isQ (qv m2) b] (IsR (a-b)):=Zr (Rtc.sub_c _ _ _ _ ha hb)
def mul(ha:Sm a)(hb:Sm b):FnB Tryz.prog 81 [qv m1,qv m2] [] [isQ (qv m1) a,isQ (qv m2) b] (IsR (a*b)):=Zr (Rmu.YA _ _ _ _ ha hb)
def div(ha:Sm a)(hb:Sm b):FnB Tryz.prog 221 [qv m1,qv m2] [] [isQ (qv m1) a,isQ (qv m2) b] (IsR (a/b)):=Zr (Rmu.div_c _ _ _ _ ha hb)
def neg:FnB Tryz.prog 120 [qv m1] [] [isQ (qv m1) a] (IsR (-a)):=Zr (Rta.V7 _ _)
def cmp(ha:Sm a)(hb:Sm b):FnB Tryz.prog 171 [qv m1,qv m2] [] [isQ (qv m1) a,isQ (qv m2) b] (IsV (.int .i64 (Y8 a b))):=Rtc.qcompare_c _ _ _ _ ha hb
def sign:FnB Tryz.prog 79 [qv m1] [] [isQ (qv m1) a] (IsV (.int .i64 (sgn a.num))):=Rta.sign_c _ _
def same:FnB Tryz.prog 218 [qv m1,qv m2] [] [isQ (qv m1) a,isQ (qv m2) b] (IsV (.bool (decide (a=b)))):=Rtc.same_c _ _ _ _
def of(p q:Int)(h1:p.natAbs<B2)(h2:q.natAbs<B2):FnB Tryz.prog 101 [.int .i64 p,.int .i64 q] [] [] (IsR (Rat.divInt p q)):=Zr (Rta.Yo p q h1 h2)
def rof(p q:Int)(h1:p.natAbs<B2)(h2:q.natAbs<B2):FnB Tryz.prog 30 [.int .i64 p,.int .i64 q] [] [] (IsR (Rat.divInt p q)):=Zr (Rp.rqof_c p q h1 h2)
end
end Zn
def JO{q:Rat}:sgn q.num=0↔q=0:=by
 rw[<-Rat.num_eq_zero];unfold sgn;split<;>(try split)<;>omega
def num_neg'{q:Rat}:q.num<0↔q<0:=by
 rw[Rat.lt_iff];simp
def num_pos'{q:Rat}:0<q.num↔0<q:=by
 rw[Rat.lt_iff];simp
def Xn{q:Rat}:sgn q.num<0↔q<0:=by
 rw[<-num_neg'];unfold sgn;split<;>(try split)<;>omega
def Gw{q:Rat}:0<sgn q.num↔0<q:=by
 rw[<-num_pos'];unfold sgn;split<;>(try split)<;>omega
end
section
open W Go.RowKit
def wpx(l r:Nat->Rat)(f:Rat)(k j:Nat):Rat:=if j<k then l j-f*r j else l j
def wpx_up{l r:Nat->Rat}{f:Rat}{k:Nat}(i:Nat):upd (wpx l r f k) k (wpx l r f k k-f*r k) i=wpx l r f (k+1) i:=by
 unfold wpx upd;by_cases c:i=k
 ·subst c;simp
 ·by_cases c2:i<k
  ·simp[c,c2,show i<k+1 by omega]
  ·simp[c,c2,show ¬i<k+1 by omega]
def wpx_keep{l r:Nat->Rat}{f:Rat}{k:Nat}(h:r k=0)(i:Nat):wpx l r f k i=wpx l r f (k+1) i:=by
 unfold wpx;by_cases c:i=k
 ·subst c;simp[h];grind
 ·by_cases c2:i<k
  ·simp[c2,show i<k+1 by omega]
  ·simp[c2,show ¬i<k+1 by omega]
def IsWp(lv rw:Value)(n:Nat)(mr:Nat->QM)(z:Nat->Rat):Qg:=λv B G=>∃ml,v=.tuple #[]/\B=[Ow.slice lv 75 4 (Qe n ml),Ow.slice rw 75 4 (Qe n mr)]/\G=[mF n ml z]
namespace Z
attribute [local irreducible] WC WL WD YO LO Qq W.Fin Qk Qw Qj Row QJ Qv KnS Has W.One Qa Qs
def d190{G G':Prop}(h:G')(s:Bx G'->G:=by
 intro h;first|refine gB ?_|(apply WC.draw (id:=6) [0,1,2,3,4,5,6,7,10] (.h 0<|.h 1<|.h 2<|.h 3<|.h 4<|.h 5<|.h 6<|.h 7<|.l 8<|.l 9<|.h 10<|.l 11 .done) mixed kr)|fail
 exact Bx.h h):G:=s ⟨h⟩
def wipe_c(lv rw:Value)(n col K:Nat)(ml mr:Nat->QM)(l r:Nat->Rat)(hc:col<n)(hn:n<=100000)(hK:K<=100000000)(hl:∀k,k<n->Sq K (l k))(hr:∀k,k<n->Sq K (r k)) :
  FnB Tryz.prog 190 [lv,rw,.int .i64 (col:Int)] [Ow.slice lv 75 4 (Qe n ml),Ow.slice rw 75 4 (Qe n mr)] [mF n ml l,mF n mr r] (IsWp lv rw n mr (λk=>l k-l col*r k)):=by
 refine fO [(0,lv),(1,rw),(2,(.int .i64 (col:Int)))] 38 Tryz.func190 Tryz.ntmps190 λh0=>?_;have hsm:∀{q},Sq K q->Sm q:=λh=>h.sm qo;refine WC.fact (isQ (qv (ml col)) (l col)) (W.Has.q hmA hc) ?_;repeat'(first|intro(g:Nat)|refine d190 ?_|intro v)
 refine cV (Zn.sign (ml col) (l col)) ?_;revert g;intro g6;by_cases c0:l col=0
 ·have hz:=JO.2 c0;repeat'(first|intro(g:Nat)|refine d190 ?_|intro v)
  refine WC.fact (mF n ml (λk=>l k-l col*r k)) (W.Has.QH (qf:=l) hmA (λi _=>by rw[c0];grind)) ?_;refine WC.ret ?_;exact Fin.p [Ow.slice lv 75 4 (Qe n ml),Ow.slice rw 75 4 (Qe n mr)] [mF n ml (λk=>l k-l col*r k)] (Qh.t0 rfl) meA slA haA ⟨_,rfl,rfl,rfl⟩
 have hz:¬sgn (l col).num=0:=λh=>c0 (JO.1 h);repeat'(first|intro(g:Nat)|refine d190 ?_|intro v)
 refine WC.lp (σ:=Nat×(Nat->QM)) (λs=>[(18,.int .i64 (s.1:Int)),(17,.int .i64 (n:Int)),(16,rw),(0,lv),(6,ptr g6)]) (λs=>[Ow.cells g6 75 (qcs (ml col)),Ow.slice lv 75 4 (Qe n s.2),Ow.slice rw 75 4 (Qe n mr)])
  (λs=>[isQ (qv (ml col)) (l col),mF n s.2 (wpx l r (l col) s.1),mF n mr r,ge h0]) (λs=>s.1<=n) (λs=>n-s.1) (0,ml) (Nat.zero_le _) ?_ (hG:=.cons hmA (.cons (W.Has.QH (qf:=l) hmA λi _=>by simp[wpx]) (.cons hmA (.cons hmA .nil))))
 rintro⟨k,mx⟩ hk;simp only at hk ⊢;by_cases c:k<n
 ·refine WC.fact (isQ (qv (mr k)) (r k)) (W.Has.q (ms:=mr) hmA c) ?_;refine WC.fact (isQ (qv (mx k)) (wpx l r (l col) k k)) (W.Has.q (ms:=mx) hmA c) ?_;have hw:wpx l r (l col) k k=l k:=by simp[wpx]
  repeat'(first|intro(g:Nat)|refine d190 ?_|intro v)
  refine cV (Zn.sign (mr k) (r k)) ?_;by_cases c1:r k=0
  ·have hz1:=JO.2 c1;repeat'(first|intro(g:Nat)|refine d190 ?_|intro v)
   exact Qq.mk (k+1,mx) (by show k+1<=n;omega) (by show n-(k+1)<n-k;omega) (hG:=.cons hmA (.cons (W.Has.QH (qf:=wpx l r (l col) k) hmA λi _=>wpx_keep c1 i) (.cons hmA (.cons hmA .nil))))
  ·have hz1:¬sgn (r k).num=0:=λh=>c1 (JO.1 h);repeat'(first|intro(g:Nat)|refine d190 ?_|intro v)
   refine cW (Zn.mul (ml col) (mr k) (l col) (r k) (hsm (hl col hc)) (hsm (hr k c))) λm1=>?_;repeat'(first|intro(g:Nat)|refine d190 ?_|intro v)
   refine cW (Zn.sub (mx k) m1 (wpx l r (l col) k k) (l col*r k) (by rw[hw];exact hsm (hl k c)) (((hl col hc).mul (hr k c)).sm qo)) λm2=>?_;refine WD.fact (mF n (upd mx k m2) (wpx l r (l col) (k+1))) ((W.Has.JL (k:=k) (ms:=mx) (m:=m2) (qf:=wpx l r (l col) k) hmA hmA).QH λi _=>wpx_up i) ?_;repeat'(first|intro(g:Nat)|refine d190 ?_|intro v)
   exact Qq.mk (k+1,_) (by show k+1<=n;omega) (by show n-(k+1)<n-k;omega)
 ·obtain rfl:k=n:=qo;repeat'(first|intro(g:Nat)|refine d190 ?_|intro v)
  exact Fin.p [Ow.slice lv 75 4 (Qe k mx),Ow.slice rw 75 4 (Qe k mr)] [mF k mx (λj=>l j-l col*r j)] (Qh.t0 rfl) meA slA (.cons (W.Has.QH (qf:=wpx l r (l col) k) hmA (λi hi=>by simp[wpx,hi])) .nil) ⟨_,rfl,rfl,rfl⟩
end Z
end
section
open W Go.RowKit
abbrev TB(xg vars m n:Nat)(tv cv bv:Value)(rv:Nat->Value)(ms:Nat->Nat->QM)(mc:Nat->QM)(b:Nat->Nat):List Ow:=
 Ow.cells xg 177 [.int .i64 (vars:Int),.int .i64 (m:Int),.int .i64 (n:Int),tv,cv,bv]::Ow.slice tv 61 1 (fnV m rv)::Ow.slice cv 75 4 (Qe (n+1) mc)::Ow.slice bv 3 1 (ints (fnL m b))::JB m (n+1) rv ms
def IsTB(xg vars m n:Nat)(tv cv bv:Value)(rv:Nat->Value)(s:X.St):Qg:=λv B G=>∃ms mc,v=.tuple #[]/\B=TB xg vars m n tv cv bv rv ms mc s.b/\G=[mT m (n+1) ms s.t,mF (n+1) mc s.c]
def dvx(l:Nat->Rat)(d:Rat)(k j:Nat):Rat:=if j<k then l j/d else l j
def dvx_up{l:Nat->Rat}{d:Rat}{k:Nat}(i:Nat):upd (dvx l d k) k (dvx l d k k/d) i=dvx l d (k+1) i:=by
 unfold dvx upd;by_cases c:i=k
 ·subst c;simp
 ·by_cases c2:i<k
  ·simp[c,c2,show i<k+1 by omega]
  ·simp[c,c2,show ¬i<k+1 by omega]
def pvx(s:X.St)(row col i j k:Nat):Rat:=if j=row then s.t row k/s.t row col else if j<i then s.t j k-s.t j col*(s.t row k/s.t row col) else s.t j k
namespace Z
attribute [local irreducible] WC WL WD YO LO Qq W.Fin Qk Qw Qj Row QJ Qv KnS Has W.One Qa Qs
def d193{G G':Prop}(h:G')(s:Bx G'->G:=by
 intro h;first|refine gB ?_|(apply WC.draw (id:=4) [0,1,2,3,4,5,6,7,8,9,11] (.h 0<|.h 1<|.h 2<|.h 3<|.h 4<|.h 5<|.h 6<|.h 7<|.h 8<|.h 9<|.l 10<|.h 11<|.l 12 .done) mixed kr)|(apply WC.draw (id:=12) [0,1,2,3,4,5,6,7,8,9,10,11] (.h 0<|.h 1<|.h 2<|.h 3<|.h 4<|.h 5<|.h 6<|.h 7<|.h 8<|.h 9<|.h 10<|.h 11<|.l 12 .done) mixed kr)|fail
 exact Bx.h h):G:=s ⟨h⟩
def pivot_c(xg vars m n:Nat)(tv cv bv:Value)(rv:Nat->Value)(ms:Nat->Nat->QM)(mc:Nat->QM)(s:X.St)(row col K:Nat)(hrow:row<m)(hcol:col<n)(hm:m<=1000)(hn:n<=10000)(hK:K<=20000000)(hK0:0<K)(hs:∀i,i<m->∀k,k<n+1->Sq K (s.t i k))(hc:∀k,k<n+1->Sq K (s.c k)) :
  FnB Tryz.prog 193 [ptr xg,.int .i64 (row:Int),.int .i64 (col:Int)] (TB xg vars m n tv cv bv rv ms mc s.b) [mT m (n+1) ms s.t,mF (n+1) mc s.c] (IsTB xg vars m n tv cv bv rv (X.pv s row col)):=by
 refine fO [(0,(ptr xg)),(1,(.int .i64 (row:Int))),(2,(.int .i64 (col:Int)))] 91 Tryz.func193 Tryz.ntmps193 λh0=>?_;have hsm:∀{q},Sq K q->Sm q:=λh=>h.sm qo;refine WC.perm (Ow.cells xg 177 [.int .i64 (vars:Int),.int .i64 (m:Int),.int .i64 (n:Int),tv,cv,bv]::Ow.slice tv 61 1 (fnV m rv)::Ow.slice cv 75 4 (Qe (n+1) mc)::Ow.slice bv 3 1 (ints (fnL m s.b))::XW (n+1) (rv row) (ms row)::Zy m (n+1) rv ms row) ((((((JM hrow).cons _).cons _).cons _).cons _)) ?_;refine WC.fact (isQ (qv (ms row col)) (s.t row col)) (W.Has.qt hmA hrow qo) ?_;refine WC.fact (mF (n+1) (ms row) (s.t row)) (W.Has.tm hmA hrow) ?_;repeat'(first|intro(g:Nat)|refine d193 ?_|intro v)
 revert g;intro g6;have hd:=hs row hrow col qo
 refine WC.lp (σ:=Nat×(Nat->QM)) (λst=>[(29,.int .i64 (st.1:Int)),(28,.int .i64 ((n+1:Nat):Int)),(27,rv row),(0,ptr xg),(1,.int .i64 (row:Int)),(2,.int .i64 (col:Int)),(6,ptr g6)])
  (λst=>Ow.cells g6 75 (qcs (ms row col))::Ow.cells xg 177 [.int .i64 (vars:Int),.int .i64 (m:Int),.int .i64 (n:Int),tv,cv,bv]::Ow.slice tv 61 1 (fnV m rv)::Ow.slice cv 75 4 (Qe (n+1) mc)::Ow.slice bv 3 1 (ints (fnL m s.b))::XW (n+1) (rv row) st.2::Zy m (n+1) rv ms row)
  (λst=>[isQ (qv (ms row col)) (s.t row col),mF (n+1) st.2 (dvx (s.t row) (s.t row col) st.1),mT m (n+1) ms s.t,mF (n+1) mc s.c,ge h0]) (λst=>st.1<=n+1) (λst=>n+1-st.1) (0,ms row) (Nat.zero_le _) ?_ (hG:=.cons hmA (.cons (W.Has.QH (qf:=s.t row) hmA λi _=>by simp[dvx]) (.cons hmA (.cons hmA (.cons hmA .nil)))))
 rintro⟨k,mx⟩ hk;simp only at hk ⊢;by_cases c:k<n+1
 ·refine WC.fact (isQ (qv (mx k)) (dvx (s.t row) (s.t row col) k k)) (W.Has.q (ms:=mx) hmA c) ?_;have hw:dvx (s.t row) (s.t row col) k k=s.t row k:=by simp[dvx]
  repeat'(first|intro(g:Nat)|refine d193 ?_|intro v)
  refine cW (Zn.div (mx k) (ms row col) (dvx (s.t row) (s.t row col) k k) (s.t row col) (by rw[hw];exact hsm (hs row hrow k c)) (hsm hd)) λm2=>?_;refine WD.fact (mF (n+1) (upd mx k m2) (dvx (s.t row) (s.t row col) (k+1))) ((W.Has.JL (k:=k) (ms:=mx) (m:=m2) (qf:=dvx (s.t row) (s.t row col) k) hmA hmA).QH λi _=>dvx_up i) ?_;repeat'(first|intro(g:Nat)|refine d193 ?_|intro v)
  exact Qq.mk (k+1,_) (by show k+1<=n+1;omega) (by show n+1-(k+1)<n+1-k;omega)
 ·obtain rfl:k=n+1:=qo;repeat'(first|intro(g:Nat)|refine d193 ?_|intro v)
  refine WC.fact (mT m (n+1) (upd ms row mx) (pvx s row col 0)) ((W.Has.tset (ms:=ms) (tq:=s.t) (i:=row) hmA (x:=mx) hmA).tsame λi _ k hk=>?_) ?_
  ·unfold upd pvx dvx;by_cases c:i=row
   ·simp[c,hk]
   ·simp[c]
  refine WC.perm (Ow.cells g6 75 (qcs (ms row col))::Ow.cells xg 177 [.int .i64 (vars:Int),.int .i64 (m:Int),.int .i64 (n:Int),tv,cv,bv]::Ow.slice tv 61 1 (fnV m rv)::Ow.slice cv 75 4 (Qe (n+1) mc)::Ow.slice bv 3 1 (ints (fnL m s.b))::JB m (n+1) rv (upd ms row mx)) ((((((rows_upd hrow).symm.cons _).cons _).cons _).cons _).cons _) ?_
  refine WC.lpP (σ:=Nat×(Nat->Nat->QM)) (λst=>[(52,.int .i64 (st.1:Int)),(51,.int .i64 (m:Int)),(50,tv),(0,ptr xg),(1,.int .i64 (row:Int)),(2,.int .i64 (col:Int))])
   (λst=>Ow.cells xg 177 [.int .i64 (vars:Int),.int .i64 (m:Int),.int .i64 (n:Int),tv,cv,bv]::Ow.slice tv 61 1 (fnV m rv)::Ow.slice cv 75 4 (Qe (n+1) mc)::Ow.slice bv 3 1 (ints (fnL m s.b))::JB m (n+1) rv st.2)
   (λst=>[mT m (n+1) st.2 (pvx s row col st.1),mF (n+1) mc s.c,ge h0]) (λst=>st.1<=m) (λst=>m-st.1) (0,upd ms row mx) (Nat.zero_le _) ?_
  clear c hk;rintro⟨i,mt⟩ hi;simp only at hi ⊢;have hdq:∀k,k<n+1->Sq (2*K) (s.t row k/s.t row col):=λk hk=>(Sq.div hK0 (hs row hrow k hk) hd).up qo;have hrq:∀k,k<n+1->Sq (2*K) (pvx s row col i row k):=λk hk=>by unfold pvx;rw[if_pos rfl];exact hdq k hk
  by_cases ci:i<m
  ·by_cases cr:i=row
   ·repeat'(first|intro(g:Nat)|refine d193 ?_|intro v)
    exact J7.mk (i+1,mt) (by show i+1<=m;omega) (by show m-(i+1)<m-i;omega) [] (by rw[List.append_nil]) (hG:=.cons (W.Has.tsame (tq:=pvx s row col i) hmA λj _ k _=>by
     unfold pvx;by_cases c1:j=row
     ·rw[if_pos c1,if_pos c1]
     ·rw[if_neg c1,if_neg c1];by_cases c2:j<i
      ·rw[if_pos c2,if_pos qo]
      ·rw[if_neg c2,if_neg qo]) (.cons hmA (.cons hmA .nil)))
   ·have hiq:∀k,k<n+1->Sq (2*K) (pvx s row col i i k):=λk hk=>by unfold pvx;rw[if_neg cr,if_neg qo];exact(hs i ci k hk).up qo
    repeat'(first|intro(g:Nat)|refine d193 ?_|intro v)
    refine WL.QE (mF (n+1) (mt i) (pvx s row col i i)) (W.Has.tm hmA ci) ?_;refine WL.QE (mF (n+1) (mt row) (pvx s row col i row)) (W.Has.tm hmA hrow) ?_;refine WL.YZ [XW (n+1) (rv i) (mt i),XW (n+1) (rv row) (mt row)] (Ow.cells xg 177 [.int .i64 (vars:Int),.int .i64 (m:Int),.int .i64 (n:Int),tv,cv,bv]::Ow.slice tv 61 1 (fnV m rv)::Ow.slice cv 75 4 (Qe (n+1) mc)::Ow.slice bv 3 1 (ints (fnL m s.b))::Hk m (n+1) rv mt row i) (perm6 (rows_two hrow ci cr)) (wipe_c (rv i) (rv row) (n+1) col (2*K) (mt i) (mt row) (pvx s row col i i) (pvx s row col i row) qo qo qo hiq hrq) ?_;rintro _ _ _ ⟨mi,rfl,rfl,rfl⟩;refine sNn ?_;refine WL.QE (mT m (n+1) (upd mt i mi) (pvx s row col (i+1))) ((W.Has.tset (ms:=mt) (tq:=pvx s row col i) (i:=i) hmA (x:=mi) hmA).tsame λj _ k _=>?_) ?_
    ·unfold upd;by_cases c1:j=i
     ·subst c1;rw[if_pos rfl];unfold pvx;rw[if_neg cr,if_neg qo,if_pos rfl,if_neg cr,if_neg qo,if_neg cr,if_pos qo]
     ·rw[if_neg c1];unfold pvx;by_cases c3:j=row
      ·rw[if_pos c3,if_pos c3]
      ·rw[if_neg c3,if_neg c3];by_cases c2:j<i
       ·rw[if_pos c2,if_pos qo]
       ·rw[if_neg c2,if_neg qo]
    repeat'(first|intro(g:Nat)|refine d193 ?_|intro v)
    exact J7.mk (i+1,upd mt i mi) (by show i+1<=m;omega) (by show m-(i+1)<m-i;omega) [] (by rw[List.append_nil];exact(perm6 (Gj hrow ci cr)).symm)
  ·obtain rfl:m=i:=qo;repeat'(first|intro(g:Nat)|refine d193 ?_|intro v)
   refine WD.fact (mF (n+1) (mt row) (pvx s row col m row)) (W.Has.tm hmA hrow) ?_;refine WD.YZ [Ow.slice cv 75 4 (Qe (n+1) mc),XW (n+1) (rv row) (mt row)] (Ow.cells xg 177 [.int .i64 (vars:Int),.int .i64 (m:Int),.int .i64 (n:Int),tv,cv,bv]::Ow.slice tv 61 1 (fnV m rv)::Ow.slice bv 3 1 (ints (fnL m s.b))::Zy m (n+1) rv mt row) (perm5 (JM hrow)) (wipe_c cv (rv row) (n+1) col (2*K) mc (mt row) s.c (pvx s row col m row) qo qo qo (λk hk=>(hc k hk).up qo) hrq) ?_;rintro _ _ _ ⟨mc2,rfl,rfl,rfl⟩;refine sNn ?_;refine WD.perm (Ow.cells xg 177 [.int .i64 (vars:Int),.int .i64 (m:Int),.int .i64 (n:Int),tv,cv,bv]::Ow.slice tv 61 1 (fnV m rv)::Ow.slice cv 75 4 (Qe (n+1) mc2)::Ow.slice bv 3 1 (ints (fnL m s.b))::JB m (n+1) rv mt) (perm5 (JM hrow)).symm ?_;have hfl:=fnL_len m s.b;repeat'(first|intro(g:Nat)|refine d193 ?_|intro v)
   rw[fnL_set]
   exact Fin.p (TB xg vars m n tv cv bv rv mt mc2 (X.pv s row col).b) [mT m (n+1) mt (X.pv s row col).t,mF (n+1) mc2 (X.pv s row col).c] (Qh.t0 rfl) meA (List.Sublist.refl _) (.cons (W.Has.tsame (tq:=pvx s row col m) hmA λj hj k _=>by
    unfold pvx X.pv;simp only;by_cases c1:j=row
    ·rw[if_pos c1,if_pos c1]
    ·rw[if_neg c1,if_neg c1,if_pos hj]) (.cons (W.Has.QH (qf:=λk=>s.c k-s.c col*pvx s row col m row k) hmA λk _=>by unfold pvx X.pv;simp) .nil)) ⟨mt,mc2,rfl,rfl,rfl⟩
end Z
end
section
open W Go.RowKit
abbrev TF(xg vars m n:Nat)(tv cv bv:Value)(rv:Nat->Value)(ms:Nat->Nat->QM)(s:X.St):List Fct:=
 [ce xg 177 [.int .i64 (vars:Int),.int .i64 (m:Int),.int .i64 (n:Int),tv,cv,bv],sV tv m rv,rF m (n+1) rv ms s.t,sN bv m s.b]
def Xt:Option Nat->Int
 |none=>-1
 |some r=>r
def HL{n:Nat}{s:X.St}{k:Nat}:∀{i r:Nat},X.lev n s k i=some r->r<i
 |0,_,h=>by simp[X.lev] at h
 |i+1,r,h=>by
  rw[X.lev] at h;split at h
  ·have:=HL h;omega
  ·split at h
   ·cases h;omega
   ·rename_i q hq
    have:=HL hq;split at h<;>(cases h;omega)
def lst(n:Nat)(s:X.St)(k i:Nat):Rat:=match X.lev n s k i with
 |none=>0
 |some r=>s.t r n/s.t r k
def le_iff{q:Rat}:sgn q.num<=0↔q<=0:=by
 have:=@Gw q;rw[<-Rat.not_lt,<-this];omega
namespace Z
attribute [local irreducible] WC WL WD YO LO Qq W.Fin Qk Qw Qj Row QJ Qv KnS Has W.One Qa Qs
def d192{G G':Prop}(h:G')(s:Bx G'->G:=by
 intro h;first|refine gM ?_|(apply WC.draw (id:=7) [0,1,2,3,4,5,6,7,8,9,10] (.h 0<|.h 1<|.h 2<|.h 3<|.h 4<|.h 5<|.h 6<|.h 7<|.h 8<|.h 9<|.h 10<|.m 11 (.l 12<|.l 13 .done) (.l 12<|.l 11<|.l 13 .done)) mixed kr)|(apply WC.draw (id:=11) [0,1,2,3,4,5,6,7,8,9,10,11,12,13,14,15,16,17,18,19,20,21,22] (.h 0<|.h 1<|.h 2<|.h 3<|.h 4<|.h 5<|.h 6<|.h 7<|.h 8<|.h 9<|.h 10<|.h 11<|.h 12<|.h 13<|.h 14<|.h 15<|.h 16<|.h 17<|.h 18<|.h 19<|.h 20<|.h 21<|.h 22 .done) mixed kr)|(apply WC.draw (id:=12) [0,1,2] (.h 0<|.h 1<|.h 2<|.l 3 .done) mixed kr)|fail
 exact Bx.h h):G:=s ⟨h⟩
def leaving_c(xg vars m n:Nat)(tv cv bv:Value)(rv:Nat->Value)(ms:Nat->Nat->QM)(s:X.St)(col K:Nat)(hcol:col<n)(hm:m<=1000)(hn:n<=10000)(hK:K<=20000000)(hK0:0<K)(hs:∀i,i<m->∀k,k<n+1->Sq K (s.t i k)) :
  FnB Tryz.prog 192 [ptr xg,.int .i64 (col:Int)] [] (TF xg vars m n tv cv bv rv ms s) (IsV (.int .i64 (Xt (X.lev n s col m)))):=by
 refine fO [(0,(ptr xg)),(1,(.int .i64 (col:Int)))] 71 Tryz.func192 Tryz.ntmps192 λh0=>?_;have hsm:∀{q},Sq K q->Sm q:=λh=>h.sm qo;repeat'(first|intro(g:Nat)|refine d192 ?_|refine gN ?_ ?_|intro v)
 revert g;intro g6
 refine WC.lp (σ:=Nat×Int×QM×Rat) (λst=>[(5,.int .i64 st.2.1),(16,.int .i64 (st.1:Int)),(15,.int .i64 (m:Int)),(14,tv),(0,ptr xg),(1,.int .i64 (col:Int)),(6,ptr g6)]) (λst=>[Ow.cells g6 75 (qcs st.2.2.1)])
  (λst=>isQ (qv st.2.2.1) st.2.2.2::ge h0::TF xg vars m n tv cv bv rv ms s) (λst=>st.1<=m/\st.2.1=Xt (X.lev n s col st.1)/\st.2.2.2=lst n s col st.1) (λst=>m-st.1) (0,-1,m00,0) ⟨Nat.zero_le _,rfl,rfl⟩ ?_ (hG:=.cons Jm sfA)
 rintro⟨i,bi,ml,ql⟩ ⟨hi,hbi,hql⟩;simp only at hi hbi hql ⊢;by_cases c:i<m
 ·refine WC.fact (isQ (qv (ms i col)) (s.t i col)) (W.Has.qt (W.Has.rt (rv:=rv) hmA) c qo) ?_;refine WC.fact (isQ (qv (ms i n)) (s.t i n)) (W.Has.qt (W.Has.rt (rv:=rv) hmA) c qo) ?_;repeat'(first|intro(g:Nat)|refine d192 ?_|refine gN ?_ ?_|intro v)
  refine cV (Zn.sign (ms i col) (s.t i col)) ?_;by_cases c1:s.t i col<=0
  ·have hz:=le_iff.2 c1;have e1:X.lev n s col (i+1)=X.lev n s col i:=by rw[X.lev,if_pos c1]
   have e2:lst n s col (i+1)=lst n s col i:=by unfold lst;rw[e1]
   repeat'(first|intro(g:Nat)|refine d192 ?_|refine gN ?_ ?_|intro v)
   exact Qq.mk (i+1,bi,ml,ql) ⟨by show i+1<=m;omega,by rw[e1];exact hbi,by rw[e2];exact hql⟩ (by show m-(i+1)<m-i;omega)
  ·have hz:¬sgn (s.t i col).num<=0:=λh=>c1 (le_iff.1 h);have hdv:Sq (2*K) (s.t i n/s.t i col):=(Sq.div hK0 (hs i c n qo) (hs i c col qo)).up qo;repeat'(first|intro(g:Nat)|refine gA ?_|intro v)
   refine WC.cutP (σ:=Nat×QM) (λst=>[(9,ptr st.1),(7,.int .i64 (i:Int)),(5,.int .i64 bi),(16,.int .i64 (i:Int)),(15,.int .i64 (m:Int)),(14,tv),(0,ptr xg),(1,.int .i64 (col:Int)),(6,ptr g6)]) (λst=>[Ow.cells st.1 75 (qcs st.2),Ow.cells g6 75 (qcs ml)])
    (λst=>isQ (qv st.2) (s.t i n/s.t i col)::isQ (qv ml) ql::ge h0::TF xg vars m n tv cv bv rv ms s) (λ_=>True) ?_ ?_
   ·repeat'(first|intro(g:Nat)|refine d192 ?_|refine gN ?_ ?_|refine cW (Zn.div (ms i n) (ms i col) (s.t i n) (s.t i col) (hsm (hs i c n qo)) (hsm (hs i c col qo))) λzm=>?_|intro v)
    all_goals(apply Ex2;refine⟨trivial,?_,?_,?_⟩;(focus(repeat(first|exact Sub.nil _|refine Sub.cons rfl ?_)));(focus(repeat(first|exact Ye.nil _|(apply Ye.cons;(repeat(first|exact Rem.head|apply Rem.tail))))));(focus(repeat(first|exact Qu.nil|(apply Qu.cons;exact hsA)))))
   rintro⟨g9,mq⟩ _;simp only;cases hL:X.lev n s col i with
   |none=>
    rw[hL] at hbi;have hb1:bi= -1:=hbi;have e1:X.lev n s col (i+1)=some i:=by rw[X.lev,if_neg c1,hL]
    repeat'(first|intro(g:Nat)|refine d192 ?_|refine gN ?_ ?_|intro v)
    exact Qq.mk (i+1,(i:Int),mq,_) ⟨by show i+1<=m;omega,by show(i:Int)=Xt (X.lev n s col (i+1));rw[e1];rfl,by unfold lst;rw[e1]⟩ (by show m-(i+1)<m-i;omega)
   |some r=>
    rw[hL] at hbi;obtain rfl:bi=(r:Int):=hbi;have hri:=HL hL;have hq:ql=s.t r n/s.t r col:=by rw[hql];unfold lst;rw[hL]
    have hlq:Sq (2*K) ql:=by rw[hq];exact(Sq.div hK0 (hs r qo n qo) (hs r qo col qo)).up qo
    repeat'(first|intro(g:Nat)|refine d192 ?_|refine gN ?_ ?_|intro v)
    refine cV (Zn.cmp mq ml (s.t i n/s.t i col) ql (hdv.sm qo) (hlq.sm qo)) ?_;have hlt:=@cmpQ_lt (s.t i n/s.t i col) ql;have heq:=@cmpQ_eq (s.t i n/s.t i col) ql;generalize Y8 (s.t i n/s.t i col) ql=cq at *;by_cases k1:cq<0
    ·have e1:X.lev n s col (i+1)=some i:=by rw[X.lev,if_neg c1,hL];exact if_pos (.inl (by rw[<-hq];exact hlt.1 k1))
     repeat'(first|intro(g:Nat)|refine d192 ?_|refine gN ?_ ?_|intro v)
     exact Qq.mk (i+1,(i:Int),mq,_) ⟨by show i+1<=m;omega,by show(i:Int)=Xt (X.lev n s col (i+1));rw[e1];rfl,by unfold lst;rw[e1]⟩ (by show m-(i+1)<m-i;omega)
    ·by_cases k2:cq=0
     ·by_cases k3:s.b i<s.b r
      ·have e1:X.lev n s col (i+1)=some i:=by rw[X.lev,if_neg c1,hL];exact if_pos (.inr ⟨by rw[<-hq];exact heq.1 k2,k3⟩)
       repeat'(first|intro(g:Nat)|refine d192 ?_|refine gN ?_ ?_|intro v)
       exact Qq.mk (i+1,(i:Int),mq,_) ⟨by show i+1<=m;omega,by show(i:Int)=Xt (X.lev n s col (i+1));rw[e1];rfl,by unfold lst;rw[e1]⟩ (by show m-(i+1)<m-i;omega)
      ·have e1:X.lev n s col (i+1)=some r:=by rw[X.lev,if_neg c1,hL];exact if_neg (by rw[<-hq];rintro(h|h);exact k1 (hlt.2 h);exact k3 h.2)
       repeat'(first|intro(g:Nat)|refine d192 ?_|refine gN ?_ ?_|intro v)
       exact Qq.mk (i+1,(r:Int),ml,ql) ⟨by show i+1<=m;omega,by show(r:Int)=Xt (X.lev n s col (i+1));rw[e1];rfl,by unfold lst;rw[e1];exact hq⟩ (by show m-(i+1)<m-i;omega)
     ·have e1:X.lev n s col (i+1)=some r:=by rw[X.lev,if_neg c1,hL];exact if_neg (by rw[<-hq];rintro(h|h);exact k1 (hlt.2 h);exact k2 (heq.2 h.1))
      repeat'(first|intro(g:Nat)|refine d192 ?_|refine gN ?_ ?_|intro v)
      exact Qq.mk (i+1,(r:Int),ml,ql) ⟨by show i+1<=m;omega,by show(r:Int)=Xt (X.lev n s col (i+1));rw[e1];rfl,by unfold lst;rw[e1];exact hq⟩ (by show m-(i+1)<m-i;omega)
 ·obtain rfl:m=i:=qo;rw[<-hbi];repeat'(first|intro(g:Nat)|refine d192 ?_|refine gN ?_ ?_|intro v)
  refine WC.ret ?_;exact Fin.v (Qh.t1 rfl rfl) meA rfl
end Z
end
section
open W Go.RowKit
def IsF(n:Nat)(q:Nat->Rat):Qg:=λv B G=>∃ms,B=[]/\G=[fF v n ms q]
def Uq{p:Nat->Bool}{n i:Nat}(h:i<n):X.fstT p (n-i) i=if p i=true then some i else X.fstT p (n-(i+1)) (i+1):=by
 rw[show n-i=n-(i+1)+1 by omega,X.fstT]
def VP{F:List Fct}(ms:Nat->QM)(q:Nat->Rat):Has F (fF (.slice none 0 0) 0 ms q):=λp hf=>⟨⟨none,0,rfl,Nat.le_refl _,by unfold maxLen;omega,.inl ⟨rfl,rfl,rfl⟩⟩,λi hi=>absurd hi qo⟩
namespace Z
attribute [local irreducible] WC WL WD YO LO Qq W.Fin Qk Qw Qj Row QJ Qv KnS Has W.One Qa Qs
def index_c(v:Value)(m k:Nat)(b:Nat->Nat):FnB Tryz.prog 198 [v,.int .i64 (k:Int)] [] [sN v m b] (IsV (.int .i64 (Xt (X.fstT (λi=>decide (b i=k)) m 0)))):=by
 refine fO [(0,v),(1,(.int .i64 (k:Int)))] 19 Tryz.func198 Tryz.ntmps198 λh0=>?_;refine WC.lenF (v:=v) (m:=m) hmA λhm=>?_;repeat'(first|intro(g:Nat)|refine gA ?_|intro v)
 refine WC.lp (σ:=Nat) (λi=>[(8,.int .i64 (i:Int)),(7,.int .i64 (m:Int)),(0,v),(1,.int .i64 (k:Int))]) (λ_=>[]) (λ_=>[ge h0,sN v m b]) (λi=>i<=m/\X.fstT (λi=>decide (b i=k)) m 0=X.fstT (λi=>decide (b i=k)) (m-i) i) (λi=>m-i) 0 ⟨Nat.zero_le _,rfl⟩ ?_;rintro i ⟨hi,he⟩;by_cases c:i<m
 ·rw[Uq c] at he;by_cases c1:b i=k
  ·rw[if_pos (decide_eq_true c1)] at he;rw[he];repeat'(first|intro(g:Nat)|refine gA ?_|intro v)
   refine WC.ret ?_;exact Fin.v (Qh.t1 rfl rfl) meA rfl
  ·rw[if_neg (by simpa using c1)] at he;repeat'(first|intro(g:Nat)|refine gA ?_|intro v)
   exact Qq.mk (i+1) ⟨by omega,he⟩ qo
 ·obtain rfl:m=i:=qo;rw[Nat.sub_self,X.fstT] at he;rw[he];repeat'(first|intro(g:Nat)|refine gA ?_|intro v)
  refine WC.ret ?_;exact Fin.v (Qh.t1 rfl rfl) meA rfl
def indexF_c(v:Value)(n:Nat)(ms:Nat->QM)(q:Nat->Rat)(f:FuncId)(first cap:List Value)(Fc:List Fct)(p:Nat->Bool)
  (hf:∀i,i<n->FnB Tryz.prog f (first++[qv (ms i)]++cap) [] (isQ (qv (ms i)) (q i)::Fc) (IsV (.bool (p i)))) :
  FnB Tryz.prog 195 [v,.func (.func f) first.toArray cap.toArray] [] (fF v n ms q::Fc) (IsV (.int .i64 (Xt (X.fstT p n 0)))):=by
 refine fO [(0,v),(1,(.func (.func f) first.toArray cap.toArray))] 19 Tryz.func195 Tryz.ntmps195 λh0=>?_;refine WC.lenF (v:=v) (m:=n) (W.Has.fs (ms:=ms) (qf:=q) hmA) λhm=>?_;repeat'(first|intro(g:Nat)|refine gA ?_|intro v)
 refine WC.lp (σ:=Nat) (λi=>[(8,.int .i64 (i:Int)),(7,.int .i64 (n:Int)),(0,v),(1,.func (.func f) first.toArray cap.toArray)]) (λ_=>[]) (λ_=>ge h0::fF v n ms q::Fc) (λi=>i<=n/\X.fstT p n 0=X.fstT p (n-i) i) (λi=>n-i) 0 ⟨Nat.zero_le _,rfl⟩ ?_ (hG:=.cons hmA (.cons hmA (Qu.tail λ_ h=>by(repeat(first|exact h|apply List.mem_cons_of_mem)))));rintro i ⟨hi,he⟩;by_cases c:i<n
 ·rw[Uq c] at he;repeat'(first|intro(g:Nat)|refine gA ?_|intro v)
  refine WL.J9 first cap (vs:=[qv (ms i)]) (hf i c) ?_ (hF:=.cons (W.Has.q (W.Has.fm (v:=v) hmA) c) (Qu.tail λ_ h=>by(repeat(first|exact h|apply List.mem_cons_of_mem))))
  rintro _ _ _ ⟨rfl,rfl,rfl⟩;refine sNn ?_;cases hp:p i with
  |true=>
   rw[if_pos hp] at he;rw[he];repeat'(first|intro(g:Nat)|refine gA ?_|intro v)
   refine WC.ret ?_;exact Fin.v (Qh.t1 rfl rfl) meA rfl
  |false=>
   rw[if_neg (by rw[hp];decide)] at he;repeat'(first|intro(g:Nat)|refine gA ?_|intro v)
   exact Qq.mk (i+1) ⟨by omega,he⟩ qo (hG:=.cons hmA (.cons hmA (Qu.tail λ_ h=>by(repeat(first|exact h|apply List.mem_cons_of_mem)))))
 ·obtain rfl:n=i:=qo;rw[Nat.sub_self,X.fstT] at he;rw[he];repeat'(first|intro(g:Nat)|refine gA ?_|intro v)
  refine WC.ret ?_;exact Fin.v (Qh.t1 rfl rfl) meA rfl
def clone_c(u:Value)(n:Nat)(ms:Nat->QM)(q:Nat->Rat)(hn:n<=1000000):FnB Tryz.prog 194 [u] [] [fF u n ms q] (IsF n q):=by
 refine fO [(0,u)] 8 Tryz.func194 Tryz.ntmps194 λh0=>?_;cases hnl:isNil u with
 |true=>
  refine WC.nilF (v:=u) (m:=n) (ms:=ms) (q:=q) hmA hnl λh=>?_;subst h;repeat'(first|intro(g:Nat)|refine gA ?_|intro v)
  refine WC.ret ?_;exact Fp [fF (.slice none 0 0) 0 ms q] (Qh.t1 rfl rfl) (.cons (VP _ _) .nil) ⟨ms,rfl,rfl⟩
 |false=>
  repeat'(first|intro(g:Nat)|refine gA ?_|intro v)
  refine WC.JP v n ms q (by repeat(first|exact Sel.head|apply Sel.tail)) (W.Has.fm (v:=u) hmA) ?_;refine WC.ret ?_;exact Fp [fF v n ms q] (Qh.t1 rfl rfl) haA ⟨ms,rfl,rfl⟩
end Z
end
end Go.Proofs.YtbnobghgnbockaaGreat
