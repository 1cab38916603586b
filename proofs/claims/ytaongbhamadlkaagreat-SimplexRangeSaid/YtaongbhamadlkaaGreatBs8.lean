/- Lemmas for the proof of a law: Linear programs: certificates of the last tables; plain. Conditions: none. -/
import Derived.Test.YtaongbhamadlkaaGreatBs7
import Derived.Test.YtaongbhamadlkaaGreatBs3
import Derived.Test.YtaongbhamadlkaaGreatBs5
set_option linter.unusedVariables false
set_option linter.unusedSimpArgs false
set_option linter.unusedSectionVars false
namespace Go.Proofs.YtaongbhamadlkaaGreat
namespace X
section
variable {p:Lp} {c0:Nat→Rat} {s:St}
theorem dual (h:Inv p.m p.n p.A c0 s) (hc:∀ j,2*p.v≤j→j < p.la→c0 j=0) :
  (∀ k,k < p.v→s.c k=c0 k+sm p.m fun r=>s.c (2*p.v+r)*p.a r k)∧(∀ k,k < p.v→s.c (p.v+k)=c0 (p.v+k) - sm p.m fun r=>s.c (2*p.v+r)*p.a r k)∧s.c p.n=c0 p.n+sm p.m fun r=>s.c (2*p.v+r)*p.b r:=by
 obtain⟨w,hw⟩:=h.w
 have hy:∀ r,r < p.m→s.c (2*p.v+r)= -(w r*p.sg r):=fun r hr=>by
  rw[hw _ (by unfold Lp.n;omega),hc _ (by omega) (by unfold Lp.la;omega)]
  rw[sm_one hr (fun i hi hir=>by
   unfold Lp.A Lp.la
   rw[if_neg (by omega),if_neg (by omega),if_pos (by omega),if_neg (by omega)];grind)]
  unfold Lp.A Lp.la
  rw[if_neg (by omega),if_neg (by omega),if_pos (by omega),if_pos rfl];grind
 refine⟨fun k hk=>?_,fun k hk=>?_,?_⟩
 ·rw[hw k (by unfold Lp.n;omega)]
  rw[show(sm p.m fun r=>w r*p.A r k)=sm p.m fun r=>(-1)*(s.c (2*p.v+r)*p.a r k) from sm_congr fun r hr=>by
   rw[hy r hr];unfold Lp.A;rw[if_pos hk];grind]
  rw[sm_mul];grind
 ·rw[hw _ (by unfold Lp.n;omega)]
  congr 1
  exact sm_congr fun r hr=>by
   rw[hy r hr];unfold Lp.A;rw[if_neg (by omega),if_pos (by omega),show p.v+k - p.v=k by omega];grind
 ·rw[hw _ (Nat.le_refl _)]
  rw[show(sm p.m fun r=>w r*p.A r p.n)=sm p.m fun r=>(-1)*(s.c (2*p.v+r)*p.b r) from sm_congr fun r hr=>by
   rw[hy r hr,A_n];grind]
  rw[sm_mul];grind
def xs (p:Lp) (s:St) (k:Nat):Rat:=wt p.m s (fun i=>s.t i p.n) k - wt p.m s (fun i=>s.t i p.n) (p.v+k)
theorem wt_nonneg {m:Nat} {q:Nat→Rat} (h:∀ i,i < m→0≤q i) (j:Nat):0≤wt m s q j:=sm_nonneg fun i hi=>by
 by_cases e:s.b i=j
 ·rw[if_pos e];exact h i hi
 ·rw[if_neg e];exact Rat.le_refl
theorem sg_cancel {r:Nat} {x y:Rat} (h:p.sg r*x=p.sg r*y):x=y:=by
 have h1:=@sg_sq p r
 have h2:p.sg r*(p.sg r*x)=p.sg r*(p.sg r*y):=by rw[h]
 grind
theorem primal {e:Nat} (h:Ok p.m p.n e p.A c0 s) (he:∀ i,i < p.m→p.la≤s.b i→s.t i p.n=0) {r:Nat} (hr:r < p.m):sm p.v (fun k=>p.a r k*xs p s k)≤p.b r:=by
 have h1:=h.i.r r hr p.n (Nat.le_refl _)
 rw[A_n,row_sum he] at h1
 have h2:=sg_cancel h1
 have h3:=wt_nonneg (s:=s) h.f (2*p.v+r)
 unfold xs
 grind
theorem value (h:Inv p.m p.n p.A p.c2 s):s.c p.n=sm p.v fun k=>p.g k*xs p s k:=by
 rw[h.cost (Nat.le_refl _),c2_sum]
 have:p.c2 p.n=0:=by unfold Lp.c2 Lp.n;rw[if_neg (by omega),if_neg (by omega)]
 rw[this];unfold xs;grind
theorem ite_sym (a b:Nat):(if a=b then(1:Rat) else 0)=if b=a then 1 else 0:=by
 by_cases e:a=b
 ·rw[if_pos e,if_pos e.symm]
 ·rw[if_neg e,if_neg (fun h=>e h.symm)]
def rv (p:Lp) (s:St) (col j:Nat):Rat:=(if j=col then 1 else 0) - wt p.m s (fun i=>s.t i col) j
def dr (p:Lp) (s:St) (col k:Nat):Rat:=rv p s col k - rv p s col (p.v+k)
theorem ray_line (h:Inv p.m p.n p.A c0 s) {col:Nat} (hc:col < p.la) (he:∀ i,i < p.m→p.la≤s.b i→s.t i col=0) (hn:∀ i,i < p.m→s.t i col≤0) {r:Nat} (hr:r < p.m):sm p.v (fun k=>p.a r k*dr p s col k)≤0:=by
 have hcn:col≤p.n:=by unfold Lp.la Lp.n at *;omega
 have h1:=h.r r hr col hcn
 rw[row_sum he] at h1
 have h2:=A_eq (p:=p) (r:=r) hc 1
 have h3:0≤wt p.m s (fun i=>-s.t i col) (2*p.v+r):=wt_nonneg (fun i hi=>by have:=hn i hi;grind) _
 have h4:wt p.m s (fun i=>-s.t i col) (2*p.v+r)=(-1)*wt p.m s (fun i=>s.t i col) (2*p.v+r):=by
  unfold wt;rw[←sm_mul];exact sm_congr fun i _=>by split <;> grind
 have h5:p.A r col*1=p.A r col:=by grind
 rw[h5,h1] at h2
 have h6:=sg_cancel h2
 have h7:(sm p.v fun k=>p.a r k*dr p s col k)=sm p.v (fun k=>p.a r k*((if col=k then 1 else 0) - (if col=p.v+k then 1 else 0))) - sm p.v (fun k=>p.a r k*(wt p.m s (fun i=>s.t i col) k - wt p.m s (fun i=>s.t i col) (p.v+k))):=by
  rw[←sm_sub]
  exact sm_congr fun k _=>by
   unfold dr rv
   have e1:=ite_sym k col
   have e2:=ite_sym (p.v+k) col
   rw[e1,e2];grind
 rw[h7]
 by_cases e:col=2*p.v+r
 ·rw[if_pos e] at h6;grind
 ·rw[if_neg e] at h6;grind
theorem ray_goal (h:Inv p.m p.n p.A p.c2 s) {col:Nat} (hc:col < p.la) (hn:s.c col < 0):0 < sm p.v fun k=>p.g k*dr p s col k:=by
 have hcn:col≤p.n:=by unfold Lp.la Lp.n at *;omega
 have h1:=h.cost hcn
 rw[c2_sum] at h1
 have h2:=c2_eq (p:=p) col 1
 have h7:(sm p.v fun k=>p.g k*dr p s col k)=sm p.v (fun k=>p.g k*((if col=k then 1 else 0) - (if col=p.v+k then 1 else 0))) - sm p.v (fun k=>p.g k*(wt p.m s (fun i=>s.t i col) k - wt p.m s (fun i=>s.t i col) (p.v+k))):=by
  rw[←sm_sub]
  exact sm_congr fun k _=>by
   unfold dr rv
   have e1:=ite_sym k col
   have e2:=ite_sym (p.v+k) col
   rw[e1,e2];grind
 rw[h7];grind
def IsInf (p:Lp) (y:Nat→Rat):Prop:=(∀ r,r < p.m→0≤y r)∧(∀ k,k < p.v→sm p.m (fun r=>y r*p.a r k)=0)∧sm p.m (fun r=>y r*p.b r) < 0
def IsPt (p:Lp) (x:Nat→Rat):Prop:=∀ r,r < p.m→sm p.v (fun k=>p.a r k*x k)≤p.b r
def IsOpt (p:Lp) (x y:Nat→Rat) (z:Rat):Prop:=IsPt p x∧(∀ r,r < p.m→0≤y r)∧(∀ k,k < p.v→sm p.m (fun r=>y r*p.a r k)=p.g k)∧sm p.m (fun r=>y r*p.b r)=z∧sm p.v (fun k=>p.g k*x k)=z
def IsUnb (p:Lp) (x d:Nat→Rat):Prop:=IsPt p x∧(∀ r,r < p.m→sm p.v (fun k=>p.a r k*d k)≤0)∧0 < sm p.v fun k=>p.g k*d k
theorem first_inf {F:Nat} {x:St×Option Nat} (hx:runP p.m p.n p.n F (prc p.m p.c1 p.s0)=some x) (hn:x.1.c p.n < 0):IsInf p (fun r=>x.1.c (2*p.v+r)):=by
 obtain⟨_,h2,h3,_⟩:=phase1 hx
 obtain⟨d1,d2,d3⟩:=dual h2.i (fun j h1 h2=>by unfold Lp.c1;rw[if_neg (by omega)])
 have z:∀ j,j < p.la→p.c1 j=0:=fun j h=>by unfold Lp.c1;rw[if_neg (by omega)]
 have zn:p.c1 p.n=0:=by unfold Lp.c1;rw[if_neg (by omega)]
 refine⟨fun r hr=>h3 _ (by unfold Lp.n;omega),fun k hk=>?_,?_⟩
 ·have e1:=d1 k hk
  have e2:=d2 k hk
  have e3:=h3 k (by unfold Lp.n;omega)
  have e4:=h3 (p.v+k) (by unfold Lp.n;omega)
  rw[z _ (by unfold Lp.la;omega)] at e1 e2
  grind
 ·rw[zn] at d3;grind
theorem second {F G:Nat} {x y:St×Option Nat} (hx:runP p.m p.n p.n F (prc p.m p.c1 p.s0)=some x) (hn:¬x.1.c p.n < 0) (hy:runP p.m p.n p.la G (prc p.m p.c2 (drP p.la x.1 p.m))=some y) :
  (y.2=none∧IsOpt p (xs p y.1) (fun r=>y.1.c (2*p.v+r)) (sm p.v fun k=>p.g k*xs p y.1 k))∨∃ col,y.2=some col∧IsUnb p (xs p y.1) (dr p y.1 col):=by
 obtain⟨_,h2,_,h4⟩:=phase1 hx
 have hl:p.la≤p.n:=by unfold Lp.la Lp.n;omega
 obtain⟨k1,k2⟩:=emp_all (e:=p.n) hl h2 (h4 hn) p.m (Nat.le_refl _)
 have hk:Ok p.m p.n p.la p.A p.c2 (prc p.m p.c2 (drP p.la x.1 p.m)):=k1.prc p.c2
 obtain⟨hok,hem⟩:=run_ind (P:=fun s=>Ok p.m p.n p.la p.A p.c2 s∧Emp p.m p.n p.la s p.m) (fun s s' h hs=>⟨h.1.stp hl hs,emp_stp (Nat.le_refl _) h.1 hl h.2 hs⟩) G _ y ⟨hk,k2⟩ hy
 have hpt:IsPt p (xs p y.1):=fun r hr=>primal hok (fun i hi hb=>(hem i hi hb).1) hr
 rcases run_end G _ y hy with ⟨g1,g2⟩|⟨col,g1,g2,g3,g4⟩
 ·refine .inl ⟨g1,hpt,fun r hr=>g2 _ (by unfold Lp.la;omega),fun k hk=>?_,?_,rfl⟩
  ·obtain⟨d1,d2,_⟩:=dual hok.i (fun j h1 h2=>by unfold Lp.c2 Lp.la at *;rw[if_neg (by omega),if_neg (by omega)])
   have e1:=d1 k hk
   have e2:=d2 k hk
   have e3:=g2 k (by unfold Lp.la;omega)
   have e4:=g2 (p.v+k) (by unfold Lp.la;omega)
   have z1:p.c2 k= -p.g k:=by unfold Lp.c2;rw[if_pos hk]
   have z2:p.c2 (p.v+k)=p.g k:=by unfold Lp.c2;rw[if_neg (by omega),if_pos (by omega),show p.v+k - p.v=k by omega]
   rw[z1] at e1
   rw[z2] at e2
   grind
  ·obtain⟨_,_,d3⟩:=dual hok.i (fun j h1 h2=>by unfold Lp.c2 Lp.la at *;rw[if_neg (by omega),if_neg (by omega)])
   have z:p.c2 p.n=0:=by unfold Lp.c2 Lp.n;rw[if_neg (by omega),if_neg (by omega)]
   rw[z,value hok.i] at d3
   grind
 ·exact .inr ⟨col,g1,hpt,fun r hr=>ray_line hok.i g2 (fun i hi hb=>(hem i hi hb).2 hi col g2) g4 hr,ray_goal hok.i g2 g3⟩
end
end X
end Go.Proofs.YtaongbhamadlkaaGreat
namespace Go.Proofs.YtaongbhamadlkaaGreat
namespace X
section
variable {p:Lp}
theorem sm_swap {y x:Nat→Rat}:(sm p.v fun k=>(sm p.m fun r=>y r*p.a r k)*x k)=sm p.m fun r=>y r*sm p.v fun k=>p.a r k*x k:=by
 rw[show(sm p.v fun k=>(sm p.m fun r=>y r*p.a r k)*x k)=sm p.v fun k=>sm p.m fun r=>y r*(p.a r k*x k) from sm_congr fun k _=>by
  rw[←sm_mulr];exact sm_congr fun r _=>by grind]
 rw[sm_comm]
 exact sm_congr fun r _=>sm_mul _ _
theorem pt_le {x y:Nat→Rat} {h:Nat→Rat} (hx:IsPt p x) (hy:∀ r,r < p.m→0≤y r) (hg:∀ k,k < p.v→sm p.m (fun r=>y r*p.a r k)=h k):sm p.v (fun k=>h k*x k)≤sm p.m fun r=>y r*p.b r:=by
 rw[show(sm p.v fun k=>h k*x k)=sm p.v fun k=>(sm p.m fun r=>y r*p.a r k)*x k from sm_congr fun k hk=>by rw[hg k hk],sm_swap]
 refine sm_le fun r hr=>?_
 have h1:=Rat.mul_nonneg (hy r hr) (show 0≤p.b r - sm p.v (fun k=>p.a r k*x k) by have:=hx r hr;grind)
 grind
theorem inf_no {x y:Nat→Rat} (h:IsInf p y):¬IsPt p x:=fun hx=>by
 have h1:=pt_le hx h.1 (h:=fun _=>0) h.2.1
 rw[sm_zero (fun _ _=>by grind)] at h1
 have:=h.2.2
 grind
theorem opt_max {x y x':Nat→Rat} {z:Rat} (h:IsOpt p x y z) (hx:IsPt p x'):sm p.v (fun k=>p.g k*x' k)≤z:=by
 have h1:=pt_le hx h.2.1 (h:=p.g) h.2.2.1
 have:=h.2.2.2.1
 grind
theorem unb_far {x d:Nat→Rat} (h:IsUnb p x d) (z:Rat):∃ x',IsPt p x'∧z≤sm p.v fun k=>p.g k*x' k:=by
 obtain⟨h1,h2,h3⟩:=h
 have key:∀ (c:Nat→Rat) (t:Rat),(sm p.v fun k=>c k*(x k+t*d k))=sm p.v (fun k=>c k*x k)+t*sm p.v (fun k=>c k*d k):=fun c t=>by
  rw[←sm_mul,←sm_add];exact sm_congr fun k _=>by grind
 by_cases c:z≤sm p.v fun k=>p.g k*x k
 ·exact⟨x,h1,c⟩
 ·have ht:0≤(z - sm p.v fun k=>p.g k*x k) / sm p.v fun k=>p.g k*d k:=ratio_nonneg (by grind) h3
  refine⟨fun k=>x k+((z - sm p.v fun k=>p.g k*x k) / sm p.v fun k=>p.g k*d k)*d k,fun r hr=>?_,?_⟩
  ·rw[key (p.a r)]
   have g1:=Rat.mul_nonneg ht (show 0≤-sm p.v (fun k=>p.a r k*d k) by have:=h2 r hr;grind)
   have g2:=h1 r hr
   grind
  ·rw[key p.g,div_mul_self' (by grind)];grind
end
end X
end Go.Proofs.YtaongbhamadlkaaGreat
namespace Go.Proofs.YtaongbhamadlkaaGreat
namespace X
abbrev Ln:=List Rat×Rat
def co (l:Ln) (k:Nat):Rat:=l.1.getD k 0
def Sat (n:Nat) (x:Nat→Rat) (l:Ln):Prop:=sm n (fun k=>co l k*x k)≤l.2
def cmb (a:Ln) (f:Rat) (b:Ln) (g:Rat):Ln:=(List.zipWith (fun u w=>u*f+w*g) a.1 b.1,a.2*f+b.2*g)
theorem co_cmb {a b:Ln} {f g:Rat} (h:a.1.length=b.1.length) (k:Nat):co (cmb a f b g) k=co a k*f+co b k*g:=by
 unfold co cmb
 simp only[List.getD_eq_getElem?_getD,List.getElem?_zipWith]
 by_cases c:k < a.1.length
 ·simp[c,h ▸ c]
 ·have c':¬k < b.1.length:=by omega
  rw[List.getElem?_eq_none (by omega),List.getElem?_eq_none (by omega)]
  simp;grind
def wo (l:List Ln) (k:Nat):List Ln:=l.filter (fun a=>decide (co a k=0))++l.flatMap fun a=>(l.filter fun b=>decide (0 < co a k∧co b k < 0)).map fun b=>cmb a (-co b k) b (co a k)
theorem wo_mem {l:List Ln} {k:Nat} {c:Ln}:c∈wo l k↔(c∈l∧co c k=0)∨∃ a,a∈l∧∃ b,b∈l∧0 < co a k∧co b k < 0∧c=cmb a (-co b k) b (co a k):=by
 unfold wo
 rw[List.mem_append,List.mem_filter,List.mem_flatMap,decide_eq_true_iff]
 constructor
 ·rintro(h|⟨a,h1,h2⟩)
  ·exact .inl h
  ·obtain⟨b,h3,rfl⟩:=List.mem_map.1 h2
   have h4:=List.mem_filter.1 h3
   exact .inr ⟨a,h1,b,h4.1,(of_decide_eq_true h4.2).1,(of_decide_eq_true h4.2).2,rfl⟩
 ·rintro(h|⟨a,h1,b,h2,h3,h4,rfl⟩)
  ·exact .inl h
  ·exact .inr ⟨a,h1,List.mem_map.2 ⟨b,List.mem_filter.2 ⟨h2,decide_eq_true ⟨h3,h4⟩⟩,rfl⟩⟩
theorem between:∀ L U:List Rat,(∀ l∈L,∀ u∈U,l≤u)→∃ t,(∀ l∈L,l≤t)∧∀ u∈U,t≤u
 |[],U,_=>by
  have:∃ t,∀ u∈U,t≤u:=by
   induction U with
   |nil=>exact⟨0,by simp⟩
   |cons a U ih=>
    obtain⟨t,ht⟩:=ih (by simp)
    by_cases c:t≤a
    ·exact⟨t,fun u hu=>by
     rcases List.mem_cons.1 hu with rfl|h
     ·exact c
     ·exact ht u h⟩
    ·exact⟨a,fun u hu=>by
     rcases List.mem_cons.1 hu with rfl|h
     ·exact Rat.le_refl
     ·have:=ht u h;grind⟩
  obtain⟨t,ht⟩:=this
  exact⟨t,by simp,ht⟩
 |a::L,U,h=>by
  obtain⟨t,h1,h2⟩:=between L U (fun l hl=>h l (List.mem_cons_of_mem _ hl))
  by_cases c:a≤t
  ·exact⟨t,fun l hl=>by
   rcases List.mem_cons.1 hl with rfl|g
   ·exact c
   ·exact h1 l g,h2⟩
  ·exact⟨a,fun l hl=>by
   rcases List.mem_cons.1 hl with rfl|g
   ·exact Rat.le_refl
   ·have:=h1 l g;grind,h a (List.mem_cons_self)⟩
end X
end Go.Proofs.YtaongbhamadlkaaGreat
namespace Go.Proofs.YtaongbhamadlkaaGreat
namespace X
theorem mul_le_iff {a b q:Rat} (hq:0 < q):a*q≤b*q↔a≤b:=by
 constructor
 ·intro h
  refine Classical.byContradiction fun c=>?_
  have:=(Rat.mul_lt_mul_right hq).2 (show b < a by grind)
  grind
 ·intro h
  refine Classical.byContradiction fun c=>?_
  have:=(Rat.mul_lt_mul_right hq).1 (show b*q < a*q by grind)
  grind
theorem le_div {t w q:Rat} (hq:0 < q):t≤w / q↔t*q≤w:=by
 rw[←mul_le_iff hq,div_mul_self' (by grind)]
theorem le_div_mul {u v q:Rat} {r:Rat} (hq:0 < q):u≤v / q*r↔u*q≤v*r:=by
 rw[←mul_le_iff hq]
 have:v / q*r*q=v*r:=by grind
 rw[this]
theorem div_le {t w q:Rat} (hq:0 < q):w / q≤t↔w≤t*q:=by
 rw[←mul_le_iff hq,div_mul_self' (by grind)]
def rst (n k:Nat) (x:Nat→Rat) (c:Ln):Rat:=sm n fun j=>if j=k then 0 else co c j*x j
theorem sat_at {n k:Nat} (hk:k < n) (x:Nat→Rat) (t:Rat) (c:Ln):Sat n (fun j=>if j=k then t else x j) c↔co c k*t+rst n k x c≤c.2:=by
 unfold Sat
 rw[sm_split hk]
 simp only[if_pos]
 rw[show(sm n fun i=>if i=k then 0 else co c i*(if i=k then t else x i))=rst n k x c from sm_congr fun i _=>by
  by_cases e:i=k
  ·rw[if_pos e,if_pos e]
  ·rw[if_neg e,if_neg e,if_neg e]]
theorem sat_in {n k:Nat} (hk:k < n) (x:Nat→Rat) (c:Ln):Sat n x c↔co c k*x k+rst n k x c≤c.2:=by
 unfold Sat
 rw[sm_split hk];rfl
theorem rst_cmb {n k:Nat} {x:Nat→Rat} {a b:Ln} {f g:Rat} (h:a.1.length=b.1.length):rst n k x (cmb a f b g)=rst n k x a*f+rst n k x b*g:=by
 unfold rst
 rw[←sm_mulr,←sm_mulr,←sm_add]
 exact sm_congr fun j _=>by
  by_cases e:j=k
  ·rw[if_pos e,if_pos e,if_pos e];grind
  ·rw[if_neg e,if_neg e,if_neg e,co_cmb h];grind
theorem wo_iff {n k:Nat} (hk:k < n) {l:List Ln} {w:Nat} (hw:∀ c∈l,c.1.length=w) (x:Nat→Rat):(∀ c∈wo l k,Sat n x c)↔∃ t,∀ c∈l,Sat n (fun j=>if j=k then t else x j) c:=by
 constructor
 ·intro h
  have hc:∀ a∈l,∀ b∈l,0 < co a k→co b k < 0→(rst n k x b - b.2) / (-co b k)≤(a.2 - rst n k x a) / co a k:=fun a ha b hb h1 h2=>by
   have h3:=(sat_in hk x _).1 (h _ (wo_mem.2 (.inr ⟨a,ha,b,hb,h1,h2,rfl⟩)))
   have hl:a.1.length=b.1.length:=by rw[hw a ha,hw b hb]
   rw[rst_cmb hl,co_cmb hl] at h3
   have h3':(co a k* -co b k+co b k*co a k)*x k+(rst n k x a* -co b k+rst n k x b*co a k)≤a.2* -co b k+b.2*co a k:=h3
   rw[div_le (show 0 < -co b k by grind),le_div_mul h1]
   grind
  obtain⟨t,t1,t2⟩:=between ((l.filter fun b=>decide (co b k < 0)).map fun b=>(rst n k x b - b.2) / (-co b k)) ((l.filter fun a=>decide (0 < co a k)).map fun a=>(a.2 - rst n k x a) / co a k) (fun p hp q hq=>by
   obtain⟨b,hb,rfl⟩:=List.mem_map.1 hp
   obtain⟨a,ha,rfl⟩:=List.mem_map.1 hq
   have hb':=List.mem_filter.1 hb
   have ha':=List.mem_filter.1 ha
   exact hc a ha'.1 b hb'.1 (of_decide_eq_true ha'.2) (of_decide_eq_true hb'.2))
  refine⟨t,fun c hc'=>(sat_at hk x t c).2 ?_⟩
  rcases(show co c k < 0∨co c k=0∨0 < co c k by grind) with g|g|g
  ·have h1:=t1 _ (List.mem_map.2 ⟨c,List.mem_filter.2 ⟨hc',decide_eq_true g⟩,rfl⟩)
   rw[div_le (show 0 < -co c k by grind)] at h1
   grind
  ·have h1:=(sat_in hk x c).1 (h c (wo_mem.2 (.inl ⟨hc',g⟩)))
   rw[g] at h1 ⊢;grind
  ·have h1:=t2 _ (List.mem_map.2 ⟨c,List.mem_filter.2 ⟨hc',decide_eq_true g⟩,rfl⟩)
   rw[le_div g] at h1
   grind
 ·rintro⟨t,ht⟩ c hc
  rw[sat_in hk]
  rcases wo_mem.1 hc with ⟨h1,h2⟩|⟨a,ha,b,hb,h1,h2,rfl⟩
  ·have h3:=(sat_at hk x t c).1 (ht c h1)
   rw[h2] at h3 ⊢;grind
  ·have h3:=(sat_at hk x t a).1 (ht a ha)
   have h4:=(sat_at hk x t b).1 (ht b hb)
   have hl:a.1.length=b.1.length:=by rw[hw a ha,hw b hb]
   rw[rst_cmb hl,co_cmb hl]
   show(co a k* -co b k+co b k*co a k)*x k+(rst n k x a* -co b k+rst n k x b*co a k)≤a.2* -co b k+b.2*co a k
   have h5:=Rat.mul_nonneg (show 0≤a.2 - (co a k*t+rst n k x a) by grind) (show 0≤-co b k by grind)
   have h6:=Rat.mul_nonneg (show 0≤b.2 - (co b k*t+rst n k x b) by grind) (show 0≤co a k by grind)
   grind
end X
end Go.Proofs.YtaongbhamadlkaaGreat
namespace Go.Proofs.YtaongbhamadlkaaGreat
namespace X
def wos (l:List Ln):Nat→List Ln
 |0=>l
 |k+1=>wo (wos l k) k
theorem cmb_len {a b:Ln} {f g:Rat} (h:a.1.length=b.1.length):(cmb a f b g).1.length=a.1.length:=by
 unfold cmb;simp[h]
theorem wo_len {l:List Ln} {k w:Nat} (h:∀ c∈l,c.1.length=w):∀ c∈wo l k,c.1.length=w:=fun c hc=>by
 rcases wo_mem.1 hc with ⟨h1,_⟩|⟨a,ha,b,hb,_,_,rfl⟩
 ·exact h c h1
 ·rw[cmb_len (by rw[h a ha,h b hb]),h a ha]
theorem wos_len {l:List Ln} {w:Nat} (h:∀ c∈l,c.1.length=w):∀ k,∀ c∈wos l k,c.1.length=w
 |0=>h
 |k+1=>wo_len (wos_len h k)
theorem wos_zero {l:List Ln} {w:Nat} (h:∀ c∈l,c.1.length=w):∀ k,∀ c∈wos l k,∀ i,i < k→co c i=0
 |0,_,_,i,hi=>by omega
 |k+1,c,hc,i,hi=>by
  rcases wo_mem.1 hc with ⟨h1,h2⟩|⟨a,ha,b,hb,_,_,rfl⟩
  ·by_cases e:i=k
   ·rw[e];exact h2
   ·exact wos_zero h k c h1 i (by omega)
  ·rw[co_cmb (by rw[wos_len h k a ha,wos_len h k b hb])]
   by_cases e:i=k
   ·rw[e];grind
   ·rw[wos_zero h k a ha i (by omega),wos_zero h k b hb i (by omega)];grind
theorem wos_iff {l:List Ln} {w n:Nat} (h:∀ c∈l,c.1.length=w):∀ k,k≤n→∀ x:Nat→Rat,(∀ c∈wos l k,Sat n x c)↔∃ x':Nat→Rat,(∀ i,k≤i→x' i=x i)∧∀ c∈l,Sat n x' c
 |0,_,x=>⟨fun hc=>⟨x,fun _ _=>rfl,hc⟩,fun ⟨x',h1,h2⟩ c hc=>by
   have:x'=x:=funext fun i=>h1 i (by omega)
   rw[←this];exact h2 c hc⟩
 |k+1,hk,x=>by
  show(∀ c∈wo (wos l k) k,Sat n x c)↔_
  rw[wo_iff (by omega) (wos_len h k)]
  constructor
  ·rintro⟨t,ht⟩
   obtain⟨x',h1,h2⟩:=(wos_iff h k (by omega) _).1 ht
   exact⟨x',fun i hi=>by rw[h1 i (by omega),if_neg (by omega)],h2⟩
  ·rintro⟨x',h1,h2⟩
   refine⟨x' k,(wos_iff h k (by omega) _).2 ⟨x',fun i hi=>?_,h2⟩⟩
   by_cases e:i=k
   ·rw[if_pos e,e]
   ·rw[if_neg e,h1 i (by omega)]
def feasP (l:List Ln) (v:Nat):Bool:=(wos l v).all fun c=>decide (0≤c.2)
theorem feas_iff {l:List Ln} {v:Nat} (h:∀ c∈l,c.1.length=v):feasP l v=true↔∃ x,∀ c∈l,Sat v x c:=by
 unfold feasP
 rw[List.all_eq_true]
 have hz:=wos_zero h v
 constructor
 ·intro hc
  obtain⟨x,_,hx⟩:=(wos_iff h v (Nat.le_refl _) (fun _=>0)).1 fun c hc'=>by
   unfold Sat
   rw[sm_zero (fun i hi=>by grind)]
   exact of_decide_eq_true (hc c hc')
  exact⟨x,hx⟩
 ·rintro⟨x,hx⟩ c hc
  have h1:=(wos_iff h v (Nat.le_refl _) x).2 ⟨x,fun _ _=>rfl,hx⟩ c hc
  unfold Sat at h1
  rw[sm_zero (fun i hi=>by rw[hz c hc i hi];grind)] at h1
  exact decide_eq_true h1
end X
end Go.Proofs.YtaongbhamadlkaaGreat
namespace Go.Proofs.YtaongbhamadlkaaGreat
namespace X
def del (c:Nat→Nat→Rat) (j:Nat):Nat→Nat→Rat:=fun k=>if k < j then c k else c (k+1)
def rep (c:Nat→Nat→Rat) (i:Nat) (v:Nat→Rat):Nat→Nat→Rat:=fun k=>if k=i then v else c k
def sgn (j:Nat):Rat:=if j % 2=0 then 1 else -1
def dt:Nat→(Nat→Nat→Rat)→Rat
 |0,_=>1
 |m+1,c=>sm (m+1) fun j=>sgn j*c j m*dt m (del c j)
section
variable {m i j k:Nat} {c d:Nat→Nat→Rat} {u v:Nat→Rat}
theorem dt_congr:∀ {m:Nat} {c d:Nat→Nat→Rat},(∀ j,j < m→∀ r,r < m→c j r=d j r)→dt m c=dt m d
 |0,_,_,_=>rfl
 |m+1,c,d,h=>sm_congr fun j hj=>by
  rw[h j hj m (by omega),dt_congr (m:=m) (c:=del c j) (d:=del d j) fun k hk r hr=>by
   unfold del;split
   ·exact h k (by omega) r (by omega)
   ·exact h (k+1) (by omega) r (by omega)]
theorem del_rep_same:del (rep c i u) i=del c i:=by
 funext k;unfold del rep
 by_cases h:k < i
 ·rw[if_pos h,if_pos h,if_neg (by omega)]
 ·rw[if_neg h,if_neg h,if_neg (by omega)]
theorem del_rep (h:j≠i):del (rep c i u) j=rep (del c j) (if i < j then i else i - 1) u:=by
 funext k;unfold del rep
 by_cases h1:k < j
 ·rw[if_pos h1]
  by_cases h2:k=i
  ·rw[if_pos h2,if_pos (by rw[if_pos (by omega)];omega)]
  ·rw[if_neg h2,if_neg (by split <;> omega)];exact(if_pos h1).symm
 ·rw[if_neg h1]
  by_cases h2:k+1=i
  ·rw[if_pos h2,if_pos (by rw[if_neg (by omega)];omega)]
  ·rw[if_neg h2,if_neg (by split <;> omega)];exact(if_neg h1).symm
theorem dt_lin (a b:Rat):∀ {m:Nat} {c:Nat→Nat→Rat} {i:Nat},i < m→dt m (rep c i fun r=>a*u r+b*v r)=a*dt m (rep c i u)+b*dt m (rep c i v)
 |0,_,_,h=>by omega
 |m+1,c,i,h=>by
  rw[dt,dt,dt,←sm_mul,←sm_mul,←sm_add]
  refine sm_congr fun j hj=>?_
  by_cases e:j=i
  ·subst e
   rw[del_rep_same,del_rep_same,del_rep_same]
   unfold rep;rw[if_pos rfl,if_pos rfl,if_pos rfl];grind
  ·rw[del_rep e,del_rep e,del_rep e,dt_lin a b (m:=m) (by split <;> omega)]
   unfold rep;rw[if_neg e,if_neg e,if_neg e];grind
theorem rep_self:rep c i (c i)=c:=by
 funext k;unfold rep;split
 ·rename_i h;rw[h]
 ·rfl
theorem dt_zero (h:i < m):dt m (rep c i fun _=>0)=0:=by
 have:=dt_lin (u:=fun _=>0) (v:=fun _=>0) 0 0 (c:=c) h
 simp only[Rat.zero_mul,Rat.add_zero] at this
 exact this
theorem dt_sum (t:Nat→Rat) (w:Nat→Nat→Rat) (h:i < m):∀ n,dt m (rep c i fun r=>sm n fun k=>t k*w k r)=sm n fun k=>t k*dt m (rep c i (w k))
 |0=>dt_zero h
 |n+1=>by
  have:=dt_lin (u:=fun r=>sm n fun k=>t k*w k r) (v:=w n) 1 (t n) (c:=c) h
  simp only[sm]
  rw[←dt_sum t w h n]
  simp only[Rat.one_mul] at this
  exact this
theorem sm_two {f:Nat→Rat}:∀ {n:Nat},i+1 < n→(∀ k,k < n→k≠i→k≠i+1→f k=0)→sm n f=f i+f (i+1)
 |0,h,_=>by omega
 |n+1,h,h2=>by
  rw[sm]
  by_cases e:i+1=n
  ·subst e
   rw[sm_one (r:=i) (by omega) fun k hk hne=>h2 k (by omega) hne (by omega)]
  ·rw[sm_two (n:=n) (by omega) fun k hk=>h2 k (by omega),h2 n (by omega) (by omega) (by omega)];grind
theorem sgn_succ (i:Nat):sgn (i+1)= -sgn i:=by
 unfold sgn
 by_cases h:i % 2=0
 ·rw[if_pos h,if_neg (by omega)]
 ·rw[if_neg h,if_pos (by omega)];grind
theorem dt_adj:∀ {m:Nat} {c:Nat→Nat→Rat} {i:Nat},i+1 < m→c i=c (i+1)→dt m c=0
 |0,_,_,h,_=>by omega
 |m+1,c,i,h,e=>by
  rw[dt,sm_two (i:=i) h fun k hk h1 h2=>?_]
  ·have:del c i=del c (i+1):=by
    funext k;unfold del
    by_cases h1:k < i
    ·rw[if_pos h1,if_pos (by omega)]
    ·rw[if_neg h1]
     by_cases h2:k=i
     ·subst h2;rw[if_pos (by omega),e]
     ·rw[if_neg (by omega)]
   rw[this,←e,sgn_succ];grind
  ·by_cases h3:k < i
   ·have:dt m (del c k)=0:=dt_adj (i:=i - 1) (by omega) (by
     unfold del;rw[if_neg (by omega),if_neg (by omega),show i - 1+1=i by omega];exact e)
    rw[this];grind
   ·have:dt m (del c k)=0:=dt_adj (i:=i) (by omega) (by
     unfold del;rw[if_pos (by omega),if_pos (by omega)];exact e)
    rw[this];grind
def sw (c:Nat→Nat→Rat) (i:Nat):Nat→Nat→Rat:=rep (rep c i (c (i+1))) (i+1) (c i)
theorem dt_sw (h:i+1 < m):dt m (sw c i)= -dt m c:=by
 have F:∀ x y:Nat→Rat,dt m (rep (rep c i x) (i+1) y)=dt m (rep (rep c (i+1) y) i x):=fun x y=>by
  congr 1;funext k;unfold rep
  by_cases h1:k=i
  ·rw[if_neg (by omega),if_pos h1,if_pos h1]
  ·rw[if_neg h1,if_neg h1]
 have Z:∀ x:Nat→Rat,dt m (rep (rep c i x) (i+1) x)=0:=fun x=>dt_adj h (by unfold rep;rw[if_neg (by omega),if_pos rfl,if_pos rfl])
 have h0:=Z fun r=>1*c i r+1*c (i+1) r
 rw[dt_lin 1 1 h,F,F,dt_lin 1 1 (by omega),dt_lin 1 1 (by omega),←F,←F,←F,←F,Z,Z] at h0
 have e:rep (rep c i (c i)) (i+1) (c (i+1))=c:=by rw[rep_self,rep_self]
 rw[e] at h0
 unfold sw
 grind
theorem dt_eq:∀ (n:Nat) {c:Nat→Nat→Rat} {i j:Nat},j - i≤n→i < j→j < m→c i=c j→dt m c=0
 |0,_,_,_,h,h1,_,_=>by omega
 |n+1,c,i,j,h,h1,h2,e=>by
  by_cases h3:j=i+1
  ·subst h3;exact dt_adj h2 e
  ·have h4:dt m (sw c (j - 1))=0:=dt_eq n (i:=i) (j:=j - 1) (by omega) (by omega) (by omega) (by
    unfold sw rep
    rw[if_neg (by omega),if_neg (by omega),if_neg (by omega),if_pos rfl,show j - 1+1=j by omega];exact e)
   rw[dt_sw (by omega)] at h4
   grind
theorem cramer (t:Nat→Rat) (h:i < m):dt m (rep c i fun r=>sm m fun k=>t k*c k r)=t i*dt m c:=by
 rw[dt_sum t c h,sm_one h fun k hk hne=>?_,rep_self]
 have:dt m (rep c i (c k))=0:=by
  by_cases h1:i < k
  ·exact dt_eq (k - i) (Nat.le_refl _) h1 hk (by unfold rep;rw[if_pos rfl,if_neg (by omega)])
  ·exact dt_eq (i - k) (Nat.le_refl _) (by omega:k < i) h (by unfold rep;rw[if_neg (by omega),if_pos rfl])
 rw[this];grind
def pr:Nat→(Nat→Rat)→Rat
 |0,_=>1
 |m+1,f=>f m*pr m f
theorem dt_rows (f:Nat→Rat):∀ {m:Nat} {c:Nat→Nat→Rat},dt m (fun j r=>f r*c j r)=pr m f*dt m c
 |0,_=>by simp only[dt,pr];grind
 |m+1,c=>by
  rw[dt,dt,pr,←sm_mul]
  refine sm_congr fun j _=>?_
  have:del (fun j r=>f r*c j r) j=fun k r=>f r*del c j k r:=by
   funext k r;unfold del;split <;> rfl
  rw[this,dt_rows f];grind
theorem pr_ne {f:Nat→Rat}:∀ {m:Nat},(∀ r,r < m→f r≠0)→pr m f≠0
 |0,_=>by simp only[pr];decide
 |m+1,h=>by
  rw[pr]
  have h1:=pr_ne (m:=m) fun r hr=>h r (by omega)
  have h2:=h m (by omega)
  intro hx
  rcases Rat.mul_eq_zero.1 hx with hx|hx
  ·exact h2 hx
  ·exact h1 hx
theorem dt_one:∀ {m:Nat} {c:Nat→Nat→Rat},(∀ j,j < m→∀ r,r < m→c j r=if j=r then 1 else 0)→dt m c≠0
 |0,_,_=>by simp only[dt];decide
 |m+1,c,h=>by
  rw[dt,sm_one (r:=m) (by omega) fun j hj hne=>by rw[h j hj m (by omega),if_neg hne];grind]
  rw[h m (by omega) m (by omega),if_pos rfl]
  have h1:dt m (del c m)≠0:=dt_one fun j hj r hr=>by
   unfold del;rw[if_pos hj];exact h j (by omega) r (by omega)
  have h2:sgn m≠0:=by unfold sgn;split <;> decide
  intro hx
  rcases Rat.mul_eq_zero.1 hx with hx|hx
  ·exact h2 (by grind)
  ·exact h1 hx
def bdt (K:Nat):Nat→Nat
 |0=>1
 |m+1=>(m+1)*(K*bdt K m)
theorem sm_int {B:Nat} {f:Nat→Rat}:∀ {n:Nat},(∀ i,i < n→∃ z:Int,f i=z∧z.natAbs≤B)→∃ z:Int,sm n f=z∧z.natAbs≤n*B
 |0,_=>⟨0,rfl,by simp⟩
 |n+1,h=>by
  obtain⟨z,h1,h2⟩:=sm_int (n:=n) fun i hi=>h i (by omega)
  obtain⟨w,h3,h4⟩:=h n (by omega)
  refine⟨z+w,by rw[sm,h1,h3];simp,?_⟩
  have:=Int.natAbs_add_le z w
  rw[Nat.succ_mul];omega
theorem dt_int {K:Nat}:∀ {m:Nat} {c:Nat→Nat→Rat},(∀ j,j < m→∀ r,r < m→∃ z:Int,c j r=z∧z.natAbs≤K)→∃ z:Int,dt m c=z∧z.natAbs≤bdt K m
 |0,_,_=>⟨1,rfl,Nat.le_refl _⟩
 |m+1,c,h=>by
  rw[dt]
  refine sm_int fun j hj=>?_
  obtain⟨z,h1,h2⟩:=h j hj m (by omega)
  obtain⟨w,h3,h4⟩:=dt_int (K:=K) (m:=m) (c:=del c j) fun k hk r hr=>by
   unfold del;split
   ·exact h k (by omega) r (by omega)
   ·exact h (k+1) (by omega) r (by omega)
  have h5:=Nat.mul_le_mul h2 h4
  rw[h1,h3]
  unfold sgn;split
  ·exact⟨z*w,by simp,by rw[Int.natAbs_mul];exact h5⟩
  ·exact⟨-(z*w),by simp;grind,by rw[Int.natAbs_neg,Int.natAbs_mul];exact h5⟩
end
end X
end Go.Proofs.YtaongbhamadlkaaGreat
namespace Go.Proofs.YtaongbhamadlkaaGreat
namespace X
section
variable {m n:Nat} {A:Nat→Nat→Rat} {c0 c1:Nat→Rat} {s u:St} {k:Nat}
theorem Inv.conv (h:Inv m n A c0 u) (h':Inv m n A c1 s) {r j:Nat} (hr:r < m) (hj:j≤n):u.t r j=sm m fun i=>u.t r (s.b i)*s.t i j:=by
 obtain⟨M,hM⟩:=h.l
 rw[hM r hr j hj,show(sm m fun q=>M r q*A q j)=sm m fun q=>sm m fun i=>(M r q*A q (s.b i))*s.t i j from sm_congr fun q hq=>by
  rw[h'.r q hq j hj,←sm_mul];exact sm_congr fun i _=>by grind]
 rw[sm_comm]
 exact sm_congr fun i hi=>by
  rw[sm_mulr,hM r hr (s.b i) (Nat.le_of_lt (h'.bd i hi))]
theorem sm_ne {f:Nat→Rat}:∀ {m:Nat},sm m f≠0→∃ i,i < m∧f i≠0
 |_,h=>Classical.byContradiction fun hno=>h (sm_zero fun i hi=>Classical.byContradiction fun hx=>hno ⟨i,hi,hx⟩)
def cnt (p:Nat→Bool):Nat→Nat
 |0=>0
 |m+1=>cnt p m+if p m then 1 else 0
theorem cnt_le {p:Nat→Bool}:∀ m,cnt p m≤m
 |0=>Nat.le_refl _
 |m+1=>by have:=cnt_le (p:=p) m;rw[cnt];split <;> omega
theorem cnt_mono {p q:Nat→Bool}:∀ {m:Nat},(∀ i,i < m→q i=true→p i=true)→cnt q m≤cnt p m
 |0,_=>Nat.le_refl _
 |m+1,h=>by
  have h1:=cnt_mono (m:=m) fun i hi=>h i (by omega)
  have h2:=h m (by omega)
  rw[cnt,cnt]
  by_cases c:q m=true
  ·rw[if_pos c,if_pos (h2 c)];omega
  ·rw[if_neg c];omega
theorem cnt_lt {p q:Nat→Bool}:∀ {m:Nat},(∀ i,i < m→q i=true→p i=true)→(∃ i,i < m∧p i=true∧q i=false)→cnt q m < cnt p m
 |0,_,⟨i,h,_⟩=>by omega
 |m+1,h,⟨i,h1,h2,h3⟩=>by
  rw[cnt,cnt]
  by_cases e:i=m
  ·subst e
   have h4:=cnt_mono (m:=i) fun j hj=>h j (by omega)
   rw[if_pos h2,if_neg (by rw[h3];decide)];omega
  ·have h4:=cnt_lt (m:=m) (fun j hj=>h j (by omega)) ⟨i,by omega,h2,h3⟩
   have h5:=h m (by omega)
   by_cases c:q m=true
   ·rw[if_pos c,if_pos (h5 c)];omega
   ·rw[if_neg c];omega
def mis (m:Nat) (s u:St) (i:Nat):Bool:=decide (∀ r,r < m→u.b r≠s.b i)
def bas (A:Nat→Nat→Rat) (s:St):Nat→Nat→Rat:=fun k r=>A r (s.b k)
theorem Inv.ent (h:Inv m n A c0 u) {i j:Nat} (hi:i < m) (hj:j≤n):dt m (rep (bas A u) i fun r=>A r j)=u.t i j*dt m (bas A u):=by
 rw[←cramer (fun k=>u.t k j) hi]
 refine dt_congr fun k hk r hr=>?_
 unfold rep;split
 ·show A r j=sm m fun k=>u.t k j*bas A u k r
  rw[h.r r hr j hj];exact sm_congr fun i _=>by unfold bas;grind
 ·rfl
theorem exchD (h:Inv m n A c1 s):∀ (d:Nat) (u:St),cnt (mis m s u) m≤d→Inv m n A c0 u→dt m (bas A u)≠0→∃ u',Inv m n A c0 u'∧dt m (bas A u')≠0∧∀ i,i < m→∃ r,r < m∧∀ j,j≤n→s.t i j=u'.t r j:=by
 intro d
 induction d with
 |zero=>
  intro u hc hu hs
  refine⟨u,hu,hs,fun i hi=>?_⟩
  have hall:∀ k,k < m→∃ r,r < m∧u.b r=s.b k:=fun k hk=>by
   have hno:mis m s u k=false:=by
    cases hx:mis m s u k with
    |false=>rfl
    |true=>
     exfalso
     have:=cnt_lt (p:=mis m s u) (q:=fun _=>false) (m:=m) (fun _ _ h=>by simp at h) ⟨k,hk,hx,rfl⟩
     omega
   exact Classical.byContradiction fun hx=>by
    have:=of_decide_eq_false hno
    exact this fun r hr hb=>hx ⟨r,hr,hb⟩
  obtain⟨r,hr,hb⟩:=hall i hi
  refine⟨r,hr,fun j hj=>?_⟩
  have e:=Inv.conv hu h hr hj
  rw[sm_one hi (fun k hk hki=>by
   have h1:u.t r (s.b k)=0:=by
    obtain⟨q,hq,hbq⟩:=hall k hk
    rw[←hbq,hu.u r hr q hq,if_neg]
    rintro rfl
    exact hki (h.inj hk hi (by rw[←hbq,hb]))
   rw[h1];grind)] at e
  have h1:u.t r (s.b i)=1:=by rw[←hb,hu.u r hr r hr,if_pos rfl]
  rw[e,h1];grind
 |succ d ih=>
  intro u hc hu hs
  by_cases hz:∃ i,i < m∧mis m s u i=true
  ·obtain⟨i,hi,hmi⟩:=hz
   have hno:=of_decide_eq_true hmi
   have e:=Inv.conv h hu hi (j:=s.b i) (Nat.le_of_lt (h.bd i hi))
   rw[h.u i hi i hi,if_pos rfl] at e
   obtain⟨r,hr,hne⟩:=sm_ne (m:=m) (f:=fun r=>s.t i (u.b r)*u.t r (s.b i)) (by rw[←e];decide)
   have n1:u.t r (s.b i)≠0:=fun hx=>hne (by show s.t i (u.b r)*u.t r (s.b i)=0;rw[hx];grind)
   have n2:s.t i (u.b r)≠0:=fun hx=>hne (by show s.t i (u.b r)*u.t r (s.b i)=0;rw[hx];grind)
   have n3:∀ k,k < m→s.b k≠u.b r:=fun k hk hb=>by
    rw[←hb,h.u i hi k hk] at n2
    by_cases c:i=k
    ·subst c;exact hno r hr hb.symm
    ·rw[if_neg c] at n2;exact n2 rfl
   have hp:=Inv.pv hu hr (h.bd i hi) n1
   have hlt:cnt (mis m s (pv u r (s.b i))) m < cnt (mis m s u) m:=by
    refine cnt_lt (fun k hk hq=>?_) ⟨i,hi,hmi,?_⟩
    ·have hq:=of_decide_eq_true hq
     refine decide_eq_true fun q hqm hb=>?_
     by_cases c:q=r
     ·subst c;exact n3 k hk hb.symm
     ·refine hq q hqm ?_
      show(if q=r then s.b i else u.b q)=_
      rw[if_neg c];exact hb
    ·refine decide_eq_false fun hx=>hx r hr ?_
     show(if r=r then s.b i else u.b r)=_
     rw[if_pos rfl]
   refine ih (pv u r (s.b i)) (by omega) hp ?_
   have e2:bas A (pv u r (s.b i))=rep (bas A u) r fun q=>A q (s.b i):=by
    funext k q;unfold bas rep
    show A q (if k=r then s.b i else u.b k)=_
    split <;> rfl
   rw[e2,hu.ent hr (Nat.le_of_lt (h.bd i hi))]
   intro hx
   rcases Rat.mul_eq_zero.1 hx with hx|hx
   ·exact n1 hx
   ·exact hs hx
  ·refine ih u ?_ hu hs
   have:cnt (mis m s u) m≤cnt (fun _=>false) m:=cnt_mono fun i hi hx=>absurd ⟨i,hi,hx⟩ hz
   have h1:∀ m,cnt (fun _=>false) m=0:=fun m=>by
    induction m with
    |zero=>rfl
    |succ m ih=>rw[cnt,ih];rfl
   rw[h1] at this;omega
theorem Inv.ratio (h:Inv m n A c1 s) (hu:Inv m n A c0 u) (hA:∀ r,r < m→∀ i,i < m→A r (u.b i)=if r=i then 1 else 0) {f:Nat→Rat} {K:Nat} (hf:∀ r,r < m→f r≠0) (hz:∀ r,r < m→∀ j,j≤n→∃ z:Int,f r*A r j=z∧z.natAbs≤K)
  {i j:Nat} (hi:i < m) (hj:j≤n):∃ p q:Int,q≠0∧s.t i j=(p:Rat) / q∧p.natAbs≤bdt K m∧q.natAbs≤bdt K m:=by
 obtain⟨v,hv,hd,hr⟩:=exchD h m u (cnt_le _) hu (dt_one fun j hj r hr=>by
  show A r (u.b j)=_
  rw[hA r hr j hj]
  by_cases e:r=j
  ·rw[if_pos e,if_pos e.symm]
  ·rw[if_neg e,if_neg fun h=>e h.symm])
 obtain⟨r,hrm,he⟩:=hr i hi
 have e1:=hv.ent hrm hj
 have hp:=pr_ne (f:=f) hf
 obtain⟨p,hp1,hp2⟩:=dt_int (K:=K) (m:=m) (c:=fun k q=>f q*rep (bas A v) r (fun r=>A r j) k q) fun k hk q hq=>by
  unfold rep;split
  ·exact hz q hq j hj
  ·exact hz q hq _ (Nat.le_of_lt (hv.bd k hk))
 obtain⟨q,hq1,hq2⟩:=dt_int (K:=K) (m:=m) (c:=fun k q=>f q*bas A v k q) fun k hk q hq=>hz q hq _ (Nat.le_of_lt (hv.bd k hk))
 rw[dt_rows] at hp1 hq1
 have hq0:(q:Rat)≠0:=by
  rw[←hq1];intro hx
  rcases Rat.mul_eq_zero.1 hx with hx|hx
  ·exact hp hx
  ·exact hd hx
 refine⟨p,q,fun hx=>hq0 (by rw[hx];rfl),?_,hp2,hq2⟩
 rw[he j hj,←hp1,e1,←hq1]
 rw[←hq1] at hq0
 generalize pr m f=a at *
 generalize dt m (bas A v)=b at *
 generalize v.t r j=t at *
 rw[show a*(t*b)=t*(a*b) by grind,Rat.div_def,Rat.mul_assoc,Rat.mul_inv_cancel _ hq0,Rat.mul_one]
end
def dp (f:Nat→Rat):Nat→Nat
 |0=>1
 |n+1=>(f n).den*dp f n
theorem dp_pos {f:Nat→Rat}:∀ n,0 < dp f n
 |0=>Nat.one_pos
 |n+1=>Nat.mul_pos (f n).den_pos (dp_pos n)
theorem dp_le {f:Nat→Rat} {W:Nat}:∀ {n:Nat},(∀ k,k < n→(f k).den≤W)→dp f n≤W ^ n
 |0,_=>Nat.le_refl _
 |n+1,h=>by
  rw[dp,Nat.pow_succ,Nat.mul_comm]
  exact Nat.mul_le_mul (dp_le fun k hk=>h k (by omega)) (h n (by omega))
theorem den_mul (q:Rat):(q.den:Rat)*q=q.num:=by
 have h:=Rat.num_divInt_den q
 have h2:(q.den:Rat)≠0:=by
  intro hx
  have:=q.den_nz
  exact this (by exact_mod_cast hx)
 rw[Rat.mul_comm]
 conv=>lhs;lhs;rw[←h]
 rw[Rat.divInt_eq_div,Rat.div_def,Rat.mul_assoc,show((q.den:Int):Rat)=(q.den:Rat) from rfl,Rat.inv_mul_cancel _ h2,Rat.mul_one]
theorem dp_int {f:Nat→Rat}:∀ {n k:Nat},k < n→∃ z:Int,(dp f n:Rat)*f k=z∧z.natAbs≤dp f n*(f k).num.natAbs
 |0,_,h=>by omega
 |n+1,k,h=>by
  rw[dp]
  by_cases e:k=n
  ·subst e
   refine⟨dp f k*(f k).num,?_,?_⟩
   ·have:=den_mul (f k)
    rw[Rat.intCast_mul,←this,show((dp f k:Int):Rat)=(dp f k:Rat) from rfl,Rat.natCast_mul]
    grind
   ·rw[Int.natAbs_mul,Int.natAbs_natCast]
    exact Nat.mul_le_mul_right _ (Nat.le_mul_of_pos_left _ (f k).den_pos)
  ·obtain⟨z,h1,h2⟩:=dp_int (f:=f) (n:=n) (k:=k) (by omega)
   refine⟨(f n).den*z,?_,?_⟩
   ·rw[Rat.intCast_mul,←h1,show(((f n).den:Int):Rat)=((f n).den:Rat) from rfl,Rat.natCast_mul]
    grind
   ·rw[Int.natAbs_mul,Int.natAbs_natCast,Nat.mul_assoc]
    exact Nat.mul_le_mul_left _ h2
end X
end Go.Proofs.YtaongbhamadlkaaGreat
namespace Go.Proofs.YtaongbhamadlkaaGreat
def Sq (k:Nat) (q:Rat):Prop:=(digs q.num.natAbs).length≤k∧(digs q.den).length≤k
section
variable {a b:Rat} {k l:Nat}
theorem Sq.sm (h:Sq k a) (hk:k≤400000000):Sm a:=⟨Nat.le_trans h.1 hk,Nat.le_trans h.2 hk⟩
theorem Sq.up (h:Sq k a) (hk:k≤l):Sq l a:=⟨Nat.le_trans h.1 hk,Nat.le_trans h.2 hk⟩
theorem di_num (n:Int) (d:Nat) (hd:d≠0) (h1:(digs n.natAbs).length≤k) (h2:(digs d).length≤k):Sq k (mkRat n d):=by
 constructor
 ·rw[Rat.num_mkRat,if_neg hd];exact Nat.le_trans (digs_mono (Int.natAbs_ediv_le_natAbs _ _)) h1
 ·rw[Rat.den_mkRat,if_neg hd];exact Nat.le_trans (digs_mono (Nat.div_le_self _ _)) h2
theorem Sq.zero:Sq 1 0:=by
 constructor
 ·show(digs 0).length≤1;rw[digs_0];decide
 ·show(digs 1).length≤1;rw[digs_1 (by decide) (by decide)];decide
theorem Sq.add (h1:Sq k a) (h2:Sq l b):Sq (k+l+1) (a+b):=by
 rw[Rat.add_def']
 refine di_num _ _ (Nat.mul_ne_zero a.den_nz b.den_nz) ?_ ?_
 ·have e1:=digs_mono (Int.natAbs_add_le (a.num*b.den) (b.num*a.den))
  have e2:=digs_len_add (a.num*b.den).natAbs (b.num*a.den).natAbs
  have e3:=digs_len_mul a.num.natAbs b.den
  have e4:=digs_len_mul b.num.natAbs a.den
  rw[abs_mulc,abs_mulc] at e1 e2
  have:=h1.1;have:=h1.2;have:=h2.1;have:=h2.2
  omega
 ·have e3:=digs_len_mul a.den b.den
  have:=h1.2;have:=h2.2
  omega
theorem Sq.neg (h:Sq k a):Sq k (-a):=by
 unfold Sq at *;rw[Rat.neg_num,Rat.neg_den,Int.natAbs_neg];exact h
theorem Sq.sub (h1:Sq k a) (h2:Sq l b):Sq (k+l+1) (a - b):=by
 rw[Rat.sub_eq_add_neg];exact h1.add h2.neg
theorem Sq.mul (h1:Sq k a) (h2:Sq l b):Sq (k+l) (a*b):=by
 rw[Rat.mul_def']
 refine di_num _ _ (Nat.mul_ne_zero a.den_nz b.den_nz) ?_ ?_
 ·rw[Int.natAbs_mul]
  have e3:=digs_len_mul a.num.natAbs b.num.natAbs
  have:=h1.1;have:=h2.1
  omega
 ·have e3:=digs_len_mul a.den b.den
  have:=h1.2;have:=h2.2
  omega
theorem Sq.inv (h0:0 < k) (h:Sq k b):Sq k b⁻¹:=by
 obtain⟨h1,h2⟩:=h
 constructor
 ·rw[Rat.num_inv,Int.natAbs_mul,Int.natAbs_natCast]
  by_cases c:b.num=0
  ·rw[c];simp[digs_0]
  ·rw[Int.natAbs_sign_of_ne_zero c,Nat.one_mul];exact h2
 ·rw[Rat.den_inv]
  split
  ·rw[digs_1 (by decide) (by decide)];exact h0
  ·exact h1
theorem Sq.div (h0:0 < l) (h1:Sq k a) (h2:Sq l b):Sq (k+l) (a / b):=by
 rw[Rat.div_def];exact h1.mul (h2.inv h0)
theorem Sq.int {n:Int} (h:(digs n.natAbs).length≤k) (h0:0 < k):Sq k (n:Rat):=by
 constructor
 ·rw[Rat.num_intCast];exact h
 ·rw[Rat.den_intCast,digs_1 (by decide) (by decide)];exact h0
end
namespace X
theorem sq_sm {k:Nat} {f:Nat→Rat}:∀ {m:Nat},(∀ i,i < m→Sq k (f i))→Sq (m*(k+1)+1) (sm m f)
 |0,_=>by rw[Nat.zero_mul];exact Sq.zero
 |m+1,h=>by
  have h1:=(sq_sm (m:=m) fun i hi=>h i (by omega)).add (h m (by omega))
  exact h1.up (by rw[Nat.succ_mul];omega)
theorem bdt_len {K k:Nat} (hK:(digs K).length≤k):∀ {m:Nat},m < 1000000000→(digs (bdt K m)).length≤m*(k+1)+1
 |0,_=>by rw[bdt,digs_1 (by decide) (by decide)];simp
 |m+1,h=>by
  have e:(m+1)*(k+1)=m*(k+1)+(k+1):=Nat.succ_mul _ _
  have h1:=bdt_len hK (m:=m) (by omega)
  have h2:=digs_len_mul (m+1) (K*bdt K m)
  have h3:=digs_len_mul K (bdt K m)
  rw[digs_1 (n:=m+1) (by omega) h] at h2
  rw[bdt,e]
  simp only[List.length_cons,List.length_nil] at h2
  omega
end X
end Go.Proofs.YtaongbhamadlkaaGreat
namespace Go.Proofs.YtaongbhamadlkaaGreat
open W Go.RowKit
def IsR (q:Rat):RPost:=fun v b G=>∃ m:QM,v=qv m∧b=[]∧G=[isQ (qv m) q]
theorem isR_of {P:Program} {f:FuncId} {ag:List Value} {bx:List Ow} {F:List Fct} {q:Rat} (h:FnB P f ag bx F (IsQ q)):FnB P f ag bx F (IsR q):=
 h.mono fun v b G ⟨nb,d1,d2,h1,h2,h3,h4⟩=>⟨(nb,d1,d2),h1,h3,h4⟩
namespace Zn
section
variable (m1 m2:QM) (a b:Rat)
theorem add (ha:Sm a) (hb:Sm b):FnB Tryz.prog 32 [qv m1,qv m2] [] [isQ (qv m1) a,isQ (qv m2) b] (IsR (a+b)):=isR_of (Rta.add_c _ _ _ _ ha hb)
theorem sub (ha:Sm a) (hb:Sm b):FnB Tryz.prog 39 [qv m1,qv m2] [] [isQ (qv m1) a,isQ (qv m2) b] (IsR (a - b)):=isR_of (Rtc.sub_c _ _ _ _ ha hb)
theorem mul (ha:Sm a) (hb:Sm b):FnB Tryz.prog 31 [qv m1,qv m2] [] [isQ (qv m1) a,isQ (qv m2) b] (IsR (a*b)):=isR_of (Rmu.mul_c _ _ _ _ ha hb)
theorem div (ha:Sm a) (hb:Sm b):FnB Tryz.prog 173 [qv m1,qv m2] [] [isQ (qv m1) a,isQ (qv m2) b] (IsR (a / b)):=isR_of (Rmu.div_c _ _ _ _ ha hb)
theorem neg:FnB Tryz.prog 36 [qv m1] [] [isQ (qv m1) a] (IsR (-a)):=isR_of (Rta.neg_c _ _)
theorem cmp (ha:Sm a) (hb:Sm b):FnB Tryz.prog 33 [qv m1,qv m2] [] [isQ (qv m1) a,isQ (qv m2) b] (IsV (.int .i64 (cmpQ a b))):=Rtc.qcompare_c _ _ _ _ ha hb
theorem sign:FnB Tryz.prog 49 [qv m1] [] [isQ (qv m1) a] (IsV (.int .i64 (sgn a.num))):=Rta.sign_c _ _
theorem same:FnB Tryz.prog 16 [qv m1,qv m2] [] [isQ (qv m1) a,isQ (qv m2) b] (IsV (.bool (decide (a=b)))):=Rtc.same_c _ _ _ _
theorem of (p q:Int) (h1:p.natAbs < B2) (h2:q.natAbs < B2):FnB Tryz.prog 47 [.int .i64 p,.int .i64 q] [] [] (IsR (Rat.divInt p q)):=isR_of (Rta.of_c p q h1 h2)
theorem radd (ha:Sm a) (hb:Sm b):FnB Tryz.prog 76 [qv m1,qv m2] [] [isQ (qv m1) a,isQ (qv m2) b] (IsR (a+b)):=isR_of (Rp.rqadd_c _ _ _ _ ha hb)
theorem rsub (ha:Sm a) (hb:Sm b):FnB Tryz.prog 135 [qv m1,qv m2] [] [isQ (qv m1) a,isQ (qv m2) b] (IsR (a - b)):=isR_of (Rp.rqsub_c _ _ _ _ ha hb)
theorem rmul (ha:Sm a) (hb:Sm b):FnB Tryz.prog 77 [qv m1,qv m2] [] [isQ (qv m1) a,isQ (qv m2) b] (IsR (a*b)):=isR_of (Rp.rqmul_c _ _ _ _ ha hb)
theorem rdiv (ha:Sm a) (hb:Sm b):FnB Tryz.prog 61 [qv m1,qv m2] [] [isQ (qv m1) a,isQ (qv m2) b] (IsR (a / b)):=isR_of (Rp.rqdiv_c _ _ _ _ ha hb)
theorem rneg:FnB Tryz.prog 124 [qv m1] [] [isQ (qv m1) a] (IsR (-a)):=isR_of (Rp.rqneg_c _ _)
theorem rcmp (ha:Sm a) (hb:Sm b):FnB Tryz.prog 62 [qv m1,qv m2] [] [isQ (qv m1) a,isQ (qv m2) b] (IsV (.int .i64 (cmpQ a b))):=Rp.rqcompare_c _ _ _ _ ha hb
theorem rsign:FnB Tryz.prog 60 [qv m1] [] [isQ (qv m1) a] (IsV (.int .i64 (sgn a.num))):=Rp.rqsign_c _ _
theorem rsame:FnB Tryz.prog 68 [qv m1,qv m2] [] [isQ (qv m1) a,isQ (qv m2) b] (IsV (.bool (decide (a=b)))):=Rp.rqsame_c _ _ _ _
theorem rof (p q:Int) (h1:p.natAbs < B2) (h2:q.natAbs < B2):FnB Tryz.prog 30 [.int .i64 p,.int .i64 q] [] [] (IsR (Rat.divInt p q)):=isR_of (Rp.rqof_c p q h1 h2)
end
end Zn
theorem sgn_zero {q:Rat}:sgn q.num=0↔q=0:=by
 rw[←Rat.num_eq_zero];unfold sgn;split <;> (try split) <;> omega
theorem num_neg' {q:Rat}:q.num < 0↔q < 0:=by
 rw[Rat.lt_iff];simp
theorem num_pos' {q:Rat}:0 < q.num↔0 < q:=by
 rw[Rat.lt_iff];simp
theorem sgn_neg {q:Rat}:sgn q.num < 0↔q < 0:=by
 rw[←num_neg'];unfold sgn;split <;> (try split) <;> omega
theorem sgn_pos {q:Rat}:0 < sgn q.num↔0 < q:=by
 rw[←num_pos'];unfold sgn;split <;> (try split) <;> omega
end Go.Proofs.YtaongbhamadlkaaGreat
namespace Go.Proofs.YtaongbhamadlkaaGreat
open W Go.RowKit
def wpx (l r:Nat→Rat) (f:Rat) (k j:Nat):Rat:=if j < k then l j - f*r j else l j
theorem wpx_up {l r:Nat→Rat} {f:Rat} {k:Nat} (i:Nat):upd (wpx l r f k) k (wpx l r f k k - f*r k) i=wpx l r f (k+1) i:=by
 unfold wpx upd
 by_cases c:i=k
 ·subst c;simp
 ·by_cases c2:i < k
  ·simp[c,c2,show i < k+1 by omega]
  ·simp[c,c2,show ¬i < k+1 by omega]
theorem wpx_keep {l r:Nat→Rat} {f:Rat} {k:Nat} (h:r k=0) (i:Nat):wpx l r f k i=wpx l r f (k+1) i:=by
 unfold wpx
 by_cases c:i=k
 ·subst c;simp[h];grind
 ·by_cases c2:i < k
  ·simp[c2,show i < k+1 by omega]
  ·simp[c2,show ¬i < k+1 by omega]
def IsWp (lv rw:Value) (n:Nat) (mr:Nat→QM) (z:Nat→Rat):RPost:=fun v B G=>∃ ml,v=.tuple #[]∧B=[Ow.slice lv 31 4 (qcells n ml),Ow.slice rw 31 4 (qcells n mr)]∧G=[mF n ml z]
namespace Z
attribute [local irreducible] WC WL WD YO LO LoopEnd W.Fin Scalar SliceT FieldAt Row ArrT AllocT KnS Has W.One SrcE IntT
theorem d114 {G G':Prop} (h:G') (s:Bx G'→G:=by
 intro h
 first|(apply WC.draw (id:=6) [0,1,2,3,4,5,6,7,10] (.held 0 (.held 1 (.held 2 (.held 3 (.held 4 (.held 5 (.held 6 (.held 7 (.loud 8 (.loud 9 (.held 10 (.loud 11 (.done))))))))))))) mixed (by kernel_rfl))|fail
 exact Bx.h h):G:=s ⟨h⟩
set_option maxHeartbeats 8000000 in
set_option maxRecDepth 60000 in
theorem wipe_c (lv rw:Value) (n col K:Nat) (ml mr:Nat→QM) (l r:Nat→Rat) (hc:col < n) (hn:n≤100000) (hK:K≤100000000) (hl:∀ k,k < n→Sq K (l k)) (hr:∀ k,k < n→Sq K (r k)) :
  FnB Tryz.prog 114 [lv,rw,.int .i64 (col:Int)] [Ow.slice lv 31 4 (qcells n ml),Ow.slice rw 31 4 (qcells n mr)] [mF n ml l,mF n mr r] (IsWp lv rw n mr (fun k=>l k - l col*r k)):=by
 refine fn_of [(0,lv),(1,rw),(2,(.int .i64 (col:Int)))] 38 Tryz.func114 rfl Tryz.ntmps114 (by kernel_rfl) rfl suA fun h0=>?_
 have hsm:∀ {q},Sq K q→Sm q:=fun h=>h.sm (by omega)
 refine WC.fact (isQ (qv (ml col)) (l col)) (W.Has.q hmA hc) ?_
 repeat'(first|refine gB ?_|(refine gH ?_;intro g)|(refine gW ?_;intro v)|refine d114 ?_|fail)
 first|refine WL.callV (Zn.sign (ml col) (l col)) ?_|refine WD.callV (Zn.sign (ml col) (l col)) ?_
 revert g;intro g6
 by_cases c0:l col=0
 ·have hz:=sgn_zero.2 c0
  repeat'(first|refine gB ?_|(refine gH ?_;intro g)|(refine gW ?_;intro v)|refine d114 ?_|fail)
  refine WC.fact (mF n ml (fun k=>l k - l col*r k)) (W.Has.mFsame (qf:=l) hmA (fun i _=>by rw[c0];grind)) ?_
  refine WC.ret ?_
  exact Fin.p [Ow.slice lv 31 4 (qcells n ml),Ow.slice rw 31 4 (qcells n mr)] [mF n ml (fun k=>l k - l col*r k)] (ResE.t0 rfl) meA slA haA ⟨_,rfl,rfl,rfl⟩
 have hz:¬sgn (l col).num=0:=fun h=>c0 (sgn_zero.1 h)
 repeat'(first|refine gB ?_|(refine gH ?_;intro g)|(refine gW ?_;intro v)|refine d114 ?_|fail)
 refine WC.lp (σ:=Nat×(Nat→QM)) (fun s=>[(18,.int .i64 (s.1:Int)),(17,.int .i64 (n:Int)),(16,rw),(0,lv),(6,ptr g6)]) (fun s=>[Ow.cells g6 31 (qcs (ml col)),Ow.slice lv 31 4 (qcells n s.2),Ow.slice rw 31 4 (qcells n mr)])
  (fun s=>[isQ (qv (ml col)) (l col),mF n s.2 (wpx l r (l col) s.1),mF n mr r,ge h0]) (fun s=>s.1≤n) (fun s=>n - s.1) (0,ml) (Nat.zero_le _) ?_ (hG:=.cons hmA (.cons (W.Has.mFsame (qf:=l) hmA fun i _=>by simp[wpx]) (.cons hmA (.cons hmA .nil))))
 rintro⟨k,mx⟩ hk
 simp only at hk ⊢
 by_cases c:k < n
 ·refine WC.fact (isQ (qv (mr k)) (r k)) (W.Has.q (ms:=mr) hmA c) ?_
  refine WC.fact (isQ (qv (mx k)) (wpx l r (l col) k k)) (W.Has.q (ms:=mx) hmA c) ?_
  have hw:wpx l r (l col) k k=l k:=by simp[wpx]
  repeat'(first|refine gB ?_|(refine gH ?_;intro g)|(refine gW ?_;intro v)|refine d114 ?_|fail)
  first|refine WL.callV (Zn.sign (mr k) (r k)) ?_|refine WD.callV (Zn.sign (mr k) (r k)) ?_
  by_cases c1:r k=0
  ·have hz1:=sgn_zero.2 c1
   repeat'(first|refine gB ?_|(refine gH ?_;intro g)|(refine gW ?_;intro v)|refine d114 ?_|fail)
   exact LoopEnd.mk (k+1,mx) (by show k+1≤n;omega) (by show n - (k+1) < n - k;omega) (hG:=.cons hmA (.cons (W.Has.mFsame (qf:=wpx l r (l col) k) hmA fun i _=>wpx_keep c1 i) (.cons hmA (.cons hmA .nil))))
  ·have hz1:¬sgn (r k).num=0:=fun h=>c1 (sgn_zero.1 h)
   repeat'(first|refine gB ?_|(refine gH ?_;intro g)|(refine gW ?_;intro v)|refine d114 ?_|fail)
   first|refine WL.callK (Zn.mul (ml col) (mr k) (l col) (r k) (hsm (hl col hc)) (hsm (hr k c))) ?_|refine WD.callK (Zn.mul (ml col) (mr k) (l col) (r k) (hsm (hl col hc)) (hsm (hr k c))) ?_|refine LO.callM (Zn.mul (ml col) (mr k) (l col) (r k) (hsm (hl col hc)) (hsm (hr k c))) ?_
   rintro _ _ _ ⟨m1,rfl,rfl,rfl⟩
   simp only[List.nil_append,List.cons_append]
   repeat'(first|refine gB ?_|(refine gH ?_;intro g)|(refine gW ?_;intro v)|refine d114 ?_|fail)
   first|refine WL.callK (Zn.sub (mx k) m1 (wpx l r (l col) k k) (l col*r k) (by rw[hw];exact hsm (hl k c)) (((hl col hc).mul (hr k c)).sm (by omega))) ?_|refine WD.callK (Zn.sub (mx k) m1 (wpx l r (l col) k k) (l col*r k) (by rw[hw];exact hsm (hl k c)) (((hl col hc).mul (hr k c)).sm (by omega))) ?_|refine LO.callM (Zn.sub (mx k) m1 (wpx l r (l col) k k) (l col*r k) (by rw[hw];exact hsm (hl k c)) (((hl col hc).mul (hr k c)).sm (by omega))) ?_
   rintro _ _ _ ⟨m2,rfl,rfl,rfl⟩
   simp only[List.nil_append,List.cons_append]
   refine WD.fact (mF n (upd mx k m2) (wpx l r (l col) (k+1))) ((W.Has.mFset (k:=k) (ms:=mx) (m:=m2) (qf:=wpx l r (l col) k) hmA hmA).mFsame fun i _=>wpx_up i) ?_
   repeat'(first|refine gB ?_|(refine gH ?_;intro g)|(refine gW ?_;intro v)|refine d114 ?_|fail)
   exact LoopEnd.mk (k+1,_) (by show k+1≤n;omega) (by show n - (k+1) < n - k;omega)
 ·obtain rfl:k=n:=by omega
  repeat'(first|refine gB ?_|(refine gH ?_;intro g)|(refine gW ?_;intro v)|refine d114 ?_|fail)
  exact Fin.p [Ow.slice lv 31 4 (qcells k mx),Ow.slice rw 31 4 (qcells k mr)] [mF k mx (fun j=>l j - l col*r j)] (ResE.t0 rfl) meA slA (.cons (W.Has.mFsame (qf:=wpx l r (l col) k) hmA (fun i hi=>by simp[wpx,hi])) .nil) ⟨_,rfl,rfl,rfl⟩
end Z
end Go.Proofs.YtaongbhamadlkaaGreat
namespace Go.Proofs.YtaongbhamadlkaaGreat
open W Go.RowKit
abbrev TB (xg vars m n:Nat) (tv cv bv:Value) (rv:Nat→Value) (ms:Nat→Nat→QM) (mc:Nat→QM) (b:Nat→Nat):List Ow:=
 Ow.cells xg 88 [.int .i64 (vars:Int),.int .i64 (m:Int),.int .i64 (n:Int),tv,cv,bv]::Ow.slice tv 24 1 (fnV m rv)::Ow.slice cv 31 4 (qcells (n+1) mc)::Ow.slice bv 3 1 (ints (fnL m b))::rowsO m (n+1) rv ms
def IsTB (xg vars m n:Nat) (tv cv bv:Value) (rv:Nat→Value) (s:X.St):RPost:=fun v B G=>∃ ms mc,v=.tuple #[]∧B=TB xg vars m n tv cv bv rv ms mc s.b∧G=[mT m (n+1) ms s.t,mF (n+1) mc s.c]
def dvx (l:Nat→Rat) (d:Rat) (k j:Nat):Rat:=if j < k then l j / d else l j
theorem dvx_up {l:Nat→Rat} {d:Rat} {k:Nat} (i:Nat):upd (dvx l d k) k (dvx l d k k / d) i=dvx l d (k+1) i:=by
 unfold dvx upd
 by_cases c:i=k
 ·subst c;simp
 ·by_cases c2:i < k
  ·simp[c,c2,show i < k+1 by omega]
  ·simp[c,c2,show ¬i < k+1 by omega]
def pvx (s:X.St) (row col i j k:Nat):Rat:=if j=row then s.t row k / s.t row col else if j < i then s.t j k - s.t j col*(s.t row k / s.t row col) else s.t j k
namespace Z
attribute [local irreducible] WC WL WD YO LO LoopEnd W.Fin Scalar SliceT FieldAt Row ArrT AllocT KnS Has W.One SrcE IntT
theorem d117 {G G':Prop} (h:G') (s:Bx G'→G:=by
 intro h
 first|(apply WC.draw (id:=4) [0,1,2,3,4,5,6,7,8,9,11] (.held 0 (.held 1 (.held 2 (.held 3 (.held 4 (.held 5 (.held 6 (.held 7 (.held 8 (.held 9 (.loud 10 (.held 11 (.loud 12 (.done)))))))))))))) mixed (by kernel_rfl))|(apply WC.draw (id:=12) [0,1,2,3,4,5,6,7,8,9,10,11] (.held 0 (.held 1 (.held 2 (.held 3 (.held 4 (.held 5 (.held 6 (.held 7 (.held 8 (.held 9 (.held 10 (.held 11 (.loud 12 (.done)))))))))))))) mixed (by kernel_rfl))|fail
 exact Bx.h h):G:=s ⟨h⟩
set_option maxHeartbeats 8000000 in
set_option maxRecDepth 60000 in
theorem pivot_c (xg vars m n:Nat) (tv cv bv:Value) (rv:Nat→Value) (ms:Nat→Nat→QM) (mc:Nat→QM) (s:X.St) (row col K:Nat) (hrow:row < m) (hcol:col < n) (hm:m≤1000) (hn:n≤10000) (hK:K≤20000000) (hK0:0 < K) (hs:∀ i,i < m→∀ k,k < n+1→Sq K (s.t i k)) (hc:∀ k,k < n+1→Sq K (s.c k)) :
  FnB Tryz.prog 117 [ptr xg,.int .i64 (row:Int),.int .i64 (col:Int)] (TB xg vars m n tv cv bv rv ms mc s.b) [mT m (n+1) ms s.t,mF (n+1) mc s.c] (IsTB xg vars m n tv cv bv rv (X.pv s row col)):=by
 refine fn_of [(0,(ptr xg)),(1,(.int .i64 (row:Int))),(2,(.int .i64 (col:Int)))] 91 Tryz.func117 rfl Tryz.ntmps117 (by kernel_rfl) rfl suA fun h0=>?_
 have hsm:∀ {q},Sq K q→Sm q:=fun h=>h.sm (by omega)
 refine WC.perm (Ow.cells xg 88 [.int .i64 (vars:Int),.int .i64 (m:Int),.int .i64 (n:Int),tv,cv,bv]::Ow.slice tv 24 1 (fnV m rv)::Ow.slice cv 31 4 (qcells (n+1) mc)::Ow.slice bv 3 1 (ints (fnL m s.b))::rowO (n+1) (rv row) (ms row)::rowsX m (n+1) rv ms row) ((((((rows_one hrow).cons _).cons _).cons _).cons _)) ?_
 refine WC.fact (isQ (qv (ms row col)) (s.t row col)) (W.Has.qt hmA hrow (by omega)) ?_
 refine WC.fact (mF (n+1) (ms row) (s.t row)) (W.Has.tm hmA hrow) ?_
 repeat'(first|refine gB ?_|(refine gH ?_;intro g)|(refine gW ?_;intro v)|refine d117 ?_|fail)
 revert g;intro g6
 have hd:=hs row hrow col (by omega)
 refine WC.lp (σ:=Nat×(Nat→QM)) (fun st=>[(29,.int .i64 (st.1:Int)),(28,.int .i64 ((n+1:Nat):Int)),(27,rv row),(0,ptr xg),(1,.int .i64 (row:Int)),(2,.int .i64 (col:Int)),(6,ptr g6)])
  (fun st=>Ow.cells g6 31 (qcs (ms row col))::Ow.cells xg 88 [.int .i64 (vars:Int),.int .i64 (m:Int),.int .i64 (n:Int),tv,cv,bv]::Ow.slice tv 24 1 (fnV m rv)::Ow.slice cv 31 4 (qcells (n+1) mc)::Ow.slice bv 3 1 (ints (fnL m s.b))::rowO (n+1) (rv row) st.2::rowsX m (n+1) rv ms row)
  (fun st=>[isQ (qv (ms row col)) (s.t row col),mF (n+1) st.2 (dvx (s.t row) (s.t row col) st.1),mT m (n+1) ms s.t,mF (n+1) mc s.c,ge h0]) (fun st=>st.1≤n+1) (fun st=>n+1 - st.1) (0,ms row) (Nat.zero_le _) ?_ (hG:=.cons hmA (.cons (W.Has.mFsame (qf:=s.t row) hmA fun i _=>by simp[dvx]) (.cons hmA (.cons hmA (.cons hmA .nil)))))
 rintro⟨k,mx⟩ hk
 simp only at hk ⊢
 by_cases c:k < n+1
 ·refine WC.fact (isQ (qv (mx k)) (dvx (s.t row) (s.t row col) k k)) (W.Has.q (ms:=mx) hmA c) ?_
  have hw:dvx (s.t row) (s.t row col) k k=s.t row k:=by simp[dvx]
  repeat'(first|refine gB ?_|(refine gH ?_;intro g)|(refine gW ?_;intro v)|refine d117 ?_|fail)
  first|refine WL.callK (Zn.div (mx k) (ms row col) (dvx (s.t row) (s.t row col) k k) (s.t row col) (by rw[hw];exact hsm (hs row hrow k c)) (hsm hd)) ?_|refine WD.callK (Zn.div (mx k) (ms row col) (dvx (s.t row) (s.t row col) k k) (s.t row col) (by rw[hw];exact hsm (hs row hrow k c)) (hsm hd)) ?_|refine LO.callM (Zn.div (mx k) (ms row col) (dvx (s.t row) (s.t row col) k k) (s.t row col) (by rw[hw];exact hsm (hs row hrow k c)) (hsm hd)) ?_
  rintro _ _ _ ⟨m2,rfl,rfl,rfl⟩
  simp only[List.nil_append,List.cons_append]
  refine WD.fact (mF (n+1) (upd mx k m2) (dvx (s.t row) (s.t row col) (k+1))) ((W.Has.mFset (k:=k) (ms:=mx) (m:=m2) (qf:=dvx (s.t row) (s.t row col) k) hmA hmA).mFsame fun i _=>dvx_up i) ?_
  repeat'(first|refine gB ?_|(refine gH ?_;intro g)|(refine gW ?_;intro v)|refine d117 ?_|fail)
  exact LoopEnd.mk (k+1,_) (by show k+1≤n+1;omega) (by show n+1 - (k+1) < n+1 - k;omega)
 ·obtain rfl:k=n+1:=by omega
  repeat'(first|refine gB ?_|(refine gH ?_;intro g)|(refine gW ?_;intro v)|refine d117 ?_|fail)
  refine WC.fact (mT m (n+1) (upd ms row mx) (pvx s row col 0)) ((W.Has.tset (ms:=ms) (tq:=s.t) (i:=row) hmA (x:=mx) hmA).tsame fun i _ k hk=>?_) ?_
  ·unfold upd pvx dvx
   by_cases c:i=row
   ·simp[c,hk]
   ·simp[c]
  refine WC.perm (Ow.cells g6 31 (qcs (ms row col))::Ow.cells xg 88 [.int .i64 (vars:Int),.int .i64 (m:Int),.int .i64 (n:Int),tv,cv,bv]::Ow.slice tv 24 1 (fnV m rv)::Ow.slice cv 31 4 (qcells (n+1) mc)::Ow.slice bv 3 1 (ints (fnL m s.b))::rowsO m (n+1) rv (upd ms row mx)) ((((((rows_upd hrow).symm.cons _).cons _).cons _).cons _).cons _) ?_
  refine WC.lpP (σ:=Nat×(Nat→Nat→QM)) (fun st=>[(52,.int .i64 (st.1:Int)),(51,.int .i64 (m:Int)),(50,tv),(0,ptr xg),(1,.int .i64 (row:Int)),(2,.int .i64 (col:Int))])
   (fun st=>Ow.cells xg 88 [.int .i64 (vars:Int),.int .i64 (m:Int),.int .i64 (n:Int),tv,cv,bv]::Ow.slice tv 24 1 (fnV m rv)::Ow.slice cv 31 4 (qcells (n+1) mc)::Ow.slice bv 3 1 (ints (fnL m s.b))::rowsO m (n+1) rv st.2)
   (fun st=>[mT m (n+1) st.2 (pvx s row col st.1),mF (n+1) mc s.c,ge h0]) (fun st=>st.1≤m) (fun st=>m - st.1) (0,upd ms row mx) (Nat.zero_le _) ?_
  clear c hk
  rintro⟨i,mt⟩ hi
  simp only at hi ⊢
  have hdq:∀ k,k < n+1→Sq (2*K) (s.t row k / s.t row col):=fun k hk=>(Sq.div hK0 (hs row hrow k hk) hd).up (by omega)
  have hrq:∀ k,k < n+1→Sq (2*K) (pvx s row col i row k):=fun k hk=>by unfold pvx;rw[if_pos rfl];exact hdq k hk
  by_cases ci:i < m
  ·by_cases cr:i=row
   ·repeat'(first|refine gB ?_|(refine gH ?_;intro g)|(refine gW ?_;intro v)|refine d117 ?_|fail)
    exact LoopEndP.mk (i+1,mt) (by show i+1≤m;omega) (by show m - (i+1) < m - i;omega) [] (by rw[List.append_nil]) (hG:=.cons (W.Has.tsame (tq:=pvx s row col i) hmA fun j _ k _=>by
     unfold pvx
     by_cases c1:j=row
     ·rw[if_pos c1,if_pos c1]
     ·rw[if_neg c1,if_neg c1]
      by_cases c2:j < i
      ·rw[if_pos c2,if_pos (by omega)]
      ·rw[if_neg c2,if_neg (by omega)]) (.cons hmA (.cons hmA .nil)))
   ·have hiq:∀ k,k < n+1→Sq (2*K) (pvx s row col i i k):=fun k hk=>by unfold pvx;rw[if_neg cr,if_neg (by omega)];exact(hs i ci k hk).up (by omega)
    repeat'(first|refine gB ?_|(refine gH ?_;intro g)|(refine gW ?_;intro v)|refine d117 ?_|fail)
    refine WL.fact' (mF (n+1) (mt i) (pvx s row col i i)) (W.Has.tm hmA ci) ?_
    refine WL.fact' (mF (n+1) (mt row) (pvx s row col i row)) (W.Has.tm hmA hrow) ?_
    refine WL.callG [rowO (n+1) (rv i) (mt i),rowO (n+1) (rv row) (mt row)] (Ow.cells xg 88 [.int .i64 (vars:Int),.int .i64 (m:Int),.int .i64 (n:Int),tv,cv,bv]::Ow.slice tv 24 1 (fnV m rv)::Ow.slice cv 31 4 (qcells (n+1) mc)::Ow.slice bv 3 1 (ints (fnL m s.b))::rowsY m (n+1) rv mt row i) (perm6 (rows_two hrow ci cr)) (wipe_c (rv i) (rv row) (n+1) col (2*K) (mt i) (mt row) (pvx s row col i i) (pvx s row col i row) (by omega) (by omega) (by omega) hiq hrq) ?_
    rintro _ _ _ ⟨mi,rfl,rfl,rfl⟩
    simp only[List.nil_append,List.cons_append]
    refine WL.fact' (mT m (n+1) (upd mt i mi) (pvx s row col (i+1))) ((W.Has.tset (ms:=mt) (tq:=pvx s row col i) (i:=i) hmA (x:=mi) hmA).tsame fun j _ k _=>?_) ?_
    ·unfold upd
     by_cases c1:j=i
     ·subst c1
      rw[if_pos rfl]
      unfold pvx
      rw[if_neg cr,if_neg (by omega),if_pos rfl,if_neg cr,if_neg (by omega),if_neg cr,if_pos (by omega)]
     ·rw[if_neg c1]
      unfold pvx
      by_cases c3:j=row
      ·rw[if_pos c3,if_pos c3]
      ·rw[if_neg c3,if_neg c3]
       by_cases c2:j < i
       ·rw[if_pos c2,if_pos (by omega)]
       ·rw[if_neg c2,if_neg (by omega)]
    repeat'(first|refine gB ?_|(refine gH ?_;intro g)|(refine gW ?_;intro v)|refine d117 ?_|fail)
    exact LoopEndP.mk (i+1,upd mt i mi) (by show i+1≤m;omega) (by show m - (i+1) < m - i;omega) [] (by rw[List.append_nil];exact(perm6 (rows_two_upd hrow ci cr)).symm)
  ·obtain rfl:m=i:=by omega
   repeat'(first|refine gB ?_|(refine gH ?_;intro g)|(refine gW ?_;intro v)|refine d117 ?_|fail)
   refine WD.fact (mF (n+1) (mt row) (pvx s row col m row)) (W.Has.tm hmA hrow) ?_
   refine WD.callG [Ow.slice cv 31 4 (qcells (n+1) mc),rowO (n+1) (rv row) (mt row)] (Ow.cells xg 88 [.int .i64 (vars:Int),.int .i64 (m:Int),.int .i64 (n:Int),tv,cv,bv]::Ow.slice tv 24 1 (fnV m rv)::Ow.slice bv 3 1 (ints (fnL m s.b))::rowsX m (n+1) rv mt row) (perm5 (rows_one hrow)) (wipe_c cv (rv row) (n+1) col (2*K) mc (mt row) s.c (pvx s row col m row) (by omega) (by omega) (by omega) (fun k hk=>(hc k hk).up (by omega)) hrq) ?_
   rintro _ _ _ ⟨mc2,rfl,rfl,rfl⟩
   simp only[List.nil_append,List.cons_append]
   refine WD.perm (Ow.cells xg 88 [.int .i64 (vars:Int),.int .i64 (m:Int),.int .i64 (n:Int),tv,cv,bv]::Ow.slice tv 24 1 (fnV m rv)::Ow.slice cv 31 4 (qcells (n+1) mc2)::Ow.slice bv 3 1 (ints (fnL m s.b))::rowsO m (n+1) rv mt) (perm5 (rows_one hrow)).symm ?_
   have hfl:=fnL_len m s.b
   repeat'(first|refine gB ?_|(refine gH ?_;intro g)|(refine gW ?_;intro v)|refine d117 ?_|fail)
   rw[fnL_set]
   exact Fin.p (TB xg vars m n tv cv bv rv mt mc2 (X.pv s row col).b) [mT m (n+1) mt (X.pv s row col).t,mF (n+1) mc2 (X.pv s row col).c] (ResE.t0 rfl) meA (List.Sublist.refl _) (.cons (W.Has.tsame (tq:=pvx s row col m) hmA fun j hj k _=>by
    unfold pvx X.pv
    simp only
    by_cases c1:j=row
    ·rw[if_pos c1,if_pos c1]
    ·rw[if_neg c1,if_neg c1,if_pos hj]) (.cons (W.Has.mFsame (qf:=fun k=>s.c k - s.c col*pvx s row col m row k) hmA fun k _=>by unfold pvx X.pv;simp) .nil)) ⟨mt,mc2,rfl,rfl,rfl⟩
end Z
end Go.Proofs.YtaongbhamadlkaaGreat
namespace Go.Proofs.YtaongbhamadlkaaGreat
open W Go.RowKit
abbrev TM (xg vars m n:Nat) (tv cv bv:Value) (rv:Nat→Value) (ms:Nat→Nat→QM) (b:Nat→Nat):List Ow:=
 Ow.cells xg 88 [.int .i64 (vars:Int),.int .i64 (m:Int),.int .i64 (n:Int),tv,cv,bv]::Ow.slice tv 24 1 (fnV m rv)::Ow.slice bv 3 1 (ints (fnL m b))::rowsO m (n+1) rv ms
def cs0 (n:Nat) (c1:Nat→Rat) (j:Nat):Rat:=if j < n then c1 j else 0
def prS (n:Nat) (c1:Nat→Rat) (s:X.St):Nat→Nat→Rat
 |0=>cs0 n c1
 |i+1=>fun j=>prS n c1 s i j - prS n c1 s i (s.b i)*s.t i j
def csx (n:Nat) (c1:Nat→Rat) (k j:Nat):Rat:=if j < k∧j < n then c1 j else 0
theorem csx_up {n:Nat} {c1:Nat→Rat} {k:Nat} (hk:k < n) (i:Nat):upd (csx n c1 k) k (c1 k) i=csx n c1 (k+1) i:=by
 unfold csx upd
 by_cases c:i=k
 ·subst c;simp[hk]
 ·by_cases c2:i < k
  ·simp[c,c2,show i < k+1 by omega]
  ·simp[c,c2,show ¬i < k+1 by omega]
def IsPr (xg vars m n:Nat) (tv bv:Value) (rv:Nat→Value) (ms:Nat→Nat→QM) (b:Nat→Nat) (z:Nat→Rat):RPost:=fun v B G=>∃ cv mc,v=.tuple #[]∧B=TB xg vars m n tv cv bv rv ms mc b∧G=[mF (n+1) mc z]
namespace Z
attribute [local irreducible] WC WL WD YO LO LoopEnd W.Fin Scalar SliceT FieldAt Row ArrT AllocT KnS Has W.One SrcE IntT
theorem d45 {G G':Prop} (h:G') (s:Bx G'→G:=by
 intro h
 first|(apply WC.draw (id:=4) [0,1,2,3,4,5,6,8] (.held 0 (.held 1 (.held 2 (.held 3 (.held 4 (.held 5 (.held 6 (.loud 7 (.held 8 (.loud 9 (.done))))))))))) mixed (by kernel_rfl))|(apply WC.draw (id:=9) [0,1,2,3,4,5,6,7,8,9,10,11] (.held 0 (.held 1 (.held 2 (.held 3 (.held 4 (.held 5 (.held 6 (.held 7 (.held 8 (.held 9 (.held 10 (.held 11 (.loud 12 (.done)))))))))))))) mixed (by kernel_rfl))|fail
 exact Bx.h h):G:=s ⟨h⟩
set_option maxHeartbeats 8000000 in
set_option maxRecDepth 60000 in
theorem price_c (xg vars m n:Nat) (tv cv0 bv:Value) (rv:Nat→Value) (ms:Nat→Nat→QM) (s:X.St) (K:Nat) (f:FuncId) (first cap:List Value) (Fc:List Fct) (c1:Nat→Rat)
  (hf:∀ k:Nat,k < n→FnB Tryz.prog f (first++[.int .i64 (k:Int)]++cap) [] Fc (IsR (c1 k)))
  (hm:m≤1000) (hn:n≤10000) (hK:K≤100000000) (hb:∀ i,i < m→s.b i < n) (hs:∀ i,i < m→∀ k,k < n+1→Sq K (s.t i k)) (hc:∀ i,i≤m→∀ k,k < n+1→Sq K (prS n c1 s i k)) :
  FnB Tryz.prog 45 [ptr xg,.func (.func f) first.toArray cap.toArray] (TM xg vars m n tv cv0 bv rv ms s.b) (mT m (n+1) ms s.t::Fc) (IsPr xg vars m n tv bv rv ms s.b (prS n c1 s m)):=by
 refine fn_of [(0,(ptr xg)),(1,(.func (.func f) first.toArray cap.toArray))] 57 Tryz.func45 rfl Tryz.ntmps45 (by kernel_rfl) rfl suA fun h0=>?_
 repeat'(first|refine gB ?_|(refine gH ?_;intro g)|(refine gW ?_;intro v)|refine d45 ?_|fail)
 revert v;intro cv
 have hb0:(∀ r,(0:Nat)=r→True):=fun _ _=>trivial
 refine WC.lp (σ:=Nat×(Nat→QM)) (fun st=>[(20,.int .i64 (st.1:Int)),(19,.int .i64 (n:Int)),(0,ptr xg),(1,.func (.func f) first.toArray cap.toArray)])
  (fun st=>Ow.slice cv 31 4 (qcells (n+1) st.2)::Ow.cells xg 88 [.int .i64 (vars:Int),.int .i64 (m:Int),.int .i64 (n:Int),tv,cv,bv]::Ow.slice tv 24 1 (fnV m rv)::Ow.slice bv 3 1 (ints (fnL m s.b))::rowsO m (n+1) rv ms)
  (fun st=>mF (n+1) st.2 (csx n c1 st.1)::ge h0::mT m (n+1) ms s.t::Fc) (fun st=>st.1≤n) (fun st=>n - st.1) (0,fun _=>m00) (Nat.zero_le _) ?_ (hG:=.cons ((W.Has.mF0 (n+1)).mFsame fun i _=>by simp[csx]) (.cons hmA (.cons hmA (HasAll.tail fun _ h=>by(repeat(first|exact h|apply List.mem_cons_of_mem))))))
 rintro⟨k,mx⟩ hk
 simp only at hk ⊢
 by_cases c:k < n
 ·repeat'(first|refine gB ?_|(refine gH ?_;intro g)|(refine gW ?_;intro v)|refine d45 ?_|fail)
  refine WD.callC first cap (vs:=[.int .i64 (k:Int)]) (hf k c) ?_ (hF:=(HasAll.tail fun _ h=>by(repeat(first|exact h|apply List.mem_cons_of_mem))))
  rintro _ _ _ ⟨mk,rfl,rfl,rfl⟩
  simp only[List.nil_append,List.cons_append]
  refine WD.fact (mF (n+1) (upd mx k mk) (csx n c1 (k+1))) ((W.Has.mFset (k:=k) (ms:=mx) (m:=mk) (qf:=csx n c1 k) hmA hmA).mFsame fun i _=>csx_up c i) ?_
  repeat'(first|refine gB ?_|(refine gH ?_;intro g)|(refine gW ?_;intro v)|refine d45 ?_|fail)
  exact LoopEnd.mk (k+1,_) (by show k+1≤n;omega) (by show n - (k+1) < n - k;omega) (hG:=.cons hmA (.cons hmA (.cons hmA (HasAll.tail fun _ h=>by(repeat(first|exact h|apply List.mem_cons_of_mem))))))
 ·obtain rfl:n=k:=by omega
  repeat'(first|refine gB ?_|(refine gH ?_;intro g)|(refine gW ?_;intro v)|refine d45 ?_|fail)
  refine WC.perm (Ow.cells xg 88 [.int .i64 (vars:Int),.int .i64 (m:Int),.int .i64 (n:Int),tv,cv,bv]::Ow.slice tv 24 1 (fnV m rv)::Ow.slice cv 31 4 (qcells (n+1) mx)::Ow.slice bv 3 1 (ints (fnL m s.b))::rowsO m (n+1) rv ms) (perm3 _ _ _ _) ?_
  refine WC.lpP (σ:=Nat×(Nat→QM)) (fun st=>[(38,.int .i64 (st.1:Int)),(37,.int .i64 (m:Int)),(36,bv),(0,ptr xg)])
   (fun st=>Ow.cells xg 88 [.int .i64 (vars:Int),.int .i64 (m:Int),.int .i64 (n:Int),tv,cv,bv]::Ow.slice tv 24 1 (fnV m rv)::Ow.slice cv 31 4 (qcells (n+1) st.2)::Ow.slice bv 3 1 (ints (fnL m s.b))::rowsO m (n+1) rv ms)
   (fun st=>[mF (n+1) st.2 (prS n c1 s st.1),ge h0,mT m (n+1) ms s.t]) (fun st=>st.1≤m) (fun st=>m - st.1) (0,mx) (Nat.zero_le _) ?_ (hG:=.cons (W.Has.mFsame (qf:=csx n c1 n) hmA fun i _=>by unfold csx prS cs0;by_cases h:i < n <;> simp[h]) (.cons hmA (.cons hmA .nil)))
  clear c hk
  rintro⟨i,my⟩ hi
  simp only at hi ⊢
  by_cases ci:i < m
  ·have hbi:=hb i ci
   repeat'(first|refine gB ?_|(refine gH ?_;intro g)|(refine gW ?_;intro v)|refine d45 ?_|fail)
   refine WD.fact (mF (n+1) (ms i) (s.t i)) (W.Has.tm hmA ci) ?_
   refine WD.callG [Ow.slice cv 31 4 (qcells (n+1) my),rowO (n+1) (rv i) (ms i)] (Ow.cells xg 88 [.int .i64 (vars:Int),.int .i64 (m:Int),.int .i64 (n:Int),tv,cv,bv]::Ow.slice tv 24 1 (fnV m rv)::Ow.slice bv 3 1 (ints (fnL m s.b))::rowsX m (n+1) rv ms i) (perm5 (rows_one ci)) (wipe_c cv (rv i) (n+1) (s.b i) K my (ms i) (prS n c1 s i) (s.t i) (by omega) (by omega) hK (hc i hi) (hs i ci)) ?_
   rintro _ _ _ ⟨mz,rfl,rfl,rfl⟩
   simp only[List.nil_append,List.cons_append]
   repeat'(first|refine gB ?_|(refine gH ?_;intro g)|(refine gW ?_;intro v)|refine d45 ?_|fail)
   exact LoopEndP.mk (i+1,mz) (by show i+1≤m;omega) (by show m - (i+1) < m - i;omega) [] (by rw[List.append_nil];exact(perm5 (rows_one ci)).symm)
  ·obtain rfl:m=i:=by omega
   repeat'(first|refine gB ?_|(refine gH ?_;intro g)|(refine gW ?_;intro v)|refine d45 ?_|fail)
   exact Fin.p (TB xg vars m n tv cv bv rv ms my s.b) [mF (n+1) my (prS n c1 s m)] (ResE.t0 rfl) meA (List.Sublist.refl _) haA ⟨cv,my,rfl,rfl,rfl⟩
end Z
end Go.Proofs.YtaongbhamadlkaaGreat
namespace Go.Proofs.YtaongbhamadlkaaGreat
open W Go.RowKit
structure Pm where
 lv:Value
 gv:Value
 av:Nat→Value
 ma:Nat→Nat→QM
 mb:Nat→QM
 mg:Nat→QM
def pcell (av:Nat→Value) (mb:Nat→QM) (j:Nat):Value:=(av (j / 5)::qcs (mb (j / 5))).getD (j % 5) undef
theorem pcell_at (av:Nat→Value) (mb:Nat→QM) (k:Nat) {r:Nat} (hr:r < 5):pcell av mb (k*5+r)=(av k::qcs (mb k)).getD r undef:=by
 unfold pcell;rw[show(k*5+r) / 5=k by omega,show(k*5+r) % 5=r by omega]
def fPg (M:Pm) (m gn:Nat) (ln:Nat→Nat) (a:Nat→Nat→Rat) (b g:Nat→Rat):Fct where
 p h:=(slC M.lv m 5 (pcell M.av M.mb)).p h∧(∀ i,i < m→(fF (M.av i) (ln i) (M.ma i) (a i)).p h)∧(mF m M.mb b).p h∧(fF M.gv gn M.mg g).p h
 mono _ _ hl hp:=⟨(slC _ _ _ _).mono _ _ hl hp.1,fun i hi=>(fF _ _ _ _).mono _ _ hl (hp.2.1 i hi),(mF _ _ _).mono _ _ hl hp.2.2.1,(fF _ _ _ _).mono _ _ hl hp.2.2.2⟩
abbrev fP (M:Pm) (p:X.Lp):Fct:=fPg M p.m p.v (fun _=>p.v) p.a p.b p.g
abbrev pcs (M:Pm) (v:Int):List Value:=[.int .i64 v,M.lv,M.gv]
abbrev pgv (M:Pm) (v:Int):Value:=.agg #[.int .i64 v,M.lv,M.gv]
section
variable {P:Program} {e:Env} {bx:List Ow} {F:List Fct} {ty t:TypeId} {x:Operand} {M:Pm} {m gn i:Nat} {ln:Nat→Nat} {a:Nat→Nat→Rat} {b g:Nat→Rat}
theorem W.Has.pl (h:Has F (fPg M m gn ln a b g)):Has F (slC M.lv m 5 (pcell M.av M.mb)):=fun p hf=>(h p hf).1
theorem W.Has.pa (h:Has F (fPg M m gn ln a b g)) (hi:i < m):Has F (fF (M.av i) (ln i) (M.ma i) (a i)):=fun p hf=>(h p hf).2.1 i hi
theorem W.Has.pb (h:Has F (fPg M m gn ln a b g)):Has F (mF m M.mb b):=fun p hf=>(h p hf).2.2.1
theorem W.Has.pbq (h:Has F (fPg M m gn ln a b g)) (hi:i < m):Has F (isQ (qv (M.mb i)) (b i)):=W.Has.q h.pb hi
theorem W.Has.pg (h:Has F (fPg M m gn ln a b g)):Has F (fF M.gv gn M.mg g):=fun p hf=>(h p hf).2.2.2
theorem KnS.pl (h:Has F (fPg M m gn ln a b g)):KnS bx F M.lv m:=KnS.f h.pl
theorem KnS.pg (h:Has F (fPg M m gn ln a b g)):KnS bx F M.gv gn:=KnS.ff h.pg
theorem KnS.pa (h:Has F (fPg M m gn ln a b g)) (hi:i < m):KnS bx F (M.av i) (ln i):=KnS.ff (h.pa hi)
theorem YO.ldPl (hs:Row P t 5) (hx:ev e x=some (.pointer (some (eaddr M.lv (i*5))))) (h:Has F (fPg M m gn ln a b g)) (hi:i < m):YO P (.load t x) ty e bx F (.agg #[M.av i,.bool (M.mb i).1,(M.mb i).2.1,.bool false,(M.mb i).2.2]):=
 YO.ldRS (us:=M.av i::qcs (M.mb i)) hs hx h.pl (by omega) rfl fun k hk=>by
  rw[pcell_at _ _ _ hk]
  match k,hk with|0,_=>rfl|1,_=>rfl|2,_=>rfl|3,_=>rfl|4,_=>rfl
theorem YO.buildTb {x y z:Operand} {i j k:Int} (h1:ev e x=some (.int .i64 i)) (h2:ev e y=some (.int .i64 j)) (h3:ev e z=some (.int .i64 k)):YO Tryz.prog (.build 88 #[(0,x),(1,y),(2,z)]) ty e bx F (.agg #[.int .i64 i,.int .i64 j,.int .i64 k,.slice none 0 0,.slice none 0 0,.slice none 0 0]):=YO.build (parts:=[(0,x),(1,y),(2,z)]) (.cons h1 (.cons h2 (.cons h3 .nil))) fun w=>run_build w 88 _ _ (by kernel_rfl)
theorem LO.bsV1 {w:Value} {n:Nat} {K:RPost} (hx:ev e x=some w) (kd:KnS bx F w n) (h:∀ v,K v (Ow.slice v 24 1 [w]::bx) F):LO Tryz.prog (.buildSlice 86 1 #[(0,x)]) ty e bx F K:=by
 refine LO.byP (p:=∃ a c,w=.slice a n c) (fun fr w ho=>by obtain⟨a,c,h1,_⟩:=(kd fr w ho).is;exact⟨a,c,h1⟩) ?_
 rintro⟨a,c,rfl⟩
 exact LO.buildSlice (parts:=[(0,x)]) (us:=[.slice a n c]) (cs:=[.slice a n c]) (.cons hx .nil) (fun _=>by kernel_rfl) rfl (by decide) h
theorem fnV_app {n:Nat} {f:Nat→Value} {w:Value}:fnV n f++[w]=fnV (n+1) (upd f n w):=by
 unfold fnV
 rw[List.range_succ,List.map_append]
 congr 1
 ·exact List.map_congr_left fun j hj=>(upd_ne (by have:=List.mem_range.1 hj;omega)).symm
 ·simp[upd_at]
theorem fnL_app {n:Nat} {f:Nat→Nat} {c:Nat}:ints (fnL n f)++[.int .i64 (c:Int)]=ints (fnL (n+1) (upd f n c)):=by
 unfold fnL ints
 rw[List.range_succ,List.map_append,List.map_append]
 congr 1
 ·rw[List.map_map,List.map_map]
  exact List.map_congr_left fun j hj=>by
   show Value.int .i64 ((f j:Nat):Int)=Value.int .i64 ((upd f n c j:Nat):Int)
   rw[upd_ne (by have:=List.mem_range.1 hj;omega)]
 ·simp[upd_at]
theorem LO.appVV {el':TypeId} {bx2:Value→List Ow} {y:Operand} {u v w:Value} {n:Nat} {f:Nat→Value} {K:RPost} (hx:ev e x=some v) (hy:ev e y=some u) (hu:Ow.slice u el' 1 [w]∈bx) (hm:One bx F w) (hs:∀ v',Sel bx (.slice v 24 1 (fnV n f)) (.slice v' 24 1 (fnV (n+1) (upd f n w))) (bx2 v')) (hl:n≤1000000) (h:∀ v',K v' (bx2 v') F) :
  LO Tryz.prog (.call {callee:=.builtin .append,args:=#[x,y],argTypes:=#[86,86]}) ty e bx F K:=by
 refine LO.byP (fun fr w ho=>(hm fr w ho).2) fun h1=>?_
 exact LO.append T.e86 hx hy (news:=[w]) (by rw[fnV_app];exact hs) (SrcE.one hu rfl (by decide)) (by simpa using h1) (by rw[fnV_len];show(n+1)*24≤_;omega) (by rw[fnV_len];show n+1≤_;omega) h
theorem LO.appNN {el':TypeId} {bx2:Value→List Ow} {y:Operand} {u v:Value} {n c:Nat} {f:Nat→Nat} {K:RPost} (hx:ev e x=some v) (hy:ev e y=some u) (hu:Ow.slice u el' 1 [.int .i64 (c:Int)]∈bx) (hs:∀ v',Sel bx (.slice v 3 1 (ints (fnL n f))) (.slice v' 3 1 (ints (fnL (n+1) (upd f n c)))) (bx2 v')) (hl:n≤1000000) (h:∀ v',K v' (bx2 v') F) :
  LO Tryz.prog (.call {callee:=.builtin .append,args:=#[x,y],argTypes:=#[22,22]}) ty e bx F K:=by
 have hll:(ints (fnL n f)).length=n:=by simp[fnL]
 exact LO.append T.e22 hx hy (news:=[.int .i64 (c:Int)]) (by rw[fnL_app];exact hs) (SrcE.one hu rfl (by decide)) (by simp[Value.oneCell']) (by rw[hll];show(n+1)*8≤_;omega) (by rw[hll];show n+1≤_;omega) h
end
theorem ex_cons {bx bx' B:List Ow} {b:Ow} (h1:bx.Perm (b::bx')) (h2:∃ r,bx'.Perm (B++r)):∃ r,bx.Perm ((b::B)++r):=by
 obtain⟨r,h2⟩:=h2
 exact⟨r,h1.trans (h2.cons b)⟩
theorem ex_tail (l:List Ow) {R:List Ow}:∃ r,(l++R).Perm (R++r):=⟨l,List.perm_append_comm⟩
theorem rows_app {m w:Nat} {rv:Nat→Value} {ms:Nat→Nat→QM} {l:Value} {mx:Nat→QM}:(rowsO (m+1) w (upd rv m l) (upd ms m mx)).Perm (rowO w l mx::rowsO m w rv ms):=by
 unfold rowsO rowsL
 rw[List.range_succ,List.map_append]
 refine List.perm_append_comm.trans ?_
 show(rowO w (upd rv m l m) (upd ms m mx m)::_).Perm _
 rw[upd_at,upd_at]
 refine List.Perm.cons _ (List.Perm.of_eq ?_)
 refine List.map_congr_left fun j hj=>?_
 have:=List.mem_range.1 hj
 rw[upd_ne (by omega),upd_ne (by omega)]
theorem ex_row {m w:Nat} {rv:Nat→Value} {ms:Nat→Nat→QM} {l:Value} {mx:Nat→QM} {bx bx':List Ow} (h1:bx.Perm (rowO w l mx::bx')) (h2:∃ r,bx'.Perm (rowsO m w rv ms++r)):∃ r,bx.Perm (rowsO (m+1) w (upd rv m l) (upd ms m mx)++r):=by
 obtain⟨r,h2⟩:=h2
 exact⟨r,(h1.trans (h2.cons _)).trans (rows_app.symm.append_right r)⟩
def IsPut (g8 g7:Nat) (neg:Bool) (l:Value) (w k:Nat) (ms:Nat→QM) (q:Rat):RPost:=fun v B G=>∃ m',v=.tuple #[]∧B=[Ow.cells g8 4 [.bool neg],Ow.cells g7 24 [l],rowO w l (upd ms k m')]∧G=[isQ (qv m') (if neg=true then -q else q)]
namespace Z
attribute [local irreducible] WC WL WD YO LO LoopEnd W.Fin Scalar SliceT FieldAt Row ArrT AllocT KnS Has W.One SrcE IntT
set_option maxHeartbeats 4000000 in
set_option maxRecDepth 60000 in
theorem put_c (g8 g7:Nat) (neg:Bool) (l:Value) (w k:Nat) (ms:Nat→QM) (mv:QM) (q:Rat) (hk:k < w):FnB Tryz.prog 113 [.int .i64 (k:Int),qv mv,ptr g8,ptr g7] [Ow.cells g8 4 [.bool neg],Ow.cells g7 24 [l],rowO w l ms] [isQ (qv mv) q] (IsPut g8 g7 neg l w k ms q):=by
 refine fn_of [(0,(.int .i64 (k:Int))),(1,(qv mv)),(2,(ptr g8)),(3,(ptr g7))] 13 Tryz.func113 rfl Tryz.ntmps113 (by kernel_rfl) rfl suA fun h0=>?_
 repeat'(first|refine gA ?_|(refine goG ?_;intro g)|(refine goV ?_;intro v))
 cases neg with
 |true=>
  repeat'(first|refine gA ?_|(refine goG ?_;intro g)|(refine goV ?_;intro v))
  first|refine WL.callK (Zn.neg (m1:=mv) (a:=q)) ?_|refine WD.callK (Zn.neg (m1:=mv) (a:=q)) ?_|refine LO.callM (Zn.neg (m1:=mv) (a:=q)) ?_
  rintro _ _ _ ⟨m2,rfl,rfl,rfl⟩
  simp only[List.nil_append,List.cons_append]
  repeat'(first|refine gA ?_|(refine goG ?_;intro g)|(refine goV ?_;intro v))
  exact Fin.p [_,_,_] [isQ (qv m2) (-q)] (ResE.t0 rfl) meA slA haA ⟨m2,rfl,rfl,rfl⟩
 |false=>
  repeat'(first|refine gA ?_|(refine goG ?_;intro g)|(refine goV ?_;intro v))
  exact Fin.p [_,_,_] [isQ (qv mv) q] (ResE.t0 rfl) meA slA haA ⟨mv,rfl,rfl,rfl⟩
end Z
end Go.Proofs.YtaongbhamadlkaaGreat
namespace Go.Proofs.YtaongbhamadlkaaGreat
open W Go.RowKit
abbrev TF (xg vars m n:Nat) (tv cv bv:Value) (rv:Nat→Value) (ms:Nat→Nat→QM) (s:X.St):List Fct:=
 [ce xg 88 [.int .i64 (vars:Int),.int .i64 (m:Int),.int .i64 (n:Int),tv,cv,bv],sV tv m rv,rF m (n+1) rv ms s.t,sN bv m s.b]
def optI:Option Nat→Int
 |none=>-1
 |some r=>r
theorem lev_lt {n:Nat} {s:X.St} {k:Nat}:∀ {i r:Nat},X.lev n s k i=some r→r < i
 |0,_,h=>by simp[X.lev] at h
 |i+1,r,h=>by
  rw[X.lev] at h
  split at h
  ·have:=lev_lt h;omega
  ·split at h
   ·cases h;omega
   ·rename_i q hq
    have:=lev_lt hq
    split at h <;> (cases h;omega)
def lst (n:Nat) (s:X.St) (k i:Nat):Rat:=match X.lev n s k i with
 |none=>0
 |some r=>s.t r n / s.t r k
theorem le_iff {q:Rat}:sgn q.num≤0↔q≤0:=by
 have:=@sgn_pos q
 rw[←Rat.not_lt,←this];omega
namespace Z
attribute [local irreducible] WC WL WD YO LO LoopEnd W.Fin Scalar SliceT FieldAt Row ArrT AllocT KnS Has W.One SrcE IntT
theorem d116 {G G':Prop} (h:G') (s:Bx G'→G:=by
 intro h
 first|(apply WC.draw (id:=7) [0,1,2,3,4,5,6,7,8,9,10] (.held 0 (.held 1 (.held 2 (.held 3 (.held 4 (.held 5 (.held 6 (.held 7 (.held 8 (.held 9 (.held 10 (.more 11 (.loud 12 (.loud 13 (.done))) (.loud 12 (.loud 11 (.loud 13 (.done)))))))))))))))) mixed (by kernel_rfl))|(apply WC.draw (id:=11) [0,1,2,3,4,5,6,7,8,9,10,11,12,13,14,15,16,17,18,19,20,21,22] (.held 0 (.held 1 (.held 2 (.held 3 (.held 4 (.held 5 (.held 6 (.held 7 (.held 8 (.held 9 (.held 10 (.held 11 (.held 12 (.held 13 (.held 14 (.held 15 (.held 16 (.held 17 (.held 18 (.held 19 (.held 20 (.held 21 (.held 22 (.done)))))))))))))))))))))))) mixed (by kernel_rfl))|(apply WC.draw (id:=12) [0,1,2] (.held 0 (.held 1 (.held 2 (.loud 3 (.done))))) mixed (by kernel_rfl))|fail
 exact Bx.h h):G:=s ⟨h⟩
set_option maxHeartbeats 8000000 in
set_option maxRecDepth 60000 in
theorem leaving_c (xg vars m n:Nat) (tv cv bv:Value) (rv:Nat→Value) (ms:Nat→Nat→QM) (s:X.St) (col K:Nat) (hcol:col < n) (hm:m≤1000) (hn:n≤10000) (hK:K≤20000000) (hK0:0 < K) (hs:∀ i,i < m→∀ k,k < n+1→Sq K (s.t i k)) :
  FnB Tryz.prog 116 [ptr xg,.int .i64 (col:Int)] [] (TF xg vars m n tv cv bv rv ms s) (IsV (.int .i64 (optI (X.lev n s col m)))):=by
 refine fn_of [(0,(ptr xg)),(1,(.int .i64 (col:Int)))] 71 Tryz.func116 rfl Tryz.ntmps116 (by kernel_rfl) rfl suA fun h0=>?_
 have hsm:∀ {q},Sq K q→Sm q:=fun h=>h.sm (by omega)
 repeat'(first|refine gM ?_|(refine gI ?_;intro g)|(refine gU ?_;intro v)|refine gN ?_ ?_|refine d116 ?_|fail)
 revert g;intro g6
 refine WC.lp (σ:=Nat×Int×QM×Rat) (fun st=>[(5,.int .i64 st.2.1),(16,.int .i64 (st.1:Int)),(15,.int .i64 (m:Int)),(14,tv),(0,ptr xg),(1,.int .i64 (col:Int)),(6,ptr g6)]) (fun st=>[Ow.cells g6 31 (qcs st.2.2.1)])
  (fun st=>isQ (qv st.2.2.1) st.2.2.2::ge h0::TF xg vars m n tv cv bv rv ms s) (fun st=>st.1≤m∧st.2.1=optI (X.lev n s col st.1)∧st.2.2.2=lst n s col st.1) (fun st=>m - st.1) (0,-1,m00,0) ⟨Nat.zero_le _,rfl,rfl⟩ ?_ (hG:=.cons hasQ0 sfA)
 rintro⟨i,bi,ml,ql⟩ ⟨hi,hbi,hql⟩
 simp only at hi hbi hql ⊢
 by_cases c:i < m
 ·refine WC.fact (isQ (qv (ms i col)) (s.t i col)) (W.Has.qt (W.Has.rt (rv:=rv) hmA) c (by omega)) ?_
  refine WC.fact (isQ (qv (ms i n)) (s.t i n)) (W.Has.qt (W.Has.rt (rv:=rv) hmA) c (by omega)) ?_
  repeat'(first|refine gM ?_|(refine gI ?_;intro g)|(refine gU ?_;intro v)|refine gN ?_ ?_|refine d116 ?_|fail)
  first|refine WL.callV (Zn.sign (ms i col) (s.t i col)) ?_|refine WD.callV (Zn.sign (ms i col) (s.t i col)) ?_
  by_cases c1:s.t i col≤0
  ·have hz:=le_iff.2 c1
   have e1:X.lev n s col (i+1)=X.lev n s col i:=by rw[X.lev,if_pos c1]
   have e2:lst n s col (i+1)=lst n s col i:=by unfold lst;rw[e1]
   repeat'(first|refine gM ?_|(refine gI ?_;intro g)|(refine gU ?_;intro v)|refine gN ?_ ?_|refine d116 ?_|fail)
   exact LoopEnd.mk (i+1,bi,ml,ql) ⟨by show i+1≤m;omega,by rw[e1];exact hbi,by rw[e2];exact hql⟩ (by show m - (i+1) < m - i;omega)
  ·have hz:¬sgn (s.t i col).num≤0:=fun h=>c1 (le_iff.1 h)
   have hdv:Sq (2*K) (s.t i n / s.t i col):=(Sq.div hK0 (hs i c n (by omega)) (hs i c col (by omega))).up (by omega)
   repeat'(first|refine gA ?_|(refine goG ?_;intro g)|(refine goV ?_;intro v))
   refine WC.cutP (σ:=Nat×QM) (fun st=>[(9,ptr st.1),(7,.int .i64 (i:Int)),(5,.int .i64 bi),(16,.int .i64 (i:Int)),(15,.int .i64 (m:Int)),(14,tv),(0,ptr xg),(1,.int .i64 (col:Int)),(6,ptr g6)]) (fun st=>[Ow.cells st.1 31 (qcs st.2),Ow.cells g6 31 (qcs ml)])
    (fun st=>isQ (qv st.2) (s.t i n / s.t i col)::isQ (qv ml) ql::ge h0::TF xg vars m n tv cv bv rv ms s) (fun _=>True) ?_ ?_
   ·repeat'(first|refine gM ?_|(refine gI ?_;intro g)|(refine gU ?_;intro v)|refine gN ?_ ?_|refine d116 ?_|fail|((first|refine WL.callK (hv:=?hvQ) (Zn.div (ms i n) (ms i col) (s.t i n) (s.t i col) (hsm (hs i c n (by omega))) (hsm (hs i c col (by omega)))) ?_|refine WD.callK (hv:=?hvQ) (Zn.div (ms i n) (ms i col) (s.t i n) (s.t i col) (hsm (hs i c n (by omega))) (hsm (hs i c col (by omega)))) ?_|refine LO.callM (hv:=?hvQ) (Zn.div (ms i n) (ms i col) (s.t i n) (s.t i col) (hsm (hs i c n (by omega))) (hsm (hs i c col (by omega)))) ?_);(case hvQ=>((repeat(first|exact Evs.nil|(apply Evs.cons;exact rfl)));done));rintro _ _ _ ⟨zm,rfl,rfl,rfl⟩;simp only[List.nil_append,List.cons_append])|fail)
    all_goals(apply Ex2;refine⟨trivial,?_,?_,?_⟩;(focus(repeat(first|exact Sub.nil _|refine Sub.cons rfl ?_)));(focus(repeat(first|exact SubP.nil _|(apply SubP.cons;(repeat(first|exact Rem.head|apply Rem.tail))))));(focus(repeat(first|exact HasAll.nil|(apply HasAll.cons;exact hsA)))))
   rintro⟨g9,mq⟩ _
   simp only
   cases hL:X.lev n s col i with
   |none=>
    rw[hL] at hbi
    have hb1:bi= -1:=hbi
    have e1:X.lev n s col (i+1)=some i:=by rw[X.lev,if_neg c1,hL]
    repeat'(first|refine gM ?_|(refine gI ?_;intro g)|(refine gU ?_;intro v)|refine gN ?_ ?_|refine d116 ?_|fail)
    exact LoopEnd.mk (i+1,(i:Int),mq,_) ⟨by show i+1≤m;omega,by show(i:Int)=optI (X.lev n s col (i+1));rw[e1];rfl,by unfold lst;rw[e1]⟩ (by show m - (i+1) < m - i;omega)
   |some r=>
    rw[hL] at hbi
    obtain rfl:bi=(r:Int):=hbi
    have hri:=lev_lt hL
    have hq:ql=s.t r n / s.t r col:=by rw[hql];unfold lst;rw[hL]
    have hlq:Sq (2*K) ql:=by rw[hq];exact(Sq.div hK0 (hs r (by omega) n (by omega)) (hs r (by omega) col (by omega))).up (by omega)
    repeat'(first|refine gM ?_|(refine gI ?_;intro g)|(refine gU ?_;intro v)|refine gN ?_ ?_|refine d116 ?_|fail)
    first|refine WL.callV (Zn.cmp mq ml (s.t i n / s.t i col) ql (hdv.sm (by omega)) (hlq.sm (by omega))) ?_|refine WD.callV (Zn.cmp mq ml (s.t i n / s.t i col) ql (hdv.sm (by omega)) (hlq.sm (by omega))) ?_
    have hlt:=@cmpQ_lt (s.t i n / s.t i col) ql
    have heq:=@cmpQ_eq (s.t i n / s.t i col) ql
    generalize cmpQ (s.t i n / s.t i col) ql=cq at *
    by_cases k1:cq < 0
    ·have e1:X.lev n s col (i+1)=some i:=by rw[X.lev,if_neg c1,hL];exact if_pos (.inl (by rw[←hq];exact hlt.1 k1))
     repeat'(first|refine gM ?_|(refine gI ?_;intro g)|(refine gU ?_;intro v)|refine gN ?_ ?_|refine d116 ?_|fail)
     exact LoopEnd.mk (i+1,(i:Int),mq,_) ⟨by show i+1≤m;omega,by show(i:Int)=optI (X.lev n s col (i+1));rw[e1];rfl,by unfold lst;rw[e1]⟩ (by show m - (i+1) < m - i;omega)
    ·by_cases k2:cq=0
     ·by_cases k3:s.b i < s.b r
      ·have e1:X.lev n s col (i+1)=some i:=by rw[X.lev,if_neg c1,hL];exact if_pos (.inr ⟨by rw[←hq];exact heq.1 k2,k3⟩)
       repeat'(first|refine gM ?_|(refine gI ?_;intro g)|(refine gU ?_;intro v)|refine gN ?_ ?_|refine d116 ?_|fail)
       exact LoopEnd.mk (i+1,(i:Int),mq,_) ⟨by show i+1≤m;omega,by show(i:Int)=optI (X.lev n s col (i+1));rw[e1];rfl,by unfold lst;rw[e1]⟩ (by show m - (i+1) < m - i;omega)
      ·have e1:X.lev n s col (i+1)=some r:=by rw[X.lev,if_neg c1,hL];exact if_neg (by rw[←hq];rintro(h|h);exact k1 (hlt.2 h);exact k3 h.2)
       repeat'(first|refine gM ?_|(refine gI ?_;intro g)|(refine gU ?_;intro v)|refine gN ?_ ?_|refine d116 ?_|fail)
       exact LoopEnd.mk (i+1,(r:Int),ml,ql) ⟨by show i+1≤m;omega,by show(r:Int)=optI (X.lev n s col (i+1));rw[e1];rfl,by unfold lst;rw[e1];exact hq⟩ (by show m - (i+1) < m - i;omega)
     ·have e1:X.lev n s col (i+1)=some r:=by rw[X.lev,if_neg c1,hL];exact if_neg (by rw[←hq];rintro(h|h);exact k1 (hlt.2 h);exact k2 (heq.2 h.1))
      repeat'(first|refine gM ?_|(refine gI ?_;intro g)|(refine gU ?_;intro v)|refine gN ?_ ?_|refine d116 ?_|fail)
      exact LoopEnd.mk (i+1,(r:Int),ml,ql) ⟨by show i+1≤m;omega,by show(r:Int)=optI (X.lev n s col (i+1));rw[e1];rfl,by unfold lst;rw[e1];exact hq⟩ (by show m - (i+1) < m - i;omega)
 ·obtain rfl:m=i:=by omega
  rw[←hbi]
  repeat'(first|refine gM ?_|(refine gI ?_;intro g)|(refine gU ?_;intro v)|refine gN ?_ ?_|refine d116 ?_|fail)
  refine WC.ret ?_
  exact Fin.v (ResE.t1 rfl rfl) meA rfl
end Z
end Go.Proofs.YtaongbhamadlkaaGreat
namespace Go.Proofs.YtaongbhamadlkaaGreat
open W Go.RowKit
def IsF (n:Nat) (q:Nat→Rat):RPost:=fun v B G=>∃ ms,B=[]∧G=[fF v n ms q]
theorem fstT_at {p:Nat→Bool} {n i:Nat} (h:i < n):X.fstT p (n - i) i=if p i=true then some i else X.fstT p (n - (i+1)) (i+1):=by
 rw[show n - i=n - (i+1)+1 by omega,X.fstT]
theorem has_nil0F {F:List Fct} (ms:Nat→QM) (q:Nat→Rat):Has F (fF (.slice none 0 0) 0 ms q):=fun p hf=>⟨⟨none,0,rfl,Nat.le_refl _,by unfold maxLen;omega,.inl ⟨rfl,rfl,rfl⟩⟩,fun i hi=>absurd hi (by omega)⟩
namespace Z
attribute [local irreducible] WC WL WD YO LO LoopEnd W.Fin Scalar SliceT FieldAt Row ArrT AllocT KnS Has W.One SrcE IntT
set_option maxHeartbeats 4000000 in
set_option maxRecDepth 60000 in
theorem index_c (v:Value) (m k:Nat) (b:Nat→Nat):FnB Tryz.prog 122 [v,.int .i64 (k:Int)] [] [sN v m b] (IsV (.int .i64 (optI (X.fstT (fun i=>decide (b i=k)) m 0)))):=by
 refine fn_of [(0,v),(1,(.int .i64 (k:Int)))] 19 Tryz.func122 rfl Tryz.ntmps122 (by kernel_rfl) rfl suA fun h0=>?_
 refine WC.lenF (v:=v) (m:=m) hmA fun hm=>?_
 repeat'(first|refine gA ?_|(refine goG ?_;intro g)|(refine goV ?_;intro v))
 refine WC.lp (σ:=Nat) (fun i=>[(8,.int .i64 (i:Int)),(7,.int .i64 (m:Int)),(0,v),(1,.int .i64 (k:Int))]) (fun _=>[]) (fun _=>[ge h0,sN v m b]) (fun i=>i≤m∧X.fstT (fun i=>decide (b i=k)) m 0=X.fstT (fun i=>decide (b i=k)) (m - i) i) (fun i=>m - i) 0 ⟨Nat.zero_le _,rfl⟩ ?_
 rintro i ⟨hi,he⟩
 by_cases c:i < m
 ·rw[fstT_at c] at he
  by_cases c1:b i=k
  ·rw[if_pos (decide_eq_true c1)] at he
   rw[he]
   repeat'(first|refine gA ?_|(refine goG ?_;intro g)|(refine goV ?_;intro v))
   refine WC.ret ?_
   exact Fin.v (ResE.t1 rfl rfl) meA rfl
  ·rw[if_neg (by simpa using c1)] at he
   repeat'(first|refine gA ?_|(refine goG ?_;intro g)|(refine goV ?_;intro v))
   exact LoopEnd.mk (i+1) ⟨by omega,he⟩ (by omega)
 ·obtain rfl:m=i:=by omega
  rw[Nat.sub_self,X.fstT] at he
  rw[he]
  repeat'(first|refine gA ?_|(refine goG ?_;intro g)|(refine goV ?_;intro v))
  refine WC.ret ?_
  exact Fin.v (ResE.t1 rfl rfl) meA rfl
set_option maxHeartbeats 4000000 in
set_option maxRecDepth 60000 in
theorem indexF_c (v:Value) (n:Nat) (ms:Nat→QM) (q:Nat→Rat) (f:FuncId) (first cap:List Value) (Fc:List Fct) (p:Nat→Bool)
  (hf:∀ i,i < n→FnB Tryz.prog f (first++[qv (ms i)]++cap) [] (isQ (qv (ms i)) (q i)::Fc) (IsV (.bool (p i)))) :
  FnB Tryz.prog 120 [v,.func (.func f) first.toArray cap.toArray] [] (fF v n ms q::Fc) (IsV (.int .i64 (optI (X.fstT p n 0)))):=by
 refine fn_of [(0,v),(1,(.func (.func f) first.toArray cap.toArray))] 19 Tryz.func120 rfl Tryz.ntmps120 (by kernel_rfl) rfl suA fun h0=>?_
 refine WC.lenF (v:=v) (m:=n) (W.Has.fs (ms:=ms) (qf:=q) hmA) fun hm=>?_
 repeat'(first|refine gA ?_|(refine goG ?_;intro g)|(refine goV ?_;intro v))
 refine WC.lp (σ:=Nat) (fun i=>[(8,.int .i64 (i:Int)),(7,.int .i64 (n:Int)),(0,v),(1,.func (.func f) first.toArray cap.toArray)]) (fun _=>[]) (fun _=>ge h0::fF v n ms q::Fc) (fun i=>i≤n∧X.fstT p n 0=X.fstT p (n - i) i) (fun i=>n - i) 0 ⟨Nat.zero_le _,rfl⟩ ?_ (hG:=.cons hmA (.cons hmA (HasAll.tail fun _ h=>by(repeat(first|exact h|apply List.mem_cons_of_mem)))))
 rintro i ⟨hi,he⟩
 by_cases c:i < n
 ·rw[fstT_at c] at he
  repeat'(first|refine gA ?_|(refine goG ?_;intro g)|(refine goV ?_;intro v))
  refine WL.callC first cap (vs:=[qv (ms i)]) (hf i c) ?_ (hF:=.cons (W.Has.q (W.Has.fm (v:=v) hmA) c) (HasAll.tail fun _ h=>by(repeat(first|exact h|apply List.mem_cons_of_mem))))
  rintro _ _ _ ⟨rfl,rfl,rfl⟩
  simp only[List.nil_append,List.cons_append]
  cases hp:p i with
  |true=>
   rw[if_pos hp] at he
   rw[he]
   repeat'(first|refine gA ?_|(refine goG ?_;intro g)|(refine goV ?_;intro v))
   refine WC.ret ?_
   exact Fin.v (ResE.t1 rfl rfl) meA rfl
  |false=>
   rw[if_neg (by rw[hp];decide)] at he
   repeat'(first|refine gA ?_|(refine goG ?_;intro g)|(refine goV ?_;intro v))
   exact LoopEnd.mk (i+1) ⟨by omega,he⟩ (by omega) (hG:=.cons hmA (.cons hmA (HasAll.tail fun _ h=>by(repeat(first|exact h|apply List.mem_cons_of_mem)))))
 ·obtain rfl:n=i:=by omega
  rw[Nat.sub_self,X.fstT] at he
  rw[he]
  repeat'(first|refine gA ?_|(refine goG ?_;intro g)|(refine goV ?_;intro v))
  refine WC.ret ?_
  exact Fin.v (ResE.t1 rfl rfl) meA rfl
set_option maxHeartbeats 4000000 in
set_option maxRecDepth 60000 in
theorem clone_c (u:Value) (n:Nat) (ms:Nat→QM) (q:Nat→Rat) (hn:n≤1000000):FnB Tryz.prog 119 [u] [] [fF u n ms q] (IsF n q):=by
 refine fn_of [(0,u)] 8 Tryz.func119 rfl Tryz.ntmps119 (by kernel_rfl) rfl suA fun h0=>?_
 cases hnl:isNil u with
 |true=>
  refine WC.nilF (v:=u) (m:=n) (ms:=ms) (q:=q) hmA hnl fun h=>?_
  subst h
  repeat'(first|refine gA ?_|(refine goG ?_;intro g)|(refine goV ?_;intro v))
  refine WC.ret ?_
  exact Fin.p [] [fF (.slice none 0 0) 0 ms q] (ResE.t1 rfl rfl) meA (List.nil_sublist _) (.cons (has_nil0F _ _) .nil) ⟨ms,rfl,rfl⟩
 |false=>
  repeat'(first|refine gA ?_|(refine goG ?_;intro g)|(refine goV ?_;intro v))
  refine WC.freezeF v n ms q (by repeat(first|exact Sel.head|apply Sel.tail)) (W.Has.fm (v:=u) hmA) ?_
  refine WC.ret ?_
  exact Fin.p [] [fF v n ms q] (ResE.t1 rfl rfl) meA (List.nil_sublist _) haA ⟨ms,rfl,rfl⟩
end Z
end Go.Proofs.YtaongbhamadlkaaGreat
namespace Go.Proofs.YtaongbhamadlkaaGreat
open W Go.RowKit
abbrev lnv (M:Pm) (i:Nat):Value:=.agg #[M.av i,.bool (M.mb i).1,(M.mb i).2.1,.bool false,(M.mb i).2.2]
def vldP (vars:Int) (m gn:Nat) (ln:Nat→Nat):Int:=
 if 48 < vars∨128 < m then 4 else if vars < 0∨(gn:Int)≠vars∨(X.fstT (fun i=>decide ((ln i:Int)≠vars)) m 0).isSome=true then 1 else 0
theorem hasB_tail {bx:List Ow} {F:List Fct}:∀ {G:List Fct},(∀ f∈G,f∈F)→HasAllB bx F G
 |[],_=>.nil
 |f::G,h=>.cons (HasB.f (Has.mem (h f (List.mem_cons_self ..)))) (hasB_tail fun g hg=>h g (List.mem_cons_of_mem _ hg))
namespace Z
attribute [local irreducible] WC WL WD YO LO LoopEnd W.Fin Scalar SliceT FieldAt Row ArrT AllocT KnS Has W.One SrcE IntT
section
variable (M:Pm) (m gn:Nat) (ln:Nat→Nat) (a:Nat→Nat→Rat) (b g:Nat→Rat)
set_option maxHeartbeats 4000000 in
set_option maxRecDepth 60000 in
theorem indexL_c (f:FuncId) (first cap:List Value) (Fc:List Fct) (p:Nat→Bool)
  (hf:∀ i,i < m→FnB Tryz.prog f (first++[lnv M i]++cap) [] (fPg M m gn ln a b g::Fc) (IsV (.bool (p i)))) :
  FnB Tryz.prog 171 [M.lv,.func (.func f) first.toArray cap.toArray] [] (fPg M m gn ln a b g::Fc) (IsV (.int .i64 (optI (X.fstT p m 0)))):=by
 refine fn_of [(0,M.lv),(1,(.func (.func f) first.toArray cap.toArray))] 19 Tryz.func171 rfl Tryz.ntmps171 (by kernel_rfl) rfl suA fun h0=>?_
 refine WC.lenF (v:=M.lv) (m:=m) (W.Has.pl (M:=M) (m:=m) (gn:=gn) (ln:=ln) (a:=a) (b:=b) (g:=g) hmA) fun hm=>?_
 repeat'(first|refine gA ?_|(refine goG ?_;intro g)|(refine goV ?_;intro v))
 refine WC.lp (σ:=Nat) (fun i=>[(8,.int .i64 (i:Int)),(7,.int .i64 (m:Int)),(0,M.lv),(1,.func (.func f) first.toArray cap.toArray)]) (fun _=>[]) (fun _=>ge h0::fPg M m gn ln a b g::Fc) (fun i=>i≤m∧X.fstT p m 0=X.fstT p (m - i) i) (fun i=>m - i) 0 ⟨Nat.zero_le _,rfl⟩ ?_ (hG:=.cons hmA (.cons hmA (HasAll.tail fun _ h=>by(repeat(first|exact h|apply List.mem_cons_of_mem)))))
 rintro i ⟨hi,he⟩
 by_cases c:i < m
 ·rw[fstT_at c] at he
  repeat'(first|refine gA ?_|(refine goG ?_;intro g)|(refine goV ?_;intro v))
  refine WL.callC first cap (vs:=[lnv M i]) (hf i c) ?_ (hF:=.cons hmA (HasAll.tail fun _ h=>by(repeat(first|exact h|apply List.mem_cons_of_mem))))
  rintro _ _ _ ⟨rfl,rfl,rfl⟩
  simp only[List.nil_append,List.cons_append]
  cases hp:p i with
  |true=>
   rw[if_pos hp] at he
   rw[he]
   repeat'(first|refine gA ?_|(refine goG ?_;intro g)|(refine goV ?_;intro v))
   refine WC.ret ?_
   exact Fin.v (ResE.t1 rfl rfl) meA rfl
  |false=>
   rw[if_neg (by rw[hp];decide)] at he
   repeat'(first|refine gA ?_|(refine goG ?_;intro g)|(refine goV ?_;intro v))
   exact LoopEnd.mk (i+1) ⟨by omega,he⟩ (by omega) (hG:=.cons hmA (.cons hmA (HasAll.tail fun _ h=>by(repeat(first|exact h|apply List.mem_cons_of_mem)))))
 ·obtain rfl:m=i:=by omega
  rw[Nat.sub_self,X.fstT] at he
  rw[he]
  repeat'(first|refine gA ?_|(refine goG ?_;intro g)|(refine goV ?_;intro v))
  refine WC.ret ?_
  exact Fin.v (ResE.t1 rfl rfl) meA rfl
set_option maxHeartbeats 4000000 in
set_option maxRecDepth 60000 in
theorem containsL_c (f:FuncId) (first cap:List Value) (Fc:List Fct) (p:Nat→Bool)
  (hf:∀ i,i < m→FnB Tryz.prog f (first++[lnv M i]++cap) [] (fPg M m gn ln a b g::Fc) (IsV (.bool (p i)))) :
  FnB Tryz.prog 111 [M.lv,.func (.func f) first.toArray cap.toArray] [] (fPg M m gn ln a b g::Fc) (IsV (.bool (X.fstT p m 0).isSome)):=by
 refine fn_of [(0,M.lv),(1,(.func (.func f) first.toArray cap.toArray))] 9 Tryz.func111 rfl Tryz.ntmps111 (by kernel_rfl) rfl suA fun h0=>?_
 repeat'(first|refine gA ?_|(refine goG ?_;intro g)|(refine goV ?_;intro v))
 refine WL.callV (indexL_c M m gn ln a b g f first cap Fc p hf) ?_ (hF:=.cons (.f hmA) (hasB_tail fun _ h=>by(repeat(first|exact h|apply List.mem_cons_of_mem))))
 cases hp:X.fstT p m 0 with
 |none=>
  rw[show optI none= -1 from rfl]
  repeat'(first|refine gA ?_|(refine goG ?_;intro g)|(refine goV ?_;intro v))
  refine WC.ret ?_
  exact Fin.v (ResE.t1 rfl rfl) meA rfl
 |some k=>
  rw[show optI (some k)=(k:Int) from rfl]
  repeat'(first|refine gA ?_|(refine goG ?_;intro g)|(refine goV ?_;intro v))
  refine WC.ret ?_
  exact Fin.v (ResE.t1 rfl rfl) meA rfl
set_option maxHeartbeats 4000000 in
set_option maxRecDepth 60000 in
theorem valid1_c (gp:Nat) (vars:Int) (i:Nat) (hi:i < m):FnB Tryz.prog 112 [lnv M i,ptr gp] [] [fPg M m gn ln a b g,ce gp 26 (pcs M vars)] (IsV (.bool (decide ((ln i:Int)≠vars)))):=by
 refine fn_of [(0,(lnv M i)),(1,(ptr gp))] 10 Tryz.func112 rfl Tryz.ntmps112 (by kernel_rfl) rfl suA fun h0=>?_
 refine WC.fact (fF (M.av i) (ln i) (M.ma i) (a i)) (W.Has.pa (M:=M) (m:=m) (gn:=gn) (ln:=ln) (a:=a) (b:=b) (g:=g) hmA hi) ?_
 refine WC.fact (isQ (qv (M.mb i)) (b i)) (W.Has.pbq (M:=M) (m:=m) (gn:=gn) (ln:=ln) (a:=a) (b:=b) (g:=g) hmA hi) ?_
 by_cases c:(ln i:Int)=vars
 ·repeat'(first|refine gA ?_|(refine goG ?_;intro g)|(refine goV ?_;intro v))
  refine WC.ret ?_
  exact Fin.v (ResE.t1 rfl rfl) meA (by simp[c])
 ·repeat'(first|refine gA ?_|(refine goG ?_;intro g)|(refine goV ?_;intro v))
  refine WC.ret ?_
  exact Fin.v (ResE.t1 rfl rfl) meA (by simp[c])
set_option maxHeartbeats 4000000 in
set_option maxRecDepth 60000 in
theorem valid_c (vars:Int):FnB Tryz.prog 43 [pgv M vars] [] [fPg M m gn ln a b g] (IsV (.int .i64 (vldP vars m gn ln))):=by
 refine fn_of [(0,(pgv M vars))] 31 Tryz.func43 rfl Tryz.ntmps43 (by kernel_rfl) rfl suA fun h0=>?_
 refine WC.lenF (v:=M.lv) (m:=m) (W.Has.pl (M:=M) (m:=m) (gn:=gn) (ln:=ln) (a:=a) (b:=b) (g:=g) hmA) fun hm=>?_
 refine WC.fact (fF M.gv gn M.mg g) (W.Has.pg (M:=M) (m:=m) (gn:=gn) (ln:=ln) (a:=a) (b:=b) (g:=g) hmA) ?_
 by_cases c1:48 < vars
 ·repeat'(first|refine gA ?_|(refine goG ?_;intro g)|(refine goV ?_;intro v))
  refine WC.ret ?_
  exact Fin.v (ResE.t1 rfl rfl) meA (by simp[vldP,c1])
 ·by_cases c2:128 < m
  ·repeat'(first|refine gA ?_|(refine goG ?_;intro g)|(refine goV ?_;intro v))
   refine WC.ret ?_
   exact Fin.v (ResE.t1 rfl rfl) meA (by simp[vldP,c2])
  ·by_cases c3:vars < 0
   ·repeat'(first|refine gA ?_|(refine goG ?_;intro g)|(refine goV ?_;intro v))
    refine WC.ret ?_
    exact Fin.v (ResE.t1 rfl rfl) meA (by simp[vldP,c1,c2,c3])
   ·by_cases c4:(gn:Int)=vars
    ·repeat'(first|refine gA ?_|(refine goG ?_;intro g)|(refine goV ?_;intro v))
     revert g;intro g1
     refine WL.callV (containsL_c M m gn ln a b g 112 [] [ptr g1] [ce g1 26 (pcs M vars)] (fun i=>decide ((ln i:Int)≠vars)) (fun i hi=>valid1_c M m gn ln a b g g1 vars i hi)) ?_ (hF:=.cons (.f hmA) (.cons (.c meA) .nil))
     cases hx:(X.fstT (fun i=>decide ((ln i:Int)≠vars)) m 0).isSome with
     |true=>
      repeat'(first|refine gA ?_|(refine goG ?_;intro g)|(refine goV ?_;intro v))
      refine WC.ret ?_
      exact Fin.v (ResE.t1 rfl rfl) meA (by simp only[vldP,hx];rw[if_neg (by omega),if_pos (.inr (.inr trivial))])
     |false=>
      repeat'(first|refine gA ?_|(refine goG ?_;intro g)|(refine goV ?_;intro v))
      refine WC.ret ?_
      exact Fin.v (ResE.t1 rfl rfl) meA (by simp only[vldP,hx];rw[if_neg (by omega),if_neg (by simp[c3,c4])])
    ·repeat'(first|refine gA ?_|(refine goG ?_;intro g)|(refine goV ?_;intro v))
     refine WC.ret ?_
     exact Fin.v (ResE.t1 rfl rfl) meA (by simp[vldP,c1,c2,c4])
end
end Z
end Go.Proofs.YtaongbhamadlkaaGreat
namespace Go.Proofs.YtaongbhamadlkaaGreat
open W Go.RowKit
namespace Z
attribute [local irreducible] WC WL WD YO LO LoopEnd W.Fin Scalar SliceT FieldAt Row ArrT AllocT KnS Has W.One SrcE IntT
theorem d27 {G G':Prop} (h:G') (s:Bx G'→G:=by
 intro h
 first|(apply WC.draw (id:=5) [0,1,2,3,4,5,6,7,8] (.held 0 (.held 1 (.held 2 (.held 3 (.held 4 (.held 5 (.held 6 (.held 7 (.held 8 (.loud 9 (.loud 10 (.loud 11 (.loud 12 (.done)))))))))))))) mixed (by kernel_rfl))|fail
 exact Bx.h h):G:=s ⟨h⟩
set_option maxHeartbeats 4000000 in
set_option maxRecDepth 60000 in
theorem sum_c (v:Value) (n K:Nat) (ms:Nat→QM) (q:Nat→Rat) (hn:n≤10000) (hK:n*(K+1)+1+K≤400000000) (hq:∀ i,i < n→Sq K (q i)):FnB Tryz.prog 89 [v] [] [fF v n ms q] (IsR (X.sm n q)):=by
 refine fn_of [(0,v)] 17 Tryz.func89 rfl Tryz.ntmps89 (by kernel_rfl) rfl suA fun h0=>?_
 have hsm:∀ i,i≤n→Sm (X.sm i q):=fun i hi=>(X.sq_sm (f:=q) (m:=i) (k:=K) fun j hj=>hq j (by omega)).sm (by
  have:=Nat.mul_le_mul_right (K+1) hi
  omega)
 repeat'(first|refine gA ?_|(refine goG ?_;intro g)|(refine goV ?_;intro v))
 rename_i g2
 revert g;intro g3
 refine WC.lp (σ:=Nat×QM) (fun st=>[(8,.int .i64 (st.1:Int)),(7,.int .i64 (n:Int)),(6,v),(3,ptr g3),(2,ptr g2)]) (fun st=>[Ow.cells g3 31 (qcs st.2),Ow.cells g2 31 (qcs m00)])
  (fun st=>[isQ (qv st.2) (X.sm st.1 q),ge h0,fF v n ms q]) (fun st=>st.1≤n) (fun st=>n - st.1) (0,m00) (Nat.zero_le _) ?_ (hG:=.cons hasQ0 (.cons hmA (.cons hmA .nil)))
 rintro⟨k,m⟩ hk
 simp only at hk ⊢
 by_cases c:k < n
 ·refine WC.fact (isQ (qv (ms k)) (q k)) (W.Has.q (W.Has.fm (v:=v) hmA) c) ?_
  repeat'(first|refine gA ?_|(refine goG ?_;intro g)|(refine goV ?_;intro v))
  first|refine WL.callK (Zn.add m (ms k) (X.sm k q) (q k) (hsm k (by omega)) ((hq k c).sm (by omega))) ?_|refine WD.callK (Zn.add m (ms k) (X.sm k q) (q k) (hsm k (by omega)) ((hq k c).sm (by omega))) ?_|refine LO.callM (Zn.add m (ms k) (X.sm k q) (q k) (hsm k (by omega)) ((hq k c).sm (by omega))) ?_
  rintro _ _ _ ⟨m3,rfl,rfl,rfl⟩
  simp only[List.nil_append,List.cons_append]
  repeat'(first|refine gA ?_|(refine goG ?_;intro g)|(refine goV ?_;intro v))
  exact LoopEnd.mk (k+1,m3) (by show k+1≤n;omega) (by show n - (k+1) < n - k;omega)
 ·obtain rfl:n=k:=by omega
  repeat'(first|refine gA ?_|(refine goG ?_;intro g)|(refine goV ?_;intro v))
  refine WC.ret ?_
  exact Fin.p [] [isQ (qv m) (X.sm n q)] (ResE.cV rfl rfl meA T.r31 rfl) meA (List.nil_sublist _) haA ⟨m,rfl,rfl,rfl⟩
def dtx (a b:Nat→Rat) (k j:Nat):Rat:=if j < k then a j*b j else 0
theorem dtx_up {a b:Nat→Rat} {k:Nat} (j:Nat) (hj:j < k+1):upd (dtx a b k) k (a k*b k) j=dtx a b (k+1) j:=by
 unfold dtx upd
 by_cases c:j=k
 ·subst c;simp
 ·rw[if_neg c,if_pos hj]
  show(if j < k then _ else _)=_
  rw[if_pos (by omega)]
set_option maxHeartbeats 4000000 in
set_option maxRecDepth 60000 in
theorem dot_c (x y:Value) (n K:Nat) (ma mb:Nat→QM) (a b:Nat→Rat) (hn:n≤10000) (hK:n*(2*K+1)+1+2*K≤400000000) (ha:∀ i,i < n→Sq K (a i)) (hb:∀ i,i < n→Sq K (b i)):FnB Tryz.prog 27 [x,y] [] [fF x n ma a,fF y n mb b] (IsR (X.sm n fun i=>a i*b i)):=by
 refine fn_of [(0,x),(1,y)] 30 Tryz.func27 rfl Tryz.ntmps27 (by kernel_rfl) rfl suA fun h0=>?_
 refine WC.addNil 31 4 ?_
 repeat'(first|refine gB ?_|(refine gH ?_;intro g)|(refine gW ?_;intro v)|refine goYT ?_|refine d27 ?_|fail)
 revert g;intro g4
 rw[show min (n:Int) (n:Int)=(n:Int) by omega]
 refine WC.lp (σ:=Nat×Value×(Nat→QM)) (fun st=>[(12,.int .i64 (st.1:Int)),(11,.int .i64 (n:Int)),(0,x),(1,y),(5,st.2.1),(4,ptr g4)]) (fun st=>[Ow.cells g4 31 (qcs m00),Ow.slice st.2.1 31 4 (qcells st.1 st.2.2)])
  (fun st=>[mF st.1 st.2.2 (dtx a b st.1),ge h0,fF x n ma a,fF y n mb b]) (fun st=>st.1≤n) (fun st=>n - st.1) (0,.slice none 0 0,fun _=>m00) (Nat.zero_le _) ?_ (hG:=.cons (W.Has.mFn _ _) (.cons hmA (.cons hmA (.cons hmA .nil))))
 rintro⟨k,sv,ms⟩ hk
 simp only at hk ⊢
 by_cases c:k < n
 ·refine WC.fact (isQ (qv (ma k)) (a k)) (W.Has.q (W.Has.fm (v:=x) hmA) c) ?_
  refine WC.fact (isQ (qv (mb k)) (b k)) (W.Has.q (W.Has.fm (v:=y) hmA) c) ?_
  repeat'(first|refine gB ?_|(refine gH ?_;intro g)|(refine gW ?_;intro v)|refine goYT ?_|refine d27 ?_|fail)
  first|refine WL.callK (Zn.mul (ma k) (mb k) (a k) (b k) ((ha k c).sm (by omega)) ((hb k c).sm (by omega))) ?_|refine WD.callK (Zn.mul (ma k) (mb k) (a k) (b k) ((ha k c).sm (by omega)) ((hb k c).sm (by omega))) ?_|refine LO.callM (Zn.mul (ma k) (mb k) (a k) (b k) ((ha k c).sm (by omega)) ((hb k c).sm (by omega))) ?_
  rintro _ _ _ ⟨m3,rfl,rfl,rfl⟩
  simp only[List.nil_append,List.cons_append]
  refine WD.fact (mF (k+1) (upd ms k m3) (dtx a b (k+1))) ((W.Has.mFapp (n:=k) (ms:=ms) (m:=m3) (qf:=dtx a b k) hmA hmA).mFsame fun j hj=>dtx_up j hj) ?_
  repeat'(first|refine gB ?_|(refine gH ?_;intro g)|(refine gW ?_;intro v)|refine goYT ?_|refine d27 ?_|fail)
  exact LoopEnd.mk (k+1,_,_) (by show k+1≤n;omega) (by show n - (k+1) < n - k;omega)
 ·obtain rfl:n=k:=by omega
  repeat'(first|refine gB ?_|(refine gH ?_;intro g)|(refine gW ?_;intro v)|refine goYT ?_|refine d27 ?_|fail)
  refine WL.freezeF sv n ms (dtx a b n) (by repeat(first|exact Sel.head|apply Sel.tail)) hmA ?_
  first|refine WL.callK (sum_c sv n (2*K) ms (dtx a b n) hn hK (fun i hi=>by unfold dtx;rw[if_pos hi];exact(Sq.mul (ha i hi) (hb i hi)).up (by omega))) ?_|refine WD.callK (sum_c sv n (2*K) ms (dtx a b n) hn hK (fun i hi=>by unfold dtx;rw[if_pos hi];exact(Sq.mul (ha i hi) (hb i hi)).up (by omega))) ?_|refine LO.callM (sum_c sv n (2*K) ms (dtx a b n) hn hK (fun i hi=>by unfold dtx;rw[if_pos hi];exact(Sq.mul (ha i hi) (hb i hi)).up (by omega))) ?_
  rintro _ _ _ ⟨m5,rfl,rfl,rfl⟩
  simp only[List.nil_append,List.cons_append]
  repeat'(first|refine gB ?_|(refine gH ?_;intro g)|(refine gW ?_;intro v)|refine goYT ?_|refine d27 ?_|fail)
  refine WC.ret ?_
  have he:X.sm n (dtx a b n)=X.sm n fun i=>a i*b i:=X.sm_congr fun i hi=>by unfold dtx;rw[if_pos hi]
  rw[←he]
  exact Fin.p [] [isQ (qv m5) (X.sm n (dtx a b n))] (ResE.cV rfl rfl meA T.r31 rfl) meA (List.nil_sublist _) haA ⟨m5,rfl,rfl,rfl⟩
end Z
end Go.Proofs.YtaongbhamadlkaaGreat
namespace Go.Proofs.YtaongbhamadlkaaGreat
open W Go.RowKit
def most (p:X.Lp) (op:Bool) (r:Nat):Rat:=if op=true then 0 else p.b r
def holdP (p:X.Lp) (xn:Nat) (x:Nat→Rat) (op:Bool):Bool:=decide (xn=p.v) && !(X.fstT (fun r=>decide (most p op r < X.sm p.v fun k=>p.a r k*x k)) p.m 0).isSome
def Dok (n K:Nat):Prop:=n*(2*K+1)+1+2*K≤400000000
theorem dot_sm {n K:Nat} {a b:Nat→Rat} (hd:Dok n K) (ha:∀ i,i < n→Sq K (a i)) (hb:∀ i,i < n→Sq K (b i)):Sm (X.sm n fun i=>a i*b i):=by
 unfold Dok at hd
 exact(X.sq_sm (m:=n) (f:=fun i=>a i*b i) (k:=2*K) fun i hi=>(Sq.mul (ha i hi) (hb i hi)).up (by omega)).sm (by omega)
theorem Dok.k {n K:Nat} (h:Dok n K):K≤400000000:=by unfold Dok at h;omega
theorem cmp_gt {a b:Rat}:0 < cmpQ a b↔b < a:=by
 have h1:=@cmpQ_lt a b
 have h2:=@cmpQ_eq a b
 constructor
 ·intro h
  rcases(Rat.le_total:a≤b∨b≤a) with h3|h3
  ·by_cases e:a=b
   ·rw[h2.2 e] at h;omega
   ·have:a < b:=by grind
    have:=h1.2 this;omega
  ·by_cases e:a=b
   ·rw[h2.2 e] at h;omega
   ·grind
 ·intro h
  by_cases c:cmpQ a b < 0
  ·have:=h1.1 c;grind
  ·by_cases c2:cmpQ a b=0
   ·have:=h2.1 c2;grind
   ·omega
namespace Z
attribute [local irreducible] WC WL WD YO LO LoopEnd W.Fin Scalar SliceT FieldAt Row ArrT AllocT KnS Has W.One SrcE IntT
theorem d180Ck {G G':Prop} (h:G') (s:Bx G'→G:=by
 intro h
 first|(apply WC.draw (id:=4) [0,1,2,4,6,7] (.held 0 (.held 1 (.held 2 (.held 4 (.loud 3 (.loud 5 (.held 6 (.held 7 (.done))))))))) mixed (by kernel_rfl))|fail
 exact Bx.h h):G:=s ⟨h⟩
set_option maxHeartbeats 4000000 in
set_option maxRecDepth 60000 in
theorem holds1_c (M:Pm) (p:X.Lp) (K g5 g4 r:Nat) (op:Bool) (xv:Value) (mx:Nat→QM) (x:Nat→Rat) (hr:r < p.m) (hd:Dok p.v K) (hv:p.v≤1000) (ha:∀ r,r < p.m→∀ k,k < p.v→Sq K (p.a r k)) (hb:∀ r,r < p.m→Sq K (p.b r)) (hx:∀ k,k < p.v→Sq K (x k)) (hK:0 < K) :
  FnB Tryz.prog 180 [lnv M r,ptr g5,ptr g4] [] [fP M p,ce g5 4 [.bool op],ce g4 24 [xv],fF xv p.v mx x] (IsV (.bool (decide (most p op r < X.sm p.v fun k=>p.a r k*x k)))):=by
 refine fn_of [(0,(lnv M r)),(1,(ptr g5)),(2,(ptr g4))] 17 Tryz.func180 rfl Tryz.ntmps180 (by kernel_rfl) rfl suA fun h0=>?_
 refine WC.fact (fF (M.av r) p.v (M.ma r) (p.a r)) (W.Has.pa (M:=M) (m:=p.m) (gn:=p.v) (ln:=fun _=>p.v) (a:=p.a) (b:=p.b) (g:=p.g) hmA hr) ?_
 refine WC.fact (isQ (qv (M.mb r)) (p.b r)) (W.Has.pbq (M:=M) (m:=p.m) (gn:=p.v) (ln:=fun _=>p.v) (a:=p.a) (b:=p.b) (g:=p.g) hmA hr) ?_
 have hsm:=dot_sm (a:=p.a r) (b:=x) hd (ha r hr) hx
 have hgt:=@cmp_gt (X.sm p.v fun k=>p.a r k*x k) (most p op r)
 have hmo:Sm (most p op r):=by
  unfold most
  split
  ·exact(Sq.zero.up hK).sm hd.k
  ·exact(hb r hr).sm hd.k
 cases op with
 |true=>
  have e:most p true r=0:=rfl
  rw[e] at hgt hmo ⊢
  refine WC.fact (isQ (qv m00) 0) hasQ0 ?_
  repeat'(first|refine gB ?_|(refine gH ?_;intro g)|(refine gW ?_;intro v)|refine d180Ck ?_|fail)
  refine WD.callK (dot_c (M.av r) xv p.v K (M.ma r) mx (p.a r) x (by omega) hd (ha r hr) hx) ?_
  rintro _ _ _ ⟨m1,rfl,rfl,rfl⟩
  simp only[List.nil_append,List.cons_append]
  repeat'(first|refine gB ?_|(refine gH ?_;intro g)|(refine gW ?_;intro v)|refine d180Ck ?_|fail)
  refine WD.callK (Zn.cmp m1 m00 _ 0 hsm hmo) ?_
  rintro _ _ _ ⟨rfl,rfl,rfl⟩
  simp only[List.nil_append,List.cons_append]
  by_cases c:0 < X.sm p.v fun k=>p.a r k*x k
  ·have c':=hgt.2 c
   repeat'(first|refine gB ?_|(refine gH ?_;intro g)|(refine gW ?_;intro v)|refine d180Ck ?_|fail)
   refine WC.ret ?_
   exact Fin.v (ResE.t1 rfl rfl) meA (by rw[decide_eq_true c])
  ·have c':cmpQ (X.sm p.v fun k=>p.a r k*x k) 0≤0:=Int.not_lt.1 fun h=>c (hgt.1 h)
   repeat'(first|refine gB ?_|(refine gH ?_;intro g)|(refine gW ?_;intro v)|refine d180Ck ?_|fail)
   refine WC.ret ?_
   exact Fin.v (ResE.t1 rfl rfl) meA (by rw[decide_eq_false c])
 |false=>
  have e:most p false r=p.b r:=rfl
  rw[e] at hgt hmo ⊢
  repeat'(first|refine gB ?_|(refine gH ?_;intro g)|(refine gW ?_;intro v)|refine d180Ck ?_|fail)
  refine WD.callK (dot_c (M.av r) xv p.v K (M.ma r) mx (p.a r) x (by omega) hd (ha r hr) hx) ?_
  rintro _ _ _ ⟨m1,rfl,rfl,rfl⟩
  simp only[List.nil_append,List.cons_append]
  repeat'(first|refine gB ?_|(refine gH ?_;intro g)|(refine gW ?_;intro v)|refine d180Ck ?_|fail)
  refine WD.callK (Zn.cmp m1 (M.mb r) _ (p.b r) hsm hmo) ?_
  rintro _ _ _ ⟨rfl,rfl,rfl⟩
  simp only[List.nil_append,List.cons_append]
  by_cases c:p.b r < X.sm p.v fun k=>p.a r k*x k
  ·have c':=hgt.2 c
   repeat'(first|refine gB ?_|(refine gH ?_;intro g)|(refine gW ?_;intro v)|refine d180Ck ?_|fail)
   refine WC.ret ?_
   exact Fin.v (ResE.t1 rfl rfl) meA (by rw[decide_eq_true c])
  ·have c':cmpQ (X.sm p.v fun k=>p.a r k*x k) (p.b r)≤0:=Int.not_lt.1 fun h=>c (hgt.1 h)
   repeat'(first|refine gB ?_|(refine gH ?_;intro g)|(refine gW ?_;intro v)|refine d180Ck ?_|fail)
   refine WC.ret ?_
   exact Fin.v (ResE.t1 rfl rfl) meA (by rw[decide_eq_false c])
set_option maxHeartbeats 4000000 in
set_option maxRecDepth 60000 in
theorem holds_c (M:Pm) (p:X.Lp) (K xn:Nat) (op:Bool) (xv:Value) (mx:Nat→QM) (x:Nat→Rat) (hd:Dok p.v K) (hv:p.v≤1000) (ha:∀ r,r < p.m→∀ k,k < p.v→Sq K (p.a r k)) (hb:∀ r,r < p.m→Sq K (p.b r)) (hx:∀ k,k < xn→Sq K (x k)) (hK:0 < K) :
  FnB Tryz.prog 130 [pgv M p.v,xv,.bool op] [] [fP M p,fF xv xn mx x] (IsV (.bool (holdP p xn x op))):=by
 refine fn_of [(0,(pgv M p.v)),(1,xv),(2,(.bool op))] 19 Tryz.func130 rfl Tryz.ntmps130 (by kernel_rfl) rfl suA fun h0=>?_
 by_cases c:xn=p.v
 ·subst c
  repeat'(first|refine gA ?_|(refine goG ?_;intro g)|(refine goV ?_;intro v))
  rename_i g3 g4
  revert g;intro g5
  refine WL.callV (containsL_c M p.m p.v (fun _=>p.v) p.a p.b p.g 180 [] [ptr g5,ptr g4] [ce g5 4 [.bool op],ce g4 24 [xv],fF xv p.v mx x] (fun r=>decide (most p op r < X.sm p.v fun k=>p.a r k*x k)) (fun r hr=>holds1_c M p K g5 g4 r op xv mx x hr hd hv ha hb hx hK)) ?_ (hF:=.cons (.f hmA) (.cons (.c meA) (.cons (.c meA) (.cons (.f hmA) .nil))))
  have hh:holdP p p.v x op= !(X.fstT (fun r=>decide (most p op r < X.sm p.v fun k=>p.a r k*x k)) p.m 0).isSome:=by unfold holdP;rw[decide_eq_true rfl];rfl
  cases hx:(X.fstT (fun r=>decide (most p op r < X.sm p.v fun k=>p.a r k*x k)) p.m 0).isSome with
  |true=>
   repeat'(first|refine gA ?_|(refine goG ?_;intro g)|(refine goV ?_;intro v))
   refine WC.ret ?_
   exact Fin.v (ResE.t1 rfl rfl) meA (by rw[hh,hx];rfl)
  |false=>
   repeat'(first|refine gA ?_|(refine goG ?_;intro g)|(refine goV ?_;intro v))
   refine WC.ret ?_
   exact Fin.v (ResE.t1 rfl rfl) meA (by rw[hh,hx];rfl)
 ·repeat'(first|refine gA ?_|(refine goG ?_;intro g)|(refine goV ?_;intro v))
  refine WC.ret ?_
  exact Fin.v (ResE.t1 rfl rfl) meA (by unfold holdP;rw[decide_eq_false c];rfl)
end Z
end Go.Proofs.YtaongbhamadlkaaGreat
