/- Lemmas. Conditions: none. -/
import Derived.Test.YtbnobghgnbockaaGreatZk4
import Derived.Test.YtbnobghgnbockaaGreatZk25
import Derived.Test.YtbnobghgnbockaaGreatZk26
import Derived.Test.YtbnobghgnbockaaGreatZk34
import Derived.Test.YtbnobghgnbockaaGreatZk35
import Derived.Test.YtbnobghgnbockaaGreatZk39
import Derived.Test.YtbnobghgnbockaaGreatZk40
import Derived.Test.YtbnobghgnbockaaGreatZk41
import Derived.Test.YtbnobghgnbockaaGreatZk1
set_option linter.all false
set_option maxHeartbeats 32000000
set_option maxRecDepth 100000
namespace Go.Proofs.YtbnobghgnbockaaGreat
section
open Go.RowKit
namespace W
variable {P:Program} {n:Nat} {L rest:List Oper} {e:Env} {bx b0:List Ow} {F F0:List Fct} {Q:Env->List Ow->List Fct->Prop} {d j:Nat} {ty:TypeId} {pos:String} {af:Array Edge} {g:Option (Nat×Bool)} {v:Value} {hs:List Nat} {r:Plan}
theorem WD.Y2 {x:Operand} {i:Nat} (hL:L[j]?=some ⟨some d,.extract x i,ty,pos,af,g⟩) (hy:YO P (.extract x i) ty e b0 F0 v) (hd:Nat.blt d n=true) (hg:gok L e g=some true) (h:WD P n L hs b0 F0 r ((d,v)::e) bx F Q):WD P n L hs b0 F0 (.held j r) e bx F Q:=WD.y hL hy hd hg h
end W
end
section
namespace Bl
open X
theorem rle {a b:Rat} (h:a=b):a<=b:=h ▸ Rat.le_refl
section
variable {S S':Sc} {w w' u v u' v':Nat->Rat}
theorem Bal.congr (h:Bal S w u v) (hu:∀ k,k < 2*S.m->u k=u' k∧v k=v' k) (hw:∀ i,i < S.n->w i=w' i):Bal S w' u' v':=by
 refine⟨λk hk=>?_,λi hi=>?_⟩
 ·rw[<-(hu k hk).1,<-(hu k hk).2];exact h.1 k hk
 ·rw[<-hw i hi];have h2:=h.2 i hi;refine⟨?_,?_,?_,?_⟩
  ·rw[<-h2.1];exact Qb λk hk=>by rw[(hu k hk).1,(hu k hk).2]
  ·rw[<-h2.2.1];exact Qb λk hk=>by rw[(hu k hk).1,(hu k hk).2]
  ·rw[<-h2.2.2.1];exact Qb λk hk=>by rw[(hu k hk).1,(hu k hk).2]
  ·refine Rat.le_trans (rle ?_) h2.2.2.2;exact Qb λk hk=>by rw[(hu k hk).1]
theorem Bal.same (h:Bal S w u v) (hn:S'.n=S.n) (hm:S'.m=S.m) (hT:∀ j,j < S.m->S'.T j=S.T j) (hB:∀ i,i < S.n->(S'.B i).c=(S.B i).c∧(S.B i).st<=(S'.B i).st):Bal S' w u v:=by
 have hat:∀ k,k < 2*S.m->S'.at k=S.at k∧S'.T (k / 2)=S.T (k / 2):=λk hk=>by
  have:=hT (k / 2) qo;unfold Sc.at;rw[this];exact⟨rfl,rfl⟩
 refine⟨λk hk=>?_,λi hi=>?_⟩
 ·rw[hm] at hk;rw[(hat k hk).2];exact h.1 k hk
 ·rw[hn] at hi;have h2:=h.2 i hi;rw[hm];refine⟨?_,?_,?_,?_⟩
  ·rw[<-h2.1];exact Qb λk hk=>by rw[(hat k hk).2]
  ·rw[<-h2.2.1];exact Qb λk hk=>by rw[(hat k hk).2]
  ·rw[<-h2.2.2.1];exact Qb λk hk=>by rw[(hat k hk).2,(hat k hk).1,(hB i hi).1]
  ·refine Rat.le_trans ?_ (hB i hi).2;refine Rat.le_trans (rle ?_) h2.2.2.2;exact Qb λk hk=>by rw[(hat k hk).2]
end
end Bl
end
section
namespace Bl
open X
theorem sm_ins {f f':Nat->Rat} {p:Nat} (h1:∀ k,k < p->f' k=f k) (h2:f' p=0) (h3:f' (p+1)=0):∀ N,p<=N->(∀ k,p<=k->k < N->f' (k+2)=f k)->sm (N+2) f'=sm N f
 |0,hp,_=>by
  obtain rfl:p=0:=qo;show 0+f' 0+f' 1=0;have h3':f' 1=0:=h3;rw[h2,h3'];grind
 |N+1,hp,h=>by
  by_cases c:p=N+1
  ·subst c;show sm (N+1) f'+f' (N+1)+f' (N+1+1)=_;rw[h2,h3,Qb (n:=N+1) (f:=f') (g:=f) λk hk=>h1 k hk];grind
  ·show sm (N+2) f'+f' (N+2)=sm N f+f N;rw[sm_ins h1 h2 h3 N qo (λk a b=>h k a qo),h N qo qo]
def Hn (p:Nat) (t:Tc) (S:Sc):Sc:=⟨S.n,S.m+1,S.B,λj=>if j < p then S.T j else if j=p then t else S.T (j - 1)⟩
def KG (p:Nat) (u:Nat->Rat) (k:Nat):Rat:=if k < 2*p then u k else if k < 2*p+2 then 0 else u (k - 2)
section
variable {S:Sc} {p:Nat} {t:Tc} {w u v:Nat->Rat}
theorem VH {k:Nat} (h:k < 2*p):(Hn p t S).T (k / 2)=S.T (k / 2)∧(Hn p t S).at k=S.at k∧KG p u k=u k:=by
 have e:(Hn p t S).T (k / 2)=S.T (k / 2):=if_pos qo;refine⟨e,?_,if_pos h⟩;unfold Sc.at;rw[e]
theorem VU {k:Nat} (h:2*p<=k):(Hn p t S).T ((k+2) / 2)=S.T (k / 2)∧(Hn p t S).at (k+2)=S.at k∧KG p u (k+2)=u k:=by
 have e:(Hn p t S).T ((k+2) / 2)=S.T (k / 2):=by
  show(if(k+2) / 2 < p then _ else if(k+2) / 2=p then _ else S.T ((k+2) / 2 - 1))=_;rw[if_neg qo,if_neg qo,show(k+2) / 2 - 1=k / 2 by omega]
 refine⟨e,?_,?_⟩
 ·unfold Sc.at;rw[e,show(k+2) % 2=k % 2 by omega]
 ·unfold KG;rw[if_neg qo,if_neg qo,show k+2 - 2=k by omega]
theorem F9:KG p u (2*p)=0∧KG p u (2*p+1)=0:=⟨by unfold KG;rw[if_neg qo,if_pos qo],by unfold KG;rw[if_neg qo,if_pos qo]⟩
theorem on_0 (t:Tc) (i:Nat):on t i (frc t 0 0)=⟨0,0⟩:=by
 have e:frc t 0 0=⟨0,0⟩:=by unfold frc;rw[Vc.mk.injEq];constructor <;> grind
 rw[e];unfold on;split
 ·rfl
 ·split
  ·rw[Vc.mk.injEq];constructor <;> grind
  ·rfl
theorem Bal.ins (h:Bal S w u v) (hp:p<=S.m):Bal (Hn p t S) w (KG p u) (KG p v):=by
 obtain⟨h1,h2⟩:=h
 have sums:∀ (g:Tc->Vc->Nat->Rat->Rat->Rat),(∀ t a k,g t a k 0 0=0)->(∀ t a k,g t a (k+2)=g t a k)->
   sm (2*(S.m+1)) (λk=>g ((Hn p t S).T (k / 2)) ((Hn p t S).at k) k (KG p u k) (KG p v k))=sm (2*S.m) λk=>g (S.T (k / 2)) (S.at k) k (u k) (v k):=λg g0 g2=>by
  rw[show 2*(S.m+1)=2*S.m+2 by omega];refine sm_ins (p:=2*p) (λk hk=>?_) ?_ ?_ _ qo λk a b=>?_
  ·obtain⟨a,b,c⟩:=VH (S:=S) (t:=t) (u:=u) hk;obtain⟨_,_,d⟩:=VH (S:=S) (t:=t) (u:=v) hk;simp only[a,b,c,d]
  ·simp only[(F9 (p:=p) (u:=u)).1,(F9 (p:=p) (u:=v)).1,g0]
  ·simp only[(F9 (p:=p) (u:=u)).2,(F9 (p:=p) (u:=v)).2,g0]
  ·obtain⟨a',b',c⟩:=VU (S:=S) (t:=t) (u:=u) a;obtain⟨_,_,d⟩:=VU (S:=S) (t:=t) (u:=v) a;simp only[a',b',c,d,g2]
 refine⟨λk hk=>?_,λi hi=>?_⟩
 ·have hk:k < 2*(S.m+1):=hk;by_cases c:k < 2*p
  ·obtain⟨a,_,e⟩:=VH (S:=S) (t:=t) (u:=u) c;obtain⟨_,_,f⟩:=VH (S:=S) (t:=t) (u:=v) c;rw[a,e,f];exact h1 k qo
  ·by_cases c2:k < 2*p+2
   ·have e:∀ u:Nat->Rat,KG p u k=0:=λu=>by unfold KG;rw[if_neg c,if_pos c2]
    rw[e,e];exact⟨Rat.le_refl,by grind,by grind⟩
   ·obtain⟨k,rfl⟩:∃ j,k=j+2:=⟨k - 2,by omega⟩
    have hk2:2*p<=k:=qo;obtain⟨a,_,e⟩:=VU (S:=S) (t:=t) (u:=u) hk2;obtain⟨_,_,f⟩:=VU (S:=S) (t:=t) (u:=v) hk2;rw[a,e,f];exact h1 k qo
 ·obtain⟨a,b,c,d⟩:=h2 i hi;refine⟨?_,?_,?_,?_⟩
  ·exact(sums (λt _ _ u v=>(on t i (frc t u v)).x) (λt _ _=>by rw[on_0]) (λ_ _ _=>rfl)).trans a
  ·exact(sums (λt _ _ u v=>(on t i (frc t u v)).y) (λt _ _=>by rw[on_0]) (λ_ _ _=>rfl)).trans b
  ·exact(sums (λt a _ u v=>JZ (Jl a (S.B i).c) (on t i (frc t u v))) (λt _ _=>by rw[on_0];unfold JZ;grind) (λ_ _ _=>rfl)).trans c
  ·have:=sums (λt _ _ u _=>if tch t i then spn t.n*u else 0) (λt _ _=>by split <;> grind) (λ_ _ _=>rfl);exact this ▸ d
theorem insT_sat {c:Nat} (h:Sat S c) (hp:p<=S.m):Sat (Hn p t S) c:=by
 obtain⟨x,hx⟩:=h;have hb:=(YS.1 hx).ins (t:=t) hp;refine⟨λj=>if j % 2=0 then KG p (λk=>x (2*k)) (j / 2) else KG p (λk=>x (2*k+1)) (j / 2),YS.2 (hb.congr (λk _=>⟨?_,?_⟩) λ_ _=>rfl)⟩
 ·simp only[if_pos (show 2*k % 2=0 by omega)];rw[show 2*k / 2=k by omega]
 ·simp only[if_neg (show ¬(2*k+1) % 2=0 by omega)];rw[show(2*k+1) / 2=k by omega]
end
theorem Bal.lt {S S':Sc} {w u v:Nat->Rat} (hn:S'.n=S.n) (hm:S'.m=S.m) (hB:∀ i,i < S.n->S'.B i=S.B i) (hT:∀ j,j < S.m->S'.T j=S.T j) (h:Bal S w u v):Bal S' w u v:=
 Bal.same h hn hm hT λi hi=>⟨by rw[hB i hi],by rw[hB i hi];exact Rat.le_refl⟩
theorem sat_same {S S':Sc} {c:Nat} (hn:S'.n=S.n) (hm:S'.m=S.m) (hB:S'.B=S.B) (hT:∀ j,j < S.m->S'.T j=S.T j) (h:Sat S c):Sat S' c:=by
 obtain⟨x,hx⟩:=h;refine⟨x,YS.2 ?_⟩;have:=Bal.lt hn hm (λi _=>by rw[hB]) hT (YS.1 hx);exact this.congr (λk _=>⟨rfl,rfl⟩) λi hi=>by unfold Sc.wt;rw[hB]
theorem scL_ins {n:Nat} {B:Nat->Bd} {t0 t:Tc} {A L:List Tc} {c:Nat} (h:Sat (scL n B t0 (A++L)) c):Sat (scL n B t0 (A++t::L)) c:=by
 refine sat_same (S:=Hn A.length t (scL n B t0 (A++L))) rfl ?_ rfl (λj hj=>?_) (insT_sat h ?_)
 ·show(A++t::L).length=(A++L).length+1;simp;omega
 ·show(A++t::L).getD j t0=if j < A.length then(A++L).getD j t0 else if j=A.length then t else(A++L).getD (j - 1) t0;simp only[List.getD_eq_getElem?_getD];by_cases a:j < A.length
  ·rw[if_pos a,List.getElem?_append_left a,List.getElem?_append_left a]
  ·rw[if_neg a,List.getElem?_append_right qo];by_cases b:j=A.length
   ·rw[if_pos b,b];simp
   ·rw[if_neg b,List.getElem?_append_right qo];obtain⟨k,hk⟩:∃ k,j - A.length=k+1:=⟨j - A.length - 1,by omega⟩
    rw[hk,List.getElem?_cons_succ,show j - 1 - A.length=k by omega]
 ·show A.length<=(A++L).length;simp
theorem scL_sat' {n:Nat} {B:Nat->Bd} {t0:Tc} {c:Nat} {L1 L2:List Tc} (hs:L1.Sublist L2):∀ A,Sat (scL n B t0 (A++L1)) c->Sat (scL n B t0 (A++L2)) c:=by
 induction hs with
 |slnil=>exact λ_ h=>h
 |cons a _ ih=>exact λA h=>scL_ins (ih A h)
 |cons_cons a _ ih=>
  intro A h;have:=ih (A++[a]) (by simpa using h);simpa using this
theorem scL_sat {n:Nat} {B:Nat->Bd} {t0:Tc} {c:Nat} {L1 L2:List Tc} (hs:L1.Sublist L2) (h:Sat (scL n B t0 L1) c):Sat (scL n B t0 L2) c:=scL_sat' hs [] h
end Bl
end
section
namespace Fx
theorem num_sub {a b:Nat}:∀ {n:Nat},(∀ x,x∈numbers a n->x∈numbers b n)->(numbers a n).Sublist (numbers b n)
 |0,_=>List.Sublist.refl _
 |n+1,h=>by
  have key:∀ i,i < n+1->a / 2 ^ i % 2=1->b / 2 ^ i % 2=1:=λi hi ha=>by
   obtain⟨j,_,e,hb⟩:=Kx.1 (h (i:Int) (Kx.2 ⟨i,hi,rfl,ha⟩));have:i=j:=qo;rw[this];exact hb
  unfold numbers;refine(num_sub λx hx=>?_).append ?_
  ·obtain⟨i,h1,h2,h3⟩:=Kx.1 hx;exact Kx.2 ⟨i,h1,h2,key i qo h3⟩
  ·by_cases c:a / 2 ^ n % 2=1
   ·rw[if_pos c,if_pos (key n qo c)];exact List.Sublist.refl _
   ·rw[if_neg c];exact List.nil_sublist _
theorem G3 (b:Nat):∀ n,(numbers b n).Nodup
 |0=>List.nodup_nil
 |n+1=>by
  unfold numbers;refine List.nodup_append.2 ⟨G3 b n,?_,λx hx y hy=>?_⟩
  ·split <;> simp
  ·have:=num_lt hx;split at hy
   ·rw[List.mem_singleton] at hy;omega
   ·exact absurd hy (by simp)
def YR (a b:List Int):Nat:=(a.map λx=>b.count x).sum
theorem has_le {b:List Int} (hb:b.Nodup):∀ a:List Int,YR a b<=a.length∧(YR a b=a.length->∀ x∈a,x∈b)
 |[]=>⟨Nat.le_refl _,λ_ x h=>absurd h (by simp)⟩
 |y::a=>by
  obtain⟨h1,h2⟩:=has_le hb a;have e:YR (y::a) b=b.count y+YR a b:=by unfold YR;simp
  have c1:b.count y<=1:=List.nodup_iff_count.1 hb y;rw[e,List.length_cons];refine⟨by omega,λh x hx=>?_⟩;rcases List.mem_cons.1 hx with rfl|hx
  ·exact List.count_pos_iff.1 qo
  ·exact h2 qo x hx
theorem flat_sub {α β:Type} {f:α->List β} {l m:List α} (h:l.Sublist m):(l.flatMap f).Sublist (m.flatMap f):=by
 induction h with
 |slnil=>exact List.Sublist.refl _
 |cons a _ ih=>exact ih.trans (by rw[List.flatMap_cons];exact List.sublist_append_right _ _)
 |cons_cons a _ ih=>rw[List.flatMap_cons,List.flatMap_cons];exact(List.Sublist.refl _).append ih
theorem touches_sub {t:List Bl.Tc} {props:List (List Bl.Tc)} {a b:List Int} (h:a.Sublist b):(Ql t props a).Sublist (Ql t props b):=(List.Sublist.refl _).append (flat_sub h)
section
variable {C D:List (List Int)} {P:List Int->Prop} {i j:Nat}
theorem getD_mem (h:i < C.length):C.getD i []∈C:=by
 rw[List.getD_eq_getElem?_getD,List.getElem?_eq_getElem h];exact List.getElem_mem h
end
theorem cand_sub {t:List Bl.Tc} {props:List (List Bl.Tc)} {m:Int} (hl:props.length<=8) {a b:List Int} (ha:a∈Qa t props m) (hb:b∈Qa t props m) (h:YR a b=a.length):(Ql t props a).Sublist (Ql t props b):=by
 obtain⟨x,_,rfl,_⟩:=(Uv qo qo).1 (List.mem_filter.1 ha).1;obtain⟨y,_,rfl,_⟩:=(Uv qo qo).1 (List.mem_filter.1 hb).1;exact touches_sub (num_sub ((has_le (G3 _ _) _).2 h))
end Fx
end
section
namespace Fx
open Bl
theorem JH.sub {n:Nat} {B:Nat->Bd} {t0:Tc} {L M:List Tc} (h:L.Sublist M) (h1:JH n B t0 L):JH n B t0 M:=λc hc=>scL_sat h (h1 c hc)
end Fx
end
section
namespace Fx
open Bl
section
variable {n:Nat} {B:Nat->Bd} {t0:Tc} {t p:List Tc} {ps:List (List Tc)} {m:Int} {a b:Option Nat}
theorem few_before {C:List (List Int)} {P:List Int->Prop} {i j:Nat} (h1:Ans C P (some i)) (hn:∀ k,k<=j->C.getD k []≠C.getD i []):¬P (C.getD j []):=by
 intro hp;have h1:Yh _ _ i:=h1;rcases Nat.lt_or_ge j i with c|c
 ·exact h1.2.2 j c hp
 ·exact hn i c rfl
theorem few_has {i j:Nat} (hl:ps.length<=8) (h1:Ans (Qa t ps m) (StP n B t0 t ps) (some i)) (hj:j < (Qa t ps m).length) (h:YR ((Qa t ps m).getD i []) ((Qa t ps m).getD j [])=((Qa t ps m).getD i []).length):StP n B t0 t ps ((Qa t ps m).getD j []):=by
 have h1:Yh _ _ i:=h1;exact JH.sub (cand_sub hl (getD_mem h1.1) (getD_mem hj) h) h1.2.1
end
end Fx
end
section
open W Go.RowKit
open Bl (Vc Bd Tc Sc)
theorem FnB.monoG {P:Program} {f:FuncId} {args:List Value} {bx:List Ow} {F:List Fct} {R R':Qd} (h:FnB P f args bx F R) (hr:∀ v b g,R v b g->∃ g',(∀ x∈g',W.Has g x)∧R' v b g'):FnB P f args bx F R':=
 ⟨h.1,λfr w ho=>(h.2 fr w ho).mono λ_ _ _ ⟨h0,b,g,h2,h3,h4,h5⟩=>by
  obtain⟨g',h6,h7⟩:=hr _ _ _ h2;exact⟨h0,b,g',h7,h3,h4,h5.frame,h5.apart,h5.nodup,h5.owns,λx hx=>h5.has (h6 x hx)⟩⟩
def selS (C:List (List Int)):Option Nat->List Int
 |some i=>sl C i
 |none=>[]
def Vs (C:List (List Int)):Option Nat->Nat
 |some i=>i
 |none=>C.length
def Ke:Option Nat->Int
 |some _=>0
 |none=>16
def IsCh2 (C:List (List Int)) (Q:List Int->Prop):Qd:=λv bx G=>bx=[]∧∃ (a:Option Nat) (pv cv fv:Value) (cn:Nat) (cf:Nat->Value) (fm:Nat->Value×(Nat->QM)) (fx:Nat->Nat×Nat×(Nat->Rat)),
 v=.tuple #[.agg #[pv,cv,fv],.int .i64 (Ke a)]∧Fx.Ans C Q a∧Vs C a<=C.length∧G=[sI pv (selS C a),slC cv cn 1 cf,lF Q1 fv (Vs C a) fm fx]
theorem has_slC0 {F:List Fct} {f:Nat->Value}:W.Has F (slC (.slice none 0 0) 0 1 f):=λp _=>⟨none,0,rfl,Nat.le_refl _,by simp[maxLen],.inl ⟨rfl,rfl,rfl⟩⟩
namespace K
namespace Q
namespace Y
theorem choose2_c (lv tv pv:Value) (n:Nat) (bm:Nat->BM) (B:Nat->Bd) (t:List Tc) (P:List (List Tc)) (tm:Nat->ToM) (pm:Nat->Value×(Nat->ToM)) (most:Int) (K:Nat) (hn:n<=5) (ht:t.length<=10) (hP8:P.length<=8) (hP:∀ p∈P,p.length<=100) (hm0:0<=most) (hm8:most<=8) (h0K:0 < K) (hK:K<=3)
  (hS:∀ s∈Fx.Qa t P most,(scP n B t P s).ok∧Ss K (scP n B t P s)) :
  FnB Tryz.prog 16 [lv,tv,pv,.int .i64 most] [] [isX Tryz.prog,lF QQ lv n bm B,lF Qu tv t.length tm (tl t),lF tlS pv P.length pm (pl P)] (IsCh2 (Fx.Qa t P most) (stP n B t P)):=by
 refine FnB.monoG (ZK lv tv pv n bm B t P tm pm most K hn ht hP8 hP hm0 hm8 h0K hK hS) λv b g h=>?_;obtain⟨rfl,fv,fm,fx,⟨i,sv,cv,cm,xs,hfi,rfl,rfl,_,_⟩|⟨hno,rfl,rfl,_⟩⟩:=h
 ·refine⟨[sI sv (sl (Fx.Qa t P most) i),slC cv (2 ^ n) 1 (Zo plS cm λc=>psh (2*(scP n B t P (sl (Fx.Qa t P most) i)).m) (xs c)),lF Q1 fv i fm fx],λx hx=>?_,rfl,some i,sv,cv,fv,_,_,fm,fx,rfl,hfi,Nat.le_of_lt hfi.1,rfl⟩;simp only[List.mem_cons,List.not_mem_nil,or_false] at hx;rcases hx with rfl|rfl|rfl
  ·exact Has.mem (by simp)
  ·exact W.Has.ls (S:=plS) (Has.mem (List.mem_cons_of_mem _ (List.mem_cons_self ..)))
  ·exact Has.mem (by simp)
 ·refine⟨[sI (.slice none 0 0) [],slC (.slice none 0 0) 0 1 λ_=>.slice none 0 0,lF Q1 fv (Fx.Qa t P most).length fm fx],λx hx=>?_,rfl,none,_,_,fv,_,_,fm,fx,rfl,hno,Nat.le_refl _,rfl⟩;simp only[List.mem_cons,List.not_mem_nil,or_false] at hx;rcases hx with rfl|rfl|rfl
  ·exact has_sI0
  ·exact has_slC0
  ·exact Has.mem (by simp)
end Y
end Q
end K
end
section
open W Go.RowKit
open Bl (Vc Bd Tc Sc)
def IsDec2 (e:Int):Qd:=λv B G=>∃ (cv yv:Value) (c:Int) (n1 n2:Nat) (f1 f2:Nat->Value),v=.tuple #[.agg #[cv],.agg #[.int .i64 c,yv],.int .i64 e]∧B=[]∧G=[slC cv n1 1 f1,slC yv n2 4 f2]
theorem has_slCn {F:List Fct} {k:Nat} {f:Nat->Value}:W.Has F (slC (.slice none 0 0) 0 k f):=λp _=>⟨none,0,rfl,Nat.le_refl _,by simp[maxLen],.inl ⟨rfl,rfl,rfl⟩⟩
theorem hasP_snoc {A b:List Int} {k:Nat} (h:k < A.length):Fx.YR (A.take (k+1)) b=Fx.YR (A.take k) b+b.count (A.getD k 0):=by
 unfold Fx.YR;rw[U6 h,List.map_append,List.sum_append];simp
theorem count_snoc {b:List Int} {j:Nat} {x:Int} (h:j < b.length):(b.take (j+1)).count x=(b.take j).count x+if b.getD j 0=x then 1 else 0:=by
 rw[U6 h,List.count_append,List.count_singleton];by_cases c:b.getD j 0=x
 ·rw[if_pos c,if_pos (by simpa using c)]
 ·rw[if_neg c,if_neg (by simpa using c)]
def fnd (C:List (List Int)):Option Nat->Nat->Bool
 |some c,i=>(C.take i).any λs=>decide (s=sl C c)
 |none,_=>false
def isA (C:List (List Int)) (i:Nat):Option Nat->Bool
 |some c=>decide (sl C i=sl C c)
 |none=>false
theorem fnd_zero {C:List (List Int)} {a:Option Nat}:fnd C a 0=false:=by cases a <;> simp[fnd]
theorem fnd_snoc {C:List (List Int)} {a:Option Nat} {i:Nat} (h:i < C.length):fnd C a (i+1)=(fnd C a i ||isA C i a):=by
 cases a with
 |none=>rfl
 |some c=>unfold fnd isA;simp only;rw[Zg h,List.any_append];simp
theorem fnd_end {C:List (List Int)} {Q:List Int->Prop} {a:Option Nat} (h:Fx.Ans C Q a):fnd C a C.length=decide (Ke a=0):=by
 cases a with
 |none=>rfl
 |some c=>
  have h:Fx.Yh C Q c:=h;unfold fnd Ke;simp only;rw[List.take_length,List.any_eq_true.2 ⟨sl C c,Yu h.1,by simp⟩];rfl
theorem few1 {C:List (List Int)} {Q:List Int->Prop} {a:Option Nat} {i:Nat} (hi:i < C.length) (h:Fx.Ans C Q a) (hf:fnd C a (i+1)=false):¬Q (sl C i):=by
 cases a with
 |none=>
  have h:Fx.NoneS C Q:=h;exact h i hi
 |some c=>
  refine Fx.few_before h λk hk he=>?_
  have h1:fnd C (some c) (i+1)=true:=by
   unfold fnd;refine List.any_eq_true.2 ⟨sl C k,?_,decide_eq_true he⟩;have hk2:k < (C.take (i+1)).length:=by rw[List.length_take];omega
   have:=Yu hk2
   rw[show sl (C.take (i+1)) k=sl C k by
    show(C.take (i+1)).getD k []=C.getD k [];rw[List.getD_eq_getElem?_getD,List.getD_eq_getElem?_getD,List.getElem?_take_of_lt qo]] at this
   exact this
  rw[h1] at hf;exact absurd hf qd
theorem hasP_le (b:List Int):∀ A:List Int,Fx.YR A b<=A.length*b.length
 |[]=>by simp[Fx.YR]
 |y::A=>by
  have h:=hasP_le b A;have e:Fx.YR (y::A) b=b.count y+Fx.YR A b:=by unfold Fx.YR;simp
  have h2:=List.count_le_length (a:=y) (l:=b);rw[e,List.length_cons,Nat.succ_mul];omega
namespace K
namespace Q
namespace Y
theorem decide2_c (M:SM) (S:Sc) (K:Nat) (e:Int) (h0K:0 < K) (hK:K<=3) (hs:Ss K S) (ho:S.ok) (h1:(∀ c,c < 2 ^ S.n->Bl.Sat S c)->e=0) (h2:¬(∀ c,c < 2 ^ S.n->Bl.Sat S c)->e=16) :
  FnB Tryz.prog 25 [M.l,M.t] [] [isX Tryz.prog,fSl M S,fSt M S] (IsDec2 e):=by
 refine FnB.monoG (decide_c M S K h0K hK hs ho) λv b g h=>?_;obtain⟨rfl,⟨cv,ms,xs,rfl,rfl,hpt⟩|⟨c,yv,my,y,rfl,rfl,hc,hinf,hy,hprev⟩⟩:=h
 ·rw[h1 λc hc=>⟨_,(hpt c hc).1⟩];refine⟨[slC cv (2 ^ S.n) 1 (Zo plS ms λc=>psh (2*S.m) (xs c)),slC (.slice none 0 0) 0 4 λ_=>.slice none 0 0],λx hx=>?_,_,_,_,_,_,_,_,rfl,rfl,rfl⟩;simp only[List.mem_cons,List.not_mem_nil,or_false] at hx;rcases hx with rfl|rfl
  ·exact W.Has.ls (S:=plS) (Has.mem (List.mem_cons_self ..))
  ·exact has_slCn
 ·rw[h2 λh=>by obtain⟨x,hx⟩:=h c hc;exact X.inf_no hinf hx];refine⟨[slC (.slice none 0 0) 0 1 λ_=>.slice none 0 0,slC yv (Bl.lp S (S.wt c)).m 4 (J9 my)],λx hx=>?_,_,_,_,_,_,_,_,rfl,rfl,rfl⟩;simp only[List.mem_cons,List.not_mem_nil,or_false] at hx;rcases hx with rfl|rfl
  ·exact has_slCn
  ·exact W.Has.fs (qf:=y) (Has.mem (List.mem_cons_self ..))
attribute [local irreducible] WC WL WD YO LO Qq W.Fin Qk Qh Qj Row QZ Qv KnS Has W.One Qo QX
theorem d7 {G G':Prop} (h:G') (s:Bx G'->G:=by
 intro h;first|refine gE ?_|(apply WC.draw (id:=9) [0,1,2,3,4,5,6,7,8,9,12,13,14,15,20] (.h 0<|.h 1<|.h 2<|.h 3<|.h 4<|.h 5<|.h 6<|.h 7<|.h 8<|.h 9<|.m 10 (.m 11 (.h 12<|.h 13<|.h 14<|.h 15<|.m 16 (.l 17<|.l 18<|.l 19<|.h 20 .done) (.l 17<|.l 16<|.l 18<|.l 19<|.h 20 .done)) (.m 16 (.m 11 (.h 12<|.h 13<|.h 14<|.h 15<|.l 17<|.l 18<|.l 19<|.h 20 .done) (.l 17<|.l 11<|.h 12<|.h 13<|.h 14<|.h 15<|.l 18<|.l 19<|.h 20 .done)) (.l 17<|.m 11 (.h 12<|.h 13<|.h 14<|.h 15<|.l 16<|.l 18<|.l 19<|.h 20 .done) (.l 16<|.l 11<|.h 12<|.h 13<|.h 14<|.h 15<|.l 18<|.l 19<|.h 20 .done)))) (.m 16 (.m 10 (.m 11 (.h 12<|.h 13<|.h 14<|.h 15<|.l 17<|.l 18<|.l 19<|.h 20 .done) (.l 17<|.l 11<|.h 12<|.h 13<|.h 14<|.h 15<|.l 18<|.l 19<|.h 20 .done)) (.l 17<|.l 10<|.l 11<|.h 12<|.h 13<|.h 14<|.h 15<|.l 18<|.l 19<|.h 20 .done)) (.l 17<|.m 10 (.m 11 (.h 12<|.h 13<|.h 14<|.h 15<|.l 16<|.l 18<|.l 19<|.h 20 .done) (.l 16<|.l 11<|.h 12<|.h 13<|.h 14<|.h 15<|.l 18<|.l 19<|.h 20 .done)) (.l 16<|.l 10<|.l 11<|.h 12<|.h 13<|.h 14<|.h 15<|.l 18<|.l 19<|.h 20 .done)))) mixed kr)|(apply WC.draw (id:=10) [0,1,2,3,4,5,6,7,8,10,11] (.h 0<|.h 1<|.h 2<|.h 3<|.h 4<|.h 5<|.h 6<|.h 7<|.h 8<|.l 9<|.h 10<|.h 11 .done) mixed kr)|(apply WC.draw (id:=19) [0,1,2,3,4,5,6,7,8,9,10,11,12] (.h 0<|.h 1<|.h 2<|.h 3<|.h 4<|.h 5<|.h 6<|.h 7<|.h 8<|.h 9<|.h 10<|.h 11<|.h 12 .done) mixed kr)|fail
 exact Bx.h h):G:=s ⟨h⟩
theorem d7r {G G':Prop} (h:G') (s:Bx G'->G:=by
 intro h;repeat'(first|intro(zQ:Nat)|refine d7 ?_|intro zQ)
 repeat revert zQ
 exact Bx.h h):G:=s ⟨h⟩

theorem fewLaw_c (lv dv:Value) (l deal:List Int) (n:Int) (hl:∀ x∈l,I64 x) (hd:∀ x∈deal,I64 x) (hn:I64 n):FnB Tryz.prog 7 [lv,dv,.int .i64 n] [] [isX Tryz.prog,sI lv l,sI dv deal] (IsV (.bool true)):=by
 refine fO [(0,lv),(1,dv),(2,(.int .i64 n))] 138 Tryz.func7 Tryz.ntmps7 λh0=>?_;obtain⟨s1,s2,s3,s4,s5⟩:=FY l deal;have hPs:∀ p∈Fx.Xm l deal,p.length<=100:=λp hp=>by have:=s4 p hp;omega
 have hN:=Fx.someN_lt l;have hok:=λ(mo:Int) (s:List Int) (hs:s∈Fx.Qa (Fx.Yr l deal) (Fx.Xm l deal) mo)=>case_ok2 l deal (λ_ h=>h) (Fx.Hz hs);have hcs:=some24_c lv dv l deal hl hd;generalize Fx.Xr l=N at *;generalize (Bl.Q7 l).B=B at *;generalize Fx.Yr l deal=t at *;generalize Fx.Xm l deal=P at *;have a1:=@UE n 3 qd;have c25:=V9 n 3 hn qd;generalize ZZ n 3=mo at *;have hok:=hok mo;refine d7r ?_;refine cK (hcs) ?_;rintro _ _ _ ⟨bv,tv,pv,bm,tm,pm,rfl,rfl,rfl⟩;refine sNn ?_;refine d7r ?_;intro g;revert g;intro g7;refine cV (c25) ?_;refine d7r ?_;refine cK (choose2_c bv tv pv N bm B t P tm pm mo 1 qo s1 qo s4 qo qo qd qd hok) ?_;rintro _ _ _ ⟨rfl,a,sv,cv,fv,cn,cf,fm,fx,rfl,ha,ha',rfl⟩;refine sNn ?_;refine d7r ?_;intro g;revert g;intro g9;refine cK (Dl tv pv t P tm pm mo ⟨by omega,by omega⟩ s1 qo s4) ?_;rintro v11 _ _ ⟨sm,rfl,rfl⟩;refine sNn ?_;have hcl:(Fx.Qa t P mo).length<=900:=Nat.le_trans (List.length_filter_le _ _) (Fx.YL _ _);have hco:=λi (hi:i < (Fx.Qa t P mo).length)=>Zx (t:=t) (P:=P) (most:=mo) qo (Yu hi);have hfew:=λi j=>@Fx.few_has N B d0 t P mo i j qo;have hQ:=λ(i:Nat) (hi:i < (Fx.Qa t P mo).length) (c:Nat) (e:a=some c) (h:Fx.YR (selS (Fx.Qa t P mo) a) (sl (Fx.Qa t P mo) i)=(selS (Fx.Qa t P mo) a).length)=>hfew c i (e ▸ ha) hi (by subst e;exact h)
 have hA8:(selS (Fx.Qa t P mo) a).length<=8:=by
  cases a with
  |none=>exact Nat.zero_le _
  |some c=>exact(hco c (show Fx.Yh _ _ c from ha).1).1
 have hend:=fnd_end ha;have hf1:=λi hi hf=>few1 (i:=i) hi ha hf;generalize hC:Fx.Qa t P mo=C at *;refine d7r ?_;refine WC.JK (σ:=Unit) (λ_=>[(12,.bool (fnd C a C.length)),(10,.int .i64 (Ke a))]) (λ_=>[]) (λ_=>[ge h0,isX Tryz.prog]) (λ_=>True) ?_ ?_
 ·refine WC.lp (σ:=Nat) (λi=>[(13,.int .i64 (i:Int)),(12,.bool (fnd C a i)),(11,v11),(10,.int .i64 (Ke a)),(9,ptr g9),(8,.int .i64 mo),(7,ptr g7)]) (λ_=>[Ow.cells g9 42 [sv,cv,fv],Ow.cells g7 35 [bv,tv,pv]]) (λ_=>[ge h0,isX Tryz.prog,lF QQ bv N bm B,lF Qu tv t.length tm (tl t),lF tlS pv P.length pm (pl P),lF Qp v11 C.length sm (sl C),sI sv (selS C a),slC cv cn 1 cf,lF Q1 fv (Vs C a) fm fx]) (λi=>i<=C.length) (λi=>C.length - i) 0 (Nat.zero_le _) ?_ (hE:=by simp only[fnd_zero];exact suA);intro i hi;by_cases d:i < C.length
  ·have hmem:=Yu d;obtain⟨hok1,hsz1⟩:=hok _ hmem;obtain⟨hc8,hcr⟩:=hco i d;have hsn:=fnd_snoc (a:=a) d;have hf1:=hf1 i d;have hQ:=hQ i d;refine WC.fact (sI (sm i) (sl C i)) (W.Has.lk (S:=Qp) (v:=v11) (ms:=sm) (xs:=sl C) hmA d) ?_
   have hex:∃ e:Int,((∀ c,c < 2 ^ N->Bl.Sat (scP N B t P (sl C i)) c)->e=0)∧(¬(∀ c,c < 2 ^ N->Bl.Sat (scP N B t P (sl C i)) c)->e=16):=by
    by_cases h:∀ c,c < 2 ^ N->Bl.Sat (scP N B t P (sl C i)) c
    ·exact⟨0,λ_=>rfl,λh2=>absurd h h2⟩
    ·exact⟨16,λh2=>absurd h2 h,λ_=>rfl⟩
   obtain⟨f,hf0,hf16⟩:=hex;refine WC.seq ?_;refine WC.YH (σ:=Unit) (λ_=>[(13,.int .i64 (i:Int)),(12,.bool (fnd C a (i))),(11,v11),(10,.int .i64 (Ke a)),(9,ptr g9),(8,.int .i64 mo),(7,ptr g7)]) (λ_=>[Ow.cells g9 42 [sv,cv,fv],Ow.cells g7 35 [bv,tv,pv]]) (λ_=>[ge h0,isX Tryz.prog,sI (sm i) (sl C i),lF QQ bv N bm B,lF Qu tv t.length tm (tl t),lF tlS pv P.length pm (pl P),lF Qp v11 C.length sm (sl C),sI sv (selS C a),slC cv cn 1 cf,lF Q1 fv (Vs C a) fm fx]) (λ_=>True) ?_ ?_
   ·refine d7r ?_
    (refine⟨(),trivial,?_,?_,?_⟩;(focus(repeat(first|exact Sub.nil _|refine Sub.cons rfl ?_)));(focus(repeat(first|exact Jb.nil _|(apply Jb.cons;(repeat(first|exact Rem.head|apply Rem.tail))))));(focus(repeat(first|exact Qz.nil|(apply Qz.cons;exact hsA)))))
   intro _ _;refine WC.seq ?_;refine WC.block ?_;refine WC.seq ?_;refine WC.YH (σ:=Unit) (λ_=>[(13,.int .i64 (i:Int)),(12,.bool (fnd C a (i))),(11,v11),(10,.int .i64 (Ke a)),(9,ptr g9),(8,.int .i64 mo),(7,ptr g7),(16,.int .i64 f)]) (λ_=>[Ow.cells g9 42 [sv,cv,fv],Ow.cells g7 35 [bv,tv,pv]]) (λ_=>[ge h0,isX Tryz.prog,sI (sm i) (sl C i),lF QQ bv N bm B,lF Qu tv t.length tm (tl t),lF tlS pv P.length pm (pl P),lF Qp v11 C.length sm (sl C),sI sv (selS C a),slC cv cn 1 cf,lF Q1 fv (Vs C a) fm fx]) (λ_=>True) ?_ ?_
   ·repeat'(first|intro(g:Nat)|refine d7 ?_|refine gN ?_ ?_|(refine cK (Z0 tv pv t P tm pm (sm i) (sl C i) qo hPs qo hcr qo) ?_;rintro _ _ _ ⟨_,rfl,rfl⟩;refine sNn ?_)|(refine cK (decide2_c ⟨bv,_,bm,_⟩ (scP N B t P (sl C i)) 1 f qd qd hsz1 hok1 hf0 hf16) ?_;rintro _ _ _ ⟨_,_,_,_,_,_,_,rfl,rfl,rfl⟩;refine sNn ?_)|intro v)
    all_goals(refine⟨(),trivial,?_,?_,?_⟩;(focus(repeat(first|exact Sub.nil _|refine Sub.cons rfl ?_)));(focus(repeat(first|exact Jb.nil _|(apply Jb.cons;(repeat(first|exact Rem.head|apply Rem.tail))))));(focus(repeat(first|exact Qz.nil|(apply Qz.cons;exact hsA)))))
   intro _ _;refine WC.seq ?_;refine WC.YH (σ:=Unit) (λ_=>[(13,.int .i64 (i:Int)),(12,.bool (fnd C a (i))),(11,v11),(10,.int .i64 (Ke a)),(9,ptr g9),(8,.int .i64 mo),(7,ptr g7),(16,.int .i64 f),(17,.bool (isA C i a))]) (λ_=>[Ow.cells g9 42 [sv,cv,fv],Ow.cells g7 35 [bv,tv,pv]]) (λ_=>[ge h0,isX Tryz.prog,sI (sm i) (sl C i),lF QQ bv N bm B,lF Qu tv t.length tm (tl t),lF tlS pv P.length pm (pl P),lF Qp v11 C.length sm (sl C),sI sv (selS C a),slC cv cn 1 cf,lF Q1 fv (Vs C a) fm fx]) (λ_=>True) ?_ ?_
   ·have c74:=YV (sm i) sv (sl C i) (selS C a);cases a with
    |none=>
     simp only[Ke,selS,Vs,isA];refine d7r ?_
     (refine⟨(),trivial,?_,?_,?_⟩;(focus(repeat(first|exact Sub.nil _|refine Sub.cons rfl ?_)));(focus(repeat(first|exact Jb.nil _|(apply Jb.cons;(repeat(first|exact Rem.head|apply Rem.tail))))));(focus(repeat(first|exact Qz.nil|(apply Qz.cons;exact hsA)))))
    |some c=>
     simp only[Ke,selS,Vs,isA] at c74 ⊢;refine d7r ?_;refine cV (c74) ?_;refine d7r ?_
     (refine⟨(),trivial,?_,?_,?_⟩;(focus(repeat(first|exact Sub.nil _|refine Sub.cons rfl ?_)));(focus(repeat(first|exact Jb.nil _|(apply Jb.cons;(repeat(first|exact Rem.head|apply Rem.tail))))));(focus(repeat(first|exact Qz.nil|(apply Qz.cons;exact hsA)))))
   intro _ _;refine WC.seq ?_;refine WC.YH (σ:=Unit) (λ_=>[(13,.int .i64 (i:Int)),(12,.bool (fnd C a (i+1))),(11,v11),(10,.int .i64 (Ke a)),(9,ptr g9),(8,.int .i64 mo),(7,ptr g7),(16,.int .i64 f)]) (λ_=>[Ow.cells g9 42 [sv,cv,fv],Ow.cells g7 35 [bv,tv,pv]]) (λ_=>[ge h0,isX Tryz.prog,sI (sm i) (sl C i),lF QQ bv N bm B,lF Qu tv t.length tm (tl t),lF tlS pv P.length pm (pl P),lF Qp v11 C.length sm (sl C),sI sv (selS C a),slC cv cn 1 cf,lF Q1 fv (Vs C a) fm fx]) (λ_=>True) ?_ ?_
   ·rw[hsn];generalize fnd C a i=fo;generalize isA C i a=is;cases fo
    ·refine d7r ?_
     (refine⟨(),trivial,?_,?_,?_⟩;(focus(repeat(first|exact Sub.nil _|refine Sub.cons rfl ?_)));(focus(repeat(first|exact Jb.nil _|(apply Jb.cons;(repeat(first|exact Rem.head|apply Rem.tail))))));(focus(repeat(first|exact Qz.nil|(apply Qz.cons;exact hsA)))))
    ·refine d7r ?_
     (refine⟨(),trivial,?_,?_,?_⟩;(focus(repeat(first|exact Sub.nil _|refine Sub.cons rfl ?_)));(focus(repeat(first|exact Jb.nil _|(apply Jb.cons;(repeat(first|exact Rem.head|apply Rem.tail))))));(focus(repeat(first|exact Qz.nil|(apply Qz.cons;exact hsA)))))
   intro _ _;have hbl:=hasP_le (sl C i);refine d7r ?_;refine WC.JK (σ:=Unit) (λ_=>[(13,.int .i64 (i:Int)),(12,.bool (fnd C a (i+1))),(11,v11),(10,.int .i64 (Ke a)),(9,ptr g9),(8,.int .i64 mo),(7,ptr g7),(16,.int .i64 f),(18,.int .i64 ((Fx.YR (selS C a) (sl C i):Nat):Int))]) (λ_=>[Ow.cells g9 42 [sv,cv,fv],Ow.cells g7 35 [bv,tv,pv]]) (λ_=>[ge h0,isX Tryz.prog,sI (sm i) (sl C i),lF QQ bv N bm B,lF Qu tv t.length tm (tl t),lF tlS pv P.length pm (pl P),lF Qp v11 C.length sm (sl C),sI sv (selS C a),slC cv cn 1 cf,lF Q1 fv (Vs C a) fm fx]) (λ_=>True) ?_ ?_
   ·refine WC.lp (σ:=Nat) (λk=>[(19,.int .i64 (k:Int)),(18,.int .i64 ((Fx.YR ((selS C a).take k) (sl C i):Nat):Int)),(13,.int .i64 (i:Int)),(12,.bool (fnd C a (i+1))),(11,v11),(10,.int .i64 (Ke a)),(9,ptr g9),(8,.int .i64 mo),(7,ptr g7),(16,.int .i64 f)]) (λ_=>[Ow.cells g9 42 [sv,cv,fv],Ow.cells g7 35 [bv,tv,pv]]) (λ_=>[ge h0,isX Tryz.prog,sI (sm i) (sl C i),lF QQ bv N bm B,lF Qu tv t.length tm (tl t),lF tlS pv P.length pm (pl P),lF Qp v11 C.length sm (sl C),sI sv (selS C a),slC cv cn 1 cf,lF Q1 fv (Vs C a) fm fx]) (λk=>k<=(selS C a).length) (λk=>(selS C a).length - k) 0 (Nat.zero_le _) ?_;intro k hk;have hb1:=hbl ((selS C a).take k);have hb2:((selS C a).take k).length<=8:=by rw[List.length_take];omega
    have hb3:=Nat.mul_le_mul hb2 hc8;by_cases dk:k < (selS C a).length
    ·have hu:=hasP_snoc (b:=sl C i) dk;refine d7r ?_;refine WC.lp (σ:=Nat) (λj=>[(20,.int .i64 (j:Int)),(19,.int .i64 (k:Int)),(18,.int .i64 ((Fx.YR ((selS C a).take k) (sl C i)+((sl C i).take j).count ((selS C a).getD k 0):Nat):Int)),(13,.int .i64 (i:Int)),(12,.bool (fnd C a (i+1))),(11,v11),(10,.int .i64 (Ke a)),(9,ptr g9),(8,.int .i64 mo),(7,ptr g7),(16,.int .i64 f)]) (λ_=>[Ow.cells g9 42 [sv,cv,fv],Ow.cells g7 35 [bv,tv,pv]]) (λ_=>[ge h0,isX Tryz.prog,sI (sm i) (sl C i),lF QQ bv N bm B,lF Qu tv t.length tm (tl t),lF tlS pv P.length pm (pl P),lF Qp v11 C.length sm (sl C),sI sv (selS C a),slC cv cn 1 cf,lF Q1 fv (Vs C a) fm fx]) (λj=>j<=(sl C i).length) (λj=>(sl C i).length - j) 0 (Nat.zero_le _) ?_;intro j hj;have hb4:=List.count_le_length (a:=(selS C a).getD k 0) (l:=(sl C i).take j);rw[List.length_take] at hb4;by_cases dj:j < (sl C i).length
     ·have hu2:=count_snoc (x:=(selS C a).getD k 0) dj;by_cases he:(sl C i).getD j 0=(selS C a).getD k 0
      ·rw[if_pos he] at hu2;refine d7r ?_;exact Qq.mk (j+1) qo qo (hE:=by rw[hu2];exact suA)
      ·rw[if_neg he] at hu2;refine d7r ?_;exact Qq.mk (j+1) qo qo (hE:=by rw[hu2];exact suA)
     ·obtain rfl:j=(sl C i).length:=qo;rw[List.take_length];refine d7r ?_;exact Qq.mk (k+1) qo qo (hE:=by rw[hu];exact suA)
    ·obtain rfl:k=(selS C a).length:=qo;rw[List.take_length];refine d7r ?_;exact Qr () trivial
   intro _ _;generalize hfo:fnd C a (i+1)=fo at *;cases fo
   ·obtain rfl:f=16:=hf16 (hf1 rfl);refine d7r ?_;exact Qq.mk (i+1) qo qo (hE:=by rw[hfo];exact suA)
   ·by_cases hq:Fx.YR (selS C a) (sl C i)=(selS C a).length
    ·obtain⟨c,hc⟩:∃ c,a=some c:=by
      cases a with
      |none=>exact absurd hfo Bool.false_ne_true
      |some c=>exact⟨c,rfl⟩
     obtain rfl:f=0:=hf0 (hQ c hc hq);refine d7r ?_;exact Qq.mk (i+1) qo qo (hE:=by rw[hfo];exact suA)
    ·have hq2:((Fx.YR (selS C a) (sl C i):Nat):Int)≠((selS C a).length:Int):=qo;refine d7r ?_;exact Qq.mk (i+1) qo qo (hE:=by rw[hfo];exact suA)
  ·obtain rfl:i=C.length:=qo;refine d7r ?_;exact Qr () trivial
 intro _ _;have c136:=lives_c;cases a with
 |none=>
  rw[hend];simp only[Ke];refine d7r ?_;refine cV (c136) ?_;refine d7r ?_;refine WC.ret ?_;exact Fin.v (Qf.t1 rfl rfl) meA rfl
 |some c=>
  rw[hend];simp only[Ke];refine d7r ?_;refine cV (c136) ?_;refine d7r ?_;refine WC.ret ?_;exact Fin.v (Qf.t1 rfl rfl) meA rfl
end Y
end Q
end K
end
end Go.Proofs.YtbnobghgnbockaaGreat
