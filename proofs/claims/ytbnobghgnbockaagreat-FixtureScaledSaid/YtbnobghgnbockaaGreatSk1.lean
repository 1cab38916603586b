/- The law FixtureScaled returns true for every input and leaves its arguments as they were. Conditions: none. -/
import Derived.Test.YtbnobghgnbockaaGreatZg42
import Derived.Test.YtbnobghgnbockaaGreatZg16
import Derived.Test.YtbnobghgnbockaaGreatZg17
import Derived.Test.YtbnobghgnbockaaGreatZg25
import Derived.Test.YtbnobghgnbockaaGreatZg26
import Derived.Test.YtbnobghgnbockaaGreatZg35
import Derived.Test.YtbnobghgnbockaaGreatZg36
import Derived.Test.YtbnobghgnbockaaGreatZg39
import Derived.Test.YtbnobghgnbockaaGreatZg40
import Derived.Test.YtbnobghgnbockaaGreatZg41
import Derived.Test.YtbnobghgnbockaaGreatRows
import Derived.Test.YtbnobghgnbockaaGreatZg34
import Derived.ProofKit
import Derived.ChangeSlices
import Derived.Conc.LeavingOf
import Derived.Test.YtbnobghgnbockaaGreatZg1
set_option linter.all false
set_option maxHeartbeats 32000000
set_option maxRecDepth 100000
namespace Go.Proofs.YtbnobghgnbockaaGreat
section
open W Go.RowKit
namespace Zn
section
variable (m1 m2:QM)(a b:Rat)
theorem rneg:FnB Tryz.prog 137 [qv m1] [] [isQ (qv m1) a] (IsR (-a)):=Yo (Rp.rqneg_c _ _)
end
end Zn
end
namespace Bl
open X
theorem rle{a b:Rat}(h:a=b):a<=b:=h ▸ Rat.le_refl
section
variable {S S':Sc}{w w' u v u' v':Nat->Rat}
theorem Bal.congr(h:Bal S w u v)(hu:∀k,k<2*S.m->u k=u' k/\v k=v' k)(hw:∀i,i<S.n->w i=w' i):Bal S w' u' v':=by
 refine⟨λk hk=>?_,λi hi=>?_⟩
 .rw[<-(hu k hk).1,<-(hu k hk).2];exact h.1 k hk
 .rw[<-hw i hi];have h2:=h.2 i hi;refine⟨?_,?_,?_,?_⟩
  .rw[<-h2.1];exact Qd λk hk=>by rw[(hu k hk).1,(hu k hk).2]
  .rw[<-h2.2.1];exact Qd λk hk=>by rw[(hu k hk).1,(hu k hk).2]
  .rw[<-h2.2.2.1];exact Qd λk hk=>by rw[(hu k hk).1,(hu k hk).2]
  .refine Rat.le_trans (rle ?_) h2.2.2.2;exact Qd λk hk=>by rw[(hu k hk).1]
theorem Bal.same(h:Bal S w u v)(hn:S'.n=S.n)(hm:S'.m=S.m)(hT:∀j,j<S.m->S'.T j=S.T j)(hB:∀i,i<S.n->(S'.B i).c=(S.B i).c/\(S.B i).st<=(S'.B i).st):Bal S' w u v:=by
 have hat:∀k,k<2*S.m->S'.at k=S.at k/\S'.T (k/2)=S.T (k/2):=λk hk=>by
  have:=hT (k/2) qo;unfold Sc.at;rw[this];exact⟨rfl,rfl⟩
 refine⟨λk hk=>?_,λi hi=>?_⟩
 .rw[hm] at hk;rw[(hat k hk).2];exact h.1 k hk
 .rw[hn] at hi;have h2:=h.2 i hi;rw[hm];refine⟨?_,?_,?_,?_⟩
  .rw[<-h2.1];exact Qd λk hk=>by rw[(hat k hk).2]
  .rw[<-h2.2.1];exact Qd λk hk=>by rw[(hat k hk).2]
  .rw[<-h2.2.2.1];exact Qd λk hk=>by rw[(hat k hk).2,(hat k hk).1,(hB i hi).1]
  .refine Rat.le_trans ?_ (hB i hi).2;refine Rat.le_trans (rle ?_) h2.2.2.2;exact Qd λk hk=>by rw[(hat k hk).2]
def mir(s:Rat)(a:Vc):Vc:=⟨s*a.x,a.y⟩
structure Mv(S S':Sc)(s k:Rat)(b:Vc):Prop where
 n:S'.n=S.n
 m:S'.m=S.m
 kp:0<k
 sq:s*s=1
 B:∀i,i<S.n->(S'.B i).c=⟨(mir s (S.B i).c).x+b.x,(mir s (S.B i).c).y+b.y⟩/\(S'.B i).st=(S.B i).st*k
 T:∀j,j<S.m->(S'.T j).a=(S.T j).a/\(S'.T j).b=(S.T j).b/\(S'.T j).r=(S.T j).r/\(S'.T j).n=mir s (S.T j).n/\(S'.T j).p=⟨(mir s (S.T j).p).x+b.x,(mir s (S.T j).p).y+b.y⟩/\(S'.T j).q=⟨(mir s (S.T j).q).x+b.x,(mir s (S.T j).q).y+b.y⟩
theorem ab_mir{s:Rat}(hs:s*s=1)(a:Rat):ab (s*a)=ab a:=by
 have:s=1\/s= -1:=by
  have h:(s-1)*(s+1)=0:=by grind
  rcases Rat.mul_eq_zero.1 h with h|h
  .exact .inl (by grind)
  .exact .inr (by grind)
 rcases this with rfl|rfl
 .rw[Rat.one_mul]
 .unfold ab;split<;>split<;>grind
theorem Mv.bal{s k:Rat}{b:Vc}(h:Mv S S' s k b)(hb:Bal S w u v):Bal S' (λi=>w i*k) (λj=>u j*k) (λj=>s*(v j*k)):=by
 have hk0:0<=k:=Rat.le_of_lt h.kp;have hT:=λj (hj:j<2*S.m)=>h.T (j/2) qo
 have hf:∀j i,j<2*S.m->on (S'.T (j/2)) i (frc (S'.T (j/2)) (u j*k) (s*(v j*k)))=⟨s*k*(on (S.T (j/2)) i (frc (S.T (j/2)) (u j) (v j))).x,k*(on (S.T (j/2)) i (frc (S.T (j/2)) (u j) (v j))).y⟩:=λj i hj=>by
  obtain⟨h1,h2,h3,h4,h5,h6⟩:=hT j hj;have hs:=h.sq;unfold on frc;rw[h1,h2,h4];unfold mir;simp only;split
  .exact congr (congrArg Vc.mk (by grind)) (by grind)
  .split
   .exact congr (congrArg Vc.mk (by grind)) (by grind)
   .exact congr (congrArg Vc.mk (by grind)) (by grind)
 have ha:∀j i,j<2*S.m->i<S.n->Jr (S'.at j) (S'.B i).c=mir s (Jr (S.at j) (S.B i).c):=λj i hj hi=>by
  obtain⟨h1,h2,h3,h4,h5,h6⟩:=hT j hj;unfold Jr Sc.at mir;rw[(h.B i hi).1];split
  .rw[h5];unfold mir;exact congr (congrArg Vc.mk (by grind)) (by grind)
  .rw[h6];unfold mir;exact congr (congrArg Vc.mk (by grind)) (by grind)
 refine⟨λj hj=>?_,λi hi=>?_⟩
 .rw[h.m] at hj;obtain⟨h1,h2,h3⟩:=hb.1 j hj;rw[(hT j hj).2.2.1];have e1:=Rat.mul_le_mul_of_nonneg_right h2 hk0;have e2:=Rat.mul_le_mul_of_nonneg_right h3 hk0
  have:s=1\/s= -1:=by
   have h0:(s-1)*(s+1)=0:=by have:=h.sq;grind
   rcases Rat.mul_eq_zero.1 h0 with h|h
   .exact .inl (by grind)
   .exact .inr (by grind)
  refine⟨Rat.mul_nonneg h1 hk0,?_,?_⟩<;>rcases this with rfl|rfl<;>grind
 .rw[h.n] at hi;obtain⟨h1,h2,h3,h4⟩:=hb.2 i hi;rw[h.m];refine⟨?_,?_,?_,?_⟩
  .rw[Qd λj hj=>by rw[hf j i hj],JH,h1];grind
  .rw[Qd λj hj=>by rw[hf j i hj],JH,h2];grind
  .rw[Qd (g:=λj=>s*k*JF (Jr (S.at j) (S.B i).c) (on (S.T (j/2)) i (frc (S.T (j/2)) (u j) (v j)))) λj hj=>by
    rw[hf j i hj,ha j i hj hi];unfold JF mir;simp only;grind,JH,h3];grind
  .rw[(h.B i hi).2];refine Rat.le_trans (rle ?_) (Rat.mul_le_mul_of_nonneg_right h4 hk0);rw[<-Xe];refine Qd λj hj=>?_;obtain⟨t1,t2,t3,t4,t5,t6⟩:=hT j hj;have ht:tch (S'.T (j/2)) i↔tch (S.T (j/2)) i:=by unfold tch;rw[t1,t2]
   have hsp:spn (S'.T (j/2)).n=spn (S.T (j/2)).n:=by rw[t4];unfold spn mir;rw[ab_mir h.sq]
   rw[hsp];by_cases c:tch (S.T (j/2)) i
   .rw[if_pos c,if_pos (ht.2 c)];grind
   .rw[if_neg c,if_neg (λx=>c (ht.1 x))];grind
theorem Mv.back{s k:Rat}{b:Vc}(h:Mv S S' s k b):Mv S' S s k⁻¹ ⟨-(s*b.x),-b.y⟩:=by
 have hs:=h.sq
 have hm:∀a:Vc,(⟨(mir s ⟨(mir s a).x+b.x,(mir s a).y+b.y⟩).x+ -(s*b.x),(mir s ⟨(mir s a).x+b.x,(mir s a).y+b.y⟩).y+ -b.y⟩:Vc)=a:=λa=>by
  unfold mir;simp only;obtain⟨x,y⟩:=a;exact congr (congrArg Vc.mk (by grind)) (by grind)
 have hk:k≠0:=λe=>by have:=h.kp;rw[e] at this;exact absurd this qd
 refine⟨h.n.symm,h.m.symm,Rat.inv_pos.2 h.kp,h.sq,λi hi=>?_,λj hj=>?_⟩
 .rw[h.n] at hi;rw[(h.B i hi).1,(h.B i hi).2];exact⟨(hm _).symm,by rw[Rat.mul_assoc,Rat.mul_inv_cancel _ hk,Rat.mul_one]⟩
 .rw[h.m] at hj;obtain⟨h1,h2,h3,h4,h5,h6⟩:=h.T j hj;refine⟨h1.symm,h2.symm,h3.symm,?_,?_,?_⟩
  .rw[h4];unfold mir;simp only;rw[<-Rat.mul_assoc,h.sq,Rat.one_mul]
  .rw[h5];exact(hm _).symm
  .rw[h6];exact(hm _).symm
end
end Bl
namespace Bl
open X
section
variable {S S':Sc}
theorem Mv.sat{s k:Rat}{b:Vc}(h:Mv S S' s k b)(hw:∀i,i<S.n->(S'.B i).lo=(S.B i).lo*k/\(S'.B i).hi=(S.B i).hi*k){c:Nat}(hs:Sat S c):Sat S' c:=by
 obtain⟨x,hx⟩:=hs;refine⟨λj=>if j%2=0 then x j*k else s*(x j*k),YQ.2 ((h.bal (YQ.1 hx)).congr (λj _=>⟨?_,?_⟩) λi hi=>?_)⟩
 .simp only[if_pos (show 2*j%2=0 by omega)]
 .simp only[if_neg (show ¬(2*j+1)%2=0 by omega)]
 .rw[h.n] at hi;unfold Sc.wt;rw[(hw i hi).1,(hw i hi).2];split<;>rfl
def mvB(s k:Rat)(b:Vc)(B:Bd):Bd:=⟨⟨(mir s B.c).x+b.x,(mir s B.c).y+b.y⟩,B.lo*k,B.hi*k,B.st*k⟩
def mvT(s:Rat)(b:Vc)(t:Tc):Tc:=⟨t.a,t.b,⟨(mir s t.p).x+b.x,(mir s t.p).y+b.y⟩,⟨(mir s t.q).x+b.x,(mir s t.q).y+b.y⟩,mir s t.n,t.r⟩
def mvS(s k:Rat)(b:Vc)(S:Sc):Sc:=⟨S.n,S.m,λi=>mvB s k b (S.B i),λj=>mvT s b (S.T j)⟩
theorem mv_is{s k:Rat}{b:Vc}(hk:0<k)(hs:s*s=1):Mv S (mvS s k b S) s k b:=⟨rfl,rfl,hk,hs,λ_ _=>⟨rfl,rfl⟩,λ_ _=>⟨rfl,rfl,rfl,rfl,rfl,rfl⟩⟩
theorem mv_sat{s k:Rat}{b:Vc}(hk:0<k)(hs:s*s=1)(c:Nat):Sat (mvS s k b S) c↔Sat S c:=by
 have h:=mv_is (S:=S) (b:=b) hk hs;have k0:k≠0:=λe=>by rw[e] at hk;exact absurd hk qd
 refine⟨h.back.sat λi hi=>?_,h.sat λi hi=>⟨rfl,rfl⟩⟩;show(S.B i).lo=(S.B i).lo*k*k⁻¹/\(S.B i).hi=(S.B i).hi*k*k⁻¹;rw[Rat.mul_assoc,Rat.mul_assoc,Rat.mul_inv_cancel _ k0,Rat.mul_one,Rat.mul_one];exact⟨rfl,rfl⟩
theorem FC{s:Rat}(hs:s=1\/s= -1){D A:Nat}{a:Vc}(h:Fv D A a):Fv D A (mir s a):=by
 unfold mir;rcases hs with rfl|rfl
 .exact⟨by show Fr D A (1*a.x);rw[Rat.one_mul];exact h.1,h.2⟩
 .exact⟨by show Fr D A (-1*a.x);rw[show -1*a.x= -a.x by grind];exact h.1.neg,h.2⟩
end
end Bl
namespace Bl
open X
theorem Bal.lt{S S':Sc}{w u v:Nat->Rat}(hn:S'.n=S.n)(hm:S'.m=S.m)(hB:∀i,i<S.n->S'.B i=S.B i)(hT:∀j,j<S.m->S'.T j=S.T j)(h:Bal S w u v):Bal S' w u v:=
 Bal.same h hn hm hT λi hi=>⟨by rw[hB i hi],by rw[hB i hi];exact Rat.le_refl⟩
theorem HW{S S':Sc}{c:Nat}(hn:S'.n=S.n)(hm:S'.m=S.m)(hB:S'.B=S.B)(hT:∀j,j<S.m->S'.T j=S.T j)(h:Sat S c):Sat S' c:=by
 obtain⟨x,hx⟩:=h;refine⟨x,YQ.2 ?_⟩;have:=Bal.lt hn hm (λi _=>by rw[hB]) hT (YQ.1 hx);exact this.congr (λk _=>⟨rfl,rfl⟩) λi hi=>by unfold Sc.wt;rw[hB]
end Bl
namespace Fx
open Bl
theorem ZD(f:Tc->Tc)(t:List Tc)(props:List (List Tc))(s:List Int):Qe (t.map f) (props.map (List.map f)) s=(Qe t props s).map f:=by
 unfold Qe;rw[List.map_append,List.map_flatMap]
 congr 1
 rw[List.flatMap_def,List.flatMap_def]
 congr 1
 refine List.map_congr_left λx _=>?_;rw[List.getD_eq_getElem?_getD,List.getD_eq_getElem?_getD,List.getElem?_map];cases props[x.toNat]?<;>rfl
theorem cand_map(f:Tc->Tc)(t:List Tc)(props:List (List Tc))(m:Int):Qc (t.map f) (props.map (List.map f)) m=Qc t props m:=by
 unfold Qc;rw[List.length_map];refine List.filter_congr λs _=>?_;rw[ZD,List.length_map]
theorem scL_mv{n:Nat}{B:Nat->Bd}{t0:Tc}{L:List Tc}{s k:Rat}{b:Vc}(k0:0<k)(hs:s*s=1)(c:Nat):Sat (scL n (λi=>mvB s k b (B i)) t0 (L.map (mvT s b))) c↔Sat (scL n B t0 L) c:=by
 have h:=mv_sat (S:=scL n B t0 L) (b:=b) k0 hs c
 have hT:∀j,j<L.length->(L.map (mvT s b)).getD j t0=mvT s b (L.getD j t0):=λj hj=>by
  rw[List.getD_eq_getElem?_getD,List.getD_eq_getElem?_getD,List.getElem?_map,List.getElem?_eq_getElem hj];rfl
 constructor
 .intro h1;refine h.1 (HW (S:=scL n (λi=>mvB s k b (B i)) t0 (L.map (mvT s b))) (S':=mvS s k b (scL n B t0 L)) rfl ?_ rfl (λj hj=>?_) h1)
  .show L.length=(L.map (mvT s b)).length;rw[List.length_map]
  .have hj:j<(L.map (mvT s b)).length:=hj;exact(hT j (by rwa [List.length_map] at hj)).symm
 .intro h1;refine HW (S:=mvS s k b (scL n B t0 L)) (S':=scL n (λi=>mvB s k b (B i)) t0 (L.map (mvT s b))) rfl ?_ rfl (λj hj=>?_) (h.2 h1)
  .show(L.map (mvT s b)).length=L.length;rw[List.length_map]
  .exact hT j hj
theorem Q7.mv{n:Nat}{B:Nat->Bd}{t0:Tc}{L:List Tc}{s k:Rat}{b:Vc}(k0:0<k)(hs:s*s=1):Q7 n (λi=>mvB s k b (B i)) t0 (L.map (mvT s b))↔Q7 n B t0 L:=
 ⟨λh c hc=>(scL_mv k0 hs c).1 (h c hc),λh c hc=>(scL_mv k0 hs c).2 (h c hc)⟩
end Fx
namespace Fx
open Bl
section
variable {C D:List (List Int)}{P Q:List Int->Prop}{a b:Option Nat}
theorem Ans.eq(h1:Ans C P a)(h2:Ans C P b):a=b:=by
 cases a with
 |none=>cases b with
  |none=>rfl
  |some j=>exact(Jf.none h2 h1).elim
 |some i=>cases b with
  |none=>exact(Jf.none h1 h2).elim
  |some j=>rw[Jf.eq h1 h2]
theorem Ans.congr(h:∀s∈C,P s↔Q s)(h1:Ans C P a):Ans C Q a:=by
 cases a with
 |none=>exact λj hj hq=>h1 j hj ((h _ (YP hj)).2 hq)
 |some i=>
  obtain⟨h2,h3,h4⟩:=h1;exact⟨h2,(h _ (YP h2)).1 h3,λj hj hq=>h4 j hj ((h _ (YP (Nat.lt_trans hj h2))).2 hq)⟩
end
section
variable {n:Nat}{B:Nat->Bd}{t0:Tc}{t p:List Tc}{ps:List (List Tc)}{m:Int}{a b:Option Nat}
theorem scaled_same{s k:Rat}{v:Vc}(k0:0<k)(hs:s*s=1)(h1:Ans (Qc t ps m) (StP n B t0 t ps) a)(h2:Ans (Qc (t.map (mvT s v)) (ps.map (List.map (mvT s v))) m) (StP n (λi=>mvB s k v (B i)) t0 (t.map (mvT s v)) (ps.map (List.map (mvT s v)))) b):a=b/\Qc (t.map (mvT s v)) (ps.map (List.map (mvT s v))) m=Qc t ps m:=by
 have e:=cand_map (mvT s v) t ps m;refine⟨?_,e⟩;rw[e] at h2;refine Ans.eq h1 (h2.congr λu _=>?_);show Q7 n _ t0 _↔Q7 n B t0 _;rw[ZD];exact Q7.mv k0 hs
end
end Fx
namespace Fx
open Bl
section
variable {n:Nat}{B:Nat->Bd}{t0:Tc}{L:List Tc}
theorem mvB_ok{s k:Rat}{b:Vc}{x:Bd}(hk:0<k)(h:BdOk x):BdOk (mvB s k b x):=by
 obtain⟨h1,h2,h3⟩:=h;exact⟨Rat.mul_pos h1 hk,Rat.mul_le_mul_of_nonneg_right h2 (Rat.le_of_lt hk),Rat.mul_pos h3 hk⟩
theorem mvT_ok{s:Rat}{b:Vc}{x:Tc}(hs:s*s=1)(h:YE n x):YE n (mvT s b x):=by
 obtain⟨h1,h2,h3,h4,h5,h6,h7,h8⟩:=h;refine⟨h1,h2,h3,h4,h5,h6,λhz=>h7 ⟨?_,hz.2⟩,?_⟩
 .have e:s*x.n.x=0:=hz.1;have:s*(s*x.n.x)=0:=by rw[e];grind
  rw[<-Rat.mul_assoc,hs] at this;grind
 .show s*x.n.x*(s*x.q.x+b.x-(s*x.p.x+b.x))+x.n.y*(x.q.y+b.y-(x.p.y+b.y))=0;have e:s*x.n.x*(s*x.q.x+b.x-(s*x.p.x+b.x))=s*s*(x.n.x*(x.q.x-x.p.x)):=by grind
  rw[e,hs];grind
end
section
variable {s k:Rat}{b:Vc}{D A:Nat}
theorem mvV_fr{v:Vc}(hs:s=1\/s= -1)(hb:Fv 1 10 b)(hA:D<=A)(h:Fv D A v):Fv (D*6) (A*66) ⟨(mir s v).x+b.x,(mir s v).y+b.y⟩:=by
 have ea:∀{q r:Rat},Fr D A q->Fr 1 10 r->Fr (D*6) (A*66) (q+r):=λh h2=>((h.sc 6).add (h2.sc' (E:=D*6) (B:=10*(D*6)) (c:=D*6) qo qo)).up qo;exact⟨ea (FC hs h).1 hb.1,ea (FC hs h).2 hb.2⟩
theorem mvB_fr{x:Bd}(hs:s=1\/s= -1)(hk:Fr 6 66 k)(hb:Fv 1 10 b)(hA:D<=A)(h:BdF D A x):BdF (D*6) (A*66) (mvB s k b x):=
 ⟨mvV_fr hs hb hA h.1,h.2.1.mul hk,h.2.2.1.mul hk,h.2.2.2.mul hk⟩
theorem mvT_fr{x:Tc}(hs:s=1\/s= -1)(hb:Fv 1 10 b)(hA:D<=A)(h:TcF D A x):TcF (D*6) (A*66) (mvT s b x):=by
 have e1:∀{q:Rat},Fr D A q->Fr (D*6) (A*66) q:=λh=>h.sc' rfl qo;exact⟨mvV_fr hs hb hA h.1,mvV_fr hs hb hA h.2.1,⟨e1 (FC hs h.2.2.1).1,e1 (FC hs h.2.2.1).2⟩,e1 h.2.2.2⟩
end
theorem map_all{P Q:Tc->Prop}{f:Tc->Tc}{L:List Tc}(h:∀x∈L,P x)(hf:∀x,P x->Q (f x)):∀x∈L.map f,Q x:=by
 intro x hx;obtain⟨y,hy,rfl⟩:=List.mem_map.1 hx;exact hf y (h y hy)
theorem case_mv(l deal:List Int)(t0:Tc){u:List Int}{s k:Rat}{b:Vc}(k0:0<k)(hs:s=1\/s= -1)(hk:Fr 6 66 k)(hb:Fv 1 10 b)(hl:(Qe (JP l deal) (Jo l deal) u).length<=10) :
  (scL (Jn l) (λi=>mvB s k b ((QL l).B i)) t0 (Qe ((JP l deal).map (mvT s b)) ((Jo l deal).map (List.map (mvT s b))) u)).ok/\Fs 720 316800 (scL (Jn l) (λi=>mvB s k b ((QL l).B i)) t0 (Qe ((JP l deal).map (mvT s b)) ((Jo l deal).map (List.map (mvT s b))) u)):=by
 have hs2:s*s=1:=by rcases hs with rfl|rfl<;>decide +kernel
 obtain⟨h1,h2⟩:=KF l deal;have h3:=YF h1 h2 u;have hn:=ZF l;have hi:∀i,i<Jn l->i<(QL l).n:=λi h=>by unfold Jn at h;omega
 rw[ZD];refine⟨Dy qo (by rw[List.length_map];exact hl) (λi h=>mvB_ok k0 ((VY l).B i (hi i h))) (map_all h3 λx hx=>mvT_ok hs2 hx.1),HV (λi h=>?_) (map_all h3 λx hx=>mvT_fr (D:=120) (A:=4800) hs hb qd hx.2)⟩;obtain⟨a,b',c,d⟩:=(Ua l).B i (hi i h);exact mvB_fr (D:=120) (A:=4800) hs hk hb qd ⟨⟨a.1.sc 2,a.2.sc 2⟩,b'.sc 2,c.sc 2,d.sc 2⟩
end Fx
section
open W Go.RowKit
open Bl (Vc Bd Tc Sc)
section
variable {e:Env}{bx bx':List Ow}{F:List Fct}{ty t el:TypeId}{x y z u r s:Operand}{v w:Value}{K:Qf}{tm:ToM}{tc:Tc}{bm:BM}{b:Bd}{v1 v2 v3:VM}{n1 n2 n3:QM}{A B:Int}{n m:Nat}
theorem LO.appTx{el':TypeId}{ms:Nat->ToM}{xs:Nat->Tc}{bx2:Value->List Ow}(hx:ev e x=some v)(hy:ev e y=some w)(hu:Ow.slice w el' 30 (tcs tm (xs n))∈bx)(hm:Has F (fT tm (xs n)))(hs:∀v',Sel bx (lO Qz v 93 n ms xs) (lO Qz v' 93 (n+1) (upd ms n tm) xs) (bx2 v'))(hl:n<=1000000)(h:∀v',K v' (bx2 v') F) :
  LO Tryz.prog (.call {callee:=.builtin .append,args:=#[x,y],argTypes:=#[32,32]}) ty e bx F K:=
 LO.appG (S:=Qz) (c:=1) T.e32 hx hy hu (JD (S:=Qz) (mm:=tm)) rfl (Uk hm) hs qd qd hl qd h
end
namespace K
namespace Q
attribute [local irreducible] WC WL WD YO LO Qq W.Fin Qv Qh Qj Row QV Qy KnS Has W.One Qp QJ
theorem d59{G G':Prop}(h:G')(s:Bx G'->G:=by
 intro h;first|refine gF ?_|(apply WC.draw (id:=2) [0,1,3,4,5] (.h 0<|.h 1<|.h 3<|.h 4<|.l 2<|.h 5<|.l 6 .done) mixed kr)|fail
 exact Bx.h h):G:=s ⟨h⟩
theorem turned_c(m:VM)(a:Vc)(b:Bool):FnB Tryz.prog 59 [vv m,.bool b] [] [fV m a] (H0 (Bl.mir (if b=true then -1 else 1) a)):=by
 refine fO [(0,(vv m)),(1,(.bool b))] 13 Tryz.func59 Tryz.ntmps59 λh0=>?_;refine WC.fact (isQ (qv m.1) a.x) (W.Has.vx (m:=m) hmA) ?_;refine WC.fact (isQ (qv m.2) a.y) (W.Has.vy (m:=m) hmA) ?_;cases b with
 |true=>
  have e:Bl.mir (if true=true then -1 else 1) a=⟨-a.x,a.y⟩:=by unfold Bl.mir;rw[if_pos rfl];exact congr (congrArg Vc.mk (by grind)) rfl
  rw[e];repeat'(first|intro(g:Nat)|refine d59 ?_|intro v)
  refine cW (Zn.rneg m.1 a.x) λn1=>?_;repeat'(first|intro(g:Nat)|refine d59 ?_|intro v)
  refine WC.ret ?_;exact Fp [fV (n1,m.2) ⟨-a.x,a.y⟩] (rcV T.r77) (.cons (W.Has.vof (m:=(n1,m.2)) (a:=⟨-a.x,a.y⟩) hmA hmA) .nil) ⟨(n1,m.2),rfl,rfl,rfl⟩
 |false=>
  have e:Bl.mir (if false=true then -1 else 1) a=a:=by unfold Bl.mir;rw[if_neg qd,Rat.one_mul]
  rw[e];repeat'(first|intro(g:Nat)|refine d59 ?_|intro v)
  refine WC.ret ?_;exact Fp [fV m a] (rcV T.r77) haA ⟨m,rfl,rfl,rfl⟩
end Q
end K
theorem mir_sq{s:Rat}(hs:s=1\/s= -1){a:Vc}{K:Nat}(h:Sv K a):Sv K (Bl.mir s a):=by
 unfold Bl.mir;rcases hs with rfl|rfl
 .exact⟨by show Sq K (1*a.x);rw[Rat.one_mul];exact h.1,h.2⟩
 .exact⟨by show Sq K (-1*a.x);rw[show -1*a.x= -a.x by grind];exact h.1.neg,h.2⟩
namespace K
namespace Q
attribute [local irreducible] WC WL WD YO LO Qq W.Fin Qv Qh Qj Row QV Qy KnS Has W.One Qp QJ
theorem d31{G G':Prop}(h:G')(s:Bx G'->G:=by
 intro h;first|refine gF ?_|refine Vh ?_|(apply WC.draw (id:=6) [0,1,2,3,4,6,8,9,10,12,13,14,16,17,18,20] (.h 0<|.h 1<|.h 2<|.h 3<|.h 4<|.h 6<|.h 8<|.h 9<|.h 10<|.h 12<|.h 13<|.h 14<|.h 16<|.h 17<|.h 18<|.l 5<|.l 7<|.l 11<|.l 15<|.l 19<|.h 20<|.l 21<|.l 22<|.f 23<|.l 24 .done) mixed kr)|(apply WC.draw (id:=11) [0,1,2,3,4,5,6,7,8,10,12,13,14,16,18,19,20,22,23,24] (.h 0<|.h 1<|.h 2<|.h 3<|.h 4<|.h 5<|.h 6<|.h 7<|.h 8<|.h 10<|.h 12<|.h 13<|.h 14<|.h 16<|.h 18<|.h 19<|.h 20<|.h 22<|.h 23<|.l 9<|.l 11<|.l 15<|.l 17<|.l 21<|.h 24<|.l 25<|.l 26<|.f 27<|.l 28 .done) mixed kr)|fail
 exact Bx.h h):G:=s ⟨h⟩
theorem mirroredN_c(M:SM)(S:Sc)(b:Bool)(mb:VM)(mk:QM)(by_:Vc)(k:Rat)(hs:Ss 1 S)(hn:S.n<=5)(hm:S.m<=10)(hb:Sv 1 by_)(hk:Sq 1 k) :
  FnB Tryz.prog 31 [.agg #[M.l,M.t],.bool b,vv mb,qv mk] [] [fSl M S,fSt M S,fV mb by_,isQ (qv mk) k] (IsScv (Bl.mvS (if b=true then -1 else 1) k by_ S)):=by
 refine fO [(0,(.agg #[M.l,M.t])),(1,(.bool b)),(2,(vv mb)),(3,(qv mk))] 91 Tryz.func31 Tryz.ntmps31 λh0=>?_;have htn:=λm a=>turned_c m a b;have hs1:(if b=true then(-1:Rat) else 1)=1\/(if b=true then(-1:Rat) else 1)= -1:=by cases b;exact .inl rfl;exact .inr rfl
 generalize (if b=true then(-1:Rat) else 1)=s at *;repeat'(first|intro(g:Nat)|refine d31 ?_|intro v)
 revert g;intro g9;revert g;intro g8;revert g;intro g7;revert g;intro g6;revert g;intro g4;refine WC.keep (g:=g4) (t:=53) (cs:=[M.l,M.t]) wq9 ?_;refine WC.keep (g:=g6) (t:=77) (cs:=vcs mb) wq9 ?_;refine WC.keep (g:=g7) (t:=75) (cs:=qcs mk) wq9 ?_;refine WC.QP 88 20 ?_;refine WC.JS (σ:=Value×(Nat->BM)) (λst=>[(4,ptr g4),(6,ptr g6),(7,ptr g7),(9,ptr g9),(8,ptr g8),(1,.bool b)]) (λst=>[lO Qo st.1 88 S.n st.2 (λi=>Bl.mvB s k by_ (S.B i)),Ow.cells g9 53 [st.1,.slice none 0 0],Ow.cells g8 53 [.slice none 0 0,.slice none 0 0]]) (λst=>[lM Qo S.n st.2 (λi=>Bl.mvB s k by_ (S.B i)),ce g4 53 [M.l,M.t],ce g6 77 (vcs mb),ce g7 75 (qcs mk),fV mb by_,isQ (qv mk) k,ge h0,fSl M S,fSt M S]) (λ_=>True) ?_ ?_
 .refine WC.lp (σ:=Nat×Value×(Nat->BM)) (λst=>[(10,.int .i64 (st.1:Int)),(4,ptr g4),(6,ptr g6),(7,ptr g7),(9,ptr g9),(8,ptr g8),(1,.bool b)]) (λst=>[lO Qo st.2.1 88 st.1 st.2.2 (λi=>Bl.mvB s k by_ (S.B i)),Ow.cells g9 53 [st.2.1,.slice none 0 0],Ow.cells g8 53 [.slice none 0 0,.slice none 0 0]]) (λst=>[lM Qo st.1 st.2.2 (λi=>Bl.mvB s k by_ (S.B i)),ce g4 53 [M.l,M.t],ce g6 77 (vcs mb),ce g7 75 (qcs mk),fV mb by_,isQ (qv mk) k,ge h0,fSl M S,fSt M S]) (λst=>st.1<=S.n) (λst=>S.n-st.1) (0,.slice none 0 0,λ_=>⟨(m00,m00),m00,m00,m00⟩) (Nat.zero_le _) ?_ (hG:=.cons W.Has.Z3 haA);rintro⟨i,bl,mB⟩ hi;simp only at hi ⊢;by_cases d:i<S.n
  .obtain⟨z1,z2,z3,z4⟩:=hs.B i d;refine WC.fact (fB (M.B i) (S.B i)) (W.Has.lk (S:=Qo) (v:=M.l) hmA d) ?_;refine WC.fact (fV (M.B i).c (S.B i).c) (W.Has.bc (bm:=M.B i) hmA) ?_;refine WC.fact (isQ (qv (M.B i).lo) (S.B i).lo) (W.Has.bl (bm:=M.B i) hmA) ?_;refine WC.fact (isQ (qv (M.B i).hi) (S.B i).hi) (W.Has.bh (bm:=M.B i) hmA) ?_;refine WC.fact (isQ (qv (M.B i).st) (S.B i).st) (W.Has.bs (bm:=M.B i) hmA) ?_;repeat'(first|intro(g:Nat)|refine d31 ?_|intro v)
   refine cW (htn (M.B i).c (S.B i).c) λm31=>?_;repeat'(first|intro(g:Nat)|refine d31 ?_|intro v)
   refine cW (Zj m31 mb (Bl.mir s (S.B i).c) by_ 1 qd (mir_sq hs1 z1) hb) λm33=>?_;repeat'(first|intro(g:Nat)|refine d31 ?_|intro v)
   refine cW (Zn.rmul (M.B i).lo mk (S.B i).lo k (z2.sm qd) (hk.sm qd)) λn37=>?_;repeat'(first|intro(g:Nat)|refine d31 ?_|intro v)
   refine cW (Zn.rmul (M.B i).hi mk (S.B i).hi k (z3.sm qd) (hk.sm qd)) λn41=>?_;repeat'(first|intro(g:Nat)|refine d31 ?_|intro v)
   refine cW (Zn.rmul (M.B i).st mk (S.B i).st k (z4.sm qd) (hk.sm qd)) λn45=>?_;refine WD.fact (fB ⟨m33,n37,n41,n45⟩ (Bl.mvB s k by_ (S.B i))) (W.Has.bof (bm:=⟨m33,n37,n41,n45⟩) (b:=Bl.mvB s k by_ (S.B i)) hmA hmA hmA hmA) ?_;repeat'(first|intro(g:Nat)|refine d31 ?_|intro v)
   revert v;intro v47;refine WD.l rfl rfl rfl (LO.appBd (bm:=⟨m33,n37,n41,n45⟩) (n:=i) (ms:=mB) (xs:=(λi=>Bl.mvB s k by_ (S.B i))) rfl rfl meA hmA (λv'=>by repeat(first|exact Sel.head|apply Sel.tail)) qo λbl2=>?_);refine⟨.inl kr,?_⟩;refine WD.fy rfl (YO.Jb T.Gl rfl qr) qr qr ?_;repeat'(first|intro(g:Nat)|refine d31 ?_|intro v)
   exact Qq.mk (i+1,bl2,upd mB i ⟨m33,n37,n41,n45⟩) wq18 wq18 (hG:=.cons (W.Has.YU (S:=Qo) (n:=i) (ms:=mB) (xs:=(λi=>Bl.mvB s k by_ (S.B i))) (mm:=⟨m33,n37,n41,n45⟩) hmA hmA) haA)
  .obtain rfl:i=S.n:=qo;repeat'(first|intro(g:Nat)|refine d31 ?_|intro v)
   exact Qs (bl,mB) trivial
 rintro⟨bl,mB⟩ _;simp only;refine WC.QY (S:=Qo) (v:=bl) (n:=S.n) (ms:=mB) (xs:=(λi=>Bl.mvB s k by_ (S.B i))) wq3 hmA ?_;refine WC.QP 93 30 ?_;repeat'(first|intro(g:Nat)|refine d31 ?_|intro v)
 refine WC.JS (σ:=Value×(Nat->ToM)) (λst=>[(4,ptr g4),(6,ptr g6),(7,ptr g7),(9,ptr g9),(8,ptr g8),(1,.bool b)]) (λst=>[lO Qz st.1 93 S.m st.2 (λj=>Bl.mvT s by_ (S.T j)),Ow.cells g9 53 [bl,st.1],Ow.cells g8 53 [.slice none 0 0,.slice none 0 0]]) (λst=>[lM Qz S.m st.2 (λj=>Bl.mvT s by_ (S.T j)),lF Qo bl S.n mB (λi=>Bl.mvB s k by_ (S.B i)),ce g4 53 [M.l,M.t],ce g6 77 (vcs mb),ce g7 75 (qcs mk),fV mb by_,isQ (qv mk) k,ge h0,fSl M S,fSt M S]) (λ_=>True) ?_ ?_
 .refine WC.lp (σ:=Nat×Value×(Nat->ToM)) (λst=>[(12,.int .i64 (st.1:Int)),(4,ptr g4),(6,ptr g6),(7,ptr g7),(9,ptr g9),(8,ptr g8),(1,.bool b)]) (λst=>[lO Qz st.2.1 93 st.1 st.2.2 (λj=>Bl.mvT s by_ (S.T j)),Ow.cells g9 53 [bl,st.2.1],Ow.cells g8 53 [.slice none 0 0,.slice none 0 0]]) (λst=>[lM Qz st.1 st.2.2 (λj=>Bl.mvT s by_ (S.T j)),lF Qo bl S.n mB (λi=>Bl.mvB s k by_ (S.B i)),ce g4 53 [M.l,M.t],ce g6 77 (vcs mb),ce g7 75 (qcs mk),fV mb by_,isQ (qv mk) k,ge h0,fSl M S,fSt M S]) (λst=>st.1<=S.m) (λst=>S.m-st.1) (0,.slice none 0 0,λ_=>⟨(m00,m00),(m00,m00),(m00,m00),m00⟩) (Nat.zero_le _) ?_ (hG:=.cons W.Has.Z3 haA);rintro⟨j,tl,mT⟩ hj;simp only at hj ⊢;by_cases d:j<S.m
  .obtain⟨z1,z2,z3,z4⟩:=hs.T j d;refine WC.fact (fT (M.T j) (S.T j)) (W.Has.lk (S:=Qz) (v:=M.t) hmA d) ?_;refine WC.fact (fV (M.T j).p (S.T j).p) (W.Has.tp (tm:=M.T j) hmA) ?_;refine WC.fact (fV (M.T j).q (S.T j).q) (W.Has.tq (tm:=M.T j) hmA) ?_;refine WC.fact (fV (M.T j).n (S.T j).n) (W.Has.tn (tm:=M.T j) hmA) ?_;refine WC.fact (isQ (qv (M.T j).r) (S.T j).r) (W.Has.trr (tm:=M.T j) hmA) ?_;repeat'(first|intro(g:Nat)|refine d31 ?_|intro v)
   refine cW (htn (M.T j).p (S.T j).p) λm71=>?_;repeat'(first|intro(g:Nat)|refine d31 ?_|intro v)
   refine cW (Zj m71 mb (Bl.mir s (S.T j).p) by_ 1 qd (mir_sq hs1 z1) hb) λm73=>?_;repeat'(first|intro(g:Nat)|refine d31 ?_|intro v)
   refine cW (htn (M.T j).q (S.T j).q) λm77=>?_;repeat'(first|intro(g:Nat)|refine d31 ?_|intro v)
   refine cW (Zj m77 mb (Bl.mir s (S.T j).q) by_ 1 qd (mir_sq hs1 z2) hb) λm79=>?_;repeat'(first|intro(g:Nat)|refine d31 ?_|intro v)
   refine cW (htn (M.T j).n (S.T j).n) λm83=>?_;refine WD.fact (fT ⟨m73,m79,m83,(M.T j).r⟩ (Bl.mvT s by_ (S.T j))) (W.Has.tof (tm:=⟨m73,m79,m83,(M.T j).r⟩) (t:=Bl.mvT s by_ (S.T j)) hmA hmA hmA hmA) ?_;repeat'(first|intro(g:Nat)|refine d31 ?_|intro v)
   revert v;intro v87;refine WD.l rfl rfl rfl (LO.appTx (tm:=⟨m73,m79,m83,(M.T j).r⟩) (n:=j) (ms:=mT) (xs:=(λj=>Bl.mvT s by_ (S.T j))) rfl rfl meA hmA (λv'=>by repeat(first|exact Sel.head|apply Sel.tail)) qo λtl2=>?_);refine⟨.inl kr,?_⟩;refine WD.fy rfl (YO.Jb T.V8 rfl qr) qr qr ?_;repeat'(first|intro(g:Nat)|refine d31 ?_|intro v)
   exact Qq.mk (j+1,tl2,upd mT j ⟨m73,m79,m83,(M.T j).r⟩) wq18 wq18 (hG:=.cons (W.Has.YU (S:=Qz) (n:=j) (ms:=mT) (xs:=(λj=>Bl.mvT s by_ (S.T j))) (mm:=⟨m73,m79,m83,(M.T j).r⟩) hmA hmA) haA)
  .obtain rfl:j=S.m:=qo;repeat'(first|intro(g:Nat)|refine d31 ?_|intro v)
   exact Qs (tl,mT) trivial
 rintro⟨tl,mT⟩ _;simp only;refine WC.QY (S:=Qz) (v:=tl) (n:=S.m) (ms:=mT) (xs:=(λj=>Bl.mvT s by_ (S.T j))) wq3 hmA ?_;repeat'(first|intro(g:Nat)|refine d31 ?_|intro v)
 refine WC.ret ?_;exact Fp [lF Qo bl S.n mB (λi=>Bl.mvB s k by_ (S.B i)),lF Qz tl S.m mT (λj=>Bl.mvT s by_ (S.T j))] (rcV T.r53) haA ⟨⟨bl,tl,mB,mT⟩,rfl,rfl,rfl⟩
end Q
end K
section
variable {e:Env}{bx:List Ow}{F:List Fct}{ty:TypeId}{v w:Value}{x y:Operand}{K:Qf}{P:List (List Tc)}{pm:Nat->Value×(Nat->ToM)}
theorem LO.bsP1{n:Nat}(hx:ev e x=some w)(hw:KnS bx F w n)(h:∀v,K v (Ow.slice v 32 1 [w]::bx) F):LO Tryz.prog (.buildSlice 33 1 #[(0,x)]) ty e bx F K:=by
 refine LO.byP (p:=∃a c,w=.slice a n c) (λfr w' ho=>?_) ?_
 .obtain⟨a1,c1,h1,_⟩:=(hw fr w' ho).is;exact⟨a1,c1,h1⟩
 rintro⟨a',c,rfl⟩;exact LO.buildSlice (el:=32) (sz:=1) (parts:=[(0,x)]) (us:=[.slice a' n c]) (cs:=[.slice a' n c]) (.cons hx .nil) (λ_=>by kernel_rfl) rfl qd h
theorem one_p{q:List Tc}{m:Value×(Nat->ToM)}(h:W.Has F (lF Qz m.1 q.length m.2 (tl q))):QA bx F (tlS.cs m q):=.cons (One.sl (KnS.lf (S:=Qz) h)) .nil
theorem LO.appP1{el':TypeId}{u:Value}{q:List Tc}{tm:Nat->ToM}{bx2:Value->List Ow}(hx:ev e x=some v)(hy:ev e y=some u)(hu:Ow.slice u el' 1 [w]∈bx)(hw:W.Has F (lF Qz w q.length tm (tl q)))(hs:∀v',Sel bx (lO tlS v 32 P.length pm (pl P)) (lO tlS v' 32 (P++[q]).length (upd pm P.length (w,tm)) (pl (P++[q]))) (bx2 v'))(hl:P.length<=1000000)(h:∀v',K v' (bx2 v') F) :
  LO Tryz.prog (.call {callee:=.builtin .append,args:=#[x,y],argTypes:=#[33,33]}) ty e bx F K:=
 LO.appL (S:=tlS) (ms:=pm) (xs:=pl P) (n:=P.length) (mm:=(w,tm)) (aa:=q) T.e33 hx hy hu (one_p (m:=(w,tm)) hw) (λv'=>by rw[FH];exact hs v') qd qd hl h
end
end
section
open Go.ChangeShapes Go.WideShapes Go.ChangeAt Go.RowKit
open W
section
variable {H:Type}{enc:TypeId×Value->H}{P:Program}{V1:World}
theorem arg_bool{t:TypeId}{b0:Nat}{v:Value}{d:DataW H}{p:List MemPlace}(ht:P.underlying t=some .bool)(hv:Value.okWide P V1 .any b0 t v)(h:DataW.Trod enc P V1 0 (λ_=>true) true t v d p):∃b,v=.bool b/\Again enc P V1 t v d p:=by
 obtain⟨b,rfl,rfl,rfl⟩:=open_bool ht hv h;exact⟨b,rfl,λV2 sp _ _=>shut_bool ht b⟩
end
end
section
open W Go.RowKit
open Bl (Vc Bd Tc Sc)
theorem share66{a b:Int}(ha:1<=a/\a<=6)(hb:1<=b/\b<=3):Fr 6 66 (Rat.divInt a b)/\0<Rat.divInt a b:=by
 refine⟨?_,Bl.divpos qo qo⟩;have:b=1\/b=2\/b=3:=qo;rcases this with rfl|rfl|rfl
 .exact(Fr.of (D:=1) (A:=11) qd qo).sc' (c:=6) rfl qd
 .exact(Fr.of (D:=2) (A:=22) qd qo).sc' (c:=3) rfl qd
 .exact(Fr.of (D:=3) (A:=33) qd qo).sc' (c:=2) rfl qd
theorem lF_same{M α:Type}{S:Shp M α}{F:List Fct}{v:Value}{n:Nat}{ms:Nat->M}{xs ys:Nat->α}(h:W.Has F (lF S v n ms xs))(he:∀j,j<n->xs j=ys j):W.Has F (lF S v n ms ys):=λp hf=>by
 obtain⟨h1,h2⟩:=h p hf;refine⟨Yc h1 λj hj=>?_,λk hk=>by rw[<-he k hk];exact h2 k hk⟩;show Je S.w _ j=Je S.w _ j;unfold Je;simp only;rw[he _ ((Nat.div_lt_iff_lt_mul S.pos).2 hj)]
theorem tl_map{f:Tc->Tc}{L:List Tc}{j:Nat}(h:j<L.length):f (tl L j)=tl (L.map f) j:=by
 rw[tl,tl,List.getD_eq_getElem?_getD,List.getD_eq_getElem?_getD,List.getElem?_map,List.getElem?_eq_getElem h];rfl
theorem has_mv{F:List Fct}{v:Value}{f:Tc->Tc}{L:List Tc}{tm:Nat->ToM}(h:W.Has F (lF Qz v L.length tm λj=>f (tl L j))):W.Has F (lF Qz v (L.map f).length tm (tl (L.map f))):=by
 rw[List.length_map];exact lF_same h λj hj=>tl_map hj
section
variable {e:Env}{bx:List Ow}{F:List Fct}{ty t:TypeId}{x:Operand}{v:Value}{us:List Value}
theorem y_scene2{n:Nat}(hx:ev e x=some v)(hv:KnS bx F v n):YO Tryz.prog (.build 53 #[(1,x)]) ty e bx F (.agg #[.slice none 0 0,v]):=λk fr a w0 o h1 h2 h3 h4=>by
 obtain⟨a',c,rfl,_⟩:=(hv fr w0 h4).is;exact YO.build (parts:=[(1,x)]) (us:=[.slice a' n c]) (.cons hx .nil) (λ_=>by kernel_rfl) k fr a w0 o h1 h2 h3 h4
theorem y_fieldT{l:Value}(hx:ev e x=some (.agg #[l,v])):YO Tryz.prog (.field 53 x 1) ty e bx F v:=.of λn fr a w o hop hk _=>by
 have h1:∀w,(Instr.field 53 (.agg #[l,v]) 1).run Tryz.prog w=.ok v w:=λw=>by kernel_rfl
 have h2:∀w es,(Instr.field 53 (.agg #[l,v]) 1).events Tryz.prog w es=es:=λw es=>by kernel_rfl
 constructor<;>simp[execOp,hop,hk.eval hx,h1,h2]
end
namespace K
namespace Q
namespace Y
attribute [local irreducible] WC WL WD YO LO Qq W.Fin Qv Qh Qj Row QV Qy KnS Has W.One Qp QJ
theorem d9{G G':Prop}(h:G')(s:Bx G'->G:=by
 intro h;first|refine gF ?_|refine Vh ?_|(apply WC.draw (id:=10) [0,1,2,3,4,5,6,7,8,9,11] (.h 0<|.h 1<|.h 2<|.h 3<|.h 4<|.h 5<|.h 6<|.h 7<|.h 8<|.h 9<|.l 10<|.h 11<|.l 12<|.l 13<|.f 14 .done) mixed kr)|fail
 exact Bx.h h):G:=s ⟨h⟩
theorem scaledLaw_c(lv dv:Value)(l deal:List Int)(n x y:Int)(b:Bool)(hl:∀x∈l,I64 x)(hd:∀x∈deal,I64 x)(hn:I64 n)(hx:I64 x)(hy:I64 y):FnB Tryz.prog 9 [lv,dv,.int .i64 n,.bool b,.int .i64 x,.int .i64 y] [] [isX Tryz.prog,sI lv l,sI dv deal] (IsV (.bool true)):=by
 refine fO [(0,lv),(1,dv),(2,(.int .i64 n)),(3,(.bool b)),(4,(.int .i64 x)),(5,(.int .i64 y))] 116 Tryz.func9 Tryz.ntmps9 λh0=>?_;obtain⟨s1,s2,s3,s4,s5⟩:=Fj l deal;have hN:=Fx.ZF l;have hok:=λ(mo:Int) (s:List Int) (hs:s∈Fx.Qc (Fx.JP l deal) (Fx.Jo l deal) mo)=>KD l deal (λ_ h=>h) (Fx.Za hs);have ht0:Fx.Qe (Fx.JP l deal) (Fx.Jo l deal) []=Fx.JP l deal:=by simp[Fx.Qe]
 have hb0:=KD l deal (λ_ h=>h) (P:=Fx.Jo l deal) (s:=[]) (by rw[ht0];exact s1);rw[show scP (Fx.Jn l) (Bl.QL l).B (Fx.JP l deal) (Fx.Jo l deal) []=Bl.scL (Fx.Jn l) (Bl.QL l).B d0 (Fx.JP l deal) by unfold scP;rw[ht0]] at hb0;have hp0:∀p∈Fx.Jo l deal,Ss 1 (Bl.scL 0 (Bl.QL l).B d0 p):=λp hp=>Fs.ss (D:=120) (A:=4800) (Fx.HV (λi hi=>absurd hi (Nat.not_lt_zero i)) λx hx=>((Fx.KF l deal).2 p hp x hx).2) qd qd qd;have hmv:=λ(s k:Rat) (v:Vc) (k0:0<k) (hs:s=1\/s= -1) (hk:Fr 6 66 k) (hv:Fv 1 10 v) (u:List Int) hl=>Fx.case_mv l deal d0 (u:=u) k0 hs hk hv hl;have hcs:=HE lv dv l deal hl hd;generalize Fx.Jn l=N at *;generalize (Bl.QL l).B=B at *;generalize Fx.JP l deal=t at *;generalize Fx.Jo l deal=P at *;have a1:=@J8 n 3 qd;have a2:=@J8 x 20 qd;have a3:=@J8 y 20 qd;have a4:=@J8 x 5 qd;have a5:=@J8 y 3 qd;have c28:=Xr n 3 hn qd;have c30:=Xr x 20 hx qd;have c33:=Xr y 20 hy qd;have c37:=Xr x 5 hx qd;have c40:=Xr y 3 hy qd;generalize Xb n 3=mo at *;generalize Xb x 20=x20 at *;generalize Xb y 20=y20 at *;generalize Xb x 5=x5 at *;generalize Xb y 3=y3 at *;obtain⟨kf,k0⟩:=share66 (a:=1+x5) (b:=1+y3) qo qo;have vf:Fv 1 10 ⟨((x20-10:Int):Rat),((y20-10:Int):Rat)⟩:=⟨Fr.int _ qo,Fr.int _ qo⟩
 have c35:=Kh (x20-10) (y20-10) (Yr qo qo) (Yr qo qo);have c42:=Zn.rof (1+x5) (1+y3) (Yr qo qo) (Yr qo qo);have hsb:(if b=true then(-1:Rat) else 1)=1\/(if b=true then(-1:Rat) else 1)= -1:=by cases b;exact .inl rfl;exact .inr rfl
 have hsq:(if b=true then(-1:Rat) else 1)*(if b=true then(-1:Rat) else 1)=1:=by rcases hsb with h|h<;>rw[h]<;>decide +kernel
 have cM:=λM S mb mk hs hn hm=>mirroredN_c M S b mb mk ⟨((x20-10:Int):Rat),((y20-10:Int):Rat)⟩ (Rat.divInt (1+x5) (1+y3)) hs hn hm (vf.sv qd qd qd) (kf.sq qd qd qd);generalize (⟨((x20-10:Int):Rat),((y20-10:Int):Rat)⟩:Vc)=v at *;generalize (Rat.divInt (1+x5) (1+y3))=k at *;generalize (if b=true then(-1:Rat) else 1)=sg at *;have hmv:=hmv sg k v k0 hsb kf vf;repeat'(first|intro(g:Nat)|refine d9 ?_|intro v)
 refine cK (hcs) ?_;rintro _ _ _ ⟨bv,tv,pv,bm,tm,pm,rfl,rfl,rfl⟩;refine sNn ?_;repeat'(first|intro(g:Nat)|refine d9 ?_|intro v)
 revert g;intro g13;refine cV (c28) ?_;repeat'(first|intro(g:Nat)|refine d9 ?_|intro v)
 refine cV (c30) ?_;repeat'(first|intro(g:Nat)|refine d9 ?_|intro v)
 refine cV (c33) ?_;repeat'(first|intro(g:Nat)|refine d9 ?_|intro v)
 refine cW (c35) λm35=>?_;repeat'(first|intro(g:Nat)|refine d9 ?_|intro v)
 revert g;intro g15;refine cV (c37) ?_;repeat'(first|intro(g:Nat)|refine d9 ?_|intro v)
 refine cV (c40) ?_;repeat'(first|intro(g:Nat)|refine d9 ?_|intro v)
 refine cW (c42) λn42=>?_;repeat'(first|intro(g:Nat)|refine d9 ?_|intro v)
 revert g;intro g16;refine cW (cM ⟨bv,tv,bm,tm⟩ (Bl.scL N B d0 t) m35 n42 hb0.2 (by show N<=5;omega) s1) λM2=>?_;repeat'(first|intro(g:Nat)|refine d9 ?_|intro v)
 revert g;intro g17;refine WC.QP 32 1 ?_;refine WC.JS (σ:=Value×(Nat->Value×(Nat->ToM))) (λst=>[(18,st.1),(17,ptr g17),(16,ptr g16),(15,ptr g15),(14,.int .i64 mo),(13,ptr g13),(3,.bool b)]) (λst=>[lO tlS st.1 32 (P.map (List.map (Bl.mvT sg v))).length st.2 (pl (P.map (List.map (Bl.mvT sg v)))),Ow.cells g17 53 [M2.l,M2.t],Ow.cells g16 75 (qcs n42),Ow.cells g15 77 (vcs m35),Ow.cells g13 35 [bv,tv,pv]]) (λst=>[lM tlS (P.map (List.map (Bl.mvT sg v))).length st.2 (pl (P.map (List.map (Bl.mvT sg v)))),isX Tryz.prog,lF Qo bv N bm B,lF Qz tv t.length tm (tl t),lF tlS pv P.length pm (pl P),fV m35 v,isQ (qv n42) k,fSl M2 (Bl.mvS sg k v (Bl.scL N B d0 t)),fSt M2 (Bl.mvS sg k v (Bl.scL N B d0 t)),ge h0]) (λ_=>True) ?_ ?_
 .refine WC.lp (σ:=Nat×Value×(Nat->Value×(Nat->ToM))) (λst=>[(19,.int .i64 (st.1:Int)),(18,st.2.1),(17,ptr g17),(16,ptr g16),(15,ptr g15),(14,.int .i64 mo),(13,ptr g13),(3,.bool b)]) (λst=>[lO tlS st.2.1 32 ((P.take st.1).map (List.map (Bl.mvT sg v))).length st.2.2 (pl ((P.take st.1).map (List.map (Bl.mvT sg v)))),Ow.cells g17 53 [M2.l,M2.t],Ow.cells g16 75 (qcs n42),Ow.cells g15 77 (vcs m35),Ow.cells g13 35 [bv,tv,pv]]) (λst=>[lM tlS ((P.take st.1).map (List.map (Bl.mvT sg v))).length st.2.2 (pl ((P.take st.1).map (List.map (Bl.mvT sg v)))),isX Tryz.prog,lF Qo bv N bm B,lF Qz tv t.length tm (tl t),lF tlS pv P.length pm (pl P),fV m35 v,isQ (qv n42) k,fSl M2 (Bl.mvS sg k v (Bl.scL N B d0 t)),fSt M2 (Bl.mvS sg k v (Bl.scL N B d0 t)),ge h0]) (λst=>st.1<=P.length) (λst=>P.length-st.1) (0,.slice none 0 0,λ_=>(.slice none 0 0,λ_=>⟨(m00,m00),(m00,m00),(m00,m00),m00⟩)) (Nat.zero_le _) ?_ (hG:=.cons W.Has.Z3 haA);rintro⟨i,qv2,qm⟩ hi;simp only at hi ⊢;by_cases d:i<P.length
  .have hpm:pl P i∈P:=by
    rw[pl,List.getD_eq_getElem?_getD,List.getElem?_eq_getElem d];exact List.getElem_mem d
   have hu:((P.take (i+1)).map (List.map (Bl.mvT sg v)))=((P.take i).map (List.map (Bl.mvT sg v)))++[(pl P i).map (Bl.mvT sg v)]:=by
    rw[List.take_add_one,List.getElem?_eq_getElem d,pl,List.getD_eq_getElem?_getD,List.getElem?_eq_getElem d,List.map_append];rfl
   have hl0:((P.take i).map (List.map (Bl.mvT sg v))).length<=3:=by rw[List.length_map,List.length_take];omega
   refine WC.fact (lF Qz (pm i).1 (pl P i).length (pm i).2 (tl (pl P i))) (W.Has.lk (S:=tlS) (v:=pv) (ms:=pm) (xs:=pl P) hmA d) ?_;refine WC.fact (lF Qo (.slice none 0 0) 0 bm B) W.Has.lnil ?_;repeat'(first|intro(g:Nat)|refine d9 ?_|intro v)
   refine WD.y rfl (y_scene2 rfl (KnS.lf (S:=Qz) (v:=(pm i).1) hmA)) qr qr ?_;repeat'(first|intro(g:Nat)|refine d9 ?_|intro v)
   refine cW (cM ⟨.slice none 0 0,(pm i).1,bm,(pm i).2⟩ (Bl.scL 0 B d0 (pl P i)) m35 n42 (hp0 _ hpm) (by show 0<=5;decide) (s5 _ hpm)) λM3=>?_;refine WD.fact (lF Qz M3.t ((pl P i).map (Bl.mvT sg v)).length M3.T (tl ((pl P i).map (Bl.mvT sg v)))) (has_mv (f:=(Bl.mvT sg v)) (L:=pl P i) hmA) ?_;repeat'(first|intro(g:Nat)|refine d9 ?_|intro v)
   refine WD.y rfl (y_fieldT rfl) qr qr ?_;refine WD.l rfl rfl rfl (LO.bsP1 rfl (KnS.lf (S:=Qz) (v:=M3.t) hmA) λv71=>?_);refine⟨(by(first|exact wq1|(apply Or.inl;kernel_rfl))),?_⟩;refine WD.l rfl rfl rfl (LO.appP1 (P:=((P.take i).map (List.map (Bl.mvT sg v)))) (pm:=qm) (q:=(pl P i).map (Bl.mvT sg v)) (tm:=M3.T) rfl rfl meA hmA (λv'=>by repeat(first|exact Sel.head|apply Sel.tail)) qo λv72=>?_);refine⟨(by(first|exact wq1|(apply Or.inl;kernel_rfl))),?_⟩;repeat'(first|intro(g:Nat)|refine d9 ?_|intro v)
   exact Qq.mk (i+1,v72,upd qm ((P.take i).map (List.map (Bl.mvT sg v))).length (M3.t,M3.T)) wq18 wq18 (hB:=by simp only;rw[hu];exact slA) (hG:=.cons (by simp only;rw[hu];exact XR (S:=tlS) (m:=(M3.t,M3.T)) hmA hmA) haA)
  .obtain rfl:i=P.length:=qo;rw[List.take_length];repeat'(first|intro(g:Nat)|refine d9 ?_|intro v)
   exact Qs (qv2,qm) trivial
 rintro⟨qv2,qm⟩ _;simp only;refine WC.QY (S:=tlS) (v:=qv2) (n:=(P.map (List.map (Bl.mvT sg v))).length) (ms:=qm) (xs:=pl (P.map (List.map (Bl.mvT sg v)))) wq3 hmA ?_;repeat'(first|intro(g:Nat)|refine d9 ?_|intro v)
 have hcd:=Fx.cand_map (Bl.mvT sg v) t P mo;refine cK (Yf bv tv pv N bm B t P tm pm mo 1 qo s1 qo s4 qo qo qd qd (hok mo)) ?_;rintro _ _ _ ⟨rfl,a,sv1,cv1,fv1,cn1,cf1,fm1,fx1,rfl,ha,ha',rfl⟩;refine sNn ?_;refine WL.QE (lF Qz M2.t (t.map (Bl.mvT sg v)).length M2.T (tl (t.map (Bl.mvT sg v)))) (has_mv (f:=(Bl.mvT sg v)) (L:=t) hmA) ?_;repeat'(first|intro(g:Nat)|refine d9 ?_|intro v)
 revert g;intro g20;refine cK (Yf M2.l M2.t qv2 N M2.B (λi=>Bl.mvB sg k v (B i)) (t.map (Bl.mvT sg v)) (P.map (List.map (Bl.mvT sg v))) M2.T qm mo 1 qo (by rw[List.length_map];exact s1) (by rw[List.length_map];omega) (λp hp=>by obtain⟨p',h1,rfl⟩:=List.mem_map.1 hp;rw[List.length_map];exact s4 p' h1) qo qo qd qd (λs hs=>by rw[hcd] at hs;obtain⟨h1,h2⟩:=hmv s (Fx.Za hs);exact⟨h1,Fs.ss h2 qd qd qd⟩)) ?_;rintro _ _ _ ⟨rfl,a',sv2,cv2,fv2,cn2,cf2,fm2,fx2,rfl,hb,hb',rfl⟩;refine sNn ?_;obtain⟨rfl,hcd2⟩:=Fx.scaled_same k0 hsq ha hb;have e1:selS (Fx.Qc t P mo) a=selS (Fx.Qc (t.map (Bl.mvT sg v)) (P.map (List.map (Bl.mvT sg v))) mo) a:=by rw[hcd2]
 have e2:Zb (Fx.Qc (t.map (Bl.mvT sg v)) (P.map (List.map (Bl.mvT sg v))) mo) a=Zb (Fx.Qc t P mo) a:=by rw[hcd2]
 have c102:=XA sv1 sv2 (selS (Fx.Qc t P mo) a) (selS (Fx.Qc (t.map (Bl.mvT sg v)) (P.map (List.map (Bl.mvT sg v))) mo) a);rw[decide_eq_true e1] at c102;repeat'(first|intro(g:Nat)|refine d9 ?_|intro v)
 refine cV (c102) ?_;repeat'(first|intro(g:Nat)|refine d9 ?_|intro v)
 refine cV (K8) ?_;repeat'(first|intro(g:Nat)|refine d9 ?_|intro v)
 exact wq6
end Y
end Q
end K
end
section
open Go.ChangeShapes Go.WideShapes Go.ChangeAt Go.RowKit
open W
theorem Tryz.K3:Tryz.prog.underlying 3=some (.int .i64):=by kernel_rfl
theorem Tryz.sl22:Tryz.prog.underlying 28=some (.slice 3):=by kernel_rfl
theorem Tryz.KU:Tryz.prog.underlying 4=some .bool:=by kernel_rfl
theorem Tryz.one3:Tryz.prog.cellsOf 3=1:=by kernel_rfl
theorem fixtureScaled_lifted(os:Os)(started:os.Started)(H:Type)(enc:TypeId×Value->H) :
  ReturnsInLeavingWide {} Tryz.checked os 9 .any (Rows.fixtureScaledSpec.pre6 enc Tryz.prog Tryz.f9 Rows.fixtureScaledRow.domain false) (Rows.fixtureScaledSpec.post enc Tryz.prog Tryz.f9 false true false false):=by
 refine returnsInLeavingWide_of_change_sized (C:=Tryz.checked) Tryz.own started Tryz.func9
  (ChangeSpec.witness6 (enc:=enc) (C:=Tryz.checked) false ⟨#[],#[.slice none 0 0,.slice none 0 0,.int .i64 0,.bool false,.int .i64 0,.int .i64 0],[]⟩ 8 kr kr kr kr) ?_
 intro V1 base args ds gs before hval0 hW hcnd hwt _;have hval:∀(j:Nat) t v,Tryz.f9.params[j]?=some t->args[j]?=some v->Value.okWide Tryz.prog V1 .any base t v:=hval0;have hW':=hW;obtain⟨p,q,hA0,hV,rfl,hfz,hnd⟩:=hW;have hA:DataW.TrodAll enc Tryz.prog V1 0 (λ_=>true) true Tryz.f9.params.toList args.toList ds p:=hA0;rw[Tryz.params9] at hA hval;obtain⟨args⟩:=args;obtain⟨v0,a1,d0,e1,p0,q1,rfl,rfl,rfl,h0,hA⟩:=trodAll_cons hA;obtain⟨v1,a2,d1,e2,p1,q2,rfl,rfl,rfl,h1,hA⟩:=trodAll_cons hA;obtain⟨v2,a3,d2,e3,p2,q3,rfl,rfl,rfl,h2,hA⟩:=trodAll_cons hA;obtain⟨v3,a4,d3,e4,p3,q4,rfl,rfl,rfl,h3,hA⟩:=trodAll_cons hA;obtain⟨v4,a5,d4,e5,p4,q5,rfl,rfl,rfl,h4,hA⟩:=trodAll_cons hA;obtain⟨v5,a6,d5,e6,p5,q6,rfl,rfl,rfl,h5,hA⟩:=trodAll_cons hA;obtain⟨rfl,rfl,rfl⟩:=trodAll_nil hA;obtain⟨rfl,rfl⟩:=trodVars_none hV;obtain⟨l0,hl0,f0,g0⟩:=YL Tryz.sl22 Tryz.K3 Tryz.one3 (hval 0 28 v0 rfl rfl) h0;obtain⟨l1,hl1,f1,g1⟩:=YL Tryz.sl22 Tryz.K3 Tryz.one3 (hval 1 28 v1 rfl rfl) h1;obtain⟨n2,rfl,hl2,g2⟩:=ZB Tryz.K3 (hval 2 3 v2 rfl rfl) h2;obtain⟨b3,rfl,g3⟩:=arg_bool Tryz.KU (hval 3 4 v3 rfl rfl) h3;obtain⟨n4,rfl,hl4,g4⟩:=ZB Tryz.K3 (hval 4 3 v4 rfl rfl) h4;obtain⟨n5,rfl,hl5,g5⟩:=ZB Tryz.K3 (hval 5 3 v5 rfl rfl) h5;simp only[List.append_nil] at hW'
 have hfacts:∀g∈([sI v0 l0,sI v1 l1]:List Fct),g.p ⟨XZ Tryz.prog,λk=>V1.heap[k]?⟩:=λg hg=>by
  simp only[List.mem_cons,List.not_mem_nil,or_false] at hg;rcases hg with rfl|rfl
  .exact f0
  .exact f1
 obtain⟨M,last,o,w',t',r1,r2,r3,r4⟩:=Kr kr (K.Q.Y.scaledLaw_c v0 v1 l0 l1 n2 n4 n5 b3 hl0 hl1 hl2 hl4 hl5) hfacts;refine⟨M,last,o,w',t',r1,r2,r3,r4.mono λv hh2=>?_⟩;obtain⟨rfl,hr,hE⟩:=hh2
 .refine(Ho hW' (λ_ _ _=>trodAll_mk1 (shut_bool Tryz.KU _)) (λsp hsp=>?_) (λ_=>rfl) hr hE (ok_one kr rfl (okWide_bool_mk Tryz.KU _)));have:=(QS.cons g0 (QS.cons g1 (QS.cons g2 (QS.cons g3 (QS.cons g4 (QS.cons g5 QS.nil)))))) w' sp hE (by simpa using hsp);simp only[List.append_nil] at this;show DataW.TrodAll enc Tryz.prog w' 0 sp true Tryz.f9.params.toList _ _ _;rw[Tryz.params9];exact this
theorem fixtureScaled_holds:Rows.FixtureScaledSaid:=
 OpenClaim.holds_of_wide_leaving 9 Tryz.f9 rfl rfl rfl rfl rfl rfl rfl ⟨rfl,rfl,rfl,rfl,rfl⟩ rfl rfl rfl rfl rfl kr Tryz.func9 kr
  (of_decide_eq_true kr) (by unfold Func.isWrapper;first|(rw[if_pos wq108];kernel_rfl)|(rw[if_neg wq108];exact⟨rfl,rfl⟩))
  (λos started H enc _=>fixtureScaled_lifted os started H enc)
#print axioms fixtureScaled_holds
end
end Go.Proofs.YtbnobghgnbockaaGreat
