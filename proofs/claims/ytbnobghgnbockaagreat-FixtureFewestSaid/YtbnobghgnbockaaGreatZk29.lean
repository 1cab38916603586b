/- Lemmas. Conditions: none. -/
import Derived.Test.YtbnobghgnbockaaGreatZk28
set_option linter.all false
set_option maxHeartbeats 0
set_option maxRecDepth 100000
namespace Go.Proofs.YtbnobghgnbockaaGreat
open Tryz (prog)
section
open W Go.RowKit
open Bl (Vc Bd Tc Sc)
def W.FnB.more{P:nh}{f:np}{args:ne}{bx:nw}{F F':nc}{R:Qd}(h:FnB P f args bx F R)(hs:∀g∈F,g∈F'):FnB P f args bx F' R:=⟨h.1,λfr w ho=>h.2 fr w (ho.less hs)⟩
def Gp(S:Sc)(i t:Nat)(e:Ed)(f:Vc):Rat:=if t=0 then f.x else if t=1 then f.y else Bl.JZ (Bl.Jl e.at' (S.B i).c) f
def gx(S:Sc)(i t k:Nat):Rat:=Gp S i t (edT S.T k) (Bl.on (S.T (k/2)) i (S.T (k/2)).n)
def gy(S:Sc)(i t k:Nat):Rat:=Gp S i t (edT S.T k) (Bl.on (S.T (k/2)) i (Bl.turn (S.T (k/2)).n))
def sgi(j:Nat):Int:=if j%2=0 then 1 else -1
def prX(S:Sc)(w:nf)(r:Nat):LnX:=if r<6*S.n then⟨2*(2*S.m),co2 (gx S (r/6) (r%6/2)) (gy S (r/6) (r%6/2)) (Rat.divInt (sgi r) 1),(if r%6/2=1 then w (r/6) else 0)*Rat.divInt (sgi r) 1⟩ else Xj S (r-6*S.n)
def prX_b{S:Sc}{w:nf}{i t j:Nat}(hi:i<S.n)(ht:t<3)(hj:j<2):prX S w (6*i+(2*t+j))=⟨2*(2*S.m),co2 (gx S i t) (gy S i t) (Rat.divInt (sgi j) 1),(if t=1 then w i else 0)*Rat.divInt (sgi j) 1⟩:=by
 unfold prX;rw[ah qo,show(6*i+(2*t+j))/6=i by omega,show(6*i+(2*t+j))%6/2=t by omega,show sgi (6*i+(2*t+j))=sgi j by unfold sgi;rw[show(6*i+(2*t+j))%2=j%2 by omega]]
def Xv(S:Sc)(M:SM)(i t gi gb gf:Nat):Fct:=fcj [ce gf 166 [.func (.func (if t=0 then 106 else if t=1 then 107 else 108)) #[] (if t=2 then[ptr gb] else[]).toArray],ce gi 3 [nj i],fcj [ce gb 88 (bcs (M.B i)),fB (M.B i) (S.B i)]]
namespace K
attribute [local irreducible] WC WL WD YO LO Qq W.Fin Qk Qh Qj Row QZ Qv KnS Has W.One Qo QX
def parts_c(S:Sc)(M:SM)(i t gi gb gf:Nat)(ht:t<3)(hi:i<S.n)(hn:S.n<=5)(K:Nat)(h0K:0<K)(hK:K<=100000)(hs:Ss K S)(k:Nat)(hk:k<2*S.m) :
  FnB prog 103 ([]++[edv (edM M.T k) (edT S.T k)]++[ptr gf,ptr gi]) [] [fE (edM M.T k) (edT S.T k),Xv S M i t gi gb gf] (IsR2 (gx S i t k) (gy S i t k)):=by
 have hk2:k/2<S.m:=qo;have hn2:Sv K (edT S.T k).t.n:=(hs.T _ hk2).2.2.1
 have hat:Sv K (edT S.T k).at':=by
  unfold edT;simp only;split
  .exact(hs.T _ hk2).1
  .exact(hs.T _ hk2).2.1
 refine W.FnB.cj ?_;match t,ht with
 |0,_=>exact part_c gf gi i qo 106 [] (edM M.T k) (edT S.T k) K h0K qo hn2 (Gp S i 0 (edT S.T k)) _ λmv f _=>(forcex_c (edM M.T k) (edT S.T k) mv f).more (by simp)
 |1,_=>exact part_c gf gi i qo 107 [] (edM M.T k) (edT S.T k) K h0K qo hn2 (Gp S i 1 (edT S.T k)) _ λmv f _=>(forcey_c (edM M.T k) (edT S.T k) mv f).more (by simp)
 |2,_=>exact part_c gf gi i qo 108 [ptr gb] (edM M.T k) (edT S.T k) K h0K qo hn2 (Gp S i 2 (edT S.T k)) _ λmv f hf=>W.FnB.cj2 (torque_c (edM M.T k) (edT S.T k) mv f gb (M.B i) (S.B i) K qo hat hf (hs.B i hi).1)
def UD(S:Sc)(M:SM)(w:nf)(i t j gi gb gf g3 g4:Nat)(va lv gv:nA)(ms:Nat->LnM)(mb:QM)(ho:S.ok)(ht:t<3)(hj:j<2)(hi:i<S.n)(K:Nat)(h0K:0<K)(hK:K<=100000)(hs:Ss K S)(hw:∀i,i<S.n->Sq K (w i)) :
  FnB prog 100 [nj (sgi j),qv mb,.func (.func 103) #[] #[ptr gf,ptr gi],ptr g3,ptr g4] [Ow.cells g4 118 [nj (2*((2*S.m:Nat):Int)),lv,gv],lO Qm lv 141 (6*i+(2*t+j)) ms (prX S w)]
   [isQ (qv mb) (if t=1 then w i else 0),ce g3 159 [va],lF JO va (2*S.m) (edM M.T) (edT S.T),Xv S M i t gi gb gf] (IsAdd g4 (2*((2*S.m:Nat):Int)) gv (6*i+(2*t+j)) ms (prX S w)):=by
 have hn:=ho.n;have hm:=ho.m;have hsn:∀k,k<2*S.m->Sv K (S.T (k/2)).n:=λk hk=>(hs.T (k/2) qo).2.2.1
 have hsa:∀k,k<2*S.m->Sv K (edT S.T k).at':=λk hk=>by
  unfold edT;simp only;split
  .exact(hs.T _ qo).1
  .exact(hs.T _ qo).2.1
 have hon:∀k f,Sv K f->Sv K (Bl.on (S.T (k/2)) i f):=λk f h=>by
  unfold Bl.on;split
  .exact h
  .split
   .exact⟨h.1.neg,h.2.neg⟩
   .exact⟨Sq.zero.up h0K,Sq.zero.up h0K⟩
 have hg:∀k f,k<2*S.m->Sv K f->Sq (6*K+3) (Gp S i t (edT S.T k) f):=λk f hk hf=>by
  unfold Gp;split
  .exact hf.1.up qo
  .split
   .exact hf.2.up qo
   .have h1:=((hsa k hk).1.sub (hs.B i hi).1.1).mul hf.2;have h2:=((hsa k hk).2.sub (hs.B i hi).1.2).mul hf.1;exact(h1.sub h2).up qo
 refine V7 g3 g4 va (2*S.m) _ (edM M.T) (edT S.T) (sgi j) (by unfold sgi;split<;>decide) mb _ lv gv _ ms (prX S w) _ [ptr gf,ptr gi] _ (gx S i t) (gy S i t) (6*K+3) qo qo qo qo ?_ (λk hk=>hg k _ hk (hon k _ (hsn k hk))) (λk hk=>hg k _ hk (hon k _ ⟨(hsn k hk).2.neg,(hsn k hk).1⟩)) (prX_b hi ht hj) λk hk=>parts_c S M i t gi gb gf ht hi hn K h0K hK hs k hk;split
 .exact(hw i hi).up qo
 .exact Sq.zero.up qo
end K
end
section
open W Go.RowKit
abbrev TM(xg vars m n:Nat)(tv cv bv:nA)(rv:ng)(ms:Nat->Nat->QM)(b:Nat->Nat):nw:=
 Ow.cells xg 177 [nj vars,nj m,nj n,tv,cv,bv]::Ow.slice tv 61 1 (fnV m rv)::Ow.slice bv 3 1 (ints (fnL m b))::Xc m (n+1) rv ms
def cs0(n:Nat)(c1:nf)(j:Nat):Rat:=if j<n then c1 j else 0
def prS(n:Nat)(c1:nf)(s:X.St):Nat->nf
 |0=>cs0 n c1
 |i+1=>λj=>prS n c1 s i j-prS n c1 s i (s.b i)*s.t i j
def csx(n:Nat)(c1:nf)(k j:Nat):Rat:=if j<k/\j<n then c1 j else 0
def csx_up{n:Nat}{c1:nf}{k:Nat}(hk:k<n)(i:Nat):Qy (csx n c1 k) k (c1 k) i=csx n c1 (k+1) i:=by
 unfold csx Qy;by_cases c:i=k
 .subst c;simp[hk]
 .by_cases c2:i<k
  .simp[c,c2,show i<k+1 by omega]
  .simp[c,c2,show ¬i<k+1 by omega]
def IsPr(xg vars m n:Nat)(tv bv:nA)(rv:ng)(ms:Nat->Nat->QM)(b:Nat->Nat)(z:nf):Qd:=λv B G=>∃cv mc,v=.tuple #[]/\B=TB xg vars m n tv cv bv rv ms mc b/\G=[mF (n+1) mc z]
namespace Z
attribute [local irreducible] WC WL WD YO LO Qq W.Fin Qk Qh Qj Row QZ Qv KnS Has W.One Qo QX
def d114{G G':Prop}(h:G')(s:Bx G'->G:=by
 intro h;first|refine gB ?_|(apply WC.draw (id:=4) [0,1,2,3,4,5,6,8] (.h 0<|.h 1<|.h 2<|.h 3<|.h 4<|.h 5<|.h 6<|.l 7<|.h 8<|.l 9 .done) mixed kr)|(apply WC.draw (id:=9) [0,1,2,3,4,5,6,7,8,9,10,11] (.h 0<|.h 1<|.h 2<|.h 3<|.h 4<|.h 5<|.h 6<|.h 7<|.h 8<|.h 9<|.h 10<|.h 11<|.l 12 .done) mixed kr)|fail
 exact Bx.h h):G:=s ⟨h⟩
def d114r{G G':Prop}(h:G')(s:Bx G'->G:=by
 intro h;repeat'(first|intro(zQ:Nat)|refine d114 ?_|intro zQ)
 repeat revert zQ
 exact Bx.h h):G:=s ⟨h⟩

def price_c(xg vars m n:Nat)(tv cv0 bv:nA)(rv:ng)(ms:Nat->Nat->QM)(s:X.St)(K:Nat)(f:np)(first cap:ne)(Fc:nc)(c1:nf)
  (hf:∀k:Nat,k<n->FnB prog f (first++[nj k]++cap) [] Fc (IsR (c1 k)))
  (hm:m<=1000) (hn:n<=10000) (hK:K<=100000000) (hb:∀i,i<m->s.b i<n) (hs:∀i,i<m->∀k,k<n+1->Sq K (s.t i k)) (hc:∀i,i<=m->∀k,k<n+1->Sq K (prS n c1 s i k)) :
  FnB prog 114 [ptr xg,.func (.func f) first.toArray cap.toArray] (TM xg vars m n tv cv0 bv rv ms s.b) (mT m (n+1) ms s.t::Fc) (IsPr xg vars m n tv bv rv ms s.b (prS n c1 s m)):=by
 refine fO [(0,(ptr xg)),(1,(.func (.func f) first.toArray cap.toArray))] 57 Tryz.func114 Tryz.ntmps114 λh0=>?_;refine d114r ?_;intro v;revert v;intro cv;have hb0:(∀r,(0:Nat)=r->True):=λ_ _=>trivial
 refine WC.lp (σ:=Nat×(Nat->QM)) (λst=>[(20,nj (st.1:Int)),(19,nj n),(0,ptr xg),(1,.func (.func f) first.toArray cap.toArray)])
  (λst=>Ow.slice cv 75 4 (Qc (n+1) st.2)::Ow.cells xg 177 [nj vars,nj m,nj n,tv,cv,bv]::Ow.slice tv 61 1 (fnV m rv)::Ow.slice bv 3 1 (ints (fnL m s.b))::Xc m (n+1) rv ms)
  (λst=>mF (n+1) st.2 (csx n c1 st.1)::ge h0::mT m (n+1) ms s.t::Fc) (λst=>st.1<=n) (λst=>n-st.1) (0,λ_=>m00) (aj _) ?_ (hG:=.cons ((W.Has.mF0 (n+1)).QK λi _=>by simp[csx]) (.cons hmA (.cons hmA (Qz.tail nv))))
 rintro⟨k,mx⟩ hk;simp only at hk ⊢;by_cases c:k<n
 .refine d114r ?_;refine WD.XV first cap (vs:=[nj k]) (hf k c) ?_ (hF:=(Qz.tail nv))
  rintro _ _ _ ⟨mk,rfl,rfl,rfl⟩;refine sNn ?_;refine WD.fact (mF (n+1) (Qy mx k mk) (csx n c1 (k+1))) ((W.Has.J0 (k:=k) (ms:=mx) (m:=mk) (qf:=csx n c1 k) hmA hmA).QK λi _=>csx_up c i) ?_;refine d114r ?_;exact Qq.mk (k+1,_) wq122 wq107 (hG:=.cons hmA (.cons hmA (.cons hmA (Qz.tail nv))))
 .obtain rfl:n=k:=qo;refine d114r ?_;refine WC.perm (Ow.cells xg 177 [nj vars,nj m,nj n,tv,cv,bv]::Ow.slice tv 61 1 (fnV m rv)::Ow.slice cv 75 4 (Qc (n+1) mx)::Ow.slice bv 3 1 (ints (fnL m s.b))::Xc m (n+1) rv ms) (perm3 _ _ _ _) ?_
  refine WC.lpP (σ:=Nat×(Nat->QM)) (λst=>[(38,nj (st.1:Int)),(37,nj m),(36,bv),(0,ptr xg)])
   (λst=>Ow.cells xg 177 [nj vars,nj m,nj n,tv,cv,bv]::Ow.slice tv 61 1 (fnV m rv)::Ow.slice cv 75 4 (Qc (n+1) st.2)::Ow.slice bv 3 1 (ints (fnL m s.b))::Xc m (n+1) rv ms)
   (λst=>[mF (n+1) st.2 (prS n c1 s st.1),ge h0,mT m (n+1) ms s.t]) (λst=>st.1<=m) (λst=>m-st.1) (0,mx) (aj _) ?_ (hG:=.cons (W.Has.QK (qf:=csx n c1 n) hmA λi _=>by unfold csx prS cs0;by_cases h:i<n<;>simp[h]) (.cons hmA (.cons hmA .nil)))
  clear c hk;rintro⟨i,my⟩ hi;simp only at hi ⊢;by_cases ci:i<m
  .have hbi:=hb i ci;refine d114r ?_;refine WD.fact (mF (n+1) (ms i) (s.t i)) (W.Has.tm hmA ci) ?_;refine WD.Zc [Ow.slice cv 75 4 (Qc (n+1) my),Yv (n+1) (rv i) (ms i)] (Ow.cells xg 177 [nj vars,nj m,nj n,tv,cv,bv]::Ow.slice tv 61 1 (fnV m rv)::Ow.slice bv 3 1 (ints (fnL m s.b))::Kr m (n+1) rv ms i) (perm5 (Xp ci)) (wipe_c cv (rv i) (n+1) (s.b i) K my (ms i) (prS n c1 s i) (s.t i) qo qo hK (hc i hi) (hs i ci)) ?_;rintro _ _ _ ⟨mz,rfl,rfl,rfl⟩;refine sNn ?_;refine d114r ?_;exact XW.mk (i+1,mz) wq111 wq56 [] (by rw[aU];exact(perm5 (Xp ci)).symm)
  .obtain rfl:m=i:=qo;refine d114r ?_;exact Fin.p (TB xg vars m n tv cv bv rv ms my s.b) [mF (n+1) my (prS n c1 s m)] (Qf.t0 rfl) meA (aI _) haA ⟨cv,my,rfl,rfl,rfl⟩
end Z
def qcell_sh(ms:Nat->QM)(lo j:Nat):J9 ms (lo*4+j)=J9 (λi=>ms (lo+i)) j:=by
 unfold J9;rw[show(lo*4+j)/4=lo+j/4 by omega,show(lo*4+j)%4=j%4 by omega]
def W.Has.subF{F:nc}{v:nA}{n lo hi:Nat}{ms:Nat->QM}{q:nf}(h:Has F (fF v n ms q))(h1:lo<=hi)(h2:hi<=n):Has F (fF (resl v lo hi 4) (hi-lo) (λi=>ms (lo+i)) (λi=>q (lo+i))):=λp hf=>by
 have h3:=Has.sub h.fs h1 h2 p hf;refine⟨?_,λi hi'=>h.fm p hf (lo+i) qo⟩;have:(λj=>J9 ms (lo*4+j))=J9 (λi=>ms (lo+i)):=funext λj=>qcell_sh ms lo j
 rwa [this] at h3
def W.Has.subM{F:nc}{v:nA}{n lo m:Nat}{ms:Nat->QM}{q:nf}(h:Has F (fF v n ms q))(h2:lo+m<=n):Has F (fF (resl v lo (lo+m) 4) m (λi=>ms (lo+i)) (λi=>q (lo+i))):=by
 have:=W.Has.subF h (lo:=lo) (hi:=lo+m) qo h2
 rwa [cN] at this
def KE(m n:Nat)(s:X.St)(k:Nat):Rat:=match X.fstT (λi=>decide (s.b i=k)) m 0 with
 |none=>0
 |some i=>s.t i n
def Kd(m:Nat)(s:X.St)(col k:Nat):Rat:=if k=col then 1 else match X.fstT (λi=>decide (s.b i=k)) m 0 with
 |none=>0
 |some i=>-s.t i col
def K7{p:Nat->Bool}{m i:Nat}(h:X.fstT p m 0=some i):i<m:=by
 rcases X.XR p m 0 with ⟨h1,_⟩|⟨j,h1,_,h3,_⟩
 .rw[h] at h1;cases h1
 .rw[h] at h1;cases h1;omega
namespace Z
attribute [local irreducible] WC WL WD YO LO Qq W.Fin Qk Qh Qj Row QZ Qv KnS Has W.One Qo QX
def d117{G G':Prop}(h:G')(s:Bx G'->G:=by
 intro h;first|refine gB ?_|(apply WC.draw (id:=1) [0,1,2,3,4,5,6,7,8,9,10,11,12,13,14,15,16,17,18,19,21] (.h 0<|.h 1<|.h 2<|.h 3<|.h 4<|.h 5<|.h 6<|.h 7<|.h 8<|.h 9<|.h 10<|.h 11<|.h 12<|.h 13<|.h 14<|.h 15<|.h 16<|.h 17<|.h 18<|.h 19<|.l 20<|.h 21 .done) mixed kr)|fail
 exact Bx.h h):G:=s ⟨h⟩
def d124{G G':Prop}(h:G')(s:Bx G'->G:=by
 intro h;first|refine gB ?_|(apply WC.draw (id:=3) [0,1,2,3,4,5,6,7,8,9,10,11,12] (.h 0<|.h 1<|.h 2<|.h 3<|.h 4<|.h 5<|.h 6<|.h 7<|.h 8<|.h 9<|.h 10<|.h 11<|.h 12<|.l 13 .done) mixed kr)|fail
 exact Bx.h h):G:=s ⟨h⟩
def slacks_c(xg vars m n:Nat)(tv cv bv:nA)(mc:Nat->QM)(c:nf)(hv:vars<=1000)(hm:m<=1000)(hn:2*vars+m<=n+1) :
  FnB prog 117 [ptr xg] [] [ce xg 177 [nj vars,nj m,nj n,tv,cv,bv],fF cv (n+1) mc c] (IsF m (λr=>c (2*vars+r))):=by
 refine fO [(0,(ptr xg))] 24 Tryz.func117 Tryz.ntmps117 λh0=>?_;repeat'(first|intro(g:Nat)|refine d117 ?_|intro v)
 rw[show(2:Int)*(vars:Int)+(m:Int)=((2*vars+m:Nat):Int) by simp,show(2:Int)*(vars:Int)=((2*vars:Nat):Int) by simp];repeat'(first|intro(g:Nat)|refine d117 ?_|intro v)
 refine WD.fact (fF (resl cv (2*vars) (2*vars+m) 4) m (λi=>mc (2*vars+i)) (λi=>c (2*vars+i))) (W.Has.subM (v:=cv) (ms:=mc) (q:=c) hmA hn) ?_;first|refine WD.Jj (clone_c (resl cv (2*vars) (2*vars+m) 4) m (λi=>mc (2*vars+i)) (λi=>c (2*vars+i)) qo) ?_|skip
 rintro v1 _ _ ⟨ms1,rfl,rfl⟩;refine sNn ?_;repeat'(first|intro(g:Nat)|refine d117 ?_|intro v)
 refine WC.ret ?_;exact Fp [fF v1 m ms1 (λi=>c (2*vars+i))] (Qf.t1 rfl rfl) haA ⟨ms1,rfl,rfl⟩
def now_c(xg vars m n k:Nat)(tv cv bv:nA)(rv:ng)(ms:Nat->Nat->QM)(s:X.St) :
  FnB prog 124 [ptr xg,nj k] [] (TF xg vars m n tv cv bv rv ms s) (IsR (KE m n s k)):=by
 refine fO [(0,(ptr xg)),(1,(nj k))] 28 Tryz.func124 Tryz.ntmps124 λh0=>?_;repeat'(first|intro(g:Nat)|refine d124 ?_|intro v)
 refine cV (index_c bv m k s.b) ?_;cases hf:X.fstT (λi=>decide (s.b i=k)) m 0 with
 |none=>
  have e:KE m n s k=0:=by unfold KE;rw[hf]
  rw[e];rw[show Yx none= -1 from rfl];repeat'(first|intro(g:Nat)|refine d124 ?_|intro v)
  exact wq48
 |some i=>
  have hi:=K7 hf;have e:KE m n s k=s.t i n:=by unfold KE;rw[hf]
  rw[e];rw[show Yx (some i)=(i:Int) from rfl];refine WL.QD (isQ (qv (ms i n)) (s.t i n)) (W.Has.qt (W.Has.rt (rv:=rv) hmA) hi qo) ?_;repeat'(first|intro(g:Nat)|refine d124 ?_|intro v)
  refine WC.ret ?_;exact Fp [isQ (qv (ms i n)) (s.t i n)] (rcV T.r75) haA ⟨ms i n,rfl,rfl,rfl⟩
def ray_c(xg vars m n k col:Nat)(tv cv bv:nA)(rv:ng)(ms:Nat->Nat->QM)(s:X.St)(hcol:col<n) :
  FnB prog 123 [ptr xg,nj k,nj col] [] (TF xg vars m n tv cv bv rv ms s) (IsR (Kd m s col k)):=by
 refine fO [(0,(ptr xg)),(1,(nj k)),(2,(nj col))] 32 Tryz.func123 Tryz.ntmps123 λh0=>?_;by_cases ck:k=col
 .have e:Kd m s col k=1:=by unfold Kd;rw[ah ck]
  rw[e];refine gAr ?_;intro g;refine cW (Zn.of 1 1 qd qd) λm1=>?_;rw[show Rat.divInt 1 1=1 by decide +kernel];refine gAr ?_;exact wq114
 refine gAr ?_;intro g;refine cV (index_c bv m k s.b) ?_;cases hf:X.fstT (λi=>decide (s.b i=k)) m 0 with
 |none=>
  have e:Kd m s col k=0:=by unfold Kd;rw[ae ck,hf]
  rw[e];rw[show Yx none= -1 from rfl];refine gAr ?_;exact wq48
 |some i=>
  have hi:=K7 hf;have e:Kd m s col k= -s.t i col:=by unfold Kd;rw[ae ck,hf]
  rw[e];rw[show Yx (some i)=(i:Int) from rfl];refine WL.QD (isQ (qv (ms i col)) (s.t i col)) (W.Has.qt (W.Has.rt (rv:=rv) hmA) hi qo) ?_;refine gAr ?_;refine cW (Zn.neg (ms i col) (s.t i col)) λm1=>?_;refine gAr ?_;refine WC.ret ?_;exact Fp [isQ (qv m1) (-s.t i col)] (rcV T.r75) haA ⟨m1,rfl,rfl,rfl⟩
end Z
end
namespace X
structure Szs(p:Lp)(K0 K L:Nat):Prop where
 pos:0<K0
 a:∀r,r<p.m->∀k,k<p.v->Sq K0 (p.a r k)
 b:∀r,r<p.m->Sq K0 (p.b r)
 g:∀k,k<p.v->Sq K0 (p.g k)
 k:2*(p.m*(50*K0+2)+1)+K0<=K
 v:p.v<=48
 m:p.m<=128
 l:p.m*(K0+K+1)+1+K0+1<=L
 t:L<=20000000
 kl:K<=L
 d:p.v*(2*(2*K+1)+1)+1+2*(2*K+1)<=400000000
def H5:Sq 1 1:=by
 constructor
 .show(Qx 1).length<=1;rw[J1 qd qd];decide
 .show(Qx 1).length<=1;rw[J1 qd qd];decide
section
variable {p:Lp}{K0 K L:Nat}
def Lp.dl(p:Lp)(r:Nat):Nat:=dp (λk=>if k<p.v then p.a r k else p.b r) (p.v+1)
def DU{r:Nat}{x y:Rat}{B:Nat}(h:∃z:Int,y*x=z/\z.natAbs<=B):∃z:Int,y*(p.sg r*x)=z/\z.natAbs<=B:=by
 obtain⟨z,h1,h2⟩:=h;unfold Lp.sg;split
 .exact⟨-z,by rw[dR,<-h1];grind,by rw[cp];exact h2⟩
 .exact⟨z,by rw[<-h1];grind,h2⟩
def lt_pow{k x:Nat}(h:(Qx x).length<=k):x<=1000000000^k:=bE (aw Yd (aA qd h))
def Szs.dA(h:Szs p K0 K L){r:Nat}(hr:r<p.m)(j:Nat):∃z:Int,(p.dl r:Rat)*p.A r j=z/\z.natAbs<=(1000000000^K0)^(p.v+2):=by
 have hq:∀k,k<p.v+1->Sq K0 (if k<p.v then p.a r k else p.b r):=λk _=>by
  split
  .exact h.a r hr k (by assumption)
  .exact h.b r hr
 have hd:p.dl r<=(1000000000^K0)^(p.v+1):=dp_le λk hk=>lt_pow (hq k hk).2;have hW:1<=1000000000^K0:=Nat.pow_pos qd;have hb:p.dl r<=(1000000000^K0)^(p.v+2):=aL hd (aA hW qo)
 have hx:∀k,k<p.v+1->∃z:Int,(p.dl r:Rat)*(if k<p.v then p.a r k else p.b r)=z/\z.natAbs<=(1000000000^K0)^(p.v+2):=λk hk=>by
  obtain⟨z,h1,h2⟩:=dp_int (f:=λk=>if k<p.v then p.a r k else p.b r) hk;refine⟨z,h1,aL h2 ?_⟩;rw[show p.v+2=(p.v+1)+1 from rfl,cP];exact aO hd (lt_pow (hq k hk).1)
 have ha:∀k,k<p.v->∃z:Int,(p.dl r:Rat)*p.a r k=z/\z.natAbs<=(1000000000^K0)^(p.v+2):=λk hk=>by
  have:=hx k qo;rwa [ah hk] at this
 have h1:∃z:Int,(p.dl r:Rat)*(1:Rat)=z/\z.natAbs<=(1000000000^K0)^(p.v+2):=⟨(p.dl r:Int),by rw[cX];rfl,hb⟩
 have h0:∃z:Int,(p.dl r:Rat)*(0:Rat)=z/\z.natAbs<=(1000000000^K0)^(p.v+2):=⟨0,by rw[Rat.mul_zero];rfl,aj _⟩
 unfold Lp.A;split
 .exact DU (ha j (by assumption))
 .split
  .obtain⟨z,h3,h4⟩:=DU (p:=p) (r:=r) (ha (j-p.v) qo);exact⟨-z,by rw[dR,<-h3];grind,by rw[cp];exact h4⟩
  .split
   .split
    .obtain⟨z,h3,h4⟩:=DU (p:=p) (r:=r) h1;exact⟨z,by rw[<-h3];grind,h4⟩
    .exact h0
   .split
    .split
     .exact h1
     .exact h0
    .have:=hx p.v qo;rw[ae qo] at this;exact DU this
def Szs.T(h:Szs p K0 K L){c1:nf}{s:St}(hi:Inv p.m p.n p.A c1 s){i:Nat}(him:i<p.m){j:Nat}(hj:j<p.n+1):Sq K (s.t i j):=by
 obtain⟨a,b,_,h2,h3,h4⟩:=hi.ratio inv0 (f:=λr=>(p.dl r:Rat)) (λr hr i hi=>A_art hi) (λr hr hx=>by
  have:=dp_pos (f:=λk=>if k<p.v then p.a r k else p.b r) (p.v+1);have h5:p.dl r=0:=by exact_mod_cast hx
  unfold Lp.dl at h5;omega) (λr hr j _=>h.dA hr j) him (j:=j) qo
 have hl:(Qx ((1000000000^K0)^(p.v+2))).length<=50*K0+1:=by
  refine aL (Jx (k:=K0*(p.v+2)+1) ?_) ?_
  .rw[<-Nat.pow_mul];exact Nat.pow_lt_pow_right qd qo
  .have:=ef K0 (show p.v+2<=50 by have:=h.v;omega);omega
 have hb:=bdt_len hl (m:=p.m) (by have:=h.m;omega);have hk:=h.k;rw[h2];refine(Sq.div (k:=p.m*(50*K0+2)+1) (l:=p.m*(50*K0+2)+1) qo (Sq.int (aL (J4 h3) hb) qo) (Sq.int (aL (J4 h4) hb) qo)).up qo
def Szs.c1(h:Szs p K0 K L)(j:Nat):Sq K0 (p.c1 j):=by
 unfold Lp.c1;split
 .exact H5.up h.pos
 .exact Sq.zero.up h.pos
def Szs.c2(h:Szs p K0 K L)(j:Nat):Sq K0 (p.c2 j):=by
 unfold Lp.c2;split
 .exact(h.g j (by assumption)).neg
 .split
  .exact h.g _ qo
  .exact Sq.zero.up h.pos
def Szs.sum(h:Szs p K0 K L){c1:nf}(hc:∀j,Sq K0 (c1 j)){s:St}(hs:∀i,i<p.m->∀j,j<p.n+1->Sq K (s.t i j)){x:Rat}(hx:Sq K0 x){i:Nat}(hi:i<=p.m){j:Nat}(hj:j<p.n+1):Sq L (x-sm i λr=>c1 (s.b r)*s.t r j):=by
 have h1:=YM (m:=i) (f:=λr=>c1 (s.b r)*s.t r j) (k:=K0+K) λr hr=>(hc _).mul (hs r qo j hj);refine(hx.sub h1).up ?_;have:=aM (K0+K+1) hi;have:=h.l;omega
def Szs.C(h:Szs p K0 K L){c1:nf}(hc:∀j,Sq K0 (c1 j)){s:St}(hi:Inv p.m p.n p.A c1 s){j:Nat}(hj:j<p.n+1):Sq L (s.c j):=by
 rw[hi.cost qo];exact h.sum hc (λi him j hj=>h.T hi him hj) (hc j) (ai _) hj
def prS_eq{n m:Nat}{c1:nf}{s:St}(hb:∀i,i<m->s.b i<n)(hu:∀i,i<m->∀k,k<m->s.t i (s.b k)=if i=k then 1 else 0):∀i,i<=m->∀j,prS n c1 s i j=cs0 n c1 j-sm i λr=>c1 (s.b r)*s.t r j:=by
 intro i;induction i with
 |zero=>intro _ j;show cs0 n c1 j=cs0 n c1 j-0;grind
 |succ i ih=>
  intro hi j
  have e:prS n c1 s i (s.b i)=c1 (s.b i):=by
   rw[ih qo,JP λr hr=>by rw[hu r qo i qo,ae qo];grind];unfold cs0;rw[ah (hb i qo)];grind
  show prS n c1 s i j-prS n c1 s i (s.b i)*s.t i j=_;rw[e,ih qo];show _=cs0 n c1 j-(sm i (λr=>c1 (s.b r)*s.t r j)+c1 (s.b i)*s.t i j);grind
def prS_prc{n m:Nat}{c1:nf}{s:St}(hb:∀i,i<m->s.b i<n)(hu:∀i,i<m->∀k,k<m->s.t i (s.b k)=if i=k then 1 else 0)(hn:c1 n=0){j:Nat}(hj:j<n+1):prS n c1 s m j=(prc m c1 s).c j:=by
 rw[prS_eq hb hu m (ai _)];show cs0 n c1 j-_=c1 j-_
 congr 1
 unfold cs0;split
 .rfl
 .rw[show j=n by omega,hn]
def Szs.P(h:Szs p K0 K L){c1 c0:nf}(hc:∀j,Sq K0 (c1 j)){s:St}(hi:Inv p.m p.n p.A c0 s){i:Nat}(him:i<=p.m){j:Nat}(hj:j<p.n+1):Sq L (prS p.n c1 s i j):=by
 rw[prS_eq hi.bd hi.u i him];refine h.sum hc (λi him j hj=>h.T hi him hj) ?_ him hj;unfold cs0;split
 .exact hc j
 .exact Sq.zero.up h.pos
def nowV_wt{m n:Nat}{A:Nat->nf}{c0:nf}{s:St}(h:Inv m n A c0 s)(k:Nat):KE m n s k=wt m s (λi=>s.t i n) k:=by
 unfold KE wt;rcases XR (λi=>decide (s.b i=k)) m 0 with ⟨h1,h2⟩|⟨i,h1,_,h3,h4,_⟩
 .rw[h1];exact(JP λi hi=>ae (ap (h2 i qo qo))).symm
 .rw[h1];have hb:=ao h4;rw[J8 (r:=i) qo λj hj hne=>ae λhx=>hne (h.inj hj qo (by rw[hx,hb])),ah hb]
def nowV_sz{m n K:Nat}{s:St}(hK:0<K)(hs:∀i,i<m->Sq K (s.t i n))(k:Nat):Sq K (KE m n s k):=by
 unfold KE;cases hf:fstT (λi=>decide (s.b i=k)) m 0 with
 |none=>exact Sq.zero.up hK
 |some i=>exact hs i (K7 hf)
def Da{m K:Nat}{s:St}{col:Nat}(hK:0<K)(hs:∀i,i<m->Sq K (s.t i col))(k:Nat):Sq K (Kd m s col k):=by
 unfold Kd;split
 .exact H5.up hK
 .cases hf:fstT (λi=>decide (s.b i=k)) m 0 with
  |none=>exact Sq.zero.up hK
  |some i=>exact(hs i (K7 hf)).neg
def rayV_rv{p:Lp}{c0:nf}{s:St}(h:Inv p.m p.n p.A c0 s){col:Nat}(hc:s.c col<0)(k:Nat):Kd p.m s col k=rv p s col k:=by
 unfold Kd rv;by_cases e:k=col
 .rw[ah e,ah e];subst e;have h0:wt p.m s (λi=>s.t i k) k=0:=JP λi hi=>ae λhb=>h.non hc ⟨i,hi,hb⟩;rw[h0];grind
 .rw[ae e,ae e];unfold wt;rcases XR (λi=>decide (s.b i=k)) p.m 0 with ⟨h1,h2⟩|⟨i,h1,_,h3,h4,_⟩
  .rw[h1,JP λi hi=>ae (ap (h2 i qo qo))];grind
  .rw[h1];have hb:=ao h4;rw[J8 (r:=i) qo λj hj hne=>ae λhx=>hne (h.inj hj qo (by rw[hx,hb])),ah hb];show -s.t i col=0-s.t i col;grind
end
end X
section
open W Go.RowKit
structure Pm where
 lv:nA
 gv:nA
 av:ng
 ma:Nat->Nat->QM
 mb:Nat->QM
 mg:Nat->QM
def pcell(av:ng)(mb:Nat->QM)(j:Nat):nA:=(av (j/5)::qcs (mb (j/5))).getD (j%5) undef
def HV(av:ng)(mb:Nat->QM)(k:Nat){r:Nat}(hr:r<5):pcell av mb (k*5+r)=(av k::qcs (mb k)).getD r undef:=by
 unfold pcell;rw[show(k*5+r)/5=k by omega,show(k*5+r)%5=r by omega]
def fPg(M:Pm)(m gn:Nat)(ln:Nat->Nat)(a:Nat->nf)(b g:nf):Fct where
 p h:=(slC M.lv m 5 (pcell M.av M.mb)).p h/\(∀i,i<m->(fF (M.av i) (ln i) (M.ma i) (a i)).p h)/\(mF m M.mb b).p h/\(fF M.gv gn M.mg g).p h
 mono _ _ hl hp:=⟨(slC _ _ _ _).mono _ _ hl hp.1,λi hi=>(fF _ _ _ _).mono _ _ hl (hp.2.1 i hi),(mF _ _ _).mono _ _ hl hp.2.2.1,(fF _ _ _ _).mono _ _ hl hp.2.2.2⟩
abbrev fP(M:Pm)(p:X.Lp):Fct:=fPg M p.m p.v (λ_=>p.v) p.a p.b p.g
abbrev pcs(M:Pm)(v:Int):ne:=[nj v,M.lv,M.gv]
abbrev pgv(M:Pm)(v:Int):nA:=.agg #[nj v,M.lv,M.gv]
section
variable {P:nh}{e:Env}{bx:nw}{F:nc}{ty t:nl}{x:ni}{M:Pm}{m gn i:Nat}{ln:Nat->Nat}{a:Nat->nf}{b g:nf}
def W.Has.pl(h:Has F (fPg M m gn ln a b g)):Has F (slC M.lv m 5 (pcell M.av M.mb)):=λp hf=>(h p hf).1
def W.Has.pa(h:Has F (fPg M m gn ln a b g))(hi:i<m):Has F (fF (M.av i) (ln i) (M.ma i) (a i)):=λp hf=>(h p hf).2.1 i hi
def W.Has.pb(h:Has F (fPg M m gn ln a b g)):Has F (mF m M.mb b):=λp hf=>(h p hf).2.2.1
def W.Has.pbq(h:Has F (fPg M m gn ln a b g))(hi:i<m):Has F (isQ (qv (M.mb i)) (b i)):=W.Has.q h.pb hi
def W.Has.pg(h:Has F (fPg M m gn ln a b g)):Has F (fF M.gv gn M.mg g):=λp hf=>(h p hf).2.2.2
def KnS.pl(h:Has F (fPg M m gn ln a b g)):KnS bx F M.lv m:=KnS.f h.pl
def YO.ldPl(hs:Row P t 5)(hx:ev e x=some (.pointer (some (eaddr M.lv (i*5)))))(h:Has F (fPg M m gn ln a b g))(hi:i<m):YO P (.load t x) ty e bx F (.agg #[M.av i,.bool (M.mb i).1,(M.mb i).2.1,nq,(M.mb i).2.2]):=
 YO.ldRS (us:=M.av i::qcs (M.mb i)) hs hx h.pl qo rfl λk hk=>by
  rw[HV _ _ _ hk];match k,hk with|0,_=>rfl|1,_=>rfl|2,_=>rfl|3,_=>rfl|4,_=>rfl
def YO.buildTb{x y z:ni}{i j k:Int}(h1:ev e x=some (nj i))(h2:ev e y=some (nj j))(h3:ev e z=some (nj k)):YO prog (.build 177 #[(0,x),(1,y),(2,z)]) ty e bx F (.agg #[nj i,nj j,nj k,nz,nz,nz]):=YO.build (parts:=[(0,x),(1,y),(2,z)]) (.cons h1 (.cons h2 (.cons h3 .nil))) λw=>run_build w 177 _ _ kr
def LO.bsV1{w:nA}{n:Nat}{K:Qd}(hx:ev e x=some w)(kd:KnS bx F w n)(h:∀v,K v (Ow.slice v 61 1 [w]::bx) F):LO prog (.buildSlice 175 1 #[(0,x)]) ty e bx F K:=by
 refine LO.byP (p:=∃a c,w=.slice a n c) (λfr w ho=>by obtain⟨a,c,h1,_⟩:=(kd fr w ho).is;exact⟨a,c,h1⟩) ?_;rintro⟨a,c,rfl⟩;exact LO.buildSlice (parts:=[(0,x)]) (us:=[.slice a n c]) (cs:=[.slice a n c]) (.cons hx .nil) (λ_=>by kernel_rfl) rfl qd h
def fnV_app{n:Nat}{f:ng}{w:nA}:fnV n f++[w]=fnV (n+1) (Qy f n w):=by
 unfold fnV;rw[cH,cJ]
 congr 1
 .exact b9 λj hj=>(Qt (by have:=List.mem_range.1 hj;omega)).symm
 .simp[QF]
def fnL_app{n:Nat}{f:Nat->Nat}{c:Nat}:ints (fnL n f)++[nj c]=ints (fnL (n+1) (Qy f n c)):=by
 unfold fnL ints;rw[cH,cJ,cJ]
 congr 1
 .rw[List.map_map,List.map_map]
  exact b9 λj hj=>by
   show Value.int .i64 ((f j:Nat):Int)=Value.int .i64 ((Qy f n c j:Nat):Int);rw[Qt (by have:=List.mem_range.1 hj;omega)]
 .simp[QF]
def LO.appVV{el':nl}{bx2:nA->nw}{y:ni}{u v w:nA}{n:Nat}{f:ng}{K:Qd}(hx:ev e x=some v)(hy:ev e y=some u)(hu:Ow.slice u el' 1 [w]∈bx)(hm:One bx F w)(hs:∀v',Sel bx (.slice v 61 1 (fnV n f)) (.slice v' 61 1 (fnV (n+1) (Qy f n w))) (bx2 v'))(hl:n<=1000000)(h:∀v',K v' (bx2 v') F) :
  LO prog (.call {callee:=.builtin .append,args:=#[x,y],argTypes:=#[175,175]}) ty e bx F K:=by
 refine LO.byP (λfr w ho=>(hm fr w ho).2) λh1=>?_;exact LO.append T.e175 hx hy (news:=[w]) (by rw[fnV_app];exact hs) (Qo.one hu rfl qd) (by simpa using h1) (by rw[K6];show(n+1)*24<=_;omega) (by rw[K6];show n+1<=_;omega) h
def LO.appNN{el':nl}{bx2:nA->nw}{y:ni}{u v:nA}{n c:Nat}{f:Nat->Nat}{K:Qd}(hx:ev e x=some v)(hy:ev e y=some u)(hu:Ow.slice u el' 1 [nj c]∈bx)(hs:∀v',Sel bx (.slice v 3 1 (ints (fnL n f))) (.slice v' 3 1 (ints (fnL (n+1) (Qy f n c)))) (bx2 v'))(hl:n<=1000000)(h:∀v',K v' (bx2 v') F) :
  LO prog (.call {callee:=.builtin .append,args:=#[x,y],argTypes:=#[28,28]}) ty e bx F K:=by
 have hll:(ints (fnL n f)).length=n:=by simp[fnL]
 exact LO.append T.e28 hx hy (news:=[nj c]) (by rw[fnL_app];exact hs) (Qo.one hu rfl qd) (by simp[Value.oneCell']) (by rw[hll];show(n+1)*8<=_;omega) (by rw[hll];show n+1<=_;omega) h
end
def ex_cons{bx bx' B:nw}{b:Ow}(h1:bx.Perm (b::bx'))(h2:∃r,bx'.Perm (B++r)):∃r,bx.Perm ((b::B)++r):=by
 obtain⟨r,h2⟩:=h2;exact⟨r,h1.trans (h2.cons b)⟩
def QO(l:nw){R:nw}:∃r,(l++R).Perm (R++r):=⟨l,ay⟩
def rows_app{m w:Nat}{rv:ng}{ms:Nat->Nat->QM}{l:nA}{mx:Nat->QM}:(Xc (m+1) w (Qy rv m l) (Qy ms m mx)).Perm (Yv w l mx::Xc m w rv ms):=by
 unfold Xc HC;rw[cH,cJ];refine List.perm_append_comm.trans ?_;show(Yv w (Qy rv m l m) (Qy ms m mx m)::_).Perm _;rw[QF,QF];refine List.Perm.cons _ (List.Perm.of_eq ?_);refine b9 λj hj=>?_;have:=List.mem_range.1 hj;rw[Qt qo,Qt qo]
def ex_row{m w:Nat}{rv:ng}{ms:Nat->Nat->QM}{l:nA}{mx:Nat->QM}{bx bx':nw}(h1:bx.Perm (Yv w l mx::bx'))(h2:∃r,bx'.Perm (Xc m w rv ms++r)):∃r,bx.Perm (Xc (m+1) w (Qy rv m l) (Qy ms m mx)++r):=by
 obtain⟨r,h2⟩:=h2;exact⟨r,(h1.trans (h2.cons _)).trans (rows_app.symm.append_right r)⟩
def IsPut(g8 g7:Nat)(neg:Bool)(l:nA)(w k:Nat)(ms:Nat->QM)(q:Rat):Qd:=λv B G=>∃m',v=.tuple #[]/\B=[Ow.cells g8 4 [.bool neg],Ow.cells g7 61 [l],Yv w l (Qy ms k m')]/\G=[isQ (qv m') (if neg=true then -q else q)]
namespace Z
attribute [local irreducible] WC WL WD YO LO Qq W.Fin Qk Qh Qj Row QZ Qv KnS Has W.One Qo QX
def put_c(g8 g7:Nat)(neg:Bool)(l:nA)(w k:Nat)(ms:Nat->QM)(mv:QM)(q:Rat)(hk:k<w):FnB prog 189 [nj k,qv mv,ptr g8,ptr g7] [Ow.cells g8 4 [.bool neg],Ow.cells g7 61 [l],Yv w l ms] [isQ (qv mv) q] (IsPut g8 g7 neg l w k ms q):=by
 refine fO [(0,(nj k)),(1,(qv mv)),(2,(ptr g8)),(3,(ptr g7))] 13 Tryz.func189 Tryz.ntmps189 λh0=>?_;refine gAr ?_;intro g;cases neg with
 |true=>
  refine gAr ?_;refine cW (Zn.neg (m1:=mv) (a:=q)) λm2=>?_;refine gAr ?_;exact Fin.p [_,_,_] [isQ (qv m2) (-q)] (Qf.t0 rfl) meA slA haA ⟨m2,rfl,rfl,rfl⟩
 |false=>
  refine gAr ?_;exact Fin.p [_,_,_] [isQ (qv mv) q] (Qf.t0 rfl) meA slA haA ⟨mv,rfl,rfl,rfl⟩
end Z
def ptx(vars:Nat)(val:nf)(k j:Nat):Rat:=if j<k then val j-val (vars+j) else 0
def ptx_up{vars:Nat}{val:nf}{k:Nat}(i:Nat):Qy (ptx vars val k) k (val k-val (vars+k)) i=ptx vars val (k+1) i:=by
 unfold ptx Qy;by_cases c:i=k
 .subst c;simp
 .by_cases c2:i<k
  .simp[c,c2,show i<k+1 by omega]
  .simp[c,c2,show ¬i<k+1 by omega]
def hasB_row{bx:nw}{F:nc}{m w i hi:Nat}{v:nA}{ms:Nat->Nat->QM}{t:Nat->nf}(hb:Yv w v (ms i)∈bx)(hm:Has F (mT m w ms t))(hi':i<m)(h:hi<=w):QV bx F (fF (resl v 0 hi 4) hi (ms i) (t i)):=λfr w' ho=>by
 have h1:=QV.fF (bx:=bx) (F:=F) hb (hm.tm hi') fr w' ho;have h2:=ZR h1.1 (aj hi) h;refine⟨?_,λk hk=>h1.2 k qo⟩;simpa using h2
namespace Z
attribute [local irreducible] WC WL WD YO LO Qq W.Fin Qk Qh Qj Row QZ Qv KnS Has W.One Qo QX
def d121{G G':Prop}(h:G')(s:Bx G'->G:=by
 intro h;first|refine gB ?_|(apply WC.draw (id:=5) [0,1,2,3,5,6,7,8,9,10,11,14] (.h 0<|.h 1<|.h 2<|.h 3<|.h 5<|.h 6<|.h 7<|.h 8<|.h 9<|.h 10<|.h 11<|.l 4<|.l 12<|.l 13<|.h 14<|.l 15 .done) mixed kr)|fail
 exact Bx.h h):G:=s ⟨h⟩
def d121r{G G':Prop}(h:G')(s:Bx G'->G:=by
 intro h;repeat'(first|intro(zQ:Nat)|refine d121 ?_|intro zQ)
 repeat revert zQ
 exact Bx.h h):G:=s ⟨h⟩

def Dc(xg vars K:Nat)(r2 r3 tv cv bv:nA)(f:np)(first cap:ne)(Fc:nc)(val:nf)(hv:vars<=1000)(hK:K<=100000000)
  (hf:∀k:Nat,k<2*vars->FnB prog f (first++[nj k]++cap) [] Fc (IsR (val k))) (hq:∀k,k<2*vars->Sq K (val k)) :
  FnB prog 121 [ptr xg,.func (.func f) first.toArray cap.toArray] [] (ce xg 177 [nj vars,r2,r3,tv,cv,bv]::Fc) (IsF vars (λk=>val k-val (vars+k))):=by
 refine fO [(0,(ptr xg)),(1,(.func (.func f) first.toArray cap.toArray))] 34 Tryz.func121 Tryz.ntmps121 λh0=>?_;refine d121r ?_;intro v;revert v;intro ov
 refine WC.lp (σ:=Nat×(Nat->QM)) (λst=>[(14,nj (st.1:Int)),(13,nj vars),(5,ov),(0,ptr xg),(1,.func (.func f) first.toArray cap.toArray)]) (λst=>[Ow.slice ov 75 4 (Qc vars st.2)])
  (λst=>mF vars st.2 (ptx vars val st.1)::ge h0::ce xg 177 [nj vars,r2,r3,tv,cv,bv]::Fc) (λst=>st.1<=vars) (λst=>vars-st.1) (0,λ_=>m00) (aj _) ?_ (hG:=.cons ((W.Has.mF0 vars).QK λi _=>by simp[ptx]) (.cons hmA (.cons hmA (Qz.tail nv))))
 rintro⟨k,mx⟩ hk;simp only at hk ⊢;by_cases c:k<vars
 .refine d121r ?_;refine WD.XV first cap (vs:=[nj k]) (hf k qo) ?_ (hF:=Qz.tail nv)
  rintro _ _ _ ⟨m1,rfl,rfl,rfl⟩;refine sNn ?_;refine d121r ?_;refine WD.XV first cap (vs:=[nj ((vars+k:Nat):Int)]) (hf (vars+k) qo) ?_ (hF:=Qz.tail nv)
  rintro _ _ _ ⟨m2,rfl,rfl,rfl⟩;refine sNn ?_;refine d121r ?_;refine cW (Zn.sub m1 m2 (val k) (val (vars+k)) ((hq k qo).sm qo) ((hq (vars+k) qo).sm qo)) λm3=>?_;refine WD.fact (mF vars (Qy mx k m3) (ptx vars val (k+1))) ((W.Has.J0 (k:=k) (ms:=mx) (m:=m3) (qf:=ptx vars val k) hmA hmA).QK λi _=>ptx_up i) ?_;refine d121r ?_;exact Qq.mk (k+1,_) (by show k+1<=vars;omega) (by show vars-(k+1)<vars-k;omega) (hG:=.cons hmA (.cons hmA (.cons hmA (Qz.tail nv))))
 .obtain rfl:vars=k:=qo;refine d121r ?_;refine WC.Jh ov vars mx (λk=>val k-val (vars+k)) wq3 (W.Has.QK (qf:=ptx vars val vars) hmA λi hi=>by simp[ptx,hi]) ?_;refine WC.ret ?_;exact Fp [fF ov vars mx (λk=>val k-val (vars+k))] (Qf.t1 rfl rfl) haA ⟨mx,rfl,rfl⟩
def nonzero_c(m1:QM)(q:Rat)(Fc:nc):FnB prog 196 [qv m1] [] (isQ (qv m1) q::Fc) (IsV (.bool (decide (q≠0)))):=by
 refine fO [(0,(qv m1))] 6 Tryz.func196 Tryz.ntmps196 λh0=>?_;refine gAr ?_;intro g;refine cV (Zn.sign m1 q) ?_;by_cases c:q=0
 .have h:=Je.2 c;refine gAr ?_;refine WC.ret ?_;exact Fin.v (Qf.t1 rfl rfl) meA (by rw[ak (λh=>h c)])
 .have h:¬sgn q.num=0:=λh=>c (Je.1 h);refine gAr ?_;refine WC.ret ?_;exact Fin.v (Qf.t1 rfl rfl) meA (by rw[aq c])
end Z
namespace Z
attribute [local irreducible] WC WL WD YO LO Qq W.Fin Qk Qh Qj Row QZ Qv KnS Has W.One Qo QX
def cost1_c(g6 k:Nat)(last:Nat):FnB prog 115 [nj k,ptr g6] [] [ce g6 3 [nj last]] (IsR (if last<=k then 1 else 0)):=by
 refine fO [(0,(nj k)),(1,(ptr g6))] 9 Tryz.func115 Tryz.ntmps115 λh0=>?_;by_cases c:last<=k
 .rw[ah c];refine gAr ?_;intro g;refine cW (Zn.of 1 1 qd qd) λm1=>?_;rw[show Rat.divInt 1 1=1 by decide +kernel];refine gAr ?_;exact wq114
 .rw[ae c];refine gAr ?_;intro g;exact wq48
def cost2_c(M:Pm)(p:X.Lp)(gp k:Nat)(hv:p.v<=1000):FnB prog 119 [nj k,ptr gp] [] [ce gp 118 (pcs M p.v),fP M p] (IsR (p.c2 k)):=by
 refine fO [(0,(nj k)),(1,(ptr gp))] 30 Tryz.func119 Tryz.ntmps119 λh0=>?_;refine WC.fact (fF M.gv p.v M.mg p.g) (W.Has.pg (M:=M) (m:=p.m) (gn:=p.v) (ln:=λ_=>p.v) (a:=p.a) (b:=p.b) (g:=p.g) hmA) ?_;unfold X.Lp.c2;by_cases c:k<p.v
 .rw[ah c];refine WC.fact (isQ (qv (M.mg k)) (p.g k)) (W.Has.q (W.Has.fm (v:=M.gv) hmA) c) ?_;refine gAr ?_;intro g;refine cW (Zn.neg (m1:=M.mg k) (a:=p.g k)) λm1=>?_;refine gAr ?_;refine WC.ret ?_;exact Fp [isQ (qv m1) (-(p.g k))] (rcV T.r75) haA ⟨m1,rfl,rfl,rfl⟩
 .rw[ae c];by_cases c2:k<2*p.v
  .rw[ah c2];have he:((k:Int)-(p.v:Int)).toNat=k-p.v:=qo;refine WC.fact (isQ (qv (M.mg ((k:Int)-(p.v:Int)).toNat)) (p.g (k-p.v))) (by rw[he];exact W.Has.q (W.Has.fm (v:=M.gv) hmA) qo) ?_;refine gAr ?_;intro g;refine WC.ret ?_;exact Fp [isQ (qv (M.mg ((k:Int)-(p.v:Int)).toNat)) (p.g (k-p.v))] (rcV T.r75) haA ⟨_,rfl,rfl,rfl⟩
  .rw[ae c2];refine gAr ?_;intro g;exact wq48
def rayf_c(g5 g7 xg vars m n k col:Nat)(tv cv bv:nA)(rv:ng)(ms:Nat->Nat->QM)(s:X.St)(hcol:col<n) :
  FnB prog 122 [nj k,ptr g5,ptr g7] [] (ce g5 173 [ptr xg]::ce g7 3 [nj col]::TF xg vars m n tv cv bv rv ms s) (IsR (Kd m s col k)):=by
 refine fO [(0,(nj k)),(1,(ptr g5)),(2,(ptr g7))] 9 Tryz.func122 Tryz.ntmps122 λh0=>?_;refine gAr ?_;intro g;refine cW (ray_c xg vars m n k col tv cv bv rv ms s hcol) λm1=>?_;refine gAr ?_;refine WC.ret ?_;exact Fp [isQ (qv m1) (Kd m s col k)] (rcV T.r75) haA ⟨m1,rfl,rfl,rfl⟩
end Z
namespace Z
attribute [local irreducible] WC WL WD YO LO Qq W.Fin Qk Qh Qj Row QZ Qv KnS Has W.One Qo QX
def drive_c(xg vars m n last K:Nat)(tv cv bv:nA)(rv:ng)(ms0:Nat->Nat->QM)(mc0:Nat->QM)(s:X.St)(hl:last<=n)(hm:m<=1000)(hn:n<=10000)(hK:K<=20000000)(hK0:0<K)
  (hs:∀i,i<=m->∀r,r<m->∀k,k<n+1->Sq K ((X.drP last s i).t r k)) (hc:∀i,i<=m->∀k,k<n+1->Sq K ((X.drP last s i).c k)) :
  FnB prog 118 [ptr xg,nj last] (TB xg vars m n tv cv bv rv ms0 mc0 s.b) [mT m (n+1) ms0 s.t,mF (n+1) mc0 s.c] (IsTB xg vars m n tv cv bv rv (X.drP last s m)):=by
 refine fO [(0,(ptr xg)),(1,(nj last))] 37 Tryz.func118 Tryz.ntmps118 λh0=>?_;refine gAr ?_
 refine WC.lpP (σ:=Nat×(Nat->Nat->QM)×(Nat->QM)) (λst=>[(12,nj (st.1:Int)),(11,nj m),(10,bv),(0,ptr xg),(1,nj last)])
  (λst=>TB xg vars m n tv cv bv rv st.2.1 st.2.2 (X.drP last s st.1).b) (λst=>[mT m (n+1) st.2.1 (X.drP last s st.1).t,mF (n+1) st.2.2 (X.drP last s st.1).c,ge h0]) (λst=>st.1<=m) (λst=>m-st.1) (0,ms0,mc0) (aj _) ?_
 rintro⟨i,ms,mc⟩ hi;simp only at hi ⊢;by_cases c:i<m
 .have hsi:=hs i hi;have hci:=hc i hi;have e1:X.drP last s (i+1)=X.drS last (X.drP last s i) i:=rfl;generalize X.drP last s i=D at *;by_cases cb:D.b i<last
  .have e2:X.drP last s (i+1)=D:=by rw[e1,X.drS,ah cb]
   refine gAr ?_;exact XW.mk (i+1,ms,mc) wq111 wq56 [] (by rw[e2,aU]) (hG:=by rw[e2];exact .cons hmA (.cons hmA (.cons hmA .nil)))
  .refine WC.perm (Ow.cells xg 177 [nj vars,nj m,nj n,tv,cv,bv]::Ow.slice tv 61 1 (fnV m rv)::Ow.slice cv 75 4 (Qc (n+1) mc)::Ow.slice bv 3 1 (ints (fnL m D.b))::Yv (n+1) (rv i) (ms i)::Kr m (n+1) rv ms i) ((((((Xp c).cons _).cons _).cons _).cons _)) ?_;refine gAr ?_;refine WL.Y1 (indexF_c (resl (rv i) 0 last 4) last (ms i) (D.t i) 196 [] [] [] (λk=>decide (D.t i k≠0)) (λk _=>nonzero_c (ms i k) (D.t i k) [])) ?_ (hF:=.cons (hasB_row (t:=D.t) (m:=m) (ms:=ms) meA hmA c qo) .nil);cases hf:X.fstT (λk=>decide (D.t i k≠0)) last 0 with
   |none=>
    have e2:X.drP last s (i+1)=D:=by rw[e1,X.drS,ae cb,hf]
    rw[show Yx none= -1 from rfl];refine gAr ?_;exact XW.mk (i+1,ms,mc) wq111 wq56 [] (by rw[e2,aU];exact(((((Xp c).cons _).cons _).cons _).cons _).symm) (hG:=by rw[e2];exact .cons hmA (.cons hmA (.cons hmA .nil)))
   |some k=>
    have hk:=K7 hf;have e2:X.drP last s (i+1)=X.pv D i k:=by rw[e1,X.drS,ae cb,hf]
    rw[show Yx (some k)=(k:Int) from rfl];refine gAr ?_;refine WL.Zc (TB xg vars m n tv cv bv rv ms mc D.b) [] (by rw[aU];exact(((((Xp c).cons _).cons _).cons _).cons _).symm) (pivot_c xg vars m n tv cv bv rv ms mc D i k K c qo hm hn hK hK0 hsi hci) ?_;rintro _ _ _ ⟨ms2,mc2,rfl,rfl,rfl⟩;refine gAr ?_;exact XW.mk (i+1,ms2,mc2) wq111 wq56 [] (by rw[e2]) (hG:=by rw[e2];exact .cons hmA (.cons hmA (.cons hmA .nil)))
 .obtain rfl:m=i:=qo;refine gAr ?_;exact Fin.p (TB xg vars m n tv cv bv rv ms mc (X.drP last s m).b) [mT m (n+1) ms (X.drP last s m).t,mF (n+1) mc (X.drP last s m).c] (Qf.t0 rfl) meA (aI _) haA ⟨ms,mc,rfl,rfl,rfl⟩
end Z
end
end Go.Proofs.YtbnobghgnbockaaGreat
