/- Lemmas. Conditions: none. -/
import Derived.Test.YtbnobghgnbockaaGreatZk6
import Derived.Scope
set_option linter.all false
set_option maxHeartbeats 0
set_option maxRecDepth 100000
namespace Go.Proofs.YtbnobghgnbockaaGreat
open Tryz (prog)
section
open W Go.RowKit
abbrev QM:=Bool×nA×nA
abbrev qcs(m:QM):ne:=[.bool m.1,m.2.1,nq,m.2.2]
abbrev qv(m:QM):nA:=.agg #[.bool m.1,m.2.1,nq,m.2.2]
def m00:QM:=(false,nz,nz)
def J9(ms:Nat->QM)(j:Nat):nA:=(qcs (ms (j/4))).getD (j%4) undef
def qcell_at(ms:Nat->QM)(k:Nat){r:Nat}(hr:r<4):J9 ms (k*4+r)=(qcs (ms k)).getD r undef:=by
 unfold J9;rw[show(k*4+r)/4=k by omega,show(k*4+r)%4=r by omega]
def JQ(n:Nat)(f:ng):ne:=(List.range n).map f
def Qg(n:Nat)(f:ng):(JQ n f).length=n:=by simp[JQ]
def QU{n:Nat}{f:ng}{j:Nat}(h:j<n):(JQ n f)[j]?=some (f j):=by simp[JQ,h]
def Js{n:Nat}{f:ng}{l:ne}(hl:l.length=n)(h:∀j,j<n->l[j]?=some (f j)):l=JQ n f:=by
 apply eB;intro j;by_cases hj:j<n
 .rw[h j hj,QU hj]
 .rw[List.getElem?_eq_none qo,List.getElem?_eq_none (by rw[Qg];omega)]
def Vn{cs vs:ne}{q j:Nat}(h:q+vs.length<=cs.length):(Jp cs q vs)[j]?=if q<=j/\j<q+vs.length then vs[j-q]? else cs[j]?:=by
 unfold Jp;by_cases h1:j<q
 .rw[ae qo,List.append_assoc,List.getElem?_append_left (by simp;omega),List.getElem?_take,ah h1]
 .by_cases h2:j<q+vs.length
  .rw[ah ⟨by omega,h2⟩,List.getElem?_append_left (by simp;omega),List.getElem?_append_right (by simp;omega)];simp only[ar];rw[aF qo]
  .rw[ae qo,List.getElem?_append_right (by simp;omega),List.getElem?_drop];simp only[List.length_append,ar];rw[aF qo]
   congr 1;omega
def Qy{α:Type}(ms:Nat->α)(k:Nat)(m:α):Nat->α:=λi=>if i=k then m else ms i
def QF{α:Type}{ms:Nat->α}{k:Nat}{m:α}:Qy ms k m k=m:=by simp[Qy]
def Qt{α:Type}{ms:Nat->α}{k i:Nat}{m:α}(h:i≠k):Qy ms k m i=ms i:=by simp[Qy,h]
abbrev Qc(n:Nat)(ms:Nat->QM):ne:=JQ (n*4) (J9 ms)
def YA{l:ne}{n r:Nat}(hl:l.length=n)(hr:r<n):l[r]?=some (l.getD r undef):=by
 simp[List.getD_eq_getElem?_getD,hl ▸ hr]
section
variable {n k:Nat}{ms:Nat->QM}{m:QM}
def qcells_set(h:k<n):Jp (Qc n ms) (k*4) (qcs m)=Qc n (Qy ms k m):=by
 have hle:k*4+(qcs m).length<=(Qc n ms).length:=by rw[Qg];show k*4+4<=n*4;omega
 refine Js (by rw[Z1 hle,Qg]) λj hj=>?_;rw[Vn hle];show(if k*4<=j/\j<k*4+4 then _ else _)=_;split
 .rw[YA (n:=4) rfl qo];unfold J9;rw[show j/4=k by omega,QF,show j%4=j-k*4 by omega]
 .rw[QU hj];unfold J9;rw[Qt qo]
def XQ:Qc n ms++qcs m=Qc (n+1) (Qy ms n m):=by
 refine Js (by rw[List.length_append,Qg];show n*4+4=_;omega) λj hj=>?_;by_cases h:j<n*4
 .rw[List.getElem?_append_left (by rw[Qg];exact h),QU h];unfold J9;rw[Qt qo]
 .rw[List.getElem?_append_right (by rw[Qg];omega),Qg,YA (n:=4) rfl qo];unfold J9;rw[show j/4=n by omega,QF,show j%4=j-n*4 by omega]
end
def madeF(n sz:Nat)(z:nA)(f:ng)(hz:z.cells.size=sz)(h0:0<sz)(h:∀j,z.cells[j%sz]?=some (f j)):(madeCells z.cells (n*sz)).toList=JQ (n*sz) f:=by
 refine Js (by simp[madeCells]) λj hj=>?_;have hm:j%sz<z.cells.size:=by rw[hz];exact bw _ h0
 have h2:=h j;rw[Array.getElem?_eq_getElem hm] at h2;simp only[b8] at h2;subst hz;simp[madeCells,hj,<-h2,getElem!_pos,hm]
def made_q(n:Nat):(madeCells (Value.agg #[nq,nz,nq,nz]).cells (n*4)).toList=Qc n (λ_=>m00):=
 madeF n 4 _ _ rfl qd λj=>by
  unfold J9;have h1:j%4=0\/j%4=1\/j%4=2\/j%4=3:=qo;rcases h1 with h1|h1|h1|h1<;>rw[h1]<;>rfl
section
variable {P:nh}{e:Env}{bx bx':nw}{F:nc}{ty t el:nl}{v u:nA}{x y:ni}{n k:Nat}{ms:Nat->QM}{m:QM}{q:Rat}{K:Qd}
def KnS.oR(h:Ow.slice v el 4 (Qc n ms)∈bx):KnS bx F v n:=KnS.o h (Qg _ _) qd
def YO.ldOR(hs:Row P t 4)(hx:ev e x=some (.pointer (some (eaddr v (k*4)))))(hb:Ow.slice v el 4 (Qc n ms)∈bx)(hk:k<n):YO P (.load t x) ty e bx F (qv (ms k)):=
 YO.ldRO (us:=qcs (ms k)) hs hx hb rfl λi hi=>by
  rw[QU qo,qcell_at _ _ hi,YA (n:=4) rfl hi]
def ZM(hq:Has F (isQ (qv m) q)):QB bx F (qcs m):=
 .cons (One.lit rfl rfl) (.cons (One.sl (KnS.q1 hq)) (.cons (One.lit rfl rfl) (.cons (One.sl (KnS.q2 hq)) .nil)))
def LO.U3(hx:ev e x=some (.pointer (some (eaddr v (k*4)))))(hy:ev e y=some (qv m))(hr:Row P t 4)(hq:Has F (isQ (qv m) q))(hs:Sel bx (.slice v el 4 (Qc n ms)) (.slice v el 4 (Qc n (Qy ms k m))) bx')(hk:k<n)
  (h:K undef bx' F):LO P (.store t x y) ty e bx F K:=
 LO.storeOR (vs:=qcs m) hx hy hr (ZM hq) hs (by rw[Qg];show k*4+4<=n*4;omega) (by simp) (qcells_set hk) h
def Jr:Has F (isQ (qv m00) 0):=Zw
def LO.GS{i:Int}(hx:ev e x=some (nj i))(hy:ev e y=some (nj i))(hi:Jd i n)(hb:n<=1000000)(h:∀v,K v (Ow.slice v 75 4 (Qc n (λ_=>m00))::bx) F):LO prog (.makeSlice 61 x y) ty e bx F K:=by
 obtain rfl:=hi.eq;exact LO.make T.e61 hx hy qo qo (made_q n) h
def LO.byP{op:Op}{p:Prop}(hp:∀fr w,OK fr bx F w->p)(h:p->LO P op ty e bx F K):LO P op ty e bx F K:=λn fr a w o K' h1 h2 h3 h4 h5=>
 h (hp fr w h4) n fr a w o K' h1 h2 h3 h4 h5
def LO.bsR0(h:∀v,K v (Ow.slice v 75 4 []::bx) F):LO prog (.buildSlice 61 0 #[]) ty e bx F K:=LO.buildSlice (parts:=[]) (us:=[]) (cs:=[]) .nil (λ_=>by kernel_rfl) rfl qd h
def LO.bsR1(hx:ev e x=some (qv m))(h:∀v,K v (Ow.slice v 75 4 (qcs m)::bx) F):LO prog (.buildSlice 61 1 #[(0,x)]) ty e bx F K:=LO.buildSlice (parts:=[(0,x)]) (us:=[qv m]) (cs:=qcs m) (.cons hx .nil) (λ_=>by kernel_rfl) rfl qd h
section
variable {el':nl}{bx2:nA->nw}
def LO.appR1(hx:ev e x=some v)(hy:ev e y=some u)(hu:Ow.slice u el' 4 (qcs m)∈bx)(hm:Has F (isQ (qv m) q))(hs:∀v',Sel bx (.slice v 75 4 (Qc n ms)) (.slice v' 75 4 (Qc (n+1) (Qy ms n m))) (bx2 v'))(hl:n<=1000000)(h:∀v',K v' (bx2 v') F) :
  LO prog (.call {callee:=.builtin .append,args:=#[x,y],argTypes:=#[61,61]}) ty e bx F K:=by
 refine LO.byP (λfr w ho=>(ZM (bx:=bx) hm).all ho) λh1=>?_;exact LO.append T.e61 hx hy (news:=qcs m) (by rw[XQ];exact hs) (Qo.one hu rfl qd) h1 (by rw[Qg];show(n*4+4)*64<=_;omega) (by rw[Qg];show n*4+4<=_;omega) h
end
end
def mF(n:Nat)(ms:Nat->QM)(q:nf):Fct where
 p h:=∀i,i<n->(isQ (qv (ms i)) (q i)).p h
 mono _ _ hl hp i hi:=(isQ _ _).mono _ _ hl (hp i hi)
def fF(v:nA)(n:Nat)(ms:Nat->QM)(q:nf):Fct where
 p h:=(slC v n 4 (J9 ms)).p h/\(mF n ms q).p h
 mono _ _ hl hp:=⟨(slC _ _ _ _).mono _ _ hl hp.1,(mF _ _ _).mono _ _ hl hp.2⟩
section
variable {P:nh}{e:Env}{bx bx':nw}{F:nc}{ty t el:nl}{v u:nA}{x y:ni}{n k:Nat}{ms:Nat->QM}{m:QM}{qf:nf}{z:Rat}{K:Qd}
def W.Has.fs(h:Has F (fF v n ms qf)):Has F (slC v n 4 (J9 ms)):=λp hf=>(h p hf).1
def W.Has.fm(h:Has F (fF v n ms qf)):Has F (mF n ms qf):=λp hf=>(h p hf).2
def W.Has.q(h:Has F (mF n ms qf))(hk:k<n):Has F (isQ (qv (ms k)) (qf k)):=λp hf=>h p hf k hk
def KnS.ff(h:Has F (fF v n ms qf)):KnS bx F v n:=KnS.f h.fs
def YO.ldFf(hs:Row P t 4)(hx:ev e x=some (.pointer (some (eaddr v (k*4)))))(hf:Has F (fF v n ms qf))(hk:k<n):YO P (.load t x) ty e bx F (qv (ms k)):=
 YO.ldRS (us:=qcs (ms k)) hs hx hf.fs qo rfl λi hi=>by
  rw[qcell_at _ _ hi];match i,hi with|0,_=>rfl|1,_=>rfl|2,_=>rfl|3,_=>rfl
def W.Has.J0(h:Has F (mF n ms qf))(hm:Has F (isQ (qv m) z)):Has F (mF n (Qy ms k m) (Qy qf k z)):=λp hf i hi=>by
 by_cases c:i=k
 .subst c;rw[QF,QF];exact hm p hf
 .rw[Qt c,Qt c];exact h p hf i hi
def W.Has.Zm(h:Has F (mF n ms qf))(hm:Has F (isQ (qv m) z)):Has F (mF (n+1) (Qy ms n m) (Qy qf n z)):=λp hf i hi=>by
 by_cases c:i=n
 .subst c;rw[QF,QF];exact hm p hf
 .rw[Qt c,Qt c];exact h p hf i qo
def W.Has.QK{q':nf}(h:Has F (mF n ms qf))(he:∀i,i<n->qf i=q' i):Has F (mF n ms q'):=λp hf i hi=>by
 rw[<-he i hi];exact h p hf i hi
def W.Has.mFn(ms:Nat->QM)(q:nf):Has F (mF 0 ms q):=λp hf i hi=>absurd hi qo
def W.Has.mF0(n:Nat):Has F (mF n (λ_=>m00) (λ_=>0)):=λp hf i hi=>Jr p hf
def QV.fF(hb:Ow.slice v el 4 (Qc n ms)∈bx)(hm:Has F (mF n ms qf)):QV bx F (fF v n ms qf):=λfr w ho=>
 ⟨QV.o hb (Qg _ _) qd (λj hj=>QU hj) fr w ho,QV.f hm fr w ho⟩
def okF{fr:CF}{w:nm}(ho:OK fr bx F w)(hs:Sel bx (.slice v el 4 (Qc n ms)) (.slice nz el 4 []) bx')(hm:Has F (mF n ms qf)):OK fr bx' (fF v n ms qf::F) w:=by
 have h:=ho.freeze hs (Qg _ _) qd (J9 ms) λj hj=>QU hj;refine(h.add (f:=Go.Proofs.YtbnobghgnbockaaGreat.fF v n ms qf) ⟨h.facts _ (an ..),?_⟩).less λf hf=>?_
 .exact(show Has (slC v n 4 (J9 ms)::F) (mF n ms qf) from λp hp=>hm p λg hg=>hp g (au _ hg)) _ h.facts
 .rcases List.mem_cons.1 hf with rfl|hf
  .exact an ..
  .exact au _ (au _ hf)
end
section
variable {P:nh}{e:Env}{bx bx':nw}{F:nc}{el n:Nat}{c:Code}{Q:Post}{n':Nat}{rest Lo:List Oper}{Q2:Env->nw->nc->Prop}
def WC.Jh(v:nA)(n:Nat)(ms:Nat->QM)(q:nf)(hs:Sel bx (.slice v el 4 (Qc n ms)) (.slice nz el 4 []) bx')(hm:Has F (mF n ms q))(h:WC P n' c e bx' (fF v n ms q::F) Q):WC P n' c e bx F Q:=λfr w0 a w hk hr ho=>h fr w0 a w hk hr (okF ho hs hm)
def WL.Jh(v:nA)(n:Nat)(ms:Nat->QM)(q:nf)(hs:Sel bx (.slice v el 4 (Qc n ms)) (.slice nz el 4 []) bx')(hm:Has F (mF n ms q))(h:WL P n' Lo rest e bx' (fF v n ms q::F) Q2):WL P n' Lo rest e bx F Q2:=λfr w0 a w Q' hQ hk hr ho=>h fr w0 a w Q' hQ hk hr (okF ho hs hm)
end
end
namespace X
def sm:Nat->nf->Rat
 |0,_=>0
 |n+1,f=>sm n f+f n
section
variable {n m:Nat}{f g:nf}{c:Rat}
def Qb:∀{n:Nat},(∀i,i<n->f i=g i)->sm n f=sm n g
 |0,_=>rfl
 |n+1,h=>by rw[sm,sm,Qb (λi hi=>h i qo),h n qo]
def H2:∀n,sm n (λi=>f i+g i)=sm n f+sm n g
 |0=>by simp only[sm];grind
 |n+1=>by rw[sm,sm,sm,H2 n];grind
def Z2:∀n,sm n (λi=>f i-g i)=sm n f-sm n g
 |0=>by simp[sm];grind
 |n+1=>by rw[sm,sm,sm,Z2 n];grind
def J7(c:Rat):∀n,sm n (λi=>c*f i)=c*sm n f
 |0=>by simp[sm]
 |n+1=>by rw[sm,sm,J7 c n];grind
def XD(c:Rat):∀n,sm n (λi=>f i*c)=sm n f*c
 |0=>by simp[sm]
 |n+1=>by rw[sm,sm,XD c n];grind
def JP:∀{n:Nat},(∀i,i<n->f i=0)->sm n f=0
 |0,_=>rfl
 |n+1,h=>by rw[sm,JP (λi hi=>h i qo),h n qo];grind
def J8{r:Nat}:∀{n:Nat},r<n->(∀i,i<n->i≠r->f i=0)->sm n f=f r
 |0,h,_=>by omega
 |n+1,h,h2=>by
  rw[sm];by_cases e:r=n
  .rw[show sm n f=0 from JP (λi hi=>h2 i qo qo),e];grind
  .rw[J8 (n:=n) qo (λi hi=>h2 i qo),h2 n qo (λh=>e h.symm)];grind
def H3{r:Nat}:∀{n:Nat},r<n->sm n f=f r+sm n (λi=>if i=r then 0 else f i)
 |0,h=>by omega
 |n+1,h=>by
  rw[sm,sm];by_cases e:r=n
  .have h0:sm n (λi=>if i=r then 0 else f i)=sm n f:=Qb λi hi=>ae qo;rw[h0,ah e.symm,e];grind
  .rw[ae (λh=>e h.symm),H3 (n:=n) (r:=r) qo];grind
def Yc{F:Nat->nf}(m:Nat):∀n,sm n (λi=>sm m (λj=>F i j))=sm m (λj=>sm n (λi=>F i j))
 |0=>(JP (λ_ _=>rfl)).symm
 |n+1=>by
  rw[sm,Yc m n,<-H2];rfl
def U1:∀{n:Nat},(∀i,i<n->0<=f i)->0<=sm n f
 |0,_=>by simp[sm]
 |n+1,h=>by
  have h1:=U1 (n:=n) (λi hi=>h i qo);have h2:=h n qo;rw[sm];grind
def sm_le:∀{n:Nat},(∀i,i<n->f i<=g i)->sm n f<=sm n g
 |0,_=>by simp[sm]
 |n+1,h=>by
  have h1:=sm_le (n:=n) (λi hi=>h i qo);have h2:=h n qo;rw[sm,sm];grind
end
structure St where
 t:Nat->nf
 c:nf
 b:Nat->Nat
structure Inv(m n:Nat)(A:Nat->nf)(c0:nf)(s:St):Prop where
 bd:∀i,i<m->s.b i<n
 u:∀i,i<m->∀k,k<m->s.t i (s.b k)=if i=k then 1 else 0
 l:∃M:Nat->nf,∀i,i<m->∀j,j<=n->s.t i j=sm m λr=>M i r*A r j
 r:∀r,r<m->∀j,j<=n->A r j=sm m λi=>A r (s.b i)*s.t i j
 w:∃w:nf,∀j,j<=n->s.c j=c0 j-sm m λr=>w r*A r j
 z:∀i,i<m->s.c (s.b i)=0
def pv(s:St)(row col:Nat):St where
 t i j:=if i=row then s.t row j/s.t row col else s.t i j-s.t i col*(s.t row j/s.t row col)
 c j:=s.c j-s.c col*(s.t row j/s.t row col)
 b i:=if i=row then col else s.b i
section
variable {m n:Nat}{A:Nat->nf}{c0:nf}{s:St}{row col:Nat}
def Inv.pv(h:Inv m n A c0 s)(hr:row<m)(hc:col<n)(hd:s.t row col≠0):Inv m n A c0 (pv s row col):=by
 obtain⟨M,hM⟩:=h.l;obtain⟨w,hw⟩:=h.w;refine⟨λi hi=>?_,λi hi k hk=>?_,⟨λi r=>if i=row then M row r/s.t row col else M i r-s.t i col*(M row r/s.t row col),λi hi j hj=>?_⟩,λr hr' j hj=>?_,⟨λr=>w r+s.c col*(M row r/s.t row col),λj hj=>?_⟩,λi hi=>?_⟩
 .show(if i=row then col else s.b i)<n;split
  .exact hc
  .exact h.bd i hi
 .show(if i=row then s.t row (if k=row then col else s.b k)/s.t row col else s.t i (if k=row then col else s.b k)-s.t i col*(s.t row (if k=row then col else s.b k)/s.t row col))=_;by_cases ek:k=row
  .subst ek;rw[ah rfl];by_cases ei:i=k
   .subst ei;rw[ah rfl,ah rfl];grind
   .rw[ae ei,ae ei];grind
  .rw[ae ek];have h1:=h.u row hr k hk;rw[ae (λe=>ek e.symm)] at h1;by_cases ei:i=row
   .subst ei;rw[ah rfl,h1,ae (λe=>ek e.symm)];grind
   .rw[ae ei,h1,h.u i hi k hk];grind
 .show(if i=row then s.t row j/s.t row col else s.t i j-s.t i col*(s.t row j/s.t row col))=_;have h1:=hM row hr j hj;by_cases ei:i=row
  .subst ei;rw[ah rfl,h1];rw[show(sm m λr=>(if i=i then M i r/s.t i col else M i r-s.t i col*(M i r/s.t i col))*A r j)=sm m (λr=>(M i r*A r j)*(s.t i col)⁻¹) from Qb λr _=>by rw[ah rfl];grind];rw[XD];grind
  .rw[ae ei,h1,hM i hi j hj];rw[show(sm m λr=>(if i=row then M row r/s.t row col else M i r-s.t i col*(M row r/s.t row col))*A r j)=sm m (λr=>M i r*A r j-(M row r*A r j)*(s.t i col*(s.t row col)⁻¹)) from Qb λr _=>by rw[ae ei];grind];rw[Z2,XD];grind
 .show _=sm m λi=>A r (if i=row then col else s.b i)*(if i=row then s.t row j/s.t row col else s.t i j-s.t i col*(s.t row j/s.t row col));have h1:=h.r r hr' j hj;have h2:=h.r r hr' col qo;rw[H3 hr] at h1 h2 ⊢;rw[ah rfl,ah rfl]
  rw[show(sm m λi=>if i=row then 0 else A r (if i=row then col else s.b i)*(if i=row then s.t row j/s.t row col else s.t i j-s.t i col*(s.t row j/s.t row col)))=sm m (λi=>(if i=row then 0 else A r (s.b i)*s.t i j)-(if i=row then 0 else A r (s.b i)*s.t i col)*(s.t row j/s.t row col)) from Qb λi _=>by
   by_cases e:i=row
   .rw[ah e,ah e,ah e];grind
   .rw[ae e,ae e,ae e,ae e,ae e];grind]
  rw[Z2,XD];generalize (sm m λi=>if i=row then 0 else A r (s.b i)*s.t i j)=p at *;generalize (sm m λi=>if i=row then 0 else A r (s.b i)*s.t i col)=q at *;grind
 .show s.c j-s.c col*(s.t row j/s.t row col)=_;rw[hw j hj,hM row hr j hj];rw[show(sm m λr=>(w r+s.c col*(M row r/s.t row col))*A r j)=sm m (λr=>w r*A r j+(M row r*A r j)*(s.c col*(s.t row col)⁻¹)) from Qb λr _=>by grind];rw[H2,XD];grind
 .show s.c (if i=row then col else s.b i)-s.c col*(s.t row (if i=row then col else s.b i)/s.t row col)=0;by_cases e:i=row
  .rw[ah e];grind
  .rw[ae e,h.z i hi,h.u row hr i hi,ae (λh=>e h.symm)];grind
def Inv.cost(h:Inv m n A c0 s){j:Nat}(hj:j<=n):s.c j=c0 j-sm m λi=>c0 (s.b i)*s.t i j:=by
 obtain⟨w,hw⟩:=h.w;rw[hw j hj]
 congr 1
 rw[show(sm m λi=>c0 (s.b i)*s.t i j)=sm m λi=>sm m λr=>w r*(A r (s.b i)*s.t i j) from Qb λi hi=>by
  have h1:=hw (s.b i) (by have:=h.bd i hi;omega);rw[h.z i hi] at h1;rw[show c0 (s.b i)=sm m λr=>w r*A r (s.b i) by grind,<-XD];exact Qb λr _=>by grind]
 rw[Yc];exact Qb λr hr=>by rw[J7,<-h.r r hr j hj]
def Inv.uniq{s':St}(h:Inv m n A c0 s)(h':Inv m n A c0 s')(hb:∀i,i<m->s.b i=s'.b i):(∀i,i<m->∀j,j<=n->s.t i j=s'.t i j)/\∀j,j<=n->s.c j=s'.c j:=by
 obtain⟨M,hM⟩:=h.l
 have h1:∀i,i<m->∀j,j<=n->s.t i j=s'.t i j:=λi hi j hj=>by
  rw[hM i hi j hj]
  rw[show(sm m λr=>M i r*A r j)=sm m λr=>sm m λk=>(M i r*A r (s.b k))*s'.t k j from Qb λr hr=>by
   rw[h'.r r hr j hj,<-J7];exact Qb λk hk=>by rw[hb k hk];grind]
  rw[Yc]
  rw[show(sm m λk=>sm m λr=>(M i r*A r (s.b k))*s'.t k j)=sm m λk=>(if i=k then 1 else 0)*s'.t k j from Qb λk hk=>by
   rw[XD,<-hM i hi _ (by have:=h.bd k hk;omega),h.u i hi k hk]]
  rw[J8 hi (λk _ hk=>by rw[ae (λe=>hk e.symm)];grind),ah rfl];grind
 refine⟨h1,λj hj=>?_⟩;rw[h.cost hj,h'.cost hj]
 congr 1
 exact Qb λi hi=>by rw[hb i hi,h1 i hi j hj]
def Inv.JZ{s':St}(h:Inv m n A c0 s)(h':Inv m n A c0 s'){j:Nat}(hj:j<=n):s.c j=s'.c j-sm m λi=>s'.c (s.b i)*s.t i j:=by
 obtain⟨w,hw⟩:=h'.w;rw[h.cost hj,hw j hj]
 rw[show(sm m λi=>s'.c (s.b i)*s.t i j)=sm m λi=>c0 (s.b i)*s.t i j-sm m λr=>w r*(A r (s.b i)*s.t i j) from Qb λi hi=>by
  rw[hw _ (by have:=h.bd i hi;omega)]
  rw[show(sm m λr=>w r*(A r (s.b i)*s.t i j))=(sm m λr=>w r*A r (s.b i))*s.t i j from by
   rw[<-XD];exact Qb λr _=>by grind]
  grind]
 rw[Z2,Yc];rw[show(sm m λr=>sm m λi=>w r*(A r (s.b i)*s.t i j))=sm m λr=>w r*A r j from Qb λr hr=>by rw[J7,<-h.r r hr j hj]];grind
end
end X
namespace X
def fstT(p:Nat->Bool):Nat->Nat->Option Nat
 |0,_=>none
 |c+1,k=>if p k=true then some k else fstT p c (k+1)
def XR(p:Nat->Bool):∀c k,(fstT p c k=none/\∀j,k<=j->j<k+c->p j=false)\/∃j,fstT p c k=some j/\k<=j/\j<k+c/\p j=true/\∀i,k<=i->i<j->p i=false:=by
 intro c;induction c with
 |zero=>intro k;exact .inl ⟨rfl,λj h1 h2=>by omega⟩
 |succ c ih=>
  intro k;unfold fstT;by_cases h:p k=true
  .rw[ah h];exact .inr ⟨k,rfl,ai _,by omega,h,λi h1 h2=>by omega⟩
  .rw[ae h];have h':p k=false:=by simpa using h
   rcases ih (k+1) with ⟨h1,h2⟩|⟨j,h1,h2,h3,h4,h5⟩
   .refine .inl ⟨h1,λj h3 h4=>?_⟩;by_cases e:j=k
    .rw[e];exact h'
    .exact h2 j qo qo
   .refine .inr ⟨j,h1,by omega,by omega,h4,λi h6 h7=>?_⟩;by_cases e:i=k
    .rw[e];exact h'
    .exact h5 i qo h7
def ent(s:St)(e:Nat):Option Nat:=fstT (λk=>decide (s.c k<0)) e 0
def lev(n:Nat)(s:St)(k:Nat):Nat->Option Nat
 |0=>none
 |i+1=>if s.t i k<=0 then lev n s k i else match lev n s k i with
  |none=>some i
  |some r=>if s.t i n/s.t i k<s.t r n/s.t r k\/(s.t i n/s.t i k=s.t r n/s.t r k/\s.b i<s.b r) then some i else some r
def Ys(s:St)(e:Nat):(ent s e=none/\∀k,k<e->0<=s.c k)\/∃k,ent s e=some k/\k<e/\s.c k<0/\∀j,j<k->0<=s.c j:=by
 rcases XR (λk=>decide (s.c k<0)) e 0 with ⟨h1,h2⟩|⟨j,h1,_,h3,h4,h5⟩
 .exact .inl ⟨h1,λk hk=>by have:=ap (h2 k qo qo);grind⟩
 .exact .inr ⟨j,h1,by omega,ao h4,λk hk=>by have:=ap (h5 k qo hk);grind⟩
def Uz(n:Nat)(s:St)(k:Nat):∀m,(lev n s k m=none/\∀i,i<m->s.t i k<=0)\/∃r,lev n s k m=some r/\r<m/\0<s.t r k/\∀i,i<m->0<s.t i k->s.t r n/s.t r k<=s.t i n/s.t i k/\(s.t i n/s.t i k=s.t r n/s.t r k->s.b r<=s.b i):=by
 intro m;induction m with
 |zero=>exact .inl ⟨rfl,λi h=>by omega⟩
 |succ m ih=>
  unfold lev;by_cases c:s.t m k<=0
  .rw[ah c];rcases ih with ⟨h1,h2⟩|⟨r,h1,h2,h3,h4⟩
   .refine .inl ⟨h1,λi hi=>?_⟩;by_cases e:i=m
    .subst e;exact c
    .exact h2 i qo
   .refine .inr ⟨r,h1,by omega,h3,λi hi hp=>?_⟩;by_cases e:i=m
    .subst e;grind
    .exact h4 i qo hp
  .rw[ae c];rcases ih with ⟨h1,h2⟩|⟨r,h1,h2,h3,h4⟩
   .rw[h1];refine .inr ⟨m,rfl,by omega,by grind,λi hi hp=>?_⟩;by_cases e:i=m
    .subst e;exact⟨by grind,λ_=>ai _⟩
    .have:=h2 i qo;grind
   .rw[h1];simp only;by_cases d:s.t m n/s.t m k<s.t r n/s.t r k\/(s.t m n/s.t m k=s.t r n/s.t r k/\s.b m<s.b r)
    .rw[ah d];refine .inr ⟨m,rfl,by omega,by grind,λi hi hp=>?_⟩;by_cases e:i=m
     .subst e;exact⟨by grind,λ_=>ai _⟩
     .obtain⟨h5,h6⟩:=h4 i qo hp;rcases d with d|⟨d1,d2⟩
      .exact⟨by grind,λh=>by grind⟩
      .exact⟨by grind,λh=>by have:=h6 (by grind);omega⟩
    .rw[ae d];refine .inr ⟨r,rfl,by omega,h3,λi hi hp=>?_⟩;by_cases e:i=m
     .subst e;refine⟨by grind,λh=>?_⟩;by_cases f:s.b i<s.b r
      .exact absurd (.inr ⟨h,f⟩) d
      .omega
     .exact h4 i qo hp
inductive Stp(m n e:Nat)(s:St):St->Prop where
 |mk (r k:Nat):ent s e=some k->lev n s k m=some r->Stp m n e s (pv s r k)
def Bas(m:Nat)(s:St)(v:Nat):Prop:=∃r,r<m/\s.b r=v
section
variable {m n e:Nat}{A:Nat->nf}{c0:nf}
structure Ok(m n e:Nat)(A:Nat->nf)(c0:nf)(s:St):Prop where
 i:Inv m n A c0 s
 f:∀i,i<m->0<=s.t i n
def Ue{a b:Rat}(ha:0<=a)(hb:0<b):0<=a/b:=by
 rw[Rat.div_def];exact bD ha (Rat.le_of_lt (Rat.inv_pos.2 hb))
def Kc{a b:Rat}(hb:b≠0):a/b*b=a:=by grind
def Ok.stp{s s':St}(h:Ok m n e A c0 s)(he:e<=n)(hs:Stp m n e s s'):Ok m n e A c0 s':=by
 obtain⟨r,k,h1,h2⟩:=hs;rcases Ys s e with ⟨g,_⟩|⟨k',g1,g2,g3,g4⟩
 .rw[h1] at g;cases g
 obtain rfl:k=k':=by rw[h1] at g1;cases g1;rfl
 rcases Uz n s k m with ⟨g,_⟩|⟨r',f1,f2,f3,f4⟩
 .rw[h2] at g;cases g
 obtain rfl:r=r':=by rw[h2] at f1;cases f1;rfl
 refine⟨h.i.pv f2 qo (by grind),λi hi=>?_⟩;show 0<=(if i=r then s.t r n/s.t r k else s.t i n-s.t i k*(s.t r n/s.t r k));have hq:=Ue (h.f r f2) f3;by_cases ei:i=r
 .rw[ah ei];exact hq
 .rw[ae ei];by_cases hp:0<s.t i k
  .have h3:=(f4 i hi hp).1;have h4:s.t i n=s.t i n/s.t i k*s.t i k:=(Kc (by grind)).symm;have h5:=bD (Rat.le_of_lt hp) (show 0<=s.t i n/s.t i k-s.t r n/s.t r k by grind);grind
  .have h5:=bD (show 0<=-s.t i k by grind) hq;have:=h.f i hi;grind
end
end X
section
open W Go.RowKit
abbrev Yv(w:Nat)(v:nA)(ms:Nat->QM):Ow:=Ow.slice v 75 4 (Qc w ms)
def HC(l:List Nat)(w:Nat)(rv:ng)(ms:Nat->Nat->QM):nw:=l.map λi=>Yv w (rv i) (ms i)
abbrev Xc(m w:Nat)(rv:ng)(ms:Nat->Nat->QM):nw:=HC (List.range m) w rv ms
abbrev Kr(m w:Nat)(rv:ng)(ms:Nat->Nat->QM)(r:Nat):nw:=HC ((List.range m).erase r) w rv ms
abbrev Fj(m w:Nat)(rv:ng)(ms:Nat->Nat->QM)(r i:Nat):nw:=HC (((List.range m).erase r).erase i) w rv ms
section
variable {m w r i:Nat}{rv:ng}{ms:Nat->Nat->QM}{x y:Nat->QM}
def Xp(h:r<m):(Xc m w rv ms).Perm (Yv w (rv r) (ms r)::Kr m w rv ms r):=by
 have:=(List.perm_cons_erase (List.mem_range.2 h)).map λi=>Yv w (rv i) (ms i);exact this
def rowsX_upd:Kr m w rv (Qy ms r x) r=Kr m w rv ms r:=by
 unfold Kr HC;refine b9 λj hj=>?_;rw[Qt ((List.nodup_range.mem_erase_iff).1 hj).1]
def rows_upd(h:r<m):(Xc m w rv (Qy ms r x)).Perm (Yv w (rv r) x::Kr m w rv ms r):=by
 have:=Xp (w:=w) (rv:=rv) (ms:=Qy ms r x) h
 rwa [rowsX_upd,QF] at this
def rows_two(hr:r<m)(hi:i<m)(hne:i≠r):(Xc m w rv ms).Perm (Yv w (rv i) (ms i)::Yv w (rv r) (ms r)::Fj m w rv ms r i):=by
 refine(Xp hr).trans ?_;have:=(List.perm_cons_erase ((List.nodup_range.mem_erase_iff).2 ⟨hne,List.mem_range.2 hi⟩)).map λi=>Yv w (rv i) (ms i);exact(List.Perm.cons _ this).trans (List.Perm.swap _ _ _)
def rowsY_upd:Fj m w rv (Qy ms i x) r i=Fj m w rv ms r i:=by
 unfold Fj HC;refine b9 λj hj=>?_;rw[Qt ((((List.nodup_range).erase _).mem_erase_iff).1 hj).1]
def Dr(hr:r<m)(hi:i<m)(hne:i≠r):(Xc m w rv (Qy ms i x)).Perm (Yv w (rv i) x::Yv w (rv r) (ms r)::Fj m w rv ms r i):=by
 have:=rows_two (w:=w) (rv:=rv) (ms:=Qy ms i x) hr hi hne
 rwa [rowsY_upd,QF,Qt (λh=>hne h.symm)] at this
end
def fnV(m:Nat)(rv:ng):ne:=(List.range m).map rv
def fnL(m:Nat)(b:Nat->Nat):nd:=(List.range m).map λi=>(b i:Int)
def K6(m:Nat)(rv:ng):(fnV m rv).length=m:=by simp[fnV]
def FM{m:Nat}{rv:ng}{i:Nat}(h:i<m):(fnV m rv)[i]?=some (rv i):=by simp[fnV,h]
def fnL_len(m:Nat)(b:Nat->Nat):(fnL m b).length=m:=by simp[fnL]
def fnL_set{m:Nat}{b:Nat->Nat}{r c:Nat}:(fnL m b).set r (c:Int)=fnL m (Qy b r c):=by
 apply eB;intro j;rw[List.getElem?_set,fnL_len];by_cases e:r=j
 .subst e;rw[ah rfl];by_cases h:r<m
  .rw[ah h];simp[fnL,h,QF]
  .rw[ae h];simp[fnL,h]
 .rw[ae e];by_cases h:j<m
  .simp[fnL,h,Qt (λh=>e h.symm)]
  .simp[fnL,h]
def mT(m w:Nat)(ms:Nat->Nat->QM)(t:Nat->nf):Fct where
 p h:=∀i,i<m->∀k,k<w->(isQ (qv (ms i k)) (t i k)).p h
 mono _ _ hl hp i hi k hk:=(isQ _ _).mono _ _ hl (hp i hi k hk)
def rF(m w:Nat)(rv:ng)(ms:Nat->Nat->QM)(t:Nat->nf):Fct where
 p h:=(∀i,i<m->(slC (rv i) w 4 (J9 (ms i))).p h)/\(mT m w ms t).p h
 mono _ _ hl hp:=⟨λi hi=>(slC _ _ _ _).mono _ _ hl (hp.1 i hi),(mT _ _ _ _).mono _ _ hl hp.2⟩
section
variable {P:nh}{e:Env}{bx bx':nw}{F:nc}{ty t el:nl}{v u:nA}{x y:ni}{m w i k:Nat}{rv:ng}{ms:Nat->Nat->QM}{tq:Nat->nf}{K:Qd}
def W.Has.rt(h:Has F (rF m w rv ms tq)):Has F (mT m w ms tq):=λp hf=>(h p hf).2
def W.Has.rs(h:Has F (rF m w rv ms tq))(hi:i<m):Has F (slC (rv i) w 4 (J9 (ms i))):=λp hf=>(h p hf).1 i hi
def W.Has.qt(h:Has F (mT m w ms tq))(hi:i<m)(hk:k<w):Has F (isQ (qv (ms i k)) (tq i k)):=λp hf=>h p hf i hi k hk
def W.Has.tm(h:Has F (mT m w ms tq))(hi:i<m):Has F (mF w (ms i) (tq i)):=λp hf k hk=>h p hf i hi k hk
def W.Has.tr(h:Has F (rF m w rv ms tq))(hi:i<m):Has F (fF (rv i) w (ms i) (tq i)):=λp hf=>⟨(h p hf).1 i hi,λk hk=>(h p hf).2 i hi k hk⟩
def W.Has.tset{x:Nat->QM}{q:nf}(h:Has F (mT m w ms tq))(hx:Has F (mF w x q)):Has F (mT m w (Qy ms i x) (Qy tq i q)):=λp hf j hj k hk=>by
 by_cases c:j=i
 .subst c;rw[QF,QF];exact hx p hf k hk
 .rw[Qt c,Qt c];exact h p hf j hj k hk
def W.Has.tsame{t':Nat->nf}(h:Has F (mT m w ms tq))(he:∀i,i<m->∀k,k<w->tq i k=t' i k):Has F (mT m w ms t'):=λp hf i hi k hk=>by
 rw[<-he i hi k hk];exact h p hf i hi k hk
def KnS.rf(h:Has F (rF m w rv ms tq))(hi:i<m):KnS bx F (rv i) w:=KnS.f (h.rs hi)
def KnS.oV(h:Ow.slice v el 1 (fnV m rv)∈bx):KnS bx F v m:=KnS.o h (by rw[K6,bP]) qd
def KnS.oN{b:Nat->Nat}(h:Ow.slice v el 1 (ints (fnL m b))∈bx):KnS bx F v m:=KnS.o h (by simp[fnL]) qd
def YO.ldOV(hs:Qk P t)(hx:ev e x=some (.pointer (some (eaddr v i))))(hb:Ow.slice v el 1 (fnV m rv)∈bx)(hi:i<m):YO P (.load t x) ty e bx F (rv i):=YO.ldO hs hx hb (FM hi)
def YO.ldON{b:Nat->Nat}(hs:Qk P t)(hx:ev e x=some (.pointer (some (eaddr v i))))(hb:Ow.slice v el 1 (ints (fnL m b))∈bx)(hi:i<m):YO P (.load t x) ty e bx F (nj (b i)):=YO.ldO hs hx hb (by simp[fnL,hi])
def YO.ldRf(hs:Row P t 4)(hx:ev e x=some (.pointer (some (eaddr (rv i) (k*4)))))(hf:Has F (rF m w rv ms tq))(hi:i<m)(hk:k<w):YO P (.load t x) ty e bx F (qv (ms i k)):=YO.ldFf hs hx (hf.tr hi) hk
def QV.rF(hb:∀i,i<m->Yv w (rv i) (ms i)∈bx)(hm:Has F (mT m w ms tq)):QV bx F (rF m w rv ms tq):=λfr w' ho=>
 ⟨λi hi=>QV.o (hb i hi) (Qg _ _) qd (λj hj=>QU hj) fr w' ho,QV.f hm fr w' ho⟩
def mem_rows{i:Nat}(hi:i<m):Yv w (rv i) (ms i)∈Xc m w rv ms:=List.mem_map.2 ⟨i,List.mem_range.2 hi,rfl⟩
def QV.rows(hs:(Xc m w rv ms).Sublist bx)(hm:Has F (mT m w ms tq)):QV bx F (Go.Proofs.YtbnobghgnbockaaGreat.rF m w rv ms tq):=QV.rF (λ_ hi=>hs.subset (mem_rows hi)) hm
abbrev sV(v:nA)(m:Nat)(rv:ng):Fct:=slC v m 1 rv
def QV.sV(hb:Ow.slice v el 1 (fnV m rv)∈bx):QV bx F (sV v m rv):=QV.o hb (by rw[K6,bP]) qd λj hj=>FM qo
abbrev sN(v:nA)(m:Nat)(b:Nat->Nat):Fct:=slC v m 1 λi=>nj (b i)
def QV.sN{b:Nat->Nat}(hb:Ow.slice v el 1 (ints (fnL m b))∈bx):QV bx F (sN v m b):=QV.o hb (by simp[fnL]) qd λj hj=>by
 have hj':j<m:=qo;simp[fnL,hj']
end
section
variable {P:nh}{n:Nat}{c x y:Code}{L rest:List Oper}{e:Env}{bx bx' r:nw}{F:nc}{Q:Post}{Q2:Env->nw->nc->Prop}
def WC.perm(bx':nw)(hp:bx.Perm bx')(h:WC P n c e bx' F Q):WC P n c e bx F Q:=λfr w0 a w hk hr ho=>h fr w0 a w hk hr (ho.perm hp)
def WL.perm(bx':nw)(hp:bx.Perm bx')(h:WL P n L rest e bx' F Q2):WL P n L rest e bx F Q2:=λfr w0 a w Q' hQ hk hr ho=>h fr w0 a w Q' hQ hk hr (ho.perm hp)
def WD.perm{hs:List Nat}{b0:nw}{F0:nc}{p:Plan}(bx':nw)(hp:bx.Perm bx')(h:WD P n L hs b0 F0 p e bx' F Q2):WD P n L hs b0 F0 p e bx F Q2:=λfr w0 listed a w fuel Q' h1 h2 h3 h4 h5 h6 hk hr ho hf=>h fr w0 listed a w fuel Q' h1 h2 h3 h4 h5 h6 hk hr (ho.perm hp) hf
def WD.Zc{hs:List Nat}{b0:nw}{F0 F':nc}{p:Plan}{i d:Nat}{f:np}{x:ni}{args:List ni}{ats:Array nl}{vs:ne}{R:Qd}{ty:nl}{pos:String}{af:Array Edge}{gd:Option (Nat×Bool)}(ba br:nw)(hp:bx.Perm (ba++br))(hf:FnB P f vs ba F' R)(hK:∀v b G,R v b G->WD P n L hs b0 F0 p ((d,v)::e) (b++br) (G++F) Q2)
  (hL:L[i]?=some ⟨some d,.call {callee:=.value x,args:=args.toArray,argTypes:=ats},ty,pos,af,gd⟩:=by exact rfl) (hx:ev e x=some (.func (.func f) #[] #[]):=by exact rfl) (hv:Evs e args vs:=by repeat(first|exact Evs.nil|(apply Evs.cons;exact rfl))) (hF:Qz F F':=by repeat(first|exact Qz.nil|(apply Qz.cons;exact hsA)))
  (hd:Nat.blt d n=true:=by exact rfl) (hg:gok L e gd=some true:=by exact rfl) (lt:Q3 L hs i=true:=by kernel_rfl):WD P n L hs b0 F0 (.loud i p) e bx F Q2:=
 WD.l hL hd hg (LO.call (first:=[]) (cap:=[]) hx hv ba br hp (by simpa using hf) hF.all λv b G hR=>⟨.inl lt,hK v b G hR⟩)
def WD.XV{hs:List Nat}{b0:nw}{F0 F':nc}{p:Plan}{i d:Nat}{f:np}{x:ni}{args:List ni}{ats:Array nl}{vs:ne}{R:Qd}{ty:nl}{pos:String}{af:Array Edge}{gd:Option (Nat×Bool)}(first cap:ne)(hf:FnB P f (first++vs++cap) [] F' R)(hK:∀v b G,R v b G->WD P n L hs b0 F0 p ((d,v)::e) (b++bx) (G++F) Q2)
  (hL:L[i]?=some ⟨some d,.call {callee:=.value x,args:=args.toArray,argTypes:=ats},ty,pos,af,gd⟩:=by exact rfl) (hx:ev e x=some (.func (.func f) first.toArray cap.toArray):=by exact rfl) (hv:Evs e args vs:=by repeat(first|exact Evs.nil|(apply Evs.cons;exact rfl))) (hF:Qz F F':=by repeat(first|exact Qz.nil|(apply Qz.cons;exact hsA)))
  (hd:Nat.blt d n=true:=by exact rfl) (hg:gok L e gd=some true:=by exact rfl) (lt:Q3 L hs i=true\/(b0.Sublist bx/\∀f∈F0,f∈F):=by(first|exact wq1|(apply Or.inl;kernel_rfl))):WD P n L hs b0 F0 (.loud i p) e bx F Q2:=
 WD.l hL hd hg (LO.call hx hv [] bx (.refl _) hf hF.all λv b G hR=>⟨lt.imp id λh=>⟨h.1.trans (dD _ _),λf hf=>aV _ (h.2 f hf)⟩,hK v b G hR⟩)
def WL.XV{F':nc}{d:Nat}{f:np}{x:ni}{args:List ni}{ats:Array nl}{vs:ne}{R:Qd}{ty:nl}{pos:String}{af:Array Edge}{gd:Option (Nat×Bool)}(first cap:ne)(hf:FnB P f (first++vs++cap) [] F' R)(hK:∀v b G,R v b G->WL P n L rest ((d,v)::e) (b++bx) (G++F) Q2)
  (hx:ev e x=some (.func (.func f) first.toArray cap.toArray):=by exact rfl) (hv:Evs e args vs:=by repeat(first|exact Evs.nil|(apply Evs.cons;exact rfl))) (hF:Qz F F':=by repeat(first|exact Qz.nil|(apply Qz.cons;exact hsA)))
  (hd:Nat.blt d n=true:=by exact rfl) (hg:gok L e gd=some true:=by exact rfl):WL P n L (⟨some d,.call {callee:=.value x,args:=args.toArray,argTypes:=ats},ty,pos,af,gd⟩::rest) e bx F Q2:=
 WL.l hd hg (LO.call hx hv [] bx (.refl _) hf hF.all hK)
def W.Qz.tail:∀{F G:nc},(∀f∈G,f∈F)->Qz F G
 |_,[],_=>.nil
 |_,g::G,h=>.cons (Has.mem (h g (an ..))) (W.Qz.tail λf hf=>h f (au _ hf))
def perm3(a b c:Ow)(r:nw):(c::a::b::r).Perm (a::b::c::r):=by
 have h:([c,a,b]:nw).Perm [a,b,c]:=(aJ (a:=c) (l₁:=[a,b]) (l₂:=[])).symm;exact h.append_right r
def perm6{a b c d x y:Ow}{r R:nw}(h:R.Perm (x::y::r)):(a::b::c::d::R).Perm ([x,y]++(a::b::c::d::r)):=by
 have h1:(a::b::c::d::R).Perm ([a,b,c,d]++([x,y]++r)):=(((h.cons d).cons c).cons b).cons a;refine h1.trans ?_;rw[<-List.append_assoc];have h2:([a,b,c,d]++[x,y]).Perm ([x,y]++[a,b,c,d]):=ay;have h3:=h2.append_right r;rw[List.append_assoc [x,y]] at h3;exact h3
def perm5{a b c d x:Ow}{r R:nw}(h:R.Perm (x::r)):(a::b::c::d::R).Perm ([c,x]++(a::b::d::r)):=by
 have h1:(a::b::c::d::R).Perm ([a,b,c,d,x]++r):=(((h.cons d).cons c).cons b).cons a;refine h1.trans ?_
 have h2:([a,b,c,d,x]:nw).Perm [c,x,a,b,d]:=by
  have e1:([a,b,c,d,x]:nw).Perm (c::[a,b,d,x]):=aJ (l₁:=[a,b]) (l₂:=[d,x])
  have e2:([a,b,d,x]:nw).Perm (x::[a,b,d]):=by
   have:=aJ (a:=x) (l₁:=[a,b,d]) (l₂:=[]);simpa using this
  exact e1.trans (e2.cons c)
 exact h2.append_right r
def YO.eqNz{t el sz m:Nat}{x:ni}{v:nA}{ty:nl}(hs:Qh P t el sz)(hx:ev e x=some v)(hv:KnS bx F v m)(ty2:nl):YO P (.binOp .eql t x (.const nz) ty2) ty e bx F (.bool (isNil v)):=.of λk fr a w o hop hk ho=>by
 have hx':=hk.eval hx;obtain⟨a',cap,rfl,_,_,h5⟩:=(hv fr w ho).is;have he:(eqGuard .eql t x (.const nz) (.slice a' m cap) nz).run P w=.ok () w:=by unfold eqGuard;simp[Sem.run_pure]
 have h2:a.eval (.const nz)=nz:=rfl;have he2:∀es,(eqGuard .eql t x (.const nz) (.slice a' m cap) nz).events P w es=es:=λes=>by unfold eqGuard;simp
 have h3:(Op.equal t (.slice a' m cap) nz).run P w=.ok (isNil (.slice a' m cap)) w:=Fh 9999 w hs.1;have h4:∀es,(Op.equal t (.slice a' m cap) nz).events P w es=es:=λes=>ev_eqnil 9999 w es hs.1;constructor<;>simp[execOp,hop,hx',h2,he,he2,binOp,h3,h4]
def YO.eqNz_t{t el sz m:Nat}{x:ni}{v:nA}{ty ty2:nl}(hs:Qh P t el sz)(hx:ev e x=some v)(hv:KnS bx F v m)(h:isNil v=true):YO P (.binOp .eql t x (.const (.slice none 0 0)) ty2) ty e bx F (.bool true):=by rw[<-h];exact YO.eqNz hs hx hv ty2
def YO.eqNz_f{t el sz m:Nat}{x:ni}{v:nA}{ty ty2:nl}(hs:Qh P t el sz)(hx:ev e x=some v)(hv:KnS bx F v m)(h:isNil v=false):YO P (.binOp .eql t x (.const (.slice none 0 0)) ty2) ty e bx F (.bool false):=by rw[<-h];exact YO.eqNz hs hx hv ty2
def WC.nilF{v:nA}{m:Nat}{ms:Nat->QM}{q:nf}(hf:Has F (fF v m ms q))(hn:isNil v=true)(h:m=0->WC P n c e bx F Q):WC P n c e bx F Q:=
 WC.pure (λfr w ho=>by
  obtain⟨a,cap,rfl,h2,h3,h4|⟨b,off,rfl,_⟩⟩:=ho.has hf.fs
  .exact h4.2.1
  .cases hn) h
def one_fcells{F:nc}{n':Nat}{ms:Nat->QM}{q:nf}{fr:CF}{w:nm}(ho:OK fr bx F w)(hm:Has F (mF n' ms q)):∀c∈Qc n' ms,c.oneCell'=true:=λc hc=>by
 simp only[Qc,JQ,List.mem_map,fb] at hc;obtain⟨j,hj,rfl⟩:=hc;have:=(ZM (m:=ms (j/4)) (bx:=bx) (W.Has.q hm (k:=j/4) qo)).all ho;unfold J9;have hr:=YA (l:=qcs (ms (j/4))) (r:=j%4) (n:=4) rfl qo;exact this _ (bQ hr)
def LO.appFf{n':Nat}{v u:nA}{x y:ni}{ty:nl}{K:Qd}{ms:Nat->QM}{q:nf}{bx2:nA->nw}(hx:ev e x=some v)(hy:ev e y=some u)(hu:Has F (fF u n' ms q))(hs:∀v',Sel bx (.slice v 75 4 []) (.slice v' 75 4 (Qc n' ms)) (bx2 v'))(hl:n'<=1000000)(h:∀v',K v' (bx2 v') F) :
  LO prog (.call {callee:=.builtin .append,args:=#[x,y],argTypes:=#[61,61]}) ty e bx F K:=by
 refine LO.byP (λfr w ho=>one_fcells ho hu.fm) λh1=>?_;exact LO.append T.e61 hx hy (cs:=[]) (news:=Qc n' ms) hs (Qo.fact hu.fs) h1 (by rw[Qg,bF];omega) (by rw[Qg,bF];omega) h
def XW{σ:Type}(E:σ->Env)(B:σ->nw)(G:σ->nc)(I:σ->Prop)(μ:σ->Nat)(s:σ)(e':Env)(bx':nw)(F':nc):Prop:=∃s',(I s'/\μ s'<μ s)/\W.Sub (E s') e'/\(∃r,bx'.Perm (B s'++r))/\Qz F' (G s')
def WC.lpP{σ:Type}(E:σ->Env)(B:σ->nw)(G:σ->nc)(I:σ->Prop)(μ:σ->Nat)(s0:σ)(hI:I s0)(hround:∀s,I s->WC P n c (E s) (B s) (G s) (XB (XW E B G I μ s) Q))
  (hE:W.Sub (E s0) e:=by repeat(first|exact Sub.nil _|refine Sub.cons rfl ?_)) (hB:(B s0).Sublist bx:=by repeat(first|exact wq6|apply List.Sublist.cons_cons|apply List.Sublist.cons)) (hG:Qz F (G s0):=by repeat(first|exact Qz.nil|(apply Qz.cons;exact hmA))):WC P n (.loop c) e bx F Q:=
 WC.loop E B G I μ s0 hI hE hB hG.all λs hs fr w0 a w hk hr ho=>XC (hround s hs fr w0 a w hk hr ho) λown ex a' w' hq=>by
  cases ex<;>first|exact hq|skip
  obtain⟨hw,e1,b1,F1,h1,h2,h3,s',h4,h5,⟨r,h6⟩,h7⟩:=hq;exact⟨hw,e1,B s',F1,h1,h2,(h3.perm h6).drop (dJ _ _),s',h4,h5,aI _,h7.all⟩
def XW.mk{σ:Type}{E:σ->Env}{B:σ->nw}{G:σ->nc}{I:σ->Prop}{μ:σ->Nat}{s:σ}{e':Env}{F':nc}(s':σ)
  (hI:I s') (hμ:μ s'<μ s) (r:nw) (hp:bx.Perm (B s'++r)) (hE:W.Sub (E s') e':=by repeat(first|exact Sub.nil _|refine Sub.cons rfl ?_)) (hG:Qz F' (G s'):=by repeat(first|exact Qz.nil|(apply Qz.cons;exact hmA))):XW E B G I μ s e' bx F':=⟨s',⟨hI,hμ⟩,hE,⟨r,hp⟩,hG⟩
end
end
end Go.Proofs.YtbnobghgnbockaaGreat
