/- Lemmas for a law. Conditions: none. -/
import Derived.Test.YtbnobghgnbockaaGreatZg6
import Derived.Scope
set_option linter.all false
set_option maxHeartbeats 32000000
set_option maxRecDepth 100000
namespace Go.Proofs.YtbnobghgnbockaaGreat
section
open W Go.RowKit
abbrev QM:=Bool×Value×Value
abbrev qcs(m:QM):List Value:=[.bool m.1,m.2.1,.bool false,m.2.2]
abbrev qv(m:QM):Value:=.agg #[.bool m.1,m.2.1,.bool false,m.2.2]
def m00:QM:=(false,.slice none 0 0,.slice none 0 0)
def JR(ms:Nat->QM)(j:Nat):Value:=(qcs (ms (j/4))).getD (j%4) undef
def qcell_at(ms:Nat->QM)(k:Nat){r:Nat}(hr:r<4):JR ms (k*4+r)=(qcs (ms k)).getD r undef:=by
 unfold JR;rw[show(k*4+r)/4=k by omega,show(k*4+r)%4=r by omega]
def Jh(n:Nat)(f:Nat->Value):List Value:=(List.range n).map f
def Qu(n:Nat)(f:Nat->Value):(Jh n f).length=n:=by simp[Jh]
def QK{n:Nat}{f:Nat->Value}{j:Nat}(h:j<n):(Jh n f)[j]?=some (f j):=by simp[Jh,h]
def Jv{n:Nat}{f:Nat->Value}{l:List Value}(hl:l.length=n)(h:∀j,j<n->l[j]?=some (f j)):l=Jh n f:=by
 apply List.ext_getElem?;intro j;by_cases hj:j<n
 .rw[h j hj,QK hj]
 .rw[List.getElem?_eq_none qo,List.getElem?_eq_none (by rw[Qu];omega)]
def Vw{cs vs:List Value}{q j:Nat}(h:q+vs.length<=cs.length):(Jk cs q vs)[j]?=if q<=j/\j<q+vs.length then vs[j-q]? else cs[j]?:=by
 unfold Jk;by_cases h1:j<q
 .rw[if_neg qo,List.append_assoc,List.getElem?_append_left (by simp;omega),List.getElem?_take,if_pos h1]
 .by_cases h2:j<q+vs.length
  .rw[if_pos ⟨by omega,h2⟩,List.getElem?_append_left (by simp;omega),List.getElem?_append_right (by simp;omega)];simp only[List.length_take];rw[Nat.min_eq_left qo]
  .rw[if_neg qo,List.getElem?_append_right (by simp;omega),List.getElem?_drop];simp only[List.length_append,List.length_take];rw[Nat.min_eq_left qo]
   congr 1;omega
def upd{α:Type}(ms:Nat->α)(k:Nat)(m:α):Nat->α:=λi=>if i=k then m else ms i
def QU{α:Type}{ms:Nat->α}{k:Nat}{m:α}:upd ms k m k=m:=by simp[upd]
def upd_ne{α:Type}{ms:Nat->α}{k i:Nat}{m:α}(h:i≠k):upd ms k m i=ms i:=by simp[upd,h]
abbrev Qa(n:Nat)(ms:Nat->QM):List Value:=Jh (n*4) (JR ms)
def YH{l:List Value}{n r:Nat}(hl:l.length=n)(hr:r<n):l[r]?=some (l.getD r undef):=by
 simp[List.getD_eq_getElem?_getD,hl ▸ hr]
section
variable {n k:Nat}{ms:Nat->QM}{m:QM}
def qcells_set(h:k<n):Jk (Qa n ms) (k*4) (qcs m)=Qa n (upd ms k m):=by
 have hle:k*4+(qcs m).length<=(Qa n ms).length:=by rw[Qu];show k*4+4<=n*4;omega
 refine Jv (by rw[ZH hle,Qu]) λj hj=>?_;rw[Vw hle];show(if k*4<=j/\j<k*4+4 then _ else _)=_;split
 .rw[YH (n:=4) rfl qo];unfold JR;rw[show j/4=k by omega,QU,show j%4=j-k*4 by omega]
 .rw[QK hj];unfold JR;rw[upd_ne qo]
def Xa:Qa n ms++qcs m=Qa (n+1) (upd ms n m):=by
 refine Jv (by rw[List.length_append,Qu];show n*4+4=_;omega) λj hj=>?_;by_cases h:j<n*4
 .rw[List.getElem?_append_left (by rw[Qu];exact h),QK h];unfold JR;rw[upd_ne qo]
 .rw[List.getElem?_append_right (by rw[Qu];omega),Qu,YH (n:=4) rfl qo];unfold JR;rw[show j/4=n by omega,QU,show j%4=j-n*4 by omega]
end
def madeF(n sz:Nat)(z:Value)(f:Nat->Value)(hz:z.cells.size=sz)(h0:0<sz)(h:∀j,z.cells[j%sz]?=some (f j)):(madeCells z.cells (n*sz)).toList=Jh (n*sz) f:=by
 refine Jv (by simp[madeCells]) λj hj=>?_;have hm:j%sz<z.cells.size:=by rw[hz];exact Nat.mod_lt _ h0
 have h2:=h j;rw[Array.getElem?_eq_getElem hm] at h2;simp only[Option.some.injEq] at h2;subst hz;simp[madeCells,hj,<-h2,getElem!_pos,hm]
def made_q(n:Nat):(madeCells (Value.agg #[.bool false,.slice none 0 0,.bool false,.slice none 0 0]).cells (n*4)).toList=Qa n (λ_=>m00):=
 madeF n 4 _ _ rfl qd λj=>by
  unfold JR;have h1:j%4=0\/j%4=1\/j%4=2\/j%4=3:=qo;rcases h1 with h1|h1|h1|h1<;>rw[h1]<;>rfl
section
variable {P:Program}{e:Env}{bx bx':List Ow}{F:List Fct}{ty t el:TypeId}{v u:Value}{x y:Operand}{n k:Nat}{ms:Nat->QM}{m:QM}{q:Rat}{K:Qf}
def KnS.oR(h:Ow.slice v el 4 (Qa n ms)∈bx):KnS bx F v n:=KnS.o h (Qu _ _) qd
def YO.ldOR(hs:Row P t 4)(hx:ev e x=some (.pointer (some (eaddr v (k*4)))))(hb:Ow.slice v el 4 (Qa n ms)∈bx)(hk:k<n):YO P (.load t x) ty e bx F (qv (ms k)):=
 YO.ldRO (us:=qcs (ms k)) hs hx hb rfl λi hi=>by
  rw[QK qo,qcell_at _ _ hi,YH (n:=4) rfl hi]
def ZK(hq:Has F (isQ (qv m) q)):QA bx F (qcs m):=
 .cons (One.lit rfl rfl) (.cons (One.sl (KnS.q1 hq)) (.cons (One.lit rfl rfl) (.cons (One.sl (KnS.q2 hq)) .nil)))
def LO.UP(hx:ev e x=some (.pointer (some (eaddr v (k*4)))))(hy:ev e y=some (qv m))(hr:Row P t 4)(hq:Has F (isQ (qv m) q))(hs:Sel bx (.slice v el 4 (Qa n ms)) (.slice v el 4 (Qa n (upd ms k m))) bx')(hk:k<n)
  (h:K undef bx' F):LO P (.store t x y) ty e bx F K:=
 LO.storeOR (vs:=qcs m) hx hy hr (ZK hq) hs (by rw[Qu];show k*4+4<=n*4;omega) (by simp) (qcells_set hk) h
def JA:Has F (isQ (qv m00) 0):=Y7
def LO.GV{i:Int}(hx:ev e x=some (.int .i64 i))(hy:ev e y=some (.int .i64 i))(hi:Q9 i n)(hb:n<=1000000)(h:∀v,K v (Ow.slice v 75 4 (Qa n (λ_=>m00))::bx) F):LO Tryz.prog (.makeSlice 61 x y) ty e bx F K:=by
 obtain rfl:=hi.eq;exact LO.make T.e61 hx hy qo qo (made_q n) h
def LO.byP{op:Op}{p:Prop}(hp:∀fr w,OK fr bx F w->p)(h:p->LO P op ty e bx F K):LO P op ty e bx F K:=λn fr a w o K' h1 h2 h3 h4 h5=>
 h (hp fr w h4) n fr a w o K' h1 h2 h3 h4 h5
def LO.bsR0(h:∀v,K v (Ow.slice v 75 4 []::bx) F):LO Tryz.prog (.buildSlice 61 0 #[]) ty e bx F K:=LO.buildSlice (parts:=[]) (us:=[]) (cs:=[]) .nil (λ_=>by kernel_rfl) rfl qd h
def LO.bsR1(hx:ev e x=some (qv m))(h:∀v,K v (Ow.slice v 75 4 (qcs m)::bx) F):LO Tryz.prog (.buildSlice 61 1 #[(0,x)]) ty e bx F K:=LO.buildSlice (parts:=[(0,x)]) (us:=[qv m]) (cs:=qcs m) (.cons hx .nil) (λ_=>by kernel_rfl) rfl qd h
section
variable {el':TypeId}{bx2:Value->List Ow}
def LO.appR1(hx:ev e x=some v)(hy:ev e y=some u)(hu:Ow.slice u el' 4 (qcs m)∈bx)(hm:Has F (isQ (qv m) q))(hs:∀v',Sel bx (.slice v 75 4 (Qa n ms)) (.slice v' 75 4 (Qa (n+1) (upd ms n m))) (bx2 v'))(hl:n<=1000000)(h:∀v',K v' (bx2 v') F) :
  LO Tryz.prog (.call {callee:=.builtin .append,args:=#[x,y],argTypes:=#[61,61]}) ty e bx F K:=by
 refine LO.byP (λfr w ho=>(ZK (bx:=bx) hm).all ho) λh1=>?_;exact LO.append T.e61 hx hy (news:=qcs m) (by rw[Xa];exact hs) (Qp.one hu rfl qd) h1 (by rw[Qu];show(n*4+4)*64<=_;omega) (by rw[Qu];show n*4+4<=_;omega) h
end
end
def mF(n:Nat)(ms:Nat->QM)(q:Nat->Rat):Fct where
 p h:=∀i,i<n->(isQ (qv (ms i)) (q i)).p h
 mono _ _ hl hp i hi:=(isQ _ _).mono _ _ hl (hp i hi)
def fF(v:Value)(n:Nat)(ms:Nat->QM)(q:Nat->Rat):Fct where
 p h:=(slC v n 4 (JR ms)).p h/\(mF n ms q).p h
 mono _ _ hl hp:=⟨(slC _ _ _ _).mono _ _ hl hp.1,(mF _ _ _).mono _ _ hl hp.2⟩
section
variable {P:Program}{e:Env}{bx bx':List Ow}{F:List Fct}{ty t el:TypeId}{v u:Value}{x y:Operand}{n k:Nat}{ms:Nat->QM}{m:QM}{qf:Nat->Rat}{z:Rat}{K:Qf}
def W.Has.fs(h:Has F (fF v n ms qf)):Has F (slC v n 4 (JR ms)):=λp hf=>(h p hf).1
def W.Has.fm(h:Has F (fF v n ms qf)):Has F (mF n ms qf):=λp hf=>(h p hf).2
def W.Has.q(h:Has F (mF n ms qf))(hk:k<n):Has F (isQ (qv (ms k)) (qf k)):=λp hf=>h p hf k hk
def KnS.ff(h:Has F (fF v n ms qf)):KnS bx F v n:=KnS.f h.fs
def YO.ldFf(hs:Row P t 4)(hx:ev e x=some (.pointer (some (eaddr v (k*4)))))(hf:Has F (fF v n ms qf))(hk:k<n):YO P (.load t x) ty e bx F (qv (ms k)):=
 YO.ldRS (us:=qcs (ms k)) hs hx hf.fs qo rfl λi hi=>by
  rw[qcell_at _ _ hi];match i,hi with|0,_=>rfl|1,_=>rfl|2,_=>rfl|3,_=>rfl
def W.Has.Xh(h:Has F (mF n ms qf))(hm:Has F (isQ (qv m) z)):Has F (mF n (upd ms k m) (upd qf k z)):=λp hf i hi=>by
 by_cases c:i=k
 .subst c;rw[QU,QU];exact hm p hf
 .rw[upd_ne c,upd_ne c];exact h p hf i hi
def W.Has.mFapp(h:Has F (mF n ms qf))(hm:Has F (isQ (qv m) z)):Has F (mF (n+1) (upd ms n m) (upd qf n z)):=λp hf i hi=>by
 by_cases c:i=n
 .subst c;rw[QU,QU];exact hm p hf
 .rw[upd_ne c,upd_ne c];exact h p hf i qo
def W.Has.QN{q':Nat->Rat}(h:Has F (mF n ms qf))(he:∀i,i<n->qf i=q' i):Has F (mF n ms q'):=λp hf i hi=>by
 rw[<-he i hi];exact h p hf i hi
def W.Has.mFn(ms:Nat->QM)(q:Nat->Rat):Has F (mF 0 ms q):=λp hf i hi=>absurd hi qo
def W.Has.mF0(n:Nat):Has F (mF n (λ_=>m00) (λ_=>0)):=λp hf i hi=>JA p hf
def QQ.fF(hb:Ow.slice v el 4 (Qa n ms)∈bx)(hm:Has F (mF n ms qf)):QQ bx F (fF v n ms qf):=λfr w ho=>
 ⟨QQ.o hb (Qu _ _) qd (λj hj=>QK hj) fr w ho,QQ.f hm fr w ho⟩
def okF{fr:CF}{w:World}(ho:OK fr bx F w)(hs:Sel bx (.slice v el 4 (Qa n ms)) (.slice (.slice none 0 0) el 4 []) bx')(hm:Has F (mF n ms qf)):OK fr bx' (fF v n ms qf::F) w:=by
 have h:=ho.freeze hs (Qu _ _) qd (JR ms) λj hj=>QK hj;refine(h.add (f:=Go.Proofs.YtbnobghgnbockaaGreat.fF v n ms qf) ⟨h.facts _ (List.mem_cons_self ..),?_⟩).less λf hf=>?_
 .exact(show Has (slC v n 4 (JR ms)::F) (mF n ms qf) from λp hp=>hm p λg hg=>hp g (List.mem_cons_of_mem _ hg)) _ h.facts
 .rcases List.mem_cons.1 hf with rfl|hf
  .exact List.mem_cons_self ..
  .exact List.mem_cons_of_mem _ (List.mem_cons_of_mem _ hf)
end
section
variable {P:Program}{e:Env}{bx bx':List Ow}{F:List Fct}{el n:Nat}{c:Code}{Q:Post}{n':Nat}{rest Lo:List Oper}{Q2:Env->List Ow->List Fct->Prop}
def WC.Xd(v:Value)(n:Nat)(ms:Nat->QM)(q:Nat->Rat)(hs:Sel bx (.slice v el 4 (Qa n ms)) (.slice (.slice none 0 0) el 4 []) bx')(hm:Has F (mF n ms q))(h:WC P n' c e bx' (fF v n ms q::F) Q):WC P n' c e bx F Q:=λfr w0 a w hk hr ho=>h fr w0 a w hk hr (okF ho hs hm)
def WL.Xd(v:Value)(n:Nat)(ms:Nat->QM)(q:Nat->Rat)(hs:Sel bx (.slice v el 4 (Qa n ms)) (.slice (.slice none 0 0) el 4 []) bx')(hm:Has F (mF n ms q))(h:WL P n' Lo rest e bx' (fF v n ms q::F) Q2):WL P n' Lo rest e bx F Q2:=λfr w0 a w Q' hQ hk hr ho=>h fr w0 a w Q' hQ hk hr (okF ho hs hm)
end
end
namespace X
def sm:Nat->(Nat->Rat)->Rat
 |0,_=>0
 |n+1,f=>sm n f+f n
section
variable {n m:Nat}{f g:Nat->Rat}{c:Rat}
def Qd:∀{n:Nat},(∀i,i<n->f i=g i)->sm n f=sm n g
 |0,_=>rfl
 |n+1,h=>by rw[sm,sm,Qd (λi hi=>h i qo),h n qo]
def HF:∀n,sm n (λi=>f i+g i)=sm n f+sm n g
 |0=>by simp only[sm];grind
 |n+1=>by rw[sm,sm,sm,HF n];grind
def ZG:∀n,sm n (λi=>f i-g i)=sm n f-sm n g
 |0=>by simp[sm];grind
 |n+1=>by rw[sm,sm,sm,ZG n];grind
def JH(c:Rat):∀n,sm n (λi=>c*f i)=c*sm n f
 |0=>by simp[sm]
 |n+1=>by rw[sm,sm,JH c n];grind
def Xe(c:Rat):∀n,sm n (λi=>f i*c)=sm n f*c
 |0=>by simp[sm]
 |n+1=>by rw[sm,sm,Xe c n];grind
def JU:∀{n:Nat},(∀i,i<n->f i=0)->sm n f=0
 |0,_=>rfl
 |n+1,h=>by rw[sm,JU (λi hi=>h i qo),h n qo];grind
def JO{r:Nat}:∀{n:Nat},r<n->(∀i,i<n->i≠r->f i=0)->sm n f=f r
 |0,h,_=>by omega
 |n+1,h,h2=>by
  rw[sm];by_cases e:r=n
  .rw[show sm n f=0 from JU (λi hi=>h2 i qo qo),e];grind
  .rw[JO (n:=n) qo (λi hi=>h2 i qo),h2 n qo (λh=>e h.symm)];grind
def HD{r:Nat}:∀{n:Nat},r<n->sm n f=f r+sm n (λi=>if i=r then 0 else f i)
 |0,h=>by omega
 |n+1,h=>by
  rw[sm,sm];by_cases e:r=n
  .have h0:sm n (λi=>if i=r then 0 else f i)=sm n f:=Qd λi hi=>if_neg qo;rw[h0,if_pos e.symm,e];grind
  .rw[if_neg (λh=>e h.symm),HD (n:=n) (r:=r) qo];grind
def XW{F:Nat->Nat->Rat}(m:Nat):∀n,sm n (λi=>sm m (λj=>F i j))=sm m (λj=>sm n (λi=>F i j))
 |0=>(JU (λ_ _=>rfl)).symm
 |n+1=>by
  rw[sm,XW m n,<-HF];rfl
def UM:∀{n:Nat},(∀i,i<n->0<=f i)->0<=sm n f
 |0,_=>by simp[sm]
 |n+1,h=>by
  have h1:=UM (n:=n) (λi hi=>h i qo);have h2:=h n qo;rw[sm];grind
def sm_le:∀{n:Nat},(∀i,i<n->f i<=g i)->sm n f<=sm n g
 |0,_=>by simp[sm]
 |n+1,h=>by
  have h1:=sm_le (n:=n) (λi hi=>h i qo);have h2:=h n qo;rw[sm,sm];grind
end
structure St where
 t:Nat->Nat->Rat
 c:Nat->Rat
 b:Nat->Nat
structure Inv(m n:Nat)(A:Nat->Nat->Rat)(c0:Nat->Rat)(s:St):Prop where
 bd:∀i,i<m->s.b i<n
 u:∀i,i<m->∀k,k<m->s.t i (s.b k)=if i=k then 1 else 0
 l:∃M:Nat->Nat->Rat,∀i,i<m->∀j,j<=n->s.t i j=sm m λr=>M i r*A r j
 r:∀r,r<m->∀j,j<=n->A r j=sm m λi=>A r (s.b i)*s.t i j
 w:∃w:Nat->Rat,∀j,j<=n->s.c j=c0 j-sm m λr=>w r*A r j
 z:∀i,i<m->s.c (s.b i)=0
def pv(s:St)(row col:Nat):St where
 t i j:=if i=row then s.t row j/s.t row col else s.t i j-s.t i col*(s.t row j/s.t row col)
 c j:=s.c j-s.c col*(s.t row j/s.t row col)
 b i:=if i=row then col else s.b i
section
variable {m n:Nat}{A:Nat->Nat->Rat}{c0:Nat->Rat}{s:St}{row col:Nat}
def Inv.pv(h:Inv m n A c0 s)(hr:row<m)(hc:col<n)(hd:s.t row col≠0):Inv m n A c0 (pv s row col):=by
 obtain⟨M,hM⟩:=h.l;obtain⟨w,hw⟩:=h.w;refine⟨λi hi=>?_,λi hi k hk=>?_,⟨λi r=>if i=row then M row r/s.t row col else M i r-s.t i col*(M row r/s.t row col),λi hi j hj=>?_⟩,λr hr' j hj=>?_,⟨λr=>w r+s.c col*(M row r/s.t row col),λj hj=>?_⟩,λi hi=>?_⟩
 .show(if i=row then col else s.b i)<n;split
  .exact hc
  .exact h.bd i hi
 .show(if i=row then s.t row (if k=row then col else s.b k)/s.t row col else s.t i (if k=row then col else s.b k)-s.t i col*(s.t row (if k=row then col else s.b k)/s.t row col))=_;by_cases ek:k=row
  .subst ek;rw[if_pos rfl];by_cases ei:i=k
   .subst ei;rw[if_pos rfl,if_pos rfl];grind
   .rw[if_neg ei,if_neg ei];grind
  .rw[if_neg ek];have h1:=h.u row hr k hk;rw[if_neg (λe=>ek e.symm)] at h1;by_cases ei:i=row
   .subst ei;rw[if_pos rfl,h1,if_neg (λe=>ek e.symm)];grind
   .rw[if_neg ei,h1,h.u i hi k hk];grind
 .show(if i=row then s.t row j/s.t row col else s.t i j-s.t i col*(s.t row j/s.t row col))=_;have h1:=hM row hr j hj;by_cases ei:i=row
  .subst ei;rw[if_pos rfl,h1];rw[show(sm m λr=>(if i=i then M i r/s.t i col else M i r-s.t i col*(M i r/s.t i col))*A r j)=sm m (λr=>(M i r*A r j)*(s.t i col)⁻¹) from Qd λr _=>by rw[if_pos rfl];grind];rw[Xe];grind
  .rw[if_neg ei,h1,hM i hi j hj];rw[show(sm m λr=>(if i=row then M row r/s.t row col else M i r-s.t i col*(M row r/s.t row col))*A r j)=sm m (λr=>M i r*A r j-(M row r*A r j)*(s.t i col*(s.t row col)⁻¹)) from Qd λr _=>by rw[if_neg ei];grind];rw[ZG,Xe];grind
 .show _=sm m λi=>A r (if i=row then col else s.b i)*(if i=row then s.t row j/s.t row col else s.t i j-s.t i col*(s.t row j/s.t row col));have h1:=h.r r hr' j hj;have h2:=h.r r hr' col qo;rw[HD hr] at h1 h2 ⊢;rw[if_pos rfl,if_pos rfl]
  rw[show(sm m λi=>if i=row then 0 else A r (if i=row then col else s.b i)*(if i=row then s.t row j/s.t row col else s.t i j-s.t i col*(s.t row j/s.t row col)))=sm m (λi=>(if i=row then 0 else A r (s.b i)*s.t i j)-(if i=row then 0 else A r (s.b i)*s.t i col)*(s.t row j/s.t row col)) from Qd λi _=>by
   by_cases e:i=row
   .rw[if_pos e,if_pos e,if_pos e];grind
   .rw[if_neg e,if_neg e,if_neg e,if_neg e,if_neg e];grind]
  rw[ZG,Xe];generalize (sm m λi=>if i=row then 0 else A r (s.b i)*s.t i j)=p at *;generalize (sm m λi=>if i=row then 0 else A r (s.b i)*s.t i col)=q at *;grind
 .show s.c j-s.c col*(s.t row j/s.t row col)=_;rw[hw j hj,hM row hr j hj];rw[show(sm m λr=>(w r+s.c col*(M row r/s.t row col))*A r j)=sm m (λr=>w r*A r j+(M row r*A r j)*(s.c col*(s.t row col)⁻¹)) from Qd λr _=>by grind];rw[HF,Xe];grind
 .show s.c (if i=row then col else s.b i)-s.c col*(s.t row (if i=row then col else s.b i)/s.t row col)=0;by_cases e:i=row
  .rw[if_pos e];grind
  .rw[if_neg e,h.z i hi,h.u row hr i hi,if_neg (λh=>e h.symm)];grind
def Inv.cost(h:Inv m n A c0 s){j:Nat}(hj:j<=n):s.c j=c0 j-sm m λi=>c0 (s.b i)*s.t i j:=by
 obtain⟨w,hw⟩:=h.w;rw[hw j hj]
 congr 1
 rw[show(sm m λi=>c0 (s.b i)*s.t i j)=sm m λi=>sm m λr=>w r*(A r (s.b i)*s.t i j) from Qd λi hi=>by
  have h1:=hw (s.b i) (by have:=h.bd i hi;omega);rw[h.z i hi] at h1;rw[show c0 (s.b i)=sm m λr=>w r*A r (s.b i) by grind,<-Xe];exact Qd λr _=>by grind]
 rw[XW];exact Qd λr hr=>by rw[JH,<-h.r r hr j hj]
def Inv.uniq{s':St}(h:Inv m n A c0 s)(h':Inv m n A c0 s')(hb:∀i,i<m->s.b i=s'.b i):(∀i,i<m->∀j,j<=n->s.t i j=s'.t i j)/\∀j,j<=n->s.c j=s'.c j:=by
 obtain⟨M,hM⟩:=h.l
 have h1:∀i,i<m->∀j,j<=n->s.t i j=s'.t i j:=λi hi j hj=>by
  rw[hM i hi j hj]
  rw[show(sm m λr=>M i r*A r j)=sm m λr=>sm m λk=>(M i r*A r (s.b k))*s'.t k j from Qd λr hr=>by
   rw[h'.r r hr j hj,<-JH];exact Qd λk hk=>by rw[hb k hk];grind]
  rw[XW]
  rw[show(sm m λk=>sm m λr=>(M i r*A r (s.b k))*s'.t k j)=sm m λk=>(if i=k then 1 else 0)*s'.t k j from Qd λk hk=>by
   rw[Xe,<-hM i hi _ (by have:=h.bd k hk;omega),h.u i hi k hk]]
  rw[JO hi (λk _ hk=>by rw[if_neg (λe=>hk e.symm)];grind),if_pos rfl];grind
 refine⟨h1,λj hj=>?_⟩;rw[h.cost hj,h'.cost hj]
 congr 1
 exact Qd λi hi=>by rw[hb i hi,h1 i hi j hj]
def Inv.JF{s':St}(h:Inv m n A c0 s)(h':Inv m n A c0 s'){j:Nat}(hj:j<=n):s.c j=s'.c j-sm m λi=>s'.c (s.b i)*s.t i j:=by
 obtain⟨w,hw⟩:=h'.w;rw[h.cost hj,hw j hj]
 rw[show(sm m λi=>s'.c (s.b i)*s.t i j)=sm m λi=>c0 (s.b i)*s.t i j-sm m λr=>w r*(A r (s.b i)*s.t i j) from Qd λi hi=>by
  rw[hw _ (by have:=h.bd i hi;omega)]
  rw[show(sm m λr=>w r*(A r (s.b i)*s.t i j))=(sm m λr=>w r*A r (s.b i))*s.t i j from by
   rw[<-Xe];exact Qd λr _=>by grind]
  grind]
 rw[ZG,XW];rw[show(sm m λr=>sm m λi=>w r*(A r (s.b i)*s.t i j))=sm m λr=>w r*A r j from Qd λr hr=>by rw[JH,<-h.r r hr j hj]];grind
end
end X
namespace X
def fstT(p:Nat->Bool):Nat->Nat->Option Nat
 |0,_=>none
 |c+1,k=>if p k=true then some k else fstT p c (k+1)
def XB(p:Nat->Bool):∀c k,(fstT p c k=none/\∀j,k<=j->j<k+c->p j=false)\/∃j,fstT p c k=some j/\k<=j/\j<k+c/\p j=true/\∀i,k<=i->i<j->p i=false:=by
 intro c;induction c with
 |zero=>intro k;exact .inl ⟨rfl,λj h1 h2=>by omega⟩
 |succ c ih=>
  intro k;unfold fstT;by_cases h:p k=true
  .rw[if_pos h];exact .inr ⟨k,rfl,Nat.le_refl _,by omega,h,λi h1 h2=>by omega⟩
  .rw[if_neg h];have h':p k=false:=by simpa using h
   rcases ih (k+1) with ⟨h1,h2⟩|⟨j,h1,h2,h3,h4,h5⟩
   .refine .inl ⟨h1,λj h3 h4=>?_⟩;by_cases e:j=k
    .rw[e];exact h'
    .exact h2 j qo qo
   .refine .inr ⟨j,h1,by omega,by omega,h4,λi h6 h7=>?_⟩;by_cases e:i=k
    .rw[e];exact h'
    .exact h5 i qo h7
def ent(s:St)(e:Nat):Option Nat:=fstT (λk=>decide (s.c k<0)) e 0
def lev(n:Nat)(s:St)(k:Nat):Nat->Option Nat
 |0=>none
 |i+1=>if s.t i k<=0 then lev n s k i else match lev n s k i with
  |none=>some i
  |some r=>if s.t i n/s.t i k<s.t r n/s.t r k\/(s.t i n/s.t i k=s.t r n/s.t r k/\s.b i<s.b r) then some i else some r
def Yn(s:St)(e:Nat):(ent s e=none/\∀k,k<e->0<=s.c k)\/∃k,ent s e=some k/\k<e/\s.c k<0/\∀j,j<k->0<=s.c j:=by
 rcases XB (λk=>decide (s.c k<0)) e 0 with ⟨h1,h2⟩|⟨j,h1,_,h3,h4,h5⟩
 .exact .inl ⟨h1,λk hk=>by have:=of_decide_eq_false (h2 k qo qo);grind⟩
 .exact .inr ⟨j,h1,by omega,of_decide_eq_true h4,λk hk=>by have:=of_decide_eq_false (h5 k qo hk);grind⟩
def K7(n:Nat)(s:St)(k:Nat):∀m,(lev n s k m=none/\∀i,i<m->s.t i k<=0)\/∃r,lev n s k m=some r/\r<m/\0<s.t r k/\∀i,i<m->0<s.t i k->s.t r n/s.t r k<=s.t i n/s.t i k/\(s.t i n/s.t i k=s.t r n/s.t r k->s.b r<=s.b i):=by
 intro m;induction m with
 |zero=>exact .inl ⟨rfl,λi h=>by omega⟩
 |succ m ih=>
  unfold lev;by_cases c:s.t m k<=0
  .rw[if_pos c];rcases ih with ⟨h1,h2⟩|⟨r,h1,h2,h3,h4⟩
   .refine .inl ⟨h1,λi hi=>?_⟩;by_cases e:i=m
    .subst e;exact c
    .exact h2 i qo
   .refine .inr ⟨r,h1,by omega,h3,λi hi hp=>?_⟩;by_cases e:i=m
    .subst e;grind
    .exact h4 i qo hp
  .rw[if_neg c];rcases ih with ⟨h1,h2⟩|⟨r,h1,h2,h3,h4⟩
   .rw[h1];refine .inr ⟨m,rfl,by omega,by grind,λi hi hp=>?_⟩;by_cases e:i=m
    .subst e;exact⟨by grind,λ_=>Nat.le_refl _⟩
    .have:=h2 i qo;grind
   .rw[h1];simp only;by_cases d:s.t m n/s.t m k<s.t r n/s.t r k\/(s.t m n/s.t m k=s.t r n/s.t r k/\s.b m<s.b r)
    .rw[if_pos d];refine .inr ⟨m,rfl,by omega,by grind,λi hi hp=>?_⟩;by_cases e:i=m
     .subst e;exact⟨by grind,λ_=>Nat.le_refl _⟩
     .obtain⟨h5,h6⟩:=h4 i qo hp;rcases d with d|⟨d1,d2⟩
      .exact⟨by grind,λh=>by grind⟩
      .exact⟨by grind,λh=>by have:=h6 (by grind);omega⟩
    .rw[if_neg d];refine .inr ⟨r,rfl,by omega,h3,λi hi hp=>?_⟩;by_cases e:i=m
     .subst e;refine⟨by grind,λh=>?_⟩;by_cases f:s.b i<s.b r
      .exact absurd (.inr ⟨h,f⟩) d
      .omega
     .exact h4 i qo hp
inductive Stp(m n e:Nat)(s:St):St->Prop where
 |mk (r k:Nat):ent s e=some k->lev n s k m=some r->Stp m n e s (pv s r k)
def Bas(m:Nat)(s:St)(v:Nat):Prop:=∃r,r<m/\s.b r=v
section
variable {m n e:Nat}{A:Nat->Nat->Rat}{c0:Nat->Rat}
structure Ok(m n e:Nat)(A:Nat->Nat->Rat)(c0:Nat->Rat)(s:St):Prop where
 i:Inv m n A c0 s
 f:∀i,i<m->0<=s.t i n
def Uv{a b:Rat}(ha:0<=a)(hb:0<b):0<=a/b:=by
 rw[Rat.div_def];exact Rat.mul_nonneg ha (Rat.le_of_lt (Rat.inv_pos.2 hb))
def Z6{a b:Rat}(hb:b≠0):a/b*b=a:=by grind
def Ok.stp{s s':St}(h:Ok m n e A c0 s)(he:e<=n)(hs:Stp m n e s s'):Ok m n e A c0 s':=by
 obtain⟨r,k,h1,h2⟩:=hs;rcases Yn s e with ⟨g,_⟩|⟨k',g1,g2,g3,g4⟩
 .rw[h1] at g;cases g
 obtain rfl:k=k':=by rw[h1] at g1;cases g1;rfl
 rcases K7 n s k m with ⟨g,_⟩|⟨r',f1,f2,f3,f4⟩
 .rw[h2] at g;cases g
 obtain rfl:r=r':=by rw[h2] at f1;cases f1;rfl
 refine⟨h.i.pv f2 qo (by grind),λi hi=>?_⟩;show 0<=(if i=r then s.t r n/s.t r k else s.t i n-s.t i k*(s.t r n/s.t r k));have hq:=Uv (h.f r f2) f3;by_cases ei:i=r
 .rw[if_pos ei];exact hq
 .rw[if_neg ei];by_cases hp:0<s.t i k
  .have h3:=(f4 i hi hp).1;have h4:s.t i n=s.t i n/s.t i k*s.t i k:=(Z6 (by grind)).symm;have h5:=Rat.mul_nonneg (Rat.le_of_lt hp) (show 0<=s.t i n/s.t i k-s.t r n/s.t r k by grind);grind
  .have h5:=Rat.mul_nonneg (show 0<=-s.t i k by grind) hq;have:=h.f i hi;grind
end
end X
section
open W Go.RowKit
abbrev Yx(w:Nat)(v:Value)(ms:Nat->QM):Ow:=Ow.slice v 75 4 (Qa w ms)
def HQ(l:List Nat)(w:Nat)(rv:Nat->Value)(ms:Nat->Nat->QM):List Ow:=l.map λi=>Yx w (rv i) (ms i)
abbrev Xk(m w:Nat)(rv:Nat->Value)(ms:Nat->Nat->QM):List Ow:=HQ (List.range m) w rv ms
abbrev Kj(m w:Nat)(rv:Nat->Value)(ms:Nat->Nat->QM)(r:Nat):List Ow:=HQ ((List.range m).erase r) w rv ms
abbrev GM(m w:Nat)(rv:Nat->Value)(ms:Nat->Nat->QM)(r i:Nat):List Ow:=HQ (((List.range m).erase r).erase i) w rv ms
section
variable {m w r i:Nat}{rv:Nat->Value}{ms:Nat->Nat->QM}{x y:Nat->QM}
def Xg(h:r<m):(Xk m w rv ms).Perm (Yx w (rv r) (ms r)::Kj m w rv ms r):=by
 have:=(List.perm_cons_erase (List.mem_range.2 h)).map λi=>Yx w (rv i) (ms i);exact this
def rowsX_upd:Kj m w rv (upd ms r x) r=Kj m w rv ms r:=by
 unfold Kj HQ;refine List.map_congr_left λj hj=>?_;rw[upd_ne ((List.nodup_range.mem_erase_iff).1 hj).1]
def rows_upd(h:r<m):(Xk m w rv (upd ms r x)).Perm (Yx w (rv r) x::Kj m w rv ms r):=by
 have:=Xg (w:=w) (rv:=rv) (ms:=upd ms r x) h
 rwa [rowsX_upd,QU] at this
def rows_two(hr:r<m)(hi:i<m)(hne:i≠r):(Xk m w rv ms).Perm (Yx w (rv i) (ms i)::Yx w (rv r) (ms r)::GM m w rv ms r i):=by
 refine(Xg hr).trans ?_;have:=(List.perm_cons_erase ((List.nodup_range.mem_erase_iff).2 ⟨hne,List.mem_range.2 hi⟩)).map λi=>Yx w (rv i) (ms i);exact(List.Perm.cons _ this).trans (List.Perm.swap _ _ _)
def rowsY_upd:GM m w rv (upd ms i x) r i=GM m w rv ms r i:=by
 unfold GM HQ;refine List.map_congr_left λj hj=>?_;rw[upd_ne ((((List.nodup_range).erase _).mem_erase_iff).1 hj).1]
def Dq(hr:r<m)(hi:i<m)(hne:i≠r):(Xk m w rv (upd ms i x)).Perm (Yx w (rv i) x::Yx w (rv r) (ms r)::GM m w rv ms r i):=by
 have:=rows_two (w:=w) (rv:=rv) (ms:=upd ms i x) hr hi hne
 rwa [rowsY_upd,QU,upd_ne (λh=>hne h.symm)] at this
end
def fnV(m:Nat)(rv:Nat->Value):List Value:=(List.range m).map rv
def fnL(m:Nat)(b:Nat->Nat):List Int:=(List.range m).map λi=>(b i:Int)
def KP(m:Nat)(rv:Nat->Value):(fnV m rv).length=m:=by simp[fnV]
def Fo{m:Nat}{rv:Nat->Value}{i:Nat}(h:i<m):(fnV m rv)[i]?=some (rv i):=by simp[fnV,h]
def fnL_len(m:Nat)(b:Nat->Nat):(fnL m b).length=m:=by simp[fnL]
def fnL_set{m:Nat}{b:Nat->Nat}{r c:Nat}:(fnL m b).set r (c:Int)=fnL m (upd b r c):=by
 apply List.ext_getElem?;intro j;rw[List.getElem?_set,fnL_len];by_cases e:r=j
 .subst e;rw[if_pos rfl];by_cases h:r<m
  .rw[if_pos h];simp[fnL,h,QU]
  .rw[if_neg h];simp[fnL,h]
 .rw[if_neg e];by_cases h:j<m
  .simp[fnL,h,upd_ne (λh=>e h.symm)]
  .simp[fnL,h]
def mT(m w:Nat)(ms:Nat->Nat->QM)(t:Nat->Nat->Rat):Fct where
 p h:=∀i,i<m->∀k,k<w->(isQ (qv (ms i k)) (t i k)).p h
 mono _ _ hl hp i hi k hk:=(isQ _ _).mono _ _ hl (hp i hi k hk)
def rF(m w:Nat)(rv:Nat->Value)(ms:Nat->Nat->QM)(t:Nat->Nat->Rat):Fct where
 p h:=(∀i,i<m->(slC (rv i) w 4 (JR (ms i))).p h)/\(mT m w ms t).p h
 mono _ _ hl hp:=⟨λi hi=>(slC _ _ _ _).mono _ _ hl (hp.1 i hi),(mT _ _ _ _).mono _ _ hl hp.2⟩
section
variable {P:Program}{e:Env}{bx bx':List Ow}{F:List Fct}{ty t el:TypeId}{v u:Value}{x y:Operand}{m w i k:Nat}{rv:Nat->Value}{ms:Nat->Nat->QM}{tq:Nat->Nat->Rat}{K:Qf}
def W.Has.rt(h:Has F (rF m w rv ms tq)):Has F (mT m w ms tq):=λp hf=>(h p hf).2
def W.Has.rs(h:Has F (rF m w rv ms tq))(hi:i<m):Has F (slC (rv i) w 4 (JR (ms i))):=λp hf=>(h p hf).1 i hi
def W.Has.qt(h:Has F (mT m w ms tq))(hi:i<m)(hk:k<w):Has F (isQ (qv (ms i k)) (tq i k)):=λp hf=>h p hf i hi k hk
def W.Has.tm(h:Has F (mT m w ms tq))(hi:i<m):Has F (mF w (ms i) (tq i)):=λp hf k hk=>h p hf i hi k hk
def W.Has.tr(h:Has F (rF m w rv ms tq))(hi:i<m):Has F (fF (rv i) w (ms i) (tq i)):=λp hf=>⟨(h p hf).1 i hi,λk hk=>(h p hf).2 i hi k hk⟩
def W.Has.tset{x:Nat->QM}{q:Nat->Rat}(h:Has F (mT m w ms tq))(hx:Has F (mF w x q)):Has F (mT m w (upd ms i x) (upd tq i q)):=λp hf j hj k hk=>by
 by_cases c:j=i
 .subst c;rw[QU,QU];exact hx p hf k hk
 .rw[upd_ne c,upd_ne c];exact h p hf j hj k hk
def W.Has.tsame{t':Nat->Nat->Rat}(h:Has F (mT m w ms tq))(he:∀i,i<m->∀k,k<w->tq i k=t' i k):Has F (mT m w ms t'):=λp hf i hi k hk=>by
 rw[<-he i hi k hk];exact h p hf i hi k hk
def KnS.rf(h:Has F (rF m w rv ms tq))(hi:i<m):KnS bx F (rv i) w:=KnS.f (h.rs hi)
def KnS.oV(h:Ow.slice v el 1 (fnV m rv)∈bx):KnS bx F v m:=KnS.o h (by rw[KP,Nat.mul_one]) qd
def KnS.oN{b:Nat->Nat}(h:Ow.slice v el 1 (ints (fnL m b))∈bx):KnS bx F v m:=KnS.o h (by simp[fnL]) qd
def YO.ldOV(hs:Qv P t)(hx:ev e x=some (.pointer (some (eaddr v i))))(hb:Ow.slice v el 1 (fnV m rv)∈bx)(hi:i<m):YO P (.load t x) ty e bx F (rv i):=YO.ldO hs hx hb (Fo hi)
def YO.ldON{b:Nat->Nat}(hs:Qv P t)(hx:ev e x=some (.pointer (some (eaddr v i))))(hb:Ow.slice v el 1 (ints (fnL m b))∈bx)(hi:i<m):YO P (.load t x) ty e bx F (.int .i64 (b i)):=YO.ldO hs hx hb (by simp[fnL,hi])
def YO.ldRf(hs:Row P t 4)(hx:ev e x=some (.pointer (some (eaddr (rv i) (k*4)))))(hf:Has F (rF m w rv ms tq))(hi:i<m)(hk:k<w):YO P (.load t x) ty e bx F (qv (ms i k)):=YO.ldFf hs hx (hf.tr hi) hk
def QQ.rF(hb:∀i,i<m->Yx w (rv i) (ms i)∈bx)(hm:Has F (mT m w ms tq)):QQ bx F (rF m w rv ms tq):=λfr w' ho=>
 ⟨λi hi=>QQ.o (hb i hi) (Qu _ _) qd (λj hj=>QK hj) fr w' ho,QQ.f hm fr w' ho⟩
def mem_rows{i:Nat}(hi:i<m):Yx w (rv i) (ms i)∈Xk m w rv ms:=List.mem_map.2 ⟨i,List.mem_range.2 hi,rfl⟩
def QQ.rows(hs:(Xk m w rv ms).Sublist bx)(hm:Has F (mT m w ms tq)):QQ bx F (Go.Proofs.YtbnobghgnbockaaGreat.rF m w rv ms tq):=QQ.rF (λ_ hi=>hs.subset (mem_rows hi)) hm
abbrev sV(v:Value)(m:Nat)(rv:Nat->Value):Fct:=slC v m 1 rv
def QQ.sV(hb:Ow.slice v el 1 (fnV m rv)∈bx):QQ bx F (sV v m rv):=QQ.o hb (by rw[KP,Nat.mul_one]) qd λj hj=>Fo qo
abbrev sN(v:Value)(m:Nat)(b:Nat->Nat):Fct:=slC v m 1 λi=>.int .i64 (b i)
def QQ.sN{b:Nat->Nat}(hb:Ow.slice v el 1 (ints (fnL m b))∈bx):QQ bx F (sN v m b):=QQ.o hb (by simp[fnL]) qd λj hj=>by
 have hj':j<m:=qo;simp[fnL,hj']
end
section
variable {P:Program}{n:Nat}{c x y:Code}{L rest:List Oper}{e:Env}{bx bx' r:List Ow}{F:List Fct}{Q:Post}{Q2:Env->List Ow->List Fct->Prop}
def WC.perm(bx':List Ow)(hp:bx.Perm bx')(h:WC P n c e bx' F Q):WC P n c e bx F Q:=λfr w0 a w hk hr ho=>h fr w0 a w hk hr (ho.perm hp)
def WL.perm(bx':List Ow)(hp:bx.Perm bx')(h:WL P n L rest e bx' F Q2):WL P n L rest e bx F Q2:=λfr w0 a w Q' hQ hk hr ho=>h fr w0 a w Q' hQ hk hr (ho.perm hp)
def WD.perm{hs:List Nat}{b0:List Ow}{F0:List Fct}{p:Plan}(bx':List Ow)(hp:bx.Perm bx')(h:WD P n L hs b0 F0 p e bx' F Q2):WD P n L hs b0 F0 p e bx F Q2:=λfr w0 listed a w fuel Q' h1 h2 h3 h4 h5 h6 hk hr ho hf=>h fr w0 listed a w fuel Q' h1 h2 h3 h4 h5 h6 hk hr (ho.perm hp) hf
def WD.Zg{hs:List Nat}{b0:List Ow}{F0 F':List Fct}{p:Plan}{i d:Nat}{f:FuncId}{x:Operand}{args:List Operand}{ats:Array TypeId}{vs:List Value}{R:Qf}{ty:TypeId}{pos:String}{af:Array Edge}{gd:Option (Nat×Bool)}(ba br:List Ow)(hp:bx.Perm (ba++br))(hf:FnB P f vs ba F' R)(hK:∀v b G,R v b G->WD P n L hs b0 F0 p ((d,v)::e) (b++br) (G++F) Q2)
  (hL:L[i]?=some ⟨some d,.call {callee:=.value x,args:=args.toArray,argTypes:=ats},ty,pos,af,gd⟩:=by exact rfl) (hx:ev e x=some (.func (.func f) #[] #[]):=by exact rfl) (hv:Evs e args vs:=by repeat(first|exact Evs.nil|(apply Evs.cons;exact rfl))) (hF:Qw F F':=by repeat(first|exact Qw.nil|(apply Qw.cons;exact hsA)))
  (hd:Nat.blt d n=true:=by exact rfl) (hg:gok L e gd=some true:=by exact rfl) (lt:QR L hs i=true:=by kernel_rfl):WD P n L hs b0 F0 (.loud i p) e bx F Q2:=
 WD.l hL hd hg (LO.call (first:=[]) (cap:=[]) hx hv ba br hp (by simpa using hf) hF.all λv b G hR=>⟨.inl lt,hK v b G hR⟩)
def WD.Xs{hs:List Nat}{b0:List Ow}{F0 F':List Fct}{p:Plan}{i d:Nat}{f:FuncId}{x:Operand}{args:List Operand}{ats:Array TypeId}{vs:List Value}{R:Qf}{ty:TypeId}{pos:String}{af:Array Edge}{gd:Option (Nat×Bool)}(first cap:List Value)(hf:FnB P f (first++vs++cap) [] F' R)(hK:∀v b G,R v b G->WD P n L hs b0 F0 p ((d,v)::e) (b++bx) (G++F) Q2)
  (hL:L[i]?=some ⟨some d,.call {callee:=.value x,args:=args.toArray,argTypes:=ats},ty,pos,af,gd⟩:=by exact rfl) (hx:ev e x=some (.func (.func f) first.toArray cap.toArray):=by exact rfl) (hv:Evs e args vs:=by repeat(first|exact Evs.nil|(apply Evs.cons;exact rfl))) (hF:Qw F F':=by repeat(first|exact Qw.nil|(apply Qw.cons;exact hsA)))
  (hd:Nat.blt d n=true:=by exact rfl) (hg:gok L e gd=some true:=by exact rfl) (lt:QR L hs i=true\/(b0.Sublist bx/\∀f∈F0,f∈F):=by(first|exact wq1|(apply Or.inl;kernel_rfl))):WD P n L hs b0 F0 (.loud i p) e bx F Q2:=
 WD.l hL hd hg (LO.call hx hv [] bx (.refl _) hf hF.all λv b G hR=>⟨lt.imp id λh=>⟨h.1.trans (List.sublist_append_right _ _),λf hf=>List.mem_append_right _ (h.2 f hf)⟩,hK v b G hR⟩)
def WL.Xs{F':List Fct}{d:Nat}{f:FuncId}{x:Operand}{args:List Operand}{ats:Array TypeId}{vs:List Value}{R:Qf}{ty:TypeId}{pos:String}{af:Array Edge}{gd:Option (Nat×Bool)}(first cap:List Value)(hf:FnB P f (first++vs++cap) [] F' R)(hK:∀v b G,R v b G->WL P n L rest ((d,v)::e) (b++bx) (G++F) Q2)
  (hx:ev e x=some (.func (.func f) first.toArray cap.toArray):=by exact rfl) (hv:Evs e args vs:=by repeat(first|exact Evs.nil|(apply Evs.cons;exact rfl))) (hF:Qw F F':=by repeat(first|exact Qw.nil|(apply Qw.cons;exact hsA)))
  (hd:Nat.blt d n=true:=by exact rfl) (hg:gok L e gd=some true:=by exact rfl):WL P n L (⟨some d,.call {callee:=.value x,args:=args.toArray,argTypes:=ats},ty,pos,af,gd⟩::rest) e bx F Q2:=
 WL.l hd hg (LO.call hx hv [] bx (.refl _) hf hF.all hK)
def W.Qw.tail:∀{F G:List Fct},(∀f∈G,f∈F)->Qw F G
 |_,[],_=>.nil
 |_,g::G,h=>.cons (Has.mem (h g (List.mem_cons_self ..))) (W.Qw.tail λf hf=>h f (List.mem_cons_of_mem _ hf))
def perm3(a b c:Ow)(r:List Ow):(c::a::b::r).Perm (a::b::c::r):=by
 have h:([c,a,b]:List Ow).Perm [a,b,c]:=(List.perm_middle (a:=c) (l₁:=[a,b]) (l₂:=[])).symm;exact h.append_right r
def perm6{a b c d x y:Ow}{r R:List Ow}(h:R.Perm (x::y::r)):(a::b::c::d::R).Perm ([x,y]++(a::b::c::d::r)):=by
 have h1:(a::b::c::d::R).Perm ([a,b,c,d]++([x,y]++r)):=(((h.cons d).cons c).cons b).cons a;refine h1.trans ?_;rw[<-List.append_assoc];have h2:([a,b,c,d]++[x,y]).Perm ([x,y]++[a,b,c,d]):=List.perm_append_comm;have h3:=h2.append_right r;rw[List.append_assoc [x,y]] at h3;exact h3
def perm5{a b c d x:Ow}{r R:List Ow}(h:R.Perm (x::r)):(a::b::c::d::R).Perm ([c,x]++(a::b::d::r)):=by
 have h1:(a::b::c::d::R).Perm ([a,b,c,d,x]++r):=(((h.cons d).cons c).cons b).cons a;refine h1.trans ?_
 have h2:([a,b,c,d,x]:List Ow).Perm [c,x,a,b,d]:=by
  have e1:([a,b,c,d,x]:List Ow).Perm (c::[a,b,d,x]):=List.perm_middle (l₁:=[a,b]) (l₂:=[d,x])
  have e2:([a,b,d,x]:List Ow).Perm (x::[a,b,d]):=by
   have:=List.perm_middle (a:=x) (l₁:=[a,b,d]) (l₂:=[]);simpa using this
  exact e1.trans (e2.cons c)
 exact h2.append_right r
def YO.eqNz{t el sz m:Nat}{x:Operand}{v:Value}{ty:TypeId}(hs:Qh P t el sz)(hx:ev e x=some v)(hv:KnS bx F v m)(ty2:TypeId):YO P (.binOp .eql t x (.const (.slice none 0 0)) ty2) ty e bx F (.bool (isNil v)):=.of λk fr a w o hop hk ho=>by
 have hx':=hk.eval hx;obtain⟨a',cap,rfl,_,_,h5⟩:=(hv fr w ho).is;have he:(eqGuard .eql t x (.const (.slice none 0 0)) (.slice a' m cap) (.slice none 0 0)).run P w=.ok () w:=by unfold eqGuard;simp[Sem.run_pure]
 have h2:a.eval (.const (.slice none 0 0))=.slice none 0 0:=rfl;have he2:∀es,(eqGuard .eql t x (.const (.slice none 0 0)) (.slice a' m cap) (.slice none 0 0)).events P w es=es:=λes=>by unfold eqGuard;simp
 have h3:(Op.equal t (.slice a' m cap) (.slice none 0 0)).run P w=.ok (isNil (.slice a' m cap)) w:=GP 9999 w hs.1;have h4:∀es,(Op.equal t (.slice a' m cap) (.slice none 0 0)).events P w es=es:=λes=>ev_eqnil 9999 w es hs.1;constructor<;>simp[execOp,hop,hx',h2,he,he2,binOp,h3,h4]
def YO.eqNz_t{t el sz m:Nat}{x:Operand}{v:Value}{ty ty2:TypeId}(hs:Qh P t el sz)(hx:ev e x=some v)(hv:KnS bx F v m)(h:isNil v=true):YO P (.binOp .eql t x (.const (.slice none 0 0)) ty2) ty e bx F (.bool true):=by rw[<-h];exact YO.eqNz hs hx hv ty2
def YO.eqNz_f{t el sz m:Nat}{x:Operand}{v:Value}{ty ty2:TypeId}(hs:Qh P t el sz)(hx:ev e x=some v)(hv:KnS bx F v m)(h:isNil v=false):YO P (.binOp .eql t x (.const (.slice none 0 0)) ty2) ty e bx F (.bool false):=by rw[<-h];exact YO.eqNz hs hx hv ty2
def WC.nilF{v:Value}{m:Nat}{ms:Nat->QM}{q:Nat->Rat}(hf:Has F (fF v m ms q))(hn:isNil v=true)(h:m=0->WC P n c e bx F Q):WC P n c e bx F Q:=
 WC.pure (λfr w ho=>by
  obtain⟨a,cap,rfl,h2,h3,h4|⟨b,off,rfl,_⟩⟩:=ho.has hf.fs
  .exact h4.2.1
  .cases hn) h
def one_fcells{F:List Fct}{n':Nat}{ms:Nat->QM}{q:Nat->Rat}{fr:CF}{w:World}(ho:OK fr bx F w)(hm:Has F (mF n' ms q)):∀c∈Qa n' ms,c.oneCell'=true:=λc hc=>by
 simp only[Qa,Jh,List.mem_map,List.mem_range] at hc;obtain⟨j,hj,rfl⟩:=hc;have:=(ZK (m:=ms (j/4)) (bx:=bx) (W.Has.q hm (k:=j/4) qo)).all ho;unfold JR;have hr:=YH (l:=qcs (ms (j/4))) (r:=j%4) (n:=4) rfl qo;exact this _ (List.mem_of_getElem? hr)
def LO.appFf{n':Nat}{v u:Value}{x y:Operand}{ty:TypeId}{K:Qf}{ms:Nat->QM}{q:Nat->Rat}{bx2:Value->List Ow}(hx:ev e x=some v)(hy:ev e y=some u)(hu:Has F (fF u n' ms q))(hs:∀v',Sel bx (.slice v 75 4 []) (.slice v' 75 4 (Qa n' ms)) (bx2 v'))(hl:n'<=1000000)(h:∀v',K v' (bx2 v') F) :
  LO Tryz.prog (.call {callee:=.builtin .append,args:=#[x,y],argTypes:=#[61,61]}) ty e bx F K:=by
 refine LO.byP (λfr w ho=>one_fcells ho hu.fm) λh1=>?_;exact LO.append T.e61 hx hy (cs:=[]) (news:=Qa n' ms) hs (Qp.fact hu.fs) h1 (by rw[Qu,List.length_nil];omega) (by rw[Qu,List.length_nil];omega) h
def Xp{σ:Type}(E:σ->Env)(B:σ->List Ow)(G:σ->List Fct)(I:σ->Prop)(μ:σ->Nat)(s:σ)(e':Env)(bx':List Ow)(F':List Fct):Prop:=∃s',(I s'/\μ s'<μ s)/\W.Sub (E s') e'/\(∃r,bx'.Perm (B s'++r))/\Qw F' (G s')
def WC.lpP{σ:Type}(E:σ->Env)(B:σ->List Ow)(G:σ->List Fct)(I:σ->Prop)(μ:σ->Nat)(s0:σ)(hI:I s0)(hround:∀s,I s->WC P n c (E s) (B s) (G s) (XU (Xp E B G I μ s) Q))
  (hE:W.Sub (E s0) e:=by repeat(first|exact Sub.nil _|refine Sub.cons rfl ?_)) (hB:(B s0).Sublist bx:=by repeat(first|exact wq10|apply List.Sublist.cons_cons|apply List.Sublist.cons)) (hG:Qw F (G s0):=by repeat(first|exact Qw.nil|(apply Qw.cons;exact hmA))):WC P n (.loop c) e bx F Q:=
 WC.loop E B G I μ s0 hI hE hB hG.all λs hs fr w0 a w hk hr ho=>XH (hround s hs fr w0 a w hk hr ho) λown ex a' w' hq=>by
  cases ex<;>first|exact hq|skip
  obtain⟨hw,e1,b1,F1,h1,h2,h3,s',h4,h5,⟨r,h6⟩,h7⟩:=hq;exact⟨hw,e1,B s',F1,h1,h2,(h3.perm h6).drop (List.sublist_append_left _ _),s',h4,h5,List.Sublist.refl _,h7.all⟩
def Xp.mk{σ:Type}{E:σ->Env}{B:σ->List Ow}{G:σ->List Fct}{I:σ->Prop}{μ:σ->Nat}{s:σ}{e':Env}{F':List Fct}(s':σ)
  (hI:I s') (hμ:μ s'<μ s) (r:List Ow) (hp:bx.Perm (B s'++r)) (hE:W.Sub (E s') e':=by repeat(first|exact Sub.nil _|refine Sub.cons rfl ?_)) (hG:Qw F' (G s'):=by repeat(first|exact Qw.nil|(apply Qw.cons;exact hmA))):Xp E B G I μ s e' bx F':=⟨s',⟨hI,hμ⟩,hE,⟨r,hp⟩,hG⟩
end
end
end Go.Proofs.YtbnobghgnbockaaGreat
