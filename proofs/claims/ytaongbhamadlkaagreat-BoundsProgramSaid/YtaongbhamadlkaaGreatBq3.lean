/- Lemmas for the proof of a law: Slices of numbers in memory. Conditions: none. -/
import Derived.Test.YtaongbhamadlkaaGreatBq2
import Derived.Scope
set_option linter.unusedVariables false
set_option linter.unusedSimpArgs false
set_option linter.unusedSectionVars false
namespace Go.Proofs.YtaongbhamadlkaaGreat
open W Go.RowKit
abbrev QM:=Bool×Value×Value
abbrev qcs (m:QM):List Value:=[.bool m.1,m.2.1,.bool false,m.2.2]
abbrev qv (m:QM):Value:=.agg #[.bool m.1,m.2.1,.bool false,m.2.2]
def m00:QM:=(false,.slice none 0 0,.slice none 0 0)
def qcell (ms:Nat→QM) (j:Nat):Value:=(qcs (ms (j / 4))).getD (j % 4) undef
theorem qcell_at (ms:Nat→QM) (k:Nat) {r:Nat} (hr:r < 4):qcell ms (k*4+r)=(qcs (ms k)).getD r undef:=by
 unfold qcell;rw[show(k*4+r) / 4=k by omega,show(k*4+r) % 4=r by omega]
def cellsF (n:Nat) (f:Nat→Value):List Value:=(List.range n).map f
theorem cellsF_len (n:Nat) (f:Nat→Value):(cellsF n f).length=n:=by simp[cellsF]
theorem cellsF_get {n:Nat} {f:Nat→Value} {j:Nat} (h:j < n):(cellsF n f)[j]?=some (f j):=by simp[cellsF,h]
theorem cellsF_ext {n:Nat} {f:Nat→Value} {l:List Value} (hl:l.length=n) (h:∀ j,j < n→l[j]?=some (f j)):l=cellsF n f:=by
 apply List.ext_getElem?
 intro j
 by_cases hj:j < n
 ·rw[h j hj,cellsF_get hj]
 ·rw[List.getElem?_eq_none (by omega),List.getElem?_eq_none (by rw[cellsF_len];omega)]
theorem setMany_get {cs vs:List Value} {q j:Nat} (h:q+vs.length≤cs.length):(setMany cs q vs)[j]?=if q≤j∧j < q+vs.length then vs[j - q]? else cs[j]?:=by
 unfold setMany
 by_cases h1:j < q
 ·rw[if_neg (by omega),List.append_assoc,List.getElem?_append_left (by simp;omega),List.getElem?_take,if_pos h1]
 ·by_cases h2:j < q+vs.length
  ·rw[if_pos ⟨by omega,h2⟩,List.getElem?_append_left (by simp;omega),List.getElem?_append_right (by simp;omega)]
   simp only[List.length_take];rw[Nat.min_eq_left (by omega)]
  ·rw[if_neg (by omega),List.getElem?_append_right (by simp;omega),List.getElem?_drop]
   simp only[List.length_append,List.length_take];rw[Nat.min_eq_left (by omega)]
   congr 1;omega
def upd {α:Type} (ms:Nat→α) (k:Nat) (m:α):Nat→α:=fun i=>if i=k then m else ms i
theorem upd_at {α:Type} {ms:Nat→α} {k:Nat} {m:α}:upd ms k m k=m:=by simp[upd]
theorem upd_ne {α:Type} {ms:Nat→α} {k i:Nat} {m:α} (h:i≠k):upd ms k m i=ms i:=by simp[upd,h]
abbrev qcells (n:Nat) (ms:Nat→QM):List Value:=cellsF (n*4) (qcell ms)
theorem row_get {l:List Value} {n r:Nat} (hl:l.length=n) (hr:r < n):l[r]?=some (l.getD r undef):=by
 simp[List.getD_eq_getElem?_getD,hl ▸ hr]
section
variable {n k:Nat} {ms:Nat→QM} {m:QM}
theorem qcells_set (h:k < n):setMany (qcells n ms) (k*4) (qcs m)=qcells n (upd ms k m):=by
 have hle:k*4+(qcs m).length≤(qcells n ms).length:=by rw[cellsF_len];show k*4+4≤n*4;omega
 refine cellsF_ext (by rw[setMany_len hle,cellsF_len]) fun j hj=>?_
 rw[setMany_get hle]
 show(if k*4≤j∧j < k*4+4 then _ else _)=_
 split
 ·rw[row_get (n:=4) rfl (by omega)]
  unfold qcell
  rw[show j / 4=k by omega,upd_at,show j % 4=j - k*4 by omega]
 ·rw[cellsF_get hj];unfold qcell;rw[upd_ne (by omega)]
theorem qcells_app:qcells n ms++qcs m=qcells (n+1) (upd ms n m):=by
 refine cellsF_ext (by rw[List.length_append,cellsF_len];show n*4+4=_;omega) fun j hj=>?_
 by_cases h:j < n*4
 ·rw[List.getElem?_append_left (by rw[cellsF_len];exact h),cellsF_get h];unfold qcell;rw[upd_ne (by omega)]
 ·rw[List.getElem?_append_right (by rw[cellsF_len];omega),cellsF_len,row_get (n:=4) rfl (by omega)]
  unfold qcell;rw[show j / 4=n by omega,upd_at,show j % 4=j - n*4 by omega]
end
theorem madeF (n sz:Nat) (z:Value) (f:Nat→Value) (hz:z.cells.size=sz) (h0:0 < sz) (h:∀ j,z.cells[j % sz]?=some (f j)):(madeCells z.cells (n*sz)).toList=cellsF (n*sz) f:=by
 refine cellsF_ext (by simp[madeCells]) fun j hj=>?_
 have hm:j % sz < z.cells.size:=by rw[hz];exact Nat.mod_lt _ h0
 have h2:=h j
 rw[Array.getElem?_eq_getElem hm] at h2
 simp only[Option.some.injEq] at h2
 subst hz
 simp[madeCells,hj,←h2,getElem!_pos,hm]
theorem made_q (n:Nat):(madeCells (Value.agg #[.bool false,.slice none 0 0,.bool false,.slice none 0 0]).cells (n*4)).toList=qcells n (fun _=>m00):=
 madeF n 4 _ _ rfl (by decide) fun j=>by
  unfold qcell
  have h1:j % 4=0∨j % 4=1∨j % 4=2∨j % 4=3:=by omega
  rcases h1 with h1|h1|h1|h1 <;> rw[h1] <;> rfl
section
variable {P:Program} {e:Env} {bx bx':List Ow} {F:List Fct} {ty t el:TypeId} {v u:Value} {x y:Operand} {n k:Nat} {ms:Nat→QM} {m:QM} {q:Rat} {K:RPost}
theorem KnS.oR (h:Ow.slice v el 4 (qcells n ms)∈bx):KnS bx F v n:=KnS.o h (cellsF_len _ _) (by decide)
theorem YO.ldOR (hs:Row P t 4) (hx:ev e x=some (.pointer (some (eaddr v (k*4))))) (hb:Ow.slice v el 4 (qcells n ms)∈bx) (hk:k < n):YO P (.load t x) ty e bx F (qv (ms k)):=
 YO.ldRO (us:=qcs (ms k)) hs hx hb rfl fun i hi=>by
  rw[cellsF_get (by omega),qcell_at _ _ hi,row_get (n:=4) rfl hi]
theorem one_q (hq:Has F (isQ (qv m) q)):OneL bx F (qcs m):=
 .cons (One.lit rfl rfl) (.cons (One.sl (KnS.q1 hq)) (.cons (One.lit rfl rfl) (.cons (One.sl (KnS.q2 hq)) .nil)))
theorem LO.storeQ (hx:ev e x=some (.pointer (some (eaddr v (k*4))))) (hy:ev e y=some (qv m)) (hr:Row P t 4) (hq:Has F (isQ (qv m) q)) (hs:Sel bx (.slice v el 4 (qcells n ms)) (.slice v el 4 (qcells n (upd ms k m))) bx') (hk:k < n)
  (h:K undef bx' F):LO P (.store t x y) ty e bx F K:=
 LO.storeOR (vs:=qcs m) hx hy hr (one_q hq) hs (by rw[cellsF_len];show k*4+4≤n*4;omega) (by simp) (qcells_set hk) h
theorem hasQ0:Has F (isQ (qv m00) 0):=hasQ_0
theorem LO.makeR {i:Int} (hx:ev e x=some (.int .i64 i)) (hy:ev e y=some (.int .i64 i)) (hi:NatI i n) (hb:n≤1000000) (h:∀ v,K v (Ow.slice v 31 4 (qcells n (fun _=>m00))::bx) F):LO Tryz.prog (.makeSlice 24 x y) ty e bx F K:=by
 obtain rfl:=hi.eq
 exact LO.make T.e24 hx hy (by omega) (by omega) (made_q n) h
theorem LO.byP {op:Op} {p:Prop} (hp:∀ fr w,OK fr bx F w→p) (h:p→LO P op ty e bx F K):LO P op ty e bx F K:=fun n fr a w o next Q' h1 h2 h3 h4 h5=>
 h (hp fr w h4) n fr a w o next Q' h1 h2 h3 h4 h5
theorem LO.bsR0 (h:∀ v,K v (Ow.slice v 31 4 []::bx) F):LO Tryz.prog (.buildSlice 24 0 #[]) ty e bx F K:=LO.buildSlice (parts:=[]) (us:=[]) (cs:=[]) .nil (fun _=>by kernel_rfl) rfl (by decide) h
theorem LO.bsR1 (hx:ev e x=some (qv m)) (h:∀ v,K v (Ow.slice v 31 4 (qcs m)::bx) F):LO Tryz.prog (.buildSlice 24 1 #[(0,x)]) ty e bx F K:=LO.buildSlice (parts:=[(0,x)]) (us:=[qv m]) (cs:=qcs m) (.cons hx .nil) (fun _=>by kernel_rfl) rfl (by decide) h
section
variable {el':TypeId} {bx2:Value→List Ow}
theorem LO.appR1 (hx:ev e x=some v) (hy:ev e y=some u) (hu:Ow.slice u el' 4 (qcs m)∈bx) (hm:Has F (isQ (qv m) q)) (hs:∀ v',Sel bx (.slice v 31 4 (qcells n ms)) (.slice v' 31 4 (qcells (n+1) (upd ms n m))) (bx2 v')) (hl:n≤1000000) (h:∀ v',K v' (bx2 v') F) :
  LO Tryz.prog (.call {callee:=.builtin .append,args:=#[x,y],argTypes:=#[24,24]}) ty e bx F K:=by
 refine LO.byP (fun fr w ho=>(one_q (bx:=bx) hm).all ho) fun h1=>?_
 exact LO.append T.e24 hx hy (news:=qcs m) (by rw[qcells_app];exact hs) (SrcE.one hu rfl (by decide)) h1 (by rw[cellsF_len];show(n*4+4)*64≤_;omega) (by rw[cellsF_len];show n*4+4≤_;omega) h
end
end
def mF (n:Nat) (ms:Nat→QM) (q:Nat→Rat):Fct where
 p h:=∀ i,i < n→(isQ (qv (ms i)) (q i)).p h
 mono _ _ hl hp i hi:=(isQ _ _).mono _ _ hl (hp i hi)
def fF (v:Value) (n:Nat) (ms:Nat→QM) (q:Nat→Rat):Fct where
 p h:=(slC v n 4 (qcell ms)).p h∧(mF n ms q).p h
 mono _ _ hl hp:=⟨(slC _ _ _ _).mono _ _ hl hp.1,(mF _ _ _).mono _ _ hl hp.2⟩
section
variable {P:Program} {e:Env} {bx bx':List Ow} {F:List Fct} {ty t el:TypeId} {v u:Value} {x y:Operand} {n k:Nat} {ms:Nat→QM} {m:QM} {qf:Nat→Rat} {z:Rat} {K:RPost}
theorem W.Has.fs (h:Has F (fF v n ms qf)):Has F (slC v n 4 (qcell ms)):=fun p hf=>(h p hf).1
theorem W.Has.fm (h:Has F (fF v n ms qf)):Has F (mF n ms qf):=fun p hf=>(h p hf).2
theorem W.Has.q (h:Has F (mF n ms qf)) (hk:k < n):Has F (isQ (qv (ms k)) (qf k)):=fun p hf=>h p hf k hk
theorem KnS.ff (h:Has F (fF v n ms qf)):KnS bx F v n:=KnS.f h.fs
theorem YO.ldFf (hs:Row P t 4) (hx:ev e x=some (.pointer (some (eaddr v (k*4))))) (hf:Has F (fF v n ms qf)) (hk:k < n):YO P (.load t x) ty e bx F (qv (ms k)):=
 YO.ldRS (us:=qcs (ms k)) hs hx hf.fs (by omega) rfl fun i hi=>by
  rw[qcell_at _ _ hi]
  match i,hi with|0,_=>rfl|1,_=>rfl|2,_=>rfl|3,_=>rfl
theorem W.Has.mFset (h:Has F (mF n ms qf)) (hm:Has F (isQ (qv m) z)):Has F (mF n (upd ms k m) (upd qf k z)):=fun p hf i hi=>by
 by_cases c:i=k
 ·subst c;rw[upd_at,upd_at];exact hm p hf
 ·rw[upd_ne c,upd_ne c];exact h p hf i hi
theorem W.Has.mFapp (h:Has F (mF n ms qf)) (hm:Has F (isQ (qv m) z)):Has F (mF (n+1) (upd ms n m) (upd qf n z)):=fun p hf i hi=>by
 by_cases c:i=n
 ·subst c;rw[upd_at,upd_at];exact hm p hf
 ·rw[upd_ne c,upd_ne c];exact h p hf i (by omega)
theorem W.Has.mFsame {q':Nat→Rat} (h:Has F (mF n ms qf)) (he:∀ i,i < n→qf i=q' i):Has F (mF n ms q'):=fun p hf i hi=>by
 rw[←he i hi];exact h p hf i hi
theorem W.Has.mFn (ms:Nat→QM) (q:Nat→Rat):Has F (mF 0 ms q):=fun p hf i hi=>absurd hi (by omega)
theorem W.Has.mF0 (n:Nat):Has F (mF n (fun _=>m00) (fun _=>0)):=fun p hf i hi=>hasQ0 p hf
theorem HasB.fF (hb:Ow.slice v el 4 (qcells n ms)∈bx) (hm:Has F (mF n ms qf)):HasB bx F (fF v n ms qf):=fun fr w ho=>
 ⟨HasB.o hb (cellsF_len _ _) (by decide) (fun j hj=>cellsF_get hj) fr w ho,HasB.f hm fr w ho⟩
theorem okF {fr:PH} {w:World} (ho:OK fr bx F w) (hs:Sel bx (.slice v el 4 (qcells n ms)) (.slice (.slice none 0 0) el 4 []) bx') (hm:Has F (mF n ms qf)):OK fr bx' (fF v n ms qf::F) w:=by
 have h:=ho.freeze hs (cellsF_len _ _) (by decide) (qcell ms) fun j hj=>cellsF_get hj
 refine(h.add (f:=Go.Proofs.YtaongbhamadlkaaGreat.fF v n ms qf) ⟨h.facts _ (List.mem_cons_self ..),?_⟩).less fun f hf=>?_
 ·exact(show Has (slC v n 4 (qcell ms)::F) (mF n ms qf) from fun p hp=>hm p fun g hg=>hp g (List.mem_cons_of_mem _ hg)) _ h.facts
 ·rcases List.mem_cons.1 hf with rfl|hf
  ·exact List.mem_cons_self ..
  ·exact List.mem_cons_of_mem _ (List.mem_cons_of_mem _ hf)
end
section
variable {P:Program} {e:Env} {bx bx':List Ow} {F:List Fct} {el n:Nat} {c:Code} {Q:Post} {n':Nat} {rest Lo:List Oper} {Q2:Env→List Ow→List Fct→Prop}
theorem WC.freezeF (v:Value) (n:Nat) (ms:Nat→QM) (q:Nat→Rat) (hs:Sel bx (.slice v el 4 (qcells n ms)) (.slice (.slice none 0 0) el 4 []) bx') (hm:Has F (mF n ms q)) (h:WC P n' c e bx' (fF v n ms q::F) Q):WC P n' c e bx F Q:=fun fr w0 a w hk hr ho=>h fr w0 a w hk hr (okF ho hs hm)
theorem WL.freezeF (v:Value) (n:Nat) (ms:Nat→QM) (q:Nat→Rat) (hs:Sel bx (.slice v el 4 (qcells n ms)) (.slice (.slice none 0 0) el 4 []) bx') (hm:Has F (mF n ms q)) (h:WL P n' Lo rest e bx' (fF v n ms q::F) Q2):WL P n' Lo rest e bx F Q2:=fun fr w0 a w Q' hQ hk hr ho=>h fr w0 a w Q' hQ hk hr (okF ho hs hm)
end
end Go.Proofs.YtaongbhamadlkaaGreat
namespace Go.Proofs.YtaongbhamadlkaaGreat
namespace X
def sm:Nat→(Nat→Rat)→Rat
 |0,_=>0
 |n+1,f=>sm n f+f n
section
variable {n m:Nat} {f g:Nat→Rat} {c:Rat}
theorem sm_congr:∀ {n:Nat},(∀ i,i < n→f i=g i)→sm n f=sm n g
 |0,_=>rfl
 |n+1,h=>by rw[sm,sm,sm_congr (fun i hi=>h i (by omega)),h n (by omega)]
theorem sm_add:∀ n,sm n (fun i=>f i+g i)=sm n f+sm n g
 |0=>by simp only[sm];grind
 |n+1=>by rw[sm,sm,sm,sm_add n];grind
theorem sm_sub:∀ n,sm n (fun i=>f i - g i)=sm n f - sm n g
 |0=>by simp[sm];grind
 |n+1=>by rw[sm,sm,sm,sm_sub n];grind
theorem sm_mul (c:Rat):∀ n,sm n (fun i=>c*f i)=c*sm n f
 |0=>by simp[sm]
 |n+1=>by rw[sm,sm,sm_mul c n];grind
theorem sm_mulr (c:Rat):∀ n,sm n (fun i=>f i*c)=sm n f*c
 |0=>by simp[sm]
 |n+1=>by rw[sm,sm,sm_mulr c n];grind
theorem sm_zero:∀ {n:Nat},(∀ i,i < n→f i=0)→sm n f=0
 |0,_=>rfl
 |n+1,h=>by rw[sm,sm_zero (fun i hi=>h i (by omega)),h n (by omega)];grind
theorem sm_one {r:Nat}:∀ {n:Nat},r < n→(∀ i,i < n→i≠r→f i=0)→sm n f=f r
 |0,h,_=>by omega
 |n+1,h,h2=>by
  rw[sm]
  by_cases e:r=n
  ·rw[show sm n f=0 from sm_zero (fun i hi=>h2 i (by omega) (by omega)),e];grind
  ·rw[sm_one (n:=n) (by omega) (fun i hi=>h2 i (by omega)),h2 n (by omega) (fun h=>e h.symm)];grind
theorem sm_split {r:Nat}:∀ {n:Nat},r < n→sm n f=f r+sm n (fun i=>if i=r then 0 else f i)
 |0,h=>by omega
 |n+1,h=>by
  rw[sm,sm]
  by_cases e:r=n
  ·have h0:sm n (fun i=>if i=r then 0 else f i)=sm n f:=sm_congr fun i hi=>if_neg (by omega)
   rw[h0,if_pos e.symm,e];grind
  ·rw[if_neg (fun h=>e h.symm),sm_split (n:=n) (r:=r) (by omega)];grind
theorem sm_comm {F:Nat→Nat→Rat} (m:Nat):∀ n,sm n (fun i=>sm m (fun j=>F i j))=sm m (fun j=>sm n (fun i=>F i j))
 |0=>(sm_zero (fun _ _=>rfl)).symm
 |n+1=>by
  rw[sm,sm_comm m n,←sm_add];rfl
theorem sm_nonneg:∀ {n:Nat},(∀ i,i < n→0≤f i)→0≤sm n f
 |0,_=>by simp[sm]
 |n+1,h=>by
  have h1:=sm_nonneg (n:=n) (fun i hi=>h i (by omega))
  have h2:=h n (by omega)
  rw[sm];grind
theorem sm_le:∀ {n:Nat},(∀ i,i < n→f i≤g i)→sm n f≤sm n g
 |0,_=>by simp[sm]
 |n+1,h=>by
  have h1:=sm_le (n:=n) (fun i hi=>h i (by omega))
  have h2:=h n (by omega)
  rw[sm,sm];grind
end
structure St where
 t:Nat→Nat→Rat
 c:Nat→Rat
 b:Nat→Nat
structure Inv (m n:Nat) (A:Nat→Nat→Rat) (c0:Nat→Rat) (s:St):Prop where
 bd:∀ i,i < m→s.b i < n
 u:∀ i,i < m→∀ k,k < m→s.t i (s.b k)=if i=k then 1 else 0
 l:∃ M:Nat→Nat→Rat,∀ i,i < m→∀ j,j≤n→s.t i j=sm m fun r=>M i r*A r j
 r:∀ r,r < m→∀ j,j≤n→A r j=sm m fun i=>A r (s.b i)*s.t i j
 w:∃ w:Nat→Rat,∀ j,j≤n→s.c j=c0 j - sm m fun r=>w r*A r j
 z:∀ i,i < m→s.c (s.b i)=0
def pv (s:St) (row col:Nat):St where
 t i j:=if i=row then s.t row j / s.t row col else s.t i j - s.t i col*(s.t row j / s.t row col)
 c j:=s.c j - s.c col*(s.t row j / s.t row col)
 b i:=if i=row then col else s.b i
section
variable {m n:Nat} {A:Nat→Nat→Rat} {c0:Nat→Rat} {s:St} {row col:Nat}
theorem Inv.pv (h:Inv m n A c0 s) (hr:row < m) (hc:col < n) (hd:s.t row col≠0):Inv m n A c0 (pv s row col):=by
 obtain⟨M,hM⟩:=h.l
 obtain⟨w,hw⟩:=h.w
 refine⟨fun i hi=>?_,fun i hi k hk=>?_,⟨fun i r=>if i=row then M row r / s.t row col else M i r - s.t i col*(M row r / s.t row col),fun i hi j hj=>?_⟩,fun r hr' j hj=>?_,⟨fun r=>w r+s.c col*(M row r / s.t row col),fun j hj=>?_⟩,fun i hi=>?_⟩
 ·show(if i=row then col else s.b i) < n
  split
  ·exact hc
  ·exact h.bd i hi
 ·show(if i=row then s.t row (if k=row then col else s.b k) / s.t row col else s.t i (if k=row then col else s.b k) - s.t i col*(s.t row (if k=row then col else s.b k) / s.t row col))=_
  by_cases ek:k=row
  ·subst ek
   rw[if_pos rfl]
   by_cases ei:i=k
   ·subst ei;rw[if_pos rfl,if_pos rfl];grind
   ·rw[if_neg ei,if_neg ei];grind
  ·rw[if_neg ek]
   have h1:=h.u row hr k hk
   rw[if_neg (fun e=>ek e.symm)] at h1
   by_cases ei:i=row
   ·subst ei;rw[if_pos rfl,h1,if_neg (fun e=>ek e.symm)];grind
   ·rw[if_neg ei,h1,h.u i hi k hk];grind
 ·show(if i=row then s.t row j / s.t row col else s.t i j - s.t i col*(s.t row j / s.t row col))=_
  have h1:=hM row hr j hj
  by_cases ei:i=row
  ·subst ei
   rw[if_pos rfl,h1]
   rw[show(sm m fun r=>(if i=i then M i r / s.t i col else M i r - s.t i col*(M i r / s.t i col))*A r j)=sm m (fun r=>(M i r*A r j)*(s.t i col)⁻¹) from sm_congr fun r _=>by rw[if_pos rfl];grind]
   rw[sm_mulr];grind
  ·rw[if_neg ei,h1,hM i hi j hj]
   rw[show(sm m fun r=>(if i=row then M row r / s.t row col else M i r - s.t i col*(M row r / s.t row col))*A r j)=sm m (fun r=>M i r*A r j - (M row r*A r j)*(s.t i col*(s.t row col)⁻¹)) from sm_congr fun r _=>by rw[if_neg ei];grind]
   rw[sm_sub,sm_mulr];grind
 ·show _=sm m fun i=>A r (if i=row then col else s.b i)*(if i=row then s.t row j / s.t row col else s.t i j - s.t i col*(s.t row j / s.t row col))
  have h1:=h.r r hr' j hj
  have h2:=h.r r hr' col (by omega)
  rw[sm_split hr] at h1 h2 ⊢
  rw[if_pos rfl,if_pos rfl]
  rw[show(sm m fun i=>if i=row then 0 else A r (if i=row then col else s.b i)*(if i=row then s.t row j / s.t row col else s.t i j - s.t i col*(s.t row j / s.t row col)))=sm m (fun i=>(if i=row then 0 else A r (s.b i)*s.t i j) - (if i=row then 0 else A r (s.b i)*s.t i col)*(s.t row j / s.t row col)) from sm_congr fun i _=>by
   by_cases e:i=row
   ·rw[if_pos e,if_pos e,if_pos e];grind
   ·rw[if_neg e,if_neg e,if_neg e,if_neg e,if_neg e];grind]
  rw[sm_sub,sm_mulr]
  generalize (sm m fun i=>if i=row then 0 else A r (s.b i)*s.t i j)=p at *
  generalize (sm m fun i=>if i=row then 0 else A r (s.b i)*s.t i col)=q at *
  grind
 ·show s.c j - s.c col*(s.t row j / s.t row col)=_
  rw[hw j hj,hM row hr j hj]
  rw[show(sm m fun r=>(w r+s.c col*(M row r / s.t row col))*A r j)=sm m (fun r=>w r*A r j+(M row r*A r j)*(s.c col*(s.t row col)⁻¹)) from sm_congr fun r _=>by grind]
  rw[sm_add,sm_mulr];grind
 ·show s.c (if i=row then col else s.b i) - s.c col*(s.t row (if i=row then col else s.b i) / s.t row col)=0
  by_cases e:i=row
  ·rw[if_pos e];grind
  ·rw[if_neg e,h.z i hi,h.u row hr i hi,if_neg (fun h=>e h.symm)];grind
theorem Inv.cost (h:Inv m n A c0 s) {j:Nat} (hj:j≤n):s.c j=c0 j - sm m fun i=>c0 (s.b i)*s.t i j:=by
 obtain⟨w,hw⟩:=h.w
 rw[hw j hj]
 congr 1
 rw[show(sm m fun i=>c0 (s.b i)*s.t i j)=sm m fun i=>sm m fun r=>w r*(A r (s.b i)*s.t i j) from sm_congr fun i hi=>by
  have h1:=hw (s.b i) (by have:=h.bd i hi;omega)
  rw[h.z i hi] at h1
  rw[show c0 (s.b i)=sm m fun r=>w r*A r (s.b i) by grind,←sm_mulr]
  exact sm_congr fun r _=>by grind]
 rw[sm_comm]
 exact sm_congr fun r hr=>by rw[sm_mul,←h.r r hr j hj]
theorem Inv.uniq {s':St} (h:Inv m n A c0 s) (h':Inv m n A c0 s') (hb:∀ i,i < m→s.b i=s'.b i):(∀ i,i < m→∀ j,j≤n→s.t i j=s'.t i j)∧∀ j,j≤n→s.c j=s'.c j:=by
 obtain⟨M,hM⟩:=h.l
 have h1:∀ i,i < m→∀ j,j≤n→s.t i j=s'.t i j:=fun i hi j hj=>by
  rw[hM i hi j hj]
  rw[show(sm m fun r=>M i r*A r j)=sm m fun r=>sm m fun k=>(M i r*A r (s.b k))*s'.t k j from sm_congr fun r hr=>by
   rw[h'.r r hr j hj,←sm_mul]
   exact sm_congr fun k hk=>by rw[hb k hk];grind]
  rw[sm_comm]
  rw[show(sm m fun k=>sm m fun r=>(M i r*A r (s.b k))*s'.t k j)=sm m fun k=>(if i=k then 1 else 0)*s'.t k j from sm_congr fun k hk=>by
   rw[sm_mulr,←hM i hi _ (by have:=h.bd k hk;omega),h.u i hi k hk]]
  rw[sm_one hi (fun k _ hk=>by rw[if_neg (fun e=>hk e.symm)];grind),if_pos rfl];grind
 refine⟨h1,fun j hj=>?_⟩
 rw[h.cost hj,h'.cost hj]
 congr 1
 exact sm_congr fun i hi=>by rw[hb i hi,h1 i hi j hj]
theorem Inv.cross {s':St} (h:Inv m n A c0 s) (h':Inv m n A c0 s') {j:Nat} (hj:j≤n):s.c j=s'.c j - sm m fun i=>s'.c (s.b i)*s.t i j:=by
 obtain⟨w,hw⟩:=h'.w
 rw[h.cost hj,hw j hj]
 rw[show(sm m fun i=>s'.c (s.b i)*s.t i j)=sm m fun i=>c0 (s.b i)*s.t i j - sm m fun r=>w r*(A r (s.b i)*s.t i j) from sm_congr fun i hi=>by
  rw[hw _ (by have:=h.bd i hi;omega)]
  rw[show(sm m fun r=>w r*(A r (s.b i)*s.t i j))=(sm m fun r=>w r*A r (s.b i))*s.t i j from by
   rw[←sm_mulr];exact sm_congr fun r _=>by grind]
  grind]
 rw[sm_sub,sm_comm]
 rw[show(sm m fun r=>sm m fun i=>w r*(A r (s.b i)*s.t i j))=sm m fun r=>w r*A r j from sm_congr fun r hr=>by rw[sm_mul,←h.r r hr j hj]]
 grind
end
end X
end Go.Proofs.YtaongbhamadlkaaGreat
namespace Go.Proofs.YtaongbhamadlkaaGreat
namespace X
def fstT (p:Nat→Bool):Nat→Nat→Option Nat
 |0,_=>none
 |c+1,k=>if p k=true then some k else fstT p c (k+1)
theorem fstT_spec (p:Nat→Bool):∀ c k,(fstT p c k=none∧∀ j,k≤j→j < k+c→p j=false)∨∃ j,fstT p c k=some j∧k≤j∧j < k+c∧p j=true∧∀ i,k≤i→i < j→p i=false:=by
 intro c
 induction c with
 |zero=>intro k;exact .inl ⟨rfl,fun j h1 h2=>by omega⟩
 |succ c ih=>
  intro k
  unfold fstT
  by_cases h:p k=true
  ·rw[if_pos h];exact .inr ⟨k,rfl,Nat.le_refl _,by omega,h,fun i h1 h2=>by omega⟩
  ·rw[if_neg h]
   have h':p k=false:=by simpa using h
   rcases ih (k+1) with ⟨h1,h2⟩|⟨j,h1,h2,h3,h4,h5⟩
   ·refine .inl ⟨h1,fun j h3 h4=>?_⟩
    by_cases e:j=k
    ·rw[e];exact h'
    ·exact h2 j (by omega) (by omega)
   ·refine .inr ⟨j,h1,by omega,by omega,h4,fun i h6 h7=>?_⟩
    by_cases e:i=k
    ·rw[e];exact h'
    ·exact h5 i (by omega) h7
def ent (s:St) (e:Nat):Option Nat:=fstT (fun k=>decide (s.c k < 0)) e 0
def lev (n:Nat) (s:St) (k:Nat):Nat→Option Nat
 |0=>none
 |i+1=>if s.t i k≤0 then lev n s k i else match lev n s k i with
  |none=>some i
  |some r=>if s.t i n / s.t i k < s.t r n / s.t r k∨(s.t i n / s.t i k=s.t r n / s.t r k∧s.b i < s.b r) then some i else some r
theorem ent_spec (s:St) (e:Nat):(ent s e=none∧∀ k,k < e→0≤s.c k)∨∃ k,ent s e=some k∧k < e∧s.c k < 0∧∀ j,j < k→0≤s.c j:=by
 rcases fstT_spec (fun k=>decide (s.c k < 0)) e 0 with ⟨h1,h2⟩|⟨j,h1,_,h3,h4,h5⟩
 ·exact .inl ⟨h1,fun k hk=>by have:=of_decide_eq_false (h2 k (by omega) (by omega));grind⟩
 ·exact .inr ⟨j,h1,by omega,of_decide_eq_true h4,fun k hk=>by have:=of_decide_eq_false (h5 k (by omega) hk);grind⟩
theorem lev_spec (n:Nat) (s:St) (k:Nat):∀ m,(lev n s k m=none∧∀ i,i < m→s.t i k≤0)∨∃ r,lev n s k m=some r∧r < m∧0 < s.t r k∧∀ i,i < m→0 < s.t i k→s.t r n / s.t r k≤s.t i n / s.t i k∧(s.t i n / s.t i k=s.t r n / s.t r k→s.b r≤s.b i):=by
 intro m
 induction m with
 |zero=>exact .inl ⟨rfl,fun i h=>by omega⟩
 |succ m ih=>
  unfold lev
  by_cases c:s.t m k≤0
  ·rw[if_pos c]
   rcases ih with ⟨h1,h2⟩|⟨r,h1,h2,h3,h4⟩
   ·refine .inl ⟨h1,fun i hi=>?_⟩
    by_cases e:i=m
    ·subst e;exact c
    ·exact h2 i (by omega)
   ·refine .inr ⟨r,h1,by omega,h3,fun i hi hp=>?_⟩
    by_cases e:i=m
    ·subst e;grind
    ·exact h4 i (by omega) hp
  ·rw[if_neg c]
   rcases ih with ⟨h1,h2⟩|⟨r,h1,h2,h3,h4⟩
   ·rw[h1]
    refine .inr ⟨m,rfl,by omega,by grind,fun i hi hp=>?_⟩
    by_cases e:i=m
    ·subst e;exact⟨by grind,fun _=>Nat.le_refl _⟩
    ·have:=h2 i (by omega);grind
   ·rw[h1]
    simp only
    by_cases d:s.t m n / s.t m k < s.t r n / s.t r k∨(s.t m n / s.t m k=s.t r n / s.t r k∧s.b m < s.b r)
    ·rw[if_pos d]
     refine .inr ⟨m,rfl,by omega,by grind,fun i hi hp=>?_⟩
     by_cases e:i=m
     ·subst e;exact⟨by grind,fun _=>Nat.le_refl _⟩
     ·obtain⟨h5,h6⟩:=h4 i (by omega) hp
      rcases d with d|⟨d1,d2⟩
      ·exact⟨by grind,fun h=>by grind⟩
      ·exact⟨by grind,fun h=>by have:=h6 (by grind);omega⟩
    ·rw[if_neg d]
     refine .inr ⟨r,rfl,by omega,h3,fun i hi hp=>?_⟩
     by_cases e:i=m
     ·subst e
      refine⟨by grind,fun h=>?_⟩
      by_cases f:s.b i < s.b r
      ·exact absurd (.inr ⟨h,f⟩) d
      ·omega
     ·exact h4 i (by omega) hp
inductive Stp (m n e:Nat) (s:St):St→Prop where
 |mk (r k:Nat):ent s e=some k→lev n s k m=some r→Stp m n e s (pv s r k)
def Bas (m:Nat) (s:St) (v:Nat):Prop:=∃ r,r < m∧s.b r=v
section
variable {m n e:Nat} {A:Nat→Nat→Rat} {c0:Nat→Rat}
structure Ok (m n e:Nat) (A:Nat→Nat→Rat) (c0:Nat→Rat) (s:St):Prop where
 i:Inv m n A c0 s
 f:∀ i,i < m→0≤s.t i n
theorem ratio_nonneg {a b:Rat} (ha:0≤a) (hb:0 < b):0≤a / b:=by
 rw[Rat.div_def];exact Rat.mul_nonneg ha (Rat.le_of_lt (Rat.inv_pos.2 hb))
theorem div_mul_self' {a b:Rat} (hb:b≠0):a / b*b=a:=by grind
theorem Ok.stp {s s':St} (h:Ok m n e A c0 s) (he:e≤n) (hs:Stp m n e s s'):Ok m n e A c0 s':=by
 obtain⟨r,k,h1,h2⟩:=hs
 rcases ent_spec s e with ⟨g,_⟩|⟨k',g1,g2,g3,g4⟩
 ·rw[h1] at g;cases g
 obtain rfl:k=k':=by rw[h1] at g1;cases g1;rfl
 rcases lev_spec n s k m with ⟨g,_⟩|⟨r',f1,f2,f3,f4⟩
 ·rw[h2] at g;cases g
 obtain rfl:r=r':=by rw[h2] at f1;cases f1;rfl
 refine⟨h.i.pv f2 (by omega) (by grind),fun i hi=>?_⟩
 show 0≤(if i=r then s.t r n / s.t r k else s.t i n - s.t i k*(s.t r n / s.t r k))
 have hq:=ratio_nonneg (h.f r f2) f3
 by_cases ei:i=r
 ·rw[if_pos ei];exact hq
 ·rw[if_neg ei]
  by_cases hp:0 < s.t i k
  ·have h3:=(f4 i hi hp).1
   have h4:s.t i n=s.t i n / s.t i k*s.t i k:=(div_mul_self' (by grind)).symm
   have h5:=Rat.mul_nonneg (Rat.le_of_lt hp) (show 0≤s.t i n / s.t i k - s.t r n / s.t r k by grind)
   grind
  ·have h5:=Rat.mul_nonneg (show 0≤-s.t i k by grind) hq
   have:=h.f i hi
   grind
end
end X
end Go.Proofs.YtaongbhamadlkaaGreat
namespace Go.Proofs.YtaongbhamadlkaaGreat
open W Go.RowKit
abbrev rowO (w:Nat) (v:Value) (ms:Nat→QM):Ow:=Ow.slice v 31 4 (qcells w ms)
def rowsL (l:List Nat) (w:Nat) (rv:Nat→Value) (ms:Nat→Nat→QM):List Ow:=l.map fun i=>rowO w (rv i) (ms i)
abbrev rowsO (m w:Nat) (rv:Nat→Value) (ms:Nat→Nat→QM):List Ow:=rowsL (List.range m) w rv ms
abbrev rowsX (m w:Nat) (rv:Nat→Value) (ms:Nat→Nat→QM) (r:Nat):List Ow:=rowsL ((List.range m).erase r) w rv ms
abbrev rowsY (m w:Nat) (rv:Nat→Value) (ms:Nat→Nat→QM) (r i:Nat):List Ow:=rowsL (((List.range m).erase r).erase i) w rv ms
section
variable {m w r i:Nat} {rv:Nat→Value} {ms:Nat→Nat→QM} {x y:Nat→QM}
theorem rows_one (h:r < m):(rowsO m w rv ms).Perm (rowO w (rv r) (ms r)::rowsX m w rv ms r):=by
 have:=(List.perm_cons_erase (List.mem_range.2 h)).map fun i=>rowO w (rv i) (ms i)
 exact this
theorem rowsX_upd:rowsX m w rv (upd ms r x) r=rowsX m w rv ms r:=by
 unfold rowsX rowsL
 refine List.map_congr_left fun j hj=>?_
 rw[upd_ne ((List.nodup_range.mem_erase_iff).1 hj).1]
theorem rows_upd (h:r < m):(rowsO m w rv (upd ms r x)).Perm (rowO w (rv r) x::rowsX m w rv ms r):=by
 have:=rows_one (w:=w) (rv:=rv) (ms:=upd ms r x) h
 rwa [rowsX_upd,upd_at] at this
theorem rows_two (hr:r < m) (hi:i < m) (hne:i≠r):(rowsO m w rv ms).Perm (rowO w (rv i) (ms i)::rowO w (rv r) (ms r)::rowsY m w rv ms r i):=by
 refine(rows_one hr).trans ?_
 have:=(List.perm_cons_erase ((List.nodup_range.mem_erase_iff).2 ⟨hne,List.mem_range.2 hi⟩)).map fun i=>rowO w (rv i) (ms i)
 exact(List.Perm.cons _ this).trans (List.Perm.swap _ _ _)
theorem rowsY_upd:rowsY m w rv (upd ms i x) r i=rowsY m w rv ms r i:=by
 unfold rowsY rowsL
 refine List.map_congr_left fun j hj=>?_
 rw[upd_ne ((((List.nodup_range).erase _).mem_erase_iff).1 hj).1]
theorem rows_two_upd (hr:r < m) (hi:i < m) (hne:i≠r):(rowsO m w rv (upd ms i x)).Perm (rowO w (rv i) x::rowO w (rv r) (ms r)::rowsY m w rv ms r i):=by
 have:=rows_two (w:=w) (rv:=rv) (ms:=upd ms i x) hr hi hne
 rwa [rowsY_upd,upd_at,upd_ne (fun h=>hne h.symm)] at this
end
theorem YO.ld73 {P:Program} {ty:TypeId} {e:Env} {bx:List Ow} {F:List Fct} {t tg g:Nat} {x:Operand} {f k l a b c d:Value} (hs:Row P t 4) (hx:ev e x=some (.pointer (some ⟨g,3,none⟩))) (hb:Ow.cells g tg [f,k,l,a,b,c,d]∈bx):YO P (.load t x) ty e bx F (.agg #[a,b,c,d]):=YO.ldRB hs hx hb (us:=[a,b,c,d]) rfl rfl
def fnV (m:Nat) (rv:Nat→Value):List Value:=(List.range m).map rv
def fnL (m:Nat) (b:Nat→Nat):List Int:=(List.range m).map fun i=>(b i:Int)
theorem fnV_len (m:Nat) (rv:Nat→Value):(fnV m rv).length=m:=by simp[fnV]
theorem fnV_get {m:Nat} {rv:Nat→Value} {i:Nat} (h:i < m):(fnV m rv)[i]?=some (rv i):=by simp[fnV,h]
theorem fnL_len (m:Nat) (b:Nat→Nat):(fnL m b).length=m:=by simp[fnL]
theorem fnL_set {m:Nat} {b:Nat→Nat} {r c:Nat}:(fnL m b).set r (c:Int)=fnL m (upd b r c):=by
 apply List.ext_getElem?
 intro j
 rw[List.getElem?_set,fnL_len]
 by_cases e:r=j
 ·subst e
  rw[if_pos rfl]
  by_cases h:r < m
  ·rw[if_pos h];simp[fnL,h,upd_at]
  ·rw[if_neg h];simp[fnL,h]
 ·rw[if_neg e]
  by_cases h:j < m
  ·simp[fnL,h,upd_ne (fun h=>e h.symm)]
  ·simp[fnL,h]
def mT (m w:Nat) (ms:Nat→Nat→QM) (t:Nat→Nat→Rat):Fct where
 p h:=∀ i,i < m→∀ k,k < w→(isQ (qv (ms i k)) (t i k)).p h
 mono _ _ hl hp i hi k hk:=(isQ _ _).mono _ _ hl (hp i hi k hk)
def rF (m w:Nat) (rv:Nat→Value) (ms:Nat→Nat→QM) (t:Nat→Nat→Rat):Fct where
 p h:=(∀ i,i < m→(slC (rv i) w 4 (qcell (ms i))).p h)∧(mT m w ms t).p h
 mono _ _ hl hp:=⟨fun i hi=>(slC _ _ _ _).mono _ _ hl (hp.1 i hi),(mT _ _ _ _).mono _ _ hl hp.2⟩
section
variable {P:Program} {e:Env} {bx bx':List Ow} {F:List Fct} {ty t el:TypeId} {v u:Value} {x y:Operand} {m w i k:Nat} {rv:Nat→Value} {ms:Nat→Nat→QM} {tq:Nat→Nat→Rat} {K:RPost}
theorem W.Has.rt (h:Has F (rF m w rv ms tq)):Has F (mT m w ms tq):=fun p hf=>(h p hf).2
theorem W.Has.rs (h:Has F (rF m w rv ms tq)) (hi:i < m):Has F (slC (rv i) w 4 (qcell (ms i))):=fun p hf=>(h p hf).1 i hi
theorem W.Has.qt (h:Has F (mT m w ms tq)) (hi:i < m) (hk:k < w):Has F (isQ (qv (ms i k)) (tq i k)):=fun p hf=>h p hf i hi k hk
theorem W.Has.tm (h:Has F (mT m w ms tq)) (hi:i < m):Has F (mF w (ms i) (tq i)):=fun p hf k hk=>h p hf i hi k hk
theorem W.Has.tr (h:Has F (rF m w rv ms tq)) (hi:i < m):Has F (fF (rv i) w (ms i) (tq i)):=fun p hf=>⟨(h p hf).1 i hi,fun k hk=>(h p hf).2 i hi k hk⟩
theorem W.Has.tset {x:Nat→QM} {q:Nat→Rat} (h:Has F (mT m w ms tq)) (hx:Has F (mF w x q)):Has F (mT m w (upd ms i x) (upd tq i q)):=fun p hf j hj k hk=>by
 by_cases c:j=i
 ·subst c;rw[upd_at,upd_at];exact hx p hf k hk
 ·rw[upd_ne c,upd_ne c];exact h p hf j hj k hk
theorem W.Has.tsame {t':Nat→Nat→Rat} (h:Has F (mT m w ms tq)) (he:∀ i,i < m→∀ k,k < w→tq i k=t' i k):Has F (mT m w ms t'):=fun p hf i hi k hk=>by
 rw[←he i hi k hk];exact h p hf i hi k hk
theorem KnS.rf (h:Has F (rF m w rv ms tq)) (hi:i < m):KnS bx F (rv i) w:=KnS.f (h.rs hi)
theorem KnS.oV (h:Ow.slice v el 1 (fnV m rv)∈bx):KnS bx F v m:=KnS.o h (by rw[fnV_len,Nat.mul_one]) (by decide)
theorem KnS.oN {b:Nat→Nat} (h:Ow.slice v el 1 (ints (fnL m b))∈bx):KnS bx F v m:=KnS.o h (by simp[fnL]) (by decide)
theorem YO.ldOV (hs:Scalar P t) (hx:ev e x=some (.pointer (some (eaddr v i)))) (hb:Ow.slice v el 1 (fnV m rv)∈bx) (hi:i < m):YO P (.load t x) ty e bx F (rv i):=YO.ldO hs hx hb (fnV_get hi)
theorem YO.ldON {b:Nat→Nat} (hs:Scalar P t) (hx:ev e x=some (.pointer (some (eaddr v i)))) (hb:Ow.slice v el 1 (ints (fnL m b))∈bx) (hi:i < m):YO P (.load t x) ty e bx F (.int .i64 (b i)):=YO.ldO hs hx hb (by simp[fnL,hi])
theorem YO.ldRf (hs:Row P t 4) (hx:ev e x=some (.pointer (some (eaddr (rv i) (k*4))))) (hf:Has F (rF m w rv ms tq)) (hi:i < m) (hk:k < w):YO P (.load t x) ty e bx F (qv (ms i k)):=YO.ldFf hs hx (hf.tr hi) hk
theorem HasB.rF (hb:∀ i,i < m→rowO w (rv i) (ms i)∈bx) (hm:Has F (mT m w ms tq)):HasB bx F (rF m w rv ms tq):=fun fr w' ho=>
 ⟨fun i hi=>HasB.o (hb i hi) (cellsF_len _ _) (by decide) (fun j hj=>cellsF_get hj) fr w' ho,HasB.f hm fr w' ho⟩
theorem mem_rows {i:Nat} (hi:i < m):rowO w (rv i) (ms i)∈rowsO m w rv ms:=List.mem_map.2 ⟨i,List.mem_range.2 hi,rfl⟩
theorem HasB.rows (hs:(rowsO m w rv ms).Sublist bx) (hm:Has F (mT m w ms tq)):HasB bx F (Go.Proofs.YtaongbhamadlkaaGreat.rF m w rv ms tq):=HasB.rF (fun _ hi=>hs.subset (mem_rows hi)) hm
abbrev sV (v:Value) (m:Nat) (rv:Nat→Value):Fct:=slC v m 1 rv
theorem HasB.sV (hb:Ow.slice v el 1 (fnV m rv)∈bx):HasB bx F (sV v m rv):=HasB.o hb (by rw[fnV_len,Nat.mul_one]) (by decide) fun j hj=>fnV_get (by omega)
abbrev sN (v:Value) (m:Nat) (b:Nat→Nat):Fct:=slC v m 1 fun i=>.int .i64 (b i)
theorem HasB.sN {b:Nat→Nat} (hb:Ow.slice v el 1 (ints (fnL m b))∈bx):HasB bx F (sN v m b):=HasB.o hb (by simp[fnL]) (by decide) fun j hj=>by
 have hj':j < m:=by omega
 simp[fnL,hj']
end
section
variable {P:Program} {n:Nat} {c x y:Code} {L rest:List Oper} {e:Env} {bx bx' r:List Ow} {F:List Fct} {Q:Post} {Q2:Env→List Ow→List Fct→Prop}
theorem WC.perm (bx':List Ow) (hp:bx.Perm bx') (h:WC P n c e bx' F Q):WC P n c e bx F Q:=fun fr w0 a w hk hr ho=>h fr w0 a w hk hr (ho.perm hp)
theorem WL.perm (bx':List Ow) (hp:bx.Perm bx') (h:WL P n L rest e bx' F Q2):WL P n L rest e bx F Q2:=fun fr w0 a w Q' hQ hk hr ho=>h fr w0 a w Q' hQ hk hr (ho.perm hp)
theorem WD.perm {hs:List Nat} {b0:List Ow} {F0:List Fct} {p:Plan} (bx':List Ow) (hp:bx.Perm bx') (h:WD P n L hs b0 F0 p e bx' F Q2):WD P n L hs b0 F0 p e bx F Q2:=fun fr w0 listed a w fuel Q' h1 h2 h3 h4 h5 h6 hk hr ho hf=>h fr w0 listed a w fuel Q' h1 h2 h3 h4 h5 h6 hk hr (ho.perm hp) hf
theorem WD.callG {hs:List Nat} {b0:List Ow} {F0 F':List Fct} {p:Plan} {i d:Nat} {f:FuncId} {x:Operand} {args:List Operand} {ats:Array TypeId} {vs:List Value} {R:RPost} {ty:TypeId} {pos:String} {af:Array Edge} {gd:Option (Nat×Bool)} (ba br:List Ow) (hp:bx.Perm (ba++br)) (hf:FnB P f vs ba F' R) (hK:∀ v b G,R v b G→WD P n L hs b0 F0 p ((d,v)::e) (b++br) (G++F) Q2)
  (hL:L[i]?=some ⟨some d,.call {callee:=.value x,args:=args.toArray,argTypes:=ats},ty,pos,af,gd⟩:=by exact rfl) (hx:ev e x=some (.func (.func f) #[] #[]):=by exact rfl) (hv:Evs e args vs:=by repeat(first|exact Evs.nil|(apply Evs.cons;exact rfl))) (hF:HasAll F F':=by repeat(first|exact HasAll.nil|(apply HasAll.cons;exact hsA)))
  (hd:Nat.blt d n=true:=by exact rfl) (hg:gok L e gd=some true:=by exact rfl) (lt:lateB L hs i=true:=by kernel_rfl):WD P n L hs b0 F0 (.loud i p) e bx F Q2:=
 WD.l hL hd hg (LO.call (first:=[]) (cap:=[]) hx hv ba br hp (by simpa using hf) hF.all fun v b G hR=>⟨.inl lt,hK v b G hR⟩)
theorem WD.callC {hs:List Nat} {b0:List Ow} {F0 F':List Fct} {p:Plan} {i d:Nat} {f:FuncId} {x:Operand} {args:List Operand} {ats:Array TypeId} {vs:List Value} {R:RPost} {ty:TypeId} {pos:String} {af:Array Edge} {gd:Option (Nat×Bool)} (first cap:List Value) (hf:FnB P f (first++vs++cap) [] F' R) (hK:∀ v b G,R v b G→WD P n L hs b0 F0 p ((d,v)::e) (b++bx) (G++F) Q2)
  (hL:L[i]?=some ⟨some d,.call {callee:=.value x,args:=args.toArray,argTypes:=ats},ty,pos,af,gd⟩:=by exact rfl) (hx:ev e x=some (.func (.func f) first.toArray cap.toArray):=by exact rfl) (hv:Evs e args vs:=by repeat(first|exact Evs.nil|(apply Evs.cons;exact rfl))) (hF:HasAll F F':=by repeat(first|exact HasAll.nil|(apply HasAll.cons;exact hsA)))
  (hd:Nat.blt d n=true:=by exact rfl) (hg:gok L e gd=some true:=by exact rfl) (lt:lateB L hs i=true∨(b0.Sublist bx∧∀ f∈F0,f∈F):=by(first|(focus(apply Or.inr;constructor;(repeat(first|exact List.Sublist.refl _|exact List.nil_sublist _|apply List.Sublist.cons_cons|apply List.Sublist.cons));(first|exact fun _ h=>h|(intro f hf;(repeat(first|exact hf|apply List.Mem.tail))));done))|(apply Or.inl;kernel_rfl))):WD P n L hs b0 F0 (.loud i p) e bx F Q2:=
 WD.l hL hd hg (LO.call hx hv [] bx (.refl _) hf hF.all fun v b G hR=>⟨lt.imp id fun h=>⟨h.1.trans (List.sublist_append_right _ _),fun f hf=>List.mem_append_right _ (h.2 f hf)⟩,hK v b G hR⟩)
theorem WL.callC {F':List Fct} {d:Nat} {f:FuncId} {x:Operand} {args:List Operand} {ats:Array TypeId} {vs:List Value} {R:RPost} {ty:TypeId} {pos:String} {af:Array Edge} {gd:Option (Nat×Bool)} (first cap:List Value) (hf:FnB P f (first++vs++cap) [] F' R) (hK:∀ v b G,R v b G→WL P n L rest ((d,v)::e) (b++bx) (G++F) Q2)
  (hx:ev e x=some (.func (.func f) first.toArray cap.toArray):=by exact rfl) (hv:Evs e args vs:=by repeat(first|exact Evs.nil|(apply Evs.cons;exact rfl))) (hF:HasAll F F':=by repeat(first|exact HasAll.nil|(apply HasAll.cons;exact hsA)))
  (hd:Nat.blt d n=true:=by exact rfl) (hg:gok L e gd=some true:=by exact rfl):WL P n L (⟨some d,.call {callee:=.value x,args:=args.toArray,argTypes:=ats},ty,pos,af,gd⟩::rest) e bx F Q2:=
 WL.l hd hg (LO.call hx hv [] bx (.refl _) hf hF.all hK)
theorem W.HasAll.tail:∀ {F G:List Fct},(∀ f∈G,f∈F)→HasAll F G
 |_,[],_=>.nil
 |_,g::G,h=>.cons (Has.mem (h g (List.mem_cons_self ..))) (W.HasAll.tail fun f hf=>h f (List.mem_cons_of_mem _ hf))
theorem perm3 (a b c:Ow) (r:List Ow):(c::a::b::r).Perm (a::b::c::r):=by
 have h:([c,a,b]:List Ow).Perm [a,b,c]:=(List.perm_middle (a:=c) (l₁:=[a,b]) (l₂:=[])).symm
 exact h.append_right r
theorem perm6 {a b c d x y:Ow} {r R:List Ow} (h:R.Perm (x::y::r)):(a::b::c::d::R).Perm ([x,y]++(a::b::c::d::r)):=by
 have h1:(a::b::c::d::R).Perm ([a,b,c,d]++([x,y]++r)):=(((h.cons d).cons c).cons b).cons a
 refine h1.trans ?_
 rw[←List.append_assoc]
 have h2:([a,b,c,d]++[x,y]).Perm ([x,y]++[a,b,c,d]):=List.perm_append_comm
 have h3:=h2.append_right r
 rw[List.append_assoc [x,y]] at h3
 exact h3
theorem perm5 {a b c d x:Ow} {r R:List Ow} (h:R.Perm (x::r)):(a::b::c::d::R).Perm ([c,x]++(a::b::d::r)):=by
 have h1:(a::b::c::d::R).Perm ([a,b,c,d,x]++r):=(((h.cons d).cons c).cons b).cons a
 refine h1.trans ?_
 have h2:([a,b,c,d,x]:List Ow).Perm [c,x,a,b,d]:=by
  have e1:([a,b,c,d,x]:List Ow).Perm (c::[a,b,d,x]):=List.perm_middle (l₁:=[a,b]) (l₂:=[d,x])
  have e2:([a,b,d,x]:List Ow).Perm (x::[a,b,d]):=by
   have:=List.perm_middle (a:=x) (l₁:=[a,b,d]) (l₂:=[])
   simpa using this
  exact e1.trans (e2.cons c)
 exact h2.append_right r
theorem YO.eqNz {t el sz m:Nat} {x:Operand} {v:Value} {ty:TypeId} (hs:SliceT P t el sz) (hx:ev e x=some v) (hv:KnS bx F v m) (ty2:TypeId):YO P (.binOp .eql t x (.const (.slice none 0 0)) ty2) ty e bx F (.bool (isNil v)):=.of fun k fr a w o hop hk ho=>by
 have hx':=hk.eval hx
 obtain⟨a',cap,rfl,_,_,h5⟩:=(hv fr w ho).is
 have he:(eqGuard .eql t x (.const (.slice none 0 0)) (.slice a' m cap) (.slice none 0 0)).run P w=.ok () w:=by unfold eqGuard;simp[Sem.run_pure]
 have h2:a.eval (.const (.slice none 0 0))=.slice none 0 0:=rfl
 have h3:(Op.equal t (.slice a' m cap) (.slice none 0 0)).run P w=.ok (isNil (.slice a' m cap)) w:=run_eqnil 9999 w hs.1
 simp[execOp,hop,hx',h2,he,binOp,h3]
theorem YO.eqNz_t {t el sz m:Nat} {x:Operand} {v:Value} {ty ty2:TypeId} (hs:SliceT P t el sz) (hx:ev e x=some v) (hv:KnS bx F v m) (h:isNil v=true):YO P (.binOp .eql t x (.const (.slice none 0 0)) ty2) ty e bx F (.bool true):=by rw[←h];exact YO.eqNz hs hx hv ty2
theorem YO.eqNz_f {t el sz m:Nat} {x:Operand} {v:Value} {ty ty2:TypeId} (hs:SliceT P t el sz) (hx:ev e x=some v) (hv:KnS bx F v m) (h:isNil v=false):YO P (.binOp .eql t x (.const (.slice none 0 0)) ty2) ty e bx F (.bool false):=by rw[←h];exact YO.eqNz hs hx hv ty2
theorem WC.nilF {v:Value} {m:Nat} {ms:Nat→QM} {q:Nat→Rat} (hf:Has F (fF v m ms q)) (hn:isNil v=true) (h:m=0→WC P n c e bx F Q):WC P n c e bx F Q:=
 WC.pure (fun fr w ho=>by
  obtain⟨a,cap,rfl,h2,h3,h4|⟨b,off,rfl,_⟩⟩:=ho.has hf.fs
  ·exact h4.2.1
  ·cases hn) h
theorem one_fcells {F:List Fct} {n':Nat} {ms:Nat→QM} {q:Nat→Rat} {fr:PH} {w:World} (ho:OK fr bx F w) (hm:Has F (mF n' ms q)):∀ c∈qcells n' ms,c.oneCell'=true:=fun c hc=>by
 simp only[qcells,cellsF,List.mem_map,List.mem_range] at hc
 obtain⟨j,hj,rfl⟩:=hc
 have:=(one_q (m:=ms (j / 4)) (bx:=bx) (W.Has.q hm (k:=j / 4) (by omega))).all ho
 unfold qcell
 have hr:=row_get (l:=qcs (ms (j / 4))) (r:=j % 4) (n:=4) rfl (by omega)
 exact this _ (List.mem_of_getElem? hr)
theorem LO.appFf {n':Nat} {v u:Value} {x y:Operand} {ty:TypeId} {K:RPost} {ms:Nat→QM} {q:Nat→Rat} {bx2:Value→List Ow} (hx:ev e x=some v) (hy:ev e y=some u) (hu:Has F (fF u n' ms q)) (hs:∀ v',Sel bx (.slice v 31 4 []) (.slice v' 31 4 (qcells n' ms)) (bx2 v')) (hl:n'≤1000000) (h:∀ v',K v' (bx2 v') F) :
  LO Tryz.prog (.call {callee:=.builtin .append,args:=#[x,y],argTypes:=#[24,24]}) ty e bx F K:=by
 refine LO.byP (fun fr w ho=>one_fcells ho hu.fm) fun h1=>?_
 exact LO.append T.e24 hx hy (cs:=[]) (news:=qcells n' ms) hs (SrcE.fact hu.fs) h1 (by rw[cellsF_len,List.length_nil];omega) (by rw[cellsF_len,List.length_nil];omega) h
def LoopEndP {σ:Type} (E:σ→Env) (B:σ→List Ow) (G:σ→List Fct) (I:σ→Prop) (μ:σ→Nat) (s:σ) (e':Env) (bx':List Ow) (F':List Fct):Prop:=∃ s',(I s'∧μ s' < μ s)∧W.Sub (E s') e'∧(∃ r,bx'.Perm (B s'++r))∧HasAll F' (G s')
theorem WC.lpP {σ:Type} (E:σ→Env) (B:σ→List Ow) (G:σ→List Fct) (I:σ→Prop) (μ:σ→Nat) (s0:σ) (hI:I s0) (hround:∀ s,I s→WC P n c (E s) (B s) (G s) (thenQ (LoopEndP E B G I μ s) Q))
  (hE:W.Sub (E s0) e:=by repeat(first|exact Sub.nil _|refine Sub.cons rfl ?_)) (hB:(B s0).Sublist bx:=by repeat(first|exact List.Sublist.refl _|exact List.nil_sublist _|apply List.Sublist.cons_cons|apply List.Sublist.cons)) (hG:HasAll F (G s0):=by repeat(first|exact HasAll.nil|(apply HasAll.cons;exact hmA))):WC P n (.loop c) e bx F Q:=
 WC.loop E B G I μ s0 hI hE hB hG.all fun s hs fr w0 a w hk hr ho=>wp_mono (hround s hs fr w0 a w hk hr ho) fun ex a' w' hq=>by
  cases ex <;> first|exact hq|skip
  obtain⟨e1,b1,F1,h1,h2,h3,s',h4,h5,⟨r,h6⟩,h7⟩:=hq
  exact⟨e1,B s',F1,h1,h2,(h3.perm h6).drop (List.sublist_append_left _ _),s',h4,h5,List.Sublist.refl _,h7.all⟩
theorem LoopEndP.mk {σ:Type} {E:σ→Env} {B:σ→List Ow} {G:σ→List Fct} {I:σ→Prop} {μ:σ→Nat} {s:σ} {e':Env} {F':List Fct} (s':σ)
  (hI:I s') (hμ:μ s' < μ s) (r:List Ow) (hp:bx.Perm (B s'++r)) (hE:W.Sub (E s') e':=by repeat(first|exact Sub.nil _|refine Sub.cons rfl ?_)) (hG:HasAll F' (G s'):=by repeat(first|exact HasAll.nil|(apply HasAll.cons;exact hmA))):LoopEndP E B G I μ s e' bx F':=⟨s',⟨hI,hμ⟩,hE,⟨r,hp⟩,hG⟩
end
end Go.Proofs.YtaongbhamadlkaaGreat
namespace Go.Proofs.YtaongbhamadlkaaGreat
open W Go.RowKit
attribute [local irreducible] WC WL WD YO LO LoopEnd W.Fin Scalar SliceT FieldAt Row ArrT AllocT KnS Has W.One SrcE IntT
structure Bx (p:Prop):Prop where
 h:p
theorem gA {G G':Prop} (h:G') (s:Bx G'→G:=by
 intro h
 (first|refine go ?_|refine goX ?_|refine goB ?_|fail)
 exact Bx.h h):G:=s ⟨h⟩
theorem gB {G G':Prop} (h:G') (s:Bx G'→G:=by
 intro h
 (first|refine go ?_|refine goX ?_|refine goB ?_|refine goD ?_|refine goXD ?_|fail)
 exact Bx.h h):G:=s ⟨h⟩
theorem gH {G G':Prop} (h:G') (s:Bx G'→G:=by
 intro h
 (first|refine goG ?_|refine goDG ?_|fail)
 exact Bx.h h):G:=s ⟨h⟩
theorem gW {G G':Prop} (h:G') (s:Bx G'→G:=by
 intro h
 (first|refine goV ?_|refine goDV ?_|fail)
 exact Bx.h h):G:=s ⟨h⟩
theorem gM {G G':Prop} (h:G') (s:Bx G'→G:=by
 intro h
 (first|refine go ?_|refine goX ?_|refine goB ?_|refine goD ?_|refine goXD ?_|apply WD.more_of|refine WM.one (by exact rfl) (by exact rfl) (by exact rfl) ?_|refine WM.one0 (by exact rfl) (by exact rfl) ?_|refine goLS ?_|fail)
 exact Bx.h h):G:=s ⟨h⟩
theorem gI {G G':Prop} (h:G') (s:Bx G'→G:=by
 intro h
 (first|refine goG ?_|refine goDG ?_|refine goLG ?_|fail)
 exact Bx.h h):G:=s ⟨h⟩
theorem gU {G G':Prop} (h:G') (s:Bx G'→G:=by
 intro h
 (first|refine goV ?_|refine goDV ?_|refine goLV ?_|fail)
 exact Bx.h h):G:=s ⟨h⟩
theorem gY {G G':Prop} (h:G') (s:Bx G'→G:=by
 intro h
 (first|refine goLY ?_|refine goYB ?_|refine goYT ?_|fail)
 exact Bx.h h):G:=s ⟨h⟩
theorem gN {G A B:Prop} (h1:A) (h2:B) (s:Bx A→Bx B→G:=by
 intro h1 h2
 (first|refine WM.more (by exact rfl) (by exact rfl) (by exact rfl) ?_ ?_|refine WM.more0 (by exact rfl) (by exact rfl) ?_ ?_|fail)
 exact Bx.h h1
 exact Bx.h h2):G:=s ⟨h1⟩ ⟨h2⟩
theorem allAnd {α:Type} {p q:α→Prop} (h1:∀ a,p a) (h2:∀ a,q a):∀ a,p a∧q a:=fun a=>⟨h1 a,h2 a⟩
theorem meA {G:Prop} (h:G:=by first|(((repeat(first|exact List.Mem.head _|apply List.Mem.tail)));done)|fail):G:=h
theorem hmA {G:Prop} (h:G:=by first|(((focus(apply Has.mem;(repeat(first|exact List.Mem.head _|apply List.Mem.tail));done)));done)|fail):G:=h
theorem sfA {G:Prop} (h:G:=by first|((repeat(first|exact HasAll.nil|(apply HasAll.cons;(focus(apply Has.mem;(repeat(first|exact List.Mem.head _|apply List.Mem.tail));done)))));done)|fail):G:=h
theorem suA {G:Prop} (h:G:=by first|((repeat(first|exact Sub.nil _|refine Sub.cons rfl ?_));done)|fail):G:=h
theorem slA {G:Prop} (h:G:=by first|((repeat(first|exact List.Sublist.refl _|exact List.nil_sublist _|apply List.Sublist.cons_cons|apply List.Sublist.cons));done)|fail):G:=h
theorem seA {G:Prop} (h:G:=by first|(((repeat(first|exact Sel.head|apply Sel.tail)));done)|fail):G:=h
theorem t0A {G:Prop} (h:G:=by first|(((first|exact T.f26_0|exact T.f26_1|exact T.f26_2|exact T.f29_0|exact T.f29_1|exact T.f31_0|exact T.f31_1|exact T.f33_0|exact T.f33_1|exact T.f33_2|exact T.f33_3|exact T.f60_0|exact T.f60_1|exact T.f77_0|exact T.f77_1|exact T.f77_2|exact T.f88_0|exact T.f88_1|exact T.f88_2|exact T.f88_3|exact T.f88_4|exact T.f88_5|exact T.f107_0|exact T.f107_1|exact T.f107_2|exact T.f123_0|exact T.f123_1|exact T.f134_0|exact T.f134_1));done)|fail):G:=h
theorem t1A {G:Prop} (h:G:=by first|(((first|exact T.al3|exact T.al4|exact T.al22|exact T.al23|exact T.al24|exact T.al26|exact T.al29|exact T.al31|exact T.al33|exact T.al34|exact T.al48|exact T.al60|exact T.al72|exact T.al77|exact T.al84|exact T.al86|exact T.al88|exact T.al103|exact T.al107|exact T.al123|exact T.al129|exact T.al131|exact T.al134|exact T.al162));done)|fail):G:=h
theorem t2A {G:Prop} (h:G:=by first|(((first|exact T.sc3|exact T.sc4|exact T.sc22|exact T.sc23|exact T.sc24|exact T.sc34|exact T.sc48|exact T.sc72|exact T.sc84|exact T.sc86|exact T.sc103|exact T.sc129|exact T.sc131|exact T.sc162));done)|fail):G:=h
theorem t3A {G:Prop} (h:G:=by first|(((first|exact T.z3|exact T.z4|exact T.z22|exact T.z23|exact T.z24|exact T.z34|exact T.z48|exact T.z72|exact T.z84|exact T.z86|exact T.z103|exact T.z129|exact T.z131|exact T.z162));done)|fail):G:=h
theorem t4A {G:Prop} (h:G:=by first|(((first|exact T.r26|exact T.r29|exact T.r31|exact T.r33|exact T.r60|exact T.r77|exact T.r88|exact T.r107|exact T.r123|exact T.r134));done)|fail):G:=h
theorem t5A {G:Prop} (h:G:=by first|(((first|exact T.e22|exact T.e23|exact T.e24|exact T.e48|exact T.e72|exact T.e86|exact T.e129|exact T.e131));done)|fail):G:=h
theorem t6A {G:Prop} (h:G:=by first|(((first|exact T.s22|exact T.s23|exact T.s24|exact T.s48|exact T.s72|exact T.s86|exact T.s129|exact T.s131));done)|fail):G:=h
theorem t7A {G:Prop} (h:G:=by first|(((first|exact T.u3|exact T.u34|exact T.u162));done)|fail):G:=h
theorem knA {G:Prop} (h:G:=by first|(((first|(focus(apply KnS.f;exact hmA;done))|(focus(apply KnS.oI;exact meA;done))|(focus(apply KnS.o1;exact meA;done))|(focus(apply KnS.zd;exact hmA;done))|(focus(apply KnS.q1;exact hmA;done))|(focus(apply KnS.q2;exact hmA;done))));done)|fail):G:=h
theorem hsA {G:Prop} (h:G:=by first|(((first|exact hmA|(focus(apply hasQ_P;exact hmA;done))|(focus(apply hasQ_Q;exact hmA;done))|exact hasZ_0|exact hasQ_0|(focus(apply hasZ_d;exact hmA;done))|(focus(apply hasQ_d1;exact hmA;done))|(focus(apply hasQ_d2;exact hmA;done))));done)|fail):G:=h
theorem haA {G:Prop} (h:G:=by first|((repeat(first|exact HasAll.nil|(apply HasAll.cons;exact hsA)));done)|fail):G:=h
theorem ltA {G:Prop} (h:G:=by first|(((first|(focus(apply Or.inr;constructor;(repeat(first|exact List.Sublist.refl _|exact List.nil_sublist _|apply List.Sublist.cons_cons|apply List.Sublist.cons));(first|exact fun _ h=>h|(intro f hf;(repeat(first|exact hf|apply List.Mem.tail))));done))|(apply Or.inl;kernel_rfl)));done)|fail):G:=h
theorem onA {G:Prop} (h:G:=by first|(((first|exact ints_one _|(intro u hu;simp only[List.mem_cons,List.not_mem_nil,or_false] at hu;first|(subst hu;rfl)|(rcases hu with rfl|rfl|rfl <;> rfl))));done)|fail):G:=h
theorem leA {G:Prop} (h:G:=by first|(((simp only[List.length_map,List.length_append,List.length_cons,List.length_nil,List.length_replicate,List.length_take];omega));done)|fail):G:=h
theorem y_indexAddr {G:Prop} (h:G:=by first|(((first|(first|(apply YO.ix1;exact t6A;exact rfl;exact rfl;exact knA;omega)|(apply YO.ix;exact t6A;exact rfl;exact rfl;exact knA;omega)|(apply YO.ix1';exact t6A;exact rfl;exact rfl;exact knA;omega;omega)|(apply YO.ix';exact t6A;exact rfl;exact rfl;exact knA;omega;omega))|(apply YO.ix1;exact t6A;exact rfl;exact rfl;exact knA;(first|omega|(simp only[List.length_set];omega)))|(apply YO.ix;exact t6A;exact rfl;exact rfl;exact knA;(first|omega|(simp only[List.length_set];omega)))|(apply YO.ix1';exact t6A;exact rfl;exact rfl;exact knA;omega;(first|omega|(simp only[List.length_set];omega)))));done)|fail):G:=h
theorem y_load {G:Prop} (h:G:=by first|(((first|(apply YO.ldW;exact t4A;exact rfl;exact meA;exact rfl)|(apply YO.ld42;exact t4A;exact rfl;exact meA)|(apply YO.ld40;exact t4A;exact rfl;exact meA)|(apply YO.ld62;exact t4A;exact rfl;exact meA)|(apply YO.ld51;exact t4A;exact rfl;exact meA)|(apply YO.ldWI0;exact t4A;exact rfl;exact meA;(first|omega|(simp only[List.length_set,List.length_replicate];omega)))|(apply YO.ldWF0;exact t4A;exact rfl;exact hmA;(first|omega|(simp only[List.length_set,List.length_replicate];omega)))|(apply YO.ldCI;exact t2A;exact rfl;exact meA;(first|omega|(simp only[List.length_set,List.length_replicate];omega)))|(apply YO.ldFI;exact t2A;exact rfl;exact hmA;(first|omega|(simp only[List.length_set,List.length_replicate];omega)))|(apply YO.ldF;exact t2A;exact rfl;exact hmA;exact rfl)|(apply YO.ldS;exact t2A;exact rfl;exact hsA;omega)|(apply YO.ldB;exact t2A;exact rfl;exact meA;exact rfl)|(apply YO.ldOI;exact t2A;exact rfl;exact meA;(first|omega|(simp only[List.length_set];omega)))));done)|fail):G:=h
theorem y_slice {G:Prop} (h:G:=by first|(((first|(first|(apply YO.slice;exact t6A;exact rfl;exact knA;exact Or.inl ⟨rfl,rfl⟩;exact Or.inr ⟨_,rfl,rfl⟩;omega;omega)|(apply YO.slice;exact t6A;exact rfl;exact knA;exact Or.inr ⟨_,rfl,rfl⟩;exact Or.inl ⟨rfl,rfl⟩;omega;omega))|(apply YO.slice3;exact t6A;exact rfl;exact knA;exact rfl;exact rfl;omega;omega)));done)|fail):G:=h
theorem y_eql {G:Prop} (h:G:=by first|(((first|(first|(first|(apply YO.eql_t;exact rfl;exact rfl;omega)|(apply YO.eql_f;exact rfl;exact rfl;omega))|(apply YO.eqNil_t;exact t6A;exact rfl;exact knA;assumption)|(apply YO.eqNil_f;exact t6A;exact rfl;exact knA;assumption))|(apply YO.beq_t;exact bool_t;exact rfl;exact rfl;(first|rfl|assumption|decide))|(apply YO.beq_f;exact bool_t;exact rfl;exact rfl;(first|rfl|assumption|decide))));done)|fail):G:=h
theorem y_fieldAddr {G:Prop} (h:G:=by first|(((first|(apply YO.fieldE;exact t0A;exact rfl)|(apply YO.fieldN;exact t0A;exact rfl;((try simp only[Nat.zero_add,Nat.mul_one,Nat.reduceAdd,Nat.reduceMul]);exact rfl))));done)|fail):G:=h
theorem y_build {G:Prop} (h:G:=by first|(((first|(apply YO.buildZ;exact rfl;exact rfl;exact knA)|exact YO.buildZ0|exact YO.buildQ0|(apply YO.buildQ1;exact rfl)|(apply YO.buildQ2;exact rfl;exact rfl)));done)|fail):G:=h
theorem y_len {G:Prop} (h:G:=by first|(((apply YO.len;exact t6A;exact rfl;exact knA));done)|fail):G:=h
theorem y_conv {G:Prop} (h:G:=by first|(((first|(first|(apply YO.convU;exact t7A;exact t7A;exact rfl;omega;omega)|(apply YO.convI;exact t7A;exact t7A;exact rfl;omega;omega))|(apply YO.convN;exact t7A;exact t7A;exact rfl;omega;omega)));done)|fail):G:=h
theorem y_neq {G:Prop} (h:G:=by first|(((first|(first|(apply YO.neq_t;exact rfl;exact rfl;omega)|(apply YO.neq_f;exact rfl;exact rfl;omega))|(apply YO.bne_t;exact bool_t;exact rfl;exact rfl;(first|rfl|assumption|decide))|(apply YO.bne_f;exact bool_t;exact rfl;exact rfl;(first|rfl|assumption|decide))));done)|fail):G:=h
theorem y_makeFunc {G:Prop} (h:G:=by first|(((apply YO.makeFunc;(repeat(first|exact Evs.nil|(apply Evs.cons;exact rfl)));(repeat(first|exact Evs.nil|(apply Evs.cons;exact rfl)))));done)|fail):G:=h
theorem y_quo {G:Prop} (h:G:=by first|(((first|(apply YO.quo;exact rfl;exact rfl;omega;omega;omega)|(apply YO.uquo;exact rfl;exact rfl;omega;omega;omega)));done)|fail):G:=h
theorem y_and {G:Prop} (h:G:=by first|(((first|(apply YO.and1;exact rfl;exact rfl;omega;omega)|(apply YO.and;exact rfl;exact rfl;omega;omega;omega;omega)));done)|fail):G:=h
theorem y_mul {G:Prop} (h:G:=by first|(((first|(apply YO.mul;exact rfl;exact rfl;omega;omega)|(apply YO.umul;exact rfl;exact rfl;omega;omega)));done)|fail):G:=h
theorem y_rem {G:Prop} (h:G:=by first|(((first|(apply YO.rem;exact rfl;exact rfl;omega;omega)|(apply YO.urem;exact rfl;exact rfl;omega;omega)));done)|fail):G:=h
theorem y_add {G:Prop} (h:G:=by first|(((first|(apply YO.inc;exact rfl;exact rfl;omega)|(apply YO.add;exact rfl;exact rfl;omega;omega)));done)|fail):G:=h
theorem y_lss {G:Prop} (h:G:=by first|(((first|(apply YO.lss_t;exact rfl;exact rfl;omega)|(apply YO.lss_f;exact rfl;exact rfl;omega)));done)|fail):G:=h
theorem y_gtr {G:Prop} (h:G:=by first|(((first|(apply YO.gtr_t;exact rfl;exact rfl;omega)|(apply YO.gtr_f;exact rfl;exact rfl;omega)));done)|fail):G:=h
theorem y_geq {G:Prop} (h:G:=by first|(((first|(apply YO.geq_t;exact rfl;exact rfl;omega)|(apply YO.geq_f;exact rfl;exact rfl;omega)));done)|fail):G:=h
theorem y_leq {G:Prop} (h:G:=by first|(((first|(apply YO.leq_t;exact rfl;exact rfl;omega)|(apply YO.leq_f;exact rfl;exact rfl;omega)));done)|fail):G:=h
theorem y_shl {G:Prop} (h:G:=by first|(((apply YO.shl';exact rfl;exact rfl;omega;omega;(first|omega|decide);(first|omega|decide)));done)|fail):G:=h
theorem y_uneg {G:Prop} (h:G:=by first|(((first|(apply YO.neg;exact rfl;omega;omega)|(apply YO.uneg;exact rfl;omega;omega)));done)|fail):G:=h
theorem y_pick {G:Prop} (h:G:=by first|(((first|(apply YO.pick_t;exact rfl;exact rfl)|(apply YO.pick_f;exact rfl;exact rfl)));done)|fail):G:=h
theorem y_unot {G:Prop} (h:G:=by first|(((first|(apply YO.not_t;exact rfl)|(apply YO.not_f;exact rfl)));done)|fail):G:=h
theorem y_or {G:Prop} (h:G:=by first|(((apply YO.or;exact rfl;exact rfl;omega;omega;omega;omega));done)|fail):G:=h
theorem go {G G':Prop} (h:G') (s:Bx G'→G:=by
 intro h
 (first
  |apply WL.nil
  |(apply WL.skg;exact rfl;exact rfl)
  |(apply WL.skg0;exact rfl)
  |(apply WL.k_move;(apply YO.move;exact rfl);exact rfl;exact rfl)
  |(apply WL.k_assign;(apply YO.assign;exact rfl);exact rfl;exact rfl)
  |(apply WL.k_lss;exact y_lss;exact rfl;exact rfl)
  |(apply WL.k_add;exact y_add;exact rfl;exact rfl)
  |(apply WL.k_len;exact y_len;exact rfl;exact rfl)
  |(apply WL.k_indexAddr;exact y_indexAddr;exact rfl;exact rfl)
  |(apply WL.k_load;exact y_load;exact rfl;exact rfl)
  |(apply WL.k_pick;exact y_pick;exact rfl;exact rfl)
  |(apply WL.k_fieldAddr;exact y_fieldAddr;exact rfl;exact rfl)
  |(apply WL.k_eql;exact y_eql;exact rfl;exact rfl)
  |(apply WL.k_neq;exact y_neq;exact rfl;exact rfl)
  |(apply WL.k_nil;(apply YO.nil;exact rfl);exact rfl;exact rfl)
  |(apply WL.k_extract;(apply YO.extract;exact rfl;exact rfl);exact rfl;exact rfl)
  |(apply WL.k_gtr;exact y_gtr;exact rfl;exact rfl)
  |(apply WL.k_geq;exact y_geq;exact rfl;exact rfl)
  |(apply WL.k_leq;exact y_leq;exact rfl;exact rfl)
  |(apply WL.k_sub;(apply YO.sub;exact rfl;exact rfl;omega;omega);exact rfl;exact rfl)
  |(apply WL.k_mul;exact y_mul;exact rfl;exact rfl)
  |(apply WL.k_rem;exact y_rem;exact rfl;exact rfl)
  |(apply WL.k_quo;exact y_quo;exact rfl;exact rfl)
  |(apply WL.k_unot;exact y_unot;exact rfl;exact rfl)
  |(apply WL.k_uneg;exact y_uneg;exact rfl;exact rfl)
  |(apply WL.k_max;(apply YO.max;exact rfl;exact rfl);exact rfl;exact rfl)
  |(apply WL.k_min;(apply YO.min;exact rfl;exact rfl);exact rfl;exact rfl)
  |(apply WL.k_makeFunc;exact y_makeFunc;exact rfl;exact rfl)
  |(apply WL.k_conv;exact y_conv;exact rfl;exact rfl)
  |(apply WL.k_shl;exact y_shl;exact rfl;exact rfl)
  |(apply WL.k_shr;(apply YO.shr';exact rfl;exact rfl;omega;omega);exact rfl;exact rfl)
  |(apply WL.k_and;exact y_and;exact rfl;exact rfl)
  |(apply WL.k_or;exact y_or;exact rfl;exact rfl)
  |(apply WL.k_andNot;(apply YO.anot;exact rfl;exact rfl);exact rfl;exact rfl)
  |(apply WL.k_slice;exact y_slice;exact rfl;exact rfl)
  |(apply WL.k_build;exact y_build;exact rfl;exact rfl)
  |apply WC.seq
  |apply WC.region
  |apply WC.block
  |(apply WC.cond_t;exact rfl)
  |(apply WC.cond_f;exact rfl)
  |apply WC.exit
  |apply WC.skip
  |apply WC.label
  |(apply WL.kl_store;rotate_left;exact rfl;(first|(apply LO.storeOI;exact rfl;exact rfl;exact t3A;exact seA;(first|omega|(simp only[List.length_set];omega)))|(apply LO.storeI;exact rfl;exact rfl;exact t3A;exact seA;(first|omega|(simp only[List.length_set,List.length_replicate];omega)))|(apply LO.storeWI;exact rfl;exact rfl;exact seA;exact t4A;(first|omega|(simp only[List.length_set,List.length_replicate];omega));(first|(simp only[List.length_map,List.length_set,List.length_replicate,ints];omega)|rfl))|(apply LO.store1;exact rfl;exact rfl;exact t3A;(first|exact One.lit rfl rfl|(apply One.sl;exact knA));exact seA;(first|(simp only[List.length_cons,List.length_nil];omega)|(simp;omega));(first|(simp only[List.set_cons_succ,List.set_cons_zero];exact rfl)|exact rfl))|(apply LO.storeO1;exact rfl;exact rfl;exact t3A;(first|exact One.lit rfl rfl|(apply One.sl;exact knA));exact seA;(first|(simp only[List.length_cons,List.length_nil];omega)|(simp;omega));(first|(simp only[List.set_cons_succ,List.set_cons_zero];exact rfl)|exact rfl))|(apply LO.storeL;exact rfl;exact rfl;exact seA;exact t4A;exact rfl;exact rfl;(repeat(first|exact OneL.nil|(apply OneL.cons;(first|exact One.lit rfl rfl|(apply One.sl;exact knA)))))))))
 repeat(first
  |apply WL.nil
  |(apply WL.skg;exact rfl;exact rfl)
  |(apply WL.skg0;exact rfl)
  |(apply WL.k_move;(apply YO.move;exact rfl);exact rfl;exact rfl)
  |(apply WL.k_assign;(apply YO.assign;exact rfl);exact rfl;exact rfl)
  |(apply WL.k_lss;exact y_lss;exact rfl;exact rfl)
  |(apply WL.k_add;exact y_add;exact rfl;exact rfl)
  |(apply WL.k_len;exact y_len;exact rfl;exact rfl)
  |(apply WL.k_indexAddr;exact y_indexAddr;exact rfl;exact rfl)
  |(apply WL.k_load;exact y_load;exact rfl;exact rfl)
  |(apply WL.k_pick;exact y_pick;exact rfl;exact rfl)
  |(apply WL.k_fieldAddr;exact y_fieldAddr;exact rfl;exact rfl)
  |(apply WL.k_eql;exact y_eql;exact rfl;exact rfl)
  |(apply WL.k_neq;exact y_neq;exact rfl;exact rfl)
  |(apply WL.k_nil;(apply YO.nil;exact rfl);exact rfl;exact rfl)
  |(apply WL.k_extract;(apply YO.extract;exact rfl;exact rfl);exact rfl;exact rfl)
  |(apply WL.k_gtr;exact y_gtr;exact rfl;exact rfl)
  |(apply WL.k_geq;exact y_geq;exact rfl;exact rfl)
  |(apply WL.k_leq;exact y_leq;exact rfl;exact rfl)
  |(apply WL.k_sub;(apply YO.sub;exact rfl;exact rfl;omega;omega);exact rfl;exact rfl)
  |(apply WL.k_mul;exact y_mul;exact rfl;exact rfl)
  |(apply WL.k_rem;exact y_rem;exact rfl;exact rfl)
  |(apply WL.k_quo;exact y_quo;exact rfl;exact rfl)
  |(apply WL.k_unot;exact y_unot;exact rfl;exact rfl)
  |(apply WL.k_uneg;exact y_uneg;exact rfl;exact rfl)
  |(apply WL.k_max;(apply YO.max;exact rfl;exact rfl);exact rfl;exact rfl)
  |(apply WL.k_min;(apply YO.min;exact rfl;exact rfl);exact rfl;exact rfl)
  |(apply WL.k_makeFunc;exact y_makeFunc;exact rfl;exact rfl)
  |(apply WL.k_conv;exact y_conv;exact rfl;exact rfl)
  |(apply WL.k_shl;exact y_shl;exact rfl;exact rfl)
  |(apply WL.k_shr;(apply YO.shr';exact rfl;exact rfl;omega;omega);exact rfl;exact rfl)
  |(apply WL.k_and;exact y_and;exact rfl;exact rfl)
  |(apply WL.k_or;exact y_or;exact rfl;exact rfl)
  |(apply WL.k_andNot;(apply YO.anot;exact rfl;exact rfl);exact rfl;exact rfl)
  |(apply WL.k_slice;exact y_slice;exact rfl;exact rfl)
  |(apply WL.k_build;exact y_build;exact rfl;exact rfl)
  |apply WC.seq
  |apply WC.region
  |apply WC.block
  |(apply WC.cond_t;exact rfl)
  |(apply WC.cond_f;exact rfl)
  |apply WC.exit
  |apply WC.skip
  |apply WC.label
  |(apply WL.kl_store;rotate_left;exact rfl;(first|(apply LO.storeOI;exact rfl;exact rfl;exact t3A;exact seA;(first|omega|(simp only[List.length_set];omega)))|(apply LO.storeI;exact rfl;exact rfl;exact t3A;exact seA;(first|omega|(simp only[List.length_set,List.length_replicate];omega)))|(apply LO.storeWI;exact rfl;exact rfl;exact seA;exact t4A;(first|omega|(simp only[List.length_set,List.length_replicate];omega));(first|(simp only[List.length_map,List.length_set,List.length_replicate,ints];omega)|rfl))|(apply LO.store1;exact rfl;exact rfl;exact t3A;(first|exact One.lit rfl rfl|(apply One.sl;exact knA));exact seA;(first|(simp only[List.length_cons,List.length_nil];omega)|(simp;omega));(first|(simp only[List.set_cons_succ,List.set_cons_zero];exact rfl)|exact rfl))|(apply LO.storeO1;exact rfl;exact rfl;exact t3A;(first|exact One.lit rfl rfl|(apply One.sl;exact knA));exact seA;(first|(simp only[List.length_cons,List.length_nil];omega)|(simp;omega));(first|(simp only[List.set_cons_succ,List.set_cons_zero];exact rfl)|exact rfl))|(apply LO.storeL;exact rfl;exact rfl;exact seA;exact t4A;exact rfl;exact rfl;(repeat(first|exact OneL.nil|(apply OneL.cons;(first|exact One.lit rfl rfl|(apply One.sl;exact knA)))))))))
 exact Bx.h h):G:=s ⟨h⟩
theorem goD {G G':Prop} (h:G') (s:Bx G'→G:=by
 intro h
 (first
  |apply WD.nil
  |(apply WD.skg;exact rfl;exact rfl;exact rfl)
  |(apply WD.skgl;exact rfl;exact rfl;exact rfl)
  |(apply WD.skgl0;exact rfl;exact rfl)
  |(apply WD.k_move;exact rfl;(apply YO.move;exact rfl);exact rfl;exact rfl)
  |(apply WD.k_assign;exact rfl;(apply YO.assign;exact rfl);exact rfl;exact rfl)
  |(apply WD.k_lss;exact rfl;exact y_lss;exact rfl;exact rfl)
  |(apply WD.k_add;exact rfl;exact y_add;exact rfl;exact rfl)
  |(apply WD.k_len;exact rfl;exact y_len;exact rfl;exact rfl)
  |(apply WD.k_indexAddr;exact rfl;exact y_indexAddr;exact rfl;exact rfl)
  |(apply WD.k_load;exact rfl;exact y_load;exact rfl;exact rfl)
  |(apply WD.k_pick;exact rfl;exact y_pick;exact rfl;exact rfl)
  |(apply WD.k_fieldAddr;exact rfl;exact y_fieldAddr;exact rfl;exact rfl)
  |(apply WD.k_eql;exact rfl;exact y_eql;exact rfl;exact rfl)
  |(apply WD.k_neq;exact rfl;exact y_neq;exact rfl;exact rfl)
  |(apply WD.k_nil;exact rfl;(apply YO.nil;exact rfl);exact rfl;exact rfl)
  |(apply WD.k_extract;exact rfl;(apply YO.extract;exact rfl;exact rfl);exact rfl;exact rfl)
  |(apply WD.k_gtr;exact rfl;exact y_gtr;exact rfl;exact rfl)
  |(apply WD.k_geq;exact rfl;exact y_geq;exact rfl;exact rfl)
  |(apply WD.k_leq;exact rfl;exact y_leq;exact rfl;exact rfl)
  |(apply WD.k_sub;exact rfl;(apply YO.sub;exact rfl;exact rfl;omega;omega);exact rfl;exact rfl)
  |(apply WD.k_mul;exact rfl;exact y_mul;exact rfl;exact rfl)
  |(apply WD.k_rem;exact rfl;exact y_rem;exact rfl;exact rfl)
  |(apply WD.k_quo;exact rfl;exact y_quo;exact rfl;exact rfl)
  |(apply WD.k_unot;exact rfl;exact y_unot;exact rfl;exact rfl)
  |(apply WD.k_uneg;exact rfl;exact y_uneg;exact rfl;exact rfl)
  |(apply WD.k_max;exact rfl;(apply YO.max;exact rfl;exact rfl);exact rfl;exact rfl)
  |(apply WD.k_min;exact rfl;(apply YO.min;exact rfl;exact rfl);exact rfl;exact rfl)
  |(apply WD.k_makeFunc;exact rfl;exact y_makeFunc;exact rfl;exact rfl)
  |(apply WD.k_conv;exact rfl;exact y_conv;exact rfl;exact rfl)
  |(apply WD.k_shl;exact rfl;exact y_shl;exact rfl;exact rfl)
  |(apply WD.k_shr;exact rfl;(apply YO.shr';exact rfl;exact rfl;omega;omega);exact rfl;exact rfl)
  |(apply WD.k_and;exact rfl;exact y_and;exact rfl;exact rfl)
  |(apply WD.k_or;exact rfl;exact y_or;exact rfl;exact rfl)
  |(apply WD.k_andNot;exact rfl;(apply YO.anot;exact rfl;exact rfl);exact rfl;exact rfl)
  |(apply WD.k_slice;exact rfl;exact y_slice;exact rfl;exact rfl)
  |(apply WD.k_build;exact rfl;exact y_build;exact rfl;exact rfl)
  |(apply WD.kl_store;exact rfl;rotate_left;exact rfl;(first|(apply LO.storeOI;exact rfl;exact rfl;exact t3A;exact seA;(first|omega|(simp only[List.length_set];omega)))|(apply LO.storeI;exact rfl;exact rfl;exact t3A;exact seA;(first|omega|(simp only[List.length_set,List.length_replicate];omega)))|(apply LO.storeWI;exact rfl;exact rfl;exact seA;exact t4A;(first|omega|(simp only[List.length_set,List.length_replicate];omega));(first|(simp only[List.length_map,List.length_set,List.length_replicate,ints];omega)|rfl))|(apply LO.store1;exact rfl;exact rfl;exact t3A;(first|exact One.lit rfl rfl|(apply One.sl;exact knA));exact seA;(first|(simp only[List.length_cons,List.length_nil];omega)|(simp;omega));(first|(simp only[List.set_cons_succ,List.set_cons_zero];exact rfl)|exact rfl))|(apply LO.storeO1;exact rfl;exact rfl;exact t3A;(first|exact One.lit rfl rfl|(apply One.sl;exact knA));exact seA;(first|(simp only[List.length_cons,List.length_nil];omega)|(simp;omega));(first|(simp only[List.set_cons_succ,List.set_cons_zero];exact rfl)|exact rfl))|(apply LO.storeL;exact rfl;exact rfl;exact seA;exact t4A;exact rfl;exact rfl;(repeat(first|exact OneL.nil|(apply OneL.cons;(first|exact One.lit rfl rfl|(apply One.sl;exact knA)))))));constructor;exact ltA))
 repeat(first
  |apply WD.nil
  |(apply WD.skg;exact rfl;exact rfl;exact rfl)
  |(apply WD.skgl;exact rfl;exact rfl;exact rfl)
  |(apply WD.skgl0;exact rfl;exact rfl)
  |(apply WD.k_move;exact rfl;(apply YO.move;exact rfl);exact rfl;exact rfl)
  |(apply WD.k_assign;exact rfl;(apply YO.assign;exact rfl);exact rfl;exact rfl)
  |(apply WD.k_lss;exact rfl;exact y_lss;exact rfl;exact rfl)
  |(apply WD.k_add;exact rfl;exact y_add;exact rfl;exact rfl)
  |(apply WD.k_len;exact rfl;exact y_len;exact rfl;exact rfl)
  |(apply WD.k_indexAddr;exact rfl;exact y_indexAddr;exact rfl;exact rfl)
  |(apply WD.k_load;exact rfl;exact y_load;exact rfl;exact rfl)
  |(apply WD.k_pick;exact rfl;exact y_pick;exact rfl;exact rfl)
  |(apply WD.k_fieldAddr;exact rfl;exact y_fieldAddr;exact rfl;exact rfl)
  |(apply WD.k_eql;exact rfl;exact y_eql;exact rfl;exact rfl)
  |(apply WD.k_neq;exact rfl;exact y_neq;exact rfl;exact rfl)
  |(apply WD.k_nil;exact rfl;(apply YO.nil;exact rfl);exact rfl;exact rfl)
  |(apply WD.k_extract;exact rfl;(apply YO.extract;exact rfl;exact rfl);exact rfl;exact rfl)
  |(apply WD.k_gtr;exact rfl;exact y_gtr;exact rfl;exact rfl)
  |(apply WD.k_geq;exact rfl;exact y_geq;exact rfl;exact rfl)
  |(apply WD.k_leq;exact rfl;exact y_leq;exact rfl;exact rfl)
  |(apply WD.k_sub;exact rfl;(apply YO.sub;exact rfl;exact rfl;omega;omega);exact rfl;exact rfl)
  |(apply WD.k_mul;exact rfl;exact y_mul;exact rfl;exact rfl)
  |(apply WD.k_rem;exact rfl;exact y_rem;exact rfl;exact rfl)
  |(apply WD.k_quo;exact rfl;exact y_quo;exact rfl;exact rfl)
  |(apply WD.k_unot;exact rfl;exact y_unot;exact rfl;exact rfl)
  |(apply WD.k_uneg;exact rfl;exact y_uneg;exact rfl;exact rfl)
  |(apply WD.k_max;exact rfl;(apply YO.max;exact rfl;exact rfl);exact rfl;exact rfl)
  |(apply WD.k_min;exact rfl;(apply YO.min;exact rfl;exact rfl);exact rfl;exact rfl)
  |(apply WD.k_makeFunc;exact rfl;exact y_makeFunc;exact rfl;exact rfl)
  |(apply WD.k_conv;exact rfl;exact y_conv;exact rfl;exact rfl)
  |(apply WD.k_shl;exact rfl;exact y_shl;exact rfl;exact rfl)
  |(apply WD.k_shr;exact rfl;(apply YO.shr';exact rfl;exact rfl;omega;omega);exact rfl;exact rfl)
  |(apply WD.k_and;exact rfl;exact y_and;exact rfl;exact rfl)
  |(apply WD.k_or;exact rfl;exact y_or;exact rfl;exact rfl)
  |(apply WD.k_andNot;exact rfl;(apply YO.anot;exact rfl;exact rfl);exact rfl;exact rfl)
  |(apply WD.k_slice;exact rfl;exact y_slice;exact rfl;exact rfl)
  |(apply WD.k_build;exact rfl;exact y_build;exact rfl;exact rfl)
  |(apply WD.kl_store;exact rfl;rotate_left;exact rfl;(first|(apply LO.storeOI;exact rfl;exact rfl;exact t3A;exact seA;(first|omega|(simp only[List.length_set];omega)))|(apply LO.storeI;exact rfl;exact rfl;exact t3A;exact seA;(first|omega|(simp only[List.length_set,List.length_replicate];omega)))|(apply LO.storeWI;exact rfl;exact rfl;exact seA;exact t4A;(first|omega|(simp only[List.length_set,List.length_replicate];omega));(first|(simp only[List.length_map,List.length_set,List.length_replicate,ints];omega)|rfl))|(apply LO.store1;exact rfl;exact rfl;exact t3A;(first|exact One.lit rfl rfl|(apply One.sl;exact knA));exact seA;(first|(simp only[List.length_cons,List.length_nil];omega)|(simp;omega));(first|(simp only[List.set_cons_succ,List.set_cons_zero];exact rfl)|exact rfl))|(apply LO.storeO1;exact rfl;exact rfl;exact t3A;(first|exact One.lit rfl rfl|(apply One.sl;exact knA));exact seA;(first|(simp only[List.length_cons,List.length_nil];omega)|(simp;omega));(first|(simp only[List.set_cons_succ,List.set_cons_zero];exact rfl)|exact rfl))|(apply LO.storeL;exact rfl;exact rfl;exact seA;exact t4A;exact rfl;exact rfl;(repeat(first|exact OneL.nil|(apply OneL.cons;(first|exact One.lit rfl rfl|(apply One.sl;exact knA)))))));constructor;exact ltA))
 exact Bx.h h):G:=s ⟨h⟩
theorem goG {G G':Prop} (h:G') (s:Bx G'→G:=by
 intro h
 (first
  |(apply WL.kl_alloc;rotate_left;exact rfl;exact rfl;apply LO.alloc';(first|exact t1A))
  |(apply WL.kl_box;rotate_left;exact rfl;exact rfl;(first|(apply LO.boxA;exact rfl)|(apply LO.box1;exact rfl;(first|exact One.lit rfl rfl|(apply One.sl;exact knA))))))
 exact Bx.h h):G:=s ⟨h⟩
theorem goV {G G':Prop} (h:G') (s:Bx G'→G:=by
 intro h
 (first
  |(apply WL.kl_ms;rotate_left;exact rfl;exact rfl;(apply LO.makeI;exact rfl;exact rfl;(repeat(first|(with_reducible apply NatI.add)|(with_reducible exact NatI.one)|exact NatI.cast _));omega))
  |(apply WL.kl_bs;rotate_left;exact rfl;exact rfl;apply LO.bs1;exact t6A;(repeat(first|exact EvP.nil|(apply EvP.cons;exact rfl)));(intro _;kernel_rfl);exact rfl;omega)
  |(apply WL.kl_app;rotate_left;exact rfl;exact rfl;apply LO.app;exact t5A;exact rfl;exact rfl;(first|(focus(apply SrcE.ints;exact hmA;done))|(focus(apply SrcE.own1;exact meA;done))|(focus(apply SrcE.one;exact meA;exact rfl;decide;done)));(intro v;exact seA);exact onA;exact leA;exact leA))
 exact Bx.h h):G:=s ⟨h⟩
theorem goDG {G G':Prop} (h:G') (s:Bx G'→G:=by
 intro h
 (first
  |(apply WD.kl_alloc;exact rfl;rotate_left;exact rfl;exact rfl;apply LO.alloc';(first|exact t1A);apply allAnd;(intro _;exact ltA))
  |(apply WD.kl_box;exact rfl;rotate_left;exact rfl;exact rfl;(first|(apply LO.boxA;exact rfl)|(apply LO.box1;exact rfl;(first|exact One.lit rfl rfl|(apply One.sl;exact knA))));apply allAnd;(intro _;exact ltA)))
 exact Bx.h h):G:=s ⟨h⟩
theorem goDV {G G':Prop} (h:G') (s:Bx G'→G:=by
 intro h
 (first
  |(apply WD.kl_ms;exact rfl;rotate_left;exact rfl;exact rfl;(apply LO.makeI;exact rfl;exact rfl;(repeat(first|(with_reducible apply NatI.add)|(with_reducible exact NatI.one)|exact NatI.cast _));omega);apply allAnd;(intro _;exact ltA))
  |(apply WD.kl_bs;exact rfl;rotate_left;exact rfl;exact rfl;apply LO.bs1;exact t6A;(repeat(first|exact EvP.nil|(apply EvP.cons;exact rfl)));(intro _;kernel_rfl);exact rfl;omega;apply allAnd;(intro _;exact ltA))
  |(apply WD.kl_app;exact rfl;rotate_left;exact rfl;exact rfl;apply LO.app;exact t5A;exact rfl;exact rfl;(first|(focus(apply SrcE.ints;exact hmA;done))|(focus(apply SrcE.own1;exact meA;done))|(focus(apply SrcE.one;exact meA;exact rfl;decide;done)));(intro v;exact seA);exact onA;exact leA;exact leA;apply allAnd;(intro _;exact ltA)))
 exact Bx.h h):G:=s ⟨h⟩
theorem goLG {G G':Prop} (h:G') (s:Bx G'→G:=by
 intro h
 (first
  |(apply LO.alloc';(first|exact t1A);apply allAnd;(intro _;exact ltA))
  |((first|(apply LO.boxA;exact rfl)|(apply LO.box1;exact rfl;(first|exact One.lit rfl rfl|(apply One.sl;exact knA))));apply allAnd;(intro _;exact ltA)))
 exact Bx.h h):G:=s ⟨h⟩
theorem goLV {G G':Prop} (h:G') (s:Bx G'→G:=by
 intro h
 (first
  |(apply LO.bs1;exact t6A;(repeat(first|exact EvP.nil|(apply EvP.cons;exact rfl)));(intro _;kernel_rfl);exact rfl;omega;apply allAnd;(intro _;exact ltA))
  |(apply LO.app;exact t5A;exact rfl;exact rfl;(first|(focus(apply SrcE.ints;exact hmA;done))|(focus(apply SrcE.own1;exact meA;done))|(focus(apply SrcE.one;exact meA;exact rfl;decide;done)));(intro v;exact seA);exact onA;exact leA;exact leA;apply allAnd;(intro _;exact ltA))
  |((apply LO.makeI;exact rfl;exact rfl;(repeat(first|(with_reducible apply NatI.add)|(with_reducible exact NatI.one)|exact NatI.cast _));omega);apply allAnd;(intro _;exact ltA)))
 exact Bx.h h):G:=s ⟨h⟩
theorem goLS {G G':Prop} (h:G') (s:Bx G'→G:=by
 intro h
 (first
  |((first|(apply LO.storeOI;exact rfl;exact rfl;exact t3A;exact seA;(first|omega|(simp only[List.length_set];omega)))|(apply LO.storeI;exact rfl;exact rfl;exact t3A;exact seA;(first|omega|(simp only[List.length_set,List.length_replicate];omega)))|(apply LO.storeWI;exact rfl;exact rfl;exact seA;exact t4A;(first|omega|(simp only[List.length_set,List.length_replicate];omega));(first|(simp only[List.length_map,List.length_set,List.length_replicate,ints];omega)|rfl))|(apply LO.store1;exact rfl;exact rfl;exact t3A;(first|exact One.lit rfl rfl|(apply One.sl;exact knA));exact seA;(first|(simp only[List.length_cons,List.length_nil];omega)|(simp;omega));(first|(simp only[List.set_cons_succ,List.set_cons_zero];exact rfl)|exact rfl))|(apply LO.storeO1;exact rfl;exact rfl;exact t3A;(first|exact One.lit rfl rfl|(apply One.sl;exact knA));exact seA;(first|(simp only[List.length_cons,List.length_nil];omega)|(simp;omega));(first|(simp only[List.set_cons_succ,List.set_cons_zero];exact rfl)|exact rfl))|(apply LO.storeL;exact rfl;exact rfl;exact seA;exact t4A;exact rfl;exact rfl;(repeat(first|exact OneL.nil|(apply OneL.cons;(first|exact One.lit rfl rfl|(apply One.sl;exact knA)))))));constructor;exact ltA))
 exact Bx.h h):G:=s ⟨h⟩
section
variable {P:Program} {n:Nat} {L rest:List Oper} {e:Env} {bx b0:List Ow} {F F0:List Fct} {Q:Env→List Ow→List Fct→Prop} {d i:Nat} {ty:TypeId} {pos:String} {af:Array Edge} {g:Option (Nat×Bool)} {hs:List Nat} {r:Plan}
 {f:FuncId} {x:Operand} {args:List Operand} {ats:Array TypeId} {vs cs:List Value} {F':List Fct} {u:Value} {el sz:Nat}
theorem WL.callV (hf:FnB P f vs [] F' (IsV u)) (hK:WL P n L rest ((d,u)::e) bx F Q) (hx:ev e x=some (.func (.func f) #[] #[]):=by exact rfl) (hv:Evs e args vs:=by repeat(first|exact Evs.nil|(apply Evs.cons;exact rfl))) (hF:HasAllB bx F F':=by repeat(first|exact HasAllB.nil|(apply HasAllB.cons;(first|(focus(apply HasB.oI;exact meA;done))|(focus(apply HasB.c;exact meA;done))|(focus(apply HasB.f;exact hsA;done))))))
  (hd:Nat.blt d n=true:=by exact rfl) (hg:gok L e g=some true:=by exact rfl):WL P n L (⟨some d,.call {callee:=.value x,args:=args.toArray,argTypes:=ats},ty,pos,af,g⟩::rest) e bx F Q:=
 WL.l hd hg (LO.callRV hx hv hf hF hK)
theorem WL.callO (hf:FnB P f vs [] F' (IsO el sz cs)) (hK:∀ v,WL P n L rest ((d,v)::e) (Ow.slice v el sz cs::bx) F Q) (hx:ev e x=some (.func (.func f) #[] #[]):=by exact rfl) (hv:Evs e args vs:=by repeat(first|exact Evs.nil|(apply Evs.cons;exact rfl))) (hF:HasAllB bx F F':=by repeat(first|exact HasAllB.nil|(apply HasAllB.cons;(first|(focus(apply HasB.oI;exact meA;done))|(focus(apply HasB.c;exact meA;done))|(focus(apply HasB.f;exact hsA;done))))))
  (hd:Nat.blt d n=true:=by exact rfl) (hg:gok L e g=some true:=by exact rfl):WL P n L (⟨some d,.call {callee:=.value x,args:=args.toArray,argTypes:=ats},ty,pos,af,g⟩::rest) e bx F Q:=
 WL.l hd hg (LO.callRO hx hv hf hF hK)
theorem WL.callF {R:RPost} (first cap:List Value) (hf:FnB P f (first++vs++cap) [] F' R) (hK:∀ v b G,R v b G→WL P n L rest ((d,v)::e) (b++bx) F Q) (hx:ev e x=some (.func (.func f) first.toArray cap.toArray):=by exact rfl) (hv:Evs e args vs:=by repeat(first|exact Evs.nil|(apply Evs.cons;exact rfl))) (hF:HasAllB bx F F':=by repeat(first|exact HasAllB.nil|(apply HasAllB.cons;(first|(focus(apply HasB.oI;exact meA;done))|(focus(apply HasB.c;exact meA;done))|(focus(apply HasB.f;exact hsA;done))))))
  (hd:Nat.blt d n=true:=by exact rfl) (hg:gok L e g=some true:=by exact rfl):WL P n L (⟨some d,.call {callee:=.value x,args:=args.toArray,argTypes:=ats},ty,pos,af,g⟩::rest) e bx F Q:=
 WL.l hd hg (LO.callR hx hv hf hF hK)
theorem WD.callV (hf:FnB P f vs [] F' (IsV u)) (hK:WD P n L hs b0 F0 r ((d,u)::e) bx F Q) (hL:L[i]?=some ⟨some d,.call {callee:=.value x,args:=args.toArray,argTypes:=ats},ty,pos,af,g⟩:=by exact rfl) (hx:ev e x=some (.func (.func f) #[] #[]):=by exact rfl) (hv:Evs e args vs:=by repeat(first|exact Evs.nil|(apply Evs.cons;exact rfl))) (hF:HasAllB bx F F':=by repeat(first|exact HasAllB.nil|(apply HasAllB.cons;(first|(focus(apply HasB.oI;exact meA;done))|(focus(apply HasB.c;exact meA;done))|(focus(apply HasB.f;exact hsA;done))))))
  (hd:Nat.blt d n=true:=by exact rfl) (hg:gok L e g=some true:=by exact rfl) (lt:lateB L hs i=true∨(b0.Sublist bx∧∀ f∈F0,f∈F):=by exact ltA):WD P n L hs b0 F0 (.loud i r) e bx F Q:=
 WD.l hL hd hg (LO.callRV hx hv hf hF ⟨lt,hK⟩)
theorem WD.callO (hf:FnB P f vs [] F' (IsO el sz cs)) (hK:∀ v,WD P n L hs b0 F0 r ((d,v)::e) (Ow.slice v el sz cs::bx) F Q) (hL:L[i]?=some ⟨some d,.call {callee:=.value x,args:=args.toArray,argTypes:=ats},ty,pos,af,g⟩:=by exact rfl) (hx:ev e x=some (.func (.func f) #[] #[]):=by exact rfl) (hv:Evs e args vs:=by repeat(first|exact Evs.nil|(apply Evs.cons;exact rfl))) (hF:HasAllB bx F F':=by repeat(first|exact HasAllB.nil|(apply HasAllB.cons;(first|(focus(apply HasB.oI;exact meA;done))|(focus(apply HasB.c;exact meA;done))|(focus(apply HasB.f;exact hsA;done))))))
  (hd:Nat.blt d n=true:=by exact rfl) (hg:gok L e g=some true:=by exact rfl) (lt:lateB L hs i=true∨(b0.Sublist bx∧∀ f∈F0,f∈F):=by exact ltA):WD P n L hs b0 F0 (.loud i r) e bx F Q:=
 WD.l hL hd hg (LO.callRO hx hv hf hF fun v=>⟨lt.imp id fun h=>⟨h.1.trans (List.sublist_cons_self _ _),h.2⟩,hK v⟩)
end
end Go.Proofs.YtaongbhamadlkaaGreat
namespace Go.Proofs.YtaongbhamadlkaaGreat
open W Go.RowKit
namespace W
inductive Rem:List Ow→Ow→List Ow→Prop where
 |head {b:Ow} {l:List Ow}:Rem (b::l) b l
 |tail {b c:Ow} {l l':List Ow}:Rem l b l'→Rem (c::l) b (c::l')
theorem Rem.perm {l l':List Ow} {b:Ow} (h:Rem l b l'):l.Perm (b::l'):=by
 induction h with
 |head=>exact .refl _
 |tail _ ih=>exact(ih.cons _).trans (.swap _ _ _)
section
variable {P:Program} {n:Nat} {L rest:List Oper} {e:Env} {bx bx' b0 ba br:List Ow} {F F0 F':List Fct} {c:Code} {g:Nat} {t:TypeId} {cs:List Value} {hs:List Nat} {r:Plan}
theorem OK.keep {fr:PH} {w:World} (h:OK fr bx F w) (hr:Rem bx (.cells g t cs) bx'):OK fr bx' (ce g t cs::F) w:=by
 have hp:=h.perm hr.perm
 have hd:OK fr bx' F w:=hp.drop (List.sublist_cons_self _ _)
 refine hd.add (f:=ce g t cs) ?_
 have hh:=hp.owns _ List.mem_cons_self
 have hnd:=hp.nodup
 have hap:=hp.apart g (by simp[ids,Ow.ids])
 simp only[ids,List.flatMap_cons,Ow.ids,List.singleton_append,List.nodup_cons] at hnd
 show imm fr bx' w.heap g=_
 unfold imm
 rw[if_neg]
 ·exact hh
 ·simp only[hap,Option.isSome_none,Bool.false_or,List.contains_iff_mem];exact hnd.1
theorem WL.keep {Q:Env→List Ow→List Fct→Prop} (hr:Rem bx (.cells g t cs) bx') (h:WL P n L rest e bx' (ce g t cs::F) Q):WL P n L rest e bx F Q:=fun fr w0 a w Q' hQ hk hrr ho=>h fr w0 a w Q' hQ hk hrr (ho.keep hr)
theorem WC.keep {Q:Post} (hr:Rem bx (.cells g t cs) bx') (h:WC P n c e bx' (ce g t cs::F) Q):WC P n c e bx F Q:=fun fr w0 a w hk hrr ho=>h fr w0 a w hk hrr (ho.keep hr)
variable {f:FuncId} {x:Operand} {args:List Operand} {ats:Array TypeId} {vs first cap:List Value} {R:RPost} {Q:Env→List Ow→List Fct→Prop} {d:Nat} {ty:TypeId} {pos:String} {af:Array Edge} {gd:Option (Nat×Bool)}
theorem WL.callG (ba br:List Ow) (hp:bx.Perm (ba++br)) (hf:FnB P f vs ba F' R) (hK:∀ v b G,R v b G→WL P n L rest ((d,v)::e) (b++br) (G++F) Q) (hx:ev e x=some (.func (.func f) #[] #[]):=by exact rfl) (hv:Evs e args vs:=by repeat(first|exact Evs.nil|(apply Evs.cons;exact rfl))) (hF:HasAll F F':=by repeat(first|exact HasAll.nil|(apply HasAll.cons;(first|(focus(apply Has.mem;(repeat(first|exact List.Mem.head _|apply List.Mem.tail));done))|(focus(apply hasQ_P;(focus(apply Has.mem;(repeat(first|exact List.Mem.head _|apply List.Mem.tail));done));done))|(focus(apply hasQ_Q;(focus(apply Has.mem;(repeat(first|exact List.Mem.head _|apply List.Mem.tail));done));done))|exact hasZ_0|exact hasQ_0|(focus(apply hasZ_d;(focus(apply Has.mem;(repeat(first|exact List.Mem.head _|apply List.Mem.tail));done));done))|(focus(apply hasQ_d1;(focus(apply Has.mem;(repeat(first|exact List.Mem.head _|apply List.Mem.tail));done));done))|(focus(apply hasQ_d2;(focus(apply Has.mem;(repeat(first|exact List.Mem.head _|apply List.Mem.tail));done));done))))))
  (hd:Nat.blt d n=true:=by exact rfl) (hg:gok L e gd=some true:=by exact rfl):WL P n L (⟨some d,.call {callee:=.value x,args:=args.toArray,argTypes:=ats},ty,pos,af,gd⟩::rest) e bx F Q:=
 WL.l hd hg (LO.call (first:=[]) (cap:=[]) hx hv ba br hp (by simpa using hf) hF.all hK)
theorem WL.callK (hf:FnB P f vs [] F' R) (hK:∀ v b G,R v b G→WL P n L rest ((d,v)::e) (b++bx) (G++F) Q) (hx:ev e x=some (.func (.func f) #[] #[]):=by exact rfl) (hv:Evs e args vs:=by repeat(first|exact Evs.nil|(apply Evs.cons;exact rfl))) (hF:HasAll F F':=by repeat(first|exact HasAll.nil|(apply HasAll.cons;(first|(focus(apply Has.mem;(repeat(first|exact List.Mem.head _|apply List.Mem.tail));done))|(focus(apply hasQ_P;(focus(apply Has.mem;(repeat(first|exact List.Mem.head _|apply List.Mem.tail));done));done))|(focus(apply hasQ_Q;(focus(apply Has.mem;(repeat(first|exact List.Mem.head _|apply List.Mem.tail));done));done))|exact hasZ_0|exact hasQ_0|(focus(apply hasZ_d;(focus(apply Has.mem;(repeat(first|exact List.Mem.head _|apply List.Mem.tail));done));done))|(focus(apply hasQ_d1;(focus(apply Has.mem;(repeat(first|exact List.Mem.head _|apply List.Mem.tail));done));done))|(focus(apply hasQ_d2;(focus(apply Has.mem;(repeat(first|exact List.Mem.head _|apply List.Mem.tail));done));done))))))
  (hd:Nat.blt d n=true:=by exact rfl) (hg:gok L e gd=some true:=by exact rfl):WL P n L (⟨some d,.call {callee:=.value x,args:=args.toArray,argTypes:=ats},ty,pos,af,gd⟩::rest) e bx F Q:=
 WL.l hd hg (LO.call (first:=[]) (cap:=[]) hx hv [] bx (.refl _) (by simpa using hf) hF.all hK)
theorem WD.callK {i:Nat} (hf:FnB P f vs [] F' R) (hK:∀ v b G,R v b G→WD P n L hs b0 F0 r ((d,v)::e) (b++bx) (G++F) Q) (hL:L[i]?=some ⟨some d,.call {callee:=.value x,args:=args.toArray,argTypes:=ats},ty,pos,af,gd⟩:=by exact rfl) (hx:ev e x=some (.func (.func f) #[] #[]):=by exact rfl) (hv:Evs e args vs:=by repeat(first|exact Evs.nil|(apply Evs.cons;exact rfl))) (hF:HasAll F F':=by repeat(first|exact HasAll.nil|(apply HasAll.cons;(first|(focus(apply Has.mem;(repeat(first|exact List.Mem.head _|apply List.Mem.tail));done))|(focus(apply hasQ_P;(focus(apply Has.mem;(repeat(first|exact List.Mem.head _|apply List.Mem.tail));done));done))|(focus(apply hasQ_Q;(focus(apply Has.mem;(repeat(first|exact List.Mem.head _|apply List.Mem.tail));done));done))|exact hasZ_0|exact hasQ_0|(focus(apply hasZ_d;(focus(apply Has.mem;(repeat(first|exact List.Mem.head _|apply List.Mem.tail));done));done))|(focus(apply hasQ_d1;(focus(apply Has.mem;(repeat(first|exact List.Mem.head _|apply List.Mem.tail));done));done))|(focus(apply hasQ_d2;(focus(apply Has.mem;(repeat(first|exact List.Mem.head _|apply List.Mem.tail));done));done))))))
  (hd:Nat.blt d n=true:=by exact rfl) (hg:gok L e gd=some true:=by exact rfl) (lt:lateB L hs i=true∨(b0.Sublist bx∧∀ f∈F0,f∈F):=by(first|(focus(apply Or.inr;constructor;(repeat(first|exact List.Sublist.refl _|exact List.nil_sublist _|apply List.Sublist.cons_cons|apply List.Sublist.cons));(first|exact fun _ h=>h|(intro f hf;(repeat(first|exact hf|apply List.Mem.tail))));done))|(apply Or.inl;kernel_rfl))):WD P n L hs b0 F0 (.loud i r) e bx F Q:=
 WD.l hL hd hg (LO.call (first:=[]) (cap:=[]) hx hv [] bx (.refl _) (by simpa using hf) hF.all fun v b G hR=>⟨lt.imp id fun h=>⟨h.1.trans (List.sublist_append_right _ _),fun f hf=>List.mem_append_right _ (h.2 f hf)⟩,hK v b G hR⟩)
theorem LO.callM {i:Nat} (hf:FnB P f vs [] F' R) (hK:∀ v b G,R v b G→WD P n L hs b0 F0 r ((d,v)::e) (b++bx) (G++F) Q) (hx:ev e x=some (.func (.func f) #[] #[]):=by exact rfl) (hv:Evs e args vs:=by repeat(first|exact Evs.nil|(apply Evs.cons;exact rfl))) (hF:HasAll F F':=by repeat(first|exact HasAll.nil|(apply HasAll.cons;(first|(focus(apply Has.mem;(repeat(first|exact List.Mem.head _|apply List.Mem.tail));done))|(focus(apply hasQ_P;(focus(apply Has.mem;(repeat(first|exact List.Mem.head _|apply List.Mem.tail));done));done))|(focus(apply hasQ_Q;(focus(apply Has.mem;(repeat(first|exact List.Mem.head _|apply List.Mem.tail));done));done))|exact hasZ_0|exact hasQ_0|(focus(apply hasZ_d;(focus(apply Has.mem;(repeat(first|exact List.Mem.head _|apply List.Mem.tail));done));done))|(focus(apply hasQ_d1;(focus(apply Has.mem;(repeat(first|exact List.Mem.head _|apply List.Mem.tail));done));done))|(focus(apply hasQ_d2;(focus(apply Has.mem;(repeat(first|exact List.Mem.head _|apply List.Mem.tail));done));done))))))
  (lt:lateB L hs i=true∨(b0.Sublist bx∧∀ f∈F0,f∈F):=by(first|(focus(apply Or.inr;constructor;(repeat(first|exact List.Sublist.refl _|exact List.nil_sublist _|apply List.Sublist.cons_cons|apply List.Sublist.cons));(first|exact fun _ h=>h|(intro f hf;(repeat(first|exact hf|apply List.Mem.tail))));done))|(apply Or.inl;kernel_rfl))):LO P (.call {callee:=.value x,args:=args.toArray,argTypes:=ats}) ty e bx F fun v bx' F'=>(lateB L hs i=true∨(b0.Sublist bx'∧∀ f∈F0,f∈F'))∧WD P n L hs b0 F0 r ((d,v)::e) bx' F' Q:=
 LO.call (first:=[]) (cap:=[]) hx hv [] bx (.refl _) (by simpa using hf) hF.all fun v b G hR=>⟨lt.imp id fun h=>⟨h.1.trans (List.sublist_append_right _ _),fun f hf=>List.mem_append_right _ (h.2 f hf)⟩,hK v b G hR⟩
end
section
variable {P:Program} {n:Nat} {L:List Oper} {e:Env} {bx b0:List Ow} {F F0:List Fct} {hs:List Nat} {r s:Plan} {Q:Env→List Ow→List Fct→Prop} {i j:Nat}
theorem loud_y {fr:PH} {w0:World} {listed:Array Bool} {a:Act} {w:World} {f':Nat} {Q':Exit→Act→World→Prop} {v:Value} {e':Env} (o:Oper) (hL:L[i]?=some o)
  (hP:∀ c a a' w,Q' (.panic c) a w→Q' (.panic c) a' w) (hns:Region.noSelect L.toArray=true) (hc:chk L hs r (listed.setIfInBounds i true)=true) (hd:Down L.toArray listed) (hri:i∈Region.ready .any L.toArray listed)
  (hQ:∀ a' w' e' bx' F',Kn n a' e'→Rest w0 w'→OK fr bx' F' w'→Q e' bx' F'→Q' .normal a' w') (hS:(∃ i∈hs,listed.getD i true=false)→OK fr b0 F0 w)
  (hk:Kn n a e) (hr:Rest w0 w) (ho:OK fr bx F w) (hf:r.len≤f')
  (hg:gok L e o.guard=some true) (hy:YO P o.op o.type e bx F v) (he':Kn n (a.put o.dst v) e') (h:WD P n L hs b0 F0 r e' bx F Q) :
  wpOp P L.toArray Q' i (fun a' w'=>(lateB L hs i=false→OK fr b0 F0 w→OK fr b0 F0 w')∧wpAnyG P L.toArray Q' (fun w=>OK fr b0 F0 w) (lateB L hs) f' (listed.setIfInBounds i true) a' w') a w:=by
 have hun:=(mem_ready.1 hri).1
 have hlist:(∃ j∈hs,(listed.setIfInBounds i true).getD j true=false)→∃ j∈hs,listed.getD j true=false:=fun ⟨j,hj,hjl⟩=>⟨j,hj,getD_some hun j hjl⟩
 unfold wpOp
 have hLa:L.toArray[i]?=some o:=by simpa using hL
 simp only[hLa]
 rw[if_pos (gok_wanted hk hg)]
 refine .inl ?_
 unfold Oper.wp
 rw[hy n fr a w o rfl rfl hk ho]
 exact⟨fun _ h=>h,h fr w0 _ (a.put o.dst v) w f' Q' hP hns hc (hd.set hri) hQ (fun hx=>hS (hlist hx)) he' hr ho hf⟩
variable {d:Nat} {op:Op} {ty:TypeId} {pos:String} {af:Array Edge} {g:Option (Nat×Bool)} {v:Value}
theorem WD.yl (hL:L[i]?=some ⟨some d,op,ty,pos,af,g⟩) (hy:YO P op ty e bx F v) (hd:Nat.blt d n=true) (hg:gok L e g=some true) (h:WD P n L hs b0 F0 r ((d,v)::e) bx F Q):WD P n L hs b0 F0 (.loud i r) e bx F Q:=fun fr w0 listed a w fuel Q' hP hns hc hdn hQ hS hk hr ho hf=>by
 simp only[chk,Bool.and_eq_true,beq_iff_eq] at hc
 obtain⟨h1,h2⟩:=hc
 obtain⟨f',rfl⟩:∃ f',fuel=f'+1:=⟨fuel - 1,by simp[Plan.len] at hf;omega⟩
 refine⟨fun h0=>(by rw[h0] at h1;cases h1),fun j hj=>?_⟩
 rw[h1] at hj;simp at hj;subst hj
 exact loud_y _ hL hP hns h2 hdn (by rw[h1];simp) hQ hS hk hr ho (by simp[Plan.len] at hf;exact hf) hg hy (hk.put hd v) h
theorem WC.drawB {id:Nat} {Q:Post} (b0:List Ow) (hb:b0.Sublist bx) (hs:List Nat) (p:Plan) (hm:P.follows .mixedOrders=true) (hc:(Region.noSelect L.toArray && (chk L hs p (Array.replicate L.length false) && Nat.ble p.len L.length))=true)
  (h:WD P n L hs b0 F p e bx F (Q .normal)):WC P n (.region id L.toArray true) e bx F Q:=fun fr w0 a w hk hr ho=>by
 simp only[Bool.and_eq_true] at hc
 refine wp_region_any hm (wpAny_of_G _ _ _ _ (h fr w0 _ a _ _ _ ?_ hc.1 (by simpa using hc.2.1) ?_ (fun a' w' e' bx' F' h1 h2 h3 h4=>⟨e',bx',F',h1,h2,h3,h4⟩) (fun _=>(ho.drop hb).drawn _) hk (hr.trans (Rest.drawn w _)) (ho.drawn _) (by simpa using Nat.le_of_ble_eq_true hc.2.2)))
 ·intro c a a' w h;exact h
 ·intro j o _ hj
  rw[Array.getD_eq_getD_getElem?,Array.getElem?_replicate] at hj
  split at hj <;> simp at hj
end
inductive Rems (e:Env):List Nat→List Ow→List Ow→Prop where
 |nil (bx:List Ow):Rems e [] bx bx
 |cons {t:Nat} {ts:List Nat} {g:Nat} {ty:TypeId} {cs:List Value} {bx b1 b0:List Ow}:look e t=some (.pointer (some ⟨g,0,none⟩))→Rem bx (.cells g ty cs) b1→Rems e ts b1 b0→Rems e (t::ts) bx b0
theorem Rem.sub {l l':List Ow} {b:Ow} (h:Rem l b l'):l'.Sublist l:=by
 induction h with
 |head=>exact List.sublist_cons_self _ _
 |tail _ ih=>exact ih.cons_cons _
theorem Rems.sub {e:Env} {ts:List Nat} {bx b0:List Ow} (h:Rems e ts bx b0):b0.Sublist bx:=by
 induction h with
 |nil=>exact List.Sublist.refl _
 |cons _ h2 _ ih=>exact ih.trans h2.sub
theorem WC.drawR {P:Program} {n:Nat} {L:List Oper} {e:Env} {bx b0:List Ow} {F:List Fct} {id:Nat} {Q:Post} (ts:List Nat) (hs:List Nat) (p:Plan) (hm:P.follows .mixedOrders=true) (hc:(Region.noSelect L.toArray && (chk L hs p (Array.replicate L.length false) && Nat.ble p.len L.length))=true)
  (hr:Rems e ts bx b0) (h:WD P n L hs b0 F p e bx F (Q .normal)):WC P n (.region id L.toArray true) e bx F Q:=WC.drawB b0 hr.sub hs p hm hc h
inductive SubP:List Ow→List Ow→Prop where
 |nil (l:List Ow):SubP [] l
 |cons {b:Ow} {B l l':List Ow}:Rem l b l'→SubP B l'→SubP (b::B) l
theorem SubP.ok {B l:List Ow} (h:SubP B l):∃ r,l.Perm (B++r):=by
 induction h with
 |nil l=>exact⟨l,.refl _⟩
 |cons h1 _ ih=>
  obtain⟨r,h2⟩:=ih
  exact⟨r,h1.perm.trans (h2.cons _)⟩
theorem OK.subP {fr:PH} {B l:List Ow} {F:List Fct} {w:World} (h:OK fr l F w) (hs:SubP B l):OK fr B F w:=by
 obtain⟨r,h1⟩:=hs.ok
 exact(h.perm h1).drop (List.sublist_append_left _ _)
theorem WC.cutP {P:Program} {n:Nat} {e:Env} {bx:List Ow} {F:List Fct} {x y:Code} {Q:Post} {σ:Type} (E:σ→Env) (B:σ→List Ow) (G:σ→List Fct) (I:σ→Prop)
  (h1:WC P n x e bx F (thenQ (fun e' bx' F'=>∃ s,I s∧Sub (E s) e'∧SubP (B s) bx'∧HasAll F' (G s)) Q))
  (h2:∀ s,I s→WC P n y (E s) (B s) (G s) Q):WC P n x e bx F (thenQ (fun e bx F=>WC P n y e bx F Q) Q):=
 h1.mono fun ex e b f h=>by
  cases ex <;> first|exact h|skip
  obtain⟨s,h3,h4,h5,h6⟩:=h
  exact fun fr w0 a w hk hr ho=>h2 s h3 fr w0 a w (hk.sub h4) hr ((ho.subP h5).hasAll h6.all)
theorem Ex2 {α1:Type} {α2:Type} {p:α1×α2→Prop} (a1:α1) (a2:α2) (h:p (a1,a2)):∃ s,p s:=⟨_,h⟩
theorem Ex7 {α1:Type} {α2:Type} {α3:Type} {α4:Type} {α5:Type} {α6:Type} {α7:Type} {p:α1×α2×α3×α4×α5×α6×α7→Prop} (a1:α1) (a2:α2) (a3:α3) (a4:α4) (a5:α5) (a6:α6) (a7:α7) (h:p (a1,a2,a3,a4,a5,a6,a7)):∃ s,p s:=⟨_,h⟩
theorem Ex9 {α1:Type} {α2:Type} {α3:Type} {α4:Type} {α5:Type} {α6:Type} {α7:Type} {α8:Type} {α9:Type} {p:α1×α2×α3×α4×α5×α6×α7×α8×α9→Prop} (a1:α1) (a2:α2) (a3:α3) (a4:α4) (a5:α5) (a6:α6) (a7:α7) (a8:α8) (a9:α9) (h:p (a1,a2,a3,a4,a5,a6,a7,a8,a9)):∃ s,p s:=⟨_,h⟩
end W
end Go.Proofs.YtaongbhamadlkaaGreat
namespace Go.Proofs.YtaongbhamadlkaaGreat
open W Go.RowKit
theorem nrm_take {l:List Int} {n:Nat} (hn:n≤l.length) (h:0 < n→l.getD (n - 1) 0≠0):Nrm (l.take n):=fun h0=>by
 have e:(l.take n).length=n:=by simp;omega
 rw[e] at h0 ⊢
 rw[getD_take (by omega)];exact h h0
theorem val_take_zero {l:List Int} {n:Nat} (hn:n≤l.length) (hz:∀ j,n≤j→j < l.length→l.getD j 0=0):val (l.take n)=val l:=by
 have:∀ k,n+k≤l.length→val (l.take (n+k))=val (l.take n):=fun k=>by
  induction k with
  |zero=>intro _;rfl
  |succ k ih=>
   intro hk
   rw[show n+(k+1)=(n+k)+1 by omega,val_take_succ (by omega),hz (n+k) (by omega) (by omega),ih (by omega)];omega
 have:=this (l.length - n) (by omega)
 rw[show n+(l.length - n)=l.length by omega,List.take_length] at this
 exact this.symm
theorem cut_digs {l:List Int} {n:Nat} (hd:Dg l) (hn:n≤l.length) (hz:∀ j,n≤j→j < l.length→l.getD j 0=0) (h:0 < n→l.getD (n - 1) 0≠0):l.take n=digs (val l).toNat:=by
 rw[←val_take_zero hn hz];exact digs_val (hd.take n) (nrm_take hn h)
attribute [local irreducible] WC WL WD YO LO LoopEnd W.Fin Scalar SliceT FieldAt Row ArrT AllocT KnS Has W.One SrcE IntT
set_option maxHeartbeats 4000000 in
set_option maxRecDepth 8000 in
theorem of_c (u:Value) (nb:Bool) (l:List Int) (z:Int) (hd:Dg l) (hz:z.natAbs=(val l).toNat) (hb:val l≠0→nb=decide (z < 0)):FnB Tryz.prog 148 [.bool nb,u] [] [sI u l] (IsZ z):=by
 refine fn_of [(0,(.bool nb)),(1,u)] 29 Tryz.func148 rfl Tryz.ntmps148 (by kernel_rfl) rfl suA fun h0=>?_
 refine WC.lenI u l hmA fun hlen=>?_
 have hv0:=val_nonneg hd
 repeat'(first|refine gA ?_|(refine goG ?_;intro g)|(refine goV ?_;intro v))
 refine WC.lp (σ:=Nat) (fun n=>[(5,.int .i64 (n:Int)),(0,.bool nb),(1,u),(4,ptr g)]) (fun _=>[Ow.cells g 29 [.bool false,.slice none 0 0]]) (fun _=>[ge h0,sI u l]) (fun n=>n≤l.length∧∀ j,n≤j→j < l.length→l.getD j 0=0) (fun n=>n) l.length ⟨by simp,fun j h1 h2=>by omega⟩ ?_
 rintro n ⟨hn,hzr⟩
 by_cases h:0 < n
 ·have e1:((n:Int) - 1).toNat=n - 1:=by omega
  by_cases h2:l.getD (n - 1) 0=0
  ·have h3:l.getD ((n:Int) - 1).toNat 0=0:=by rw[e1];exact h2
   repeat'(first|refine gA ?_|(refine goG ?_;intro g)|(refine goV ?_;intro v))
   exact LoopEnd.mk (n - 1) ⟨by omega,fun j h4 h5=>if hj:j=n - 1 then hj ▸ h2 else hzr j (by omega) h5⟩ (by omega) (by rw[show((n - 1:Nat):Int)=(n:Int) - 1 by omega];exact suA)
  ·have h3:l.getD ((n:Int) - 1).toNat 0≠0:=by rw[e1];exact h2
   have hc:=cut_digs hd hn hzr (fun _=>h2)
   have hvne:val l≠0:=fun hv=>by
    rw[hv] at hc
    have:(l.take n).length=n:=by simp;omega
    rw[hc] at this
    simp[digs_0] at this;omega
   repeat'(first|refine gA ?_|(refine goG ?_;intro g)|(refine goV ?_;intro v))
   refine WL.fact' (sI (resl3 u n n) (l.take n)) (Has.res3 hmA hn) ?_
   rw[hc,←hz]
   repeat'(first|refine gA ?_|(refine goG ?_;intro g)|(refine goV ?_;intro v))
   refine WC.fact (isZ (.agg #[.bool nb,resl3 u n n]) z) (hasZ_of (hb hvne) hmA) ?_
   refine WC.ret ?_
   exact Fin.p [] [isZ (.agg #[.bool nb,resl3 u n n]) z] (ResE.cV rfl rfl meA T.r29 rfl) meA (List.nil_sublist _) haA ⟨nb,_,rfl,hb hvne,rfl,rfl⟩
 ·obtain rfl:n=0:=by omega
  have hc:=cut_digs hd hn hzr (fun h=>absurd h (by omega))
  have hv:val l=0:=by
   have:=val_take_zero hn hzr
   simpa [val] using this.symm
  have hz0:z=0:=by rw[hv] at hz;simp at hz;exact hz
  subst hz0
  repeat'(first|refine gA ?_|(refine goG ?_;intro g)|(refine goV ?_;intro v))
  refine WC.ret ?_
  exact Fin.p [] [isZ (.agg #[.bool false,.slice none 0 0]) 0] (ResE.cV rfl rfl meA T.r29 rfl) meA (List.nil_sublist _) (.cons hasZ_0 .nil) ⟨false,_,rfl,rfl,rfl,rfl⟩
end Go.Proofs.YtaongbhamadlkaaGreat
namespace Go.Proofs.YtaongbhamadlkaaGreat
open W Go.RowKit
theorem digs_3 {n:Nat} (h:1000000000*1000000000≤n) (h2:n < 1000000000*1000000000*1000000000):digs n=[((n % 1000000000:Nat):Int),((n / 1000000000 % 1000000000:Nat):Int),((n / 1000000000 / 1000000000:Nat):Int)]:=by
 rw[digs_pos (by omega),digs_2 (by omega) (by omega)]
attribute [local irreducible] WC WL WD YO LO LoopEnd W.Fin Scalar SliceT FieldAt Row ArrT AllocT KnS Has W.One SrcE IntT
set_option maxHeartbeats 4000000 in
set_option maxRecDepth 8000 in
theorem unsigned_c (nb:Bool) (n:Nat) (z:Int) (hn:n < 18446744073709551616) (hz:z.natAbs=n) (hb:n≠0→nb=decide (z < 0)):FnB Tryz.prog 147 [.bool nb,.int .u64 n] [] [] (IsZ z):=by
 refine fn_of [(0,(.bool nb)),(1,(.int .u64 n))] 43 Tryz.func147 rfl Tryz.ntmps147 (by kernel_rfl) rfl suA fun h0=>?_
 by_cases c0:n=0
 ·subst c0
  have hz0:z=0:=by omega
  subst hz0
  repeat'(first|refine gA ?_|(refine goG ?_;intro g)|(refine goV ?_;intro v))
  refine WC.ret ?_
  exact Fin.p [] [isZ (.agg #[.bool false,.slice none 0 0]) 0] (ResE.cV rfl rfl meA T.r29 rfl) meA (List.nil_sublist _) (.cons hasZ_0 .nil) ⟨false,_,rfl,rfl,rfl,rfl⟩
 have hb:=hb c0
 by_cases c1:n < 1000000000
 ·have hd:=digs_1 c0 c1
  repeat'(first|refine gA ?_|(refine goG ?_;intro g)|(refine goV ?_;intro v))
  refine WC.freezeI (l:=digs z.natAbs) (v:=v) (el:=3) (by rw[hz,hd];repeat(first|exact Sel.head|apply Sel.tail)) ?_
  refine WC.fact (isZ (.agg #[.bool nb,v]) z) (hasZ_of hb hmA) ?_
  refine WC.ret ?_
  exact Fin.p [] [isZ (.agg #[.bool nb,v]) z] (ResE.cV rfl rfl meA T.r29 rfl) meA (List.nil_sublist _) haA ⟨nb,_,rfl,hb,rfl,rfl⟩
 by_cases c2:n < 1000000000*1000000000
 ·have hd:=digs_2 (by omega) c2
  have e1:(n:Int) % 1000000000=((n % 1000000000:Nat):Int):=by omega
  have e2:(n:Int) / 1000000000=((n / 1000000000:Nat):Int):=by omega
  have c3:(n:Int) < 1000000000000000000:=by omega
  repeat'(first|refine gA ?_|(refine goG ?_;intro g)|(refine goV ?_;intro v))
  rw[e1,e2]
  refine WC.freezeI (l:=digs z.natAbs) (v:=v) (el:=3) (by rw[hz,hd];repeat(first|exact Sel.head|apply Sel.tail)) ?_
  refine WC.fact (isZ (.agg #[.bool nb,v]) z) (hasZ_of hb hmA) ?_
  refine WC.ret ?_
  exact Fin.p [] [isZ (.agg #[.bool nb,v]) z] (ResE.cV rfl rfl meA T.r29 rfl) meA (List.nil_sublist _) haA ⟨nb,_,rfl,hb,rfl,rfl⟩
 ·have hd:=digs_3 (n:=n) (by omega) (by omega)
  have e1:(n:Int) % 1000000000=((n % 1000000000:Nat):Int):=by omega
  have e2:(n:Int) / 1000000000 % 1000000000=((n / 1000000000 % 1000000000:Nat):Int):=by omega
  have e3:(n:Int) / 1000000000 / 1000000000=((n / 1000000000 / 1000000000:Nat):Int):=by omega
  have c3:¬(n:Int) < 1000000000000000000:=by omega
  repeat'(first|refine gA ?_|(refine goG ?_;intro g)|(refine goV ?_;intro v))
  rw[e1,e2,e3]
  refine WC.freezeI (l:=digs z.natAbs) (v:=v) (el:=3) (by rw[hz,hd];repeat(first|exact Sel.head|apply Sel.tail)) ?_
  refine WC.fact (isZ (.agg #[.bool nb,v]) z) (hasZ_of hb hmA) ?_
  refine WC.ret ?_
  exact Fin.p [] [isZ (.agg #[.bool nb,v]) z] (ResE.cV rfl rfl meA T.r29 rfl) meA (List.nil_sublist _) haA ⟨nb,_,rfl,hb,rfl,rfl⟩
set_option maxHeartbeats 4000000 in
set_option maxRecDepth 8000 in
theorem iof_c (n:Int) (h1:-9223372036854775808≤n) (h2:n≤9223372036854775807):FnB Tryz.prog 98 [.int .i64 n] [] [] (IsZ n):=by
 refine fn_of [(0,(.int .i64 n))] 14 Tryz.func98 rfl Tryz.ntmps98 (by kernel_rfl) rfl suA fun h0=>?_
 by_cases c:n < 0
 ·have hd:=decide_eq_true c
  repeat'(first|refine gA ?_|(refine goG ?_;intro g)|(refine goV ?_;intro v))
  rw[show 18446744073709551616 - (n+18446744073709551616)=((n.natAbs:Nat):Int) by omega]
  first|refine WL.callK (unsigned_c true n.natAbs n (by omega) rfl (fun _=>hd.symm)) ?_|refine WD.callK (unsigned_c true n.natAbs n (by omega) rfl (fun _=>hd.symm)) ?_|refine LO.callM (unsigned_c true n.natAbs n (by omega) rfl (fun _=>hd.symm)) ?_
  rintro _ _ _ ⟨nb,d,rfl,hb,rfl,rfl⟩
  simp only[List.nil_append,List.cons_append]
  repeat'(first|refine gA ?_|(refine goG ?_;intro g)|(refine goV ?_;intro v))
  refine WC.ret ?_
  exact Fin.p [] [isZ (.agg #[.bool nb,d]) n] (ResE.cV rfl rfl meA T.r29 rfl) meA (List.nil_sublist _) haA ⟨nb,_,rfl,hb,rfl,rfl⟩
 ·have hd:=decide_eq_false c
  repeat'(first|refine gA ?_|(refine goG ?_;intro g)|(refine goV ?_;intro v))
  rw[show n=((n.natAbs:Nat):Int) by omega]
  first|refine WL.callK (unsigned_c false n.natAbs (n.natAbs:Int) (by omega) rfl (fun _=>by simp)) ?_|refine WD.callK (unsigned_c false n.natAbs (n.natAbs:Int) (by omega) rfl (fun _=>by simp)) ?_|refine LO.callM (unsigned_c false n.natAbs (n.natAbs:Int) (by omega) rfl (fun _=>by simp)) ?_
  rintro _ _ _ ⟨nb,d,rfl,hb,rfl,rfl⟩
  simp only[List.nil_append,List.cons_append]
  repeat'(first|refine gA ?_|(refine goG ?_;intro g)|(refine goV ?_;intro v))
  refine WC.ret ?_
  exact Fin.p [] [isZ (.agg #[.bool nb,d]) (n.natAbs:Int)] (ResE.cV rfl rfl meA T.r29 rfl) meA (List.nil_sublist _) haA ⟨nb,_,rfl,hb,rfl,rfl⟩
set_option maxHeartbeats 4000000 in
set_option maxRecDepth 8000 in
theorem neg_c (v:Value) (z:Int):FnB Tryz.prog 99 [v] [] [isZ v z] (IsZ (-z)):=by
 refine fn_of [(0,v)] 14 Tryz.func99 rfl Tryz.ntmps99 (by kernel_rfl) rfl suA fun h0=>?_
 refine WC.openZ hmA fun nb d hv hb=>?_
 subst hv
 have hl:=digs_len0 (n:=z.natAbs)
 have key:∀ b:Bool,b=decide (-z < 0)→Has [ge h0,isZ (.agg #[.bool nb,d]) z] (isZ (.agg #[.bool b,d]) (-z)):=fun b h=>hasZ_of h (by rw[Int.natAbs_neg];exact hasZ_d hmA)
 cases nb with
 |true=>
  have hz:z < 0:=of_decide_eq_true hb.symm
  have h2:false=decide (-z < 0):=by simp;omega
  repeat'(first|refine gA ?_|(refine goG ?_;intro g)|(refine goV ?_;intro v))
  refine WC.fact (isZ (.agg #[.bool false,d]) (-z)) (key _ h2) ?_
  refine WC.ret ?_
  exact Fin.p [] [isZ (.agg #[.bool false,d]) (-z)] (ResE.cV rfl rfl meA T.r29 rfl) meA (List.nil_sublist _) haA ⟨_,_,rfl,h2,rfl,rfl⟩
 |false=>
  have hz:¬z < 0:=of_decide_eq_false hb.symm
  by_cases c:z=0
  ·have hl0:=hl.2 (by omega:z.natAbs=0)
   have h2:false=decide (-z < 0):=by simp;omega
   repeat'(first|refine gA ?_|(refine goG ?_;intro g)|(refine goV ?_;intro v))
   refine WC.fact (isZ (.agg #[.bool false,d]) (-z)) (key _ h2) ?_
   refine WC.ret ?_
   exact Fin.p [] [isZ (.agg #[.bool false,d]) (-z)] (ResE.cV rfl rfl meA T.r29 rfl) meA (List.nil_sublist _) haA ⟨_,_,rfl,h2,rfl,rfl⟩
  ·have hl0:0 < (digs z.natAbs).length:=by
    have:(digs z.natAbs).length≠0:=fun h=>by have:=hl.1 h;omega
    omega
   have h2:true=decide (-z < 0):=by simp;omega
   repeat'(first|refine gA ?_|(refine goG ?_;intro g)|(refine goV ?_;intro v))
   refine WC.fact (isZ (.agg #[.bool true,d]) (-z)) (key _ h2) ?_
   refine WC.ret ?_
   exact Fin.p [] [isZ (.agg #[.bool true,d]) (-z)] (ResE.cV rfl rfl meA T.r29 rfl) meA (List.nil_sublist _) haA ⟨_,_,rfl,h2,rfl,rfl⟩
def sgn (z:Int):Int:=if z < 0 then -1 else if z=0 then 0 else 1
set_option maxHeartbeats 4000000 in
set_option maxRecDepth 8000 in
theorem isign_c (v:Value) (z:Int):FnB Tryz.prog 118 [v] [] [isZ v z] (IsV (.int .i64 (sgn z))):=by
 refine fn_of [(0,v)] 11 Tryz.func118 rfl Tryz.ntmps118 (by kernel_rfl) rfl suA fun h0=>?_
 refine WC.openZ hmA fun nb d hv hb=>?_
 subst hv
 have hl:=digs_len0 (n:=z.natAbs)
 cases nb with
 |true=>
  have hz:z < 0:=of_decide_eq_true hb.symm
  repeat'(first|refine gA ?_|(refine goG ?_;intro g)|(refine goV ?_;intro v))
  refine WC.ret ?_
  exact Fin.v (ResE.t1 rfl rfl) meA (by rw[sgn,if_pos hz])
 |false=>
  have hz:¬z < 0:=of_decide_eq_false hb.symm
  by_cases c:z=0
  ·have hl0:=hl.2 (by omega:z.natAbs=0)
   repeat'(first|refine gA ?_|(refine goG ?_;intro g)|(refine goV ?_;intro v))
   refine WC.ret ?_
   exact Fin.v (ResE.t1 rfl rfl) meA (by rw[sgn,if_neg hz,if_pos c])
  ·have hl0:0 < (digs z.natAbs).length:=by
    have:(digs z.natAbs).length≠0:=fun h=>by have:=hl.1 h;omega
    omega
   repeat'(first|refine gA ?_|(refine goG ?_;intro g)|(refine goV ?_;intro v))
   refine WC.ret ?_
   exact Fin.v (ResE.t1 rfl rfl) meA (by rw[sgn,if_neg hz,if_neg c])
end Go.Proofs.YtaongbhamadlkaaGreat
