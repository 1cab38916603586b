/- Lemmas for a law. Conditions: none. -/
import Derived.Test.YtcpaopfdiahnnaaGreatZb15
import Derived.Test.YtcpaopfdiahnnaaGreatProg
set_option linter.all false
set_option maxHeartbeats 32000000
set_option maxRecDepth 100000
namespace Go.Proofs.YtcpaopfdiahnnaaGreat
section
open W Go.RowKit
abbrev QM:=Bool×Value×Value
abbrev qcs (m:QM):List Value:=[.bool m.1,m.2.1,.bool false,m.2.2]
abbrev qv (m:QM):Value:=.agg #[.bool m.1,m.2.1,.bool false,m.2.2]
def m00:QM:=(false,.slice none 0 0,.slice none 0 0)
def JS (ms:Nat->QM) (j:Nat):Value:=(qcs (ms (j / 4))).getD (j % 4) undef
def qcell_at (ms:Nat->QM) (k:Nat) {r:Nat} (hr:r < 4):JS ms (k*4+r)=(qcs (ms k)).getD r undef:=by
 unfold JS;rw[show(k*4+r) / 4=k by omega,show(k*4+r) % 4=r by omega]
def XL (n:Nat) (f:Nat->Value):List Value:=(List.range n).map f
def Qg (n:Nat) (f:Nat->Value):(XL n f).length=n:=by simp[XL]
def QE {n:Nat} {f:Nat->Value} {j:Nat} (h:j < n):(XL n f)[j]?=some (f j):=by simp[XL,h]
def Xx {n:Nat} {f:Nat->Value} {l:List Value} (hl:l.length=n) (h:∀ j,j < n->l[j]?=some (f j)):l=XL n f:=by
 apply List.ext_getElem?;intro j;by_cases hj:j < n
 ·rw[h j hj,QE hj]
 ·rw[List.getElem?_eq_none qo,List.getElem?_eq_none (by rw[Qg];omega)]
def Zf {cs vs:List Value} {q j:Nat} (h:q+vs.length<=cs.length):(Q7 cs q vs)[j]?=if q<=j∧j < q+vs.length then vs[j - q]? else cs[j]?:=by
 unfold Q7;by_cases h1:j < q
 ·rw[if_neg qo,List.append_assoc,List.getElem?_append_left (by simp;omega),List.getElem?_take,if_pos h1]
 ·by_cases h2:j < q+vs.length
  ·rw[if_pos ⟨by omega,h2⟩,List.getElem?_append_left (by simp;omega),List.getElem?_append_right (by simp;omega)];simp only[List.length_take];rw[Nat.min_eq_left qo]
  ·rw[if_neg qo,List.getElem?_append_right (by simp;omega),List.getElem?_drop];simp only[List.length_append,List.length_take];rw[Nat.min_eq_left qo]
   congr 1;omega
def upd {α:Type} (ms:Nat->α) (k:Nat) (m:α):Nat->α:=λi=>if i=k then m else ms i
def QJ {α:Type} {ms:Nat->α} {k:Nat} {m:α}:upd ms k m k=m:=by simp[upd]
def upd_ne {α:Type} {ms:Nat->α} {k i:Nat} {m:α} (h:i≠k):upd ms k m i=ms i:=by simp[upd,h]
abbrev Qe (n:Nat) (ms:Nat->QM):List Value:=XL (n*4) (JS ms)
def X5 {l:List Value} {n r:Nat} (hl:l.length=n) (hr:r < n):l[r]?=some (l.getD r undef):=by
 simp[List.getD_eq_getElem?_getD,hl ▸ hr]
section
variable {n k:Nat} {ms:Nat->QM} {m:QM}
def qcells_set (h:k < n):Q7 (Qe n ms) (k*4) (qcs m)=Qe n (upd ms k m):=by
 have hle:k*4+(qcs m).length<=(Qe n ms).length:=by rw[Qg];show k*4+4<=n*4;omega
 refine Xx (by rw[Yt hle,Qg]) λj hj=>?_;rw[Zf hle];show(if k*4<=j∧j < k*4+4 then _ else _)=_;split
 ·rw[X5 (n:=4) rfl qo];unfold JS;rw[show j / 4=k by omega,QJ,show j % 4=j - k*4 by omega]
 ·rw[QE hj];unfold JS;rw[upd_ne qo]
def Xz:Qe n ms++qcs m=Qe (n+1) (upd ms n m):=by
 refine Xx (by rw[List.length_append,Qg];show n*4+4=_;omega) λj hj=>?_;by_cases h:j < n*4
 ·rw[List.getElem?_append_left (by rw[Qg];exact h),QE h];unfold JS;rw[upd_ne qo]
 ·rw[List.getElem?_append_right (by rw[Qg];omega),Qg,X5 (n:=4) rfl qo];unfold JS;rw[show j / 4=n by omega,QJ,show j % 4=j - n*4 by omega]
end
def madeF (n sz:Nat) (z:Value) (f:Nat->Value) (hz:z.cells.size=sz) (h0:0 < sz) (h:∀ j,z.cells[j % sz]?=some (f j)):(madeCells z.cells (n*sz)).toList=XL (n*sz) f:=by
 refine Xx (by simp[madeCells]) λj hj=>?_;have hm:j % sz < z.cells.size:=by rw[hz];exact Nat.mod_lt _ h0
 have h2:=h j;rw[Array.getElem?_eq_getElem hm] at h2;simp only[Option.some.injEq] at h2;subst hz;simp[madeCells,hj,<-h2,getElem!_pos,hm]
def made_q (n:Nat):(madeCells (Value.agg #[.bool false,.slice none 0 0,.bool false,.slice none 0 0]).cells (n*4)).toList=Qe n (λ_=>m00):=
 madeF n 4 _ _ rfl qd λj=>by
  unfold JS;have h1:j % 4=0∨j % 4=1∨j % 4=2∨j % 4=3:=qo;rcases h1 with h1|h1|h1|h1 <;> rw[h1] <;> rfl
section
variable {P:Program} {e:Env} {bx bx':List Ow} {F:List Fct} {ty t el:TypeId} {v u:Value} {x y:Operand} {n k:Nat} {ms:Nat->QM} {m:QM} {q:Rat} {K:Qd}
def KnS.oR (h:Ow.slice v el 4 (Qe n ms)∈bx):KnS bx F v n:=KnS.o h (Qg _ _) qd
def YO.ldOR (hs:Row P t 4) (hx:ev e x=some (.pointer (some (eaddr v (k*4))))) (hb:Ow.slice v el 4 (Qe n ms)∈bx) (hk:k < n):YO P (.load t x) ty e bx F (qv (ms k)):=
 YO.ldRO (us:=qcs (ms k)) hs hx hb rfl λi hi=>by
  rw[QE qo,qcell_at _ _ hi,X5 (n:=4) rfl hi]
def Yr (hq:Has F (isQ (qv m) q)):QC bx F (qcs m):=
 .cons (One.lit rfl rfl) (.cons (One.sl (KnS.q1 hq)) (.cons (One.lit rfl rfl) (.cons (One.sl (KnS.q2 hq)) .nil)))
def LO.Ux (hx:ev e x=some (.pointer (some (eaddr v (k*4))))) (hy:ev e y=some (qv m)) (hr:Row P t 4) (hq:Has F (isQ (qv m) q)) (hs:Sel bx (.slice v el 4 (Qe n ms)) (.slice v el 4 (Qe n (upd ms k m))) bx') (hk:k < n)
  (h:K undef bx' F):LO P (.store t x y) ty e bx F K:=
 LO.UP (vs:=qcs m) hx hy hr (Yr hq) hs (by rw[Qg];show k*4+4<=n*4;omega) (by simp) (qcells_set hk) h
def Jy:Has F (isQ (qv m00) 0):=YC
def LO.Hl {i:Int} (hx:ev e x=some (.int .i64 i)) (hy:ev e y=some (.int .i64 i)) (hi:Q6 i n) (hb:n<=1000000) (h:∀ v,K v (Ow.slice v 64 4 (Qe n (λ_=>m00))::bx) F):LO Tryz.prog (.makeSlice 34 x y) ty e bx F K:=by
 obtain rfl:=hi.eq;exact LO.make T.e34 hx hy qo qo (made_q n) h
def LO.byP {op:Op} {p:Prop} (hp:∀ fr w,OK fr bx F w->p) (h:p->LO P op ty e bx F K):LO P op ty e bx F K:=λn fr a w o K' h1 h2 h3 h4 h5=>
 h (hp fr w h4) n fr a w o K' h1 h2 h3 h4 h5
def LO.bsR0 (h:∀ v,K v (Ow.slice v 64 4 []::bx) F):LO Tryz.prog (.buildSlice 34 0 #[]) ty e bx F K:=LO.buildSlice (parts:=[]) (us:=[]) (cs:=[]) .nil (λ_=>by kernel_rfl) rfl qd h
def LO.bsR1 (hx:ev e x=some (qv m)) (h:∀ v,K v (Ow.slice v 64 4 (qcs m)::bx) F):LO Tryz.prog (.buildSlice 34 1 #[(0,x)]) ty e bx F K:=LO.buildSlice (parts:=[(0,x)]) (us:=[qv m]) (cs:=qcs m) (.cons hx .nil) (λ_=>by kernel_rfl) rfl qd h
section
variable {el':TypeId} {bx2:Value->List Ow}
def LO.appR1 (hx:ev e x=some v) (hy:ev e y=some u) (hu:Ow.slice u el' 4 (qcs m)∈bx) (hm:Has F (isQ (qv m) q)) (hs:∀ v',Sel bx (.slice v 64 4 (Qe n ms)) (.slice v' 64 4 (Qe (n+1) (upd ms n m))) (bx2 v')) (hl:n<=1000000) (h:∀ v',K v' (bx2 v') F) :
  LO Tryz.prog (.call {callee:=.builtin .append,args:=#[x,y],argTypes:=#[34,34]}) ty e bx F K:=by
 refine LO.byP (λfr w ho=>(Yr (bx:=bx) hm).all ho) λh1=>?_;exact LO.append T.e34 hx hy (news:=qcs m) (by rw[Xz];exact hs) (Ql.one hu rfl qd) h1 (by rw[Qg];show(n*4+4)*64<=_;omega) (by rw[Qg];show n*4+4<=_;omega) h
end
end
def mF (n:Nat) (ms:Nat->QM) (q:Nat->Rat):Fct where
 p h:=∀ i,i < n->(isQ (qv (ms i)) (q i)).p h
 mono _ _ hl hp i hi:=(isQ _ _).mono _ _ hl (hp i hi)
def fF (v:Value) (n:Nat) (ms:Nat->QM) (q:Nat->Rat):Fct where
 p h:=(slC v n 4 (JS ms)).p h∧(mF n ms q).p h
 mono _ _ hl hp:=⟨(slC _ _ _ _).mono _ _ hl hp.1,(mF _ _ _).mono _ _ hl hp.2⟩
section
variable {P:Program} {e:Env} {bx bx':List Ow} {F:List Fct} {ty t el:TypeId} {v u:Value} {x y:Operand} {n k:Nat} {ms:Nat->QM} {m:QM} {qf:Nat->Rat} {z:Rat} {K:Qd}
def W.Has.fs (h:Has F (fF v n ms qf)):Has F (slC v n 4 (JS ms)):=λp hf=>(h p hf).1
def W.Has.fm (h:Has F (fF v n ms qf)):Has F (mF n ms qf):=λp hf=>(h p hf).2
def W.Has.q (h:Has F (mF n ms qf)) (hk:k < n):Has F (isQ (qv (ms k)) (qf k)):=λp hf=>h p hf k hk
def KnS.ff (h:Has F (fF v n ms qf)):KnS bx F v n:=KnS.f h.fs
def YO.ldFf (hs:Row P t 4) (hx:ev e x=some (.pointer (some (eaddr v (k*4))))) (hf:Has F (fF v n ms qf)) (hk:k < n):YO P (.load t x) ty e bx F (qv (ms k)):=
 YO.ldRS (us:=qcs (ms k)) hs hx hf.fs qo rfl λi hi=>by
  rw[qcell_at _ _ hi];match i,hi with|0,_=>rfl|1,_=>rfl|2,_=>rfl|3,_=>rfl
def W.Has.J3 (h:Has F (mF n ms qf)) (hm:Has F (isQ (qv m) z)):Has F (mF n (upd ms k m) (upd qf k z)):=λp hf i hi=>by
 by_cases c:i=k
 ·subst c;rw[QJ,QJ];exact hm p hf
 ·rw[upd_ne c,upd_ne c];exact h p hf i hi
def W.Has.Ul (h:Has F (mF n ms qf)) (hm:Has F (isQ (qv m) z)):Has F (mF (n+1) (upd ms n m) (upd qf n z)):=λp hf i hi=>by
 by_cases c:i=n
 ·subst c;rw[QJ,QJ];exact hm p hf
 ·rw[upd_ne c,upd_ne c];exact h p hf i qo
def W.Has.QW {q':Nat->Rat} (h:Has F (mF n ms qf)) (he:∀ i,i < n->qf i=q' i):Has F (mF n ms q'):=λp hf i hi=>by
 rw[<-he i hi];exact h p hf i hi
def W.Has.mFn (ms:Nat->QM) (q:Nat->Rat):Has F (mF 0 ms q):=λp hf i hi=>absurd hi qo
def W.Has.mF0 (n:Nat):Has F (mF n (λ_=>m00) (λ_=>0)):=λp hf i hi=>Jy p hf
def QF.fF (hb:Ow.slice v el 4 (Qe n ms)∈bx) (hm:Has F (mF n ms qf)):QF bx F (fF v n ms qf):=λfr w ho=>
 ⟨QF.o hb (Qg _ _) qd (λj hj=>QE hj) fr w ho,QF.f hm fr w ho⟩
def okF {fr:CF} {w:World} (ho:OK fr bx F w) (hs:Sel bx (.slice v el 4 (Qe n ms)) (.slice (.slice none 0 0) el 4 []) bx') (hm:Has F (mF n ms qf)):OK fr bx' (fF v n ms qf::F) w:=by
 have h:=ho.freeze hs (Qg _ _) qd (JS ms) λj hj=>QE hj;refine(h.add (f:=Go.Proofs.YtcpaopfdiahnnaaGreat.fF v n ms qf) ⟨h.facts _ (List.mem_cons_self ..),?_⟩).less λf hf=>?_
 ·exact(show Has (slC v n 4 (JS ms)::F) (mF n ms qf) from λp hp=>hm p λg hg=>hp g (List.mem_cons_of_mem _ hg)) _ h.facts
 ·rcases List.mem_cons.1 hf with rfl|hf
  ·exact List.mem_cons_self ..
  ·exact List.mem_cons_of_mem _ (List.mem_cons_of_mem _ hf)
end
section
variable {P:Program} {e:Env} {bx bx':List Ow} {F:List Fct} {el n:Nat} {c:Code} {Q:Post} {n':Nat} {rest Lo:List Oper} {Q2:Env->List Ow->List Fct->Prop}
def WC.Jh (v:Value) (n:Nat) (ms:Nat->QM) (q:Nat->Rat) (hs:Sel bx (.slice v el 4 (Qe n ms)) (.slice (.slice none 0 0) el 4 []) bx') (hm:Has F (mF n ms q)) (h:WC P n' c e bx' (fF v n ms q::F) Q):WC P n' c e bx F Q:=λfr w0 a w hk hr ho=>h fr w0 a w hk hr (okF ho hs hm)
def WL.Jh (v:Value) (n:Nat) (ms:Nat->QM) (q:Nat->Rat) (hs:Sel bx (.slice v el 4 (Qe n ms)) (.slice (.slice none 0 0) el 4 []) bx') (hm:Has F (mF n ms q)) (h:WL P n' Lo rest e bx' (fF v n ms q::F) Q2):WL P n' Lo rest e bx F Q2:=λfr w0 a w Q' hQ hk hr ho=>h fr w0 a w Q' hQ hk hr (okF ho hs hm)
end
end
section
open W Go.RowKit
inductive Cut:Nat->Nat->List Value->List Value->Prop where
 |done {cs:List Value}:Cut 0 0 cs []
 |take {m:Nat} {c:Value} {cs us:List Value}:Cut 0 m cs us->Cut 0 (m+1) (c::cs) (c::us)
 |drop {q m:Nat} {c:Value} {cs us:List Value}:Cut q m cs us->Cut (q+1) m (c::cs) us
def Cut.len {q m:Nat} {cs us:List Value} (h:Cut q m cs us):us.length=m:=by
 induction h with
 |done=>rfl
 |take _ ih=>simp[ih]
 |drop _ ih=>exact ih
def Cut.eq {q m:Nat} {cs us:List Value} (h:Cut q m cs us):(cs.drop q).take m=us:=by
 induction h with
 |done=>simp
 |take _ ih=>simpa using ih
 |drop _ ih=>simpa using ih
def Cut.get {q m:Nat} {cs us:List Value} (h:Cut q m cs us) {i:Nat} (hi:i < m):cs[q+i]?=us[i]?:=by
 rw[<-h.eq,List.getElem?_take,if_pos hi,List.getElem?_drop]
inductive Off (w:Nat):Nat->Nat->Nat->Prop where
 |base {k:Nat}:Off w (k*w) k 0
 |add {j k o a r:Nat}:Off w j k o->o+a=r->Off w (j+a) k r
def Off.eq {w j k o:Nat} (h:Off w j k o):j=k*w+o:=by
 induction h with
 |base=>rfl
 |add _ e ih=>omega
structure Shp (M α:Type) where
 w:Nat
 cs:M->α->List Value
 fc:M->α->Fct
 pos:0 < w
 len:∀ m a,(cs m a).length=w
def dm {w k j:Nat} (h1:k*w<=j) (h2:j < k*w+w):j / w=k∧j % w=j - k*w:=by
 obtain⟨r,rfl⟩:=Nat.exists_eq_add_of_le h1;have hr:r < w:=qo;rw[Nat.mul_comm k w,Nat.mul_add_div qo,Nat.div_eq_of_lt hr,Nat.mul_add_mod,Nat.mod_eq_of_lt hr];omega
def dm_ne {w k j:Nat} (h0:0 < w) (h:¬(k*w<=j∧j < k*w+w)):j / w≠k:=λe=>h (by
 have h1:=Nat.div_add_mod j w;have h2:=Nat.mod_lt j h0;rw[e,Nat.mul_comm] at h1;omega)
def Kt {w:Nat} {f:Nat->List Value} (hl:∀ k,(f k).length=w) {k r:Nat} (hr:r < w):(f k)[r]?=some (JA w f (k*w+r)):=by
 have h0:0 < w:=qo;unfold JA;rw[Nat.mul_comm,Nat.mul_add_div h0,Nat.div_eq_of_lt hr,Nat.add_zero,Nat.mul_add_mod,Nat.mod_eq_of_lt hr];exact X5 (hl k) hr
section
variable {M α:Type} {S:Shp M α} {P:Program} {e:Env} {bx bx':List Ow} {F:List Fct} {ty t el:TypeId} {v u:Value} {x y:Operand} {n k j o m:Nat} {ms:Nat->M} {xs:Nat->α} {us:List Value} {K:Qd} {mm:M} {aa:α}
abbrev HQ (S:Shp M α) (ms:Nat->M) (xs:Nat->α) (j:Nat):Value:=JA S.w (λk=>S.cs (ms k) (xs k)) j
def lF (S:Shp M α) (v:Value) (n:Nat) (ms:Nat->M) (xs:Nat->α):Fct where
 p h:=(slC v n S.w (HQ S ms xs)).p h∧∀ k,k < n->(S.fc (ms k) (xs k)).p h
 mono _ _ hl hp:=⟨(slC _ _ _ _).mono _ _ hl hp.1,λk hk=>(S.fc _ _).mono _ _ hl (hp.2 k hk)⟩
def lM (S:Shp M α) (n:Nat) (ms:Nat->M) (xs:Nat->α):Fct where
 p h:=∀ k,k < n->(S.fc (ms k) (xs k)).p h
 mono _ _ hl hp k hk:=(S.fc _ _).mono _ _ hl (hp k hk)
def W.Has.ls (h:Has F (lF S v n ms xs)):Has F (slC v n S.w (HQ S ms xs)):=λp hf=>(h p hf).1
def W.Has.lm (h:Has F (lF S v n ms xs)):Has F (lM S n ms xs):=λp hf=>(h p hf).2
def W.Has.mk (h:Has F (lM S n ms xs)) (hk:k < n):Has F (S.fc (ms k) (xs k)):=λp hf=>h p hf k hk
def W.Has.lk (h:Has F (lF S v n ms xs)) (hk:k < n):Has F (S.fc (ms k) (xs k)):=h.lm.mk hk
def W.Has.Gk:Has F (lM S 0 ms xs):=λp _ k hk=>absurd hk qo
def KnS.lf (h:Has F (lF S v n ms xs)):KnS bx F v n:=KnS.f h.ls
def Z0 {w k n o m:Nat} (hk:k < n) (ho:o+m<=w):k*w+o+m<=n*w:=by
 have:=Nat.mul_le_mul_right w (Nat.succ_le_of_lt hk);rw[Nat.succ_mul] at this;omega
def cut_le {q m:Nat} {cs us:List Value} (h:Cut q m cs us) (h0:0 < m):q+m<=cs.length:=by
 have h1:=h.get (i:=m - 1) qo;have h2:=h.len;rw[List.getElem?_eq_getElem (show m - 1 < us.length by omega)] at h1;have:=(List.getElem?_eq_some_iff.1 h1).1;omega
def YO.ldL (hs:Row P t m) (hx:ev e x=some (.pointer (some (eaddr v j)))) (hf:Has F (lF S v n ms xs)) (ho:Off S.w j k o) (hk:k < n) (h0:0 < m) (hc:Cut o m (S.cs (ms k) (xs k)) us):YO P (.load t x) ty e bx F (.agg us.toArray):=by
 obtain rfl:=ho.eq;have h1:=cut_le hc h0;rw[S.len] at h1
 exact YO.ldRS (us:=us) hs hx hf.ls (Z0 hk h1) hc.len λi hi=>by
  rw[<-hc.get hi,Nat.add_assoc];exact Kt (λk=>S.len _ _) qo
def YO.ldC {tg g q:Nat} {cs:List Value} (hs:Row P t m) (hx:ev e x=some (.pointer (some ⟨g,q,none⟩))) (hb:Ow.cells g tg cs∈bx) (hc:Cut q m cs us):YO P (.load t x) ty e bx F (.agg us.toArray):=YO.ldRB hs hx hb hc.len hc.eq
def YO.ldCk {tg g q:Nat} {cs:List Value} (hs:Row P t m) (hx:ev e x=some (.pointer (some ⟨g,q,none⟩))) (hb:Has F (ce g tg cs)) (hc:Cut q m cs us):YO P (.load t x) ty e bx F (.agg us.toArray):=
 YO.ldRow (by rw[hc.len];exact hs) hx rfl λfr w ho i v hv=>by
  have hi:i < m:=by rw[<-hc.len];exact(List.getElem?_eq_some_iff.1 hv).1
  rw[ce_cell ho hb,hc.get hi];exact hv
abbrev QV (S:Shp M α) (n:Nat) (ms:Nat->M) (xs:Nat->α):List Value:=XL (n*S.w) (HQ S ms xs)
abbrev lO (S:Shp M α) (v:Value) (el n:Nat) (ms:Nat->M) (xs:Nat->α):Ow:=Ow.slice v el S.w (QV S n ms xs)
def KnS.lo (h:lO S v el n ms xs∈bx):KnS bx F v n:=KnS.o h (Qg _ _) S.pos
def Vl:QV S n ms xs++S.cs mm aa=QV S (n+1) (upd ms n mm) (upd xs n aa):=by
 refine Xx (by rw[List.length_append,Qg,S.len,Nat.succ_mul]) λj hj=>?_;have hp:=S.pos;by_cases h:j < n*S.w
 ·rw[List.getElem?_append_left (by rw[Qg];exact h),QE h];have hn:j / S.w≠n:=by have:=(Nat.div_lt_iff_lt_mul hp).2 h;omega
  show some (JA S.w _ j)=some (JA S.w _ j);unfold JA;simp only;rw[upd_ne hn,upd_ne hn]
 ·have hj2:j < n*S.w+S.w:=by rw[Nat.succ_mul] at hj;exact hj
  obtain⟨hd,hm⟩:=dm (Nat.le_of_not_lt h) hj2;rw[List.getElem?_append_right (by rw[Qg];omega),Qg,X5 (S.len mm aa) qo];show some _=some (JA S.w _ j);unfold JA;simp only;rw[hd,hm,QJ,QJ]
def lcells_set (h:k < n):Q7 (QV S n ms xs) (k*S.w) (S.cs mm aa)=QV S n (upd ms k mm) (upd xs k aa):=by
 have hp:=S.pos
 have hle:k*S.w+(S.cs mm aa).length<=(QV S n ms xs).length:=by
  rw[Qg,S.len];have:=Z0 (w:=S.w) (o:=0) (m:=S.w) h qo;omega
 refine Xx (by rw[Yt hle,Qg]) λj hj=>?_;rw[Zf hle,S.len];show _=some (JA S.w _ j);unfold JA;simp only;split
 ·rename_i hx
  obtain⟨hd,hm⟩:=dm hx.1 hx.2;rw[X5 (S.len mm aa) qo,hd,hm,QJ,QJ]
 ·rename_i hx
  have hd:=dm_ne hp hx;rw[QE hj];show some (JA S.w _ j)=_;unfold JA;simp only;rw[upd_ne hd,upd_ne hd]
def W.Has.mset (h:Has F (lM S n ms xs)) (hm:Has F (S.fc mm aa)):Has F (lM S n (upd ms k mm) (upd xs k aa)):=λp hf i hi=>by
 by_cases c:i=k
 ·subst c;rw[QJ,QJ];exact hm p hf
 ·rw[upd_ne c,upd_ne c];exact h p hf i hi
def W.Has.mapp (h:Has F (lM S n ms xs)) (hm:Has F (S.fc mm aa)):Has F (lM S (n+1) (upd ms n mm) (upd xs n aa)):=λp hf i hi=>by
 by_cases c:i=n
 ·subst c;rw[QJ,QJ];exact hm p hf
 ·rw[upd_ne c,upd_ne c];exact h p hf i qo
def W.OK.QB {fr:CF} {w:World} (h:OK fr bx F w) (hs:Sel bx (lO S v el n ms xs) (.slice (.slice none 0 0) el S.w []) bx') (hm:Has F (lM S n ms xs)):OK fr bx' (lF S v n ms xs::F) w:=by
 have h1:=OK.freeze (n:=n) (sz:=S.w) h hs (Qg _ _) S.pos (HQ S ms xs) λj hj=>QE hj;refine⟨h1.frame,h1.apart,h1.nodup,h1.owns,λf hf=>?_⟩;have hF:∀ f∈F,f.p (imm fr bx' w.heap):=λf hf=>h1.facts f (List.mem_cons_of_mem _ hf);rcases List.mem_cons.1 hf with rfl|hf
 ·exact⟨h1.facts _ (List.mem_cons_self ..),hm _ hF⟩
 ·exact hF f hf
def WC.QB {n':Nat} {c:Code} {Q:Post} (hs:Sel bx (lO S v el n ms xs) (.slice (.slice none 0 0) el S.w []) bx') (hm:Has F (lM S n ms xs)) (h:WC P n' c e bx' (lF S v n ms xs::F) Q):WC P n' c e bx F Q:=λfr w0 a w hk hr ho=>h fr w0 a w hk hr (ho.QB hs hm)
def WL.QB {n':Nat} {L rest:List Oper} {Q:Env->List Ow->List Fct->Prop} (hs:Sel bx (lO S v el n ms xs) (.slice (.slice none 0 0) el S.w []) bx') (hm:Has F (lM S n ms xs)) (h:WL P n' L rest e bx' (lF S v n ms xs::F) Q):WL P n' L rest e bx F Q:=λfr w0 a w Q' hQ hk hr ho=>h fr w0 a w Q' hQ hk hr (ho.QB hs hm)
def LO.storeOL (hx:ev e x=some (.pointer (some (eaddr v (k*S.w))))) (hy:ev e y=some (.agg (S.cs mm aa).toArray)) (hr:Row P t S.w) (h1:QC bx F (S.cs mm aa)) (hs:Sel bx (lO S v el n ms xs) (lO S v el n (upd ms k mm) (upd xs k aa)) bx') (hk:k < n)
  (h:K undef bx' F):LO P (.store t x y) ty e bx F K:=
 LO.UP (vs:=S.cs mm aa) hx hy (by rw[S.len];exact hr) h1 hs (by rw[Qg,S.len];have:=Z0 (w:=S.w) (o:=0) (m:=S.w) hk qo;omega) (by rw[S.len];exact S.pos) (lcells_set hk) h
def LO.appL {el' t1 b:TypeId} {z:Value} {bx2:Value->List Ow} (he:XU P t1 el S.w z b) (hx:ev e x=some v) (hy:ev e y=some u) (hu:Ow.slice u el' S.w (S.cs mm aa)∈bx) (h1:QC bx F (S.cs mm aa)) (hs:∀ v',Sel bx (lO S v el n ms xs) (lO S v' el (n+1) (upd ms n mm) (upd xs n aa)) (bx2 v')) (hb:b<=1000) (hw:S.w<=100) (hl:n<=1000000) (h:∀ v',K v' (bx2 v') F) :
  LO P (.call {callee:=.builtin .append,args:=#[x,y],argTypes:=#[t1,t1]}) ty e bx F K:=by
 refine LO.byP (λfr w ho=>h1.all ho) λh1=>?_;have hw1:n*S.w<=1000000*100:=Nat.mul_le_mul hl hw;have hp:=S.pos
 exact LO.append he hx hy (news:=S.cs mm aa) (by rw[Vl];exact hs) (Ql.one hu (S.len _ _) qo) h1 (by
  rw[Qg,S.len];have:=Nat.mul_le_mul (show n*S.w+S.w<=100000100 by omega) hb;omega) (by rw[Qg,S.len];omega) h
end
end
section
namespace T
open W
def s23:Qu Tryz.prog 23 88 20:=Qu.of kr
def sc23:Qw Tryz.prog 23:=Qw.of kr
def e23:XU Tryz.prog 23 88 20 (.agg #[.bool false,.slice none 0 0,.bool false,.slice none 0 0,.bool false,.slice none 0 0,.bool false,.slice none 0 0,.bool false,.slice none 0 0,.bool false,.slice none 0 0,.bool false,.slice none 0 0,.bool false,.slice none 0 0,.bool false,.slice none 0 0,.bool false,.slice none 0 0]) 320:=⟨by kernel_rfl,by kernel_rfl,by kernel_rfl,by decide⟩
def s24:Qu Tryz.prog 24 79 30:=Qu.of kr
def sc24:Qw Tryz.prog 24:=Qw.of kr
def e24:XU Tryz.prog 24 79 30 (.agg #[.int .i64 0,.int .i64 0,.bool false,.slice none 0 0,.bool false,.slice none 0 0,.bool false,.slice none 0 0,.bool false,.slice none 0 0,.bool false,.slice none 0 0,.bool false,.slice none 0 0,.bool false,.slice none 0 0,.bool false,.slice none 0 0,.bool false,.slice none 0 0,.bool false,.slice none 0 0,.bool false,.slice none 0 0,.bool false,.slice none 0 0,.bool false,.slice none 0 0,.bool false,.slice none 0 0]) 464:=⟨by kernel_rfl,by kernel_rfl,by kernel_rfl,by decide⟩
def s46:Qu Tryz.prog 46 59 1:=Qu.of kr
def sc46:Qw Tryz.prog 46:=Qw.of kr
def e46:XU Tryz.prog 46 59 1 (.slice none 0 0) 24:=⟨by kernel_rfl,by kernel_rfl,by kernel_rfl,by decide⟩
def f48_0:Qj Tryz.prog 48 0 0:=Qj.of kr
def r48:Row Tryz.prog 48 1:=Row.of kr
def al48:Qy Tryz.prog 48 [.slice none 0 0]:=Qy.of (z:=.agg #[.slice none 0 0]) kr kr
def f50_0:Qj Tryz.prog 50 0 0:=Qj.of kr
def f50_1:Qj Tryz.prog 50 1 1:=Qj.of kr
def r50:Row Tryz.prog 50 2:=Row.of kr
def al50:Qy Tryz.prog 50 [.int .i64 0,.slice none 0 0]:=Qy.of (z:=.agg #[.int .i64 0,.slice none 0 0]) kr kr
def s59:Qu Tryz.prog 59 83 8:=Qu.of kr
def sc59:Qw Tryz.prog 59:=Qw.of kr
def e59:XU Tryz.prog 59 83 8 (.agg #[.bool false,.slice none 0 0,.bool false,.slice none 0 0,.bool false,.slice none 0 0,.bool false,.slice none 0 0]) 128:=⟨by kernel_rfl,by kernel_rfl,by kernel_rfl,by decide⟩
def f75_0:Qj Tryz.prog 75 0 0:=Qj.of kr
def f75_1:Qj Tryz.prog 75 1 4:=Qj.of kr
def r75:Row Tryz.prog 75 8:=Row.of kr
def al75:Qy Tryz.prog 75 [.bool false,.slice none 0 0,.bool false,.slice none 0 0,.bool false,.slice none 0 0,.bool false,.slice none 0 0]:=Qy.of (z:=.agg #[.bool false,.slice none 0 0,.bool false,.slice none 0 0,.bool false,.slice none 0 0,.bool false,.slice none 0 0]) kr kr
def f79_0:Qj Tryz.prog 79 0 0:=Qj.of kr
def f79_1:Qj Tryz.prog 79 1 1:=Qj.of kr
def f79_2:Qj Tryz.prog 79 2 2:=Qj.of kr
def f79_3:Qj Tryz.prog 79 3 10:=Qj.of kr
def f79_4:Qj Tryz.prog 79 4 18:=Qj.of kr
def f79_5:Qj Tryz.prog 79 5 26:=Qj.of kr
def r79:Row Tryz.prog 79 30:=Row.of kr
def al79:Qy Tryz.prog 79 [.int .i64 0,.int .i64 0,.bool false,.slice none 0 0,.bool false,.slice none 0 0,.bool false,.slice none 0 0,.bool false,.slice none 0 0,.bool false,.slice none 0 0,.bool false,.slice none 0 0,.bool false,.slice none 0 0,.bool false,.slice none 0 0,.bool false,.slice none 0 0,.bool false,.slice none 0 0,.bool false,.slice none 0 0,.bool false,.slice none 0 0,.bool false,.slice none 0 0,.bool false,.slice none 0 0]:=Qy.of (z:=.agg #[.int .i64 0,.int .i64 0,.bool false,.slice none 0 0,.bool false,.slice none 0 0,.bool false,.slice none 0 0,.bool false,.slice none 0 0,.bool false,.slice none 0 0,.bool false,.slice none 0 0,.bool false,.slice none 0 0,.bool false,.slice none 0 0,.bool false,.slice none 0 0,.bool false,.slice none 0 0,.bool false,.slice none 0 0,.bool false,.slice none 0 0,.bool false,.slice none 0 0,.bool false,.slice none 0 0]) kr kr
def f83_0:Qj Tryz.prog 83 0 0:=Qj.of kr
def f83_1:Qj Tryz.prog 83 1 4:=Qj.of kr
def r83:Row Tryz.prog 83 8:=Row.of kr
def al83:Qy Tryz.prog 83 [.bool false,.slice none 0 0,.bool false,.slice none 0 0,.bool false,.slice none 0 0,.bool false,.slice none 0 0]:=Qy.of (z:=.agg #[.bool false,.slice none 0 0,.bool false,.slice none 0 0,.bool false,.slice none 0 0,.bool false,.slice none 0 0]) kr kr
def f88_0:Qj Tryz.prog 88 0 0:=Qj.of kr
def f88_1:Qj Tryz.prog 88 1 8:=Qj.of kr
def f88_2:Qj Tryz.prog 88 2 12:=Qj.of kr
def f88_3:Qj Tryz.prog 88 3 16:=Qj.of kr
def r88:Row Tryz.prog 88 20:=Row.of kr
def al88:Qy Tryz.prog 88 [.bool false,.slice none 0 0,.bool false,.slice none 0 0,.bool false,.slice none 0 0,.bool false,.slice none 0 0,.bool false,.slice none 0 0,.bool false,.slice none 0 0,.bool false,.slice none 0 0,.bool false,.slice none 0 0,.bool false,.slice none 0 0,.bool false,.slice none 0 0]:=Qy.of (z:=.agg #[.bool false,.slice none 0 0,.bool false,.slice none 0 0,.bool false,.slice none 0 0,.bool false,.slice none 0 0,.bool false,.slice none 0 0,.bool false,.slice none 0 0,.bool false,.slice none 0 0,.bool false,.slice none 0 0,.bool false,.slice none 0 0,.bool false,.slice none 0 0]) kr kr
def s106:Qu Tryz.prog 106 112 38:=Qu.of kr
def sc106:Qw Tryz.prog 106:=Qw.of kr
def al106:Qy Tryz.prog 106 [.slice none 0 0]:=Qy.of (z:=.slice none 0 0) kr kr
def e106:XU Tryz.prog 106 112 38 (.agg #[.bool false,.slice none 0 0,.bool false,.slice none 0 0,.bool false,.slice none 0 0,.bool false,.slice none 0 0,.int .i64 0,.int .i64 0,.bool false,.slice none 0 0,.bool false,.slice none 0 0,.bool false,.slice none 0 0,.bool false,.slice none 0 0,.bool false,.slice none 0 0,.bool false,.slice none 0 0,.bool false,.slice none 0 0,.bool false,.slice none 0 0,.bool false,.slice none 0 0,.bool false,.slice none 0 0,.bool false,.slice none 0 0,.bool false,.slice none 0 0,.bool false,.slice none 0 0,.bool false,.slice none 0 0]) 592:=⟨by kernel_rfl,by kernel_rfl,by kernel_rfl,by decide⟩
def f112_0:Qj Tryz.prog 112 0 0:=Qj.of kr
def f112_1:Qj Tryz.prog 112 1 8:=Qj.of kr
def Gb:Row Tryz.prog 112 38:=Row.of kr
def al112:Qy Tryz.prog 112 [.bool false,.slice none 0 0,.bool false,.slice none 0 0,.bool false,.slice none 0 0,.bool false,.slice none 0 0,.int .i64 0,.int .i64 0,.bool false,.slice none 0 0,.bool false,.slice none 0 0,.bool false,.slice none 0 0,.bool false,.slice none 0 0,.bool false,.slice none 0 0,.bool false,.slice none 0 0,.bool false,.slice none 0 0,.bool false,.slice none 0 0,.bool false,.slice none 0 0,.bool false,.slice none 0 0,.bool false,.slice none 0 0,.bool false,.slice none 0 0,.bool false,.slice none 0 0,.bool false,.slice none 0 0]:=Qy.of (z:=.agg #[.bool false,.slice none 0 0,.bool false,.slice none 0 0,.bool false,.slice none 0 0,.bool false,.slice none 0 0,.int .i64 0,.int .i64 0,.bool false,.slice none 0 0,.bool false,.slice none 0 0,.bool false,.slice none 0 0,.bool false,.slice none 0 0,.bool false,.slice none 0 0,.bool false,.slice none 0 0,.bool false,.slice none 0 0,.bool false,.slice none 0 0,.bool false,.slice none 0 0,.bool false,.slice none 0 0,.bool false,.slice none 0 0,.bool false,.slice none 0 0,.bool false,.slice none 0 0,.bool false,.slice none 0 0]) kr kr
def sc115:Qw Tryz.prog 115:=Qw.of kr
end T
end
section
open W Go.RowKit
open Bl (Vc Bd Tc Sc)
abbrev VM:=QM×QM
abbrev vcs (m:VM):List Value:=[.bool m.1.1,m.1.2.1,.bool false,m.1.2.2,.bool m.2.1,m.2.2.1,.bool false,m.2.2.2]
abbrev vv (m:VM):Value:=.agg #[.bool m.1.1,m.1.2.1,.bool false,m.1.2.2,.bool m.2.1,m.2.2.1,.bool false,m.2.2.2]
def fV (m:VM) (a:Vc):Fct where
 p h:=(isQ (qv m.1) a.x).p h∧(isQ (qv m.2) a.y).p h
 mono _ _ hl hp:=⟨(isQ _ _).mono _ _ hl hp.1,(isQ _ _).mono _ _ hl hp.2⟩
structure BM where
 c:VM
 lo:QM
 hi:QM
 st:QM
abbrev bcs (m:BM):List Value:=[.bool m.c.1.1,m.c.1.2.1,.bool false,m.c.1.2.2,.bool m.c.2.1,m.c.2.2.1,.bool false,m.c.2.2.2,.bool m.lo.1,m.lo.2.1,.bool false,m.lo.2.2,.bool m.hi.1,m.hi.2.1,.bool false,m.hi.2.2,.bool m.st.1,m.st.2.1,.bool false,m.st.2.2]
abbrev bv (m:BM):Value:=.agg (bcs m).toArray
def fB (m:BM) (b:Bd):Fct where
 p h:=(fV m.c b.c).p h∧(isQ (qv m.lo) b.lo).p h∧(isQ (qv m.hi) b.hi).p h∧(isQ (qv m.st) b.st).p h
 mono _ _ hl hp:=⟨(fV _ _).mono _ _ hl hp.1,(isQ _ _).mono _ _ hl hp.2.1,(isQ _ _).mono _ _ hl hp.2.2.1,(isQ _ _).mono _ _ hl hp.2.2.2⟩
structure ToM where
 p:VM
 q:VM
 n:VM
 r:QM
abbrev tcs (m:ToM) (t:Tc):List Value:=[.int .i64 t.a,.int .i64 t.b,.bool m.p.1.1,m.p.1.2.1,.bool false,m.p.1.2.2,.bool m.p.2.1,m.p.2.2.1,.bool false,m.p.2.2.2,.bool m.q.1.1,m.q.1.2.1,.bool false,m.q.1.2.2,.bool m.q.2.1,m.q.2.2.1,.bool false,m.q.2.2.2,
 .bool m.n.1.1,m.n.1.2.1,.bool false,m.n.1.2.2,.bool m.n.2.1,m.n.2.2.1,.bool false,m.n.2.2.2,.bool m.r.1,m.r.2.1,.bool false,m.r.2.2]
abbrev tv (m:ToM) (t:Tc):Value:=.agg (tcs m t).toArray
def fT (m:ToM) (t:Tc):Fct where
 p h:=(fV m.p t.p).p h∧(fV m.q t.q).p h∧(fV m.n t.n).p h∧(isQ (qv m.r) t.r).p h
 mono _ _ hl hp:=⟨(fV _ _).mono _ _ hl hp.1,(fV _ _).mono _ _ hl hp.2.1,(fV _ _).mono _ _ hl hp.2.2.1,(isQ _ _).mono _ _ hl hp.2.2.2⟩
structure EM where
 at':VM
 t:ToM
structure Ed where
 at':Vc
 t:Tc
abbrev ecs (m:EM) (e:Ed):List Value:=vcs m.at'++tcs m.t e.t
abbrev edv (m:EM) (e:Ed):Value:=.agg (ecs m e).toArray
def fE (m:EM) (e:Ed):Fct where
 p h:=(fV m.at' e.at').p h∧(fT m.t e.t).p h
 mono _ _ hl hp:=⟨(fV _ _).mono _ _ hl hp.1,(fT _ _).mono _ _ hl hp.2⟩
abbrev QD:Shp VM Vc:=⟨8,λm _=>vcs m,fV,by decide,λ_ _=>rfl⟩
abbrev Qm:Shp BM Bd:=⟨20,λm _=>bcs m,fB,by decide,λ_ _=>rfl⟩
abbrev Qb:Shp ToM Tc:=⟨30,tcs,fT,by decide,λ_ _=>rfl⟩
abbrev JY:Shp EM Ed:=⟨38,ecs,fE,by decide,λ_ _=>rfl⟩
abbrev plS:Shp (Value×(Nat->VM)) (Nat×(Nat->Vc)):=⟨1,λm _=>[m.1],λm a=>lF QD m.1 a.1 m.2 a.2,by decide,λ_ _=>rfl⟩
section
variable {F:List Fct} {bx:List Ow} {m:VM} {a:Vc} {bm:BM} {b:Bd} {tm:ToM} {t:Tc} {em:EM} {ed:Ed}
def W.Has.vx (h:Has F (fV m a)):Has F (isQ (qv m.1) a.x):=λp hf=>(h p hf).1
def W.Has.vy (h:Has F (fV m a)):Has F (isQ (qv m.2) a.y):=λp hf=>(h p hf).2
def W.Has.vof (h1:Has F (isQ (qv m.1) a.x)) (h2:Has F (isQ (qv m.2) a.y)):Has F (fV m a):=λp hf=>⟨h1 p hf,h2 p hf⟩
def W.Has.bc (h:Has F (fB bm b)):Has F (fV bm.c b.c):=λp hf=>(h p hf).1
def W.Has.bl (h:Has F (fB bm b)):Has F (isQ (qv bm.lo) b.lo):=λp hf=>(h p hf).2.1
def W.Has.bh (h:Has F (fB bm b)):Has F (isQ (qv bm.hi) b.hi):=λp hf=>(h p hf).2.2.1
def W.Has.bs (h:Has F (fB bm b)):Has F (isQ (qv bm.st) b.st):=λp hf=>(h p hf).2.2.2
def W.Has.bof (h1:Has F (fV bm.c b.c)) (h2:Has F (isQ (qv bm.lo) b.lo)) (h3:Has F (isQ (qv bm.hi) b.hi)) (h4:Has F (isQ (qv bm.st) b.st)):Has F (fB bm b):=λp hf=>⟨h1 p hf,h2 p hf,h3 p hf,h4 p hf⟩
def W.Has.tp (h:Has F (fT tm t)):Has F (fV tm.p t.p):=λp hf=>(h p hf).1
def W.Has.tq (h:Has F (fT tm t)):Has F (fV tm.q t.q):=λp hf=>(h p hf).2.1
def W.Has.tn (h:Has F (fT tm t)):Has F (fV tm.n t.n):=λp hf=>(h p hf).2.2.1
def W.Has.trr (h:Has F (fT tm t)):Has F (isQ (qv tm.r) t.r):=λp hf=>(h p hf).2.2.2
def W.Has.tof (h1:Has F (fV tm.p t.p)) (h2:Has F (fV tm.q t.q)) (h3:Has F (fV tm.n t.n)) (h4:Has F (isQ (qv tm.r) t.r)):Has F (fT tm t):=λp hf=>⟨h1 p hf,h2 p hf,h3 p hf,h4 p hf⟩
def W.Has.ea (h:Has F (fE em ed)):Has F (fV em.at' ed.at'):=λp hf=>(h p hf).1
def W.Has.et (h:Has F (fE em ed)):Has F (fT em.t ed.t):=λp hf=>(h p hf).2
def W.Has.eof (h1:Has F (fV em.at' ed.at')) (h2:Has F (fT em.t ed.t)):Has F (fE em ed):=λp hf=>⟨h1 p hf,h2 p hf⟩
def ZH (h:Has F (fV m a)):QC bx F (vcs m):=
 .cons (One.lit rfl rfl) (.cons (One.sl (KnS.q1 h.vx)) (.cons (One.lit rfl rfl) (.cons (One.sl (KnS.q2 h.vx)) (.cons (One.lit rfl rfl) (.cons (One.sl (KnS.q1 h.vy)) (.cons (One.lit rfl rfl) (.cons (One.sl (KnS.q2 h.vy)) .nil)))))))
def W.QC.app {l k:List Value} (h1:QC bx F l) (h2:QC bx F k):QC bx F (l++k):=by
 induction h1 with
 |nil=>exact h2
 |cons h _ ih=>exact .cons h ih
def one_b (h:Has F (fB bm b)):QC bx F (bcs bm):=(ZH h.bc).app ((Yr h.bl).app ((Yr h.bh).app (Yr h.bs)))
def Vm (h:Has F (fT tm t)):QC bx F (tcs tm t):=.cons (One.lit rfl rfl) (.cons (One.lit rfl rfl) ((ZH h.tp).app ((ZH h.tq).app ((ZH h.tn).app (Yr h.trr)))))
def one_e (h:Has F (fE em ed)):QC bx F (ecs em ed):=(ZH h.ea).app (Vm h.et)
end
section
variable {F:List Fct} {bx:List Ow} {m:VM} {a:Vc}
def hasV0:Has F (fV (m00,m00) ⟨0,0⟩):=W.Has.vof Jy Jy
def KnS.vx1 (h:Has F (fV m a)):KnS bx F m.1.2.1 (Qx (a.x.num).natAbs).length:=KnS.q1 h.vx
def KnS.vx2 (h:Has F (fV m a)):KnS bx F m.1.2.2 (Qx (qz a.x).natAbs).length:=KnS.q2 h.vx
def KnS.vy1 (h:Has F (fV m a)):KnS bx F m.2.2.1 (Qx (a.y.num).natAbs).length:=KnS.q1 h.vy
def KnS.vy2 (h:Has F (fV m a)):KnS bx F m.2.2.2 (Qx (qz a.y).natAbs).length:=KnS.q2 h.vy
end
def KA (a:Vc):Qd:=λv B G=>∃ m:VM,v=vv m∧B=[]∧G=[fV m a]
inductive Pt:Nat->List Value->List Value->List Value->Prop where
 |nil {cs:List Value}:Pt 0 [] cs cs
 |cons {u c:Value} {us cs cs':List Value}:Pt 0 us cs cs'->Pt 0 (u::us) (c::cs) (u::cs')
 |skip {q:Nat} {c:Value} {us cs cs':List Value}:Pt q us cs cs'->Pt (q+1) us (c::cs) (c::cs')
def Pt.eq {q:Nat} {us cs cs':List Value} (h:Pt q us cs cs'):Q7 cs q us=cs'∧q+us.length<=cs.length:=by
 induction h with
 |nil=>simp[Q7]
 |cons _ ih=>simp only[Q7,List.take_zero,List.nil_append,Nat.zero_add,List.length_cons,List.drop_succ_cons] at ih ⊢;exact⟨by rw[<-ih.1];rfl,by omega⟩
 |skip _ ih=>simp only[Q7,List.take_succ_cons,List.cons_append,List.length_cons] at ih ⊢;exact⟨by rw[<-ih.1,Nat.add_right_comm];rfl,by omega⟩
section
variable {P:Program} {e:Env} {bx bx':List Ow} {F:List Fct} {ty t tg:TypeId} {x y z:Operand} {g q m:Nat} {cs cs' us:List Value} {K:Qd} {a b:VM} {m1 m2:QM} {v:Value}
def LO.storeC (hx:ev e x=some (.pointer (some ⟨g,q,none⟩))) (hy:ev e y=some (.agg us.toArray)) (hr:Row P t us.length) (hs:Sel bx (.cells g tg cs) (.cells g tg cs') bx') (hp:Pt q us cs cs') (h1:QC bx F us) (h:K undef bx' F):LO P (.store t x y) ty e bx F K:=
 LO.HE h1 λh1=>LO.store hx hy (vs:=us) (by simp[Value.cells]) hr.2 h1 hs hp.eq.2 hp.eq.1 h
def LO.YX {us:List Value} (hx:ev e x=some (.pointer (some ⟨g,0,none⟩))) (hy:ev e y=some (.agg us.toArray)) (hr:Row P t us.length) (hs:Sel bx (.cells g tg cs) (.cells g tg us) bx') (hl:cs.length=us.length) (h1:QC bx F us) (h:K undef bx' F):LO P (.store t x y) ty e bx F K:=
 LO.HE h1 λh1=>LO.store hx hy (vs:=us) (by simp[Value.cells]) hr.2 h1 hs qo (by simp[Q7,<-hl]) h
def YO.shl1 {k:Nat} {t':TypeId} (hx:ev e x=some (.int .i64 1)) (hy:ev e y=some (.int .i64 (k:Int))) (h:k<=60):YO P (.binOp .shl t x y t') ty e bx F (.int .i64 ((2 ^ k:Nat):Int)):=by
 have h1:2 ^ k<=2 ^ 60:=Nat.pow_le_pow_right qd h;have h2:(1:Int)*2 ^ ((k:Int)).toNat=((2 ^ k:Nat):Int):=by rw[Int.toNat_natCast,Int.one_mul];simp
 have h3:∀ N:Nat,N<=2 ^ 60->-9223372036854775808<=(N:Int)∧(N:Int)<=9223372036854775807:=λN hN=>by omega
 have:=YO.shl' (P:=P) (bx:=bx) (F:=F) (ty:=ty) (t:=t) (t':=t') hx hy qo qo (by rw[h2];exact(h3 _ h1).1) (by rw[h2];exact(h3 _ h1).2)
 rwa [h2] at this
def YO.buildV (hx:ev e x=some (qv m1)) (hy:ev e y=some (qv m2)):YO Tryz.prog (.build 75 #[(0,x),(1,y)]) ty e bx F (vv (m1,m2)):=YO.build (parts:=[(0,x),(1,y)]) (.cons hx (.cons hy .nil)) λ_=>by kernel_rfl
def YO.buildV0:YO Tryz.prog (.build 75 #[]) ty e bx F (vv (m00,m00)):=YO.build (parts:=[]) .nil λ_=>by kernel_rfl
def YO.buildP (hx:ev e x=some (qv m1)) (hy:ev e y=some (qv m2)):YO Tryz.prog (.build 83 #[(0,x),(1,y)]) ty e bx F (vv (m1,m2)):=YO.build (parts:=[(0,x),(1,y)]) (.cons hx (.cons hy .nil)) λ_=>by kernel_rfl
def LO.bsR2 {m m':QM} (hx:ev e x=some (qv m)) (hy:ev e y=some (qv m')) (h:∀ v,K v (Ow.slice v 64 4 (Qe 2 (upd (upd (λ_=>m00) 0 m) 1 m'))::bx) F):LO Tryz.prog (.buildSlice 34 2 #[(0,x),(1,y)]) ty e bx F K:=by
 refine LO.buildSlice (el:=64) (sz:=4) (parts:=[(0,x),(1,y)]) (us:=[qv m,qv m']) (cs:=qcs m++qcs m') (.cons hx (.cons hy .nil)) (λ_=>by kernel_rfl) rfl qd λv=>?_;have:=h v
 rwa [<-Xz,<-Xz,show Qe 0 (λ_=>m00)=[] from rfl,List.nil_append] at this
end
end
end Go.Proofs.YtcpaopfdiahnnaaGreat
