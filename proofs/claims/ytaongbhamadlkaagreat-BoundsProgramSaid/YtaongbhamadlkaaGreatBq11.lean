/- Lemmas for the proof of a law: The executor over slices of bounds, numbers, lengths. Conditions: none. -/
import Derived.Test.YtaongbhamadlkaaGreatBq3
import Derived.Test.YtaongbhamadlkaaGreatBq10
import Derived.Test.YtaongbhamadlkaaGreatProg
import Derived.Test.YtaongbhamadlkaaGreatBq2
set_option maxHeartbeats 8000000
set_option linter.unusedVariables false
set_option linter.unusedSimpArgs false
set_option linter.unusedSectionVars false
namespace Go.Proofs.YtaongbhamadlkaaGreat
open W Go.RowKit
variable {P:Program} {e:Env} {bx bx':List Ow} {F:List Fct} {ty t el:TypeId} {v u:Value} {x y:Operand} {D n k:Nat} {ms:Nat→QM} {m:QM} {bs:List Bd} {b:Bd} {L:List (Option Int)} {o:Option Int} {qs:List Int} {z:Int} {q:Rat} {K:RPost}
theorem KnS.oB (h:Ow.slice v el 6 (bcells bs ms)∈bx):KnS bx F v bs.length:=KnS.o h (cellsF_len _ _) (by decide)
theorem KnS.oL (h:Ow.slice v el 5 (lcells L ms)∈bx):KnS bx F v L.length:=KnS.o h (cellsF_len _ _) (by decide)
theorem YO.ldOBd (hs:Row P t 6) (hx:ev e x=some (.pointer (some (eaddr v (k*6))))) (hb:Ow.slice v el 6 (bcells bs ms)∈bx) (hk:k < bs.length):YO P (.load t x) ty e bx F (bv (bg bs k) (ms k)):=
 YO.ldRO (us:=bcs (bg bs k) (ms k)) hs hx hb rfl fun i hi=>by
  rw[cellsF_get (by omega),bcell_at _ _ _ hi,row_get (n:=6) rfl hi]
theorem YO.ldOBq (hs:Row P t 4) (hx:ev e x=some (.pointer (some (eaddr v (k*6+2))))) (hb:Ow.slice v el 6 (bcells bs ms)∈bx) (hk:k < bs.length):YO P (.load t x) ty e bx F (qv (ms k)):=
 YO.ldRO (us:=qcs (ms k)) hs hx hb rfl fun i hi=>by
  rw[Nat.add_assoc,cellsF_get (by omega),bcell_at _ _ _ (by omega)]
  match i,hi with|0,_=>rfl|1,_=>rfl|2,_=>rfl|3,_=>rfl
theorem YO.ldOL (hs:Row P t 5) (hx:ev e x=some (.pointer (some (eaddr v (k*5))))) (hb:Ow.slice v el 5 (lcells L ms)∈bx) (hk:k < L.length):YO P (.load t x) ty e bx F (lv (L.getD k none) (ms k)):=
 YO.ldRO (us:=lcs (L.getD k none) (ms k)) hs hx hb rfl fun i hi=>by
  rw[cellsF_get (by omega),lcell_at _ _ _ hi,row_get (n:=5) rfl hi]
theorem YO.ldWf {tg g m:Nat} {cs:List Value} (hs:Row P t m) (hx:ev e x=some (.pointer (some ⟨g,0,none⟩))) (hb:Has F (ce g tg cs)) (hm:cs.length=m):YO P (.load t x) ty e bx F (.agg cs.toArray):=
 YO.ldRow (by subst hm;exact hs) hx rfl fun fr w ho i v hv=>by
  rw[ce_cell ho hb];simpa using hv
theorem LO.storeL1 (hx:ev e x=some (.pointer (some (eaddr v (k*5))))) (hy:ev e y=some (.agg #[.bool true,.bool m.1,m.2.1,.bool false,m.2.2])) (hr:Row P t 5) (hq:Has F (isQ (qv m) (wq D z))) (hs:Sel bx (.slice v el 5 (lcells L ms)) (.slice v el 5 (lcells (L.set k (some z)) (upd ms k m))) bx') (hk:k < L.length)
  (h:K undef bx' F):LO P (.store t x y) ty e bx F K:=
 LO.storeOR (vs:=lcs (some z) m) hx hy hr (.cons (One.lit rfl rfl) (one_q hq)) hs (by rw[cellsF_len];show k*5+5≤L.length*5;omega) (by simp) (lcells_set hk) h
theorem LO.storeLt (z:Int) (hx:ev e x=some (.pointer (some (eaddr v (k*5+0))))) (hy:ev e y=some (.bool true)) (hz:(P.info? t).map (·.size)=some 1) (hs:Sel bx (.slice v el 5 (lcells L ms)) (.slice v el 5 (lcells (L.set k (some z)) ms)) bx') (hk:k < L.length)
  (h:K undef bx' F):LO P (.store t x y) ty e bx F K:=
 LO.storeO1 hx hy hz (One.lit rfl rfl) hs (by rw[cellsF_len];omega) (lcells_true hk z) h
theorem LO.storeBq (w:Int) (hx:ev e x=some (.pointer (some (eaddr v (k*6+2))))) (hy:ev e y=some (qv m)) (hr:Row P t 4) (hq:Has F (isQ (qv m) (wq D w))) (hs:Sel bx (.slice v el 6 (bcells bs ms)) (.slice v el 6 (bcells (bs.set k {bg bs k with w:=w}) (upd ms k m))) bx') (hk:k < bs.length)
  (h:K undef bx' F):LO P (.store t x y) ty e bx F K:=
 LO.storeOR (vs:=qcs m) hx hy hr (one_q hq) hs (by rw[cellsF_len];show k*6+2+4≤bs.length*6;omega) (by simp) (bcells_setq hk w) h
theorem LO.storeBf (hx:ev e x=some (.pointer (some (eaddr v (k*6+0))))) (hy:ev e y=some (.int .i64 z)) (hz:(P.info? t).map (·.size)=some 1) (hs:Sel bx (.slice v el 6 (bcells bs ms)) (.slice v el 6 (bcells (bs.set k {bg bs k with fr:=z}) ms)) bx') (hk:k < bs.length)
  (h:K undef bx' F):LO P (.store t x y) ty e bx F K:=
 LO.storeO1 hx hy hz (One.lit rfl rfl) hs (by rw[cellsF_len];omega) (bcells_setf hk z) h
theorem LO.storeBt (hx:ev e x=some (.pointer (some (eaddr v (k*6+1))))) (hy:ev e y=some (.int .i64 z)) (hz:(P.info? t).map (·.size)=some 1) (hs:Sel bx (.slice v el 6 (bcells bs ms)) (.slice v el 6 (bcells (bs.set k {bg bs k with to:=z}) ms)) bx') (hk:k < bs.length)
  (h:K undef bx' F):LO P (.store t x y) ty e bx F K:=
 LO.storeO1 hx hy hz (One.lit rfl rfl) hs (by rw[cellsF_len];omega) (bcells_sett hk z) h
theorem W.Has.mQset (h:Has F (mQ D ms qs)) (hm:Has F (isQ (qv m) (wq D z))):Has F (mQ D (upd ms k m) (qs.set k z)):=fun p hf i hi=>by
 rw[List.length_set] at hi
 by_cases c:i=k
 ·subst c;rw[upd_at];simpa [List.getD_eq_getElem?_getD,hi] using hm p hf
 ·rw[upd_ne c];have:=h p hf i hi
  simpa [List.getD_eq_getElem?_getD,List.getElem?_set_ne (Ne.symm c)] using this
theorem W.Has.mLset (h:Has F (mL D ms L)) (hm:Has F (isQ (qv m) (wq D z))):Has F (mL D (upd ms k m) (L.set k (some z))):=fun p hf i hi=>by
 rw[List.length_set] at hi
 by_cases c:i=k
 ·subst c;rw[upd_at];simpa [List.getD_eq_getElem?_getD,hi] using hm p hf
 ·rw[upd_ne c];have:=h p hf i hi
  simpa [List.getD_eq_getElem?_getD,List.getElem?_set_ne (Ne.symm c)] using this
theorem W.Has.mBapp (h:Has F (mB D ms bs)) (hm:Has F (isQ (qv m) (wq D b.w))):Has F (mB D (upd ms bs.length m) (bs++[b])):=fun p hf i hi=>by
 rw[List.length_append,List.length_singleton] at hi
 by_cases c:i=bs.length
 ·subst c;rw[upd_at];simpa [bg,List.getD_eq_getElem?_getD] using hm p hf
 ·rw[upd_ne c];have:=h p hf i (by omega)
  simpa [bg,List.getD_eq_getElem?_getD,List.getElem?_append_left (show i < bs.length by omega)] using this
theorem hasQ0w [Den D]:Has F (isQ (qv m00) (wq D 0)):=by rw[wq_zero];exact hasQ_0
theorem hasmQ0 [Den D] (n:Nat):Has F (mQ D (fun _=>m00) (List.replicate n 0)):=fun p hf i hi=>by
 rw[show(List.replicate n (0:Int)).getD i 0=0 by simp only[List.getD_eq_getElem?_getD,List.getElem?_replicate];split <;> rfl]
 exact hasQ0w p hf
theorem hasmL0 [Den D] (n:Nat):Has F (mL D (fun _=>m00) (List.replicate n none)):=fun p hf i hi=>by
 rw[show(List.replicate n (none:Option Int)).getD i none=none by simp only[List.getD_eq_getElem?_getD,List.getElem?_replicate];split <;> rfl]
 exact hasQ0w p hf
theorem HasB.fR (hb:Ow.slice v el 4 (qcells qs.length ms)∈bx) (hm:Has F (mQ D ms qs)):HasB bx F (fR D v ms qs):=fun fr w ho=>
 ⟨HasB.o hb (cellsF_len _ _) (by decide) (fun j hj=>cellsF_get hj) fr w ho,HasB.f hm fr w ho⟩
theorem HasB.fB (hb:Ow.slice v el 6 (bcells bs ms)∈bx) (hm:Has F (mB D ms bs)):HasB bx F (fB D v ms bs):=fun fr w ho=>
 ⟨HasB.o hb (cellsF_len _ _) (by decide) (fun j hj=>cellsF_get hj) fr w ho,HasB.f hm fr w ho⟩
theorem HasB.fL (hb:Ow.slice v el 5 (lcells L ms)∈bx) (hm:Has F (mL D ms L)):HasB bx F (fL D v ms L):=fun fr w ho=>
 ⟨HasB.o hb (cellsF_len _ _) (by decide) (fun j hj=>cellsF_get hj) fr w ho,HasB.f hm fr w ho⟩
section
variable {c:Code} {Q:Post} {n':Nat} {rest Lo:List Oper} {Q2:Env→List Ow→List Fct→Prop}
theorem okR {fr:PH} {w:World} (ho:OK fr bx F w) (hs:Sel bx (.slice v el 4 (qcells qs.length ms)) (.slice (.slice none 0 0) el 4 []) bx') (hm:Has F (mQ D ms qs)):OK fr bx' (fR D v ms qs::F) w:=by
 have h:=ho.freeze hs (cellsF_len _ _) (by decide) (qcell ms) fun j hj=>cellsF_get hj
 refine(h.add (f:=fR D v ms qs) ⟨h.facts _ (List.mem_cons_self ..),?_⟩).less fun f hf=>?_
 ·exact(show Has (slC v qs.length 4 (qcell ms)::F) (mQ D ms qs) from fun p hp=>hm p fun g hg=>hp g (List.mem_cons_of_mem _ hg)) _ h.facts
 ·rcases List.mem_cons.1 hf with rfl|hf
  ·exact List.mem_cons_self ..
  ·exact List.mem_cons_of_mem _ (List.mem_cons_of_mem _ hf)
theorem okB {fr:PH} {w:World} (ho:OK fr bx F w) (hs:Sel bx (.slice v el 6 (bcells bs ms)) (.slice (.slice none 0 0) el 6 []) bx') (hm:Has F (mB D ms bs)):OK fr bx' (fB D v ms bs::F) w:=by
 have h:=ho.freeze hs (cellsF_len _ _) (by decide) (bcell bs ms) fun j hj=>cellsF_get hj
 refine(h.add (f:=fB D v ms bs) ⟨h.facts _ (List.mem_cons_self ..),?_⟩).less fun f hf=>?_
 ·exact(show Has (slC v bs.length 6 (bcell bs ms)::F) (mB D ms bs) from fun p hp=>hm p fun g hg=>hp g (List.mem_cons_of_mem _ hg)) _ h.facts
 ·rcases List.mem_cons.1 hf with rfl|hf
  ·exact List.mem_cons_self ..
  ·exact List.mem_cons_of_mem _ (List.mem_cons_of_mem _ hf)
theorem okL {fr:PH} {w:World} (ho:OK fr bx F w) (hs:Sel bx (.slice v el 5 (lcells L ms)) (.slice (.slice none 0 0) el 5 []) bx') (hm:Has F (mL D ms L)):OK fr bx' (fL D v ms L::F) w:=by
 have h:=ho.freeze hs (cellsF_len _ _) (by decide) (lcell L ms) fun j hj=>cellsF_get hj
 refine(h.add (f:=fL D v ms L) ⟨h.facts _ (List.mem_cons_self ..),?_⟩).less fun f hf=>?_
 ·exact(show Has (slC v L.length 5 (lcell L ms)::F) (mL D ms L) from fun p hp=>hm p fun g hg=>hp g (List.mem_cons_of_mem _ hg)) _ h.facts
 ·rcases List.mem_cons.1 hf with rfl|hf
  ·exact List.mem_cons_self ..
  ·exact List.mem_cons_of_mem _ (List.mem_cons_of_mem _ hf)
theorem WC.freezeR (v:Value) (ms:Nat→QM) (qs:List Int) (hs:Sel bx (.slice v el 4 (qcells qs.length ms)) (.slice (.slice none 0 0) el 4 []) bx') (hm:Has F (mQ D ms qs)) (h:WC P n c e bx' (fR D v ms qs::F) Q):WC P n c e bx F Q:=fun fr w0 a w hk hr ho=>h fr w0 a w hk hr (okR ho hs hm)
theorem WL.freezeR (v:Value) (ms:Nat→QM) (qs:List Int) (hs:Sel bx (.slice v el 4 (qcells qs.length ms)) (.slice (.slice none 0 0) el 4 []) bx') (hm:Has F (mQ D ms qs)) (h:WL P n Lo rest e bx' (fR D v ms qs::F) Q2):WL P n Lo rest e bx F Q2:=fun fr w0 a w Q' hQ hk hr ho=>h fr w0 a w Q' hQ hk hr (okR ho hs hm)
theorem WC.freezeB (v:Value) (ms:Nat→QM) (bs:List Bd) (hs:Sel bx (.slice v el 6 (bcells bs ms)) (.slice (.slice none 0 0) el 6 []) bx') (hm:Has F (mB D ms bs)) (h:WC P n c e bx' (fB D v ms bs::F) Q):WC P n c e bx F Q:=fun fr w0 a w hk hr ho=>h fr w0 a w hk hr (okB ho hs hm)
theorem WL.freezeB (v:Value) (ms:Nat→QM) (bs:List Bd) (hs:Sel bx (.slice v el 6 (bcells bs ms)) (.slice (.slice none 0 0) el 6 []) bx') (hm:Has F (mB D ms bs)) (h:WL P n Lo rest e bx' (fB D v ms bs::F) Q2):WL P n Lo rest e bx F Q2:=fun fr w0 a w Q' hQ hk hr ho=>h fr w0 a w Q' hQ hk hr (okB ho hs hm)
theorem WC.freezeL (v:Value) (ms:Nat→QM) (L:List (Option Int)) (hs:Sel bx (.slice v el 5 (lcells L ms)) (.slice (.slice none 0 0) el 5 []) bx') (hm:Has F (mL D ms L)) (h:WC P n c e bx' (fL D v ms L::F) Q):WC P n c e bx F Q:=fun fr w0 a w hk hr ho=>h fr w0 a w hk hr (okL ho hs hm)
theorem WL.freezeL (v:Value) (ms:Nat→QM) (L:List (Option Int)) (hs:Sel bx (.slice v el 5 (lcells L ms)) (.slice (.slice none 0 0) el 5 []) bx') (hm:Has F (mL D ms L)) (h:WL P n Lo rest e bx' (fL D v ms L::F) Q2):WL P n Lo rest e bx F Q2:=fun fr w0 a w Q' hQ hk hr ho=>h fr w0 a w Q' hQ hk hr (okL ho hs hm)
end
theorem LO.makeLnB {i:Int} (hx:ev e x=some (.int .i64 i)) (hy:ev e y=some (.int .i64 i)) (hi:NatI i n) (hb:n≤1000000) (h:∀ v,K v (Ow.slice v 134 5 (lcells (List.replicate n none) (fun _=>m00))::bx) F):LO Tryz.prog (.makeSlice 131 x y) ty e bx F K:=by
 obtain rfl:=hi.eq
 exact LO.make T.e131 hx hy (by omega) (by omega) (made_l n) h
theorem YO.buildLn {a:Bool} (h1:ev e x=some (.bool a)) (h2:ev e y=some (qv m)):YO Tryz.prog (.build 134 #[(0,x),(1,y)]) ty e bx F (.agg #[.bool a,.bool m.1,m.2.1,.bool false,m.2.2]):=YO.build (parts:=[(0,x),(1,y)]) (.cons h1 (.cons h2 .nil)) fun w=>run_build w 134 _ _ (by kernel_rfl)
theorem YO.buildSy {i:Int} {a:Option Addr} {l c:Nat} (h1:ev e x=some (.int .i64 i)) (h2:ev e y=some (.slice a l c)):YO Tryz.prog (.build 123 #[(0,x),(1,y)]) ty e bx F (.agg #[.int .i64 i,.slice a l c]):=YO.build (parts:=[(0,x),(1,y)]) (.cons h1 (.cons h2 .nil)) fun w=>run_build w 123 _ _ (by kernel_rfl)
theorem YO.buildSys {i:Int} (h1:ev e x=some (.int .i64 i)) (h2:ev e y=some v) (kd:KnS bx F v n):YO Tryz.prog (.build 123 #[(0,x),(1,y)]) ty e bx F (.agg #[.int .i64 i,v]):=fun k fr ac w o hop hty hk ho=>by
 obtain⟨p1,q1,rfl,_⟩:=(kd fr w ho).is
 exact(YO.buildSy (bx:=bx) (F:=F) (ty:=ty) h1 h2) k fr ac w o hop hty hk ho
theorem one_qcells {fr:PH} {w:World} (ho:OK fr bx F w) (hm:Has F (mQ D ms qs)):∀ c∈qcells qs.length ms,c.oneCell'=true:=fun c hc=>by
 simp only[qcells,cellsF,List.mem_map,List.mem_range] at hc
 obtain⟨j,hj,rfl⟩:=hc
 have:=(one_q (m:=ms (j / 4)) (bx:=bx) (W.Has.qB hm (k:=j / 4) (by omega))).all ho
 unfold qcell
 have hr:=row_get (l:=qcs (ms (j / 4))) (r:=j % 4) (n:=4) rfl (by omega)
 exact this _ (List.mem_of_getElem? hr)
theorem one_bcells {fr:PH} {w:World} (ho:OK fr bx F w) (hm:Has F (mB D ms bs)):∀ c∈bcells bs ms,c.oneCell'=true:=fun c hc=>by
 simp only[bcells,cellsF,List.mem_map,List.mem_range] at hc
 obtain⟨j,hj,rfl⟩:=hc
 have:=(OneL.cons (One.lit rfl rfl) (.cons (One.lit rfl rfl) (one_q (m:=ms (j / 6)) (bx:=bx) (W.Has.b hm (k:=j / 6) (by omega)))):OneL bx F (bcs (bg bs (j / 6)) (ms (j / 6)))).all ho
 unfold bcell
 have hr:=row_get (l:=bcs (bg bs (j / 6)) (ms (j / 6))) (r:=j % 6) (n:=6) rfl (by omega)
 exact this _ (List.mem_of_getElem? hr)
theorem LO.bsB0 (h:∀ v,K v (Ow.slice v 77 6 []::bx) F):LO Tryz.prog (.buildSlice 72 0 #[]) ty e bx F K:=LO.buildSlice (parts:=[]) (us:=[]) (cs:=[]) .nil (fun _=>by kernel_rfl) rfl (by decide) h
theorem LO.bsB1 (hx:ev e x=some (bv b m)) (h:∀ v,K v (Ow.slice v 77 6 (bcs b m)::bx) F):LO Tryz.prog (.buildSlice 72 1 #[(0,x)]) ty e bx F K:=LO.buildSlice (parts:=[(0,x)]) (us:=[bv b m]) (cs:=bcs b m) (.cons hx .nil) (fun _=>by kernel_rfl) rfl (by decide) h
theorem LO.bsT1 {w:Value} {n:Nat} (hx:ev e x=some w) (kd:KnS bx F w n) (h:∀ v,K v (Ow.slice v 131 1 [w]::bx) F):LO Tryz.prog (.buildSlice 129 1 #[(0,x)]) ty e bx F K:=by
 refine LO.byP (p:=∃ a c,w=.slice a n c) (fun fr w ho=>by obtain⟨a,c,h1,_⟩:=(kd fr w ho).is;exact⟨a,c,h1⟩) ?_
 rintro⟨a,c,rfl⟩
 exact LO.buildSlice (parts:=[(0,x)]) (us:=[.slice a n c]) (cs:=[.slice a n c]) (.cons hx .nil) (fun _=>by kernel_rfl) rfl (by decide) h
section
variable {el':TypeId} {bx2:Value→List Ow}
theorem LO.appRo (hx:ev e x=some v) (hy:ev e y=some u) (hu:Ow.slice u el' 4 (qcells n ms)∈bx) (hm:Has F (mQ D ms qs)) (hn:n=qs.length) (hs:∀ v',Sel bx (.slice v 31 4 []) (.slice v' 31 4 (qcells n ms)) (bx2 v')) (hl:n≤1000000) (h:∀ v',K v' (bx2 v') F) :
  LO Tryz.prog (.call {callee:=.builtin .append,args:=#[x,y],argTypes:=#[24,24]}) ty e bx F K:=by
 subst hn
 refine LO.byP (fun fr w ho=>one_qcells ho hm) fun h1=>?_
 exact LO.append T.e24 hx hy (cs:=[]) (news:=qcells qs.length ms) hs (SrcE.own hu (cellsF_len _ _) (by decide)) h1 (by rw[cellsF_len,List.length_nil];omega) (by rw[cellsF_len,List.length_nil];omega) h
theorem LO.appBf (hx:ev e x=some v) (hy:ev e y=some u) (hu:Has F (fB D u ms bs)) (hs:∀ v',Sel bx (.slice v 77 6 []) (.slice v' 77 6 (bcells bs ms)) (bx2 v')) (hl:bs.length≤1000000) (h:∀ v',K v' (bx2 v') F) :
  LO Tryz.prog (.call {callee:=.builtin .append,args:=#[x,y],argTypes:=#[72,72]}) ty e bx F K:=by
 refine LO.byP (fun fr w ho=>one_bcells ho hu.bm) fun h1=>?_
 exact LO.append T.e72 hx hy (cs:=[]) (news:=bcells bs ms) hs (SrcE.fact hu.bsl) h1 (by rw[cellsF_len,List.length_nil];omega) (by rw[cellsF_len,List.length_nil];omega) h
theorem LO.appB1 (hx:ev e x=some v) (hy:ev e y=some u) (hu:Ow.slice u el' 6 (bcs b m)∈bx) (hm:Has F (isQ (qv m) q)) (hs:∀ v',Sel bx (.slice v 77 6 (bcells bs ms)) (.slice v' 77 6 (bcells (bs++[b]) (upd ms bs.length m))) (bx2 v')) (hl:bs.length≤1000000) (h:∀ v',K v' (bx2 v') F) :
  LO Tryz.prog (.call {callee:=.builtin .append,args:=#[x,y],argTypes:=#[72,72]}) ty e bx F K:=by
 refine LO.byP (fun fr w ho=>(OneL.cons (One.lit rfl rfl) (.cons (One.lit rfl rfl) (one_q (m:=m) (bx:=bx) hm)):OneL bx F (bcs b m)).all ho) fun h1=>?_
 exact LO.append T.e72 hx hy (news:=bcs b m) (by rw[bcells_app];exact hs) (SrcE.one hu rfl (by decide)) h1 (by rw[cellsF_len];show(bs.length*6+6)*80≤_;omega) (by rw[cellsF_len];show bs.length*6+6≤_;omega) h
theorem LO.appT1 {cs:List Value} {w:Value} (hx:ev e x=some v) (hy:ev e y=some u) (hu:Ow.slice u el' 1 [w]∈bx) (hm:One bx F w) (hs:∀ v',Sel bx (.slice v 131 1 cs) (.slice v' 131 1 (cs++[w])) (bx2 v')) (hl:cs.length≤1000000) (h:∀ v',K v' (bx2 v') F) :
  LO Tryz.prog (.call {callee:=.builtin .append,args:=#[x,y],argTypes:=#[129,129]}) ty e bx F K:=by
 refine LO.byP (fun fr w ho=>(hm fr w ho).2) fun h1=>?_
 exact LO.append T.e129 hx hy (news:=[w]) hs (SrcE.one hu rfl (by decide)) (by simpa using h1) (by show(cs.length+1)*24≤_;omega) (by show cs.length+1≤_;omega) h
end
namespace W
theorem ResE.c2 {fn:Func} {t s:Tmp} {ty:TypeId} {g tg m:Nat} {cs:List Value} (h:fn.results=#[.cell t ty,.tmp s]) (hl:look e t=some (.pointer (some ⟨g,0,none⟩))) (hb:Ow.cells g tg cs∈bx) (hr:Row P ty m) (hm:cs.length=m) (hl2:look e s=some u):ResE P fn e bx F (.tuple #[.agg cs.toArray,u]):=fun n fr a w hk ho=>by
 obtain⟨⟨d,hu,hd⟩,hi⟩:=hr
 have h1:a.tmps[t]?.getD undef=.pointer (some ⟨g,0,none⟩):=by rw[hk.at' _ _ hl];rfl
 have h2:=run_loadVar_mid (P:=P) w g 0 ty cs d (fun i v hv=>by rw[Nat.zero_add,own_cell (ho.owns _ hb)];exact hv) hu hd (by rw[hi];simp[hm])
 have h3:a.tmps[s]?.getD undef=u:=by rw[hk.at' _ _ hl2];rfl
 simp only[results,h]
 simp[h1,asAddr,h2,h3]
theorem ResE.c3 {fn:Func} {t s r:Tmp} {ty:TypeId} {g tg m:Nat} {cs:List Value} {u2:Value} (h:fn.results=#[.cell t ty,.tmp s,.tmp r]) (hl:look e t=some (.pointer (some ⟨g,0,none⟩))) (hb:Ow.cells g tg cs∈bx) (hr:Row P ty m) (hm:cs.length=m) (hl2:look e s=some u) (hl3:look e r=some u2):ResE P fn e bx F (.tuple #[.agg cs.toArray,u,u2]):=fun n fr a w hk ho=>by
 obtain⟨⟨d,hu,hd⟩,hi⟩:=hr
 have h1:a.tmps[t]?.getD undef=.pointer (some ⟨g,0,none⟩):=by rw[hk.at' _ _ hl];rfl
 have h2:=run_loadVar_mid (P:=P) w g 0 ty cs d (fun i v hv=>by rw[Nat.zero_add,own_cell (ho.owns _ hb)];exact hv) hu hd (by rw[hi];simp[hm])
 have h3:a.tmps[s]?.getD undef=u:=by rw[hk.at' _ _ hl2];rfl
 have h4:a.tmps[r]?.getD undef=u2:=by rw[hk.at' _ _ hl3];rfl
 simp only[results,h]
 simp[h1,asAddr,h2,h3,h4]
end W
end Go.Proofs.YtaongbhamadlkaaGreat
namespace Go.Proofs.YtaongbhamadlkaaGreat
namespace T
open W
theorem sc111:Scalar Tryz.prog 111:=Scalar.of (by kernel_rfl)
theorem al111:AllocT Tryz.prog 111 [.nilFunc]:=AllocT.of (z:=.nilFunc) (by kernel_rfl) (by kernel_rfl)
theorem z111:(Tryz.prog.info? 111).map (·.size)=some 1:=by kernel_rfl
theorem sc136:Scalar Tryz.prog 136:=Scalar.of (by kernel_rfl)
theorem al136:AllocT Tryz.prog 136 [.nilFunc]:=AllocT.of (z:=.nilFunc) (by kernel_rfl) (by kernel_rfl)
theorem z136:(Tryz.prog.info? 136).map (·.size)=some 1:=by kernel_rfl
theorem sc166:Scalar Tryz.prog 166:=Scalar.of (by kernel_rfl)
theorem al166:AllocT Tryz.prog 166 [.nilFunc]:=AllocT.of (z:=.nilFunc) (by kernel_rfl) (by kernel_rfl)
theorem z166:(Tryz.prog.info? 166).map (·.size)=some 1:=by kernel_rfl
theorem s168:SliceT Tryz.prog 168 129 1:=SliceT.of (by kernel_rfl)
theorem sc168:Scalar Tryz.prog 168:=Scalar.of (by kernel_rfl)
theorem al168:AllocT Tryz.prog 168 [.slice none 0 0]:=AllocT.of (z:=.slice none 0 0) (by kernel_rfl) (by kernel_rfl)
theorem e168:ElemT Tryz.prog 168 129 1 (.slice none 0 0) 24:=⟨by kernel_rfl,by kernel_rfl,by kernel_rfl,by decide⟩
theorem z168:(Tryz.prog.info? 168).map (·.size)=some 1:=by kernel_rfl
end T
end Go.Proofs.YtaongbhamadlkaaGreat
namespace Go.Proofs.YtaongbhamadlkaaGreat
open W Go.RowKit
attribute [local irreducible] WC WL WD YO LO LoopEnd W.Fin Scalar SliceT FieldAt Row ArrT AllocT KnS Has W.One SrcE IntT
namespace G
set_option maxRecDepth 60000
theorem t1A {G:Prop} (h:G:=by first|((first|exact Go.Proofs.YtaongbhamadlkaaGreat.t1A|exact T.al111|exact T.al136|exact T.al166|exact T.al168);done)|fail):G:=h
theorem t2A {G:Prop} (h:G:=by first|((first|exact Go.Proofs.YtaongbhamadlkaaGreat.t2A|exact T.sc111|exact T.sc136|exact T.sc166|exact T.sc168);done)|fail):G:=h
theorem t3A {G:Prop} (h:G:=by first|((first|exact Go.Proofs.YtaongbhamadlkaaGreat.t3A|exact T.z111|exact T.z136|exact T.z166|exact T.z168);done)|fail):G:=h
theorem t5A {G:Prop} (h:G:=by first|((first|exact Go.Proofs.YtaongbhamadlkaaGreat.t5A|exact T.e168);done)|fail):G:=h
theorem t6A {G:Prop} (h:G:=by first|((first|exact Go.Proofs.YtaongbhamadlkaaGreat.t6A|exact T.s168);done)|fail):G:=h
theorem knA {G:Prop} (h:G:=by first|((first|exact Go.Proofs.YtaongbhamadlkaaGreat.knA|(focus(apply KnS.fr;exact hmA;done))|(focus(apply KnS.fb;exact hmA;done))|(focus(apply KnS.fl;exact hmA;done))|(focus(apply KnS.oR;exact meA;done))|(focus(apply KnS.oB;exact meA;done))|(focus(apply KnS.oL;exact meA;done)));done)|fail):G:=h
theorem hsA {G:Prop} (h:G:=by first|((first|exact Go.Proofs.YtaongbhamadlkaaGreat.hsA|exact hasQ0w);done)|fail):G:=h
theorem y_indexAddr {G:Prop} (h:G:=by first|((first|exact Go.Proofs.YtaongbhamadlkaaGreat.y_indexAddr|(apply YO.ix1;exact t6A;exact rfl;exact rfl;exact knA;(first|omega|(simp only[List.length_set,List.length_replicate];omega)))|(apply YO.ix;exact t6A;exact rfl;exact rfl;exact knA;(first|omega|(simp only[List.length_set,List.length_replicate];omega)))|(apply YO.ix1';exact t6A;exact rfl;exact rfl;exact knA;omega;(first|omega|(simp only[List.length_set,List.length_replicate];omega))));done)|fail):G:=h
theorem y_load {G:Prop} (h:G:=by first|(((first|(apply YO.ldW;exact t4A;exact rfl;exact meA;exact rfl)|(apply YO.ld42;exact t4A;exact rfl;exact meA)|(apply YO.ld40;exact t4A;exact rfl;exact meA)|(apply YO.ld62;exact t4A;exact rfl;exact meA)|(apply YO.ld51;exact t4A;exact rfl;exact meA)|(apply YO.ldR;exact t4A;exact rfl;exact hmA;omega)|(apply YO.ldBd;exact t4A;exact rfl;exact hmA;omega)|(apply YO.ldBq;exact t4A;exact rfl;exact hmA;omega)|(apply YO.ldBf;exact t2A;exact rfl;exact hmA;omega)|(apply YO.ldBt;exact t2A;exact rfl;exact hmA;omega)|(apply YO.ldLn;exact t4A;exact rfl;exact hmA;omega)|(apply YO.ldLb;exact t2A;exact rfl;exact hmA;omega)|(apply YO.ldLq;exact t4A;exact rfl;exact hmA;omega)|(apply YO.ldWf;exact t4A;exact rfl;exact hmA;exact rfl)|(apply YO.ldOR;exact t4A;exact rfl;exact meA;omega)|(apply YO.ldOBd;exact t4A;exact rfl;exact meA;omega)|(apply YO.ldOBq;exact t4A;exact rfl;exact meA;omega)|(apply YO.ldOL;exact t4A;exact rfl;exact meA;omega)|(apply YO.ldWI0;exact t4A;exact rfl;exact meA;(first|omega|(simp only[List.length_set,List.length_replicate];omega)))|(apply YO.ldWF0;exact t4A;exact rfl;exact hmA;(first|omega|(simp only[List.length_set,List.length_replicate];omega)))|(apply YO.ldCI;exact t2A;exact rfl;exact meA;(first|omega|(simp only[List.length_set,List.length_replicate];omega)))|(apply YO.ldFI;exact t2A;exact rfl;exact hmA;(first|omega|(simp only[List.length_set,List.length_replicate];omega)))|(apply YO.ldF;exact t2A;exact rfl;exact hmA;exact rfl)|(apply YO.ldS;exact t2A;exact rfl;exact hsA;omega)|(apply YO.ldB;exact t2A;exact rfl;exact meA;exact rfl)|(apply YO.ldOI;exact t2A;exact rfl;exact meA;(first|omega|(simp only[List.length_set,List.length_replicate];omega)))));done)|fail):G:=h
theorem y_build {G:Prop} (h:G:=by first|((first|exact Go.Proofs.YtaongbhamadlkaaGreat.y_build|(apply YO.buildLn;exact rfl;exact rfl)|(apply YO.buildSys;exact rfl;exact rfl;exact knA));done)|fail):G:=h
theorem go {G G':Prop} (h:G') (s:Bx G'→G:=by
 intro h
 (first
  |refine Go.Proofs.YtaongbhamadlkaaGreat.go ?_
  |(apply WL.kl_store;rotate_left;exact rfl;(first|(apply LO.storeOI;exact rfl;exact rfl;exact t3A;exact seA;(first|omega|(simp only[List.length_set];omega)))|(apply LO.storeQ;exact rfl;exact rfl;exact t4A;exact hmA;exact seA;omega)|(apply LO.storeL1;exact rfl;exact rfl;exact t4A;exact hmA;exact seA;omega)|(apply LO.storeI;exact rfl;exact rfl;exact t3A;exact seA;(first|omega|(simp only[List.length_set,List.length_replicate];omega)))|(apply LO.storeWI;exact rfl;exact rfl;exact seA;exact t4A;(first|omega|(simp only[List.length_set,List.length_replicate];omega));(first|(simp only[List.length_map,List.length_set,List.length_replicate,ints];omega)|rfl))|(apply LO.store1;exact rfl;exact rfl;exact t3A;(first|exact One.lit rfl rfl|(apply One.sl;exact knA));exact seA;(first|(simp only[List.length_cons,List.length_nil];omega)|(simp;omega));(first|(simp only[List.set_cons_succ,List.set_cons_zero];exact rfl)|exact rfl))|(apply LO.storeO1;exact rfl;exact rfl;exact t3A;(first|exact One.lit rfl rfl|(apply One.sl;exact knA));exact seA;(first|(simp only[List.length_cons,List.length_nil];omega)|(simp;omega));(first|(simp only[List.set_cons_succ,List.set_cons_zero];exact rfl)|exact rfl))|(apply LO.storeL;exact rfl;exact rfl;exact seA;exact t4A;exact rfl;exact rfl;(repeat(first|exact OneL.nil|(apply OneL.cons;(first|exact One.lit rfl rfl|(apply One.sl;exact knA))))))))
  |fail)
 exact Bx.h h):G:=s ⟨h⟩
theorem goD {G G':Prop} (h:G') (s:Bx G'→G:=by
 intro h
 (first
  |refine Go.Proofs.YtaongbhamadlkaaGreat.goD ?_
  |(apply WD.kl_store;exact rfl;rotate_left;exact rfl;(first|(apply LO.storeOI;exact rfl;exact rfl;exact t3A;exact seA;(first|omega|(simp only[List.length_set];omega)))|(apply LO.storeQ;exact rfl;exact rfl;exact t4A;exact hmA;exact seA;omega)|(apply LO.storeL1;exact rfl;exact rfl;exact t4A;exact hmA;exact seA;omega)|(apply LO.storeI;exact rfl;exact rfl;exact t3A;exact seA;(first|omega|(simp only[List.length_set,List.length_replicate];omega)))|(apply LO.storeWI;exact rfl;exact rfl;exact seA;exact t4A;(first|omega|(simp only[List.length_set,List.length_replicate];omega));(first|(simp only[List.length_map,List.length_set,List.length_replicate,ints];omega)|rfl))|(apply LO.store1;exact rfl;exact rfl;exact t3A;(first|exact One.lit rfl rfl|(apply One.sl;exact knA));exact seA;(first|(simp only[List.length_cons,List.length_nil];omega)|(simp;omega));(first|(simp only[List.set_cons_succ,List.set_cons_zero];exact rfl)|exact rfl))|(apply LO.storeO1;exact rfl;exact rfl;exact t3A;(first|exact One.lit rfl rfl|(apply One.sl;exact knA));exact seA;(first|(simp only[List.length_cons,List.length_nil];omega)|(simp;omega));(first|(simp only[List.set_cons_succ,List.set_cons_zero];exact rfl)|exact rfl))|(apply LO.storeL;exact rfl;exact rfl;exact seA;exact t4A;exact rfl;exact rfl;(repeat(first|exact OneL.nil|(apply OneL.cons;(first|exact One.lit rfl rfl|(apply One.sl;exact knA)))))));constructor;exact ltA)
  |fail)
 exact Bx.h h):G:=s ⟨h⟩
theorem goV {G G':Prop} (h:G') (s:Bx G'→G:=by
 intro h
 (first
  |(apply WL.kl_ms;rotate_left;exact rfl;exact rfl;(apply LO.makeI;exact rfl;exact rfl;(repeat(first|(with_reducible apply NatI.add)|(with_reducible exact NatI.one)|exact NatI.cast _));omega))
  |(apply WL.kl_ms;rotate_left;exact rfl;exact rfl;(apply LO.makeR;exact rfl;exact rfl;(repeat(first|(with_reducible apply NatI.add)|(with_reducible exact NatI.one)|exact NatI.cast _));omega))
  |(apply WL.kl_ms;rotate_left;exact rfl;exact rfl;(apply LO.makeLnB;exact rfl;exact rfl;(repeat(first|(with_reducible apply NatI.add)|(with_reducible exact NatI.one)|exact NatI.cast _));omega))
  |(apply WL.kl_bs;rotate_left;exact rfl;exact rfl;(apply LO.bsR0))
  |(apply WL.kl_bs;rotate_left;exact rfl;exact rfl;(apply LO.bsB0))
  |(apply WL.kl_bs;rotate_left;exact rfl;exact rfl;(apply LO.bsR1;exact rfl))
  |(apply WL.kl_bs;rotate_left;exact rfl;exact rfl;(apply LO.bsB1;exact rfl))
  |(apply WL.kl_bs;rotate_left;exact rfl;exact rfl;(apply LO.bsT1;exact rfl;exact knA))
  |(apply WL.kl_app;rotate_left;exact rfl;exact rfl;(apply LO.appRo;exact rfl;exact rfl;exact meA;exact hmA;omega;(intro _;exact seA);omega))
  |(apply WL.kl_app;rotate_left;exact rfl;exact rfl;(apply LO.appBf;exact rfl;exact rfl;exact hmA;(intro _;exact seA);omega))
  |(apply WL.kl_app;rotate_left;exact rfl;exact rfl;(apply LO.appR1;exact rfl;exact rfl;exact meA;exact hmA;(intro _;exact seA);omega))
  |(apply WL.kl_app;rotate_left;exact rfl;exact rfl;(apply LO.appB1;exact rfl;exact rfl;exact meA;exact hmA;(intro _;exact seA);omega))
  |(apply WL.kl_app;rotate_left;exact rfl;exact rfl;(apply LO.appT1;exact rfl;exact rfl;exact meA;(first|exact One.lit rfl rfl|(apply One.sl;exact knA));(intro _;exact seA);(simp only[List.length_append,List.length_cons,List.length_nil,List.length_map,List.length_range];omega)))
  |(apply WL.kl_bs;rotate_left;exact rfl;exact rfl;apply LO.bs1;exact t6A;(repeat(first|exact EvP.nil|(apply EvP.cons;exact rfl)));(intro _;kernel_rfl);exact rfl;omega)
  |(apply WL.kl_app;rotate_left;exact rfl;exact rfl;apply LO.app;exact t5A;exact rfl;exact rfl;(first|(focus(apply SrcE.ints;exact hmA;done))|(focus(apply SrcE.own1;exact meA;done))|(focus(apply SrcE.one;exact meA;exact rfl;decide;done)));(intro v;exact seA);exact onA;exact leA;exact leA))
 exact Bx.h h):G:=s ⟨h⟩
theorem goDV {G G':Prop} (h:G') (s:Bx G'→G:=by
 intro h
 (first
  |(apply WD.kl_ms;exact rfl;rotate_left;exact rfl;exact rfl;(apply LO.makeI;exact rfl;exact rfl;(repeat(first|(with_reducible apply NatI.add)|(with_reducible exact NatI.one)|exact NatI.cast _));omega);apply allAnd;(intro _;exact ltA))
  |(apply WD.kl_ms;exact rfl;rotate_left;exact rfl;exact rfl;(apply LO.makeR;exact rfl;exact rfl;(repeat(first|(with_reducible apply NatI.add)|(with_reducible exact NatI.one)|exact NatI.cast _));omega);apply allAnd;(intro _;exact ltA))
  |(apply WD.kl_ms;exact rfl;rotate_left;exact rfl;exact rfl;(apply LO.makeLnB;exact rfl;exact rfl;(repeat(first|(with_reducible apply NatI.add)|(with_reducible exact NatI.one)|exact NatI.cast _));omega);apply allAnd;(intro _;exact ltA))
  |(apply WD.kl_bs;exact rfl;rotate_left;exact rfl;exact rfl;(apply LO.bsR0);apply allAnd;(intro _;exact ltA))
  |(apply WD.kl_bs;exact rfl;rotate_left;exact rfl;exact rfl;(apply LO.bsB0);apply allAnd;(intro _;exact ltA))
  |(apply WD.kl_bs;exact rfl;rotate_left;exact rfl;exact rfl;(apply LO.bsR1;exact rfl);apply allAnd;(intro _;exact ltA))
  |(apply WD.kl_bs;exact rfl;rotate_left;exact rfl;exact rfl;(apply LO.bsB1;exact rfl);apply allAnd;(intro _;exact ltA))
  |(apply WD.kl_bs;exact rfl;rotate_left;exact rfl;exact rfl;(apply LO.bsT1;exact rfl;exact knA);apply allAnd;(intro _;exact ltA))
  |(apply WD.kl_app;exact rfl;rotate_left;exact rfl;exact rfl;(apply LO.appRo;exact rfl;exact rfl;exact meA;exact hmA;omega;(intro _;exact seA);omega);apply allAnd;(intro _;exact ltA))
  |(apply WD.kl_app;exact rfl;rotate_left;exact rfl;exact rfl;(apply LO.appBf;exact rfl;exact rfl;exact hmA;(intro _;exact seA);omega);apply allAnd;(intro _;exact ltA))
  |(apply WD.kl_app;exact rfl;rotate_left;exact rfl;exact rfl;(apply LO.appR1;exact rfl;exact rfl;exact meA;exact hmA;(intro _;exact seA);omega);apply allAnd;(intro _;exact ltA))
  |(apply WD.kl_app;exact rfl;rotate_left;exact rfl;exact rfl;(apply LO.appB1;exact rfl;exact rfl;exact meA;exact hmA;(intro _;exact seA);omega);apply allAnd;(intro _;exact ltA))
  |(apply WD.kl_app;exact rfl;rotate_left;exact rfl;exact rfl;(apply LO.appT1;exact rfl;exact rfl;exact meA;(first|exact One.lit rfl rfl|(apply One.sl;exact knA));(intro _;exact seA);(simp only[List.length_append,List.length_cons,List.length_nil,List.length_map,List.length_range];omega));apply allAnd;(intro _;exact ltA))
  |(apply WD.kl_bs;exact rfl;rotate_left;exact rfl;exact rfl;apply LO.bs1;exact t6A;(repeat(first|exact EvP.nil|(apply EvP.cons;exact rfl)));(intro _;kernel_rfl);exact rfl;omega;apply allAnd;(intro _;exact ltA))
  |(apply WD.kl_app;exact rfl;rotate_left;exact rfl;exact rfl;apply LO.app;exact t5A;exact rfl;exact rfl;(first|(focus(apply SrcE.ints;exact hmA;done))|(focus(apply SrcE.own1;exact meA;done))|(focus(apply SrcE.one;exact meA;exact rfl;decide;done)));(intro v;exact seA);exact onA;exact leA;exact leA;apply allAnd;(intro _;exact ltA)))
 exact Bx.h h):G:=s ⟨h⟩
theorem goLV {G G':Prop} (h:G') (s:Bx G'→G:=by
 intro h
 (first
  |refine Go.Proofs.YtaongbhamadlkaaGreat.goLV ?_
  |((apply LO.makeR;exact rfl;exact rfl;(repeat(first|(with_reducible apply NatI.add)|(with_reducible exact NatI.one)|exact NatI.cast _));omega);apply allAnd;(intro _;exact ltA))
  |((apply LO.makeLnB;exact rfl;exact rfl;(repeat(first|(with_reducible apply NatI.add)|(with_reducible exact NatI.one)|exact NatI.cast _));omega);apply allAnd;(intro _;exact ltA))
  |((apply LO.bsR0);apply allAnd;(intro _;exact ltA))
  |((apply LO.bsB0);apply allAnd;(intro _;exact ltA))
  |((apply LO.bsR1;exact rfl);apply allAnd;(intro _;exact ltA))
  |((apply LO.bsB1;exact rfl);apply allAnd;(intro _;exact ltA))
  |((apply LO.bsT1;exact rfl;exact knA);apply allAnd;(intro _;exact ltA))
  |((apply LO.appRo;exact rfl;exact rfl;exact meA;exact hmA;omega;(intro _;exact seA);omega);apply allAnd;(intro _;exact ltA))
  |((apply LO.appBf;exact rfl;exact rfl;exact hmA;(intro _;exact seA);omega);apply allAnd;(intro _;exact ltA))
  |((apply LO.appR1;exact rfl;exact rfl;exact meA;exact hmA;(intro _;exact seA);omega);apply allAnd;(intro _;exact ltA))
  |((apply LO.appB1;exact rfl;exact rfl;exact meA;exact hmA;(intro _;exact seA);omega);apply allAnd;(intro _;exact ltA))
  |((apply LO.appT1;exact rfl;exact rfl;exact meA;(first|exact One.lit rfl rfl|(apply One.sl;exact knA));(intro _;exact seA);(simp only[List.length_append,List.length_cons,List.length_nil,List.length_map,List.length_range];omega));apply allAnd;(intro _;exact ltA))
  |fail)
 exact Bx.h h):G:=s ⟨h⟩
theorem goLS {G G':Prop} (h:G') (s:Bx G'→G:=by
 intro h
 (first
  |((first|(apply LO.storeOI;exact rfl;exact rfl;exact t3A;exact seA;(first|omega|(simp only[List.length_set];omega)))|(apply LO.storeQ;exact rfl;exact rfl;exact t4A;exact hmA;exact seA;omega)|(apply LO.storeL1;exact rfl;exact rfl;exact t4A;exact hmA;exact seA;omega)|(apply LO.storeI;exact rfl;exact rfl;exact t3A;exact seA;(first|omega|(simp only[List.length_set,List.length_replicate];omega)))|(apply LO.storeWI;exact rfl;exact rfl;exact seA;exact t4A;(first|omega|(simp only[List.length_set,List.length_replicate];omega));(first|(simp only[List.length_map,List.length_set,List.length_replicate,ints];omega)|rfl))|(apply LO.store1;exact rfl;exact rfl;exact t3A;(first|exact One.lit rfl rfl|(apply One.sl;exact knA));exact seA;(first|(simp only[List.length_cons,List.length_nil];omega)|(simp;omega));(first|(simp only[List.set_cons_succ,List.set_cons_zero];exact rfl)|exact rfl))|(apply LO.storeO1;exact rfl;exact rfl;exact t3A;(first|exact One.lit rfl rfl|(apply One.sl;exact knA));exact seA;(first|(simp only[List.length_cons,List.length_nil];omega)|(simp;omega));(first|(simp only[List.set_cons_succ,List.set_cons_zero];exact rfl)|exact rfl))|(apply LO.storeL;exact rfl;exact rfl;exact seA;exact t4A;exact rfl;exact rfl;(repeat(first|exact OneL.nil|(apply OneL.cons;(first|exact One.lit rfl rfl|(apply One.sl;exact knA)))))));constructor;exact ltA))
 exact Bx.h h):G:=s ⟨h⟩
section
variable {P:Program} {n:Nat} {L rest:List Oper} {e:Env} {bx b0:List Ow} {F F0:List Fct} {Q:Env→List Ow→List Fct→Prop} {d i:Nat} {ty:TypeId} {pos:String} {af:Array Edge} {g:Option (Nat×Bool)} {hs:List Nat} {r:Plan}
 {f:FuncId} {x:Operand} {args:List Operand} {ats:Array TypeId} {vs cs:List Value} {F':List Fct} {u:Value} {el sz:Nat}
theorem WL.callV (hf:FnB P f vs [] F' (IsV u)) (hK:WL P n L rest ((d,u)::e) bx F Q) (hx:ev e x=some (.func (.func f) #[] #[]):=by exact rfl) (hv:Evs e args vs:=by repeat(first|exact Evs.nil|(apply Evs.cons;exact rfl))) (hF:HasAllB bx F F':=by repeat(first|exact HasAllB.nil|(apply HasAllB.cons;(first|(focus(apply HasB.oI;exact meA;done))|(focus(apply HasB.c;exact meA;done))|(focus(apply HasB.f;exact hsA;done))|(focus(apply HasB.fR;exact meA;exact hmA;done))|(focus(apply HasB.fB;exact meA;exact hmA;done))|(focus(apply HasB.fL;exact meA;exact hmA;done))|(focus(apply HasB.and;(focus(apply HasB.c;exact meA;done));(focus(apply HasB.c;exact meA;done));done))))))
  (hd:Nat.blt d n=true:=by exact rfl) (hg:gok L e g=some true:=by exact rfl):WL P n L (⟨some d,.call {callee:=.value x,args:=args.toArray,argTypes:=ats},ty,pos,af,g⟩::rest) e bx F Q:=
 WL.l hd hg (LO.callRV hx hv hf hF hK)
theorem WL.callO (hf:FnB P f vs [] F' (IsO el sz cs)) (hK:∀ v,WL P n L rest ((d,v)::e) (Ow.slice v el sz cs::bx) F Q) (hx:ev e x=some (.func (.func f) #[] #[]):=by exact rfl) (hv:Evs e args vs:=by repeat(first|exact Evs.nil|(apply Evs.cons;exact rfl))) (hF:HasAllB bx F F':=by repeat(first|exact HasAllB.nil|(apply HasAllB.cons;(first|(focus(apply HasB.oI;exact meA;done))|(focus(apply HasB.c;exact meA;done))|(focus(apply HasB.f;exact hsA;done))|(focus(apply HasB.fR;exact meA;exact hmA;done))|(focus(apply HasB.fB;exact meA;exact hmA;done))|(focus(apply HasB.fL;exact meA;exact hmA;done))|(focus(apply HasB.and;(focus(apply HasB.c;exact meA;done));(focus(apply HasB.c;exact meA;done));done))))))
  (hd:Nat.blt d n=true:=by exact rfl) (hg:gok L e g=some true:=by exact rfl):WL P n L (⟨some d,.call {callee:=.value x,args:=args.toArray,argTypes:=ats},ty,pos,af,g⟩::rest) e bx F Q:=
 WL.l hd hg (LO.callRO hx hv hf hF hK)
theorem WL.callF {R:RPost} (first cap:List Value) (hf:FnB P f (first++vs++cap) [] F' R) (hK:∀ v b G,R v b G→WL P n L rest ((d,v)::e) (b++bx) F Q) (hx:ev e x=some (.func (.func f) first.toArray cap.toArray):=by exact rfl) (hv:Evs e args vs:=by repeat(first|exact Evs.nil|(apply Evs.cons;exact rfl))) (hF:HasAllB bx F F':=by repeat(first|exact HasAllB.nil|(apply HasAllB.cons;(first|(focus(apply HasB.oI;exact meA;done))|(focus(apply HasB.c;exact meA;done))|(focus(apply HasB.f;exact hsA;done))|(focus(apply HasB.fR;exact meA;exact hmA;done))|(focus(apply HasB.fB;exact meA;exact hmA;done))|(focus(apply HasB.fL;exact meA;exact hmA;done))|(focus(apply HasB.and;(focus(apply HasB.c;exact meA;done));(focus(apply HasB.c;exact meA;done));done))))))
  (hd:Nat.blt d n=true:=by exact rfl) (hg:gok L e g=some true:=by exact rfl):WL P n L (⟨some d,.call {callee:=.value x,args:=args.toArray,argTypes:=ats},ty,pos,af,g⟩::rest) e bx F Q:=
 WL.l hd hg (LO.callR hx hv hf hF hK)
theorem WD.callV (hf:FnB P f vs [] F' (IsV u)) (hK:WD P n L hs b0 F0 r ((d,u)::e) bx F Q) (hL:L[i]?=some ⟨some d,.call {callee:=.value x,args:=args.toArray,argTypes:=ats},ty,pos,af,g⟩:=by exact rfl) (hx:ev e x=some (.func (.func f) #[] #[]):=by exact rfl) (hv:Evs e args vs:=by repeat(first|exact Evs.nil|(apply Evs.cons;exact rfl))) (hF:HasAllB bx F F':=by repeat(first|exact HasAllB.nil|(apply HasAllB.cons;(first|(focus(apply HasB.oI;exact meA;done))|(focus(apply HasB.c;exact meA;done))|(focus(apply HasB.f;exact hsA;done))|(focus(apply HasB.fR;exact meA;exact hmA;done))|(focus(apply HasB.fB;exact meA;exact hmA;done))|(focus(apply HasB.fL;exact meA;exact hmA;done))|(focus(apply HasB.and;(focus(apply HasB.c;exact meA;done));(focus(apply HasB.c;exact meA;done));done))))))
  (hd:Nat.blt d n=true:=by exact rfl) (hg:gok L e g=some true:=by exact rfl) (lt:lateB L hs i=true∨(b0.Sublist bx∧∀ f∈F0,f∈F):=by exact ltA):WD P n L hs b0 F0 (.loud i r) e bx F Q:=
 WD.l hL hd hg (LO.callRV hx hv hf hF ⟨lt,hK⟩)
theorem WD.callO (hf:FnB P f vs [] F' (IsO el sz cs)) (hK:∀ v,WD P n L hs b0 F0 r ((d,v)::e) (Ow.slice v el sz cs::bx) F Q) (hL:L[i]?=some ⟨some d,.call {callee:=.value x,args:=args.toArray,argTypes:=ats},ty,pos,af,g⟩:=by exact rfl) (hx:ev e x=some (.func (.func f) #[] #[]):=by exact rfl) (hv:Evs e args vs:=by repeat(first|exact Evs.nil|(apply Evs.cons;exact rfl))) (hF:HasAllB bx F F':=by repeat(first|exact HasAllB.nil|(apply HasAllB.cons;(first|(focus(apply HasB.oI;exact meA;done))|(focus(apply HasB.c;exact meA;done))|(focus(apply HasB.f;exact hsA;done))|(focus(apply HasB.fR;exact meA;exact hmA;done))|(focus(apply HasB.fB;exact meA;exact hmA;done))|(focus(apply HasB.fL;exact meA;exact hmA;done))|(focus(apply HasB.and;(focus(apply HasB.c;exact meA;done));(focus(apply HasB.c;exact meA;done));done))))))
  (hd:Nat.blt d n=true:=by exact rfl) (hg:gok L e g=some true:=by exact rfl) (lt:lateB L hs i=true∨(b0.Sublist bx∧∀ f∈F0,f∈F):=by exact ltA):WD P n L hs b0 F0 (.loud i r) e bx F Q:=
 WD.l hL hd hg (LO.callRO hx hv hf hF fun v=>⟨lt.imp id fun h=>⟨h.1.trans (List.sublist_cons_self _ _),h.2⟩,hK v⟩)
end
end G
end Go.Proofs.YtaongbhamadlkaaGreat
namespace Go.Proofs.YtaongbhamadlkaaGreat
open W Go.RowKit
def IsW (D:Nat) (k:Int):RPost:=fun v b G=>∃ m:QM,v=qv m∧b=[]∧G=[isQ (qv m) (wq D k)]
theorem isW_of {P:Program} {f:FuncId} {ag:List Value} {bx:List Ow} {F:List Fct} {D:Nat} {k:Int} {q:Rat} (h:FnB P f ag bx F (IsQ q)) (hq:q=wq D k):FnB P f ag bx F (IsW D k):=
 h.mono fun v b G ⟨nb,d1,d2,h1,h2,h3,h4⟩=>⟨(nb,d1,d2),h1,h3,by rw[h4,hq]⟩
section
variable (D:Nat) [Den D] (m1 m2:QM) (a b:Int)
theorem addw_c (ha:Lim a) (hb:Lim b):FnB Tryz.prog 32 [qv m1,qv m2] [] [isQ (qv m1) (wq D a),isQ (qv m2) (wq D b)] (IsW D (a+b)):=isW_of (Rta.add_c _ _ _ _ (wq_Sm ha) (wq_Sm hb)) (wq_add a b)
theorem subw_c (ha:Lim a) (hb:Lim b):FnB Tryz.prog 39 [qv m1,qv m2] [] [isQ (qv m1) (wq D a),isQ (qv m2) (wq D b)] (IsW D (a - b)):=isW_of (Rtc.sub_c _ _ _ _ (wq_Sm ha) (wq_Sm hb)) (wq_sub a b)
theorem cmpw_c (ha:Lim a) (hb:Lim b):FnB Tryz.prog 33 [qv m1,qv m2] [] [isQ (qv m1) (wq D a),isQ (qv m2) (wq D b)] (IsV (.int .i64 (cmpI a b))):=by
 rw[←wq_cmp (D:=D)];exact Rtc.qcompare_c _ _ _ _ (wq_Sm ha) (wq_Sm hb)
theorem signw_c:FnB Tryz.prog 49 [qv m1] [] [isQ (qv m1) (wq D a)] (IsV (.int .i64 (sgn a))):=by
 rw[←wq_sgn (D:=D)];exact Rta.sign_c _ _
theorem samew_c:FnB Tryz.prog 16 [qv m1,qv m2] [] [isQ (qv m1) (wq D a),isQ (qv m2) (wq D b)] (IsV (.bool (decide (a=b)))):=by
 have:=Rtc.same_c (qv m1) (qv m2) (wq D a) (wq D b)
 rwa [show decide (wq D a=wq D b)=decide (a=b) from decide_eq_decide.2 wq_inj] at this
theorem rsamew_c:FnB Tryz.prog 68 [qv m1,qv m2] [] [isQ (qv m1) (wq D a),isQ (qv m2) (wq D b)] (IsV (.bool (decide (a=b)))):=by
 have:=Rp.rqsame_c (qv m1) (qv m2) (wq D a) (wq D b)
 rwa [show decide (wq D a=wq D b)=decide (a=b) from decide_eq_decide.2 wq_inj] at this
theorem rofw_c (p q:Int) (k:Nat) (h:(D:Int)=q*k) (hq:q≠0) (h1:p.natAbs < B2) (h2:q.natAbs < B2):FnB Tryz.prog 30 [.int .i64 p,.int .i64 q] [] [] (IsW D (p*k)):=isW_of (Rp.rqof_c p q h1 h2) (wq_of h hq)
end
end Go.Proofs.YtaongbhamadlkaaGreat
namespace Go.Proofs.YtaongbhamadlkaaGreat
open W Go.RowKit
theorem validB_t {n:Int} {bs:List Bd} (h1:1≤n) (h2:n≤32) (h3:bs.length≤2048) (h:∀ i,i < bs.length→(bg bs i).ok n):validB n bs=true:=decide_eq_true ⟨⟨h1,h2⟩,h3,h⟩
theorem validB_f {n:Int} {bs:List Bd} (h:¬((1≤n∧n≤32)∧bs.length≤2048)):validB n bs=false:=decide_eq_false fun c=>h ⟨c.1,c.2.1⟩
theorem validB_fi {n:Int} {bs:List Bd} {i:Nat} (hi:i < bs.length) (h:¬(bg bs i).ok n):validB n bs=false:=decide_eq_false fun c=>h (c.2.2 i hi)
structure Vld (n:Nat) (bs:List Bd):Prop where
 n1:1≤n
 n2:n≤32
 l:bs.length≤2048
 ok:∀ i,i < bs.length→(bg bs i).ok n
theorem Vld.of {n:Int} {bs:List Bd} (h:validB n bs=true):∃ m:Nat,n=m∧Vld m bs:=by
 obtain⟨⟨h1,h2⟩,h3,h4⟩:=of_decide_eq_true h
 refine⟨n.toNat,by omega,⟨by omega,by omega,h3,fun i hi=>?_⟩⟩
 rw[show((n.toNat:Nat):Int)=n by omega];exact h4 i hi
def lenP (bs:List Bd) (l:List Int):Int:=(l.map fun i=>(bg bs i.toNat).w).sum
theorem lenP_snoc (bs:List Bd) (l:List Int) (i:Int):lenP bs (l++[i])=lenP bs l+(bg bs i.toNat).w:=by simp[lenP]
def absS (bs:List Bd):Nat:=(bs.map fun b=>b.w.natAbs).sum
theorem absS_le {bs:List Bd} {i:Nat}:(bg bs i).w.natAbs≤absS bs:=by
 unfold absS bg
 induction bs generalizing i with
 |nil=>simp[bd0]
 |cons b bs ih=>
  cases i with
  |zero=>simp
  |succ i=>have:=@ih i;simp at this ⊢;omega
theorem lenP_le {bs:List Bd} (l:List Int):(lenP bs l).natAbs≤l.length*absS bs:=by
 induction l with
 |nil=>simp[lenP]
 |cons i l ih=>
  have h1:=@absS_le bs i.toNat
  have h2:lenP bs (i::l)=(bg bs i.toNat).w+lenP bs l:=by simp[lenP]
  rw[h2,List.length_cons,Nat.add_mul]
  omega
def Sol (bs:List Bd) (x:List Int):Prop:=∀ i,i < bs.length→x.getD (bg bs i).to.toNat 0≤x.getD (bg bs i).fr.toNat 0+(bg bs i).w
instance (bs:List Bd) (x:List Int):Decidable (Sol bs x):=by unfold Sol;infer_instance
end Go.Proofs.YtaongbhamadlkaaGreat
namespace Go.Proofs.YtaongbhamadlkaaGreat
open W Go.RowKit
def Fit (bs:List Bd):Prop:=absS bs≤14000000
def FitX (x:List Int):Prop:=∀ i,(x.getD i 0).natAbs≤400000000
def Idx (bs:List Bd) (l:List Int):Prop:=∀ i,i < l.length→0≤l.getD i 0∧l.getD i 0 < bs.length
theorem lenP_take {bs:List Bd} {l:List Int} {i:Nat} (h:i < l.length):lenP bs (l.take (i+1))=lenP bs (l.take i)+(bg bs (l.getD i 0).toNat).w:=by
 rw[List.take_add_one,←lenP_snoc];simp[h,List.getD_eq_getElem?_getD]
theorem lenP_take_le {bs:List Bd} (l:List Int) (i:Nat):(lenP bs (l.take i)).natAbs≤l.length*absS bs:=by
 refine Nat.le_trans (lenP_le _) (Nat.mul_le_mul_right _ ?_)
 simp;omega
end Go.Proofs.YtaongbhamadlkaaGreat
namespace Go.Proofs.YtaongbhamadlkaaGreat
open W Go.RowKit
def rlx (x nx:List Int) (b:Bd):List Int:=if x.getD b.fr.toNat 0+b.w < nx.getD b.to.toNat 0 then nx.set b.to.toNat (x.getD b.fr.toNat 0+b.w) else nx
def jac (bs:List Bd) (x:List Int):List Int:=bs.foldl (rlx x) x
def jacs (bs:List Bd) (n:Nat):Nat→List Int
 |0=>List.replicate n 0
 |k+1=>jac bs (jacs bs n k)
def gsx (s:List Int×Bool) (b:Bd):List Int×Bool:=if s.1.getD b.fr.toNat 0+b.w < s.1.getD b.to.toNat 0 then(s.1.set b.to.toNat (s.1.getD b.fr.toNat 0+b.w),true) else s
def gs (bs:List Bd) (x:List Int):List Int×Bool:=bs.foldl gsx (x,false)
def gres (bs:List Bd):Nat→List Int→Option (List Int)
 |0,_=>none
 |k+1,x=>if(gs bs x).2 then gres bs k (gs bs x).1 else some (gs bs x).1
def greatP (n:Nat) (bs:List Bd):Option (List Int):=gres bs (n+1) (List.replicate n 0)
def Wth (B:Nat) (x:List Int):Prop:=∀ i,(x.getD i 0).natAbs≤B
theorem Wth.mono {B C:Nat} {x:List Int} (h:Wth B x) (hb:B≤C):Wth C x:=fun i=>Nat.le_trans (h i) hb
theorem Wth.set {B:Nat} {x:List Int} (h:Wth B x) {k:Nat} {z:Int} (hz:z.natAbs≤B):Wth B (x.set k z):=fun i=>by
 have:=h i
 simp only[List.getD_eq_getElem?_getD,List.getElem?_set] at this ⊢
 split
 ·split
  ·simpa using hz
  ·simp
 ·exact this
theorem Wth.zero (n:Nat):Wth 0 (List.replicate n 0):=fun i=>by
 simp only[List.getD_eq_getElem?_getD,List.getElem?_replicate];split <;> simp
theorem rlx_len (x nx:List Int) (b:Bd):(rlx x nx b).length=nx.length:=by unfold rlx;split <;> simp
theorem rlxs_len (x:List Int) (bs:List Bd):∀ nx:List Int,(bs.foldl (rlx x) nx).length=nx.length:=by
 induction bs with
 |nil=>intro nx;rfl
 |cons b bs ih=>intro nx;rw[List.foldl_cons,ih,rlx_len]
theorem jac_len (bs:List Bd) (x:List Int):(jac bs x).length=x.length:=rlxs_len x bs x
theorem jacs_len (bs:List Bd) (n k:Nat):(jacs bs n k).length=n:=by
 induction k with
 |zero=>simp[jacs]
 |succ k ih=>rw[jacs,jac_len,ih]
theorem bg_take {bs:List Bd} {i:Nat} (h:i < bs.length):bs.take (i+1)=bs.take i++[bg bs i]:=by
 rw[List.take_add_one];simp[h,List.getD_eq_getElem?_getD]
theorem gsx_succ {s:List Int×Bool} {bs:List Bd} {i:Nat} (h:i < bs.length):(bs.take (i+1)).foldl gsx s=gsx ((bs.take i).foldl gsx s) (bg bs i):=by
 rw[bg_take h,List.foldl_append];rfl
theorem absS_take {bs:List Bd} {i:Nat} (h:i < bs.length):absS (bs.take (i+1))=absS (bs.take i)+(bg bs i).w.natAbs:=by
 rw[bg_take h];simp[absS]
theorem absS_take_le {bs:List Bd} (i:Nat):absS (bs.take i)≤absS bs:=by
 induction bs generalizing i with
 |nil=>simp[absS]
 |cons b bs ih=>
  cases i with
  |zero=>simp[absS]
  |succ i=>have:=ih i;simp[absS] at this ⊢;omega
theorem gsx_len (s:List Int×Bool) (b:Bd):(gsx s b).1.length=s.1.length:=by unfold gsx;split <;> simp
theorem gsxs_len (bs:List Bd):∀ s:List Int×Bool,(bs.foldl gsx s).1.length=s.1.length:=by
 induction bs with
 |nil=>intro s;rfl
 |cons b bs ih=>intro s;rw[List.foldl_cons,ih,gsx_len]
theorem gsx_wth {B S:Nat} {s:List Int×Bool} {b:Bd} (hx:Wth B s.1) (hw:b.w.natAbs≤S):Wth (B+S) (gsx s b).1:=by
 unfold gsx;split
 ·exact(hx.mono (by omega)).set (by have:=hx b.fr.toNat;omega)
 ·exact hx.mono (by omega)
end Go.Proofs.YtaongbhamadlkaaGreat
namespace Go.Proofs.YtaongbhamadlkaaGreat
open W Go.RowKit
def fidx (p:Nat→Bool):Nat→Nat→Int
 |0,_=>-1
 |c+1,i=>if p i then i else fidx p c (i+1)
theorem fidx_spec (p:Nat→Bool):∀ c i,(fidx p c i= -1∧∀ j,i≤j→j < i+c→p j=false)∨∃ j,fidx p c i=(j:Nat)∧i≤j∧j < i+c∧p j=true∧∀ j',i≤j'→j' < j→p j'=false:=by
 intro c
 induction c with
 |zero=>intro i;exact .inl ⟨rfl,fun j h1 h2=>by omega⟩
 |succ c ih=>
  intro i
  rw[fidx]
  by_cases h:p i=true
  ·rw[if_pos h];exact .inr ⟨i,rfl,Nat.le_refl _,by omega,h,fun j h1 h2=>by omega⟩
  ·rw[if_neg h]
   rcases ih (i+1) with ⟨h1,h2⟩|⟨j,h1,h2,h3,h4,h5⟩
   ·refine .inl ⟨h1,fun j h3 h4=>?_⟩
    by_cases hj:j=i
    ·subst hj;simpa using h
    ·exact h2 j (by omega) (by omega)
   ·refine .inr ⟨j,h1,by omega,by omega,h4,fun j' h6 h7=>?_⟩
    by_cases hj:j'=i
    ·subst hj;simpa using h
    ·exact h5 j' (by omega) h7
theorem fidx_has {p:Nat→Bool} {c i:Nat}:0≤fidx p c i↔∃ j,i≤j∧j < i+c∧p j=true:=by
 rcases fidx_spec p c i with ⟨h1,h2⟩|⟨j,h1,h2,h3,h4,h5⟩
 ·rw[h1];constructor
  ·intro h;omega
  ·rintro⟨j,h3,h4,h5⟩;rw[h2 j h3 h4] at h5;cases h5
 ·rw[h1];exact⟨fun _=>⟨j,h2,h3,h4⟩,fun _=>by omega⟩
def outB (n k:Int):Bool:=decide (k < 0∨n≤k)
namespace G
attribute [local irreducible] WC WL WD YO LO LoopEnd W.Fin Scalar SliceT FieldAt Row ArrT AllocT KnS Has W.One SrcE IntT
set_option maxRecDepth 60000 in
theorem indexB_c (D:Nat) (vb:Value) (ms:Nat→QM) (bs:List Bd) (f:FuncId) (cap:List Value) (fG:Fct) (p:Nat→Bool) (hp:∀ i,i < bs.length→FnB Tryz.prog f ([bv (bg bs i) (ms i)]++cap) [] [isQ (qv (ms i)) (wq D (bg bs i).w),fG] (IsV (.bool (p i)))) :
  FnB Tryz.prog 161 [vb,.func (.func f) #[] cap.toArray] [] [fB D vb ms bs,fG] (IsV (.int .i64 (fidx p bs.length 0))):=by
 refine fn_of [(0,vb),(1,(.func (.func f) #[] cap.toArray))] 19 Tryz.func161 rfl Tryz.ntmps161 (by kernel_rfl) rfl suA fun h0=>?_
 refine WC.lenF (W.Has.bsl (D:=D) (v:=vb) (ms:=ms) (bs:=bs) hmA) fun hlen=>?_
 repeat'(first|refine gA ?_|(refine goG ?_;intro g)|(refine goV ?_;intro v))
 refine WC.lp (σ:=Nat) (fun i=>[(8,.int .i64 (i:Int)),(7,.int .i64 (bs.length:Int)),(0,vb),(1,.func (.func f) #[] cap.toArray)]) (fun _=>[]) (fun _=>[ge h0,fB D vb ms bs,fG]) (fun i=>i≤bs.length∧fidx p (bs.length - i) i=fidx p bs.length 0) (fun i=>bs.length - i) 0 ⟨by omega,rfl⟩ ?_
 rintro i ⟨hi,hs⟩
 by_cases c:i < bs.length
 ·rw[show bs.length - i=bs.length - (i+1)+1 by omega,fidx] at hs
  refine WC.fact (isQ (qv (ms i)) (wq D (bg bs i).w)) (W.Has.b (W.Has.bm (v:=vb) hmA) (by omega)) ?_
  repeat'(first|refine gA ?_|(refine goG ?_;intro g)|(refine goV ?_;intro v))
  refine WL.callF [] cap (hp i c) ?_
  rintro _ _ _ ⟨rfl,rfl,rfl⟩
  rw[List.nil_append]
  cases h:p i with
  |true=>
   rw[h,if_pos rfl] at hs
   repeat'(first|refine gA ?_|(refine goG ?_;intro g)|(refine goV ?_;intro v))
   exact WC.ret (Fin.v (ResE.t1 rfl rfl) meA (by rw[hs]))
  |false=>
   rw[h,if_neg (by simp)] at hs
   repeat'(first|refine gA ?_|(refine goG ?_;intro g)|(refine goV ?_;intro v))
   exact LoopEnd.mk (i+1) ⟨by omega,hs⟩ (by show bs.length - (i+1) < bs.length - i;omega)
 ·rw[show bs.length - i=0 by omega,fidx] at hs
  repeat'(first|refine gA ?_|(refine goG ?_;intro g)|(refine goV ?_;intro v))
  exact WC.ret (Fin.v (ResE.t1 rfl rfl) meA (by rw[←hs]))
set_option maxRecDepth 60000 in
theorem containsB_c (D:Nat) (vb:Value) (ms:Nat→QM) (bs:List Bd) (f:FuncId) (cap:List Value) (fG:Fct) (p:Nat→Bool) (hp:∀ i,i < bs.length→FnB Tryz.prog f ([bv (bg bs i) (ms i)]++cap) [] [isQ (qv (ms i)) (wq D (bg bs i).w),fG] (IsV (.bool (p i)))) :
  FnB Tryz.prog 158 [vb,.func (.func f) #[] cap.toArray] [] [fB D vb ms bs,fG] (IsV (.bool (decide (0≤fidx p bs.length 0)))):=by
 refine fn_of [(0,vb),(1,(.func (.func f) #[] cap.toArray))] 9 Tryz.func158 rfl Tryz.ntmps158 (by kernel_rfl) rfl suA fun h0=>?_
 repeat'(first|refine gA ?_|(refine goG ?_;intro g)|(refine goV ?_;intro v))
 first|refine WL.callV (indexB_c D vb ms bs f cap fG p hp) ?_|refine WD.callV (indexB_c D vb ms bs f cap fG p hp) ?_
 by_cases c:0≤fidx p bs.length 0
 ·rw[decide_eq_true c]
  repeat'(first|refine gA ?_|(refine goG ?_;intro g)|(refine goV ?_;intro v))
  exact WC.ret (Fin.v (ResE.t1 rfl rfl) meA rfl)
 ·rw[decide_eq_false c]
  repeat'(first|refine gA ?_|(refine goG ?_;intro g)|(refine goV ?_;intro v))
  exact WC.ret (Fin.v (ResE.t1 rfl rfl) meA rfl)
set_option maxRecDepth 60000 in
theorem outside_c (k n:Int) (g:Nat) (F0:List Fct):FnB Tryz.prog 156 ([.int .i64 k]++[ptr g]) [] [ce g 3 [.int .i64 n]] (IsV (.bool (outB n k))):=by
 refine fn_of [(0,(.int .i64 k)),(1,(ptr g))] 11 Tryz.func156 rfl Tryz.ntmps156 (by kernel_rfl) rfl suA fun h0=>?_
 unfold outB
 by_cases c1:k < 0
 ·repeat'(first|refine gA ?_|(refine goG ?_;intro g)|(refine goV ?_;intro v))
  exact WC.ret (Fin.v (ResE.t1 rfl rfl) meA (by rw[decide_eq_true (by omega)]))
 by_cases c2:n≤k
 ·repeat'(first|refine gA ?_|(refine goG ?_;intro g)|(refine goV ?_;intro v))
  exact WC.ret (Fin.v (ResE.t1 rfl rfl) meA (by rw[decide_eq_true (by omega)]))
 ·repeat'(first|refine gA ?_|(refine goG ?_;intro g)|(refine goV ?_;intro v))
  exact WC.ret (Fin.v (ResE.t1 rfl rfl) meA (by rw[decide_eq_false (by omega)]))
set_option maxRecDepth 60000 in
theorem wrong_c (D:Nat) (b:Bd) (m:QM) (n:Int) (g2 g6:Nat):FnB Tryz.prog 157 ([bv b m]++[ptr g6]) [] [isQ (qv m) (wq D b.w),andF (ce g6 111 [.func (.func 156) #[] #[ptr g2]]) (ce g2 3 [.int .i64 n])] (IsV (.bool (outB n b.fr ||outB n b.to))):=by
 refine fn_of [(0,(bv b m)),(1,(ptr g6))] 14 Tryz.func157 rfl Tryz.ntmps157 (by kernel_rfl) rfl suA fun h0=>?_
 refine WC.fact (ce g6 111 [.func (.func 156) #[] #[ptr g2]]) (W.Has.l hmA) ?_
 refine WC.fact (ce g2 3 [.int .i64 n]) (W.Has.r hmA) ?_
 repeat'(first|refine gA ?_|(refine goG ?_;intro g)|(refine goV ?_;intro v))
 refine WL.callF [] [ptr g2] (outside_c b.fr n g2 []) ?_
 rintro _ _ _ ⟨rfl,rfl,rfl⟩
 rw[List.nil_append]
 cases h:outB n b.fr with
 |true=>
  repeat'(first|refine gA ?_|(refine goG ?_;intro g)|(refine goV ?_;intro v))
  exact WC.ret (Fin.v (ResE.t1 rfl rfl) meA (by rw[Bool.true_or]))
 |false=>
  repeat'(first|refine gA ?_|(refine goG ?_;intro g)|(refine goV ?_;intro v))
  refine WL.callF [] [ptr g2] (outside_c b.to n g2 []) ?_
  rintro _ _ _ ⟨rfl,rfl,rfl⟩
  rw[List.nil_append]
  repeat'(first|refine gA ?_|(refine goG ?_;intro g)|(refine goV ?_;intro v))
  exact WC.ret (Fin.v (ResE.t1 rfl rfl) meA (by rw[Bool.false_or]))
end G
end Go.Proofs.YtaongbhamadlkaaGreat
namespace Go.Proofs.YtaongbhamadlkaaGreat
open W Go.RowKit
theorem validB_out {n:Int} {bs:List Bd} (h1:1≤n) (h2:n≤32) (h3:bs.length≤2048):validB n bs= !decide (0≤fidx (fun i=>outB n (bg bs i).fr ||outB n (bg bs i).to) bs.length 0):=by
 by_cases c:0≤fidx (fun i=>outB n (bg bs i).fr ||outB n (bg bs i).to) bs.length 0
 ·rw[decide_eq_true c]
  obtain⟨j,_,h5,h6⟩:=fidx_has.1 c
  refine validB_fi (i:=j) (by omega) fun h=>?_
  unfold outB at h6
  rw[Bool.or_eq_true,decide_eq_true_eq,decide_eq_true_eq] at h6
  unfold Bd.ok at h;omega
 ·rw[decide_eq_false c]
  refine validB_t h1 h2 h3 fun i hi=>?_
  have h4:¬(outB n (bg bs i).fr ||outB n (bg bs i).to)=true:=fun h=>c (fidx_has.2 ⟨i,by omega,by omega,h⟩)
  unfold outB at h4
  rw[Bool.or_eq_true,decide_eq_true_eq,decide_eq_true_eq] at h4
  unfold Bd.ok;omega
namespace G
attribute [local irreducible] WC WL WD YO LO LoopEnd W.Fin Scalar SliceT FieldAt Row ArrT AllocT KnS Has W.One SrcE IntT
theorem d100 {G G':Prop} (h:G') (s:Bx G'→G:=by
 intro h
 first|(apply WC.drawR (id:=3) [4] [0,1,2,3,4,5,6,7,8,9,10,11,12,13,14,15,16,18,19,21] (.held 0 (.held 1 (.held 2 (.held 3 (.held 4 (.held 5 (.held 6 (.held 7 (.held 8 (.held 9 (.held 10 (.held 11 (.held 12 (.held 13 (.held 14 (.held 15 (.held 16 (.loud 17 (.held 18 (.held 19 (.loud 20 (.held 21 (.done))))))))))))))))))))))) mixed (by kernel_rfl);(focus((repeat(first|exact Rems.nil _|(apply Rems.cons;exact rfl;(repeat(first|exact Rem.head|apply Rem.tail)))));done)))|fail
 exact Bx.h h):G:=s ⟨h⟩
set_option maxRecDepth 60000 in
theorem made_c (D:Nat) (vb:Value) (ms:Nat→QM) (bs:List Bd) (n:Int):FnB Tryz.prog 100 [.int .i64 n,vb] [] [fB D vb ms bs] (IsV (.tuple #[.agg #[.int .i64 n,vb],.bool (validB n bs)])):=by
 refine fn_of [(0,(.int .i64 n)),(1,vb)] 30 Tryz.func100 rfl Tryz.ntmps100 (by kernel_rfl) rfl suA fun h0=>?_
 have fin:∀ r:Bool,r=validB n bs→IsV (.tuple #[.agg #[.int .i64 n,vb],.bool (validB n bs)]) (.tuple #[.agg #[.int .i64 n,vb],.bool r]) [] []:=fun r hr=>by rw[hr];exact⟨rfl,rfl,rfl⟩
 by_cases c1:n < 1
 ·repeat'(first|refine gB ?_|(refine gH ?_;intro g)|(refine gW ?_;intro v)|refine d100 ?_|fail)
  exact WC.ret (Fin.p [] [] (ResE.c2 rfl rfl meA T.r123 rfl rfl) meA (List.nil_sublist _) .nil (fin _ (by rw[validB_f (by omega)])))
 by_cases c2:32 < n
 ·repeat'(first|refine gB ?_|(refine gH ?_;intro g)|(refine gW ?_;intro v)|refine d100 ?_|fail)
  exact WC.ret (Fin.p [] [] (ResE.c2 rfl rfl meA T.r123 rfl rfl) meA (List.nil_sublist _) .nil (fin _ (by rw[validB_f (by omega)])))
 by_cases c3:2048 < bs.length
 ·repeat'(first|refine gB ?_|(refine gH ?_;intro g)|(refine gW ?_;intro v)|refine d100 ?_|fail)
  exact WC.ret (Fin.p [] [] (ResE.c2 rfl rfl meA T.r123 rfl rfl) meA (List.nil_sublist _) .nil (fin _ (by rw[validB_f (by omega)])))
 have hv:=@validB_out n bs (by omega) (by omega) (by omega)
 repeat'(first|refine gB ?_|(refine gH ?_;intro g)|(refine gW ?_;intro v)|refine d100 ?_|fail)
 revert g;intro g6;revert g;intro g4;revert g;intro g2
 first|refine WL.callV (containsB_c D vb ms bs 157 [ptr g6] (andF (ce g6 111 [.func (.func 156) #[] #[ptr g2]]) (ce g2 3 [.int .i64 n])) (fun i=>outB n (bg bs i).fr ||outB n (bg bs i).to) (fun i _=>wrong_c D (bg bs i) (ms i) n g2 g6)) ?_|refine WD.callV (containsB_c D vb ms bs 157 [ptr g6] (andF (ce g6 111 [.func (.func 156) #[] #[ptr g2]]) (ce g2 3 [.int .i64 n])) (fun i=>outB n (bg bs i).fr ||outB n (bg bs i).to) (fun i _=>wrong_c D (bg bs i) (ms i) n g2 g6)) ?_
 cases h:decide (0≤fidx (fun i=>outB n (bg bs i).fr ||outB n (bg bs i).to) bs.length 0) with
 |true=>
  repeat'(first|refine gB ?_|(refine gH ?_;intro g)|(refine gW ?_;intro v)|refine d100 ?_|fail)
  exact WC.ret (Fin.p [] [] (ResE.c2 rfl rfl meA T.r123 rfl rfl) meA (List.nil_sublist _) .nil (fin _ (by rw[hv,h];rfl)))
 |false=>
  repeat'(first|refine gB ?_|(refine gH ?_;intro g)|(refine gW ?_;intro v)|refine d100 ?_|fail)
  exact WC.ret (Fin.p [] [] (ResE.c2 rfl rfl meA T.r123 rfl rfl) meA (List.nil_sublist _) .nil (fin _ (by rw[hv,h];rfl)))
end G
end Go.Proofs.YtaongbhamadlkaaGreat
namespace Go.Proofs.YtaongbhamadlkaaGreat
open W Go.RowKit
def IsGr (D:Nat) (o:Option (List Int)):RPost:=fun v b G=>match o with
 |some x=>∃ u mx,v=.tuple #[u,.bool true]∧b=[]∧G=[fR D u mx x]
 |none=>v=.tuple #[.slice none 0 0,.bool false]∧b=[]∧G=[]
namespace G
attribute [local irreducible] WC WL WD YO LO LoopEnd W.Fin Scalar SliceT FieldAt Row ArrT AllocT KnS Has W.One SrcE IntT
theorem d101 {G G':Prop} (h:G') (s:Bx G'→G:=by
 intro h
 first|(apply WC.draw (id:=8) [0,1,2,3,4,5,6] (.held 0 (.held 1 (.held 2 (.held 3 (.held 4 (.held 5 (.held 6 (.more 7 (.loud 8 (.loud 9 (.done))) (.loud 8 (.loud 7 (.loud 9 (.done)))))))))))) mixed (by kernel_rfl))|(apply WC.draw (id:=9) [0,1,2,3,4,5,7] (.held 0 (.held 1 (.held 2 (.held 3 (.held 4 (.held 5 (.loud 6 (.held 7 (.done))))))))) mixed (by kernel_rfl))|fail
 exact Bx.h h):G:=s ⟨h⟩
set_option maxRecDepth 60000 in
theorem greatest_c (D:Nat) [Den D] (vb:Value) (ms:Nat→QM) (bs:List Bd) (n:Nat) (hv:Vld n bs) (hf:Fit bs):FnB Tryz.prog 101 [.agg #[.int .i64 n,vb]] [] [fB D vb ms bs] (IsGr D (greatP n bs)):=by
 refine fn_of [(0,(.agg #[.int .i64 n,vb]))] 50 Tryz.func101 rfl Tryz.ntmps101 (by kernel_rfl) rfl suA fun h0=>?_
 unfold Fit at hf
 have hvl:=hv.l
 have hn2:=hv.n2
 repeat'(first|refine gM ?_|(refine gI ?_;intro g)|(refine gU ?_;intro v)|refine gN ?_ ?_|refine d101 ?_|fail)
 revert v;intro u0;revert g;intro g1
 refine WC.fact (mQ D (fun _=>m00) (List.replicate n 0)) (hasmQ0 n) ?_
 refine WC.lp (σ:=Nat×(Nat→QM)×List Int) (fun s=>[(15,.int .i64 (s.1:Int)),(14,.int .i64 ((n+1:Nat):Int)),(4,u0),(1,ptr g1)]) (fun s=>[Ow.slice u0 31 4 (qcells n s.2.1),Ow.cells g1 123 [.int .i64 n,vb]])
  (fun s=>[mQ D s.2.1 s.2.2,ge h0,fB D vb ms bs]) (fun s=>s.1≤n+1∧s.2.2.length=n∧Wth (s.1*absS bs) s.2.2∧gres bs (n+1 - s.1) s.2.2=greatP n bs) (fun s=>n+1 - s.1) (0,fun _=>m00,List.replicate n 0) ⟨by omega,by simp,by simpa using Wth.zero n,rfl⟩ ?_
 rintro⟨k,mx,X⟩ ⟨hk,hxl,hw,hres⟩
 simp only at hk hxl hw hres ⊢
 by_cases c:k < n+1
 ·have hkS:k*absS bs+absS bs≤33*absS bs:=by rw[←Nat.succ_mul];exact Nat.mul_le_mul_right _ (by omega)
  rw[show n+1 - k=n+1 - (k+1)+1 by omega,gres] at hres
  repeat'(first|refine gM ?_|(refine gI ?_;intro g)|(refine gU ?_;intro v)|refine gN ?_ ?_|refine d101 ?_|fail)
  refine WC.lp (σ:=Nat×(Nat→QM)×List Int×Bool) (fun s=>[(20,.int .i64 (s.1:Int)),(18,vb),(19,.int .i64 (bs.length:Int)),(5,.bool s.2.2.2),(15,.int .i64 (k:Int)),(14,.int .i64 ((n+1:Nat):Int)),(4,u0),(1,ptr g1)]) (fun s=>[Ow.slice u0 31 4 (qcells n s.2.1),Ow.cells g1 123 [.int .i64 n,vb]])
   (fun s=>[mQ D s.2.1 s.2.2.1,ge h0,fB D vb ms bs]) (fun s=>s.1≤bs.length∧(s.2.2.1,s.2.2.2)=(bs.take s.1).foldl gsx (X,false)∧Wth (k*absS bs+absS (bs.take s.1)) s.2.2.1) (fun s=>bs.length - s.1) (0,mx,X,false) ⟨by omega,rfl,by simpa [absS] using hw⟩ ?_
  rintro⟨i,my,Y,ch⟩ ⟨hi,hY,hwy⟩
  simp only at hi hY hwy ⊢
  have hyl:=gsxs_len (bs.take i) (X,false)
  rw[←hY] at hyl
  simp only at hyl
  by_cases ci:i < bs.length
  ·obtain⟨⟨a1,a2⟩,a3,a4⟩:=hv.ok i ci
   have hwi:=@absS_le bs i
   have hr:=@gsx_succ (X,false) bs i ci
   rw[←hY] at hr
   have hst:=@absS_take bs i ci
   have hst2:=@absS_take_le bs (i+1)
   have hr2:=@gsx_wth (k*absS bs+absS (bs.take i)) (bg bs i).w.natAbs (Y,ch) (bg bs i) hwy (Nat.le_refl _)
   have x1:=hwy (bg bs i).fr.toNat
   have x2:=hwy (bg bs i).to.toNat
   rw[Nat.add_assoc,←hst] at hr2
   refine WC.fact (isQ (qv (ms i)) (wq D (bg bs i).w)) (W.Has.b (W.Has.bm (v:=vb) hmA) (by omega)) ?_
   refine WC.fact (isQ (qv (my (bg bs i).fr.toNat)) (wq D (Y.getD (bg bs i).fr.toNat 0))) (W.Has.qB (ms:=my) hmA (by omega)) ?_
   refine WC.fact (isQ (qv (my (bg bs i).to.toNat)) (wq D (Y.getD (bg bs i).to.toNat 0))) (W.Has.qB (ms:=my) hmA (by omega)) ?_
   repeat'(first|refine gA ?_|(refine goG ?_;intro g)|(refine goV ?_;intro v))
   revert g;intro g7
   refine WC.cutP (σ:=Nat×QM) (fun s=>[(8,ptr s.1),(7,ptr g7),(20,.int .i64 (i:Int)),(18,vb),(19,.int .i64 (bs.length:Int)),(5,.bool ch),(15,.int .i64 (k:Int)),(14,.int .i64 ((n+1:Nat):Int)),(4,u0),(1,ptr g1)])
    (fun s=>[Ow.cells s.1 31 (qcs s.2),Ow.cells g7 77 (bcs (bg bs i) (ms i)),Ow.slice u0 31 4 (qcells n my),Ow.cells g1 123 [.int .i64 n,vb]])
    (fun s=>[isQ (qv s.2) (wq D (Y.getD (bg bs i).fr.toNat 0+(bg bs i).w)),isQ (qv (my (bg bs i).to.toNat)) (wq D (Y.getD (bg bs i).to.toNat 0)),mQ D my Y,ge h0,fB D vb ms bs]) (fun _=>True) ?_ ?_
   ·repeat'(first|refine gM ?_|(refine gI ?_;intro g)|(refine gU ?_;intro v)|refine gN ?_ ?_|refine d101 ?_|fail|((first|refine WL.callK (hv:=?hvQ) (addw_c D (my (bg bs i).fr.toNat) (ms i) (Y.getD (bg bs i).fr.toNat 0) (bg bs i).w (by unfold Lim;omega) (by unfold Lim;omega)) ?_|refine WD.callK (hv:=?hvQ) (addw_c D (my (bg bs i).fr.toNat) (ms i) (Y.getD (bg bs i).fr.toNat 0) (bg bs i).w (by unfold Lim;omega) (by unfold Lim;omega)) ?_|refine LO.callM (hv:=?hvQ) (addw_c D (my (bg bs i).fr.toNat) (ms i) (Y.getD (bg bs i).fr.toNat 0) (bg bs i).w (by unfold Lim;omega) (by unfold Lim;omega)) ?_);(case hvQ=>((repeat(first|exact Evs.nil|(apply Evs.cons;exact rfl)));done));rintro _ _ _ ⟨zm,rfl,rfl,rfl⟩;simp only[List.nil_append,List.cons_append])|fail)
    all_goals(apply Ex2;refine⟨trivial,?_,?_,?_⟩;(focus(repeat(first|exact Sub.nil _|refine Sub.cons rfl ?_)));(focus(repeat(first|exact SubP.nil _|(apply SubP.cons;(repeat(first|exact Rem.head|apply Rem.tail))))));(focus(repeat(first|exact HasAll.nil|(apply HasAll.cons;exact hsA)))))
   rintro⟨g8,m2⟩ _
   simp only
   repeat'(first|refine gM ?_|(refine gI ?_;intro g)|(refine gU ?_;intro v)|refine gN ?_ ?_|refine d101 ?_|fail)
   first|refine WL.callV (cmpw_c D m2 (my (bg bs i).to.toNat) (Y.getD (bg bs i).fr.toNat 0+(bg bs i).w) (Y.getD (bg bs i).to.toNat 0) (by unfold Lim;omega) (by unfold Lim;omega)) ?_|refine WD.callV (cmpw_c D m2 (my (bg bs i).to.toNat) (Y.getD (bg bs i).fr.toNat 0+(bg bs i).w) (Y.getD (bg bs i).to.toNat 0) (by unfold Lim;omega) (by unfold Lim;omega)) ?_
   by_cases h:Y.getD (bg bs i).fr.toNat 0+(bg bs i).w < Y.getD (bg bs i).to.toNat 0
   ·rw[gsx,if_pos h] at hr hr2
    rw[cmpI_lt h]
    repeat'(first|refine gM ?_|(refine gI ?_;intro g)|(refine gU ?_;intro v)|refine gN ?_ ?_|refine d101 ?_|fail)
    exact LoopEnd.mk (i+1,upd my (bg bs i).to.toNat m2,Y.set (bg bs i).to.toNat (Y.getD (bg bs i).fr.toNat 0+(bg bs i).w),true) ⟨by show i+1≤_;omega,hr.symm,hr2⟩ (by show bs.length - (i+1) < bs.length - i;omega) suA slA (HasAll.cons (W.Has.mQset hmA hmA) sfA)
   ·rw[gsx,if_neg h] at hr hr2
    have h1:0≤cmpI (Y.getD (bg bs i).fr.toNat 0+(bg bs i).w) (Y.getD (bg bs i).to.toNat 0):=by unfold cmpI;rw[if_neg h];split <;> omega
    repeat'(first|refine gM ?_|(refine gI ?_;intro g)|(refine gU ?_;intro v)|refine gN ?_ ?_|refine d101 ?_|fail)
    exact LoopEnd.mk (i+1,my,Y,ch) ⟨by show i+1≤_;omega,hr.symm,hr2⟩ (by show bs.length - (i+1) < bs.length - i;omega)
  ·have hg:gs bs X=(Y,ch):=by rw[hY,List.take_of_length_le (by omega)];rfl
   rw[List.take_of_length_le (by omega)] at hwy
   rw[hg] at hres
   cases ch with
   |true=>
    rw[if_pos rfl] at hres
    repeat'(first|refine gM ?_|(refine gI ?_;intro g)|(refine gU ?_;intro v)|refine gN ?_ ?_|refine d101 ?_|fail)
    exact LoopEnd.mk (k+1,my,Y) ⟨by show k+1≤_;omega,by show Y.length=n;omega,by show Wth ((k+1)*absS bs) Y;rw[Nat.succ_mul];exact hwy,hres⟩ (by show n+1 - (k+1) < n+1 - k;omega)
   |false=>
    rw[if_neg (by simp)] at hres
    repeat'(first|refine gM ?_|(refine gI ?_;intro g)|(refine gU ?_;intro v)|refine gN ?_ ?_|refine d101 ?_|fail)
    obtain rfl:Y.length=n:=by omega
    refine WC.freezeR (D:=D) (el:=31) u0 my Y (by repeat(first|exact Sel.head|apply Sel.tail)) hmA ?_
    refine WC.ret (Fin.p [] [fR D u0 my Y] (ResE.t2 rfl rfl rfl) meA (List.nil_sublist _) haA ?_)
    rw[←hres];exact⟨u0,my,rfl,rfl,rfl⟩
 ·obtain rfl:k=n+1:=by omega
  rw[Nat.sub_self,gres] at hres
  repeat'(first|refine gM ?_|(refine gI ?_;intro g)|(refine gU ?_;intro v)|refine gN ?_ ?_|refine d101 ?_|fail)
  refine WC.ret (Fin.p [] [] (ResE.t2 rfl rfl rfl) meA (List.nil_sublist _) .nil ?_)
  rw[←hres];exact⟨rfl,rfl,rfl⟩
end G
end Go.Proofs.YtaongbhamadlkaaGreat
namespace Go.Proofs.YtaongbhamadlkaaGreat
open W Go.RowKit
def lonx (L O:List (Option Int)) (b:Bd):List (Option Int):=match L.getD b.to.toNat none with
 |none=>O
 |some e=>match O.getD b.fr.toNat none with
  |none=>O.set b.fr.toNat (some (b.w+e))
  |some o=>if b.w+e < o then O.set b.fr.toNat (some (b.w+e)) else O
def lonP (n:Nat) (bs:List Bd) (L:List (Option Int)):List (Option Int):=bs.foldl (lonx L) (List.replicate n none)
def WthL (B:Nat) (L:List (Option Int)):Prop:=∀ i,((L.getD i none).getD 0).natAbs≤B
theorem WthL.mono {B C:Nat} {L:List (Option Int)} (h:WthL B L) (hb:B≤C):WthL C L:=fun i=>Nat.le_trans (h i) hb
theorem WthL.set {B:Nat} {L:List (Option Int)} (h:WthL B L) {k:Nat} {z:Int} (hz:z.natAbs≤B):WthL B (L.set k (some z)):=fun i=>by
 have:=h i
 simp only[List.getD_eq_getElem?_getD,List.getElem?_set] at this ⊢
 split
 ·split
  ·simpa using hz
  ·simp
 ·exact this
theorem WthL.none (B n:Nat):WthL B (List.replicate n none):=fun i=>by
 simp only[List.getD_eq_getElem?_getD,List.getElem?_replicate];split <;> simp
theorem lonx_len (L O:List (Option Int)) (b:Bd):(lonx L O b).length=O.length:=by unfold lonx;split;rfl;split;simp;split <;> simp
theorem lonxs_len (L:List (Option Int)) (bs:List Bd):∀ O:List (Option Int),(bs.foldl (lonx L) O).length=O.length:=by
 induction bs with
 |nil=>intro O;rfl
 |cons b bs ih=>intro O;rw[List.foldl_cons,ih,lonx_len]
theorem lonP_len (n:Nat) (bs:List Bd) (L:List (Option Int)):(lonP n bs L).length=n:=by unfold lonP;rw[lonxs_len];simp
theorem lonx_wth {B S:Nat} {L O:List (Option Int)} {b:Bd} (hL:WthL B L) (hO:WthL (B+S) O) (hw:b.w.natAbs≤S):WthL (B+S) (lonx L O b):=by
 unfold lonx;split
 ·exact hO
 ·rename_i e he
  have h1:=hL b.to.toNat
  rw[he] at h1;simp only[Option.getD_some] at h1
  split
  ·exact hO.set (by omega)
  ·split
   ·exact hO.set (by omega)
   ·exact hO
theorem lonxs_succ {L O:List (Option Int)} {bs:List Bd} {i:Nat} (h:i < bs.length):(bs.take (i+1)).foldl (lonx L) O=lonx L ((bs.take i).foldl (lonx L) O) (bg bs i):=by
 rw[bg_take h,List.foldl_append];rfl
theorem lonxs_wth {B S:Nat} {L:List (Option Int)} (hL:WthL B L) (bs:List Bd) (hw:∀ b∈bs,b.w.natAbs≤S):∀ O,WthL (B+S) O→WthL (B+S) (bs.foldl (lonx L) O):=by
 induction bs with
 |nil=>intro O h;exact h
 |cons b bs ih=>intro O h;rw[List.foldl_cons];exact ih (fun c hc=>hw c (List.mem_cons_of_mem _ hc)) _ (lonx_wth hL h (hw b (List.mem_cons_self ..)))
def IsL (D:Nat) (L:List (Option Int)):RPost:=fun v b G=>∃ ml,b=[]∧G=[fL D v ml L]
namespace G
attribute [local irreducible] WC WL WD YO LO LoopEnd W.Fin Scalar SliceT FieldAt Row ArrT AllocT KnS Has W.One SrcE IntT
set_option maxRecDepth 60000 in
theorem longer_c (D:Nat) [Den D] (vb u:Value) (ms ml:Nat→QM) (bs:List Bd) (n:Nat) (L:List (Option Int)) (hv:Vld n bs) (hf:Fit bs) (hl:L.length=n) (B:Nat) (hB:B≤450000000) (hw:WthL B L):FnB Tryz.prog 104 [.agg #[.int .i64 n,vb],u] [] [fB D vb ms bs,fL D u ml L] (IsL D (lonP n bs L)):=by
 refine fn_of [(0,(.agg #[.int .i64 n,vb])),(1,u)] 57 Tryz.func104 rfl Tryz.ntmps104 (by kernel_rfl) rfl suA fun h0=>?_
 unfold Fit at hf
 have hvl:=hv.l
 have hn2:=hv.n2
 repeat'(first|refine gA ?_|(refine goG ?_;intro g)|(refine goV ?_;intro v))
 revert v;intro u0;revert g;intro g2
 refine WC.fact (mL D (fun _=>m00) (List.replicate n none)) (hasmL0 n) ?_
 refine WC.lp (σ:=Nat×(Nat→QM)×List (Option Int)) (fun s=>[(17,.int .i64 (s.1:Int)),(15,vb),(16,.int .i64 (bs.length:Int)),(5,u0),(1,u),(2,ptr g2)]) (fun s=>[Ow.slice u0 134 5 (lcells s.2.2 s.2.1),Ow.cells g2 123 [.int .i64 n,vb]])
  (fun s=>[mL D s.2.1 s.2.2,ge h0,fB D vb ms bs,fL D u ml L]) (fun s=>s.1≤bs.length∧s.2.2=(bs.take s.1).foldl (lonx L) (List.replicate n none)∧WthL (B+absS bs) s.2.2) (fun s=>bs.length - s.1) (0,fun _=>m00,List.replicate n none) ⟨by omega,rfl,WthL.none _ _⟩ ?_
 rintro⟨i,mo,O⟩ ⟨hi,hO,hwo⟩
 simp only at hi hO hwo ⊢
 have hol:=lonxs_len L (bs.take i) (List.replicate n none)
 rw[←hO,List.length_replicate] at hol
 by_cases ci:i < bs.length
 ·obtain⟨⟨a1,a2⟩,a3,a4⟩:=hv.ok i ci
  have hwi:=@absS_le bs i
  have hr:=@lonxs_succ L (List.replicate n none) bs i ci
  rw[←hO] at hr
  have hr2:=@lonx_wth B (absS bs) L O (bg bs i) hw hwo hwi
  have x1:=hw (bg bs i).to.toNat
  have x2:=hwo (bg bs i).fr.toNat
  refine WC.fact (isQ (qv (ms i)) (wq D (bg bs i).w)) (W.Has.b (W.Has.bm (v:=vb) hmA) (by omega)) ?_
  refine WC.fact (isQ (qv (ml (bg bs i).to.toNat)) (wq D ((L.getD (bg bs i).to.toNat none).getD 0))) (W.Has.lq (ms:=ml) (W.Has.lm (v:=u) hmA) (by omega)) ?_
  refine WC.fact (isQ (qv (mo (bg bs i).fr.toNat)) (wq D ((O.getD (bg bs i).fr.toNat none).getD 0))) (W.Has.lq (ms:=mo) hmA (by omega)) ?_
  repeat'(first|refine gA ?_|(refine goG ?_;intro g)|(refine goV ?_;intro v))
  revert g;intro g8;revert g;intro g7
  cases he:L.getD (bg bs i).to.toNat none with
  |none=>
   have hr3:lonx L O (bg bs i)=O:=by unfold lonx;rw[he]
   rw[show(none:Option Int).isSome=false from rfl]
   repeat'(first|refine gA ?_|(refine goG ?_;intro g)|(refine goV ?_;intro v))
   exact LoopEnd.mk (i+1,mo,O) ⟨by show i+1≤_;omega,by show O=_;rw[hr,hr3],hwo⟩ (by show bs.length - (i+1) < bs.length - i;omega)
  |some e=>
   rw[he] at x1
   simp only[Option.getD_some] at x1 ⊢
   rw[show(some e:Option Int).isSome=true from rfl]
   repeat'(first|refine gA ?_|(refine goG ?_;intro g)|(refine goV ?_;intro v))
   first|refine WL.callK (addw_c D (ms i) (ml (bg bs i).to.toNat) (bg bs i).w e (by unfold Lim;omega) (by unfold Lim;omega)) ?_|refine WD.callK (addw_c D (ms i) (ml (bg bs i).to.toNat) (bg bs i).w e (by unfold Lim;omega) (by unfold Lim;omega)) ?_|refine LO.callM (addw_c D (ms i) (ml (bg bs i).to.toNat) (bg bs i).w e (by unfold Lim;omega) (by unfold Lim;omega)) ?_
   rintro _ _ _ ⟨m2,rfl,rfl,rfl⟩
   simp only[List.nil_append,List.cons_append]
   repeat'(first|refine gA ?_|(refine goG ?_;intro g)|(refine goV ?_;intro v))
   revert g;intro g10;revert g;intro g9
   cases ho:O.getD (bg bs i).fr.toNat none with
   |none=>
    have hr3:lonx L O (bg bs i)=O.set (bg bs i).fr.toNat (some ((bg bs i).w+e)):=by unfold lonx;rw[he];simp only;rw[ho]
    rw[hr3] at hr2
    rw[show(none:Option Int).isSome=false from rfl]
    repeat'(first|refine gA ?_|(refine goG ?_;intro g)|(refine goV ?_;intro v))
    exact LoopEnd.mk (i+1,upd mo (bg bs i).fr.toNat m2,O.set (bg bs i).fr.toNat (some ((bg bs i).w+e))) ⟨by show i+1≤_;omega,by show _=_;rw[hr,hr3],hr2⟩ (by show bs.length - (i+1) < bs.length - i;omega) suA slA (HasAll.cons (W.Has.mLset hmA hmA) sfA)
   |some o=>
    rw[ho] at x2
    simp only[Option.getD_some] at x2 ⊢
    rw[show(some o:Option Int).isSome=true from rfl]
    repeat'(first|refine gA ?_|(refine goG ?_;intro g)|(refine goV ?_;intro v))
    first|refine WL.callV (cmpw_c D m2 (mo (bg bs i).fr.toNat) ((bg bs i).w+e) o (by unfold Lim;omega) (by unfold Lim;omega)) ?_|refine WD.callV (cmpw_c D m2 (mo (bg bs i).fr.toNat) ((bg bs i).w+e) o (by unfold Lim;omega) (by unfold Lim;omega)) ?_
    by_cases h:(bg bs i).w+e < o
    ·have hr3:lonx L O (bg bs i)=O.set (bg bs i).fr.toNat (some ((bg bs i).w+e)):=by unfold lonx;rw[he];simp only;rw[ho];simp only;rw[if_pos h]
     rw[hr3] at hr2
     rw[cmpI_lt h]
     repeat'(first|refine gA ?_|(refine goG ?_;intro g)|(refine goV ?_;intro v))
     exact LoopEnd.mk (i+1,upd mo (bg bs i).fr.toNat m2,O.set (bg bs i).fr.toNat (some ((bg bs i).w+e))) ⟨by show i+1≤_;omega,by show _=_;rw[hr,hr3],hr2⟩ (by show bs.length - (i+1) < bs.length - i;omega) suA slA (HasAll.cons (W.Has.mLset hmA hmA) sfA)
    ·have hr3:lonx L O (bg bs i)=O:=by unfold lonx;rw[he];simp only;rw[ho];simp only;rw[if_neg h]
     have h1:0≤cmpI ((bg bs i).w+e) o:=by unfold cmpI;rw[if_neg h];split <;> omega
     repeat'(first|refine gA ?_|(refine goG ?_;intro g)|(refine goV ?_;intro v))
     exact LoopEnd.mk (i+1,mo,O) ⟨by show i+1≤_;omega,by show O=_;rw[hr,hr3],hwo⟩ (by show bs.length - (i+1) < bs.length - i;omega)
 ·repeat'(first|refine gA ?_|(refine goG ?_;intro g)|(refine goV ?_;intro v))
  refine WC.freezeL (D:=D) (el:=134) u0 mo O (by repeat(first|exact Sel.head|apply Sel.tail)) hmA ?_
  refine WC.ret (Fin.p [] [fL D u0 mo O] (ResE.t1 rfl rfl) meA (List.nil_sublist _) haA ⟨mo,rfl,?_⟩)
  rw[hO,List.take_of_length_le (by omega)];rfl
end G
end Go.Proofs.YtaongbhamadlkaaGreat
namespace Go.Proofs.YtaongbhamadlkaaGreat
open W Go.RowKit
def endP (n:Nat) (to:Nat):List (Option Int):=(List.replicate n none).set to (some 0)
theorem endP_len (n to:Nat):(endP n to).length=n:=by simp[endP]
theorem endP_wth (n to:Nat):WthL 0 (endP n to):=(WthL.none 0 n).set (by simp)
theorem hasmLe {D:Nat} [Den D] {F:List Fct} (n to:Nat):Has F (mL D (fun _=>m00) (endP n to)):=fun p hf j hj=>by
 have h0:((endP n to).getD j none).getD 0=0:=by
  unfold endP
  simp only[List.getD_eq_getElem?_getD,List.getElem?_set,List.getElem?_replicate,List.length_replicate]
  repeat' split
  all_goals rfl
 rw[h0];exact hasQ0w p hf
def IsT1 (D:Nat) (L:List (Option Int)):RPost:=fun v b G=>∃ u ml,b=[Ow.slice v 131 1 [u]]∧G=[fL D u ml L]
namespace G
attribute [local irreducible] WC WL WD YO LO LoopEnd W.Fin Scalar SliceT FieldAt Row ArrT AllocT KnS Has W.One SrcE IntT
set_option maxRecDepth 60000 in
theorem ends_c (D:Nat) [Den D] (vb:Value) (n to:Nat) (hn:n≤32) (ht:to < n):FnB Tryz.prog 103 [.agg #[.int .i64 n,vb],.int .i64 to] [] [] (IsT1 D (endP n to)):=by
 refine fn_of [(0,(.agg #[.int .i64 n,vb])),(1,(.int .i64 to))] 15 Tryz.func103 rfl Tryz.ntmps103 (by kernel_rfl) rfl suA fun h0=>?_
 repeat'(first|refine gA ?_|(refine goG ?_;intro g)|(refine goV ?_;intro v))
 revert v;intro u0
 refine WL.fact' (mL D (fun _=>m00) (List.replicate n none)) (hasmL0 n) ?_
 refine WL.l0 rfl (LO.storeLt (k:=to) (L:=List.replicate n none) (ms:=fun _=>m00) 0 rfl rfl T.z4 (by repeat(first|exact Sel.head|apply Sel.tail)) (by simpa using ht) ?_)
 repeat'(first|refine gA ?_|(refine goG ?_;intro g)|(refine goV ?_;intro v))
 revert v;intro u1
 refine WC.freezeL (D:=D) (el:=134) u0 (fun _=>m00) (endP n to) (by unfold endP;repeat(first|exact Sel.head|apply Sel.tail)) (hasmLe n to) ?_
 exact WC.ret (Fin.p [Ow.slice u1 131 1 [u0]] [fL D u0 (fun _=>m00) (endP n to)] (ResE.t1 rfl rfl) meA slA haA ⟨u0,_,rfl,rfl⟩)
end G
end Go.Proofs.YtaongbhamadlkaaGreat
namespace Go.Proofs.YtaongbhamadlkaaGreat
open W Go.RowKit
theorem pige:∀ (n:Nat) (p:Nat→Nat),(∀ i,i≤n→p i < n)→∃ i j,i < j∧j≤n∧p i=p j:=by
 intro n
 induction n with
 |zero=>intro p h;have:=h 0 (Nat.le_refl _);omega
 |succ n ih=>
  intro p h
  by_cases c:∃ i,i≤n∧p i=p (n+1)
  ·obtain⟨i,h1,h2⟩:=c;exact⟨i,n+1,by omega,Nat.le_refl _,h2⟩
  ·have hc:∀ i,i≤n→p i≠p (n+1):=fun i h1 h2=>c ⟨i,h1,h2⟩
   obtain⟨i,j,h1,h2,h3⟩:=ih (fun i=>if p i=n then p (n+1) else p i) (fun i hi=>by
    have h4:=h i (by omega)
    have h5:=h (n+1) (by omega)
    have h6:=hc i hi
    split <;> omega)
   refine⟨i,j,h1,by omega,?_⟩
   have h6:=hc i (by omega)
   have h7:=hc j (by omega)
   split at h3 <;> split at h3 <;> omega
def SolF (bs:List Bd) (f:Nat→Int):Prop:=∀ b∈bs,f b.to.toNat≤f b.fr.toNat+b.w
abbrev vl (x:List Int) (i:Nat):Int:=x.getD i 0
theorem bg_mem {bs:List Bd} {i:Nat} (h:i < bs.length):bg bs i∈bs:=by
 unfold bg;simp[List.getD_eq_getElem?_getD,h]
theorem bg_of {bs:List Bd} {b:Bd} (h:b∈bs):∃ i,i < bs.length∧bg bs i=b:=by
 obtain⟨i,h1,h2⟩:=List.getElem_of_mem h
 exact⟨i,h1,by unfold bg;simp[List.getD_eq_getElem?_getD,h1,h2]⟩
theorem sol_iff {bs:List Bd} {x:List Int}:Sol bs x↔SolF bs (vl x):=by
 constructor
 ·intro h b hb
  obtain⟨i,h1,rfl⟩:=bg_of hb
  exact h i h1
 ·intro h i hi;exact h _ (bg_mem hi)
def HasSol (bs:List Bd):Prop:=∃ f,SolF bs f
theorem Vld.mem {n:Nat} {bs:List Bd} (h:Vld n bs) {b:Bd} (hb:b∈bs):b.ok n:=by
 obtain⟨i,h1,rfl⟩:=bg_of hb
 exact h.ok i h1
theorem vl_set {x:List Int} {k v:Nat} {z:Int} (h:k < x.length):vl (x.set k z) v=if v=k then z else vl x v:=by
 simp only[vl,List.getD_eq_getElem?_getD,List.getElem?_set]
 by_cases c:k=v
 ·subst c;simp[h]
 ·rw[if_neg c,if_neg (fun h=>c h.symm)]
theorem vl_ext {x y:List Int} (h:x.length=y.length) (hv:∀ v,v < x.length→vl x v=vl y v):x=y:=by
 apply List.ext_getElem h
 intro i h1 h2
 have:=hv i h1
 simpa [vl,List.getD_eq_getElem?_getD,h1,h2] using this
theorem vl_rlx {x nx:List Int} {b:Bd} {v:Nat} (h:b.to.toNat < nx.length):vl (rlx x nx b) v=if v=b.to.toNat∧vl x b.fr.toNat+b.w < vl nx v then vl x b.fr.toNat+b.w else vl nx v:=by
 unfold rlx
 split
 ·rename_i c
  rw[vl_set h]
  by_cases hv:v=b.to.toNat
  ·subst hv;rw[if_pos rfl,if_pos ⟨rfl,c⟩]
  ·rw[if_neg hv,if_neg (fun h=>hv h.1)]
 ·rename_i c
  rw[if_neg]
  rintro⟨rfl,h2⟩;exact c h2
theorem rlxs_spec {n:Nat} {x:List Int} (bs:List Bd) (hb:∀ b∈bs,b.to.toNat < n):∀ nx:List Int,nx.length=n→∀ v,
  vl (bs.foldl (rlx x) nx) v≤vl nx v∧(∀ b∈bs,b.to.toNat=v→vl (bs.foldl (rlx x) nx) v≤vl x b.fr.toNat+b.w)∧
  (vl (bs.foldl (rlx x) nx) v=vl nx v∨∃ b∈bs,b.to.toNat=v∧vl (bs.foldl (rlx x) nx) v=vl x b.fr.toNat+b.w):=by
 induction bs with
 |nil=>intro nx _ v;exact⟨Int.le_refl _,fun b hb=>by simp at hb,.inl rfl⟩
 |cons a bs ih=>
  intro nx hn v
  have h1:=hb a (List.mem_cons_self ..)
  obtain⟨i1,i2,i3⟩:=ih (fun b h=>hb b (List.mem_cons_of_mem _ h)) (rlx x nx a) (by rw[rlx_len,hn]) v
  have hr:=@vl_rlx x nx a v (by omega)
  rw[List.foldl_cons]
  generalize vl (bs.foldl (rlx x) (rlx x nx a)) v=R at *
  by_cases c:v=a.to.toNat∧vl x a.fr.toNat+a.w < vl nx v
  ·rw[if_pos c] at hr
   refine⟨by omega,fun b hb2 hv=>?_,?_⟩
   ·rcases List.mem_cons.1 hb2 with rfl|hb2
    ·omega
    ·exact i2 b hb2 hv
   ·rcases i3 with i3|⟨b,h3,h4,h5⟩
    ·exact .inr ⟨a,List.mem_cons_self ..,c.1.symm,by omega⟩
    ·exact .inr ⟨b,List.mem_cons_of_mem _ h3,h4,h5⟩
  ·rw[if_neg c] at hr
   refine⟨by omega,fun b hb2 hv=>?_,?_⟩
   ·rcases List.mem_cons.1 hb2 with rfl|hb2
    ·have:¬vl x b.fr.toNat+b.w < vl nx v:=fun h=>c ⟨hv.symm,h⟩
     omega
    ·exact i2 b hb2 hv
   ·rcases i3 with i3|⟨b,h3,h4,h5⟩
    ·exact .inl (by omega)
    ·exact .inr ⟨b,List.mem_cons_of_mem _ h3,h4,h5⟩
section
variable {n:Nat} {bs:List Bd} (hv:Vld n bs)
include hv
theorem Vld.tos:∀ b∈bs,b.to.toNat < n:=fun b hb=>by have:=hv.mem hb;unfold Bd.ok at this;omega
theorem Vld.frs:∀ b∈bs,b.fr.toNat < n:=fun b hb=>by have:=hv.mem hb;unfold Bd.ok at this;omega
theorem jacs_dec (k v:Nat):vl (jacs bs n (k+1)) v≤vl (jacs bs n k) v:=(rlxs_spec bs hv.tos _ (jacs_len bs n k) v).1
theorem jacs_le {b:Bd} (hb:b∈bs) (k:Nat):vl (jacs bs n (k+1)) b.to.toNat≤vl (jacs bs n k) b.fr.toNat+b.w:=(rlxs_spec bs hv.tos _ (jacs_len bs n k) _).2.1 b hb rfl
theorem jacs_of (k v:Nat):vl (jacs bs n (k+1)) v=vl (jacs bs n k) v∨∃ b∈bs,b.to.toNat=v∧vl (jacs bs n (k+1)) v=vl (jacs bs n k) b.fr.toNat+b.w:=(rlxs_spec bs hv.tos _ (jacs_len bs n k) v).2.2
theorem jacs_mono {i j:Nat} (h:i≤j) (v:Nat):vl (jacs bs n j) v≤vl (jacs bs n i) v:=by
 induction j with
 |zero=>rw[show i=0 by omega];exact Int.le_refl _
 |succ j ih=>
  by_cases c:i=j+1
  ·subst c;exact Int.le_refl _
  ·exact Int.le_trans (jacs_dec hv j v) (ih (by omega))
end
theorem jacs_zero (bs:List Bd) (n v:Nat):vl (jacs bs n 0) v=0:=by
 simp only[jacs,vl,List.getD_eq_getElem?_getD,List.getElem?_replicate];split <;> rfl
def Wlk (bs:List Bd):Int→List Int→Int→Prop
 |u,[],v=>u=v
 |u,i::l,v=>(0≤i∧i < bs.length)∧(bg bs i.toNat).fr=u∧Wlk bs (bg bs i.toNat).to l v
theorem Wlk.app {bs:List Bd} {l m:List Int} {u v:Int}:Wlk bs u (l++m) v↔∃ w,Wlk bs u l w∧Wlk bs w m v:=by
 induction l generalizing u with
 |nil=>simp[Wlk]
 |cons i l ih=>
  simp only[List.cons_append,Wlk,ih]
  constructor
  ·rintro⟨h1,h2,w,h3,h4⟩;exact⟨w,⟨h1,h2,h3⟩,h4⟩
  ·rintro⟨w,⟨h1,h2,h3⟩,h4⟩;exact⟨h1,h2,w,h3,h4⟩
theorem lenP_app (bs:List Bd) (l m:List Int):lenP bs (l++m)=lenP bs l+lenP bs m:=by simp[lenP]
theorem lenP_cons (bs:List Bd) (i:Int) (l:List Int):lenP bs (i::l)=(bg bs i.toNat).w+lenP bs l:=by simp[lenP]
theorem lenP_nil (bs:List Bd):lenP bs []=0:=rfl
theorem Wlk.one {bs:List Bd} {i:Nat} (h:i < bs.length):Wlk bs (bg bs i).fr [(i:Int)] (bg bs i).to:=by
 simp[Wlk,h]
theorem Wlk.sol {bs:List Bd} {f:Nat→Int} (hs:SolF bs f) {l:List Int} {u v:Int} (h:Wlk bs u l v):f v.toNat≤f u.toNat+lenP bs l:=by
 induction l generalizing u with
 |nil=>simp[Wlk] at h;subst h;simp[lenP_nil]
 |cons i l ih=>
  obtain⟨h1,h2,h3⟩:=h
  have h4:=ih h3
  have h5:=hs (bg bs i.toNat) (bg_mem (by omega))
  rw[lenP_cons];subst h2;omega
def NegB (bs:List Bd) (m:Nat) (l:List Int):Prop:=l.length=m∧lenP bs l < 0∧∃ u,Wlk bs u l u
theorem NegB.no {bs:List Bd} {m:Nat} {l:List Int} (h:NegB bs m l):¬HasSol bs:=by
 rintro⟨f,hf⟩
 obtain⟨_,h2,u,h3⟩:=h
 have:=h3.sol hf;omega
theorem NegB.pos {bs:List Bd} {m:Nat} {l:List Int} (h:NegB bs m l):0 < m:=by
 obtain⟨h1,h2,_⟩:=h
 cases l with
 |nil=>simp[lenP_nil] at h2
 |cons i l=>simp at h1;omega
section
variable {n:Nat} {bs:List Bd} (hv:Vld n bs)
include hv
theorem chain_of (k:Nat):∀ v,vl (jacs bs n (k+1)) v < vl (jacs bs n k) v→∃ (p:Nat→Nat) (e:Nat→Nat),p (k+1)=v∧∀ j,j≤k→e j < bs.length∧(bg bs (e j)).fr=p j∧(bg bs (e j)).to=p (j+1)∧vl (jacs bs n (j+1)) (p (j+1))=vl (jacs bs n j) (p j)+(bg bs (e j)).w∧vl (jacs bs n (j+1)) (p (j+1)) < vl (jacs bs n j) (p (j+1)):=by
 induction k with
 |zero=>
  intro v h
  rcases jacs_of hv 0 v with h1|⟨b,h1,h2,h3⟩
  ·omega
  ·obtain⟨i,hi,rfl⟩:=bg_of h1
   have ho:=hv.ok i hi
   unfold Bd.ok at ho
   refine⟨fun j=>if j=0 then(bg bs i).fr.toNat else v,fun _=>i,rfl,fun j hj=>?_⟩
   obtain rfl:j=0:=by omega
   refine⟨hi,?_,?_,h3,h⟩
   ·show(bg bs i).fr=(((bg bs i).fr.toNat:Nat):Int);omega
   ·show(bg bs i).to=(v:Int);omega
 |succ k ih=>
  intro v h
  rcases jacs_of hv (k+1) v with h1|⟨b,h1,h2,h3⟩
  ·omega
  ·obtain⟨i,hi,rfl⟩:=bg_of h1
   have ho:=hv.ok i hi
   unfold Bd.ok at ho
   have h4:=jacs_le hv h1 k
   have h5:=jacs_dec hv k (bg bs i).fr.toNat
   rw[h2] at h4
   obtain⟨p,e,q1,q2⟩:=ih (bg bs i).fr.toNat (by omega)
   refine⟨fun j=>if j=k+2 then v else p j,fun j=>if j=k+1 then i else e j,by simp,fun j hj=>?_⟩
   by_cases c:j=k+1
   ·subst c
    simp only[if_true]
    rw[if_neg (by omega)]
    refine⟨hi,by omega,by omega,by rw[q1];exact h3,h⟩
   ·obtain⟨a1,a2,a3,a4,a5⟩:=q2 j (by omega)
    simp only
    rw[if_neg c,if_neg (by omega),if_neg (by omega)]
    exact⟨a1,a2,a3,a4,a5⟩
theorem neg_of (h:¬Sol bs (jacs bs n n)):∃ m l,NegB bs m l:=by
 rw[sol_iff] at h
 have h1:∃ b∈bs,¬vl (jacs bs n n) b.to.toNat≤vl (jacs bs n n) b.fr.toNat+b.w:=by
  refine Classical.byContradiction fun c=>h fun b hb=>?_
  exact Classical.byContradiction fun c2=>c ⟨b,hb,c2⟩
 obtain⟨b,hb,hlt⟩:=h1
 have h2:=jacs_le hv hb n
 obtain⟨p,e,q1,q2⟩:=chain_of hv n b.to.toNat (by omega)
 have hp:∀ i,i≤n→p i < n:=fun i hi=>by
  obtain⟨a1,a2,_⟩:=q2 i hi
  have:=hv.ok _ a1
  unfold Bd.ok at this;omega
 obtain⟨i,j,hij,hj,he⟩:=pige n p hp
 have hw:∀ m,i+m≤n+1→∃ l:List Int,l.length=m∧Wlk bs (p i) l (p (i+m))∧lenP bs l=vl (jacs bs n (i+m)) (p (i+m)) - vl (jacs bs n i) (p i):=by
  intro m
  induction m with
  |zero=>intro _;exact⟨[],rfl,by simp[Wlk],by simp[lenP_nil]⟩
  |succ m ih=>
   intro hm
   obtain⟨l,l1,l2,l3⟩:=ih (by omega)
   obtain⟨a1,a2,a3,a4,a5⟩:=q2 (i+m) (by omega)
   refine⟨l++[(e (i+m):Int)],by simp[l1],?_,?_⟩
   ·refine Wlk.app.2 ⟨_,l2,?_⟩
    rw[←a2,show i+(m+1)=i+m+1 by omega,←a3]
    exact Wlk.one a1
   ·rw[lenP_app,lenP_cons,lenP_nil,l3,show i+(m+1)=i+m+1 by omega,a4]
    simp only[Int.toNat_natCast];omega
 obtain⟨l,l1,l2,l3⟩:=hw (j - i) (by omega)
 rw[show i+(j - i)=j by omega] at l2 l3
 obtain⟨a1,a2,a3,a4,a5⟩:=q2 (j - 1) (by omega)
 rw[show j - 1+1=j by omega] at a5
 have h6:=jacs_mono hv (show i≤j - 1 by omega) (p j)
 refine⟨j - i,l,l1,?_,p i,by rw[←he] at l2;exact l2⟩
 rw[l3,he];omega
theorem sol_iff_has:Sol bs (jacs bs n n)↔HasSol bs:=by
 constructor
 ·intro h;exact⟨_,sol_iff.1 h⟩
 ·intro h
  refine Classical.byContradiction fun c=>?_
  obtain⟨m,l,hn⟩:=neg_of hv c
  exact hn.no h
theorem neg_iffB:(∃ m l,NegB bs m l)↔¬HasSol bs:=by
 constructor
 ·rintro⟨m,l,h⟩;exact h.no
 ·intro h;exact neg_of hv fun c=>h ((sol_iff_has hv).1 c)
theorem jacs_great {f:Nat→Int} (hf:SolF bs f) (h0:∀ v,v < n→f v≤0) (k:Nat):∀ v,v < n→f v≤vl (jacs bs n k) v:=by
 induction k with
 |zero=>intro v h;rw[jacs_zero];exact h0 v h
 |succ k ih=>
  intro v h
  rcases jacs_of hv k v with h1|⟨b,h1,h2,h3⟩
  ·rw[h1];exact ih v h
  ·rw[h3,←h2]
   have:=ih b.fr.toNat (hv.frs b h1)
   have:=hf b h1
   omega
theorem jacs_le0 (k v:Nat):vl (jacs bs n k) v≤0:=by
 have:=jacs_mono hv (Nat.zero_le k) v
 rwa [jacs_zero] at this
end
theorem vl_gsx {s:List Int×Bool} {b:Bd} {v:Nat} (h:b.to.toNat < s.1.length):vl (gsx s b).1 v=if v=b.to.toNat∧vl s.1 b.fr.toNat+b.w < vl s.1 v then vl s.1 b.fr.toNat+b.w else vl s.1 v:=by
 unfold gsx
 split
 ·rename_i c
  show vl (s.1.set _ _) v=_
  rw[vl_set h]
  by_cases hv:v=b.to.toNat
  ·subst hv;rw[if_pos rfl,if_pos ⟨rfl,c⟩]
  ·rw[if_neg hv,if_neg (fun h=>hv h.1)]
 ·rename_i c
  rw[if_neg]
  rintro⟨rfl,h2⟩;exact c h2
theorem gsx_ch {s:List Int×Bool} {b:Bd} (h:(gsx s b).2=false):gsx s b=s∧vl s.1 b.to.toNat≤vl s.1 b.fr.toNat+b.w:=by
 unfold gsx at h ⊢
 split at h
 ·cases h
 ·rename_i c
  rw[if_neg c]
  exact⟨rfl,Int.not_lt.1 c⟩
theorem gsx_stay {s:List Int×Bool} {b:Bd} (h:vl s.1 b.to.toNat≤vl s.1 b.fr.toNat+b.w):gsx s b=s:=by
 unfold gsx;rw[if_neg (by have:¬vl s.1 b.fr.toNat+b.w < vl s.1 b.to.toNat:=by omega
                          exact this)]
theorem gsxs_ch (bs:List Bd):∀ s:List Int×Bool,(bs.foldl gsx s).2=false→bs.foldl gsx s=s∧SolF bs (vl s.1):=by
 induction bs with
 |nil=>intro s _;exact⟨rfl,fun b hb=>by simp at hb⟩
 |cons a bs ih=>
  intro s h
  rw[List.foldl_cons] at h ⊢
  obtain⟨h1,h2⟩:=ih _ h
  rw[h1] at h
  obtain⟨h3,h4⟩:=gsx_ch h
  rw[h3] at h1 h2 ⊢
  refine⟨h1,fun b hb=>?_⟩
  rcases List.mem_cons.1 hb with rfl|hb
  ·exact h4
  ·exact h2 b hb
theorem gsxs_stay (bs:List Bd):∀ s:List Int×Bool,SolF bs (vl s.1)→bs.foldl gsx s=s:=by
 induction bs with
 |nil=>intro s _;rfl
 |cons a bs ih=>
  intro s h
  rw[List.foldl_cons,gsx_stay (h a (List.mem_cons_self ..))]
  exact ih s fun b hb=>h b (List.mem_cons_of_mem _ hb)
theorem gsxs_spec {n:Nat} (bs:List Bd) (hb:∀ b∈bs,b.to.toNat < n) (hf:∀ b∈bs,b.fr.toNat < n):∀ s:List Int×Bool,s.1.length=n→
  (∀ v,vl (bs.foldl gsx s).1 v≤vl s.1 v)∧(∀ b∈bs,vl (bs.foldl gsx s).1 b.to.toNat≤vl s.1 b.fr.toNat+b.w)∧
  (∀ f:Nat→Int,SolF bs f→(∀ v,v < n→f v≤vl s.1 v)→∀ v,v < n→f v≤vl (bs.foldl gsx s).1 v):=by
 induction bs with
 |nil=>intro s _;exact⟨fun v=>Int.le_refl _,fun b hb=>by simp at hb,fun f _ h=>h⟩
 |cons a bs ih=>
  intro s hn
  have h1:=hb a (List.mem_cons_self ..)
  have h2:=hf a (List.mem_cons_self ..)
  obtain⟨i1,i2,i3⟩:=ih (fun b h=>hb b (List.mem_cons_of_mem _ h)) (fun b h=>hf b (List.mem_cons_of_mem _ h)) (gsx s a) (by rw[gsx_len,hn])
  have hr:=fun v=>@vl_gsx s a v (by omega)
  have hle:∀ v,vl (gsx s a).1 v≤vl s.1 v:=fun v=>by rw[hr];split <;> omega
  rw[List.foldl_cons]
  refine⟨fun v=>Int.le_trans (i1 v) (hle v),fun b hb2=>?_,fun f hs h v hv=>i3 f (fun b h=>hs b (List.mem_cons_of_mem _ h)) (fun v hv=>?_) v hv⟩
  ·rcases List.mem_cons.1 hb2 with rfl|hb2
   ·refine Int.le_trans (i1 _) ?_
    rw[hr];split <;> omega
   ·have:=i2 b hb2
    have:=hle b.fr.toNat
    omega
  ·rw[hr]
   split
   ·rename_i c
    have:=hs a (List.mem_cons_self ..)
    have:=h _ h2
    rw[c.1];omega
   ·exact h v hv
section
variable {n:Nat} {bs:List Bd} (hv:Vld n bs)
include hv
omit hv in
theorem gres_sol:∀ k (X Y:List Int),gres bs k X=some Y→SolF bs (vl Y):=by
 intro k
 induction k with
 |zero=>intro X Y h;cases h
 |succ k ih=>
  intro X Y h
  rw[gres] at h
  split at h
  ·exact ih _ _ h
  ·rename_i c
   have c2:(bs.foldl gsx (X,false)).2=false:=by simpa [gs] using c
   obtain⟨h1,h2⟩:=gsxs_ch bs _ c2
   cases h
   unfold gs;rw[h1];exact h2
theorem great_none (h:¬HasSol bs):greatP n bs=none:=by
 cases hg:greatP n bs with
 |none=>rfl
 |some Y=>exact absurd ⟨_,gres_sol _ _ _ hg⟩ h
theorem great_some (h:HasSol bs):greatP n bs=some (jacs bs n n):=by
 have hs:=sol_iff.1 ((sol_iff_has hv).2 h)
 have main:∀ k r X,r+k=n+1→r≤n→X.length=n→(∀ v,v < n→vl (jacs bs n n) v≤vl X v)→(∀ v,v < n→vl X v≤vl (jacs bs n r) v)→gres bs k X=some (jacs bs n n):=by
  intro k
  induction k with
  |zero=>
   intro r X hr hr2;omega
  |succ k ih=>
   intro r X hr hr2 hl h1 h2
   rw[gres]
   obtain⟨s1,s2,s3⟩:=gsxs_spec bs hv.tos hv.frs (X,false) hl
   by_cases c:(gs bs X).2=true
   ·rw[if_pos c]
    have hrn:r≠n:=by
     rintro rfl
     have hX:X=jacs bs r r:=vl_ext (by rw[jacs_len];exact hl) fun v hvl=>by
      have hvn:v < r:=by rw[←hl];exact hvl
      exact Int.le_antisymm (h2 v hvn) (h1 v hvn)
     have h3:=gsxs_stay bs (X,false) (by rw[hX];exact hs)
     unfold gs at c;rw[h3] at c;cases c
    refine ih (r+1) _ (by omega) (by omega) (by unfold gs;rw[gsxs_len,hl]) (s3 _ hs h1) fun v hvn=>?_
    rcases jacs_of hv r v with h3|⟨b,h3,h4,h5⟩
    ·rw[h3];exact Int.le_trans (s1 v) (h2 v hvn)
    ·have h6:=s2 b h3
     have h7:=h2 _ (hv.frs b h3)
     have h8:vl (gs bs X).1 v≤vl X b.fr.toNat+b.w:=by rw[←h4];exact h6
     omega
   ·rw[if_neg c]
    have c2:(bs.foldl gsx (X,false)).2=false:=by simpa [gs] using c
    obtain⟨h3,h4⟩:=gsxs_ch bs _ c2
    unfold gs;rw[h3]
    congr 1
    refine vl_ext (by rw[jacs_len];exact hl) fun v hvl=>?_
    have hvn:v < n:=by rw[←hl];exact hvl
    have h5:=h1 v hvn
    have h6:=jacs_great hv h4 (fun v hv2=>Int.le_trans (h2 v hv2) (jacs_le0 hv r v)) n v hvn
    exact Int.le_antisymm h6 h5
 exact main (n+1) 0 _ (by omega) (by omega) (by simp) (fun v _=>by have:=jacs_le0 hv n v;simp only[vl,List.getD_eq_getElem?_getD,List.getElem?_replicate] at this ⊢;split <;> simpa using this) (fun v _=>Int.le_refl _)
end
end Go.Proofs.YtaongbhamadlkaaGreat
namespace Go.Proofs.YtaongbhamadlkaaGreat
open W Go.RowKit
def cmpL:List Int→List Int→Int
 |[],[]=>0
 |[],_::_=>-1
 |_::_,[]=>1
 |a::s,b::t=>if a < b then -1 else if b < a then 1 else cmpL s t
theorem cmpL_refl (l:List Int):cmpL l l=0:=by
 induction l with
 |nil=>rfl
 |cons a l ih=>simp[cmpL,ih]
theorem cmpL_anti:∀ {l m:List Int},cmpL l m≤0→cmpL m l≤0→l=m:=by
 intro l
 induction l with
 |nil=>intro m h h2;cases m with|nil=>rfl|cons b t=>simp[cmpL] at h2
 |cons a s ih=>
  intro m h h2
  cases m with
  |nil=>simp[cmpL] at h
  |cons b t=>
   simp only[cmpL] at h h2
   by_cases c1:a < b
   ·rw[if_neg (by omega),if_pos c1] at h2;omega
   ·by_cases c2:b < a
    ·rw[if_neg c1,if_pos c2] at h;omega
    ·rw[if_neg c1,if_neg c2] at h;rw[if_neg c2,if_neg c1] at h2
     rw[ih h h2,show a=b by omega]
theorem cmpL_trans:∀ {l m r:List Int},cmpL l m≤0→cmpL m r≤0→cmpL l r≤0:=by
 intro l
 induction l with
 |nil=>intro m r _ _;cases r with|nil=>exact Int.le_refl _|cons b t=>simp[cmpL]
 |cons a s ih=>
  intro m r h h2
  cases m with
  |nil=>simp[cmpL] at h
  |cons b t=>
   cases r with
   |nil=>simp[cmpL] at h2
   |cons c u=>
    simp only[cmpL] at h h2 ⊢
    by_cases c1:a < b
    ·by_cases c2:c < b
     ·rw[if_neg (by omega),if_pos c2] at h2;omega
     ·rw[if_pos (show a < c by omega)];omega
    ·by_cases c3:b < a
     ·rw[if_neg c1,if_pos c3] at h;omega
     ·rw[if_neg c1,if_neg c3] at h
      obtain rfl:a=b:=by omega
      by_cases c4:a < c
      ·rw[if_pos c4];omega
      ·by_cases c5:c < a
       ·rw[if_neg c4,if_pos c5] at h2;omega
       ·rw[if_neg c4,if_neg c5] at h2 ⊢;exact ih h h2
theorem cmpL_total (l m:List Int):cmpL l m < 0∨cmpL m l≤0:=by
 induction l generalizing m with
 |nil=>cases m with|nil=>exact .inr (Int.le_refl _)|cons b t=>exact .inl (by simp[cmpL])
 |cons a s ih=>
  cases m with
  |nil=>exact .inr (by simp[cmpL])
  |cons b t=>
   simp only[cmpL]
   by_cases c1:a < b
   ·rw[if_pos c1];exact .inl (by omega)
   ·by_cases c2:b < a
    ·rw[if_pos c2];exact .inr (by omega)
    ·rw[if_neg c1,if_neg c2,if_neg c2,if_neg c1];exact ih t
def Fst (S:List Int→Prop) (l:List Int):Prop:=S l∧∀ m,S m→cmpL l m≤0
theorem Fst.eq {S:List Int→Prop} {l m:List Int} (h:Fst S l) (h2:Fst S m):l=m:=cmpL_anti (h.2 m h2.1) (h2.2 l h.1)
theorem Fst.congr {S T:List Int→Prop} {l:List Int} (h:Fst S l) (hs:∀ m,S m↔T m):Fst T l:=⟨(hs l).1 h.1,fun m hm=>h.2 m ((hs m).2 hm)⟩
def nxtP (bs:List Bd) (T:List (List (Option Int))) (good:Int→Bool) (r:Nat) (at' sum:Int) (i:Nat):Bool:=
 decide ((bg bs i).fr=at') && match (T.getD r []).getD (bg bs i).to.toNat none with
  |none=>false
  |some e=>good (sum+((bg bs i).w+e))
def fstP (bs:List Bd) (T:List (List (Option Int))) (good:Int→Bool):Nat→Int→Int→List Int→List Int
 |0,_,_,out=>out
 |r+1,at',sum,out=>if fidx (nxtP bs T good r at' sum) bs.length 0 < 0 then[] else
  fstP bs T good r (bg bs (fidx (nxtP bs T good r at' sum) bs.length 0).toNat).to (sum+(bg bs (fidx (nxtP bs T good r at' sum) bs.length 0).toNat).w) (out++[fidx (nxtP bs T good r at' sum) bs.length 0])
abbrev ol (L:List (Option Int)) (i:Nat):Option Int:=L.getD i none
theorem ol_set {L:List (Option Int)} {k v:Nat} {z:Option Int} (h:k < L.length):ol (L.set k z) v=if v=k then z else ol L v:=by
 simp only[ol,List.getD_eq_getElem?_getD,List.getElem?_set]
 by_cases c:k=v
 ·subst c;simp[h]
 ·rw[if_neg c,if_neg (fun h=>c h.symm)]
theorem ol_lonx {L O:List (Option Int)} {b:Bd} {v:Nat} (h:b.fr.toNat < O.length):ol (lonx L O b) v=match ol L b.to.toNat with
  |none=>ol O v
  |some e=>if v=b.fr.toNat then(match ol O v with|none=>some (b.w+e)|some o=>if b.w+e < o then some (b.w+e) else some o) else ol O v:=by
 unfold lonx ol
 cases h1:L.getD b.to.toNat none with
 |none=>rfl
 |some e=>
  simp only
  by_cases hv:v=b.fr.toNat
  ·subst hv
   rw[if_pos rfl]
   cases h2:O.getD b.fr.toNat none with
   |none=>simp only;have:=@ol_set O b.fr.toNat b.fr.toNat (some (b.w+e)) h;unfold ol at this;rw[this,if_pos rfl]
   |some o=>
    simp only
    split
    ·have:=@ol_set O b.fr.toNat b.fr.toNat (some (b.w+e)) h;unfold ol at this;rw[this,if_pos rfl]
    ·exact h2
  ·rw[if_neg hv]
   have hs:=@ol_set O b.fr.toNat v (some (b.w+e)) h
   unfold ol at hs;rw[if_neg hv] at hs
   split
   ·exact hs
   ·split
    ·exact hs
    ·rfl
theorem lonxs_spec {n:Nat} {L:List (Option Int)} (bs:List Bd) (hb:∀ b∈bs,b.fr.toNat < n):∀ O:List (Option Int),O.length=n→∀ v,
  (∀ d,ol (bs.foldl (lonx L) O) v=some d→ol O v=some d∨∃ b∈bs,b.fr.toNat=v∧∃ e,ol L b.to.toNat=some e∧d=b.w+e)∧
  (∀ d,ol O v=some d→∃ d',ol (bs.foldl (lonx L) O) v=some d'∧d'≤d)∧
  (∀ b∈bs,b.fr.toNat=v→∀ e,ol L b.to.toNat=some e→∃ d',ol (bs.foldl (lonx L) O) v=some d'∧d'≤b.w+e):=by
 induction bs with
 |nil=>intro O _ v;exact⟨fun d h=>.inl h,fun d h=>⟨d,h,Int.le_refl _⟩,fun b hb=>by simp at hb⟩
 |cons a bs ih=>
  intro O hn v
  have h1:=hb a (List.mem_cons_self ..)
  obtain⟨i1,i2,i3⟩:=ih (fun b h=>hb b (List.mem_cons_of_mem _ h)) (lonx L O a) (by rw[lonx_len,hn]) v
  have hr:=@ol_lonx L O a v (by omega)
  rw[List.foldl_cons]
  refine⟨fun d hd=>?_,fun d hd=>?_,fun b hb2 hv e he=>?_⟩
  ·rcases i1 d hd with h2|⟨b,h3,h4,h5⟩
   ·rw[hr] at h2
    cases h6:ol L a.to.toNat with
    |none=>rw[h6] at h2;exact .inl h2
    |some e=>
     rw[h6] at h2
     simp only at h2
     split at h2
     ·rename_i hv
      cases h7:ol O v with
      |none=>
       rw[h7] at h2;simp only[Option.some.injEq] at h2
       exact .inr ⟨a,List.mem_cons_self ..,hv.symm,e,h6,h2.symm⟩
      |some o=>
       rw[h7] at h2;simp only at h2
       split at h2
       ·simp only[Option.some.injEq] at h2
        exact .inr ⟨a,List.mem_cons_self ..,hv.symm,e,h6,h2.symm⟩
       ·exact .inl h2
     ·exact .inl h2
   ·exact .inr ⟨b,List.mem_cons_of_mem _ h3,h4,h5⟩
  ·have:∃ d',ol (lonx L O a) v=some d'∧d'≤d:=by
    rw[hr]
    cases h6:ol L a.to.toNat with
    |none=>exact⟨d,hd,Int.le_refl _⟩
    |some e=>
     simp only
     split
     ·rw[hd];simp only
      split
      ·exact⟨_,rfl,by omega⟩
      ·exact⟨_,rfl,Int.le_refl _⟩
     ·exact⟨d,hd,Int.le_refl _⟩
   obtain⟨d',h2,h3⟩:=this
   obtain⟨d2,h4,h5⟩:=i2 d' h2
   exact⟨d2,h4,by omega⟩
  ·rcases List.mem_cons.1 hb2 with rfl|hb2
   ·have:∃ d',ol (lonx L O b) v=some d'∧d'≤b.w+e:=by
     rw[hr,he];simp only
     rw[if_pos hv.symm]
     cases h7:ol O v with
     |none=>exact⟨_,rfl,Int.le_refl _⟩
     |some o=>
      simp only
      split
      ·exact⟨_,rfl,Int.le_refl _⟩
      ·exact⟨_,rfl,by omega⟩
    obtain⟨d',h2,h3⟩:=this
    obtain⟨d2,h4,h5⟩:=i2 d' h2
    exact⟨d2,h4,by omega⟩
   ·exact i3 b hb2 hv e he
theorem ol_rep (n v:Nat):ol (List.replicate n none) v=none:=by
 simp only[ol,List.getD_eq_getElem?_getD,List.getElem?_replicate];split <;> rfl
def tabP (n:Nat) (bs:List Bd) (v:Nat):Nat→List (Option Int)
 |0=>endP n v
 |k+1=>lonP n bs (tabP n bs v k)
theorem tabP_len (n:Nat) (bs:List Bd) (v k:Nat):(tabP n bs v k).length=n:=by
 cases k with
 |zero=>exact endP_len n v
 |succ k=>exact lonP_len n bs _
theorem tabP_wth (n:Nat) (bs:List Bd) (v k:Nat):WthL (k*absS bs) (tabP n bs v k):=by
 induction k with
 |zero=>rw[Nat.zero_mul];exact endP_wth n v
 |succ k ih=>
  rw[Nat.succ_mul]
  exact lonxs_wth ih bs (fun b hb=>by obtain⟨i,hi,rfl⟩:=bg_of hb;exact absS_le) _ (WthL.none _ _)
section
variable {n:Nat} {bs:List Bd} (hv:Vld n bs) {v:Nat} (hvn:v < n)
include hv hvn
theorem tab_some (k:Nat):∀ (u:Nat) (d:Int),ol (tabP n bs v k) u=some d→∃ l,l.length=k∧Wlk bs u l v∧lenP bs l=d:=by
 induction k with
 |zero=>
  intro u d h
  rw[tabP,endP,ol_set (by simpa using hvn),ol_rep] at h
  split at h
  ·rename_i c
   simp only[Option.some.injEq] at h
   exact⟨[],rfl,by simp[Wlk,c],by simp[lenP_nil,h]⟩
  ·cases h
 |succ k ih=>
  intro u d h
  rw[tabP] at h
  rcases(lonxs_spec bs hv.frs (List.replicate n none) (by simp) u).1 d h with h2|⟨b,h3,h4,e,h5,h6⟩
  ·rw[ol_rep] at h2;cases h2
  ·obtain⟨i,hi,rfl⟩:=bg_of h3
   have ho:=hv.ok i hi
   unfold Bd.ok at ho
   obtain⟨l,l1,l2,l3⟩:=ih _ _ h5
   refine⟨(i:Int)::l,by simp[l1],⟨by omega,?_,?_⟩,?_⟩
   ·rw[Int.toNat_natCast];omega
   ·rw[Int.toNat_natCast]
    rw[show((bg bs i).to.toNat:Int)=(bg bs i).to by omega] at l2;exact l2
   ·rw[lenP_cons,Int.toNat_natCast,l3,h6]
theorem tab_le (k:Nat):∀ (u:Nat) (l:List Int),l.length=k→Wlk bs u l v→∃ d,ol (tabP n bs v k) u=some d∧d≤lenP bs l:=by
 induction k with
 |zero=>
  intro u l hl hw
  obtain rfl:=List.eq_nil_of_length_eq_zero hl
  have:u=v:=by simp[Wlk] at hw;omega
  subst this
  rw[tabP,endP,ol_set (by simpa using hvn),if_pos rfl]
  exact⟨0,rfl,by simp[lenP_nil]⟩
 |succ k ih=>
  intro u l hl hw
  cases l with
  |nil=>simp at hl
  |cons i l=>
   obtain⟨h1,h2,h3⟩:=hw
   have ho:=hv.ok i.toNat (by omega)
   unfold Bd.ok at ho
   obtain⟨d,d1,d2⟩:=ih (bg bs i.toNat).to.toNat l (by simpa using hl) (by rw[show((bg bs i.toNat).to.toNat:Int)=(bg bs i.toNat).to by omega];exact h3)
   obtain⟨d',e1,e2⟩:=(lonxs_spec bs hv.frs (List.replicate n none) (by simp) u).2.2 (bg bs i.toNat) (bg_mem (by omega)) (by omega) d d1
   exact⟨d',e1,by rw[lenP_cons];omega⟩
def GoodW (bs:List Bd) (fr:Int) (v:Nat) (many:Nat) (good:Int→Bool):Prop:=∀ p q q' u,p.length+q.length=many→q'.length=q.length→Wlk bs fr p u→Wlk bs u q v→Wlk bs u q' v→lenP bs q'≤lenP bs q→good (lenP bs p+lenP bs q)=true→good (lenP bs p+lenP bs q')=true
theorem fst_main {T:List (List (Option Int))} {many:Nat} (hT:∀ r,r < many→T.getD r []=tabP n bs v r) {good:Int→Bool} {fr:Int} (hfr:0≤fr∧fr < n) (hG:GoodW bs fr v many good) :
  ∀ (r:Nat) (out:List Int) (at':Int),r+out.length=many→Wlk bs fr out at'→
   ((∃ q,q.length=r∧Wlk bs at' q v∧good (lenP bs out+lenP bs q)=true)→∃ q,fstP bs T good r at' (lenP bs out) out=out++q∧Fst (fun q=>q.length=r∧Wlk bs at' q v∧good (lenP bs out+lenP bs q)=true) q)∧
   (0 < r→(¬∃ q,q.length=r∧Wlk bs at' q v∧good (lenP bs out+lenP bs q)=true)→fstP bs T good r at' (lenP bs out) out=[]):=by
 intro r
 induction r with
 |zero=>
  intro out at' hr hw
  refine⟨fun ⟨q,h1,h2,h3⟩=>⟨[],by simp[fstP],?_⟩,fun h=>by omega⟩
  obtain rfl:=List.eq_nil_of_length_eq_zero h1
  refine⟨⟨rfl,h2,h3⟩,fun m hm=>?_⟩
  obtain rfl:=List.eq_nil_of_length_eq_zero hm.1
  exact Int.le_refl _
 |succ r ih=>
  intro out at' hr hw
  have hnx:∀ i:Nat,i < bs.length→(nxtP bs T good r at' (lenP bs out) i=true↔(bg bs i).fr=at'∧∃ q,q.length=r∧Wlk bs (bg bs i).to q v∧good (lenP bs out+lenP bs ((i:Int)::q))=true):=by
   intro i hi
   have ho:=hv.ok i hi
   unfold Bd.ok at ho
   have hto:((bg bs i).to.toNat:Int)=(bg bs i).to:=by omega
   unfold nxtP
   rw[hT r (by omega),Bool.and_eq_true,decide_eq_true_eq]
   refine and_congr_right fun hat=>?_
   constructor
   ·intro h
    cases h2:ol (tabP n bs v r) (bg bs i).to.toNat with
    |none=>unfold ol at h2;rw[h2] at h;cases h
    |some e=>
     obtain⟨q,q1,q2,q3⟩:=tab_some hv hvn r _ _ h2
     unfold ol at h2;rw[h2] at h
     exact⟨q,q1,by rw[←hto];exact q2,by rw[lenP_cons,Int.toNat_natCast,q3];exact h⟩
   ·rintro⟨q,q1,q2,q3⟩
    obtain⟨d,d1,d2⟩:=tab_le hv hvn r (bg bs i).to.toNat q q1 (by rw[hto];exact q2)
    obtain⟨q',p1,p2,p3⟩:=tab_some hv hvn r _ _ d1
    rw[hto] at p2
    have h5:∀ q,Wlk bs (bg bs i).to q v→Wlk bs at' ((i:Int)::q) v:=fun q hq=>⟨by omega,by rw[Int.toNat_natCast];exact hat,by rw[Int.toNat_natCast];exact hq⟩
    have h4:=hG out ((i:Int)::q) ((i:Int)::q') at' (by simp;omega) (by simp;omega) hw (h5 q q2) (h5 q' p2) (by rw[lenP_cons,lenP_cons];omega) q3
    unfold ol at d1;rw[d1]
    rw[lenP_cons,Int.toNat_natCast,p3] at h4;exact h4
  rw[fstP]
  rcases fidx_spec (nxtP bs T good r at' (lenP bs out)) bs.length 0 with ⟨h1,h2⟩|⟨j,h1,_,h3,h4,h5⟩
  ·have hno:¬∃ q,q.length=r+1∧Wlk bs at' q v∧good (lenP bs out+lenP bs q)=true:=by
    rintro⟨q,q1,q2,q3⟩
    cases q with
    |nil=>simp at q1
    |cons i q=>
     obtain⟨c1,c2,c3⟩:=q2
     have h6:=h2 i.toNat (by omega) (by omega)
     have h7:=(hnx i.toNat (by omega)).2 ⟨c2,q,by simpa using q1,c3,by rw[show((i.toNat:Nat):Int)=i by omega];exact q3⟩
     rw[h6] at h7;cases h7
   rw[h1,if_pos (by omega)]
   exact⟨fun h=>absurd h hno,fun _ _=>rfl⟩
  ·rw[Nat.zero_add] at h3
   obtain⟨k1,q,q1,q2,q3⟩:=(hnx j h3).1 h4
   have hy:∃ q,q.length=r+1∧Wlk bs at' q v∧good (lenP bs out+lenP bs q)=true:=⟨(j:Int)::q,by simp[q1],⟨by omega,by rw[Int.toNat_natCast];exact k1,by rw[Int.toNat_natCast];exact q2⟩,q3⟩
   refine⟨fun _=>?_,fun _ h=>absurd hy h⟩
   rw[h1,if_neg (by omega),Int.toNat_natCast]
   have hs:lenP bs out+(bg bs j).w=lenP bs (out++[(j:Int)]):=by rw[lenP_snoc,Int.toNat_natCast]
   have hl:∀ q,lenP bs out+lenP bs ((j:Int)::q)=lenP bs (out++[(j:Int)])+lenP bs q:=fun q=>by rw[lenP_cons,Int.toNat_natCast,←hs];omega
   rw[hs]
   obtain⟨q',e1,e2,e3⟩:=(ih (out++[(j:Int)]) (bg bs j).to (by simp;omega) (Wlk.app.2 ⟨at',hw,by rw[←k1];exact Wlk.one h3⟩)).1 ⟨q,q1,q2,by rw[←hl];exact q3⟩
   refine⟨(j:Int)::q',by rw[e1,List.append_assoc];rfl,⟨by simp[e2.1],⟨by omega,by rw[Int.toNat_natCast];exact k1,by rw[Int.toNat_natCast];exact e2.2.1⟩,by rw[hl];exact e2.2.2⟩,?_⟩
   rintro m ⟨m1,m2,m3⟩
   cases m with
   |nil=>simp at m1
   |cons i m=>
    obtain⟨c1,c2,c3⟩:=m2
    have h7:=(hnx i.toNat (by omega)).2 ⟨c2,m,by simpa using m1,c3,by rw[show((i.toNat:Nat):Int)=i by omega];exact m3⟩
    have hij:¬i < j:=fun h=>by
     have h6:=h5 i.toNat (by omega) (by omega)
     rw[h6] at h7;cases h7
    simp only[cmpL]
    by_cases c4:(j:Int) < i
    ·rw[if_pos c4];omega
    ·rw[if_neg c4,if_neg hij]
     obtain rfl:i=j:=by omega
     exact e3 m ⟨by simpa using m1,by rw[Int.toNat_natCast] at c3;exact c3,by rw[←hl];exact m3⟩
theorem fst_spec {T:List (List (Option Int))} {many:Nat} (hm:0 < many) (hT:∀ r,r < many→T.getD r []=tabP n bs v r) {good:Int→Bool} {fr:Int} (hfr:0≤fr∧fr < n) (hG:GoodW bs fr v many good) :
  ((∃ q,q.length=many∧Wlk bs fr q v∧good (lenP bs q)=true)∧Fst (fun q=>q.length=many∧Wlk bs fr q v∧good (lenP bs q)=true) (fstP bs T good many fr 0 []))∨
  ((¬∃ q,q.length=many∧Wlk bs fr q v∧good (lenP bs q)=true)∧fstP bs T good many fr 0 []=[]):=by
 have:=fst_main hv hvn hT hfr hG many [] fr (by simp) rfl
 simp only[lenP_nil,Int.zero_add,List.nil_append] at this
 by_cases c:∃ q,q.length=many∧Wlk bs fr q v∧good (lenP bs q)=true
 ·obtain⟨q,h1,h2⟩:=this.1 c
  exact .inl ⟨c,by rw[h1];exact h2⟩
 ·exact .inr ⟨c,this.2 hm c⟩
end
end Go.Proofs.YtaongbhamadlkaaGreat
