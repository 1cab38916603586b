/- Lemmas for a law. Conditions: none. -/
import Derived.Test.YtcpaopfdiahnnaaGreatZb16
import Derived.Scope
set_option linter.all false
set_option maxHeartbeats 32000000
set_option maxRecDepth 100000
namespace Go.Proofs.YtcpaopfdiahnnaaGreat
section
open W Go.RowKit
open Bl (Vc Bd Tc Sc)
structure LnM where
 a:Value
 m:Nat->QM
 b:QM
structure LnX where
 n:Nat
 a:Nat->Rat
 b:Rat
def fLx (m:LnM) (x:LnX):Fct where
 p h:=(fF m.a x.n m.m x.a).p h∧(isQ (qv m.b) x.b).p h
 mono _ _ hl hp:=⟨(fF _ _ _ _).mono _ _ hl hp.1,(isQ _ _).mono _ _ hl hp.2⟩
abbrev lcs (m:LnM):List Value:=[m.a,.bool m.b.1,m.b.2.1,.bool false,m.b.2.2]
abbrev Qp:Shp LnM LnX:=⟨5,λm _=>lcs m,fLx,by decide,λ_ _=>rfl⟩
def Q6.dbl {i:Int} {n:Nat} (h:Q6 i n):Q6 (2*i) (2*n):=by
 have e:=h.eq;subst e;have:(2*(n:Int))=((2*n:Nat):Int):=by simp
 rw[this];exact Q6.cast _
section
variable {M α:Type} {S:Shp M α} {P:Program} {e:Env} {bx bx':List Ow} {F:List Fct} {ty t el:TypeId} {v u:Value} {x y z:Operand} {n k:Nat} {ms:Nat->M} {xs:Nat->α} {K:Qd} {mm m2 m3:M} {lm l2 l3:LnM} {lx:LnX}
def W.Has.la (h:Has F (fLx lm lx)):Has F (fF lm.a lx.n lm.m lx.a):=λp hf=>(h p hf).1
def W.Has.lb (h:Has F (fLx lm lx)):Has F (isQ (qv lm.b) lx.b):=λp hf=>(h p hf).2
def W.Has.lof (h1:Has F (fF lm.a lx.n lm.m lx.a)) (h2:Has F (isQ (qv lm.b) lx.b)):Has F (fLx lm lx):=λp hf=>⟨h1 p hf,h2 p hf⟩
def one_l (h:Has F (fLx lm lx)):QC bx F (lcs lm):=.cons (One.sl (KnS.ff h.la)) (Yr h.lb)
def KW {α:Type} {xs:Nat->α} {n:Nat}:upd xs n (xs n)=xs:=by funext i;unfold upd;split <;> simp_all
def JQ:QV S n ms xs++S.cs mm (xs n)=QV S (n+1) (upd ms n mm) xs:=by
 have:=Vl (S:=S) (n:=n) (ms:=ms) (xs:=xs) (mm:=mm) (aa:=xs n)
 rwa [KW] at this
def JO:QV S n ms xs++S.cs (ms n) (xs n)=QV S (n+1) ms xs:=by
 have:=JQ (S:=S) (n:=n) (ms:=ms) (xs:=xs) (mm:=ms n)
 rwa [KW] at this
def W.Has.mappS (h:Has F (lM S n ms xs)) (hm:Has F (S.fc (ms n) (xs n))):Has F (lM S (n+1) ms xs):=by
 have:=h.mapp hm
 rwa [KW,KW] at this
def W.Has.Yg (h:Has F (lM S n ms xs)) (hm:Has F (S.fc mm (xs n))):Has F (lM S (n+1) (upd ms n mm) xs):=by
 have:=h.mapp hm
 rwa [KW] at this
def made_l (m0:M) (x0:α) {z:Value} (hz:z.cells.toList=S.cs m0 x0):(madeCells z.cells (n*S.w)).toList=QV S n (λ_=>m0) (λ_=>x0):=
 madeF n S.w z _ (by rw[<-Array.length_toList,hz,S.len]) S.pos λj=>by
  have hl:j % S.w < (S.cs m0 x0).length:=by rw[S.len];exact Nat.mod_lt _ S.pos
  rw[<-Array.getElem?_toList,hz];show _=some (JA S.w (λ_=>S.cs m0 x0) j);unfold JA;rw[List.getD_eq_getElem?_getD,List.getElem?_eq_getElem hl];rfl
def LO.makeL {t1 b:TypeId} {z:Value} {i:Int} (m0:M) (x0:α) (he:XU P t1 el S.w z b) (hz:z.cells.toList=S.cs m0 x0) (hx:ev e x=some (.int .i64 i)) (hy:ev e y=some (.int .i64 i)) (hi:Q6 i n) (hn:n<=1000000) (hb:b<=1000) (h:∀ v,K v (lO S v el n (λ_=>m0) (λ_=>x0)::bx) F):LO P (.makeSlice t1 x y) ty e bx F K:=by
 obtain rfl:=hi.eq;have:=Nat.mul_le_mul hb hn;exact LO.make he hx hy qo qo (made_l m0 x0 hz) h
def LO.appG {el' t1 b:TypeId} {n' c:Nat} {z:Value} {news:List Value} {ms':Nat->M} {xs':Nat->α} {bx2:Value->List Ow} (he:XU P t1 el S.w z b) (hx:ev e x=some v) (hy:ev e y=some u) (hu:Ow.slice u el' S.w news∈bx) (hn:QV S n ms xs++news=QV S n' ms' xs') (hc:news.length=c*S.w) (h1:QC bx F news) (hs:∀ v',Sel bx (lO S v el n ms xs) (lO S v' el n' ms' xs') (bx2 v')) (hb:b<=1000) (hw:S.w<=100) (hl:n<=1000000) (hc2:c<=10) (h:∀ v',K v' (bx2 v') F) :
  LO P (.call {callee:=.builtin .append,args:=#[x,y],argTypes:=#[t1,t1]}) ty e bx F K:=by
 refine LO.byP (λfr w ho=>h1.all ho) λh1=>?_;have hw1:n*S.w<=1000000*100:=Nat.mul_le_mul hl hw;have hw2:c*S.w<=10*100:=Nat.mul_le_mul hc2 hw;have hp:=S.pos
 exact LO.append he hx hy (news:=news) (by rw[hn];exact hs) (Ql.own hu hc hp) h1 (by
  rw[Qg,hc];have:=Nat.mul_le_mul (show n*S.w+c*S.w<=100001000 by omega) hb;omega) (by rw[Qg,hc];omega) h
end
def edT (T:Nat->Tc) (k:Nat):Ed:=⟨if k % 2=0 then(T (k / 2)).p else(T (k / 2)).q,T (k / 2)⟩
def edM (T:Nat->ToM) (k:Nat):EM:=⟨if k % 2=0 then(T (k / 2)).p else(T (k / 2)).q,T (k / 2)⟩
def edT_0 (T:Nat->Tc) (i:Nat):edT T (2*i)=⟨(T i).p,T i⟩∧edT T (2*i+1)=⟨(T i).q,T i⟩:=by
 unfold edT;rw[if_pos (show 2*i % 2=0 by omega),if_neg (show ¬(2*i+1) % 2=0 by omega),show 2*i / 2=i by omega,show(2*i+1) / 2=i by omega];exact⟨rfl,rfl⟩
def edM_0 (T:Nat->ToM) (i:Nat):edM T (2*i)=⟨(T i).p,T i⟩∧edM T (2*i+1)=⟨(T i).q,T i⟩:=by
 unfold edM;rw[if_pos (show 2*i % 2=0 by omega),if_neg (show ¬(2*i+1) % 2=0 by omega),show 2*i / 2=i by omega,show(2*i+1) / 2=i by omega];exact⟨rfl,rfl⟩
section
variable {e:Env} {bx bx':List Ow} {F:List Fct} {ty t el:TypeId} {v u:Value} {x y z:Operand} {n k:Nat} {K:Qd} {lm l2 l3:LnM} {vm:VM} {tm:ToM} {tc:Tc} {m m':QM} {vs:Int}
def YO.buildE (hx:ev e x=some (vv vm)) (hy:ev e y=some (tv tm tc)):YO Tryz.prog (.build 112 #[(0,x),(1,y)]) ty e bx F (.agg (vcs vm++tcs tm tc).toArray):=YO.build (parts:=[(0,x),(1,y)]) (.cons hx (.cons hy .nil)) λ_=>by kernel_rfl
def LO.bsE2 {a1 a2:VM} {t1 t2:ToM} {c1 c2:Tc} (hx:ev e x=some (.agg (vcs a1++tcs t1 c1).toArray)) (hy:ev e y=some (.agg (vcs a2++tcs t2 c2).toArray)) (h:∀ v,K v (Ow.slice v 112 38 ((vcs a1++tcs t1 c1)++(vcs a2++tcs t2 c2))::bx) F):LO Tryz.prog (.buildSlice 106 2 #[(0,x),(1,y)]) ty e bx F K:=
 LO.buildSlice (el:=112) (sz:=38) (parts:=[(0,x),(1,y)]) (us:=[.agg (vcs a1++tcs t1 c1).toArray,.agg (vcs a2++tcs t2 c2).toArray]) (cs:=(vcs a1++tcs t1 c1)++(vcs a2++tcs t2 c2)) (.cons hx (.cons hy .nil)) (λ_=>by kernel_rfl) rfl qd h
def YO.buildLb (hx:ev e x=some (qv m)):YO Tryz.prog (.build 110 #[(1,x)]) ty e bx F (.agg #[.slice none 0 0,.bool m.1,m.2.1,.bool false,m.2.2]):=YO.build (parts:=[(1,x)]) (.cons hx .nil) λ_=>by kernel_rfl
def YO.buildL2 {n':Nat} (hx:ev e x=some v) (hv:KnS bx F v n') (hy:ev e y=some (qv m)):YO Tryz.prog (.build 110 #[(0,x),(1,y)]) ty e bx F (.agg #[v,.bool m.1,m.2.1,.bool false,m.2.2]):=λn1 fr a w o h1 h2 h3 h4=>by
 obtain⟨a',c,rfl,_⟩:=(hv fr w h4).is;exact YO.build (parts:=[(0,x),(1,y)]) (us:=[.slice a' n' c,qv m]) (.cons hx (.cons hy .nil)) (λ_=>by kernel_rfl) n1 fr a w o h1 h2 h3 h4
def YO.buildPr {n':Nat} (hx:ev e x=some (.int .i64 vs)) (hy:ev e y=some v) (hv:KnS bx F v n'):YO Tryz.prog (.build 36 #[(0,x),(2,y)]) ty e bx F (.agg #[.int .i64 vs,.slice none 0 0,v]):=λn1 fr a w o h1 h2 h3 h4=>by
 obtain⟨a',c,rfl,_⟩:=(hv fr w h4).is;exact YO.build (parts:=[(0,x),(2,y)]) (us:=[.int .i64 vs,.slice a' n' c]) (.cons hx (.cons hy .nil)) (λ_=>by kernel_rfl) n1 fr a w o h1 h2 h3 h4
def LO.bsL1 {n':Nat} {a:Value} {b:QM} (hx:ev e x=some (.agg #[a,.bool b.1,b.2.1,.bool false,b.2.2])) (hv:KnS bx F a n') (h:∀ v,K v (Ow.slice v 110 5 [a,.bool b.1,b.2.1,.bool false,b.2.2]::bx) F):LO Tryz.prog (.buildSlice 33 1 #[(0,x)]) ty e bx F K:=by
 refine LO.byP (p:=∃ a' c,a=.slice a' n' c) (λfr w ho=>by obtain⟨a',c,h1,_⟩:=(hv fr w ho).is;exact⟨a',c,h1⟩) ?_;rintro⟨a',c,rfl⟩;exact LO.buildSlice (parts:=[(0,x)]) (us:=[.agg #[.slice a' n' c,.bool b.1,b.2.1,.bool false,b.2.2]]) (cs:=[.slice a' n' c,.bool b.1,b.2.1,.bool false,b.2.2]) (.cons hx .nil) (λ_=>by kernel_rfl) rfl qd h
def LO.bsL3 {n1 n2 n3:Nat} {a a2 a3:Value} {b b2 b3:QM} (hx:ev e x=some (.agg #[a,.bool b.1,b.2.1,.bool false,b.2.2])) (hy:ev e y=some (.agg #[a2,.bool b2.1,b2.2.1,.bool false,b2.2.2])) (hz:ev e z=some (.agg #[a3,.bool b3.1,b3.2.1,.bool false,b3.2.2])) (hv:KnS bx F a n1) (hv2:KnS bx F a2 n2) (hv3:KnS bx F a3 n3)
  (h:∀ v,K v (Ow.slice v 110 5 ([a,.bool b.1,b.2.1,.bool false,b.2.2]++([a2,.bool b2.1,b2.2.1,.bool false,b2.2.2]++[a3,.bool b3.1,b3.2.1,.bool false,b3.2.2]))::bx) F):LO Tryz.prog (.buildSlice 33 3 #[(0,x),(1,y),(2,z)]) ty e bx F K:=by
 refine LO.byP (p:=(∃ a' c,a=.slice a' n1 c)∧(∃ a' c,a2=.slice a' n2 c)∧∃ a' c,a3=.slice a' n3 c) (λfr w ho=>?_) ?_
 ·obtain⟨a1,c1,h1,_⟩:=(hv fr w ho).is;obtain⟨a2,c2,h2,_⟩:=(hv2 fr w ho).is;obtain⟨a3,c3,h3,_⟩:=(hv3 fr w ho).is;exact⟨⟨a1,c1,h1⟩,⟨a2,c2,h2⟩,⟨a3,c3,h3⟩⟩
 rintro⟨⟨a',c,rfl⟩,⟨a2',c2,rfl⟩,⟨a3',c3,rfl⟩⟩;exact LO.buildSlice (parts:=[(0,x),(1,y),(2,z)]) (us:=[.agg #[.slice a' n1 c,.bool b.1,b.2.1,.bool false,b.2.2],.agg #[.slice a2' n2 c2,.bool b2.1,b2.2.1,.bool false,b2.2.2],.agg #[.slice a3' n3 c3,.bool b3.1,b3.2.1,.bool false,b3.2.2]]) (.cons hx (.cons hy (.cons hz .nil))) (λ_=>by kernel_rfl) rfl qd h
def LO.appLn {el':TypeId} {a:Value} {b:QM} {mq:Nat->QM} {ms:Nat->LnM} {xs:Nat->LnX} {bx2:Value->List Ow} (hx:ev e x=some v) (hy:ev e y=some u) (hu:Ow.slice u el' 5 [a,.bool b.1,b.2.1,.bool false,b.2.2]∈bx) (hm:Has F (fLx ⟨a,mq,b⟩ (xs n))) (hs:∀ v',Sel bx (lO Qp v 110 n ms xs) (lO Qp v' 110 (n+1) (upd ms n ⟨a,mq,b⟩) xs) (bx2 v')) (hl:n<=1000000) (h:∀ v',K v' (bx2 v') F) :
  LO Tryz.prog (.call {callee:=.builtin .append,args:=#[x,y],argTypes:=#[33,33]}) ty e bx F K:=
 LO.appG (S:=Qp) (c:=1) T.e33 hx hy hu (JQ (S:=Qp) (mm:=⟨a,mq,b⟩)) rfl (one_l hm) hs qd qd hl qd h
def LO.appLn3 {el':TypeId} {a a2 a3:Value} {b b2 b3:QM} {mq mq2 mq3:Nat->QM} {ms:Nat->LnM} {xs:Nat->LnX} {bx2:Value->List Ow} (hx:ev e x=some v) (hy:ev e y=some u) (hu:Ow.slice u el' 5 ([a,.bool b.1,b.2.1,.bool false,b.2.2]++([a2,.bool b2.1,b2.2.1,.bool false,b2.2.2]++[a3,.bool b3.1,b3.2.1,.bool false,b3.2.2]))∈bx)
  (hm:Has F (fLx ⟨a,mq,b⟩ (xs n))) (hm2:Has F (fLx ⟨a2,mq2,b2⟩ (xs (n+1)))) (hm3:Has F (fLx ⟨a3,mq3,b3⟩ (xs (n+2)))) (hs:∀ v',Sel bx (lO Qp v 110 n ms xs) (lO Qp v' 110 (n+3) (upd (upd (upd ms n ⟨a,mq,b⟩) (n+1) ⟨a2,mq2,b2⟩) (n+2) ⟨a3,mq3,b3⟩) xs) (bx2 v')) (hl:n<=1000000) (h:∀ v',K v' (bx2 v') F) :
  LO Tryz.prog (.call {callee:=.builtin .append,args:=#[x,y],argTypes:=#[33,33]}) ty e bx F K:=
 LO.appG (S:=Qp) (c:=3) T.e33 hx hy hu (by
  rw[<-JQ (S:=Qp) (n:=n+2),<-JQ (S:=Qp) (n:=n+1),<-JQ (S:=Qp) (n:=n),List.append_assoc,List.append_assoc]) rfl ((one_l hm).app ((one_l hm2).app (one_l hm3))) hs qd qd hl qd h
def LO.appE2 {el':TypeId} {i:Nat} {A:Nat->ToM} {A':Nat->Tc} {bx2:Value->List Ow} (hx:ev e x=some v) (hy:ev e y=some u) (hu:Ow.slice u el' 38 (ecs ⟨(A i).p,A i⟩ ⟨(A' i).p,A' i⟩++ecs ⟨(A i).q,A i⟩ ⟨(A' i).q,A' i⟩)∈bx) (hm:Has F (fT (A i) (A' i))) (hs:∀ v',Sel bx (lO JY v 112 (2*i) (edM A) (edT A')) (lO JY v' 112 (2*(i+1)) (edM A) (edT A')) (bx2 v')) (hl:i<=1000) (h:∀ v',K v' (bx2 v') F) :
  LO Tryz.prog (.call {callee:=.builtin .append,args:=#[x,y],argTypes:=#[106,106]}) ty e bx F K:=
 LO.appG (c:=2) T.e106 hx hy hu (by
  have h1:=JO (S:=JY) (n:=2*i) (ms:=edM A) (xs:=edT A');have h2:=JO (S:=JY) (n:=2*i+1) (ms:=edM A) (xs:=edT A');rw[<-h1,(edT_0 A' i).1,(edM_0 A i).1,(edT_0 A' i).2,(edM_0 A i).2,List.append_assoc] at h2;exact h2) rfl ((one_e (W.Has.eof (W.Has.tp hm) hm)).app (one_e (W.Has.eof (W.Has.tq hm) hm))) hs qd qd qo qd h
def LO.makePu {i:Int} (hx:ev e x=some (.int .i64 i)) (hy:ev e y=some (.int .i64 i)) (hi:Q6 i n) (hn:n<=1000000) (h:∀ v,K v (lO QD v 83 n (λ_=>(m00,m00)) (λ_=>⟨0,0⟩)::bx) F):LO Tryz.prog (.makeSlice 59 x y) ty e bx F K:=LO.makeL (S:=QD) (m00,m00) ⟨0,0⟩ T.e59 rfl hx hy hi hn qd h
def LO.appR2 {el':TypeId} {ms:Nat->QM} {a b:Rat} {bx2:Value->List Ow} (hx:ev e x=some v) (hy:ev e y=some u) (hu:Ow.slice u el' 4 (Qe 2 (upd (upd (λ_=>m00) 0 m) 1 m'))∈bx) (hm:Has F (isQ (qv m) a)) (hm':Has F (isQ (qv m') b)) (hs:∀ v',Sel bx (.slice v 64 4 (Qe n ms)) (.slice v' 64 4 (Qe (n+2) (upd (upd ms n m) (n+1) m'))) (bx2 v')) (hl:n<=1000000) (h:∀ v',K v' (bx2 v') F) :
  LO Tryz.prog (.call {callee:=.builtin .append,args:=#[x,y],argTypes:=#[34,34]}) ty e bx F K:=by
 have e2:Qe 2 (upd (upd (λ_=>m00) 0 m) 1 m')=qcs m++qcs m':=by
  rw[<-Xz,<-Xz,show Qe 0 (λ_=>m00)=[] from rfl,List.nil_append]
 rw[e2] at hu;refine LO.byP (λfr w ho=>((Yr (bx:=bx) hm).app (Yr hm')).all ho) λh1=>?_;exact LO.append T.e34 hx hy (news:=qcs m++qcs m') (by rw[<-List.append_assoc,Xz,Xz];exact hs) (Ql.own (n:=2) hu rfl qd) h1 (by rw[Qg];show(n*4+8)*64<=_;omega) (by rw[Qg];show n*4+8<=_;omega) h
end
end
section
open W Go.RowKit
abbrev XO (w:Nat) (v:Value) (ms:Nat->QM):Ow:=Ow.slice v 64 4 (Qe w ms)
def VZ (l:List Nat) (w:Nat) (rv:Nat->Value) (ms:Nat->Nat->QM):List Ow:=l.map λi=>XO w (rv i) (ms i)
abbrev J4 (m w:Nat) (rv:Nat->Value) (ms:Nat->Nat->QM):List Ow:=VZ (List.range m) w rv ms
abbrev ZD (m w:Nat) (rv:Nat->Value) (ms:Nat->Nat->QM) (r:Nat):List Ow:=VZ ((List.range m).erase r) w rv ms
abbrev HJ (m w:Nat) (rv:Nat->Value) (ms:Nat->Nat->QM) (r i:Nat):List Ow:=VZ (((List.range m).erase r).erase i) w rv ms
section
variable {m w r i:Nat} {rv:Nat->Value} {ms:Nat->Nat->QM} {x y:Nat->QM}
def J9 (h:r < m):(J4 m w rv ms).Perm (XO w (rv r) (ms r)::ZD m w rv ms r):=by
 have:=(List.perm_cons_erase (List.mem_range.2 h)).map λi=>XO w (rv i) (ms i);exact this
def rowsX_upd:ZD m w rv (upd ms r x) r=ZD m w rv ms r:=by
 unfold ZD VZ;refine List.map_congr_left λj hj=>?_;rw[upd_ne ((List.nodup_range.mem_erase_iff).1 hj).1]
def rows_upd (h:r < m):(J4 m w rv (upd ms r x)).Perm (XO w (rv r) x::ZD m w rv ms r):=by
 have:=J9 (w:=w) (rv:=rv) (ms:=upd ms r x) h
 rwa [rowsX_upd,QJ] at this
def rows_two (hr:r < m) (hi:i < m) (hne:i≠r):(J4 m w rv ms).Perm (XO w (rv i) (ms i)::XO w (rv r) (ms r)::HJ m w rv ms r i):=by
 refine(J9 hr).trans ?_;have:=(List.perm_cons_erase ((List.nodup_range.mem_erase_iff).2 ⟨hne,List.mem_range.2 hi⟩)).map λi=>XO w (rv i) (ms i);exact(List.Perm.cons _ this).trans (List.Perm.swap _ _ _)
def rowsY_upd:HJ m w rv (upd ms i x) r i=HJ m w rv ms r i:=by
 unfold HJ VZ;refine List.map_congr_left λj hj=>?_;rw[upd_ne ((((List.nodup_range).erase _).mem_erase_iff).1 hj).1]
def Gl (hr:r < m) (hi:i < m) (hne:i≠r):(J4 m w rv (upd ms i x)).Perm (XO w (rv i) x::XO w (rv r) (ms r)::HJ m w rv ms r i):=by
 have:=rows_two (w:=w) (rv:=rv) (ms:=upd ms i x) hr hi hne
 rwa [rowsY_upd,QJ,upd_ne (λh=>hne h.symm)] at this
end
def fnV (m:Nat) (rv:Nat->Value):List Value:=(List.range m).map rv
def fnL (m:Nat) (b:Nat->Nat):List Int:=(List.range m).map λi=>(b i:Int)
def Ku (m:Nat) (rv:Nat->Value):(fnV m rv).length=m:=by simp[fnV]
def HT {m:Nat} {rv:Nat->Value} {i:Nat} (h:i < m):(fnV m rv)[i]?=some (rv i):=by simp[fnV,h]
def fnL_len (m:Nat) (b:Nat->Nat):(fnL m b).length=m:=by simp[fnL]
def fnL_set {m:Nat} {b:Nat->Nat} {r c:Nat}:(fnL m b).set r (c:Int)=fnL m (upd b r c):=by
 apply List.ext_getElem?;intro j;rw[List.getElem?_set,fnL_len];by_cases e:r=j
 ·subst e;rw[if_pos rfl];by_cases h:r < m
  ·rw[if_pos h];simp[fnL,h,QJ]
  ·rw[if_neg h];simp[fnL,h]
 ·rw[if_neg e];by_cases h:j < m
  ·simp[fnL,h,upd_ne (λh=>e h.symm)]
  ·simp[fnL,h]
def mT (m w:Nat) (ms:Nat->Nat->QM) (t:Nat->Nat->Rat):Fct where
 p h:=∀ i,i < m->∀ k,k < w->(isQ (qv (ms i k)) (t i k)).p h
 mono _ _ hl hp i hi k hk:=(isQ _ _).mono _ _ hl (hp i hi k hk)
def rF (m w:Nat) (rv:Nat->Value) (ms:Nat->Nat->QM) (t:Nat->Nat->Rat):Fct where
 p h:=(∀ i,i < m->(slC (rv i) w 4 (JS (ms i))).p h)∧(mT m w ms t).p h
 mono _ _ hl hp:=⟨λi hi=>(slC _ _ _ _).mono _ _ hl (hp.1 i hi),(mT _ _ _ _).mono _ _ hl hp.2⟩
section
variable {P:Program} {e:Env} {bx bx':List Ow} {F:List Fct} {ty t el:TypeId} {v u:Value} {x y:Operand} {m w i k:Nat} {rv:Nat->Value} {ms:Nat->Nat->QM} {tq:Nat->Nat->Rat} {K:Qd}
def W.Has.rt (h:Has F (rF m w rv ms tq)):Has F (mT m w ms tq):=λp hf=>(h p hf).2
def W.Has.rs (h:Has F (rF m w rv ms tq)) (hi:i < m):Has F (slC (rv i) w 4 (JS (ms i))):=λp hf=>(h p hf).1 i hi
def W.Has.qt (h:Has F (mT m w ms tq)) (hi:i < m) (hk:k < w):Has F (isQ (qv (ms i k)) (tq i k)):=λp hf=>h p hf i hi k hk
def W.Has.tm (h:Has F (mT m w ms tq)) (hi:i < m):Has F (mF w (ms i) (tq i)):=λp hf k hk=>h p hf i hi k hk
def W.Has.tr (h:Has F (rF m w rv ms tq)) (hi:i < m):Has F (fF (rv i) w (ms i) (tq i)):=λp hf=>⟨(h p hf).1 i hi,λk hk=>(h p hf).2 i hi k hk⟩
def W.Has.tset {x:Nat->QM} {q:Nat->Rat} (h:Has F (mT m w ms tq)) (hx:Has F (mF w x q)):Has F (mT m w (upd ms i x) (upd tq i q)):=λp hf j hj k hk=>by
 by_cases c:j=i
 ·subst c;rw[QJ,QJ];exact hx p hf k hk
 ·rw[upd_ne c,upd_ne c];exact h p hf j hj k hk
def W.Has.tsame {t':Nat->Nat->Rat} (h:Has F (mT m w ms tq)) (he:∀ i,i < m->∀ k,k < w->tq i k=t' i k):Has F (mT m w ms t'):=λp hf i hi k hk=>by
 rw[<-he i hi k hk];exact h p hf i hi k hk
def KnS.rf (h:Has F (rF m w rv ms tq)) (hi:i < m):KnS bx F (rv i) w:=KnS.f (h.rs hi)
def KnS.oV (h:Ow.slice v el 1 (fnV m rv)∈bx):KnS bx F v m:=KnS.o h (by rw[Ku,Nat.mul_one]) qd
def KnS.oN {b:Nat->Nat} (h:Ow.slice v el 1 (ints (fnL m b))∈bx):KnS bx F v m:=KnS.o h (by simp[fnL]) qd
def YO.ldOV (hs:Qw P t) (hx:ev e x=some (.pointer (some (eaddr v i)))) (hb:Ow.slice v el 1 (fnV m rv)∈bx) (hi:i < m):YO P (.load t x) ty e bx F (rv i):=YO.ldO hs hx hb (HT hi)
def YO.ldON {b:Nat->Nat} (hs:Qw P t) (hx:ev e x=some (.pointer (some (eaddr v i)))) (hb:Ow.slice v el 1 (ints (fnL m b))∈bx) (hi:i < m):YO P (.load t x) ty e bx F (.int .i64 (b i)):=YO.ldO hs hx hb (by simp[fnL,hi])
def YO.ldRf (hs:Row P t 4) (hx:ev e x=some (.pointer (some (eaddr (rv i) (k*4))))) (hf:Has F (rF m w rv ms tq)) (hi:i < m) (hk:k < w):YO P (.load t x) ty e bx F (qv (ms i k)):=YO.ldFf hs hx (hf.tr hi) hk
def QF.rF (hb:∀ i,i < m->XO w (rv i) (ms i)∈bx) (hm:Has F (mT m w ms tq)):QF bx F (rF m w rv ms tq):=λfr w' ho=>
 ⟨λi hi=>QF.o (hb i hi) (Qg _ _) qd (λj hj=>QE hj) fr w' ho,QF.f hm fr w' ho⟩
def mem_rows {i:Nat} (hi:i < m):XO w (rv i) (ms i)∈J4 m w rv ms:=List.mem_map.2 ⟨i,List.mem_range.2 hi,rfl⟩
def QF.rows (hs:(J4 m w rv ms).Sublist bx) (hm:Has F (mT m w ms tq)):QF bx F (Go.Proofs.YtcpaopfdiahnnaaGreat.rF m w rv ms tq):=QF.rF (λ_ hi=>hs.subset (mem_rows hi)) hm
abbrev sV (v:Value) (m:Nat) (rv:Nat->Value):Fct:=slC v m 1 rv
def QF.sV (hb:Ow.slice v el 1 (fnV m rv)∈bx):QF bx F (sV v m rv):=QF.o hb (by rw[Ku,Nat.mul_one]) qd λj hj=>HT qo
abbrev sN (v:Value) (m:Nat) (b:Nat->Nat):Fct:=slC v m 1 λi=>.int .i64 (b i)
def QF.sN {b:Nat->Nat} (hb:Ow.slice v el 1 (ints (fnL m b))∈bx):QF bx F (sN v m b):=QF.o hb (by simp[fnL]) qd λj hj=>by
 have hj':j < m:=qo;simp[fnL,hj']
end
section
variable {P:Program} {n:Nat} {c x y:Code} {L rest:List Oper} {e:Env} {bx bx' r:List Ow} {F:List Fct} {Q:Post} {Q2:Env->List Ow->List Fct->Prop}
def WC.perm (bx':List Ow) (hp:bx.Perm bx') (h:WC P n c e bx' F Q):WC P n c e bx F Q:=λfr w0 a w hk hr ho=>h fr w0 a w hk hr (ho.perm hp)
def WL.perm (bx':List Ow) (hp:bx.Perm bx') (h:WL P n L rest e bx' F Q2):WL P n L rest e bx F Q2:=λfr w0 a w Q' hQ hk hr ho=>h fr w0 a w Q' hQ hk hr (ho.perm hp)
def WD.perm {hs:List Nat} {b0:List Ow} {F0:List Fct} {p:Plan} (bx':List Ow) (hp:bx.Perm bx') (h:WD P n L hs b0 F0 p e bx' F Q2):WD P n L hs b0 F0 p e bx F Q2:=λfr w0 listed a w fuel Q' h1 h2 h3 h4 h5 h6 hk hr ho hf=>h fr w0 listed a w fuel Q' h1 h2 h3 h4 h5 h6 hk hr (ho.perm hp) hf
def WD.Y3 {hs:List Nat} {b0:List Ow} {F0 F':List Fct} {p:Plan} {i d:Nat} {f:FuncId} {x:Operand} {args:List Operand} {ats:Array TypeId} {vs:List Value} {R:Qd} {ty:TypeId} {pos:String} {af:Array Edge} {gd:Option (Nat×Bool)} (ba br:List Ow) (hp:bx.Perm (ba++br)) (hf:FnB P f vs ba F' R) (hK:∀ v b G,R v b G->WD P n L hs b0 F0 p ((d,v)::e) (b++br) (G++F) Q2)
  (hL:L[i]?=some ⟨some d,.call {callee:=.value x,args:=args.toArray,argTypes:=ats},ty,pos,af,gd⟩:=by exact rfl) (hx:ev e x=some (.func (.func f) #[] #[]):=by exact rfl) (hv:Evs e args vs:=by repeat(first|exact Evs.nil|(apply Evs.cons;exact rfl))) (hF:Qk F F':=by repeat(first|exact Qk.nil|(apply Qk.cons;exact hsA)))
  (hd:Nat.blt d n=true:=by exact rfl) (hg:gok L e gd=some true:=by exact rfl) (lt:QN L hs i=true:=by kernel_rfl):WD P n L hs b0 F0 (.loud i p) e bx F Q2:=
 WD.l hL hd hg (LO.call (first:=[]) (cap:=[]) hx hv ba br hp (by simpa using hf) hF.all λv b G hR=>⟨.inl lt,hK v b G hR⟩)
def WD.Xw {hs:List Nat} {b0:List Ow} {F0 F':List Fct} {p:Plan} {i d:Nat} {f:FuncId} {x:Operand} {args:List Operand} {ats:Array TypeId} {vs:List Value} {R:Qd} {ty:TypeId} {pos:String} {af:Array Edge} {gd:Option (Nat×Bool)} (first cap:List Value) (hf:FnB P f (first++vs++cap) [] F' R) (hK:∀ v b G,R v b G->WD P n L hs b0 F0 p ((d,v)::e) (b++bx) (G++F) Q2)
  (hL:L[i]?=some ⟨some d,.call {callee:=.value x,args:=args.toArray,argTypes:=ats},ty,pos,af,gd⟩:=by exact rfl) (hx:ev e x=some (.func (.func f) first.toArray cap.toArray):=by exact rfl) (hv:Evs e args vs:=by repeat(first|exact Evs.nil|(apply Evs.cons;exact rfl))) (hF:Qk F F':=by repeat(first|exact Qk.nil|(apply Qk.cons;exact hsA)))
  (hd:Nat.blt d n=true:=by exact rfl) (hg:gok L e gd=some true:=by exact rfl) (lt:QN L hs i=true∨(b0.Sublist bx∧∀ f∈F0,f∈F):=by(first|(focus(apply Or.inr;constructor;(repeat(first|exact List.Sublist.refl _|exact List.nil_sublist _|apply List.Sublist.cons_cons|apply List.Sublist.cons));(first|exact λ_ h=>h|(intro f hf;(repeat(first|exact hf|apply List.Mem.tail))));done))|(apply Or.inl;kernel_rfl))):WD P n L hs b0 F0 (.loud i p) e bx F Q2:=
 WD.l hL hd hg (LO.call hx hv [] bx (.refl _) hf hF.all λv b G hR=>⟨lt.imp id λh=>⟨h.1.trans (List.sublist_append_right _ _),λf hf=>List.mem_append_right _ (h.2 f hf)⟩,hK v b G hR⟩)
def WL.Xw {F':List Fct} {d:Nat} {f:FuncId} {x:Operand} {args:List Operand} {ats:Array TypeId} {vs:List Value} {R:Qd} {ty:TypeId} {pos:String} {af:Array Edge} {gd:Option (Nat×Bool)} (first cap:List Value) (hf:FnB P f (first++vs++cap) [] F' R) (hK:∀ v b G,R v b G->WL P n L rest ((d,v)::e) (b++bx) (G++F) Q2)
  (hx:ev e x=some (.func (.func f) first.toArray cap.toArray):=by exact rfl) (hv:Evs e args vs:=by repeat(first|exact Evs.nil|(apply Evs.cons;exact rfl))) (hF:Qk F F':=by repeat(first|exact Qk.nil|(apply Qk.cons;exact hsA)))
  (hd:Nat.blt d n=true:=by exact rfl) (hg:gok L e gd=some true:=by exact rfl):WL P n L (⟨some d,.call {callee:=.value x,args:=args.toArray,argTypes:=ats},ty,pos,af,gd⟩::rest) e bx F Q2:=
 WL.l hd hg (LO.call hx hv [] bx (.refl _) hf hF.all hK)
def W.Qk.tail:∀ {F G:List Fct},(∀ f∈G,f∈F)->Qk F G
 |_,[],_=>.nil
 |_,g::G,h=>.cons (Has.mem (h g (List.mem_cons_self ..))) (W.Qk.tail λf hf=>h f (List.mem_cons_of_mem _ hf))
def perm3 (a b c:Ow) (r:List Ow):(c::a::b::r).Perm (a::b::c::r):=by
 have h:([c,a,b]:List Ow).Perm [a,b,c]:=(List.perm_middle (a:=c) (l₁:=[a,b]) (l₂:=[])).symm;exact h.append_right r
def perm6 {a b c d x y:Ow} {r R:List Ow} (h:R.Perm (x::y::r)):(a::b::c::d::R).Perm ([x,y]++(a::b::c::d::r)):=by
 have h1:(a::b::c::d::R).Perm ([a,b,c,d]++([x,y]++r)):=(((h.cons d).cons c).cons b).cons a;refine h1.trans ?_;rw[<-List.append_assoc];have h2:([a,b,c,d]++[x,y]).Perm ([x,y]++[a,b,c,d]):=List.perm_append_comm;have h3:=h2.append_right r;rw[List.append_assoc [x,y]] at h3;exact h3
def perm5 {a b c d x:Ow} {r R:List Ow} (h:R.Perm (x::r)):(a::b::c::d::R).Perm ([c,x]++(a::b::d::r)):=by
 have h1:(a::b::c::d::R).Perm ([a,b,c,d,x]++r):=(((h.cons d).cons c).cons b).cons a;refine h1.trans ?_
 have h2:([a,b,c,d,x]:List Ow).Perm [c,x,a,b,d]:=by
  have e1:([a,b,c,d,x]:List Ow).Perm (c::[a,b,d,x]):=List.perm_middle (l₁:=[a,b]) (l₂:=[d,x])
  have e2:([a,b,d,x]:List Ow).Perm (x::[a,b,d]):=by
   have:=List.perm_middle (a:=x) (l₁:=[a,b,d]) (l₂:=[]);simpa using this
  exact e1.trans (e2.cons c)
 exact h2.append_right r
def YO.eqNz {t el sz m:Nat} {x:Operand} {v:Value} {ty:TypeId} (hs:Qu P t el sz) (hx:ev e x=some v) (hv:KnS bx F v m) (ty2:TypeId):YO P (.binOp .eql t x (.const (.slice none 0 0)) ty2) ty e bx F (.bool (isNil v)):=.of λk fr a w o hop hk ho=>by
 have hx':=hk.eval hx;obtain⟨a',cap,rfl,_,_,h5⟩:=(hv fr w ho).is;have he:(eqGuard .eql t x (.const (.slice none 0 0)) (.slice a' m cap) (.slice none 0 0)).run P w=.ok () w:=by unfold eqGuard;simp[Sem.run_pure]
 have h2:a.eval (.const (.slice none 0 0))=.slice none 0 0:=rfl;have he2:∀ es,(eqGuard .eql t x (.const (.slice none 0 0)) (.slice a' m cap) (.slice none 0 0)).events P w es=es:=λes=>by unfold eqGuard;simp
 have h3:(Op.equal t (.slice a' m cap) (.slice none 0 0)).run P w=.ok (isNil (.slice a' m cap)) w:=run_eqnil 9999 w hs.1;have h4:∀ es,(Op.equal t (.slice a' m cap) (.slice none 0 0)).events P w es=es:=λes=>ev_eqnil 9999 w es hs.1;constructor <;> simp[execOp,hop,hx',h2,he,he2,binOp,h3,h4]
def YO.eqNz_t {t el sz m:Nat} {x:Operand} {v:Value} {ty ty2:TypeId} (hs:Qu P t el sz) (hx:ev e x=some v) (hv:KnS bx F v m) (h:isNil v=true):YO P (.binOp .eql t x (.const (.slice none 0 0)) ty2) ty e bx F (.bool true):=by rw[<-h];exact YO.eqNz hs hx hv ty2
def YO.eqNz_f {t el sz m:Nat} {x:Operand} {v:Value} {ty ty2:TypeId} (hs:Qu P t el sz) (hx:ev e x=some v) (hv:KnS bx F v m) (h:isNil v=false):YO P (.binOp .eql t x (.const (.slice none 0 0)) ty2) ty e bx F (.bool false):=by rw[<-h];exact YO.eqNz hs hx hv ty2
def WC.nilF {v:Value} {m:Nat} {ms:Nat->QM} {q:Nat->Rat} (hf:Has F (fF v m ms q)) (hn:isNil v=true) (h:m=0->WC P n c e bx F Q):WC P n c e bx F Q:=
 WC.pure (λfr w ho=>by
  obtain⟨a,cap,rfl,h2,h3,h4|⟨b,off,rfl,_⟩⟩:=ho.has hf.fs
  ·exact h4.2.1
  ·cases hn) h
def one_fcells {F:List Fct} {n':Nat} {ms:Nat->QM} {q:Nat->Rat} {fr:CF} {w:World} (ho:OK fr bx F w) (hm:Has F (mF n' ms q)):∀ c∈Qe n' ms,c.oneCell'=true:=λc hc=>by
 simp only[Qe,XL,List.mem_map,List.mem_range] at hc;obtain⟨j,hj,rfl⟩:=hc;have:=(Yr (m:=ms (j / 4)) (bx:=bx) (W.Has.q hm (k:=j / 4) qo)).all ho;unfold JS;have hr:=X5 (l:=qcs (ms (j / 4))) (r:=j % 4) (n:=4) rfl qo;exact this _ (List.mem_of_getElem? hr)
def LO.appFf {n':Nat} {v u:Value} {x y:Operand} {ty:TypeId} {K:Qd} {ms:Nat->QM} {q:Nat->Rat} {bx2:Value->List Ow} (hx:ev e x=some v) (hy:ev e y=some u) (hu:Has F (fF u n' ms q)) (hs:∀ v',Sel bx (.slice v 64 4 []) (.slice v' 64 4 (Qe n' ms)) (bx2 v')) (hl:n'<=1000000) (h:∀ v',K v' (bx2 v') F) :
  LO Tryz.prog (.call {callee:=.builtin .append,args:=#[x,y],argTypes:=#[34,34]}) ty e bx F K:=by
 refine LO.byP (λfr w ho=>one_fcells ho hu.fm) λh1=>?_;exact LO.append T.e34 hx hy (cs:=[]) (news:=Qe n' ms) hs (Ql.fact hu.fs) h1 (by rw[Qg,List.length_nil];omega) (by rw[Qg,List.length_nil];omega) h
def Xh {σ:Type} (E:σ->Env) (B:σ->List Ow) (G:σ->List Fct) (I:σ->Prop) (μ:σ->Nat) (s:σ) (e':Env) (bx':List Ow) (F':List Fct):Prop:=∃ s',(I s'∧μ s' < μ s)∧W.Sub (E s') e'∧(∃ r,bx'.Perm (B s'++r))∧Qk F' (G s')
def WC.lpP {σ:Type} (E:σ->Env) (B:σ->List Ow) (G:σ->List Fct) (I:σ->Prop) (μ:σ->Nat) (s0:σ) (hI:I s0) (hround:∀ s,I s->WC P n c (E s) (B s) (G s) (Xm (Xh E B G I μ s) Q))
  (hE:W.Sub (E s0) e:=by repeat(first|exact Sub.nil _|refine Sub.cons rfl ?_)) (hB:(B s0).Sublist bx:=by repeat(first|exact List.Sublist.refl _|exact List.nil_sublist _|apply List.Sublist.cons_cons|apply List.Sublist.cons)) (hG:Qk F (G s0):=by repeat(first|exact Qk.nil|(apply Qk.cons;exact hmA))):WC P n (.loop c) e bx F Q:=
 WC.loop E B G I μ s0 hI hE hB hG.all λs hs fr w0 a w hk hr ho=>Xo (hround s hs fr w0 a w hk hr ho) λown ex a' w' hq=>by
  cases ex <;> first|exact hq|skip
  obtain⟨hw,e1,b1,F1,h1,h2,h3,s',h4,h5,⟨r,h6⟩,h7⟩:=hq;exact⟨hw,e1,B s',F1,h1,h2,(h3.perm h6).drop (List.sublist_append_left _ _),s',h4,h5,List.Sublist.refl _,h7.all⟩
def Xh.mk {σ:Type} {E:σ->Env} {B:σ->List Ow} {G:σ->List Fct} {I:σ->Prop} {μ:σ->Nat} {s:σ} {e':Env} {F':List Fct} (s':σ)
  (hI:I s') (hμ:μ s' < μ s) (r:List Ow) (hp:bx.Perm (B s'++r)) (hE:W.Sub (E s') e':=by repeat(first|exact Sub.nil _|refine Sub.cons rfl ?_)) (hG:Qk F' (G s'):=by repeat(first|exact Qk.nil|(apply Qk.cons;exact hmA))):Xh E B G I μ s e' bx F':=⟨s',⟨hI,hμ⟩,hE,⟨r,hp⟩,hG⟩
end
end
section
open W Go.RowKit
def nrm_take {l:List Int} {n:Nat} (hn:n<=l.length) (h:0 < n->l.getD (n - 1) 0≠0):Nrm (l.take n):=λh0=>by
 have e:(l.take n).length=n:=by simp;omega
 rw[e] at h0 ⊢;rw[Zl qo];exact h h0
def YZ {l:List Int} {n:Nat} (hn:n<=l.length) (hz:∀ j,n<=j->j < l.length->l.getD j 0=0):val (l.take n)=val l:=by
 have:∀ k,n+k<=l.length->val (l.take (n+k))=val (l.take n):=λk=>by
  induction k with
  |zero=>intro _;rfl
  |succ k ih=>
   intro hk;rw[show n+(k+1)=(n+k)+1 by omega,ZC qo,hz (n+k) qo qo,ih qo];omega
 have:=this (l.length - n) qo;rw[show n+(l.length - n)=l.length by omega,List.take_length] at this;exact this.symm
def Vx {l:List Int} {n:Nat} (hd:Dg l) (hn:n<=l.length) (hz:∀ j,n<=j->j < l.length->l.getD j 0=0) (h:0 < n->l.getD (n - 1) 0≠0):l.take n=Qx (val l).toNat:=by
 rw[<-YZ hn hz];exact digs_val (hd.take n) (nrm_take hn h)
attribute [local irreducible] WC WL WD YO LO Qq W.Fin Qw Qu Qj Row QQ Qy KnS Has W.One Ql Qr
def YL (u:Value) (nb:Bool) (l:List Int) (z:Int) (hd:Dg l) (hz:z.natAbs=(val l).toNat) (hb:val l≠0->nb=decide (z < 0)):FnB Tryz.prog 170 [.bool nb,u] [] [sI u l] (IsZ z):=by
 refine fO [(0,(.bool nb)),(1,u)] 29 Tryz.func170 Tryz.ntmps170 λh0=>?_;refine WC.K4 u l hmA λhlen=>?_;have hv0:=Qn hd;repeat'(first|intro(g:Nat)|refine gA ?_|intro v)
 refine WC.lp (σ:=Nat) (λn=>[(5,.int .i64 (n:Int)),(0,.bool nb),(1,u),(4,ptr g)]) (λ_=>[Ow.cells g 62 [.bool false,.slice none 0 0]]) (λ_=>[ge h0,sI u l]) (λn=>n<=l.length∧∀ j,n<=j->j < l.length->l.getD j 0=0) (λn=>n) l.length ⟨by simp,λj h1 h2=>by omega⟩ ?_;rintro n ⟨hn,hzr⟩;by_cases h:0 < n
 ·have e1:((n:Int) - 1).toNat=n - 1:=qo;by_cases h2:l.getD (n - 1) 0=0
  ·have h3:l.getD ((n:Int) - 1).toNat 0=0:=by rw[e1];exact h2
   repeat'(first|intro(g:Nat)|refine gA ?_|intro v)
   exact Qq.mk (n - 1) ⟨by omega,λj h4 h5=>if hj:j=n - 1 then hj ▸ h2 else hzr j qo h5⟩ qo (by rw[show((n - 1:Nat):Int)=(n:Int) - 1 by omega];exact suA)
  ·have h3:l.getD ((n:Int) - 1).toNat 0≠0:=by rw[e1];exact h2
   have hc:=Vx hd hn hzr (λ_=>h2)
   have hvne:val l≠0:=λhv=>by
    rw[hv] at hc;have:(l.take n).length=n:=by simp;omega
    rw[hc] at this;simp[Ju] at this;omega
   repeat'(first|intro(g:Nat)|refine gA ?_|intro v)
   refine WL.QG (sI (resl3 u n n) (l.take n)) (Has.res3 hmA hn) ?_;rw[hc,<-hz];repeat'(first|intro(g:Nat)|refine gA ?_|intro v)
   refine WC.fact (isZ (.agg #[.bool nb,resl3 u n n]) z) (Jp (hb hvne) hmA) ?_;refine WC.ret ?_;exact Fp [isZ (.agg #[.bool nb,resl3 u n n]) z] (rcV T.r62) haA ⟨nb,_,rfl,hb hvne,rfl,rfl⟩
 ·obtain rfl:n=0:=qo;have hc:=Vx hd hn hzr (λh=>absurd h qo)
  have hv:val l=0:=by
   have:=YZ hn hzr;simpa [val] using this.symm
  have hz0:z=0:=by rw[hv] at hz;simp at hz;exact hz
  subst hz0;repeat'(first|intro(g:Nat)|refine gA ?_|intro v)
  refine WC.ret ?_;exact Fp [isZ (.agg #[.bool false,.slice none 0 0]) 0] (rcV T.r62) (.cons Vh .nil) ⟨false,_,rfl,rfl,rfl,rfl⟩
end
section
open W Go.RowKit
def digs_3 {n:Nat} (h:1000000000*1000000000<=n) (h2:n < 1000000000*1000000000*1000000000):Qx n=[((n % 1000000000:Nat):Int),((n / 1000000000 % 1000000000:Nat):Int),((n / 1000000000 / 1000000000:Nat):Int)]:=by
 rw[JL qo,digs_2 qo qo]
attribute [local irreducible] WC WL WD YO LO Qq W.Fin Qw Qu Qj Row QQ Qy KnS Has W.One Ql Qr
def Xk (nb:Bool) (n:Nat) (z:Int) (hn:n < 18446744073709551616) (hz:z.natAbs=n) (hb:n≠0->nb=decide (z < 0)):FnB Tryz.prog 176 [.bool nb,.int .u64 n] [] [] (IsZ z):=by
 refine fO [(0,(.bool nb)),(1,(.int .u64 n))] 43 Tryz.func176 Tryz.ntmps176 λh0=>?_;by_cases c0:n=0
 ·subst c0;have hz0:z=0:=qo;subst hz0;repeat'(first|intro(g:Nat)|refine gA ?_|intro v)
  refine WC.ret ?_;exact Fp [isZ (.agg #[.bool false,.slice none 0 0]) 0] (rcV T.r62) (.cons Vh .nil) ⟨false,_,rfl,rfl,rfl,rfl⟩
 have hb:=hb c0;by_cases c1:n < 1000000000
 ·have hd:=JH c0 c1;repeat'(first|intro(g:Nat)|refine gA ?_|intro v)
  refine WC.Q3 (l:=Qx z.natAbs) (v:=v) (el:=3) (by rw[hz,hd];repeat(first|exact Sel.head|apply Sel.tail)) ?_;refine WC.fact (isZ (.agg #[.bool nb,v]) z) (Jp hb hmA) ?_;refine WC.ret ?_;exact Fp [isZ (.agg #[.bool nb,v]) z] (rcV T.r62) haA ⟨nb,_,rfl,hb,rfl,rfl⟩
 by_cases c2:n < 1000000000*1000000000
 ·have hd:=digs_2 qo c2;have e1:(n:Int) % 1000000000=((n % 1000000000:Nat):Int):=qo;have e2:(n:Int) / 1000000000=((n / 1000000000:Nat):Int):=qo;have c3:(n:Int) < 1000000000000000000:=qo;repeat'(first|intro(g:Nat)|refine gA ?_|intro v)
  rw[e1,e2];refine WC.Q3 (l:=Qx z.natAbs) (v:=v) (el:=3) (by rw[hz,hd];repeat(first|exact Sel.head|apply Sel.tail)) ?_;refine WC.fact (isZ (.agg #[.bool nb,v]) z) (Jp hb hmA) ?_;refine WC.ret ?_;exact Fp [isZ (.agg #[.bool nb,v]) z] (rcV T.r62) haA ⟨nb,_,rfl,hb,rfl,rfl⟩
 ·have hd:=digs_3 (n:=n) qo qo;have e1:(n:Int) % 1000000000=((n % 1000000000:Nat):Int):=qo;have e2:(n:Int) / 1000000000 % 1000000000=((n / 1000000000 % 1000000000:Nat):Int):=qo;have e3:(n:Int) / 1000000000 / 1000000000=((n / 1000000000 / 1000000000:Nat):Int):=qo;have c3:¬(n:Int) < 1000000000000000000:=qo;repeat'(first|intro(g:Nat)|refine gA ?_|intro v)
  rw[e1,e2,e3];refine WC.Q3 (l:=Qx z.natAbs) (v:=v) (el:=3) (by rw[hz,hd];repeat(first|exact Sel.head|apply Sel.tail)) ?_;refine WC.fact (isZ (.agg #[.bool nb,v]) z) (Jp hb hmA) ?_;refine WC.ret ?_;exact Fp [isZ (.agg #[.bool nb,v]) z] (rcV T.r62) haA ⟨nb,_,rfl,hb,rfl,rfl⟩
def iof_c (n:Int) (h1:-9223372036854775808<=n) (h2:n<=9223372036854775807):FnB Tryz.prog 128 [.int .i64 n] [] [] (IsZ n):=by
 refine fO [(0,(.int .i64 n))] 14 Tryz.func128 Tryz.ntmps128 λh0=>?_;by_cases c:n < 0
 ·have hd:=decide_eq_true c;repeat'(first|intro(g:Nat)|refine gA ?_|intro v)
  rw[show 18446744073709551616 - (n+18446744073709551616)=((n.natAbs:Nat):Int) by omega];refine cK (Xk true n.natAbs n qo rfl (λ_=>hd.symm)) ?_;rintro _ _ _ ⟨nb,d,rfl,hb,rfl,rfl⟩;refine sNn ?_;repeat'(first|intro(g:Nat)|refine gA ?_|intro v)
  refine WC.ret ?_;exact Fp [isZ (.agg #[.bool nb,d]) n] (rcV T.r62) haA ⟨nb,_,rfl,hb,rfl,rfl⟩
 ·have hd:=decide_eq_false c;repeat'(first|intro(g:Nat)|refine gA ?_|intro v)
  rw[show n=((n.natAbs:Nat):Int) by omega];refine cK (Xk false n.natAbs (n.natAbs:Int) qo rfl (λ_=>by simp)) ?_;rintro _ _ _ ⟨nb,d,rfl,hb,rfl,rfl⟩;refine sNn ?_;repeat'(first|intro(g:Nat)|refine gA ?_|intro v)
  refine WC.ret ?_;exact Fp [isZ (.agg #[.bool nb,d]) (n.natAbs:Int)] (rcV T.r62) haA ⟨nb,_,rfl,hb,rfl,rfl⟩
def Ho (v:Value) (z:Int):FnB Tryz.prog 104 [v] [] [isZ v z] (IsZ (-z)):=by
 refine fO [(0,v)] 14 Tryz.func104 Tryz.ntmps104 λh0=>?_;refine WC.QR hmA λnb d hv hb=>?_;subst hv;have hl:=QK (n:=z.natAbs);have key:∀ b:Bool,b=decide (-z < 0)->Has [ge h0,isZ (.agg #[.bool nb,d]) z] (isZ (.agg #[.bool b,d]) (-z)):=λb h=>Jp h (by rw[Int.natAbs_neg];exact Qo hmA);cases nb with
 |true=>
  have hz:z < 0:=of_decide_eq_true hb.symm;have h2:false=decide (-z < 0):=by simp;omega
  repeat'(first|intro(g:Nat)|refine gA ?_|intro v)
  refine WC.fact (isZ (.agg #[.bool false,d]) (-z)) (key _ h2) ?_;refine WC.ret ?_;exact Fp [isZ (.agg #[.bool false,d]) (-z)] (rcV T.r62) haA ⟨_,_,rfl,h2,rfl,rfl⟩
 |false=>
  have hz:¬z < 0:=of_decide_eq_false hb.symm;by_cases c:z=0
  ·have hl0:=hl.2 (by omega:z.natAbs=0);have h2:false=decide (-z < 0):=by simp;omega
   repeat'(first|intro(g:Nat)|refine gA ?_|intro v)
   refine WC.fact (isZ (.agg #[.bool false,d]) (-z)) (key _ h2) ?_;refine WC.ret ?_;exact Fp [isZ (.agg #[.bool false,d]) (-z)] (rcV T.r62) haA ⟨_,_,rfl,h2,rfl,rfl⟩
  ·have hl0:0 < (Qx z.natAbs).length:=by
    have:(Qx z.natAbs).length≠0:=λh=>by have:=hl.1 h;omega
    omega
   have h2:true=decide (-z < 0):=by simp;omega
   repeat'(first|intro(g:Nat)|refine gA ?_|intro v)
   refine WC.fact (isZ (.agg #[.bool true,d]) (-z)) (key _ h2) ?_;refine WC.ret ?_;exact Fp [isZ (.agg #[.bool true,d]) (-z)] (rcV T.r62) haA ⟨_,_,rfl,h2,rfl,rfl⟩
def sgn (z:Int):Int:=if z < 0 then -1 else if z=0 then 0 else 1
def isign_c (v:Value) (z:Int):FnB Tryz.prog 102 [v] [] [isZ v z] (IsV (.int .i64 (sgn z))):=by
 refine fO [(0,v)] 11 Tryz.func102 Tryz.ntmps102 λh0=>?_;refine WC.QR hmA λnb d hv hb=>?_;subst hv;have hl:=QK (n:=z.natAbs);cases nb with
 |true=>
  have hz:z < 0:=of_decide_eq_true hb.symm;repeat'(first|intro(g:Nat)|refine gA ?_|intro v)
  refine WC.ret ?_;exact Fin.v (Qv.t1 rfl rfl) meA (by rw[sgn,if_pos hz])
 |false=>
  have hz:¬z < 0:=of_decide_eq_false hb.symm;by_cases c:z=0
  ·have hl0:=hl.2 (by omega:z.natAbs=0);repeat'(first|intro(g:Nat)|refine gA ?_|intro v)
   refine WC.ret ?_;exact Fin.v (Qv.t1 rfl rfl) meA (by rw[sgn,if_neg hz,if_pos c])
  ·have hl0:0 < (Qx z.natAbs).length:=by
    have:(Qx z.natAbs).length≠0:=λh=>by have:=hl.1 h;omega
    omega
   repeat'(first|intro(g:Nat)|refine gA ?_|intro v)
   refine WC.ret ?_;exact Fin.v (Qv.t1 rfl rfl) meA (by rw[sgn,if_neg hz,if_neg c])
end
end Go.Proofs.YtcpaopfdiahnnaaGreat
