/- Lemmas for the proof of a law: Contracts of the law's line and lives. Conditions: none. -/
import Derived.Test.YtaongbhamadlkaaGreatBs12
set_option linter.unusedVariables false
set_option linter.unusedSimpArgs false
set_option linter.unusedSectionVars false
namespace Go.Proofs.YtaongbhamadlkaaGreat
open W Go.RowKit
def IsLn (w:Nat) (c:X.Ln):RPost:=fun v B G=>∃ N:LM,v=lv5 N.a N.b∧B=[]∧G=[fF N.a w N.m (X.co c),isQ (qv N.b) c.2]
section
variable {P:Program} {e:Env} {bx bx1 bx2:List Ow} {F:List Fct} {el el2 n n':Nat} {lv gv a:Value} {b:QM} {m mg:Nat→QM} {c:X.Ln} {g:Nat→Rat}
theorem okPg1 {fr:PH} {w':World} (ho:OK fr bx F w') (hs1:Sel bx (.slice lv el 5 (a::qcs b)) (.slice (.slice none 0 0) el 5 []) bx1) (hs2:Sel bx1 (.slice gv el2 4 (qcells n mg)) (.slice (.slice none 0 0) el2 4 []) bx2)
  (h1:Has F (fF a n m (X.co c))) (h2:Has F (isQ (qv b) c.2)) (h3:Has F (mF n mg g)):OK fr bx2 (fP (((Pm.no.app 0 a m b).at lv).wg gv mg) (X.lpOf n [c] g)::F) w':=by
 have e1:lncells ([c]:List X.Ln).length (Pm.no.app 0 a m b)=a::qcs b:=by
  show lncells (0+1) (Pm.no.app 0 a m b)=_
  rw[←lncells_app];rfl
 have a1:=okLn (M:=Pm.no.app 0 a m b) (w:=n) (L:=[c]) (by rw[←e1] at hs1;exact ho) (by rw[e1];exact hs1) (W.Has.lnapp (L:=[]) W.Has.lnn c h1 h2)
 have a2:=okF a1 hs2 (show Has _ (mF n mg g) from fun p hp=>h3 p fun f hf=>hp f (List.mem_cons_of_mem _ (List.mem_cons_of_mem _ hf)))
 have a3:=a2.add (f:=fP (((Pm.no.app 0 a m b).at lv).wg gv mg) (X.lpOf n [c] g)) (W.Has.lnp (F:=fF gv n mg g::fLn ((Pm.no.app 0 a m b).at lv) n [c]::_) (W.Has.lnwg (M:=(Pm.no.app 0 a m b).at lv) hmA) (show Has _ (fF gv n mg g) from hmA) _ a2.facts)
 refine a3.less fun f hf=>?_
 rcases List.mem_cons.1 hf with rfl|hf
 ·exact List.mem_cons_self ..
 ·exact List.mem_cons_of_mem _ (List.mem_cons_of_mem _ (List.mem_cons_of_mem _ (List.mem_cons_of_mem _ hf)))
theorem LO.mkPg1 {op:Op} {ty:TypeId} {K:Value→List Ow→List Fct→Prop} (n:Nat) (c:X.Ln) (g:Nat→Rat) (hs1:Sel bx (.slice lv el 5 (a::qcs b)) (.slice (.slice none 0 0) el 5 []) bx1) (hs2:Sel bx1 (.slice gv el2 4 (qcells n mg)) (.slice (.slice none 0 0) el2 4 []) bx2)
  (h1:Has F (fF a n m (X.co c))) (h2:Has F (isQ (qv b) c.2)) (h3:Has F (mF n mg g)) (h:∀ M:Pm,M.lv=lv→M.gv=gv→LO P op ty e bx2 (fP M (X.lpOf n [c] g)::F) K):LO P op ty e bx F K:=fun n' fr a w o next Q' g1 g2 g3 g4 g5=>h _ rfl rfl n' fr a w o next Q' g1 g2 g3 (okPg1 g4 hs1 hs2 h1 h2 h3) g5
theorem WD.mkPg1 {hs:List Nat} {b0:List Ow} {F0:List Fct} {r:Plan} {L:List Oper} {Q2:Env→List Ow→List Fct→Prop} (n:Nat) (c:X.Ln) (g:Nat→Rat) (hs1:Sel bx (.slice lv el 5 (a::qcs b)) (.slice (.slice none 0 0) el 5 []) bx1) (hs2:Sel bx1 (.slice gv el2 4 (qcells n mg)) (.slice (.slice none 0 0) el2 4 []) bx2)
  (h1:Has F (fF a n m (X.co c))) (h2:Has F (isQ (qv b) c.2)) (h3:Has F (mF n mg g)) (h:∀ M:Pm,M.lv=lv→M.gv=gv→WD P n' L hs b0 F0 r e bx2 (fP M (X.lpOf n [c] g)::F) Q2):WD P n' L hs b0 F0 r e bx F Q2:=fun fr w0 listed a w fuel Q' g1 g2 g3 g4 g5 g6 hk hr ho hf=>h _ rfl rfl fr w0 listed a w fuel Q' g1 g2 g3 g4 g5 g6 hk hr (okPg1 ho hs1 hs2 h1 h2 h3) hf
end
namespace U
open Z
attribute [local irreducible] WC WL WD YO LO LoopEnd W.Fin Scalar SliceT FieldAt Row ArrT AllocT KnS Has W.One SrcE IntT
theorem d18 {G G':Prop} (h:G') (s:Bx G'→G:=by
 intro h
 first|(apply WC.draw (id:=2) [4,5] (.held 4 (.held 5 (.more 0 (.more 1 (.more 2 (.more 3 (.more 6 (.more 7 (.loud 8 (.loud 9 (.done))) (.loud 8 (.loud 7 (.loud 9 (.done))))) (.loud 8 (.loud 6 (.loud 7 (.loud 9 (.done)))))) (.more 6 (.more 3 (.more 7 (.loud 8 (.loud 9 (.done))) (.loud 8 (.loud 7 (.loud 9 (.done))))) (.loud 8 (.loud 3 (.loud 7 (.loud 9 (.done)))))) (.loud 8 (.more 3 (.loud 6 (.loud 7 (.loud 9 (.done)))) (.loud 6 (.loud 3 (.loud 7 (.loud 9 (.done))))))))) (.more 6 (.more 2 (.more 3 (.more 7 (.loud 8 (.loud 9 (.done))) (.loud 8 (.loud 7 (.loud 9 (.done))))) (.loud 8 (.loud 3 (.loud 7 (.loud 9 (.done)))))) (.loud 8 (.loud 2 (.loud 3 (.loud 7 (.loud 9 (.done))))))) (.loud 8 (.more 2 (.more 3 (.loud 6 (.loud 7 (.loud 9 (.done)))) (.loud 6 (.loud 3 (.loud 7 (.loud 9 (.done)))))) (.loud 6 (.loud 2 (.loud 3 (.loud 7 (.loud 9 (.done)))))))))) (.more 6 (.more 1 (.more 2 (.more 3 (.more 7 (.loud 8 (.loud 9 (.done))) (.loud 8 (.loud 7 (.loud 9 (.done))))) (.loud 8 (.loud 3 (.loud 7 (.loud 9 (.done)))))) (.loud 8 (.loud 2 (.loud 3 (.loud 7 (.loud 9 (.done))))))) (.loud 8 (.loud 1 (.loud 2 (.loud 3 (.loud 7 (.loud 9 (.done)))))))) (.loud 8 (.more 1 (.more 2 (.more 3 (.loud 6 (.loud 7 (.loud 9 (.done)))) (.loud 6 (.loud 3 (.loud 7 (.loud 9 (.done)))))) (.loud 6 (.loud 2 (.loud 3 (.loud 7 (.loud 9 (.done))))))) (.loud 6 (.loud 1 (.loud 2 (.loud 3 (.loud 7 (.loud 9 (.done))))))))))) (.more 6 (.more 0 (.more 1 (.more 2 (.more 3 (.more 7 (.loud 8 (.loud 9 (.done))) (.loud 8 (.loud 7 (.loud 9 (.done))))) (.loud 8 (.loud 3 (.loud 7 (.loud 9 (.done)))))) (.loud 8 (.loud 2 (.loud 3 (.loud 7 (.loud 9 (.done))))))) (.loud 8 (.loud 1 (.loud 2 (.loud 3 (.loud 7 (.loud 9 (.done)))))))) (.loud 8 (.loud 0 (.loud 1 (.loud 2 (.loud 3 (.loud 7 (.loud 9 (.done))))))))) (.loud 8 (.more 0 (.more 1 (.more 2 (.more 3 (.loud 6 (.loud 7 (.loud 9 (.done)))) (.loud 6 (.loud 3 (.loud 7 (.loud 9 (.done)))))) (.loud 6 (.loud 2 (.loud 3 (.loud 7 (.loud 9 (.done))))))) (.loud 6 (.loud 1 (.loud 2 (.loud 3 (.loud 7 (.loud 9 (.done)))))))) (.loud 6 (.loud 0 (.loud 1 (.loud 2 (.loud 3 (.loud 7 (.loud 9 (.done)))))))))))))) mixed (by kernel_rfl))|(apply WC.draw (id:=8) [2,7,8,9,12] (.held 2 (.more 0 (.more 1 (.more 3 (.more 4 (.more 5 (.more 6 (.held 7 (.held 8 (.held 9 (.loud 10 (.loud 11 (.held 12 (.done))))))) (.loud 10 (.loud 6 (.held 7 (.held 8 (.held 9 (.loud 11 (.held 12 (.done))))))))) (.loud 10 (.loud 5 (.loud 6 (.held 7 (.held 8 (.held 9 (.loud 11 (.held 12 (.done)))))))))) (.loud 10 (.loud 4 (.loud 5 (.loud 6 (.held 7 (.held 8 (.held 9 (.loud 11 (.held 12 (.done))))))))))) (.loud 10 (.loud 3 (.loud 4 (.loud 5 (.loud 6 (.held 7 (.held 8 (.held 9 (.loud 11 (.held 12 (.done)))))))))))) (.more 3 (.more 1 (.more 4 (.more 5 (.more 6 (.held 7 (.held 8 (.held 9 (.loud 10 (.loud 11 (.held 12 (.done))))))) (.loud 10 (.loud 6 (.held 7 (.held 8 (.held 9 (.loud 11 (.held 12 (.done))))))))) (.loud 10 (.loud 5 (.loud 6 (.held 7 (.held 8 (.held 9 (.loud 11 (.held 12 (.done)))))))))) (.loud 10 (.loud 4 (.loud 5 (.loud 6 (.held 7 (.held 8 (.held 9 (.loud 11 (.held 12 (.done))))))))))) (.more 4 (.more 1 (.more 5 (.more 6 (.held 7 (.held 8 (.held 9 (.loud 10 (.loud 11 (.held 12 (.done))))))) (.loud 10 (.loud 6 (.held 7 (.held 8 (.held 9 (.loud 11 (.held 12 (.done))))))))) (.loud 10 (.loud 5 (.loud 6 (.held 7 (.held 8 (.held 9 (.loud 11 (.held 12 (.done)))))))))) (.loud 10 (.loud 1 (.loud 5 (.loud 6 (.held 7 (.held 8 (.held 9 (.loud 11 (.held 12 (.done))))))))))) (.loud 10 (.more 1 (.loud 4 (.loud 5 (.loud 6 (.held 7 (.held 8 (.held 9 (.loud 11 (.held 12 (.done))))))))) (.loud 4 (.loud 1 (.loud 5 (.loud 6 (.held 7 (.held 8 (.held 9 (.loud 11 (.held 12 (.done)))))))))))))) (.loud 10 (.more 1 (.loud 3 (.loud 4 (.loud 5 (.loud 6 (.held 7 (.held 8 (.held 9 (.loud 11 (.held 12 (.done)))))))))) (.loud 3 (.more 1 (.loud 4 (.loud 5 (.loud 6 (.held 7 (.held 8 (.held 9 (.loud 11 (.held 12 (.done))))))))) (.loud 4 (.loud 1 (.loud 5 (.loud 6 (.held 7 (.held 8 (.held 9 (.loud 11 (.held 12 (.done)))))))))))))))) (.loud 10 (.loud 0 (.more 1 (.loud 3 (.loud 4 (.loud 5 (.loud 6 (.held 7 (.held 8 (.held 9 (.loud 11 (.held 12 (.done)))))))))) (.loud 3 (.more 1 (.loud 4 (.loud 5 (.loud 6 (.held 7 (.held 8 (.held 9 (.loud 11 (.held 12 (.done))))))))) (.loud 4 (.loud 1 (.loud 5 (.loud 6 (.held 7 (.held 8 (.held 9 (.loud 11 (.held 12 (.done))))))))))))))))) mixed (by kernel_rfl))|(apply WC.draw (id:=10) [0,1,2,3,6,7,8,11,12,13,14,16,17,18,19,20,22,23,24] (.held 0 (.held 1 (.held 2 (.held 3 (.loud 4 (.loud 5 (.held 6 (.held 7 (.held 8 (.loud 9 (.loud 10 (.held 11 (.held 12 (.held 13 (.held 14 (.loud 15 (.held 16 (.held 17 (.held 18 (.held 19 (.held 20 (.loud 21 (.held 22 (.held 23 (.held 24 (.done)))))))))))))))))))))))))) mixed (by kernel_rfl))|fail
 exact Bx.h h):G:=s ⟨h⟩
set_option maxHeartbeats 4000000 in
set_option maxRecDepth 60000 in
theorem line_c (a b r:Int) (c:X.Ln) (hc:c=([Rat.divInt a 1,Rat.divInt b 1],Rat.divInt r 1)) (ha:a.natAbs < 1000) (hb:b.natAbs < 1000) (hr:r.natAbs < 1000):FnB Tryz.prog 70 [.int .i64 a,.int .i64 b,.int .i64 r] [] [] (IsLn 2 c):=by
 refine fn_of [(0,(.int .i64 a)),(1,(.int .i64 b)),(2,(.int .i64 r))] 15 Tryz.func70 rfl Tryz.ntmps70 (by kernel_rfl) rfl suA fun h0=>?_
 subst hc
 repeat'(first|refine gA ?_|(refine goG ?_;intro g)|(refine goV ?_;intro v))
 first|refine WL.callK (Zn.rof a 1 (by show _ < 1000000000000000000;omega) (by decide)) ?_|refine WD.callK (Zn.rof a 1 (by show _ < 1000000000000000000;omega) (by decide)) ?_|refine LO.callM (Zn.rof a 1 (by show _ < 1000000000000000000;omega) (by decide)) ?_
 rintro _ _ _ ⟨m1,rfl,rfl,rfl⟩
 simp only[List.nil_append,List.cons_append]
 repeat'(first|refine gA ?_|(refine goG ?_;intro g)|(refine goV ?_;intro v))
 first|refine WL.callK (Zn.rof b 1 (by show _ < 1000000000000000000;omega) (by decide)) ?_|refine WD.callK (Zn.rof b 1 (by show _ < 1000000000000000000;omega) (by decide)) ?_|refine LO.callM (Zn.rof b 1 (by show _ < 1000000000000000000;omega) (by decide)) ?_
 rintro _ _ _ ⟨m2,rfl,rfl,rfl⟩
 simp only[List.nil_append,List.cons_append]
 repeat'(first|refine gA ?_|(refine goG ?_;intro g)|(refine goV ?_;intro v))
 first|refine WL.callK (Zn.rof r 1 (by show _ < 1000000000000000000;omega) (by decide)) ?_|refine WD.callK (Zn.rof r 1 (by show _ < 1000000000000000000;omega) (by decide)) ?_|refine LO.callM (Zn.rof r 1 (by show _ < 1000000000000000000;omega) (by decide)) ?_
 rintro _ _ _ ⟨m3,rfl,rfl,rfl⟩
 simp only[List.nil_append,List.cons_append]
 refine WL.freezeF v 2 (upd (upd (fun _=>m00) 0 m1) 1 m2) (X.co ([Rat.divInt a 1,Rat.divInt b 1],Rat.divInt r 1)) (by repeat(first|exact Sel.head|apply Sel.tail)) (W.Has.mF2 (show Has _ (isQ (qv m1) (Rat.divInt a 1)) from hmA) (show Has _ (isQ (qv m2) (Rat.divInt b 1)) from hmA)) ?_
 repeat'(first|refine gA ?_|(refine goG ?_;intro g)|(refine goV ?_;intro v))
 refine WC.ret ?_
 exact Fin.p [] [fF v 2 (upd (upd (fun _=>m00) 0 m1) 1 m2) (X.co ([Rat.divInt a 1,Rat.divInt b 1],Rat.divInt r 1)),isQ (qv m3) (Rat.divInt r 1)] (ResE.cV rfl rfl meA T.r60 rfl) meA (List.nil_sublist _) haA ⟨⟨v,_,m3⟩,rfl,rfl,rfl⟩
def exC1:X.Ln:=([1,0],2)
def exC2:X.Ln:=([0,1],3)
def exC3:X.Ln:=([1,1],4)
def exC4:X.Ln:=([-1,0],-3)
theorem l1_c:FnB Tryz.prog 70 [.int .i64 1,.int .i64 0,.int .i64 2] [] [] (IsLn 2 exC1):=line_c 1 0 2 exC1 (by decide +kernel) (by decide) (by decide) (by decide)
theorem l2_c:FnB Tryz.prog 70 [.int .i64 0,.int .i64 1,.int .i64 3] [] [] (IsLn 2 exC2):=line_c 0 1 3 exC2 (by decide +kernel) (by decide) (by decide) (by decide)
theorem l3_c:FnB Tryz.prog 70 [.int .i64 1,.int .i64 1,.int .i64 4] [] [] (IsLn 2 exC3):=line_c 1 1 4 exC3 (by decide +kernel) (by decide) (by decide) (by decide)
theorem l4_c:FnB Tryz.prog 70 [.int .i64 (-1),.int .i64 0,.int .i64 (-3)] [] [] (IsLn 2 exC4):=line_c (-1) 0 (-3) exC4 (by decide +kernel) (by decide) (by decide) (by decide)
theorem rofm1:FnB Tryz.prog 30 [.int .i64 (-1),.int .i64 1] [] [] (IsR (exG3 1)):=by
 have:=Zn.rof (-1) 1 (by decide) (by decide)
 rwa [show Rat.divInt (-1) 1=exG3 1 by decide +kernel] at this
set_option maxHeartbeats 16000000 in
set_option maxRecDepth 60000 in
theorem lives_c:FnB Tryz.prog 18 [] [] [] (IsV (.bool true)):=by
 refine fn_of [] 110 Tryz.func18 rfl Tryz.ntmps18 (by kernel_rfl) rfl suA fun h0=>?_
 have hl1:exL1.length=3:=rfl
 have hl2:exL2.length=4:=rfl
 have hl3:exL3.length=1:=rfl
 repeat'(first|refine gM ?_|(refine gI ?_;intro g)|(refine gU ?_;intro v)|refine gN ?_ ?_|refine gY ?_|refine d18 ?_|fail)
 first|refine WL.callK (Zn.rof 1 1 (by decide) (by decide)) ?_|refine WD.callK (Zn.rof 1 1 (by decide) (by decide)) ?_|refine LO.callM (Zn.rof 1 1 (by decide) (by decide)) ?_
 rintro _ _ _ ⟨m1,rfl,rfl,rfl⟩
 simp only[List.nil_append,List.cons_append]
 rw[show Rat.divInt 1 1=1 by decide +kernel]
 repeat'(first|refine gA ?_|(refine goG ?_;intro g)|(refine goV ?_;intro v))
 revert g;intro g1
 refine WC.cutP (σ:=Nat×Value×Value×LM×LM×LM) (fun st=>[(2,ptr st.1),(1,ptr g1),(0,.bool false)])
  (fun st=>[Ow.cells st.1 26 [.int .i64 2,st.2.1,st.2.2.1],Ow.slice st.2.1 60 5 (lncells 3 (Pm3 st.2.2.2.1 st.2.2.2.2.1 st.2.2.2.2.2)),Ow.slice st.2.2.1 31 4 (qcells 2 (upd (upd (fun _=>m00) 0 m1) 1 m1)),Ow.cells g1 31 (qcs m1)])
  (fun st=>[fF st.2.2.2.1.a 2 st.2.2.2.1.m (X.co exC1),isQ (qv st.2.2.2.1.b) exC1.2,fF st.2.2.2.2.1.a 2 st.2.2.2.2.1.m (X.co exC2),isQ (qv st.2.2.2.2.1.b) exC2.2,fF st.2.2.2.2.2.a 2 st.2.2.2.2.2.m (X.co exC3),isQ (qv st.2.2.2.2.2.b) exC3.2,isQ (qv m1) 1,ge h0]) (fun _=>True) ?_ ?_
 ·repeat'(first|refine gM ?_|(refine gI ?_;intro g)|(refine gU ?_;intro v)|refine gN ?_ ?_|refine gY ?_|refine d18 ?_|fail|((first|refine WL.callK (hv:=?hvQ) (l1_c) ?_|refine WD.callK (hv:=?hvQ) (l1_c) ?_|refine LO.callM (hv:=?hvQ) (l1_c) ?_);(case hvQ=>((repeat(first|exact Evs.nil|(apply Evs.cons;exact rfl)));done));rintro _ _ _ ⟨zm,rfl,rfl,rfl⟩;simp only[List.nil_append,List.cons_append])|((first|refine WL.callK (hv:=?hvQ) (l2_c) ?_|refine WD.callK (hv:=?hvQ) (l2_c) ?_|refine LO.callM (hv:=?hvQ) (l2_c) ?_);(case hvQ=>((repeat(first|exact Evs.nil|(apply Evs.cons;exact rfl)));done));rintro _ _ _ ⟨zm,rfl,rfl,rfl⟩;simp only[List.nil_append,List.cons_append])|((first|refine WL.callK (hv:=?hvQ) (l3_c) ?_|refine WD.callK (hv:=?hvQ) (l3_c) ?_|refine LO.callM (hv:=?hvQ) (l3_c) ?_);(case hvQ=>((repeat(first|exact Evs.nil|(apply Evs.cons;exact rfl)));done));rintro _ _ _ ⟨zm,rfl,rfl,rfl⟩;simp only[List.nil_append,List.cons_append])|fail)
  all_goals(apply Ex6;refine⟨trivial,?_,?_,?_⟩;(focus(repeat(first|exact Sub.nil _|refine Sub.cons rfl ?_)));(focus(repeat(first|exact SubP.nil _|(apply SubP.cons;(repeat(first|exact Rem.head|apply Rem.tail))))));(focus(repeat(first|exact HasAll.nil|(apply HasAll.cons;exact hsA)))))
 rintro⟨g2,lv,gv,N1,N2,N3⟩ _
 simp only
 refine WC.freezeLn lv (Pm3 N1 N2 N3) 2 exL1 (by repeat(first|exact Sel.head|apply Sel.tail)) (W.Has.ln3 hmA hmA hmA hmA hmA hmA) ?_
 refine WC.freezeF gv 2 (upd (upd (fun _=>m00) 0 m1) 1 m1) exG1 (by repeat(first|exact Sel.head|apply Sel.tail)) (W.Has.mF2 (show Has _ (isQ (qv m1) 1) from hmA) (show Has _ (isQ (qv m1) 1) from hmA)) ?_
 refine WC.asPg (lv:=lv) (gv:=gv) (Pm3 N1 N2 N3) (upd (upd (fun _=>m00) 0 m1) 1 m1) (X.lpOf 2 exL1 exG1) (W.Has.lnp (W.Has.lnwg (M:=(Pm3 N1 N2 N3).at lv) hmA) (show Has _ (fF gv 2 _ exG1) from hmA)) ?_
 rintro M1 rfl rfl
 refine WC.fact (fLn M1 2 exL1) (W.Has.pL (g:=exG1) hmA) ?_
 refine WC.fact (fF M1.gv 2 M1.mg exG1) (W.Has.pG (L:=exL1) hmA) ?_
 repeat'(first|refine gM ?_|(refine gI ?_;intro g)|(refine gU ?_;intro v)|refine gN ?_ ?_|refine gY ?_|refine d18 ?_|fail)
 refine WL.callK (solveL_c M1 (v:=2) (m:=4) (K0:=1) exFits exL1_sq (by decide) (fun k _=>exG1_sq k)) ?_
 rintro _ _ _ ⟨A1,k1,xn1,yn1,x1,y1,z1,rfl,rfl,rfl,hA1,hx1,hy1,hz1⟩
 simp only[List.nil_append,List.cons_append]
 obtain⟨hk1,rfl⟩:=hA1.sem.uniq ex1
 obtain rfl:k1=0:=by omega
 refine WL.fact' (fF A1.xv xn1 A1.mx x1) (W.Has.ax (M:=A1) (xn:=xn1) (yn:=yn1) (x:=x1) (y:=y1) (z:=4) hmA) ?_
 refine WL.fact' (fF A1.yv yn1 A1.my y1) (W.Has.ay (M:=A1) (xn:=xn1) (yn:=yn1) (x:=x1) (y:=y1) (z:=4) hmA) ?_
 refine WL.fact' (isQ (qv A1.mz) 4) (W.Has.az (M:=A1) (xn:=xn1) (yn:=yn1) (x:=x1) (y:=y1) (z:=4) hmA) ?_
 repeat'(first|refine gM ?_|(refine gI ?_;intro g)|(refine gU ?_;intro v)|refine gN ?_ ?_|refine gY ?_|refine d18 ?_|fail)
 rename_i g3 v28
 revert g;intro g5
 first|refine WL.callK (l4_c) ?_|refine WD.callK (l4_c) ?_|refine LO.callM (l4_c) ?_
 rintro _ _ _ ⟨N4,rfl,rfl,rfl⟩
 simp only[List.nil_append,List.cons_append]
 repeat'(first|refine gM ?_|(refine gI ?_;intro g)|(refine gU ?_;intro v)|refine gN ?_ ?_|refine gY ?_|refine d18 ?_|fail)
 revert v;intro lw
 refine WL.fact' (lnQ (M1.app exL1.length N4.a N4.m N4.b) 2 exL2) (W.Has.lnapp (W.Has.lnq (M:=M1) (L:=exL1) hmA) exC4 hmA hmA) ?_
 refine WL.freezeLn lw (M1.app exL1.length N4.a N4.m N4.b) 2 exL2 (by repeat(first|exact Sel.head|apply Sel.tail)) hmA ?_
 refine WL.fact' (fP ((M1.app exL1.length N4.a N4.m N4.b).at lw) (X.lpOf 2 exL2 exG1)) (W.Has.lnp hmA (show Has _ (fF M1.gv 2 M1.mg exG1) from hmA)) ?_
 refine WL.callK (solveL_c ((M1.app exL1.length N4.a N4.m N4.b).at lw) (v:=2) (m:=4) (K0:=1) exFits exL2_sq (by decide) (fun k _=>exG1_sq k)) ?_
 rintro _ _ _ ⟨A2,k2,xn2,yn2,x2,y2,z2,rfl,rfl,rfl,hA2,hx2,hy2,hz2⟩
 simp only[List.nil_append,List.cons_append]
 obtain⟨hk2,rfl⟩:=hA2.sem.uniq ex2
 obtain rfl:k2=1:=by omega
 refine WL.fact' (fF A2.xv xn2 A2.mx x2) (W.Has.ax (M:=A2) (xn:=xn2) (yn:=yn2) (x:=x2) (y:=y2) (z:=0) hmA) ?_
 refine WL.fact' (fF A2.yv yn2 A2.my y2) (W.Has.ay (M:=A2) (xn:=xn2) (yn:=yn2) (x:=x2) (y:=y2) (z:=0) hmA) ?_
 refine WL.fact' (isQ (qv A2.mz) 0) (W.Has.az (M:=A2) (xn:=xn2) (yn:=yn2) (x:=x2) (y:=y2) (z:=0) hmA) ?_
 repeat'(first|refine gM ?_|(refine gI ?_;intro g)|(refine gU ?_;intro v)|refine gN ?_ ?_|refine gY ?_|refine d18 ?_|fail)
 revert g;intro g6
 revert v;intro vi
 refine WL.freezeI (l:=[4,5,6,1]) (v:=vi) (el:=3) (by repeat(first|exact Sel.head|apply Sel.tail)) ?_
 have hcore:=core_c ((M1.app exL1.length N4.a N4.m N4.b).at lw) 1 4 2 exL2 exG1 [4,5,6,1] vi exFits exL2_sq (by decide)
 rw[ex4] at hcore
 refine WL.callK hcore ?_
 rintro _ _ _ ⟨u,rfl,rfl,rfl⟩
 simp only[List.nil_append,List.cons_append]
 repeat'(first|refine gA ?_|(refine goG ?_;intro g)|(refine goV ?_;intro v))
 refine WC.cutP (σ:=Nat×Am) (fun st=>[(10,ptr st.1),(11,.int .i64 0),(4,.int .i64 0),(7,.int .i64 0),(8,u),(9,.int .i64 0),(2,ptr g2),(3,ptr g3),(5,ptr g5),(6,ptr g6),(0,.bool false)])
  (fun st=>[Ow.cells st.1 33 (acs st.2 2),Ow.cells g2 26 (pcs M1 2),Ow.cells g3 33 (acs A1 0),Ow.cells g5 26 [.int .i64 2,lw,M1.gv],Ow.cells g6 33 (acs A2 1)])
  (fun _=>[sI u [1,4],isQ (qv A1.mz) 4,fA A1 xn1 yn1 x1 y1 4,fP M1 (X.lpOf 2 exL1 exG1),fP ((M1.app exL1.length N4.a N4.m N4.b).at lw) (X.lpOf 2 exL2 exG1),ge h0]) (fun _=>True) ?_ ?_
 ·repeat'(first|refine gM ?_|(refine gI ?_;intro g)|(refine gU ?_;intro v)|refine gN ?_ ?_|refine gY ?_|refine d18 ?_|fail|((first|refine WL.callK (hv:=?hvQ) (l2_c) ?_|refine WD.callK (hv:=?hvQ) (l2_c) ?_|refine LO.callM (hv:=?hvQ) (l2_c) ?_);(case hvQ=>((repeat(first|exact Evs.nil|(apply Evs.cons;exact rfl)));done));rintro _ _ _ ⟨zm,rfl,rfl,rfl⟩;simp only[List.nil_append,List.cons_append])|((first|refine WL.callK (hv:=?hvQ) (rofm1) ?_|refine WD.callK (hv:=?hvQ) (rofm1) ?_|refine LO.callM (hv:=?hvQ) (rofm1) ?_);(case hvQ=>((repeat(first|exact Evs.nil|(apply Evs.cons;exact rfl)));done));rintro _ _ _ ⟨zm,rfl,rfl,rfl⟩;simp only[List.nil_append,List.cons_append])|fail)
  all_goals(first|refine WD.mkPg1 2 exC2 exG3 (by repeat(first|exact Sel.head|apply Sel.tail)) (by repeat(first|exact Sel.head|apply Sel.tail)) hmA hmA (W.Has.mF2 (show Has _ (isQ (qv m1) (1:Rat)) from hmA) hmA) ?_|refine LO.mkPg1 2 exC2 exG3 (by repeat(first|exact Sel.head|apply Sel.tail)) (by repeat(first|exact Sel.head|apply Sel.tail)) hmA hmA (W.Has.mF2 (show Has _ (isQ (qv m1) (1:Rat)) from hmA) hmA) ?_)
  all_goals rintro M3 rfl rfl
  all_goals first|refine WL.callK (solveL_c M3 (v:=2) (m:=4) (K0:=1) exFits exL3_sq (by decide) (fun k _=>exG3_sq k)) ?_|refine WD.callK (solveL_c M3 (v:=2) (m:=4) (K0:=1) exFits exL3_sq (by decide) (fun k _=>exG3_sq k)) ?_|refine LO.callM (solveL_c M3 (v:=2) (m:=4) (K0:=1) exFits exL3_sq (by decide) (fun k _=>exG3_sq k)) ?_
  all_goals rintro _ _ _ ⟨A3,k3,xn3,yn3,x3,y3,z3,rfl,rfl,rfl,hA3,hx3,hy3,hz3⟩
  all_goals simp only[List.nil_append,List.cons_append]
  all_goals obtain⟨hk3,rfl⟩:=hA3.sem.uniq ex3
  all_goals obtain rfl:k3=2:=by omega
  all_goals(first|refine WD.fact (fF A3.xv xn3 A3.mx x3) (W.Has.ax (M:=A3) (xn:=xn3) (yn:=yn3) (x:=x3) (y:=y3) (z:=0) hmA) ?_)
  all_goals(first|refine WD.fact (fF A3.yv yn3 A3.my y3) (W.Has.ay (M:=A3) (xn:=xn3) (yn:=yn3) (x:=x3) (y:=y3) (z:=0) hmA) ?_)
  all_goals(first|refine WD.fact (isQ (qv A3.mz) 0) (W.Has.az (M:=A3) (xn:=xn3) (yn:=yn3) (x:=x3) (y:=y3) (z:=0) hmA) ?_)
  all_goals repeat'(first|refine gM ?_|(refine gI ?_;intro g)|(refine gU ?_;intro v)|refine gN ?_ ?_|refine gY ?_|refine d18 ?_|fail)
  all_goals(apply Ex2;refine⟨trivial,?_,?_,?_⟩;(focus(repeat(first|exact Sub.nil _|refine Sub.cons rfl ?_)));(focus(repeat(first|exact SubP.nil _|(apply SubP.cons;(repeat(first|exact Rem.head|apply Rem.tail))))));(focus(repeat(first|exact HasAll.nil|(apply HasAll.cons;exact hsA)))))
 rintro⟨g10,A3⟩ _
 simp only
 repeat'(first|refine gM ?_|(refine gI ?_;intro g)|(refine gU ?_;intro v)|refine gN ?_ ?_|refine gY ?_|refine d18 ?_|fail)
 first|refine WL.callK (Zn.rof 4 1 (by decide) (by decide)) ?_|refine WD.callK (Zn.rof 4 1 (by decide) (by decide)) ?_|refine LO.callM (Zn.rof 4 1 (by decide) (by decide)) ?_
 rintro _ _ _ ⟨m4,rfl,rfl,rfl⟩
 simp only[List.nil_append,List.cons_append]
 rw[show Rat.divInt 4 1=4 by decide +kernel]
 refine WD.fact (isQ (qv A1.mz) 4) (W.Has.az (M:=A1) (xn:=xn1) (yn:=yn1) (x:=x1) (y:=y1) (z:=4) hmA) ?_
 repeat'(first|refine gM ?_|(refine gI ?_;intro g)|(refine gU ?_;intro v)|refine gN ?_ ?_|refine gY ?_|refine d18 ?_|fail)
 first|refine WL.callV (Zn.same A1.mz m4 4 4) ?_|refine WD.callV (Zn.same A1.mz m4 4 4) ?_
 rw[decide_eq_true (rfl:(4:Rat)=4)]
 repeat'(first|refine gM ?_|(refine gI ?_;intro g)|(refine gU ?_;intro v)|refine gN ?_ ?_|refine gY ?_|refine d18 ?_|fail)
 refine WD.perm (Ow.slice v 3 1 (ints [1,4])::_) (List.Perm.refl _) ?_
 first|refine WL.callV (sameInts_c u v [1,4] [1,4]) ?_|refine WD.callV (sameInts_c u v [1,4] [1,4]) ?_
 rw[decide_eq_true (rfl:([1,4]:List Int)=[1,4])]
 repeat'(first|refine gM ?_|(refine gI ?_;intro g)|(refine gU ?_;intro v)|refine gN ?_ ?_|refine gY ?_|refine d18 ?_|fail)
 have hd2:Dok 2 (szR 2 4 1):=by unfold Dok;decide +kernel
 have hd4:Dok 4 (szR 2 4 1):=by unfold Dok;decide +kernel
 have hc1:=checkL_c M1 A1 (kind:=0) (z:=4) exFits exL1_sq (by decide) (fun k _=>exG1_sq k) (by decide +kernel) hd2 hd4 hx1 hy1
 rw[if_pos (show rightP (X.lpOf 2 exL1 exG1) 0 xn1 yn1 x1 y1 4=true from ans_right hA1)] at hc1
 have hc2:=checkL_c ((M1.app exL1.length N4.a N4.m N4.b).at lw) A1 (kind:=0) (z:=4) exFits exL2_sq (by decide) (fun k _=>exG1_sq k) (by decide +kernel) hd2 hd4 hx1 hy1
 rw[if_neg (show ¬rightP (X.lpOf 2 exL2 exG1) 0 xn1 yn1 x1 y1 4=true from fun h=>by have:=((right_sem h).uniq ex2).1;omega)] at hc2
 first|refine WL.callV (hc1) ?_|refine WD.callV (hc1) ?_
 repeat'(first|refine gM ?_|(refine gI ?_;intro g)|(refine gU ?_;intro v)|refine gN ?_ ?_|refine gY ?_|refine d18 ?_|fail)
 first|refine WL.callV (hc2) ?_|refine WD.callV (hc2) ?_
 repeat'(first|refine gM ?_|(refine gI ?_;intro g)|(refine gU ?_;intro v)|refine gN ?_ ?_|refine gY ?_|refine d18 ?_|fail)
 exact WC.ret (Fin.v (ResE.t1 rfl rfl) meA rfl)
end U
end Go.Proofs.YtaongbhamadlkaaGreat
