/- Lemmas for the proof of a law: Contracts of simplex's sums. Conditions: none. -/
import Derived.Test.YtaongbhamadlkaaGreatBq8
import Derived.Test.YtaongbhamadlkaaGreatBq9
import Derived.Test.YtaongbhamadlkaaGreatBq7
import Derived.Test.YtaongbhamadlkaaGreatBq2
import Derived.Test.YtaongbhamadlkaaGreatBq3
set_option maxHeartbeats 8000000
set_option linter.unusedVariables false
set_option linter.unusedSimpArgs false
set_option linter.unusedSectionVars false
namespace Go.Proofs.YtaongbhamadlkaaGreat
open W Go.RowKit
def sumsOk (p:X.Lp) (yn:Nat) (y g:Nat→Rat):Bool:=decide (yn=p.m) && !(X.fstT (fun r=>decide (y r < 0)) yn 0).isSome && !(X.fstT (fun k=>decide (¬(X.sm p.m fun r=>p.a r k*y r)=g k)) p.v 0).isSome
def sumsV (p:X.Lp) (y:Nat→Rat):Rat:=X.sm p.m fun r=>p.b r*y r
def IsSums (p:X.Lp) (yn:Nat) (y g:Nat→Rat):RPost:=fun v B G=>∃ m,v=.tuple #[qv m,.bool (sumsOk p yn y g)]∧B=[]∧G=[isQ (qv m) (if sumsOk p yn y g=true then sumsV p y else 0)]
def clx (c:Nat→Rat) (k j:Nat):Rat:=if j < k then c j else 0
theorem clx_up {c:Nat→Rat} {k:Nat} (i:Nat):upd (clx c k) k (c k) i=clx c (k+1) i:=by
 unfold clx upd
 by_cases e:i=k
 ·subst e;simp
 ·by_cases c2:i < k
  ·simp[e,c2,show i < k+1 by omega]
  ·simp[e,c2,show ¬i < k+1 by omega]
namespace Z
attribute [local irreducible] WC WL WD YO LO LoopEnd W.Fin Scalar SliceT FieldAt Row ArrT AllocT KnS Has W.One SrcE IntT
set_option maxRecDepth 60000 in
theorem containsF_c (v0:Value) (n:Nat) (ms:Nat→QM) (q:Nat→Rat) (f:FuncId) (first cap:List Value) (Fc:List Fct) (p:Nat→Bool)
  (hf:∀ i,i < n→FnB Tryz.prog f (first++[qv (ms i)]++cap) [] (isQ (qv (ms i)) (q i)::Fc) (IsV (.bool (p i)))) :
  FnB Tryz.prog 175 [v0,.func (.func f) first.toArray cap.toArray] [] (fF v0 n ms q::Fc) (IsV (.bool (X.fstT p n 0).isSome)):=by
 refine fn_of [(0,v0),(1,(.func (.func f) first.toArray cap.toArray))] 9 Tryz.func175 rfl Tryz.ntmps175 (by kernel_rfl) rfl suA fun h0=>?_
 repeat'(first|refine gA ?_|(refine goG ?_;intro g)|(refine goV ?_;intro v))
 refine WL.callV (indexF_c v0 n ms q f first cap Fc p hf) ?_ (hF:=.cons (.f hmA) (hasB_tail fun _ h=>by(repeat(first|exact h|apply List.mem_cons_of_mem))))
 cases hp:X.fstT p n 0 with
 |none=>
  rw[show optI none= -1 from rfl]
  repeat'(first|refine gA ?_|(refine goG ?_;intro g)|(refine goV ?_;intro v))
  refine WC.ret ?_
  exact Fin.v (ResE.t1 rfl rfl) meA rfl
 |some k=>
  rw[show optI (some k)=(k:Int) from rfl]
  repeat'(first|refine gA ?_|(refine goG ?_;intro g)|(refine goV ?_;intro v))
  refine WC.ret ?_
  exact Fin.v (ResE.t1 rfl rfl) meA rfl
set_option maxRecDepth 60000 in
theorem negf_c (m:QM) (q:Rat):FnB Tryz.prog 176 [qv m] [] [isQ (qv m) q] (IsV (.bool (decide (q < 0)))):=by
 refine fn_of [(0,(qv m))] 6 Tryz.func176 rfl Tryz.ntmps176 (by kernel_rfl) rfl suA fun h0=>?_
 have hs:=@sgn_neg q
 repeat'(first|refine gA ?_|(refine goG ?_;intro g)|(refine goV ?_;intro v))
 first|refine WL.callV (Zn.sign m q) ?_|refine WD.callV (Zn.sign m q) ?_
 by_cases c:q < 0
 ·have c':=hs.2 c
  repeat'(first|refine gA ?_|(refine goG ?_;intro g)|(refine goV ?_;intro v))
  refine WC.ret ?_
  exact Fin.v (ResE.t1 rfl rfl) meA (by rw[decide_eq_true c])
 ·have c':0≤sgn q.num:=Int.not_lt.1 fun h=>c (hs.1 h)
  repeat'(first|refine gA ?_|(refine goG ?_;intro g)|(refine goV ?_;intro v))
  refine WC.ret ?_
  exact Fin.v (ResE.t1 rfl rfl) meA (by rw[decide_eq_false c])
set_option maxRecDepth 60000 in
theorem aof_c (M:Pm) (p:X.Lp) (g9 r k:Nat) (hr:r < p.m) (hk:k < p.v):FnB Tryz.prog 178 [lnv M r,ptr g9] [] [ce g9 3 [.int .i64 (k:Int)],fP M p] (IsR (p.a r k)):=by
 refine fn_of [(0,(lnv M r)),(1,(ptr g9))] 9 Tryz.func178 rfl Tryz.ntmps178 (by kernel_rfl) rfl suA fun h0=>?_
 refine WC.fact (fF (M.av r) p.v (M.ma r) (p.a r)) (W.Has.pa (M:=M) (m:=p.m) (gn:=p.v) (ln:=fun _=>p.v) (a:=p.a) (b:=p.b) (g:=p.g) hmA hr) ?_
 refine WC.fact (isQ (qv (M.ma r k)) (p.a r k)) (W.Has.q (W.Has.fm (v:=M.av r) hmA) hk) ?_
 refine WC.fact (isQ (qv (M.mb r)) (p.b r)) (W.Has.pbq (M:=M) (m:=p.m) (gn:=p.v) (ln:=fun _=>p.v) (a:=p.a) (b:=p.b) (g:=p.g) hmA hr) ?_
 repeat'(first|refine gA ?_|(refine goG ?_;intro g)|(refine goV ?_;intro v))
 refine WC.ret ?_
 exact Fin.p [] [isQ (qv (M.ma r k)) (p.a r k)] (ResE.cV rfl rfl meA T.r31 rfl) meA (List.nil_sublist _) haA ⟨_,rfl,rfl,rfl⟩
set_option maxRecDepth 60000 in
theorem bof_c (M:Pm) (p:X.Lp) (r:Nat) (hr:r < p.m):FnB Tryz.prog 179 [lnv M r] [] [fP M p] (IsR (p.b r)):=by
 refine fn_of [(0,(lnv M r))] 5 Tryz.func179 rfl Tryz.ntmps179 (by kernel_rfl) rfl suA fun h0=>?_
 refine WC.fact (fF (M.av r) p.v (M.ma r) (p.a r)) (W.Has.pa (M:=M) (m:=p.m) (gn:=p.v) (ln:=fun _=>p.v) (a:=p.a) (b:=p.b) (g:=p.g) hmA hr) ?_
 refine WC.fact (isQ (qv (M.mb r)) (p.b r)) (W.Has.pbq (M:=M) (m:=p.m) (gn:=p.v) (ln:=fun _=>p.v) (a:=p.a) (b:=p.b) (g:=p.g) hmA hr) ?_
 repeat'(first|refine gA ?_|(refine goG ?_;intro g)|(refine goV ?_;intro v))
 refine WC.ret ?_
 exact Fin.p [] [isQ (qv (M.mb r)) (p.b r)] (ResE.cV rfl rfl meA T.r31 rfl) meA (List.nil_sublist _) haA ⟨_,rfl,rfl,rfl⟩
set_option maxRecDepth 60000 in
theorem column_c (M:Pm) (p:X.Lp) (K g3 g4:Nat) (yv:Value) (my:Nat→QM) (y:Nat→Rat) (f:FuncId) (first cap:List Value) (Fc:List Fct) (c:Nat→Rat)
  (hf:∀ r,r < p.m→FnB Tryz.prog f (first++[lnv M r]++cap) [] Fc (IsR (c r))) (hd:Dok p.m K) (hm:p.m≤1000) (hc:∀ r,r < p.m→Sq K (c r)) (hy:∀ r,r < p.m→Sq K (y r)) :
  FnB Tryz.prog 177 [.func (.func f) first.toArray cap.toArray,ptr g3,ptr g4] [] (ce g3 26 (pcs M p.v)::ce g4 24 [yv]::fF yv p.m my y::fP M p::Fc) (IsR (X.sm p.m fun r=>c r*y r)):=by
 refine fn_of [(0,(.func (.func f) first.toArray cap.toArray)),(1,(ptr g3)),(2,(ptr g4))] 30 Tryz.func177 rfl Tryz.ntmps177 (by kernel_rfl) rfl suA fun h0=>?_
 repeat'(first|refine gA ?_|(refine goG ?_;intro g)|(refine goV ?_;intro v))
 revert v;intro lw
 revert g;intro g2
 refine WC.lp (σ:=Nat×(Nat→QM)) (fun st=>[(15,.int .i64 (st.1:Int)),(14,.int .i64 (p.m:Int)),(13,M.lv),(5,lw),(0,.func (.func f) first.toArray cap.toArray),(1,ptr g3),(2,ptr g4),(4,ptr g2)]) (fun st=>[Ow.slice lw 31 4 (qcells p.m st.2),Ow.cells g2 31 (qcs m00)])
  (fun st=>mF p.m st.2 (clx c st.1)::ge h0::ce g3 26 (pcs M p.v)::ce g4 24 [yv]::fF yv p.m my y::fP M p::Fc) (fun st=>st.1≤p.m) (fun st=>p.m - st.1) (0,fun _=>m00) (Nat.zero_le _) ?_ (hG:=.cons ((W.Has.mF0 p.m).mFsame fun i _=>by simp[clx]) (.cons hmA (.cons hmA (.cons hmA (.cons hmA (.cons hmA (HasAll.tail fun _ h=>by(repeat(first|exact h|apply List.mem_cons_of_mem)))))))))
 rintro⟨k,mx⟩ hk
 simp only at hk ⊢
 by_cases ck:k < p.m
 ·refine WC.fact (isQ (qv (M.mb k)) (p.b k)) (W.Has.pbq (M:=M) (m:=p.m) (gn:=p.v) (ln:=fun _=>p.v) (a:=p.a) (b:=p.b) (g:=p.g) hmA ck) ?_
  refine WC.fact (fF (M.av k) p.v (M.ma k) (p.a k)) (W.Has.pa (M:=M) (m:=p.m) (gn:=p.v) (ln:=fun _=>p.v) (a:=p.a) (b:=p.b) (g:=p.g) hmA ck) ?_
  repeat'(first|refine gA ?_|(refine goG ?_;intro g)|(refine goV ?_;intro v))
  refine WL.callC first cap (vs:=[lnv M k]) (hf k ck) ?_ (hF:=HasAll.tail fun _ h=>by(repeat(first|exact h|apply List.mem_cons_of_mem)))
  rintro _ _ _ ⟨m1,rfl,rfl,rfl⟩
  simp only[List.nil_append,List.cons_append]
  refine WL.fact' (mF p.m (upd mx k m1) (clx c (k+1))) ((W.Has.mFset (k:=k) (ms:=mx) (m:=m1) (qf:=clx c k) hmA hmA).mFsame fun i _=>clx_up i) ?_
  repeat'(first|refine gA ?_|(refine goG ?_;intro g)|(refine goV ?_;intro v))
  exact LoopEnd.mk (k+1,_) (by show k+1≤p.m;omega) (by show p.m - (k+1) < p.m - k;omega) (hG:=.cons hmA (.cons hmA (.cons hmA (.cons hmA (.cons hmA (.cons hmA (HasAll.tail fun _ h=>by(repeat(first|exact h|apply List.mem_cons_of_mem)))))))))
 ·obtain rfl:k=p.m:=by omega
  repeat'(first|refine gA ?_|(refine goG ?_;intro g)|(refine goV ?_;intro v))
  refine WL.freezeF lw p.m mx (clx c p.m) (by repeat(first|exact Sel.head|apply Sel.tail)) hmA ?_
  have he:(X.sm p.m fun r=>clx c p.m r*y r)=X.sm p.m fun r=>c r*y r:=X.sm_congr fun r hr=>by unfold clx;rw[if_pos hr]
  refine WL.callK (dot_c lw yv p.m K mx my (clx c p.m) y (by omega) hd (fun r hr=>by unfold clx;rw[if_pos hr];exact hc r hr) hy) ?_
  rw[he]
  rintro _ _ _ ⟨m1,rfl,rfl,rfl⟩
  simp only[List.nil_append,List.cons_append]
  repeat'(first|refine gA ?_|(refine goG ?_;intro g)|(refine goV ?_;intro v))
  refine WC.ret ?_
  exact Fin.p [] [isQ (qv m1) (X.sm p.m fun r=>c r*y r)] (ResE.cV rfl rfl meA T.r31 rfl) meA (List.nil_sublist _) haA ⟨_,rfl,rfl,rfl⟩
set_option maxRecDepth 60000 in
theorem sums_c (M:Pm) (p:X.Lp) (K yn:Nat) (yv gw:Value) (my mg:Nat→QM) (y gf:Nat→Rat) (hd:Dok p.m K) (hv:p.v≤1000) (hm:p.m≤1000) (ha:∀ r,r < p.m→∀ k,k < p.v→Sq K (p.a r k)) (hb:∀ r,r < p.m→Sq K (p.b r)) (hy:∀ r,r < yn→Sq K (y r)) :
  FnB Tryz.prog 129 [pgv M p.v,yv,gw] [] [fP M p,fF yv yn my y,fF gw p.v mg gf] (IsSums p yn y gf):=by
 refine fn_of [(0,(pgv M p.v)),(1,yv),(2,gw)] 40 Tryz.func129 rfl Tryz.ntmps129 (by kernel_rfl) rfl suA fun h0=>?_
 have zero:sumsOk p yn y gf=false→IsSums p yn y gf (.tuple #[qv m00,.bool false]) [] [isQ (qv m00) 0]:=fun h=>⟨m00,by rw[h],rfl,by rw[h];rfl⟩
 refine WC.lenF (v:=M.lv) (m:=p.m) (W.Has.pl (M:=M) (m:=p.m) (gn:=p.v) (ln:=fun _=>p.v) (a:=p.a) (b:=p.b) (g:=p.g) hmA) fun hmm=>?_
 by_cases c:yn=p.m
 ·subst c
  repeat'(first|refine gB ?_|(refine gH ?_;intro g)|(refine gW ?_;intro v))
  rename_i g3 g4
  revert g;intro g6
  refine WL.callV (containsF_c yv p.m my y 176 [] [] [] (fun r=>decide (y r < 0)) (fun r _=>negf_c (my r) (y r))) ?_ (hF:=.cons (.f hmA) .nil)
  cases hx:(X.fstT (fun r=>decide (y r < 0)) p.m 0).isSome with
  |true=>
   repeat'(first|refine gB ?_|(refine gH ?_;intro g)|(refine gW ?_;intro v))
   refine WC.ret ?_
   have h0:sumsOk p p.m y gf=false:=by unfold sumsOk;rw[hx];simp
   exact Fin.p [] [isQ (qv m00) 0] (ResE.cT rfl rfl meA T.r31 rfl rfl) meA (List.nil_sublist _) (.cons hasQ0 .nil) (zero h0)
  |false=>
   have hok:sumsOk p p.m y gf= !(X.fstT (fun k=>decide (¬(X.sm p.m fun r=>p.a r k*y r)=gf k)) p.v 0).isSome:=by unfold sumsOk;rw[hx];simp
   repeat'(first|refine gB ?_|(refine gH ?_;intro g)|(refine gW ?_;intro v))
   refine WC.keep (g:=g3) (t:=26) (cs:=pcs M p.v) (by repeat(first|exact Rem.head|apply Rem.tail)) ?_
   refine WC.keep (g:=g4) (t:=24) (cs:=[yv]) (by repeat(first|exact Rem.head|apply Rem.tail)) ?_
   refine WC.lp (σ:=Nat) (fun k=>[(24,.int .i64 (k:Int)),(23,.int .i64 (p.v:Int)),(8,.func (.func 177) #[] #[ptr g3,ptr g4]),(2,gw),(6,ptr g6)]) (fun _=>[Ow.cells g6 31 (qcs m00)])
    (fun _=>[ge h0,ce g3 26 (pcs M p.v),ce g4 24 [yv],fP M p,fF yv p.m my y,fF gw p.v mg gf]) (fun k=>k≤p.v∧X.fstT (fun k=>decide (¬(X.sm p.m fun r=>p.a r k*y r)=gf k)) p.v 0=X.fstT (fun k=>decide (¬(X.sm p.m fun r=>p.a r k*y r)=gf k)) (p.v - k) k) (fun k=>p.v - k) 0 ⟨Nat.zero_le _,rfl⟩ ?_
   rintro k ⟨hk,he⟩
   by_cases ck:k < p.v
   ·rw[fstT_at ck] at he
    refine WC.fact (isQ (qv (mg k)) (gf k)) (W.Has.q (W.Has.fm (v:=gw) hmA) ck) ?_
    repeat'(first|refine gB ?_|(refine gH ?_;intro g)|(refine gW ?_;intro v))
    revert g;intro g9
    refine WC.keep (g:=g9) (t:=3) (cs:=[.int .i64 (k:Int)]) (by repeat(first|exact Rem.head|apply Rem.tail)) ?_
    repeat refine WC.seq ?_
    refine WC.draw (id:=7) [0,1,3,4,5,6,8] (.held 0 (.held 1 (.held 3 (.held 4 (.held 5 (.held 6 (.loud 2 (.loud 7 (.held 8 (.done)))))))))) mixed (by kernel_rfl) ?_
    repeat'(first|refine gB ?_|(refine gH ?_;intro g)|(refine gW ?_;intro v))
    refine WD.callC [] [ptr g3,ptr g4] (vs:=[.func (.func 178) #[] #[ptr g9]]) (column_c M p K g3 g4 yv my y 178 [] [ptr g9] [ce g9 3 [.int .i64 (k:Int)],fP M p] (fun r=>p.a r k) (fun r hr=>aof_c M p g9 r k hr ck) hd hm (fun r hr=>ha r hr k ck) hy) ?_
    rintro _ _ _ ⟨m1,rfl,rfl,rfl⟩
    simp only[List.nil_append,List.cons_append]
    repeat'(first|refine gB ?_|(refine gH ?_;intro g)|(refine gW ?_;intro v))
    refine WD.callK (Zn.same m1 (mg k) (X.sm p.m fun r=>p.a r k*y r) (gf k)) ?_
    rintro _ _ _ ⟨rfl,rfl,rfl⟩
    simp only[List.nil_append,List.cons_append]
    by_cases cs:(X.sm p.m fun r=>p.a r k*y r)=gf k
    ·rw[if_neg (by simp[cs])] at he
     rw[decide_eq_true cs]
     repeat'(first|refine gB ?_|(refine gH ?_;intro g)|(refine gW ?_;intro v))
     exact LoopEnd.mk (k+1) ⟨by omega,he⟩ (by omega)
    ·rw[if_pos (decide_eq_true cs)] at he
     rw[decide_eq_false cs]
     repeat'(first|refine gB ?_|(refine gH ?_;intro g)|(refine gW ?_;intro v))
     refine WC.ret ?_
     have h0:sumsOk p p.m y gf=false:=by rw[hok,he];rfl
     exact Fin.p [] [isQ (qv m00) 0] (ResE.cT rfl rfl meA T.r31 rfl rfl) meA (List.nil_sublist _) (.cons hasQ0 .nil) (zero h0)
   ·obtain rfl:k=p.v:=by omega
    rw[Nat.sub_self,X.fstT] at he
    rw[he] at hok
    repeat'(first|refine gB ?_|(refine gH ?_;intro g)|(refine gW ?_;intro v))
    refine WL.callC [] [ptr g3,ptr g4] (vs:=[.func (.func 179) #[] #[]]) (column_c M p K g3 g4 yv my y 179 [] [] [fP M p] p.b (fun r hr=>bof_c M p r hr) hd hm hb hy) ?_
    rintro _ _ _ ⟨m1,rfl,rfl,rfl⟩
    simp only[List.nil_append,List.cons_append]
    repeat'(first|refine gB ?_|(refine gH ?_;intro g)|(refine gW ?_;intro v))
    refine WC.ret ?_
    exact Fin.p [] [isQ (qv m1) (X.sm p.m fun r=>p.b r*y r)] (ResE.cT rfl rfl meA T.r31 rfl rfl) meA (List.nil_sublist _) haA ⟨m1,by rw[hok];rfl,rfl,by rw[hok];rfl⟩
 ·repeat'(first|refine gB ?_|(refine gH ?_;intro g)|(refine gW ?_;intro v))
  refine WC.ret ?_
  have h0:sumsOk p yn y gf=false:=by unfold sumsOk;rw[decide_eq_false c];rfl
  exact Fin.p [] [isQ (qv m00) 0] (ResE.cT rfl rfl meA T.r31 rfl rfl) meA (List.nil_sublist _) (.cons hasQ0 .nil) (zero h0)
end Z
end Go.Proofs.YtaongbhamadlkaaGreat
namespace Go.Proofs.YtaongbhamadlkaaGreat
namespace X
def ca (L:List Ln) (i k:Nat):Rat:=co (L.getD i ([],0)) k
def cb (L:List Ln) (i:Nat):Rat:=(L.getD i ([],0)).2
def lpOf (v:Nat) (L:List Ln) (g:Nat→Rat):Lp:=⟨v,L.length,ca L,cb L,g⟩
def at_ (v:Nat) (g x:Nat→Rat):Rat:=sm v fun k=>g k*x k
def Sem (p:Lp) (k:Int) (z:Rat):Prop:=
 (k=1∧z=0∧∀ x,¬IsPt p x)∨(k=0∧(∃ x,IsPt p x∧at_ p.v p.g x=z)∧∀ x,IsPt p x→at_ p.v p.g x≤z)∨(k=2∧z=0∧∀ t,∃ x,IsPt p x∧t≤at_ p.v p.g x)
section
variable {p q:Lp} {k k':Int} {z z':Rat} {x y:Nat→Rat} {v:Nat} {L:List Ln} {g:Nat→Rat}
theorem Sem.inf (h:IsInf p y):Sem p 1 0:=.inl ⟨rfl,rfl,fun _=>inf_no h⟩
theorem Sem.opt (h:IsOpt p x y z):Sem p 0 z:=.inr (.inl ⟨rfl,⟨x,h.1,h.2.2.2.2⟩,fun _ hx=>opt_max h hx⟩)
theorem Sem.unb (h:IsUnb p x y):Sem p 2 0:=.inr (.inr ⟨rfl,rfl,unb_far h⟩)
theorem Sem.uniq (h:Sem p k z) (h':Sem p k' z'):k=k'∧z=z':=by
 rcases h with ⟨rfl,rfl,h1⟩|⟨rfl,⟨x,h1,h2⟩,h3⟩|⟨rfl,rfl,h1⟩ <;> rcases h' with ⟨rfl,rfl,g1⟩|⟨rfl,⟨u,g1,g2⟩,g3⟩|⟨rfl,rfl,g1⟩
 ·exact⟨rfl,rfl⟩
 ·exact absurd g1 (h1 _)
 ·obtain⟨u,g2,_⟩:=g1 0;exact absurd g2 (h1 _)
 ·exact absurd h1 (g1 _)
 ·have e1:=h3 u g1
  have e2:=g3 x h1
  exact⟨rfl,by grind⟩
 ·obtain⟨u,g2,g3⟩:=g1 (z+1)
  have:=h3 u g2
  grind
 ·obtain⟨u,g2,_⟩:=h1 0;exact absurd g2 (g1 _)
 ·obtain⟨u,u1,u2⟩:=h1 (z'+1)
  have:=g3 u u1
  grind
 ·exact⟨rfl,rfl⟩
theorem Sem.k3 (h:Sem p k z):k=0∨k=1∨k=2:=by
 rcases h with ⟨rfl,_⟩|⟨rfl,_⟩|⟨rfl,_⟩ <;> omega
theorem Sem.one (h:Sem p k z):k=1↔¬∃ x,IsPt p x:=by
 rcases h with ⟨rfl,_,h1⟩|⟨rfl,⟨x,h1,_⟩,_⟩|⟨rfl,_,h1⟩
 ·exact⟨fun _ ⟨x,hx⟩=>h1 x hx,fun _=>rfl⟩
 ·exact⟨fun h=>absurd h (by decide),fun h=>absurd ⟨x,h1⟩ h⟩
 ·obtain⟨u,u1,_⟩:=h1 0
  exact⟨fun h=>absurd h (by decide),fun h=>absurd ⟨u,u1⟩ h⟩
end
end X
end Go.Proofs.YtaongbhamadlkaaGreat
namespace Go.Proofs.YtaongbhamadlkaaGreat
open W Go.RowKit
abbrev lncells (n:Nat) (M:Pm):List Value:=cellsF (n*5) (pcell M.av M.mb)
def Pm.at (M:Pm) (v:Value):Pm:={M with lv:=v}
def Pm.app (M:Pm) (n:Nat) (a:Value) (m:Nat→QM) (b:QM):Pm:={M with av:=upd M.av n a,ma:=upd M.ma n m,mb:=upd M.mb n b}
def Pm.wg (M:Pm) (v:Value) (m:Nat→QM):Pm:={M with gv:=v,mg:=m}
def Pm.no:Pm:=⟨.slice none 0 0,.slice none 0 0,fun _=>.slice none 0 0,fun _ _=>m00,fun _=>m00,fun _=>m00⟩
theorem lncells_app {n:Nat} {M:Pm} {a:Value} {m:Nat→QM} {b:QM}:lncells n M++(a::qcs b)=lncells (n+1) (M.app n a m b):=by
 refine cellsF_ext (by rw[List.length_append,cellsF_len];show n*5+5=_;omega) fun j hj=>?_
 by_cases h:j < n*5
 ·rw[List.getElem?_append_left (by rw[cellsF_len];exact h),cellsF_get h];unfold pcell Pm.app;dsimp only;rw[upd_ne (by omega),upd_ne (by omega)]
 ·rw[List.getElem?_append_right (by rw[cellsF_len];omega),cellsF_len,row_get (n:=5) rfl (by omega)]
  unfold pcell Pm.app;dsimp only;rw[show j / 5=n by omega,upd_at,upd_at,show j % 5=j - n*5 by omega]
def Pm.cat (M:Pm) (n:Nat) (N:Pm):Pm:=
 {M with av:=fun i=>if i < n then M.av i else N.av (i - n),ma:=fun i=>if i < n then M.ma i else N.ma (i - n),mb:=fun i=>if i < n then M.mb i else N.mb (i - n)}
theorem lncells_cat {n k:Nat} {M N:Pm}:lncells n M++lncells k N=lncells (n+k) (M.cat n N):=by
 refine cellsF_ext (by rw[List.length_append,cellsF_len,cellsF_len];omega) fun j hj=>?_
 by_cases h:j < n*5
 ·rw[List.getElem?_append_left (by rw[cellsF_len];exact h),cellsF_get h]
  unfold pcell Pm.cat;dsimp only;rw[if_pos (by omega),if_pos (by omega)]
 ·rw[List.getElem?_append_right (by rw[cellsF_len];omega),cellsF_len,cellsF_get (by omega)]
  unfold pcell Pm.cat;dsimp only;rw[if_neg (by omega),if_neg (by omega),show(j - n*5) / 5=j / 5 - n by omega,show(j - n*5) % 5=j % 5 by omega]
def qcat (ms:Nat→QM) (n:Nat) (ns:Nat→QM) (i:Nat):QM:=if i < n then ms i else ns (i - n)
theorem qcells_cat {n k:Nat} {M N:Nat→QM}:qcells n M++qcells k N=qcells (n+k) (qcat M n N):=by
 refine cellsF_ext (by rw[List.length_append,cellsF_len,cellsF_len];omega) fun j hj=>?_
 by_cases h:j < n*4
 ·rw[List.getElem?_append_left (by rw[cellsF_len];exact h),cellsF_get h]
  unfold qcell qcat;rw[if_pos (by omega)]
 ·rw[List.getElem?_append_right (by rw[cellsF_len];omega),cellsF_len,cellsF_get (by omega)]
  unfold qcell qcat;rw[if_neg (by omega),show(j - n*4) / 4=j / 4 - n by omega,show(j - n*4) % 4=j % 4 by omega]
structure LM where
 a:Value
 m:Nat→QM
 b:QM
def Pm3 (N1 N2 N3:LM):Pm:=((Pm.no.app 0 N1.a N1.m N1.b).app 1 N2.a N2.m N2.b).app 2 N3.a N3.m N3.b
def lnQ (M:Pm) (w:Nat) (L:List X.Ln):Fct where
 p h:=(∀ i,i < L.length→(fF (M.av i) w (M.ma i) (X.ca L i)).p h)∧(mF L.length M.mb (X.cb L)).p h
 mono _ _ hl hp:=⟨fun i hi=>(fF _ _ _ _).mono _ _ hl (hp.1 i hi),(mF _ _ _).mono _ _ hl hp.2⟩
def fLn (M:Pm) (w:Nat) (L:List X.Ln):Fct where
 p h:=(slC M.lv L.length 5 (pcell M.av M.mb)).p h∧(lnQ M w L).p h
 mono _ _ hl hp:=⟨(slC _ _ _ _).mono _ _ hl hp.1,(lnQ _ _ _).mono _ _ hl hp.2⟩
theorem ca_app {L L2:List X.Ln} {i:Nat} (h:i < L.length):X.ca (L++L2) i=X.ca L i:=by
 unfold X.ca;simp only[List.getD_eq_getElem?_getD];rw[List.getElem?_append_left h]
theorem cb_app {L L2:List X.Ln} {i:Nat} (h:i < L.length):X.cb (L++L2) i=X.cb L i:=by
 unfold X.cb;simp only[List.getD_eq_getElem?_getD];rw[List.getElem?_append_left h]
theorem ca_app2 {L L2:List X.Ln} {i:Nat} (h:¬i < L.length):X.ca (L++L2) i=X.ca L2 (i - L.length):=by
 unfold X.ca;simp only[List.getD_eq_getElem?_getD];rw[List.getElem?_append_right (by omega)]
theorem cb_app2 {L L2:List X.Ln} {i:Nat} (h:¬i < L.length):X.cb (L++L2) i=X.cb L2 (i - L.length):=by
 unfold X.cb;simp only[List.getD_eq_getElem?_getD];rw[List.getElem?_append_right (by omega)]
theorem ca_0 (c:X.Ln) (l:List X.Ln):X.ca (c::l) 0=X.co c:=rfl
theorem cb_0 (c:X.Ln) (l:List X.Ln):X.cb (c::l) 0=c.2:=rfl
section
variable {P:Program} {e:Env} {bx bx':List Ow} {F:List Fct} {ty t el:TypeId} {x y:Operand} {v u:Value} {M N:Pm} {i n k w:Nat} {L L2:List X.Ln} {K:RPost} {g:Nat→Rat} {gv:Value} {mg:Nat→QM}
theorem W.Has.lns (h:Has F (fLn M w L)):Has F (slC M.lv L.length 5 (pcell M.av M.mb)):=fun p hf=>(h p hf).1
theorem W.Has.lnq (h:Has F (fLn M w L)):Has F (lnQ M w L):=fun p hf=>(h p hf).2
theorem W.Has.lna (h:Has F (lnQ M w L)) (hi:i < L.length):Has F (fF (M.av i) w (M.ma i) (X.ca L i)):=fun p hf=>(h p hf).1 i hi
theorem W.Has.lnbs (h:Has F (lnQ M w L)):Has F (mF L.length M.mb (X.cb L)):=fun p hf=>(h p hf).2
theorem W.Has.lnb (h:Has F (lnQ M w L)) (hi:i < L.length):Has F (isQ (qv (M.mb i)) (X.cb L i)):=W.Has.q h.lnbs hi
theorem W.Has.ln (h:Has F (slC M.lv L.length 5 (pcell M.av M.mb))) (h2:Has F (lnQ M w L)):Has F (fLn M w L):=fun p hf=>⟨h p hf,h2 p hf⟩
theorem W.Has.lnp (h:Has F (fLn M w L)) (h2:Has F (fF M.gv w M.mg g)):Has F (fP M (X.lpOf w L g)):=fun p hf=>⟨(h p hf).1,fun i hi=>(h p hf).2.1 i hi,(h p hf).2.2,h2 p hf⟩
theorem W.Has.lnwg (h:Has F (fLn M w L)):Has F (fLn (M.wg gv mg) w L):=fun p hf=>h p hf
theorem W.Has.lnn:Has F (lnQ M w []):=fun p _=>⟨fun i hi=>absurd hi (by simp),fun i hi=>absurd hi (by simp)⟩
theorem W.Has.lnapp {a:Value} {ma:Nat→QM} {b:QM} (h:Has F (lnQ M w L)) (c:X.Ln) (h2:Has F (fF a w ma (X.co c))) (h3:Has F (isQ (qv b) c.2)):Has F (lnQ (M.app L.length a ma b) w (L++[c])):=fun p hf=>by
 have h1:=h p hf
 refine⟨fun i hi=>?_,fun i hi=>?_⟩
 ·rw[List.length_append,List.length_singleton] at hi
  by_cases e:i < L.length
  ·rw[ca_app e]
   show(fF (upd M.av L.length a i) w (upd M.ma L.length ma i) _).p p
   rw[upd_ne (by omega),upd_ne (by omega)];exact h1.1 i e
  ·obtain rfl:i=L.length:=by omega
   rw[ca_app2 e,Nat.sub_self,ca_0]
   show(fF (upd M.av L.length a L.length) w (upd M.ma L.length ma L.length) _).p p
   rw[upd_at,upd_at];exact h2 p hf
 ·rw[List.length_append,List.length_singleton] at hi
  by_cases e:i < L.length
  ·rw[cb_app e]
   show(isQ (qv (upd M.mb L.length b i)) _).p p
   rw[upd_ne (by omega)];exact h1.2 i e
  ·obtain rfl:i=L.length:=by omega
   rw[cb_app2 e,Nat.sub_self,cb_0]
   show(isQ (qv (upd M.mb L.length b L.length)) _).p p
   rw[upd_at];exact h3 p hf
theorem KnS.ln (h:Has F (fLn M w L)):KnS bx F M.lv L.length:=KnS.f h.lns
theorem KnS.lna (h:Has F (lnQ M w L)) (hi:i < L.length):KnS bx F (M.av i) w:=KnS.ff (h.lna hi)
theorem YO.ldLns (hs:Row P t 5) (hx:ev e x=some (.pointer (some (eaddr M.lv (i*5))))) (h:Has F (fLn M w L)) (hi:i < L.length):YO P (.load t x) ty e bx F (lnv M i):=
 YO.ldRS (us:=M.av i::qcs (M.mb i)) hs hx h.lns (by omega) rfl fun k hk=>by
  rw[pcell_at _ _ _ hk]
  match k,hk with|0,_=>rfl|1,_=>rfl|2,_=>rfl|3,_=>rfl|4,_=>rfl
theorem YO.ldLnA (hs:Scalar P t) (hx:ev e x=some (.pointer (some (eaddr M.lv (i*5+0))))) (h:Has F (fLn M w L)) (hi:i < L.length):YO P (.load t x) ty e bx F (M.av i):=by
 have:=YO.ldS (ty:=ty) (bx:=bx) hs hx h.lns (by omega)
 rwa [pcell_at _ _ _ (by omega)] at this
theorem YO.ldLnB (hs:Row P t 4) (hx:ev e x=some (.pointer (some (eaddr M.lv (i*5+1))))) (h:Has F (fLn M w L)) (hi:i < L.length):YO P (.load t x) ty e bx F (qv (M.mb i)):=
 YO.ldRS (us:=qcs (M.mb i)) hs hx h.lns (by omega) rfl fun k hk=>by
  rw[Nat.add_assoc,pcell_at _ _ _ (by omega)]
  match k,hk with|0,_=>rfl|1,_=>rfl|2,_=>rfl|3,_=>rfl
theorem KnS.oLn (h:Ow.slice v el 5 (lncells n M)∈bx):KnS bx F v n:=KnS.o h (cellsF_len _ _) (by decide)
theorem okLn {fr:PH} {w':World} {v:Value} (ho:OK fr bx F w') (hs:Sel bx (.slice v el 5 (lncells L.length M)) (.slice (.slice none 0 0) el 5 []) bx') (hm:Has F (lnQ M w L)):OK fr bx' (fLn (M.at v) w L::slC v L.length 5 (pcell M.av M.mb)::F) w':=by
 have h:=ho.freeze hs (cellsF_len _ _) (by decide) (pcell M.av M.mb) fun j hj=>cellsF_get hj
 exact h.add (f:=Go.Proofs.YtaongbhamadlkaaGreat.fLn (M.at v) w L) ⟨h.facts _ (List.mem_cons_self ..),(show Has (slC v L.length 5 (pcell M.av M.mb)::F) (lnQ M w L) from fun p hp=>hm p fun g hg=>hp g (List.mem_cons_of_mem _ hg)) _ h.facts⟩
theorem HasB.fLn (hb:Ow.slice v el 5 (lncells L.length M)∈bx) (hm:Has F (lnQ M w L)):HasB bx F (Go.Proofs.YtaongbhamadlkaaGreat.fLn (M.at v) w L):=fun fr w ho=>
 ⟨HasB.o hb (cellsF_len _ _) (by decide) (fun j hj=>cellsF_get hj) fr w ho,HasB.f hm fr w ho⟩
theorem KnS.oL1 {a:Value} {b:QM} (h:Ow.slice v el 5 (a::qcs b)∈bx):KnS bx F v 1:=KnS.o h rfl (by decide)
theorem WD.addNil {n':Nat} {hs:List Nat} {b0:List Ow} {F0:List Fct} {r:Plan} {Lo:List Oper} {Q2:Env→List Ow→List Fct→Prop} (el sz:Nat) (h:WD P n' Lo hs b0 F0 r e (Ow.slice (.slice none 0 0) el sz []::bx) F Q2):WD P n' Lo hs b0 F0 r e bx F Q2:=fun fr w0 listed a w fuel Q' h1 h2 h3 h4 h5 h6 hk hr ho hf=>h fr w0 listed a w fuel Q' h1 h2 h3 h4 h5 h6 hk hr (ho.addNil el sz) hf
theorem LO.ofY {op:Op} {r:Value} (hy:YO P op ty e bx F r) (h:K r bx F):LO P op ty e bx F K:=fun n fr a w o next Q' h1 h2 h3 h4 h5=>by
 have:=hy n fr a w o h1 h2 h3 h4
 rw[this]
 exact h5 r w bx F (W.Rest.refl w) h4 h
theorem one_ln {a:Value} {b:QM} {q:Rat} {n:Nat} (ha:KnS bx F a n) (hq:Has F (isQ (qv b) q)):OneL bx F (a::qcs b):=.cons (One.sl ha) (one_q hq)
theorem LO.bsLn1 {a:Value} {b:QM} {ma:Nat→QM} {qf:Nat→Rat} (hx:ev e x=some (.agg #[a,.bool b.1,b.2.1,.bool false,b.2.2])) (ha0:Has F (fF a n ma qf)) (h:∀ v,K v (Ow.slice v 60 5 (a::qcs b)::bx) F):LO Tryz.prog (.buildSlice 23 1 #[(0,x)]) ty e bx F K:=by
 have ha:KnS bx F a n:=KnS.ff ha0
 refine LO.byP (p:=∃ a' c,a=.slice a' n c) (fun fr w ho=>by obtain⟨a',c,h1,_⟩:=(ha fr w ho).is;exact⟨a',c,h1⟩) ?_
 rintro⟨a',c,rfl⟩
 exact LO.buildSlice (parts:=[(0,x)]) (us:=[.agg #[.slice a' n c,.bool b.1,b.2.1,.bool false,b.2.2]]) (cs:=.slice a' n c::qcs b) (.cons hx .nil) (fun _=>by kernel_rfl) rfl (by decide) h
theorem LO.bsR10 (hx:ev e x=some (qv m00)) (h:∀ v,K v (Ow.slice v 31 4 (qcs m00)::bx) F):LO Tryz.prog (.buildSlice 24 1 #[(0,x)]) ty e bx F K:=LO.bsR1 hx h
theorem LO.bsR2 {m m':QM} (hx:ev e x=some (qv m)) (hy:ev e y=some (qv m')) (h:∀ v,K v (Ow.slice v 31 4 (qcells 2 (upd (upd (fun _=>m00) 0 m) 1 m'))::bx) F):LO Tryz.prog (.buildSlice 24 2 #[(0,x),(1,y)]) ty e bx F K:=by
 refine LO.buildSlice (el:=31) (sz:=4) (parts:=[(0,x),(1,y)]) (us:=[qv m,qv m']) (cs:=qcs m++qcs m') (.cons hx (.cons hy .nil)) (fun _=>by kernel_rfl) rfl (by decide) fun v=>?_
 have:=h v
 rwa [←qcells_app,←qcells_app,show qcells 0 (fun _=>m00)=[] from rfl,List.nil_append] at this
theorem LO.bsLn3 {z:Operand} {N1 N2 N3:LM} {w1 w2 w3:Nat} {q1 q2 q3:Nat→Rat} (h1:ev e x=some (.agg #[N1.a,.bool N1.b.1,N1.b.2.1,.bool false,N1.b.2.2])) (h2:ev e y=some (.agg #[N2.a,.bool N2.b.1,N2.b.2.1,.bool false,N2.b.2.2])) (h3:ev e z=some (.agg #[N3.a,.bool N3.b.1,N3.b.2.1,.bool false,N3.b.2.2]))
  (f1:Has F (fF N1.a w1 N1.m q1)) (f2:Has F (fF N2.a w2 N2.m q2)) (f3:Has F (fF N3.a w3 N3.m q3)) (h:∀ v,K v (Ow.slice v 60 5 (lncells 3 (Pm3 N1 N2 N3))::bx) F):LO Tryz.prog (.buildSlice 23 3 #[(0,x),(1,y),(2,z)]) ty e bx F K:=by
 obtain⟨a1,m1,b1⟩:=N1
 obtain⟨a2,m2,b2⟩:=N2
 obtain⟨a3,m3,b3⟩:=N3
 refine LO.byP (p:=(∃ a' c,a1=.slice a' w1 c)∧(∃ a' c,a2=.slice a' w2 c)∧∃ a' c,a3=.slice a' w3 c) (fun fr w ho=>by
  obtain⟨a,c,g1,_⟩:=((KnS.ff f1:KnS bx F a1 w1) fr w ho).is
  obtain⟨a',c',g2,_⟩:=((KnS.ff f2:KnS bx F a2 w2) fr w ho).is
  obtain⟨a'',c'',g3,_⟩:=((KnS.ff f3:KnS bx F a3 w3) fr w ho).is
  exact⟨⟨a,c,g1⟩,⟨a',c',g2⟩,a'',c'',g3⟩) ?_
 rintro⟨⟨a,c,rfl⟩,⟨a',c',rfl⟩,a'',c'',rfl⟩
 refine LO.buildSlice (el:=60) (sz:=5) (parts:=[(0,x),(1,y),(2,z)]) (us:=[.agg #[.slice a w1 c,.bool b1.1,b1.2.1,.bool false,b1.2.2],.agg #[.slice a' w2 c',.bool b2.1,b2.2.1,.bool false,b2.2.2],.agg #[.slice a'' w3 c'',.bool b3.1,b3.2.1,.bool false,b3.2.2]])
  (cs:=(.slice a w1 c::qcs b1)++(.slice a' w2 c'::qcs b2)++(.slice a'' w3 c''::qcs b3)) (.cons h1 (.cons h2 (.cons h3 .nil))) (fun _=>by kernel_rfl) rfl (by decide) fun v=>?_
 have:=h v
 unfold Pm3 at this
 rwa [←lncells_app,←lncells_app,←lncells_app,show lncells 0 Pm.no=[] from rfl,List.nil_append] at this
theorem LO.bsLn0 (h:∀ v,K v (Ow.slice v 60 5 []::bx) F):LO Tryz.prog (.buildSlice 23 0 #[]) ty e bx F K:=LO.buildSlice (parts:=[]) (us:=[]) (cs:=[]) .nil (fun _=>by kernel_rfl) rfl (by decide) h
section
variable {el':TypeId} {bx2:Value→List Ow}
theorem LO.appLn1 {a:Value} {ma:Nat→QM} {qf:Nat→Rat} {b:QM} {q:Rat} (hx:ev e x=some v) (hy:ev e y=some u) (hu:Ow.slice u el' 5 (a::qcs b)∈bx) (ha0:Has F (fF a w ma qf)) (hm:Has F (isQ (qv b) q)) (hs:∀ v',Sel bx (.slice v 60 5 (lncells n M)) (.slice v' 60 5 (lncells (n+1) (M.app n a ma b))) (bx2 v')) (hl:n≤1000000) (h:∀ v',K v' (bx2 v') F) :
  LO Tryz.prog (.call {callee:=.builtin .append,args:=#[x,y],argTypes:=#[23,23]}) ty e bx F K:=by
 refine LO.byP (fun fr w ho=>(one_ln (bx:=bx) (KnS.ff ha0) hm).all ho) fun h1=>?_
 exact LO.append T.e23 hx hy (news:=a::qcs b) (by rw[lncells_app (m:=ma)];exact hs) (SrcE.one hu rfl (by decide)) h1 (by rw[cellsF_len];show(n*5+5)*88≤_;omega) (by rw[cellsF_len];show n*5+5≤_;omega) h
theorem one_lncells {fr:PH} {w':World} (ho:OK fr bx F w') (hm:Has F (lnQ N w L)):∀ c∈lncells L.length N,c.oneCell'=true:=fun c hc=>by
 simp only[cellsF,List.mem_map,List.mem_range] at hc
 obtain⟨j,hj,rfl⟩:=hc
 have:=(one_ln (bx:=bx) (KnS.ff (hm.lna (i:=j / 5) (by omega))) (hm.lnb (i:=j / 5) (by omega))).all ho
 unfold pcell
 have hr:=row_get (l:=N.av (j / 5)::qcs (N.mb (j / 5))) (r:=j % 5) (n:=5) rfl (by omega)
 exact this _ (List.mem_of_getElem? hr)
theorem LO.appLnf (hx:ev e x=some v) (hy:ev e y=some N.lv) (hu:Has F (fLn N w L)) (hs:∀ v',Sel bx (.slice v 60 5 (lncells n M)) (.slice v' 60 5 (lncells (n+L.length) (M.cat n N))) (bx2 v')) (hl:n≤1000000) (hl2:L.length≤1000000) (h:∀ v',K v' (bx2 v') F) :
  LO Tryz.prog (.call {callee:=.builtin .append,args:=#[x,y],argTypes:=#[23,23]}) ty e bx F K:=by
 refine LO.byP (fun fr w ho=>one_lncells ho hu.lnq) fun h1=>?_
 exact LO.append T.e23 hx hy (news:=lncells L.length N) (by rw[lncells_cat];exact hs) (SrcE.fact hu.lns) h1 (by rw[cellsF_len,cellsF_len];omega) (by rw[cellsF_len,cellsF_len];omega) h
theorem LO.appLnf0 (hx:ev e x=some v) (hy:ev e y=some N.lv) (hu:Has F (fLn N w L)) (hs:∀ v',Sel bx (.slice v 60 5 []) (.slice v' 60 5 (lncells L.length N)) (bx2 v')) (hl2:L.length≤1000000) (h:∀ v',K v' (bx2 v') F) :
  LO Tryz.prog (.call {callee:=.builtin .append,args:=#[x,y],argTypes:=#[23,23]}) ty e bx F K:=by
 refine LO.byP (fun fr w ho=>one_lncells ho hu.lnq) fun h1=>?_
 exact LO.append T.e23 hx hy (cs:=[]) (news:=lncells L.length N) hs (SrcE.fact hu.lns) h1 (by rw[cellsF_len,List.length_nil];omega) (by rw[cellsF_len,List.length_nil];omega) h
theorem LO.appFg {ms ms':Nat→QM} {q:Nat→Rat} (hx:ev e x=some v) (hy:ev e y=some u) (hu:Has F (fF u k ms' q)) (hs:∀ v',Sel bx (.slice v 31 4 (qcells n ms)) (.slice v' 31 4 (qcells (n+k) (qcat ms n ms'))) (bx2 v')) (hl:n≤1000000) (hl2:k≤1000000) (h:∀ v',K v' (bx2 v') F) :
  LO Tryz.prog (.call {callee:=.builtin .append,args:=#[x,y],argTypes:=#[24,24]}) ty e bx F K:=by
 refine LO.byP (fun fr w ho=>one_fcells ho hu.fm) fun h1=>?_
 exact LO.append T.e24 hx hy (news:=qcells k ms') (by rw[qcells_cat];exact hs) (SrcE.fact hu.fs) h1 (by rw[cellsF_len,cellsF_len];omega) (by rw[cellsF_len,cellsF_len];omega) h
end
theorem made_ln (n:Nat):(madeCells (Value.agg #[.slice none 0 0,.bool false,.slice none 0 0,.bool false,.slice none 0 0]).cells (n*5)).toList=lncells n Pm.no:=
 madeF n 5 _ _ rfl (by decide) fun j=>by
  unfold pcell
  have h1:j % 5=0∨j % 5=1∨j % 5=2∨j % 5=3∨j % 5=4:=by omega
  rcases h1 with h1|h1|h1|h1|h1 <;> rw[h1] <;> rfl
theorem LO.makeLn {i:Int} (hx:ev e x=some (.int .i64 i)) (hy:ev e y=some (.int .i64 i)) (hi:NatI i n) (hb:n≤1000000) (h:∀ v,K v (Ow.slice v 60 5 (lncells n Pm.no)::bx) F):LO Tryz.prog (.makeSlice 23 x y) ty e bx F K:=by
 obtain rfl:=hi.eq
 exact LO.make T.e23 hx hy (by omega) (by omega) (made_ln n) h
theorem YO.buildLn0:YO Tryz.prog (.build 60 #[]) ty e bx F (.agg #[.slice none 0 0,.bool m00.1,m00.2.1,.bool false,m00.2.2]):=YO.build (parts:=[]) .nil fun w=>run_build w 60 _ _ (by kernel_rfl)
theorem YO.buildLnB {b:QM} (h1:ev e x=some (qv b)):YO Tryz.prog (.build 60 #[(1,x)]) ty e bx F (.agg #[.slice none 0 0,.bool b.1,b.2.1,.bool false,b.2.2]):=YO.build (parts:=[(1,x)]) (.cons h1 .nil) fun w=>run_build w 60 _ _ (by kernel_rfl)
theorem YO.buildLn1 (h1:ev e x=some v) (kd:KnS bx F v n):YO Tryz.prog (.build 60 #[(0,x)]) ty e bx F (.agg #[v,.bool m00.1,m00.2.1,.bool false,m00.2.2]):=by
 refine YO.byP (p:=∃ a c,v=.slice a n c) (fun fr w ho=>by obtain⟨a,c,h1,_⟩:=(kd fr w ho).is;exact⟨a,c,h1⟩) ?_
 rintro⟨a,c,rfl⟩
 exact YO.build (parts:=[(0,x)]) (.cons h1 .nil) fun w=>run_build w 60 _ _ (by kernel_rfl)
theorem YO.buildLn2 {b:QM} (h1:ev e x=some v) (h2:ev e y=some (qv b)) (kd:KnS bx F v n):YO Tryz.prog (.build 60 #[(0,x),(1,y)]) ty e bx F (.agg #[v,.bool b.1,b.2.1,.bool false,b.2.2]):=by
 refine YO.byP (p:=∃ a c,v=.slice a n c) (fun fr w ho=>by obtain⟨a,c,h1,_⟩:=(kd fr w ho).is;exact⟨a,c,h1⟩) ?_
 rintro⟨a,c,rfl⟩
 exact YO.build (parts:=[(0,x),(1,y)]) (.cons h1 (.cons h2 .nil)) fun w=>run_build w 60 _ _ (by kernel_rfl)
section
variable {z:Operand} {v2:Value} {n2:Nat} {j:Int}
theorem YO.buildPg0 (h1:ev e x=some (.int .i64 j)):YO Tryz.prog (.build 26 #[(0,x)]) ty e bx F (.agg #[.int .i64 j,.slice none 0 0,.slice none 0 0]):=YO.build (parts:=[(0,x)]) (.cons h1 .nil) fun w=>run_build w 26 _ _ (by kernel_rfl)
theorem YO.buildPg01 (h1:ev e x=some (.int .i64 j)) (h2:ev e y=some v) (kd:KnS bx F v n):YO Tryz.prog (.build 26 #[(0,x),(1,y)]) ty e bx F (.agg #[.int .i64 j,v,.slice none 0 0]):=by
 refine YO.byP (p:=∃ a c,v=.slice a n c) (fun fr w ho=>by obtain⟨a,c,h1,_⟩:=(kd fr w ho).is;exact⟨a,c,h1⟩) ?_
 rintro⟨a,c,rfl⟩
 exact YO.build (parts:=[(0,x),(1,y)]) (.cons h1 (.cons h2 .nil)) fun w=>run_build w 26 _ _ (by kernel_rfl)
theorem YO.buildPg02 (h1:ev e x=some (.int .i64 j)) (h2:ev e y=some v) (kd:KnS bx F v n):YO Tryz.prog (.build 26 #[(0,x),(2,y)]) ty e bx F (.agg #[.int .i64 j,.slice none 0 0,v]):=by
 refine YO.byP (p:=∃ a c,v=.slice a n c) (fun fr w ho=>by obtain⟨a,c,h1,_⟩:=(kd fr w ho).is;exact⟨a,c,h1⟩) ?_
 rintro⟨a,c,rfl⟩
 exact YO.build (parts:=[(0,x),(2,y)]) (.cons h1 (.cons h2 .nil)) fun w=>run_build w 26 _ _ (by kernel_rfl)
theorem YO.buildPg3 (h1:ev e x=some (.int .i64 j)) (h2:ev e y=some v) (h3:ev e z=some v2) (kd:KnS bx F v n) (kd2:KnS bx F v2 n2):YO Tryz.prog (.build 26 #[(0,x),(1,y),(2,z)]) ty e bx F (.agg #[.int .i64 j,v,v2]):=by
 refine YO.byP (p:=(∃ a c,v=.slice a n c)∧∃ a c,v2=.slice a n2 c) (fun fr w ho=>by obtain⟨a,c,h1,_⟩:=(kd fr w ho).is;obtain⟨a2,c2,h2,_⟩:=(kd2 fr w ho).is;exact⟨⟨a,c,h1⟩,a2,c2,h2⟩) ?_
 rintro⟨⟨a,c,rfl⟩,a2,c2,rfl⟩
 exact YO.build (parts:=[(0,x),(1,y),(2,z)]) (.cons h1 (.cons h2 (.cons h3 .nil))) fun w=>run_build w 26 _ _ (by kernel_rfl)
end
end
section
variable {P:Program} {e:Env} {bx bx':List Ow} {F:List Fct} {el w:Nat} {c:Code} {Q:Post} {n':Nat} {rest Lo:List Oper} {Q2:Env→List Ow→List Fct→Prop}
theorem WC.freezeLn (v:Value) (M:Pm) (w:Nat) (L:List X.Ln) (hs:Sel bx (.slice v el 5 (lncells L.length M)) (.slice (.slice none 0 0) el 5 []) bx') (hm:Has F (lnQ M w L)) (h:WC P n' c e bx' (fLn (M.at v) w L::slC v L.length 5 (pcell M.av M.mb)::F) Q):WC P n' c e bx F Q:=fun fr w0 a w hk hr ho=>h fr w0 a w hk hr (okLn ho hs hm)
theorem WL.freezeLn (v:Value) (M:Pm) (w:Nat) (L:List X.Ln) (hs:Sel bx (.slice v el 5 (lncells L.length M)) (.slice (.slice none 0 0) el 5 []) bx') (hm:Has F (lnQ M w L)) (h:WL P n' Lo rest e bx' (fLn (M.at v) w L::slC v L.length 5 (pcell M.av M.mb)::F) Q2):WL P n' Lo rest e bx F Q2:=fun fr w0 a w Q' hQ hk hr ho=>h fr w0 a w Q' hQ hk hr (okLn ho hs hm)
end
end Go.Proofs.YtaongbhamadlkaaGreat
namespace Go.Proofs.YtaongbhamadlkaaGreat
open W Go.RowKit
def rightP (p:X.Lp) (kind:Int) (xn yn:Nat) (x y:Nat→Rat) (z:Rat):Bool:=
 if kind=0 then sumsOk p yn y p.g && holdP p xn x false && decide (sumsV p y=z) && decide ((X.sm p.v fun k=>p.g k*x k)=z)
 else if kind=1 then sumsOk p yn y (fun _=>0) && decide (xn=0) && decide (sumsV p y < 0) && decide (z=0)
 else if kind=2 then holdP p xn x false && holdP p yn y true && decide (0 < X.sm p.v fun k=>p.g k*y k) && decide (z=0)
 else false
section
variable {P:Program} {e:Env} {bx:List Ow} {F:List Fct} {ty:TypeId} {M:Am} {xn yn:Nat} {x y:Nat→Rat} {z:Rat}
theorem W.Has.ax (h:Has F (fA M xn yn x y z)):Has F (fF M.xv xn M.mx x):=fun p hp=>(h p hp).1
theorem W.Has.ay (h:Has F (fA M xn yn x y z)):Has F (fF M.yv yn M.my y):=fun p hp=>(h p hp).2.1
theorem W.Has.az (h:Has F (fA M xn yn x y z)):Has F (isQ (qv M.mz) z):=fun p hp=>(h p hp).2.2
end
theorem WD.freezeF {hs:List Nat} {b0:List Ow} {F0:List Fct} {r:Plan} {el n':Nat} {bx bx':List Ow} {L:List Oper} {Q2:Env→List Ow→List Fct→Prop} {F:List Fct} {P:Program} {e:Env} (v:Value) (n:Nat) (ms:Nat→QM) (q:Nat→Rat) (hs':Sel bx (.slice v el 4 (qcells n ms)) (.slice (.slice none 0 0) el 4 []) bx') (hm:Has F (mF n ms q)) (h:WD P n' L hs b0 F0 r e bx' (fF v n ms q::F) Q2):WD P n' L hs b0 F0 r e bx F Q2:=fun fr w0 listed a w fuel Q' h1 h2 h3 h4 h5 h6 hk hr ho hf=>h fr w0 listed a w fuel Q' h1 h2 h3 h4 h5 h6 hk hr (okF ho hs' hm) hf
theorem LO.freezeF {el:Nat} {bx bx':List Ow} {F:List Fct} {P:Program} {e:Env} {op:Op} {ty:TypeId} {K:Value→List Ow→List Fct→Prop} (v:Value) (n:Nat) (ms:Nat→QM) (q:Nat→Rat) (hs':Sel bx (.slice v el 4 (qcells n ms)) (.slice (.slice none 0 0) el 4 []) bx') (hm:Has F (mF n ms q)) (h:LO P op ty e bx' (fF v n ms q::F) K):LO P op ty e bx F K:=fun n' fr a w o next Q' h1 h2 h3 h4 h5=>h n' fr a w o next Q' h1 h2 h3 (okF h4 hs' hm) h5
theorem holdP_len {p:X.Lp} {xn:Nat} {x:Nat→Rat} {op:Bool} (h:holdP p xn x op=true):xn=p.v:=by
 unfold holdP at h
 simp only[Bool.and_eq_true,decide_eq_true_eq] at h
 exact h.1
namespace Z
attribute [local irreducible] WC WL WD YO LO LoopEnd W.Fin Scalar SliceT FieldAt Row ArrT AllocT KnS Has W.One SrcE IntT
theorem d63Cr {G G':Prop} (h:G') (s:Bx G'→G:=by
 intro h
 first|(apply WC.draw (id:=4) [0,1,2,3,4,6,7,8,9,10,12,13,14,15,16,17,19,20,22,23] (.held 0 (.held 1 (.held 2 (.held 3 (.held 4 (.loud 5 (.held 6 (.held 7 (.held 8 (.held 9 (.held 10 (.loud 11 (.held 12 (.held 13 (.held 14 (.held 15 (.held 16 (.held 17 (.held 19 (.held 20 (.loud 18 (.loud 21 (.held 22 (.held 23 (.done))))))))))))))))))))))))) mixed (by kernel_rfl))|(apply WC.draw (id:=6) [0,1,2,3,4,7,8,9,12] (.held 0 (.held 1 (.held 2 (.held 3 (.held 4 (.more 5 (.more 6 (.held 7 (.held 8 (.held 9 (.loud 10 (.loud 11 (.held 12 (.done))))))) (.loud 10 (.loud 6 (.held 7 (.held 8 (.held 9 (.loud 11 (.held 12 (.done))))))))) (.loud 10 (.loud 5 (.loud 6 (.held 7 (.held 8 (.held 9 (.loud 11 (.held 12 (.done))))))))))))))) mixed (by kernel_rfl))|fail
 exact Bx.h h):G:=s ⟨h⟩
section
variable (M:Pm) (p:X.Lp) (N:Am) (K xn yn:Nat) (x y:Nat→Rat) (z:Rat)
theorem sums_t {yv gw:Value} {my mg:Nat→QM} {gf:Nat→Rat} (h:FnB Tryz.prog 129 [pgv M p.v,yv,gw] [] [fP M p,fF yv yn my y,fF gw p.v mg gf] (IsSums p yn y gf)) (hs:sumsOk p yn y gf=true) :
  FnB Tryz.prog 129 [pgv M p.v,yv,gw] [] [fP M p,fF yv yn my y,fF gw p.v mg gf] (fun v B G=>∃ m,v=.tuple #[qv m,.bool true]∧B=[]∧G=[isQ (qv m) (sumsV p y)]):=by
 unfold IsSums at h
 rw[hs] at h
 simpa using h
theorem sums_f {yv gw:Value} {my mg:Nat→QM} {gf:Nat→Rat} (h:FnB Tryz.prog 129 [pgv M p.v,yv,gw] [] [fP M p,fF yv yn my y,fF gw p.v mg gf] (IsSums p yn y gf)) (hs:sumsOk p yn y gf=false) :
  FnB Tryz.prog 129 [pgv M p.v,yv,gw] [] [fP M p,fF yv yn my y,fF gw p.v mg gf] (fun v B G=>∃ m,v=.tuple #[qv m,.bool false]∧B=[]∧G=[isQ (qv m) 0]):=by
 unfold IsSums at h
 rw[hs] at h
 simpa using h
set_option maxRecDepth 60000 in
theorem right_c (kind:Int) (hdv:Dok p.v K) (hdm:Dok p.m K) (hv:p.v≤1000) (hm:p.m≤1000) (hK:0 < K) (ha:∀ r,r < p.m→∀ k,k < p.v→Sq K (p.a r k)) (hb:∀ r,r < p.m→Sq K (p.b r)) (hg:∀ k,k < p.v→Sq K (p.g k))
  (hx:∀ k,k < xn→Sq K (x k)) (hy:∀ k,k < yn→Sq K (y k)):FnB Tryz.prog 63 [pgv M p.v,agv N kind] [] [fP M p,fA N xn yn x y z] (IsV (.bool (rightP p kind xn yn x y z))):=by
 refine fn_of [(0,(pgv M p.v)),(1,(agv N kind))] 102 Tryz.func63 rfl Tryz.ntmps63 (by kernel_rfl) rfl suA fun h0=>?_
 refine WC.fact (fF N.xv xn N.mx x) (W.Has.ax (M:=N) (xn:=xn) (yn:=yn) (x:=x) (y:=y) (z:=z) hmA) ?_
 refine WC.fact (fF N.yv yn N.my y) (W.Has.ay (M:=N) (xn:=xn) (yn:=yn) (x:=x) (y:=y) (z:=z) hmA) ?_
 refine WC.fact (isQ (qv N.mz) z) (W.Has.az (M:=N) (xn:=xn) (yn:=yn) (x:=x) (y:=y) (z:=z) hmA) ?_
 refine WC.fact (fF M.gv p.v M.mg p.g) (W.Has.pg (M:=M) (m:=p.m) (gn:=p.v) (ln:=fun _=>p.v) (a:=p.a) (b:=p.b) (g:=p.g) hmA) ?_
 by_cases k0:kind=0
 ·subst k0
  have e:rightP p 0 xn yn x y z=(sumsOk p yn y p.g && holdP p xn x false && decide (sumsV p y=z) && decide ((X.sm p.v fun k=>p.g k*x k)=z)):=rfl
  rw[e]
  have hS:=sums_c M p K yn N.yv M.gv N.my M.mg y p.g hdm hv hm ha hb hy
  cases hs:sumsOk p yn y p.g with
  |false=>
   repeat'(first|refine gM ?_|(refine gI ?_;intro g)|(refine gU ?_;intro v)|refine gN ?_ ?_|refine d63Cr ?_|fail)
   refine WL.callK (sums_f M p yn y hS hs) ?_
   rintro _ _ _ ⟨mb,rfl,rfl,rfl⟩
   simp only[List.nil_append,List.cons_append]
   repeat'(first|refine gM ?_|(refine gI ?_;intro g)|(refine gU ?_;intro v)|refine gN ?_ ?_|refine d63Cr ?_|fail)
   refine WC.ret ?_
   exact Fin.v (ResE.t1 rfl rfl) meA (by simp)
  |true=>
   repeat'(first|refine gM ?_|(refine gI ?_;intro g)|(refine gU ?_;intro v)|refine gN ?_ ?_|refine d63Cr ?_|fail)
   refine WL.callK (sums_t M p yn y hS hs) ?_
   rintro _ _ _ ⟨mb,rfl,rfl,rfl⟩
   simp only[List.nil_append,List.cons_append]
   repeat'(first|refine gM ?_|(refine gI ?_;intro g)|(refine gU ?_;intro v)|refine gN ?_ ?_|refine d63Cr ?_|fail)
   first|refine WL.callK (holds_c M p K xn false N.xv N.mx x hdv hv ha hb hx hK) ?_|refine WD.callK (holds_c M p K xn false N.xv N.mx x hdv hv ha hb hx hK) ?_|refine LO.callM (holds_c M p K xn false N.xv N.mx x hdv hv ha hb hx hK) ?_
   rintro _ _ _ ⟨rfl,rfl,rfl⟩
   simp only[List.nil_append,List.cons_append]
   cases hh:holdP p xn x false with
   |false=>
    repeat'(first|refine gM ?_|(refine gI ?_;intro g)|(refine gU ?_;intro v)|refine gN ?_ ?_|refine d63Cr ?_|fail)
    refine WC.ret ?_
    exact Fin.v (ResE.t1 rfl rfl) meA (by simp)
   |true=>
    obtain rfl:=holdP_len hh
    repeat'(first|refine gM ?_|(refine gI ?_;intro g)|(refine gU ?_;intro v)|refine gN ?_ ?_|refine d63Cr ?_|fail)
    first|refine WL.callK (Zn.same mb N.mz (sumsV p y) z) ?_|refine WD.callK (Zn.same mb N.mz (sumsV p y) z) ?_|refine LO.callM (Zn.same mb N.mz (sumsV p y) z) ?_
    rintro _ _ _ ⟨rfl,rfl,rfl⟩
    simp only[List.nil_append,List.cons_append]
    by_cases cz:sumsV p y=z
    ·rw[decide_eq_true cz]
     repeat'(first|refine gM ?_|(refine gI ?_;intro g)|(refine gU ?_;intro v)|refine gN ?_ ?_|refine d63Cr ?_|fail)
     first|refine WL.callK (dot_c M.gv N.xv p.v K M.mg N.mx p.g x (by omega) hdv hg hx) ?_|refine WD.callK (dot_c M.gv N.xv p.v K M.mg N.mx p.g x (by omega) hdv hg hx) ?_|refine LO.callM (dot_c M.gv N.xv p.v K M.mg N.mx p.g x (by omega) hdv hg hx) ?_
     rintro _ _ _ ⟨md,rfl,rfl,rfl⟩
     simp only[List.nil_append,List.cons_append]
     repeat'(first|refine gM ?_|(refine gI ?_;intro g)|(refine gU ?_;intro v)|refine gN ?_ ?_|refine d63Cr ?_|fail)
     first|refine WL.callK (Zn.same md N.mz (X.sm p.v fun k=>p.g k*x k) z) ?_|refine WD.callK (Zn.same md N.mz (X.sm p.v fun k=>p.g k*x k) z) ?_|refine LO.callM (Zn.same md N.mz (X.sm p.v fun k=>p.g k*x k) z) ?_
     rintro _ _ _ ⟨rfl,rfl,rfl⟩
     simp only[List.nil_append,List.cons_append]
     repeat'(first|refine gM ?_|(refine gI ?_;intro g)|(refine gU ?_;intro v)|refine gN ?_ ?_|refine d63Cr ?_|fail)
     refine WC.ret ?_
     exact Fin.v (ResE.t1 rfl rfl) meA (by simp)
    ·rw[decide_eq_false cz]
     repeat'(first|refine gM ?_|(refine gI ?_;intro g)|(refine gU ?_;intro v)|refine gN ?_ ?_|refine d63Cr ?_|fail)
     refine WC.ret ?_
     exact Fin.v (ResE.t1 rfl rfl) meA (by simp)
 ·by_cases k1:kind=1
  ·subst k1
   have e:rightP p 1 xn yn x y z=(sumsOk p yn y (fun _=>0) && decide (xn=0) && decide (sumsV p y < 0) && decide (z=0)):=rfl
   rw[e]
   have hs1:=@sgn_neg (sumsV p y)
   have hs2:=@sgn_zero z
   refine WC.fact (mF p.v (fun _=>m00) (fun _=>0)) (W.Has.mF0 _) ?_
   repeat'(first|refine gA ?_|(refine goG ?_;intro g)|(refine goV ?_;intro v))
   rename_i g2
   revert g;intro g3
   refine WC.cutP (σ:=Nat×QM) (fun st=>[(7,ptr st.1),(8,.bool (sumsOk p yn y fun _=>0)),(3,ptr g3),(2,ptr g2)]) (fun st=>[Ow.cells st.1 31 (qcs st.2),Ow.cells g3 33 (acs N 1),Ow.cells g2 26 (pcs M p.v)])
    (fun st=>[isQ (qv st.2) (if sumsOk p yn y (fun _=>0)=true then sumsV p y else 0),isQ (qv N.mz) z,fF N.xv xn N.mx x,ge h0]) (fun _=>True) ?_ ?_
   ·repeat'(first|refine gM ?_|(refine gI ?_;intro g)|(refine gU ?_;intro v)|refine gN ?_ ?_|refine d63Cr ?_|fail)
    all_goals(first|refine WD.freezeF v p.v (fun _=>m00) (fun _=>0) (by repeat(first|exact Sel.head|apply Sel.tail)) hmA ?_|refine LO.freezeF v p.v (fun _=>m00) (fun _=>0) (by repeat(first|exact Sel.head|apply Sel.tail)) hmA ?_)
    all_goals(first|refine WD.callK (sums_c M p K yn N.yv v N.my (fun _=>m00) y (fun _=>0) hdm hv hm ha hb hy) ?_|refine LO.callM (sums_c M p K yn N.yv v N.my (fun _=>m00) y (fun _=>0) hdm hv hm ha hb hy) ?_)
    all_goals rintro _ _ _ ⟨mb,rfl,rfl,rfl⟩
    all_goals simp only[List.nil_append,List.cons_append]
    all_goals repeat'(first|refine gM ?_|(refine gI ?_;intro g)|(refine gU ?_;intro v)|refine gN ?_ ?_|refine d63Cr ?_|fail)
    all_goals(apply Ex2;refine⟨trivial,?_,?_,?_⟩;(focus(repeat(first|exact Sub.nil _|refine Sub.cons rfl ?_)));(focus(repeat(first|exact SubP.nil _|(apply SubP.cons;(repeat(first|exact Rem.head|apply Rem.tail))))));(focus(repeat(first|exact HasAll.nil|(apply HasAll.cons;exact hsA)))))
   rintro⟨g7,mb⟩ _
   simp only
   cases hs:sumsOk p yn y (fun _=>0) with
   |false=>
    repeat'(first|refine gM ?_|(refine gI ?_;intro g)|(refine gU ?_;intro v)|refine gN ?_ ?_|refine d63Cr ?_|fail)
    refine WC.ret ?_
    exact Fin.v (ResE.t1 rfl rfl) meA (by simp)
   |true=>
    rw[if_pos rfl]
    by_cases cx:xn=0
    ·rw[decide_eq_true cx]
     repeat'(first|refine gM ?_|(refine gI ?_;intro g)|(refine gU ?_;intro v)|refine gN ?_ ?_|refine d63Cr ?_|fail)
     first|refine WL.callV (Zn.sign mb (sumsV p y)) ?_|refine WD.callV (Zn.sign mb (sumsV p y)) ?_
     by_cases cs:sumsV p y < 0
     ·rw[decide_eq_true cs]
      have c':=hs1.2 cs
      repeat'(first|refine gM ?_|(refine gI ?_;intro g)|(refine gU ?_;intro v)|refine gN ?_ ?_|refine d63Cr ?_|fail)
      first|refine WL.callV (Zn.sign N.mz z) ?_|refine WD.callV (Zn.sign N.mz z) ?_
      by_cases cz:z=0
      ·have c'':=hs2.2 cz
       rw[decide_eq_true cz]
       repeat'(first|refine gM ?_|(refine gI ?_;intro g)|(refine gU ?_;intro v)|refine gN ?_ ?_|refine d63Cr ?_|fail)
       refine WC.ret ?_
       exact Fin.v (ResE.t1 rfl rfl) meA (by simp)
      ·have c'':¬sgn z.num=0:=fun h=>cz (hs2.1 h)
       rw[decide_eq_false cz]
       repeat'(first|refine gM ?_|(refine gI ?_;intro g)|(refine gU ?_;intro v)|refine gN ?_ ?_|refine d63Cr ?_|fail)
       refine WC.ret ?_
       exact Fin.v (ResE.t1 rfl rfl) meA (by simp)
     ·have c':¬sgn (sumsV p y).num < 0:=fun h=>cs (hs1.1 h)
      rw[decide_eq_false cs]
      repeat'(first|refine gM ?_|(refine gI ?_;intro g)|(refine gU ?_;intro v)|refine gN ?_ ?_|refine d63Cr ?_|fail)
      refine WC.ret ?_
      exact Fin.v (ResE.t1 rfl rfl) meA (by simp)
    ·rw[decide_eq_false cx]
     repeat'(first|refine gM ?_|(refine gI ?_;intro g)|(refine gU ?_;intro v)|refine gN ?_ ?_|refine d63Cr ?_|fail)
     refine WC.ret ?_
     exact Fin.v (ResE.t1 rfl rfl) meA (by simp)
  ·by_cases k2:kind=2
   ·subst k2
    have e:rightP p 2 xn yn x y z=(holdP p xn x false && holdP p yn y true && decide (0 < X.sm p.v fun k=>p.g k*y k) && decide (z=0)):=rfl
    rw[e]
    have hs1:=@sgn_pos (X.sm p.v fun k=>p.g k*y k)
    have hs2:=@sgn_zero z
    repeat'(first|refine gM ?_|(refine gI ?_;intro g)|(refine gU ?_;intro v)|refine gN ?_ ?_|refine d63Cr ?_|fail)
    first|refine WL.callV (holds_c M p K xn false N.xv N.mx x hdv hv ha hb hx hK) ?_|refine WD.callV (holds_c M p K xn false N.xv N.mx x hdv hv ha hb hx hK) ?_
    cases hh:holdP p xn x false with
    |false=>
     repeat'(first|refine gM ?_|(refine gI ?_;intro g)|(refine gU ?_;intro v)|refine gN ?_ ?_|refine d63Cr ?_|fail)
     refine WC.ret ?_
     exact Fin.v (ResE.t1 rfl rfl) meA (by simp)
    |true=>
     repeat'(first|refine gM ?_|(refine gI ?_;intro g)|(refine gU ?_;intro v)|refine gN ?_ ?_|refine d63Cr ?_|fail)
     first|refine WL.callV (holds_c M p K yn true N.yv N.my y hdv hv ha hb hy hK) ?_|refine WD.callV (holds_c M p K yn true N.yv N.my y hdv hv ha hb hy hK) ?_
     cases hh2:holdP p yn y true with
     |false=>
      repeat'(first|refine gM ?_|(refine gI ?_;intro g)|(refine gU ?_;intro v)|refine gN ?_ ?_|refine d63Cr ?_|fail)
      refine WC.ret ?_
      exact Fin.v (ResE.t1 rfl rfl) meA (by simp)
     |true=>
      obtain rfl:=holdP_len hh2
      repeat'(first|refine gM ?_|(refine gI ?_;intro g)|(refine gU ?_;intro v)|refine gN ?_ ?_|refine d63Cr ?_|fail)
      refine WL.callK (dot_c M.gv N.yv p.v K M.mg N.my p.g y (by omega) hdv hg hy) ?_
      rintro _ _ _ ⟨md,rfl,rfl,rfl⟩
      simp only[List.nil_append,List.cons_append]
      repeat'(first|refine gM ?_|(refine gI ?_;intro g)|(refine gU ?_;intro v)|refine gN ?_ ?_|refine d63Cr ?_|fail)
      first|refine WL.callV (Zn.sign md (X.sm p.v fun k=>p.g k*y k)) ?_|refine WD.callV (Zn.sign md (X.sm p.v fun k=>p.g k*y k)) ?_
      by_cases cs:0 < X.sm p.v fun k=>p.g k*y k
      ·rw[decide_eq_true cs]
       have c':=hs1.2 cs
       repeat'(first|refine gM ?_|(refine gI ?_;intro g)|(refine gU ?_;intro v)|refine gN ?_ ?_|refine d63Cr ?_|fail)
       first|refine WL.callV (Zn.sign N.mz z) ?_|refine WD.callV (Zn.sign N.mz z) ?_
       by_cases cz:z=0
       ·have c'':=hs2.2 cz
        rw[decide_eq_true cz]
        repeat'(first|refine gM ?_|(refine gI ?_;intro g)|(refine gU ?_;intro v)|refine gN ?_ ?_|refine d63Cr ?_|fail)
        refine WC.ret ?_
        exact Fin.v (ResE.t1 rfl rfl) meA (by simp)
       ·have c'':¬sgn z.num=0:=fun h=>cz (hs2.1 h)
        rw[decide_eq_false cz]
        repeat'(first|refine gM ?_|(refine gI ?_;intro g)|(refine gU ?_;intro v)|refine gN ?_ ?_|refine d63Cr ?_|fail)
        refine WC.ret ?_
        exact Fin.v (ResE.t1 rfl rfl) meA (by simp)
      ·have c':¬0 < sgn (X.sm p.v fun k=>p.g k*y k).num:=fun h=>cs (hs1.1 h)
       rw[decide_eq_false cs]
       repeat'(first|refine gM ?_|(refine gI ?_;intro g)|(refine gU ?_;intro v)|refine gN ?_ ?_|refine d63Cr ?_|fail)
       refine WC.ret ?_
       exact Fin.v (ResE.t1 rfl rfl) meA (by simp)
   ·have e:rightP p kind xn yn x y z=false:=by unfold rightP;rw[if_neg k0,if_neg k1,if_neg k2]
    rw[e]
    repeat'(first|refine gM ?_|(refine gI ?_;intro g)|(refine gU ?_;intro v)|refine gN ?_ ?_|refine d63Cr ?_|fail)
    refine WC.ret ?_
    exact Fin.v (ResE.t1 rfl rfl) meA rfl
set_option maxRecDepth 60000 in
theorem check_c (kind:Int) (hdv:Dok p.v K) (hdm:Dok p.m K) (hv:p.v≤48) (hm:p.m≤128) (hK:0 < K) (ha:∀ r,r < p.m→∀ k,k < p.v→Sq K (p.a r k)) (hb:∀ r,r < p.m→Sq K (p.b r)) (hg:∀ k,k < p.v→Sq K (p.g k))
  (hx:∀ k,k < xn→Sq K (x k)) (hy:∀ k,k < yn→Sq K (y k)):FnB Tryz.prog 15 [pgv M p.v,agv N kind] [] [fP M p,fA N xn yn x y z] (IsV (.int .i64 (if rightP p kind xn yn x y z=true then 0 else 22))):=by
 refine fn_of [(0,(pgv M p.v)),(1,(agv N kind))] 15 Tryz.func15 rfl Tryz.ntmps15 (by kernel_rfl) rfl suA fun h0=>?_
 refine WC.fact (fF N.xv xn N.mx x) (W.Has.ax (M:=N) (xn:=xn) (yn:=yn) (x:=x) (y:=y) (z:=z) hmA) ?_
 refine WC.fact (fF N.yv yn N.my y) (W.Has.ay (M:=N) (xn:=xn) (yn:=yn) (x:=x) (y:=y) (z:=z) hmA) ?_
 refine WC.fact (isQ (qv N.mz) z) (W.Has.az (M:=N) (xn:=xn) (yn:=yn) (x:=x) (y:=y) (z:=z) hmA) ?_
 repeat'(first|refine gA ?_|(refine goG ?_;intro g)|(refine goV ?_;intro v))
 refine WL.callV (valid_c M p.m p.v (fun _=>p.v) p.a p.b p.g p.v) ?_ (hF:=.cons (.f hmA) .nil)
 rw[vldP_ok hv hm]
 repeat'(first|refine gA ?_|(refine goG ?_;intro g)|(refine goV ?_;intro v))
 first|refine WL.callV (right_c M p N K xn yn x y z kind hdv hdm (by omega) (by omega) hK ha hb hg hx hy) ?_|refine WD.callV (right_c M p N K xn yn x y z kind hdv hdm (by omega) (by omega) hK ha hb hg hx hy) ?_
 cases hr:rightP p kind xn yn x y z with
 |false=>
  repeat'(first|refine gA ?_|(refine goG ?_;intro g)|(refine goV ?_;intro v))
  refine WC.ret ?_
  exact Fin.v (ResE.t1 rfl rfl) meA rfl
 |true=>
  repeat'(first|refine gA ?_|(refine goG ?_;intro g)|(refine goV ?_;intro v))
  refine WC.ret ?_
  exact Fin.v (ResE.t1 rfl rfl) meA rfl
end
end Z
end Go.Proofs.YtaongbhamadlkaaGreat
namespace Go.Proofs.YtaongbhamadlkaaGreat
open W Go.RowKit
attribute [local irreducible] WC WL WD YO LO LoopEnd W.Fin Scalar SliceT FieldAt Row ArrT AllocT KnS Has W.One SrcE IntT
namespace U
set_option maxRecDepth 60000
theorem knA {G:Prop} (h:G:=by first|((first|(focus(apply KnS.ln;exact hmA;done))|exact Z.knA|(focus(apply KnS.oLn;exact meA;done))|(focus(apply KnS.oL1;exact meA;done)));done)|fail):G:=h
theorem hsA {G:Prop} (h:G:=by first|((first|exact Z.hsA|(focus(apply W.Has.lnb;exact hmA;omega;done))|(focus(apply W.Has.lna;exact hmA;omega;done)));done)|fail):G:=h
theorem y_build {G:Prop} (h:G:=by first|((first|exact Z.y_build|exact YO.buildLn0|(apply YO.buildLn1;exact rfl;exact knA)|(apply YO.buildLn2;exact rfl;exact rfl;exact knA)|(apply YO.buildPg0;exact rfl)|(apply YO.buildPg01;exact rfl;exact rfl;exact knA)|(apply YO.buildPg02;exact rfl;exact rfl;exact knA)|(apply YO.buildPg3;exact rfl;exact rfl;exact rfl;exact knA;exact knA)|(apply YO.buildLnB;exact rfl));done)|fail):G:=h
theorem y_indexAddr {G:Prop} (h:G:=by first|((exact Z.y_indexAddr);done)|fail):G:=h
theorem y_load {G:Prop} (h:G:=by first|((first|(apply YO.ldLns;exact t4A;exact rfl;exact hmA;omega)|(apply YO.ldLnA;exact t2A;exact rfl;exact hmA;omega)|(apply YO.ldLnB;exact t4A;exact rfl;exact hmA;omega)|exact Z.y_load);done)|fail):G:=h
theorem y_eql {G:Prop} (h:G:=by first|((exact Z.y_eql);done)|fail):G:=h
theorem y_slice {G:Prop} (h:G:=by first|((exact Z.y_slice);done)|fail):G:=h
theorem go {G G':Prop} (h:G') (s:Bx G'→G:=by
 intro h
 (first
  |refine Z.go ?_
  |fail)
 exact Bx.h h):G:=s ⟨h⟩
theorem goD {G G':Prop} (h:G') (s:Bx G'→G:=by
 intro h
 (first
  |refine Z.goD ?_
  |fail)
 exact Bx.h h):G:=s ⟨h⟩
theorem goV {G G':Prop} (h:G') (s:Bx G'→G:=by
 intro h
 (first
  |(apply WL.kl_ms;rotate_left;exact rfl;exact rfl;(apply LO.makeI;exact rfl;exact rfl;(repeat(first|(with_reducible apply NatI.add)|(with_reducible exact NatI.one)|exact NatI.cast _));omega))
  |(apply WL.kl_ms;rotate_left;exact rfl;exact rfl;(apply LO.makeR;exact rfl;exact rfl;(repeat(first|(with_reducible apply NatI.add)|(with_reducible exact NatI.one)|exact NatI.cast _));omega))
  |(apply WL.kl_ms;rotate_left;exact rfl;exact rfl;(apply LO.makeLn;exact rfl;exact rfl;(repeat(first|(with_reducible apply NatI.add)|(with_reducible exact NatI.one)|exact NatI.cast _));omega))
  |(apply WL.kl_bs;rotate_left;exact rfl;exact rfl;(apply LO.bsR10;exact rfl))
  |(apply WL.kl_bs;rotate_left;exact rfl;exact rfl;(apply LO.bsR0))
  |(apply WL.kl_bs;rotate_left;exact rfl;exact rfl;(apply LO.bsR1;exact rfl))
  |(apply WL.kl_bs;rotate_left;exact rfl;exact rfl;(apply LO.bsV1;exact rfl;exact knA))
  |(apply WL.kl_bs;rotate_left;exact rfl;exact rfl;(apply LO.bsLn0))
  |(apply WL.kl_bs;rotate_left;exact rfl;exact rfl;(apply LO.bsLn1;exact rfl;exact hmA))
  |(apply WL.kl_bs;rotate_left;exact rfl;exact rfl;(apply LO.bsR2;exact rfl;exact rfl))
  |(apply WL.kl_bs;rotate_left;exact rfl;exact rfl;(apply LO.bsLn3;exact rfl;exact rfl;exact rfl;exact hmA;exact hmA;exact hmA))
  |(apply WL.kl_app;rotate_left;exact rfl;exact rfl;(apply LO.appR1;exact rfl;exact rfl;exact meA;exact hmA;(intro _;exact seA);omega))
  |(apply WL.kl_app;rotate_left;exact rfl;exact rfl;(apply LO.appFf;exact rfl;exact rfl;exact hmA;(intro _;exact seA);omega))
  |(apply WL.kl_app;rotate_left;exact rfl;exact rfl;(apply LO.appVV;exact rfl;exact rfl;exact meA;(apply One.sl;exact knA);(intro _;exact seA);omega))
  |(apply WL.kl_app;rotate_left;exact rfl;exact rfl;(apply LO.appNN;exact rfl;exact rfl;exact meA;(intro _;exact seA);omega))
  |(apply WL.kl_app;rotate_left;exact rfl;exact rfl;(apply LO.appLn1;exact rfl;exact rfl;exact meA;exact hmA;exact hmA;(intro _;exact seA);omega))
  |(apply WL.kl_app;rotate_left;exact rfl;exact rfl;(apply LO.appLnf;exact rfl;exact rfl;exact hmA;(intro _;exact seA);omega;omega))
  |(apply WL.kl_app;rotate_left;exact rfl;exact rfl;(apply LO.appFg;exact rfl;exact rfl;exact hmA;(intro _;exact seA);omega;omega))
  |(apply WL.kl_app;rotate_left;exact rfl;exact rfl;(apply LO.appLnf0;exact rfl;exact rfl;exact hmA;(intro _;exact seA);omega))
  |(apply WL.kl_bs;rotate_left;exact rfl;exact rfl;apply LO.bs1;exact t6A;(repeat(first|exact EvP.nil|(apply EvP.cons;exact rfl)));(intro _;kernel_rfl);exact rfl;omega)
  |(apply WL.kl_app;rotate_left;exact rfl;exact rfl;apply LO.app;exact t5A;exact rfl;exact rfl;(first|(focus(apply SrcE.ints;exact hmA;done))|(focus(apply SrcE.own1;exact meA;done))|(focus(apply SrcE.one;exact meA;exact rfl;decide;done)));(intro v;exact seA);exact onA;exact leA;exact leA))
 exact Bx.h h):G:=s ⟨h⟩
theorem goDV {G G':Prop} (h:G') (s:Bx G'→G:=by
 intro h
 (first
  |(apply WD.kl_ms;exact rfl;rotate_left;exact rfl;exact rfl;(apply LO.makeI;exact rfl;exact rfl;(repeat(first|(with_reducible apply NatI.add)|(with_reducible exact NatI.one)|exact NatI.cast _));omega);apply allAnd;(intro _;exact ltA))
  |(apply WD.kl_ms;exact rfl;rotate_left;exact rfl;exact rfl;(apply LO.makeR;exact rfl;exact rfl;(repeat(first|(with_reducible apply NatI.add)|(with_reducible exact NatI.one)|exact NatI.cast _));omega);apply allAnd;(intro _;exact ltA))
  |(apply WD.kl_ms;exact rfl;rotate_left;exact rfl;exact rfl;(apply LO.makeLn;exact rfl;exact rfl;(repeat(first|(with_reducible apply NatI.add)|(with_reducible exact NatI.one)|exact NatI.cast _));omega);apply allAnd;(intro _;exact ltA))
  |(apply WD.kl_bs;exact rfl;rotate_left;exact rfl;exact rfl;(apply LO.bsR10;exact rfl);apply allAnd;(intro _;exact ltA))
  |(apply WD.kl_bs;exact rfl;rotate_left;exact rfl;exact rfl;(apply LO.bsR0);apply allAnd;(intro _;exact ltA))
  |(apply WD.kl_bs;exact rfl;rotate_left;exact rfl;exact rfl;(apply LO.bsR1;exact rfl);apply allAnd;(intro _;exact ltA))
  |(apply WD.kl_bs;exact rfl;rotate_left;exact rfl;exact rfl;(apply LO.bsV1;exact rfl;exact knA);apply allAnd;(intro _;exact ltA))
  |(apply WD.kl_bs;exact rfl;rotate_left;exact rfl;exact rfl;(apply LO.bsLn0);apply allAnd;(intro _;exact ltA))
  |(apply WD.kl_bs;exact rfl;rotate_left;exact rfl;exact rfl;(apply LO.bsLn1;exact rfl;exact hmA);apply allAnd;(intro _;exact ltA))
  |(apply WD.kl_bs;exact rfl;rotate_left;exact rfl;exact rfl;(apply LO.bsR2;exact rfl;exact rfl);apply allAnd;(intro _;exact ltA))
  |(apply WD.kl_bs;exact rfl;rotate_left;exact rfl;exact rfl;(apply LO.bsLn3;exact rfl;exact rfl;exact rfl;exact hmA;exact hmA;exact hmA);apply allAnd;(intro _;exact ltA))
  |(apply WD.kl_app;exact rfl;rotate_left;exact rfl;exact rfl;(apply LO.appR1;exact rfl;exact rfl;exact meA;exact hmA;(intro _;exact seA);omega);apply allAnd;(intro _;exact ltA))
  |(apply WD.kl_app;exact rfl;rotate_left;exact rfl;exact rfl;(apply LO.appFf;exact rfl;exact rfl;exact hmA;(intro _;exact seA);omega);apply allAnd;(intro _;exact ltA))
  |(apply WD.kl_app;exact rfl;rotate_left;exact rfl;exact rfl;(apply LO.appVV;exact rfl;exact rfl;exact meA;(apply One.sl;exact knA);(intro _;exact seA);omega);apply allAnd;(intro _;exact ltA))
  |(apply WD.kl_app;exact rfl;rotate_left;exact rfl;exact rfl;(apply LO.appNN;exact rfl;exact rfl;exact meA;(intro _;exact seA);omega);apply allAnd;(intro _;exact ltA))
  |(apply WD.kl_app;exact rfl;rotate_left;exact rfl;exact rfl;(apply LO.appLn1;exact rfl;exact rfl;exact meA;exact hmA;exact hmA;(intro _;exact seA);omega);apply allAnd;(intro _;exact ltA))
  |(apply WD.kl_app;exact rfl;rotate_left;exact rfl;exact rfl;(apply LO.appLnf;exact rfl;exact rfl;exact hmA;(intro _;exact seA);omega;omega);apply allAnd;(intro _;exact ltA))
  |(apply WD.kl_app;exact rfl;rotate_left;exact rfl;exact rfl;(apply LO.appFg;exact rfl;exact rfl;exact hmA;(intro _;exact seA);omega;omega);apply allAnd;(intro _;exact ltA))
  |(apply WD.kl_app;exact rfl;rotate_left;exact rfl;exact rfl;(apply LO.appLnf0;exact rfl;exact rfl;exact hmA;(intro _;exact seA);omega);apply allAnd;(intro _;exact ltA))
  |(apply WD.kl_bs;exact rfl;rotate_left;exact rfl;exact rfl;apply LO.bs1;exact t6A;(repeat(first|exact EvP.nil|(apply EvP.cons;exact rfl)));(intro _;kernel_rfl);exact rfl;omega;apply allAnd;(intro _;exact ltA))
  |(apply WD.kl_app;exact rfl;rotate_left;exact rfl;exact rfl;apply LO.app;exact t5A;exact rfl;exact rfl;(first|(focus(apply SrcE.ints;exact hmA;done))|(focus(apply SrcE.own1;exact meA;done))|(focus(apply SrcE.one;exact meA;exact rfl;decide;done)));(intro v;exact seA);exact onA;exact leA;exact leA;apply allAnd;(intro _;exact ltA)))
 exact Bx.h h):G:=s ⟨h⟩
theorem goLV {G G':Prop} (h:G') (s:Bx G'→G:=by
 intro h
 (first
  |(apply LO.bs1;exact t6A;(repeat(first|exact EvP.nil|(apply EvP.cons;exact rfl)));(intro _;kernel_rfl);exact rfl;omega;apply allAnd;(intro _;exact ltA))
  |(apply LO.app;exact t5A;exact rfl;exact rfl;(first|(focus(apply SrcE.ints;exact hmA;done))|(focus(apply SrcE.own1;exact meA;done))|(focus(apply SrcE.one;exact meA;exact rfl;decide;done)));(intro v;exact seA);exact onA;exact leA;exact leA;apply allAnd;(intro _;exact ltA))
  |((apply LO.makeI;exact rfl;exact rfl;(repeat(first|(with_reducible apply NatI.add)|(with_reducible exact NatI.one)|exact NatI.cast _));omega);apply allAnd;(intro _;exact ltA))
  |((apply LO.makeR;exact rfl;exact rfl;(repeat(first|(with_reducible apply NatI.add)|(with_reducible exact NatI.one)|exact NatI.cast _));omega);apply allAnd;(intro _;exact ltA))
  |((apply LO.makeLn;exact rfl;exact rfl;(repeat(first|(with_reducible apply NatI.add)|(with_reducible exact NatI.one)|exact NatI.cast _));omega);apply allAnd;(intro _;exact ltA))
  |((apply LO.bsR10;exact rfl);apply allAnd;(intro _;exact ltA))
  |((apply LO.bsR0);apply allAnd;(intro _;exact ltA))
  |((apply LO.bsR1;exact rfl);apply allAnd;(intro _;exact ltA))
  |((apply LO.bsV1;exact rfl;exact knA);apply allAnd;(intro _;exact ltA))
  |((apply LO.bsLn0);apply allAnd;(intro _;exact ltA))
  |((apply LO.bsLn1;exact rfl;exact hmA);apply allAnd;(intro _;exact ltA))
  |((apply LO.bsR2;exact rfl;exact rfl);apply allAnd;(intro _;exact ltA))
  |((apply LO.bsLn3;exact rfl;exact rfl;exact rfl;exact hmA;exact hmA;exact hmA);apply allAnd;(intro _;exact ltA))
  |((apply LO.appR1;exact rfl;exact rfl;exact meA;exact hmA;(intro _;exact seA);omega);apply allAnd;(intro _;exact ltA))
  |((apply LO.appFf;exact rfl;exact rfl;exact hmA;(intro _;exact seA);omega);apply allAnd;(intro _;exact ltA))
  |((apply LO.appVV;exact rfl;exact rfl;exact meA;(apply One.sl;exact knA);(intro _;exact seA);omega);apply allAnd;(intro _;exact ltA))
  |((apply LO.appNN;exact rfl;exact rfl;exact meA;(intro _;exact seA);omega);apply allAnd;(intro _;exact ltA))
  |((apply LO.appLn1;exact rfl;exact rfl;exact meA;exact hmA;exact hmA;(intro _;exact seA);omega);apply allAnd;(intro _;exact ltA))
  |((apply LO.appLnf;exact rfl;exact rfl;exact hmA;(intro _;exact seA);omega;omega);apply allAnd;(intro _;exact ltA))
  |((apply LO.appFg;exact rfl;exact rfl;exact hmA;(intro _;exact seA);omega;omega);apply allAnd;(intro _;exact ltA))
  |((apply LO.appLnf0;exact rfl;exact rfl;exact hmA;(intro _;exact seA);omega);apply allAnd;(intro _;exact ltA)))
 exact Bx.h h):G:=s ⟨h⟩
theorem goLS {G G':Prop} (h:G') (s:Bx G'→G:=by
 intro h
 (first
  |refine Z.goLS ?_
  |fail)
 exact Bx.h h):G:=s ⟨h⟩
theorem goYT {G G':Prop} (h:G') (s:Bx G'→G:=by
 intro h
 refine Z.goYT ?_
 exact Bx.h h):G:=s ⟨h⟩
theorem goYB {G G':Prop} (h:G') (s:Bx G'→G:=by
 intro h
 (apply WD.yl;exact rfl;(first|exact y_build|exact y_slice|(apply YO.extract;exact rfl;exact rfl)|exact y_fieldAddr|exact y_indexAddr|exact y_load|fail);exact rfl;exact rfl)
 exact Bx.h h):G:=s ⟨h⟩
theorem goLY {G G':Prop} (h:G') (s:Bx G'→G:=by
 intro h
 (apply LO.ofY;(first|exact y_build|exact y_slice|(apply YO.extract;exact rfl;exact rfl)|exact y_fieldAddr|exact y_indexAddr|exact y_load|fail);constructor;exact ltA)
 exact Bx.h h):G:=s ⟨h⟩
section
variable {P:Program} {n:Nat} {L rest:List Oper} {e:Env} {bx b0:List Ow} {F F0:List Fct} {Q:Env→List Ow→List Fct→Prop} {d i:Nat} {ty:TypeId} {pos:String} {af:Array Edge} {g:Option (Nat×Bool)} {hs:List Nat} {r:Plan}
 {f:FuncId} {x:Operand} {args:List Operand} {ats:Array TypeId} {vs cs:List Value} {F':List Fct} {u:Value} {el sz:Nat}
theorem WL.callV (hf:FnB P f vs [] F' (IsV u)) (hK:WL P n L rest ((d,u)::e) bx F Q) (hx:ev e x=some (.func (.func f) #[] #[]):=by exact rfl) (hv:Evs e args vs:=by repeat(first|exact Evs.nil|(apply Evs.cons;exact rfl))) (hF:HasAllB bx F F':=by repeat(first|exact HasAllB.nil|(apply HasAllB.cons;(first|(focus(apply HasB.oI;exact meA;done))|(focus(apply HasB.c;exact meA;done))|(focus(apply HasB.f;exact hsA;done))|(focus(apply HasB.fF;exact meA;exact hmA;done))|(focus(apply HasB.rows;(repeat(first|exact List.Sublist.refl _|apply List.Sublist.cons));exact hmA;done))|(focus(apply HasB.sV;exact meA;done))|(focus(apply HasB.sN;exact meA;done))|(focus(apply HasB.fLn;exact meA;exact hmA;done))))))
  (hd:Nat.blt d n=true:=by exact rfl) (hg:gok L e g=some true:=by exact rfl):WL P n L (⟨some d,.call {callee:=.value x,args:=args.toArray,argTypes:=ats},ty,pos,af,g⟩::rest) e bx F Q:=
 WL.l hd hg (LO.callRV hx hv hf hF hK)
theorem WL.callO (hf:FnB P f vs [] F' (IsO el sz cs)) (hK:∀ v,WL P n L rest ((d,v)::e) (Ow.slice v el sz cs::bx) F Q) (hx:ev e x=some (.func (.func f) #[] #[]):=by exact rfl) (hv:Evs e args vs:=by repeat(first|exact Evs.nil|(apply Evs.cons;exact rfl))) (hF:HasAllB bx F F':=by repeat(first|exact HasAllB.nil|(apply HasAllB.cons;(first|(focus(apply HasB.oI;exact meA;done))|(focus(apply HasB.c;exact meA;done))|(focus(apply HasB.f;exact hsA;done))|(focus(apply HasB.fF;exact meA;exact hmA;done))|(focus(apply HasB.rows;(repeat(first|exact List.Sublist.refl _|apply List.Sublist.cons));exact hmA;done))|(focus(apply HasB.sV;exact meA;done))|(focus(apply HasB.sN;exact meA;done))|(focus(apply HasB.fLn;exact meA;exact hmA;done))))))
  (hd:Nat.blt d n=true:=by exact rfl) (hg:gok L e g=some true:=by exact rfl):WL P n L (⟨some d,.call {callee:=.value x,args:=args.toArray,argTypes:=ats},ty,pos,af,g⟩::rest) e bx F Q:=
 WL.l hd hg (LO.callRO hx hv hf hF hK)
theorem WL.callF {R:RPost} (first cap:List Value) (hf:FnB P f (first++vs++cap) [] F' R) (hK:∀ v b G,R v b G→WL P n L rest ((d,v)::e) (b++bx) F Q) (hx:ev e x=some (.func (.func f) first.toArray cap.toArray):=by exact rfl) (hv:Evs e args vs:=by repeat(first|exact Evs.nil|(apply Evs.cons;exact rfl))) (hF:HasAllB bx F F':=by repeat(first|exact HasAllB.nil|(apply HasAllB.cons;(first|(focus(apply HasB.oI;exact meA;done))|(focus(apply HasB.c;exact meA;done))|(focus(apply HasB.f;exact hsA;done))|(focus(apply HasB.fF;exact meA;exact hmA;done))|(focus(apply HasB.rows;(repeat(first|exact List.Sublist.refl _|apply List.Sublist.cons));exact hmA;done))|(focus(apply HasB.sV;exact meA;done))|(focus(apply HasB.sN;exact meA;done))|(focus(apply HasB.fLn;exact meA;exact hmA;done))))))
  (hd:Nat.blt d n=true:=by exact rfl) (hg:gok L e g=some true:=by exact rfl):WL P n L (⟨some d,.call {callee:=.value x,args:=args.toArray,argTypes:=ats},ty,pos,af,g⟩::rest) e bx F Q:=
 WL.l hd hg (LO.callR hx hv hf hF hK)
theorem WD.callV (hf:FnB P f vs [] F' (IsV u)) (hK:WD P n L hs b0 F0 r ((d,u)::e) bx F Q) (hL:L[i]?=some ⟨some d,.call {callee:=.value x,args:=args.toArray,argTypes:=ats},ty,pos,af,g⟩:=by exact rfl) (hx:ev e x=some (.func (.func f) #[] #[]):=by exact rfl) (hv:Evs e args vs:=by repeat(first|exact Evs.nil|(apply Evs.cons;exact rfl))) (hF:HasAllB bx F F':=by repeat(first|exact HasAllB.nil|(apply HasAllB.cons;(first|(focus(apply HasB.oI;exact meA;done))|(focus(apply HasB.c;exact meA;done))|(focus(apply HasB.f;exact hsA;done))|(focus(apply HasB.fF;exact meA;exact hmA;done))|(focus(apply HasB.rows;(repeat(first|exact List.Sublist.refl _|apply List.Sublist.cons));exact hmA;done))|(focus(apply HasB.sV;exact meA;done))|(focus(apply HasB.sN;exact meA;done))|(focus(apply HasB.fLn;exact meA;exact hmA;done))))))
  (hd:Nat.blt d n=true:=by exact rfl) (hg:gok L e g=some true:=by exact rfl) (lt:lateB L hs i=true∨(b0.Sublist bx∧∀ f∈F0,f∈F):=by exact ltA):WD P n L hs b0 F0 (.loud i r) e bx F Q:=
 WD.l hL hd hg (LO.callRV hx hv hf hF ⟨lt,hK⟩)
theorem WD.callO (hf:FnB P f vs [] F' (IsO el sz cs)) (hK:∀ v,WD P n L hs b0 F0 r ((d,v)::e) (Ow.slice v el sz cs::bx) F Q) (hL:L[i]?=some ⟨some d,.call {callee:=.value x,args:=args.toArray,argTypes:=ats},ty,pos,af,g⟩:=by exact rfl) (hx:ev e x=some (.func (.func f) #[] #[]):=by exact rfl) (hv:Evs e args vs:=by repeat(first|exact Evs.nil|(apply Evs.cons;exact rfl))) (hF:HasAllB bx F F':=by repeat(first|exact HasAllB.nil|(apply HasAllB.cons;(first|(focus(apply HasB.oI;exact meA;done))|(focus(apply HasB.c;exact meA;done))|(focus(apply HasB.f;exact hsA;done))|(focus(apply HasB.fF;exact meA;exact hmA;done))|(focus(apply HasB.rows;(repeat(first|exact List.Sublist.refl _|apply List.Sublist.cons));exact hmA;done))|(focus(apply HasB.sV;exact meA;done))|(focus(apply HasB.sN;exact meA;done))|(focus(apply HasB.fLn;exact meA;exact hmA;done))))))
  (hd:Nat.blt d n=true:=by exact rfl) (hg:gok L e g=some true:=by exact rfl) (lt:lateB L hs i=true∨(b0.Sublist bx∧∀ f∈F0,f∈F):=by exact ltA):WD P n L hs b0 F0 (.loud i r) e bx F Q:=
 WD.l hL hd hg (LO.callRO hx hv hf hF fun v=>⟨lt.imp id fun h=>⟨h.1.trans (List.sublist_cons_self _ _),h.2⟩,hK v⟩)
end
end U
end Go.Proofs.YtaongbhamadlkaaGreat
namespace Go.Proofs.YtaongbhamadlkaaGreat
open W Go.RowKit
namespace U
attribute [local irreducible] WC WL WD YO LO LoopEnd W.Fin Scalar SliceT FieldAt Row ArrT AllocT KnS Has W.One SrcE IntT
theorem d84 {G G':Prop} (h:G') (s:Bx G'→G:=by
 intro h
 first|(apply WC.draw (id:=6) [0,1,2,3,4,5,6,7,8,9] (.held 0 (.held 1 (.held 2 (.held 3 (.held 4 (.held 5 (.held 6 (.held 7 (.held 8 (.held 9 (.done))))))))))) mixed (by kernel_rfl))|(apply WC.draw (id:=11) [0,1,2,3,4,5,6,7,8,9] (.held 0 (.held 1 (.held 2 (.held 3 (.held 4 (.held 5 (.held 6 (.held 7 (.held 8 (.held 9 (.done))))))))))) mixed (by kernel_rfl))|fail
 exact Bx.h h):G:=s ⟨h⟩
set_option maxRecDepth 60000 in
theorem indexFI_c (u:Value) (l:List Int) (f:FuncId) (cap:List Value) (Fc:List Fct) (p:Int→Bool) (hp:∀ x,FnB Tryz.prog f ([.int .i64 x]++cap) [] Fc (IsV (.bool (p x)))) :
  FnB Tryz.prog 138 [u,.func (.func f) #[] cap.toArray] [] (sI u l::Fc) (IsV (.int .i64 (optI (X.fstT (fun i=>p (l.getD i 0)) l.length 0)))):=by
 refine fn_of [(0,u),(1,(.func (.func f) #[] cap.toArray))] 19 Tryz.func138 rfl Tryz.ntmps138 (by kernel_rfl) rfl suA fun h0=>?_
 refine WC.lenI u l hmA fun hlen=>?_
 repeat'(first|refine gA ?_|(refine goG ?_;intro g)|(refine goV ?_;intro v))
 refine WC.lp (σ:=Nat) (fun i=>[(8,.int .i64 (i:Int)),(7,.int .i64 (l.length:Int)),(0,u),(1,.func (.func f) #[] cap.toArray)]) (fun _=>[]) (fun _=>ge h0::sI u l::Fc) (fun i=>i≤l.length∧X.fstT (fun i=>p (l.getD i 0)) l.length 0=X.fstT (fun i=>p (l.getD i 0)) (l.length - i) i) (fun i=>l.length - i) 0 ⟨Nat.zero_le _,rfl⟩ ?_ (hG:=.cons hmA (.cons hmA (HasAll.tail fun _ h=>by(repeat(first|exact h|apply List.mem_cons_of_mem)))))
 rintro i ⟨hi,he⟩
 by_cases c:i < l.length
 ·rw[fstT_at c] at he
  repeat'(first|refine gA ?_|(refine goG ?_;intro g)|(refine goV ?_;intro v))
  refine WL.callC [] cap (vs:=[.int .i64 (l.getD i 0)]) (hp (l.getD i 0)) ?_ (hF:=(HasAll.tail fun _ h=>by(repeat(first|exact h|apply List.mem_cons_of_mem))))
  rintro _ _ _ ⟨rfl,rfl,rfl⟩
  simp only[List.nil_append,List.cons_append]
  cases h:p (l.getD i 0) with
  |true=>
   rw[if_pos h] at he
   rw[he]
   repeat'(first|refine gA ?_|(refine goG ?_;intro g)|(refine goV ?_;intro v))
   exact WC.ret (Fin.v (ResE.t1 rfl rfl) meA rfl)
  |false=>
   rw[if_neg (by rw[h];decide)] at he
   repeat'(first|refine gA ?_|(refine goG ?_;intro g)|(refine goV ?_;intro v))
   exact LoopEnd.mk (i+1) ⟨by omega,he⟩ (by show l.length - (i+1) < l.length - i;omega) (hG:=.cons hmA (.cons hmA (HasAll.tail fun _ h=>by(repeat(first|exact h|apply List.mem_cons_of_mem)))))
 ·obtain rfl:i=l.length:=by omega
  rw[Nat.sub_self,X.fstT] at he
  rw[he]
  repeat'(first|refine gA ?_|(refine goG ?_;intro g)|(refine goV ?_;intro v))
  exact WC.ret (Fin.v (ResE.t1 rfl rfl) meA rfl)
set_option maxRecDepth 60000 in
theorem compact0_c (v:Value) (l:List Int) (hl:l.length=0):FnB Tryz.prog 84 [v] [Ow.slice v 3 1 (ints l)] [] (IsO 3 1 (ints l)):=by
 refine fn_of [(0,v)] 61 Tryz.func84 rfl Tryz.ntmps84 (by kernel_rfl) rfl suA fun h0=>?_
 repeat'(first|refine gB ?_|(refine gH ?_;intro g)|(refine gW ?_;intro v)|refine d84 ?_|fail)
 exact WC.ret (Fin.o (ResE.t1 rfl rfl) meA meA rfl)
theorem compactA_c (v:Value) (l:List Int) (hl:l.length≤1000000):FnB Tryz.prog 84 [v] [Ow.slice v 3 1 (ints l)] [] (IsO 3 1 (ints (Lib.compact l))):=by
 cases l with
 |nil=>exact compact0_c v [] rfl
 |cons a l=>exact compact_c v (a::l) hl (by simp)
set_option maxRecDepth 60000 in
theorem delete0_c (v:Value) (f:FuncId) (cap:List Value) (Fc:List Fct) (p:Int→Bool) (hp:∀ x,FnB Tryz.prog f ([.int .i64 x]++cap) [] Fc (IsV (.bool (p x)))) :
  FnB Tryz.prog 80 [v,.func (.func f) #[] cap.toArray] [Ow.slice v 3 1 (ints [])] Fc (IsO 3 1 (ints [])):=by
 refine fn_of [(0,v),(1,(.func (.func f) #[] cap.toArray))] 42 Tryz.func80 rfl Tryz.ntmps80 (by kernel_rfl) rfl suA fun h0=>?_
 repeat'(first|refine gA ?_|(refine goG ?_;intro g)|(refine goV ?_;intro v))
 refine WL.callV (indexFI_c v [] f cap Fc p hp) ?_ (hF:=.cons (.oI meA) (hasB_tail fun _ h=>by(repeat(first|exact h|apply List.mem_cons_of_mem))))
 rw[show optI (X.fstT (fun i=>p (([]:List Int).getD i 0)) ([]:List Int).length 0)= -1 from rfl]
 repeat'(first|refine gA ?_|(refine goG ?_;intro g)|(refine goV ?_;intro v))
 exact WC.ret (Fin.o (ResE.t1 rfl rfl) meA meA rfl)
set_option maxRecDepth 60000 in
theorem core1_c (x:Int):FnB Tryz.prog 79 ([.int .i64 x]++[]) [] [] (IsV (.bool (decide (x < -1)))):=by
 refine fn_of [(0,(.int .i64 x))] 5 Tryz.func79 rfl Tryz.ntmps79 (by kernel_rfl) rfl suA fun h0=>?_
 by_cases c:x < -1
 ·repeat'(first|refine gA ?_|(refine goG ?_;intro g)|(refine goV ?_;intro v))
  exact WC.ret (Fin.v (ResE.t1 rfl rfl) meA (by rw[decide_eq_true c]))
 ·repeat'(first|refine gA ?_|(refine goG ?_;intro g)|(refine goV ?_;intro v))
  exact WC.ret (Fin.v (ResE.t1 rfl rfl) meA (by rw[decide_eq_false c]))
set_option maxRecDepth 60000 in
theorem core2_c (x:Int):FnB Tryz.prog 82 ([.int .i64 x]++[]) [] [] (IsV (.bool (decide (x < 0)))):=by
 refine fn_of [(0,(.int .i64 x))] 5 Tryz.func82 rfl Tryz.ntmps82 (by kernel_rfl) rfl suA fun h0=>?_
 by_cases c:x < 0
 ·repeat'(first|refine gA ?_|(refine goG ?_;intro g)|(refine goV ?_;intro v))
  exact WC.ret (Fin.v (ResE.t1 rfl rfl) meA (by rw[decide_eq_true c]))
 ·repeat'(first|refine gA ?_|(refine goG ?_;intro g)|(refine goV ?_;intro v))
  exact WC.ret (Fin.v (ResE.t1 rfl rfl) meA (by rw[decide_eq_false c]))
set_option maxRecDepth 60000 in
theorem core3_c (x:Int) (y:Int) (g:Nat):FnB Tryz.prog 86 ([.int .i64 x]++[ptr g]) [] [ce g 3 [.int .i64 y]] (IsV (.bool (decide (x=y)))):=by
 refine fn_of [(0,(.int .i64 x)),(1,(ptr g))] 7 Tryz.func86 rfl Tryz.ntmps86 (by kernel_rfl) rfl suA fun h0=>?_
 by_cases c:x=y
 ·repeat'(first|refine gA ?_|(refine goG ?_;intro g)|(refine goV ?_;intro v))
  exact WC.ret (Fin.v (ResE.t1 rfl rfl) meA (by rw[decide_eq_true c]))
 ·repeat'(first|refine gA ?_|(refine goG ?_;intro g)|(refine goV ?_;intro v))
  exact WC.ret (Fin.v (ResE.t1 rfl rfl) meA (by rw[decide_eq_false c]))
end U
section
open Go.Shelf Go.Sort
theorem sneg_gives (W:World) (x:Int):FnGives Tryz.prog 82 #[] #[.int .i64 x] (.bool (decide (x < 0))) W:=by
 unfold FnGives
 show Calls Tryz.prog 82 #[.int .i64 x] W _
 go_enter Tryz.func82,Tryz.ntmps82
 go_wp2
 go_ret
 exact⟨rfl,0,rfl⟩
theorem seq_gives (W:World) (x y:Int) (g:Nat) (hc:W.cell? ⟨g,0,none⟩=some (.int .i64 y)):FnGives Tryz.prog 86 #[.pointer (some ⟨g,0,none⟩)] #[.int .i64 x] (.bool (decide (x=y))) W:=by
 unfold FnGives
 show Calls Tryz.prog 86 #[.int .i64 x,.pointer (some ⟨g,0,none⟩)] W _
 go_enter Tryz.func86,Tryz.ntmps86
 go_wp2
 go_ret
 exact⟨rfl,0,rfl⟩
end
open Go.Sort Go.Shelf in
theorem U.delNeg_c (v:Value) (l:List Int) (hl:l.length≤1000000):FnB Tryz.prog 80 [v,.func (.func 82) #[] #[]] [Ow.slice v 3 1 (ints l)] [] (IsO 3 1 (ints (l.filter fun x=>!decide (x < 0)))):=by
 cases l with
 |nil=>exact U.delete0_c v 82 [] [] _ U.core2_c
 |cons a l=>exact delete_row hl (by simp) (fun x=>decide (x < 0)) _ _ (enters_of Tryz.func82 (by kernel_rfl) rfl) fun fr w b cap hv ho=>⟨fun W x _=>sneg_gives W x,fun n os dk x _=>sneg_gives _ x⟩
open Go.Sort Go.Shelf in
theorem U.delEq_c (v:Value) (l:List Int) (y:Int) (g:Nat) (hl:l.length≤1000000):FnB Tryz.prog 80 [v,.func (.func 86) #[] #[ptr g]] [Ow.slice v 3 1 (ints l)] [ce g 3 [.int .i64 y]] (IsO 3 1 (ints (l.filter fun x=>!decide (x=y)))):=by
 cases l with
 |nil=>exact U.delete0_c v 86 [ptr g] _ _ fun x=>U.core3_c x y g
 |cons a l=>
   refine delete_row hl (by simp) (fun x=>decide (x=y)) _ _ (enters_of Tryz.func86 (by kernel_rfl) rfl) ?_
   intro fr w b cap hv ho
   have hf:=ho.facts _ (.head _)
   have hg:w.heap[g]?=some (.cells #[.int .i64 y] 3 (0,0)):=imm_heap hf
   have hgl:g < w.heap.size:=(Array.getElem?_eq_some_iff.1 hg).1
   have hgb:g≠b:=by
    rintro rfl
    have:imm fr [Ow.slice v 3 1 (ints (a::l))] w.heap g=none:=by
     unfold imm;rw[if_pos];subst hv;simp[ids,Ow.ids]
    have h2:imm fr [Ow.slice v 3 1 (ints (a::l))] w.heap g=some (.cells #[.int .i64 y] 3 (0,0)):=hf
    rw[this] at h2;cases h2
   have hc:w.cell? ⟨g,0,none⟩=some (.int .i64 y):=by unfold World.cell?;rw[hg];rfl
   refine⟨fun W x hW=>seq_gives W x y g ((hW.cell (p:=⟨g,0,none⟩) hgl).trans hc),fun n os dk x _=>seq_gives _ x y g ?_⟩
   unfold World.cell? sortWorld
   rw[Sort.heap_grow_old _ os (by simpa using hgl)]
   have:(putRow (Value.int .i64) (Sort.ahead w n) b 0 dk).heap[g]?=w.heap[g]?:=by
    unfold putRow mapBlock
    show(w.heap.modify b _)[g]?=_
    rw[Array.getElem?_modify,if_neg (fun h=>hgb h.symm)]
   rw[this,hg];rfl
end Go.Proofs.YtaongbhamadlkaaGreat
namespace Go.Proofs.YtaongbhamadlkaaGreat
open W Go.RowKit
def I64 (n:Int):Prop:=-9223372036854775808≤n∧n≤9223372036854775807
def around (n m:Int):Int:=(if n < 0 then -(n+1) else n) % m
theorem around_lt {n m:Int} (hm:0 < m):0≤around n m∧around n m < m:=⟨Int.emod_nonneg _ (by omega),Int.emod_lt_of_pos _ hm⟩
theorem getD_i64 {l:List Int} (hl:∀ x∈l,I64 x) (k:Nat):I64 (l.getD k 0):=by
 rw[List.getD_eq_getElem?_getD]
 cases h:l[k]? with
 |none=>simp[I64]
 |some x=>simpa using hl x (List.mem_of_getElem? h)
def atP (l:List Int) (i m:Int):Int:=if i < 0∨(l.length:Int)≤i then 0 else around (l.getD i.toNat 0) m
theorem atP_lt {l:List Int} {i m:Int} (hm:0 < m):0≤atP l i m∧atP l i m < m:=by
 unfold atP;split
 ·omega
 ·exact around_lt hm
theorem same_all {l m:List Int} (hl:l.length=m.length) (h:∀ j,j < l.length→l.getD j 0=m.getD j 0):l=m:=by
 apply List.ext_getElem hl
 intro i h1 h2
 have:=h i h1
 simpa [List.getD_eq_getElem?_getD,h1,h2] using this
namespace U
attribute [local irreducible] WC WL WD YO LO LoopEnd W.Fin Scalar SliceT FieldAt Row ArrT AllocT KnS Has W.One SrcE IntT
theorem d25 {G G':Prop} (h:G') (s:Bx G'→G:=by
 intro h
 first|(apply WC.draw (id:=6) [0,1,2,3,4,5,6,7,8] (.held 0 (.held 1 (.held 2 (.held 3 (.held 4 (.held 5 (.held 6 (.held 7 (.held 8 (.done)))))))))) mixed (by kernel_rfl))|fail
 exact Bx.h h):G:=s ⟨h⟩
set_option maxRecDepth 60000 in
theorem around_c (n m:Int) (hn:I64 n) (hm:0 < m):FnB Tryz.prog 23 [.int .i64 n,.int .i64 m] [] [] (IsV (.int .i64 (around n m))):=by
 obtain⟨hn,hn2⟩:=hn
 refine fn_of [(0,(.int .i64 n)),(1,(.int .i64 m))] 13 Tryz.func23 rfl Tryz.ntmps23 (by kernel_rfl) rfl suA fun h0=>?_
 by_cases h:n < 0
 ·repeat'(first|refine gA ?_|(refine goG ?_;intro g)|(refine goV ?_;intro v))
  exact WC.ret (Fin.v (ResE.t1 rfl rfl) meA (by simp[around,h]))
 ·repeat'(first|refine gA ?_|(refine goG ?_;intro g)|(refine goV ?_;intro v))
  exact WC.ret (Fin.v (ResE.t1 rfl rfl) meA (by simp[around,h]))
set_option maxRecDepth 60000 in
theorem at_c (v:Value) (l:List Int) (i m:Int) (hl:∀ x∈l,I64 x) (hm:0 < m):FnB Tryz.prog 29 [v,.int .i64 i,.int .i64 m] [] [sI v l] (IsV (.int .i64 (atP l i m))):=by
 refine fn_of [(0,v),(1,(.int .i64 i)),(2,(.int .i64 m))] 21 Tryz.func29 rfl Tryz.ntmps29 (by kernel_rfl) rfl suA fun h0=>?_
 refine WC.lenI v l hmA fun hlen=>?_
 by_cases h:i < 0
 ·repeat'(first|refine gA ?_|(refine goG ?_;intro g)|(refine goV ?_;intro v))
  exact WC.ret (Fin.v (ResE.t1 rfl rfl) meA (by simp[atP,h]))
 by_cases h2:(l.length:Int)≤i
 ·repeat'(first|refine gA ?_|(refine goG ?_;intro g)|(refine goV ?_;intro v))
  exact WC.ret (Fin.v (ResE.t1 rfl rfl) meA (by simp[atP,h2]))
 ·repeat'(first|refine gA ?_|(refine goG ?_;intro g)|(refine goV ?_;intro v))
  first|refine WL.callV (around_c _ _ (getD_i64 hl _) hm) ?_|refine WD.callV (around_c _ _ (getD_i64 hl _) hm) ?_
  repeat'(first|refine gA ?_|(refine goG ?_;intro g)|(refine goV ?_;intro v))
  exact WC.ret (Fin.v (ResE.t1 rfl rfl) meA (by simp[atP,h,h2]))
set_option maxRecDepth 60000 in
theorem take_c (v:Value) (l:List Int) (m:Nat) (hm2:m≤100):FnB Tryz.prog 38 [v,.int .i64 m] [] [sI v l] (IsO 3 1 (ints (l.take m))):=by
 refine fn_of [(0,v),(1,(.int .i64 m))] 14 Tryz.func38 rfl Tryz.ntmps38 (by kernel_rfl) rfl suA fun h0=>?_
 refine WC.addNil 3 1 ?_
 refine WC.lenI v l hmA fun hlen=>?_
 repeat'(first|refine gA ?_|(refine goG ?_;intro g)|(refine goV ?_;intro v))
 have hmin:(min (l.length:Int) (m:Int))=((min l.length m:Nat):Int):=by omega
 rw[hmin]
 refine WL.y (YO.slice (a:=0) (b:=min l.length m) T.s22 rfl (KnS.f hmA) (.inl ⟨rfl,rfl⟩) (.inr ⟨_,rfl,rfl⟩) (by omega) (by omega)) rfl rfl ?_
 have hs:=fun F (h:Has F (sI v l))=>Has.takeI h (Nat.min_le_left l.length m)
 refine WL.l rfl rfl (LO.app T.e22 rfl rfl (SrcE.ints (hs _ hmA)) (by intro v;repeat(first|exact Sel.head|apply Sel.tail)) (ints_one _) (by simp only[List.length_map,List.length_take,List.length_nil];omega) (by simp only[List.length_map,List.length_take,List.length_nil];omega) fun v'=>?_)
 repeat'(first|refine gA ?_|(refine goG ?_;intro g)|(refine goV ?_;intro v))
 exact WC.ret (Fin.o (ResE.t1 rfl rfl) meA meA (by rw[show l.take (min l.length m)=l.take m from by rw[List.take_eq_take_iff];omega];rfl))
set_option maxRecDepth 60000 in
theorem sameInts_c (v u:Value) (l m:List Int):FnB Tryz.prog 25 [v,u] [] [sI v l,sI u m] (IsV (.bool (decide (l=m)))):=by
 refine fn_of [(0,v),(1,u)] 26 Tryz.func25 rfl Tryz.ntmps25 (by kernel_rfl) rfl suA fun h0=>?_
 refine WC.lenI v l hmA fun hlen=>?_
 by_cases hl:l.length=m.length
 ·repeat'(first|refine gB ?_|(refine gH ?_;intro g)|(refine gW ?_;intro v)|refine d25 ?_|fail)
  refine WC.lp (σ:=Nat) (fun k=>[(5,.int .i64 (k:Int)),(0,v),(1,u)]) (fun _=>[]) (fun _=>[ge h0,sI v l,sI u m]) (fun k=>k≤l.length∧∀ j,j < k→l.getD j 0=m.getD j 0) (fun k=>l.length - k) 0 ⟨Nat.zero_le _,fun j h=>by omega⟩ ?_
  rintro k ⟨hk,hn⟩
  by_cases hlt:k < l.length
  ·by_cases he:l.getD k 0=m.getD k 0
   ·repeat'(first|refine gB ?_|(refine gH ?_;intro g)|(refine gW ?_;intro v)|refine d25 ?_|fail)
    refine LoopEnd.mk (k+1) ⟨by omega,fun j hj=>?_⟩ (by show l.length - (k+1) < l.length - k;omega)
    by_cases hjk:j=k
    ·subst hjk;exact he
    ·exact hn j (by omega)
   ·repeat'(first|refine gB ?_|(refine gH ?_;intro g)|(refine gW ?_;intro v)|refine d25 ?_|fail)
    exact WC.ret (Fin.v (ResE.t1 rfl rfl) meA (by rw[decide_eq_false];rintro rfl;exact he rfl))
  ·repeat'(first|refine gB ?_|(refine gH ?_;intro g)|(refine gW ?_;intro v)|refine d25 ?_|fail)
   exact WC.ret (Fin.v (ResE.t1 rfl rfl) meA (by rw[decide_eq_true];exact same_all hl (fun j hj=>hn j (by omega))))
 ·have hl':(l.length:Int)≠m.length:=by omega
  repeat'(first|refine gB ?_|(refine gH ?_;intro g)|(refine gW ?_;intro v)|refine d25 ?_|fail)
  exact WC.ret (Fin.v (ResE.t1 rfl rfl) meA (by rw[decide_eq_false];rintro rfl;exact hl rfl))
end U
end Go.Proofs.YtaongbhamadlkaaGreat
namespace Go.Proofs.YtaongbhamadlkaaGreat
open W Go.RowKit
class Den (D:Nat):Prop where
 pos:0 < D
 le:D≤500000000
def wq (D:Nat) (k:Int):Rat:=Rat.divInt k D
def Lim (k:Int):Prop:=k.natAbs≤500000000
section
variable {D:Nat} [hD:Den D]
theorem Den.ne:(D:Int)≠0:=by have:=hD.pos;omega
theorem wq_add (a b:Int):wq D a+wq D b=wq D (a+b):=by
 unfold wq
 rw[Rat.divInt_add_divInt _ _ Den.ne Den.ne,←Int.add_mul,Rat.divInt_mul_right Den.ne]
theorem wq_sub (a b:Int):wq D a - wq D b=wq D (a - b):=by
 unfold wq
 rw[Rat.divInt_sub_divInt _ _ Den.ne Den.ne,←Int.sub_mul,Rat.divInt_mul_right Den.ne]
theorem wq_zero:wq D 0=0:=Rat.zero_divInt _
theorem wq_num (a:Int):(wq D a).num*D=a*(wq D a).den:=by
 have h:=Rat.num_divInt_den (wq D a)
 have h2:Rat.divInt (wq D a).num ((wq D a).den:Int)=Rat.divInt a (D:Int):=h
 exact(Rat.divInt_eq_divInt_iff (by have:=(wq D a).den_nz;omega) Den.ne).1 h2
theorem wq_cmp (a b:Int):cmpQ (wq D a) (wq D b)=cmpI a b:=by
 have ha:=@wq_num D hD a
 have hb:=@wq_num D hD b
 have h0:(0:Int) < D:=by have:=hD.pos;omega
 have p1:(0:Int) < (wq D a).den:=by have:=(wq D a).den_nz;omega
 have p2:(0:Int) < (wq D b).den:=by have:=(wq D b).den_nz;omega
 unfold cmpQ
 generalize (wq D a).num=x at *
 generalize (wq D b).num=y at *
 generalize ((wq D a).den:Int)=p at *
 generalize ((wq D b).den:Int)=r at *
 generalize (D:Int)=d at *
 have e1:(x*r)*d=a*(p*r):=by rw[Int.mul_right_comm,ha,Int.mul_assoc]
 have e2:(y*p)*d=b*(p*r):=by rw[Int.mul_right_comm,hb,Int.mul_assoc,Int.mul_comm r p]
 have pr:0 < p*r:=Int.mul_pos p1 p2
 have hlt:x*r < y*p↔a < b:=by
  rw[←Int.mul_lt_mul_right h0,e1,e2,Int.mul_lt_mul_right pr]
 have hgt:y*p < x*r↔b < a:=by
  rw[←Int.mul_lt_mul_right h0,e1,e2,Int.mul_lt_mul_right pr]
 generalize x*r=u at *
 generalize y*p=v at *
 unfold cmpI
 repeat' split
 all_goals omega
theorem wq_inj {a b:Int}:wq D a=wq D b↔a=b:=by
 rw[←cmpQ_eq,wq_cmp];unfold cmpI;split <;> (try split) <;> omega
theorem wq_sgn (a:Int):sgn (wq D a).num=sgn a:=by
 have ha:=@wq_num D hD a
 have h0:(0:Int) < D:=by have:=hD.pos;omega
 have p1:(0:Int) < (wq D a).den:=by have:=(wq D a).den_nz;omega
 generalize (wq D a).num=x at *
 generalize ((wq D a).den:Int)=p at *
 generalize (D:Int)=d at *
 have h1:x < 0↔a < 0:=by
  rw[←Int.mul_lt_mul_right h0,ha,Int.zero_mul]
  constructor
  ·intro h;by_cases c:a < 0;exact c;have:=Int.mul_nonneg (show 0≤a by omega) (Int.le_of_lt p1);omega
  ·intro h;exact Int.mul_neg_of_neg_of_pos h p1
 have h2:0 < x↔0 < a:=by
  rw[←Int.mul_lt_mul_right h0,ha,Int.zero_mul]
  constructor
  ·intro h;by_cases c:0 < a;exact c;have:=Int.mul_nonneg (show 0≤-a by omega) (Int.le_of_lt p1);rw[Int.neg_mul] at this;omega
  ·intro h;exact Int.mul_pos h p1
 unfold sgn
 repeat' split
 all_goals omega
omit hD in
theorem digs_small {n:Nat} (h:n≤500000000):(digs n).length≤400000000:=by
 by_cases c:n=0
 ·subst c;rw[digs_0];decide
 ·rw[digs_pos c,show n / 1000000000=0 by omega,digs_0];simp
theorem wq_Sm {a:Int} (h:Lim a):Sm (wq D a):=by
 unfold Lim at h
 have hp:=hD.pos
 have hl:=hD.le
 have e:wq D a=mkRat a D:=Rat.divInt_ofNat _ _
 rw[e]
 refine⟨digs_small ?_,digs_small ?_⟩
 ·rw[Rat.num_mkRat,if_neg (by omega)]
  have:(a / ((D.gcd a.natAbs:Nat):Int)).natAbs≤a.natAbs:=Int.natAbs_ediv_le_natAbs _ _
  omega
 ·rw[Rat.den_mkRat,if_neg (by omega)]
  exact Nat.le_trans (Nat.div_le_self _ _) hl
theorem wq_of {p q:Int} {k:Nat} (h:(D:Int)=q*k) (hq:q≠0):Rat.divInt p q=wq D (p*k):=by
 have hk:(k:Int)≠0:=fun h0=>by rw[h0,Int.mul_zero] at h;exact(Den.ne (D:=D)) h
 unfold wq
 rw[h,Rat.divInt_mul_right hk]
end
structure Bd where
 fr:Int
 to:Int
 w:Int
deriving DecidableEq
def bd0:Bd:=⟨0,0,0⟩
abbrev bg (bs:List Bd) (i:Nat):Bd:=bs.getD i bd0
def Bd.ok (n:Int) (b:Bd):Prop:=(0≤b.fr∧b.fr < n)∧0≤b.to∧b.to < n
instance (n:Int) (b:Bd):Decidable (b.ok n):=by unfold Bd.ok;infer_instance
def validB (n:Int) (bs:List Bd):Bool:=decide ((1≤n∧n≤32)∧bs.length≤2048∧∀ i,i < bs.length→(bg bs i).ok n)
abbrev bcs (b:Bd) (m:QM):List Value:=[.int .i64 b.fr,.int .i64 b.to,.bool m.1,m.2.1,.bool false,m.2.2]
abbrev bv (b:Bd) (m:QM):Value:=.agg #[.int .i64 b.fr,.int .i64 b.to,.bool m.1,m.2.1,.bool false,m.2.2]
abbrev lcs (o:Option Int) (m:QM):List Value:=[.bool o.isSome,.bool m.1,m.2.1,.bool false,m.2.2]
abbrev lv (o:Option Int) (m:QM):Value:=.agg #[.bool o.isSome,.bool m.1,m.2.1,.bool false,m.2.2]
def bcell (bs:List Bd) (ms:Nat→QM) (j:Nat):Value:=(bcs (bg bs (j / 6)) (ms (j / 6))).getD (j % 6) undef
def lcell (L:List (Option Int)) (ms:Nat→QM) (j:Nat):Value:=(lcs (L.getD (j / 5) none) (ms (j / 5))).getD (j % 5) undef
theorem bcell_at (bs:List Bd) (ms:Nat→QM) (k:Nat) {r:Nat} (hr:r < 6):bcell bs ms (k*6+r)=(bcs (bg bs k) (ms k)).getD r undef:=by
 unfold bcell;rw[show(k*6+r) / 6=k by omega,show(k*6+r) % 6=r by omega]
theorem lcell_at (L:List (Option Int)) (ms:Nat→QM) (k:Nat) {r:Nat} (hr:r < 5):lcell L ms (k*5+r)=(lcs (L.getD k none) (ms k)).getD r undef:=by
 unfold lcell;rw[show(k*5+r) / 5=k by omega,show(k*5+r) % 5=r by omega]
def mQ (D:Nat) (ms:Nat→QM) (qs:List Int):Fct where
 p h:=∀ i,i < qs.length→(isQ (qv (ms i)) (wq D (qs.getD i 0))).p h
 mono _ _ hl hp i hi:=(isQ _ _).mono _ _ hl (hp i hi)
def mB (D:Nat) (ms:Nat→QM) (bs:List Bd):Fct where
 p h:=∀ i,i < bs.length→(isQ (qv (ms i)) (wq D (bg bs i).w)).p h
 mono _ _ hl hp i hi:=(isQ _ _).mono _ _ hl (hp i hi)
def mL (D:Nat) (ms:Nat→QM) (L:List (Option Int)):Fct where
 p h:=∀ i,i < L.length→(isQ (qv (ms i)) (wq D ((L.getD i none).getD 0))).p h
 mono _ _ hl hp i hi:=(isQ _ _).mono _ _ hl (hp i hi)
def fR (D:Nat) (v:Value) (ms:Nat→QM) (qs:List Int):Fct where
 p h:=(slC v qs.length 4 (qcell ms)).p h∧(mQ D ms qs).p h
 mono _ _ hl hp:=⟨(slC _ _ _ _).mono _ _ hl hp.1,(mQ _ _ _).mono _ _ hl hp.2⟩
def fB (D:Nat) (v:Value) (ms:Nat→QM) (bs:List Bd):Fct where
 p h:=(slC v bs.length 6 (bcell bs ms)).p h∧(mB D ms bs).p h
 mono _ _ hl hp:=⟨(slC _ _ _ _).mono _ _ hl hp.1,(mB _ _ _).mono _ _ hl hp.2⟩
def fL (D:Nat) (v:Value) (ms:Nat→QM) (L:List (Option Int)):Fct where
 p h:=(slC v L.length 5 (lcell L ms)).p h∧(mL D ms L).p h
 mono _ _ hl hp:=⟨(slC _ _ _ _).mono _ _ hl hp.1,(mL _ _ _).mono _ _ hl hp.2⟩
def andF (f g:Fct):Fct where
 p h:=f.p h∧g.p h
 mono _ _ hl hp:=⟨f.mono _ _ hl hp.1,g.mono _ _ hl hp.2⟩
section
variable {D:Nat} {F:List Fct} {bx:List Ow} {v:Value} {ms:Nat→QM} {qs:List Int} {bs:List Bd} {L:List (Option Int)} {k:Nat} {f g:Fct}
theorem W.Has.l (h:Has F (andF f g)):Has F f:=fun p hf=>(h p hf).1
theorem W.Has.r (h:Has F (andF f g)):Has F g:=fun p hf=>(h p hf).2
theorem W.Has.and (h:Has F f) (h2:Has F g):Has F (andF f g):=fun p hf=>⟨h p hf,h2 p hf⟩
theorem W.HasB.and (h:HasB bx F f) (h2:HasB bx F g):HasB bx F (andF f g):=fun fr w ho=>⟨h fr w ho,h2 fr w ho⟩
theorem W.Has.rsB (h:Has F (fR D v ms qs)):Has F (slC v qs.length 4 (qcell ms)):=fun p hf=>(h p hf).1
theorem W.Has.rm (h:Has F (fR D v ms qs)):Has F (mQ D ms qs):=fun p hf=>(h p hf).2
theorem W.Has.bsl (h:Has F (fB D v ms bs)):Has F (slC v bs.length 6 (bcell bs ms)):=fun p hf=>(h p hf).1
theorem W.Has.bm (h:Has F (fB D v ms bs)):Has F (mB D ms bs):=fun p hf=>(h p hf).2
theorem W.Has.ls (h:Has F (fL D v ms L)):Has F (slC v L.length 5 (lcell L ms)):=fun p hf=>(h p hf).1
theorem W.Has.lm (h:Has F (fL D v ms L)):Has F (mL D ms L):=fun p hf=>(h p hf).2
theorem W.Has.qB (h:Has F (mQ D ms qs)) (hk:k < qs.length):Has F (isQ (qv (ms k)) (wq D (qs.getD k 0))):=fun p hf=>h p hf k hk
theorem W.Has.b (h:Has F (mB D ms bs)) (hk:k < bs.length):Has F (isQ (qv (ms k)) (wq D (bg bs k).w)):=fun p hf=>h p hf k hk
theorem W.Has.lq (h:Has F (mL D ms L)) (hk:k < L.length):Has F (isQ (qv (ms k)) (wq D ((L.getD k none).getD 0))):=fun p hf=>h p hf k hk
theorem KnS.fr (h:Has F (fR D v ms qs)):KnS bx F v qs.length:=KnS.f h.rsB
theorem KnS.fb (h:Has F (fB D v ms bs)):KnS bx F v bs.length:=KnS.f h.bsl
theorem KnS.fl (h:Has F (fL D v ms L)):KnS bx F v L.length:=KnS.f h.ls
variable {P:Program} {e:Env} {ty t:TypeId} {x:Operand}
theorem YO.ldR (hs:Row P t 4) (hx:ev e x=some (.pointer (some (eaddr v (k*4))))) (hf:Has F (fR D v ms qs)) (hk:k < qs.length):YO P (.load t x) ty e bx F (qv (ms k)):=
 YO.ldRS (us:=qcs (ms k)) hs hx hf.rsB (by omega) rfl fun i hi=>by
  rw[qcell_at _ _ hi]
  match i,hi with|0,_=>rfl|1,_=>rfl|2,_=>rfl|3,_=>rfl
theorem YO.ldBd (hs:Row P t 6) (hx:ev e x=some (.pointer (some (eaddr v (k*6))))) (hf:Has F (fB D v ms bs)) (hk:k < bs.length):YO P (.load t x) ty e bx F (bv (bg bs k) (ms k)):=
 YO.ldRS (us:=bcs (bg bs k) (ms k)) hs hx hf.bsl (by omega) rfl fun i hi=>by
  rw[bcell_at _ _ _ hi]
  match i,hi with|0,_=>rfl|1,_=>rfl|2,_=>rfl|3,_=>rfl|4,_=>rfl|5,_=>rfl
theorem YO.ldBq (hs:Row P t 4) (hx:ev e x=some (.pointer (some (eaddr v (k*6+2))))) (hf:Has F (fB D v ms bs)) (hk:k < bs.length):YO P (.load t x) ty e bx F (qv (ms k)):=
 YO.ldRS (us:=qcs (ms k)) hs hx hf.bsl (by omega) rfl fun i hi=>by
  rw[Nat.add_assoc,bcell_at _ _ _ (by omega)]
  match i,hi with|0,_=>rfl|1,_=>rfl|2,_=>rfl|3,_=>rfl
theorem YO.ldBf (hs:Scalar P t) (hx:ev e x=some (.pointer (some (eaddr v (k*6+0))))) (hf:Has F (fB D v ms bs)) (hk:k < bs.length):YO P (.load t x) ty e bx F (.int .i64 (bg bs k).fr):=by
 have:=YO.ldS (ty:=ty) (bx:=bx) hs hx hf.bsl (by omega)
 rwa [bcell_at _ _ _ (by omega)] at this
theorem YO.ldBt (hs:Scalar P t) (hx:ev e x=some (.pointer (some (eaddr v (k*6+1))))) (hf:Has F (fB D v ms bs)) (hk:k < bs.length):YO P (.load t x) ty e bx F (.int .i64 (bg bs k).to):=by
 have:=YO.ldS (ty:=ty) (bx:=bx) hs hx hf.bsl (by omega)
 rwa [bcell_at _ _ _ (by omega)] at this
theorem YO.ldLn (hs:Row P t 5) (hx:ev e x=some (.pointer (some (eaddr v (k*5))))) (hf:Has F (fL D v ms L)) (hk:k < L.length):YO P (.load t x) ty e bx F (lv (L.getD k none) (ms k)):=
 YO.ldRS (us:=lcs (L.getD k none) (ms k)) hs hx hf.ls (by omega) rfl fun i hi=>by
  rw[lcell_at _ _ _ hi]
  match i,hi with|0,_=>rfl|1,_=>rfl|2,_=>rfl|3,_=>rfl|4,_=>rfl
theorem YO.ldLb (hs:Scalar P t) (hx:ev e x=some (.pointer (some (eaddr v (k*5+0))))) (hf:Has F (fL D v ms L)) (hk:k < L.length):YO P (.load t x) ty e bx F (.bool (L.getD k none).isSome):=by
 have:=YO.ldS (ty:=ty) (bx:=bx) hs hx hf.ls (by omega)
 rwa [lcell_at _ _ _ (by omega)] at this
theorem YO.ldLq (hs:Row P t 4) (hx:ev e x=some (.pointer (some (eaddr v (k*5+1))))) (hf:Has F (fL D v ms L)) (hk:k < L.length):YO P (.load t x) ty e bx F (qv (ms k)):=
 YO.ldRS (us:=qcs (ms k)) hs hx hf.ls (by omega) rfl fun i hi=>by
  rw[Nat.add_assoc,lcell_at _ _ _ (by omega)]
  match i,hi with|0,_=>rfl|1,_=>rfl|2,_=>rfl|3,_=>rfl
end
end Go.Proofs.YtaongbhamadlkaaGreat
namespace Go.Proofs.YtaongbhamadlkaaGreat
open W Go.RowKit
abbrev bcells (bs:List Bd) (ms:Nat→QM):List Value:=cellsF (bs.length*6) (bcell bs ms)
abbrev lcells (L:List (Option Int)) (ms:Nat→QM):List Value:=cellsF (L.length*5) (lcell L ms)
section
variable {n k:Nat} {ms:Nat→QM} {m:QM} {bs:List Bd} {b:Bd} {L:List (Option Int)} {o:Option Int}
theorem lcells_set (h:k < L.length):setMany (lcells L ms) (k*5) (lcs o m)=lcells (L.set k o) (upd ms k m):=by
 have hle:k*5+(lcs o m).length≤(lcells L ms).length:=by rw[cellsF_len];show k*5+5≤L.length*5;omega
 refine cellsF_ext (by rw[setMany_len hle,cellsF_len,List.length_set]) fun j hj=>?_
 rw[List.length_set] at hj
 rw[setMany_get hle]
 show(if k*5≤j∧j < k*5+5 then _ else _)=_
 split
 ·rw[row_get (n:=5) rfl (by omega)]
  unfold lcell
  rw[show j / 5=k by omega,upd_at,show j % 5=j - k*5 by omega]
  simp[List.getD_eq_getElem?_getD,h]
 ·rw[cellsF_get hj];unfold lcell;rw[upd_ne (by omega)]
  simp only[List.getD_eq_getElem?_getD];rw[List.getElem?_set_ne (by omega)]
theorem bcells_app:bcells bs ms++bcs b m=bcells (bs++[b]) (upd ms bs.length m):=by
 refine cellsF_ext (by rw[List.length_append,cellsF_len,List.length_append];show bs.length*6+6=(bs.length+1)*6;omega) fun j hj=>?_
 rw[List.length_append,List.length_singleton] at hj
 by_cases h:j < bs.length*6
 ·rw[List.getElem?_append_left (by rw[cellsF_len];exact h),cellsF_get h];unfold bcell bg;rw[upd_ne (by omega)]
  simp only[List.getD_eq_getElem?_getD];rw[List.getElem?_append_left (by omega)]
 ·rw[List.getElem?_append_right (by rw[cellsF_len];omega),cellsF_len,row_get (n:=6) rfl (by omega)]
  unfold bcell bg;rw[show j / 6=bs.length by omega,upd_at,show j % 6=j - bs.length*6 by omega]
  simp[List.getD_eq_getElem?_getD]
theorem bcells_ext {l:List Value} {bs':List Bd} {ms':Nat→QM} (hl:l.length=bs'.length*6) (h:∀ i,i < bs'.length→∀ r,r < 6→l[i*6+r]?=some ((bcs (bg bs' i) (ms' i)).getD r undef)):l=bcells bs' ms':=
 cellsF_ext hl fun j hj=>by
  have:=h (j / 6) (by omega) (j % 6) (by omega)
  rw[show j / 6*6+j % 6=j by omega] at this
  rw[this];rfl
theorem bcells_get {i r:Nat} (hi:i < bs.length) (hr:r < 6):(bcells bs ms)[i*6+r]?=some ((bcs (bg bs i) (ms i)).getD r undef):=by
 rw[cellsF_get (by omega),bcell_at _ _ _ hr]
theorem bg_set {i:Nat} (h:k < bs.length):bg (bs.set k b) i=if i=k then b else bg bs i:=by
 unfold bg
 simp only[List.getD_eq_getElem?_getD,List.getElem?_set]
 by_cases c:k=i
 ·subst c;simp[h]
 ·rw[if_neg c,if_neg (fun h=>c h.symm)]
theorem bcells_setq (h:k < bs.length) (w:Int):setMany (bcells bs ms) (k*6+2) (qcs m)=bcells (bs.set k {bg bs k with w:=w}) (upd ms k m):=by
 have hle:k*6+2+(qcs m).length≤(bcells bs ms).length:=by rw[cellsF_len];show k*6+2+4≤bs.length*6;omega
 refine bcells_ext (by rw[setMany_len hle,cellsF_len,List.length_set]) fun i hi r hr=>?_
 rw[List.length_set] at hi
 rw[setMany_get hle,bg_set h]
 show(if k*6+2≤i*6+r∧i*6+r < k*6+2+4 then _ else _)=_
 by_cases c:i=k
 ·subst c
  rw[if_pos rfl,upd_at]
  match r,hr with
  |0,_=>rw[if_neg (by omega),bcells_get hi (by omega)];rfl
  |1,_=>rw[if_neg (by omega),bcells_get hi (by omega)];rfl
  |2,_=>rw[if_pos (by omega),show i*6+2 - (i*6+2)=0 by omega];rfl
  |3,_=>rw[if_pos (by omega),show i*6+3 - (i*6+2)=1 by omega];rfl
  |4,_=>rw[if_pos (by omega),show i*6+4 - (i*6+2)=2 by omega];rfl
  |5,_=>rw[if_pos (by omega),show i*6+5 - (i*6+2)=3 by omega];rfl
 ·rw[if_neg (by omega),bcells_get hi hr,if_neg c,upd_ne c]
theorem bcells_setf (h:k < bs.length) (x:Int):(bcells bs ms).set (k*6+0) (.int .i64 x)=bcells (bs.set k {bg bs k with fr:=x}) ms:=by
 refine bcells_ext (by rw[List.length_set,cellsF_len,List.length_set]) fun i hi r hr=>?_
 rw[List.length_set] at hi
 rw[List.getElem?_set,bg_set h,cellsF_len]
 by_cases c:k*6+0=i*6+r
 ·obtain rfl:i=k:=by omega
  obtain rfl:r=0:=by omega
  rw[if_pos rfl,if_pos rfl,if_pos (by omega)];rfl
 ·rw[if_neg c,bcells_get hi hr]
  by_cases c2:i=k
  ·subst c2
   rw[if_pos rfl]
   match r,hr with
   |0,_=>omega
   |1,_=>rfl
   |2,_=>rfl
   |3,_=>rfl
   |4,_=>rfl
   |5,_=>rfl
  ·rw[if_neg c2]
theorem bcells_sett (h:k < bs.length) (x:Int):(bcells bs ms).set (k*6+1) (.int .i64 x)=bcells (bs.set k {bg bs k with to:=x}) ms:=by
 refine bcells_ext (by rw[List.length_set,cellsF_len,List.length_set]) fun i hi r hr=>?_
 rw[List.length_set] at hi
 rw[List.getElem?_set,bg_set h,cellsF_len]
 by_cases c:k*6+1=i*6+r
 ·obtain rfl:i=k:=by omega
  obtain rfl:r=1:=by omega
  rw[if_pos rfl,if_pos rfl,if_pos (by omega)];rfl
 ·rw[if_neg c,bcells_get hi hr]
  by_cases c2:i=k
  ·subst c2
   rw[if_pos rfl]
   match r,hr with
   |0,_=>rfl
   |1,_=>omega
   |2,_=>rfl
   |3,_=>rfl
   |4,_=>rfl
   |5,_=>rfl
  ·rw[if_neg c2]
theorem lcells_true (h:k < L.length) (x:Int):(lcells L ms).set (k*5+0) (.bool true)=lcells (L.set k (some x)) ms:=by
 refine cellsF_ext (by rw[List.length_set,cellsF_len,List.length_set]) fun j hj=>?_
 rw[List.length_set] at hj
 rw[List.getElem?_set,cellsF_len]
 unfold lcell
 simp only[List.getD_eq_getElem?_getD,List.getElem?_set]
 by_cases c:k*5+0=j
 ·subst c
  rw[if_pos rfl,if_pos hj,show(k*5+0) / 5=k by omega,show(k*5+0) % 5=0 by omega,if_pos rfl,if_pos h];rfl
 ·rw[if_neg c,cellsF_get hj]
  unfold lcell
  simp only[List.getD_eq_getElem?_getD]
  by_cases c2:k=j / 5
  ·rw[if_pos c2,if_pos (by omega)]
   have h1:j % 5=1∨j % 5=2∨j % 5=3∨j % 5=4:=by omega
   rcases h1 with h1|h1|h1|h1 <;> rw[h1] <;> rfl
  ·rw[if_neg c2]
end
theorem made_l (n:Nat):(madeCells (Value.agg #[.bool false,.bool false,.slice none 0 0,.bool false,.slice none 0 0]).cells (n*5)).toList=lcells (List.replicate n none) (fun _=>m00):=by
 have:=madeF n 5 (Value.agg #[.bool false,.bool false,.slice none 0 0,.bool false,.slice none 0 0]) (lcell (List.replicate n none) (fun _=>m00)) rfl (by decide) fun j=>by
  unfold lcell
  rw[show(List.replicate n (none:Option Int)).getD (j / 5) none=none by simp only[List.getD_eq_getElem?_getD,List.getElem?_replicate];split <;> rfl]
  have h1:j % 5=0∨j % 5=1∨j % 5=2∨j % 5=3∨j % 5=4:=by omega
  rcases h1 with h1|h1|h1|h1|h1 <;> rw[h1] <;> rfl
 rw[this];unfold lcells;rw[List.length_replicate]
end Go.Proofs.YtaongbhamadlkaaGreat
