/- Lemmas for a law. Conditions: none. -/
import Derived.Test.YtbnobghgnbockaaGreatZf28
set_option linter.all false
set_option maxHeartbeats 32000000
set_option maxRecDepth 100000
namespace Go.Proofs.YtbnobghgnbockaaGreat
section
open W Go.RowKit
structure Pm where
 lv:Value
 gv:Value
 av:Nat->Value
 ma:Nat->Nat->QM
 mb:Nat->QM
 mg:Nat->QM
def pcell(av:Nat->Value)(mb:Nat->QM)(j:Nat):Value:=(av (j/5)::qcs (mb (j/5))).getD (j%5) undef
def US(av:Nat->Value)(mb:Nat->QM)(k:Nat){r:Nat}(hr:r<5):pcell av mb (k*5+r)=(av k::qcs (mb k)).getD r undef:=by
 unfold pcell;rw[show(k*5+r)/5=k by omega,show(k*5+r)%5=r by omega]
def fPg(M:Pm)(m gn:Nat)(ln:Nat->Nat)(a:Nat->Nat->Rat)(b g:Nat->Rat):Fct where
 p h:=(slC M.lv m 5 (pcell M.av M.mb)).p h/\(∀i,i<m->(fF (M.av i) (ln i) (M.ma i) (a i)).p h)/\(mF m M.mb b).p h/\(fF M.gv gn M.mg g).p h
 mono _ _ hl hp:=⟨(slC _ _ _ _).mono _ _ hl hp.1,λi hi=>(fF _ _ _ _).mono _ _ hl (hp.2.1 i hi),(mF _ _ _).mono _ _ hl hp.2.2.1,(fF _ _ _ _).mono _ _ hl hp.2.2.2⟩
abbrev fP(M:Pm)(p:X.Lp):Fct:=fPg M p.m p.v (λ_=>p.v) p.a p.b p.g
abbrev pcs(M:Pm)(v:Int):List Value:=[.int .i64 v,M.lv,M.gv]
abbrev pgv(M:Pm)(v:Int):Value:=.agg #[.int .i64 v,M.lv,M.gv]
section
variable {P:Program}{e:Env}{bx:List Ow}{F:List Fct}{ty t:TypeId}{x:Operand}{M:Pm}{m gn i:Nat}{ln:Nat->Nat}{a:Nat->Nat->Rat}{b g:Nat->Rat}
def W.Has.pl(h:Has F (fPg M m gn ln a b g)):Has F (slC M.lv m 5 (pcell M.av M.mb)):=λp hf=>(h p hf).1
def W.Has.pa(h:Has F (fPg M m gn ln a b g))(hi:i<m):Has F (fF (M.av i) (ln i) (M.ma i) (a i)):=λp hf=>(h p hf).2.1 i hi
def W.Has.pb(h:Has F (fPg M m gn ln a b g)):Has F (mF m M.mb b):=λp hf=>(h p hf).2.2.1
def W.Has.pbq(h:Has F (fPg M m gn ln a b g))(hi:i<m):Has F (isQ (qv (M.mb i)) (b i)):=W.Has.q h.pb hi
def W.Has.pg(h:Has F (fPg M m gn ln a b g)):Has F (fF M.gv gn M.mg g):=λp hf=>(h p hf).2.2.2
def KnS.pl(h:Has F (fPg M m gn ln a b g)):KnS bx F M.lv m:=KnS.f h.pl
def YO.ldPl(hs:Row P t 5)(hx:ev e x=some (.pointer (some (eaddr M.lv (i*5)))))(h:Has F (fPg M m gn ln a b g))(hi:i<m):YO P (.load t x) ty e bx F (.agg #[M.av i,.bool (M.mb i).1,(M.mb i).2.1,.bool false,(M.mb i).2.2]):=
 YO.ldRS (us:=M.av i::qcs (M.mb i)) hs hx h.pl qo rfl λk hk=>by
  rw[US _ _ _ hk];match k,hk with|0,_=>rfl|1,_=>rfl|2,_=>rfl|3,_=>rfl|4,_=>rfl
def YO.buildTb{x y z:Operand}{i j k:Int}(h1:ev e x=some (.int .i64 i))(h2:ev e y=some (.int .i64 j))(h3:ev e z=some (.int .i64 k)):YO Tryz.prog (.build 177 #[(0,x),(1,y),(2,z)]) ty e bx F (.agg #[.int .i64 i,.int .i64 j,.int .i64 k,.slice none 0 0,.slice none 0 0,.slice none 0 0]):=YO.build (parts:=[(0,x),(1,y),(2,z)]) (.cons h1 (.cons h2 (.cons h3 .nil))) λw=>run_build w 177 _ _ kr
def LO.bsV1{w:Value}{n:Nat}{K:Qg}(hx:ev e x=some w)(kd:KnS bx F w n)(h:∀v,K v (Ow.slice v 61 1 [w]::bx) F):LO Tryz.prog (.buildSlice 175 1 #[(0,x)]) ty e bx F K:=by
 refine LO.byP (p:=∃a c,w=.slice a n c) (λfr w ho=>by obtain⟨a,c,h1,_⟩:=(kd fr w ho).is;exact⟨a,c,h1⟩) ?_;rintro⟨a,c,rfl⟩;exact LO.buildSlice (parts:=[(0,x)]) (us:=[.slice a n c]) (cs:=[.slice a n c]) (.cons hx .nil) (λ_=>by kernel_rfl) rfl qd h
def fnV_app{n:Nat}{f:Nat->Value}{w:Value}:fnV n f++[w]=fnV (n+1) (upd f n w):=by
 unfold fnV;rw[List.range_succ,List.map_append]
 congr 1
 ·exact List.map_congr_left λj hj=>(upd_ne (by have:=List.mem_range.1 hj;omega)).symm
 ·simp[QB]
def fnL_app{n:Nat}{f:Nat->Nat}{c:Nat}:ints (fnL n f)++[.int .i64 (c:Int)]=ints (fnL (n+1) (upd f n c)):=by
 unfold fnL ints;rw[List.range_succ,List.map_append,List.map_append]
 congr 1
 ·rw[List.map_map,List.map_map]
  exact List.map_congr_left λj hj=>by
   show Value.int .i64 ((f j:Nat):Int)=Value.int .i64 ((upd f n c j:Nat):Int);rw[upd_ne (by have:=List.mem_range.1 hj;omega)]
 ·simp[QB]
def LO.appVV{el':TypeId}{bx2:Value->List Ow}{y:Operand}{u v w:Value}{n:Nat}{f:Nat->Value}{K:Qg}(hx:ev e x=some v)(hy:ev e y=some u)(hu:Ow.slice u el' 1 [w]∈bx)(hm:One bx F w)(hs:∀v',Sel bx (.slice v 61 1 (fnV n f)) (.slice v' 61 1 (fnV (n+1) (upd f n w))) (bx2 v'))(hl:n<=1000000)(h:∀v',K v' (bx2 v') F) :
  LO Tryz.prog (.call {callee:=.builtin .append,args:=#[x,y],argTypes:=#[175,175]}) ty e bx F K:=by
 refine LO.byP (λfr w ho=>(hm fr w ho).2) λh1=>?_;exact LO.append T.e175 hx hy (news:=[w]) (by rw[fnV_app];exact hs) (Qa.one hu rfl qd) (by simpa using h1) (by rw[ZE];show(n+1)*24<=_;omega) (by rw[ZE];show n+1<=_;omega) h
def LO.appNN{el':TypeId}{bx2:Value->List Ow}{y:Operand}{u v:Value}{n c:Nat}{f:Nat->Nat}{K:Qg}(hx:ev e x=some v)(hy:ev e y=some u)(hu:Ow.slice u el' 1 [.int .i64 (c:Int)]∈bx)(hs:∀v',Sel bx (.slice v 3 1 (ints (fnL n f))) (.slice v' 3 1 (ints (fnL (n+1) (upd f n c)))) (bx2 v'))(hl:n<=1000000)(h:∀v',K v' (bx2 v') F) :
  LO Tryz.prog (.call {callee:=.builtin .append,args:=#[x,y],argTypes:=#[28,28]}) ty e bx F K:=by
 have hll:(ints (fnL n f)).length=n:=by simp[fnL]
 exact LO.append T.e28 hx hy (news:=[.int .i64 (c:Int)]) (by rw[fnL_app];exact hs) (Qa.one hu rfl qd) (by simp[Value.oneCell']) (by rw[hll];show(n+1)*8<=_;omega) (by rw[hll];show n+1<=_;omega) h
end
def ex_cons{bx bx' B:List Ow}{b:Ow}(h1:bx.Perm (b::bx'))(h2:∃r,bx'.Perm (B++r)):∃r,bx.Perm ((b::B)++r):=by
 obtain⟨r,h2⟩:=h2;exact⟨r,h1.trans (h2.cons b)⟩
def QU(l:List Ow){R:List Ow}:∃r,(l++R).Perm (R++r):=⟨l,List.perm_append_comm⟩
def rows_app{m w:Nat}{rv:Nat->Value}{ms:Nat->Nat->QM}{l:Value}{mx:Nat->QM}:(JB (m+1) w (upd rv m l) (upd ms m mx)).Perm (XW w l mx::JB m w rv ms):=by
 unfold JB U5;rw[List.range_succ,List.map_append];refine List.perm_append_comm.trans ?_;show(XW w (upd rv m l m) (upd ms m mx m)::_).Perm _;rw[QB,QB];refine List.Perm.cons _ (List.Perm.of_eq ?_);refine List.map_congr_left λj hj=>?_;have:=List.mem_range.1 hj;rw[upd_ne qo,upd_ne qo]
def ex_row{m w:Nat}{rv:Nat->Value}{ms:Nat->Nat->QM}{l:Value}{mx:Nat->QM}{bx bx':List Ow}(h1:bx.Perm (XW w l mx::bx'))(h2:∃r,bx'.Perm (JB m w rv ms++r)):∃r,bx.Perm (JB (m+1) w (upd rv m l) (upd ms m mx)++r):=by
 obtain⟨r,h2⟩:=h2;exact⟨r,(h1.trans (h2.cons _)).trans (rows_app.symm.append_right r)⟩
def IsPut(g8 g7:Nat)(neg:Bool)(l:Value)(w k:Nat)(ms:Nat->QM)(q:Rat):Qg:=λv B G=>∃m',v=.tuple #[]/\B=[Ow.cells g8 4 [.bool neg],Ow.cells g7 61 [l],XW w l (upd ms k m')]/\G=[isQ (qv m') (if neg=true then -q else q)]
namespace Z
attribute [local irreducible] WC WL WD YO LO Qq W.Fin Qk Qw Qj Row QJ Qv KnS Has W.One Qa Qs
def put_c(g8 g7:Nat)(neg:Bool)(l:Value)(w k:Nat)(ms:Nat->QM)(mv:QM)(q:Rat)(hk:k<w):FnB Tryz.prog 189 [.int .i64 (k:Int),qv mv,ptr g8,ptr g7] [Ow.cells g8 4 [.bool neg],Ow.cells g7 61 [l],XW w l ms] [isQ (qv mv) q] (IsPut g8 g7 neg l w k ms q):=by
 refine fO [(0,(.int .i64 (k:Int))),(1,(qv mv)),(2,(ptr g8)),(3,(ptr g7))] 13 Tryz.func189 Tryz.ntmps189 λh0=>?_;repeat'(first|intro(g:Nat)|refine gA ?_|intro v)
 cases neg with
 |true=>
  repeat'(first|intro(g:Nat)|refine gA ?_|intro v)
  refine cW (Zn.neg (m1:=mv) (a:=q)) λm2=>?_;repeat'(first|intro(g:Nat)|refine gA ?_|intro v)
  exact Fin.p [_,_,_] [isQ (qv m2) (-q)] (Qh.t0 rfl) meA slA haA ⟨m2,rfl,rfl,rfl⟩
 |false=>
  repeat'(first|intro(g:Nat)|refine gA ?_|intro v)
  exact Fin.p [_,_,_] [isQ (qv mv) q] (Qh.t0 rfl) meA slA haA ⟨mv,rfl,rfl,rfl⟩
end Z
end
section
open W Go.RowKit
def ptx(vars:Nat)(val:Nat->Rat)(k j:Nat):Rat:=if j<k then val j-val (vars+j) else 0
def ptx_up{vars:Nat}{val:Nat->Rat}{k:Nat}(i:Nat):upd (ptx vars val k) k (val k-val (vars+k)) i=ptx vars val (k+1) i:=by
 unfold ptx upd;by_cases c:i=k
 ·subst c;simp
 ·by_cases c2:i<k
  ·simp[c,c2,show i<k+1 by omega]
  ·simp[c,c2,show ¬i<k+1 by omega]
def hasB_row{bx:List Ow}{F:List Fct}{m w i hi:Nat}{v:Value}{ms:Nat->Nat->QM}{t:Nat->Nat->Rat}(hb:XW w v (ms i)∈bx)(hm:Has F (mT m w ms t))(hi':i<m)(h:hi<=w):Qm bx F (fF (resl v 0 hi 4) hi (ms i) (t i)):=λfr w' ho=>by
 have h1:=Qm.fF (bx:=bx) (F:=F) hb (hm.tm hi') fr w' ho;have h2:=YM h1.1 (Nat.zero_le hi) h;refine⟨?_,λk hk=>h1.2 k qo⟩;simpa using h2
namespace Z
attribute [local irreducible] WC WL WD YO LO Qq W.Fin Qk Qw Qj Row QJ Qv KnS Has W.One Qa Qs
def d121{G G':Prop}(h:G')(s:Bx G'->G:=by
 intro h;first|refine gB ?_|(apply WC.draw (id:=5) [0,1,2,3,5,6,7,8,9,10,11,14] (.h 0<|.h 1<|.h 2<|.h 3<|.h 5<|.h 6<|.h 7<|.h 8<|.h 9<|.h 10<|.h 11<|.l 4<|.l 12<|.l 13<|.h 14<|.l 15 .done) mixed kr)|fail
 exact Bx.h h):G:=s ⟨h⟩
def H7(xg vars K:Nat)(r2 r3 tv cv bv:Value)(f:FuncId)(first cap:List Value)(Fc:List Fct)(val:Nat->Rat)(hv:vars<=1000)(hK:K<=100000000)
  (hf:∀k:Nat,k<2*vars->FnB Tryz.prog f (first++[.int .i64 (k:Int)]++cap) [] Fc (IsR (val k))) (hq:∀k,k<2*vars->Sq K (val k)) :
  FnB Tryz.prog 121 [ptr xg,.func (.func f) first.toArray cap.toArray] [] (ce xg 177 [.int .i64 (vars:Int),r2,r3,tv,cv,bv]::Fc) (IsF vars (λk=>val k-val (vars+k))):=by
 refine fO [(0,(ptr xg)),(1,(.func (.func f) first.toArray cap.toArray))] 34 Tryz.func121 Tryz.ntmps121 λh0=>?_;repeat'(first|intro(g:Nat)|refine d121 ?_|intro v)
 revert v;intro ov
 refine WC.lp (σ:=Nat×(Nat->QM)) (λst=>[(14,.int .i64 (st.1:Int)),(13,.int .i64 (vars:Int)),(5,ov),(0,ptr xg),(1,.func (.func f) first.toArray cap.toArray)]) (λst=>[Ow.slice ov 75 4 (Qe vars st.2)])
  (λst=>mF vars st.2 (ptx vars val st.1)::ge h0::ce xg 177 [.int .i64 (vars:Int),r2,r3,tv,cv,bv]::Fc) (λst=>st.1<=vars) (λst=>vars-st.1) (0,λ_=>m00) (Nat.zero_le _) ?_ (hG:=.cons ((W.Has.mF0 vars).QH λi _=>by simp[ptx]) (.cons hmA (.cons hmA (Qu.tail λ_ h=>by(repeat(first|exact h|apply List.mem_cons_of_mem))))))
 rintro⟨k,mx⟩ hk;simp only at hk ⊢;by_cases c:k<vars
 ·repeat'(first|intro(g:Nat)|refine d121 ?_|intro v)
  refine WD.J9 first cap (vs:=[.int .i64 (k:Int)]) (hf k qo) ?_ (hF:=Qu.tail λ_ h=>by(repeat(first|exact h|apply List.mem_cons_of_mem)))
  rintro _ _ _ ⟨m1,rfl,rfl,rfl⟩;refine sNn ?_;repeat'(first|intro(g:Nat)|refine d121 ?_|intro v)
  refine WD.J9 first cap (vs:=[.int .i64 ((vars+k:Nat):Int)]) (hf (vars+k) qo) ?_ (hF:=Qu.tail λ_ h=>by(repeat(first|exact h|apply List.mem_cons_of_mem)))
  rintro _ _ _ ⟨m2,rfl,rfl,rfl⟩;refine sNn ?_;repeat'(first|intro(g:Nat)|refine d121 ?_|intro v)
  refine cW (Zn.sub m1 m2 (val k) (val (vars+k)) ((hq k qo).sm qo) ((hq (vars+k) qo).sm qo)) λm3=>?_;refine WD.fact (mF vars (upd mx k m3) (ptx vars val (k+1))) ((W.Has.JL (k:=k) (ms:=mx) (m:=m3) (qf:=ptx vars val k) hmA hmA).QH λi _=>ptx_up i) ?_;repeat'(first|intro(g:Nat)|refine d121 ?_|intro v)
  exact Qq.mk (k+1,_) (by show k+1<=vars;omega) (by show vars-(k+1)<vars-k;omega) (hG:=.cons hmA (.cons hmA (.cons hmA (Qu.tail λ_ h=>by(repeat(first|exact h|apply List.mem_cons_of_mem))))))
 ·obtain rfl:vars=k:=qo;repeat'(first|intro(g:Nat)|refine d121 ?_|intro v)
  refine WC.JP ov vars mx (λk=>val k-val (vars+k)) (by repeat(first|exact Sel.head|apply Sel.tail)) (W.Has.QH (qf:=ptx vars val vars) hmA λi hi=>by simp[ptx,hi]) ?_;refine WC.ret ?_;exact Fp [fF ov vars mx (λk=>val k-val (vars+k))] (Qh.t1 rfl rfl) haA ⟨mx,rfl,rfl⟩
def nonzero_c(m1:QM)(q:Rat)(Fc:List Fct):FnB Tryz.prog 196 [qv m1] [] (isQ (qv m1) q::Fc) (IsV (.bool (decide (q≠0)))):=by
 refine fO [(0,(qv m1))] 6 Tryz.func196 Tryz.ntmps196 λh0=>?_;repeat'(first|intro(g:Nat)|refine gA ?_|intro v)
 refine cV (Zn.sign m1 q) ?_;by_cases c:q=0
 ·have h:=JO.2 c;repeat'(first|intro(g:Nat)|refine gA ?_|intro v)
  refine WC.ret ?_;exact Fin.v (Qh.t1 rfl rfl) meA (by rw[decide_eq_false (λh=>h c)])
 ·have h:¬sgn q.num=0:=λh=>c (JO.1 h);repeat'(first|intro(g:Nat)|refine gA ?_|intro v)
  refine WC.ret ?_;exact Fin.v (Qh.t1 rfl rfl) meA (by rw[decide_eq_true c])
end Z
end
section
open W Go.RowKit
namespace Z
attribute [local irreducible] WC WL WD YO LO Qq W.Fin Qk Qw Qj Row QJ Qv KnS Has W.One Qa Qs
def cost1_c(g6 k:Nat)(last:Nat):FnB Tryz.prog 115 [.int .i64 (k:Int),ptr g6] [] [ce g6 3 [.int .i64 (last:Int)]] (IsR (if last<=k then 1 else 0)):=by
 refine fO [(0,(.int .i64 (k:Int))),(1,(ptr g6))] 9 Tryz.func115 Tryz.ntmps115 λh0=>?_;by_cases c:last<=k
 ·rw[if_pos c];repeat'(first|intro(g:Nat)|refine gA ?_|intro v)
  refine cW (Zn.of 1 1 qd qd) λm1=>?_;rw[show Rat.divInt 1 1=1 by decide +kernel];repeat'(first|intro(g:Nat)|refine gA ?_|intro v)
  refine WC.ret ?_;exact Fp [isQ (qv m1) 1] (rcV T.r75) haA ⟨m1,rfl,rfl,rfl⟩
 ·rw[if_neg c];repeat'(first|intro(g:Nat)|refine gA ?_|intro v)
  refine WC.ret ?_;exact Fp [isQ (qv m00) 0] (rcV T.r75) (.cons Jm .nil) ⟨m00,rfl,rfl,rfl⟩
def cost2_c(M:Pm)(p:X.Lp)(gp k:Nat)(hv:p.v<=1000):FnB Tryz.prog 119 [.int .i64 (k:Int),ptr gp] [] [ce gp 118 (pcs M p.v),fP M p] (IsR (p.c2 k)):=by
 refine fO [(0,(.int .i64 (k:Int))),(1,(ptr gp))] 30 Tryz.func119 Tryz.ntmps119 λh0=>?_;refine WC.fact (fF M.gv p.v M.mg p.g) (W.Has.pg (M:=M) (m:=p.m) (gn:=p.v) (ln:=λ_=>p.v) (a:=p.a) (b:=p.b) (g:=p.g) hmA) ?_;unfold X.Lp.c2;by_cases c:k<p.v
 ·rw[if_pos c];refine WC.fact (isQ (qv (M.mg k)) (p.g k)) (W.Has.q (W.Has.fm (v:=M.gv) hmA) c) ?_;repeat'(first|intro(g:Nat)|refine gA ?_|intro v)
  refine cW (Zn.neg (m1:=M.mg k) (a:=p.g k)) λm1=>?_;repeat'(first|intro(g:Nat)|refine gA ?_|intro v)
  refine WC.ret ?_;exact Fp [isQ (qv m1) (-(p.g k))] (rcV T.r75) haA ⟨m1,rfl,rfl,rfl⟩
 ·rw[if_neg c];by_cases c2:k<2*p.v
  ·rw[if_pos c2];have he:((k:Int)-(p.v:Int)).toNat=k-p.v:=qo;refine WC.fact (isQ (qv (M.mg ((k:Int)-(p.v:Int)).toNat)) (p.g (k-p.v))) (by rw[he];exact W.Has.q (W.Has.fm (v:=M.gv) hmA) qo) ?_;repeat'(first|intro(g:Nat)|refine gA ?_|intro v)
   refine WC.ret ?_;exact Fp [isQ (qv (M.mg ((k:Int)-(p.v:Int)).toNat)) (p.g (k-p.v))] (rcV T.r75) haA ⟨_,rfl,rfl,rfl⟩
  ·rw[if_neg c2];repeat'(first|intro(g:Nat)|refine gA ?_|intro v)
   refine WC.ret ?_;exact Fp [isQ (qv m00) 0] (rcV T.r75) (.cons Jm .nil) ⟨m00,rfl,rfl,rfl⟩
def rayf_c(g5 g7 xg vars m n k col:Nat)(tv cv bv:Value)(rv:Nat->Value)(ms:Nat->Nat->QM)(s:X.St)(hcol:col<n) :
  FnB Tryz.prog 122 [.int .i64 (k:Int),ptr g5,ptr g7] [] (ce g5 173 [ptr xg]::ce g7 3 [.int .i64 (col:Int)]::TF xg vars m n tv cv bv rv ms s) (IsR (Zq m s col k)):=by
 refine fO [(0,(.int .i64 (k:Int))),(1,(ptr g5)),(2,(ptr g7))] 9 Tryz.func122 Tryz.ntmps122 λh0=>?_;repeat'(first|intro(g:Nat)|refine gA ?_|intro v)
 refine cW (ray_c xg vars m n k col tv cv bv rv ms s hcol) λm1=>?_;repeat'(first|intro(g:Nat)|refine gA ?_|intro v)
 refine WC.ret ?_;exact Fp [isQ (qv m1) (Zq m s col k)] (rcV T.r75) haA ⟨m1,rfl,rfl,rfl⟩
end Z
end
section
open W Go.RowKit
namespace Z
attribute [local irreducible] WC WL WD YO LO Qq W.Fin Qk Qw Qj Row QJ Qv KnS Has W.One Qa Qs
def drive_c(xg vars m n last K:Nat)(tv cv bv:Value)(rv:Nat->Value)(ms0:Nat->Nat->QM)(mc0:Nat->QM)(s:X.St)(hl:last<=n)(hm:m<=1000)(hn:n<=10000)(hK:K<=20000000)(hK0:0<K)
  (hs:∀i,i<=m->∀r,r<m->∀k,k<n+1->Sq K ((X.drP last s i).t r k)) (hc:∀i,i<=m->∀k,k<n+1->Sq K ((X.drP last s i).c k)) :
  FnB Tryz.prog 118 [ptr xg,.int .i64 (last:Int)] (TB xg vars m n tv cv bv rv ms0 mc0 s.b) [mT m (n+1) ms0 s.t,mF (n+1) mc0 s.c] (IsTB xg vars m n tv cv bv rv (X.drP last s m)):=by
 refine fO [(0,(ptr xg)),(1,(.int .i64 (last:Int)))] 37 Tryz.func118 Tryz.ntmps118 λh0=>?_;repeat'(first|intro(g:Nat)|refine gA ?_|intro v)
 refine WC.lpP (σ:=Nat×(Nat->Nat->QM)×(Nat->QM)) (λst=>[(12,.int .i64 (st.1:Int)),(11,.int .i64 (m:Int)),(10,bv),(0,ptr xg),(1,.int .i64 (last:Int))])
  (λst=>TB xg vars m n tv cv bv rv st.2.1 st.2.2 (X.drP last s st.1).b) (λst=>[mT m (n+1) st.2.1 (X.drP last s st.1).t,mF (n+1) st.2.2 (X.drP last s st.1).c,ge h0]) (λst=>st.1<=m) (λst=>m-st.1) (0,ms0,mc0) (Nat.zero_le _) ?_
 rintro⟨i,ms,mc⟩ hi;simp only at hi ⊢;by_cases c:i<m
 ·have hsi:=hs i hi;have hci:=hc i hi;have e1:X.drP last s (i+1)=X.drS last (X.drP last s i) i:=rfl;generalize X.drP last s i=D at *;by_cases cb:D.b i<last
  ·have e2:X.drP last s (i+1)=D:=by rw[e1,X.drS,if_pos cb]
   repeat'(first|intro(g:Nat)|refine gA ?_|intro v)
   exact J7.mk (i+1,ms,mc) (by show i+1<=m;omega) (by show m-(i+1)<m-i;omega) [] (by rw[e2,List.append_nil]) (hG:=by rw[e2];exact .cons hmA (.cons hmA (.cons hmA .nil)))
  ·refine WC.perm (Ow.cells xg 177 [.int .i64 (vars:Int),.int .i64 (m:Int),.int .i64 (n:Int),tv,cv,bv]::Ow.slice tv 61 1 (fnV m rv)::Ow.slice cv 75 4 (Qe (n+1) mc)::Ow.slice bv 3 1 (ints (fnL m D.b))::XW (n+1) (rv i) (ms i)::Zy m (n+1) rv ms i) ((((((JM c).cons _).cons _).cons _).cons _)) ?_;repeat'(first|intro(g:Nat)|refine gA ?_|intro v)
   refine WL.Yv (indexF_c (resl (rv i) 0 last 4) last (ms i) (D.t i) 196 [] [] [] (λk=>decide (D.t i k≠0)) (λk _=>nonzero_c (ms i k) (D.t i k) [])) ?_ (hF:=.cons (hasB_row (t:=D.t) (m:=m) (ms:=ms) meA hmA c qo) .nil);cases hf:X.fstT (λk=>decide (D.t i k≠0)) last 0 with
   |none=>
    have e2:X.drP last s (i+1)=D:=by rw[e1,X.drS,if_neg cb,hf]
    rw[show Xt none= -1 from rfl];repeat'(first|intro(g:Nat)|refine gA ?_|intro v)
    exact J7.mk (i+1,ms,mc) (by show i+1<=m;omega) (by show m-(i+1)<m-i;omega) [] (by rw[e2,List.append_nil];exact(((((JM c).cons _).cons _).cons _).cons _).symm) (hG:=by rw[e2];exact .cons hmA (.cons hmA (.cons hmA .nil)))
   |some k=>
    have hk:=ZB hf;have e2:X.drP last s (i+1)=X.pv D i k:=by rw[e1,X.drS,if_neg cb,hf]
    rw[show Xt (some k)=(k:Int) from rfl];repeat'(first|intro(g:Nat)|refine gA ?_|intro v)
    refine WL.YZ (TB xg vars m n tv cv bv rv ms mc D.b) [] (by rw[List.append_nil];exact(((((JM c).cons _).cons _).cons _).cons _).symm) (pivot_c xg vars m n tv cv bv rv ms mc D i k K c qo hm hn hK hK0 hsi hci) ?_;rintro _ _ _ ⟨ms2,mc2,rfl,rfl,rfl⟩;repeat'(first|intro(g:Nat)|refine gA ?_|intro v)
    exact J7.mk (i+1,ms2,mc2) (by show i+1<=m;omega) (by show m-(i+1)<m-i;omega) [] (by rw[e2]) (hG:=by rw[e2];exact .cons hmA (.cons hmA (.cons hmA .nil)))
 ·obtain rfl:m=i:=qo;repeat'(first|intro(g:Nat)|refine gA ?_|intro v)
  exact Fin.p (TB xg vars m n tv cv bv rv ms mc (X.drP last s m).b) [mT m (n+1) ms (X.drP last s m).t,mF (n+1) mc (X.drP last s m).c] (Qh.t0 rfl) meA (List.Sublist.refl _) haA ⟨ms,mc,rfl,rfl,rfl⟩
end Z
end
section
open W Go.RowKit
namespace Z
attribute [local irreducible] WC WL WD YO LO Qq W.Fin Qk Qw Qj Row QJ Qv KnS Has W.One Qa Qs
attribute [local irreducible] WX Ul
def entering_c(l:Nat)(r:Loop)(gb gx g5 g4 g2 xg vars m n:Nat)(b5 v4:Value)(tv cv bv:Value)(rv:Nat->Value)(ms:Nat->Nat->QM)(mc:Nat->QM)(tt:Nat->Nat->Rat)(c:Nat->Rat)(bb:Nat->Nat)(e:Nat)(he:e<=n)(hw:n<=100000)(hx:PH)(X:Nat->Code->List Ow->List Fct->Prop)
  (hY:∀k,k<e->c k<0->(∀j,j<k->¬c j<0)->Ul Tryz.prog l r (.int .i64 (k:Int)) (Ow.cells gb 3 [.int .i64 (e:Int)]::Ow.cells gx 173 [ptr xg]::Ow.cells g5 4 [b5]::Ow.cells g4 3 [v4]::Ow.cells g2 173 [ptr xg]::TB xg vars m n tv cv bv rv ms mc bb) [mT m (n+1) ms tt,mF (n+1) mc c,ge hx] (X k)) :
  FnB Tryz.prog 220 [.func (.yield l) #[] #[],ptr gb,ptr gx] (Ow.obj l (.loop r)::Ow.cells gb 3 [.int .i64 (e:Int)]::Ow.cells gx 173 [ptr xg]::Ow.cells g5 4 [b5]::Ow.cells g4 3 [v4]::Ow.cells g2 173 [ptr xg]::TB xg vars m n tv cv bv rv ms mc bb) [mT m (n+1) ms tt,mF (n+1) mc c,ge hx]
   (RgP l r (λbx' G=>(∀j,j<e->¬c j<0)/\bx'=Ow.cells gb 3 [.int .i64 (e:Int)]::Ow.cells gx 173 [ptr xg]::Ow.cells g5 4 [b5]::Ow.cells g4 3 [v4]::Ow.cells g2 173 [ptr xg]::TB xg vars m n tv cv bv rv ms mc bb/\G=[]) (λcd bx' G=>∃k,k<e/\c k<0/\(∀j,j<k->¬c j<0)/\X k cd bx' G)):=by
 refine HG [(0,(.func (.yield l) #[] #[])),(1,(ptr gb)),(2,(ptr gx))] 25 Tryz.func220 rfl Tryz.ntmps220 kr rfl suA λh0=>?_;refine WX.seq ?_;refine WX.region ?_;repeat'(first|intro(g:Nat)|refine gA ?_|intro v)
 refine WX.block ?_;refine WX.loop (σ:=Nat) (λk=>[(6,.int .i64 (k:Int)),(5,.int .i64 (e:Int)),(0,.func (.yield l) #[] #[]),(1,ptr gb),(2,ptr gx)]) (λ_=>Ow.obj l (.loop r)::Ow.cells gb 3 [.int .i64 (e:Int)]::Ow.cells gx 173 [ptr xg]::Ow.cells g5 4 [b5]::Ow.cells g4 3 [v4]::Ow.cells g2 173 [ptr xg]::TB xg vars m n tv cv bv rv ms mc bb) (λk=>ge h0::mT m (n+1) ms tt::mF (n+1) mc c::ge hx::[]) (λk=>k<=e/\∀j,j<k->¬c j<0) (λk=>e-k) ?_ 0 ⟨Nat.zero_le _,λj h=>by omega⟩ suA slA sfA;rintro k ⟨hk,hno⟩;refine WX.seq ?_;refine WX.region ?_;by_cases ck:k<e
 ·repeat'(first|intro(g:Nat)|refine gA ?_|intro v)
  refine WX.seq ?_;refine WX.cond (b:=true) rfl ?_;rw[if_pos rfl];refine WX.skip ?_;refine WX.seq ?_;refine WX.block ?_;refine WX.seq ?_;refine WX.region ?_;repeat'(first|intro(g:Nat)|refine gA ?_|intro v)
  refine WX.seq ?_;by_cases hc:c k<0
  ·have hq:sgn (c k).num<0:=Xn.2 hc;refine WX.region ?_;refine WL.QE (isQ (qv (mc k)) (c k)) (W.Has.q hmA qo) ?_;repeat'(first|intro(g:Nat)|refine gA ?_|intro v)
   refine cV (Zn.sign (mc k) (c k)) ?_;repeat'(first|intro(g:Nat)|refine gA ?_|intro v)
   refine WL.l rfl rfl (LO.yield (hY k ck hc hno) rfl rfl (F0:=_) (λf hf=>?_) λcd bx' G hX=>?_)
   ·simp only[List.mem_cons,List.not_mem_nil,or_false] at hf;rcases hf with rfl|rfl|rfl
    ·exact hmA
    ·exact hmA
    ·exact hmA
   repeat'(first|intro(g:Nat)|refine gA ?_|intro v)
   refine WX.cond (b:=true) rfl ?_;rw[if_pos rfl];refine WX.ret ?_;exact W.Fin.p _ G (Qh.t0 rfl) (List.mem_append_right _ meA) (List.Sublist.refl _) (W.Qu.of λf hf=>Has.mem (List.mem_append_left _ hf)) (.inr ⟨cd,bx',rfl,k,ck,hc,hno,hX⟩)
  ·refine WX.region ?_;have hq:¬sgn (c k).num<0:=λh=>hc (Xn.1 h);refine WL.QE (isQ (qv (mc k)) (c k)) (W.Has.q hmA qo) ?_;repeat'(first|intro(g:Nat)|refine gA ?_|intro v)
   refine cV (Zn.sign (mc k) (c k)) ?_;repeat'(first|intro(g:Nat)|refine gA ?_|intro v)
   refine WX.cond (b:=false) rfl ?_;rw[if_neg qd];refine WX.skip ?_;refine WX.region ?_;repeat'(first|intro(g:Nat)|refine gA ?_|intro v)
   exact⟨k+1,⟨⟨by omega,λj hj=>by
    by_cases h:j=k
    ·subst h;exact hc
    ·exact hno j qo⟩,by show e-(k+1)<e-k;omega⟩,suA,slA,sfA⟩
 ·obtain rfl:k=e:=qo;repeat'(first|intro(g:Nat)|refine gA ?_|intro v)
  refine WX.seq ?_;refine WX.cond (b:=false) rfl ?_;rw[if_neg qd];refine WX.exit ?_;exact W.Fin.p _ [] (Qh.t0 rfl) meA (List.Sublist.refl _) .nil (.inl ⟨_,rfl,hno,rfl,rfl⟩)
end Z
end
section
open W Go.RowKit
def Qh.c1{P:Program}{e:Env}{bx:List Ow}{F:List Fct}{fn:Func}{t:Tmp}{ty:TypeId}{g tg:Nat}{v:Value}(h:fn.results=#[.cell t ty])(hl:W.look e t=some (.pointer (some ⟨g,0,none⟩)))(hb:Ow.cells g tg [v]∈bx)(hr:Qk P ty):Qh P fn e bx F v:=λn fr a w hk ho=>by
 have h1:a.tmps[t]?.getD undef=.pointer (some ⟨g,0,none⟩):=by rw[hk.at' _ _ hl];rfl
 have hc:w.cell? ⟨g,0,none⟩=some v:=by rw[Jz (ho.owns _ hb)];rfl
 have h2:=run_ld (P:=P) (w:=w) (b:=g) (o:=0) (v:=v) hr hc;have hg:fr.own g:=(ho.apart g (Jd.2 ⟨_,hb,by simp[Ow.ids]⟩)).1
 have h4:(results fn a.tmps).events P w #[]=#[⟨.cell ⟨g,0,none⟩,false,false⟩]:=by
  simp only[results,h];simp[h1,asAddr,h2,ev_ld hr hc]
 refine⟨?_,λev he=>?_⟩
 ·simp only[results,h];simp[h1,asAddr,h2]
 ·rw[h4] at he;simp at he;subst he;exact .inl ⟨_,rfl,.inl hg⟩
def IsEn(f:FuncId)(xg e:Nat):Qg:=λv B G=>∃ga gb,v=.func (.func f) #[] #[ptr gb,ptr ga]/\B=[Ow.cells gb 3 [.int .i64 (e:Int)],Ow.cells ga 173 [ptr xg]]/\G=[]
def IsRn(xg vars m n:Nat)(tv cv bv:Value)(rv:Nat->Value)(R:X.St×Option Nat):Qg:=λv B G=>∃ms mc,v=.int .i64 (Xt R.2)/\B=TB xg vars m n tv cv bv rv ms mc R.1.b/\G=[mT m (n+1) ms R.1.t,mF (n+1) mc R.1.c]
structure RS where
 g5:Nat
 ag:Bool
 ms:Nat->Nat->QM
 mc:Nat->QM
 s:X.St
 f:Nat
def ent_of{s:X.St}{e k:Nat}(hk:k<e)(hc:s.c k<0)(hn:∀j,j<k->¬s.c j<0):X.ent s e=some k:=by
 rcases X.XO s e with ⟨_,h2⟩|⟨j,h2,h3,h4,h5⟩
 ·have:=h2 k hk;grind
 ·have:j=k:=by
   by_cases c1:j<k
   ·exact absurd h4 (hn j c1)
   ·by_cases c2:k<j
    ·have:=h5 k c2;grind
    ·omega
  rw[h2,this]
def ent_no{s:X.St}{e:Nat}(h:∀j,j<e->¬s.c j<0):X.ent s e=none:=by
 rcases X.XO s e with ⟨h2,_⟩|⟨j,h2,h3,h4,h5⟩
 ·exact h2
 ·exact absurd h4 (h j h3)
namespace Z
attribute [local irreducible] WC WL WD YO LO Qq W.Fin Qk Qw Qj Row QJ Qv KnS Has W.One Qa Qs
def entering_o(xg e:Nat):FnB Tryz.prog 191 [ptr xg,.int .i64 (e:Int)] [] [] (IsEn 220 xg e):=by
 refine fO [(0,(ptr xg)),(1,(.int .i64 (e:Int)))] 6 Tryz.func191 Tryz.ntmps191 λh0=>?_;repeat'(first|intro(g:Nat)|refine gA ?_|intro v)
 refine WC.ret ?_;exact Fin.p [_,_] [] (Qh.t1 rfl rfl) meA (List.Sublist.refl _) .nil ⟨_,_,rfl,rfl,rfl⟩
attribute [local irreducible] WX Ul
def run_c(xg vars m n e K f:Nat)(tv cv bv:Value)(rv:Nat->Value)(ms:Nat->Nat->QM)(mc:Nat->QM)(s:X.St)(R:X.St×Option Nat)(he:e<=n)(hm:m<=1000)(hn:n<=10000)(hK:K<=20000000)(hK0:0<K)
  (hrun:X.runP m n e f s=some R) (I:X.St->Prop) (hI0:I s) (hI:∀u k r,I u->X.ent u e=some k->X.lev n u k m=some r->I (X.pv u r k))
  (hS:∀u,I u->(∀i,i<m->∀k,k<n+1->Sq K (u.t i k))/\∀k,k<n+1->Sq K (u.c k)) :
  FnB Tryz.prog 116 [ptr xg,.int .i64 (e:Int)] (TB xg vars m n tv cv bv rv ms mc s.b) [mT m (n+1) ms s.t,mF (n+1) mc s.c] (IsRn xg vars m n tv cv bv rv R):=by
 refine HG [(0,(ptr xg)),(1,(.int .i64 (e:Int)))] 24 Tryz.func116 rfl Tryz.ntmps116 kr rfl suA λh0=>?_;repeat refine WX.seq ?_
 refine WX.region ?_;repeat'(first|intro(g:Nat)|refine gA ?_|intro v)
 rename_i g2
 revert g;intro g4;repeat refine WX.seq ?_
 refine WX.region ?_;repeat'(first|intro(g:Nat)|refine gA ?_|intro v)
 revert g;intro g50;refine WX.block ?_
 refine WX.loop (σ:=RS) (λst=>[(5,ptr st.g5),(1,.int .i64 (e:Int)),(2,ptr g2),(4,ptr g4)])
  (λst=>Ow.cells st.g5 4 [.bool st.ag]::Ow.cells g4 3 [.int .i64 0]::Ow.cells g2 173 [ptr xg]::TB xg vars m n tv cv bv rv st.ms st.mc st.s.b)
  (λst=>mT m (n+1) st.ms st.s.t::mF (n+1) st.mc st.s.c::ge h0::[])
  (λst=>I st.s/\if st.ag=true then X.runP m n e st.f st.s=some R else R=(st.s,none))
  (λst=>2*st.f+if st.ag=true then 1 else 0) ?_ ⟨g50,true,ms,mc,s,f⟩ ⟨hI0,by rw[if_pos rfl];exact hrun⟩ suA (List.Sublist.refl _ |>.trans (by simp only[];exact slA)) sfA
 rintro⟨g5,ag,ms,mc,s,f⟩ ⟨hIs,hrs⟩;simp only at hIs hrs ⊢;repeat refine WX.seq ?_
 refine WX.region ?_;repeat'(first|intro(g:Nat)|refine gA ?_|intro v)
 cases ag with
 |false=>
  rw[if_neg qd] at hrs;subst hrs;repeat refine WX.seq ?_
  refine WX.cond (b:=false) rfl ?_;rw[if_neg qd];refine WX.exit ?_;repeat refine WX.seq ?_
  refine WX.region ?_;repeat'(first|intro(g:Nat)|refine gA ?_|intro v)
  refine WX.ret ?_;exact Fin.p (TB xg vars m n tv cv bv rv ms mc s.b) [mT m (n+1) ms s.t,mF (n+1) mc s.c] (Qh.c1 rfl rfl meA T.sc3) meA slA sfA ⟨ms,mc,rfl,rfl,rfl⟩
 |true=>
  rw[if_pos rfl] at hrs;repeat refine WX.seq ?_
  refine WX.cond (b:=true) rfl ?_;rw[if_pos rfl];refine WX.skip ?_;repeat refine WX.seq ?_
  refine WX.block ?_;repeat refine WX.seq ?_
  refine WX.region ?_;repeat'(first|intro(g:Nat)|refine gA ?_|intro v)
  repeat refine WX.seq ?_
  refine WX.region ?_;repeat'(first|intro(g:Nat)|refine gA ?_|intro v)
  refine WL.QA (entering_o xg e) ?_;rintro _ _ _ ⟨ga,gb,rfl,rfl,rfl⟩;refine sNn ?_;repeat'(first|intro(g:Nat)|refine gA ?_|intro v)
  repeat refine WX.block ?_
  have hEv:∀k,k<e->s.c k<0->(∀j,j<k->¬s.c j<0)->X.ent s e=some k:=λk=>ent_of
  refine WX.range (λbx' G=>(∀j,j<e->¬s.c j<0)/\bx'=Ow.cells gb 3 [.int .i64 (e:Int)]::Ow.cells ga 173 [ptr xg]::Ow.cells g5 4 [.bool false]::Ow.cells g4 3 [.int .i64 0]::Ow.cells g2 173 [ptr xg]::TB xg vars m n tv cv bv rv ms mc s.b/\G=[])
   (λc bx' Fc=>∃k,k<e/\s.c k<0/\(∀j,j<k->¬s.c j<0)/\match X.lev n s k m with
    |none=>c=.ret/\bx'=Ow.cells gb 3 [.int .i64 (e:Int)]::Ow.cells ga 173 [ptr xg]::Ow.cells g5 4 [.bool false]::Ow.cells g4 3 [.int .i64 (k:Int)]::Ow.cells g2 173 [ptr xg]::TB xg vars m n tv cv bv rv ms mc s.b/\Fc=[mT m (n+1) ms s.t,mF (n+1) mc s.c]
    |some r=>c=.exit 2/\∃ms' mc',bx'=Ow.cells gb 3 [.int .i64 (e:Int)]::Ow.cells ga 173 [ptr xg]::Ow.cells g5 4 [.bool true]::Ow.cells g4 3 [.int .i64 0]::Ow.cells g2 173 [ptr xg]::TB xg vars m n tv cv bv rv ms' mc' (X.pv s r k).b/\Fc=[mT m (n+1) ms' (X.pv s r k).t,mF (n+1) mc' (X.pv s r k).c])
   rfl ?seq ?done ?stop
  case seq=>
   intro l rec hkn hrs1 hrs2 hrs3 hrs4 hrs5;refine entering_c l rec gb ga g5 g4 g2 xg vars m n (.bool false) (.int .i64 0) tv cv bv rv ms mc s.t s.c s.b e he qo h0 _ λk hk hc hno=>?_;refine yieldB_of hkn hrs1 hrs3 hrs4 rfl rfl λh1=>?_;rw[hrs5];refine WC.block ?_;repeat refine WC.seq ?_
   refine WC.region ?_;obtain⟨hS1,hS2⟩:=hS s hIs;repeat'(first|intro(g:Nat)|refine gA ?_|intro v)
   refine WL.Yv (leaving_c xg vars m n tv cv bv rv ms s k K qo hm hn hK hK0 hS1) ?_ (hF:=.cons (.c meA) (.cons (Qm.sV (el:=61) meA) (.cons (Qm.rows slA hmA) (.cons (Qm.sN (el:=3) meA) .nil))));repeat'(first|intro(g:Nat)|refine gA ?_|intro v)
   cases hL:X.lev n s k m with
   |none=>
    rw[show Xt none= -1 from rfl];repeat'(first|intro(g:Nat)|refine gA ?_|intro v)
    refine WC.ret ?_;exact⟨_,[mT m (n+1) ms s.t,mF (n+1) mc s.c],List.Sublist.refl _,hmA,W.Qu.all sfA,⟨rfl,rfl,rfl⟩⟩
   |some r=>
    have hr:=HL hL;rw[show Xt (some r)=(r:Int) from rfl];repeat'(first|intro(g:Nat)|refine gA ?_|intro v)
    refine WL.YZ (TB xg vars m n tv cv bv rv ms mc s.b) [Ow.cells gb 3 [.int .i64 (e:Int)],Ow.cells ga 173 [ptr xg],Ow.cells g5 4 [.bool false],Ow.cells g4 3 [.int .i64 0],Ow.cells g2 173 [ptr xg]] (List.perm_append_comm (l₁:=[Ow.cells gb 3 [.int .i64 (e:Int)],Ow.cells ga 173 [ptr xg],Ow.cells g5 4 [.bool false],Ow.cells g4 3 [.int .i64 0],Ow.cells g2 173 [ptr xg]])) (pivot_c xg vars m n tv cv bv rv ms mc s r k K hr qo hm hn hK hK0 hS1 hS2) ?_;rintro _ _ _ ⟨ms2,mc2,rfl,rfl,rfl⟩;refine WL.perm ([Ow.cells gb 3 [.int .i64 (e:Int)],Ow.cells ga 173 [ptr xg],Ow.cells g5 4 [.bool false],Ow.cells g4 3 [.int .i64 0],Ow.cells g2 173 [ptr xg]]++TB xg vars m n tv cv bv rv ms2 mc2 (X.pv s r k).b) List.perm_append_comm ?_;refine sNn ?_;repeat'(first|intro(g:Nat)|refine gA ?_|intro v)
    exact⟨_,[mT m (n+1) ms2 (X.pv s r k).t,mF (n+1) mc2 (X.pv s r k).c],List.Sublist.refl _,hmA,W.Qu.all sfA,⟨rfl,ms2,mc2,rfl,rfl⟩⟩
  case done=>
   rintro _ _ ⟨hS0,rfl,rfl⟩;have hEn:=ent_no hS0;cases f with
   |zero=>simp[X.runP] at hrs
   |succ f=>
    rw[X.runP,hEn] at hrs;simp only[Option.some.injEq] at hrs;repeat refine WX.seq ?_
    refine WX.region ?_;repeat'(first|intro(g:Nat)|refine gA ?_|intro v)
    refine WX.region ?_;repeat'(first|intro(g:Nat)|refine gA ?_|intro v)
    exact⟨⟨_,false,ms,mc,s,f⟩,⟨⟨hIs,hrs.symm⟩,by show 2*f+0<2*(f+1)+1;omega⟩,suA,slA,sfA⟩
  case stop=>
   rintro c bx' Fc ⟨k,hk,hc,hno,hX⟩;have hEn:=hEv k hk hc hno;cases f with
   |zero=>simp[X.runP] at hrs
   |succ f=>
    rw[X.runP,hEn] at hrs;dsimp only at hrs hX;cases hL:X.lev n s k m with
    |none=>
     rw[hL] at hX hrs;simp only[Option.some.injEq] at hrs;obtain⟨rfl,rfl,rfl⟩:=hX;subst hrs;refine WX.ret ?_;exact Fin.p (TB xg vars m n tv cv bv rv ms mc s.b) [mT m (n+1) ms s.t,mF (n+1) mc s.c] (Qh.c1 rfl rfl meA T.sc3) meA slA sfA ⟨ms,mc,rfl,rfl,rfl⟩
    |some r=>
     rw[hL] at hX hrs;obtain⟨rfl,ms2,mc2,rfl,rfl⟩:=hX;refine WX.exit ?_;repeat refine WX.seq ?_
     refine WX.region ?_;repeat'(first|intro(g:Nat)|refine gA ?_|intro v)
     refine WX.region ?_;repeat'(first|intro(g:Nat)|refine gA ?_|intro v)
     exact⟨⟨_,true,ms2,mc2,X.pv s r k,f⟩,⟨⟨hI s k r hIs hEn hL,hrs⟩,by show 2*f+1<2*(f+1)+1;omega⟩,suA,slA,sfA⟩
end Z
end
end Go.Proofs.YtbnobghgnbockaaGreat
