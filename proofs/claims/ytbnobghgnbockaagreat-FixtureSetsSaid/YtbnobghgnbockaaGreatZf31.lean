/- Lemmas for a law. Conditions: none. -/
import Derived.Test.YtbnobghgnbockaaGreatZf30
set_option linter.all false
set_option maxHeartbeats 32000000
set_option maxRecDepth 100000
namespace Go.Proofs.YtbnobghgnbockaaGreat
section
open W Go.RowKit
section
variable {P:Program}{e:Env}{bx:List Ow}{F:List Fct}{ty:TypeId}{x y z u:Operand}{v v2:Value}{n n2:Nat}{i:Int}{m:QM}
def Qh.cT{fn:Func}{t s:Tmp}{ty:TypeId}{g tg m:Nat}{cs:List Value}{u:Value}(h:fn.results=#[.cell t ty,.tmp s])(hl:W.look e t=some (.pointer (some ⟨g,0,none⟩)))(hb:Ow.cells g tg cs∈bx)(hr:Row P ty m)(hm:cs.length=m)(hl2:W.look e s=some u):Qh P fn e bx F (.tuple #[.agg cs.toArray,u]):=λn fr a w hk ho=>by
 have he:=Zm (P:=P) (fr:=fr) (w:=w) (t:=ty) (b:=g) (q:=0) (cs:=cs) (es:=#[]) (by rw[hm];exact hr) (λ_ _=>.inl (ho.own hb (by simp[Ow.ids]))) (λi v hv=>by rw[Nat.zero_add,Jz (ho.owns _ hb)];exact hv) (Reads.none fr);obtain⟨⟨d,hu,hd⟩,hi⟩:=hr;have h1:a.tmps[t]?.getD undef=.pointer (some ⟨g,0,none⟩):=by rw[hk.at' _ _ hl];rfl
 have h2:=run_loadVar_mid (P:=P) w g 0 ty cs d (λi v hv=>by rw[Nat.zero_add,Jz (ho.owns _ hb)];exact hv) hu hd (by rw[hi];simp[hm]);have h3:a.tmps[s]?.getD undef=u:=by rw[hk.at' _ _ hl2];rfl
 simp only[results,h];refine⟨by simp[h1,asAddr,h2,h3],?_⟩;have h5:=he.ok;simpa [h1,asAddr,h2,h3] using h5
def YO.byP{op:Op}{p:Prop}{r:Value}(hp:∀fr w,OK fr bx F w->p)(h:p->YO P op ty e bx F r):YO P op ty e bx F r:=λk fr ac w o hop hty hk ho=>h (hp fr w ho) k fr ac w o hop hty hk ho
def YO.buildA1(h1:ev e x=some (.int .i64 i))(h2:ev e y=some v)(kd:KnS bx F v n):YO Tryz.prog (.build 122 #[(0,x),(2,y)]) ty e bx F (.agg #[.int .i64 i,.slice none 0 0,v,.bool false,.slice none 0 0,.bool false,.slice none 0 0]):=by
 refine YO.byP (p:=∃a c,v=.slice a n c) (λfr w ho=>by obtain⟨a,c,h1,_⟩:=(kd fr w ho).is;exact⟨a,c,h1⟩) ?_;rintro⟨a,c,rfl⟩;exact YO.build (parts:=[(0,x),(2,y)]) (.cons h1 (.cons h2 .nil)) λw=>run_build w 122 _ _ kr
def YO.buildA2(h1:ev e x=some (.int .i64 i))(h2:ev e y=some v)(h3:ev e z=some v2)(kd:KnS bx F v n)(kd2:KnS bx F v2 n2):YO Tryz.prog (.build 122 #[(0,x),(1,y),(2,z)]) ty e bx F (.agg #[.int .i64 i,v,v2,.bool false,.slice none 0 0,.bool false,.slice none 0 0]):=by
 refine YO.byP (p:=(∃a c,v=.slice a n c)/\∃a c,v2=.slice a n2 c) (λfr w ho=>by obtain⟨a,c,h1,_⟩:=(kd fr w ho).is;obtain⟨a2,c2,h2,_⟩:=(kd2 fr w ho).is;exact⟨⟨a,c,h1⟩,a2,c2,h2⟩) ?_;rintro⟨⟨a,c,rfl⟩,a2,c2,rfl⟩;exact YO.build (parts:=[(0,x),(1,y),(2,z)]) (.cons h1 (.cons h2 (.cons h3 .nil))) λw=>run_build w 122 _ _ kr
def YO.buildA3(h1:ev e x=some (.int .i64 i))(h2:ev e y=some v)(h3:ev e z=some v2)(h4:ev e u=some (qv m))(kd:KnS bx F v n)(kd2:KnS bx F v2 n2):YO Tryz.prog (.build 122 #[(0,x),(1,y),(2,z),(3,u)]) ty e bx F (.agg #[.int .i64 i,v,v2,.bool m.1,m.2.1,.bool false,m.2.2]):=by
 refine YO.byP (p:=(∃a c,v=.slice a n c)/\∃a c,v2=.slice a n2 c) (λfr w ho=>by obtain⟨a,c,h1,_⟩:=(kd fr w ho).is;obtain⟨a2,c2,h2,_⟩:=(kd2 fr w ho).is;exact⟨⟨a,c,h1⟩,a2,c2,h2⟩) ?_;rintro⟨⟨a,c,rfl⟩,a2,c2,rfl⟩;exact YO.build (parts:=[(0,x),(1,y),(2,z),(3,u)]) (.cons h1 (.cons h2 (.cons h3 (.cons h4 .nil)))) λw=>run_build w 122 _ _ kr
end
def vldP_ok{p:X.Lp}(hv:p.v<=48)(hm:p.m<=128):Gu p.v p.m p.v (λ_=>p.v)=0:=by
 unfold Gu;rw[if_neg qo,if_neg];rintro(h|h|h)
 ·omega
 ·exact h rfl
 ·rcases X.Xe (λ_=>decide ((p.v:Int)≠p.v)) p.m 0 with ⟨h1,_⟩|⟨j,_,_,_,h4,_⟩
  ·rw[h1] at h;cases h
  ·simp at h4
def has_A{F:List Fct}{M:Am}{xn yn:Nat}{x y:Nat->Rat}{z:Rat}(h1:Has F (fF M.xv xn M.mx x))(h2:Has F (fF M.yv yn M.my y))(h3:Has F (isQ (qv M.mz) z)):Has F (fA M xn yn x y z):=λp hp=>⟨h1 p hp,h2 p hp,h3 p hp⟩
def run_inv{p:X.Lp}{c1:Nat->Rat}{e:Nat}(he:e<=p.n){u:X.St}{k r:Nat}(h:X.Inv p.m p.n p.A c1 u)(hk:X.ent u e=some k)(hr:X.lev p.n u k p.m=some r):X.Inv p.m p.n p.A c1 (X.pv u r k):=by
 rcases X.XO u e with ⟨h1,_⟩|⟨j,h1,h2,h3,_⟩
 ·rw[hk] at h1;cases h1
 ·rw[hk] at h1;cases h1;rcases X.ZM p.n u k p.m with ⟨g1,_⟩|⟨q,g1,g2,g3,_⟩
  ·rw[hr] at g1;cases g1
  ·rw[hr] at g1;cases g1;exact X.Inv.pv h g2 qo (by grind)
def IsAns2(p:X.Lp)(R0 R1 R:Nat):Qg:=λv B G=>∃(M:Am) (kind xn yn:Nat) (x y:Nat->Rat) (z:Rat),v=.tuple #[agv M (kind:Nat),.int .i64 0]/\B=[]/\G=[fA M xn yn x y z]/\AnsP p kind xn yn x y z/\(∀k,k<xn->Sq R0 (x k))/\(∀k,k<yn->Sq R1 (y k))/\Sq R z
namespace Z
attribute [local irreducible] WC WL WD YO LO Qq W.Fin Qk Qw Qj Row QJ Qv KnS Has W.One Qa Qs
def d54{G G':Prop}(h:G')(s:Bx G'->G:=by
 intro h;first|refine gB ?_|refine Zp ?_|(apply WC.draw (id:=5) [0,1,2,3,4,5,6,7] (.h 0<|.h 1<|.h 2<|.h 3<|.h 4<|.h 5<|.h 6<|.h 7<|.l 8<|.l 9 .done) mixed kr)|(apply WC.draw (id:=7) [0,1,2,3,4] (.h 0<|.h 1<|.h 2<|.h 3<|.h 4<|.l 5 .done) mixed kr)|(apply WC.draw (id:=8) [0,1,2,3,4,5,6,7,8,9,11] (.h 0<|.h 1<|.h 2<|.h 3<|.h 4<|.h 5<|.h 6<|.h 7<|.h 8<|.h 9<|.l 10<|.h 11 .done) mixed kr)|(apply WC.drawR (id:=17) [2] [0,1,3,4,5,9] (.h 0<|.h 1<|.h 3<|.h 4<|.h 5<|.l 2<|.l 6<|.l 7<|.l 8<|.h 9 .done) mixed kr;(focus((repeat(first|exact Y7.nil _|(apply Y7.cons;exact rfl;(repeat(first|exact Rem.head|apply Rem.tail)))));done)))|fail
 exact Bx.h h):G:=s ⟨h⟩
def solve_c(M:Pm)(p:X.Lp)(K0 K L R:Nat)(hz:X.Szs p K0 K L)(hv:p.v<=48)(hm:p.m<=128)(hR1:2*K+1<=R)(hR2:L<=R)(hR3:p.v*(2*(2*K+1)+1)+1<=R):FnB Tryz.prog 54 [pgv M p.v] [] [fP M p] (IsAns2 p (2*K+1) (L+K+1) R):=by
 refine fO [(0,(pgv M p.v))] 82 Tryz.func54 Tryz.ntmps54 λh0=>?_;have hn:p.n=2*p.v+2*p.m:=rfl;have hla:p.la=2*p.v+p.m:=rfl;have hL:=hz.t;have hKL:=hz.kl;have hK0:=hz.pos;have hK:0<K:=Nat.lt_of_lt_of_le qo hz.k;obtain⟨F1,x1,hx1⟩:=X.Z2 ((X.ok0 (p:=p) p.n).prc (e':=p.n) p.c1) (Nat.le_refl _);obtain⟨hq1,hok1,hq2,hq3⟩:=X.phase1 hx1;have hi1:X.Inv p.m p.n p.A p.c1 (X.prc p.m p.c1 p.s0):=(X.inv0 (p:=p)).prc p.c1;repeat'(first|intro(g:Nat)|refine d54 ?_|intro v)
 rename_i gp
 revert g;intro g2;refine WL.Yv (Y6 M p.m p.v (λ_=>p.v) p.a p.b p.g p.v) ?_ (hF:=.cons (.f hmA) .nil);rw[vldP_ok hv hm];repeat'(first|intro(g:Nat)|refine d54 ?_|intro v)
 refine WL.QA (made_c M p qo qo) ?_;rintro _ _ _ ⟨xg,tv,bv,rv,ms,rfl,rfl,rfl⟩;refine WL.perm ([Ow.cells g2 122 [.int .i64 0,.slice none 0 0,.slice none 0 0,.bool false,.slice none 0 0,.bool false,.slice none 0 0],Ow.cells gp 118 (pcs M p.v)]++TM xg p.v p.m p.n tv (.slice none 0 0) bv rv ms p.s0.b) List.perm_append_comm ?_;refine sNn ?_;repeat'(first|intro(g:Nat)|refine d54 ?_|intro v)
 rename_i g5
 revert g;intro g6;rw[show(2:Int)*(p.v:Int)+(p.m:Int)=((p.la:Nat):Int) by rw[hla];simp];refine WL.keep (g:=g6) (t:=3) (cs:=[.int .i64 (p.la:Int)]) (by repeat(first|exact Rem.head|apply Rem.tail)) ?_;refine WL.keep (g:=gp) (t:=118) (cs:=pcs M p.v) (by repeat(first|exact Rem.head|apply Rem.tail)) ?_;refine WL.keep (g:=g5) (t:=173) (cs:=[ptr xg]) (by repeat(first|exact Rem.head|apply Rem.tail)) ?_;refine WL.YZ (TM xg p.v p.m p.n tv (.slice none 0 0) bv rv ms p.s0.b) [Ow.cells g2 122 [.int .i64 0,.slice none 0 0,.slice none 0 0,.bool false,.slice none 0 0,.bool false,.slice none 0 0]] (List.perm_append_comm (l₁:=[_])) (price_c xg p.v p.m p.n tv (.slice none 0 0) bv rv ms p.s0 L 115 [] [ptr g6] [ce g6 3 [.int .i64 (p.la:Int)]] p.c1 (λk hk=>?_) qo qo qo X.inv0.bd (λi hi k hk=>(hz.T hi1 hi hk).up hKL) (λi hi k hk=>hz.P hz.c1 X.inv0 hi hk)) ?_
 ·have:=cost1_c g6 k p.la
  rwa [show(if p.la<=k then(1:Rat) else 0)=p.c1 k by unfold X.Lp.c1;by_cases c:p.la<=k<;>simp[c,hk]] at this
 rintro _ _ _ ⟨cv,mc,rfl,rfl,rfl⟩;refine WL.perm ([Ow.cells g2 122 [.int .i64 0,.slice none 0 0,.slice none 0 0,.bool false,.slice none 0 0,.bool false,.slice none 0 0]]++TB xg p.v p.m p.n tv cv bv rv ms mc p.s0.b) List.perm_append_comm ?_;refine WL.QE (mF (p.n+1) mc (X.prc p.m p.c1 p.s0).c) (W.Has.QH (qf:=prS p.n p.c1 p.s0 p.m) hmA λj hj=>X.prS_prc X.inv0.bd X.inv0.u (by unfold X.Lp.c1;simp) hj) ?_;refine sNn ?_;repeat'(first|intro(g:Nat)|refine d54 ?_|intro v)
 refine WD.YZ (TB xg p.v p.m p.n tv cv bv rv ms mc p.s0.b) [Ow.cells g2 122 [.int .i64 0,.slice none 0 0,.slice none 0 0,.bool false,.slice none 0 0,.bool false,.slice none 0 0]] (List.perm_append_comm (l₁:=[_])) (run_c xg p.v p.m p.n p.n L F1 tv cv bv rv ms mc (X.prc p.m p.c1 p.s0) x1 (Nat.le_refl _) qo qo qo qo hx1 (λu=>X.Inv p.m p.n p.A p.c1 u) hi1 (λu k r h hk hr=>run_inv (Nat.le_refl _) h hk hr) (λu hu=>⟨λi hi k hk=>(hz.T hu hi hk).up hKL,λk hk=>hz.C hz.c1 hu hk⟩)) ?_;rintro _ _ _ ⟨ms2,mc2,rfl,rfl,rfl⟩;refine WD.perm ([Ow.cells g2 122 [.int .i64 0,.slice none 0 0,.slice none 0 0,.bool false,.slice none 0 0,.bool false,.slice none 0 0]]++TB xg p.v p.m p.n tv cv bv rv ms2 mc2 x1.1.b) List.perm_append_comm ?_;refine sNn ?_;refine WD.fact (isQ (qv (mc2 p.n)) (x1.1.c p.n)) (W.Has.q (ms:=mc2) (qf:=x1.1.c) (n:=p.n+1) hmA qo) ?_;repeat'(first|intro(g:Nat)|refine d54 ?_|intro v)
 refine cV (Zn.sign (mc2 p.n) (x1.1.c p.n)) ?_;have hsg:=@Xn (x1.1.c p.n);by_cases hneg:x1.1.c p.n<0
 ·have hs:=hsg.2 hneg;repeat'(first|intro(g:Nat)|refine d54 ?_|intro v)
  refine WL.HF x1.1 (bx':=[Ow.cells g2 122 [.int .i64 0,.slice none 0 0,.slice none 0 0,.bool false,.slice none 0 0,.bool false,.slice none 0 0]]) (List.perm_append_comm (l₁:=[_])) hmA hmA ?_;simp only[List.cons_append,List.nil_append];refine WL.QA (slacks_c xg p.v p.m p.n tv cv bv mc2 x1.1.c qo qo qo) ?_;rintro yv _ _ ⟨my,rfl,rfl⟩;refine sNn ?_;repeat'(first|intro(g:Nat)|refine d54 ?_|intro v)
  refine WC.ret ?_;exact Fp [fA ⟨.slice none 0 0,yv,λ_=>m00,my,m00⟩ 0 p.m (λ_=>0) (λr=>x1.1.c (2*p.v+r)) 0] (Qh.cT rfl rfl meA T.r122 rfl rfl) (.cons (has_A (VP _ _) hmA Jm) .nil) ⟨_,1,0,p.m,_,_,0,rfl,rfl,rfl,.inl ⟨rfl,rfl,rfl,rfl,X.first_inf hx1 hneg⟩,λk hk=>absurd hk qo,λk hk=>(hz.C hz.c1 hok1.i qo).up qo,Sq.zero.up qo⟩
 ·have hs:¬sgn (x1.1.c p.n).num<0:=λh=>hneg (hsg.1 h);have hdr:=X.HK (e:=p.n) (last:=p.la) qo hok1 (hq3 hneg);have hD:=(hdr p.m (Nat.le_refl _)).1;repeat'(first|intro(g:Nat)|refine d54 ?_|intro v)
  refine WL.YZ (TB xg p.v p.m p.n tv cv bv rv ms2 mc2 x1.1.b) [Ow.cells g2 122 [.int .i64 0,.slice none 0 0,.slice none 0 0,.bool false,.slice none 0 0,.bool false,.slice none 0 0]] (List.perm_append_comm (l₁:=[_])) (drive_c xg p.v p.m p.n p.la L tv cv bv rv ms2 mc2 x1.1 qo qo qo qo qo (λi hi r hr k hk=>(hz.T (hdr i hi).1.i hr hk).up hKL) (λi hi k hk=>hz.C hz.c1 (hdr i hi).1.i hk)) ?_;rintro _ _ _ ⟨ms3,mc3,rfl,rfl,rfl⟩;generalize hDD:X.drP p.la x1.1 p.m=D at *;refine WL.perm ([Ow.cells g2 122 [.int .i64 0,.slice none 0 0,.slice none 0 0,.bool false,.slice none 0 0,.bool false,.slice none 0 0],Ow.slice cv 75 4 (Qe (p.n+1) mc3)]++TM xg p.v p.m p.n tv cv bv rv ms3 D.b) (List.perm_append_comm.trans ((List.perm_middle (l₁:=[_,_])).cons _)) ?_;refine sNn ?_;repeat'(first|intro(g:Nat)|refine d54 ?_|intro v)
  have hDi:X.Inv p.m p.n p.A p.c2 (X.prc p.m p.c2 D):=hD.i.prc p.c2;obtain⟨F2,y,hy⟩:=X.Z2 (hD.prc (e':=p.la) p.c2) (show p.la<=p.n by omega);have hyi:X.Inv p.m p.n p.A p.c2 y.1:=(X.run_ok (hD.prc (e':=p.la) p.c2) (show p.la<=p.n by omega) hy).i;have hans:=X.second hx1 hneg (by rw[hDD];exact hy);refine WL.YZ (TM xg p.v p.m p.n tv cv bv rv ms3 D.b) [Ow.cells g2 122 [.int .i64 0,.slice none 0 0,.slice none 0 0,.bool false,.slice none 0 0,.bool false,.slice none 0 0],Ow.slice cv 75 4 (Qe (p.n+1) mc3)] (List.perm_append_comm (l₁:=[_,_])) (price_c xg p.v p.m p.n tv cv bv rv ms3 D L 119 [] [ptr gp] [ce gp 118 (pcs M p.v),fP M p] p.c2 (λk hk=>cost2_c M p gp k qo) qo qo qo hD.i.bd (λi hi k hk=>(hz.T hD.i hi hk).up hKL) (λi hi k hk=>hz.P hz.c2 hD.i hi hk)) ?_;rintro _ _ _ ⟨cv2,mc4,rfl,rfl,rfl⟩;refine WL.perm ([Ow.cells g2 122 [.int .i64 0,.slice none 0 0,.slice none 0 0,.bool false,.slice none 0 0,.bool false,.slice none 0 0],Ow.slice cv 75 4 (Qe (p.n+1) mc3)]++TB xg p.v p.m p.n tv cv2 bv rv ms3 mc4 D.b) List.perm_append_comm ?_;refine WL.QE (mF (p.n+1) mc4 (X.prc p.m p.c2 D).c) (W.Has.QH (qf:=prS p.n p.c2 D p.m) hmA λj hj=>X.prS_prc hD.i.bd hD.i.u (by unfold X.Lp.c2;rw[if_neg qo,if_neg qo]) hj) ?_;refine sNn ?_;repeat'(first|intro(g:Nat)|refine d54 ?_|intro v)
  refine WL.YZ (TB xg p.v p.m p.n tv cv2 bv rv ms3 mc4 D.b) [Ow.cells g2 122 [.int .i64 0,.slice none 0 0,.slice none 0 0,.bool false,.slice none 0 0,.bool false,.slice none 0 0],Ow.slice cv 75 4 (Qe (p.n+1) mc3)] (List.perm_append_comm (l₁:=[_,_])) (run_c xg p.v p.m p.n p.la L F2 tv cv2 bv rv ms3 mc4 (X.prc p.m p.c2 D) y qo qo qo qo qo hy (λu=>X.Inv p.m p.n p.A p.c2 u) hDi (λu k r h hk hr=>run_inv (e:=p.la) qo h hk hr) (λu hu=>⟨λi hi k hk=>(hz.T hu hi hk).up hKL,λk hk=>hz.C hz.c2 hu hk⟩)) ?_;rintro _ _ _ ⟨ms5,mc5,rfl,rfl,rfl⟩;refine WL.perm ([Ow.cells g2 122 [.int .i64 0,.slice none 0 0,.slice none 0 0,.bool false,.slice none 0 0,.bool false,.slice none 0 0],Ow.slice cv 75 4 (Qe (p.n+1) mc3)]++TB xg p.v p.m p.n tv cv2 bv rv ms5 mc5 y.1.b) List.perm_append_comm ?_;refine sNn ?_;have hTs:∀i,i<p.m->∀k,k<p.n+1->Sq K (y.1.t i k):=λi hi k hk=>hz.T hyi hi hk;have hnow:∀k,Zt p.m p.n y.1 k=X.wt p.m y.1 (λi=>y.1.t i p.n) k:=X.nowV_wt hyi;have hxs:(λk=>Zt p.m p.n y.1 k-Zt p.m p.n y.1 (p.v+k))=X.xs p y.1:=funext λk=>by rw[hnow,hnow];rfl
  have hnq:∀k,Sq K (Zt p.m p.n y.1 k):=X.nowV_sz hK λi hi=>hTs i hi _ qo;rcases hans with ⟨hy2,hopt⟩|⟨col,hy2,hunb⟩
  ·rw[hy2,show Xt none= -1 from rfl];repeat'(first|intro(g:Nat)|refine d54 ?_|intro v)
   refine WL.HF y.1 (bx':=_) (List.perm_append_comm (l₁:=[_,_,_])) hmA hmA ?_;simp only[List.cons_append,List.nil_append];refine WL.QA (H7 xg p.v K (.int .i64 (p.m:Int)) (.int .i64 (p.n:Int)) tv cv2 bv 124 [ptr xg] [] (TF xg p.v p.m p.n tv cv2 bv rv ms5 y.1) (Zt p.m p.n y.1) qo qo (λk _=>now_c xg p.v p.m p.n k tv cv2 bv rv ms5 y.1) (λk _=>hnq k)) ?_;rw[hxs];rintro xv _ _ ⟨mx,rfl,rfl⟩;refine sNn ?_;repeat'(first|intro(g:Nat)|refine d54 ?_|intro v)
   refine WD.QA (slacks_c xg p.v p.m p.n tv cv2 bv mc5 y.1.c qo qo qo) ?_;rintro yv _ _ ⟨my,rfl,rfl⟩;refine sNn ?_;refine WD.fact (fF M.gv p.v M.mg p.g) (W.Has.pg (M:=M) (m:=p.m) (gn:=p.v) (ln:=λ_=>p.v) (a:=p.a) (b:=p.b) (g:=p.g) hmA) ?_;repeat'(first|intro(g:Nat)|refine d54 ?_|intro v)
   refine WD.QA (dot_c M.gv xv p.v (2*K+1) M.mg mx p.g (X.xs p y.1) qo hz.d (λi hi=>(hz.g i hi).up (by have:=hz.k;omega)) (λi _=>by rw[<-hxs];exact((hnq i).sub (hnq _)).up qo)) ?_;rintro _ _ _ ⟨mz,rfl,rfl,rfl⟩;refine sNn ?_;repeat'(first|intro(g:Nat)|refine d54 ?_|intro v)
   (apply WD.yl;exact rfl;exact Xh;exact rfl;exact rfl)
   repeat'(first|intro(g:Nat)|refine d54 ?_|intro v)
   refine WC.ret ?_;exact Fp [fA ⟨xv,yv,mx,my,mz⟩ p.v p.m (X.xs p y.1) (λr=>y.1.c (2*p.v+r)) (X.sm p.v λk=>p.g k*X.xs p y.1 k)] (Qh.cT rfl rfl meA T.r122 rfl rfl) (.cons (has_A hmA hmA hmA) .nil) ⟨_,0,p.v,p.m,_,_,_,rfl,rfl,rfl,.inr (.inl ⟨rfl,rfl,rfl,hopt⟩),λk _=>by rw[<-hxs];exact((hnq k).sub (hnq _)).up qo,λk hk=>(hz.C hz.c2 hyi qo).up qo,(X.Zh (m:=p.v) (f:=λk=>p.g k*X.xs p y.1 k) (k:=2*(2*K+1)) λi hi=>by rw[<-hxs];exact(Sq.mul (k:=2*K+1) (l:=2*K+1) ((hz.g i hi).up (by have:=hz.k;omega)) (((hnq i).sub (hnq _)).up qo)).up qo).up hR3⟩
  ·rcases X.Gx F2 _ y hy with ⟨h1,_⟩|⟨col',h1,hcl,hcn,_⟩
   ·rw[hy2] at h1;cases h1
   rw[hy2] at h1;cases h1;rw[hy2,show Xt (some col)=(col:Int) from rfl];repeat'(first|intro(g:Nat)|refine d54 ?_|intro v)
   revert g;intro g7;refine WL.keep (g:=g7) (t:=3) (cs:=[.int .i64 (col:Int)]) (by repeat(first|exact Rem.head|apply Rem.tail)) ?_;refine WL.HF y.1 (bx':=_) (List.perm_append_comm (l₁:=[_,_])) hmA hmA ?_;simp only[List.cons_append,List.nil_append];have hray:(λk=>Zq p.m y.1 col k-Zq p.m y.1 col (p.v+k))=X.dr p y.1 col:=funext λk=>by rw[X.rayV_rv hyi hcn,X.rayV_rv hyi hcn];rfl
   refine WL.QA (H7 xg p.v K (.int .i64 (p.m:Int)) (.int .i64 (p.n:Int)) tv cv2 bv 122 [] [ptr g5,ptr g7] (ce g5 173 [ptr xg]::ce g7 3 [.int .i64 (col:Int)]::TF xg p.v p.m p.n tv cv2 bv rv ms5 y.1) (Zq p.m y.1 col) qo qo (λk _=>rayf_c g5 g7 xg p.v p.m p.n k col tv cv2 bv rv ms5 y.1 qo) (λk _=>X.H8 hK (λi hi=>hTs i hi col qo) k)) ?_;rw[hray];rintro yv _ _ ⟨my,rfl,rfl⟩;refine sNn ?_;repeat'(first|intro(g:Nat)|refine d54 ?_|intro v)
   refine WL.QA (H7 xg p.v K (.int .i64 (p.m:Int)) (.int .i64 (p.n:Int)) tv cv2 bv 124 [ptr xg] [] (TF xg p.v p.m p.n tv cv2 bv rv ms5 y.1) (Zt p.m p.n y.1) qo qo (λk _=>now_c xg p.v p.m p.n k tv cv2 bv rv ms5 y.1) (λk _=>hnq k)) ?_;rw[hxs];rintro xv _ _ ⟨mx,rfl,rfl⟩;refine sNn ?_;repeat'(first|intro(g:Nat)|refine d54 ?_|intro v)
   refine WC.ret ?_;exact Fp [fA ⟨xv,yv,mx,my,m00⟩ p.v p.v (X.xs p y.1) (X.dr p y.1 col) 0] (Qh.cT rfl rfl meA T.r122 rfl rfl) (.cons (has_A hmA hmA Jm) .nil) ⟨_,2,p.v,p.v,_,_,0,rfl,rfl,rfl,.inr (.inr ⟨rfl,rfl,rfl,rfl,hunb⟩),λk _=>by rw[<-hxs];exact((hnq k).sub (hnq _)).up qo,λk hk=>by rw[<-hray];exact((X.H8 hK (λi hi=>hTs i hi col qo) k).sub (X.H8 hK (λi hi=>hTs i hi col qo) _)).up qo,Sq.zero.up qo⟩
end Z
end
section
open W Go.RowKit
open Bl (Vc Bd Tc Sc)
def IsProb(S:Sc)(w:Nat->Rat):Qg:=λv B G=>∃Mp:Pm,v=.tuple #[pgv Mp ((4*S.m:Nat):Int),.int .i64 0]/\B=[]/\G=[fP Mp (Bl.lp S w)]
def WL.VU{P:Program}{n:Nat}{L rest:List Oper}{e:Env}{bx:List Ow}{F F':List Fct}{Q:Env->List Ow->List Fct->Prop}{d:Nat}{f:FuncId}{x:Operand}{args:List Operand}{ats:Array TypeId}{vs:List Value}{R:Qg}{ty:TypeId}{pos:String}{af:Array Edge}{gd:Option (Nat×Bool)}(first cap:List Value)(ba br:List Ow)(hp:bx.Perm (ba++br))(hf:FnB P f (first++vs++cap) ba F' R)(hK:∀v b G,R v b G->WL P n L rest ((d,v)::e) (b++br) (G++F) Q)
  (hx:ev e x=some (.func (.func f) first.toArray cap.toArray):=by exact rfl) (hv:Evs e args vs:=by repeat(first|exact Evs.nil|(apply Evs.cons;exact rfl))) (hF:Qu F F':=by repeat(first|exact Qu.nil|(apply Qu.cons;exact hsA))) (hd:Nat.blt d n=true:=by exact rfl) (hg:gok L e gd=some true:=by exact rfl):WL P n L (⟨some d,.call {callee:=.value x,args:=args.toArray,argTypes:=ats},ty,pos,af,gd⟩::rest) e bx F Q:=
 WL.l hd hg (LO.call hx hv ba br hp hf hF.all hK)
def W.Has.lMsame{M α:Type}{S:Shp M α}{F:List Fct}{n:Nat}{ms:Nat->M}{xs ys:Nat->α}(h:Has F (lM S n ms xs))(he:∀j,j<n->ys j=xs j):Has F (lM S n ms ys):=λp hf i hi=>by rw[he i hi];exact h p hf i hi
def lp_at(S:Sc)(w:Nat->Rat)(r:Nat)(hr:r<6*S.n+6*S.m+S.n):(cat (6*S.n) (prX S w) (JJ S) r).n=4*S.m/\(cat (6*S.n) (prX S w) (JJ S) r).a=(Bl.lp S w).a r/\(cat (6*S.n) (prX S w) (JJ S) r).b=(Bl.lp S w).b r:=by
 unfold cat Bl.lp;by_cases h:r<6*S.n
 ·unfold prX;simp only[if_pos h]
  have hs:Rat.divInt (sgi r) 1=Bl.sgq (r%6):=by
   unfold sgi Bl.sgq;rw[show r%6%2=r%2 by omega];split<;>decide +kernel
  refine⟨by omega,?_,?_⟩
  ·funext j
   unfold co2 gx gy Gp Bl.co3 Bl.dir;rw[hs,show j/2/2=j/4 by omega];split
   ·split
    ·rfl
    ·split<;>rfl
   ·split
    ·rfl
    ·split<;>rfl
  ·rw[hs];split
   ·rfl
   ·grind
 ·rw[if_neg h];unfold JJ;by_cases h2:r<6*S.n+6*S.m
  ·rw[if_pos qo];simp only[if_neg h,if_pos h2];exact⟨by omega,by first|rfl|trivial,by first|rfl|trivial⟩
  ·rw[if_neg qo];simp only[if_neg h,if_neg h2];rw[show r-6*S.n-3*(2*S.m)=r-6*S.n-6*S.m by omega];exact⟨by omega,by first|rfl|trivial,by first|rfl|trivial⟩
def fP_of{F:List Fct}{S:Sc}{w:Nat->Rat}{v gv:Value}{ms:Nat->LnM}(hn:S.n<=5)(h:Has F (lF Qr v (6*S.n+(3*(2*S.m)+S.n)) ms (cat (6*S.n) (prX S w) (JJ S))))(hg:Has F (fF gv (2*(2*S.m)) (λ_=>m00) (λ_=>0))):Has F (fP ⟨v,gv,λi=>(ms i).a,λi=>(ms i).m,λi=>(ms i).b,λ_=>m00⟩ (Bl.lp S w)):=λp hf=>by
 have h1:=h p hf;have hm:6*S.n+(3*(2*S.m)+S.n)=6*S.n+6*S.m+S.n:=qo;rw[hm] at h1;have h2:=hg p hf;rw[show 2*(2*S.m)=4*S.m by omega] at h2;refine⟨h1.1,λi hi=>?_,λi hi=>?_,h2⟩
 ·have:=(h1.2 i hi).1;rw[(lp_at S w i hi).1,(lp_at S w i hi).2.1] at this;exact this
 ·have:=(h1.2 i hi).2;rw[(lp_at S w i hi).2.2] at this;exact this
def WC.permE{P:Program}{n:Nat}{c:Code}{e:Env}{bx:List Ow}{F:List Fct}{Q:Post}(bx':List Ow)(hp:bx.Perm bx')(h:WC P n c e bx' F Q):WC P n c e bx F Q:=λfr w0 a w hk hr ho=>h fr w0 a w hk hr (ho.perm hp)
def WC.cutBB{P:Program}{n k k':Nat}{e:Env}{bx:List Ow}{F:List Fct}{x y:Code}{Q:Post}{σ:Type}(E:σ->Env)(B:σ->List Ow)(G:σ->List Fct)(I:σ->Prop)
  (h1:WC P n x e bx F (blockQ k (blockQ k' (Yg (λe' bx' F'=>∃s,I s/\W.Sub (E s) e'/\(B s).Sublist bx'/\Qu F' (G s)) Q))))
  (h2:∀s,I s->WC P n y (E s) (B s) (G s) Q):WC P n x e bx F (blockQ k (blockQ k' (Yg (λe bx F=>WC P n y e bx F Q) Q))):=by
 have key:∀e b f,(∃s,I s/\W.Sub (E s) e/\(B s).Sublist b/\Qu f (G s))->WC P n y e b f Q:=λe b f h=>by
  obtain⟨s,h3,h4,h5,h6⟩:=h;exact(h2 s h3).weak h4 h5 h6.all
 refine h1.mono λex e b f h=>?_;cases ex with
 |normal=>exact key _ _ _ h
 |exit i=>
  simp only[blockQ] at h ⊢;cases hb:Nat.beq i k with
  |true=>rw[hb] at h;exact key _ _ _ h
  |false=>
   rw[hb] at h;simp only[cond_false] at h ⊢;cases hb':Nat.beq i k' with
   |true=>rw[hb'] at h;exact key _ _ _ h
   |false=>rw[hb'] at h;exact h
 |goto l=>exact h
 |ret=>exact h
 |panic c=>exact h
 |outgrown=>exact h
def H5{α:Type}{a b c d:α}:[a,b,c,d].Perm [b,c,a,d]:=(List.Perm.swap b a [c,d]).trans ((List.Perm.swap c a [d]).cons b)
namespace K
attribute [local irreducible] WC WL WD YO LO Qq W.Fin Qk Qw Qj Row QJ Qv KnS Has W.One Qa Qs
def d53{G G':Prop}(h:G')(s:Bx G'->G:=by
 intro h;first|refine gE ?_|refine goLY ?_|refine goYB ?_|refine goYL ?_|refine Zp ?_|(apply WC.draw (id:=7) [0,1,2,3,4,5] (.h 0<|.h 1<|.h 2<|.h 3<|.h 4<|.h 5<|.m 6 (.m 7 (.l 8<|.l 9 .done) (.l 8<|.l 7<|.l 9 .done)) (.l 8<|.l 6<|.l 7<|.l 9 .done)) mixed kr)|(apply WC.draw (id:=32) [0,1,2,3] (.h 0<|.h 1<|.h 2<|.h 3<|.l 4<|.l 5<|.f 6<|.l 7 .done) mixed kr)|fail
 exact Bx.h h):G:=s ⟨h⟩
def Hq(M:SM)(S:Sc)(c:Nat)(hc:c<2^S.n)(K:Nat)(h0K:0<K)(hK:K<=100000)(hs:Ss K S)(ho:S.ok):FnB Tryz.prog 53 [M.l,M.t,.int .i64 (c:Int)] [] [fSl M S,fSt M S] (IsProb S (S.wt c)):=by
 refine fO [(0,M.l),(1,M.t),(2,(.int .i64 (c:Int)))] 119 Tryz.func53 Tryz.ntmps53 λh0=>?_;have hn:=ho.n;have hm:=ho.m;have h32:2^S.n<=2^5:=Nat.pow_le_pow_right qd hn;obtain⟨N,hN⟩:∃N,2^S.n=N:=⟨_,rfl⟩
 have hc':c<32:=qo;have hcN:(c:Int)<((2^S.n:Nat):Int):=qo;repeat'(first|intro(g:Nat)|refine d53 ?_|refine gN ?_ ?_|intro v)
 refine cV (Y6 M S K qo hs ho) ?_;repeat'(first|intro(g:Nat)|refine d53 ?_|refine gN ?_ ?_|intro v)
 refine cK (Hd M S c hn hc) ?_;rintro wv _ _ ⟨mw,rfl,rfl⟩;refine sNn ?_;repeat'(first|intro(g:Nat)|refine d53 ?_|refine gN ?_ ?_|intro v)
 refine cK (ends_c M S ho) ?_;rintro va _ _ ⟨rfl,rfl⟩;refine sNn ?_;repeat'(first|intro(g:Nat)|refine gP ?_|intro v)
 revert g;intro g10;refine WC.keep (g:=g10) (t:=159) (cs:=[va]) (by repeat(first|exact Rem.head|apply Rem.tail)) ?_;revert g;intro g6
 refine WC.cutP (σ:=Nat×Value) (λs=>[(11,ptr s.1),(9,wv),(10,ptr g10),(0,M.l),(6,ptr g6)]) (λs=>[Ow.slice s.2 75 4 (Qe (2*(2*S.m)) λ_=>m00),Ow.cells s.1 118 [.int .i64 (2*((2*S.m:Nat):Int)),.slice none 0 0,s.2],Ow.cells g6 118 [.int .i64 0,.slice none 0 0,.slice none 0 0]])
  (λ_=>[fF wv S.n mw (S.wt c),ge h0,ce g10 159 [va],fSl M S,lF Jc va (2*S.m) (edM M.T) (edT S.T),fSt M S]) (λ_=>True) ?_ ?_
 ·repeat'(first|intro(g:Nat)|refine d53 ?_|refine gN ?_ ?_|intro v)
  all_goals(apply Ex2;refine⟨trivial,?_,?_,?_⟩;(focus(repeat(first|exact Sub.nil _|refine Sub.cons rfl ?_)));(focus(repeat(first|exact Ye.nil _|(apply Ye.cons;(repeat(first|exact Rem.head|apply Rem.tail))))));(focus(repeat(first|exact Qu.nil|(apply Qu.cons;exact hsA)))))
 rintro⟨g11,gv⟩ _;simp only;refine WC.JP gv (2*(2*S.m)) (λ_=>m00) (λ_=>0) (by repeat(first|exact Sel.head|apply Sel.tail)) (W.Has.mF0 _) ?_;refine WC.Q8 141 5 ?_;repeat'(first|intro(g:Nat)|refine d53 ?_|refine gN ?_ ?_|intro v)
 refine WC.permE [_,_,_,_] H5 ?_
 refine WC.Xd (σ:=Value×(Nat->LnM)) (λst=>[(0,M.l),(10,ptr g10),(11,ptr g11),(6,ptr g6)]) (λst=>[Ow.cells g11 118 [.int .i64 (2*((2*S.m:Nat):Int)),st.1,gv],lO Qr st.1 141 (6*S.n) st.2 (prX S (S.wt c)),Ow.cells g6 118 [.int .i64 0,.slice none 0 0,.slice none 0 0]])
  (λst=>[lM Qr (6*S.n) st.2 (prX S (S.wt c)),fF wv S.n mw (S.wt c),fF gv (2*(2*S.m)) (λ_=>m00) (λ_=>0),ge h0,ce g10 159 [va],fSl M S,lF Jc va (2*S.m) (edM M.T) (edT S.T),fSt M S]) (λ_=>True) ?_ ?_
 ·refine WC.lp (σ:=Nat×Value×(Nat->LnM)) (λst=>[(58,.int .i64 (st.1:Int)),(57,.int .i64 (S.n:Int)),(56,M.l),(12,.func (.func 100) #[] #[ptr g10,ptr g11]),(9,wv),(10,ptr g10),(11,ptr g11),(0,M.l),(6,ptr g6)]) (λst=>[Ow.cells g11 118 [.int .i64 (2*((2*S.m:Nat):Int)),st.2.1,gv],lO Qr st.2.1 141 (6*st.1) st.2.2 (prX S (S.wt c)),Ow.cells g6 118 [.int .i64 0,.slice none 0 0,.slice none 0 0]])
   (λst=>[lM Qr (6*st.1) st.2.2 (prX S (S.wt c)),fF wv S.n mw (S.wt c),fF gv (2*(2*S.m)) (λ_=>m00) (λ_=>0),ge h0,ce g10 159 [va],fSl M S,lF Jc va (2*S.m) (edM M.T) (edT S.T),fSt M S]) (λst=>st.1<=S.n) (λst=>S.n-st.1) (0,.slice none 0 0,λ_=>⟨.slice none 0 0,λ_=>m00,m00⟩) (Nat.zero_le _) ?_ (hG:=.cons W.Has.HS haA)
  rintro⟨i,lv,ms⟩ hi;simp only at hi ⊢;by_cases d:i<S.n
  ·refine WC.fact (fB (M.B i) (S.B i)) (W.Has.lk (S:=XU) (v:=M.l) hmA d) ?_;repeat'(first|intro(g:Nat)|refine d53 ?_|refine gN ?_ ?_|intro v)
   revert g;intro g14;revert g;intro g13;refine WL.keep (g:=g14) (t:=88) (cs:=bcs (M.B i)) (by repeat(first|exact Rem.head|apply Rem.tail)) ?_;refine WL.keep (g:=g13) (t:=3) (cs:=[.int .i64 (i:Int)]) (by repeat(first|exact Rem.head|apply Rem.tail)) ?_;refine WL.J9 [] [ptr g13] (vs:=[.func (.func 106) #[] #[]]) (H4 g13 i 106 []) ?_;rintro _ _ _ ⟨gf0,rfl,rfl,rfl⟩;refine sNn ?_;repeat'(first|intro(g:Nat)|refine d53 ?_|refine gN ?_ ?_|intro v)
   refine WL.J9 [] [ptr g13] (vs:=[.func (.func 107) #[] #[]]) (H4 g13 i 107 []) ?_;rintro _ _ _ ⟨gf1,rfl,rfl,rfl⟩;refine sNn ?_;repeat'(first|intro(g:Nat)|refine d53 ?_|refine gN ?_ ?_|intro v)
   refine WL.J9 [] [ptr g13] (vs:=[.func (.func 108) #[] #[ptr g14]]) (H4 g13 i 108 [ptr g14]) ?_;rintro _ _ _ ⟨gf2,rfl,rfl,rfl⟩;refine sNn ?_;repeat'(first|intro(g:Nat)|refine d53 ?_|refine gN ?_ ?_|intro v)
   have hwt:∀i,i<S.n->Sq K (S.wt c i):=λi hi=>by
    unfold Bl.Sc.wt;split
    ·exact(hs.B i hi).2.2.1
    ·exact(hs.B i hi).2.1
   refine WC.fact (JY S M i 0 g13 g14 gf0) (W.Has.cj (.cons hmA (.cons hmA (.cons (W.Has.cj (.cons hmA (.cons hmA .nil))) .nil)))) ?_;refine WC.fact (JY S M i 1 g13 g14 gf1) (W.Has.cj (.cons hmA (.cons hmA (.cons (W.Has.cj (.cons hmA (.cons hmA .nil))) .nil)))) ?_;refine WC.fact (JY S M i 2 g13 g14 gf2) (W.Has.cj (.cons hmA (.cons hmA (.cons (W.Has.cj (.cons hmA (.cons hmA .nil))) .nil)))) ?_;refine WC.fact (isQ (qv m00) 0) Jm ?_;refine WC.fact (isQ (qv (mw i)) (S.wt c i)) (W.Has.q (W.Has.fm (v:=wv) hmA) d) ?_;refine WC.permE [_,_,_,_] H5 ?_
   refine WC.Xd (σ:=Value×(Nat->LnM)) (λst=>[(12,.func (.func 100) #[] #[ptr g10,ptr g11]),(16,.func (.func 103) #[] #[ptr gf0,ptr g13]),(17,.func (.func 103) #[] #[ptr gf1,ptr g13]),(18,.func (.func 103) #[] #[ptr gf2,ptr g13]),(13,ptr g13),(58,.int .i64 (i:Int)),(57,.int .i64 (S.n:Int)),(56,M.l),(9,wv),(10,ptr g10),(11,ptr g11),(0,M.l),(6,ptr g6)]) (λst=>[Ow.cells g11 118 [.int .i64 (2*((2*S.m:Nat):Int)),st.1,gv],lO Qr st.1 141 (6*i+2) st.2 (prX S (S.wt c)),Ow.cells g6 118 [.int .i64 0,.slice none 0 0,.slice none 0 0]])
    (λst=>[lM Qr (6*i+2) st.2 (prX S (S.wt c)),JY S M i 0 g13 g14 gf0,JY S M i 1 g13 g14 gf1,JY S M i 2 g13 g14 gf2,ce g13 3 [.int .i64 (i:Int)],isQ (qv m00) 0,isQ (qv (mw i)) (S.wt c i),fF wv S.n mw (S.wt c),fF gv (2*(2*S.m)) (λ_=>m00) (λ_=>0),ge h0,ce g10 159 [va],fSl M S,lF Jc va (2*S.m) (edM M.T) (edT S.T),fSt M S]) (λ_=>True) ?_ ?_
   ·revert v;intro us
    refine WC.lp (σ:=Nat×Value×(Nat->LnM)) (λst=>[(73,.int .i64 (st.1:Int)),(72,.int .i64 2),(71,us),(12,.func (.func 100) #[] #[ptr g10,ptr g11]),(16,.func (.func 103) #[] #[ptr gf0,ptr g13]),(17,.func (.func 103) #[] #[ptr gf1,ptr g13]),(18,.func (.func 103) #[] #[ptr gf2,ptr g13]),(13,ptr g13),(58,.int .i64 (i:Int)),(57,.int .i64 (S.n:Int)),(56,M.l),(9,wv),(10,ptr g10),(11,ptr g11),(0,M.l),(6,ptr g6)]) (λst=>[Ow.cells g11 118 [.int .i64 (2*((2*S.m:Nat):Int)),st.2.1,gv],lO Qr st.2.1 141 (6*i+(0+st.1)) st.2.2 (prX S (S.wt c)),Ow.slice us 3 1 (ints [1,-1]),Ow.cells g6 118 [.int .i64 0,.slice none 0 0,.slice none 0 0]])
     (λst=>[lM Qr (6*i+(0+st.1)) st.2.2 (prX S (S.wt c)),JY S M i 0 g13 g14 gf0,JY S M i 1 g13 g14 gf1,JY S M i 2 g13 g14 gf2,ce g13 3 [.int .i64 (i:Int)],isQ (qv m00) 0,isQ (qv (mw i)) (S.wt c i),fF wv S.n mw (S.wt c),fF gv (2*(2*S.m)) (λ_=>m00) (λ_=>0),ge h0,ce g10 159 [va],fSl M S,lF Jc va (2*S.m) (edM M.T) (edT S.T),fSt M S]) (λst=>st.1<=2) (λst=>2-st.1) (0,lv,ms) (Nat.zero_le _) ?_
    rintro⟨j,lv,ms⟩ hj;simp only at hj ⊢;match j,hj with
    |0,_=>
     repeat'(first|intro(g:Nat)|refine d53 ?_|refine gN ?_ ?_|intro v)
     refine WL.y (YO.ix T.s28 rfl rfl (KnS.oI (el:=3) (l:=[1,-1]) (by exact meA)) qd) qr qr ?_;refine WL.y (YO.Kr T.sc3 (v:=us) (el:=3) (j:=0*1) (l:=[1,-1]) rfl (by exact meA) qd) qr qr ?_;repeat'(first|intro(g:Nat)|refine d53 ?_|refine gN ?_ ?_|intro v)
     refine WL.VU [] [ptr g10,ptr g11] (vs:=[.int .i64 (sgi 0),qv m00,.func (.func 103) #[] #[ptr gf0,ptr g13]]) [_,_] _ (.refl _) (Kg S M (S.wt c) i 0 0 g13 g14 gf0 g10 g11 va lv gv ms m00 ho qd qd d K h0K hK hs hwt) ?_ (hF:=.cons (show W.Has _ (isQ (qv m00) (if 0=1 then S.wt c i else 0)) from by rw[if_neg qd];exact hmA) haA);rintro _ _ _ ⟨lv2,mm,rfl,rfl,rfl⟩;refine sNn ?_;repeat'(first|intro(g:Nat)|refine d53 ?_|refine gN ?_ ?_|intro v)
     exact Qq.mk (1,lv2,upd ms (6*i+(2*0+0)) mm) (by simp only;omega) (by simp only;omega) (hG:=.cons (W.Has.YC hmA hmA) haA)
    |1,_=>
     repeat'(first|intro(g:Nat)|refine d53 ?_|refine gN ?_ ?_|intro v)
     refine WL.y (YO.ix T.s28 rfl rfl (KnS.oI (el:=3) (l:=[1,-1]) (by exact meA)) qd) qr qr ?_;refine WL.y (YO.Kr T.sc3 (v:=us) (el:=3) (j:=1*1) (l:=[1,-1]) rfl (by exact meA) qd) qr qr ?_;repeat'(first|intro(g:Nat)|refine d53 ?_|refine gN ?_ ?_|intro v)
     refine WL.VU [] [ptr g10,ptr g11] (vs:=[.int .i64 (sgi 1),qv m00,.func (.func 103) #[] #[ptr gf0,ptr g13]]) [_,_] _ (.refl _) (Kg S M (S.wt c) i 0 1 g13 g14 gf0 g10 g11 va lv gv ms m00 ho qd qd d K h0K hK hs hwt) ?_ (hF:=.cons (show W.Has _ (isQ (qv m00) (if 0=1 then S.wt c i else 0)) from by rw[if_neg qd];exact hmA) haA);rintro _ _ _ ⟨lv2,mm,rfl,rfl,rfl⟩;refine sNn ?_;repeat'(first|intro(g:Nat)|refine d53 ?_|refine gN ?_ ?_|intro v)
     exact Qq.mk (2,lv2,upd ms (6*i+(2*0+1)) mm) (by simp only;omega) (by simp only;omega) (hG:=.cons (W.Has.YC hmA hmA) haA)
    |2,_=>
     repeat'(first|intro(g:Nat)|refine d53 ?_|refine gN ?_ ?_|intro v)
     exact QG (lv,ms) trivial
   rintro⟨lv,ms⟩ _;simp only;repeat'(first|intro(g:Nat)|refine d53 ?_|refine gN ?_ ?_|intro v)
   refine WC.permE [_,_,_,_] H5 ?_
   refine WC.Xd (σ:=Value×(Nat->LnM)) (λst=>[(12,.func (.func 100) #[] #[ptr g10,ptr g11]),(16,.func (.func 103) #[] #[ptr gf0,ptr g13]),(17,.func (.func 103) #[] #[ptr gf1,ptr g13]),(18,.func (.func 103) #[] #[ptr gf2,ptr g13]),(13,ptr g13),(58,.int .i64 (i:Int)),(57,.int .i64 (S.n:Int)),(56,M.l),(9,wv),(10,ptr g10),(11,ptr g11),(0,M.l),(6,ptr g6)]) (λst=>[Ow.cells g11 118 [.int .i64 (2*((2*S.m:Nat):Int)),st.1,gv],lO Qr st.1 141 (6*i+4) st.2 (prX S (S.wt c)),Ow.cells g6 118 [.int .i64 0,.slice none 0 0,.slice none 0 0]])
    (λst=>[lM Qr (6*i+4) st.2 (prX S (S.wt c)),JY S M i 0 g13 g14 gf0,JY S M i 1 g13 g14 gf1,JY S M i 2 g13 g14 gf2,ce g13 3 [.int .i64 (i:Int)],isQ (qv m00) 0,isQ (qv (mw i)) (S.wt c i),fF wv S.n mw (S.wt c),fF gv (2*(2*S.m)) (λ_=>m00) (λ_=>0),ge h0,ce g10 159 [va],fSl M S,lF Jc va (2*S.m) (edM M.T) (edT S.T),fSt M S]) (λ_=>True) ?_ ?_
   ·revert v;intro us
    refine WC.lp (σ:=Nat×Value×(Nat->LnM)) (λst=>[(85,.int .i64 (st.1:Int)),(84,.int .i64 2),(83,us),(12,.func (.func 100) #[] #[ptr g10,ptr g11]),(16,.func (.func 103) #[] #[ptr gf0,ptr g13]),(17,.func (.func 103) #[] #[ptr gf1,ptr g13]),(18,.func (.func 103) #[] #[ptr gf2,ptr g13]),(13,ptr g13),(58,.int .i64 (i:Int)),(57,.int .i64 (S.n:Int)),(56,M.l),(9,wv),(10,ptr g10),(11,ptr g11),(0,M.l),(6,ptr g6)]) (λst=>[Ow.cells g11 118 [.int .i64 (2*((2*S.m:Nat):Int)),st.2.1,gv],lO Qr st.2.1 141 (6*i+(2+st.1)) st.2.2 (prX S (S.wt c)),Ow.slice us 3 1 (ints [1,-1]),Ow.cells g6 118 [.int .i64 0,.slice none 0 0,.slice none 0 0]])
     (λst=>[lM Qr (6*i+(2+st.1)) st.2.2 (prX S (S.wt c)),JY S M i 0 g13 g14 gf0,JY S M i 1 g13 g14 gf1,JY S M i 2 g13 g14 gf2,ce g13 3 [.int .i64 (i:Int)],isQ (qv m00) 0,isQ (qv (mw i)) (S.wt c i),fF wv S.n mw (S.wt c),fF gv (2*(2*S.m)) (λ_=>m00) (λ_=>0),ge h0,ce g10 159 [va],fSl M S,lF Jc va (2*S.m) (edM M.T) (edT S.T),fSt M S]) (λst=>st.1<=2) (λst=>2-st.1) (0,lv,ms) (Nat.zero_le _) ?_
    rintro⟨j,lv,ms⟩ hj;simp only at hj ⊢;match j,hj with
    |0,_=>
     repeat'(first|intro(g:Nat)|refine d53 ?_|refine gN ?_ ?_|intro v)
     refine WL.y (YO.ix T.s28 rfl rfl (KnS.oI (el:=3) (l:=[1,-1]) (by exact meA)) qd) qr qr ?_;refine WL.y (YO.Kr T.sc3 (v:=us) (el:=3) (j:=0*1) (l:=[1,-1]) rfl (by exact meA) qd) qr qr ?_;repeat'(first|intro(g:Nat)|refine d53 ?_|refine gN ?_ ?_|intro v)
     refine WL.VU [] [ptr g10,ptr g11] (vs:=[.int .i64 (sgi 0),qv (mw i),.func (.func 103) #[] #[ptr gf1,ptr g13]]) [_,_] _ (.refl _) (Kg S M (S.wt c) i 1 0 g13 g14 gf1 g10 g11 va lv gv ms (mw i) ho qd qd d K h0K hK hs hwt) ?_ (hF:=.cons (show W.Has _ (isQ (qv (mw i)) (if 1=1 then S.wt c i else 0)) from by rw[if_pos rfl];exact hmA) haA);rintro _ _ _ ⟨lv2,mm,rfl,rfl,rfl⟩;refine sNn ?_;repeat'(first|intro(g:Nat)|refine d53 ?_|refine gN ?_ ?_|intro v)
     exact Qq.mk (1,lv2,upd ms (6*i+(2*1+0)) mm) (by simp only;omega) (by simp only;omega) (hG:=.cons (W.Has.YC hmA hmA) haA)
    |1,_=>
     repeat'(first|intro(g:Nat)|refine d53 ?_|refine gN ?_ ?_|intro v)
     refine WL.y (YO.ix T.s28 rfl rfl (KnS.oI (el:=3) (l:=[1,-1]) (by exact meA)) qd) qr qr ?_;refine WL.y (YO.Kr T.sc3 (v:=us) (el:=3) (j:=1*1) (l:=[1,-1]) rfl (by exact meA) qd) qr qr ?_;repeat'(first|intro(g:Nat)|refine d53 ?_|refine gN ?_ ?_|intro v)
     refine WL.VU [] [ptr g10,ptr g11] (vs:=[.int .i64 (sgi 1),qv (mw i),.func (.func 103) #[] #[ptr gf1,ptr g13]]) [_,_] _ (.refl _) (Kg S M (S.wt c) i 1 1 g13 g14 gf1 g10 g11 va lv gv ms (mw i) ho qd qd d K h0K hK hs hwt) ?_ (hF:=.cons (show W.Has _ (isQ (qv (mw i)) (if 1=1 then S.wt c i else 0)) from by rw[if_pos rfl];exact hmA) haA);rintro _ _ _ ⟨lv2,mm,rfl,rfl,rfl⟩;refine sNn ?_;repeat'(first|intro(g:Nat)|refine d53 ?_|refine gN ?_ ?_|intro v)
     exact Qq.mk (2,lv2,upd ms (6*i+(2*1+1)) mm) (by simp only;omega) (by simp only;omega) (hG:=.cons (W.Has.YC hmA hmA) haA)
    |2,_=>
     repeat'(first|intro(g:Nat)|refine d53 ?_|refine gN ?_ ?_|intro v)
     exact QG (lv,ms) trivial
   rintro⟨lv,ms⟩ _;simp only;repeat'(first|intro(g:Nat)|refine d53 ?_|refine gN ?_ ?_|intro v)
   refine WC.permE [_,_,_,_] H5 ?_
   refine WC.cutBB (σ:=Value×(Nat->LnM)) (λst=>[(12,.func (.func 100) #[] #[ptr g10,ptr g11]),(16,.func (.func 103) #[] #[ptr gf0,ptr g13]),(17,.func (.func 103) #[] #[ptr gf1,ptr g13]),(18,.func (.func 103) #[] #[ptr gf2,ptr g13]),(13,ptr g13),(58,.int .i64 (i:Int)),(57,.int .i64 (S.n:Int)),(56,M.l),(9,wv),(10,ptr g10),(11,ptr g11),(0,M.l),(6,ptr g6)]) (λst=>[Ow.cells g11 118 [.int .i64 (2*((2*S.m:Nat):Int)),st.1,gv],lO Qr st.1 141 (6*i+6) st.2 (prX S (S.wt c)),Ow.cells g6 118 [.int .i64 0,.slice none 0 0,.slice none 0 0]])
    (λst=>[lM Qr (6*i+6) st.2 (prX S (S.wt c)),JY S M i 0 g13 g14 gf0,JY S M i 1 g13 g14 gf1,JY S M i 2 g13 g14 gf2,ce g13 3 [.int .i64 (i:Int)],isQ (qv m00) 0,isQ (qv (mw i)) (S.wt c i),fF wv S.n mw (S.wt c),fF gv (2*(2*S.m)) (λ_=>m00) (λ_=>0),ge h0,ce g10 159 [va],fSl M S,lF Jc va (2*S.m) (edM M.T) (edT S.T),fSt M S]) (λ_=>True) ?_ ?_
   ·revert v;intro us
    refine WC.lp (σ:=Nat×Value×(Nat->LnM)) (λst=>[(100,.int .i64 (st.1:Int)),(99,.int .i64 2),(98,us),(12,.func (.func 100) #[] #[ptr g10,ptr g11]),(16,.func (.func 103) #[] #[ptr gf0,ptr g13]),(17,.func (.func 103) #[] #[ptr gf1,ptr g13]),(18,.func (.func 103) #[] #[ptr gf2,ptr g13]),(13,ptr g13),(58,.int .i64 (i:Int)),(57,.int .i64 (S.n:Int)),(56,M.l),(9,wv),(10,ptr g10),(11,ptr g11),(0,M.l),(6,ptr g6)]) (λst=>[Ow.cells g11 118 [.int .i64 (2*((2*S.m:Nat):Int)),st.2.1,gv],lO Qr st.2.1 141 (6*i+(4+st.1)) st.2.2 (prX S (S.wt c)),Ow.slice us 3 1 (ints [1,-1]),Ow.cells g6 118 [.int .i64 0,.slice none 0 0,.slice none 0 0]])
     (λst=>[lM Qr (6*i+(4+st.1)) st.2.2 (prX S (S.wt c)),JY S M i 0 g13 g14 gf0,JY S M i 1 g13 g14 gf1,JY S M i 2 g13 g14 gf2,ce g13 3 [.int .i64 (i:Int)],isQ (qv m00) 0,isQ (qv (mw i)) (S.wt c i),fF wv S.n mw (S.wt c),fF gv (2*(2*S.m)) (λ_=>m00) (λ_=>0),ge h0,ce g10 159 [va],fSl M S,lF Jc va (2*S.m) (edM M.T) (edT S.T),fSt M S]) (λst=>st.1<=2) (λst=>2-st.1) (0,lv,ms) (Nat.zero_le _) ?_
    rintro⟨j,lv,ms⟩ hj;simp only at hj ⊢;match j,hj with
    |0,_=>
     repeat'(first|intro(g:Nat)|refine d53 ?_|refine gN ?_ ?_|intro v)
     refine WL.y (YO.ix T.s28 rfl rfl (KnS.oI (el:=3) (l:=[1,-1]) (by exact meA)) qd) qr qr ?_;refine WL.y (YO.Kr T.sc3 (v:=us) (el:=3) (j:=0*1) (l:=[1,-1]) rfl (by exact meA) qd) qr qr ?_;repeat'(first|intro(g:Nat)|refine d53 ?_|refine gN ?_ ?_|intro v)
     refine WL.VU [] [ptr g10,ptr g11] (vs:=[.int .i64 (sgi 0),qv m00,.func (.func 103) #[] #[ptr gf2,ptr g13]]) [_,_] _ (.refl _) (Kg S M (S.wt c) i 2 0 g13 g14 gf2 g10 g11 va lv gv ms m00 ho qd qd d K h0K hK hs hwt) ?_ (hF:=.cons (show W.Has _ (isQ (qv m00) (if 2=1 then S.wt c i else 0)) from by rw[if_neg qd];exact hmA) haA);rintro _ _ _ ⟨lv2,mm,rfl,rfl,rfl⟩;refine sNn ?_;repeat'(first|intro(g:Nat)|refine d53 ?_|refine gN ?_ ?_|intro v)
     exact Qq.mk (1,lv2,upd ms (6*i+(2*2+0)) mm) (by simp only;omega) (by simp only;omega) (hG:=.cons (W.Has.YC hmA hmA) haA)
    |1,_=>
     repeat'(first|intro(g:Nat)|refine d53 ?_|refine gN ?_ ?_|intro v)
     refine WL.y (YO.ix T.s28 rfl rfl (KnS.oI (el:=3) (l:=[1,-1]) (by exact meA)) qd) qr qr ?_;refine WL.y (YO.Kr T.sc3 (v:=us) (el:=3) (j:=1*1) (l:=[1,-1]) rfl (by exact meA) qd) qr qr ?_;repeat'(first|intro(g:Nat)|refine d53 ?_|refine gN ?_ ?_|intro v)
     refine WL.VU [] [ptr g10,ptr g11] (vs:=[.int .i64 (sgi 1),qv m00,.func (.func 103) #[] #[ptr gf2,ptr g13]]) [_,_] _ (.refl _) (Kg S M (S.wt c) i 2 1 g13 g14 gf2 g10 g11 va lv gv ms m00 ho qd qd d K h0K hK hs hwt) ?_ (hF:=.cons (show W.Has _ (isQ (qv m00) (if 2=1 then S.wt c i else 0)) from by rw[if_neg qd];exact hmA) haA);rintro _ _ _ ⟨lv2,mm,rfl,rfl,rfl⟩;refine sNn ?_;repeat'(first|intro(g:Nat)|refine d53 ?_|refine gN ?_ ?_|intro v)
     exact Qq.mk (2,lv2,upd ms (6*i+(2*2+1)) mm) (by simp only;omega) (by simp only;omega) (hG:=.cons (W.Has.YC hmA hmA) haA)
    |2,_=>
     repeat'(first|intro(g:Nat)|refine d53 ?_|refine gN ?_ ?_|intro v)
     exact QG (lv,ms) trivial
   rintro⟨lv,ms⟩ _;simp only;repeat'(first|intro(g:Nat)|refine d53 ?_|refine gN ?_ ?_|intro v)
   exact Qq.mk (i+1,lv,ms) (by simp only;omega) (by simp only;omega)
  ·obtain rfl:i=S.n:=qo;repeat'(first|intro(g:Nat)|refine d53 ?_|refine gN ?_ ?_|intro v)
   exact QG (lv,ms) trivial
 ·rintro⟨lv,ms⟩ _;simp only;have hm1:(2*((2*S.m:Nat):Int))=((4*S.m:Nat):Int):=qo
  refine WC.cut (σ:=Value×(Nat->LnM)) (λst=>[(11,ptr g11),(6,ptr g6)]) (λst=>[Ow.cells g11 118 [.int .i64 (2*((2*S.m:Nat):Int)),st.1,gv],lO Qr st.1 141 (6*S.n+(3*(2*S.m)+S.n)) st.2 (cat (6*S.n) (prX S (S.wt c)) (JJ S)),Ow.cells g6 118 [.int .i64 0,.slice none 0 0,.slice none 0 0]])
   (λst=>[lM Qr (6*S.n+(3*(2*S.m)+S.n)) st.2 (cat (6*S.n) (prX S (S.wt c)) (JJ S)),fF gv (2*(2*S.m)) (λ_=>m00) (λ_=>0),ge h0]) (λ_=>True) ?_ ?_
  ·repeat'(first|intro(g:Nat)|refine d53 ?_|refine gN ?_ ?_|intro v)
   refine cK (limits_c M S va K h0K qo hs ho) ?_;rintro _ _ _ ⟨ms2,rfl,rfl⟩;refine sNn ?_;repeat'(first|intro(g:Nat)|refine d53 ?_|refine gN ?_ ?_|intro v)
   exact QG (_,cat (6*S.n) ms ms2) trivial (hG:=.cons (W.Has.mcat (S:=Qr) (n:=6*S.n) (ms:=ms) (xs:=cat (6*S.n) (prX S (S.wt c)) (JJ S)) (ms2:=ms2) (xs2:=JJ S) (W.Has.lMsame (S:=Qr) (xs:=prX S (S.wt c)) hmA λj hj=>by unfold cat;rw[if_pos hj]) (W.Has.lm hmA) λj _=>by unfold cat;rw[if_neg qo,show 6*S.n+j-6*S.n=j by omega]) haA)
  rintro⟨lv,ms⟩ _;simp only;refine WC.Q3 (S:=Qr) (v:=lv) (n:=6*S.n+(3*(2*S.m)+S.n)) (ms:=ms) (xs:=cat (6*S.n) (prX S (S.wt c)) (JJ S)) (by repeat(first|exact Sel.head|apply Sel.tail)) hmA ?_;repeat'(first|intro(g:Nat)|refine d53 ?_|refine gN ?_ ?_|intro v)
  rw[hm1];refine WC.ret ?_;exact Fp [fP ⟨lv,gv,λi=>(ms i).a,λi=>(ms i).m,λi=>(ms i).b,λ_=>m00⟩ (Bl.lp S (S.wt c))] (Qh.cT rfl rfl meA T.r118 rfl rfl) (.cons (fP_of (v:=lv) (ms:=ms) hn hmA hmA) .nil) ⟨_,rfl,rfl,rfl⟩
end K
end
end Go.Proofs.YtbnobghgnbockaaGreat
