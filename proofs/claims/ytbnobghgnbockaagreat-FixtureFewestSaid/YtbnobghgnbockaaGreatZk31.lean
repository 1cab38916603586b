/- Lemmas. Conditions: none. -/
import Derived.Test.YtbnobghgnbockaaGreatZk30
set_option linter.all false
set_option maxHeartbeats 0
set_option maxRecDepth 100000
namespace Go.Proofs.YtbnobghgnbockaaGreat
open Tryz (prog)
open W Go.RowKit
namespace Z
attribute [local irreducible] WC WL WD YO LO Qq W.Fin Qk Qh Qj Row QZ Qv KnS Has W.One Qo QX
def d125{G G':Prop}(h:G')(s:Bx G'->G:=by
 intro h;first|refine gB ?_|refine Zt ?_|(apply WC.draw (id:=5) [0,1,2,3,4,5,6,7,8] (.h 0<|.h 1<|.h 2<|.h 3<|.h 4<|.h 5<|.h 6<|.h 7<|.h 8<|.l 9<|.l 10<|.l 11<|.l 12 .done) mixed kr)|fail
 exact Bx.h h):G:=s ⟨h⟩
def d125r{G G':Prop}(h:G')(s:Bx G'->G:=by
 intro h;repeat'(first|intro(zQ:Nat)|refine d125 ?_|intro zQ)
 repeat revert zQ
 exact Bx.h h):G:=s ⟨h⟩

def sum_c(v:nA)(n K:Nat)(ms:Nat->QM)(q:nf)(hn:n<=10000)(hK:n*(K+1)+1+K<=400000000)(hq:∀i,i<n->Sq K (q i)):FnB prog 199 [v] [] [fF v n ms q] (IsR (X.sm n q)):=by
 refine fO [(0,v)] 17 Tryz.func199 Tryz.ntmps199 λh0=>?_
 have hsm:∀i,i<=n->Sm (X.sm i q):=λi hi=>(X.YM (f:=q) (m:=i) (k:=K) λj hj=>hq j qo).sm (by
  have:=aM (K+1) hi;omega)
 refine gAr ?_;intro g g;rename_i g2
 revert g;intro g3
 refine WC.lp (σ:=Nat×QM) (λst=>[(8,nj (st.1:Int)),(7,nj n),(6,v),(3,ptr g3),(2,ptr g2)]) (λst=>[Ow.cells g3 75 (qcs st.2),Ow.cells g2 75 (qcs m00)])
  (λst=>[isQ (qv st.2) (X.sm st.1 q),ge h0,fF v n ms q]) (λst=>st.1<=n) (λst=>n-st.1) (0,m00) (aj _) ?_ (hG:=.cons Jr (.cons hmA (.cons hmA .nil)))
 rintro⟨k,m⟩ hk;simp only at hk ⊢;by_cases c:k<n
 .refine WC.fact (isQ (qv (ms k)) (q k)) (W.Has.q (W.Has.fm (v:=v) hmA) c) ?_;refine gAr ?_;intro g;refine cW (Zn.add m (ms k) (X.sm k q) (q k) (hsm k qo) ((hq k c).sm qo)) λm3=>?_;refine gAr ?_;exact Qq.mk (k+1,m3) wq122 wq107
 .obtain rfl:n=k:=qo;refine gAr ?_;refine WC.ret ?_;exact Fp [isQ (qv m) (X.sm n q)] (rcV T.r75) haA ⟨m,rfl,rfl,rfl⟩
def dtx(a b:nf)(k j:Nat):Rat:=if j<k then a j*b j else 0
def dtx_up{a b:nf}{k:Nat}(j:Nat)(hj:j<k+1):Qy (dtx a b k) k (a k*b k) j=dtx a b (k+1) j:=by
 unfold dtx Qy;by_cases c:j=k
 .subst c;simp
 .rw[ae c,ah hj];show(if j<k then _ else _)=_;rw[ah qo]
def dot_c(x y:nA)(n K:Nat)(ma mb:Nat->QM)(a b:nf)(hn:n<=10000)(hK:n*(2*K+1)+1+2*K<=400000000)(ha:∀i,i<n->Sq K (a i))(hb:∀i,i<n->Sq K (b i)):FnB prog 125 [x,y] [] [fF x n ma a,fF y n mb b] (IsR (X.sm n λi=>a i*b i)):=by
 refine fO [(0,x),(1,y)] 30 Tryz.func125 Tryz.ntmps125 λh0=>?_;refine WC.QL 75 4 ?_;refine d125r ?_;intro g;revert g;intro g4;rw[show min (n:Int) (n:Int)=(n:Int) by omega]
 refine WC.lp (σ:=Nat×nA×(Nat->QM)) (λst=>[(12,.int .i64 (st.1:Int)),(11,.int .i64 (n:Int)),(0,x),(1,y),(5,st.2.1),(4,ptr g4)]) (λst=>[Ow.cells g4 75 (qcs m00),Ow.slice st.2.1 75 4 (Qc st.1 st.2.2)])
  (λst=>[mF st.1 st.2.2 (dtx a b st.1),ge h0,fF x n ma a,fF y n mb b]) (λst=>st.1<=n) (λst=>n-st.1) (0,.slice none 0 0,λ_=>m00) (aj _) ?_ (hG:=.cons (W.Has.mFn _ _) (.cons hmA (.cons hmA (.cons hmA .nil))))
 rintro⟨k,sv,ms⟩ hk;simp only at hk ⊢;by_cases c:k<n
 .refine WC.fact (isQ (qv (ma k)) (a k)) (W.Has.q (W.Has.fm (v:=x) hmA) c) ?_;refine WC.fact (isQ (qv (mb k)) (b k)) (W.Has.q (W.Has.fm (v:=y) hmA) c) ?_;refine d125r ?_;refine cW (Zn.mul (ma k) (mb k) (a k) (b k) ((ha k c).sm qo) ((hb k c).sm qo)) λm3=>?_;refine WD.fact (mF (k+1) (Qy ms k m3) (dtx a b (k+1))) ((W.Has.Zm (n:=k) (ms:=ms) (m:=m3) (qf:=dtx a b k) hmA hmA).QK λj hj=>dtx_up j hj) ?_;refine d125r ?_;intro v v;exact Qq.mk (k+1,_,_) wq122 wq107
 .obtain rfl:n=k:=qo;refine d125r ?_;refine WL.Jh sv n ms (dtx a b n) wq3 hmA ?_;refine cW (sum_c sv n (2*K) ms (dtx a b n) hn hK (λi hi=>by unfold dtx;rw[ah hi];exact(Sq.mul (ha i hi) (hb i hi)).up qo)) λm5=>?_;refine d125r ?_;refine WC.ret ?_;have he:X.sm n (dtx a b n)=X.sm n λi=>a i*b i:=X.Qb λi hi=>by unfold dtx;rw[ah hi]
  rw[<-he];exact Fp [isQ (qv m5) (X.sm n (dtx a b n))] (rcV T.r75) haA ⟨m5,rfl,rfl,rfl⟩
end Z
section
variable {fr:CF}{w:nm}{bx:nw}{F:nc}
def Du{el sz:Nat}(h:OK fr (Ow.slice nz el sz []::bx) F w):OK fr bx F w:=h.drop (bA _ _)
def ok_rows{n:Nat}{rv:ng}{ms:Nat->Nat->QM}:∀(l:List Nat) (F:nc),OK fr (HC l n rv ms++bx) F w->OK fr bx ((l.map λi=>slC (rv i) n 4 (J9 (ms i)))++F) w
 |[],F,h=>h
 |i::l,F,h=>by
  have h1:=(OK.freeze (n:=n) (sz:=4) h Sel.head (Qg _ _) qd (J9 (ms i)) λj hj=>QU hj)
  have h2:=ok_rows l _ (Du h1);refine h2.less λf hf=>?_;simp only[eu,aX,bq,bS] at hf ⊢;rcases hf with rfl|hf|hf
  .exact .inr (.inl rfl)
  .exact .inl hf
  .exact .inr (.inr hf)
def okT{xg vars m n:Nat}{tv cv bv:nA}{rv:ng}{ms:Nat->Nat->QM}{mc:Nat->QM}{s:X.St}(ho:OK fr (TB xg vars m n tv cv bv rv ms mc s.b++bx) F w)(h1:Has F (mT m (n+1) ms s.t))(h2:Has F (mF (n+1) mc s.c)) :
  OK fr bx (fF cv (n+1) mc s.c::(TF xg vars m n tv cv bv rv ms s++F)) w:=by
 have a1:=OK.keep ho Rem.head;have a2:=Du (OK.freeze (n:=m) (sz:=1) a1 Sel.head (by rw[K6,bP]) qd rv λj hj=>FM qo);have a3:=Du (OK.freeze (n:=n+1) (sz:=4) a2 Sel.head (Qg _ _) qd (J9 mc) λj hj=>QU hj)
 have a4:=Du (OK.freeze (n:=m) (sz:=1) a3 Sel.head (by simp[fnL]) qd (λi=>nj (s.b i)) λj hj=>by
  have hj':j<m:=qo;simp[fnL,hj'])
 have a5:=ok_rows _ _ a4;refine⟨a5.frame,a5.apart,a5.nodup,a5.owns,λf hf=>?_⟩;have hF:∀f∈F,f.p (imm fr bx w.heap):=λf hf=>a5.facts f (aV _ (by simp[hf]));simp only[aX,bn,bq] at hf;rcases hf with rfl|rfl|rfl|rfl|rfl|hf
 .exact⟨a5.facts _ (aV _ (by simp)),h2 _ hF⟩
 .exact a5.facts _ (aV _ (by simp))
 .exact a5.facts _ (aV _ (by simp))
 .exact⟨λi hi=>a5.facts _ (dY _ (List.mem_map.2 ⟨i,List.mem_range.2 hi,rfl⟩)),h1 _ hF⟩
 .exact a5.facts _ (aV _ (by simp))
 .exact hF f hf
def WL.FT{P:nh}{nn:Nat}{L rest:List Oper}{e:Env}{Q2:Env->nw->nc->Prop}{xg vars m n:Nat}{tv cv bv:nA}{rv:ng}{ms:Nat->Nat->QM}{mc:Nat->QM}(s:X.St){bx':nw}(hp:bx.Perm (TB xg vars m n tv cv bv rv ms mc s.b++bx'))(h1:Has F (mT m (n+1) ms s.t))(h2:Has F (mF (n+1) mc s.c))
  (h:WL P nn L rest e bx' (fF cv (n+1) mc s.c::(TF xg vars m n tv cv bv rv ms s++F)) Q2):WL P nn L rest e bx F Q2:=λfr w0 a w Q' hQ hk hr ho=>h fr w0 a w Q' hQ hk hr (okT (ho.perm hp) h1 h2)
end
def AnsP(p:X.Lp)(kind xn yn:Nat)(x y:nf)(z:Rat):Prop:=
 (kind=1/\xn=0/\yn=p.m/\z=0/\X.Vw p y)\/(kind=0/\xn=p.v/\yn=p.m/\X.IsOpt p x y z)\/(kind=2/\xn=p.v/\yn=p.v/\z=0/\X.IsUnb p x y)
structure Am where
 xv:nA
 yv:nA
 mx:Nat->QM
 my:Nat->QM
 mz:QM
abbrev acs(M:Am)(kind:Int):ne:=[nj kind,M.xv,M.yv,.bool M.mz.1,M.mz.2.1,nq,M.mz.2.2]
abbrev agv(M:Am)(kind:Int):nA:=.agg #[nj kind,M.xv,M.yv,.bool M.mz.1,M.mz.2.1,nq,M.mz.2.2]
def fA(M:Am)(xn yn:Nat)(x y:nf)(z:Rat):Fct where
 p h:=(fF M.xv xn M.mx x).p h/\(fF M.yv yn M.my y).p h/\(isQ (qv M.mz) z).p h
 mono _ _ hl hp:=⟨(fF _ _ _ _).mono _ _ hl hp.1,(fF _ _ _ _).mono _ _ hl hp.2.1,(isQ _ _).mono _ _ hl hp.2.2⟩
section
variable {P:nh}{e:Env}{bx:nw}{F:nc}{ty:nl}{x y z u:ni}{v v2:nA}{n n2:Nat}{i:Int}{m:QM}
def Qf.cT{fn:Func}{t s:Tmp}{ty:nl}{g tg m:Nat}{cs:ne}{u:nA}(h:fn.results=#[.cell t ty,.tmp s])(hl:W.look e t=some (.pointer (some ⟨g,0,none⟩)))(hb:Ow.cells g tg cs∈bx)(hr:Row P ty m)(hm:cs.length=m)(hl2:W.look e s=some u):Qf P fn e bx F (.tuple #[.agg cs.toArray,u]):=λn fr a w hk ho=>by
 have he:=KU (P:=P) (fr:=fr) (w:=w) (t:=ty) (b:=g) (q:=0) (cs:=cs) (es:=#[]) (by rw[hm];exact hr) (λ_ _=>.inl (ho.own hb (by simp[Ow.ids]))) (λi v hv=>by rw[aR,JV (ho.owns _ hb)];exact hv) (Reads.none fr);obtain⟨⟨d,hu,hd⟩,hi⟩:=hr;have h1:a.tmps[t]?.getD undef=.pointer (some ⟨g,0,none⟩):=by rw[hk.at' _ _ hl];rfl
 have h2:=run_loadVar_mid (P:=P) w g 0 ty cs d (λi v hv=>by rw[aR,JV (ho.owns _ hb)];exact hv) hu hd (by rw[hi];simp[hm]);have h3:a.tmps[s]?.getD undef=u:=by rw[hk.at' _ _ hl2];rfl
 simp only[results,h];refine⟨by simp[h1,asAddr,h2,h3],?_⟩;have h5:=he.ok;simpa [h1,asAddr,h2,h3] using h5
def YO.byP{op:Op}{p:Prop}{r:nA}(hp:∀fr w,OK fr bx F w->p)(h:p->YO P op ty e bx F r):YO P op ty e bx F r:=λk fr ac w o hop hty hk ho=>h (hp fr w ho) k fr ac w o hop hty hk ho
def YO.buildA1(h1:ev e x=some (nj i))(h2:ev e y=some v)(kd:KnS bx F v n):YO prog (.build 122 #[(0,x),(2,y)]) ty e bx F (.agg #[nj i,nz,v,nq,nz,nq,nz]):=by
 refine YO.byP (p:=∃a c,v=.slice a n c) (λfr w ho=>by obtain⟨a,c,h1,_⟩:=(kd fr w ho).is;exact⟨a,c,h1⟩) ?_;rintro⟨a,c,rfl⟩;exact YO.build (parts:=[(0,x),(2,y)]) (.cons h1 (.cons h2 .nil)) λw=>run_build w 122 _ _ kr
def YO.buildA2(h1:ev e x=some (nj i))(h2:ev e y=some v)(h3:ev e z=some v2)(kd:KnS bx F v n)(kd2:KnS bx F v2 n2):YO prog (.build 122 #[(0,x),(1,y),(2,z)]) ty e bx F (.agg #[nj i,v,v2,nq,nz,nq,nz]):=by
 refine YO.byP (p:=(∃a c,v=.slice a n c)/\∃a c,v2=.slice a n2 c) (λfr w ho=>by obtain⟨a,c,h1,_⟩:=(kd fr w ho).is;obtain⟨a2,c2,h2,_⟩:=(kd2 fr w ho).is;exact⟨⟨a,c,h1⟩,a2,c2,h2⟩) ?_;rintro⟨⟨a,c,rfl⟩,a2,c2,rfl⟩;exact YO.build (parts:=[(0,x),(1,y),(2,z)]) (.cons h1 (.cons h2 (.cons h3 .nil))) λw=>run_build w 122 _ _ kr
def YO.buildA3(h1:ev e x=some (nj i))(h2:ev e y=some v)(h3:ev e z=some v2)(h4:ev e u=some (qv m))(kd:KnS bx F v n)(kd2:KnS bx F v2 n2):YO prog (.build 122 #[(0,x),(1,y),(2,z),(3,u)]) ty e bx F (.agg #[nj i,v,v2,.bool m.1,m.2.1,nq,m.2.2]):=by
 refine YO.byP (p:=(∃a c,v=.slice a n c)/\∃a c,v2=.slice a n2 c) (λfr w ho=>by obtain⟨a,c,h1,_⟩:=(kd fr w ho).is;obtain⟨a2,c2,h2,_⟩:=(kd2 fr w ho).is;exact⟨⟨a,c,h1⟩,a2,c2,h2⟩) ?_;rintro⟨⟨a,c,rfl⟩,a2,c2,rfl⟩;exact YO.build (parts:=[(0,x),(1,y),(2,z),(3,u)]) (.cons h1 (.cons h2 (.cons h3 (.cons h4 .nil)))) λw=>run_build w 122 _ _ kr
end
def vldP_ok{p:X.Lp}(hv:p.v<=48)(hm:p.m<=128):DO p.v p.m p.v (λ_=>p.v)=0:=by
 unfold DO;rw[ae qo,ae];rintro(h|h|h)
 .omega
 .exact h rfl
 .rcases X.XR (λ_=>decide ((p.v:Int)≠p.v)) p.m 0 with ⟨h1,_⟩|⟨j,_,_,_,h4,_⟩
  .rw[h1] at h;cases h
  .simp at h4
def has_A{F:nc}{M:Am}{xn yn:Nat}{x y:nf}{z:Rat}(h1:Has F (fF M.xv xn M.mx x))(h2:Has F (fF M.yv yn M.my y))(h3:Has F (isQ (qv M.mz) z)):Has F (fA M xn yn x y z):=λp hp=>⟨h1 p hp,h2 p hp,h3 p hp⟩
def run_inv{p:X.Lp}{c1:nf}{e:Nat}(he:e<=p.n){u:X.St}{k r:Nat}(h:X.Inv p.m p.n p.A c1 u)(hk:X.ent u e=some k)(hr:X.lev p.n u k p.m=some r):X.Inv p.m p.n p.A c1 (X.pv u r k):=by
 rcases X.Ys u e with ⟨h1,_⟩|⟨j,h1,h2,h3,_⟩
 .rw[hk] at h1;cases h1
 .rw[hk] at h1;cases h1;rcases X.Uz p.n u k p.m with ⟨g1,_⟩|⟨q,g1,g2,g3,_⟩
  .rw[hr] at g1;cases g1
  .rw[hr] at g1;cases g1;exact X.Inv.pv h g2 qo (by grind)
def IsAns2(p:X.Lp)(R0 R1 R:Nat):Qd:=λv B G=>∃(M:Am) (kind xn yn:Nat) (x y:nf) (z:Rat),v=.tuple #[agv M (kind:Nat),nj 0]/\B=[]/\G=[fA M xn yn x y z]/\AnsP p kind xn yn x y z/\(∀k,k<xn->Sq R0 (x k))/\(∀k,k<yn->Sq R1 (y k))/\Sq R z
namespace Z
attribute [local irreducible] WC WL WD YO LO Qq W.Fin Qk Qh Qj Row QZ Qv KnS Has W.One Qo QX
def d54{G G':Prop}(h:G')(s:Bx G'->G:=by
 intro h;first|refine gB ?_|refine Zt ?_|(apply WC.draw (id:=5) [0,1,2,3,4,5,6,7] (.h 0<|.h 1<|.h 2<|.h 3<|.h 4<|.h 5<|.h 6<|.h 7<|.l 8<|.l 9 .done) mixed kr)|(apply WC.draw (id:=7) [0,1,2,3,4] (.h 0<|.h 1<|.h 2<|.h 3<|.h 4<|.l 5 .done) mixed kr)|(apply WC.draw (id:=8) [0,1,2,3,4,5,6,7,8,9,11] (.h 0<|.h 1<|.h 2<|.h 3<|.h 4<|.h 5<|.h 6<|.h 7<|.h 8<|.h 9<|.l 10<|.h 11 .done) mixed kr)|(apply WC.drawR (id:=17) [2] [0,1,3,4,5,9] (.h 0<|.h 1<|.h 3<|.h 4<|.h 5<|.l 2<|.l 6<|.l 7<|.l 8<|.h 9 .done) mixed kr;exact wq146)|fail
 exact Bx.h h):G:=s ⟨h⟩
def d54r{G G':Prop}(h:G')(s:Bx G'->G:=by
 intro h;repeat'(first|intro(zQ:Nat)|refine d54 ?_|intro zQ)
 repeat revert zQ
 exact Bx.h h):G:=s ⟨h⟩

def d54s{G G':Prop}(h:G')(s:Bx G'->G:=by
 intro h;refine sNn ?_;refine d54r ?_;exact Bx.h h):G:=s ⟨h⟩

def solve_c(M:Pm)(p:X.Lp)(K0 K L R:Nat)(hz:X.Szs p K0 K L)(hv:p.v<=48)(hm:p.m<=128)(hR1:2*K+1<=R)(hR2:L<=R)(hR3:p.v*(2*(2*K+1)+1)+1<=R):FnB prog 54 [pgv M p.v] [] [fP M p] (IsAns2 p (2*K+1) (L+K+1) R):=by
 refine fO [(0,(pgv M p.v))] 82 Tryz.func54 Tryz.ntmps54 λh0=>?_;have hn:p.n=2*p.v+2*p.m:=rfl;have hla:p.la=2*p.v+p.m:=rfl;have hL:=hz.t;have hKL:=hz.kl;have hK0:=hz.pos;have hK:0<K:=aw qo hz.k;obtain⟨F1,x1,hx1⟩:=X.Ub ((X.ok0 (p:=p) p.n).prc (e':=p.n) p.c1) (ai _);obtain⟨hq1,hok1,hq2,hq3⟩:=X.phase1 hx1;have hi1:X.Inv p.m p.n p.A p.c1 (X.prc p.m p.c1 p.s0):=(X.inv0 (p:=p)).prc p.c1;refine d54r ?_;intro g g;rename_i gp
 revert g;intro g2;refine WL.Y1 (Kv M p.m p.v (λ_=>p.v) p.a p.b p.g p.v) ?_ (hF:=.cons (.f hmA) .nil);rw[vldP_ok hv hm];refine d54r ?_;refine WL.Jj (made_c M p qo qo) ?_;rintro _ _ _ ⟨xg,tv,bv,rv,ms,rfl,rfl,rfl⟩;refine WL.perm ([Ow.cells g2 122 [.int .i64 0,.slice none 0 0,.slice none 0 0,.bool false,.slice none 0 0,.bool false,.slice none 0 0],Ow.cells gp 118 (pcs M p.v)]++TM xg p.v p.m p.n tv (.slice none 0 0) bv rv ms p.s0.b) ay ?_;refine d54s ?_;intro g g;rename_i g5
 revert g;intro g6;rw[show(2:Int)*(p.v:Int)+(p.m:Int)=((p.la:Nat):Int) by rw[hla];simp];refine WL.keep (g:=g6) (t:=3) (cs:=[.int .i64 (p.la:Int)]) wq11 ?_;refine WL.keep (g:=gp) (t:=118) (cs:=pcs M p.v) wq11 ?_;refine WL.keep (g:=g5) (t:=173) (cs:=[ptr xg]) wq11 ?_;refine WL.Zc (TM xg p.v p.m p.n tv (.slice none 0 0) bv rv ms p.s0.b) [Ow.cells g2 122 [.int .i64 0,.slice none 0 0,.slice none 0 0,.bool false,.slice none 0 0,.bool false,.slice none 0 0]] (ay (l₁:=[_])) (price_c xg p.v p.m p.n tv (.slice none 0 0) bv rv ms p.s0 L 115 [] [ptr g6] [ce g6 3 [.int .i64 (p.la:Int)]] p.c1 (λk hk=>?_) qo qo qo X.inv0.bd (λi hi k hk=>(hz.T hi1 hi hk).up hKL) (λi hi k hk=>hz.P hz.c1 X.inv0 hi hk)) ?_
 .have:=cost1_c g6 k p.la
  rwa [show(if p.la<=k then(1:Rat) else 0)=p.c1 k by unfold X.Lp.c1;by_cases c:p.la<=k<;>simp[c,hk]] at this
 rintro _ _ _ ⟨cv,mc,rfl,rfl,rfl⟩;refine WL.perm ([Ow.cells g2 122 [.int .i64 0,.slice none 0 0,.slice none 0 0,.bool false,.slice none 0 0,.bool false,.slice none 0 0]]++TB xg p.v p.m p.n tv cv bv rv ms mc p.s0.b) ay ?_;refine WL.QD (mF (p.n+1) mc (X.prc p.m p.c1 p.s0).c) (W.Has.QK (qf:=prS p.n p.c1 p.s0 p.m) hmA λj hj=>X.prS_prc X.inv0.bd X.inv0.u (by unfold X.Lp.c1;simp) hj) ?_;refine d54s ?_;refine WD.Zc (TB xg p.v p.m p.n tv cv bv rv ms mc p.s0.b) [Ow.cells g2 122 [.int .i64 0,.slice none 0 0,.slice none 0 0,.bool false,.slice none 0 0,.bool false,.slice none 0 0]] (ay (l₁:=[_])) (run_c xg p.v p.m p.n p.n L F1 tv cv bv rv ms mc (X.prc p.m p.c1 p.s0) x1 (ai _) qo qo qo qo hx1 (λu=>X.Inv p.m p.n p.A p.c1 u) hi1 (λu k r h hk hr=>run_inv (ai _) h hk hr) (λu hu=>⟨λi hi k hk=>(hz.T hu hi hk).up hKL,λk hk=>hz.C hz.c1 hu hk⟩)) ?_;rintro _ _ _ ⟨ms2,mc2,rfl,rfl,rfl⟩;refine WD.perm ([Ow.cells g2 122 [.int .i64 0,.slice none 0 0,.slice none 0 0,.bool false,.slice none 0 0,.bool false,.slice none 0 0]]++TB xg p.v p.m p.n tv cv bv rv ms2 mc2 x1.1.b) ay ?_;refine sNn ?_;refine WD.fact (isQ (qv (mc2 p.n)) (x1.1.c p.n)) (W.Has.q (ms:=mc2) (qf:=x1.1.c) (n:=p.n+1) hmA qo) ?_;refine d54r ?_;refine cV (Zn.sign (mc2 p.n) (x1.1.c p.n)) ?_;have hsg:=@Xq (x1.1.c p.n);by_cases hneg:x1.1.c p.n<0
 .have hs:=hsg.2 hneg;refine d54r ?_;refine WL.FT x1.1 (bx':=[Ow.cells g2 122 [.int .i64 0,.slice none 0 0,.slice none 0 0,.bool false,.slice none 0 0,.bool false,.slice none 0 0]]) (ay (l₁:=[_])) hmA hmA ?_;simp only[aX,bn];refine WL.Jj (slacks_c xg p.v p.m p.n tv cv bv mc2 x1.1.c qo qo qo) ?_;rintro yv _ _ ⟨my,rfl,rfl⟩;refine d54s ?_;refine WC.ret ?_;exact Fp [fA ⟨.slice none 0 0,yv,λ_=>m00,my,m00⟩ 0 p.m (λ_=>0) (λr=>x1.1.c (2*p.v+r)) 0] (Qf.cT rfl rfl meA T.r122 rfl rfl) (.cons (has_A (GN _ _) hmA Jr) .nil) ⟨_,1,0,p.m,_,_,0,rfl,rfl,rfl,.inl ⟨rfl,rfl,rfl,rfl,X.first_inf hx1 hneg⟩,λk hk=>absurd hk qo,λk hk=>(hz.C hz.c1 hok1.i qo).up qo,Sq.zero.up qo⟩
 .have hs:¬sgn (x1.1.c p.n).num<0:=λh=>hneg (hsg.1 h);have hdr:=X.FB (e:=p.n) (last:=p.la) qo hok1 (hq3 hneg);have hD:=(hdr p.m (ai _)).1;refine d54r ?_;refine WL.Zc (TB xg p.v p.m p.n tv cv bv rv ms2 mc2 x1.1.b) [Ow.cells g2 122 [.int .i64 0,.slice none 0 0,.slice none 0 0,.bool false,.slice none 0 0,.bool false,.slice none 0 0]] (ay (l₁:=[_])) (drive_c xg p.v p.m p.n p.la L tv cv bv rv ms2 mc2 x1.1 qo qo qo qo qo (λi hi r hr k hk=>(hz.T (hdr i hi).1.i hr hk).up hKL) (λi hi k hk=>hz.C hz.c1 (hdr i hi).1.i hk)) ?_;rintro _ _ _ ⟨ms3,mc3,rfl,rfl,rfl⟩;generalize hDD:X.drP p.la x1.1 p.m=D at *;refine WL.perm ([Ow.cells g2 122 [.int .i64 0,.slice none 0 0,.slice none 0 0,.bool false,.slice none 0 0,.bool false,.slice none 0 0],Ow.slice cv 75 4 (Qc (p.n+1) mc3)]++TM xg p.v p.m p.n tv cv bv rv ms3 D.b) (List.perm_append_comm.trans ((aJ (l₁:=[_,_])).cons _)) ?_;refine d54s ?_;have hDi:X.Inv p.m p.n p.A p.c2 (X.prc p.m p.c2 D):=hD.i.prc p.c2;obtain⟨F2,y,hy⟩:=X.Ub (hD.prc (e':=p.la) p.c2) (show p.la<=p.n by omega);have hyi:X.Inv p.m p.n p.A p.c2 y.1:=(X.run_ok (hD.prc (e':=p.la) p.c2) (show p.la<=p.n by omega) hy).i;have hans:=X.second hx1 hneg (by rw[hDD];exact hy);refine WL.Zc (TM xg p.v p.m p.n tv cv bv rv ms3 D.b) [Ow.cells g2 122 [.int .i64 0,.slice none 0 0,.slice none 0 0,.bool false,.slice none 0 0,.bool false,.slice none 0 0],Ow.slice cv 75 4 (Qc (p.n+1) mc3)] (ay (l₁:=[_,_])) (price_c xg p.v p.m p.n tv cv bv rv ms3 D L 119 [] [ptr gp] [ce gp 118 (pcs M p.v),fP M p] p.c2 (λk hk=>cost2_c M p gp k qo) qo qo qo hD.i.bd (λi hi k hk=>(hz.T hD.i hi hk).up hKL) (λi hi k hk=>hz.P hz.c2 hD.i hi hk)) ?_;rintro _ _ _ ⟨cv2,mc4,rfl,rfl,rfl⟩;refine WL.perm ([Ow.cells g2 122 [.int .i64 0,.slice none 0 0,.slice none 0 0,.bool false,.slice none 0 0,.bool false,.slice none 0 0],Ow.slice cv 75 4 (Qc (p.n+1) mc3)]++TB xg p.v p.m p.n tv cv2 bv rv ms3 mc4 D.b) ay ?_;refine WL.QD (mF (p.n+1) mc4 (X.prc p.m p.c2 D).c) (W.Has.QK (qf:=prS p.n p.c2 D p.m) hmA λj hj=>X.prS_prc hD.i.bd hD.i.u (by unfold X.Lp.c2;rw[ae qo,ae qo]) hj) ?_;refine d54s ?_;refine WL.Zc (TB xg p.v p.m p.n tv cv2 bv rv ms3 mc4 D.b) [Ow.cells g2 122 [.int .i64 0,.slice none 0 0,.slice none 0 0,.bool false,.slice none 0 0,.bool false,.slice none 0 0],Ow.slice cv 75 4 (Qc (p.n+1) mc3)] (ay (l₁:=[_,_])) (run_c xg p.v p.m p.n p.la L F2 tv cv2 bv rv ms3 mc4 (X.prc p.m p.c2 D) y qo qo qo qo qo hy (λu=>X.Inv p.m p.n p.A p.c2 u) hDi (λu k r h hk hr=>run_inv (e:=p.la) qo h hk hr) (λu hu=>⟨λi hi k hk=>(hz.T hu hi hk).up hKL,λk hk=>hz.C hz.c2 hu hk⟩)) ?_;rintro _ _ _ ⟨ms5,mc5,rfl,rfl,rfl⟩;refine WL.perm ([Ow.cells g2 122 [.int .i64 0,.slice none 0 0,.slice none 0 0,.bool false,.slice none 0 0,.bool false,.slice none 0 0],Ow.slice cv 75 4 (Qc (p.n+1) mc3)]++TB xg p.v p.m p.n tv cv2 bv rv ms5 mc5 y.1.b) ay ?_;refine sNn ?_;have hTs:∀i,i<p.m->∀k,k<p.n+1->Sq K (y.1.t i k):=λi hi k hk=>hz.T hyi hi hk;have hnow:∀k,KE p.m p.n y.1 k=X.wt p.m y.1 (λi=>y.1.t i p.n) k:=X.nowV_wt hyi;have hxs:(λk=>KE p.m p.n y.1 k-KE p.m p.n y.1 (p.v+k))=X.xs p y.1:=funext λk=>by rw[hnow,hnow];rfl
  have hnq:∀k,Sq K (KE p.m p.n y.1 k):=X.nowV_sz hK λi hi=>hTs i hi _ qo;rcases hans with ⟨hy2,hopt⟩|⟨col,hy2,hunb⟩
  .rw[hy2,show Yx none= -1 from rfl];refine d54r ?_;intro g;refine WL.FT y.1 (bx':=_) (ay (l₁:=[_,_,_])) hmA hmA ?_;simp only[aX,bn];refine WL.Jj (Dc xg p.v K (.int .i64 (p.m:Int)) (.int .i64 (p.n:Int)) tv cv2 bv 124 [ptr xg] [] (TF xg p.v p.m p.n tv cv2 bv rv ms5 y.1) (KE p.m p.n y.1) qo qo (λk _=>now_c xg p.v p.m p.n k tv cv2 bv rv ms5 y.1) (λk _=>hnq k)) ?_;rw[hxs];rintro xv _ _ ⟨mx,rfl,rfl⟩;refine d54s ?_;refine WD.Jj (slacks_c xg p.v p.m p.n tv cv2 bv mc5 y.1.c qo qo qo) ?_;rintro yv _ _ ⟨my,rfl,rfl⟩;refine sNn ?_;refine WD.fact (fF M.gv p.v M.mg p.g) (W.Has.pg (M:=M) (m:=p.m) (gn:=p.v) (ln:=λ_=>p.v) (a:=p.a) (b:=p.b) (g:=p.g) hmA) ?_;refine d54r ?_;refine WD.Jj (dot_c M.gv xv p.v (2*K+1) M.mg mx p.g (X.xs p y.1) qo hz.d (λi hi=>(hz.g i hi).up (by have:=hz.k;omega)) (λi _=>by rw[<-hxs];exact((hnq i).sub (hnq _)).up qo)) ?_;rintro _ _ _ ⟨mz,rfl,rfl,rfl⟩;refine d54s ?_
   (apply WD.yl;exact rfl;exact XA;exact rfl;exact rfl)
   refine d54r ?_;refine WC.ret ?_;exact Fp [fA ⟨xv,yv,mx,my,mz⟩ p.v p.m (X.xs p y.1) (λr=>y.1.c (2*p.v+r)) (X.sm p.v λk=>p.g k*X.xs p y.1 k)] (Qf.cT rfl rfl meA T.r122 rfl rfl) (.cons (has_A hmA hmA hmA) .nil) ⟨_,0,p.v,p.m,_,_,_,rfl,rfl,rfl,.inr (.inl ⟨rfl,rfl,rfl,hopt⟩),λk _=>by rw[<-hxs];exact((hnq k).sub (hnq _)).up qo,λk hk=>(hz.C hz.c2 hyi qo).up qo,(X.YM (m:=p.v) (f:=λk=>p.g k*X.xs p y.1 k) (k:=2*(2*K+1)) λi hi=>by rw[<-hxs];exact(Sq.mul (k:=2*K+1) (l:=2*K+1) ((hz.g i hi).up (by have:=hz.k;omega)) (((hnq i).sub (hnq _)).up qo)).up qo).up hR3⟩
  .rcases X.DJ F2 _ y hy with ⟨h1,_⟩|⟨col',h1,hcl,hcn,_⟩
   .rw[hy2] at h1;cases h1
   rw[hy2] at h1;cases h1;rw[hy2,show Yx (some col)=(col:Int) from rfl];refine d54r ?_;intro g;revert g;intro g7;refine WL.keep (g:=g7) (t:=3) (cs:=[.int .i64 (col:Int)]) wq11 ?_;refine WL.FT y.1 (bx':=_) (ay (l₁:=[_,_])) hmA hmA ?_;simp only[aX,bn];have hray:(λk=>Kd p.m y.1 col k-Kd p.m y.1 col (p.v+k))=X.dr p y.1 col:=funext λk=>by rw[X.rayV_rv hyi hcn,X.rayV_rv hyi hcn];rfl
   refine WL.Jj (Dc xg p.v K (.int .i64 (p.m:Int)) (.int .i64 (p.n:Int)) tv cv2 bv 122 [] [ptr g5,ptr g7] (ce g5 173 [ptr xg]::ce g7 3 [.int .i64 (col:Int)]::TF xg p.v p.m p.n tv cv2 bv rv ms5 y.1) (Kd p.m y.1 col) qo qo (λk _=>rayf_c g5 g7 xg p.v p.m p.n k col tv cv2 bv rv ms5 y.1 qo) (λk _=>X.Da hK (λi hi=>hTs i hi col qo) k)) ?_;rw[hray];rintro yv _ _ ⟨my,rfl,rfl⟩;refine d54s ?_;refine WL.Jj (Dc xg p.v K (.int .i64 (p.m:Int)) (.int .i64 (p.n:Int)) tv cv2 bv 124 [ptr xg] [] (TF xg p.v p.m p.n tv cv2 bv rv ms5 y.1) (KE p.m p.n y.1) qo qo (λk _=>now_c xg p.v p.m p.n k tv cv2 bv rv ms5 y.1) (λk _=>hnq k)) ?_;rw[hxs];rintro xv _ _ ⟨mx,rfl,rfl⟩;refine d54s ?_;refine WC.ret ?_;exact Fp [fA ⟨xv,yv,mx,my,m00⟩ p.v p.v (X.xs p y.1) (X.dr p y.1 col) 0] (Qf.cT rfl rfl meA T.r122 rfl rfl) (.cons (has_A hmA hmA Jr) .nil) ⟨_,2,p.v,p.v,_,_,0,rfl,rfl,rfl,.inr (.inr ⟨rfl,rfl,rfl,rfl,hunb⟩),λk _=>by rw[<-hxs];exact((hnq k).sub (hnq _)).up qo,λk hk=>by rw[<-hray];exact((X.Da hK (λi hi=>hTs i hi col qo) k).sub (X.Da hK (λi hi=>hTs i hi col qo) _)).up qo,Sq.zero.up qo⟩
end Z
end Go.Proofs.YtbnobghgnbockaaGreat
