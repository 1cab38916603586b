/- Lemmas for a law. Conditions: none. -/
import Derived.Test.YtbnobghgnbockaaGreatZg30
set_option linter.all false
set_option maxHeartbeats 32000000
set_option maxRecDepth 100000
namespace Go.Proofs.YtbnobghgnbockaaGreat
open W Go.RowKit
abbrev lnv(M:Pm)(i:Nat):Value:=.agg #[M.av i,.bool (M.mb i).1,(M.mb i).2.1,.bool false,(M.mb i).2.2]
def Dl(vars:Int)(m gn:Nat)(ln:Nat->Nat):Int:=
 if 48<vars\/128<m then 4 else if vars<0\/(gn:Int)≠vars\/(X.fstT (λi=>decide ((ln i:Int)≠vars)) m 0).isSome=true then 1 else 0
def Gr{bx:List Ow}{F:List Fct}:∀{G:List Fct},(∀f∈G,f∈F)->QZ bx F G
 |[],_=>.nil
 |f::G,h=>.cons (QQ.f (Has.mem (h f (List.mem_cons_self ..)))) (Gr λg hg=>h g (List.mem_cons_of_mem _ hg))
namespace Z
attribute [local irreducible] WC WL WD YO LO Qq W.Fin Qv Qh Qj Row QV Qy KnS Has W.One Qp QJ
section
variable (M:Pm)(m gn:Nat)(ln:Nat->Nat)(a:Nat->Nat->Rat)(b g:Nat->Rat)
def indexL_c(f:FuncId)(first cap:List Value)(Fc:List Fct)(p:Nat->Bool)
  (hf:∀i,i<m->FnB Tryz.prog f (first++[lnv M i]++cap) [] (fPg M m gn ln a b g::Fc) (IsV (.bool (p i)))) :
  FnB Tryz.prog 219 [M.lv,.func (.func f) first.toArray cap.toArray] [] (fPg M m gn ln a b g::Fc) (IsV (.int .i64 (X5 (X.fstT p m 0)))):=by
 refine fO [(0,M.lv),(1,(.func (.func f) first.toArray cap.toArray))] 19 Tryz.func219 Tryz.ntmps219 λh0=>?_;refine WC.lenF (v:=M.lv) (m:=m) (W.Has.pl (M:=M) (m:=m) (gn:=gn) (ln:=ln) (a:=a) (b:=b) (g:=g) hmA) λhm=>?_;repeat'(first|intro(g:Nat)|refine gA ?_|intro v)
 refine WC.lp (σ:=Nat) (λi=>[(8,.int .i64 (i:Int)),(7,.int .i64 (m:Int)),(0,M.lv),(1,.func (.func f) first.toArray cap.toArray)]) (λ_=>[]) (λ_=>ge h0::fPg M m gn ln a b g::Fc) (λi=>i<=m/\X.fstT p m 0=X.fstT p (m-i) i) (λi=>m-i) 0 ⟨Nat.zero_le _,rfl⟩ ?_ (hG:=.cons hmA (.cons hmA (Qw.tail λ_ h=>by(repeat(first|exact h|apply List.mem_cons_of_mem)))));rintro i ⟨hi,he⟩;by_cases c:i<m
 .rw[Vm c] at he;repeat'(first|intro(g:Nat)|refine gA ?_|intro v)
  refine WL.Xs first cap (vs:=[lnv M i]) (hf i c) ?_ (hF:=.cons hmA (Qw.tail λ_ h=>by(repeat(first|exact h|apply List.mem_cons_of_mem))))
  rintro _ _ _ ⟨rfl,rfl,rfl⟩;refine sNn ?_;cases hp:p i with
  |true=>
   rw[if_pos hp] at he;rw[he];repeat'(first|intro(g:Nat)|refine gA ?_|intro v)
   exact wq6
  |false=>
   rw[if_neg (by rw[hp];decide)] at he;repeat'(first|intro(g:Nat)|refine gA ?_|intro v)
   exact Qq.mk (i+1) ⟨by omega,he⟩ qo (hG:=.cons hmA (.cons hmA (Qw.tail λ_ h=>by(repeat(first|exact h|apply List.mem_cons_of_mem)))))
 .obtain rfl:m=i:=qo;rw[Nat.sub_self,X.fstT] at he;rw[he];repeat'(first|intro(g:Nat)|refine gA ?_|intro v)
  exact wq6
def containsL_c(f:FuncId)(first cap:List Value)(Fc:List Fct)(p:Nat->Bool)
  (hf:∀i,i<m->FnB Tryz.prog f (first++[lnv M i]++cap) [] (fPg M m gn ln a b g::Fc) (IsV (.bool (p i)))) :
  FnB Tryz.prog 187 [M.lv,.func (.func f) first.toArray cap.toArray] [] (fPg M m gn ln a b g::Fc) (IsV (.bool (X.fstT p m 0).isSome)):=by
 refine fO [(0,M.lv),(1,(.func (.func f) first.toArray cap.toArray))] 9 Tryz.func187 Tryz.ntmps187 λh0=>?_;repeat'(first|intro(g:Nat)|refine gA ?_|intro v)
 refine WL.YM (indexL_c M m gn ln a b g f first cap Fc p hf) ?_ (hF:=.cons (.f hmA) (Gr λ_ h=>by(repeat(first|exact h|apply List.mem_cons_of_mem))));cases hp:X.fstT p m 0 with
 |none=>
  rw[show X5 none= -1 from rfl];repeat'(first|intro(g:Nat)|refine gA ?_|intro v)
  exact wq6
 |some k=>
  rw[show X5 (some k)=(k:Int) from rfl];repeat'(first|intro(g:Nat)|refine gA ?_|intro v)
  exact wq6
def valid1_c(gp:Nat)(vars:Int)(i:Nat)(hi:i<m):FnB Tryz.prog 188 [lnv M i,ptr gp] [] [fPg M m gn ln a b g,ce gp 118 (pcs M vars)] (IsV (.bool (decide ((ln i:Int)≠vars)))):=by
 refine fO [(0,(lnv M i)),(1,(ptr gp))] 10 Tryz.func188 Tryz.ntmps188 λh0=>?_;refine WC.fact (fF (M.av i) (ln i) (M.ma i) (a i)) (W.Has.pa (M:=M) (m:=m) (gn:=gn) (ln:=ln) (a:=a) (b:=b) (g:=g) hmA hi) ?_;refine WC.fact (isQ (qv (M.mb i)) (b i)) (W.Has.pbq (M:=M) (m:=m) (gn:=gn) (ln:=ln) (a:=a) (b:=b) (g:=g) hmA hi) ?_;by_cases c:(ln i:Int)=vars
 .repeat'(first|intro(g:Nat)|refine gA ?_|intro v)
  exact wq62
 .repeat'(first|intro(g:Nat)|refine gA ?_|intro v)
  exact wq62
def ZT(vars:Int):FnB Tryz.prog 112 [pgv M vars] [] [fPg M m gn ln a b g] (IsV (.int .i64 (Dl vars m gn ln))):=by
 refine fO [(0,(pgv M vars))] 31 Tryz.func112 Tryz.ntmps112 λh0=>?_;refine WC.lenF (v:=M.lv) (m:=m) (W.Has.pl (M:=M) (m:=m) (gn:=gn) (ln:=ln) (a:=a) (b:=b) (g:=g) hmA) λhm=>?_;refine WC.fact (fF M.gv gn M.mg g) (W.Has.pg (M:=M) (m:=m) (gn:=gn) (ln:=ln) (a:=a) (b:=b) (g:=g) hmA) ?_;by_cases c1:48<vars
 .repeat'(first|intro(g:Nat)|refine gA ?_|intro v)
  refine WC.ret ?_;exact Fin.v (Qg.t1 rfl rfl) meA (by simp[Dl,c1])
 .by_cases c2:128<m
  .repeat'(first|intro(g:Nat)|refine gA ?_|intro v)
   refine WC.ret ?_;exact Fin.v (Qg.t1 rfl rfl) meA (by simp[Dl,c2])
  .by_cases c3:vars<0
   .repeat'(first|intro(g:Nat)|refine gA ?_|intro v)
    refine WC.ret ?_;exact Fin.v (Qg.t1 rfl rfl) meA (by simp[Dl,c1,c2,c3])
   .by_cases c4:(gn:Int)=vars
    .repeat'(first|intro(g:Nat)|refine gA ?_|intro v)
     revert g;intro g1;refine WL.YM (containsL_c M m gn ln a b g 188 [] [ptr g1] [ce g1 118 (pcs M vars)] (λi=>decide ((ln i:Int)≠vars)) (λi hi=>valid1_c M m gn ln a b g g1 vars i hi)) ?_ (hF:=.cons (.f hmA) (.cons (.c meA) .nil));cases hx:(X.fstT (λi=>decide ((ln i:Int)≠vars)) m 0).isSome with
     |true=>
            repeat'(first|intro(g:Nat)|refine gA ?_|intro v)
            refine WC.ret ?_;exact Fin.v (Qg.t1 rfl rfl) meA (by simp only[Dl,hx];rw[if_neg qo,if_pos (.inr (.inr trivial))])
     |false=>
            repeat'(first|intro(g:Nat)|refine gA ?_|intro v)
            refine WC.ret ?_;exact Fin.v (Qg.t1 rfl rfl) meA (by simp only[Dl,hx];rw[if_neg qo,if_neg (by simp[c3,c4])])
    .repeat'(first|intro(g:Nat)|refine gA ?_|intro v)
     refine WC.ret ?_;exact Fin.v (Qg.t1 rfl rfl) meA (by simp[Dl,c1,c2,c4])
end
end Z
namespace Z
attribute [local irreducible] WC WL WD YO LO Qq W.Fin Qv Qh Qj Row QV Qy KnS Has W.One Qp QJ
def d125{G G':Prop}(h:G')(s:Bx G'->G:=by
 intro h;first|refine gB ?_|refine Z2 ?_|(apply WC.draw (id:=5) [0,1,2,3,4,5,6,7,8] (.h 0<|.h 1<|.h 2<|.h 3<|.h 4<|.h 5<|.h 6<|.h 7<|.h 8<|.l 9<|.l 10<|.l 11<|.l 12 .done) mixed kr)|fail
 exact Bx.h h):G:=s ⟨h⟩
def sum_c(v:Value)(n K:Nat)(ms:Nat->QM)(q:Nat->Rat)(hn:n<=10000)(hK:n*(K+1)+1+K<=400000000)(hq:∀i,i<n->Sq K (q i)):FnB Tryz.prog 199 [v] [] [fF v n ms q] (IsR (X.sm n q)):=by
 refine fO [(0,v)] 17 Tryz.func199 Tryz.ntmps199 λh0=>?_
 have hsm:∀i,i<=n->Sm (X.sm i q):=λi hi=>(X.Kw (f:=q) (m:=i) (k:=K) λj hj=>hq j qo).sm (by
  have:=Nat.mul_le_mul_right (K+1) hi;omega)
 repeat'(first|intro(g:Nat)|refine gA ?_|intro v)
 rename_i g2
 revert g;intro g3
 refine WC.lp (σ:=Nat×QM) (λst=>[(8,.int .i64 (st.1:Int)),(7,.int .i64 (n:Int)),(6,v),(3,ptr g3),(2,ptr g2)]) (λst=>[Ow.cells g3 75 (qcs st.2),Ow.cells g2 75 (qcs m00)])
  (λst=>[isQ (qv st.2) (X.sm st.1 q),ge h0,fF v n ms q]) (λst=>st.1<=n) (λst=>n-st.1) (0,m00) (Nat.zero_le _) ?_ (hG:=.cons JA (.cons hmA (.cons hmA .nil)))
 rintro⟨k,m⟩ hk;simp only at hk ⊢;by_cases c:k<n
 .refine WC.fact (isQ (qv (ms k)) (q k)) (W.Has.q (W.Has.fm (v:=v) hmA) c) ?_;repeat'(first|intro(g:Nat)|refine gA ?_|intro v)
  refine cW (Zn.add m (ms k) (X.sm k q) (q k) (hsm k qo) ((hq k c).sm qo)) λm3=>?_;repeat'(first|intro(g:Nat)|refine gA ?_|intro v)
  exact Qq.mk (k+1,m3) wq111 wq97
 .obtain rfl:n=k:=qo;repeat'(first|intro(g:Nat)|refine gA ?_|intro v)
  refine WC.ret ?_;exact Fp [isQ (qv m) (X.sm n q)] (rcV T.r75) haA ⟨m,rfl,rfl,rfl⟩
def dtx(a b:Nat->Rat)(k j:Nat):Rat:=if j<k then a j*b j else 0
def dtx_up{a b:Nat->Rat}{k:Nat}(j:Nat)(hj:j<k+1):upd (dtx a b k) k (a k*b k) j=dtx a b (k+1) j:=by
 unfold dtx upd;by_cases c:j=k
 .subst c;simp
 .rw[if_neg c,if_pos hj];show(if j<k then _ else _)=_;rw[if_pos qo]
def dot_c(x y:Value)(n K:Nat)(ma mb:Nat->QM)(a b:Nat->Rat)(hn:n<=10000)(hK:n*(2*K+1)+1+2*K<=400000000)(ha:∀i,i<n->Sq K (a i))(hb:∀i,i<n->Sq K (b i)):FnB Tryz.prog 125 [x,y] [] [fF x n ma a,fF y n mb b] (IsR (X.sm n λi=>a i*b i)):=by
 refine fO [(0,x),(1,y)] 30 Tryz.func125 Tryz.ntmps125 λh0=>?_;refine WC.QP 75 4 ?_;repeat'(first|intro(g:Nat)|refine d125 ?_|intro v)
 revert g;intro g4;rw[show min (n:Int) (n:Int)=(n:Int) by omega]
 refine WC.lp (σ:=Nat×Value×(Nat->QM)) (λst=>[(12,.int .i64 (st.1:Int)),(11,.int .i64 (n:Int)),(0,x),(1,y),(5,st.2.1),(4,ptr g4)]) (λst=>[Ow.cells g4 75 (qcs m00),Ow.slice st.2.1 75 4 (Qa st.1 st.2.2)])
  (λst=>[mF st.1 st.2.2 (dtx a b st.1),ge h0,fF x n ma a,fF y n mb b]) (λst=>st.1<=n) (λst=>n-st.1) (0,.slice none 0 0,λ_=>m00) (Nat.zero_le _) ?_ (hG:=.cons (W.Has.mFn _ _) (.cons hmA (.cons hmA (.cons hmA .nil))))
 rintro⟨k,sv,ms⟩ hk;simp only at hk ⊢;by_cases c:k<n
 .refine WC.fact (isQ (qv (ma k)) (a k)) (W.Has.q (W.Has.fm (v:=x) hmA) c) ?_;refine WC.fact (isQ (qv (mb k)) (b k)) (W.Has.q (W.Has.fm (v:=y) hmA) c) ?_;repeat'(first|intro(g:Nat)|refine d125 ?_|intro v)
  refine cW (Zn.mul (ma k) (mb k) (a k) (b k) ((ha k c).sm qo) ((hb k c).sm qo)) λm3=>?_;refine WD.fact (mF (k+1) (upd ms k m3) (dtx a b (k+1))) ((W.Has.mFapp (n:=k) (ms:=ms) (m:=m3) (qf:=dtx a b k) hmA hmA).QN λj hj=>dtx_up j hj) ?_;repeat'(first|intro(g:Nat)|refine d125 ?_|intro v)
  exact Qq.mk (k+1,_,_) wq111 wq97
 .obtain rfl:n=k:=qo;repeat'(first|intro(g:Nat)|refine d125 ?_|intro v)
  refine WL.Xd sv n ms (dtx a b n) wq3 hmA ?_;refine cW (sum_c sv n (2*K) ms (dtx a b n) hn hK (λi hi=>by unfold dtx;rw[if_pos hi];exact(Sq.mul (ha i hi) (hb i hi)).up qo)) λm5=>?_;repeat'(first|intro(g:Nat)|refine d125 ?_|intro v)
  refine WC.ret ?_;have he:X.sm n (dtx a b n)=X.sm n λi=>a i*b i:=X.Qd λi hi=>by unfold dtx;rw[if_pos hi]
  rw[<-he];exact Fp [isQ (qv m5) (X.sm n (dtx a b n))] (rcV T.r75) haA ⟨m5,rfl,rfl,rfl⟩
end Z
section
variable {fr:CF}{w:World}{bx:List Ow}{F:List Fct}
def FL{el sz:Nat}(h:OK fr (Ow.slice (.slice none 0 0) el sz []::bx) F w):OK fr bx F w:=h.drop (List.sublist_cons_self _ _)
def ok_rows{n:Nat}{rv:Nat->Value}{ms:Nat->Nat->QM}:∀(l:List Nat) (F:List Fct),OK fr (HQ l n rv ms++bx) F w->OK fr bx ((l.map λi=>slC (rv i) n 4 (JR (ms i)))++F) w
 |[],F,h=>h
 |i::l,F,h=>by
  have h1:=(OK.freeze (n:=n) (sz:=4) h Sel.head (Qu _ _) qd (JR (ms i)) λj hj=>QK hj)
  have h2:=ok_rows l _ (FL h1);refine h2.less λf hf=>?_;simp only[List.map_cons,List.cons_append,List.mem_cons,List.mem_append] at hf ⊢;rcases hf with rfl|hf|hf
  .exact .inr (.inl rfl)
  .exact .inl hf
  .exact .inr (.inr hf)
def okT{xg vars m n:Nat}{tv cv bv:Value}{rv:Nat->Value}{ms:Nat->Nat->QM}{mc:Nat->QM}{s:X.St}(ho:OK fr (TB xg vars m n tv cv bv rv ms mc s.b++bx) F w)(h1:Has F (mT m (n+1) ms s.t))(h2:Has F (mF (n+1) mc s.c)) :
  OK fr bx (fF cv (n+1) mc s.c::(TF xg vars m n tv cv bv rv ms s++F)) w:=by
 have a1:=OK.keep ho Rem.head;have a2:=FL (OK.freeze (n:=m) (sz:=1) a1 Sel.head (by rw[KP,Nat.mul_one]) qd rv λj hj=>Fo qo);have a3:=FL (OK.freeze (n:=n+1) (sz:=4) a2 Sel.head (Qu _ _) qd (JR mc) λj hj=>QK hj)
 have a4:=FL (OK.freeze (n:=m) (sz:=1) a3 Sel.head (by simp[fnL]) qd (λi=>.int .i64 (s.b i)) λj hj=>by
  have hj':j<m:=qo;simp[fnL,hj'])
 have a5:=ok_rows _ _ a4;refine⟨a5.frame,a5.apart,a5.nodup,a5.owns,λf hf=>?_⟩;have hF:∀f∈F,f.p (imm fr bx w.heap):=λf hf=>a5.facts f (List.mem_append_right _ (by simp[hf]));simp only[List.cons_append,List.nil_append,List.mem_cons] at hf;rcases hf with rfl|rfl|rfl|rfl|rfl|hf
 .exact⟨a5.facts _ (List.mem_append_right _ (by simp)),h2 _ hF⟩
 .exact a5.facts _ (List.mem_append_right _ (by simp))
 .exact a5.facts _ (List.mem_append_right _ (by simp))
 .exact⟨λi hi=>a5.facts _ (List.mem_append_left _ (List.mem_map.2 ⟨i,List.mem_range.2 hi,rfl⟩)),h1 _ hF⟩
 .exact a5.facts _ (List.mem_append_right _ (by simp))
 .exact hF f hf
def WL.FQ{P:Program}{nn:Nat}{L rest:List Oper}{e:Env}{Q2:Env->List Ow->List Fct->Prop}{xg vars m n:Nat}{tv cv bv:Value}{rv:Nat->Value}{ms:Nat->Nat->QM}{mc:Nat->QM}(s:X.St){bx':List Ow}(hp:bx.Perm (TB xg vars m n tv cv bv rv ms mc s.b++bx'))(h1:Has F (mT m (n+1) ms s.t))(h2:Has F (mF (n+1) mc s.c))
  (h:WL P nn L rest e bx' (fF cv (n+1) mc s.c::(TF xg vars m n tv cv bv rv ms s++F)) Q2):WL P nn L rest e bx F Q2:=λfr w0 a w Q' hQ hk hr ho=>h fr w0 a w Q' hQ hk hr (okT (ho.perm hp) h1 h2)
end
def AnsP(p:X.Lp)(kind xn yn:Nat)(x y:Nat->Rat)(z:Rat):Prop:=
 (kind=1/\xn=0/\yn=p.m/\z=0/\X.VB p y)\/(kind=0/\xn=p.v/\yn=p.m/\X.IsOpt p x y z)\/(kind=2/\xn=p.v/\yn=p.v/\z=0/\X.IsUnb p x y)
structure Am where
 xv:Value
 yv:Value
 mx:Nat->QM
 my:Nat->QM
 mz:QM
abbrev acs(M:Am)(kind:Int):List Value:=[.int .i64 kind,M.xv,M.yv,.bool M.mz.1,M.mz.2.1,.bool false,M.mz.2.2]
abbrev agv(M:Am)(kind:Int):Value:=.agg #[.int .i64 kind,M.xv,M.yv,.bool M.mz.1,M.mz.2.1,.bool false,M.mz.2.2]
def fA(M:Am)(xn yn:Nat)(x y:Nat->Rat)(z:Rat):Fct where
 p h:=(fF M.xv xn M.mx x).p h/\(fF M.yv yn M.my y).p h/\(isQ (qv M.mz) z).p h
 mono _ _ hl hp:=⟨(fF _ _ _ _).mono _ _ hl hp.1,(fF _ _ _ _).mono _ _ hl hp.2.1,(isQ _ _).mono _ _ hl hp.2.2⟩
section
variable {P:Program}{e:Env}{bx:List Ow}{F:List Fct}{ty:TypeId}{x y z u:Operand}{v v2:Value}{n n2:Nat}{i:Int}{m:QM}
def Qg.cT{fn:Func}{t s:Tmp}{ty:TypeId}{g tg m:Nat}{cs:List Value}{u:Value}(h:fn.results=#[.cell t ty,.tmp s])(hl:W.look e t=some (.pointer (some ⟨g,0,none⟩)))(hb:Ow.cells g tg cs∈bx)(hr:Row P ty m)(hm:cs.length=m)(hl2:W.look e s=some u):Qg P fn e bx F (.tuple #[.agg cs.toArray,u]):=λn fr a w hk ho=>by
 have he:=Kl (P:=P) (fr:=fr) (w:=w) (t:=ty) (b:=g) (q:=0) (cs:=cs) (es:=#[]) (by rw[hm];exact hr) (λ_ _=>.inl (ho.own hb (by simp[Ow.ids]))) (λi v hv=>by rw[Nat.zero_add,Ja (ho.owns _ hb)];exact hv) (Reads.none fr);obtain⟨⟨d,hu,hd⟩,hi⟩:=hr;have h1:a.tmps[t]?.getD undef=.pointer (some ⟨g,0,none⟩):=by rw[hk.at' _ _ hl];rfl
 have h2:=run_loadVar_mid (P:=P) w g 0 ty cs d (λi v hv=>by rw[Nat.zero_add,Ja (ho.owns _ hb)];exact hv) hu hd (by rw[hi];simp[hm]);have h3:a.tmps[s]?.getD undef=u:=by rw[hk.at' _ _ hl2];rfl
 simp only[results,h];refine⟨by simp[h1,asAddr,h2,h3],?_⟩;have h5:=he.ok;simpa [h1,asAddr,h2,h3] using h5
def YO.byP{op:Op}{p:Prop}{r:Value}(hp:∀fr w,OK fr bx F w->p)(h:p->YO P op ty e bx F r):YO P op ty e bx F r:=λk fr ac w o hop hty hk ho=>h (hp fr w ho) k fr ac w o hop hty hk ho
def YO.buildA1(h1:ev e x=some (.int .i64 i))(h2:ev e y=some v)(kd:KnS bx F v n):YO Tryz.prog (.build 122 #[(0,x),(2,y)]) ty e bx F (.agg #[.int .i64 i,.slice none 0 0,v,.bool false,.slice none 0 0,.bool false,.slice none 0 0]):=by
 refine YO.byP (p:=∃a c,v=.slice a n c) (λfr w ho=>by obtain⟨a,c,h1,_⟩:=(kd fr w ho).is;exact⟨a,c,h1⟩) ?_;rintro⟨a,c,rfl⟩;exact YO.build (parts:=[(0,x),(2,y)]) (.cons h1 (.cons h2 .nil)) λw=>run_build w 122 _ _ kr
def YO.buildA2(h1:ev e x=some (.int .i64 i))(h2:ev e y=some v)(h3:ev e z=some v2)(kd:KnS bx F v n)(kd2:KnS bx F v2 n2):YO Tryz.prog (.build 122 #[(0,x),(1,y),(2,z)]) ty e bx F (.agg #[.int .i64 i,v,v2,.bool false,.slice none 0 0,.bool false,.slice none 0 0]):=by
 refine YO.byP (p:=(∃a c,v=.slice a n c)/\∃a c,v2=.slice a n2 c) (λfr w ho=>by obtain⟨a,c,h1,_⟩:=(kd fr w ho).is;obtain⟨a2,c2,h2,_⟩:=(kd2 fr w ho).is;exact⟨⟨a,c,h1⟩,a2,c2,h2⟩) ?_;rintro⟨⟨a,c,rfl⟩,a2,c2,rfl⟩;exact YO.build (parts:=[(0,x),(1,y),(2,z)]) (.cons h1 (.cons h2 (.cons h3 .nil))) λw=>run_build w 122 _ _ kr
def YO.buildA3(h1:ev e x=some (.int .i64 i))(h2:ev e y=some v)(h3:ev e z=some v2)(h4:ev e u=some (qv m))(kd:KnS bx F v n)(kd2:KnS bx F v2 n2):YO Tryz.prog (.build 122 #[(0,x),(1,y),(2,z),(3,u)]) ty e bx F (.agg #[.int .i64 i,v,v2,.bool m.1,m.2.1,.bool false,m.2.2]):=by
 refine YO.byP (p:=(∃a c,v=.slice a n c)/\∃a c,v2=.slice a n2 c) (λfr w ho=>by obtain⟨a,c,h1,_⟩:=(kd fr w ho).is;obtain⟨a2,c2,h2,_⟩:=(kd2 fr w ho).is;exact⟨⟨a,c,h1⟩,a2,c2,h2⟩) ?_;rintro⟨⟨a,c,rfl⟩,a2,c2,rfl⟩;exact YO.build (parts:=[(0,x),(1,y),(2,z),(3,u)]) (.cons h1 (.cons h2 (.cons h3 (.cons h4 .nil)))) λw=>run_build w 122 _ _ kr
end
def vldP_ok{p:X.Lp}(hv:p.v<=48)(hm:p.m<=128):Dl p.v p.m p.v (λ_=>p.v)=0:=by
 unfold Dl;rw[if_neg qo,if_neg];rintro(h|h|h)
 .omega
 .exact h rfl
 .rcases X.XB (λ_=>decide ((p.v:Int)≠p.v)) p.m 0 with ⟨h1,_⟩|⟨j,_,_,_,h4,_⟩
  .rw[h1] at h;cases h
  .simp at h4
def has_A{F:List Fct}{M:Am}{xn yn:Nat}{x y:Nat->Rat}{z:Rat}(h1:Has F (fF M.xv xn M.mx x))(h2:Has F (fF M.yv yn M.my y))(h3:Has F (isQ (qv M.mz) z)):Has F (fA M xn yn x y z):=λp hp=>⟨h1 p hp,h2 p hp,h3 p hp⟩
def run_inv{p:X.Lp}{c1:Nat->Rat}{e:Nat}(he:e<=p.n){u:X.St}{k r:Nat}(h:X.Inv p.m p.n p.A c1 u)(hk:X.ent u e=some k)(hr:X.lev p.n u k p.m=some r):X.Inv p.m p.n p.A c1 (X.pv u r k):=by
 rcases X.Yn u e with ⟨h1,_⟩|⟨j,h1,h2,h3,_⟩
 .rw[hk] at h1;cases h1
 .rw[hk] at h1;cases h1;rcases X.K7 p.n u k p.m with ⟨g1,_⟩|⟨q,g1,g2,g3,_⟩
  .rw[hr] at g1;cases g1
  .rw[hr] at g1;cases g1;exact X.Inv.pv h g2 qo (by grind)
def IsAns2(p:X.Lp)(R0 R1 R:Nat):Qf:=λv B G=>∃(M:Am) (kind xn yn:Nat) (x y:Nat->Rat) (z:Rat),v=.tuple #[agv M (kind:Nat),.int .i64 0]/\B=[]/\G=[fA M xn yn x y z]/\AnsP p kind xn yn x y z/\(∀k,k<xn->Sq R0 (x k))/\(∀k,k<yn->Sq R1 (y k))/\Sq R z
namespace Z
attribute [local irreducible] WC WL WD YO LO Qq W.Fin Qv Qh Qj Row QV Qy KnS Has W.One Qp QJ
def d54{G G':Prop}(h:G')(s:Bx G'->G:=by
 intro h;first|refine gB ?_|refine Z2 ?_|(apply WC.draw (id:=5) [0,1,2,3,4,5,6,7] (.h 0<|.h 1<|.h 2<|.h 3<|.h 4<|.h 5<|.h 6<|.h 7<|.l 8<|.l 9 .done) mixed kr)|(apply WC.draw (id:=7) [0,1,2,3,4] (.h 0<|.h 1<|.h 2<|.h 3<|.h 4<|.l 5 .done) mixed kr)|(apply WC.draw (id:=8) [0,1,2,3,4,5,6,7,8,9,11] (.h 0<|.h 1<|.h 2<|.h 3<|.h 4<|.h 5<|.h 6<|.h 7<|.h 8<|.h 9<|.l 10<|.h 11 .done) mixed kr)|(apply WC.drawR (id:=17) [2] [0,1,3,4,5,9] (.h 0<|.h 1<|.h 3<|.h 4<|.h 5<|.l 2<|.l 6<|.l 7<|.l 8<|.h 9 .done) mixed kr;exact wq131)|fail
 exact Bx.h h):G:=s ⟨h⟩
def solve_c(M:Pm)(p:X.Lp)(K0 K L R:Nat)(hz:X.Szs p K0 K L)(hv:p.v<=48)(hm:p.m<=128)(hR1:2*K+1<=R)(hR2:L<=R)(hR3:p.v*(2*(2*K+1)+1)+1<=R):FnB Tryz.prog 54 [pgv M p.v] [] [fP M p] (IsAns2 p (2*K+1) (L+K+1) R):=by
 refine fO [(0,(pgv M p.v))] 82 Tryz.func54 Tryz.ntmps54 λh0=>?_;have hn:p.n=2*p.v+2*p.m:=rfl;have hla:p.la=2*p.v+p.m:=rfl;have hL:=hz.t;have hKL:=hz.kl;have hK0:=hz.pos;have hK:0<K:=Nat.lt_of_lt_of_le qo hz.k;obtain⟨F1,x1,hx1⟩:=X.Uy ((X.ok0 (p:=p) p.n).prc (e':=p.n) p.c1) (Nat.le_refl _);obtain⟨hq1,hok1,hq2,hq3⟩:=X.phase1 hx1;have hi1:X.Inv p.m p.n p.A p.c1 (X.prc p.m p.c1 p.s0):=(X.inv0 (p:=p)).prc p.c1;repeat'(first|intro(g:Nat)|refine d54 ?_|intro v)
 rename_i gp
 revert g;intro g2;refine WL.YM (ZT M p.m p.v (λ_=>p.v) p.a p.b p.g p.v) ?_ (hF:=.cons (.f hmA) .nil);rw[vldP_ok hv hm];repeat'(first|intro(g:Nat)|refine d54 ?_|intro v)
 refine WL.Q3 (made_c M p qo qo) ?_;rintro _ _ _ ⟨xg,tv,bv,rv,ms,rfl,rfl,rfl⟩;refine WL.perm ([Ow.cells g2 122 [.int .i64 0,.slice none 0 0,.slice none 0 0,.bool false,.slice none 0 0,.bool false,.slice none 0 0],Ow.cells gp 118 (pcs M p.v)]++TM xg p.v p.m p.n tv (.slice none 0 0) bv rv ms p.s0.b) List.perm_append_comm ?_;refine sNn ?_;repeat'(first|intro(g:Nat)|refine d54 ?_|intro v)
 rename_i g5
 revert g;intro g6;rw[show(2:Int)*(p.v:Int)+(p.m:Int)=((p.la:Nat):Int) by rw[hla];simp];refine WL.keep (g:=g6) (t:=3) (cs:=[.int .i64 (p.la:Int)]) wq9 ?_;refine WL.keep (g:=gp) (t:=118) (cs:=pcs M p.v) wq9 ?_;refine WL.keep (g:=g5) (t:=173) (cs:=[ptr xg]) wq9 ?_;refine WL.Zg (TM xg p.v p.m p.n tv (.slice none 0 0) bv rv ms p.s0.b) [Ow.cells g2 122 [.int .i64 0,.slice none 0 0,.slice none 0 0,.bool false,.slice none 0 0,.bool false,.slice none 0 0]] (List.perm_append_comm (l₁:=[_])) (price_c xg p.v p.m p.n tv (.slice none 0 0) bv rv ms p.s0 L 115 [] [ptr g6] [ce g6 3 [.int .i64 (p.la:Int)]] p.c1 (λk hk=>?_) qo qo qo X.inv0.bd (λi hi k hk=>(hz.T hi1 hi hk).up hKL) (λi hi k hk=>hz.P hz.c1 X.inv0 hi hk)) ?_
 .have:=cost1_c g6 k p.la
  rwa [show(if p.la<=k then(1:Rat) else 0)=p.c1 k by unfold X.Lp.c1;by_cases c:p.la<=k<;>simp[c,hk]] at this
 rintro _ _ _ ⟨cv,mc,rfl,rfl,rfl⟩;refine WL.perm ([Ow.cells g2 122 [.int .i64 0,.slice none 0 0,.slice none 0 0,.bool false,.slice none 0 0,.bool false,.slice none 0 0]]++TB xg p.v p.m p.n tv cv bv rv ms mc p.s0.b) List.perm_append_comm ?_;refine WL.QE (mF (p.n+1) mc (X.prc p.m p.c1 p.s0).c) (W.Has.QN (qf:=prS p.n p.c1 p.s0 p.m) hmA λj hj=>X.prS_prc X.inv0.bd X.inv0.u (by unfold X.Lp.c1;simp) hj) ?_;refine sNn ?_;repeat'(first|intro(g:Nat)|refine d54 ?_|intro v)
 refine WD.Zg (TB xg p.v p.m p.n tv cv bv rv ms mc p.s0.b) [Ow.cells g2 122 [.int .i64 0,.slice none 0 0,.slice none 0 0,.bool false,.slice none 0 0,.bool false,.slice none 0 0]] (List.perm_append_comm (l₁:=[_])) (run_c xg p.v p.m p.n p.n L F1 tv cv bv rv ms mc (X.prc p.m p.c1 p.s0) x1 (Nat.le_refl _) qo qo qo qo hx1 (λu=>X.Inv p.m p.n p.A p.c1 u) hi1 (λu k r h hk hr=>run_inv (Nat.le_refl _) h hk hr) (λu hu=>⟨λi hi k hk=>(hz.T hu hi hk).up hKL,λk hk=>hz.C hz.c1 hu hk⟩)) ?_;rintro _ _ _ ⟨ms2,mc2,rfl,rfl,rfl⟩;refine WD.perm ([Ow.cells g2 122 [.int .i64 0,.slice none 0 0,.slice none 0 0,.bool false,.slice none 0 0,.bool false,.slice none 0 0]]++TB xg p.v p.m p.n tv cv bv rv ms2 mc2 x1.1.b) List.perm_append_comm ?_;refine sNn ?_;refine WD.fact (isQ (qv (mc2 p.n)) (x1.1.c p.n)) (W.Has.q (ms:=mc2) (qf:=x1.1.c) (n:=p.n+1) hmA qo) ?_;repeat'(first|intro(g:Nat)|refine d54 ?_|intro v)
 refine cV (Zn.sign (mc2 p.n) (x1.1.c p.n)) ?_;have hsg:=@XS (x1.1.c p.n);by_cases hneg:x1.1.c p.n<0
 .have hs:=hsg.2 hneg;repeat'(first|intro(g:Nat)|refine d54 ?_|intro v)
  refine WL.FQ x1.1 (bx':=[Ow.cells g2 122 [.int .i64 0,.slice none 0 0,.slice none 0 0,.bool false,.slice none 0 0,.bool false,.slice none 0 0]]) (List.perm_append_comm (l₁:=[_])) hmA hmA ?_;simp only[List.cons_append,List.nil_append];refine WL.Q3 (slacks_c xg p.v p.m p.n tv cv bv mc2 x1.1.c qo qo qo) ?_;rintro yv _ _ ⟨my,rfl,rfl⟩;refine sNn ?_;repeat'(first|intro(g:Nat)|refine d54 ?_|intro v)
  refine WC.ret ?_;exact Fp [fA ⟨.slice none 0 0,yv,λ_=>m00,my,m00⟩ 0 p.m (λ_=>0) (λr=>x1.1.c (2*p.v+r)) 0] (Qg.cT rfl rfl meA T.r122 rfl rfl) (.cons (has_A (GQ _ _) hmA JA) .nil) ⟨_,1,0,p.m,_,_,0,rfl,rfl,rfl,.inl ⟨rfl,rfl,rfl,rfl,X.first_inf hx1 hneg⟩,λk hk=>absurd hk qo,λk hk=>(hz.C hz.c1 hok1.i qo).up qo,Sq.zero.up qo⟩
 .have hs:¬sgn (x1.1.c p.n).num<0:=λh=>hneg (hsg.1 h);have hdr:=X.Ff (e:=p.n) (last:=p.la) qo hok1 (hq3 hneg);have hD:=(hdr p.m (Nat.le_refl _)).1;repeat'(first|intro(g:Nat)|refine d54 ?_|intro v)
  refine WL.Zg (TB xg p.v p.m p.n tv cv bv rv ms2 mc2 x1.1.b) [Ow.cells g2 122 [.int .i64 0,.slice none 0 0,.slice none 0 0,.bool false,.slice none 0 0,.bool false,.slice none 0 0]] (List.perm_append_comm (l₁:=[_])) (drive_c xg p.v p.m p.n p.la L tv cv bv rv ms2 mc2 x1.1 qo qo qo qo qo (λi hi r hr k hk=>(hz.T (hdr i hi).1.i hr hk).up hKL) (λi hi k hk=>hz.C hz.c1 (hdr i hi).1.i hk)) ?_;rintro _ _ _ ⟨ms3,mc3,rfl,rfl,rfl⟩;generalize hDD:X.drP p.la x1.1 p.m=D at *;refine WL.perm ([Ow.cells g2 122 [.int .i64 0,.slice none 0 0,.slice none 0 0,.bool false,.slice none 0 0,.bool false,.slice none 0 0],Ow.slice cv 75 4 (Qa (p.n+1) mc3)]++TM xg p.v p.m p.n tv cv bv rv ms3 D.b) (List.perm_append_comm.trans ((List.perm_middle (l₁:=[_,_])).cons _)) ?_;refine sNn ?_;repeat'(first|intro(g:Nat)|refine d54 ?_|intro v)
  have hDi:X.Inv p.m p.n p.A p.c2 (X.prc p.m p.c2 D):=hD.i.prc p.c2;obtain⟨F2,y,hy⟩:=X.Uy (hD.prc (e':=p.la) p.c2) (show p.la<=p.n by omega);have hyi:X.Inv p.m p.n p.A p.c2 y.1:=(X.run_ok (hD.prc (e':=p.la) p.c2) (show p.la<=p.n by omega) hy).i;have hans:=X.second hx1 hneg (by rw[hDD];exact hy);refine WL.Zg (TM xg p.v p.m p.n tv cv bv rv ms3 D.b) [Ow.cells g2 122 [.int .i64 0,.slice none 0 0,.slice none 0 0,.bool false,.slice none 0 0,.bool false,.slice none 0 0],Ow.slice cv 75 4 (Qa (p.n+1) mc3)] (List.perm_append_comm (l₁:=[_,_])) (price_c xg p.v p.m p.n tv cv bv rv ms3 D L 119 [] [ptr gp] [ce gp 118 (pcs M p.v),fP M p] p.c2 (λk hk=>cost2_c M p gp k qo) qo qo qo hD.i.bd (λi hi k hk=>(hz.T hD.i hi hk).up hKL) (λi hi k hk=>hz.P hz.c2 hD.i hi hk)) ?_;rintro _ _ _ ⟨cv2,mc4,rfl,rfl,rfl⟩;refine WL.perm ([Ow.cells g2 122 [.int .i64 0,.slice none 0 0,.slice none 0 0,.bool false,.slice none 0 0,.bool false,.slice none 0 0],Ow.slice cv 75 4 (Qa (p.n+1) mc3)]++TB xg p.v p.m p.n tv cv2 bv rv ms3 mc4 D.b) List.perm_append_comm ?_;refine WL.QE (mF (p.n+1) mc4 (X.prc p.m p.c2 D).c) (W.Has.QN (qf:=prS p.n p.c2 D p.m) hmA λj hj=>X.prS_prc hD.i.bd hD.i.u (by unfold X.Lp.c2;rw[if_neg qo,if_neg qo]) hj) ?_;refine sNn ?_;repeat'(first|intro(g:Nat)|refine d54 ?_|intro v)
  refine WL.Zg (TB xg p.v p.m p.n tv cv2 bv rv ms3 mc4 D.b) [Ow.cells g2 122 [.int .i64 0,.slice none 0 0,.slice none 0 0,.bool false,.slice none 0 0,.bool false,.slice none 0 0],Ow.slice cv 75 4 (Qa (p.n+1) mc3)] (List.perm_append_comm (l₁:=[_,_])) (run_c xg p.v p.m p.n p.la L F2 tv cv2 bv rv ms3 mc4 (X.prc p.m p.c2 D) y qo qo qo qo qo hy (λu=>X.Inv p.m p.n p.A p.c2 u) hDi (λu k r h hk hr=>run_inv (e:=p.la) qo h hk hr) (λu hu=>⟨λi hi k hk=>(hz.T hu hi hk).up hKL,λk hk=>hz.C hz.c2 hu hk⟩)) ?_;rintro _ _ _ ⟨ms5,mc5,rfl,rfl,rfl⟩;refine WL.perm ([Ow.cells g2 122 [.int .i64 0,.slice none 0 0,.slice none 0 0,.bool false,.slice none 0 0,.bool false,.slice none 0 0],Ow.slice cv 75 4 (Qa (p.n+1) mc3)]++TB xg p.v p.m p.n tv cv2 bv rv ms5 mc5 y.1.b) List.perm_append_comm ?_;refine sNn ?_;have hTs:∀i,i<p.m->∀k,k<p.n+1->Sq K (y.1.t i k):=λi hi k hk=>hz.T hyi hi hk;have hnow:∀k,KQ p.m p.n y.1 k=X.wt p.m y.1 (λi=>y.1.t i p.n) k:=X.nowV_wt hyi;have hxs:(λk=>KQ p.m p.n y.1 k-KQ p.m p.n y.1 (p.v+k))=X.xs p y.1:=funext λk=>by rw[hnow,hnow];rfl
  have hnq:∀k,Sq K (KQ p.m p.n y.1 k):=X.nowV_sz hK λi hi=>hTs i hi _ qo;rcases hans with ⟨hy2,hopt⟩|⟨col,hy2,hunb⟩
  .rw[hy2,show X5 none= -1 from rfl];repeat'(first|intro(g:Nat)|refine d54 ?_|intro v)
   refine WL.FQ y.1 (bx':=_) (List.perm_append_comm (l₁:=[_,_,_])) hmA hmA ?_;simp only[List.cons_append,List.nil_append];refine WL.Q3 (F3 xg p.v K (.int .i64 (p.m:Int)) (.int .i64 (p.n:Int)) tv cv2 bv 124 [ptr xg] [] (TF xg p.v p.m p.n tv cv2 bv rv ms5 y.1) (KQ p.m p.n y.1) qo qo (λk _=>now_c xg p.v p.m p.n k tv cv2 bv rv ms5 y.1) (λk _=>hnq k)) ?_;rw[hxs];rintro xv _ _ ⟨mx,rfl,rfl⟩;refine sNn ?_;repeat'(first|intro(g:Nat)|refine d54 ?_|intro v)
   refine WD.Q3 (slacks_c xg p.v p.m p.n tv cv2 bv mc5 y.1.c qo qo qo) ?_;rintro yv _ _ ⟨my,rfl,rfl⟩;refine sNn ?_;refine WD.fact (fF M.gv p.v M.mg p.g) (W.Has.pg (M:=M) (m:=p.m) (gn:=p.v) (ln:=λ_=>p.v) (a:=p.a) (b:=p.b) (g:=p.g) hmA) ?_;repeat'(first|intro(g:Nat)|refine d54 ?_|intro v)
   refine WD.Q3 (dot_c M.gv xv p.v (2*K+1) M.mg mx p.g (X.xs p y.1) qo hz.d (λi hi=>(hz.g i hi).up (by have:=hz.k;omega)) (λi _=>by rw[<-hxs];exact((hnq i).sub (hnq _)).up qo)) ?_;rintro _ _ _ ⟨mz,rfl,rfl,rfl⟩;refine sNn ?_;repeat'(first|intro(g:Nat)|refine d54 ?_|intro v)
   (apply WD.yl;exact rfl;exact XG;exact rfl;exact rfl)
   repeat'(first|intro(g:Nat)|refine d54 ?_|intro v)
   refine WC.ret ?_;exact Fp [fA ⟨xv,yv,mx,my,mz⟩ p.v p.m (X.xs p y.1) (λr=>y.1.c (2*p.v+r)) (X.sm p.v λk=>p.g k*X.xs p y.1 k)] (Qg.cT rfl rfl meA T.r122 rfl rfl) (.cons (has_A hmA hmA hmA) .nil) ⟨_,0,p.v,p.m,_,_,_,rfl,rfl,rfl,.inr (.inl ⟨rfl,rfl,rfl,hopt⟩),λk _=>by rw[<-hxs];exact((hnq k).sub (hnq _)).up qo,λk hk=>(hz.C hz.c2 hyi qo).up qo,(X.Kw (m:=p.v) (f:=λk=>p.g k*X.xs p y.1 k) (k:=2*(2*K+1)) λi hi=>by rw[<-hxs];exact(Sq.mul (k:=2*K+1) (l:=2*K+1) ((hz.g i hi).up (by have:=hz.k;omega)) (((hnq i).sub (hnq _)).up qo)).up qo).up hR3⟩
  .rcases X.Dj F2 _ y hy with ⟨h1,_⟩|⟨col',h1,hcl,hcn,_⟩
   .rw[hy2] at h1;cases h1
   rw[hy2] at h1;cases h1;rw[hy2,show X5 (some col)=(col:Int) from rfl];repeat'(first|intro(g:Nat)|refine d54 ?_|intro v)
   revert g;intro g7;refine WL.keep (g:=g7) (t:=3) (cs:=[.int .i64 (col:Int)]) wq9 ?_;refine WL.FQ y.1 (bx':=_) (List.perm_append_comm (l₁:=[_,_])) hmA hmA ?_;simp only[List.cons_append,List.nil_append];have hray:(λk=>Z4 p.m y.1 col k-Z4 p.m y.1 col (p.v+k))=X.dr p y.1 col:=funext λk=>by rw[X.rayV_rv hyi hcn,X.rayV_rv hyi hcn];rfl
   refine WL.Q3 (F3 xg p.v K (.int .i64 (p.m:Int)) (.int .i64 (p.n:Int)) tv cv2 bv 122 [] [ptr g5,ptr g7] (ce g5 173 [ptr xg]::ce g7 3 [.int .i64 (col:Int)]::TF xg p.v p.m p.n tv cv2 bv rv ms5 y.1) (Z4 p.m y.1 col) qo qo (λk _=>rayf_c g5 g7 xg p.v p.m p.n k col tv cv2 bv rv ms5 y.1 qo) (λk _=>X.F5 hK (λi hi=>hTs i hi col qo) k)) ?_;rw[hray];rintro yv _ _ ⟨my,rfl,rfl⟩;refine sNn ?_;repeat'(first|intro(g:Nat)|refine d54 ?_|intro v)
   refine WL.Q3 (F3 xg p.v K (.int .i64 (p.m:Int)) (.int .i64 (p.n:Int)) tv cv2 bv 124 [ptr xg] [] (TF xg p.v p.m p.n tv cv2 bv rv ms5 y.1) (KQ p.m p.n y.1) qo qo (λk _=>now_c xg p.v p.m p.n k tv cv2 bv rv ms5 y.1) (λk _=>hnq k)) ?_;rw[hxs];rintro xv _ _ ⟨mx,rfl,rfl⟩;refine sNn ?_;repeat'(first|intro(g:Nat)|refine d54 ?_|intro v)
   refine WC.ret ?_;exact Fp [fA ⟨xv,yv,mx,my,m00⟩ p.v p.v (X.xs p y.1) (X.dr p y.1 col) 0] (Qg.cT rfl rfl meA T.r122 rfl rfl) (.cons (has_A hmA hmA JA) .nil) ⟨_,2,p.v,p.v,_,_,0,rfl,rfl,rfl,.inr (.inr ⟨rfl,rfl,rfl,rfl,hunb⟩),λk _=>by rw[<-hxs];exact((hnq k).sub (hnq _)).up qo,λk hk=>by rw[<-hray];exact((X.F5 hK (λi hi=>hTs i hi col qo) k).sub (X.F5 hK (λi hi=>hTs i hi col qo) _)).up qo,Sq.zero.up qo⟩
end Z
end Go.Proofs.YtbnobghgnbockaaGreat
