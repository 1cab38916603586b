/- Lemmas. Conditions: none. -/
import Derived.Test.YtbnobghgnbockaaGreatZk36
set_option linter.all false
set_option maxHeartbeats 0
set_option maxRecDepth 100000
namespace Go.Proofs.YtbnobghgnbockaaGreat
open Tryz (prog)
open W Go.RowKit
open Bl (Vc Bd Tc Sc)
def IsTo(L:List Tc)(ms:Nat->ToM):Qd:=λv B G=>B=[lO Qu v 93 L.length ms (tl L)]/\G=[]
def IsTl(L:List Tc):Qd:=λv B G=>∃ms,B=[]/\G=[lF Qu v L.length ms (tl L)]
def U6{s:nd}{i:Nat}(h:i<s.length):s.take (i+1)=s.take i++[s.getD i 0]:=by
 rw[List.take_add_one,List.getElem?_eq_getElem h,List.getD_eq_getElem?_getD,List.getElem?_eq_getElem h];rfl
def Ya{t:List Tc}{P:List (List Tc)}{s:nd}{i:Nat}(h:i<s.length):Fx.Ql t P (s.take i)++pl P (s.getD i 0).toNat=Fx.Ql t P (s.take (i+1)):=by
 rw[U6 h];unfold Fx.Ql;rw[aS,List.append_assoc];simp
def flat_le{P:List (List Tc)}(hP:∀p∈P,p.length<=100):∀s:nd,(s.flatMap λk=>P.getD k.toNat []).length<=100*s.length
 |[]=>by simp
 |k::s=>by
  have h1:=flat_le hP s
  have h2:(P.getD k.toNat []).length<=100:=by
   rw[List.getD_eq_getElem?_getD];cases e:P[k.toNat]? with
   |none=>simp
   |some p=>exact hP p (bQ e)
  rw[aZ,List.length_append,aK];omega
def Zf{t:List Tc}{P:List (List Tc)}(ht:t.length<=100)(hP:∀p∈P,p.length<=100)(s:nd):(Fx.Ql t P s).length<=100+100*s.length:=by
 have:=flat_le hP s;unfold Fx.Ql;rw[List.length_append];omega
namespace K
namespace Q
namespace Y
attribute [local irreducible] WC WL WD YO LO Qq W.Fin Qk Qh Qj Row QZ Qv KnS Has W.One Qo QX
def cloneT_c(u:nA)(L:List Tc)(ms:Nat->ToM)(hn:L.length<=1000):FnB prog 69 [u] [] [lF Qu u L.length ms (tl L)] (IsTo L ms):=by
 refine fO [(0,u)] 8 Tryz.func69 Tryz.ntmps69 λh0=>?_;cases hnl:isNil u with
 |true=>
  refine WC.nilLF (S:=Qu) (v:=u) (n:=L.length) (ms:=ms) (xs:=tl L) hmA hnl λh=>?_;obtain rfl:=bB h;refine gPr ?_;refine WC.QL 93 30 ?_;exact wq102
 |false=>
  refine gPr ?_;intro v v;exact wq102
def VC(tv pv sv:nA)(t:List Tc)(P:List (List Tc))(s:nd)(tm:Nat->ToM)(pm:Nat->nA×(Nat->ToM))(ht:t.length<=100)(hP:∀p∈P,p.length<=100)(hs:s.length<=10)(hr:∀x∈s,0<=x/\x<(P.length:Int))(hPl:P.length<=1000) :
  FnB prog 41 [tv,pv,sv] [] [lF Qu tv t.length tm (tl t),lF tlS pv P.length pm (pl P),sI sv s] (IsTl (Fx.Ql t P s)):=by
 refine fO [(0,tv),(1,pv),(2,sv)] 26 Tryz.func41 Tryz.ntmps41 λh0=>?_;refine WC.ZE sv s hmA λhlen=>?_;refine gPr ?_;refine cK (cloneT_c tv t tm qo) ?_;rintro v11 _ _ ⟨rfl,rfl⟩;refine gPs ?_;have e0:Fx.Ql t P (s.take 0)=t:=by simp[Fx.Ql]
 refine WC.JK (σ:=nA×(Nat->ToM)) (λst=>[(7,st.1)]) (λst=>[lO Qu st.1 93 (Fx.Ql t P s).length st.2 (tl (Fx.Ql t P s))]) (λst=>[lM Qu (Fx.Ql t P s).length st.2 (tl (Fx.Ql t P s)),ge h0]) (λ_=>True) ?_ ?_
 .refine WC.lp (σ:=Nat×nA×(Nat->ToM)) (λst=>[(14,.int .i64 (st.1:Int)),(13,.int .i64 (s.length:Int)),(12,sv),(7,st.2.1),(0,tv),(1,pv),(2,sv)]) (λst=>[lO Qu st.2.1 93 (Fx.Ql t P (s.take st.1)).length st.2.2 (tl (Fx.Ql t P (s.take st.1)))]) (λst=>[lM Qu (Fx.Ql t P (s.take st.1)).length st.2.2 (tl (Fx.Ql t P (s.take st.1))),ge h0,lF tlS pv P.length pm (pl P),sI sv s]) (λst=>st.1<=s.length) (λst=>s.length-st.1) (0,v11,tm) (aj _) ?_ (hB:=by simp only[e0];exact slA) (hG:=by simp only[e0];exact .cons (W.Has.lm (v:=tv) hmA) haA);rintro⟨i,v,ms⟩ hi;simp only at hi ⊢;by_cases d:i<s.length
  .have hk:=hr _ (Fx.Uw d);have hkn:(s.getD i 0).toNat<P.length:=qo;have htk:(s.take i).length<=10:=by rw[ar];omega
   have hl:=Zf ht hP (s.take i)
   have hp:(pl P (s.getD i 0).toNat).length<=100:=hP _ (by
    show P.getD _ []∈P;rw[List.getD_eq_getElem?_getD,List.getElem?_eq_getElem hkn];exact cD hkn)
   refine WC.fact (lF Qu (pm (s.getD i 0).toNat).1 (pl P (s.getD i 0).toNat).length (pm (s.getD i 0).toNat).2 (tl (pl P (s.getD i 0).toNat))) (W.Has.lk (S:=tlS) (v:=pv) (ms:=pm) (xs:=pl P) hmA hkn) ?_;refine gPr ?_;intro v;rw[Ya d];refine Qq.mk (i+1,_,Zs (Fx.Ql t P (s.take i)).length ms (pm (s.getD i 0).toNat).2) wq14 wq14 (hG:=.cons ?_ haA);simp only;rw[<-Ya d];exact lM_cat (S:=Qu) hmA (W.Has.lm (v:=(pm (s.getD i 0).toNat).1) hmA)
  .obtain rfl:i=s.length:=qo;refine gPr ?_;rw[aQ];exact Qr (v,ms) trivial
 rintro⟨v,ms⟩ _;simp only;refine WC.QA (S:=Qu) (v:=v) (n:=(Fx.Ql t P s).length) (ms:=ms) (xs:=tl (Fx.Ql t P s)) wq3 hmA ?_;refine gPr ?_;exact wq124
end Y
end Q
end K
def PO(K:Nat)(w:ng)(m:Nat->Nat->ToM)(L:Nat->List Tc):nw:=(List.range K).map λq=>lO Qu (w q) 93 (L q).length (m q) (tl (L q))
def PM(K:Nat)(m:Nat->Nat->ToM)(L:Nat->List Tc):Fct:=Gw K λq=>lM Qu (L q).length (m q) (tl (L q))
def Sel.appR{l l' r:nw}{b b':Ow}(h:Sel l b b' l'):Sel (l++r) b b' (l'++r):=by
 induction h with
 |head=>exact .head
 |tail _ ih=>exact .tail ih
def Sel.last{b b':Ow}:∀l:nw,Sel (l++[b]) b b' (l++[b'])
 |[]=>.head
 |_::l=>.tail (Sel.last l)
section
variable {K q:Nat}{w:ng}{m:Nat->Nat->ToM}{L:Nat->List Tc}{v':nA}{m':Nat->ToM}{L':List Tc}{F:nc}
def Vt:PO (K+1) w m L=PO K w m L++[lO Qu (w K) 93 (L K).length (m K) (tl (L K))]:=by
 unfold PO;rw[cH,cJ];rfl
def PO_out(h:K<=q):PO K (Qy w q v') (Qy m q m') (Qy L q L')=PO K w m L:=by
 unfold PO;refine b9 λi hi=>?_;have hi:=List.mem_range.1 hi;rw[Qt qo,Qt qo,Qt qo]
def PO_sel:∀K,q<K->Sel (PO K w m L) (lO Qu (w q) 93 (L q).length (m q) (tl (L q))) (lO Qu v' 93 L'.length m' (tl L')) (PO K (Qy w q v') (Qy m q m') (Qy L q L'))
 |0,h=>absurd h (bY _)
 |K+1,h=>by
  rw[Vt,Vt];by_cases e:q=K
  .subst e;rw[PO_out (ai _),QF,QF,QF];exact Sel.last _
  .rw[Qt (show K≠q by omega),Qt (show K≠q by omega),Qt (show K≠q by omega)];exact Sel.appR (PO_sel K qo)
def PO_mem(hq:q<K):lO Qu v' 93 L'.length m' (tl L')∈PO K (Qy w q v') (Qy m q m') (Qy L q L'):=by
 unfold PO;refine List.mem_map.2 ⟨q,List.mem_range.2 hq,?_⟩;rw[QF,QF,QF]
def PM_at(h:W.Has F (PM K m L))(hq:q<K):W.Has F (lM Qu (L q).length (m q) (tl (L q))):=λp hf=>h p hf q hq
def PM_upd(h:W.Has F (PM K m L))(h2:W.Has F (lM Qu L'.length m' (tl L'))):W.Has F (PM K (Qy m q m') (Qy L q L')):=λp hf i hi=>by
 show(lM Qu (Qy L q L' i).length (Qy m q m' i) (tl (Qy L q L' i))).p p;by_cases e:i=q
 .subst e;rw[QF,QF];exact h2 p hf
 .rw[Qt e,Qt e];exact h p hf i hi
def PO_ok{fr:CF}{H:nm}{pre:nw}:∀(K:Nat) (F:nc),OK fr (pre++PO K w m L) F H->W.Has F (PM K m L)->OK fr pre (Gw K (λq=>lF Qu (w q) (L q).length (m q) (tl (L q)))::F) H
 |0,F,ho,_=>by
  rw[show PO 0 w m L=[] from rfl,aU] at ho;exact ho.add λi hi=>absurd hi (bY _)
 |K+1,F,ho,hm=>by
  rw[Vt,<-List.append_assoc] at ho;have h1:=ho.QA (S:=Qu) (Sel.last _) (PM_at hm (Nat.lt_succ_self K));have h2:=h1.drop (dJ _ _);have h3:=PO_ok K _ h2 λp hf i hi=>hm p (λg hg=>hf g (au _ hg)) i qo;refine⟨h3.frame,h3.apart,h3.nodup,h3.owns,λf hf=>?_⟩;rcases List.mem_cons.1 hf with rfl|hf
  .intro i hi;by_cases e:i=K
   .subst e;exact h3.facts _ (au _ (an ..))
   .exact h3.facts _ (an ..) i qo
  .exact h3.facts f (au _ (au _ hf))
def WC.freezeP{P:nh}{n:Nat}{c:Code}{e:Env}{pre:nw}{Q:Post}(hm:W.Has F (PM K m L))(h:WC P n c e pre (Gw K (λq=>lF Qu (w q) (L q).length (m q) (tl (L q)))::F) Q):WC P n c e (pre++PO K w m L) F Q:=λfr w0 a H hk hr ho=>h fr w0 a H hk hr (PO_ok K F ho hm)
def OK.addPO{fr:CF}{H:nm}{bx:nw}(m:Nat->Nat->ToM):∀K,OK fr bx F H->OK fr (bx++PO K (λ_=>nz) m λ_=>[]) F H
 |0,ho=>by rw[show PO 0 (λ_=>nz) m (λ_=>[])=[] from rfl,aU];exact ho
 |K+1,ho=>by
  have h:=(OK.addPO m K ho).QL 93 30;rw[Vt,<-List.append_assoc];exact h.perm (ay (l₁:=[_]))
def WC.addPO{P:nh}{n:Nat}{c:Code}{e:Env}{bx:nw}{Q:Post}(K:Nat)(m:Nat->Nat->ToM)(h:WC P n c e (bx++PO K (λ_=>nz) m λ_=>[]) F Q):WC P n c e bx F Q:=λfr w0 a H hk hr ho=>h fr w0 a H hk hr (OK.addPO m K ho)
def PM_nil{m:Nat->Nat->ToM}:W.Has F (PM K m λ_=>[]):=λp _ i _ j hj=>absurd hj (bY _)
def outer_cells:JQ K w=QG tlS K (λq=>(w q,m q)) L:=by
 refine Js (by rw[Qg];exact(bP K).symm) λj hj=>?_;have hj:j<K:=by have:j<K*1:=hj;omega
 rw[QU hj];show some (w j)=some (JG 1 (λk=>[w k]) j);unfold JG;rw[Nat.div_one,dI];rfl
def G5{u:nA}(h:q<K):(JQ K w).set q u=JQ K (Qy w q u):=by
 refine Js (by rw[bZ,Qg]) λj hj=>?_;rw[List.getElem?_set];by_cases e:q=j
 .subst e;rw[ah rfl,Qg,ah h,QF]
 .rw[ae e,QU hj,Qt (λh=>e h.symm)]
def pl_set{P:List (List Tc)}{x:List Tc}(h:q<P.length):Qy (pl P) q x=pl (P.set q x):=funext λj=>by
 unfold Qy;simp only[pl,List.getD_eq_getElem?_getD,List.getElem?_set];by_cases e:j=q
 .subst e;rw[ah rfl,ah rfl,ah h];rfl
 .rw[ae e,ae (λh=>e h.symm)]
end
section
variable {e:Env}{bx:nw}{F:nc}{ty:nl}{v w:nA}{x y:ni}{K:Qd}
def LO.appT1{el':nl}{L:List Tc}{tm:Nat->ToM}{t1:ToM}{tc:Tc}{bx2:nA->nw}(hx:ev e x=some v)(hy:ev e y=some w)(hu:Ow.slice w el' 30 (tcs t1 tc)∈bx)(hm:W.Has F (fT t1 tc))(hs:∀v',Sel bx (lO Qu v 93 L.length tm (tl L)) (lO Qu v' 93 (L++[tc]).length (Qy tm L.length t1) (tl (L++[tc]))) (bx2 v'))(hl:L.length<=1000000)(h:∀v',K v' (bx2 v') F) :
  LO prog (.call {callee:=.builtin .append,args:=#[x,y],argTypes:=#[32,32]}) ty e bx F K:=
 LO.appL (S:=Qu) (ms:=tm) (xs:=tl L) (n:=L.length) (mm:=t1) (aa:=tc) T.e32 hx hy hu (Vd hm) (λv'=>by rw[lO_snoc];exact hs v') qd qd hl h
end
def kept(p:nd->Bool)(C:List nd)(j:Nat):List nd:=(C.take j).filter λs=>!p s
section
variable {p:nd->Bool}{C:List nd}{j:Nat}
def Zg(h:j<C.length):C.take (j+1)=C.take j++[sl C j]:=by
 rw[List.take_add_one,List.getElem?_eq_getElem h,sl,List.getD_eq_getElem?_getD,List.getElem?_eq_getElem h];rfl
def kept_yes(h:j<C.length)(hp:p (sl C j)=true):kept p C (j+1)=kept p C j:=by
 unfold kept;rw[Zg h,dx,dN,hp];exact aU _
def kept_no(h:j<C.length)(hp:p (sl C j)=false):kept p C (j+1)=kept p C j++[sl C j]:=by
 unfold kept;rw[Zg h,dx,dN,hp];rfl
def kept_all:kept p C C.length=C.filter λs=>!p s:=by unfold kept;rw[aQ]
def Hs{i:Nat}(hi:i<=C.length)(h:∀q,q<i->p (sl C q)=false):kept p C i=C.take i:=by
 unfold kept;rw[List.filter_eq_self];intro s hs;obtain⟨q,hq,rfl⟩:=List.mem_iff_getElem.1 hs;have hq2:q<i:=by rw[ar] at hq;omega
 have h1:=h q hq2;rw[sl,List.getD_eq_getElem?_getD,List.getElem?_eq_getElem qo] at h1;rw[List.getElem_take];simpa using h1
def sl_snoc{D:List nd}{s:nd}{q:Nat}(h:q<D.length):sl (D++[s]) q=sl D q:=by
 rw[sl,sl,List.getD_eq_getElem?_getD,List.getD_eq_getElem?_getD,List.getElem?_append_left h]
def sl_last{D:List nd}{s:nd}:sl (D++[s]) D.length=s:=by
 rw[sl,List.getD_eq_getElem?_getD];simp
def sl_out{D:List nd}{q:Nat}(h:D.length<=q):sl D q=[]:=by
 rw[sl,List.getD_eq_getElem?_getD,List.getElem?_eq_none h];rfl
end
def He{bx:nw}{F:nc}:∀{G:nc},(∀g∈G,QV bx F g)->QY bx F G
 |[],_=>.nil
 |_::_,h=>.cons (h _ (an ..)) (He λg hg=>h g (au _ hg))
def has_sI0{F:nc}:W.Has F (sI nz []):=λp _=>⟨none,0,rfl,ai _,by simp[maxLen],.inl ⟨rfl,rfl,rfl⟩⟩
section
variable {M α:Type}{S:Shp M α}{F:nc}{v:nA}{n i:Nat}{ms ns:Nat->M}{xs ys:Nat->α}
def W.Has.takeL(h:W.Has F (lF S v n ms xs))(hi:i<=n):W.Has F (lF S (resl v 0 i S.w) i ms xs):=λp hf=>by
 obtain⟨h1,h2⟩:=h p hf;refine⟨?_,λk hk=>h2 k qo⟩;have h3:=ZR (lo:=0) h1 (aj i) hi;rw[Nat.sub_zero] at h3;exact Y7 h3 λj _=>by rw[Nat.zero_mul,aR]
def row1{ms:ng}{xs:Nat->nd}{j:Nat}:Zo Qp ms xs j=ms j:=by
 unfold Zo JG;simp[dI]
def cells_set1{ms:ng}{xs:Nat->nd}{u:nA}{a:nd}(h:i<n):(QG Qp n ms xs).set i u=QG Qp n (Qy ms i u) (Qy xs i a):=by
 have h1:=HJ (S:=Qp) (ms:=ms) (xs:=xs) (mm:=u) (aa:=a) h;rw[<-h1,bP,Vl _ _ _ (by rw[Qg];show i<n*1;omega)]
def cells_clear{ms:ng}{xs ys:Nat->nd}(hi:i<=n):(QG Qp n ms xs).take i++List.replicate (n-i) nz=QG Qp n (λq=>if q<i then ms q else nz) ys:=by
 have hl:((QG Qp n ms xs).take i).length=i:=by rw[ar,Qg];show min i (n*1)=i;omega
 refine Js (by rw[List.length_append,hl,bC];show _=n*1;omega) λj hj=>?_;rw[row1]
 have hj:j<n:=by
  have:j<n*1:=hj;omega
 by_cases c:j<i
 .rw[List.getElem?_append_left qo,List.getElem?_take,ah c,QU (by show j<n*1;omega),row1,ah c]
 .rw[List.getElem?_append_right qo,hl,ae c,List.getElem?_replicate,ah qo]
def has_clr{D:List nd}{ms:ng}{xs:Nat->nd}(h:W.Has F (lM Qp n ms xs))(hx:∀q,q<D.length->xs q=sl D q):W.Has F (lM Qp n (λq=>if q<D.length then ms q else nz) (sl D)):=λph hf q hq=>by
 by_cases c:q<D.length
 .have h1:=h ph hf q hq;simp only at h1 ⊢;rw[ah c,<-hx q c];exact h1
 .simp only;rw[ae c,sl_out qo];exact has_sI0 ph hf
def LO.storeSet{P:nh}{e:Env}{bx bx':nw}{ty t el:nl}{x y:ni}{K:Qd}{u:nA}{a:nd}{ms:ng}{xs:Nat->nd}(hx:ev e x=some (.pointer (some (eaddr v i))))(hy:ev e y=some u)(hz:(P.info? t).map (·.size)=some 1)(hu:W.Has F (sI u a))
  (hs:Sel bx (lO Qp v el n ms xs) (lO Qp v el n (Qy ms i u) (Qy xs i a)) bx') (hi:i<n) (h:K undef bx' F):LO P (.store t x y) ty e bx F K:=
 LO.J2 hx hy hz (One.sl (KnS.f hu)) hs (by rw[Qg];show i<n*1;omega) (cells_set1 hi) h
end
namespace K
namespace Q
namespace Y
attribute [local irreducible] WC WL WD YO LO Qq W.Fin Qk Qh Qj Row QZ Qv KnS Has W.One Qo QX
def indexS_c(v:nA)(C:List nd)(ms:ng)(f:np)(first cap:ne)(Fc:nc)(p:nd->Bool)
  (hf:∀i,i<C.length->FnB prog f (first++[ms i]++cap) [] (sI (ms i) (sl C i)::Fc) (IsV (.bool (p (sl C i))))) :
  FnB prog 146 [v,.func (.func f) first.toArray cap.toArray] [] (lF Qp v C.length ms (sl C)::Fc) (IsV (nj (Yx (X.fstT (λi=>p (sl C i)) C.length 0)))):=by
 refine fO [(0,v),(1,(.func (.func f) first.toArray cap.toArray))] 19 Tryz.func146 Tryz.ntmps146 λh0=>?_;refine WC.lenF (v:=v) (m:=C.length) (W.Has.ls (S:=Qp) (ms:=ms) (xs:=sl C) hmA) λhm=>?_;refine gPr ?_;refine WC.lp (σ:=Nat) (λi=>[(8,nj i),(7,nj (C.length:Int)),(0,v),(1,.func (.func f) first.toArray cap.toArray)]) (λ_=>[]) (λ_=>ge h0::lF Qp v C.length ms (sl C)::Fc) (λi=>i<=C.length/\X.fstT (λi=>p (sl C i)) C.length 0=X.fstT (λi=>p (sl C i)) (C.length-i) i) (λi=>C.length-i) 0 ⟨aj _,rfl⟩ ?_ (hG:=.cons hmA (.cons hmA (Qz.tail nv)));rintro i ⟨hi,he⟩;by_cases c:i<C.length
 .rw[VV c] at he;refine gPr ?_;refine WL.XV first cap (vs:=[ms i]) (hf i c) ?_ (hF:=.cons (W.Has.lk (S:=Qp) (v:=v) (ms:=ms) (xs:=sl C) hmA c) (Qz.tail nv))
  rintro _ _ _ ⟨rfl,rfl,rfl⟩;refine sNn ?_;cases hp:p (sl C i) with
  |true=>
   rw[ah hp] at he;rw[he];refine gPr ?_;exact wq4
  |false=>
   rw[ae (by rw[hp];decide)] at he;refine gPr ?_;exact Qq.mk (i+1) ⟨by omega,he⟩ qo (hG:=.cons hmA (.cons hmA (Qz.tail nv)))
 .obtain rfl:C.length=i:=qo;rw[df,X.fstT] at he;rw[he];refine gPr ?_;exact wq4
def delete_c(v:nA)(C:List nd)(ms:ng)(f:np)(first cap:ne)(Fc:nc)(p:nd->Bool)(hC:C.length<=100000)
  (hf:∀u i,i<C.length->FnB prog f (first++[u]++cap) [] (sI u (sl C i)::Fc) (IsV (.bool (p (sl C i))))) :
  FnB prog 68 [v,.func (.func f) first.toArray cap.toArray] [lO Qp v 28 C.length ms (sl C)] (lM Qp C.length ms (sl C)::Fc) (λr B G=>∃ms',B=[]/\G=[lF Qp r (C.filter λs=>!p s).length ms' (sl (C.filter λs=>!p s))]):=by
 refine fO [(0,v),(1,(.func (.func f) first.toArray cap.toArray))] 42 Tryz.func68 Tryz.ntmps68 λh0=>?_;refine gPr ?_;refine WL.Y1 (indexS_c v C ms f first cap Fc p λi hi=>hf _ i hi) ?_ (hF:=.cons (QV.lo (S:=Qp) meA hmA) (He λf hf=>QV.f (Has.mem (by(repeat(first|exact hf|apply au))))));rcases X.XR (λi=>p (sl C i)) C.length 0 with ⟨e,hno⟩|⟨i0,e,_,hi0,hy,hno⟩
 .rw[e,show Yx none= -1 from rfl]
  have hfil:(C.filter λs=>!p s)=C:=by
   rw[<-kept_all,Hs (ai _) λq hq=>hno q (aj _) qo,aQ]
  rw[hfil];refine gPr ?_;refine WC.QA (S:=Qp) (v:=v) (n:=C.length) (ms:=ms) (xs:=sl C) wq3 hmA ?_;refine WC.ret ?_;exact Fp [_] (Qf.t1 rfl rfl) (.cons hmA .nil) ⟨ms,rfl,rfl⟩
 rw[e,show Yx (some i0)=(i0:Int) from rfl];refine gPr ?_;refine WC.JK (σ:=(ng)×(Nat->nd)) (λst=>[(5,.int .i64 ((C.filter λs=>!p s).length:Int)),(0,v)]) (λst=>[lO Qp v 28 C.length st.1 st.2]) (λst=>[lM Qp C.length st.1 st.2,ge h0]) (λst=>∀q,q<(C.filter λs=>!p s).length->st.2 q=sl (C.filter λs=>!p s) q) ?_ ?_
 .have hk0:kept p C i0=C.take i0:=Hs qo λq hq=>hno q (aj _) hq;have hk1:kept p C (i0+1)=C.take i0:=by rw[kept_yes qo hy,hk0]
  refine WC.lp (σ:=Nat×ng×(Nat->nd)) (λst=>[(6,.int .i64 (st.1:Int)),(5,.int .i64 ((kept p C st.1).length:Int)),(0,v),(1,.func (.func f) first.toArray cap.toArray)]) (λst=>[lO Qp v 28 C.length st.2.1 st.2.2]) (λst=>ge h0::lM Qp C.length st.2.1 st.2.2::Fc)
   (λst=>i0+1<=st.1/\st.1<=C.length/\(kept p C st.1).length<st.1/\(∀q,q<(kept p C st.1).length->st.2.2 q=sl (kept p C st.1) q)/\∀q,st.1<=q->st.2.2 q=sl C q) (λst=>C.length-st.1) (i0+1,ms,sl C) ⟨ai _,by simp only;omega,by simp only[hk1,ar];omega,?hq,λq _=>rfl⟩ ?hr (hE:=?he) (hG:=.cons hmA (.cons hmA (Qz.tail nv)))
  case hq=>
   intro q hq;simp only[hk1,ar] at hq ⊢;rw[sl,sl,List.getD_eq_getElem?_getD,List.getD_eq_getElem?_getD,List.getElem?_take,ah qo]
  case he=>
   simp only[hk1,ar,aF (show i0<=C.length by omega)];exact suA
  rintro⟨j,ms,xs⟩ ⟨h1,h2,h3,h4,h5⟩;simp only at h1 h2 h3 h4 h5 ⊢;obtain⟨i,hi⟩:∃i,(kept p C j).length=i:=⟨_,rfl⟩
  rw[hi] at h3 h4 ⊢;by_cases d:j<C.length
  .have h6:=h5 j (ai _);refine gPr ?_;refine WL.XV first cap (vs:=[ms j]) (hf (ms j) j d) ?_ (hF:=.cons wq78 (Qz.tail nv))
   rintro _ _ _ ⟨rfl,rfl,rfl⟩;refine sNn ?_;cases hp:p (sl C j) with
   |true=>
    refine gPr ?_;have hk:=kept_yes d hp;exact Qq.mk (j+1,ms,xs) ⟨by simp only;omega,by simp only;omega,by simp only[hk];omega,λq hq=>by simp only[hk] at hq ⊢;exact h4 q qo,λq hq=>h5 q (by simp only at hq;omega)⟩ wq14 (hE:=by simp only[hk,hi];exact suA) (hG:=.cons hmA (.cons hmA (Qz.tail nv)))
   |false=>
    refine gPr ?_;have hk:=kept_no d hp;refine WL.l0 rfl (LO.storeSet (i:=i) (u:=ms j) (a:=sl C j) rfl rfl T.z28 wq78 wq3 qo ?_);refine WL.QD (lM Qp C.length (Qy ms i (ms j)) (Qy xs i (sl C j))) (W.Has.mset (S:=Qp) hmA wq78) ?_;refine gPr ?_;have hl:(kept p C (j+1)).length=i+1:=by rw[hk,List.length_append,hi];rfl
    refine Qq.mk (j+1,Qy ms i (ms j),Qy xs i (sl C j)) ⟨by simp only;omega,by simp only;omega,by simp only[hl];omega,λq hq=>?_,λq hq=>?_⟩ wq14 (hE:=by simp only[hl];exact suA) (hG:=.cons hmA (.cons hmA (Qz.tail nv)))
    .simp only[hl] at hq;simp only;by_cases c:q=i
     .subst c;rw[QF,hk,<-hi,sl_last]
     .rw[Qt c,hk,sl_snoc qo];exact h4 q qo
    .simp only at hq ⊢;rw[Qt qo];exact h5 q qo
  .obtain rfl:j=C.length:=qo;rw[kept_all] at hi h4;refine gPr ?_;exact Qr (ms,xs) (λq hq=>h4 q qo) (hE:=by rw[hi];exact suA)
 rintro⟨ms,xs⟩ hx;simp only at hx ⊢;have hle:(C.filter λs=>!p s).length<=C.length:=bL _ _;generalize hD:(C.filter λs=>!p s)=D at *;refine gPr ?_;refine WL.l0 rfl (LO.clearO (el:=28) (z:=.slice none 0 0) (v:=v) (n:=C.length) (a:=D.length) (cs:=QG Qp C.length ms xs) (show prog.underlying 25=some (.slice 28) by kernel_rfl) kr rfl rfl rfl wq3 (by rw[Qg];exact bP _) hle ?_);rw[cells_clear (ys:=sl D) hle];refine WL.QD (lM Qp C.length (λq=>if q<D.length then ms q else .slice none 0 0) (sl D)) (has_clr (ms:=ms) (xs:=xs) hmA hx) ?_;refine gPr ?_;refine WC.QA (S:=Qp) (v:=v) (n:=C.length) (ms:=λq=>if q<D.length then ms q else .slice none 0 0) (xs:=sl D) wq3 hmA ?_;refine WC.ret ?_;exact Fp [_] (Qf.t1 rfl rfl) (.cons (W.Has.takeL (S:=Qp) (v:=v) (n:=C.length) (ms:=λq=>if q<D.length then ms q else .slice none 0 0) (xs:=sl D) hmA hle) .nil) ⟨_,rfl,rfl⟩
end Y
end Q
end K
def set_ok{N:Nat}{most:Int}{s:nd}(hN:N<=8)(h:s∈Fx.Jm (N:Int) most):s.length<=8/\∀x∈s,0<=x/\x<(N:Int):=by
 obtain⟨b,hb,rfl,hl⟩:=(Fx.Uv qo qo).1 h;refine⟨?_,λx hx=>Fx.num_lt hx⟩
 have h2:∀n,(Fx.numbers b n).length<=n:=λn=>by
  induction n with
  |zero=>simp[Fx.numbers]
  |succ n ih=>unfold Fx.numbers;rw[List.length_append];split<;>simp<;>omega
 have:=h2 (N:Int).toNat;simp only[be] at this ⊢;omega
def Zx{t:List Tc}{P:List (List Tc)}{most:Int}{s:nd}(hP:P.length<=8)(h:s∈Fx.Qa t P most):s.length<=8/\∀x∈s,0<=x/\x<(P.length:Int):=set_ok hP (List.mem_filter.1 h).1
def Yu{C:List nd}{i:Nat}(h:i<C.length):sl C i∈C:=by
 rw[sl,List.getD_eq_getElem?_getD,List.getElem?_eq_getElem h];exact cD h
def cand_is(t:List Tc)(P:List (List Tc))(most:Int):((Fx.Jm (P.length:Int) most).filter λs=>!decide (10<(Fx.Ql t P s).length))=Fx.Qa t P most:=by
 unfold Fx.Qa
 congr 1
 funext s
 by_cases c:(Fx.Ql t P s).length<=10
 .rw[aq c,ak qo];rfl
 .rw[ak c,aq qo];rfl
def IsCa(t:List Tc)(P:List (List Tc))(most:Int):Qd:=λv B G=>∃r ms,v=.tuple #[r,nj 0]/\B=[]/\G=[lF Qp r (Fx.Qa t P most).length ms (sl (Fx.Qa t P most))]
section
attribute [local irreducible] WC WL WD YO LO Qq W.Fin Qk Qh Qj Row QZ Qv KnS Has W.One Qo QX
namespace K
namespace Q
namespace Y
section
variable (tv pv:nA)(t:List Tc)(P:List (List Tc))(tm:Nat->ToM)(pm:Nat->nA×(Nat->ToM))
def large_c(sv:nA)(s:nd)(g5 g6:Nat)(ht:t.length<=100)(hP:∀p∈P,p.length<=100)(hs:s.length<=10)(hr:∀x∈s,0<=x/\x<(P.length:Int))(hPl:P.length<=1000) :
  FnB prog 67 [sv,ptr g5,ptr g6] [] [sI sv s,ce g5 32 [tv],ce g6 33 [pv],lF Qu tv t.length tm (tl t),lF tlS pv P.length pm (pl P)] (IsV (.bool (decide (10<(Fx.Ql t P s).length)))):=by
 refine fO [(0,sv),(1,(ptr g5)),(2,(ptr g6))] 11 Tryz.func67 Tryz.ntmps67 λh0=>?_;refine gPr ?_;refine cK (VC tv pv sv t P s tm pm ht hP hs hr hPl) ?_;rintro v8 _ _ ⟨ms,rfl,rfl⟩;refine sNn ?_;have hl:=Zf ht hP s;by_cases c:10<(Fx.Ql t P s).length
 .refine gPr ?_;exact WC.ret (Fin.v (Qf.t1 rfl rfl) meA (by rw[aq c]))
 .refine gPr ?_;exact WC.ret (Fin.v (Qf.t1 rfl rfl) meA (by rw[ak c]))
def KR(lv:nA)(n:Nat)(bm:Nat->BM)(B:Nat->Bd)(most:Int)(hn:n<=5)(ht:t.length<=10)(hP8:P.length<=8)(hP:∀p∈P,p.length<=100)(hm0:0<=most)(hm8:most<=8) :
  FnB prog 40 [lv,tv,pv,nj most] [] [lF QQ lv n bm B,lF Qu tv t.length tm (tl t),lF tlS pv P.length pm (pl P)] (IsCa t P most):=by
 refine fO [(0,lv),(1,tv),(2,pv),(3,(nj most))] 37 Tryz.func40 Tryz.ntmps40 λh0=>?_;refine gPr ?_;intro g g;revert g;intro g6;revert g;intro g5;refine WL.keep (g:=g6) (t:=33) (cs:=[pv]) wq11 ?_;refine WL.keep (g:=g5) (t:=32) (cs:=[tv]) wq11 ?_;refine cK (sets_c (P.length:Int) most ⟨by omega,by omega⟩ ⟨by omega,by omega⟩) ?_;rintro v34 _ _ ⟨sm,rfl,rfl⟩;refine gPs ?_;have hle:=Fx.YL (P.length:Int) most;refine WL.Zc [lO Qp v34 28 (Fx.Jm (P.length:Int) most).length sm (sl (Fx.Jm (P.length:Int) most))] [] (List.Perm.refl _) (delete_c v34 (Fx.Jm (P.length:Int) most) sm 67 [] [ptr g5,ptr g6] [ce g5 32 [tv],ce g6 33 [pv],lF Qu tv t.length tm (tl t),lF tlS pv P.length pm (pl P)] (λs=>decide (10<(Fx.Ql t P s).length)) qo λu i hi=>?_) ?_
 .have hs:=set_ok hP8 (Yu hi);exact large_c tv pv t P tm pm u (sl (Fx.Jm (P.length:Int) most) i) g5 g6 qo hP qo hs.2 qo
 rintro r _ _ ⟨ms,rfl,rfl⟩;rw[cand_is];refine gPs ?_;refine WC.ret ?_;exact Fp [_] (Qf.t2 rfl rfl rfl) haA ⟨r,ms,rfl,rfl,rfl⟩
end
end Y
end Q
end K
def sv_int{K:Nat}(hK:0<K){a b:Int}(ha:a.natAbs<1000000000)(hb:b.natAbs<1000000000):Sv K ⟨(a:Rat),(b:Rat)⟩:=⟨by show Sq K (a:Rat);rw[<-di1];exact DD K hK a ha,by show Sq K (b:Rat);rw[<-di1];exact DD K hK b hb⟩
def Zv{a:Int}(h1:-100000<=a)(h2:a<=100000):a.natAbs<1000000000000000000:=qo
def Fr.sq{D A:Nat}{q:Rat}(h:Fr D A q)(hD:D≠0)(h1:D<1000000000)(h2:A<1000000000):Sq 1 q:=by
 obtain⟨a,rfl,h3⟩:=h.mkr hD;refine di_num a D hD ?_ ?_
 .by_cases c:a.natAbs=0
  .rw[c,JJ];exact aj _
  .rw[J1 qo qo];exact ai _
 .rw[J1 qo h1];exact ai _
def Fv.sv{D A:Nat}{a:Vc}(h:Fv D A a)(hD:D≠0)(h1:D<1000000000)(h2:A<1000000000):Sv 1 a:=⟨h.1.sq hD h1 h2,h.2.sq hD h1 h2⟩
def Fs.ss{D A:Nat}{S:Sc}(h:Bl.Fs D A S)(hD:D≠0)(h1:D<1000000000)(h2:A<1000000000):Ss 1 S:=
 ⟨λi hi=>let ⟨a,b,c,d⟩:=h.B i hi;⟨a.sv hD h1 h2,b.sq hD h1 h2,c.sq hD h1 h2,d.sq hD h1 h2⟩,λj hj=>let ⟨a,b,c,d⟩:=h.T j hj;⟨a.sv hD h1 h2,b.sv hD h1 h2,c.sv hD h1 h2,d.sq hD h1 h2⟩⟩
namespace K
namespace Q
def d142{G G':Prop}(h:G')(s:Bx G'->G:=by
 intro h;first|refine gF ?_|(apply WC.draw (id:=2) [0,1,2,3,4,5,6,7,9,10] (.h 0<|.h 1<|.h 2<|.h 3<|.h 4<|.h 5<|.h 6<|.h 7<|.h 9<|.l 8<|.h 10<|.l 11 .done) mixed kr)|fail
 exact Bx.h h):G:=s ⟨h⟩
def flat_c(A B h:Int)(n1 n2 nr:QM)(x y r:Rat)(hh:h.natAbs<1000000000000000000):FnB prog 142 [nj A,nj B,qv n1,qv n2,nj h,qv nr] [] [isQ (qv n1) x,isQ (qv n2) y,isQ (qv nr) r] (IsTc (Bl.tcF A B x y h r)):=by
 refine fO [(0,(nj A)),(1,(nj B)),(2,(qv n1)),(3,(qv n2)),(4,(nj h)),(5,(qv nr))] 27 Tryz.func142 Tryz.ntmps142 λh0=>?_;repeat'(first|intro(g:Nat)|refine d142 ?_|intro v)
 refine cW (Zn.rof h 1 hh qd) λn3=>?_;rw[di1];repeat'(first|intro(g:Nat)|refine d142 ?_|intro v)
 refine cW (UJ 0 1 qd qd) λv4=>?_;first|refine WD.fact (fT ⟨(n1,n3),(n2,n3),v4,nr⟩ (Bl.tcF A B x y h r)) (W.Has.tof (tm:=⟨(n1,n3),(n2,n3),v4,nr⟩) (t:=Bl.tcF A B x y h r) (W.Has.vof (m:=(n1,n3)) (a:=(Bl.tcF A B x y h r).p) hmA hmA) (W.Has.vof (m:=(n2,n3)) (a:=(Bl.tcF A B x y h r).q) hmA hmA) hmA hmA) ?_|skip
 repeat'(first|intro(g:Nat)|refine d142 ?_|intro v)
 refine WC.ret ?_;exact Fp [fT ⟨(n1,n3),(n2,n3),v4,nr⟩ (Bl.tcF A B x y h r)] (rcV T.r93) haA ⟨⟨(n1,n3),(n2,n3),v4,nr⟩,rfl,rfl,rfl⟩
end Q
end K
namespace K
namespace Q
def d138{G G':Prop}(h:G')(s:Bx G'->G:=by
 intro h;first|refine gE ?_|refine gY ?_|(apply WC.draw (id:=2) [0,1,2,3,8,13] (.h 0<|.h 1<|.h 2<|.h 3<|.h 8<|.m 4 (.m 5 (.m 6 (.m 7 (.l 9<|.l 10<|.l 11<|.l 12<|.h 13<|.l 14 .done) (.l 9<|.l 7<|.l 10<|.l 11<|.l 12<|.h 13<|.l 14 .done)) (.l 7<|.l 6<|.l 9<|.l 10<|.l 11<|.l 12<|.h 13<|.l 14 .done)) (.l 7<|.l 5<|.l 6<|.l 9<|.l 10<|.l 11<|.l 12<|.h 13<|.l 14 .done)) (.l 7<|.l 4<|.l 5<|.l 6<|.l 9<|.l 10<|.l 11<|.l 12<|.h 13<|.l 14 .done)) mixed kr)|fail
 exact Bx.h h):G:=s ⟨h⟩
def plain_c(m:VM)(c:Vc)(lv:nA)(l:nd)(hl:∀x∈l,I64 x):FnB prog 138 [vv m,lv] [] [fV m c,sI lv l] (IsBdv (Bl.plB c l)):=by
 refine fO [(0,(vv m)),(1,lv)] 24 Tryz.func138 Tryz.ntmps138 λh0=>?_;have h5:=QP (l:=l) (i:=5) (m:=3) qd;have h6:=QP (l:=l) (i:=6) (m:=3) qd;have h7:=QP (l:=l) (i:=7) (m:=6) qd;have hst:=Bl.DL h7;have c6:=Zr lv l 6 3 hl qd;have c7:=Zr lv l 7 6 hl qd;have e7:((Bl.Ge (atP l 7 6):Int):Rat)=Rat.divInt (Bl.Ge (atP l 7 6)) 1:=(di1 _).symm;unfold Bl.plB;rw[e7];obtain⟨k7,hk7⟩:∃k:Nat,atP l 7 6=(k:Int):=⟨(atP l 7 6).toNat,by omega⟩
 rw[hk7] at c7 h7 hst ⊢;have hp1:Sq 1 (Bl.ZB l):=(Fr.of (D:=2) (A:=4) qd qo).sq qd qd qd;have hp2:Sq 1 (Rat.divInt (atP l 6 3) 2):=(Fr.of (D:=2) (A:=2) qd qo).sq qd qd qd;repeat'(first|intro(g:Nat)|refine d138 ?_|refine gN ?_ ?_|intro v)
 refine cV (Zr lv l 5 3 hl qd) ?_;repeat'(first|intro(g:Nat)|refine d138 ?_|refine gN ?_ ?_|intro v)
 refine cW (Zn.rof (2+atP l 5 3) 2 (Zv qo qo) qd) λn1=>?_;refine gPr ?_;intro g;revert g;intro g5;have r6:=Zn.rof (atP l 6 3) 2 (Zv qo qo) qd;have r7:=Zn.rof (Bl.Ge k7) 1 (Zv qo qo) qd;have ra:=λm=>Zn.Kg n1 m (Bl.ZB l) (Rat.divInt (atP l 6 3) 2) (hp1.sm qd) (hp2.sm qd);unfold Bl.ZB at ra;repeat'(first|intro(g:Nat)|refine d138 ?_|refine gN ?_ ?_|refine cU (c6) ?_|refine cW (r6) λzm=>?_|refine cW (ra _) λzm=>?_|refine cU (c7) ?_|refine cW (r7) λzm=>?_|intro v)
 all_goals
  have hints:ints [40,40,40,9,5,2]=[.int .i64 40,.int .i64 40,.int .i64 40,.int .i64 9,.int .i64 5,.int .i64 2]:=rfl;rw[<-hints];refine WD.yl rfl (YO.XT T.s28 rfl rfl (KnS.oI (el:=3) (l:=[40,40,40,9,5,2]) (by exact meA)) qo (by show(k7:Int)<6;omega)) qr qr ?_;refine WD.yl rfl (YO.KD T.sc3 (el:=3) (l:=[40,40,40,9,5,2]) rfl (by exact meA) (by show(k7:Int).toNat<6;omega)) qr qr ?_;show WD _ _ _ _ _ _ _ ((21,.int .i64 (Bl.Ge k7))::_) _ _ _;repeat'(first|intro(g:Nat)|refine d138 ?_|refine gN ?_ ?_|refine cW (r7) λzm=>?_|intro v)
 all_goals
  rename_i z6 za
  refine WC.ret ?_;exact Fp [fB ⟨m,n1,za,zm⟩ ⟨c,Rat.divInt (2+atP l 5 3) 2,Rat.divInt (2+atP l 5 3) 2+Rat.divInt (atP l 6 3) 2,Rat.divInt (Bl.Ge k7) 1⟩] (rcV T.r88) (.cons (W.Has.bof (bm:=⟨m,n1,za,zm⟩) (b:=⟨c,Rat.divInt (2+atP l 5 3) 2,Rat.divInt (2+atP l 5 3) 2+Rat.divInt (atP l 6 3) 2,Rat.divInt (Bl.Ge k7) 1⟩) hmA hmA hmA hmA) .nil) ⟨⟨m,n1,za,zm⟩,rfl,rfl,rfl⟩
end Q
end K
end
def cells_B1{bm:BM}{b:Bd}:bcs bm=QG QQ 1 (λ_=>bm) (λ_=>b):=Yj (S:=QQ) (n:=0) (ms:=λ_=>bm) (xs:=λ_=>b)
def cells_T1{tm:ToM}{t:Tc}:tcs tm t=QG Qu 1 (λ_=>tm) (λ_=>t):=Yj (S:=Qu) (n:=0) (ms:=λ_=>tm) (xs:=λ_=>t)
def F5{M α:Type}{S:Shp M α}{F:nc}{m:M}{x:α}(h:W.Has F (S.fc m x)):W.Has F (lM S 1 (λ_=>m) λ_=>x):=λp hf i _=>h p hf
namespace K
namespace Q
attribute [local irreducible] WC WL WD YO LO Qq W.Fin Qk Qh Qj Row QZ Qv KnS Has W.One Qo QX
def d62{G G':Prop}(h:G')(s:Bx G'->G:=by
 intro h;first|refine gE ?_|refine gY ?_|(apply WC.draw (id:=3) [0,1,2,3,4,5] (.h 0<|.h 1<|.h 2<|.h 3<|.h 4<|.h 5<|.m 6 (.m 7 (.l 8<|.l 9 .done) (.l 8<|.l 7<|.l 9 .done)) (.l 8<|.l 6<|.l 7<|.l 9 .done)) mixed kr)|(apply WC.draw (id:=5) [0,1,2,4,9] (.h 0<|.h 1<|.h 2<|.h 4<|.h 9<|.m 3 (.m 5 (.m 6 (.m 7 (.m 8 (.m 10 (.l 11<|.l 12 .done) (.l 11<|.l 10<|.l 12 .done)) (.l 11<|.l 8<|.l 10<|.l 12 .done)) (.l 11<|.l 7<|.l 8<|.l 10<|.l 12 .done)) (.l 11<|.l 6<|.l 7<|.l 8<|.l 10<|.l 12 .done)) (.l 11<|.l 5<|.l 6<|.l 7<|.l 8<|.l 10<|.l 12 .done)) (.l 11<|.l 3<|.l 5<|.l 6<|.l 7<|.l 8<|.l 10<|.l 12 .done)) mixed kr)|(apply WC.draw (id:=6) [0,2,3,4,5,6,7,9,12] (.h 0<|.h 2<|.h 3<|.h 4<|.h 5<|.h 6<|.h 7<|.h 9<|.m 1 (.l 8<|.l 10<|.l 11<|.h 12<|.l 13<|.l 14<|.l 15 .done) (.l 8<|.m 1 (.l 10<|.l 11<|.h 12<|.l 13<|.l 14<|.l 15 .done) (.l 10<|.m 1 (.l 11<|.h 12<|.l 13<|.l 14<|.l 15 .done) (.l 11<|.h 12<|.m 1 (.l 13<|.l 14<|.l 15 .done) (.l 13<|.l 1<|.l 14<|.l 15 .done))))) mixed kr)|fail
 exact Bx.h h):G:=s ⟨h⟩
def slope_c(lv:nA)(l:nd)(hl:∀x∈l,I64 x):FnB prog 62 [lv] [] [sI lv l] (IsScv (Bl.U0 l)):=by
 refine fO [(0,lv)] 58 Tryz.func62 Tryz.ntmps62 λh0=>?_;have h1:=QP (l:=l) (i:=1) (m:=4) qd;have h2:=QP (l:=l) (i:=2) (m:=4) qd;have h3:=QP (l:=l) (i:=3) (m:=13) qd;have h4:=QP (l:=l) (i:=4) (m:=9) qd;have hn:=Bl.slN_lt h1;have hfs:=Bl.slope_fs l;obtain⟨k1,hk1⟩:∃k:Nat,atP l 1 4=(k:Int):=⟨(atP l 1 4).toNat,by omega⟩
 have c1:=Zr lv l 1 4 hl qd;rw[hk1] at c1 hn;have hk4:k1<4:=qo;have a1:((Bl.slN k1).1).natAbs<=4:=hn.2.1;have a2:((Bl.slN k1).2).natAbs<=4:=hn.2.2;have hT:Bl.slT l=⟨0,-1,Bl.slP l,Bl.slQ l,⟨((Bl.slN k1).1:Rat),((Bl.slN k1).2:Rat)⟩,Rat.divInt (atP l 4 9) 6⟩:=by unfold Bl.slT;rw[hk1]
 have hQ:Bl.slQ l=⟨(Bl.slP l).x+(((Bl.slN k1).2:Int):Rat),(Bl.slP l).y+((-(Bl.slN k1).1:Int):Rat)⟩:=by unfold Bl.slQ;rw[hk1]
 have hcl:=sl_cells k1 hk4;generalize (Bl.slN k1).1=N1 at *;generalize (Bl.slN k1).2=N2 at *;have hp1:Fv 1 4 (Bl.slP l):=⟨Fr.int _ qo,Fr.int _ qd⟩
 have hq1:Fv 1 8 (Bl.slQ l):=by rw[hQ];exact⟨(hp1.1.add (Fr.int (A:=4) _ a2)).up qd,(hp1.2.add (Fr.int (A:=4) _ qo)).up qd⟩
 have hd1:Fv 1 12 (Bl.Jl (Bl.slQ l) (Bl.slP l)):=⟨(hq1.1.sub hp1.1).up qd,(hq1.2.sub hp1.2).up qd⟩
 have hx1:Fr 10 12 (Rat.divInt (atP l 3 13-1) 10):=Fr.of (D:=10) qd qo;have hdx:Fv 10 144 ⟨(Bl.Jl (Bl.slQ l) (Bl.slP l)).x*Rat.divInt (atP l 3 13-1) 10,(Bl.Jl (Bl.slQ l) (Bl.slP l)).y*Rat.divInt (atP l 3 13-1) 10⟩:=⟨hd1.1.mul hx1,hd1.2.mul hx1⟩
 have hpd:Fv 10 184 ⟨(Bl.slP l).x+(Bl.Jl (Bl.slQ l) (Bl.slP l)).x*Rat.divInt (atP l 3 13-1) 10,(Bl.slP l).y+(Bl.Jl (Bl.slQ l) (Bl.slP l)).y*Rat.divInt (atP l 3 13-1) 10⟩:=⟨((hp1.1.sc' (c:=10) (E:=10) (B:=40) rfl qd).add hdx.1).up qd,((hp1.2.sc' (c:=10) (E:=10) (B:=40) rfl qd).add hdx.2).up qd⟩
 have sp:=hp1.sv qd qd qd;have sq:=hq1.sv qd qd qd;have sd:=hd1.sv qd qd qd;have sx:=hx1.sq qd qd qd;have sdx:=hdx.sv qd qd qd;have spd:=hpd.sv qd qd qd;repeat'(first|intro(g:Nat)|refine d62 ?_|refine gN ?_ ?_|intro v)
 revert g;intro gg;refine cV (c1) ?_;refine WL.y (YO.ix T.s24 rfl rfl (KnS.o (el:=22) (sz:=2) (n:=4) (cs:=ints [1,2,-1,3,1,1,-3,4]) (by exact meA) rfl qd) hk4) qr qr ?_;refine WL.y (YO.ldRO (m:=2) (us:=[.int .i64 N1,.int .i64 N2]) (cs:=ints [1,2,-1,3,1,1,-3,4]) T.r22 rfl (by exact meA) rfl hcl) qr qr ?_;repeat'(first|intro(g:Nat)|refine d62 ?_|refine gN ?_ ?_|intro v)
 revert g;intro g3;refine cV (Zr lv l 2 4 hl qd) ?_;repeat'(first|intro(g:Nat)|refine d62 ?_|refine gN ?_ ?_|intro v)
 refine cW (UJ (atP l 2 4) 1 (Zv qo qo) qd) λm4=>?_;rw[show(⟨((atP l 2 4:Int):Rat),((1:Int):Rat)⟩:Vc)=Bl.slP l from rfl];refine gPr ?_;intro g;revert g;intro g4;have v26:=UJ N2 (-N1) (Zv qo qo) (Zv qo qo);have v27:=λm=>Uc m4 m (Bl.slP l) ⟨(N2:Rat),((-N1:Int):Rat)⟩ 1 qd sp (sv_int qd qo qo);rw[<-hQ] at v27;refine WC.YH (σ:=Nat×VM) (λs=>[(5,ptr s.1),(4,ptr g4),(3,ptr g3),(0,lv),(2,ptr gg)]) (λs=>[Ow.cells s.1 77 (vcs s.2),Ow.cells g4 77 (vcs m4),Ow.cells g3 22 [.int .i64 N1,.int .i64 N2],Ow.cells gg 53 [.slice none 0 0,.slice none 0 0]]) (λs=>[fV s.2 (Bl.slQ l),fV m4 (Bl.slP l),ge h0,sI lv l]) (λ_=>True) ?_ ?_
 .repeat'(first|intro(g:Nat)|refine d62 ?_|refine gN ?_ ?_|refine cW (v26) λzm=>?_|refine cW (v27 _) λzm=>?_|intro v)
  all_goals(apply Ex2;refine⟨trivial,?_,?_,?_⟩;(focus(repeat(first|exact Sub.nil _|refine Sub.cons rfl ?_)));exact wq137;exact wq26)
 rintro⟨g5,m5⟩ _;simp only;refine gPr ?_;refine cV (Zr lv l 3 13 hl qd) ?_;refine gPr ?_;refine cW (Zn.rof (atP l 3 13-1) 10 (Zv qo qo) qd) λn6=>?_;refine gPr ?_;intro g;revert g;intro g6;have c35:=rvsub_c m5 m4 (Bl.slQ l) (Bl.slP l) 1 qd sq sp;have c37:=λm=>rvscale_c m n6 (Bl.Jl (Bl.slQ l) (Bl.slP l)) (Rat.divInt (atP l 3 13-1) 10) 1 qd sd sx;have c38:=λm=>Uc m4 m (Bl.slP l) ⟨(Bl.Jl (Bl.slQ l) (Bl.slP l)).x*Rat.divInt (atP l 3 13-1) 10,(Bl.Jl (Bl.slQ l) (Bl.slP l)).y*Rat.divInt (atP l 3 13-1) 10⟩ 1 qd sp sdx;have c39:=UJ 0 1 qd qd;have c40:=λm m'=>Uc m m' ⟨(Bl.slP l).x+(Bl.Jl (Bl.slQ l) (Bl.slP l)).x*Rat.divInt (atP l 3 13-1) 10,(Bl.slP l).y+(Bl.Jl (Bl.slQ l) (Bl.slP l)).y*Rat.divInt (atP l 3 13-1) 10⟩ ⟨((0:Int):Rat),((1:Int):Rat)⟩ 1 qd spd (sv_int qd qd qd);have c42:=λm=>plain_c m (Bl.slC l) lv l hl;refine WC.YH (σ:=Nat×BM) (λs=>[(7,ptr s.1),(5,ptr g5),(4,ptr g4),(3,ptr g3),(0,lv),(2,ptr gg)]) (λs=>[Ow.cells s.1 88 (bcs s.2),Ow.cells g5 77 (vcs m5),Ow.cells g4 77 (vcs m4),Ow.cells g3 22 [.int .i64 N1,.int .i64 N2],Ow.cells gg 53 [.slice none 0 0,.slice none 0 0]]) (λs=>[fB s.2 (Bl.plB (Bl.slC l) l),fV m5 (Bl.slQ l),fV m4 (Bl.slP l),ge h0,sI lv l]) (λ_=>True) ?_ ?_
 .repeat'(first|intro(g:Nat)|refine d62 ?_|refine gN ?_ ?_|refine cW (c35) λzm=>?_|refine cW (c37 _) λzm=>?_|refine cW (c38 _) λzm=>?_|refine cW (c39) λzm=>?_|refine cW (c40 _ _) λzm=>?_|refine cW (c42 _) λzm=>?_|intro v)
  all_goals(apply Ex2;refine⟨trivial,?_,?_,?_⟩;(focus(repeat(first|exact Sub.nil _|refine Sub.cons rfl ?_)));exact wq137;exact wq26)
 rintro⟨g7,m7⟩ _;simp only;refine gPr ?_;have c51:=UJ N1 N2 (Zv qo qo) (Zv qo qo);have c53:=Zr lv l 4 9 hl qd;have c54:=Zn.rof (atP l 4 9) 6 (Zv qo qo) qd;refine WC.YH (σ:=nA×nA×VM×QM) (λs=>[(2,ptr gg)]) (λs=>[Ow.cells gg 53 [s.1,s.2.1],Ow.slice s.1 88 20 (bcs m7),Ow.slice s.2.1 93 30 (tcs ⟨m4,m5,s.2.2.1,s.2.2.2⟩ (Bl.slT l))]) (λs=>[fV s.2.2.1 ⟨(N1:Rat),(N2:Rat)⟩,isQ (qv s.2.2.2) (Rat.divInt (atP l 4 9) 6),fB m7 (Bl.plB (Bl.slC l) l),fV m5 (Bl.slQ l),fV m4 (Bl.slP l),ge h0]) (λ_=>True) ?_ ?_
 .repeat'(first|intro(g:Nat)|refine d62 ?_|refine gN ?_ ?_|refine cW (c51) λzm=>?_|refine cU (c53) ?_|refine cW (c54) λzm=>?_|intro v)
  all_goals
   refine WD.yl rfl (VT rfl rfl (KnS.o1B (bm:=m7) (by exact meA)) (KnS.o1T (by exact meA))) qr qr ?_;refine WD.l0 rfl rfl (LO.J3 (us:=[_,_]) rfl rfl T.r53 wq3 qr (.cons (One.sl (KnS.o1B (bm:=m7) (by exact meA))) (.cons (One.sl (KnS.o1T (by exact meA))) .nil)) ?_);constructor
   .left;kernel_rfl
   refine goD ?_
  all_goals(apply Ex4;refine⟨trivial,?_,?_,?_⟩;(focus(repeat(first|exact Sub.nil _|refine Sub.cons rfl ?_)));exact wq137;exact wq26)
 rintro⟨bs,ts,mn,mr⟩ _;simp only;rw[cells_B1 (bm:=m7) (b:=Bl.plB (Bl.slC l) l),cells_T1 (tm:=⟨m4,m5,mn,mr⟩) (t:=Bl.slT l)];refine WC.fact (fT ⟨m4,m5,mn,mr⟩ (Bl.slT l)) (by rw[hT];exact W.Has.tof (tm:=⟨m4,m5,mn,mr⟩) hmA hmA hmA hmA) ?_;refine WC.QA (S:=QQ) (v:=bs) (n:=1) (ms:=λ_=>m7) (xs:=λ_=>Bl.plB (Bl.slC l) l) wq3 (F5 (S:=QQ) (m:=m7) (x:=Bl.plB (Bl.slC l) l) hmA) ?_;refine WC.QA (S:=Qu) (v:=ts) (n:=1) (ms:=λ_=>⟨m4,m5,mn,mr⟩) (xs:=λ_=>Bl.slT l) wq3 (F5 (S:=Qu) (m:=⟨m4,m5,mn,mr⟩) (x:=Bl.slT l) hmA) ?_;refine WC.ret ?_;exact Fp [lF QQ bs 1 (λ_=>m7) (λ_=>Bl.plB (Bl.slC l) l),lF Qu ts 1 (λ_=>⟨m4,m5,mn,mr⟩) (λ_=>Bl.slT l)] (rcV T.r53) haA ⟨⟨bs,ts,λ_=>m7,λ_=>⟨m4,m5,mn,mr⟩⟩,rfl,rfl,rfl⟩
end Q
end K
end Go.Proofs.YtbnobghgnbockaaGreat
