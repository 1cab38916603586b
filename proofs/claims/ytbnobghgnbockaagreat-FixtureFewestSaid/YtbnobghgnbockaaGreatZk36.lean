/- Lemmas. Conditions: none. -/
import Derived.Test.YtbnobghgnbockaaGreatZk35
set_option linter.all false
set_option maxHeartbeats 0
set_option maxRecDepth 100000
namespace Go.Proofs.YtbnobghgnbockaaGreat
open Tryz (prog)
open W Go.RowKit
open Bl (Vc Bd Tc Sc)
def IsTc(t:Tc):Qd:=λv B G=>∃tm:ToM,v=tv tm t/\B=[]/\G=[fT tm t]
def IsScv(S:Sc):Qd:=λv B G=>∃M:SM,v=.agg #[M.l,M.t]/\B=[]/\G=[fSl M S,fSt M S]
section
variable {e:Env}{bx bx':nw}{F:nc}{ty t el:nl}{x y z u r s:ni}{v w:nA}{K:Qd}{tm:ToM}{tc:Tc}{bm:BM}{b:Bd}{v1 v2 v3:VM}{n1 n2 n3:QM}{A B:Int}{n m:Nat}
def D1(h1:ev e x=some (nj A))(h2:ev e y=some (nj B))(h3:ev e z=some (vv v1))(h4:ev e u=some (vv v2))(h5:ev e r=some (vv v3))(h6:ev e s=some (qv n1)):YO prog (.build 93 #[(0,x),(1,y),(2,z),(3,u),(4,r),(5,s)]) ty e bx F (tv ⟨v1,v2,v3,n1⟩ ⟨A,B,⟨0,0⟩,⟨0,0⟩,⟨0,0⟩,0⟩):=
 YO.build (parts:=[(0,x),(1,y),(2,z),(3,u),(4,r),(5,s)]) (.cons h1 (.cons h2 (.cons h3 (.cons h4 (.cons h5 (.cons h6 .nil)))))) λ_=>by kernel_rfl
def y_touch5(h3:ev e z=some (vv v1))(h4:ev e u=some (vv v2))(h5:ev e r=some (vv v3))(h6:ev e s=some (qv n1)):YO prog (.build 93 #[(1,.const (nj (-1))),(2,z),(3,u),(4,r),(5,s)]) ty e bx F (tv ⟨v1,v2,v3,n1⟩ ⟨0,-1,⟨0,0⟩,⟨0,0⟩,⟨0,0⟩,0⟩):=
 YO.build (parts:=[(1,.const (nj (-1))),(2,z),(3,u),(4,r),(5,s)]) (.cons rfl (.cons h3 (.cons h4 (.cons h5 (.cons h6 .nil))))) λ_=>by kernel_rfl
def y_bodyX(h1:ev e x=some (vv v1))(h2:ev e y=some (qv n1))(h3:ev e z=some (qv n2))(h4:ev e u=some (qv n3)):YO prog (.build 88 #[(0,x),(1,y),(2,z),(3,u)]) ty e bx F (bv ⟨v1,n1,n2,n3⟩):=y_body h1 h2 h3 h4
def VT(hx:ev e x=some v)(hy:ev e y=some w)(hv:KnS bx F v n)(hw:KnS bx F w m):YO prog (.build 53 #[(0,x),(1,y)]) ty e bx F (.agg #[v,w]):=λk fr a w0 o h1 h2 h3 h4=>by
 obtain⟨a',c,rfl,_⟩:=(hv fr w0 h4).is;obtain⟨a'',c',rfl,_⟩:=(hw fr w0 h4).is;exact YO.build (parts:=[(0,x),(1,y)]) (us:=[.slice a' n c,.slice a'' m c']) (.cons hx (.cons hy .nil)) (λ_=>by kernel_rfl) k fr a w0 o h1 h2 h3 h4
def LO.bsB1(hx:ev e x=some (bv bm))(h:∀v,K v (Ow.slice v 88 20 (bcs bm)::bx) F):LO prog (.buildSlice 31 1 #[(0,x)]) ty e bx F K:=
 LO.buildSlice (el:=88) (sz:=20) (parts:=[(0,x)]) (us:=[bv bm]) (cs:=bcs bm) (.cons hx .nil) (λ_=>by kernel_rfl) rfl qd h
def LO.bsTr(hx:ev e x=some (tv tm tc))(h:∀v,K v (Ow.slice v 93 30 (tcs tm tc)::bx) F):LO prog (.buildSlice 32 1 #[(0,x)]) ty e bx F K:=
 LO.buildSlice (el:=93) (sz:=30) (parts:=[(0,x)]) (us:=[tv tm tc]) (cs:=tcs tm tc) (.cons hx .nil) (λ_=>by kernel_rfl) rfl qd h
def KnS.o1B(h:Ow.slice v 88 20 (bcs bm)∈bx):KnS bx F v 1:=KnS.o h rfl qd
def KnS.o1T(h:Ow.slice v 93 30 (tcs tm tc)∈bx):KnS bx F v 1:=KnS.o h rfl qd
def y_arr{a b:Int}:YO prog (.build 22 #[(0,.const (nj a)),(1,.const (nj b))]) ty e bx F (.agg #[nj a,nj b]):=YO.build (parts:=[(0,.const (nj a)),(1,.const (nj b))]) (.cons rfl (.cons rfl .nil)) λ_=>by kernel_rfl
def LO.bsN4{a1 a2 b1 b2 c1 c2 d1 d2:Int}(hx:ev e x=some (.agg #[nj a1,nj a2]))(hy:ev e y=some (.agg #[nj b1,nj b2]))(hz:ev e z=some (.agg #[nj c1,nj c2]))(hu:ev e u=some (.agg #[nj d1,nj d2]))(h:∀v,K v (Ow.slice v 22 2 (ints [a1,a2,b1,b2,c1,c2,d1,d2])::bx) F):LO prog (.buildSlice 24 4 #[(0,x),(1,y),(2,z),(3,u)]) ty e bx F K:=
 LO.buildSlice (el:=22) (sz:=2) (parts:=[(0,x),(1,y),(2,z),(3,u)]) (us:=[.agg #[nj a1,nj a2],.agg #[nj b1,nj b2],.agg #[nj c1,nj c2],.agg #[nj d1,nj d2]]) (cs:=ints [a1,a2,b1,b2,c1,c2,d1,d2]) (.cons hx (.cons hy (.cons hz (.cons hu .nil)))) (λ_=>by kernel_rfl) rfl qd h
def sl_cells(k:Nat)(hk:k<4):∀i,i<2->(ints [1,2,-1,3,1,1,-3,4])[k*2+i]?=[Value.int .i64 (Bl.slN k).1,Value.int .i64 (Bl.slN k).2][i]?:=λi hi=>by
 match k,hk,i,hi with
 |0,_,0,_=>rfl|0,_,1,_=>rfl|1,_,0,_=>rfl|1,_,1,_=>rfl|2,_,0,_=>rfl|2,_,1,_=>rfl|3,_,0,_=>rfl|3,_,1,_=>rfl
def sc_int:Qk prog 3:=Qk.of kr
def YO.ldFi{tg g q:Nat}{cs:ne}(hs:Qk prog t)(hx:ev e x=some (.pointer (some ⟨g,q,none⟩)))(hb:Ow.cells g tg cs∈bx)(hq:cs[q]?=some v):YO prog (.load t x) ty e bx F v:=YO.ldB hs hx hb hq
def LO.appBd{el':nl}{ms:Nat->BM}{xs:Nat->Bd}{bx2:nA->nw}(hx:ev e x=some v)(hy:ev e y=some w)(hu:Ow.slice w el' 20 (bcs bm)∈bx)(hm:Has F (fB bm (xs n)))(hs:∀v',Sel bx (lO QQ v 88 n ms xs) (lO QQ v' 88 (n+1) (Qy ms n bm) xs) (bx2 v'))(hl:n<=1000000)(h:∀v',K v' (bx2 v') F) :
  LO prog (.call {callee:=.builtin .append,args:=#[x,y],argTypes:=#[31,31]}) ty e bx F K:=
 LO.appG (S:=QQ) (c:=1) T.e31 hx hy hu (Jk (S:=QQ) (mm:=bm)) rfl (one_b hm) hs qd qd hl qd h
def LO.appTu{el':nl}{ms:Nat->ToM}{xs:Nat->Tc}{bx2:nA->nw}(hx:ev e x=some v)(hy:ev e y=some w)(hu:Ow.slice w el' 30 (tcs tm tc)∈bx)(hm:Has F (fT tm tc))(hs:∀v',Sel bx (lO Qu v 93 n ms xs) (lO Qu v' 93 (n+1) (Qy ms n tm) (Qy xs n tc)) (bx2 v'))(hl:n<=1000000)(h:∀v',K v' (bx2 v') F) :
  LO prog (.call {callee:=.builtin .append,args:=#[x,y],argTypes:=#[32,32]}) ty e bx F K:=
 LO.appL (S:=Qu) T.e32 hx hy hu (Vd hm) hs qd qd hl h
end
section
variable {P:nh}{e:Env}{bx:nw}{F:nc}{ty t:nl}{x:ni}{M:Pm}{m gn i:Nat}{ln:Nat->Nat}{a:Nat->nf}{b g:nf}
def YO.ldPa(hs:Qk P t)(hx:ev e x=some (.pointer (some (eaddr M.lv (i*5+0)))))(h:W.Has F (fPg M m gn ln a b g))(hi:i<m):YO P (.load t x) ty e bx F (M.av i):=by
 have h1:=YO.ldS (ty:=ty) (bx:=bx) hs hx h.pl (show i*5+0<m*5 by omega)
 rwa [HV _ _ _ (by decide:0<5)] at h1
def YO.ldPb(hs:Row P t 4)(hx:ev e x=some (.pointer (some (eaddr M.lv (i*5+1)))))(h:W.Has F (fPg M m gn ln a b g))(hi:i<m):YO P (.load t x) ty e bx F (qv (M.mb i)):=
 YO.ldRS (us:=qcs (M.mb i)) hs hx h.pl qo rfl λk hk=>by
  rw[show i*5+1+k=i*5+(1+k) by omega,HV _ _ _ qo];match k,hk with|0,_=>rfl|1,_=>rfl|2,_=>rfl|3,_=>rfl
end
namespace K
namespace Q
attribute [local irreducible] WC WL WD YO LO Qq W.Fin Qk Qh Qj Row QZ Qv KnS Has W.One Qo QX
def goE{G G':Prop}(h:G')(s:Bx G'->G:=by
 intro h
 (first|(apply WL.QS;exact wq157;exact rfl;exact rfl)|(apply WL.Xs;exact wq149;exact rfl;exact rfl)|(apply WL.Jz;exact wq163;exact rfl;exact rfl)|(apply WL.XG;exact wq54;exact rfl;exact rfl)|(apply WL.Q4;rotate_left;exact rfl;(first|(apply LO.J3;exact rfl;exact rfl;exact T.r53;exact seA;exact rfl;exact wq49)|(apply LO.J3;exact rfl;exact rfl;exact T.r22;exact seA;exact rfl;exact wq83)|fail))|(apply WD.QS;exact rfl;exact wq157;exact rfl;exact rfl)|(apply WD.Xs;exact rfl;exact wq149;exact rfl;exact rfl)|(apply WD.Jz;exact rfl;exact wq163;exact rfl;exact rfl)|(apply WD.XG;exact rfl;exact wq54;exact rfl;exact rfl)|(apply WD.Q4;exact rfl;rotate_left;exact rfl;(first|(apply LO.J3;exact rfl;exact rfl;exact T.r53;exact seA;exact rfl;exact wq49)|(apply LO.J3;exact rfl;exact rfl;exact T.r22;exact seA;exact rfl;exact wq83)|fail);constructor;exact ltA)|((first|(apply LO.J3;exact rfl;exact rfl;exact T.r53;exact seA;exact rfl;exact wq49)|(apply LO.J3;exact rfl;exact rfl;exact T.r22;exact seA;exact rfl;exact wq83)|fail);constructor;exact ltA)|fail)
 exact Bx.h h):G:=s ⟨h⟩
def QT{G G':Prop}(h:G')(s:Bx G'->G:=by
 intro h
 (first|(apply WL.JS;rotate_left;exact rfl;exact rfl;apply LO.J6;(first|exact T.al53|exact T.al22|fail))|(apply WD.JS;exact rfl;rotate_left;exact rfl;exact rfl;apply LO.J6;(first|exact T.al53|exact T.al22|fail);apply Qn;(intro _;exact ltA))|(apply LO.J6;(first|exact T.al53|exact T.al22|fail);apply Qn;(intro _;exact ltA))|fail)
 exact Bx.h h):G:=s ⟨h⟩
def goEV{G G':Prop}(h:G')(s:Bx G'->G:=by
 intro h
 (first|(apply WL.Jn;rotate_left;exact rfl;exact rfl;(first|(apply LO.Gt;exact rfl;exact rfl;exact hmA;(intro _;exact seA);omega;omega)|fail))|(apply WD.Jn;exact rfl;rotate_left;exact rfl;exact rfl;(first|(apply LO.Gt;exact rfl;exact rfl;exact hmA;(intro _;exact seA);omega;omega)|fail);apply Qn;(intro _;exact ltA))|((first|(apply LO.Gt;exact rfl;exact rfl;exact hmA;(intro _;exact seA);omega;omega)|fail);apply Qn;(intro _;exact ltA))|(apply WL.JW;rotate_left;exact rfl;exact rfl;(apply LO.bsB1;exact rfl))|(apply WD.JW;exact rfl;rotate_left;exact rfl;exact rfl;(apply LO.bsB1;exact rfl);apply Qn;(intro _;exact ltA))|((apply LO.bsB1;exact rfl);apply Qn;(intro _;exact ltA))|(apply WL.JW;rotate_left;exact rfl;exact rfl;(apply LO.bsTr;exact rfl))|(apply WD.JW;exact rfl;rotate_left;exact rfl;exact rfl;(apply LO.bsTr;exact rfl);apply Qn;(intro _;exact ltA))|((apply LO.bsTr;exact rfl);apply Qn;(intro _;exact ltA))|(apply WL.JW;rotate_left;exact rfl;exact rfl;(apply LO.bsN4;exact rfl;exact rfl;exact rfl;exact rfl))|(apply WD.JW;exact rfl;rotate_left;exact rfl;exact rfl;(apply LO.bsN4;exact rfl;exact rfl;exact rfl;exact rfl);apply Qn;(intro _;exact ltA))|((apply LO.bsN4;exact rfl;exact rfl;exact rfl;exact rfl);apply Qn;(intro _;exact ltA))|fail)
 exact Bx.h h):G:=s ⟨h⟩
end Q
end K
section
variable {M α:Type}{S:Shp M α}{P:nh}{e:Env}{bx:nw}{F:nc}{ty t el:nl}{v:nA}{x:ni}{n k j o:Nat}{ms:Nat->M}{xs:Nat->α}
def off1(hw:S.w=1)(k:Nat):Off S.w k k 0:=by
 have h:Off S.w (k*S.w) k 0:=Off.base
 rwa [show k*S.w=k by rw[hw,bP]] at h
def YO.ldL1{c:nA}(hs:Qk P t)(hx:ev e x=some (.pointer (some (eaddr v k))))(hf:W.Has F (lF S v n ms xs))(hw:S.w=1)(hk:k<n)(hc:S.cs (ms k) (xs k)=[c]):YO P (.load t x) ty e bx F c:=
 YO.ldLs hs hx hf (off1 hw k) hk (by rw[hc];exact .take .done)
def YO.ldO1{c:nA}(hs:Qk P t)(hx:ev e x=some (.pointer (some (eaddr v k))))(hb:lO S v el n ms xs∈bx)(hw:S.w=1)(hk:k<n)(hc:S.cs (ms k) (xs k)=[c]):YO P (.load t x) ty e bx F c:=by
 refine YO.ldO hs hx hb ?_;have h2:=VE (f:=λk=>S.cs (ms k) (xs k)) (λk=>S.len (ms k) (xs k)) (k:=k) (r:=0) (by rw[hw];decide);have h3:k*S.w+0=k:=by rw[hw];omega
 rw[h3,hc] at h2;rw[QU (by rw[hw];omega)];simpa using h2.symm
def LO.appTL{K:Qd}{y:ni}{u:nA}{L L2:List Tc}{tm tm2:Nat->ToM}{bx2:nA->nw}(hx:ev e x=some v)(hy:ev e y=some u)(hu:W.Has F (lF Qu u L2.length tm2 (tl L2)))
  (hs:∀v',Sel bx (lO Qu v 93 L.length tm (tl L)) (lO Qu v' 93 (L++L2).length (Zs L.length tm tm2) (tl (L++L2))) (bx2 v')) (hl:L.length+L2.length<=1000000) (h:∀v',K v' (bx2 v') F) :
  LO prog (.call {callee:=.builtin .append,args:=#[x,y],argTypes:=#[32,32]}) ty e bx F K:=
 LO.appLF (S:=Qu) (ms:=tm) (xs:=tl L) (n:=L.length) T.e32 hx hy hu (λj hj=>Vd (hu.lk hj)) (λv'=>by rw[Hf,<-List.length_append];exact hs v') qd qd hl h
def LO.appTL0{K:Qd}{y:ni}{u:nA}{L2:List Tc}{tm2:Nat->ToM}{bx2:nA->nw}(hx:ev e x=some v)(hy:ev e y=some u)(hu:W.Has F (lF Qu u L2.length tm2 (tl L2)))
  (hs:∀v',Sel bx (.slice v 93 30 []) (lO Qu v' 93 L2.length tm2 (tl L2)) (bx2 v')) (hl:L2.length<=1000000) (h:∀v',K v' (bx2 v') F) :
  LO prog (.call {callee:=.builtin .append,args:=#[x,y],argTypes:=#[32,32]}) ty e bx F K:=by
 refine LO.byP (λfr w ho=>Df (S:=Qu) (λj hj=>Vd (hu.lk hj)) ho) λh1=>?_;exact LO.append T.e32 hx hy (cs:=[]) (news:=QG Qu L2.length tm2 (tl L2)) hs (Qo.fact hu.ls) h1 (by rw[Qg];show(0+L2.length*30)*_<=_;omega) (by rw[Qg];show 0+L2.length*30<=_;omega) h
def WC.nilLF{nn:Nat}{c:Code}{Q:Post}(hf:W.Has F (lF S v n ms xs))(hn:isNil v=true)(h:n=0->WC P nn c e bx F Q):WC P nn c e bx F Q:=
 WC.pure (λfr w ho=>by
  obtain⟨a,cap,rfl,h2,h3,h4|⟨b,off,rfl,_⟩⟩:=ho.has hf.ls
  .exact h4.2.1
  .cases hn) h
def LO.bsT0{K:Qd}(h:∀v,K v (Ow.slice v 93 30 []::bx) F):LO prog (.buildSlice 32 0 #[]) ty e bx F K:=LO.buildSlice (parts:=[]) (us:=[]) (cs:=[]) .nil (λ_=>by kernel_rfl) rfl qd h
def KnS.out{f:ng}(h:Ow.slice v el 1 (JQ n f)∈bx):KnS bx F v n:=KnS.o h (by rw[Qg,bP]) qd
def YO.ldOc{P:nh}{f:ng}(hs:Qk P t)(hx:ev e x=some (.pointer (some (eaddr v k))))(hb:Ow.slice v el 1 (JQ n f)∈bx)(hk:k<n):YO P (.load t x) ty e bx F (f k):=YO.ldO hs hx hb (QU hk)
def KnS.Yf{ms:ng}{xs:Nat->nd}(h:lO Qp v el n ms xs∈bx):KnS bx F v n:=KnS.lo h
def LO.bsS0{K:Qd}(h:∀v,K v (Ow.slice v 28 1 []::bx) F):LO prog (.buildSlice 25 0 #[]) ty e bx F K:=LO.buildSlice (parts:=[]) (us:=[]) (cs:=[]) .nil (λ_=>by kernel_rfl) rfl qd h
def YO.shlN{P:nh}{t':nl}{y:ni}{k':IntKind}{n:Nat}(hx:ev e x=some (nj 1))(hy:ev e y=some (.int k' (n:Int)))(h:n<=60):YO P (.binOp .shl t x y t') ty e bx F (nj ((2^n:Nat):Int)):=by
 have h1:2^n<=2^60:=aA qd h;have h2:(1:Int)*2^((n:Int)).toNat=((2^n:Nat):Int):=by rw[be,cO];simp
 have h3:∀N:Nat,N<=2^60->-9223372036854775808<=(N:Int)/\(N:Int)<=9223372036854775807:=λN hN=>by omega
 have:=YO.shl' (P:=P) (bx:=bx) (F:=F) (ty:=ty) (t:=t) (t':=t') hx hy qo qo (by rw[h2];exact(h3 _ h1).1) (by rw[h2];exact(h3 _ h1).2)
 rwa [h2] at this
def WX.QL{nn:Nat}{c:Code}{Q:Post}(el sz:Nat)(h:WX P nn c e (Ow.slice nz el sz []::bx) F Q):WX P nn c e bx F Q:=λfr Ds w0 a w hn hD hk hr ho=>h fr Ds w0 a w hn hD hk hr (ho.QL el sz)
def lO_snoc{M:Type}{α:Type}{S:Shp M α}{v:nA}{el:nl}{ms:Nat->M}{m:M}{C:List α}{s d:α}:lO S v el (C.length+1) (Qy ms C.length m) (Qy (λj=>C.getD j d) C.length s)=lO S v el (C++[s]).length (Qy ms C.length m) (λj=>(C++[s]).getD j d):=by
 rw[GD,List.length_append];rfl
def Kj{M:Type}{α:Type}{S:Shp M α}{ms:Nat->M}{m:M}{C:List α}{s d:α}(h:W.Has F (lM S C.length ms (λj=>C.getD j d)))(hm:W.Has F (S.fc m s)):W.Has F (lM S (C++[s]).length (Qy ms C.length m) (λj=>(C++[s]).getD j d)):=by
 rw[List.length_append,<-GD];exact h.mapp hm
def LO.bsSet{K:Qd}{s:nd}(hx:ev e x=some v)(hv:W.Has F (sI v s))(h:∀u,K u (Ow.slice u 28 1 [v]::bx) F):LO prog (.buildSlice 25 1 #[(0,x)]) ty e bx F K:=by
 refine LO.byP (p:=∃a c,v=.slice a s.length c) (λfr w' ho=>?_) ?_
 .obtain⟨a1,c1,h1,_⟩:=(KnS.f (bx:=bx) hv fr w' ho).is;exact⟨a1,c1,h1⟩
 rintro⟨a',c,rfl⟩;exact LO.buildSlice (el:=28) (sz:=1) (parts:=[(0,x)]) (us:=[.slice a' s.length c]) (cs:=[.slice a' s.length c]) (.cons hx .nil) (λ_=>by kernel_rfl) rfl qd h
def LO.appSet{K:Qd}{el':nl}{y:ni}{w u:nA}{C:List nd}{s:nd}{ms:ng}{bx2:nA->nw}(hx:ev e x=some v)(hy:ev e y=some u)(hu:Ow.slice u el' 1 [w]∈bx)(hw:W.Has F (sI w s))(hs:∀v',Sel bx (lO Qp v 28 C.length ms (sl C)) (lO Qp v' 28 (C++[s]).length (Qy ms C.length w) (sl (C++[s]))) (bx2 v'))(hl:C.length<=1000000)(h:∀v',K v' (bx2 v') F) :
  LO prog (.call {callee:=.builtin .append,args:=#[x,y],argTypes:=#[25,25]}) ty e bx F K:=
 LO.appL (S:=Qp) (ms:=ms) (xs:=sl C) (n:=C.length) (mm:=w) (aa:=s) T.e25 hx hy hu (.cons (One.sl (KnS.f hw)) .nil) (λv'=>by rw[lO_snoc];exact hs v') qd qd hl h
def lM_cat{M:Type}{α:Type}{S:Shp M α}{ms ms2:Nat->M}{C D:List α}{d:α}(h:W.Has F (lM S C.length ms (λj=>C.getD j d)))(h2:W.Has F (lM S D.length ms2 (λj=>D.getD j d))):W.Has F (lM S (C++D).length (Zs C.length ms ms2) (λj=>(C++D).getD j d)):=by
 rw[List.length_append,<-Hf];exact h.mcat2 h2
def one_s{ms:ng}{xs:Nat->nd}{j:Nat}(h:W.Has F (sI (ms j) (xs j))):QB bx F (Qp.cs (ms j) (xs j)):=.cons (One.sl (KnS.f h)) .nil
def LO.appSF{K:Qd}{y:ni}{u:nA}{C D:List nd}{cm dm:ng}{bx2:nA->nw}(hx:ev e x=some v)(hy:ev e y=some u)(hu:W.Has F (lF Qp u D.length dm (sl D)))
  (hs:∀v',Sel bx (lO Qp v 28 C.length cm (sl C)) (lO Qp v' 28 (C++D).length (Zs C.length cm dm) (sl (C++D))) (bx2 v')) (hl:C.length+D.length<=1000000) (h:∀v',K v' (bx2 v') F) :
  LO prog (.call {callee:=.builtin .append,args:=#[x,y],argTypes:=#[25,25]}) ty e bx F K:=
 LO.appLF (S:=Qp) (ms:=cm) (xs:=sl C) (n:=C.length) T.e25 hx hy hu (λj hj=>one_s (hu.lk hj)) (λv'=>by rw[Hf,<-List.length_append];exact hs v') qd qd hl h
def LO.appSF0{K:Qd}{y:ni}{u:nA}{D:List nd}{dm:ng}{bx2:nA->nw}(hx:ev e x=some v)(hy:ev e y=some u)(hu:W.Has F (lF Qp u D.length dm (sl D)))
  (hs:∀v',Sel bx (.slice v 28 1 []) (lO Qp v' 28 D.length dm (sl D)) (bx2 v')) (hl:D.length<=1000000) (h:∀v',K v' (bx2 v') F) :
  LO prog (.call {callee:=.builtin .append,args:=#[x,y],argTypes:=#[25,25]}) ty e bx F K:=by
 refine LO.byP (λfr w ho=>Df (S:=Qp) (λj hj=>one_s (hu.lk hj)) ho) λh1=>?_;exact LO.append T.e25 hx hy (cs:=[]) (news:=QG Qp D.length dm (sl D)) hs (Qo.fact hu.ls) h1 (by rw[Qg];show(0+D.length*1)*_<=_;omega) (by rw[Qg];show 0+D.length*1<=_;omega) h
def VS{y:ni}{w:nA}{m:Nat}(hx:ev e x=some v)(hy:ev e y=some w)(hv:KnS bx F v n)(hw:KnS bx F w m):YO prog (.build 35 #[(0,x),(2,y)]) ty e bx F (.agg #[v,nz,w]):=λk fr a w0 o h1 h2 h3 h4=>by
 obtain⟨a',c,rfl,_⟩:=(hv fr w0 h4).is;obtain⟨a'',c',rfl,_⟩:=(hw fr w0 h4).is;exact YO.build (parts:=[(0,x),(2,y)]) (us:=[.slice a' n c,.slice a'' m c']) (.cons hx (.cons hy .nil)) (λ_=>by kernel_rfl) k fr a w0 o h1 h2 h3 h4
end
namespace K
namespace Q
namespace Y
attribute [local irreducible] WC WL WD YO LO Qq W.Fin Qk Qh Qj Row QZ Qv KnS Has W.One Qo QX
def goE{G G':Prop}(h:G')(s:Bx G'->G:=by
 intro h
 (first|(apply WL.QS;exact wq147;exact rfl;exact rfl)|(apply WL.Xs;exact wq141;exact rfl;exact rfl)|(apply WL.Uj;exact wq152;exact rfl;exact rfl)|(apply WL.Jz;exact wq139;exact rfl;exact rfl)|(apply WL.YB;exact wq142;exact rfl;exact rfl)|(apply WL.XG;(first|(apply VS;exact rfl;exact rfl;exact knA;exact knA));exact rfl;exact rfl)|(apply WL.Uq;exact wq156;exact rfl;exact rfl)|(apply WL.KF;(apply YO.GX;exact T.u85;exact T.u3;exact rfl;omega;omega);exact rfl;exact rfl)|(apply WL.Ho;(apply YO.shlN;exact rfl;exact rfl;omega);exact rfl;exact rfl)|(apply WL.Q4;rotate_left;exact rfl;(first|(apply LO.Xu;exact rfl;exact rfl;(first|exact T.z25);exact wq5;exact seA;exact wq12;exact wq10)|(apply LO.J3;exact rfl;exact rfl;exact wq71;exact seA;exact rfl;exact wq136)|fail))|(apply WD.QS;exact rfl;exact wq147;exact rfl;exact rfl)|(apply WD.Xs;exact rfl;exact wq141;exact rfl;exact rfl)|(apply WD.Uj;exact rfl;exact wq152;exact rfl;exact rfl)|(apply WD.Jz;exact rfl;exact wq139;exact rfl;exact rfl)|(apply WD.YB;exact rfl;exact wq142;exact rfl;exact rfl)|(apply WD.XG;exact rfl;(first|(apply VS;exact rfl;exact rfl;exact knA;exact knA));exact rfl;exact rfl)|(apply WD.Uq;exact rfl;exact wq156;exact rfl;exact rfl)|(apply WD.KF;exact rfl;(apply YO.GX;exact T.u85;exact T.u3;exact rfl;omega;omega);exact rfl;exact rfl)|(apply WD.Ho;exact rfl;(apply YO.shlN;exact rfl;exact rfl;omega);exact rfl;exact rfl)|(apply WD.Q4;exact rfl;rotate_left;exact rfl;(first|(apply LO.Xu;exact rfl;exact rfl;(first|exact T.z25);exact wq5;exact seA;exact wq12;exact wq10)|(apply LO.J3;exact rfl;exact rfl;exact wq71;exact seA;exact rfl;exact wq136)|fail);constructor;(first|exact wq1|(apply Or.inl;kernel_rfl)))|((first|(apply LO.Xu;exact rfl;exact rfl;(first|exact T.z25);exact wq5;exact seA;exact wq12;exact wq10)|(apply LO.J3;exact rfl;exact rfl;exact wq71;exact seA;exact rfl;exact wq136)|fail);constructor;(first|exact wq1|(apply Or.inl;kernel_rfl)))|refine Go.Proofs.YtbnobghgnbockaaGreat.K.Q.goE ?_|fail)
 exact Bx.h h):G:=s ⟨h⟩
def QT{G G':Prop}(h:G')(s:Bx G'->G:=by
 intro h
 (first|(apply WL.JS;rotate_left;exact rfl;exact rfl;apply LO.J6;(first|exact T.al25|exact T.al42|exact T.al35|fail))|(apply WD.JS;exact rfl;rotate_left;exact rfl;exact rfl;apply LO.J6;(first|exact T.al25|exact T.al42|exact T.al35|fail);apply Qn;(intro _;(first|exact wq1|(apply Or.inl;kernel_rfl))))|(apply LO.J6;(first|exact T.al25|exact T.al42|exact T.al35|fail);apply Qn;(intro _;(first|exact wq1|(apply Or.inl;kernel_rfl))))|refine Go.Proofs.YtbnobghgnbockaaGreat.K.Q.QT ?_|fail)
 exact Bx.h h):G:=s ⟨h⟩
def goEV{G G':Prop}(h:G')(s:Bx G'->G:=by
 intro h
 (first|(apply WL.Jn;rotate_left;exact rfl;exact rfl;(first|(apply LO.appSet;exact rfl;exact rfl;exact meA;exact hmA;(intro _;exact seA);omega)|(apply LO.appTL;exact rfl;exact rfl;exact hmA;(intro _;exact seA);omega)|(apply LO.appTL0;exact rfl;exact rfl;exact hmA;(intro _;exact seA);omega)|(apply LO.appSF;exact rfl;exact rfl;exact hmA;(intro _;exact seA);omega)|(apply LO.appSF0;exact rfl;exact rfl;exact hmA;(intro _;exact seA);omega)|fail))|(apply WD.Jn;exact rfl;rotate_left;exact rfl;exact rfl;(first|(apply LO.appSet;exact rfl;exact rfl;exact meA;exact hmA;(intro _;exact seA);omega)|(apply LO.appTL;exact rfl;exact rfl;exact hmA;(intro _;exact seA);omega)|(apply LO.appTL0;exact rfl;exact rfl;exact hmA;(intro _;exact seA);omega)|(apply LO.appSF;exact rfl;exact rfl;exact hmA;(intro _;exact seA);omega)|(apply LO.appSF0;exact rfl;exact rfl;exact hmA;(intro _;exact seA);omega)|fail);apply Qn;(intro _;(first|exact wq1|(apply Or.inl;kernel_rfl))))|((first|(apply LO.appSet;exact rfl;exact rfl;exact meA;exact hmA;(intro _;exact seA);omega)|(apply LO.appTL;exact rfl;exact rfl;exact hmA;(intro _;exact seA);omega)|(apply LO.appTL0;exact rfl;exact rfl;exact hmA;(intro _;exact seA);omega)|(apply LO.appSF;exact rfl;exact rfl;exact hmA;(intro _;exact seA);omega)|(apply LO.appSF0;exact rfl;exact rfl;exact hmA;(intro _;exact seA);omega)|fail);apply Qn;(intro _;(first|exact wq1|(apply Or.inl;kernel_rfl))))|(apply WL.JW;rotate_left;exact rfl;exact rfl;(apply LO.bsSet;exact rfl;exact hmA))|(apply WD.JW;exact rfl;rotate_left;exact rfl;exact rfl;(apply LO.bsSet;exact rfl;exact hmA);apply Qn;(intro _;(first|exact wq1|(apply Or.inl;kernel_rfl))))|((apply LO.bsSet;exact rfl;exact hmA);apply Qn;(intro _;(first|exact wq1|(apply Or.inl;kernel_rfl))))|(apply WL.JW;rotate_left;exact rfl;exact rfl;apply LO.bsT0)|(apply WD.JW;exact rfl;rotate_left;exact rfl;exact rfl;apply LO.bsT0;apply Qn;(intro _;(first|exact wq1|(apply Or.inl;kernel_rfl))))|(apply LO.bsT0;apply Qn;(intro _;(first|exact wq1|(apply Or.inl;kernel_rfl))))|(apply WL.JW;rotate_left;exact rfl;exact rfl;apply LO.bsS0)|(apply WD.JW;exact rfl;rotate_left;exact rfl;exact rfl;apply LO.bsS0;apply Qn;(intro _;(first|exact wq1|(apply Or.inl;kernel_rfl))))|(apply LO.bsS0;apply Qn;(intro _;(first|exact wq1|(apply Or.inl;kernel_rfl))))|refine Go.Proofs.YtbnobghgnbockaaGreat.K.Q.goEV ?_|fail)
 exact Bx.h h):G:=s ⟨h⟩
end Y
end Q
end K
namespace K
namespace Q
namespace Y
attribute [local irreducible] WC WL WD YO LO Qq W.Fin Qk Qh Qj Row QZ Qv KnS Has W.One Qo QX
attribute [local irreducible] WX V6
def sets_c(n most:Int)(hn:I64 n)(hm:I64 most):FnB prog 11 [nj n,nj most] [] [] (IsSets (Fx.Jm n most)):=by
 obtain⟨hn1,hn2⟩:=hn;obtain⟨hm1,hm2⟩:=hm;refine FR [(0,(nj n)),(1,(nj most))] 30 Tryz.func11 rfl Tryz.ntmps11 kr rfl suA λh0=>?_;by_cases h:n<0\/8<n
 .have hz:Fx.Jm n most=[]:=ah qo;rw[hz];refine WX.of ?_;refine WC.QL 28 1 ?_;rcases h with h|h
  .refine gPr ?_;exact wq75
  .refine gPr ?_;exact wq75
 obtain⟨N,rfl⟩:∃N:Nat,n=(N:Int):=⟨n.toNat,by omega⟩
 have hN:N<=8:=qo;obtain⟨M,hM⟩:∃M:Nat,(M:Int)=max 0 (min (N:Int) most+1):=⟨(max 0 (min (N:Int) most+1)).toNat,by omega⟩
 rw[Fx.sets_K hN hM];repeat refine WX.seq ?_
 refine WX.region ?_;refine gPr ?_;repeat refine WX.seq ?_
 refine WX.region ?_;refine gPr ?_;repeat refine WX.seq ?_
 refine WX.cond (b:=false) rfl ?_;rw[ae qd];refine WX.skip ?_;repeat refine WX.seq ?_
 refine WX.region ?_;refine gPr ?_;intro g;revert g;intro g5;repeat refine WX.seq ?_
 refine WX.region ?_;refine gPr ?_;refine WX.QL 28 1 ?_;repeat refine WX.seq ?_
 refine WX.block ?_;refine WX.loop (σ:=Nat×nA×ng) (λst=>[(6,nj (st.1:Int)),(5,ptr g5),(0,nj N),(1,nj most)]) (λst=>[lO Qp st.2.1 28 (Fx.XZ N st.1).length st.2.2 (sl (Fx.XZ N st.1)),Ow.cells g5 25 [st.2.1]]) (λst=>[lM Qp (Fx.XZ N st.1).length st.2.2 (sl (Fx.XZ N st.1)),ge h0]) (λst=>st.1<=M) (λst=>M-st.1) ?_ (0,nz,λ_=>nz) (aj _) suA slA (.cons W.Has.Uy (.cons hmA .nil));rintro⟨k,v,ms⟩ hk;simp only at hk ⊢;have hsl:=Fx.HS N k;repeat refine WX.seq ?_
 refine WX.region ?_;by_cases d:k<M
 .refine gPr ?_;repeat refine WX.seq ?_
  refine WX.cond (b:=true) rfl ?_;rw[ah rfl];refine WX.skip ?_;repeat refine WX.seq ?_
  refine WX.block ?_;repeat refine WX.seq ?_
  refine WX.region ?_;refine gPr ?_;refine WL.Jj (Z.chosen_c N k) ?_;rintro _ _ _ ⟨gm,gn,rfl,rfl,rfl⟩;refine gPs ?_;repeat refine WX.block ?_
  refine WX.range (λbx' G=>∃v' ms',bx'=[Ow.cells gm 3 [nj k],Ow.cells gn 3 [nj N],lO Qp v' 28 (Fx.XZ N k++Fx.chs N k).length ms' (sl (Fx.XZ N k++Fx.chs N k)),Ow.cells g5 25 [v']]/\G=[lM Qp (Fx.XZ N k++Fx.chs N k).length ms' (sl (Fx.XZ N k++Fx.chs N k))]) (λ_ _ _=>False) rfl ?seq ?done ?stop
  case seq=>
   intro l rec hkn hrs1 hrs2 hrs3 hrs4 hrs5;refine Z.chosen1_c l rec g5 gn gm N k hN qo h0 v ms (Fx.XZ N k) qo λv ms C u s hC=>?_;refine yieldC_of hkn hrs1 hrs2 hrs3 hrs4 rfl rfl λh1=>?_;rw[hrs5];refine gPr ?_;intro v v;exact⟨_,[_],slA,hmA,W.Qz.all (.cons (Kj (S:=Qp) (m:=u) (s:=s) (ms:=ms) hmA hmA) .nil),_,_,rfl,rfl⟩
  case done=>
   rintro _ _ ⟨v',ms',rfl,rfl⟩;repeat refine WX.seq ?_
   refine WX.region ?_;refine gPr ?_;exact⟨(k+1,v',ms'),⟨by simp only;omega,by simp only;omega⟩,suA,slA,sfA⟩
  case stop=>
   rintro _ _ _ h;exact h.elim
 .obtain rfl:k=M:=qo;refine gPr ?_;repeat refine WX.seq ?_
  refine WX.cond (b:=false) rfl ?_;rw[ae qd];refine WX.exit ?_;repeat refine WX.seq ?_
  refine WX.region ?_;refine gPr ?_;refine WX.ret ?_;exact Fin.p [_] [_] (Qf.t1 rfl rfl) meA slA sfA ⟨ms,rfl,rfl⟩
end Y
end Q
end K
end Go.Proofs.YtbnobghgnbockaaGreat
